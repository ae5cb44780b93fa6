/- The row. No condition. -/
import Derived.Test.YtndaghjcdacjgaaGreatDoorRA
import Derived.DeepKeys4
namespace Go.V
open Go Go.Proofs
set_option maxRecDepth 100000
set_option linter.unusedSimpArgs false
set_option linter.unusedVariables false
attribute [local go_sem] aPickB.eq_1 aPickB.eq_2 aPick.eq_1 aBox.eq_1 aBox.eq_2 aAlloc.eq_1 aAlloc.eq_2 aLoadB.eq_1 aLoadB.eq_2 aLoadB.eq_3 aLoadB.eq_4 aLoadB.eq_5 aLoadA.eq_1 aLoadA.eq_2 aLoadA.eq_3 aLoadA.eq_4 aLoadA.eq_5 aLoadP.eq_1 aLoadP.eq_2 aLoadP.eq_3 aLoad.eq_1 aLoad.eq_2 aFAx.eq_1 aFAx.eq_2 aFAx.eq_3 aFA.eq_1 aFA.eq_2 aFx.eq_1 aF.eq_1 aF.eq_2 fld.eq_1 elT.eq_1 aIdxH.eq_1 aIdxH.eq_2 aIdxH.eq_3 aIdxH.eq_4 aIdxH.eq_5 aIdxP.eq_1 aIdxP.eq_2 aIndexAddr.eq_1 aIndexAddr.eq_2 aIndexAddr.eq_3 isStr.eq_1 aIndex.eq_1 aSlStr.eq_1 aSlRo.eq_1 aSlZ.eq_1 aSlZ.eq_2 aSlice.eq_1 aSlice.eq_2 aSlice.eq_3 bnd.eq_1 bnd.eq_2 aBuildO.eq_1 aBuildO.eq_2 aBuild.eq_1 aNewArr.eq_1 aNewArr.eq_2 aBS.eq_1 aBS.eq_2 aBuildSlice.eq_1 aBuildSlice.eq_2 aMakeSlice.eq_1 appDeep.eq_1 aApp2.eq_1 aAppend.eq_1 aAppend.eq_2 aStoreB.eq_1 aStoreA.eq_1 obFlat.eq_1 aStore2.eq_1 aStore2.eq_2 aStoreP.eq_1 aStoreP.eq_2 aStore.eq_1 aStore.eq_2 isShl.eq_1 isShl.eq_2 isBool.eq_1 aBinI.eq_1 aBinI.eq_2 aBinB.eq_1 aBinB.eq_2 aEq.eq_1 aEq.eq_2 aEq.eq_3 aEq.eq_4 aEqG.eq_1 aEqG.eq_2 aBin.eq_1 aBin.eq_2 aBin.eq_3 aBin.eq_4 aUn.eq_1 aUn.eq_2 aLenO.eq_1 aLenS.eq_1 aLenS.eq_2 aLenS.eq_3 aLenT.eq_1 aLen.eq_1 aLen.eq_2 aLen.eq_3 bytesOb.eq_1 bytesOb.eq_2 bytesOf.eq_1 bytesOf.eq_2 aNums.eq_1 aNums.eq_2 isU8.eq_1 aCvI.eq_1 aCvS.eq_1 aCvB.eq_1 aCvB.eq_2 aCvT.eq_1 aConv.eq_1 aConv.eq_2 aConv.eq_3 aConv.eq_4 aExO.eq_1 aExO.eq_2 aExtract.eq_1 aNil.eq_1 aNil.eq_2 aNil.eq_3 aCallS.eq_1 aCallS.eq_2 aCallR.eq_1 aCallR.eq_2 aCallK.eq_1 aCallK.eq_2 aCallK.eq_3 aCall.eq_1 aCall.eq_2 takeO.eq_1 AS.takeV.eq_1 AS.takeV.eq_2 AS.takeV.eq_3 AS.takeV.eq_4 AS.takeV.eq_5 AS.takeV.eq_6 AS.takeV.eq_7 AV.oldM.eq_1 AV.oldM.eq_2 AV.oldM.eq_3 AV.oldM.eq_4 AV.oldM.eq_5 AV.oldM.eq_6 AV.oldM.eq_7 AV.oldM.eq_8 AV.oldM.eq_9 AV.oldM.eq_10 AV.oldM.eq_11 AV.oldML.eq_1 AV.oldML.eq_2 subL.eq_1 subL.eq_2 back.eq_1 back.eq_2 back.eq_3 back.eq_4 backL.eq_1 backI.eq_1 backI.eq_2 backI.eq_3 backI.eq_4 backIL.eq_1 aBuiltin.eq_1 aBuiltin.eq_2 aBuiltin.eq_3 aCallee.eq_1 aCallee.eq_2 aCallee.eq_3 abin.eq_1 abin.eq_2 abin.eq_3 abin.eq_4 abin.eq_5 abin.eq_6 abin.eq_7 abin.eq_8 abin.eq_9 abin.eq_10 abin.eq_11 abin.eq_12 abin.eq_13 abin.eq_14 abin.eq_15 abin.eq_17 abin.eq_18 abin.eq_19 abin.eq_20 abin.eq_21 abin.eq_22 abin.eq_23 AS.ev.eq_1 AS.ev.eq_2 AS.ev.eq_3 AS.ev.eq_4 AS.evs.eq_1 AS.evs.eq_2 AS.evp.eq_1 AS.evp.eq_2 AS.put.eq_1 AS.put.eq_2 AS.remL.eq_1 AS.remL.eq_2 AV.has.eq_1 AV.has.eq_2 AV.has.eq_3 AV.has.eq_4 AV.has.eq_5 AV.has.eq_6 AV.has.eq_7 AV.has.eq_8 AV.has.eq_9 AV.has.eq_10 AV.has.eq_11 AV.hasL.eq_1 AV.hasL.eq_2 Ob.drop.eq_1 Ob.drop.eq_2 Ob.drop.eq_3 Ob.drop.eq_4 AV.cells.eq_1 AV.cells.eq_2 AV.cells.eq_3 AV.cells.eq_4 AV.cells.eq_5 AS.snapT.eq_1 AS.snapT.eq_2 AS.snapT.eq_3 AS.snapT.eq_4 AS.snapT.eq_5 AS.snapT.eq_6 AS.snapT.eq_7 AS.snap.eq_1 AS.snap.eq_2 mapO.eq_1 mapO.eq_2 intern.eq_1 intern.eq_2 intern.eq_3 intern.eq_4 intern.eq_5 intern.eq_6 intern.eq_7 intern.eq_8 intern.eq_9 intern.eq_10 intern.eq_11 internL.eq_1 internL.eq_2 zipSl.eq_1 zipSl.eq_2 AV.ids.eq_1 AV.ids.eq_2 AV.ids.eq_3 AV.ids.eq_4 AV.ids.eq_5 AV.ids.eq_6 AV.ids.eq_7 AV.ids.eq_8 AV.ids.eq_9 AV.ids.eq_10 AV.ids.eq_11 AV.idsL.eq_1 AV.idsL.eq_2 AV.sub.eq_1 AV.sub.eq_2 AV.sub.eq_3 AV.sub.eq_4 AV.sub.eq_5 AV.sub.eq_6 AV.sub.eq_7 AV.sub.eq_8 AV.sub.eq_9 AV.sub.eq_10 AV.sub.eq_11 AV.subL.eq_1 AV.subL.eq_2 AS.frzL.eq_1 AS.frzL.eq_2 AS.absT.eq_1 AS.absT.eq_2 AS.absT.eq_4 AS.absL.eq_1 AS.absL.eq_2 AS.absOk.eq_1 AS.absOkL.eq_1 AS.absOkL.eq_2 hid.eq_1 hids.eq_1 hids.eq_2 AS.appBase.eq_1 AS.appBase.eq_2 AS.appSrc.eq_1 appFits.eq_1 appFits.eq_2 appFits.eq_3 avFill.eq_1 avFill.eq_2 avc.eq_1 avc.eq_2 avc1.eq_1 Kd.agg.eq_1 Kd.agg.eq_2 okR.eq_1 okR.eq_2 okR.eq_3 okR.eq_4 okR.eq_5 okR.eq_6 okR.eq_7 okR.eq_8 zt.eq_1 rvB.eq_1 rvP.eq_1 rvA.eq_1 rvA.eq_2 rv1.eq_1 outTO.eq_1 outT.eq_1 outT.eq_2 outT.eq_3 outTn.eq_1 outOO.eq_1 outO.eq_1 outO.eq_2 boxOf.eq_1 outP.eq_1 outP.eq_2 outP.eq_3 outP.eq_4 outP.eq_5 outP.eq_6 outP.eq_7 outP.eq_8 outPL.eq_1 outPL.eq_2 outI.eq_1 outI.eq_2 outI.eq_3 outI.eq_4 outI.eq_5 outIL.eq_1 outZ.eq_1 outZ.eq_2 outZ.eq_3 outZ.eq_4 outZ.eq_5 outZL.eq_1 finO.eq_1 finO.eq_2 fin.eq_1 fin.eq_2 fin.eq_3 cellAV.eq_1 cellAV.eq_2 numsOf.eq_1 numsOf.eq_2 aop.eq_1 aop.eq_2 aop.eq_3 aop.eq_4 aop.eq_5 aop.eq_6 aop.eq_7 aop.eq_8 aop.eq_9 aop.eq_10 aop.eq_11 aop.eq_12 aop.eq_13 aop.eq_14 aop.eq_15 aop.eq_16 aop.eq_17 aop.eq_18 aop.eq_19 aop.eq_20 aop.eq_21 aop.eq_22 aop.eq_23 aop.eq_24 aop.eq_25 aop.eq_26 tmpsOf.eq_1 tmpsOf.eq_2 tmpsOf.eq_3 tmpsOf.eq_4 tmpsOf.eq_5 AV.refs.eq_1 AV.refs.eq_2 AV.refs.eq_3 AV.refs.eq_4 AV.refs.eq_5 AV.refs.eq_6 AV.refs.eq_7 AV.refs.eq_8 AV.refs.eq_9 AV.refs.eq_10 AV.refs.eq_11 AV.refsL.eq_1 AV.refsL.eq_2 refsT.eq_1 refsT.eq_2 refsO.eq_1 refsO.eq_2 refsO.eq_3 refsO.eq_4 refsO.eq_5 refsO.eq_6 refsB.eq_1 refsB.eq_2 clos.eq_1 clos.eq_2 keepL.eq_1 keepL.eq_2 AV.hasM.eq_1 AV.hasM.eq_2 AV.hasM.eq_3 AV.hasM.eq_4 AV.hasM.eq_5 AV.hasM.eq_6 AV.hasM.eq_7 AV.hasM.eq_8 AV.hasM.eq_9 AV.hasM.eq_10 AV.hasM.eq_11 AV.hasML.eq_1 AV.hasML.eq_2 Ob.dropM.eq_1 Ob.dropM.eq_2 Ob.dropM.eq_3 Ob.dropM.eq_4 nsC.eq_1 nsC.eq_2 okGuard.eq_1 okGuard.eq_2 AS.purges.eq_1 AS.purges.eq_2 dropMB.eq_1 dropMB.eq_2 newB.eq_1 newB.eq_2 ptB.eq_1 ptB.eq_2 lookC.eq_1 lookC.eq_2 dropB.eq_1 dropB.eq_2 leS.eq_1 leS.eq_2 leT.eq_1 leT.eq_2 AS.mvs.eq_1 AS.mvs.eq_2 AS.mvA.eq_1 AS.mvA.eq_2 AS.mvB.eq_1 aSetO.eq_1 aSetO.eq_2 aSh.eq_1 aSh.eq_2 arK.eq_1 aIdxA.eq_1 aIdxA.eq_2 arT.eq_1 aSlHB.eq_1 aSlHB.eq_2 aSlHO.eq_1 aSlHZ.eq_1 aSlHZ.eq_2 isSlT.eq_1 isNilC.eq_1 aNilO.eq_1 aNilX.eq_1 aNilX.eq_2 aNilX.eq_3 aNilC.eq_1 aNilC.eq_2 aBinQ.eq_1 aBinQ.eq_2 aMin.eq_1 flT.eq_1 flT.eq_2 mpT.eq_1 aMkMap.eq_1 aMkMap.eq_2 strA.eq_1 keyMK.eq_1 keyMK.eq_2 mkB.eq_1 mkB.eq_2 aMp2.eq_1 aMp1.eq_1 aMp0.eq_1 aMapU.eq_1 aLk2.eq_1 aLk2.eq_2 aLk1.eq_1 aLk0.eq_1 aLookup.eq_1 aLenMO.eq_1 aLenM.eq_1 glV.eq_1 glV.eq_2 evG.eq_1 evG.eq_2 evG.eq_3 evG.eq_4 lkHitO.eq_1 lkHitO.eq_2 lkHitO.eq_3 lkHitO.eq_4 lkHit.eq_1 lkHit.eq_2 lkF.eq_1 lkF.eq_2 lkFind.eq_1 lkFind.eq_2 lkV.eq_1 lkV.eq_2 lkV.eq_3 lkV.eq_4 lkV.eq_5 AS.lkO.eq_1 AS.lkO.eq_2 AS.lkOf.eq_1 rawT.eq_1 rawT.eq_2 rawT.eq_3 rawT.eq_4 rawT.eq_5 rawT.eq_6 rawOf.eq_1 rawOf.eq_2 rawOf.eq_3 rawOf.eq_4 rawOf.eq_5 rawOf.eq_6 rawOf.eq_7 rawOf.eq_8 rawOf.eq_9 rawOf.eq_10 rawOf.eq_11 aLkR.eq_1 aLkR.eq_2 aLk.eq_1 aLk.eq_2 KL.eq_1 lkDrop.eq_1 lkDrop.eq_2 lkParO.eq_1 lkParO.eq_2 lkParO.eq_3 lkParO.eq_4 lkPar.eq_1 lkPar.eq_2 lkI.eq_1 lkI.eq_2 lkIds.eq_1 lkIds.eq_2 adLd.eq_1 run_nil run_b run_l run_skip run_label run_seq run_cond brV_b brB_t brB_f run_block run_exit run_ret run_region runX_nil runX_c runX_c' runX_b runX_b' runX_l runX_l' exB_t exB_f run_o run_op run_opg gV_b gV_t gB_tt gB_ff gB_tf gB_ft rs_eq kv KI aLenN aBS1 aApp1 aStore1 szOk gv gd s0 idOf look_cons lookC frzU_t frzU_f orT orF drop_any drop_nil drop_t drop_h drop_pb drop_pa drop_agg drop_tup drop_fn dropB kill_eq set_eq rem_eq re_eq up_eq get_eq ob_eq Ob.drop apl fpl plainTy AS.frz splice cond_true cond_false List.map_cons List.map_nil List.drop_zero List.drop_succ_cons List.drop_nil List.take_zero List.take_succ_cons List.take_nil List.getElem?_cons_zero List.getElem?_cons_succ List.getElem?_nil List.length_cons List.length_nil Option.map_some Option.map_none Option.bind_some Option.bind_none List.cons_append List.nil_append List.append_nil Option.getD_some Option.getD_none List.all_cons List.all_nil Bool.and_true Bool.true_and Bool.or_false Bool.false_or Bool.or_true Bool.true_or List.flatten_cons List.flatten_nil List.replicate_succ List.replicate_zero and_true true_and avOf_t avOf_f agg_bool agg_int agg_str agg_slice agg_struct agg_func agg_ptr agg_map avc_bool avc_int avc_str avc_fn avc1_bool avc1_int avc1_str avc1_fn zt_bool zt_int zt_str cells_nil cells_t cells_h cells_pb cells_fn snap_t snap_nil snap_h snap_pb snap_fn rv1_one rv1_two outI_t outI_oh outI_on outI_any outI_nil outZ_th outZ_tt outZ_tn outZ_o outZ_any outZ_nil outIL_nil outZL_nil finN finR ne_eq not_false_eq_true not_true_eq_false List.nodup_nil List.not_mem_nil false_implies implies_true eq_self true_or or_true Option.some.injEq shl_add shl_sub shl_mul shl_quo shl_rem shl_and shl_or shl_xor shl_andNot shl_eql shl_neq shl_lss shl_leq shl_gtr shl_geq shl_shr shl_shl appDeep_none appDeep_sn appSrc_h appSrc_nil fits_ft fits_tn fits_tf isStr_slice obFlat_box Nat.le_refl nbeq_self List.length_map updZ_s updZ_n dropM_eq purge_eq newIds_cons newIds_nil purgeT_nil purgeT_cons memN_cons memN_nil bd_d bd_c bd_g bd_p bd_t bd_o preds_nil preds_cons hasIns insB List.any_cons List.any_nil adK_eq adr_nil adG_eq kdOp noLen creates Op.operands Call.operands nsOf adT adI adJ plainB rst List.append_eq nsD_f nsD_n nsD_t nOf_0 nOf_1 nOf_2 chO_0 chO_1 chO_2 keepK_0 keepK_1 keepK_2 eqRes AS.mv fits KM aCallM notNew kdCall arK_i64 arK_i32 arK_u8 arK_u64 arT_sl isNilC_t isNilC_f isNilC_g isNilC_i isNilC_b isNilC_s isNilC_a isNilC_n andBF andBT aCallK_2 ble_dec hid_t hid_nil hid_any hid_pb hid_fn absOk_t absOk_nil absOk_pb absOk_h absOkO_1 decide_true decide_false Array.toList_append chunk_0 chunk_1 chunk_2 chunk_3 back_t back_nil back_ht backL_nil backI_t backI_nil backI_ht backIL_nil AS.mvJ nbeq_dec runR_f runR_t loadB Option.isSome_some Option.isSome_none nodup1 adr_none adr_some adO_s adV_b adV_t adB_tt adB_ff adB_tf adB_ft adS_eq lenL.eq_1 lenO.eq_1 lenO.eq_2 lenV.eq_1 lenV.eq_2 lenV.eq_3 lenV.eq_4 optN optS absT_ft
attribute [local go_sem] ty3 ty4 ty5 ty9 ty21 ty22 ty23 ty25 ty27 ty28 ty29 ty31 ty33 ty43 ty45 ty46 ty47 ty49 ty60 ty75 ty77 ty93 ty104 ty119 ty121 ty135 ty157 ty170 ty175 lv27 lv93 zb4 leS leT fits AS.mvs encStr_eq aIdx_str EStr_dec decStrs decStrs0 EStr_enc EStr_n encInt_eq aIdx_int EInt_dec decInts decInts0 EInt_enc EInt_n AllV_Int len_Int lc_enc l0_enc asl_enc ag_enc aow_enc ABool_enc AInt_enc AStr_enc AU8_enc ABool_dec AInt_dec AStr_dec AU8_dec asl_dec ag_dec aow_dec bind_some pr2.eq_1 l0_nil lc_cons unT.eq_1 K0.eq_1 M0.eq_1 KI AllV_Str len_Str ctR_eq ctM_eq ro_kd ro_ro mu_kd mu_mu encAd_eq aIdx_Ad EAd_dec decAds decAds0 EAd_enc EAd_n len_Ad Ad_eta AllV_Ad encMl_eq aIdx_Ml EMl_dec decMls decMls0 EMl_enc EMl_n len_Ml Ml_eta mkMl.eq_1 owMl_eq AMl_enc AMl_dec encRc_eq aIdx_Rc ERc_dec decRcs decRcs0 ERc_enc ERc_n len_Rc Rc_eta AllV_Rc encIm_eq aIdx_Im EIm_dec decIms decIms0 EIm_enc EIm_n len_Im Im_eta mkIm.eq_1 owIm_eq AIm_enc AIm_dec encSp_eq aIdx_Sp ESp_dec decSps decSps0 ESp_enc ESp_n len_Sp Sp_eta mkSp.eq_1 owSp_eq ASp_enc ASp_dec encNt_eq aIdx_Nt ENt_dec decNts decNts0 ENt_enc ENt_n len_Nt Nt_eta mkNt.eq_1 owNt_eq ANt_enc ANt_dec

section
open Go.Lib
theorem eq_of_beqL {a b : ByteArray} (h : (a.toList == b.toList) = true) : a = b := by
  by_cases e : a = b
  · exact e
  · rw [beq_of_ne e] at h; cases h
def spA (c : UInt8) : List UInt8 → List (List UInt8)
  | [] => [[]]
  | x :: r => if x = c then [] :: spA c r else match spA c r with | h :: t => (x :: h) :: t | [] => [[x]]
def spl (s : ByteArray) (c : UInt8) : List ByteArray := (spA c (bl s)).map mB
theorem spA_len (c : UInt8) : ∀ l : List UInt8, (spA c l).length = l.count c + 1
  | [] => rfl
  | x :: r => by
    have h := spA_len c r
    rw [spA]
    by_cases e : x = c
    · rw [if_pos e, e, List.count_cons_self]; simp [h]
    · rw [if_neg e, List.count_cons_of_ne e]
      cases hs : spA c r with
      | nil => rw [hs] at h; simp at h
      | cons a t => rw [hs] at h; simp at h ⊢; exact h
theorem spA_none {c : UInt8} : ∀ {l : List UInt8}, (∀ j : Nat, l[j]? ≠ some c) → spA c l = [l]
  | [], _ => rfl
  | x :: r, h => by
    rw [spA, if_neg (fun e => h 0 (by rw [e]; rfl)), spA_none (fun j => h (j + 1))]
theorem spA_first {c : UInt8} : ∀ (o : Nat) (l : List UInt8), l[o]? = some c → (∀ k : Nat, k < o → l[k]? ≠ some c) → spA c l = l.take o :: spA c (l.drop (o + 1))
  | 0, l, h, _ => by
    cases l with
    | nil => cases h
    | cons x r => simp at h; rw [spA, if_pos h]; rfl
  | o + 1, l, h, hk => by
    cases l with
    | nil => cases h
    | cons x r =>
      rw [spA, if_neg (fun e => hk 0 (by omega) (by rw [e]; rfl)), spA_first o r h (fun k q => hk (k + 1) (by omega))]
      rfl
theorem splitN_spA {c : UInt8} : ∀ (l : List UInt8) (m : Nat), (splitN c m l).length ≤ m ∨ (spA c l).length ≤ m → splitN c m l = spA c l
  | l, 0, h => by
    have := spA_len c l
    rw [splitN] at h
    rcases h with h | h
    · exact absurd h (by simp)
    · omega
  | [], m + 1, _ => by rw [splitN, spA]
  | x :: r, m + 1, h => by
    rw [splitN, spA] at h ⊢
    by_cases e : x = c
    · rw [if_pos e, if_pos e] at h ⊢
      rw [splitN_spA r m (by simp at h; exact h)]
    · rw [if_neg e, if_neg e] at h ⊢
      have h2 : (splitN c (m + 1) r).length ≤ m + 1 ∨ (spA c r).length ≤ m + 1 := by
        rcases h with h | h
        · cases hs : splitN c (m + 1) r with
          | nil => exact .inl (by simp)
          | cons a t => rw [hs] at h; exact .inl (by simpa using h)
        · cases hs : spA c r with
          | nil => exact .inr (by simp)
          | cons a t => rw [hs] at h; exact .inr (by simpa using h)
      rw [splitN_spA r (m + 1) h2]
      all_goals (cases spA c r <;> rfl)
theorem Dom_spl (s : ByteArray) : Dom s ↔ (∀ w ∈ spl s 46, Lbl w) ∧ (spl s 46).length ≤ 3 := by
  unfold Dom cutL spl
  constructor
  · rintro ⟨h1, h2⟩
    rw [List.length_map] at h2
    rw [splitN_spA _ _ (.inl h2)] at h1 h2
    exact ⟨h1, by rw [List.length_map]; exact h2⟩
  · rintro ⟨h1, h2⟩
    rw [List.length_map] at h2
    rw [← splitN_spA _ _ (.inr h2)] at h1 h2
    exact ⟨h1, by rw [List.length_map]; exact h2⟩
theorem indexByte_none : ∀ {l : List UInt8} {c : UInt8}, indexByte l c = -1 → ∀ j : Nat, l[j]? ≠ some c
  | [], c, _, j => by simp
  | b :: l, c, h, j => by
    have hge := indexByte_ge l c
    unfold indexByte at h
    by_cases e : b = c
    · rw [if_pos (by simp [e])] at h; cases h
    · rw [if_neg (by simp [e])] at h
      by_cases e2 : indexByte l c = -1
      · cases j with
        | zero => simp [e]
        | succ j => exact indexByte_none e2 j
      · rw [if_neg (by simp [e2])] at h; omega
theorem spl_none {s sep : ByteArray} (h1 : sep.size = 1) (h : indexB s sep = -1) : spl s (UInt8.ofNat (byteAt sep 0).toNat) = [s] := by
  rw [← ix_one h1] at h
  unfold spl
  rw [spA_none (indexByte_none h)]
  rfl
theorem spl_some {s sep : ByteArray} (h1 : sep.size = 1) {o : Nat} (h : indexB s sep = o) : o < s.size ∧ spl s (UInt8.ofNat (byteAt sep 0).toNat) = s.extract 0 o :: spl (s.extract (o + 1) s.size) (UInt8.ofNat (byteAt sep 0).toNat) := by
  rw [← ix_one h1] at h
  obtain ⟨ha, hb⟩ := indexByte_some h
  refine ⟨(List.getElem?_eq_some_iff.1 ha).1, ?_⟩
  unfold spl
  rw [spA_first o _ ha hb, List.map_cons, bl_extract s (o + 1) s.size, List.take_of_length_le (l := (bl s).drop (o + 1)) (by rw [List.length_drop, bl_len]; exact Nat.le_refl _)]
  rw [extract_mk s 0 o]; rfl
theorem fill_set {α : Type} (enc : α → List T) (d x : α) (p : List α) (n : Nat) : ((p ++ List.replicate (n + 1) d).map enc).set p.length (enc x) = ((p ++ [x]) ++ List.replicate n d).map enc := by
  rw [← List.map_set, List.set_append_right _ _ (Nat.le_refl _), Nat.sub_self, List.replicate_succ, List.set_cons_zero, List.append_assoc]; rfl
theorem fillS {t : ByteArray} {p : List ByteArray} {n : Nat} : ((p ++ List.replicate (n + 1) (⟨#[]⟩ : ByteArray)).map encStr).set p.length [T.v (.string t)] = ((p ++ [t]) ++ List.replicate n (⟨#[]⟩ : ByteArray)).map encStr := fill_set encStr _ t p n
theorem spl_len (s : ByteArray) (c : UInt8) : (spl s c).length = countByte (bl s) c + 1 := by
  unfold spl; rw [List.length_map, spA_len]; rfl
theorem cnt_le (s : ByteArray) (c : UInt8) : countByte (bl s) c ≤ s.size := by
  have := List.count_le_length (a := c) (l := bl s)
  exact this
theorem spl_cases {s sep : ByteArray} (h1 : sep.size = 1) : (indexB s sep = -1 ∧ countByte (bl s) (UInt8.ofNat (byteAt sep 0).toNat) = 0 ∧ spl s (UInt8.ofNat (byteAt sep 0).toNat) = [s]) ∨ ∃ o : Nat, indexB s sep = o ∧ o < s.size ∧ spl s (UInt8.ofNat (byteAt sep 0).toNat) = s.extract 0 o :: spl (s.extract (o + 1) s.size) (UInt8.ofNat (byteAt sep 0).toNat) ∧ countByte (bl s) (UInt8.ofNat (byteAt sep 0).toNat) = countByte (bl (s.extract (o + 1) s.size)) (UInt8.ofNat (byteAt sep 0).toNat) + 1 := by
  have hge := index_ge (bl s) (bl sep)
  by_cases h : indexB s sep = -1
  · refine .inl ⟨h, ?_, spl_none h1 h⟩
    have := spl_len s (UInt8.ofNat (byteAt sep 0).toNat)
    rw [spl_none h1 h] at this
    simp at this; exact this
  · have hge' : -1 ≤ indexB s sep := hge
    obtain ⟨o, ho⟩ : ∃ o : Nat, indexB s sep = o := ⟨(indexB s sep).toNat, by omega⟩
    obtain ⟨a, b⟩ := spl_some h1 ho
    refine .inr ⟨o, ho, a, b, ?_⟩
    have q1 := spl_len s (UInt8.ofNat (byteAt sep 0).toNat)
    have q2 := spl_len (s.extract (o + 1) s.size) (UInt8.ofNat (byteAt sep 0).toNat)
    rw [b, List.length_cons, q2] at q1
    omega
theorem Has_index (s p : ByteArray) : 0 ≤ indexB s p ↔ Has s p := by
  constructor
  · intro h
    rcases index_spec (bl s) (bl p) with ⟨h1, _⟩ | ⟨i, h1, h2, h3, h4⟩
    · have : indexB s p = -1 := h1
      omega
    · have hr := index_room (bl s) (bl p) (by rw [h1]; omega)
      have hi : i + p.size ≤ s.size := by
        rw [h1, bl_len, bl_len] at hr; omega
      refine ⟨i, hi, ?_⟩
      have := occ_of_piece s p i hi
      rw [show occAt s.data.toList p.data.toList i = true from h3] at this
      exact eq_of_beqL this.symm
  · rintro ⟨i, hi, he⟩
    rcases index_spec (bl s) (bl p) with ⟨h1, h2⟩ | ⟨j, h1, h2, h3, h4⟩
    · have h := h2 i (by rw [bl_len]; omega)
      rw [show bl s = s.data.toList from rfl, show bl p = p.data.toList from rfl, occ_of_piece s p i hi, he] at h
      simp at h
    · show 0 ≤ index _ _
      rw [show s.data.toList = bl s from rfl, show p.data.toList = bl p from rfl, h1]
      omega
end
def c148 : Ct := ctR (lc AStr (lc AStr l0)) (fun p => p.2.1.size ≤ 2000000 ∧ p.1.size ≤ 2000000) (fun p => .t (.v (.int .i64 (Lib.indexB p.1 p.2.1))))
theorem good148 {G : Gt} (hG : OkG G) (h154 : G.e 154 = roEnt 0 c154) : Gd G 148 (roEnt 0 c148) := by
  refine gR (dp := fun _ => true) (fn := Tryz.f148) (n := 2) (fun _ => rfl) (by kernel_rfl) rfl (by kernel_rfl) hG (Nat.le_of_ble_eq_true rfl) (by kernel_rfl) (by decide) (fun _ _ => .v _) ?_
  rintro ⟨s, sub, ⟨⟩⟩ hpre
  simp -implicitDefEqProofs only [Tryz.f148, go_sem, h154, c154, Nat.reduceAdd, Nat.reduceMul, Nat.reduceLeDiff, Nat.reduceEqDiff, reduceCtorEq, Nat.reduceSub, Int.reduceNeg, Nat.reduceMod, Nat.reduceBEq, Nat.reduceLT] at hpre ⊢

  repeat' (first | with_reducible apply And.intro | with_reducible intro _ | ((first | refine brB_split (fun hb => ?_) (fun hb => ?_) | refine aPickB_split (fun hb => ?_) (fun hb => ?_) | refine gB_split (fun hb => ?_) (fun hb => ?_) | refine adB_split (fun hb => ?_) (fun hb => ?_)) <;> simp -implicitDefEqProofs only [hb, go_sem, h154, c154, Nat.reduceAdd, Nat.reduceMul, Nat.reduceLeDiff, Nat.reduceEqDiff, reduceCtorEq, Nat.reduceSub, Int.reduceNeg, Nat.reduceMod, Nat.reduceBEq, Nat.reduceLT] <;> try simp only [qa, qb, qc, qd, qe, qf, qg, bOf_t, bOf_f] at hb))
  all_goals first | rfl | omega | skip

def c147 : Ct := ctR (lc AStr (lc AStr l0)) (fun p => p.2.1.size = 1 ∧ p.1.size ≤ 2000000) (fun p => .t (.v (.int .i64 (Lib.countByte (bl p.1) (UInt8.ofNat (byteAt p.2.1 0).toNat)))))
theorem good147 {G : Gt} (hG : OkG G) (h153 : G.e 153 = roEnt 3 c153) : Gd G 147 (roEnt 0 c147) := by
  refine gR (dp := fun _ => true) (fn := Tryz.f147) (n := 2) (fun _ => rfl) (by kernel_rfl) rfl (by kernel_rfl) hG (Nat.le_of_ble_eq_true rfl) (by kernel_rfl) (by decide) (fun _ _ => .v _) ?_
  rintro ⟨s, sub, ⟨⟩⟩ hpre
  simp -implicitDefEqProofs only [Tryz.f147, go_sem, h153, c153, Nat.reduceAdd, Nat.reduceMul, Nat.reduceLeDiff, Nat.reduceEqDiff, reduceCtorEq, Nat.reduceSub, Int.reduceNeg, Nat.reduceMod, Nat.reduceBEq, Nat.reduceLT] at hpre ⊢

  have h1 : (sub.size : Int) = 1 := by omega
  simp -implicitDefEqProofs only [h1, go_sem, h153, c153, Nat.reduceAdd, Nat.reduceMul, Nat.reduceLeDiff, Nat.reduceEqDiff, reduceCtorEq, Nat.reduceSub, Int.reduceNeg, Nat.reduceMod, Nat.reduceBEq, Nat.reduceLT]
  repeat' (first | with_reducible apply And.intro | with_reducible intro _ | ((first | refine brB_split (fun hb => ?_) (fun hb => ?_) | refine aPickB_split (fun hb => ?_) (fun hb => ?_) | refine gB_split (fun hb => ?_) (fun hb => ?_) | refine adB_split (fun hb => ?_) (fun hb => ?_)) <;> simp -implicitDefEqProofs only [hb, go_sem, h153, c153, Nat.reduceAdd, Nat.reduceMul, Nat.reduceLeDiff, Nat.reduceEqDiff, reduceCtorEq, Nat.reduceSub, Int.reduceNeg, Nat.reduceMod, Nat.reduceBEq, Nat.reduceLT] <;> try simp only [qa, qb, qc, qd, qe, qf, qg, bOf_t, bOf_f] at hb))
  all_goals first | rfl | omega | skip

def c137 : Ct := ctR (lc AStr (lc AStr (lc AInt (lc AInt l0)))) (fun p => p.2.1.size = 1 ∧ p.2.2.1 = 0 ∧ p.2.2.2.1 = -1 ∧ p.1.size ≤ 2000000) (fun p => .o true 1 ((spl p.1 (UInt8.ofNat (byteAt p.2.1 0).toNat)).map encStr))
set_option maxHeartbeats 1600000 in
theorem good137 {G : Gt} (hG : OkG G) (h147 : G.e 147 = roEnt 0 c147) (h148 : G.e 148 = roEnt 0 c148) : Gd G 137 (roEnt 0 c137) := by
  refine gR (dp := fun _ => true) (fn := Tryz.f137) (n := 4) (fun _ => rfl) (by kernel_rfl) rfl (by kernel_rfl) hG (Nat.le_of_ble_eq_true rfl) (by kernel_rfl) (by decide) (fun _ _ => .deep _ _) ?_
  rintro ⟨s, sep, sv, n, ⟨⟩⟩ hpre


  obtain ⟨h1, h2, h3, h4⟩ := hpre
  dsimp only at h1 h2 h3 h4
  subst h2 h3
  have hse : ¬ sep = ⟨#[]⟩ := by intro e; rw [e] at h1; cases h1
  have hc := cnt_le s (UInt8.ofNat (byteAt sep 0).toNat)
  have hl := spl_len s (UInt8.ofNat (byteAt sep 0).toNat)
  have hmin : ¬ ((s.size : Int) + 1 < (Lib.countByte (bl s) (UInt8.ofNat (byteAt sep 0).toNat) : Int) + 1) := by omega
  simp -implicitDefEqProofs only [Tryz.f137, hse, if_neg hmin, go_sem, h147, c147, h148, c148, aSet_map, aCell_map, List.map_replicate, Nat.reduceAdd, Nat.reduceMul, Nat.reduceLeDiff, Nat.reduceEqDiff, reduceCtorEq, Nat.reduceSub, Int.reduceNeg, Nat.reduceMod, Nat.reduceBEq, Nat.reduceLT]
  repeat' (first | with_reducible apply And.intro | with_reducible intro _ | ((first | refine brB_split (fun hb => ?_) (fun hb => ?_) | refine aPickB_split (fun hb => ?_) (fun hb => ?_) | refine gB_split (fun hb => ?_) (fun hb => ?_) | refine adB_split (fun hb => ?_) (fun hb => ?_)) <;> simp -implicitDefEqProofs only [hb, go_sem, h147, c147, h148, c148, aSet_map, aCell_map, List.map_replicate, Nat.reduceAdd, Nat.reduceMul, Nat.reduceLeDiff, Nat.reduceEqDiff, reduceCtorEq, Nat.reduceSub, Int.reduceNeg, Nat.reduceMod, Nat.reduceBEq, Nat.reduceLT] <;> try simp only [qa, qb, qc, qd, qe, qf, qg, bOf_t, bOf_f] at hb))
  all_goals (try simp only [maxLen, Int.toNat_natCast] at *)
  all_goals first | rfl | omega | skip
  refine run_loop [] (ι := {z : List ByteArray × ByteArray // spl s (UInt8.ofNat (byteAt sep 0).toNat) = z.1 ++ spl z.2 (UInt8.ofNat (byteAt sep 0).toNat) ∧ z.2.size ≤ s.size}) (fun z => ⟨[(0, .t (.v (.string z.1.2))), (1, .t (.v (.string sep))), (2, .t (.v (.int .i64 0))), (3, .t (.v (.int .i64 (Lib.countByte (bl s) (UInt8.ofNat (byteAt sep 0).toNat))))), (9, .h 1031), (10, .t (.v (.int .i64 z.1.1.length)))], [(1031, some (.arr true 1 ((z.1.1 ++ List.replicate (Lib.countByte (bl s) (UInt8.ofNat (byteAt sep 0).toNat) + 1 - z.1.1.length) (⟨#[]⟩ : ByteArray)).map encStr)))]⟩) (fun z => s.size + 1 - z.1.1.length) ⟨([], s), rfl, Nat.le_refl _⟩ rfl ?_ ?_
  · simp -implicitDefEqProofs only [go_sem, h147, c147, h148, c148, aSet_map, aCell_map, List.map_replicate, Nat.reduceAdd, Nat.reduceMul, Nat.reduceLeDiff, Nat.reduceEqDiff, reduceCtorEq, Nat.reduceSub, Int.reduceNeg, Nat.reduceMod, Nat.reduceBEq, Nat.reduceLT]
    simp
    constructor <;> split <;> omega
  · rintro ⟨⟨p, t⟩, hz, ht⟩
    dsimp only at hz ht
    have hcl : (spl s (UInt8.ofNat (byteAt sep 0).toNat)).length = p.length + (spl t (UInt8.ofNat (byteAt sep 0).toNat)).length := by rw [hz, List.length_append]
    rw [hl, spl_len] at hcl
    by_cases hlt : (p.length : Int) < Lib.countByte (bl s) (UInt8.ofNat (byteAt sep 0).toNat)
    · rcases spl_cases (s := t) h1 with ⟨_, q, _⟩ | ⟨o, q1, q2, q3, q4⟩
      · omega
      · have q0 : ¬ (o : Int) < 0 := by omega
        simp -implicitDefEqProofs only [hlt, q1, q0, go_sem, h147, c147, h148, c148, aSet_map, aCell_map, List.map_replicate, Nat.reduceAdd, Nat.reduceMul, Nat.reduceLeDiff, Nat.reduceEqDiff, reduceCtorEq, Nat.reduceSub, Int.reduceNeg, Nat.reduceMod, Nat.reduceBEq, Nat.reduceLT]
        obtain ⟨n, hn⟩ : ∃ n, Lib.countByte (bl s) (UInt8.ofNat (byteAt sep 0).toNat) + 1 - p.length = n + 1 := ⟨Lib.countByte (bl s) (UInt8.ofNat (byteAt sep 0).toNat) - p.length, by omega⟩
        have hn2 : n = Lib.countByte (bl s) (UInt8.ofNat (byteAt sep 0).toNat) - p.length := by omega
        have hs1 : ((o : Int) + sep.size).toNat = o + 1 := by omega
        repeat' (first | with_reducible apply And.intro | with_reducible intro _ | ((first | refine brB_split (fun hb => ?_) (fun hb => ?_) | refine aPickB_split (fun hb => ?_) (fun hb => ?_) | refine gB_split (fun hb => ?_) (fun hb => ?_) | refine adB_split (fun hb => ?_) (fun hb => ?_)) <;> simp -implicitDefEqProofs only [hb, go_sem, h147, c147, h148, c148, aSet_map, aCell_map, List.map_replicate, Nat.reduceAdd, Nat.reduceMul, Nat.reduceLeDiff, Nat.reduceEqDiff, reduceCtorEq, Nat.reduceSub, Int.reduceNeg, Nat.reduceMod, Nat.reduceBEq, Nat.reduceLT] <;> try simp only [qa, qb, qc, qd, qe, qf, qg, bOf_t, bOf_f] at hb))
        all_goals (try simp only [maxLen, Int.toNat_natCast, Int.add_zero, hn, fillS, List.length_map, List.length_append, List.length_replicate, hs1] at *)
        all_goals first | rfl | omega | skip
        refine ⟨⟨(p ++ [t.extract 0 o], t.extract (o + 1) t.size), ?_, ?_⟩, ?_, ?_⟩
        · dsimp only; rw [hz, q3, List.append_assoc]; rfl
        · dsimp only; rw [ByteArray.size_extract]; omega
        · dsimp only; rw [List.length_append]; simp; omega
        · have e2 : Lib.countByte (bl s) (UInt8.ofNat (byteAt sep 0).toNat) + 1 - (p ++ [t.extract 0 o]).length = n := by rw [List.length_append, hn2]; simp
          simp -implicitDefEqProofs only [e2, go_sem, h147, c147, h148, c148, aSet_map, aCell_map, List.map_replicate, Nat.reduceAdd, Nat.reduceMul, Nat.reduceLeDiff, Nat.reduceEqDiff, reduceCtorEq, Nat.reduceSub, Int.reduceNeg, Nat.reduceMod, Nat.reduceBEq, Nat.reduceLT]
          simp
    · simp -implicitDefEqProofs only [hlt, go_sem, h147, c147, h148, c148, aSet_map, aCell_map, List.map_replicate, Nat.reduceAdd, Nat.reduceMul, Nat.reduceLeDiff, Nat.reduceEqDiff, reduceCtorEq, Nat.reduceSub, Int.reduceNeg, Nat.reduceMod, Nat.reduceBEq, Nat.reduceLT]
      rcases spl_cases (s := t) h1 with ⟨_, _, q⟩ | ⟨o, q1, q2, q3, q4⟩
      · have hn : Lib.countByte (bl s) (UInt8.ofNat (byteAt sep 0).toNat) + 1 - p.length = 0 + 1 := by omega
        rw [q] at hz
        repeat' (first | with_reducible apply And.intro | with_reducible intro _ | ((first | refine brB_split (fun hb => ?_) (fun hb => ?_) | refine aPickB_split (fun hb => ?_) (fun hb => ?_) | refine gB_split (fun hb => ?_) (fun hb => ?_) | refine adB_split (fun hb => ?_) (fun hb => ?_)) <;> simp -implicitDefEqProofs only [hb, go_sem, h147, c147, h148, c148, aSet_map, aCell_map, List.map_replicate, Nat.reduceAdd, Nat.reduceMul, Nat.reduceLeDiff, Nat.reduceEqDiff, reduceCtorEq, Nat.reduceSub, Int.reduceNeg, Nat.reduceMod, Nat.reduceBEq, Nat.reduceLT] <;> try simp only [qa, qb, qc, qd, qe, qf, qg, bOf_t, bOf_f] at hb))
        all_goals (try simp only [maxLen, Int.toNat_natCast, Int.add_zero, hn, fillS, List.length_map, List.length_append, List.length_replicate] at *)
        all_goals first | rfl | omega | (simp; done) | skip
        · rw [hz, List.replicate_zero, List.append_nil, List.take_of_length_le]
          simp
      · omega


def bx (l : List Bool) : List AV := l.map fun b => .t (.v (.bool b))
def bxT (l : List Bool) : List T := l.map fun b => .v (.bool b)
def bxD : List T → Option (List Bool)
  | [] => some []
  | .v (.bool b) :: r => (bxD r).map (b :: ·)
  | _ => none
theorem bxD_ed : ∀ l, bxD (bxT l) = some l
  | [] => rfl
  | b :: l => by show (bxD (bxT l)).map (b :: ·) = _; rw [bxD_ed l]; rfl
theorem bxD_de : ∀ {c l}, bxD c = some l → bxT l = c
  | [], _, h => by cases h; rfl
  | x :: c, l, h => by
    unfold bxD at h
    split at h
    · rename_i e; cases e
    · rename_i e
      cases e
      cases hq : bxD c with
      | none => rw [hq] at h; cases h
      | some l' => rw [hq] at h; cases h; rw [← bxD_de hq]; rfl
    · cases h
def bxA : AV → Option (List Bool)
  | .t (.rop c) => bxD c
  | _ => none
/-- A pointer to an array of bools. -/
def ABs : AD (List Bool) where
  enc l := .t (.rop (bxT l))
  dec := bxA
  ed := fun l => bxD_ed l
  de := fun x l h => by
    unfold bxA at h
    split at h
    · rw [← bxD_de h]
    · cases h
theorem ABs_dec {l : List Bool} : ABs.dec (.t (.rop (bxT l))) = some l := bxD_ed l
theorem ABs_enc {l : List Bool} : ABs.enc l = .t (.rop (bxT l)) := rfl
theorem bx_len {l : List Bool} : (bx l).length = l.length := by simp [bx]
theorem bxT_len {l : List Bool} : (bxT l).length = l.length := by simp [bxT]
def z256 : List Value := List.replicate 256 (.bool false)
def b256 : List Bool := List.replicate 256 false
theorem tyasz : tyOf Tryz.prog 149 = some ⟨.arr 256 4, 256, 256, z256⟩ := ty149
theorem bx_zero : z256.map avc1 = bx b256 := by simp [bx, z256, b256]; rfl
theorem bx_fine : z256.all fineB = true := by decide
theorem b256_len : b256.length = 256 := rfl
theorem bx_drop0 : List.drop 256 (bx b256) = [] := rfl
theorem bx_spl {l : List Bool} {k : Nat} {b : Bool} (h : k < l.length) : (bx l).take k ++ AV.t (.v (.bool b)) :: (bx l).drop (k + 1) = bx (l.set k b) := by
  unfold bx
  rw [List.set_eq_take_append_cons_drop, if_pos h]
  simp
theorem bx_splice {l : List Bool} {k : Nat} {b : Bool} (h : k < l.length) : splice (bx l) k [AV.t (.v (.bool b))] = bx (l.set k b) := by
  unfold splice bx
  rw [List.set_eq_take_append_cons_drop, if_pos h]
  simp
theorem bx_take {l : List Bool} {n : Nat} (h : l.length = n) : (bx l).take n = bx l := List.take_of_length_le (by rw [bx_len]; omega)
theorem bx_snap {s : AS} {n : Nat} : ∀ {l : List Bool}, mapO (s.snapT (n + 1)) (bx l) = some (bxT l)
  | [] => rfl
  | b :: l => by
    have h := bx_snap (s := s) (n := n) (l := l)
    unfold bx bxT at h ⊢
    simp only [List.map_cons, mapO, h, AS.snapT]
theorem bxT_get {l : List Bool} {k : Nat} (h : k < l.length) : (bxT l).drop k = T.v (.bool (l.getD k false)) :: (bxT l).drop (k + 1) := by
  rw [List.drop_eq_getElem_cons (by rw [bxT_len]; exact h)]
  congr 1
  simp [bxT, h]
theorem bx_outP {s : AS} : ∀ {l : List Bool}, outPL s (bx l) (bx l)
  | [] => trivial
  | b :: l => ⟨by simp only [outP, outT], bx_outP⟩
theorem bx_outI {s : AS} : ∀ {l : List Bool}, outIL s (bx l) (bx l) = []
  | [] => rfl
  | b :: l => by show outI s (.t (.v (.bool b))) (.t (.v (.bool b))) ++ outIL s (bx l) (bx l) = []; rw [bx_outI]; rfl
theorem bx_outZ {s : AS} : ∀ {l : List Bool}, outZL s (bx l) (bx l) = []
  | [] => rfl
  | b :: l => by show outZ s (.t (.v (.bool b))) (.t (.v (.bool b))) ++ outZL s (bx l) (bx l) = []; rw [bx_outZ]; rfl
theorem bx_intern {d k : Nat} {s : AS} : ∀ {l : List Bool}, internL d k (bx l) s = ⟨bx l, s, k⟩
  | [] => rfl
  | b :: l => by
    show InL.mk (AV.t (.v (.bool b)) :: (internL d k (bx l) s).avs) (internL d k (bx l) s).s (internL d k (bx l) s).k = _
    rw [bx_intern]; rfl
theorem bx_has {k : Nat} : ∀ {l : List Bool}, AV.hasL k (bx l) = false
  | [] => rfl
  | b :: l => by show (false || AV.hasL k (bx l)) = false; rw [bx_has]; rfl
theorem bx_dropm {k : Nat} : ∀ {l : List Bool}, (bx l).map (AV.drop k) = bx l
  | [] => rfl
  | b :: l => by show AV.t (.v (.bool b)) :: (bx l).map (AV.drop k) = _; rw [bx_dropm]; rfl
def setN (cs : ByteArray) : Nat → List Bool
  | 0 => b256
  | n + 1 => (setN cs n).set (byteAt cs n).toNat true
theorem setN_len (cs : ByteArray) : ∀ n, (setN cs n).length = 256
  | 0 => rfl
  | n + 1 => by rw [setN, List.length_set]; exact setN_len cs n
def trR (l : List Bool) (s : ByteArray) : ByteArray :=
  if h : s.size = 0 then s else bif l.getD (byteAt s (s.size - 1)).toNat false then trR l (s.extract 0 (s.size - 1)) else s
termination_by s.size
decreasing_by rw [ByteArray.size_extract]; omega
def trL (l : List Bool) (s : ByteArray) : ByteArray :=
  if h : s.size = 0 then s else bif l.getD (byteAt s 0).toNat false then trL l (s.extract 1 s.size) else s
termination_by s.size
decreasing_by rw [ByteArray.size_extract]; omega

theorem trR_nil {l : List Bool} : trR l ⟨#[]⟩ = ⟨#[]⟩ := by rw [trR]; exact dif_pos rfl
theorem trL_nil {l : List Bool} : trL l ⟨#[]⟩ = ⟨#[]⟩ := by rw [trL]; exact dif_pos rfl
theorem trR_le (l : List Bool) (s : ByteArray) : (trR l s).size ≤ s.size := by
  rw [trR]
  split
  · exact Nat.le_refl _
  · cases l.getD (byteAt s (s.size - 1)).toNat false
    · exact Nat.le_refl _
    · have := trR_le l (s.extract 0 (s.size - 1))
      rw [ByteArray.size_extract] at this
      show (trR l (s.extract 0 (s.size - 1))).size ≤ _
      omega
termination_by s.size
decreasing_by rw [ByteArray.size_extract]; omega
def c142 : Ct := ctR (lc ABs (lc AU8 l0)) (fun p => p.1.length = 256 ∧ 0 ≤ p.2.1 ∧ p.2.1 < 256) (fun p => .t (.v (.bool (p.1.getD p.2.1.toNat false))))
theorem good142 {G : Gt} (hG : OkG G) : Gd G 142 (roEnt 0 c142) := by
  refine gR (dp := fun _ => true) (fn := Tryz.f142) (n := 2) (fun _ => rfl) (by kernel_rfl) rfl (by kernel_rfl) hG (Nat.le_of_ble_eq_true rfl) (by kernel_rfl) (by decide) (fun _ _ => .v _) ?_
  rintro ⟨l, c, ⟨⟩⟩ hpre
  simp -implicitDefEqProofs only [Tryz.f142, go_sem, tyasz, ABs_dec, ABs_enc, bxT_len, Nat.reduceAdd, Nat.reduceMul, Nat.reduceLeDiff, Nat.reduceEqDiff, reduceCtorEq, Nat.reduceSub, Int.reduceNeg, Nat.reduceMod, Nat.reduceBEq, Nat.reduceLT] at hpre ⊢

  have hk : c.toNat < l.length := by omega
  simp -implicitDefEqProofs only [bxT_get hk, Nat.mul_one, hpre.1, go_sem, tyasz, ABs_dec, ABs_enc, bxT_len, Nat.reduceAdd, Nat.reduceMul, Nat.reduceLeDiff, Nat.reduceEqDiff, reduceCtorEq, Nat.reduceSub, Int.reduceNeg, Nat.reduceMod, Nat.reduceBEq, Nat.reduceLT]
  repeat' (first | with_reducible apply And.intro | with_reducible intro _ | ((first | refine brB_split (fun hb => ?_) (fun hb => ?_) | refine aPickB_split (fun hb => ?_) (fun hb => ?_) | refine gB_split (fun hb => ?_) (fun hb => ?_) | refine adB_split (fun hb => ?_) (fun hb => ?_)) <;> simp -implicitDefEqProofs only [hb, go_sem, tyasz, ABs_dec, ABs_enc, bxT_len, Nat.reduceAdd, Nat.reduceMul, Nat.reduceLeDiff, Nat.reduceEqDiff, reduceCtorEq, Nat.reduceSub, Int.reduceNeg, Nat.reduceMod, Nat.reduceBEq, Nat.reduceLT] <;> try simp only [qa, qb, qc, qd, qe, qf, qg, bOf_t, bOf_f] at hb))
  all_goals first | rfl | omega | skip
  all_goals trace_state

def c134 : Ct := ctR (lc AStr (lc ABs l0)) (fun p => p.2.1.length = 256 ∧ p.1.size ≤ 2000000) (fun p => .t (.v (.string (trR p.2.1 p.1))))
theorem good134 {G : Gt} (hG : OkG G) (h142 : G.e 142 = roEnt 0 c142) : Gd G 134 (roEnt 0 c134) := by
  refine gR (dp := fun _ => true) (fn := Tryz.f134) (n := 2) (fun _ => rfl) (by kernel_rfl) rfl (by kernel_rfl) hG (Nat.le_of_ble_eq_true rfl) (by kernel_rfl) (by decide) (fun _ _ => .v _) ?_
  rintro ⟨s, l, ⟨⟩⟩ hpre
  simp -implicitDefEqProofs only [Tryz.f134, go_sem, h142, c142, ABs_dec, ABs_enc, Bool.not_true, Bool.not_false, Nat.reduceAdd, Nat.reduceMul, Nat.reduceLeDiff, Nat.reduceEqDiff, reduceCtorEq, Nat.reduceSub, Int.reduceNeg, Nat.reduceMod, Nat.reduceBEq, Nat.reduceLT] at hpre ⊢

  refine run_loop [] (ι := {t : ByteArray // trR l t = trR l s ∧ t.size ≤ s.size}) (fun p => ⟨[(0, .t (.v (.string p.1))), (1, .t (.rop (bxT l)))], []⟩) (fun p => p.1.size) ⟨s, rfl, Nat.le_refl _⟩ rfl ?_ ?_
  · simp -implicitDefEqProofs only [go_sem, h142, c142, ABs_dec, ABs_enc, Bool.not_true, Bool.not_false, Nat.reduceAdd, Nat.reduceMul, Nat.reduceLeDiff, Nat.reduceEqDiff, reduceCtorEq, Nat.reduceSub, Int.reduceNeg, Nat.reduceMod, Nat.reduceBEq, Nat.reduceLT]
    try simp
  · rintro ⟨t, ht, hts⟩
    by_cases h0 : t.size = 0
    · have h1 : (t.size : Int) = 0 := by omega
      simp -implicitDefEqProofs only [h1, go_sem, h142, c142, ABs_dec, ABs_enc, Bool.not_true, Bool.not_false, Nat.reduceAdd, Nat.reduceMul, Nat.reduceLeDiff, Nat.reduceEqDiff, reduceCtorEq, Nat.reduceSub, Int.reduceNeg, Nat.reduceMod, Nat.reduceBEq, Nat.reduceLT]
      repeat' (first | with_reducible apply And.intro | with_reducible intro _ | ((first | refine brB_split (fun hb => ?_) (fun hb => ?_) | refine aPickB_split (fun hb => ?_) (fun hb => ?_) | refine gB_split (fun hb => ?_) (fun hb => ?_) | refine adB_split (fun hb => ?_) (fun hb => ?_)) <;> simp -implicitDefEqProofs only [hb, go_sem, h142, c142, ABs_dec, ABs_enc, Bool.not_true, Bool.not_false, Nat.reduceAdd, Nat.reduceMul, Nat.reduceLeDiff, Nat.reduceEqDiff, reduceCtorEq, Nat.reduceSub, Int.reduceNeg, Nat.reduceMod, Nat.reduceBEq, Nat.reduceLT] <;> try simp only [qa, qb, qc, qd, qe, qf, qg, bOf_t, bOf_f] at hb))
      all_goals first | rfl | omega | skip
      rw [← ht, trR, dif_pos h0]
    · have h1 : (t.size : Int) > 0 := by omega
      have hbr := byteAt_range t (t.size - 1)
      have hr : trR l t = bif l.getD (byteAt t (t.size - 1)).toNat false then trR l (t.extract 0 (t.size - 1)) else t := by
        rw [trR, dif_neg h0]
      have e1 : ((t.size : Int) - 1).toNat = (t.size - 1) := by omega
      cases hb : l.getD (byteAt t (((t.size : Int) - 1).toNat)).toNat false
      · simp -implicitDefEqProofs only [h1, hb, go_sem, h142, c142, ABs_dec, ABs_enc, Bool.not_true, Bool.not_false, Nat.reduceAdd, Nat.reduceMul, Nat.reduceLeDiff, Nat.reduceEqDiff, reduceCtorEq, Nat.reduceSub, Int.reduceNeg, Nat.reduceMod, Nat.reduceBEq, Nat.reduceLT]
        repeat' (first | with_reducible apply And.intro | with_reducible intro _ | ((first | refine brB_split (fun hb => ?_) (fun hb => ?_) | refine aPickB_split (fun hb => ?_) (fun hb => ?_) | refine gB_split (fun hb => ?_) (fun hb => ?_) | refine adB_split (fun hb => ?_) (fun hb => ?_)) <;> simp -implicitDefEqProofs only [hb, go_sem, h142, c142, ABs_dec, ABs_enc, Bool.not_true, Bool.not_false, Nat.reduceAdd, Nat.reduceMul, Nat.reduceLeDiff, Nat.reduceEqDiff, reduceCtorEq, Nat.reduceSub, Int.reduceNeg, Nat.reduceMod, Nat.reduceBEq, Nat.reduceLT] <;> try simp only [qa, qb, qc, qd, qe, qf, qg, bOf_t, bOf_f] at hb))
        all_goals first | rfl | omega | skip
        all_goals rw [e1] at *
        all_goals first | omega | (rw [← ht, hr, hb]; rfl)
      · simp -implicitDefEqProofs only [h1, hb, go_sem, h142, c142, ABs_dec, ABs_enc, Bool.not_true, Bool.not_false, Nat.reduceAdd, Nat.reduceMul, Nat.reduceLeDiff, Nat.reduceEqDiff, reduceCtorEq, Nat.reduceSub, Int.reduceNeg, Nat.reduceMod, Nat.reduceBEq, Nat.reduceLT]
        repeat' (first | with_reducible apply And.intro | with_reducible intro _ | ((first | refine brB_split (fun hb => ?_) (fun hb => ?_) | refine aPickB_split (fun hb => ?_) (fun hb => ?_) | refine gB_split (fun hb => ?_) (fun hb => ?_) | refine adB_split (fun hb => ?_) (fun hb => ?_)) <;> simp -implicitDefEqProofs only [hb, go_sem, h142, c142, ABs_dec, ABs_enc, Bool.not_true, Bool.not_false, Nat.reduceAdd, Nat.reduceMul, Nat.reduceLeDiff, Nat.reduceEqDiff, reduceCtorEq, Nat.reduceSub, Int.reduceNeg, Nat.reduceMod, Nat.reduceBEq, Nat.reduceLT] <;> try simp only [qa, qb, qc, qd, qe, qf, qg, bOf_t, bOf_f] at hb))
        all_goals first | rfl | omega | skip
        all_goals rw [e1] at *
        all_goals first | omega | skip
        refine ⟨⟨t.extract 0 (t.size - 1), ?_, ?_⟩, ?_, ?_⟩
        · rw [← ht, hr, hb]; rfl
        · rw [ByteArray.size_extract]; omega
        · show (t.extract 0 (t.size - 1)).size < t.size
          rw [ByteArray.size_extract]; omega
        · simp -implicitDefEqProofs only [go_sem, h142, c142, ABs_dec, ABs_enc, Bool.not_true, Bool.not_false, Nat.reduceAdd, Nat.reduceMul, Nat.reduceLeDiff, Nat.reduceEqDiff, reduceCtorEq, Nat.reduceSub, Int.reduceNeg, Nat.reduceMod, Nat.reduceBEq, Nat.reduceLT]
          try simp [e1]

def c133 : Ct := ctR (lc AStr (lc ABs l0)) (fun p => p.2.1.length = 256 ∧ p.1.size ≤ 2000000) (fun p => .t (.v (.string (trL p.2.1 p.1))))
theorem good133 {G : Gt} (hG : OkG G) (h142 : G.e 142 = roEnt 0 c142) : Gd G 133 (roEnt 0 c133) := by
  refine gR (dp := fun _ => true) (fn := Tryz.f133) (n := 2) (fun _ => rfl) (by kernel_rfl) rfl (by kernel_rfl) hG (Nat.le_of_ble_eq_true rfl) (by kernel_rfl) (by decide) (fun _ _ => .v _) ?_
  rintro ⟨s, l, ⟨⟩⟩ hpre
  simp -implicitDefEqProofs only [Tryz.f133, go_sem, h142, c142, ABs_dec, ABs_enc, Bool.not_true, Bool.not_false, Nat.reduceAdd, Nat.reduceMul, Nat.reduceLeDiff, Nat.reduceEqDiff, reduceCtorEq, Nat.reduceSub, Int.reduceNeg, Nat.reduceMod, Nat.reduceBEq, Nat.reduceLT] at hpre ⊢

  refine run_loop [] (ι := {t : ByteArray // trL l t = trL l s ∧ t.size ≤ s.size}) (fun p => ⟨[(0, .t (.v (.string p.1))), (1, .t (.rop (bxT l)))], []⟩) (fun p => p.1.size) ⟨s, rfl, Nat.le_refl _⟩ rfl ?_ ?_
  · simp -implicitDefEqProofs only [go_sem, h142, c142, ABs_dec, ABs_enc, Bool.not_true, Bool.not_false, Nat.reduceAdd, Nat.reduceMul, Nat.reduceLeDiff, Nat.reduceEqDiff, reduceCtorEq, Nat.reduceSub, Int.reduceNeg, Nat.reduceMod, Nat.reduceBEq, Nat.reduceLT]
    try simp
  · rintro ⟨t, ht, hts⟩
    by_cases h0 : t.size = 0
    · have h1 : (t.size : Int) = 0 := by omega
      simp -implicitDefEqProofs only [h1, go_sem, h142, c142, ABs_dec, ABs_enc, Bool.not_true, Bool.not_false, Nat.reduceAdd, Nat.reduceMul, Nat.reduceLeDiff, Nat.reduceEqDiff, reduceCtorEq, Nat.reduceSub, Int.reduceNeg, Nat.reduceMod, Nat.reduceBEq, Nat.reduceLT]
      repeat' (first | with_reducible apply And.intro | with_reducible intro _ | ((first | refine brB_split (fun hb => ?_) (fun hb => ?_) | refine aPickB_split (fun hb => ?_) (fun hb => ?_) | refine gB_split (fun hb => ?_) (fun hb => ?_) | refine adB_split (fun hb => ?_) (fun hb => ?_)) <;> simp -implicitDefEqProofs only [hb, go_sem, h142, c142, ABs_dec, ABs_enc, Bool.not_true, Bool.not_false, Nat.reduceAdd, Nat.reduceMul, Nat.reduceLeDiff, Nat.reduceEqDiff, reduceCtorEq, Nat.reduceSub, Int.reduceNeg, Nat.reduceMod, Nat.reduceBEq, Nat.reduceLT] <;> try simp only [qa, qb, qc, qd, qe, qf, qg, bOf_t, bOf_f] at hb))
      all_goals first | rfl | omega | skip
      rw [← ht, trL, dif_pos h0]
    · have h1 : (t.size : Int) > 0 := by omega
      have hbr := byteAt_range t 0
      have hr : trL l t = bif l.getD (byteAt t 0).toNat false then trL l (t.extract 1 t.size) else t := by
        rw [trL, dif_neg h0]
      have e1 : Int.toNat 0 = 0 := by omega
      cases hb : l.getD (byteAt t (Int.toNat 0)).toNat false
      · simp -implicitDefEqProofs only [h1, hb, go_sem, h142, c142, ABs_dec, ABs_enc, Bool.not_true, Bool.not_false, Nat.reduceAdd, Nat.reduceMul, Nat.reduceLeDiff, Nat.reduceEqDiff, reduceCtorEq, Nat.reduceSub, Int.reduceNeg, Nat.reduceMod, Nat.reduceBEq, Nat.reduceLT]
        repeat' (first | with_reducible apply And.intro | with_reducible intro _ | ((first | refine brB_split (fun hb => ?_) (fun hb => ?_) | refine aPickB_split (fun hb => ?_) (fun hb => ?_) | refine gB_split (fun hb => ?_) (fun hb => ?_) | refine adB_split (fun hb => ?_) (fun hb => ?_)) <;> simp -implicitDefEqProofs only [hb, go_sem, h142, c142, ABs_dec, ABs_enc, Bool.not_true, Bool.not_false, Nat.reduceAdd, Nat.reduceMul, Nat.reduceLeDiff, Nat.reduceEqDiff, reduceCtorEq, Nat.reduceSub, Int.reduceNeg, Nat.reduceMod, Nat.reduceBEq, Nat.reduceLT] <;> try simp only [qa, qb, qc, qd, qe, qf, qg, bOf_t, bOf_f] at hb))
        all_goals first | rfl | omega | skip
        all_goals rw [e1] at *
        all_goals first | omega | (rw [← ht, hr, hb]; rfl)
      · simp -implicitDefEqProofs only [h1, hb, go_sem, h142, c142, ABs_dec, ABs_enc, Bool.not_true, Bool.not_false, Nat.reduceAdd, Nat.reduceMul, Nat.reduceLeDiff, Nat.reduceEqDiff, reduceCtorEq, Nat.reduceSub, Int.reduceNeg, Nat.reduceMod, Nat.reduceBEq, Nat.reduceLT]
        repeat' (first | with_reducible apply And.intro | with_reducible intro _ | ((first | refine brB_split (fun hb => ?_) (fun hb => ?_) | refine aPickB_split (fun hb => ?_) (fun hb => ?_) | refine gB_split (fun hb => ?_) (fun hb => ?_) | refine adB_split (fun hb => ?_) (fun hb => ?_)) <;> simp -implicitDefEqProofs only [hb, go_sem, h142, c142, ABs_dec, ABs_enc, Bool.not_true, Bool.not_false, Nat.reduceAdd, Nat.reduceMul, Nat.reduceLeDiff, Nat.reduceEqDiff, reduceCtorEq, Nat.reduceSub, Int.reduceNeg, Nat.reduceMod, Nat.reduceBEq, Nat.reduceLT] <;> try simp only [qa, qb, qc, qd, qe, qf, qg, bOf_t, bOf_f] at hb))
        all_goals first | rfl | omega | skip
        all_goals rw [e1] at *
        all_goals first | omega | skip
        refine ⟨⟨t.extract 1 t.size, ?_, ?_⟩, ?_, ?_⟩
        · rw [← ht, hr, hb]; rfl
        · rw [ByteArray.size_extract]; omega
        · show (t.extract 1 t.size).size < t.size
          rw [ByteArray.size_extract]; omega
        · simp -implicitDefEqProofs only [go_sem, h142, c142, ABs_dec, ABs_enc, Bool.not_true, Bool.not_false, Nat.reduceAdd, Nat.reduceMul, Nat.reduceLeDiff, Nat.reduceEqDiff, reduceCtorEq, Nat.reduceSub, Int.reduceNeg, Nat.reduceMod, Nat.reduceBEq, Nat.reduceLT]
          try simp [e1]

def c132 : Ct := ctR (lc AStr l0) (fun p => p.1.size ≤ 1000 ∧ ∀ j, j < p.1.size → byteAt p.1 j < 128) (fun p => .tup [.agg (bx (setN p.1 p.1.size)), .t (.v (.bool true))])
theorem good132 {G : Gt} (hG : OkG G) : Gd G 132 (roEnt 0 c132) := by
  refine gR (dp := fun _ => true) (fn := Tryz.f132) (n := 1) (fun _ => rfl) (by kernel_rfl) rfl (by kernel_rfl) hG (Nat.le_of_ble_eq_true rfl) (by kernel_rfl) (by decide) (fun _ _ => .tup _ (by intro c hc; simp only [List.mem_cons, List.not_mem_nil, or_false] at hc; rcases hc with rfl | rfl <;> first | exact .v _ | exact .agg _ (by intro c hc; simp only [bx, List.mem_map] at hc; obtain ⟨b, _, rfl⟩ := hc; exact .v _))) ?_
  rintro ⟨cs, ⟨⟩⟩ hpre
  simp -implicitDefEqProofs only [Tryz.f132, go_sem, tyasz, bx_zero, bx_fine, Nat.reduceAdd, Nat.reduceMul, Nat.reduceLeDiff, Nat.reduceEqDiff, reduceCtorEq, Nat.reduceSub, Int.reduceNeg, Nat.reduceMod, Nat.reduceBEq, Nat.reduceLT] at hpre ⊢

  repeat' (first | with_reducible apply And.intro | with_reducible intro _ | ((first | refine brB_split (fun hb => ?_) (fun hb => ?_) | refine aPickB_split (fun hb => ?_) (fun hb => ?_) | refine gB_split (fun hb => ?_) (fun hb => ?_) | refine adB_split (fun hb => ?_) (fun hb => ?_)) <;> simp -implicitDefEqProofs only [hb, go_sem, tyasz, bx_zero, bx_fine, Nat.reduceAdd, Nat.reduceMul, Nat.reduceLeDiff, Nat.reduceEqDiff, reduceCtorEq, Nat.reduceSub, Int.reduceNeg, Nat.reduceMod, Nat.reduceBEq, Nat.reduceLT] <;> try simp only [qa, qb, qc, qd, qe, qf, qg, bOf_t, bOf_f] at hb))
  all_goals first | rfl | omega | skip
  refine run_loop [] (ι := {i : Nat // i ≤ cs.size}) (fun p => ⟨[(0, .t (.v (.string cs))), (2, .pb 1002 0), (4, .t (.v (.int .i64 p.1)))], [(1002, some (.box (bx (setN cs p.1))))]⟩) (fun p => cs.size - p.1) ⟨0, Nat.zero_le _⟩ rfl ?_ ?_
  · simp -implicitDefEqProofs only [go_sem, tyasz, bx_zero, bx_fine, Nat.reduceAdd, Nat.reduceMul, Nat.reduceLeDiff, Nat.reduceEqDiff, reduceCtorEq, Nat.reduceSub, Int.reduceNeg, Nat.reduceMod, Nat.reduceBEq, Nat.reduceLT]
    exact ⟨rfl, rfl⟩
  · rintro ⟨i, hi⟩
    have hbr := byteAt_range cs i
    have hlen := setN_len cs i
    by_cases hlt : (i : Int) < cs.size
    · have h128 := hpre.2 i (by omega)
      have h1 : ¬ byteAt cs (i : Int).toNat ≥ 128 := by rw [Int.toNat_natCast]; omega
      have h2 : (byteAt cs (i : Int).toNat).toNat * 1 < (setN cs i).length := by rw [Int.toNat_natCast]; omega
      simp -implicitDefEqProofs only [hlt, h1, Nat.zero_add, bx_splice h2, go_sem, tyasz, bx_zero, bx_fine, Nat.reduceAdd, Nat.reduceMul, Nat.reduceLeDiff, Nat.reduceEqDiff, reduceCtorEq, Nat.reduceSub, Int.reduceNeg, Nat.reduceMod, Nat.reduceBEq, Nat.reduceLT]
      repeat' (first | with_reducible apply And.intro | with_reducible intro _ | ((first | refine brB_split (fun hb => ?_) (fun hb => ?_) | refine aPickB_split (fun hb => ?_) (fun hb => ?_) | refine gB_split (fun hb => ?_) (fun hb => ?_) | refine adB_split (fun hb => ?_) (fun hb => ?_)) <;> simp -implicitDefEqProofs only [hb, go_sem, tyasz, bx_zero, bx_fine, Nat.reduceAdd, Nat.reduceMul, Nat.reduceLeDiff, Nat.reduceEqDiff, reduceCtorEq, Nat.reduceSub, Int.reduceNeg, Nat.reduceMod, Nat.reduceBEq, Nat.reduceLT] <;> try simp only [qa, qb, qc, qd, qe, qf, qg, bOf_t, bOf_f] at hb))
      all_goals (try rw [Int.toNat_natCast])
      all_goals first | rfl | omega | (simp only [bx_len, hlen]; omega) | skip
      refine ⟨⟨i + 1, by omega⟩, by dsimp only; omega, ?_⟩
      simp -implicitDefEqProofs only [go_sem, tyasz, bx_zero, bx_fine, Nat.reduceAdd, Nat.reduceMul, Nat.reduceLeDiff, Nat.reduceEqDiff, reduceCtorEq, Nat.reduceSub, Int.reduceNeg, Nat.reduceMod, Nat.reduceBEq, Nat.reduceLT]
      refine ⟨by simp, ?_⟩
      refine congrArg Ob.box ?_
      rw [setN]
      simp only [Int.toNat_natCast, Nat.mul_one]
      exact bx_spl (by omega)
    · have e1 : i = cs.size := by omega
      have e2 : List.drop 256 (bx (setN cs i)) = [] := List.drop_eq_nil_of_le (by rw [bx_len, hlen]; exact Nat.le_refl _)
      have e3 : decide (256 ≤ 256) = true := rfl
      simp -implicitDefEqProofs only [hlt, bx_take hlen, bx_len, hlen, e2, List.append_nil, Nat.zero_add, e3, cond_true, go_sem, tyasz, bx_zero, bx_fine, Nat.reduceAdd, Nat.reduceMul, Nat.reduceLeDiff, Nat.reduceEqDiff, reduceCtorEq, Nat.reduceSub, Int.reduceNeg, Nat.reduceMod, Nat.reduceBEq, Nat.reduceLT]
      subst e1
      repeat' (first | with_reducible apply And.intro | with_reducible intro _ | ((first | refine brB_split (fun hb => ?_) (fun hb => ?_) | refine aPickB_split (fun hb => ?_) (fun hb => ?_) | refine gB_split (fun hb => ?_) (fun hb => ?_) | refine adB_split (fun hb => ?_) (fun hb => ?_)) <;> simp -implicitDefEqProofs only [hb, go_sem, tyasz, bx_zero, bx_fine, Nat.reduceAdd, Nat.reduceMul, Nat.reduceLeDiff, Nat.reduceEqDiff, reduceCtorEq, Nat.reduceSub, Int.reduceNeg, Nat.reduceMod, Nat.reduceBEq, Nat.reduceLT] <;> try simp only [qa, qb, qc, qd, qe, qf, qg, bOf_t, bOf_f] at hb))
      all_goals first
        | rfl
        | omega
        | exact bx_outP
        | (rw [bx_outI]; exact .nil)
        | (rw [bx_outZ]; simp; done)
        | skip
      all_goals trace_state

def c118 : Ct := ctR (lc AStr (lc AStr l0)) (fun p => p.2.1.size ≤ 1000 ∧ 2 ≤ p.2.1.size ∧ p.1.size ≤ 2000000 ∧ ∀ j, j < p.2.1.size → byteAt p.2.1 j < 128) (fun p => .t (.v (.string (trL (setN p.2.1 p.2.1.size) (trR (setN p.2.1 p.2.1.size) p.1)))))
theorem good118 {G : Gt} (hG : OkG G) (h132 : G.e 132 = roEnt 0 c132) (h133 : G.e 133 = roEnt 0 c133) (h134 : G.e 134 = roEnt 0 c134) : Gd G 118 (roEnt 0 c118) := by
  refine gR (dp := fun _ => true) (fn := Tryz.f118) (n := 2) (fun _ => rfl) (by kernel_rfl) rfl (by kernel_rfl) hG (Nat.le_of_ble_eq_true rfl) (by kernel_rfl) (by decide) (fun _ _ => .v _) ?_
  rintro ⟨s, cs, ⟨⟩⟩ hpre
  simp -implicitDefEqProofs only [Tryz.f118, go_sem, h132, c132, h133, c133, h134, c134, tyasz, bx_zero, bx_fine, bx_drop0, b256_len, ABs_dec, ABs_enc, Nat.reduceAdd, Nat.reduceMul, Nat.reduceLeDiff, Nat.reduceEqDiff, reduceCtorEq, Nat.reduceSub, Int.reduceNeg, Nat.reduceMod, Nat.reduceBEq, Nat.reduceLT] at hpre ⊢

  have hc : ¬ cs = ⟨#[]⟩ := by intro e; rw [e] at hpre; exact absurd hpre.2.1 (by decide)
  have h1 : ¬ (cs.size : Int) = 1 := by omega
  have hlen := setN_len cs cs.size
  have htr : (trR (setN cs cs.size) s).size ≤ s.size := trR_le _ s
  by_cases hs : s = ⟨#[]⟩
  · simp -implicitDefEqProofs only [hs, go_sem, h132, c132, h133, c133, h134, c134, tyasz, bx_zero, bx_fine, bx_drop0, b256_len, ABs_dec, ABs_enc, Nat.reduceAdd, Nat.reduceMul, Nat.reduceLeDiff, Nat.reduceEqDiff, reduceCtorEq, Nat.reduceSub, Int.reduceNeg, Nat.reduceMod, Nat.reduceBEq, Nat.reduceLT]
    repeat' (first | with_reducible apply And.intro | with_reducible intro _ | ((first | refine brB_split (fun hb => ?_) (fun hb => ?_) | refine aPickB_split (fun hb => ?_) (fun hb => ?_) | refine gB_split (fun hb => ?_) (fun hb => ?_) | refine adB_split (fun hb => ?_) (fun hb => ?_)) <;> simp -implicitDefEqProofs only [hb, go_sem, h132, c132, h133, c133, h134, c134, tyasz, bx_zero, bx_fine, bx_drop0, b256_len, ABs_dec, ABs_enc, Nat.reduceAdd, Nat.reduceMul, Nat.reduceLeDiff, Nat.reduceEqDiff, reduceCtorEq, Nat.reduceSub, Int.reduceNeg, Nat.reduceMod, Nat.reduceBEq, Nat.reduceLT] <;> try simp only [qa, qb, qc, qd, qe, qf, qg, bOf_t, bOf_f] at hb))
    all_goals first | rfl | omega | skip
    all_goals (rw [trR_nil, trL_nil])
  · simp -implicitDefEqProofs only [hs, hc, h1, bx_intern, bx_has, bx_dropm, bx_len, hlen, b256_len, bx_drop0, bx_snap, List.append_nil, List.nil_append, Nat.zero_add, go_sem, h132, c132, h133, c133, h134, c134, tyasz, bx_zero, bx_fine, bx_drop0, b256_len, ABs_dec, ABs_enc, Nat.reduceAdd, Nat.reduceMul, Nat.reduceLeDiff, Nat.reduceEqDiff, reduceCtorEq, Nat.reduceSub, Int.reduceNeg, Nat.reduceMod, Nat.reduceBEq, Nat.reduceLT]
    repeat' (first | with_reducible apply And.intro | with_reducible intro _ | ((first | refine brB_split (fun hb => ?_) (fun hb => ?_) | refine aPickB_split (fun hb => ?_) (fun hb => ?_) | refine gB_split (fun hb => ?_) (fun hb => ?_) | refine adB_split (fun hb => ?_) (fun hb => ?_)) <;> simp -implicitDefEqProofs only [hb, go_sem, h132, c132, h133, c133, h134, c134, tyasz, bx_zero, bx_fine, bx_drop0, b256_len, ABs_dec, ABs_enc, Nat.reduceAdd, Nat.reduceMul, Nat.reduceLeDiff, Nat.reduceEqDiff, reduceCtorEq, Nat.reduceSub, Int.reduceNeg, Nat.reduceMod, Nat.reduceBEq, Nat.reduceLT] <;> try simp only [qa, qb, qc, qd, qe, qf, qg, bOf_t, bOf_f] at hb))
    all_goals first | rfl | omega | exact hpre.2.2.2 | exact hpre.2.2.2 _ (by assumption) | skip
    all_goals trace_state


theorem size0 {s : ByteArray} (h : s.size = 0) : s = ⟨#[]⟩ := by
  have : bl s = [] := List.eq_nil_of_length_eq_zero (by rw [bl_len]; exact h)
  exact bl_inj this
theorem byteAt_ext {s : ByteArray} {a b j : Nat} (h : a + j < b) : byteAt (s.extract a b) j = byteAt s (a + j) := by
  rw [byteAt_bl, byteAt_bl, bl_extract]
  congr 2
  simp only [List.getD_eq_getElem?_getD]
  rw [List.getElem?_take_of_lt (by omega), List.getElem?_drop]
section
variable {l : List Bool}
theorem trR_ne {s : ByteArray} (h : s.size ≠ 0) : trR l s = bif l.getD (byteAt s (s.size - 1)).toNat false then trR l (s.extract 0 (s.size - 1)) else s := by rw [trR, dif_neg h]
theorem trL_ne {s : ByteArray} (h : s.size ≠ 0) : trL l s = bif l.getD (byteAt s 0).toNat false then trL l (s.extract 1 s.size) else s := by rw [trL, dif_neg h]
theorem trR_all {s : ByteArray} (h : ∀ j, j < s.size → l.getD (byteAt s j).toNat false = true) : trR l s = ⟨#[]⟩ := by
  by_cases h0 : s.size = 0
  · rw [size0 h0, trR_nil]
  · rw [trR_ne h0, h (s.size - 1) (by omega), cond_true]
    refine trR_all fun j hj => ?_
    rw [ByteArray.size_extract] at hj
    rw [byteAt_ext (by omega), Nat.zero_add]
    exact h j (by omega)
termination_by s.size
decreasing_by rw [ByteArray.size_extract]; omega
theorem trL_emp {s : ByteArray} (h : trL l s = ⟨#[]⟩) : ∀ j, j < s.size → l.getD (byteAt s j).toNat false = true := by
  intro j hj
  have h0 : s.size ≠ 0 := by omega
  rw [trL_ne h0] at h
  cases hb : l.getD (byteAt s 0).toNat false
  · rw [hb, cond_false] at h
    rw [h] at hj
    cases hj
  · rw [hb, cond_true] at h
    by_cases hj0 : j = 0
    · rw [hj0]; exact hb
    · have := trL_emp h (j - 1) (by rw [ByteArray.size_extract]; omega)
      rw [byteAt_ext (by omega)] at this
      rw [show 1 + (j - 1) = j by omega] at this
      exact this
termination_by s.size
decreasing_by rw [ByteArray.size_extract]; omega
theorem trR_emp {s : ByteArray} (h : ∀ j, j < (trR l s).size → l.getD (byteAt (trR l s) j).toNat false = true) : ∀ j, j < s.size → l.getD (byteAt s j).toNat false = true := by
  intro j hj
  have h0 : s.size ≠ 0 := by omega
  rw [trR_ne h0] at h
  cases hb : l.getD (byteAt s (s.size - 1)).toNat false
  · rw [hb, cond_false] at h
    exact h j hj
  · rw [hb, cond_true] at h
    by_cases hj0 : j = s.size - 1
    · rw [hj0]; exact hb
    · have := trR_emp h j (by rw [ByteArray.size_extract]; omega)
      rw [byteAt_ext (by omega), Nat.zero_add] at this
      exact this
termination_by s.size
decreasing_by rw [ByteArray.size_extract]; omega
theorem tr_iff (s : ByteArray) : trL l (trR l s) = ⟨#[]⟩ ↔ ∀ j, j < s.size → l.getD (byteAt s j).toNat false = true :=
  ⟨fun h => trR_emp (trL_emp h), fun h => by rw [trR_all h, trL_nil]⟩
end
def lcs : ByteArray := ⟨#[97, 98, 99, 100, 101, 102, 103, 104, 105, 106, 107, 108, 109, 110, 111, 112, 113, 114, 115, 116, 117, 118, 119, 120, 121, 122, 48, 49, 50, 51, 52, 53, 54, 55, 56, 57]⟩
theorem lcs_get : ∀ k : Nat, k < 256 → (setN lcs 36).getD k false = ((Nat.ble 97 k && Nat.ble k 122) || (Nat.ble 48 k && Nat.ble k 57)) := by decide +kernel
theorem lcs_iff (s : ByteArray) : trL (setN lcs 36) (trR (setN lcs 36) s) = ⟨#[]⟩ ↔ ∀ j, j < s.size → isLc (byteAt s j) := by
  rw [tr_iff]
  refine forall_congr' fun j => imp_congr_right fun _ => ?_
  have h := byteAt_range s j
  rw [lcs_get _ (by omega)]
  simp only [Bool.or_eq_true, Bool.and_eq_true, Nat.ble_eq]
  unfold isLc
  omega
theorem bl_app (a b : ByteArray) : bl (a ++ b) = bl a ++ bl b := by
  unfold bl; rw [ByteArray.data_append, Array.toList_append]
theorem ends_dot (s e : ByteArray) : Ends s e ↔ s = e ∨ ((⟨#[46]⟩ : ByteArray).size + e.size ≤ s.size ∧ s.extract (s.size - ((⟨#[46]⟩ : ByteArray).size + e.size)) s.size = ⟨#[46]⟩ ++ e) := by
  unfold Ends
  refine or_congr_right ?_
  have h1 : (⟨#[46]⟩ : ByteArray).size = 1 := rfl
  rw [h1]
  by_cases hs : 1 + e.size ≤ s.size
  · obtain ⟨n, hn⟩ : ∃ n, s.size - (1 + e.size) = n := ⟨_, rfl⟩
    have e1 : s.size - e.size = n + 1 := by omega
    have e2 : s.size - e.size - 1 = n := by omega
    rw [hn, e1, Nat.add_sub_cancel]
    have q : ∀ k, bl (s.extract k s.size) = (bl s).drop k := fun k => by
      rw [bl_extract, List.take_of_length_le (by rw [List.length_drop, bl_len]; exact Nat.le_refl _)]
    have d := drop_byte (s := s) (i := n) (by omega)
    constructor
    · rintro ⟨_, h2, h3⟩
      refine ⟨hs, bl_inj ?_⟩
      rw [bl_app, q, d, ← h2, q]
      rw [byteAt_bl] at h3
      have : (bl s).getD n 0 = 46 := UInt8.toNat_inj.1 (by show ((bl s).getD n 0).toNat = 46; omega)
      rw [this]; rfl
    · rintro ⟨_, h2⟩
      have h3 := congrArg bl h2
      rw [bl_app, q, d] at h3
      have h4 : (bl s).getD n 0 :: (bl s).drop (n + 1) = 46 :: bl e := h3
      injection h4 with h5 h6
      refine ⟨by omega, bl_inj (by rw [q]; exact h6), ?_⟩
      rw [byteAt_bl, h5]; rfl
  · constructor
    · rintro ⟨h, _⟩; omega
    · rintro ⟨h, _⟩; omega
theorem dotc : UInt8.ofNat (byteAt ⟨#[46]⟩ 0).toNat = 46 := rfl
theorem lcs_low : ∀ j, j < 36 → byteAt lcs j < 128 := by decide +kernel
def c119 : Ct := ctR (lc AStr (lc AStr l0)) (fun p => p.2.1.size = 1 ∧ p.1.size ≤ 2000000) (fun p => .o true 1 ((spl p.1 (UInt8.ofNat (byteAt p.2.1 0).toNat)).map encStr))
theorem good119 {G : Gt} (hG : OkG G) (h137 : G.e 137 = roEnt 0 c137) : Gd G 119 (roEnt 0 c119) := by
  refine gR (dp := fun _ => true) (fn := Tryz.f119) (n := 2) (fun _ => rfl) (by kernel_rfl) rfl (by kernel_rfl) hG (Nat.le_of_ble_eq_true rfl) (by kernel_rfl) (by decide) (fun _ _ => .deep _ _) ?_
  rintro ⟨s, sep, ⟨⟩⟩ hpre
  simp -implicitDefEqProofs only [Tryz.f119, go_sem, h137, c137, Nat.reduceAdd, Nat.reduceMul, Nat.reduceLeDiff, Nat.reduceEqDiff, reduceCtorEq, Nat.reduceSub, Int.reduceNeg, Nat.reduceMod, Nat.reduceBEq, Nat.reduceLT] at hpre ⊢

  repeat' (first | with_reducible apply And.intro | with_reducible intro _ | ((first | refine brB_split (fun hb => ?_) (fun hb => ?_) | refine aPickB_split (fun hb => ?_) (fun hb => ?_) | refine gB_split (fun hb => ?_) (fun hb => ?_) | refine adB_split (fun hb => ?_) (fun hb => ?_)) <;> simp -implicitDefEqProofs only [hb, go_sem, h137, c137, Nat.reduceAdd, Nat.reduceMul, Nat.reduceLeDiff, Nat.reduceEqDiff, reduceCtorEq, Nat.reduceSub, Int.reduceNeg, Nat.reduceMod, Nat.reduceBEq, Nat.reduceLT] <;> try simp only [qa, qb, qc, qd, qe, qf, qg, bOf_t, bOf_f] at hb))
  all_goals first | rfl | omega | (simp; done) | skip

def c40 : Ct := ctR (lc AInt (lc AInt (lc AInt l0))) (fun p => True) (fun p => .t (.v (.bool (bOf (p.2.1 ≤ p.1 ∧ p.1 ≤ p.2.2.1)))))
theorem good40 {G : Gt} (hG : OkG G) : Gd G 40 (roEnt 0 c40) := by
  refine gR (dp := fun _ => true) (fn := Tryz.f40) (n := 3) (fun _ => rfl) (by kernel_rfl) rfl (by kernel_rfl) hG (Nat.le_of_ble_eq_true rfl) (by kernel_rfl) (by decide) (fun _ _ => .v _) ?_
  rintro ⟨n, a, b, ⟨⟩⟩ hpre
  simp -implicitDefEqProofs only [Tryz.f40, go_sem, Nat.reduceAdd, Nat.reduceMul, Nat.reduceLeDiff, Nat.reduceEqDiff, reduceCtorEq, Nat.reduceSub, Int.reduceNeg, Nat.reduceMod, Nat.reduceBEq, Nat.reduceLT] at hpre ⊢

  repeat' (first | with_reducible apply And.intro | with_reducible intro _ | ((first | refine brB_split (fun hb => ?_) (fun hb => ?_) | refine aPickB_split (fun hb => ?_) (fun hb => ?_) | refine gB_split (fun hb => ?_) (fun hb => ?_) | refine adB_split (fun hb => ?_) (fun hb => ?_)) <;> simp -implicitDefEqProofs only [hb, go_sem, Nat.reduceAdd, Nat.reduceMul, Nat.reduceLeDiff, Nat.reduceEqDiff, reduceCtorEq, Nat.reduceSub, Int.reduceNeg, Nat.reduceMod, Nat.reduceBEq, Nat.reduceLT] <;> try simp only [qa, qb, qc, qd, qe, qf, qg, bOf_t, bOf_f] at hb))
  all_goals first | rfl | omega | skip
  all_goals first
    | (rw [bOf_d]; simp only [*]; done)
    | (rw [bOf_d]; simp [*])

def c117 : Ct := ctR (lc AStr l0) (fun p => p.1.size ≤ 2000000) (fun p => .t (.v (.bool (bOf (Lin p.1)))))
theorem good117 {G : Gt} (hG : OkG G) : Gd G 117 (roEnt 0 c117) := by
  refine gR (dp := fun _ => true) (fn := Tryz.f117) (n := 1) (fun _ => rfl) (by kernel_rfl) rfl (by kernel_rfl) hG (Nat.le_of_ble_eq_true rfl) (by kernel_rfl) (by decide) (fun _ _ => .v _) ?_
  rintro ⟨s, ⟨⟩⟩ hpre
  simp -implicitDefEqProofs only [Tryz.f117, go_sem, Nat.reduceAdd, Nat.reduceMul, Nat.reduceLeDiff, Nat.reduceEqDiff, reduceCtorEq, Nat.reduceSub, Int.reduceNeg, Nat.reduceMod, Nat.reduceBEq, Nat.reduceLT] at hpre ⊢

  repeat' (first | with_reducible apply And.intro | with_reducible intro _ | ((first | refine brB_split (fun hb => ?_) (fun hb => ?_) | refine aPickB_split (fun hb => ?_) (fun hb => ?_) | refine gB_split (fun hb => ?_) (fun hb => ?_) | refine adB_split (fun hb => ?_) (fun hb => ?_)) <;> simp -implicitDefEqProofs only [hb, go_sem, Nat.reduceAdd, Nat.reduceMul, Nat.reduceLeDiff, Nat.reduceEqDiff, reduceCtorEq, Nat.reduceSub, Int.reduceNeg, Nat.reduceMod, Nat.reduceBEq, Nat.reduceLT] <;> try simp only [qa, qb, qc, qd, qe, qf, qg, bOf_t, bOf_f] at hb))
  all_goals first | rfl | omega | skip
  refine run_loop [] (ι := {i : Nat // i ≤ s.size ∧ ∀ j, j < i → 32 ≤ byteAt s j ∧ byteAt s j ≤ 126}) (fun p => ⟨[(0, .t (.v (.string s))), (5, .t (.v (.int .i64 s.size))), (6, .t (.v (.int .i64 p.1)))], []⟩) (fun p => s.size - p.1) ⟨0, Nat.zero_le _, fun j hj => absurd hj (Nat.not_lt_zero _)⟩ rfl ?_ ?_
  · simp -implicitDefEqProofs only [go_sem, Nat.reduceAdd, Nat.reduceMul, Nat.reduceLeDiff, Nat.reduceEqDiff, reduceCtorEq, Nat.reduceSub, Int.reduceNeg, Nat.reduceMod, Nat.reduceBEq, Nat.reduceLT]
    try simp
  · rintro ⟨i, hi, hall⟩
    by_cases hlt : (i : Int) < s.size
    · by_cases h1 : byteAt s (i : Int).toNat < 32
      · simp -implicitDefEqProofs only [hlt, h1, go_sem, Nat.reduceAdd, Nat.reduceMul, Nat.reduceLeDiff, Nat.reduceEqDiff, reduceCtorEq, Nat.reduceSub, Int.reduceNeg, Nat.reduceMod, Nat.reduceBEq, Nat.reduceLT]
        repeat' (first | with_reducible apply And.intro | with_reducible intro _ | ((first | refine brB_split (fun hb => ?_) (fun hb => ?_) | refine aPickB_split (fun hb => ?_) (fun hb => ?_) | refine gB_split (fun hb => ?_) (fun hb => ?_) | refine adB_split (fun hb => ?_) (fun hb => ?_)) <;> simp -implicitDefEqProofs only [hb, go_sem, Nat.reduceAdd, Nat.reduceMul, Nat.reduceLeDiff, Nat.reduceEqDiff, reduceCtorEq, Nat.reduceSub, Int.reduceNeg, Nat.reduceMod, Nat.reduceBEq, Nat.reduceLT] <;> try simp only [qa, qb, qc, qd, qe, qf, qg, bOf_t, bOf_f] at hb))
        all_goals (try simp only [maxLen, Int.toNat_natCast] at *)
        all_goals first | rfl | omega | skip
        rw [bOf_n (fun h => by have := (h.1 i (by omega)).1; omega)]
      · by_cases h2 : byteAt s (i : Int).toNat > 126
        · simp -implicitDefEqProofs only [hlt, h1, h2, go_sem, Nat.reduceAdd, Nat.reduceMul, Nat.reduceLeDiff, Nat.reduceEqDiff, reduceCtorEq, Nat.reduceSub, Int.reduceNeg, Nat.reduceMod, Nat.reduceBEq, Nat.reduceLT]
          repeat' (first | with_reducible apply And.intro | with_reducible intro _ | ((first | refine brB_split (fun hb => ?_) (fun hb => ?_) | refine aPickB_split (fun hb => ?_) (fun hb => ?_) | refine gB_split (fun hb => ?_) (fun hb => ?_) | refine adB_split (fun hb => ?_) (fun hb => ?_)) <;> simp -implicitDefEqProofs only [hb, go_sem, Nat.reduceAdd, Nat.reduceMul, Nat.reduceLeDiff, Nat.reduceEqDiff, reduceCtorEq, Nat.reduceSub, Int.reduceNeg, Nat.reduceMod, Nat.reduceBEq, Nat.reduceLT] <;> try simp only [qa, qb, qc, qd, qe, qf, qg, bOf_t, bOf_f] at hb))
          all_goals (try simp only [maxLen, Int.toNat_natCast] at *)
          all_goals first | rfl | omega | skip
          rw [bOf_n (fun h => by have := (h.1 i (by omega)).2; omega)]
        · simp -implicitDefEqProofs only [hlt, h1, h2, go_sem, Nat.reduceAdd, Nat.reduceMul, Nat.reduceLeDiff, Nat.reduceEqDiff, reduceCtorEq, Nat.reduceSub, Int.reduceNeg, Nat.reduceMod, Nat.reduceBEq, Nat.reduceLT]
          repeat' (first | with_reducible apply And.intro | with_reducible intro _ | ((first | refine brB_split (fun hb => ?_) (fun hb => ?_) | refine aPickB_split (fun hb => ?_) (fun hb => ?_) | refine gB_split (fun hb => ?_) (fun hb => ?_) | refine adB_split (fun hb => ?_) (fun hb => ?_)) <;> simp -implicitDefEqProofs only [hb, go_sem, Nat.reduceAdd, Nat.reduceMul, Nat.reduceLeDiff, Nat.reduceEqDiff, reduceCtorEq, Nat.reduceSub, Int.reduceNeg, Nat.reduceMod, Nat.reduceBEq, Nat.reduceLT] <;> try simp only [qa, qb, qc, qd, qe, qf, qg, bOf_t, bOf_f] at hb))
          all_goals (try simp only [maxLen, Int.toNat_natCast] at *)
          all_goals first | rfl | omega | skip
          refine ⟨⟨i + 1, by omega, fun j hj => ?_⟩, by dsimp only; omega, ?_⟩
          · by_cases e : j = i
            · subst e; omega
            · exact hall j (by omega)
          · simp -implicitDefEqProofs only [go_sem, Nat.reduceAdd, Nat.reduceMul, Nat.reduceLeDiff, Nat.reduceEqDiff, reduceCtorEq, Nat.reduceSub, Int.reduceNeg, Nat.reduceMod, Nat.reduceBEq, Nat.reduceLT]
            try simp
    · simp -implicitDefEqProofs only [hlt, go_sem, Nat.reduceAdd, Nat.reduceMul, Nat.reduceLeDiff, Nat.reduceEqDiff, reduceCtorEq, Nat.reduceSub, Int.reduceNeg, Nat.reduceMod, Nat.reduceBEq, Nat.reduceLT]
      repeat' (first | with_reducible apply And.intro | with_reducible intro _ | ((first | refine brB_split (fun hb => ?_) (fun hb => ?_) | refine aPickB_split (fun hb => ?_) (fun hb => ?_) | refine gB_split (fun hb => ?_) (fun hb => ?_) | refine adB_split (fun hb => ?_) (fun hb => ?_)) <;> simp -implicitDefEqProofs only [hb, go_sem, Nat.reduceAdd, Nat.reduceMul, Nat.reduceLeDiff, Nat.reduceEqDiff, reduceCtorEq, Nat.reduceSub, Int.reduceNeg, Nat.reduceMod, Nat.reduceBEq, Nat.reduceLT] <;> try simp only [qa, qb, qc, qd, qe, qf, qg, bOf_t, bOf_f] at hb))
      all_goals (try simp only [maxLen, Int.toNat_natCast] at *)
      all_goals first | rfl | omega | skip
      rw [← bOf_d, bOf_congr]
      exact ⟨fun h => ⟨fun j hj => hall j (by omega), by omega⟩, fun h => by have := h.2; omega⟩

def c88 : Ct := ctR (lc AStr l0) (fun p => True) (fun p => .t (.v (.bool (bOf (Lbl p.1)))))
theorem good88 {G : Gt} (hG : OkG G) (h40 : G.e 40 = roEnt 0 c40) (h118 : G.e 118 = roEnt 0 c118) : Gd G 88 (roEnt 0 c88) := by
  refine gR (dp := fun _ => true) (fn := Tryz.f88) (n := 1) (fun _ => rfl) (by kernel_rfl) rfl (by kernel_rfl) hG (Nat.le_of_ble_eq_true rfl) (by kernel_rfl) (by decide) (fun _ _ => .v _) ?_
  rintro ⟨s, ⟨⟩⟩ hpre
  simp -implicitDefEqProofs only [Tryz.f88, go_sem, h40, c40, h118, c118, bOf_t, bOf_f, Nat.reduceAdd, Nat.reduceMul, Nat.reduceLeDiff, Nat.reduceEqDiff, reduceCtorEq, Nat.reduceSub, Int.reduceNeg, Nat.reduceMod, Nat.reduceBEq, Nat.reduceLT] at hpre ⊢

  repeat' (first | with_reducible apply And.intro | with_reducible intro _ | ((first | refine brB_split (fun hb => ?_) (fun hb => ?_) | refine aPickB_split (fun hb => ?_) (fun hb => ?_) | refine gB_split (fun hb => ?_) (fun hb => ?_) | refine adB_split (fun hb => ?_) (fun hb => ?_)) <;> simp -implicitDefEqProofs only [hb, go_sem, h40, c40, h118, c118, bOf_t, bOf_f, Nat.reduceAdd, Nat.reduceMul, Nat.reduceLeDiff, Nat.reduceEqDiff, reduceCtorEq, Nat.reduceSub, Int.reduceNeg, Nat.reduceMod, Nat.reduceBEq, Nat.reduceLT] <;> try simp only [qa, qb, qc, qd, qe, qf, qg, bOf_t, bOf_f] at hb))
  all_goals first | rfl | omega | exact lcs_low _ (by assumption) | (simp; done) | skip
  · show T.v (.bool (decide (trL (setN lcs 36) (trR (setN lcs 36) s) = ⟨#[]⟩))) = _
    rw [← bOf_d]
    refine congrArg (fun b => T.v (.bool b)) (bOf_congr ((lcs_iff s).trans ?_))
    exact ⟨fun h => ⟨h, by omega, by omega⟩, fun h => h.1⟩
  · rw [bOf_n (fun h => hb ⟨by have := h.2.1; omega, by have := h.2.2; omega⟩)]

def c89 : Ct := ctR (lc AStr l0) (fun p => p.1.size ≤ 2000000) (fun p => .t (.v (.bool (bOf (Dom p.1)))))
theorem good89 {G : Gt} (hG : OkG G) (h119 : G.e 119 = roEnt 0 c119) (h88 : G.e 88 = roEnt 0 c88) : Gd G 89 (roEnt 0 c89) := by
  refine gR (dp := fun _ => true) (fn := Tryz.f89) (n := 1) (fun _ => rfl) (by kernel_rfl) rfl (by kernel_rfl) hG (Nat.le_of_ble_eq_true rfl) (by kernel_rfl) (by decide) (fun _ _ => .v _) ?_
  rintro ⟨s, ⟨⟩⟩ hpre
  simp -implicitDefEqProofs only [Tryz.f89, go_sem, h119, c119, h88, c88, dotc, aSet_map, aCell_map, List.length_map, Bool.not_true, Bool.not_false, Nat.reduceAdd, Nat.reduceMul, Nat.reduceLeDiff, Nat.reduceEqDiff, reduceCtorEq, Nat.reduceSub, Int.reduceNeg, Nat.reduceMod, Nat.reduceBEq, Nat.reduceLT] at hpre ⊢

  repeat' (first | with_reducible apply And.intro | with_reducible intro _ | ((first | refine brB_split (fun hb => ?_) (fun hb => ?_) | refine aPickB_split (fun hb => ?_) (fun hb => ?_) | refine gB_split (fun hb => ?_) (fun hb => ?_) | refine adB_split (fun hb => ?_) (fun hb => ?_)) <;> simp -implicitDefEqProofs only [hb, go_sem, h119, c119, h88, c88, dotc, aSet_map, aCell_map, List.length_map, Bool.not_true, Bool.not_false, Nat.reduceAdd, Nat.reduceMul, Nat.reduceLeDiff, Nat.reduceEqDiff, reduceCtorEq, Nat.reduceSub, Int.reduceNeg, Nat.reduceMod, Nat.reduceBEq, Nat.reduceLT] <;> try simp only [qa, qb, qc, qd, qe, qf, qg, bOf_t, bOf_f] at hb))
  all_goals first | rfl | omega | skip
  have hlen := spl_len s 46
  have hcnt := cnt_le s 46
  refine run_loop [] (ι := {i : Nat // i ≤ (spl s 46).length ∧ ∀ j, j < i → Lbl ((spl s 46).getD j default)}) (fun p => ⟨[(3, .h 1007), (8, .h 1007), (9, .t (.v (.int .i64 (spl s 46).length))), (10, .t (.v (.int .i64 p.1)))], [(1007, some (.arr true 1 ((spl s 46).map encStr)))]⟩) (fun p => (spl s 46).length - p.1) ⟨0, Nat.zero_le _, fun j hj => absurd hj (Nat.not_lt_zero _)⟩ rfl ?_ ?_
  · simp -implicitDefEqProofs only [go_sem, h119, c119, h88, c88, dotc, aSet_map, aCell_map, List.length_map, Bool.not_true, Bool.not_false, Nat.reduceAdd, Nat.reduceMul, Nat.reduceLeDiff, Nat.reduceEqDiff, reduceCtorEq, Nat.reduceSub, Int.reduceNeg, Nat.reduceMod, Nat.reduceBEq, Nat.reduceLT]
    try simp
  · rintro ⟨i, hi, hall⟩
    by_cases hlt : (i : Int) < (spl s 46).length
    · cases hb : bOf (Lbl ((spl s 46).getD (i : Int).toNat default))
      · simp -implicitDefEqProofs only [hlt, hb, go_sem, h119, c119, h88, c88, dotc, aSet_map, aCell_map, List.length_map, Bool.not_true, Bool.not_false, Nat.reduceAdd, Nat.reduceMul, Nat.reduceLeDiff, Nat.reduceEqDiff, reduceCtorEq, Nat.reduceSub, Int.reduceNeg, Nat.reduceMod, Nat.reduceBEq, Nat.reduceLT]
        repeat' (first | with_reducible apply And.intro | with_reducible intro _ | ((first | refine brB_split (fun hb => ?_) (fun hb => ?_) | refine aPickB_split (fun hb => ?_) (fun hb => ?_) | refine gB_split (fun hb => ?_) (fun hb => ?_) | refine adB_split (fun hb => ?_) (fun hb => ?_)) <;> simp -implicitDefEqProofs only [hb, go_sem, h119, c119, h88, c88, dotc, aSet_map, aCell_map, List.length_map, Bool.not_true, Bool.not_false, Nat.reduceAdd, Nat.reduceMul, Nat.reduceLeDiff, Nat.reduceEqDiff, reduceCtorEq, Nat.reduceSub, Int.reduceNeg, Nat.reduceMod, Nat.reduceBEq, Nat.reduceLT] <;> try simp only [qa, qb, qc, qd, qe, qf, qg, bOf_t, bOf_f] at hb))
        all_goals (try simp only [maxLen, Int.toNat_natCast, bOf_f] at *)
        all_goals first | rfl | omega | skip
        rw [bOf_n (fun h => hb (((Dom_spl s).1 h).1 _ (getD_mem (by omega))))]
      · simp -implicitDefEqProofs only [hlt, hb, go_sem, h119, c119, h88, c88, dotc, aSet_map, aCell_map, List.length_map, Bool.not_true, Bool.not_false, Nat.reduceAdd, Nat.reduceMul, Nat.reduceLeDiff, Nat.reduceEqDiff, reduceCtorEq, Nat.reduceSub, Int.reduceNeg, Nat.reduceMod, Nat.reduceBEq, Nat.reduceLT]
        repeat' (first | with_reducible apply And.intro | with_reducible intro _ | ((first | refine brB_split (fun hb => ?_) (fun hb => ?_) | refine aPickB_split (fun hb => ?_) (fun hb => ?_) | refine gB_split (fun hb => ?_) (fun hb => ?_) | refine adB_split (fun hb => ?_) (fun hb => ?_)) <;> simp -implicitDefEqProofs only [hb, go_sem, h119, c119, h88, c88, dotc, aSet_map, aCell_map, List.length_map, Bool.not_true, Bool.not_false, Nat.reduceAdd, Nat.reduceMul, Nat.reduceLeDiff, Nat.reduceEqDiff, reduceCtorEq, Nat.reduceSub, Int.reduceNeg, Nat.reduceMod, Nat.reduceBEq, Nat.reduceLT] <;> try simp only [qa, qb, qc, qd, qe, qf, qg, bOf_t, bOf_f] at hb))
        all_goals (try simp only [maxLen, Int.toNat_natCast, bOf_t] at *)
        all_goals first | rfl | omega | skip
        refine ⟨⟨i + 1, by omega, all_step hall hb⟩, by dsimp only; omega, ?_⟩
        simp -implicitDefEqProofs only [go_sem, h119, c119, h88, c88, dotc, aSet_map, aCell_map, List.length_map, Bool.not_true, Bool.not_false, Nat.reduceAdd, Nat.reduceMul, Nat.reduceLeDiff, Nat.reduceEqDiff, reduceCtorEq, Nat.reduceSub, Int.reduceNeg, Nat.reduceMod, Nat.reduceBEq, Nat.reduceLT]
        simp
    · simp -implicitDefEqProofs only [hlt, go_sem, h119, c119, h88, c88, dotc, aSet_map, aCell_map, List.length_map, Bool.not_true, Bool.not_false, Nat.reduceAdd, Nat.reduceMul, Nat.reduceLeDiff, Nat.reduceEqDiff, reduceCtorEq, Nat.reduceSub, Int.reduceNeg, Nat.reduceMod, Nat.reduceBEq, Nat.reduceLT]
      repeat' (first | with_reducible apply And.intro | with_reducible intro _ | ((first | refine brB_split (fun hb => ?_) (fun hb => ?_) | refine aPickB_split (fun hb => ?_) (fun hb => ?_) | refine gB_split (fun hb => ?_) (fun hb => ?_) | refine adB_split (fun hb => ?_) (fun hb => ?_)) <;> simp -implicitDefEqProofs only [hb, go_sem, h119, c119, h88, c88, dotc, aSet_map, aCell_map, List.length_map, Bool.not_true, Bool.not_false, Nat.reduceAdd, Nat.reduceMul, Nat.reduceLeDiff, Nat.reduceEqDiff, reduceCtorEq, Nat.reduceSub, Int.reduceNeg, Nat.reduceMod, Nat.reduceBEq, Nat.reduceLT] <;> try simp only [qa, qb, qc, qd, qe, qf, qg, bOf_t, bOf_f] at hb))
      all_goals first | rfl | omega | skip
      rw [← bOf_d, bOf_congr (Dom_spl s)]
      refine congrArg (fun b => T.v (.bool b)) (bOf_congr ?_)
      exact ⟨fun h => ⟨mem_getD fun j hj => hall j (by omega), by omega⟩, fun h => by have := h.2; omega⟩

def c41 : Ct := ctR (lc EAd.ag l0) (fun p => p.1.domain.size ≤ 2000000) (fun p => .t (.v (.bool (bOf (AdOk p.1)))))
theorem good41 {G : Gt} (hG : OkG G) (h88 : G.e 88 = roEnt 0 c88) (h89 : G.e 89 = roEnt 0 c89) : Gd G 41 (roEnt 0 c41) := by
  refine gR (dp := fun _ => true) (fn := Tryz.f41) (n := 1) (fun _ => rfl) (by kernel_rfl) rfl (by kernel_rfl) hG (Nat.le_of_ble_eq_true rfl) (by kernel_rfl) (by decide) (fun _ _ => .v _) ?_
  rintro ⟨a, ⟨⟩⟩ hpre
  simp -implicitDefEqProofs only [Tryz.f41, go_sem, h88, c88, h89, c89, Nat.reduceAdd, Nat.reduceMul, Nat.reduceLeDiff, Nat.reduceEqDiff, reduceCtorEq, Nat.reduceSub, Int.reduceNeg, Nat.reduceMod, Nat.reduceBEq, Nat.reduceLT] at hpre ⊢

  repeat' (first | with_reducible apply And.intro | with_reducible intro _ | ((first | refine brB_split (fun hb => ?_) (fun hb => ?_) | refine aPickB_split (fun hb => ?_) (fun hb => ?_) | refine gB_split (fun hb => ?_) (fun hb => ?_) | refine adB_split (fun hb => ?_) (fun hb => ?_)) <;> simp -implicitDefEqProofs only [hb, go_sem, h88, c88, h89, c89, Nat.reduceAdd, Nat.reduceMul, Nat.reduceLeDiff, Nat.reduceEqDiff, reduceCtorEq, Nat.reduceSub, Int.reduceNeg, Nat.reduceMod, Nat.reduceBEq, Nat.reduceLT] <;> try simp only [qa, qb, qc, qd, qe, qf, qg, bOf_t, bOf_f] at hb))
  all_goals (try simp only [bOf_t, bOf_f] at *)
  all_goals first | rfl | omega | skip
  · refine congrArg (fun b => T.v (.bool b)) (bOf_congr ⟨fun h => ⟨by assumption, h⟩, fun h => h.2⟩)
  · rw [bOf_n (fun h => absurd h.1 (by assumption))]

def c45 : Ct := ctR (lc EAd.ag l0) (fun p => True) (fun p => .t (.v (.bool (bOf (AdNull p.1)))))
theorem good45 {G : Gt} (hG : OkG G) : Gd G 45 (roEnt 0 c45) := by
  refine gR (dp := fun _ => true) (fn := Tryz.f45) (n := 1) (fun _ => rfl) (by kernel_rfl) rfl (by kernel_rfl) hG (Nat.le_of_ble_eq_true rfl) (by kernel_rfl) (by decide) (fun _ _ => .v _) ?_
  rintro ⟨a, ⟨⟩⟩ hpre
  simp -implicitDefEqProofs only [Tryz.f45, go_sem, Nat.reduceAdd, Nat.reduceMul, Nat.reduceLeDiff, Nat.reduceEqDiff, reduceCtorEq, Nat.reduceSub, Int.reduceNeg, Nat.reduceMod, Nat.reduceBEq, Nat.reduceLT] at hpre ⊢

  repeat' (first | with_reducible apply And.intro | with_reducible intro _ | ((first | refine brB_split (fun hb => ?_) (fun hb => ?_) | refine aPickB_split (fun hb => ?_) (fun hb => ?_) | refine gB_split (fun hb => ?_) (fun hb => ?_) | refine adB_split (fun hb => ?_) (fun hb => ?_)) <;> simp -implicitDefEqProofs only [hb, go_sem, Nat.reduceAdd, Nat.reduceMul, Nat.reduceLeDiff, Nat.reduceEqDiff, reduceCtorEq, Nat.reduceSub, Int.reduceNeg, Nat.reduceMod, Nat.reduceBEq, Nat.reduceLT] <;> try simp only [qa, qb, qc, qd, qe, qf, qg, bOf_t, bOf_f] at hb))
  all_goals first | rfl | omega | skip
  · unfold AdNull
    rw [bOf_d]
    by_cases h1 : a.user = ⟨#[]⟩ <;> by_cases h2 : a.domain = ⟨#[]⟩ <;> simp [h1, h2]

def c85 : Ct := ctR (lc EAd.ag l0) (fun p => p.1.domain.size ≤ 2000000) (fun p => .t (.v (.bool (bOf (AdOk p.1 ∨ AdNull p.1)))))
theorem good85 {G : Gt} (hG : OkG G) (h41 : G.e 41 = roEnt 0 c41) (h45 : G.e 45 = roEnt 0 c45) : Gd G 85 (roEnt 0 c85) := by
  refine gR (dp := fun _ => true) (fn := Tryz.f85) (n := 1) (fun _ => rfl) (by kernel_rfl) rfl (by kernel_rfl) hG (Nat.le_of_ble_eq_true rfl) (by kernel_rfl) (by decide) (fun _ _ => .v _) ?_
  rintro ⟨a, ⟨⟩⟩ hpre
  simp -implicitDefEqProofs only [Tryz.f85, go_sem, h41, c41, h45, c45, Nat.reduceAdd, Nat.reduceMul, Nat.reduceLeDiff, Nat.reduceEqDiff, reduceCtorEq, Nat.reduceSub, Int.reduceNeg, Nat.reduceMod, Nat.reduceBEq, Nat.reduceLT] at hpre ⊢

  repeat' (first | with_reducible apply And.intro | with_reducible intro _ | ((first | refine brB_split (fun hb => ?_) (fun hb => ?_) | refine aPickB_split (fun hb => ?_) (fun hb => ?_) | refine gB_split (fun hb => ?_) (fun hb => ?_) | refine adB_split (fun hb => ?_) (fun hb => ?_)) <;> simp -implicitDefEqProofs only [hb, go_sem, h41, c41, h45, c45, Nat.reduceAdd, Nat.reduceMul, Nat.reduceLeDiff, Nat.reduceEqDiff, reduceCtorEq, Nat.reduceSub, Int.reduceNeg, Nat.reduceMod, Nat.reduceBEq, Nat.reduceLT] <;> try simp only [qa, qb, qc, qd, qe, qf, qg, bOf_t, bOf_f] at hb))
  all_goals (try simp only [bOf_t, bOf_f] at *)
  all_goals first | rfl | omega | skip
  · rw [bOf_y (.inr (by assumption))]
  · refine congrArg (fun b => T.v (.bool b)) (bOf_congr ⟨fun h => .inl h, fun h => h.resolve_right (by assumption)⟩)


namespace Enc
variable {α : Type} (E : Enc α)
def apD : AV → Option α
  | .t (.rop c) => E.dec c
  | _ => none
/-- A pointer to it. -/
def ap : AD α where
  enc a := .t (.rop (E.enc a))
  dec := E.apD
  ed := fun a => E.ed a
  de := fun x a h => by
    unfold apD at h
    split at h
    · rw [E.de _ _ h]
    · cases h
end Enc
theorem ap_enc {α : Type} {E : Enc α} {a : α} : E.ap.enc a = .t (.rop (E.enc a)) := rfl
theorem ap_dec {α : Type} {E : Enc α} {c : List T} : E.ap.dec (.t (.rop c)) = E.dec c := rfl
theorem AFn0_dec {f : FuncId} : (AFn0 f).dec (.t (.fn f [])) = some () := if_pos rfl
theorem AFn0_enc {f : FuncId} {u : Unit} : (AFn0 f).enc u = .t (.fn f []) := rfl
/-- The first of which it holds, counted from k. -/
noncomputable def ixP {α : Type} (p : α → Prop) : Nat → List α → Int
  | _, [] => -1
  | k, x :: t => bif bOf (p x) then k else ixP p (k + 1) t
theorem ixP_yes {α : Type} [Inhabited α] {p : α → Prop} {xs : List α} {i : Nat} (h : i < xs.length) (ha : p (xs.getD i default)) : ixP p i (xs.drop i) = i := by
  rw [getD_drop h, ixP, bOf_y ha]; rfl
theorem ixP_no {α : Type} [Inhabited α] {p : α → Prop} {xs : List α} {i : Nat} (h : i < xs.length) (ha : ¬ p (xs.getD i default)) : ixP p i (xs.drop i) = ixP p (i + 1) (xs.drop (i + 1)) := by
  rw [getD_drop h, ixP, bOf_n ha]; rfl
theorem ixP_end {α : Type} {p : α → Prop} {xs : List α} {i : Nat} (h : xs.length ≤ i) : ixP p i (xs.drop i) = -1 := by
  rw [List.drop_eq_nil_of_le h, ixP]
theorem ixP_iff {α : Type} {p : α → Prop} : ∀ (xs : List α) (k : Nat), 0 ≤ ixP p k xs ↔ ∃ x ∈ xs, p x
  | [], k => by simp [ixP]
  | x :: t, k => by
    rw [ixP]
    by_cases h : p x
    · rw [bOf_y h, cond_true]
      exact ⟨fun _ => ⟨x, by simp, h⟩, fun _ => by omega⟩
    · rw [bOf_n h, cond_false, ixP_iff t (k + 1)]
      simp [h]
inductive FAd where
  | wrong 
def FAd.enc : FAd → AV
  | .wrong  => .t (.fn 90 [])
def FAd.dec : AV → Option FAd
  | .t (.fn 90 []) => some (.wrong )
  | _ => none
def FAd.sem : FAd → Ad → Prop
  | .wrong , x => ¬ AdOk x
def FAd.pre : FAd → Ad → Prop
  | .wrong , x => x.domain.size ≤ 2000000
def AFAd : AD FAd where
  enc := FAd.enc
  dec := FAd.dec
  ed := fun f => by cases f <;> rfl
  de := fun x f h => by
    unfold FAd.dec at h
    split at h <;> cases h <;> rfl
theorem AFAd_d0  : AFAd.dec (.t (.fn 90 [])) = some (.wrong ) := rfl
theorem AFAd_e0  : AFAd.enc (.wrong ) = .t (.fn 90 []) := rfl
def c90 : Ct := ctR (lc EAd.ag l0) (fun p => p.1.domain.size ≤ 2000000) (fun p => .t (.v (.bool (bOf (¬ AdOk p.1)))))
theorem good90 {G : Gt} (hG : OkG G) (h41 : G.e 41 = roEnt 0 c41) : Gd G 90 (roEnt 0 c90) := by
  refine gR (dp := fun _ => true) (fn := Tryz.f90) (n := 1) (fun _ => rfl) (by kernel_rfl) rfl (by kernel_rfl) hG (Nat.le_of_ble_eq_true rfl) (by kernel_rfl) (by decide) (fun _ _ => .v _) ?_
  rintro ⟨x, ⟨⟩⟩ hpre
  simp -implicitDefEqProofs only [Tryz.f90, go_sem, h41, c41, ap_enc, ap_dec, AFn0_dec, AFn0_enc, Bool.not_true, Bool.not_false, ty135, lv27, Nat.reduceAdd, Nat.reduceMul, Nat.reduceLeDiff, Nat.reduceEqDiff, reduceCtorEq, Nat.reduceSub, Int.reduceNeg, Nat.reduceMod, Nat.reduceBEq, Nat.reduceLT] at hpre ⊢

  repeat' (first | with_reducible apply And.intro | with_reducible intro _ | ((first | refine brB_split (fun hb => ?_) (fun hb => ?_) | refine aPickB_split (fun hb => ?_) (fun hb => ?_) | refine gB_split (fun hb => ?_) (fun hb => ?_) | refine adB_split (fun hb => ?_) (fun hb => ?_)) <;> simp -implicitDefEqProofs only [hb, go_sem, h41, c41, ap_enc, ap_dec, AFn0_dec, AFn0_enc, Bool.not_true, Bool.not_false, ty135, lv27, Nat.reduceAdd, Nat.reduceMul, Nat.reduceLeDiff, Nat.reduceEqDiff, reduceCtorEq, Nat.reduceSub, Int.reduceNeg, Nat.reduceMod, Nat.reduceBEq, Nat.reduceLT] <;> try simp only [qa, qb, qc, qd, qe, qf, qg, bOf_t, bOf_f] at hb))
  all_goals first | rfl | omega | exact hpre | skip
  all_goals (try (simp only [bOf_not]; done))
  all_goals first | rfl | (rw [bOf_d]; done) | (rw [bOf_d, decide_eq_decide.2]; simp [Ad_ext]; done) | (rw [bOf_d]; simp [Ad_ext]; done)

def c120 : Ct := ctR (lc EAd.asl (lc AFAd l0)) (fun p => ∀ x ∈ p.1, p.2.1.pre x) (fun p => .t (.v (.int .i64 (ixP p.2.1.sem 0 p.1))))
theorem good120 {G : Gt} (hG : OkG G) (h90 : G.e 90 = roEnt 0 c90) : Gd G 120 (roEnt 0 c120) := by
  refine gR (dp := fun _ => true) (fn := Tryz.f120) (n := 2) (fun _ => rfl) (by kernel_rfl) rfl (by kernel_rfl) hG (Nat.le_of_ble_eq_true rfl) (by kernel_rfl) (by decide) (fun _ _ => .v _) ?_
  rintro ⟨xs, f, ⟨⟩⟩ hpre


  have hs := hpre
  dsimp only at hs ⊢
  cases f with
  | wrong  =>
    simp -implicitDefEqProofs only [Tryz.f120, go_sem, h90, c90, ap_enc, ap_dec, AFn0_dec, AFn0_enc, Bool.not_true, Bool.not_false, ty135, lv27, AFAd_d0, AFAd_e0, Nat.reduceAdd, Nat.reduceMul, Nat.reduceLeDiff, Nat.reduceEqDiff, reduceCtorEq, Nat.reduceSub, Int.reduceNeg, Nat.reduceMod, Nat.reduceBEq, Nat.reduceLT]
    repeat' (first | with_reducible apply And.intro | with_reducible intro _ | ((first | refine brB_split (fun hb => ?_) (fun hb => ?_) | refine aPickB_split (fun hb => ?_) (fun hb => ?_) | refine gB_split (fun hb => ?_) (fun hb => ?_) | refine adB_split (fun hb => ?_) (fun hb => ?_)) <;> simp -implicitDefEqProofs only [hb, go_sem, h90, c90, ap_enc, ap_dec, AFn0_dec, AFn0_enc, Bool.not_true, Bool.not_false, ty135, lv27, AFAd_d0, AFAd_e0, Nat.reduceAdd, Nat.reduceMul, Nat.reduceLeDiff, Nat.reduceEqDiff, reduceCtorEq, Nat.reduceSub, Int.reduceNeg, Nat.reduceMod, Nat.reduceBEq, Nat.reduceLT] <;> try simp only [qa, qb, qc, qd, qe, qf, qg, bOf_t, bOf_f] at hb))
    all_goals first | rfl | omega | skip
    refine run_loop [] (ι := {i : Nat // i ≤ xs.length ∧ ixP (FAd.sem (.wrong )) 0 xs = ixP (FAd.sem (.wrong )) i (xs.drop i)}) (fun p => ⟨[(0, .t (.sl 2 (xs.map encAd))), (1, .t (.fn 90 [])), (7, .t (.v (.int .i64 xs.length))), (8, .t (.v (.int .i64 p.1)))], []⟩) (fun p => xs.length - p.1) ⟨0, Nat.zero_le _, rfl⟩ rfl ?_ ?_
    · simp -implicitDefEqProofs only [go_sem, h90, c90, ap_enc, ap_dec, AFn0_dec, AFn0_enc, Bool.not_true, Bool.not_false, ty135, lv27, AFAd_d0, AFAd_e0, Nat.reduceAdd, Nat.reduceMul, Nat.reduceLeDiff, Nat.reduceEqDiff, reduceCtorEq, Nat.reduceSub, Int.reduceNeg, Nat.reduceMod, Nat.reduceBEq, Nat.reduceLT]
      try simp
    · rintro ⟨i, hi, hix⟩
      by_cases hlt : (i : Int) < xs.length
      · have hm : xs.getD (i : Int).toNat default ∈ xs := getD_mem (by omega)
        have hsz := hs _ hm
        cases hb : bOf (¬ AdOk (xs.getD (i : Int).toNat default))
        · have hq := hb
          simp -implicitDefEqProofs only [hlt, hq, go_sem, h90, c90, ap_enc, ap_dec, AFn0_dec, AFn0_enc, Bool.not_true, Bool.not_false, ty135, lv27, AFAd_d0, AFAd_e0, Nat.reduceAdd, Nat.reduceMul, Nat.reduceLeDiff, Nat.reduceEqDiff, reduceCtorEq, Nat.reduceSub, Int.reduceNeg, Nat.reduceMod, Nat.reduceBEq, Nat.reduceLT]
          repeat' (first | with_reducible apply And.intro | with_reducible intro _ | ((first | refine brB_split (fun hb => ?_) (fun hb => ?_) | refine aPickB_split (fun hb => ?_) (fun hb => ?_) | refine gB_split (fun hb => ?_) (fun hb => ?_) | refine adB_split (fun hb => ?_) (fun hb => ?_)) <;> simp -implicitDefEqProofs only [hb, go_sem, h90, c90, ap_enc, ap_dec, AFn0_dec, AFn0_enc, Bool.not_true, Bool.not_false, ty135, lv27, AFAd_d0, AFAd_e0, Nat.reduceAdd, Nat.reduceMul, Nat.reduceLeDiff, Nat.reduceEqDiff, reduceCtorEq, Nat.reduceSub, Int.reduceNeg, Nat.reduceMod, Nat.reduceBEq, Nat.reduceLT] <;> try simp only [qa, qb, qc, qd, qe, qf, qg, bOf_t, bOf_f] at hb))
          all_goals (try simp only [maxLen] at *)
          all_goals first | rfl | omega | with_reducible assumption | exact hsz | trivial | skip
          rw [bOf_f, Int.toNat_natCast] at hb
          refine ⟨⟨i + 1, by omega, ?_⟩, by dsimp only; omega, ?_⟩
          · rw [hix, ixP_no (p := FAd.sem (.wrong )) (by omega) hb]
          · simp -implicitDefEqProofs only [go_sem, h90, c90, ap_enc, ap_dec, AFn0_dec, AFn0_enc, Bool.not_true, Bool.not_false, ty135, lv27, AFAd_d0, AFAd_e0, Nat.reduceAdd, Nat.reduceMul, Nat.reduceLeDiff, Nat.reduceEqDiff, reduceCtorEq, Nat.reduceSub, Int.reduceNeg, Nat.reduceMod, Nat.reduceBEq, Nat.reduceLT]
            try simp
        · have hq := hb
          simp -implicitDefEqProofs only [hlt, hq, go_sem, h90, c90, ap_enc, ap_dec, AFn0_dec, AFn0_enc, Bool.not_true, Bool.not_false, ty135, lv27, AFAd_d0, AFAd_e0, Nat.reduceAdd, Nat.reduceMul, Nat.reduceLeDiff, Nat.reduceEqDiff, reduceCtorEq, Nat.reduceSub, Int.reduceNeg, Nat.reduceMod, Nat.reduceBEq, Nat.reduceLT]
          repeat' (first | with_reducible apply And.intro | with_reducible intro _ | ((first | refine brB_split (fun hb => ?_) (fun hb => ?_) | refine aPickB_split (fun hb => ?_) (fun hb => ?_) | refine gB_split (fun hb => ?_) (fun hb => ?_) | refine adB_split (fun hb => ?_) (fun hb => ?_)) <;> simp -implicitDefEqProofs only [hb, go_sem, h90, c90, ap_enc, ap_dec, AFn0_dec, AFn0_enc, Bool.not_true, Bool.not_false, ty135, lv27, AFAd_d0, AFAd_e0, Nat.reduceAdd, Nat.reduceMul, Nat.reduceLeDiff, Nat.reduceEqDiff, reduceCtorEq, Nat.reduceSub, Int.reduceNeg, Nat.reduceMod, Nat.reduceBEq, Nat.reduceLT] <;> try simp only [qa, qb, qc, qd, qe, qf, qg, bOf_t, bOf_f] at hb))
          all_goals (try simp only [maxLen] at *)
          all_goals first | rfl | omega | with_reducible assumption | exact hsz | trivial | skip
          rw [bOf_t, Int.toNat_natCast] at hb
          rw [hix, ixP_yes (p := FAd.sem (.wrong )) (by omega) hb]
      · simp -implicitDefEqProofs only [hlt, go_sem, h90, c90, ap_enc, ap_dec, AFn0_dec, AFn0_enc, Bool.not_true, Bool.not_false, ty135, lv27, AFAd_d0, AFAd_e0, Nat.reduceAdd, Nat.reduceMul, Nat.reduceLeDiff, Nat.reduceEqDiff, reduceCtorEq, Nat.reduceSub, Int.reduceNeg, Nat.reduceMod, Nat.reduceBEq, Nat.reduceLT]
        repeat' (first | with_reducible apply And.intro | with_reducible intro _ | ((first | refine brB_split (fun hb => ?_) (fun hb => ?_) | refine aPickB_split (fun hb => ?_) (fun hb => ?_) | refine gB_split (fun hb => ?_) (fun hb => ?_) | refine adB_split (fun hb => ?_) (fun hb => ?_)) <;> simp -implicitDefEqProofs only [hb, go_sem, h90, c90, ap_enc, ap_dec, AFn0_dec, AFn0_enc, Bool.not_true, Bool.not_false, ty135, lv27, AFAd_d0, AFAd_e0, Nat.reduceAdd, Nat.reduceMul, Nat.reduceLeDiff, Nat.reduceEqDiff, reduceCtorEq, Nat.reduceSub, Int.reduceNeg, Nat.reduceMod, Nat.reduceBEq, Nat.reduceLT] <;> try simp only [qa, qb, qc, qd, qe, qf, qg, bOf_t, bOf_f] at hb))
        all_goals first | rfl | omega | skip
        all_goals (rw [hix, ixP_end (by omega)])

def c91 : Ct := ctR (lc EAd.asl (lc AFAd l0)) (fun p => ∀ x ∈ p.1, p.2.1.pre x) (fun p => .t (.v (.bool (bOf (∃ x ∈ p.1, p.2.1.sem x)))))
theorem good91 {G : Gt} (hG : OkG G) (h120 : G.e 120 = roEnt 0 c120) : Gd G 91 (roEnt 0 c91) := by
  refine gR (dp := fun _ => true) (fn := Tryz.f91) (n := 2) (fun _ => rfl) (by kernel_rfl) rfl (by kernel_rfl) hG (Nat.le_of_ble_eq_true rfl) (by kernel_rfl) (by decide) (fun _ _ => .v _) ?_
  rintro ⟨xs, f, ⟨⟩⟩ hpre


  dsimp only at hpre ⊢
  cases f
  all_goals
    simp -implicitDefEqProofs only [Tryz.f91, go_sem, h120, c120, ap_enc, ap_dec, AFn0_dec, AFn0_enc, Bool.not_true, Bool.not_false, ty135, lv27, AFAd_d0, AFAd_e0, Nat.reduceAdd, Nat.reduceMul, Nat.reduceLeDiff, Nat.reduceEqDiff, reduceCtorEq, Nat.reduceSub, Int.reduceNeg, Nat.reduceMod, Nat.reduceBEq, Nat.reduceLT]
    repeat' (first | with_reducible apply And.intro | with_reducible intro _ | ((first | refine brB_split (fun hb => ?_) (fun hb => ?_) | refine aPickB_split (fun hb => ?_) (fun hb => ?_) | refine gB_split (fun hb => ?_) (fun hb => ?_) | refine adB_split (fun hb => ?_) (fun hb => ?_)) <;> simp -implicitDefEqProofs only [hb, go_sem, h120, c120, ap_enc, ap_dec, AFn0_dec, AFn0_enc, Bool.not_true, Bool.not_false, ty135, lv27, AFAd_d0, AFAd_e0, Nat.reduceAdd, Nat.reduceMul, Nat.reduceLeDiff, Nat.reduceEqDiff, reduceCtorEq, Nat.reduceSub, Int.reduceNeg, Nat.reduceMod, Nat.reduceBEq, Nat.reduceLT] <;> try simp only [qa, qb, qc, qd, qe, qf, qg, bOf_t, bOf_f] at hb))
    all_goals first | rfl | omega | exact hpre | exact hpre _ (by assumption) | skip
    all_goals (rw [← bOf_congr (ixP_iff _ 0)]; rw [bOf_d])

inductive FStr where
  | line 
def FStr.enc : FStr → AV
  | .line  => .t (.fn 116 [])
def FStr.dec : AV → Option FStr
  | .t (.fn 116 []) => some (.line )
  | _ => none
def FStr.sem : FStr → ByteArray → Prop
  | .line , x => ¬ Lin x
def FStr.pre : FStr → ByteArray → Prop
  | .line , x => x.size ≤ 2000000
def AFStr : AD FStr where
  enc := FStr.enc
  dec := FStr.dec
  ed := fun f => by cases f <;> rfl
  de := fun x f h => by
    unfold FStr.dec at h
    split at h <;> cases h <;> rfl
theorem AFStr_d0  : AFStr.dec (.t (.fn 116 [])) = some (.line ) := rfl
theorem AFStr_e0  : AFStr.enc (.line ) = .t (.fn 116 []) := rfl
def c116 : Ct := ctR (lc AStr l0) (fun p => p.1.size ≤ 2000000) (fun p => .t (.v (.bool (bOf (¬ Lin p.1)))))
theorem good116 {G : Gt} (hG : OkG G) (h117 : G.e 117 = roEnt 0 c117) : Gd G 116 (roEnt 0 c116) := by
  refine gR (dp := fun _ => true) (fn := Tryz.f116) (n := 1) (fun _ => rfl) (by kernel_rfl) rfl (by kernel_rfl) hG (Nat.le_of_ble_eq_true rfl) (by kernel_rfl) (by decide) (fun _ _ => .v _) ?_
  rintro ⟨x, ⟨⟩⟩ hpre
  simp -implicitDefEqProofs only [Tryz.f116, go_sem, h117, c117, ap_enc, ap_dec, AFn0_dec, AFn0_enc, Bool.not_true, Bool.not_false, ty135, lv27, Nat.reduceAdd, Nat.reduceMul, Nat.reduceLeDiff, Nat.reduceEqDiff, reduceCtorEq, Nat.reduceSub, Int.reduceNeg, Nat.reduceMod, Nat.reduceBEq, Nat.reduceLT] at hpre ⊢

  repeat' (first | with_reducible apply And.intro | with_reducible intro _ | ((first | refine brB_split (fun hb => ?_) (fun hb => ?_) | refine aPickB_split (fun hb => ?_) (fun hb => ?_) | refine gB_split (fun hb => ?_) (fun hb => ?_) | refine adB_split (fun hb => ?_) (fun hb => ?_)) <;> simp -implicitDefEqProofs only [hb, go_sem, h117, c117, ap_enc, ap_dec, AFn0_dec, AFn0_enc, Bool.not_true, Bool.not_false, ty135, lv27, Nat.reduceAdd, Nat.reduceMul, Nat.reduceLeDiff, Nat.reduceEqDiff, reduceCtorEq, Nat.reduceSub, Int.reduceNeg, Nat.reduceMod, Nat.reduceBEq, Nat.reduceLT] <;> try simp only [qa, qb, qc, qd, qe, qf, qg, bOf_t, bOf_f] at hb))
  all_goals first | rfl | omega | exact hpre | skip
  all_goals (try (simp only [bOf_not]; done))
  all_goals first | rfl | (rw [bOf_d]; done) | (rw [bOf_d, decide_eq_decide.2]; simp [Ad_ext]; done) | (rw [bOf_d]; simp [Ad_ext]; done)

def c129 : Ct := ctR (lc EStr.asl (lc AFStr l0)) (fun p => ∀ x ∈ p.1, p.2.1.pre x) (fun p => .t (.v (.int .i64 (ixP p.2.1.sem 0 p.1))))
theorem good129 {G : Gt} (hG : OkG G) (h116 : G.e 116 = roEnt 0 c116) : Gd G 129 (roEnt 0 c129) := by
  refine gR (dp := fun _ => true) (fn := Tryz.f129) (n := 2) (fun _ => rfl) (by kernel_rfl) rfl (by kernel_rfl) hG (Nat.le_of_ble_eq_true rfl) (by kernel_rfl) (by decide) (fun _ _ => .v _) ?_
  rintro ⟨xs, f, ⟨⟩⟩ hpre


  have hs := hpre
  dsimp only at hs ⊢
  cases f with
  | line  =>
    simp -implicitDefEqProofs only [Tryz.f129, go_sem, h116, c116, ap_enc, ap_dec, AFn0_dec, AFn0_enc, Bool.not_true, Bool.not_false, ty135, lv27, AFStr_d0, AFStr_e0, Nat.reduceAdd, Nat.reduceMul, Nat.reduceLeDiff, Nat.reduceEqDiff, reduceCtorEq, Nat.reduceSub, Int.reduceNeg, Nat.reduceMod, Nat.reduceBEq, Nat.reduceLT]
    repeat' (first | with_reducible apply And.intro | with_reducible intro _ | ((first | refine brB_split (fun hb => ?_) (fun hb => ?_) | refine aPickB_split (fun hb => ?_) (fun hb => ?_) | refine gB_split (fun hb => ?_) (fun hb => ?_) | refine adB_split (fun hb => ?_) (fun hb => ?_)) <;> simp -implicitDefEqProofs only [hb, go_sem, h116, c116, ap_enc, ap_dec, AFn0_dec, AFn0_enc, Bool.not_true, Bool.not_false, ty135, lv27, AFStr_d0, AFStr_e0, Nat.reduceAdd, Nat.reduceMul, Nat.reduceLeDiff, Nat.reduceEqDiff, reduceCtorEq, Nat.reduceSub, Int.reduceNeg, Nat.reduceMod, Nat.reduceBEq, Nat.reduceLT] <;> try simp only [qa, qb, qc, qd, qe, qf, qg, bOf_t, bOf_f] at hb))
    all_goals first | rfl | omega | skip
    refine run_loop [] (ι := {i : Nat // i ≤ xs.length ∧ ixP (FStr.sem (.line )) 0 xs = ixP (FStr.sem (.line )) i (xs.drop i)}) (fun p => ⟨[(0, .t (.sl 1 (xs.map encStr))), (1, .t (.fn 116 [])), (7, .t (.v (.int .i64 xs.length))), (8, .t (.v (.int .i64 p.1)))], []⟩) (fun p => xs.length - p.1) ⟨0, Nat.zero_le _, rfl⟩ rfl ?_ ?_
    · simp -implicitDefEqProofs only [go_sem, h116, c116, ap_enc, ap_dec, AFn0_dec, AFn0_enc, Bool.not_true, Bool.not_false, ty135, lv27, AFStr_d0, AFStr_e0, Nat.reduceAdd, Nat.reduceMul, Nat.reduceLeDiff, Nat.reduceEqDiff, reduceCtorEq, Nat.reduceSub, Int.reduceNeg, Nat.reduceMod, Nat.reduceBEq, Nat.reduceLT]
      try simp
    · rintro ⟨i, hi, hix⟩
      by_cases hlt : (i : Int) < xs.length
      · have hm : xs.getD (i : Int).toNat default ∈ xs := getD_mem (by omega)
        have hsz := hs _ hm
        cases hb : bOf (¬ Lin (xs.getD (i : Int).toNat default))
        · have hq := hb
          simp -implicitDefEqProofs only [hlt, hq, go_sem, h116, c116, ap_enc, ap_dec, AFn0_dec, AFn0_enc, Bool.not_true, Bool.not_false, ty135, lv27, AFStr_d0, AFStr_e0, Nat.reduceAdd, Nat.reduceMul, Nat.reduceLeDiff, Nat.reduceEqDiff, reduceCtorEq, Nat.reduceSub, Int.reduceNeg, Nat.reduceMod, Nat.reduceBEq, Nat.reduceLT]
          repeat' (first | with_reducible apply And.intro | with_reducible intro _ | ((first | refine brB_split (fun hb => ?_) (fun hb => ?_) | refine aPickB_split (fun hb => ?_) (fun hb => ?_) | refine gB_split (fun hb => ?_) (fun hb => ?_) | refine adB_split (fun hb => ?_) (fun hb => ?_)) <;> simp -implicitDefEqProofs only [hb, go_sem, h116, c116, ap_enc, ap_dec, AFn0_dec, AFn0_enc, Bool.not_true, Bool.not_false, ty135, lv27, AFStr_d0, AFStr_e0, Nat.reduceAdd, Nat.reduceMul, Nat.reduceLeDiff, Nat.reduceEqDiff, reduceCtorEq, Nat.reduceSub, Int.reduceNeg, Nat.reduceMod, Nat.reduceBEq, Nat.reduceLT] <;> try simp only [qa, qb, qc, qd, qe, qf, qg, bOf_t, bOf_f] at hb))
          all_goals (try simp only [maxLen] at *)
          all_goals first | rfl | omega | with_reducible assumption | exact hsz | trivial | skip
          rw [bOf_f, Int.toNat_natCast] at hb
          refine ⟨⟨i + 1, by omega, ?_⟩, by dsimp only; omega, ?_⟩
          · rw [hix, ixP_no (p := FStr.sem (.line )) (by omega) hb]
          · simp -implicitDefEqProofs only [go_sem, h116, c116, ap_enc, ap_dec, AFn0_dec, AFn0_enc, Bool.not_true, Bool.not_false, ty135, lv27, AFStr_d0, AFStr_e0, Nat.reduceAdd, Nat.reduceMul, Nat.reduceLeDiff, Nat.reduceEqDiff, reduceCtorEq, Nat.reduceSub, Int.reduceNeg, Nat.reduceMod, Nat.reduceBEq, Nat.reduceLT]
            try simp
        · have hq := hb
          simp -implicitDefEqProofs only [hlt, hq, go_sem, h116, c116, ap_enc, ap_dec, AFn0_dec, AFn0_enc, Bool.not_true, Bool.not_false, ty135, lv27, AFStr_d0, AFStr_e0, Nat.reduceAdd, Nat.reduceMul, Nat.reduceLeDiff, Nat.reduceEqDiff, reduceCtorEq, Nat.reduceSub, Int.reduceNeg, Nat.reduceMod, Nat.reduceBEq, Nat.reduceLT]
          repeat' (first | with_reducible apply And.intro | with_reducible intro _ | ((first | refine brB_split (fun hb => ?_) (fun hb => ?_) | refine aPickB_split (fun hb => ?_) (fun hb => ?_) | refine gB_split (fun hb => ?_) (fun hb => ?_) | refine adB_split (fun hb => ?_) (fun hb => ?_)) <;> simp -implicitDefEqProofs only [hb, go_sem, h116, c116, ap_enc, ap_dec, AFn0_dec, AFn0_enc, Bool.not_true, Bool.not_false, ty135, lv27, AFStr_d0, AFStr_e0, Nat.reduceAdd, Nat.reduceMul, Nat.reduceLeDiff, Nat.reduceEqDiff, reduceCtorEq, Nat.reduceSub, Int.reduceNeg, Nat.reduceMod, Nat.reduceBEq, Nat.reduceLT] <;> try simp only [qa, qb, qc, qd, qe, qf, qg, bOf_t, bOf_f] at hb))
          all_goals (try simp only [maxLen] at *)
          all_goals first | rfl | omega | with_reducible assumption | exact hsz | trivial | skip
          rw [bOf_t, Int.toNat_natCast] at hb
          rw [hix, ixP_yes (p := FStr.sem (.line )) (by omega) hb]
      · simp -implicitDefEqProofs only [hlt, go_sem, h116, c116, ap_enc, ap_dec, AFn0_dec, AFn0_enc, Bool.not_true, Bool.not_false, ty135, lv27, AFStr_d0, AFStr_e0, Nat.reduceAdd, Nat.reduceMul, Nat.reduceLeDiff, Nat.reduceEqDiff, reduceCtorEq, Nat.reduceSub, Int.reduceNeg, Nat.reduceMod, Nat.reduceBEq, Nat.reduceLT]
        repeat' (first | with_reducible apply And.intro | with_reducible intro _ | ((first | refine brB_split (fun hb => ?_) (fun hb => ?_) | refine aPickB_split (fun hb => ?_) (fun hb => ?_) | refine gB_split (fun hb => ?_) (fun hb => ?_) | refine adB_split (fun hb => ?_) (fun hb => ?_)) <;> simp -implicitDefEqProofs only [hb, go_sem, h116, c116, ap_enc, ap_dec, AFn0_dec, AFn0_enc, Bool.not_true, Bool.not_false, ty135, lv27, AFStr_d0, AFStr_e0, Nat.reduceAdd, Nat.reduceMul, Nat.reduceLeDiff, Nat.reduceEqDiff, reduceCtorEq, Nat.reduceSub, Int.reduceNeg, Nat.reduceMod, Nat.reduceBEq, Nat.reduceLT] <;> try simp only [qa, qb, qc, qd, qe, qf, qg, bOf_t, bOf_f] at hb))
        all_goals first | rfl | omega | skip
        all_goals (rw [hix, ixP_end (by omega)])

def c115 : Ct := ctR (lc EStr.asl (lc AFStr l0)) (fun p => ∀ x ∈ p.1, p.2.1.pre x) (fun p => .t (.v (.bool (bOf (∃ x ∈ p.1, p.2.1.sem x)))))
theorem good115 {G : Gt} (hG : OkG G) (h129 : G.e 129 = roEnt 0 c129) : Gd G 115 (roEnt 0 c115) := by
  refine gR (dp := fun _ => true) (fn := Tryz.f115) (n := 2) (fun _ => rfl) (by kernel_rfl) rfl (by kernel_rfl) hG (Nat.le_of_ble_eq_true rfl) (by kernel_rfl) (by decide) (fun _ _ => .v _) ?_
  rintro ⟨xs, f, ⟨⟩⟩ hpre


  dsimp only at hpre ⊢
  cases f
  all_goals
    simp -implicitDefEqProofs only [Tryz.f115, go_sem, h129, c129, ap_enc, ap_dec, AFn0_dec, AFn0_enc, Bool.not_true, Bool.not_false, ty135, lv27, AFStr_d0, AFStr_e0, Nat.reduceAdd, Nat.reduceMul, Nat.reduceLeDiff, Nat.reduceEqDiff, reduceCtorEq, Nat.reduceSub, Int.reduceNeg, Nat.reduceMod, Nat.reduceBEq, Nat.reduceLT]
    repeat' (first | with_reducible apply And.intro | with_reducible intro _ | ((first | refine brB_split (fun hb => ?_) (fun hb => ?_) | refine aPickB_split (fun hb => ?_) (fun hb => ?_) | refine gB_split (fun hb => ?_) (fun hb => ?_) | refine adB_split (fun hb => ?_) (fun hb => ?_)) <;> simp -implicitDefEqProofs only [hb, go_sem, h129, c129, ap_enc, ap_dec, AFn0_dec, AFn0_enc, Bool.not_true, Bool.not_false, ty135, lv27, AFStr_d0, AFStr_e0, Nat.reduceAdd, Nat.reduceMul, Nat.reduceLeDiff, Nat.reduceEqDiff, reduceCtorEq, Nat.reduceSub, Int.reduceNeg, Nat.reduceMod, Nat.reduceBEq, Nat.reduceLT] <;> try simp only [qa, qb, qc, qd, qe, qf, qg, bOf_t, bOf_f] at hb))
    all_goals first | rfl | omega | exact hpre | exact hpre _ (by assumption) | skip
    all_goals (rw [← bOf_congr (ixP_iff _ 0)]; rw [bOf_d])

inductive FIm where
  | num (n : Int)
def FIm.enc : FIm → AV
  | .num n => .t (.fn 107 [.rop [.v (.int .i64 n)]])
def FIm.dec : AV → Option FIm
  | .t (.fn 107 [.rop [.v (.int .i64 n)]]) => some (.num n)
  | _ => none
def FIm.sem : FIm → Im → Prop
  | .num n, x => x.id = n
def FIm.pre : FIm → Im → Prop
  | .num _, x => True
def AFIm : AD FIm where
  enc := FIm.enc
  dec := FIm.dec
  ed := fun f => by cases f <;> rfl
  de := fun x f h => by
    unfold FIm.dec at h
    split at h <;> cases h <;> rfl
theorem AFIm_d0 {n : Int} : AFIm.dec (.t (.fn 107 [.rop [.v (.int .i64 n)]])) = some (.num n) := rfl
theorem AFIm_e0 {n : Int} : AFIm.enc (.num n) = .t (.fn 107 [.rop [.v (.int .i64 n)]]) := rfl
def c107 : Ct := ctR (lc EIm.ag (lc EInt.ap l0)) (fun p => True) (fun p => .t (.v (.bool (bOf (p.1.id = p.2.1)))))
theorem good107 {G : Gt} (hG : OkG G) : Gd G 107 (roEnt 0 c107) := by
  refine gR (dp := fun _ => true) (fn := Tryz.f107) (n := 2) (fun _ => rfl) (by kernel_rfl) rfl (by kernel_rfl) hG (Nat.le_of_ble_eq_true rfl) (by kernel_rfl) (by decide) (fun _ _ => .v _) ?_
  rintro ⟨x, n, ⟨⟩⟩ hpre
  simp -implicitDefEqProofs only [Tryz.f107, go_sem, ap_enc, ap_dec, AFn0_dec, AFn0_enc, Bool.not_true, Bool.not_false, ty135, lv27, Nat.reduceAdd, Nat.reduceMul, Nat.reduceLeDiff, Nat.reduceEqDiff, reduceCtorEq, Nat.reduceSub, Int.reduceNeg, Nat.reduceMod, Nat.reduceBEq, Nat.reduceLT] at hpre ⊢

  repeat' (first | with_reducible apply And.intro | with_reducible intro _ | ((first | refine brB_split (fun hb => ?_) (fun hb => ?_) | refine aPickB_split (fun hb => ?_) (fun hb => ?_) | refine gB_split (fun hb => ?_) (fun hb => ?_) | refine adB_split (fun hb => ?_) (fun hb => ?_)) <;> simp -implicitDefEqProofs only [hb, go_sem, ap_enc, ap_dec, AFn0_dec, AFn0_enc, Bool.not_true, Bool.not_false, ty135, lv27, Nat.reduceAdd, Nat.reduceMul, Nat.reduceLeDiff, Nat.reduceEqDiff, reduceCtorEq, Nat.reduceSub, Int.reduceNeg, Nat.reduceMod, Nat.reduceBEq, Nat.reduceLT] <;> try simp only [qa, qb, qc, qd, qe, qf, qg, bOf_t, bOf_f] at hb))
  all_goals first | rfl | omega | exact hpre | skip
  all_goals (try (simp only [bOf_not]; done))
  all_goals first | rfl | (rw [bOf_d]; done) | (rw [bOf_d, decide_eq_decide.2]; simp [Ad_ext]; done) | (rw [bOf_d]; simp [Ad_ext]; done)

def c106 : Ct := ctR (lc EIm.asl (lc AFIm l0)) (fun p => ∀ x ∈ p.1, p.2.1.pre x) (fun p => .t (.v (.int .i64 (ixP p.2.1.sem 0 p.1))))
theorem good106 {G : Gt} (hG : OkG G) (h107 : G.e 107 = roEnt 0 c107) : Gd G 106 (roEnt 0 c106) := by
  refine gR (dp := fun _ => true) (fn := Tryz.f106) (n := 2) (fun _ => rfl) (by kernel_rfl) rfl (by kernel_rfl) hG (Nat.le_of_ble_eq_true rfl) (by kernel_rfl) (by decide) (fun _ _ => .v _) ?_
  rintro ⟨xs, f, ⟨⟩⟩ hpre


  have hs := hpre
  dsimp only at hs ⊢
  cases f with
  | num n =>
    simp -implicitDefEqProofs only [Tryz.f106, go_sem, h107, c107, ap_enc, ap_dec, AFn0_dec, AFn0_enc, Bool.not_true, Bool.not_false, ty135, lv27, AFIm_d0, AFIm_e0, Nat.reduceAdd, Nat.reduceMul, Nat.reduceLeDiff, Nat.reduceEqDiff, reduceCtorEq, Nat.reduceSub, Int.reduceNeg, Nat.reduceMod, Nat.reduceBEq, Nat.reduceLT]
    repeat' (first | with_reducible apply And.intro | with_reducible intro _ | ((first | refine brB_split (fun hb => ?_) (fun hb => ?_) | refine aPickB_split (fun hb => ?_) (fun hb => ?_) | refine gB_split (fun hb => ?_) (fun hb => ?_) | refine adB_split (fun hb => ?_) (fun hb => ?_)) <;> simp -implicitDefEqProofs only [hb, go_sem, h107, c107, ap_enc, ap_dec, AFn0_dec, AFn0_enc, Bool.not_true, Bool.not_false, ty135, lv27, AFIm_d0, AFIm_e0, Nat.reduceAdd, Nat.reduceMul, Nat.reduceLeDiff, Nat.reduceEqDiff, reduceCtorEq, Nat.reduceSub, Int.reduceNeg, Nat.reduceMod, Nat.reduceBEq, Nat.reduceLT] <;> try simp only [qa, qb, qc, qd, qe, qf, qg, bOf_t, bOf_f] at hb))
    all_goals first | rfl | omega | skip
    refine run_loop [] (ι := {i : Nat // i ≤ xs.length ∧ ixP (FIm.sem (.num n)) 0 xs = ixP (FIm.sem (.num n)) i (xs.drop i)}) (fun p => ⟨[(0, .t (.sl 5 (xs.map encIm))), (1, AFIm.enc (.num n)), (7, .t (.v (.int .i64 xs.length))), (8, .t (.v (.int .i64 p.1)))], []⟩) (fun p => xs.length - p.1) ⟨0, Nat.zero_le _, rfl⟩ rfl ?_ ?_
    · simp -implicitDefEqProofs only [go_sem, h107, c107, ap_enc, ap_dec, AFn0_dec, AFn0_enc, Bool.not_true, Bool.not_false, ty135, lv27, AFIm_d0, AFIm_e0, Nat.reduceAdd, Nat.reduceMul, Nat.reduceLeDiff, Nat.reduceEqDiff, reduceCtorEq, Nat.reduceSub, Int.reduceNeg, Nat.reduceMod, Nat.reduceBEq, Nat.reduceLT]
      try simp
    · rintro ⟨i, hi, hix⟩
      by_cases hlt : (i : Int) < xs.length
      · have hm : xs.getD (i : Int).toNat default ∈ xs := getD_mem (by omega)
        have hsz := hs _ hm
        cases hb : bOf ((xs.getD (i : Int).toNat default).id = n)
        · have hq := hb
          simp -implicitDefEqProofs only [hlt, hq, go_sem, h107, c107, ap_enc, ap_dec, AFn0_dec, AFn0_enc, Bool.not_true, Bool.not_false, ty135, lv27, AFIm_d0, AFIm_e0, Nat.reduceAdd, Nat.reduceMul, Nat.reduceLeDiff, Nat.reduceEqDiff, reduceCtorEq, Nat.reduceSub, Int.reduceNeg, Nat.reduceMod, Nat.reduceBEq, Nat.reduceLT]
          repeat' (first | with_reducible apply And.intro | with_reducible intro _ | ((first | refine brB_split (fun hb => ?_) (fun hb => ?_) | refine aPickB_split (fun hb => ?_) (fun hb => ?_) | refine gB_split (fun hb => ?_) (fun hb => ?_) | refine adB_split (fun hb => ?_) (fun hb => ?_)) <;> simp -implicitDefEqProofs only [hb, go_sem, h107, c107, ap_enc, ap_dec, AFn0_dec, AFn0_enc, Bool.not_true, Bool.not_false, ty135, lv27, AFIm_d0, AFIm_e0, Nat.reduceAdd, Nat.reduceMul, Nat.reduceLeDiff, Nat.reduceEqDiff, reduceCtorEq, Nat.reduceSub, Int.reduceNeg, Nat.reduceMod, Nat.reduceBEq, Nat.reduceLT] <;> try simp only [qa, qb, qc, qd, qe, qf, qg, bOf_t, bOf_f] at hb))
          all_goals (try simp only [maxLen] at *)
          all_goals first | rfl | omega | with_reducible assumption | exact hsz | trivial | skip
          rw [bOf_f, Int.toNat_natCast] at hb
          refine ⟨⟨i + 1, by omega, ?_⟩, by dsimp only; omega, ?_⟩
          · rw [hix, ixP_no (p := FIm.sem (.num n)) (by omega) hb]
          · simp -implicitDefEqProofs only [go_sem, h107, c107, ap_enc, ap_dec, AFn0_dec, AFn0_enc, Bool.not_true, Bool.not_false, ty135, lv27, AFIm_d0, AFIm_e0, Nat.reduceAdd, Nat.reduceMul, Nat.reduceLeDiff, Nat.reduceEqDiff, reduceCtorEq, Nat.reduceSub, Int.reduceNeg, Nat.reduceMod, Nat.reduceBEq, Nat.reduceLT]
            try simp
        · have hq := hb
          simp -implicitDefEqProofs only [hlt, hq, go_sem, h107, c107, ap_enc, ap_dec, AFn0_dec, AFn0_enc, Bool.not_true, Bool.not_false, ty135, lv27, AFIm_d0, AFIm_e0, Nat.reduceAdd, Nat.reduceMul, Nat.reduceLeDiff, Nat.reduceEqDiff, reduceCtorEq, Nat.reduceSub, Int.reduceNeg, Nat.reduceMod, Nat.reduceBEq, Nat.reduceLT]
          repeat' (first | with_reducible apply And.intro | with_reducible intro _ | ((first | refine brB_split (fun hb => ?_) (fun hb => ?_) | refine aPickB_split (fun hb => ?_) (fun hb => ?_) | refine gB_split (fun hb => ?_) (fun hb => ?_) | refine adB_split (fun hb => ?_) (fun hb => ?_)) <;> simp -implicitDefEqProofs only [hb, go_sem, h107, c107, ap_enc, ap_dec, AFn0_dec, AFn0_enc, Bool.not_true, Bool.not_false, ty135, lv27, AFIm_d0, AFIm_e0, Nat.reduceAdd, Nat.reduceMul, Nat.reduceLeDiff, Nat.reduceEqDiff, reduceCtorEq, Nat.reduceSub, Int.reduceNeg, Nat.reduceMod, Nat.reduceBEq, Nat.reduceLT] <;> try simp only [qa, qb, qc, qd, qe, qf, qg, bOf_t, bOf_f] at hb))
          all_goals (try simp only [maxLen] at *)
          all_goals first | rfl | omega | with_reducible assumption | exact hsz | trivial | skip
          rw [bOf_t, Int.toNat_natCast] at hb
          rw [hix, ixP_yes (p := FIm.sem (.num n)) (by omega) hb]
      · simp -implicitDefEqProofs only [hlt, go_sem, h107, c107, ap_enc, ap_dec, AFn0_dec, AFn0_enc, Bool.not_true, Bool.not_false, ty135, lv27, AFIm_d0, AFIm_e0, Nat.reduceAdd, Nat.reduceMul, Nat.reduceLeDiff, Nat.reduceEqDiff, reduceCtorEq, Nat.reduceSub, Int.reduceNeg, Nat.reduceMod, Nat.reduceBEq, Nat.reduceLT]
        repeat' (first | with_reducible apply And.intro | with_reducible intro _ | ((first | refine brB_split (fun hb => ?_) (fun hb => ?_) | refine aPickB_split (fun hb => ?_) (fun hb => ?_) | refine gB_split (fun hb => ?_) (fun hb => ?_) | refine adB_split (fun hb => ?_) (fun hb => ?_)) <;> simp -implicitDefEqProofs only [hb, go_sem, h107, c107, ap_enc, ap_dec, AFn0_dec, AFn0_enc, Bool.not_true, Bool.not_false, ty135, lv27, AFIm_d0, AFIm_e0, Nat.reduceAdd, Nat.reduceMul, Nat.reduceLeDiff, Nat.reduceEqDiff, reduceCtorEq, Nat.reduceSub, Int.reduceNeg, Nat.reduceMod, Nat.reduceBEq, Nat.reduceLT] <;> try simp only [qa, qb, qc, qd, qe, qf, qg, bOf_t, bOf_f] at hb))
        all_goals first | rfl | omega | skip
        all_goals (rw [hix, ixP_end (by omega)])

inductive FRc where
  | who (b : Ad)
def FRc.enc : FRc → AV
  | .who b => .t (.fn 109 [.rop [.v (.string b.user), .v (.string b.domain)]])
def FRc.dec : AV → Option FRc
  | .t (.fn 109 [.rop [.v (.string b0), .v (.string b1)]]) => some (.who ⟨b0, b1⟩)
  | _ => none
def FRc.sem : FRc → Rc → Prop
  | .who b, x => x.addr = b
def FRc.pre : FRc → Rc → Prop
  | .who _, x => True
def AFRc : AD FRc where
  enc := FRc.enc
  dec := FRc.dec
  ed := fun f => by cases f <;> rfl
  de := fun x f h => by
    unfold FRc.dec at h
    split at h <;> cases h <;> rfl
theorem AFRc_d0 {b0 : ByteArray} {b1 : ByteArray} : AFRc.dec (.t (.fn 109 [.rop [.v (.string b0), .v (.string b1)]])) = some (.who ⟨b0, b1⟩) := rfl
theorem AFRc_e0 {b : Ad} : AFRc.enc (.who b) = .t (.fn 109 [.rop [.v (.string b.user), .v (.string b.domain)]]) := rfl
def c109 : Ct := ctR (lc ERc.ag (lc EAd.ap l0)) (fun p => True) (fun p => .t (.v (.bool (bOf (p.1.addr = p.2.1)))))
theorem good109 {G : Gt} (hG : OkG G) : Gd G 109 (roEnt 0 c109) := by
  refine gR (dp := fun _ => true) (fn := Tryz.f109) (n := 2) (fun _ => rfl) (by kernel_rfl) rfl (by kernel_rfl) hG (Nat.le_of_ble_eq_true rfl) (by kernel_rfl) (by decide) (fun _ _ => .v _) ?_
  rintro ⟨x, b, ⟨⟩⟩ hpre
  simp -implicitDefEqProofs only [Tryz.f109, go_sem, ap_enc, ap_dec, AFn0_dec, AFn0_enc, Bool.not_true, Bool.not_false, ty135, lv27, Nat.reduceAdd, Nat.reduceMul, Nat.reduceLeDiff, Nat.reduceEqDiff, reduceCtorEq, Nat.reduceSub, Int.reduceNeg, Nat.reduceMod, Nat.reduceBEq, Nat.reduceLT] at hpre ⊢

  repeat' (first | with_reducible apply And.intro | with_reducible intro _ | ((first | refine brB_split (fun hb => ?_) (fun hb => ?_) | refine aPickB_split (fun hb => ?_) (fun hb => ?_) | refine gB_split (fun hb => ?_) (fun hb => ?_) | refine adB_split (fun hb => ?_) (fun hb => ?_)) <;> simp -implicitDefEqProofs only [hb, go_sem, ap_enc, ap_dec, AFn0_dec, AFn0_enc, Bool.not_true, Bool.not_false, ty135, lv27, Nat.reduceAdd, Nat.reduceMul, Nat.reduceLeDiff, Nat.reduceEqDiff, reduceCtorEq, Nat.reduceSub, Int.reduceNeg, Nat.reduceMod, Nat.reduceBEq, Nat.reduceLT] <;> try simp only [qa, qb, qc, qd, qe, qf, qg, bOf_t, bOf_f] at hb))
  all_goals first | rfl | omega | exact hpre | skip
  all_goals (try (simp only [bOf_not]; done))
  all_goals first | rfl | (rw [bOf_d]; done) | (rw [bOf_d, decide_eq_decide.2]; simp [Ad_ext]; done) | (rw [bOf_d]; simp [Ad_ext]; done)

def c108 : Ct := ctR (lc ERc.asl (lc AFRc l0)) (fun p => ∀ x ∈ p.1, p.2.1.pre x) (fun p => .t (.v (.int .i64 (ixP p.2.1.sem 0 p.1))))
theorem good108 {G : Gt} (hG : OkG G) (h109 : G.e 109 = roEnt 0 c109) : Gd G 108 (roEnt 0 c108) := by
  refine gR (dp := fun _ => true) (fn := Tryz.f108) (n := 2) (fun _ => rfl) (by kernel_rfl) rfl (by kernel_rfl) hG (Nat.le_of_ble_eq_true rfl) (by kernel_rfl) (by decide) (fun _ _ => .v _) ?_
  rintro ⟨xs, f, ⟨⟩⟩ hpre


  have hs := hpre
  dsimp only at hs ⊢
  cases f with
  | who b =>
    simp -implicitDefEqProofs only [Tryz.f108, go_sem, h109, c109, ap_enc, ap_dec, AFn0_dec, AFn0_enc, Bool.not_true, Bool.not_false, ty135, lv27, AFRc_d0, AFRc_e0, Nat.reduceAdd, Nat.reduceMul, Nat.reduceLeDiff, Nat.reduceEqDiff, reduceCtorEq, Nat.reduceSub, Int.reduceNeg, Nat.reduceMod, Nat.reduceBEq, Nat.reduceLT]
    repeat' (first | with_reducible apply And.intro | with_reducible intro _ | ((first | refine brB_split (fun hb => ?_) (fun hb => ?_) | refine aPickB_split (fun hb => ?_) (fun hb => ?_) | refine gB_split (fun hb => ?_) (fun hb => ?_) | refine adB_split (fun hb => ?_) (fun hb => ?_)) <;> simp -implicitDefEqProofs only [hb, go_sem, h109, c109, ap_enc, ap_dec, AFn0_dec, AFn0_enc, Bool.not_true, Bool.not_false, ty135, lv27, AFRc_d0, AFRc_e0, Nat.reduceAdd, Nat.reduceMul, Nat.reduceLeDiff, Nat.reduceEqDiff, reduceCtorEq, Nat.reduceSub, Int.reduceNeg, Nat.reduceMod, Nat.reduceBEq, Nat.reduceLT] <;> try simp only [qa, qb, qc, qd, qe, qf, qg, bOf_t, bOf_f] at hb))
    all_goals first | rfl | omega | skip
    refine run_loop [] (ι := {i : Nat // i ≤ xs.length ∧ ixP (FRc.sem (.who b)) 0 xs = ixP (FRc.sem (.who b)) i (xs.drop i)}) (fun p => ⟨[(0, .t (.sl 4 (xs.map encRc))), (1, AFRc.enc (.who b)), (7, .t (.v (.int .i64 xs.length))), (8, .t (.v (.int .i64 p.1)))], []⟩) (fun p => xs.length - p.1) ⟨0, Nat.zero_le _, rfl⟩ rfl ?_ ?_
    · simp -implicitDefEqProofs only [go_sem, h109, c109, ap_enc, ap_dec, AFn0_dec, AFn0_enc, Bool.not_true, Bool.not_false, ty135, lv27, AFRc_d0, AFRc_e0, Nat.reduceAdd, Nat.reduceMul, Nat.reduceLeDiff, Nat.reduceEqDiff, reduceCtorEq, Nat.reduceSub, Int.reduceNeg, Nat.reduceMod, Nat.reduceBEq, Nat.reduceLT]
      try simp
    · rintro ⟨i, hi, hix⟩
      by_cases hlt : (i : Int) < xs.length
      · have hm : xs.getD (i : Int).toNat default ∈ xs := getD_mem (by omega)
        have hsz := hs _ hm
        cases hb : bOf ((xs.getD (i : Int).toNat default).addr = b)
        · have hq := hb
          simp -implicitDefEqProofs only [hlt, hq, go_sem, h109, c109, ap_enc, ap_dec, AFn0_dec, AFn0_enc, Bool.not_true, Bool.not_false, ty135, lv27, AFRc_d0, AFRc_e0, Nat.reduceAdd, Nat.reduceMul, Nat.reduceLeDiff, Nat.reduceEqDiff, reduceCtorEq, Nat.reduceSub, Int.reduceNeg, Nat.reduceMod, Nat.reduceBEq, Nat.reduceLT]
          repeat' (first | with_reducible apply And.intro | with_reducible intro _ | ((first | refine brB_split (fun hb => ?_) (fun hb => ?_) | refine aPickB_split (fun hb => ?_) (fun hb => ?_) | refine gB_split (fun hb => ?_) (fun hb => ?_) | refine adB_split (fun hb => ?_) (fun hb => ?_)) <;> simp -implicitDefEqProofs only [hb, go_sem, h109, c109, ap_enc, ap_dec, AFn0_dec, AFn0_enc, Bool.not_true, Bool.not_false, ty135, lv27, AFRc_d0, AFRc_e0, Nat.reduceAdd, Nat.reduceMul, Nat.reduceLeDiff, Nat.reduceEqDiff, reduceCtorEq, Nat.reduceSub, Int.reduceNeg, Nat.reduceMod, Nat.reduceBEq, Nat.reduceLT] <;> try simp only [qa, qb, qc, qd, qe, qf, qg, bOf_t, bOf_f] at hb))
          all_goals (try simp only [maxLen] at *)
          all_goals first | rfl | omega | with_reducible assumption | exact hsz | trivial | skip
          rw [bOf_f, Int.toNat_natCast] at hb
          refine ⟨⟨i + 1, by omega, ?_⟩, by dsimp only; omega, ?_⟩
          · rw [hix, ixP_no (p := FRc.sem (.who b)) (by omega) hb]
          · simp -implicitDefEqProofs only [go_sem, h109, c109, ap_enc, ap_dec, AFn0_dec, AFn0_enc, Bool.not_true, Bool.not_false, ty135, lv27, AFRc_d0, AFRc_e0, Nat.reduceAdd, Nat.reduceMul, Nat.reduceLeDiff, Nat.reduceEqDiff, reduceCtorEq, Nat.reduceSub, Int.reduceNeg, Nat.reduceMod, Nat.reduceBEq, Nat.reduceLT]
            try simp
        · have hq := hb
          simp -implicitDefEqProofs only [hlt, hq, go_sem, h109, c109, ap_enc, ap_dec, AFn0_dec, AFn0_enc, Bool.not_true, Bool.not_false, ty135, lv27, AFRc_d0, AFRc_e0, Nat.reduceAdd, Nat.reduceMul, Nat.reduceLeDiff, Nat.reduceEqDiff, reduceCtorEq, Nat.reduceSub, Int.reduceNeg, Nat.reduceMod, Nat.reduceBEq, Nat.reduceLT]
          repeat' (first | with_reducible apply And.intro | with_reducible intro _ | ((first | refine brB_split (fun hb => ?_) (fun hb => ?_) | refine aPickB_split (fun hb => ?_) (fun hb => ?_) | refine gB_split (fun hb => ?_) (fun hb => ?_) | refine adB_split (fun hb => ?_) (fun hb => ?_)) <;> simp -implicitDefEqProofs only [hb, go_sem, h109, c109, ap_enc, ap_dec, AFn0_dec, AFn0_enc, Bool.not_true, Bool.not_false, ty135, lv27, AFRc_d0, AFRc_e0, Nat.reduceAdd, Nat.reduceMul, Nat.reduceLeDiff, Nat.reduceEqDiff, reduceCtorEq, Nat.reduceSub, Int.reduceNeg, Nat.reduceMod, Nat.reduceBEq, Nat.reduceLT] <;> try simp only [qa, qb, qc, qd, qe, qf, qg, bOf_t, bOf_f] at hb))
          all_goals (try simp only [maxLen] at *)
          all_goals first | rfl | omega | with_reducible assumption | exact hsz | trivial | skip
          rw [bOf_t, Int.toNat_natCast] at hb
          rw [hix, ixP_yes (p := FRc.sem (.who b)) (by omega) hb]
      · simp -implicitDefEqProofs only [hlt, go_sem, h109, c109, ap_enc, ap_dec, AFn0_dec, AFn0_enc, Bool.not_true, Bool.not_false, ty135, lv27, AFRc_d0, AFRc_e0, Nat.reduceAdd, Nat.reduceMul, Nat.reduceLeDiff, Nat.reduceEqDiff, reduceCtorEq, Nat.reduceSub, Int.reduceNeg, Nat.reduceMod, Nat.reduceBEq, Nat.reduceLT]
        repeat' (first | with_reducible apply And.intro | with_reducible intro _ | ((first | refine brB_split (fun hb => ?_) (fun hb => ?_) | refine aPickB_split (fun hb => ?_) (fun hb => ?_) | refine gB_split (fun hb => ?_) (fun hb => ?_) | refine adB_split (fun hb => ?_) (fun hb => ?_)) <;> simp -implicitDefEqProofs only [hb, go_sem, h109, c109, ap_enc, ap_dec, AFn0_dec, AFn0_enc, Bool.not_true, Bool.not_false, ty135, lv27, AFRc_d0, AFRc_e0, Nat.reduceAdd, Nat.reduceMul, Nat.reduceLeDiff, Nat.reduceEqDiff, reduceCtorEq, Nat.reduceSub, Int.reduceNeg, Nat.reduceMod, Nat.reduceBEq, Nat.reduceLT] <;> try simp only [qa, qb, qc, qd, qe, qf, qg, bOf_t, bOf_f] at hb))
        all_goals first | rfl | omega | skip
        all_goals (rw [hix, ixP_end (by omega)])

def c87 : Ct := ctR (lc EStr.asl l0) (fun p => ∀ s ∈ p.1, s.size ≤ 2000000) (fun p => .t (.v (.bool (bOf (BdOk p.1)))))
theorem good87 {G : Gt} (hG : OkG G) (h115 : G.e 115 = roEnt 0 c115) : Gd G 87 (roEnt 0 c87) := by
  refine gR (dp := fun _ => true) (fn := Tryz.f87) (n := 1) (fun _ => rfl) (by kernel_rfl) rfl (by kernel_rfl) hG (Nat.le_of_ble_eq_true rfl) (by kernel_rfl) (by decide) (fun _ _ => .v _) ?_
  rintro ⟨xs, ⟨⟩⟩ hpre
  simp -implicitDefEqProofs only [Tryz.f87, go_sem, h115, c115, ap_enc, ap_dec, AFn0_dec, AFn0_enc, Bool.not_true, Bool.not_false, ty135, lv27, AFStr_d0, AFStr_e0, Nat.reduceAdd, Nat.reduceMul, Nat.reduceLeDiff, Nat.reduceEqDiff, reduceCtorEq, Nat.reduceSub, Int.reduceNeg, Nat.reduceMod, Nat.reduceBEq, Nat.reduceLT] at hpre ⊢

  repeat' (first | with_reducible apply And.intro | with_reducible intro _ | ((first | refine brB_split (fun hb => ?_) (fun hb => ?_) | refine aPickB_split (fun hb => ?_) (fun hb => ?_) | refine gB_split (fun hb => ?_) (fun hb => ?_) | refine adB_split (fun hb => ?_) (fun hb => ?_)) <;> simp -implicitDefEqProofs only [hb, go_sem, h115, c115, ap_enc, ap_dec, AFn0_dec, AFn0_enc, Bool.not_true, Bool.not_false, ty135, lv27, AFStr_d0, AFStr_e0, Nat.reduceAdd, Nat.reduceMul, Nat.reduceLeDiff, Nat.reduceEqDiff, reduceCtorEq, Nat.reduceSub, Int.reduceNeg, Nat.reduceMod, Nat.reduceBEq, Nat.reduceLT] <;> try simp only [qa, qb, qc, qd, qe, qf, qg, bOf_t, bOf_f] at hb))
  all_goals first | rfl | omega | exact hpre | exact hpre _ (by assumption) | exact trivial | skip
  · rw [bOf_not]
    refine congrArg (fun b => T.v (.bool b)) (bOf_congr ?_)
    constructor
    · intro h
      exact ⟨fun s hs => Classical.byContradiction fun q => h ⟨s, hs, q⟩, by omega⟩
    · rintro h ⟨s, hs, q⟩
      exact q (h.1 s hs)
  · rw [bOf_n (fun h => by have := h.2; omega)]

theorem K31 : Maps.Keyed Tryz.prog 27 := Maps.Keyed.of_law (deep_law_laid (m := 5) (by kernel_rfl) (by decide) (Nat.lt_of_lt_of_le (Nat.lt_succ_self 27) (Nat.le_of_ble_eq_true (by kernel_rfl))) (by kernel_rfl) (by kernel_rfl))
noncomputable def fs31 : Array Field := match Tryz.prog.underlying 27 with | some (.struct fs) => fs | _ => #[]
theorem u31 : Tryz.prog.underlying 27 = some (.struct fs31) := by kernel_rfl
theorem u9 : Tryz.prog.underlying 9 = some .string := by kernel_rfl
theorem u3 : Tryz.prog.underlying 3 = some (.int .i64) := by kernel_rfl
theorem fs31_l : (fs31.toList.map fun f => (f.type, f.offset)) = [(9, 0), (9, 1)] := by kernel_rfl
theorem fs31_n : fs31.all (·.name != "_") = true := by kernel_rfl
theorem co9 : Tryz.prog.cellsOf 9 = 1 := by kernel_rfl
theorem co31 : Tryz.prog.cellsOf 27 = 2 := by kernel_rfl
theorem kt31 : Tryz.prog.keyType 27 = true := by kernel_rfl
theorem ts31 : ∃ n, Tryz.prog.types.size + 1 = n + 2 := ⟨Tryz.prog.types.size - 1, by
  have : 27 < Tryz.prog.types.size := Nat.lt_of_lt_of_le (Nat.lt_succ_self 27) (Nat.le_of_ble_eq_true (by kernel_rfl))
  omega⟩
theorem kl9 (d : Nat) {s : ByteArray} (h : s.size ≤ maxLen) : Tryz.prog.keyLits (d + 1) 9 [.string s] = some [.string s.data.toList] := by
  simp only [Program.keyLits, u9, if_pos h]
theorem key31 {k : MK} (h : k.ok (some 2)) : ∃ l, keyOf Tryz.prog 27 k.val = some l := by
  cases k with
  | i n => exact h.elim
  | ss l =>
    obtain ⟨h1, h2⟩ := h
    obtain ⟨u, d, rfl⟩ : ∃ u d, l = [u, d] := by
      rcases l with _ | ⟨u, _ | ⟨d, _ | ⟨z, t⟩⟩⟩
      · cases h1
      · cases h1
      · exact ⟨u, d, rfl⟩
      · simp at h1
    obtain ⟨n, hn⟩ := ts31
    have hl : fs31.toList.map (fun f => (f.type, f.offset)) = [(9, 0), (9, 1)] := fs31_l
    rcases hf : fs31.toList with _ | ⟨f, _ | ⟨g, _ | ⟨z, t⟩⟩⟩
    · rw [hf] at hl; cases hl
    · rw [hf] at hl; simp at hl
    · rw [hf] at hl
      · simp only [List.map_cons, List.map_nil, List.cons.injEq, Prod.mk.injEq, and_true] at hl
        obtain ⟨⟨a1, a2⟩, b1, b2⟩ := hl
        refine ⟨.string (keyBytes [.string u.data.toList, .string d.data.toList]), ?_⟩
        have hform : (MK.val (.ss [u, d])).formed Tryz.prog 27 = true := by
          simp only [Value.formed, MK.val, u31, co31]
          rfl
        unfold keyOf
        rw [u31]
        show (if (Tryz.prog.keyType 27 && (MK.val (.ss [u, d])).formed Tryz.prog 27) = true then _ else none) = _
        rw [kt31, hform]
        refine (if_pos rfl).trans ?_
        rw [hn]
        have : Tryz.prog.keyLits (n + 2) 27 (MK.val (.ss [u, d])).cells.toList = some [.string u.data.toList, .string d.data.toList] := by
          show Tryz.prog.keyLits (n + 2) 27 [.string u, .string d] = _
          have e1 : [Value.string u, Value.string d].length = Tryz.prog.cellsOf 27 ∧ fs31.all (·.name != "_") = true := ⟨by rw [co31]; rfl, fs31_n⟩
          rw [Program.keyLits.eq_def]
          simp only [u31]
          refine (if_pos e1).trans ?_
          rw [hf]
          simp only [List.mapM_cons, List.mapM_nil, a1, a2, b1, b2, co9, List.drop_zero, List.take_succ_cons, List.take_zero, List.drop_succ_cons, kl9 n (h2 u (by simp)), kl9 n (h2 d (by simp))]
          rfl
        rw [this]; rfl
    · rw [hf] at hl
      simp only [List.map_cons, List.cons.injEq] at hl
      exact absurd hl.2.2 (by simp)
theorem kd31 : KeyD Tryz.prog 27 (some 2) := KeyD.ss K31 key31
theorem kd3 : KeyD Tryz.prog 3 none := KeyD.int u3

def mkA (a : Ad) : MK := .ss [a.user, a.domain]
theorem mkA_inj {a b : Ad} (h : mkA a = mkA b) : a = b := by
  cases a; cases b
  simp only [mkA, MK.ss.injEq, List.cons.injEq, and_true] at h
  rw [h.1, h.2]
def dis (xs : List Ad) : List (MK × Bool) := xs.foldl (fun es a => upE (mkA a) true es) []
theorem dis_snoc (xs : List Ad) (a : Ad) : dis (xs ++ [a]) = upE (mkA a) true (dis xs) := by simp [dis]
theorem upE_keys {k : MK} {b : Bool} : ∀ {es : List (MK × Bool)}, (upE k b es).map Prod.fst = if k ∈ es.map Prod.fst then es.map Prod.fst else es.map Prod.fst ++ [k]
  | [] => by simp [upE]
  | p :: r => by
    rw [upE]
    by_cases h : p.1 = k
    · simp [h]
    · have hk : ¬ k = p.1 := fun e => h e.symm
      rw [if_neg h, List.map_cons, upE_keys]
      by_cases h2 : k ∈ r.map Prod.fst
      · rw [if_pos h2, if_pos (by simp only [List.map_cons, List.mem_cons]; exact .inr h2)]; rfl
      · rw [if_neg h2, if_neg (by simp only [List.map_cons, List.mem_cons]; exact fun e => e.elim hk h2)]; rfl
theorem dis_mem (xs : List Ad) (a : Ad) : mkA a ∈ (dis xs).map Prod.fst ↔ a ∈ xs := by
  generalize hr : xs.reverse = r
  have hx : xs = r.reverse := by rw [← hr, List.reverse_reverse]
  subst hx
  clear hr
  induction r with
  | nil => simp [dis]
  | cons b r ih =>
    rw [List.reverse_cons, dis_snoc, upE_keys, List.mem_append, ← propext ih]
    by_cases h : mkA b ∈ (dis r.reverse).map Prod.fst
    · rw [if_pos h]
      constructor
      · exact .inl
      · rintro (h1 | h1)
        · exact h1
        · rw [List.mem_singleton.1 h1]; exact h
    · rw [if_neg h, List.mem_append, List.mem_singleton, List.mem_singleton]
      exact or_congr_right ⟨mkA_inj, fun e => by rw [e]⟩
theorem dis_len (xs : List Ad) : (dis xs).length ≤ xs.length ∧ ((dis xs).length = xs.length ↔ xs.Nodup) := by
  generalize hr : xs.reverse = r
  have hx : xs = r.reverse := by rw [← hr, List.reverse_reverse]
  subst hx
  clear hr
  induction r with
  | nil => simp [dis]
  | cons b r ih =>
    have hl : ∀ es : List (MK × Bool), es.length = (es.map Prod.fst).length := fun es => by rw [List.length_map]
    have hn : (r.reverse ++ [b]).Nodup ↔ r.reverse.Nodup ∧ b ∉ r.reverse := by
      rw [List.nodup_append]
      constructor
      · rintro ⟨h1, _, h3⟩
        exact ⟨h1, fun hb => h3 b hb b (by simp) rfl⟩
      · rintro ⟨h1, h2⟩
        refine ⟨h1, by simp, fun x hx y hy e => ?_⟩
        rw [List.mem_singleton] at hy
        subst hy; subst e; exact h2 hx
    rw [List.reverse_cons, dis_snoc, hl, upE_keys, List.length_append, hn, ← dis_mem]
    obtain ⟨i1, i2⟩ := ih
    by_cases h : mkA b ∈ (dis r.reverse).map Prod.fst
    · rw [if_pos h, ← hl]
      refine ⟨by omega, ⟨fun e => ?_, fun e => absurd h e.2⟩⟩
      simp at e i1; omega
    · rw [if_neg h, List.length_append, ← hl]
      refine ⟨by simp at *; omega, ⟨fun e => ⟨i2.1 (by simp at *; omega), h⟩, fun e => ?_⟩⟩
      have := i2.2 e.1
      simp at *; omega
theorem take_succ' {xs : List Ad} {i : Nat} (h : i < xs.length) : xs.take (i + 1) = xs.take i ++ [xs.getD i default] := by
  rw [List.take_succ_eq_append_getElem h]
  simp [h]
theorem dis_take {xs : List Ad} {i : Nat} (h : i < xs.length) : upE (.ss [(xs.getD i default).user, (xs.getD i default).domain]) true (dis (xs.take i)) = dis (xs.take (i + 1)) := by
  rw [take_succ' h, dis_snoc]; rfl
def c86 : Ct := ctR (lc EAd.asl l0) (fun p => True) (fun p => .t (.v (.bool (bOf p.1.Nodup))))
theorem good86 {G : Gt} (hG : OkG G) : Gd G 86 (roEnt 0 c86) := by
  refine gR (dp := fun _ => true) (fn := Tryz.f86) (n := 1) (fun _ => rfl) (by kernel_rfl) rfl (by kernel_rfl) hG (Nat.le_of_ble_eq_true rfl) (by kernel_rfl) (by decide) (fun _ _ => .v _) ?_
  rintro ⟨xs, ⟨⟩⟩ hpre
  simp -implicitDefEqProofs only [Tryz.f86, go_sem, ap_enc, ap_dec, AFn0_dec, AFn0_enc, Bool.not_true, Bool.not_false, ty135, lv27, AFAd_d0, AFAd_e0, AFStr_d0, AFStr_e0, Nat.reduceAdd, Nat.reduceMul, Nat.reduceLeDiff, Nat.reduceEqDiff, reduceCtorEq, Nat.reduceSub, Int.reduceNeg, Nat.reduceMod, Nat.reduceBEq, Nat.reduceLT] at hpre ⊢

  repeat' (first | with_reducible apply And.intro | with_reducible intro _ | ((first | refine brB_split (fun hb => ?_) (fun hb => ?_) | refine aPickB_split (fun hb => ?_) (fun hb => ?_) | refine gB_split (fun hb => ?_) (fun hb => ?_) | refine adB_split (fun hb => ?_) (fun hb => ?_)) <;> simp -implicitDefEqProofs only [hb, go_sem, ap_enc, ap_dec, AFn0_dec, AFn0_enc, Bool.not_true, Bool.not_false, ty135, lv27, AFAd_d0, AFAd_e0, AFStr_d0, AFStr_e0, Nat.reduceAdd, Nat.reduceMul, Nat.reduceLeDiff, Nat.reduceEqDiff, reduceCtorEq, Nat.reduceSub, Int.reduceNeg, Nat.reduceMod, Nat.reduceBEq, Nat.reduceLT] <;> try simp only [qa, qb, qc, qd, qe, qf, qg, bOf_t, bOf_f] at hb))
  all_goals first | rfl | omega | skip
  refine run_loop [] (ι := {i : Nat // i ≤ xs.length}) (fun p => ⟨[(0, .t (.sl 2 (xs.map encAd))), (3, .h 1006), (7, .t (.sl 2 (xs.map encAd))), (8, .t (.v (.int .i64 xs.length))), (9, .t (.v (.int .i64 p.1)))], [(1006, some (.mp (some 2) (dis (xs.take p.1))))]⟩) (fun p => xs.length - p.1) ⟨0, Nat.zero_le _⟩ rfl ?_ ?_
  · simp -implicitDefEqProofs only [go_sem, ap_enc, ap_dec, AFn0_dec, AFn0_enc, Bool.not_true, Bool.not_false, ty135, lv27, AFAd_d0, AFAd_e0, AFStr_d0, AFStr_e0, Nat.reduceAdd, Nat.reduceMul, Nat.reduceLeDiff, Nat.reduceEqDiff, reduceCtorEq, Nat.reduceSub, Int.reduceNeg, Nat.reduceMod, Nat.reduceBEq, Nat.reduceLT]
    simp
    rfl
  · rintro ⟨i, hi⟩
    by_cases hlt : (i : Int) < xs.length
    · simp -implicitDefEqProofs only [hlt, go_sem, ap_enc, ap_dec, AFn0_dec, AFn0_enc, Bool.not_true, Bool.not_false, ty135, lv27, AFAd_d0, AFAd_e0, AFStr_d0, AFStr_e0, Nat.reduceAdd, Nat.reduceMul, Nat.reduceLeDiff, Nat.reduceEqDiff, reduceCtorEq, Nat.reduceSub, Int.reduceNeg, Nat.reduceMod, Nat.reduceBEq, Nat.reduceLT]
      repeat' (first | with_reducible apply And.intro | with_reducible intro _ | ((first | refine brB_split (fun hb => ?_) (fun hb => ?_) | refine aPickB_split (fun hb => ?_) (fun hb => ?_) | refine gB_split (fun hb => ?_) (fun hb => ?_) | refine adB_split (fun hb => ?_) (fun hb => ?_)) <;> simp -implicitDefEqProofs only [hb, go_sem, ap_enc, ap_dec, AFn0_dec, AFn0_enc, Bool.not_true, Bool.not_false, ty135, lv27, AFAd_d0, AFAd_e0, AFStr_d0, AFStr_e0, Nat.reduceAdd, Nat.reduceMul, Nat.reduceLeDiff, Nat.reduceEqDiff, reduceCtorEq, Nat.reduceSub, Int.reduceNeg, Nat.reduceMod, Nat.reduceBEq, Nat.reduceLT] <;> try simp only [qa, qb, qc, qd, qe, qf, qg, bOf_t, bOf_f] at hb))
      all_goals (try simp only [maxLen] at *)
      all_goals first | rfl | omega | exact kd31 | skip
      refine ⟨⟨i + 1, by omega⟩, by dsimp only; omega, ?_⟩
      simp -implicitDefEqProofs only [go_sem, ap_enc, ap_dec, AFn0_dec, AFn0_enc, Bool.not_true, Bool.not_false, ty135, lv27, AFAd_d0, AFAd_e0, AFStr_d0, AFStr_e0, Nat.reduceAdd, Nat.reduceMul, Nat.reduceLeDiff, Nat.reduceEqDiff, reduceCtorEq, Nat.reduceSub, Int.reduceNeg, Nat.reduceMod, Nat.reduceBEq, Nat.reduceLT]
      simp only [Int.toNat_natCast, dis_take (show i < xs.length by omega)]
      try simp
    · simp -implicitDefEqProofs only [hlt, go_sem, ap_enc, ap_dec, AFn0_dec, AFn0_enc, Bool.not_true, Bool.not_false, ty135, lv27, AFAd_d0, AFAd_e0, AFStr_d0, AFStr_e0, Nat.reduceAdd, Nat.reduceMul, Nat.reduceLeDiff, Nat.reduceEqDiff, reduceCtorEq, Nat.reduceSub, Int.reduceNeg, Nat.reduceMod, Nat.reduceBEq, Nat.reduceLT]
      repeat' (first | with_reducible apply And.intro | with_reducible intro _ | ((first | refine brB_split (fun hb => ?_) (fun hb => ?_) | refine aPickB_split (fun hb => ?_) (fun hb => ?_) | refine gB_split (fun hb => ?_) (fun hb => ?_) | refine adB_split (fun hb => ?_) (fun hb => ?_)) <;> simp -implicitDefEqProofs only [hb, go_sem, ap_enc, ap_dec, AFn0_dec, AFn0_enc, Bool.not_true, Bool.not_false, ty135, lv27, AFAd_d0, AFAd_e0, AFStr_d0, AFStr_e0, Nat.reduceAdd, Nat.reduceMul, Nat.reduceLeDiff, Nat.reduceEqDiff, reduceCtorEq, Nat.reduceSub, Int.reduceNeg, Nat.reduceMod, Nat.reduceBEq, Nat.reduceLT] <;> try simp only [qa, qb, qc, qd, qe, qf, qg, bOf_t, bOf_f] at hb))
      all_goals first | rfl | omega | skip
      rw [List.take_of_length_le (by omega), ← bOf_congr (dis_len xs).2, bOf_d]
      refine congrArg (fun b => T.v (.bool b)) (decide_eq_decide.2 ?_)
      omega

def c43 : Ct := ctR (lc EMl.ag l0) (fun p => (∀ a ∈ p.1.to, a.domain.size ≤ 2000000) ∧ p.1.frm.domain.size ≤ 2000000 ∧ ∀ s ∈ p.1.body, s.size ≤ 2000000) (fun p => .t (.v (.bool (bOf (MlOk p.1)))))
set_option maxHeartbeats 800000 in
theorem good43 {G : Gt} (hG : OkG G) (h85 : G.e 85 = roEnt 0 c85) (h40 : G.e 40 = roEnt 0 c40) (h91 : G.e 91 = roEnt 0 c91) (h86 : G.e 86 = roEnt 0 c86) (h87 : G.e 87 = roEnt 0 c87) : Gd G 43 (roEnt 0 c43) := by
  refine gR (dp := fun _ => true) (fn := Tryz.f43) (n := 1) (fun _ => rfl) (by kernel_rfl) rfl (by kernel_rfl) hG (Nat.le_of_ble_eq_true rfl) (by kernel_rfl) (by decide) (fun _ _ => .v _) ?_
  rintro ⟨m, ⟨⟩⟩ hpre
  simp -implicitDefEqProofs only [Tryz.f43, go_sem, h85, c85, h40, c40, h91, c91, h86, c86, h87, c87, ap_enc, ap_dec, AFn0_dec, AFn0_enc, Bool.not_true, Bool.not_false, ty135, lv27, AFAd_d0, AFAd_e0, AFStr_d0, AFStr_e0, bOf_t, bOf_f, Nat.reduceAdd, Nat.reduceMul, Nat.reduceLeDiff, Nat.reduceEqDiff, reduceCtorEq, Nat.reduceSub, Int.reduceNeg, Nat.reduceMod, Nat.reduceBEq, Nat.reduceLT] at hpre ⊢

  repeat' (first | with_reducible apply And.intro | with_reducible intro _ | ((first | refine brB_split (fun hb => ?_) (fun hb => ?_) | refine aPickB_split (fun hb => ?_) (fun hb => ?_) | refine gB_split (fun hb => ?_) (fun hb => ?_) | refine adB_split (fun hb => ?_) (fun hb => ?_)) <;> simp -implicitDefEqProofs only [hb, go_sem, h85, c85, h40, c40, h91, c91, h86, c86, h87, c87, ap_enc, ap_dec, AFn0_dec, AFn0_enc, Bool.not_true, Bool.not_false, ty135, lv27, AFAd_d0, AFAd_e0, AFStr_d0, AFStr_e0, bOf_t, bOf_f, Nat.reduceAdd, Nat.reduceMul, Nat.reduceLeDiff, Nat.reduceEqDiff, reduceCtorEq, Nat.reduceSub, Int.reduceNeg, Nat.reduceMod, Nat.reduceBEq, Nat.reduceLT] <;> try simp only [qa, qb, qc, qd, qe, qf, qg, bOf_t, bOf_f] at hb))
  all_goals (try simp only [bOf_t, bOf_f, bOf_not, Decidable.not_not, Classical.not_not] at *)
  all_goals first | rfl | omega | exact hpre.1 | exact hpre.2.1 | exact hpre.2.2 | exact hpre.1 _ (by assumption) | exact hpre.2.2 _ (by assumption) | skip
  · refine congrArg (fun b => T.v (.bool b)) (bOf_congr ⟨fun h => ?_, fun h => h.2.2.2.2⟩)
    rename_i q1 q2 q3 q4
    exact ⟨fun a ha => Classical.byContradiction fun q => q4 ⟨a, ha, q⟩, hb, q1, by omega, h⟩
  · rw [bOf_n (fun h => absurd h.2.1 (by assumption))]
  · rw [bOf_n (fun h => by obtain ⟨a, ha, q⟩ := hb; exact q (h.1 a ha))]
  · rw [bOf_n (fun h => by have := h.2.2.2.1; omega)]
  · rw [bOf_n (fun h => absurd h.2.2.1 (by assumption))]


theorem take_snoc_map {α : Type} [Inhabited α] (enc : α → List T) {xs : List α} {i : Nat} (h : i < xs.length) : (xs.take (i + 1)).map enc = (xs.take i).map enc ++ [enc (xs.getD i default)] := by
  rw [List.take_succ_eq_append_getElem h, List.map_append, List.map_cons, List.map_nil]
  simp only [List.getD_eq_getElem?_getD, List.getElem?_eq_getElem h, Option.getD_some]
theorem tmap {α : Type} {enc : α → List T} {xs : List α} {k : Nat} : (xs.map enc).take k = (xs.take k).map enc := List.map_take.symm
theorem dmap {α : Type} {enc : α → List T} {xs : List α} {k : Nat} : (xs.map enc).drop k = (xs.drop k).map enc := List.map_drop.symm
def RcOk (r : Rc) : Prop := AdOk r.addr ∧ (0 ≤ r.tries ∧ r.tries ≤ 3) ∧ (0 ≤ r.next ∧ r.next ≤ 9999)
def ImOk (x : Im) : Prop := (∀ r ∈ x.to, RcOk r) ∧ (x.to.map Rc.addr).Nodup ∧ 0 < x.id ∧ (AdOk x.frm ∨ AdNull x.frm) ∧ (1 ≤ x.to.length ∧ x.to.length ≤ 4) ∧ BdOk x.body
def Asc (xs : List Im) : Prop := ∀ j, 0 < j → j < xs.length → (xs.getD (j - 1) default).id < (xs.getD j default).id
def SpOk (s : Sp) : Prop := (∀ x ∈ s.items, ImOk x ∧ x.id ≤ s.last) ∧ Asc s.items ∧ (0 ≤ s.last ∧ s.last ≤ 999) ∧ s.items.length ≤ 10
/-- Differing at every two places. -/
theorem nodup_addr {xs : List Rc} (h : ∀ j, j < xs.length → ∀ k, k < j → ¬ (xs.getD k default).addr = (xs.getD j default).addr) : (xs.map Rc.addr).Nodup := by
  rw [List.nodup_iff_pairwise_ne, List.pairwise_iff_getElem]
  intro k j hk hj hkj
  rw [List.length_map] at hk hj
  have := h j hj k hkj
  simpa [hk, hj] using this
theorem addr_nodup {xs : List Rc} (h : (xs.map Rc.addr).Nodup) {k i : Nat} (hk : k < i) (hi : i < xs.length) : ¬ (xs.getD k default).addr = (xs.getD i default).addr := fun e => by
  have q1 : k < xs.length := by omega
  simp only [List.getD_eq_getElem?_getD, List.getElem?_eq_getElem q1, List.getElem?_eq_getElem hi, Option.getD_some] at e
  exact List.pairwise_iff_getElem.1 (List.nodup_iff_pairwise_ne.1 h) k i (by simpa using q1) (by simpa using hi) hk (by simpa using e)
def c110 : Ct := ctR (lc ERc.ag l0) (fun p => True) (fun p => .t (.v (.bool (bOf (RcOk p.1)))))
theorem good110 {G : Gt} (hG : OkG G) (h80 : G.e 80 = roEnt 0 c80) (h51 : G.e 51 = roEnt 0 c51) : Gd G 110 (roEnt 0 c110) := by
  refine gR (dp := fun _ => true) (fn := Tryz.f110) (n := 1) (fun _ => rfl) (by kernel_rfl) rfl (by kernel_rfl) hG (Nat.le_of_ble_eq_true rfl) (by kernel_rfl) (by decide) (fun _ _ => .v _) ?_
  rintro ⟨r, ⟨⟩⟩ hpre
  simp -implicitDefEqProofs only [Tryz.f110, go_sem, h80, c80, h51, c51, Nat.reduceAdd, Nat.reduceMul, Nat.reduceLeDiff, Nat.reduceEqDiff, reduceCtorEq, Nat.reduceSub, Int.reduceNeg, Nat.reduceMod, Nat.reduceBEq, Nat.reduceLT] at hpre ⊢

  repeat' (first | with_reducible apply And.intro | with_reducible intro _ | ((first | refine brB_split (fun hb => ?_) (fun hb => ?_) | refine aPickB_split (fun hb => ?_) (fun hb => ?_) | refine gB_split (fun hb => ?_) (fun hb => ?_) | refine adB_split (fun hb => ?_) (fun hb => ?_)) <;> simp -implicitDefEqProofs only [hb, go_sem, h80, c80, h51, c51, Nat.reduceAdd, Nat.reduceMul, Nat.reduceLeDiff, Nat.reduceEqDiff, reduceCtorEq, Nat.reduceSub, Int.reduceNeg, Nat.reduceMod, Nat.reduceBEq, Nat.reduceLT] <;> try simp only [qa, qb, qc, qd, qe, qf, qg, bOf_t, bOf_f] at hb))
  all_goals first
    | rfl
    | omega
    | exact congrArg (fun b => T.v (Value.bool b)) (bOf_congr ⟨fun h => ⟨by assumption, by assumption, h⟩, fun h => h.2.2⟩)
    | (rw [bOf_n (fun h => absurd h.1 (by assumption))]; done)
    | (rw [bOf_n (fun h => absurd h.2.1 (by assumption))]; done)

def c78 : Ct := ctR (lc EIm.ag l0) (fun p => True) (fun p => .t (.v (.bool (bOf (ImOk p.1)))))
set_option maxHeartbeats 800000 in
theorem good78 {G : Gt} (hG : OkG G) (h80 : G.e 80 = roEnt 0 c80) (h51 : G.e 51 = roEnt 0 c51) (h110 : G.e 110 = roEnt 0 c110) (h79 : G.e 79 = roEnt 0 c79) (h93 : G.e 93 = roEnt 0 c93) : Gd G 78 (roEnt 0 c78) := by
  refine gR (dp := fun _ => true) (fn := Tryz.f78) (n := 1) (fun _ => rfl) (by kernel_rfl) rfl (by kernel_rfl) hG (Nat.le_of_ble_eq_true rfl) (by kernel_rfl) (by decide) (fun _ _ => .v _) ?_
  rintro ⟨x, ⟨⟩⟩ hpre
  simp -implicitDefEqProofs only [Tryz.f78, go_sem, h80, c80, h51, c51, h110, c110, h79, c79, h93, c93, List.length_map, Nat.reduceAdd, Nat.reduceMul, Nat.reduceLeDiff, Nat.reduceEqDiff, reduceCtorEq, Nat.reduceSub, Int.reduceNeg, Nat.reduceMod, Nat.reduceBEq, Nat.reduceLT] at hpre ⊢

  have hbox : ∀ y : Im, Ob.box [AV.t (T.v (Value.int IntKind.i64 y.id)), AV.t (T.v (Value.string y.frm.user)), AV.t (T.v (Value.string y.frm.domain)), AV.t (T.sl 4 (List.map encRc y.to)), AV.t (T.sl 1 (List.map encStr y.body))] = Ob.box ((encIm y).map .t) := fun _ => rfl
  refine run_loop [] (ι := {i : Nat // i ≤ x.to.length ∧ (∀ j, j < i → RcOk (x.to.getD j default)) ∧ ∀ j, j < i → ∀ k, k < j → ¬ (x.to.getD k default).addr = (x.to.getD j default).addr}) (fun p => ⟨[(1, .pb 1001 0), (3, .t (.v (.int .i64 p.1)))], [(1001, some (.box ((encIm x).map .t)))]⟩) (fun p => x.to.length - p.1) ⟨0, by simp, by simp, by simp⟩ rfl ?_ ?_
  · simp -implicitDefEqProofs only [go_sem, h80, c80, h51, c51, h110, c110, h79, c79, h93, c93, List.length_map, Nat.reduceAdd, Nat.reduceMul, Nat.reduceLeDiff, Nat.reduceEqDiff, reduceCtorEq, Nat.reduceSub, Int.reduceNeg, Nat.reduceMod, Nat.reduceBEq, Nat.reduceLT]
    simp
  · rintro ⟨i, hi, hall, hno⟩
    simp -implicitDefEqProofs only [go_sem, h80, c80, h51, c51, h110, c110, h79, c79, h93, c93, List.length_map, Nat.reduceAdd, Nat.reduceMul, Nat.reduceLeDiff, Nat.reduceEqDiff, reduceCtorEq, Nat.reduceSub, Int.reduceNeg, Nat.reduceMod, Nat.reduceBEq, Nat.reduceLT]
    repeat' (first | with_reducible apply And.intro | with_reducible intro _ | ((first | refine brB_split (fun hb => ?_) (fun hb => ?_) | refine aPickB_split (fun hb => ?_) (fun hb => ?_) | refine gB_split (fun hb => ?_) (fun hb => ?_) | refine adB_split (fun hb => ?_) (fun hb => ?_)) <;> simp -implicitDefEqProofs only [hb, go_sem, h80, c80, h51, c51, h110, c110, h79, c79, h93, c93, List.length_map, Nat.reduceAdd, Nat.reduceMul, Nat.reduceLeDiff, Nat.reduceEqDiff, reduceCtorEq, Nat.reduceSub, Int.reduceNeg, Nat.reduceMod, Nat.reduceBEq, Nat.reduceLT] <;> try simp only [qa, qb, qc, qd, qe, qf, qg, bOf_t, bOf_f] at hb))
    all_goals (try simp only [maxLen, Int.toNat_natCast, List.length_map] at *)
    all_goals first | rfl | omega | skip
    · rw [bOf_n (fun h => hb (h.1 _ (getD_mem (by omega))))]
    · refine run_loop [] (ι := {k : Nat // k ≤ i ∧ ∀ j, j < k → ¬ (x.to.getD j default).addr = (x.to.getD i default).addr}) (fun p => ⟨[(1, .pb 1001 0), (3, .t (.v (.int .i64 i))), (4, .t (.v (.int .i64 p.1)))], [(1001, some (.box ((encIm x).map .t)))]⟩) (fun p => i - p.1) ⟨0, by simp, by simp⟩ rfl ?_ ?_
      · simp -implicitDefEqProofs only [go_sem, h80, c80, h51, c51, h110, c110, h79, c79, h93, c93, List.length_map, Nat.reduceAdd, Nat.reduceMul, Nat.reduceLeDiff, Nat.reduceEqDiff, reduceCtorEq, Nat.reduceSub, Int.reduceNeg, Nat.reduceMod, Nat.reduceBEq, Nat.reduceLT]
        simp
      · rintro ⟨k, hk, hk2⟩
        simp -implicitDefEqProofs only [go_sem, h80, c80, h51, c51, h110, c110, h79, c79, h93, c93, List.length_map, Nat.reduceAdd, Nat.reduceMul, Nat.reduceLeDiff, Nat.reduceEqDiff, reduceCtorEq, Nat.reduceSub, Int.reduceNeg, Nat.reduceMod, Nat.reduceBEq, Nat.reduceLT]
        repeat' (first | with_reducible apply And.intro | with_reducible intro _ | ((first | refine brB_split (fun hb => ?_) (fun hb => ?_) | refine aPickB_split (fun hb => ?_) (fun hb => ?_) | refine gB_split (fun hb => ?_) (fun hb => ?_) | refine adB_split (fun hb => ?_) (fun hb => ?_)) <;> simp -implicitDefEqProofs only [hb, go_sem, h80, c80, h51, c51, h110, c110, h79, c79, h93, c93, List.length_map, Nat.reduceAdd, Nat.reduceMul, Nat.reduceLeDiff, Nat.reduceEqDiff, reduceCtorEq, Nat.reduceSub, Int.reduceNeg, Nat.reduceMod, Nat.reduceBEq, Nat.reduceLT] <;> try simp only [qa, qb, qc, qd, qe, qf, qg, bOf_t, bOf_f] at hb))
        all_goals (try simp only [maxLen, Int.toNat_natCast, List.length_map] at *)
        all_goals first | rfl | omega | skip
        · have e : (x.to.getD k default).addr = (x.to.getD i default).addr := Ad_ext.2 (by simpa using hb)
          rw [bOf_n (fun h => addr_nodup h.2.1 (by omega) (by omega) e)]
        · refine ⟨⟨k + 1, by omega, fun j hj => ?_⟩, by dsimp only; omega, ?_⟩
          · by_cases e : j = k
            · subst e; exact neqb hb
            · exact hk2 j (by omega)
          · simp -implicitDefEqProofs only [go_sem, h80, c80, h51, c51, h110, c110, h79, c79, h93, c93, List.length_map, Nat.reduceAdd, Nat.reduceMul, Nat.reduceLeDiff, Nat.reduceEqDiff, reduceCtorEq, Nat.reduceSub, Int.reduceNeg, Nat.reduceMod, Nat.reduceBEq, Nat.reduceLT]
            simp
        · refine ⟨⟨i + 1, by omega, all_step hall (by assumption), fun j hj q hq => ?_⟩, by dsimp only; omega, ?_⟩
          · by_cases e : j = i
            · subst e; exact hk2 q (by omega)
            · exact hno j (by omega) q hq
          · simp -implicitDefEqProofs only [go_sem, h80, c80, h51, c51, h110, c110, h79, c79, h93, c93, List.length_map, Nat.reduceAdd, Nat.reduceMul, Nat.reduceLeDiff, Nat.reduceEqDiff, reduceCtorEq, Nat.reduceSub, Int.reduceNeg, Nat.reduceMod, Nat.reduceBEq, Nat.reduceLT]
            simp
    all_goals have hA : ∀ r ∈ x.to, RcOk r := mem_getD fun j hj => hall j (by omega)
    all_goals have hN : (x.to.map Rc.addr).Nodup := nodup_addr fun j hj q hq => hno j (by omega) q hq
    all_goals first
      | (rw [bOf_congr]
         exact ⟨fun h => ⟨hA, hN, by first | assumption | omega, by first | exact .inl (by assumption) | exact .inr (by assumption), by omega, h⟩, fun h => h.2.2.2.2.2⟩)
      | (rw [bOf_n]
         intro h
         first
           | (have := h.2.2.1; omega)
           | (have := h.2.2.2.2.1; omega)
           | (rcases h.2.2.2.1 with h | h <;> contradiction))

def c34 : Ct := ctR (lc ESp.ag l0) (fun p => True) (fun p => .t (.v (.bool (bOf (SpOk p.1)))))
set_option maxHeartbeats 1600000 in
theorem good34 {G : Gt} (hG : OkG G) (h78 : G.e 78 = roEnt 0 c78) (h51 : G.e 51 = roEnt 0 c51) : Gd G 34 (roEnt 0 c34) := by
  refine gR (dp := fun _ => true) (fn := Tryz.f34) (n := 1) (fun _ => rfl) (by kernel_rfl) rfl (by kernel_rfl) hG (Nat.le_of_ble_eq_true rfl) (by kernel_rfl) (by decide) (fun _ _ => .v _) ?_
  rintro ⟨s, ⟨⟩⟩ hpre
  simp -implicitDefEqProofs only [Tryz.f34, go_sem, h78, c78, h51, c51, List.length_map, Bool.not_true, Bool.not_false, Nat.reduceAdd, Nat.reduceMul, Nat.reduceLeDiff, Nat.reduceEqDiff, reduceCtorEq, Nat.reduceSub, Int.reduceNeg, Nat.reduceMod, Nat.reduceBEq, Nat.reduceLT] at hpre ⊢

  refine run_loop [] (ι := {i : Nat // i ≤ s.items.length ∧ (∀ j, j < i → ImOk (s.items.getD j default) ∧ (s.items.getD j default).id ≤ s.last) ∧ ∀ j, 0 < j → j < i → (s.items.getD (j - 1) default).id < (s.items.getD j default).id}) (fun p => ⟨[(1, .pb 1001 0), (3, .t (.v (.int .i64 p.1)))], [(1001, some (.box ((encSp s).map .t)))]⟩) (fun p => s.items.length - p.1) ⟨0, by simp, by simp, by simp⟩ rfl ?_ ?_
  · simp -implicitDefEqProofs only [go_sem, h78, c78, h51, c51, List.length_map, Bool.not_true, Bool.not_false, Nat.reduceAdd, Nat.reduceMul, Nat.reduceLeDiff, Nat.reduceEqDiff, reduceCtorEq, Nat.reduceSub, Int.reduceNeg, Nat.reduceMod, Nat.reduceBEq, Nat.reduceLT]
    simp
  · rintro ⟨i, hi, hall, hasc⟩
    by_cases hlt : (i : Int) < s.items.length
    · simp -implicitDefEqProofs only [hlt, decide_true, go_sem, h78, c78, h51, c51, List.length_map, Bool.not_true, Bool.not_false, Nat.reduceAdd, Nat.reduceMul, Nat.reduceLeDiff, Nat.reduceEqDiff, reduceCtorEq, Nat.reduceSub, Int.reduceNeg, Nat.reduceMod, Nat.reduceBEq, Nat.reduceLT]
      repeat' (first | with_reducible apply And.intro | with_reducible intro _ | ((first | refine brB_split (fun hb => ?_) (fun hb => ?_) | refine aPickB_split (fun hb => ?_) (fun hb => ?_) | refine gB_split (fun hb => ?_) (fun hb => ?_) | refine adB_split (fun hb => ?_) (fun hb => ?_)) <;> simp -implicitDefEqProofs only [hb, go_sem, h78, c78, h51, c51, List.length_map, Bool.not_true, Bool.not_false, Nat.reduceAdd, Nat.reduceMul, Nat.reduceLeDiff, Nat.reduceEqDiff, reduceCtorEq, Nat.reduceSub, Int.reduceNeg, Nat.reduceMod, Nat.reduceBEq, Nat.reduceLT] <;> try simp only [qa, qb, qc, qd, qe, qf, qg, bOf_t, bOf_f] at hb))
      all_goals (try simp only [maxLen, Int.toNat_natCast, List.length_map] at *)
      all_goals first | rfl | omega | skip
      all_goals (try rw [show ((i : Int) - 1).toNat = i - 1 from by omega] at hb)
      all_goals first
        | (rw [bOf_n (fun h => by have h1 := h.1 _ (getD_mem (xs := s.items) (j := i) (by omega)); first | exact hb h1.1 | omega)]; done)
        | (rw [bOf_n (fun h => by have h1 := h.2.1 i (by omega) (by omega); omega)]; done)
        | skip
      all_goals
        refine ⟨⟨i + 1, by omega, all_step (P := fun x : Im => ImOk x ∧ x.id ≤ s.last) hall ⟨by assumption, by omega⟩, fun j h0 hj => ?_⟩, by dsimp only; omega, ?_⟩
        · by_cases e : j = i
          · subst e; omega
          · exact hasc j h0 (by omega)
        · simp -implicitDefEqProofs only [go_sem, h78, c78, h51, c51, List.length_map, Bool.not_true, Bool.not_false, Nat.reduceAdd, Nat.reduceMul, Nat.reduceLeDiff, Nat.reduceEqDiff, reduceCtorEq, Nat.reduceSub, Int.reduceNeg, Nat.reduceMod, Nat.reduceBEq, Nat.reduceLT]
          simp
    · simp -implicitDefEqProofs only [hlt, decide_false, go_sem, h78, c78, h51, c51, List.length_map, Bool.not_true, Bool.not_false, Nat.reduceAdd, Nat.reduceMul, Nat.reduceLeDiff, Nat.reduceEqDiff, reduceCtorEq, Nat.reduceSub, Int.reduceNeg, Nat.reduceMod, Nat.reduceBEq, Nat.reduceLT]
      repeat' (first | with_reducible apply And.intro | with_reducible intro _ | ((first | refine brB_split (fun hb => ?_) (fun hb => ?_) | refine aPickB_split (fun hb => ?_) (fun hb => ?_) | refine gB_split (fun hb => ?_) (fun hb => ?_) | refine adB_split (fun hb => ?_) (fun hb => ?_)) <;> simp -implicitDefEqProofs only [hb, go_sem, h78, c78, h51, c51, List.length_map, Bool.not_true, Bool.not_false, Nat.reduceAdd, Nat.reduceMul, Nat.reduceLeDiff, Nat.reduceEqDiff, reduceCtorEq, Nat.reduceSub, Int.reduceNeg, Nat.reduceMod, Nat.reduceBEq, Nat.reduceLT] <;> try simp only [qa, qb, qc, qd, qe, qf, qg, bOf_t, bOf_f] at hb))
      all_goals (try simp only [maxLen, Int.toNat_natCast, List.length_map] at *)
      all_goals first | rfl | omega | skip
      · refine congrArg (fun b => T.v (Value.bool b)) ?_
        rw [← bOf_d, bOf_congr]
        exact ⟨fun h => ⟨mem_getD fun j hj => hall j (by omega), fun j h0 hj => hasc j h0 (by omega), hb, by omega⟩, fun h => by have := h.2.2.2; omega⟩
      · rw [bOf_n (fun h => hb h.2.2.1)]

def c113 : Ct := ctR (lc ESp.ag (lc AInt l0)) (fun p => True) (fun p => .t (.v (.int .i64 (ixP (fun x : Im => x.id = p.2.1) 0 p.1.items))))
theorem good113 {G : Gt} (hG : OkG G) : Gd G 113 (roEnt 0 c113) := by
  refine gR (dp := fun _ => true) (fn := Tryz.f113) (n := 2) (fun _ => rfl) (by kernel_rfl) rfl (by kernel_rfl) hG (Nat.le_of_ble_eq_true rfl) (by kernel_rfl) (by decide) (fun _ _ => .v _) ?_
  rintro ⟨s, n, ⟨⟩⟩ hpre
  simp -implicitDefEqProofs only [Tryz.f113, go_sem, List.length_map, Nat.reduceAdd, Nat.reduceMul, Nat.reduceLeDiff, Nat.reduceEqDiff, reduceCtorEq, Nat.reduceSub, Int.reduceNeg, Nat.reduceMod, Nat.reduceBEq, Nat.reduceLT] at hpre ⊢

  refine run_loop [] (ι := {i : Nat // i ≤ s.items.length ∧ ixP (fun x : Im => x.id = n) 0 s.items = ixP (fun x : Im => x.id = n) i (s.items.drop i)}) (fun p => ⟨[(1, .t (.v (.int .i64 n))), (2, .pb 1002 0), (5, .t (.v (.int .i64 p.1)))], [(1002, some (.box ((encSp s).map .t)))]⟩) (fun p => s.items.length - p.1) ⟨0, by simp, rfl⟩ rfl ?_ ?_
  · simp -implicitDefEqProofs only [go_sem, List.length_map, Nat.reduceAdd, Nat.reduceMul, Nat.reduceLeDiff, Nat.reduceEqDiff, reduceCtorEq, Nat.reduceSub, Int.reduceNeg, Nat.reduceMod, Nat.reduceBEq, Nat.reduceLT]
    simp
  · rintro ⟨i, hi, hix⟩
    simp -implicitDefEqProofs only [go_sem, List.length_map, Nat.reduceAdd, Nat.reduceMul, Nat.reduceLeDiff, Nat.reduceEqDiff, reduceCtorEq, Nat.reduceSub, Int.reduceNeg, Nat.reduceMod, Nat.reduceBEq, Nat.reduceLT]
    repeat' (first | with_reducible apply And.intro | with_reducible intro _ | ((first | refine brB_split (fun hb => ?_) (fun hb => ?_) | refine aPickB_split (fun hb => ?_) (fun hb => ?_) | refine gB_split (fun hb => ?_) (fun hb => ?_) | refine adB_split (fun hb => ?_) (fun hb => ?_)) <;> simp -implicitDefEqProofs only [hb, go_sem, List.length_map, Nat.reduceAdd, Nat.reduceMul, Nat.reduceLeDiff, Nat.reduceEqDiff, reduceCtorEq, Nat.reduceSub, Int.reduceNeg, Nat.reduceMod, Nat.reduceBEq, Nat.reduceLT] <;> try simp only [qa, qb, qc, qd, qe, qf, qg, bOf_t, bOf_f] at hb))
    all_goals (try simp only [maxLen, Int.toNat_natCast, List.length_map] at *)
    all_goals first | rfl | omega | skip
    · rw [hix, ixP_yes (p := fun x : Im => x.id = n) (by omega) hb]
    · refine ⟨⟨i + 1, by omega, by rw [hix, ixP_no (p := fun x : Im => x.id = n) (by omega) hb]⟩, by dsimp only; omega, ?_⟩
      simp -implicitDefEqProofs only [go_sem, List.length_map, Nat.reduceAdd, Nat.reduceMul, Nat.reduceLeDiff, Nat.reduceEqDiff, reduceCtorEq, Nat.reduceSub, Int.reduceNeg, Nat.reduceMod, Nat.reduceBEq, Nat.reduceLT]
      simp
    · rw [hix, ixP_end (by omega)]

def c114 : Ct := ctR (lc EIm.ag (lc EAd.ag l0)) (fun p => True) (fun p => .t (.v (.int .i64 (ixP (fun r : Rc => r.addr = p.2.1) 0 p.1.to))))
theorem good114 {G : Gt} (hG : OkG G) : Gd G 114 (roEnt 0 c114) := by
  refine gR (dp := fun _ => true) (fn := Tryz.f114) (n := 2) (fun _ => rfl) (by kernel_rfl) rfl (by kernel_rfl) hG (Nat.le_of_ble_eq_true rfl) (by kernel_rfl) (by decide) (fun _ _ => .v _) ?_
  rintro ⟨x, a, ⟨⟩⟩ hpre
  simp -implicitDefEqProofs only [Tryz.f114, go_sem, List.length_map, Nat.reduceAdd, Nat.reduceMul, Nat.reduceLeDiff, Nat.reduceEqDiff, reduceCtorEq, Nat.reduceSub, Int.reduceNeg, Nat.reduceMod, Nat.reduceBEq, Nat.reduceLT] at hpre ⊢

  refine run_loop [] (ι := {i : Nat // i ≤ x.to.length ∧ ixP (fun r : Rc => r.addr = a) 0 x.to = ixP (fun r : Rc => r.addr = a) i (x.to.drop i)}) (fun p => ⟨[(2, .pb 1002 0), (3, .pb 1003 0), (5, .t (.v (.int .i64 p.1)))], [(1002, some (.box ((encIm x).map .t))), (1003, some (.box ((encAd a).map .t)))]⟩) (fun p => x.to.length - p.1) ⟨0, by simp, rfl⟩ rfl ?_ ?_
  · simp -implicitDefEqProofs only [go_sem, List.length_map, Nat.reduceAdd, Nat.reduceMul, Nat.reduceLeDiff, Nat.reduceEqDiff, reduceCtorEq, Nat.reduceSub, Int.reduceNeg, Nat.reduceMod, Nat.reduceBEq, Nat.reduceLT]
    simp
  · rintro ⟨i, hi, hix⟩
    simp -implicitDefEqProofs only [go_sem, List.length_map, Nat.reduceAdd, Nat.reduceMul, Nat.reduceLeDiff, Nat.reduceEqDiff, reduceCtorEq, Nat.reduceSub, Int.reduceNeg, Nat.reduceMod, Nat.reduceBEq, Nat.reduceLT]
    repeat' (first | with_reducible apply And.intro | with_reducible intro _ | ((first | refine brB_split (fun hb => ?_) (fun hb => ?_) | refine aPickB_split (fun hb => ?_) (fun hb => ?_) | refine gB_split (fun hb => ?_) (fun hb => ?_) | refine adB_split (fun hb => ?_) (fun hb => ?_)) <;> simp -implicitDefEqProofs only [hb, go_sem, List.length_map, Nat.reduceAdd, Nat.reduceMul, Nat.reduceLeDiff, Nat.reduceEqDiff, reduceCtorEq, Nat.reduceSub, Int.reduceNeg, Nat.reduceMod, Nat.reduceBEq, Nat.reduceLT] <;> try simp only [qa, qb, qc, qd, qe, qf, qg, bOf_t, bOf_f] at hb))
    all_goals (try simp only [maxLen, Int.toNat_natCast, List.length_map] at *)
    all_goals first | rfl | omega | skip
    · rw [hix, ixP_yes (p := fun r : Rc => r.addr = a) (by omega) (Ad_ext.2 (by simpa using hb))]
    · refine ⟨⟨i + 1, by omega, by rw [hix, ixP_no (p := fun r : Rc => r.addr = a) (by omega) (neqb hb)]⟩, by dsimp only; omega, ?_⟩
      simp -implicitDefEqProofs only [go_sem, List.length_map, Nat.reduceAdd, Nat.reduceMul, Nat.reduceLeDiff, Nat.reduceEqDiff, reduceCtorEq, Nat.reduceSub, Int.reduceNeg, Nat.reduceMod, Nat.reduceBEq, Nat.reduceLT]
      simp
    · rw [hix, ixP_end (by omega)]

def c81 : Ct := ctR (lc EIm.ag l0) (fun p => OkIm p.1) (fun p => owIm p.1)
theorem good81 {G : Gt} (hG : OkG G) : Gd G 81 (roEnt 0 c81) := by
  refine gR (dp := fun _ => true) (fn := Tryz.f81) (n := 1) (fun _ => rfl) (by kernel_rfl) rfl (by kernel_rfl) hG (Nat.le_of_ble_eq_true rfl) (by kernel_rfl) (by decide) (fun _ p => owIm_solid _) ?_
  rintro ⟨x, ⟨⟩⟩ hpre
  simp -implicitDefEqProofs only [Tryz.f81, go_sem, List.length_map, List.map_nil, List.length_nil, List.nil_append, Nat.zero_add, Nat.reduceAdd, Nat.reduceMul, Nat.reduceLeDiff, Nat.reduceEqDiff, reduceCtorEq, Nat.reduceSub, Int.reduceNeg, Nat.reduceMod, Nat.reduceBEq, Nat.reduceLT] at hpre ⊢

  obtain ⟨_, ⟨h1, _⟩, ⟨h2, _⟩⟩ := hpre
  repeat' (first | with_reducible apply And.intro | with_reducible intro _ | ((first | refine brB_split (fun hb => ?_) (fun hb => ?_) | refine aPickB_split (fun hb => ?_) (fun hb => ?_) | refine gB_split (fun hb => ?_) (fun hb => ?_) | refine adB_split (fun hb => ?_) (fun hb => ?_)) <;> simp -implicitDefEqProofs only [hb, go_sem, List.length_map, List.map_nil, List.length_nil, List.nil_append, Nat.zero_add, Nat.reduceAdd, Nat.reduceMul, Nat.reduceLeDiff, Nat.reduceEqDiff, reduceCtorEq, Nat.reduceSub, Int.reduceNeg, Nat.reduceMod, Nat.reduceBEq, Nat.reduceLT] <;> try simp only [qa, qb, qc, qd, qe, qf, qg, bOf_t, bOf_f] at hb))
  all_goals (try simp only [maxLen, List.length_map, List.length_nil] at *)
  all_goals first | rfl | omega | (simp_all; done) | trace_state

def c36 : Ct := ctR (lc ESp.ag l0) (fun p => OkSp p.1) (fun p => owSp p.1)
set_option maxHeartbeats 1600000 in
theorem good36 {G : Gt} (hG : OkG G) (h81 : G.e 81 = roEnt 0 c81) : Gd G 36 (roEnt 0 c36) := by
  refine gR (dp := fun n => !(Nat.beq n 100002 || Nat.beq n 100004)) (fn := Tryz.f36) (n := 1) (fun _ => rfl) (by kernel_rfl) rfl (by kernel_rfl) hG (Nat.le_of_ble_eq_true rfl) (by kernel_rfl) (by decide) (fun _ p => owSp_solid _) ?_
  rintro ⟨s, ⟨⟩⟩ hpre
  simp -implicitDefEqProofs only [Tryz.f36, go_sem, h81, c81, List.length_map, List.length_append, List.length_cons, List.length_nil, List.map_append, List.mem_singleton, forall_eq, AS.nilb, AS.renb, Bool.not_false, Bool.not_true, List.set_cons_zero, List.set_cons_succ, List.set_nil, Nat.reduceAdd, Nat.reduceMul, Nat.reduceLeDiff, Nat.reduceEqDiff, reduceCtorEq, Nat.reduceSub, Int.reduceNeg, Nat.reduceMod, Nat.reduceBEq, Nat.reduceLT] at hpre ⊢

  have hpre' : OkL OkIm s.items := hpre
  repeat' (first | with_reducible apply And.intro | with_reducible intro _ | ((first | refine brB_split (fun hb => ?_) (fun hb => ?_) | refine aPickB_split (fun hb => ?_) (fun hb => ?_) | refine gB_split (fun hb => ?_) (fun hb => ?_) | refine adB_split (fun hb => ?_) (fun hb => ?_)) <;> simp -implicitDefEqProofs only [hb, go_sem, h81, c81, List.length_map, List.length_append, List.length_cons, List.length_nil, List.map_append, List.mem_singleton, forall_eq, AS.nilb, AS.renb, Bool.not_false, Bool.not_true, List.set_cons_zero, List.set_cons_succ, List.set_nil, Nat.reduceAdd, Nat.reduceMul, Nat.reduceLeDiff, Nat.reduceEqDiff, reduceCtorEq, Nat.reduceSub, Int.reduceNeg, Nat.reduceMod, Nat.reduceBEq, Nat.reduceLT] <;> try simp only [qa, qb, qc, qd, qe, qf, qg, bOf_t, bOf_f] at hb))
  all_goals first | rfl | skip
  refine run_le (Le.nilb 1003 1 1901 true 5 rfl rfl rfl) (run_go ?_)
  simp -implicitDefEqProofs only [go_sem, h81, c81, List.length_map, List.length_append, List.length_cons, List.length_nil, List.map_append, List.mem_singleton, forall_eq, AS.nilb, AS.renb, Bool.not_false, Bool.not_true, List.set_cons_zero, List.set_cons_succ, List.set_nil, Nat.reduceAdd, Nat.reduceMul, Nat.reduceLeDiff, Nat.reduceEqDiff, reduceCtorEq, Nat.reduceSub, Int.reduceNeg, Nat.reduceMod, Nat.reduceBEq, Nat.reduceLT]
  refine run_loop [] (ι := {i : Nat // i ≤ s.items.length}) (fun p => ⟨[(1, .pb 1001 0), (2, .pb 1002 0), (3, .pb 1003 0), (4, .t (.v (.int .i64 p.1)))], [(1001, some (.box ((encSp s).map .t))), (1002, some (.box [.t (.v (.int .i64 0)), .nil])), (1003, some (.box [.t (.v (.int .i64 s.last)), .h 1901])), (1901, some (.arr true 5 ((s.items.take p.1).map encIm)))]⟩) (fun p => s.items.length - p.1) ⟨0, by simp⟩ rfl ?_ ?_
  · simp -implicitDefEqProofs only [go_sem, h81, c81, List.length_map, List.length_append, List.length_cons, List.length_nil, List.map_append, List.mem_singleton, forall_eq, AS.nilb, AS.renb, Bool.not_false, Bool.not_true, List.set_cons_zero, List.set_cons_succ, List.set_nil, Nat.reduceAdd, Nat.reduceMul, Nat.reduceLeDiff, Nat.reduceEqDiff, reduceCtorEq, Nat.reduceSub, Int.reduceNeg, Nat.reduceMod, Nat.reduceBEq, Nat.reduceLT]
    simp
  · rintro ⟨i, hi⟩
    by_cases hlt : (i : Int) < s.items.length
    · have hok := hpre'.at (i := i) (by omega)
      have hlen : (s.items.take i).length = i := by simp; omega
      have hmax := hpre'.1
      simp -implicitDefEqProofs only [hlt, decide_true, Int.toNat_natCast, go_sem, h81, c81, List.length_map, List.length_append, List.length_cons, List.length_nil, List.map_append, List.mem_singleton, forall_eq, AS.nilb, AS.renb, Bool.not_false, Bool.not_true, List.set_cons_zero, List.set_cons_succ, List.set_nil, Nat.reduceAdd, Nat.reduceMul, Nat.reduceLeDiff, Nat.reduceEqDiff, reduceCtorEq, Nat.reduceSub, Int.reduceNeg, Nat.reduceMod, Nat.reduceBEq, Nat.reduceLT]
      repeat' (first | with_reducible apply And.intro | with_reducible intro _ | ((first | refine brB_split (fun hb => ?_) (fun hb => ?_) | refine aPickB_split (fun hb => ?_) (fun hb => ?_) | refine gB_split (fun hb => ?_) (fun hb => ?_) | refine adB_split (fun hb => ?_) (fun hb => ?_)) <;> simp -implicitDefEqProofs only [hb, go_sem, h81, c81, List.length_map, List.length_append, List.length_cons, List.length_nil, List.map_append, List.mem_singleton, forall_eq, AS.nilb, AS.renb, Bool.not_false, Bool.not_true, List.set_cons_zero, List.set_cons_succ, List.set_nil, Nat.reduceAdd, Nat.reduceMul, Nat.reduceLeDiff, Nat.reduceEqDiff, reduceCtorEq, Nat.reduceSub, Int.reduceNeg, Nat.reduceMod, Nat.reduceBEq, Nat.reduceLT] <;> try simp only [qa, qb, qc, qd, qe, qf, qg, bOf_t, bOf_f] at hb))
      all_goals (try simp only [maxLen] at *)
      all_goals first | rfl | omega | assumption | decide | skip
      refine run_le (Le.renb 1003 1 1024 1901 rfl rfl rfl rfl) (run_go ?_)
      simp -implicitDefEqProofs only [go_sem, h81, c81, List.length_map, List.length_append, List.length_cons, List.length_nil, List.map_append, List.mem_singleton, forall_eq, AS.nilb, AS.renb, Bool.not_false, Bool.not_true, List.set_cons_zero, List.set_cons_succ, List.set_nil, Nat.reduceAdd, Nat.reduceMul, Nat.reduceLeDiff, Nat.reduceEqDiff, reduceCtorEq, Nat.reduceSub, Int.reduceNeg, Nat.reduceMod, Nat.reduceBEq, Nat.reduceLT]
      repeat' (first | with_reducible apply And.intro | with_reducible intro _ | ((first | refine brB_split (fun hb => ?_) (fun hb => ?_) | refine aPickB_split (fun hb => ?_) (fun hb => ?_) | refine gB_split (fun hb => ?_) (fun hb => ?_) | refine adB_split (fun hb => ?_) (fun hb => ?_)) <;> simp -implicitDefEqProofs only [hb, go_sem, h81, c81, List.length_map, List.length_append, List.length_cons, List.length_nil, List.map_append, List.mem_singleton, forall_eq, AS.nilb, AS.renb, Bool.not_false, Bool.not_true, List.set_cons_zero, List.set_cons_succ, List.set_nil, Nat.reduceAdd, Nat.reduceMul, Nat.reduceLeDiff, Nat.reduceEqDiff, reduceCtorEq, Nat.reduceSub, Int.reduceNeg, Nat.reduceMod, Nat.reduceBEq, Nat.reduceLT] <;> try simp only [qa, qb, qc, qd, qe, qf, qg, bOf_t, bOf_f] at hb))
      all_goals first | rfl | omega | decide | skip
      refine ⟨⟨i + 1, by omega⟩, by dsimp only; omega, ?_⟩
      simp -implicitDefEqProofs only [go_sem, h81, c81, List.length_map, List.length_append, List.length_cons, List.length_nil, List.map_append, List.mem_singleton, forall_eq, AS.nilb, AS.renb, Bool.not_false, Bool.not_true, List.set_cons_zero, List.set_cons_succ, List.set_nil, Nat.reduceAdd, Nat.reduceMul, Nat.reduceLeDiff, Nat.reduceEqDiff, reduceCtorEq, Nat.reduceSub, Int.reduceNeg, Nat.reduceMod, Nat.reduceBEq, Nat.reduceLT]
      simp only [take_snoc_map encIm (show i < s.items.length by omega)]
      repeat' (first | with_reducible apply And.intro | with_reducible intro _ | ((first | refine brB_split (fun hb => ?_) (fun hb => ?_) | refine aPickB_split (fun hb => ?_) (fun hb => ?_) | refine gB_split (fun hb => ?_) (fun hb => ?_) | refine adB_split (fun hb => ?_) (fun hb => ?_)) <;> simp -implicitDefEqProofs only [hb, go_sem, h81, c81, List.length_map, List.length_append, List.length_cons, List.length_nil, List.map_append, List.mem_singleton, forall_eq, AS.nilb, AS.renb, Bool.not_false, Bool.not_true, List.set_cons_zero, List.set_cons_succ, List.set_nil, Nat.reduceAdd, Nat.reduceMul, Nat.reduceLeDiff, Nat.reduceEqDiff, reduceCtorEq, Nat.reduceSub, Int.reduceNeg, Nat.reduceMod, Nat.reduceBEq, Nat.reduceLT] <;> try simp only [qa, qb, qc, qd, qe, qf, qg, bOf_t, bOf_f] at hb))
      all_goals first | rfl | (simp; done)
    · simp -implicitDefEqProofs only [hlt, decide_false, go_sem, h81, c81, List.length_map, List.length_append, List.length_cons, List.length_nil, List.map_append, List.mem_singleton, forall_eq, AS.nilb, AS.renb, Bool.not_false, Bool.not_true, List.set_cons_zero, List.set_cons_succ, List.set_nil, Nat.reduceAdd, Nat.reduceMul, Nat.reduceLeDiff, Nat.reduceEqDiff, reduceCtorEq, Nat.reduceSub, Int.reduceNeg, Nat.reduceMod, Nat.reduceBEq, Nat.reduceLT]
      repeat' (first | with_reducible apply And.intro | with_reducible intro _ | ((first | refine brB_split (fun hb => ?_) (fun hb => ?_) | refine aPickB_split (fun hb => ?_) (fun hb => ?_) | refine gB_split (fun hb => ?_) (fun hb => ?_) | refine adB_split (fun hb => ?_) (fun hb => ?_)) <;> simp -implicitDefEqProofs only [hb, go_sem, h81, c81, List.length_map, List.length_append, List.length_cons, List.length_nil, List.map_append, List.mem_singleton, forall_eq, AS.nilb, AS.renb, Bool.not_false, Bool.not_true, List.set_cons_zero, List.set_cons_succ, List.set_nil, Nat.reduceAdd, Nat.reduceMul, Nat.reduceLeDiff, Nat.reduceEqDiff, reduceCtorEq, Nat.reduceSub, Int.reduceNeg, Nat.reduceMod, Nat.reduceBEq, Nat.reduceLT] <;> try simp only [qa, qb, qc, qd, qe, qf, qg, bOf_t, bOf_f] at hb))
      all_goals first | rfl | omega | skip
      rw [List.take_of_length_le (by omega)]


def dnIm (x : Im) (k : Nat) : Im := ⟨x.id, x.frm, x.to.take k ++ x.to.drop (k + 1), x.body⟩
def dnL (xs : List Im) (i k : Nat) : List Im := if (dnIm (xs.getD i default) k).to = [] then xs.take i ++ xs.drop (i + 1) else xs.take i ++ (dnIm (xs.getD i default) k :: xs.drop (i + 1))
def dnSp (s : Sp) (i k : Nat) : Sp := ⟨s.last, dnL s.items i k⟩
theorem dn_len {xs : List Rc} {k : Nat} (h : k < xs.length) : (xs.take k ++ xs.drop (k + 1)).length = xs.length - 1 := by simp; omega
def c101 : Ct := ctR (lc ESp.ag (lc AInt (lc AInt l0))) (fun p => OkSp p.1 ∧ 0 ≤ p.2.1 ∧ p.2.1 < p.1.items.length ∧ 0 ≤ p.2.2.1 ∧ p.2.2.1 < (p.1.items.getD p.2.1.toNat default).to.length) (fun p => .agg ((encSp (dnSp p.1 p.2.1.toNat p.2.2.1.toNat)).map .t))
set_option maxHeartbeats 1600000 in
theorem good101 {G : Gt} (hG : OkG G) (h81 : G.e 81 = roEnt 0 c81) : Gd G 101 (roEnt 1 c101) := by
  refine gR (dp := fun n => Nat.ble 100000 n && !(Nat.beq n 100002)) (fn := Tryz.f101) (n := 3) (fun _ => rfl) (by kernel_rfl) rfl (by kernel_rfl) hG (Nat.le_of_ble_eq_true rfl) (by kernel_rfl) (by decide) (fun h => by cases h) ?_
  rintro ⟨s, i, k, ⟨⟩⟩ hpre


  obtain ⟨hok, hi0, hi1, hk0, hk1⟩ := hpre
  dsimp only at hi0 hi1 hk0 hk1 ⊢
  obtain ⟨ni, rfl⟩ := Int.eq_ofNat_of_zero_le hi0
  obtain ⟨nk, rfl⟩ := Int.eq_ofNat_of_zero_le hk0
  have hok' : OkL OkIm s.items := hok
  simp only [Int.toNat_natCast] at hk1 ⊢
  have hx := hok'.at (i := ni) (by omega)
  have hmax := hok'.1
  have hmx : ((s.items.getD ni default).to.length : Int) ≤ 1048576 := hx.2.1.1
  have hi2 : ni < s.items.length := by omega
  have hk2 : nk < (s.items.getD ni default).to.length := by omega
  have e1 : ((ni : Int) + 1).toNat = ni + 1 := by omega
  have e2 : ((nk : Int) + 1).toNat = nk + 1 := by omega
  simp -implicitDefEqProofs only [Tryz.f101, Int.toNat_natCast, go_sem, h81, c81, tmap, dmap, List.take_length, List.drop_zero, List.length_take, List.length_drop, List.length_map, List.length_append, List.length_cons, List.length_nil, List.map_append, List.map_nil, List.map_cons, List.nil_append, Nat.zero_add, List.mem_singleton, forall_eq, Bool.not_true, Bool.not_false, Nat.reduceAdd, Nat.reduceMul, Nat.reduceLeDiff, Nat.reduceEqDiff, reduceCtorEq, Nat.reduceSub, Int.reduceNeg, Nat.reduceMod, Nat.reduceBEq, Nat.reduceLT]
  repeat' (first | with_reducible apply And.intro | with_reducible intro _ | ((first | refine brB_split (fun hb => ?_) (fun hb => ?_) | refine aPickB_split (fun hb => ?_) (fun hb => ?_) | refine gB_split (fun hb => ?_) (fun hb => ?_) | refine adB_split (fun hb => ?_) (fun hb => ?_)) <;> simp -implicitDefEqProofs only [hb, go_sem, h81, c81, tmap, dmap, List.take_length, List.drop_zero, List.length_take, List.length_drop, List.length_map, List.length_append, List.length_cons, List.length_nil, List.map_append, List.map_nil, List.map_cons, List.nil_append, Nat.zero_add, List.mem_singleton, forall_eq, Bool.not_true, Bool.not_false, Nat.reduceAdd, Nat.reduceMul, Nat.reduceLeDiff, Nat.reduceEqDiff, reduceCtorEq, Nat.reduceSub, Int.reduceNeg, Nat.reduceMod, Nat.reduceBEq, Nat.reduceLT] <;> try simp only [qa, qb, qc, qd, qe, qf, qg, bOf_t, bOf_f] at hb))
  all_goals first | rfl | omega | assumption | decide | skip
  refine run_le (Le.frzL [1014]) (run_go ?_)
  simp -implicitDefEqProofs only [go_sem, h81, c81, tmap, dmap, List.take_length, List.drop_zero, List.length_take, List.length_drop, List.length_map, List.length_append, List.length_cons, List.length_nil, List.map_append, List.map_nil, List.map_cons, List.nil_append, Nat.zero_add, List.mem_singleton, forall_eq, Bool.not_true, Bool.not_false, Nat.reduceAdd, Nat.reduceMul, Nat.reduceLeDiff, Nat.reduceEqDiff, reduceCtorEq, Nat.reduceSub, Int.reduceNeg, Nat.reduceMod, Nat.reduceBEq, Nat.reduceLT]
  repeat' (first | with_reducible apply And.intro | with_reducible intro _ | ((first | refine brB_split (fun hb => ?_) (fun hb => ?_) | refine aPickB_split (fun hb => ?_) (fun hb => ?_) | refine gB_split (fun hb => ?_) (fun hb => ?_) | refine adB_split (fun hb => ?_) (fun hb => ?_)) <;> simp -implicitDefEqProofs only [hb, go_sem, h81, c81, tmap, dmap, List.take_length, List.drop_zero, List.length_take, List.length_drop, List.length_map, List.length_append, List.length_cons, List.length_nil, List.map_append, List.map_nil, List.map_cons, List.nil_append, Nat.zero_add, List.mem_singleton, forall_eq, Bool.not_true, Bool.not_false, Nat.reduceAdd, Nat.reduceMul, Nat.reduceLeDiff, Nat.reduceEqDiff, reduceCtorEq, Nat.reduceSub, Int.reduceNeg, Nat.reduceMod, Nat.reduceBEq, Nat.reduceLT] <;> try simp only [qa, qb, qc, qd, qe, qf, qg, bOf_t, bOf_f] at hb))
  all_goals (try simp only [maxLen, e1, e2, Int.toNat_natCast, List.take_length, List.drop_zero] at *)
  all_goals first | rfl | omega | assumption | decide | skip
  all_goals
    refine congrArg (T.sl 5) ?_
    simp only [dnSp, dnL]
    first
      | (rw [if_neg (fun e => by have := congrArg List.length e; simp only [dnIm, List.length_append, List.length_take, List.length_drop, List.length_nil] at this; omega)]; simp [dnIm, encIm]; done)
      | (rw [if_pos (List.eq_nil_of_length_eq_zero (by simp only [dnIm, List.length_append, List.length_take, List.length_drop]; omega))]; simp; done)
      | trace_state


theorem ixP_range {α : Type} (p : α → Prop) : ∀ (xs : List α) (k : Nat), ixP p k xs = -1 ∨ ((k : Int) ≤ ixP p k xs ∧ ixP p k xs < k + xs.length)
  | [], _ => .inl rfl
  | x :: t, k => by
    rw [ixP]
    cases bOf (p x)
    · rcases ixP_range p t (k + 1) with h | h
      · exact .inl h
      · simp only [cond_false, List.length_cons]; right; omega
    · simp only [cond_true, List.length_cons]; right; omega
noncomputable def atIm (s : Sp) (n : Int) : Int := ixP (fun x : Im => x.id = n) 0 s.items
noncomputable def atRc (x : Im) (a : Ad) : Int := ixP (fun r : Rc => r.addr = a) 0 x.to
noncomputable def theIm (s : Sp) (n : Int) : Im := s.items.getD (atIm s n).toNat default
open Classical in
noncomputable def SDone (s : Sp) (n : Int) (a : Ad) : Sp × Bool :=
  if SpOk s then (if atIm s n < 0 then (s, false) else if atRc (theIm s n) a < 0 then (s, false) else (dnSp s (atIm s n).toNat (atRc (theIm s n) a).toNat, true)) else (⟨0, []⟩, false)
def roSB (p : Sp × Bool) : AV := .tup [.agg ((encSp p.1).map .t), .t (.v (.bool p.2))]
def owSB (p : Sp × Bool) : AV := .tup [owSp p.1, .t (.v (.bool p.2))]
theorem owSB_solid (p : Sp × Bool) : Solid (owSB p) := .tup _ fun c hc => by
  simp only [List.mem_cons, List.not_mem_nil, or_false] at hc
  rcases hc with rfl | rfl
  · exact owSp_solid _
  · exact .v _
theorem SDone_no {s : Sp} {n : Int} {a : Ad} (h : ¬ SpOk s) : SDone s n a = (⟨0, []⟩, false) := by unfold SDone; rw [if_neg h]
theorem SDone_i {s : Sp} {n : Int} {a : Ad} (h : SpOk s) (hi : atIm s n < 0) : SDone s n a = (s, false) := by unfold SDone; rw [if_pos h, if_pos hi]
theorem SDone_k {s : Sp} {n : Int} {a : Ad} (h : SpOk s) (hi : ¬ atIm s n < 0) (hk : atRc (theIm s n) a < 0) : SDone s n a = (s, false) := by unfold SDone; rw [if_pos h, if_neg hi, if_pos hk]
theorem SDone_y {s : Sp} {n : Int} {a : Ad} (h : SpOk s) (hi : ¬ atIm s n < 0) (hk : ¬ atRc (theIm s n) a < 0) : SDone s n a = (dnSp s (atIm s n).toNat (atRc (theIm s n) a).toNat, true) := by unfold SDone; rw [if_pos h, if_neg hi, if_neg hk]
theorem atIm_lt {s : Sp} {n : Int} (h : ¬ atIm s n < 0) : 0 ≤ atIm s n ∧ atIm s n < s.items.length := by
  rcases ixP_range (fun x : Im => x.id = n) s.items 0 with h1 | h1
  · have : atIm s n = -1 := h1
    omega
  · have : atIm s n < (0 : Nat) + s.items.length := h1.2
    omega
theorem atRc_lt {x : Im} {a : Ad} (h : ¬ atRc x a < 0) : 0 ≤ atRc x a ∧ atRc x a < x.to.length := by
  rcases ixP_range (fun r : Rc => r.addr = a) x.to 0 with h1 | h1
  · have : atRc x a = -1 := h1
    omega
  · have : atRc x a < (0 : Nat) + x.to.length := h1.2
    omega
def c82 : Ct := ctR (lc ESp.ag (lc AInt (lc EAd.ag l0))) (fun p => OkSp p.1) (fun p => roSB (SDone p.1 p.2.1 p.2.2.1))
set_option maxHeartbeats 1600000 in
theorem good82 {G : Gt} (hG : OkG G) (h34 : G.e 34 = roEnt 0 c34) (h36 : G.e 36 = roEnt 0 c36) (h113 : G.e 113 = roEnt 0 c113) (h114 : G.e 114 = roEnt 0 c114) (h101 : G.e 101 = roEnt 1 c101) : Gd G 82 (roEnt 1 c82) := by
  refine gR (dp := fun n => Nat.ble 100000 n && !(Nat.beq n 100007)) (fn := Tryz.f82) (n := 3) (fun _ => rfl) (by kernel_rfl) rfl (by kernel_rfl) hG (Nat.le_of_ble_eq_true rfl) (by kernel_rfl) (by decide) (fun h => by cases h) ?_
  rintro ⟨s, n, a, ⟨⟩⟩ hpre


  have hok' : OkL OkIm s.items := hpre
  dsimp only at hpre ⊢
  by_cases h : SpOk s
  · have b1 := bOf_y h
    by_cases hi : atIm s n < 0
    · have hi' : ixP (fun x : Im => x.id = n) 0 s.items < 0 := hi
      rw [SDone_i h hi]
      simp -implicitDefEqProofs only [Tryz.f82, b1, hi', decide_true, decide_false, go_sem, h34, c34, h36, c36, h113, c113, h114, c114, h101, c101, tmap, dmap, List.take_length, List.drop_zero, List.length_take, List.length_drop, List.length_map, List.length_append, List.length_cons, List.length_nil, List.map_append, List.map_nil, List.map_cons, List.nil_append, Nat.zero_add, List.mem_singleton, forall_eq, Bool.not_true, Bool.not_false, roSB, dnSp, Nat.reduceAdd, Nat.reduceMul, Nat.reduceLeDiff, Nat.reduceEqDiff, reduceCtorEq, Nat.reduceSub, Int.reduceNeg, Nat.reduceMod, Nat.reduceBEq, Nat.reduceLT]
      repeat' (first | with_reducible apply And.intro | with_reducible intro _ | ((first | refine brB_split (fun hb => ?_) (fun hb => ?_) | refine aPickB_split (fun hb => ?_) (fun hb => ?_) | refine gB_split (fun hb => ?_) (fun hb => ?_) | refine adB_split (fun hb => ?_) (fun hb => ?_)) <;> simp -implicitDefEqProofs only [hb, go_sem, h34, c34, h36, c36, h113, c113, h114, c114, h101, c101, tmap, dmap, List.take_length, List.drop_zero, List.length_take, List.length_drop, List.length_map, List.length_append, List.length_cons, List.length_nil, List.map_append, List.map_nil, List.map_cons, List.nil_append, Nat.zero_add, List.mem_singleton, forall_eq, Bool.not_true, Bool.not_false, roSB, dnSp, Nat.reduceAdd, Nat.reduceMul, Nat.reduceLeDiff, Nat.reduceEqDiff, reduceCtorEq, Nat.reduceSub, Int.reduceNeg, Nat.reduceMod, Nat.reduceBEq, Nat.reduceLT] <;> try simp only [qa, qb, qc, qd, qe, qf, qg, bOf_t, bOf_f] at hb))
      all_goals first | rfl | omega | assumption | decide | skip
    · have hi' : ¬ ixP (fun x : Im => x.id = n) 0 s.items < 0 := hi
      obtain ⟨hi0, hi1⟩ := atIm_lt hi
      have hi0' : 0 ≤ ixP (fun x : Im => x.id = n) 0 s.items := hi0
      have hi1' : ixP (fun x : Im => x.id = n) 0 s.items < s.items.length := hi1
      by_cases hk : atRc (theIm s n) a < 0
      · have hk' : ixP (fun r : Rc => r.addr = a) 0 (s.items.getD (ixP (fun x : Im => x.id = n) 0 s.items).toNat default).to < 0 := hk
        rw [SDone_k h hi hk]
        simp -implicitDefEqProofs only [Tryz.f82, b1, hi', hk', decide_true, decide_false, go_sem, h34, c34, h36, c36, h113, c113, h114, c114, h101, c101, tmap, dmap, List.take_length, List.drop_zero, List.length_take, List.length_drop, List.length_map, List.length_append, List.length_cons, List.length_nil, List.map_append, List.map_nil, List.map_cons, List.nil_append, Nat.zero_add, List.mem_singleton, forall_eq, Bool.not_true, Bool.not_false, roSB, dnSp, Nat.reduceAdd, Nat.reduceMul, Nat.reduceLeDiff, Nat.reduceEqDiff, reduceCtorEq, Nat.reduceSub, Int.reduceNeg, Nat.reduceMod, Nat.reduceBEq, Nat.reduceLT]
        repeat' (first | with_reducible apply And.intro | with_reducible intro _ | ((first | refine brB_split (fun hb => ?_) (fun hb => ?_) | refine aPickB_split (fun hb => ?_) (fun hb => ?_) | refine gB_split (fun hb => ?_) (fun hb => ?_) | refine adB_split (fun hb => ?_) (fun hb => ?_)) <;> simp -implicitDefEqProofs only [hb, go_sem, h34, c34, h36, c36, h113, c113, h114, c114, h101, c101, tmap, dmap, List.take_length, List.drop_zero, List.length_take, List.length_drop, List.length_map, List.length_append, List.length_cons, List.length_nil, List.map_append, List.map_nil, List.map_cons, List.nil_append, Nat.zero_add, List.mem_singleton, forall_eq, Bool.not_true, Bool.not_false, roSB, dnSp, Nat.reduceAdd, Nat.reduceMul, Nat.reduceLeDiff, Nat.reduceEqDiff, reduceCtorEq, Nat.reduceSub, Int.reduceNeg, Nat.reduceMod, Nat.reduceBEq, Nat.reduceLT] <;> try simp only [qa, qb, qc, qd, qe, qf, qg, bOf_t, bOf_f] at hb))
        all_goals first | rfl | omega | assumption | decide | skip
      · have hk' : ¬ ixP (fun r : Rc => r.addr = a) 0 (s.items.getD (ixP (fun x : Im => x.id = n) 0 s.items).toNat default).to < 0 := hk
        obtain ⟨hk0, hk1⟩ := atRc_lt hk
        have hk0' : 0 ≤ ixP (fun r : Rc => r.addr = a) 0 (s.items.getD (ixP (fun x : Im => x.id = n) 0 s.items).toNat default).to := hk0
        have hk1' : ixP (fun r : Rc => r.addr = a) 0 (s.items.getD (ixP (fun x : Im => x.id = n) 0 s.items).toNat default).to < (s.items.getD (ixP (fun x : Im => x.id = n) 0 s.items).toNat default).to.length := hk1
        rw [SDone_y h hi hk]
        simp -implicitDefEqProofs only [Tryz.f82, b1, hi', hk', decide_true, decide_false, go_sem, h34, c34, h36, c36, h113, c113, h114, c114, h101, c101, tmap, dmap, List.take_length, List.drop_zero, List.length_take, List.length_drop, List.length_map, List.length_append, List.length_cons, List.length_nil, List.map_append, List.map_nil, List.map_cons, List.nil_append, Nat.zero_add, List.mem_singleton, forall_eq, Bool.not_true, Bool.not_false, roSB, dnSp, Nat.reduceAdd, Nat.reduceMul, Nat.reduceLeDiff, Nat.reduceEqDiff, reduceCtorEq, Nat.reduceSub, Int.reduceNeg, Nat.reduceMod, Nat.reduceBEq, Nat.reduceLT]
        repeat' (first | with_reducible apply And.intro | with_reducible intro _ | ((first | refine brB_split (fun hb => ?_) (fun hb => ?_) | refine aPickB_split (fun hb => ?_) (fun hb => ?_) | refine gB_split (fun hb => ?_) (fun hb => ?_) | refine adB_split (fun hb => ?_) (fun hb => ?_)) <;> simp -implicitDefEqProofs only [hb, go_sem, h34, c34, h36, c36, h113, c113, h114, c114, h101, c101, tmap, dmap, List.take_length, List.drop_zero, List.length_take, List.length_drop, List.length_map, List.length_append, List.length_cons, List.length_nil, List.map_append, List.map_nil, List.map_cons, List.nil_append, Nat.zero_add, List.mem_singleton, forall_eq, Bool.not_true, Bool.not_false, roSB, dnSp, Nat.reduceAdd, Nat.reduceMul, Nat.reduceLeDiff, Nat.reduceEqDiff, reduceCtorEq, Nat.reduceSub, Int.reduceNeg, Nat.reduceMod, Nat.reduceBEq, Nat.reduceLT] <;> try simp only [qa, qb, qc, qd, qe, qf, qg, bOf_t, bOf_f] at hb))
        all_goals first | rfl | omega | assumption | decide | skip
        refine run_le (Le.frzL [1015]) (run_go ?_)
        simp -implicitDefEqProofs only [go_sem, h34, c34, h36, c36, h113, c113, h114, c114, h101, c101, tmap, dmap, List.take_length, List.drop_zero, List.length_take, List.length_drop, List.length_map, List.length_append, List.length_cons, List.length_nil, List.map_append, List.map_nil, List.map_cons, List.nil_append, Nat.zero_add, List.mem_singleton, forall_eq, Bool.not_true, Bool.not_false, roSB, dnSp, Nat.reduceAdd, Nat.reduceMul, Nat.reduceLeDiff, Nat.reduceEqDiff, reduceCtorEq, Nat.reduceSub, Int.reduceNeg, Nat.reduceMod, Nat.reduceBEq, Nat.reduceLT]
        repeat' (first | with_reducible apply And.intro | with_reducible intro _ | ((first | refine brB_split (fun hb => ?_) (fun hb => ?_) | refine aPickB_split (fun hb => ?_) (fun hb => ?_) | refine gB_split (fun hb => ?_) (fun hb => ?_) | refine adB_split (fun hb => ?_) (fun hb => ?_)) <;> simp -implicitDefEqProofs only [hb, go_sem, h34, c34, h36, c36, h113, c113, h114, c114, h101, c101, tmap, dmap, List.take_length, List.drop_zero, List.length_take, List.length_drop, List.length_map, List.length_append, List.length_cons, List.length_nil, List.map_append, List.map_nil, List.map_cons, List.nil_append, Nat.zero_add, List.mem_singleton, forall_eq, Bool.not_true, Bool.not_false, roSB, dnSp, Nat.reduceAdd, Nat.reduceMul, Nat.reduceLeDiff, Nat.reduceEqDiff, reduceCtorEq, Nat.reduceSub, Int.reduceNeg, Nat.reduceMod, Nat.reduceBEq, Nat.reduceLT] <;> try simp only [qa, qb, qc, qd, qe, qf, qg, bOf_t, bOf_f] at hb))
        all_goals first | rfl | omega | assumption | decide | skip
        all_goals trace_state
  · have b1 := bOf_n h
    rw [SDone_no h]
    simp -implicitDefEqProofs only [Tryz.f82, b1, decide_true, decide_false, go_sem, h34, c34, h36, c36, h113, c113, h114, c114, h101, c101, tmap, dmap, List.take_length, List.drop_zero, List.length_take, List.length_drop, List.length_map, List.length_append, List.length_cons, List.length_nil, List.map_append, List.map_nil, List.map_cons, List.nil_append, Nat.zero_add, List.mem_singleton, forall_eq, Bool.not_true, Bool.not_false, roSB, dnSp, Nat.reduceAdd, Nat.reduceMul, Nat.reduceLeDiff, Nat.reduceEqDiff, reduceCtorEq, Nat.reduceSub, Int.reduceNeg, Nat.reduceMod, Nat.reduceBEq, Nat.reduceLT]
    repeat' (first | with_reducible apply And.intro | with_reducible intro _ | ((first | refine brB_split (fun hb => ?_) (fun hb => ?_) | refine aPickB_split (fun hb => ?_) (fun hb => ?_) | refine gB_split (fun hb => ?_) (fun hb => ?_) | refine adB_split (fun hb => ?_) (fun hb => ?_)) <;> simp -implicitDefEqProofs only [hb, go_sem, h34, c34, h36, c36, h113, c113, h114, c114, h101, c101, tmap, dmap, List.take_length, List.drop_zero, List.length_take, List.length_drop, List.length_map, List.length_append, List.length_cons, List.length_nil, List.map_append, List.map_nil, List.map_cons, List.nil_append, Nat.zero_add, List.mem_singleton, forall_eq, Bool.not_true, Bool.not_false, roSB, dnSp, Nat.reduceAdd, Nat.reduceMul, Nat.reduceLeDiff, Nat.reduceEqDiff, reduceCtorEq, Nat.reduceSub, Int.reduceNeg, Nat.reduceMod, Nat.reduceBEq, Nat.reduceLT] <;> try simp only [qa, qb, qc, qd, qe, qf, qg, bOf_t, bOf_f] at hb))
    all_goals first | rfl | omega | assumption | decide | skip


def pau (t : Int) : Int := 2 * 2 ^ (t - 1).toNat
theorem pow2_le {a b : Nat} (h : a ≤ b) : (2 : Int) ^ a ≤ 2 ^ b := by
  have h1 := Nat.pow_le_pow_right (n := 2) (by omega) h
  have e : ∀ k : Nat, ((2 ^ k : Nat) : Int) = 2 ^ k := fun k => by simp
  rw [← e, ← e]
  omega
theorem pau_le {t : Int} {m : Nat} (h : t ≤ m + 1) : 2 ≤ pau t ∧ pau t ≤ 2 * 2 ^ m := by
  unfold pau
  have h1 : (2 : Int) ^ (t - 1).toNat ≤ 2 ^ m := pow2_le (by omega)
  have h2 : (2 : Int) ^ 0 ≤ 2 ^ (t - 1).toNat := pow2_le (by omega)
  simp only [Int.pow_zero] at h2
  omega
def ltRc (r : Rc) (w : Int) : Rc := ⟨r.addr, r.tries + 1, w + pau (r.tries + 1)⟩
def ltIm (x : Im) (k : Nat) (w : Int) : Im := ⟨x.id, x.frm, x.to.set k (ltRc (x.to.getD k default) w), x.body⟩
def ltSp (s : Sp) (i k : Nat) (w : Int) : Sp := ⟨s.last, s.items.set i (ltIm (s.items.getD i default) k w)⟩
def ltNo (r : Rc) (w : Int) : Prop := r.tries + 1 ≥ 4 ∨ w + pau (r.tries + 1) > 9999
instance (r : Rc) (w : Int) : Decidable (ltNo r w) := by unfold ltNo; infer_instance
def SLat (s : Sp) (i k : Nat) (w : Int) : Sp × Bool := if ltNo ((s.items.getD i default).to.getD k default) w then (s, false) else (ltSp s i k w, true)
def c126 : Ct := ctR (lc AInt l0) (fun p => p.1 ≤ 40) (fun p => .t (.v (.int .i64 (pau p.1))))
theorem good126 {G : Gt} (hG : OkG G) : Gd G 126 (roEnt 0 c126) := by
  refine gR (dp := fun _ => true) (fn := Tryz.f126) (n := 1) (fun _ => rfl) (by kernel_rfl) rfl (by kernel_rfl) hG (Nat.le_of_ble_eq_true rfl) (by kernel_rfl) (by decide) (fun _ _ => .v _) ?_
  rintro ⟨t, ⟨⟩⟩ hpre
  simp -implicitDefEqProofs only [Tryz.f126, go_sem, Nat.reduceAdd, Nat.reduceMul, Nat.reduceLeDiff, Nat.reduceEqDiff, reduceCtorEq, Nat.reduceSub, Int.reduceNeg, Nat.reduceMod, Nat.reduceBEq, Nat.reduceLT] at hpre ⊢

  refine run_loop [] (ι := {j : Nat // j ≤ (t - 1).toNat}) (fun p => ⟨[(0, .t (.v (.int .i64 t))), (3, .t (.v (.int .i64 (2 * 2 ^ p.1)))), (4, .t (.v (.int .i64 (p.1 + 1))))], []⟩) (fun p => (t - 1).toNat - p.1) ⟨0, by simp⟩ rfl ?_ ?_
  · simp -implicitDefEqProofs only [go_sem, Nat.reduceAdd, Nat.reduceMul, Nat.reduceLeDiff, Nat.reduceEqDiff, reduceCtorEq, Nat.reduceSub, Int.reduceNeg, Nat.reduceMod, Nat.reduceBEq, Nat.reduceLT]
    simp
  · rintro ⟨j, hj⟩
    have hb : (2 : Int) ^ j ≤ 2 ^ 40 := pow2_le (by omega)
    have hp : (0 : Int) ≤ 2 ^ j := Int.le_of_lt (Int.pow_pos (by omega))
    have h40 : (2 : Int) ^ 40 = 1099511627776 := by decide
    simp -implicitDefEqProofs only [go_sem, Nat.reduceAdd, Nat.reduceMul, Nat.reduceLeDiff, Nat.reduceEqDiff, reduceCtorEq, Nat.reduceSub, Int.reduceNeg, Nat.reduceMod, Nat.reduceBEq, Nat.reduceLT]
    repeat' (first | with_reducible apply And.intro | with_reducible intro _ | ((first | refine brB_split (fun hb => ?_) (fun hb => ?_) | refine aPickB_split (fun hb => ?_) (fun hb => ?_) | refine gB_split (fun hb => ?_) (fun hb => ?_) | refine adB_split (fun hb => ?_) (fun hb => ?_)) <;> simp -implicitDefEqProofs only [hb, go_sem, Nat.reduceAdd, Nat.reduceMul, Nat.reduceLeDiff, Nat.reduceEqDiff, reduceCtorEq, Nat.reduceSub, Int.reduceNeg, Nat.reduceMod, Nat.reduceBEq, Nat.reduceLT] <;> try simp only [qa, qb, qc, qd, qe, qf, qg, bOf_t, bOf_f] at hb))
    all_goals first | rfl | omega | skip
    · refine ⟨⟨j + 1, by omega⟩, by dsimp only; omega, ?_⟩
      simp -implicitDefEqProofs only [go_sem, Nat.reduceAdd, Nat.reduceMul, Nat.reduceLeDiff, Nat.reduceEqDiff, reduceCtorEq, Nat.reduceSub, Int.reduceNeg, Nat.reduceMod, Nat.reduceBEq, Nat.reduceLT]
      repeat' (first | with_reducible apply And.intro | with_reducible intro _ | ((first | refine brB_split (fun hb => ?_) (fun hb => ?_) | refine aPickB_split (fun hb => ?_) (fun hb => ?_) | refine gB_split (fun hb => ?_) (fun hb => ?_) | refine adB_split (fun hb => ?_) (fun hb => ?_)) <;> simp -implicitDefEqProofs only [hb, go_sem, Nat.reduceAdd, Nat.reduceMul, Nat.reduceLeDiff, Nat.reduceEqDiff, reduceCtorEq, Nat.reduceSub, Int.reduceNeg, Nat.reduceMod, Nat.reduceBEq, Nat.reduceLT] <;> try simp only [qa, qb, qc, qd, qe, qf, qg, bOf_t, bOf_f] at hb))
      all_goals first | rfl | (simp; omega) | (refine congrArg (fun z => AV.t (T.v (Value.int .i64 z))) ?_; rw [Int.pow_succ]; omega) | (refine congrArg (fun z => AV.t (T.v (Value.int .i64 z))) ?_; simp; done)
    · rw [show pau t = 2 * 2 ^ j from by unfold pau; rw [show (t - 1).toNat = j from by omega]]

def c102 : Ct := ctR (lc ESp.ag (lc AInt (lc AInt (lc AInt l0)))) (fun p => OkSp p.1 ∧ SpOk p.1 ∧ (0 ≤ p.2.1 ∧ p.2.1 < p.1.items.length) ∧ (0 ≤ p.2.2.1 ∧ p.2.2.1 < (p.1.items.getD p.2.1.toNat default).to.length) ∧ 0 ≤ p.2.2.2.1 ∧ p.2.2.2.1 ≤ 9999) (fun p => roSB (SLat p.1 p.2.1.toNat p.2.2.1.toNat p.2.2.2.1))
set_option maxHeartbeats 1600000 in
theorem good102 {G : Gt} (hG : OkG G) (h81 : G.e 81 = roEnt 0 c81) (h126 : G.e 126 = roEnt 0 c126) : Gd G 102 (roEnt 1 c102) := by
  refine gR (dp := fun n => Nat.ble 100000 n) (fn := Tryz.f102) (n := 4) (fun _ => rfl) (by kernel_rfl) rfl (by kernel_rfl) hG (Nat.le_of_ble_eq_true rfl) (by kernel_rfl) (by decide) (fun h => by cases h) ?_
  rintro ⟨s, i, k, w, ⟨⟩⟩ hpre


  dsimp only at hpre ⊢
  obtain ⟨hok, hsp, ⟨hi0, hi1⟩, ⟨hk0, hk1⟩, hw0, hw1⟩ := hpre
  obtain ⟨ni, rfl⟩ := Int.eq_ofNat_of_zero_le hi0
  obtain ⟨nk, rfl⟩ := Int.eq_ofNat_of_zero_le hk0
  have hok' : OkL OkIm s.items := hok
  simp only [Int.toNat_natCast] at hk1 ⊢
  have hx := hok'.at (i := ni) (by omega)
  have hmax := hok'.1
  have hmx : ((s.items.getD ni default).to.length : Int) ≤ 1048576 := hx.2.1.1
  have hi2 : ni < s.items.length := by omega
  have hk2 : nk < (s.items.getD ni default).to.length := by omega
  have hk3 : nk < ((s.items.getD ni default).to.map encRc).length := by rw [List.length_map]; exact hk2
  have hr := (hsp.1 _ (getD_mem hi2)).1.1 _ (getD_mem hk2)
  obtain ⟨_, ⟨ht0, ht1⟩, _⟩ := hr
  obtain ⟨hp0, hp1⟩ := pau_le (t := ((s.items.getD ni default).to.getD nk default).tries + 1) (m := 3) (by omega)
  have h8 : (2 : Int) * 2 ^ 3 = 16 := by decide
  by_cases hno : ltNo ((s.items.getD ni default).to.getD nk default) w
  · unfold SLat
    rw [if_pos hno]
    rcases hno with hno | hno
    · simp -implicitDefEqProofs only [Tryz.f102, Int.toNat_natCast, hno, decide_true, go_sem, h81, c81, h126, c126, tmap, dmap, List.take_length, List.drop_zero, List.length_take, List.length_drop, List.length_map, List.length_append, List.length_cons, List.length_nil, List.map_append, List.map_nil, List.map_cons, List.nil_append, Nat.zero_add, List.mem_singleton, forall_eq, Bool.not_true, Bool.not_false, roSB, ltSp, aCell_map, aSet_map, List.length_set, Nat.reduceAdd, Nat.reduceMul, Nat.reduceLeDiff, Nat.reduceEqDiff, reduceCtorEq, Nat.reduceSub, Int.reduceNeg, Nat.reduceMod, Nat.reduceBEq, Nat.reduceLT]
      repeat' (first | with_reducible apply And.intro | with_reducible intro _ | ((first | refine brB_split (fun hb => ?_) (fun hb => ?_) | refine aPickB_split (fun hb => ?_) (fun hb => ?_) | refine gB_split (fun hb => ?_) (fun hb => ?_) | refine adB_split (fun hb => ?_) (fun hb => ?_)) <;> simp -implicitDefEqProofs only [hb, go_sem, h81, c81, h126, c126, tmap, dmap, List.take_length, List.drop_zero, List.length_take, List.length_drop, List.length_map, List.length_append, List.length_cons, List.length_nil, List.map_append, List.map_nil, List.map_cons, List.nil_append, Nat.zero_add, List.mem_singleton, forall_eq, Bool.not_true, Bool.not_false, roSB, ltSp, aCell_map, aSet_map, List.length_set, Nat.reduceAdd, Nat.reduceMul, Nat.reduceLeDiff, Nat.reduceEqDiff, reduceCtorEq, Nat.reduceSub, Int.reduceNeg, Nat.reduceMod, Nat.reduceBEq, Nat.reduceLT] <;> try simp only [qa, qb, qc, qd, qe, qf, qg, bOf_t, bOf_f] at hb))
      all_goals first | rfl | omega | assumption | decide | skip
      all_goals trace_state
    · simp -implicitDefEqProofs only [Tryz.f102, Int.toNat_natCast, hno, decide_true, go_sem, h81, c81, h126, c126, tmap, dmap, List.take_length, List.drop_zero, List.length_take, List.length_drop, List.length_map, List.length_append, List.length_cons, List.length_nil, List.map_append, List.map_nil, List.map_cons, List.nil_append, Nat.zero_add, List.mem_singleton, forall_eq, Bool.not_true, Bool.not_false, roSB, ltSp, aCell_map, aSet_map, List.length_set, Nat.reduceAdd, Nat.reduceMul, Nat.reduceLeDiff, Nat.reduceEqDiff, reduceCtorEq, Nat.reduceSub, Int.reduceNeg, Nat.reduceMod, Nat.reduceBEq, Nat.reduceLT]
      repeat' (first | with_reducible apply And.intro | with_reducible intro _ | ((first | refine brB_split (fun hb => ?_) (fun hb => ?_) | refine aPickB_split (fun hb => ?_) (fun hb => ?_) | refine gB_split (fun hb => ?_) (fun hb => ?_) | refine adB_split (fun hb => ?_) (fun hb => ?_)) <;> simp -implicitDefEqProofs only [hb, go_sem, h81, c81, h126, c126, tmap, dmap, List.take_length, List.drop_zero, List.length_take, List.length_drop, List.length_map, List.length_append, List.length_cons, List.length_nil, List.map_append, List.map_nil, List.map_cons, List.nil_append, Nat.zero_add, List.mem_singleton, forall_eq, Bool.not_true, Bool.not_false, roSB, ltSp, aCell_map, aSet_map, List.length_set, Nat.reduceAdd, Nat.reduceMul, Nat.reduceLeDiff, Nat.reduceEqDiff, reduceCtorEq, Nat.reduceSub, Int.reduceNeg, Nat.reduceMod, Nat.reduceBEq, Nat.reduceLT] <;> try simp only [qa, qb, qc, qd, qe, qf, qg, bOf_t, bOf_f] at hb))
      all_goals first | rfl | omega | assumption | decide | skip
      all_goals trace_state
  · unfold SLat
    rw [if_neg hno]
    have hno1 : ¬ ((s.items.getD ni default).to.getD nk default).tries + 1 ≥ 4 := fun h => hno (.inl h)
    have hno2 : ¬ w + pau (((s.items.getD ni default).to.getD nk default).tries + 1) > 9999 := fun h => hno (.inr h)
    simp -implicitDefEqProofs only [Tryz.f102, Int.toNat_natCast, aSet_set hk3, hno1, hno2, decide_false, go_sem, h81, c81, h126, c126, tmap, dmap, List.take_length, List.drop_zero, List.length_take, List.length_drop, List.length_map, List.length_append, List.length_cons, List.length_nil, List.map_append, List.map_nil, List.map_cons, List.nil_append, Nat.zero_add, List.mem_singleton, forall_eq, Bool.not_true, Bool.not_false, roSB, ltSp, aCell_map, aSet_map, List.length_set, Nat.reduceAdd, Nat.reduceMul, Nat.reduceLeDiff, Nat.reduceEqDiff, reduceCtorEq, Nat.reduceSub, Int.reduceNeg, Nat.reduceMod, Nat.reduceBEq, Nat.reduceLT]
    repeat' (first | with_reducible apply And.intro | with_reducible intro _ | ((first | refine brB_split (fun hb => ?_) (fun hb => ?_) | refine aPickB_split (fun hb => ?_) (fun hb => ?_) | refine gB_split (fun hb => ?_) (fun hb => ?_) | refine adB_split (fun hb => ?_) (fun hb => ?_)) <;> simp -implicitDefEqProofs only [hb, go_sem, h81, c81, h126, c126, tmap, dmap, List.take_length, List.drop_zero, List.length_take, List.length_drop, List.length_map, List.length_append, List.length_cons, List.length_nil, List.map_append, List.map_nil, List.map_cons, List.nil_append, Nat.zero_add, List.mem_singleton, forall_eq, Bool.not_true, Bool.not_false, roSB, ltSp, aCell_map, aSet_map, List.length_set, Nat.reduceAdd, Nat.reduceMul, Nat.reduceLeDiff, Nat.reduceEqDiff, reduceCtorEq, Nat.reduceSub, Int.reduceNeg, Nat.reduceMod, Nat.reduceBEq, Nat.reduceLT] <;> try simp only [qa, qb, qc, qd, qe, qf, qg, bOf_t, bOf_f] at hb))
    all_goals first | rfl | omega | assumption | decide | skip
    refine congrArg (T.sl 5) ?_
    rw [set_Rc, set_Im]
    rfl


open Classical in
noncomputable def SLater (s : Sp) (n : Int) (a : Ad) (w : Int) : Sp × Bool :=
  if SpOk s then (if atIm s n < 0 then (s, false) else if ¬ (0 ≤ w ∧ w ≤ 9999) then (s, false) else if atRc (theIm s n) a < 0 then (s, false) else SLat s (atIm s n).toNat (atRc (theIm s n) a).toNat w) else (⟨0, []⟩, false)
section
variable {s : Sp} {n : Int} {a : Ad} {w : Int}
theorem SLater_no (h : ¬ SpOk s) : SLater s n a w = (⟨0, []⟩, false) := by unfold SLater; rw [if_neg h]
theorem SLater_i (h : SpOk s) (hi : atIm s n < 0) : SLater s n a w = (s, false) := by unfold SLater; rw [if_pos h, if_pos hi]
theorem SLater_w (h : SpOk s) (hi : ¬ atIm s n < 0) (hw : ¬ (0 ≤ w ∧ w ≤ 9999)) : SLater s n a w = (s, false) := by unfold SLater; rw [if_pos h, if_neg hi, if_pos hw]
theorem SLater_k (h : SpOk s) (hi : ¬ atIm s n < 0) (hw : 0 ≤ w ∧ w ≤ 9999) (hk : atRc (theIm s n) a < 0) : SLater s n a w = (s, false) := by unfold SLater; rw [if_pos h, if_neg hi, if_neg (fun h => h hw), if_pos hk]
theorem SLater_y (h : SpOk s) (hi : ¬ atIm s n < 0) (hw : 0 ≤ w ∧ w ≤ 9999) (hk : ¬ atRc (theIm s n) a < 0) : SLater s n a w = SLat s (atIm s n).toNat (atRc (theIm s n) a).toNat w := by unfold SLater; rw [if_pos h, if_neg hi, if_neg (fun h => h hw), if_neg hk]
end
def c83 : Ct := ctR (lc ESp.ag (lc AInt (lc EAd.ag (lc AInt l0)))) (fun p => OkSp p.1) (fun p => roSB (SLater p.1 p.2.1 p.2.2.1 p.2.2.2.1))
set_option maxHeartbeats 1600000 in
theorem good83 {G : Gt} (hG : OkG G) (h34 : G.e 34 = roEnt 0 c34) (h36 : G.e 36 = roEnt 0 c36) (h113 : G.e 113 = roEnt 0 c113) (h114 : G.e 114 = roEnt 0 c114) (h102 : G.e 102 = roEnt 1 c102) (h51 : G.e 51 = roEnt 0 c51) : Gd G 83 (roEnt 1 c83) := by
  refine gR (dp := fun n => Nat.ble 100000 n && !(Nat.beq n 100007)) (fn := Tryz.f83) (n := 4) (fun _ => rfl) (by kernel_rfl) rfl (by kernel_rfl) hG (Nat.le_of_ble_eq_true rfl) (by kernel_rfl) (by decide) (fun h => by cases h) ?_
  rintro ⟨s, n, a, w, ⟨⟩⟩ hpre


  have hok' : OkL OkIm s.items := hpre
  dsimp only at hpre ⊢
  by_cases h : SpOk s
  · have b1 := bOf_y h
    by_cases hi : atIm s n < 0
    · have hi' : ixP (fun x : Im => x.id = n) 0 s.items < 0 := hi
      rw [SLater_i h hi]
      simp -implicitDefEqProofs only [Tryz.f83, b1, hi', decide_true, decide_false, go_sem, h34, c34, h36, c36, h113, c113, h114, c114, h102, c102, h51, c51, tmap, dmap, List.take_length, List.drop_zero, List.length_take, List.length_drop, List.length_map, List.length_append, List.length_cons, List.length_nil, List.map_append, List.map_nil, List.map_cons, List.nil_append, Nat.zero_add, List.mem_singleton, forall_eq, Bool.not_true, Bool.not_false, roSB, Nat.reduceAdd, Nat.reduceMul, Nat.reduceLeDiff, Nat.reduceEqDiff, reduceCtorEq, Nat.reduceSub, Int.reduceNeg, Nat.reduceMod, Nat.reduceBEq, Nat.reduceLT]
      repeat' (first | with_reducible apply And.intro | with_reducible intro _ | ((first | refine brB_split (fun hb => ?_) (fun hb => ?_) | refine aPickB_split (fun hb => ?_) (fun hb => ?_) | refine gB_split (fun hb => ?_) (fun hb => ?_) | refine adB_split (fun hb => ?_) (fun hb => ?_)) <;> simp -implicitDefEqProofs only [hb, go_sem, h34, c34, h36, c36, h113, c113, h114, c114, h102, c102, h51, c51, tmap, dmap, List.take_length, List.drop_zero, List.length_take, List.length_drop, List.length_map, List.length_append, List.length_cons, List.length_nil, List.map_append, List.map_nil, List.map_cons, List.nil_append, Nat.zero_add, List.mem_singleton, forall_eq, Bool.not_true, Bool.not_false, roSB, Nat.reduceAdd, Nat.reduceMul, Nat.reduceLeDiff, Nat.reduceEqDiff, reduceCtorEq, Nat.reduceSub, Int.reduceNeg, Nat.reduceMod, Nat.reduceBEq, Nat.reduceLT] <;> try simp only [qa, qb, qc, qd, qe, qf, qg, bOf_t, bOf_f] at hb))
      all_goals first | rfl | omega | assumption | decide | skip
    · have hi' : ¬ ixP (fun x : Im => x.id = n) 0 s.items < 0 := hi
      obtain ⟨hi0, hi1⟩ := atIm_lt hi
      have hi0' : 0 ≤ ixP (fun x : Im => x.id = n) 0 s.items := hi0
      have hi1' : ixP (fun x : Im => x.id = n) 0 s.items < s.items.length := hi1
      by_cases hw : 0 ≤ w ∧ w ≤ 9999
      · have bw := bOf_y hw
        by_cases hk : atRc (theIm s n) a < 0
        · have hk' : ixP (fun r : Rc => r.addr = a) 0 (s.items.getD (ixP (fun x : Im => x.id = n) 0 s.items).toNat default).to < 0 := hk
          rw [SLater_k h hi hw hk]
          simp -implicitDefEqProofs only [Tryz.f83, b1, bw, hi', hk', decide_true, decide_false, go_sem, h34, c34, h36, c36, h113, c113, h114, c114, h102, c102, h51, c51, tmap, dmap, List.take_length, List.drop_zero, List.length_take, List.length_drop, List.length_map, List.length_append, List.length_cons, List.length_nil, List.map_append, List.map_nil, List.map_cons, List.nil_append, Nat.zero_add, List.mem_singleton, forall_eq, Bool.not_true, Bool.not_false, roSB, Nat.reduceAdd, Nat.reduceMul, Nat.reduceLeDiff, Nat.reduceEqDiff, reduceCtorEq, Nat.reduceSub, Int.reduceNeg, Nat.reduceMod, Nat.reduceBEq, Nat.reduceLT]
          repeat' (first | with_reducible apply And.intro | with_reducible intro _ | ((first | refine brB_split (fun hb => ?_) (fun hb => ?_) | refine aPickB_split (fun hb => ?_) (fun hb => ?_) | refine gB_split (fun hb => ?_) (fun hb => ?_) | refine adB_split (fun hb => ?_) (fun hb => ?_)) <;> simp -implicitDefEqProofs only [hb, go_sem, h34, c34, h36, c36, h113, c113, h114, c114, h102, c102, h51, c51, tmap, dmap, List.take_length, List.drop_zero, List.length_take, List.length_drop, List.length_map, List.length_append, List.length_cons, List.length_nil, List.map_append, List.map_nil, List.map_cons, List.nil_append, Nat.zero_add, List.mem_singleton, forall_eq, Bool.not_true, Bool.not_false, roSB, Nat.reduceAdd, Nat.reduceMul, Nat.reduceLeDiff, Nat.reduceEqDiff, reduceCtorEq, Nat.reduceSub, Int.reduceNeg, Nat.reduceMod, Nat.reduceBEq, Nat.reduceLT] <;> try simp only [qa, qb, qc, qd, qe, qf, qg, bOf_t, bOf_f] at hb))
          all_goals first | rfl | omega | assumption | decide | skip
        · have hk' : ¬ ixP (fun r : Rc => r.addr = a) 0 (s.items.getD (ixP (fun x : Im => x.id = n) 0 s.items).toNat default).to < 0 := hk
          obtain ⟨hk0, hk1⟩ := atRc_lt hk
          have hk0' : 0 ≤ ixP (fun r : Rc => r.addr = a) 0 (s.items.getD (ixP (fun x : Im => x.id = n) 0 s.items).toNat default).to := hk0
          have hk1' : ixP (fun r : Rc => r.addr = a) 0 (s.items.getD (ixP (fun x : Im => x.id = n) 0 s.items).toNat default).to < (s.items.getD (ixP (fun x : Im => x.id = n) 0 s.items).toNat default).to.length := hk1
          rw [SLater_y h hi hw hk]
          simp -implicitDefEqProofs only [Tryz.f83, b1, bw, hi', hk', decide_true, decide_false, go_sem, h34, c34, h36, c36, h113, c113, h114, c114, h102, c102, h51, c51, tmap, dmap, List.take_length, List.drop_zero, List.length_take, List.length_drop, List.length_map, List.length_append, List.length_cons, List.length_nil, List.map_append, List.map_nil, List.map_cons, List.nil_append, Nat.zero_add, List.mem_singleton, forall_eq, Bool.not_true, Bool.not_false, roSB, Nat.reduceAdd, Nat.reduceMul, Nat.reduceLeDiff, Nat.reduceEqDiff, reduceCtorEq, Nat.reduceSub, Int.reduceNeg, Nat.reduceMod, Nat.reduceBEq, Nat.reduceLT]
          repeat' (first | with_reducible apply And.intro | with_reducible intro _ | ((first | refine brB_split (fun hb => ?_) (fun hb => ?_) | refine aPickB_split (fun hb => ?_) (fun hb => ?_) | refine gB_split (fun hb => ?_) (fun hb => ?_) | refine adB_split (fun hb => ?_) (fun hb => ?_)) <;> simp -implicitDefEqProofs only [hb, go_sem, h34, c34, h36, c36, h113, c113, h114, c114, h102, c102, h51, c51, tmap, dmap, List.take_length, List.drop_zero, List.length_take, List.length_drop, List.length_map, List.length_append, List.length_cons, List.length_nil, List.map_append, List.map_nil, List.map_cons, List.nil_append, Nat.zero_add, List.mem_singleton, forall_eq, Bool.not_true, Bool.not_false, roSB, Nat.reduceAdd, Nat.reduceMul, Nat.reduceLeDiff, Nat.reduceEqDiff, reduceCtorEq, Nat.reduceSub, Int.reduceNeg, Nat.reduceMod, Nat.reduceBEq, Nat.reduceLT] <;> try simp only [qa, qb, qc, qd, qe, qf, qg, bOf_t, bOf_f] at hb))
          all_goals first | rfl | omega | assumption | decide | skip
          refine run_le (Le.frzL [1019]) (run_go ?_)
          simp -implicitDefEqProofs only [go_sem, h34, c34, h36, c36, h113, c113, h114, c114, h102, c102, h51, c51, tmap, dmap, List.take_length, List.drop_zero, List.length_take, List.length_drop, List.length_map, List.length_append, List.length_cons, List.length_nil, List.map_append, List.map_nil, List.map_cons, List.nil_append, Nat.zero_add, List.mem_singleton, forall_eq, Bool.not_true, Bool.not_false, roSB, Nat.reduceAdd, Nat.reduceMul, Nat.reduceLeDiff, Nat.reduceEqDiff, reduceCtorEq, Nat.reduceSub, Int.reduceNeg, Nat.reduceMod, Nat.reduceBEq, Nat.reduceLT]
          repeat' (first | with_reducible apply And.intro | with_reducible intro _ | ((first | refine brB_split (fun hb => ?_) (fun hb => ?_) | refine aPickB_split (fun hb => ?_) (fun hb => ?_) | refine gB_split (fun hb => ?_) (fun hb => ?_) | refine adB_split (fun hb => ?_) (fun hb => ?_)) <;> simp -implicitDefEqProofs only [hb, go_sem, h34, c34, h36, c36, h113, c113, h114, c114, h102, c102, h51, c51, tmap, dmap, List.take_length, List.drop_zero, List.length_take, List.length_drop, List.length_map, List.length_append, List.length_cons, List.length_nil, List.map_append, List.map_nil, List.map_cons, List.nil_append, Nat.zero_add, List.mem_singleton, forall_eq, Bool.not_true, Bool.not_false, roSB, Nat.reduceAdd, Nat.reduceMul, Nat.reduceLeDiff, Nat.reduceEqDiff, reduceCtorEq, Nat.reduceSub, Int.reduceNeg, Nat.reduceMod, Nat.reduceBEq, Nat.reduceLT] <;> try simp only [qa, qb, qc, qd, qe, qf, qg, bOf_t, bOf_f] at hb))
          all_goals first | rfl | omega | assumption | decide | exact hw.1 | exact hw.2 | exact h.1 | exact h.2.1 | exact h.2.2.1 | exact h.2.2.2 | skip
          all_goals trace_state
      · have bw := bOf_n hw
        rw [SLater_w h hi hw]
        simp -implicitDefEqProofs only [Tryz.f83, b1, bw, hi', decide_true, decide_false, go_sem, h34, c34, h36, c36, h113, c113, h114, c114, h102, c102, h51, c51, tmap, dmap, List.take_length, List.drop_zero, List.length_take, List.length_drop, List.length_map, List.length_append, List.length_cons, List.length_nil, List.map_append, List.map_nil, List.map_cons, List.nil_append, Nat.zero_add, List.mem_singleton, forall_eq, Bool.not_true, Bool.not_false, roSB, Nat.reduceAdd, Nat.reduceMul, Nat.reduceLeDiff, Nat.reduceEqDiff, reduceCtorEq, Nat.reduceSub, Int.reduceNeg, Nat.reduceMod, Nat.reduceBEq, Nat.reduceLT]
        repeat' (first | with_reducible apply And.intro | with_reducible intro _ | ((first | refine brB_split (fun hb => ?_) (fun hb => ?_) | refine aPickB_split (fun hb => ?_) (fun hb => ?_) | refine gB_split (fun hb => ?_) (fun hb => ?_) | refine adB_split (fun hb => ?_) (fun hb => ?_)) <;> simp -implicitDefEqProofs only [hb, go_sem, h34, c34, h36, c36, h113, c113, h114, c114, h102, c102, h51, c51, tmap, dmap, List.take_length, List.drop_zero, List.length_take, List.length_drop, List.length_map, List.length_append, List.length_cons, List.length_nil, List.map_append, List.map_nil, List.map_cons, List.nil_append, Nat.zero_add, List.mem_singleton, forall_eq, Bool.not_true, Bool.not_false, roSB, Nat.reduceAdd, Nat.reduceMul, Nat.reduceLeDiff, Nat.reduceEqDiff, reduceCtorEq, Nat.reduceSub, Int.reduceNeg, Nat.reduceMod, Nat.reduceBEq, Nat.reduceLT] <;> try simp only [qa, qb, qc, qd, qe, qf, qg, bOf_t, bOf_f] at hb))
        all_goals first | rfl | omega | assumption | decide | skip
  · have b1 := bOf_n h
    rw [SLater_no h]
    simp -implicitDefEqProofs only [Tryz.f83, b1, decide_true, decide_false, go_sem, h34, c34, h36, c36, h113, c113, h114, c114, h102, c102, h51, c51, tmap, dmap, List.take_length, List.drop_zero, List.length_take, List.length_drop, List.length_map, List.length_append, List.length_cons, List.length_nil, List.map_append, List.map_nil, List.map_cons, List.nil_append, Nat.zero_add, List.mem_singleton, forall_eq, Bool.not_true, Bool.not_false, roSB, Nat.reduceAdd, Nat.reduceMul, Nat.reduceLeDiff, Nat.reduceEqDiff, reduceCtorEq, Nat.reduceSub, Int.reduceNeg, Nat.reduceMod, Nat.reduceBEq, Nat.reduceLT]
    repeat' (first | with_reducible apply And.intro | with_reducible intro _ | ((first | refine brB_split (fun hb => ?_) (fun hb => ?_) | refine aPickB_split (fun hb => ?_) (fun hb => ?_) | refine gB_split (fun hb => ?_) (fun hb => ?_) | refine adB_split (fun hb => ?_) (fun hb => ?_)) <;> simp -implicitDefEqProofs only [hb, go_sem, h34, c34, h36, c36, h113, c113, h114, c114, h102, c102, h51, c51, tmap, dmap, List.take_length, List.drop_zero, List.length_take, List.length_drop, List.length_map, List.length_append, List.length_cons, List.length_nil, List.map_append, List.map_nil, List.map_cons, List.nil_append, Nat.zero_add, List.mem_singleton, forall_eq, Bool.not_true, Bool.not_false, roSB, Nat.reduceAdd, Nat.reduceMul, Nat.reduceLeDiff, Nat.reduceEqDiff, reduceCtorEq, Nat.reduceSub, Int.reduceNeg, Nat.reduceMod, Nat.reduceBEq, Nat.reduceLT] <;> try simp only [qa, qb, qc, qd, qe, qf, qg, bOf_t, bOf_f] at hb))
    all_goals first | rfl | omega | assumption | decide | skip


theorem aNil_n {s : AS} {K : Kt} : aNilE [] false s K = (K (.t (.v (.bool true))) s ∧ K (.t (.v (.bool false))) s) := propext ⟨fun h => ⟨h.1 rfl, h.2⟩, fun h => ⟨fun _ => h.1, h.2⟩⟩
theorem aNil_c {e : List T} {es : List (List T)} {s : AS} {K : Kt} : aNilE (e :: es) false s K = K (.t (.v (.bool false))) s := propext ⟨fun h => h.2, fun h => ⟨fun e => (by cases e), h⟩⟩
theorem take_addr {xs : List Rc} {i : Nat} (h : i < xs.length) : ((xs.map Rc.addr).take (i + 1)).map encAd = ((xs.map Rc.addr).take i).map encAd ++ [[.v (.string (xs.getD i default).addr.user), .v (.string (xs.getD i default).addr.domain)]] := by
  have e : (xs.map Rc.addr).getD i default = (xs.getD i default).addr := by
    simp only [List.getD_eq_getElem?_getD, List.getElem?_map, List.getElem?_eq_getElem h, Option.map_some, Option.getD_some]
  rw [take_snoc_map encAd (by rw [List.length_map]; exact h), e]
  rfl
theorem FIm_num {n : Int} : FIm.sem (.num n) = fun x : Im => x.id = n := rfl
theorem FRc_who {b : Ad} : FRc.sem (.who b) = fun r : Rc => r.addr = b := rfl
noncomputable def findR (s : Sp) (n : Int) (a : Ad) : AV := if atIm s n < 0 then .tup [.t (.v (.int .i64 0)), .t (.v (.int .i64 0)), .t (.v (.bool false))] else .tup [.t (.v (.int .i64 (atIm s n))), .t (.v (.int .i64 (atRc (theIm s n) a))), .t (.v (.bool (decide (atRc (theIm s n) a ≥ 0))))]
theorem findR_solid (s : Sp) (n : Int) (a : Ad) : Solid (findR s n a) := by
  unfold findR
  split
  all_goals
    refine .tup _ fun c hc => ?_
    simp only [List.mem_cons, List.not_mem_nil, or_false] at hc
    rcases hc with rfl | rfl | rfl <;> exact .v _
theorem findR_n {s : Sp} {n : Int} {a : Ad} (h : atIm s n < 0) : findR s n a = .tup [.t (.v (.int .i64 0)), .t (.v (.int .i64 0)), .t (.v (.bool false))] := if_pos h
theorem findR_y {s : Sp} {n : Int} {a : Ad} (h : ¬ atIm s n < 0) : findR s n a = .tup [.t (.v (.int .i64 (atIm s n))), .t (.v (.int .i64 (atRc (theIm s n) a))), .t (.v (.bool (decide (atRc (theIm s n) a ≥ 0))))] := if_neg h
theorem pau_shl {t : Int} (h : 1 ≤ t) : (2 : Int) * 2 ^ (t - 1).toNat = pau t := rfl
def c44 : Ct := ctR (lc AInt l0) (fun p => True) (fun p => .t (.v (.bool (bOf (0 ≤ p.1 ∧ p.1 ≤ 9999)))))
theorem good44 {G : Gt} (hG : OkG G) (h40 : G.e 40 = roEnt 0 c40) : Gd G 44 (roEnt 0 c44) := by
  refine gR (dp := fun _ => true) (fn := Tryz.f44) (n := 1) (fun _ => rfl) (by kernel_rfl) rfl (by kernel_rfl) hG (Nat.le_of_ble_eq_true rfl) (by kernel_rfl) (by decide) (fun _ _ => .v _) ?_
  rintro ⟨n, ⟨⟩⟩ hpre
  simp -implicitDefEqProofs only [Tryz.f44, go_sem, h40, c40, Nat.reduceAdd, Nat.reduceMul, Nat.reduceLeDiff, Nat.reduceEqDiff, reduceCtorEq, Nat.reduceSub, Int.reduceNeg, Nat.reduceMod, Nat.reduceBEq, Nat.reduceLT] at hpre ⊢

  repeat' (first | with_reducible apply And.intro | with_reducible intro _ | ((first | refine brB_split (fun hb => ?_) (fun hb => ?_) | refine aPickB_split (fun hb => ?_) (fun hb => ?_) | refine gB_split (fun hb => ?_) (fun hb => ?_) | refine adB_split (fun hb => ?_) (fun hb => ?_)) <;> simp -implicitDefEqProofs only [hb, go_sem, h40, c40, Nat.reduceAdd, Nat.reduceMul, Nat.reduceLeDiff, Nat.reduceEqDiff, reduceCtorEq, Nat.reduceSub, Int.reduceNeg, Nat.reduceMod, Nat.reduceBEq, Nat.reduceLT] <;> try simp only [qa, qb, qc, qd, qe, qf, qg, bOf_t, bOf_f] at hb))
  all_goals first | rfl | skip

def c39 : Ct := ctR (lc EIm.ag l0) (fun p => OkIm p.1) (fun p => .t (.v (.bool (bOf (ImOk p.1)))))
set_option maxHeartbeats 1600000 in
theorem good39 {G : Gt} (hG : OkG G) (h41 : G.e 41 = roEnt 0 c41) (h40 : G.e 40 = roEnt 0 c40) (h44 : G.e 44 = roEnt 0 c44) (h85 : G.e 85 = roEnt 0 c85) (h86 : G.e 86 = roEnt 0 c86) (h87 : G.e 87 = roEnt 0 c87) : Gd G 39 (roEnt 0 c39) := by
  refine gR (dp := fun _ => true) (fn := Tryz.f39) (n := 1) (fun _ => rfl) (by kernel_rfl) rfl (by kernel_rfl) hG (Nat.le_of_ble_eq_true rfl) (by kernel_rfl) (by decide) (fun _ _ => .v _) ?_
  rintro ⟨x, ⟨⟩⟩ hpre
  simp -implicitDefEqProofs only [Tryz.f39, go_sem, h41, c41, h40, c40, h44, c44, h85, c85, h86, c86, h87, c87, tmap, dmap, List.take_length, List.drop_zero, List.length_take, List.length_drop, List.length_map, List.length_append, List.length_cons, List.length_nil, List.map_append, List.map_nil, List.map_cons, List.nil_append, Nat.zero_add, List.mem_singleton, forall_eq, Bool.not_true, Bool.not_false, bOf_t, bOf_f, Nat.reduceAdd, Nat.reduceMul, Nat.reduceLeDiff, Nat.reduceEqDiff, reduceCtorEq, Nat.reduceSub, Int.reduceNeg, Nat.reduceMod, Nat.reduceBEq, Nat.reduceLT] at hpre ⊢

  obtain ⟨⟨_, hfd⟩, ⟨hl1, hto⟩, ⟨hl2, hbd⟩⟩ := hpre
  have hfd' : x.frm.domain.size ≤ 2000000 := by have : x.frm.domain.size ≤ 1048576 := hfd; omega
  have hbd' : ∀ s ∈ x.body, s.size ≤ 2000000 := fun s hs => by have : s.size ≤ 1048576 := hbd s hs; omega
  have hto' : ∀ j, j < x.to.length → (x.to.getD j default).addr.domain.size ≤ 2000000 := fun j hj => by have : (x.to.getD j default).addr.domain.size ≤ 1048576 := (hto _ (getD_mem hj)).2; omega
  repeat' (first | with_reducible apply And.intro | with_reducible intro _ | ((first | refine brB_split (fun hb => ?_) (fun hb => ?_) | refine aPickB_split (fun hb => ?_) (fun hb => ?_) | refine gB_split (fun hb => ?_) (fun hb => ?_) | refine adB_split (fun hb => ?_) (fun hb => ?_)) <;> simp -implicitDefEqProofs only [hb, go_sem, h41, c41, h40, c40, h44, c44, h85, c85, h86, c86, h87, c87, tmap, dmap, List.take_length, List.drop_zero, List.length_take, List.length_drop, List.length_map, List.length_append, List.length_cons, List.length_nil, List.map_append, List.map_nil, List.map_cons, List.nil_append, Nat.zero_add, List.mem_singleton, forall_eq, Bool.not_true, Bool.not_false, bOf_t, bOf_f, Nat.reduceAdd, Nat.reduceMul, Nat.reduceLeDiff, Nat.reduceEqDiff, reduceCtorEq, Nat.reduceSub, Int.reduceNeg, Nat.reduceMod, Nat.reduceBEq, Nat.reduceLT] <;> try simp only [qa, qb, qc, qd, qe, qf, qg, bOf_t, bOf_f] at hb))
  all_goals first | rfl | skip
  refine run_loop [(3, 1903, true, 2)] (ι := {i : Nat // i ≤ x.to.length ∧ ∀ j, j < i → RcOk (x.to.getD j default)}) (fun p => ⟨[(1, .pb 1001 0), (3, .h 1903), (7, .t (.sl 4 (x.to.map encRc))), (8, .t (.v (.int .i64 x.to.length))), (9, .t (.v (.int .i64 p.1)))], [(1001, some (.box ((encIm x).map .t))), (1903, some (.arr true 2 (((x.to.map Rc.addr).take p.1).map encAd)))]⟩) (fun p => x.to.length - p.1) ⟨0, by simp, by simp⟩ rfl ?_ ?_
  · simp -implicitDefEqProofs only [go_sem, h41, c41, h40, c40, h44, c44, h85, c85, h86, c86, h87, c87, tmap, dmap, List.take_length, List.drop_zero, List.length_take, List.length_drop, List.length_map, List.length_append, List.length_cons, List.length_nil, List.map_append, List.map_nil, List.map_cons, List.nil_append, Nat.zero_add, List.mem_singleton, forall_eq, Bool.not_true, Bool.not_false, bOf_t, bOf_f, Nat.reduceAdd, Nat.reduceMul, Nat.reduceLeDiff, Nat.reduceEqDiff, reduceCtorEq, Nat.reduceSub, Int.reduceNeg, Nat.reduceMod, Nat.reduceBEq, Nat.reduceLT]
    simp
  · rintro ⟨i, hi, hall⟩
    by_cases hlt : (i : Int) < x.to.length
    · have hd := hto' i (by omega)
      have hlen : ((x.to.map Rc.addr).take i).length = i := by simp; omega
      simp -implicitDefEqProofs only [hlt, decide_true, Int.toNat_natCast, go_sem, h41, c41, h40, c40, h44, c44, h85, c85, h86, c86, h87, c87, tmap, dmap, List.take_length, List.drop_zero, List.length_take, List.length_drop, List.length_map, List.length_append, List.length_cons, List.length_nil, List.map_append, List.map_nil, List.map_cons, List.nil_append, Nat.zero_add, List.mem_singleton, forall_eq, Bool.not_true, Bool.not_false, bOf_t, bOf_f, Nat.reduceAdd, Nat.reduceMul, Nat.reduceLeDiff, Nat.reduceEqDiff, reduceCtorEq, Nat.reduceSub, Int.reduceNeg, Nat.reduceMod, Nat.reduceBEq, Nat.reduceLT]
      repeat' (first | with_reducible apply And.intro | with_reducible intro _ | ((first | refine brB_split (fun hb => ?_) (fun hb => ?_) | refine aPickB_split (fun hb => ?_) (fun hb => ?_) | refine gB_split (fun hb => ?_) (fun hb => ?_) | refine adB_split (fun hb => ?_) (fun hb => ?_)) <;> simp -implicitDefEqProofs only [hb, go_sem, h41, c41, h40, c40, h44, c44, h85, c85, h86, c86, h87, c87, tmap, dmap, List.take_length, List.drop_zero, List.length_take, List.length_drop, List.length_map, List.length_append, List.length_cons, List.length_nil, List.map_append, List.map_nil, List.map_cons, List.nil_append, Nat.zero_add, List.mem_singleton, forall_eq, Bool.not_true, Bool.not_false, bOf_t, bOf_f, Nat.reduceAdd, Nat.reduceMul, Nat.reduceLeDiff, Nat.reduceEqDiff, reduceCtorEq, Nat.reduceSub, Int.reduceNeg, Nat.reduceMod, Nat.reduceBEq, Nat.reduceLT] <;> try simp only [qa, qb, qc, qd, qe, qf, qg, bOf_t, bOf_f] at hb))
      all_goals (try simp only [maxLen] at *)
      all_goals first | rfl | omega | assumption | decide | skip
      all_goals first
        | (rw [bOf_n (fun h => by have h1 := h.1 _ (getD_mem (xs := x.to) (j := i) (by omega)); first | exact hb h1.1 | exact hb h1.2.1 | exact hb h1.2.2)]; done)
        | skip
      refine ⟨⟨i + 1, by omega, all_step (P := RcOk) hall ⟨by assumption, by assumption, by assumption⟩⟩, by dsimp only; omega, ?_⟩
      simp -implicitDefEqProofs only [go_sem, h41, c41, h40, c40, h44, c44, h85, c85, h86, c86, h87, c87, tmap, dmap, List.take_length, List.drop_zero, List.length_take, List.length_drop, List.length_map, List.length_append, List.length_cons, List.length_nil, List.map_append, List.map_nil, List.map_cons, List.nil_append, Nat.zero_add, List.mem_singleton, forall_eq, Bool.not_true, Bool.not_false, bOf_t, bOf_f, Nat.reduceAdd, Nat.reduceMul, Nat.reduceLeDiff, Nat.reduceEqDiff, reduceCtorEq, Nat.reduceSub, Int.reduceNeg, Nat.reduceMod, Nat.reduceBEq, Nat.reduceLT]
      simp only [take_addr (show i < x.to.length by omega)]
      repeat' (first | with_reducible apply And.intro | with_reducible intro _ | ((first | refine brB_split (fun hb => ?_) (fun hb => ?_) | refine aPickB_split (fun hb => ?_) (fun hb => ?_) | refine gB_split (fun hb => ?_) (fun hb => ?_) | refine adB_split (fun hb => ?_) (fun hb => ?_)) <;> simp -implicitDefEqProofs only [hb, go_sem, h41, c41, h40, c40, h44, c44, h85, c85, h86, c86, h87, c87, tmap, dmap, List.take_length, List.drop_zero, List.length_take, List.length_drop, List.length_map, List.length_append, List.length_cons, List.length_nil, List.map_append, List.map_nil, List.map_cons, List.nil_append, Nat.zero_add, List.mem_singleton, forall_eq, Bool.not_true, Bool.not_false, bOf_t, bOf_f, Nat.reduceAdd, Nat.reduceMul, Nat.reduceLeDiff, Nat.reduceEqDiff, reduceCtorEq, Nat.reduceSub, Int.reduceNeg, Nat.reduceMod, Nat.reduceBEq, Nat.reduceLT] <;> try simp only [qa, qb, qc, qd, qe, qf, qg, bOf_t, bOf_f] at hb))
      all_goals first | rfl | (simp; done) | (simp; omega)
    · have hA : ∀ r ∈ x.to, RcOk r := mem_getD fun j hj => hall j (by omega)
      simp -implicitDefEqProofs only [hlt, decide_false, go_sem, h41, c41, h40, c40, h44, c44, h85, c85, h86, c86, h87, c87, tmap, dmap, List.take_length, List.drop_zero, List.length_take, List.length_drop, List.length_map, List.length_append, List.length_cons, List.length_nil, List.map_append, List.map_nil, List.map_cons, List.nil_append, Nat.zero_add, List.mem_singleton, forall_eq, Bool.not_true, Bool.not_false, bOf_t, bOf_f, Nat.reduceAdd, Nat.reduceMul, Nat.reduceLeDiff, Nat.reduceEqDiff, reduceCtorEq, Nat.reduceSub, Int.reduceNeg, Nat.reduceMod, Nat.reduceBEq, Nat.reduceLT]
      repeat' (first | with_reducible apply And.intro | with_reducible intro _ | ((first | refine brB_split (fun hb => ?_) (fun hb => ?_) | refine aPickB_split (fun hb => ?_) (fun hb => ?_) | refine gB_split (fun hb => ?_) (fun hb => ?_) | refine adB_split (fun hb => ?_) (fun hb => ?_)) <;> simp -implicitDefEqProofs only [hb, go_sem, h41, c41, h40, c40, h44, c44, h85, c85, h86, c86, h87, c87, tmap, dmap, List.take_length, List.drop_zero, List.length_take, List.length_drop, List.length_map, List.length_append, List.length_cons, List.length_nil, List.map_append, List.map_nil, List.map_cons, List.nil_append, Nat.zero_add, List.mem_singleton, forall_eq, Bool.not_true, Bool.not_false, bOf_t, bOf_f, Nat.reduceAdd, Nat.reduceMul, Nat.reduceLeDiff, Nat.reduceEqDiff, reduceCtorEq, Nat.reduceSub, Int.reduceNeg, Nat.reduceMod, Nat.reduceBEq, Nat.reduceLT] <;> try simp only [qa, qb, qc, qd, qe, qf, qg, bOf_t, bOf_f] at hb))
      all_goals (try simp only [maxLen] at *)
      all_goals first | rfl | omega | assumption | decide | exact hbd' _ (by assumption) | skip
      all_goals (try rw [List.take_of_length_le (by rw [List.length_map]; omega)] at hb)
      all_goals first
        | (rw [bOf_congr]
           exact ⟨fun h => ⟨hA, hb, by assumption, by assumption, by omega, h⟩, fun h => h.2.2.2.2.2⟩)
        | (rw [bOf_n]
           intro h
           first
             | exact hb h.2.1
             | exact hb h.2.2.1
             | exact hb h.2.2.2.1
             | exact hb (by have := h.2.2.2.2.1; omega))
        | trace_state

def c10 : Ct := ctR (lc ESp.ag l0) (fun p => OkSp p.1) (fun p => .t (.v (.bool (bOf (SpOk p.1)))))
set_option maxHeartbeats 1600000 in
theorem good10 {G : Gt} (hG : OkG G) (h39 : G.e 39 = roEnt 0 c39) (h40 : G.e 40 = roEnt 0 c40) : Gd G 10 (roEnt 0 c10) := by
  refine gR (dp := fun _ => true) (fn := Tryz.f10) (n := 1) (fun _ => rfl) (by kernel_rfl) rfl (by kernel_rfl) hG (Nat.le_of_ble_eq_true rfl) (by kernel_rfl) (by decide) (fun _ _ => .v _) ?_
  rintro ⟨s, ⟨⟩⟩ hpre
  simp -implicitDefEqProofs only [Tryz.f10, go_sem, h39, c39, h40, c40, tmap, dmap, List.take_length, List.drop_zero, List.length_take, List.length_drop, List.length_map, List.length_append, List.length_cons, List.length_nil, List.map_append, List.map_nil, List.map_cons, List.nil_append, Nat.zero_add, List.mem_singleton, forall_eq, Bool.not_true, Bool.not_false, bOf_t, bOf_f, Nat.reduceAdd, Nat.reduceMul, Nat.reduceLeDiff, Nat.reduceEqDiff, reduceCtorEq, Nat.reduceSub, Int.reduceNeg, Nat.reduceMod, Nat.reduceBEq, Nat.reduceLT] at hpre ⊢

  have hok' : OkL OkIm s.items := hpre
  have hmx := hok'.1
  repeat' (first | with_reducible apply And.intro | with_reducible intro _ | ((first | refine brB_split (fun hb => ?_) (fun hb => ?_) | refine aPickB_split (fun hb => ?_) (fun hb => ?_) | refine gB_split (fun hb => ?_) (fun hb => ?_) | refine adB_split (fun hb => ?_) (fun hb => ?_)) <;> simp -implicitDefEqProofs only [hb, go_sem, h39, c39, h40, c40, tmap, dmap, List.take_length, List.drop_zero, List.length_take, List.length_drop, List.length_map, List.length_append, List.length_cons, List.length_nil, List.map_append, List.map_nil, List.map_cons, List.nil_append, Nat.zero_add, List.mem_singleton, forall_eq, Bool.not_true, Bool.not_false, bOf_t, bOf_f, Nat.reduceAdd, Nat.reduceMul, Nat.reduceLeDiff, Nat.reduceEqDiff, reduceCtorEq, Nat.reduceSub, Int.reduceNeg, Nat.reduceMod, Nat.reduceBEq, Nat.reduceLT] <;> try simp only [qa, qb, qc, qd, qe, qf, qg, bOf_t, bOf_f] at hb))
  all_goals first | rfl | skip
  refine run_loop [] (ι := {i : Nat // i ≤ s.items.length ∧ (∀ j, j < i → ImOk (s.items.getD j default) ∧ (s.items.getD j default).id ≤ s.last) ∧ ∀ j, 0 < j → j < i → (s.items.getD (j - 1) default).id < (s.items.getD j default).id}) (fun p => ⟨[(1, .pb 1001 0), (3, .t (.v (.int .i64 (if p.1 = 0 then 0 else (s.items.getD (p.1 - 1) default).id)))), (7, .t (.sl 5 (s.items.map encIm))), (8, .t (.v (.int .i64 s.items.length))), (9, .t (.v (.int .i64 p.1)))], [(1001, some (.box ((encSp s).map .t)))]⟩) (fun p => s.items.length - p.1) ⟨0, by simp, by simp, by simp⟩ rfl ?_ ?_
  · simp -implicitDefEqProofs only [go_sem, h39, c39, h40, c40, tmap, dmap, List.take_length, List.drop_zero, List.length_take, List.length_drop, List.length_map, List.length_append, List.length_cons, List.length_nil, List.map_append, List.map_nil, List.map_cons, List.nil_append, Nat.zero_add, List.mem_singleton, forall_eq, Bool.not_true, Bool.not_false, bOf_t, bOf_f, Nat.reduceAdd, Nat.reduceMul, Nat.reduceLeDiff, Nat.reduceEqDiff, reduceCtorEq, Nat.reduceSub, Int.reduceNeg, Nat.reduceMod, Nat.reduceBEq, Nat.reduceLT]
    simp
  · rintro ⟨i, hi, hall, hasc⟩
    have hgen : ∀ L : Int, L = (if i = 0 then 0 else (s.items.getD (i - 1) default).id) → True := fun _ _ => trivial
    obtain ⟨L, hL⟩ : ∃ L : Int, L = (if i = 0 then 0 else (s.items.getD (i - 1) default).id) := ⟨_, rfl⟩
    by_cases hlt : (i : Int) < s.items.length
    · have hok := hok'.at (i := i) (by omega)
      dsimp only
      rw [← hL]
      simp -implicitDefEqProofs only [hlt, decide_true, Int.toNat_natCast, go_sem, h39, c39, h40, c40, tmap, dmap, List.take_length, List.drop_zero, List.length_take, List.length_drop, List.length_map, List.length_append, List.length_cons, List.length_nil, List.map_append, List.map_nil, List.map_cons, List.nil_append, Nat.zero_add, List.mem_singleton, forall_eq, Bool.not_true, Bool.not_false, bOf_t, bOf_f, Nat.reduceAdd, Nat.reduceMul, Nat.reduceLeDiff, Nat.reduceEqDiff, reduceCtorEq, Nat.reduceSub, Int.reduceNeg, Nat.reduceMod, Nat.reduceBEq, Nat.reduceLT]
      repeat' (first | with_reducible apply And.intro | with_reducible intro _ | ((first | refine brB_split (fun hb => ?_) (fun hb => ?_) | refine aPickB_split (fun hb => ?_) (fun hb => ?_) | refine gB_split (fun hb => ?_) (fun hb => ?_) | refine adB_split (fun hb => ?_) (fun hb => ?_)) <;> simp -implicitDefEqProofs only [hb, go_sem, h39, c39, h40, c40, tmap, dmap, List.take_length, List.drop_zero, List.length_take, List.length_drop, List.length_map, List.length_append, List.length_cons, List.length_nil, List.map_append, List.map_nil, List.map_cons, List.nil_append, Nat.zero_add, List.mem_singleton, forall_eq, Bool.not_true, Bool.not_false, bOf_t, bOf_f, Nat.reduceAdd, Nat.reduceMul, Nat.reduceLeDiff, Nat.reduceEqDiff, reduceCtorEq, Nat.reduceSub, Int.reduceNeg, Nat.reduceMod, Nat.reduceBEq, Nat.reduceLT] <;> try simp only [qa, qb, qc, qd, qe, qf, qg, bOf_t, bOf_f] at hb))
      all_goals (try simp only [maxLen] at *)
      all_goals first | rfl | omega | assumption | decide | skip
      all_goals (try have h0 := (show ImOk (s.items.getD i default) from by assumption).2.2.1)
      all_goals first
        | (rw [bOf_n]
           intro h
           have h1 := h.1 _ (getD_mem (xs := s.items) (j := i) (by omega))
           first
             | exact hb h1.1
             | omega
             | (by_cases e : i = 0
                · rw [if_pos e] at hL; omega
                · rw [if_neg e] at hL
                  have h2 := h.2.1 i (by omega) (by omega)
                  omega))
        | skip
      refine ⟨⟨i + 1, by omega, all_step (P := fun x : Im => ImOk x ∧ x.id ≤ s.last) hall ⟨by assumption, by omega⟩, fun j h0 hj => ?_⟩, by dsimp only; omega, ?_⟩
      · by_cases e : j = i
        · subst e
          rw [if_neg (by omega)] at hL
          omega
        · exact hasc j h0 (by omega)
      · simp -implicitDefEqProofs only [go_sem, h39, c39, h40, c40, tmap, dmap, List.take_length, List.drop_zero, List.length_take, List.length_drop, List.length_map, List.length_append, List.length_cons, List.length_nil, List.map_append, List.map_nil, List.map_cons, List.nil_append, Nat.zero_add, List.mem_singleton, forall_eq, Bool.not_true, Bool.not_false, bOf_t, bOf_f, Nat.reduceAdd, Nat.reduceMul, Nat.reduceLeDiff, Nat.reduceEqDiff, reduceCtorEq, Nat.reduceSub, Int.reduceNeg, Nat.reduceMod, Nat.reduceBEq, Nat.reduceLT]
        simp
    · dsimp only
      rw [← hL]
      simp -implicitDefEqProofs only [hlt, decide_false, go_sem, h39, c39, h40, c40, tmap, dmap, List.take_length, List.drop_zero, List.length_take, List.length_drop, List.length_map, List.length_append, List.length_cons, List.length_nil, List.map_append, List.map_nil, List.map_cons, List.nil_append, Nat.zero_add, List.mem_singleton, forall_eq, Bool.not_true, Bool.not_false, bOf_t, bOf_f, Nat.reduceAdd, Nat.reduceMul, Nat.reduceLeDiff, Nat.reduceEqDiff, reduceCtorEq, Nat.reduceSub, Int.reduceNeg, Nat.reduceMod, Nat.reduceBEq, Nat.reduceLT]
      repeat' (first | with_reducible apply And.intro | with_reducible intro _ | ((first | refine brB_split (fun hb => ?_) (fun hb => ?_) | refine aPickB_split (fun hb => ?_) (fun hb => ?_) | refine gB_split (fun hb => ?_) (fun hb => ?_) | refine adB_split (fun hb => ?_) (fun hb => ?_)) <;> simp -implicitDefEqProofs only [hb, go_sem, h39, c39, h40, c40, tmap, dmap, List.take_length, List.drop_zero, List.length_take, List.length_drop, List.length_map, List.length_append, List.length_cons, List.length_nil, List.map_append, List.map_nil, List.map_cons, List.nil_append, Nat.zero_add, List.mem_singleton, forall_eq, Bool.not_true, Bool.not_false, bOf_t, bOf_f, Nat.reduceAdd, Nat.reduceMul, Nat.reduceLeDiff, Nat.reduceEqDiff, reduceCtorEq, Nat.reduceSub, Int.reduceNeg, Nat.reduceMod, Nat.reduceBEq, Nat.reduceLT] <;> try simp only [qa, qb, qc, qd, qe, qf, qg, bOf_t, bOf_f] at hb))
      all_goals (try simp only [maxLen] at *)
      all_goals first | rfl | omega | assumption | decide | skip
      · refine congrArg (fun b => T.v (Value.bool b)) ?_
        rw [← bOf_d, bOf_congr]
        exact ⟨fun h => ⟨mem_getD fun j hj => hall j (by omega), fun j h0 hj => hasc j h0 (by omega), hb, by omega⟩, fun h => by have := h.2.2.2; omega⟩
      · rw [bOf_n (fun h => hb h.2.2.1)]

def c73 : Ct := ctR (lc ERc.asl l0) (fun p => (p.1.length : Int) ≤ 1048576) (fun p => .o true 4 (p.1.map encRc))
theorem good73 {G : Gt} (hG : OkG G) : Gd G 73 (roEnt 0 c73) := by
  refine gR (dp := fun _ => true) (fn := Tryz.f73) (n := 1) (fun _ => rfl) (by kernel_rfl) rfl (by kernel_rfl) hG (Nat.le_of_ble_eq_true rfl) (by kernel_rfl) (by decide) (fun _ _ => .deep _ _) ?_
  rintro ⟨xs, ⟨⟩⟩ hpre


  dsimp only at hpre ⊢
  cases xs with
  | nil =>
    simp -implicitDefEqProofs only [Tryz.f73, go_sem, aNil_n, aNil_c, List.length_map, List.nil_append, List.map_nil, List.map_cons, List.length_cons, List.length_nil, Nat.reduceAdd, Nat.reduceMul, Nat.reduceLeDiff, Nat.reduceEqDiff, reduceCtorEq, Nat.reduceSub, Int.reduceNeg, Nat.reduceMod, Nat.reduceBEq, Nat.reduceLT]
    repeat' (first | with_reducible apply And.intro | with_reducible intro _ | ((first | refine brB_split (fun hb => ?_) (fun hb => ?_) | refine aPickB_split (fun hb => ?_) (fun hb => ?_) | refine gB_split (fun hb => ?_) (fun hb => ?_) | refine adB_split (fun hb => ?_) (fun hb => ?_)) <;> simp -implicitDefEqProofs only [hb, go_sem, aNil_n, aNil_c, List.length_map, List.nil_append, List.map_nil, List.map_cons, List.length_cons, List.length_nil, Nat.reduceAdd, Nat.reduceMul, Nat.reduceLeDiff, Nat.reduceEqDiff, reduceCtorEq, Nat.reduceSub, Int.reduceNeg, Nat.reduceMod, Nat.reduceBEq, Nat.reduceLT] <;> try simp only [qa, qb, qc, qd, qe, qf, qg, bOf_t, bOf_f] at hb))
    all_goals (try simp only [maxLen, List.length_map] at *)
    all_goals first | rfl | omega | exact of_eq_true (AllV_Rc []) | (simp; done) | skip
  | cons x xs =>
    simp only [List.length_cons] at hpre
    simp -implicitDefEqProofs only [Tryz.f73, go_sem, aNil_n, aNil_c, List.length_map, List.nil_append, List.map_nil, List.map_cons, List.length_cons, List.length_nil, Nat.reduceAdd, Nat.reduceMul, Nat.reduceLeDiff, Nat.reduceEqDiff, reduceCtorEq, Nat.reduceSub, Int.reduceNeg, Nat.reduceMod, Nat.reduceBEq, Nat.reduceLT]
    repeat' (first | with_reducible apply And.intro | with_reducible intro _ | ((first | refine brB_split (fun hb => ?_) (fun hb => ?_) | refine aPickB_split (fun hb => ?_) (fun hb => ?_) | refine gB_split (fun hb => ?_) (fun hb => ?_) | refine adB_split (fun hb => ?_) (fun hb => ?_)) <;> simp -implicitDefEqProofs only [hb, go_sem, aNil_n, aNil_c, List.length_map, List.nil_append, List.map_nil, List.map_cons, List.length_cons, List.length_nil, Nat.reduceAdd, Nat.reduceMul, Nat.reduceLeDiff, Nat.reduceEqDiff, reduceCtorEq, Nat.reduceSub, Int.reduceNeg, Nat.reduceMod, Nat.reduceBEq, Nat.reduceLT] <;> try simp only [qa, qb, qc, qd, qe, qf, qg, bOf_t, bOf_f] at hb))
    all_goals (try simp only [maxLen, List.length_map] at *)
    all_goals first | rfl | omega | exact of_eq_true (AllV_Rc (x :: xs)) | exact of_eq_true (len_Rc (x :: xs)) _ (by assumption) | (simp; done) | skip

def c59 : Ct := ctR (lc EStr.asl l0) (fun p => (p.1.length : Int) ≤ 1048576) (fun p => .o true 1 (p.1.map encStr))
theorem good59 {G : Gt} (hG : OkG G) : Gd G 59 (roEnt 0 c59) := by
  refine gR (dp := fun _ => true) (fn := Tryz.f59) (n := 1) (fun _ => rfl) (by kernel_rfl) rfl (by kernel_rfl) hG (Nat.le_of_ble_eq_true rfl) (by kernel_rfl) (by decide) (fun _ _ => .deep _ _) ?_
  rintro ⟨xs, ⟨⟩⟩ hpre


  dsimp only at hpre ⊢
  cases xs with
  | nil =>
    simp -implicitDefEqProofs only [Tryz.f59, go_sem, aNil_n, aNil_c, List.length_map, List.nil_append, List.map_nil, List.map_cons, List.length_cons, List.length_nil, Nat.reduceAdd, Nat.reduceMul, Nat.reduceLeDiff, Nat.reduceEqDiff, reduceCtorEq, Nat.reduceSub, Int.reduceNeg, Nat.reduceMod, Nat.reduceBEq, Nat.reduceLT]
    repeat' (first | with_reducible apply And.intro | with_reducible intro _ | ((first | refine brB_split (fun hb => ?_) (fun hb => ?_) | refine aPickB_split (fun hb => ?_) (fun hb => ?_) | refine gB_split (fun hb => ?_) (fun hb => ?_) | refine adB_split (fun hb => ?_) (fun hb => ?_)) <;> simp -implicitDefEqProofs only [hb, go_sem, aNil_n, aNil_c, List.length_map, List.nil_append, List.map_nil, List.map_cons, List.length_cons, List.length_nil, Nat.reduceAdd, Nat.reduceMul, Nat.reduceLeDiff, Nat.reduceEqDiff, reduceCtorEq, Nat.reduceSub, Int.reduceNeg, Nat.reduceMod, Nat.reduceBEq, Nat.reduceLT] <;> try simp only [qa, qb, qc, qd, qe, qf, qg, bOf_t, bOf_f] at hb))
    all_goals (try simp only [maxLen, List.length_map] at *)
    all_goals first | rfl | omega | exact of_eq_true (AllV_Str []) | (simp; done) | skip
  | cons x xs =>
    simp only [List.length_cons] at hpre
    simp -implicitDefEqProofs only [Tryz.f59, go_sem, aNil_n, aNil_c, List.length_map, List.nil_append, List.map_nil, List.map_cons, List.length_cons, List.length_nil, Nat.reduceAdd, Nat.reduceMul, Nat.reduceLeDiff, Nat.reduceEqDiff, reduceCtorEq, Nat.reduceSub, Int.reduceNeg, Nat.reduceMod, Nat.reduceBEq, Nat.reduceLT]
    repeat' (first | with_reducible apply And.intro | with_reducible intro _ | ((first | refine brB_split (fun hb => ?_) (fun hb => ?_) | refine aPickB_split (fun hb => ?_) (fun hb => ?_) | refine gB_split (fun hb => ?_) (fun hb => ?_) | refine adB_split (fun hb => ?_) (fun hb => ?_)) <;> simp -implicitDefEqProofs only [hb, go_sem, aNil_n, aNil_c, List.length_map, List.nil_append, List.map_nil, List.map_cons, List.length_cons, List.length_nil, Nat.reduceAdd, Nat.reduceMul, Nat.reduceLeDiff, Nat.reduceEqDiff, reduceCtorEq, Nat.reduceSub, Int.reduceNeg, Nat.reduceMod, Nat.reduceBEq, Nat.reduceLT] <;> try simp only [qa, qb, qc, qd, qe, qf, qg, bOf_t, bOf_f] at hb))
    all_goals (try simp only [maxLen, List.length_map] at *)
    all_goals first | rfl | omega | exact of_eq_true (AllV_Str (x :: xs)) | exact of_eq_true (len_Str (x :: xs)) _ (by assumption) | (simp; done) | skip

def c74 : Ct := ctR (lc ESp.ag (lc AInt (lc EAd.ag l0))) (fun p => True) (fun p => findR p.1 p.2.1 p.2.2.1)
set_option maxHeartbeats 800000 in
theorem good74 {G : Gt} (hG : OkG G) (h106 : G.e 106 = roEnt 0 c106) (h108 : G.e 108 = roEnt 0 c108) : Gd G 74 (roEnt 0 c74) := by
  refine gR (dp := fun _ => true) (fn := Tryz.f74) (n := 3) (fun _ => rfl) (by kernel_rfl) rfl (by kernel_rfl) hG (Nat.le_of_ble_eq_true rfl) (by kernel_rfl) (by decide) (fun _ p => findR_solid _ _ _) ?_
  rintro ⟨s, n, a, ⟨⟩⟩ hpre


  dsimp only
  by_cases hi : atIm s n < 0
  · have hi' : ixP (fun x : Im => x.id = n) 0 s.items < 0 := hi
    rw [findR_n hi]
    simp -implicitDefEqProofs only [Tryz.f74, hi', decide_true, go_sem, h106, c106, h108, c108, ap_enc, ap_dec, AFn0_dec, AFn0_enc, Bool.not_true, Bool.not_false, ty135, lv27, AFStr_d0, AFStr_e0, AFAd_d0, AFAd_e0, AFIm_d0, AFIm_e0, AFRc_d0, AFRc_e0, FIm_num, FRc_who, Nat.reduceAdd, Nat.reduceMul, Nat.reduceLeDiff, Nat.reduceEqDiff, reduceCtorEq, Nat.reduceSub, Int.reduceNeg, Nat.reduceMod, Nat.reduceBEq, Nat.reduceLT]
    repeat' (first | with_reducible apply And.intro | with_reducible intro _ | ((first | refine brB_split (fun hb => ?_) (fun hb => ?_) | refine aPickB_split (fun hb => ?_) (fun hb => ?_) | refine gB_split (fun hb => ?_) (fun hb => ?_) | refine adB_split (fun hb => ?_) (fun hb => ?_)) <;> simp -implicitDefEqProofs only [hb, go_sem, h106, c106, h108, c108, ap_enc, ap_dec, AFn0_dec, AFn0_enc, Bool.not_true, Bool.not_false, ty135, lv27, AFStr_d0, AFStr_e0, AFAd_d0, AFAd_e0, AFIm_d0, AFIm_e0, AFRc_d0, AFRc_e0, FIm_num, FRc_who, Nat.reduceAdd, Nat.reduceMul, Nat.reduceLeDiff, Nat.reduceEqDiff, reduceCtorEq, Nat.reduceSub, Int.reduceNeg, Nat.reduceMod, Nat.reduceBEq, Nat.reduceLT] <;> try simp only [qa, qb, qc, qd, qe, qf, qg, bOf_t, bOf_f] at hb))
    all_goals first | rfl | omega | exact trivial | (simp; done) | skip
  · have hi' : ¬ ixP (fun x : Im => x.id = n) 0 s.items < 0 := hi
    obtain ⟨hi0, hi1⟩ := atIm_lt hi
    have hi0' : 0 ≤ ixP (fun x : Im => x.id = n) 0 s.items := hi0
    have hi1' : ixP (fun x : Im => x.id = n) 0 s.items < s.items.length := hi1
    rw [findR_y hi]
    simp -implicitDefEqProofs only [Tryz.f74, hi', decide_false, go_sem, h106, c106, h108, c108, ap_enc, ap_dec, AFn0_dec, AFn0_enc, Bool.not_true, Bool.not_false, ty135, lv27, AFStr_d0, AFStr_e0, AFAd_d0, AFAd_e0, AFIm_d0, AFIm_e0, AFRc_d0, AFRc_e0, FIm_num, FRc_who, Nat.reduceAdd, Nat.reduceMul, Nat.reduceLeDiff, Nat.reduceEqDiff, reduceCtorEq, Nat.reduceSub, Int.reduceNeg, Nat.reduceMod, Nat.reduceBEq, Nat.reduceLT]
    repeat' (first | with_reducible apply And.intro | with_reducible intro _ | ((first | refine brB_split (fun hb => ?_) (fun hb => ?_) | refine aPickB_split (fun hb => ?_) (fun hb => ?_) | refine gB_split (fun hb => ?_) (fun hb => ?_) | refine adB_split (fun hb => ?_) (fun hb => ?_)) <;> simp -implicitDefEqProofs only [hb, go_sem, h106, c106, h108, c108, ap_enc, ap_dec, AFn0_dec, AFn0_enc, Bool.not_true, Bool.not_false, ty135, lv27, AFStr_d0, AFStr_e0, AFAd_d0, AFAd_e0, AFIm_d0, AFIm_e0, AFRc_d0, AFRc_e0, FIm_num, FRc_who, Nat.reduceAdd, Nat.reduceMul, Nat.reduceLeDiff, Nat.reduceEqDiff, reduceCtorEq, Nat.reduceSub, Int.reduceNeg, Nat.reduceMod, Nat.reduceBEq, Nat.reduceLT] <;> try simp only [qa, qb, qc, qd, qe, qf, qg, bOf_t, bOf_f] at hb))
    all_goals first | rfl | omega | exact trivial | (simp; done) | skip
    all_goals trace_state

def c77 : Ct := ctR (lc AInt l0) (fun p => True) (fun p => .t (.v (.int .i64 (if 1 ≤ p.1 ∧ p.1 ≤ 4 then pau p.1 else -1))))
theorem good77 {G : Gt} (hG : OkG G) (h40 : G.e 40 = roEnt 0 c40) : Gd G 77 (roEnt 0 c77) := by
  refine gR (dp := fun _ => true) (fn := Tryz.f77) (n := 1) (fun _ => rfl) (by kernel_rfl) rfl (by kernel_rfl) hG (Nat.le_of_ble_eq_true rfl) (by kernel_rfl) (by decide) (fun _ _ => .v _) ?_
  rintro ⟨t, ⟨⟩⟩ hpre


  dsimp only
  have bt0 : True := trivial
  simp -implicitDefEqProofs only [Tryz.f77, go_sem, h40, c40, bOf_t, bOf_f, Nat.reduceAdd, Nat.reduceMul, Nat.reduceLeDiff, Nat.reduceEqDiff, reduceCtorEq, Nat.reduceSub, Int.reduceNeg, Nat.reduceMod, Nat.reduceBEq, Nat.reduceLT]
  repeat' (first | with_reducible apply And.intro | with_reducible intro _ | ((first | refine brB_split (fun hb => ?_) (fun hb => ?_) | refine aPickB_split (fun hb => ?_) (fun hb => ?_) | refine gB_split (fun hb => ?_) (fun hb => ?_) | refine adB_split (fun hb => ?_) (fun hb => ?_)) <;> simp -implicitDefEqProofs only [hb, go_sem, h40, c40, bOf_t, bOf_f, Nat.reduceAdd, Nat.reduceMul, Nat.reduceLeDiff, Nat.reduceEqDiff, reduceCtorEq, Nat.reduceSub, Int.reduceNeg, Nat.reduceMod, Nat.reduceBEq, Nat.reduceLT] <;> try simp only [qa, qb, qc, qd, qe, qf, qg, bOf_t, bOf_f] at hb))
  all_goals first
    | rfl
    | omega
    | (rw [if_neg (by assumption)]; done)
    | (rw [if_pos (by assumption)]; rfl)
    | (obtain ⟨hp0, hp1⟩ := pau_le (t := t) (m := 3) (by omega)
       have h8 : (2 : Int) * 2 ^ 3 = 16 := by decide
       have e : (2 : Int) * 2 ^ (t - 1).toNat = pau t := rfl
       omega)
    | trace_state

def c31 : Ct := ctR (lc ESp.ag l0) (fun p => OkSp p.1) (fun p => owSp p.1)
set_option maxHeartbeats 1600000 in
theorem good31 {G : Gt} (hG : OkG G) (h73 : G.e 73 = roEnt 0 c73) (h59 : G.e 59 = roEnt 0 c59) : Gd G 31 (roEnt 0 c31) := by
  refine gR (dp := fun _ => true) (fn := Tryz.f31) (n := 1) (fun _ => rfl) (by kernel_rfl) rfl (by kernel_rfl) hG (Nat.le_of_ble_eq_true rfl) (by kernel_rfl) (by decide) (fun _ p => owSp_solid _) ?_
  rintro ⟨s, ⟨⟩⟩ hpre
  simp -implicitDefEqProofs only [Tryz.f31, go_sem, h73, c73, h59, c59, List.length_map, List.length_append, List.length_cons, List.length_nil, List.map_append, List.mem_singleton, forall_eq, AS.nilb, AS.renb, Bool.not_false, Bool.not_true, List.set_cons_zero, List.set_cons_succ, List.set_nil, Nat.reduceAdd, Nat.reduceMul, Nat.reduceLeDiff, Nat.reduceEqDiff, reduceCtorEq, Nat.reduceSub, Int.reduceNeg, Nat.reduceMod, Nat.reduceBEq, Nat.reduceLT] at hpre ⊢

  have hok' : OkL OkIm s.items := hpre
  have hmx := hok'.1
  repeat' (first | with_reducible apply And.intro | with_reducible intro _ | ((first | refine brB_split (fun hb => ?_) (fun hb => ?_) | refine aPickB_split (fun hb => ?_) (fun hb => ?_) | refine gB_split (fun hb => ?_) (fun hb => ?_) | refine adB_split (fun hb => ?_) (fun hb => ?_)) <;> simp -implicitDefEqProofs only [hb, go_sem, h73, c73, h59, c59, List.length_map, List.length_append, List.length_cons, List.length_nil, List.map_append, List.mem_singleton, forall_eq, AS.nilb, AS.renb, Bool.not_false, Bool.not_true, List.set_cons_zero, List.set_cons_succ, List.set_nil, Nat.reduceAdd, Nat.reduceMul, Nat.reduceLeDiff, Nat.reduceEqDiff, reduceCtorEq, Nat.reduceSub, Int.reduceNeg, Nat.reduceMod, Nat.reduceBEq, Nat.reduceLT] <;> try simp only [qa, qb, qc, qd, qe, qf, qg, bOf_t, bOf_f] at hb))
  all_goals first | rfl | skip
  refine run_loop [(3, 1903, true, 5)] (ι := {i : Nat // i ≤ s.items.length}) (fun p => ⟨[(1, .pb 1001 0), (2, .pb 1002 0), (3, .h 1903), (7, .t (.sl 5 (s.items.map encIm))), (8, .t (.v (.int .i64 s.items.length))), (9, .t (.v (.int .i64 p.1)))], [(1001, some (.box ((encSp s).map .t))), (1002, some (.box [.t (.v (.int .i64 0)), .nil])), (1903, some (.arr true 5 ((s.items.take p.1).map encIm)))]⟩) (fun p => s.items.length - p.1) ⟨0, by simp⟩ rfl ?_ ?_
  · simp -implicitDefEqProofs only [go_sem, h73, c73, h59, c59, List.length_map, List.length_append, List.length_cons, List.length_nil, List.map_append, List.mem_singleton, forall_eq, AS.nilb, AS.renb, Bool.not_false, Bool.not_true, List.set_cons_zero, List.set_cons_succ, List.set_nil, Nat.reduceAdd, Nat.reduceMul, Nat.reduceLeDiff, Nat.reduceEqDiff, reduceCtorEq, Nat.reduceSub, Int.reduceNeg, Nat.reduceMod, Nat.reduceBEq, Nat.reduceLT]
    simp
  · rintro ⟨i, hi⟩
    by_cases hlt : (i : Int) < s.items.length
    · have hok := hok'.at (i := i) (by omega)
      obtain ⟨_, ⟨hl1, _⟩, ⟨hl2, _⟩⟩ := hok
      have hlen : (s.items.take i).length = i := by simp; omega
      simp -implicitDefEqProofs only [hlt, decide_true, Int.toNat_natCast, go_sem, h73, c73, h59, c59, List.length_map, List.length_append, List.length_cons, List.length_nil, List.map_append, List.mem_singleton, forall_eq, AS.nilb, AS.renb, Bool.not_false, Bool.not_true, List.set_cons_zero, List.set_cons_succ, List.set_nil, Nat.reduceAdd, Nat.reduceMul, Nat.reduceLeDiff, Nat.reduceEqDiff, reduceCtorEq, Nat.reduceSub, Int.reduceNeg, Nat.reduceMod, Nat.reduceBEq, Nat.reduceLT]
      repeat' (first | with_reducible apply And.intro | with_reducible intro _ | ((first | refine brB_split (fun hb => ?_) (fun hb => ?_) | refine aPickB_split (fun hb => ?_) (fun hb => ?_) | refine gB_split (fun hb => ?_) (fun hb => ?_) | refine adB_split (fun hb => ?_) (fun hb => ?_)) <;> simp -implicitDefEqProofs only [hb, go_sem, h73, c73, h59, c59, List.length_map, List.length_append, List.length_cons, List.length_nil, List.map_append, List.mem_singleton, forall_eq, AS.nilb, AS.renb, Bool.not_false, Bool.not_true, List.set_cons_zero, List.set_cons_succ, List.set_nil, Nat.reduceAdd, Nat.reduceMul, Nat.reduceLeDiff, Nat.reduceEqDiff, reduceCtorEq, Nat.reduceSub, Int.reduceNeg, Nat.reduceMod, Nat.reduceBEq, Nat.reduceLT] <;> try simp only [qa, qb, qc, qd, qe, qf, qg, bOf_t, bOf_f] at hb))
      all_goals (try simp only [maxLen] at *)
      all_goals first | rfl | omega | assumption | decide | skip
      refine ⟨⟨i + 1, by omega⟩, by dsimp only; omega, ?_⟩
      simp -implicitDefEqProofs only [go_sem, h73, c73, h59, c59, List.length_map, List.length_append, List.length_cons, List.length_nil, List.map_append, List.mem_singleton, forall_eq, AS.nilb, AS.renb, Bool.not_false, Bool.not_true, List.set_cons_zero, List.set_cons_succ, List.set_nil, Nat.reduceAdd, Nat.reduceMul, Nat.reduceLeDiff, Nat.reduceEqDiff, reduceCtorEq, Nat.reduceSub, Int.reduceNeg, Nat.reduceMod, Nat.reduceBEq, Nat.reduceLT]
      simp only [take_snoc_map encIm (show i < s.items.length by omega)]
      repeat' (first | with_reducible apply And.intro | with_reducible intro _ | ((first | refine brB_split (fun hb => ?_) (fun hb => ?_) | refine aPickB_split (fun hb => ?_) (fun hb => ?_) | refine gB_split (fun hb => ?_) (fun hb => ?_) | refine adB_split (fun hb => ?_) (fun hb => ?_)) <;> simp -implicitDefEqProofs only [hb, go_sem, h73, c73, h59, c59, List.length_map, List.length_append, List.length_cons, List.length_nil, List.map_append, List.mem_singleton, forall_eq, AS.nilb, AS.renb, Bool.not_false, Bool.not_true, List.set_cons_zero, List.set_cons_succ, List.set_nil, Nat.reduceAdd, Nat.reduceMul, Nat.reduceLeDiff, Nat.reduceEqDiff, reduceCtorEq, Nat.reduceSub, Int.reduceNeg, Nat.reduceMod, Nat.reduceBEq, Nat.reduceLT] <;> try simp only [qa, qb, qc, qd, qe, qf, qg, bOf_t, bOf_f] at hb))
      all_goals first | rfl | (simp; done) | trace_state
    · simp -implicitDefEqProofs only [hlt, decide_false, go_sem, h73, c73, h59, c59, List.length_map, List.length_append, List.length_cons, List.length_nil, List.map_append, List.mem_singleton, forall_eq, AS.nilb, AS.renb, Bool.not_false, Bool.not_true, List.set_cons_zero, List.set_cons_succ, List.set_nil, Nat.reduceAdd, Nat.reduceMul, Nat.reduceLeDiff, Nat.reduceEqDiff, reduceCtorEq, Nat.reduceSub, Int.reduceNeg, Nat.reduceMod, Nat.reduceBEq, Nat.reduceLT]
      repeat' (first | with_reducible apply And.intro | with_reducible intro _ | ((first | refine brB_split (fun hb => ?_) (fun hb => ?_) | refine aPickB_split (fun hb => ?_) (fun hb => ?_) | refine gB_split (fun hb => ?_) (fun hb => ?_) | refine adB_split (fun hb => ?_) (fun hb => ?_)) <;> simp -implicitDefEqProofs only [hb, go_sem, h73, c73, h59, c59, List.length_map, List.length_append, List.length_cons, List.length_nil, List.map_append, List.mem_singleton, forall_eq, AS.nilb, AS.renb, Bool.not_false, Bool.not_true, List.set_cons_zero, List.set_cons_succ, List.set_nil, Nat.reduceAdd, Nat.reduceMul, Nat.reduceLeDiff, Nat.reduceEqDiff, reduceCtorEq, Nat.reduceSub, Int.reduceNeg, Nat.reduceMod, Nat.reduceBEq, Nat.reduceLT] <;> try simp only [qa, qb, qc, qd, qe, qf, qg, bOf_t, bOf_f] at hb))
      all_goals (try simp only [maxLen] at *)
      all_goals first | rfl | omega | assumption | decide | skip
      rw [List.take_of_length_le (by omega)]


theorem findR_yn {s : Sp} {n : Int} {a : Ad} {ni nk : Nat} (h : atIm s n = ni) (ht : theIm s n = s.items.getD ni default) (hk : atRc (theIm s n) a = nk) : findR s n a = .tup [.t (.v (.int .i64 ni)), .t (.v (.int .i64 nk)), .t (.v (.bool true))] := by
  rw [findR_y (by omega), h, hk, decide_eq_true (by omega : (nk : Int) ≥ 0)]

theorem set_self {α : Type} [Inhabited α] {xs : List α} {i : Nat} (h : i < xs.length) : xs.set i (xs.getD i default) = xs := by
  rw [List.getD_eq_getElem?_getD, List.getElem?_eq_getElem h, Option.getD_some, List.set_getElem_self]
theorem same_Im {xs : List Im} {i : Nat} (h : i < xs.length) : (xs.map encIm).set i [.v (.int .i64 (xs.getD i default).id), .v (.string (xs.getD i default).frm.user), .v (.string (xs.getD i default).frm.domain), .sl 4 ((xs.getD i default).to.map encRc), .sl 1 ((xs.getD i default).body.map encStr)] = xs.map encIm := by
  rw [set_Im]
  exact congrArg (List.map encIm) (set_self h)
def c33 : Ct := ctR (lc ESp.ag (lc AInt (lc EAd.ag (lc AInt l0)))) (fun p => OkSp p.1) (fun p => owSB (SLater p.1 p.2.1 p.2.2.1 p.2.2.2.1))
set_option maxHeartbeats 3200000 in
theorem good33 {G : Gt} (hG : OkG G) (h10 : G.e 10 = roEnt 0 c10) (h31 : G.e 31 = roEnt 0 c31) (h74 : G.e 74 = roEnt 0 c74) (h44 : G.e 44 = roEnt 0 c44) (h77 : G.e 77 = roEnt 0 c77) : Gd G 33 (roEnt 0 c33) := by
  refine gR (dp := fun n => !(Nat.beq n 100007 || Nat.beq n 100010 || Nat.beq n 100012)) (fn := Tryz.f33) (n := 4) (fun _ => rfl) (by kernel_rfl) rfl (by kernel_rfl) hG (Nat.le_of_ble_eq_true rfl) (by kernel_rfl) (by decide) (fun _ p => owSB_solid _) ?_
  rintro ⟨s, n, a, w, ⟨⟩⟩ hpre


  have hok' : OkL OkIm s.items := hpre
  have hmx := hok'.1
  dsimp only at hpre ⊢
  by_cases h : SpOk s
  · have b1 := bOf_y h
    by_cases hi : atIm s n < 0
    · rw [SLater_i h hi]
      simp -implicitDefEqProofs only [Tryz.f33, b1, findR_n hi, go_sem, h10, c10, h31, c31, h74, c74, h44, c44, h77, c77, List.length_map, List.length_set, Int.toNat_natCast, aCell_map, aSet_map, owSB, AS.opn, AS.cls, AS.nilb, AS.renb, Bool.not_false, Bool.not_true, List.set_set, List.set_cons_zero, List.set_cons_succ, List.set_nil, List.mem_singleton, forall_eq, Nat.reduceAdd, Nat.reduceMul, Nat.reduceLeDiff, Nat.reduceEqDiff, reduceCtorEq, Nat.reduceSub, Int.reduceNeg, Nat.reduceMod, Nat.reduceBEq, Nat.reduceLT]
      repeat' (first | with_reducible apply And.intro | with_reducible intro _ | ((first | refine brB_split (fun hb => ?_) (fun hb => ?_) | refine aPickB_split (fun hb => ?_) (fun hb => ?_) | refine gB_split (fun hb => ?_) (fun hb => ?_) | refine adB_split (fun hb => ?_) (fun hb => ?_)) <;> simp -implicitDefEqProofs only [hb, go_sem, h10, c10, h31, c31, h74, c74, h44, c44, h77, c77, List.length_map, List.length_set, Int.toNat_natCast, aCell_map, aSet_map, owSB, AS.opn, AS.cls, AS.nilb, AS.renb, Bool.not_false, Bool.not_true, List.set_set, List.set_cons_zero, List.set_cons_succ, List.set_nil, List.mem_singleton, forall_eq, Nat.reduceAdd, Nat.reduceMul, Nat.reduceLeDiff, Nat.reduceEqDiff, reduceCtorEq, Nat.reduceSub, Int.reduceNeg, Nat.reduceMod, Nat.reduceBEq, Nat.reduceLT] <;> try simp only [qa, qb, qc, qd, qe, qf, qg, bOf_t, bOf_f] at hb))
      all_goals first | rfl | omega | assumption | decide | skip
      all_goals trace_state
    · by_cases hw : 0 ≤ w ∧ w ≤ 9999
      · have bw := bOf_y hw
        by_cases hk : atRc (theIm s n) a < 0
        · have hk' : ¬ atRc (theIm s n) a ≥ 0 := by omega
          rw [SLater_k h hi hw hk]
          simp -implicitDefEqProofs only [Tryz.f33, b1, bw, findR_y hi, hk', decide_false, go_sem, h10, c10, h31, c31, h74, c74, h44, c44, h77, c77, List.length_map, List.length_set, Int.toNat_natCast, aCell_map, aSet_map, owSB, AS.opn, AS.cls, AS.nilb, AS.renb, Bool.not_false, Bool.not_true, List.set_set, List.set_cons_zero, List.set_cons_succ, List.set_nil, List.mem_singleton, forall_eq, Nat.reduceAdd, Nat.reduceMul, Nat.reduceLeDiff, Nat.reduceEqDiff, reduceCtorEq, Nat.reduceSub, Int.reduceNeg, Nat.reduceMod, Nat.reduceBEq, Nat.reduceLT]
          repeat' (first | with_reducible apply And.intro | with_reducible intro _ | ((first | refine brB_split (fun hb => ?_) (fun hb => ?_) | refine aPickB_split (fun hb => ?_) (fun hb => ?_) | refine gB_split (fun hb => ?_) (fun hb => ?_) | refine adB_split (fun hb => ?_) (fun hb => ?_)) <;> simp -implicitDefEqProofs only [hb, go_sem, h10, c10, h31, c31, h74, c74, h44, c44, h77, c77, List.length_map, List.length_set, Int.toNat_natCast, aCell_map, aSet_map, owSB, AS.opn, AS.cls, AS.nilb, AS.renb, Bool.not_false, Bool.not_true, List.set_set, List.set_cons_zero, List.set_cons_succ, List.set_nil, List.mem_singleton, forall_eq, Nat.reduceAdd, Nat.reduceMul, Nat.reduceLeDiff, Nat.reduceEqDiff, reduceCtorEq, Nat.reduceSub, Int.reduceNeg, Nat.reduceMod, Nat.reduceBEq, Nat.reduceLT] <;> try simp only [qa, qb, qc, qd, qe, qf, qg, bOf_t, bOf_f] at hb))
          all_goals first | rfl | omega | assumption | decide | skip
          all_goals trace_state
        · obtain ⟨hi0, hi1⟩ := atIm_lt hi
          obtain ⟨hk0, hk1⟩ := atRc_lt hk
          obtain ⟨ni, hni⟩ := Int.eq_ofNat_of_zero_le hi0
          obtain ⟨nk, hnk⟩ := Int.eq_ofNat_of_zero_le hk0
          have hth : theIm s n = s.items.getD ni default := by unfold theIm; rw [hni, Int.toNat_natCast]
          have hf := findR_yn hni hth hnk
          rw [SLater_y h hi hw hk, hni, hnk, Int.toNat_natCast, Int.toNat_natCast]
          rw [hni] at hi1
          rw [hnk, hth] at hk1
          have hx := hok'.at (i := ni) (by omega)
          have hmx2 : ((s.items.getD ni default).to.length : Int) ≤ 1048576 := hx.2.1.1
          have hi2 : ni < s.items.length := by omega
          have hk2 : nk < (s.items.getD ni default).to.length := by omega
          have hi3 : ni < (s.items.map encIm).length := by rw [List.length_map]; exact hi2
          have hk3 : nk < ((s.items.getD ni default).to.map encRc).length := by rw [List.length_map]; exact hk2
          have hr := (h.1 _ (getD_mem hi2)).1.1 _ (getD_mem hk2)
          obtain ⟨_, ⟨ht0, ht1⟩, _⟩ := hr
          obtain ⟨hp0, hp1⟩ := pau_le (t := ((s.items.getD ni default).to.getD nk default).tries + 1) (m := 3) (by omega)
          have h8 : (2 : Int) * 2 ^ 3 = 16 := by decide
          have hpau : (if 1 ≤ ((s.items.getD ni default).to.getD nk default).tries + 1 ∧ ((s.items.getD ni default).to.getD nk default).tries + 1 ≤ 4 then pau (((s.items.getD ni default).to.getD nk default).tries + 1) else -1) = pau (((s.items.getD ni default).to.getD nk default).tries + 1) := if_pos (by omega)
          have hw0 := hw.1
          have hw1 := hw.2
          simp -implicitDefEqProofs only [Tryz.f33, b1, bw, hf, go_sem, h10, c10, h31, c31, h74, c74, h44, c44, h77, c77, List.length_map, List.length_set, Int.toNat_natCast, aCell_map, aSet_map, owSB, AS.opn, AS.cls, AS.nilb, AS.renb, Bool.not_false, Bool.not_true, List.set_set, List.set_cons_zero, List.set_cons_succ, List.set_nil, List.mem_singleton, forall_eq, Nat.reduceAdd, Nat.reduceMul, Nat.reduceLeDiff, Nat.reduceEqDiff, reduceCtorEq, Nat.reduceSub, Int.reduceNeg, Nat.reduceMod, Nat.reduceBEq, Nat.reduceLT]
          repeat' (first | with_reducible apply And.intro | with_reducible intro _ | ((first | refine brB_split (fun hb => ?_) (fun hb => ?_) | refine aPickB_split (fun hb => ?_) (fun hb => ?_) | refine gB_split (fun hb => ?_) (fun hb => ?_) | refine adB_split (fun hb => ?_) (fun hb => ?_)) <;> simp -implicitDefEqProofs only [hb, go_sem, h10, c10, h31, c31, h74, c74, h44, c44, h77, c77, List.length_map, List.length_set, Int.toNat_natCast, aCell_map, aSet_map, owSB, AS.opn, AS.cls, AS.nilb, AS.renb, Bool.not_false, Bool.not_true, List.set_set, List.set_cons_zero, List.set_cons_succ, List.set_nil, List.mem_singleton, forall_eq, Nat.reduceAdd, Nat.reduceMul, Nat.reduceLeDiff, Nat.reduceEqDiff, reduceCtorEq, Nat.reduceSub, Int.reduceNeg, Nat.reduceMod, Nat.reduceBEq, Nat.reduceLT] <;> try simp only [qa, qb, qc, qd, qe, qf, qg, bOf_t, bOf_f] at hb))
          all_goals first | rfl | omega | assumption | decide | skip
          refine run_open 1021 1901 2901 ni 3 rfl (map_get encIm hi2) rfl rfl fun x => run_go ?_
          by_cases hA : ((s.items.getD ni default).to.getD nk default).tries + 1 = 4
          · unfold SLat
            rw [if_pos (.inl (by omega))]
            have hpau4 : (if (1 : Int) ≤ 4 ∧ (4 : Int) ≤ 4 then pau 4 else -1) = pau 4 := if_pos (by decide)
            rw [hA] at hp0 hp1
            simp -implicitDefEqProofs only [hA, decide_true, hpau4, aCell_set hi3, go_sem, h10, c10, h31, c31, h74, c74, h44, c44, h77, c77, List.length_map, List.length_set, Int.toNat_natCast, aCell_map, aSet_map, owSB, AS.opn, AS.cls, AS.nilb, AS.renb, Bool.not_false, Bool.not_true, List.set_set, List.set_cons_zero, List.set_cons_succ, List.set_nil, List.mem_singleton, forall_eq, Nat.reduceAdd, Nat.reduceMul, Nat.reduceLeDiff, Nat.reduceEqDiff, reduceCtorEq, Nat.reduceSub, Int.reduceNeg, Nat.reduceMod, Nat.reduceBEq, Nat.reduceLT]
            repeat' (first | with_reducible apply And.intro | with_reducible intro _ | ((first | refine brB_split (fun hb => ?_) (fun hb => ?_) | refine aPickB_split (fun hb => ?_) (fun hb => ?_) | refine gB_split (fun hb => ?_) (fun hb => ?_) | refine adB_split (fun hb => ?_) (fun hb => ?_)) <;> simp -implicitDefEqProofs only [hb, go_sem, h10, c10, h31, c31, h74, c74, h44, c44, h77, c77, List.length_map, List.length_set, Int.toNat_natCast, aCell_map, aSet_map, owSB, AS.opn, AS.cls, AS.nilb, AS.renb, Bool.not_false, Bool.not_true, List.set_set, List.set_cons_zero, List.set_cons_succ, List.set_nil, List.mem_singleton, forall_eq, Nat.reduceAdd, Nat.reduceMul, Nat.reduceLeDiff, Nat.reduceEqDiff, reduceCtorEq, Nat.reduceSub, Int.reduceNeg, Nat.reduceMod, Nat.reduceBEq, Nat.reduceLT] <;> try simp only [qa, qb, qc, qd, qe, qf, qg, bOf_t, bOf_f] at hb))
            all_goals first | rfl | omega | assumption | decide | skip
            refine run_close 1021 1901 2901 ni 3 rfl (set_get hi3 _) rfl rfl rfl rfl (run_go ?_)
            simp -implicitDefEqProofs only [go_sem, h10, c10, h31, c31, h74, c74, h44, c44, h77, c77, List.length_map, List.length_set, Int.toNat_natCast, aCell_map, aSet_map, owSB, AS.opn, AS.cls, AS.nilb, AS.renb, Bool.not_false, Bool.not_true, List.set_set, List.set_cons_zero, List.set_cons_succ, List.set_nil, List.mem_singleton, forall_eq, Nat.reduceAdd, Nat.reduceMul, Nat.reduceLeDiff, Nat.reduceEqDiff, reduceCtorEq, Nat.reduceSub, Int.reduceNeg, Nat.reduceMod, Nat.reduceBEq, Nat.reduceLT]
            repeat' (first | with_reducible apply And.intro | with_reducible intro _ | ((first | refine brB_split (fun hb => ?_) (fun hb => ?_) | refine aPickB_split (fun hb => ?_) (fun hb => ?_) | refine gB_split (fun hb => ?_) (fun hb => ?_) | refine adB_split (fun hb => ?_) (fun hb => ?_)) <;> simp -implicitDefEqProofs only [hb, go_sem, h10, c10, h31, c31, h74, c74, h44, c44, h77, c77, List.length_map, List.length_set, Int.toNat_natCast, aCell_map, aSet_map, owSB, AS.opn, AS.cls, AS.nilb, AS.renb, Bool.not_false, Bool.not_true, List.set_set, List.set_cons_zero, List.set_cons_succ, List.set_nil, List.mem_singleton, forall_eq, Nat.reduceAdd, Nat.reduceMul, Nat.reduceLeDiff, Nat.reduceEqDiff, reduceCtorEq, Nat.reduceSub, Int.reduceNeg, Nat.reduceMod, Nat.reduceBEq, Nat.reduceLT] <;> try simp only [qa, qb, qc, qd, qe, qf, qg, bOf_t, bOf_f] at hb))
            all_goals first | rfl | omega | assumption | decide | skip
            exact same_Im hi2
          · by_cases hB : w + pau (((s.items.getD ni default).to.getD nk default).tries + 1) > 9999
            · unfold SLat
              rw [if_pos (.inr hB)]
              simp -implicitDefEqProofs only [hA, hB, decide_true, decide_false, hpau, aCell_set hi3, go_sem, h10, c10, h31, c31, h74, c74, h44, c44, h77, c77, List.length_map, List.length_set, Int.toNat_natCast, aCell_map, aSet_map, owSB, AS.opn, AS.cls, AS.nilb, AS.renb, Bool.not_false, Bool.not_true, List.set_set, List.set_cons_zero, List.set_cons_succ, List.set_nil, List.mem_singleton, forall_eq, Nat.reduceAdd, Nat.reduceMul, Nat.reduceLeDiff, Nat.reduceEqDiff, reduceCtorEq, Nat.reduceSub, Int.reduceNeg, Nat.reduceMod, Nat.reduceBEq, Nat.reduceLT]
              repeat' (first | with_reducible apply And.intro | with_reducible intro _ | ((first | refine brB_split (fun hb => ?_) (fun hb => ?_) | refine aPickB_split (fun hb => ?_) (fun hb => ?_) | refine gB_split (fun hb => ?_) (fun hb => ?_) | refine adB_split (fun hb => ?_) (fun hb => ?_)) <;> simp -implicitDefEqProofs only [hb, go_sem, h10, c10, h31, c31, h74, c74, h44, c44, h77, c77, List.length_map, List.length_set, Int.toNat_natCast, aCell_map, aSet_map, owSB, AS.opn, AS.cls, AS.nilb, AS.renb, Bool.not_false, Bool.not_true, List.set_set, List.set_cons_zero, List.set_cons_succ, List.set_nil, List.mem_singleton, forall_eq, Nat.reduceAdd, Nat.reduceMul, Nat.reduceLeDiff, Nat.reduceEqDiff, reduceCtorEq, Nat.reduceSub, Int.reduceNeg, Nat.reduceMod, Nat.reduceBEq, Nat.reduceLT] <;> try simp only [qa, qb, qc, qd, qe, qf, qg, bOf_t, bOf_f] at hb))
              all_goals first | rfl | omega | assumption | decide | contradiction | skip
              refine run_close 1021 1901 2901 ni 3 rfl (set_get hi3 _) rfl rfl rfl rfl (run_go ?_)
              simp -implicitDefEqProofs only [go_sem, h10, c10, h31, c31, h74, c74, h44, c44, h77, c77, List.length_map, List.length_set, Int.toNat_natCast, aCell_map, aSet_map, owSB, AS.opn, AS.cls, AS.nilb, AS.renb, Bool.not_false, Bool.not_true, List.set_set, List.set_cons_zero, List.set_cons_succ, List.set_nil, List.mem_singleton, forall_eq, Nat.reduceAdd, Nat.reduceMul, Nat.reduceLeDiff, Nat.reduceEqDiff, reduceCtorEq, Nat.reduceSub, Int.reduceNeg, Nat.reduceMod, Nat.reduceBEq, Nat.reduceLT]
              repeat' (first | with_reducible apply And.intro | with_reducible intro _ | ((first | refine brB_split (fun hb => ?_) (fun hb => ?_) | refine aPickB_split (fun hb => ?_) (fun hb => ?_) | refine gB_split (fun hb => ?_) (fun hb => ?_) | refine adB_split (fun hb => ?_) (fun hb => ?_)) <;> simp -implicitDefEqProofs only [hb, go_sem, h10, c10, h31, c31, h74, c74, h44, c44, h77, c77, List.length_map, List.length_set, Int.toNat_natCast, aCell_map, aSet_map, owSB, AS.opn, AS.cls, AS.nilb, AS.renb, Bool.not_false, Bool.not_true, List.set_set, List.set_cons_zero, List.set_cons_succ, List.set_nil, List.mem_singleton, forall_eq, Nat.reduceAdd, Nat.reduceMul, Nat.reduceLeDiff, Nat.reduceEqDiff, reduceCtorEq, Nat.reduceSub, Int.reduceNeg, Nat.reduceMod, Nat.reduceBEq, Nat.reduceLT] <;> try simp only [qa, qb, qc, qd, qe, qf, qg, bOf_t, bOf_f] at hb))
              all_goals first | rfl | omega | assumption | decide | skip
              exact same_Im hi2
            · unfold SLat
              rw [if_neg (fun q => q.elim (by omega) hB)]
              simp -implicitDefEqProofs only [hA, hB, decide_false, hpau, aCell_set hi3, aCell_set hk3, aSet_set hk3, go_sem, h10, c10, h31, c31, h74, c74, h44, c44, h77, c77, List.length_map, List.length_set, Int.toNat_natCast, aCell_map, aSet_map, owSB, AS.opn, AS.cls, AS.nilb, AS.renb, Bool.not_false, Bool.not_true, List.set_set, List.set_cons_zero, List.set_cons_succ, List.set_nil, List.mem_singleton, forall_eq, Nat.reduceAdd, Nat.reduceMul, Nat.reduceLeDiff, Nat.reduceEqDiff, reduceCtorEq, Nat.reduceSub, Int.reduceNeg, Nat.reduceMod, Nat.reduceBEq, Nat.reduceLT]
              repeat' (first | with_reducible apply And.intro | with_reducible intro _ | ((first | refine brB_split (fun hb => ?_) (fun hb => ?_) | refine aPickB_split (fun hb => ?_) (fun hb => ?_) | refine gB_split (fun hb => ?_) (fun hb => ?_) | refine adB_split (fun hb => ?_) (fun hb => ?_)) <;> simp -implicitDefEqProofs only [hb, go_sem, h10, c10, h31, c31, h74, c74, h44, c44, h77, c77, List.length_map, List.length_set, Int.toNat_natCast, aCell_map, aSet_map, owSB, AS.opn, AS.cls, AS.nilb, AS.renb, Bool.not_false, Bool.not_true, List.set_set, List.set_cons_zero, List.set_cons_succ, List.set_nil, List.mem_singleton, forall_eq, Nat.reduceAdd, Nat.reduceMul, Nat.reduceLeDiff, Nat.reduceEqDiff, reduceCtorEq, Nat.reduceSub, Int.reduceNeg, Nat.reduceMod, Nat.reduceBEq, Nat.reduceLT] <;> try simp only [qa, qb, qc, qd, qe, qf, qg, bOf_t, bOf_f] at hb))
              all_goals first | rfl | omega | assumption | decide | contradiction | skip
              refine run_close 1021 1901 2901 ni 3 rfl (set_get hi3 _) rfl rfl rfl rfl (run_go ?_)
              simp -implicitDefEqProofs only [go_sem, h10, c10, h31, c31, h74, c74, h44, c44, h77, c77, List.length_map, List.length_set, Int.toNat_natCast, aCell_map, aSet_map, owSB, AS.opn, AS.cls, AS.nilb, AS.renb, Bool.not_false, Bool.not_true, List.set_set, List.set_cons_zero, List.set_cons_succ, List.set_nil, List.mem_singleton, forall_eq, Nat.reduceAdd, Nat.reduceMul, Nat.reduceLeDiff, Nat.reduceEqDiff, reduceCtorEq, Nat.reduceSub, Int.reduceNeg, Nat.reduceMod, Nat.reduceBEq, Nat.reduceLT]
              repeat' (first | with_reducible apply And.intro | with_reducible intro _ | ((first | refine brB_split (fun hb => ?_) (fun hb => ?_) | refine aPickB_split (fun hb => ?_) (fun hb => ?_) | refine gB_split (fun hb => ?_) (fun hb => ?_) | refine adB_split (fun hb => ?_) (fun hb => ?_)) <;> simp -implicitDefEqProofs only [hb, go_sem, h10, c10, h31, c31, h74, c74, h44, c44, h77, c77, List.length_map, List.length_set, Int.toNat_natCast, aCell_map, aSet_map, owSB, AS.opn, AS.cls, AS.nilb, AS.renb, Bool.not_false, Bool.not_true, List.set_set, List.set_cons_zero, List.set_cons_succ, List.set_nil, List.mem_singleton, forall_eq, Nat.reduceAdd, Nat.reduceMul, Nat.reduceLeDiff, Nat.reduceEqDiff, reduceCtorEq, Nat.reduceSub, Int.reduceNeg, Nat.reduceMod, Nat.reduceBEq, Nat.reduceLT] <;> try simp only [qa, qb, qc, qd, qe, qf, qg, bOf_t, bOf_f] at hb))
              all_goals first | rfl | omega | assumption | decide | skip
              rw [set_Rc, set_Im]
              rfl
      · have bw := bOf_n hw
        rw [SLater_w h hi hw]
        by_cases hk : atRc (theIm s n) a ≥ 0
        all_goals
          simp -implicitDefEqProofs only [Tryz.f33, b1, bw, findR_y hi, hk, decide_true, decide_false, go_sem, h10, c10, h31, c31, h74, c74, h44, c44, h77, c77, List.length_map, List.length_set, Int.toNat_natCast, aCell_map, aSet_map, owSB, AS.opn, AS.cls, AS.nilb, AS.renb, Bool.not_false, Bool.not_true, List.set_set, List.set_cons_zero, List.set_cons_succ, List.set_nil, List.mem_singleton, forall_eq, Nat.reduceAdd, Nat.reduceMul, Nat.reduceLeDiff, Nat.reduceEqDiff, reduceCtorEq, Nat.reduceSub, Int.reduceNeg, Nat.reduceMod, Nat.reduceBEq, Nat.reduceLT]
          repeat' (first | with_reducible apply And.intro | with_reducible intro _ | ((first | refine brB_split (fun hb => ?_) (fun hb => ?_) | refine aPickB_split (fun hb => ?_) (fun hb => ?_) | refine gB_split (fun hb => ?_) (fun hb => ?_) | refine adB_split (fun hb => ?_) (fun hb => ?_)) <;> simp -implicitDefEqProofs only [hb, go_sem, h10, c10, h31, c31, h74, c74, h44, c44, h77, c77, List.length_map, List.length_set, Int.toNat_natCast, aCell_map, aSet_map, owSB, AS.opn, AS.cls, AS.nilb, AS.renb, Bool.not_false, Bool.not_true, List.set_set, List.set_cons_zero, List.set_cons_succ, List.set_nil, List.mem_singleton, forall_eq, Nat.reduceAdd, Nat.reduceMul, Nat.reduceLeDiff, Nat.reduceEqDiff, reduceCtorEq, Nat.reduceSub, Int.reduceNeg, Nat.reduceMod, Nat.reduceBEq, Nat.reduceLT] <;> try simp only [qa, qb, qc, qd, qe, qf, qg, bOf_t, bOf_f] at hb))
          all_goals first | rfl | omega | assumption | decide | skip
          all_goals trace_state
  · have b1 := bOf_n h
    rw [SLater_no h]
    simp -implicitDefEqProofs only [Tryz.f33, b1, go_sem, h10, c10, h31, c31, h74, c74, h44, c44, h77, c77, List.length_map, List.length_set, Int.toNat_natCast, aCell_map, aSet_map, owSB, AS.opn, AS.cls, AS.nilb, AS.renb, Bool.not_false, Bool.not_true, List.set_set, List.set_cons_zero, List.set_cons_succ, List.set_nil, List.mem_singleton, forall_eq, Nat.reduceAdd, Nat.reduceMul, Nat.reduceLeDiff, Nat.reduceEqDiff, reduceCtorEq, Nat.reduceSub, Int.reduceNeg, Nat.reduceMod, Nat.reduceBEq, Nat.reduceLT]
    repeat' (first | with_reducible apply And.intro | with_reducible intro _ | ((first | refine brB_split (fun hb => ?_) (fun hb => ?_) | refine aPickB_split (fun hb => ?_) (fun hb => ?_) | refine gB_split (fun hb => ?_) (fun hb => ?_) | refine adB_split (fun hb => ?_) (fun hb => ?_)) <;> simp -implicitDefEqProofs only [hb, go_sem, h10, c10, h31, c31, h74, c74, h44, c44, h77, c77, List.length_map, List.length_set, Int.toNat_natCast, aCell_map, aSet_map, owSB, AS.opn, AS.cls, AS.nilb, AS.renb, Bool.not_false, Bool.not_true, List.set_set, List.set_cons_zero, List.set_cons_succ, List.set_nil, List.mem_singleton, forall_eq, Nat.reduceAdd, Nat.reduceMul, Nat.reduceLeDiff, Nat.reduceEqDiff, reduceCtorEq, Nat.reduceSub, Int.reduceNeg, Nat.reduceMod, Nat.reduceBEq, Nat.reduceLT] <;> try simp only [qa, qb, qc, qd, qe, qf, qg, bOf_t, bOf_f] at hb))
    all_goals first | rfl | omega | assumption | decide | skip
    all_goals trace_state

end Go.V
