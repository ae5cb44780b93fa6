/- The row. No condition. -/
import Derived.Test.YtmjjljfheimjgaaGreatDoorSB
import Derived.DeepKeys4
import Derived.Lib.Bytealg
import Derived.Test.YtmjjljfheimjgaaGreatDoorSA
import Derived.ProofKit
import Derived.Carry
import Derived.WalkKit
import Derived.Test.YtmjjljfheimjgaaGreatDoorCards
import Derived.Test.YtmjjljfheimjgaaGreatDoorTie
import Derived.OpenShut
import Derived.Deep.DeepHandedRow
namespace Go.V
open Go Go.Proofs
set_option maxRecDepth 100000
set_option linter.unusedSimpArgs false
set_option linter.unusedVariables false
attribute [local go_sem] aPickB.eq_1 aPickB.eq_2 aPick.eq_1 aBox.eq_1 aBox.eq_2 aAlloc.eq_1 aAlloc.eq_2 aLoadB.eq_1 aLoadB.eq_2 aLoadB.eq_3 aLoadB.eq_4 aLoadB.eq_5 aLoadA.eq_1 aLoadA.eq_2 aLoadA.eq_3 aLoadA.eq_4 aLoadA.eq_5 aLoadP.eq_1 aLoadP.eq_2 aLoadP.eq_3 aLoad.eq_1 aLoad.eq_2 aFAx.eq_1 aFAx.eq_2 aFAx.eq_3 aFA.eq_1 aFA.eq_2 aFx.eq_1 aF.eq_1 aF.eq_2 fld.eq_1 elT.eq_1 aIdxH.eq_1 aIdxH.eq_2 aIdxH.eq_3 aIdxH.eq_4 aIdxH.eq_5 aIdxP.eq_1 aIdxP.eq_2 aIndexAddr.eq_1 aIndexAddr.eq_2 aIndexAddr.eq_3 isStr.eq_1 aIndex.eq_1 aSlStr.eq_1 aSlRo.eq_1 aSlZ.eq_1 aSlZ.eq_2 aSlice.eq_1 aSlice.eq_2 aSlice.eq_3 bnd.eq_1 bnd.eq_2 aBuildO.eq_1 aBuildO.eq_2 aBuild.eq_1 aNewArr.eq_1 aNewArr.eq_2 aBS.eq_1 aBS.eq_2 aBuildSlice.eq_1 aBuildSlice.eq_2 aMakeSlice.eq_1 appDeep.eq_1 aApp2.eq_1 aAppend.eq_1 aAppend.eq_2 aStoreB.eq_1 aStoreA.eq_1 obFlat.eq_1 aStore2.eq_1 aStore2.eq_2 aStoreP.eq_1 aStoreP.eq_2 aStore.eq_1 aStore.eq_2 isShl.eq_1 isShl.eq_2 isBool.eq_1 aBinI.eq_1 aBinI.eq_2 aBinB.eq_1 aBinB.eq_2 aEq.eq_1 aEq.eq_2 aEq.eq_3 aEq.eq_4 aEqG.eq_1 aEqG.eq_2 aBin.eq_1 aBin.eq_2 aBin.eq_3 aBin.eq_4 aUn.eq_1 aUn.eq_2 aLenO.eq_1 aLenS.eq_1 aLenS.eq_2 aLenS.eq_3 aLenT.eq_1 aLen.eq_1 aLen.eq_2 aLen.eq_3 bytesOb.eq_1 bytesOb.eq_2 bytesOf.eq_1 bytesOf.eq_2 aNums.eq_1 aNums.eq_2 isU8.eq_1 aCvI.eq_1 aCvS.eq_1 aCvB.eq_1 aCvB.eq_2 aCvT.eq_1 aConv.eq_1 aConv.eq_2 aConv.eq_3 aConv.eq_4 aExO.eq_1 aExO.eq_2 aExtract.eq_1 aNil.eq_1 aNil.eq_2 aNil.eq_3 aCallS.eq_1 aCallS.eq_2 aCallR.eq_1 aCallR.eq_2 aCallK.eq_1 aCallK.eq_2 aCallK.eq_3 aCall.eq_1 aCall.eq_2 takeO.eq_1 AS.takeV.eq_1 AS.takeV.eq_2 AS.takeV.eq_3 AS.takeV.eq_4 AS.takeV.eq_5 AS.takeV.eq_6 AS.takeV.eq_7 AV.oldM.eq_1 AV.oldM.eq_2 AV.oldM.eq_3 AV.oldM.eq_4 AV.oldM.eq_5 AV.oldM.eq_6 AV.oldM.eq_7 AV.oldM.eq_8 AV.oldM.eq_9 AV.oldM.eq_10 AV.oldM.eq_11 AV.oldML.eq_1 AV.oldML.eq_2 subL.eq_1 subL.eq_2 back.eq_1 back.eq_2 back.eq_3 back.eq_4 backL.eq_1 backI.eq_1 backI.eq_2 backI.eq_3 backI.eq_4 backIL.eq_1 aBuiltin.eq_1 aBuiltin.eq_2 aBuiltin.eq_3 aCallee.eq_1 aCallee.eq_2 aCallee.eq_3 abin.eq_1 abin.eq_2 abin.eq_3 abin.eq_4 abin.eq_5 abin.eq_6 abin.eq_7 abin.eq_8 abin.eq_9 abin.eq_10 abin.eq_11 abin.eq_12 abin.eq_13 abin.eq_14 abin.eq_15 abin.eq_17 abin.eq_18 abin.eq_19 abin.eq_20 abin.eq_21 abin.eq_22 abin.eq_23 AS.ev.eq_1 AS.ev.eq_2 AS.ev.eq_3 AS.ev.eq_4 AS.evs.eq_1 AS.evs.eq_2 AS.evp.eq_1 AS.evp.eq_2 AS.put.eq_1 AS.put.eq_2 AS.remL.eq_1 AS.remL.eq_2 AV.has.eq_1 AV.has.eq_2 AV.has.eq_3 AV.has.eq_4 AV.has.eq_5 AV.has.eq_6 AV.has.eq_7 AV.has.eq_8 AV.has.eq_9 AV.has.eq_10 AV.has.eq_11 AV.hasL.eq_1 AV.hasL.eq_2 Ob.drop.eq_1 Ob.drop.eq_2 Ob.drop.eq_3 Ob.drop.eq_4 AV.cells.eq_1 AV.cells.eq_2 AV.cells.eq_3 AV.cells.eq_4 AV.cells.eq_5 AS.snapT.eq_1 AS.snapT.eq_2 AS.snapT.eq_3 AS.snapT.eq_4 AS.snapT.eq_5 AS.snapT.eq_6 AS.snapT.eq_7 AS.snap.eq_1 AS.snap.eq_2 mapO.eq_1 mapO.eq_2 intern.eq_1 intern.eq_2 intern.eq_3 intern.eq_4 intern.eq_5 intern.eq_6 intern.eq_7 intern.eq_8 intern.eq_9 intern.eq_10 intern.eq_11 internL.eq_1 internL.eq_2 zipSl.eq_1 zipSl.eq_2 AV.ids.eq_1 AV.ids.eq_2 AV.ids.eq_3 AV.ids.eq_4 AV.ids.eq_5 AV.ids.eq_6 AV.ids.eq_7 AV.ids.eq_8 AV.ids.eq_9 AV.ids.eq_10 AV.ids.eq_11 AV.idsL.eq_1 AV.idsL.eq_2 AV.sub.eq_1 AV.sub.eq_2 AV.sub.eq_3 AV.sub.eq_4 AV.sub.eq_5 AV.sub.eq_6 AV.sub.eq_7 AV.sub.eq_8 AV.sub.eq_9 AV.sub.eq_10 AV.sub.eq_11 AV.subL.eq_1 AV.subL.eq_2 AS.frzL.eq_1 AS.frzL.eq_2 AS.absT.eq_1 AS.absT.eq_2 AS.absT.eq_4 AS.absL.eq_1 AS.absL.eq_2 AS.absOk.eq_1 AS.absOkL.eq_1 AS.absOkL.eq_2 hid.eq_1 hids.eq_1 hids.eq_2 AS.appBase.eq_1 AS.appBase.eq_2 AS.appSrc.eq_1 appFits.eq_1 appFits.eq_2 appFits.eq_3 avFill.eq_1 avFill.eq_2 avc.eq_1 avc.eq_2 avc1.eq_1 Kd.agg.eq_1 Kd.agg.eq_2 okR.eq_1 okR.eq_2 okR.eq_3 okR.eq_4 okR.eq_5 okR.eq_6 okR.eq_7 okR.eq_8 zt.eq_1 rvB.eq_1 rvP.eq_1 rvA.eq_1 rvA.eq_2 rv1.eq_1 outTO.eq_1 outT.eq_1 outT.eq_2 outT.eq_3 outTn.eq_1 outOO.eq_1 outO.eq_1 outO.eq_2 boxOf.eq_1 outP.eq_1 outP.eq_2 outP.eq_3 outP.eq_4 outP.eq_5 outP.eq_6 outP.eq_7 outP.eq_8 outPL.eq_1 outPL.eq_2 outI.eq_1 outI.eq_2 outI.eq_3 outI.eq_4 outI.eq_5 outIL.eq_1 outZ.eq_1 outZ.eq_2 outZ.eq_3 outZ.eq_4 outZ.eq_5 outZL.eq_1 finO.eq_1 finO.eq_2 fin.eq_1 fin.eq_2 fin.eq_3 cellAV.eq_1 cellAV.eq_2 numsOf.eq_1 numsOf.eq_2 aop.eq_1 aop.eq_2 aop.eq_3 aop.eq_4 aop.eq_5 aop.eq_6 aop.eq_7 aop.eq_8 aop.eq_9 aop.eq_10 aop.eq_11 aop.eq_12 aop.eq_13 aop.eq_14 aop.eq_15 aop.eq_16 aop.eq_17 aop.eq_18 aop.eq_19 aop.eq_20 aop.eq_21 aop.eq_22 aop.eq_23 aop.eq_24 aop.eq_25 aop.eq_26 tmpsOf.eq_1 tmpsOf.eq_2 tmpsOf.eq_3 tmpsOf.eq_4 tmpsOf.eq_5 AV.refs.eq_1 AV.refs.eq_2 AV.refs.eq_3 AV.refs.eq_4 AV.refs.eq_5 AV.refs.eq_6 AV.refs.eq_7 AV.refs.eq_8 AV.refs.eq_9 AV.refs.eq_10 AV.refs.eq_11 AV.refsL.eq_1 AV.refsL.eq_2 refsT.eq_1 refsT.eq_2 refsO.eq_1 refsO.eq_2 refsO.eq_3 refsO.eq_4 refsO.eq_5 refsO.eq_6 refsB.eq_1 refsB.eq_2 clos.eq_1 clos.eq_2 keepL.eq_1 keepL.eq_2 AV.hasM.eq_1 AV.hasM.eq_2 AV.hasM.eq_3 AV.hasM.eq_4 AV.hasM.eq_5 AV.hasM.eq_6 AV.hasM.eq_7 AV.hasM.eq_8 AV.hasM.eq_9 AV.hasM.eq_10 AV.hasM.eq_11 AV.hasML.eq_1 AV.hasML.eq_2 Ob.dropM.eq_1 Ob.dropM.eq_2 Ob.dropM.eq_3 Ob.dropM.eq_4 nsC.eq_1 nsC.eq_2 okGuard.eq_1 okGuard.eq_2 AS.purges.eq_1 AS.purges.eq_2 dropMB.eq_1 dropMB.eq_2 newB.eq_1 newB.eq_2 ptB.eq_1 ptB.eq_2 lookC.eq_1 lookC.eq_2 dropB.eq_1 dropB.eq_2 leS.eq_1 leS.eq_2 leT.eq_1 leT.eq_2 AS.mvs.eq_1 AS.mvs.eq_2 AS.mvA.eq_1 AS.mvA.eq_2 AS.mvB.eq_1 aSetO.eq_1 aSetO.eq_2 aSh.eq_1 aSh.eq_2 arK.eq_1 aIdxA.eq_1 aIdxA.eq_2 arT.eq_1 aSlHB.eq_1 aSlHB.eq_2 aSlHO.eq_1 aSlHZ.eq_1 aSlHZ.eq_2 isSlT.eq_1 isNilC.eq_1 aNilO.eq_1 aNilX.eq_1 aNilX.eq_2 aNilX.eq_3 aNilC.eq_1 aNilC.eq_2 aBinQ.eq_1 aBinQ.eq_2 aMin.eq_1 flT.eq_1 flT.eq_2 flT.eq_3 mpT.eq_1 aMkMap.eq_1 aMkMap.eq_2 strA.eq_1 keyMK.eq_1 keyMK.eq_2 keyMK.eq_3 mkB.eq_1 mkB.eq_2 mkB.eq_3 aMp2.eq_1 aMp1.eq_1 aMp0.eq_1 aMapU.eq_1 aLk2.eq_1 aLk2.eq_2 aLk1.eq_1 aLk0.eq_1 aLookup.eq_1 aLenMO.eq_1 aLenM.eq_1 glV.eq_1 glV.eq_2 evG.eq_1 evG.eq_2 evG.eq_3 evG.eq_4 lkHitO.eq_1 lkHitO.eq_2 lkHitO.eq_3 lkHitO.eq_4 lkHit.eq_1 lkHit.eq_2 lkF.eq_1 lkF.eq_2 lkFind.eq_1 lkFind.eq_2 lkV.eq_1 lkV.eq_2 lkV.eq_3 lkV.eq_4 lkV.eq_5 AS.lkO.eq_1 AS.lkO.eq_2 AS.lkOf.eq_1 rawT.eq_1 rawT.eq_2 rawT.eq_3 rawT.eq_4 rawT.eq_5 rawT.eq_6 rawOf.eq_1 rawOf.eq_2 rawOf.eq_3 rawOf.eq_4 rawOf.eq_5 rawOf.eq_6 rawOf.eq_7 rawOf.eq_8 rawOf.eq_9 rawOf.eq_10 rawOf.eq_11 aLkR.eq_1 aLkR.eq_2 aLk.eq_1 aLk.eq_2 KL.eq_1 lkDrop.eq_1 lkDrop.eq_2 lkParO.eq_1 lkParO.eq_2 lkParO.eq_3 lkParO.eq_4 lkPar.eq_1 lkPar.eq_2 lkI.eq_1 lkI.eq_2 lkIds.eq_1 lkIds.eq_2 adLd.eq_1 run_nil run_b run_l run_skip run_label run_seq run_cond brV_b brB_t brB_f run_block run_exit run_ret run_region runX_nil runX_c runX_c' runX_b runX_b' runX_l runX_l' exB_t exB_f run_o run_op run_opg gV_b gV_t gB_tt gB_ff gB_tf gB_ft rs_eq kv KI aLenN aBS1 aApp1 aStore1 szOk gv gd s0 idOf look_cons lookC frzU_t frzU_f orT orF drop_any drop_nil drop_t drop_h drop_pb drop_pa drop_agg drop_tup drop_fn dropB kill_eq set_eq rem_eq re_eq up_eq get_eq ob_eq Ob.drop apl fpl plainTy AS.frz splice cond_true cond_false List.map_cons List.map_nil List.drop_zero List.drop_succ_cons List.drop_nil List.take_zero List.take_succ_cons List.take_nil List.getElem?_cons_zero List.getElem?_cons_succ List.getElem?_nil List.length_cons List.length_nil Option.map_some Option.map_none Option.bind_some Option.bind_none List.cons_append List.nil_append List.append_nil Option.getD_some Option.getD_none List.all_cons List.all_nil Bool.and_true Bool.true_and Bool.or_false Bool.false_or Bool.or_true Bool.true_or List.flatten_cons List.flatten_nil List.replicate_succ List.replicate_zero and_true true_and avOf_t avOf_f agg_bool agg_int agg_str agg_slice agg_struct agg_func agg_ptr agg_map avc_bool avc_int avc_str avc_fn avc1_bool avc1_int avc1_str avc1_fn zt_bool zt_int zt_str cells_nil cells_t cells_h cells_pb cells_fn snap_t snap_nil snap_h snap_pb snap_fn rv1_one rv1_two outI_t outI_oh outI_on outI_any outI_nil outZ_th outZ_tt outZ_tn outZ_o outZ_any outZ_nil outIL_nil outZL_nil finN finR ne_eq not_false_eq_true not_true_eq_false List.nodup_nil List.not_mem_nil false_implies implies_true eq_self true_or or_true Option.some.injEq shl_add shl_sub shl_mul shl_quo shl_rem shl_and shl_or shl_xor shl_andNot shl_eql shl_neq shl_lss shl_leq shl_gtr shl_geq shl_shr shl_shl appDeep_none appDeep_sn appSrc_h appSrc_nil fits_ft fits_tn fits_tf isStr_slice obFlat_box Nat.le_refl nbeq_self List.length_map updZ_s updZ_n dropM_eq purge_eq newIds_cons newIds_nil purgeT_nil purgeT_cons memN_cons memN_nil bd_d bd_c bd_g bd_p bd_t bd_o preds_nil preds_cons hasIns insB List.any_cons List.any_nil adK_eq adr_nil adG_eq kdOp noLen creates Op.operands Call.operands nsOf adT adI adJ plainB rst List.append_eq nsD_f nsD_n nsD_t nOf_0 nOf_1 nOf_2 chO_0 chO_1 chO_2 keepK_0 keepK_1 keepK_2 eqRes AS.mv fits KM aCallM notNew kdCall arK_i64 arK_i32 arK_u8 arK_u64 arT_sl isNilC_t isNilC_f isNilC_g isNilC_i isNilC_b isNilC_s isNilC_a isNilC_n andBF andBT aCallK_2 ble_dec hid_t hid_nil hid_any hid_pb hid_fn absOk_t absOk_nil absOk_pb absOk_h absOkO_1 decide_true decide_false Array.toList_append chunk_0 chunk_1 chunk_2 chunk_3 back_t back_nil back_ht backL_nil backI_t backI_nil backI_ht backIL_nil AS.mvJ nbeq_dec runR_f runR_t loadB Option.isSome_some Option.isSome_none nodup1 adr_none adr_some adO_s adV_b adV_t adB_tt adB_ff adB_tf adB_ft adS_eq lenL.eq_1 lenO.eq_1 lenO.eq_2 lenV.eq_1 lenV.eq_2 lenV.eq_3 lenV.eq_4 optN optS absT_ft
attribute [local go_sem] ty3 ty4 ty5 ty9 ty21 ty22 ty23 ty25 ty26 ty28 ty29 ty30 ty32 ty35 ty37 ty38 ty40 ty41 ty42 ty44 ty48 ty50 ty53 ty55 ty59 ty75 ty77 ty81 ty83 ty95 ty107 ty108 ty110 ty113 ty123 ty127 ty129 ty139 ty145 ty147 ty149 ty160 ty162 ty170 ty176 ty182 ty194 ty206 ty212 lv75 lv95 lv123 lv162 zb4 leS leT fits AS.mvs encStr_eq aIdx_str EStr_dec decStrs decStrs0 EStr_enc EStr_n encInt_eq aIdx_int EInt_dec decInts decInts0 EInt_enc EInt_n AllV_Int len_Int lc_enc l0_enc asl_enc ag_enc aow_enc ABool_enc AInt_enc AStr_enc AU8_enc ABool_dec AInt_dec AStr_dec AU8_dec asl_dec ag_dec aow_dec bind_some pr2.eq_1 l0_nil lc_cons unT.eq_1 K0.eq_1 M0.eq_1 KI AllV_Str len_Str ctR_eq ctM_eq ro_kd ro_ro mu_kd mu_mu encAd_eq aIdx_Ad EAd_dec decAds decAds0 EAd_enc EAd_n len_Ad Ad_eta AllV_Ad encRc_eq aIdx_Rc ERc_dec decRcs decRcs0 ERc_enc ERc_n len_Rc Rc_eta AllV_Rc encIm_eq aIdx_Im EIm_dec decIms decIms0 EIm_enc EIm_n len_Im Im_eta mkIm.eq_1 owIm_eq AIm_enc AIm_dec encSp_eq aIdx_Sp ESp_dec decSps decSps0 ESp_enc ESp_n len_Sp Sp_eta mkSp.eq_1 owSp_eq ASp_enc ASp_dec encWy_eq aIdx_Wy EWy_dec decWys decWys0 EWy_enc EWy_n len_Wy Wy_eta AllV_Wy encCf_eq aIdx_Cf ECf_dec decCfs decCfs0 ECf_enc ECf_n len_Cf Cf_eta mkCf.eq_1 owCf_eq ACf_enc ACf_dec encGm_eq aIdx_Gm EGm_dec decGms decGms0 EGm_enc EGm_n len_Gm Gm_eta mkGm.eq_1 owGm_eq AGm_enc AGm_dec encBx_eq aIdx_Bx EBx_dec decBxs decBxs0 EBx_enc EBx_n len_Bx Bx_eta mkBx.eq_1 owBx_eq ABx_enc ABx_dec encLs_eq aIdx_Ls ELs_dec decLss decLss0 ELs_enc ELs_n len_Ls Ls_eta AllV_Ls encHs_eq aIdx_Hs EHs_dec decHss decHss0 EHs_enc EHs_n len_Hs Hs_eta mkHs.eq_1 owHs_eq AHs_enc AHs_dec encWd_eq aIdx_Wd EWd_dec decWds decWds0 EWd_enc EWd_n len_Wd Wd_eta mkWd.eq_1 owWd_eq AWd_enc AWd_dec
theorem K31 : Maps.Keyed Tryz.prog 75 := Maps.Keyed.of_law (deep_law_laid (m := 5) (by kernel_rfl) (by decide) (Nat.lt_of_lt_of_le (Nat.lt_succ_self 75) (Nat.le_of_ble_eq_true (by kernel_rfl))) (by kernel_rfl) (by kernel_rfl))
noncomputable def fs31 : Array Field := match Tryz.prog.underlying 75 with | some (.struct fs) => fs | _ => #[]
theorem u31 : Tryz.prog.underlying 75 = some (.struct fs31) := by kernel_rfl
theorem u9 : Tryz.prog.underlying 9 = some .string := by kernel_rfl
theorem u3 : Tryz.prog.underlying 3 = some (.int .i64) := by kernel_rfl
theorem fs31_l : (fs31.toList.map fun f => (f.type, f.offset)) = [(9, 0), (9, 1)] := by kernel_rfl
theorem fs31_n : fs31.all (·.name != "_") = true := by kernel_rfl
theorem co9 : Tryz.prog.cellsOf 9 = 1 := by kernel_rfl
theorem co31 : Tryz.prog.cellsOf 75 = 2 := by kernel_rfl
theorem kt31 : Tryz.prog.keyType 75 = true := by kernel_rfl
theorem ts31 : ∃ n, Tryz.prog.types.size + 1 = n + 2 := ⟨Tryz.prog.types.size - 1, by
  have : 75 < Tryz.prog.types.size := Nat.lt_of_lt_of_le (Nat.lt_succ_self 75) (Nat.le_of_ble_eq_true (by kernel_rfl))
  omega⟩
theorem kl9 (d : Nat) {s : ByteArray} (h : s.size ≤ maxLen) : Tryz.prog.keyLits (d + 1) 9 [.string s] = some [.string s.data.toList] := by
  simp only [Program.keyLits, u9, if_pos h]
theorem key31 {k : MK} (h : k.ok (some 2)) : ∃ l, keyOf Tryz.prog 75 k.val = some l := by
  cases k with
  | i n => exact h.elim
  | s b => exact absurd h.1 (by decide)
  | ss l =>
    obtain ⟨h1, h2, _⟩ := h
    obtain ⟨u, d, rfl⟩ : ∃ u d, l = [u, d] := by
      rcases l with _ | ⟨u, _ | ⟨d, _ | ⟨z, t⟩⟩⟩
      · cases h1
      · cases h1
      · exact ⟨u, d, rfl⟩
      · simp at h1
    obtain ⟨n, hn⟩ := ts31
    have hl : fs31.toList.map (fun f => (f.type, f.offset)) = [(9, 0), (9, 1)] := fs31_l
    rcases hf : fs31.toList with _ | ⟨f, _ | ⟨g, _ | ⟨z, t⟩⟩⟩
    · rw [hf] at hl; cases hl
    · rw [hf] at hl; simp at hl
    · rw [hf] at hl
      · simp only [List.map_cons, List.map_nil, List.cons.injEq, Prod.mk.injEq, and_true] at hl
        obtain ⟨⟨a1, a2⟩, b1, b2⟩ := hl
        refine ⟨.string (keyBytes [.string u.data.toList, .string d.data.toList]), ?_⟩
        have hform : (MK.val (.ss [u, d])).formed Tryz.prog 75 = true := by
          simp only [Value.formed, MK.val, u31, co31]
          rfl
        unfold keyOf
        rw [u31]
        show (if (Tryz.prog.keyType 75 && (MK.val (.ss [u, d])).formed Tryz.prog 75) = true then _ else none) = _
        rw [kt31, hform]
        refine (if_pos rfl).trans ?_
        rw [hn]
        have : Tryz.prog.keyLits (n + 2) 75 (MK.val (.ss [u, d])).cells.toList = some [.string u.data.toList, .string d.data.toList] := by
          show Tryz.prog.keyLits (n + 2) 75 [.string u, .string d] = _
          have e1 : [Value.string u, Value.string d].length = Tryz.prog.cellsOf 75 ∧ fs31.all (·.name != "_") = true := ⟨by rw [co31]; rfl, fs31_n⟩
          rw [Program.keyLits.eq_def]
          simp only [u31]
          refine (if_pos e1).trans ?_
          rw [hf]
          simp only [List.mapM_cons, List.mapM_nil, a1, a2, b1, b2, co9, List.drop_zero, List.take_succ_cons, List.take_zero, List.drop_succ_cons, kl9 n (h2 u (by simp)), kl9 n (h2 d (by simp))]
          rfl
        rw [this]; rfl
    · rw [hf] at hl
      simp only [List.map_cons, List.cons.injEq] at hl
      exact absurd hl.2.2 (by simp)
theorem kd31 : KeyD Tryz.prog 75 (some 2) := KeyD.ss K31 key31
theorem kd3 : KeyD Tryz.prog 3 none := KeyD.int u3

def mkA (a : Ad) : MK := .ss [a.user, a.domain]
theorem mkA_inj {a b : Ad} (h : mkA a = mkA b) : a = b := by
  cases a; cases b
  simp only [mkA, MK.ss.injEq, List.cons.injEq, and_true] at h
  rw [h.1, h.2]
def dis (xs : List Ad) : List (MK × Bool) := xs.foldl (fun es a => upE (mkA a) true es) []
theorem dis_snoc (xs : List Ad) (a : Ad) : dis (xs ++ [a]) = upE (mkA a) true (dis xs) := by simp [dis]
theorem upE_keys {k : MK} {b : Bool} : ∀ {es : List (MK × Bool)}, (upE k b es).map Prod.fst = if k ∈ es.map Prod.fst then es.map Prod.fst else es.map Prod.fst ++ [k]
  | [] => by simp [upE]
  | p :: r => by
    rw [upE]
    by_cases h : p.1 = k
    · simp [h]
    · have hk : ¬ k = p.1 := fun e => h e.symm
      rw [if_neg h, List.map_cons, upE_keys]
      by_cases h2 : k ∈ r.map Prod.fst
      · rw [if_pos h2, if_pos (by simp only [List.map_cons, List.mem_cons]; exact .inr h2)]; rfl
      · rw [if_neg h2, if_neg (by simp only [List.map_cons, List.mem_cons]; exact fun e => e.elim hk h2)]; rfl
theorem dis_mem (xs : List Ad) (a : Ad) : mkA a ∈ (dis xs).map Prod.fst ↔ a ∈ xs := by
  generalize hr : xs.reverse = r
  have hx : xs = r.reverse := by rw [← hr, List.reverse_reverse]
  subst hx
  clear hr
  induction r with
  | nil => simp [dis]
  | cons b r ih =>
    rw [List.reverse_cons, dis_snoc, upE_keys, List.mem_append, ← propext ih]
    by_cases h : mkA b ∈ (dis r.reverse).map Prod.fst
    · rw [if_pos h]
      constructor
      · exact .inl
      · rintro (h1 | h1)
        · exact h1
        · rw [List.mem_singleton.1 h1]; exact h
    · rw [if_neg h, List.mem_append, List.mem_singleton, List.mem_singleton]
      exact or_congr_right ⟨mkA_inj, fun e => by rw [e]⟩
theorem dis_len (xs : List Ad) : (dis xs).length ≤ xs.length ∧ ((dis xs).length = xs.length ↔ xs.Nodup) := by
  generalize hr : xs.reverse = r
  have hx : xs = r.reverse := by rw [← hr, List.reverse_reverse]
  subst hx
  clear hr
  induction r with
  | nil => simp [dis]
  | cons b r ih =>
    have hl : ∀ es : List (MK × Bool), es.length = (es.map Prod.fst).length := fun es => by rw [List.length_map]
    have hn : (r.reverse ++ [b]).Nodup ↔ r.reverse.Nodup ∧ b ∉ r.reverse := by
      rw [List.nodup_append]
      constructor
      · rintro ⟨h1, _, h3⟩
        exact ⟨h1, fun hb => h3 b hb b (by simp) rfl⟩
      · rintro ⟨h1, h2⟩
        refine ⟨h1, by simp, fun x hx y hy e => ?_⟩
        rw [List.mem_singleton] at hy
        subst hy; subst e; exact h2 hx
    rw [List.reverse_cons, dis_snoc, hl, upE_keys, List.length_append, hn, ← dis_mem]
    obtain ⟨i1, i2⟩ := ih
    by_cases h : mkA b ∈ (dis r.reverse).map Prod.fst
    · rw [if_pos h, ← hl]
      refine ⟨by omega, ⟨fun e => ?_, fun e => absurd h e.2⟩⟩
      simp at e i1; omega
    · rw [if_neg h, List.length_append, ← hl]
      refine ⟨by simp at *; omega, ⟨fun e => ⟨i2.1 (by simp at *; omega), h⟩, fun e => ?_⟩⟩
      have := i2.2 e.1
      simp at *; omega
theorem take_succ' {xs : List Ad} {i : Nat} (h : i < xs.length) : xs.take (i + 1) = xs.take i ++ [xs.getD i default] := by
  rw [List.take_succ_eq_append_getElem h]
  simp [h]
theorem dis_take {xs : List Ad} {i : Nat} (h : i < xs.length) : upE (.ss [(xs.getD i default).user, (xs.getD i default).domain]) true (dis (xs.take i)) = dis (xs.take (i + 1)) := by
  rw [take_succ' h, dis_snoc]; rfl
def c115 : Ct := ctR (lc EAd.asl l0) (fun p => True) (fun p => .t (.v (.bool (bOf p.1.Nodup))))
theorem good115 {G : Gt} (hG : OkG G) : Gd G 115 (roEnt 0 c115) := by
  refine gR (dp := fun _ => true) (fn := Tryz.f115) (n := 1) (fun _ => rfl) (by kernel_rfl) rfl (by kernel_rfl) hG (Nat.le_of_ble_eq_true rfl) (by kernel_rfl) (by decide) (fun _ _ => .v _) ?_
  rintro ⟨xs, ⟨⟩⟩ hpre
  simp -implicitDefEqProofs only [Tryz.f115, go_sem, ap_enc, ap_dec, AFn0_dec, AFn0_enc, Bool.not_true, Bool.not_false, ty182, lv75, AFStr_d0, AFStr_e0, AFStr_d1, AFStr_e1, Nat.reduceAdd, Nat.reduceMul, Nat.reduceLeDiff, Nat.reduceEqDiff, reduceCtorEq, Nat.reduceSub, Int.reduceNeg, Nat.reduceMod, Nat.reduceBEq, Nat.reduceLT] at hpre ⊢

  repeat' (first | with_reducible apply And.intro | with_reducible intro _ | ((first | refine brB_split (fun hb => ?_) (fun hb => ?_) | refine aPickB_split (fun hb => ?_) (fun hb => ?_) | refine gB_split (fun hb => ?_) (fun hb => ?_) | refine adB_split (fun hb => ?_) (fun hb => ?_)) <;> simp -implicitDefEqProofs only [hb, go_sem, ap_enc, ap_dec, AFn0_dec, AFn0_enc, Bool.not_true, Bool.not_false, ty182, lv75, AFStr_d0, AFStr_e0, AFStr_d1, AFStr_e1, Nat.reduceAdd, Nat.reduceMul, Nat.reduceLeDiff, Nat.reduceEqDiff, reduceCtorEq, Nat.reduceSub, Int.reduceNeg, Nat.reduceMod, Nat.reduceBEq, Nat.reduceLT] <;> try simp only [qa, qb, qc, qd, qe, qf, qg, bOf_t, bOf_f] at hb))
  all_goals first | rfl | omega | skip
  refine run_loop [] (ι := {i : Nat // i ≤ xs.length}) (fun p => ⟨[(0, .t (.sl 2 (xs.map encAd))), (3, .h 1006), (7, .t (.sl 2 (xs.map encAd))), (8, .t (.v (.int .i64 xs.length))), (9, .t (.v (.int .i64 p.1)))], [(1006, some (.mp (some 2) (dis (xs.take p.1))))]⟩) (fun p => xs.length - p.1) ⟨0, Nat.zero_le _⟩ rfl ?_ ?_
  · simp -implicitDefEqProofs only [go_sem, ap_enc, ap_dec, AFn0_dec, AFn0_enc, Bool.not_true, Bool.not_false, ty182, lv75, AFStr_d0, AFStr_e0, AFStr_d1, AFStr_e1, Nat.reduceAdd, Nat.reduceMul, Nat.reduceLeDiff, Nat.reduceEqDiff, reduceCtorEq, Nat.reduceSub, Int.reduceNeg, Nat.reduceMod, Nat.reduceBEq, Nat.reduceLT]
    simp
    rfl
  · rintro ⟨i, hi⟩
    by_cases hlt : (i : Int) < xs.length
    · simp -implicitDefEqProofs only [hlt, go_sem, ap_enc, ap_dec, AFn0_dec, AFn0_enc, Bool.not_true, Bool.not_false, ty182, lv75, AFStr_d0, AFStr_e0, AFStr_d1, AFStr_e1, Nat.reduceAdd, Nat.reduceMul, Nat.reduceLeDiff, Nat.reduceEqDiff, reduceCtorEq, Nat.reduceSub, Int.reduceNeg, Nat.reduceMod, Nat.reduceBEq, Nat.reduceLT]
      repeat' (first | with_reducible apply And.intro | with_reducible intro _ | ((first | refine brB_split (fun hb => ?_) (fun hb => ?_) | refine aPickB_split (fun hb => ?_) (fun hb => ?_) | refine gB_split (fun hb => ?_) (fun hb => ?_) | refine adB_split (fun hb => ?_) (fun hb => ?_)) <;> simp -implicitDefEqProofs only [hb, go_sem, ap_enc, ap_dec, AFn0_dec, AFn0_enc, Bool.not_true, Bool.not_false, ty182, lv75, AFStr_d0, AFStr_e0, AFStr_d1, AFStr_e1, Nat.reduceAdd, Nat.reduceMul, Nat.reduceLeDiff, Nat.reduceEqDiff, reduceCtorEq, Nat.reduceSub, Int.reduceNeg, Nat.reduceMod, Nat.reduceBEq, Nat.reduceLT] <;> try simp only [qa, qb, qc, qd, qe, qf, qg, bOf_t, bOf_f] at hb))
      all_goals (try simp only [maxLen] at *)
      all_goals first | rfl | omega | exact kd31 | skip
      refine ⟨⟨i + 1, by omega⟩, by dsimp only; omega, ?_⟩
      simp -implicitDefEqProofs only [go_sem, ap_enc, ap_dec, AFn0_dec, AFn0_enc, Bool.not_true, Bool.not_false, ty182, lv75, AFStr_d0, AFStr_e0, AFStr_d1, AFStr_e1, Nat.reduceAdd, Nat.reduceMul, Nat.reduceLeDiff, Nat.reduceEqDiff, reduceCtorEq, Nat.reduceSub, Int.reduceNeg, Nat.reduceMod, Nat.reduceBEq, Nat.reduceLT]
      simp only [Int.toNat_natCast, dis_take (show i < xs.length by omega)]
      try simp
    · simp -implicitDefEqProofs only [hlt, go_sem, ap_enc, ap_dec, AFn0_dec, AFn0_enc, Bool.not_true, Bool.not_false, ty182, lv75, AFStr_d0, AFStr_e0, AFStr_d1, AFStr_e1, Nat.reduceAdd, Nat.reduceMul, Nat.reduceLeDiff, Nat.reduceEqDiff, reduceCtorEq, Nat.reduceSub, Int.reduceNeg, Nat.reduceMod, Nat.reduceBEq, Nat.reduceLT]
      repeat' (first | with_reducible apply And.intro | with_reducible intro _ | ((first | refine brB_split (fun hb => ?_) (fun hb => ?_) | refine aPickB_split (fun hb => ?_) (fun hb => ?_) | refine gB_split (fun hb => ?_) (fun hb => ?_) | refine adB_split (fun hb => ?_) (fun hb => ?_)) <;> simp -implicitDefEqProofs only [hb, go_sem, ap_enc, ap_dec, AFn0_dec, AFn0_enc, Bool.not_true, Bool.not_false, ty182, lv75, AFStr_d0, AFStr_e0, AFStr_d1, AFStr_e1, Nat.reduceAdd, Nat.reduceMul, Nat.reduceLeDiff, Nat.reduceEqDiff, reduceCtorEq, Nat.reduceSub, Int.reduceNeg, Nat.reduceMod, Nat.reduceBEq, Nat.reduceLT] <;> try simp only [qa, qb, qc, qd, qe, qf, qg, bOf_t, bOf_f] at hb))
      all_goals first | rfl | omega | skip
      rw [List.take_of_length_le (by omega), ← bOf_congr (dis_len xs).2, bOf_d]
      refine congrArg (fun b => T.v (.bool b)) (decide_eq_decide.2 ?_)
      omega


theorem take_snoc_map {α : Type} [Inhabited α] (enc : α → List T) {xs : List α} {i : Nat} (h : i < xs.length) : (xs.take (i + 1)).map enc = (xs.take i).map enc ++ [enc (xs.getD i default)] := by
  rw [List.take_succ_eq_append_getElem h, List.map_append, List.map_cons, List.map_nil]
  simp only [List.getD_eq_getElem?_getD, List.getElem?_eq_getElem h, Option.getD_some]
theorem tmap {α : Type} {enc : α → List T} {xs : List α} {k : Nat} : (xs.map enc).take k = (xs.take k).map enc := List.map_take.symm
theorem dmap {α : Type} {enc : α → List T} {xs : List α} {k : Nat} : (xs.map enc).drop k = (xs.drop k).map enc := List.map_drop.symm
def RcOk (r : Rc) : Prop := AdOk r.addr ∧ (0 ≤ r.tries ∧ r.tries ≤ 3) ∧ (0 ≤ r.next ∧ r.next ≤ 9999)
def ImOk (x : Im) : Prop := (∀ r ∈ x.to, RcOk r) ∧ (x.to.map Rc.addr).Nodup ∧ 0 < x.id ∧ (AdOk x.frm ∨ AdNull x.frm) ∧ (1 ≤ x.to.length ∧ x.to.length ≤ 4) ∧ BdOk x.body
def Asc (xs : List Im) : Prop := ∀ j, 0 < j → j < xs.length → (xs.getD (j - 1) default).id < (xs.getD j default).id
def SpOk (s : Sp) : Prop := (∀ x ∈ s.items, ImOk x ∧ x.id ≤ s.last) ∧ Asc s.items ∧ (0 ≤ s.last ∧ s.last ≤ 999) ∧ s.items.length ≤ 10
/-- Differing at every two places. -/
theorem nodup_addr {xs : List Rc} (h : ∀ j, j < xs.length → ∀ k, k < j → ¬ (xs.getD k default).addr = (xs.getD j default).addr) : (xs.map Rc.addr).Nodup := by
  rw [List.nodup_iff_pairwise_ne, List.pairwise_iff_getElem]
  intro k j hk hj hkj
  rw [List.length_map] at hk hj
  have := h j hj k hkj
  simpa [hk, hj] using this
theorem addr_nodup {xs : List Rc} (h : (xs.map Rc.addr).Nodup) {k i : Nat} (hk : k < i) (hi : i < xs.length) : ¬ (xs.getD k default).addr = (xs.getD i default).addr := fun e => by
  have q1 : k < xs.length := by omega
  simp only [List.getD_eq_getElem?_getD, List.getElem?_eq_getElem q1, List.getElem?_eq_getElem hi, Option.getD_some] at e
  exact List.pairwise_iff_getElem.1 (List.nodup_iff_pairwise_ne.1 h) k i (by simpa using q1) (by simpa using hi) hk (by simpa using e)
def c130 : Ct := ctR (lc ERc.ag l0) (fun p => True) (fun p => .t (.v (.bool (bOf (RcOk p.1)))))
theorem good130 {G : Gt} (hG : OkG G) (h90 : G.e 90 = roEnt 0 c90) (h93 : G.e 93 = roEnt 0 c93) : Gd G 130 (roEnt 0 c130) := by
  refine gR (dp := fun _ => true) (fn := Tryz.f130) (n := 1) (fun _ => rfl) (by kernel_rfl) rfl (by kernel_rfl) hG (Nat.le_of_ble_eq_true rfl) (by kernel_rfl) (by decide) (fun _ _ => .v _) ?_
  rintro ⟨r, ⟨⟩⟩ hpre
  simp -implicitDefEqProofs only [Tryz.f130, go_sem, h90, c90, h93, c93, Nat.reduceAdd, Nat.reduceMul, Nat.reduceLeDiff, Nat.reduceEqDiff, reduceCtorEq, Nat.reduceSub, Int.reduceNeg, Nat.reduceMod, Nat.reduceBEq, Nat.reduceLT] at hpre ⊢

  repeat' (first | with_reducible apply And.intro | with_reducible intro _ | ((first | refine brB_split (fun hb => ?_) (fun hb => ?_) | refine aPickB_split (fun hb => ?_) (fun hb => ?_) | refine gB_split (fun hb => ?_) (fun hb => ?_) | refine adB_split (fun hb => ?_) (fun hb => ?_)) <;> simp -implicitDefEqProofs only [hb, go_sem, h90, c90, h93, c93, Nat.reduceAdd, Nat.reduceMul, Nat.reduceLeDiff, Nat.reduceEqDiff, reduceCtorEq, Nat.reduceSub, Int.reduceNeg, Nat.reduceMod, Nat.reduceBEq, Nat.reduceLT] <;> try simp only [qa, qb, qc, qd, qe, qf, qg, bOf_t, bOf_f] at hb))
  all_goals first
    | rfl
    | omega
    | exact congrArg (fun b => T.v (Value.bool b)) (bOf_congr ⟨fun h => ⟨by assumption, by assumption, h⟩, fun h => h.2.2⟩)
    | (rw [bOf_n (fun h => absurd h.1 (by assumption))]; done)
    | (rw [bOf_n (fun h => absurd h.2.1 (by assumption))]; done)

def c107 : Ct := ctR (lc EIm.ag l0) (fun p => True) (fun p => .t (.v (.bool (bOf (ImOk p.1)))))
set_option maxHeartbeats 800000 in
theorem good107 {G : Gt} (hG : OkG G) (h90 : G.e 90 = roEnt 0 c90) (h93 : G.e 93 = roEnt 0 c93) (h130 : G.e 130 = roEnt 0 c130) (h105 : G.e 105 = roEnt 0 c105) (h104 : G.e 104 = roEnt 0 c104) : Gd G 107 (roEnt 0 c107) := by
  refine gR (dp := fun _ => true) (fn := Tryz.f107) (n := 1) (fun _ => rfl) (by kernel_rfl) rfl (by kernel_rfl) hG (Nat.le_of_ble_eq_true rfl) (by kernel_rfl) (by decide) (fun _ _ => .v _) ?_
  rintro ⟨x, ⟨⟩⟩ hpre
  simp -implicitDefEqProofs only [Tryz.f107, go_sem, h90, c90, h93, c93, h130, c130, h105, c105, h104, c104, List.length_map, Nat.reduceAdd, Nat.reduceMul, Nat.reduceLeDiff, Nat.reduceEqDiff, reduceCtorEq, Nat.reduceSub, Int.reduceNeg, Nat.reduceMod, Nat.reduceBEq, Nat.reduceLT] at hpre ⊢

  have hbox : ∀ y : Im, Ob.box [AV.t (T.v (Value.int IntKind.i64 y.id)), AV.t (T.v (Value.string y.frm.user)), AV.t (T.v (Value.string y.frm.domain)), AV.t (T.sl 4 (List.map encRc y.to)), AV.t (T.sl 1 (List.map encStr y.body))] = Ob.box ((encIm y).map .t) := fun _ => rfl
  refine run_loop [] (ι := {i : Nat // i ≤ x.to.length ∧ (∀ j, j < i → RcOk (x.to.getD j default)) ∧ ∀ j, j < i → ∀ k, k < j → ¬ (x.to.getD k default).addr = (x.to.getD j default).addr}) (fun p => ⟨[(1, .pb 1001 0), (3, .t (.v (.int .i64 p.1)))], [(1001, some (.box ((encIm x).map .t)))]⟩) (fun p => x.to.length - p.1) ⟨0, by simp, by simp, by simp⟩ rfl ?_ ?_
  · simp -implicitDefEqProofs only [go_sem, h90, c90, h93, c93, h130, c130, h105, c105, h104, c104, List.length_map, Nat.reduceAdd, Nat.reduceMul, Nat.reduceLeDiff, Nat.reduceEqDiff, reduceCtorEq, Nat.reduceSub, Int.reduceNeg, Nat.reduceMod, Nat.reduceBEq, Nat.reduceLT]
    simp
  · rintro ⟨i, hi, hall, hno⟩
    simp -implicitDefEqProofs only [go_sem, h90, c90, h93, c93, h130, c130, h105, c105, h104, c104, List.length_map, Nat.reduceAdd, Nat.reduceMul, Nat.reduceLeDiff, Nat.reduceEqDiff, reduceCtorEq, Nat.reduceSub, Int.reduceNeg, Nat.reduceMod, Nat.reduceBEq, Nat.reduceLT]
    repeat' (first | with_reducible apply And.intro | with_reducible intro _ | ((first | refine brB_split (fun hb => ?_) (fun hb => ?_) | refine aPickB_split (fun hb => ?_) (fun hb => ?_) | refine gB_split (fun hb => ?_) (fun hb => ?_) | refine adB_split (fun hb => ?_) (fun hb => ?_)) <;> simp -implicitDefEqProofs only [hb, go_sem, h90, c90, h93, c93, h130, c130, h105, c105, h104, c104, List.length_map, Nat.reduceAdd, Nat.reduceMul, Nat.reduceLeDiff, Nat.reduceEqDiff, reduceCtorEq, Nat.reduceSub, Int.reduceNeg, Nat.reduceMod, Nat.reduceBEq, Nat.reduceLT] <;> try simp only [qa, qb, qc, qd, qe, qf, qg, bOf_t, bOf_f] at hb))
    all_goals (try simp only [maxLen, Int.toNat_natCast, List.length_map] at *)
    all_goals first | rfl | omega | skip
    · rw [bOf_n (fun h => hb (h.1 _ (getD_mem (by omega))))]
    · refine run_loop [] (ι := {k : Nat // k ≤ i ∧ ∀ j, j < k → ¬ (x.to.getD j default).addr = (x.to.getD i default).addr}) (fun p => ⟨[(1, .pb 1001 0), (3, .t (.v (.int .i64 i))), (4, .t (.v (.int .i64 p.1)))], [(1001, some (.box ((encIm x).map .t)))]⟩) (fun p => i - p.1) ⟨0, by simp, by simp⟩ rfl ?_ ?_
      · simp -implicitDefEqProofs only [go_sem, h90, c90, h93, c93, h130, c130, h105, c105, h104, c104, List.length_map, Nat.reduceAdd, Nat.reduceMul, Nat.reduceLeDiff, Nat.reduceEqDiff, reduceCtorEq, Nat.reduceSub, Int.reduceNeg, Nat.reduceMod, Nat.reduceBEq, Nat.reduceLT]
        simp
      · rintro ⟨k, hk, hk2⟩
        simp -implicitDefEqProofs only [go_sem, h90, c90, h93, c93, h130, c130, h105, c105, h104, c104, List.length_map, Nat.reduceAdd, Nat.reduceMul, Nat.reduceLeDiff, Nat.reduceEqDiff, reduceCtorEq, Nat.reduceSub, Int.reduceNeg, Nat.reduceMod, Nat.reduceBEq, Nat.reduceLT]
        repeat' (first | with_reducible apply And.intro | with_reducible intro _ | ((first | refine brB_split (fun hb => ?_) (fun hb => ?_) | refine aPickB_split (fun hb => ?_) (fun hb => ?_) | refine gB_split (fun hb => ?_) (fun hb => ?_) | refine adB_split (fun hb => ?_) (fun hb => ?_)) <;> simp -implicitDefEqProofs only [hb, go_sem, h90, c90, h93, c93, h130, c130, h105, c105, h104, c104, List.length_map, Nat.reduceAdd, Nat.reduceMul, Nat.reduceLeDiff, Nat.reduceEqDiff, reduceCtorEq, Nat.reduceSub, Int.reduceNeg, Nat.reduceMod, Nat.reduceBEq, Nat.reduceLT] <;> try simp only [qa, qb, qc, qd, qe, qf, qg, bOf_t, bOf_f] at hb))
        all_goals (try simp only [maxLen, Int.toNat_natCast, List.length_map] at *)
        all_goals first | rfl | omega | skip
        · have e : (x.to.getD k default).addr = (x.to.getD i default).addr := Ad_ext.2 (by simpa using hb)
          rw [bOf_n (fun h => addr_nodup h.2.1 (by omega) (by omega) e)]
        · refine ⟨⟨k + 1, by omega, fun j hj => ?_⟩, by dsimp only; omega, ?_⟩
          · by_cases e : j = k
            · subst e; exact neqb hb
            · exact hk2 j (by omega)
          · simp -implicitDefEqProofs only [go_sem, h90, c90, h93, c93, h130, c130, h105, c105, h104, c104, List.length_map, Nat.reduceAdd, Nat.reduceMul, Nat.reduceLeDiff, Nat.reduceEqDiff, reduceCtorEq, Nat.reduceSub, Int.reduceNeg, Nat.reduceMod, Nat.reduceBEq, Nat.reduceLT]
            simp
        · refine ⟨⟨i + 1, by omega, all_step hall (by assumption), fun j hj q hq => ?_⟩, by dsimp only; omega, ?_⟩
          · by_cases e : j = i
            · subst e; exact hk2 q (by omega)
            · exact hno j (by omega) q hq
          · simp -implicitDefEqProofs only [go_sem, h90, c90, h93, c93, h130, c130, h105, c105, h104, c104, List.length_map, Nat.reduceAdd, Nat.reduceMul, Nat.reduceLeDiff, Nat.reduceEqDiff, reduceCtorEq, Nat.reduceSub, Int.reduceNeg, Nat.reduceMod, Nat.reduceBEq, Nat.reduceLT]
            simp
    all_goals have hA : ∀ r ∈ x.to, RcOk r := mem_getD fun j hj => hall j (by omega)
    all_goals have hN : (x.to.map Rc.addr).Nodup := nodup_addr fun j hj q hq => hno j (by omega) q hq
    all_goals first
      | (rw [bOf_congr]
         exact ⟨fun h => ⟨hA, hN, by first | assumption | omega, by first | exact .inl (by assumption) | exact .inr (by assumption), by omega, h⟩, fun h => h.2.2.2.2.2⟩)
      | (rw [bOf_n]
         intro h
         first
           | (have := h.2.2.1; omega)
           | (have := h.2.2.2.2.1; omega)
           | (rcases h.2.2.2.1 with h | h <;> contradiction))

def c65 : Ct := ctR (lc ESp.ag l0) (fun p => True) (fun p => .t (.v (.bool (bOf (SpOk p.1)))))
set_option maxHeartbeats 1600000 in
theorem good65 {G : Gt} (hG : OkG G) (h107 : G.e 107 = roEnt 0 c107) (h93 : G.e 93 = roEnt 0 c93) : Gd G 65 (roEnt 0 c65) := by
  refine gR (dp := fun _ => true) (fn := Tryz.f65) (n := 1) (fun _ => rfl) (by kernel_rfl) rfl (by kernel_rfl) hG (Nat.le_of_ble_eq_true rfl) (by kernel_rfl) (by decide) (fun _ _ => .v _) ?_
  rintro ⟨s, ⟨⟩⟩ hpre
  simp -implicitDefEqProofs only [Tryz.f65, go_sem, h107, c107, h93, c93, List.length_map, Bool.not_true, Bool.not_false, Nat.reduceAdd, Nat.reduceMul, Nat.reduceLeDiff, Nat.reduceEqDiff, reduceCtorEq, Nat.reduceSub, Int.reduceNeg, Nat.reduceMod, Nat.reduceBEq, Nat.reduceLT] at hpre ⊢

  refine run_loop [] (ι := {i : Nat // i ≤ s.items.length ∧ (∀ j, j < i → ImOk (s.items.getD j default) ∧ (s.items.getD j default).id ≤ s.last) ∧ ∀ j, 0 < j → j < i → (s.items.getD (j - 1) default).id < (s.items.getD j default).id}) (fun p => ⟨[(1, .pb 1001 0), (3, .t (.v (.int .i64 p.1)))], [(1001, some (.box ((encSp s).map .t)))]⟩) (fun p => s.items.length - p.1) ⟨0, by simp, by simp, by simp⟩ rfl ?_ ?_
  · simp -implicitDefEqProofs only [go_sem, h107, c107, h93, c93, List.length_map, Bool.not_true, Bool.not_false, Nat.reduceAdd, Nat.reduceMul, Nat.reduceLeDiff, Nat.reduceEqDiff, reduceCtorEq, Nat.reduceSub, Int.reduceNeg, Nat.reduceMod, Nat.reduceBEq, Nat.reduceLT]
    simp
  · rintro ⟨i, hi, hall, hasc⟩
    by_cases hlt : (i : Int) < s.items.length
    · simp -implicitDefEqProofs only [hlt, decide_true, go_sem, h107, c107, h93, c93, List.length_map, Bool.not_true, Bool.not_false, Nat.reduceAdd, Nat.reduceMul, Nat.reduceLeDiff, Nat.reduceEqDiff, reduceCtorEq, Nat.reduceSub, Int.reduceNeg, Nat.reduceMod, Nat.reduceBEq, Nat.reduceLT]
      repeat' (first | with_reducible apply And.intro | with_reducible intro _ | ((first | refine brB_split (fun hb => ?_) (fun hb => ?_) | refine aPickB_split (fun hb => ?_) (fun hb => ?_) | refine gB_split (fun hb => ?_) (fun hb => ?_) | refine adB_split (fun hb => ?_) (fun hb => ?_)) <;> simp -implicitDefEqProofs only [hb, go_sem, h107, c107, h93, c93, List.length_map, Bool.not_true, Bool.not_false, Nat.reduceAdd, Nat.reduceMul, Nat.reduceLeDiff, Nat.reduceEqDiff, reduceCtorEq, Nat.reduceSub, Int.reduceNeg, Nat.reduceMod, Nat.reduceBEq, Nat.reduceLT] <;> try simp only [qa, qb, qc, qd, qe, qf, qg, bOf_t, bOf_f] at hb))
      all_goals (try simp only [maxLen, Int.toNat_natCast, List.length_map] at *)
      all_goals first | rfl | omega | skip
      all_goals (try rw [show ((i : Int) - 1).toNat = i - 1 from by omega] at hb)
      all_goals first
        | (rw [bOf_n (fun h => by have h1 := h.1 _ (getD_mem (xs := s.items) (j := i) (by omega)); first | exact hb h1.1 | omega)]; done)
        | (rw [bOf_n (fun h => by have h1 := h.2.1 i (by omega) (by omega); omega)]; done)
        | skip
      all_goals
        refine ⟨⟨i + 1, by omega, all_step (P := fun x : Im => ImOk x ∧ x.id ≤ s.last) hall ⟨by assumption, by omega⟩, fun j h0 hj => ?_⟩, by dsimp only; omega, ?_⟩
        · by_cases e : j = i
          · subst e; omega
          · exact hasc j h0 (by omega)
        · simp -implicitDefEqProofs only [go_sem, h107, c107, h93, c93, List.length_map, Bool.not_true, Bool.not_false, Nat.reduceAdd, Nat.reduceMul, Nat.reduceLeDiff, Nat.reduceEqDiff, reduceCtorEq, Nat.reduceSub, Int.reduceNeg, Nat.reduceMod, Nat.reduceBEq, Nat.reduceLT]
          simp
    · simp -implicitDefEqProofs only [hlt, decide_false, go_sem, h107, c107, h93, c93, List.length_map, Bool.not_true, Bool.not_false, Nat.reduceAdd, Nat.reduceMul, Nat.reduceLeDiff, Nat.reduceEqDiff, reduceCtorEq, Nat.reduceSub, Int.reduceNeg, Nat.reduceMod, Nat.reduceBEq, Nat.reduceLT]
      repeat' (first | with_reducible apply And.intro | with_reducible intro _ | ((first | refine brB_split (fun hb => ?_) (fun hb => ?_) | refine aPickB_split (fun hb => ?_) (fun hb => ?_) | refine gB_split (fun hb => ?_) (fun hb => ?_) | refine adB_split (fun hb => ?_) (fun hb => ?_)) <;> simp -implicitDefEqProofs only [hb, go_sem, h107, c107, h93, c93, List.length_map, Bool.not_true, Bool.not_false, Nat.reduceAdd, Nat.reduceMul, Nat.reduceLeDiff, Nat.reduceEqDiff, reduceCtorEq, Nat.reduceSub, Int.reduceNeg, Nat.reduceMod, Nat.reduceBEq, Nat.reduceLT] <;> try simp only [qa, qb, qc, qd, qe, qf, qg, bOf_t, bOf_f] at hb))
      all_goals (try simp only [maxLen, Int.toNat_natCast, List.length_map] at *)
      all_goals first | rfl | omega | skip
      · refine congrArg (fun b => T.v (Value.bool b)) ?_
        rw [← bOf_d, bOf_congr]
        exact ⟨fun h => ⟨mem_getD fun j hj => hall j (by omega), fun j h0 hj => hasc j h0 (by omega), hb, by omega⟩, fun h => by have := h.2.2.2; omega⟩
      · rw [bOf_n (fun h => hb h.2.2.1)]


def dnIm (x : Im) (k : Nat) : Im := ⟨x.id, x.frm, x.to.take k ++ x.to.drop (k + 1), x.body⟩
def dnL (xs : List Im) (i k : Nat) : List Im := if (dnIm (xs.getD i default) k).to = [] then xs.take i ++ xs.drop (i + 1) else xs.take i ++ (dnIm (xs.getD i default) k :: xs.drop (i + 1))
def dnSp (s : Sp) (i k : Nat) : Sp := ⟨s.last, dnL s.items i k⟩
theorem dn_len {xs : List Rc} {k : Nat} (h : k < xs.length) : (xs.take k ++ xs.drop (k + 1)).length = xs.length - 1 := by simp; omega

theorem ixP_range {α : Type} (p : α → Prop) : ∀ (xs : List α) (k : Nat), ixP p k xs = -1 ∨ ((k : Int) ≤ ixP p k xs ∧ ixP p k xs < k + xs.length)
  | [], _ => .inl rfl
  | x :: t, k => by
    rw [ixP]
    cases bOf (p x)
    · rcases ixP_range p t (k + 1) with h | h
      · exact .inl h
      · simp only [cond_false, List.length_cons]; right; omega
    · simp only [cond_true, List.length_cons]; right; omega
noncomputable def atIm (s : Sp) (n : Int) : Int := ixP (fun x : Im => x.id = n) 0 s.items
noncomputable def atRc (x : Im) (a : Ad) : Int := ixP (fun r : Rc => r.addr = a) 0 x.to
noncomputable def theIm (s : Sp) (n : Int) : Im := s.items.getD (atIm s n).toNat default
open Classical in
noncomputable def SDone (s : Sp) (n : Int) (a : Ad) : Sp × Bool :=
  if SpOk s then (if atIm s n < 0 then (s, false) else if atRc (theIm s n) a < 0 then (s, false) else (dnSp s (atIm s n).toNat (atRc (theIm s n) a).toNat, true)) else (⟨0, []⟩, false)
def roSB (p : Sp × Bool) : AV := .tup [.agg ((encSp p.1).map .t), .t (.v (.bool p.2))]
def owSB (p : Sp × Bool) : AV := .tup [owSp p.1, .t (.v (.bool p.2))]
theorem owSB_solid (p : Sp × Bool) : Solid (owSB p) := .tup _ fun c hc => by
  simp only [List.mem_cons, List.not_mem_nil, or_false] at hc
  rcases hc with rfl | rfl
  · exact owSp_solid _
  · exact .v _
theorem SDone_no {s : Sp} {n : Int} {a : Ad} (h : ¬ SpOk s) : SDone s n a = (⟨0, []⟩, false) := by unfold SDone; rw [if_neg h]
theorem SDone_i {s : Sp} {n : Int} {a : Ad} (h : SpOk s) (hi : atIm s n < 0) : SDone s n a = (s, false) := by unfold SDone; rw [if_pos h, if_pos hi]
theorem SDone_k {s : Sp} {n : Int} {a : Ad} (h : SpOk s) (hi : ¬ atIm s n < 0) (hk : atRc (theIm s n) a < 0) : SDone s n a = (s, false) := by unfold SDone; rw [if_pos h, if_neg hi, if_pos hk]
theorem SDone_y {s : Sp} {n : Int} {a : Ad} (h : SpOk s) (hi : ¬ atIm s n < 0) (hk : ¬ atRc (theIm s n) a < 0) : SDone s n a = (dnSp s (atIm s n).toNat (atRc (theIm s n) a).toNat, true) := by unfold SDone; rw [if_pos h, if_neg hi, if_neg hk]
theorem atIm_lt {s : Sp} {n : Int} (h : ¬ atIm s n < 0) : 0 ≤ atIm s n ∧ atIm s n < s.items.length := by
  rcases ixP_range (fun x : Im => x.id = n) s.items 0 with h1 | h1
  · have : atIm s n = -1 := h1
    omega
  · have : atIm s n < (0 : Nat) + s.items.length := h1.2
    omega
theorem atRc_lt {x : Im} {a : Ad} (h : ¬ atRc x a < 0) : 0 ≤ atRc x a ∧ atRc x a < x.to.length := by
  rcases ixP_range (fun r : Rc => r.addr = a) x.to 0 with h1 | h1
  · have : atRc x a = -1 := h1
    omega
  · have : atRc x a < (0 : Nat) + x.to.length := h1.2
    omega

def pau (t : Int) : Int := 2 * 2 ^ (t - 1).toNat
theorem pow2_le {a b : Nat} (h : a ≤ b) : (2 : Int) ^ a ≤ 2 ^ b := by
  have h1 := Nat.pow_le_pow_right (n := 2) (by omega) h
  have e : ∀ k : Nat, ((2 ^ k : Nat) : Int) = 2 ^ k := fun k => by simp
  rw [← e, ← e]
  omega
theorem pau_le {t : Int} {m : Nat} (h : t ≤ m + 1) : 2 ≤ pau t ∧ pau t ≤ 2 * 2 ^ m := by
  unfold pau
  have h1 : (2 : Int) ^ (t - 1).toNat ≤ 2 ^ m := pow2_le (by omega)
  have h2 : (2 : Int) ^ 0 ≤ 2 ^ (t - 1).toNat := pow2_le (by omega)
  simp only [Int.pow_zero] at h2
  omega
def ltRc (r : Rc) (w : Int) : Rc := ⟨r.addr, r.tries + 1, w + pau (r.tries + 1)⟩
def ltIm (x : Im) (k : Nat) (w : Int) : Im := ⟨x.id, x.frm, x.to.set k (ltRc (x.to.getD k default) w), x.body⟩
def ltSp (s : Sp) (i k : Nat) (w : Int) : Sp := ⟨s.last, s.items.set i (ltIm (s.items.getD i default) k w)⟩
def ltNo (r : Rc) (w : Int) : Prop := r.tries + 1 ≥ 4 ∨ w + pau (r.tries + 1) > 9999
instance (r : Rc) (w : Int) : Decidable (ltNo r w) := by unfold ltNo; infer_instance
def SLat (s : Sp) (i k : Nat) (w : Int) : Sp × Bool := if ltNo ((s.items.getD i default).to.getD k default) w then (s, false) else (ltSp s i k w, true)

open Classical in
noncomputable def SLater (s : Sp) (n : Int) (a : Ad) (w : Int) : Sp × Bool :=
  if SpOk s then (if atIm s n < 0 then (s, false) else if ¬ (0 ≤ w ∧ w ≤ 9999) then (s, false) else if atRc (theIm s n) a < 0 then (s, false) else SLat s (atIm s n).toNat (atRc (theIm s n) a).toNat w) else (⟨0, []⟩, false)
section
variable {s : Sp} {n : Int} {a : Ad} {w : Int}
theorem SLater_no (h : ¬ SpOk s) : SLater s n a w = (⟨0, []⟩, false) := by unfold SLater; rw [if_neg h]
theorem SLater_i (h : SpOk s) (hi : atIm s n < 0) : SLater s n a w = (s, false) := by unfold SLater; rw [if_pos h, if_pos hi]
theorem SLater_w (h : SpOk s) (hi : ¬ atIm s n < 0) (hw : ¬ (0 ≤ w ∧ w ≤ 9999)) : SLater s n a w = (s, false) := by unfold SLater; rw [if_pos h, if_neg hi, if_pos hw]
theorem SLater_k (h : SpOk s) (hi : ¬ atIm s n < 0) (hw : 0 ≤ w ∧ w ≤ 9999) (hk : atRc (theIm s n) a < 0) : SLater s n a w = (s, false) := by unfold SLater; rw [if_pos h, if_neg hi, if_neg (fun h => h hw), if_pos hk]
theorem SLater_y (h : SpOk s) (hi : ¬ atIm s n < 0) (hw : 0 ≤ w ∧ w ≤ 9999) (hk : ¬ atRc (theIm s n) a < 0) : SLater s n a w = SLat s (atIm s n).toNat (atRc (theIm s n) a).toNat w := by unfold SLater; rw [if_pos h, if_neg hi, if_neg (fun h => h hw), if_neg hk]
end

theorem aNil_n {s : AS} {K : Kt} : aNilE [] false s K = (K (.t (.v (.bool true))) s ∧ K (.t (.v (.bool false))) s) := propext ⟨fun h => ⟨h.1 rfl, h.2⟩, fun h => ⟨fun _ => h.1, h.2⟩⟩
theorem aNil_c {e : List T} {es : List (List T)} {s : AS} {K : Kt} : aNilE (e :: es) false s K = K (.t (.v (.bool false))) s := propext ⟨fun h => h.2, fun h => ⟨fun e => (by cases e), h⟩⟩
theorem take_addr {xs : List Rc} {i : Nat} (h : i < xs.length) : ((xs.map Rc.addr).take (i + 1)).map encAd = ((xs.map Rc.addr).take i).map encAd ++ [[.v (.string (xs.getD i default).addr.user), .v (.string (xs.getD i default).addr.domain)]] := by
  have e : (xs.map Rc.addr).getD i default = (xs.getD i default).addr := by
    simp only [List.getD_eq_getElem?_getD, List.getElem?_map, List.getElem?_eq_getElem h, Option.map_some, Option.getD_some]
  rw [take_snoc_map encAd (by rw [List.length_map]; exact h), e]
  rfl
noncomputable def findR (s : Sp) (n : Int) (a : Ad) : AV := if atIm s n < 0 then .tup [.t (.v (.int .i64 0)), .t (.v (.int .i64 0)), .t (.v (.bool false))] else .tup [.t (.v (.int .i64 (atIm s n))), .t (.v (.int .i64 (atRc (theIm s n) a))), .t (.v (.bool (decide (atRc (theIm s n) a ≥ 0))))]
theorem findR_solid (s : Sp) (n : Int) (a : Ad) : Solid (findR s n a) := by
  unfold findR
  split
  all_goals
    refine .tup _ fun c hc => ?_
    simp only [List.mem_cons, List.not_mem_nil, or_false] at hc
    rcases hc with rfl | rfl | rfl <;> exact .v _
theorem findR_n {s : Sp} {n : Int} {a : Ad} (h : atIm s n < 0) : findR s n a = .tup [.t (.v (.int .i64 0)), .t (.v (.int .i64 0)), .t (.v (.bool false))] := if_pos h
theorem findR_y {s : Sp} {n : Int} {a : Ad} (h : ¬ atIm s n < 0) : findR s n a = .tup [.t (.v (.int .i64 (atIm s n))), .t (.v (.int .i64 (atRc (theIm s n) a))), .t (.v (.bool (decide (atRc (theIm s n) a ≥ 0))))] := if_neg h
theorem pau_shl {t : Int} (h : 1 ≤ t) : (2 : Int) * 2 ^ (t - 1).toNat = pau t := rfl
def c50 : Ct := ctR (lc AInt l0) (fun p => True) (fun p => .t (.v (.bool (bOf (0 ≤ p.1 ∧ p.1 ≤ 9999)))))
theorem good50 {G : Gt} (hG : OkG G) (h48 : G.e 48 = roEnt 0 c48) : Gd G 50 (roEnt 0 c50) := by
  refine gR (dp := fun _ => true) (fn := Tryz.f50) (n := 1) (fun _ => rfl) (by kernel_rfl) rfl (by kernel_rfl) hG (Nat.le_of_ble_eq_true rfl) (by kernel_rfl) (by decide) (fun _ _ => .v _) ?_
  rintro ⟨n, ⟨⟩⟩ hpre
  simp -implicitDefEqProofs only [Tryz.f50, go_sem, h48, c48, Nat.reduceAdd, Nat.reduceMul, Nat.reduceLeDiff, Nat.reduceEqDiff, reduceCtorEq, Nat.reduceSub, Int.reduceNeg, Nat.reduceMod, Nat.reduceBEq, Nat.reduceLT] at hpre ⊢

  repeat' (first | with_reducible apply And.intro | with_reducible intro _ | ((first | refine brB_split (fun hb => ?_) (fun hb => ?_) | refine aPickB_split (fun hb => ?_) (fun hb => ?_) | refine gB_split (fun hb => ?_) (fun hb => ?_) | refine adB_split (fun hb => ?_) (fun hb => ?_)) <;> simp -implicitDefEqProofs only [hb, go_sem, h48, c48, Nat.reduceAdd, Nat.reduceMul, Nat.reduceLeDiff, Nat.reduceEqDiff, reduceCtorEq, Nat.reduceSub, Int.reduceNeg, Nat.reduceMod, Nat.reduceBEq, Nat.reduceLT] <;> try simp only [qa, qb, qc, qd, qe, qf, qg, bOf_t, bOf_f] at hb))
  all_goals first | rfl | skip

def c76 : Ct := ctR (lc EIm.ag l0) (fun p => OkIm p.1) (fun p => .t (.v (.bool (bOf (ImOk p.1)))))
set_option maxHeartbeats 1600000 in
theorem good76 {G : Gt} (hG : OkG G) (h36 : G.e 36 = roEnt 0 c36) (h48 : G.e 48 = roEnt 0 c48) (h50 : G.e 50 = roEnt 0 c50) (h34 : G.e 34 = roEnt 0 c34) (h115 : G.e 115 = roEnt 0 c115) (h35 : G.e 35 = roEnt 0 c35) : Gd G 76 (roEnt 0 c76) := by
  refine gR (dp := fun _ => true) (fn := Tryz.f76) (n := 1) (fun _ => rfl) (by kernel_rfl) rfl (by kernel_rfl) hG (Nat.le_of_ble_eq_true rfl) (by kernel_rfl) (by decide) (fun _ _ => .v _) ?_
  rintro ⟨x, ⟨⟩⟩ hpre
  simp -implicitDefEqProofs only [Tryz.f76, go_sem, h36, c36, h48, c48, h50, c50, h34, c34, h115, c115, h35, c35, tmap, dmap, List.take_length, List.drop_zero, List.length_take, List.length_drop, List.length_map, List.length_append, List.length_cons, List.length_nil, List.map_append, List.map_nil, List.map_cons, List.nil_append, Nat.zero_add, List.mem_singleton, forall_eq, Bool.not_true, Bool.not_false, bOf_t, bOf_f, Nat.reduceAdd, Nat.reduceMul, Nat.reduceLeDiff, Nat.reduceEqDiff, reduceCtorEq, Nat.reduceSub, Int.reduceNeg, Nat.reduceMod, Nat.reduceBEq, Nat.reduceLT] at hpre ⊢

  obtain ⟨⟨_, hfd⟩, ⟨hl1, hto⟩, ⟨hl2, hbd⟩⟩ := hpre
  have hfd' : x.frm.domain.size ≤ 2000000 := by have : x.frm.domain.size ≤ 1048576 := hfd; omega
  have hbd' : ∀ s ∈ x.body, s.size ≤ 2000000 := fun s hs => by have : s.size ≤ 1048576 := hbd s hs; omega
  have hto' : ∀ j, j < x.to.length → (x.to.getD j default).addr.domain.size ≤ 2000000 := fun j hj => by have : (x.to.getD j default).addr.domain.size ≤ 1048576 := (hto _ (getD_mem hj)).2; omega
  repeat' (first | with_reducible apply And.intro | with_reducible intro _ | ((first | refine brB_split (fun hb => ?_) (fun hb => ?_) | refine aPickB_split (fun hb => ?_) (fun hb => ?_) | refine gB_split (fun hb => ?_) (fun hb => ?_) | refine adB_split (fun hb => ?_) (fun hb => ?_)) <;> simp -implicitDefEqProofs only [hb, go_sem, h36, c36, h48, c48, h50, c50, h34, c34, h115, c115, h35, c35, tmap, dmap, List.take_length, List.drop_zero, List.length_take, List.length_drop, List.length_map, List.length_append, List.length_cons, List.length_nil, List.map_append, List.map_nil, List.map_cons, List.nil_append, Nat.zero_add, List.mem_singleton, forall_eq, Bool.not_true, Bool.not_false, bOf_t, bOf_f, Nat.reduceAdd, Nat.reduceMul, Nat.reduceLeDiff, Nat.reduceEqDiff, reduceCtorEq, Nat.reduceSub, Int.reduceNeg, Nat.reduceMod, Nat.reduceBEq, Nat.reduceLT] <;> try simp only [qa, qb, qc, qd, qe, qf, qg, bOf_t, bOf_f] at hb))
  all_goals first | rfl | skip
  refine run_loop [(3, 1903, true, 2)] (ι := {i : Nat // i ≤ x.to.length ∧ ∀ j, j < i → RcOk (x.to.getD j default)}) (fun p => ⟨[(1, .pb 1001 0), (3, .h 1903), (7, .t (.sl 4 (x.to.map encRc))), (8, .t (.v (.int .i64 x.to.length))), (9, .t (.v (.int .i64 p.1)))], [(1001, some (.box ((encIm x).map .t))), (1903, some (.arr true 2 (((x.to.map Rc.addr).take p.1).map encAd)))]⟩) (fun p => x.to.length - p.1) ⟨0, by simp, by simp⟩ rfl ?_ ?_
  · simp -implicitDefEqProofs only [go_sem, h36, c36, h48, c48, h50, c50, h34, c34, h115, c115, h35, c35, tmap, dmap, List.take_length, List.drop_zero, List.length_take, List.length_drop, List.length_map, List.length_append, List.length_cons, List.length_nil, List.map_append, List.map_nil, List.map_cons, List.nil_append, Nat.zero_add, List.mem_singleton, forall_eq, Bool.not_true, Bool.not_false, bOf_t, bOf_f, Nat.reduceAdd, Nat.reduceMul, Nat.reduceLeDiff, Nat.reduceEqDiff, reduceCtorEq, Nat.reduceSub, Int.reduceNeg, Nat.reduceMod, Nat.reduceBEq, Nat.reduceLT]
    simp
  · rintro ⟨i, hi, hall⟩
    by_cases hlt : (i : Int) < x.to.length
    · have hd := hto' i (by omega)
      have hlen : ((x.to.map Rc.addr).take i).length = i := by simp; omega
      simp -implicitDefEqProofs only [hlt, decide_true, Int.toNat_natCast, go_sem, h36, c36, h48, c48, h50, c50, h34, c34, h115, c115, h35, c35, tmap, dmap, List.take_length, List.drop_zero, List.length_take, List.length_drop, List.length_map, List.length_append, List.length_cons, List.length_nil, List.map_append, List.map_nil, List.map_cons, List.nil_append, Nat.zero_add, List.mem_singleton, forall_eq, Bool.not_true, Bool.not_false, bOf_t, bOf_f, Nat.reduceAdd, Nat.reduceMul, Nat.reduceLeDiff, Nat.reduceEqDiff, reduceCtorEq, Nat.reduceSub, Int.reduceNeg, Nat.reduceMod, Nat.reduceBEq, Nat.reduceLT]
      repeat' (first | with_reducible apply And.intro | with_reducible intro _ | ((first | refine brB_split (fun hb => ?_) (fun hb => ?_) | refine aPickB_split (fun hb => ?_) (fun hb => ?_) | refine gB_split (fun hb => ?_) (fun hb => ?_) | refine adB_split (fun hb => ?_) (fun hb => ?_)) <;> simp -implicitDefEqProofs only [hb, go_sem, h36, c36, h48, c48, h50, c50, h34, c34, h115, c115, h35, c35, tmap, dmap, List.take_length, List.drop_zero, List.length_take, List.length_drop, List.length_map, List.length_append, List.length_cons, List.length_nil, List.map_append, List.map_nil, List.map_cons, List.nil_append, Nat.zero_add, List.mem_singleton, forall_eq, Bool.not_true, Bool.not_false, bOf_t, bOf_f, Nat.reduceAdd, Nat.reduceMul, Nat.reduceLeDiff, Nat.reduceEqDiff, reduceCtorEq, Nat.reduceSub, Int.reduceNeg, Nat.reduceMod, Nat.reduceBEq, Nat.reduceLT] <;> try simp only [qa, qb, qc, qd, qe, qf, qg, bOf_t, bOf_f] at hb))
      all_goals (try simp only [maxLen] at *)
      all_goals first | rfl | omega | assumption | decide | skip
      all_goals first
        | (rw [bOf_n (fun h => by have h1 := h.1 _ (getD_mem (xs := x.to) (j := i) (by omega)); first | exact hb h1.1 | exact hb h1.2.1 | exact hb h1.2.2)]; done)
        | skip
      refine ⟨⟨i + 1, by omega, all_step (P := RcOk) hall ⟨by assumption, by assumption, by assumption⟩⟩, by dsimp only; omega, ?_⟩
      simp -implicitDefEqProofs only [go_sem, h36, c36, h48, c48, h50, c50, h34, c34, h115, c115, h35, c35, tmap, dmap, List.take_length, List.drop_zero, List.length_take, List.length_drop, List.length_map, List.length_append, List.length_cons, List.length_nil, List.map_append, List.map_nil, List.map_cons, List.nil_append, Nat.zero_add, List.mem_singleton, forall_eq, Bool.not_true, Bool.not_false, bOf_t, bOf_f, Nat.reduceAdd, Nat.reduceMul, Nat.reduceLeDiff, Nat.reduceEqDiff, reduceCtorEq, Nat.reduceSub, Int.reduceNeg, Nat.reduceMod, Nat.reduceBEq, Nat.reduceLT]
      simp only [take_addr (show i < x.to.length by omega)]
      repeat' (first | with_reducible apply And.intro | with_reducible intro _ | ((first | refine brB_split (fun hb => ?_) (fun hb => ?_) | refine aPickB_split (fun hb => ?_) (fun hb => ?_) | refine gB_split (fun hb => ?_) (fun hb => ?_) | refine adB_split (fun hb => ?_) (fun hb => ?_)) <;> simp -implicitDefEqProofs only [hb, go_sem, h36, c36, h48, c48, h50, c50, h34, c34, h115, c115, h35, c35, tmap, dmap, List.take_length, List.drop_zero, List.length_take, List.length_drop, List.length_map, List.length_append, List.length_cons, List.length_nil, List.map_append, List.map_nil, List.map_cons, List.nil_append, Nat.zero_add, List.mem_singleton, forall_eq, Bool.not_true, Bool.not_false, bOf_t, bOf_f, Nat.reduceAdd, Nat.reduceMul, Nat.reduceLeDiff, Nat.reduceEqDiff, reduceCtorEq, Nat.reduceSub, Int.reduceNeg, Nat.reduceMod, Nat.reduceBEq, Nat.reduceLT] <;> try simp only [qa, qb, qc, qd, qe, qf, qg, bOf_t, bOf_f] at hb))
      all_goals first | rfl | (simp; done) | (simp; omega)
    · have hA : ∀ r ∈ x.to, RcOk r := mem_getD fun j hj => hall j (by omega)
      simp -implicitDefEqProofs only [hlt, decide_false, go_sem, h36, c36, h48, c48, h50, c50, h34, c34, h115, c115, h35, c35, tmap, dmap, List.take_length, List.drop_zero, List.length_take, List.length_drop, List.length_map, List.length_append, List.length_cons, List.length_nil, List.map_append, List.map_nil, List.map_cons, List.nil_append, Nat.zero_add, List.mem_singleton, forall_eq, Bool.not_true, Bool.not_false, bOf_t, bOf_f, Nat.reduceAdd, Nat.reduceMul, Nat.reduceLeDiff, Nat.reduceEqDiff, reduceCtorEq, Nat.reduceSub, Int.reduceNeg, Nat.reduceMod, Nat.reduceBEq, Nat.reduceLT]
      repeat' (first | with_reducible apply And.intro | with_reducible intro _ | ((first | refine brB_split (fun hb => ?_) (fun hb => ?_) | refine aPickB_split (fun hb => ?_) (fun hb => ?_) | refine gB_split (fun hb => ?_) (fun hb => ?_) | refine adB_split (fun hb => ?_) (fun hb => ?_)) <;> simp -implicitDefEqProofs only [hb, go_sem, h36, c36, h48, c48, h50, c50, h34, c34, h115, c115, h35, c35, tmap, dmap, List.take_length, List.drop_zero, List.length_take, List.length_drop, List.length_map, List.length_append, List.length_cons, List.length_nil, List.map_append, List.map_nil, List.map_cons, List.nil_append, Nat.zero_add, List.mem_singleton, forall_eq, Bool.not_true, Bool.not_false, bOf_t, bOf_f, Nat.reduceAdd, Nat.reduceMul, Nat.reduceLeDiff, Nat.reduceEqDiff, reduceCtorEq, Nat.reduceSub, Int.reduceNeg, Nat.reduceMod, Nat.reduceBEq, Nat.reduceLT] <;> try simp only [qa, qb, qc, qd, qe, qf, qg, bOf_t, bOf_f] at hb))
      all_goals (try simp only [maxLen] at *)
      all_goals first | rfl | omega | assumption | decide | exact hbd' _ (by assumption) | skip
      all_goals (try rw [List.take_of_length_le (by rw [List.length_map]; omega)] at hb)
      all_goals first
        | (rw [bOf_congr]
           exact ⟨fun h => ⟨hA, hb, by assumption, by assumption, by omega, h⟩, fun h => h.2.2.2.2.2⟩)
        | (rw [bOf_n]
           intro h
           first
             | exact hb h.2.1
             | exact hb h.2.2.1
             | exact hb h.2.2.2.1
             | exact hb (by have := h.2.2.2.2.1; omega))
        | trace_state

def c32 : Ct := ctR (lc ESp.ag l0) (fun p => OkSp p.1) (fun p => .t (.v (.bool (bOf (SpOk p.1)))))
set_option maxHeartbeats 1600000 in
theorem good32 {G : Gt} (hG : OkG G) (h76 : G.e 76 = roEnt 0 c76) (h48 : G.e 48 = roEnt 0 c48) : Gd G 32 (roEnt 0 c32) := by
  refine gR (dp := fun _ => true) (fn := Tryz.f32) (n := 1) (fun _ => rfl) (by kernel_rfl) rfl (by kernel_rfl) hG (Nat.le_of_ble_eq_true rfl) (by kernel_rfl) (by decide) (fun _ _ => .v _) ?_
  rintro ⟨s, ⟨⟩⟩ hpre
  simp -implicitDefEqProofs only [Tryz.f32, go_sem, h76, c76, h48, c48, tmap, dmap, List.take_length, List.drop_zero, List.length_take, List.length_drop, List.length_map, List.length_append, List.length_cons, List.length_nil, List.map_append, List.map_nil, List.map_cons, List.nil_append, Nat.zero_add, List.mem_singleton, forall_eq, Bool.not_true, Bool.not_false, bOf_t, bOf_f, Nat.reduceAdd, Nat.reduceMul, Nat.reduceLeDiff, Nat.reduceEqDiff, reduceCtorEq, Nat.reduceSub, Int.reduceNeg, Nat.reduceMod, Nat.reduceBEq, Nat.reduceLT] at hpre ⊢

  have hok' : OkL OkIm s.items := hpre
  have hmx := hok'.1
  repeat' (first | with_reducible apply And.intro | with_reducible intro _ | ((first | refine brB_split (fun hb => ?_) (fun hb => ?_) | refine aPickB_split (fun hb => ?_) (fun hb => ?_) | refine gB_split (fun hb => ?_) (fun hb => ?_) | refine adB_split (fun hb => ?_) (fun hb => ?_)) <;> simp -implicitDefEqProofs only [hb, go_sem, h76, c76, h48, c48, tmap, dmap, List.take_length, List.drop_zero, List.length_take, List.length_drop, List.length_map, List.length_append, List.length_cons, List.length_nil, List.map_append, List.map_nil, List.map_cons, List.nil_append, Nat.zero_add, List.mem_singleton, forall_eq, Bool.not_true, Bool.not_false, bOf_t, bOf_f, Nat.reduceAdd, Nat.reduceMul, Nat.reduceLeDiff, Nat.reduceEqDiff, reduceCtorEq, Nat.reduceSub, Int.reduceNeg, Nat.reduceMod, Nat.reduceBEq, Nat.reduceLT] <;> try simp only [qa, qb, qc, qd, qe, qf, qg, bOf_t, bOf_f] at hb))
  all_goals first | rfl | skip
  refine run_loop [] (ι := {i : Nat // i ≤ s.items.length ∧ (∀ j, j < i → ImOk (s.items.getD j default) ∧ (s.items.getD j default).id ≤ s.last) ∧ ∀ j, 0 < j → j < i → (s.items.getD (j - 1) default).id < (s.items.getD j default).id}) (fun p => ⟨[(1, .pb 1001 0), (3, .t (.v (.int .i64 (if p.1 = 0 then 0 else (s.items.getD (p.1 - 1) default).id)))), (7, .t (.sl 5 (s.items.map encIm))), (8, .t (.v (.int .i64 s.items.length))), (9, .t (.v (.int .i64 p.1)))], [(1001, some (.box ((encSp s).map .t)))]⟩) (fun p => s.items.length - p.1) ⟨0, by simp, by simp, by simp⟩ rfl ?_ ?_
  · simp -implicitDefEqProofs only [go_sem, h76, c76, h48, c48, tmap, dmap, List.take_length, List.drop_zero, List.length_take, List.length_drop, List.length_map, List.length_append, List.length_cons, List.length_nil, List.map_append, List.map_nil, List.map_cons, List.nil_append, Nat.zero_add, List.mem_singleton, forall_eq, Bool.not_true, Bool.not_false, bOf_t, bOf_f, Nat.reduceAdd, Nat.reduceMul, Nat.reduceLeDiff, Nat.reduceEqDiff, reduceCtorEq, Nat.reduceSub, Int.reduceNeg, Nat.reduceMod, Nat.reduceBEq, Nat.reduceLT]
    simp
  · rintro ⟨i, hi, hall, hasc⟩
    have hgen : ∀ L : Int, L = (if i = 0 then 0 else (s.items.getD (i - 1) default).id) → True := fun _ _ => trivial
    obtain ⟨L, hL⟩ : ∃ L : Int, L = (if i = 0 then 0 else (s.items.getD (i - 1) default).id) := ⟨_, rfl⟩
    by_cases hlt : (i : Int) < s.items.length
    · have hok := hok'.at (i := i) (by omega)
      dsimp only
      rw [← hL]
      simp -implicitDefEqProofs only [hlt, decide_true, Int.toNat_natCast, go_sem, h76, c76, h48, c48, tmap, dmap, List.take_length, List.drop_zero, List.length_take, List.length_drop, List.length_map, List.length_append, List.length_cons, List.length_nil, List.map_append, List.map_nil, List.map_cons, List.nil_append, Nat.zero_add, List.mem_singleton, forall_eq, Bool.not_true, Bool.not_false, bOf_t, bOf_f, Nat.reduceAdd, Nat.reduceMul, Nat.reduceLeDiff, Nat.reduceEqDiff, reduceCtorEq, Nat.reduceSub, Int.reduceNeg, Nat.reduceMod, Nat.reduceBEq, Nat.reduceLT]
      repeat' (first | with_reducible apply And.intro | with_reducible intro _ | ((first | refine brB_split (fun hb => ?_) (fun hb => ?_) | refine aPickB_split (fun hb => ?_) (fun hb => ?_) | refine gB_split (fun hb => ?_) (fun hb => ?_) | refine adB_split (fun hb => ?_) (fun hb => ?_)) <;> simp -implicitDefEqProofs only [hb, go_sem, h76, c76, h48, c48, tmap, dmap, List.take_length, List.drop_zero, List.length_take, List.length_drop, List.length_map, List.length_append, List.length_cons, List.length_nil, List.map_append, List.map_nil, List.map_cons, List.nil_append, Nat.zero_add, List.mem_singleton, forall_eq, Bool.not_true, Bool.not_false, bOf_t, bOf_f, Nat.reduceAdd, Nat.reduceMul, Nat.reduceLeDiff, Nat.reduceEqDiff, reduceCtorEq, Nat.reduceSub, Int.reduceNeg, Nat.reduceMod, Nat.reduceBEq, Nat.reduceLT] <;> try simp only [qa, qb, qc, qd, qe, qf, qg, bOf_t, bOf_f] at hb))
      all_goals (try simp only [maxLen] at *)
      all_goals first | rfl | omega | assumption | decide | skip
      all_goals (try have h0 := (show ImOk (s.items.getD i default) from by assumption).2.2.1)
      all_goals first
        | (rw [bOf_n]
           intro h
           have h1 := h.1 _ (getD_mem (xs := s.items) (j := i) (by omega))
           first
             | exact hb h1.1
             | omega
             | (by_cases e : i = 0
                · rw [if_pos e] at hL; omega
                · rw [if_neg e] at hL
                  have h2 := h.2.1 i (by omega) (by omega)
                  omega))
        | skip
      refine ⟨⟨i + 1, by omega, all_step (P := fun x : Im => ImOk x ∧ x.id ≤ s.last) hall ⟨by assumption, by omega⟩, fun j h0 hj => ?_⟩, by dsimp only; omega, ?_⟩
      · by_cases e : j = i
        · subst e
          rw [if_neg (by omega)] at hL
          omega
        · exact hasc j h0 (by omega)
      · simp -implicitDefEqProofs only [go_sem, h76, c76, h48, c48, tmap, dmap, List.take_length, List.drop_zero, List.length_take, List.length_drop, List.length_map, List.length_append, List.length_cons, List.length_nil, List.map_append, List.map_nil, List.map_cons, List.nil_append, Nat.zero_add, List.mem_singleton, forall_eq, Bool.not_true, Bool.not_false, bOf_t, bOf_f, Nat.reduceAdd, Nat.reduceMul, Nat.reduceLeDiff, Nat.reduceEqDiff, reduceCtorEq, Nat.reduceSub, Int.reduceNeg, Nat.reduceMod, Nat.reduceBEq, Nat.reduceLT]
        simp
    · dsimp only
      rw [← hL]
      simp -implicitDefEqProofs only [hlt, decide_false, go_sem, h76, c76, h48, c48, tmap, dmap, List.take_length, List.drop_zero, List.length_take, List.length_drop, List.length_map, List.length_append, List.length_cons, List.length_nil, List.map_append, List.map_nil, List.map_cons, List.nil_append, Nat.zero_add, List.mem_singleton, forall_eq, Bool.not_true, Bool.not_false, bOf_t, bOf_f, Nat.reduceAdd, Nat.reduceMul, Nat.reduceLeDiff, Nat.reduceEqDiff, reduceCtorEq, Nat.reduceSub, Int.reduceNeg, Nat.reduceMod, Nat.reduceBEq, Nat.reduceLT]
      repeat' (first | with_reducible apply And.intro | with_reducible intro _ | ((first | refine brB_split (fun hb => ?_) (fun hb => ?_) | refine aPickB_split (fun hb => ?_) (fun hb => ?_) | refine gB_split (fun hb => ?_) (fun hb => ?_) | refine adB_split (fun hb => ?_) (fun hb => ?_)) <;> simp -implicitDefEqProofs only [hb, go_sem, h76, c76, h48, c48, tmap, dmap, List.take_length, List.drop_zero, List.length_take, List.length_drop, List.length_map, List.length_append, List.length_cons, List.length_nil, List.map_append, List.map_nil, List.map_cons, List.nil_append, Nat.zero_add, List.mem_singleton, forall_eq, Bool.not_true, Bool.not_false, bOf_t, bOf_f, Nat.reduceAdd, Nat.reduceMul, Nat.reduceLeDiff, Nat.reduceEqDiff, reduceCtorEq, Nat.reduceSub, Int.reduceNeg, Nat.reduceMod, Nat.reduceBEq, Nat.reduceLT] <;> try simp only [qa, qb, qc, qd, qe, qf, qg, bOf_t, bOf_f] at hb))
      all_goals (try simp only [maxLen] at *)
      all_goals first | rfl | omega | assumption | decide | skip
      · refine congrArg (fun b => T.v (Value.bool b)) ?_
        rw [← bOf_d, bOf_congr]
        exact ⟨fun h => ⟨mem_getD fun j hj => hall j (by omega), fun j h0 hj => hasc j h0 (by omega), hb, by omega⟩, fun h => by have := h.2.2.2; omega⟩
      · rw [bOf_n (fun h => hb h.2.2.1)]


theorem uT {p : Prop} (h : p) : T.v (Value.bool true) = T.v (Value.bool (bOf p)) := by rw [bOf_y h]
theorem uF {p : Prop} (h : ¬ p) : T.v (Value.bool false) = T.v (Value.bool (bOf p)) := by rw [bOf_n h]
theorem uE {p q : Prop} (h : p ↔ q) : T.v (Value.bool (bOf p)) = T.v (Value.bool (bOf q)) := by rw [bOf_congr h]
theorem uN {p q : Prop} (h : ¬ p ↔ q) : T.v (Value.bool (!bOf p)) = T.v (Value.bool (bOf q)) := by rw [bOf_not, bOf_congr h]
theorem uB {b : Bool} {q : Prop} (h : b = true ↔ q) : T.v (Value.bool b) = T.v (Value.bool (bOf q)) := by
  cases b
  · exact uF (fun q => by have := h.2 q; simp at this)
  · exact uT (h.1 rfl)
theorem uD {p q : Prop} [Decidable p] (h : p ↔ q) : T.v (Value.bool (decide p)) = T.v (Value.bool (bOf q)) := by rw [← bOf_d, bOf_congr h]
/-- Strings by their bytes. -/
def cmpS (a b : ByteArray) : Int := Lib.compareBytes (bl a) (bl b)
theorem cmp_lt : ∀ a b : List UInt8, (Lib.compareBytes a b < 0) ↔ Op.bytesLess a b = true
  | [], [] => by simp [Lib.compareBytes, Op.bytesLess]
  | [], _ :: _ => by simp [Lib.compareBytes, Op.bytesLess]
  | _ :: _, [] => by simp [Lib.compareBytes, Op.bytesLess]
  | a :: x, b :: y => by
    have ih := cmp_lt x y
    simp only [Lib.compareBytes, Op.bytesLess, Bool.or_eq_true, Bool.and_eq_true, decide_eq_true_eq, beq_iff_eq]
    by_cases h1 : a < b
    · simp [h1]
    · by_cases h2 : b < a
      · have h3 : ¬ a = b := fun e => by subst e; exact absurd h2 (UInt8.lt_irrefl _)
        simp [h1, h2, h3]
      · have h3 : a = b := UInt8.le_antisymm (UInt8.not_lt.1 h2) (UInt8.not_lt.1 h1)
        have hir := UInt8.lt_irrefl b
        simp only [h3, hir, if_false, false_or, true_and]
        exact ih
theorem cmp_0 : ∀ a b : List UInt8, (Lib.compareBytes a b = 0) ↔ a = b
  | [], [] => by simp [Lib.compareBytes]
  | [], _ :: _ => by simp [Lib.compareBytes]
  | _ :: _, [] => by simp [Lib.compareBytes]
  | a :: x, b :: y => by
    have ih := cmp_0 x y
    simp only [Lib.compareBytes, List.cons.injEq]
    by_cases h1 : a < b
    · have h3 : ¬ a = b := fun e => by subst e; exact absurd h1 (UInt8.lt_irrefl _)
      simp [h1, h3]
    · by_cases h2 : b < a
      · have h3 : ¬ a = b := fun e => by subst e; exact absurd h2 (UInt8.lt_irrefl _)
        simp [h1, h2, h3]
      · have h3 : a = b := UInt8.le_antisymm (UInt8.not_lt.1 h2) (UInt8.not_lt.1 h1)
        simp only [h3, true_and]
        rw [if_neg (UInt8.lt_irrefl b), if_neg (UInt8.lt_irrefl b)]
        exact ih
theorem cmpS_lt (a b : ByteArray) : cmpS a b < 0 ↔ strLt a b = true := by
  unfold cmpS strLt
  rw [cmp_lt, toList_bl, toList_bl]
theorem cmpS_0 (a b : ByteArray) : cmpS a b = 0 ↔ a = b := by
  unfold cmpS
  rw [cmp_0]
  exact ⟨bl_inj, fun e => by rw [e]⟩
theorem cmpS_range : ∀ a b : List UInt8, -1 ≤ Lib.compareBytes a b ∧ Lib.compareBytes a b ≤ 1
  | [], [] => by simp [Lib.compareBytes]
  | [], _ :: _ => by simp [Lib.compareBytes]
  | _ :: _, [] => by simp [Lib.compareBytes]
  | a :: x, b :: y => by
    have ih := cmpS_range x y
    simp only [Lib.compareBytes]
    split
    · omega
    · split
      · omega
      · exact ih
def adLt (a b : Ad) : Prop := strLt a.domain b.domain = true ∨ (a.domain = b.domain ∧ strLt a.user b.user = true)
def byD (a b : Ad) : Int := if cmpS a.domain b.domain = 0 then cmpS a.user b.user else cmpS a.domain b.domain
theorem byD_lt (a b : Ad) : byD a b < 0 ↔ adLt a b := by
  unfold byD adLt
  by_cases h : cmpS a.domain b.domain = 0
  · rw [if_pos h, cmpS_lt]
    have h2 : ¬ strLt a.domain b.domain = true := fun q => by have := (cmpS_lt _ _).2 q; omega
    exact ⟨fun q => .inr ⟨(cmpS_0 _ _).1 h, q⟩, fun q => q.elim (fun q => absurd q h2) fun q => q.2⟩
  · rw [if_neg h, cmpS_lt]
    exact ⟨.inl, fun q => q.elim id fun q => absurd ((cmpS_0 _ _).2 q.1) h⟩
def orI : List Int → Int
  | [] => 0
  | x :: r => if x = 0 then orI r else x
theorem decI2 {x y : Int} : EInt.decL [[.v (.int .i64 x)], [.v (.int .i64 y)]] = some [x, y] := EInt.decL_map [x, y]
theorem orI_step {xs : List Int} {i : Nat} (h : i < xs.length) : orI (xs.drop i) = if xs.getD i default = 0 then orI (xs.drop (i + 1)) else xs.getD i default := by
  rw [getD_drop h]; rfl
def c141 : Ct := ctR (lc AStr (lc AStr l0)) (fun _ => True) (fun p => .t (.v (.int .i64 (cmpS p.1 p.2.1))))
theorem good141 (m : Int) : GoodX Tryz.prog m 141 c141 := GoodX.of (r := fun (p : ByteArray × ByteArray × Unit) => .int .i64 (cmpS p.1 p.2.1)) (fun _ => trivial) fun p _ => by
  obtain ⟨s, c, ⟨⟩⟩ := p
  intro w pr vs hgl hv
  have := two_args hv
  subst this
  have he : Extern.find Tryz.f141 = some Extern.BytealgCompare.compare := by kernel_rfl
  rw [run_callFunc_extern (fn := Tryz.f141) (by kernel_rfl) (by kernel_rfl) rfl (by kernel_rfl) he]
  have h := Lib.run_compareString (P := Tryz.prog) s c w
  rw [show ([Value.string s, Value.string c].toArray) = #[.string s, .string c] from rfl, h]
  rfl
def CfOk (c : Cf) : Prop := (∀ s ∈ c.own, Dom s) ∧ (∀ w ∈ c.ways, Dom w.ends ∧ Dom w.to) ∧ Dom c.name ∧ (c.own.length : Int) ≤ 3 ∧ (c.ways.length : Int) ≤ 4
def c118 : Ct := ctR (lc AStr (lc AStr l0)) (fun p => True) (fun p => .t (.v (.int .i64 (cmpS p.1 p.2.1))))
theorem good118 {G : Gt} (hG : OkG G) (h141 : G.e 141 = roEnt 3 c141) : Gd G 118 (roEnt 0 c118) := by
  refine gR (dp := fun _ => true) (fn := Tryz.f118) (n := 2) (fun _ => rfl) (by kernel_rfl) rfl (by kernel_rfl) hG (Nat.le_of_ble_eq_true rfl) (by kernel_rfl) (by decide) (fun _ _ => .v _) ?_
  rintro ⟨a, b, ⟨⟩⟩ hpre
  simp -implicitDefEqProofs only [Tryz.f118, go_sem, h141, c141, Nat.reduceAdd, Nat.reduceMul, Nat.reduceLeDiff, Nat.reduceEqDiff, reduceCtorEq, Nat.reduceSub, Int.reduceNeg, Nat.reduceMod, Nat.reduceBEq, Nat.reduceLT] at hpre ⊢

  repeat' (first | with_reducible apply And.intro | with_reducible intro _ | ((first | refine brB_split (fun hb => ?_) (fun hb => ?_) | refine aPickB_split (fun hb => ?_) (fun hb => ?_) | refine gB_split (fun hb => ?_) (fun hb => ?_) | refine adB_split (fun hb => ?_) (fun hb => ?_)) <;> simp -implicitDefEqProofs only [hb, go_sem, h141, c141, Nat.reduceAdd, Nat.reduceMul, Nat.reduceLeDiff, Nat.reduceEqDiff, reduceCtorEq, Nat.reduceSub, Int.reduceNeg, Nat.reduceMod, Nat.reduceBEq, Nat.reduceLT] <;> try simp only [qa, qb, qc, qd, qe, qf, qg, bOf_t, bOf_f] at hb))
  all_goals first | rfl | omega | trace_state

def c84 : Ct := ctR (lc AStr (lc AStr l0)) (fun p => True) (fun p => .t (.v (.int .i64 (cmpS p.1 p.2.1))))
theorem good84 {G : Gt} (hG : OkG G) (h118 : G.e 118 = roEnt 0 c118) : Gd G 84 (roEnt 0 c84) := by
  refine gR (dp := fun _ => true) (fn := Tryz.f84) (n := 2) (fun _ => rfl) (by kernel_rfl) rfl (by kernel_rfl) hG (Nat.le_of_ble_eq_true rfl) (by kernel_rfl) (by decide) (fun _ _ => .v _) ?_
  rintro ⟨a, b, ⟨⟩⟩ hpre
  simp -implicitDefEqProofs only [Tryz.f84, go_sem, h118, c118, Nat.reduceAdd, Nat.reduceMul, Nat.reduceLeDiff, Nat.reduceEqDiff, reduceCtorEq, Nat.reduceSub, Int.reduceNeg, Nat.reduceMod, Nat.reduceBEq, Nat.reduceLT] at hpre ⊢

  repeat' (first | with_reducible apply And.intro | with_reducible intro _ | ((first | refine brB_split (fun hb => ?_) (fun hb => ?_) | refine aPickB_split (fun hb => ?_) (fun hb => ?_) | refine gB_split (fun hb => ?_) (fun hb => ?_) | refine adB_split (fun hb => ?_) (fun hb => ?_)) <;> simp -implicitDefEqProofs only [hb, go_sem, h118, c118, Nat.reduceAdd, Nat.reduceMul, Nat.reduceLeDiff, Nat.reduceEqDiff, reduceCtorEq, Nat.reduceSub, Int.reduceNeg, Nat.reduceMod, Nat.reduceBEq, Nat.reduceLT] <;> try simp only [qa, qb, qc, qd, qe, qf, qg, bOf_t, bOf_f] at hb))
  all_goals first | rfl | omega | trace_state

def c83 : Ct := ctR (lc EInt.asl l0) (fun p => True) (fun p => .t (.v (.int .i64 (orI p.1))))
theorem good83 {G : Gt} (hG : OkG G) : Gd G 83 (roEnt 0 c83) := by
  refine gR (dp := fun _ => true) (fn := Tryz.f83) (n := 1) (fun _ => rfl) (by kernel_rfl) rfl (by kernel_rfl) hG (Nat.le_of_ble_eq_true rfl) (by kernel_rfl) (by decide) (fun _ _ => .v _) ?_
  rintro ⟨xs, ⟨⟩⟩ hpre
  simp -implicitDefEqProofs only [Tryz.f83, go_sem, List.length_map, Nat.reduceAdd, Nat.reduceMul, Nat.reduceLeDiff, Nat.reduceEqDiff, reduceCtorEq, Nat.reduceSub, Int.reduceNeg, Nat.reduceMod, Nat.reduceBEq, Nat.reduceLT] at hpre ⊢

  repeat' (first | with_reducible apply And.intro | with_reducible intro _ | ((first | refine brB_split (fun hb => ?_) (fun hb => ?_) | refine aPickB_split (fun hb => ?_) (fun hb => ?_) | refine gB_split (fun hb => ?_) (fun hb => ?_) | refine adB_split (fun hb => ?_) (fun hb => ?_)) <;> simp -implicitDefEqProofs only [hb, go_sem, List.length_map, Nat.reduceAdd, Nat.reduceMul, Nat.reduceLeDiff, Nat.reduceEqDiff, reduceCtorEq, Nat.reduceSub, Int.reduceNeg, Nat.reduceMod, Nat.reduceBEq, Nat.reduceLT] <;> try simp only [qa, qb, qc, qd, qe, qf, qg, bOf_t, bOf_f] at hb))
  all_goals first | rfl | omega | skip
  refine run_loop [] (ι := {i : Nat // i ≤ xs.length ∧ orI xs = orI (xs.drop i)}) (fun p => ⟨[(3, .t (.v (.int .i64 0))), (6, .t (.sl 1 (xs.map encInt))), (7, .t (.v (.int .i64 xs.length))), (8, .t (.v (.int .i64 p.1)))], []⟩) (fun p => xs.length - p.1) ⟨0, by simp, rfl⟩ rfl ?_ ?_
  · simp -implicitDefEqProofs only [go_sem, List.length_map, Nat.reduceAdd, Nat.reduceMul, Nat.reduceLeDiff, Nat.reduceEqDiff, reduceCtorEq, Nat.reduceSub, Int.reduceNeg, Nat.reduceMod, Nat.reduceBEq, Nat.reduceLT]
    simp
  · rintro ⟨i, hi, hor⟩
    by_cases hlt : (i : Int) < xs.length
    · have hs := orI_step (xs := xs) (i := i) (by omega)
      simp -implicitDefEqProofs only [hlt, decide_true, Int.toNat_natCast, go_sem, List.length_map, Nat.reduceAdd, Nat.reduceMul, Nat.reduceLeDiff, Nat.reduceEqDiff, reduceCtorEq, Nat.reduceSub, Int.reduceNeg, Nat.reduceMod, Nat.reduceBEq, Nat.reduceLT]
      repeat' (first | with_reducible apply And.intro | with_reducible intro _ | ((first | refine brB_split (fun hb => ?_) (fun hb => ?_) | refine aPickB_split (fun hb => ?_) (fun hb => ?_) | refine gB_split (fun hb => ?_) (fun hb => ?_) | refine adB_split (fun hb => ?_) (fun hb => ?_)) <;> simp -implicitDefEqProofs only [hb, go_sem, List.length_map, Nat.reduceAdd, Nat.reduceMul, Nat.reduceLeDiff, Nat.reduceEqDiff, reduceCtorEq, Nat.reduceSub, Int.reduceNeg, Nat.reduceMod, Nat.reduceBEq, Nat.reduceLT] <;> try simp only [qa, qb, qc, qd, qe, qf, qg, bOf_t, bOf_f] at hb))
      all_goals (try simp only [maxLen] at *)
      all_goals first | rfl | omega | skip
      · rw [hor, hs, if_neg (by assumption)]
      · refine ⟨⟨i + 1, by omega, by rw [hor, hs, if_pos (by simpa using hb)]⟩, by dsimp only; omega, ?_⟩
        simp -implicitDefEqProofs only [go_sem, List.length_map, Nat.reduceAdd, Nat.reduceMul, Nat.reduceLeDiff, Nat.reduceEqDiff, reduceCtorEq, Nat.reduceSub, Int.reduceNeg, Nat.reduceMod, Nat.reduceBEq, Nat.reduceLT]
        simp
    · simp -implicitDefEqProofs only [hlt, decide_false, go_sem, List.length_map, Nat.reduceAdd, Nat.reduceMul, Nat.reduceLeDiff, Nat.reduceEqDiff, reduceCtorEq, Nat.reduceSub, Int.reduceNeg, Nat.reduceMod, Nat.reduceBEq, Nat.reduceLT]
      repeat' (first | with_reducible apply And.intro | with_reducible intro _ | ((first | refine brB_split (fun hb => ?_) (fun hb => ?_) | refine aPickB_split (fun hb => ?_) (fun hb => ?_) | refine gB_split (fun hb => ?_) (fun hb => ?_) | refine adB_split (fun hb => ?_) (fun hb => ?_)) <;> simp -implicitDefEqProofs only [hb, go_sem, List.length_map, Nat.reduceAdd, Nat.reduceMul, Nat.reduceLeDiff, Nat.reduceEqDiff, reduceCtorEq, Nat.reduceSub, Int.reduceNeg, Nat.reduceMod, Nat.reduceBEq, Nat.reduceLT] <;> try simp only [qa, qb, qc, qd, qe, qf, qg, bOf_t, bOf_f] at hb))
      all_goals first | rfl | omega | skip
      rw [hor, List.drop_eq_nil_of_le (by omega)]
      rfl

def c39 : Ct := ctR (lc EAd.ag (lc EAd.ag l0)) (fun p => True) (fun p => .t (.v (.int .i64 (byD p.1 p.2.1))))
theorem good39 {G : Gt} (hG : OkG G) (h84 : G.e 84 = roEnt 0 c84) (h83 : G.e 83 = roEnt 0 c83) : Gd G 39 (roEnt 0 c39) := by
  refine gR (dp := fun _ => true) (fn := Tryz.f39) (n := 2) (fun _ => rfl) (by kernel_rfl) rfl (by kernel_rfl) hG (Nat.le_of_ble_eq_true rfl) (by kernel_rfl) (by decide) (fun _ _ => .v _) ?_
  rintro ⟨a, b, ⟨⟩⟩ hpre
  simp -implicitDefEqProofs only [Tryz.f39, go_sem, h84, c84, h83, c83, decI2, Nat.reduceAdd, Nat.reduceMul, Nat.reduceLeDiff, Nat.reduceEqDiff, reduceCtorEq, Nat.reduceSub, Int.reduceNeg, Nat.reduceMod, Nat.reduceBEq, Nat.reduceLT] at hpre ⊢

  repeat' (first | with_reducible apply And.intro | with_reducible intro _ | ((first | refine brB_split (fun hb => ?_) (fun hb => ?_) | refine aPickB_split (fun hb => ?_) (fun hb => ?_) | refine gB_split (fun hb => ?_) (fun hb => ?_) | refine adB_split (fun hb => ?_) (fun hb => ?_)) <;> simp -implicitDefEqProofs only [hb, go_sem, h84, c84, h83, c83, decI2, Nat.reduceAdd, Nat.reduceMul, Nat.reduceLeDiff, Nat.reduceEqDiff, reduceCtorEq, Nat.reduceSub, Int.reduceNeg, Nat.reduceMod, Nat.reduceBEq, Nat.reduceLT] <;> try simp only [qa, qb, qc, qd, qe, qf, qg, bOf_t, bOf_f] at hb))
  all_goals first | rfl | omega | skip
  all_goals
    refine congrArg (fun z => T.v (Value.int .i64 z)) ?_
    simp only [orI, byD]
    by_cases h : cmpS a.domain b.domain = 0
    · rw [if_pos h, if_pos h]
      by_cases h2 : cmpS a.user b.user = 0
      · rw [if_pos h2, h2]
      · rw [if_neg h2]
    · rw [if_neg h, if_neg h]

def c62 : Ct := ctR (lc EAd.ag (lc EAd.ag l0)) (fun p => True) (fun p => .t (.v (.bool (bOf (adLt p.1 p.2.1)))))
theorem good62 {G : Gt} (hG : OkG G) : Gd G 62 (roEnt 0 c62) := by
  refine gR (dp := fun _ => true) (fn := Tryz.f62) (n := 2) (fun _ => rfl) (by kernel_rfl) rfl (by kernel_rfl) hG (Nat.le_of_ble_eq_true rfl) (by kernel_rfl) (by decide) (fun _ _ => .v _) ?_
  rintro ⟨a, b, ⟨⟩⟩ hpre
  simp -implicitDefEqProofs only [Tryz.f62, go_sem, Nat.reduceAdd, Nat.reduceMul, Nat.reduceLeDiff, Nat.reduceEqDiff, reduceCtorEq, Nat.reduceSub, Int.reduceNeg, Nat.reduceMod, Nat.reduceBEq, Nat.reduceLT] at hpre ⊢

  repeat' (first | with_reducible apply And.intro | with_reducible intro _ | ((first | refine brB_split (fun hb => ?_) (fun hb => ?_) | refine aPickB_split (fun hb => ?_) (fun hb => ?_) | refine gB_split (fun hb => ?_) (fun hb => ?_) | refine adB_split (fun hb => ?_) (fun hb => ?_)) <;> simp -implicitDefEqProofs only [hb, go_sem, Nat.reduceAdd, Nat.reduceMul, Nat.reduceLeDiff, Nat.reduceEqDiff, reduceCtorEq, Nat.reduceSub, Int.reduceNeg, Nat.reduceMod, Nat.reduceBEq, Nat.reduceLT] <;> try simp only [qa, qb, qc, qd, qe, qf, qg, bOf_t, bOf_f] at hb))
  all_goals first | rfl | omega | skip
  all_goals first
    | exact uT (.inl (by assumption))
    | exact uB ⟨fun q => .inr ⟨by assumption, q⟩, fun q => q.elim (fun q => by simp_all) fun q => q.2⟩
    | exact uF (fun q => q.elim (fun q => by simp_all) fun q => by simp_all)
    | trace_state


def BxOk (b : Bx) : Prop := (∀ g ∈ b.mails, (AdOk g.frm ∨ AdNull g.frm) ∧ BdOk g.body) ∧ AdOk b.addr
def BxAt (h : Hs) (j : Nat) : Prop := BxOk (h.boxes.getD j default) ∧ (0 < j → adLt (h.boxes.getD (j - 1) default).addr (h.boxes.getD j default).addr) ∧ (h.boxes.getD j default).addr.domain ∈ h.conf.own
def HsOk (h : Hs) : Prop := (∀ j, j < h.boxes.length → BxAt h j) ∧ CfOk h.conf ∧ SpOk h.spool
theorem bx_step {P : Nat → Prop} {i : Nat} (h : ∀ j, j < i → P j) (hi : P i) : ∀ j, j < i + 1 → P j := fun j hj => by
  by_cases e : j = i
  · rw [e]; exact hi
  · exact h j (by omega)
theorem not_mem {xs : List ByteArray} {a : ByteArray} (h : ∀ j, j < xs.length → ¬ xs.getD j default = a) : ¬ a ∈ xs := fun hm => by
  obtain ⟨j, hj, e⟩ := List.getElem_of_mem hm
  exact h j hj (by simp [hj, e])
def c64 : Ct := ctR (lc ECf.ag l0) (fun p => True) (fun p => .t (.v (.bool (bOf (CfOk p.1)))))
set_option maxHeartbeats 1600000 in
theorem good64 {G : Gt} (hG : OkG G) (h106 : G.e 106 = roEnt 0 c106) : Gd G 64 (roEnt 0 c64) := by
  refine gR (dp := fun _ => true) (fn := Tryz.f64) (n := 1) (fun _ => rfl) (by kernel_rfl) rfl (by kernel_rfl) hG (Nat.le_of_ble_eq_true rfl) (by kernel_rfl) (by decide) (fun _ _ => .v _) ?_
  rintro ⟨c, ⟨⟩⟩ hpre
  simp -implicitDefEqProofs only [Tryz.f64, go_sem, h106, c106, bOf_t, bOf_f, List.length_map, Nat.reduceAdd, Nat.reduceMul, Nat.reduceLeDiff, Nat.reduceEqDiff, reduceCtorEq, Nat.reduceSub, Int.reduceNeg, Nat.reduceMod, Nat.reduceBEq, Nat.reduceLT] at hpre ⊢

  refine run_loop [] (ι := {i : Nat // i ≤ c.own.length ∧ ∀ j, j < i → Dom (c.own.getD j default)}) (fun p => ⟨[(1, .pb 1001 0), (3, .t (.v (.int .i64 p.1)))], [(1001, some (.box ((encCf c).map .t)))]⟩) (fun p => c.own.length - p.1) ⟨0, by simp, by simp⟩ rfl ?_ ?_
  · simp -implicitDefEqProofs only [go_sem, h106, c106, bOf_t, bOf_f, List.length_map, Nat.reduceAdd, Nat.reduceMul, Nat.reduceLeDiff, Nat.reduceEqDiff, reduceCtorEq, Nat.reduceSub, Int.reduceNeg, Nat.reduceMod, Nat.reduceBEq, Nat.reduceLT]
    simp
  · rintro ⟨i, hi, hall⟩
    by_cases hlt : (i : Int) < c.own.length
    · simp -implicitDefEqProofs only [hlt, decide_true, Int.toNat_natCast, go_sem, h106, c106, bOf_t, bOf_f, List.length_map, Nat.reduceAdd, Nat.reduceMul, Nat.reduceLeDiff, Nat.reduceEqDiff, reduceCtorEq, Nat.reduceSub, Int.reduceNeg, Nat.reduceMod, Nat.reduceBEq, Nat.reduceLT]
      repeat' (first | with_reducible apply And.intro | with_reducible intro _ | ((first | refine brB_split (fun hb => ?_) (fun hb => ?_) | refine aPickB_split (fun hb => ?_) (fun hb => ?_) | refine gB_split (fun hb => ?_) (fun hb => ?_) | refine adB_split (fun hb => ?_) (fun hb => ?_)) <;> simp -implicitDefEqProofs only [hb, go_sem, h106, c106, bOf_t, bOf_f, List.length_map, Nat.reduceAdd, Nat.reduceMul, Nat.reduceLeDiff, Nat.reduceEqDiff, reduceCtorEq, Nat.reduceSub, Int.reduceNeg, Nat.reduceMod, Nat.reduceBEq, Nat.reduceLT] <;> try simp only [qa, qb, qc, qd, qe, qf, qg, bOf_t, bOf_f] at hb))
      all_goals (try simp only [maxLen] at *)
      all_goals first | rfl | omega | skip
      · exact uF (fun h => hb (h.1 _ (getD_mem (by omega))))
      · refine ⟨⟨i + 1, by omega, bx_step hall hb⟩, by dsimp only; omega, ?_⟩
        simp -implicitDefEqProofs only [go_sem, h106, c106, bOf_t, bOf_f, List.length_map, Nat.reduceAdd, Nat.reduceMul, Nat.reduceLeDiff, Nat.reduceEqDiff, reduceCtorEq, Nat.reduceSub, Int.reduceNeg, Nat.reduceMod, Nat.reduceBEq, Nat.reduceLT]
        simp
    · have hA : ∀ s ∈ c.own, Dom s := mem_getD fun j hj => hall j (by omega)
      simp -implicitDefEqProofs only [hlt, decide_false, go_sem, h106, c106, bOf_t, bOf_f, List.length_map, Nat.reduceAdd, Nat.reduceMul, Nat.reduceLeDiff, Nat.reduceEqDiff, reduceCtorEq, Nat.reduceSub, Int.reduceNeg, Nat.reduceMod, Nat.reduceBEq, Nat.reduceLT]
      repeat' (first | with_reducible apply And.intro | with_reducible intro _ | ((first | refine brB_split (fun hb => ?_) (fun hb => ?_) | refine aPickB_split (fun hb => ?_) (fun hb => ?_) | refine gB_split (fun hb => ?_) (fun hb => ?_) | refine adB_split (fun hb => ?_) (fun hb => ?_)) <;> simp -implicitDefEqProofs only [hb, go_sem, h106, c106, bOf_t, bOf_f, List.length_map, Nat.reduceAdd, Nat.reduceMul, Nat.reduceLeDiff, Nat.reduceEqDiff, reduceCtorEq, Nat.reduceSub, Int.reduceNeg, Nat.reduceMod, Nat.reduceBEq, Nat.reduceLT] <;> try simp only [qa, qb, qc, qd, qe, qf, qg, bOf_t, bOf_f] at hb))
      all_goals first | rfl | omega | skip
      refine run_loop [] (ι := {i : Nat // i ≤ c.ways.length ∧ ∀ j, j < i → Dom (c.ways.getD j default).ends ∧ Dom (c.ways.getD j default).to}) (fun p => ⟨[(1, .pb 1001 0), (4, .t (.v (.int .i64 p.1)))], [(1001, some (.box ((encCf c).map .t)))]⟩) (fun p => c.ways.length - p.1) ⟨0, by simp, by simp⟩ rfl ?_ ?_
      · simp -implicitDefEqProofs only [go_sem, h106, c106, bOf_t, bOf_f, List.length_map, Nat.reduceAdd, Nat.reduceMul, Nat.reduceLeDiff, Nat.reduceEqDiff, reduceCtorEq, Nat.reduceSub, Int.reduceNeg, Nat.reduceMod, Nat.reduceBEq, Nat.reduceLT]
        simp
      · rintro ⟨k, hk, hall2⟩
        by_cases hlt2 : (k : Int) < c.ways.length
        · simp -implicitDefEqProofs only [hlt2, decide_true, Int.toNat_natCast, go_sem, h106, c106, bOf_t, bOf_f, List.length_map, Nat.reduceAdd, Nat.reduceMul, Nat.reduceLeDiff, Nat.reduceEqDiff, reduceCtorEq, Nat.reduceSub, Int.reduceNeg, Nat.reduceMod, Nat.reduceBEq, Nat.reduceLT]
          repeat' (first | with_reducible apply And.intro | with_reducible intro _ | ((first | refine brB_split (fun hb => ?_) (fun hb => ?_) | refine aPickB_split (fun hb => ?_) (fun hb => ?_) | refine gB_split (fun hb => ?_) (fun hb => ?_) | refine adB_split (fun hb => ?_) (fun hb => ?_)) <;> simp -implicitDefEqProofs only [hb, go_sem, h106, c106, bOf_t, bOf_f, List.length_map, Nat.reduceAdd, Nat.reduceMul, Nat.reduceLeDiff, Nat.reduceEqDiff, reduceCtorEq, Nat.reduceSub, Int.reduceNeg, Nat.reduceMod, Nat.reduceBEq, Nat.reduceLT] <;> try simp only [qa, qb, qc, qd, qe, qf, qg, bOf_t, bOf_f] at hb))
          all_goals (try simp only [maxLen] at *)
          all_goals first
            | rfl
            | omega
            | exact uF (fun h => hb (h.2.1 _ (getD_mem (by omega))).1)
            | exact uF (fun h => hb (h.2.1 _ (getD_mem (by omega))).2)
            | skip
          refine ⟨⟨k + 1, by omega, bx_step (P := fun j => Dom (c.ways.getD j default).ends ∧ Dom (c.ways.getD j default).to) hall2 ⟨by assumption, by assumption⟩⟩, by dsimp only; omega, ?_⟩
          simp -implicitDefEqProofs only [go_sem, h106, c106, bOf_t, bOf_f, List.length_map, Nat.reduceAdd, Nat.reduceMul, Nat.reduceLeDiff, Nat.reduceEqDiff, reduceCtorEq, Nat.reduceSub, Int.reduceNeg, Nat.reduceMod, Nat.reduceBEq, Nat.reduceLT]
          simp
        · have hB : ∀ w ∈ c.ways, Dom w.ends ∧ Dom w.to := mem_getD fun j hj => hall2 j (by omega)
          simp -implicitDefEqProofs only [hlt2, decide_false, go_sem, h106, c106, bOf_t, bOf_f, List.length_map, Nat.reduceAdd, Nat.reduceMul, Nat.reduceLeDiff, Nat.reduceEqDiff, reduceCtorEq, Nat.reduceSub, Int.reduceNeg, Nat.reduceMod, Nat.reduceBEq, Nat.reduceLT]
          repeat' (first | with_reducible apply And.intro | with_reducible intro _ | ((first | refine brB_split (fun hb => ?_) (fun hb => ?_) | refine aPickB_split (fun hb => ?_) (fun hb => ?_) | refine gB_split (fun hb => ?_) (fun hb => ?_) | refine adB_split (fun hb => ?_) (fun hb => ?_)) <;> simp -implicitDefEqProofs only [hb, go_sem, h106, c106, bOf_t, bOf_f, List.length_map, Nat.reduceAdd, Nat.reduceMul, Nat.reduceLeDiff, Nat.reduceEqDiff, reduceCtorEq, Nat.reduceSub, Int.reduceNeg, Nat.reduceMod, Nat.reduceBEq, Nat.reduceLT] <;> try simp only [qa, qb, qc, qd, qe, qf, qg, bOf_t, bOf_f] at hb))
          all_goals first
            | rfl
            | omega
            | exact uD ⟨fun q => ⟨hA, hB, by assumption, by omega, q⟩, fun q => q.2.2.2.2⟩
            | exact uF (fun q => absurd q.2.2.1 (by assumption))
            | exact uF (fun q => by have h1 := q.2.2.2.1; have h2 := q.2.2.2.2; omega)
            | trace_state

def c63 : Ct := ctR (lc ECf.ag (lc EAd.ag l0)) (fun p => True) (fun p => .t (.v (.bool (bOf (p.2.1.domain ∈ p.1.own)))))
theorem good63 {G : Gt} (hG : OkG G) : Gd G 63 (roEnt 0 c63) := by
  refine gR (dp := fun _ => true) (fn := Tryz.f63) (n := 2) (fun _ => rfl) (by kernel_rfl) rfl (by kernel_rfl) hG (Nat.le_of_ble_eq_true rfl) (by kernel_rfl) (by decide) (fun _ _ => .v _) ?_
  rintro ⟨c, a, ⟨⟩⟩ hpre
  simp -implicitDefEqProofs only [Tryz.f63, go_sem, List.length_map, Nat.reduceAdd, Nat.reduceMul, Nat.reduceLeDiff, Nat.reduceEqDiff, reduceCtorEq, Nat.reduceSub, Int.reduceNeg, Nat.reduceMod, Nat.reduceBEq, Nat.reduceLT] at hpre ⊢

  refine run_loop [] (ι := {i : Nat // i ≤ c.own.length ∧ ∀ j, j < i → ¬ c.own.getD j default = a.domain}) (fun p => ⟨[(2, .pb 1002 0), (3, .pb 1003 0), (5, .t (.v (.int .i64 p.1)))], [(1002, some (.box ((encCf c).map .t))), (1003, some (.box ((encAd a).map .t)))]⟩) (fun p => c.own.length - p.1) ⟨0, by simp, by simp⟩ rfl ?_ ?_
  · simp -implicitDefEqProofs only [go_sem, List.length_map, Nat.reduceAdd, Nat.reduceMul, Nat.reduceLeDiff, Nat.reduceEqDiff, reduceCtorEq, Nat.reduceSub, Int.reduceNeg, Nat.reduceMod, Nat.reduceBEq, Nat.reduceLT]
    simp
  · rintro ⟨i, hi, hall⟩
    by_cases hlt : (i : Int) < c.own.length
    · simp -implicitDefEqProofs only [hlt, decide_true, Int.toNat_natCast, go_sem, List.length_map, Nat.reduceAdd, Nat.reduceMul, Nat.reduceLeDiff, Nat.reduceEqDiff, reduceCtorEq, Nat.reduceSub, Int.reduceNeg, Nat.reduceMod, Nat.reduceBEq, Nat.reduceLT]
      repeat' (first | with_reducible apply And.intro | with_reducible intro _ | ((first | refine brB_split (fun hb => ?_) (fun hb => ?_) | refine aPickB_split (fun hb => ?_) (fun hb => ?_) | refine gB_split (fun hb => ?_) (fun hb => ?_) | refine adB_split (fun hb => ?_) (fun hb => ?_)) <;> simp -implicitDefEqProofs only [hb, go_sem, List.length_map, Nat.reduceAdd, Nat.reduceMul, Nat.reduceLeDiff, Nat.reduceEqDiff, reduceCtorEq, Nat.reduceSub, Int.reduceNeg, Nat.reduceMod, Nat.reduceBEq, Nat.reduceLT] <;> try simp only [qa, qb, qc, qd, qe, qf, qg, bOf_t, bOf_f] at hb))
      all_goals (try simp only [maxLen] at *)
      all_goals first | rfl | omega | skip
      · exact uT (by rw [← hb]; exact getD_mem (by omega))
      · refine ⟨⟨i + 1, by omega, bx_step hall hb⟩, by dsimp only; omega, ?_⟩
        simp -implicitDefEqProofs only [go_sem, List.length_map, Nat.reduceAdd, Nat.reduceMul, Nat.reduceLeDiff, Nat.reduceEqDiff, reduceCtorEq, Nat.reduceSub, Int.reduceNeg, Nat.reduceMod, Nat.reduceBEq, Nat.reduceLT]
        simp
    · simp -implicitDefEqProofs only [hlt, decide_false, go_sem, List.length_map, Nat.reduceAdd, Nat.reduceMul, Nat.reduceLeDiff, Nat.reduceEqDiff, reduceCtorEq, Nat.reduceSub, Int.reduceNeg, Nat.reduceMod, Nat.reduceBEq, Nat.reduceLT]
      repeat' (first | with_reducible apply And.intro | with_reducible intro _ | ((first | refine brB_split (fun hb => ?_) (fun hb => ?_) | refine aPickB_split (fun hb => ?_) (fun hb => ?_) | refine gB_split (fun hb => ?_) (fun hb => ?_) | refine adB_split (fun hb => ?_) (fun hb => ?_)) <;> simp -implicitDefEqProofs only [hb, go_sem, List.length_map, Nat.reduceAdd, Nat.reduceMul, Nat.reduceLeDiff, Nat.reduceEqDiff, reduceCtorEq, Nat.reduceSub, Int.reduceNeg, Nat.reduceMod, Nat.reduceBEq, Nat.reduceLT] <;> try simp only [qa, qb, qc, qd, qe, qf, qg, bOf_t, bOf_f] at hb))
      all_goals first | rfl | omega | skip
      exact uF (not_mem fun j hj => hall j (by omega))

def c61 : Ct := ctR (lc EBx.ag l0) (fun p => True) (fun p => .t (.v (.bool (bOf (BxOk p.1)))))
set_option maxHeartbeats 1600000 in
theorem good61 {G : Gt} (hG : OkG G) (h104 : G.e 104 = roEnt 0 c104) (h90 : G.e 90 = roEnt 0 c90) (h105 : G.e 105 = roEnt 0 c105) : Gd G 61 (roEnt 0 c61) := by
  refine gR (dp := fun _ => true) (fn := Tryz.f61) (n := 1) (fun _ => rfl) (by kernel_rfl) rfl (by kernel_rfl) hG (Nat.le_of_ble_eq_true rfl) (by kernel_rfl) (by decide) (fun _ _ => .v _) ?_
  rintro ⟨b, ⟨⟩⟩ hpre
  simp -implicitDefEqProofs only [Tryz.f61, go_sem, h104, c104, h90, c90, h105, c105, bOf_t, bOf_f, List.length_map, Nat.reduceAdd, Nat.reduceMul, Nat.reduceLeDiff, Nat.reduceEqDiff, reduceCtorEq, Nat.reduceSub, Int.reduceNeg, Nat.reduceMod, Nat.reduceBEq, Nat.reduceLT] at hpre ⊢

  refine run_loop [] (ι := {i : Nat // i ≤ b.mails.length ∧ ∀ j, j < i → (AdOk (b.mails.getD j default).frm ∨ AdNull (b.mails.getD j default).frm) ∧ BdOk (b.mails.getD j default).body}) (fun p => ⟨[(1, .pb 1001 0), (3, .t (.v (.int .i64 p.1)))], [(1001, some (.box ((encBx b).map .t)))]⟩) (fun p => b.mails.length - p.1) ⟨0, by simp, by simp⟩ rfl ?_ ?_
  · simp -implicitDefEqProofs only [go_sem, h104, c104, h90, c90, h105, c105, bOf_t, bOf_f, List.length_map, Nat.reduceAdd, Nat.reduceMul, Nat.reduceLeDiff, Nat.reduceEqDiff, reduceCtorEq, Nat.reduceSub, Int.reduceNeg, Nat.reduceMod, Nat.reduceBEq, Nat.reduceLT]
    simp
  · rintro ⟨i, hi, hall⟩
    by_cases hlt : (i : Int) < b.mails.length
    · simp -implicitDefEqProofs only [hlt, decide_true, Int.toNat_natCast, go_sem, h104, c104, h90, c90, h105, c105, bOf_t, bOf_f, List.length_map, Nat.reduceAdd, Nat.reduceMul, Nat.reduceLeDiff, Nat.reduceEqDiff, reduceCtorEq, Nat.reduceSub, Int.reduceNeg, Nat.reduceMod, Nat.reduceBEq, Nat.reduceLT]
      repeat' (first | with_reducible apply And.intro | with_reducible intro _ | ((first | refine brB_split (fun hb => ?_) (fun hb => ?_) | refine aPickB_split (fun hb => ?_) (fun hb => ?_) | refine gB_split (fun hb => ?_) (fun hb => ?_) | refine adB_split (fun hb => ?_) (fun hb => ?_)) <;> simp -implicitDefEqProofs only [hb, go_sem, h104, c104, h90, c90, h105, c105, bOf_t, bOf_f, List.length_map, Nat.reduceAdd, Nat.reduceMul, Nat.reduceLeDiff, Nat.reduceEqDiff, reduceCtorEq, Nat.reduceSub, Int.reduceNeg, Nat.reduceMod, Nat.reduceBEq, Nat.reduceLT] <;> try simp only [qa, qb, qc, qd, qe, qf, qg, bOf_t, bOf_f] at hb))
      all_goals (try simp only [maxLen, Int.toNat_natCast] at *)
      all_goals first
        | rfl
        | omega
        | exact uF (fun h => absurd (h.1 (b.mails.getD i default) (getD_mem (by omega))).2 (by assumption))
        | exact uF (fun h => (h.1 (b.mails.getD i default) (getD_mem (by omega))).1.elim (fun q => absurd q (by assumption)) fun q => absurd q (by assumption))
        | skip
      all_goals
        refine ⟨⟨i + 1, by omega, bx_step (P := fun j => (AdOk (b.mails.getD j default).frm ∨ AdNull (b.mails.getD j default).frm) ∧ BdOk (b.mails.getD j default).body) hall ⟨by first | exact .inl (by assumption) | exact .inr (by assumption), by assumption⟩⟩, by dsimp only; omega, ?_⟩
        simp -implicitDefEqProofs only [go_sem, h104, c104, h90, c90, h105, c105, bOf_t, bOf_f, List.length_map, Nat.reduceAdd, Nat.reduceMul, Nat.reduceLeDiff, Nat.reduceEqDiff, reduceCtorEq, Nat.reduceSub, Int.reduceNeg, Nat.reduceMod, Nat.reduceBEq, Nat.reduceLT]
        simp
    · have hA : ∀ g ∈ b.mails, (AdOk g.frm ∨ AdNull g.frm) ∧ BdOk g.body := mem_getD (P := fun g : Gm => (AdOk g.frm ∨ AdNull g.frm) ∧ BdOk g.body) fun j hj => hall j (by omega)
      simp -implicitDefEqProofs only [hlt, decide_false, go_sem, h104, c104, h90, c90, h105, c105, bOf_t, bOf_f, List.length_map, Nat.reduceAdd, Nat.reduceMul, Nat.reduceLeDiff, Nat.reduceEqDiff, reduceCtorEq, Nat.reduceSub, Int.reduceNeg, Nat.reduceMod, Nat.reduceBEq, Nat.reduceLT]
      repeat' (first | with_reducible apply And.intro | with_reducible intro _ | ((first | refine brB_split (fun hb => ?_) (fun hb => ?_) | refine aPickB_split (fun hb => ?_) (fun hb => ?_) | refine gB_split (fun hb => ?_) (fun hb => ?_) | refine adB_split (fun hb => ?_) (fun hb => ?_)) <;> simp -implicitDefEqProofs only [hb, go_sem, h104, c104, h90, c90, h105, c105, bOf_t, bOf_f, List.length_map, Nat.reduceAdd, Nat.reduceMul, Nat.reduceLeDiff, Nat.reduceEqDiff, reduceCtorEq, Nat.reduceSub, Int.reduceNeg, Nat.reduceMod, Nat.reduceBEq, Nat.reduceLT] <;> try simp only [qa, qb, qc, qd, qe, qf, qg, bOf_t, bOf_f] at hb))
      all_goals first | rfl | omega | exact uE ⟨fun q => ⟨hA, q⟩, fun q => q.2⟩ | trace_state

def c26 : Ct := ctR (lc EHs.ag l0) (fun p => True) (fun p => .t (.v (.bool (bOf (HsOk p.1)))))
set_option maxHeartbeats 6400000 in
theorem good26 {G : Gt} (hG : OkG G) (h61 : G.e 61 = roEnt 0 c61) (h62 : G.e 62 = roEnt 0 c62) (h63 : G.e 63 = roEnt 0 c63) (h64 : G.e 64 = roEnt 0 c64) (h65 : G.e 65 = roEnt 0 c65) : Gd G 26 (roEnt 0 c26) := by
  refine gR (dp := fun _ => true) (fn := Tryz.f26) (n := 1) (fun _ => rfl) (by kernel_rfl) rfl (by kernel_rfl) hG (Nat.le_of_ble_eq_true rfl) (by kernel_rfl) (by decide) (fun _ _ => .v _) ?_
  rintro ⟨h, ⟨⟩⟩ hpre
  simp -implicitDefEqProofs only [Tryz.f26, go_sem, h61, c61, h62, c62, h63, c63, h64, c64, h65, c65, bOf_t, bOf_f, List.length_map, Nat.reduceAdd, Nat.reduceMul, Nat.reduceLeDiff, Nat.reduceEqDiff, reduceCtorEq, Nat.reduceSub, Int.reduceNeg, Nat.reduceMod, Nat.reduceBEq, Nat.reduceLT] at hpre ⊢

  refine run_loop [] (ι := {i : Nat // i ≤ h.boxes.length ∧ ∀ j, j < i → BxAt h j}) (fun p => ⟨[(1, .pb 1001 0), (3, .t (.v (.int .i64 p.1)))], [(1001, some (.box ((encHs h).map .t)))]⟩) (fun p => h.boxes.length - p.1) ⟨0, by simp, by simp⟩ rfl ?_ ?_
  · simp -implicitDefEqProofs only [go_sem, h61, c61, h62, c62, h63, c63, h64, c64, h65, c65, bOf_t, bOf_f, List.length_map, Nat.reduceAdd, Nat.reduceMul, Nat.reduceLeDiff, Nat.reduceEqDiff, reduceCtorEq, Nat.reduceSub, Int.reduceNeg, Nat.reduceMod, Nat.reduceBEq, Nat.reduceLT]
    simp
  · rintro ⟨i, hi, hall⟩
    by_cases hlt : (i : Int) < h.boxes.length
    · simp -implicitDefEqProofs only [hlt, decide_true, Int.toNat_natCast, go_sem, h61, c61, h62, c62, h63, c63, h64, c64, h65, c65, bOf_t, bOf_f, List.length_map, Nat.reduceAdd, Nat.reduceMul, Nat.reduceLeDiff, Nat.reduceEqDiff, reduceCtorEq, Nat.reduceSub, Int.reduceNeg, Nat.reduceMod, Nat.reduceBEq, Nat.reduceLT]
      repeat' (first | with_reducible apply And.intro | with_reducible intro _ | ((first | refine brB_split (fun hb => ?_) (fun hb => ?_) | refine aPickB_split (fun hb => ?_) (fun hb => ?_) | refine gB_split (fun hb => ?_) (fun hb => ?_) | refine adB_split (fun hb => ?_) (fun hb => ?_)) <;> simp -implicitDefEqProofs only [hb, go_sem, h61, c61, h62, c62, h63, c63, h64, c64, h65, c65, bOf_t, bOf_f, List.length_map, Nat.reduceAdd, Nat.reduceMul, Nat.reduceLeDiff, Nat.reduceEqDiff, reduceCtorEq, Nat.reduceSub, Int.reduceNeg, Nat.reduceMod, Nat.reduceBEq, Nat.reduceLT] <;> try simp only [qa, qb, qc, qd, qe, qf, qg, bOf_t, bOf_f] at hb))
      all_goals (try simp only [maxLen, Int.toNat_natCast] at *)
      all_goals have hnat : ((i : Int) - 1).toNat = i - 1 := by omega
      all_goals first
        | rfl
        | omega
        | exact uF (fun q => absurd (q.1 i (by omega)).1 (by assumption))
        | exact uF (fun q => absurd (q.1 i (by omega)).2.2 (by assumption))
        | exact uF (fun q => absurd ((q.1 i (by omega)).2.1 (by omega)) (by rw [← hnat]; assumption))
        | skip
      all_goals
        refine ⟨⟨i + 1, by omega, bx_step hall ⟨by assumption, fun _ => by first | (rw [← hnat]; assumption) | (exfalso; omega), by assumption⟩⟩, by dsimp only; omega, ?_⟩
        simp -implicitDefEqProofs only [go_sem, h61, c61, h62, c62, h63, c63, h64, c64, h65, c65, bOf_t, bOf_f, List.length_map, Nat.reduceAdd, Nat.reduceMul, Nat.reduceLeDiff, Nat.reduceEqDiff, reduceCtorEq, Nat.reduceSub, Int.reduceNeg, Nat.reduceMod, Nat.reduceBEq, Nat.reduceLT]
        simp
    · simp -implicitDefEqProofs only [hlt, decide_false, go_sem, h61, c61, h62, c62, h63, c63, h64, c64, h65, c65, bOf_t, bOf_f, List.length_map, Nat.reduceAdd, Nat.reduceMul, Nat.reduceLeDiff, Nat.reduceEqDiff, reduceCtorEq, Nat.reduceSub, Int.reduceNeg, Nat.reduceMod, Nat.reduceBEq, Nat.reduceLT]
      repeat' (first | with_reducible apply And.intro | with_reducible intro _ | ((first | refine brB_split (fun hb => ?_) (fun hb => ?_) | refine aPickB_split (fun hb => ?_) (fun hb => ?_) | refine gB_split (fun hb => ?_) (fun hb => ?_) | refine adB_split (fun hb => ?_) (fun hb => ?_)) <;> simp -implicitDefEqProofs only [hb, go_sem, h61, c61, h62, c62, h63, c63, h64, c64, h65, c65, bOf_t, bOf_f, List.length_map, Nat.reduceAdd, Nat.reduceMul, Nat.reduceLeDiff, Nat.reduceEqDiff, reduceCtorEq, Nat.reduceSub, Int.reduceNeg, Nat.reduceMod, Nat.reduceBEq, Nat.reduceLT] <;> try simp only [qa, qb, qc, qd, qe, qf, qg, bOf_t, bOf_f] at hb))
      all_goals first
        | rfl
        | omega
        | exact uE ⟨fun q => ⟨fun j hj => hall j (by omega), by assumption, q⟩, fun q => q.2.2⟩
        | exact uF (fun q => absurd q.2.1 (by assumption))
        | trace_state

def c7 : Ct := ctR (lc EHs.ag l0) (fun p => True) (fun p => .t (.v (.bool (bOf (HsOk p.1)))))
theorem good7 {G : Gt} (hG : OkG G) (h26 : G.e 26 = roEnt 0 c26) : Gd G 7 (roEnt 0 c7) := by
  refine gR (dp := fun _ => true) (fn := Tryz.f7) (n := 1) (fun _ => rfl) (by kernel_rfl) rfl (by kernel_rfl) hG (Nat.le_of_ble_eq_true rfl) (by kernel_rfl) (by decide) (fun _ _ => .v _) ?_
  rintro ⟨h, ⟨⟩⟩ hpre
  simp -implicitDefEqProofs only [Tryz.f7, go_sem, h26, c26, Nat.reduceAdd, Nat.reduceMul, Nat.reduceLeDiff, Nat.reduceEqDiff, reduceCtorEq, Nat.reduceSub, Int.reduceNeg, Nat.reduceMod, Nat.reduceBEq, Nat.reduceLT] at hpre ⊢

  repeat' (first | with_reducible apply And.intro | with_reducible intro _ | ((first | refine brB_split (fun hb => ?_) (fun hb => ?_) | refine aPickB_split (fun hb => ?_) (fun hb => ?_) | refine gB_split (fun hb => ?_) (fun hb => ?_) | refine adB_split (fun hb => ?_) (fun hb => ?_)) <;> simp -implicitDefEqProofs only [hb, go_sem, h26, c26, Nat.reduceAdd, Nat.reduceMul, Nat.reduceLeDiff, Nat.reduceEqDiff, reduceCtorEq, Nat.reduceSub, Int.reduceNeg, Nat.reduceMod, Nat.reduceBEq, Nat.reduceLT] <;> try simp only [qa, qb, qc, qd, qe, qf, qg, bOf_t, bOf_f] at hb))
  all_goals first | rfl | trace_state

inductive FGm where
  | bad 
def FGm.enc : FGm → AV
  | .bad  => .t (.fn 33 [])
def FGm.dec : AV → Option FGm
  | .t (.fn 33 []) => some (.bad )
  | _ => none
def FGm.sem : FGm → Gm → Prop
  | .bad , x => ¬ ((AdOk x.frm ∨ AdNull x.frm) ∧ BdOk x.body)
def FGm.pre : FGm → Gm → Prop
  | .bad , x => x.frm.domain.size ≤ 2000000 ∧ ∀ s ∈ x.body, s.size ≤ 2000000
def AFGm : AD FGm where
  enc := FGm.enc
  dec := FGm.dec
  ed := fun f => by cases f <;> rfl
  de := fun x f h => by
    unfold FGm.dec at h
    split at h <;> cases h <;> rfl
theorem AFGm_d0  : AFGm.dec (.t (.fn 33 [])) = some (.bad ) := rfl
theorem AFGm_e0  : AFGm.enc (.bad ) = .t (.fn 33 []) := rfl
def c33 : Ct := ctR (lc EGm.ag l0) (fun p => p.1.frm.domain.size ≤ 2000000 ∧ ∀ s ∈ p.1.body, s.size ≤ 2000000) (fun p => .t (.v (.bool (bOf (¬ ((AdOk p.1.frm ∨ AdNull p.1.frm) ∧ BdOk p.1.body))))))
theorem good33 {G : Gt} (hG : OkG G) (h34 : G.e 34 = roEnt 0 c34) (h35 : G.e 35 = roEnt 0 c35) : Gd G 33 (roEnt 0 c33) := by
  refine gR (dp := fun _ => true) (fn := Tryz.f33) (n := 1) (fun _ => rfl) (by kernel_rfl) rfl (by kernel_rfl) hG (Nat.le_of_ble_eq_true rfl) (by kernel_rfl) (by decide) (fun _ _ => .v _) ?_
  rintro ⟨x, ⟨⟩⟩ hpre
  simp -implicitDefEqProofs only [Tryz.f33, go_sem, h34, c34, h35, c35, ap_enc, ap_dec, AFn0_dec, AFn0_enc, Bool.not_true, Bool.not_false, ty182, lv75, Nat.reduceAdd, Nat.reduceMul, Nat.reduceLeDiff, Nat.reduceEqDiff, reduceCtorEq, Nat.reduceSub, Int.reduceNeg, Nat.reduceMod, Nat.reduceBEq, Nat.reduceLT] at hpre ⊢

  repeat' (first | with_reducible apply And.intro | with_reducible intro _ | ((first | refine brB_split (fun hb => ?_) (fun hb => ?_) | refine aPickB_split (fun hb => ?_) (fun hb => ?_) | refine gB_split (fun hb => ?_) (fun hb => ?_) | refine adB_split (fun hb => ?_) (fun hb => ?_)) <;> simp -implicitDefEqProofs only [hb, go_sem, h34, c34, h35, c35, ap_enc, ap_dec, AFn0_dec, AFn0_enc, Bool.not_true, Bool.not_false, ty182, lv75, Nat.reduceAdd, Nat.reduceMul, Nat.reduceLeDiff, Nat.reduceEqDiff, reduceCtorEq, Nat.reduceSub, Int.reduceNeg, Nat.reduceMod, Nat.reduceBEq, Nat.reduceLT] <;> try simp only [qa, qb, qc, qd, qe, qf, qg, bOf_t, bOf_f] at hb))
  all_goals first | rfl | omega | exact hpre.1 | exact hpre.2 | exact hpre.2 _ (by assumption) | skip
  all_goals first
    | exact uT (fun h => absurd h.1 (by assumption))
    | exact uN ⟨fun h q => h q.2, fun h q => h ⟨by assumption, q⟩⟩
    | trace_state

def c82 : Ct := ctR (lc EGm.asl (lc AFGm l0)) (fun p => ∀ x ∈ p.1, p.2.1.pre x) (fun p => .t (.v (.int .i64 (ixP p.2.1.sem 0 p.1))))
theorem good82 {G : Gt} (hG : OkG G) (h33 : G.e 33 = roEnt 0 c33) : Gd G 82 (roEnt 0 c82) := by
  refine gR (dp := fun _ => true) (fn := Tryz.f82) (n := 2) (fun _ => rfl) (by kernel_rfl) rfl (by kernel_rfl) hG (Nat.le_of_ble_eq_true rfl) (by kernel_rfl) (by decide) (fun _ _ => .v _) ?_
  rintro ⟨xs, f, ⟨⟩⟩ hpre


  have hs := hpre
  dsimp only at hs ⊢
  cases f with
  | bad  =>
    simp -implicitDefEqProofs only [Tryz.f82, go_sem, h33, c33, ap_enc, ap_dec, AFn0_dec, AFn0_enc, Bool.not_true, Bool.not_false, ty182, lv75, AFGm_d0, AFGm_e0, Nat.reduceAdd, Nat.reduceMul, Nat.reduceLeDiff, Nat.reduceEqDiff, reduceCtorEq, Nat.reduceSub, Int.reduceNeg, Nat.reduceMod, Nat.reduceBEq, Nat.reduceLT]
    repeat' (first | with_reducible apply And.intro | with_reducible intro _ | ((first | refine brB_split (fun hb => ?_) (fun hb => ?_) | refine aPickB_split (fun hb => ?_) (fun hb => ?_) | refine gB_split (fun hb => ?_) (fun hb => ?_) | refine adB_split (fun hb => ?_) (fun hb => ?_)) <;> simp -implicitDefEqProofs only [hb, go_sem, h33, c33, ap_enc, ap_dec, AFn0_dec, AFn0_enc, Bool.not_true, Bool.not_false, ty182, lv75, AFGm_d0, AFGm_e0, Nat.reduceAdd, Nat.reduceMul, Nat.reduceLeDiff, Nat.reduceEqDiff, reduceCtorEq, Nat.reduceSub, Int.reduceNeg, Nat.reduceMod, Nat.reduceBEq, Nat.reduceLT] <;> try simp only [qa, qb, qc, qd, qe, qf, qg, bOf_t, bOf_f] at hb))
    all_goals first | rfl | omega | skip
    refine run_loop [] (ι := {i : Nat // i ≤ xs.length ∧ ixP (FGm.sem (.bad )) 0 xs = ixP (FGm.sem (.bad )) i (xs.drop i)}) (fun p => ⟨[(0, .t (.sl 3 (xs.map encGm))), (1, .t (.fn 33 [])), (7, .t (.v (.int .i64 xs.length))), (8, .t (.v (.int .i64 p.1)))], []⟩) (fun p => xs.length - p.1) ⟨0, Nat.zero_le _, rfl⟩ rfl ?_ ?_
    · simp -implicitDefEqProofs only [go_sem, h33, c33, ap_enc, ap_dec, AFn0_dec, AFn0_enc, Bool.not_true, Bool.not_false, ty182, lv75, AFGm_d0, AFGm_e0, Nat.reduceAdd, Nat.reduceMul, Nat.reduceLeDiff, Nat.reduceEqDiff, reduceCtorEq, Nat.reduceSub, Int.reduceNeg, Nat.reduceMod, Nat.reduceBEq, Nat.reduceLT]
      try simp
    · rintro ⟨i, hi, hix⟩
      by_cases hlt : (i : Int) < xs.length
      · have hm : xs.getD (i : Int).toNat default ∈ xs := getD_mem (by omega)
        have hsz := hs _ hm
        cases hb : bOf (¬ ((AdOk (xs.getD (i : Int).toNat default).frm ∨ AdNull (xs.getD (i : Int).toNat default).frm) ∧ BdOk (xs.getD (i : Int).toNat default).body))
        · have hq := hb
          simp -implicitDefEqProofs only [hlt, hq, go_sem, h33, c33, ap_enc, ap_dec, AFn0_dec, AFn0_enc, Bool.not_true, Bool.not_false, ty182, lv75, AFGm_d0, AFGm_e0, Nat.reduceAdd, Nat.reduceMul, Nat.reduceLeDiff, Nat.reduceEqDiff, reduceCtorEq, Nat.reduceSub, Int.reduceNeg, Nat.reduceMod, Nat.reduceBEq, Nat.reduceLT]
          repeat' (first | with_reducible apply And.intro | with_reducible intro _ | ((first | refine brB_split (fun hb => ?_) (fun hb => ?_) | refine aPickB_split (fun hb => ?_) (fun hb => ?_) | refine gB_split (fun hb => ?_) (fun hb => ?_) | refine adB_split (fun hb => ?_) (fun hb => ?_)) <;> simp -implicitDefEqProofs only [hb, go_sem, h33, c33, ap_enc, ap_dec, AFn0_dec, AFn0_enc, Bool.not_true, Bool.not_false, ty182, lv75, AFGm_d0, AFGm_e0, Nat.reduceAdd, Nat.reduceMul, Nat.reduceLeDiff, Nat.reduceEqDiff, reduceCtorEq, Nat.reduceSub, Int.reduceNeg, Nat.reduceMod, Nat.reduceBEq, Nat.reduceLT] <;> try simp only [qa, qb, qc, qd, qe, qf, qg, bOf_t, bOf_f] at hb))
          all_goals (try simp only [maxLen] at *)
          all_goals first | rfl | omega | with_reducible assumption | exact hsz | exact hsz.1 | exact hsz.2 | exact hsz.2 _ (by assumption) | trivial | skip
          rw [bOf_f, Int.toNat_natCast] at hb
          refine ⟨⟨i + 1, by omega, ?_⟩, by dsimp only; omega, ?_⟩
          · rw [hix, ixP_no (p := FGm.sem (.bad )) (by omega) hb]
          · simp -implicitDefEqProofs only [go_sem, h33, c33, ap_enc, ap_dec, AFn0_dec, AFn0_enc, Bool.not_true, Bool.not_false, ty182, lv75, AFGm_d0, AFGm_e0, Nat.reduceAdd, Nat.reduceMul, Nat.reduceLeDiff, Nat.reduceEqDiff, reduceCtorEq, Nat.reduceSub, Int.reduceNeg, Nat.reduceMod, Nat.reduceBEq, Nat.reduceLT]
            try simp
        · have hq := hb
          simp -implicitDefEqProofs only [hlt, hq, go_sem, h33, c33, ap_enc, ap_dec, AFn0_dec, AFn0_enc, Bool.not_true, Bool.not_false, ty182, lv75, AFGm_d0, AFGm_e0, Nat.reduceAdd, Nat.reduceMul, Nat.reduceLeDiff, Nat.reduceEqDiff, reduceCtorEq, Nat.reduceSub, Int.reduceNeg, Nat.reduceMod, Nat.reduceBEq, Nat.reduceLT]
          repeat' (first | with_reducible apply And.intro | with_reducible intro _ | ((first | refine brB_split (fun hb => ?_) (fun hb => ?_) | refine aPickB_split (fun hb => ?_) (fun hb => ?_) | refine gB_split (fun hb => ?_) (fun hb => ?_) | refine adB_split (fun hb => ?_) (fun hb => ?_)) <;> simp -implicitDefEqProofs only [hb, go_sem, h33, c33, ap_enc, ap_dec, AFn0_dec, AFn0_enc, Bool.not_true, Bool.not_false, ty182, lv75, AFGm_d0, AFGm_e0, Nat.reduceAdd, Nat.reduceMul, Nat.reduceLeDiff, Nat.reduceEqDiff, reduceCtorEq, Nat.reduceSub, Int.reduceNeg, Nat.reduceMod, Nat.reduceBEq, Nat.reduceLT] <;> try simp only [qa, qb, qc, qd, qe, qf, qg, bOf_t, bOf_f] at hb))
          all_goals (try simp only [maxLen] at *)
          all_goals first | rfl | omega | with_reducible assumption | exact hsz | exact hsz.1 | exact hsz.2 | exact hsz.2 _ (by assumption) | trivial | skip
          rw [bOf_t, Int.toNat_natCast] at hb
          rw [hix, ixP_yes (p := FGm.sem (.bad )) (by omega) hb]
      · simp -implicitDefEqProofs only [hlt, go_sem, h33, c33, ap_enc, ap_dec, AFn0_dec, AFn0_enc, Bool.not_true, Bool.not_false, ty182, lv75, AFGm_d0, AFGm_e0, Nat.reduceAdd, Nat.reduceMul, Nat.reduceLeDiff, Nat.reduceEqDiff, reduceCtorEq, Nat.reduceSub, Int.reduceNeg, Nat.reduceMod, Nat.reduceBEq, Nat.reduceLT]
        repeat' (first | with_reducible apply And.intro | with_reducible intro _ | ((first | refine brB_split (fun hb => ?_) (fun hb => ?_) | refine aPickB_split (fun hb => ?_) (fun hb => ?_) | refine gB_split (fun hb => ?_) (fun hb => ?_) | refine adB_split (fun hb => ?_) (fun hb => ?_)) <;> simp -implicitDefEqProofs only [hb, go_sem, h33, c33, ap_enc, ap_dec, AFn0_dec, AFn0_enc, Bool.not_true, Bool.not_false, ty182, lv75, AFGm_d0, AFGm_e0, Nat.reduceAdd, Nat.reduceMul, Nat.reduceLeDiff, Nat.reduceEqDiff, reduceCtorEq, Nat.reduceSub, Int.reduceNeg, Nat.reduceMod, Nat.reduceBEq, Nat.reduceLT] <;> try simp only [qa, qb, qc, qd, qe, qf, qg, bOf_t, bOf_f] at hb))
        all_goals first | rfl | omega | skip
        all_goals (rw [hix, ixP_end (by omega)])

def c38 : Ct := ctR (lc EGm.asl (lc AFGm l0)) (fun p => ∀ x ∈ p.1, p.2.1.pre x) (fun p => .t (.v (.bool (bOf (∃ x ∈ p.1, p.2.1.sem x)))))
theorem good38 {G : Gt} (hG : OkG G) (h82 : G.e 82 = roEnt 0 c82) : Gd G 38 (roEnt 0 c38) := by
  refine gR (dp := fun _ => true) (fn := Tryz.f38) (n := 2) (fun _ => rfl) (by kernel_rfl) rfl (by kernel_rfl) hG (Nat.le_of_ble_eq_true rfl) (by kernel_rfl) (by decide) (fun _ _ => .v _) ?_
  rintro ⟨xs, f, ⟨⟩⟩ hpre


  dsimp only at hpre ⊢
  cases f
  all_goals
    simp -implicitDefEqProofs only [Tryz.f38, go_sem, h82, c82, ap_enc, ap_dec, AFn0_dec, AFn0_enc, Bool.not_true, Bool.not_false, ty182, lv75, AFGm_d0, AFGm_e0, Nat.reduceAdd, Nat.reduceMul, Nat.reduceLeDiff, Nat.reduceEqDiff, reduceCtorEq, Nat.reduceSub, Int.reduceNeg, Nat.reduceMod, Nat.reduceBEq, Nat.reduceLT]
    repeat' (first | with_reducible apply And.intro | with_reducible intro _ | ((first | refine brB_split (fun hb => ?_) (fun hb => ?_) | refine aPickB_split (fun hb => ?_) (fun hb => ?_) | refine gB_split (fun hb => ?_) (fun hb => ?_) | refine adB_split (fun hb => ?_) (fun hb => ?_)) <;> simp -implicitDefEqProofs only [hb, go_sem, h82, c82, ap_enc, ap_dec, AFn0_dec, AFn0_enc, Bool.not_true, Bool.not_false, ty182, lv75, AFGm_d0, AFGm_e0, Nat.reduceAdd, Nat.reduceMul, Nat.reduceLeDiff, Nat.reduceEqDiff, reduceCtorEq, Nat.reduceSub, Int.reduceNeg, Nat.reduceMod, Nat.reduceBEq, Nat.reduceLT] <;> try simp only [qa, qb, qc, qd, qe, qf, qg, bOf_t, bOf_f] at hb))
    all_goals first | rfl | omega | exact hpre | exact hpre _ (by assumption) | skip
    all_goals (rw [← bOf_congr (ixP_iff _ 0)]; rw [bOf_d])

inductive FWy where
  | way 
def FWy.enc : FWy → AV
  | .way  => .t (.fn 73 [])
def FWy.dec : AV → Option FWy
  | .t (.fn 73 []) => some (.way )
  | _ => none
def FWy.sem : FWy → Wy → Prop
  | .way , x => ¬ (Dom x.ends ∧ Dom x.to)
def FWy.pre : FWy → Wy → Prop
  | .way , x => x.ends.size ≤ 2000000 ∧ x.to.size ≤ 2000000
def AFWy : AD FWy where
  enc := FWy.enc
  dec := FWy.dec
  ed := fun f => by cases f <;> rfl
  de := fun x f h => by
    unfold FWy.dec at h
    split at h <;> cases h <;> rfl
theorem AFWy_d0  : AFWy.dec (.t (.fn 73 [])) = some (.way ) := rfl
theorem AFWy_e0  : AFWy.enc (.way ) = .t (.fn 73 []) := rfl
def c73 : Ct := ctR (lc EWy.ag l0) (fun p => p.1.ends.size ≤ 2000000 ∧ p.1.to.size ≤ 2000000) (fun p => .t (.v (.bool (bOf (¬ (Dom p.1.ends ∧ Dom p.1.to))))))
theorem good73 {G : Gt} (hG : OkG G) (h72 : G.e 72 = roEnt 0 c72) : Gd G 73 (roEnt 0 c73) := by
  refine gR (dp := fun _ => true) (fn := Tryz.f73) (n := 1) (fun _ => rfl) (by kernel_rfl) rfl (by kernel_rfl) hG (Nat.le_of_ble_eq_true rfl) (by kernel_rfl) (by decide) (fun _ _ => .v _) ?_
  rintro ⟨x, ⟨⟩⟩ hpre
  simp -implicitDefEqProofs only [Tryz.f73, go_sem, h72, c72, ap_enc, ap_dec, AFn0_dec, AFn0_enc, Bool.not_true, Bool.not_false, ty182, lv75, Nat.reduceAdd, Nat.reduceMul, Nat.reduceLeDiff, Nat.reduceEqDiff, reduceCtorEq, Nat.reduceSub, Int.reduceNeg, Nat.reduceMod, Nat.reduceBEq, Nat.reduceLT] at hpre ⊢

  repeat' (first | with_reducible apply And.intro | with_reducible intro _ | ((first | refine brB_split (fun hb => ?_) (fun hb => ?_) | refine aPickB_split (fun hb => ?_) (fun hb => ?_) | refine gB_split (fun hb => ?_) (fun hb => ?_) | refine adB_split (fun hb => ?_) (fun hb => ?_)) <;> simp -implicitDefEqProofs only [hb, go_sem, h72, c72, ap_enc, ap_dec, AFn0_dec, AFn0_enc, Bool.not_true, Bool.not_false, ty182, lv75, Nat.reduceAdd, Nat.reduceMul, Nat.reduceLeDiff, Nat.reduceEqDiff, reduceCtorEq, Nat.reduceSub, Int.reduceNeg, Nat.reduceMod, Nat.reduceBEq, Nat.reduceLT] <;> try simp only [qa, qb, qc, qd, qe, qf, qg, bOf_t, bOf_f] at hb))
  all_goals first | rfl | omega | exact hpre.1 | exact hpre.2 | exact hpre.2 _ (by assumption) | skip
  all_goals first
    | exact uT (fun h => absurd h.1 (by assumption))
    | exact uN ⟨fun h q => h q.2, fun h q => h ⟨by assumption, q⟩⟩
    | trace_state

def c114 : Ct := ctR (lc EWy.asl (lc AFWy l0)) (fun p => ∀ x ∈ p.1, p.2.1.pre x) (fun p => .t (.v (.int .i64 (ixP p.2.1.sem 0 p.1))))
theorem good114 {G : Gt} (hG : OkG G) (h73 : G.e 73 = roEnt 0 c73) : Gd G 114 (roEnt 0 c114) := by
  refine gR (dp := fun _ => true) (fn := Tryz.f114) (n := 2) (fun _ => rfl) (by kernel_rfl) rfl (by kernel_rfl) hG (Nat.le_of_ble_eq_true rfl) (by kernel_rfl) (by decide) (fun _ _ => .v _) ?_
  rintro ⟨xs, f, ⟨⟩⟩ hpre


  have hs := hpre
  dsimp only at hs ⊢
  cases f with
  | way  =>
    simp -implicitDefEqProofs only [Tryz.f114, go_sem, h73, c73, ap_enc, ap_dec, AFn0_dec, AFn0_enc, Bool.not_true, Bool.not_false, ty182, lv75, AFWy_d0, AFWy_e0, Nat.reduceAdd, Nat.reduceMul, Nat.reduceLeDiff, Nat.reduceEqDiff, reduceCtorEq, Nat.reduceSub, Int.reduceNeg, Nat.reduceMod, Nat.reduceBEq, Nat.reduceLT]
    repeat' (first | with_reducible apply And.intro | with_reducible intro _ | ((first | refine brB_split (fun hb => ?_) (fun hb => ?_) | refine aPickB_split (fun hb => ?_) (fun hb => ?_) | refine gB_split (fun hb => ?_) (fun hb => ?_) | refine adB_split (fun hb => ?_) (fun hb => ?_)) <;> simp -implicitDefEqProofs only [hb, go_sem, h73, c73, ap_enc, ap_dec, AFn0_dec, AFn0_enc, Bool.not_true, Bool.not_false, ty182, lv75, AFWy_d0, AFWy_e0, Nat.reduceAdd, Nat.reduceMul, Nat.reduceLeDiff, Nat.reduceEqDiff, reduceCtorEq, Nat.reduceSub, Int.reduceNeg, Nat.reduceMod, Nat.reduceBEq, Nat.reduceLT] <;> try simp only [qa, qb, qc, qd, qe, qf, qg, bOf_t, bOf_f] at hb))
    all_goals first | rfl | omega | skip
    refine run_loop [] (ι := {i : Nat // i ≤ xs.length ∧ ixP (FWy.sem (.way )) 0 xs = ixP (FWy.sem (.way )) i (xs.drop i)}) (fun p => ⟨[(0, .t (.sl 2 (xs.map encWy))), (1, .t (.fn 73 [])), (7, .t (.v (.int .i64 xs.length))), (8, .t (.v (.int .i64 p.1)))], []⟩) (fun p => xs.length - p.1) ⟨0, Nat.zero_le _, rfl⟩ rfl ?_ ?_
    · simp -implicitDefEqProofs only [go_sem, h73, c73, ap_enc, ap_dec, AFn0_dec, AFn0_enc, Bool.not_true, Bool.not_false, ty182, lv75, AFWy_d0, AFWy_e0, Nat.reduceAdd, Nat.reduceMul, Nat.reduceLeDiff, Nat.reduceEqDiff, reduceCtorEq, Nat.reduceSub, Int.reduceNeg, Nat.reduceMod, Nat.reduceBEq, Nat.reduceLT]
      try simp
    · rintro ⟨i, hi, hix⟩
      by_cases hlt : (i : Int) < xs.length
      · have hm : xs.getD (i : Int).toNat default ∈ xs := getD_mem (by omega)
        have hsz := hs _ hm
        cases hb : bOf (¬ (Dom (xs.getD (i : Int).toNat default).ends ∧ Dom (xs.getD (i : Int).toNat default).to))
        · have hq := hb
          simp -implicitDefEqProofs only [hlt, hq, go_sem, h73, c73, ap_enc, ap_dec, AFn0_dec, AFn0_enc, Bool.not_true, Bool.not_false, ty182, lv75, AFWy_d0, AFWy_e0, Nat.reduceAdd, Nat.reduceMul, Nat.reduceLeDiff, Nat.reduceEqDiff, reduceCtorEq, Nat.reduceSub, Int.reduceNeg, Nat.reduceMod, Nat.reduceBEq, Nat.reduceLT]
          repeat' (first | with_reducible apply And.intro | with_reducible intro _ | ((first | refine brB_split (fun hb => ?_) (fun hb => ?_) | refine aPickB_split (fun hb => ?_) (fun hb => ?_) | refine gB_split (fun hb => ?_) (fun hb => ?_) | refine adB_split (fun hb => ?_) (fun hb => ?_)) <;> simp -implicitDefEqProofs only [hb, go_sem, h73, c73, ap_enc, ap_dec, AFn0_dec, AFn0_enc, Bool.not_true, Bool.not_false, ty182, lv75, AFWy_d0, AFWy_e0, Nat.reduceAdd, Nat.reduceMul, Nat.reduceLeDiff, Nat.reduceEqDiff, reduceCtorEq, Nat.reduceSub, Int.reduceNeg, Nat.reduceMod, Nat.reduceBEq, Nat.reduceLT] <;> try simp only [qa, qb, qc, qd, qe, qf, qg, bOf_t, bOf_f] at hb))
          all_goals (try simp only [maxLen] at *)
          all_goals first | rfl | omega | with_reducible assumption | exact hsz | exact hsz.1 | exact hsz.2 | exact hsz.2 _ (by assumption) | trivial | skip
          rw [bOf_f, Int.toNat_natCast] at hb
          refine ⟨⟨i + 1, by omega, ?_⟩, by dsimp only; omega, ?_⟩
          · rw [hix, ixP_no (p := FWy.sem (.way )) (by omega) hb]
          · simp -implicitDefEqProofs only [go_sem, h73, c73, ap_enc, ap_dec, AFn0_dec, AFn0_enc, Bool.not_true, Bool.not_false, ty182, lv75, AFWy_d0, AFWy_e0, Nat.reduceAdd, Nat.reduceMul, Nat.reduceLeDiff, Nat.reduceEqDiff, reduceCtorEq, Nat.reduceSub, Int.reduceNeg, Nat.reduceMod, Nat.reduceBEq, Nat.reduceLT]
            try simp
        · have hq := hb
          simp -implicitDefEqProofs only [hlt, hq, go_sem, h73, c73, ap_enc, ap_dec, AFn0_dec, AFn0_enc, Bool.not_true, Bool.not_false, ty182, lv75, AFWy_d0, AFWy_e0, Nat.reduceAdd, Nat.reduceMul, Nat.reduceLeDiff, Nat.reduceEqDiff, reduceCtorEq, Nat.reduceSub, Int.reduceNeg, Nat.reduceMod, Nat.reduceBEq, Nat.reduceLT]
          repeat' (first | with_reducible apply And.intro | with_reducible intro _ | ((first | refine brB_split (fun hb => ?_) (fun hb => ?_) | refine aPickB_split (fun hb => ?_) (fun hb => ?_) | refine gB_split (fun hb => ?_) (fun hb => ?_) | refine adB_split (fun hb => ?_) (fun hb => ?_)) <;> simp -implicitDefEqProofs only [hb, go_sem, h73, c73, ap_enc, ap_dec, AFn0_dec, AFn0_enc, Bool.not_true, Bool.not_false, ty182, lv75, AFWy_d0, AFWy_e0, Nat.reduceAdd, Nat.reduceMul, Nat.reduceLeDiff, Nat.reduceEqDiff, reduceCtorEq, Nat.reduceSub, Int.reduceNeg, Nat.reduceMod, Nat.reduceBEq, Nat.reduceLT] <;> try simp only [qa, qb, qc, qd, qe, qf, qg, bOf_t, bOf_f] at hb))
          all_goals (try simp only [maxLen] at *)
          all_goals first | rfl | omega | with_reducible assumption | exact hsz | exact hsz.1 | exact hsz.2 | exact hsz.2 _ (by assumption) | trivial | skip
          rw [bOf_t, Int.toNat_natCast] at hb
          rw [hix, ixP_yes (p := FWy.sem (.way )) (by omega) hb]
      · simp -implicitDefEqProofs only [hlt, go_sem, h73, c73, ap_enc, ap_dec, AFn0_dec, AFn0_enc, Bool.not_true, Bool.not_false, ty182, lv75, AFWy_d0, AFWy_e0, Nat.reduceAdd, Nat.reduceMul, Nat.reduceLeDiff, Nat.reduceEqDiff, reduceCtorEq, Nat.reduceSub, Int.reduceNeg, Nat.reduceMod, Nat.reduceBEq, Nat.reduceLT]
        repeat' (first | with_reducible apply And.intro | with_reducible intro _ | ((first | refine brB_split (fun hb => ?_) (fun hb => ?_) | refine aPickB_split (fun hb => ?_) (fun hb => ?_) | refine gB_split (fun hb => ?_) (fun hb => ?_) | refine adB_split (fun hb => ?_) (fun hb => ?_)) <;> simp -implicitDefEqProofs only [hb, go_sem, h73, c73, ap_enc, ap_dec, AFn0_dec, AFn0_enc, Bool.not_true, Bool.not_false, ty182, lv75, AFWy_d0, AFWy_e0, Nat.reduceAdd, Nat.reduceMul, Nat.reduceLeDiff, Nat.reduceEqDiff, reduceCtorEq, Nat.reduceSub, Int.reduceNeg, Nat.reduceMod, Nat.reduceBEq, Nat.reduceLT] <;> try simp only [qa, qb, qc, qd, qe, qf, qg, bOf_t, bOf_f] at hb))
        all_goals first | rfl | omega | skip
        all_goals (rw [hix, ixP_end (by omega)])

def c75 : Ct := ctR (lc EWy.asl (lc AFWy l0)) (fun p => ∀ x ∈ p.1, p.2.1.pre x) (fun p => .t (.v (.bool (bOf (∃ x ∈ p.1, p.2.1.sem x)))))
theorem good75 {G : Gt} (hG : OkG G) (h114 : G.e 114 = roEnt 0 c114) : Gd G 75 (roEnt 0 c75) := by
  refine gR (dp := fun _ => true) (fn := Tryz.f75) (n := 2) (fun _ => rfl) (by kernel_rfl) rfl (by kernel_rfl) hG (Nat.le_of_ble_eq_true rfl) (by kernel_rfl) (by decide) (fun _ _ => .v _) ?_
  rintro ⟨xs, f, ⟨⟩⟩ hpre


  dsimp only at hpre ⊢
  cases f
  all_goals
    simp -implicitDefEqProofs only [Tryz.f75, go_sem, h114, c114, ap_enc, ap_dec, AFn0_dec, AFn0_enc, Bool.not_true, Bool.not_false, ty182, lv75, AFWy_d0, AFWy_e0, Nat.reduceAdd, Nat.reduceMul, Nat.reduceLeDiff, Nat.reduceEqDiff, reduceCtorEq, Nat.reduceSub, Int.reduceNeg, Nat.reduceMod, Nat.reduceBEq, Nat.reduceLT]
    repeat' (first | with_reducible apply And.intro | with_reducible intro _ | ((first | refine brB_split (fun hb => ?_) (fun hb => ?_) | refine aPickB_split (fun hb => ?_) (fun hb => ?_) | refine gB_split (fun hb => ?_) (fun hb => ?_) | refine adB_split (fun hb => ?_) (fun hb => ?_)) <;> simp -implicitDefEqProofs only [hb, go_sem, h114, c114, ap_enc, ap_dec, AFn0_dec, AFn0_enc, Bool.not_true, Bool.not_false, ty182, lv75, AFWy_d0, AFWy_e0, Nat.reduceAdd, Nat.reduceMul, Nat.reduceLeDiff, Nat.reduceEqDiff, reduceCtorEq, Nat.reduceSub, Int.reduceNeg, Nat.reduceMod, Nat.reduceBEq, Nat.reduceLT] <;> try simp only [qa, qb, qc, qd, qe, qf, qg, bOf_t, bOf_f] at hb))
    all_goals first | rfl | omega | exact hpre | exact hpre _ (by assumption) | skip
    all_goals (rw [← bOf_congr (ixP_iff _ 0)]; rw [bOf_d])

def c117 : Ct := ctR (lc EStr.asl (lc AStr l0)) (fun p => True) (fun p => .t (.v (.int .i64 (ixP (fun s : ByteArray => s = p.2.1) 0 p.1))))
theorem good117 {G : Gt} (hG : OkG G) : Gd G 117 (roEnt 0 c117) := by
  refine gR (dp := fun _ => true) (fn := Tryz.f117) (n := 2) (fun _ => rfl) (by kernel_rfl) rfl (by kernel_rfl) hG (Nat.le_of_ble_eq_true rfl) (by kernel_rfl) (by decide) (fun _ _ => .v _) ?_
  rintro ⟨xs, a, ⟨⟩⟩ hpre
  simp -implicitDefEqProofs only [Tryz.f117, go_sem, List.length_map, Nat.reduceAdd, Nat.reduceMul, Nat.reduceLeDiff, Nat.reduceEqDiff, reduceCtorEq, Nat.reduceSub, Int.reduceNeg, Nat.reduceMod, Nat.reduceBEq, Nat.reduceLT] at hpre ⊢

  repeat' (first | with_reducible apply And.intro | with_reducible intro _ | ((first | refine brB_split (fun hb => ?_) (fun hb => ?_) | refine aPickB_split (fun hb => ?_) (fun hb => ?_) | refine gB_split (fun hb => ?_) (fun hb => ?_) | refine adB_split (fun hb => ?_) (fun hb => ?_)) <;> simp -implicitDefEqProofs only [hb, go_sem, List.length_map, Nat.reduceAdd, Nat.reduceMul, Nat.reduceLeDiff, Nat.reduceEqDiff, reduceCtorEq, Nat.reduceSub, Int.reduceNeg, Nat.reduceMod, Nat.reduceBEq, Nat.reduceLT] <;> try simp only [qa, qb, qc, qd, qe, qf, qg, bOf_t, bOf_f] at hb))
  all_goals first | rfl | omega | skip
  refine run_loop [] (ι := {i : Nat // i ≤ xs.length ∧ ixP (fun s : ByteArray => s = a) 0 xs = ixP (fun s : ByteArray => s = a) i (xs.drop i)}) (fun p => ⟨[(0, .t (.sl 1 (xs.map encStr))), (1, .t (.v (.string a))), (7, .t (.v (.int .i64 xs.length))), (8, .t (.v (.int .i64 p.1)))], []⟩) (fun p => xs.length - p.1) ⟨0, by simp, rfl⟩ rfl ?_ ?_
  · simp -implicitDefEqProofs only [go_sem, List.length_map, Nat.reduceAdd, Nat.reduceMul, Nat.reduceLeDiff, Nat.reduceEqDiff, reduceCtorEq, Nat.reduceSub, Int.reduceNeg, Nat.reduceMod, Nat.reduceBEq, Nat.reduceLT]
    simp
  · rintro ⟨i, hi, hix⟩
    by_cases hlt : (i : Int) < xs.length
    · simp -implicitDefEqProofs only [hlt, decide_true, Int.toNat_natCast, go_sem, List.length_map, Nat.reduceAdd, Nat.reduceMul, Nat.reduceLeDiff, Nat.reduceEqDiff, reduceCtorEq, Nat.reduceSub, Int.reduceNeg, Nat.reduceMod, Nat.reduceBEq, Nat.reduceLT]
      repeat' (first | with_reducible apply And.intro | with_reducible intro _ | ((first | refine brB_split (fun hb => ?_) (fun hb => ?_) | refine aPickB_split (fun hb => ?_) (fun hb => ?_) | refine gB_split (fun hb => ?_) (fun hb => ?_) | refine adB_split (fun hb => ?_) (fun hb => ?_)) <;> simp -implicitDefEqProofs only [hb, go_sem, List.length_map, Nat.reduceAdd, Nat.reduceMul, Nat.reduceLeDiff, Nat.reduceEqDiff, reduceCtorEq, Nat.reduceSub, Int.reduceNeg, Nat.reduceMod, Nat.reduceBEq, Nat.reduceLT] <;> try simp only [qa, qb, qc, qd, qe, qf, qg, bOf_t, bOf_f] at hb))
      all_goals (try simp only [maxLen] at *)
      all_goals first | rfl | omega | skip
      · rw [hix, ixP_yes (p := fun s : ByteArray => s = a) (by omega) hb.symm]
      · refine ⟨⟨i + 1, by omega, by rw [hix, ixP_no (p := fun s : ByteArray => s = a) (by omega) (fun e => hb e.symm)]⟩, by dsimp only; omega, ?_⟩
        simp -implicitDefEqProofs only [go_sem, List.length_map, Nat.reduceAdd, Nat.reduceMul, Nat.reduceLeDiff, Nat.reduceEqDiff, reduceCtorEq, Nat.reduceSub, Int.reduceNeg, Nat.reduceMod, Nat.reduceBEq, Nat.reduceLT]
        simp
    · simp -implicitDefEqProofs only [hlt, decide_false, go_sem, List.length_map, Nat.reduceAdd, Nat.reduceMul, Nat.reduceLeDiff, Nat.reduceEqDiff, reduceCtorEq, Nat.reduceSub, Int.reduceNeg, Nat.reduceMod, Nat.reduceBEq, Nat.reduceLT]
      repeat' (first | with_reducible apply And.intro | with_reducible intro _ | ((first | refine brB_split (fun hb => ?_) (fun hb => ?_) | refine aPickB_split (fun hb => ?_) (fun hb => ?_) | refine gB_split (fun hb => ?_) (fun hb => ?_) | refine adB_split (fun hb => ?_) (fun hb => ?_)) <;> simp -implicitDefEqProofs only [hb, go_sem, List.length_map, Nat.reduceAdd, Nat.reduceMul, Nat.reduceLeDiff, Nat.reduceEqDiff, reduceCtorEq, Nat.reduceSub, Int.reduceNeg, Nat.reduceMod, Nat.reduceBEq, Nat.reduceLT] <;> try simp only [qa, qb, qc, qd, qe, qf, qg, bOf_t, bOf_f] at hb))
      all_goals first | rfl | omega | skip
      rw [hix, ixP_end (by omega)]

def c81 : Ct := ctR (lc EStr.asl (lc AStr l0)) (fun p => True) (fun p => .t (.v (.bool (bOf (p.2.1 ∈ p.1)))))
theorem good81 {G : Gt} (hG : OkG G) (h117 : G.e 117 = roEnt 0 c117) : Gd G 81 (roEnt 0 c81) := by
  refine gR (dp := fun _ => true) (fn := Tryz.f81) (n := 2) (fun _ => rfl) (by kernel_rfl) rfl (by kernel_rfl) hG (Nat.le_of_ble_eq_true rfl) (by kernel_rfl) (by decide) (fun _ _ => .v _) ?_
  rintro ⟨xs, a, ⟨⟩⟩ hpre
  simp -implicitDefEqProofs only [Tryz.f81, go_sem, h117, c117, Nat.reduceAdd, Nat.reduceMul, Nat.reduceLeDiff, Nat.reduceEqDiff, reduceCtorEq, Nat.reduceSub, Int.reduceNeg, Nat.reduceMod, Nat.reduceBEq, Nat.reduceLT] at hpre ⊢

  repeat' (first | with_reducible apply And.intro | with_reducible intro _ | ((first | refine brB_split (fun hb => ?_) (fun hb => ?_) | refine aPickB_split (fun hb => ?_) (fun hb => ?_) | refine gB_split (fun hb => ?_) (fun hb => ?_) | refine adB_split (fun hb => ?_) (fun hb => ?_)) <;> simp -implicitDefEqProofs only [hb, go_sem, h117, c117, Nat.reduceAdd, Nat.reduceMul, Nat.reduceLeDiff, Nat.reduceEqDiff, reduceCtorEq, Nat.reduceSub, Int.reduceNeg, Nat.reduceMod, Nat.reduceBEq, Nat.reduceLT] <;> try simp only [qa, qb, qc, qd, qe, qf, qg, bOf_t, bOf_f] at hb))
  all_goals first | rfl | omega | skip
  refine uD ?_
  rw [ge_iff_le, ixP_iff]
  exact ⟨fun ⟨x, hx, e⟩ => e ▸ hx, fun h => ⟨a, h, rfl⟩⟩

def c37 : Ct := ctR (lc ECf.ag (lc AStr l0)) (fun p => True) (fun p => .t (.v (.bool (bOf (p.2.1 ∈ p.1.own)))))
theorem good37 {G : Gt} (hG : OkG G) (h81 : G.e 81 = roEnt 0 c81) : Gd G 37 (roEnt 0 c37) := by
  refine gR (dp := fun _ => true) (fn := Tryz.f37) (n := 2) (fun _ => rfl) (by kernel_rfl) rfl (by kernel_rfl) hG (Nat.le_of_ble_eq_true rfl) (by kernel_rfl) (by decide) (fun _ _ => .v _) ?_
  rintro ⟨c, a, ⟨⟩⟩ hpre
  simp -implicitDefEqProofs only [Tryz.f37, go_sem, h81, c81, Nat.reduceAdd, Nat.reduceMul, Nat.reduceLeDiff, Nat.reduceEqDiff, reduceCtorEq, Nat.reduceSub, Int.reduceNeg, Nat.reduceMod, Nat.reduceBEq, Nat.reduceLT] at hpre ⊢

  repeat' (first | with_reducible apply And.intro | with_reducible intro _ | ((first | refine brB_split (fun hb => ?_) (fun hb => ?_) | refine aPickB_split (fun hb => ?_) (fun hb => ?_) | refine gB_split (fun hb => ?_) (fun hb => ?_) | refine adB_split (fun hb => ?_) (fun hb => ?_)) <;> simp -implicitDefEqProofs only [hb, go_sem, h81, c81, Nat.reduceAdd, Nat.reduceMul, Nat.reduceLeDiff, Nat.reduceEqDiff, reduceCtorEq, Nat.reduceSub, Int.reduceNeg, Nat.reduceMod, Nat.reduceBEq, Nat.reduceLT] <;> try simp only [qa, qb, qc, qd, qe, qf, qg, bOf_t, bOf_f] at hb))
  all_goals first | rfl | omega | trace_state

def c31 : Ct := ctR (lc ECf.ag l0) (fun p => OkCf p.1) (fun p => .t (.v (.bool (bOf (CfOk p.1)))))
set_option maxHeartbeats 1600000 in
theorem good31 {G : Gt} (hG : OkG G) (h72 : G.e 72 = roEnt 0 c72) (h74 : G.e 74 = roEnt 0 c74) (h75 : G.e 75 = roEnt 0 c75) : Gd G 31 (roEnt 0 c31) := by
  refine gR (dp := fun _ => true) (fn := Tryz.f31) (n := 1) (fun _ => rfl) (by kernel_rfl) rfl (by kernel_rfl) hG (Nat.le_of_ble_eq_true rfl) (by kernel_rfl) (by decide) (fun _ _ => .v _) ?_
  rintro ⟨c, ⟨⟩⟩ hpre
  simp -implicitDefEqProofs only [Tryz.f31, go_sem, h72, c72, h74, c74, h75, c75, ap_enc, ap_dec, AFn0_dec, AFn0_enc, Bool.not_true, Bool.not_false, ty182, lv75, AFGm_d0, AFGm_e0, AFWy_d0, AFWy_e0, AFStr_d0, AFStr_e0, AFStr_d1, AFStr_e1, bOf_t, bOf_f, List.length_map, Nat.reduceAdd, Nat.reduceMul, Nat.reduceLeDiff, Nat.reduceEqDiff, reduceCtorEq, Nat.reduceSub, Int.reduceNeg, Nat.reduceMod, Nat.reduceBEq, Nat.reduceLT] at hpre ⊢

  obtain ⟨z1, ⟨l1, z2⟩, ⟨l2, z3⟩⟩ := hpre
  have y1 : c.name.size ≤ 2000000 := by have : c.name.size ≤ 1048576 := z1; omega
  have y2 : ∀ x ∈ c.own, FStr.pre .dom x := fun x hx => by have : x.size ≤ 1048576 := z2 x hx; show x.size ≤ 2000000; omega
  have y3 : ∀ x ∈ c.ways, FWy.pre .way x := fun x hx => by
    have h1 : x.ends.size ≤ 1048576 := (z3 x hx).1
    have h2 : x.to.size ≤ 1048576 := (z3 x hx).2
    exact ⟨by omega, by omega⟩
  have e1 : (¬ ∃ x ∈ c.own, FStr.sem .dom x) ↔ ∀ s ∈ c.own, Dom s := ⟨fun h s hs => Classical.byContradiction fun q => h ⟨s, hs, q⟩, fun h ⟨s, hs, q⟩ => q (h s hs)⟩
  have e2 : (¬ ∃ x ∈ c.ways, FWy.sem .way x) ↔ ∀ w ∈ c.ways, Dom w.ends ∧ Dom w.to := ⟨fun h s hs => Classical.byContradiction fun q => h ⟨s, hs, q⟩, fun h ⟨s, hs, q⟩ => q (h s hs)⟩
  repeat' (first | with_reducible apply And.intro | with_reducible intro _ | ((first | refine brB_split (fun hb => ?_) (fun hb => ?_) | refine aPickB_split (fun hb => ?_) (fun hb => ?_) | refine gB_split (fun hb => ?_) (fun hb => ?_) | refine adB_split (fun hb => ?_) (fun hb => ?_)) <;> simp -implicitDefEqProofs only [hb, go_sem, h72, c72, h74, c74, h75, c75, ap_enc, ap_dec, AFn0_dec, AFn0_enc, Bool.not_true, Bool.not_false, ty182, lv75, AFGm_d0, AFGm_e0, AFWy_d0, AFWy_e0, AFStr_d0, AFStr_e0, AFStr_d1, AFStr_e1, bOf_t, bOf_f, List.length_map, Nat.reduceAdd, Nat.reduceMul, Nat.reduceLeDiff, Nat.reduceEqDiff, reduceCtorEq, Nat.reduceSub, Int.reduceNeg, Nat.reduceMod, Nat.reduceBEq, Nat.reduceLT] <;> try simp only [qa, qb, qc, qd, qe, qf, qg, bOf_t, bOf_f] at hb))
  all_goals first | rfl | omega | assumption | exact y2 _ (by assumption) | exact y3 _ (by assumption) | skip
  all_goals first
    | exact uN (e2.trans ⟨fun q => ⟨e1.1 (by assumption), q, by assumption, by omega, by omega⟩, fun q => q.2.1⟩)
    | exact uF (fun q => absurd q.2.2.1 (by assumption))
    | exact uF (fun q => by have h1 := q.2.2.2.1; have h2 := q.2.2.2.2; omega)
    | exact uF (fun q => absurd hb (e1.2 q.1))
    | trace_state

def c9 : Ct := ctR (lc EHs.ag l0) (fun p => OkHs p.1) (fun p => .t (.v (.bool (bOf (HsOk p.1)))))
set_option maxHeartbeats 6400000 in
theorem good9 {G : Gt} (hG : OkG G) (h31 : G.e 31 = roEnt 0 c31) (h32 : G.e 32 = roEnt 0 c32) (h36 : G.e 36 = roEnt 0 c36) (h37 : G.e 37 = roEnt 0 c37) (h38 : G.e 38 = roEnt 0 c38) (h39 : G.e 39 = roEnt 0 c39) : Gd G 9 (roEnt 0 c9) := by
  refine gR (dp := fun _ => true) (fn := Tryz.f9) (n := 1) (fun _ => rfl) (by kernel_rfl) rfl (by kernel_rfl) hG (Nat.le_of_ble_eq_true rfl) (by kernel_rfl) (by decide) (fun _ _ => .v _) ?_
  rintro ⟨h, ⟨⟩⟩ hpre
  simp -implicitDefEqProofs only [Tryz.f9, go_sem, h31, c31, h32, c32, h36, c36, h37, c37, h38, c38, h39, c39, ap_enc, ap_dec, AFn0_dec, AFn0_enc, Bool.not_true, Bool.not_false, ty182, lv75, AFGm_d0, AFGm_e0, AFWy_d0, AFWy_e0, AFStr_d0, AFStr_e0, AFStr_d1, AFStr_e1, bOf_t, bOf_f, List.length_map, Nat.reduceAdd, Nat.reduceMul, Nat.reduceLeDiff, Nat.reduceEqDiff, reduceCtorEq, Nat.reduceSub, Int.reduceNeg, Nat.reduceMod, Nat.reduceBEq, Nat.reduceLT] at hpre ⊢

  obtain ⟨zc, zs, ⟨lb, zb⟩, zl⟩ := hpre
  have e1 : ∀ j, j < h.boxes.length → ((∃ x ∈ (h.boxes.getD j default).mails, FGm.sem .bad x) ↔ ¬ ∀ g ∈ (h.boxes.getD j default).mails, (AdOk g.frm ∨ AdNull g.frm) ∧ BdOk g.body) := fun j _ => ⟨fun ⟨s, hs, q⟩ f => q (f s hs), fun f => Classical.byContradiction fun q => f fun s hs => Classical.byContradiction fun r => q ⟨s, hs, r⟩⟩
  repeat' (first | with_reducible apply And.intro | with_reducible intro _ | ((first | refine brB_split (fun hb => ?_) (fun hb => ?_) | refine aPickB_split (fun hb => ?_) (fun hb => ?_) | refine gB_split (fun hb => ?_) (fun hb => ?_) | refine adB_split (fun hb => ?_) (fun hb => ?_)) <;> simp -implicitDefEqProofs only [hb, go_sem, h31, c31, h32, c32, h36, c36, h37, c37, h38, c38, h39, c39, ap_enc, ap_dec, AFn0_dec, AFn0_enc, Bool.not_true, Bool.not_false, ty182, lv75, AFGm_d0, AFGm_e0, AFWy_d0, AFWy_e0, AFStr_d0, AFStr_e0, AFStr_d1, AFStr_e1, bOf_t, bOf_f, List.length_map, Nat.reduceAdd, Nat.reduceMul, Nat.reduceLeDiff, Nat.reduceEqDiff, reduceCtorEq, Nat.reduceSub, Int.reduceNeg, Nat.reduceMod, Nat.reduceBEq, Nat.reduceLT] <;> try simp only [qa, qb, qc, qd, qe, qf, qg, bOf_t, bOf_f] at hb))
  all_goals first
    | rfl
    | omega
    | assumption
    | exact uF (fun q => absurd q.2.1 (by assumption))
    | exact uF (fun q => absurd q.2.2 (by assumption))
    | skip
  all_goals
    refine run_loop [] (ι := {i : Nat // i ≤ h.boxes.length ∧ ∀ j, j < i → BxAt h j}) (fun p => ⟨[(1, .pb 1001 0), (3, .fn 33 []), (17, .t (.sl 3 (h.boxes.map encBx))), (18, .t (.v (.int .i64 h.boxes.length))), (19, .t (.v (.int .i64 p.1)))], [(1001, some (.box ((encHs h).map .t)))]⟩) (fun p => h.boxes.length - p.1) ⟨0, by simp, by simp⟩ rfl ?_ ?_
    · simp -implicitDefEqProofs only [go_sem, h31, c31, h32, c32, h36, c36, h37, c37, h38, c38, h39, c39, ap_enc, ap_dec, AFn0_dec, AFn0_enc, Bool.not_true, Bool.not_false, ty182, lv75, AFGm_d0, AFGm_e0, AFWy_d0, AFWy_e0, AFStr_d0, AFStr_e0, AFStr_d1, AFStr_e1, bOf_t, bOf_f, List.length_map, Nat.reduceAdd, Nat.reduceMul, Nat.reduceLeDiff, Nat.reduceEqDiff, reduceCtorEq, Nat.reduceSub, Int.reduceNeg, Nat.reduceMod, Nat.reduceBEq, Nat.reduceLT]
      simp
    · rintro ⟨i, hi, hall⟩
      by_cases hlt : (i : Int) < h.boxes.length
      · have hbx := zb _ (getD_mem (xs := h.boxes) (j := i) (by omega))
        obtain ⟨za, zm⟩ := hbx
        have y1 : (h.boxes.getD i default).addr.domain.size ≤ 2000000 := by have : (h.boxes.getD i default).addr.domain.size ≤ 1048576 := za.2; omega
        have y2 : ∀ x ∈ (h.boxes.getD i default).mails, FGm.pre .bad x := fun x hx => by
          obtain ⟨⟨_, g1⟩, ⟨_, g2⟩⟩ := zm.2 x hx
          refine ⟨by have : x.frm.domain.size ≤ 1048576 := g1; omega, fun s hs => ?_⟩
          have : s.size ≤ 1048576 := g2 s hs
          omega
        have e2 := e1 i (by omega)
        simp -implicitDefEqProofs only [hlt, decide_true, Int.toNat_natCast, go_sem, h31, c31, h32, c32, h36, c36, h37, c37, h38, c38, h39, c39, ap_enc, ap_dec, AFn0_dec, AFn0_enc, Bool.not_true, Bool.not_false, ty182, lv75, AFGm_d0, AFGm_e0, AFWy_d0, AFWy_e0, AFStr_d0, AFStr_e0, AFStr_d1, AFStr_e1, bOf_t, bOf_f, List.length_map, Nat.reduceAdd, Nat.reduceMul, Nat.reduceLeDiff, Nat.reduceEqDiff, reduceCtorEq, Nat.reduceSub, Int.reduceNeg, Nat.reduceMod, Nat.reduceBEq, Nat.reduceLT]
        repeat' (first | with_reducible apply And.intro | with_reducible intro _ | ((first | refine brB_split (fun hb => ?_) (fun hb => ?_) | refine aPickB_split (fun hb => ?_) (fun hb => ?_) | refine gB_split (fun hb => ?_) (fun hb => ?_) | refine adB_split (fun hb => ?_) (fun hb => ?_)) <;> simp -implicitDefEqProofs only [hb, go_sem, h31, c31, h32, c32, h36, c36, h37, c37, h38, c38, h39, c39, ap_enc, ap_dec, AFn0_dec, AFn0_enc, Bool.not_true, Bool.not_false, ty182, lv75, AFGm_d0, AFGm_e0, AFWy_d0, AFWy_e0, AFStr_d0, AFStr_e0, AFStr_d1, AFStr_e1, bOf_t, bOf_f, List.length_map, Nat.reduceAdd, Nat.reduceMul, Nat.reduceLeDiff, Nat.reduceEqDiff, reduceCtorEq, Nat.reduceSub, Int.reduceNeg, Nat.reduceMod, Nat.reduceBEq, Nat.reduceLT] <;> try simp only [qa, qb, qc, qd, qe, qf, qg, bOf_t, bOf_f] at hb))
        all_goals (try simp only [maxLen, Int.toNat_natCast] at *)
        all_goals have hnat : ((i : Int) - 1).toNat = i - 1 := by omega
        all_goals first
          | rfl
          | omega
          | assumption
          | exact y2 _ (by assumption)
          | exact uF (fun q => absurd (q.1 i (by omega)).1.2 (by assumption))
          | exact uF (fun q => absurd (q.1 i (by omega)).2.2 (by assumption))
          | exact uF (fun q => absurd hb (fun f => e2.1 f (q.1 i (by omega)).1.1))
          | exact uF (fun q => by have h9 := (byD_lt _ _).2 ((q.1 i (by omega)).2.1 (by omega)); rw [← hnat] at h9; omega)
          | skip
        all_goals
          refine ⟨⟨i + 1, by omega, bx_step hall ⟨⟨Classical.byContradiction fun f => absurd (e2.2 f) (by assumption), by assumption⟩, fun _ => by first | (exact (byD_lt _ _).1 (by rw [← hnat]; omega)) | (exfalso; omega), by assumption⟩⟩, by dsimp only; omega, ?_⟩
          simp -implicitDefEqProofs only [go_sem, h31, c31, h32, c32, h36, c36, h37, c37, h38, c38, h39, c39, ap_enc, ap_dec, AFn0_dec, AFn0_enc, Bool.not_true, Bool.not_false, ty182, lv75, AFGm_d0, AFGm_e0, AFWy_d0, AFWy_e0, AFStr_d0, AFStr_e0, AFStr_d1, AFStr_e1, bOf_t, bOf_f, List.length_map, Nat.reduceAdd, Nat.reduceMul, Nat.reduceLeDiff, Nat.reduceEqDiff, reduceCtorEq, Nat.reduceSub, Int.reduceNeg, Nat.reduceMod, Nat.reduceBEq, Nat.reduceLT]
          simp
      · simp -implicitDefEqProofs only [hlt, decide_false, go_sem, h31, c31, h32, c32, h36, c36, h37, c37, h38, c38, h39, c39, ap_enc, ap_dec, AFn0_dec, AFn0_enc, Bool.not_true, Bool.not_false, ty182, lv75, AFGm_d0, AFGm_e0, AFWy_d0, AFWy_e0, AFStr_d0, AFStr_e0, AFStr_d1, AFStr_e1, bOf_t, bOf_f, List.length_map, Nat.reduceAdd, Nat.reduceMul, Nat.reduceLeDiff, Nat.reduceEqDiff, reduceCtorEq, Nat.reduceSub, Int.reduceNeg, Nat.reduceMod, Nat.reduceBEq, Nat.reduceLT]
        repeat' (first | with_reducible apply And.intro | with_reducible intro _ | ((first | refine brB_split (fun hb => ?_) (fun hb => ?_) | refine aPickB_split (fun hb => ?_) (fun hb => ?_) | refine gB_split (fun hb => ?_) (fun hb => ?_) | refine adB_split (fun hb => ?_) (fun hb => ?_)) <;> simp -implicitDefEqProofs only [hb, go_sem, h31, c31, h32, c32, h36, c36, h37, c37, h38, c38, h39, c39, ap_enc, ap_dec, AFn0_dec, AFn0_enc, Bool.not_true, Bool.not_false, ty182, lv75, AFGm_d0, AFGm_e0, AFWy_d0, AFWy_e0, AFStr_d0, AFStr_e0, AFStr_d1, AFStr_e1, bOf_t, bOf_f, List.length_map, Nat.reduceAdd, Nat.reduceMul, Nat.reduceLeDiff, Nat.reduceEqDiff, reduceCtorEq, Nat.reduceSub, Int.reduceNeg, Nat.reduceMod, Nat.reduceBEq, Nat.reduceLT] <;> try simp only [qa, qb, qc, qd, qe, qf, qg, bOf_t, bOf_f] at hb))
        all_goals first | rfl | omega | exact uT ⟨fun j hj => hall j (by omega), by assumption, by assumption⟩ | trace_state


def mkW (a : ByteArray) : MK := .s a
theorem mkW_inj {a b : ByteArray} (h : mkW a = mkW b) : a = b := by
  simp only [mkW, MK.s.injEq] at h
  exact h
theorem kdW : KeyD Tryz.prog 9 (some 0) := KeyD.str u9
theorem decS1 {x : ByteArray} : EStr.decL [[.v (.string x)]] = some [x] := EStr.decL_map [x]
def disW (xs : List ByteArray) : List (MK × Bool) := xs.foldl (fun es a => upE (mkW a) true es) []
theorem disW_snoc (xs : List ByteArray) (a : ByteArray) : disW (xs ++ [a]) = upE (mkW a) true (disW xs) := by simp [disW]
theorem disW_mem (xs : List ByteArray) (a : ByteArray) : mkW a ∈ (disW xs).map Prod.fst ↔ a ∈ xs := by
  generalize hr : xs.reverse = r
  have hx : xs = r.reverse := by rw [← hr, List.reverse_reverse]
  subst hx
  clear hr
  induction r with
  | nil => simp [disW]
  | cons b r ih =>
    rw [List.reverse_cons, disW_snoc, upE_keys, List.mem_append, ← propext ih]
    by_cases h : mkW b ∈ (disW r.reverse).map Prod.fst
    · rw [if_pos h]
      constructor
      · exact .inl
      · rintro (h1 | h1)
        · exact h1
        · rw [List.mem_singleton.1 h1]; exact h
    · rw [if_neg h, List.mem_append, List.mem_singleton, List.mem_singleton]
      exact or_congr_right ⟨mkW_inj, fun e => by rw [e]⟩
theorem disW_len (xs : List ByteArray) : (disW xs).length ≤ xs.length ∧ ((disW xs).length = xs.length ↔ xs.Nodup) := by
  generalize hr : xs.reverse = r
  have hx : xs = r.reverse := by rw [← hr, List.reverse_reverse]
  subst hx
  clear hr
  induction r with
  | nil => simp [disW]
  | cons b r ih =>
    have hl : ∀ es : List (MK × Bool), es.length = (es.map Prod.fst).length := fun es => by rw [List.length_map]
    have hn : (r.reverse ++ [b]).Nodup ↔ r.reverse.Nodup ∧ b ∉ r.reverse := by
      rw [List.nodup_append]
      constructor
      · rintro ⟨h1, _, h3⟩
        exact ⟨h1, fun hb => h3 b hb b (by simp) rfl⟩
      · rintro ⟨h1, h2⟩
        refine ⟨h1, by simp, fun x hx y hy e => ?_⟩
        rw [List.mem_singleton] at hy
        subst hy; subst e; exact h2 hx
    rw [List.reverse_cons, disW_snoc, hl, upE_keys, List.length_append, hn, ← disW_mem]
    obtain ⟨i1, i2⟩ := ih
    by_cases h : mkW b ∈ (disW r.reverse).map Prod.fst
    · rw [if_pos h, ← hl]
      refine ⟨by omega, ⟨fun e => ?_, fun e => absurd h e.2⟩⟩
      simp at e i1; omega
    · rw [if_neg h, List.length_append, ← hl]
      refine ⟨by simp at *; omega, ⟨fun e => ⟨i2.1 (by simp at *; omega), h⟩, fun e => ?_⟩⟩
      have := i2.2 e.1
      simp at *; omega
theorem takeW_succ {xs : List ByteArray} {i : Nat} (h : i < xs.length) : xs.take (i + 1) = xs.take i ++ [xs.getD i default] := by
  rw [List.take_succ_eq_append_getElem h]
  simp [h]
theorem disW_take {xs : List ByteArray} {i : Nat} (h : i < xs.length) : upE (.s (xs.getD i default)) true (disW (xs.take i)) = disW (xs.take (i + 1)) := by
  rw [takeW_succ h, disW_snoc]; rfl

def pId : ByteArray := ⟨#[73, 100, 58, 32]⟩
def MkLine (s : ByteArray) : Prop := 4 < s.size ∧ s.extract 0 4 = pId
noncomputable def mkOf : List ByteArray → ByteArray
  | [] => ⟨#[]⟩
  | x :: r => bif bOf (MkLine x) then x else mkOf r
theorem mkOf_yes {xs : List ByteArray} {i : Nat} (h : i < xs.length) (ha : MkLine (xs.getD i default)) : mkOf (xs.drop i) = xs.getD i default := by
  rw [getD_drop h, mkOf, bOf_y ha]; rfl
theorem mkOf_no {xs : List ByteArray} {i : Nat} (h : i < xs.length) (ha : ¬ MkLine (xs.getD i default)) : mkOf (xs.drop i) = mkOf (xs.drop (i + 1)) := by
  rw [getD_drop h, mkOf, bOf_n ha]; rfl
theorem mkOf_end {xs : List ByteArray} {i : Nat} (h : xs.length ≤ i) : mkOf (xs.drop i) = ⟨#[]⟩ := by
  rw [List.drop_eq_nil_of_le h, mkOf]
def Pre (s p : ByteArray) : Prop := p.size ≤ s.size ∧ s.extract 0 p.size = p
theorem mk_pre (s : ByteArray) : (Pre s pId ∧ ¬ s = pId) ↔ MkLine s := by
  unfold Pre MkLine
  have h4 : pId.size = 4 := rfl
  rw [h4]
  constructor
  · rintro ⟨⟨h1, h2⟩, h3⟩
    refine ⟨?_, h2⟩
    by_cases e : s.size = 4
    · exfalso
      apply h3
      rw [← h2, ← e]
      exact (ByteArray.extract_zero_size).symm
    · omega
  · rintro ⟨h1, h2⟩
    exact ⟨⟨by omega, h2⟩, fun e => by rw [e] at h1; have : pId.size = 4 := rfl; omega⟩
def LsOk (l : Ls) : Prop := ¬ l.mark = ⟨#[]⟩ ∧ mkOf [l.mark] = l.mark ∧ AdOk l.addr ∧ Lin l.mark
def hnm (h : Hs) : ByteArray := h.conf.name
def WdOk (w : Wd) : Prop := (∀ h ∈ w.hosts, HsOk h) ∧ (w.hosts.map hnm).Nodup ∧ (∀ l ∈ w.given, LsOk l) ∧ (1 ≤ (w.hosts.length : Int) ∧ (w.hosts.length : Int) ≤ 4) ∧ (0 ≤ w.now ∧ w.now ≤ 9999) ∧ (0 ≤ w.marks ∧ w.marks ≤ 60)
theorem nodup_hnm {xs : List Hs} (h : ∀ j, j < xs.length → ∀ k, k < j → ¬ (xs.getD k default).conf.name = (xs.getD j default).conf.name) : (xs.map hnm).Nodup := by
  rw [List.nodup_iff_pairwise_ne, List.pairwise_iff_getElem]
  intro k j hk hj hkj
  rw [List.length_map] at hk hj
  have := h j hj k hkj
  simpa [hk, hj, hnm] using this
theorem hnm_nodup {xs : List Hs} (h : (xs.map hnm).Nodup) {k i : Nat} (hk : k < i) (hi : i < xs.length) : ¬ (xs.getD k default).conf.name = (xs.getD i default).conf.name := fun e => by
  have q1 : k < xs.length := by omega
  simp only [List.getD_eq_getElem?_getD, List.getElem?_eq_getElem q1, List.getElem?_eq_getElem hi, Option.getD_some] at e
  exact List.pairwise_iff_getElem.1 (List.nodup_iff_pairwise_ne.1 h) k i (by simpa using q1) (by simpa using hi) hk (by simpa [hnm] using e)
theorem take_hnm {xs : List Hs} {i : Nat} (h : i < xs.length) : ((xs.map hnm).take (i + 1)).map encStr = ((xs.map hnm).take i).map encStr ++ [[.v (.string (xs.getD i default).conf.name)]] := by
  have e : (xs.map hnm).getD i default = (xs.getD i default).conf.name := by
    simp only [List.getD_eq_getElem?_getD, List.getElem?_map, List.getElem?_eq_getElem h, Option.map_some, Option.getD_some]; rfl
  rw [take_snoc_map encStr (by rw [List.length_map]; exact h), e]
  rfl
def c49 : Ct := ctR (lc EStr.asl l0) (fun p => True) (fun p => .t (.v (.bool (bOf p.1.Nodup))))
theorem good49 {G : Gt} (hG : OkG G) : Gd G 49 (roEnt 0 c49) := by
  refine gR (dp := fun _ => true) (fn := Tryz.f49) (n := 1) (fun _ => rfl) (by kernel_rfl) rfl (by kernel_rfl) hG (Nat.le_of_ble_eq_true rfl) (by kernel_rfl) (by decide) (fun _ _ => .v _) ?_
  rintro ⟨xs, ⟨⟩⟩ hpre
  simp -implicitDefEqProofs only [Tryz.f49, go_sem, ap_enc, ap_dec, AFn0_dec, AFn0_enc, Bool.not_true, Bool.not_false, ty182, lv75, ty139, Nat.reduceAdd, Nat.reduceMul, Nat.reduceLeDiff, Nat.reduceEqDiff, reduceCtorEq, Nat.reduceSub, Int.reduceNeg, Nat.reduceMod, Nat.reduceBEq, Nat.reduceLT] at hpre ⊢

  repeat' (first | with_reducible apply And.intro | with_reducible intro _ | ((first | refine brB_split (fun hb => ?_) (fun hb => ?_) | refine aPickB_split (fun hb => ?_) (fun hb => ?_) | refine gB_split (fun hb => ?_) (fun hb => ?_) | refine adB_split (fun hb => ?_) (fun hb => ?_)) <;> simp -implicitDefEqProofs only [hb, go_sem, ap_enc, ap_dec, AFn0_dec, AFn0_enc, Bool.not_true, Bool.not_false, ty182, lv75, ty139, Nat.reduceAdd, Nat.reduceMul, Nat.reduceLeDiff, Nat.reduceEqDiff, reduceCtorEq, Nat.reduceSub, Int.reduceNeg, Nat.reduceMod, Nat.reduceBEq, Nat.reduceLT] <;> try simp only [qa, qb, qc, qd, qe, qf, qg, bOf_t, bOf_f] at hb))
  all_goals first | rfl | omega | skip
  refine run_loop [] (ι := {i : Nat // i ≤ xs.length}) (fun p => ⟨[(0, .t (.sl 1 (xs.map encStr))), (3, .h 1006), (7, .t (.sl 1 (xs.map encStr))), (8, .t (.v (.int .i64 xs.length))), (9, .t (.v (.int .i64 p.1)))], [(1006, some (.mp (some 0) (disW (xs.take p.1))))]⟩) (fun p => xs.length - p.1) ⟨0, Nat.zero_le _⟩ rfl ?_ ?_
  · simp -implicitDefEqProofs only [go_sem, ap_enc, ap_dec, AFn0_dec, AFn0_enc, Bool.not_true, Bool.not_false, ty182, lv75, ty139, Nat.reduceAdd, Nat.reduceMul, Nat.reduceLeDiff, Nat.reduceEqDiff, reduceCtorEq, Nat.reduceSub, Int.reduceNeg, Nat.reduceMod, Nat.reduceBEq, Nat.reduceLT]
    simp
    rfl
  · rintro ⟨i, hi⟩
    by_cases hlt : (i : Int) < xs.length
    · simp -implicitDefEqProofs only [hlt, go_sem, ap_enc, ap_dec, AFn0_dec, AFn0_enc, Bool.not_true, Bool.not_false, ty182, lv75, ty139, Nat.reduceAdd, Nat.reduceMul, Nat.reduceLeDiff, Nat.reduceEqDiff, reduceCtorEq, Nat.reduceSub, Int.reduceNeg, Nat.reduceMod, Nat.reduceBEq, Nat.reduceLT]
      repeat' (first | with_reducible apply And.intro | with_reducible intro _ | ((first | refine brB_split (fun hb => ?_) (fun hb => ?_) | refine aPickB_split (fun hb => ?_) (fun hb => ?_) | refine gB_split (fun hb => ?_) (fun hb => ?_) | refine adB_split (fun hb => ?_) (fun hb => ?_)) <;> simp -implicitDefEqProofs only [hb, go_sem, ap_enc, ap_dec, AFn0_dec, AFn0_enc, Bool.not_true, Bool.not_false, ty182, lv75, ty139, Nat.reduceAdd, Nat.reduceMul, Nat.reduceLeDiff, Nat.reduceEqDiff, reduceCtorEq, Nat.reduceSub, Int.reduceNeg, Nat.reduceMod, Nat.reduceBEq, Nat.reduceLT] <;> try simp only [qa, qb, qc, qd, qe, qf, qg, bOf_t, bOf_f] at hb))
      all_goals (try simp only [maxLen] at *)
      all_goals first | rfl | omega | exact kdW | skip
      refine ⟨⟨i + 1, by omega⟩, by dsimp only; omega, ?_⟩
      simp -implicitDefEqProofs only [go_sem, ap_enc, ap_dec, AFn0_dec, AFn0_enc, Bool.not_true, Bool.not_false, ty182, lv75, ty139, Nat.reduceAdd, Nat.reduceMul, Nat.reduceLeDiff, Nat.reduceEqDiff, reduceCtorEq, Nat.reduceSub, Int.reduceNeg, Nat.reduceMod, Nat.reduceBEq, Nat.reduceLT]
      simp only [Int.toNat_natCast, disW_take (show i < xs.length by omega)]
      try simp
    · simp -implicitDefEqProofs only [hlt, go_sem, ap_enc, ap_dec, AFn0_dec, AFn0_enc, Bool.not_true, Bool.not_false, ty182, lv75, ty139, Nat.reduceAdd, Nat.reduceMul, Nat.reduceLeDiff, Nat.reduceEqDiff, reduceCtorEq, Nat.reduceSub, Int.reduceNeg, Nat.reduceMod, Nat.reduceBEq, Nat.reduceLT]
      repeat' (first | with_reducible apply And.intro | with_reducible intro _ | ((first | refine brB_split (fun hb => ?_) (fun hb => ?_) | refine aPickB_split (fun hb => ?_) (fun hb => ?_) | refine gB_split (fun hb => ?_) (fun hb => ?_) | refine adB_split (fun hb => ?_) (fun hb => ?_)) <;> simp -implicitDefEqProofs only [hb, go_sem, ap_enc, ap_dec, AFn0_dec, AFn0_enc, Bool.not_true, Bool.not_false, ty182, lv75, ty139, Nat.reduceAdd, Nat.reduceMul, Nat.reduceLeDiff, Nat.reduceEqDiff, reduceCtorEq, Nat.reduceSub, Int.reduceNeg, Nat.reduceMod, Nat.reduceBEq, Nat.reduceLT] <;> try simp only [qa, qb, qc, qd, qe, qf, qg, bOf_t, bOf_f] at hb))
      all_goals first | rfl | omega | skip
      rw [List.take_of_length_le (by omega), ← bOf_congr (disW_len xs).2, bOf_d]
      refine congrArg (fun b => T.v (.bool b)) (decide_eq_decide.2 ?_)
      omega

def c144 : Ct := ctR (lc AStr (lc AStr l0)) (fun p => p.1.size ≤ 2000000 ∧ p.2.1.size ≤ 2000000) (fun p => .t (.v (.bool (bOf (Pre p.1 p.2.1)))))
theorem good144 {G : Gt} (hG : OkG G) : Gd G 144 (roEnt 0 c144) := by
  refine gR (dp := fun _ => true) (fn := Tryz.f144) (n := 2) (fun _ => rfl) (by kernel_rfl) rfl (by kernel_rfl) hG (Nat.le_of_ble_eq_true rfl) (by kernel_rfl) (by decide) (fun _ _ => .v _) ?_
  rintro ⟨s, q, ⟨⟩⟩ hpre
  simp -implicitDefEqProofs only [Tryz.f144, go_sem, Nat.reduceAdd, Nat.reduceMul, Nat.reduceLeDiff, Nat.reduceEqDiff, reduceCtorEq, Nat.reduceSub, Int.reduceNeg, Nat.reduceMod, Nat.reduceBEq, Nat.reduceLT] at hpre ⊢

  obtain ⟨z1, z2⟩ := hpre
  repeat' (first | with_reducible apply And.intro | with_reducible intro _ | ((first | refine brB_split (fun hb => ?_) (fun hb => ?_) | refine aPickB_split (fun hb => ?_) (fun hb => ?_) | refine gB_split (fun hb => ?_) (fun hb => ?_) | refine adB_split (fun hb => ?_) (fun hb => ?_)) <;> simp -implicitDefEqProofs only [hb, go_sem, Nat.reduceAdd, Nat.reduceMul, Nat.reduceLeDiff, Nat.reduceEqDiff, reduceCtorEq, Nat.reduceSub, Int.reduceNeg, Nat.reduceMod, Nat.reduceBEq, Nat.reduceLT] <;> try simp only [qa, qb, qc, qd, qe, qf, qg, bOf_t, bOf_f] at hb))
  all_goals (try simp only [maxLen, Int.toNat_natCast] at *)
  all_goals first
    | rfl
    | omega
    | exact uD ⟨fun h => ⟨by omega, h⟩, fun h => h.2⟩
    | exact uF (fun h => by have := h.1; omega)
    | trace_state

def c124 : Ct := ctR (lc AStr (lc AStr l0)) (fun p => p.1.size ≤ 2000000 ∧ p.2.1.size ≤ 2000000) (fun p => .t (.v (.bool (bOf (Pre p.1 p.2.1)))))
theorem good124 {G : Gt} (hG : OkG G) (h144 : G.e 144 = roEnt 0 c144) : Gd G 124 (roEnt 0 c124) := by
  refine gR (dp := fun _ => true) (fn := Tryz.f124) (n := 2) (fun _ => rfl) (by kernel_rfl) rfl (by kernel_rfl) hG (Nat.le_of_ble_eq_true rfl) (by kernel_rfl) (by decide) (fun _ _ => .v _) ?_
  rintro ⟨s, q, ⟨⟩⟩ hpre
  simp -implicitDefEqProofs only [Tryz.f124, go_sem, h144, c144, Nat.reduceAdd, Nat.reduceMul, Nat.reduceLeDiff, Nat.reduceEqDiff, reduceCtorEq, Nat.reduceSub, Int.reduceNeg, Nat.reduceMod, Nat.reduceBEq, Nat.reduceLT] at hpre ⊢

  obtain ⟨z1, z2⟩ := hpre
  repeat' (first | with_reducible apply And.intro | with_reducible intro _ | ((first | refine brB_split (fun hb => ?_) (fun hb => ?_) | refine aPickB_split (fun hb => ?_) (fun hb => ?_) | refine gB_split (fun hb => ?_) (fun hb => ?_) | refine adB_split (fun hb => ?_) (fun hb => ?_)) <;> simp -implicitDefEqProofs only [hb, go_sem, h144, c144, Nat.reduceAdd, Nat.reduceMul, Nat.reduceLeDiff, Nat.reduceEqDiff, reduceCtorEq, Nat.reduceSub, Int.reduceNeg, Nat.reduceMod, Nat.reduceBEq, Nat.reduceLT] <;> try simp only [qa, qb, qc, qd, qe, qf, qg, bOf_t, bOf_f] at hb))
  all_goals (try simp only [maxLen, Int.toNat_natCast] at *)
  all_goals first
    | rfl
    | omega
    | exact uD ⟨fun h => ⟨by omega, h⟩, fun h => h.2⟩
    | exact uF (fun h => by have := h.1; omega)
    | trace_state

def c91 : Ct := ctR (lc EStr.asl l0) (fun p => True) (fun p => .t (.v (.string (mkOf p.1))))
theorem good91 {G : Gt} (hG : OkG G) : Gd G 91 (roEnt 0 c91) := by
  refine gR (dp := fun _ => true) (fn := Tryz.f91) (n := 1) (fun _ => rfl) (by kernel_rfl) rfl (by kernel_rfl) hG (Nat.le_of_ble_eq_true rfl) (by kernel_rfl) (by decide) (fun _ _ => .v _) ?_
  rintro ⟨xs, ⟨⟩⟩ hpre
  simp -implicitDefEqProofs only [Tryz.f91, go_sem, List.length_map, Nat.reduceAdd, Nat.reduceMul, Nat.reduceLeDiff, Nat.reduceEqDiff, reduceCtorEq, Nat.reduceSub, Int.reduceNeg, Nat.reduceMod, Nat.reduceBEq, Nat.reduceLT] at hpre ⊢

  refine run_loop [] (ι := {i : Nat // i ≤ xs.length ∧ mkOf xs = mkOf (xs.drop i)}) (fun p => ⟨[(0, .t (.sl 1 (xs.map encStr))), (3, .t (.v (.int .i64 p.1)))], []⟩) (fun p => xs.length - p.1) ⟨0, by simp, rfl⟩ rfl ?_ ?_
  · simp -implicitDefEqProofs only [go_sem, List.length_map, Nat.reduceAdd, Nat.reduceMul, Nat.reduceLeDiff, Nat.reduceEqDiff, reduceCtorEq, Nat.reduceSub, Int.reduceNeg, Nat.reduceMod, Nat.reduceBEq, Nat.reduceLT]
    simp
  · rintro ⟨i, hi, hix⟩
    by_cases hlt : (i : Int) < xs.length
    · simp -implicitDefEqProofs only [hlt, decide_true, Int.toNat_natCast, go_sem, List.length_map, Nat.reduceAdd, Nat.reduceMul, Nat.reduceLeDiff, Nat.reduceEqDiff, reduceCtorEq, Nat.reduceSub, Int.reduceNeg, Nat.reduceMod, Nat.reduceBEq, Nat.reduceLT]
      repeat' (first | with_reducible apply And.intro | with_reducible intro _ | ((first | refine brB_split (fun hb => ?_) (fun hb => ?_) | refine aPickB_split (fun hb => ?_) (fun hb => ?_) | refine gB_split (fun hb => ?_) (fun hb => ?_) | refine adB_split (fun hb => ?_) (fun hb => ?_)) <;> simp -implicitDefEqProofs only [hb, go_sem, List.length_map, Nat.reduceAdd, Nat.reduceMul, Nat.reduceLeDiff, Nat.reduceEqDiff, reduceCtorEq, Nat.reduceSub, Int.reduceNeg, Nat.reduceMod, Nat.reduceBEq, Nat.reduceLT] <;> try simp only [qa, qb, qc, qd, qe, qf, qg, bOf_t, bOf_f] at hb))
      all_goals (try simp only [maxLen, Int.toNat_natCast] at *)
      all_goals first
        | rfl
        | omega
        | (rw [hix, mkOf_yes (by omega) ⟨by omega, by assumption⟩]; done)
        | skip
      all_goals
        refine ⟨⟨i + 1, by omega, by rw [hix, mkOf_no (by omega) (fun h => by first | exact absurd h.2 (by assumption) | (have := h.1; omega))]⟩, by dsimp only; omega, ?_⟩
        simp -implicitDefEqProofs only [go_sem, List.length_map, Nat.reduceAdd, Nat.reduceMul, Nat.reduceLeDiff, Nat.reduceEqDiff, reduceCtorEq, Nat.reduceSub, Int.reduceNeg, Nat.reduceMod, Nat.reduceBEq, Nat.reduceLT]
        simp
    · simp -implicitDefEqProofs only [hlt, decide_false, go_sem, List.length_map, Nat.reduceAdd, Nat.reduceMul, Nat.reduceLeDiff, Nat.reduceEqDiff, reduceCtorEq, Nat.reduceSub, Int.reduceNeg, Nat.reduceMod, Nat.reduceBEq, Nat.reduceLT]
      repeat' (first | with_reducible apply And.intro | with_reducible intro _ | ((first | refine brB_split (fun hb => ?_) (fun hb => ?_) | refine aPickB_split (fun hb => ?_) (fun hb => ?_) | refine gB_split (fun hb => ?_) (fun hb => ?_) | refine adB_split (fun hb => ?_) (fun hb => ?_)) <;> simp -implicitDefEqProofs only [hb, go_sem, List.length_map, Nat.reduceAdd, Nat.reduceMul, Nat.reduceLeDiff, Nat.reduceEqDiff, reduceCtorEq, Nat.reduceSub, Int.reduceNeg, Nat.reduceMod, Nat.reduceBEq, Nat.reduceLT] <;> try simp only [qa, qb, qc, qd, qe, qf, qg, bOf_t, bOf_f] at hb))
      all_goals first | rfl | omega | skip
      rw [hix, mkOf_end (by omega)]

def c94 : Ct := ctR (lc EStr.asl l0) (fun p => ∀ s ∈ p.1, s.size ≤ 2000000) (fun p => .t (.v (.string (mkOf p.1))))
theorem good94 {G : Gt} (hG : OkG G) (h124 : G.e 124 = roEnt 0 c124) : Gd G 94 (roEnt 0 c94) := by
  refine gR (dp := fun _ => true) (fn := Tryz.f94) (n := 1) (fun _ => rfl) (by kernel_rfl) rfl (by kernel_rfl) hG (Nat.le_of_ble_eq_true rfl) (by kernel_rfl) (by decide) (fun _ _ => .v _) ?_
  rintro ⟨xs, ⟨⟩⟩ hpre
  simp -implicitDefEqProofs only [Tryz.f94, go_sem, h124, c124, List.length_map, bOf_t, bOf_f, Nat.reduceAdd, Nat.reduceMul, Nat.reduceLeDiff, Nat.reduceEqDiff, reduceCtorEq, Nat.reduceSub, Int.reduceNeg, Nat.reduceMod, Nat.reduceBEq, Nat.reduceLT] at hpre ⊢

  try dsimp only at hpre
  repeat' (first | with_reducible apply And.intro | with_reducible intro _ | ((first | refine brB_split (fun hb => ?_) (fun hb => ?_) | refine aPickB_split (fun hb => ?_) (fun hb => ?_) | refine gB_split (fun hb => ?_) (fun hb => ?_) | refine adB_split (fun hb => ?_) (fun hb => ?_)) <;> simp -implicitDefEqProofs only [hb, go_sem, h124, c124, List.length_map, bOf_t, bOf_f, Nat.reduceAdd, Nat.reduceMul, Nat.reduceLeDiff, Nat.reduceEqDiff, reduceCtorEq, Nat.reduceSub, Int.reduceNeg, Nat.reduceMod, Nat.reduceBEq, Nat.reduceLT] <;> try simp only [qa, qb, qc, qd, qe, qf, qg, bOf_t, bOf_f] at hb))
  all_goals first | rfl | omega | skip
  refine run_loop [] (ι := {i : Nat // i ≤ xs.length ∧ mkOf xs = mkOf (xs.drop i)}) (fun p => ⟨[(5, .t (.sl 1 (xs.map encStr))), (6, .t (.v (.int .i64 xs.length))), (7, .t (.v (.int .i64 p.1)))], []⟩) (fun p => xs.length - p.1) ⟨0, by simp, rfl⟩ rfl ?_ ?_
  · simp -implicitDefEqProofs only [go_sem, h124, c124, List.length_map, bOf_t, bOf_f, Nat.reduceAdd, Nat.reduceMul, Nat.reduceLeDiff, Nat.reduceEqDiff, reduceCtorEq, Nat.reduceSub, Int.reduceNeg, Nat.reduceMod, Nat.reduceBEq, Nat.reduceLT]
    simp
  · rintro ⟨i, hi, hix⟩
    by_cases hlt : (i : Int) < xs.length
    · have hm := hpre _ (getD_mem (xs := xs) (j := i) (by omega))
      simp -implicitDefEqProofs only [hlt, decide_true, Int.toNat_natCast, go_sem, h124, c124, List.length_map, bOf_t, bOf_f, Nat.reduceAdd, Nat.reduceMul, Nat.reduceLeDiff, Nat.reduceEqDiff, reduceCtorEq, Nat.reduceSub, Int.reduceNeg, Nat.reduceMod, Nat.reduceBEq, Nat.reduceLT]
      repeat' (first | with_reducible apply And.intro | with_reducible intro _ | ((first | refine brB_split (fun hb => ?_) (fun hb => ?_) | refine aPickB_split (fun hb => ?_) (fun hb => ?_) | refine gB_split (fun hb => ?_) (fun hb => ?_) | refine adB_split (fun hb => ?_) (fun hb => ?_)) <;> simp -implicitDefEqProofs only [hb, go_sem, h124, c124, List.length_map, bOf_t, bOf_f, Nat.reduceAdd, Nat.reduceMul, Nat.reduceLeDiff, Nat.reduceEqDiff, reduceCtorEq, Nat.reduceSub, Int.reduceNeg, Nat.reduceMod, Nat.reduceBEq, Nat.reduceLT] <;> try simp only [qa, qb, qc, qd, qe, qf, qg, bOf_t, bOf_f] at hb))
      all_goals (try simp only [maxLen, Int.toNat_natCast] at *)
      all_goals first
        | rfl
        | omega
        | assumption
        | decide
        | (rw [hix, mkOf_yes (by omega) ((mk_pre _).1 ⟨by assumption, by assumption⟩)]; done)
        | skip
      all_goals
        refine ⟨⟨i + 1, by omega, by rw [hix, mkOf_no (by omega) (fun h => by have h2 := (mk_pre _).2 h; first | exact absurd h2.1 (by assumption) | exact absurd (by assumption) h2.2)]⟩, by dsimp only; omega, ?_⟩
        simp -implicitDefEqProofs only [go_sem, h124, c124, List.length_map, bOf_t, bOf_f, Nat.reduceAdd, Nat.reduceMul, Nat.reduceLeDiff, Nat.reduceEqDiff, reduceCtorEq, Nat.reduceSub, Int.reduceNeg, Nat.reduceMod, Nat.reduceBEq, Nat.reduceLT]
        simp
    · simp -implicitDefEqProofs only [hlt, decide_false, go_sem, h124, c124, List.length_map, bOf_t, bOf_f, Nat.reduceAdd, Nat.reduceMul, Nat.reduceLeDiff, Nat.reduceEqDiff, reduceCtorEq, Nat.reduceSub, Int.reduceNeg, Nat.reduceMod, Nat.reduceBEq, Nat.reduceLT]
      repeat' (first | with_reducible apply And.intro | with_reducible intro _ | ((first | refine brB_split (fun hb => ?_) (fun hb => ?_) | refine aPickB_split (fun hb => ?_) (fun hb => ?_) | refine gB_split (fun hb => ?_) (fun hb => ?_) | refine adB_split (fun hb => ?_) (fun hb => ?_)) <;> simp -implicitDefEqProofs only [hb, go_sem, h124, c124, List.length_map, bOf_t, bOf_f, Nat.reduceAdd, Nat.reduceMul, Nat.reduceLeDiff, Nat.reduceEqDiff, reduceCtorEq, Nat.reduceSub, Int.reduceNeg, Nat.reduceMod, Nat.reduceBEq, Nat.reduceLT] <;> try simp only [qa, qb, qc, qd, qe, qf, qg, bOf_t, bOf_f] at hb))
      all_goals first | rfl | omega | skip
      rw [hix, mkOf_end (by omega)]


open Classical in
noncomputable def mkOfB (xs : List ByteArray) : ByteArray := if BdOk xs then mkOf xs else ⟨#[]⟩
theorem mkOfB_y {xs : List ByteArray} (h : BdOk xs) : mkOfB xs = mkOf xs := if_pos h
theorem mkOfB_n {xs : List ByteArray} (h : ¬ BdOk xs) : mkOfB xs = ⟨#[]⟩ := if_neg h
theorem BdOk_1 (x : ByteArray) : BdOk [x] ↔ Lin x := by
  unfold BdOk
  constructor
  · intro h; exact h.1 x (by simp)
  · intro h
    refine ⟨fun s hs => by rw [List.mem_singleton.1 hs]; exact h, by simp⟩
theorem LsB (l : Ls) : (¬ l.mark = ⟨#[]⟩ ∧ mkOfB [l.mark] = l.mark ∧ AdOk l.addr) ↔ LsOk l := by
  unfold LsOk
  by_cases h : Lin l.mark
  · rw [mkOfB_y ((BdOk_1 _).2 h)]
    exact ⟨fun q => ⟨q.1, q.2.1, q.2.2, h⟩, fun q => ⟨q.1, q.2.1, q.2.2.1⟩⟩
  · rw [mkOfB_n (fun q => h ((BdOk_1 _).1 q))]
    exact ⟨fun q => absurd q.2.1.symm q.1, fun q => absurd q.2.2.2 h⟩
def c47 : Ct := ctR (lc EStr.asl l0) (fun p => ∀ s ∈ p.1, s.size ≤ 2000000) (fun p => .t (.v (.string (mkOfB p.1))))
theorem good47 {G : Gt} (hG : OkG G) (h35 : G.e 35 = roEnt 0 c35) (h94 : G.e 94 = roEnt 0 c94) : Gd G 47 (roEnt 0 c47) := by
  refine gR (dp := fun _ => true) (fn := Tryz.f47) (n := 1) (fun _ => rfl) (by kernel_rfl) rfl (by kernel_rfl) hG (Nat.le_of_ble_eq_true rfl) (by kernel_rfl) (by decide) (fun _ _ => .v _) ?_
  rintro ⟨xs, ⟨⟩⟩ hpre
  simp -implicitDefEqProofs only [Tryz.f47, go_sem, h35, c35, h94, c94, bOf_t, bOf_f, Nat.reduceAdd, Nat.reduceMul, Nat.reduceLeDiff, Nat.reduceEqDiff, reduceCtorEq, Nat.reduceSub, Int.reduceNeg, Nat.reduceMod, Nat.reduceBEq, Nat.reduceLT] at hpre ⊢

  try dsimp only at hpre
  repeat' (first | with_reducible apply And.intro | with_reducible intro _ | ((first | refine brB_split (fun hb => ?_) (fun hb => ?_) | refine aPickB_split (fun hb => ?_) (fun hb => ?_) | refine gB_split (fun hb => ?_) (fun hb => ?_) | refine adB_split (fun hb => ?_) (fun hb => ?_)) <;> simp -implicitDefEqProofs only [hb, go_sem, h35, c35, h94, c94, bOf_t, bOf_f, Nat.reduceAdd, Nat.reduceMul, Nat.reduceLeDiff, Nat.reduceEqDiff, reduceCtorEq, Nat.reduceSub, Int.reduceNeg, Nat.reduceMod, Nat.reduceBEq, Nat.reduceLT] <;> try simp only [qa, qb, qc, qd, qe, qf, qg, bOf_t, bOf_f] at hb))
  all_goals first | rfl | omega | exact hpre _ (by assumption) | (rw [mkOfB_y hb]; done) | (rw [mkOfB_n hb]; done) | trace_state

def c45 : Ct := ctR (lc EWd.ag l0) (fun p => True) (fun p => .t (.v (.bool (bOf (WdOk p.1)))))
set_option maxHeartbeats 6400000 in
theorem good45 {G : Gt} (hG : OkG G) (h26 : G.e 26 = roEnt 0 c26) (h90 : G.e 90 = roEnt 0 c90) (h91 : G.e 91 = roEnt 0 c91) (h92 : G.e 92 = roEnt 0 c92) (h93 : G.e 93 = roEnt 0 c93) : Gd G 45 (roEnt 0 c45) := by
  refine gR (dp := fun _ => true) (fn := Tryz.f45) (n := 1) (fun _ => rfl) (by kernel_rfl) rfl (by kernel_rfl) hG (Nat.le_of_ble_eq_true rfl) (by kernel_rfl) (by decide) (fun _ _ => .v _) ?_
  rintro ⟨w, ⟨⟩⟩ hpre
  simp -implicitDefEqProofs only [Tryz.f45, go_sem, h26, c26, h90, c90, h91, c91, h92, c92, h93, c93, bOf_t, bOf_f, List.length_map, decS1, Nat.reduceAdd, Nat.reduceMul, Nat.reduceLeDiff, Nat.reduceEqDiff, reduceCtorEq, Nat.reduceSub, Int.reduceNeg, Nat.reduceMod, Nat.reduceBEq, Nat.reduceLT] at hpre ⊢

  refine run_loop [] (ι := {i : Nat // i ≤ w.hosts.length ∧ (∀ j, j < i → HsOk (w.hosts.getD j default)) ∧ ∀ j, j < i → ∀ k, k < j → ¬ (w.hosts.getD k default).conf.name = (w.hosts.getD j default).conf.name}) (fun p => ⟨[(1, .pb 1001 0), (3, .t (.v (.int .i64 p.1)))], [(1001, some (.box ((encWd w).map .t)))]⟩) (fun p => w.hosts.length - p.1) ⟨0, by simp, by simp, by simp⟩ rfl ?_ ?_
  · simp -implicitDefEqProofs only [go_sem, h26, c26, h90, c90, h91, c91, h92, c92, h93, c93, bOf_t, bOf_f, List.length_map, decS1, Nat.reduceAdd, Nat.reduceMul, Nat.reduceLeDiff, Nat.reduceEqDiff, reduceCtorEq, Nat.reduceSub, Int.reduceNeg, Nat.reduceMod, Nat.reduceBEq, Nat.reduceLT]
    simp
  · rintro ⟨i, hi, hall, hno⟩
    by_cases hlt : (i : Int) < w.hosts.length
    · simp -implicitDefEqProofs only [hlt, decide_true, Int.toNat_natCast, go_sem, h26, c26, h90, c90, h91, c91, h92, c92, h93, c93, bOf_t, bOf_f, List.length_map, decS1, Nat.reduceAdd, Nat.reduceMul, Nat.reduceLeDiff, Nat.reduceEqDiff, reduceCtorEq, Nat.reduceSub, Int.reduceNeg, Nat.reduceMod, Nat.reduceBEq, Nat.reduceLT]
      repeat' (first | with_reducible apply And.intro | with_reducible intro _ | ((first | refine brB_split (fun hb => ?_) (fun hb => ?_) | refine aPickB_split (fun hb => ?_) (fun hb => ?_) | refine gB_split (fun hb => ?_) (fun hb => ?_) | refine adB_split (fun hb => ?_) (fun hb => ?_)) <;> simp -implicitDefEqProofs only [hb, go_sem, h26, c26, h90, c90, h91, c91, h92, c92, h93, c93, bOf_t, bOf_f, List.length_map, decS1, Nat.reduceAdd, Nat.reduceMul, Nat.reduceLeDiff, Nat.reduceEqDiff, reduceCtorEq, Nat.reduceSub, Int.reduceNeg, Nat.reduceMod, Nat.reduceBEq, Nat.reduceLT] <;> try simp only [qa, qb, qc, qd, qe, qf, qg, bOf_t, bOf_f] at hb))
      all_goals (try simp only [maxLen, Int.toNat_natCast] at *)
      all_goals first
        | rfl
        | omega
        | exact uF (fun q => absurd (q.1 (w.hosts.getD i default) (getD_mem (by omega))) (by assumption))
        | skip
      refine run_loop [] (ι := {k : Nat // k ≤ i ∧ ∀ j, j < k → ¬ (w.hosts.getD j default).conf.name = (w.hosts.getD i default).conf.name}) (fun p => ⟨[(1, .pb 1001 0), (3, .t (.v (.int .i64 i))), (4, .t (.v (.int .i64 p.1)))], [(1001, some (.box ((encWd w).map .t)))]⟩) (fun p => i - p.1) ⟨0, by simp, by simp⟩ rfl ?_ ?_
      · simp -implicitDefEqProofs only [go_sem, h26, c26, h90, c90, h91, c91, h92, c92, h93, c93, bOf_t, bOf_f, List.length_map, decS1, Nat.reduceAdd, Nat.reduceMul, Nat.reduceLeDiff, Nat.reduceEqDiff, reduceCtorEq, Nat.reduceSub, Int.reduceNeg, Nat.reduceMod, Nat.reduceBEq, Nat.reduceLT]
        simp
      · rintro ⟨k, hk, hk2⟩
        by_cases hlt2 : (k : Int) < i
        · simp -implicitDefEqProofs only [hlt2, decide_true, Int.toNat_natCast, go_sem, h26, c26, h90, c90, h91, c91, h92, c92, h93, c93, bOf_t, bOf_f, List.length_map, decS1, Nat.reduceAdd, Nat.reduceMul, Nat.reduceLeDiff, Nat.reduceEqDiff, reduceCtorEq, Nat.reduceSub, Int.reduceNeg, Nat.reduceMod, Nat.reduceBEq, Nat.reduceLT]
          repeat' (first | with_reducible apply And.intro | with_reducible intro _ | ((first | refine brB_split (fun hb => ?_) (fun hb => ?_) | refine aPickB_split (fun hb => ?_) (fun hb => ?_) | refine gB_split (fun hb => ?_) (fun hb => ?_) | refine adB_split (fun hb => ?_) (fun hb => ?_)) <;> simp -implicitDefEqProofs only [hb, go_sem, h26, c26, h90, c90, h91, c91, h92, c92, h93, c93, bOf_t, bOf_f, List.length_map, decS1, Nat.reduceAdd, Nat.reduceMul, Nat.reduceLeDiff, Nat.reduceEqDiff, reduceCtorEq, Nat.reduceSub, Int.reduceNeg, Nat.reduceMod, Nat.reduceBEq, Nat.reduceLT] <;> try simp only [qa, qb, qc, qd, qe, qf, qg, bOf_t, bOf_f] at hb))
          all_goals (try simp only [maxLen, Int.toNat_natCast] at *)
          all_goals first
            | rfl
            | omega
            | exact uF (fun q => hnm_nodup q.2.1 (k := k) (i := i) (by omega) (by omega) (by assumption))
            | skip
          all_goals
            refine ⟨⟨k + 1, by omega, bx_step hk2 (by assumption)⟩, by dsimp only; omega, ?_⟩
            simp -implicitDefEqProofs only [go_sem, h26, c26, h90, c90, h91, c91, h92, c92, h93, c93, bOf_t, bOf_f, List.length_map, decS1, Nat.reduceAdd, Nat.reduceMul, Nat.reduceLeDiff, Nat.reduceEqDiff, reduceCtorEq, Nat.reduceSub, Int.reduceNeg, Nat.reduceMod, Nat.reduceBEq, Nat.reduceLT]
            simp
        · simp -implicitDefEqProofs only [hlt2, decide_false, go_sem, h26, c26, h90, c90, h91, c91, h92, c92, h93, c93, bOf_t, bOf_f, List.length_map, decS1, Nat.reduceAdd, Nat.reduceMul, Nat.reduceLeDiff, Nat.reduceEqDiff, reduceCtorEq, Nat.reduceSub, Int.reduceNeg, Nat.reduceMod, Nat.reduceBEq, Nat.reduceLT]
          repeat' (first | with_reducible apply And.intro | with_reducible intro _ | ((first | refine brB_split (fun hb => ?_) (fun hb => ?_) | refine aPickB_split (fun hb => ?_) (fun hb => ?_) | refine gB_split (fun hb => ?_) (fun hb => ?_) | refine adB_split (fun hb => ?_) (fun hb => ?_)) <;> simp -implicitDefEqProofs only [hb, go_sem, h26, c26, h90, c90, h91, c91, h92, c92, h93, c93, bOf_t, bOf_f, List.length_map, decS1, Nat.reduceAdd, Nat.reduceMul, Nat.reduceLeDiff, Nat.reduceEqDiff, reduceCtorEq, Nat.reduceSub, Int.reduceNeg, Nat.reduceMod, Nat.reduceBEq, Nat.reduceLT] <;> try simp only [qa, qb, qc, qd, qe, qf, qg, bOf_t, bOf_f] at hb))
          all_goals first | rfl | omega | skip
          refine ⟨⟨i + 1, by omega, bx_step hall (by assumption), bx_step (P := fun j => ∀ k, k < j → ¬ (w.hosts.getD k default).conf.name = (w.hosts.getD j default).conf.name) hno (fun q hq => hk2 q (by omega))⟩, by dsimp only; omega, ?_⟩
          simp -implicitDefEqProofs only [go_sem, h26, c26, h90, c90, h91, c91, h92, c92, h93, c93, bOf_t, bOf_f, List.length_map, decS1, Nat.reduceAdd, Nat.reduceMul, Nat.reduceLeDiff, Nat.reduceEqDiff, reduceCtorEq, Nat.reduceSub, Int.reduceNeg, Nat.reduceMod, Nat.reduceBEq, Nat.reduceLT]
          simp
    · have hA : ∀ h ∈ w.hosts, HsOk h := mem_getD fun j hj => hall j (by omega)
      have hN : (w.hosts.map hnm).Nodup := nodup_hnm fun j hj q hq => hno j (by omega) q hq
      simp -implicitDefEqProofs only [hlt, decide_false, go_sem, h26, c26, h90, c90, h91, c91, h92, c92, h93, c93, bOf_t, bOf_f, List.length_map, decS1, Nat.reduceAdd, Nat.reduceMul, Nat.reduceLeDiff, Nat.reduceEqDiff, reduceCtorEq, Nat.reduceSub, Int.reduceNeg, Nat.reduceMod, Nat.reduceBEq, Nat.reduceLT]
      repeat' (first | with_reducible apply And.intro | with_reducible intro _ | ((first | refine brB_split (fun hb => ?_) (fun hb => ?_) | refine aPickB_split (fun hb => ?_) (fun hb => ?_) | refine gB_split (fun hb => ?_) (fun hb => ?_) | refine adB_split (fun hb => ?_) (fun hb => ?_)) <;> simp -implicitDefEqProofs only [hb, go_sem, h26, c26, h90, c90, h91, c91, h92, c92, h93, c93, bOf_t, bOf_f, List.length_map, decS1, Nat.reduceAdd, Nat.reduceMul, Nat.reduceLeDiff, Nat.reduceEqDiff, reduceCtorEq, Nat.reduceSub, Int.reduceNeg, Nat.reduceMod, Nat.reduceBEq, Nat.reduceLT] <;> try simp only [qa, qb, qc, qd, qe, qf, qg, bOf_t, bOf_f] at hb))
      all_goals first | rfl | omega | skip
      refine run_loop [] (ι := {i : Nat // i ≤ w.given.length ∧ ∀ j, j < i → LsOk (w.given.getD j default)}) (fun p => ⟨[(1, .pb 1001 0), (5, .t (.v (.int .i64 p.1)))], [(1001, some (.box ((encWd w).map .t)))]⟩) (fun p => w.given.length - p.1) ⟨0, by simp, by simp⟩ rfl ?_ ?_
      · simp -implicitDefEqProofs only [go_sem, h26, c26, h90, c90, h91, c91, h92, c92, h93, c93, bOf_t, bOf_f, List.length_map, decS1, Nat.reduceAdd, Nat.reduceMul, Nat.reduceLeDiff, Nat.reduceEqDiff, reduceCtorEq, Nat.reduceSub, Int.reduceNeg, Nat.reduceMod, Nat.reduceBEq, Nat.reduceLT]
        simp
      · rintro ⟨k, hk, hall2⟩
        by_cases hlt2 : (k : Int) < w.given.length
        · simp -implicitDefEqProofs only [hlt2, decide_true, Int.toNat_natCast, go_sem, h26, c26, h90, c90, h91, c91, h92, c92, h93, c93, bOf_t, bOf_f, List.length_map, decS1, Nat.reduceAdd, Nat.reduceMul, Nat.reduceLeDiff, Nat.reduceEqDiff, reduceCtorEq, Nat.reduceSub, Int.reduceNeg, Nat.reduceMod, Nat.reduceBEq, Nat.reduceLT]
          repeat' (first | with_reducible apply And.intro | with_reducible intro _ | ((first | refine brB_split (fun hb => ?_) (fun hb => ?_) | refine aPickB_split (fun hb => ?_) (fun hb => ?_) | refine gB_split (fun hb => ?_) (fun hb => ?_) | refine adB_split (fun hb => ?_) (fun hb => ?_)) <;> simp -implicitDefEqProofs only [hb, go_sem, h26, c26, h90, c90, h91, c91, h92, c92, h93, c93, bOf_t, bOf_f, List.length_map, decS1, Nat.reduceAdd, Nat.reduceMul, Nat.reduceLeDiff, Nat.reduceEqDiff, reduceCtorEq, Nat.reduceSub, Int.reduceNeg, Nat.reduceMod, Nat.reduceBEq, Nat.reduceLT] <;> try simp only [qa, qb, qc, qd, qe, qf, qg, bOf_t, bOf_f] at hb))
          all_goals (try simp only [maxLen, Int.toNat_natCast] at *)
          all_goals first
            | rfl
            | omega
            | decide
            | exact uF (fun q => absurd (q.2.2.1 (w.given.getD k default) (getD_mem (by omega))).1 (by simpa using hb))
            | exact uF (fun q => absurd (q.2.2.1 (w.given.getD k default) (getD_mem (by omega))).2.1 (by assumption))
            | exact uF (fun q => absurd (q.2.2.1 (w.given.getD k default) (getD_mem (by omega))).2.2.1 (by assumption))
            | exact uF (fun q => absurd (q.2.2.1 (w.given.getD k default) (getD_mem (by omega))).2.2.2 (by assumption))
            | skip
          all_goals
            refine ⟨⟨k + 1, by omega, bx_step hall2 ⟨by first | assumption | (simpa using hb), by assumption, by assumption, by assumption⟩⟩, by dsimp only; omega, ?_⟩
            simp -implicitDefEqProofs only [go_sem, h26, c26, h90, c90, h91, c91, h92, c92, h93, c93, bOf_t, bOf_f, List.length_map, decS1, Nat.reduceAdd, Nat.reduceMul, Nat.reduceLeDiff, Nat.reduceEqDiff, reduceCtorEq, Nat.reduceSub, Int.reduceNeg, Nat.reduceMod, Nat.reduceBEq, Nat.reduceLT]
            simp
        · have hB : ∀ l ∈ w.given, LsOk l := mem_getD fun j hj => hall2 j (by omega)
          simp -implicitDefEqProofs only [hlt2, decide_false, go_sem, h26, c26, h90, c90, h91, c91, h92, c92, h93, c93, bOf_t, bOf_f, List.length_map, decS1, Nat.reduceAdd, Nat.reduceMul, Nat.reduceLeDiff, Nat.reduceEqDiff, reduceCtorEq, Nat.reduceSub, Int.reduceNeg, Nat.reduceMod, Nat.reduceBEq, Nat.reduceLT]
          repeat' (first | with_reducible apply And.intro | with_reducible intro _ | ((first | refine brB_split (fun hb => ?_) (fun hb => ?_) | refine aPickB_split (fun hb => ?_) (fun hb => ?_) | refine gB_split (fun hb => ?_) (fun hb => ?_) | refine adB_split (fun hb => ?_) (fun hb => ?_)) <;> simp -implicitDefEqProofs only [hb, go_sem, h26, c26, h90, c90, h91, c91, h92, c92, h93, c93, bOf_t, bOf_f, List.length_map, decS1, Nat.reduceAdd, Nat.reduceMul, Nat.reduceLeDiff, Nat.reduceEqDiff, reduceCtorEq, Nat.reduceSub, Int.reduceNeg, Nat.reduceMod, Nat.reduceBEq, Nat.reduceLT] <;> try simp only [qa, qb, qc, qd, qe, qf, qg, bOf_t, bOf_f] at hb))
          all_goals first
            | rfl
            | omega
            | exact uE ⟨fun q => ⟨hA, hN, hB, by assumption, by assumption, q⟩, fun q => q.2.2.2.2.2⟩
            | exact uF (fun q => absurd q.2.2.2.1 (by assumption))
            | exact uF (fun q => absurd q.2.2.2.2.1 (by assumption))
            | trace_state

def c12 : Ct := ctR (lc EWd.ag l0) (fun p => True) (fun p => .t (.v (.bool (bOf (WdOk p.1)))))
theorem good12 {G : Gt} (hG : OkG G) (h45 : G.e 45 = roEnt 0 c45) : Gd G 12 (roEnt 0 c12) := by
  refine gR (dp := fun _ => true) (fn := Tryz.f12) (n := 1) (fun _ => rfl) (by kernel_rfl) rfl (by kernel_rfl) hG (Nat.le_of_ble_eq_true rfl) (by kernel_rfl) (by decide) (fun _ _ => .v _) ?_
  rintro ⟨w, ⟨⟩⟩ hpre
  simp -implicitDefEqProofs only [Tryz.f12, go_sem, h45, c45, Nat.reduceAdd, Nat.reduceMul, Nat.reduceLeDiff, Nat.reduceEqDiff, reduceCtorEq, Nat.reduceSub, Int.reduceNeg, Nat.reduceMod, Nat.reduceBEq, Nat.reduceLT] at hpre ⊢

  repeat' (first | with_reducible apply And.intro | with_reducible intro _ | ((first | refine brB_split (fun hb => ?_) (fun hb => ?_) | refine aPickB_split (fun hb => ?_) (fun hb => ?_) | refine gB_split (fun hb => ?_) (fun hb => ?_) | refine adB_split (fun hb => ?_) (fun hb => ?_)) <;> simp -implicitDefEqProofs only [hb, go_sem, h45, c45, Nat.reduceAdd, Nat.reduceMul, Nat.reduceLeDiff, Nat.reduceEqDiff, reduceCtorEq, Nat.reduceSub, Int.reduceNeg, Nat.reduceMod, Nat.reduceBEq, Nat.reduceLT] <;> try simp only [qa, qb, qc, qd, qe, qf, qg, bOf_t, bOf_f] at hb))
  all_goals first | rfl | trace_state

def c14 : Ct := ctR (lc EWd.ag l0) (fun p => OkWd p.1) (fun p => .t (.v (.bool (bOf (WdOk p.1)))))
set_option maxHeartbeats 6400000 in
theorem good14 {G : Gt} (hG : OkG G) (h9 : G.e 9 = roEnt 0 c9) (h47 : G.e 47 = roEnt 0 c47) (h36 : G.e 36 = roEnt 0 c36) (h48 : G.e 48 = roEnt 0 c48) (h49 : G.e 49 = roEnt 0 c49) (h50 : G.e 50 = roEnt 0 c50) : Gd G 14 (roEnt 0 c14) := by
  refine gR (dp := fun _ => true) (fn := Tryz.f14) (n := 1) (fun _ => rfl) (by kernel_rfl) rfl (by kernel_rfl) hG (Nat.le_of_ble_eq_true rfl) (by kernel_rfl) (by decide) (fun _ _ => .v _) ?_
  rintro ⟨w, ⟨⟩⟩ hpre
  simp -implicitDefEqProofs only [Tryz.f14, go_sem, h9, c9, h47, c47, h36, c36, h48, c48, h49, c49, h50, c50, bOf_t, bOf_f, List.length_map, decS1, List.mem_singleton, forall_eq, List.length_cons, List.length_nil, List.length_append, List.nil_append, Nat.zero_add, Bool.not_false, Bool.not_true, Nat.reduceAdd, Nat.reduceMul, Nat.reduceLeDiff, Nat.reduceEqDiff, reduceCtorEq, Nat.reduceSub, Int.reduceNeg, Nat.reduceMod, Nat.reduceBEq, Nat.reduceLT] at hpre ⊢

  obtain ⟨⟨lh, zh⟩, ⟨lg, zg⟩⟩ := hpre
  repeat' (first | with_reducible apply And.intro | with_reducible intro _ | ((first | refine brB_split (fun hb => ?_) (fun hb => ?_) | refine aPickB_split (fun hb => ?_) (fun hb => ?_) | refine gB_split (fun hb => ?_) (fun hb => ?_) | refine adB_split (fun hb => ?_) (fun hb => ?_)) <;> simp -implicitDefEqProofs only [hb, go_sem, h9, c9, h47, c47, h36, c36, h48, c48, h49, c49, h50, c50, bOf_t, bOf_f, List.length_map, decS1, List.mem_singleton, forall_eq, List.length_cons, List.length_nil, List.length_append, List.nil_append, Nat.zero_add, Bool.not_false, Bool.not_true, Nat.reduceAdd, Nat.reduceMul, Nat.reduceLeDiff, Nat.reduceEqDiff, reduceCtorEq, Nat.reduceSub, Int.reduceNeg, Nat.reduceMod, Nat.reduceBEq, Nat.reduceLT] <;> try simp only [qa, qb, qc, qd, qe, qf, qg, bOf_t, bOf_f] at hb))
  all_goals first | rfl | omega | skip
  refine run_loop [(3, 1903, true, 1)] (ι := {i : Nat // i ≤ w.hosts.length ∧ ∀ j, j < i → HsOk (w.hosts.getD j default)}) (fun p => ⟨[(1, .pb 1001 0), (3, .h 1903), (9, .t (.sl 7 (w.hosts.map encHs))), (10, .t (.v (.int .i64 w.hosts.length))), (11, .t (.v (.int .i64 p.1)))], [(1001, some (.box ((encWd w).map .t))), (1903, some (.arr true 1 (((w.hosts.map hnm).take p.1).map encStr)))]⟩) (fun p => w.hosts.length - p.1) ⟨0, by simp, by simp⟩ rfl ?_ ?_
  · simp -implicitDefEqProofs only [go_sem, h9, c9, h47, c47, h36, c36, h48, c48, h49, c49, h50, c50, bOf_t, bOf_f, List.length_map, decS1, List.mem_singleton, forall_eq, List.length_cons, List.length_nil, List.length_append, List.nil_append, Nat.zero_add, Bool.not_false, Bool.not_true, Nat.reduceAdd, Nat.reduceMul, Nat.reduceLeDiff, Nat.reduceEqDiff, reduceCtorEq, Nat.reduceSub, Int.reduceNeg, Nat.reduceMod, Nat.reduceBEq, Nat.reduceLT]
    simp
  · rintro ⟨i, hi, hall⟩
    have hlen : ((w.hosts.map hnm).take i).length = i := by simp; omega
    by_cases hlt : (i : Int) < w.hosts.length
    · have hz := zh _ (getD_mem (xs := w.hosts) (j := i) (by omega))
      simp -implicitDefEqProofs only [hlt, decide_true, Int.toNat_natCast, go_sem, h9, c9, h47, c47, h36, c36, h48, c48, h49, c49, h50, c50, bOf_t, bOf_f, List.length_map, decS1, List.mem_singleton, forall_eq, List.length_cons, List.length_nil, List.length_append, List.nil_append, Nat.zero_add, Bool.not_false, Bool.not_true, Nat.reduceAdd, Nat.reduceMul, Nat.reduceLeDiff, Nat.reduceEqDiff, reduceCtorEq, Nat.reduceSub, Int.reduceNeg, Nat.reduceMod, Nat.reduceBEq, Nat.reduceLT]
      repeat' (first | with_reducible apply And.intro | with_reducible intro _ | ((first | refine brB_split (fun hb => ?_) (fun hb => ?_) | refine aPickB_split (fun hb => ?_) (fun hb => ?_) | refine gB_split (fun hb => ?_) (fun hb => ?_) | refine adB_split (fun hb => ?_) (fun hb => ?_)) <;> simp -implicitDefEqProofs only [hb, go_sem, h9, c9, h47, c47, h36, c36, h48, c48, h49, c49, h50, c50, bOf_t, bOf_f, List.length_map, decS1, List.mem_singleton, forall_eq, List.length_cons, List.length_nil, List.length_append, List.nil_append, Nat.zero_add, Bool.not_false, Bool.not_true, Nat.reduceAdd, Nat.reduceMul, Nat.reduceLeDiff, Nat.reduceEqDiff, reduceCtorEq, Nat.reduceSub, Int.reduceNeg, Nat.reduceMod, Nat.reduceBEq, Nat.reduceLT] <;> try simp only [qa, qb, qc, qd, qe, qf, qg, bOf_t, bOf_f] at hb))
      all_goals (try simp only [maxLen, Int.toNat_natCast] at *)
      all_goals first
        | rfl
        | omega
        | assumption
        | exact uF (fun q => absurd (q.1 (w.hosts.getD i default) (getD_mem (by omega))) (by assumption))
        | skip
      refine ⟨⟨i + 1, by omega, bx_step hall hb⟩, by dsimp only; omega, ?_⟩
      simp -implicitDefEqProofs only [go_sem, h9, c9, h47, c47, h36, c36, h48, c48, h49, c49, h50, c50, bOf_t, bOf_f, List.length_map, decS1, List.mem_singleton, forall_eq, List.length_cons, List.length_nil, List.length_append, List.nil_append, Nat.zero_add, Bool.not_false, Bool.not_true, Nat.reduceAdd, Nat.reduceMul, Nat.reduceLeDiff, Nat.reduceEqDiff, reduceCtorEq, Nat.reduceSub, Int.reduceNeg, Nat.reduceMod, Nat.reduceBEq, Nat.reduceLT]
      simp only [take_hnm (show i < w.hosts.length by omega)]
      repeat' (first | with_reducible apply And.intro | with_reducible intro _ | ((first | refine brB_split (fun hb => ?_) (fun hb => ?_) | refine aPickB_split (fun hb => ?_) (fun hb => ?_) | refine gB_split (fun hb => ?_) (fun hb => ?_) | refine adB_split (fun hb => ?_) (fun hb => ?_)) <;> simp -implicitDefEqProofs only [hb, go_sem, h9, c9, h47, c47, h36, c36, h48, c48, h49, c49, h50, c50, bOf_t, bOf_f, List.length_map, decS1, List.mem_singleton, forall_eq, List.length_cons, List.length_nil, List.length_append, List.nil_append, Nat.zero_add, Bool.not_false, Bool.not_true, Nat.reduceAdd, Nat.reduceMul, Nat.reduceLeDiff, Nat.reduceEqDiff, reduceCtorEq, Nat.reduceSub, Int.reduceNeg, Nat.reduceMod, Nat.reduceBEq, Nat.reduceLT] <;> try simp only [qa, qb, qc, qd, qe, qf, qg, bOf_t, bOf_f] at hb))
      all_goals first | rfl | (simp; done) | trace_state
    · have hA : ∀ h ∈ w.hosts, HsOk h := mem_getD fun j hj => hall j (by omega)
      simp -implicitDefEqProofs only [hlt, decide_false, go_sem, h9, c9, h47, c47, h36, c36, h48, c48, h49, c49, h50, c50, bOf_t, bOf_f, List.length_map, decS1, List.mem_singleton, forall_eq, List.length_cons, List.length_nil, List.length_append, List.nil_append, Nat.zero_add, Bool.not_false, Bool.not_true, Nat.reduceAdd, Nat.reduceMul, Nat.reduceLeDiff, Nat.reduceEqDiff, reduceCtorEq, Nat.reduceSub, Int.reduceNeg, Nat.reduceMod, Nat.reduceBEq, Nat.reduceLT]
      repeat' (first | with_reducible apply And.intro | with_reducible intro _ | ((first | refine brB_split (fun hb => ?_) (fun hb => ?_) | refine aPickB_split (fun hb => ?_) (fun hb => ?_) | refine gB_split (fun hb => ?_) (fun hb => ?_) | refine adB_split (fun hb => ?_) (fun hb => ?_)) <;> simp -implicitDefEqProofs only [hb, go_sem, h9, c9, h47, c47, h36, c36, h48, c48, h49, c49, h50, c50, bOf_t, bOf_f, List.length_map, decS1, List.mem_singleton, forall_eq, List.length_cons, List.length_nil, List.length_append, List.nil_append, Nat.zero_add, Bool.not_false, Bool.not_true, Nat.reduceAdd, Nat.reduceMul, Nat.reduceLeDiff, Nat.reduceEqDiff, reduceCtorEq, Nat.reduceSub, Int.reduceNeg, Nat.reduceMod, Nat.reduceBEq, Nat.reduceLT] <;> try simp only [qa, qb, qc, qd, qe, qf, qg, bOf_t, bOf_f] at hb))
      all_goals first | rfl | omega | skip
      rw [List.take_of_length_le (by rw [List.length_map]; omega)]
      refine run_loop [] (ι := {i : Nat // i ≤ w.given.length ∧ ∀ j, j < i → LsOk (w.given.getD j default)}) (fun p => ⟨[(1, .pb 1001 0), (3, .h 1903), (26, .t (.sl 3 (w.given.map encLs))), (27, .t (.v (.int .i64 w.given.length))), (28, .t (.v (.int .i64 p.1)))], [(1001, some (.box ((encWd w).map .t))), (1903, some (.arr true 1 ((w.hosts.map hnm).map encStr)))]⟩) (fun p => w.given.length - p.1) ⟨0, by simp, by simp⟩ rfl ?_ ?_
      · simp -implicitDefEqProofs only [go_sem, h9, c9, h47, c47, h36, c36, h48, c48, h49, c49, h50, c50, bOf_t, bOf_f, List.length_map, decS1, List.mem_singleton, forall_eq, List.length_cons, List.length_nil, List.length_append, List.nil_append, Nat.zero_add, Bool.not_false, Bool.not_true, Nat.reduceAdd, Nat.reduceMul, Nat.reduceLeDiff, Nat.reduceEqDiff, reduceCtorEq, Nat.reduceSub, Int.reduceNeg, Nat.reduceMod, Nat.reduceBEq, Nat.reduceLT]
        simp
      · rintro ⟨k, hk, hall2⟩
        by_cases hlt2 : (k : Int) < w.given.length
        · obtain ⟨g1, g2⟩ := zg _ (getD_mem (xs := w.given) (j := k) (by omega))
          have y1 : (w.given.getD k default).mark.size ≤ 2000000 := by have : (w.given.getD k default).mark.size ≤ 1048576 := g1; omega
          have y1' : ∀ s ∈ [(w.given.getD k default).mark], s.size ≤ 2000000 := fun s hs => by rw [List.mem_singleton.1 hs]; exact y1
          have y2 : (w.given.getD k default).addr.domain.size ≤ 2000000 := by have : (w.given.getD k default).addr.domain.size ≤ 1048576 := g2.2; omega
          simp -implicitDefEqProofs only [hlt2, decide_true, Int.toNat_natCast, go_sem, h9, c9, h47, c47, h36, c36, h48, c48, h49, c49, h50, c50, bOf_t, bOf_f, List.length_map, decS1, List.mem_singleton, forall_eq, List.length_cons, List.length_nil, List.length_append, List.nil_append, Nat.zero_add, Bool.not_false, Bool.not_true, Nat.reduceAdd, Nat.reduceMul, Nat.reduceLeDiff, Nat.reduceEqDiff, reduceCtorEq, Nat.reduceSub, Int.reduceNeg, Nat.reduceMod, Nat.reduceBEq, Nat.reduceLT]
          repeat' (first | with_reducible apply And.intro | with_reducible intro _ | ((first | refine brB_split (fun hb => ?_) (fun hb => ?_) | refine aPickB_split (fun hb => ?_) (fun hb => ?_) | refine gB_split (fun hb => ?_) (fun hb => ?_) | refine adB_split (fun hb => ?_) (fun hb => ?_)) <;> simp -implicitDefEqProofs only [hb, go_sem, h9, c9, h47, c47, h36, c36, h48, c48, h49, c49, h50, c50, bOf_t, bOf_f, List.length_map, decS1, List.mem_singleton, forall_eq, List.length_cons, List.length_nil, List.length_append, List.nil_append, Nat.zero_add, Bool.not_false, Bool.not_true, Nat.reduceAdd, Nat.reduceMul, Nat.reduceLeDiff, Nat.reduceEqDiff, reduceCtorEq, Nat.reduceSub, Int.reduceNeg, Nat.reduceMod, Nat.reduceBEq, Nat.reduceLT] <;> try simp only [qa, qb, qc, qd, qe, qf, qg, bOf_t, bOf_f] at hb))
          all_goals (try simp only [maxLen, Int.toNat_natCast] at *)
          all_goals first
            | rfl
            | omega
            | assumption
            | exact y1' _ (by assumption)
            | exact uF (fun q => absurd (q.2.2.1 (w.given.getD k default) (getD_mem (by omega))).1 (fun f => f (by assumption)))
            | exact uF (fun q => absurd ((LsB _).2 (q.2.2.1 (w.given.getD k default) (getD_mem (by omega)))).2.1 (by assumption))
            | exact uF (fun q => absurd (q.2.2.1 (w.given.getD k default) (getD_mem (by omega))).2.2.1 (by assumption))
            | skip
          all_goals
            refine ⟨⟨k + 1, by omega, bx_step hall2 ((LsB _).1 ⟨by assumption, by assumption, by assumption⟩)⟩, by dsimp only; omega, ?_⟩
            simp -implicitDefEqProofs only [go_sem, h9, c9, h47, c47, h36, c36, h48, c48, h49, c49, h50, c50, bOf_t, bOf_f, List.length_map, decS1, List.mem_singleton, forall_eq, List.length_cons, List.length_nil, List.length_append, List.nil_append, Nat.zero_add, Bool.not_false, Bool.not_true, Nat.reduceAdd, Nat.reduceMul, Nat.reduceLeDiff, Nat.reduceEqDiff, reduceCtorEq, Nat.reduceSub, Int.reduceNeg, Nat.reduceMod, Nat.reduceBEq, Nat.reduceLT]
            simp
        · have hB : ∀ l ∈ w.given, LsOk l := mem_getD fun j hj => hall2 j (by omega)
          simp -implicitDefEqProofs only [hlt2, decide_false, go_sem, h9, c9, h47, c47, h36, c36, h48, c48, h49, c49, h50, c50, bOf_t, bOf_f, List.length_map, decS1, List.mem_singleton, forall_eq, List.length_cons, List.length_nil, List.length_append, List.nil_append, Nat.zero_add, Bool.not_false, Bool.not_true, Nat.reduceAdd, Nat.reduceMul, Nat.reduceLeDiff, Nat.reduceEqDiff, reduceCtorEq, Nat.reduceSub, Int.reduceNeg, Nat.reduceMod, Nat.reduceBEq, Nat.reduceLT]
          repeat' (first | with_reducible apply And.intro | with_reducible intro _ | ((first | refine brB_split (fun hb => ?_) (fun hb => ?_) | refine aPickB_split (fun hb => ?_) (fun hb => ?_) | refine gB_split (fun hb => ?_) (fun hb => ?_) | refine adB_split (fun hb => ?_) (fun hb => ?_)) <;> simp -implicitDefEqProofs only [hb, go_sem, h9, c9, h47, c47, h36, c36, h48, c48, h49, c49, h50, c50, bOf_t, bOf_f, List.length_map, decS1, List.mem_singleton, forall_eq, List.length_cons, List.length_nil, List.length_append, List.nil_append, Nat.zero_add, Bool.not_false, Bool.not_true, Nat.reduceAdd, Nat.reduceMul, Nat.reduceLeDiff, Nat.reduceEqDiff, reduceCtorEq, Nat.reduceSub, Int.reduceNeg, Nat.reduceMod, Nat.reduceBEq, Nat.reduceLT] <;> try simp only [qa, qb, qc, qd, qe, qf, qg, bOf_t, bOf_f] at hb))
          all_goals first
            | rfl
            | omega
            | exact uE ⟨fun q => ⟨hA, by assumption, hB, by assumption, by assumption, q⟩, fun q => q.2.2.2.2.2⟩
            | exact uF (fun q => absurd q.2.2.2.1 (by assumption))
            | exact uF (fun q => absurd q.2.1 (by assumption))
            | exact uF (fun q => absurd q.2.2.2.2.1 (by assumption))
            | trace_state


def sumL {α : Type} (f : α → Int) : List α → Int
  | [] => 0
  | x :: r => f x + sumL f r
theorem sum_step {α : Type} [Inhabited α] {f : α → Int} {xs : List α} {i : Nat} (h : i < xs.length) : sumL f (xs.drop i) = f (xs.getD i default) + sumL f (xs.drop (i + 1)) := by
  rw [getD_drop h]; rfl
theorem sum_end {α : Type} {f : α → Int} {xs : List α} {i : Nat} (h : xs.length ≤ i) : sumL f (xs.drop i) = 0 := by
  rw [List.drop_eq_nil_of_le h]; rfl
theorem sum_le {α : Type} {f : α → Int} {B : Int} : ∀ {xs : List α}, (∀ x ∈ xs, 0 ≤ f x ∧ f x ≤ B) → 0 ≤ sumL f xs ∧ sumL f xs ≤ B * xs.length
  | [], _ => by simp [sumL]
  | x :: r, h => by
    have h1 := h x (by simp)
    have h2 := sum_le (xs := r) fun y hy => h y (by simp [hy])
    have e1 : B * ((r.length + 1 : Nat) : Int) = B * r.length + B := by rw [Int.natCast_add, Int.mul_add]; simp
    simp only [sumL, List.length_cons]
    omega
theorem sum_drop {α : Type} {f : α → Int} {xs : List α} (h : ∀ x ∈ xs, 0 ≤ f x) (i : Nat) : 0 ≤ sumL f (xs.drop i) := by
  have h2 : ∀ {ys : List α}, (∀ x ∈ ys, 0 ≤ f x) → 0 ≤ sumL f ys := fun {ys} => by
    induction ys with
    | nil => intro _; exact Int.le_refl _
    | cons y r ih =>
      intro h
      have h1 := h y (by simp)
      have h3 := ih fun z hz => h z (by simp [hz])
      show 0 ≤ f y + sumL f r
      omega
  exact h2 fun x hx => h x (List.mem_of_mem_drop hx)
def rcN (x : Im) : Int := x.to.length
open Classical in
noncomputable def SMany (s : Sp) : Int := if SpOk s then sumL rcN s.items else -1
theorem SMany_y {s : Sp} (h : SpOk s) : SMany s = sumL rcN s.items := if_pos h
theorem SMany_n {s : Sp} (h : ¬ SpOk s) : SMany s = -1 := if_neg h
theorem many_le {s : Sp} (h : SpOk s) : 0 ≤ sumL rcN s.items ∧ sumL rcN s.items ≤ 40 := by
  have h1 := sum_le (f := rcN) (B := 4) (xs := s.items) fun x hx => by
    have := (h.1 x hx).1.2.2.2.2.1
    unfold rcN; omega
  have h2 := h.2.2.2
  omega
def c52 : Ct := ctR (lc ESp.ag l0) (fun p => True) (fun p => .t (.v (.int .i64 (SMany p.1))))
theorem good52 {G : Gt} (hG : OkG G) (h65 : G.e 65 = roEnt 0 c65) : Gd G 52 (roEnt 0 c52) := by
  refine gR (dp := fun _ => true) (fn := Tryz.f52) (n := 1) (fun _ => rfl) (by kernel_rfl) rfl (by kernel_rfl) hG (Nat.le_of_ble_eq_true rfl) (by kernel_rfl) (by decide) (fun _ _ => .v _) ?_
  rintro ⟨s, ⟨⟩⟩ hpre
  simp -implicitDefEqProofs only [Tryz.f52, go_sem, h65, c65, bOf_t, bOf_f, List.length_map, Nat.reduceAdd, Nat.reduceMul, Nat.reduceLeDiff, Nat.reduceEqDiff, reduceCtorEq, Nat.reduceSub, Int.reduceNeg, Nat.reduceMod, Nat.reduceBEq, Nat.reduceLT] at hpre ⊢

  by_cases h : SpOk s
  · have b1 := bOf_y h
    have hm := many_le h
    rw [SMany_y h]
    simp -implicitDefEqProofs only [b1, go_sem, h65, c65, bOf_t, bOf_f, List.length_map, Nat.reduceAdd, Nat.reduceMul, Nat.reduceLeDiff, Nat.reduceEqDiff, reduceCtorEq, Nat.reduceSub, Int.reduceNeg, Nat.reduceMod, Nat.reduceBEq, Nat.reduceLT]
    repeat' (first | with_reducible apply And.intro | with_reducible intro _ | ((first | refine brB_split (fun hb => ?_) (fun hb => ?_) | refine aPickB_split (fun hb => ?_) (fun hb => ?_) | refine gB_split (fun hb => ?_) (fun hb => ?_) | refine adB_split (fun hb => ?_) (fun hb => ?_)) <;> simp -implicitDefEqProofs only [hb, go_sem, h65, c65, bOf_t, bOf_f, List.length_map, Nat.reduceAdd, Nat.reduceMul, Nat.reduceLeDiff, Nat.reduceEqDiff, reduceCtorEq, Nat.reduceSub, Int.reduceNeg, Nat.reduceMod, Nat.reduceBEq, Nat.reduceLT] <;> try simp only [qa, qb, qc, qd, qe, qf, qg, bOf_t, bOf_f] at hb))
    all_goals first | rfl | omega | assumption | contradiction | skip
    all_goals
      refine run_loop [] (ι := {p : Nat × Int // p.1 ≤ s.items.length ∧ 0 ≤ p.2 ∧ p.2 + sumL rcN (s.items.drop p.1) = sumL rcN s.items}) (fun p => ⟨[(1, .pb 1001 0), (3, .t (.v (.int .i64 p.1.2))), (4, .t (.v (.int .i64 p.1.1)))], [(1001, some (.box ((encSp s).map .t)))]⟩) (fun p => s.items.length - p.1.1) ⟨(0, 0), by simp, by simp, by simp⟩ rfl ?_ ?_
      · simp -implicitDefEqProofs only [go_sem, h65, c65, bOf_t, bOf_f, List.length_map, Nat.reduceAdd, Nat.reduceMul, Nat.reduceLeDiff, Nat.reduceEqDiff, reduceCtorEq, Nat.reduceSub, Int.reduceNeg, Nat.reduceMod, Nat.reduceBEq, Nat.reduceLT]
        simp
      · rintro ⟨⟨i, v⟩, hi, h0, hv⟩
        dsimp only at hi h0 hv ⊢
        by_cases hlt : (i : Int) < s.items.length
        · have hst := sum_step (f := rcN) (xs := s.items) (i := i) (by omega)
          have hrest := sum_drop (f := rcN) (xs := s.items) (fun x _ => by unfold rcN; omega) (i + 1)
          have hr : rcN (s.items.getD i default) = (s.items.getD i default).to.length := rfl
          simp -implicitDefEqProofs only [hlt, decide_true, Int.toNat_natCast, go_sem, h65, c65, bOf_t, bOf_f, List.length_map, Nat.reduceAdd, Nat.reduceMul, Nat.reduceLeDiff, Nat.reduceEqDiff, reduceCtorEq, Nat.reduceSub, Int.reduceNeg, Nat.reduceMod, Nat.reduceBEq, Nat.reduceLT]
          repeat' (first | with_reducible apply And.intro | with_reducible intro _ | ((first | refine brB_split (fun hb => ?_) (fun hb => ?_) | refine aPickB_split (fun hb => ?_) (fun hb => ?_) | refine gB_split (fun hb => ?_) (fun hb => ?_) | refine adB_split (fun hb => ?_) (fun hb => ?_)) <;> simp -implicitDefEqProofs only [hb, go_sem, h65, c65, bOf_t, bOf_f, List.length_map, Nat.reduceAdd, Nat.reduceMul, Nat.reduceLeDiff, Nat.reduceEqDiff, reduceCtorEq, Nat.reduceSub, Int.reduceNeg, Nat.reduceMod, Nat.reduceBEq, Nat.reduceLT] <;> try simp only [qa, qb, qc, qd, qe, qf, qg, bOf_t, bOf_f] at hb))
          all_goals (try simp only [maxLen, Int.toNat_natCast] at *)
          all_goals first | rfl | omega | skip
          refine ⟨⟨(i + 1, v + (s.items.getD i default).to.length), by dsimp only; omega, by dsimp only; omega, by dsimp only; omega⟩, by dsimp only; omega, ?_⟩
          simp -implicitDefEqProofs only [go_sem, h65, c65, bOf_t, bOf_f, List.length_map, Nat.reduceAdd, Nat.reduceMul, Nat.reduceLeDiff, Nat.reduceEqDiff, reduceCtorEq, Nat.reduceSub, Int.reduceNeg, Nat.reduceMod, Nat.reduceBEq, Nat.reduceLT]
          simp
        · have hst := sum_end (f := rcN) (xs := s.items) (i := i) (by omega)
          simp -implicitDefEqProofs only [hlt, decide_false, go_sem, h65, c65, bOf_t, bOf_f, List.length_map, Nat.reduceAdd, Nat.reduceMul, Nat.reduceLeDiff, Nat.reduceEqDiff, reduceCtorEq, Nat.reduceSub, Int.reduceNeg, Nat.reduceMod, Nat.reduceBEq, Nat.reduceLT]
          repeat' (first | with_reducible apply And.intro | with_reducible intro _ | ((first | refine brB_split (fun hb => ?_) (fun hb => ?_) | refine aPickB_split (fun hb => ?_) (fun hb => ?_) | refine gB_split (fun hb => ?_) (fun hb => ?_) | refine adB_split (fun hb => ?_) (fun hb => ?_)) <;> simp -implicitDefEqProofs only [hb, go_sem, h65, c65, bOf_t, bOf_f, List.length_map, Nat.reduceAdd, Nat.reduceMul, Nat.reduceLeDiff, Nat.reduceEqDiff, reduceCtorEq, Nat.reduceSub, Int.reduceNeg, Nat.reduceMod, Nat.reduceBEq, Nat.reduceLT] <;> try simp only [qa, qb, qc, qd, qe, qf, qg, bOf_t, bOf_f] at hb))
          all_goals first | rfl | omega | (rw [← hv, hst, Int.add_zero]; done) | skip
  · have b1 := bOf_n h
    rw [SMany_n h]
    simp -implicitDefEqProofs only [b1, go_sem, h65, c65, bOf_t, bOf_f, List.length_map, Nat.reduceAdd, Nat.reduceMul, Nat.reduceLeDiff, Nat.reduceEqDiff, reduceCtorEq, Nat.reduceSub, Int.reduceNeg, Nat.reduceMod, Nat.reduceBEq, Nat.reduceLT]
    repeat' (first | with_reducible apply And.intro | with_reducible intro _ | ((first | refine brB_split (fun hb => ?_) (fun hb => ?_) | refine aPickB_split (fun hb => ?_) (fun hb => ?_) | refine gB_split (fun hb => ?_) (fun hb => ?_) | refine adB_split (fun hb => ?_) (fun hb => ?_)) <;> simp -implicitDefEqProofs only [hb, go_sem, h65, c65, bOf_t, bOf_f, List.length_map, Nat.reduceAdd, Nat.reduceMul, Nat.reduceLeDiff, Nat.reduceEqDiff, reduceCtorEq, Nat.reduceSub, Int.reduceNeg, Nat.reduceMod, Nat.reduceBEq, Nat.reduceLT] <;> try simp only [qa, qb, qc, qd, qe, qf, qg, bOf_t, bOf_f] at hb))
    all_goals first | rfl | omega | assumption | contradiction | skip

def c53 : Ct := ctR (lc ESp.ag l0) (fun p => OkSp p.1) (fun p => .t (.v (.int .i64 (SMany p.1))))
theorem good53 {G : Gt} (hG : OkG G) (h32 : G.e 32 = roEnt 0 c32) : Gd G 53 (roEnt 0 c53) := by
  refine gR (dp := fun _ => true) (fn := Tryz.f53) (n := 1) (fun _ => rfl) (by kernel_rfl) rfl (by kernel_rfl) hG (Nat.le_of_ble_eq_true rfl) (by kernel_rfl) (by decide) (fun _ _ => .v _) ?_
  rintro ⟨s, ⟨⟩⟩ hpre
  simp -implicitDefEqProofs only [Tryz.f53, go_sem, h32, c32, bOf_t, bOf_f, List.length_map, Nat.reduceAdd, Nat.reduceMul, Nat.reduceLeDiff, Nat.reduceEqDiff, reduceCtorEq, Nat.reduceSub, Int.reduceNeg, Nat.reduceMod, Nat.reduceBEq, Nat.reduceLT] at hpre ⊢

  by_cases h : SpOk s
  · have b1 := bOf_y h
    have hm := many_le h
    rw [SMany_y h]
    simp -implicitDefEqProofs only [b1, go_sem, h32, c32, bOf_t, bOf_f, List.length_map, Nat.reduceAdd, Nat.reduceMul, Nat.reduceLeDiff, Nat.reduceEqDiff, reduceCtorEq, Nat.reduceSub, Int.reduceNeg, Nat.reduceMod, Nat.reduceBEq, Nat.reduceLT]
    repeat' (first | with_reducible apply And.intro | with_reducible intro _ | ((first | refine brB_split (fun hb => ?_) (fun hb => ?_) | refine aPickB_split (fun hb => ?_) (fun hb => ?_) | refine gB_split (fun hb => ?_) (fun hb => ?_) | refine adB_split (fun hb => ?_) (fun hb => ?_)) <;> simp -implicitDefEqProofs only [hb, go_sem, h32, c32, bOf_t, bOf_f, List.length_map, Nat.reduceAdd, Nat.reduceMul, Nat.reduceLeDiff, Nat.reduceEqDiff, reduceCtorEq, Nat.reduceSub, Int.reduceNeg, Nat.reduceMod, Nat.reduceBEq, Nat.reduceLT] <;> try simp only [qa, qb, qc, qd, qe, qf, qg, bOf_t, bOf_f] at hb))
    all_goals first | rfl | omega | assumption | contradiction | skip
    all_goals
      refine run_loop [] (ι := {p : Nat × Int // p.1 ≤ s.items.length ∧ 0 ≤ p.2 ∧ p.2 + sumL rcN (s.items.drop p.1) = sumL rcN s.items}) (fun p => ⟨[(1, .pb 1001 0), (3, .t (.v (.int .i64 p.1.2))), (10, .t (.sl 5 (s.items.map encIm))), (11, .t (.v (.int .i64 s.items.length))), (12, .t (.v (.int .i64 p.1.1)))], [(1001, some (.box ((encSp s).map .t)))]⟩) (fun p => s.items.length - p.1.1) ⟨(0, 0), by simp, by simp, by simp⟩ rfl ?_ ?_
      · simp -implicitDefEqProofs only [go_sem, h32, c32, bOf_t, bOf_f, List.length_map, Nat.reduceAdd, Nat.reduceMul, Nat.reduceLeDiff, Nat.reduceEqDiff, reduceCtorEq, Nat.reduceSub, Int.reduceNeg, Nat.reduceMod, Nat.reduceBEq, Nat.reduceLT]
        simp
      · rintro ⟨⟨i, v⟩, hi, h0, hv⟩
        dsimp only at hi h0 hv ⊢
        by_cases hlt : (i : Int) < s.items.length
        · have hst := sum_step (f := rcN) (xs := s.items) (i := i) (by omega)
          have hrest := sum_drop (f := rcN) (xs := s.items) (fun x _ => by unfold rcN; omega) (i + 1)
          have hr : rcN (s.items.getD i default) = (s.items.getD i default).to.length := rfl
          simp -implicitDefEqProofs only [hlt, decide_true, Int.toNat_natCast, go_sem, h32, c32, bOf_t, bOf_f, List.length_map, Nat.reduceAdd, Nat.reduceMul, Nat.reduceLeDiff, Nat.reduceEqDiff, reduceCtorEq, Nat.reduceSub, Int.reduceNeg, Nat.reduceMod, Nat.reduceBEq, Nat.reduceLT]
          repeat' (first | with_reducible apply And.intro | with_reducible intro _ | ((first | refine brB_split (fun hb => ?_) (fun hb => ?_) | refine aPickB_split (fun hb => ?_) (fun hb => ?_) | refine gB_split (fun hb => ?_) (fun hb => ?_) | refine adB_split (fun hb => ?_) (fun hb => ?_)) <;> simp -implicitDefEqProofs only [hb, go_sem, h32, c32, bOf_t, bOf_f, List.length_map, Nat.reduceAdd, Nat.reduceMul, Nat.reduceLeDiff, Nat.reduceEqDiff, reduceCtorEq, Nat.reduceSub, Int.reduceNeg, Nat.reduceMod, Nat.reduceBEq, Nat.reduceLT] <;> try simp only [qa, qb, qc, qd, qe, qf, qg, bOf_t, bOf_f] at hb))
          all_goals (try simp only [maxLen, Int.toNat_natCast] at *)
          all_goals first | rfl | omega | skip
          refine ⟨⟨(i + 1, v + (s.items.getD i default).to.length), by dsimp only; omega, by dsimp only; omega, by dsimp only; omega⟩, by dsimp only; omega, ?_⟩
          simp -implicitDefEqProofs only [go_sem, h32, c32, bOf_t, bOf_f, List.length_map, Nat.reduceAdd, Nat.reduceMul, Nat.reduceLeDiff, Nat.reduceEqDiff, reduceCtorEq, Nat.reduceSub, Int.reduceNeg, Nat.reduceMod, Nat.reduceBEq, Nat.reduceLT]
          simp
        · have hst := sum_end (f := rcN) (xs := s.items) (i := i) (by omega)
          simp -implicitDefEqProofs only [hlt, decide_false, go_sem, h32, c32, bOf_t, bOf_f, List.length_map, Nat.reduceAdd, Nat.reduceMul, Nat.reduceLeDiff, Nat.reduceEqDiff, reduceCtorEq, Nat.reduceSub, Int.reduceNeg, Nat.reduceMod, Nat.reduceBEq, Nat.reduceLT]
          repeat' (first | with_reducible apply And.intro | with_reducible intro _ | ((first | refine brB_split (fun hb => ?_) (fun hb => ?_) | refine aPickB_split (fun hb => ?_) (fun hb => ?_) | refine gB_split (fun hb => ?_) (fun hb => ?_) | refine adB_split (fun hb => ?_) (fun hb => ?_)) <;> simp -implicitDefEqProofs only [hb, go_sem, h32, c32, bOf_t, bOf_f, List.length_map, Nat.reduceAdd, Nat.reduceMul, Nat.reduceLeDiff, Nat.reduceEqDiff, reduceCtorEq, Nat.reduceSub, Int.reduceNeg, Nat.reduceMod, Nat.reduceBEq, Nat.reduceLT] <;> try simp only [qa, qb, qc, qd, qe, qf, qg, bOf_t, bOf_f] at hb))
          all_goals first | rfl | omega | (rw [← hv, hst, Int.add_zero]; done) | skip
  · have b1 := bOf_n h
    rw [SMany_n h]
    simp -implicitDefEqProofs only [b1, go_sem, h32, c32, bOf_t, bOf_f, List.length_map, Nat.reduceAdd, Nat.reduceMul, Nat.reduceLeDiff, Nat.reduceEqDiff, reduceCtorEq, Nat.reduceSub, Int.reduceNeg, Nat.reduceMod, Nat.reduceBEq, Nat.reduceLT]
    repeat' (first | with_reducible apply And.intro | with_reducible intro _ | ((first | refine brB_split (fun hb => ?_) (fun hb => ?_) | refine aPickB_split (fun hb => ?_) (fun hb => ?_) | refine gB_split (fun hb => ?_) (fun hb => ?_) | refine adB_split (fun hb => ?_) (fun hb => ?_)) <;> simp -implicitDefEqProofs only [hb, go_sem, h32, c32, bOf_t, bOf_f, List.length_map, Nat.reduceAdd, Nat.reduceMul, Nat.reduceLeDiff, Nat.reduceEqDiff, reduceCtorEq, Nat.reduceSub, Int.reduceNeg, Nat.reduceMod, Nat.reduceBEq, Nat.reduceLT] <;> try simp only [qa, qb, qc, qd, qe, qf, qg, bOf_t, bOf_f] at hb))
    all_goals first | rfl | omega | assumption | contradiction | skip


def itN (h : Hs) : Int := h.spool.items.length
noncomputable def mnN (h : Hs) : Int := SMany h.spool
def mlN (b : Bx) : Int := b.mails.length
def bxN (h : Hs) : Int := sumL mlN h.boxes
def loN (h : Hs) : Int := h.lost.length
open Classical in
noncomputable def LMany (w : Wd) : List Int := if WdOk w then [sumL itN w.hosts, sumL mnN w.hosts, sumL bxN w.hosts, sumL loN w.hosts] else []
theorem LMany_y {w : Wd} (h : WdOk w) : LMany w = [sumL itN w.hosts, sumL mnN w.hosts, sumL bxN w.hosts, sumL loN w.hosts] := if_pos h
theorem LMany_n {w : Wd} (h : ¬ WdOk w) : LMany w = [] := if_neg h
theorem host_le {h : Hs} (hh : HsOk h) (ho : OkHs h) : (0 ≤ itN h ∧ itN h ≤ 10) ∧ (0 ≤ mnN h ∧ mnN h ≤ 40) ∧ (0 ≤ bxN h ∧ bxN h ≤ 1099511627776) ∧ (0 ≤ loN h ∧ loN h ≤ 1048576) := by
  obtain ⟨_, _, ⟨lb, zb⟩, ⟨ll, _⟩⟩ := ho
  have hs := hh.2.2
  have h1 := hs.2.2.2
  have h2 := many_le hs
  have h3 := sum_le (f := mlN) (B := 1048576) (xs := h.boxes) fun b hb => by
    have := (zb b hb).2.1
    unfold mlN; omega
  refine ⟨by unfold itN; omega, by unfold mnN; rw [SMany_y hs]; exact h2, ?_, by unfold loN; omega⟩
  unfold bxN
  have h4 : (1048576 : Int) * h.boxes.length ≤ 1048576 * 1048576 := Int.mul_le_mul_of_nonneg_left lb (by decide)
  omega
theorem look_le {w : Wd} (hw : WdOk w) (ho : OkWd w) : (sumL itN w.hosts ≤ 40) ∧ (sumL mnN w.hosts ≤ 160) ∧ (sumL bxN w.hosts ≤ 4398046511104) ∧ (sumL loN w.hosts ≤ 4194304) := by
  have hf := fun h hh => host_le (hw.1 h hh) (ho.1.2 h hh)
  have h4 := hw.2.2.2.1.2
  have h1 := sum_le (f := itN) (B := 10) (xs := w.hosts) fun h hh => (hf h hh).1
  have h2 := sum_le (f := mnN) (B := 40) (xs := w.hosts) fun h hh => (hf h hh).2.1
  have h3 := sum_le (f := bxN) (B := 1099511627776) (xs := w.hosts) fun h hh => (hf h hh).2.2.1
  have h5 := sum_le (f := loN) (B := 1048576) (xs := w.hosts) fun h hh => (hf h hh).2.2.2
  refine ⟨by omega, by omega, by omega, by omega⟩
def c16 : Ct := ctR (lc EWd.ag l0) (fun p => OkWd p.1) (fun p => .o true 1 ((LMany p.1).map encInt))
set_option maxHeartbeats 6400000 in
theorem good16 {G : Gt} (hG : OkG G) (h45 : G.e 45 = roEnt 0 c45) (h52 : G.e 52 = roEnt 0 c52) : Gd G 16 (roEnt 0 c16) := by
  refine gR (dp := fun _ => true) (fn := Tryz.f16) (n := 1) (fun _ => rfl) (by kernel_rfl) rfl (by kernel_rfl) hG (Nat.le_of_ble_eq_true rfl) (by kernel_rfl) (by decide) (fun _ _ => .deep _ _) ?_
  rintro ⟨w, ⟨⟩⟩ hpre
  simp -implicitDefEqProofs only [Tryz.f16, go_sem, h45, c45, h52, c52, bOf_t, bOf_f, List.length_map, List.map_nil, List.map_cons, Nat.reduceAdd, Nat.reduceMul, Nat.reduceLeDiff, Nat.reduceEqDiff, reduceCtorEq, Nat.reduceSub, Int.reduceNeg, Nat.reduceMod, Nat.reduceBEq, Nat.reduceLT] at hpre ⊢

  have hok : OkWd w := hpre
  by_cases h : WdOk w
  · have b1 := bOf_y h
    obtain ⟨t1, t2, t3, t4⟩ := look_le h hok
    rw [LMany_y h]
    simp -implicitDefEqProofs only [b1, go_sem, h45, c45, h52, c52, bOf_t, bOf_f, List.length_map, List.map_nil, List.map_cons, Nat.reduceAdd, Nat.reduceMul, Nat.reduceLeDiff, Nat.reduceEqDiff, reduceCtorEq, Nat.reduceSub, Int.reduceNeg, Nat.reduceMod, Nat.reduceBEq, Nat.reduceLT]
    repeat' (first | with_reducible apply And.intro | with_reducible intro _ | ((first | refine brB_split (fun hb => ?_) (fun hb => ?_) | refine aPickB_split (fun hb => ?_) (fun hb => ?_) | refine gB_split (fun hb => ?_) (fun hb => ?_) | refine adB_split (fun hb => ?_) (fun hb => ?_)) <;> simp -implicitDefEqProofs only [hb, go_sem, h45, c45, h52, c52, bOf_t, bOf_f, List.length_map, List.map_nil, List.map_cons, Nat.reduceAdd, Nat.reduceMul, Nat.reduceLeDiff, Nat.reduceEqDiff, reduceCtorEq, Nat.reduceSub, Int.reduceNeg, Nat.reduceMod, Nat.reduceBEq, Nat.reduceLT] <;> try simp only [qa, qb, qc, qd, qe, qf, qg, bOf_t, bOf_f] at hb))
    all_goals first | rfl | omega | assumption | contradiction | skip
    all_goals
      refine run_loop [] (ι := {p : Nat × Int × Int × Int × Int // p.1 ≤ w.hosts.length ∧ (0 ≤ p.2.1 ∧ p.2.1 + sumL itN (w.hosts.drop p.1) = sumL itN w.hosts) ∧ (0 ≤ p.2.2.1 ∧ p.2.2.1 + sumL mnN (w.hosts.drop p.1) = sumL mnN w.hosts) ∧ (0 ≤ p.2.2.2.1 ∧ p.2.2.2.1 + sumL bxN (w.hosts.drop p.1) = sumL bxN w.hosts) ∧ (0 ≤ p.2.2.2.2 ∧ p.2.2.2.2 + sumL loN (w.hosts.drop p.1) = sumL loN w.hosts)}) (fun p => ⟨[(1, .pb 1001 0), (3, .t (.v (.int .i64 p.1.2.1))), (4, .t (.v (.int .i64 p.1.2.2.1))), (5, .t (.v (.int .i64 p.1.2.2.2.1))), (6, .t (.v (.int .i64 p.1.2.2.2.2))), (7, .t (.v (.int .i64 p.1.1)))], [(1001, some (.box ((encWd w).map .t)))]⟩) (fun p => w.hosts.length - p.1.1) ⟨(0, 0, 0, 0, 0), by simp, by simp, by simp, by simp, by simp⟩ rfl ?_ ?_
      · simp -implicitDefEqProofs only [go_sem, h45, c45, h52, c52, bOf_t, bOf_f, List.length_map, List.map_nil, List.map_cons, Nat.reduceAdd, Nat.reduceMul, Nat.reduceLeDiff, Nat.reduceEqDiff, reduceCtorEq, Nat.reduceSub, Int.reduceNeg, Nat.reduceMod, Nat.reduceBEq, Nat.reduceLT]
        simp
      · rintro ⟨⟨i, va, vb, vc, vd⟩, hi, ⟨a0, a1⟩, ⟨b0, b2⟩, ⟨c0, c1⟩, ⟨d0, d1⟩⟩
        dsimp only at hi a0 a1 b0 b2 c0 c1 d0 d1 ⊢
        by_cases hlt : (i : Int) < w.hosts.length
        · skip
          have hm := getD_mem (xs := w.hosts) (j := i) (by omega)
          obtain ⟨f1, f2, f3, f4⟩ := host_le (h.1 _ hm) (hok.1.2 _ hm)
          have s1 := sum_step (f := itN) (xs := w.hosts) (i := i) (by omega)
          have s2 := sum_step (f := mnN) (xs := w.hosts) (i := i) (by omega)
          have s3 := sum_step (f := bxN) (xs := w.hosts) (i := i) (by omega)
          have s4 := sum_step (f := loN) (xs := w.hosts) (i := i) (by omega)
          have r1 := sum_drop (f := itN) (xs := w.hosts) (fun x hx => (host_le (h.1 x hx) (hok.1.2 x hx)).1.1) (i + 1)
          have r2 := sum_drop (f := mnN) (xs := w.hosts) (fun x hx => (host_le (h.1 x hx) (hok.1.2 x hx)).2.1.1) (i + 1)
          have r3 := sum_drop (f := bxN) (xs := w.hosts) (fun x hx => (host_le (h.1 x hx) (hok.1.2 x hx)).2.2.1.1) (i + 1)
          have r4 := sum_drop (f := loN) (xs := w.hosts) (fun x hx => (host_le (h.1 x hx) (hok.1.2 x hx)).2.2.2.1) (i + 1)
          have e1 : itN (w.hosts.getD i default) = (w.hosts.getD i default).spool.items.length := rfl
          have e2 : mnN (w.hosts.getD i default) = SMany (w.hosts.getD i default).spool := rfl
          have e3 : bxN (w.hosts.getD i default) = sumL mlN (w.hosts.getD i default).boxes := rfl
          have e4 : loN (w.hosts.getD i default) = (w.hosts.getD i default).lost.length := rfl
          simp -implicitDefEqProofs only [hlt, decide_true, Int.toNat_natCast, go_sem, h45, c45, h52, c52, bOf_t, bOf_f, List.length_map, List.map_nil, List.map_cons, Nat.reduceAdd, Nat.reduceMul, Nat.reduceLeDiff, Nat.reduceEqDiff, reduceCtorEq, Nat.reduceSub, Int.reduceNeg, Nat.reduceMod, Nat.reduceBEq, Nat.reduceLT]
          repeat' (first | with_reducible apply And.intro | with_reducible intro _ | ((first | refine brB_split (fun hb => ?_) (fun hb => ?_) | refine aPickB_split (fun hb => ?_) (fun hb => ?_) | refine gB_split (fun hb => ?_) (fun hb => ?_) | refine adB_split (fun hb => ?_) (fun hb => ?_)) <;> simp -implicitDefEqProofs only [hb, go_sem, h45, c45, h52, c52, bOf_t, bOf_f, List.length_map, List.map_nil, List.map_cons, Nat.reduceAdd, Nat.reduceMul, Nat.reduceLeDiff, Nat.reduceEqDiff, reduceCtorEq, Nat.reduceSub, Int.reduceNeg, Nat.reduceMod, Nat.reduceBEq, Nat.reduceLT] <;> try simp only [qa, qb, qc, qd, qe, qf, qg, bOf_t, bOf_f] at hb))
          all_goals (try simp only [maxLen, Int.toNat_natCast] at *)
          all_goals first | rfl | omega | skip
          refine run_loop [] (ι := {p : Nat × Int // p.1 ≤ (w.hosts.getD i default).boxes.length ∧ vc ≤ p.2 ∧ p.2 + sumL mlN ((w.hosts.getD i default).boxes.drop p.1) = vc + sumL mlN (w.hosts.getD i default).boxes}) (fun p => ⟨[(1, .pb 1001 0), (3, .t (.v (.int .i64 (va + (w.hosts.getD i default).spool.items.length)))), (4, .t (.v (.int .i64 (vb + SMany (w.hosts.getD i default).spool)))), (5, .t (.v (.int .i64 p.1.2))), (6, .t (.v (.int .i64 (vd + (w.hosts.getD i default).lost.length)))), (7, .t (.v (.int .i64 i))), (8, .pb 1008 0), (9, .t (.v (.int .i64 p.1.1)))], [(1001, some (.box ((encWd w).map .t))), (1008, some (.box ((encHs (w.hosts.getD i default)).map .t)))]⟩) (fun p => (w.hosts.getD i default).boxes.length - p.1.1) ⟨(0, vc), by simp, by simp, by simp⟩ rfl ?_ ?_
          · simp -implicitDefEqProofs only [go_sem, h45, c45, h52, c52, bOf_t, bOf_f, List.length_map, List.map_nil, List.map_cons, Nat.reduceAdd, Nat.reduceMul, Nat.reduceLeDiff, Nat.reduceEqDiff, reduceCtorEq, Nat.reduceSub, Int.reduceNeg, Nat.reduceMod, Nat.reduceBEq, Nat.reduceLT]
            simp
          · rintro ⟨⟨k, vk⟩, hk, k0, k1⟩
            dsimp only at hk k0 k1 ⊢
            by_cases hlt2 : (k : Int) < (w.hosts.getD i default).boxes.length
            · skip
              have hst := sum_step (f := mlN) (xs := (w.hosts.getD i default).boxes) (i := k) (by omega)
              have hrest := sum_drop (f := mlN) (xs := (w.hosts.getD i default).boxes) (fun x _ => by unfold mlN; omega) (k + 1)
              have hr : mlN ((w.hosts.getD i default).boxes.getD k default) = ((w.hosts.getD i default).boxes.getD k default).mails.length := rfl
              simp -implicitDefEqProofs only [hlt2, decide_true, Int.toNat_natCast, go_sem, h45, c45, h52, c52, bOf_t, bOf_f, List.length_map, List.map_nil, List.map_cons, Nat.reduceAdd, Nat.reduceMul, Nat.reduceLeDiff, Nat.reduceEqDiff, reduceCtorEq, Nat.reduceSub, Int.reduceNeg, Nat.reduceMod, Nat.reduceBEq, Nat.reduceLT]
              repeat' (first | with_reducible apply And.intro | with_reducible intro _ | ((first | refine brB_split (fun hb => ?_) (fun hb => ?_) | refine aPickB_split (fun hb => ?_) (fun hb => ?_) | refine gB_split (fun hb => ?_) (fun hb => ?_) | refine adB_split (fun hb => ?_) (fun hb => ?_)) <;> simp -implicitDefEqProofs only [hb, go_sem, h45, c45, h52, c52, bOf_t, bOf_f, List.length_map, List.map_nil, List.map_cons, Nat.reduceAdd, Nat.reduceMul, Nat.reduceLeDiff, Nat.reduceEqDiff, reduceCtorEq, Nat.reduceSub, Int.reduceNeg, Nat.reduceMod, Nat.reduceBEq, Nat.reduceLT] <;> try simp only [qa, qb, qc, qd, qe, qf, qg, bOf_t, bOf_f] at hb))
              all_goals (try simp only [maxLen, Int.toNat_natCast] at *)
              all_goals first | rfl | omega | skip
              refine ⟨⟨(k + 1, vk + ((w.hosts.getD i default).boxes.getD k default).mails.length), by dsimp only; omega, by dsimp only; omega, by dsimp only; omega⟩, by dsimp only; omega, ?_⟩
              simp -implicitDefEqProofs only [go_sem, h45, c45, h52, c52, bOf_t, bOf_f, List.length_map, List.map_nil, List.map_cons, Nat.reduceAdd, Nat.reduceMul, Nat.reduceLeDiff, Nat.reduceEqDiff, reduceCtorEq, Nat.reduceSub, Int.reduceNeg, Nat.reduceMod, Nat.reduceBEq, Nat.reduceLT]
              simp
            · have hst := sum_end (f := mlN) (xs := (w.hosts.getD i default).boxes) (i := k) (by omega)
              simp -implicitDefEqProofs only [hlt2, decide_false, go_sem, h45, c45, h52, c52, bOf_t, bOf_f, List.length_map, List.map_nil, List.map_cons, Nat.reduceAdd, Nat.reduceMul, Nat.reduceLeDiff, Nat.reduceEqDiff, reduceCtorEq, Nat.reduceSub, Int.reduceNeg, Nat.reduceMod, Nat.reduceBEq, Nat.reduceLT]
              repeat' (first | with_reducible apply And.intro | with_reducible intro _ | ((first | refine brB_split (fun hb => ?_) (fun hb => ?_) | refine aPickB_split (fun hb => ?_) (fun hb => ?_) | refine gB_split (fun hb => ?_) (fun hb => ?_) | refine adB_split (fun hb => ?_) (fun hb => ?_)) <;> simp -implicitDefEqProofs only [hb, go_sem, h45, c45, h52, c52, bOf_t, bOf_f, List.length_map, List.map_nil, List.map_cons, Nat.reduceAdd, Nat.reduceMul, Nat.reduceLeDiff, Nat.reduceEqDiff, reduceCtorEq, Nat.reduceSub, Int.reduceNeg, Nat.reduceMod, Nat.reduceBEq, Nat.reduceLT] <;> try simp only [qa, qb, qc, qd, qe, qf, qg, bOf_t, bOf_f] at hb))
              all_goals first | rfl | omega | skip
              refine ⟨⟨(i + 1, va + (w.hosts.getD i default).spool.items.length, vb + SMany (w.hosts.getD i default).spool, vk, vd + (w.hosts.getD i default).lost.length), by dsimp only; omega, by dsimp only; omega, by dsimp only; omega, by dsimp only; omega, by dsimp only; omega⟩, by dsimp only; omega, ?_⟩
              simp -implicitDefEqProofs only [go_sem, h45, c45, h52, c52, bOf_t, bOf_f, List.length_map, List.map_nil, List.map_cons, Nat.reduceAdd, Nat.reduceMul, Nat.reduceLeDiff, Nat.reduceEqDiff, reduceCtorEq, Nat.reduceSub, Int.reduceNeg, Nat.reduceMod, Nat.reduceBEq, Nat.reduceLT]
              simp
        · have s1 := sum_end (f := itN) (xs := w.hosts) (i := i) (by omega)
          have s2 := sum_end (f := mnN) (xs := w.hosts) (i := i) (by omega)
          have s3 := sum_end (f := bxN) (xs := w.hosts) (i := i) (by omega)
          have s4 := sum_end (f := loN) (xs := w.hosts) (i := i) (by omega)
          have q1 : va = sumL itN w.hosts := by omega
          have q2 : vb = sumL mnN w.hosts := by omega
          have q3 : vc = sumL bxN w.hosts := by omega
          have q4 : vd = sumL loN w.hosts := by omega
          subst q1 q2 q3 q4
          simp -implicitDefEqProofs only [hlt, decide_false, go_sem, h45, c45, h52, c52, bOf_t, bOf_f, List.length_map, List.map_nil, List.map_cons, Nat.reduceAdd, Nat.reduceMul, Nat.reduceLeDiff, Nat.reduceEqDiff, reduceCtorEq, Nat.reduceSub, Int.reduceNeg, Nat.reduceMod, Nat.reduceBEq, Nat.reduceLT]
          repeat' (first | with_reducible apply And.intro | with_reducible intro _ | ((first | refine brB_split (fun hb => ?_) (fun hb => ?_) | refine aPickB_split (fun hb => ?_) (fun hb => ?_) | refine gB_split (fun hb => ?_) (fun hb => ?_) | refine adB_split (fun hb => ?_) (fun hb => ?_)) <;> simp -implicitDefEqProofs only [hb, go_sem, h45, c45, h52, c52, bOf_t, bOf_f, List.length_map, List.map_nil, List.map_cons, Nat.reduceAdd, Nat.reduceMul, Nat.reduceLeDiff, Nat.reduceEqDiff, reduceCtorEq, Nat.reduceSub, Int.reduceNeg, Nat.reduceMod, Nat.reduceBEq, Nat.reduceLT] <;> try simp only [qa, qb, qc, qd, qe, qf, qg, bOf_t, bOf_f] at hb))
          all_goals first | rfl | omega | trace_state
  · have b1 := bOf_n h
    rw [LMany_n h]
    simp -implicitDefEqProofs only [b1, go_sem, h45, c45, h52, c52, bOf_t, bOf_f, List.length_map, List.map_nil, List.map_cons, Nat.reduceAdd, Nat.reduceMul, Nat.reduceLeDiff, Nat.reduceEqDiff, reduceCtorEq, Nat.reduceSub, Int.reduceNeg, Nat.reduceMod, Nat.reduceBEq, Nat.reduceLT]
    repeat' (first | with_reducible apply And.intro | with_reducible intro _ | ((first | refine brB_split (fun hb => ?_) (fun hb => ?_) | refine aPickB_split (fun hb => ?_) (fun hb => ?_) | refine gB_split (fun hb => ?_) (fun hb => ?_) | refine adB_split (fun hb => ?_) (fun hb => ?_)) <;> simp -implicitDefEqProofs only [hb, go_sem, h45, c45, h52, c52, bOf_t, bOf_f, List.length_map, List.map_nil, List.map_cons, Nat.reduceAdd, Nat.reduceMul, Nat.reduceLeDiff, Nat.reduceEqDiff, reduceCtorEq, Nat.reduceSub, Int.reduceNeg, Nat.reduceMod, Nat.reduceBEq, Nat.reduceLT] <;> try simp only [qa, qb, qc, qd, qe, qf, qg, bOf_t, bOf_f] at hb))
    all_goals first | rfl | omega | assumption | contradiction | trace_state


def L4 (a b c d : Int) : List Int := [a, b, c, d]
section
variable {a b c d x : Int}
theorem L4_len : (L4 a b c d).length = 4 := rfl
theorem L4_g0 : (L4 a b c d).getD 0 default = a := rfl
theorem L4_g1 : (L4 a b c d).getD 1 default = b := rfl
theorem L4_g2 : (L4 a b c d).getD 2 default = c := rfl
theorem L4_g3 : (L4 a b c d).getD 3 default = d := rfl
theorem L4_s0 : (L4 a b c d).set 0 x = L4 x b c d := rfl
theorem L4_s1 : (L4 a b c d).set 1 x = L4 a x c d := rfl
theorem L4_s2 : (L4 a b c d).set 2 x = L4 a b x d := rfl
theorem L4_s3 : (L4 a b c d).set 3 x = L4 a b c x := rfl
theorem toN0 : Int.toNat 0 = 0 := rfl
theorem toN1 : Int.toNat 1 = 1 := rfl
theorem toN2 : Int.toNat 2 = 2 := rfl
theorem toN3 : Int.toNat 3 = 3 := rfl
end
def c17 : Ct := ctR (lc EWd.ag l0) (fun p => OkWd p.1) (fun p => .o true 1 ((LMany p.1).map encInt))
set_option maxHeartbeats 6400000 in
theorem good17 {G : Gt} (hG : OkG G) (h14 : G.e 14 = roEnt 0 c14) (h53 : G.e 53 = roEnt 0 c53) : Gd G 17 (roEnt 0 c17) := by
  refine gR (dp := fun _ => true) (fn := Tryz.f17) (n := 1) (fun _ => rfl) (by kernel_rfl) rfl (by kernel_rfl) hG (Nat.le_of_ble_eq_true rfl) (by kernel_rfl) (by decide) (fun _ _ => .deep _ _) ?_
  rintro ⟨w, ⟨⟩⟩ hpre
  simp -implicitDefEqProofs only [Tryz.f17, go_sem, h14, c14, h53, c53, bOf_t, bOf_f, List.length_map, List.map_nil, aCell_map, aSet_map, set_Int, L4_len, L4_g0, L4_g1, L4_g2, L4_g3, L4_s0, L4_s1, L4_s2, L4_s3, toN0, toN1, toN2, toN3, Nat.reduceAdd, Nat.reduceMul, Nat.reduceLeDiff, Nat.reduceEqDiff, reduceCtorEq, Nat.reduceSub, Int.reduceNeg, Nat.reduceMod, Nat.reduceBEq, Nat.reduceLT] at hpre ⊢

  have hok : OkWd w := hpre
  by_cases h : WdOk w
  · have b1 := bOf_y h
    obtain ⟨t1, t2, t3, t4⟩ := look_le h hok
    rw [LMany_y h]
    simp -implicitDefEqProofs only [b1, go_sem, h14, c14, h53, c53, bOf_t, bOf_f, List.length_map, List.map_nil, aCell_map, aSet_map, set_Int, L4_len, L4_g0, L4_g1, L4_g2, L4_g3, L4_s0, L4_s1, L4_s2, L4_s3, toN0, toN1, toN2, toN3, Nat.reduceAdd, Nat.reduceMul, Nat.reduceLeDiff, Nat.reduceEqDiff, reduceCtorEq, Nat.reduceSub, Int.reduceNeg, Nat.reduceMod, Nat.reduceBEq, Nat.reduceLT]
    repeat' (first | with_reducible apply And.intro | with_reducible intro _ | ((first | refine brB_split (fun hb => ?_) (fun hb => ?_) | refine aPickB_split (fun hb => ?_) (fun hb => ?_) | refine gB_split (fun hb => ?_) (fun hb => ?_) | refine adB_split (fun hb => ?_) (fun hb => ?_)) <;> simp -implicitDefEqProofs only [hb, go_sem, h14, c14, h53, c53, bOf_t, bOf_f, List.length_map, List.map_nil, aCell_map, aSet_map, set_Int, L4_len, L4_g0, L4_g1, L4_g2, L4_g3, L4_s0, L4_s1, L4_s2, L4_s3, toN0, toN1, toN2, toN3, Nat.reduceAdd, Nat.reduceMul, Nat.reduceLeDiff, Nat.reduceEqDiff, reduceCtorEq, Nat.reduceSub, Int.reduceNeg, Nat.reduceMod, Nat.reduceBEq, Nat.reduceLT] <;> try simp only [qa, qb, qc, qd, qe, qf, qg, bOf_t, bOf_f] at hb))
    all_goals first | rfl | omega | assumption | contradiction | skip
    all_goals
      refine run_loop [(3, 1903, true, 1)] (ι := {p : Nat × Int × Int × Int × Int // p.1 ≤ w.hosts.length ∧ (0 ≤ p.2.1 ∧ p.2.1 + sumL itN (w.hosts.drop p.1) = sumL itN w.hosts) ∧ (0 ≤ p.2.2.1 ∧ p.2.2.1 + sumL mnN (w.hosts.drop p.1) = sumL mnN w.hosts) ∧ (0 ≤ p.2.2.2.1 ∧ p.2.2.2.1 + sumL bxN (w.hosts.drop p.1) = sumL bxN w.hosts) ∧ (0 ≤ p.2.2.2.2 ∧ p.2.2.2.2 + sumL loN (w.hosts.drop p.1) = sumL loN w.hosts)}) (fun p => ⟨[(1, .pb 1001 0), (3, .h 1903), (13, .t (.sl 7 (w.hosts.map encHs))), (14, .t (.v (.int .i64 w.hosts.length))), (15, .t (.v (.int .i64 p.1.1)))], [(1001, some (.box ((encWd w).map .t))), (1903, some (.arr true 1 ((L4 p.1.2.1 p.1.2.2.1 p.1.2.2.2.1 p.1.2.2.2.2).map encInt)))]⟩) (fun p => w.hosts.length - p.1.1) ⟨(0, 0, 0, 0, 0), by simp, by simp, by simp, by simp, by simp⟩ rfl ?_ ?_
      · have hrep : List.replicate (Int.toNat 4) [T.v (Value.int IntKind.i64 0)] = (L4 0 0 0 0).map encInt := rfl
        simp -implicitDefEqProofs only [go_sem, h14, c14, h53, c53, bOf_t, bOf_f, List.length_map, List.map_nil, aCell_map, aSet_map, set_Int, L4_len, L4_g0, L4_g1, L4_g2, L4_g3, L4_s0, L4_s1, L4_s2, L4_s3, toN0, toN1, toN2, toN3, Nat.reduceAdd, Nat.reduceMul, Nat.reduceLeDiff, Nat.reduceEqDiff, reduceCtorEq, Nat.reduceSub, Int.reduceNeg, Nat.reduceMod, Nat.reduceBEq, Nat.reduceLT]
        simp [hrep]
        try rfl
      · rintro ⟨⟨i, va, vb, vc, vd⟩, hi, ⟨a0, a1⟩, ⟨b0, b2⟩, ⟨c0, c1⟩, ⟨d0, d1⟩⟩
        dsimp only at hi a0 a1 b0 b2 c0 c1 d0 d1 ⊢
        by_cases hlt : (i : Int) < w.hosts.length
        · skip
          have hm := getD_mem (xs := w.hosts) (j := i) (by omega)
          obtain ⟨f1, f2, f3, f4⟩ := host_le (h.1 _ hm) (hok.1.2 _ hm)
          have s1 := sum_step (f := itN) (xs := w.hosts) (i := i) (by omega)
          have s2 := sum_step (f := mnN) (xs := w.hosts) (i := i) (by omega)
          have s3 := sum_step (f := bxN) (xs := w.hosts) (i := i) (by omega)
          have s4 := sum_step (f := loN) (xs := w.hosts) (i := i) (by omega)
          have r1 := sum_drop (f := itN) (xs := w.hosts) (fun x hx => (host_le (h.1 x hx) (hok.1.2 x hx)).1.1) (i + 1)
          have r2 := sum_drop (f := mnN) (xs := w.hosts) (fun x hx => (host_le (h.1 x hx) (hok.1.2 x hx)).2.1.1) (i + 1)
          have r3 := sum_drop (f := bxN) (xs := w.hosts) (fun x hx => (host_le (h.1 x hx) (hok.1.2 x hx)).2.2.1.1) (i + 1)
          have r4 := sum_drop (f := loN) (xs := w.hosts) (fun x hx => (host_le (h.1 x hx) (hok.1.2 x hx)).2.2.2.1) (i + 1)
          have e1 : itN (w.hosts.getD i default) = (w.hosts.getD i default).spool.items.length := rfl
          have e2 : mnN (w.hosts.getD i default) = SMany (w.hosts.getD i default).spool := rfl
          have e3 : bxN (w.hosts.getD i default) = sumL mlN (w.hosts.getD i default).boxes := rfl
          have e4 : loN (w.hosts.getD i default) = (w.hosts.getD i default).lost.length := rfl
          have hz := (hok.1.2 _ hm).2.1
          simp -implicitDefEqProofs only [hlt, decide_true, Int.toNat_natCast, go_sem, h14, c14, h53, c53, bOf_t, bOf_f, List.length_map, List.map_nil, aCell_map, aSet_map, set_Int, L4_len, L4_g0, L4_g1, L4_g2, L4_g3, L4_s0, L4_s1, L4_s2, L4_s3, toN0, toN1, toN2, toN3, Nat.reduceAdd, Nat.reduceMul, Nat.reduceLeDiff, Nat.reduceEqDiff, reduceCtorEq, Nat.reduceSub, Int.reduceNeg, Nat.reduceMod, Nat.reduceBEq, Nat.reduceLT]
          repeat' (first | with_reducible apply And.intro | with_reducible intro _ | ((first | refine brB_split (fun hb => ?_) (fun hb => ?_) | refine aPickB_split (fun hb => ?_) (fun hb => ?_) | refine gB_split (fun hb => ?_) (fun hb => ?_) | refine adB_split (fun hb => ?_) (fun hb => ?_)) <;> simp -implicitDefEqProofs only [hb, go_sem, h14, c14, h53, c53, bOf_t, bOf_f, List.length_map, List.map_nil, aCell_map, aSet_map, set_Int, L4_len, L4_g0, L4_g1, L4_g2, L4_g3, L4_s0, L4_s1, L4_s2, L4_s3, toN0, toN1, toN2, toN3, Nat.reduceAdd, Nat.reduceMul, Nat.reduceLeDiff, Nat.reduceEqDiff, reduceCtorEq, Nat.reduceSub, Int.reduceNeg, Nat.reduceMod, Nat.reduceBEq, Nat.reduceLT] <;> try simp only [qa, qb, qc, qd, qe, qf, qg, bOf_t, bOf_f] at hb))
          all_goals (try simp only [maxLen, Int.toNat_natCast] at *)
          all_goals first | rfl | omega | assumption | decide | skip
          all_goals
            refine run_loop [] (ι := {p : Nat × Int // p.1 ≤ (w.hosts.getD i default).boxes.length ∧ vc ≤ p.2 ∧ p.2 + sumL mlN ((w.hosts.getD i default).boxes.drop p.1) = vc + sumL mlN (w.hosts.getD i default).boxes}) (fun p => ⟨[(1, .pb 1001 0), (3, .h 1903), (5, .pb 1005 0), (13, .t (.sl 7 (w.hosts.map encHs))), (14, .t (.v (.int .i64 w.hosts.length))), (15, .t (.v (.int .i64 i))), (37, .t (.sl 3 ((w.hosts.getD i default).boxes.map encBx))), (38, .t (.v (.int .i64 (w.hosts.getD i default).boxes.length))), (39, .t (.v (.int .i64 p.1.1)))], [(1001, some (.box ((encWd w).map .t))), (1005, some (.box ((encHs (w.hosts.getD i default)).map .t))), (1903, some (.arr true 1 ((L4 (va + (w.hosts.getD i default).spool.items.length) (vb + SMany (w.hosts.getD i default).spool) p.1.2 vd).map encInt)))]⟩) (fun p => (w.hosts.getD i default).boxes.length - p.1.1) ⟨(0, vc), by simp, by simp, by simp⟩ rfl ?_ ?_
            · simp -implicitDefEqProofs only [go_sem, h14, c14, h53, c53, bOf_t, bOf_f, List.length_map, List.map_nil, aCell_map, aSet_map, set_Int, L4_len, L4_g0, L4_g1, L4_g2, L4_g3, L4_s0, L4_s1, L4_s2, L4_s3, toN0, toN1, toN2, toN3, Nat.reduceAdd, Nat.reduceMul, Nat.reduceLeDiff, Nat.reduceEqDiff, reduceCtorEq, Nat.reduceSub, Int.reduceNeg, Nat.reduceMod, Nat.reduceBEq, Nat.reduceLT]
              simp
            · rintro ⟨⟨k, vk⟩, hk, k0, k1⟩
              dsimp only at hk k0 k1 ⊢
              by_cases hlt2 : (k : Int) < (w.hosts.getD i default).boxes.length
              · skip
                have hst := sum_step (f := mlN) (xs := (w.hosts.getD i default).boxes) (i := k) (by omega)
                have hrest := sum_drop (f := mlN) (xs := (w.hosts.getD i default).boxes) (fun x _ => by unfold mlN; omega) (k + 1)
                have hr : mlN ((w.hosts.getD i default).boxes.getD k default) = ((w.hosts.getD i default).boxes.getD k default).mails.length := rfl
                simp -implicitDefEqProofs only [hlt2, decide_true, Int.toNat_natCast, go_sem, h14, c14, h53, c53, bOf_t, bOf_f, List.length_map, List.map_nil, aCell_map, aSet_map, set_Int, L4_len, L4_g0, L4_g1, L4_g2, L4_g3, L4_s0, L4_s1, L4_s2, L4_s3, toN0, toN1, toN2, toN3, Nat.reduceAdd, Nat.reduceMul, Nat.reduceLeDiff, Nat.reduceEqDiff, reduceCtorEq, Nat.reduceSub, Int.reduceNeg, Nat.reduceMod, Nat.reduceBEq, Nat.reduceLT]
                repeat' (first | with_reducible apply And.intro | with_reducible intro _ | ((first | refine brB_split (fun hb => ?_) (fun hb => ?_) | refine aPickB_split (fun hb => ?_) (fun hb => ?_) | refine gB_split (fun hb => ?_) (fun hb => ?_) | refine adB_split (fun hb => ?_) (fun hb => ?_)) <;> simp -implicitDefEqProofs only [hb, go_sem, h14, c14, h53, c53, bOf_t, bOf_f, List.length_map, List.map_nil, aCell_map, aSet_map, set_Int, L4_len, L4_g0, L4_g1, L4_g2, L4_g3, L4_s0, L4_s1, L4_s2, L4_s3, toN0, toN1, toN2, toN3, Nat.reduceAdd, Nat.reduceMul, Nat.reduceLeDiff, Nat.reduceEqDiff, reduceCtorEq, Nat.reduceSub, Int.reduceNeg, Nat.reduceMod, Nat.reduceBEq, Nat.reduceLT] <;> try simp only [qa, qb, qc, qd, qe, qf, qg, bOf_t, bOf_f] at hb))
                all_goals (try simp only [maxLen, Int.toNat_natCast] at *)
                all_goals first | rfl | omega | decide | skip
                refine ⟨⟨(k + 1, vk + ((w.hosts.getD i default).boxes.getD k default).mails.length), by dsimp only; omega, by dsimp only; omega, by dsimp only; omega⟩, by dsimp only; omega, ?_⟩
                simp -implicitDefEqProofs only [go_sem, h14, c14, h53, c53, bOf_t, bOf_f, List.length_map, List.map_nil, aCell_map, aSet_map, set_Int, L4_len, L4_g0, L4_g1, L4_g2, L4_g3, L4_s0, L4_s1, L4_s2, L4_s3, toN0, toN1, toN2, toN3, Nat.reduceAdd, Nat.reduceMul, Nat.reduceLeDiff, Nat.reduceEqDiff, reduceCtorEq, Nat.reduceSub, Int.reduceNeg, Nat.reduceMod, Nat.reduceBEq, Nat.reduceLT]
                simp
              · have hst := sum_end (f := mlN) (xs := (w.hosts.getD i default).boxes) (i := k) (by omega)
                simp -implicitDefEqProofs only [hlt2, decide_false, go_sem, h14, c14, h53, c53, bOf_t, bOf_f, List.length_map, List.map_nil, aCell_map, aSet_map, set_Int, L4_len, L4_g0, L4_g1, L4_g2, L4_g3, L4_s0, L4_s1, L4_s2, L4_s3, toN0, toN1, toN2, toN3, Nat.reduceAdd, Nat.reduceMul, Nat.reduceLeDiff, Nat.reduceEqDiff, reduceCtorEq, Nat.reduceSub, Int.reduceNeg, Nat.reduceMod, Nat.reduceBEq, Nat.reduceLT]
                repeat' (first | with_reducible apply And.intro | with_reducible intro _ | ((first | refine brB_split (fun hb => ?_) (fun hb => ?_) | refine aPickB_split (fun hb => ?_) (fun hb => ?_) | refine gB_split (fun hb => ?_) (fun hb => ?_) | refine adB_split (fun hb => ?_) (fun hb => ?_)) <;> simp -implicitDefEqProofs only [hb, go_sem, h14, c14, h53, c53, bOf_t, bOf_f, List.length_map, List.map_nil, aCell_map, aSet_map, set_Int, L4_len, L4_g0, L4_g1, L4_g2, L4_g3, L4_s0, L4_s1, L4_s2, L4_s3, toN0, toN1, toN2, toN3, Nat.reduceAdd, Nat.reduceMul, Nat.reduceLeDiff, Nat.reduceEqDiff, reduceCtorEq, Nat.reduceSub, Int.reduceNeg, Nat.reduceMod, Nat.reduceBEq, Nat.reduceLT] <;> try simp only [qa, qb, qc, qd, qe, qf, qg, bOf_t, bOf_f] at hb))
                all_goals (try simp only [maxLen, Int.toNat_natCast] at *)
                all_goals first | rfl | omega | decide | skip
                refine ⟨⟨(i + 1, va + (w.hosts.getD i default).spool.items.length, vb + SMany (w.hosts.getD i default).spool, vk, vd + (w.hosts.getD i default).lost.length), by dsimp only; omega, by dsimp only; omega, by dsimp only; omega, by dsimp only; omega, by dsimp only; omega⟩, by dsimp only; omega, ?_⟩
                simp -implicitDefEqProofs only [go_sem, h14, c14, h53, c53, bOf_t, bOf_f, List.length_map, List.map_nil, aCell_map, aSet_map, set_Int, L4_len, L4_g0, L4_g1, L4_g2, L4_g3, L4_s0, L4_s1, L4_s2, L4_s3, toN0, toN1, toN2, toN3, Nat.reduceAdd, Nat.reduceMul, Nat.reduceLeDiff, Nat.reduceEqDiff, reduceCtorEq, Nat.reduceSub, Int.reduceNeg, Nat.reduceMod, Nat.reduceBEq, Nat.reduceLT]
                simp
        · have s1 := sum_end (f := itN) (xs := w.hosts) (i := i) (by omega)
          have s2 := sum_end (f := mnN) (xs := w.hosts) (i := i) (by omega)
          have s3 := sum_end (f := bxN) (xs := w.hosts) (i := i) (by omega)
          have s4 := sum_end (f := loN) (xs := w.hosts) (i := i) (by omega)
          have q1 : va = sumL itN w.hosts := by omega
          have q2 : vb = sumL mnN w.hosts := by omega
          have q3 : vc = sumL bxN w.hosts := by omega
          have q4 : vd = sumL loN w.hosts := by omega
          subst q1 q2 q3 q4
          simp -implicitDefEqProofs only [hlt, decide_false, go_sem, h14, c14, h53, c53, bOf_t, bOf_f, List.length_map, List.map_nil, aCell_map, aSet_map, set_Int, L4_len, L4_g0, L4_g1, L4_g2, L4_g3, L4_s0, L4_s1, L4_s2, L4_s3, toN0, toN1, toN2, toN3, Nat.reduceAdd, Nat.reduceMul, Nat.reduceLeDiff, Nat.reduceEqDiff, reduceCtorEq, Nat.reduceSub, Int.reduceNeg, Nat.reduceMod, Nat.reduceBEq, Nat.reduceLT]
          repeat' (first | with_reducible apply And.intro | with_reducible intro _ | ((first | refine brB_split (fun hb => ?_) (fun hb => ?_) | refine aPickB_split (fun hb => ?_) (fun hb => ?_) | refine gB_split (fun hb => ?_) (fun hb => ?_) | refine adB_split (fun hb => ?_) (fun hb => ?_)) <;> simp -implicitDefEqProofs only [hb, go_sem, h14, c14, h53, c53, bOf_t, bOf_f, List.length_map, List.map_nil, aCell_map, aSet_map, set_Int, L4_len, L4_g0, L4_g1, L4_g2, L4_g3, L4_s0, L4_s1, L4_s2, L4_s3, toN0, toN1, toN2, toN3, Nat.reduceAdd, Nat.reduceMul, Nat.reduceLeDiff, Nat.reduceEqDiff, reduceCtorEq, Nat.reduceSub, Int.reduceNeg, Nat.reduceMod, Nat.reduceBEq, Nat.reduceLT] <;> try simp only [qa, qb, qc, qd, qe, qf, qg, bOf_t, bOf_f] at hb))
          all_goals first | rfl | omega | trace_state
  · have b1 := bOf_n h
    rw [LMany_n h]
    simp -implicitDefEqProofs only [b1, go_sem, h14, c14, h53, c53, bOf_t, bOf_f, List.length_map, List.map_nil, aCell_map, aSet_map, set_Int, L4_len, L4_g0, L4_g1, L4_g2, L4_g3, L4_s0, L4_s1, L4_s2, L4_s3, toN0, toN1, toN2, toN3, Nat.reduceAdd, Nat.reduceMul, Nat.reduceLeDiff, Nat.reduceEqDiff, reduceCtorEq, Nat.reduceSub, Int.reduceNeg, Nat.reduceMod, Nat.reduceBEq, Nat.reduceLT]
    repeat' (first | with_reducible apply And.intro | with_reducible intro _ | ((first | refine brB_split (fun hb => ?_) (fun hb => ?_) | refine aPickB_split (fun hb => ?_) (fun hb => ?_) | refine gB_split (fun hb => ?_) (fun hb => ?_) | refine adB_split (fun hb => ?_) (fun hb => ?_)) <;> simp -implicitDefEqProofs only [hb, go_sem, h14, c14, h53, c53, bOf_t, bOf_f, List.length_map, List.map_nil, aCell_map, aSet_map, set_Int, L4_len, L4_g0, L4_g1, L4_g2, L4_g3, L4_s0, L4_s1, L4_s2, L4_s3, toN0, toN1, toN2, toN3, Nat.reduceAdd, Nat.reduceMul, Nat.reduceLeDiff, Nat.reduceEqDiff, reduceCtorEq, Nat.reduceSub, Int.reduceNeg, Nat.reduceMod, Nat.reduceBEq, Nat.reduceLT] <;> try simp only [qa, qb, qc, qd, qe, qf, qg, bOf_t, bOf_f] at hb))
    all_goals first | rfl | omega | assumption | contradiction | trace_state


/-- What is counted is no more than what is spent, but for so many. -/
def fewB {α : Type} (f : α → Int → Int) (e : α → Int → Int) (c : Int) : Prop := ∀ a l k, 0 ≤ f a l → e a k ≤ k + c + 100 * (l - f a l)
theorem bStr : fewB szStr eStr 1 := fun a l k h => by unfold szStr eStr; omega
theorem bInt_list (xs : List Int) (k : Int) : eS eInt k xs = k + xs.length := by
  induction xs generalizing k with
  | nil => simp [eS]
  | cons x r ih => simp only [eS, ih, eInt, List.length_cons]; omega
theorem bF {α : Type} {f e : α → Int → Int} {c : Int} (hb : fewB f e c) : ∀ (xs : List α) (l k : Int), 0 ≤ szF f l xs → eS e k xs ≤ k + c * xs.length + 100 * (l - szF f l xs)
  | [], l, k, _ => by simp [eS, szF]
  | x :: r, l, k, h => by
    rw [szF] at h ⊢
    by_cases h1 : f x l < 0
    · rw [if_pos h1] at h; omega
    · rw [if_neg h1] at h ⊢
      have q1 := hb x l k (by omega)
      have q2 := bF hb r (f x l) (e x k) h
      have e1 : c * ((r.length + 1 : Nat) : Int) = c * r.length + c := by rw [Int.natCast_add, Int.mul_add]; simp
      simp only [eS, List.length_cons]
      omega
theorem bL {α : Type} {f e : α → Int → Int} {c : Int} (hb : fewB f e c) (hc : c ≤ 100) (xs : List α) (l k : Int) (h : 0 ≤ szL f xs l) : eS e k xs ≤ k + 100 * (l - szL f xs l) := by
  unfold szL at h ⊢
  by_cases h1 : l - xs.length < 0
  · rw [if_pos h1] at h; omega
  · rw [if_neg h1] at h ⊢
    have q := bF hb xs (l - xs.length) k h
    have q2 : c * (xs.length : Int) ≤ 100 * xs.length := Int.mul_le_mul_of_nonneg_right hc (by omega)
    omega
def uAd (a : Ad) (k : Int) : Int := ((k + 1) + 1)
theorem uAd_b : fewB szAd uAd 2 := fun a l k h => by
  by_cases z0 : (l - a.user.size) < 0
  · unfold szAd at h; rw [if_pos z0] at h; omega
  · skip
    by_cases z1 : ((l - a.user.size) - a.domain.size) < 0
    · unfold szAd at h; rw [if_neg z0, if_pos z1] at h; omega
    · skip
      have hs : szAd a l = ((l - a.user.size) - a.domain.size) := by unfold szAd; rw [if_neg z0, if_neg z1]
      rw [hs]
      unfold uAd
      omega
def uRc (a : Rc) (k : Int) : Int := (((uAd a.addr k) + 1) + 1)
theorem uRc_b : fewB szRc uRc 4 := fun a l k h => by
  by_cases z0 : (szAd a.addr l) < 0
  · unfold szRc at h; rw [if_pos z0] at h; omega
  · skip
    have hs : szRc a l = (szAd a.addr l) := by unfold szRc; rw [if_neg z0]
    rw [hs]
    have b0 := uAd_b a.addr l k (by omega)
    unfold uRc
    omega
def uIm (a : Im) (k : Int) : Int := (eS eStr (eS uRc (uAd a.frm (k + 1)) a.to) a.body)
theorem uIm_b : fewB szIm uIm 3 := fun a l k h => by
  by_cases z0 : (szAd a.frm l) < 0
  · unfold szIm at h; rw [if_pos z0] at h; omega
  · skip
    by_cases z1 : (szL szRc a.to (szAd a.frm l)) < 0
    · unfold szIm at h; rw [if_neg z0, if_pos z1] at h; omega
    · skip
      by_cases z2 : (szL szStr a.body (szL szRc a.to (szAd a.frm l))) < 0
      · unfold szIm at h; rw [if_neg z0, if_neg z1, if_pos z2] at h; omega
      · skip
        have hs : szIm a l = (szL szStr a.body (szL szRc a.to (szAd a.frm l))) := by unfold szIm; rw [if_neg z0, if_neg z1, if_neg z2]
        rw [hs]
        have b0 := uAd_b a.frm l (k + 1) (by omega)
        have b1 := bL uRc_b (by decide) a.to (szAd a.frm l) (uAd a.frm (k + 1)) (by omega)
        have b2 := bL bStr (by decide) a.body (szL szRc a.to (szAd a.frm l)) (eS uRc (uAd a.frm (k + 1)) a.to) (by omega)
        unfold uIm
        omega
def uSp (a : Sp) (k : Int) : Int := (eS uIm (k + 1) a.items)
theorem uSp_b : fewB szSp uSp 1 := fun a l k h => by
  by_cases z0 : (szL szIm a.items l) < 0
  · unfold szSp at h; rw [if_pos z0] at h; omega
  · skip
    have hs : szSp a l = (szL szIm a.items l) := by unfold szSp; rw [if_neg z0]
    rw [hs]
    have b0 := bL uIm_b (by decide) a.items l (k + 1) (by omega)
    unfold uSp
    omega
def uWy (a : Wy) (k : Int) : Int := ((k + 1) + 1)
theorem uWy_b : fewB szWy uWy 2 := fun a l k h => by
  by_cases z0 : (l - a.ends.size) < 0
  · unfold szWy at h; rw [if_pos z0] at h; omega
  · skip
    by_cases z1 : ((l - a.ends.size) - a.to.size) < 0
    · unfold szWy at h; rw [if_neg z0, if_pos z1] at h; omega
    · skip
      have hs : szWy a l = ((l - a.ends.size) - a.to.size) := by unfold szWy; rw [if_neg z0, if_neg z1]
      rw [hs]
      unfold uWy
      omega
def uCf (a : Cf) (k : Int) : Int := (eS uWy (eS eStr (k + 1) a.own) a.ways)
theorem uCf_b : fewB szCf uCf 1 := fun a l k h => by
  by_cases z0 : (l - a.name.size) < 0
  · unfold szCf at h; rw [if_pos z0] at h; omega
  · skip
    by_cases z1 : (szL szStr a.own (l - a.name.size)) < 0
    · unfold szCf at h; rw [if_neg z0, if_pos z1] at h; omega
    · skip
      by_cases z2 : (szL szWy a.ways (szL szStr a.own (l - a.name.size))) < 0
      · unfold szCf at h; rw [if_neg z0, if_neg z1, if_pos z2] at h; omega
      · skip
        have hs : szCf a l = (szL szWy a.ways (szL szStr a.own (l - a.name.size))) := by unfold szCf; rw [if_neg z0, if_neg z1, if_neg z2]
        rw [hs]
        have b0 := bL bStr (by decide) a.own (l - a.name.size) (k + 1) (by omega)
        have b1 := bL uWy_b (by decide) a.ways (szL szStr a.own (l - a.name.size)) (eS eStr (k + 1) a.own) (by omega)
        unfold uCf
        omega
def uGm (a : Gm) (k : Int) : Int := (eS eStr (uAd a.frm k) a.body)
theorem uGm_b : fewB szGm uGm 2 := fun a l k h => by
  by_cases z0 : (szAd a.frm l) < 0
  · unfold szGm at h; rw [if_pos z0] at h; omega
  · skip
    by_cases z1 : (szL szStr a.body (szAd a.frm l)) < 0
    · unfold szGm at h; rw [if_neg z0, if_pos z1] at h; omega
    · skip
      have hs : szGm a l = (szL szStr a.body (szAd a.frm l)) := by unfold szGm; rw [if_neg z0, if_neg z1]
      rw [hs]
      have b0 := uAd_b a.frm l k (by omega)
      have b1 := bL bStr (by decide) a.body (szAd a.frm l) (uAd a.frm k) (by omega)
      unfold uGm
      omega
def uBx (a : Bx) (k : Int) : Int := (eS uGm (uAd a.addr k) a.mails)
theorem uBx_b : fewB szBx uBx 2 := fun a l k h => by
  by_cases z0 : (szAd a.addr l) < 0
  · unfold szBx at h; rw [if_pos z0] at h; omega
  · skip
    by_cases z1 : (szL szGm a.mails (szAd a.addr l)) < 0
    · unfold szBx at h; rw [if_neg z0, if_pos z1] at h; omega
    · skip
      have hs : szBx a l = (szL szGm a.mails (szAd a.addr l)) := by unfold szBx; rw [if_neg z0, if_neg z1]
      rw [hs]
      have b0 := uAd_b a.addr l k (by omega)
      have b1 := bL uGm_b (by decide) a.mails (szAd a.addr l) (uAd a.addr k) (by omega)
      unfold uBx
      omega
def uLs (a : Ls) (k : Int) : Int := (uAd a.addr (k + 1))
theorem uLs_b : fewB szLs uLs 3 := fun a l k h => by
  by_cases z0 : (l - a.mark.size) < 0
  · unfold szLs at h; rw [if_pos z0] at h; omega
  · skip
    by_cases z1 : (szAd a.addr (l - a.mark.size)) < 0
    · unfold szLs at h; rw [if_neg z0, if_pos z1] at h; omega
    · skip
      have hs : szLs a l = (szAd a.addr (l - a.mark.size)) := by unfold szLs; rw [if_neg z0, if_neg z1]
      rw [hs]
      have b0 := uAd_b a.addr (l - a.mark.size) (k + 1) (by omega)
      unfold uLs
      omega
def uHs (a : Hs) (k : Int) : Int := (eS uLs (eS uBx (uSp a.spool (uCf a.conf k)) a.boxes) a.lost)
theorem uHs_b : fewB szHs uHs 2 := fun a l k h => by
  by_cases z0 : (szCf a.conf l) < 0
  · unfold szHs at h; rw [if_pos z0] at h; omega
  · skip
    by_cases z1 : (szSp a.spool (szCf a.conf l)) < 0
    · unfold szHs at h; rw [if_neg z0, if_pos z1] at h; omega
    · skip
      by_cases z2 : (szL szBx a.boxes (szSp a.spool (szCf a.conf l))) < 0
      · unfold szHs at h; rw [if_neg z0, if_neg z1, if_pos z2] at h; omega
      · skip
        by_cases z3 : (szL szLs a.lost (szL szBx a.boxes (szSp a.spool (szCf a.conf l)))) < 0
        · unfold szHs at h; rw [if_neg z0, if_neg z1, if_neg z2, if_pos z3] at h; omega
        · skip
          have hs : szHs a l = (szL szLs a.lost (szL szBx a.boxes (szSp a.spool (szCf a.conf l)))) := by unfold szHs; rw [if_neg z0, if_neg z1, if_neg z2, if_neg z3]
          rw [hs]
          have b0 := uCf_b a.conf l k (by omega)
          have b1 := uSp_b a.spool (szCf a.conf l) (uCf a.conf k) (by omega)
          have b2 := bL uBx_b (by decide) a.boxes (szSp a.spool (szCf a.conf l)) (uSp a.spool (uCf a.conf k)) (by omega)
          have b3 := bL uLs_b (by decide) a.lost (szL szBx a.boxes (szSp a.spool (szCf a.conf l))) (eS uBx (uSp a.spool (uCf a.conf k)) a.boxes) (by omega)
          unfold uHs
          omega
theorem fWd_few (a : Wd) (l k : Int) (h : 0 ≤ szWd a l) : fWd a k ≤ k + 100 * (l - szWd a l) := by
  by_cases z0 : (szL szHs a.hosts l) < 0
  · unfold szWd at h; rw [if_pos z0] at h; omega
  · skip
    by_cases z1 : (szL szLs a.given (szL szHs a.hosts l)) < 0
    · unfold szWd at h; rw [if_neg z0, if_pos z1] at h; omega
    · skip
      have hs : szWd a l = (szL szLs a.given (szL szHs a.hosts l)) := by unfold szWd; rw [if_neg z0, if_neg z1]
      rw [hs]
      have b0 := bL uHs_b (by decide) a.hosts l k (by omega)
      have b1 := bL uLs_b (by decide) a.given (szL szHs a.hosts l) (eS uHs k a.hosts) (by omega)
      show (eS uLs (eS uHs k a.hosts) a.given) ≤ _
      omega
def c5 : Ct := ctR (lc EWd.ag l0) (fun p => True) (fun p => .t (.v (.bool true)))
set_option maxHeartbeats 4000000 in
theorem good5 {G : Gt} (hG : OkG G) (h11 : G.e 11 = roEnt 0 c11) (h13 : G.e 13 = roEnt 0 c13) (h15 : G.e 15 = roEnt 0 c15) (h16 : G.e 16 = roEnt 0 c16) (h17 : G.e 17 = roEnt 0 c17) (h19 : G.e 19 = muEnt c19) (h18 : G.e 18 = roEnt 0 c18) (h20 : G.e 20 = muEnt c20) (h21 : G.e 21 = roEnt 0 c21) : Gd G 5 (roEnt 0 c5) := by
  refine gR (dp := fun _ => true) (fn := Tryz.f5) (n := 1) (fun _ => rfl) (by kernel_rfl) rfl (by kernel_rfl) hG (Nat.le_of_ble_eq_true rfl) (by kernel_rfl) (by decide) (fun _ _ => .v _) ?_
  rintro ⟨w, ⟨⟩⟩ hpre


  by_cases h0s : szWd w 1048576 < 0
  · have d0s := decide_eq_true h0s
    simp -implicitDefEqProofs only [Tryz.f5, d0s, go_sem, h11, c11, h13, c13, h15, c15, h16, c16, h17, c17, h19, c19, h18, c18, h20, c20, h21, c21, Bool.not_true, Bool.not_false, nWd, Nat.reduceAdd, Nat.reduceMul, Nat.reduceLeDiff, Nat.reduceEqDiff, reduceCtorEq, Nat.reduceSub, Int.reduceNeg, Nat.reduceMod, Nat.reduceBEq, Nat.reduceLT]
    repeat' (first | with_reducible apply And.intro | with_reducible intro _ | ((first | refine brB_split (fun hb => ?_) (fun hb => ?_) | refine aPickB_split (fun hb => ?_) (fun hb => ?_) | refine gB_split (fun hb => ?_) (fun hb => ?_) | refine adB_split (fun hb => ?_) (fun hb => ?_)) <;> simp -implicitDefEqProofs only [hb, go_sem, h11, c11, h13, c13, h15, c15, h16, c16, h17, c17, h19, c19, h18, c18, h20, c20, h21, c21, Bool.not_true, Bool.not_false, nWd, Nat.reduceAdd, Nat.reduceMul, Nat.reduceLeDiff, Nat.reduceEqDiff, reduceCtorEq, Nat.reduceSub, Int.reduceNeg, Nat.reduceMod, Nat.reduceBEq, Nat.reduceLT] <;> try simp only [qa, qb, qc, qd, qe, qf, qg, bOf_t, bOf_f] at hb))
    all_goals first | rfl | omega | skip
  · have d0s := decide_eq_false h0s
    have ho0 : OkWd w := szWd_ok w (1048576) (by omega) (by omega) (by omega)
    have hz0 := szWd_le w (1048576)
    have hb0 := fWd_few w 1048576 1 (by omega)
    have hn0 : 1 ≤ fWd w 1 := fWd_inc w 1
    obtain ⟨r, hr⟩ : ∃ x, x = LMany w := ⟨_, rfl⟩
    have hr' := hr.symm
    have hlen : (r.length : Int) ≤ 4 := by rw [hr]; unfold LMany; split <;> simp
    have hb1 := bInt_list r 1
    have hm : hS mInt eInt (mkS mInt eInt 1 r) 1 = eS eInt 1 r := hS_mk mInt_idem r 1
    have hi : eS eInt 1 (mkS mInt eInt 1 r) = eS eInt 1 r := eS_idem mInt_idem r 1
    simp -implicitDefEqProofs only [Tryz.f5, d0s, go_sem, hr', hm, hi, h11, c11, h13, c13, h15, c15, h16, c16, h17, c17, h19, c19, h18, c18, h20, c20, h21, c21, Bool.not_true, Bool.not_false, nWd, Nat.reduceAdd, Nat.reduceMul, Nat.reduceLeDiff, Nat.reduceEqDiff, reduceCtorEq, Nat.reduceSub, Int.reduceNeg, Nat.reduceMod, Nat.reduceBEq, Nat.reduceLT]
    repeat' (first | with_reducible apply And.intro | with_reducible intro _ | ((first | refine brB_split (fun hb => ?_) (fun hb => ?_) | refine aPickB_split (fun hb => ?_) (fun hb => ?_) | refine gB_split (fun hb => ?_) (fun hb => ?_) | refine adB_split (fun hb => ?_) (fun hb => ?_)) <;> simp -implicitDefEqProofs only [hb, go_sem, hr', hm, hi, h11, c11, h13, c13, h15, c15, h16, c16, h17, c17, h19, c19, h18, c18, h20, c20, h21, c21, Bool.not_true, Bool.not_false, nWd, Nat.reduceAdd, Nat.reduceMul, Nat.reduceLeDiff, Nat.reduceEqDiff, reduceCtorEq, Nat.reduceSub, Int.reduceNeg, Nat.reduceMod, Nat.reduceBEq, Nat.reduceLT] <;> try simp only [qa, qb, qc, qd, qe, qf, qg, bOf_t, bOf_f] at hb))
    all_goals first | rfl | omega | with_reducible assumption | exact absurd rfl (by assumption) | (simp at *; done) | trace_state

end Go.V
namespace Go.V
open Go Go.Proofs Go.ChangeShapes Go.WideShapes Go.ChangeAt Go.RowKit
set_option maxRecDepth 100000
section
variable {H : Type} {enc : TypeId × Value → H} {W : World} {P : Program}

/-- Every block of it. -/
def pW (W : World) : Nat → Prop := fun b => b < W.heap.size
/-- Whatever is read at this type reads as such cells. -/
def Rd (P : Program) (W : World) (enc : TypeId × Value → H) (t : TypeId) (q : List T → Prop) : Prop :=
  ∀ (n : Nat) (cs : List Value) (x : DataW H × List MemPlace), DataW.trod enc P W 0 (fun _ => true) true n t cs = some x → ∃ ts, q ts ∧ RoL W (pW W) ts cs

theorem Rd.str {t : TypeId} (u : P.underlying t = some .string) : Rd P W enc t fun ts => ∃ s, ts = [.v (.string s)] := fun n cs x h => by
  obtain ⟨s, rfl, _, hs⟩ := DataW.trod_string u h
  exact ⟨_, ⟨s, rfl⟩, .cons _ _ _ _ (.v _ hs) .nil⟩
theorem Rd.int {t : TypeId} (u : P.underlying t = some (.int .i64)) : Rd P W enc t fun ts => ∃ k, ts = [.v (.int .i64 k)] := fun n cs x h => by
  obtain ⟨k, rfl, _, hs⟩ := DataW.trod_int u h
  exact ⟨_, ⟨k, rfl⟩, .cons _ _ _ _ (.v _ trivial) .nil⟩
/-- A field of a struct. -/
theorem fieldAt {fs : Array Field} {l : List (TypeId × Nat)} (hl : (fs.toList.map fun f => (f.type, f.offset)) = l) {i : Nat} {t : TypeId} {o : Nat} (hi : l[i]? = some (t, o)) : ∃ f, fs[i]? = some f ∧ f.type = t ∧ f.offset = o := by
  rw [← hl, List.getElem?_map] at hi
  cases hf : fs.toList[i]? with
  | none => rw [hf] at hi; cases hi
  | some f =>
    rw [hf] at hi
    simp only [Option.map_some, Option.some.injEq, Prod.mk.injEq] at hi
    exact ⟨f, by rw [← Array.getElem?_toList]; exact hf, hi.1, hi.2⟩
theorem Rd.field {t : TypeId} {fs : Array Field} (u : P.underlying t = some (.struct fs)) {n : Nat} {cs : List Value} {x : DataW H × List MemPlace} (h : DataW.trod enc P W 0 (fun _ => true) true n t cs = some x)
    {l : List (TypeId × Nat)} (hl : (fs.toList.map fun f => (f.type, f.offset)) = l) {i : Nat} {ft : TypeId} {o k : Nat} (hi : l[i]? = some (ft, o)) (hk : P.cellsOf ft = k) {q : List T → Prop} (hr : Rd P W enc ft q) :
    ∃ ts, q ts ∧ RoL W (pW W) ts ((cs.drop o).take k) := by
  obtain ⟨xs, m, rfl, _, _, hxs, hf⟩ := DataW.trod_struct u h
  obtain ⟨f, h1, h2, h3⟩ := fieldAt hl hi
  have h4 := hf i f h1
  rw [h2, h3, hk] at h4
  have hlt : i < xs.length := by
    rw [hxs]
    exact (Array.getElem?_eq_some_iff.1 h1).1
  rw [List.getElem?_eq_getElem hlt] at h4
  exact hr _ _ _ h4
theorem Rd.len {t : TypeId} {fs : Array Field} (u : P.underlying t = some (.struct fs)) {n : Nat} {cs : List Value} {x : DataW H × List MemPlace} (h : DataW.trod enc P W 0 (fun _ => true) true n t cs = some x) : cs.length = P.cellsOf t := by
  obtain ⟨xs, m, rfl, _, h3, _, _⟩ := DataW.trod_struct u h
  exact h3
theorem Rd.slice {α : Type} (E : Enc α) {t e : TypeId} (u : P.underlying t = some (.slice e)) (hn : P.cellsOf e = E.n) (h0 : 0 < E.n) (he : Rd P W enc e fun ts => ∃ a, ts = E.enc a) :
    Rd P W enc t fun ts => ∃ xs : List α, ts = [.sl E.n (xs.map E.enc)] := fun n cs x h => by
  rcases DataW.trod_slice u h with ⟨rfl, _⟩ | ⟨a, len, cap, elems, rest, m, rfl, rfl, _, _, hlc, hcm, hel, hes, _⟩
  · exact ⟨_, ⟨[], rfl⟩, .cons _ _ _ _ (.nil _) .nil⟩
  · rw [hn] at hes
    have key : ∀ k, k ≤ len → ∃ (xs : List α) (vs : List Value), xs.length = k ∧ vs.length = k * E.n ∧ RoL W (pW W) (xs.map E.enc).flatten vs ∧ (0 < k → a.block < W.heap.size) ∧ ∀ j v, vs[j]? = some v → W.cell? (a.add j) = some v := fun k => by
      induction k with
      | zero => exact fun _ => ⟨[], [], rfl, by simp, .nil, fun h => absurd h (Nat.lt_irrefl _), fun j v hj => by simp at hj⟩
      | succ k ih =>
        intro hk
        obtain ⟨xs, vs, h1, h2, h3, h4, h5⟩ := ih (by omega)
        have h6 := hes k (by omega)
        rw [List.getElem?_eq_getElem (by omega)] at h6
        obtain ⟨cs, h7, h8⟩ := Option.bind_eq_some_iff.1 h6
        obtain ⟨ts, ⟨y, rfl⟩, h9⟩ := he _ _ _ h8
        obtain ⟨q1, q2, q3⟩ := World.cells?_some h7
        have hb : a.block < W.heap.size := by
          have := World.cells?_block h7 h0
          rwa [block_add] at this
        refine ⟨xs ++ [y], vs ++ cs, by simp [h1], ?_, ?_, fun _ => hb, fun j v hj => ?_⟩
        · have : cs.length = E.n := by rw [← h9.len, E.len]
          rw [List.length_append, h2, this, Nat.succ_mul]
        · rw [List.map_append, List.flatten_append]
          exact h3.append (by simpa using h9)
        · by_cases hj2 : j < vs.length
          · rw [List.getElem?_append_left hj2] at hj
            exact h5 j v hj
          · rw [List.getElem?_append_right (by omega)] at hj
            have hjl : j - vs.length < E.n := by
              have := (List.getElem?_eq_some_iff.1 hj).1
              have h10 : cs.length = E.n := by rw [← h9.len, E.len]
              omega
            have := q3 (j - vs.length) hjl
            rw [add_add'] at this
            rw [show j = k * E.n + (j - vs.length) from by omega, this]
            exact hj
    obtain ⟨xs, vs, h1, h2, h3, h4, h5⟩ := key len (Nat.le_refl _)
    refine ⟨_, ⟨xs, rfl⟩, .cons _ _ _ _ (.sl E.n _ a len cap vs (by simp [h1]) hlc hcm (fun hne => ?_) (fun c hc => ?_) h5 h3) .nil⟩
    · refine h4 ?_
      rcases Nat.eq_zero_or_pos len with h | h
      · exact absurd (by rw [List.eq_nil_of_length_eq_zero (h1.trans h)]; rfl) hne
      · exact h
    · obtain ⟨y, _, rfl⟩ := List.mem_map.1 hc
      exact E.len y
/-- A list of cells, cut. -/
theorem RoL.cut {W : World} {pr : Nat → Prop} {ts ts' : List T} {cs : List Value} (o k : Nat) (h1 : RoL W pr ts ((cs.drop o).take k)) (h2 : RoL W pr ts' (cs.drop (o + k))) : RoL W pr (ts ++ ts') (cs.drop o) := by
  have e : cs.drop o = (cs.drop o).take k ++ cs.drop (o + k) := by rw [← List.drop_drop, List.take_append_drop]
  rw [e]
  exact h1.append h2
theorem RoL.stop {W : World} {pr : Nat → Prop} {cs : List Value} {n : Nat} (h : cs.length = n) : RoL W pr [] (cs.drop n) := by
  rw [List.drop_of_length_le (by omega)]
  exact .nil
end
end Go.V
namespace Go.Proofs.YtmjjljfheimjgaaGreatDoor
open Go Go.Proofs Go.ChangeShapes Go.WideShapes Go.ChangeAt Go.RowKit
set_option maxRecDepth 100000
theorem own : ownKnob Tryz.prog.godebug = none := by kernel_rfl
/-- The cells that hold such data. -/
def flatD : Nat → DataW Unit → List Value
  | 0, _ => []
  | _ + 1, .lit (.int k v) => [.int k v]
  | n + 1, .agg xs => xs.flatMap (flatD n)
  | _ + 1, _ => []
noncomputable def gOf (n : String) : Nat := (Tryz.prog.globalNamed n).getD 0
noncomputable def layAt (n : String) (d : DataW Unit) (h : Array Obj) : Array Obj := h.modify (gOf n) fun
  | .cells _ t frozen => .cells (flatD 5 d).toArray t frozen
  | o => o
noncomputable def laidWorld (os : Os) : World :=
  { World.holding Tryz.prog os ⟨#[], #[], []⟩ with heap := layAt "unicode/utf8.first" Rows.laid_unicode_utf8_first (layAt "unicode/utf8.acceptRanges" Rows.laid_unicode_utf8_acceptRanges (World.holding Tryz.prog os ⟨#[], #[], []⟩).heap) }
noncomputable def args0 : Array Value := #[.agg #[.slice none 0 0, .int .i64 0, .int .i64 0, .slice none 0 0]]
theorem laid_met (os : Os) : laidMet Tryz.prog Rows.fnExactLookManyRow.laid ((laidWorld os).forCall (fun _ _ => 0) ⟨#[], args0, []⟩).memory :=
  laidMet_of_run' 8 (by kernel_rfl) (by kernel_rfl)
theorem reads (os : Os) {H : Type} (enc : TypeId × Value → H) : ∃ places, DataW.whole enc Tryz.prog ((laidWorld os).forCall (fun _ _ => 0) ⟨#[], args0, []⟩).memory Tryz.f5.params.toList Rows.fnExactLookManySpec.vars false args0.toList 8 = some ([.agg [.nil, .lit (.int .i64 0), .lit (.int .i64 0), .nil]], [], places) :=
  ⟨[], by kernel_rfl⟩
theorem func5 : Tryz.prog.funcs[5]? = some Tryz.f5 := by kernel_rfl
/-- What every call gives. -/
def Every : Prop := ∀ (H : Type) (enc : TypeId × Value → H) (W : World) (base : Nat) (args : Array Value) (ds gs : List (DataW H)) (before : List MemPlace)
    (_ : ∀ (j : Nat) t v, Tryz.f5.params[j]? = some t → args[j]? = some v → Value.okWide Tryz.prog W .any base t v)
    (_ : DataW.Whole enc Tryz.prog Tryz.f5.params.toList Rows.fnExactLookManySpec.vars false W args.toList ds gs before) (_ : W.ShapedOpen Tryz.prog),
    Calls Tryz.prog 5 args W fun e W' => ∃ v, e = .returned v ∧ Rows.fnExactLookManySpec.post enc Tryz.prog Tryz.f5 false true false false W args v W'
theorem lifted (hE : Every) (os : Os) (started : os.Started) (H : Type) (enc : TypeId × Value → H) (F : Stop.Interp) :
    ReturnsInHanded {} Tryz.checked os 5 .any ((OpenSpec.ofChange Rows.fnExactLookManySpec).preRow enc Tryz.prog Tryz.f5 Rows.fnExactLookManyRow.domain false Rows.fnExactLookManyRow.laid) (((OpenSpec.ofChange Rows.fnExactLookManySpec).at F).post enc Tryz.prog Tryz.f5 false true false false) := by
  obtain ⟨places, hx⟩ := reads os enc
  refine returnsInHanded_of_row (C := Tryz.checked) (s := OpenSpec.ofChange Rows.fnExactLookManySpec) own started (by kernel_rfl) func5
    (witness_row_at (enc := enc) (C := Tryz.checked) false (laidWorld os) args0 rfl (by kernel_rfl) (by kernel_rfl) (by kernel_rfl)
      (OpenSpec.preRow_of_cond 8 hx (by kernel_rfl) (fun k hk => by cases hk) (by kernel_rfl) (laid_met os))) ?_
  intro W base args ds gs before hval hW _ _ _ _ hS _
  exact hE H enc W base args ds gs before hval hW hS
theorem said (hE : Every) : Rows.FnExactLookManySaid :=
  OpenClaim.holds_of_cond 5 Tryz.f5 rfl rfl rfl rfl rfl rfl rfl ⟨rfl, rfl, rfl, rfl, rfl⟩ rfl rfl rfl rfl rfl (by kernel_rfl) func5 (by kernel_rfl)
    (of_decide_eq_true (by kernel_rfl)) (by unfold Func.isWrapper; first | (rw [if_pos (by decide +kernel)]; kernel_rfl) | (rw [if_neg (by decide +kernel)]; exact ⟨rfl, rfl⟩))
    (fun os started H enc _ F => by rw [OpenClaim.pre_eq_preRow]; exact lifted hE os started H enc F)
theorem params5 : Tryz.f5.params = #[50] := rfl
/-- No parameter wants a stand-in; the program's own looks are off. -/
theorem plain (f : FuncId) (fn : Func) (hf : Tryz.pinned.checked.prog.funcNamed "loop.example/satchel/laws.FnExactLookMany" = some f) (hfn : Tryz.pinned.checked.prog.funcs[f]? = some fn) :
    false = Tryz.pinned.checked.prog.looks [] ∧ ∀ (j : Nat) t, fn.params[j]? = some t → Tryz.pinned.checked.prog.wantsStandIn t = false := by
  obtain rfl : f = 5 := Option.some.inj ((show Tryz.prog.funcNamed "loop.example/satchel/laws.FnExactLookMany" = some 5 by kernel_rfl).symm.trans hf) |>.symm
  obtain rfl : fn = Tryz.f5 := (Option.some.inj (func5.symm.trans hfn)).symm
  refine ⟨by kernel_rfl, fun j t ht => ?_⟩
  rw [params5] at ht
  have hm : t ∈ [50] := by simpa using Array.mem_of_getElem? ht
  have hall : ([50].all fun u => !Tryz.prog.wantsStandIn u) = true := by kernel_rfl
  exact (show Tryz.prog.wantsStandIn t = false by simpa using List.all_eq_true.1 hall t hm)
theorem card_of (hE : Every) : Rows.FnExactLookManyCardSaid :=
  Claim7.holds_tied_plain_at .later [] _ _ _ _ (said hE) (fun _ h => by cases h) (by kernel_rfl) (fun _ h => by cases h) fnExactLookMany_row_tie rfl ⟨rfl, rfl⟩ (by kernel_rfl) rfl plain (by kernel_rfl)
end Go.Proofs.YtmjjljfheimjgaaGreatDoor
namespace Go.V
open Go Go.Proofs Go.ChangeShapes Go.WideShapes Go.ChangeAt Go.RowKit
set_option maxRecDepth 100000
set_option linter.unusedVariables false
set_option maxHeartbeats 4000000 in
theorem con5 (m : Int) (w : Wd) : Con Tryz.prog m 5 ((lc EWd.ag l0).enc (w, ())) ((lc EWd.ag l0).enc (w, ())) (.t (.v (.bool true))) := by
  have g0 : GOk Tryz.prog (Gof m []) ∧ GDet (Gof m []) := GOk_nil
  have g1 := GOk_cons g0 (good102 g0)
  have g2 := GOk_cons g1 (good56 g1)
  have g3 := GOk_cons g2 (good128 g2 rfl rfl)
  have g4 := GOk_cons g3 (good103 g3 rfl)
  have g5 := GOk_cons g4 (good59 g4 rfl rfl)
  have g6 := GOk_cons g5 (good24 g5 rfl)
  have g7 := GOk_cons g6 (good100 g6)
  have g8 := GOk_cons g7 (good57 g7 rfl)
  have g9 := GOk_cons g8 (good22 g8 rfl rfl)
  have g10 := GOk_cons g9 (good60 g9 rfl)
  have g11 := GOk_cons g10 (good25 g10 rfl)
  have g12 := GOk_cons g11 (good145 g11 rfl)
  have g13 := GOk_cons g12 (good127 g12 rfl)
  have g14 := GOk_cons g13 (good101 g13 rfl rfl rfl)
  have g15 := GOk_cons g14 (good58 g14 rfl)
  have g16 := GOk_cons g15 (good23 g15 rfl)
  have g17 := GOk_cons g16 (good6 g16 rfl rfl rfl rfl)
  have g18 := GOk_cons g17 (good44 g17 rfl)
  have g19 := GOk_cons g18 (good11 g18 rfl rfl)
  have g20 := GOk_cons g19 (good110 g19)
  have g21 := GOk_cons g20 (good66 g20)
  have g22 := GOk_cons g21 (good132 g21 rfl rfl)
  have g23 := GOk_cons g22 (good111 g22 rfl)
  have g24 := GOk_cons g23 (good69 g23 rfl rfl)
  have g25 := GOk_cons g24 (good29 g24 rfl)
  have g26 := GOk_cons g25 (good108 g25)
  have g27 := GOk_cons g26 (good67 g26 rfl)
  have g28 := GOk_cons g27 (good27 g27 rfl rfl)
  have g29 := GOk_cons g28 (good70 g28 rfl)
  have g30 := GOk_cons g29 (good30 g29 rfl)
  have g31 := GOk_cons g30 (good146 g30 rfl)
  have g32 := GOk_cons g31 (good131 g31 rfl)
  have g33 := GOk_cons g32 (good109 g32 rfl rfl rfl)
  have g34 := GOk_cons g33 (good68 g33 rfl)
  have g35 := GOk_cons g34 (good28 g34 rfl)
  have g36 := GOk_cons g35 (good8 g35 rfl rfl rfl rfl)
  have g37 := GOk_cons g36 (good46 g36 rfl)
  have g38 := GOk_cons g37 (good13 g37 rfl rfl)
  have g39 := GOk_cons g38 (good121 g38)
  have g40 := GOk_cons g39 (good85 g39)
  have g41 := GOk_cons g40 (good143 g40 rfl rfl)
  have g42 := GOk_cons g41 (good122 g41 rfl)
  have g43 := GOk_cons g42 (good88 g42 rfl rfl)
  have g44 := GOk_cons g43 (good42 g43 rfl)
  have g45 := GOk_cons g44 (good119 g44)
  have g46 := GOk_cons g45 (good86 g45 rfl)
  have g47 := GOk_cons g46 (good40 g46 rfl rfl)
  have g48 := GOk_cons g47 (good89 g47 rfl)
  have g49 := GOk_cons g48 (good43 g48 rfl)
  have g50 := GOk_cons g49 (good154 g49 rfl)
  have g51 := GOk_cons g50 (good142 g50 rfl)
  have g52 := GOk_cons g51 (good120 g51 rfl rfl rfl)
  have g53 := GOk_cons g52 (good87 g52 rfl)
  have g54 := GOk_cons g53 (good41 g53 rfl)
  have g55 := GOk_cons g54 (good10 g54 rfl rfl rfl rfl)
  have g56 := GOk_cons g55 (good51 g55 rfl)
  have g57 := GOk_cons g56 (good15 g56 rfl rfl)
  have g58 := GOk_cons g57 (good92 g57)
  have g59 := GOk_cons g58 (good104 g58 rfl)
  have g60 := GOk_cons g59 (good93 g59)
  have g61 := GOk_cons g60 (good123 g60 rfl)
  have g62 := GOk_cons g61 (good129 g61)
  have g63 := GOk_cons g62 (good106 g62 rfl rfl)
  have g64 := GOk_cons g63 (good90 g63 rfl rfl)
  have g65 := GOk_cons g64 (good105 g64)
  have g66 := GOk_cons g65 (good61 g65 rfl rfl rfl)
  have g67 := GOk_cons g66 (good62 g66)
  have g68 := GOk_cons g67 (good63 g67)
  have g69 := GOk_cons g68 (good64 g68 rfl)
  have g70 := GOk_cons g69 (good130 g69 rfl rfl)
  have g71 := GOk_cons g70 (good107 g70 rfl rfl rfl rfl rfl)
  have g72 := GOk_cons g71 (good65 g71 rfl rfl)
  have g73 := GOk_cons g72 (good26 g72 rfl rfl rfl rfl rfl)
  have g74 := GOk_cons g73 (good91 g73)
  have g75 := GOk_cons g74 (good45 g74 rfl rfl rfl rfl rfl)
  have g76 := GOk_cons g75 (good52 g75 rfl)
  have g77 := GOk_cons g76 (good16 g76 rfl rfl)
  have g78 := GOk_consX g77 (good156 m)
  have g79 := GOk_cons g78 (good148 g78 rfl)
  have g80 := GOk_consX g79 (good167 m)
  have g81 := GOk_cons g80 (good161 g80 rfl)
  have g82 := GOk_consX g81 (good162 m)
  have g83 := GOk_cons g82 (good163 g82)
  have g84 := GOk_cons g83 (good168 g83)
  have g85 := GOk_cons g84 (good164 g84 rfl)
  have g86 := GOk_cons g85 (good157 g85 rfl rfl rfl rfl)
  have g87 := GOk_cons g86 (good149 g86 rfl)
  have g88 := GOk_cons g87 (good133 g87 rfl rfl)
  have g89 := GOk_cons g88 (good112 g88 rfl)
  have g90 := GOk_cons g89 (good48 g89)
  have g91 := GOk_cons g90 (good136 g90)
  have g92 := GOk_cons g91 (good150 g91)
  have g93 := GOk_cons g92 (good137 g92 rfl)
  have g94 := GOk_cons g93 (good138 g93 rfl)
  have g95 := GOk_cons g94 (good116 g94 rfl rfl rfl)
  have g96 := GOk_cons g95 (good80 g95 rfl rfl)
  have g97 := GOk_cons g96 (good72 g96 rfl rfl)
  have g98 := GOk_cons g97 (good79 g97)
  have g99 := GOk_cons g98 (good78 g98 rfl)
  have g100 := GOk_cons g99 (good71 g99 rfl)
  have g101 := GOk_cons g100 (good113 g100 rfl rfl)
  have g102 := GOk_cons g101 (good74 g101 rfl)
  have g103 := GOk_cons g102 (good73 g102 rfl)
  have g104 := GOk_cons g103 (good114 g103 rfl)
  have g105 := GOk_cons g104 (good75 g104 rfl)
  have g106 := GOk_cons g105 (good31 g105 rfl rfl rfl)
  have g107 := GOk_cons g106 (good36 g106 rfl rfl)
  have g108 := GOk_cons g107 (good50 g107 rfl)
  have g109 := GOk_cons g108 (good77 g108)
  have g110 := GOk_cons g109 (good34 g109 rfl rfl)
  have g111 := GOk_cons g110 (good115 g110)
  have g112 := GOk_cons g111 (good35 g111 rfl)
  have g113 := GOk_cons g112 (good76 g112 rfl rfl rfl rfl rfl rfl)
  have g114 := GOk_cons g113 (good32 g113 rfl rfl)
  have g115 := GOk_cons g114 (good117 g114)
  have g116 := GOk_cons g115 (good81 g115 rfl)
  have g117 := GOk_cons g116 (good37 g116 rfl)
  have g118 := GOk_cons g117 (good33 g117 rfl rfl)
  have g119 := GOk_cons g118 (good82 g118 rfl)
  have g120 := GOk_cons g119 (good38 g119 rfl)
  have g121 := GOk_consX g120 (good141 m)
  have g122 := GOk_cons g121 (good118 g121 rfl)
  have g123 := GOk_cons g122 (good84 g122 rfl)
  have g124 := GOk_cons g123 (good83 g123)
  have g125 := GOk_cons g124 (good39 g124 rfl rfl)
  have g126 := GOk_cons g125 (good9 g125 rfl rfl rfl rfl rfl rfl)
  have g127 := GOk_cons g126 (good144 g126)
  have g128 := GOk_cons g127 (good124 g127 rfl)
  have g129 := GOk_cons g128 (good94 g128 rfl)
  have g130 := GOk_cons g129 (good47 g129 rfl rfl)
  have g131 := GOk_cons g130 (good49 g130)
  have g132 := GOk_cons g131 (good14 g131 rfl rfl rfl rfl rfl rfl)
  have g133 := GOk_cons g132 (good53 g132 rfl)
  have g134 := GOk_cons g133 (good17 g133 rfl rfl)
  have g135 := GOk_cons g134 (good95 g134)
  have g136 := GOk_cons g135 (good96 g135 rfl)
  have g137 := GOk_cons g136 (good126 g136 rfl rfl)
  have g138 := GOk_cons g137 (good99 g137 rfl rfl)
  have g139 := GOk_cons g138 (good125 g138 rfl)
  have g140 := GOk_cons g139 (good98 g139 rfl rfl rfl)
  have g141 := GOk_cons g140 (good55 g140 rfl)
  have g142 := GOk_cons g141 (good97 g141 rfl)
  have g143 := GOk_cons g142 (good54 g142 rfl rfl rfl rfl rfl rfl)
  have g144 := GOk_cons g143 (good19 g143 rfl rfl)
  have g145 := GOk_cons g144 (good18 g144)
  have g146 := GOk_cons g145 (good20 g145)
  have g147 := GOk_cons g146 (good21 g146)
  have hg := good5 g147 rfl rfl rfl rfl rfl rfl rfl rfl rfl
  obtain ⟨res, h1, _, h3, _⟩ := hg.ro ((lc EWd.ag l0).enc (w, ())) (fun r => r = .t (.v (.bool true))) (by
    show c5 _ _
    rw [c5, ctR_eq, (lc EWd.ag l0).ed]
    exact ⟨trivial, rfl⟩)
  rw [h1] at h3
  exact h3

section
variable {H : Type} {enc : TypeId × Value → H} {W : World}
noncomputable def fsOf (t : TypeId) : Array Field := match Tryz.prog.underlying t with | some (.struct fs) => fs | _ => #[]
theorem v9 : Tryz.prog.underlying 9 = some .string := by kernel_rfl
theorem w9 : Tryz.prog.cellsOf 9 = 1 := by kernel_rfl
theorem rdStr : Rd Tryz.prog W enc 9 fun ts => ∃ a, ts = EStr.enc a := fun n cs x h => Rd.str v9 n cs x h
theorem v22 : Tryz.prog.underlying 22 = some (.slice 9) := by kernel_rfl
theorem w22 : Tryz.prog.cellsOf 22 = 1 := by kernel_rfl
theorem v145 : Tryz.prog.underlying 145 = some (.struct (fsOf 145)) := by kernel_rfl
theorem l145 : ((fsOf 145).toList.map fun f => (f.type, f.offset)) = [(9, 0), (9, 1)] := by kernel_rfl
theorem w145 : Tryz.prog.cellsOf 145 = 2 := by kernel_rfl
theorem rdWy : Rd Tryz.prog W enc 145 fun ts => ∃ a, ts = EWy.enc a := fun n cs x h => by
  have hl := Rd.len v145 h
  rw [w145] at hl
  obtain ⟨_, ⟨a0, rfl⟩, h0⟩ := Rd.field v145 h l145 (i := 0) rfl w9 (Rd.str v9)
  obtain ⟨_, ⟨a1, rfl⟩, h1⟩ := Rd.field v145 h l145 (i := 1) rfl w9 (Rd.str v9)
  exact ⟨_, ⟨⟨a0, a1⟩, rfl⟩, (RoL.cut 0 1 h0 (RoL.cut 1 1 h1 (RoL.stop hl)))⟩
theorem v23 : Tryz.prog.underlying 23 = some (.slice 145) := by kernel_rfl
theorem w23 : Tryz.prog.cellsOf 23 = 1 := by kernel_rfl
theorem v25 : Tryz.prog.underlying 25 = some (.struct (fsOf 25)) := by kernel_rfl
theorem l25 : ((fsOf 25).toList.map fun f => (f.type, f.offset)) = [(9, 0), (22, 1), (23, 2)] := by kernel_rfl
theorem w25 : Tryz.prog.cellsOf 25 = 3 := by kernel_rfl
theorem rdCf : Rd Tryz.prog W enc 25 fun ts => ∃ a, ts = ECf.enc a := fun n cs x h => by
  have hl := Rd.len v25 h
  rw [w25] at hl
  obtain ⟨_, ⟨a0, rfl⟩, h0⟩ := Rd.field v25 h l25 (i := 0) rfl w9 (Rd.str v9)
  obtain ⟨_, ⟨a1, rfl⟩, h1⟩ := Rd.field v25 h l25 (i := 1) rfl w22 (Rd.slice EStr v22 w9 (by decide) rdStr)
  obtain ⟨_, ⟨a2, rfl⟩, h2⟩ := Rd.field v25 h l25 (i := 2) rfl w23 (Rd.slice EWy v23 w145 (by decide) rdWy)
  exact ⟨_, ⟨⟨a0, a1, a2⟩, rfl⟩, (RoL.cut 0 1 h0 (RoL.cut 1 1 h1 (RoL.cut 2 1 h2 (RoL.stop hl))))⟩
theorem v3 : Tryz.prog.underlying 3 = some (.int .i64) := by kernel_rfl
theorem w3 : Tryz.prog.cellsOf 3 = 1 := by kernel_rfl
theorem rdInt : Rd Tryz.prog W enc 3 fun ts => ∃ a, ts = EInt.enc a := fun n cs x h => Rd.int v3 n cs x h
theorem v107 : Tryz.prog.underlying 107 = some (.struct (fsOf 107)) := by kernel_rfl
theorem l107 : ((fsOf 107).toList.map fun f => (f.type, f.offset)) = [(9, 0), (9, 1)] := by kernel_rfl
theorem w107 : Tryz.prog.cellsOf 107 = 2 := by kernel_rfl
theorem rdAd : Rd Tryz.prog W enc 107 fun ts => ∃ a, ts = EAd.enc a := fun n cs x h => by
  have hl := Rd.len v107 h
  rw [w107] at hl
  obtain ⟨_, ⟨a0, rfl⟩, h0⟩ := Rd.field v107 h l107 (i := 0) rfl w9 (Rd.str v9)
  obtain ⟨_, ⟨a1, rfl⟩, h1⟩ := Rd.field v107 h l107 (i := 1) rfl w9 (Rd.str v9)
  exact ⟨_, ⟨⟨a0, a1⟩, rfl⟩, (RoL.cut 0 1 h0 (RoL.cut 1 1 h1 (RoL.stop hl)))⟩
theorem v194 : Tryz.prog.underlying 194 = some (.struct (fsOf 194)) := by kernel_rfl
theorem l194 : ((fsOf 194).toList.map fun f => (f.type, f.offset)) = [(107, 0), (3, 2), (3, 3)] := by kernel_rfl
theorem w194 : Tryz.prog.cellsOf 194 = 4 := by kernel_rfl
theorem rdRc : Rd Tryz.prog W enc 194 fun ts => ∃ a, ts = ERc.enc a := fun n cs x h => by
  have hl := Rd.len v194 h
  rw [w194] at hl
  obtain ⟨_, ⟨a0, rfl⟩, h0⟩ := Rd.field v194 h l194 (i := 0) rfl w107 (rdAd)
  obtain ⟨_, ⟨a1, rfl⟩, h1⟩ := Rd.field v194 h l194 (i := 1) rfl w3 (Rd.int v3)
  obtain ⟨_, ⟨a2, rfl⟩, h2⟩ := Rd.field v194 h l194 (i := 2) rfl w3 (Rd.int v3)
  exact ⟨_, ⟨⟨a0, a1, a2⟩, rfl⟩, (RoL.cut 0 2 h0 (RoL.cut 2 1 h1 (RoL.cut 3 1 h2 (RoL.stop hl))))⟩
theorem v147 : Tryz.prog.underlying 147 = some (.slice 194) := by kernel_rfl
theorem w147 : Tryz.prog.cellsOf 147 = 1 := by kernel_rfl
theorem v149 : Tryz.prog.underlying 149 = some (.struct (fsOf 149)) := by kernel_rfl
theorem l149 : ((fsOf 149).toList.map fun f => (f.type, f.offset)) = [(3, 0), (107, 1), (147, 3), (22, 4)] := by kernel_rfl
theorem w149 : Tryz.prog.cellsOf 149 = 5 := by kernel_rfl
theorem rdIm : Rd Tryz.prog W enc 149 fun ts => ∃ a, ts = EIm.enc a := fun n cs x h => by
  have hl := Rd.len v149 h
  rw [w149] at hl
  obtain ⟨_, ⟨a0, rfl⟩, h0⟩ := Rd.field v149 h l149 (i := 0) rfl w3 (Rd.int v3)
  obtain ⟨_, ⟨a1, rfl⟩, h1⟩ := Rd.field v149 h l149 (i := 1) rfl w107 (rdAd)
  obtain ⟨_, ⟨a2, rfl⟩, h2⟩ := Rd.field v149 h l149 (i := 2) rfl w147 (Rd.slice ERc v147 w194 (by decide) rdRc)
  obtain ⟨_, ⟨a3, rfl⟩, h3⟩ := Rd.field v149 h l149 (i := 3) rfl w22 (Rd.slice EStr v22 w9 (by decide) rdStr)
  exact ⟨_, ⟨⟨a0, a1, a2, a3⟩, rfl⟩, (RoL.cut 0 1 h0 (RoL.cut 1 2 h1 (RoL.cut 3 1 h2 (RoL.cut 4 1 h3 (RoL.stop hl)))))⟩
theorem v26 : Tryz.prog.underlying 26 = some (.slice 149) := by kernel_rfl
theorem w26 : Tryz.prog.cellsOf 26 = 1 := by kernel_rfl
theorem v28 : Tryz.prog.underlying 28 = some (.struct (fsOf 28)) := by kernel_rfl
theorem l28 : ((fsOf 28).toList.map fun f => (f.type, f.offset)) = [(3, 0), (26, 1)] := by kernel_rfl
theorem w28 : Tryz.prog.cellsOf 28 = 2 := by kernel_rfl
theorem rdSp : Rd Tryz.prog W enc 28 fun ts => ∃ a, ts = ESp.enc a := fun n cs x h => by
  have hl := Rd.len v28 h
  rw [w28] at hl
  obtain ⟨_, ⟨a0, rfl⟩, h0⟩ := Rd.field v28 h l28 (i := 0) rfl w3 (Rd.int v3)
  obtain ⟨_, ⟨a1, rfl⟩, h1⟩ := Rd.field v28 h l28 (i := 1) rfl w26 (Rd.slice EIm v26 w149 (by decide) rdIm)
  exact ⟨_, ⟨⟨a0, a1⟩, rfl⟩, (RoL.cut 0 1 h0 (RoL.cut 1 1 h1 (RoL.stop hl)))⟩
theorem v176 : Tryz.prog.underlying 176 = some (.struct (fsOf 176)) := by kernel_rfl
theorem l176 : ((fsOf 176).toList.map fun f => (f.type, f.offset)) = [(107, 0), (22, 2)] := by kernel_rfl
theorem w176 : Tryz.prog.cellsOf 176 = 3 := by kernel_rfl
theorem rdGm : Rd Tryz.prog W enc 176 fun ts => ∃ a, ts = EGm.enc a := fun n cs x h => by
  have hl := Rd.len v176 h
  rw [w176] at hl
  obtain ⟨_, ⟨a0, rfl⟩, h0⟩ := Rd.field v176 h l176 (i := 0) rfl w107 (rdAd)
  obtain ⟨_, ⟨a1, rfl⟩, h1⟩ := Rd.field v176 h l176 (i := 1) rfl w22 (Rd.slice EStr v22 w9 (by decide) rdStr)
  exact ⟨_, ⟨⟨a0, a1⟩, rfl⟩, (RoL.cut 0 2 h0 (RoL.cut 2 1 h1 (RoL.stop hl)))⟩
theorem v108 : Tryz.prog.underlying 108 = some (.slice 176) := by kernel_rfl
theorem w108 : Tryz.prog.cellsOf 108 = 1 := by kernel_rfl
theorem v110 : Tryz.prog.underlying 110 = some (.struct (fsOf 110)) := by kernel_rfl
theorem l110 : ((fsOf 110).toList.map fun f => (f.type, f.offset)) = [(107, 0), (108, 2)] := by kernel_rfl
theorem w110 : Tryz.prog.cellsOf 110 = 3 := by kernel_rfl
theorem rdBx : Rd Tryz.prog W enc 110 fun ts => ∃ a, ts = EBx.enc a := fun n cs x h => by
  have hl := Rd.len v110 h
  rw [w110] at hl
  obtain ⟨_, ⟨a0, rfl⟩, h0⟩ := Rd.field v110 h l110 (i := 0) rfl w107 (rdAd)
  obtain ⟨_, ⟨a1, rfl⟩, h1⟩ := Rd.field v110 h l110 (i := 1) rfl w108 (Rd.slice EGm v108 w176 (by decide) rdGm)
  exact ⟨_, ⟨⟨a0, a1⟩, rfl⟩, (RoL.cut 0 2 h0 (RoL.cut 2 1 h1 (RoL.stop hl)))⟩
theorem v29 : Tryz.prog.underlying 29 = some (.slice 110) := by kernel_rfl
theorem w29 : Tryz.prog.cellsOf 29 = 1 := by kernel_rfl
theorem v113 : Tryz.prog.underlying 113 = some (.struct (fsOf 113)) := by kernel_rfl
theorem l113 : ((fsOf 113).toList.map fun f => (f.type, f.offset)) = [(9, 0), (107, 1)] := by kernel_rfl
theorem w113 : Tryz.prog.cellsOf 113 = 3 := by kernel_rfl
theorem rdLs : Rd Tryz.prog W enc 113 fun ts => ∃ a, ts = ELs.enc a := fun n cs x h => by
  have hl := Rd.len v113 h
  rw [w113] at hl
  obtain ⟨_, ⟨a0, rfl⟩, h0⟩ := Rd.field v113 h l113 (i := 0) rfl w9 (Rd.str v9)
  obtain ⟨_, ⟨a1, rfl⟩, h1⟩ := Rd.field v113 h l113 (i := 1) rfl w107 (rdAd)
  exact ⟨_, ⟨⟨a0, a1⟩, rfl⟩, (RoL.cut 0 1 h0 (RoL.cut 1 2 h1 (RoL.stop hl)))⟩
theorem v30 : Tryz.prog.underlying 30 = some (.slice 113) := by kernel_rfl
theorem w30 : Tryz.prog.cellsOf 30 = 1 := by kernel_rfl
theorem v32 : Tryz.prog.underlying 32 = some (.struct (fsOf 32)) := by kernel_rfl
theorem l32 : ((fsOf 32).toList.map fun f => (f.type, f.offset)) = [(25, 0), (28, 3), (29, 5), (30, 6)] := by kernel_rfl
theorem w32 : Tryz.prog.cellsOf 32 = 7 := by kernel_rfl
theorem rdHs : Rd Tryz.prog W enc 32 fun ts => ∃ a, ts = EHs.enc a := fun n cs x h => by
  have hl := Rd.len v32 h
  rw [w32] at hl
  obtain ⟨_, ⟨a0, rfl⟩, h0⟩ := Rd.field v32 h l32 (i := 0) rfl w25 (rdCf)
  obtain ⟨_, ⟨a1, rfl⟩, h1⟩ := Rd.field v32 h l32 (i := 1) rfl w28 (rdSp)
  obtain ⟨_, ⟨a2, rfl⟩, h2⟩ := Rd.field v32 h l32 (i := 2) rfl w29 (Rd.slice EBx v29 w110 (by decide) rdBx)
  obtain ⟨_, ⟨a3, rfl⟩, h3⟩ := Rd.field v32 h l32 (i := 3) rfl w30 (Rd.slice ELs v30 w113 (by decide) rdLs)
  exact ⟨_, ⟨⟨a0, a1, a2, a3⟩, rfl⟩, (RoL.cut 0 3 h0 (RoL.cut 3 2 h1 (RoL.cut 5 1 h2 (RoL.cut 6 1 h3 (RoL.stop hl)))))⟩
theorem v48 : Tryz.prog.underlying 48 = some (.slice 32) := by kernel_rfl
theorem w48 : Tryz.prog.cellsOf 48 = 1 := by kernel_rfl
theorem v50 : Tryz.prog.underlying 50 = some (.struct (fsOf 50)) := by kernel_rfl
theorem l50 : ((fsOf 50).toList.map fun f => (f.type, f.offset)) = [(48, 0), (3, 1), (3, 2), (30, 3)] := by kernel_rfl
theorem w50 : Tryz.prog.cellsOf 50 = 4 := by kernel_rfl
theorem rdWd : Rd Tryz.prog W enc 50 fun ts => ∃ a, ts = EWd.enc a := fun n cs x h => by
  have hl := Rd.len v50 h
  rw [w50] at hl
  obtain ⟨_, ⟨a0, rfl⟩, h0⟩ := Rd.field v50 h l50 (i := 0) rfl w48 (Rd.slice EHs v48 w32 (by decide) rdHs)
  obtain ⟨_, ⟨a1, rfl⟩, h1⟩ := Rd.field v50 h l50 (i := 1) rfl w3 (Rd.int v3)
  obtain ⟨_, ⟨a2, rfl⟩, h2⟩ := Rd.field v50 h l50 (i := 2) rfl w3 (Rd.int v3)
  obtain ⟨_, ⟨a3, rfl⟩, h3⟩ := Rd.field v50 h l50 (i := 3) rfl w30 (Rd.slice ELs v30 w113 (by decide) rdLs)
  exact ⟨_, ⟨⟨a0, a1, a2, a3⟩, rfl⟩, (RoL.cut 0 1 h0 (RoL.cut 1 1 h1 (RoL.cut 2 1 h2 (RoL.cut 3 1 h3 (RoL.stop hl)))))⟩
/-- The package's number, whatever it is. -/
theorem glOk_of (h : W.ShapedOpen Tryz.prog) : ∃ m, GlOk m W (pW W) := by
  obtain ⟨cs, h1, h2, h3⟩ := h.1 0 #[.int .i64 0] 3 (Nat.lt_of_lt_of_le (Nat.lt_succ_self 0) (Nat.le_of_ble_eq_true (by kernel_rfl))) (by kernel_rfl)
  obtain ⟨ts, t1, _, t3⟩ := h3 (by kernel_rfl)
  have hts : ts = [3] := Option.some.inj (t1.symm.trans (by kernel_rfl))
  subst hts
  have hsz : cs.size = 1 := h2
  have h0 : cs[0]? = some cs[0] := Array.getElem?_eq_getElem (by omega)
  obtain ⟨u, hu, hok⟩ := t3 0 _ h0
  simp at hu
  subst hu
  unfold Cell.ok at hok
  rw [v3] at hok
  generalize cs[0] = v at h0 hok
  have hb : (0 : Nat) < W.heap.size := (Array.getElem?_eq_some_iff.1 h1).1
  cases v with
  | int k n =>
    have hk : k = .i64 := hok.1
    subst hk
    refine ⟨n, .rop _ _ [.int .i64 n] (fun _ => hb) (fun j u hj => ?_) (.cons _ _ _ _ (.v _ trivial) .nil)⟩
    cases j with
    | zero =>
      simp at hj
      subst hj
      simp [World.cell?, Addr.add, glb, h1, h0]
    | succ j => simp at hj
  | _ => exact hok.elim
end
theorem every : YtmjjljfheimjgaaGreatDoor.Every := by
  intro H enc W base args ds gs before hval0 hW hS
  have hval : ∀ (j : Nat) t v, Tryz.f5.params[j]? = some t → args[j]? = some v → Value.okWide Tryz.prog W .any base t v := hval0
  have hW' := hW
  obtain ⟨p, q, hA0, hV, rfl, hfz, hnd⟩ := hW
  have hA : DataW.TrodAll enc Tryz.prog W 0 (fun _ => true) true [50] args.toList ds p := hA0
  rw [YtmjjljfheimjgaaGreatDoor.params5] at hval
  obtain ⟨u0, d0, rfl, rfl, h0⟩ := trodAll_one hA
  obtain ⟨rfl, rfl⟩ := trodVars_none hV
  have hlt : ∀ x ∈ (p) ++ [], x.block < W.heap.size := fun x hx => hW'.lt x hx
  have k0 := h0
  obtain ⟨n0, t0⟩ := h0
  obtain ⟨_, ⟨w, rfl⟩, r0⟩ := (rdWd) _ _ _ t0
  obtain ⟨cs0, rfl, _, _⟩ : ∃ cs, u0 = .agg cs ∧ cs.size = Tryz.prog.cellsOf 50 ∧ _ := by
    have := hval 0 50 u0 rfl rfl
    unfold Value.okWide at this
    rw [v50] at this
    exact this
  have r0' : RoL W (pW W) (EWd.enc w) cs0.toList := r0
  have a0 : AHas ρ0 W (pW W) (.agg ((EWd.enc w).map .t)) (.agg cs0) [] := by
    have ha : AHas ρ0 W (pW W) (.agg ((EWd.enc w).map .t)) (.agg cs0.toList.toArray) [] := .agg _ _ _ r0'.t r0'.ones
    rwa [Array.toArray_toList] at ha
  obtain ⟨m, hgl⟩ := glOk_of hS
  have hargs : AHasL ρ0 W (pW W) ((lc EWd.ag l0).enc (w, ())) [.agg cs0] [] := .cons _ _ _ _ [] [] a0 .nil
  have hcall := con5 m w W (pW W) [.agg cs0] [] hgl hargs .nil (fun b hb => by cases hb) (fun b hb => hb)
  refine Calls.mono hcall fun e W' hq => ?_
  obtain ⟨v, pr', G, F, he, hfr, _, _, _, _, hv, _, _⟩ := hq
  obtain ⟨rfl, _⟩ := hv.val
  have hb : Below W.heap.size W W' := ⟨hfr.os, hfr.tape, hfr.output, hfr.size, fun k hk => hfr.block k hk (by simp)⟩
  refine ⟨_, he, _, _, _, [], p, [], hW', ?_, ?_, rfl, hb.frame _, fun h => by cases h⟩
  · exact trodAll_mk1 (shut_bool (show Tryz.prog.underlying 4 = some .bool by kernel_rfl) _)
  · have := trodAll_mk1 (Below.trod (by kernel_rfl) (by kernel_rfl) (of_decide_eq_true (by kernel_rfl)) k0 hb fun x hx => hlt x (by simp [hx]))
    exact this
end Go.V
namespace Go.Proofs.YtmjjljfheimjgaaGreatDoor
theorem fnExactLookMany_card : Rows.FnExactLookManyCardSaid := card_of Go.V.every
end Go.Proofs.YtmjjljfheimjgaaGreatDoor
