/- The row. No condition. -/
import Derived.Test.YtljiekcdfikafaaGreatDoorRA
import Derived.DeepKeys4
namespace Go.V
open Go Go.Proofs
set_option maxRecDepth 100000
set_option linter.unusedSimpArgs false
set_option linter.unusedVariables false
attribute [local go_sem] aPickB.eq_1 aPickB.eq_2 aPick.eq_1 aBox.eq_1 aBox.eq_2 aAlloc.eq_1 aAlloc.eq_2 aLoadB.eq_1 aLoadB.eq_2 aLoadB.eq_3 aLoadB.eq_4 aLoadA.eq_1 aLoadA.eq_2 aLoadA.eq_3 aLoadA.eq_4 aLoadP.eq_1 aLoadP.eq_2 aLoadP.eq_3 aLoad.eq_1 aLoad.eq_2 aFAx.eq_1 aFAx.eq_2 aFAx.eq_3 aFA.eq_1 aFA.eq_2 aFx.eq_1 aF.eq_1 aF.eq_2 fld.eq_1 elT.eq_1 aIdxH.eq_1 aIdxH.eq_2 aIdxH.eq_3 aIdxH.eq_4 aIdxP.eq_1 aIdxP.eq_2 aIndexAddr.eq_1 aIndexAddr.eq_2 aIndexAddr.eq_3 isStr.eq_1 aIndex.eq_1 aSlStr.eq_1 aSlRo.eq_1 aSlZ.eq_1 aSlZ.eq_2 aSlice.eq_1 aSlice.eq_2 aSlice.eq_3 bnd.eq_1 bnd.eq_2 aBuildO.eq_1 aBuildO.eq_2 aBuild.eq_1 aNewArr.eq_1 aNewArr.eq_2 aBS.eq_1 aBS.eq_2 aBuildSlice.eq_1 aBuildSlice.eq_2 aMakeSlice.eq_1 appDeep.eq_1 aApp2.eq_1 aAppend.eq_1 aAppend.eq_2 aStoreB.eq_1 aStoreA.eq_1 obFlat.eq_1 aStore2.eq_1 aStore2.eq_2 aStoreP.eq_1 aStoreP.eq_2 aStore.eq_1 aStore.eq_2 isShl.eq_1 isShl.eq_2 isBool.eq_1 aBinI.eq_1 aBinI.eq_2 aBinB.eq_1 aBinB.eq_2 aEq.eq_1 aEq.eq_2 aEq.eq_3 aEq.eq_4 aEqG.eq_1 aEqG.eq_2 aBin.eq_1 aBin.eq_2 aBin.eq_3 aBin.eq_4 aUn.eq_1 aUn.eq_2 aLenO.eq_1 aLenS.eq_1 aLenS.eq_2 aLenS.eq_3 aLenT.eq_1 aLen.eq_1 aLen.eq_2 aLen.eq_3 bytesOb.eq_1 bytesOb.eq_2 bytesOf.eq_1 bytesOf.eq_2 aNums.eq_1 aNums.eq_2 isU8.eq_1 aCvI.eq_1 aCvS.eq_1 aCvB.eq_1 aCvB.eq_2 aCvT.eq_1 aConv.eq_1 aConv.eq_2 aConv.eq_3 aConv.eq_4 aExO.eq_1 aExO.eq_2 aExtract.eq_1 aNil.eq_1 aNil.eq_2 aNil.eq_3 aCallS.eq_1 aCallS.eq_2 aCallR.eq_1 aCallR.eq_2 aCallK.eq_1 aCallK.eq_2 aCallK.eq_3 aCall.eq_1 aCall.eq_2 takeO.eq_1 AS.takeV.eq_1 AS.takeV.eq_2 AS.takeV.eq_3 AS.takeV.eq_4 AS.takeV.eq_5 AS.takeV.eq_6 AS.takeV.eq_7 AV.oldM.eq_1 AV.oldM.eq_2 AV.oldM.eq_3 AV.oldM.eq_4 AV.oldM.eq_5 AV.oldM.eq_6 AV.oldM.eq_7 AV.oldM.eq_8 AV.oldM.eq_9 AV.oldM.eq_10 AV.oldM.eq_11 AV.oldML.eq_1 AV.oldML.eq_2 subL.eq_1 subL.eq_2 back.eq_1 back.eq_2 back.eq_3 back.eq_4 backL.eq_1 backI.eq_1 backI.eq_2 backI.eq_3 backI.eq_4 backIL.eq_1 aBuiltin.eq_1 aBuiltin.eq_2 aBuiltin.eq_3 aCallee.eq_1 aCallee.eq_2 aCallee.eq_3 abin.eq_1 abin.eq_2 abin.eq_3 abin.eq_4 abin.eq_5 abin.eq_6 abin.eq_7 abin.eq_8 abin.eq_9 abin.eq_10 abin.eq_11 abin.eq_12 abin.eq_13 abin.eq_14 abin.eq_15 abin.eq_17 abin.eq_18 abin.eq_19 abin.eq_20 abin.eq_21 abin.eq_22 abin.eq_23 AS.ev.eq_1 AS.ev.eq_2 AS.ev.eq_3 AS.ev.eq_4 AS.evs.eq_1 AS.evs.eq_2 AS.evp.eq_1 AS.evp.eq_2 AS.put.eq_1 AS.put.eq_2 AS.remL.eq_1 AS.remL.eq_2 AV.has.eq_1 AV.has.eq_2 AV.has.eq_3 AV.has.eq_4 AV.has.eq_5 AV.has.eq_6 AV.has.eq_7 AV.has.eq_8 AV.has.eq_9 AV.has.eq_10 AV.has.eq_11 AV.hasL.eq_1 AV.hasL.eq_2 Ob.drop.eq_1 AV.cells.eq_1 AV.cells.eq_2 AV.cells.eq_3 AV.cells.eq_4 AV.cells.eq_5 AS.snapT.eq_1 AS.snapT.eq_2 AS.snapT.eq_3 AS.snapT.eq_4 AS.snapT.eq_5 AS.snapT.eq_6 AS.snapT.eq_7 AS.snap.eq_1 AS.snap.eq_2 mapO.eq_1 mapO.eq_2 intern.eq_1 intern.eq_2 intern.eq_3 intern.eq_4 intern.eq_5 intern.eq_6 intern.eq_7 intern.eq_8 intern.eq_9 intern.eq_10 intern.eq_11 internL.eq_1 internL.eq_2 zipSl.eq_1 zipSl.eq_2 AV.ids.eq_1 AV.ids.eq_2 AV.ids.eq_3 AV.ids.eq_4 AV.ids.eq_5 AV.ids.eq_6 AV.ids.eq_7 AV.ids.eq_8 AV.ids.eq_9 AV.ids.eq_10 AV.ids.eq_11 AV.idsL.eq_1 AV.idsL.eq_2 AV.sub.eq_1 AV.sub.eq_2 AV.sub.eq_3 AV.sub.eq_4 AV.sub.eq_5 AV.sub.eq_6 AV.sub.eq_7 AV.sub.eq_8 AV.sub.eq_9 AV.sub.eq_10 AV.sub.eq_11 AV.subL.eq_1 AV.subL.eq_2 AS.frzL.eq_1 AS.frzL.eq_2 AS.absT.eq_1 AS.absT.eq_2 AS.absT.eq_4 AS.absL.eq_1 AS.absL.eq_2 AS.absOk.eq_1 AS.absOkL.eq_1 AS.absOkL.eq_2 hid.eq_1 hids.eq_1 hids.eq_2 AS.appBase.eq_1 AS.appBase.eq_2 AS.appSrc.eq_1 appFits.eq_1 appFits.eq_2 appFits.eq_3 avFill.eq_1 avFill.eq_2 avc.eq_1 avc.eq_2 avc1.eq_1 Kd.agg.eq_1 Kd.agg.eq_2 okR.eq_1 okR.eq_2 okR.eq_3 okR.eq_4 okR.eq_5 okR.eq_6 okR.eq_7 okR.eq_8 zt.eq_1 rvB.eq_1 rvP.eq_1 rvA.eq_1 rvA.eq_2 rv1.eq_1 outTO.eq_1 outT.eq_1 outT.eq_2 outT.eq_3 outOO.eq_1 outO.eq_1 outO.eq_2 boxOf.eq_1 outP.eq_1 outP.eq_2 outP.eq_3 outP.eq_4 outP.eq_5 outP.eq_6 outP.eq_7 outP.eq_8 outPL.eq_1 outPL.eq_2 outI.eq_1 outI.eq_2 outI.eq_3 outI.eq_4 outI.eq_5 outIL.eq_1 outZ.eq_1 outZ.eq_2 outZ.eq_3 outZ.eq_4 outZ.eq_5 outZL.eq_1 finO.eq_1 finO.eq_2 fin.eq_1 fin.eq_2 fin.eq_3 cellAV.eq_1 numsOf.eq_1 numsOf.eq_2 aop.eq_1 aop.eq_2 aop.eq_3 aop.eq_4 aop.eq_5 aop.eq_6 aop.eq_7 aop.eq_8 aop.eq_9 aop.eq_10 aop.eq_11 aop.eq_12 aop.eq_13 aop.eq_14 aop.eq_15 aop.eq_16 aop.eq_17 aop.eq_18 aop.eq_19 aop.eq_20 aop.eq_21 aop.eq_22 aop.eq_23 aop.eq_24 aop.eq_25 aop.eq_26 tmpsOf.eq_1 tmpsOf.eq_2 tmpsOf.eq_3 tmpsOf.eq_4 tmpsOf.eq_5 AV.refs.eq_1 AV.refs.eq_2 AV.refs.eq_3 AV.refs.eq_4 AV.refs.eq_5 AV.refs.eq_6 AV.refs.eq_7 AV.refs.eq_8 AV.refs.eq_9 AV.refs.eq_10 AV.refs.eq_11 AV.refsL.eq_1 AV.refsL.eq_2 refsT.eq_1 refsT.eq_2 refsO.eq_1 refsO.eq_2 refsO.eq_3 refsO.eq_4 refsB.eq_1 refsB.eq_2 clos.eq_1 clos.eq_2 keepL.eq_1 keepL.eq_2 AV.hasM.eq_1 AV.hasM.eq_2 AV.hasM.eq_3 AV.hasM.eq_4 AV.hasM.eq_5 AV.hasM.eq_6 AV.hasM.eq_7 AV.hasM.eq_8 AV.hasM.eq_9 AV.hasM.eq_10 AV.hasM.eq_11 AV.hasML.eq_1 AV.hasML.eq_2 Ob.dropM.eq_1 Ob.dropM.eq_2 Ob.dropM.eq_3 nsC.eq_1 nsC.eq_2 okGuard.eq_1 okGuard.eq_2 AS.purges.eq_1 AS.purges.eq_2 dropMB.eq_1 dropMB.eq_2 newB.eq_1 newB.eq_2 ptB.eq_1 ptB.eq_2 lookC.eq_1 lookC.eq_2 dropB.eq_1 dropB.eq_2 leS.eq_1 leS.eq_2 leT.eq_1 leT.eq_2 AS.mvs.eq_1 AS.mvs.eq_2 AS.mvA.eq_1 AS.mvA.eq_2 AS.mvB.eq_1 aSetO.eq_1 aSetO.eq_2 aSh.eq_1 aSh.eq_2 arK.eq_1 aIdxA.eq_1 aIdxA.eq_2 arT.eq_1 aSlHB.eq_1 aSlHB.eq_2 aSlHO.eq_1 aSlHZ.eq_1 aSlHZ.eq_2 isSlT.eq_1 isNilC.eq_1 aNilO.eq_1 aNilX.eq_1 aNilX.eq_2 aNilX.eq_3 aNilC.eq_1 aNilC.eq_2 aBinQ.eq_1 aBinQ.eq_2 aMin.eq_1 flT.eq_1 flT.eq_2 mpT.eq_1 aMkMap.eq_1 aMkMap.eq_2 strA.eq_1 keyMK.eq_1 keyMK.eq_2 mkB.eq_1 mkB.eq_2 aMp2.eq_1 aMp1.eq_1 aMp0.eq_1 aMapU.eq_1 aLk2.eq_1 aLk2.eq_2 aLk1.eq_1 aLk0.eq_1 aLookup.eq_1 aLenMO.eq_1 aLenM.eq_1 glV.eq_1 glV.eq_2 evG.eq_1 evG.eq_2 evG.eq_3 evG.eq_4 run_nil run_b run_l run_skip run_label run_seq run_cond brV_b brB_t brB_f run_block run_exit run_ret run_region runX_nil runX_c runX_c' runX_b runX_b' runX_l runX_l' exB_t exB_f run_o run_op run_opg gV_b gV_t gB_tt gB_ff gB_tf gB_ft rs_eq kv KI aLenN aBS1 aApp1 aStore1 szOk gv gd s0 idOf look_cons lookC frzU_t frzU_f orT orF drop_any drop_nil drop_t drop_h drop_pb drop_pa drop_agg drop_tup drop_fn dropB kill_eq set_eq rem_eq re_eq up_eq get_eq ob_eq Ob.drop apl fpl plainTy AS.frz splice cond_true cond_false List.map_cons List.map_nil List.drop_zero List.drop_succ_cons List.drop_nil List.take_zero List.take_succ_cons List.take_nil List.getElem?_cons_zero List.getElem?_cons_succ List.getElem?_nil List.length_cons List.length_nil Option.map_some Option.map_none Option.bind_some Option.bind_none List.cons_append List.nil_append List.append_nil Option.getD_some Option.getD_none List.all_cons List.all_nil Bool.and_true Bool.true_and Bool.or_false Bool.false_or Bool.or_true Bool.true_or List.flatten_cons List.flatten_nil List.replicate_succ List.replicate_zero and_true true_and avOf_t avOf_f agg_bool agg_int agg_str agg_slice agg_struct agg_func agg_ptr agg_map avc_bool avc_int avc_str avc_fn avc1_bool avc1_int avc1_str avc1_fn zt_bool zt_int zt_str cells_nil cells_t cells_h cells_pb cells_fn snap_t snap_nil snap_h snap_pb snap_fn rv1_one rv1_two outI_t outI_oh outI_on outI_any outI_nil outZ_th outZ_tt outZ_tn outZ_o outZ_any outZ_nil outIL_nil outZL_nil finN finR ne_eq not_false_eq_true not_true_eq_false List.nodup_nil List.not_mem_nil false_implies implies_true eq_self true_or or_true Option.some.injEq shl_add shl_sub shl_mul shl_quo shl_rem shl_and shl_or shl_xor shl_andNot shl_eql shl_neq shl_lss shl_leq shl_gtr shl_geq shl_shr shl_shl appDeep_none appDeep_sn appSrc_h appSrc_nil fits_ft fits_tn fits_tf isStr_slice obFlat_box Nat.le_refl nbeq_self List.length_map updZ_s updZ_n dropM_eq purge_eq newIds_cons newIds_nil purgeT_nil purgeT_cons memN_cons memN_nil bd_d bd_c bd_g bd_p bd_t bd_o preds_nil preds_cons run_draw hasIns insB List.any_cons List.any_nil adK_eq adr_nil adr_cons adG_eq kdOp noLen creates Op.operands Call.operands nsOf adT adI adJ plainB rst List.append_eq nsD_f nsD_n nsD_t nOf_0 nOf_1 nOf_2 chO_0 chO_1 chO_2 keepK_0 keepK_1 keepK_2 eqRes AS.mv fits KM aCallM notNew kdCall arK_i64 arK_i32 arK_u8 arK_u64 arT_sl isNilC_t isNilC_f isNilC_g isNilC_i isNilC_b isNilC_s isNilC_a isNilC_n andBF andBT aCallK_2 ble_dec hid_t hid_nil hid_any hid_pb hid_fn absOk_t absOk_nil absOk_pb absOk_h absOkO_1 decide_true decide_false Array.toList_append chunk_0 chunk_1 chunk_2 chunk_3 back_t back_nil back_ht backL_nil backI_t backI_nil backI_ht backIL_nil AS.mvJ nbeq_dec
attribute [local go_sem] ty3 ty4 ty5 ty9 ty22 ty24 ty25 ty26 ty28 ty31 ty32 ty34 ty37 ty64 ty72 ty118 ty134 ty136 ty164 ty167 lv31 zb4 leS leT fits AS.mvs encStr_eq encAd_eq encRu_eq aIdx_str aIdx_Ad aIdx_Ru EAd_dec EMl_dec ERu_dec EStr_dec mkMl.eq_1 decStrs decAds decRus decStrs0 decAds0 decRus0 EStr_enc EAd_enc EMl_enc ERu_enc lc_enc l0_enc asl_enc ag_enc aow_enc ABool_enc AInt_enc AStr_enc AU8_enc ABool_dec AInt_dec AStr_dec AU8_dec asl_dec ag_dec aow_dec bind_some pr2.eq_1 l0_nil lc_cons unT.eq_1 K0.eq_1 M0.eq_1 KI AllV_Str AllV_Ad AllV_Ru len_Str len_Ad len_Ru Ad_eta Ru_eta Ml_eta

section
open Go.Lib
theorem ib_cases (s : ByteArray) (c : UInt8) : indexByte (bl s) c = -1 ∨ ∃ o : Nat, indexByte (bl s) c = o ∧ o < s.size := by
  have hge := indexByte_ge (bl s) c
  by_cases h : indexByte (bl s) c = -1
  · exact .inl h
  · obtain ⟨o, ho⟩ : ∃ o : Nat, indexByte (bl s) c = o := ⟨(indexByte (bl s) c).toNat, by omega⟩
    refine .inr ⟨o, ho, ?_⟩
    obtain ⟨h1, _⟩ := indexByte_some ho
    exact (List.getElem?_eq_some_iff.1 h1).1
theorem byte_back2 (sub : ByteArray) (h : 0 < sub.size) : UInt8.ofNat (byteAt sub 0).toNat = ((sub[0].toNat : Int)).toNat.toUInt8 := by rw [byteAt_get sub 0 h]
theorem ix_ne {s sub : ByteArray} {k j : Nat} (hk : k < s.size) (hj : j < sub.size) (h : ¬ byteAt s k = byteAt sub j) : ((((s[k].toNat : Nat) : Int)) != ((sub[j].toNat : Nat) : Int)) = true := by
  rw [byteAt_get s k hk, byteAt_get sub j hj] at h
  simpa using h
theorem ix_skip_none {s sub : ByteArray} {k : Nat} (h2 : 2 ≤ sub.size) (hls : sub.size ≤ s.size) (hk : k < s.size) (hno : NoOccB s sub k) (hne : ¬ byteAt s k = byteAt sub 0) (hib : indexByte (bl (s.extract (k + 1) (s.size - sub.size + 1))) (UInt8.ofNat (byteAt sub 0).toNat) = -1) : indexB s sub = -1 :=
  skip_none s sub k h2 hls hk hno (ix_ne hk (by omega) hne) (by rw [byte_back2 sub (by omega)] at hib; exact hib)
theorem ix_skip_some {s sub : ByteArray} {k o : Nat} (h2 : 2 ≤ sub.size) (hk : k < s.size) (hno : NoOccB s sub k) (hne : ¬ byteAt s k = byteAt sub 0) (hib : indexByte (bl (s.extract (k + 1) (s.size - sub.size + 1))) (UInt8.ofNat (byteAt sub 0).toNat) = o) : NoOccB s sub (k + (o + 1)) :=
  skip_some s sub k o h2 hk hno (ix_ne hk (by omega) hne) (by rw [byte_back2 sub (by omega)] at hib; exact hib)
theorem ix_second {s sub : ByteArray} {i : Nat} (hno : NoOccB s sub i) (h2 : 2 ≤ sub.size) (hi : i + 1 < s.size) (hne : ¬ byteAt s (i + 1) = byteAt sub 1) : NoOccB s sub (i + 1) :=
  miss_second s sub i hno h2 hi (by rw [byteAt_get s _ hi, byteAt_get sub 1 (by omega)] at hne; exact hne)
theorem ix_piece {s sub : ByteArray} {i : Nat} (hno : NoOccB s sub i) (hi : i + sub.size ≤ s.size) (h : ¬ s.extract i (i + sub.size) = sub) : NoOccB s sub (i + 1) := miss_piece s sub i hno hi (beq_of_ne h)
theorem ix_bound (s sub : ByteArray) (a : Nat) : -1 ≤ indexB (s.extract a s.size) sub ∧ indexB (s.extract a s.size) sub ≤ s.size := ⟨index_ge _ _, index_tail_le s sub a⟩
theorem ix_one {s sub : ByteArray} (h : sub.size = 1) : indexByte (bl s) (UInt8.ofNat (byteAt sub 0).toNat) = indexB s sub := by
  rw [one s sub h, byte_back2 sub (by omega)]; rfl
theorem ix_zero {s sub : ByteArray} (h : sub.size = 0 ∨ sub = s) : indexB s sub = 0 := zero s sub (by
  rcases h with h | h
  · exact .inl (by rw [h]; rfl)
  · exact .inr (beq_of_eq h))
theorem ix_fb {s sub : ByteArray} {k : Nat} (hno : NoOccB s sub k) (hk : k ≤ s.size) : indexB s sub = if indexB (s.extract k s.size) sub < 0 then -1 else indexB (s.extract k s.size) sub + k := by
  split
  · exact fb_neg s sub k hno hk (r := indexB (s.extract k s.size) sub) rfl (by assumption) (ix_bound s sub k).1
  · exact fb_pos s sub k hno hk (r := indexB (s.extract k s.size) sub) rfl (by omega)
theorem ivc {k : IntKind} {x y : Int} (h : x = y) : T.v (.int k x) = T.v (.int k y) := by rw [h]
theorem ix_long {s sub : ByteArray} (h1 : s.size ≤ sub.size) (h2 : ¬ sub = s) : indexB s sub = -1 := long s sub h1 (beq_of_ne h2)
end
def c140 : Ct := ctR (lc AStr (lc AStr l0)) (fun p => p.2.1.size ≤ 2000000 ∧ p.1.size ≤ 2000000) (fun p => .t (.v (.int .i64 (Lib.indexB p.1 p.2.1))))
theorem c140_eq {args : List AV} {K : AV → Prop} : c140 args K = K0 (fun p => p.2.1.size ≤ 2000000 ∧ p.1.size ≤ 2000000) (fun p => .t (.v (.int .i64 (Lib.indexB p.1 p.2.1)))) K ((lc AStr (lc AStr l0)).dec args) := rfl
set_option maxHeartbeats 8000000 in
theorem good140 {G : Gt} (hG : GOk Tryz.prog G ∧ GDet G) (h147 : G.e 147 = roEnt 0 c147) (h148 : G.e 148 = roEnt 3 (c148 G.m)) (h149 : G.e 149 = roEnt 0 c149) (h150 : G.e 150 = roEnt 0 c150) : Good Tryz.prog G.m 140 (roEnt 0 c140) := by
  refine good_run (dp := fun _ => true) (fn := Tryz.f140) (n := 2) (fun _ => rfl) (by kernel_rfl) rfl (by kernel_rfl) hmix hG (Nat.le_of_ble_eq_true rfl) (by kernel_rfl) (by decide) (fun _ _ => .v _) ?_
  have k147 : (G.e 147).kd = 0 := by rw [h147]; rfl
  have m147 : (G.e 147).ro = c147 := by rw [h147]; rfl
  have k148 : (G.e 148).kd = 3 := by rw [h148]; rfl
  have m148 : (G.e 148).ro = c148 G.m := by rw [h148]; rfl
  have k149 : (G.e 149).kd = 0 := by rw [h149]; rfl
  have m149 : (G.e 149).ro = c149 := by rw [h149]; rfl
  have k150 : (G.e 150).kd = 0 := by rw [h150]; rfl
  have m150 : (G.e 150).ro = c150 := by rw [h150]; rfl
  rintro ⟨s, sub, ⟨⟩⟩ hpre
  simp -implicitDefEqProofs only [Tryz.f140, go_sem, k147, m147, c147_eq, k148, m148, c148_eq, k149, m149, c149_eq, k150, m150, c150_eq, glb, eq_self, decide_true, Bool.not_true, Bool.not_false, Nat.reduceAdd, Nat.reduceMul, Nat.reduceLeDiff, Nat.reduceEqDiff, reduceCtorEq, Nat.reduceSub, Int.reduceNeg, Nat.reduceMod, Nat.reduceBEq, Nat.reduceLT] at hpre ⊢

  repeat' (first | with_reducible apply And.intro | with_reducible intro _ | (refine brB_split (fun hb => ?_) (fun hb => ?_) <;> simp -implicitDefEqProofs only [hb, go_sem, k147, m147, c147_eq, k148, m148, c148_eq, k149, m149, c149_eq, k150, m150, c150_eq, glb, eq_self, decide_true, Bool.not_true, Bool.not_false, Nat.reduceAdd, Nat.reduceMul, Nat.reduceLeDiff, Nat.reduceEqDiff, reduceCtorEq, Nat.reduceSub, Int.reduceNeg, Nat.reduceMod, Nat.reduceBEq, Nat.reduceLT] <;> try simp only [bOf_t, bOf_f, decide_eq_true_eq, decide_eq_false_iff_not, Bool.not_eq_true', Bool.not_eq_false', Bool.not_eq_true, Bool.not_eq_false, Decidable.not_not] at hb) | (refine aPickB_split (fun hb => ?_) (fun hb => ?_) <;> simp -implicitDefEqProofs only [hb, go_sem, k147, m147, c147_eq, k148, m148, c148_eq, k149, m149, c149_eq, k150, m150, c150_eq, glb, eq_self, decide_true, Bool.not_true, Bool.not_false, Nat.reduceAdd, Nat.reduceMul, Nat.reduceLeDiff, Nat.reduceEqDiff, reduceCtorEq, Nat.reduceSub, Int.reduceNeg, Nat.reduceMod, Nat.reduceBEq, Nat.reduceLT] <;> try simp only [bOf_t, bOf_f, decide_eq_true_eq, decide_eq_false_iff_not, Bool.not_eq_true', Bool.not_eq_false', Bool.not_eq_true, Bool.not_eq_false, Decidable.not_not] at hb) | (refine gB_split (fun hb => ?_) (fun hb => ?_) <;> simp -implicitDefEqProofs only [hb, go_sem, k147, m147, c147_eq, k148, m148, c148_eq, k149, m149, c149_eq, k150, m150, c150_eq, glb, eq_self, decide_true, Bool.not_true, Bool.not_false, Nat.reduceAdd, Nat.reduceMul, Nat.reduceLeDiff, Nat.reduceEqDiff, reduceCtorEq, Nat.reduceSub, Int.reduceNeg, Nat.reduceMod, Nat.reduceBEq, Nat.reduceLT] <;> try simp only [bOf_t, bOf_f, decide_eq_true_eq, decide_eq_false_iff_not, Bool.not_eq_true', Bool.not_eq_false', Bool.not_eq_true, Bool.not_eq_false, Decidable.not_not] at hb))
  all_goals (try simp only [maxLen, Int.toNat_natCast] at *)
  all_goals first | rfl | omega | skip
  · rw [ix_zero (.inl (by omega))]
  · rename_i hb; rw [ix_zero (.inr hb)]
  · rw [← ix_one (s := s) (sub := sub) (by omega)]; rfl
  · rw [ix_long (by omega) (by assumption)]
  all_goals
    have h2 : 2 ≤ sub.size := by omega
    have hls : sub.size < s.size := by omega
    refine run_loop [] (ι := {p : Nat × Nat // p.1 ≤ s.size - sub.size + 1 ∧ Lib.NoOccB s sub p.1 ∧ p.2 ≤ p.1}) (fun p => ⟨[(0, .t (.v (.string s))), (1, .t (.v (.string sub))), (5, .t (.v (.int .i64 sub.size))), (6, .t (.v (.int .u8 (byteAt sub 0)))), (7, .t (.v (.int .u8 (byteAt sub 1)))), (8, .t (.v (.int .i64 p.1.1))), (9, .t (.v (.int .i64 (s.size - sub.size + 1)))), (10, .t (.v (.int .i64 p.1.2)))], []⟩) (fun p => s.size - p.1.1) ⟨(0, 0), by dsimp only; omega, (fun j hj => absurd hj (Nat.not_lt_zero _)), by dsimp only; omega⟩ rfl ?_ ?_
    · simp -implicitDefEqProofs only [go_sem, k147, m147, c147_eq, k148, m148, c148_eq, k149, m149, c149_eq, k150, m150, c150_eq, glb, eq_self, decide_true, Bool.not_true, Bool.not_false, Nat.reduceAdd, Nat.reduceMul, Nat.reduceLeDiff, Nat.reduceEqDiff, reduceCtorEq, Nat.reduceSub, Int.reduceNeg, Nat.reduceMod, Nat.reduceBEq, Nat.reduceLT]
      simp
    · rintro ⟨⟨i, f⟩, hi, hno, hf⟩
      dsimp only at hi hno hf
      have et : ((s.size : Int) - sub.size + 1).toNat = s.size - sub.size + 1 := by omega
      have ei : ((i : Int) + 1).toNat = i + 1 := by omega
      by_cases ht : (i : Int) < s.size - sub.size + 1
      · by_cases e0 : byteAt s (i : Int).toNat = byteAt sub 0
        · have e1 : ((i : Int) + sub.size).toNat = i + sub.size := by omega
          simp -implicitDefEqProofs only [ht, e0, go_sem, k147, m147, c147_eq, k148, m148, c148_eq, k149, m149, c149_eq, k150, m150, c150_eq, glb, eq_self, decide_true, Bool.not_true, Bool.not_false, Nat.reduceAdd, Nat.reduceMul, Nat.reduceLeDiff, Nat.reduceEqDiff, reduceCtorEq, Nat.reduceSub, Int.reduceNeg, Nat.reduceMod, Nat.reduceBEq, Nat.reduceLT]
          repeat' (first | with_reducible apply And.intro | with_reducible intro _ | (refine brB_split (fun hb => ?_) (fun hb => ?_) <;> simp -implicitDefEqProofs only [hb, go_sem, k147, m147, c147_eq, k148, m148, c148_eq, k149, m149, c149_eq, k150, m150, c150_eq, glb, eq_self, decide_true, Bool.not_true, Bool.not_false, Nat.reduceAdd, Nat.reduceMul, Nat.reduceLeDiff, Nat.reduceEqDiff, reduceCtorEq, Nat.reduceSub, Int.reduceNeg, Nat.reduceMod, Nat.reduceBEq, Nat.reduceLT] <;> try simp only [bOf_t, bOf_f, decide_eq_true_eq, decide_eq_false_iff_not, Bool.not_eq_true', Bool.not_eq_false', Bool.not_eq_true, Bool.not_eq_false, Decidable.not_not] at hb) | (refine aPickB_split (fun hb => ?_) (fun hb => ?_) <;> simp -implicitDefEqProofs only [hb, go_sem, k147, m147, c147_eq, k148, m148, c148_eq, k149, m149, c149_eq, k150, m150, c150_eq, glb, eq_self, decide_true, Bool.not_true, Bool.not_false, Nat.reduceAdd, Nat.reduceMul, Nat.reduceLeDiff, Nat.reduceEqDiff, reduceCtorEq, Nat.reduceSub, Int.reduceNeg, Nat.reduceMod, Nat.reduceBEq, Nat.reduceLT] <;> try simp only [bOf_t, bOf_f, decide_eq_true_eq, decide_eq_false_iff_not, Bool.not_eq_true', Bool.not_eq_false', Bool.not_eq_true, Bool.not_eq_false, Decidable.not_not] at hb) | (refine gB_split (fun hb => ?_) (fun hb => ?_) <;> simp -implicitDefEqProofs only [hb, go_sem, k147, m147, c147_eq, k148, m148, c148_eq, k149, m149, c149_eq, k150, m150, c150_eq, glb, eq_self, decide_true, Bool.not_true, Bool.not_false, Nat.reduceAdd, Nat.reduceMul, Nat.reduceLeDiff, Nat.reduceEqDiff, reduceCtorEq, Nat.reduceSub, Int.reduceNeg, Nat.reduceMod, Nat.reduceBEq, Nat.reduceLT] <;> try simp only [bOf_t, bOf_f, decide_eq_true_eq, decide_eq_false_iff_not, Bool.not_eq_true', Bool.not_eq_false', Bool.not_eq_true, Bool.not_eq_false, Decidable.not_not] at hb))
          all_goals (try simp only [maxLen, Int.toNat_natCast, Int.reduceToNat, ei, et, e1] at *)
          all_goals first | rfl | omega | skip
          all_goals first
            | (rw [Lib.hit s sub i hno (by omega) (beq_of_eq (by assumption))]; done)
            | (rw [ByteArray.size_extract]; omega)
            | (have hk2 : Lib.NoOccB s sub (i + 1) := by
                 first
                   | exact ix_piece hno (by omega) (by assumption)
                   | exact ix_second hno h2 (by omega) (by assumption)
               have hbd := ix_bound s sub (i + 1)
               first
                 | omega
                 | (refine ivc ?_
                    rw [ix_fb hk2 (by omega)]
                    first
                      | (rw [if_pos (by omega)]; done)
                      | (rw [if_neg (by omega)]; omega))
                 | (refine ⟨⟨(i + 1, f + 1), by dsimp only; omega, hk2, by dsimp only; omega⟩, by dsimp only; omega, ?_⟩
                    simp -implicitDefEqProofs only [go_sem, k147, m147, c147_eq, k148, m148, c148_eq, k149, m149, c149_eq, k150, m150, c150_eq, glb, eq_self, decide_true, Bool.not_true, Bool.not_false, Nat.reduceAdd, Nat.reduceMul, Nat.reduceLeDiff, Nat.reduceEqDiff, reduceCtorEq, Nat.reduceSub, Int.reduceNeg, Nat.reduceMod, Nat.reduceBEq, Nat.reduceLT]
                    simp))
        · have hz : True := trivial
          rcases ib_cases (s.extract ((i : Int) + 1).toNat ((s.size : Int) - sub.size + 1).toNat) (UInt8.ofNat (byteAt sub (Int.toNat 0)).toNat) with h | ⟨o, h, ho⟩
          · have h' : Lib.indexByte (bl (s.extract ((i : Int) + 1).toNat ((s.size : Int) - sub.size + 1).toNat)) (UInt8.ofNat (byteAt sub 0).toNat) = -1 := h
            simp -implicitDefEqProofs only [ht, e0, h', go_sem, k147, m147, c147_eq, k148, m148, c148_eq, k149, m149, c149_eq, k150, m150, c150_eq, glb, eq_self, decide_true, Bool.not_true, Bool.not_false, Nat.reduceAdd, Nat.reduceMul, Nat.reduceLeDiff, Nat.reduceEqDiff, reduceCtorEq, Nat.reduceSub, Int.reduceNeg, Nat.reduceMod, Nat.reduceBEq, Nat.reduceLT]
            repeat' (first | with_reducible apply And.intro | with_reducible intro _ | (refine brB_split (fun hb => ?_) (fun hb => ?_) <;> simp -implicitDefEqProofs only [hb, go_sem, k147, m147, c147_eq, k148, m148, c148_eq, k149, m149, c149_eq, k150, m150, c150_eq, glb, eq_self, decide_true, Bool.not_true, Bool.not_false, Nat.reduceAdd, Nat.reduceMul, Nat.reduceLeDiff, Nat.reduceEqDiff, reduceCtorEq, Nat.reduceSub, Int.reduceNeg, Nat.reduceMod, Nat.reduceBEq, Nat.reduceLT] <;> try simp only [bOf_t, bOf_f, decide_eq_true_eq, decide_eq_false_iff_not, Bool.not_eq_true', Bool.not_eq_false', Bool.not_eq_true, Bool.not_eq_false, Decidable.not_not] at hb) | (refine aPickB_split (fun hb => ?_) (fun hb => ?_) <;> simp -implicitDefEqProofs only [hb, go_sem, k147, m147, c147_eq, k148, m148, c148_eq, k149, m149, c149_eq, k150, m150, c150_eq, glb, eq_self, decide_true, Bool.not_true, Bool.not_false, Nat.reduceAdd, Nat.reduceMul, Nat.reduceLeDiff, Nat.reduceEqDiff, reduceCtorEq, Nat.reduceSub, Int.reduceNeg, Nat.reduceMod, Nat.reduceBEq, Nat.reduceLT] <;> try simp only [bOf_t, bOf_f, decide_eq_true_eq, decide_eq_false_iff_not, Bool.not_eq_true', Bool.not_eq_false', Bool.not_eq_true, Bool.not_eq_false, Decidable.not_not] at hb) | (refine gB_split (fun hb => ?_) (fun hb => ?_) <;> simp -implicitDefEqProofs only [hb, go_sem, k147, m147, c147_eq, k148, m148, c148_eq, k149, m149, c149_eq, k150, m150, c150_eq, glb, eq_self, decide_true, Bool.not_true, Bool.not_false, Nat.reduceAdd, Nat.reduceMul, Nat.reduceLeDiff, Nat.reduceEqDiff, reduceCtorEq, Nat.reduceSub, Int.reduceNeg, Nat.reduceMod, Nat.reduceBEq, Nat.reduceLT] <;> try simp only [bOf_t, bOf_f, decide_eq_true_eq, decide_eq_false_iff_not, Bool.not_eq_true', Bool.not_eq_false', Bool.not_eq_true, Bool.not_eq_false, Decidable.not_not] at hb))
            all_goals (try simp only [maxLen] at *)
            all_goals first | rfl | omega | skip
            rw [ei, et] at h'
            rw [Int.toNat_natCast] at e0
            rw [ix_skip_none (k := i) h2 (by omega) (by omega) hno e0 h']
          · have h' : Lib.indexByte (bl (s.extract ((i : Int) + 1).toNat ((s.size : Int) - sub.size + 1).toNat)) (UInt8.ofNat (byteAt sub 0).toNat) = o := h
            have ho' : i + (o + 1) < s.size - sub.size + 1 := by
              rw [ei, et, ByteArray.size_extract] at ho; omega
            have hno' : Lib.NoOccB s sub (i + (o + 1)) := by
              rw [ei, et] at h'
              rw [Int.toNat_natCast] at e0
              exact ix_skip_some (k := i) h2 (by omega) hno e0 h'
            have e4 : ((i : Int) + ((o : Int) + 1)) = ((i + (o + 1) : Nat) : Int) := by omega
            simp -implicitDefEqProofs only [ht, e0, h', e4, go_sem, k147, m147, c147_eq, k148, m148, c148_eq, k149, m149, c149_eq, k150, m150, c150_eq, glb, eq_self, decide_true, Bool.not_true, Bool.not_false, Nat.reduceAdd, Nat.reduceMul, Nat.reduceLeDiff, Nat.reduceEqDiff, reduceCtorEq, Nat.reduceSub, Int.reduceNeg, Nat.reduceMod, Nat.reduceBEq, Nat.reduceLT]
            have hik : i ≤ i + (o + 1) := by omega
            have hob : o ≤ 2000000 := by omega
            clear h h' ho e0
            generalize i + (o + 1) = k at *
            have ek : ((k : Int) + 1).toNat = k + 1 := by omega
            have e1 : ((k : Int) + sub.size).toNat = k + sub.size := by omega
            repeat' (first | with_reducible apply And.intro | with_reducible intro _ | (refine brB_split (fun hb => ?_) (fun hb => ?_) <;> simp -implicitDefEqProofs only [hb, go_sem, k147, m147, c147_eq, k148, m148, c148_eq, k149, m149, c149_eq, k150, m150, c150_eq, glb, eq_self, decide_true, Bool.not_true, Bool.not_false, Nat.reduceAdd, Nat.reduceMul, Nat.reduceLeDiff, Nat.reduceEqDiff, reduceCtorEq, Nat.reduceSub, Int.reduceNeg, Nat.reduceMod, Nat.reduceBEq, Nat.reduceLT] <;> try simp only [bOf_t, bOf_f, decide_eq_true_eq, decide_eq_false_iff_not, Bool.not_eq_true', Bool.not_eq_false', Bool.not_eq_true, Bool.not_eq_false, Decidable.not_not] at hb) | (refine aPickB_split (fun hb => ?_) (fun hb => ?_) <;> simp -implicitDefEqProofs only [hb, go_sem, k147, m147, c147_eq, k148, m148, c148_eq, k149, m149, c149_eq, k150, m150, c150_eq, glb, eq_self, decide_true, Bool.not_true, Bool.not_false, Nat.reduceAdd, Nat.reduceMul, Nat.reduceLeDiff, Nat.reduceEqDiff, reduceCtorEq, Nat.reduceSub, Int.reduceNeg, Nat.reduceMod, Nat.reduceBEq, Nat.reduceLT] <;> try simp only [bOf_t, bOf_f, decide_eq_true_eq, decide_eq_false_iff_not, Bool.not_eq_true', Bool.not_eq_false', Bool.not_eq_true, Bool.not_eq_false, Decidable.not_not] at hb) | (refine gB_split (fun hb => ?_) (fun hb => ?_) <;> simp -implicitDefEqProofs only [hb, go_sem, k147, m147, c147_eq, k148, m148, c148_eq, k149, m149, c149_eq, k150, m150, c150_eq, glb, eq_self, decide_true, Bool.not_true, Bool.not_false, Nat.reduceAdd, Nat.reduceMul, Nat.reduceLeDiff, Nat.reduceEqDiff, reduceCtorEq, Nat.reduceSub, Int.reduceNeg, Nat.reduceMod, Nat.reduceBEq, Nat.reduceLT] <;> try simp only [bOf_t, bOf_f, decide_eq_true_eq, decide_eq_false_iff_not, Bool.not_eq_true', Bool.not_eq_false', Bool.not_eq_true, Bool.not_eq_false, Decidable.not_not] at hb))
            all_goals (try simp only [maxLen, Int.toNat_natCast, Int.reduceToNat, ei, et, e1, ek, e4] at *)
            all_goals first | rfl | omega | skip
            all_goals first
              | (rw [Lib.hit s sub k hno' (by omega) (beq_of_eq (by assumption))]; done)
              | (rw [ByteArray.size_extract]; omega)
              | (have hk2 : Lib.NoOccB s sub (k + 1) := by
                   first
                     | exact ix_piece hno' (by omega) (by assumption)
                     | exact ix_second hno' h2 (by omega) (by assumption)
                 have hbd := ix_bound s sub (k + 1)
                 first
                   | omega
                   | (refine ivc ?_
                      rw [ix_fb hk2 (by omega)]
                      first
                        | (rw [if_pos (by omega)]; done)
                        | (rw [if_neg (by omega)]; omega))
                   | (refine ⟨⟨(k + 1, f + 1), by dsimp only; omega, hk2, by dsimp only; omega⟩, by dsimp only; omega, ?_⟩
                      simp -implicitDefEqProofs only [go_sem, k147, m147, c147_eq, k148, m148, c148_eq, k149, m149, c149_eq, k150, m150, c150_eq, glb, eq_self, decide_true, Bool.not_true, Bool.not_false, Nat.reduceAdd, Nat.reduceMul, Nat.reduceLeDiff, Nat.reduceEqDiff, reduceCtorEq, Nat.reduceSub, Int.reduceNeg, Nat.reduceMod, Nat.reduceBEq, Nat.reduceLT]
                      simp))
  
      · simp -implicitDefEqProofs only [ht, go_sem, k147, m147, c147_eq, k148, m148, c148_eq, k149, m149, c149_eq, k150, m150, c150_eq, glb, eq_self, decide_true, Bool.not_true, Bool.not_false, Nat.reduceAdd, Nat.reduceMul, Nat.reduceLeDiff, Nat.reduceEqDiff, reduceCtorEq, Nat.reduceSub, Int.reduceNeg, Nat.reduceMod, Nat.reduceBEq, Nat.reduceLT]
        rw [Lib.past s sub i hno (by omega) (by omega)]


section
open Go.Lib
theorem eq_of_beqL {a b : ByteArray} (h : (a.toList == b.toList) = true) : a = b := by
  by_cases e : a = b
  · exact e
  · rw [beq_of_ne e] at h; cases h
def spA (c : UInt8) : List UInt8 → List (List UInt8)
  | [] => [[]]
  | x :: r => if x = c then [] :: spA c r else match spA c r with | h :: t => (x :: h) :: t | [] => [[x]]
def spl (s : ByteArray) (c : UInt8) : List ByteArray := (spA c (bl s)).map mB
theorem spA_len (c : UInt8) : ∀ l : List UInt8, (spA c l).length = l.count c + 1
  | [] => rfl
  | x :: r => by
    have h := spA_len c r
    rw [spA]
    by_cases e : x = c
    · rw [if_pos e, e, List.count_cons_self]; simp [h]
    · rw [if_neg e, List.count_cons_of_ne e]
      cases hs : spA c r with
      | nil => rw [hs] at h; simp at h
      | cons a t => rw [hs] at h; simp at h ⊢; exact h
theorem spA_none {c : UInt8} : ∀ {l : List UInt8}, (∀ j : Nat, l[j]? ≠ some c) → spA c l = [l]
  | [], _ => rfl
  | x :: r, h => by
    rw [spA, if_neg (fun e => h 0 (by rw [e]; rfl)), spA_none (fun j => h (j + 1))]
theorem spA_first {c : UInt8} : ∀ (o : Nat) (l : List UInt8), l[o]? = some c → (∀ k : Nat, k < o → l[k]? ≠ some c) → spA c l = l.take o :: spA c (l.drop (o + 1))
  | 0, l, h, _ => by
    cases l with
    | nil => cases h
    | cons x r => simp at h; rw [spA, if_pos h]; rfl
  | o + 1, l, h, hk => by
    cases l with
    | nil => cases h
    | cons x r =>
      rw [spA, if_neg (fun e => hk 0 (by omega) (by rw [e]; rfl)), spA_first o r h (fun k q => hk (k + 1) (by omega))]
      rfl
theorem splitN_spA {c : UInt8} : ∀ (l : List UInt8) (m : Nat), (splitN c m l).length ≤ m ∨ (spA c l).length ≤ m → splitN c m l = spA c l
  | l, 0, h => by
    have := spA_len c l
    rw [splitN] at h
    rcases h with h | h
    · exact absurd h (by simp)
    · omega
  | [], m + 1, _ => by rw [splitN, spA]
  | x :: r, m + 1, h => by
    rw [splitN, spA] at h ⊢
    by_cases e : x = c
    · rw [if_pos e, if_pos e] at h ⊢
      rw [splitN_spA r m (by simp at h; exact h)]
    · rw [if_neg e, if_neg e] at h ⊢
      have h2 : (splitN c (m + 1) r).length ≤ m + 1 ∨ (spA c r).length ≤ m + 1 := by
        rcases h with h | h
        · cases hs : splitN c (m + 1) r with
          | nil => exact .inl (by simp)
          | cons a t => rw [hs] at h; exact .inl (by simpa using h)
        · cases hs : spA c r with
          | nil => exact .inr (by simp)
          | cons a t => rw [hs] at h; exact .inr (by simpa using h)
      rw [splitN_spA r (m + 1) h2]
      cases spA c r <;> rfl
theorem Dom_spl (s : ByteArray) : Dom s ↔ (∀ w ∈ spl s 46, Lbl w) ∧ (spl s 46).length ≤ 3 := by
  unfold Dom cutL spl
  constructor
  · rintro ⟨h1, h2⟩
    rw [List.length_map] at h2
    rw [splitN_spA _ _ (.inl h2)] at h1 h2
    exact ⟨h1, by rw [List.length_map]; exact h2⟩
  · rintro ⟨h1, h2⟩
    rw [List.length_map] at h2
    rw [← splitN_spA _ _ (.inr h2)] at h1 h2
    exact ⟨h1, by rw [List.length_map]; exact h2⟩
theorem indexByte_none : ∀ {l : List UInt8} {c : UInt8}, indexByte l c = -1 → ∀ j : Nat, l[j]? ≠ some c
  | [], c, _, j => by simp
  | b :: l, c, h, j => by
    have hge := indexByte_ge l c
    unfold indexByte at h
    by_cases e : b = c
    · rw [if_pos (by simp [e])] at h; cases h
    · rw [if_neg (by simp [e])] at h
      by_cases e2 : indexByte l c = -1
      · cases j with
        | zero => simp [e]
        | succ j => exact indexByte_none e2 j
      · rw [if_neg (by simp [e2])] at h; omega
theorem spl_none {s sep : ByteArray} (h1 : sep.size = 1) (h : indexB s sep = -1) : spl s (UInt8.ofNat (byteAt sep 0).toNat) = [s] := by
  rw [← ix_one h1] at h
  unfold spl
  rw [spA_none (indexByte_none h)]
  rfl
theorem spl_some {s sep : ByteArray} (h1 : sep.size = 1) {o : Nat} (h : indexB s sep = o) : o < s.size ∧ spl s (UInt8.ofNat (byteAt sep 0).toNat) = s.extract 0 o :: spl (s.extract (o + 1) s.size) (UInt8.ofNat (byteAt sep 0).toNat) := by
  rw [← ix_one h1] at h
  obtain ⟨ha, hb⟩ := indexByte_some h
  refine ⟨(List.getElem?_eq_some_iff.1 ha).1, ?_⟩
  unfold spl
  rw [spA_first o _ ha hb, List.map_cons, bl_extract s (o + 1) s.size, List.take_of_length_le (l := (bl s).drop (o + 1)) (by rw [List.length_drop, bl_len]; exact Nat.le_refl _)]
  rw [extract_mk s 0 o]; rfl
theorem fill_set {α : Type} (enc : α → List T) (d x : α) (p : List α) (n : Nat) : ((p ++ List.replicate (n + 1) d).map enc).set p.length (enc x) = ((p ++ [x]) ++ List.replicate n d).map enc := by
  rw [← List.map_set, List.set_append_right _ _ (Nat.le_refl _), Nat.sub_self, List.replicate_succ, List.set_cons_zero, List.append_assoc]; rfl
theorem fillS {t : ByteArray} {p : List ByteArray} {n : Nat} : ((p ++ List.replicate (n + 1) (⟨#[]⟩ : ByteArray)).map encStr).set p.length [T.v (.string t)] = ((p ++ [t]) ++ List.replicate n (⟨#[]⟩ : ByteArray)).map encStr := fill_set encStr _ t p n
theorem spl_len (s : ByteArray) (c : UInt8) : (spl s c).length = countByte (bl s) c + 1 := by
  unfold spl; rw [List.length_map, spA_len]; rfl
theorem cnt_le (s : ByteArray) (c : UInt8) : countByte (bl s) c ≤ s.size := by
  have := List.count_le_length (a := c) (l := bl s)
  exact this
theorem spl_cases {s sep : ByteArray} (h1 : sep.size = 1) : (indexB s sep = -1 ∧ countByte (bl s) (UInt8.ofNat (byteAt sep 0).toNat) = 0 ∧ spl s (UInt8.ofNat (byteAt sep 0).toNat) = [s]) ∨ ∃ o : Nat, indexB s sep = o ∧ o < s.size ∧ spl s (UInt8.ofNat (byteAt sep 0).toNat) = s.extract 0 o :: spl (s.extract (o + 1) s.size) (UInt8.ofNat (byteAt sep 0).toNat) ∧ countByte (bl s) (UInt8.ofNat (byteAt sep 0).toNat) = countByte (bl (s.extract (o + 1) s.size)) (UInt8.ofNat (byteAt sep 0).toNat) + 1 := by
  have hge := index_ge (bl s) (bl sep)
  by_cases h : indexB s sep = -1
  · refine .inl ⟨h, ?_, spl_none h1 h⟩
    have := spl_len s (UInt8.ofNat (byteAt sep 0).toNat)
    rw [spl_none h1 h] at this
    simp at this; exact this
  · have hge' : -1 ≤ indexB s sep := hge
    obtain ⟨o, ho⟩ : ∃ o : Nat, indexB s sep = o := ⟨(indexB s sep).toNat, by omega⟩
    obtain ⟨a, b⟩ := spl_some h1 ho
    refine .inr ⟨o, ho, a, b, ?_⟩
    have q1 := spl_len s (UInt8.ofNat (byteAt sep 0).toNat)
    have q2 := spl_len (s.extract (o + 1) s.size) (UInt8.ofNat (byteAt sep 0).toNat)
    rw [b, List.length_cons, q2] at q1
    omega
theorem Has_index (s p : ByteArray) : 0 ≤ indexB s p ↔ Has s p := by
  constructor
  · intro h
    rcases index_spec (bl s) (bl p) with ⟨h1, _⟩ | ⟨i, h1, h2, h3, h4⟩
    · have : indexB s p = -1 := h1
      omega
    · have hr := index_room (bl s) (bl p) (by rw [h1]; omega)
      have hi : i + p.size ≤ s.size := by
        rw [h1, bl_len, bl_len] at hr; omega
      refine ⟨i, hi, ?_⟩
      have := occ_of_piece s p i hi
      rw [show occAt s.data.toList p.data.toList i = true from h3] at this
      exact eq_of_beqL this.symm
  · rintro ⟨i, hi, he⟩
    rcases index_spec (bl s) (bl p) with ⟨h1, h2⟩ | ⟨j, h1, h2, h3, h4⟩
    · have h := h2 i (by rw [bl_len]; omega)
      rw [show bl s = s.data.toList from rfl, show bl p = p.data.toList from rfl, occ_of_piece s p i hi, he] at h
      simp at h
    · show 0 ≤ index _ _
      rw [show s.data.toList = bl s from rfl, show p.data.toList = bl p from rfl, h1]
      omega
end
def c127 : Ct := ctR (lc AStr (lc AStr l0)) (fun p => p.2.1.size ≤ 2000000 ∧ p.1.size ≤ 2000000) (fun p => .t (.v (.int .i64 (Lib.indexB p.1 p.2.1))))
theorem c127_eq {args : List AV} {K : AV → Prop} : c127 args K = K0 (fun p => p.2.1.size ≤ 2000000 ∧ p.1.size ≤ 2000000) (fun p => .t (.v (.int .i64 (Lib.indexB p.1 p.2.1)))) K ((lc AStr (lc AStr l0)).dec args) := rfl
theorem good127 {G : Gt} (hG : GOk Tryz.prog G ∧ GDet G) (h140 : G.e 140 = roEnt 0 c140) : Good Tryz.prog G.m 127 (roEnt 0 c127) := by
  refine good_run (dp := fun _ => true) (fn := Tryz.f127) (n := 2) (fun _ => rfl) (by kernel_rfl) rfl (by kernel_rfl) hmix hG (Nat.le_of_ble_eq_true rfl) (by kernel_rfl) (by decide) (fun _ _ => .v _) ?_
  have k140 : (G.e 140).kd = 0 := by rw [h140]; rfl
  have m140 : (G.e 140).ro = c140 := by rw [h140]; rfl
  rintro ⟨s, sub, ⟨⟩⟩ hpre
  simp -implicitDefEqProofs only [Tryz.f127, go_sem, k140, m140, c140_eq, Nat.reduceAdd, Nat.reduceMul, Nat.reduceLeDiff, Nat.reduceEqDiff, reduceCtorEq, Nat.reduceSub, Int.reduceNeg, Nat.reduceMod, Nat.reduceBEq, Nat.reduceLT] at hpre ⊢

  repeat' (first | with_reducible apply And.intro | with_reducible intro _ | (refine brB_split (fun hb => ?_) (fun hb => ?_) <;> simp -implicitDefEqProofs only [hb, go_sem, k140, m140, c140_eq, Nat.reduceAdd, Nat.reduceMul, Nat.reduceLeDiff, Nat.reduceEqDiff, reduceCtorEq, Nat.reduceSub, Int.reduceNeg, Nat.reduceMod, Nat.reduceBEq, Nat.reduceLT] <;> try simp only [bOf_t, bOf_f, decide_eq_true_eq, decide_eq_false_iff_not, Bool.not_eq_true', Bool.not_eq_false', Bool.not_eq_true, Bool.not_eq_false, Decidable.not_not] at hb) | (refine aPickB_split (fun hb => ?_) (fun hb => ?_) <;> simp -implicitDefEqProofs only [hb, go_sem, k140, m140, c140_eq, Nat.reduceAdd, Nat.reduceMul, Nat.reduceLeDiff, Nat.reduceEqDiff, reduceCtorEq, Nat.reduceSub, Int.reduceNeg, Nat.reduceMod, Nat.reduceBEq, Nat.reduceLT] <;> try simp only [bOf_t, bOf_f, decide_eq_true_eq, decide_eq_false_iff_not, Bool.not_eq_true', Bool.not_eq_false', Bool.not_eq_true, Bool.not_eq_false, Decidable.not_not] at hb) | (refine gB_split (fun hb => ?_) (fun hb => ?_) <;> simp -implicitDefEqProofs only [hb, go_sem, k140, m140, c140_eq, Nat.reduceAdd, Nat.reduceMul, Nat.reduceLeDiff, Nat.reduceEqDiff, reduceCtorEq, Nat.reduceSub, Int.reduceNeg, Nat.reduceMod, Nat.reduceBEq, Nat.reduceLT] <;> try simp only [bOf_t, bOf_f, decide_eq_true_eq, decide_eq_false_iff_not, Bool.not_eq_true', Bool.not_eq_false', Bool.not_eq_true, Bool.not_eq_false, Decidable.not_not] at hb))
  all_goals first | rfl | omega | skip

def c118 : Ct := ctR (lc AStr (lc AStr l0)) (fun p => p.2.1.size ≤ 2000000 ∧ p.1.size ≤ 2000000) (fun p => .t (.v (.bool (bOf (Has p.1 p.2.1)))))
theorem c118_eq {args : List AV} {K : AV → Prop} : c118 args K = K0 (fun p => p.2.1.size ≤ 2000000 ∧ p.1.size ≤ 2000000) (fun p => .t (.v (.bool (bOf (Has p.1 p.2.1))))) K ((lc AStr (lc AStr l0)).dec args) := rfl
theorem good118 {G : Gt} (hG : GOk Tryz.prog G ∧ GDet G) (h127 : G.e 127 = roEnt 0 c127) : Good Tryz.prog G.m 118 (roEnt 0 c118) := by
  refine good_run (dp := fun _ => true) (fn := Tryz.f118) (n := 2) (fun _ => rfl) (by kernel_rfl) rfl (by kernel_rfl) hmix hG (Nat.le_of_ble_eq_true rfl) (by kernel_rfl) (by decide) (fun _ _ => .v _) ?_
  have k127 : (G.e 127).kd = 0 := by rw [h127]; rfl
  have m127 : (G.e 127).ro = c127 := by rw [h127]; rfl
  rintro ⟨s, sub, ⟨⟩⟩ hpre
  simp -implicitDefEqProofs only [Tryz.f118, go_sem, k127, m127, c127_eq, Nat.reduceAdd, Nat.reduceMul, Nat.reduceLeDiff, Nat.reduceEqDiff, reduceCtorEq, Nat.reduceSub, Int.reduceNeg, Nat.reduceMod, Nat.reduceBEq, Nat.reduceLT] at hpre ⊢

  repeat' (first | with_reducible apply And.intro | with_reducible intro _ | (refine brB_split (fun hb => ?_) (fun hb => ?_) <;> simp -implicitDefEqProofs only [hb, go_sem, k127, m127, c127_eq, Nat.reduceAdd, Nat.reduceMul, Nat.reduceLeDiff, Nat.reduceEqDiff, reduceCtorEq, Nat.reduceSub, Int.reduceNeg, Nat.reduceMod, Nat.reduceBEq, Nat.reduceLT] <;> try simp only [bOf_t, bOf_f, decide_eq_true_eq, decide_eq_false_iff_not, Bool.not_eq_true', Bool.not_eq_false', Bool.not_eq_true, Bool.not_eq_false, Decidable.not_not] at hb) | (refine aPickB_split (fun hb => ?_) (fun hb => ?_) <;> simp -implicitDefEqProofs only [hb, go_sem, k127, m127, c127_eq, Nat.reduceAdd, Nat.reduceMul, Nat.reduceLeDiff, Nat.reduceEqDiff, reduceCtorEq, Nat.reduceSub, Int.reduceNeg, Nat.reduceMod, Nat.reduceBEq, Nat.reduceLT] <;> try simp only [bOf_t, bOf_f, decide_eq_true_eq, decide_eq_false_iff_not, Bool.not_eq_true', Bool.not_eq_false', Bool.not_eq_true, Bool.not_eq_false, Decidable.not_not] at hb) | (refine gB_split (fun hb => ?_) (fun hb => ?_) <;> simp -implicitDefEqProofs only [hb, go_sem, k127, m127, c127_eq, Nat.reduceAdd, Nat.reduceMul, Nat.reduceLeDiff, Nat.reduceEqDiff, reduceCtorEq, Nat.reduceSub, Int.reduceNeg, Nat.reduceMod, Nat.reduceBEq, Nat.reduceLT] <;> try simp only [bOf_t, bOf_f, decide_eq_true_eq, decide_eq_false_iff_not, Bool.not_eq_true', Bool.not_eq_false', Bool.not_eq_true, Bool.not_eq_false, Decidable.not_not] at hb))
  all_goals first | rfl | omega | skip
  all_goals (rw [bOf_congr (Has_index s sub).symm]; simp [bOf_d])

def c142 : Ct := ctR (lc AStr (lc AStr l0)) (fun p => p.2.1.size = 1 ∧ p.1.size ≤ 2000000) (fun p => .t (.v (.int .i64 (Lib.countByte (bl p.1) (UInt8.ofNat (byteAt p.2.1 0).toNat)))))
theorem c142_eq {args : List AV} {K : AV → Prop} : c142 args K = K0 (fun p => p.2.1.size = 1 ∧ p.1.size ≤ 2000000) (fun p => .t (.v (.int .i64 (Lib.countByte (bl p.1) (UInt8.ofNat (byteAt p.2.1 0).toNat))))) K ((lc AStr (lc AStr l0)).dec args) := rfl
theorem good142 {G : Gt} (hG : GOk Tryz.prog G ∧ GDet G) (h152 : G.e 152 = roEnt 3 c152) : Good Tryz.prog G.m 142 (roEnt 0 c142) := by
  refine good_run (dp := fun _ => true) (fn := Tryz.f142) (n := 2) (fun _ => rfl) (by kernel_rfl) rfl (by kernel_rfl) hmix hG (Nat.le_of_ble_eq_true rfl) (by kernel_rfl) (by decide) (fun _ _ => .v _) ?_
  have k152 : (G.e 152).kd = 3 := by rw [h152]; rfl
  have m152 : (G.e 152).ro = c152 := by rw [h152]; rfl
  rintro ⟨s, sub, ⟨⟩⟩ hpre
  simp -implicitDefEqProofs only [Tryz.f142, go_sem, k152, m152, c152_eq, Nat.reduceAdd, Nat.reduceMul, Nat.reduceLeDiff, Nat.reduceEqDiff, reduceCtorEq, Nat.reduceSub, Int.reduceNeg, Nat.reduceMod, Nat.reduceBEq, Nat.reduceLT] at hpre ⊢

  have h1 : (sub.size : Int) = 1 := by omega
  simp -implicitDefEqProofs only [h1, go_sem, k152, m152, c152_eq, Nat.reduceAdd, Nat.reduceMul, Nat.reduceLeDiff, Nat.reduceEqDiff, reduceCtorEq, Nat.reduceSub, Int.reduceNeg, Nat.reduceMod, Nat.reduceBEq, Nat.reduceLT]
  repeat' (first | with_reducible apply And.intro | with_reducible intro _ | (refine brB_split (fun hb => ?_) (fun hb => ?_) <;> simp -implicitDefEqProofs only [hb, go_sem, k152, m152, c152_eq, Nat.reduceAdd, Nat.reduceMul, Nat.reduceLeDiff, Nat.reduceEqDiff, reduceCtorEq, Nat.reduceSub, Int.reduceNeg, Nat.reduceMod, Nat.reduceBEq, Nat.reduceLT] <;> try simp only [bOf_t, bOf_f, decide_eq_true_eq, decide_eq_false_iff_not, Bool.not_eq_true', Bool.not_eq_false', Bool.not_eq_true, Bool.not_eq_false, Decidable.not_not] at hb) | (refine aPickB_split (fun hb => ?_) (fun hb => ?_) <;> simp -implicitDefEqProofs only [hb, go_sem, k152, m152, c152_eq, Nat.reduceAdd, Nat.reduceMul, Nat.reduceLeDiff, Nat.reduceEqDiff, reduceCtorEq, Nat.reduceSub, Int.reduceNeg, Nat.reduceMod, Nat.reduceBEq, Nat.reduceLT] <;> try simp only [bOf_t, bOf_f, decide_eq_true_eq, decide_eq_false_iff_not, Bool.not_eq_true', Bool.not_eq_false', Bool.not_eq_true, Bool.not_eq_false, Decidable.not_not] at hb) | (refine gB_split (fun hb => ?_) (fun hb => ?_) <;> simp -implicitDefEqProofs only [hb, go_sem, k152, m152, c152_eq, Nat.reduceAdd, Nat.reduceMul, Nat.reduceLeDiff, Nat.reduceEqDiff, reduceCtorEq, Nat.reduceSub, Int.reduceNeg, Nat.reduceMod, Nat.reduceBEq, Nat.reduceLT] <;> try simp only [bOf_t, bOf_f, decide_eq_true_eq, decide_eq_false_iff_not, Bool.not_eq_true', Bool.not_eq_false', Bool.not_eq_true, Bool.not_eq_false, Decidable.not_not] at hb))
  all_goals first | rfl | omega | skip

def c139 : Ct := ctR (lc AStr (lc AStr l0)) (fun p => p.2.1.size ≤ 2000000 ∧ p.1.size ≤ 2000000) (fun p => .t (.v (.bool (bOf (p.2.1.size ≤ p.1.size ∧ p.1.extract (p.1.size - p.2.1.size) p.1.size = p.2.1)))))
theorem c139_eq {args : List AV} {K : AV → Prop} : c139 args K = K0 (fun p => p.2.1.size ≤ 2000000 ∧ p.1.size ≤ 2000000) (fun p => .t (.v (.bool (bOf (p.2.1.size ≤ p.1.size ∧ p.1.extract (p.1.size - p.2.1.size) p.1.size = p.2.1))))) K ((lc AStr (lc AStr l0)).dec args) := rfl
theorem good139 {G : Gt} (hG : GOk Tryz.prog G ∧ GDet G) : Good Tryz.prog G.m 139 (roEnt 0 c139) := by
  refine good_run (dp := fun _ => true) (fn := Tryz.f139) (n := 2) (fun _ => rfl) (by kernel_rfl) rfl (by kernel_rfl) hmix hG (Nat.le_of_ble_eq_true rfl) (by kernel_rfl) (by decide) (fun _ _ => .v _) ?_
  rintro ⟨s, e, ⟨⟩⟩ hpre
  simp -implicitDefEqProofs only [Tryz.f139, go_sem, Nat.reduceAdd, Nat.reduceMul, Nat.reduceLeDiff, Nat.reduceEqDiff, reduceCtorEq, Nat.reduceSub, Int.reduceNeg, Nat.reduceMod, Nat.reduceBEq, Nat.reduceLT] at hpre ⊢

  repeat' (first | with_reducible apply And.intro | with_reducible intro _ | (refine brB_split (fun hb => ?_) (fun hb => ?_) <;> simp -implicitDefEqProofs only [hb, go_sem, Nat.reduceAdd, Nat.reduceMul, Nat.reduceLeDiff, Nat.reduceEqDiff, reduceCtorEq, Nat.reduceSub, Int.reduceNeg, Nat.reduceMod, Nat.reduceBEq, Nat.reduceLT] <;> try simp only [bOf_t, bOf_f, decide_eq_true_eq, decide_eq_false_iff_not, Bool.not_eq_true', Bool.not_eq_false', Bool.not_eq_true, Bool.not_eq_false, Decidable.not_not] at hb) | (refine aPickB_split (fun hb => ?_) (fun hb => ?_) <;> simp -implicitDefEqProofs only [hb, go_sem, Nat.reduceAdd, Nat.reduceMul, Nat.reduceLeDiff, Nat.reduceEqDiff, reduceCtorEq, Nat.reduceSub, Int.reduceNeg, Nat.reduceMod, Nat.reduceBEq, Nat.reduceLT] <;> try simp only [bOf_t, bOf_f, decide_eq_true_eq, decide_eq_false_iff_not, Bool.not_eq_true', Bool.not_eq_false', Bool.not_eq_true, Bool.not_eq_false, Decidable.not_not] at hb) | (refine gB_split (fun hb => ?_) (fun hb => ?_) <;> simp -implicitDefEqProofs only [hb, go_sem, Nat.reduceAdd, Nat.reduceMul, Nat.reduceLeDiff, Nat.reduceEqDiff, reduceCtorEq, Nat.reduceSub, Int.reduceNeg, Nat.reduceMod, Nat.reduceBEq, Nat.reduceLT] <;> try simp only [bOf_t, bOf_f, decide_eq_true_eq, decide_eq_false_iff_not, Bool.not_eq_true', Bool.not_eq_false', Bool.not_eq_true, Bool.not_eq_false, Decidable.not_not] at hb))
  all_goals (try simp only [maxLen] at *)
  all_goals first | rfl | omega | skip
  · have e1 : (s.size : Int).toNat = s.size := Int.toNat_natCast _
    have e2 : ((s.size : Int) - e.size).toNat = s.size - e.size := by omega
    rw [e1, e2, ← bOf_d]
    exact congrArg (fun b => T.v (.bool b)) (bOf_congr ⟨fun h => ⟨by omega, h⟩, fun h => h.2⟩)
  · rw [bOf_n (fun h => by omega)]

def c126 : Ct := ctR (lc AStr (lc AStr l0)) (fun p => p.2.1.size ≤ 2000000 ∧ p.1.size ≤ 2000000) (fun p => .t (.v (.bool (bOf (p.2.1.size ≤ p.1.size ∧ p.1.extract (p.1.size - p.2.1.size) p.1.size = p.2.1)))))
theorem c126_eq {args : List AV} {K : AV → Prop} : c126 args K = K0 (fun p => p.2.1.size ≤ 2000000 ∧ p.1.size ≤ 2000000) (fun p => .t (.v (.bool (bOf (p.2.1.size ≤ p.1.size ∧ p.1.extract (p.1.size - p.2.1.size) p.1.size = p.2.1))))) K ((lc AStr (lc AStr l0)).dec args) := rfl
theorem good126 {G : Gt} (hG : GOk Tryz.prog G ∧ GDet G) (h139 : G.e 139 = roEnt 0 c139) : Good Tryz.prog G.m 126 (roEnt 0 c126) := by
  refine good_run (dp := fun _ => true) (fn := Tryz.f126) (n := 2) (fun _ => rfl) (by kernel_rfl) rfl (by kernel_rfl) hmix hG (Nat.le_of_ble_eq_true rfl) (by kernel_rfl) (by decide) (fun _ _ => .v _) ?_
  have k139 : (G.e 139).kd = 0 := by rw [h139]; rfl
  have m139 : (G.e 139).ro = c139 := by rw [h139]; rfl
  rintro ⟨s, e, ⟨⟩⟩ hpre
  simp -implicitDefEqProofs only [Tryz.f126, go_sem, k139, m139, c139_eq, Nat.reduceAdd, Nat.reduceMul, Nat.reduceLeDiff, Nat.reduceEqDiff, reduceCtorEq, Nat.reduceSub, Int.reduceNeg, Nat.reduceMod, Nat.reduceBEq, Nat.reduceLT] at hpre ⊢

  repeat' (first | with_reducible apply And.intro | with_reducible intro _ | (refine brB_split (fun hb => ?_) (fun hb => ?_) <;> simp -implicitDefEqProofs only [hb, go_sem, k139, m139, c139_eq, Nat.reduceAdd, Nat.reduceMul, Nat.reduceLeDiff, Nat.reduceEqDiff, reduceCtorEq, Nat.reduceSub, Int.reduceNeg, Nat.reduceMod, Nat.reduceBEq, Nat.reduceLT] <;> try simp only [bOf_t, bOf_f, decide_eq_true_eq, decide_eq_false_iff_not, Bool.not_eq_true', Bool.not_eq_false', Bool.not_eq_true, Bool.not_eq_false, Decidable.not_not] at hb) | (refine aPickB_split (fun hb => ?_) (fun hb => ?_) <;> simp -implicitDefEqProofs only [hb, go_sem, k139, m139, c139_eq, Nat.reduceAdd, Nat.reduceMul, Nat.reduceLeDiff, Nat.reduceEqDiff, reduceCtorEq, Nat.reduceSub, Int.reduceNeg, Nat.reduceMod, Nat.reduceBEq, Nat.reduceLT] <;> try simp only [bOf_t, bOf_f, decide_eq_true_eq, decide_eq_false_iff_not, Bool.not_eq_true', Bool.not_eq_false', Bool.not_eq_true, Bool.not_eq_false, Decidable.not_not] at hb) | (refine gB_split (fun hb => ?_) (fun hb => ?_) <;> simp -implicitDefEqProofs only [hb, go_sem, k139, m139, c139_eq, Nat.reduceAdd, Nat.reduceMul, Nat.reduceLeDiff, Nat.reduceEqDiff, reduceCtorEq, Nat.reduceSub, Int.reduceNeg, Nat.reduceMod, Nat.reduceBEq, Nat.reduceLT] <;> try simp only [bOf_t, bOf_f, decide_eq_true_eq, decide_eq_false_iff_not, Bool.not_eq_true', Bool.not_eq_false', Bool.not_eq_true, Bool.not_eq_false, Decidable.not_not] at hb))
  all_goals (try simp only [maxLen] at *)
  all_goals first | rfl | omega | skip

def c131 : Ct := ctR (lc AStr (lc AStr (lc AInt (lc AInt l0)))) (fun p => p.2.1.size = 1 ∧ p.2.2.1 = 0 ∧ p.2.2.2.1 = -1 ∧ p.1.size ≤ 2000000) (fun p => .o true 1 ((spl p.1 (UInt8.ofNat (byteAt p.2.1 0).toNat)).map encStr))
theorem c131_eq {args : List AV} {K : AV → Prop} : c131 args K = K0 (fun p => p.2.1.size = 1 ∧ p.2.2.1 = 0 ∧ p.2.2.2.1 = -1 ∧ p.1.size ≤ 2000000) (fun p => .o true 1 ((spl p.1 (UInt8.ofNat (byteAt p.2.1 0).toNat)).map encStr)) K ((lc AStr (lc AStr (lc AInt (lc AInt l0)))).dec args) := rfl
set_option maxHeartbeats 1600000 in
theorem good131 {G : Gt} (hG : GOk Tryz.prog G ∧ GDet G) (h142 : G.e 142 = roEnt 0 c142) (h127 : G.e 127 = roEnt 0 c127) : Good Tryz.prog G.m 131 (roEnt 0 c131) := by
  refine good_run (dp := fun _ => true) (fn := Tryz.f131) (n := 4) (fun _ => rfl) (by kernel_rfl) rfl (by kernel_rfl) hmix hG (Nat.le_of_ble_eq_true rfl) (by kernel_rfl) (by decide) (fun _ _ => .deep _ _) ?_
  have k142 : (G.e 142).kd = 0 := by rw [h142]; rfl
  have m142 : (G.e 142).ro = c142 := by rw [h142]; rfl
  have k127 : (G.e 127).kd = 0 := by rw [h127]; rfl
  have m127 : (G.e 127).ro = c127 := by rw [h127]; rfl
  rintro ⟨s, sep, sv, n, ⟨⟩⟩ hpre


  obtain ⟨h1, h2, h3, h4⟩ := hpre
  dsimp only at h1 h2 h3 h4
  subst h2 h3
  have hse : ¬ sep = ⟨#[]⟩ := by intro e; rw [e] at h1; cases h1
  have hc := cnt_le s (UInt8.ofNat (byteAt sep 0).toNat)
  have hl := spl_len s (UInt8.ofNat (byteAt sep 0).toNat)
  have hmin : ¬ ((s.size : Int) + 1 < (Lib.countByte (bl s) (UInt8.ofNat (byteAt sep 0).toNat) : Int) + 1) := by omega
  simp -implicitDefEqProofs only [Tryz.f131, hse, if_neg hmin, go_sem, k142, m142, c142_eq, k127, m127, c127_eq, aSet_map, aCell_map, List.map_replicate, Nat.reduceAdd, Nat.reduceMul, Nat.reduceLeDiff, Nat.reduceEqDiff, reduceCtorEq, Nat.reduceSub, Int.reduceNeg, Nat.reduceMod, Nat.reduceBEq, Nat.reduceLT]
  repeat' (first | with_reducible apply And.intro | with_reducible intro _ | (refine brB_split (fun hb => ?_) (fun hb => ?_) <;> simp -implicitDefEqProofs only [hb, go_sem, k142, m142, c142_eq, k127, m127, c127_eq, aSet_map, aCell_map, List.map_replicate, Nat.reduceAdd, Nat.reduceMul, Nat.reduceLeDiff, Nat.reduceEqDiff, reduceCtorEq, Nat.reduceSub, Int.reduceNeg, Nat.reduceMod, Nat.reduceBEq, Nat.reduceLT] <;> try simp only [bOf_t, bOf_f, decide_eq_true_eq, decide_eq_false_iff_not, Bool.not_eq_true', Bool.not_eq_false', Bool.not_eq_true, Bool.not_eq_false, Decidable.not_not] at hb) | (refine aPickB_split (fun hb => ?_) (fun hb => ?_) <;> simp -implicitDefEqProofs only [hb, go_sem, k142, m142, c142_eq, k127, m127, c127_eq, aSet_map, aCell_map, List.map_replicate, Nat.reduceAdd, Nat.reduceMul, Nat.reduceLeDiff, Nat.reduceEqDiff, reduceCtorEq, Nat.reduceSub, Int.reduceNeg, Nat.reduceMod, Nat.reduceBEq, Nat.reduceLT] <;> try simp only [bOf_t, bOf_f, decide_eq_true_eq, decide_eq_false_iff_not, Bool.not_eq_true', Bool.not_eq_false', Bool.not_eq_true, Bool.not_eq_false, Decidable.not_not] at hb) | (refine gB_split (fun hb => ?_) (fun hb => ?_) <;> simp -implicitDefEqProofs only [hb, go_sem, k142, m142, c142_eq, k127, m127, c127_eq, aSet_map, aCell_map, List.map_replicate, Nat.reduceAdd, Nat.reduceMul, Nat.reduceLeDiff, Nat.reduceEqDiff, reduceCtorEq, Nat.reduceSub, Int.reduceNeg, Nat.reduceMod, Nat.reduceBEq, Nat.reduceLT] <;> try simp only [bOf_t, bOf_f, decide_eq_true_eq, decide_eq_false_iff_not, Bool.not_eq_true', Bool.not_eq_false', Bool.not_eq_true, Bool.not_eq_false, Decidable.not_not] at hb))
  all_goals (try simp only [maxLen, Int.toNat_natCast] at *)
  all_goals first | rfl | omega | skip
  refine run_loop [] (ι := {z : List ByteArray × ByteArray // spl s (UInt8.ofNat (byteAt sep 0).toNat) = z.1 ++ spl z.2 (UInt8.ofNat (byteAt sep 0).toNat) ∧ z.2.size ≤ s.size}) (fun z => ⟨[(0, .t (.v (.string z.1.2))), (1, .t (.v (.string sep))), (2, .t (.v (.int .i64 0))), (3, .t (.v (.int .i64 (Lib.countByte (bl s) (UInt8.ofNat (byteAt sep 0).toNat))))), (9, .h 1031), (10, .t (.v (.int .i64 z.1.1.length)))], [(1031, some (.arr true 1 ((z.1.1 ++ List.replicate (Lib.countByte (bl s) (UInt8.ofNat (byteAt sep 0).toNat) + 1 - z.1.1.length) (⟨#[]⟩ : ByteArray)).map encStr)))]⟩) (fun z => s.size + 1 - z.1.1.length) ⟨([], s), rfl, Nat.le_refl _⟩ rfl ?_ ?_
  · simp -implicitDefEqProofs only [go_sem, k142, m142, c142_eq, k127, m127, c127_eq, aSet_map, aCell_map, List.map_replicate, Nat.reduceAdd, Nat.reduceMul, Nat.reduceLeDiff, Nat.reduceEqDiff, reduceCtorEq, Nat.reduceSub, Int.reduceNeg, Nat.reduceMod, Nat.reduceBEq, Nat.reduceLT]
    simp
    constructor <;> split <;> omega
  · rintro ⟨⟨p, t⟩, hz, ht⟩
    dsimp only at hz ht
    have hcl : (spl s (UInt8.ofNat (byteAt sep 0).toNat)).length = p.length + (spl t (UInt8.ofNat (byteAt sep 0).toNat)).length := by rw [hz, List.length_append]
    rw [hl, spl_len] at hcl
    by_cases hlt : (p.length : Int) < Lib.countByte (bl s) (UInt8.ofNat (byteAt sep 0).toNat)
    · rcases spl_cases (s := t) h1 with ⟨_, q, _⟩ | ⟨o, q1, q2, q3, q4⟩
      · omega
      · have q0 : ¬ (o : Int) < 0 := by omega
        simp -implicitDefEqProofs only [hlt, q1, q0, go_sem, k142, m142, c142_eq, k127, m127, c127_eq, aSet_map, aCell_map, List.map_replicate, Nat.reduceAdd, Nat.reduceMul, Nat.reduceLeDiff, Nat.reduceEqDiff, reduceCtorEq, Nat.reduceSub, Int.reduceNeg, Nat.reduceMod, Nat.reduceBEq, Nat.reduceLT]
        obtain ⟨n, hn⟩ : ∃ n, Lib.countByte (bl s) (UInt8.ofNat (byteAt sep 0).toNat) + 1 - p.length = n + 1 := ⟨Lib.countByte (bl s) (UInt8.ofNat (byteAt sep 0).toNat) - p.length, by omega⟩
        have hn2 : n = Lib.countByte (bl s) (UInt8.ofNat (byteAt sep 0).toNat) - p.length := by omega
        have hs1 : ((o : Int) + sep.size).toNat = o + 1 := by omega
        repeat' (first | with_reducible apply And.intro | with_reducible intro _ | (refine brB_split (fun hb => ?_) (fun hb => ?_) <;> simp -implicitDefEqProofs only [hb, go_sem, k142, m142, c142_eq, k127, m127, c127_eq, aSet_map, aCell_map, List.map_replicate, Nat.reduceAdd, Nat.reduceMul, Nat.reduceLeDiff, Nat.reduceEqDiff, reduceCtorEq, Nat.reduceSub, Int.reduceNeg, Nat.reduceMod, Nat.reduceBEq, Nat.reduceLT] <;> try simp only [bOf_t, bOf_f, decide_eq_true_eq, decide_eq_false_iff_not, Bool.not_eq_true', Bool.not_eq_false', Bool.not_eq_true, Bool.not_eq_false, Decidable.not_not] at hb) | (refine aPickB_split (fun hb => ?_) (fun hb => ?_) <;> simp -implicitDefEqProofs only [hb, go_sem, k142, m142, c142_eq, k127, m127, c127_eq, aSet_map, aCell_map, List.map_replicate, Nat.reduceAdd, Nat.reduceMul, Nat.reduceLeDiff, Nat.reduceEqDiff, reduceCtorEq, Nat.reduceSub, Int.reduceNeg, Nat.reduceMod, Nat.reduceBEq, Nat.reduceLT] <;> try simp only [bOf_t, bOf_f, decide_eq_true_eq, decide_eq_false_iff_not, Bool.not_eq_true', Bool.not_eq_false', Bool.not_eq_true, Bool.not_eq_false, Decidable.not_not] at hb) | (refine gB_split (fun hb => ?_) (fun hb => ?_) <;> simp -implicitDefEqProofs only [hb, go_sem, k142, m142, c142_eq, k127, m127, c127_eq, aSet_map, aCell_map, List.map_replicate, Nat.reduceAdd, Nat.reduceMul, Nat.reduceLeDiff, Nat.reduceEqDiff, reduceCtorEq, Nat.reduceSub, Int.reduceNeg, Nat.reduceMod, Nat.reduceBEq, Nat.reduceLT] <;> try simp only [bOf_t, bOf_f, decide_eq_true_eq, decide_eq_false_iff_not, Bool.not_eq_true', Bool.not_eq_false', Bool.not_eq_true, Bool.not_eq_false, Decidable.not_not] at hb))
        all_goals (try simp only [maxLen, Int.toNat_natCast, Int.add_zero, hn, fillS, List.length_map, List.length_append, List.length_replicate, hs1] at *)
        all_goals first | rfl | omega | skip
        refine ⟨⟨(p ++ [t.extract 0 o], t.extract (o + 1) t.size), ?_, ?_⟩, ?_, ?_⟩
        · dsimp only; rw [hz, q3, List.append_assoc]; rfl
        · dsimp only; rw [ByteArray.size_extract]; omega
        · dsimp only; rw [List.length_append]; simp; omega
        · have e2 : Lib.countByte (bl s) (UInt8.ofNat (byteAt sep 0).toNat) + 1 - (p ++ [t.extract 0 o]).length = n := by rw [List.length_append, hn2]; simp
          simp -implicitDefEqProofs only [e2, go_sem, k142, m142, c142_eq, k127, m127, c127_eq, aSet_map, aCell_map, List.map_replicate, Nat.reduceAdd, Nat.reduceMul, Nat.reduceLeDiff, Nat.reduceEqDiff, reduceCtorEq, Nat.reduceSub, Int.reduceNeg, Nat.reduceMod, Nat.reduceBEq, Nat.reduceLT]
          simp
    · simp -implicitDefEqProofs only [hlt, go_sem, k142, m142, c142_eq, k127, m127, c127_eq, aSet_map, aCell_map, List.map_replicate, Nat.reduceAdd, Nat.reduceMul, Nat.reduceLeDiff, Nat.reduceEqDiff, reduceCtorEq, Nat.reduceSub, Int.reduceNeg, Nat.reduceMod, Nat.reduceBEq, Nat.reduceLT]
      rcases spl_cases (s := t) h1 with ⟨_, _, q⟩ | ⟨o, q1, q2, q3, q4⟩
      · have hn : Lib.countByte (bl s) (UInt8.ofNat (byteAt sep 0).toNat) + 1 - p.length = 0 + 1 := by omega
        rw [q] at hz
        repeat' (first | with_reducible apply And.intro | with_reducible intro _ | (refine brB_split (fun hb => ?_) (fun hb => ?_) <;> simp -implicitDefEqProofs only [hb, go_sem, k142, m142, c142_eq, k127, m127, c127_eq, aSet_map, aCell_map, List.map_replicate, Nat.reduceAdd, Nat.reduceMul, Nat.reduceLeDiff, Nat.reduceEqDiff, reduceCtorEq, Nat.reduceSub, Int.reduceNeg, Nat.reduceMod, Nat.reduceBEq, Nat.reduceLT] <;> try simp only [bOf_t, bOf_f, decide_eq_true_eq, decide_eq_false_iff_not, Bool.not_eq_true', Bool.not_eq_false', Bool.not_eq_true, Bool.not_eq_false, Decidable.not_not] at hb) | (refine aPickB_split (fun hb => ?_) (fun hb => ?_) <;> simp -implicitDefEqProofs only [hb, go_sem, k142, m142, c142_eq, k127, m127, c127_eq, aSet_map, aCell_map, List.map_replicate, Nat.reduceAdd, Nat.reduceMul, Nat.reduceLeDiff, Nat.reduceEqDiff, reduceCtorEq, Nat.reduceSub, Int.reduceNeg, Nat.reduceMod, Nat.reduceBEq, Nat.reduceLT] <;> try simp only [bOf_t, bOf_f, decide_eq_true_eq, decide_eq_false_iff_not, Bool.not_eq_true', Bool.not_eq_false', Bool.not_eq_true, Bool.not_eq_false, Decidable.not_not] at hb) | (refine gB_split (fun hb => ?_) (fun hb => ?_) <;> simp -implicitDefEqProofs only [hb, go_sem, k142, m142, c142_eq, k127, m127, c127_eq, aSet_map, aCell_map, List.map_replicate, Nat.reduceAdd, Nat.reduceMul, Nat.reduceLeDiff, Nat.reduceEqDiff, reduceCtorEq, Nat.reduceSub, Int.reduceNeg, Nat.reduceMod, Nat.reduceBEq, Nat.reduceLT] <;> try simp only [bOf_t, bOf_f, decide_eq_true_eq, decide_eq_false_iff_not, Bool.not_eq_true', Bool.not_eq_false', Bool.not_eq_true, Bool.not_eq_false, Decidable.not_not] at hb))
        all_goals (try simp only [maxLen, Int.toNat_natCast, Int.add_zero, hn, fillS, List.length_map, List.length_append, List.length_replicate] at *)
        all_goals first | rfl | omega | (simp; done) | skip
        · rw [hz, List.replicate_zero, List.append_nil, List.take_of_length_le]
          simp
      · omega


def bx (l : List Bool) : List AV := l.map fun b => .t (.v (.bool b))
def bxT (l : List Bool) : List T := l.map fun b => .v (.bool b)
def bxD : List T → Option (List Bool)
  | [] => some []
  | .v (.bool b) :: r => (bxD r).map (b :: ·)
  | _ => none
theorem bxD_ed : ∀ l, bxD (bxT l) = some l
  | [] => rfl
  | b :: l => by show (bxD (bxT l)).map (b :: ·) = _; rw [bxD_ed l]; rfl
theorem bxD_de : ∀ {c l}, bxD c = some l → bxT l = c
  | [], _, h => by cases h; rfl
  | x :: c, l, h => by
    unfold bxD at h
    split at h
    · rename_i e; cases e
    · rename_i e
      cases e
      cases hq : bxD c with
      | none => rw [hq] at h; cases h
      | some l' => rw [hq] at h; cases h; rw [← bxD_de hq]; rfl
    · cases h
def bxA : AV → Option (List Bool)
  | .t (.rop c) => bxD c
  | _ => none
/-- A pointer to an array of bools. -/
def ABs : AD (List Bool) where
  enc l := .t (.rop (bxT l))
  dec := bxA
  ed := fun l => bxD_ed l
  de := fun x l h => by
    unfold bxA at h
    split at h
    · rw [← bxD_de h]
    · cases h
theorem ABs_dec {l : List Bool} : ABs.dec (.t (.rop (bxT l))) = some l := bxD_ed l
theorem ABs_enc {l : List Bool} : ABs.enc l = .t (.rop (bxT l)) := rfl
theorem bx_len {l : List Bool} : (bx l).length = l.length := by simp [bx]
theorem bxT_len {l : List Bool} : (bxT l).length = l.length := by simp [bxT]
def z256 : List Value := List.replicate 256 (.bool false)
def b256 : List Bool := List.replicate 256 false
theorem ty153z : tyOf Tryz.prog 153 = some ⟨.arr 256 4, 256, 256, z256⟩ := ty153
theorem bx_zero : z256.map avc1 = bx b256 := by simp [bx, z256, b256]; rfl
theorem bx_fine : z256.all fineB = true := by decide
theorem b256_len : b256.length = 256 := rfl
theorem bx_drop0 : List.drop 256 (bx b256) = [] := rfl
theorem bx_spl {l : List Bool} {k : Nat} {b : Bool} (h : k < l.length) : (bx l).take k ++ AV.t (.v (.bool b)) :: (bx l).drop (k + 1) = bx (l.set k b) := by
  unfold bx
  rw [List.set_eq_take_append_cons_drop, if_pos h]
  simp
theorem bx_splice {l : List Bool} {k : Nat} {b : Bool} (h : k < l.length) : splice (bx l) k [AV.t (.v (.bool b))] = bx (l.set k b) := by
  unfold splice bx
  rw [List.set_eq_take_append_cons_drop, if_pos h]
  simp
theorem bx_take {l : List Bool} {n : Nat} (h : l.length = n) : (bx l).take n = bx l := List.take_of_length_le (by rw [bx_len]; omega)
theorem bx_snap {s : AS} {n : Nat} : ∀ {l : List Bool}, mapO (s.snapT (n + 1)) (bx l) = some (bxT l)
  | [] => rfl
  | b :: l => by
    have h := bx_snap (s := s) (n := n) (l := l)
    unfold bx bxT at h ⊢
    simp only [List.map_cons, mapO, h, AS.snapT]
theorem bxT_get {l : List Bool} {k : Nat} (h : k < l.length) : (bxT l).drop k = T.v (.bool (l.getD k false)) :: (bxT l).drop (k + 1) := by
  rw [List.drop_eq_getElem_cons (by rw [bxT_len]; exact h)]
  congr 1
  simp [bxT, h]
theorem bx_outP {s : AS} : ∀ {l : List Bool}, outPL s (bx l) (bx l)
  | [] => trivial
  | b :: l => ⟨by simp only [outP, outT], bx_outP⟩
theorem bx_outI {s : AS} : ∀ {l : List Bool}, outIL s (bx l) (bx l) = []
  | [] => rfl
  | b :: l => by show outI s (.t (.v (.bool b))) (.t (.v (.bool b))) ++ outIL s (bx l) (bx l) = []; rw [bx_outI]; rfl
theorem bx_outZ {s : AS} : ∀ {l : List Bool}, outZL s (bx l) (bx l) = []
  | [] => rfl
  | b :: l => by show outZ s (.t (.v (.bool b))) (.t (.v (.bool b))) ++ outZL s (bx l) (bx l) = []; rw [bx_outZ]; rfl
theorem bx_intern {d k : Nat} {s : AS} : ∀ {l : List Bool}, internL d k (bx l) s = ⟨bx l, s, k⟩
  | [] => rfl
  | b :: l => by
    show InL.mk (AV.t (.v (.bool b)) :: (internL d k (bx l) s).avs) (internL d k (bx l) s).s (internL d k (bx l) s).k = _
    rw [bx_intern]; rfl
theorem bx_has {k : Nat} : ∀ {l : List Bool}, AV.hasL k (bx l) = false
  | [] => rfl
  | b :: l => by show (false || AV.hasL k (bx l)) = false; rw [bx_has]; rfl
theorem bx_dropm {k : Nat} : ∀ {l : List Bool}, (bx l).map (AV.drop k) = bx l
  | [] => rfl
  | b :: l => by show AV.t (.v (.bool b)) :: (bx l).map (AV.drop k) = _; rw [bx_dropm]; rfl
def setN (cs : ByteArray) : Nat → List Bool
  | 0 => b256
  | n + 1 => (setN cs n).set (byteAt cs n).toNat true
theorem setN_len (cs : ByteArray) : ∀ n, (setN cs n).length = 256
  | 0 => rfl
  | n + 1 => by rw [setN, List.length_set]; exact setN_len cs n
def trR (l : List Bool) (s : ByteArray) : ByteArray :=
  if h : s.size = 0 then s else bif l.getD (byteAt s (s.size - 1)).toNat false then trR l (s.extract 0 (s.size - 1)) else s
termination_by s.size
decreasing_by rw [ByteArray.size_extract]; omega
def trL (l : List Bool) (s : ByteArray) : ByteArray :=
  if h : s.size = 0 then s else bif l.getD (byteAt s 0).toNat false then trL l (s.extract 1 s.size) else s
termination_by s.size
decreasing_by rw [ByteArray.size_extract]; omega

theorem trR_nil {l : List Bool} : trR l ⟨#[]⟩ = ⟨#[]⟩ := by rw [trR]; exact dif_pos rfl
theorem trL_nil {l : List Bool} : trL l ⟨#[]⟩ = ⟨#[]⟩ := by rw [trL]; exact dif_pos rfl
theorem trR_le (l : List Bool) (s : ByteArray) : (trR l s).size ≤ s.size := by
  rw [trR]
  split
  · exact Nat.le_refl _
  · cases l.getD (byteAt s (s.size - 1)).toNat false
    · exact Nat.le_refl _
    · have := trR_le l (s.extract 0 (s.size - 1))
      rw [ByteArray.size_extract] at this
      show (trR l (s.extract 0 (s.size - 1))).size ≤ _
      omega
termination_by s.size
decreasing_by rw [ByteArray.size_extract]; omega
def c143 : Ct := ctR (lc ABs (lc AU8 l0)) (fun p => p.1.length = 256 ∧ 0 ≤ p.2.1 ∧ p.2.1 < 256) (fun p => .t (.v (.bool (p.1.getD p.2.1.toNat false))))
theorem c143_eq {args : List AV} {K : AV → Prop} : c143 args K = K0 (fun p => p.1.length = 256 ∧ 0 ≤ p.2.1 ∧ p.2.1 < 256) (fun p => .t (.v (.bool (p.1.getD p.2.1.toNat false)))) K ((lc ABs (lc AU8 l0)).dec args) := rfl
theorem good143 {G : Gt} (hG : GOk Tryz.prog G ∧ GDet G) : Good Tryz.prog G.m 143 (roEnt 0 c143) := by
  refine good_run (dp := fun _ => true) (fn := Tryz.f143) (n := 2) (fun _ => rfl) (by kernel_rfl) rfl (by kernel_rfl) hmix hG (Nat.le_of_ble_eq_true rfl) (by kernel_rfl) (by decide) (fun _ _ => .v _) ?_
  rintro ⟨l, c, ⟨⟩⟩ hpre
  simp -implicitDefEqProofs only [Tryz.f143, go_sem, ty153z, ABs_dec, ABs_enc, bxT_len, Nat.reduceAdd, Nat.reduceMul, Nat.reduceLeDiff, Nat.reduceEqDiff, reduceCtorEq, Nat.reduceSub, Int.reduceNeg, Nat.reduceMod, Nat.reduceBEq, Nat.reduceLT] at hpre ⊢

  have hk : c.toNat < l.length := by omega
  simp -implicitDefEqProofs only [bxT_get hk, Nat.mul_one, hpre.1, go_sem, ty153z, ABs_dec, ABs_enc, bxT_len, Nat.reduceAdd, Nat.reduceMul, Nat.reduceLeDiff, Nat.reduceEqDiff, reduceCtorEq, Nat.reduceSub, Int.reduceNeg, Nat.reduceMod, Nat.reduceBEq, Nat.reduceLT]
  repeat' (first | with_reducible apply And.intro | with_reducible intro _ | (refine brB_split (fun hb => ?_) (fun hb => ?_) <;> simp -implicitDefEqProofs only [hb, go_sem, ty153z, ABs_dec, ABs_enc, bxT_len, Nat.reduceAdd, Nat.reduceMul, Nat.reduceLeDiff, Nat.reduceEqDiff, reduceCtorEq, Nat.reduceSub, Int.reduceNeg, Nat.reduceMod, Nat.reduceBEq, Nat.reduceLT] <;> try simp only [bOf_t, bOf_f, decide_eq_true_eq, decide_eq_false_iff_not, Bool.not_eq_true', Bool.not_eq_false', Bool.not_eq_true, Bool.not_eq_false, Decidable.not_not] at hb) | (refine aPickB_split (fun hb => ?_) (fun hb => ?_) <;> simp -implicitDefEqProofs only [hb, go_sem, ty153z, ABs_dec, ABs_enc, bxT_len, Nat.reduceAdd, Nat.reduceMul, Nat.reduceLeDiff, Nat.reduceEqDiff, reduceCtorEq, Nat.reduceSub, Int.reduceNeg, Nat.reduceMod, Nat.reduceBEq, Nat.reduceLT] <;> try simp only [bOf_t, bOf_f, decide_eq_true_eq, decide_eq_false_iff_not, Bool.not_eq_true', Bool.not_eq_false', Bool.not_eq_true, Bool.not_eq_false, Decidable.not_not] at hb) | (refine gB_split (fun hb => ?_) (fun hb => ?_) <;> simp -implicitDefEqProofs only [hb, go_sem, ty153z, ABs_dec, ABs_enc, bxT_len, Nat.reduceAdd, Nat.reduceMul, Nat.reduceLeDiff, Nat.reduceEqDiff, reduceCtorEq, Nat.reduceSub, Int.reduceNeg, Nat.reduceMod, Nat.reduceBEq, Nat.reduceLT] <;> try simp only [bOf_t, bOf_f, decide_eq_true_eq, decide_eq_false_iff_not, Bool.not_eq_true', Bool.not_eq_false', Bool.not_eq_true, Bool.not_eq_false, Decidable.not_not] at hb))
  all_goals first | rfl | omega | skip
  all_goals trace_state

def c136 : Ct := ctR (lc AStr (lc ABs l0)) (fun p => p.2.1.length = 256 ∧ p.1.size ≤ 2000000) (fun p => .t (.v (.string (trR p.2.1 p.1))))
theorem c136_eq {args : List AV} {K : AV → Prop} : c136 args K = K0 (fun p => p.2.1.length = 256 ∧ p.1.size ≤ 2000000) (fun p => .t (.v (.string (trR p.2.1 p.1)))) K ((lc AStr (lc ABs l0)).dec args) := rfl
theorem good136 {G : Gt} (hG : GOk Tryz.prog G ∧ GDet G) (h143 : G.e 143 = roEnt 0 c143) : Good Tryz.prog G.m 136 (roEnt 0 c136) := by
  refine good_run (dp := fun _ => true) (fn := Tryz.f136) (n := 2) (fun _ => rfl) (by kernel_rfl) rfl (by kernel_rfl) hmix hG (Nat.le_of_ble_eq_true rfl) (by kernel_rfl) (by decide) (fun _ _ => .v _) ?_
  have k143 : (G.e 143).kd = 0 := by rw [h143]; rfl
  have m143 : (G.e 143).ro = c143 := by rw [h143]; rfl
  rintro ⟨s, l, ⟨⟩⟩ hpre
  simp -implicitDefEqProofs only [Tryz.f136, go_sem, k143, m143, c143_eq, ABs_dec, ABs_enc, Bool.not_true, Bool.not_false, Nat.reduceAdd, Nat.reduceMul, Nat.reduceLeDiff, Nat.reduceEqDiff, reduceCtorEq, Nat.reduceSub, Int.reduceNeg, Nat.reduceMod, Nat.reduceBEq, Nat.reduceLT] at hpre ⊢

  refine run_loop [] (ι := {t : ByteArray // trR l t = trR l s ∧ t.size ≤ s.size}) (fun p => ⟨[(0, .t (.v (.string p.1))), (1, .t (.rop (bxT l)))], []⟩) (fun p => p.1.size) ⟨s, rfl, Nat.le_refl _⟩ rfl ?_ ?_
  · simp -implicitDefEqProofs only [go_sem, k143, m143, c143_eq, ABs_dec, ABs_enc, Bool.not_true, Bool.not_false, Nat.reduceAdd, Nat.reduceMul, Nat.reduceLeDiff, Nat.reduceEqDiff, reduceCtorEq, Nat.reduceSub, Int.reduceNeg, Nat.reduceMod, Nat.reduceBEq, Nat.reduceLT]
    try simp
  · rintro ⟨t, ht, hts⟩
    by_cases h0 : t.size = 0
    · have h1 : (t.size : Int) = 0 := by omega
      simp -implicitDefEqProofs only [h1, go_sem, k143, m143, c143_eq, ABs_dec, ABs_enc, Bool.not_true, Bool.not_false, Nat.reduceAdd, Nat.reduceMul, Nat.reduceLeDiff, Nat.reduceEqDiff, reduceCtorEq, Nat.reduceSub, Int.reduceNeg, Nat.reduceMod, Nat.reduceBEq, Nat.reduceLT]
      repeat' (first | with_reducible apply And.intro | with_reducible intro _ | (refine brB_split (fun hb => ?_) (fun hb => ?_) <;> simp -implicitDefEqProofs only [hb, go_sem, k143, m143, c143_eq, ABs_dec, ABs_enc, Bool.not_true, Bool.not_false, Nat.reduceAdd, Nat.reduceMul, Nat.reduceLeDiff, Nat.reduceEqDiff, reduceCtorEq, Nat.reduceSub, Int.reduceNeg, Nat.reduceMod, Nat.reduceBEq, Nat.reduceLT] <;> try simp only [bOf_t, bOf_f, decide_eq_true_eq, decide_eq_false_iff_not, Bool.not_eq_true', Bool.not_eq_false', Bool.not_eq_true, Bool.not_eq_false, Decidable.not_not] at hb) | (refine aPickB_split (fun hb => ?_) (fun hb => ?_) <;> simp -implicitDefEqProofs only [hb, go_sem, k143, m143, c143_eq, ABs_dec, ABs_enc, Bool.not_true, Bool.not_false, Nat.reduceAdd, Nat.reduceMul, Nat.reduceLeDiff, Nat.reduceEqDiff, reduceCtorEq, Nat.reduceSub, Int.reduceNeg, Nat.reduceMod, Nat.reduceBEq, Nat.reduceLT] <;> try simp only [bOf_t, bOf_f, decide_eq_true_eq, decide_eq_false_iff_not, Bool.not_eq_true', Bool.not_eq_false', Bool.not_eq_true, Bool.not_eq_false, Decidable.not_not] at hb) | (refine gB_split (fun hb => ?_) (fun hb => ?_) <;> simp -implicitDefEqProofs only [hb, go_sem, k143, m143, c143_eq, ABs_dec, ABs_enc, Bool.not_true, Bool.not_false, Nat.reduceAdd, Nat.reduceMul, Nat.reduceLeDiff, Nat.reduceEqDiff, reduceCtorEq, Nat.reduceSub, Int.reduceNeg, Nat.reduceMod, Nat.reduceBEq, Nat.reduceLT] <;> try simp only [bOf_t, bOf_f, decide_eq_true_eq, decide_eq_false_iff_not, Bool.not_eq_true', Bool.not_eq_false', Bool.not_eq_true, Bool.not_eq_false, Decidable.not_not] at hb))
      all_goals first | rfl | omega | skip
      rw [← ht, trR, dif_pos h0]
    · have h1 : (t.size : Int) > 0 := by omega
      have hbr := byteAt_range t (t.size - 1)
      have hr : trR l t = bif l.getD (byteAt t (t.size - 1)).toNat false then trR l (t.extract 0 (t.size - 1)) else t := by
        rw [trR, dif_neg h0]
      have e1 : ((t.size : Int) - 1).toNat = (t.size - 1) := by omega
      cases hb : l.getD (byteAt t (((t.size : Int) - 1).toNat)).toNat false
      · simp -implicitDefEqProofs only [h1, hb, go_sem, k143, m143, c143_eq, ABs_dec, ABs_enc, Bool.not_true, Bool.not_false, Nat.reduceAdd, Nat.reduceMul, Nat.reduceLeDiff, Nat.reduceEqDiff, reduceCtorEq, Nat.reduceSub, Int.reduceNeg, Nat.reduceMod, Nat.reduceBEq, Nat.reduceLT]
        repeat' (first | with_reducible apply And.intro | with_reducible intro _ | (refine brB_split (fun hb => ?_) (fun hb => ?_) <;> simp -implicitDefEqProofs only [hb, go_sem, k143, m143, c143_eq, ABs_dec, ABs_enc, Bool.not_true, Bool.not_false, Nat.reduceAdd, Nat.reduceMul, Nat.reduceLeDiff, Nat.reduceEqDiff, reduceCtorEq, Nat.reduceSub, Int.reduceNeg, Nat.reduceMod, Nat.reduceBEq, Nat.reduceLT] <;> try simp only [bOf_t, bOf_f, decide_eq_true_eq, decide_eq_false_iff_not, Bool.not_eq_true', Bool.not_eq_false', Bool.not_eq_true, Bool.not_eq_false, Decidable.not_not] at hb) | (refine aPickB_split (fun hb => ?_) (fun hb => ?_) <;> simp -implicitDefEqProofs only [hb, go_sem, k143, m143, c143_eq, ABs_dec, ABs_enc, Bool.not_true, Bool.not_false, Nat.reduceAdd, Nat.reduceMul, Nat.reduceLeDiff, Nat.reduceEqDiff, reduceCtorEq, Nat.reduceSub, Int.reduceNeg, Nat.reduceMod, Nat.reduceBEq, Nat.reduceLT] <;> try simp only [bOf_t, bOf_f, decide_eq_true_eq, decide_eq_false_iff_not, Bool.not_eq_true', Bool.not_eq_false', Bool.not_eq_true, Bool.not_eq_false, Decidable.not_not] at hb) | (refine gB_split (fun hb => ?_) (fun hb => ?_) <;> simp -implicitDefEqProofs only [hb, go_sem, k143, m143, c143_eq, ABs_dec, ABs_enc, Bool.not_true, Bool.not_false, Nat.reduceAdd, Nat.reduceMul, Nat.reduceLeDiff, Nat.reduceEqDiff, reduceCtorEq, Nat.reduceSub, Int.reduceNeg, Nat.reduceMod, Nat.reduceBEq, Nat.reduceLT] <;> try simp only [bOf_t, bOf_f, decide_eq_true_eq, decide_eq_false_iff_not, Bool.not_eq_true', Bool.not_eq_false', Bool.not_eq_true, Bool.not_eq_false, Decidable.not_not] at hb))
        all_goals first | rfl | omega | skip
        all_goals rw [e1] at *
        all_goals first | omega | (rw [← ht, hr, hb]; rfl)
      · simp -implicitDefEqProofs only [h1, hb, go_sem, k143, m143, c143_eq, ABs_dec, ABs_enc, Bool.not_true, Bool.not_false, Nat.reduceAdd, Nat.reduceMul, Nat.reduceLeDiff, Nat.reduceEqDiff, reduceCtorEq, Nat.reduceSub, Int.reduceNeg, Nat.reduceMod, Nat.reduceBEq, Nat.reduceLT]
        repeat' (first | with_reducible apply And.intro | with_reducible intro _ | (refine brB_split (fun hb => ?_) (fun hb => ?_) <;> simp -implicitDefEqProofs only [hb, go_sem, k143, m143, c143_eq, ABs_dec, ABs_enc, Bool.not_true, Bool.not_false, Nat.reduceAdd, Nat.reduceMul, Nat.reduceLeDiff, Nat.reduceEqDiff, reduceCtorEq, Nat.reduceSub, Int.reduceNeg, Nat.reduceMod, Nat.reduceBEq, Nat.reduceLT] <;> try simp only [bOf_t, bOf_f, decide_eq_true_eq, decide_eq_false_iff_not, Bool.not_eq_true', Bool.not_eq_false', Bool.not_eq_true, Bool.not_eq_false, Decidable.not_not] at hb) | (refine aPickB_split (fun hb => ?_) (fun hb => ?_) <;> simp -implicitDefEqProofs only [hb, go_sem, k143, m143, c143_eq, ABs_dec, ABs_enc, Bool.not_true, Bool.not_false, Nat.reduceAdd, Nat.reduceMul, Nat.reduceLeDiff, Nat.reduceEqDiff, reduceCtorEq, Nat.reduceSub, Int.reduceNeg, Nat.reduceMod, Nat.reduceBEq, Nat.reduceLT] <;> try simp only [bOf_t, bOf_f, decide_eq_true_eq, decide_eq_false_iff_not, Bool.not_eq_true', Bool.not_eq_false', Bool.not_eq_true, Bool.not_eq_false, Decidable.not_not] at hb) | (refine gB_split (fun hb => ?_) (fun hb => ?_) <;> simp -implicitDefEqProofs only [hb, go_sem, k143, m143, c143_eq, ABs_dec, ABs_enc, Bool.not_true, Bool.not_false, Nat.reduceAdd, Nat.reduceMul, Nat.reduceLeDiff, Nat.reduceEqDiff, reduceCtorEq, Nat.reduceSub, Int.reduceNeg, Nat.reduceMod, Nat.reduceBEq, Nat.reduceLT] <;> try simp only [bOf_t, bOf_f, decide_eq_true_eq, decide_eq_false_iff_not, Bool.not_eq_true', Bool.not_eq_false', Bool.not_eq_true, Bool.not_eq_false, Decidable.not_not] at hb))
        all_goals first | rfl | omega | skip
        all_goals rw [e1] at *
        all_goals first | omega | skip
        refine ⟨⟨t.extract 0 (t.size - 1), ?_, ?_⟩, ?_, ?_⟩
        · rw [← ht, hr, hb]; rfl
        · rw [ByteArray.size_extract]; omega
        · show (t.extract 0 (t.size - 1)).size < t.size
          rw [ByteArray.size_extract]; omega
        · simp -implicitDefEqProofs only [go_sem, k143, m143, c143_eq, ABs_dec, ABs_enc, Bool.not_true, Bool.not_false, Nat.reduceAdd, Nat.reduceMul, Nat.reduceLeDiff, Nat.reduceEqDiff, reduceCtorEq, Nat.reduceSub, Int.reduceNeg, Nat.reduceMod, Nat.reduceBEq, Nat.reduceLT]
          try simp [e1]

def c135 : Ct := ctR (lc AStr (lc ABs l0)) (fun p => p.2.1.length = 256 ∧ p.1.size ≤ 2000000) (fun p => .t (.v (.string (trL p.2.1 p.1))))
theorem c135_eq {args : List AV} {K : AV → Prop} : c135 args K = K0 (fun p => p.2.1.length = 256 ∧ p.1.size ≤ 2000000) (fun p => .t (.v (.string (trL p.2.1 p.1)))) K ((lc AStr (lc ABs l0)).dec args) := rfl
theorem good135 {G : Gt} (hG : GOk Tryz.prog G ∧ GDet G) (h143 : G.e 143 = roEnt 0 c143) : Good Tryz.prog G.m 135 (roEnt 0 c135) := by
  refine good_run (dp := fun _ => true) (fn := Tryz.f135) (n := 2) (fun _ => rfl) (by kernel_rfl) rfl (by kernel_rfl) hmix hG (Nat.le_of_ble_eq_true rfl) (by kernel_rfl) (by decide) (fun _ _ => .v _) ?_
  have k143 : (G.e 143).kd = 0 := by rw [h143]; rfl
  have m143 : (G.e 143).ro = c143 := by rw [h143]; rfl
  rintro ⟨s, l, ⟨⟩⟩ hpre
  simp -implicitDefEqProofs only [Tryz.f135, go_sem, k143, m143, c143_eq, ABs_dec, ABs_enc, Bool.not_true, Bool.not_false, Nat.reduceAdd, Nat.reduceMul, Nat.reduceLeDiff, Nat.reduceEqDiff, reduceCtorEq, Nat.reduceSub, Int.reduceNeg, Nat.reduceMod, Nat.reduceBEq, Nat.reduceLT] at hpre ⊢

  refine run_loop [] (ι := {t : ByteArray // trL l t = trL l s ∧ t.size ≤ s.size}) (fun p => ⟨[(0, .t (.v (.string p.1))), (1, .t (.rop (bxT l)))], []⟩) (fun p => p.1.size) ⟨s, rfl, Nat.le_refl _⟩ rfl ?_ ?_
  · simp -implicitDefEqProofs only [go_sem, k143, m143, c143_eq, ABs_dec, ABs_enc, Bool.not_true, Bool.not_false, Nat.reduceAdd, Nat.reduceMul, Nat.reduceLeDiff, Nat.reduceEqDiff, reduceCtorEq, Nat.reduceSub, Int.reduceNeg, Nat.reduceMod, Nat.reduceBEq, Nat.reduceLT]
    try simp
  · rintro ⟨t, ht, hts⟩
    by_cases h0 : t.size = 0
    · have h1 : (t.size : Int) = 0 := by omega
      simp -implicitDefEqProofs only [h1, go_sem, k143, m143, c143_eq, ABs_dec, ABs_enc, Bool.not_true, Bool.not_false, Nat.reduceAdd, Nat.reduceMul, Nat.reduceLeDiff, Nat.reduceEqDiff, reduceCtorEq, Nat.reduceSub, Int.reduceNeg, Nat.reduceMod, Nat.reduceBEq, Nat.reduceLT]
      repeat' (first | with_reducible apply And.intro | with_reducible intro _ | (refine brB_split (fun hb => ?_) (fun hb => ?_) <;> simp -implicitDefEqProofs only [hb, go_sem, k143, m143, c143_eq, ABs_dec, ABs_enc, Bool.not_true, Bool.not_false, Nat.reduceAdd, Nat.reduceMul, Nat.reduceLeDiff, Nat.reduceEqDiff, reduceCtorEq, Nat.reduceSub, Int.reduceNeg, Nat.reduceMod, Nat.reduceBEq, Nat.reduceLT] <;> try simp only [bOf_t, bOf_f, decide_eq_true_eq, decide_eq_false_iff_not, Bool.not_eq_true', Bool.not_eq_false', Bool.not_eq_true, Bool.not_eq_false, Decidable.not_not] at hb) | (refine aPickB_split (fun hb => ?_) (fun hb => ?_) <;> simp -implicitDefEqProofs only [hb, go_sem, k143, m143, c143_eq, ABs_dec, ABs_enc, Bool.not_true, Bool.not_false, Nat.reduceAdd, Nat.reduceMul, Nat.reduceLeDiff, Nat.reduceEqDiff, reduceCtorEq, Nat.reduceSub, Int.reduceNeg, Nat.reduceMod, Nat.reduceBEq, Nat.reduceLT] <;> try simp only [bOf_t, bOf_f, decide_eq_true_eq, decide_eq_false_iff_not, Bool.not_eq_true', Bool.not_eq_false', Bool.not_eq_true, Bool.not_eq_false, Decidable.not_not] at hb) | (refine gB_split (fun hb => ?_) (fun hb => ?_) <;> simp -implicitDefEqProofs only [hb, go_sem, k143, m143, c143_eq, ABs_dec, ABs_enc, Bool.not_true, Bool.not_false, Nat.reduceAdd, Nat.reduceMul, Nat.reduceLeDiff, Nat.reduceEqDiff, reduceCtorEq, Nat.reduceSub, Int.reduceNeg, Nat.reduceMod, Nat.reduceBEq, Nat.reduceLT] <;> try simp only [bOf_t, bOf_f, decide_eq_true_eq, decide_eq_false_iff_not, Bool.not_eq_true', Bool.not_eq_false', Bool.not_eq_true, Bool.not_eq_false, Decidable.not_not] at hb))
      all_goals first | rfl | omega | skip
      rw [← ht, trL, dif_pos h0]
    · have h1 : (t.size : Int) > 0 := by omega
      have hbr := byteAt_range t 0
      have hr : trL l t = bif l.getD (byteAt t 0).toNat false then trL l (t.extract 1 t.size) else t := by
        rw [trL, dif_neg h0]
      have e1 : Int.toNat 0 = 0 := by omega
      cases hb : l.getD (byteAt t (Int.toNat 0)).toNat false
      · simp -implicitDefEqProofs only [h1, hb, go_sem, k143, m143, c143_eq, ABs_dec, ABs_enc, Bool.not_true, Bool.not_false, Nat.reduceAdd, Nat.reduceMul, Nat.reduceLeDiff, Nat.reduceEqDiff, reduceCtorEq, Nat.reduceSub, Int.reduceNeg, Nat.reduceMod, Nat.reduceBEq, Nat.reduceLT]
        repeat' (first | with_reducible apply And.intro | with_reducible intro _ | (refine brB_split (fun hb => ?_) (fun hb => ?_) <;> simp -implicitDefEqProofs only [hb, go_sem, k143, m143, c143_eq, ABs_dec, ABs_enc, Bool.not_true, Bool.not_false, Nat.reduceAdd, Nat.reduceMul, Nat.reduceLeDiff, Nat.reduceEqDiff, reduceCtorEq, Nat.reduceSub, Int.reduceNeg, Nat.reduceMod, Nat.reduceBEq, Nat.reduceLT] <;> try simp only [bOf_t, bOf_f, decide_eq_true_eq, decide_eq_false_iff_not, Bool.not_eq_true', Bool.not_eq_false', Bool.not_eq_true, Bool.not_eq_false, Decidable.not_not] at hb) | (refine aPickB_split (fun hb => ?_) (fun hb => ?_) <;> simp -implicitDefEqProofs only [hb, go_sem, k143, m143, c143_eq, ABs_dec, ABs_enc, Bool.not_true, Bool.not_false, Nat.reduceAdd, Nat.reduceMul, Nat.reduceLeDiff, Nat.reduceEqDiff, reduceCtorEq, Nat.reduceSub, Int.reduceNeg, Nat.reduceMod, Nat.reduceBEq, Nat.reduceLT] <;> try simp only [bOf_t, bOf_f, decide_eq_true_eq, decide_eq_false_iff_not, Bool.not_eq_true', Bool.not_eq_false', Bool.not_eq_true, Bool.not_eq_false, Decidable.not_not] at hb) | (refine gB_split (fun hb => ?_) (fun hb => ?_) <;> simp -implicitDefEqProofs only [hb, go_sem, k143, m143, c143_eq, ABs_dec, ABs_enc, Bool.not_true, Bool.not_false, Nat.reduceAdd, Nat.reduceMul, Nat.reduceLeDiff, Nat.reduceEqDiff, reduceCtorEq, Nat.reduceSub, Int.reduceNeg, Nat.reduceMod, Nat.reduceBEq, Nat.reduceLT] <;> try simp only [bOf_t, bOf_f, decide_eq_true_eq, decide_eq_false_iff_not, Bool.not_eq_true', Bool.not_eq_false', Bool.not_eq_true, Bool.not_eq_false, Decidable.not_not] at hb))
        all_goals first | rfl | omega | skip
        all_goals rw [e1] at *
        all_goals first | omega | (rw [← ht, hr, hb]; rfl)
      · simp -implicitDefEqProofs only [h1, hb, go_sem, k143, m143, c143_eq, ABs_dec, ABs_enc, Bool.not_true, Bool.not_false, Nat.reduceAdd, Nat.reduceMul, Nat.reduceLeDiff, Nat.reduceEqDiff, reduceCtorEq, Nat.reduceSub, Int.reduceNeg, Nat.reduceMod, Nat.reduceBEq, Nat.reduceLT]
        repeat' (first | with_reducible apply And.intro | with_reducible intro _ | (refine brB_split (fun hb => ?_) (fun hb => ?_) <;> simp -implicitDefEqProofs only [hb, go_sem, k143, m143, c143_eq, ABs_dec, ABs_enc, Bool.not_true, Bool.not_false, Nat.reduceAdd, Nat.reduceMul, Nat.reduceLeDiff, Nat.reduceEqDiff, reduceCtorEq, Nat.reduceSub, Int.reduceNeg, Nat.reduceMod, Nat.reduceBEq, Nat.reduceLT] <;> try simp only [bOf_t, bOf_f, decide_eq_true_eq, decide_eq_false_iff_not, Bool.not_eq_true', Bool.not_eq_false', Bool.not_eq_true, Bool.not_eq_false, Decidable.not_not] at hb) | (refine aPickB_split (fun hb => ?_) (fun hb => ?_) <;> simp -implicitDefEqProofs only [hb, go_sem, k143, m143, c143_eq, ABs_dec, ABs_enc, Bool.not_true, Bool.not_false, Nat.reduceAdd, Nat.reduceMul, Nat.reduceLeDiff, Nat.reduceEqDiff, reduceCtorEq, Nat.reduceSub, Int.reduceNeg, Nat.reduceMod, Nat.reduceBEq, Nat.reduceLT] <;> try simp only [bOf_t, bOf_f, decide_eq_true_eq, decide_eq_false_iff_not, Bool.not_eq_true', Bool.not_eq_false', Bool.not_eq_true, Bool.not_eq_false, Decidable.not_not] at hb) | (refine gB_split (fun hb => ?_) (fun hb => ?_) <;> simp -implicitDefEqProofs only [hb, go_sem, k143, m143, c143_eq, ABs_dec, ABs_enc, Bool.not_true, Bool.not_false, Nat.reduceAdd, Nat.reduceMul, Nat.reduceLeDiff, Nat.reduceEqDiff, reduceCtorEq, Nat.reduceSub, Int.reduceNeg, Nat.reduceMod, Nat.reduceBEq, Nat.reduceLT] <;> try simp only [bOf_t, bOf_f, decide_eq_true_eq, decide_eq_false_iff_not, Bool.not_eq_true', Bool.not_eq_false', Bool.not_eq_true, Bool.not_eq_false, Decidable.not_not] at hb))
        all_goals first | rfl | omega | skip
        all_goals rw [e1] at *
        all_goals first | omega | skip
        refine ⟨⟨t.extract 1 t.size, ?_, ?_⟩, ?_, ?_⟩
        · rw [← ht, hr, hb]; rfl
        · rw [ByteArray.size_extract]; omega
        · show (t.extract 1 t.size).size < t.size
          rw [ByteArray.size_extract]; omega
        · simp -implicitDefEqProofs only [go_sem, k143, m143, c143_eq, ABs_dec, ABs_enc, Bool.not_true, Bool.not_false, Nat.reduceAdd, Nat.reduceMul, Nat.reduceLeDiff, Nat.reduceEqDiff, reduceCtorEq, Nat.reduceSub, Int.reduceNeg, Nat.reduceMod, Nat.reduceBEq, Nat.reduceLT]
          try simp [e1]

def c134 : Ct := ctR (lc AStr l0) (fun p => p.1.size ≤ 1000 ∧ ∀ j, j < p.1.size → byteAt p.1 j < 128) (fun p => .tup [.agg (bx (setN p.1 p.1.size)), .t (.v (.bool true))])
theorem c134_eq {args : List AV} {K : AV → Prop} : c134 args K = K0 (fun p => p.1.size ≤ 1000 ∧ ∀ j, j < p.1.size → byteAt p.1 j < 128) (fun p => .tup [.agg (bx (setN p.1 p.1.size)), .t (.v (.bool true))]) K ((lc AStr l0).dec args) := rfl
theorem good134 {G : Gt} (hG : GOk Tryz.prog G ∧ GDet G) : Good Tryz.prog G.m 134 (roEnt 0 c134) := by
  refine good_run (dp := fun _ => true) (fn := Tryz.f134) (n := 1) (fun _ => rfl) (by kernel_rfl) rfl (by kernel_rfl) hmix hG (Nat.le_of_ble_eq_true rfl) (by kernel_rfl) (by decide) (fun _ _ => .tup _ (by intro c hc; simp only [List.mem_cons, List.not_mem_nil, or_false] at hc; rcases hc with rfl | rfl <;> first | exact .v _ | exact .agg _ (by intro c hc; simp only [bx, List.mem_map] at hc; obtain ⟨b, _, rfl⟩ := hc; exact .v _))) ?_
  rintro ⟨cs, ⟨⟩⟩ hpre
  simp -implicitDefEqProofs only [Tryz.f134, go_sem, ty153z, bx_zero, bx_fine, Nat.reduceAdd, Nat.reduceMul, Nat.reduceLeDiff, Nat.reduceEqDiff, reduceCtorEq, Nat.reduceSub, Int.reduceNeg, Nat.reduceMod, Nat.reduceBEq, Nat.reduceLT] at hpre ⊢

  repeat' (first | with_reducible apply And.intro | with_reducible intro _ | (refine brB_split (fun hb => ?_) (fun hb => ?_) <;> simp -implicitDefEqProofs only [hb, go_sem, ty153z, bx_zero, bx_fine, Nat.reduceAdd, Nat.reduceMul, Nat.reduceLeDiff, Nat.reduceEqDiff, reduceCtorEq, Nat.reduceSub, Int.reduceNeg, Nat.reduceMod, Nat.reduceBEq, Nat.reduceLT] <;> try simp only [bOf_t, bOf_f, decide_eq_true_eq, decide_eq_false_iff_not, Bool.not_eq_true', Bool.not_eq_false', Bool.not_eq_true, Bool.not_eq_false, Decidable.not_not] at hb) | (refine aPickB_split (fun hb => ?_) (fun hb => ?_) <;> simp -implicitDefEqProofs only [hb, go_sem, ty153z, bx_zero, bx_fine, Nat.reduceAdd, Nat.reduceMul, Nat.reduceLeDiff, Nat.reduceEqDiff, reduceCtorEq, Nat.reduceSub, Int.reduceNeg, Nat.reduceMod, Nat.reduceBEq, Nat.reduceLT] <;> try simp only [bOf_t, bOf_f, decide_eq_true_eq, decide_eq_false_iff_not, Bool.not_eq_true', Bool.not_eq_false', Bool.not_eq_true, Bool.not_eq_false, Decidable.not_not] at hb) | (refine gB_split (fun hb => ?_) (fun hb => ?_) <;> simp -implicitDefEqProofs only [hb, go_sem, ty153z, bx_zero, bx_fine, Nat.reduceAdd, Nat.reduceMul, Nat.reduceLeDiff, Nat.reduceEqDiff, reduceCtorEq, Nat.reduceSub, Int.reduceNeg, Nat.reduceMod, Nat.reduceBEq, Nat.reduceLT] <;> try simp only [bOf_t, bOf_f, decide_eq_true_eq, decide_eq_false_iff_not, Bool.not_eq_true', Bool.not_eq_false', Bool.not_eq_true, Bool.not_eq_false, Decidable.not_not] at hb))
  all_goals first | rfl | omega | skip
  refine run_loop [] (ι := {i : Nat // i ≤ cs.size}) (fun p => ⟨[(0, .t (.v (.string cs))), (2, .pb 1002 0), (4, .t (.v (.int .i64 p.1)))], [(1002, some (.box (bx (setN cs p.1))))]⟩) (fun p => cs.size - p.1) ⟨0, Nat.zero_le _⟩ rfl ?_ ?_
  · simp -implicitDefEqProofs only [go_sem, ty153z, bx_zero, bx_fine, Nat.reduceAdd, Nat.reduceMul, Nat.reduceLeDiff, Nat.reduceEqDiff, reduceCtorEq, Nat.reduceSub, Int.reduceNeg, Nat.reduceMod, Nat.reduceBEq, Nat.reduceLT]
    exact ⟨rfl, rfl⟩
  · rintro ⟨i, hi⟩
    have hbr := byteAt_range cs i
    have hlen := setN_len cs i
    by_cases hlt : (i : Int) < cs.size
    · have h128 := hpre.2 i (by omega)
      have h1 : ¬ byteAt cs (i : Int).toNat ≥ 128 := by rw [Int.toNat_natCast]; omega
      have h2 : (byteAt cs (i : Int).toNat).toNat * 1 < (setN cs i).length := by rw [Int.toNat_natCast]; omega
      simp -implicitDefEqProofs only [hlt, h1, Nat.zero_add, bx_splice h2, go_sem, ty153z, bx_zero, bx_fine, Nat.reduceAdd, Nat.reduceMul, Nat.reduceLeDiff, Nat.reduceEqDiff, reduceCtorEq, Nat.reduceSub, Int.reduceNeg, Nat.reduceMod, Nat.reduceBEq, Nat.reduceLT]
      repeat' (first | with_reducible apply And.intro | with_reducible intro _ | (refine brB_split (fun hb => ?_) (fun hb => ?_) <;> simp -implicitDefEqProofs only [hb, go_sem, ty153z, bx_zero, bx_fine, Nat.reduceAdd, Nat.reduceMul, Nat.reduceLeDiff, Nat.reduceEqDiff, reduceCtorEq, Nat.reduceSub, Int.reduceNeg, Nat.reduceMod, Nat.reduceBEq, Nat.reduceLT] <;> try simp only [bOf_t, bOf_f, decide_eq_true_eq, decide_eq_false_iff_not, Bool.not_eq_true', Bool.not_eq_false', Bool.not_eq_true, Bool.not_eq_false, Decidable.not_not] at hb) | (refine aPickB_split (fun hb => ?_) (fun hb => ?_) <;> simp -implicitDefEqProofs only [hb, go_sem, ty153z, bx_zero, bx_fine, Nat.reduceAdd, Nat.reduceMul, Nat.reduceLeDiff, Nat.reduceEqDiff, reduceCtorEq, Nat.reduceSub, Int.reduceNeg, Nat.reduceMod, Nat.reduceBEq, Nat.reduceLT] <;> try simp only [bOf_t, bOf_f, decide_eq_true_eq, decide_eq_false_iff_not, Bool.not_eq_true', Bool.not_eq_false', Bool.not_eq_true, Bool.not_eq_false, Decidable.not_not] at hb) | (refine gB_split (fun hb => ?_) (fun hb => ?_) <;> simp -implicitDefEqProofs only [hb, go_sem, ty153z, bx_zero, bx_fine, Nat.reduceAdd, Nat.reduceMul, Nat.reduceLeDiff, Nat.reduceEqDiff, reduceCtorEq, Nat.reduceSub, Int.reduceNeg, Nat.reduceMod, Nat.reduceBEq, Nat.reduceLT] <;> try simp only [bOf_t, bOf_f, decide_eq_true_eq, decide_eq_false_iff_not, Bool.not_eq_true', Bool.not_eq_false', Bool.not_eq_true, Bool.not_eq_false, Decidable.not_not] at hb))
      all_goals (try rw [Int.toNat_natCast])
      all_goals first | rfl | omega | (simp only [bx_len, hlen]; omega) | skip
      refine ⟨⟨i + 1, by omega⟩, by dsimp only; omega, ?_⟩
      simp -implicitDefEqProofs only [go_sem, ty153z, bx_zero, bx_fine, Nat.reduceAdd, Nat.reduceMul, Nat.reduceLeDiff, Nat.reduceEqDiff, reduceCtorEq, Nat.reduceSub, Int.reduceNeg, Nat.reduceMod, Nat.reduceBEq, Nat.reduceLT]
      refine ⟨by simp, ?_⟩
      refine congrArg Ob.box ?_
      rw [setN]
      simp only [Int.toNat_natCast, Nat.mul_one]
      exact bx_spl (by omega)
    · have e1 : i = cs.size := by omega
      have e2 : List.drop 256 (bx (setN cs i)) = [] := List.drop_eq_nil_of_le (by rw [bx_len, hlen]; exact Nat.le_refl _)
      have e3 : decide (256 ≤ 256) = true := rfl
      simp -implicitDefEqProofs only [hlt, bx_take hlen, bx_len, hlen, e2, List.append_nil, Nat.zero_add, e3, cond_true, go_sem, ty153z, bx_zero, bx_fine, Nat.reduceAdd, Nat.reduceMul, Nat.reduceLeDiff, Nat.reduceEqDiff, reduceCtorEq, Nat.reduceSub, Int.reduceNeg, Nat.reduceMod, Nat.reduceBEq, Nat.reduceLT]
      subst e1
      repeat' (first | with_reducible apply And.intro | with_reducible intro _ | (refine brB_split (fun hb => ?_) (fun hb => ?_) <;> simp -implicitDefEqProofs only [hb, go_sem, ty153z, bx_zero, bx_fine, Nat.reduceAdd, Nat.reduceMul, Nat.reduceLeDiff, Nat.reduceEqDiff, reduceCtorEq, Nat.reduceSub, Int.reduceNeg, Nat.reduceMod, Nat.reduceBEq, Nat.reduceLT] <;> try simp only [bOf_t, bOf_f, decide_eq_true_eq, decide_eq_false_iff_not, Bool.not_eq_true', Bool.not_eq_false', Bool.not_eq_true, Bool.not_eq_false, Decidable.not_not] at hb) | (refine aPickB_split (fun hb => ?_) (fun hb => ?_) <;> simp -implicitDefEqProofs only [hb, go_sem, ty153z, bx_zero, bx_fine, Nat.reduceAdd, Nat.reduceMul, Nat.reduceLeDiff, Nat.reduceEqDiff, reduceCtorEq, Nat.reduceSub, Int.reduceNeg, Nat.reduceMod, Nat.reduceBEq, Nat.reduceLT] <;> try simp only [bOf_t, bOf_f, decide_eq_true_eq, decide_eq_false_iff_not, Bool.not_eq_true', Bool.not_eq_false', Bool.not_eq_true, Bool.not_eq_false, Decidable.not_not] at hb) | (refine gB_split (fun hb => ?_) (fun hb => ?_) <;> simp -implicitDefEqProofs only [hb, go_sem, ty153z, bx_zero, bx_fine, Nat.reduceAdd, Nat.reduceMul, Nat.reduceLeDiff, Nat.reduceEqDiff, reduceCtorEq, Nat.reduceSub, Int.reduceNeg, Nat.reduceMod, Nat.reduceBEq, Nat.reduceLT] <;> try simp only [bOf_t, bOf_f, decide_eq_true_eq, decide_eq_false_iff_not, Bool.not_eq_true', Bool.not_eq_false', Bool.not_eq_true, Bool.not_eq_false, Decidable.not_not] at hb))
      all_goals first
        | rfl
        | omega
        | exact bx_outP
        | (rw [bx_outI]; exact .nil)
        | (rw [bx_outZ]; simp; done)
        | skip
      all_goals trace_state

def c124 : Ct := ctR (lc AStr (lc AStr l0)) (fun p => p.2.1.size ≤ 1000 ∧ 2 ≤ p.2.1.size ∧ p.1.size ≤ 2000000 ∧ ∀ j, j < p.2.1.size → byteAt p.2.1 j < 128) (fun p => .t (.v (.string (trL (setN p.2.1 p.2.1.size) (trR (setN p.2.1 p.2.1.size) p.1)))))
theorem c124_eq {args : List AV} {K : AV → Prop} : c124 args K = K0 (fun p => p.2.1.size ≤ 1000 ∧ 2 ≤ p.2.1.size ∧ p.1.size ≤ 2000000 ∧ ∀ j, j < p.2.1.size → byteAt p.2.1 j < 128) (fun p => .t (.v (.string (trL (setN p.2.1 p.2.1.size) (trR (setN p.2.1 p.2.1.size) p.1))))) K ((lc AStr (lc AStr l0)).dec args) := rfl
theorem good124 {G : Gt} (hG : GOk Tryz.prog G ∧ GDet G) (h134 : G.e 134 = roEnt 0 c134) (h135 : G.e 135 = roEnt 0 c135) (h136 : G.e 136 = roEnt 0 c136) : Good Tryz.prog G.m 124 (roEnt 0 c124) := by
  refine good_run (dp := fun _ => true) (fn := Tryz.f124) (n := 2) (fun _ => rfl) (by kernel_rfl) rfl (by kernel_rfl) hmix hG (Nat.le_of_ble_eq_true rfl) (by kernel_rfl) (by decide) (fun _ _ => .v _) ?_
  have k134 : (G.e 134).kd = 0 := by rw [h134]; rfl
  have m134 : (G.e 134).ro = c134 := by rw [h134]; rfl
  have k135 : (G.e 135).kd = 0 := by rw [h135]; rfl
  have m135 : (G.e 135).ro = c135 := by rw [h135]; rfl
  have k136 : (G.e 136).kd = 0 := by rw [h136]; rfl
  have m136 : (G.e 136).ro = c136 := by rw [h136]; rfl
  rintro ⟨s, cs, ⟨⟩⟩ hpre
  simp -implicitDefEqProofs only [Tryz.f124, go_sem, k134, m134, c134_eq, k135, m135, c135_eq, k136, m136, c136_eq, ty153z, bx_zero, bx_fine, bx_drop0, b256_len, ABs_dec, ABs_enc, Nat.reduceAdd, Nat.reduceMul, Nat.reduceLeDiff, Nat.reduceEqDiff, reduceCtorEq, Nat.reduceSub, Int.reduceNeg, Nat.reduceMod, Nat.reduceBEq, Nat.reduceLT] at hpre ⊢

  have hc : ¬ cs = ⟨#[]⟩ := by intro e; rw [e] at hpre; exact absurd hpre.2.1 (by decide)
  have h1 : ¬ (cs.size : Int) = 1 := by omega
  have hlen := setN_len cs cs.size
  have htr : (trR (setN cs cs.size) s).size ≤ s.size := trR_le _ s
  by_cases hs : s = ⟨#[]⟩
  · simp -implicitDefEqProofs only [hs, go_sem, k134, m134, c134_eq, k135, m135, c135_eq, k136, m136, c136_eq, ty153z, bx_zero, bx_fine, bx_drop0, b256_len, ABs_dec, ABs_enc, Nat.reduceAdd, Nat.reduceMul, Nat.reduceLeDiff, Nat.reduceEqDiff, reduceCtorEq, Nat.reduceSub, Int.reduceNeg, Nat.reduceMod, Nat.reduceBEq, Nat.reduceLT]
    repeat' (first | with_reducible apply And.intro | with_reducible intro _ | (refine brB_split (fun hb => ?_) (fun hb => ?_) <;> simp -implicitDefEqProofs only [hb, go_sem, k134, m134, c134_eq, k135, m135, c135_eq, k136, m136, c136_eq, ty153z, bx_zero, bx_fine, bx_drop0, b256_len, ABs_dec, ABs_enc, Nat.reduceAdd, Nat.reduceMul, Nat.reduceLeDiff, Nat.reduceEqDiff, reduceCtorEq, Nat.reduceSub, Int.reduceNeg, Nat.reduceMod, Nat.reduceBEq, Nat.reduceLT] <;> try simp only [bOf_t, bOf_f, decide_eq_true_eq, decide_eq_false_iff_not, Bool.not_eq_true', Bool.not_eq_false', Bool.not_eq_true, Bool.not_eq_false, Decidable.not_not] at hb) | (refine aPickB_split (fun hb => ?_) (fun hb => ?_) <;> simp -implicitDefEqProofs only [hb, go_sem, k134, m134, c134_eq, k135, m135, c135_eq, k136, m136, c136_eq, ty153z, bx_zero, bx_fine, bx_drop0, b256_len, ABs_dec, ABs_enc, Nat.reduceAdd, Nat.reduceMul, Nat.reduceLeDiff, Nat.reduceEqDiff, reduceCtorEq, Nat.reduceSub, Int.reduceNeg, Nat.reduceMod, Nat.reduceBEq, Nat.reduceLT] <;> try simp only [bOf_t, bOf_f, decide_eq_true_eq, decide_eq_false_iff_not, Bool.not_eq_true', Bool.not_eq_false', Bool.not_eq_true, Bool.not_eq_false, Decidable.not_not] at hb) | (refine gB_split (fun hb => ?_) (fun hb => ?_) <;> simp -implicitDefEqProofs only [hb, go_sem, k134, m134, c134_eq, k135, m135, c135_eq, k136, m136, c136_eq, ty153z, bx_zero, bx_fine, bx_drop0, b256_len, ABs_dec, ABs_enc, Nat.reduceAdd, Nat.reduceMul, Nat.reduceLeDiff, Nat.reduceEqDiff, reduceCtorEq, Nat.reduceSub, Int.reduceNeg, Nat.reduceMod, Nat.reduceBEq, Nat.reduceLT] <;> try simp only [bOf_t, bOf_f, decide_eq_true_eq, decide_eq_false_iff_not, Bool.not_eq_true', Bool.not_eq_false', Bool.not_eq_true, Bool.not_eq_false, Decidable.not_not] at hb))
    all_goals first | rfl | omega | skip
    all_goals (rw [trR_nil, trL_nil])
  · simp -implicitDefEqProofs only [hs, hc, h1, bx_intern, bx_has, bx_dropm, bx_len, hlen, b256_len, bx_drop0, bx_snap, List.append_nil, List.nil_append, Nat.zero_add, go_sem, k134, m134, c134_eq, k135, m135, c135_eq, k136, m136, c136_eq, ty153z, bx_zero, bx_fine, bx_drop0, b256_len, ABs_dec, ABs_enc, Nat.reduceAdd, Nat.reduceMul, Nat.reduceLeDiff, Nat.reduceEqDiff, reduceCtorEq, Nat.reduceSub, Int.reduceNeg, Nat.reduceMod, Nat.reduceBEq, Nat.reduceLT]
    repeat' (first | with_reducible apply And.intro | with_reducible intro _ | (refine brB_split (fun hb => ?_) (fun hb => ?_) <;> simp -implicitDefEqProofs only [hb, go_sem, k134, m134, c134_eq, k135, m135, c135_eq, k136, m136, c136_eq, ty153z, bx_zero, bx_fine, bx_drop0, b256_len, ABs_dec, ABs_enc, Nat.reduceAdd, Nat.reduceMul, Nat.reduceLeDiff, Nat.reduceEqDiff, reduceCtorEq, Nat.reduceSub, Int.reduceNeg, Nat.reduceMod, Nat.reduceBEq, Nat.reduceLT] <;> try simp only [bOf_t, bOf_f, decide_eq_true_eq, decide_eq_false_iff_not, Bool.not_eq_true', Bool.not_eq_false', Bool.not_eq_true, Bool.not_eq_false, Decidable.not_not] at hb) | (refine aPickB_split (fun hb => ?_) (fun hb => ?_) <;> simp -implicitDefEqProofs only [hb, go_sem, k134, m134, c134_eq, k135, m135, c135_eq, k136, m136, c136_eq, ty153z, bx_zero, bx_fine, bx_drop0, b256_len, ABs_dec, ABs_enc, Nat.reduceAdd, Nat.reduceMul, Nat.reduceLeDiff, Nat.reduceEqDiff, reduceCtorEq, Nat.reduceSub, Int.reduceNeg, Nat.reduceMod, Nat.reduceBEq, Nat.reduceLT] <;> try simp only [bOf_t, bOf_f, decide_eq_true_eq, decide_eq_false_iff_not, Bool.not_eq_true', Bool.not_eq_false', Bool.not_eq_true, Bool.not_eq_false, Decidable.not_not] at hb) | (refine gB_split (fun hb => ?_) (fun hb => ?_) <;> simp -implicitDefEqProofs only [hb, go_sem, k134, m134, c134_eq, k135, m135, c135_eq, k136, m136, c136_eq, ty153z, bx_zero, bx_fine, bx_drop0, b256_len, ABs_dec, ABs_enc, Nat.reduceAdd, Nat.reduceMul, Nat.reduceLeDiff, Nat.reduceEqDiff, reduceCtorEq, Nat.reduceSub, Int.reduceNeg, Nat.reduceMod, Nat.reduceBEq, Nat.reduceLT] <;> try simp only [bOf_t, bOf_f, decide_eq_true_eq, decide_eq_false_iff_not, Bool.not_eq_true', Bool.not_eq_false', Bool.not_eq_true, Bool.not_eq_false, Decidable.not_not] at hb))
    all_goals first | rfl | omega | exact hpre.2.2.2 | exact hpre.2.2.2 _ (by assumption) | skip
    all_goals trace_state


theorem size0 {s : ByteArray} (h : s.size = 0) : s = ⟨#[]⟩ := by
  have : bl s = [] := List.eq_nil_of_length_eq_zero (by rw [bl_len]; exact h)
  exact bl_inj this
theorem byteAt_ext {s : ByteArray} {a b j : Nat} (h : a + j < b) : byteAt (s.extract a b) j = byteAt s (a + j) := by
  rw [byteAt_bl, byteAt_bl, bl_extract]
  congr 2
  simp only [List.getD_eq_getElem?_getD]
  rw [List.getElem?_take_of_lt (by omega), List.getElem?_drop]
section
variable {l : List Bool}
theorem trR_ne {s : ByteArray} (h : s.size ≠ 0) : trR l s = bif l.getD (byteAt s (s.size - 1)).toNat false then trR l (s.extract 0 (s.size - 1)) else s := by rw [trR, dif_neg h]
theorem trL_ne {s : ByteArray} (h : s.size ≠ 0) : trL l s = bif l.getD (byteAt s 0).toNat false then trL l (s.extract 1 s.size) else s := by rw [trL, dif_neg h]
theorem trR_all {s : ByteArray} (h : ∀ j, j < s.size → l.getD (byteAt s j).toNat false = true) : trR l s = ⟨#[]⟩ := by
  by_cases h0 : s.size = 0
  · rw [size0 h0, trR_nil]
  · rw [trR_ne h0, h (s.size - 1) (by omega), cond_true]
    refine trR_all fun j hj => ?_
    rw [ByteArray.size_extract] at hj
    rw [byteAt_ext (by omega), Nat.zero_add]
    exact h j (by omega)
termination_by s.size
decreasing_by rw [ByteArray.size_extract]; omega
theorem trL_emp {s : ByteArray} (h : trL l s = ⟨#[]⟩) : ∀ j, j < s.size → l.getD (byteAt s j).toNat false = true := by
  intro j hj
  have h0 : s.size ≠ 0 := by omega
  rw [trL_ne h0] at h
  cases hb : l.getD (byteAt s 0).toNat false
  · rw [hb, cond_false] at h
    rw [h] at hj
    cases hj
  · rw [hb, cond_true] at h
    by_cases hj0 : j = 0
    · rw [hj0]; exact hb
    · have := trL_emp h (j - 1) (by rw [ByteArray.size_extract]; omega)
      rw [byteAt_ext (by omega)] at this
      rw [show 1 + (j - 1) = j by omega] at this
      exact this
termination_by s.size
decreasing_by rw [ByteArray.size_extract]; omega
theorem trR_emp {s : ByteArray} (h : ∀ j, j < (trR l s).size → l.getD (byteAt (trR l s) j).toNat false = true) : ∀ j, j < s.size → l.getD (byteAt s j).toNat false = true := by
  intro j hj
  have h0 : s.size ≠ 0 := by omega
  rw [trR_ne h0] at h
  cases hb : l.getD (byteAt s (s.size - 1)).toNat false
  · rw [hb, cond_false] at h
    exact h j hj
  · rw [hb, cond_true] at h
    by_cases hj0 : j = s.size - 1
    · rw [hj0]; exact hb
    · have := trR_emp h j (by rw [ByteArray.size_extract]; omega)
      rw [byteAt_ext (by omega), Nat.zero_add] at this
      exact this
termination_by s.size
decreasing_by rw [ByteArray.size_extract]; omega
theorem tr_iff (s : ByteArray) : trL l (trR l s) = ⟨#[]⟩ ↔ ∀ j, j < s.size → l.getD (byteAt s j).toNat false = true :=
  ⟨fun h => trR_emp (trL_emp h), fun h => by rw [trR_all h, trL_nil]⟩
end
def lcs : ByteArray := ⟨#[97, 98, 99, 100, 101, 102, 103, 104, 105, 106, 107, 108, 109, 110, 111, 112, 113, 114, 115, 116, 117, 118, 119, 120, 121, 122, 48, 49, 50, 51, 52, 53, 54, 55, 56, 57]⟩
theorem lcs_get : ∀ k : Nat, k < 256 → (setN lcs 36).getD k false = ((Nat.ble 97 k && Nat.ble k 122) || (Nat.ble 48 k && Nat.ble k 57)) := by decide +kernel
theorem lcs_iff (s : ByteArray) : trL (setN lcs 36) (trR (setN lcs 36) s) = ⟨#[]⟩ ↔ ∀ j, j < s.size → isLc (byteAt s j) := by
  rw [tr_iff]
  refine forall_congr' fun j => imp_congr_right fun _ => ?_
  have h := byteAt_range s j
  rw [lcs_get _ (by omega)]
  simp only [Bool.or_eq_true, Bool.and_eq_true, Nat.ble_eq]
  unfold isLc
  omega
theorem bl_app (a b : ByteArray) : bl (a ++ b) = bl a ++ bl b := by
  unfold bl; rw [ByteArray.data_append, Array.toList_append]
theorem ends_dot (s e : ByteArray) : Ends s e ↔ s = e ∨ ((⟨#[46]⟩ : ByteArray).size + e.size ≤ s.size ∧ s.extract (s.size - ((⟨#[46]⟩ : ByteArray).size + e.size)) s.size = ⟨#[46]⟩ ++ e) := by
  unfold Ends
  refine or_congr_right ?_
  have h1 : (⟨#[46]⟩ : ByteArray).size = 1 := rfl
  rw [h1]
  by_cases hs : 1 + e.size ≤ s.size
  · obtain ⟨n, hn⟩ : ∃ n, s.size - (1 + e.size) = n := ⟨_, rfl⟩
    have e1 : s.size - e.size = n + 1 := by omega
    have e2 : s.size - e.size - 1 = n := by omega
    rw [hn, e1, Nat.add_sub_cancel]
    have q : ∀ k, bl (s.extract k s.size) = (bl s).drop k := fun k => by
      rw [bl_extract, List.take_of_length_le (by rw [List.length_drop, bl_len]; exact Nat.le_refl _)]
    have d := drop_byte (s := s) (i := n) (by omega)
    constructor
    · rintro ⟨_, h2, h3⟩
      refine ⟨hs, bl_inj ?_⟩
      rw [bl_app, q, d, ← h2, q]
      rw [byteAt_bl] at h3
      have : (bl s).getD n 0 = 46 := UInt8.toNat_inj.1 (by show ((bl s).getD n 0).toNat = 46; omega)
      rw [this]; rfl
    · rintro ⟨_, h2⟩
      have h3 := congrArg bl h2
      rw [bl_app, q, d] at h3
      have h4 : (bl s).getD n 0 :: (bl s).drop (n + 1) = 46 :: bl e := h3
      injection h4 with h5 h6
      refine ⟨by omega, bl_inj (by rw [q]; exact h6), ?_⟩
      rw [byteAt_bl, h5]; rfl
  · constructor
    · rintro ⟨h, _⟩; omega
    · rintro ⟨h, _⟩; omega
theorem dotc : UInt8.ofNat (byteAt ⟨#[46]⟩ 0).toNat = 46 := rfl
theorem lcs_low : ∀ j, j < 36 → byteAt lcs j < 128 := by decide +kernel
def c123 : Ct := ctR (lc AStr (lc AStr l0)) (fun p => p.2.1.size = 1 ∧ p.1.size ≤ 2000000) (fun p => .o true 1 ((spl p.1 (UInt8.ofNat (byteAt p.2.1 0).toNat)).map encStr))
theorem c123_eq {args : List AV} {K : AV → Prop} : c123 args K = K0 (fun p => p.2.1.size = 1 ∧ p.1.size ≤ 2000000) (fun p => .o true 1 ((spl p.1 (UInt8.ofNat (byteAt p.2.1 0).toNat)).map encStr)) K ((lc AStr (lc AStr l0)).dec args) := rfl
theorem good123 {G : Gt} (hG : GOk Tryz.prog G ∧ GDet G) (h131 : G.e 131 = roEnt 0 c131) : Good Tryz.prog G.m 123 (roEnt 0 c123) := by
  refine good_run (dp := fun _ => true) (fn := Tryz.f123) (n := 2) (fun _ => rfl) (by kernel_rfl) rfl (by kernel_rfl) hmix hG (Nat.le_of_ble_eq_true rfl) (by kernel_rfl) (by decide) (fun _ _ => .deep _ _) ?_
  have k131 : (G.e 131).kd = 0 := by rw [h131]; rfl
  have m131 : (G.e 131).ro = c131 := by rw [h131]; rfl
  rintro ⟨s, sep, ⟨⟩⟩ hpre
  simp -implicitDefEqProofs only [Tryz.f123, go_sem, k131, m131, c131_eq, Nat.reduceAdd, Nat.reduceMul, Nat.reduceLeDiff, Nat.reduceEqDiff, reduceCtorEq, Nat.reduceSub, Int.reduceNeg, Nat.reduceMod, Nat.reduceBEq, Nat.reduceLT] at hpre ⊢

  repeat' (first | with_reducible apply And.intro | with_reducible intro _ | (refine brB_split (fun hb => ?_) (fun hb => ?_) <;> simp -implicitDefEqProofs only [hb, go_sem, k131, m131, c131_eq, Nat.reduceAdd, Nat.reduceMul, Nat.reduceLeDiff, Nat.reduceEqDiff, reduceCtorEq, Nat.reduceSub, Int.reduceNeg, Nat.reduceMod, Nat.reduceBEq, Nat.reduceLT] <;> try simp only [bOf_t, bOf_f, decide_eq_true_eq, decide_eq_false_iff_not, Bool.not_eq_true', Bool.not_eq_false', Bool.not_eq_true, Bool.not_eq_false, Decidable.not_not] at hb) | (refine aPickB_split (fun hb => ?_) (fun hb => ?_) <;> simp -implicitDefEqProofs only [hb, go_sem, k131, m131, c131_eq, Nat.reduceAdd, Nat.reduceMul, Nat.reduceLeDiff, Nat.reduceEqDiff, reduceCtorEq, Nat.reduceSub, Int.reduceNeg, Nat.reduceMod, Nat.reduceBEq, Nat.reduceLT] <;> try simp only [bOf_t, bOf_f, decide_eq_true_eq, decide_eq_false_iff_not, Bool.not_eq_true', Bool.not_eq_false', Bool.not_eq_true, Bool.not_eq_false, Decidable.not_not] at hb) | (refine gB_split (fun hb => ?_) (fun hb => ?_) <;> simp -implicitDefEqProofs only [hb, go_sem, k131, m131, c131_eq, Nat.reduceAdd, Nat.reduceMul, Nat.reduceLeDiff, Nat.reduceEqDiff, reduceCtorEq, Nat.reduceSub, Int.reduceNeg, Nat.reduceMod, Nat.reduceBEq, Nat.reduceLT] <;> try simp only [bOf_t, bOf_f, decide_eq_true_eq, decide_eq_false_iff_not, Bool.not_eq_true', Bool.not_eq_false', Bool.not_eq_true, Bool.not_eq_false, Decidable.not_not] at hb))
  all_goals first | rfl | omega | (simp; done) | skip

def c82 : Ct := ctR (lc AInt (lc AInt (lc AInt l0))) (fun p => True) (fun p => .t (.v (.bool (bOf (p.2.1 ≤ p.1 ∧ p.1 ≤ p.2.2.1)))))
theorem c82_eq {args : List AV} {K : AV → Prop} : c82 args K = K0 (fun p => True) (fun p => .t (.v (.bool (bOf (p.2.1 ≤ p.1 ∧ p.1 ≤ p.2.2.1))))) K ((lc AInt (lc AInt (lc AInt l0))).dec args) := rfl
theorem good82 {G : Gt} (hG : GOk Tryz.prog G ∧ GDet G) : Good Tryz.prog G.m 82 (roEnt 0 c82) := by
  refine good_run (dp := fun _ => true) (fn := Tryz.f82) (n := 3) (fun _ => rfl) (by kernel_rfl) rfl (by kernel_rfl) hmix hG (Nat.le_of_ble_eq_true rfl) (by kernel_rfl) (by decide) (fun _ _ => .v _) ?_
  rintro ⟨n, a, b, ⟨⟩⟩ hpre
  simp -implicitDefEqProofs only [Tryz.f82, go_sem, Nat.reduceAdd, Nat.reduceMul, Nat.reduceLeDiff, Nat.reduceEqDiff, reduceCtorEq, Nat.reduceSub, Int.reduceNeg, Nat.reduceMod, Nat.reduceBEq, Nat.reduceLT] at hpre ⊢

  repeat' (first | with_reducible apply And.intro | with_reducible intro _ | (refine brB_split (fun hb => ?_) (fun hb => ?_) <;> simp -implicitDefEqProofs only [hb, go_sem, Nat.reduceAdd, Nat.reduceMul, Nat.reduceLeDiff, Nat.reduceEqDiff, reduceCtorEq, Nat.reduceSub, Int.reduceNeg, Nat.reduceMod, Nat.reduceBEq, Nat.reduceLT] <;> try simp only [bOf_t, bOf_f, decide_eq_true_eq, decide_eq_false_iff_not, Bool.not_eq_true', Bool.not_eq_false', Bool.not_eq_true, Bool.not_eq_false, Decidable.not_not] at hb) | (refine aPickB_split (fun hb => ?_) (fun hb => ?_) <;> simp -implicitDefEqProofs only [hb, go_sem, Nat.reduceAdd, Nat.reduceMul, Nat.reduceLeDiff, Nat.reduceEqDiff, reduceCtorEq, Nat.reduceSub, Int.reduceNeg, Nat.reduceMod, Nat.reduceBEq, Nat.reduceLT] <;> try simp only [bOf_t, bOf_f, decide_eq_true_eq, decide_eq_false_iff_not, Bool.not_eq_true', Bool.not_eq_false', Bool.not_eq_true, Bool.not_eq_false, Decidable.not_not] at hb) | (refine gB_split (fun hb => ?_) (fun hb => ?_) <;> simp -implicitDefEqProofs only [hb, go_sem, Nat.reduceAdd, Nat.reduceMul, Nat.reduceLeDiff, Nat.reduceEqDiff, reduceCtorEq, Nat.reduceSub, Int.reduceNeg, Nat.reduceMod, Nat.reduceBEq, Nat.reduceLT] <;> try simp only [bOf_t, bOf_f, decide_eq_true_eq, decide_eq_false_iff_not, Bool.not_eq_true', Bool.not_eq_false', Bool.not_eq_true, Bool.not_eq_false, Decidable.not_not] at hb))
  all_goals first | rfl | omega | skip
  all_goals first
    | (rw [bOf_d]; simp only [*]; done)
    | (rw [bOf_d]; simp [*])

def c110 : Ct := ctR (lc AStr l0) (fun p => p.1.size ≤ 2000000) (fun p => .t (.v (.bool (bOf (Lin p.1)))))
theorem c110_eq {args : List AV} {K : AV → Prop} : c110 args K = K0 (fun p => p.1.size ≤ 2000000) (fun p => .t (.v (.bool (bOf (Lin p.1))))) K ((lc AStr l0).dec args) := rfl
theorem good110 {G : Gt} (hG : GOk Tryz.prog G ∧ GDet G) : Good Tryz.prog G.m 110 (roEnt 0 c110) := by
  refine good_run (dp := fun _ => true) (fn := Tryz.f110) (n := 1) (fun _ => rfl) (by kernel_rfl) rfl (by kernel_rfl) hmix hG (Nat.le_of_ble_eq_true rfl) (by kernel_rfl) (by decide) (fun _ _ => .v _) ?_
  rintro ⟨s, ⟨⟩⟩ hpre
  simp -implicitDefEqProofs only [Tryz.f110, go_sem, Nat.reduceAdd, Nat.reduceMul, Nat.reduceLeDiff, Nat.reduceEqDiff, reduceCtorEq, Nat.reduceSub, Int.reduceNeg, Nat.reduceMod, Nat.reduceBEq, Nat.reduceLT] at hpre ⊢

  repeat' (first | with_reducible apply And.intro | with_reducible intro _ | (refine brB_split (fun hb => ?_) (fun hb => ?_) <;> simp -implicitDefEqProofs only [hb, go_sem, Nat.reduceAdd, Nat.reduceMul, Nat.reduceLeDiff, Nat.reduceEqDiff, reduceCtorEq, Nat.reduceSub, Int.reduceNeg, Nat.reduceMod, Nat.reduceBEq, Nat.reduceLT] <;> try simp only [bOf_t, bOf_f, decide_eq_true_eq, decide_eq_false_iff_not, Bool.not_eq_true', Bool.not_eq_false', Bool.not_eq_true, Bool.not_eq_false, Decidable.not_not] at hb) | (refine aPickB_split (fun hb => ?_) (fun hb => ?_) <;> simp -implicitDefEqProofs only [hb, go_sem, Nat.reduceAdd, Nat.reduceMul, Nat.reduceLeDiff, Nat.reduceEqDiff, reduceCtorEq, Nat.reduceSub, Int.reduceNeg, Nat.reduceMod, Nat.reduceBEq, Nat.reduceLT] <;> try simp only [bOf_t, bOf_f, decide_eq_true_eq, decide_eq_false_iff_not, Bool.not_eq_true', Bool.not_eq_false', Bool.not_eq_true, Bool.not_eq_false, Decidable.not_not] at hb) | (refine gB_split (fun hb => ?_) (fun hb => ?_) <;> simp -implicitDefEqProofs only [hb, go_sem, Nat.reduceAdd, Nat.reduceMul, Nat.reduceLeDiff, Nat.reduceEqDiff, reduceCtorEq, Nat.reduceSub, Int.reduceNeg, Nat.reduceMod, Nat.reduceBEq, Nat.reduceLT] <;> try simp only [bOf_t, bOf_f, decide_eq_true_eq, decide_eq_false_iff_not, Bool.not_eq_true', Bool.not_eq_false', Bool.not_eq_true, Bool.not_eq_false, Decidable.not_not] at hb))
  all_goals first | rfl | omega | skip
  refine run_loop [] (ι := {i : Nat // i ≤ s.size ∧ ∀ j, j < i → 32 ≤ byteAt s j ∧ byteAt s j ≤ 126}) (fun p => ⟨[(0, .t (.v (.string s))), (5, .t (.v (.int .i64 s.size))), (6, .t (.v (.int .i64 p.1)))], []⟩) (fun p => s.size - p.1) ⟨0, Nat.zero_le _, fun j hj => absurd hj (Nat.not_lt_zero _)⟩ rfl ?_ ?_
  · simp -implicitDefEqProofs only [go_sem, Nat.reduceAdd, Nat.reduceMul, Nat.reduceLeDiff, Nat.reduceEqDiff, reduceCtorEq, Nat.reduceSub, Int.reduceNeg, Nat.reduceMod, Nat.reduceBEq, Nat.reduceLT]
    try simp
  · rintro ⟨i, hi, hall⟩
    by_cases hlt : (i : Int) < s.size
    · by_cases h1 : byteAt s (i : Int).toNat < 32
      · simp -implicitDefEqProofs only [hlt, h1, go_sem, Nat.reduceAdd, Nat.reduceMul, Nat.reduceLeDiff, Nat.reduceEqDiff, reduceCtorEq, Nat.reduceSub, Int.reduceNeg, Nat.reduceMod, Nat.reduceBEq, Nat.reduceLT]
        repeat' (first | with_reducible apply And.intro | with_reducible intro _ | (refine brB_split (fun hb => ?_) (fun hb => ?_) <;> simp -implicitDefEqProofs only [hb, go_sem, Nat.reduceAdd, Nat.reduceMul, Nat.reduceLeDiff, Nat.reduceEqDiff, reduceCtorEq, Nat.reduceSub, Int.reduceNeg, Nat.reduceMod, Nat.reduceBEq, Nat.reduceLT] <;> try simp only [bOf_t, bOf_f, decide_eq_true_eq, decide_eq_false_iff_not, Bool.not_eq_true', Bool.not_eq_false', Bool.not_eq_true, Bool.not_eq_false, Decidable.not_not] at hb) | (refine aPickB_split (fun hb => ?_) (fun hb => ?_) <;> simp -implicitDefEqProofs only [hb, go_sem, Nat.reduceAdd, Nat.reduceMul, Nat.reduceLeDiff, Nat.reduceEqDiff, reduceCtorEq, Nat.reduceSub, Int.reduceNeg, Nat.reduceMod, Nat.reduceBEq, Nat.reduceLT] <;> try simp only [bOf_t, bOf_f, decide_eq_true_eq, decide_eq_false_iff_not, Bool.not_eq_true', Bool.not_eq_false', Bool.not_eq_true, Bool.not_eq_false, Decidable.not_not] at hb) | (refine gB_split (fun hb => ?_) (fun hb => ?_) <;> simp -implicitDefEqProofs only [hb, go_sem, Nat.reduceAdd, Nat.reduceMul, Nat.reduceLeDiff, Nat.reduceEqDiff, reduceCtorEq, Nat.reduceSub, Int.reduceNeg, Nat.reduceMod, Nat.reduceBEq, Nat.reduceLT] <;> try simp only [bOf_t, bOf_f, decide_eq_true_eq, decide_eq_false_iff_not, Bool.not_eq_true', Bool.not_eq_false', Bool.not_eq_true, Bool.not_eq_false, Decidable.not_not] at hb))
        all_goals (try simp only [maxLen, Int.toNat_natCast] at *)
        all_goals first | rfl | omega | skip
        rw [bOf_n (fun h => by have := (h.1 i (by omega)).1; omega)]
      · by_cases h2 : byteAt s (i : Int).toNat > 126
        · simp -implicitDefEqProofs only [hlt, h1, h2, go_sem, Nat.reduceAdd, Nat.reduceMul, Nat.reduceLeDiff, Nat.reduceEqDiff, reduceCtorEq, Nat.reduceSub, Int.reduceNeg, Nat.reduceMod, Nat.reduceBEq, Nat.reduceLT]
          repeat' (first | with_reducible apply And.intro | with_reducible intro _ | (refine brB_split (fun hb => ?_) (fun hb => ?_) <;> simp -implicitDefEqProofs only [hb, go_sem, Nat.reduceAdd, Nat.reduceMul, Nat.reduceLeDiff, Nat.reduceEqDiff, reduceCtorEq, Nat.reduceSub, Int.reduceNeg, Nat.reduceMod, Nat.reduceBEq, Nat.reduceLT] <;> try simp only [bOf_t, bOf_f, decide_eq_true_eq, decide_eq_false_iff_not, Bool.not_eq_true', Bool.not_eq_false', Bool.not_eq_true, Bool.not_eq_false, Decidable.not_not] at hb) | (refine aPickB_split (fun hb => ?_) (fun hb => ?_) <;> simp -implicitDefEqProofs only [hb, go_sem, Nat.reduceAdd, Nat.reduceMul, Nat.reduceLeDiff, Nat.reduceEqDiff, reduceCtorEq, Nat.reduceSub, Int.reduceNeg, Nat.reduceMod, Nat.reduceBEq, Nat.reduceLT] <;> try simp only [bOf_t, bOf_f, decide_eq_true_eq, decide_eq_false_iff_not, Bool.not_eq_true', Bool.not_eq_false', Bool.not_eq_true, Bool.not_eq_false, Decidable.not_not] at hb) | (refine gB_split (fun hb => ?_) (fun hb => ?_) <;> simp -implicitDefEqProofs only [hb, go_sem, Nat.reduceAdd, Nat.reduceMul, Nat.reduceLeDiff, Nat.reduceEqDiff, reduceCtorEq, Nat.reduceSub, Int.reduceNeg, Nat.reduceMod, Nat.reduceBEq, Nat.reduceLT] <;> try simp only [bOf_t, bOf_f, decide_eq_true_eq, decide_eq_false_iff_not, Bool.not_eq_true', Bool.not_eq_false', Bool.not_eq_true, Bool.not_eq_false, Decidable.not_not] at hb))
          all_goals (try simp only [maxLen, Int.toNat_natCast] at *)
          all_goals first | rfl | omega | skip
          rw [bOf_n (fun h => by have := (h.1 i (by omega)).2; omega)]
        · simp -implicitDefEqProofs only [hlt, h1, h2, go_sem, Nat.reduceAdd, Nat.reduceMul, Nat.reduceLeDiff, Nat.reduceEqDiff, reduceCtorEq, Nat.reduceSub, Int.reduceNeg, Nat.reduceMod, Nat.reduceBEq, Nat.reduceLT]
          repeat' (first | with_reducible apply And.intro | with_reducible intro _ | (refine brB_split (fun hb => ?_) (fun hb => ?_) <;> simp -implicitDefEqProofs only [hb, go_sem, Nat.reduceAdd, Nat.reduceMul, Nat.reduceLeDiff, Nat.reduceEqDiff, reduceCtorEq, Nat.reduceSub, Int.reduceNeg, Nat.reduceMod, Nat.reduceBEq, Nat.reduceLT] <;> try simp only [bOf_t, bOf_f, decide_eq_true_eq, decide_eq_false_iff_not, Bool.not_eq_true', Bool.not_eq_false', Bool.not_eq_true, Bool.not_eq_false, Decidable.not_not] at hb) | (refine aPickB_split (fun hb => ?_) (fun hb => ?_) <;> simp -implicitDefEqProofs only [hb, go_sem, Nat.reduceAdd, Nat.reduceMul, Nat.reduceLeDiff, Nat.reduceEqDiff, reduceCtorEq, Nat.reduceSub, Int.reduceNeg, Nat.reduceMod, Nat.reduceBEq, Nat.reduceLT] <;> try simp only [bOf_t, bOf_f, decide_eq_true_eq, decide_eq_false_iff_not, Bool.not_eq_true', Bool.not_eq_false', Bool.not_eq_true, Bool.not_eq_false, Decidable.not_not] at hb) | (refine gB_split (fun hb => ?_) (fun hb => ?_) <;> simp -implicitDefEqProofs only [hb, go_sem, Nat.reduceAdd, Nat.reduceMul, Nat.reduceLeDiff, Nat.reduceEqDiff, reduceCtorEq, Nat.reduceSub, Int.reduceNeg, Nat.reduceMod, Nat.reduceBEq, Nat.reduceLT] <;> try simp only [bOf_t, bOf_f, decide_eq_true_eq, decide_eq_false_iff_not, Bool.not_eq_true', Bool.not_eq_false', Bool.not_eq_true, Bool.not_eq_false, Decidable.not_not] at hb))
          all_goals (try simp only [maxLen, Int.toNat_natCast] at *)
          all_goals first | rfl | omega | skip
          refine ⟨⟨i + 1, by omega, fun j hj => ?_⟩, by dsimp only; omega, ?_⟩
          · by_cases e : j = i
            · subst e; omega
            · exact hall j (by omega)
          · simp -implicitDefEqProofs only [go_sem, Nat.reduceAdd, Nat.reduceMul, Nat.reduceLeDiff, Nat.reduceEqDiff, reduceCtorEq, Nat.reduceSub, Int.reduceNeg, Nat.reduceMod, Nat.reduceBEq, Nat.reduceLT]
            try simp
    · simp -implicitDefEqProofs only [hlt, go_sem, Nat.reduceAdd, Nat.reduceMul, Nat.reduceLeDiff, Nat.reduceEqDiff, reduceCtorEq, Nat.reduceSub, Int.reduceNeg, Nat.reduceMod, Nat.reduceBEq, Nat.reduceLT]
      repeat' (first | with_reducible apply And.intro | with_reducible intro _ | (refine brB_split (fun hb => ?_) (fun hb => ?_) <;> simp -implicitDefEqProofs only [hb, go_sem, Nat.reduceAdd, Nat.reduceMul, Nat.reduceLeDiff, Nat.reduceEqDiff, reduceCtorEq, Nat.reduceSub, Int.reduceNeg, Nat.reduceMod, Nat.reduceBEq, Nat.reduceLT] <;> try simp only [bOf_t, bOf_f, decide_eq_true_eq, decide_eq_false_iff_not, Bool.not_eq_true', Bool.not_eq_false', Bool.not_eq_true, Bool.not_eq_false, Decidable.not_not] at hb) | (refine aPickB_split (fun hb => ?_) (fun hb => ?_) <;> simp -implicitDefEqProofs only [hb, go_sem, Nat.reduceAdd, Nat.reduceMul, Nat.reduceLeDiff, Nat.reduceEqDiff, reduceCtorEq, Nat.reduceSub, Int.reduceNeg, Nat.reduceMod, Nat.reduceBEq, Nat.reduceLT] <;> try simp only [bOf_t, bOf_f, decide_eq_true_eq, decide_eq_false_iff_not, Bool.not_eq_true', Bool.not_eq_false', Bool.not_eq_true, Bool.not_eq_false, Decidable.not_not] at hb) | (refine gB_split (fun hb => ?_) (fun hb => ?_) <;> simp -implicitDefEqProofs only [hb, go_sem, Nat.reduceAdd, Nat.reduceMul, Nat.reduceLeDiff, Nat.reduceEqDiff, reduceCtorEq, Nat.reduceSub, Int.reduceNeg, Nat.reduceMod, Nat.reduceBEq, Nat.reduceLT] <;> try simp only [bOf_t, bOf_f, decide_eq_true_eq, decide_eq_false_iff_not, Bool.not_eq_true', Bool.not_eq_false', Bool.not_eq_true, Bool.not_eq_false, Decidable.not_not] at hb))
      all_goals (try simp only [maxLen, Int.toNat_natCast] at *)
      all_goals first | rfl | omega | skip
      rw [← bOf_d, bOf_congr]
      exact ⟨fun h => ⟨fun j hj => hall j (by omega), by omega⟩, fun h => by have := h.2; omega⟩

def c112 : Ct := ctR (lc AStr l0) (fun p => True) (fun p => .t (.v (.bool (bOf (Lbl p.1)))))
theorem c112_eq {args : List AV} {K : AV → Prop} : c112 args K = K0 (fun p => True) (fun p => .t (.v (.bool (bOf (Lbl p.1))))) K ((lc AStr l0).dec args) := rfl
theorem good112 {G : Gt} (hG : GOk Tryz.prog G ∧ GDet G) (h82 : G.e 82 = roEnt 0 c82) (h124 : G.e 124 = roEnt 0 c124) : Good Tryz.prog G.m 112 (roEnt 0 c112) := by
  refine good_run (dp := fun _ => true) (fn := Tryz.f112) (n := 1) (fun _ => rfl) (by kernel_rfl) rfl (by kernel_rfl) hmix hG (Nat.le_of_ble_eq_true rfl) (by kernel_rfl) (by decide) (fun _ _ => .v _) ?_
  have k82 : (G.e 82).kd = 0 := by rw [h82]; rfl
  have m82 : (G.e 82).ro = c82 := by rw [h82]; rfl
  have k124 : (G.e 124).kd = 0 := by rw [h124]; rfl
  have m124 : (G.e 124).ro = c124 := by rw [h124]; rfl
  rintro ⟨s, ⟨⟩⟩ hpre
  simp -implicitDefEqProofs only [Tryz.f112, go_sem, k82, m82, c82_eq, k124, m124, c124_eq, bOf_t, bOf_f, Nat.reduceAdd, Nat.reduceMul, Nat.reduceLeDiff, Nat.reduceEqDiff, reduceCtorEq, Nat.reduceSub, Int.reduceNeg, Nat.reduceMod, Nat.reduceBEq, Nat.reduceLT] at hpre ⊢

  repeat' (first | with_reducible apply And.intro | with_reducible intro _ | (refine brB_split (fun hb => ?_) (fun hb => ?_) <;> simp -implicitDefEqProofs only [hb, go_sem, k82, m82, c82_eq, k124, m124, c124_eq, bOf_t, bOf_f, Nat.reduceAdd, Nat.reduceMul, Nat.reduceLeDiff, Nat.reduceEqDiff, reduceCtorEq, Nat.reduceSub, Int.reduceNeg, Nat.reduceMod, Nat.reduceBEq, Nat.reduceLT] <;> try simp only [bOf_t, bOf_f, decide_eq_true_eq, decide_eq_false_iff_not, Bool.not_eq_true', Bool.not_eq_false', Bool.not_eq_true, Bool.not_eq_false, Decidable.not_not] at hb) | (refine aPickB_split (fun hb => ?_) (fun hb => ?_) <;> simp -implicitDefEqProofs only [hb, go_sem, k82, m82, c82_eq, k124, m124, c124_eq, bOf_t, bOf_f, Nat.reduceAdd, Nat.reduceMul, Nat.reduceLeDiff, Nat.reduceEqDiff, reduceCtorEq, Nat.reduceSub, Int.reduceNeg, Nat.reduceMod, Nat.reduceBEq, Nat.reduceLT] <;> try simp only [bOf_t, bOf_f, decide_eq_true_eq, decide_eq_false_iff_not, Bool.not_eq_true', Bool.not_eq_false', Bool.not_eq_true, Bool.not_eq_false, Decidable.not_not] at hb) | (refine gB_split (fun hb => ?_) (fun hb => ?_) <;> simp -implicitDefEqProofs only [hb, go_sem, k82, m82, c82_eq, k124, m124, c124_eq, bOf_t, bOf_f, Nat.reduceAdd, Nat.reduceMul, Nat.reduceLeDiff, Nat.reduceEqDiff, reduceCtorEq, Nat.reduceSub, Int.reduceNeg, Nat.reduceMod, Nat.reduceBEq, Nat.reduceLT] <;> try simp only [bOf_t, bOf_f, decide_eq_true_eq, decide_eq_false_iff_not, Bool.not_eq_true', Bool.not_eq_false', Bool.not_eq_true, Bool.not_eq_false, Decidable.not_not] at hb))
  all_goals first | rfl | omega | exact lcs_low _ (by assumption) | (simp; done) | skip
  · show T.v (.bool (decide (trL (setN lcs 36) (trR (setN lcs 36) s) = ⟨#[]⟩))) = _
    rw [← bOf_d]
    refine congrArg (fun b => T.v (.bool b)) (bOf_congr ((lcs_iff s).trans ?_))
    exact ⟨fun h => ⟨h, by omega, by omega⟩, fun h => h.1⟩
  · rw [bOf_n (fun h => hb ⟨by have := h.2.1; omega, by have := h.2.2; omega⟩)]

def c109 : Ct := ctR (lc AStr l0) (fun p => p.1.size ≤ 2000000) (fun p => .t (.v (.bool (bOf (Dom p.1)))))
theorem c109_eq {args : List AV} {K : AV → Prop} : c109 args K = K0 (fun p => p.1.size ≤ 2000000) (fun p => .t (.v (.bool (bOf (Dom p.1))))) K ((lc AStr l0).dec args) := rfl
theorem good109 {G : Gt} (hG : GOk Tryz.prog G ∧ GDet G) (h123 : G.e 123 = roEnt 0 c123) (h112 : G.e 112 = roEnt 0 c112) : Good Tryz.prog G.m 109 (roEnt 0 c109) := by
  refine good_run (dp := fun _ => true) (fn := Tryz.f109) (n := 1) (fun _ => rfl) (by kernel_rfl) rfl (by kernel_rfl) hmix hG (Nat.le_of_ble_eq_true rfl) (by kernel_rfl) (by decide) (fun _ _ => .v _) ?_
  have k123 : (G.e 123).kd = 0 := by rw [h123]; rfl
  have m123 : (G.e 123).ro = c123 := by rw [h123]; rfl
  have k112 : (G.e 112).kd = 0 := by rw [h112]; rfl
  have m112 : (G.e 112).ro = c112 := by rw [h112]; rfl
  rintro ⟨s, ⟨⟩⟩ hpre
  simp -implicitDefEqProofs only [Tryz.f109, go_sem, k123, m123, c123_eq, k112, m112, c112_eq, dotc, aSet_map, aCell_map, List.length_map, Bool.not_true, Bool.not_false, Nat.reduceAdd, Nat.reduceMul, Nat.reduceLeDiff, Nat.reduceEqDiff, reduceCtorEq, Nat.reduceSub, Int.reduceNeg, Nat.reduceMod, Nat.reduceBEq, Nat.reduceLT] at hpre ⊢

  repeat' (first | with_reducible apply And.intro | with_reducible intro _ | (refine brB_split (fun hb => ?_) (fun hb => ?_) <;> simp -implicitDefEqProofs only [hb, go_sem, k123, m123, c123_eq, k112, m112, c112_eq, dotc, aSet_map, aCell_map, List.length_map, Bool.not_true, Bool.not_false, Nat.reduceAdd, Nat.reduceMul, Nat.reduceLeDiff, Nat.reduceEqDiff, reduceCtorEq, Nat.reduceSub, Int.reduceNeg, Nat.reduceMod, Nat.reduceBEq, Nat.reduceLT] <;> try simp only [bOf_t, bOf_f, decide_eq_true_eq, decide_eq_false_iff_not, Bool.not_eq_true', Bool.not_eq_false', Bool.not_eq_true, Bool.not_eq_false, Decidable.not_not] at hb) | (refine aPickB_split (fun hb => ?_) (fun hb => ?_) <;> simp -implicitDefEqProofs only [hb, go_sem, k123, m123, c123_eq, k112, m112, c112_eq, dotc, aSet_map, aCell_map, List.length_map, Bool.not_true, Bool.not_false, Nat.reduceAdd, Nat.reduceMul, Nat.reduceLeDiff, Nat.reduceEqDiff, reduceCtorEq, Nat.reduceSub, Int.reduceNeg, Nat.reduceMod, Nat.reduceBEq, Nat.reduceLT] <;> try simp only [bOf_t, bOf_f, decide_eq_true_eq, decide_eq_false_iff_not, Bool.not_eq_true', Bool.not_eq_false', Bool.not_eq_true, Bool.not_eq_false, Decidable.not_not] at hb) | (refine gB_split (fun hb => ?_) (fun hb => ?_) <;> simp -implicitDefEqProofs only [hb, go_sem, k123, m123, c123_eq, k112, m112, c112_eq, dotc, aSet_map, aCell_map, List.length_map, Bool.not_true, Bool.not_false, Nat.reduceAdd, Nat.reduceMul, Nat.reduceLeDiff, Nat.reduceEqDiff, reduceCtorEq, Nat.reduceSub, Int.reduceNeg, Nat.reduceMod, Nat.reduceBEq, Nat.reduceLT] <;> try simp only [bOf_t, bOf_f, decide_eq_true_eq, decide_eq_false_iff_not, Bool.not_eq_true', Bool.not_eq_false', Bool.not_eq_true, Bool.not_eq_false, Decidable.not_not] at hb))
  all_goals first | rfl | omega | skip
  have hlen := spl_len s 46
  have hcnt := cnt_le s 46
  refine run_loop [] (ι := {i : Nat // i ≤ (spl s 46).length ∧ ∀ j, j < i → Lbl ((spl s 46).getD j default)}) (fun p => ⟨[(3, .h 1007), (8, .h 1007), (9, .t (.v (.int .i64 (spl s 46).length))), (10, .t (.v (.int .i64 p.1)))], [(1007, some (.arr true 1 ((spl s 46).map encStr)))]⟩) (fun p => (spl s 46).length - p.1) ⟨0, Nat.zero_le _, fun j hj => absurd hj (Nat.not_lt_zero _)⟩ rfl ?_ ?_
  · simp -implicitDefEqProofs only [go_sem, k123, m123, c123_eq, k112, m112, c112_eq, dotc, aSet_map, aCell_map, List.length_map, Bool.not_true, Bool.not_false, Nat.reduceAdd, Nat.reduceMul, Nat.reduceLeDiff, Nat.reduceEqDiff, reduceCtorEq, Nat.reduceSub, Int.reduceNeg, Nat.reduceMod, Nat.reduceBEq, Nat.reduceLT]
    try simp
  · rintro ⟨i, hi, hall⟩
    by_cases hlt : (i : Int) < (spl s 46).length
    · cases hb : bOf (Lbl ((spl s 46).getD (i : Int).toNat default))
      · simp -implicitDefEqProofs only [hlt, hb, go_sem, k123, m123, c123_eq, k112, m112, c112_eq, dotc, aSet_map, aCell_map, List.length_map, Bool.not_true, Bool.not_false, Nat.reduceAdd, Nat.reduceMul, Nat.reduceLeDiff, Nat.reduceEqDiff, reduceCtorEq, Nat.reduceSub, Int.reduceNeg, Nat.reduceMod, Nat.reduceBEq, Nat.reduceLT]
        repeat' (first | with_reducible apply And.intro | with_reducible intro _ | (refine brB_split (fun hb => ?_) (fun hb => ?_) <;> simp -implicitDefEqProofs only [hb, go_sem, k123, m123, c123_eq, k112, m112, c112_eq, dotc, aSet_map, aCell_map, List.length_map, Bool.not_true, Bool.not_false, Nat.reduceAdd, Nat.reduceMul, Nat.reduceLeDiff, Nat.reduceEqDiff, reduceCtorEq, Nat.reduceSub, Int.reduceNeg, Nat.reduceMod, Nat.reduceBEq, Nat.reduceLT] <;> try simp only [bOf_t, bOf_f, decide_eq_true_eq, decide_eq_false_iff_not, Bool.not_eq_true', Bool.not_eq_false', Bool.not_eq_true, Bool.not_eq_false, Decidable.not_not] at hb) | (refine aPickB_split (fun hb => ?_) (fun hb => ?_) <;> simp -implicitDefEqProofs only [hb, go_sem, k123, m123, c123_eq, k112, m112, c112_eq, dotc, aSet_map, aCell_map, List.length_map, Bool.not_true, Bool.not_false, Nat.reduceAdd, Nat.reduceMul, Nat.reduceLeDiff, Nat.reduceEqDiff, reduceCtorEq, Nat.reduceSub, Int.reduceNeg, Nat.reduceMod, Nat.reduceBEq, Nat.reduceLT] <;> try simp only [bOf_t, bOf_f, decide_eq_true_eq, decide_eq_false_iff_not, Bool.not_eq_true', Bool.not_eq_false', Bool.not_eq_true, Bool.not_eq_false, Decidable.not_not] at hb) | (refine gB_split (fun hb => ?_) (fun hb => ?_) <;> simp -implicitDefEqProofs only [hb, go_sem, k123, m123, c123_eq, k112, m112, c112_eq, dotc, aSet_map, aCell_map, List.length_map, Bool.not_true, Bool.not_false, Nat.reduceAdd, Nat.reduceMul, Nat.reduceLeDiff, Nat.reduceEqDiff, reduceCtorEq, Nat.reduceSub, Int.reduceNeg, Nat.reduceMod, Nat.reduceBEq, Nat.reduceLT] <;> try simp only [bOf_t, bOf_f, decide_eq_true_eq, decide_eq_false_iff_not, Bool.not_eq_true', Bool.not_eq_false', Bool.not_eq_true, Bool.not_eq_false, Decidable.not_not] at hb))
        all_goals (try simp only [maxLen, Int.toNat_natCast, bOf_f] at *)
        all_goals first | rfl | omega | skip
        rw [bOf_n (fun h => hb (((Dom_spl s).1 h).1 _ (getD_mem (by omega))))]
      · simp -implicitDefEqProofs only [hlt, hb, go_sem, k123, m123, c123_eq, k112, m112, c112_eq, dotc, aSet_map, aCell_map, List.length_map, Bool.not_true, Bool.not_false, Nat.reduceAdd, Nat.reduceMul, Nat.reduceLeDiff, Nat.reduceEqDiff, reduceCtorEq, Nat.reduceSub, Int.reduceNeg, Nat.reduceMod, Nat.reduceBEq, Nat.reduceLT]
        repeat' (first | with_reducible apply And.intro | with_reducible intro _ | (refine brB_split (fun hb => ?_) (fun hb => ?_) <;> simp -implicitDefEqProofs only [hb, go_sem, k123, m123, c123_eq, k112, m112, c112_eq, dotc, aSet_map, aCell_map, List.length_map, Bool.not_true, Bool.not_false, Nat.reduceAdd, Nat.reduceMul, Nat.reduceLeDiff, Nat.reduceEqDiff, reduceCtorEq, Nat.reduceSub, Int.reduceNeg, Nat.reduceMod, Nat.reduceBEq, Nat.reduceLT] <;> try simp only [bOf_t, bOf_f, decide_eq_true_eq, decide_eq_false_iff_not, Bool.not_eq_true', Bool.not_eq_false', Bool.not_eq_true, Bool.not_eq_false, Decidable.not_not] at hb) | (refine aPickB_split (fun hb => ?_) (fun hb => ?_) <;> simp -implicitDefEqProofs only [hb, go_sem, k123, m123, c123_eq, k112, m112, c112_eq, dotc, aSet_map, aCell_map, List.length_map, Bool.not_true, Bool.not_false, Nat.reduceAdd, Nat.reduceMul, Nat.reduceLeDiff, Nat.reduceEqDiff, reduceCtorEq, Nat.reduceSub, Int.reduceNeg, Nat.reduceMod, Nat.reduceBEq, Nat.reduceLT] <;> try simp only [bOf_t, bOf_f, decide_eq_true_eq, decide_eq_false_iff_not, Bool.not_eq_true', Bool.not_eq_false', Bool.not_eq_true, Bool.not_eq_false, Decidable.not_not] at hb) | (refine gB_split (fun hb => ?_) (fun hb => ?_) <;> simp -implicitDefEqProofs only [hb, go_sem, k123, m123, c123_eq, k112, m112, c112_eq, dotc, aSet_map, aCell_map, List.length_map, Bool.not_true, Bool.not_false, Nat.reduceAdd, Nat.reduceMul, Nat.reduceLeDiff, Nat.reduceEqDiff, reduceCtorEq, Nat.reduceSub, Int.reduceNeg, Nat.reduceMod, Nat.reduceBEq, Nat.reduceLT] <;> try simp only [bOf_t, bOf_f, decide_eq_true_eq, decide_eq_false_iff_not, Bool.not_eq_true', Bool.not_eq_false', Bool.not_eq_true, Bool.not_eq_false, Decidable.not_not] at hb))
        all_goals (try simp only [maxLen, Int.toNat_natCast, bOf_t] at *)
        all_goals first | rfl | omega | skip
        refine ⟨⟨i + 1, by omega, all_step hall hb⟩, by dsimp only; omega, ?_⟩
        simp -implicitDefEqProofs only [go_sem, k123, m123, c123_eq, k112, m112, c112_eq, dotc, aSet_map, aCell_map, List.length_map, Bool.not_true, Bool.not_false, Nat.reduceAdd, Nat.reduceMul, Nat.reduceLeDiff, Nat.reduceEqDiff, reduceCtorEq, Nat.reduceSub, Int.reduceNeg, Nat.reduceMod, Nat.reduceBEq, Nat.reduceLT]
        simp
    · simp -implicitDefEqProofs only [hlt, go_sem, k123, m123, c123_eq, k112, m112, c112_eq, dotc, aSet_map, aCell_map, List.length_map, Bool.not_true, Bool.not_false, Nat.reduceAdd, Nat.reduceMul, Nat.reduceLeDiff, Nat.reduceEqDiff, reduceCtorEq, Nat.reduceSub, Int.reduceNeg, Nat.reduceMod, Nat.reduceBEq, Nat.reduceLT]
      repeat' (first | with_reducible apply And.intro | with_reducible intro _ | (refine brB_split (fun hb => ?_) (fun hb => ?_) <;> simp -implicitDefEqProofs only [hb, go_sem, k123, m123, c123_eq, k112, m112, c112_eq, dotc, aSet_map, aCell_map, List.length_map, Bool.not_true, Bool.not_false, Nat.reduceAdd, Nat.reduceMul, Nat.reduceLeDiff, Nat.reduceEqDiff, reduceCtorEq, Nat.reduceSub, Int.reduceNeg, Nat.reduceMod, Nat.reduceBEq, Nat.reduceLT] <;> try simp only [bOf_t, bOf_f, decide_eq_true_eq, decide_eq_false_iff_not, Bool.not_eq_true', Bool.not_eq_false', Bool.not_eq_true, Bool.not_eq_false, Decidable.not_not] at hb) | (refine aPickB_split (fun hb => ?_) (fun hb => ?_) <;> simp -implicitDefEqProofs only [hb, go_sem, k123, m123, c123_eq, k112, m112, c112_eq, dotc, aSet_map, aCell_map, List.length_map, Bool.not_true, Bool.not_false, Nat.reduceAdd, Nat.reduceMul, Nat.reduceLeDiff, Nat.reduceEqDiff, reduceCtorEq, Nat.reduceSub, Int.reduceNeg, Nat.reduceMod, Nat.reduceBEq, Nat.reduceLT] <;> try simp only [bOf_t, bOf_f, decide_eq_true_eq, decide_eq_false_iff_not, Bool.not_eq_true', Bool.not_eq_false', Bool.not_eq_true, Bool.not_eq_false, Decidable.not_not] at hb) | (refine gB_split (fun hb => ?_) (fun hb => ?_) <;> simp -implicitDefEqProofs only [hb, go_sem, k123, m123, c123_eq, k112, m112, c112_eq, dotc, aSet_map, aCell_map, List.length_map, Bool.not_true, Bool.not_false, Nat.reduceAdd, Nat.reduceMul, Nat.reduceLeDiff, Nat.reduceEqDiff, reduceCtorEq, Nat.reduceSub, Int.reduceNeg, Nat.reduceMod, Nat.reduceBEq, Nat.reduceLT] <;> try simp only [bOf_t, bOf_f, decide_eq_true_eq, decide_eq_false_iff_not, Bool.not_eq_true', Bool.not_eq_false', Bool.not_eq_true, Bool.not_eq_false, Decidable.not_not] at hb))
      all_goals first | rfl | omega | skip
      rw [← bOf_d, bOf_congr (Dom_spl s)]
      refine congrArg (fun b => T.v (.bool b)) (bOf_congr ?_)
      exact ⟨fun h => ⟨mem_getD fun j hj => hall j (by omega), by omega⟩, fun h => by have := h.2; omega⟩

def c80 : Ct := ctR (lc EAd.ag l0) (fun p => p.1.domain.size ≤ 2000000) (fun p => .t (.v (.bool (bOf (AdOk p.1)))))
theorem c80_eq {args : List AV} {K : AV → Prop} : c80 args K = K0 (fun p => p.1.domain.size ≤ 2000000) (fun p => .t (.v (.bool (bOf (AdOk p.1))))) K ((lc EAd.ag l0).dec args) := rfl
theorem good80 {G : Gt} (hG : GOk Tryz.prog G ∧ GDet G) (h112 : G.e 112 = roEnt 0 c112) (h109 : G.e 109 = roEnt 0 c109) : Good Tryz.prog G.m 80 (roEnt 0 c80) := by
  refine good_run (dp := fun _ => true) (fn := Tryz.f80) (n := 1) (fun _ => rfl) (by kernel_rfl) rfl (by kernel_rfl) hmix hG (Nat.le_of_ble_eq_true rfl) (by kernel_rfl) (by decide) (fun _ _ => .v _) ?_
  have k112 : (G.e 112).kd = 0 := by rw [h112]; rfl
  have m112 : (G.e 112).ro = c112 := by rw [h112]; rfl
  have k109 : (G.e 109).kd = 0 := by rw [h109]; rfl
  have m109 : (G.e 109).ro = c109 := by rw [h109]; rfl
  rintro ⟨a, ⟨⟩⟩ hpre
  simp -implicitDefEqProofs only [Tryz.f80, go_sem, k112, m112, c112_eq, k109, m109, c109_eq, Nat.reduceAdd, Nat.reduceMul, Nat.reduceLeDiff, Nat.reduceEqDiff, reduceCtorEq, Nat.reduceSub, Int.reduceNeg, Nat.reduceMod, Nat.reduceBEq, Nat.reduceLT] at hpre ⊢

  repeat' (first | with_reducible apply And.intro | with_reducible intro _ | (refine brB_split (fun hb => ?_) (fun hb => ?_) <;> simp -implicitDefEqProofs only [hb, go_sem, k112, m112, c112_eq, k109, m109, c109_eq, Nat.reduceAdd, Nat.reduceMul, Nat.reduceLeDiff, Nat.reduceEqDiff, reduceCtorEq, Nat.reduceSub, Int.reduceNeg, Nat.reduceMod, Nat.reduceBEq, Nat.reduceLT] <;> try simp only [bOf_t, bOf_f, decide_eq_true_eq, decide_eq_false_iff_not, Bool.not_eq_true', Bool.not_eq_false', Bool.not_eq_true, Bool.not_eq_false, Decidable.not_not] at hb) | (refine aPickB_split (fun hb => ?_) (fun hb => ?_) <;> simp -implicitDefEqProofs only [hb, go_sem, k112, m112, c112_eq, k109, m109, c109_eq, Nat.reduceAdd, Nat.reduceMul, Nat.reduceLeDiff, Nat.reduceEqDiff, reduceCtorEq, Nat.reduceSub, Int.reduceNeg, Nat.reduceMod, Nat.reduceBEq, Nat.reduceLT] <;> try simp only [bOf_t, bOf_f, decide_eq_true_eq, decide_eq_false_iff_not, Bool.not_eq_true', Bool.not_eq_false', Bool.not_eq_true, Bool.not_eq_false, Decidable.not_not] at hb) | (refine gB_split (fun hb => ?_) (fun hb => ?_) <;> simp -implicitDefEqProofs only [hb, go_sem, k112, m112, c112_eq, k109, m109, c109_eq, Nat.reduceAdd, Nat.reduceMul, Nat.reduceLeDiff, Nat.reduceEqDiff, reduceCtorEq, Nat.reduceSub, Int.reduceNeg, Nat.reduceMod, Nat.reduceBEq, Nat.reduceLT] <;> try simp only [bOf_t, bOf_f, decide_eq_true_eq, decide_eq_false_iff_not, Bool.not_eq_true', Bool.not_eq_false', Bool.not_eq_true, Bool.not_eq_false, Decidable.not_not] at hb))
  all_goals (try simp only [bOf_t, bOf_f] at *)
  all_goals first | rfl | omega | skip
  · refine congrArg (fun b => T.v (.bool b)) (bOf_congr ⟨fun h => ⟨by assumption, h⟩, fun h => h.2⟩)
  · rw [bOf_n (fun h => absurd h.1 (by assumption))]

def c111 : Ct := ctR (lc EAd.ag l0) (fun p => True) (fun p => .t (.v (.bool (bOf (AdNull p.1)))))
theorem c111_eq {args : List AV} {K : AV → Prop} : c111 args K = K0 (fun p => True) (fun p => .t (.v (.bool (bOf (AdNull p.1))))) K ((lc EAd.ag l0).dec args) := rfl
theorem good111 {G : Gt} (hG : GOk Tryz.prog G ∧ GDet G) : Good Tryz.prog G.m 111 (roEnt 0 c111) := by
  refine good_run (dp := fun _ => true) (fn := Tryz.f111) (n := 1) (fun _ => rfl) (by kernel_rfl) rfl (by kernel_rfl) hmix hG (Nat.le_of_ble_eq_true rfl) (by kernel_rfl) (by decide) (fun _ _ => .v _) ?_
  rintro ⟨a, ⟨⟩⟩ hpre
  simp -implicitDefEqProofs only [Tryz.f111, go_sem, Nat.reduceAdd, Nat.reduceMul, Nat.reduceLeDiff, Nat.reduceEqDiff, reduceCtorEq, Nat.reduceSub, Int.reduceNeg, Nat.reduceMod, Nat.reduceBEq, Nat.reduceLT] at hpre ⊢

  repeat' (first | with_reducible apply And.intro | with_reducible intro _ | (refine brB_split (fun hb => ?_) (fun hb => ?_) <;> simp -implicitDefEqProofs only [hb, go_sem, Nat.reduceAdd, Nat.reduceMul, Nat.reduceLeDiff, Nat.reduceEqDiff, reduceCtorEq, Nat.reduceSub, Int.reduceNeg, Nat.reduceMod, Nat.reduceBEq, Nat.reduceLT] <;> try simp only [bOf_t, bOf_f, decide_eq_true_eq, decide_eq_false_iff_not, Bool.not_eq_true', Bool.not_eq_false', Bool.not_eq_true, Bool.not_eq_false, Decidable.not_not] at hb) | (refine aPickB_split (fun hb => ?_) (fun hb => ?_) <;> simp -implicitDefEqProofs only [hb, go_sem, Nat.reduceAdd, Nat.reduceMul, Nat.reduceLeDiff, Nat.reduceEqDiff, reduceCtorEq, Nat.reduceSub, Int.reduceNeg, Nat.reduceMod, Nat.reduceBEq, Nat.reduceLT] <;> try simp only [bOf_t, bOf_f, decide_eq_true_eq, decide_eq_false_iff_not, Bool.not_eq_true', Bool.not_eq_false', Bool.not_eq_true, Bool.not_eq_false, Decidable.not_not] at hb) | (refine gB_split (fun hb => ?_) (fun hb => ?_) <;> simp -implicitDefEqProofs only [hb, go_sem, Nat.reduceAdd, Nat.reduceMul, Nat.reduceLeDiff, Nat.reduceEqDiff, reduceCtorEq, Nat.reduceSub, Int.reduceNeg, Nat.reduceMod, Nat.reduceBEq, Nat.reduceLT] <;> try simp only [bOf_t, bOf_f, decide_eq_true_eq, decide_eq_false_iff_not, Bool.not_eq_true', Bool.not_eq_false', Bool.not_eq_true, Bool.not_eq_false, Decidable.not_not] at hb))
  all_goals first | rfl | omega | skip
  · unfold AdNull
    rw [bOf_d]
    by_cases h1 : a.user = ⟨#[]⟩ <;> by_cases h2 : a.domain = ⟨#[]⟩ <;> simp [h1, h2]

def c81 : Ct := ctR (lc EAd.ag l0) (fun p => p.1.domain.size ≤ 2000000) (fun p => .t (.v (.bool (bOf (AdOk p.1 ∨ AdNull p.1)))))
theorem c81_eq {args : List AV} {K : AV → Prop} : c81 args K = K0 (fun p => p.1.domain.size ≤ 2000000) (fun p => .t (.v (.bool (bOf (AdOk p.1 ∨ AdNull p.1))))) K ((lc EAd.ag l0).dec args) := rfl
theorem good81 {G : Gt} (hG : GOk Tryz.prog G ∧ GDet G) (h80 : G.e 80 = roEnt 0 c80) (h111 : G.e 111 = roEnt 0 c111) : Good Tryz.prog G.m 81 (roEnt 0 c81) := by
  refine good_run (dp := fun _ => true) (fn := Tryz.f81) (n := 1) (fun _ => rfl) (by kernel_rfl) rfl (by kernel_rfl) hmix hG (Nat.le_of_ble_eq_true rfl) (by kernel_rfl) (by decide) (fun _ _ => .v _) ?_
  have k80 : (G.e 80).kd = 0 := by rw [h80]; rfl
  have m80 : (G.e 80).ro = c80 := by rw [h80]; rfl
  have k111 : (G.e 111).kd = 0 := by rw [h111]; rfl
  have m111 : (G.e 111).ro = c111 := by rw [h111]; rfl
  rintro ⟨a, ⟨⟩⟩ hpre
  simp -implicitDefEqProofs only [Tryz.f81, go_sem, k80, m80, c80_eq, k111, m111, c111_eq, Nat.reduceAdd, Nat.reduceMul, Nat.reduceLeDiff, Nat.reduceEqDiff, reduceCtorEq, Nat.reduceSub, Int.reduceNeg, Nat.reduceMod, Nat.reduceBEq, Nat.reduceLT] at hpre ⊢

  repeat' (first | with_reducible apply And.intro | with_reducible intro _ | (refine brB_split (fun hb => ?_) (fun hb => ?_) <;> simp -implicitDefEqProofs only [hb, go_sem, k80, m80, c80_eq, k111, m111, c111_eq, Nat.reduceAdd, Nat.reduceMul, Nat.reduceLeDiff, Nat.reduceEqDiff, reduceCtorEq, Nat.reduceSub, Int.reduceNeg, Nat.reduceMod, Nat.reduceBEq, Nat.reduceLT] <;> try simp only [bOf_t, bOf_f, decide_eq_true_eq, decide_eq_false_iff_not, Bool.not_eq_true', Bool.not_eq_false', Bool.not_eq_true, Bool.not_eq_false, Decidable.not_not] at hb) | (refine aPickB_split (fun hb => ?_) (fun hb => ?_) <;> simp -implicitDefEqProofs only [hb, go_sem, k80, m80, c80_eq, k111, m111, c111_eq, Nat.reduceAdd, Nat.reduceMul, Nat.reduceLeDiff, Nat.reduceEqDiff, reduceCtorEq, Nat.reduceSub, Int.reduceNeg, Nat.reduceMod, Nat.reduceBEq, Nat.reduceLT] <;> try simp only [bOf_t, bOf_f, decide_eq_true_eq, decide_eq_false_iff_not, Bool.not_eq_true', Bool.not_eq_false', Bool.not_eq_true, Bool.not_eq_false, Decidable.not_not] at hb) | (refine gB_split (fun hb => ?_) (fun hb => ?_) <;> simp -implicitDefEqProofs only [hb, go_sem, k80, m80, c80_eq, k111, m111, c111_eq, Nat.reduceAdd, Nat.reduceMul, Nat.reduceLeDiff, Nat.reduceEqDiff, reduceCtorEq, Nat.reduceSub, Int.reduceNeg, Nat.reduceMod, Nat.reduceBEq, Nat.reduceLT] <;> try simp only [bOf_t, bOf_f, decide_eq_true_eq, decide_eq_false_iff_not, Bool.not_eq_true', Bool.not_eq_false', Bool.not_eq_true, Bool.not_eq_false, Decidable.not_not] at hb))
  all_goals (try simp only [bOf_t, bOf_f] at *)
  all_goals first | rfl | omega | skip
  · rw [bOf_y (.inr (by assumption))]
  · refine congrArg (fun b => T.v (.bool b)) (bOf_congr ⟨fun h => .inl h, fun h => h.resolve_right (by assumption)⟩)

def c116 : Ct := ctR (lc AStr (lc AStr l0)) (fun p => p.1.size ≤ 2000000 ∧ p.2.1.size ≤ 1000000) (fun p => .t (.v (.bool (bOf (Dom p.1 ∧ Dom p.2.1 ∧ Ends p.1 p.2.1)))))
theorem c116_eq {args : List AV} {K : AV → Prop} : c116 args K = K0 (fun p => p.1.size ≤ 2000000 ∧ p.2.1.size ≤ 1000000) (fun p => .t (.v (.bool (bOf (Dom p.1 ∧ Dom p.2.1 ∧ Ends p.1 p.2.1))))) K ((lc AStr (lc AStr l0)).dec args) := rfl
theorem good116 {G : Gt} (hG : GOk Tryz.prog G ∧ GDet G) (h109 : G.e 109 = roEnt 0 c109) (h126 : G.e 126 = roEnt 0 c126) : Good Tryz.prog G.m 116 (roEnt 0 c116) := by
  refine good_run (dp := fun _ => true) (fn := Tryz.f116) (n := 2) (fun _ => rfl) (by kernel_rfl) rfl (by kernel_rfl) hmix hG (Nat.le_of_ble_eq_true rfl) (by kernel_rfl) (by decide) (fun _ _ => .v _) ?_
  have k109 : (G.e 109).kd = 0 := by rw [h109]; rfl
  have m109 : (G.e 109).ro = c109 := by rw [h109]; rfl
  have k126 : (G.e 126).kd = 0 := by rw [h126]; rfl
  have m126 : (G.e 126).ro = c126 := by rw [h126]; rfl
  rintro ⟨s, e, ⟨⟩⟩ hpre
  simp -implicitDefEqProofs only [Tryz.f116, go_sem, k109, m109, c109_eq, k126, m126, c126_eq, Nat.reduceAdd, Nat.reduceMul, Nat.reduceLeDiff, Nat.reduceEqDiff, reduceCtorEq, Nat.reduceSub, Int.reduceNeg, Nat.reduceMod, Nat.reduceBEq, Nat.reduceLT] at hpre ⊢

  repeat' (first | with_reducible apply And.intro | with_reducible intro _ | (refine brB_split (fun hb => ?_) (fun hb => ?_) <;> simp -implicitDefEqProofs only [hb, go_sem, k109, m109, c109_eq, k126, m126, c126_eq, Nat.reduceAdd, Nat.reduceMul, Nat.reduceLeDiff, Nat.reduceEqDiff, reduceCtorEq, Nat.reduceSub, Int.reduceNeg, Nat.reduceMod, Nat.reduceBEq, Nat.reduceLT] <;> try simp only [bOf_t, bOf_f, decide_eq_true_eq, decide_eq_false_iff_not, Bool.not_eq_true', Bool.not_eq_false', Bool.not_eq_true, Bool.not_eq_false, Decidable.not_not] at hb) | (refine aPickB_split (fun hb => ?_) (fun hb => ?_) <;> simp -implicitDefEqProofs only [hb, go_sem, k109, m109, c109_eq, k126, m126, c126_eq, Nat.reduceAdd, Nat.reduceMul, Nat.reduceLeDiff, Nat.reduceEqDiff, reduceCtorEq, Nat.reduceSub, Int.reduceNeg, Nat.reduceMod, Nat.reduceBEq, Nat.reduceLT] <;> try simp only [bOf_t, bOf_f, decide_eq_true_eq, decide_eq_false_iff_not, Bool.not_eq_true', Bool.not_eq_false', Bool.not_eq_true, Bool.not_eq_false, Decidable.not_not] at hb) | (refine gB_split (fun hb => ?_) (fun hb => ?_) <;> simp -implicitDefEqProofs only [hb, go_sem, k109, m109, c109_eq, k126, m126, c126_eq, Nat.reduceAdd, Nat.reduceMul, Nat.reduceLeDiff, Nat.reduceEqDiff, reduceCtorEq, Nat.reduceSub, Int.reduceNeg, Nat.reduceMod, Nat.reduceBEq, Nat.reduceLT] <;> try simp only [bOf_t, bOf_f, decide_eq_true_eq, decide_eq_false_iff_not, Bool.not_eq_true', Bool.not_eq_false', Bool.not_eq_true, Bool.not_eq_false, Decidable.not_not] at hb))
  all_goals (try simp only [bOf_t, bOf_f] at *)
  all_goals first | rfl | omega | skip
  all_goals (try rw [ends_dot])
  · rw [bOf_y ⟨by assumption, by assumption, .inl (by assumption)⟩]
  · show 1 + e.size ≤ maxLen
    rw [maxLen]; omega
  · show 1 + e.size ≤ _
    omega
  · refine congrArg (fun b => T.v (.bool b)) (bOf_congr ⟨fun h => ⟨by assumption, by assumption, .inr h⟩, fun h => h.2.2.resolve_left (by assumption)⟩)
  · rw [bOf_n (fun h => absurd h.2.1 (by assumption))]
  · rw [bOf_n (fun h => absurd h.1 (by assumption))]


namespace Enc
variable {α : Type} (E : Enc α)
def apD : AV → Option α
  | .t (.rop c) => E.dec c
  | _ => none
/-- A pointer to it. -/
def ap : AD α where
  enc a := .t (.rop (E.enc a))
  dec := E.apD
  ed := fun a => E.ed a
  de := fun x a h => by
    unfold apD at h
    split at h
    · rw [E.de _ _ h]
    · cases h
end Enc
theorem ap_enc {α : Type} {E : Enc α} {a : α} : E.ap.enc a = .t (.rop (E.enc a)) := rfl
theorem ap_dec {α : Type} {E : Enc α} {c : List T} : E.ap.dec (.t (.rop c)) = E.dec c := rfl
theorem AFn0_dec {f : FuncId} : (AFn0 f).dec (.t (.fn f [])) = some () := if_pos rfl
theorem AFn0_enc {f : FuncId} {u : Unit} : (AFn0 f).enc u = .t (.fn f []) := rfl
/-- The first of which it holds, counted from k. -/
noncomputable def ixP {α : Type} (p : α → Prop) : Nat → List α → Int
  | _, [] => -1
  | k, x :: t => bif bOf (p x) then k else ixP p (k + 1) t
theorem ixP_yes {α : Type} [Inhabited α] {p : α → Prop} {xs : List α} {i : Nat} (h : i < xs.length) (ha : p (xs.getD i default)) : ixP p i (xs.drop i) = i := by
  rw [getD_drop h, ixP, bOf_y ha]; rfl
theorem ixP_no {α : Type} [Inhabited α] {p : α → Prop} {xs : List α} {i : Nat} (h : i < xs.length) (ha : ¬ p (xs.getD i default)) : ixP p i (xs.drop i) = ixP p (i + 1) (xs.drop (i + 1)) := by
  rw [getD_drop h, ixP, bOf_n ha]; rfl
theorem ixP_end {α : Type} {p : α → Prop} {xs : List α} {i : Nat} (h : xs.length ≤ i) : ixP p i (xs.drop i) = -1 := by
  rw [List.drop_eq_nil_of_le h, ixP]
theorem ixP_iff {α : Type} {p : α → Prop} : ∀ (xs : List α) (k : Nat), 0 ≤ ixP p k xs ↔ ∃ x ∈ xs, p x
  | [], k => by simp [ixP]
  | x :: t, k => by
    rw [ixP]
    by_cases h : p x
    · rw [bOf_y h, cond_true]
      exact ⟨fun _ => ⟨x, by simp, h⟩, fun _ => by omega⟩
    · rw [bOf_n h, cond_false, ixP_iff t (k + 1)]
      simp [h]
theorem ixP_rIx {f : Ad} {b : List ByteArray} : ∀ (xs : List Ru) (k : Nat), ixP (fun r => Asks r f b) k xs = rIx f b k xs
  | [], _ => rfl
  | r :: t, k => by rw [ixP, rIx, ixP_rIx t (k + 1)]
/-- The functions of a text that are handed on. -/
inductive F1 where
  | line
  | has (r : Ru)
def F1.enc : F1 → AV
  | .line => .t (.fn 115 [])
  | .has r => .t (.fn 117 [.rop (encRu r)])
def F1.dec : AV → Option F1
  | .t (.fn 115 []) => some .line
  | .t (.fn 117 [.rop c]) => (decRu c).map .has
  | _ => none
def F1.sem : F1 → ByteArray → Prop
  | .line, s => ¬ Lin s
  | .has r, s => Has s r.text
def F1.ok : F1 → Prop
  | .line => True
  | .has r => r.text.size ≤ 2000000
def AF1 : AD F1 where
  enc := F1.enc
  dec := F1.dec
  ed := fun f => by cases f <;> rfl
  de := fun x f h => by
    unfold F1.dec at h
    split at h
    · cases h; rfl
    · rename_i c
      cases hd : decRu c with
      | none => rw [hd] at h; cases h
      | some r =>
        rw [hd] at h; cases h
        have := ERu.de c r hd
        rw [this]; rfl
    · cases h
theorem AF1_d1 : AF1.dec (.t (.fn 115 [])) = some .line := rfl
theorem AF1_d2 {a c : Int} {t u d : ByteArray} : AF1.dec (.t (.fn 117 [.rop [.v (.int .i64 a), .v (.string t), .v (.int .i64 c), .v (.string u), .v (.string d)]])) = some (.has ⟨a, t, c, ⟨u, d⟩⟩) := rfl
theorem AF1_e1 : AF1.enc .line = .t (.fn 115 []) := rfl
theorem AF1_e2 {r : Ru} : AF1.enc (.has r) = .t (.fn 117 [.rop [.v (.int .i64 r.ask), .v (.string r.text), .v (.int .i64 r.act), .v (.string r.to.user), .v (.string r.to.domain)]]) := rfl
theorem ERu_enc' {r : Ru} : ERu.enc r = [.v (.int .i64 r.ask), .v (.string r.text), .v (.int .i64 r.act), .v (.string r.to.user), .v (.string r.to.domain)] := rfl
def c79 : Ct := ctR (lc EAd.ag l0) (fun p => p.1.domain.size ≤ 2000000) (fun p => .t (.v (.bool (bOf (¬ AdOk p.1)))))
theorem c79_eq {args : List AV} {K : AV → Prop} : c79 args K = K0 (fun p => p.1.domain.size ≤ 2000000) (fun p => .t (.v (.bool (bOf (¬ AdOk p.1))))) K ((lc EAd.ag l0).dec args) := rfl
theorem good79 {G : Gt} (hG : GOk Tryz.prog G ∧ GDet G) (h80 : G.e 80 = roEnt 0 c80) : Good Tryz.prog G.m 79 (roEnt 0 c79) := by
  refine good_run (dp := fun _ => true) (fn := Tryz.f79) (n := 1) (fun _ => rfl) (by kernel_rfl) rfl (by kernel_rfl) hmix hG (Nat.le_of_ble_eq_true rfl) (by kernel_rfl) (by decide) (fun _ _ => .v _) ?_
  have k80 : (G.e 80).kd = 0 := by rw [h80]; rfl
  have m80 : (G.e 80).ro = c80 := by rw [h80]; rfl
  rintro ⟨a, ⟨⟩⟩ hpre
  simp -implicitDefEqProofs only [Tryz.f79, go_sem, k80, m80, c80_eq, Nat.reduceAdd, Nat.reduceMul, Nat.reduceLeDiff, Nat.reduceEqDiff, reduceCtorEq, Nat.reduceSub, Int.reduceNeg, Nat.reduceMod, Nat.reduceBEq, Nat.reduceLT] at hpre ⊢

  repeat' (first | with_reducible apply And.intro | with_reducible intro _ | (refine brB_split (fun hb => ?_) (fun hb => ?_) <;> simp -implicitDefEqProofs only [hb, go_sem, k80, m80, c80_eq, Nat.reduceAdd, Nat.reduceMul, Nat.reduceLeDiff, Nat.reduceEqDiff, reduceCtorEq, Nat.reduceSub, Int.reduceNeg, Nat.reduceMod, Nat.reduceBEq, Nat.reduceLT] <;> try simp only [bOf_t, bOf_f, decide_eq_true_eq, decide_eq_false_iff_not, Bool.not_eq_true', Bool.not_eq_false', Bool.not_eq_true, Bool.not_eq_false, Decidable.not_not] at hb) | (refine aPickB_split (fun hb => ?_) (fun hb => ?_) <;> simp -implicitDefEqProofs only [hb, go_sem, k80, m80, c80_eq, Nat.reduceAdd, Nat.reduceMul, Nat.reduceLeDiff, Nat.reduceEqDiff, reduceCtorEq, Nat.reduceSub, Int.reduceNeg, Nat.reduceMod, Nat.reduceBEq, Nat.reduceLT] <;> try simp only [bOf_t, bOf_f, decide_eq_true_eq, decide_eq_false_iff_not, Bool.not_eq_true', Bool.not_eq_false', Bool.not_eq_true, Bool.not_eq_false, Decidable.not_not] at hb) | (refine gB_split (fun hb => ?_) (fun hb => ?_) <;> simp -implicitDefEqProofs only [hb, go_sem, k80, m80, c80_eq, Nat.reduceAdd, Nat.reduceMul, Nat.reduceLeDiff, Nat.reduceEqDiff, reduceCtorEq, Nat.reduceSub, Int.reduceNeg, Nat.reduceMod, Nat.reduceBEq, Nat.reduceLT] <;> try simp only [bOf_t, bOf_f, decide_eq_true_eq, decide_eq_false_iff_not, Bool.not_eq_true', Bool.not_eq_false', Bool.not_eq_true, Bool.not_eq_false, Decidable.not_not] at hb))
  all_goals first | rfl | omega | skip
  all_goals (rw [bOf_not])

def c115 : Ct := ctR (lc AStr l0) (fun p => p.1.size ≤ 2000000) (fun p => .t (.v (.bool (bOf (¬ Lin p.1)))))
theorem c115_eq {args : List AV} {K : AV → Prop} : c115 args K = K0 (fun p => p.1.size ≤ 2000000) (fun p => .t (.v (.bool (bOf (¬ Lin p.1))))) K ((lc AStr l0).dec args) := rfl
theorem good115 {G : Gt} (hG : GOk Tryz.prog G ∧ GDet G) (h110 : G.e 110 = roEnt 0 c110) : Good Tryz.prog G.m 115 (roEnt 0 c115) := by
  refine good_run (dp := fun _ => true) (fn := Tryz.f115) (n := 1) (fun _ => rfl) (by kernel_rfl) rfl (by kernel_rfl) hmix hG (Nat.le_of_ble_eq_true rfl) (by kernel_rfl) (by decide) (fun _ _ => .v _) ?_
  have k110 : (G.e 110).kd = 0 := by rw [h110]; rfl
  have m110 : (G.e 110).ro = c110 := by rw [h110]; rfl
  rintro ⟨s, ⟨⟩⟩ hpre
  simp -implicitDefEqProofs only [Tryz.f115, go_sem, k110, m110, c110_eq, Nat.reduceAdd, Nat.reduceMul, Nat.reduceLeDiff, Nat.reduceEqDiff, reduceCtorEq, Nat.reduceSub, Int.reduceNeg, Nat.reduceMod, Nat.reduceBEq, Nat.reduceLT] at hpre ⊢

  repeat' (first | with_reducible apply And.intro | with_reducible intro _ | (refine brB_split (fun hb => ?_) (fun hb => ?_) <;> simp -implicitDefEqProofs only [hb, go_sem, k110, m110, c110_eq, Nat.reduceAdd, Nat.reduceMul, Nat.reduceLeDiff, Nat.reduceEqDiff, reduceCtorEq, Nat.reduceSub, Int.reduceNeg, Nat.reduceMod, Nat.reduceBEq, Nat.reduceLT] <;> try simp only [bOf_t, bOf_f, decide_eq_true_eq, decide_eq_false_iff_not, Bool.not_eq_true', Bool.not_eq_false', Bool.not_eq_true, Bool.not_eq_false, Decidable.not_not] at hb) | (refine aPickB_split (fun hb => ?_) (fun hb => ?_) <;> simp -implicitDefEqProofs only [hb, go_sem, k110, m110, c110_eq, Nat.reduceAdd, Nat.reduceMul, Nat.reduceLeDiff, Nat.reduceEqDiff, reduceCtorEq, Nat.reduceSub, Int.reduceNeg, Nat.reduceMod, Nat.reduceBEq, Nat.reduceLT] <;> try simp only [bOf_t, bOf_f, decide_eq_true_eq, decide_eq_false_iff_not, Bool.not_eq_true', Bool.not_eq_false', Bool.not_eq_true, Bool.not_eq_false, Decidable.not_not] at hb) | (refine gB_split (fun hb => ?_) (fun hb => ?_) <;> simp -implicitDefEqProofs only [hb, go_sem, k110, m110, c110_eq, Nat.reduceAdd, Nat.reduceMul, Nat.reduceLeDiff, Nat.reduceEqDiff, reduceCtorEq, Nat.reduceSub, Int.reduceNeg, Nat.reduceMod, Nat.reduceBEq, Nat.reduceLT] <;> try simp only [bOf_t, bOf_f, decide_eq_true_eq, decide_eq_false_iff_not, Bool.not_eq_true', Bool.not_eq_false', Bool.not_eq_true, Bool.not_eq_false, Decidable.not_not] at hb))
  all_goals first | rfl | omega | skip
  all_goals (rw [bOf_not])

def c117 : Ct := ctR (lc AStr (lc ERu.ap l0)) (fun p => p.1.size ≤ 2000000 ∧ p.2.1.text.size ≤ 2000000) (fun p => .t (.v (.bool (bOf (Has p.1 p.2.1.text)))))
theorem c117_eq {args : List AV} {K : AV → Prop} : c117 args K = K0 (fun p => p.1.size ≤ 2000000 ∧ p.2.1.text.size ≤ 2000000) (fun p => .t (.v (.bool (bOf (Has p.1 p.2.1.text))))) K ((lc AStr (lc ERu.ap l0)).dec args) := rfl
theorem good117 {G : Gt} (hG : GOk Tryz.prog G ∧ GDet G) (h118 : G.e 118 = roEnt 0 c118) : Good Tryz.prog G.m 117 (roEnt 0 c117) := by
  refine good_run (dp := fun _ => true) (fn := Tryz.f117) (n := 2) (fun _ => rfl) (by kernel_rfl) rfl (by kernel_rfl) hmix hG (Nat.le_of_ble_eq_true rfl) (by kernel_rfl) (by decide) (fun _ _ => .v _) ?_
  have k118 : (G.e 118).kd = 0 := by rw [h118]; rfl
  have m118 : (G.e 118).ro = c118 := by rw [h118]; rfl
  rintro ⟨s, r, ⟨⟩⟩ hpre
  simp -implicitDefEqProofs only [Tryz.f117, go_sem, k118, m118, c118_eq, ap_enc, ap_dec, AFn0_dec, AFn0_enc, AF1_d1, AF1_d2, AF1_e1, AF1_e2, Bool.not_true, Bool.not_false, Nat.reduceAdd, Nat.reduceMul, Nat.reduceLeDiff, Nat.reduceEqDiff, reduceCtorEq, Nat.reduceSub, Int.reduceNeg, Nat.reduceMod, Nat.reduceBEq, Nat.reduceLT] at hpre ⊢

  repeat' (first | with_reducible apply And.intro | with_reducible intro _ | (refine brB_split (fun hb => ?_) (fun hb => ?_) <;> simp -implicitDefEqProofs only [hb, go_sem, k118, m118, c118_eq, ap_enc, ap_dec, AFn0_dec, AFn0_enc, AF1_d1, AF1_d2, AF1_e1, AF1_e2, Bool.not_true, Bool.not_false, Nat.reduceAdd, Nat.reduceMul, Nat.reduceLeDiff, Nat.reduceEqDiff, reduceCtorEq, Nat.reduceSub, Int.reduceNeg, Nat.reduceMod, Nat.reduceBEq, Nat.reduceLT] <;> try simp only [bOf_t, bOf_f, decide_eq_true_eq, decide_eq_false_iff_not, Bool.not_eq_true', Bool.not_eq_false', Bool.not_eq_true, Bool.not_eq_false, Decidable.not_not] at hb) | (refine aPickB_split (fun hb => ?_) (fun hb => ?_) <;> simp -implicitDefEqProofs only [hb, go_sem, k118, m118, c118_eq, ap_enc, ap_dec, AFn0_dec, AFn0_enc, AF1_d1, AF1_d2, AF1_e1, AF1_e2, Bool.not_true, Bool.not_false, Nat.reduceAdd, Nat.reduceMul, Nat.reduceLeDiff, Nat.reduceEqDiff, reduceCtorEq, Nat.reduceSub, Int.reduceNeg, Nat.reduceMod, Nat.reduceBEq, Nat.reduceLT] <;> try simp only [bOf_t, bOf_f, decide_eq_true_eq, decide_eq_false_iff_not, Bool.not_eq_true', Bool.not_eq_false', Bool.not_eq_true, Bool.not_eq_false, Decidable.not_not] at hb) | (refine gB_split (fun hb => ?_) (fun hb => ?_) <;> simp -implicitDefEqProofs only [hb, go_sem, k118, m118, c118_eq, ap_enc, ap_dec, AFn0_dec, AFn0_enc, AF1_d1, AF1_d2, AF1_e1, AF1_e2, Bool.not_true, Bool.not_false, Nat.reduceAdd, Nat.reduceMul, Nat.reduceLeDiff, Nat.reduceEqDiff, reduceCtorEq, Nat.reduceSub, Int.reduceNeg, Nat.reduceMod, Nat.reduceBEq, Nat.reduceLT] <;> try simp only [bOf_t, bOf_f, decide_eq_true_eq, decide_eq_false_iff_not, Bool.not_eq_true', Bool.not_eq_false', Bool.not_eq_true, Bool.not_eq_false, Decidable.not_not] at hb))
  all_goals first | rfl | omega | skip
  all_goals trace_state

def c125 : Ct := ctR (lc EStr.asl (lc AF1 l0)) (fun p => (∀ s ∈ p.1, s.size ≤ 2000000) ∧ p.2.1.ok) (fun p => .t (.v (.int .i64 (ixP p.2.1.sem 0 p.1))))
theorem c125_eq {args : List AV} {K : AV → Prop} : c125 args K = K0 (fun p => (∀ s ∈ p.1, s.size ≤ 2000000) ∧ p.2.1.ok) (fun p => .t (.v (.int .i64 (ixP p.2.1.sem 0 p.1)))) K ((lc EStr.asl (lc AF1 l0)).dec args) := rfl
theorem good125 {G : Gt} (hG : GOk Tryz.prog G ∧ GDet G) (h115 : G.e 115 = roEnt 0 c115) (h117 : G.e 117 = roEnt 0 c117) : Good Tryz.prog G.m 125 (roEnt 0 c125) := by
  refine good_run (dp := fun _ => true) (fn := Tryz.f125) (n := 2) (fun _ => rfl) (by kernel_rfl) rfl (by kernel_rfl) hmix hG (Nat.le_of_ble_eq_true rfl) (by kernel_rfl) (by decide) (fun _ _ => .v _) ?_
  have k115 : (G.e 115).kd = 0 := by rw [h115]; rfl
  have m115 : (G.e 115).ro = c115 := by rw [h115]; rfl
  have k117 : (G.e 117).kd = 0 := by rw [h117]; rfl
  have m117 : (G.e 117).ro = c117 := by rw [h117]; rfl
  rintro ⟨xs, f, ⟨⟩⟩ hpre


  obtain ⟨hs, hok⟩ := hpre
  dsimp only at hs hok ⊢
  cases f with
  | line =>
    simp -implicitDefEqProofs only [Tryz.f125, go_sem, k115, m115, c115_eq, k117, m117, c117_eq, ap_enc, ap_dec, AFn0_dec, AFn0_enc, AF1_d1, AF1_d2, AF1_e1, AF1_e2, Bool.not_true, Bool.not_false, Nat.reduceAdd, Nat.reduceMul, Nat.reduceLeDiff, Nat.reduceEqDiff, reduceCtorEq, Nat.reduceSub, Int.reduceNeg, Nat.reduceMod, Nat.reduceBEq, Nat.reduceLT]
    repeat' (first | with_reducible apply And.intro | with_reducible intro _ | (refine brB_split (fun hb => ?_) (fun hb => ?_) <;> simp -implicitDefEqProofs only [hb, go_sem, k115, m115, c115_eq, k117, m117, c117_eq, ap_enc, ap_dec, AFn0_dec, AFn0_enc, AF1_d1, AF1_d2, AF1_e1, AF1_e2, Bool.not_true, Bool.not_false, Nat.reduceAdd, Nat.reduceMul, Nat.reduceLeDiff, Nat.reduceEqDiff, reduceCtorEq, Nat.reduceSub, Int.reduceNeg, Nat.reduceMod, Nat.reduceBEq, Nat.reduceLT] <;> try simp only [bOf_t, bOf_f, decide_eq_true_eq, decide_eq_false_iff_not, Bool.not_eq_true', Bool.not_eq_false', Bool.not_eq_true, Bool.not_eq_false, Decidable.not_not] at hb) | (refine aPickB_split (fun hb => ?_) (fun hb => ?_) <;> simp -implicitDefEqProofs only [hb, go_sem, k115, m115, c115_eq, k117, m117, c117_eq, ap_enc, ap_dec, AFn0_dec, AFn0_enc, AF1_d1, AF1_d2, AF1_e1, AF1_e2, Bool.not_true, Bool.not_false, Nat.reduceAdd, Nat.reduceMul, Nat.reduceLeDiff, Nat.reduceEqDiff, reduceCtorEq, Nat.reduceSub, Int.reduceNeg, Nat.reduceMod, Nat.reduceBEq, Nat.reduceLT] <;> try simp only [bOf_t, bOf_f, decide_eq_true_eq, decide_eq_false_iff_not, Bool.not_eq_true', Bool.not_eq_false', Bool.not_eq_true, Bool.not_eq_false, Decidable.not_not] at hb) | (refine gB_split (fun hb => ?_) (fun hb => ?_) <;> simp -implicitDefEqProofs only [hb, go_sem, k115, m115, c115_eq, k117, m117, c117_eq, ap_enc, ap_dec, AFn0_dec, AFn0_enc, AF1_d1, AF1_d2, AF1_e1, AF1_e2, Bool.not_true, Bool.not_false, Nat.reduceAdd, Nat.reduceMul, Nat.reduceLeDiff, Nat.reduceEqDiff, reduceCtorEq, Nat.reduceSub, Int.reduceNeg, Nat.reduceMod, Nat.reduceBEq, Nat.reduceLT] <;> try simp only [bOf_t, bOf_f, decide_eq_true_eq, decide_eq_false_iff_not, Bool.not_eq_true', Bool.not_eq_false', Bool.not_eq_true, Bool.not_eq_false, Decidable.not_not] at hb))
    all_goals first | rfl | omega | skip
    refine run_loop [] (ι := {i : Nat // i ≤ xs.length ∧ ixP (F1.sem .line) 0 xs = ixP (F1.sem .line) i (xs.drop i)}) (fun p => ⟨[(0, .t (.sl (xs.map encStr))), (1, .t (.fn 115 [])), (7, .t (.v (.int .i64 xs.length))), (8, .t (.v (.int .i64 p.1)))], []⟩) (fun p => xs.length - p.1) ⟨0, Nat.zero_le _, rfl⟩ rfl ?_ ?_
    · simp -implicitDefEqProofs only [go_sem, k115, m115, c115_eq, k117, m117, c117_eq, ap_enc, ap_dec, AFn0_dec, AFn0_enc, AF1_d1, AF1_d2, AF1_e1, AF1_e2, Bool.not_true, Bool.not_false, Nat.reduceAdd, Nat.reduceMul, Nat.reduceLeDiff, Nat.reduceEqDiff, reduceCtorEq, Nat.reduceSub, Int.reduceNeg, Nat.reduceMod, Nat.reduceBEq, Nat.reduceLT]
      try simp
    · rintro ⟨i, hi, hix⟩
      by_cases hlt : (i : Int) < xs.length
      · have hm : xs.getD (i : Int).toNat default ∈ xs := getD_mem (by omega)
        have hsz := hs _ hm
        cases hb : bOf (¬ Lin (xs.getD (i : Int).toNat default))
        · have hq := hb
          simp -implicitDefEqProofs only [hlt, hq, go_sem, k115, m115, c115_eq, k117, m117, c117_eq, ap_enc, ap_dec, AFn0_dec, AFn0_enc, AF1_d1, AF1_d2, AF1_e1, AF1_e2, Bool.not_true, Bool.not_false, Nat.reduceAdd, Nat.reduceMul, Nat.reduceLeDiff, Nat.reduceEqDiff, reduceCtorEq, Nat.reduceSub, Int.reduceNeg, Nat.reduceMod, Nat.reduceBEq, Nat.reduceLT]
          repeat' (first | with_reducible apply And.intro | with_reducible intro _ | (refine brB_split (fun hb => ?_) (fun hb => ?_) <;> simp -implicitDefEqProofs only [hb, go_sem, k115, m115, c115_eq, k117, m117, c117_eq, ap_enc, ap_dec, AFn0_dec, AFn0_enc, AF1_d1, AF1_d2, AF1_e1, AF1_e2, Bool.not_true, Bool.not_false, Nat.reduceAdd, Nat.reduceMul, Nat.reduceLeDiff, Nat.reduceEqDiff, reduceCtorEq, Nat.reduceSub, Int.reduceNeg, Nat.reduceMod, Nat.reduceBEq, Nat.reduceLT] <;> try simp only [bOf_t, bOf_f, decide_eq_true_eq, decide_eq_false_iff_not, Bool.not_eq_true', Bool.not_eq_false', Bool.not_eq_true, Bool.not_eq_false, Decidable.not_not] at hb) | (refine aPickB_split (fun hb => ?_) (fun hb => ?_) <;> simp -implicitDefEqProofs only [hb, go_sem, k115, m115, c115_eq, k117, m117, c117_eq, ap_enc, ap_dec, AFn0_dec, AFn0_enc, AF1_d1, AF1_d2, AF1_e1, AF1_e2, Bool.not_true, Bool.not_false, Nat.reduceAdd, Nat.reduceMul, Nat.reduceLeDiff, Nat.reduceEqDiff, reduceCtorEq, Nat.reduceSub, Int.reduceNeg, Nat.reduceMod, Nat.reduceBEq, Nat.reduceLT] <;> try simp only [bOf_t, bOf_f, decide_eq_true_eq, decide_eq_false_iff_not, Bool.not_eq_true', Bool.not_eq_false', Bool.not_eq_true, Bool.not_eq_false, Decidable.not_not] at hb) | (refine gB_split (fun hb => ?_) (fun hb => ?_) <;> simp -implicitDefEqProofs only [hb, go_sem, k115, m115, c115_eq, k117, m117, c117_eq, ap_enc, ap_dec, AFn0_dec, AFn0_enc, AF1_d1, AF1_d2, AF1_e1, AF1_e2, Bool.not_true, Bool.not_false, Nat.reduceAdd, Nat.reduceMul, Nat.reduceLeDiff, Nat.reduceEqDiff, reduceCtorEq, Nat.reduceSub, Int.reduceNeg, Nat.reduceMod, Nat.reduceBEq, Nat.reduceLT] <;> try simp only [bOf_t, bOf_f, decide_eq_true_eq, decide_eq_false_iff_not, Bool.not_eq_true', Bool.not_eq_false', Bool.not_eq_true, Bool.not_eq_false, Decidable.not_not] at hb))
          all_goals (try simp only [maxLen] at *)
          all_goals first | rfl | omega | with_reducible assumption | skip
          rw [bOf_f, Int.toNat_natCast] at hb
          refine ⟨⟨i + 1, by omega, ?_⟩, by dsimp only; omega, ?_⟩
          · rw [hix, ixP_no (p := F1.sem .line) (by omega) hb]
          · simp -implicitDefEqProofs only [go_sem, k115, m115, c115_eq, k117, m117, c117_eq, ap_enc, ap_dec, AFn0_dec, AFn0_enc, AF1_d1, AF1_d2, AF1_e1, AF1_e2, Bool.not_true, Bool.not_false, Nat.reduceAdd, Nat.reduceMul, Nat.reduceLeDiff, Nat.reduceEqDiff, reduceCtorEq, Nat.reduceSub, Int.reduceNeg, Nat.reduceMod, Nat.reduceBEq, Nat.reduceLT]
            try simp
        · have hq := hb
          simp -implicitDefEqProofs only [hlt, hq, go_sem, k115, m115, c115_eq, k117, m117, c117_eq, ap_enc, ap_dec, AFn0_dec, AFn0_enc, AF1_d1, AF1_d2, AF1_e1, AF1_e2, Bool.not_true, Bool.not_false, Nat.reduceAdd, Nat.reduceMul, Nat.reduceLeDiff, Nat.reduceEqDiff, reduceCtorEq, Nat.reduceSub, Int.reduceNeg, Nat.reduceMod, Nat.reduceBEq, Nat.reduceLT]
          repeat' (first | with_reducible apply And.intro | with_reducible intro _ | (refine brB_split (fun hb => ?_) (fun hb => ?_) <;> simp -implicitDefEqProofs only [hb, go_sem, k115, m115, c115_eq, k117, m117, c117_eq, ap_enc, ap_dec, AFn0_dec, AFn0_enc, AF1_d1, AF1_d2, AF1_e1, AF1_e2, Bool.not_true, Bool.not_false, Nat.reduceAdd, Nat.reduceMul, Nat.reduceLeDiff, Nat.reduceEqDiff, reduceCtorEq, Nat.reduceSub, Int.reduceNeg, Nat.reduceMod, Nat.reduceBEq, Nat.reduceLT] <;> try simp only [bOf_t, bOf_f, decide_eq_true_eq, decide_eq_false_iff_not, Bool.not_eq_true', Bool.not_eq_false', Bool.not_eq_true, Bool.not_eq_false, Decidable.not_not] at hb) | (refine aPickB_split (fun hb => ?_) (fun hb => ?_) <;> simp -implicitDefEqProofs only [hb, go_sem, k115, m115, c115_eq, k117, m117, c117_eq, ap_enc, ap_dec, AFn0_dec, AFn0_enc, AF1_d1, AF1_d2, AF1_e1, AF1_e2, Bool.not_true, Bool.not_false, Nat.reduceAdd, Nat.reduceMul, Nat.reduceLeDiff, Nat.reduceEqDiff, reduceCtorEq, Nat.reduceSub, Int.reduceNeg, Nat.reduceMod, Nat.reduceBEq, Nat.reduceLT] <;> try simp only [bOf_t, bOf_f, decide_eq_true_eq, decide_eq_false_iff_not, Bool.not_eq_true', Bool.not_eq_false', Bool.not_eq_true, Bool.not_eq_false, Decidable.not_not] at hb) | (refine gB_split (fun hb => ?_) (fun hb => ?_) <;> simp -implicitDefEqProofs only [hb, go_sem, k115, m115, c115_eq, k117, m117, c117_eq, ap_enc, ap_dec, AFn0_dec, AFn0_enc, AF1_d1, AF1_d2, AF1_e1, AF1_e2, Bool.not_true, Bool.not_false, Nat.reduceAdd, Nat.reduceMul, Nat.reduceLeDiff, Nat.reduceEqDiff, reduceCtorEq, Nat.reduceSub, Int.reduceNeg, Nat.reduceMod, Nat.reduceBEq, Nat.reduceLT] <;> try simp only [bOf_t, bOf_f, decide_eq_true_eq, decide_eq_false_iff_not, Bool.not_eq_true', Bool.not_eq_false', Bool.not_eq_true, Bool.not_eq_false, Decidable.not_not] at hb))
          all_goals (try simp only [maxLen] at *)
          all_goals first | rfl | omega | with_reducible assumption | skip
          rw [bOf_t, Int.toNat_natCast] at hb
          rw [hix, ixP_yes (p := F1.sem .line) (by omega) hb]
      · simp -implicitDefEqProofs only [hlt, go_sem, k115, m115, c115_eq, k117, m117, c117_eq, ap_enc, ap_dec, AFn0_dec, AFn0_enc, AF1_d1, AF1_d2, AF1_e1, AF1_e2, Bool.not_true, Bool.not_false, Nat.reduceAdd, Nat.reduceMul, Nat.reduceLeDiff, Nat.reduceEqDiff, reduceCtorEq, Nat.reduceSub, Int.reduceNeg, Nat.reduceMod, Nat.reduceBEq, Nat.reduceLT]
        repeat' (first | with_reducible apply And.intro | with_reducible intro _ | (refine brB_split (fun hb => ?_) (fun hb => ?_) <;> simp -implicitDefEqProofs only [hb, go_sem, k115, m115, c115_eq, k117, m117, c117_eq, ap_enc, ap_dec, AFn0_dec, AFn0_enc, AF1_d1, AF1_d2, AF1_e1, AF1_e2, Bool.not_true, Bool.not_false, Nat.reduceAdd, Nat.reduceMul, Nat.reduceLeDiff, Nat.reduceEqDiff, reduceCtorEq, Nat.reduceSub, Int.reduceNeg, Nat.reduceMod, Nat.reduceBEq, Nat.reduceLT] <;> try simp only [bOf_t, bOf_f, decide_eq_true_eq, decide_eq_false_iff_not, Bool.not_eq_true', Bool.not_eq_false', Bool.not_eq_true, Bool.not_eq_false, Decidable.not_not] at hb) | (refine aPickB_split (fun hb => ?_) (fun hb => ?_) <;> simp -implicitDefEqProofs only [hb, go_sem, k115, m115, c115_eq, k117, m117, c117_eq, ap_enc, ap_dec, AFn0_dec, AFn0_enc, AF1_d1, AF1_d2, AF1_e1, AF1_e2, Bool.not_true, Bool.not_false, Nat.reduceAdd, Nat.reduceMul, Nat.reduceLeDiff, Nat.reduceEqDiff, reduceCtorEq, Nat.reduceSub, Int.reduceNeg, Nat.reduceMod, Nat.reduceBEq, Nat.reduceLT] <;> try simp only [bOf_t, bOf_f, decide_eq_true_eq, decide_eq_false_iff_not, Bool.not_eq_true', Bool.not_eq_false', Bool.not_eq_true, Bool.not_eq_false, Decidable.not_not] at hb) | (refine gB_split (fun hb => ?_) (fun hb => ?_) <;> simp -implicitDefEqProofs only [hb, go_sem, k115, m115, c115_eq, k117, m117, c117_eq, ap_enc, ap_dec, AFn0_dec, AFn0_enc, AF1_d1, AF1_d2, AF1_e1, AF1_e2, Bool.not_true, Bool.not_false, Nat.reduceAdd, Nat.reduceMul, Nat.reduceLeDiff, Nat.reduceEqDiff, reduceCtorEq, Nat.reduceSub, Int.reduceNeg, Nat.reduceMod, Nat.reduceBEq, Nat.reduceLT] <;> try simp only [bOf_t, bOf_f, decide_eq_true_eq, decide_eq_false_iff_not, Bool.not_eq_true', Bool.not_eq_false', Bool.not_eq_true, Bool.not_eq_false, Decidable.not_not] at hb))
        all_goals first | rfl | omega | skip
        all_goals (rw [hix, ixP_end (by omega)])

  | has r =>
    have hr : r.text.size ≤ 2000000 := hok
    simp -implicitDefEqProofs only [Tryz.f125, go_sem, k115, m115, c115_eq, k117, m117, c117_eq, ap_enc, ap_dec, AFn0_dec, AFn0_enc, AF1_d1, AF1_d2, AF1_e1, AF1_e2, Bool.not_true, Bool.not_false, Nat.reduceAdd, Nat.reduceMul, Nat.reduceLeDiff, Nat.reduceEqDiff, reduceCtorEq, Nat.reduceSub, Int.reduceNeg, Nat.reduceMod, Nat.reduceBEq, Nat.reduceLT]
    repeat' (first | with_reducible apply And.intro | with_reducible intro _ | (refine brB_split (fun hb => ?_) (fun hb => ?_) <;> simp -implicitDefEqProofs only [hb, go_sem, k115, m115, c115_eq, k117, m117, c117_eq, ap_enc, ap_dec, AFn0_dec, AFn0_enc, AF1_d1, AF1_d2, AF1_e1, AF1_e2, Bool.not_true, Bool.not_false, Nat.reduceAdd, Nat.reduceMul, Nat.reduceLeDiff, Nat.reduceEqDiff, reduceCtorEq, Nat.reduceSub, Int.reduceNeg, Nat.reduceMod, Nat.reduceBEq, Nat.reduceLT] <;> try simp only [bOf_t, bOf_f, decide_eq_true_eq, decide_eq_false_iff_not, Bool.not_eq_true', Bool.not_eq_false', Bool.not_eq_true, Bool.not_eq_false, Decidable.not_not] at hb) | (refine aPickB_split (fun hb => ?_) (fun hb => ?_) <;> simp -implicitDefEqProofs only [hb, go_sem, k115, m115, c115_eq, k117, m117, c117_eq, ap_enc, ap_dec, AFn0_dec, AFn0_enc, AF1_d1, AF1_d2, AF1_e1, AF1_e2, Bool.not_true, Bool.not_false, Nat.reduceAdd, Nat.reduceMul, Nat.reduceLeDiff, Nat.reduceEqDiff, reduceCtorEq, Nat.reduceSub, Int.reduceNeg, Nat.reduceMod, Nat.reduceBEq, Nat.reduceLT] <;> try simp only [bOf_t, bOf_f, decide_eq_true_eq, decide_eq_false_iff_not, Bool.not_eq_true', Bool.not_eq_false', Bool.not_eq_true, Bool.not_eq_false, Decidable.not_not] at hb) | (refine gB_split (fun hb => ?_) (fun hb => ?_) <;> simp -implicitDefEqProofs only [hb, go_sem, k115, m115, c115_eq, k117, m117, c117_eq, ap_enc, ap_dec, AFn0_dec, AFn0_enc, AF1_d1, AF1_d2, AF1_e1, AF1_e2, Bool.not_true, Bool.not_false, Nat.reduceAdd, Nat.reduceMul, Nat.reduceLeDiff, Nat.reduceEqDiff, reduceCtorEq, Nat.reduceSub, Int.reduceNeg, Nat.reduceMod, Nat.reduceBEq, Nat.reduceLT] <;> try simp only [bOf_t, bOf_f, decide_eq_true_eq, decide_eq_false_iff_not, Bool.not_eq_true', Bool.not_eq_false', Bool.not_eq_true, Bool.not_eq_false, Decidable.not_not] at hb))
    all_goals first | rfl | omega | skip
    refine run_loop [] (ι := {i : Nat // i ≤ xs.length ∧ ixP (F1.sem (.has r)) 0 xs = ixP (F1.sem (.has r)) i (xs.drop i)}) (fun p => ⟨[(0, .t (.sl (xs.map encStr))), (1, AF1.enc (.has r)), (7, .t (.v (.int .i64 xs.length))), (8, .t (.v (.int .i64 p.1)))], []⟩) (fun p => xs.length - p.1) ⟨0, Nat.zero_le _, rfl⟩ rfl ?_ ?_
    · simp -implicitDefEqProofs only [go_sem, k115, m115, c115_eq, k117, m117, c117_eq, ap_enc, ap_dec, AFn0_dec, AFn0_enc, AF1_d1, AF1_d2, AF1_e1, AF1_e2, Bool.not_true, Bool.not_false, Nat.reduceAdd, Nat.reduceMul, Nat.reduceLeDiff, Nat.reduceEqDiff, reduceCtorEq, Nat.reduceSub, Int.reduceNeg, Nat.reduceMod, Nat.reduceBEq, Nat.reduceLT]
      try simp
    · rintro ⟨i, hi, hix⟩
      by_cases hlt : (i : Int) < xs.length
      · have hm : xs.getD (i : Int).toNat default ∈ xs := getD_mem (by omega)
        have hsz := hs _ hm
        cases hb : bOf (Has (xs.getD (i : Int).toNat default) r.text)
        · have hq := hb
          simp -implicitDefEqProofs only [hlt, hq, go_sem, k115, m115, c115_eq, k117, m117, c117_eq, ap_enc, ap_dec, AFn0_dec, AFn0_enc, AF1_d1, AF1_d2, AF1_e1, AF1_e2, Bool.not_true, Bool.not_false, Nat.reduceAdd, Nat.reduceMul, Nat.reduceLeDiff, Nat.reduceEqDiff, reduceCtorEq, Nat.reduceSub, Int.reduceNeg, Nat.reduceMod, Nat.reduceBEq, Nat.reduceLT]
          repeat' (first | with_reducible apply And.intro | with_reducible intro _ | (refine brB_split (fun hb => ?_) (fun hb => ?_) <;> simp -implicitDefEqProofs only [hb, go_sem, k115, m115, c115_eq, k117, m117, c117_eq, ap_enc, ap_dec, AFn0_dec, AFn0_enc, AF1_d1, AF1_d2, AF1_e1, AF1_e2, Bool.not_true, Bool.not_false, Nat.reduceAdd, Nat.reduceMul, Nat.reduceLeDiff, Nat.reduceEqDiff, reduceCtorEq, Nat.reduceSub, Int.reduceNeg, Nat.reduceMod, Nat.reduceBEq, Nat.reduceLT] <;> try simp only [bOf_t, bOf_f, decide_eq_true_eq, decide_eq_false_iff_not, Bool.not_eq_true', Bool.not_eq_false', Bool.not_eq_true, Bool.not_eq_false, Decidable.not_not] at hb) | (refine aPickB_split (fun hb => ?_) (fun hb => ?_) <;> simp -implicitDefEqProofs only [hb, go_sem, k115, m115, c115_eq, k117, m117, c117_eq, ap_enc, ap_dec, AFn0_dec, AFn0_enc, AF1_d1, AF1_d2, AF1_e1, AF1_e2, Bool.not_true, Bool.not_false, Nat.reduceAdd, Nat.reduceMul, Nat.reduceLeDiff, Nat.reduceEqDiff, reduceCtorEq, Nat.reduceSub, Int.reduceNeg, Nat.reduceMod, Nat.reduceBEq, Nat.reduceLT] <;> try simp only [bOf_t, bOf_f, decide_eq_true_eq, decide_eq_false_iff_not, Bool.not_eq_true', Bool.not_eq_false', Bool.not_eq_true, Bool.not_eq_false, Decidable.not_not] at hb) | (refine gB_split (fun hb => ?_) (fun hb => ?_) <;> simp -implicitDefEqProofs only [hb, go_sem, k115, m115, c115_eq, k117, m117, c117_eq, ap_enc, ap_dec, AFn0_dec, AFn0_enc, AF1_d1, AF1_d2, AF1_e1, AF1_e2, Bool.not_true, Bool.not_false, Nat.reduceAdd, Nat.reduceMul, Nat.reduceLeDiff, Nat.reduceEqDiff, reduceCtorEq, Nat.reduceSub, Int.reduceNeg, Nat.reduceMod, Nat.reduceBEq, Nat.reduceLT] <;> try simp only [bOf_t, bOf_f, decide_eq_true_eq, decide_eq_false_iff_not, Bool.not_eq_true', Bool.not_eq_false', Bool.not_eq_true, Bool.not_eq_false, Decidable.not_not] at hb))
          all_goals (try simp only [maxLen] at *)
          all_goals first | rfl | omega | with_reducible assumption | skip
          rw [bOf_f, Int.toNat_natCast] at hb
          refine ⟨⟨i + 1, by omega, ?_⟩, by dsimp only; omega, ?_⟩
          · rw [hix, ixP_no (p := F1.sem (.has r)) (by omega) hb]
          · simp -implicitDefEqProofs only [go_sem, k115, m115, c115_eq, k117, m117, c117_eq, ap_enc, ap_dec, AFn0_dec, AFn0_enc, AF1_d1, AF1_d2, AF1_e1, AF1_e2, Bool.not_true, Bool.not_false, Nat.reduceAdd, Nat.reduceMul, Nat.reduceLeDiff, Nat.reduceEqDiff, reduceCtorEq, Nat.reduceSub, Int.reduceNeg, Nat.reduceMod, Nat.reduceBEq, Nat.reduceLT]
            try simp
        · have hq := hb
          simp -implicitDefEqProofs only [hlt, hq, go_sem, k115, m115, c115_eq, k117, m117, c117_eq, ap_enc, ap_dec, AFn0_dec, AFn0_enc, AF1_d1, AF1_d2, AF1_e1, AF1_e2, Bool.not_true, Bool.not_false, Nat.reduceAdd, Nat.reduceMul, Nat.reduceLeDiff, Nat.reduceEqDiff, reduceCtorEq, Nat.reduceSub, Int.reduceNeg, Nat.reduceMod, Nat.reduceBEq, Nat.reduceLT]
          repeat' (first | with_reducible apply And.intro | with_reducible intro _ | (refine brB_split (fun hb => ?_) (fun hb => ?_) <;> simp -implicitDefEqProofs only [hb, go_sem, k115, m115, c115_eq, k117, m117, c117_eq, ap_enc, ap_dec, AFn0_dec, AFn0_enc, AF1_d1, AF1_d2, AF1_e1, AF1_e2, Bool.not_true, Bool.not_false, Nat.reduceAdd, Nat.reduceMul, Nat.reduceLeDiff, Nat.reduceEqDiff, reduceCtorEq, Nat.reduceSub, Int.reduceNeg, Nat.reduceMod, Nat.reduceBEq, Nat.reduceLT] <;> try simp only [bOf_t, bOf_f, decide_eq_true_eq, decide_eq_false_iff_not, Bool.not_eq_true', Bool.not_eq_false', Bool.not_eq_true, Bool.not_eq_false, Decidable.not_not] at hb) | (refine aPickB_split (fun hb => ?_) (fun hb => ?_) <;> simp -implicitDefEqProofs only [hb, go_sem, k115, m115, c115_eq, k117, m117, c117_eq, ap_enc, ap_dec, AFn0_dec, AFn0_enc, AF1_d1, AF1_d2, AF1_e1, AF1_e2, Bool.not_true, Bool.not_false, Nat.reduceAdd, Nat.reduceMul, Nat.reduceLeDiff, Nat.reduceEqDiff, reduceCtorEq, Nat.reduceSub, Int.reduceNeg, Nat.reduceMod, Nat.reduceBEq, Nat.reduceLT] <;> try simp only [bOf_t, bOf_f, decide_eq_true_eq, decide_eq_false_iff_not, Bool.not_eq_true', Bool.not_eq_false', Bool.not_eq_true, Bool.not_eq_false, Decidable.not_not] at hb) | (refine gB_split (fun hb => ?_) (fun hb => ?_) <;> simp -implicitDefEqProofs only [hb, go_sem, k115, m115, c115_eq, k117, m117, c117_eq, ap_enc, ap_dec, AFn0_dec, AFn0_enc, AF1_d1, AF1_d2, AF1_e1, AF1_e2, Bool.not_true, Bool.not_false, Nat.reduceAdd, Nat.reduceMul, Nat.reduceLeDiff, Nat.reduceEqDiff, reduceCtorEq, Nat.reduceSub, Int.reduceNeg, Nat.reduceMod, Nat.reduceBEq, Nat.reduceLT] <;> try simp only [bOf_t, bOf_f, decide_eq_true_eq, decide_eq_false_iff_not, Bool.not_eq_true', Bool.not_eq_false', Bool.not_eq_true, Bool.not_eq_false, Decidable.not_not] at hb))
          all_goals (try simp only [maxLen] at *)
          all_goals first | rfl | omega | with_reducible assumption | skip
          rw [bOf_t, Int.toNat_natCast] at hb
          rw [hix, ixP_yes (p := F1.sem (.has r)) (by omega) hb]
      · simp -implicitDefEqProofs only [hlt, go_sem, k115, m115, c115_eq, k117, m117, c117_eq, ap_enc, ap_dec, AFn0_dec, AFn0_enc, AF1_d1, AF1_d2, AF1_e1, AF1_e2, Bool.not_true, Bool.not_false, Nat.reduceAdd, Nat.reduceMul, Nat.reduceLeDiff, Nat.reduceEqDiff, reduceCtorEq, Nat.reduceSub, Int.reduceNeg, Nat.reduceMod, Nat.reduceBEq, Nat.reduceLT]
        repeat' (first | with_reducible apply And.intro | with_reducible intro _ | (refine brB_split (fun hb => ?_) (fun hb => ?_) <;> simp -implicitDefEqProofs only [hb, go_sem, k115, m115, c115_eq, k117, m117, c117_eq, ap_enc, ap_dec, AFn0_dec, AFn0_enc, AF1_d1, AF1_d2, AF1_e1, AF1_e2, Bool.not_true, Bool.not_false, Nat.reduceAdd, Nat.reduceMul, Nat.reduceLeDiff, Nat.reduceEqDiff, reduceCtorEq, Nat.reduceSub, Int.reduceNeg, Nat.reduceMod, Nat.reduceBEq, Nat.reduceLT] <;> try simp only [bOf_t, bOf_f, decide_eq_true_eq, decide_eq_false_iff_not, Bool.not_eq_true', Bool.not_eq_false', Bool.not_eq_true, Bool.not_eq_false, Decidable.not_not] at hb) | (refine aPickB_split (fun hb => ?_) (fun hb => ?_) <;> simp -implicitDefEqProofs only [hb, go_sem, k115, m115, c115_eq, k117, m117, c117_eq, ap_enc, ap_dec, AFn0_dec, AFn0_enc, AF1_d1, AF1_d2, AF1_e1, AF1_e2, Bool.not_true, Bool.not_false, Nat.reduceAdd, Nat.reduceMul, Nat.reduceLeDiff, Nat.reduceEqDiff, reduceCtorEq, Nat.reduceSub, Int.reduceNeg, Nat.reduceMod, Nat.reduceBEq, Nat.reduceLT] <;> try simp only [bOf_t, bOf_f, decide_eq_true_eq, decide_eq_false_iff_not, Bool.not_eq_true', Bool.not_eq_false', Bool.not_eq_true, Bool.not_eq_false, Decidable.not_not] at hb) | (refine gB_split (fun hb => ?_) (fun hb => ?_) <;> simp -implicitDefEqProofs only [hb, go_sem, k115, m115, c115_eq, k117, m117, c117_eq, ap_enc, ap_dec, AFn0_dec, AFn0_enc, AF1_d1, AF1_d2, AF1_e1, AF1_e2, Bool.not_true, Bool.not_false, Nat.reduceAdd, Nat.reduceMul, Nat.reduceLeDiff, Nat.reduceEqDiff, reduceCtorEq, Nat.reduceSub, Int.reduceNeg, Nat.reduceMod, Nat.reduceBEq, Nat.reduceLT] <;> try simp only [bOf_t, bOf_f, decide_eq_true_eq, decide_eq_false_iff_not, Bool.not_eq_true', Bool.not_eq_false', Bool.not_eq_true, Bool.not_eq_false, Decidable.not_not] at hb))
        all_goals first | rfl | omega | skip
        all_goals (rw [hix, ixP_end (by omega)])

def c114 : Ct := ctR (lc EStr.asl (lc AF1 l0)) (fun p => (∀ s ∈ p.1, s.size ≤ 2000000) ∧ p.2.1.ok) (fun p => .t (.v (.bool (bOf (∃ x ∈ p.1, p.2.1.sem x)))))
theorem c114_eq {args : List AV} {K : AV → Prop} : c114 args K = K0 (fun p => (∀ s ∈ p.1, s.size ≤ 2000000) ∧ p.2.1.ok) (fun p => .t (.v (.bool (bOf (∃ x ∈ p.1, p.2.1.sem x))))) K ((lc EStr.asl (lc AF1 l0)).dec args) := rfl
theorem good114 {G : Gt} (hG : GOk Tryz.prog G ∧ GDet G) (h125 : G.e 125 = roEnt 0 c125) : Good Tryz.prog G.m 114 (roEnt 0 c114) := by
  refine good_run (dp := fun _ => true) (fn := Tryz.f114) (n := 2) (fun _ => rfl) (by kernel_rfl) rfl (by kernel_rfl) hmix hG (Nat.le_of_ble_eq_true rfl) (by kernel_rfl) (by decide) (fun _ _ => .v _) ?_
  have k125 : (G.e 125).kd = 0 := by rw [h125]; rfl
  have m125 : (G.e 125).ro = c125 := by rw [h125]; rfl
  rintro ⟨xs, f, ⟨⟩⟩ hpre


  dsimp only at hpre ⊢
  cases f
  all_goals
    simp -implicitDefEqProofs only [Tryz.f114, go_sem, k125, m125, c125_eq, ap_enc, ap_dec, AFn0_dec, AFn0_enc, AF1_d1, AF1_d2, AF1_e1, AF1_e2, Bool.not_true, Bool.not_false, Nat.reduceAdd, Nat.reduceMul, Nat.reduceLeDiff, Nat.reduceEqDiff, reduceCtorEq, Nat.reduceSub, Int.reduceNeg, Nat.reduceMod, Nat.reduceBEq, Nat.reduceLT]
    repeat' (first | with_reducible apply And.intro | with_reducible intro _ | (refine brB_split (fun hb => ?_) (fun hb => ?_) <;> simp -implicitDefEqProofs only [hb, go_sem, k125, m125, c125_eq, ap_enc, ap_dec, AFn0_dec, AFn0_enc, AF1_d1, AF1_d2, AF1_e1, AF1_e2, Bool.not_true, Bool.not_false, Nat.reduceAdd, Nat.reduceMul, Nat.reduceLeDiff, Nat.reduceEqDiff, reduceCtorEq, Nat.reduceSub, Int.reduceNeg, Nat.reduceMod, Nat.reduceBEq, Nat.reduceLT] <;> try simp only [bOf_t, bOf_f, decide_eq_true_eq, decide_eq_false_iff_not, Bool.not_eq_true', Bool.not_eq_false', Bool.not_eq_true, Bool.not_eq_false, Decidable.not_not] at hb) | (refine aPickB_split (fun hb => ?_) (fun hb => ?_) <;> simp -implicitDefEqProofs only [hb, go_sem, k125, m125, c125_eq, ap_enc, ap_dec, AFn0_dec, AFn0_enc, AF1_d1, AF1_d2, AF1_e1, AF1_e2, Bool.not_true, Bool.not_false, Nat.reduceAdd, Nat.reduceMul, Nat.reduceLeDiff, Nat.reduceEqDiff, reduceCtorEq, Nat.reduceSub, Int.reduceNeg, Nat.reduceMod, Nat.reduceBEq, Nat.reduceLT] <;> try simp only [bOf_t, bOf_f, decide_eq_true_eq, decide_eq_false_iff_not, Bool.not_eq_true', Bool.not_eq_false', Bool.not_eq_true, Bool.not_eq_false, Decidable.not_not] at hb) | (refine gB_split (fun hb => ?_) (fun hb => ?_) <;> simp -implicitDefEqProofs only [hb, go_sem, k125, m125, c125_eq, ap_enc, ap_dec, AFn0_dec, AFn0_enc, AF1_d1, AF1_d2, AF1_e1, AF1_e2, Bool.not_true, Bool.not_false, Nat.reduceAdd, Nat.reduceMul, Nat.reduceLeDiff, Nat.reduceEqDiff, reduceCtorEq, Nat.reduceSub, Int.reduceNeg, Nat.reduceMod, Nat.reduceBEq, Nat.reduceLT] <;> try simp only [bOf_t, bOf_f, decide_eq_true_eq, decide_eq_false_iff_not, Bool.not_eq_true', Bool.not_eq_false', Bool.not_eq_true, Bool.not_eq_false, Decidable.not_not] at hb))
    all_goals first | rfl | omega | exact hpre.1 | exact hpre.2 | exact hpre.1 _ (by assumption) | skip
    all_goals (rw [← bOf_congr (ixP_iff _ 0)]; rw [bOf_d])

def c113 : Ct := ctR (lc EAd.asl (lc (AFn0 79) l0)) (fun p => ∀ a ∈ p.1, a.domain.size ≤ 2000000) (fun p => .t (.v (.int .i64 (ixP (fun a => ¬ AdOk a) 0 p.1))))
theorem c113_eq {args : List AV} {K : AV → Prop} : c113 args K = K0 (fun p => ∀ a ∈ p.1, a.domain.size ≤ 2000000) (fun p => .t (.v (.int .i64 (ixP (fun a => ¬ AdOk a) 0 p.1)))) K ((lc EAd.asl (lc (AFn0 79) l0)).dec args) := rfl
theorem good113 {G : Gt} (hG : GOk Tryz.prog G ∧ GDet G) (h79 : G.e 79 = roEnt 0 c79) : Good Tryz.prog G.m 113 (roEnt 0 c113) := by
  refine good_run (dp := fun _ => true) (fn := Tryz.f113) (n := 2) (fun _ => rfl) (by kernel_rfl) rfl (by kernel_rfl) hmix hG (Nat.le_of_ble_eq_true rfl) (by kernel_rfl) (by decide) (fun _ _ => .v _) ?_
  have k79 : (G.e 79).kd = 0 := by rw [h79]; rfl
  have m79 : (G.e 79).ro = c79 := by rw [h79]; rfl
  rintro ⟨xs, f, ⟨⟩⟩ hpre


  have hs := hpre
  dsimp only at hs ⊢
  cases f with
  | unit =>
    simp -implicitDefEqProofs only [Tryz.f113, go_sem, k79, m79, c79_eq, ap_enc, ap_dec, AFn0_dec, AFn0_enc, AF1_d1, AF1_d2, AF1_e1, AF1_e2, Bool.not_true, Bool.not_false, Nat.reduceAdd, Nat.reduceMul, Nat.reduceLeDiff, Nat.reduceEqDiff, reduceCtorEq, Nat.reduceSub, Int.reduceNeg, Nat.reduceMod, Nat.reduceBEq, Nat.reduceLT]
    repeat' (first | with_reducible apply And.intro | with_reducible intro _ | (refine brB_split (fun hb => ?_) (fun hb => ?_) <;> simp -implicitDefEqProofs only [hb, go_sem, k79, m79, c79_eq, ap_enc, ap_dec, AFn0_dec, AFn0_enc, AF1_d1, AF1_d2, AF1_e1, AF1_e2, Bool.not_true, Bool.not_false, Nat.reduceAdd, Nat.reduceMul, Nat.reduceLeDiff, Nat.reduceEqDiff, reduceCtorEq, Nat.reduceSub, Int.reduceNeg, Nat.reduceMod, Nat.reduceBEq, Nat.reduceLT] <;> try simp only [bOf_t, bOf_f, decide_eq_true_eq, decide_eq_false_iff_not, Bool.not_eq_true', Bool.not_eq_false', Bool.not_eq_true, Bool.not_eq_false, Decidable.not_not] at hb) | (refine aPickB_split (fun hb => ?_) (fun hb => ?_) <;> simp -implicitDefEqProofs only [hb, go_sem, k79, m79, c79_eq, ap_enc, ap_dec, AFn0_dec, AFn0_enc, AF1_d1, AF1_d2, AF1_e1, AF1_e2, Bool.not_true, Bool.not_false, Nat.reduceAdd, Nat.reduceMul, Nat.reduceLeDiff, Nat.reduceEqDiff, reduceCtorEq, Nat.reduceSub, Int.reduceNeg, Nat.reduceMod, Nat.reduceBEq, Nat.reduceLT] <;> try simp only [bOf_t, bOf_f, decide_eq_true_eq, decide_eq_false_iff_not, Bool.not_eq_true', Bool.not_eq_false', Bool.not_eq_true, Bool.not_eq_false, Decidable.not_not] at hb) | (refine gB_split (fun hb => ?_) (fun hb => ?_) <;> simp -implicitDefEqProofs only [hb, go_sem, k79, m79, c79_eq, ap_enc, ap_dec, AFn0_dec, AFn0_enc, AF1_d1, AF1_d2, AF1_e1, AF1_e2, Bool.not_true, Bool.not_false, Nat.reduceAdd, Nat.reduceMul, Nat.reduceLeDiff, Nat.reduceEqDiff, reduceCtorEq, Nat.reduceSub, Int.reduceNeg, Nat.reduceMod, Nat.reduceBEq, Nat.reduceLT] <;> try simp only [bOf_t, bOf_f, decide_eq_true_eq, decide_eq_false_iff_not, Bool.not_eq_true', Bool.not_eq_false', Bool.not_eq_true, Bool.not_eq_false, Decidable.not_not] at hb))
    all_goals first | rfl | omega | skip
    refine run_loop [] (ι := {i : Nat // i ≤ xs.length ∧ ixP (fun a => ¬ AdOk a) 0 xs = ixP (fun a => ¬ AdOk a) i (xs.drop i)}) (fun p => ⟨[(0, .t (.sl (xs.map encAd))), (1, .t (.fn 79 [])), (7, .t (.v (.int .i64 xs.length))), (8, .t (.v (.int .i64 p.1)))], []⟩) (fun p => xs.length - p.1) ⟨0, Nat.zero_le _, rfl⟩ rfl ?_ ?_
    · simp -implicitDefEqProofs only [go_sem, k79, m79, c79_eq, ap_enc, ap_dec, AFn0_dec, AFn0_enc, AF1_d1, AF1_d2, AF1_e1, AF1_e2, Bool.not_true, Bool.not_false, Nat.reduceAdd, Nat.reduceMul, Nat.reduceLeDiff, Nat.reduceEqDiff, reduceCtorEq, Nat.reduceSub, Int.reduceNeg, Nat.reduceMod, Nat.reduceBEq, Nat.reduceLT]
      try simp
    · rintro ⟨i, hi, hix⟩
      by_cases hlt : (i : Int) < xs.length
      · have hm : xs.getD (i : Int).toNat default ∈ xs := getD_mem (by omega)
        have hsz := hs _ hm
        cases hb : bOf (¬ AdOk (xs.getD (i : Int).toNat default))
        · have hq := hb
          simp -implicitDefEqProofs only [hlt, hq, go_sem, k79, m79, c79_eq, ap_enc, ap_dec, AFn0_dec, AFn0_enc, AF1_d1, AF1_d2, AF1_e1, AF1_e2, Bool.not_true, Bool.not_false, Nat.reduceAdd, Nat.reduceMul, Nat.reduceLeDiff, Nat.reduceEqDiff, reduceCtorEq, Nat.reduceSub, Int.reduceNeg, Nat.reduceMod, Nat.reduceBEq, Nat.reduceLT]
          repeat' (first | with_reducible apply And.intro | with_reducible intro _ | (refine brB_split (fun hb => ?_) (fun hb => ?_) <;> simp -implicitDefEqProofs only [hb, go_sem, k79, m79, c79_eq, ap_enc, ap_dec, AFn0_dec, AFn0_enc, AF1_d1, AF1_d2, AF1_e1, AF1_e2, Bool.not_true, Bool.not_false, Nat.reduceAdd, Nat.reduceMul, Nat.reduceLeDiff, Nat.reduceEqDiff, reduceCtorEq, Nat.reduceSub, Int.reduceNeg, Nat.reduceMod, Nat.reduceBEq, Nat.reduceLT] <;> try simp only [bOf_t, bOf_f, decide_eq_true_eq, decide_eq_false_iff_not, Bool.not_eq_true', Bool.not_eq_false', Bool.not_eq_true, Bool.not_eq_false, Decidable.not_not] at hb) | (refine aPickB_split (fun hb => ?_) (fun hb => ?_) <;> simp -implicitDefEqProofs only [hb, go_sem, k79, m79, c79_eq, ap_enc, ap_dec, AFn0_dec, AFn0_enc, AF1_d1, AF1_d2, AF1_e1, AF1_e2, Bool.not_true, Bool.not_false, Nat.reduceAdd, Nat.reduceMul, Nat.reduceLeDiff, Nat.reduceEqDiff, reduceCtorEq, Nat.reduceSub, Int.reduceNeg, Nat.reduceMod, Nat.reduceBEq, Nat.reduceLT] <;> try simp only [bOf_t, bOf_f, decide_eq_true_eq, decide_eq_false_iff_not, Bool.not_eq_true', Bool.not_eq_false', Bool.not_eq_true, Bool.not_eq_false, Decidable.not_not] at hb) | (refine gB_split (fun hb => ?_) (fun hb => ?_) <;> simp -implicitDefEqProofs only [hb, go_sem, k79, m79, c79_eq, ap_enc, ap_dec, AFn0_dec, AFn0_enc, AF1_d1, AF1_d2, AF1_e1, AF1_e2, Bool.not_true, Bool.not_false, Nat.reduceAdd, Nat.reduceMul, Nat.reduceLeDiff, Nat.reduceEqDiff, reduceCtorEq, Nat.reduceSub, Int.reduceNeg, Nat.reduceMod, Nat.reduceBEq, Nat.reduceLT] <;> try simp only [bOf_t, bOf_f, decide_eq_true_eq, decide_eq_false_iff_not, Bool.not_eq_true', Bool.not_eq_false', Bool.not_eq_true, Bool.not_eq_false, Decidable.not_not] at hb))
          all_goals (try simp only [maxLen] at *)
          all_goals first | rfl | omega | with_reducible assumption | skip
          rw [bOf_f, Int.toNat_natCast] at hb
          refine ⟨⟨i + 1, by omega, ?_⟩, by dsimp only; omega, ?_⟩
          · rw [hix, ixP_no (p := fun a => ¬ AdOk a) (by omega) hb]
          · simp -implicitDefEqProofs only [go_sem, k79, m79, c79_eq, ap_enc, ap_dec, AFn0_dec, AFn0_enc, AF1_d1, AF1_d2, AF1_e1, AF1_e2, Bool.not_true, Bool.not_false, Nat.reduceAdd, Nat.reduceMul, Nat.reduceLeDiff, Nat.reduceEqDiff, reduceCtorEq, Nat.reduceSub, Int.reduceNeg, Nat.reduceMod, Nat.reduceBEq, Nat.reduceLT]
            try simp
        · have hq := hb
          simp -implicitDefEqProofs only [hlt, hq, go_sem, k79, m79, c79_eq, ap_enc, ap_dec, AFn0_dec, AFn0_enc, AF1_d1, AF1_d2, AF1_e1, AF1_e2, Bool.not_true, Bool.not_false, Nat.reduceAdd, Nat.reduceMul, Nat.reduceLeDiff, Nat.reduceEqDiff, reduceCtorEq, Nat.reduceSub, Int.reduceNeg, Nat.reduceMod, Nat.reduceBEq, Nat.reduceLT]
          repeat' (first | with_reducible apply And.intro | with_reducible intro _ | (refine brB_split (fun hb => ?_) (fun hb => ?_) <;> simp -implicitDefEqProofs only [hb, go_sem, k79, m79, c79_eq, ap_enc, ap_dec, AFn0_dec, AFn0_enc, AF1_d1, AF1_d2, AF1_e1, AF1_e2, Bool.not_true, Bool.not_false, Nat.reduceAdd, Nat.reduceMul, Nat.reduceLeDiff, Nat.reduceEqDiff, reduceCtorEq, Nat.reduceSub, Int.reduceNeg, Nat.reduceMod, Nat.reduceBEq, Nat.reduceLT] <;> try simp only [bOf_t, bOf_f, decide_eq_true_eq, decide_eq_false_iff_not, Bool.not_eq_true', Bool.not_eq_false', Bool.not_eq_true, Bool.not_eq_false, Decidable.not_not] at hb) | (refine aPickB_split (fun hb => ?_) (fun hb => ?_) <;> simp -implicitDefEqProofs only [hb, go_sem, k79, m79, c79_eq, ap_enc, ap_dec, AFn0_dec, AFn0_enc, AF1_d1, AF1_d2, AF1_e1, AF1_e2, Bool.not_true, Bool.not_false, Nat.reduceAdd, Nat.reduceMul, Nat.reduceLeDiff, Nat.reduceEqDiff, reduceCtorEq, Nat.reduceSub, Int.reduceNeg, Nat.reduceMod, Nat.reduceBEq, Nat.reduceLT] <;> try simp only [bOf_t, bOf_f, decide_eq_true_eq, decide_eq_false_iff_not, Bool.not_eq_true', Bool.not_eq_false', Bool.not_eq_true, Bool.not_eq_false, Decidable.not_not] at hb) | (refine gB_split (fun hb => ?_) (fun hb => ?_) <;> simp -implicitDefEqProofs only [hb, go_sem, k79, m79, c79_eq, ap_enc, ap_dec, AFn0_dec, AFn0_enc, AF1_d1, AF1_d2, AF1_e1, AF1_e2, Bool.not_true, Bool.not_false, Nat.reduceAdd, Nat.reduceMul, Nat.reduceLeDiff, Nat.reduceEqDiff, reduceCtorEq, Nat.reduceSub, Int.reduceNeg, Nat.reduceMod, Nat.reduceBEq, Nat.reduceLT] <;> try simp only [bOf_t, bOf_f, decide_eq_true_eq, decide_eq_false_iff_not, Bool.not_eq_true', Bool.not_eq_false', Bool.not_eq_true, Bool.not_eq_false, Decidable.not_not] at hb))
          all_goals (try simp only [maxLen] at *)
          all_goals first | rfl | omega | with_reducible assumption | skip
          rw [bOf_t, Int.toNat_natCast] at hb
          rw [hix, ixP_yes (p := fun a => ¬ AdOk a) (by omega) hb]
      · simp -implicitDefEqProofs only [hlt, go_sem, k79, m79, c79_eq, ap_enc, ap_dec, AFn0_dec, AFn0_enc, AF1_d1, AF1_d2, AF1_e1, AF1_e2, Bool.not_true, Bool.not_false, Nat.reduceAdd, Nat.reduceMul, Nat.reduceLeDiff, Nat.reduceEqDiff, reduceCtorEq, Nat.reduceSub, Int.reduceNeg, Nat.reduceMod, Nat.reduceBEq, Nat.reduceLT]
        repeat' (first | with_reducible apply And.intro | with_reducible intro _ | (refine brB_split (fun hb => ?_) (fun hb => ?_) <;> simp -implicitDefEqProofs only [hb, go_sem, k79, m79, c79_eq, ap_enc, ap_dec, AFn0_dec, AFn0_enc, AF1_d1, AF1_d2, AF1_e1, AF1_e2, Bool.not_true, Bool.not_false, Nat.reduceAdd, Nat.reduceMul, Nat.reduceLeDiff, Nat.reduceEqDiff, reduceCtorEq, Nat.reduceSub, Int.reduceNeg, Nat.reduceMod, Nat.reduceBEq, Nat.reduceLT] <;> try simp only [bOf_t, bOf_f, decide_eq_true_eq, decide_eq_false_iff_not, Bool.not_eq_true', Bool.not_eq_false', Bool.not_eq_true, Bool.not_eq_false, Decidable.not_not] at hb) | (refine aPickB_split (fun hb => ?_) (fun hb => ?_) <;> simp -implicitDefEqProofs only [hb, go_sem, k79, m79, c79_eq, ap_enc, ap_dec, AFn0_dec, AFn0_enc, AF1_d1, AF1_d2, AF1_e1, AF1_e2, Bool.not_true, Bool.not_false, Nat.reduceAdd, Nat.reduceMul, Nat.reduceLeDiff, Nat.reduceEqDiff, reduceCtorEq, Nat.reduceSub, Int.reduceNeg, Nat.reduceMod, Nat.reduceBEq, Nat.reduceLT] <;> try simp only [bOf_t, bOf_f, decide_eq_true_eq, decide_eq_false_iff_not, Bool.not_eq_true', Bool.not_eq_false', Bool.not_eq_true, Bool.not_eq_false, Decidable.not_not] at hb) | (refine gB_split (fun hb => ?_) (fun hb => ?_) <;> simp -implicitDefEqProofs only [hb, go_sem, k79, m79, c79_eq, ap_enc, ap_dec, AFn0_dec, AFn0_enc, AF1_d1, AF1_d2, AF1_e1, AF1_e2, Bool.not_true, Bool.not_false, Nat.reduceAdd, Nat.reduceMul, Nat.reduceLeDiff, Nat.reduceEqDiff, reduceCtorEq, Nat.reduceSub, Int.reduceNeg, Nat.reduceMod, Nat.reduceBEq, Nat.reduceLT] <;> try simp only [bOf_t, bOf_f, decide_eq_true_eq, decide_eq_false_iff_not, Bool.not_eq_true', Bool.not_eq_false', Bool.not_eq_true, Bool.not_eq_false, Decidable.not_not] at hb))
        all_goals first | rfl | omega | skip
        all_goals (rw [hix, ixP_end (by omega)])

def c83 : Ct := ctR (lc EAd.asl (lc (AFn0 79) l0)) (fun p => ∀ a ∈ p.1, a.domain.size ≤ 2000000) (fun p => .t (.v (.bool (bOf (∃ a ∈ p.1, ¬ AdOk a)))))
theorem c83_eq {args : List AV} {K : AV → Prop} : c83 args K = K0 (fun p => ∀ a ∈ p.1, a.domain.size ≤ 2000000) (fun p => .t (.v (.bool (bOf (∃ a ∈ p.1, ¬ AdOk a))))) K ((lc EAd.asl (lc (AFn0 79) l0)).dec args) := rfl
theorem good83 {G : Gt} (hG : GOk Tryz.prog G ∧ GDet G) (h113 : G.e 113 = roEnt 0 c113) : Good Tryz.prog G.m 83 (roEnt 0 c83) := by
  refine good_run (dp := fun _ => true) (fn := Tryz.f83) (n := 2) (fun _ => rfl) (by kernel_rfl) rfl (by kernel_rfl) hmix hG (Nat.le_of_ble_eq_true rfl) (by kernel_rfl) (by decide) (fun _ _ => .v _) ?_
  have k113 : (G.e 113).kd = 0 := by rw [h113]; rfl
  have m113 : (G.e 113).ro = c113 := by rw [h113]; rfl
  rintro ⟨xs, f, ⟨⟩⟩ hpre
  simp -implicitDefEqProofs only [Tryz.f83, go_sem, k113, m113, c113_eq, ap_enc, ap_dec, AFn0_dec, AFn0_enc, AF1_d1, AF1_d2, AF1_e1, AF1_e2, Bool.not_true, Bool.not_false, Nat.reduceAdd, Nat.reduceMul, Nat.reduceLeDiff, Nat.reduceEqDiff, reduceCtorEq, Nat.reduceSub, Int.reduceNeg, Nat.reduceMod, Nat.reduceBEq, Nat.reduceLT] at hpre ⊢

  repeat' (first | with_reducible apply And.intro | with_reducible intro _ | (refine brB_split (fun hb => ?_) (fun hb => ?_) <;> simp -implicitDefEqProofs only [hb, go_sem, k113, m113, c113_eq, ap_enc, ap_dec, AFn0_dec, AFn0_enc, AF1_d1, AF1_d2, AF1_e1, AF1_e2, Bool.not_true, Bool.not_false, Nat.reduceAdd, Nat.reduceMul, Nat.reduceLeDiff, Nat.reduceEqDiff, reduceCtorEq, Nat.reduceSub, Int.reduceNeg, Nat.reduceMod, Nat.reduceBEq, Nat.reduceLT] <;> try simp only [bOf_t, bOf_f, decide_eq_true_eq, decide_eq_false_iff_not, Bool.not_eq_true', Bool.not_eq_false', Bool.not_eq_true, Bool.not_eq_false, Decidable.not_not] at hb) | (refine aPickB_split (fun hb => ?_) (fun hb => ?_) <;> simp -implicitDefEqProofs only [hb, go_sem, k113, m113, c113_eq, ap_enc, ap_dec, AFn0_dec, AFn0_enc, AF1_d1, AF1_d2, AF1_e1, AF1_e2, Bool.not_true, Bool.not_false, Nat.reduceAdd, Nat.reduceMul, Nat.reduceLeDiff, Nat.reduceEqDiff, reduceCtorEq, Nat.reduceSub, Int.reduceNeg, Nat.reduceMod, Nat.reduceBEq, Nat.reduceLT] <;> try simp only [bOf_t, bOf_f, decide_eq_true_eq, decide_eq_false_iff_not, Bool.not_eq_true', Bool.not_eq_false', Bool.not_eq_true, Bool.not_eq_false, Decidable.not_not] at hb) | (refine gB_split (fun hb => ?_) (fun hb => ?_) <;> simp -implicitDefEqProofs only [hb, go_sem, k113, m113, c113_eq, ap_enc, ap_dec, AFn0_dec, AFn0_enc, AF1_d1, AF1_d2, AF1_e1, AF1_e2, Bool.not_true, Bool.not_false, Nat.reduceAdd, Nat.reduceMul, Nat.reduceLeDiff, Nat.reduceEqDiff, reduceCtorEq, Nat.reduceSub, Int.reduceNeg, Nat.reduceMod, Nat.reduceBEq, Nat.reduceLT] <;> try simp only [bOf_t, bOf_f, decide_eq_true_eq, decide_eq_false_iff_not, Bool.not_eq_true', Bool.not_eq_false', Bool.not_eq_true, Bool.not_eq_false, Decidable.not_not] at hb))
  all_goals first | rfl | omega | exact hpre | exact hpre _ (by assumption) | skip
  all_goals (rw [← bOf_congr (ixP_iff _ 0)]; rw [bOf_d])

def c85 : Ct := ctR (lc EStr.asl l0) (fun p => ∀ s ∈ p.1, s.size ≤ 2000000) (fun p => .t (.v (.bool (bOf (BdOk p.1)))))
theorem c85_eq {args : List AV} {K : AV → Prop} : c85 args K = K0 (fun p => ∀ s ∈ p.1, s.size ≤ 2000000) (fun p => .t (.v (.bool (bOf (BdOk p.1))))) K ((lc EStr.asl l0).dec args) := rfl
theorem good85 {G : Gt} (hG : GOk Tryz.prog G ∧ GDet G) (h114 : G.e 114 = roEnt 0 c114) : Good Tryz.prog G.m 85 (roEnt 0 c85) := by
  refine good_run (dp := fun _ => true) (fn := Tryz.f85) (n := 1) (fun _ => rfl) (by kernel_rfl) rfl (by kernel_rfl) hmix hG (Nat.le_of_ble_eq_true rfl) (by kernel_rfl) (by decide) (fun _ _ => .v _) ?_
  have k114 : (G.e 114).kd = 0 := by rw [h114]; rfl
  have m114 : (G.e 114).ro = c114 := by rw [h114]; rfl
  rintro ⟨xs, ⟨⟩⟩ hpre
  simp -implicitDefEqProofs only [Tryz.f85, go_sem, k114, m114, c114_eq, ap_enc, ap_dec, AFn0_dec, AFn0_enc, AF1_d1, AF1_d2, AF1_e1, AF1_e2, Bool.not_true, Bool.not_false, Nat.reduceAdd, Nat.reduceMul, Nat.reduceLeDiff, Nat.reduceEqDiff, reduceCtorEq, Nat.reduceSub, Int.reduceNeg, Nat.reduceMod, Nat.reduceBEq, Nat.reduceLT] at hpre ⊢

  repeat' (first | with_reducible apply And.intro | with_reducible intro _ | (refine brB_split (fun hb => ?_) (fun hb => ?_) <;> simp -implicitDefEqProofs only [hb, go_sem, k114, m114, c114_eq, ap_enc, ap_dec, AFn0_dec, AFn0_enc, AF1_d1, AF1_d2, AF1_e1, AF1_e2, Bool.not_true, Bool.not_false, Nat.reduceAdd, Nat.reduceMul, Nat.reduceLeDiff, Nat.reduceEqDiff, reduceCtorEq, Nat.reduceSub, Int.reduceNeg, Nat.reduceMod, Nat.reduceBEq, Nat.reduceLT] <;> try simp only [bOf_t, bOf_f, decide_eq_true_eq, decide_eq_false_iff_not, Bool.not_eq_true', Bool.not_eq_false', Bool.not_eq_true, Bool.not_eq_false, Decidable.not_not] at hb) | (refine aPickB_split (fun hb => ?_) (fun hb => ?_) <;> simp -implicitDefEqProofs only [hb, go_sem, k114, m114, c114_eq, ap_enc, ap_dec, AFn0_dec, AFn0_enc, AF1_d1, AF1_d2, AF1_e1, AF1_e2, Bool.not_true, Bool.not_false, Nat.reduceAdd, Nat.reduceMul, Nat.reduceLeDiff, Nat.reduceEqDiff, reduceCtorEq, Nat.reduceSub, Int.reduceNeg, Nat.reduceMod, Nat.reduceBEq, Nat.reduceLT] <;> try simp only [bOf_t, bOf_f, decide_eq_true_eq, decide_eq_false_iff_not, Bool.not_eq_true', Bool.not_eq_false', Bool.not_eq_true, Bool.not_eq_false, Decidable.not_not] at hb) | (refine gB_split (fun hb => ?_) (fun hb => ?_) <;> simp -implicitDefEqProofs only [hb, go_sem, k114, m114, c114_eq, ap_enc, ap_dec, AFn0_dec, AFn0_enc, AF1_d1, AF1_d2, AF1_e1, AF1_e2, Bool.not_true, Bool.not_false, Nat.reduceAdd, Nat.reduceMul, Nat.reduceLeDiff, Nat.reduceEqDiff, reduceCtorEq, Nat.reduceSub, Int.reduceNeg, Nat.reduceMod, Nat.reduceBEq, Nat.reduceLT] <;> try simp only [bOf_t, bOf_f, decide_eq_true_eq, decide_eq_false_iff_not, Bool.not_eq_true', Bool.not_eq_false', Bool.not_eq_true, Bool.not_eq_false, Decidable.not_not] at hb))
  all_goals first | rfl | omega | exact hpre | exact hpre _ (by assumption) | exact trivial | skip
  · rw [bOf_not]
    refine congrArg (fun b => T.v (.bool b)) (bOf_congr ?_)
    constructor
    · intro h
      exact ⟨fun s hs => Classical.byContradiction fun q => h ⟨s, hs, q⟩, by omega⟩
    · rintro h ⟨s, hs, q⟩
      exact q (h.1 s hs)
  · rw [bOf_n (fun h => by have := h.2; omega)]

theorem K31 : Maps.Keyed Tryz.prog 31 := Maps.Keyed.of_law (deep_law_laid (m := 5) (by kernel_rfl) (by decide) (Nat.lt_of_lt_of_le (Nat.lt_succ_self 31) (Nat.le_of_ble_eq_true (by kernel_rfl))) (by kernel_rfl) (by kernel_rfl))
noncomputable def fs31 : Array Field := match Tryz.prog.underlying 31 with | some (.struct fs) => fs | _ => #[]
theorem u31 : Tryz.prog.underlying 31 = some (.struct fs31) := by kernel_rfl
theorem u9 : Tryz.prog.underlying 9 = some .string := by kernel_rfl
theorem u3 : Tryz.prog.underlying 3 = some (.int .i64) := by kernel_rfl
theorem fs31_l : (fs31.toList.map fun f => (f.type, f.offset)) = [(9, 0), (9, 1)] := by kernel_rfl
theorem fs31_n : fs31.all (·.name != "_") = true := by kernel_rfl
theorem co9 : Tryz.prog.cellsOf 9 = 1 := by kernel_rfl
theorem co31 : Tryz.prog.cellsOf 31 = 2 := by kernel_rfl
theorem kt31 : Tryz.prog.keyType 31 = true := by kernel_rfl
theorem ts31 : ∃ n, Tryz.prog.types.size + 1 = n + 2 := ⟨Tryz.prog.types.size - 1, by
  have : 31 < Tryz.prog.types.size := Nat.lt_of_lt_of_le (Nat.lt_succ_self 31) (Nat.le_of_ble_eq_true (by kernel_rfl))
  omega⟩
theorem kl9 (d : Nat) {s : ByteArray} (h : s.size ≤ maxLen) : Tryz.prog.keyLits (d + 1) 9 [.string s] = some [.string s.data.toList] := by
  simp only [Program.keyLits, u9, if_pos h]
theorem key31 {k : MK} (h : k.ok (some 2)) : ∃ l, keyOf Tryz.prog 31 k.val = some l := by
  cases k with
  | i n => exact h.elim
  | ss l =>
    obtain ⟨h1, h2⟩ := h
    obtain ⟨u, d, rfl⟩ : ∃ u d, l = [u, d] := by
      rcases l with _ | ⟨u, _ | ⟨d, _ | ⟨z, t⟩⟩⟩
      · cases h1
      · cases h1
      · exact ⟨u, d, rfl⟩
      · simp at h1
    obtain ⟨n, hn⟩ := ts31
    have hl : fs31.toList.map (fun f => (f.type, f.offset)) = [(9, 0), (9, 1)] := fs31_l
    rcases hf : fs31.toList with _ | ⟨f, _ | ⟨g, _ | ⟨z, t⟩⟩⟩
    · rw [hf] at hl; cases hl
    · rw [hf] at hl; simp at hl
    · rw [hf] at hl
      · simp only [List.map_cons, List.map_nil, List.cons.injEq, Prod.mk.injEq, and_true] at hl
        obtain ⟨⟨a1, a2⟩, b1, b2⟩ := hl
        refine ⟨.string (keyBytes [.string u.data.toList, .string d.data.toList]), ?_⟩
        have hform : (MK.val (.ss [u, d])).formed Tryz.prog 31 = true := by
          simp only [Value.formed, MK.val, u31, co31]
          rfl
        unfold keyOf
        rw [u31]
        show (if (Tryz.prog.keyType 31 && (MK.val (.ss [u, d])).formed Tryz.prog 31) = true then _ else none) = _
        rw [kt31, hform]
        refine (if_pos rfl).trans ?_
        rw [hn]
        have : Tryz.prog.keyLits (n + 2) 31 (MK.val (.ss [u, d])).cells.toList = some [.string u.data.toList, .string d.data.toList] := by
          show Tryz.prog.keyLits (n + 2) 31 [.string u, .string d] = _
          have e1 : [Value.string u, Value.string d].length = Tryz.prog.cellsOf 31 ∧ fs31.all (·.name != "_") = true := ⟨by rw [co31]; rfl, fs31_n⟩
          rw [Program.keyLits.eq_def]
          simp only [u31]
          refine (if_pos e1).trans ?_
          rw [hf]
          simp only [List.mapM_cons, List.mapM_nil, a1, a2, b1, b2, co9, List.drop_zero, List.take_succ_cons, List.take_zero, List.drop_succ_cons, kl9 n (h2 u (by simp)), kl9 n (h2 d (by simp))]
          rfl
        rw [this]; rfl
    · rw [hf] at hl
      simp only [List.map_cons, List.cons.injEq] at hl
      exact absurd hl.2.2 (by simp)
theorem kd31 : KeyD Tryz.prog 31 (some 2) := KeyD.ss K31 key31
theorem kd3 : KeyD Tryz.prog 3 none := KeyD.int u3

def mkA (a : Ad) : MK := .ss [a.user, a.domain]
theorem mkA_inj {a b : Ad} (h : mkA a = mkA b) : a = b := by
  cases a; cases b
  simp only [mkA, MK.ss.injEq, List.cons.injEq, and_true] at h
  rw [h.1, h.2]
def dis (xs : List Ad) : List (MK × Bool) := xs.foldl (fun es a => upE (mkA a) true es) []
theorem dis_snoc (xs : List Ad) (a : Ad) : dis (xs ++ [a]) = upE (mkA a) true (dis xs) := by simp [dis]
theorem upE_keys {k : MK} {b : Bool} : ∀ {es : List (MK × Bool)}, (upE k b es).map Prod.fst = if k ∈ es.map Prod.fst then es.map Prod.fst else es.map Prod.fst ++ [k]
  | [] => by simp [upE]
  | p :: r => by
    rw [upE]
    by_cases h : p.1 = k
    · simp [h]
    · have hk : ¬ k = p.1 := fun e => h e.symm
      rw [if_neg h, List.map_cons, upE_keys]
      by_cases h2 : k ∈ r.map Prod.fst
      · rw [if_pos h2, if_pos (by simp only [List.map_cons, List.mem_cons]; exact .inr h2)]; rfl
      · rw [if_neg h2, if_neg (by simp only [List.map_cons, List.mem_cons]; exact fun e => e.elim hk h2)]; rfl
theorem dis_mem (xs : List Ad) (a : Ad) : mkA a ∈ (dis xs).map Prod.fst ↔ a ∈ xs := by
  generalize hr : xs.reverse = r
  have hx : xs = r.reverse := by rw [← hr, List.reverse_reverse]
  subst hx
  clear hr
  induction r with
  | nil => simp [dis]
  | cons b r ih =>
    rw [List.reverse_cons, dis_snoc, upE_keys, List.mem_append, ← propext ih]
    by_cases h : mkA b ∈ (dis r.reverse).map Prod.fst
    · rw [if_pos h]
      constructor
      · exact .inl
      · rintro (h1 | h1)
        · exact h1
        · rw [List.mem_singleton.1 h1]; exact h
    · rw [if_neg h, List.mem_append, List.mem_singleton, List.mem_singleton]
      exact or_congr_right ⟨mkA_inj, fun e => by rw [e]⟩
theorem dis_len (xs : List Ad) : (dis xs).length ≤ xs.length ∧ ((dis xs).length = xs.length ↔ xs.Nodup) := by
  generalize hr : xs.reverse = r
  have hx : xs = r.reverse := by rw [← hr, List.reverse_reverse]
  subst hx
  clear hr
  induction r with
  | nil => simp [dis]
  | cons b r ih =>
    have hl : ∀ es : List (MK × Bool), es.length = (es.map Prod.fst).length := fun es => by rw [List.length_map]
    have hn : (r.reverse ++ [b]).Nodup ↔ r.reverse.Nodup ∧ b ∉ r.reverse := by
      rw [List.nodup_append]
      constructor
      · rintro ⟨h1, _, h3⟩
        exact ⟨h1, fun hb => h3 b hb b (by simp) rfl⟩
      · rintro ⟨h1, h2⟩
        refine ⟨h1, by simp, fun x hx y hy e => ?_⟩
        rw [List.mem_singleton] at hy
        subst hy; subst e; exact h2 hx
    rw [List.reverse_cons, dis_snoc, hl, upE_keys, List.length_append, hn, ← dis_mem]
    obtain ⟨i1, i2⟩ := ih
    by_cases h : mkA b ∈ (dis r.reverse).map Prod.fst
    · rw [if_pos h, ← hl]
      refine ⟨by omega, ⟨fun e => ?_, fun e => absurd h e.2⟩⟩
      simp at e i1; omega
    · rw [if_neg h, List.length_append, ← hl]
      refine ⟨by simp at *; omega, ⟨fun e => ⟨i2.1 (by simp at *; omega), h⟩, fun e => ?_⟩⟩
      have := i2.2 e.1
      simp at *; omega
section
variable {r : Ru} {f : Ad} {b : List ByteArray}
theorem asks1 (h : r.ask = 1) : Asks r f b ↔ ¬ AdNull f ∧ Ends f.domain r.text :=
  ⟨fun q => q.1 h, fun q => ⟨fun _ => q, fun e => by omega, fun e => by omega⟩⟩
theorem asks2 (h : r.ask = 2) : Asks r f b ↔ ∃ s ∈ b, Has s r.text :=
  ⟨fun q => q.2.1 h, fun q => ⟨fun e => by omega, fun _ => q, fun e => by omega⟩⟩
theorem asks3 (h : r.ask = 3) : Asks r f b ↔ AdNull f :=
  ⟨fun q => q.2.2 h, fun q => ⟨fun e => by omega, fun e => by omega, fun _ => q⟩⟩
theorem asks4 (h1 : ¬ r.ask = 1) (h2 : ¬ r.ask = 2) (h3 : ¬ r.ask = 3) : Asks r f b :=
  ⟨fun e => absurd e h1, fun e => absurd e h2, fun e => absurd e h3⟩
end
theorem take_succ' {xs : List Ad} {i : Nat} (h : i < xs.length) : xs.take (i + 1) = xs.take i ++ [xs.getD i default] := by
  rw [List.take_succ_eq_append_getElem h]
  simp [h]
theorem dis_take {xs : List Ad} {i : Nat} (h : i < xs.length) : upE (.ss [(xs.getD i default).user, (xs.getD i default).domain]) true (dis (xs.take i)) = dis (xs.take (i + 1)) := by
  rw [take_succ' h, dis_snoc]; rfl
def c84 : Ct := ctR (lc EAd.asl l0) (fun p => True) (fun p => .t (.v (.bool (bOf p.1.Nodup))))
theorem c84_eq {args : List AV} {K : AV → Prop} : c84 args K = K0 (fun p => True) (fun p => .t (.v (.bool (bOf p.1.Nodup)))) K ((lc EAd.asl l0).dec args) := rfl
theorem good84 {G : Gt} (hG : GOk Tryz.prog G ∧ GDet G) : Good Tryz.prog G.m 84 (roEnt 0 c84) := by
  refine good_run (dp := fun _ => true) (fn := Tryz.f84) (n := 1) (fun _ => rfl) (by kernel_rfl) rfl (by kernel_rfl) hmix hG (Nat.le_of_ble_eq_true rfl) (by kernel_rfl) (by decide) (fun _ _ => .v _) ?_
  rintro ⟨xs, ⟨⟩⟩ hpre
  simp -implicitDefEqProofs only [Tryz.f84, go_sem, ap_enc, ap_dec, AFn0_dec, AFn0_enc, AF1_d1, AF1_d2, AF1_e1, AF1_e2, Bool.not_true, Bool.not_false, ty136, lv31, Nat.reduceAdd, Nat.reduceMul, Nat.reduceLeDiff, Nat.reduceEqDiff, reduceCtorEq, Nat.reduceSub, Int.reduceNeg, Nat.reduceMod, Nat.reduceBEq, Nat.reduceLT] at hpre ⊢

  repeat' (first | with_reducible apply And.intro | with_reducible intro _ | (refine brB_split (fun hb => ?_) (fun hb => ?_) <;> simp -implicitDefEqProofs only [hb, go_sem, ap_enc, ap_dec, AFn0_dec, AFn0_enc, AF1_d1, AF1_d2, AF1_e1, AF1_e2, Bool.not_true, Bool.not_false, ty136, lv31, Nat.reduceAdd, Nat.reduceMul, Nat.reduceLeDiff, Nat.reduceEqDiff, reduceCtorEq, Nat.reduceSub, Int.reduceNeg, Nat.reduceMod, Nat.reduceBEq, Nat.reduceLT] <;> try simp only [bOf_t, bOf_f, decide_eq_true_eq, decide_eq_false_iff_not, Bool.not_eq_true', Bool.not_eq_false', Bool.not_eq_true, Bool.not_eq_false, Decidable.not_not] at hb) | (refine aPickB_split (fun hb => ?_) (fun hb => ?_) <;> simp -implicitDefEqProofs only [hb, go_sem, ap_enc, ap_dec, AFn0_dec, AFn0_enc, AF1_d1, AF1_d2, AF1_e1, AF1_e2, Bool.not_true, Bool.not_false, ty136, lv31, Nat.reduceAdd, Nat.reduceMul, Nat.reduceLeDiff, Nat.reduceEqDiff, reduceCtorEq, Nat.reduceSub, Int.reduceNeg, Nat.reduceMod, Nat.reduceBEq, Nat.reduceLT] <;> try simp only [bOf_t, bOf_f, decide_eq_true_eq, decide_eq_false_iff_not, Bool.not_eq_true', Bool.not_eq_false', Bool.not_eq_true, Bool.not_eq_false, Decidable.not_not] at hb) | (refine gB_split (fun hb => ?_) (fun hb => ?_) <;> simp -implicitDefEqProofs only [hb, go_sem, ap_enc, ap_dec, AFn0_dec, AFn0_enc, AF1_d1, AF1_d2, AF1_e1, AF1_e2, Bool.not_true, Bool.not_false, ty136, lv31, Nat.reduceAdd, Nat.reduceMul, Nat.reduceLeDiff, Nat.reduceEqDiff, reduceCtorEq, Nat.reduceSub, Int.reduceNeg, Nat.reduceMod, Nat.reduceBEq, Nat.reduceLT] <;> try simp only [bOf_t, bOf_f, decide_eq_true_eq, decide_eq_false_iff_not, Bool.not_eq_true', Bool.not_eq_false', Bool.not_eq_true, Bool.not_eq_false, Decidable.not_not] at hb))
  all_goals first | rfl | omega | skip
  refine run_loop [] (ι := {i : Nat // i ≤ xs.length}) (fun p => ⟨[(0, .t (.sl (xs.map encAd))), (3, .h 1006), (7, .t (.sl (xs.map encAd))), (8, .t (.v (.int .i64 xs.length))), (9, .t (.v (.int .i64 p.1)))], [(1006, some (.mp (some 2) (dis (xs.take p.1))))]⟩) (fun p => xs.length - p.1) ⟨0, Nat.zero_le _⟩ rfl ?_ ?_
  · simp -implicitDefEqProofs only [go_sem, ap_enc, ap_dec, AFn0_dec, AFn0_enc, AF1_d1, AF1_d2, AF1_e1, AF1_e2, Bool.not_true, Bool.not_false, ty136, lv31, Nat.reduceAdd, Nat.reduceMul, Nat.reduceLeDiff, Nat.reduceEqDiff, reduceCtorEq, Nat.reduceSub, Int.reduceNeg, Nat.reduceMod, Nat.reduceBEq, Nat.reduceLT]
    simp
    rfl
  · rintro ⟨i, hi⟩
    by_cases hlt : (i : Int) < xs.length
    · simp -implicitDefEqProofs only [hlt, go_sem, ap_enc, ap_dec, AFn0_dec, AFn0_enc, AF1_d1, AF1_d2, AF1_e1, AF1_e2, Bool.not_true, Bool.not_false, ty136, lv31, Nat.reduceAdd, Nat.reduceMul, Nat.reduceLeDiff, Nat.reduceEqDiff, reduceCtorEq, Nat.reduceSub, Int.reduceNeg, Nat.reduceMod, Nat.reduceBEq, Nat.reduceLT]
      repeat' (first | with_reducible apply And.intro | with_reducible intro _ | (refine brB_split (fun hb => ?_) (fun hb => ?_) <;> simp -implicitDefEqProofs only [hb, go_sem, ap_enc, ap_dec, AFn0_dec, AFn0_enc, AF1_d1, AF1_d2, AF1_e1, AF1_e2, Bool.not_true, Bool.not_false, ty136, lv31, Nat.reduceAdd, Nat.reduceMul, Nat.reduceLeDiff, Nat.reduceEqDiff, reduceCtorEq, Nat.reduceSub, Int.reduceNeg, Nat.reduceMod, Nat.reduceBEq, Nat.reduceLT] <;> try simp only [bOf_t, bOf_f, decide_eq_true_eq, decide_eq_false_iff_not, Bool.not_eq_true', Bool.not_eq_false', Bool.not_eq_true, Bool.not_eq_false, Decidable.not_not] at hb) | (refine aPickB_split (fun hb => ?_) (fun hb => ?_) <;> simp -implicitDefEqProofs only [hb, go_sem, ap_enc, ap_dec, AFn0_dec, AFn0_enc, AF1_d1, AF1_d2, AF1_e1, AF1_e2, Bool.not_true, Bool.not_false, ty136, lv31, Nat.reduceAdd, Nat.reduceMul, Nat.reduceLeDiff, Nat.reduceEqDiff, reduceCtorEq, Nat.reduceSub, Int.reduceNeg, Nat.reduceMod, Nat.reduceBEq, Nat.reduceLT] <;> try simp only [bOf_t, bOf_f, decide_eq_true_eq, decide_eq_false_iff_not, Bool.not_eq_true', Bool.not_eq_false', Bool.not_eq_true, Bool.not_eq_false, Decidable.not_not] at hb) | (refine gB_split (fun hb => ?_) (fun hb => ?_) <;> simp -implicitDefEqProofs only [hb, go_sem, ap_enc, ap_dec, AFn0_dec, AFn0_enc, AF1_d1, AF1_d2, AF1_e1, AF1_e2, Bool.not_true, Bool.not_false, ty136, lv31, Nat.reduceAdd, Nat.reduceMul, Nat.reduceLeDiff, Nat.reduceEqDiff, reduceCtorEq, Nat.reduceSub, Int.reduceNeg, Nat.reduceMod, Nat.reduceBEq, Nat.reduceLT] <;> try simp only [bOf_t, bOf_f, decide_eq_true_eq, decide_eq_false_iff_not, Bool.not_eq_true', Bool.not_eq_false', Bool.not_eq_true, Bool.not_eq_false, Decidable.not_not] at hb))
      all_goals (try simp only [maxLen] at *)
      all_goals first | rfl | omega | exact kd31 | skip
      refine ⟨⟨i + 1, by omega⟩, by dsimp only; omega, ?_⟩
      simp -implicitDefEqProofs only [go_sem, ap_enc, ap_dec, AFn0_dec, AFn0_enc, AF1_d1, AF1_d2, AF1_e1, AF1_e2, Bool.not_true, Bool.not_false, ty136, lv31, Nat.reduceAdd, Nat.reduceMul, Nat.reduceLeDiff, Nat.reduceEqDiff, reduceCtorEq, Nat.reduceSub, Int.reduceNeg, Nat.reduceMod, Nat.reduceBEq, Nat.reduceLT]
      simp only [Int.toNat_natCast, dis_take (show i < xs.length by omega)]
      try simp
    · simp -implicitDefEqProofs only [hlt, go_sem, ap_enc, ap_dec, AFn0_dec, AFn0_enc, AF1_d1, AF1_d2, AF1_e1, AF1_e2, Bool.not_true, Bool.not_false, ty136, lv31, Nat.reduceAdd, Nat.reduceMul, Nat.reduceLeDiff, Nat.reduceEqDiff, reduceCtorEq, Nat.reduceSub, Int.reduceNeg, Nat.reduceMod, Nat.reduceBEq, Nat.reduceLT]
      repeat' (first | with_reducible apply And.intro | with_reducible intro _ | (refine brB_split (fun hb => ?_) (fun hb => ?_) <;> simp -implicitDefEqProofs only [hb, go_sem, ap_enc, ap_dec, AFn0_dec, AFn0_enc, AF1_d1, AF1_d2, AF1_e1, AF1_e2, Bool.not_true, Bool.not_false, ty136, lv31, Nat.reduceAdd, Nat.reduceMul, Nat.reduceLeDiff, Nat.reduceEqDiff, reduceCtorEq, Nat.reduceSub, Int.reduceNeg, Nat.reduceMod, Nat.reduceBEq, Nat.reduceLT] <;> try simp only [bOf_t, bOf_f, decide_eq_true_eq, decide_eq_false_iff_not, Bool.not_eq_true', Bool.not_eq_false', Bool.not_eq_true, Bool.not_eq_false, Decidable.not_not] at hb) | (refine aPickB_split (fun hb => ?_) (fun hb => ?_) <;> simp -implicitDefEqProofs only [hb, go_sem, ap_enc, ap_dec, AFn0_dec, AFn0_enc, AF1_d1, AF1_d2, AF1_e1, AF1_e2, Bool.not_true, Bool.not_false, ty136, lv31, Nat.reduceAdd, Nat.reduceMul, Nat.reduceLeDiff, Nat.reduceEqDiff, reduceCtorEq, Nat.reduceSub, Int.reduceNeg, Nat.reduceMod, Nat.reduceBEq, Nat.reduceLT] <;> try simp only [bOf_t, bOf_f, decide_eq_true_eq, decide_eq_false_iff_not, Bool.not_eq_true', Bool.not_eq_false', Bool.not_eq_true, Bool.not_eq_false, Decidable.not_not] at hb) | (refine gB_split (fun hb => ?_) (fun hb => ?_) <;> simp -implicitDefEqProofs only [hb, go_sem, ap_enc, ap_dec, AFn0_dec, AFn0_enc, AF1_d1, AF1_d2, AF1_e1, AF1_e2, Bool.not_true, Bool.not_false, ty136, lv31, Nat.reduceAdd, Nat.reduceMul, Nat.reduceLeDiff, Nat.reduceEqDiff, reduceCtorEq, Nat.reduceSub, Int.reduceNeg, Nat.reduceMod, Nat.reduceBEq, Nat.reduceLT] <;> try simp only [bOf_t, bOf_f, decide_eq_true_eq, decide_eq_false_iff_not, Bool.not_eq_true', Bool.not_eq_false', Bool.not_eq_true, Bool.not_eq_false, Decidable.not_not] at hb))
      all_goals first | rfl | omega | skip
      rw [List.take_of_length_le (by omega), ← bOf_congr (dis_len xs).2, bOf_d]
      refine congrArg (fun b => T.v (.bool b)) (decide_eq_decide.2 ?_)
      omega

def c39 : Ct := ctR (lc EMl.ag l0) (fun p => (∀ a ∈ p.1.to, a.domain.size ≤ 2000000) ∧ p.1.frm.domain.size ≤ 2000000 ∧ ∀ s ∈ p.1.body, s.size ≤ 2000000) (fun p => .t (.v (.bool (bOf (MlOk p.1)))))
theorem c39_eq {args : List AV} {K : AV → Prop} : c39 args K = K0 (fun p => (∀ a ∈ p.1.to, a.domain.size ≤ 2000000) ∧ p.1.frm.domain.size ≤ 2000000 ∧ ∀ s ∈ p.1.body, s.size ≤ 2000000) (fun p => .t (.v (.bool (bOf (MlOk p.1))))) K ((lc EMl.ag l0).dec args) := rfl
set_option maxHeartbeats 800000 in
theorem good39 {G : Gt} (hG : GOk Tryz.prog G ∧ GDet G) (h81 : G.e 81 = roEnt 0 c81) (h82 : G.e 82 = roEnt 0 c82) (h83 : G.e 83 = roEnt 0 c83) (h84 : G.e 84 = roEnt 0 c84) (h85 : G.e 85 = roEnt 0 c85) : Good Tryz.prog G.m 39 (roEnt 0 c39) := by
  refine good_run (dp := fun _ => true) (fn := Tryz.f39) (n := 1) (fun _ => rfl) (by kernel_rfl) rfl (by kernel_rfl) hmix hG (Nat.le_of_ble_eq_true rfl) (by kernel_rfl) (by decide) (fun _ _ => .v _) ?_
  have k81 : (G.e 81).kd = 0 := by rw [h81]; rfl
  have m81 : (G.e 81).ro = c81 := by rw [h81]; rfl
  have k82 : (G.e 82).kd = 0 := by rw [h82]; rfl
  have m82 : (G.e 82).ro = c82 := by rw [h82]; rfl
  have k83 : (G.e 83).kd = 0 := by rw [h83]; rfl
  have m83 : (G.e 83).ro = c83 := by rw [h83]; rfl
  have k84 : (G.e 84).kd = 0 := by rw [h84]; rfl
  have m84 : (G.e 84).ro = c84 := by rw [h84]; rfl
  have k85 : (G.e 85).kd = 0 := by rw [h85]; rfl
  have m85 : (G.e 85).ro = c85 := by rw [h85]; rfl
  rintro ⟨m, ⟨⟩⟩ hpre
  simp -implicitDefEqProofs only [Tryz.f39, go_sem, k81, m81, c81_eq, k82, m82, c82_eq, k83, m83, c83_eq, k84, m84, c84_eq, k85, m85, c85_eq, ap_enc, ap_dec, AFn0_dec, AFn0_enc, AF1_d1, AF1_d2, AF1_e1, AF1_e2, Bool.not_true, Bool.not_false, ty136, lv31, bOf_t, bOf_f, Nat.reduceAdd, Nat.reduceMul, Nat.reduceLeDiff, Nat.reduceEqDiff, reduceCtorEq, Nat.reduceSub, Int.reduceNeg, Nat.reduceMod, Nat.reduceBEq, Nat.reduceLT] at hpre ⊢

  repeat' (first | with_reducible apply And.intro | with_reducible intro _ | (refine brB_split (fun hb => ?_) (fun hb => ?_) <;> simp -implicitDefEqProofs only [hb, go_sem, k81, m81, c81_eq, k82, m82, c82_eq, k83, m83, c83_eq, k84, m84, c84_eq, k85, m85, c85_eq, ap_enc, ap_dec, AFn0_dec, AFn0_enc, AF1_d1, AF1_d2, AF1_e1, AF1_e2, Bool.not_true, Bool.not_false, ty136, lv31, bOf_t, bOf_f, Nat.reduceAdd, Nat.reduceMul, Nat.reduceLeDiff, Nat.reduceEqDiff, reduceCtorEq, Nat.reduceSub, Int.reduceNeg, Nat.reduceMod, Nat.reduceBEq, Nat.reduceLT] <;> try simp only [bOf_t, bOf_f, decide_eq_true_eq, decide_eq_false_iff_not, Bool.not_eq_true', Bool.not_eq_false', Bool.not_eq_true, Bool.not_eq_false, Decidable.not_not] at hb) | (refine aPickB_split (fun hb => ?_) (fun hb => ?_) <;> simp -implicitDefEqProofs only [hb, go_sem, k81, m81, c81_eq, k82, m82, c82_eq, k83, m83, c83_eq, k84, m84, c84_eq, k85, m85, c85_eq, ap_enc, ap_dec, AFn0_dec, AFn0_enc, AF1_d1, AF1_d2, AF1_e1, AF1_e2, Bool.not_true, Bool.not_false, ty136, lv31, bOf_t, bOf_f, Nat.reduceAdd, Nat.reduceMul, Nat.reduceLeDiff, Nat.reduceEqDiff, reduceCtorEq, Nat.reduceSub, Int.reduceNeg, Nat.reduceMod, Nat.reduceBEq, Nat.reduceLT] <;> try simp only [bOf_t, bOf_f, decide_eq_true_eq, decide_eq_false_iff_not, Bool.not_eq_true', Bool.not_eq_false', Bool.not_eq_true, Bool.not_eq_false, Decidable.not_not] at hb) | (refine gB_split (fun hb => ?_) (fun hb => ?_) <;> simp -implicitDefEqProofs only [hb, go_sem, k81, m81, c81_eq, k82, m82, c82_eq, k83, m83, c83_eq, k84, m84, c84_eq, k85, m85, c85_eq, ap_enc, ap_dec, AFn0_dec, AFn0_enc, AF1_d1, AF1_d2, AF1_e1, AF1_e2, Bool.not_true, Bool.not_false, ty136, lv31, bOf_t, bOf_f, Nat.reduceAdd, Nat.reduceMul, Nat.reduceLeDiff, Nat.reduceEqDiff, reduceCtorEq, Nat.reduceSub, Int.reduceNeg, Nat.reduceMod, Nat.reduceBEq, Nat.reduceLT] <;> try simp only [bOf_t, bOf_f, decide_eq_true_eq, decide_eq_false_iff_not, Bool.not_eq_true', Bool.not_eq_false', Bool.not_eq_true, Bool.not_eq_false, Decidable.not_not] at hb))
  all_goals (try simp only [bOf_t, bOf_f, bOf_not, Decidable.not_not, Classical.not_not] at *)
  all_goals first | rfl | omega | exact hpre.1 | exact hpre.2.1 | exact hpre.2.2 | exact hpre.1 _ (by assumption) | exact hpre.2.2 _ (by assumption) | skip
  · refine congrArg (fun b => T.v (.bool b)) (bOf_congr ⟨fun h => ?_, fun h => h.2.2.2.2⟩)
    rename_i q1 q2 q3 q4
    exact ⟨fun a ha => Classical.byContradiction fun q => q4 ⟨a, ha, q⟩, hb, q1, by omega, h⟩
  · rw [bOf_n (fun h => absurd h.2.1 (by assumption))]
  · rw [bOf_n (fun h => by obtain ⟨a, ha, q⟩ := hb; exact q (h.1 a ha))]
  · rw [bOf_n (fun h => by have := h.2.2.2.1; omega)]
  · rw [bOf_n (fun h => absurd h.2.2.1 (by assumption))]

def c90 : Ct := ctR (lc ERu.ag (lc EMl.ag l0)) (fun p => RuOk p.1 ∧ MlOk p.2.1 ∧ p.2.1.frm.domain.size ≤ 2000000) (fun p => .t (.v (.bool (bOf (Asks p.1 p.2.1.frm p.2.1.body)))))
theorem c90_eq {args : List AV} {K : AV → Prop} : c90 args K = K0 (fun p => RuOk p.1 ∧ MlOk p.2.1 ∧ p.2.1.frm.domain.size ≤ 2000000) (fun p => .t (.v (.bool (bOf (Asks p.1 p.2.1.frm p.2.1.body))))) K ((lc ERu.ag (lc EMl.ag l0)).dec args) := rfl
set_option maxHeartbeats 800000 in
theorem good90 {G : Gt} (hG : GOk Tryz.prog G ∧ GDet G) (h111 : G.e 111 = roEnt 0 c111) (h116 : G.e 116 = roEnt 0 c116) (h114 : G.e 114 = roEnt 0 c114) : Good Tryz.prog G.m 90 (roEnt 0 c90) := by
  refine good_run (dp := fun _ => true) (fn := Tryz.f90) (n := 2) (fun _ => rfl) (by kernel_rfl) rfl (by kernel_rfl) hmix hG (Nat.le_of_ble_eq_true rfl) (by kernel_rfl) (by decide) (fun _ _ => .v _) ?_
  have k111 : (G.e 111).kd = 0 := by rw [h111]; rfl
  have m111 : (G.e 111).ro = c111 := by rw [h111]; rfl
  have k116 : (G.e 116).kd = 0 := by rw [h116]; rfl
  have m116 : (G.e 116).ro = c116 := by rw [h116]; rfl
  have k114 : (G.e 114).kd = 0 := by rw [h114]; rfl
  have m114 : (G.e 114).ro = c114 := by rw [h114]; rfl
  rintro ⟨r, m, ⟨⟩⟩ hpre
  simp -implicitDefEqProofs only [Tryz.f90, go_sem, k111, m111, c111_eq, k116, m116, c116_eq, k114, m114, c114_eq, ap_enc, ap_dec, AFn0_dec, AFn0_enc, AF1_d1, AF1_d2, AF1_e1, AF1_e2, Bool.not_true, Bool.not_false, ty136, lv31, bOf_t, bOf_f, Nat.reduceAdd, Nat.reduceMul, Nat.reduceLeDiff, Nat.reduceEqDiff, reduceCtorEq, Nat.reduceSub, Int.reduceNeg, Nat.reduceMod, Nat.reduceBEq, Nat.reduceLT] at hpre ⊢

  repeat' (first | with_reducible apply And.intro | with_reducible intro _ | (refine brB_split (fun hb => ?_) (fun hb => ?_) <;> simp -implicitDefEqProofs only [hb, go_sem, k111, m111, c111_eq, k116, m116, c116_eq, k114, m114, c114_eq, ap_enc, ap_dec, AFn0_dec, AFn0_enc, AF1_d1, AF1_d2, AF1_e1, AF1_e2, Bool.not_true, Bool.not_false, ty136, lv31, bOf_t, bOf_f, Nat.reduceAdd, Nat.reduceMul, Nat.reduceLeDiff, Nat.reduceEqDiff, reduceCtorEq, Nat.reduceSub, Int.reduceNeg, Nat.reduceMod, Nat.reduceBEq, Nat.reduceLT] <;> try simp only [bOf_t, bOf_f, decide_eq_true_eq, decide_eq_false_iff_not, Bool.not_eq_true', Bool.not_eq_false', Bool.not_eq_true, Bool.not_eq_false, Decidable.not_not] at hb) | (refine aPickB_split (fun hb => ?_) (fun hb => ?_) <;> simp -implicitDefEqProofs only [hb, go_sem, k111, m111, c111_eq, k116, m116, c116_eq, k114, m114, c114_eq, ap_enc, ap_dec, AFn0_dec, AFn0_enc, AF1_d1, AF1_d2, AF1_e1, AF1_e2, Bool.not_true, Bool.not_false, ty136, lv31, bOf_t, bOf_f, Nat.reduceAdd, Nat.reduceMul, Nat.reduceLeDiff, Nat.reduceEqDiff, reduceCtorEq, Nat.reduceSub, Int.reduceNeg, Nat.reduceMod, Nat.reduceBEq, Nat.reduceLT] <;> try simp only [bOf_t, bOf_f, decide_eq_true_eq, decide_eq_false_iff_not, Bool.not_eq_true', Bool.not_eq_false', Bool.not_eq_true, Bool.not_eq_false, Decidable.not_not] at hb) | (refine gB_split (fun hb => ?_) (fun hb => ?_) <;> simp -implicitDefEqProofs only [hb, go_sem, k111, m111, c111_eq, k116, m116, c116_eq, k114, m114, c114_eq, ap_enc, ap_dec, AFn0_dec, AFn0_enc, AF1_d1, AF1_d2, AF1_e1, AF1_e2, Bool.not_true, Bool.not_false, ty136, lv31, bOf_t, bOf_f, Nat.reduceAdd, Nat.reduceMul, Nat.reduceLeDiff, Nat.reduceEqDiff, reduceCtorEq, Nat.reduceSub, Int.reduceNeg, Nat.reduceMod, Nat.reduceBEq, Nat.reduceLT] <;> try simp only [bOf_t, bOf_f, decide_eq_true_eq, decide_eq_false_iff_not, Bool.not_eq_true', Bool.not_eq_false', Bool.not_eq_true, Bool.not_eq_false, Decidable.not_not] at hb))
  all_goals (try simp only [bOf_t, bOf_f, bOf_not, Decidable.not_not, Classical.not_not] at *)
  all_goals have ht : r.text.size ≤ 40 := hpre.1.2.2.1.2
  all_goals have hbd : ∀ s ∈ m.body, s.size ≤ 40 := fun s hs => (hpre.2.1.2.2.2.2.1 s hs).2
  all_goals first | rfl | omega | (have := hbd _ (by assumption); omega) | skip
  · refine congrArg (fun b => T.v (.bool b)) (bOf_congr ?_)
    rename_i h1
    rw [asks1 h1]
    exact ⟨fun h => ⟨hb, h.2.2⟩, fun h => ⟨(hpre.2.1.2.2.1.resolve_right hb).2, hpre.1.2.2.2.2.1 h1, h.2⟩⟩
  · rename_i h1
    rw [bOf_n (fun h => ((asks1 h1).1 h).1 hb)]
  · show r.text.size ≤ 2000000
    omega
  · refine congrArg (fun b => T.v (.bool b)) (bOf_congr ?_)
    rw [asks2 hb]; exact Iff.rfl
  · refine congrArg (fun b => T.v (.bool b)) (bOf_congr ?_)
    rw [asks3 hb]
  · rename_i h1 h2
    rw [bOf_y (asks4 h1 h2 hb)]

def c89 : Ct := ctR (lc ERu.ag (lc EMl.ap l0)) (fun p => RuOk p.1 ∧ MlOk p.2.1 ∧ p.2.1.frm.domain.size ≤ 2000000) (fun p => .t (.v (.bool (bOf (Asks p.1 p.2.1.frm p.2.1.body)))))
theorem c89_eq {args : List AV} {K : AV → Prop} : c89 args K = K0 (fun p => RuOk p.1 ∧ MlOk p.2.1 ∧ p.2.1.frm.domain.size ≤ 2000000) (fun p => .t (.v (.bool (bOf (Asks p.1 p.2.1.frm p.2.1.body))))) K ((lc ERu.ag (lc EMl.ap l0)).dec args) := rfl
theorem good89 {G : Gt} (hG : GOk Tryz.prog G ∧ GDet G) (h90 : G.e 90 = roEnt 0 c90) : Good Tryz.prog G.m 89 (roEnt 0 c89) := by
  refine good_run (dp := fun _ => true) (fn := Tryz.f89) (n := 2) (fun _ => rfl) (by kernel_rfl) rfl (by kernel_rfl) hmix hG (Nat.le_of_ble_eq_true rfl) (by kernel_rfl) (by decide) (fun _ _ => .v _) ?_
  have k90 : (G.e 90).kd = 0 := by rw [h90]; rfl
  have m90 : (G.e 90).ro = c90 := by rw [h90]; rfl
  rintro ⟨r, m, ⟨⟩⟩ hpre
  simp -implicitDefEqProofs only [Tryz.f89, go_sem, k90, m90, c90_eq, ap_enc, ap_dec, AFn0_dec, AFn0_enc, AF1_d1, AF1_d2, AF1_e1, AF1_e2, Bool.not_true, Bool.not_false, ty136, lv31, Nat.reduceAdd, Nat.reduceMul, Nat.reduceLeDiff, Nat.reduceEqDiff, reduceCtorEq, Nat.reduceSub, Int.reduceNeg, Nat.reduceMod, Nat.reduceBEq, Nat.reduceLT] at hpre ⊢

  repeat' (first | with_reducible apply And.intro | with_reducible intro _ | (refine brB_split (fun hb => ?_) (fun hb => ?_) <;> simp -implicitDefEqProofs only [hb, go_sem, k90, m90, c90_eq, ap_enc, ap_dec, AFn0_dec, AFn0_enc, AF1_d1, AF1_d2, AF1_e1, AF1_e2, Bool.not_true, Bool.not_false, ty136, lv31, Nat.reduceAdd, Nat.reduceMul, Nat.reduceLeDiff, Nat.reduceEqDiff, reduceCtorEq, Nat.reduceSub, Int.reduceNeg, Nat.reduceMod, Nat.reduceBEq, Nat.reduceLT] <;> try simp only [bOf_t, bOf_f, decide_eq_true_eq, decide_eq_false_iff_not, Bool.not_eq_true', Bool.not_eq_false', Bool.not_eq_true, Bool.not_eq_false, Decidable.not_not] at hb) | (refine aPickB_split (fun hb => ?_) (fun hb => ?_) <;> simp -implicitDefEqProofs only [hb, go_sem, k90, m90, c90_eq, ap_enc, ap_dec, AFn0_dec, AFn0_enc, AF1_d1, AF1_d2, AF1_e1, AF1_e2, Bool.not_true, Bool.not_false, ty136, lv31, Nat.reduceAdd, Nat.reduceMul, Nat.reduceLeDiff, Nat.reduceEqDiff, reduceCtorEq, Nat.reduceSub, Int.reduceNeg, Nat.reduceMod, Nat.reduceBEq, Nat.reduceLT] <;> try simp only [bOf_t, bOf_f, decide_eq_true_eq, decide_eq_false_iff_not, Bool.not_eq_true', Bool.not_eq_false', Bool.not_eq_true, Bool.not_eq_false, Decidable.not_not] at hb) | (refine gB_split (fun hb => ?_) (fun hb => ?_) <;> simp -implicitDefEqProofs only [hb, go_sem, k90, m90, c90_eq, ap_enc, ap_dec, AFn0_dec, AFn0_enc, AF1_d1, AF1_d2, AF1_e1, AF1_e2, Bool.not_true, Bool.not_false, ty136, lv31, Nat.reduceAdd, Nat.reduceMul, Nat.reduceLeDiff, Nat.reduceEqDiff, reduceCtorEq, Nat.reduceSub, Int.reduceNeg, Nat.reduceMod, Nat.reduceBEq, Nat.reduceLT] <;> try simp only [bOf_t, bOf_f, decide_eq_true_eq, decide_eq_false_iff_not, Bool.not_eq_true', Bool.not_eq_false', Bool.not_eq_true, Bool.not_eq_false, Decidable.not_not] at hb))
  all_goals first | rfl | omega | exact hpre.1 | exact hpre.2.1 | exact hpre.2.2 | skip

end Go.V
