/- The row. No condition. -/
import Derived.Test.YtljiekcdfikafaaGreatDoorRB
import Derived.Test.YtljiekcdfikafaaGreatDoorVB
import Derived.Test.YtljiekcdfikafaaGreatDoorRA
import Derived.ProofKit
import Derived.Carry
import Derived.WalkKit
import Derived.Test.YtljiekcdfikafaaGreatDoorCards
import Derived.Test.YtljiekcdfikafaaGreatDoorTie
import Derived.OpenShut
import Derived.Deep.DeepHandedRow
namespace Go.V
open Go Go.Proofs
set_option maxRecDepth 100000
set_option linter.unusedSimpArgs false
set_option linter.unusedVariables false
attribute [local go_sem] aPickB.eq_1 aPickB.eq_2 aPick.eq_1 aBox.eq_1 aBox.eq_2 aAlloc.eq_1 aAlloc.eq_2 aLoadB.eq_1 aLoadB.eq_2 aLoadB.eq_3 aLoadB.eq_4 aLoadA.eq_1 aLoadA.eq_2 aLoadA.eq_3 aLoadA.eq_4 aLoadP.eq_1 aLoadP.eq_2 aLoadP.eq_3 aLoad.eq_1 aLoad.eq_2 aFAx.eq_1 aFAx.eq_2 aFAx.eq_3 aFA.eq_1 aFA.eq_2 aFx.eq_1 aF.eq_1 aF.eq_2 fld.eq_1 elT.eq_1 aIdxH.eq_1 aIdxH.eq_2 aIdxH.eq_3 aIdxH.eq_4 aIdxP.eq_1 aIdxP.eq_2 aIndexAddr.eq_1 aIndexAddr.eq_2 aIndexAddr.eq_3 isStr.eq_1 aIndex.eq_1 aSlStr.eq_1 aSlRo.eq_1 aSlZ.eq_1 aSlZ.eq_2 aSlice.eq_1 aSlice.eq_2 aSlice.eq_3 bnd.eq_1 bnd.eq_2 aBuildO.eq_1 aBuildO.eq_2 aBuild.eq_1 aNewArr.eq_1 aNewArr.eq_2 aBS.eq_1 aBS.eq_2 aBuildSlice.eq_1 aBuildSlice.eq_2 aMakeSlice.eq_1 appDeep.eq_1 aApp2.eq_1 aAppend.eq_1 aAppend.eq_2 aStoreB.eq_1 aStoreA.eq_1 obFlat.eq_1 aStore2.eq_1 aStore2.eq_2 aStoreP.eq_1 aStoreP.eq_2 aStore.eq_1 aStore.eq_2 isShl.eq_1 isShl.eq_2 isBool.eq_1 aBinI.eq_1 aBinI.eq_2 aBinB.eq_1 aBinB.eq_2 aEq.eq_1 aEq.eq_2 aEq.eq_3 aEq.eq_4 aEqG.eq_1 aEqG.eq_2 aBin.eq_1 aBin.eq_2 aBin.eq_3 aBin.eq_4 aUn.eq_1 aUn.eq_2 aLenO.eq_1 aLenS.eq_1 aLenS.eq_2 aLenS.eq_3 aLenT.eq_1 aLen.eq_1 aLen.eq_2 aLen.eq_3 bytesOb.eq_1 bytesOb.eq_2 bytesOf.eq_1 bytesOf.eq_2 aNums.eq_1 aNums.eq_2 isU8.eq_1 aCvI.eq_1 aCvS.eq_1 aCvB.eq_1 aCvB.eq_2 aCvT.eq_1 aConv.eq_1 aConv.eq_2 aConv.eq_3 aConv.eq_4 aExO.eq_1 aExO.eq_2 aExtract.eq_1 aNil.eq_1 aNil.eq_2 aNil.eq_3 aCallS.eq_1 aCallS.eq_2 aCallR.eq_1 aCallR.eq_2 aCallK.eq_1 aCallK.eq_2 aCallK.eq_3 aCall.eq_1 aCall.eq_2 takeO.eq_1 AS.takeV.eq_1 AS.takeV.eq_2 AS.takeV.eq_3 AS.takeV.eq_4 AS.takeV.eq_5 AS.takeV.eq_6 AS.takeV.eq_7 AV.oldM.eq_1 AV.oldM.eq_2 AV.oldM.eq_3 AV.oldM.eq_4 AV.oldM.eq_5 AV.oldM.eq_6 AV.oldM.eq_7 AV.oldM.eq_8 AV.oldM.eq_9 AV.oldM.eq_10 AV.oldM.eq_11 AV.oldML.eq_1 AV.oldML.eq_2 subL.eq_1 subL.eq_2 back.eq_1 back.eq_2 back.eq_3 back.eq_4 backL.eq_1 backI.eq_1 backI.eq_2 backI.eq_3 backI.eq_4 backIL.eq_1 aBuiltin.eq_1 aBuiltin.eq_2 aBuiltin.eq_3 aCallee.eq_1 aCallee.eq_2 aCallee.eq_3 abin.eq_1 abin.eq_2 abin.eq_3 abin.eq_4 abin.eq_5 abin.eq_6 abin.eq_7 abin.eq_8 abin.eq_9 abin.eq_10 abin.eq_11 abin.eq_12 abin.eq_13 abin.eq_14 abin.eq_15 abin.eq_17 abin.eq_18 abin.eq_19 abin.eq_20 abin.eq_21 abin.eq_22 abin.eq_23 AS.ev.eq_1 AS.ev.eq_2 AS.ev.eq_3 AS.ev.eq_4 AS.evs.eq_1 AS.evs.eq_2 AS.evp.eq_1 AS.evp.eq_2 AS.put.eq_1 AS.put.eq_2 AS.remL.eq_1 AS.remL.eq_2 AV.has.eq_1 AV.has.eq_2 AV.has.eq_3 AV.has.eq_4 AV.has.eq_5 AV.has.eq_6 AV.has.eq_7 AV.has.eq_8 AV.has.eq_9 AV.has.eq_10 AV.has.eq_11 AV.hasL.eq_1 AV.hasL.eq_2 Ob.drop.eq_1 AV.cells.eq_1 AV.cells.eq_2 AV.cells.eq_3 AV.cells.eq_4 AV.cells.eq_5 AS.snapT.eq_1 AS.snapT.eq_2 AS.snapT.eq_3 AS.snapT.eq_4 AS.snapT.eq_5 AS.snapT.eq_6 AS.snapT.eq_7 AS.snap.eq_1 AS.snap.eq_2 mapO.eq_1 mapO.eq_2 intern.eq_1 intern.eq_2 intern.eq_3 intern.eq_4 intern.eq_5 intern.eq_6 intern.eq_7 intern.eq_8 intern.eq_9 intern.eq_10 intern.eq_11 internL.eq_1 internL.eq_2 zipSl.eq_1 zipSl.eq_2 AV.ids.eq_1 AV.ids.eq_2 AV.ids.eq_3 AV.ids.eq_4 AV.ids.eq_5 AV.ids.eq_6 AV.ids.eq_7 AV.ids.eq_8 AV.ids.eq_9 AV.ids.eq_10 AV.ids.eq_11 AV.idsL.eq_1 AV.idsL.eq_2 AV.sub.eq_1 AV.sub.eq_2 AV.sub.eq_3 AV.sub.eq_4 AV.sub.eq_5 AV.sub.eq_6 AV.sub.eq_7 AV.sub.eq_8 AV.sub.eq_9 AV.sub.eq_10 AV.sub.eq_11 AV.subL.eq_1 AV.subL.eq_2 AS.frzL.eq_1 AS.frzL.eq_2 AS.absT.eq_1 AS.absT.eq_2 AS.absT.eq_4 AS.absL.eq_1 AS.absL.eq_2 AS.absOk.eq_1 AS.absOkL.eq_1 AS.absOkL.eq_2 hid.eq_1 hids.eq_1 hids.eq_2 AS.appBase.eq_1 AS.appBase.eq_2 AS.appSrc.eq_1 appFits.eq_1 appFits.eq_2 appFits.eq_3 avFill.eq_1 avFill.eq_2 avc.eq_1 avc.eq_2 avc1.eq_1 Kd.agg.eq_1 Kd.agg.eq_2 okR.eq_1 okR.eq_2 okR.eq_3 okR.eq_4 okR.eq_5 okR.eq_6 okR.eq_7 okR.eq_8 zt.eq_1 rvB.eq_1 rvP.eq_1 rvA.eq_1 rvA.eq_2 rv1.eq_1 outTO.eq_1 outT.eq_1 outT.eq_2 outT.eq_3 outOO.eq_1 outO.eq_1 outO.eq_2 boxOf.eq_1 outP.eq_1 outP.eq_2 outP.eq_3 outP.eq_4 outP.eq_5 outP.eq_6 outP.eq_7 outP.eq_8 outPL.eq_1 outPL.eq_2 outI.eq_1 outI.eq_2 outI.eq_3 outI.eq_4 outI.eq_5 outIL.eq_1 outZ.eq_1 outZ.eq_2 outZ.eq_3 outZ.eq_4 outZ.eq_5 outZL.eq_1 finO.eq_1 finO.eq_2 fin.eq_1 fin.eq_2 fin.eq_3 cellAV.eq_1 numsOf.eq_1 numsOf.eq_2 aop.eq_1 aop.eq_2 aop.eq_3 aop.eq_4 aop.eq_5 aop.eq_6 aop.eq_7 aop.eq_8 aop.eq_9 aop.eq_10 aop.eq_11 aop.eq_12 aop.eq_13 aop.eq_14 aop.eq_15 aop.eq_16 aop.eq_17 aop.eq_18 aop.eq_19 aop.eq_20 aop.eq_21 aop.eq_22 aop.eq_23 aop.eq_24 aop.eq_25 aop.eq_26 tmpsOf.eq_1 tmpsOf.eq_2 tmpsOf.eq_3 tmpsOf.eq_4 tmpsOf.eq_5 AV.refs.eq_1 AV.refs.eq_2 AV.refs.eq_3 AV.refs.eq_4 AV.refs.eq_5 AV.refs.eq_6 AV.refs.eq_7 AV.refs.eq_8 AV.refs.eq_9 AV.refs.eq_10 AV.refs.eq_11 AV.refsL.eq_1 AV.refsL.eq_2 refsT.eq_1 refsT.eq_2 refsO.eq_1 refsO.eq_2 refsO.eq_3 refsO.eq_4 refsB.eq_1 refsB.eq_2 clos.eq_1 clos.eq_2 keepL.eq_1 keepL.eq_2 AV.hasM.eq_1 AV.hasM.eq_2 AV.hasM.eq_3 AV.hasM.eq_4 AV.hasM.eq_5 AV.hasM.eq_6 AV.hasM.eq_7 AV.hasM.eq_8 AV.hasM.eq_9 AV.hasM.eq_10 AV.hasM.eq_11 AV.hasML.eq_1 AV.hasML.eq_2 Ob.dropM.eq_1 Ob.dropM.eq_2 Ob.dropM.eq_3 nsC.eq_1 nsC.eq_2 okGuard.eq_1 okGuard.eq_2 AS.purges.eq_1 AS.purges.eq_2 dropMB.eq_1 dropMB.eq_2 newB.eq_1 newB.eq_2 ptB.eq_1 ptB.eq_2 lookC.eq_1 lookC.eq_2 dropB.eq_1 dropB.eq_2 leS.eq_1 leS.eq_2 leT.eq_1 leT.eq_2 AS.mvs.eq_1 AS.mvs.eq_2 AS.mvA.eq_1 AS.mvA.eq_2 AS.mvB.eq_1 aSetO.eq_1 aSetO.eq_2 aSh.eq_1 aSh.eq_2 arK.eq_1 aIdxA.eq_1 aIdxA.eq_2 arT.eq_1 aSlHB.eq_1 aSlHB.eq_2 aSlHO.eq_1 aSlHZ.eq_1 aSlHZ.eq_2 isSlT.eq_1 isNilC.eq_1 aNilO.eq_1 aNilX.eq_1 aNilX.eq_2 aNilX.eq_3 aNilC.eq_1 aNilC.eq_2 aBinQ.eq_1 aBinQ.eq_2 aMin.eq_1 flT.eq_1 flT.eq_2 mpT.eq_1 aMkMap.eq_1 aMkMap.eq_2 strA.eq_1 keyMK.eq_1 keyMK.eq_2 mkB.eq_1 mkB.eq_2 aMp2.eq_1 aMp1.eq_1 aMp0.eq_1 aMapU.eq_1 aLk2.eq_1 aLk2.eq_2 aLk1.eq_1 aLk0.eq_1 aLookup.eq_1 aLenMO.eq_1 aLenM.eq_1 glV.eq_1 glV.eq_2 evG.eq_1 evG.eq_2 evG.eq_3 evG.eq_4 run_nil run_b run_l run_skip run_label run_seq run_cond brV_b brB_t brB_f run_block run_exit run_ret run_region runX_nil runX_c runX_c' runX_b runX_b' runX_l runX_l' exB_t exB_f run_o run_op run_opg gV_b gV_t gB_tt gB_ff gB_tf gB_ft rs_eq kv KI aLenN aBS1 aApp1 aStore1 szOk gv gd s0 idOf look_cons lookC frzU_t frzU_f orT orF drop_any drop_nil drop_t drop_h drop_pb drop_pa drop_agg drop_tup drop_fn dropB kill_eq set_eq rem_eq re_eq up_eq get_eq ob_eq Ob.drop apl fpl plainTy AS.frz splice cond_true cond_false List.map_cons List.map_nil List.drop_zero List.drop_succ_cons List.drop_nil List.take_zero List.take_succ_cons List.take_nil List.getElem?_cons_zero List.getElem?_cons_succ List.getElem?_nil List.length_cons List.length_nil Option.map_some Option.map_none Option.bind_some Option.bind_none List.cons_append List.nil_append List.append_nil Option.getD_some Option.getD_none List.all_cons List.all_nil Bool.and_true Bool.true_and Bool.or_false Bool.false_or Bool.or_true Bool.true_or List.flatten_cons List.flatten_nil List.replicate_succ List.replicate_zero and_true true_and avOf_t avOf_f agg_bool agg_int agg_str agg_slice agg_struct agg_func agg_ptr agg_map avc_bool avc_int avc_str avc_fn avc1_bool avc1_int avc1_str avc1_fn zt_bool zt_int zt_str cells_nil cells_t cells_h cells_pb cells_fn snap_t snap_nil snap_h snap_pb snap_fn rv1_one rv1_two outI_t outI_oh outI_on outI_any outI_nil outZ_th outZ_tt outZ_tn outZ_o outZ_any outZ_nil outIL_nil outZL_nil finN finR ne_eq not_false_eq_true not_true_eq_false List.nodup_nil List.not_mem_nil false_implies implies_true eq_self true_or or_true Option.some.injEq shl_add shl_sub shl_mul shl_quo shl_rem shl_and shl_or shl_xor shl_andNot shl_eql shl_neq shl_lss shl_leq shl_gtr shl_geq shl_shr shl_shl appDeep_none appDeep_sn appSrc_h appSrc_nil fits_ft fits_tn fits_tf isStr_slice obFlat_box Nat.le_refl nbeq_self List.length_map updZ_s updZ_n dropM_eq purge_eq newIds_cons newIds_nil purgeT_nil purgeT_cons memN_cons memN_nil bd_d bd_c bd_g bd_p bd_t bd_o preds_nil preds_cons run_draw hasIns insB List.any_cons List.any_nil adK_eq adr_nil adr_cons adG_eq kdOp noLen creates Op.operands Call.operands nsOf adT adI adJ plainB rst List.append_eq nsD_f nsD_n nsD_t nOf_0 nOf_1 nOf_2 chO_0 chO_1 chO_2 keepK_0 keepK_1 keepK_2 eqRes AS.mv fits KM aCallM notNew kdCall arK_i64 arK_i32 arK_u8 arK_u64 arT_sl isNilC_t isNilC_f isNilC_g isNilC_i isNilC_b isNilC_s isNilC_a isNilC_n andBF andBT aCallK_2 ble_dec hid_t hid_nil hid_any hid_pb hid_fn absOk_t absOk_nil absOk_pb absOk_h absOkO_1 decide_true decide_false Array.toList_append chunk_0 chunk_1 chunk_2 chunk_3 back_t back_nil back_ht backL_nil backI_t backI_nil backI_ht backIL_nil AS.mvJ nbeq_dec
attribute [local go_sem] ty3 ty4 ty5 ty9 ty22 ty24 ty25 ty26 ty28 ty31 ty32 ty34 ty37 ty64 ty72 ty118 ty134 ty136 ty164 ty167 lv31 zb4 leS leT fits AS.mvs encStr_eq encAd_eq encRu_eq aIdx_str aIdx_Ad aIdx_Ru EAd_dec EMl_dec ERu_dec EStr_dec mkMl.eq_1 decStrs decAds decRus decStrs0 decAds0 decRus0 EStr_enc EAd_enc EMl_enc ERu_enc lc_enc l0_enc asl_enc ag_enc aow_enc ABool_enc AInt_enc AStr_enc AU8_enc ABool_dec AInt_dec AStr_dec AU8_dec asl_dec ag_dec aow_dec bind_some pr2.eq_1 l0_nil lc_cons unT.eq_1 K0.eq_1 M0.eq_1 KI AllV_Str AllV_Ad AllV_Ru len_Str len_Ad len_Ru Ad_eta Ru_eta Ml_eta

def tk (d : Bool) (n : Int) (b : Bool) : List (MK × Bool) := bif d then [(.i n, b)] else []
theorem tk_f {n : Int} {b : Bool} : tk false n b = [] := rfl
theorem tk_t {n : Int} {b : Bool} : tk true n b = [(.i n, b)] := rfl
theorem tk_ne {d : Bool} {n k : Int} {b : Bool} (h : n ≠ k) : ∀ p ∈ tk d n b, p.1 ≠ MK.i k := by
  intro p hp
  cases d
  · cases hp
  · rw [tk_t, List.mem_singleton] at hp
    subst hp
    intro e
    cases e
    exact h rfl
theorem all_app {α : Type} {p : α → Prop} {l m : List α} (h1 : ∀ x ∈ l, p x) (h2 : ∀ x ∈ m, p x) : ∀ x ∈ l ++ m, p x := fun x hx => (List.mem_append.1 hx).elim (h1 x) (h2 x)
theorem boxR (r : Ru) : [AV.t (.v (.int .i64 r.ask)), .t (.v (.string r.text)), .t (.v (.int .i64 r.act)), .t (.v (.string r.to.user)), .t (.v (.string r.to.domain))] = (encRu r).map .t := rfl
theorem spA_sum (c : UInt8) : ∀ l : List UInt8, ((spA c l).map fun w => w.length + 1).sum = l.length + 1
  | [] => rfl
  | x :: r => by
    have ih := spA_sum c r
    rw [spA]
    by_cases e : x = c
    · rw [if_pos e, List.map_cons, List.sum_cons, ih]; simp; omega
    · rw [if_neg e]
      cases hs : spA c r with
      | nil => rw [hs] at ih; simp at ih
      | cons a t =>
        rw [hs, List.map_cons, List.sum_cons] at ih
        show (((x :: a) :: t).map fun w => w.length + 1).sum = _
        rw [List.map_cons, List.sum_cons, List.length_cons, List.length_cons]
        omega
theorem spA_mem (c : UInt8) : ∀ (l : List UInt8) (y : UInt8), y ∈ l → y = c ∨ ∃ w ∈ spA c l, y ∈ w
  | x :: r, y, hy => by
    have ih := spA_mem c r y
    rw [spA]
    by_cases e : x = c
    · rw [if_pos e]
      rcases List.mem_cons.1 hy with h | h
      · exact .inl (h.trans e)
      · rcases ih h with h | ⟨w, hw, h⟩
        · exact .inl h
        · exact .inr ⟨w, List.mem_cons_of_mem _ hw, h⟩
    · rw [if_neg e]
      cases hs : spA c r with
      | nil =>
        have := spA_len c r
        rw [hs] at this; simp at this
      | cons a t =>
        rw [hs] at ih
        rcases List.mem_cons.1 hy with h | h
        · exact .inr ⟨x :: a, by simp, by rw [h]; simp⟩
        · rcases ih h with h | ⟨w, hw, h⟩
          · exact .inl h
          · rcases List.mem_cons.1 hw with hw | hw
            · subst hw; exact .inr ⟨x :: w, by simp, by simp [h]⟩
            · exact .inr ⟨w, by simp [hw], h⟩
theorem sum_le (n : Nat) : ∀ L : List (List UInt8), (∀ w ∈ L, w.length ≤ n) → (L.map fun w => w.length + 1).sum ≤ (n + 1) * L.length
  | [], _ => by simp
  | w :: t, h => by
    have h1 := h w (by simp)
    have h2 := sum_le n t fun x hx => h x (by simp [hx])
    rw [List.map_cons, List.sum_cons, List.length_cons, Nat.mul_add]
    omega
theorem Dom_Lin {s : ByteArray} (h : Dom s) : Lin s := by
  obtain ⟨h1, h2⟩ := (Dom_spl s).1 h
  unfold spl at h1 h2
  rw [List.length_map] at h2
  have hp : ∀ w ∈ spA 46 (bl s), Lbl (mB w) := fun w hw => h1 _ (List.mem_map.2 ⟨w, hw, rfl⟩)
  refine ⟨fun j hj => ?_, ?_⟩
  · have hm : (bl s).getD j 0 ∈ bl s := by
      have hj' : j < (bl s).length := hj
      simp [hj']
    rw [byteAt_bl]
    rcases spA_mem 46 _ _ hm with h | ⟨w, hw, h⟩
    · rw [h]; decide
    · obtain ⟨k, hk, he⟩ := List.mem_iff_getElem.1 h
      have := (hp w hw).1 k hk
      rw [byteAt_bl, bl_mk] at this
      have e2 : w.getD k 0 = (bl s).getD j 0 := by rw [← he]; simp [hk]
      rw [e2] at this
      unfold isLc at this
      omega
  · have h3 := sum_le 8 (spA 46 (bl s)) fun w hw => (hp w hw).2.2
    rw [spA_sum, bl_len] at h3
    omega
theorem Lin_nil : Lin ⟨#[]⟩ := ⟨fun j hj => absurd hj (Nat.not_lt_zero _), Nat.zero_le _⟩
theorem lkE_i {n k : Int} {b : Bool} {t : List (MK × Bool)} : lkE (.i n) ((.i k, b) :: t) = if n = k then b else lkE (.i n) t := by
  rw [lkE]
  by_cases h : n = k
  · subst h; simp
  · rw [if_neg (fun e => h (by cases e; rfl)), if_neg h]
theorem lk_ask (a : Int) (t : ByteArray) : lkE (.i a) [(.i 1, bOf (Dom t)), (.i 2, bOf (Lin t)), (.i 3, decide (t = ⟨#[]⟩)), (.i 4, decide (t = ⟨#[]⟩))] = true ↔ (1 ≤ a ∧ a ≤ 4) ∧ Lin t ∧ (3 ≤ a → t = ⟨#[]⟩) ∧ (a = 1 → Dom t) := by
  rw [lkE_i, lkE_i, lkE_i, lkE_i, lkE]
  by_cases h1 : a = 1
  · rw [if_pos h1, bOf_t]
    exact ⟨fun h => ⟨by omega, Dom_Lin h, fun e => by omega, fun _ => h⟩, fun h => h.2.2.2 h1⟩
  · rw [if_neg h1]
    by_cases h2 : a = 2
    · rw [if_pos h2, bOf_t]
      exact ⟨fun h => ⟨by omega, h, fun e => by omega, fun e => absurd e h1⟩, fun h => h.2.1⟩
    · rw [if_neg h2]
      by_cases h3 : a = 3
      · rw [if_pos h3, decide_eq_true_eq]
        exact ⟨fun h => ⟨by omega, by rw [h]; exact Lin_nil, fun _ => h, fun e => absurd e h1⟩, fun h => h.2.2.1 (by omega)⟩
      · rw [if_neg h3]
        by_cases h4 : a = 4
        · rw [if_pos h4, decide_eq_true_eq]
          exact ⟨fun h => ⟨by omega, by rw [h]; exact Lin_nil, fun _ => h, fun e => absurd e h1⟩, fun h => h.2.2.1 (by omega)⟩
        · rw [if_neg h4]
          exact ⟨fun h => (by cases h), fun h => by omega⟩
theorem lk_act (d : Int) (a : Ad) : lkE (.i d) [(.i 1, bOf (AdNull a)), (.i 2, bOf (AdNull a)), (.i 3, bOf (AdOk a))] = true ↔ (1 ≤ d ∧ d ≤ 3) ∧ (d = 3 → AdOk a) ∧ (d ≠ 3 → AdNull a) := by
  rw [lkE_i, lkE_i, lkE_i, lkE]
  by_cases h1 : d = 1
  · rw [if_pos h1, bOf_t]
    exact ⟨fun h => ⟨by omega, fun e => by omega, fun _ => h⟩, fun h => h.2.2 (by omega)⟩
  · rw [if_neg h1]
    by_cases h2 : d = 2
    · rw [if_pos h2, bOf_t]
      exact ⟨fun h => ⟨by omega, fun e => by omega, fun _ => h⟩, fun h => h.2.2 (by omega)⟩
    · rw [if_neg h2]
      by_cases h3 : d = 3
      · rw [if_pos h3, bOf_t]
        exact ⟨fun h => ⟨by omega, fun _ => h, fun e => absurd h3 e⟩, fun h => h.2.1 h3⟩
      · rw [if_neg h3]
        exact ⟨fun h => (by cases h), fun h => by omega⟩
theorem RuOk_lk (r : Ru) : RuOk r ↔ lkE (.i r.ask) [(.i 1, bOf (Dom r.text)), (.i 2, bOf (Lin r.text)), (.i 3, decide (r.text = ⟨#[]⟩)), (.i 4, decide (r.text = ⟨#[]⟩))] = true ∧ lkE (.i r.act) [(.i 1, bOf (AdNull r.to)), (.i 2, bOf (AdNull r.to)), (.i 3, bOf (AdOk r.to))] = true := by
  rw [lk_ask, lk_act]
  exact ⟨fun h => ⟨⟨h.1, h.2.2.1, h.2.2.2.1, h.2.2.2.2.1⟩, h.2.1, h.2.2.2.2.2⟩, fun h => ⟨h.1.1, h.2.1, h.1.2.1, h.1.2.2.1, h.1.2.2.2, h.2.2⟩⟩
theorem kd3e : KeyD Tryz.prog 3 none = True := eq_true kd3

def S1 (r : Ru) (b1 b2 b3 : Bool) (D : Nat → Bool) : AS := ⟨[(1, .pb 1001 0), (5, bif D 0 then .h 1005 else .any), (6, bif D 1 then .pb 1001 1 else .any), (7, bif D 2 then .t (.v (.string r.text)) else .any), (8, bif D 3 then .t (.v (.bool b1)) else .any), (9, bif D 5 then .pb 1001 1 else .any), (10, bif D 6 then .t (.v (.string r.text)) else .any), (11, bif D 7 then .t (.v (.bool b2)) else .any), (12, bif D 9 then .pb 1001 1 else .any), (13, bif D 10 then .t (.v (.string r.text)) else .any), (14, bif D 11 then .t (.v (.bool b3)) else .any), (15, bif D 13 then .pb 1001 1 else .any), (16, bif D 14 then .t (.v (.string r.text)) else .any), (17, bif D 15 then .t (.v (.bool b3)) else .any), (18, bif D 17 then .h 1005 else .any), (3, bif D 18 then .h 1005 else .any)], [(1001, some (.box [.t (.v (.int .i64 r.ask)), .t (.v (.string r.text)), .t (.v (.int .i64 r.act)), .t (.v (.string r.to.user)), .t (.v (.string r.to.domain))])), (1005, bif D 0 then some (.mp none (tk (D 4) 1 b1 ++ (tk (D 8) 2 b2 ++ (tk (D 12) 3 b3 ++ tk (D 16) 4 b3)))) else none)]⟩
def S2 (r : Ru) (b1 b2 b3 b4 b5 : Bool) (D : Nat → Bool) : AS := ⟨[(1, .pb 1001 0), (3, .h 1005), (19, bif D 0 then .h 1019 else .any), (20, bif D 1 then .pb 1001 3 else .any), (21, bif D 2 then .agg [.t (.v (.string r.to.user)), .t (.v (.string r.to.domain))] else .any), (22, bif D 3 then .t (.v (.bool b4)) else .any), (23, bif D 5 then .pb 1001 3 else .any), (24, bif D 6 then .agg [.t (.v (.string r.to.user)), .t (.v (.string r.to.domain))] else .any), (25, bif D 7 then .t (.v (.bool b4)) else .any), (26, bif D 9 then .pb 1001 3 else .any), (27, bif D 10 then .agg [.t (.v (.string r.to.user)), .t (.v (.string r.to.domain))] else .any), (28, bif D 11 then .t (.v (.bool b5)) else .any), (29, bif D 13 then .h 1019 else .any), (4, bif D 14 then .h 1019 else .any)], [(1001, some (.box [.t (.v (.int .i64 r.ask)), .t (.v (.string r.text)), .t (.v (.int .i64 r.act)), .t (.v (.string r.to.user)), .t (.v (.string r.to.domain))])), (1005, some (.mp none [(.i 1, b1), (.i 2, b2), (.i 3, b3), (.i 4, b3)])), (1019, bif D 0 then some (.mp none (tk (D 4) 1 b4 ++ (tk (D 8) 2 b4 ++ tk (D 12) 3 b5))) else none)]⟩
theorem upA1 {d2 d3 d4 : Bool} {b1 b2 b3 b4 : Bool} : (upE (.i 1) b1 (tk false 1 b1 ++ (tk d2 2 b2 ++ (tk d3 3 b3 ++ (tk d4 4 b4))))).Perm (tk true 1 b1 ++ (tk d2 2 b2 ++ (tk d3 3 b3 ++ (tk d4 4 b4)))) := by
  rw [upE_none (all_app (fun p hp => by cases hp) (all_app (tk_ne (by decide)) (all_app (tk_ne (by decide)) (tk_ne (by decide)))))]
  simp only [tk_f, tk_t, List.nil_append, List.append_nil]
  exact List.perm_append_comm
theorem upA2 {d1 d3 d4 : Bool} {b1 b2 b3 b4 : Bool} : (upE (.i 2) b2 (tk d1 1 b1 ++ (tk false 2 b2 ++ (tk d3 3 b3 ++ (tk d4 4 b4))))).Perm (tk d1 1 b1 ++ (tk true 2 b2 ++ (tk d3 3 b3 ++ (tk d4 4 b4)))) := by
  rw [upE_none (all_app (tk_ne (by decide)) (all_app (fun p hp => by cases hp) (all_app (tk_ne (by decide)) (tk_ne (by decide)))))]
  simp only [tk_f, tk_t, List.nil_append, List.append_nil]
  rw [List.append_assoc]
  exact List.Perm.append_left _ (List.perm_append_comm)
theorem upA3 {d1 d2 d4 : Bool} {b1 b2 b3 b4 : Bool} : (upE (.i 3) b3 (tk d1 1 b1 ++ (tk d2 2 b2 ++ (tk false 3 b3 ++ (tk d4 4 b4))))).Perm (tk d1 1 b1 ++ (tk d2 2 b2 ++ (tk true 3 b3 ++ (tk d4 4 b4)))) := by
  rw [upE_none (all_app (tk_ne (by decide)) (all_app (tk_ne (by decide)) (all_app (fun p hp => by cases hp) (tk_ne (by decide)))))]
  simp only [tk_f, tk_t, List.nil_append, List.append_nil]
  rw [List.append_assoc, List.append_assoc]
  exact List.Perm.append_left _ (List.Perm.append_left _ (List.perm_append_comm))
theorem upA4 {d1 d2 d3 : Bool} {b1 b2 b3 b4 : Bool} : (upE (.i 4) b4 (tk d1 1 b1 ++ (tk d2 2 b2 ++ (tk d3 3 b3 ++ (tk false 4 b4))))).Perm (tk d1 1 b1 ++ (tk d2 2 b2 ++ (tk d3 3 b3 ++ (tk true 4 b4)))) := by
  rw [upE_none (all_app (tk_ne (by decide)) (all_app (tk_ne (by decide)) (all_app (tk_ne (by decide)) (fun p hp => by cases hp))))]
  simp only [tk_f, tk_t, List.nil_append, List.append_nil]
  rw [List.append_assoc, List.append_assoc]
theorem upB1 {d2 d3 : Bool} {b1 b2 b3 : Bool} : (upE (.i 1) b1 (tk false 1 b1 ++ (tk d2 2 b2 ++ (tk d3 3 b3)))).Perm (tk true 1 b1 ++ (tk d2 2 b2 ++ (tk d3 3 b3))) := by
  rw [upE_none (all_app (fun p hp => by cases hp) (all_app (tk_ne (by decide)) (tk_ne (by decide))))]
  simp only [tk_f, tk_t, List.nil_append, List.append_nil]
  exact List.perm_append_comm
theorem upB2 {d1 d3 : Bool} {b1 b2 b3 : Bool} : (upE (.i 2) b2 (tk d1 1 b1 ++ (tk false 2 b2 ++ (tk d3 3 b3)))).Perm (tk d1 1 b1 ++ (tk true 2 b2 ++ (tk d3 3 b3))) := by
  rw [upE_none (all_app (tk_ne (by decide)) (all_app (fun p hp => by cases hp) (tk_ne (by decide))))]
  simp only [tk_f, tk_t, List.nil_append, List.append_nil]
  rw [List.append_assoc]
  exact List.Perm.append_left _ (List.perm_append_comm)
theorem upB3 {d1 d2 : Bool} {b1 b2 b3 : Bool} : (upE (.i 3) b3 (tk d1 1 b1 ++ (tk d2 2 b2 ++ (tk false 3 b3)))).Perm (tk d1 1 b1 ++ (tk d2 2 b2 ++ (tk true 3 b3))) := by
  rw [upE_none (all_app (tk_ne (by decide)) (all_app (tk_ne (by decide)) (fun p hp => by cases hp)))]
  simp only [tk_f, tk_t, List.nil_append, List.append_nil]
  rw [List.append_assoc]
def c78 : Ct := ctR (lc ERu.ag l0) (fun p => p.1.text.size ≤ 2000000 ∧ p.1.to.domain.size ≤ 2000000) (fun p => .t (.v (.bool (bOf (RuOk p.1)))))
theorem c78_eq {args : List AV} {K : AV → Prop} : c78 args K = K0 (fun p => p.1.text.size ≤ 2000000 ∧ p.1.to.domain.size ≤ 2000000) (fun p => .t (.v (.bool (bOf (RuOk p.1))))) K ((lc ERu.ag l0).dec args) := rfl
set_option maxHeartbeats 8000000 in
theorem good78 {G : Gt} (hG : GOk Tryz.prog G ∧ GDet G) (h109 : G.e 109 = roEnt 0 c109) (h110 : G.e 110 = roEnt 0 c110) (h111 : G.e 111 = roEnt 0 c111) (h80 : G.e 80 = roEnt 0 c80) : Good Tryz.prog G.m 78 (roEnt 0 c78) := by
  refine good_run (dp := fun _ => true) (fn := Tryz.f78) (n := 1) (fun _ => rfl) (by kernel_rfl) rfl (by kernel_rfl) hmix hG (Nat.le_of_ble_eq_true rfl) (by kernel_rfl) (by decide) (fun _ _ => .v _) ?_
  have k109 : (G.e 109).kd = 0 := by rw [h109]; rfl
  have m109 : (G.e 109).ro = c109 := by rw [h109]; rfl
  have k110 : (G.e 110).kd = 0 := by rw [h110]; rfl
  have m110 : (G.e 110).ro = c110 := by rw [h110]; rfl
  have k111 : (G.e 111).kd = 0 := by rw [h111]; rfl
  have m111 : (G.e 111).ro = c111 := by rw [h111]; rfl
  have k80 : (G.e 80).kd = 0 := by rw [h80]; rfl
  have m80 : (G.e 80).ro = c80 := by rw [h80]; rfl
  rintro ⟨r, ⟨⟩⟩ hpre
  simp -implicitDefEqProofs only [Tryz.f78, go_sem, k109, m109, c109_eq, k110, m110, c110_eq, k111, m111, c111_eq, k80, m80, c80_eq, ty134, bif_drop, Nat.reduceAdd, Nat.reduceMul, Nat.reduceLeDiff, Nat.reduceEqDiff, reduceCtorEq, Nat.reduceSub, Int.reduceNeg, Nat.reduceMod, Nat.reduceBEq, Nat.reduceLT] at hpre ⊢
  refine invR_of (S1 r (bOf (Dom r.text)) (bOf (Lin r.text)) (decide (r.text = ⟨#[]⟩))) (fun D D' h => ?_) ?_ ?_ ?_
  · simp only [S1, S2, h 0 (by decide), h 1 (by decide), h 2 (by decide), h 3 (by decide), h 4 (by decide), h 5 (by decide), h 6 (by decide), h 7 (by decide), h 8 (by decide), h 9 (by decide), h 10 (by decide), h 11 (by decide), h 12 (by decide), h 13 (by decide), h 14 (by decide), h 15 (by decide), h 16 (by decide), h 17 (by decide), h 18 (by decide)]
  · simp -implicitDefEqProofs only [S1, S2, leS, leT, tk_f, go_sem, k109, m109, c109_eq, k110, m110, c110_eq, k111, m111, c111_eq, k80, m80, c80_eq, ty134, bif_drop, Nat.reduceAdd, Nat.reduceMul, Nat.reduceLeDiff, Nat.reduceEqDiff, reduceCtorEq, Nat.reduceSub, Int.reduceNeg, Nat.reduceMod, Nat.reduceBEq, Nat.reduceLT]
    try simp [look]
  · refine ⟨⟨rfl, rfl, rfl, fun D hD hcl hp => ?_⟩, ⟨⟨rfl, rfl, rfl, fun D hD hcl hp => ?_⟩, ⟨⟨rfl, rfl, rfl, fun D hD hcl hp => ?_⟩, ⟨⟨rfl, rfl, rfl, fun D hD hcl hp => ?_⟩, ⟨⟨rfl, rfl, rfl, fun D hD hcl hp => ?_⟩, ⟨⟨rfl, rfl, rfl, fun D hD hcl hp => ?_⟩, ⟨⟨rfl, rfl, rfl, fun D hD hcl hp => ?_⟩, ⟨⟨rfl, rfl, rfl, fun D hD hcl hp => ?_⟩, ⟨⟨rfl, rfl, rfl, fun D hD hcl hp => ?_⟩, ⟨⟨rfl, rfl, rfl, fun D hD hcl hp => ?_⟩, ⟨⟨rfl, rfl, rfl, fun D hD hcl hp => ?_⟩, ⟨⟨rfl, rfl, rfl, fun D hD hcl hp => ?_⟩, ⟨⟨rfl, rfl, rfl, fun D hD hcl hp => ?_⟩, ⟨⟨rfl, rfl, rfl, fun D hD hcl hp => ?_⟩, ⟨⟨rfl, rfl, rfl, fun D hD hcl hp => ?_⟩, ⟨⟨rfl, rfl, rfl, fun D hD hcl hp => ?_⟩, ⟨⟨rfl, rfl, rfl, fun D hD hcl hp => ?_⟩, ⟨⟨rfl, rfl, rfl, fun D hD hcl hp => ?_⟩, ⟨⟨rfl, rfl, rfl, fun D hD hcl hp => ?_⟩, trivial⟩⟩⟩⟩⟩⟩⟩⟩⟩⟩⟩⟩⟩⟩⟩⟩⟩⟩⟩
    · have c4 : D 4 = false := by
        cases h : D 4 with
        | false => rfl
        | true => exact absurd (hcl 4 _ rfl h 0 (by decide)) (by rw [hD]; decide)
      have c8 : D 8 = false := by
        cases h : D 8 with
        | false => rfl
        | true => exact absurd (hcl 8 _ rfl h 0 (by decide)) (by rw [hD]; decide)
      have c12 : D 12 = false := by
        cases h : D 12 with
        | false => rfl
        | true => exact absurd (hcl 12 _ rfl h 0 (by decide)) (by rw [hD]; decide)
      have c16 : D 16 = false := by
        cases h : D 16 with
        | false => rfl
        | true => exact absurd (hcl 16 _ rfl h 0 (by decide)) (by rw [hD]; decide)
      have c17 : D 17 = false := by
        cases h : D 17 with
        | false => rfl
        | true => exact absurd (hcl 17 _ rfl h 0 (by decide)) (by rw [hD]; decide)
      have c18 : D 18 = false := by
        cases h : D 18 with
        | false => rfl
        | true => exact absurd (hcl 18 _ rfl h 0 (by decide)) (by rw [hD]; decide)
      simp -implicitDefEqProofs only [S1, S2, hD, c4, c8, c12, c16, c17, c18, go_sem, k109, m109, c109_eq, k110, m110, c110_eq, k111, m111, c111_eq, k80, m80, c80_eq, ty134, bif_drop, Nat.reduceAdd, Nat.reduceMul, Nat.reduceLeDiff, Nat.reduceEqDiff, reduceCtorEq, Nat.reduceSub, Int.reduceNeg, Nat.reduceMod, Nat.reduceBEq, Nat.reduceLT]
      repeat' (first | with_reducible apply And.intro | with_reducible intro _ | (refine brB_split (fun hb => ?_) (fun hb => ?_) <;> simp -implicitDefEqProofs only [hb, go_sem, k109, m109, c109_eq, k110, m110, c110_eq, k111, m111, c111_eq, k80, m80, c80_eq, ty134, bif_drop, Nat.reduceAdd, Nat.reduceMul, Nat.reduceLeDiff, Nat.reduceEqDiff, reduceCtorEq, Nat.reduceSub, Int.reduceNeg, Nat.reduceMod, Nat.reduceBEq, Nat.reduceLT] <;> try simp only [bOf_t, bOf_f, decide_eq_true_eq, decide_eq_false_iff_not, Bool.not_eq_true', Bool.not_eq_false', Bool.not_eq_true, Bool.not_eq_false, Decidable.not_not] at hb) | (refine aPickB_split (fun hb => ?_) (fun hb => ?_) <;> simp -implicitDefEqProofs only [hb, go_sem, k109, m109, c109_eq, k110, m110, c110_eq, k111, m111, c111_eq, k80, m80, c80_eq, ty134, bif_drop, Nat.reduceAdd, Nat.reduceMul, Nat.reduceLeDiff, Nat.reduceEqDiff, reduceCtorEq, Nat.reduceSub, Int.reduceNeg, Nat.reduceMod, Nat.reduceBEq, Nat.reduceLT] <;> try simp only [bOf_t, bOf_f, decide_eq_true_eq, decide_eq_false_iff_not, Bool.not_eq_true', Bool.not_eq_false', Bool.not_eq_true, Bool.not_eq_false, Decidable.not_not] at hb) | (refine gB_split (fun hb => ?_) (fun hb => ?_) <;> simp -implicitDefEqProofs only [hb, go_sem, k109, m109, c109_eq, k110, m110, c110_eq, k111, m111, c111_eq, k80, m80, c80_eq, ty134, bif_drop, Nat.reduceAdd, Nat.reduceMul, Nat.reduceLeDiff, Nat.reduceEqDiff, reduceCtorEq, Nat.reduceSub, Int.reduceNeg, Nat.reduceMod, Nat.reduceBEq, Nat.reduceLT] <;> try simp only [bOf_t, bOf_f, decide_eq_true_eq, decide_eq_false_iff_not, Bool.not_eq_true', Bool.not_eq_false', Bool.not_eq_true, Bool.not_eq_false, Decidable.not_not] at hb))
      all_goals first | rfl | omega | skip
      refine Le.of ?_ ?_
      all_goals simp -implicitDefEqProofs only [leS, leT, done1, tk_f, hD, c4, c8, c12, c16, c17, c18, go_sem, k109, m109, c109_eq, k110, m110, c110_eq, k111, m111, c111_eq, k80, m80, c80_eq, ty134, bif_drop, Nat.reduceAdd, Nat.reduceMul, Nat.reduceLeDiff, Nat.reduceEqDiff, reduceCtorEq, Nat.reduceSub, Int.reduceNeg, Nat.reduceMod, Nat.reduceBEq, Nat.reduceLT]
      all_goals (try simp [tk_f])
    · clear hcl
      simp -implicitDefEqProofs only [Bool.and_eq_true, go_sem, k109, m109, c109_eq, k110, m110, c110_eq, k111, m111, c111_eq, k80, m80, c80_eq, ty134, bif_drop, Nat.reduceAdd, Nat.reduceMul, Nat.reduceLeDiff, Nat.reduceEqDiff, reduceCtorEq, Nat.reduceSub, Int.reduceNeg, Nat.reduceMod, Nat.reduceBEq, Nat.reduceLT] at hp hD
      simp -implicitDefEqProofs only [S1, S2, hD, hp, go_sem, k109, m109, c109_eq, k110, m110, c110_eq, k111, m111, c111_eq, k80, m80, c80_eq, ty134, bif_drop, Nat.reduceAdd, Nat.reduceMul, Nat.reduceLeDiff, Nat.reduceEqDiff, reduceCtorEq, Nat.reduceSub, Int.reduceNeg, Nat.reduceMod, Nat.reduceBEq, Nat.reduceLT]
      repeat' (first | with_reducible apply And.intro | with_reducible intro _ | (refine brB_split (fun hb => ?_) (fun hb => ?_) <;> simp -implicitDefEqProofs only [hb, go_sem, k109, m109, c109_eq, k110, m110, c110_eq, k111, m111, c111_eq, k80, m80, c80_eq, ty134, bif_drop, Nat.reduceAdd, Nat.reduceMul, Nat.reduceLeDiff, Nat.reduceEqDiff, reduceCtorEq, Nat.reduceSub, Int.reduceNeg, Nat.reduceMod, Nat.reduceBEq, Nat.reduceLT] <;> try simp only [bOf_t, bOf_f, decide_eq_true_eq, decide_eq_false_iff_not, Bool.not_eq_true', Bool.not_eq_false', Bool.not_eq_true, Bool.not_eq_false, Decidable.not_not] at hb) | (refine aPickB_split (fun hb => ?_) (fun hb => ?_) <;> simp -implicitDefEqProofs only [hb, go_sem, k109, m109, c109_eq, k110, m110, c110_eq, k111, m111, c111_eq, k80, m80, c80_eq, ty134, bif_drop, Nat.reduceAdd, Nat.reduceMul, Nat.reduceLeDiff, Nat.reduceEqDiff, reduceCtorEq, Nat.reduceSub, Int.reduceNeg, Nat.reduceMod, Nat.reduceBEq, Nat.reduceLT] <;> try simp only [bOf_t, bOf_f, decide_eq_true_eq, decide_eq_false_iff_not, Bool.not_eq_true', Bool.not_eq_false', Bool.not_eq_true, Bool.not_eq_false, Decidable.not_not] at hb) | (refine gB_split (fun hb => ?_) (fun hb => ?_) <;> simp -implicitDefEqProofs only [hb, go_sem, k109, m109, c109_eq, k110, m110, c110_eq, k111, m111, c111_eq, k80, m80, c80_eq, ty134, bif_drop, Nat.reduceAdd, Nat.reduceMul, Nat.reduceLeDiff, Nat.reduceEqDiff, reduceCtorEq, Nat.reduceSub, Int.reduceNeg, Nat.reduceMod, Nat.reduceBEq, Nat.reduceLT] <;> try simp only [bOf_t, bOf_f, decide_eq_true_eq, decide_eq_false_iff_not, Bool.not_eq_true', Bool.not_eq_false', Bool.not_eq_true, Bool.not_eq_false, Decidable.not_not] at hb))
      all_goals first | rfl | omega | exact kd3 | exact hpre.1 | exact hpre.2 | skip
      refine Le.of ?_ ?_
      all_goals simp -implicitDefEqProofs only [leS, leT, done1, hD, hp, go_sem, k109, m109, c109_eq, k110, m110, c110_eq, k111, m111, c111_eq, k80, m80, c80_eq, ty134, bif_drop, Nat.reduceAdd, Nat.reduceMul, Nat.reduceLeDiff, Nat.reduceEqDiff, reduceCtorEq, Nat.reduceSub, Int.reduceNeg, Nat.reduceMod, Nat.reduceBEq, Nat.reduceLT]
      all_goals (try simp [done1, hD, hp])
      all_goals trace_state
    · clear hcl
      simp -implicitDefEqProofs only [Bool.and_eq_true, go_sem, k109, m109, c109_eq, k110, m110, c110_eq, k111, m111, c111_eq, k80, m80, c80_eq, ty134, bif_drop, Nat.reduceAdd, Nat.reduceMul, Nat.reduceLeDiff, Nat.reduceEqDiff, reduceCtorEq, Nat.reduceSub, Int.reduceNeg, Nat.reduceMod, Nat.reduceBEq, Nat.reduceLT] at hp hD
      simp -implicitDefEqProofs only [S1, S2, hD, hp, go_sem, k109, m109, c109_eq, k110, m110, c110_eq, k111, m111, c111_eq, k80, m80, c80_eq, ty134, bif_drop, Nat.reduceAdd, Nat.reduceMul, Nat.reduceLeDiff, Nat.reduceEqDiff, reduceCtorEq, Nat.reduceSub, Int.reduceNeg, Nat.reduceMod, Nat.reduceBEq, Nat.reduceLT]
      repeat' (first | with_reducible apply And.intro | with_reducible intro _ | (refine brB_split (fun hb => ?_) (fun hb => ?_) <;> simp -implicitDefEqProofs only [hb, go_sem, k109, m109, c109_eq, k110, m110, c110_eq, k111, m111, c111_eq, k80, m80, c80_eq, ty134, bif_drop, Nat.reduceAdd, Nat.reduceMul, Nat.reduceLeDiff, Nat.reduceEqDiff, reduceCtorEq, Nat.reduceSub, Int.reduceNeg, Nat.reduceMod, Nat.reduceBEq, Nat.reduceLT] <;> try simp only [bOf_t, bOf_f, decide_eq_true_eq, decide_eq_false_iff_not, Bool.not_eq_true', Bool.not_eq_false', Bool.not_eq_true, Bool.not_eq_false, Decidable.not_not] at hb) | (refine aPickB_split (fun hb => ?_) (fun hb => ?_) <;> simp -implicitDefEqProofs only [hb, go_sem, k109, m109, c109_eq, k110, m110, c110_eq, k111, m111, c111_eq, k80, m80, c80_eq, ty134, bif_drop, Nat.reduceAdd, Nat.reduceMul, Nat.reduceLeDiff, Nat.reduceEqDiff, reduceCtorEq, Nat.reduceSub, Int.reduceNeg, Nat.reduceMod, Nat.reduceBEq, Nat.reduceLT] <;> try simp only [bOf_t, bOf_f, decide_eq_true_eq, decide_eq_false_iff_not, Bool.not_eq_true', Bool.not_eq_false', Bool.not_eq_true, Bool.not_eq_false, Decidable.not_not] at hb) | (refine gB_split (fun hb => ?_) (fun hb => ?_) <;> simp -implicitDefEqProofs only [hb, go_sem, k109, m109, c109_eq, k110, m110, c110_eq, k111, m111, c111_eq, k80, m80, c80_eq, ty134, bif_drop, Nat.reduceAdd, Nat.reduceMul, Nat.reduceLeDiff, Nat.reduceEqDiff, reduceCtorEq, Nat.reduceSub, Int.reduceNeg, Nat.reduceMod, Nat.reduceBEq, Nat.reduceLT] <;> try simp only [bOf_t, bOf_f, decide_eq_true_eq, decide_eq_false_iff_not, Bool.not_eq_true', Bool.not_eq_false', Bool.not_eq_true, Bool.not_eq_false, Decidable.not_not] at hb))
      all_goals first | rfl | omega | exact kd3 | exact hpre.1 | exact hpre.2 | skip
      refine Le.of ?_ ?_
      all_goals simp -implicitDefEqProofs only [leS, leT, done1, hD, hp, go_sem, k109, m109, c109_eq, k110, m110, c110_eq, k111, m111, c111_eq, k80, m80, c80_eq, ty134, bif_drop, Nat.reduceAdd, Nat.reduceMul, Nat.reduceLeDiff, Nat.reduceEqDiff, reduceCtorEq, Nat.reduceSub, Int.reduceNeg, Nat.reduceMod, Nat.reduceBEq, Nat.reduceLT]
      all_goals (try simp [done1, hD, hp])
      all_goals trace_state
    · clear hcl
      simp -implicitDefEqProofs only [Bool.and_eq_true, go_sem, k109, m109, c109_eq, k110, m110, c110_eq, k111, m111, c111_eq, k80, m80, c80_eq, ty134, bif_drop, Nat.reduceAdd, Nat.reduceMul, Nat.reduceLeDiff, Nat.reduceEqDiff, reduceCtorEq, Nat.reduceSub, Int.reduceNeg, Nat.reduceMod, Nat.reduceBEq, Nat.reduceLT] at hp hD
      simp -implicitDefEqProofs only [S1, S2, hD, hp, go_sem, k109, m109, c109_eq, k110, m110, c110_eq, k111, m111, c111_eq, k80, m80, c80_eq, ty134, bif_drop, Nat.reduceAdd, Nat.reduceMul, Nat.reduceLeDiff, Nat.reduceEqDiff, reduceCtorEq, Nat.reduceSub, Int.reduceNeg, Nat.reduceMod, Nat.reduceBEq, Nat.reduceLT]
      repeat' (first | with_reducible apply And.intro | with_reducible intro _ | (refine brB_split (fun hb => ?_) (fun hb => ?_) <;> simp -implicitDefEqProofs only [hb, go_sem, k109, m109, c109_eq, k110, m110, c110_eq, k111, m111, c111_eq, k80, m80, c80_eq, ty134, bif_drop, Nat.reduceAdd, Nat.reduceMul, Nat.reduceLeDiff, Nat.reduceEqDiff, reduceCtorEq, Nat.reduceSub, Int.reduceNeg, Nat.reduceMod, Nat.reduceBEq, Nat.reduceLT] <;> try simp only [bOf_t, bOf_f, decide_eq_true_eq, decide_eq_false_iff_not, Bool.not_eq_true', Bool.not_eq_false', Bool.not_eq_true, Bool.not_eq_false, Decidable.not_not] at hb) | (refine aPickB_split (fun hb => ?_) (fun hb => ?_) <;> simp -implicitDefEqProofs only [hb, go_sem, k109, m109, c109_eq, k110, m110, c110_eq, k111, m111, c111_eq, k80, m80, c80_eq, ty134, bif_drop, Nat.reduceAdd, Nat.reduceMul, Nat.reduceLeDiff, Nat.reduceEqDiff, reduceCtorEq, Nat.reduceSub, Int.reduceNeg, Nat.reduceMod, Nat.reduceBEq, Nat.reduceLT] <;> try simp only [bOf_t, bOf_f, decide_eq_true_eq, decide_eq_false_iff_not, Bool.not_eq_true', Bool.not_eq_false', Bool.not_eq_true, Bool.not_eq_false, Decidable.not_not] at hb) | (refine gB_split (fun hb => ?_) (fun hb => ?_) <;> simp -implicitDefEqProofs only [hb, go_sem, k109, m109, c109_eq, k110, m110, c110_eq, k111, m111, c111_eq, k80, m80, c80_eq, ty134, bif_drop, Nat.reduceAdd, Nat.reduceMul, Nat.reduceLeDiff, Nat.reduceEqDiff, reduceCtorEq, Nat.reduceSub, Int.reduceNeg, Nat.reduceMod, Nat.reduceBEq, Nat.reduceLT] <;> try simp only [bOf_t, bOf_f, decide_eq_true_eq, decide_eq_false_iff_not, Bool.not_eq_true', Bool.not_eq_false', Bool.not_eq_true, Bool.not_eq_false, Decidable.not_not] at hb))
      all_goals first | rfl | omega | exact kd3 | exact hpre.1 | exact hpre.2 | skip
      refine Le.of ?_ ?_
      all_goals simp -implicitDefEqProofs only [leS, leT, done1, hD, hp, go_sem, k109, m109, c109_eq, k110, m110, c110_eq, k111, m111, c111_eq, k80, m80, c80_eq, ty134, bif_drop, Nat.reduceAdd, Nat.reduceMul, Nat.reduceLeDiff, Nat.reduceEqDiff, reduceCtorEq, Nat.reduceSub, Int.reduceNeg, Nat.reduceMod, Nat.reduceBEq, Nat.reduceLT]
      all_goals (try simp [done1, hD, hp])
      all_goals trace_state
    · clear hcl
      simp -implicitDefEqProofs only [Bool.and_eq_true, go_sem, k109, m109, c109_eq, k110, m110, c110_eq, k111, m111, c111_eq, k80, m80, c80_eq, ty134, bif_drop, Nat.reduceAdd, Nat.reduceMul, Nat.reduceLeDiff, Nat.reduceEqDiff, reduceCtorEq, Nat.reduceSub, Int.reduceNeg, Nat.reduceMod, Nat.reduceBEq, Nat.reduceLT] at hp hD
      simp -implicitDefEqProofs only [S1, S2, hD, hp, go_sem, k109, m109, c109_eq, k110, m110, c110_eq, k111, m111, c111_eq, k80, m80, c80_eq, ty134, bif_drop, Nat.reduceAdd, Nat.reduceMul, Nat.reduceLeDiff, Nat.reduceEqDiff, reduceCtorEq, Nat.reduceSub, Int.reduceNeg, Nat.reduceMod, Nat.reduceBEq, Nat.reduceLT]
      repeat' (first | with_reducible apply And.intro | with_reducible intro _ | (refine brB_split (fun hb => ?_) (fun hb => ?_) <;> simp -implicitDefEqProofs only [hb, go_sem, k109, m109, c109_eq, k110, m110, c110_eq, k111, m111, c111_eq, k80, m80, c80_eq, ty134, bif_drop, Nat.reduceAdd, Nat.reduceMul, Nat.reduceLeDiff, Nat.reduceEqDiff, reduceCtorEq, Nat.reduceSub, Int.reduceNeg, Nat.reduceMod, Nat.reduceBEq, Nat.reduceLT] <;> try simp only [bOf_t, bOf_f, decide_eq_true_eq, decide_eq_false_iff_not, Bool.not_eq_true', Bool.not_eq_false', Bool.not_eq_true, Bool.not_eq_false, Decidable.not_not] at hb) | (refine aPickB_split (fun hb => ?_) (fun hb => ?_) <;> simp -implicitDefEqProofs only [hb, go_sem, k109, m109, c109_eq, k110, m110, c110_eq, k111, m111, c111_eq, k80, m80, c80_eq, ty134, bif_drop, Nat.reduceAdd, Nat.reduceMul, Nat.reduceLeDiff, Nat.reduceEqDiff, reduceCtorEq, Nat.reduceSub, Int.reduceNeg, Nat.reduceMod, Nat.reduceBEq, Nat.reduceLT] <;> try simp only [bOf_t, bOf_f, decide_eq_true_eq, decide_eq_false_iff_not, Bool.not_eq_true', Bool.not_eq_false', Bool.not_eq_true, Bool.not_eq_false, Decidable.not_not] at hb) | (refine gB_split (fun hb => ?_) (fun hb => ?_) <;> simp -implicitDefEqProofs only [hb, go_sem, k109, m109, c109_eq, k110, m110, c110_eq, k111, m111, c111_eq, k80, m80, c80_eq, ty134, bif_drop, Nat.reduceAdd, Nat.reduceMul, Nat.reduceLeDiff, Nat.reduceEqDiff, reduceCtorEq, Nat.reduceSub, Int.reduceNeg, Nat.reduceMod, Nat.reduceBEq, Nat.reduceLT] <;> try simp only [bOf_t, bOf_f, decide_eq_true_eq, decide_eq_false_iff_not, Bool.not_eq_true', Bool.not_eq_false', Bool.not_eq_true, Bool.not_eq_false, Decidable.not_not] at hb))
      all_goals first | rfl | omega | exact kd3 | exact hpre.1 | exact hpre.2 | skip
      refine Le.of1 (id := 1005) (e2 := ?e1005x4) (by exact rfl) ?hp1005x4 ?h11005x4 ?h21005x4
      case hp1005x4 => exact upA1
      all_goals simp -implicitDefEqProofs only [leS, leT, done1, hD, hp, go_sem, k109, m109, c109_eq, k110, m110, c110_eq, k111, m111, c111_eq, k80, m80, c80_eq, ty134, bif_drop, Nat.reduceAdd, Nat.reduceMul, Nat.reduceLeDiff, Nat.reduceEqDiff, reduceCtorEq, Nat.reduceSub, Int.reduceNeg, Nat.reduceMod, Nat.reduceBEq, Nat.reduceLT]
      all_goals (try simp [done1, hD, hp])
      all_goals trace_state
    · clear hcl
      simp -implicitDefEqProofs only [Bool.and_eq_true, go_sem, k109, m109, c109_eq, k110, m110, c110_eq, k111, m111, c111_eq, k80, m80, c80_eq, ty134, bif_drop, Nat.reduceAdd, Nat.reduceMul, Nat.reduceLeDiff, Nat.reduceEqDiff, reduceCtorEq, Nat.reduceSub, Int.reduceNeg, Nat.reduceMod, Nat.reduceBEq, Nat.reduceLT] at hp hD
      simp -implicitDefEqProofs only [S1, S2, hD, hp, go_sem, k109, m109, c109_eq, k110, m110, c110_eq, k111, m111, c111_eq, k80, m80, c80_eq, ty134, bif_drop, Nat.reduceAdd, Nat.reduceMul, Nat.reduceLeDiff, Nat.reduceEqDiff, reduceCtorEq, Nat.reduceSub, Int.reduceNeg, Nat.reduceMod, Nat.reduceBEq, Nat.reduceLT]
      repeat' (first | with_reducible apply And.intro | with_reducible intro _ | (refine brB_split (fun hb => ?_) (fun hb => ?_) <;> simp -implicitDefEqProofs only [hb, go_sem, k109, m109, c109_eq, k110, m110, c110_eq, k111, m111, c111_eq, k80, m80, c80_eq, ty134, bif_drop, Nat.reduceAdd, Nat.reduceMul, Nat.reduceLeDiff, Nat.reduceEqDiff, reduceCtorEq, Nat.reduceSub, Int.reduceNeg, Nat.reduceMod, Nat.reduceBEq, Nat.reduceLT] <;> try simp only [bOf_t, bOf_f, decide_eq_true_eq, decide_eq_false_iff_not, Bool.not_eq_true', Bool.not_eq_false', Bool.not_eq_true, Bool.not_eq_false, Decidable.not_not] at hb) | (refine aPickB_split (fun hb => ?_) (fun hb => ?_) <;> simp -implicitDefEqProofs only [hb, go_sem, k109, m109, c109_eq, k110, m110, c110_eq, k111, m111, c111_eq, k80, m80, c80_eq, ty134, bif_drop, Nat.reduceAdd, Nat.reduceMul, Nat.reduceLeDiff, Nat.reduceEqDiff, reduceCtorEq, Nat.reduceSub, Int.reduceNeg, Nat.reduceMod, Nat.reduceBEq, Nat.reduceLT] <;> try simp only [bOf_t, bOf_f, decide_eq_true_eq, decide_eq_false_iff_not, Bool.not_eq_true', Bool.not_eq_false', Bool.not_eq_true, Bool.not_eq_false, Decidable.not_not] at hb) | (refine gB_split (fun hb => ?_) (fun hb => ?_) <;> simp -implicitDefEqProofs only [hb, go_sem, k109, m109, c109_eq, k110, m110, c110_eq, k111, m111, c111_eq, k80, m80, c80_eq, ty134, bif_drop, Nat.reduceAdd, Nat.reduceMul, Nat.reduceLeDiff, Nat.reduceEqDiff, reduceCtorEq, Nat.reduceSub, Int.reduceNeg, Nat.reduceMod, Nat.reduceBEq, Nat.reduceLT] <;> try simp only [bOf_t, bOf_f, decide_eq_true_eq, decide_eq_false_iff_not, Bool.not_eq_true', Bool.not_eq_false', Bool.not_eq_true, Bool.not_eq_false, Decidable.not_not] at hb))
      all_goals first | rfl | omega | exact kd3 | exact hpre.1 | exact hpre.2 | skip
      refine Le.of ?_ ?_
      all_goals simp -implicitDefEqProofs only [leS, leT, done1, hD, hp, go_sem, k109, m109, c109_eq, k110, m110, c110_eq, k111, m111, c111_eq, k80, m80, c80_eq, ty134, bif_drop, Nat.reduceAdd, Nat.reduceMul, Nat.reduceLeDiff, Nat.reduceEqDiff, reduceCtorEq, Nat.reduceSub, Int.reduceNeg, Nat.reduceMod, Nat.reduceBEq, Nat.reduceLT]
      all_goals (try simp [done1, hD, hp])
      all_goals trace_state
    · clear hcl
      simp -implicitDefEqProofs only [Bool.and_eq_true, go_sem, k109, m109, c109_eq, k110, m110, c110_eq, k111, m111, c111_eq, k80, m80, c80_eq, ty134, bif_drop, Nat.reduceAdd, Nat.reduceMul, Nat.reduceLeDiff, Nat.reduceEqDiff, reduceCtorEq, Nat.reduceSub, Int.reduceNeg, Nat.reduceMod, Nat.reduceBEq, Nat.reduceLT] at hp hD
      simp -implicitDefEqProofs only [S1, S2, hD, hp, go_sem, k109, m109, c109_eq, k110, m110, c110_eq, k111, m111, c111_eq, k80, m80, c80_eq, ty134, bif_drop, Nat.reduceAdd, Nat.reduceMul, Nat.reduceLeDiff, Nat.reduceEqDiff, reduceCtorEq, Nat.reduceSub, Int.reduceNeg, Nat.reduceMod, Nat.reduceBEq, Nat.reduceLT]
      repeat' (first | with_reducible apply And.intro | with_reducible intro _ | (refine brB_split (fun hb => ?_) (fun hb => ?_) <;> simp -implicitDefEqProofs only [hb, go_sem, k109, m109, c109_eq, k110, m110, c110_eq, k111, m111, c111_eq, k80, m80, c80_eq, ty134, bif_drop, Nat.reduceAdd, Nat.reduceMul, Nat.reduceLeDiff, Nat.reduceEqDiff, reduceCtorEq, Nat.reduceSub, Int.reduceNeg, Nat.reduceMod, Nat.reduceBEq, Nat.reduceLT] <;> try simp only [bOf_t, bOf_f, decide_eq_true_eq, decide_eq_false_iff_not, Bool.not_eq_true', Bool.not_eq_false', Bool.not_eq_true, Bool.not_eq_false, Decidable.not_not] at hb) | (refine aPickB_split (fun hb => ?_) (fun hb => ?_) <;> simp -implicitDefEqProofs only [hb, go_sem, k109, m109, c109_eq, k110, m110, c110_eq, k111, m111, c111_eq, k80, m80, c80_eq, ty134, bif_drop, Nat.reduceAdd, Nat.reduceMul, Nat.reduceLeDiff, Nat.reduceEqDiff, reduceCtorEq, Nat.reduceSub, Int.reduceNeg, Nat.reduceMod, Nat.reduceBEq, Nat.reduceLT] <;> try simp only [bOf_t, bOf_f, decide_eq_true_eq, decide_eq_false_iff_not, Bool.not_eq_true', Bool.not_eq_false', Bool.not_eq_true, Bool.not_eq_false, Decidable.not_not] at hb) | (refine gB_split (fun hb => ?_) (fun hb => ?_) <;> simp -implicitDefEqProofs only [hb, go_sem, k109, m109, c109_eq, k110, m110, c110_eq, k111, m111, c111_eq, k80, m80, c80_eq, ty134, bif_drop, Nat.reduceAdd, Nat.reduceMul, Nat.reduceLeDiff, Nat.reduceEqDiff, reduceCtorEq, Nat.reduceSub, Int.reduceNeg, Nat.reduceMod, Nat.reduceBEq, Nat.reduceLT] <;> try simp only [bOf_t, bOf_f, decide_eq_true_eq, decide_eq_false_iff_not, Bool.not_eq_true', Bool.not_eq_false', Bool.not_eq_true, Bool.not_eq_false, Decidable.not_not] at hb))
      all_goals first | rfl | omega | exact kd3 | exact hpre.1 | exact hpre.2 | skip
      refine Le.of ?_ ?_
      all_goals simp -implicitDefEqProofs only [leS, leT, done1, hD, hp, go_sem, k109, m109, c109_eq, k110, m110, c110_eq, k111, m111, c111_eq, k80, m80, c80_eq, ty134, bif_drop, Nat.reduceAdd, Nat.reduceMul, Nat.reduceLeDiff, Nat.reduceEqDiff, reduceCtorEq, Nat.reduceSub, Int.reduceNeg, Nat.reduceMod, Nat.reduceBEq, Nat.reduceLT]
      all_goals (try simp [done1, hD, hp])
      all_goals trace_state
    · clear hcl
      simp -implicitDefEqProofs only [Bool.and_eq_true, go_sem, k109, m109, c109_eq, k110, m110, c110_eq, k111, m111, c111_eq, k80, m80, c80_eq, ty134, bif_drop, Nat.reduceAdd, Nat.reduceMul, Nat.reduceLeDiff, Nat.reduceEqDiff, reduceCtorEq, Nat.reduceSub, Int.reduceNeg, Nat.reduceMod, Nat.reduceBEq, Nat.reduceLT] at hp hD
      simp -implicitDefEqProofs only [S1, S2, hD, hp, go_sem, k109, m109, c109_eq, k110, m110, c110_eq, k111, m111, c111_eq, k80, m80, c80_eq, ty134, bif_drop, Nat.reduceAdd, Nat.reduceMul, Nat.reduceLeDiff, Nat.reduceEqDiff, reduceCtorEq, Nat.reduceSub, Int.reduceNeg, Nat.reduceMod, Nat.reduceBEq, Nat.reduceLT]
      repeat' (first | with_reducible apply And.intro | with_reducible intro _ | (refine brB_split (fun hb => ?_) (fun hb => ?_) <;> simp -implicitDefEqProofs only [hb, go_sem, k109, m109, c109_eq, k110, m110, c110_eq, k111, m111, c111_eq, k80, m80, c80_eq, ty134, bif_drop, Nat.reduceAdd, Nat.reduceMul, Nat.reduceLeDiff, Nat.reduceEqDiff, reduceCtorEq, Nat.reduceSub, Int.reduceNeg, Nat.reduceMod, Nat.reduceBEq, Nat.reduceLT] <;> try simp only [bOf_t, bOf_f, decide_eq_true_eq, decide_eq_false_iff_not, Bool.not_eq_true', Bool.not_eq_false', Bool.not_eq_true, Bool.not_eq_false, Decidable.not_not] at hb) | (refine aPickB_split (fun hb => ?_) (fun hb => ?_) <;> simp -implicitDefEqProofs only [hb, go_sem, k109, m109, c109_eq, k110, m110, c110_eq, k111, m111, c111_eq, k80, m80, c80_eq, ty134, bif_drop, Nat.reduceAdd, Nat.reduceMul, Nat.reduceLeDiff, Nat.reduceEqDiff, reduceCtorEq, Nat.reduceSub, Int.reduceNeg, Nat.reduceMod, Nat.reduceBEq, Nat.reduceLT] <;> try simp only [bOf_t, bOf_f, decide_eq_true_eq, decide_eq_false_iff_not, Bool.not_eq_true', Bool.not_eq_false', Bool.not_eq_true, Bool.not_eq_false, Decidable.not_not] at hb) | (refine gB_split (fun hb => ?_) (fun hb => ?_) <;> simp -implicitDefEqProofs only [hb, go_sem, k109, m109, c109_eq, k110, m110, c110_eq, k111, m111, c111_eq, k80, m80, c80_eq, ty134, bif_drop, Nat.reduceAdd, Nat.reduceMul, Nat.reduceLeDiff, Nat.reduceEqDiff, reduceCtorEq, Nat.reduceSub, Int.reduceNeg, Nat.reduceMod, Nat.reduceBEq, Nat.reduceLT] <;> try simp only [bOf_t, bOf_f, decide_eq_true_eq, decide_eq_false_iff_not, Bool.not_eq_true', Bool.not_eq_false', Bool.not_eq_true, Bool.not_eq_false, Decidable.not_not] at hb))
      all_goals first | rfl | omega | exact kd3 | exact hpre.1 | exact hpre.2 | skip
      refine Le.of ?_ ?_
      all_goals simp -implicitDefEqProofs only [leS, leT, done1, hD, hp, go_sem, k109, m109, c109_eq, k110, m110, c110_eq, k111, m111, c111_eq, k80, m80, c80_eq, ty134, bif_drop, Nat.reduceAdd, Nat.reduceMul, Nat.reduceLeDiff, Nat.reduceEqDiff, reduceCtorEq, Nat.reduceSub, Int.reduceNeg, Nat.reduceMod, Nat.reduceBEq, Nat.reduceLT]
      all_goals (try simp [done1, hD, hp])
      all_goals trace_state
    · clear hcl
      simp -implicitDefEqProofs only [Bool.and_eq_true, go_sem, k109, m109, c109_eq, k110, m110, c110_eq, k111, m111, c111_eq, k80, m80, c80_eq, ty134, bif_drop, Nat.reduceAdd, Nat.reduceMul, Nat.reduceLeDiff, Nat.reduceEqDiff, reduceCtorEq, Nat.reduceSub, Int.reduceNeg, Nat.reduceMod, Nat.reduceBEq, Nat.reduceLT] at hp hD
      simp -implicitDefEqProofs only [S1, S2, hD, hp, go_sem, k109, m109, c109_eq, k110, m110, c110_eq, k111, m111, c111_eq, k80, m80, c80_eq, ty134, bif_drop, Nat.reduceAdd, Nat.reduceMul, Nat.reduceLeDiff, Nat.reduceEqDiff, reduceCtorEq, Nat.reduceSub, Int.reduceNeg, Nat.reduceMod, Nat.reduceBEq, Nat.reduceLT]
      repeat' (first | with_reducible apply And.intro | with_reducible intro _ | (refine brB_split (fun hb => ?_) (fun hb => ?_) <;> simp -implicitDefEqProofs only [hb, go_sem, k109, m109, c109_eq, k110, m110, c110_eq, k111, m111, c111_eq, k80, m80, c80_eq, ty134, bif_drop, Nat.reduceAdd, Nat.reduceMul, Nat.reduceLeDiff, Nat.reduceEqDiff, reduceCtorEq, Nat.reduceSub, Int.reduceNeg, Nat.reduceMod, Nat.reduceBEq, Nat.reduceLT] <;> try simp only [bOf_t, bOf_f, decide_eq_true_eq, decide_eq_false_iff_not, Bool.not_eq_true', Bool.not_eq_false', Bool.not_eq_true, Bool.not_eq_false, Decidable.not_not] at hb) | (refine aPickB_split (fun hb => ?_) (fun hb => ?_) <;> simp -implicitDefEqProofs only [hb, go_sem, k109, m109, c109_eq, k110, m110, c110_eq, k111, m111, c111_eq, k80, m80, c80_eq, ty134, bif_drop, Nat.reduceAdd, Nat.reduceMul, Nat.reduceLeDiff, Nat.reduceEqDiff, reduceCtorEq, Nat.reduceSub, Int.reduceNeg, Nat.reduceMod, Nat.reduceBEq, Nat.reduceLT] <;> try simp only [bOf_t, bOf_f, decide_eq_true_eq, decide_eq_false_iff_not, Bool.not_eq_true', Bool.not_eq_false', Bool.not_eq_true, Bool.not_eq_false, Decidable.not_not] at hb) | (refine gB_split (fun hb => ?_) (fun hb => ?_) <;> simp -implicitDefEqProofs only [hb, go_sem, k109, m109, c109_eq, k110, m110, c110_eq, k111, m111, c111_eq, k80, m80, c80_eq, ty134, bif_drop, Nat.reduceAdd, Nat.reduceMul, Nat.reduceLeDiff, Nat.reduceEqDiff, reduceCtorEq, Nat.reduceSub, Int.reduceNeg, Nat.reduceMod, Nat.reduceBEq, Nat.reduceLT] <;> try simp only [bOf_t, bOf_f, decide_eq_true_eq, decide_eq_false_iff_not, Bool.not_eq_true', Bool.not_eq_false', Bool.not_eq_true, Bool.not_eq_false, Decidable.not_not] at hb))
      all_goals first | rfl | omega | exact kd3 | exact hpre.1 | exact hpre.2 | skip
      refine Le.of1 (id := 1005) (e2 := ?e1005x8) (by exact rfl) ?hp1005x8 ?h11005x8 ?h21005x8
      case hp1005x8 => exact upA2
      all_goals simp -implicitDefEqProofs only [leS, leT, done1, hD, hp, go_sem, k109, m109, c109_eq, k110, m110, c110_eq, k111, m111, c111_eq, k80, m80, c80_eq, ty134, bif_drop, Nat.reduceAdd, Nat.reduceMul, Nat.reduceLeDiff, Nat.reduceEqDiff, reduceCtorEq, Nat.reduceSub, Int.reduceNeg, Nat.reduceMod, Nat.reduceBEq, Nat.reduceLT]
      all_goals (try simp [done1, hD, hp])
      all_goals trace_state
    · clear hcl
      simp -implicitDefEqProofs only [Bool.and_eq_true, go_sem, k109, m109, c109_eq, k110, m110, c110_eq, k111, m111, c111_eq, k80, m80, c80_eq, ty134, bif_drop, Nat.reduceAdd, Nat.reduceMul, Nat.reduceLeDiff, Nat.reduceEqDiff, reduceCtorEq, Nat.reduceSub, Int.reduceNeg, Nat.reduceMod, Nat.reduceBEq, Nat.reduceLT] at hp hD
      simp -implicitDefEqProofs only [S1, S2, hD, hp, go_sem, k109, m109, c109_eq, k110, m110, c110_eq, k111, m111, c111_eq, k80, m80, c80_eq, ty134, bif_drop, Nat.reduceAdd, Nat.reduceMul, Nat.reduceLeDiff, Nat.reduceEqDiff, reduceCtorEq, Nat.reduceSub, Int.reduceNeg, Nat.reduceMod, Nat.reduceBEq, Nat.reduceLT]
      repeat' (first | with_reducible apply And.intro | with_reducible intro _ | (refine brB_split (fun hb => ?_) (fun hb => ?_) <;> simp -implicitDefEqProofs only [hb, go_sem, k109, m109, c109_eq, k110, m110, c110_eq, k111, m111, c111_eq, k80, m80, c80_eq, ty134, bif_drop, Nat.reduceAdd, Nat.reduceMul, Nat.reduceLeDiff, Nat.reduceEqDiff, reduceCtorEq, Nat.reduceSub, Int.reduceNeg, Nat.reduceMod, Nat.reduceBEq, Nat.reduceLT] <;> try simp only [bOf_t, bOf_f, decide_eq_true_eq, decide_eq_false_iff_not, Bool.not_eq_true', Bool.not_eq_false', Bool.not_eq_true, Bool.not_eq_false, Decidable.not_not] at hb) | (refine aPickB_split (fun hb => ?_) (fun hb => ?_) <;> simp -implicitDefEqProofs only [hb, go_sem, k109, m109, c109_eq, k110, m110, c110_eq, k111, m111, c111_eq, k80, m80, c80_eq, ty134, bif_drop, Nat.reduceAdd, Nat.reduceMul, Nat.reduceLeDiff, Nat.reduceEqDiff, reduceCtorEq, Nat.reduceSub, Int.reduceNeg, Nat.reduceMod, Nat.reduceBEq, Nat.reduceLT] <;> try simp only [bOf_t, bOf_f, decide_eq_true_eq, decide_eq_false_iff_not, Bool.not_eq_true', Bool.not_eq_false', Bool.not_eq_true, Bool.not_eq_false, Decidable.not_not] at hb) | (refine gB_split (fun hb => ?_) (fun hb => ?_) <;> simp -implicitDefEqProofs only [hb, go_sem, k109, m109, c109_eq, k110, m110, c110_eq, k111, m111, c111_eq, k80, m80, c80_eq, ty134, bif_drop, Nat.reduceAdd, Nat.reduceMul, Nat.reduceLeDiff, Nat.reduceEqDiff, reduceCtorEq, Nat.reduceSub, Int.reduceNeg, Nat.reduceMod, Nat.reduceBEq, Nat.reduceLT] <;> try simp only [bOf_t, bOf_f, decide_eq_true_eq, decide_eq_false_iff_not, Bool.not_eq_true', Bool.not_eq_false', Bool.not_eq_true, Bool.not_eq_false, Decidable.not_not] at hb))
      all_goals first | rfl | omega | exact kd3 | exact hpre.1 | exact hpre.2 | skip
      refine Le.of ?_ ?_
      all_goals simp -implicitDefEqProofs only [leS, leT, done1, hD, hp, go_sem, k109, m109, c109_eq, k110, m110, c110_eq, k111, m111, c111_eq, k80, m80, c80_eq, ty134, bif_drop, Nat.reduceAdd, Nat.reduceMul, Nat.reduceLeDiff, Nat.reduceEqDiff, reduceCtorEq, Nat.reduceSub, Int.reduceNeg, Nat.reduceMod, Nat.reduceBEq, Nat.reduceLT]
      all_goals (try simp [done1, hD, hp])
      all_goals trace_state
    · clear hcl
      simp -implicitDefEqProofs only [Bool.and_eq_true, go_sem, k109, m109, c109_eq, k110, m110, c110_eq, k111, m111, c111_eq, k80, m80, c80_eq, ty134, bif_drop, Nat.reduceAdd, Nat.reduceMul, Nat.reduceLeDiff, Nat.reduceEqDiff, reduceCtorEq, Nat.reduceSub, Int.reduceNeg, Nat.reduceMod, Nat.reduceBEq, Nat.reduceLT] at hp hD
      simp -implicitDefEqProofs only [S1, S2, hD, hp, go_sem, k109, m109, c109_eq, k110, m110, c110_eq, k111, m111, c111_eq, k80, m80, c80_eq, ty134, bif_drop, Nat.reduceAdd, Nat.reduceMul, Nat.reduceLeDiff, Nat.reduceEqDiff, reduceCtorEq, Nat.reduceSub, Int.reduceNeg, Nat.reduceMod, Nat.reduceBEq, Nat.reduceLT]
      repeat' (first | with_reducible apply And.intro | with_reducible intro _ | (refine brB_split (fun hb => ?_) (fun hb => ?_) <;> simp -implicitDefEqProofs only [hb, go_sem, k109, m109, c109_eq, k110, m110, c110_eq, k111, m111, c111_eq, k80, m80, c80_eq, ty134, bif_drop, Nat.reduceAdd, Nat.reduceMul, Nat.reduceLeDiff, Nat.reduceEqDiff, reduceCtorEq, Nat.reduceSub, Int.reduceNeg, Nat.reduceMod, Nat.reduceBEq, Nat.reduceLT] <;> try simp only [bOf_t, bOf_f, decide_eq_true_eq, decide_eq_false_iff_not, Bool.not_eq_true', Bool.not_eq_false', Bool.not_eq_true, Bool.not_eq_false, Decidable.not_not] at hb) | (refine aPickB_split (fun hb => ?_) (fun hb => ?_) <;> simp -implicitDefEqProofs only [hb, go_sem, k109, m109, c109_eq, k110, m110, c110_eq, k111, m111, c111_eq, k80, m80, c80_eq, ty134, bif_drop, Nat.reduceAdd, Nat.reduceMul, Nat.reduceLeDiff, Nat.reduceEqDiff, reduceCtorEq, Nat.reduceSub, Int.reduceNeg, Nat.reduceMod, Nat.reduceBEq, Nat.reduceLT] <;> try simp only [bOf_t, bOf_f, decide_eq_true_eq, decide_eq_false_iff_not, Bool.not_eq_true', Bool.not_eq_false', Bool.not_eq_true, Bool.not_eq_false, Decidable.not_not] at hb) | (refine gB_split (fun hb => ?_) (fun hb => ?_) <;> simp -implicitDefEqProofs only [hb, go_sem, k109, m109, c109_eq, k110, m110, c110_eq, k111, m111, c111_eq, k80, m80, c80_eq, ty134, bif_drop, Nat.reduceAdd, Nat.reduceMul, Nat.reduceLeDiff, Nat.reduceEqDiff, reduceCtorEq, Nat.reduceSub, Int.reduceNeg, Nat.reduceMod, Nat.reduceBEq, Nat.reduceLT] <;> try simp only [bOf_t, bOf_f, decide_eq_true_eq, decide_eq_false_iff_not, Bool.not_eq_true', Bool.not_eq_false', Bool.not_eq_true, Bool.not_eq_false, Decidable.not_not] at hb))
      all_goals first | rfl | omega | exact kd3 | exact hpre.1 | exact hpre.2 | skip
      refine Le.of ?_ ?_
      all_goals simp -implicitDefEqProofs only [leS, leT, done1, hD, hp, go_sem, k109, m109, c109_eq, k110, m110, c110_eq, k111, m111, c111_eq, k80, m80, c80_eq, ty134, bif_drop, Nat.reduceAdd, Nat.reduceMul, Nat.reduceLeDiff, Nat.reduceEqDiff, reduceCtorEq, Nat.reduceSub, Int.reduceNeg, Nat.reduceMod, Nat.reduceBEq, Nat.reduceLT]
      all_goals (try simp [done1, hD, hp])
      all_goals trace_state
    · clear hcl
      simp -implicitDefEqProofs only [Bool.and_eq_true, go_sem, k109, m109, c109_eq, k110, m110, c110_eq, k111, m111, c111_eq, k80, m80, c80_eq, ty134, bif_drop, Nat.reduceAdd, Nat.reduceMul, Nat.reduceLeDiff, Nat.reduceEqDiff, reduceCtorEq, Nat.reduceSub, Int.reduceNeg, Nat.reduceMod, Nat.reduceBEq, Nat.reduceLT] at hp hD
      simp -implicitDefEqProofs only [S1, S2, hD, hp, go_sem, k109, m109, c109_eq, k110, m110, c110_eq, k111, m111, c111_eq, k80, m80, c80_eq, ty134, bif_drop, Nat.reduceAdd, Nat.reduceMul, Nat.reduceLeDiff, Nat.reduceEqDiff, reduceCtorEq, Nat.reduceSub, Int.reduceNeg, Nat.reduceMod, Nat.reduceBEq, Nat.reduceLT]
      repeat' (first | with_reducible apply And.intro | with_reducible intro _ | (refine brB_split (fun hb => ?_) (fun hb => ?_) <;> simp -implicitDefEqProofs only [hb, go_sem, k109, m109, c109_eq, k110, m110, c110_eq, k111, m111, c111_eq, k80, m80, c80_eq, ty134, bif_drop, Nat.reduceAdd, Nat.reduceMul, Nat.reduceLeDiff, Nat.reduceEqDiff, reduceCtorEq, Nat.reduceSub, Int.reduceNeg, Nat.reduceMod, Nat.reduceBEq, Nat.reduceLT] <;> try simp only [bOf_t, bOf_f, decide_eq_true_eq, decide_eq_false_iff_not, Bool.not_eq_true', Bool.not_eq_false', Bool.not_eq_true, Bool.not_eq_false, Decidable.not_not] at hb) | (refine aPickB_split (fun hb => ?_) (fun hb => ?_) <;> simp -implicitDefEqProofs only [hb, go_sem, k109, m109, c109_eq, k110, m110, c110_eq, k111, m111, c111_eq, k80, m80, c80_eq, ty134, bif_drop, Nat.reduceAdd, Nat.reduceMul, Nat.reduceLeDiff, Nat.reduceEqDiff, reduceCtorEq, Nat.reduceSub, Int.reduceNeg, Nat.reduceMod, Nat.reduceBEq, Nat.reduceLT] <;> try simp only [bOf_t, bOf_f, decide_eq_true_eq, decide_eq_false_iff_not, Bool.not_eq_true', Bool.not_eq_false', Bool.not_eq_true, Bool.not_eq_false, Decidable.not_not] at hb) | (refine gB_split (fun hb => ?_) (fun hb => ?_) <;> simp -implicitDefEqProofs only [hb, go_sem, k109, m109, c109_eq, k110, m110, c110_eq, k111, m111, c111_eq, k80, m80, c80_eq, ty134, bif_drop, Nat.reduceAdd, Nat.reduceMul, Nat.reduceLeDiff, Nat.reduceEqDiff, reduceCtorEq, Nat.reduceSub, Int.reduceNeg, Nat.reduceMod, Nat.reduceBEq, Nat.reduceLT] <;> try simp only [bOf_t, bOf_f, decide_eq_true_eq, decide_eq_false_iff_not, Bool.not_eq_true', Bool.not_eq_false', Bool.not_eq_true, Bool.not_eq_false, Decidable.not_not] at hb))
      all_goals first | rfl | omega | exact kd3 | exact hpre.1 | exact hpre.2 | skip
      refine Le.of ?_ ?_
      all_goals simp -implicitDefEqProofs only [leS, leT, done1, hD, hp, go_sem, k109, m109, c109_eq, k110, m110, c110_eq, k111, m111, c111_eq, k80, m80, c80_eq, ty134, bif_drop, Nat.reduceAdd, Nat.reduceMul, Nat.reduceLeDiff, Nat.reduceEqDiff, reduceCtorEq, Nat.reduceSub, Int.reduceNeg, Nat.reduceMod, Nat.reduceBEq, Nat.reduceLT]
      all_goals (try simp [done1, hD, hp])
      all_goals trace_state
    · clear hcl
      simp -implicitDefEqProofs only [Bool.and_eq_true, go_sem, k109, m109, c109_eq, k110, m110, c110_eq, k111, m111, c111_eq, k80, m80, c80_eq, ty134, bif_drop, Nat.reduceAdd, Nat.reduceMul, Nat.reduceLeDiff, Nat.reduceEqDiff, reduceCtorEq, Nat.reduceSub, Int.reduceNeg, Nat.reduceMod, Nat.reduceBEq, Nat.reduceLT] at hp hD
      simp -implicitDefEqProofs only [S1, S2, hD, hp, go_sem, k109, m109, c109_eq, k110, m110, c110_eq, k111, m111, c111_eq, k80, m80, c80_eq, ty134, bif_drop, Nat.reduceAdd, Nat.reduceMul, Nat.reduceLeDiff, Nat.reduceEqDiff, reduceCtorEq, Nat.reduceSub, Int.reduceNeg, Nat.reduceMod, Nat.reduceBEq, Nat.reduceLT]
      repeat' (first | with_reducible apply And.intro | with_reducible intro _ | (refine brB_split (fun hb => ?_) (fun hb => ?_) <;> simp -implicitDefEqProofs only [hb, go_sem, k109, m109, c109_eq, k110, m110, c110_eq, k111, m111, c111_eq, k80, m80, c80_eq, ty134, bif_drop, Nat.reduceAdd, Nat.reduceMul, Nat.reduceLeDiff, Nat.reduceEqDiff, reduceCtorEq, Nat.reduceSub, Int.reduceNeg, Nat.reduceMod, Nat.reduceBEq, Nat.reduceLT] <;> try simp only [bOf_t, bOf_f, decide_eq_true_eq, decide_eq_false_iff_not, Bool.not_eq_true', Bool.not_eq_false', Bool.not_eq_true, Bool.not_eq_false, Decidable.not_not] at hb) | (refine aPickB_split (fun hb => ?_) (fun hb => ?_) <;> simp -implicitDefEqProofs only [hb, go_sem, k109, m109, c109_eq, k110, m110, c110_eq, k111, m111, c111_eq, k80, m80, c80_eq, ty134, bif_drop, Nat.reduceAdd, Nat.reduceMul, Nat.reduceLeDiff, Nat.reduceEqDiff, reduceCtorEq, Nat.reduceSub, Int.reduceNeg, Nat.reduceMod, Nat.reduceBEq, Nat.reduceLT] <;> try simp only [bOf_t, bOf_f, decide_eq_true_eq, decide_eq_false_iff_not, Bool.not_eq_true', Bool.not_eq_false', Bool.not_eq_true, Bool.not_eq_false, Decidable.not_not] at hb) | (refine gB_split (fun hb => ?_) (fun hb => ?_) <;> simp -implicitDefEqProofs only [hb, go_sem, k109, m109, c109_eq, k110, m110, c110_eq, k111, m111, c111_eq, k80, m80, c80_eq, ty134, bif_drop, Nat.reduceAdd, Nat.reduceMul, Nat.reduceLeDiff, Nat.reduceEqDiff, reduceCtorEq, Nat.reduceSub, Int.reduceNeg, Nat.reduceMod, Nat.reduceBEq, Nat.reduceLT] <;> try simp only [bOf_t, bOf_f, decide_eq_true_eq, decide_eq_false_iff_not, Bool.not_eq_true', Bool.not_eq_false', Bool.not_eq_true, Bool.not_eq_false, Decidable.not_not] at hb))
      all_goals first | rfl | omega | exact kd3 | exact hpre.1 | exact hpre.2 | skip
      refine Le.of1 (id := 1005) (e2 := ?e1005x12) (by exact rfl) ?hp1005x12 ?h11005x12 ?h21005x12
      case hp1005x12 => exact upA3
      all_goals simp -implicitDefEqProofs only [leS, leT, done1, hD, hp, go_sem, k109, m109, c109_eq, k110, m110, c110_eq, k111, m111, c111_eq, k80, m80, c80_eq, ty134, bif_drop, Nat.reduceAdd, Nat.reduceMul, Nat.reduceLeDiff, Nat.reduceEqDiff, reduceCtorEq, Nat.reduceSub, Int.reduceNeg, Nat.reduceMod, Nat.reduceBEq, Nat.reduceLT]
      all_goals (try simp [done1, hD, hp])
      all_goals trace_state
    · clear hcl
      simp -implicitDefEqProofs only [Bool.and_eq_true, go_sem, k109, m109, c109_eq, k110, m110, c110_eq, k111, m111, c111_eq, k80, m80, c80_eq, ty134, bif_drop, Nat.reduceAdd, Nat.reduceMul, Nat.reduceLeDiff, Nat.reduceEqDiff, reduceCtorEq, Nat.reduceSub, Int.reduceNeg, Nat.reduceMod, Nat.reduceBEq, Nat.reduceLT] at hp hD
      simp -implicitDefEqProofs only [S1, S2, hD, hp, go_sem, k109, m109, c109_eq, k110, m110, c110_eq, k111, m111, c111_eq, k80, m80, c80_eq, ty134, bif_drop, Nat.reduceAdd, Nat.reduceMul, Nat.reduceLeDiff, Nat.reduceEqDiff, reduceCtorEq, Nat.reduceSub, Int.reduceNeg, Nat.reduceMod, Nat.reduceBEq, Nat.reduceLT]
      repeat' (first | with_reducible apply And.intro | with_reducible intro _ | (refine brB_split (fun hb => ?_) (fun hb => ?_) <;> simp -implicitDefEqProofs only [hb, go_sem, k109, m109, c109_eq, k110, m110, c110_eq, k111, m111, c111_eq, k80, m80, c80_eq, ty134, bif_drop, Nat.reduceAdd, Nat.reduceMul, Nat.reduceLeDiff, Nat.reduceEqDiff, reduceCtorEq, Nat.reduceSub, Int.reduceNeg, Nat.reduceMod, Nat.reduceBEq, Nat.reduceLT] <;> try simp only [bOf_t, bOf_f, decide_eq_true_eq, decide_eq_false_iff_not, Bool.not_eq_true', Bool.not_eq_false', Bool.not_eq_true, Bool.not_eq_false, Decidable.not_not] at hb) | (refine aPickB_split (fun hb => ?_) (fun hb => ?_) <;> simp -implicitDefEqProofs only [hb, go_sem, k109, m109, c109_eq, k110, m110, c110_eq, k111, m111, c111_eq, k80, m80, c80_eq, ty134, bif_drop, Nat.reduceAdd, Nat.reduceMul, Nat.reduceLeDiff, Nat.reduceEqDiff, reduceCtorEq, Nat.reduceSub, Int.reduceNeg, Nat.reduceMod, Nat.reduceBEq, Nat.reduceLT] <;> try simp only [bOf_t, bOf_f, decide_eq_true_eq, decide_eq_false_iff_not, Bool.not_eq_true', Bool.not_eq_false', Bool.not_eq_true, Bool.not_eq_false, Decidable.not_not] at hb) | (refine gB_split (fun hb => ?_) (fun hb => ?_) <;> simp -implicitDefEqProofs only [hb, go_sem, k109, m109, c109_eq, k110, m110, c110_eq, k111, m111, c111_eq, k80, m80, c80_eq, ty134, bif_drop, Nat.reduceAdd, Nat.reduceMul, Nat.reduceLeDiff, Nat.reduceEqDiff, reduceCtorEq, Nat.reduceSub, Int.reduceNeg, Nat.reduceMod, Nat.reduceBEq, Nat.reduceLT] <;> try simp only [bOf_t, bOf_f, decide_eq_true_eq, decide_eq_false_iff_not, Bool.not_eq_true', Bool.not_eq_false', Bool.not_eq_true, Bool.not_eq_false, Decidable.not_not] at hb))
      all_goals first | rfl | omega | exact kd3 | exact hpre.1 | exact hpre.2 | skip
      refine Le.of ?_ ?_
      all_goals simp -implicitDefEqProofs only [leS, leT, done1, hD, hp, go_sem, k109, m109, c109_eq, k110, m110, c110_eq, k111, m111, c111_eq, k80, m80, c80_eq, ty134, bif_drop, Nat.reduceAdd, Nat.reduceMul, Nat.reduceLeDiff, Nat.reduceEqDiff, reduceCtorEq, Nat.reduceSub, Int.reduceNeg, Nat.reduceMod, Nat.reduceBEq, Nat.reduceLT]
      all_goals (try simp [done1, hD, hp])
      all_goals trace_state
    · clear hcl
      simp -implicitDefEqProofs only [Bool.and_eq_true, go_sem, k109, m109, c109_eq, k110, m110, c110_eq, k111, m111, c111_eq, k80, m80, c80_eq, ty134, bif_drop, Nat.reduceAdd, Nat.reduceMul, Nat.reduceLeDiff, Nat.reduceEqDiff, reduceCtorEq, Nat.reduceSub, Int.reduceNeg, Nat.reduceMod, Nat.reduceBEq, Nat.reduceLT] at hp hD
      simp -implicitDefEqProofs only [S1, S2, hD, hp, go_sem, k109, m109, c109_eq, k110, m110, c110_eq, k111, m111, c111_eq, k80, m80, c80_eq, ty134, bif_drop, Nat.reduceAdd, Nat.reduceMul, Nat.reduceLeDiff, Nat.reduceEqDiff, reduceCtorEq, Nat.reduceSub, Int.reduceNeg, Nat.reduceMod, Nat.reduceBEq, Nat.reduceLT]
      repeat' (first | with_reducible apply And.intro | with_reducible intro _ | (refine brB_split (fun hb => ?_) (fun hb => ?_) <;> simp -implicitDefEqProofs only [hb, go_sem, k109, m109, c109_eq, k110, m110, c110_eq, k111, m111, c111_eq, k80, m80, c80_eq, ty134, bif_drop, Nat.reduceAdd, Nat.reduceMul, Nat.reduceLeDiff, Nat.reduceEqDiff, reduceCtorEq, Nat.reduceSub, Int.reduceNeg, Nat.reduceMod, Nat.reduceBEq, Nat.reduceLT] <;> try simp only [bOf_t, bOf_f, decide_eq_true_eq, decide_eq_false_iff_not, Bool.not_eq_true', Bool.not_eq_false', Bool.not_eq_true, Bool.not_eq_false, Decidable.not_not] at hb) | (refine aPickB_split (fun hb => ?_) (fun hb => ?_) <;> simp -implicitDefEqProofs only [hb, go_sem, k109, m109, c109_eq, k110, m110, c110_eq, k111, m111, c111_eq, k80, m80, c80_eq, ty134, bif_drop, Nat.reduceAdd, Nat.reduceMul, Nat.reduceLeDiff, Nat.reduceEqDiff, reduceCtorEq, Nat.reduceSub, Int.reduceNeg, Nat.reduceMod, Nat.reduceBEq, Nat.reduceLT] <;> try simp only [bOf_t, bOf_f, decide_eq_true_eq, decide_eq_false_iff_not, Bool.not_eq_true', Bool.not_eq_false', Bool.not_eq_true, Bool.not_eq_false, Decidable.not_not] at hb) | (refine gB_split (fun hb => ?_) (fun hb => ?_) <;> simp -implicitDefEqProofs only [hb, go_sem, k109, m109, c109_eq, k110, m110, c110_eq, k111, m111, c111_eq, k80, m80, c80_eq, ty134, bif_drop, Nat.reduceAdd, Nat.reduceMul, Nat.reduceLeDiff, Nat.reduceEqDiff, reduceCtorEq, Nat.reduceSub, Int.reduceNeg, Nat.reduceMod, Nat.reduceBEq, Nat.reduceLT] <;> try simp only [bOf_t, bOf_f, decide_eq_true_eq, decide_eq_false_iff_not, Bool.not_eq_true', Bool.not_eq_false', Bool.not_eq_true, Bool.not_eq_false, Decidable.not_not] at hb))
      all_goals first | rfl | omega | exact kd3 | exact hpre.1 | exact hpre.2 | skip
      refine Le.of ?_ ?_
      all_goals simp -implicitDefEqProofs only [leS, leT, done1, hD, hp, go_sem, k109, m109, c109_eq, k110, m110, c110_eq, k111, m111, c111_eq, k80, m80, c80_eq, ty134, bif_drop, Nat.reduceAdd, Nat.reduceMul, Nat.reduceLeDiff, Nat.reduceEqDiff, reduceCtorEq, Nat.reduceSub, Int.reduceNeg, Nat.reduceMod, Nat.reduceBEq, Nat.reduceLT]
      all_goals (try simp [done1, hD, hp])
      all_goals trace_state
    · clear hcl
      simp -implicitDefEqProofs only [Bool.and_eq_true, go_sem, k109, m109, c109_eq, k110, m110, c110_eq, k111, m111, c111_eq, k80, m80, c80_eq, ty134, bif_drop, Nat.reduceAdd, Nat.reduceMul, Nat.reduceLeDiff, Nat.reduceEqDiff, reduceCtorEq, Nat.reduceSub, Int.reduceNeg, Nat.reduceMod, Nat.reduceBEq, Nat.reduceLT] at hp hD
      simp -implicitDefEqProofs only [S1, S2, hD, hp, go_sem, k109, m109, c109_eq, k110, m110, c110_eq, k111, m111, c111_eq, k80, m80, c80_eq, ty134, bif_drop, Nat.reduceAdd, Nat.reduceMul, Nat.reduceLeDiff, Nat.reduceEqDiff, reduceCtorEq, Nat.reduceSub, Int.reduceNeg, Nat.reduceMod, Nat.reduceBEq, Nat.reduceLT]
      repeat' (first | with_reducible apply And.intro | with_reducible intro _ | (refine brB_split (fun hb => ?_) (fun hb => ?_) <;> simp -implicitDefEqProofs only [hb, go_sem, k109, m109, c109_eq, k110, m110, c110_eq, k111, m111, c111_eq, k80, m80, c80_eq, ty134, bif_drop, Nat.reduceAdd, Nat.reduceMul, Nat.reduceLeDiff, Nat.reduceEqDiff, reduceCtorEq, Nat.reduceSub, Int.reduceNeg, Nat.reduceMod, Nat.reduceBEq, Nat.reduceLT] <;> try simp only [bOf_t, bOf_f, decide_eq_true_eq, decide_eq_false_iff_not, Bool.not_eq_true', Bool.not_eq_false', Bool.not_eq_true, Bool.not_eq_false, Decidable.not_not] at hb) | (refine aPickB_split (fun hb => ?_) (fun hb => ?_) <;> simp -implicitDefEqProofs only [hb, go_sem, k109, m109, c109_eq, k110, m110, c110_eq, k111, m111, c111_eq, k80, m80, c80_eq, ty134, bif_drop, Nat.reduceAdd, Nat.reduceMul, Nat.reduceLeDiff, Nat.reduceEqDiff, reduceCtorEq, Nat.reduceSub, Int.reduceNeg, Nat.reduceMod, Nat.reduceBEq, Nat.reduceLT] <;> try simp only [bOf_t, bOf_f, decide_eq_true_eq, decide_eq_false_iff_not, Bool.not_eq_true', Bool.not_eq_false', Bool.not_eq_true, Bool.not_eq_false, Decidable.not_not] at hb) | (refine gB_split (fun hb => ?_) (fun hb => ?_) <;> simp -implicitDefEqProofs only [hb, go_sem, k109, m109, c109_eq, k110, m110, c110_eq, k111, m111, c111_eq, k80, m80, c80_eq, ty134, bif_drop, Nat.reduceAdd, Nat.reduceMul, Nat.reduceLeDiff, Nat.reduceEqDiff, reduceCtorEq, Nat.reduceSub, Int.reduceNeg, Nat.reduceMod, Nat.reduceBEq, Nat.reduceLT] <;> try simp only [bOf_t, bOf_f, decide_eq_true_eq, decide_eq_false_iff_not, Bool.not_eq_true', Bool.not_eq_false', Bool.not_eq_true, Bool.not_eq_false, Decidable.not_not] at hb))
      all_goals first | rfl | omega | exact kd3 | exact hpre.1 | exact hpre.2 | skip
      refine Le.of ?_ ?_
      all_goals simp -implicitDefEqProofs only [leS, leT, done1, hD, hp, go_sem, k109, m109, c109_eq, k110, m110, c110_eq, k111, m111, c111_eq, k80, m80, c80_eq, ty134, bif_drop, Nat.reduceAdd, Nat.reduceMul, Nat.reduceLeDiff, Nat.reduceEqDiff, reduceCtorEq, Nat.reduceSub, Int.reduceNeg, Nat.reduceMod, Nat.reduceBEq, Nat.reduceLT]
      all_goals (try simp [done1, hD, hp])
      all_goals trace_state
    · clear hcl
      simp -implicitDefEqProofs only [Bool.and_eq_true, go_sem, k109, m109, c109_eq, k110, m110, c110_eq, k111, m111, c111_eq, k80, m80, c80_eq, ty134, bif_drop, Nat.reduceAdd, Nat.reduceMul, Nat.reduceLeDiff, Nat.reduceEqDiff, reduceCtorEq, Nat.reduceSub, Int.reduceNeg, Nat.reduceMod, Nat.reduceBEq, Nat.reduceLT] at hp hD
      simp -implicitDefEqProofs only [S1, S2, hD, hp, go_sem, k109, m109, c109_eq, k110, m110, c110_eq, k111, m111, c111_eq, k80, m80, c80_eq, ty134, bif_drop, Nat.reduceAdd, Nat.reduceMul, Nat.reduceLeDiff, Nat.reduceEqDiff, reduceCtorEq, Nat.reduceSub, Int.reduceNeg, Nat.reduceMod, Nat.reduceBEq, Nat.reduceLT]
      repeat' (first | with_reducible apply And.intro | with_reducible intro _ | (refine brB_split (fun hb => ?_) (fun hb => ?_) <;> simp -implicitDefEqProofs only [hb, go_sem, k109, m109, c109_eq, k110, m110, c110_eq, k111, m111, c111_eq, k80, m80, c80_eq, ty134, bif_drop, Nat.reduceAdd, Nat.reduceMul, Nat.reduceLeDiff, Nat.reduceEqDiff, reduceCtorEq, Nat.reduceSub, Int.reduceNeg, Nat.reduceMod, Nat.reduceBEq, Nat.reduceLT] <;> try simp only [bOf_t, bOf_f, decide_eq_true_eq, decide_eq_false_iff_not, Bool.not_eq_true', Bool.not_eq_false', Bool.not_eq_true, Bool.not_eq_false, Decidable.not_not] at hb) | (refine aPickB_split (fun hb => ?_) (fun hb => ?_) <;> simp -implicitDefEqProofs only [hb, go_sem, k109, m109, c109_eq, k110, m110, c110_eq, k111, m111, c111_eq, k80, m80, c80_eq, ty134, bif_drop, Nat.reduceAdd, Nat.reduceMul, Nat.reduceLeDiff, Nat.reduceEqDiff, reduceCtorEq, Nat.reduceSub, Int.reduceNeg, Nat.reduceMod, Nat.reduceBEq, Nat.reduceLT] <;> try simp only [bOf_t, bOf_f, decide_eq_true_eq, decide_eq_false_iff_not, Bool.not_eq_true', Bool.not_eq_false', Bool.not_eq_true, Bool.not_eq_false, Decidable.not_not] at hb) | (refine gB_split (fun hb => ?_) (fun hb => ?_) <;> simp -implicitDefEqProofs only [hb, go_sem, k109, m109, c109_eq, k110, m110, c110_eq, k111, m111, c111_eq, k80, m80, c80_eq, ty134, bif_drop, Nat.reduceAdd, Nat.reduceMul, Nat.reduceLeDiff, Nat.reduceEqDiff, reduceCtorEq, Nat.reduceSub, Int.reduceNeg, Nat.reduceMod, Nat.reduceBEq, Nat.reduceLT] <;> try simp only [bOf_t, bOf_f, decide_eq_true_eq, decide_eq_false_iff_not, Bool.not_eq_true', Bool.not_eq_false', Bool.not_eq_true, Bool.not_eq_false, Decidable.not_not] at hb))
      all_goals first | rfl | omega | exact kd3 | exact hpre.1 | exact hpre.2 | skip
      refine Le.of1 (id := 1005) (e2 := ?e1005x16) (by exact rfl) ?hp1005x16 ?h11005x16 ?h21005x16
      case hp1005x16 => exact upA4
      all_goals simp -implicitDefEqProofs only [leS, leT, done1, hD, hp, go_sem, k109, m109, c109_eq, k110, m110, c110_eq, k111, m111, c111_eq, k80, m80, c80_eq, ty134, bif_drop, Nat.reduceAdd, Nat.reduceMul, Nat.reduceLeDiff, Nat.reduceEqDiff, reduceCtorEq, Nat.reduceSub, Int.reduceNeg, Nat.reduceMod, Nat.reduceBEq, Nat.reduceLT]
      all_goals (try simp [done1, hD, hp])
      all_goals trace_state
    · clear hcl
      simp -implicitDefEqProofs only [Bool.and_eq_true, go_sem, k109, m109, c109_eq, k110, m110, c110_eq, k111, m111, c111_eq, k80, m80, c80_eq, ty134, bif_drop, Nat.reduceAdd, Nat.reduceMul, Nat.reduceLeDiff, Nat.reduceEqDiff, reduceCtorEq, Nat.reduceSub, Int.reduceNeg, Nat.reduceMod, Nat.reduceBEq, Nat.reduceLT] at hp hD
      simp -implicitDefEqProofs only [S1, S2, hD, hp, go_sem, k109, m109, c109_eq, k110, m110, c110_eq, k111, m111, c111_eq, k80, m80, c80_eq, ty134, bif_drop, Nat.reduceAdd, Nat.reduceMul, Nat.reduceLeDiff, Nat.reduceEqDiff, reduceCtorEq, Nat.reduceSub, Int.reduceNeg, Nat.reduceMod, Nat.reduceBEq, Nat.reduceLT]
      repeat' (first | with_reducible apply And.intro | with_reducible intro _ | (refine brB_split (fun hb => ?_) (fun hb => ?_) <;> simp -implicitDefEqProofs only [hb, go_sem, k109, m109, c109_eq, k110, m110, c110_eq, k111, m111, c111_eq, k80, m80, c80_eq, ty134, bif_drop, Nat.reduceAdd, Nat.reduceMul, Nat.reduceLeDiff, Nat.reduceEqDiff, reduceCtorEq, Nat.reduceSub, Int.reduceNeg, Nat.reduceMod, Nat.reduceBEq, Nat.reduceLT] <;> try simp only [bOf_t, bOf_f, decide_eq_true_eq, decide_eq_false_iff_not, Bool.not_eq_true', Bool.not_eq_false', Bool.not_eq_true, Bool.not_eq_false, Decidable.not_not] at hb) | (refine aPickB_split (fun hb => ?_) (fun hb => ?_) <;> simp -implicitDefEqProofs only [hb, go_sem, k109, m109, c109_eq, k110, m110, c110_eq, k111, m111, c111_eq, k80, m80, c80_eq, ty134, bif_drop, Nat.reduceAdd, Nat.reduceMul, Nat.reduceLeDiff, Nat.reduceEqDiff, reduceCtorEq, Nat.reduceSub, Int.reduceNeg, Nat.reduceMod, Nat.reduceBEq, Nat.reduceLT] <;> try simp only [bOf_t, bOf_f, decide_eq_true_eq, decide_eq_false_iff_not, Bool.not_eq_true', Bool.not_eq_false', Bool.not_eq_true, Bool.not_eq_false, Decidable.not_not] at hb) | (refine gB_split (fun hb => ?_) (fun hb => ?_) <;> simp -implicitDefEqProofs only [hb, go_sem, k109, m109, c109_eq, k110, m110, c110_eq, k111, m111, c111_eq, k80, m80, c80_eq, ty134, bif_drop, Nat.reduceAdd, Nat.reduceMul, Nat.reduceLeDiff, Nat.reduceEqDiff, reduceCtorEq, Nat.reduceSub, Int.reduceNeg, Nat.reduceMod, Nat.reduceBEq, Nat.reduceLT] <;> try simp only [bOf_t, bOf_f, decide_eq_true_eq, decide_eq_false_iff_not, Bool.not_eq_true', Bool.not_eq_false', Bool.not_eq_true, Bool.not_eq_false, Decidable.not_not] at hb))
      all_goals first | rfl | omega | exact kd3 | exact hpre.1 | exact hpre.2 | skip
      refine Le.of ?_ ?_
      all_goals simp -implicitDefEqProofs only [leS, leT, done1, hD, hp, go_sem, k109, m109, c109_eq, k110, m110, c110_eq, k111, m111, c111_eq, k80, m80, c80_eq, ty134, bif_drop, Nat.reduceAdd, Nat.reduceMul, Nat.reduceLeDiff, Nat.reduceEqDiff, reduceCtorEq, Nat.reduceSub, Int.reduceNeg, Nat.reduceMod, Nat.reduceBEq, Nat.reduceLT]
      all_goals (try simp [done1, hD, hp])
      all_goals trace_state
    · clear hcl
      simp -implicitDefEqProofs only [Bool.and_eq_true, go_sem, k109, m109, c109_eq, k110, m110, c110_eq, k111, m111, c111_eq, k80, m80, c80_eq, ty134, bif_drop, Nat.reduceAdd, Nat.reduceMul, Nat.reduceLeDiff, Nat.reduceEqDiff, reduceCtorEq, Nat.reduceSub, Int.reduceNeg, Nat.reduceMod, Nat.reduceBEq, Nat.reduceLT] at hp hD
      simp -implicitDefEqProofs only [S1, S2, hD, hp, go_sem, k109, m109, c109_eq, k110, m110, c110_eq, k111, m111, c111_eq, k80, m80, c80_eq, ty134, bif_drop, Nat.reduceAdd, Nat.reduceMul, Nat.reduceLeDiff, Nat.reduceEqDiff, reduceCtorEq, Nat.reduceSub, Int.reduceNeg, Nat.reduceMod, Nat.reduceBEq, Nat.reduceLT]
      repeat' (first | with_reducible apply And.intro | with_reducible intro _ | (refine brB_split (fun hb => ?_) (fun hb => ?_) <;> simp -implicitDefEqProofs only [hb, go_sem, k109, m109, c109_eq, k110, m110, c110_eq, k111, m111, c111_eq, k80, m80, c80_eq, ty134, bif_drop, Nat.reduceAdd, Nat.reduceMul, Nat.reduceLeDiff, Nat.reduceEqDiff, reduceCtorEq, Nat.reduceSub, Int.reduceNeg, Nat.reduceMod, Nat.reduceBEq, Nat.reduceLT] <;> try simp only [bOf_t, bOf_f, decide_eq_true_eq, decide_eq_false_iff_not, Bool.not_eq_true', Bool.not_eq_false', Bool.not_eq_true, Bool.not_eq_false, Decidable.not_not] at hb) | (refine aPickB_split (fun hb => ?_) (fun hb => ?_) <;> simp -implicitDefEqProofs only [hb, go_sem, k109, m109, c109_eq, k110, m110, c110_eq, k111, m111, c111_eq, k80, m80, c80_eq, ty134, bif_drop, Nat.reduceAdd, Nat.reduceMul, Nat.reduceLeDiff, Nat.reduceEqDiff, reduceCtorEq, Nat.reduceSub, Int.reduceNeg, Nat.reduceMod, Nat.reduceBEq, Nat.reduceLT] <;> try simp only [bOf_t, bOf_f, decide_eq_true_eq, decide_eq_false_iff_not, Bool.not_eq_true', Bool.not_eq_false', Bool.not_eq_true, Bool.not_eq_false, Decidable.not_not] at hb) | (refine gB_split (fun hb => ?_) (fun hb => ?_) <;> simp -implicitDefEqProofs only [hb, go_sem, k109, m109, c109_eq, k110, m110, c110_eq, k111, m111, c111_eq, k80, m80, c80_eq, ty134, bif_drop, Nat.reduceAdd, Nat.reduceMul, Nat.reduceLeDiff, Nat.reduceEqDiff, reduceCtorEq, Nat.reduceSub, Int.reduceNeg, Nat.reduceMod, Nat.reduceBEq, Nat.reduceLT] <;> try simp only [bOf_t, bOf_f, decide_eq_true_eq, decide_eq_false_iff_not, Bool.not_eq_true', Bool.not_eq_false', Bool.not_eq_true, Bool.not_eq_false, Decidable.not_not] at hb))
      all_goals first | rfl | omega | exact kd3 | exact hpre.1 | exact hpre.2 | skip
      refine Le.of ?_ ?_
      all_goals simp -implicitDefEqProofs only [leS, leT, done1, hD, hp, go_sem, k109, m109, c109_eq, k110, m110, c110_eq, k111, m111, c111_eq, k80, m80, c80_eq, ty134, bif_drop, Nat.reduceAdd, Nat.reduceMul, Nat.reduceLeDiff, Nat.reduceEqDiff, reduceCtorEq, Nat.reduceSub, Int.reduceNeg, Nat.reduceMod, Nat.reduceBEq, Nat.reduceLT]
      all_goals (try simp [done1, hD, hp])
      all_goals trace_state
  · simp -implicitDefEqProofs only [S1, S2, tk_t, List.cons_append, List.nil_append, go_sem, k109, m109, c109_eq, k110, m110, c110_eq, k111, m111, c111_eq, k80, m80, c80_eq, ty134, bif_drop, Nat.reduceAdd, Nat.reduceMul, Nat.reduceLeDiff, Nat.reduceEqDiff, reduceCtorEq, Nat.reduceSub, Int.reduceNeg, Nat.reduceMod, Nat.reduceBEq, Nat.reduceLT]
    refine invR_of (S2 r (bOf (Dom r.text)) (bOf (Lin r.text)) (decide (r.text = ⟨#[]⟩)) (bOf (AdNull r.to)) (bOf (AdOk r.to))) (fun D D' h => ?_) ?_ ?_ ?_
    · simp only [S1, S2, h 0 (by decide), h 1 (by decide), h 2 (by decide), h 3 (by decide), h 4 (by decide), h 5 (by decide), h 6 (by decide), h 7 (by decide), h 8 (by decide), h 9 (by decide), h 10 (by decide), h 11 (by decide), h 12 (by decide), h 13 (by decide), h 14 (by decide)]
    · simp -implicitDefEqProofs only [S1, S2, leS, leT, tk_f, go_sem, k109, m109, c109_eq, k110, m110, c110_eq, k111, m111, c111_eq, k80, m80, c80_eq, ty134, bif_drop, Nat.reduceAdd, Nat.reduceMul, Nat.reduceLeDiff, Nat.reduceEqDiff, reduceCtorEq, Nat.reduceSub, Int.reduceNeg, Nat.reduceMod, Nat.reduceBEq, Nat.reduceLT]
      try simp [look]
    · refine ⟨⟨rfl, rfl, rfl, fun D hD hcl hp => ?_⟩, ⟨⟨rfl, rfl, rfl, fun D hD hcl hp => ?_⟩, ⟨⟨rfl, rfl, rfl, fun D hD hcl hp => ?_⟩, ⟨⟨rfl, rfl, rfl, fun D hD hcl hp => ?_⟩, ⟨⟨rfl, rfl, rfl, fun D hD hcl hp => ?_⟩, ⟨⟨rfl, rfl, rfl, fun D hD hcl hp => ?_⟩, ⟨⟨rfl, rfl, rfl, fun D hD hcl hp => ?_⟩, ⟨⟨rfl, rfl, rfl, fun D hD hcl hp => ?_⟩, ⟨⟨rfl, rfl, rfl, fun D hD hcl hp => ?_⟩, ⟨⟨rfl, rfl, rfl, fun D hD hcl hp => ?_⟩, ⟨⟨rfl, rfl, rfl, fun D hD hcl hp => ?_⟩, ⟨⟨rfl, rfl, rfl, fun D hD hcl hp => ?_⟩, ⟨⟨rfl, rfl, rfl, fun D hD hcl hp => ?_⟩, ⟨⟨rfl, rfl, rfl, fun D hD hcl hp => ?_⟩, ⟨⟨rfl, rfl, rfl, fun D hD hcl hp => ?_⟩, trivial⟩⟩⟩⟩⟩⟩⟩⟩⟩⟩⟩⟩⟩⟩⟩
      · have c4 : D 4 = false := by
          cases h : D 4 with
          | false => rfl
          | true => exact absurd (hcl 4 _ rfl h 0 (by decide)) (by rw [hD]; decide)
        have c8 : D 8 = false := by
          cases h : D 8 with
          | false => rfl
          | true => exact absurd (hcl 8 _ rfl h 0 (by decide)) (by rw [hD]; decide)
        have c12 : D 12 = false := by
          cases h : D 12 with
          | false => rfl
          | true => exact absurd (hcl 12 _ rfl h 0 (by decide)) (by rw [hD]; decide)
        have c13 : D 13 = false := by
          cases h : D 13 with
          | false => rfl
          | true => exact absurd (hcl 13 _ rfl h 0 (by decide)) (by rw [hD]; decide)
        have c14 : D 14 = false := by
          cases h : D 14 with
          | false => rfl
          | true => exact absurd (hcl 14 _ rfl h 0 (by decide)) (by rw [hD]; decide)
        simp -implicitDefEqProofs only [S1, S2, hD, c4, c8, c12, c13, c14, go_sem, k109, m109, c109_eq, k110, m110, c110_eq, k111, m111, c111_eq, k80, m80, c80_eq, ty134, bif_drop, Nat.reduceAdd, Nat.reduceMul, Nat.reduceLeDiff, Nat.reduceEqDiff, reduceCtorEq, Nat.reduceSub, Int.reduceNeg, Nat.reduceMod, Nat.reduceBEq, Nat.reduceLT]
        repeat' (first | with_reducible apply And.intro | with_reducible intro _ | (refine brB_split (fun hb => ?_) (fun hb => ?_) <;> simp -implicitDefEqProofs only [hb, go_sem, k109, m109, c109_eq, k110, m110, c110_eq, k111, m111, c111_eq, k80, m80, c80_eq, ty134, bif_drop, Nat.reduceAdd, Nat.reduceMul, Nat.reduceLeDiff, Nat.reduceEqDiff, reduceCtorEq, Nat.reduceSub, Int.reduceNeg, Nat.reduceMod, Nat.reduceBEq, Nat.reduceLT] <;> try simp only [bOf_t, bOf_f, decide_eq_true_eq, decide_eq_false_iff_not, Bool.not_eq_true', Bool.not_eq_false', Bool.not_eq_true, Bool.not_eq_false, Decidable.not_not] at hb) | (refine aPickB_split (fun hb => ?_) (fun hb => ?_) <;> simp -implicitDefEqProofs only [hb, go_sem, k109, m109, c109_eq, k110, m110, c110_eq, k111, m111, c111_eq, k80, m80, c80_eq, ty134, bif_drop, Nat.reduceAdd, Nat.reduceMul, Nat.reduceLeDiff, Nat.reduceEqDiff, reduceCtorEq, Nat.reduceSub, Int.reduceNeg, Nat.reduceMod, Nat.reduceBEq, Nat.reduceLT] <;> try simp only [bOf_t, bOf_f, decide_eq_true_eq, decide_eq_false_iff_not, Bool.not_eq_true', Bool.not_eq_false', Bool.not_eq_true, Bool.not_eq_false, Decidable.not_not] at hb) | (refine gB_split (fun hb => ?_) (fun hb => ?_) <;> simp -implicitDefEqProofs only [hb, go_sem, k109, m109, c109_eq, k110, m110, c110_eq, k111, m111, c111_eq, k80, m80, c80_eq, ty134, bif_drop, Nat.reduceAdd, Nat.reduceMul, Nat.reduceLeDiff, Nat.reduceEqDiff, reduceCtorEq, Nat.reduceSub, Int.reduceNeg, Nat.reduceMod, Nat.reduceBEq, Nat.reduceLT] <;> try simp only [bOf_t, bOf_f, decide_eq_true_eq, decide_eq_false_iff_not, Bool.not_eq_true', Bool.not_eq_false', Bool.not_eq_true, Bool.not_eq_false, Decidable.not_not] at hb))
        all_goals first | rfl | omega | skip
        refine Le.of ?_ ?_
        all_goals simp -implicitDefEqProofs only [leS, leT, done1, tk_f, hD, c4, c8, c12, c13, c14, go_sem, k109, m109, c109_eq, k110, m110, c110_eq, k111, m111, c111_eq, k80, m80, c80_eq, ty134, bif_drop, Nat.reduceAdd, Nat.reduceMul, Nat.reduceLeDiff, Nat.reduceEqDiff, reduceCtorEq, Nat.reduceSub, Int.reduceNeg, Nat.reduceMod, Nat.reduceBEq, Nat.reduceLT]
        all_goals (try simp [tk_f])
      · clear hcl
        simp -implicitDefEqProofs only [Bool.and_eq_true, go_sem, k109, m109, c109_eq, k110, m110, c110_eq, k111, m111, c111_eq, k80, m80, c80_eq, ty134, bif_drop, Nat.reduceAdd, Nat.reduceMul, Nat.reduceLeDiff, Nat.reduceEqDiff, reduceCtorEq, Nat.reduceSub, Int.reduceNeg, Nat.reduceMod, Nat.reduceBEq, Nat.reduceLT] at hp hD
        simp -implicitDefEqProofs only [S1, S2, hD, hp, go_sem, k109, m109, c109_eq, k110, m110, c110_eq, k111, m111, c111_eq, k80, m80, c80_eq, ty134, bif_drop, Nat.reduceAdd, Nat.reduceMul, Nat.reduceLeDiff, Nat.reduceEqDiff, reduceCtorEq, Nat.reduceSub, Int.reduceNeg, Nat.reduceMod, Nat.reduceBEq, Nat.reduceLT]
        repeat' (first | with_reducible apply And.intro | with_reducible intro _ | (refine brB_split (fun hb => ?_) (fun hb => ?_) <;> simp -implicitDefEqProofs only [hb, go_sem, k109, m109, c109_eq, k110, m110, c110_eq, k111, m111, c111_eq, k80, m80, c80_eq, ty134, bif_drop, Nat.reduceAdd, Nat.reduceMul, Nat.reduceLeDiff, Nat.reduceEqDiff, reduceCtorEq, Nat.reduceSub, Int.reduceNeg, Nat.reduceMod, Nat.reduceBEq, Nat.reduceLT] <;> try simp only [bOf_t, bOf_f, decide_eq_true_eq, decide_eq_false_iff_not, Bool.not_eq_true', Bool.not_eq_false', Bool.not_eq_true, Bool.not_eq_false, Decidable.not_not] at hb) | (refine aPickB_split (fun hb => ?_) (fun hb => ?_) <;> simp -implicitDefEqProofs only [hb, go_sem, k109, m109, c109_eq, k110, m110, c110_eq, k111, m111, c111_eq, k80, m80, c80_eq, ty134, bif_drop, Nat.reduceAdd, Nat.reduceMul, Nat.reduceLeDiff, Nat.reduceEqDiff, reduceCtorEq, Nat.reduceSub, Int.reduceNeg, Nat.reduceMod, Nat.reduceBEq, Nat.reduceLT] <;> try simp only [bOf_t, bOf_f, decide_eq_true_eq, decide_eq_false_iff_not, Bool.not_eq_true', Bool.not_eq_false', Bool.not_eq_true, Bool.not_eq_false, Decidable.not_not] at hb) | (refine gB_split (fun hb => ?_) (fun hb => ?_) <;> simp -implicitDefEqProofs only [hb, go_sem, k109, m109, c109_eq, k110, m110, c110_eq, k111, m111, c111_eq, k80, m80, c80_eq, ty134, bif_drop, Nat.reduceAdd, Nat.reduceMul, Nat.reduceLeDiff, Nat.reduceEqDiff, reduceCtorEq, Nat.reduceSub, Int.reduceNeg, Nat.reduceMod, Nat.reduceBEq, Nat.reduceLT] <;> try simp only [bOf_t, bOf_f, decide_eq_true_eq, decide_eq_false_iff_not, Bool.not_eq_true', Bool.not_eq_false', Bool.not_eq_true, Bool.not_eq_false, Decidable.not_not] at hb))
        all_goals first | rfl | omega | exact kd3 | exact hpre.1 | exact hpre.2 | skip
        refine Le.of ?_ ?_
        all_goals simp -implicitDefEqProofs only [leS, leT, done1, hD, hp, go_sem, k109, m109, c109_eq, k110, m110, c110_eq, k111, m111, c111_eq, k80, m80, c80_eq, ty134, bif_drop, Nat.reduceAdd, Nat.reduceMul, Nat.reduceLeDiff, Nat.reduceEqDiff, reduceCtorEq, Nat.reduceSub, Int.reduceNeg, Nat.reduceMod, Nat.reduceBEq, Nat.reduceLT]
        all_goals (try simp [done1, hD, hp])
        all_goals trace_state
      · clear hcl
        simp -implicitDefEqProofs only [Bool.and_eq_true, go_sem, k109, m109, c109_eq, k110, m110, c110_eq, k111, m111, c111_eq, k80, m80, c80_eq, ty134, bif_drop, Nat.reduceAdd, Nat.reduceMul, Nat.reduceLeDiff, Nat.reduceEqDiff, reduceCtorEq, Nat.reduceSub, Int.reduceNeg, Nat.reduceMod, Nat.reduceBEq, Nat.reduceLT] at hp hD
        simp -implicitDefEqProofs only [S1, S2, hD, hp, go_sem, k109, m109, c109_eq, k110, m110, c110_eq, k111, m111, c111_eq, k80, m80, c80_eq, ty134, bif_drop, Nat.reduceAdd, Nat.reduceMul, Nat.reduceLeDiff, Nat.reduceEqDiff, reduceCtorEq, Nat.reduceSub, Int.reduceNeg, Nat.reduceMod, Nat.reduceBEq, Nat.reduceLT]
        repeat' (first | with_reducible apply And.intro | with_reducible intro _ | (refine brB_split (fun hb => ?_) (fun hb => ?_) <;> simp -implicitDefEqProofs only [hb, go_sem, k109, m109, c109_eq, k110, m110, c110_eq, k111, m111, c111_eq, k80, m80, c80_eq, ty134, bif_drop, Nat.reduceAdd, Nat.reduceMul, Nat.reduceLeDiff, Nat.reduceEqDiff, reduceCtorEq, Nat.reduceSub, Int.reduceNeg, Nat.reduceMod, Nat.reduceBEq, Nat.reduceLT] <;> try simp only [bOf_t, bOf_f, decide_eq_true_eq, decide_eq_false_iff_not, Bool.not_eq_true', Bool.not_eq_false', Bool.not_eq_true, Bool.not_eq_false, Decidable.not_not] at hb) | (refine aPickB_split (fun hb => ?_) (fun hb => ?_) <;> simp -implicitDefEqProofs only [hb, go_sem, k109, m109, c109_eq, k110, m110, c110_eq, k111, m111, c111_eq, k80, m80, c80_eq, ty134, bif_drop, Nat.reduceAdd, Nat.reduceMul, Nat.reduceLeDiff, Nat.reduceEqDiff, reduceCtorEq, Nat.reduceSub, Int.reduceNeg, Nat.reduceMod, Nat.reduceBEq, Nat.reduceLT] <;> try simp only [bOf_t, bOf_f, decide_eq_true_eq, decide_eq_false_iff_not, Bool.not_eq_true', Bool.not_eq_false', Bool.not_eq_true, Bool.not_eq_false, Decidable.not_not] at hb) | (refine gB_split (fun hb => ?_) (fun hb => ?_) <;> simp -implicitDefEqProofs only [hb, go_sem, k109, m109, c109_eq, k110, m110, c110_eq, k111, m111, c111_eq, k80, m80, c80_eq, ty134, bif_drop, Nat.reduceAdd, Nat.reduceMul, Nat.reduceLeDiff, Nat.reduceEqDiff, reduceCtorEq, Nat.reduceSub, Int.reduceNeg, Nat.reduceMod, Nat.reduceBEq, Nat.reduceLT] <;> try simp only [bOf_t, bOf_f, decide_eq_true_eq, decide_eq_false_iff_not, Bool.not_eq_true', Bool.not_eq_false', Bool.not_eq_true, Bool.not_eq_false, Decidable.not_not] at hb))
        all_goals first | rfl | omega | exact kd3 | exact hpre.1 | exact hpre.2 | skip
        refine Le.of ?_ ?_
        all_goals simp -implicitDefEqProofs only [leS, leT, done1, hD, hp, go_sem, k109, m109, c109_eq, k110, m110, c110_eq, k111, m111, c111_eq, k80, m80, c80_eq, ty134, bif_drop, Nat.reduceAdd, Nat.reduceMul, Nat.reduceLeDiff, Nat.reduceEqDiff, reduceCtorEq, Nat.reduceSub, Int.reduceNeg, Nat.reduceMod, Nat.reduceBEq, Nat.reduceLT]
        all_goals (try simp [done1, hD, hp])
        all_goals trace_state
      · clear hcl
        simp -implicitDefEqProofs only [Bool.and_eq_true, go_sem, k109, m109, c109_eq, k110, m110, c110_eq, k111, m111, c111_eq, k80, m80, c80_eq, ty134, bif_drop, Nat.reduceAdd, Nat.reduceMul, Nat.reduceLeDiff, Nat.reduceEqDiff, reduceCtorEq, Nat.reduceSub, Int.reduceNeg, Nat.reduceMod, Nat.reduceBEq, Nat.reduceLT] at hp hD
        simp -implicitDefEqProofs only [S1, S2, hD, hp, go_sem, k109, m109, c109_eq, k110, m110, c110_eq, k111, m111, c111_eq, k80, m80, c80_eq, ty134, bif_drop, Nat.reduceAdd, Nat.reduceMul, Nat.reduceLeDiff, Nat.reduceEqDiff, reduceCtorEq, Nat.reduceSub, Int.reduceNeg, Nat.reduceMod, Nat.reduceBEq, Nat.reduceLT]
        repeat' (first | with_reducible apply And.intro | with_reducible intro _ | (refine brB_split (fun hb => ?_) (fun hb => ?_) <;> simp -implicitDefEqProofs only [hb, go_sem, k109, m109, c109_eq, k110, m110, c110_eq, k111, m111, c111_eq, k80, m80, c80_eq, ty134, bif_drop, Nat.reduceAdd, Nat.reduceMul, Nat.reduceLeDiff, Nat.reduceEqDiff, reduceCtorEq, Nat.reduceSub, Int.reduceNeg, Nat.reduceMod, Nat.reduceBEq, Nat.reduceLT] <;> try simp only [bOf_t, bOf_f, decide_eq_true_eq, decide_eq_false_iff_not, Bool.not_eq_true', Bool.not_eq_false', Bool.not_eq_true, Bool.not_eq_false, Decidable.not_not] at hb) | (refine aPickB_split (fun hb => ?_) (fun hb => ?_) <;> simp -implicitDefEqProofs only [hb, go_sem, k109, m109, c109_eq, k110, m110, c110_eq, k111, m111, c111_eq, k80, m80, c80_eq, ty134, bif_drop, Nat.reduceAdd, Nat.reduceMul, Nat.reduceLeDiff, Nat.reduceEqDiff, reduceCtorEq, Nat.reduceSub, Int.reduceNeg, Nat.reduceMod, Nat.reduceBEq, Nat.reduceLT] <;> try simp only [bOf_t, bOf_f, decide_eq_true_eq, decide_eq_false_iff_not, Bool.not_eq_true', Bool.not_eq_false', Bool.not_eq_true, Bool.not_eq_false, Decidable.not_not] at hb) | (refine gB_split (fun hb => ?_) (fun hb => ?_) <;> simp -implicitDefEqProofs only [hb, go_sem, k109, m109, c109_eq, k110, m110, c110_eq, k111, m111, c111_eq, k80, m80, c80_eq, ty134, bif_drop, Nat.reduceAdd, Nat.reduceMul, Nat.reduceLeDiff, Nat.reduceEqDiff, reduceCtorEq, Nat.reduceSub, Int.reduceNeg, Nat.reduceMod, Nat.reduceBEq, Nat.reduceLT] <;> try simp only [bOf_t, bOf_f, decide_eq_true_eq, decide_eq_false_iff_not, Bool.not_eq_true', Bool.not_eq_false', Bool.not_eq_true, Bool.not_eq_false, Decidable.not_not] at hb))
        all_goals first | rfl | omega | exact kd3 | exact hpre.1 | exact hpre.2 | skip
        refine Le.of ?_ ?_
        all_goals simp -implicitDefEqProofs only [leS, leT, done1, hD, hp, go_sem, k109, m109, c109_eq, k110, m110, c110_eq, k111, m111, c111_eq, k80, m80, c80_eq, ty134, bif_drop, Nat.reduceAdd, Nat.reduceMul, Nat.reduceLeDiff, Nat.reduceEqDiff, reduceCtorEq, Nat.reduceSub, Int.reduceNeg, Nat.reduceMod, Nat.reduceBEq, Nat.reduceLT]
        all_goals (try simp [done1, hD, hp])
        all_goals trace_state
      · clear hcl
        simp -implicitDefEqProofs only [Bool.and_eq_true, go_sem, k109, m109, c109_eq, k110, m110, c110_eq, k111, m111, c111_eq, k80, m80, c80_eq, ty134, bif_drop, Nat.reduceAdd, Nat.reduceMul, Nat.reduceLeDiff, Nat.reduceEqDiff, reduceCtorEq, Nat.reduceSub, Int.reduceNeg, Nat.reduceMod, Nat.reduceBEq, Nat.reduceLT] at hp hD
        simp -implicitDefEqProofs only [S1, S2, hD, hp, go_sem, k109, m109, c109_eq, k110, m110, c110_eq, k111, m111, c111_eq, k80, m80, c80_eq, ty134, bif_drop, Nat.reduceAdd, Nat.reduceMul, Nat.reduceLeDiff, Nat.reduceEqDiff, reduceCtorEq, Nat.reduceSub, Int.reduceNeg, Nat.reduceMod, Nat.reduceBEq, Nat.reduceLT]
        repeat' (first | with_reducible apply And.intro | with_reducible intro _ | (refine brB_split (fun hb => ?_) (fun hb => ?_) <;> simp -implicitDefEqProofs only [hb, go_sem, k109, m109, c109_eq, k110, m110, c110_eq, k111, m111, c111_eq, k80, m80, c80_eq, ty134, bif_drop, Nat.reduceAdd, Nat.reduceMul, Nat.reduceLeDiff, Nat.reduceEqDiff, reduceCtorEq, Nat.reduceSub, Int.reduceNeg, Nat.reduceMod, Nat.reduceBEq, Nat.reduceLT] <;> try simp only [bOf_t, bOf_f, decide_eq_true_eq, decide_eq_false_iff_not, Bool.not_eq_true', Bool.not_eq_false', Bool.not_eq_true, Bool.not_eq_false, Decidable.not_not] at hb) | (refine aPickB_split (fun hb => ?_) (fun hb => ?_) <;> simp -implicitDefEqProofs only [hb, go_sem, k109, m109, c109_eq, k110, m110, c110_eq, k111, m111, c111_eq, k80, m80, c80_eq, ty134, bif_drop, Nat.reduceAdd, Nat.reduceMul, Nat.reduceLeDiff, Nat.reduceEqDiff, reduceCtorEq, Nat.reduceSub, Int.reduceNeg, Nat.reduceMod, Nat.reduceBEq, Nat.reduceLT] <;> try simp only [bOf_t, bOf_f, decide_eq_true_eq, decide_eq_false_iff_not, Bool.not_eq_true', Bool.not_eq_false', Bool.not_eq_true, Bool.not_eq_false, Decidable.not_not] at hb) | (refine gB_split (fun hb => ?_) (fun hb => ?_) <;> simp -implicitDefEqProofs only [hb, go_sem, k109, m109, c109_eq, k110, m110, c110_eq, k111, m111, c111_eq, k80, m80, c80_eq, ty134, bif_drop, Nat.reduceAdd, Nat.reduceMul, Nat.reduceLeDiff, Nat.reduceEqDiff, reduceCtorEq, Nat.reduceSub, Int.reduceNeg, Nat.reduceMod, Nat.reduceBEq, Nat.reduceLT] <;> try simp only [bOf_t, bOf_f, decide_eq_true_eq, decide_eq_false_iff_not, Bool.not_eq_true', Bool.not_eq_false', Bool.not_eq_true, Bool.not_eq_false, Decidable.not_not] at hb))
        all_goals first | rfl | omega | exact kd3 | exact hpre.1 | exact hpre.2 | skip
        refine Le.of1 (id := 1019) (e2 := ?e1019x4) (by exact rfl) ?hp1019x4 ?h11019x4 ?h21019x4
        case hp1019x4 => exact upB1
        all_goals simp -implicitDefEqProofs only [leS, leT, done1, hD, hp, go_sem, k109, m109, c109_eq, k110, m110, c110_eq, k111, m111, c111_eq, k80, m80, c80_eq, ty134, bif_drop, Nat.reduceAdd, Nat.reduceMul, Nat.reduceLeDiff, Nat.reduceEqDiff, reduceCtorEq, Nat.reduceSub, Int.reduceNeg, Nat.reduceMod, Nat.reduceBEq, Nat.reduceLT]
        all_goals (try simp [done1, hD, hp])
        all_goals trace_state
      · clear hcl
        simp -implicitDefEqProofs only [Bool.and_eq_true, go_sem, k109, m109, c109_eq, k110, m110, c110_eq, k111, m111, c111_eq, k80, m80, c80_eq, ty134, bif_drop, Nat.reduceAdd, Nat.reduceMul, Nat.reduceLeDiff, Nat.reduceEqDiff, reduceCtorEq, Nat.reduceSub, Int.reduceNeg, Nat.reduceMod, Nat.reduceBEq, Nat.reduceLT] at hp hD
        simp -implicitDefEqProofs only [S1, S2, hD, hp, go_sem, k109, m109, c109_eq, k110, m110, c110_eq, k111, m111, c111_eq, k80, m80, c80_eq, ty134, bif_drop, Nat.reduceAdd, Nat.reduceMul, Nat.reduceLeDiff, Nat.reduceEqDiff, reduceCtorEq, Nat.reduceSub, Int.reduceNeg, Nat.reduceMod, Nat.reduceBEq, Nat.reduceLT]
        repeat' (first | with_reducible apply And.intro | with_reducible intro _ | (refine brB_split (fun hb => ?_) (fun hb => ?_) <;> simp -implicitDefEqProofs only [hb, go_sem, k109, m109, c109_eq, k110, m110, c110_eq, k111, m111, c111_eq, k80, m80, c80_eq, ty134, bif_drop, Nat.reduceAdd, Nat.reduceMul, Nat.reduceLeDiff, Nat.reduceEqDiff, reduceCtorEq, Nat.reduceSub, Int.reduceNeg, Nat.reduceMod, Nat.reduceBEq, Nat.reduceLT] <;> try simp only [bOf_t, bOf_f, decide_eq_true_eq, decide_eq_false_iff_not, Bool.not_eq_true', Bool.not_eq_false', Bool.not_eq_true, Bool.not_eq_false, Decidable.not_not] at hb) | (refine aPickB_split (fun hb => ?_) (fun hb => ?_) <;> simp -implicitDefEqProofs only [hb, go_sem, k109, m109, c109_eq, k110, m110, c110_eq, k111, m111, c111_eq, k80, m80, c80_eq, ty134, bif_drop, Nat.reduceAdd, Nat.reduceMul, Nat.reduceLeDiff, Nat.reduceEqDiff, reduceCtorEq, Nat.reduceSub, Int.reduceNeg, Nat.reduceMod, Nat.reduceBEq, Nat.reduceLT] <;> try simp only [bOf_t, bOf_f, decide_eq_true_eq, decide_eq_false_iff_not, Bool.not_eq_true', Bool.not_eq_false', Bool.not_eq_true, Bool.not_eq_false, Decidable.not_not] at hb) | (refine gB_split (fun hb => ?_) (fun hb => ?_) <;> simp -implicitDefEqProofs only [hb, go_sem, k109, m109, c109_eq, k110, m110, c110_eq, k111, m111, c111_eq, k80, m80, c80_eq, ty134, bif_drop, Nat.reduceAdd, Nat.reduceMul, Nat.reduceLeDiff, Nat.reduceEqDiff, reduceCtorEq, Nat.reduceSub, Int.reduceNeg, Nat.reduceMod, Nat.reduceBEq, Nat.reduceLT] <;> try simp only [bOf_t, bOf_f, decide_eq_true_eq, decide_eq_false_iff_not, Bool.not_eq_true', Bool.not_eq_false', Bool.not_eq_true, Bool.not_eq_false, Decidable.not_not] at hb))
        all_goals first | rfl | omega | exact kd3 | exact hpre.1 | exact hpre.2 | skip
        refine Le.of ?_ ?_
        all_goals simp -implicitDefEqProofs only [leS, leT, done1, hD, hp, go_sem, k109, m109, c109_eq, k110, m110, c110_eq, k111, m111, c111_eq, k80, m80, c80_eq, ty134, bif_drop, Nat.reduceAdd, Nat.reduceMul, Nat.reduceLeDiff, Nat.reduceEqDiff, reduceCtorEq, Nat.reduceSub, Int.reduceNeg, Nat.reduceMod, Nat.reduceBEq, Nat.reduceLT]
        all_goals (try simp [done1, hD, hp])
        all_goals trace_state
      · clear hcl
        simp -implicitDefEqProofs only [Bool.and_eq_true, go_sem, k109, m109, c109_eq, k110, m110, c110_eq, k111, m111, c111_eq, k80, m80, c80_eq, ty134, bif_drop, Nat.reduceAdd, Nat.reduceMul, Nat.reduceLeDiff, Nat.reduceEqDiff, reduceCtorEq, Nat.reduceSub, Int.reduceNeg, Nat.reduceMod, Nat.reduceBEq, Nat.reduceLT] at hp hD
        simp -implicitDefEqProofs only [S1, S2, hD, hp, go_sem, k109, m109, c109_eq, k110, m110, c110_eq, k111, m111, c111_eq, k80, m80, c80_eq, ty134, bif_drop, Nat.reduceAdd, Nat.reduceMul, Nat.reduceLeDiff, Nat.reduceEqDiff, reduceCtorEq, Nat.reduceSub, Int.reduceNeg, Nat.reduceMod, Nat.reduceBEq, Nat.reduceLT]
        repeat' (first | with_reducible apply And.intro | with_reducible intro _ | (refine brB_split (fun hb => ?_) (fun hb => ?_) <;> simp -implicitDefEqProofs only [hb, go_sem, k109, m109, c109_eq, k110, m110, c110_eq, k111, m111, c111_eq, k80, m80, c80_eq, ty134, bif_drop, Nat.reduceAdd, Nat.reduceMul, Nat.reduceLeDiff, Nat.reduceEqDiff, reduceCtorEq, Nat.reduceSub, Int.reduceNeg, Nat.reduceMod, Nat.reduceBEq, Nat.reduceLT] <;> try simp only [bOf_t, bOf_f, decide_eq_true_eq, decide_eq_false_iff_not, Bool.not_eq_true', Bool.not_eq_false', Bool.not_eq_true, Bool.not_eq_false, Decidable.not_not] at hb) | (refine aPickB_split (fun hb => ?_) (fun hb => ?_) <;> simp -implicitDefEqProofs only [hb, go_sem, k109, m109, c109_eq, k110, m110, c110_eq, k111, m111, c111_eq, k80, m80, c80_eq, ty134, bif_drop, Nat.reduceAdd, Nat.reduceMul, Nat.reduceLeDiff, Nat.reduceEqDiff, reduceCtorEq, Nat.reduceSub, Int.reduceNeg, Nat.reduceMod, Nat.reduceBEq, Nat.reduceLT] <;> try simp only [bOf_t, bOf_f, decide_eq_true_eq, decide_eq_false_iff_not, Bool.not_eq_true', Bool.not_eq_false', Bool.not_eq_true, Bool.not_eq_false, Decidable.not_not] at hb) | (refine gB_split (fun hb => ?_) (fun hb => ?_) <;> simp -implicitDefEqProofs only [hb, go_sem, k109, m109, c109_eq, k110, m110, c110_eq, k111, m111, c111_eq, k80, m80, c80_eq, ty134, bif_drop, Nat.reduceAdd, Nat.reduceMul, Nat.reduceLeDiff, Nat.reduceEqDiff, reduceCtorEq, Nat.reduceSub, Int.reduceNeg, Nat.reduceMod, Nat.reduceBEq, Nat.reduceLT] <;> try simp only [bOf_t, bOf_f, decide_eq_true_eq, decide_eq_false_iff_not, Bool.not_eq_true', Bool.not_eq_false', Bool.not_eq_true, Bool.not_eq_false, Decidable.not_not] at hb))
        all_goals first | rfl | omega | exact kd3 | exact hpre.1 | exact hpre.2 | skip
        refine Le.of ?_ ?_
        all_goals simp -implicitDefEqProofs only [leS, leT, done1, hD, hp, go_sem, k109, m109, c109_eq, k110, m110, c110_eq, k111, m111, c111_eq, k80, m80, c80_eq, ty134, bif_drop, Nat.reduceAdd, Nat.reduceMul, Nat.reduceLeDiff, Nat.reduceEqDiff, reduceCtorEq, Nat.reduceSub, Int.reduceNeg, Nat.reduceMod, Nat.reduceBEq, Nat.reduceLT]
        all_goals (try simp [done1, hD, hp])
        all_goals trace_state
      · clear hcl
        simp -implicitDefEqProofs only [Bool.and_eq_true, go_sem, k109, m109, c109_eq, k110, m110, c110_eq, k111, m111, c111_eq, k80, m80, c80_eq, ty134, bif_drop, Nat.reduceAdd, Nat.reduceMul, Nat.reduceLeDiff, Nat.reduceEqDiff, reduceCtorEq, Nat.reduceSub, Int.reduceNeg, Nat.reduceMod, Nat.reduceBEq, Nat.reduceLT] at hp hD
        simp -implicitDefEqProofs only [S1, S2, hD, hp, go_sem, k109, m109, c109_eq, k110, m110, c110_eq, k111, m111, c111_eq, k80, m80, c80_eq, ty134, bif_drop, Nat.reduceAdd, Nat.reduceMul, Nat.reduceLeDiff, Nat.reduceEqDiff, reduceCtorEq, Nat.reduceSub, Int.reduceNeg, Nat.reduceMod, Nat.reduceBEq, Nat.reduceLT]
        repeat' (first | with_reducible apply And.intro | with_reducible intro _ | (refine brB_split (fun hb => ?_) (fun hb => ?_) <;> simp -implicitDefEqProofs only [hb, go_sem, k109, m109, c109_eq, k110, m110, c110_eq, k111, m111, c111_eq, k80, m80, c80_eq, ty134, bif_drop, Nat.reduceAdd, Nat.reduceMul, Nat.reduceLeDiff, Nat.reduceEqDiff, reduceCtorEq, Nat.reduceSub, Int.reduceNeg, Nat.reduceMod, Nat.reduceBEq, Nat.reduceLT] <;> try simp only [bOf_t, bOf_f, decide_eq_true_eq, decide_eq_false_iff_not, Bool.not_eq_true', Bool.not_eq_false', Bool.not_eq_true, Bool.not_eq_false, Decidable.not_not] at hb) | (refine aPickB_split (fun hb => ?_) (fun hb => ?_) <;> simp -implicitDefEqProofs only [hb, go_sem, k109, m109, c109_eq, k110, m110, c110_eq, k111, m111, c111_eq, k80, m80, c80_eq, ty134, bif_drop, Nat.reduceAdd, Nat.reduceMul, Nat.reduceLeDiff, Nat.reduceEqDiff, reduceCtorEq, Nat.reduceSub, Int.reduceNeg, Nat.reduceMod, Nat.reduceBEq, Nat.reduceLT] <;> try simp only [bOf_t, bOf_f, decide_eq_true_eq, decide_eq_false_iff_not, Bool.not_eq_true', Bool.not_eq_false', Bool.not_eq_true, Bool.not_eq_false, Decidable.not_not] at hb) | (refine gB_split (fun hb => ?_) (fun hb => ?_) <;> simp -implicitDefEqProofs only [hb, go_sem, k109, m109, c109_eq, k110, m110, c110_eq, k111, m111, c111_eq, k80, m80, c80_eq, ty134, bif_drop, Nat.reduceAdd, Nat.reduceMul, Nat.reduceLeDiff, Nat.reduceEqDiff, reduceCtorEq, Nat.reduceSub, Int.reduceNeg, Nat.reduceMod, Nat.reduceBEq, Nat.reduceLT] <;> try simp only [bOf_t, bOf_f, decide_eq_true_eq, decide_eq_false_iff_not, Bool.not_eq_true', Bool.not_eq_false', Bool.not_eq_true, Bool.not_eq_false, Decidable.not_not] at hb))
        all_goals first | rfl | omega | exact kd3 | exact hpre.1 | exact hpre.2 | skip
        refine Le.of ?_ ?_
        all_goals simp -implicitDefEqProofs only [leS, leT, done1, hD, hp, go_sem, k109, m109, c109_eq, k110, m110, c110_eq, k111, m111, c111_eq, k80, m80, c80_eq, ty134, bif_drop, Nat.reduceAdd, Nat.reduceMul, Nat.reduceLeDiff, Nat.reduceEqDiff, reduceCtorEq, Nat.reduceSub, Int.reduceNeg, Nat.reduceMod, Nat.reduceBEq, Nat.reduceLT]
        all_goals (try simp [done1, hD, hp])
        all_goals trace_state
      · clear hcl
        simp -implicitDefEqProofs only [Bool.and_eq_true, go_sem, k109, m109, c109_eq, k110, m110, c110_eq, k111, m111, c111_eq, k80, m80, c80_eq, ty134, bif_drop, Nat.reduceAdd, Nat.reduceMul, Nat.reduceLeDiff, Nat.reduceEqDiff, reduceCtorEq, Nat.reduceSub, Int.reduceNeg, Nat.reduceMod, Nat.reduceBEq, Nat.reduceLT] at hp hD
        simp -implicitDefEqProofs only [S1, S2, hD, hp, go_sem, k109, m109, c109_eq, k110, m110, c110_eq, k111, m111, c111_eq, k80, m80, c80_eq, ty134, bif_drop, Nat.reduceAdd, Nat.reduceMul, Nat.reduceLeDiff, Nat.reduceEqDiff, reduceCtorEq, Nat.reduceSub, Int.reduceNeg, Nat.reduceMod, Nat.reduceBEq, Nat.reduceLT]
        repeat' (first | with_reducible apply And.intro | with_reducible intro _ | (refine brB_split (fun hb => ?_) (fun hb => ?_) <;> simp -implicitDefEqProofs only [hb, go_sem, k109, m109, c109_eq, k110, m110, c110_eq, k111, m111, c111_eq, k80, m80, c80_eq, ty134, bif_drop, Nat.reduceAdd, Nat.reduceMul, Nat.reduceLeDiff, Nat.reduceEqDiff, reduceCtorEq, Nat.reduceSub, Int.reduceNeg, Nat.reduceMod, Nat.reduceBEq, Nat.reduceLT] <;> try simp only [bOf_t, bOf_f, decide_eq_true_eq, decide_eq_false_iff_not, Bool.not_eq_true', Bool.not_eq_false', Bool.not_eq_true, Bool.not_eq_false, Decidable.not_not] at hb) | (refine aPickB_split (fun hb => ?_) (fun hb => ?_) <;> simp -implicitDefEqProofs only [hb, go_sem, k109, m109, c109_eq, k110, m110, c110_eq, k111, m111, c111_eq, k80, m80, c80_eq, ty134, bif_drop, Nat.reduceAdd, Nat.reduceMul, Nat.reduceLeDiff, Nat.reduceEqDiff, reduceCtorEq, Nat.reduceSub, Int.reduceNeg, Nat.reduceMod, Nat.reduceBEq, Nat.reduceLT] <;> try simp only [bOf_t, bOf_f, decide_eq_true_eq, decide_eq_false_iff_not, Bool.not_eq_true', Bool.not_eq_false', Bool.not_eq_true, Bool.not_eq_false, Decidable.not_not] at hb) | (refine gB_split (fun hb => ?_) (fun hb => ?_) <;> simp -implicitDefEqProofs only [hb, go_sem, k109, m109, c109_eq, k110, m110, c110_eq, k111, m111, c111_eq, k80, m80, c80_eq, ty134, bif_drop, Nat.reduceAdd, Nat.reduceMul, Nat.reduceLeDiff, Nat.reduceEqDiff, reduceCtorEq, Nat.reduceSub, Int.reduceNeg, Nat.reduceMod, Nat.reduceBEq, Nat.reduceLT] <;> try simp only [bOf_t, bOf_f, decide_eq_true_eq, decide_eq_false_iff_not, Bool.not_eq_true', Bool.not_eq_false', Bool.not_eq_true, Bool.not_eq_false, Decidable.not_not] at hb))
        all_goals first | rfl | omega | exact kd3 | exact hpre.1 | exact hpre.2 | skip
        refine Le.of1 (id := 1019) (e2 := ?e1019x8) (by exact rfl) ?hp1019x8 ?h11019x8 ?h21019x8
        case hp1019x8 => exact upB2
        all_goals simp -implicitDefEqProofs only [leS, leT, done1, hD, hp, go_sem, k109, m109, c109_eq, k110, m110, c110_eq, k111, m111, c111_eq, k80, m80, c80_eq, ty134, bif_drop, Nat.reduceAdd, Nat.reduceMul, Nat.reduceLeDiff, Nat.reduceEqDiff, reduceCtorEq, Nat.reduceSub, Int.reduceNeg, Nat.reduceMod, Nat.reduceBEq, Nat.reduceLT]
        all_goals (try simp [done1, hD, hp])
        all_goals trace_state
      · clear hcl
        simp -implicitDefEqProofs only [Bool.and_eq_true, go_sem, k109, m109, c109_eq, k110, m110, c110_eq, k111, m111, c111_eq, k80, m80, c80_eq, ty134, bif_drop, Nat.reduceAdd, Nat.reduceMul, Nat.reduceLeDiff, Nat.reduceEqDiff, reduceCtorEq, Nat.reduceSub, Int.reduceNeg, Nat.reduceMod, Nat.reduceBEq, Nat.reduceLT] at hp hD
        simp -implicitDefEqProofs only [S1, S2, hD, hp, go_sem, k109, m109, c109_eq, k110, m110, c110_eq, k111, m111, c111_eq, k80, m80, c80_eq, ty134, bif_drop, Nat.reduceAdd, Nat.reduceMul, Nat.reduceLeDiff, Nat.reduceEqDiff, reduceCtorEq, Nat.reduceSub, Int.reduceNeg, Nat.reduceMod, Nat.reduceBEq, Nat.reduceLT]
        repeat' (first | with_reducible apply And.intro | with_reducible intro _ | (refine brB_split (fun hb => ?_) (fun hb => ?_) <;> simp -implicitDefEqProofs only [hb, go_sem, k109, m109, c109_eq, k110, m110, c110_eq, k111, m111, c111_eq, k80, m80, c80_eq, ty134, bif_drop, Nat.reduceAdd, Nat.reduceMul, Nat.reduceLeDiff, Nat.reduceEqDiff, reduceCtorEq, Nat.reduceSub, Int.reduceNeg, Nat.reduceMod, Nat.reduceBEq, Nat.reduceLT] <;> try simp only [bOf_t, bOf_f, decide_eq_true_eq, decide_eq_false_iff_not, Bool.not_eq_true', Bool.not_eq_false', Bool.not_eq_true, Bool.not_eq_false, Decidable.not_not] at hb) | (refine aPickB_split (fun hb => ?_) (fun hb => ?_) <;> simp -implicitDefEqProofs only [hb, go_sem, k109, m109, c109_eq, k110, m110, c110_eq, k111, m111, c111_eq, k80, m80, c80_eq, ty134, bif_drop, Nat.reduceAdd, Nat.reduceMul, Nat.reduceLeDiff, Nat.reduceEqDiff, reduceCtorEq, Nat.reduceSub, Int.reduceNeg, Nat.reduceMod, Nat.reduceBEq, Nat.reduceLT] <;> try simp only [bOf_t, bOf_f, decide_eq_true_eq, decide_eq_false_iff_not, Bool.not_eq_true', Bool.not_eq_false', Bool.not_eq_true, Bool.not_eq_false, Decidable.not_not] at hb) | (refine gB_split (fun hb => ?_) (fun hb => ?_) <;> simp -implicitDefEqProofs only [hb, go_sem, k109, m109, c109_eq, k110, m110, c110_eq, k111, m111, c111_eq, k80, m80, c80_eq, ty134, bif_drop, Nat.reduceAdd, Nat.reduceMul, Nat.reduceLeDiff, Nat.reduceEqDiff, reduceCtorEq, Nat.reduceSub, Int.reduceNeg, Nat.reduceMod, Nat.reduceBEq, Nat.reduceLT] <;> try simp only [bOf_t, bOf_f, decide_eq_true_eq, decide_eq_false_iff_not, Bool.not_eq_true', Bool.not_eq_false', Bool.not_eq_true, Bool.not_eq_false, Decidable.not_not] at hb))
        all_goals first | rfl | omega | exact kd3 | exact hpre.1 | exact hpre.2 | skip
        refine Le.of ?_ ?_
        all_goals simp -implicitDefEqProofs only [leS, leT, done1, hD, hp, go_sem, k109, m109, c109_eq, k110, m110, c110_eq, k111, m111, c111_eq, k80, m80, c80_eq, ty134, bif_drop, Nat.reduceAdd, Nat.reduceMul, Nat.reduceLeDiff, Nat.reduceEqDiff, reduceCtorEq, Nat.reduceSub, Int.reduceNeg, Nat.reduceMod, Nat.reduceBEq, Nat.reduceLT]
        all_goals (try simp [done1, hD, hp])
        all_goals trace_state
      · clear hcl
        simp -implicitDefEqProofs only [Bool.and_eq_true, go_sem, k109, m109, c109_eq, k110, m110, c110_eq, k111, m111, c111_eq, k80, m80, c80_eq, ty134, bif_drop, Nat.reduceAdd, Nat.reduceMul, Nat.reduceLeDiff, Nat.reduceEqDiff, reduceCtorEq, Nat.reduceSub, Int.reduceNeg, Nat.reduceMod, Nat.reduceBEq, Nat.reduceLT] at hp hD
        simp -implicitDefEqProofs only [S1, S2, hD, hp, go_sem, k109, m109, c109_eq, k110, m110, c110_eq, k111, m111, c111_eq, k80, m80, c80_eq, ty134, bif_drop, Nat.reduceAdd, Nat.reduceMul, Nat.reduceLeDiff, Nat.reduceEqDiff, reduceCtorEq, Nat.reduceSub, Int.reduceNeg, Nat.reduceMod, Nat.reduceBEq, Nat.reduceLT]
        repeat' (first | with_reducible apply And.intro | with_reducible intro _ | (refine brB_split (fun hb => ?_) (fun hb => ?_) <;> simp -implicitDefEqProofs only [hb, go_sem, k109, m109, c109_eq, k110, m110, c110_eq, k111, m111, c111_eq, k80, m80, c80_eq, ty134, bif_drop, Nat.reduceAdd, Nat.reduceMul, Nat.reduceLeDiff, Nat.reduceEqDiff, reduceCtorEq, Nat.reduceSub, Int.reduceNeg, Nat.reduceMod, Nat.reduceBEq, Nat.reduceLT] <;> try simp only [bOf_t, bOf_f, decide_eq_true_eq, decide_eq_false_iff_not, Bool.not_eq_true', Bool.not_eq_false', Bool.not_eq_true, Bool.not_eq_false, Decidable.not_not] at hb) | (refine aPickB_split (fun hb => ?_) (fun hb => ?_) <;> simp -implicitDefEqProofs only [hb, go_sem, k109, m109, c109_eq, k110, m110, c110_eq, k111, m111, c111_eq, k80, m80, c80_eq, ty134, bif_drop, Nat.reduceAdd, Nat.reduceMul, Nat.reduceLeDiff, Nat.reduceEqDiff, reduceCtorEq, Nat.reduceSub, Int.reduceNeg, Nat.reduceMod, Nat.reduceBEq, Nat.reduceLT] <;> try simp only [bOf_t, bOf_f, decide_eq_true_eq, decide_eq_false_iff_not, Bool.not_eq_true', Bool.not_eq_false', Bool.not_eq_true, Bool.not_eq_false, Decidable.not_not] at hb) | (refine gB_split (fun hb => ?_) (fun hb => ?_) <;> simp -implicitDefEqProofs only [hb, go_sem, k109, m109, c109_eq, k110, m110, c110_eq, k111, m111, c111_eq, k80, m80, c80_eq, ty134, bif_drop, Nat.reduceAdd, Nat.reduceMul, Nat.reduceLeDiff, Nat.reduceEqDiff, reduceCtorEq, Nat.reduceSub, Int.reduceNeg, Nat.reduceMod, Nat.reduceBEq, Nat.reduceLT] <;> try simp only [bOf_t, bOf_f, decide_eq_true_eq, decide_eq_false_iff_not, Bool.not_eq_true', Bool.not_eq_false', Bool.not_eq_true, Bool.not_eq_false, Decidable.not_not] at hb))
        all_goals first | rfl | omega | exact kd3 | exact hpre.1 | exact hpre.2 | skip
        refine Le.of ?_ ?_
        all_goals simp -implicitDefEqProofs only [leS, leT, done1, hD, hp, go_sem, k109, m109, c109_eq, k110, m110, c110_eq, k111, m111, c111_eq, k80, m80, c80_eq, ty134, bif_drop, Nat.reduceAdd, Nat.reduceMul, Nat.reduceLeDiff, Nat.reduceEqDiff, reduceCtorEq, Nat.reduceSub, Int.reduceNeg, Nat.reduceMod, Nat.reduceBEq, Nat.reduceLT]
        all_goals (try simp [done1, hD, hp])
        all_goals trace_state
      · clear hcl
        simp -implicitDefEqProofs only [Bool.and_eq_true, go_sem, k109, m109, c109_eq, k110, m110, c110_eq, k111, m111, c111_eq, k80, m80, c80_eq, ty134, bif_drop, Nat.reduceAdd, Nat.reduceMul, Nat.reduceLeDiff, Nat.reduceEqDiff, reduceCtorEq, Nat.reduceSub, Int.reduceNeg, Nat.reduceMod, Nat.reduceBEq, Nat.reduceLT] at hp hD
        simp -implicitDefEqProofs only [S1, S2, hD, hp, go_sem, k109, m109, c109_eq, k110, m110, c110_eq, k111, m111, c111_eq, k80, m80, c80_eq, ty134, bif_drop, Nat.reduceAdd, Nat.reduceMul, Nat.reduceLeDiff, Nat.reduceEqDiff, reduceCtorEq, Nat.reduceSub, Int.reduceNeg, Nat.reduceMod, Nat.reduceBEq, Nat.reduceLT]
        repeat' (first | with_reducible apply And.intro | with_reducible intro _ | (refine brB_split (fun hb => ?_) (fun hb => ?_) <;> simp -implicitDefEqProofs only [hb, go_sem, k109, m109, c109_eq, k110, m110, c110_eq, k111, m111, c111_eq, k80, m80, c80_eq, ty134, bif_drop, Nat.reduceAdd, Nat.reduceMul, Nat.reduceLeDiff, Nat.reduceEqDiff, reduceCtorEq, Nat.reduceSub, Int.reduceNeg, Nat.reduceMod, Nat.reduceBEq, Nat.reduceLT] <;> try simp only [bOf_t, bOf_f, decide_eq_true_eq, decide_eq_false_iff_not, Bool.not_eq_true', Bool.not_eq_false', Bool.not_eq_true, Bool.not_eq_false, Decidable.not_not] at hb) | (refine aPickB_split (fun hb => ?_) (fun hb => ?_) <;> simp -implicitDefEqProofs only [hb, go_sem, k109, m109, c109_eq, k110, m110, c110_eq, k111, m111, c111_eq, k80, m80, c80_eq, ty134, bif_drop, Nat.reduceAdd, Nat.reduceMul, Nat.reduceLeDiff, Nat.reduceEqDiff, reduceCtorEq, Nat.reduceSub, Int.reduceNeg, Nat.reduceMod, Nat.reduceBEq, Nat.reduceLT] <;> try simp only [bOf_t, bOf_f, decide_eq_true_eq, decide_eq_false_iff_not, Bool.not_eq_true', Bool.not_eq_false', Bool.not_eq_true, Bool.not_eq_false, Decidable.not_not] at hb) | (refine gB_split (fun hb => ?_) (fun hb => ?_) <;> simp -implicitDefEqProofs only [hb, go_sem, k109, m109, c109_eq, k110, m110, c110_eq, k111, m111, c111_eq, k80, m80, c80_eq, ty134, bif_drop, Nat.reduceAdd, Nat.reduceMul, Nat.reduceLeDiff, Nat.reduceEqDiff, reduceCtorEq, Nat.reduceSub, Int.reduceNeg, Nat.reduceMod, Nat.reduceBEq, Nat.reduceLT] <;> try simp only [bOf_t, bOf_f, decide_eq_true_eq, decide_eq_false_iff_not, Bool.not_eq_true', Bool.not_eq_false', Bool.not_eq_true, Bool.not_eq_false, Decidable.not_not] at hb))
        all_goals first | rfl | omega | exact kd3 | exact hpre.1 | exact hpre.2 | skip
        refine Le.of ?_ ?_
        all_goals simp -implicitDefEqProofs only [leS, leT, done1, hD, hp, go_sem, k109, m109, c109_eq, k110, m110, c110_eq, k111, m111, c111_eq, k80, m80, c80_eq, ty134, bif_drop, Nat.reduceAdd, Nat.reduceMul, Nat.reduceLeDiff, Nat.reduceEqDiff, reduceCtorEq, Nat.reduceSub, Int.reduceNeg, Nat.reduceMod, Nat.reduceBEq, Nat.reduceLT]
        all_goals (try simp [done1, hD, hp])
        all_goals trace_state
      · clear hcl
        simp -implicitDefEqProofs only [Bool.and_eq_true, go_sem, k109, m109, c109_eq, k110, m110, c110_eq, k111, m111, c111_eq, k80, m80, c80_eq, ty134, bif_drop, Nat.reduceAdd, Nat.reduceMul, Nat.reduceLeDiff, Nat.reduceEqDiff, reduceCtorEq, Nat.reduceSub, Int.reduceNeg, Nat.reduceMod, Nat.reduceBEq, Nat.reduceLT] at hp hD
        simp -implicitDefEqProofs only [S1, S2, hD, hp, go_sem, k109, m109, c109_eq, k110, m110, c110_eq, k111, m111, c111_eq, k80, m80, c80_eq, ty134, bif_drop, Nat.reduceAdd, Nat.reduceMul, Nat.reduceLeDiff, Nat.reduceEqDiff, reduceCtorEq, Nat.reduceSub, Int.reduceNeg, Nat.reduceMod, Nat.reduceBEq, Nat.reduceLT]
        repeat' (first | with_reducible apply And.intro | with_reducible intro _ | (refine brB_split (fun hb => ?_) (fun hb => ?_) <;> simp -implicitDefEqProofs only [hb, go_sem, k109, m109, c109_eq, k110, m110, c110_eq, k111, m111, c111_eq, k80, m80, c80_eq, ty134, bif_drop, Nat.reduceAdd, Nat.reduceMul, Nat.reduceLeDiff, Nat.reduceEqDiff, reduceCtorEq, Nat.reduceSub, Int.reduceNeg, Nat.reduceMod, Nat.reduceBEq, Nat.reduceLT] <;> try simp only [bOf_t, bOf_f, decide_eq_true_eq, decide_eq_false_iff_not, Bool.not_eq_true', Bool.not_eq_false', Bool.not_eq_true, Bool.not_eq_false, Decidable.not_not] at hb) | (refine aPickB_split (fun hb => ?_) (fun hb => ?_) <;> simp -implicitDefEqProofs only [hb, go_sem, k109, m109, c109_eq, k110, m110, c110_eq, k111, m111, c111_eq, k80, m80, c80_eq, ty134, bif_drop, Nat.reduceAdd, Nat.reduceMul, Nat.reduceLeDiff, Nat.reduceEqDiff, reduceCtorEq, Nat.reduceSub, Int.reduceNeg, Nat.reduceMod, Nat.reduceBEq, Nat.reduceLT] <;> try simp only [bOf_t, bOf_f, decide_eq_true_eq, decide_eq_false_iff_not, Bool.not_eq_true', Bool.not_eq_false', Bool.not_eq_true, Bool.not_eq_false, Decidable.not_not] at hb) | (refine gB_split (fun hb => ?_) (fun hb => ?_) <;> simp -implicitDefEqProofs only [hb, go_sem, k109, m109, c109_eq, k110, m110, c110_eq, k111, m111, c111_eq, k80, m80, c80_eq, ty134, bif_drop, Nat.reduceAdd, Nat.reduceMul, Nat.reduceLeDiff, Nat.reduceEqDiff, reduceCtorEq, Nat.reduceSub, Int.reduceNeg, Nat.reduceMod, Nat.reduceBEq, Nat.reduceLT] <;> try simp only [bOf_t, bOf_f, decide_eq_true_eq, decide_eq_false_iff_not, Bool.not_eq_true', Bool.not_eq_false', Bool.not_eq_true, Bool.not_eq_false, Decidable.not_not] at hb))
        all_goals first | rfl | omega | exact kd3 | exact hpre.1 | exact hpre.2 | skip
        refine Le.of1 (id := 1019) (e2 := ?e1019x12) (by exact rfl) ?hp1019x12 ?h11019x12 ?h21019x12
        case hp1019x12 => exact upB3
        all_goals simp -implicitDefEqProofs only [leS, leT, done1, hD, hp, go_sem, k109, m109, c109_eq, k110, m110, c110_eq, k111, m111, c111_eq, k80, m80, c80_eq, ty134, bif_drop, Nat.reduceAdd, Nat.reduceMul, Nat.reduceLeDiff, Nat.reduceEqDiff, reduceCtorEq, Nat.reduceSub, Int.reduceNeg, Nat.reduceMod, Nat.reduceBEq, Nat.reduceLT]
        all_goals (try simp [done1, hD, hp])
        all_goals trace_state
      · clear hcl
        simp -implicitDefEqProofs only [Bool.and_eq_true, go_sem, k109, m109, c109_eq, k110, m110, c110_eq, k111, m111, c111_eq, k80, m80, c80_eq, ty134, bif_drop, Nat.reduceAdd, Nat.reduceMul, Nat.reduceLeDiff, Nat.reduceEqDiff, reduceCtorEq, Nat.reduceSub, Int.reduceNeg, Nat.reduceMod, Nat.reduceBEq, Nat.reduceLT] at hp hD
        simp -implicitDefEqProofs only [S1, S2, hD, hp, go_sem, k109, m109, c109_eq, k110, m110, c110_eq, k111, m111, c111_eq, k80, m80, c80_eq, ty134, bif_drop, Nat.reduceAdd, Nat.reduceMul, Nat.reduceLeDiff, Nat.reduceEqDiff, reduceCtorEq, Nat.reduceSub, Int.reduceNeg, Nat.reduceMod, Nat.reduceBEq, Nat.reduceLT]
        repeat' (first | with_reducible apply And.intro | with_reducible intro _ | (refine brB_split (fun hb => ?_) (fun hb => ?_) <;> simp -implicitDefEqProofs only [hb, go_sem, k109, m109, c109_eq, k110, m110, c110_eq, k111, m111, c111_eq, k80, m80, c80_eq, ty134, bif_drop, Nat.reduceAdd, Nat.reduceMul, Nat.reduceLeDiff, Nat.reduceEqDiff, reduceCtorEq, Nat.reduceSub, Int.reduceNeg, Nat.reduceMod, Nat.reduceBEq, Nat.reduceLT] <;> try simp only [bOf_t, bOf_f, decide_eq_true_eq, decide_eq_false_iff_not, Bool.not_eq_true', Bool.not_eq_false', Bool.not_eq_true, Bool.not_eq_false, Decidable.not_not] at hb) | (refine aPickB_split (fun hb => ?_) (fun hb => ?_) <;> simp -implicitDefEqProofs only [hb, go_sem, k109, m109, c109_eq, k110, m110, c110_eq, k111, m111, c111_eq, k80, m80, c80_eq, ty134, bif_drop, Nat.reduceAdd, Nat.reduceMul, Nat.reduceLeDiff, Nat.reduceEqDiff, reduceCtorEq, Nat.reduceSub, Int.reduceNeg, Nat.reduceMod, Nat.reduceBEq, Nat.reduceLT] <;> try simp only [bOf_t, bOf_f, decide_eq_true_eq, decide_eq_false_iff_not, Bool.not_eq_true', Bool.not_eq_false', Bool.not_eq_true, Bool.not_eq_false, Decidable.not_not] at hb) | (refine gB_split (fun hb => ?_) (fun hb => ?_) <;> simp -implicitDefEqProofs only [hb, go_sem, k109, m109, c109_eq, k110, m110, c110_eq, k111, m111, c111_eq, k80, m80, c80_eq, ty134, bif_drop, Nat.reduceAdd, Nat.reduceMul, Nat.reduceLeDiff, Nat.reduceEqDiff, reduceCtorEq, Nat.reduceSub, Int.reduceNeg, Nat.reduceMod, Nat.reduceBEq, Nat.reduceLT] <;> try simp only [bOf_t, bOf_f, decide_eq_true_eq, decide_eq_false_iff_not, Bool.not_eq_true', Bool.not_eq_false', Bool.not_eq_true, Bool.not_eq_false, Decidable.not_not] at hb))
        all_goals first | rfl | omega | exact kd3 | exact hpre.1 | exact hpre.2 | skip
        refine Le.of ?_ ?_
        all_goals simp -implicitDefEqProofs only [leS, leT, done1, hD, hp, go_sem, k109, m109, c109_eq, k110, m110, c110_eq, k111, m111, c111_eq, k80, m80, c80_eq, ty134, bif_drop, Nat.reduceAdd, Nat.reduceMul, Nat.reduceLeDiff, Nat.reduceEqDiff, reduceCtorEq, Nat.reduceSub, Int.reduceNeg, Nat.reduceMod, Nat.reduceBEq, Nat.reduceLT]
        all_goals (try simp [done1, hD, hp])
        all_goals trace_state
      · clear hcl
        simp -implicitDefEqProofs only [Bool.and_eq_true, go_sem, k109, m109, c109_eq, k110, m110, c110_eq, k111, m111, c111_eq, k80, m80, c80_eq, ty134, bif_drop, Nat.reduceAdd, Nat.reduceMul, Nat.reduceLeDiff, Nat.reduceEqDiff, reduceCtorEq, Nat.reduceSub, Int.reduceNeg, Nat.reduceMod, Nat.reduceBEq, Nat.reduceLT] at hp hD
        simp -implicitDefEqProofs only [S1, S2, hD, hp, go_sem, k109, m109, c109_eq, k110, m110, c110_eq, k111, m111, c111_eq, k80, m80, c80_eq, ty134, bif_drop, Nat.reduceAdd, Nat.reduceMul, Nat.reduceLeDiff, Nat.reduceEqDiff, reduceCtorEq, Nat.reduceSub, Int.reduceNeg, Nat.reduceMod, Nat.reduceBEq, Nat.reduceLT]
        repeat' (first | with_reducible apply And.intro | with_reducible intro _ | (refine brB_split (fun hb => ?_) (fun hb => ?_) <;> simp -implicitDefEqProofs only [hb, go_sem, k109, m109, c109_eq, k110, m110, c110_eq, k111, m111, c111_eq, k80, m80, c80_eq, ty134, bif_drop, Nat.reduceAdd, Nat.reduceMul, Nat.reduceLeDiff, Nat.reduceEqDiff, reduceCtorEq, Nat.reduceSub, Int.reduceNeg, Nat.reduceMod, Nat.reduceBEq, Nat.reduceLT] <;> try simp only [bOf_t, bOf_f, decide_eq_true_eq, decide_eq_false_iff_not, Bool.not_eq_true', Bool.not_eq_false', Bool.not_eq_true, Bool.not_eq_false, Decidable.not_not] at hb) | (refine aPickB_split (fun hb => ?_) (fun hb => ?_) <;> simp -implicitDefEqProofs only [hb, go_sem, k109, m109, c109_eq, k110, m110, c110_eq, k111, m111, c111_eq, k80, m80, c80_eq, ty134, bif_drop, Nat.reduceAdd, Nat.reduceMul, Nat.reduceLeDiff, Nat.reduceEqDiff, reduceCtorEq, Nat.reduceSub, Int.reduceNeg, Nat.reduceMod, Nat.reduceBEq, Nat.reduceLT] <;> try simp only [bOf_t, bOf_f, decide_eq_true_eq, decide_eq_false_iff_not, Bool.not_eq_true', Bool.not_eq_false', Bool.not_eq_true, Bool.not_eq_false, Decidable.not_not] at hb) | (refine gB_split (fun hb => ?_) (fun hb => ?_) <;> simp -implicitDefEqProofs only [hb, go_sem, k109, m109, c109_eq, k110, m110, c110_eq, k111, m111, c111_eq, k80, m80, c80_eq, ty134, bif_drop, Nat.reduceAdd, Nat.reduceMul, Nat.reduceLeDiff, Nat.reduceEqDiff, reduceCtorEq, Nat.reduceSub, Int.reduceNeg, Nat.reduceMod, Nat.reduceBEq, Nat.reduceLT] <;> try simp only [bOf_t, bOf_f, decide_eq_true_eq, decide_eq_false_iff_not, Bool.not_eq_true', Bool.not_eq_false', Bool.not_eq_true, Bool.not_eq_false, Decidable.not_not] at hb))
        all_goals first | rfl | omega | exact kd3 | exact hpre.1 | exact hpre.2 | skip
        refine Le.of ?_ ?_
        all_goals simp -implicitDefEqProofs only [leS, leT, done1, hD, hp, go_sem, k109, m109, c109_eq, k110, m110, c110_eq, k111, m111, c111_eq, k80, m80, c80_eq, ty134, bif_drop, Nat.reduceAdd, Nat.reduceMul, Nat.reduceLeDiff, Nat.reduceEqDiff, reduceCtorEq, Nat.reduceSub, Int.reduceNeg, Nat.reduceMod, Nat.reduceBEq, Nat.reduceLT]
        all_goals (try simp [done1, hD, hp])
        all_goals trace_state
    · simp -implicitDefEqProofs only [S1, S2, tk_t, List.cons_append, List.nil_append, go_sem, k109, m109, c109_eq, k110, m110, c110_eq, k111, m111, c111_eq, k80, m80, c80_eq, ty134, bif_drop, Nat.reduceAdd, Nat.reduceMul, Nat.reduceLeDiff, Nat.reduceEqDiff, reduceCtorEq, Nat.reduceSub, Int.reduceNeg, Nat.reduceMod, Nat.reduceBEq, Nat.reduceLT]

      simp -implicitDefEqProofs only [kd3e, go_sem, k109, m109, c109_eq, k110, m110, c110_eq, k111, m111, c111_eq, k80, m80, c80_eq, ty134, bif_drop, Nat.reduceAdd, Nat.reduceMul, Nat.reduceLeDiff, Nat.reduceEqDiff, reduceCtorEq, Nat.reduceSub, Int.reduceNeg, Nat.reduceMod, Nat.reduceBEq, Nat.reduceLT]
      repeat' (first | with_reducible apply And.intro | with_reducible intro _ | (refine brB_split (fun hb => ?_) (fun hb => ?_) <;> simp -implicitDefEqProofs only [hb, go_sem, k109, m109, c109_eq, k110, m110, c110_eq, k111, m111, c111_eq, k80, m80, c80_eq, ty134, bif_drop, Nat.reduceAdd, Nat.reduceMul, Nat.reduceLeDiff, Nat.reduceEqDiff, reduceCtorEq, Nat.reduceSub, Int.reduceNeg, Nat.reduceMod, Nat.reduceBEq, Nat.reduceLT] <;> try simp only [bOf_t, bOf_f, decide_eq_true_eq, decide_eq_false_iff_not, Bool.not_eq_true', Bool.not_eq_false', Bool.not_eq_true, Bool.not_eq_false, Decidable.not_not] at hb) | (refine aPickB_split (fun hb => ?_) (fun hb => ?_) <;> simp -implicitDefEqProofs only [hb, go_sem, k109, m109, c109_eq, k110, m110, c110_eq, k111, m111, c111_eq, k80, m80, c80_eq, ty134, bif_drop, Nat.reduceAdd, Nat.reduceMul, Nat.reduceLeDiff, Nat.reduceEqDiff, reduceCtorEq, Nat.reduceSub, Int.reduceNeg, Nat.reduceMod, Nat.reduceBEq, Nat.reduceLT] <;> try simp only [bOf_t, bOf_f, decide_eq_true_eq, decide_eq_false_iff_not, Bool.not_eq_true', Bool.not_eq_false', Bool.not_eq_true, Bool.not_eq_false, Decidable.not_not] at hb) | (refine gB_split (fun hb => ?_) (fun hb => ?_) <;> simp -implicitDefEqProofs only [hb, go_sem, k109, m109, c109_eq, k110, m110, c110_eq, k111, m111, c111_eq, k80, m80, c80_eq, ty134, bif_drop, Nat.reduceAdd, Nat.reduceMul, Nat.reduceLeDiff, Nat.reduceEqDiff, reduceCtorEq, Nat.reduceSub, Int.reduceNeg, Nat.reduceMod, Nat.reduceBEq, Nat.reduceLT] <;> try simp only [bOf_t, bOf_f, decide_eq_true_eq, decide_eq_false_iff_not, Bool.not_eq_true', Bool.not_eq_false', Bool.not_eq_true, Bool.not_eq_false, Decidable.not_not] at hb))
      all_goals first | rfl | omega | exact kd3 | skip
      · rw [bOf_congr (RuOk_lk r)]
        refine congrArg (fun b => T.v (.bool b)) ?_
        generalize lkE (.i r.act) _ = x
        cases x
        · rw [bOf_n (fun h => by cases h.2)]
        · rw [bOf_y ⟨hb, rfl⟩]
      · rw [bOf_n (fun h => by rw [((RuOk_lk r).1 h).1] at hb; cases hb)]


/-- The functions of a rule that are handed on. -/
inductive F3 where
  | bad
  | holds (m : Ml)
def F3.enc : F3 → AV
  | .bad => .t (.fn 77 [])
  | .holds m => .t (.fn 89 [.rop (encMl m)])
def F3.dec : AV → Option F3
  | .t (.fn 77 []) => some .bad
  | .t (.fn 89 [.rop c]) => (decMl c).map F3.holds
  | _ => none
def F3.sem : F3 → Ru → Prop
  | .bad, r => ¬ RuOk r
  | .holds m, r => Asks r m.frm m.body
def F3.ok : F3 → Ru → Prop
  | .bad, r => r.text.size ≤ 2000000 ∧ r.to.domain.size ≤ 2000000
  | .holds m, r => RuOk r ∧ MlOk m ∧ m.frm.domain.size ≤ 2000000
def AF3 : AD F3 where
  enc := F3.enc
  dec := F3.dec
  ed := fun f => by
    cases f with
    | bad => rfl
    | holds m =>
      show (decMl (encMl m)).map F3.holds = _
      rw [show decMl (encMl m) = some m from EMl.ed m]; rfl
  de := fun x f h => by
    unfold F3.dec at h
    split at h
    · cases h; rfl
    · rename_i c
      cases hd : decMl c with
      | none => rw [hd] at h; cases h
      | some r =>
        rw [hd] at h; cases h
        have := EMl.de c r hd
        rw [this]; rfl
    · cases h
theorem AF3_d1 : AF3.dec (.t (.fn 77 [])) = some .bad := rfl
theorem AF3_d2 {u d : ByteArray} {t : List Ad} {b : List ByteArray} : AF3.dec (.t (.fn 89 [.rop [.v (.string u), .v (.string d), .sl (t.map encAd), .sl (b.map encStr)]])) = some (.holds ⟨⟨u, d⟩, t, b⟩) := AF3.ed (.holds ⟨⟨u, d⟩, t, b⟩)
theorem AF3_e1 : AF3.enc .bad = .t (.fn 77 []) := rfl
theorem AF3_e2 {m : Ml} : AF3.enc (.holds m) = .t (.fn 89 [.rop [.v (.string m.frm.user), .v (.string m.frm.domain), .sl (m.to.map encAd), .sl (m.body.map encStr)]]) := rfl
def c77 : Ct := ctR (lc ERu.ag l0) (fun p => p.1.text.size ≤ 2000000 ∧ p.1.to.domain.size ≤ 2000000) (fun p => .t (.v (.bool (bOf (¬ RuOk p.1)))))
theorem c77_eq {args : List AV} {K : AV → Prop} : c77 args K = K0 (fun p => p.1.text.size ≤ 2000000 ∧ p.1.to.domain.size ≤ 2000000) (fun p => .t (.v (.bool (bOf (¬ RuOk p.1))))) K ((lc ERu.ag l0).dec args) := rfl
theorem good77 {G : Gt} (hG : GOk Tryz.prog G ∧ GDet G) (h78 : G.e 78 = roEnt 0 c78) : Good Tryz.prog G.m 77 (roEnt 0 c77) := by
  refine good_run (dp := fun _ => true) (fn := Tryz.f77) (n := 1) (fun _ => rfl) (by kernel_rfl) rfl (by kernel_rfl) hmix hG (Nat.le_of_ble_eq_true rfl) (by kernel_rfl) (by decide) (fun _ _ => .v _) ?_
  have k78 : (G.e 78).kd = 0 := by rw [h78]; rfl
  have m78 : (G.e 78).ro = c78 := by rw [h78]; rfl
  rintro ⟨r, ⟨⟩⟩ hpre
  simp -implicitDefEqProofs only [Tryz.f77, go_sem, k78, m78, c78_eq, Nat.reduceAdd, Nat.reduceMul, Nat.reduceLeDiff, Nat.reduceEqDiff, reduceCtorEq, Nat.reduceSub, Int.reduceNeg, Nat.reduceMod, Nat.reduceBEq, Nat.reduceLT] at hpre ⊢

  repeat' (first | with_reducible apply And.intro | with_reducible intro _ | (refine brB_split (fun hb => ?_) (fun hb => ?_) <;> simp -implicitDefEqProofs only [hb, go_sem, k78, m78, c78_eq, Nat.reduceAdd, Nat.reduceMul, Nat.reduceLeDiff, Nat.reduceEqDiff, reduceCtorEq, Nat.reduceSub, Int.reduceNeg, Nat.reduceMod, Nat.reduceBEq, Nat.reduceLT] <;> try simp only [bOf_t, bOf_f, decide_eq_true_eq, decide_eq_false_iff_not, Bool.not_eq_true', Bool.not_eq_false', Bool.not_eq_true, Bool.not_eq_false, Decidable.not_not] at hb) | (refine aPickB_split (fun hb => ?_) (fun hb => ?_) <;> simp -implicitDefEqProofs only [hb, go_sem, k78, m78, c78_eq, Nat.reduceAdd, Nat.reduceMul, Nat.reduceLeDiff, Nat.reduceEqDiff, reduceCtorEq, Nat.reduceSub, Int.reduceNeg, Nat.reduceMod, Nat.reduceBEq, Nat.reduceLT] <;> try simp only [bOf_t, bOf_f, decide_eq_true_eq, decide_eq_false_iff_not, Bool.not_eq_true', Bool.not_eq_false', Bool.not_eq_true, Bool.not_eq_false, Decidable.not_not] at hb) | (refine gB_split (fun hb => ?_) (fun hb => ?_) <;> simp -implicitDefEqProofs only [hb, go_sem, k78, m78, c78_eq, Nat.reduceAdd, Nat.reduceMul, Nat.reduceLeDiff, Nat.reduceEqDiff, reduceCtorEq, Nat.reduceSub, Int.reduceNeg, Nat.reduceMod, Nat.reduceBEq, Nat.reduceLT] <;> try simp only [bOf_t, bOf_f, decide_eq_true_eq, decide_eq_false_iff_not, Bool.not_eq_true', Bool.not_eq_false', Bool.not_eq_true, Bool.not_eq_false, Decidable.not_not] at hb))
  all_goals first | rfl | omega | exact hpre.1 | exact hpre.2 | skip
  all_goals (rw [bOf_not])

def c88 : Ct := ctR (lc ERu.asl (lc AF3 l0)) (fun p => ∀ r ∈ p.1, p.2.1.ok r) (fun p => .t (.v (.int .i64 (ixP p.2.1.sem 0 p.1))))
theorem c88_eq {args : List AV} {K : AV → Prop} : c88 args K = K0 (fun p => ∀ r ∈ p.1, p.2.1.ok r) (fun p => .t (.v (.int .i64 (ixP p.2.1.sem 0 p.1)))) K ((lc ERu.asl (lc AF3 l0)).dec args) := rfl
set_option maxHeartbeats 800000 in
theorem good88 {G : Gt} (hG : GOk Tryz.prog G ∧ GDet G) (h77 : G.e 77 = roEnt 0 c77) (h89 : G.e 89 = roEnt 0 c89) : Good Tryz.prog G.m 88 (roEnt 0 c88) := by
  refine good_run (dp := fun _ => true) (fn := Tryz.f88) (n := 2) (fun _ => rfl) (by kernel_rfl) rfl (by kernel_rfl) hmix hG (Nat.le_of_ble_eq_true rfl) (by kernel_rfl) (by decide) (fun _ _ => .v _) ?_
  have k77 : (G.e 77).kd = 0 := by rw [h77]; rfl
  have m77 : (G.e 77).ro = c77 := by rw [h77]; rfl
  have k89 : (G.e 89).kd = 0 := by rw [h89]; rfl
  have m89 : (G.e 89).ro = c89 := by rw [h89]; rfl
  rintro ⟨xs, f, ⟨⟩⟩ hpre


  dsimp only at hpre ⊢
  cases f with
  | bad =>
    simp -implicitDefEqProofs only [Tryz.f88, go_sem, k77, m77, c77_eq, k89, m89, c89_eq, ap_enc, ap_dec, AFn0_dec, AFn0_enc, AF3_d1, AF3_d2, AF3_e1, AF3_e2, Bool.not_true, Bool.not_false, Nat.reduceAdd, Nat.reduceMul, Nat.reduceLeDiff, Nat.reduceEqDiff, reduceCtorEq, Nat.reduceSub, Int.reduceNeg, Nat.reduceMod, Nat.reduceBEq, Nat.reduceLT]
    repeat' (first | with_reducible apply And.intro | with_reducible intro _ | (refine brB_split (fun hb => ?_) (fun hb => ?_) <;> simp -implicitDefEqProofs only [hb, go_sem, k77, m77, c77_eq, k89, m89, c89_eq, ap_enc, ap_dec, AFn0_dec, AFn0_enc, AF3_d1, AF3_d2, AF3_e1, AF3_e2, Bool.not_true, Bool.not_false, Nat.reduceAdd, Nat.reduceMul, Nat.reduceLeDiff, Nat.reduceEqDiff, reduceCtorEq, Nat.reduceSub, Int.reduceNeg, Nat.reduceMod, Nat.reduceBEq, Nat.reduceLT] <;> try simp only [bOf_t, bOf_f, decide_eq_true_eq, decide_eq_false_iff_not, Bool.not_eq_true', Bool.not_eq_false', Bool.not_eq_true, Bool.not_eq_false, Decidable.not_not] at hb) | (refine aPickB_split (fun hb => ?_) (fun hb => ?_) <;> simp -implicitDefEqProofs only [hb, go_sem, k77, m77, c77_eq, k89, m89, c89_eq, ap_enc, ap_dec, AFn0_dec, AFn0_enc, AF3_d1, AF3_d2, AF3_e1, AF3_e2, Bool.not_true, Bool.not_false, Nat.reduceAdd, Nat.reduceMul, Nat.reduceLeDiff, Nat.reduceEqDiff, reduceCtorEq, Nat.reduceSub, Int.reduceNeg, Nat.reduceMod, Nat.reduceBEq, Nat.reduceLT] <;> try simp only [bOf_t, bOf_f, decide_eq_true_eq, decide_eq_false_iff_not, Bool.not_eq_true', Bool.not_eq_false', Bool.not_eq_true, Bool.not_eq_false, Decidable.not_not] at hb) | (refine gB_split (fun hb => ?_) (fun hb => ?_) <;> simp -implicitDefEqProofs only [hb, go_sem, k77, m77, c77_eq, k89, m89, c89_eq, ap_enc, ap_dec, AFn0_dec, AFn0_enc, AF3_d1, AF3_d2, AF3_e1, AF3_e2, Bool.not_true, Bool.not_false, Nat.reduceAdd, Nat.reduceMul, Nat.reduceLeDiff, Nat.reduceEqDiff, reduceCtorEq, Nat.reduceSub, Int.reduceNeg, Nat.reduceMod, Nat.reduceBEq, Nat.reduceLT] <;> try simp only [bOf_t, bOf_f, decide_eq_true_eq, decide_eq_false_iff_not, Bool.not_eq_true', Bool.not_eq_false', Bool.not_eq_true, Bool.not_eq_false, Decidable.not_not] at hb))
    all_goals first | rfl | omega | skip
    refine run_loop [] (ι := {i : Nat // i ≤ xs.length ∧ ixP (F3.sem .bad) 0 xs = ixP (F3.sem .bad) i (xs.drop i)}) (fun p => ⟨[(0, .t (.sl (xs.map encRu))), (1, .t (.fn 77 [])), (7, .t (.v (.int .i64 xs.length))), (8, .t (.v (.int .i64 p.1)))], []⟩) (fun p => xs.length - p.1) ⟨0, Nat.zero_le _, rfl⟩ rfl ?_ ?_
    · simp -implicitDefEqProofs only [go_sem, k77, m77, c77_eq, k89, m89, c89_eq, ap_enc, ap_dec, AFn0_dec, AFn0_enc, AF3_d1, AF3_d2, AF3_e1, AF3_e2, Bool.not_true, Bool.not_false, Nat.reduceAdd, Nat.reduceMul, Nat.reduceLeDiff, Nat.reduceEqDiff, reduceCtorEq, Nat.reduceSub, Int.reduceNeg, Nat.reduceMod, Nat.reduceBEq, Nat.reduceLT]
      try simp
    · rintro ⟨i, hi, hix⟩
      by_cases hlt : (i : Int) < xs.length
      · have hm : xs.getD (i : Int).toNat default ∈ xs := getD_mem (by omega)
        obtain ⟨hs1, hs2⟩ : _ ∧ _ := hpre _ hm
        cases hb : bOf (¬ RuOk (xs.getD (i : Int).toNat default))
        · have hq := hb
          simp -implicitDefEqProofs only [hlt, hq, go_sem, k77, m77, c77_eq, k89, m89, c89_eq, ap_enc, ap_dec, AFn0_dec, AFn0_enc, AF3_d1, AF3_d2, AF3_e1, AF3_e2, Bool.not_true, Bool.not_false, Nat.reduceAdd, Nat.reduceMul, Nat.reduceLeDiff, Nat.reduceEqDiff, reduceCtorEq, Nat.reduceSub, Int.reduceNeg, Nat.reduceMod, Nat.reduceBEq, Nat.reduceLT]
          repeat' (first | with_reducible apply And.intro | with_reducible intro _ | (refine brB_split (fun hb => ?_) (fun hb => ?_) <;> simp -implicitDefEqProofs only [hb, go_sem, k77, m77, c77_eq, k89, m89, c89_eq, ap_enc, ap_dec, AFn0_dec, AFn0_enc, AF3_d1, AF3_d2, AF3_e1, AF3_e2, Bool.not_true, Bool.not_false, Nat.reduceAdd, Nat.reduceMul, Nat.reduceLeDiff, Nat.reduceEqDiff, reduceCtorEq, Nat.reduceSub, Int.reduceNeg, Nat.reduceMod, Nat.reduceBEq, Nat.reduceLT] <;> try simp only [bOf_t, bOf_f, decide_eq_true_eq, decide_eq_false_iff_not, Bool.not_eq_true', Bool.not_eq_false', Bool.not_eq_true, Bool.not_eq_false, Decidable.not_not] at hb) | (refine aPickB_split (fun hb => ?_) (fun hb => ?_) <;> simp -implicitDefEqProofs only [hb, go_sem, k77, m77, c77_eq, k89, m89, c89_eq, ap_enc, ap_dec, AFn0_dec, AFn0_enc, AF3_d1, AF3_d2, AF3_e1, AF3_e2, Bool.not_true, Bool.not_false, Nat.reduceAdd, Nat.reduceMul, Nat.reduceLeDiff, Nat.reduceEqDiff, reduceCtorEq, Nat.reduceSub, Int.reduceNeg, Nat.reduceMod, Nat.reduceBEq, Nat.reduceLT] <;> try simp only [bOf_t, bOf_f, decide_eq_true_eq, decide_eq_false_iff_not, Bool.not_eq_true', Bool.not_eq_false', Bool.not_eq_true, Bool.not_eq_false, Decidable.not_not] at hb) | (refine gB_split (fun hb => ?_) (fun hb => ?_) <;> simp -implicitDefEqProofs only [hb, go_sem, k77, m77, c77_eq, k89, m89, c89_eq, ap_enc, ap_dec, AFn0_dec, AFn0_enc, AF3_d1, AF3_d2, AF3_e1, AF3_e2, Bool.not_true, Bool.not_false, Nat.reduceAdd, Nat.reduceMul, Nat.reduceLeDiff, Nat.reduceEqDiff, reduceCtorEq, Nat.reduceSub, Int.reduceNeg, Nat.reduceMod, Nat.reduceBEq, Nat.reduceLT] <;> try simp only [bOf_t, bOf_f, decide_eq_true_eq, decide_eq_false_iff_not, Bool.not_eq_true', Bool.not_eq_false', Bool.not_eq_true, Bool.not_eq_false, Decidable.not_not] at hb))
          all_goals (try simp only [maxLen] at *)
          all_goals first | rfl | omega | with_reducible assumption | skip
          rw [bOf_f, Int.toNat_natCast] at hb
          refine ⟨⟨i + 1, by omega, ?_⟩, by dsimp only; omega, ?_⟩
          · rw [hix, ixP_no (p := F3.sem .bad) (by omega) hb]
          · simp -implicitDefEqProofs only [go_sem, k77, m77, c77_eq, k89, m89, c89_eq, ap_enc, ap_dec, AFn0_dec, AFn0_enc, AF3_d1, AF3_d2, AF3_e1, AF3_e2, Bool.not_true, Bool.not_false, Nat.reduceAdd, Nat.reduceMul, Nat.reduceLeDiff, Nat.reduceEqDiff, reduceCtorEq, Nat.reduceSub, Int.reduceNeg, Nat.reduceMod, Nat.reduceBEq, Nat.reduceLT]
            try simp
        · have hq := hb
          simp -implicitDefEqProofs only [hlt, hq, go_sem, k77, m77, c77_eq, k89, m89, c89_eq, ap_enc, ap_dec, AFn0_dec, AFn0_enc, AF3_d1, AF3_d2, AF3_e1, AF3_e2, Bool.not_true, Bool.not_false, Nat.reduceAdd, Nat.reduceMul, Nat.reduceLeDiff, Nat.reduceEqDiff, reduceCtorEq, Nat.reduceSub, Int.reduceNeg, Nat.reduceMod, Nat.reduceBEq, Nat.reduceLT]
          repeat' (first | with_reducible apply And.intro | with_reducible intro _ | (refine brB_split (fun hb => ?_) (fun hb => ?_) <;> simp -implicitDefEqProofs only [hb, go_sem, k77, m77, c77_eq, k89, m89, c89_eq, ap_enc, ap_dec, AFn0_dec, AFn0_enc, AF3_d1, AF3_d2, AF3_e1, AF3_e2, Bool.not_true, Bool.not_false, Nat.reduceAdd, Nat.reduceMul, Nat.reduceLeDiff, Nat.reduceEqDiff, reduceCtorEq, Nat.reduceSub, Int.reduceNeg, Nat.reduceMod, Nat.reduceBEq, Nat.reduceLT] <;> try simp only [bOf_t, bOf_f, decide_eq_true_eq, decide_eq_false_iff_not, Bool.not_eq_true', Bool.not_eq_false', Bool.not_eq_true, Bool.not_eq_false, Decidable.not_not] at hb) | (refine aPickB_split (fun hb => ?_) (fun hb => ?_) <;> simp -implicitDefEqProofs only [hb, go_sem, k77, m77, c77_eq, k89, m89, c89_eq, ap_enc, ap_dec, AFn0_dec, AFn0_enc, AF3_d1, AF3_d2, AF3_e1, AF3_e2, Bool.not_true, Bool.not_false, Nat.reduceAdd, Nat.reduceMul, Nat.reduceLeDiff, Nat.reduceEqDiff, reduceCtorEq, Nat.reduceSub, Int.reduceNeg, Nat.reduceMod, Nat.reduceBEq, Nat.reduceLT] <;> try simp only [bOf_t, bOf_f, decide_eq_true_eq, decide_eq_false_iff_not, Bool.not_eq_true', Bool.not_eq_false', Bool.not_eq_true, Bool.not_eq_false, Decidable.not_not] at hb) | (refine gB_split (fun hb => ?_) (fun hb => ?_) <;> simp -implicitDefEqProofs only [hb, go_sem, k77, m77, c77_eq, k89, m89, c89_eq, ap_enc, ap_dec, AFn0_dec, AFn0_enc, AF3_d1, AF3_d2, AF3_e1, AF3_e2, Bool.not_true, Bool.not_false, Nat.reduceAdd, Nat.reduceMul, Nat.reduceLeDiff, Nat.reduceEqDiff, reduceCtorEq, Nat.reduceSub, Int.reduceNeg, Nat.reduceMod, Nat.reduceBEq, Nat.reduceLT] <;> try simp only [bOf_t, bOf_f, decide_eq_true_eq, decide_eq_false_iff_not, Bool.not_eq_true', Bool.not_eq_false', Bool.not_eq_true, Bool.not_eq_false, Decidable.not_not] at hb))
          all_goals (try simp only [maxLen] at *)
          all_goals first | rfl | omega | with_reducible assumption | skip
          rw [bOf_t, Int.toNat_natCast] at hb
          rw [hix, ixP_yes (p := F3.sem .bad) (by omega) hb]
      · simp -implicitDefEqProofs only [hlt, go_sem, k77, m77, c77_eq, k89, m89, c89_eq, ap_enc, ap_dec, AFn0_dec, AFn0_enc, AF3_d1, AF3_d2, AF3_e1, AF3_e2, Bool.not_true, Bool.not_false, Nat.reduceAdd, Nat.reduceMul, Nat.reduceLeDiff, Nat.reduceEqDiff, reduceCtorEq, Nat.reduceSub, Int.reduceNeg, Nat.reduceMod, Nat.reduceBEq, Nat.reduceLT]
        repeat' (first | with_reducible apply And.intro | with_reducible intro _ | (refine brB_split (fun hb => ?_) (fun hb => ?_) <;> simp -implicitDefEqProofs only [hb, go_sem, k77, m77, c77_eq, k89, m89, c89_eq, ap_enc, ap_dec, AFn0_dec, AFn0_enc, AF3_d1, AF3_d2, AF3_e1, AF3_e2, Bool.not_true, Bool.not_false, Nat.reduceAdd, Nat.reduceMul, Nat.reduceLeDiff, Nat.reduceEqDiff, reduceCtorEq, Nat.reduceSub, Int.reduceNeg, Nat.reduceMod, Nat.reduceBEq, Nat.reduceLT] <;> try simp only [bOf_t, bOf_f, decide_eq_true_eq, decide_eq_false_iff_not, Bool.not_eq_true', Bool.not_eq_false', Bool.not_eq_true, Bool.not_eq_false, Decidable.not_not] at hb) | (refine aPickB_split (fun hb => ?_) (fun hb => ?_) <;> simp -implicitDefEqProofs only [hb, go_sem, k77, m77, c77_eq, k89, m89, c89_eq, ap_enc, ap_dec, AFn0_dec, AFn0_enc, AF3_d1, AF3_d2, AF3_e1, AF3_e2, Bool.not_true, Bool.not_false, Nat.reduceAdd, Nat.reduceMul, Nat.reduceLeDiff, Nat.reduceEqDiff, reduceCtorEq, Nat.reduceSub, Int.reduceNeg, Nat.reduceMod, Nat.reduceBEq, Nat.reduceLT] <;> try simp only [bOf_t, bOf_f, decide_eq_true_eq, decide_eq_false_iff_not, Bool.not_eq_true', Bool.not_eq_false', Bool.not_eq_true, Bool.not_eq_false, Decidable.not_not] at hb) | (refine gB_split (fun hb => ?_) (fun hb => ?_) <;> simp -implicitDefEqProofs only [hb, go_sem, k77, m77, c77_eq, k89, m89, c89_eq, ap_enc, ap_dec, AFn0_dec, AFn0_enc, AF3_d1, AF3_d2, AF3_e1, AF3_e2, Bool.not_true, Bool.not_false, Nat.reduceAdd, Nat.reduceMul, Nat.reduceLeDiff, Nat.reduceEqDiff, reduceCtorEq, Nat.reduceSub, Int.reduceNeg, Nat.reduceMod, Nat.reduceBEq, Nat.reduceLT] <;> try simp only [bOf_t, bOf_f, decide_eq_true_eq, decide_eq_false_iff_not, Bool.not_eq_true', Bool.not_eq_false', Bool.not_eq_true, Bool.not_eq_false, Decidable.not_not] at hb))
        all_goals first | rfl | omega | skip
        all_goals (rw [hix, ixP_end (by omega)])

  | holds m =>
    simp -implicitDefEqProofs only [Tryz.f88, go_sem, k77, m77, c77_eq, k89, m89, c89_eq, ap_enc, ap_dec, AFn0_dec, AFn0_enc, AF3_d1, AF3_d2, AF3_e1, AF3_e2, Bool.not_true, Bool.not_false, Nat.reduceAdd, Nat.reduceMul, Nat.reduceLeDiff, Nat.reduceEqDiff, reduceCtorEq, Nat.reduceSub, Int.reduceNeg, Nat.reduceMod, Nat.reduceBEq, Nat.reduceLT]
    repeat' (first | with_reducible apply And.intro | with_reducible intro _ | (refine brB_split (fun hb => ?_) (fun hb => ?_) <;> simp -implicitDefEqProofs only [hb, go_sem, k77, m77, c77_eq, k89, m89, c89_eq, ap_enc, ap_dec, AFn0_dec, AFn0_enc, AF3_d1, AF3_d2, AF3_e1, AF3_e2, Bool.not_true, Bool.not_false, Nat.reduceAdd, Nat.reduceMul, Nat.reduceLeDiff, Nat.reduceEqDiff, reduceCtorEq, Nat.reduceSub, Int.reduceNeg, Nat.reduceMod, Nat.reduceBEq, Nat.reduceLT] <;> try simp only [bOf_t, bOf_f, decide_eq_true_eq, decide_eq_false_iff_not, Bool.not_eq_true', Bool.not_eq_false', Bool.not_eq_true, Bool.not_eq_false, Decidable.not_not] at hb) | (refine aPickB_split (fun hb => ?_) (fun hb => ?_) <;> simp -implicitDefEqProofs only [hb, go_sem, k77, m77, c77_eq, k89, m89, c89_eq, ap_enc, ap_dec, AFn0_dec, AFn0_enc, AF3_d1, AF3_d2, AF3_e1, AF3_e2, Bool.not_true, Bool.not_false, Nat.reduceAdd, Nat.reduceMul, Nat.reduceLeDiff, Nat.reduceEqDiff, reduceCtorEq, Nat.reduceSub, Int.reduceNeg, Nat.reduceMod, Nat.reduceBEq, Nat.reduceLT] <;> try simp only [bOf_t, bOf_f, decide_eq_true_eq, decide_eq_false_iff_not, Bool.not_eq_true', Bool.not_eq_false', Bool.not_eq_true, Bool.not_eq_false, Decidable.not_not] at hb) | (refine gB_split (fun hb => ?_) (fun hb => ?_) <;> simp -implicitDefEqProofs only [hb, go_sem, k77, m77, c77_eq, k89, m89, c89_eq, ap_enc, ap_dec, AFn0_dec, AFn0_enc, AF3_d1, AF3_d2, AF3_e1, AF3_e2, Bool.not_true, Bool.not_false, Nat.reduceAdd, Nat.reduceMul, Nat.reduceLeDiff, Nat.reduceEqDiff, reduceCtorEq, Nat.reduceSub, Int.reduceNeg, Nat.reduceMod, Nat.reduceBEq, Nat.reduceLT] <;> try simp only [bOf_t, bOf_f, decide_eq_true_eq, decide_eq_false_iff_not, Bool.not_eq_true', Bool.not_eq_false', Bool.not_eq_true, Bool.not_eq_false, Decidable.not_not] at hb))
    all_goals first | rfl | omega | skip
    refine run_loop [] (ι := {i : Nat // i ≤ xs.length ∧ ixP (F3.sem (.holds m)) 0 xs = ixP (F3.sem (.holds m)) i (xs.drop i)}) (fun p => ⟨[(0, .t (.sl (xs.map encRu))), (1, AF3.enc (.holds m)), (7, .t (.v (.int .i64 xs.length))), (8, .t (.v (.int .i64 p.1)))], []⟩) (fun p => xs.length - p.1) ⟨0, Nat.zero_le _, rfl⟩ rfl ?_ ?_
    · simp -implicitDefEqProofs only [go_sem, k77, m77, c77_eq, k89, m89, c89_eq, ap_enc, ap_dec, AFn0_dec, AFn0_enc, AF3_d1, AF3_d2, AF3_e1, AF3_e2, Bool.not_true, Bool.not_false, Nat.reduceAdd, Nat.reduceMul, Nat.reduceLeDiff, Nat.reduceEqDiff, reduceCtorEq, Nat.reduceSub, Int.reduceNeg, Nat.reduceMod, Nat.reduceBEq, Nat.reduceLT]
      try simp
    · rintro ⟨i, hi, hix⟩
      by_cases hlt : (i : Int) < xs.length
      · have hm : xs.getD (i : Int).toNat default ∈ xs := getD_mem (by omega)
        obtain ⟨hs1, hs2, hs3⟩ : _ ∧ _ ∧ _ := hpre _ hm
        cases hb : bOf (Asks (xs.getD (i : Int).toNat default) m.frm m.body)
        · have hq := hb
          simp -implicitDefEqProofs only [hlt, hq, go_sem, k77, m77, c77_eq, k89, m89, c89_eq, ap_enc, ap_dec, AFn0_dec, AFn0_enc, AF3_d1, AF3_d2, AF3_e1, AF3_e2, Bool.not_true, Bool.not_false, Nat.reduceAdd, Nat.reduceMul, Nat.reduceLeDiff, Nat.reduceEqDiff, reduceCtorEq, Nat.reduceSub, Int.reduceNeg, Nat.reduceMod, Nat.reduceBEq, Nat.reduceLT]
          repeat' (first | with_reducible apply And.intro | with_reducible intro _ | (refine brB_split (fun hb => ?_) (fun hb => ?_) <;> simp -implicitDefEqProofs only [hb, go_sem, k77, m77, c77_eq, k89, m89, c89_eq, ap_enc, ap_dec, AFn0_dec, AFn0_enc, AF3_d1, AF3_d2, AF3_e1, AF3_e2, Bool.not_true, Bool.not_false, Nat.reduceAdd, Nat.reduceMul, Nat.reduceLeDiff, Nat.reduceEqDiff, reduceCtorEq, Nat.reduceSub, Int.reduceNeg, Nat.reduceMod, Nat.reduceBEq, Nat.reduceLT] <;> try simp only [bOf_t, bOf_f, decide_eq_true_eq, decide_eq_false_iff_not, Bool.not_eq_true', Bool.not_eq_false', Bool.not_eq_true, Bool.not_eq_false, Decidable.not_not] at hb) | (refine aPickB_split (fun hb => ?_) (fun hb => ?_) <;> simp -implicitDefEqProofs only [hb, go_sem, k77, m77, c77_eq, k89, m89, c89_eq, ap_enc, ap_dec, AFn0_dec, AFn0_enc, AF3_d1, AF3_d2, AF3_e1, AF3_e2, Bool.not_true, Bool.not_false, Nat.reduceAdd, Nat.reduceMul, Nat.reduceLeDiff, Nat.reduceEqDiff, reduceCtorEq, Nat.reduceSub, Int.reduceNeg, Nat.reduceMod, Nat.reduceBEq, Nat.reduceLT] <;> try simp only [bOf_t, bOf_f, decide_eq_true_eq, decide_eq_false_iff_not, Bool.not_eq_true', Bool.not_eq_false', Bool.not_eq_true, Bool.not_eq_false, Decidable.not_not] at hb) | (refine gB_split (fun hb => ?_) (fun hb => ?_) <;> simp -implicitDefEqProofs only [hb, go_sem, k77, m77, c77_eq, k89, m89, c89_eq, ap_enc, ap_dec, AFn0_dec, AFn0_enc, AF3_d1, AF3_d2, AF3_e1, AF3_e2, Bool.not_true, Bool.not_false, Nat.reduceAdd, Nat.reduceMul, Nat.reduceLeDiff, Nat.reduceEqDiff, reduceCtorEq, Nat.reduceSub, Int.reduceNeg, Nat.reduceMod, Nat.reduceBEq, Nat.reduceLT] <;> try simp only [bOf_t, bOf_f, decide_eq_true_eq, decide_eq_false_iff_not, Bool.not_eq_true', Bool.not_eq_false', Bool.not_eq_true, Bool.not_eq_false, Decidable.not_not] at hb))
          all_goals (try simp only [maxLen] at *)
          all_goals first | rfl | omega | with_reducible assumption | skip
          rw [bOf_f, Int.toNat_natCast] at hb
          refine ⟨⟨i + 1, by omega, ?_⟩, by dsimp only; omega, ?_⟩
          · rw [hix, ixP_no (p := F3.sem (.holds m)) (by omega) hb]
          · simp -implicitDefEqProofs only [go_sem, k77, m77, c77_eq, k89, m89, c89_eq, ap_enc, ap_dec, AFn0_dec, AFn0_enc, AF3_d1, AF3_d2, AF3_e1, AF3_e2, Bool.not_true, Bool.not_false, Nat.reduceAdd, Nat.reduceMul, Nat.reduceLeDiff, Nat.reduceEqDiff, reduceCtorEq, Nat.reduceSub, Int.reduceNeg, Nat.reduceMod, Nat.reduceBEq, Nat.reduceLT]
            try simp
        · have hq := hb
          simp -implicitDefEqProofs only [hlt, hq, go_sem, k77, m77, c77_eq, k89, m89, c89_eq, ap_enc, ap_dec, AFn0_dec, AFn0_enc, AF3_d1, AF3_d2, AF3_e1, AF3_e2, Bool.not_true, Bool.not_false, Nat.reduceAdd, Nat.reduceMul, Nat.reduceLeDiff, Nat.reduceEqDiff, reduceCtorEq, Nat.reduceSub, Int.reduceNeg, Nat.reduceMod, Nat.reduceBEq, Nat.reduceLT]
          repeat' (first | with_reducible apply And.intro | with_reducible intro _ | (refine brB_split (fun hb => ?_) (fun hb => ?_) <;> simp -implicitDefEqProofs only [hb, go_sem, k77, m77, c77_eq, k89, m89, c89_eq, ap_enc, ap_dec, AFn0_dec, AFn0_enc, AF3_d1, AF3_d2, AF3_e1, AF3_e2, Bool.not_true, Bool.not_false, Nat.reduceAdd, Nat.reduceMul, Nat.reduceLeDiff, Nat.reduceEqDiff, reduceCtorEq, Nat.reduceSub, Int.reduceNeg, Nat.reduceMod, Nat.reduceBEq, Nat.reduceLT] <;> try simp only [bOf_t, bOf_f, decide_eq_true_eq, decide_eq_false_iff_not, Bool.not_eq_true', Bool.not_eq_false', Bool.not_eq_true, Bool.not_eq_false, Decidable.not_not] at hb) | (refine aPickB_split (fun hb => ?_) (fun hb => ?_) <;> simp -implicitDefEqProofs only [hb, go_sem, k77, m77, c77_eq, k89, m89, c89_eq, ap_enc, ap_dec, AFn0_dec, AFn0_enc, AF3_d1, AF3_d2, AF3_e1, AF3_e2, Bool.not_true, Bool.not_false, Nat.reduceAdd, Nat.reduceMul, Nat.reduceLeDiff, Nat.reduceEqDiff, reduceCtorEq, Nat.reduceSub, Int.reduceNeg, Nat.reduceMod, Nat.reduceBEq, Nat.reduceLT] <;> try simp only [bOf_t, bOf_f, decide_eq_true_eq, decide_eq_false_iff_not, Bool.not_eq_true', Bool.not_eq_false', Bool.not_eq_true, Bool.not_eq_false, Decidable.not_not] at hb) | (refine gB_split (fun hb => ?_) (fun hb => ?_) <;> simp -implicitDefEqProofs only [hb, go_sem, k77, m77, c77_eq, k89, m89, c89_eq, ap_enc, ap_dec, AFn0_dec, AFn0_enc, AF3_d1, AF3_d2, AF3_e1, AF3_e2, Bool.not_true, Bool.not_false, Nat.reduceAdd, Nat.reduceMul, Nat.reduceLeDiff, Nat.reduceEqDiff, reduceCtorEq, Nat.reduceSub, Int.reduceNeg, Nat.reduceMod, Nat.reduceBEq, Nat.reduceLT] <;> try simp only [bOf_t, bOf_f, decide_eq_true_eq, decide_eq_false_iff_not, Bool.not_eq_true', Bool.not_eq_false', Bool.not_eq_true, Bool.not_eq_false, Decidable.not_not] at hb))
          all_goals (try simp only [maxLen] at *)
          all_goals first | rfl | omega | with_reducible assumption | skip
          rw [bOf_t, Int.toNat_natCast] at hb
          rw [hix, ixP_yes (p := F3.sem (.holds m)) (by omega) hb]
      · simp -implicitDefEqProofs only [hlt, go_sem, k77, m77, c77_eq, k89, m89, c89_eq, ap_enc, ap_dec, AFn0_dec, AFn0_enc, AF3_d1, AF3_d2, AF3_e1, AF3_e2, Bool.not_true, Bool.not_false, Nat.reduceAdd, Nat.reduceMul, Nat.reduceLeDiff, Nat.reduceEqDiff, reduceCtorEq, Nat.reduceSub, Int.reduceNeg, Nat.reduceMod, Nat.reduceBEq, Nat.reduceLT]
        repeat' (first | with_reducible apply And.intro | with_reducible intro _ | (refine brB_split (fun hb => ?_) (fun hb => ?_) <;> simp -implicitDefEqProofs only [hb, go_sem, k77, m77, c77_eq, k89, m89, c89_eq, ap_enc, ap_dec, AFn0_dec, AFn0_enc, AF3_d1, AF3_d2, AF3_e1, AF3_e2, Bool.not_true, Bool.not_false, Nat.reduceAdd, Nat.reduceMul, Nat.reduceLeDiff, Nat.reduceEqDiff, reduceCtorEq, Nat.reduceSub, Int.reduceNeg, Nat.reduceMod, Nat.reduceBEq, Nat.reduceLT] <;> try simp only [bOf_t, bOf_f, decide_eq_true_eq, decide_eq_false_iff_not, Bool.not_eq_true', Bool.not_eq_false', Bool.not_eq_true, Bool.not_eq_false, Decidable.not_not] at hb) | (refine aPickB_split (fun hb => ?_) (fun hb => ?_) <;> simp -implicitDefEqProofs only [hb, go_sem, k77, m77, c77_eq, k89, m89, c89_eq, ap_enc, ap_dec, AFn0_dec, AFn0_enc, AF3_d1, AF3_d2, AF3_e1, AF3_e2, Bool.not_true, Bool.not_false, Nat.reduceAdd, Nat.reduceMul, Nat.reduceLeDiff, Nat.reduceEqDiff, reduceCtorEq, Nat.reduceSub, Int.reduceNeg, Nat.reduceMod, Nat.reduceBEq, Nat.reduceLT] <;> try simp only [bOf_t, bOf_f, decide_eq_true_eq, decide_eq_false_iff_not, Bool.not_eq_true', Bool.not_eq_false', Bool.not_eq_true, Bool.not_eq_false, Decidable.not_not] at hb) | (refine gB_split (fun hb => ?_) (fun hb => ?_) <;> simp -implicitDefEqProofs only [hb, go_sem, k77, m77, c77_eq, k89, m89, c89_eq, ap_enc, ap_dec, AFn0_dec, AFn0_enc, AF3_d1, AF3_d2, AF3_e1, AF3_e2, Bool.not_true, Bool.not_false, Nat.reduceAdd, Nat.reduceMul, Nat.reduceLeDiff, Nat.reduceEqDiff, reduceCtorEq, Nat.reduceSub, Int.reduceNeg, Nat.reduceMod, Nat.reduceBEq, Nat.reduceLT] <;> try simp only [bOf_t, bOf_f, decide_eq_true_eq, decide_eq_false_iff_not, Bool.not_eq_true', Bool.not_eq_false', Bool.not_eq_true, Bool.not_eq_false, Decidable.not_not] at hb))
        all_goals first | rfl | omega | skip
        all_goals (rw [hix, ixP_end (by omega)])

def c76 : Ct := ctR (lc ERu.asl (lc (AFn0 77) l0)) (fun p => ∀ r ∈ p.1, r.text.size ≤ 2000000 ∧ r.to.domain.size ≤ 2000000) (fun p => .t (.v (.bool (bOf (∃ r ∈ p.1, ¬ RuOk r)))))
theorem c76_eq {args : List AV} {K : AV → Prop} : c76 args K = K0 (fun p => ∀ r ∈ p.1, r.text.size ≤ 2000000 ∧ r.to.domain.size ≤ 2000000) (fun p => .t (.v (.bool (bOf (∃ r ∈ p.1, ¬ RuOk r))))) K ((lc ERu.asl (lc (AFn0 77) l0)).dec args) := rfl
theorem good76 {G : Gt} (hG : GOk Tryz.prog G ∧ GDet G) (h88 : G.e 88 = roEnt 0 c88) : Good Tryz.prog G.m 76 (roEnt 0 c76) := by
  refine good_run (dp := fun _ => true) (fn := Tryz.f76) (n := 2) (fun _ => rfl) (by kernel_rfl) rfl (by kernel_rfl) hmix hG (Nat.le_of_ble_eq_true rfl) (by kernel_rfl) (by decide) (fun _ _ => .v _) ?_
  have k88 : (G.e 88).kd = 0 := by rw [h88]; rfl
  have m88 : (G.e 88).ro = c88 := by rw [h88]; rfl
  rintro ⟨xs, f, ⟨⟩⟩ hpre
  simp -implicitDefEqProofs only [Tryz.f76, go_sem, k88, m88, c88_eq, ap_enc, ap_dec, AFn0_dec, AFn0_enc, AF3_d1, AF3_d2, AF3_e1, AF3_e2, Bool.not_true, Bool.not_false, Nat.reduceAdd, Nat.reduceMul, Nat.reduceLeDiff, Nat.reduceEqDiff, reduceCtorEq, Nat.reduceSub, Int.reduceNeg, Nat.reduceMod, Nat.reduceBEq, Nat.reduceLT] at hpre ⊢

  repeat' (first | with_reducible apply And.intro | with_reducible intro _ | (refine brB_split (fun hb => ?_) (fun hb => ?_) <;> simp -implicitDefEqProofs only [hb, go_sem, k88, m88, c88_eq, ap_enc, ap_dec, AFn0_dec, AFn0_enc, AF3_d1, AF3_d2, AF3_e1, AF3_e2, Bool.not_true, Bool.not_false, Nat.reduceAdd, Nat.reduceMul, Nat.reduceLeDiff, Nat.reduceEqDiff, reduceCtorEq, Nat.reduceSub, Int.reduceNeg, Nat.reduceMod, Nat.reduceBEq, Nat.reduceLT] <;> try simp only [bOf_t, bOf_f, decide_eq_true_eq, decide_eq_false_iff_not, Bool.not_eq_true', Bool.not_eq_false', Bool.not_eq_true, Bool.not_eq_false, Decidable.not_not] at hb) | (refine aPickB_split (fun hb => ?_) (fun hb => ?_) <;> simp -implicitDefEqProofs only [hb, go_sem, k88, m88, c88_eq, ap_enc, ap_dec, AFn0_dec, AFn0_enc, AF3_d1, AF3_d2, AF3_e1, AF3_e2, Bool.not_true, Bool.not_false, Nat.reduceAdd, Nat.reduceMul, Nat.reduceLeDiff, Nat.reduceEqDiff, reduceCtorEq, Nat.reduceSub, Int.reduceNeg, Nat.reduceMod, Nat.reduceBEq, Nat.reduceLT] <;> try simp only [bOf_t, bOf_f, decide_eq_true_eq, decide_eq_false_iff_not, Bool.not_eq_true', Bool.not_eq_false', Bool.not_eq_true, Bool.not_eq_false, Decidable.not_not] at hb) | (refine gB_split (fun hb => ?_) (fun hb => ?_) <;> simp -implicitDefEqProofs only [hb, go_sem, k88, m88, c88_eq, ap_enc, ap_dec, AFn0_dec, AFn0_enc, AF3_d1, AF3_d2, AF3_e1, AF3_e2, Bool.not_true, Bool.not_false, Nat.reduceAdd, Nat.reduceMul, Nat.reduceLeDiff, Nat.reduceEqDiff, reduceCtorEq, Nat.reduceSub, Int.reduceNeg, Nat.reduceMod, Nat.reduceBEq, Nat.reduceLT] <;> try simp only [bOf_t, bOf_f, decide_eq_true_eq, decide_eq_false_iff_not, Bool.not_eq_true', Bool.not_eq_false', Bool.not_eq_true, Bool.not_eq_false, Decidable.not_not] at hb))
  all_goals first | rfl | omega | exact hpre | exact hpre _ (by assumption) | skip
  all_goals (show T.v (.bool (decide (ixP (fun r => ¬ RuOk r) 0 xs ≥ 0))) = _)
  all_goals (rw [← bOf_congr (ixP_iff _ 0)]; rw [bOf_d])

def c38 : Ct := ctR (lc ERu.asl l0) (fun p => ∀ r ∈ p.1, r.text.size ≤ 2000000 ∧ r.to.domain.size ≤ 2000000) (fun p => .t (.v (.bool (bOf (RsOk p.1)))))
theorem c38_eq {args : List AV} {K : AV → Prop} : c38 args K = K0 (fun p => ∀ r ∈ p.1, r.text.size ≤ 2000000 ∧ r.to.domain.size ≤ 2000000) (fun p => .t (.v (.bool (bOf (RsOk p.1))))) K ((lc ERu.asl l0).dec args) := rfl
theorem good38 {G : Gt} (hG : GOk Tryz.prog G ∧ GDet G) (h76 : G.e 76 = roEnt 0 c76) : Good Tryz.prog G.m 38 (roEnt 0 c38) := by
  refine good_run (dp := fun _ => true) (fn := Tryz.f38) (n := 1) (fun _ => rfl) (by kernel_rfl) rfl (by kernel_rfl) hmix hG (Nat.le_of_ble_eq_true rfl) (by kernel_rfl) (by decide) (fun _ _ => .v _) ?_
  have k76 : (G.e 76).kd = 0 := by rw [h76]; rfl
  have m76 : (G.e 76).ro = c76 := by rw [h76]; rfl
  rintro ⟨xs, ⟨⟩⟩ hpre
  simp -implicitDefEqProofs only [Tryz.f38, go_sem, k76, m76, c76_eq, ap_enc, ap_dec, AFn0_dec, AFn0_enc, AF3_d1, AF3_d2, AF3_e1, AF3_e2, Bool.not_true, Bool.not_false, Nat.reduceAdd, Nat.reduceMul, Nat.reduceLeDiff, Nat.reduceEqDiff, reduceCtorEq, Nat.reduceSub, Int.reduceNeg, Nat.reduceMod, Nat.reduceBEq, Nat.reduceLT] at hpre ⊢

  repeat' (first | with_reducible apply And.intro | with_reducible intro _ | (refine brB_split (fun hb => ?_) (fun hb => ?_) <;> simp -implicitDefEqProofs only [hb, go_sem, k76, m76, c76_eq, ap_enc, ap_dec, AFn0_dec, AFn0_enc, AF3_d1, AF3_d2, AF3_e1, AF3_e2, Bool.not_true, Bool.not_false, Nat.reduceAdd, Nat.reduceMul, Nat.reduceLeDiff, Nat.reduceEqDiff, reduceCtorEq, Nat.reduceSub, Int.reduceNeg, Nat.reduceMod, Nat.reduceBEq, Nat.reduceLT] <;> try simp only [bOf_t, bOf_f, decide_eq_true_eq, decide_eq_false_iff_not, Bool.not_eq_true', Bool.not_eq_false', Bool.not_eq_true, Bool.not_eq_false, Decidable.not_not] at hb) | (refine aPickB_split (fun hb => ?_) (fun hb => ?_) <;> simp -implicitDefEqProofs only [hb, go_sem, k76, m76, c76_eq, ap_enc, ap_dec, AFn0_dec, AFn0_enc, AF3_d1, AF3_d2, AF3_e1, AF3_e2, Bool.not_true, Bool.not_false, Nat.reduceAdd, Nat.reduceMul, Nat.reduceLeDiff, Nat.reduceEqDiff, reduceCtorEq, Nat.reduceSub, Int.reduceNeg, Nat.reduceMod, Nat.reduceBEq, Nat.reduceLT] <;> try simp only [bOf_t, bOf_f, decide_eq_true_eq, decide_eq_false_iff_not, Bool.not_eq_true', Bool.not_eq_false', Bool.not_eq_true, Bool.not_eq_false, Decidable.not_not] at hb) | (refine gB_split (fun hb => ?_) (fun hb => ?_) <;> simp -implicitDefEqProofs only [hb, go_sem, k76, m76, c76_eq, ap_enc, ap_dec, AFn0_dec, AFn0_enc, AF3_d1, AF3_d2, AF3_e1, AF3_e2, Bool.not_true, Bool.not_false, Nat.reduceAdd, Nat.reduceMul, Nat.reduceLeDiff, Nat.reduceEqDiff, reduceCtorEq, Nat.reduceSub, Int.reduceNeg, Nat.reduceMod, Nat.reduceBEq, Nat.reduceLT] <;> try simp only [bOf_t, bOf_f, decide_eq_true_eq, decide_eq_false_iff_not, Bool.not_eq_true', Bool.not_eq_false', Bool.not_eq_true, Bool.not_eq_false, Decidable.not_not] at hb))
  all_goals first | rfl | omega | exact hpre | exact (hpre _ (by assumption)).1 | exact (hpre _ (by assumption)).2 | skip
  · rw [bOf_not]
    refine congrArg (fun b => T.v (.bool b)) (bOf_congr ?_)
    constructor
    · intro h
      exact ⟨fun s hs => Classical.byContradiction fun q => h ⟨s, hs, q⟩, by omega⟩
    · rintro h ⟨s, hs, q⟩
      exact q (h.1 s hs)
  · rw [bOf_n (fun h => by have := h.2; omega)]


/-- No text is too long to be walked. -/
def Szs (rs : List Ru) (m : Ml) : Prop := (∀ r ∈ rs, r.text.size ≤ 2000000 ∧ r.to.domain.size ≤ 2000000) ∧ (∀ a ∈ m.to, a.domain.size ≤ 2000000) ∧ m.frm.domain.size ≤ 2000000 ∧ ∀ s ∈ m.body, s.size ≤ 2000000
theorem aNil_n {s : AS} {K : Kt} : aNilE [] false s K = (K (.t (.v (.bool true))) s ∧ K (.t (.v (.bool false))) s) := propext ⟨fun h => ⟨h.1 rfl, h.2⟩, fun h => ⟨fun _ => h.1, h.2⟩⟩
theorem aNil_c {e : List T} {es : List (List T)} {s : AS} {K : Kt} : aNilE (e :: es) false s K = K (.t (.v (.bool false))) s := propext ⟨fun h => h.2, fun h => ⟨fun e => (by cases e), h⟩⟩
open Classical in
noncomputable def SFor (rs : List Ru) (m : Ml) : Int := if RsOk rs ∧ MlOk m then rIx m.frm m.body 0 rs else -1
def c41 : Ct := ctR (lc ERu.asl (lc EMl.ag l0)) (fun p => Szs p.1 p.2.1) (fun p => .t (.v (.int .i64 (SFor p.1 p.2.1))))
theorem c41_eq {args : List AV} {K : AV → Prop} : c41 args K = K0 (fun p => Szs p.1 p.2.1) (fun p => .t (.v (.int .i64 (SFor p.1 p.2.1)))) K ((lc ERu.asl (lc EMl.ag l0)).dec args) := rfl
set_option maxHeartbeats 800000 in
theorem good41 {G : Gt} (hG : GOk Tryz.prog G ∧ GDet G) (h38 : G.e 38 = roEnt 0 c38) (h39 : G.e 39 = roEnt 0 c39) (h88 : G.e 88 = roEnt 0 c88) : Good Tryz.prog G.m 41 (roEnt 0 c41) := by
  refine good_run (dp := fun _ => true) (fn := Tryz.f41) (n := 2) (fun _ => rfl) (by kernel_rfl) rfl (by kernel_rfl) hmix hG (Nat.le_of_ble_eq_true rfl) (by kernel_rfl) (by decide) (fun _ _ => .v _) ?_
  have k38 : (G.e 38).kd = 0 := by rw [h38]; rfl
  have m38 : (G.e 38).ro = c38 := by rw [h38]; rfl
  have k39 : (G.e 39).kd = 0 := by rw [h39]; rfl
  have m39 : (G.e 39).ro = c39 := by rw [h39]; rfl
  have k88 : (G.e 88).kd = 0 := by rw [h88]; rfl
  have m88 : (G.e 88).ro = c88 := by rw [h88]; rfl
  rintro ⟨rs, m, ⟨⟩⟩ hpre


  obtain ⟨z1, z2, z3, z4⟩ : Szs rs m := hpre
  dsimp only
  by_cases hr : RsOk rs
  · have b1 := bOf_y hr
    by_cases hm : MlOk m
    · have b2 := bOf_y hm
      simp -implicitDefEqProofs only [Tryz.f41, b1, b2, go_sem, k38, m38, c38_eq, k39, m39, c39_eq, k88, m88, c88_eq, ap_enc, ap_dec, AFn0_dec, AFn0_enc, AF3_d1, AF3_d2, AF3_e1, AF3_e2, Bool.not_true, Bool.not_false, bOf_t, bOf_f, Nat.reduceAdd, Nat.reduceMul, Nat.reduceLeDiff, Nat.reduceEqDiff, reduceCtorEq, Nat.reduceSub, Int.reduceNeg, Nat.reduceMod, Nat.reduceBEq, Nat.reduceLT]
      repeat' (first | with_reducible apply And.intro | with_reducible intro _ | (refine brB_split (fun hb => ?_) (fun hb => ?_) <;> simp -implicitDefEqProofs only [hb, go_sem, k38, m38, c38_eq, k39, m39, c39_eq, k88, m88, c88_eq, ap_enc, ap_dec, AFn0_dec, AFn0_enc, AF3_d1, AF3_d2, AF3_e1, AF3_e2, Bool.not_true, Bool.not_false, bOf_t, bOf_f, Nat.reduceAdd, Nat.reduceMul, Nat.reduceLeDiff, Nat.reduceEqDiff, reduceCtorEq, Nat.reduceSub, Int.reduceNeg, Nat.reduceMod, Nat.reduceBEq, Nat.reduceLT] <;> try simp only [bOf_t, bOf_f, decide_eq_true_eq, decide_eq_false_iff_not, Bool.not_eq_true', Bool.not_eq_false', Bool.not_eq_true, Bool.not_eq_false, Decidable.not_not] at hb) | (refine aPickB_split (fun hb => ?_) (fun hb => ?_) <;> simp -implicitDefEqProofs only [hb, go_sem, k38, m38, c38_eq, k39, m39, c39_eq, k88, m88, c88_eq, ap_enc, ap_dec, AFn0_dec, AFn0_enc, AF3_d1, AF3_d2, AF3_e1, AF3_e2, Bool.not_true, Bool.not_false, bOf_t, bOf_f, Nat.reduceAdd, Nat.reduceMul, Nat.reduceLeDiff, Nat.reduceEqDiff, reduceCtorEq, Nat.reduceSub, Int.reduceNeg, Nat.reduceMod, Nat.reduceBEq, Nat.reduceLT] <;> try simp only [bOf_t, bOf_f, decide_eq_true_eq, decide_eq_false_iff_not, Bool.not_eq_true', Bool.not_eq_false', Bool.not_eq_true, Bool.not_eq_false, Decidable.not_not] at hb) | (refine gB_split (fun hb => ?_) (fun hb => ?_) <;> simp -implicitDefEqProofs only [hb, go_sem, k38, m38, c38_eq, k39, m39, c39_eq, k88, m88, c88_eq, ap_enc, ap_dec, AFn0_dec, AFn0_enc, AF3_d1, AF3_d2, AF3_e1, AF3_e2, Bool.not_true, Bool.not_false, bOf_t, bOf_f, Nat.reduceAdd, Nat.reduceMul, Nat.reduceLeDiff, Nat.reduceEqDiff, reduceCtorEq, Nat.reduceSub, Int.reduceNeg, Nat.reduceMod, Nat.reduceBEq, Nat.reduceLT] <;> try simp only [bOf_t, bOf_f, decide_eq_true_eq, decide_eq_false_iff_not, Bool.not_eq_true', Bool.not_eq_false', Bool.not_eq_true, Bool.not_eq_false, Decidable.not_not] at hb))
      all_goals first | rfl | omega | exact z1 | exact z2 | exact z3 | exact z4 | exact (z1 _ (by assumption)).1 | exact (z1 _ (by assumption)).2 | exact z2 _ (by assumption) | exact z4 _ (by assumption) | exact ⟨hr.1 _ (by assumption), hm, z3⟩ | skip
      show T.v (.int .i64 (ixP (fun r => Asks r m.frm m.body) 0 rs)) = _
      rw [ixP_rIx]
      unfold SFor
      rw [if_pos ⟨hr, hm⟩]
    · have b2 := bOf_n hm
      unfold SFor
      rw [if_neg (fun h => hm h.2)]
      simp -implicitDefEqProofs only [Tryz.f41, b1, b2, go_sem, k38, m38, c38_eq, k39, m39, c39_eq, k88, m88, c88_eq, ap_enc, ap_dec, AFn0_dec, AFn0_enc, AF3_d1, AF3_d2, AF3_e1, AF3_e2, Bool.not_true, Bool.not_false, bOf_t, bOf_f, Nat.reduceAdd, Nat.reduceMul, Nat.reduceLeDiff, Nat.reduceEqDiff, reduceCtorEq, Nat.reduceSub, Int.reduceNeg, Nat.reduceMod, Nat.reduceBEq, Nat.reduceLT]
      repeat' (first | with_reducible apply And.intro | with_reducible intro _ | (refine brB_split (fun hb => ?_) (fun hb => ?_) <;> simp -implicitDefEqProofs only [hb, go_sem, k38, m38, c38_eq, k39, m39, c39_eq, k88, m88, c88_eq, ap_enc, ap_dec, AFn0_dec, AFn0_enc, AF3_d1, AF3_d2, AF3_e1, AF3_e2, Bool.not_true, Bool.not_false, bOf_t, bOf_f, Nat.reduceAdd, Nat.reduceMul, Nat.reduceLeDiff, Nat.reduceEqDiff, reduceCtorEq, Nat.reduceSub, Int.reduceNeg, Nat.reduceMod, Nat.reduceBEq, Nat.reduceLT] <;> try simp only [bOf_t, bOf_f, decide_eq_true_eq, decide_eq_false_iff_not, Bool.not_eq_true', Bool.not_eq_false', Bool.not_eq_true, Bool.not_eq_false, Decidable.not_not] at hb) | (refine aPickB_split (fun hb => ?_) (fun hb => ?_) <;> simp -implicitDefEqProofs only [hb, go_sem, k38, m38, c38_eq, k39, m39, c39_eq, k88, m88, c88_eq, ap_enc, ap_dec, AFn0_dec, AFn0_enc, AF3_d1, AF3_d2, AF3_e1, AF3_e2, Bool.not_true, Bool.not_false, bOf_t, bOf_f, Nat.reduceAdd, Nat.reduceMul, Nat.reduceLeDiff, Nat.reduceEqDiff, reduceCtorEq, Nat.reduceSub, Int.reduceNeg, Nat.reduceMod, Nat.reduceBEq, Nat.reduceLT] <;> try simp only [bOf_t, bOf_f, decide_eq_true_eq, decide_eq_false_iff_not, Bool.not_eq_true', Bool.not_eq_false', Bool.not_eq_true, Bool.not_eq_false, Decidable.not_not] at hb) | (refine gB_split (fun hb => ?_) (fun hb => ?_) <;> simp -implicitDefEqProofs only [hb, go_sem, k38, m38, c38_eq, k39, m39, c39_eq, k88, m88, c88_eq, ap_enc, ap_dec, AFn0_dec, AFn0_enc, AF3_d1, AF3_d2, AF3_e1, AF3_e2, Bool.not_true, Bool.not_false, bOf_t, bOf_f, Nat.reduceAdd, Nat.reduceMul, Nat.reduceLeDiff, Nat.reduceEqDiff, reduceCtorEq, Nat.reduceSub, Int.reduceNeg, Nat.reduceMod, Nat.reduceBEq, Nat.reduceLT] <;> try simp only [bOf_t, bOf_f, decide_eq_true_eq, decide_eq_false_iff_not, Bool.not_eq_true', Bool.not_eq_false', Bool.not_eq_true, Bool.not_eq_false, Decidable.not_not] at hb))
      all_goals first | rfl | omega | exact z1 | exact z2 | exact z3 | exact z4 | exact (z1 _ (by assumption)).1 | exact (z1 _ (by assumption)).2 | exact z2 _ (by assumption) | exact z4 _ (by assumption) | skip
  · have b1 := bOf_n hr
    unfold SFor
    rw [if_neg (fun h => hr h.1)]
    simp -implicitDefEqProofs only [Tryz.f41, b1, go_sem, k38, m38, c38_eq, k39, m39, c39_eq, k88, m88, c88_eq, ap_enc, ap_dec, AFn0_dec, AFn0_enc, AF3_d1, AF3_d2, AF3_e1, AF3_e2, Bool.not_true, Bool.not_false, bOf_t, bOf_f, Nat.reduceAdd, Nat.reduceMul, Nat.reduceLeDiff, Nat.reduceEqDiff, reduceCtorEq, Nat.reduceSub, Int.reduceNeg, Nat.reduceMod, Nat.reduceBEq, Nat.reduceLT]
    repeat' (first | with_reducible apply And.intro | with_reducible intro _ | (refine brB_split (fun hb => ?_) (fun hb => ?_) <;> simp -implicitDefEqProofs only [hb, go_sem, k38, m38, c38_eq, k39, m39, c39_eq, k88, m88, c88_eq, ap_enc, ap_dec, AFn0_dec, AFn0_enc, AF3_d1, AF3_d2, AF3_e1, AF3_e2, Bool.not_true, Bool.not_false, bOf_t, bOf_f, Nat.reduceAdd, Nat.reduceMul, Nat.reduceLeDiff, Nat.reduceEqDiff, reduceCtorEq, Nat.reduceSub, Int.reduceNeg, Nat.reduceMod, Nat.reduceBEq, Nat.reduceLT] <;> try simp only [bOf_t, bOf_f, decide_eq_true_eq, decide_eq_false_iff_not, Bool.not_eq_true', Bool.not_eq_false', Bool.not_eq_true, Bool.not_eq_false, Decidable.not_not] at hb) | (refine aPickB_split (fun hb => ?_) (fun hb => ?_) <;> simp -implicitDefEqProofs only [hb, go_sem, k38, m38, c38_eq, k39, m39, c39_eq, k88, m88, c88_eq, ap_enc, ap_dec, AFn0_dec, AFn0_enc, AF3_d1, AF3_d2, AF3_e1, AF3_e2, Bool.not_true, Bool.not_false, bOf_t, bOf_f, Nat.reduceAdd, Nat.reduceMul, Nat.reduceLeDiff, Nat.reduceEqDiff, reduceCtorEq, Nat.reduceSub, Int.reduceNeg, Nat.reduceMod, Nat.reduceBEq, Nat.reduceLT] <;> try simp only [bOf_t, bOf_f, decide_eq_true_eq, decide_eq_false_iff_not, Bool.not_eq_true', Bool.not_eq_false', Bool.not_eq_true, Bool.not_eq_false, Decidable.not_not] at hb) | (refine gB_split (fun hb => ?_) (fun hb => ?_) <;> simp -implicitDefEqProofs only [hb, go_sem, k38, m38, c38_eq, k39, m39, c39_eq, k88, m88, c88_eq, ap_enc, ap_dec, AFn0_dec, AFn0_enc, AF3_d1, AF3_d2, AF3_e1, AF3_e2, Bool.not_true, Bool.not_false, bOf_t, bOf_f, Nat.reduceAdd, Nat.reduceMul, Nat.reduceLeDiff, Nat.reduceEqDiff, reduceCtorEq, Nat.reduceSub, Int.reduceNeg, Nat.reduceMod, Nat.reduceBEq, Nat.reduceLT] <;> try simp only [bOf_t, bOf_f, decide_eq_true_eq, decide_eq_false_iff_not, Bool.not_eq_true', Bool.not_eq_false', Bool.not_eq_true, Bool.not_eq_false, Decidable.not_not] at hb))
    all_goals first | rfl | omega | exact z1 | exact z2 | exact z3 | exact z4 | exact (z1 _ (by assumption)).1 | exact (z1 _ (by assumption)).2 | exact z2 _ (by assumption) | exact z4 _ (by assumption) | skip

def c86 : Ct := ctR (lc EAd.asl l0) (fun p => (p.1.length : Int) ≤ 1048576) (fun p => .o true 2 (p.1.map encAd))
theorem c86_eq {args : List AV} {K : AV → Prop} : c86 args K = K0 (fun p => (p.1.length : Int) ≤ 1048576) (fun p => .o true 2 (p.1.map encAd)) K ((lc EAd.asl l0).dec args) := rfl
theorem good86 {G : Gt} (hG : GOk Tryz.prog G ∧ GDet G) : Good Tryz.prog G.m 86 (roEnt 0 c86) := by
  refine good_run (dp := fun _ => true) (fn := Tryz.f86) (n := 1) (fun _ => rfl) (by kernel_rfl) rfl (by kernel_rfl) hmix hG (Nat.le_of_ble_eq_true rfl) (by kernel_rfl) (by decide) (fun _ _ => .deep _ _) ?_
  rintro ⟨xs, ⟨⟩⟩ hpre


  dsimp only at hpre ⊢
  cases xs with
  | nil =>
    simp -implicitDefEqProofs only [Tryz.f86, go_sem, aNil_n, aNil_c, List.length_map, List.nil_append, List.map_nil, List.map_cons, List.length_cons, List.length_nil, Nat.reduceAdd, Nat.reduceMul, Nat.reduceLeDiff, Nat.reduceEqDiff, reduceCtorEq, Nat.reduceSub, Int.reduceNeg, Nat.reduceMod, Nat.reduceBEq, Nat.reduceLT]
    repeat' (first | with_reducible apply And.intro | with_reducible intro _ | (refine brB_split (fun hb => ?_) (fun hb => ?_) <;> simp -implicitDefEqProofs only [hb, go_sem, aNil_n, aNil_c, List.length_map, List.nil_append, List.map_nil, List.map_cons, List.length_cons, List.length_nil, Nat.reduceAdd, Nat.reduceMul, Nat.reduceLeDiff, Nat.reduceEqDiff, reduceCtorEq, Nat.reduceSub, Int.reduceNeg, Nat.reduceMod, Nat.reduceBEq, Nat.reduceLT] <;> try simp only [bOf_t, bOf_f, decide_eq_true_eq, decide_eq_false_iff_not, Bool.not_eq_true', Bool.not_eq_false', Bool.not_eq_true, Bool.not_eq_false, Decidable.not_not] at hb) | (refine aPickB_split (fun hb => ?_) (fun hb => ?_) <;> simp -implicitDefEqProofs only [hb, go_sem, aNil_n, aNil_c, List.length_map, List.nil_append, List.map_nil, List.map_cons, List.length_cons, List.length_nil, Nat.reduceAdd, Nat.reduceMul, Nat.reduceLeDiff, Nat.reduceEqDiff, reduceCtorEq, Nat.reduceSub, Int.reduceNeg, Nat.reduceMod, Nat.reduceBEq, Nat.reduceLT] <;> try simp only [bOf_t, bOf_f, decide_eq_true_eq, decide_eq_false_iff_not, Bool.not_eq_true', Bool.not_eq_false', Bool.not_eq_true, Bool.not_eq_false, Decidable.not_not] at hb) | (refine gB_split (fun hb => ?_) (fun hb => ?_) <;> simp -implicitDefEqProofs only [hb, go_sem, aNil_n, aNil_c, List.length_map, List.nil_append, List.map_nil, List.map_cons, List.length_cons, List.length_nil, Nat.reduceAdd, Nat.reduceMul, Nat.reduceLeDiff, Nat.reduceEqDiff, reduceCtorEq, Nat.reduceSub, Int.reduceNeg, Nat.reduceMod, Nat.reduceBEq, Nat.reduceLT] <;> try simp only [bOf_t, bOf_f, decide_eq_true_eq, decide_eq_false_iff_not, Bool.not_eq_true', Bool.not_eq_false', Bool.not_eq_true, Bool.not_eq_false, Decidable.not_not] at hb))
    all_goals (try simp only [maxLen, List.length_map] at *)
    all_goals first | rfl | omega | exact of_eq_true (AllV_Ad []) | (simp; done) | skip
  | cons x xs =>
    simp only [List.length_cons] at hpre
    simp -implicitDefEqProofs only [Tryz.f86, go_sem, aNil_n, aNil_c, List.length_map, List.nil_append, List.map_nil, List.map_cons, List.length_cons, List.length_nil, Nat.reduceAdd, Nat.reduceMul, Nat.reduceLeDiff, Nat.reduceEqDiff, reduceCtorEq, Nat.reduceSub, Int.reduceNeg, Nat.reduceMod, Nat.reduceBEq, Nat.reduceLT]
    repeat' (first | with_reducible apply And.intro | with_reducible intro _ | (refine brB_split (fun hb => ?_) (fun hb => ?_) <;> simp -implicitDefEqProofs only [hb, go_sem, aNil_n, aNil_c, List.length_map, List.nil_append, List.map_nil, List.map_cons, List.length_cons, List.length_nil, Nat.reduceAdd, Nat.reduceMul, Nat.reduceLeDiff, Nat.reduceEqDiff, reduceCtorEq, Nat.reduceSub, Int.reduceNeg, Nat.reduceMod, Nat.reduceBEq, Nat.reduceLT] <;> try simp only [bOf_t, bOf_f, decide_eq_true_eq, decide_eq_false_iff_not, Bool.not_eq_true', Bool.not_eq_false', Bool.not_eq_true, Bool.not_eq_false, Decidable.not_not] at hb) | (refine aPickB_split (fun hb => ?_) (fun hb => ?_) <;> simp -implicitDefEqProofs only [hb, go_sem, aNil_n, aNil_c, List.length_map, List.nil_append, List.map_nil, List.map_cons, List.length_cons, List.length_nil, Nat.reduceAdd, Nat.reduceMul, Nat.reduceLeDiff, Nat.reduceEqDiff, reduceCtorEq, Nat.reduceSub, Int.reduceNeg, Nat.reduceMod, Nat.reduceBEq, Nat.reduceLT] <;> try simp only [bOf_t, bOf_f, decide_eq_true_eq, decide_eq_false_iff_not, Bool.not_eq_true', Bool.not_eq_false', Bool.not_eq_true, Bool.not_eq_false, Decidable.not_not] at hb) | (refine gB_split (fun hb => ?_) (fun hb => ?_) <;> simp -implicitDefEqProofs only [hb, go_sem, aNil_n, aNil_c, List.length_map, List.nil_append, List.map_nil, List.map_cons, List.length_cons, List.length_nil, Nat.reduceAdd, Nat.reduceMul, Nat.reduceLeDiff, Nat.reduceEqDiff, reduceCtorEq, Nat.reduceSub, Int.reduceNeg, Nat.reduceMod, Nat.reduceBEq, Nat.reduceLT] <;> try simp only [bOf_t, bOf_f, decide_eq_true_eq, decide_eq_false_iff_not, Bool.not_eq_true', Bool.not_eq_false', Bool.not_eq_true, Bool.not_eq_false, Decidable.not_not] at hb))
    all_goals (try simp only [maxLen, List.length_map] at *)
    all_goals first | rfl | omega | exact of_eq_true (AllV_Ad (x :: xs)) | exact of_eq_true (len_Ad (x :: xs)) _ (by assumption) | (simp; done) | skip

def c87 : Ct := ctR (lc EStr.asl l0) (fun p => (p.1.length : Int) ≤ 1048576) (fun p => .o true 1 (p.1.map encStr))
theorem c87_eq {args : List AV} {K : AV → Prop} : c87 args K = K0 (fun p => (p.1.length : Int) ≤ 1048576) (fun p => .o true 1 (p.1.map encStr)) K ((lc EStr.asl l0).dec args) := rfl
theorem good87 {G : Gt} (hG : GOk Tryz.prog G ∧ GDet G) : Good Tryz.prog G.m 87 (roEnt 0 c87) := by
  refine good_run (dp := fun _ => true) (fn := Tryz.f87) (n := 1) (fun _ => rfl) (by kernel_rfl) rfl (by kernel_rfl) hmix hG (Nat.le_of_ble_eq_true rfl) (by kernel_rfl) (by decide) (fun _ _ => .deep _ _) ?_
  rintro ⟨xs, ⟨⟩⟩ hpre


  dsimp only at hpre ⊢
  cases xs with
  | nil =>
    simp -implicitDefEqProofs only [Tryz.f87, go_sem, aNil_n, aNil_c, List.length_map, List.nil_append, List.map_nil, List.map_cons, List.length_cons, List.length_nil, Nat.reduceAdd, Nat.reduceMul, Nat.reduceLeDiff, Nat.reduceEqDiff, reduceCtorEq, Nat.reduceSub, Int.reduceNeg, Nat.reduceMod, Nat.reduceBEq, Nat.reduceLT]
    repeat' (first | with_reducible apply And.intro | with_reducible intro _ | (refine brB_split (fun hb => ?_) (fun hb => ?_) <;> simp -implicitDefEqProofs only [hb, go_sem, aNil_n, aNil_c, List.length_map, List.nil_append, List.map_nil, List.map_cons, List.length_cons, List.length_nil, Nat.reduceAdd, Nat.reduceMul, Nat.reduceLeDiff, Nat.reduceEqDiff, reduceCtorEq, Nat.reduceSub, Int.reduceNeg, Nat.reduceMod, Nat.reduceBEq, Nat.reduceLT] <;> try simp only [bOf_t, bOf_f, decide_eq_true_eq, decide_eq_false_iff_not, Bool.not_eq_true', Bool.not_eq_false', Bool.not_eq_true, Bool.not_eq_false, Decidable.not_not] at hb) | (refine aPickB_split (fun hb => ?_) (fun hb => ?_) <;> simp -implicitDefEqProofs only [hb, go_sem, aNil_n, aNil_c, List.length_map, List.nil_append, List.map_nil, List.map_cons, List.length_cons, List.length_nil, Nat.reduceAdd, Nat.reduceMul, Nat.reduceLeDiff, Nat.reduceEqDiff, reduceCtorEq, Nat.reduceSub, Int.reduceNeg, Nat.reduceMod, Nat.reduceBEq, Nat.reduceLT] <;> try simp only [bOf_t, bOf_f, decide_eq_true_eq, decide_eq_false_iff_not, Bool.not_eq_true', Bool.not_eq_false', Bool.not_eq_true, Bool.not_eq_false, Decidable.not_not] at hb) | (refine gB_split (fun hb => ?_) (fun hb => ?_) <;> simp -implicitDefEqProofs only [hb, go_sem, aNil_n, aNil_c, List.length_map, List.nil_append, List.map_nil, List.map_cons, List.length_cons, List.length_nil, Nat.reduceAdd, Nat.reduceMul, Nat.reduceLeDiff, Nat.reduceEqDiff, reduceCtorEq, Nat.reduceSub, Int.reduceNeg, Nat.reduceMod, Nat.reduceBEq, Nat.reduceLT] <;> try simp only [bOf_t, bOf_f, decide_eq_true_eq, decide_eq_false_iff_not, Bool.not_eq_true', Bool.not_eq_false', Bool.not_eq_true, Bool.not_eq_false, Decidable.not_not] at hb))
    all_goals (try simp only [maxLen, List.length_map] at *)
    all_goals first | rfl | omega | exact of_eq_true (AllV_Str []) | (simp; done) | skip
  | cons x xs =>
    simp only [List.length_cons] at hpre
    simp -implicitDefEqProofs only [Tryz.f87, go_sem, aNil_n, aNil_c, List.length_map, List.nil_append, List.map_nil, List.map_cons, List.length_cons, List.length_nil, Nat.reduceAdd, Nat.reduceMul, Nat.reduceLeDiff, Nat.reduceEqDiff, reduceCtorEq, Nat.reduceSub, Int.reduceNeg, Nat.reduceMod, Nat.reduceBEq, Nat.reduceLT]
    repeat' (first | with_reducible apply And.intro | with_reducible intro _ | (refine brB_split (fun hb => ?_) (fun hb => ?_) <;> simp -implicitDefEqProofs only [hb, go_sem, aNil_n, aNil_c, List.length_map, List.nil_append, List.map_nil, List.map_cons, List.length_cons, List.length_nil, Nat.reduceAdd, Nat.reduceMul, Nat.reduceLeDiff, Nat.reduceEqDiff, reduceCtorEq, Nat.reduceSub, Int.reduceNeg, Nat.reduceMod, Nat.reduceBEq, Nat.reduceLT] <;> try simp only [bOf_t, bOf_f, decide_eq_true_eq, decide_eq_false_iff_not, Bool.not_eq_true', Bool.not_eq_false', Bool.not_eq_true, Bool.not_eq_false, Decidable.not_not] at hb) | (refine aPickB_split (fun hb => ?_) (fun hb => ?_) <;> simp -implicitDefEqProofs only [hb, go_sem, aNil_n, aNil_c, List.length_map, List.nil_append, List.map_nil, List.map_cons, List.length_cons, List.length_nil, Nat.reduceAdd, Nat.reduceMul, Nat.reduceLeDiff, Nat.reduceEqDiff, reduceCtorEq, Nat.reduceSub, Int.reduceNeg, Nat.reduceMod, Nat.reduceBEq, Nat.reduceLT] <;> try simp only [bOf_t, bOf_f, decide_eq_true_eq, decide_eq_false_iff_not, Bool.not_eq_true', Bool.not_eq_false', Bool.not_eq_true, Bool.not_eq_false, Decidable.not_not] at hb) | (refine gB_split (fun hb => ?_) (fun hb => ?_) <;> simp -implicitDefEqProofs only [hb, go_sem, aNil_n, aNil_c, List.length_map, List.nil_append, List.map_nil, List.map_cons, List.length_cons, List.length_nil, Nat.reduceAdd, Nat.reduceMul, Nat.reduceLeDiff, Nat.reduceEqDiff, reduceCtorEq, Nat.reduceSub, Int.reduceNeg, Nat.reduceMod, Nat.reduceBEq, Nat.reduceLT] <;> try simp only [bOf_t, bOf_f, decide_eq_true_eq, decide_eq_false_iff_not, Bool.not_eq_true', Bool.not_eq_false', Bool.not_eq_true, Bool.not_eq_false, Decidable.not_not] at hb))
    all_goals (try simp only [maxLen, List.length_map] at *)
    all_goals first | rfl | omega | exact of_eq_true (AllV_Str (x :: xs)) | exact of_eq_true (len_Str (x :: xs)) _ (by assumption) | (simp; done) | skip

def c40 : Ct := ctR (lc EMl.ag l0) (fun p => (p.1.to.length : Int) ≤ 1048576 ∧ (p.1.body.length : Int) ≤ 1048576) (fun p => mlOw p.1)
theorem c40_eq {args : List AV} {K : AV → Prop} : c40 args K = K0 (fun p => (p.1.to.length : Int) ≤ 1048576 ∧ (p.1.body.length : Int) ≤ 1048576) (fun p => mlOw p.1) K ((lc EMl.ag l0).dec args) := rfl
theorem good40 {G : Gt} (hG : GOk Tryz.prog G ∧ GDet G) (h86 : G.e 86 = roEnt 0 c86) (h87 : G.e 87 = roEnt 0 c87) : Good Tryz.prog G.m 40 (roEnt 0 c40) := by
  refine good_run (dp := fun _ => true) (fn := Tryz.f40) (n := 1) (fun _ => rfl) (by kernel_rfl) rfl (by kernel_rfl) hmix hG (Nat.le_of_ble_eq_true rfl) (by kernel_rfl) (by decide) (fun _ p => mlOw_solid _) ?_
  have k86 : (G.e 86).kd = 0 := by rw [h86]; rfl
  have m86 : (G.e 86).ro = c86 := by rw [h86]; rfl
  have k87 : (G.e 87).kd = 0 := by rw [h87]; rfl
  have m87 : (G.e 87).ro = c87 := by rw [h87]; rfl
  rintro ⟨m, ⟨⟩⟩ hpre
  simp -implicitDefEqProofs only [Tryz.f40, go_sem, k86, m86, c86_eq, k87, m87, c87_eq, mlOw, List.length_map, Nat.reduceAdd, Nat.reduceMul, Nat.reduceLeDiff, Nat.reduceEqDiff, reduceCtorEq, Nat.reduceSub, Int.reduceNeg, Nat.reduceMod, Nat.reduceBEq, Nat.reduceLT] at hpre ⊢

  repeat' (first | with_reducible apply And.intro | with_reducible intro _ | (refine brB_split (fun hb => ?_) (fun hb => ?_) <;> simp -implicitDefEqProofs only [hb, go_sem, k86, m86, c86_eq, k87, m87, c87_eq, mlOw, List.length_map, Nat.reduceAdd, Nat.reduceMul, Nat.reduceLeDiff, Nat.reduceEqDiff, reduceCtorEq, Nat.reduceSub, Int.reduceNeg, Nat.reduceMod, Nat.reduceBEq, Nat.reduceLT] <;> try simp only [bOf_t, bOf_f, decide_eq_true_eq, decide_eq_false_iff_not, Bool.not_eq_true', Bool.not_eq_false', Bool.not_eq_true, Bool.not_eq_false, Decidable.not_not] at hb) | (refine aPickB_split (fun hb => ?_) (fun hb => ?_) <;> simp -implicitDefEqProofs only [hb, go_sem, k86, m86, c86_eq, k87, m87, c87_eq, mlOw, List.length_map, Nat.reduceAdd, Nat.reduceMul, Nat.reduceLeDiff, Nat.reduceEqDiff, reduceCtorEq, Nat.reduceSub, Int.reduceNeg, Nat.reduceMod, Nat.reduceBEq, Nat.reduceLT] <;> try simp only [bOf_t, bOf_f, decide_eq_true_eq, decide_eq_false_iff_not, Bool.not_eq_true', Bool.not_eq_false', Bool.not_eq_true, Bool.not_eq_false, Decidable.not_not] at hb) | (refine gB_split (fun hb => ?_) (fun hb => ?_) <;> simp -implicitDefEqProofs only [hb, go_sem, k86, m86, c86_eq, k87, m87, c87_eq, mlOw, List.length_map, Nat.reduceAdd, Nat.reduceMul, Nat.reduceLeDiff, Nat.reduceEqDiff, reduceCtorEq, Nat.reduceSub, Int.reduceNeg, Nat.reduceMod, Nat.reduceBEq, Nat.reduceLT] <;> try simp only [bOf_t, bOf_f, decide_eq_true_eq, decide_eq_false_iff_not, Bool.not_eq_true', Bool.not_eq_false', Bool.not_eq_true, Bool.not_eq_false, Decidable.not_not] at hb))
  all_goals (try simp only [maxLen, List.length_map] at *)
  all_goals first | rfl | omega | (simp; done) | skip

def c11 : Ct := ctR (lc ERu.asl (lc EMl.ag l0)) (fun p => Szs p.1 p.2.1) (fun p => mlR (SDo p.1 p.2.1))
theorem c11_eq {args : List AV} {K : AV → Prop} : c11 args K = K0 (fun p => Szs p.1 p.2.1) (fun p => mlR (SDo p.1 p.2.1)) K ((lc ERu.asl (lc EMl.ag l0)).dec args) := rfl
set_option maxHeartbeats 1600000 in
theorem good11 {G : Gt} (hG : GOk Tryz.prog G ∧ GDet G) (h38 : G.e 38 = roEnt 0 c38) (h39 : G.e 39 = roEnt 0 c39) (h40 : G.e 40 = roEnt 0 c40) (h41 : G.e 41 = roEnt 0 c41) : Good Tryz.prog G.m 11 (roEnt 0 c11) := by
  refine good_run (dp := fun _ => true) (fn := Tryz.f11) (n := 2) (fun _ => rfl) (by kernel_rfl) rfl (by kernel_rfl) hmix hG (Nat.le_of_ble_eq_true rfl) (by kernel_rfl) (by decide) (fun _ p => mlR_solid _) ?_
  have k38 : (G.e 38).kd = 0 := by rw [h38]; rfl
  have m38 : (G.e 38).ro = c38 := by rw [h38]; rfl
  have k39 : (G.e 39).kd = 0 := by rw [h39]; rfl
  have m39 : (G.e 39).ro = c39 := by rw [h39]; rfl
  have k40 : (G.e 40).kd = 0 := by rw [h40]; rfl
  have m40 : (G.e 40).ro = c40 := by rw [h40]; rfl
  have k41 : (G.e 41).kd = 0 := by rw [h41]; rfl
  have m41 : (G.e 41).ro = c41 := by rw [h41]; rfl
  rintro ⟨rs, m, ⟨⟩⟩ hpre

  have hsz : Szs rs m := hpre
  obtain ⟨z1, z2, z3, z4⟩ : Szs rs m := hpre
  by_cases h : RsOk rs ∧ MlOk m
  · have b1 := bOf_y h.1
    have b2 := bOf_y h.2
    have hS : SFor rs m = rIx m.frm m.body 0 rs := if_pos h
    have z5 := ok_lens h.2
    have z6 := rIx_range m.frm m.body rs 0
    by_cases h1 : rIx m.frm m.body 0 rs < 0
    · have b3 := decide_eq_true h1
      rw [SDo_neg h h1]
      simp -implicitDefEqProofs only [Tryz.f11, mlR, ml0, b1, b2, b3, hS, go_sem, k38, m38, c38_eq, k39, m39, c39_eq, k40, m40, c40_eq, k41, m41, c41_eq, ap_enc, ap_dec, AFn0_dec, AFn0_enc, AF3_d1, AF3_d2, AF3_e1, AF3_e2, Bool.not_true, Bool.not_false, bOf_t, bOf_f, mlOw, List.length_map, List.map_nil, List.length_nil, List.map_cons, Nat.reduceAdd, Nat.reduceMul, Nat.reduceLeDiff, Nat.reduceEqDiff, reduceCtorEq, Nat.reduceSub, Int.reduceNeg, Nat.reduceMod, Nat.reduceBEq, Nat.reduceLT]
      repeat' (first | with_reducible apply And.intro | with_reducible intro _ | (refine brB_split (fun hb => ?_) (fun hb => ?_) <;> simp -implicitDefEqProofs only [hb, go_sem, k38, m38, c38_eq, k39, m39, c39_eq, k40, m40, c40_eq, k41, m41, c41_eq, ap_enc, ap_dec, AFn0_dec, AFn0_enc, AF3_d1, AF3_d2, AF3_e1, AF3_e2, Bool.not_true, Bool.not_false, bOf_t, bOf_f, mlOw, List.length_map, List.map_nil, List.length_nil, List.map_cons, Nat.reduceAdd, Nat.reduceMul, Nat.reduceLeDiff, Nat.reduceEqDiff, reduceCtorEq, Nat.reduceSub, Int.reduceNeg, Nat.reduceMod, Nat.reduceBEq, Nat.reduceLT] <;> try simp only [bOf_t, bOf_f, decide_eq_true_eq, decide_eq_false_iff_not, Bool.not_eq_true', Bool.not_eq_false', Bool.not_eq_true, Bool.not_eq_false, Decidable.not_not] at hb) | (refine aPickB_split (fun hb => ?_) (fun hb => ?_) <;> simp -implicitDefEqProofs only [hb, go_sem, k38, m38, c38_eq, k39, m39, c39_eq, k40, m40, c40_eq, k41, m41, c41_eq, ap_enc, ap_dec, AFn0_dec, AFn0_enc, AF3_d1, AF3_d2, AF3_e1, AF3_e2, Bool.not_true, Bool.not_false, bOf_t, bOf_f, mlOw, List.length_map, List.map_nil, List.length_nil, List.map_cons, Nat.reduceAdd, Nat.reduceMul, Nat.reduceLeDiff, Nat.reduceEqDiff, reduceCtorEq, Nat.reduceSub, Int.reduceNeg, Nat.reduceMod, Nat.reduceBEq, Nat.reduceLT] <;> try simp only [bOf_t, bOf_f, decide_eq_true_eq, decide_eq_false_iff_not, Bool.not_eq_true', Bool.not_eq_false', Bool.not_eq_true, Bool.not_eq_false, Decidable.not_not] at hb) | (refine gB_split (fun hb => ?_) (fun hb => ?_) <;> simp -implicitDefEqProofs only [hb, go_sem, k38, m38, c38_eq, k39, m39, c39_eq, k40, m40, c40_eq, k41, m41, c41_eq, ap_enc, ap_dec, AFn0_dec, AFn0_enc, AF3_d1, AF3_d2, AF3_e1, AF3_e2, Bool.not_true, Bool.not_false, bOf_t, bOf_f, mlOw, List.length_map, List.map_nil, List.length_nil, List.map_cons, Nat.reduceAdd, Nat.reduceMul, Nat.reduceLeDiff, Nat.reduceEqDiff, reduceCtorEq, Nat.reduceSub, Int.reduceNeg, Nat.reduceMod, Nat.reduceBEq, Nat.reduceLT] <;> try simp only [bOf_t, bOf_f, decide_eq_true_eq, decide_eq_false_iff_not, Bool.not_eq_true', Bool.not_eq_false', Bool.not_eq_true, Bool.not_eq_false, Decidable.not_not] at hb))
      all_goals (try simp only [maxLen] at *)
      all_goals first | rfl | omega | exact z1 | exact z2 | exact z3 | exact z4 | exact hsz | exact (z1 _ (by assumption)).1 | exact (z1 _ (by assumption)).2 | exact z2 _ (by assumption) | exact z4 _ (by assumption) | (simp_all; done) | trace_state
    · have b3 := decide_eq_false h1
      by_cases h2 : (rs.getD (rIx m.frm m.body 0 rs).toNat default).act = 1
      · have b4 : decide ((rs.getD (rIx m.frm m.body 0 rs).toNat default).act = 2) = false := decide_eq_false (by omega)
        have b5 : decide ((rs.getD (rIx m.frm m.body 0 rs).toNat default).act = 3) = false := decide_eq_false (by omega)
        rw [SDo_1 h h1 h2]
        simp -implicitDefEqProofs only [Tryz.f11, mlR, ml0, b1, b2, b3, b4, b5, hS, go_sem, k38, m38, c38_eq, k39, m39, c39_eq, k40, m40, c40_eq, k41, m41, c41_eq, ap_enc, ap_dec, AFn0_dec, AFn0_enc, AF3_d1, AF3_d2, AF3_e1, AF3_e2, Bool.not_true, Bool.not_false, bOf_t, bOf_f, mlOw, List.length_map, List.map_nil, List.length_nil, List.map_cons, Nat.reduceAdd, Nat.reduceMul, Nat.reduceLeDiff, Nat.reduceEqDiff, reduceCtorEq, Nat.reduceSub, Int.reduceNeg, Nat.reduceMod, Nat.reduceBEq, Nat.reduceLT]
        repeat' (first | with_reducible apply And.intro | with_reducible intro _ | (refine brB_split (fun hb => ?_) (fun hb => ?_) <;> simp -implicitDefEqProofs only [hb, go_sem, k38, m38, c38_eq, k39, m39, c39_eq, k40, m40, c40_eq, k41, m41, c41_eq, ap_enc, ap_dec, AFn0_dec, AFn0_enc, AF3_d1, AF3_d2, AF3_e1, AF3_e2, Bool.not_true, Bool.not_false, bOf_t, bOf_f, mlOw, List.length_map, List.map_nil, List.length_nil, List.map_cons, Nat.reduceAdd, Nat.reduceMul, Nat.reduceLeDiff, Nat.reduceEqDiff, reduceCtorEq, Nat.reduceSub, Int.reduceNeg, Nat.reduceMod, Nat.reduceBEq, Nat.reduceLT] <;> try simp only [bOf_t, bOf_f, decide_eq_true_eq, decide_eq_false_iff_not, Bool.not_eq_true', Bool.not_eq_false', Bool.not_eq_true, Bool.not_eq_false, Decidable.not_not] at hb) | (refine aPickB_split (fun hb => ?_) (fun hb => ?_) <;> simp -implicitDefEqProofs only [hb, go_sem, k38, m38, c38_eq, k39, m39, c39_eq, k40, m40, c40_eq, k41, m41, c41_eq, ap_enc, ap_dec, AFn0_dec, AFn0_enc, AF3_d1, AF3_d2, AF3_e1, AF3_e2, Bool.not_true, Bool.not_false, bOf_t, bOf_f, mlOw, List.length_map, List.map_nil, List.length_nil, List.map_cons, Nat.reduceAdd, Nat.reduceMul, Nat.reduceLeDiff, Nat.reduceEqDiff, reduceCtorEq, Nat.reduceSub, Int.reduceNeg, Nat.reduceMod, Nat.reduceBEq, Nat.reduceLT] <;> try simp only [bOf_t, bOf_f, decide_eq_true_eq, decide_eq_false_iff_not, Bool.not_eq_true', Bool.not_eq_false', Bool.not_eq_true, Bool.not_eq_false, Decidable.not_not] at hb) | (refine gB_split (fun hb => ?_) (fun hb => ?_) <;> simp -implicitDefEqProofs only [hb, go_sem, k38, m38, c38_eq, k39, m39, c39_eq, k40, m40, c40_eq, k41, m41, c41_eq, ap_enc, ap_dec, AFn0_dec, AFn0_enc, AF3_d1, AF3_d2, AF3_e1, AF3_e2, Bool.not_true, Bool.not_false, bOf_t, bOf_f, mlOw, List.length_map, List.map_nil, List.length_nil, List.map_cons, Nat.reduceAdd, Nat.reduceMul, Nat.reduceLeDiff, Nat.reduceEqDiff, reduceCtorEq, Nat.reduceSub, Int.reduceNeg, Nat.reduceMod, Nat.reduceBEq, Nat.reduceLT] <;> try simp only [bOf_t, bOf_f, decide_eq_true_eq, decide_eq_false_iff_not, Bool.not_eq_true', Bool.not_eq_false', Bool.not_eq_true, Bool.not_eq_false, Decidable.not_not] at hb))
        all_goals (try simp only [maxLen] at *)
        all_goals first | rfl | omega | exact z1 | exact z2 | exact z3 | exact z4 | exact hsz | exact (z1 _ (by assumption)).1 | exact (z1 _ (by assumption)).2 | exact z2 _ (by assumption) | exact z4 _ (by assumption) | (simp_all; done) | trace_state
      · by_cases h3 : (rs.getD (rIx m.frm m.body 0 rs).toNat default).act = 2
        · have b5 := decide_eq_true h3
          rw [SDo_2 h h1 h3]
          simp -implicitDefEqProofs only [Tryz.f11, mlR, ml0, b1, b2, b3, b5, hS, go_sem, k38, m38, c38_eq, k39, m39, c39_eq, k40, m40, c40_eq, k41, m41, c41_eq, ap_enc, ap_dec, AFn0_dec, AFn0_enc, AF3_d1, AF3_d2, AF3_e1, AF3_e2, Bool.not_true, Bool.not_false, bOf_t, bOf_f, mlOw, List.length_map, List.map_nil, List.length_nil, List.map_cons, Nat.reduceAdd, Nat.reduceMul, Nat.reduceLeDiff, Nat.reduceEqDiff, reduceCtorEq, Nat.reduceSub, Int.reduceNeg, Nat.reduceMod, Nat.reduceBEq, Nat.reduceLT]
          repeat' (first | with_reducible apply And.intro | with_reducible intro _ | (refine brB_split (fun hb => ?_) (fun hb => ?_) <;> simp -implicitDefEqProofs only [hb, go_sem, k38, m38, c38_eq, k39, m39, c39_eq, k40, m40, c40_eq, k41, m41, c41_eq, ap_enc, ap_dec, AFn0_dec, AFn0_enc, AF3_d1, AF3_d2, AF3_e1, AF3_e2, Bool.not_true, Bool.not_false, bOf_t, bOf_f, mlOw, List.length_map, List.map_nil, List.length_nil, List.map_cons, Nat.reduceAdd, Nat.reduceMul, Nat.reduceLeDiff, Nat.reduceEqDiff, reduceCtorEq, Nat.reduceSub, Int.reduceNeg, Nat.reduceMod, Nat.reduceBEq, Nat.reduceLT] <;> try simp only [bOf_t, bOf_f, decide_eq_true_eq, decide_eq_false_iff_not, Bool.not_eq_true', Bool.not_eq_false', Bool.not_eq_true, Bool.not_eq_false, Decidable.not_not] at hb) | (refine aPickB_split (fun hb => ?_) (fun hb => ?_) <;> simp -implicitDefEqProofs only [hb, go_sem, k38, m38, c38_eq, k39, m39, c39_eq, k40, m40, c40_eq, k41, m41, c41_eq, ap_enc, ap_dec, AFn0_dec, AFn0_enc, AF3_d1, AF3_d2, AF3_e1, AF3_e2, Bool.not_true, Bool.not_false, bOf_t, bOf_f, mlOw, List.length_map, List.map_nil, List.length_nil, List.map_cons, Nat.reduceAdd, Nat.reduceMul, Nat.reduceLeDiff, Nat.reduceEqDiff, reduceCtorEq, Nat.reduceSub, Int.reduceNeg, Nat.reduceMod, Nat.reduceBEq, Nat.reduceLT] <;> try simp only [bOf_t, bOf_f, decide_eq_true_eq, decide_eq_false_iff_not, Bool.not_eq_true', Bool.not_eq_false', Bool.not_eq_true, Bool.not_eq_false, Decidable.not_not] at hb) | (refine gB_split (fun hb => ?_) (fun hb => ?_) <;> simp -implicitDefEqProofs only [hb, go_sem, k38, m38, c38_eq, k39, m39, c39_eq, k40, m40, c40_eq, k41, m41, c41_eq, ap_enc, ap_dec, AFn0_dec, AFn0_enc, AF3_d1, AF3_d2, AF3_e1, AF3_e2, Bool.not_true, Bool.not_false, bOf_t, bOf_f, mlOw, List.length_map, List.map_nil, List.length_nil, List.map_cons, Nat.reduceAdd, Nat.reduceMul, Nat.reduceLeDiff, Nat.reduceEqDiff, reduceCtorEq, Nat.reduceSub, Int.reduceNeg, Nat.reduceMod, Nat.reduceBEq, Nat.reduceLT] <;> try simp only [bOf_t, bOf_f, decide_eq_true_eq, decide_eq_false_iff_not, Bool.not_eq_true', Bool.not_eq_false', Bool.not_eq_true, Bool.not_eq_false, Decidable.not_not] at hb))
          all_goals (try simp only [maxLen] at *)
          all_goals first | rfl | omega | exact z1 | exact z2 | exact z3 | exact z4 | exact hsz | exact (z1 _ (by assumption)).1 | exact (z1 _ (by assumption)).2 | exact z2 _ (by assumption) | exact z4 _ (by assumption) | (simp_all; done) | trace_state
        · have b4 := decide_eq_false h3
          have hact := (h.1.1 _ (getD_mem (xs := rs) (j := (rIx m.frm m.body 0 rs).toNat) (by omega))).2.1
          have h4 : (rs.getD (rIx m.frm m.body 0 rs).toNat default).act = 3 := by omega
          have b5 := decide_eq_true h4
          rw [SDo_3 h h1 h2 h3]
          simp -implicitDefEqProofs only [Tryz.f11, mlR, ml0, b1, b2, b3, b4, b5, hS, go_sem, k38, m38, c38_eq, k39, m39, c39_eq, k40, m40, c40_eq, k41, m41, c41_eq, ap_enc, ap_dec, AFn0_dec, AFn0_enc, AF3_d1, AF3_d2, AF3_e1, AF3_e2, Bool.not_true, Bool.not_false, bOf_t, bOf_f, mlOw, List.length_map, List.map_nil, List.length_nil, List.map_cons, Nat.reduceAdd, Nat.reduceMul, Nat.reduceLeDiff, Nat.reduceEqDiff, reduceCtorEq, Nat.reduceSub, Int.reduceNeg, Nat.reduceMod, Nat.reduceBEq, Nat.reduceLT]
          repeat' (first | with_reducible apply And.intro | with_reducible intro _ | (refine brB_split (fun hb => ?_) (fun hb => ?_) <;> simp -implicitDefEqProofs only [hb, go_sem, k38, m38, c38_eq, k39, m39, c39_eq, k40, m40, c40_eq, k41, m41, c41_eq, ap_enc, ap_dec, AFn0_dec, AFn0_enc, AF3_d1, AF3_d2, AF3_e1, AF3_e2, Bool.not_true, Bool.not_false, bOf_t, bOf_f, mlOw, List.length_map, List.map_nil, List.length_nil, List.map_cons, Nat.reduceAdd, Nat.reduceMul, Nat.reduceLeDiff, Nat.reduceEqDiff, reduceCtorEq, Nat.reduceSub, Int.reduceNeg, Nat.reduceMod, Nat.reduceBEq, Nat.reduceLT] <;> try simp only [bOf_t, bOf_f, decide_eq_true_eq, decide_eq_false_iff_not, Bool.not_eq_true', Bool.not_eq_false', Bool.not_eq_true, Bool.not_eq_false, Decidable.not_not] at hb) | (refine aPickB_split (fun hb => ?_) (fun hb => ?_) <;> simp -implicitDefEqProofs only [hb, go_sem, k38, m38, c38_eq, k39, m39, c39_eq, k40, m40, c40_eq, k41, m41, c41_eq, ap_enc, ap_dec, AFn0_dec, AFn0_enc, AF3_d1, AF3_d2, AF3_e1, AF3_e2, Bool.not_true, Bool.not_false, bOf_t, bOf_f, mlOw, List.length_map, List.map_nil, List.length_nil, List.map_cons, Nat.reduceAdd, Nat.reduceMul, Nat.reduceLeDiff, Nat.reduceEqDiff, reduceCtorEq, Nat.reduceSub, Int.reduceNeg, Nat.reduceMod, Nat.reduceBEq, Nat.reduceLT] <;> try simp only [bOf_t, bOf_f, decide_eq_true_eq, decide_eq_false_iff_not, Bool.not_eq_true', Bool.not_eq_false', Bool.not_eq_true, Bool.not_eq_false, Decidable.not_not] at hb) | (refine gB_split (fun hb => ?_) (fun hb => ?_) <;> simp -implicitDefEqProofs only [hb, go_sem, k38, m38, c38_eq, k39, m39, c39_eq, k40, m40, c40_eq, k41, m41, c41_eq, ap_enc, ap_dec, AFn0_dec, AFn0_enc, AF3_d1, AF3_d2, AF3_e1, AF3_e2, Bool.not_true, Bool.not_false, bOf_t, bOf_f, mlOw, List.length_map, List.map_nil, List.length_nil, List.map_cons, Nat.reduceAdd, Nat.reduceMul, Nat.reduceLeDiff, Nat.reduceEqDiff, reduceCtorEq, Nat.reduceSub, Int.reduceNeg, Nat.reduceMod, Nat.reduceBEq, Nat.reduceLT] <;> try simp only [bOf_t, bOf_f, decide_eq_true_eq, decide_eq_false_iff_not, Bool.not_eq_true', Bool.not_eq_false', Bool.not_eq_true, Bool.not_eq_false, Decidable.not_not] at hb))
          all_goals (try simp only [maxLen] at *)
          all_goals first | rfl | omega | exact z1 | exact z2 | exact z3 | exact z4 | exact hsz | exact (z1 _ (by assumption)).1 | exact (z1 _ (by assumption)).2 | exact z2 _ (by assumption) | exact z4 _ (by assumption) | (simp_all; done) | trace_state
  · rw [SDo_no h]
    by_cases hr : RsOk rs
    · have b1 := bOf_y hr
      have b2 := bOf_n (fun q => h ⟨hr, q⟩)
      simp -implicitDefEqProofs only [Tryz.f11, mlR, ml0, b1, b2, go_sem, k38, m38, c38_eq, k39, m39, c39_eq, k40, m40, c40_eq, k41, m41, c41_eq, ap_enc, ap_dec, AFn0_dec, AFn0_enc, AF3_d1, AF3_d2, AF3_e1, AF3_e2, Bool.not_true, Bool.not_false, bOf_t, bOf_f, mlOw, List.length_map, List.map_nil, List.length_nil, List.map_cons, Nat.reduceAdd, Nat.reduceMul, Nat.reduceLeDiff, Nat.reduceEqDiff, reduceCtorEq, Nat.reduceSub, Int.reduceNeg, Nat.reduceMod, Nat.reduceBEq, Nat.reduceLT]
      repeat' (first | with_reducible apply And.intro | with_reducible intro _ | (refine brB_split (fun hb => ?_) (fun hb => ?_) <;> simp -implicitDefEqProofs only [hb, go_sem, k38, m38, c38_eq, k39, m39, c39_eq, k40, m40, c40_eq, k41, m41, c41_eq, ap_enc, ap_dec, AFn0_dec, AFn0_enc, AF3_d1, AF3_d2, AF3_e1, AF3_e2, Bool.not_true, Bool.not_false, bOf_t, bOf_f, mlOw, List.length_map, List.map_nil, List.length_nil, List.map_cons, Nat.reduceAdd, Nat.reduceMul, Nat.reduceLeDiff, Nat.reduceEqDiff, reduceCtorEq, Nat.reduceSub, Int.reduceNeg, Nat.reduceMod, Nat.reduceBEq, Nat.reduceLT] <;> try simp only [bOf_t, bOf_f, decide_eq_true_eq, decide_eq_false_iff_not, Bool.not_eq_true', Bool.not_eq_false', Bool.not_eq_true, Bool.not_eq_false, Decidable.not_not] at hb) | (refine aPickB_split (fun hb => ?_) (fun hb => ?_) <;> simp -implicitDefEqProofs only [hb, go_sem, k38, m38, c38_eq, k39, m39, c39_eq, k40, m40, c40_eq, k41, m41, c41_eq, ap_enc, ap_dec, AFn0_dec, AFn0_enc, AF3_d1, AF3_d2, AF3_e1, AF3_e2, Bool.not_true, Bool.not_false, bOf_t, bOf_f, mlOw, List.length_map, List.map_nil, List.length_nil, List.map_cons, Nat.reduceAdd, Nat.reduceMul, Nat.reduceLeDiff, Nat.reduceEqDiff, reduceCtorEq, Nat.reduceSub, Int.reduceNeg, Nat.reduceMod, Nat.reduceBEq, Nat.reduceLT] <;> try simp only [bOf_t, bOf_f, decide_eq_true_eq, decide_eq_false_iff_not, Bool.not_eq_true', Bool.not_eq_false', Bool.not_eq_true, Bool.not_eq_false, Decidable.not_not] at hb) | (refine gB_split (fun hb => ?_) (fun hb => ?_) <;> simp -implicitDefEqProofs only [hb, go_sem, k38, m38, c38_eq, k39, m39, c39_eq, k40, m40, c40_eq, k41, m41, c41_eq, ap_enc, ap_dec, AFn0_dec, AFn0_enc, AF3_d1, AF3_d2, AF3_e1, AF3_e2, Bool.not_true, Bool.not_false, bOf_t, bOf_f, mlOw, List.length_map, List.map_nil, List.length_nil, List.map_cons, Nat.reduceAdd, Nat.reduceMul, Nat.reduceLeDiff, Nat.reduceEqDiff, reduceCtorEq, Nat.reduceSub, Int.reduceNeg, Nat.reduceMod, Nat.reduceBEq, Nat.reduceLT] <;> try simp only [bOf_t, bOf_f, decide_eq_true_eq, decide_eq_false_iff_not, Bool.not_eq_true', Bool.not_eq_false', Bool.not_eq_true, Bool.not_eq_false, Decidable.not_not] at hb))
      all_goals (try simp only [maxLen] at *)
      all_goals first | rfl | omega | exact z1 | exact z2 | exact z3 | exact z4 | exact hsz | exact (z1 _ (by assumption)).1 | exact (z1 _ (by assumption)).2 | exact z2 _ (by assumption) | exact z4 _ (by assumption) | (simp_all; done) | trace_state
    · have b1 := bOf_n hr
      simp -implicitDefEqProofs only [Tryz.f11, mlR, ml0, b1, go_sem, k38, m38, c38_eq, k39, m39, c39_eq, k40, m40, c40_eq, k41, m41, c41_eq, ap_enc, ap_dec, AFn0_dec, AFn0_enc, AF3_d1, AF3_d2, AF3_e1, AF3_e2, Bool.not_true, Bool.not_false, bOf_t, bOf_f, mlOw, List.length_map, List.map_nil, List.length_nil, List.map_cons, Nat.reduceAdd, Nat.reduceMul, Nat.reduceLeDiff, Nat.reduceEqDiff, reduceCtorEq, Nat.reduceSub, Int.reduceNeg, Nat.reduceMod, Nat.reduceBEq, Nat.reduceLT]
      repeat' (first | with_reducible apply And.intro | with_reducible intro _ | (refine brB_split (fun hb => ?_) (fun hb => ?_) <;> simp -implicitDefEqProofs only [hb, go_sem, k38, m38, c38_eq, k39, m39, c39_eq, k40, m40, c40_eq, k41, m41, c41_eq, ap_enc, ap_dec, AFn0_dec, AFn0_enc, AF3_d1, AF3_d2, AF3_e1, AF3_e2, Bool.not_true, Bool.not_false, bOf_t, bOf_f, mlOw, List.length_map, List.map_nil, List.length_nil, List.map_cons, Nat.reduceAdd, Nat.reduceMul, Nat.reduceLeDiff, Nat.reduceEqDiff, reduceCtorEq, Nat.reduceSub, Int.reduceNeg, Nat.reduceMod, Nat.reduceBEq, Nat.reduceLT] <;> try simp only [bOf_t, bOf_f, decide_eq_true_eq, decide_eq_false_iff_not, Bool.not_eq_true', Bool.not_eq_false', Bool.not_eq_true, Bool.not_eq_false, Decidable.not_not] at hb) | (refine aPickB_split (fun hb => ?_) (fun hb => ?_) <;> simp -implicitDefEqProofs only [hb, go_sem, k38, m38, c38_eq, k39, m39, c39_eq, k40, m40, c40_eq, k41, m41, c41_eq, ap_enc, ap_dec, AFn0_dec, AFn0_enc, AF3_d1, AF3_d2, AF3_e1, AF3_e2, Bool.not_true, Bool.not_false, bOf_t, bOf_f, mlOw, List.length_map, List.map_nil, List.length_nil, List.map_cons, Nat.reduceAdd, Nat.reduceMul, Nat.reduceLeDiff, Nat.reduceEqDiff, reduceCtorEq, Nat.reduceSub, Int.reduceNeg, Nat.reduceMod, Nat.reduceBEq, Nat.reduceLT] <;> try simp only [bOf_t, bOf_f, decide_eq_true_eq, decide_eq_false_iff_not, Bool.not_eq_true', Bool.not_eq_false', Bool.not_eq_true, Bool.not_eq_false, Decidable.not_not] at hb) | (refine gB_split (fun hb => ?_) (fun hb => ?_) <;> simp -implicitDefEqProofs only [hb, go_sem, k38, m38, c38_eq, k39, m39, c39_eq, k40, m40, c40_eq, k41, m41, c41_eq, ap_enc, ap_dec, AFn0_dec, AFn0_enc, AF3_d1, AF3_d2, AF3_e1, AF3_e2, Bool.not_true, Bool.not_false, bOf_t, bOf_f, mlOw, List.length_map, List.map_nil, List.length_nil, List.map_cons, Nat.reduceAdd, Nat.reduceMul, Nat.reduceLeDiff, Nat.reduceEqDiff, reduceCtorEq, Nat.reduceSub, Int.reduceNeg, Nat.reduceMod, Nat.reduceBEq, Nat.reduceLT] <;> try simp only [bOf_t, bOf_f, decide_eq_true_eq, decide_eq_false_iff_not, Bool.not_eq_true', Bool.not_eq_false', Bool.not_eq_true, Bool.not_eq_false, Decidable.not_not] at hb))
      all_goals (try simp only [maxLen] at *)
      all_goals first | rfl | omega | exact z1 | exact z2 | exact z3 | exact z4 | exact hsz | exact (z1 _ (by assumption)).1 | exact (z1 _ (by assumption)).2 | exact z2 _ (by assumption) | exact z4 _ (by assumption) | (simp_all; done) | trace_state



theorem szAd_ok {a : Ad} {l : Int} (h : 0 ≤ szAd a l) : a.user.size ≤ l ∧ a.domain.size ≤ l ∧ szAd a l ≤ l := by
  unfold szAd at h ⊢
  split at h
  · omega
  · split at h
    · omega
    · rename_i h1 h2
      rw [if_neg h1, if_neg h2]; omega
theorem szRu_ok {r : Ru} {l : Int} (h : 0 ≤ szRu r l) : r.text.size ≤ l ∧ r.to.domain.size ≤ l := by
  unfold szRu at h
  split at h
  · omega
  · split at h
    · omega
    · have := szAd_ok h; omega
theorem szF_ok {α : Type} {f : α → Int → Int} (hf : smaller f) : ∀ {xs : List α} {l : Int}, 0 ≤ szF f l xs → szF f l xs ≤ l ∧ ∀ x ∈ xs, ∃ k, k ≤ l ∧ 0 ≤ f x k
  | [], l, h => ⟨Int.le_refl _, fun x hx => (by cases hx)⟩
  | x :: r, l, h => by
    rw [szF] at h ⊢
    by_cases h1 : f x l < 0
    · rw [if_pos h1] at h; omega
    · rw [if_neg h1] at h ⊢
      obtain ⟨q1, q2⟩ := szF_ok hf h
      have hl := (hf x l).resolve_left h1
      refine ⟨by omega, fun y hy => ?_⟩
      rcases List.mem_cons.1 hy with e | hy
      · subst e; exact ⟨l, Int.le_refl _, by omega⟩
      · obtain ⟨k, hk, h2⟩ := q2 y hy
        exact ⟨k, by omega, h2⟩
theorem szL_ok {α : Type} {f : α → Int → Int} (hf : smaller f) {xs : List α} {l : Int} (h : 0 ≤ szL f xs l) : (xs.length : Int) ≤ l ∧ szL f xs l ≤ l ∧ ∀ x ∈ xs, ∃ k, k ≤ l ∧ 0 ≤ f x k := by
  unfold szL at h ⊢
  by_cases h1 : l - xs.length < 0
  · rw [if_pos h1] at h; omega
  · rw [if_neg h1] at h ⊢
    obtain ⟨q1, q2⟩ := szF_ok hf h
    refine ⟨by omega, by omega, fun x hx => ?_⟩
    obtain ⟨k, hk, h2⟩ := q2 x hx
    exact ⟨k, by omega, h2⟩
theorem szMl_ok {m : Ml} {l : Int} (h : 0 ≤ szMl m l) : m.frm.domain.size ≤ l ∧ (m.to.length : Int) ≤ l ∧ (m.body.length : Int) ≤ l ∧ (∀ a ∈ m.to, a.domain.size ≤ l) ∧ ∀ s ∈ m.body, s.size ≤ l := by
  unfold szMl at h
  by_cases h1 : szAd m.frm l < 0
  · rw [if_pos h1] at h; omega
  · rw [if_neg h1] at h
    by_cases h2 : szL szAd m.to (szAd m.frm l) < 0
    · rw [if_pos h2] at h; omega
    · rw [if_neg h2] at h
      by_cases h3 : szL szStr m.body (szL szAd m.to (szAd m.frm l)) < 0
      · rw [if_pos h3] at h; omega
      · obtain ⟨a1, a2, a3⟩ := szAd_ok (by omega : 0 ≤ szAd m.frm l)
        obtain ⟨b1, b2, b3⟩ := szL_ok szAd_le (by omega : 0 ≤ szL szAd m.to (szAd m.frm l))
        obtain ⟨c1, c2, c3⟩ := szL_ok szStr_le (by omega : 0 ≤ szL szStr m.body (szL szAd m.to (szAd m.frm l)))
        refine ⟨a2, by omega, by omega, fun a ha => ?_, fun s hs => ?_⟩
        · obtain ⟨k, hk, h4⟩ := b3 a ha
          have := szAd_ok h4; omega
        · obtain ⟨k, hk, h4⟩ := c3 s hs
          unfold szStr at h4; omega
theorem hMl_mk (m : Ml) : hMl (mkMlM m 1) 1 = 1 + 2 * m.to.length + 1 * m.body.length := by
  have h1 : hL gAd 2 (mkMlM m 1).to 1 = 1 + 2 * m.to.length := hL_mk gAd 2 1 m.to.length
  have h2 : hL mkT 1 (mkMlM m 1).body (1 + 2 * m.to.length) = 1 + 2 * m.to.length + 1 * m.body.length := hL_mk mkT 1 _ m.body.length
  unfold hMl
  rw [h1, h2, if_neg (by omega), if_neg (by omega)]
theorem SDo_lens (rs : List Ru) (m : Ml) : ((SDo rs m).1.to.length ≤ m.to.length ∨ (SDo rs m).1.to.length ≤ 4) ∧ (SDo rs m).1.body.length ≤ m.body.length := by
  unfold SDo
  repeat' split
  all_goals simp [ml0]
def c3 : Ct := ctR (lc ERu.asl (lc EMl.ag l0)) (fun p => True) (fun p => .t (.v (.bool true)))
theorem c3_eq {args : List AV} {K : AV → Prop} : c3 args K = K0 (fun p => True) (fun p => .t (.v (.bool true))) K ((lc ERu.asl (lc EMl.ag l0)).dec args) := rfl
set_option maxHeartbeats 4000000 in
theorem good3 {G : Gt} (hG : GOk Tryz.prog G ∧ GDet G) (h6 : G.e 6 = roEnt 0 c6) (h7 : G.e 7 = roEnt 0 c7) (h8 : G.e 8 = roEnt 0 c8) (h9 : G.e 9 = roEnt 0 c9) (h10 : G.e 10 = roEnt 0 c10) (h11 : G.e 11 = roEnt 0 c11) (h12 : G.e 12 = roEnt 0 c12) (h13 : G.e 13 = roEnt 0 c13) (h14 : G.e 14 = muEnt c14) (h15 : G.e 15 = muEnt c15) (h16 : G.e 16 = roEnt 0 c16) : Good Tryz.prog G.m 3 (roEnt 0 c3) := by
  refine good_run (dp := fun _ => true) (fn := Tryz.f3) (n := 2) (fun _ => rfl) (by kernel_rfl) rfl (by kernel_rfl) hmix hG (Nat.le_of_ble_eq_true rfl) (by kernel_rfl) (by decide) (fun _ _ => .v _) ?_
  have k6 : (G.e 6).kd = 0 := by rw [h6]; rfl
  have m6 : (G.e 6).ro = c6 := by rw [h6]; rfl
  have k7 : (G.e 7).kd = 0 := by rw [h7]; rfl
  have m7 : (G.e 7).ro = c7 := by rw [h7]; rfl
  have k8 : (G.e 8).kd = 0 := by rw [h8]; rfl
  have m8 : (G.e 8).ro = c8 := by rw [h8]; rfl
  have k9 : (G.e 9).kd = 0 := by rw [h9]; rfl
  have m9 : (G.e 9).ro = c9 := by rw [h9]; rfl
  have k10 : (G.e 10).kd = 0 := by rw [h10]; rfl
  have m10 : (G.e 10).ro = c10 := by rw [h10]; rfl
  have k11 : (G.e 11).kd = 0 := by rw [h11]; rfl
  have m11 : (G.e 11).ro = c11 := by rw [h11]; rfl
  have k12 : (G.e 12).kd = 0 := by rw [h12]; rfl
  have m12 : (G.e 12).ro = c12 := by rw [h12]; rfl
  have k13 : (G.e 13).kd = 0 := by rw [h13]; rfl
  have m13 : (G.e 13).ro = c13 := by rw [h13]; rfl
  have k14 : (G.e 14).kd = 2 := by rw [h14]; rfl
  have m14 : (G.e 14).mu = c14 := by rw [h14]; rfl
  have k15 : (G.e 15).kd = 2 := by rw [h15]; rfl
  have m15 : (G.e 15).mu = c15 := by rw [h15]; rfl
  have k16 : (G.e 16).kd = 0 := by rw [h16]; rfl
  have m16 : (G.e 16).ro = c16 := by rw [h16]; rfl
  rintro ⟨rs, m, ⟨⟩⟩ hpre


  by_cases hA : szL szRu rs 1048576 < 0
  · have dA := decide_eq_true hA
    simp -implicitDefEqProofs only [Tryz.f3, dA, go_sem, k6, m6, c6_eq, k7, m7, c7_eq, k8, m8, c8_eq, k9, m9, c9_eq, k10, m10, c10_eq, k11, m11, c11_eq, k12, m12, c12_eq, k13, m13, c13_eq, k14, m14, c14_eq, k15, m15, c15_eq, k16, m16, c16_eq, mlR, mlOw, AMl_dec, AMl_enc, mkMlM, List.length_map, Nat.reduceAdd, Nat.reduceMul, Nat.reduceLeDiff, Nat.reduceEqDiff, reduceCtorEq, Nat.reduceSub, Int.reduceNeg, Nat.reduceMod, Nat.reduceBEq, Nat.reduceLT]
    repeat' (first | with_reducible apply And.intro | with_reducible intro _ | (refine brB_split (fun hb => ?_) (fun hb => ?_) <;> simp -implicitDefEqProofs only [hb, go_sem, k6, m6, c6_eq, k7, m7, c7_eq, k8, m8, c8_eq, k9, m9, c9_eq, k10, m10, c10_eq, k11, m11, c11_eq, k12, m12, c12_eq, k13, m13, c13_eq, k14, m14, c14_eq, k15, m15, c15_eq, k16, m16, c16_eq, mlR, mlOw, AMl_dec, AMl_enc, mkMlM, List.length_map, Nat.reduceAdd, Nat.reduceMul, Nat.reduceLeDiff, Nat.reduceEqDiff, reduceCtorEq, Nat.reduceSub, Int.reduceNeg, Nat.reduceMod, Nat.reduceBEq, Nat.reduceLT] <;> try simp only [bOf_t, bOf_f, decide_eq_true_eq, decide_eq_false_iff_not, Bool.not_eq_true', Bool.not_eq_false', Bool.not_eq_true, Bool.not_eq_false, Decidable.not_not] at hb) | (refine aPickB_split (fun hb => ?_) (fun hb => ?_) <;> simp -implicitDefEqProofs only [hb, go_sem, k6, m6, c6_eq, k7, m7, c7_eq, k8, m8, c8_eq, k9, m9, c9_eq, k10, m10, c10_eq, k11, m11, c11_eq, k12, m12, c12_eq, k13, m13, c13_eq, k14, m14, c14_eq, k15, m15, c15_eq, k16, m16, c16_eq, mlR, mlOw, AMl_dec, AMl_enc, mkMlM, List.length_map, Nat.reduceAdd, Nat.reduceMul, Nat.reduceLeDiff, Nat.reduceEqDiff, reduceCtorEq, Nat.reduceSub, Int.reduceNeg, Nat.reduceMod, Nat.reduceBEq, Nat.reduceLT] <;> try simp only [bOf_t, bOf_f, decide_eq_true_eq, decide_eq_false_iff_not, Bool.not_eq_true', Bool.not_eq_false', Bool.not_eq_true, Bool.not_eq_false, Decidable.not_not] at hb) | (refine gB_split (fun hb => ?_) (fun hb => ?_) <;> simp -implicitDefEqProofs only [hb, go_sem, k6, m6, c6_eq, k7, m7, c7_eq, k8, m8, c8_eq, k9, m9, c9_eq, k10, m10, c10_eq, k11, m11, c11_eq, k12, m12, c12_eq, k13, m13, c13_eq, k14, m14, c14_eq, k15, m15, c15_eq, k16, m16, c16_eq, mlR, mlOw, AMl_dec, AMl_enc, mkMlM, List.length_map, Nat.reduceAdd, Nat.reduceMul, Nat.reduceLeDiff, Nat.reduceEqDiff, reduceCtorEq, Nat.reduceSub, Int.reduceNeg, Nat.reduceMod, Nat.reduceBEq, Nat.reduceLT] <;> try simp only [bOf_t, bOf_f, decide_eq_true_eq, decide_eq_false_iff_not, Bool.not_eq_true', Bool.not_eq_false', Bool.not_eq_true, Bool.not_eq_false, Decidable.not_not] at hb))
    all_goals first | rfl | omega | skip
    all_goals trace_state
  · have dA := decide_eq_false hA
    obtain ⟨a1, a2, a3⟩ := szL_ok szRu_le (by omega : 0 ≤ szL szRu rs 1048576)
    by_cases hB : szMl m (szL szRu rs 1048576) < 0
    · have dB := decide_eq_true hB
      simp -implicitDefEqProofs only [Tryz.f3, dA, dB, go_sem, k6, m6, c6_eq, k7, m7, c7_eq, k8, m8, c8_eq, k9, m9, c9_eq, k10, m10, c10_eq, k11, m11, c11_eq, k12, m12, c12_eq, k13, m13, c13_eq, k14, m14, c14_eq, k15, m15, c15_eq, k16, m16, c16_eq, mlR, mlOw, AMl_dec, AMl_enc, mkMlM, List.length_map, Nat.reduceAdd, Nat.reduceMul, Nat.reduceLeDiff, Nat.reduceEqDiff, reduceCtorEq, Nat.reduceSub, Int.reduceNeg, Nat.reduceMod, Nat.reduceBEq, Nat.reduceLT]
      repeat' (first | with_reducible apply And.intro | with_reducible intro _ | (refine brB_split (fun hb => ?_) (fun hb => ?_) <;> simp -implicitDefEqProofs only [hb, go_sem, k6, m6, c6_eq, k7, m7, c7_eq, k8, m8, c8_eq, k9, m9, c9_eq, k10, m10, c10_eq, k11, m11, c11_eq, k12, m12, c12_eq, k13, m13, c13_eq, k14, m14, c14_eq, k15, m15, c15_eq, k16, m16, c16_eq, mlR, mlOw, AMl_dec, AMl_enc, mkMlM, List.length_map, Nat.reduceAdd, Nat.reduceMul, Nat.reduceLeDiff, Nat.reduceEqDiff, reduceCtorEq, Nat.reduceSub, Int.reduceNeg, Nat.reduceMod, Nat.reduceBEq, Nat.reduceLT] <;> try simp only [bOf_t, bOf_f, decide_eq_true_eq, decide_eq_false_iff_not, Bool.not_eq_true', Bool.not_eq_false', Bool.not_eq_true, Bool.not_eq_false, Decidable.not_not] at hb) | (refine aPickB_split (fun hb => ?_) (fun hb => ?_) <;> simp -implicitDefEqProofs only [hb, go_sem, k6, m6, c6_eq, k7, m7, c7_eq, k8, m8, c8_eq, k9, m9, c9_eq, k10, m10, c10_eq, k11, m11, c11_eq, k12, m12, c12_eq, k13, m13, c13_eq, k14, m14, c14_eq, k15, m15, c15_eq, k16, m16, c16_eq, mlR, mlOw, AMl_dec, AMl_enc, mkMlM, List.length_map, Nat.reduceAdd, Nat.reduceMul, Nat.reduceLeDiff, Nat.reduceEqDiff, reduceCtorEq, Nat.reduceSub, Int.reduceNeg, Nat.reduceMod, Nat.reduceBEq, Nat.reduceLT] <;> try simp only [bOf_t, bOf_f, decide_eq_true_eq, decide_eq_false_iff_not, Bool.not_eq_true', Bool.not_eq_false', Bool.not_eq_true, Bool.not_eq_false, Decidable.not_not] at hb) | (refine gB_split (fun hb => ?_) (fun hb => ?_) <;> simp -implicitDefEqProofs only [hb, go_sem, k6, m6, c6_eq, k7, m7, c7_eq, k8, m8, c8_eq, k9, m9, c9_eq, k10, m10, c10_eq, k11, m11, c11_eq, k12, m12, c12_eq, k13, m13, c13_eq, k14, m14, c14_eq, k15, m15, c15_eq, k16, m16, c16_eq, mlR, mlOw, AMl_dec, AMl_enc, mkMlM, List.length_map, Nat.reduceAdd, Nat.reduceMul, Nat.reduceLeDiff, Nat.reduceEqDiff, reduceCtorEq, Nat.reduceSub, Int.reduceNeg, Nat.reduceMod, Nat.reduceBEq, Nat.reduceLT] <;> try simp only [bOf_t, bOf_f, decide_eq_true_eq, decide_eq_false_iff_not, Bool.not_eq_true', Bool.not_eq_false', Bool.not_eq_true, Bool.not_eq_false, Decidable.not_not] at hb))
      all_goals first | rfl | omega | skip
      all_goals trace_state
    · have dB := decide_eq_false hB
      obtain ⟨b1, b2, b3, b4, b5⟩ := szMl_ok (by omega : 0 ≤ szMl m (szL szRu rs 1048576))
      have hsz : Szs rs m := ⟨fun r hr => by
        obtain ⟨k, hk, h4⟩ := a3 r hr
        have := szRu_ok h4; omega, fun a ha => by have := b4 a ha; omega, by omega, fun s hs => by have := b5 s hs; omega⟩
      have hln := SDo_lens rs m
      have hmk : hMl { frm := (SDo rs m).1.frm, to := mkL gAd 2 1 (SDo rs m).1.to.length, body := mkL mkT 1 (1 + 2 * (SDo rs m).1.to.length) (SDo rs m).1.body.length } 1 = 1 + 2 * (SDo rs m).1.to.length + 1 * (SDo rs m).1.body.length := hMl_mk (SDo rs m).1
      have hok : szL szRu rs 1048576 < 0 ∨ szMl m (szL szRu rs 1048576) < 0 ∨ True := .inr (.inr trivial)
      simp -implicitDefEqProofs only [Tryz.f3, dA, dB, go_sem, k6, m6, c6_eq, k7, m7, c7_eq, k8, m8, c8_eq, k9, m9, c9_eq, k10, m10, c10_eq, k11, m11, c11_eq, k12, m12, c12_eq, k13, m13, c13_eq, k14, m14, c14_eq, k15, m15, c15_eq, k16, m16, c16_eq, mlR, mlOw, AMl_dec, AMl_enc, mkMlM, List.length_map, Nat.reduceAdd, Nat.reduceMul, Nat.reduceLeDiff, Nat.reduceEqDiff, reduceCtorEq, Nat.reduceSub, Int.reduceNeg, Nat.reduceMod, Nat.reduceBEq, Nat.reduceLT]
      repeat' (first | with_reducible apply And.intro | with_reducible intro _ | (refine brB_split (fun hb => ?_) (fun hb => ?_) <;> simp -implicitDefEqProofs only [hb, go_sem, k6, m6, c6_eq, k7, m7, c7_eq, k8, m8, c8_eq, k9, m9, c9_eq, k10, m10, c10_eq, k11, m11, c11_eq, k12, m12, c12_eq, k13, m13, c13_eq, k14, m14, c14_eq, k15, m15, c15_eq, k16, m16, c16_eq, mlR, mlOw, AMl_dec, AMl_enc, mkMlM, List.length_map, Nat.reduceAdd, Nat.reduceMul, Nat.reduceLeDiff, Nat.reduceEqDiff, reduceCtorEq, Nat.reduceSub, Int.reduceNeg, Nat.reduceMod, Nat.reduceBEq, Nat.reduceLT] <;> try simp only [bOf_t, bOf_f, decide_eq_true_eq, decide_eq_false_iff_not, Bool.not_eq_true', Bool.not_eq_false', Bool.not_eq_true, Bool.not_eq_false, Decidable.not_not] at hb) | (refine aPickB_split (fun hb => ?_) (fun hb => ?_) <;> simp -implicitDefEqProofs only [hb, go_sem, k6, m6, c6_eq, k7, m7, c7_eq, k8, m8, c8_eq, k9, m9, c9_eq, k10, m10, c10_eq, k11, m11, c11_eq, k12, m12, c12_eq, k13, m13, c13_eq, k14, m14, c14_eq, k15, m15, c15_eq, k16, m16, c16_eq, mlR, mlOw, AMl_dec, AMl_enc, mkMlM, List.length_map, Nat.reduceAdd, Nat.reduceMul, Nat.reduceLeDiff, Nat.reduceEqDiff, reduceCtorEq, Nat.reduceSub, Int.reduceNeg, Nat.reduceMod, Nat.reduceBEq, Nat.reduceLT] <;> try simp only [bOf_t, bOf_f, decide_eq_true_eq, decide_eq_false_iff_not, Bool.not_eq_true', Bool.not_eq_false', Bool.not_eq_true, Bool.not_eq_false, Decidable.not_not] at hb) | (refine gB_split (fun hb => ?_) (fun hb => ?_) <;> simp -implicitDefEqProofs only [hb, go_sem, k6, m6, c6_eq, k7, m7, c7_eq, k8, m8, c8_eq, k9, m9, c9_eq, k10, m10, c10_eq, k11, m11, c11_eq, k12, m12, c12_eq, k13, m13, c13_eq, k14, m14, c14_eq, k15, m15, c15_eq, k16, m16, c16_eq, mlR, mlOw, AMl_dec, AMl_enc, mkMlM, List.length_map, Nat.reduceAdd, Nat.reduceMul, Nat.reduceLeDiff, Nat.reduceEqDiff, reduceCtorEq, Nat.reduceSub, Int.reduceNeg, Nat.reduceMod, Nat.reduceBEq, Nat.reduceLT] <;> try simp only [bOf_t, bOf_f, decide_eq_true_eq, decide_eq_false_iff_not, Bool.not_eq_true', Bool.not_eq_false', Bool.not_eq_true, Bool.not_eq_false, Decidable.not_not] at hb))
      all_goals first | rfl | omega | (simp; done) | cases hb | (rw [mkL_len]; omega) | (rw [hmk] at hb; omega) | skip
      all_goals (rw [mkL_len]; omega)

end Go.V
namespace Go.V
open Go Go.Proofs Go.ChangeShapes Go.WideShapes Go.ChangeAt Go.RowKit
set_option maxRecDepth 100000
section
variable {H : Type} {enc : TypeId × Value → H} {W : World} {P : Program}

/-- Every block of it. -/
def pW (W : World) : Nat → Prop := fun b => b < W.heap.size
/-- Whatever is read at this type reads as such cells. -/
def Rd (P : Program) (W : World) (enc : TypeId × Value → H) (t : TypeId) (q : List T → Prop) : Prop :=
  ∀ (n : Nat) (cs : List Value) (x : DataW H × List MemPlace), DataW.trod enc P W 0 (fun _ => true) true n t cs = some x → ∃ ts, q ts ∧ RoL W (pW W) ts cs

theorem Rd.str {t : TypeId} (u : P.underlying t = some .string) : Rd P W enc t fun ts => ∃ s, ts = [.v (.string s)] := fun n cs x h => by
  obtain ⟨s, rfl, _, hs⟩ := DataW.trod_string u h
  exact ⟨_, ⟨s, rfl⟩, .cons _ _ _ _ (.v _ hs) .nil⟩
theorem Rd.int {t : TypeId} (u : P.underlying t = some (.int .i64)) : Rd P W enc t fun ts => ∃ k, ts = [.v (.int .i64 k)] := fun n cs x h => by
  obtain ⟨k, rfl, _, hs⟩ := DataW.trod_int u h
  exact ⟨_, ⟨k, rfl⟩, .cons _ _ _ _ (.v _ trivial) .nil⟩
/-- A field of a struct. -/
theorem fieldAt {fs : Array Field} {l : List (TypeId × Nat)} (hl : (fs.toList.map fun f => (f.type, f.offset)) = l) {i : Nat} {t : TypeId} {o : Nat} (hi : l[i]? = some (t, o)) : ∃ f, fs[i]? = some f ∧ f.type = t ∧ f.offset = o := by
  rw [← hl, List.getElem?_map] at hi
  cases hf : fs.toList[i]? with
  | none => rw [hf] at hi; cases hi
  | some f =>
    rw [hf] at hi
    simp only [Option.map_some, Option.some.injEq, Prod.mk.injEq] at hi
    exact ⟨f, by rw [← Array.getElem?_toList]; exact hf, hi.1, hi.2⟩
theorem Rd.field {t : TypeId} {fs : Array Field} (u : P.underlying t = some (.struct fs)) {n : Nat} {cs : List Value} {x : DataW H × List MemPlace} (h : DataW.trod enc P W 0 (fun _ => true) true n t cs = some x)
    {l : List (TypeId × Nat)} (hl : (fs.toList.map fun f => (f.type, f.offset)) = l) {i : Nat} {ft : TypeId} {o k : Nat} (hi : l[i]? = some (ft, o)) (hk : P.cellsOf ft = k) {q : List T → Prop} (hr : Rd P W enc ft q) :
    ∃ ts, q ts ∧ RoL W (pW W) ts ((cs.drop o).take k) := by
  obtain ⟨xs, m, rfl, _, _, hxs, hf⟩ := DataW.trod_struct u h
  obtain ⟨f, h1, h2, h3⟩ := fieldAt hl hi
  have h4 := hf i f h1
  rw [h2, h3, hk] at h4
  have hlt : i < xs.length := by
    rw [hxs]
    exact (Array.getElem?_eq_some_iff.1 h1).1
  rw [List.getElem?_eq_getElem hlt] at h4
  exact hr _ _ _ h4
theorem Rd.len {t : TypeId} {fs : Array Field} (u : P.underlying t = some (.struct fs)) {n : Nat} {cs : List Value} {x : DataW H × List MemPlace} (h : DataW.trod enc P W 0 (fun _ => true) true n t cs = some x) : cs.length = P.cellsOf t := by
  obtain ⟨xs, m, rfl, _, h3, _, _⟩ := DataW.trod_struct u h
  exact h3
theorem Rd.slice {α : Type} (E : Enc α) {t e : TypeId} (u : P.underlying t = some (.slice e)) (hn : P.cellsOf e = E.n) (h0 : 0 < E.n) (he : Rd P W enc e fun ts => ∃ a, ts = E.enc a) :
    Rd P W enc t fun ts => ∃ xs : List α, ts = [.sl (xs.map E.enc)] := fun n cs x h => by
  rcases DataW.trod_slice u h with ⟨rfl, _⟩ | ⟨a, len, cap, elems, rest, m, rfl, rfl, _, _, hlc, hcm, hel, hes, _⟩
  · exact ⟨_, ⟨[], rfl⟩, .cons _ _ _ _ .nil .nil⟩
  · rw [hn] at hes
    have key : ∀ k, k ≤ len → ∃ (xs : List α) (vs : List Value), xs.length = k ∧ vs.length = k * E.n ∧ RoL W (pW W) (xs.map E.enc).flatten vs ∧ (0 < k → a.block < W.heap.size) ∧ ∀ j v, vs[j]? = some v → W.cell? (a.add j) = some v := fun k => by
      induction k with
      | zero => exact fun _ => ⟨[], [], rfl, by simp, .nil, fun h => absurd h (Nat.lt_irrefl _), fun j v hj => by simp at hj⟩
      | succ k ih =>
        intro hk
        obtain ⟨xs, vs, h1, h2, h3, h4, h5⟩ := ih (by omega)
        have h6 := hes k (by omega)
        rw [List.getElem?_eq_getElem (by omega)] at h6
        obtain ⟨cs, h7, h8⟩ := Option.bind_eq_some_iff.1 h6
        obtain ⟨ts, ⟨y, rfl⟩, h9⟩ := he _ _ _ h8
        obtain ⟨q1, q2, q3⟩ := World.cells?_some h7
        have hb : a.block < W.heap.size := by
          have := World.cells?_block h7 h0
          rwa [block_add] at this
        refine ⟨xs ++ [y], vs ++ cs, by simp [h1], ?_, ?_, fun _ => hb, fun j v hj => ?_⟩
        · have : cs.length = E.n := by rw [← h9.len, E.len]
          rw [List.length_append, h2, this, Nat.succ_mul]
        · rw [List.map_append, List.flatten_append]
          exact h3.append (by simpa using h9)
        · by_cases hj2 : j < vs.length
          · rw [List.getElem?_append_left hj2] at hj
            exact h5 j v hj
          · rw [List.getElem?_append_right (by omega)] at hj
            have hjl : j - vs.length < E.n := by
              have := (List.getElem?_eq_some_iff.1 hj).1
              have h10 : cs.length = E.n := by rw [← h9.len, E.len]
              omega
            have := q3 (j - vs.length) hjl
            rw [add_add'] at this
            rw [show j = k * E.n + (j - vs.length) from by omega, this]
            exact hj
    obtain ⟨xs, vs, h1, h2, h3, h4, h5⟩ := key len (Nat.le_refl _)
    refine ⟨_, ⟨xs, rfl⟩, .cons _ _ _ _ (.sl E.n _ a len cap vs (by simp [h1]) hlc hcm (fun hne => ?_) (fun c hc => ?_) h5 h3) .nil⟩
    · refine h4 ?_
      rcases Nat.eq_zero_or_pos len with h | h
      · exact absurd (by rw [List.eq_nil_of_length_eq_zero (h1.trans h)]; rfl) hne
      · exact h
    · obtain ⟨y, _, rfl⟩ := List.mem_map.1 hc
      exact E.len y
end
end Go.V
namespace Go.Proofs.YtljiekcdfikafaaGreatDoor
open Go Go.Proofs Go.ChangeShapes Go.WideShapes Go.ChangeAt Go.RowKit
set_option maxRecDepth 100000
theorem own : ownKnob Tryz.prog.godebug = none := by kernel_rfl
/-- The cells that hold such data. -/
def flatD : Nat → DataW Unit → List Value
  | 0, _ => []
  | _ + 1, .lit (.int k v) => [.int k v]
  | n + 1, .agg xs => xs.flatMap (flatD n)
  | _ + 1, _ => []
noncomputable def gOf (n : String) : Nat := (Tryz.prog.globalNamed n).getD 0
noncomputable def layAt (n : String) (d : DataW Unit) (h : Array Obj) : Array Obj := h.modify (gOf n) fun
  | .cells _ t frozen => .cells (flatD 5 d).toArray t frozen
  | o => o
noncomputable def laidWorld (os : Os) : World :=
  { World.holding Tryz.prog os ⟨#[], #[], []⟩ with heap := layAt "unicode/utf8.first" Rows.laid_unicode_utf8_first (layAt "unicode/utf8.acceptRanges" Rows.laid_unicode_utf8_acceptRanges (World.holding Tryz.prog os ⟨#[], #[], []⟩).heap) }
noncomputable def args0 : Array Value := #[.slice none 0 0, .agg #[.string ⟨#[]⟩, .string ⟨#[]⟩, .slice none 0 0, .slice none 0 0]]
theorem laid_met (os : Os) : laidMet Tryz.prog Rows.fnExactSieveDoRow.laid ((laidWorld os).forCall (fun _ _ => 0) ⟨#[], args0, []⟩).memory :=
  laidMet_of_run' 8 (by kernel_rfl) (by kernel_rfl)
theorem reads (os : Os) {H : Type} (enc : TypeId × Value → H) : ∃ places, DataW.whole enc Tryz.prog ((laidWorld os).forCall (fun _ _ => 0) ⟨#[], args0, []⟩).memory Tryz.f3.params.toList Rows.fnExactSieveDoSpec.vars false args0.toList 8 = some ([.nil, .agg [.agg [.lit (.string []), .lit (.string [])], .nil, .nil]], [], places) :=
  ⟨[], by kernel_rfl⟩
theorem func3 : Tryz.prog.funcs[3]? = some Tryz.f3 := by kernel_rfl
/-- What every call gives. -/
def Every : Prop := ∀ (H : Type) (enc : TypeId × Value → H) (W : World) (base : Nat) (args : Array Value) (ds gs : List (DataW H)) (before : List MemPlace)
    (_ : ∀ (j : Nat) t v, Tryz.f3.params[j]? = some t → args[j]? = some v → Value.okWide Tryz.prog W .any base t v)
    (_ : DataW.Whole enc Tryz.prog Tryz.f3.params.toList Rows.fnExactSieveDoSpec.vars false W args.toList ds gs before) (_ : W.ShapedOpen Tryz.prog),
    Calls Tryz.prog 3 args W fun e W' => ∃ v, e = .returned v ∧ Rows.fnExactSieveDoSpec.post enc Tryz.prog Tryz.f3 false true false false W args v W'
theorem lifted (hE : Every) (os : Os) (started : os.Started) (H : Type) (enc : TypeId × Value → H) (F : Stop.Interp) :
    ReturnsInHanded {} Tryz.checked os 3 .any ((OpenSpec.ofChange Rows.fnExactSieveDoSpec).preRow enc Tryz.prog Tryz.f3 Rows.fnExactSieveDoRow.domain false Rows.fnExactSieveDoRow.laid) (((OpenSpec.ofChange Rows.fnExactSieveDoSpec).at F).post enc Tryz.prog Tryz.f3 false true false false) := by
  obtain ⟨places, hx⟩ := reads os enc
  refine returnsInHanded_of_row (C := Tryz.checked) (s := OpenSpec.ofChange Rows.fnExactSieveDoSpec) own started (by kernel_rfl) func3
    (witness_row_at (enc := enc) (C := Tryz.checked) false (laidWorld os) args0 rfl (by kernel_rfl) (by kernel_rfl) (by kernel_rfl)
      (OpenSpec.preRow_of_cond 8 hx (by kernel_rfl) (fun k hk => by cases hk) (by kernel_rfl) (laid_met os))) ?_
  intro W base args ds gs before hval hW _ _ _ _ hS _
  exact hE H enc W base args ds gs before hval hW hS
theorem said (hE : Every) : Rows.FnExactSieveDoSaid :=
  OpenClaim.holds_of_cond 3 Tryz.f3 rfl rfl rfl rfl rfl rfl rfl ⟨rfl, rfl, rfl, rfl, rfl⟩ rfl rfl rfl rfl rfl (by kernel_rfl) func3 (by kernel_rfl)
    (of_decide_eq_true (by kernel_rfl)) (by unfold Func.isWrapper; first | (rw [if_pos (by decide +kernel)]; kernel_rfl) | (rw [if_neg (by decide +kernel)]; exact ⟨rfl, rfl⟩))
    (fun os started H enc _ F => by rw [OpenClaim.pre_eq_preRow]; exact lifted hE os started H enc F)
theorem params3 : Tryz.f3.params = #[22, 28] := rfl
/-- No parameter wants a stand-in; the program's own looks are off. -/
theorem plain (f : FuncId) (fn : Func) (hf : Tryz.pinned.checked.prog.funcNamed "loop.example/satchel/laws.FnExactSieveDo" = some f) (hfn : Tryz.pinned.checked.prog.funcs[f]? = some fn) :
    false = Tryz.pinned.checked.prog.looks [] ∧ ∀ (j : Nat) t, fn.params[j]? = some t → Tryz.pinned.checked.prog.wantsStandIn t = false := by
  obtain rfl : f = 3 := Option.some.inj ((show Tryz.prog.funcNamed "loop.example/satchel/laws.FnExactSieveDo" = some 3 by kernel_rfl).symm.trans hf) |>.symm
  obtain rfl : fn = Tryz.f3 := (Option.some.inj (func3.symm.trans hfn)).symm
  refine ⟨by kernel_rfl, fun j t ht => ?_⟩
  rw [params3] at ht
  have hm : t ∈ [22, 28] := by simpa using Array.mem_of_getElem? ht
  have hall : ([22, 28].all fun u => !Tryz.prog.wantsStandIn u) = true := by kernel_rfl
  exact (show Tryz.prog.wantsStandIn t = false by simpa using List.all_eq_true.1 hall t hm)
theorem card_of (hE : Every) : Rows.FnExactSieveDoCardSaid :=
  Claim7.holds_tied_plain_at .later [] _ _ _ _ (said hE) (fun _ h => by cases h) (by kernel_rfl) (fun _ h => by cases h) fnExactSieveDo_row_tie rfl ⟨rfl, rfl⟩ (by kernel_rfl) rfl plain (by kernel_rfl)
end Go.Proofs.YtljiekcdfikafaaGreatDoor
namespace Go.V
open Go Go.Proofs Go.ChangeShapes Go.WideShapes Go.ChangeAt Go.RowKit
set_option maxRecDepth 100000
set_option linter.unusedVariables false
set_option maxHeartbeats 4000000 in
theorem con3 (m : Int) (rs : List Ru) (ml : Ml) : Con Tryz.prog m 3 ((lc ERu.asl (lc EMl.ag l0)).enc (rs, ml, ())) ((lc ERu.asl (lc EMl.ag l0)).enc (rs, ml, ())) (.t (.v (.bool true))) := by
  have g0 : GOk Tryz.prog (Gof m []) ∧ GDet (Gof m []) := GOk_nil
  have g1 := GOk_cons g0 (good18 g0)
  have g2 := GOk_cons g1 (good30 g1)
  have g3 := GOk_cons g2 (good29 g2 rfl)
  have g4 := GOk_cons g3 (good28 g3 rfl)
  have g5 := GOk_cons g4 (good6 g4 rfl)
  have g6 := GOk_cons g5 (good7 g5 rfl rfl rfl)
  have g7 := GOk_cons g6 (good37 g6)
  have g8 := GOk_cons g7 (good21 g7)
  have g9 := GOk_cons g8 (good36 g8 rfl)
  have g10 := GOk_cons g9 (good10 g9 rfl rfl rfl)
  have g11 := GOk_cons g10 (good35 g10 rfl)
  have g12 := GOk_cons g11 (good9 g11 rfl)
  have g13 := GOk_cons g12 (good44 g12)
  have g14 := GOk_cons g13 (good42 g13)
  have g15 := GOk_cons g14 (good43 g14 rfl)
  have g16 := GOk_cons g15 (good12 g15 rfl rfl rfl)
  have g17 := GOk_cons g16 (good45 g16 rfl)
  have g18 := GOk_cons g17 (good13 g17 rfl)
  have g19 := GOk_cons g18 (good46 g18)
  have g20 := GOk_cons g19 (good50 g19 rfl)
  have g21 := GOk_cons g20 (good49 g20 rfl)
  have g22 := GOk_cons g21 (good16 g21 rfl rfl)
  have g23 := GOk_cons g22 (good48 g22 rfl)
  have g24 := GOk_cons g23 (good47 g23 rfl)
  have g25 := GOk_cons g24 (good14 g24 rfl)
  have g26 := GOk_cons g25 (good15 g25 rfl rfl)
  have g27 := GOk_cons g26 (good66 g26)
  have g28 := GOk_cons g27 (good106 g27 rfl)
  have g29 := GOk_cons g28 (good70 g28)
  have g30 := GOk_cons g29 (good105 g29)
  have g31 := GOk_cons g30 (good71 g30 rfl rfl)
  have g32 := GOk_cons g31 (good72 g31 rfl rfl)
  have g33 := GOk_cons g32 (good73 g32)
  have g34 := GOk_cons g33 (good107 g33)
  have g35 := GOk_cons g34 (good74 g34 rfl)
  have g36 := GOk_cons g35 (good108 g35)
  have g37 := GOk_cons g36 (good34 g36)
  have g38 := GOk_cons g37 (good32 g37 rfl rfl rfl rfl)
  have g39 := GOk_cons g38 (good75 g38 rfl rfl rfl)
  have g40 := GOk_cons g39 (good33 g39 rfl)
  have g41 := GOk_cons g40 (good31 g40 rfl rfl rfl rfl rfl)
  have g42 := GOk_cons g41 (good8 g41 rfl rfl rfl rfl)
  have g43 := GOk_consX g42 (good156 m)
  have g44 := GOk_consX g43 (good152 m)
  have g45 := GOk_consX g44 (good148 m)
  have g46 := GOk_cons g45 (good147 g45 rfl)
  have g47 := GOk_cons g46 (good149 g46)
  have g48 := GOk_cons g47 (good157 g47)
  have g49 := GOk_cons g48 (good150 g48 rfl)
  have g50 := GOk_cons g49 (good140 g49 rfl rfl rfl rfl)
  have g51 := GOk_cons g50 (good127 g50 rfl)
  have g52 := GOk_cons g51 (good118 g51 rfl)
  have g53 := GOk_cons g52 (good142 g52 rfl)
  have g54 := GOk_cons g53 (good139 g53)
  have g55 := GOk_cons g54 (good126 g54 rfl)
  have g56 := GOk_cons g55 (good131 g55 rfl rfl)
  have g57 := GOk_cons g56 (good143 g56)
  have g58 := GOk_cons g57 (good136 g57 rfl)
  have g59 := GOk_cons g58 (good135 g58 rfl)
  have g60 := GOk_cons g59 (good134 g59)
  have g61 := GOk_cons g60 (good124 g60 rfl rfl rfl)
  have g62 := GOk_cons g61 (good123 g61 rfl)
  have g63 := GOk_cons g62 (good82 g62)
  have g64 := GOk_cons g63 (good110 g63)
  have g65 := GOk_cons g64 (good112 g64 rfl rfl)
  have g66 := GOk_cons g65 (good109 g65 rfl rfl)
  have g67 := GOk_cons g66 (good80 g66 rfl rfl)
  have g68 := GOk_cons g67 (good111 g67)
  have g69 := GOk_cons g68 (good81 g68 rfl rfl)
  have g70 := GOk_cons g69 (good116 g69 rfl rfl)
  have g71 := GOk_cons g70 (good79 g70 rfl)
  have g72 := GOk_cons g71 (good115 g71 rfl)
  have g73 := GOk_cons g72 (good117 g72 rfl)
  have g74 := GOk_cons g73 (good125 g73 rfl rfl)
  have g75 := GOk_cons g74 (good114 g74 rfl)
  have g76 := GOk_cons g75 (good113 g75 rfl)
  have g77 := GOk_cons g76 (good83 g76 rfl)
  have g78 := GOk_cons g77 (good85 g77 rfl)
  have g79 := GOk_cons g78 (good84 g78)
  have g80 := GOk_cons g79 (good39 g79 rfl rfl rfl rfl rfl)
  have g81 := GOk_cons g80 (good90 g80 rfl rfl rfl)
  have g82 := GOk_cons g81 (good89 g81 rfl)
  have g83 := GOk_cons g82 (good78 g82 rfl rfl rfl rfl)
  have g84 := GOk_cons g83 (good77 g83 rfl)
  have g85 := GOk_cons g84 (good88 g84 rfl rfl)
  have g86 := GOk_cons g85 (good76 g85 rfl)
  have g87 := GOk_cons g86 (good38 g86 rfl)
  have g88 := GOk_cons g87 (good41 g87 rfl rfl rfl)
  have g89 := GOk_cons g88 (good86 g88)
  have g90 := GOk_cons g89 (good87 g89)
  have g91 := GOk_cons g90 (good40 g90 rfl rfl)
  have g92 := GOk_cons g91 (good11 g91 rfl rfl rfl rfl)
  have hg := good3 g92 rfl rfl rfl rfl rfl rfl rfl rfl rfl rfl rfl
  obtain ⟨res, h1, _, h3, _⟩ := hg.ro ((lc ERu.asl (lc EMl.ag l0)).enc (rs, ml, ())) (fun r => r = .t (.v (.bool true))) (by
    show c3 _ _
    rw [c3_eq, (lc ERu.asl (lc EMl.ag l0)).ed]
    exact ⟨trivial, rfl⟩)
  rw [h1] at h3
  exact h3

section
variable {H : Type} {enc : TypeId × Value → H} {W : World}
noncomputable def fsOf (t : TypeId) : Array Field := match Tryz.prog.underlying t with | some (.struct fs) => fs | _ => #[]
theorem v9 : Tryz.prog.underlying 9 = some .string := by kernel_rfl
theorem v3 : Tryz.prog.underlying 3 = some (.int .i64) := by kernel_rfl
theorem v24 : Tryz.prog.underlying 24 = some (.struct (fsOf 24)) := by kernel_rfl
theorem v64 : Tryz.prog.underlying 64 = some (.struct (fsOf 64)) := by kernel_rfl
theorem v28 : Tryz.prog.underlying 28 = some (.struct (fsOf 28)) := by kernel_rfl
theorem v22 : Tryz.prog.underlying 22 = some (.slice 64) := by kernel_rfl
theorem v25 : Tryz.prog.underlying 25 = some (.slice 24) := by kernel_rfl
theorem v26 : Tryz.prog.underlying 26 = some (.slice 9) := by kernel_rfl
theorem l24 : ((fsOf 24).toList.map fun f => (f.type, f.offset)) = [(9, 0), (9, 1)] := by kernel_rfl
theorem l64 : ((fsOf 64).toList.map fun f => (f.type, f.offset)) = [(3, 0), (9, 1), (3, 2), (24, 3)] := by kernel_rfl
theorem l28 : ((fsOf 28).toList.map fun f => (f.type, f.offset)) = [(24, 0), (25, 2), (26, 3)] := by kernel_rfl
theorem w3 : Tryz.prog.cellsOf 3 = 1 := by kernel_rfl
theorem w9 : Tryz.prog.cellsOf 9 = 1 := by kernel_rfl
theorem w24 : Tryz.prog.cellsOf 24 = 2 := by kernel_rfl
theorem w25 : Tryz.prog.cellsOf 25 = 1 := by kernel_rfl
theorem w26 : Tryz.prog.cellsOf 26 = 1 := by kernel_rfl
theorem w64 : Tryz.prog.cellsOf 64 = 5 := by kernel_rfl
theorem w28 : Tryz.prog.cellsOf 28 = 4 := by kernel_rfl
theorem cut4 {α : Type} {cs : List α} (a b c : Nat) (h : cs.length = a + b + c) : cs = (cs.drop 0).take a ++ ((cs.drop a).take b ++ (cs.drop (a + b)).take c) := by
  rw [List.drop_zero]
  conv => lhs; rw [← List.take_append_drop a cs]
  congr 1
  conv => lhs; rw [← List.take_append_drop b (cs.drop a)]
  congr 1
  rw [List.drop_drop, List.take_of_length_le]
  rw [List.length_drop]; omega
theorem rdAd : Rd Tryz.prog W enc 24 fun ts => ∃ a, ts = EAd.enc a := fun n cs x h => by
  have hl := Rd.len v24 h
  rw [w24] at hl
  obtain ⟨_, ⟨a, rfl⟩, h1⟩ := Rd.field v24 h l24 (i := 0) rfl w9 (Rd.str v9)
  obtain ⟨_, ⟨b, rfl⟩, h2⟩ := Rd.field v24 h l24 (i := 1) rfl w9 (Rd.str v9)
  refine ⟨_, ⟨⟨a, b⟩, rfl⟩, ?_⟩
  have := cut4 (cs := cs) 1 1 0 (by omega)
  rw [this]
  exact h1.append (h2.append .nil)
theorem rdRu : Rd Tryz.prog W enc 64 fun ts => ∃ a, ts = ERu.enc a := fun n cs x h => by
  have hl := Rd.len v64 h
  rw [w64] at hl
  obtain ⟨_, ⟨a, rfl⟩, h1⟩ := Rd.field v64 h l64 (i := 0) rfl w3 (Rd.int v3)
  obtain ⟨_, ⟨b, rfl⟩, h2⟩ := Rd.field v64 h l64 (i := 1) rfl w9 (Rd.str v9)
  obtain ⟨_, ⟨c, rfl⟩, h3⟩ := Rd.field v64 h l64 (i := 2) rfl w3 (Rd.int v3)
  obtain ⟨_, ⟨d, rfl⟩, h4⟩ := Rd.field v64 h l64 (i := 3) rfl w24 rdAd
  refine ⟨_, ⟨⟨a, b, c, d⟩, rfl⟩, ?_⟩
  have e1 := cut4 (cs := cs) 1 1 3 (by omega)
  have e2 := cut4 (cs := cs.drop 2) 1 2 0 (by rw [List.length_drop]; omega)
  rw [List.drop_drop, List.drop_drop] at e2
  have e3 : (cs.drop 2).take 3 = cs.drop 2 := List.take_of_length_le (by rw [List.length_drop]; omega)
  rw [e1, e3, e2]
  exact h1.append (h2.append (h3.append (h4.append .nil)))
theorem rdMl : Rd Tryz.prog W enc 28 fun ts => ∃ a, ts = EMl.enc a := fun n cs x h => by
  have hl := Rd.len v28 h
  rw [w28] at hl
  obtain ⟨_, ⟨a, rfl⟩, h1⟩ := Rd.field v28 h l28 (i := 0) rfl w24 rdAd
  obtain ⟨_, ⟨b, rfl⟩, h2⟩ := Rd.field v28 h l28 (i := 1) rfl w25 (Rd.slice EAd v25 w24 (by decide) rdAd)
  obtain ⟨_, ⟨c, rfl⟩, h3⟩ := Rd.field v28 h l28 (i := 2) rfl w26 (Rd.slice EStr v26 w9 (by decide) (fun n cs x h => by
    obtain ⟨_, ⟨s, rfl⟩, h⟩ := Rd.str v9 n cs x h
    exact ⟨_, ⟨s, rfl⟩, h⟩))
  refine ⟨_, ⟨⟨a, b, c⟩, rfl⟩, ?_⟩
  rw [cut4 (cs := cs) 2 1 1 (by omega)]
  exact h1.append (h2.append h3)
/-- The package's number, whatever it is. -/
theorem glOk_of (h : W.ShapedOpen Tryz.prog) : ∃ m, GlOk m W (pW W) := by
  obtain ⟨cs, h1, h2, h3⟩ := h.1 0 #[.int .i64 0] 3 (Nat.lt_of_lt_of_le (Nat.lt_succ_self 0) (Nat.le_of_ble_eq_true (by kernel_rfl))) (by kernel_rfl)
  obtain ⟨ts, t1, _, t3⟩ := h3 (by kernel_rfl)
  have hts : ts = [3] := Option.some.inj (t1.symm.trans (by kernel_rfl))
  subst hts
  have hsz : cs.size = 1 := h2
  have h0 : cs[0]? = some cs[0] := Array.getElem?_eq_getElem (by omega)
  obtain ⟨u, hu, hok⟩ := t3 0 _ h0
  simp at hu
  subst hu
  unfold Cell.ok at hok
  rw [v3] at hok
  generalize cs[0] = v at h0 hok
  have hb : (0 : Nat) < W.heap.size := (Array.getElem?_eq_some_iff.1 h1).1
  cases v with
  | int k n =>
    have hk : k = .i64 := hok.1
    subst hk
    refine ⟨n, .rop _ _ [.int .i64 n] (fun _ => hb) (fun j u hj => ?_) (.cons _ _ _ _ (.v _ trivial) .nil)⟩
    cases j with
    | zero =>
      simp at hj
      subst hj
      simp [World.cell?, Addr.add, glb, h1, h0]
    | succ j => simp at hj
  | _ => exact hok.elim
end
theorem every : YtljiekcdfikafaaGreatDoor.Every := by
  intro H enc W base args ds gs before hval0 hW hS
  have hval : ∀ (j : Nat) t v, Tryz.f3.params[j]? = some t → args[j]? = some v → Value.okWide Tryz.prog W .any base t v := hval0
  have hW' := hW
  obtain ⟨p, q, hA0, hV, rfl, hfz, hnd⟩ := hW
  have hA : DataW.TrodAll enc Tryz.prog W 0 (fun _ => true) true [22, 28] args.toList ds p := hA0
  rw [YtljiekcdfikafaaGreatDoor.params3] at hval
  obtain ⟨v0, v1, d0, d1, p0, p1, rfl, rfl, rfl, h0, h1⟩ := trodAll_two hA
  obtain ⟨rfl, rfl⟩ := trodVars_none hV
  have hlt : ∀ x ∈ (p0 ++ p1) ++ [], x.block < W.heap.size := fun x hx => hW'.lt x hx
  have k0 := h0
  have k1 := h1
  obtain ⟨n0, t0⟩ := h0
  obtain ⟨n1, t1⟩ := h1
  obtain ⟨_, ⟨rs, rfl⟩, r0⟩ := Rd.slice ERu v22 w64 (by decide) rdRu _ _ _ t0
  obtain ⟨_, ⟨ml, rfl⟩, r1⟩ := rdMl _ _ _ t1
  have e0 : v0.cells.toList = [v0] := by
    have := hval 0 22 v0 rfl rfl
    unfold Value.okWide at this
    rw [v22] at this
    cases v0 with
    | agg cs =>
      simp only [Cell.okWide, v22, Cell.ok] at this
    | _ => rfl
  obtain ⟨cs, rfl, _, _⟩ : ∃ cs, v1 = .agg cs ∧ cs.size = Tryz.prog.cellsOf 28 ∧ _ := by
    have := hval 1 28 v1 rfl rfl
    unfold Value.okWide at this
    rw [v28] at this
    exact this
  rw [e0] at r0
  have r0' : Ro W (pW W) (.sl (rs.map ERu.enc)) v0 := by
    cases r0 with | cons _ _ _ _ h _ => exact h
  have r1' : RoL W (pW W) (EMl.enc ml) cs.toList := r1
  obtain ⟨m, hgl⟩ := glOk_of hS
  have hargs : AHasL ρ0 W (pW W) ((lc ERu.asl (lc EMl.ag l0)).enc (rs, ml, ())) [v0, .agg cs] [] := by
    have ha : AHas ρ0 W (pW W) (.agg ((EMl.enc ml).map .t)) (.agg cs.toList.toArray) [] := .agg _ _ _ r1'.t r1'.ones
    rw [Array.toArray_toList] at ha
    exact .cons _ _ _ _ [] [] (.t _ _ r0') (.cons _ _ _ _ [] [] ha .nil)
  have hcall := con3 m rs ml W (pW W) [v0, .agg cs] [] hgl hargs .nil (fun b hb => by cases hb) (fun b hb => hb)
  refine Calls.mono hcall fun e W' hq => ?_
  obtain ⟨v, pr', G, F, he, hfr, _, _, _, _, hv, _, _⟩ := hq
  obtain ⟨rfl, _⟩ := hv.val
  have hb : Below W.heap.size W W' := ⟨hfr.os, hfr.tape, hfr.output, hfr.size, fun k hk => hfr.block k hk (by simp)⟩
  refine ⟨_, he, _, _, _, [], p0 ++ p1, [], hW', ?_, ?_, rfl, hb.frame _, fun h => by cases h⟩
  · exact trodAll_mk1 (shut_bool (show Tryz.prog.underlying 4 = some .bool by kernel_rfl) _)
  · exact trodAll_mk2 (Below.trod (by kernel_rfl) (by kernel_rfl) (of_decide_eq_true (by kernel_rfl)) k0 hb fun x hx => hlt x (by simp [hx])) (Below.trod (by kernel_rfl) (by kernel_rfl) (of_decide_eq_true (by kernel_rfl)) k1 hb fun x hx => hlt x (by simp [hx]))
end Go.V
namespace Go.Proofs.YtljiekcdfikafaaGreatDoor
theorem fnExactSieveDo_card : Rows.FnExactSieveDoCardSaid := card_of Go.V.every
end Go.Proofs.YtljiekcdfikafaaGreatDoor
