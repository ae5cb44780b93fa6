/- The row. No condition. -/
import Derived.Test.YtljiekcdfikafaaGreatDoorVB
import Derived.Test.YtljiekcdfikafaaGreatDoorProg
import Derived.KernelRfl
import Derived.Lib.IndexMore
import Derived.Lib.IndexEntry
import Derived.Lib.RabinKarpLaws
import Derived.Lib.Split
namespace Go.V
open Go Go.Proofs
theorem ty3 : tyOf Tryz.prog 3 = some ⟨.int .i64, 1, 8, [.int .i64 0]⟩ := by kernel_rfl
theorem ty4 : tyOf Tryz.prog 4 = some ⟨.bool, 1, 1, [.bool false]⟩ := by kernel_rfl
theorem ty5 : tyOf Tryz.prog 5 = some ⟨.int .u8, 1, 1, [.int .u8 0]⟩ := by kernel_rfl
theorem ty9 : tyOf Tryz.prog 9 = some ⟨.str, 1, 16, [.string ⟨#[]⟩]⟩ := by kernel_rfl
theorem ty22 : tyOf Tryz.prog 22 = some ⟨.slice 64, 1, 24, [.slice none 0 0]⟩ := by kernel_rfl
theorem ty24 : tyOf Tryz.prog 24 = some ⟨.struct [(0, 1, false), (1, 1, false)], 2, 32, [.string ⟨#[]⟩, .string ⟨#[]⟩]⟩ := by kernel_rfl
theorem ty25 : tyOf Tryz.prog 25 = some ⟨.slice 24, 1, 24, [.slice none 0 0]⟩ := by kernel_rfl
theorem ty26 : tyOf Tryz.prog 26 = some ⟨.slice 9, 1, 24, [.slice none 0 0]⟩ := by kernel_rfl
theorem ty28 : tyOf Tryz.prog 28 = some ⟨.struct [(0, 2, true), (2, 1, false), (3, 1, false)], 4, 80, [.string ⟨#[]⟩, .string ⟨#[]⟩, .slice none 0 0, .slice none 0 0]⟩ := by kernel_rfl
theorem ty31 : tyOf Tryz.prog 31 = some ⟨.struct [(0, 1, false), (1, 1, false)], 2, 32, [.string ⟨#[]⟩, .string ⟨#[]⟩]⟩ := by kernel_rfl
theorem ty32 : tyOf Tryz.prog 32 = some ⟨.slice 31, 1, 24, [.slice none 0 0]⟩ := by kernel_rfl
theorem ty34 : tyOf Tryz.prog 34 = some ⟨.struct [(0, 2, true), (2, 1, false), (3, 1, false)], 4, 80, [.string ⟨#[]⟩, .string ⟨#[]⟩, .slice none 0 0, .slice none 0 0]⟩ := by kernel_rfl
theorem ty37 : tyOf Tryz.prog 37 = some ⟨.slice 72, 1, 24, [.slice none 0 0]⟩ := by kernel_rfl
theorem ty64 : tyOf Tryz.prog 64 = some ⟨.struct [(0, 1, false), (1, 1, false), (2, 1, false), (3, 2, true)], 5, 64, [.int .i64 0, .string ⟨#[]⟩, .int .i64 0, .string ⟨#[]⟩, .string ⟨#[]⟩]⟩ := by kernel_rfl
theorem ty72 : tyOf Tryz.prog 72 = some ⟨.struct [(0, 1, false), (1, 1, false), (2, 1, false), (3, 2, true)], 5, 64, [.int .i64 0, .string ⟨#[]⟩, .int .i64 0, .string ⟨#[]⟩, .string ⟨#[]⟩]⟩ := by kernel_rfl
theorem ty118 : tyOf Tryz.prog 118 = some ⟨.slice 5, 1, 24, [.slice none 0 0]⟩ := by kernel_rfl
theorem ty134 : tyOf Tryz.prog 134 = some ⟨.map 3 4, 1, 8, [.map none]⟩ := by kernel_rfl
theorem ty136 : tyOf Tryz.prog 136 = some ⟨.map 31 4, 1, 8, [.map none]⟩ := by kernel_rfl
theorem ty153 : tyOf Tryz.prog 153 = some ⟨.arr 256 4, 256, 256, List.replicate 256 (.bool false)⟩ := by kernel_rfl
theorem ty164 : tyOf Tryz.prog 164 = some ⟨.int .u64, 1, 8, [.int .u64 0]⟩ := by kernel_rfl
theorem ty167 : tyOf Tryz.prog 167 = some ⟨.int .u32, 1, 4, [.int .u32 0]⟩ := by kernel_rfl
theorem lv31 : lvs Tryz.prog 31 = some [.s, .s] := by kernel_rfl
theorem zb4 : zeroB Tryz.prog 4 = true := by kernel_rfl
theorem hmix : Tryz.prog.follows .mixedOrders = true := by kernel_rfl

structure Ad where
  user : ByteArray
  domain : ByteArray
  deriving DecidableEq
structure Ml where
  frm : Ad
  to : List Ad
  body : List ByteArray
  deriving DecidableEq
structure Ru where
  ask : Int
  text : ByteArray
  act : Int
  to : Ad
  deriving DecidableEq
instance : Inhabited ByteArray := ⟨⟨#[]⟩⟩
instance : Inhabited Ad := ⟨⟨default, default⟩⟩
instance : Inhabited Ru := ⟨⟨0, default, 0, default⟩⟩
def encAd (a : Ad) : List T := [.v (.string a.user), .v (.string a.domain)]
def decAd : List T → Option Ad
  | [.v (.string u), .v (.string d)] => some ⟨u, d⟩
  | _ => none
def EAd : Enc Ad where
  enc := encAd
  dec := decAd
  n := 2
  ed := fun _ => rfl
  de := fun c a h => by unfold decAd at h; split at h <;> cases h; rfl
  len := fun _ => rfl
def encRu (r : Ru) : List T := [.v (.int .i64 r.ask), .v (.string r.text), .v (.int .i64 r.act), .v (.string r.to.user), .v (.string r.to.domain)]
def decRu : List T → Option Ru
  | [.v (.int .i64 a), .v (.string t), .v (.int .i64 d), .v (.string u), .v (.string o)] => some ⟨a, t, d, ⟨u, o⟩⟩
  | _ => none
def ERu : Enc Ru where
  enc := encRu
  dec := decRu
  n := 5
  ed := fun _ => rfl
  de := fun c a h => by unfold decRu at h; split at h <;> cases h; rfl
  len := fun _ => rfl
def mkMl (u d : ByteArray) : Option (List Ad) → Option (List ByteArray) → Option Ml
  | some t, some b => some ⟨⟨u, d⟩, t, b⟩
  | _, _ => none
def encMl (m : Ml) : List T := [.v (.string m.frm.user), .v (.string m.frm.domain), .sl (m.to.map encAd), .sl (m.body.map encStr)]
def decMl : List T → Option Ml
  | [.v (.string u), .v (.string d), .sl t, .sl b] => mkMl u d (EAd.decL t) (EStr.decL b)
  | _ => none
def EMl : Enc Ml where
  enc := encMl
  dec := decMl
  n := 4
  ed := fun m => by
    show mkMl m.frm.user m.frm.domain (EAd.decL (m.to.map EAd.enc)) (EStr.decL (m.body.map EStr.enc)) = _
    rw [EAd.decL_map, EStr.decL_map]; rfl
  de := fun c a h => by
    unfold decMl at h
    split at h
    · unfold mkMl at h
      split at h
      · rename_i e1 e2
        cases h
        rw [EAd.decL_inv e1, EStr.decL_inv e2]; rfl
      · cases h
    · cases h
  len := fun _ => rfl
theorem encStr_eq (a : ByteArray) : encStr a = [.v (.string a)] := rfl
theorem encAd_eq (a : Ad) : encAd a = [.v (.string a.user), .v (.string a.domain)] := rfl
theorem encRu_eq (r : Ru) : encRu r = [.v (.int .i64 r.ask), .v (.string r.text), .v (.int .i64 r.act), .v (.string r.to.user), .v (.string r.to.domain)] := rfl
theorem aIdx_str (xs : List ByteArray) (n : Int) (s : AS) (K : Kt) : aIdx 1 (xs.map encStr) n s K = (0 ≤ n ∧ n < xs.length ∧ K (.t (.rop (encStr (xs.getD n.toNat default)))) s) := aIdx_map encStr xs 1 n s K fun _ => rfl
theorem aIdx_Ad (xs : List Ad) (n : Int) (s : AS) (K : Kt) : aIdx 2 (xs.map encAd) n s K = (0 ≤ n ∧ n < xs.length ∧ K (.t (.rop (encAd (xs.getD n.toNat default)))) s) := aIdx_map encAd xs 2 n s K fun _ => rfl
theorem aIdx_Ru (xs : List Ru) (n : Int) (s : AS) (K : Kt) : aIdx 5 (xs.map encRu) n s K = (0 ≤ n ∧ n < xs.length ∧ K (.t (.rop (encRu (xs.getD n.toNat default)))) s) := aIdx_map encRu xs 5 n s K fun _ => rfl
theorem EStr_dec {b : ByteArray} : EStr.dec [.v (.string b)] = some b := rfl
theorem EAd_dec {u d : ByteArray} : EAd.dec [.v (.string u), .v (.string d)] = some ⟨u, d⟩ := rfl
theorem ERu_dec {a c : Int} {t u d : ByteArray} : ERu.dec [.v (.int .i64 a), .v (.string t), .v (.int .i64 c), .v (.string u), .v (.string d)] = some ⟨a, t, c, ⟨u, d⟩⟩ := rfl
theorem EMl_dec {u d : ByteArray} {t b : List (List T)} : EMl.dec [.v (.string u), .v (.string d), .sl t, .sl b] = mkMl u d (EAd.decL t) (EStr.decL b) := rfl
theorem decStrs (xs : List ByteArray) : EStr.decL (xs.map encStr) = some xs := EStr.decL_map xs
theorem decAds (xs : List Ad) : EAd.decL (xs.map encAd) = some xs := EAd.decL_map xs
theorem decRus (xs : List Ru) : ERu.decL (xs.map encRu) = some xs := ERu.decL_map xs
theorem decStrs0 : EStr.decL [] = some [] := rfl
theorem decAds0 : EAd.decL [] = some [] := rfl
theorem decRus0 : ERu.decL [] = some [] := rfl
theorem EStr_enc : EStr.enc = encStr := rfl
theorem EAd_enc : EAd.enc = encAd := rfl
theorem ERu_enc : ERu.enc = encRu := rfl
theorem EMl_enc (m : Ml) : EMl.enc m = [.v (.string m.frm.user), .v (.string m.frm.domain), .sl (m.to.map encAd), .sl (m.body.map encStr)] := rfl
theorem lc_enc {α β : Type} {A : AD α} {L : AL β} {a : α} {b : β} : (lc A L).enc (a, b) = A.enc a :: L.enc b := rfl
theorem l0_enc {a : Unit} : l0.enc a = [] := rfl
theorem asl_enc {α : Type} {E : Enc α} {xs : List α} : E.asl.enc xs = .t (.sl (xs.map E.enc)) := rfl
theorem ag_enc {α : Type} {E : Enc α} {a : α} : E.ag.enc a = .agg ((E.enc a).map .t) := rfl
theorem aow_enc {α : Type} {E : Enc α} {d : Bool} {n : Nat} {xs : List α} : (E.aow d n).enc xs = .o d n (xs.map E.enc) := rfl
theorem ABool_enc {b : Bool} : ABool.enc b = .t (.v (.bool b)) := rfl
theorem AInt_enc {b : Int} : AInt.enc b = .t (.v (.int .i64 b)) := rfl
theorem AU8_enc {b : Int} : AU8.enc b = .t (.v (.int .u8 b)) := rfl
theorem AStr_enc {b : ByteArray} : AStr.enc b = .t (.v (.string b)) := rfl
open Classical in
/-- Whether something is so. -/
noncomputable def bOf (p : Prop) : Bool := decide p
theorem bOf_t {p : Prop} : (bOf p = true) = p := by unfold bOf; simp
theorem bOf_f {p : Prop} : (bOf p = false) = ¬ p := by unfold bOf; simp
theorem bOf_y {p : Prop} (h : p) : bOf p = true := by rw [bOf_t]; exact h
theorem bOf_n {p : Prop} (h : ¬ p) : bOf p = false := by rw [bOf_f]; exact h
theorem bOf_d {p : Prop} [Decidable p] : bOf p = decide p := by
  by_cases h : p
  · rw [bOf_y h, decide_eq_true h]
  · rw [bOf_n h, decide_eq_false h]
theorem bOf_not {p : Prop} : (!bOf p) = bOf (¬ p) := by
  by_cases h : p
  · rw [bOf_y h, bOf_n (fun q => q h)]; rfl
  · rw [bOf_n h, bOf_y h]; rfl
theorem bOf_congr {p q : Prop} (h : p ↔ q) : bOf p = bOf q := by rw [propext h]
theorem AllV_Str (xs : List ByteArray) : AllV (xs.map encStr) = True := eq_true (AllV_map encStr (by intro a t ht; simp [encStr] at ht; exact ⟨_, ht⟩) xs)
theorem len_Str (xs : List ByteArray) : (∀ c ∈ xs.map encStr, c.length = 1) = True := eq_true fun c hc => by
  obtain ⟨a, _, rfl⟩ := List.mem_map.1 hc; rfl
theorem AllV_Ad (xs : List Ad) : AllV (xs.map encAd) = True := eq_true (AllV_map encAd (by intro a t ht; simp [encAd] at ht; rcases ht with ht | ht <;> exact ⟨_, ht⟩) xs)
theorem len_Ad (xs : List Ad) : (∀ c ∈ xs.map encAd, c.length = 2) = True := eq_true fun c hc => by
  obtain ⟨a, _, rfl⟩ := List.mem_map.1 hc; rfl
theorem AllV_Ru (xs : List Ru) : AllV (xs.map encRu) = True := eq_true (AllV_map encRu (by intro a t ht; simp [encRu] at ht; rcases ht with ht | ht | ht | ht | ht <;> exact ⟨_, ht⟩) xs)
theorem len_Ru (xs : List Ru) : (∀ c ∈ xs.map encRu, c.length = 5) = True := eq_true fun c hc => by
  obtain ⟨a, _, rfl⟩ := List.mem_map.1 hc; rfl
theorem Ad_eta (a : Ad) : (⟨a.user, a.domain⟩ : Ad) = a := rfl
theorem Ru_eta (a : Ru) : (⟨a.ask, a.text, a.act, a.to⟩ : Ru) = a := rfl
theorem Ml_eta (a : Ml) : (⟨a.frm, a.to, a.body⟩ : Ml) = a := rfl
theorem getD_drop {α : Type} [Inhabited α] {xs : List α} {i : Nat} (h : i < xs.length) : xs.drop i = xs.getD i default :: xs.drop (i + 1) := drop_getD h
end Go.V
namespace Go.V
open Go Go.Proofs
set_option maxRecDepth 100000
set_option linter.unusedSimpArgs false
set_option linter.unusedVariables false
attribute [local go_sem] aPickB.eq_1 aPickB.eq_2 aPick.eq_1 aBox.eq_1 aBox.eq_2 aAlloc.eq_1 aAlloc.eq_2 aLoadB.eq_1 aLoadB.eq_2 aLoadB.eq_3 aLoadB.eq_4 aLoadA.eq_1 aLoadA.eq_2 aLoadA.eq_3 aLoadA.eq_4 aLoadP.eq_1 aLoadP.eq_2 aLoadP.eq_3 aLoad.eq_1 aLoad.eq_2 aFAx.eq_1 aFAx.eq_2 aFAx.eq_3 aFA.eq_1 aFA.eq_2 aFx.eq_1 aF.eq_1 aF.eq_2 fld.eq_1 elT.eq_1 aIdxH.eq_1 aIdxH.eq_2 aIdxH.eq_3 aIdxH.eq_4 aIdxP.eq_1 aIdxP.eq_2 aIndexAddr.eq_1 aIndexAddr.eq_2 aIndexAddr.eq_3 isStr.eq_1 aIndex.eq_1 aSlStr.eq_1 aSlRo.eq_1 aSlZ.eq_1 aSlZ.eq_2 aSlice.eq_1 aSlice.eq_2 aSlice.eq_3 bnd.eq_1 bnd.eq_2 aBuildO.eq_1 aBuildO.eq_2 aBuild.eq_1 aNewArr.eq_1 aNewArr.eq_2 aBS.eq_1 aBS.eq_2 aBuildSlice.eq_1 aBuildSlice.eq_2 aMakeSlice.eq_1 appDeep.eq_1 aApp2.eq_1 aAppend.eq_1 aAppend.eq_2 aStoreB.eq_1 aStoreA.eq_1 obFlat.eq_1 aStore2.eq_1 aStore2.eq_2 aStoreP.eq_1 aStoreP.eq_2 aStore.eq_1 aStore.eq_2 isShl.eq_1 isShl.eq_2 isBool.eq_1 aBinI.eq_1 aBinI.eq_2 aBinB.eq_1 aBinB.eq_2 aEq.eq_1 aEq.eq_2 aEq.eq_3 aEq.eq_4 aEqG.eq_1 aEqG.eq_2 aBin.eq_1 aBin.eq_2 aBin.eq_3 aBin.eq_4 aUn.eq_1 aUn.eq_2 aLenO.eq_1 aLenS.eq_1 aLenS.eq_2 aLenS.eq_3 aLenT.eq_1 aLen.eq_1 aLen.eq_2 aLen.eq_3 bytesOb.eq_1 bytesOb.eq_2 bytesOf.eq_1 bytesOf.eq_2 aNums.eq_1 aNums.eq_2 isU8.eq_1 aCvI.eq_1 aCvS.eq_1 aCvB.eq_1 aCvB.eq_2 aCvT.eq_1 aConv.eq_1 aConv.eq_2 aConv.eq_3 aConv.eq_4 aExO.eq_1 aExO.eq_2 aExtract.eq_1 aNil.eq_1 aNil.eq_2 aNil.eq_3 aCallS.eq_1 aCallS.eq_2 aCallR.eq_1 aCallR.eq_2 aCallK.eq_1 aCallK.eq_2 aCallK.eq_3 aCall.eq_1 aCall.eq_2 takeO.eq_1 AS.takeV.eq_1 AS.takeV.eq_2 AS.takeV.eq_3 AS.takeV.eq_4 AS.takeV.eq_5 AS.takeV.eq_6 AS.takeV.eq_7 AV.oldM.eq_1 AV.oldM.eq_2 AV.oldM.eq_3 AV.oldM.eq_4 AV.oldM.eq_5 AV.oldM.eq_6 AV.oldM.eq_7 AV.oldM.eq_8 AV.oldM.eq_9 AV.oldM.eq_10 AV.oldM.eq_11 AV.oldML.eq_1 AV.oldML.eq_2 subL.eq_1 subL.eq_2 back.eq_1 back.eq_2 back.eq_3 back.eq_4 backL.eq_1 backI.eq_1 backI.eq_2 backI.eq_3 backI.eq_4 backIL.eq_1 aBuiltin.eq_1 aBuiltin.eq_2 aBuiltin.eq_3 aCallee.eq_1 aCallee.eq_2 aCallee.eq_3 abin.eq_1 abin.eq_2 abin.eq_3 abin.eq_4 abin.eq_5 abin.eq_6 abin.eq_7 abin.eq_8 abin.eq_9 abin.eq_10 abin.eq_11 abin.eq_12 abin.eq_13 abin.eq_14 abin.eq_15 abin.eq_17 abin.eq_18 abin.eq_19 abin.eq_20 abin.eq_21 abin.eq_22 abin.eq_23 AS.ev.eq_1 AS.ev.eq_2 AS.ev.eq_3 AS.ev.eq_4 AS.evs.eq_1 AS.evs.eq_2 AS.evp.eq_1 AS.evp.eq_2 AS.put.eq_1 AS.put.eq_2 AS.remL.eq_1 AS.remL.eq_2 AV.has.eq_1 AV.has.eq_2 AV.has.eq_3 AV.has.eq_4 AV.has.eq_5 AV.has.eq_6 AV.has.eq_7 AV.has.eq_8 AV.has.eq_9 AV.has.eq_10 AV.has.eq_11 AV.hasL.eq_1 AV.hasL.eq_2 Ob.drop.eq_1 AV.cells.eq_1 AV.cells.eq_2 AV.cells.eq_3 AV.cells.eq_4 AV.cells.eq_5 AS.snapT.eq_1 AS.snapT.eq_2 AS.snapT.eq_3 AS.snapT.eq_4 AS.snapT.eq_5 AS.snapT.eq_6 AS.snapT.eq_7 AS.snap.eq_1 AS.snap.eq_2 mapO.eq_1 mapO.eq_2 intern.eq_1 intern.eq_2 intern.eq_3 intern.eq_4 intern.eq_5 intern.eq_6 intern.eq_7 intern.eq_8 intern.eq_9 intern.eq_10 intern.eq_11 internL.eq_1 internL.eq_2 zipSl.eq_1 zipSl.eq_2 AV.ids.eq_1 AV.ids.eq_2 AV.ids.eq_3 AV.ids.eq_4 AV.ids.eq_5 AV.ids.eq_6 AV.ids.eq_7 AV.ids.eq_8 AV.ids.eq_9 AV.ids.eq_10 AV.ids.eq_11 AV.idsL.eq_1 AV.idsL.eq_2 AV.sub.eq_1 AV.sub.eq_2 AV.sub.eq_3 AV.sub.eq_4 AV.sub.eq_5 AV.sub.eq_6 AV.sub.eq_7 AV.sub.eq_8 AV.sub.eq_9 AV.sub.eq_10 AV.sub.eq_11 AV.subL.eq_1 AV.subL.eq_2 AS.frzL.eq_1 AS.frzL.eq_2 AS.absT.eq_1 AS.absT.eq_2 AS.absT.eq_4 AS.absL.eq_1 AS.absL.eq_2 AS.absOk.eq_1 AS.absOkL.eq_1 AS.absOkL.eq_2 hid.eq_1 hids.eq_1 hids.eq_2 AS.appBase.eq_1 AS.appBase.eq_2 AS.appSrc.eq_1 appFits.eq_1 appFits.eq_2 appFits.eq_3 avFill.eq_1 avFill.eq_2 avc.eq_1 avc.eq_2 avc1.eq_1 Kd.agg.eq_1 Kd.agg.eq_2 okR.eq_1 okR.eq_2 okR.eq_3 okR.eq_4 okR.eq_5 okR.eq_6 okR.eq_7 okR.eq_8 zt.eq_1 rvB.eq_1 rvP.eq_1 rvA.eq_1 rvA.eq_2 rv1.eq_1 outTO.eq_1 outT.eq_1 outT.eq_2 outT.eq_3 outOO.eq_1 outO.eq_1 outO.eq_2 boxOf.eq_1 outP.eq_1 outP.eq_2 outP.eq_3 outP.eq_4 outP.eq_5 outP.eq_6 outP.eq_7 outP.eq_8 outPL.eq_1 outPL.eq_2 outI.eq_1 outI.eq_2 outI.eq_3 outI.eq_4 outI.eq_5 outIL.eq_1 outZ.eq_1 outZ.eq_2 outZ.eq_3 outZ.eq_4 outZ.eq_5 outZL.eq_1 finO.eq_1 finO.eq_2 fin.eq_1 fin.eq_2 fin.eq_3 cellAV.eq_1 numsOf.eq_1 numsOf.eq_2 aop.eq_1 aop.eq_2 aop.eq_3 aop.eq_4 aop.eq_5 aop.eq_6 aop.eq_7 aop.eq_8 aop.eq_9 aop.eq_10 aop.eq_11 aop.eq_12 aop.eq_13 aop.eq_14 aop.eq_15 aop.eq_16 aop.eq_17 aop.eq_18 aop.eq_19 aop.eq_20 aop.eq_21 aop.eq_22 aop.eq_23 aop.eq_24 aop.eq_25 aop.eq_26 tmpsOf.eq_1 tmpsOf.eq_2 tmpsOf.eq_3 tmpsOf.eq_4 tmpsOf.eq_5 AV.refs.eq_1 AV.refs.eq_2 AV.refs.eq_3 AV.refs.eq_4 AV.refs.eq_5 AV.refs.eq_6 AV.refs.eq_7 AV.refs.eq_8 AV.refs.eq_9 AV.refs.eq_10 AV.refs.eq_11 AV.refsL.eq_1 AV.refsL.eq_2 refsT.eq_1 refsT.eq_2 refsO.eq_1 refsO.eq_2 refsO.eq_3 refsO.eq_4 refsB.eq_1 refsB.eq_2 clos.eq_1 clos.eq_2 keepL.eq_1 keepL.eq_2 AV.hasM.eq_1 AV.hasM.eq_2 AV.hasM.eq_3 AV.hasM.eq_4 AV.hasM.eq_5 AV.hasM.eq_6 AV.hasM.eq_7 AV.hasM.eq_8 AV.hasM.eq_9 AV.hasM.eq_10 AV.hasM.eq_11 AV.hasML.eq_1 AV.hasML.eq_2 Ob.dropM.eq_1 Ob.dropM.eq_2 Ob.dropM.eq_3 nsC.eq_1 nsC.eq_2 okGuard.eq_1 okGuard.eq_2 AS.purges.eq_1 AS.purges.eq_2 dropMB.eq_1 dropMB.eq_2 newB.eq_1 newB.eq_2 ptB.eq_1 ptB.eq_2 lookC.eq_1 lookC.eq_2 dropB.eq_1 dropB.eq_2 leS.eq_1 leS.eq_2 leT.eq_1 leT.eq_2 AS.mvs.eq_1 AS.mvs.eq_2 AS.mvA.eq_1 AS.mvA.eq_2 AS.mvB.eq_1 aSetO.eq_1 aSetO.eq_2 aSh.eq_1 aSh.eq_2 arK.eq_1 aIdxA.eq_1 aIdxA.eq_2 arT.eq_1 aSlHB.eq_1 aSlHB.eq_2 aSlHO.eq_1 aSlHZ.eq_1 aSlHZ.eq_2 isSlT.eq_1 isNilC.eq_1 aNilO.eq_1 aNilX.eq_1 aNilX.eq_2 aNilX.eq_3 aNilC.eq_1 aNilC.eq_2 aBinQ.eq_1 aBinQ.eq_2 aMin.eq_1 flT.eq_1 flT.eq_2 mpT.eq_1 aMkMap.eq_1 aMkMap.eq_2 strA.eq_1 keyMK.eq_1 keyMK.eq_2 mkB.eq_1 mkB.eq_2 aMp2.eq_1 aMp1.eq_1 aMp0.eq_1 aMapU.eq_1 aLk2.eq_1 aLk2.eq_2 aLk1.eq_1 aLk0.eq_1 aLookup.eq_1 aLenMO.eq_1 aLenM.eq_1 glV.eq_1 glV.eq_2 evG.eq_1 evG.eq_2 evG.eq_3 evG.eq_4 run_nil run_b run_l run_skip run_label run_seq run_cond brV_b brB_t brB_f run_block run_exit run_ret run_region runX_nil runX_c runX_c' runX_b runX_b' runX_l runX_l' exB_t exB_f run_o run_op run_opg gV_b gV_t gB_tt gB_ff gB_tf gB_ft rs_eq kv KI aLenN aBS1 aApp1 aStore1 szOk gv gd s0 idOf look_cons lookC frzU_t frzU_f orT orF drop_any drop_nil drop_t drop_h drop_pb drop_pa drop_agg drop_tup drop_fn dropB kill_eq set_eq rem_eq re_eq up_eq get_eq ob_eq Ob.drop apl fpl plainTy AS.frz splice cond_true cond_false List.map_cons List.map_nil List.drop_zero List.drop_succ_cons List.drop_nil List.take_zero List.take_succ_cons List.take_nil List.getElem?_cons_zero List.getElem?_cons_succ List.getElem?_nil List.length_cons List.length_nil Option.map_some Option.map_none Option.bind_some Option.bind_none List.cons_append List.nil_append List.append_nil Option.getD_some Option.getD_none List.all_cons List.all_nil Bool.and_true Bool.true_and Bool.or_false Bool.false_or Bool.or_true Bool.true_or List.flatten_cons List.flatten_nil List.replicate_succ List.replicate_zero and_true true_and avOf_t avOf_f agg_bool agg_int agg_str agg_slice agg_struct agg_func agg_ptr agg_map avc_bool avc_int avc_str avc_fn avc1_bool avc1_int avc1_str avc1_fn zt_bool zt_int zt_str cells_nil cells_t cells_h cells_pb cells_fn snap_t snap_nil snap_h snap_pb snap_fn rv1_one rv1_two outI_t outI_oh outI_on outI_any outI_nil outZ_th outZ_tt outZ_tn outZ_o outZ_any outZ_nil outIL_nil outZL_nil finN finR ne_eq not_false_eq_true not_true_eq_false List.nodup_nil List.not_mem_nil false_implies implies_true eq_self true_or or_true Option.some.injEq shl_add shl_sub shl_mul shl_quo shl_rem shl_and shl_or shl_xor shl_andNot shl_eql shl_neq shl_lss shl_leq shl_gtr shl_geq shl_shr shl_shl appDeep_none appDeep_sn appSrc_h appSrc_nil fits_ft fits_tn fits_tf isStr_slice obFlat_box Nat.le_refl nbeq_self List.length_map updZ_s updZ_n dropM_eq purge_eq newIds_cons newIds_nil purgeT_nil purgeT_cons memN_cons memN_nil bd_d bd_c bd_g bd_p bd_t bd_o preds_nil preds_cons run_draw hasIns insB List.any_cons List.any_nil adK_eq adr_nil adr_cons adG_eq kdOp noLen creates Op.operands Call.operands nsOf adT adI adJ plainB rst List.append_eq nsD_f nsD_n nsD_t nOf_0 nOf_1 nOf_2 chO_0 chO_1 chO_2 keepK_0 keepK_1 keepK_2 eqRes AS.mv fits KM aCallM notNew kdCall arK_i64 arK_i32 arK_u8 arK_u64 arT_sl isNilC_t isNilC_f isNilC_g isNilC_i isNilC_b isNilC_s isNilC_a isNilC_n andBF andBT aCallK_2 ble_dec hid_t hid_nil hid_any hid_pb hid_fn absOk_t absOk_nil absOk_pb absOk_h absOkO_1 decide_true decide_false Array.toList_append chunk_0 chunk_1 chunk_2 chunk_3 back_t back_nil back_ht backL_nil backI_t backI_nil backI_ht backIL_nil AS.mvJ nbeq_dec
attribute [local go_sem] ty3 ty4 ty5 ty9 ty22 ty24 ty25 ty26 ty28 ty31 ty32 ty34 ty37 ty64 ty72 ty118 ty134 ty136 ty164 ty167 lv31 zb4 leS leT fits AS.mvs encStr_eq encAd_eq encRu_eq aIdx_str aIdx_Ad aIdx_Ru EAd_dec EMl_dec ERu_dec EStr_dec mkMl.eq_1 decStrs decAds decRus decStrs0 decAds0 decRus0 EStr_enc EAd_enc EMl_enc ERu_enc lc_enc l0_enc asl_enc ag_enc aow_enc ABool_enc AInt_enc AStr_enc AU8_enc ABool_dec AInt_dec AStr_dec AU8_dec asl_dec ag_dec aow_dec bind_some pr2.eq_1 l0_nil lc_cons unT.eq_1 K0.eq_1 M0.eq_1 KI AllV_Str AllV_Ad AllV_Ru len_Str len_Ad len_Ru Ad_eta Ru_eta Ml_eta

def szAd (a : Ad) (l : Int) : Int := if l - a.user.size < 0 then -1 else if l - a.user.size - a.domain.size < 0 then -1 else l - a.user.size - a.domain.size
def szStr (b : ByteArray) (l : Int) : Int := l - b.size
def szRu (r : Ru) (l : Int) : Int := if l - r.text.size < 0 then -1 else if szAd r.to (l - r.text.size) < 0 then -1 else szAd r.to (l - r.text.size)
def szF {α : Type} (f : α → Int → Int) (l : Int) : List α → Int
  | [] => l
  | x :: r => if f x l < 0 then -1 else szF f (f x l) r
def szL {α : Type} (f : α → Int → Int) (xs : List α) (l : Int) : Int := if l - xs.length < 0 then -1 else szF f (l - xs.length) xs
def szMl (m : Ml) (l : Int) : Int := if szAd m.frm l < 0 then -1 else if szL szAd m.to (szAd m.frm l) < 0 then -1 else if szL szStr m.body (szL szAd m.to (szAd m.frm l)) < 0 then -1 else szL szStr m.body (szL szAd m.to (szAd m.frm l))
def smaller {α : Type} (f : α → Int → Int) : Prop := ∀ x l, f x l < 0 ∨ f x l ≤ l
theorem szAd_le : smaller szAd := fun a l => by
  by_cases h1 : l - a.user.size < 0 <;> by_cases h2 : l - a.user.size - a.domain.size < 0 <;> simp only [szAd, h1, h2, if_true, if_false] <;> omega
theorem szStr_le : smaller szStr := fun a l => by unfold szStr; omega
theorem szRu_le : smaller szRu := fun a l => by
  unfold szRu; split
  · exact .inl (by omega)
  · split
    · exact .inl (by omega)
    · rcases szAd_le a.to (l - a.text.size) with h | h
      · exact .inl h
      · exact .inr (by omega)
theorem szF_le {α : Type} {f : α → Int → Int} (hf : smaller f) : ∀ (xs : List α) (l : Int), szF f l xs < 0 ∨ szF f l xs ≤ l
  | [], l => .inr (Int.le_refl _)
  | x :: r, l => by
    unfold szF
    split
    · exact .inl (by omega)
    · rename_i h
      rcases szF_le hf r (f x l) with h1 | h1
      · exact .inl h1
      · rcases hf x l with h2 | h2
        · omega
        · exact .inr (by omega)
theorem szL_le {α : Type} {f : α → Int → Int} (hf : smaller f) (xs : List α) (l : Int) : szL f xs l < 0 ∨ (szL f xs l ≤ l ∧ (xs.length : Int) ≤ l) := by
  unfold szL
  split
  · exact .inl (by omega)
  · rcases szF_le hf xs (l - xs.length) with h | h
    · exact .inl h
    · exact .inr ⟨by omega, by omega⟩
theorem szF_step {α : Type} [Inhabited α] {f : α → Int → Int} {xs : List α} {l : Int} {i : Nat} (h : i < xs.length) : szF f l (xs.drop i) = if f (xs.getD i default) l < 0 then -1 else szF f (f (xs.getD i default) l) (xs.drop (i + 1)) := by
  rw [getD_drop h]; rfl
theorem szF_end {α : Type} {f : α → Int → Int} {xs : List α} {l : Int} {i : Nat} (h : xs.length ≤ i) : szF f l (xs.drop i) = l := by
  rw [List.drop_of_length_le h]; rfl
theorem szF_neg {α : Type} {f : α → Int → Int} (xs : List α) (h : ∀ x l, f x l < 0 → f x l = -1) (l : Int) (hl : 0 ≤ l) : szF f l xs < 0 → szF f l xs = -1 := by
  induction xs generalizing l with
  | nil => intro h0; simp only [szF] at h0; omega
  | cons x r ih =>
    intro h0
    simp only [szF] at h0 ⊢
    split at h0
    · rename_i h1; rw [if_pos h1]
    · rename_i h1; rw [if_neg h1]; exact ih _ (by omega) h0
def c18 : Ct := ctR (lc EAd.ag (lc AInt l0)) (fun p => 0 ≤ p.2.1 ∧ p.2.1 ≤ 1048576) (fun p => .t (.v (.int .i64 (szAd p.1 p.2.1))))
theorem c18_eq {args : List AV} {K : AV → Prop} : c18 args K = K0 (fun p => 0 ≤ p.2.1 ∧ p.2.1 ≤ 1048576) (fun p => .t (.v (.int .i64 (szAd p.1 p.2.1)))) K ((lc EAd.ag (lc AInt l0)).dec args) := rfl
theorem good18 {G : Gt} (hG : GOk Tryz.prog G ∧ GDet G) : Good Tryz.prog G.m 18 (roEnt 0 c18) := by
  refine good_run (dp := fun _ => true) (fn := Tryz.f18) (n := 2) (fun _ => rfl) (by kernel_rfl) rfl (by kernel_rfl) hmix hG (Nat.le_of_ble_eq_true rfl) (by kernel_rfl) (by decide) (fun _ _ => .v _) ?_
  rintro ⟨a, l, ⟨⟩⟩ hpre
  simp only [Tryz.f18, go_sem, Nat.reduceAdd, Nat.reduceMul, Nat.reduceLeDiff, Nat.reduceEqDiff, reduceCtorEq, Nat.reduceSub, Int.reduceNeg, Nat.reduceMod, Nat.reduceBEq, Nat.reduceLT] at hpre ⊢

  repeat' (first | with_reducible apply And.intro | intro _ | (refine brB_split (fun hb => ?_) (fun hb => ?_) <;> simp only [hb, go_sem, Nat.reduceAdd, Nat.reduceMul, Nat.reduceLeDiff, Nat.reduceEqDiff, reduceCtorEq, Nat.reduceSub, Int.reduceNeg, Nat.reduceMod, Nat.reduceBEq, Nat.reduceLT] <;> try simp only [bOf_t, bOf_f, decide_eq_true_eq, decide_eq_false_iff_not, Bool.not_eq_true', Bool.not_eq_false', Bool.not_eq_true, Bool.not_eq_false, Decidable.not_not] at hb) | (refine aPickB_split (fun hb => ?_) (fun hb => ?_) <;> simp only [hb, go_sem, Nat.reduceAdd, Nat.reduceMul, Nat.reduceLeDiff, Nat.reduceEqDiff, reduceCtorEq, Nat.reduceSub, Int.reduceNeg, Nat.reduceMod, Nat.reduceBEq, Nat.reduceLT] <;> try simp only [bOf_t, bOf_f, decide_eq_true_eq, decide_eq_false_iff_not, Bool.not_eq_true', Bool.not_eq_false', Bool.not_eq_true, Bool.not_eq_false, Decidable.not_not] at hb) | (refine gB_split (fun hb => ?_) (fun hb => ?_) <;> simp only [hb, go_sem, Nat.reduceAdd, Nat.reduceMul, Nat.reduceLeDiff, Nat.reduceEqDiff, reduceCtorEq, Nat.reduceSub, Int.reduceNeg, Nat.reduceMod, Nat.reduceBEq, Nat.reduceLT] <;> try simp only [bOf_t, bOf_f, decide_eq_true_eq, decide_eq_false_iff_not, Bool.not_eq_true', Bool.not_eq_false', Bool.not_eq_true, Bool.not_eq_false, Decidable.not_not] at hb))
  all_goals simp only [szAd, maxLen] at *
  all_goals first | rfl | omega | (simp [*]; done) | trace_state

def c30 : Ct := ctR (lc EStr.asl (lc AInt l0)) (fun p => 0 ≤ p.2.1 ∧ p.2.1 ≤ 1048576) (fun p => .t (.v (.int .i64 (szL szStr p.1 p.2.1))))
theorem c30_eq {args : List AV} {K : AV → Prop} : c30 args K = K0 (fun p => 0 ≤ p.2.1 ∧ p.2.1 ≤ 1048576) (fun p => .t (.v (.int .i64 (szL szStr p.1 p.2.1)))) K ((lc EStr.asl (lc AInt l0)).dec args) := rfl
theorem good30 {G : Gt} (hG : GOk Tryz.prog G ∧ GDet G) : Good Tryz.prog G.m 30 (roEnt 0 c30) := by
  refine good_run (dp := fun _ => true) (fn := Tryz.f30) (n := 2) (fun _ => rfl) (by kernel_rfl) rfl (by kernel_rfl) hmix hG (Nat.le_of_ble_eq_true rfl) (by kernel_rfl) (by decide) (fun _ _ => .v _) ?_
  rintro ⟨xs, l, ⟨⟩⟩ hpre
  simp only [Tryz.f30, go_sem, Nat.reduceAdd, Nat.reduceMul, Nat.reduceLeDiff, Nat.reduceEqDiff, reduceCtorEq, Nat.reduceSub, Int.reduceNeg, Nat.reduceMod, Nat.reduceBEq, Nat.reduceLT] at hpre ⊢

  repeat' (first | with_reducible apply And.intro | intro _ | (refine brB_split (fun hb => ?_) (fun hb => ?_) <;> simp only [hb, go_sem, Nat.reduceAdd, Nat.reduceMul, Nat.reduceLeDiff, Nat.reduceEqDiff, reduceCtorEq, Nat.reduceSub, Int.reduceNeg, Nat.reduceMod, Nat.reduceBEq, Nat.reduceLT] <;> try simp only [bOf_t, bOf_f, decide_eq_true_eq, decide_eq_false_iff_not, Bool.not_eq_true', Bool.not_eq_false', Bool.not_eq_true, Bool.not_eq_false, Decidable.not_not] at hb) | (refine aPickB_split (fun hb => ?_) (fun hb => ?_) <;> simp only [hb, go_sem, Nat.reduceAdd, Nat.reduceMul, Nat.reduceLeDiff, Nat.reduceEqDiff, reduceCtorEq, Nat.reduceSub, Int.reduceNeg, Nat.reduceMod, Nat.reduceBEq, Nat.reduceLT] <;> try simp only [bOf_t, bOf_f, decide_eq_true_eq, decide_eq_false_iff_not, Bool.not_eq_true', Bool.not_eq_false', Bool.not_eq_true, Bool.not_eq_false, Decidable.not_not] at hb) | (refine gB_split (fun hb => ?_) (fun hb => ?_) <;> simp only [hb, go_sem, Nat.reduceAdd, Nat.reduceMul, Nat.reduceLeDiff, Nat.reduceEqDiff, reduceCtorEq, Nat.reduceSub, Int.reduceNeg, Nat.reduceMod, Nat.reduceBEq, Nat.reduceLT] <;> try simp only [bOf_t, bOf_f, decide_eq_true_eq, decide_eq_false_iff_not, Bool.not_eq_true', Bool.not_eq_false', Bool.not_eq_true, Bool.not_eq_false, Decidable.not_not] at hb))
  all_goals simp only [maxLen] at *
  all_goals first | omega | skip
  · have : szL szStr xs l = -1 := by unfold szL; rw [if_pos (by omega)]
    simp [this]
  · refine run_loop [] (ι := {p : Nat × Int // p.1 ≤ xs.length ∧ 0 ≤ p.2 ∧ p.2 ≤ 1048576 ∧ szF szStr p.2 (xs.drop p.1) = szL szStr xs l}) (fun p => ⟨[(0, .t (.sl (xs.map encStr))), (1, .t (.v (.int .i64 p.1.2))), (5, .t (.v (.int .i64 p.1.1)))], []⟩) (fun p => xs.length - p.1.1) ⟨(0, l - xs.length), by simp, by simp only []; omega, by simp only []; omega, by rw [szL, if_neg (by omega)]; rfl⟩ rfl ?_ ?_
    · simp only [go_sem, Nat.reduceAdd, Nat.reduceMul, Nat.reduceLeDiff, Nat.reduceEqDiff, reduceCtorEq, Nat.reduceSub, Int.reduceNeg, Nat.reduceMod, Nat.reduceBEq, Nat.reduceLT]
      simp
    · rintro ⟨⟨i, v⟩, hi, h0, h1, hv⟩
      simp only [go_sem, Nat.reduceAdd, Nat.reduceMul, Nat.reduceLeDiff, Nat.reduceEqDiff, reduceCtorEq, Nat.reduceSub, Int.reduceNeg, Nat.reduceMod, Nat.reduceBEq, Nat.reduceLT]
      repeat' (first | with_reducible apply And.intro | intro _ | (refine brB_split (fun hb => ?_) (fun hb => ?_) <;> simp only [hb, go_sem, Nat.reduceAdd, Nat.reduceMul, Nat.reduceLeDiff, Nat.reduceEqDiff, reduceCtorEq, Nat.reduceSub, Int.reduceNeg, Nat.reduceMod, Nat.reduceBEq, Nat.reduceLT] <;> try simp only [bOf_t, bOf_f, decide_eq_true_eq, decide_eq_false_iff_not, Bool.not_eq_true', Bool.not_eq_false', Bool.not_eq_true, Bool.not_eq_false, Decidable.not_not] at hb) | (refine aPickB_split (fun hb => ?_) (fun hb => ?_) <;> simp only [hb, go_sem, Nat.reduceAdd, Nat.reduceMul, Nat.reduceLeDiff, Nat.reduceEqDiff, reduceCtorEq, Nat.reduceSub, Int.reduceNeg, Nat.reduceMod, Nat.reduceBEq, Nat.reduceLT] <;> try simp only [bOf_t, bOf_f, decide_eq_true_eq, decide_eq_false_iff_not, Bool.not_eq_true', Bool.not_eq_false', Bool.not_eq_true, Bool.not_eq_false, Decidable.not_not] at hb) | (refine gB_split (fun hb => ?_) (fun hb => ?_) <;> simp only [hb, go_sem, Nat.reduceAdd, Nat.reduceMul, Nat.reduceLeDiff, Nat.reduceEqDiff, reduceCtorEq, Nat.reduceSub, Int.reduceNeg, Nat.reduceMod, Nat.reduceBEq, Nat.reduceLT] <;> try simp only [bOf_t, bOf_f, decide_eq_true_eq, decide_eq_false_iff_not, Bool.not_eq_true', Bool.not_eq_false', Bool.not_eq_true, Bool.not_eq_false, Decidable.not_not] at hb))
      all_goals simp only [maxLen, Int.toNat_natCast] at *
      all_goals first | omega | skip
      all_goals (try dsimp only at *)
      · have h2 : i < xs.length := by omega
        rw [szF_step h2, szStr, if_pos hb] at hv
        rw [← hv]
      · have h2 : i < xs.length := by omega
        rw [szF_step h2, szStr, if_neg hb] at hv
        have h3 := szStr_le (xs.getD i default) v
        unfold szStr at h3
        refine ⟨⟨(i + 1, v - (xs.getD i default).size), by simp only []; omega, by simp only []; omega, by simp only []; omega, hv⟩, by dsimp only; omega, ?_⟩
        simp only [go_sem, Nat.reduceAdd, Nat.reduceMul, Nat.reduceLeDiff, Nat.reduceEqDiff, reduceCtorEq, Nat.reduceSub, Int.reduceNeg, Nat.reduceMod, Nat.reduceBEq, Nat.reduceLT]
        simp
      · have h2 : xs.length ≤ i := by omega
        rw [szF_end h2] at hv
        rw [hv]

def c29 : Ct := ctR (lc EAd.asl (lc AInt l0)) (fun p => 0 ≤ p.2.1 ∧ p.2.1 ≤ 1048576) (fun p => .t (.v (.int .i64 (szL szAd p.1 p.2.1))))
theorem c29_eq {args : List AV} {K : AV → Prop} : c29 args K = K0 (fun p => 0 ≤ p.2.1 ∧ p.2.1 ≤ 1048576) (fun p => .t (.v (.int .i64 (szL szAd p.1 p.2.1)))) K ((lc EAd.asl (lc AInt l0)).dec args) := rfl
theorem good29 {G : Gt} (hG : GOk Tryz.prog G ∧ GDet G) (h18 : G.e 18 = roEnt 0 c18) : Good Tryz.prog G.m 29 (roEnt 0 c29) := by
  refine good_run (dp := fun _ => true) (fn := Tryz.f29) (n := 2) (fun _ => rfl) (by kernel_rfl) rfl (by kernel_rfl) hmix hG (Nat.le_of_ble_eq_true rfl) (by kernel_rfl) (by decide) (fun _ _ => .v _) ?_
  have k18 : (G.e 18).kd = 0 := by rw [h18]; rfl
  have m18 : (G.e 18).ro = c18 := by rw [h18]; rfl
  rintro ⟨xs, l, ⟨⟩⟩ hpre
  simp only [Tryz.f29, go_sem, k18, m18, c18_eq, Nat.reduceAdd, Nat.reduceMul, Nat.reduceLeDiff, Nat.reduceEqDiff, reduceCtorEq, Nat.reduceSub, Int.reduceNeg, Nat.reduceMod, Nat.reduceBEq, Nat.reduceLT] at hpre ⊢

  repeat' (first | with_reducible apply And.intro | intro _ | (refine brB_split (fun hb => ?_) (fun hb => ?_) <;> simp only [hb, go_sem, k18, m18, c18_eq, Nat.reduceAdd, Nat.reduceMul, Nat.reduceLeDiff, Nat.reduceEqDiff, reduceCtorEq, Nat.reduceSub, Int.reduceNeg, Nat.reduceMod, Nat.reduceBEq, Nat.reduceLT] <;> try simp only [bOf_t, bOf_f, decide_eq_true_eq, decide_eq_false_iff_not, Bool.not_eq_true', Bool.not_eq_false', Bool.not_eq_true, Bool.not_eq_false, Decidable.not_not] at hb) | (refine aPickB_split (fun hb => ?_) (fun hb => ?_) <;> simp only [hb, go_sem, k18, m18, c18_eq, Nat.reduceAdd, Nat.reduceMul, Nat.reduceLeDiff, Nat.reduceEqDiff, reduceCtorEq, Nat.reduceSub, Int.reduceNeg, Nat.reduceMod, Nat.reduceBEq, Nat.reduceLT] <;> try simp only [bOf_t, bOf_f, decide_eq_true_eq, decide_eq_false_iff_not, Bool.not_eq_true', Bool.not_eq_false', Bool.not_eq_true, Bool.not_eq_false, Decidable.not_not] at hb) | (refine gB_split (fun hb => ?_) (fun hb => ?_) <;> simp only [hb, go_sem, k18, m18, c18_eq, Nat.reduceAdd, Nat.reduceMul, Nat.reduceLeDiff, Nat.reduceEqDiff, reduceCtorEq, Nat.reduceSub, Int.reduceNeg, Nat.reduceMod, Nat.reduceBEq, Nat.reduceLT] <;> try simp only [bOf_t, bOf_f, decide_eq_true_eq, decide_eq_false_iff_not, Bool.not_eq_true', Bool.not_eq_false', Bool.not_eq_true, Bool.not_eq_false, Decidable.not_not] at hb))
  all_goals simp only [maxLen] at *
  all_goals first | omega | skip
  · have : szL szAd xs l = -1 := by unfold szL; rw [if_pos (by omega)]
    simp [this]
  · refine run_loop [] (ι := {p : Nat × Int // p.1 ≤ xs.length ∧ 0 ≤ p.2 ∧ p.2 ≤ 1048576 ∧ szF szAd p.2 (xs.drop p.1) = szL szAd xs l}) (fun p => ⟨[(0, .t (.sl (xs.map encAd))), (1, .t (.v (.int .i64 p.1.2))), (5, .t (.v (.int .i64 p.1.1)))], []⟩) (fun p => xs.length - p.1.1) ⟨(0, l - xs.length), by simp, by simp only []; omega, by simp only []; omega, by rw [szL, if_neg (by omega)]; rfl⟩ rfl ?_ ?_
    · simp only [go_sem, k18, m18, c18_eq, Nat.reduceAdd, Nat.reduceMul, Nat.reduceLeDiff, Nat.reduceEqDiff, reduceCtorEq, Nat.reduceSub, Int.reduceNeg, Nat.reduceMod, Nat.reduceBEq, Nat.reduceLT]
      simp
    · rintro ⟨⟨i, v⟩, hi, h0, h1, hv⟩
      simp only [go_sem, k18, m18, c18_eq, Nat.reduceAdd, Nat.reduceMul, Nat.reduceLeDiff, Nat.reduceEqDiff, reduceCtorEq, Nat.reduceSub, Int.reduceNeg, Nat.reduceMod, Nat.reduceBEq, Nat.reduceLT]
      repeat' (first | with_reducible apply And.intro | intro _ | (refine brB_split (fun hb => ?_) (fun hb => ?_) <;> simp only [hb, go_sem, k18, m18, c18_eq, Nat.reduceAdd, Nat.reduceMul, Nat.reduceLeDiff, Nat.reduceEqDiff, reduceCtorEq, Nat.reduceSub, Int.reduceNeg, Nat.reduceMod, Nat.reduceBEq, Nat.reduceLT] <;> try simp only [bOf_t, bOf_f, decide_eq_true_eq, decide_eq_false_iff_not, Bool.not_eq_true', Bool.not_eq_false', Bool.not_eq_true, Bool.not_eq_false, Decidable.not_not] at hb) | (refine aPickB_split (fun hb => ?_) (fun hb => ?_) <;> simp only [hb, go_sem, k18, m18, c18_eq, Nat.reduceAdd, Nat.reduceMul, Nat.reduceLeDiff, Nat.reduceEqDiff, reduceCtorEq, Nat.reduceSub, Int.reduceNeg, Nat.reduceMod, Nat.reduceBEq, Nat.reduceLT] <;> try simp only [bOf_t, bOf_f, decide_eq_true_eq, decide_eq_false_iff_not, Bool.not_eq_true', Bool.not_eq_false', Bool.not_eq_true, Bool.not_eq_false, Decidable.not_not] at hb) | (refine gB_split (fun hb => ?_) (fun hb => ?_) <;> simp only [hb, go_sem, k18, m18, c18_eq, Nat.reduceAdd, Nat.reduceMul, Nat.reduceLeDiff, Nat.reduceEqDiff, reduceCtorEq, Nat.reduceSub, Int.reduceNeg, Nat.reduceMod, Nat.reduceBEq, Nat.reduceLT] <;> try simp only [bOf_t, bOf_f, decide_eq_true_eq, decide_eq_false_iff_not, Bool.not_eq_true', Bool.not_eq_false', Bool.not_eq_true, Bool.not_eq_false, Decidable.not_not] at hb))
      all_goals simp only [maxLen, Int.toNat_natCast] at *
      all_goals first | omega | skip
      all_goals (try dsimp only at *)
      · have h2 : i < xs.length := by omega
        rw [szF_step h2, if_pos hb] at hv
        rw [← hv]
      · have h2 : i < xs.length := by omega
        rw [szF_step h2, if_neg hb] at hv
        have h3 := szAd_le (xs.getD i default) v
        skip
        refine ⟨⟨(i + 1, szAd (xs.getD i default) v), by simp only []; omega, by simp only []; omega, by simp only []; omega, hv⟩, by dsimp only; omega, ?_⟩
        simp only [go_sem, k18, m18, c18_eq, Nat.reduceAdd, Nat.reduceMul, Nat.reduceLeDiff, Nat.reduceEqDiff, reduceCtorEq, Nat.reduceSub, Int.reduceNeg, Nat.reduceMod, Nat.reduceBEq, Nat.reduceLT]
        simp
      · have h2 : xs.length ≤ i := by omega
        rw [szF_end h2] at hv
        rw [hv]

def c28 : Ct := ctR (lc ERu.ag (lc AInt l0)) (fun p => 0 ≤ p.2.1 ∧ p.2.1 ≤ 1048576) (fun p => .t (.v (.int .i64 (szRu p.1 p.2.1))))
theorem c28_eq {args : List AV} {K : AV → Prop} : c28 args K = K0 (fun p => 0 ≤ p.2.1 ∧ p.2.1 ≤ 1048576) (fun p => .t (.v (.int .i64 (szRu p.1 p.2.1)))) K ((lc ERu.ag (lc AInt l0)).dec args) := rfl
theorem good28 {G : Gt} (hG : GOk Tryz.prog G ∧ GDet G) (h18 : G.e 18 = roEnt 0 c18) : Good Tryz.prog G.m 28 (roEnt 0 c28) := by
  refine good_run (dp := fun _ => true) (fn := Tryz.f28) (n := 2) (fun _ => rfl) (by kernel_rfl) rfl (by kernel_rfl) hmix hG (Nat.le_of_ble_eq_true rfl) (by kernel_rfl) (by decide) (fun _ _ => .v _) ?_
  have k18 : (G.e 18).kd = 0 := by rw [h18]; rfl
  have m18 : (G.e 18).ro = c18 := by rw [h18]; rfl
  rintro ⟨a, l, ⟨⟩⟩ hpre
  simp only [Tryz.f28, go_sem, k18, m18, c18_eq, Nat.reduceAdd, Nat.reduceMul, Nat.reduceLeDiff, Nat.reduceEqDiff, reduceCtorEq, Nat.reduceSub, Int.reduceNeg, Nat.reduceMod, Nat.reduceBEq, Nat.reduceLT] at hpre ⊢

  repeat' (first | with_reducible apply And.intro | intro _ | (refine brB_split (fun hb => ?_) (fun hb => ?_) <;> simp only [hb, go_sem, k18, m18, c18_eq, Nat.reduceAdd, Nat.reduceMul, Nat.reduceLeDiff, Nat.reduceEqDiff, reduceCtorEq, Nat.reduceSub, Int.reduceNeg, Nat.reduceMod, Nat.reduceBEq, Nat.reduceLT] <;> try simp only [bOf_t, bOf_f, decide_eq_true_eq, decide_eq_false_iff_not, Bool.not_eq_true', Bool.not_eq_false', Bool.not_eq_true, Bool.not_eq_false, Decidable.not_not] at hb) | (refine aPickB_split (fun hb => ?_) (fun hb => ?_) <;> simp only [hb, go_sem, k18, m18, c18_eq, Nat.reduceAdd, Nat.reduceMul, Nat.reduceLeDiff, Nat.reduceEqDiff, reduceCtorEq, Nat.reduceSub, Int.reduceNeg, Nat.reduceMod, Nat.reduceBEq, Nat.reduceLT] <;> try simp only [bOf_t, bOf_f, decide_eq_true_eq, decide_eq_false_iff_not, Bool.not_eq_true', Bool.not_eq_false', Bool.not_eq_true, Bool.not_eq_false, Decidable.not_not] at hb) | (refine gB_split (fun hb => ?_) (fun hb => ?_) <;> simp only [hb, go_sem, k18, m18, c18_eq, Nat.reduceAdd, Nat.reduceMul, Nat.reduceLeDiff, Nat.reduceEqDiff, reduceCtorEq, Nat.reduceSub, Int.reduceNeg, Nat.reduceMod, Nat.reduceBEq, Nat.reduceLT] <;> try simp only [bOf_t, bOf_f, decide_eq_true_eq, decide_eq_false_iff_not, Bool.not_eq_true', Bool.not_eq_false', Bool.not_eq_true, Bool.not_eq_false, Decidable.not_not] at hb))
  all_goals simp only [szRu, maxLen] at *
  all_goals first | rfl | omega | (simp [*]; done) | trace_state

def c6 : Ct := ctR (lc ERu.asl (lc AInt l0)) (fun p => 0 ≤ p.2.1 ∧ p.2.1 ≤ 1048576) (fun p => .t (.v (.int .i64 (szL szRu p.1 p.2.1))))
theorem c6_eq {args : List AV} {K : AV → Prop} : c6 args K = K0 (fun p => 0 ≤ p.2.1 ∧ p.2.1 ≤ 1048576) (fun p => .t (.v (.int .i64 (szL szRu p.1 p.2.1)))) K ((lc ERu.asl (lc AInt l0)).dec args) := rfl
theorem good6 {G : Gt} (hG : GOk Tryz.prog G ∧ GDet G) (h28 : G.e 28 = roEnt 0 c28) : Good Tryz.prog G.m 6 (roEnt 0 c6) := by
  refine good_run (dp := fun _ => true) (fn := Tryz.f6) (n := 2) (fun _ => rfl) (by kernel_rfl) rfl (by kernel_rfl) hmix hG (Nat.le_of_ble_eq_true rfl) (by kernel_rfl) (by decide) (fun _ _ => .v _) ?_
  have k28 : (G.e 28).kd = 0 := by rw [h28]; rfl
  have m28 : (G.e 28).ro = c28 := by rw [h28]; rfl
  rintro ⟨xs, l, ⟨⟩⟩ hpre
  simp only [Tryz.f6, go_sem, k28, m28, c28_eq, Nat.reduceAdd, Nat.reduceMul, Nat.reduceLeDiff, Nat.reduceEqDiff, reduceCtorEq, Nat.reduceSub, Int.reduceNeg, Nat.reduceMod, Nat.reduceBEq, Nat.reduceLT] at hpre ⊢

  repeat' (first | with_reducible apply And.intro | intro _ | (refine brB_split (fun hb => ?_) (fun hb => ?_) <;> simp only [hb, go_sem, k28, m28, c28_eq, Nat.reduceAdd, Nat.reduceMul, Nat.reduceLeDiff, Nat.reduceEqDiff, reduceCtorEq, Nat.reduceSub, Int.reduceNeg, Nat.reduceMod, Nat.reduceBEq, Nat.reduceLT] <;> try simp only [bOf_t, bOf_f, decide_eq_true_eq, decide_eq_false_iff_not, Bool.not_eq_true', Bool.not_eq_false', Bool.not_eq_true, Bool.not_eq_false, Decidable.not_not] at hb) | (refine aPickB_split (fun hb => ?_) (fun hb => ?_) <;> simp only [hb, go_sem, k28, m28, c28_eq, Nat.reduceAdd, Nat.reduceMul, Nat.reduceLeDiff, Nat.reduceEqDiff, reduceCtorEq, Nat.reduceSub, Int.reduceNeg, Nat.reduceMod, Nat.reduceBEq, Nat.reduceLT] <;> try simp only [bOf_t, bOf_f, decide_eq_true_eq, decide_eq_false_iff_not, Bool.not_eq_true', Bool.not_eq_false', Bool.not_eq_true, Bool.not_eq_false, Decidable.not_not] at hb) | (refine gB_split (fun hb => ?_) (fun hb => ?_) <;> simp only [hb, go_sem, k28, m28, c28_eq, Nat.reduceAdd, Nat.reduceMul, Nat.reduceLeDiff, Nat.reduceEqDiff, reduceCtorEq, Nat.reduceSub, Int.reduceNeg, Nat.reduceMod, Nat.reduceBEq, Nat.reduceLT] <;> try simp only [bOf_t, bOf_f, decide_eq_true_eq, decide_eq_false_iff_not, Bool.not_eq_true', Bool.not_eq_false', Bool.not_eq_true, Bool.not_eq_false, Decidable.not_not] at hb))
  all_goals simp only [maxLen] at *
  all_goals first | omega | skip
  · have : szL szRu xs l = -1 := by unfold szL; rw [if_pos (by omega)]
    simp [this]
  · refine run_loop [] (ι := {p : Nat × Int // p.1 ≤ xs.length ∧ 0 ≤ p.2 ∧ p.2 ≤ 1048576 ∧ szF szRu p.2 (xs.drop p.1) = szL szRu xs l}) (fun p => ⟨[(0, .t (.sl (xs.map encRu))), (1, .t (.v (.int .i64 p.1.2))), (5, .t (.v (.int .i64 p.1.1)))], []⟩) (fun p => xs.length - p.1.1) ⟨(0, l - xs.length), by simp, by simp only []; omega, by simp only []; omega, by rw [szL, if_neg (by omega)]; rfl⟩ rfl ?_ ?_
    · simp only [go_sem, k28, m28, c28_eq, Nat.reduceAdd, Nat.reduceMul, Nat.reduceLeDiff, Nat.reduceEqDiff, reduceCtorEq, Nat.reduceSub, Int.reduceNeg, Nat.reduceMod, Nat.reduceBEq, Nat.reduceLT]
      simp
    · rintro ⟨⟨i, v⟩, hi, h0, h1, hv⟩
      simp only [go_sem, k28, m28, c28_eq, Nat.reduceAdd, Nat.reduceMul, Nat.reduceLeDiff, Nat.reduceEqDiff, reduceCtorEq, Nat.reduceSub, Int.reduceNeg, Nat.reduceMod, Nat.reduceBEq, Nat.reduceLT]
      repeat' (first | with_reducible apply And.intro | intro _ | (refine brB_split (fun hb => ?_) (fun hb => ?_) <;> simp only [hb, go_sem, k28, m28, c28_eq, Nat.reduceAdd, Nat.reduceMul, Nat.reduceLeDiff, Nat.reduceEqDiff, reduceCtorEq, Nat.reduceSub, Int.reduceNeg, Nat.reduceMod, Nat.reduceBEq, Nat.reduceLT] <;> try simp only [bOf_t, bOf_f, decide_eq_true_eq, decide_eq_false_iff_not, Bool.not_eq_true', Bool.not_eq_false', Bool.not_eq_true, Bool.not_eq_false, Decidable.not_not] at hb) | (refine aPickB_split (fun hb => ?_) (fun hb => ?_) <;> simp only [hb, go_sem, k28, m28, c28_eq, Nat.reduceAdd, Nat.reduceMul, Nat.reduceLeDiff, Nat.reduceEqDiff, reduceCtorEq, Nat.reduceSub, Int.reduceNeg, Nat.reduceMod, Nat.reduceBEq, Nat.reduceLT] <;> try simp only [bOf_t, bOf_f, decide_eq_true_eq, decide_eq_false_iff_not, Bool.not_eq_true', Bool.not_eq_false', Bool.not_eq_true, Bool.not_eq_false, Decidable.not_not] at hb) | (refine gB_split (fun hb => ?_) (fun hb => ?_) <;> simp only [hb, go_sem, k28, m28, c28_eq, Nat.reduceAdd, Nat.reduceMul, Nat.reduceLeDiff, Nat.reduceEqDiff, reduceCtorEq, Nat.reduceSub, Int.reduceNeg, Nat.reduceMod, Nat.reduceBEq, Nat.reduceLT] <;> try simp only [bOf_t, bOf_f, decide_eq_true_eq, decide_eq_false_iff_not, Bool.not_eq_true', Bool.not_eq_false', Bool.not_eq_true, Bool.not_eq_false, Decidable.not_not] at hb))
      all_goals simp only [maxLen, Int.toNat_natCast] at *
      all_goals first | omega | skip
      all_goals (try dsimp only at *)
      · have h2 : i < xs.length := by omega
        rw [szF_step h2, if_pos hb] at hv
        rw [← hv]
      · have h2 : i < xs.length := by omega
        rw [szF_step h2, if_neg hb] at hv
        have h3 := szRu_le (xs.getD i default) v
        skip
        refine ⟨⟨(i + 1, szRu (xs.getD i default) v), by simp only []; omega, by simp only []; omega, by simp only []; omega, hv⟩, by dsimp only; omega, ?_⟩
        simp only [go_sem, k28, m28, c28_eq, Nat.reduceAdd, Nat.reduceMul, Nat.reduceLeDiff, Nat.reduceEqDiff, reduceCtorEq, Nat.reduceSub, Int.reduceNeg, Nat.reduceMod, Nat.reduceBEq, Nat.reduceLT]
        simp
      · have h2 : xs.length ≤ i := by omega
        rw [szF_end h2] at hv
        rw [hv]

def c7 : Ct := ctR (lc EMl.ag (lc AInt l0)) (fun p => 0 ≤ p.2.1 ∧ p.2.1 ≤ 1048576) (fun p => .t (.v (.int .i64 (szMl p.1 p.2.1))))
theorem c7_eq {args : List AV} {K : AV → Prop} : c7 args K = K0 (fun p => 0 ≤ p.2.1 ∧ p.2.1 ≤ 1048576) (fun p => .t (.v (.int .i64 (szMl p.1 p.2.1)))) K ((lc EMl.ag (lc AInt l0)).dec args) := rfl
theorem good7 {G : Gt} (hG : GOk Tryz.prog G ∧ GDet G) (h18 : G.e 18 = roEnt 0 c18) (h29 : G.e 29 = roEnt 0 c29) (h30 : G.e 30 = roEnt 0 c30) : Good Tryz.prog G.m 7 (roEnt 0 c7) := by
  refine good_run (dp := fun _ => true) (fn := Tryz.f7) (n := 2) (fun _ => rfl) (by kernel_rfl) rfl (by kernel_rfl) hmix hG (Nat.le_of_ble_eq_true rfl) (by kernel_rfl) (by decide) (fun _ _ => .v _) ?_
  have k18 : (G.e 18).kd = 0 := by rw [h18]; rfl
  have m18 : (G.e 18).ro = c18 := by rw [h18]; rfl
  have k29 : (G.e 29).kd = 0 := by rw [h29]; rfl
  have m29 : (G.e 29).ro = c29 := by rw [h29]; rfl
  have k30 : (G.e 30).kd = 0 := by rw [h30]; rfl
  have m30 : (G.e 30).ro = c30 := by rw [h30]; rfl
  rintro ⟨a, l, ⟨⟩⟩ hpre
  simp only [Tryz.f7, go_sem, k18, m18, c18_eq, k29, m29, c29_eq, k30, m30, c30_eq, Nat.reduceAdd, Nat.reduceMul, Nat.reduceLeDiff, Nat.reduceEqDiff, reduceCtorEq, Nat.reduceSub, Int.reduceNeg, Nat.reduceMod, Nat.reduceBEq, Nat.reduceLT] at hpre ⊢

  repeat' (first | with_reducible apply And.intro | intro _ | (refine brB_split (fun hb => ?_) (fun hb => ?_) <;> simp only [hb, go_sem, k18, m18, c18_eq, k29, m29, c29_eq, k30, m30, c30_eq, Nat.reduceAdd, Nat.reduceMul, Nat.reduceLeDiff, Nat.reduceEqDiff, reduceCtorEq, Nat.reduceSub, Int.reduceNeg, Nat.reduceMod, Nat.reduceBEq, Nat.reduceLT] <;> try simp only [bOf_t, bOf_f, decide_eq_true_eq, decide_eq_false_iff_not, Bool.not_eq_true', Bool.not_eq_false', Bool.not_eq_true, Bool.not_eq_false, Decidable.not_not] at hb) | (refine aPickB_split (fun hb => ?_) (fun hb => ?_) <;> simp only [hb, go_sem, k18, m18, c18_eq, k29, m29, c29_eq, k30, m30, c30_eq, Nat.reduceAdd, Nat.reduceMul, Nat.reduceLeDiff, Nat.reduceEqDiff, reduceCtorEq, Nat.reduceSub, Int.reduceNeg, Nat.reduceMod, Nat.reduceBEq, Nat.reduceLT] <;> try simp only [bOf_t, bOf_f, decide_eq_true_eq, decide_eq_false_iff_not, Bool.not_eq_true', Bool.not_eq_false', Bool.not_eq_true, Bool.not_eq_false, Decidable.not_not] at hb) | (refine gB_split (fun hb => ?_) (fun hb => ?_) <;> simp only [hb, go_sem, k18, m18, c18_eq, k29, m29, c29_eq, k30, m30, c30_eq, Nat.reduceAdd, Nat.reduceMul, Nat.reduceLeDiff, Nat.reduceEqDiff, reduceCtorEq, Nat.reduceSub, Int.reduceNeg, Nat.reduceMod, Nat.reduceBEq, Nat.reduceLT] <;> try simp only [bOf_t, bOf_f, decide_eq_true_eq, decide_eq_false_iff_not, Bool.not_eq_true', Bool.not_eq_false', Bool.not_eq_true, Bool.not_eq_false, Decidable.not_not] at hb))
  all_goals have q1 := szAd_le a.frm l
  all_goals have q2 := szL_le szAd_le a.to (szAd a.frm l)
  all_goals have q3 := szL_le szStr_le a.body (szL szAd a.to (szAd a.frm l))
  all_goals (try simp only [szMl, maxLen] at *)
  all_goals first | rfl | omega | (simp [*]; done) | skip


def fillTo {α : Type} [Inhabited α] (xs : List α) (i : Nat) : List α := xs.take i ++ List.replicate (xs.length - i) default
theorem fillTo_len {α : Type} [Inhabited α] {xs : List α} {i : Nat} (h : i ≤ xs.length) : (fillTo xs i).length = xs.length := by simp [fillTo]; omega
theorem fillTo_0 {α : Type} [Inhabited α] {enc : α → List T} (xs : List α) : (fillTo xs 0).map enc = List.replicate xs.length (enc default) := by simp [fillTo]
theorem fillTo_end {α : Type} [Inhabited α] {xs : List α} {i : Nat} (h : xs.length ≤ i) : fillTo xs i = xs := by
  have : xs.length - i = 0 := by omega
  simp [fillTo, List.take_of_length_le h, this]
theorem fillTo_set {α : Type} [Inhabited α] {enc : α → List T} {xs : List α} {i : Nat} (h : i < xs.length) {c : List T} (hc : c = enc (xs.getD i default)) : ((fillTo xs i).map enc).set i c = (fillTo xs (i + 1)).map enc := by
  rw [hc, ← List.map_set]
  congr 1
  apply List.ext_getElem?
  intro j
  unfold fillTo
  rw [List.getElem?_set]
  by_cases e : i = j
  · subst e
    have h1 : i < (List.take i xs ++ List.replicate (xs.length - i) default).length := by simp; omega
    rw [if_pos rfl, if_pos h1]
    rw [List.getElem?_append_left (by simp; omega)]
    simp [h]
  · rw [if_neg e]
    by_cases h2 : j < i
    · rw [List.getElem?_append_left (by simp; omega), List.getElem?_append_left (by simp; omega)]
      rw [List.getElem?_take_of_lt h2, List.getElem?_take_of_lt (by omega)]
    · have h3 : i + 1 ≤ j := by omega
      rw [List.getElem?_append_right (by simp; omega), List.getElem?_append_right (by simp; omega)]
      rw [List.getElem?_replicate, List.getElem?_replicate]
      have e1 : (List.take i xs).length = i := by simp; omega
      have e2 : (List.take (i + 1) xs).length = i + 1 := by simp; omega
      rw [e1, e2]
      by_cases h4 : j < xs.length
      · rw [if_pos (by omega), if_pos (by omega)]
      · rw [if_neg (by omega), if_neg (by omega)]
def c21 : Ct := ctR (lc EAd.ag l0) (fun p => True) (fun p => .agg ((encAd p.1).map .t))
theorem c21_eq {args : List AV} {K : AV → Prop} : c21 args K = K0 (fun p => True) (fun p => .agg ((encAd p.1).map .t)) K ((lc EAd.ag l0).dec args) := rfl
theorem good21 {G : Gt} (hG : GOk Tryz.prog G ∧ GDet G) : Good Tryz.prog G.m 21 (roEnt 0 c21) := by
  refine good_run (dp := fun _ => true) (fn := Tryz.f21) (n := 1) (fun _ => rfl) (by kernel_rfl) rfl (by kernel_rfl) hmix hG (Nat.le_of_ble_eq_true rfl) (by kernel_rfl) (by decide) (fun _ p => .agg _ (by intro c hc; simp [encAd] at hc; rcases hc with rfl | rfl <;> exact .v _)) ?_
  rintro ⟨a, ⟨⟩⟩ hpre
  simp only [Tryz.f21, go_sem, Nat.reduceAdd, Nat.reduceMul, Nat.reduceLeDiff, Nat.reduceEqDiff, reduceCtorEq, Nat.reduceSub, Int.reduceNeg, Nat.reduceMod, Nat.reduceBEq, Nat.reduceLT] at hpre ⊢

  repeat' (first | with_reducible apply And.intro | intro _ | (refine brB_split (fun hb => ?_) (fun hb => ?_) <;> simp only [hb, go_sem, Nat.reduceAdd, Nat.reduceMul, Nat.reduceLeDiff, Nat.reduceEqDiff, reduceCtorEq, Nat.reduceSub, Int.reduceNeg, Nat.reduceMod, Nat.reduceBEq, Nat.reduceLT] <;> try simp only [bOf_t, bOf_f, decide_eq_true_eq, decide_eq_false_iff_not, Bool.not_eq_true', Bool.not_eq_false', Bool.not_eq_true, Bool.not_eq_false, Decidable.not_not] at hb) | (refine aPickB_split (fun hb => ?_) (fun hb => ?_) <;> simp only [hb, go_sem, Nat.reduceAdd, Nat.reduceMul, Nat.reduceLeDiff, Nat.reduceEqDiff, reduceCtorEq, Nat.reduceSub, Int.reduceNeg, Nat.reduceMod, Nat.reduceBEq, Nat.reduceLT] <;> try simp only [bOf_t, bOf_f, decide_eq_true_eq, decide_eq_false_iff_not, Bool.not_eq_true', Bool.not_eq_false', Bool.not_eq_true, Bool.not_eq_false, Decidable.not_not] at hb) | (refine gB_split (fun hb => ?_) (fun hb => ?_) <;> simp only [hb, go_sem, Nat.reduceAdd, Nat.reduceMul, Nat.reduceLeDiff, Nat.reduceEqDiff, reduceCtorEq, Nat.reduceSub, Int.reduceNeg, Nat.reduceMod, Nat.reduceBEq, Nat.reduceLT] <;> try simp only [bOf_t, bOf_f, decide_eq_true_eq, decide_eq_false_iff_not, Bool.not_eq_true', Bool.not_eq_false', Bool.not_eq_true, Bool.not_eq_false, Decidable.not_not] at hb))
  all_goals first | rfl | omega | skip
  trace_state

def c37 : Ct := ctR (lc EStr.asl l0) (fun p => (p.1.length : Int) ≤ 1048576) (fun p => .o true 1 (p.1.map encStr))
theorem c37_eq {args : List AV} {K : AV → Prop} : c37 args K = K0 (fun p => (p.1.length : Int) ≤ 1048576) (fun p => .o true 1 (p.1.map encStr)) K ((lc EStr.asl l0).dec args) := rfl
theorem good37 {G : Gt} (hG : GOk Tryz.prog G ∧ GDet G) : Good Tryz.prog G.m 37 (roEnt 0 c37) := by
  refine good_run (dp := fun _ => true) (fn := Tryz.f37) (n := 1) (fun _ => rfl) (by kernel_rfl) rfl (by kernel_rfl) hmix hG (Nat.le_of_ble_eq_true rfl) (by kernel_rfl) (by decide) (fun _ _ => .deep _ _) ?_
  rintro ⟨xs, ⟨⟩⟩ hpre
  simp only [Tryz.f37, go_sem, aSet_map, aCell_map, List.map_replicate, Nat.reduceAdd, Nat.reduceMul, Nat.reduceLeDiff, Nat.reduceEqDiff, reduceCtorEq, Nat.reduceSub, Int.reduceNeg, Nat.reduceMod, Nat.reduceBEq, Nat.reduceLT] at hpre ⊢

  repeat' (first | with_reducible apply And.intro | intro _ | (refine brB_split (fun hb => ?_) (fun hb => ?_) <;> simp only [hb, go_sem, aSet_map, aCell_map, List.map_replicate, Nat.reduceAdd, Nat.reduceMul, Nat.reduceLeDiff, Nat.reduceEqDiff, reduceCtorEq, Nat.reduceSub, Int.reduceNeg, Nat.reduceMod, Nat.reduceBEq, Nat.reduceLT] <;> try simp only [bOf_t, bOf_f, decide_eq_true_eq, decide_eq_false_iff_not, Bool.not_eq_true', Bool.not_eq_false', Bool.not_eq_true, Bool.not_eq_false, Decidable.not_not] at hb) | (refine aPickB_split (fun hb => ?_) (fun hb => ?_) <;> simp only [hb, go_sem, aSet_map, aCell_map, List.map_replicate, Nat.reduceAdd, Nat.reduceMul, Nat.reduceLeDiff, Nat.reduceEqDiff, reduceCtorEq, Nat.reduceSub, Int.reduceNeg, Nat.reduceMod, Nat.reduceBEq, Nat.reduceLT] <;> try simp only [bOf_t, bOf_f, decide_eq_true_eq, decide_eq_false_iff_not, Bool.not_eq_true', Bool.not_eq_false', Bool.not_eq_true, Bool.not_eq_false, Decidable.not_not] at hb) | (refine gB_split (fun hb => ?_) (fun hb => ?_) <;> simp only [hb, go_sem, aSet_map, aCell_map, List.map_replicate, Nat.reduceAdd, Nat.reduceMul, Nat.reduceLeDiff, Nat.reduceEqDiff, reduceCtorEq, Nat.reduceSub, Int.reduceNeg, Nat.reduceMod, Nat.reduceBEq, Nat.reduceLT] <;> try simp only [bOf_t, bOf_f, decide_eq_true_eq, decide_eq_false_iff_not, Bool.not_eq_true', Bool.not_eq_false', Bool.not_eq_true, Bool.not_eq_false, Decidable.not_not] at hb))
  all_goals (try simp only [maxLen] at *)
  all_goals first | rfl | omega | skip
  · refine run_loop [] (ι := {i : Nat // i ≤ xs.length}) (fun p => ⟨[(0, .t (.sl (xs.map encStr))), (3, .h 1007), (4, .t (.v (.int .i64 p.1)))], [(1007, some (.arr true 1 ((fillTo xs p.1).map encStr)))]⟩) (fun p => xs.length - p.1) ⟨0, by omega⟩ rfl ?_ ?_
    · simp only [go_sem, aSet_map, aCell_map, List.map_replicate, Nat.reduceAdd, Nat.reduceMul, Nat.reduceLeDiff, Nat.reduceEqDiff, reduceCtorEq, Nat.reduceSub, Int.reduceNeg, Nat.reduceMod, Nat.reduceBEq, Nat.reduceLT]
      simp [fillTo_0]
      try (exact .inr rfl)
    · rintro ⟨i, hi⟩
      simp only [go_sem, aSet_map, aCell_map, List.map_replicate, Nat.reduceAdd, Nat.reduceMul, Nat.reduceLeDiff, Nat.reduceEqDiff, reduceCtorEq, Nat.reduceSub, Int.reduceNeg, Nat.reduceMod, Nat.reduceBEq, Nat.reduceLT]
      have hl := fillTo_len hi
      repeat' (first | with_reducible apply And.intro | intro _ | (refine brB_split (fun hb => ?_) (fun hb => ?_) <;> simp only [hb, go_sem, aSet_map, aCell_map, List.map_replicate, Nat.reduceAdd, Nat.reduceMul, Nat.reduceLeDiff, Nat.reduceEqDiff, reduceCtorEq, Nat.reduceSub, Int.reduceNeg, Nat.reduceMod, Nat.reduceBEq, Nat.reduceLT] <;> try simp only [bOf_t, bOf_f, decide_eq_true_eq, decide_eq_false_iff_not, Bool.not_eq_true', Bool.not_eq_false', Bool.not_eq_true, Bool.not_eq_false, Decidable.not_not] at hb) | (refine aPickB_split (fun hb => ?_) (fun hb => ?_) <;> simp only [hb, go_sem, aSet_map, aCell_map, List.map_replicate, Nat.reduceAdd, Nat.reduceMul, Nat.reduceLeDiff, Nat.reduceEqDiff, reduceCtorEq, Nat.reduceSub, Int.reduceNeg, Nat.reduceMod, Nat.reduceBEq, Nat.reduceLT] <;> try simp only [bOf_t, bOf_f, decide_eq_true_eq, decide_eq_false_iff_not, Bool.not_eq_true', Bool.not_eq_false', Bool.not_eq_true, Bool.not_eq_false, Decidable.not_not] at hb) | (refine gB_split (fun hb => ?_) (fun hb => ?_) <;> simp only [hb, go_sem, aSet_map, aCell_map, List.map_replicate, Nat.reduceAdd, Nat.reduceMul, Nat.reduceLeDiff, Nat.reduceEqDiff, reduceCtorEq, Nat.reduceSub, Int.reduceNeg, Nat.reduceMod, Nat.reduceBEq, Nat.reduceLT] <;> try simp only [bOf_t, bOf_f, decide_eq_true_eq, decide_eq_false_iff_not, Bool.not_eq_true', Bool.not_eq_false', Bool.not_eq_true, Bool.not_eq_false, Decidable.not_not] at hb))
      all_goals (try simp only [maxLen, Int.toNat_natCast, fillTo_len hi, List.length_map] at *)
      all_goals first | rfl | omega | skip
      · refine ⟨⟨i + 1, by omega⟩, by simp only []; omega, ?_⟩
        have h2 : i < xs.length := by omega
        simp only [go_sem, aSet_map, aCell_map, List.map_replicate, Nat.reduceAdd, Nat.reduceMul, Nat.reduceLeDiff, Nat.reduceEqDiff, reduceCtorEq, Nat.reduceSub, Int.reduceNeg, Nat.reduceMod, Nat.reduceBEq, Nat.reduceLT]
        repeat' (first | with_reducible apply And.intro | intro _ | (refine brB_split (fun hb => ?_) (fun hb => ?_) <;> simp only [hb, go_sem, aSet_map, aCell_map, List.map_replicate, Nat.reduceAdd, Nat.reduceMul, Nat.reduceLeDiff, Nat.reduceEqDiff, reduceCtorEq, Nat.reduceSub, Int.reduceNeg, Nat.reduceMod, Nat.reduceBEq, Nat.reduceLT] <;> try simp only [bOf_t, bOf_f, decide_eq_true_eq, decide_eq_false_iff_not, Bool.not_eq_true', Bool.not_eq_false', Bool.not_eq_true, Bool.not_eq_false, Decidable.not_not] at hb) | (refine aPickB_split (fun hb => ?_) (fun hb => ?_) <;> simp only [hb, go_sem, aSet_map, aCell_map, List.map_replicate, Nat.reduceAdd, Nat.reduceMul, Nat.reduceLeDiff, Nat.reduceEqDiff, reduceCtorEq, Nat.reduceSub, Int.reduceNeg, Nat.reduceMod, Nat.reduceBEq, Nat.reduceLT] <;> try simp only [bOf_t, bOf_f, decide_eq_true_eq, decide_eq_false_iff_not, Bool.not_eq_true', Bool.not_eq_false', Bool.not_eq_true, Bool.not_eq_false, Decidable.not_not] at hb) | (refine gB_split (fun hb => ?_) (fun hb => ?_) <;> simp only [hb, go_sem, aSet_map, aCell_map, List.map_replicate, Nat.reduceAdd, Nat.reduceMul, Nat.reduceLeDiff, Nat.reduceEqDiff, reduceCtorEq, Nat.reduceSub, Int.reduceNeg, Nat.reduceMod, Nat.reduceBEq, Nat.reduceLT] <;> try simp only [bOf_t, bOf_f, decide_eq_true_eq, decide_eq_false_iff_not, Bool.not_eq_true', Bool.not_eq_false', Bool.not_eq_true, Bool.not_eq_false, Decidable.not_not] at hb))
        all_goals first | exact congrArg (fun l => some (Ob.arr true 1 l)) (fillTo_set h2 rfl) | exact congrArg (fun l => Ob.arr true 1 l) (fillTo_set h2 rfl) | rfl | (simp; done)
      · rw [fillTo_end (by omega)]
      · simp

def c36 : Ct := ctR (lc EAd.asl l0) (fun p => (p.1.length : Int) ≤ 1048576) (fun p => .o true 2 (p.1.map encAd))
theorem c36_eq {args : List AV} {K : AV → Prop} : c36 args K = K0 (fun p => (p.1.length : Int) ≤ 1048576) (fun p => .o true 2 (p.1.map encAd)) K ((lc EAd.asl l0).dec args) := rfl
theorem good36 {G : Gt} (hG : GOk Tryz.prog G ∧ GDet G) (h21 : G.e 21 = roEnt 0 c21) : Good Tryz.prog G.m 36 (roEnt 0 c36) := by
  refine good_run (dp := fun _ => true) (fn := Tryz.f36) (n := 1) (fun _ => rfl) (by kernel_rfl) rfl (by kernel_rfl) hmix hG (Nat.le_of_ble_eq_true rfl) (by kernel_rfl) (by decide) (fun _ _ => .deep _ _) ?_
  have k21 : (G.e 21).kd = 0 := by rw [h21]; rfl
  have m21 : (G.e 21).ro = c21 := by rw [h21]; rfl
  rintro ⟨xs, ⟨⟩⟩ hpre
  simp only [Tryz.f36, go_sem, k21, m21, c21_eq, aSet_map, aCell_map, List.map_replicate, Nat.reduceAdd, Nat.reduceMul, Nat.reduceLeDiff, Nat.reduceEqDiff, reduceCtorEq, Nat.reduceSub, Int.reduceNeg, Nat.reduceMod, Nat.reduceBEq, Nat.reduceLT] at hpre ⊢

  repeat' (first | with_reducible apply And.intro | intro _ | (refine brB_split (fun hb => ?_) (fun hb => ?_) <;> simp only [hb, go_sem, k21, m21, c21_eq, aSet_map, aCell_map, List.map_replicate, Nat.reduceAdd, Nat.reduceMul, Nat.reduceLeDiff, Nat.reduceEqDiff, reduceCtorEq, Nat.reduceSub, Int.reduceNeg, Nat.reduceMod, Nat.reduceBEq, Nat.reduceLT] <;> try simp only [bOf_t, bOf_f, decide_eq_true_eq, decide_eq_false_iff_not, Bool.not_eq_true', Bool.not_eq_false', Bool.not_eq_true, Bool.not_eq_false, Decidable.not_not] at hb) | (refine aPickB_split (fun hb => ?_) (fun hb => ?_) <;> simp only [hb, go_sem, k21, m21, c21_eq, aSet_map, aCell_map, List.map_replicate, Nat.reduceAdd, Nat.reduceMul, Nat.reduceLeDiff, Nat.reduceEqDiff, reduceCtorEq, Nat.reduceSub, Int.reduceNeg, Nat.reduceMod, Nat.reduceBEq, Nat.reduceLT] <;> try simp only [bOf_t, bOf_f, decide_eq_true_eq, decide_eq_false_iff_not, Bool.not_eq_true', Bool.not_eq_false', Bool.not_eq_true, Bool.not_eq_false, Decidable.not_not] at hb) | (refine gB_split (fun hb => ?_) (fun hb => ?_) <;> simp only [hb, go_sem, k21, m21, c21_eq, aSet_map, aCell_map, List.map_replicate, Nat.reduceAdd, Nat.reduceMul, Nat.reduceLeDiff, Nat.reduceEqDiff, reduceCtorEq, Nat.reduceSub, Int.reduceNeg, Nat.reduceMod, Nat.reduceBEq, Nat.reduceLT] <;> try simp only [bOf_t, bOf_f, decide_eq_true_eq, decide_eq_false_iff_not, Bool.not_eq_true', Bool.not_eq_false', Bool.not_eq_true, Bool.not_eq_false, Decidable.not_not] at hb))
  all_goals (try simp only [maxLen] at *)
  all_goals first | rfl | omega | skip
  · refine run_loop [] (ι := {i : Nat // i ≤ xs.length}) (fun p => ⟨[(0, .t (.sl (xs.map encAd))), (3, .h 1007), (4, .t (.v (.int .i64 p.1)))], [(1007, some (.arr true 2 ((fillTo xs p.1).map encAd)))]⟩) (fun p => xs.length - p.1) ⟨0, by omega⟩ rfl ?_ ?_
    · simp only [go_sem, k21, m21, c21_eq, aSet_map, aCell_map, List.map_replicate, Nat.reduceAdd, Nat.reduceMul, Nat.reduceLeDiff, Nat.reduceEqDiff, reduceCtorEq, Nat.reduceSub, Int.reduceNeg, Nat.reduceMod, Nat.reduceBEq, Nat.reduceLT]
      simp [fillTo_0]
      try (exact .inr rfl)
    · rintro ⟨i, hi⟩
      simp only [go_sem, k21, m21, c21_eq, aSet_map, aCell_map, List.map_replicate, Nat.reduceAdd, Nat.reduceMul, Nat.reduceLeDiff, Nat.reduceEqDiff, reduceCtorEq, Nat.reduceSub, Int.reduceNeg, Nat.reduceMod, Nat.reduceBEq, Nat.reduceLT]
      have hl := fillTo_len hi
      repeat' (first | with_reducible apply And.intro | intro _ | (refine brB_split (fun hb => ?_) (fun hb => ?_) <;> simp only [hb, go_sem, k21, m21, c21_eq, aSet_map, aCell_map, List.map_replicate, Nat.reduceAdd, Nat.reduceMul, Nat.reduceLeDiff, Nat.reduceEqDiff, reduceCtorEq, Nat.reduceSub, Int.reduceNeg, Nat.reduceMod, Nat.reduceBEq, Nat.reduceLT] <;> try simp only [bOf_t, bOf_f, decide_eq_true_eq, decide_eq_false_iff_not, Bool.not_eq_true', Bool.not_eq_false', Bool.not_eq_true, Bool.not_eq_false, Decidable.not_not] at hb) | (refine aPickB_split (fun hb => ?_) (fun hb => ?_) <;> simp only [hb, go_sem, k21, m21, c21_eq, aSet_map, aCell_map, List.map_replicate, Nat.reduceAdd, Nat.reduceMul, Nat.reduceLeDiff, Nat.reduceEqDiff, reduceCtorEq, Nat.reduceSub, Int.reduceNeg, Nat.reduceMod, Nat.reduceBEq, Nat.reduceLT] <;> try simp only [bOf_t, bOf_f, decide_eq_true_eq, decide_eq_false_iff_not, Bool.not_eq_true', Bool.not_eq_false', Bool.not_eq_true, Bool.not_eq_false, Decidable.not_not] at hb) | (refine gB_split (fun hb => ?_) (fun hb => ?_) <;> simp only [hb, go_sem, k21, m21, c21_eq, aSet_map, aCell_map, List.map_replicate, Nat.reduceAdd, Nat.reduceMul, Nat.reduceLeDiff, Nat.reduceEqDiff, reduceCtorEq, Nat.reduceSub, Int.reduceNeg, Nat.reduceMod, Nat.reduceBEq, Nat.reduceLT] <;> try simp only [bOf_t, bOf_f, decide_eq_true_eq, decide_eq_false_iff_not, Bool.not_eq_true', Bool.not_eq_false', Bool.not_eq_true, Bool.not_eq_false, Decidable.not_not] at hb))
      all_goals (try simp only [maxLen, Int.toNat_natCast, fillTo_len hi, List.length_map] at *)
      all_goals first | rfl | omega | skip
      · refine ⟨⟨i + 1, by omega⟩, by simp only []; omega, ?_⟩
        have h2 : i < xs.length := by omega
        simp only [go_sem, k21, m21, c21_eq, aSet_map, aCell_map, List.map_replicate, Nat.reduceAdd, Nat.reduceMul, Nat.reduceLeDiff, Nat.reduceEqDiff, reduceCtorEq, Nat.reduceSub, Int.reduceNeg, Nat.reduceMod, Nat.reduceBEq, Nat.reduceLT]
        repeat' (first | with_reducible apply And.intro | intro _ | (refine brB_split (fun hb => ?_) (fun hb => ?_) <;> simp only [hb, go_sem, k21, m21, c21_eq, aSet_map, aCell_map, List.map_replicate, Nat.reduceAdd, Nat.reduceMul, Nat.reduceLeDiff, Nat.reduceEqDiff, reduceCtorEq, Nat.reduceSub, Int.reduceNeg, Nat.reduceMod, Nat.reduceBEq, Nat.reduceLT] <;> try simp only [bOf_t, bOf_f, decide_eq_true_eq, decide_eq_false_iff_not, Bool.not_eq_true', Bool.not_eq_false', Bool.not_eq_true, Bool.not_eq_false, Decidable.not_not] at hb) | (refine aPickB_split (fun hb => ?_) (fun hb => ?_) <;> simp only [hb, go_sem, k21, m21, c21_eq, aSet_map, aCell_map, List.map_replicate, Nat.reduceAdd, Nat.reduceMul, Nat.reduceLeDiff, Nat.reduceEqDiff, reduceCtorEq, Nat.reduceSub, Int.reduceNeg, Nat.reduceMod, Nat.reduceBEq, Nat.reduceLT] <;> try simp only [bOf_t, bOf_f, decide_eq_true_eq, decide_eq_false_iff_not, Bool.not_eq_true', Bool.not_eq_false', Bool.not_eq_true, Bool.not_eq_false, Decidable.not_not] at hb) | (refine gB_split (fun hb => ?_) (fun hb => ?_) <;> simp only [hb, go_sem, k21, m21, c21_eq, aSet_map, aCell_map, List.map_replicate, Nat.reduceAdd, Nat.reduceMul, Nat.reduceLeDiff, Nat.reduceEqDiff, reduceCtorEq, Nat.reduceSub, Int.reduceNeg, Nat.reduceMod, Nat.reduceBEq, Nat.reduceLT] <;> try simp only [bOf_t, bOf_f, decide_eq_true_eq, decide_eq_false_iff_not, Bool.not_eq_true', Bool.not_eq_false', Bool.not_eq_true, Bool.not_eq_false, Decidable.not_not] at hb))
        all_goals first | exact congrArg (fun l => some (Ob.arr true 2 l)) (fillTo_set h2 rfl) | exact congrArg (fun l => Ob.arr true 2 l) (fillTo_set h2 rfl) | rfl | (simp; done)
      · rw [fillTo_end (by omega)]
      · simp

def c10 : Ct := ctR (lc EMl.ag l0) (fun p => (p.1.to.length : Int) ≤ 1048576 ∧ (p.1.body.length : Int) ≤ 1048576) (fun p => .agg [.t (.v (.string p.1.frm.user)), .t (.v (.string p.1.frm.domain)), .o true 2 (p.1.to.map encAd), .o true 1 (p.1.body.map encStr)])
theorem c10_eq {args : List AV} {K : AV → Prop} : c10 args K = K0 (fun p => (p.1.to.length : Int) ≤ 1048576 ∧ (p.1.body.length : Int) ≤ 1048576) (fun p => .agg [.t (.v (.string p.1.frm.user)), .t (.v (.string p.1.frm.domain)), .o true 2 (p.1.to.map encAd), .o true 1 (p.1.body.map encStr)]) K ((lc EMl.ag l0).dec args) := rfl
theorem good10 {G : Gt} (hG : GOk Tryz.prog G ∧ GDet G) (h21 : G.e 21 = roEnt 0 c21) (h36 : G.e 36 = roEnt 0 c36) (h37 : G.e 37 = roEnt 0 c37) : Good Tryz.prog G.m 10 (roEnt 0 c10) := by
  refine good_run (dp := fun _ => true) (fn := Tryz.f10) (n := 1) (fun _ => rfl) (by kernel_rfl) rfl (by kernel_rfl) hmix hG (Nat.le_of_ble_eq_true rfl) (by kernel_rfl) (by decide) (fun _ p => .agg _ (by (intro c hc; simp only [List.mem_cons, List.not_mem_nil, or_false] at hc; rcases hc with rfl | rfl | rfl | rfl <;> first | exact .v _ | exact .deep _ _))) ?_
  have k21 : (G.e 21).kd = 0 := by rw [h21]; rfl
  have m21 : (G.e 21).ro = c21 := by rw [h21]; rfl
  have k36 : (G.e 36).kd = 0 := by rw [h36]; rfl
  have m36 : (G.e 36).ro = c36 := by rw [h36]; rfl
  have k37 : (G.e 37).kd = 0 := by rw [h37]; rfl
  have m37 : (G.e 37).ro = c37 := by rw [h37]; rfl
  rintro ⟨a, ⟨⟩⟩ hpre
  simp only [Tryz.f10, go_sem, k21, m21, c21_eq, k36, m36, c36_eq, k37, m37, c37_eq, Nat.reduceAdd, Nat.reduceMul, Nat.reduceLeDiff, Nat.reduceEqDiff, reduceCtorEq, Nat.reduceSub, Int.reduceNeg, Nat.reduceMod, Nat.reduceBEq, Nat.reduceLT] at hpre ⊢

  repeat' (first | with_reducible apply And.intro | intro _ | (refine brB_split (fun hb => ?_) (fun hb => ?_) <;> simp only [hb, go_sem, k21, m21, c21_eq, k36, m36, c36_eq, k37, m37, c37_eq, Nat.reduceAdd, Nat.reduceMul, Nat.reduceLeDiff, Nat.reduceEqDiff, reduceCtorEq, Nat.reduceSub, Int.reduceNeg, Nat.reduceMod, Nat.reduceBEq, Nat.reduceLT] <;> try simp only [bOf_t, bOf_f, decide_eq_true_eq, decide_eq_false_iff_not, Bool.not_eq_true', Bool.not_eq_false', Bool.not_eq_true, Bool.not_eq_false, Decidable.not_not] at hb) | (refine aPickB_split (fun hb => ?_) (fun hb => ?_) <;> simp only [hb, go_sem, k21, m21, c21_eq, k36, m36, c36_eq, k37, m37, c37_eq, Nat.reduceAdd, Nat.reduceMul, Nat.reduceLeDiff, Nat.reduceEqDiff, reduceCtorEq, Nat.reduceSub, Int.reduceNeg, Nat.reduceMod, Nat.reduceBEq, Nat.reduceLT] <;> try simp only [bOf_t, bOf_f, decide_eq_true_eq, decide_eq_false_iff_not, Bool.not_eq_true', Bool.not_eq_false', Bool.not_eq_true, Bool.not_eq_false, Decidable.not_not] at hb) | (refine gB_split (fun hb => ?_) (fun hb => ?_) <;> simp only [hb, go_sem, k21, m21, c21_eq, k36, m36, c36_eq, k37, m37, c37_eq, Nat.reduceAdd, Nat.reduceMul, Nat.reduceLeDiff, Nat.reduceEqDiff, reduceCtorEq, Nat.reduceSub, Int.reduceNeg, Nat.reduceMod, Nat.reduceBEq, Nat.reduceLT] <;> try simp only [bOf_t, bOf_f, decide_eq_true_eq, decide_eq_false_iff_not, Bool.not_eq_true', Bool.not_eq_false', Bool.not_eq_true, Bool.not_eq_false, Decidable.not_not] at hb))
  all_goals first | rfl | omega | (simp; done) | skip
  all_goals trace_state

def c35 : Ct := ctR (lc ERu.ag l0) (fun p => True) (fun p => .agg ((encRu p.1).map .t))
theorem c35_eq {args : List AV} {K : AV → Prop} : c35 args K = K0 (fun p => True) (fun p => .agg ((encRu p.1).map .t)) K ((lc ERu.ag l0).dec args) := rfl
theorem good35 {G : Gt} (hG : GOk Tryz.prog G ∧ GDet G) (h21 : G.e 21 = roEnt 0 c21) : Good Tryz.prog G.m 35 (roEnt 0 c35) := by
  refine good_run (dp := fun _ => true) (fn := Tryz.f35) (n := 1) (fun _ => rfl) (by kernel_rfl) rfl (by kernel_rfl) hmix hG (Nat.le_of_ble_eq_true rfl) (by kernel_rfl) (by decide) (fun _ p => .agg _ (by intro c hc; simp [encRu] at hc; rcases hc with rfl | rfl | rfl | rfl | rfl <;> exact .v _)) ?_
  have k21 : (G.e 21).kd = 0 := by rw [h21]; rfl
  have m21 : (G.e 21).ro = c21 := by rw [h21]; rfl
  rintro ⟨a, ⟨⟩⟩ hpre
  simp only [Tryz.f35, go_sem, k21, m21, c21_eq, Nat.reduceAdd, Nat.reduceMul, Nat.reduceLeDiff, Nat.reduceEqDiff, reduceCtorEq, Nat.reduceSub, Int.reduceNeg, Nat.reduceMod, Nat.reduceBEq, Nat.reduceLT] at hpre ⊢

  repeat' (first | with_reducible apply And.intro | intro _ | (refine brB_split (fun hb => ?_) (fun hb => ?_) <;> simp only [hb, go_sem, k21, m21, c21_eq, Nat.reduceAdd, Nat.reduceMul, Nat.reduceLeDiff, Nat.reduceEqDiff, reduceCtorEq, Nat.reduceSub, Int.reduceNeg, Nat.reduceMod, Nat.reduceBEq, Nat.reduceLT] <;> try simp only [bOf_t, bOf_f, decide_eq_true_eq, decide_eq_false_iff_not, Bool.not_eq_true', Bool.not_eq_false', Bool.not_eq_true, Bool.not_eq_false, Decidable.not_not] at hb) | (refine aPickB_split (fun hb => ?_) (fun hb => ?_) <;> simp only [hb, go_sem, k21, m21, c21_eq, Nat.reduceAdd, Nat.reduceMul, Nat.reduceLeDiff, Nat.reduceEqDiff, reduceCtorEq, Nat.reduceSub, Int.reduceNeg, Nat.reduceMod, Nat.reduceBEq, Nat.reduceLT] <;> try simp only [bOf_t, bOf_f, decide_eq_true_eq, decide_eq_false_iff_not, Bool.not_eq_true', Bool.not_eq_false', Bool.not_eq_true, Bool.not_eq_false, Decidable.not_not] at hb) | (refine gB_split (fun hb => ?_) (fun hb => ?_) <;> simp only [hb, go_sem, k21, m21, c21_eq, Nat.reduceAdd, Nat.reduceMul, Nat.reduceLeDiff, Nat.reduceEqDiff, reduceCtorEq, Nat.reduceSub, Int.reduceNeg, Nat.reduceMod, Nat.reduceBEq, Nat.reduceLT] <;> try simp only [bOf_t, bOf_f, decide_eq_true_eq, decide_eq_false_iff_not, Bool.not_eq_true', Bool.not_eq_false', Bool.not_eq_true, Bool.not_eq_false, Decidable.not_not] at hb))
  all_goals first | rfl | omega | (simp; done) | skip
  all_goals trace_state

def c9 : Ct := ctR (lc ERu.asl l0) (fun p => (p.1.length : Int) ≤ 1048576) (fun p => .o true 5 (p.1.map encRu))
theorem c9_eq {args : List AV} {K : AV → Prop} : c9 args K = K0 (fun p => (p.1.length : Int) ≤ 1048576) (fun p => .o true 5 (p.1.map encRu)) K ((lc ERu.asl l0).dec args) := rfl
theorem good9 {G : Gt} (hG : GOk Tryz.prog G ∧ GDet G) (h35 : G.e 35 = roEnt 0 c35) : Good Tryz.prog G.m 9 (roEnt 0 c9) := by
  refine good_run (dp := fun _ => true) (fn := Tryz.f9) (n := 1) (fun _ => rfl) (by kernel_rfl) rfl (by kernel_rfl) hmix hG (Nat.le_of_ble_eq_true rfl) (by kernel_rfl) (by decide) (fun _ _ => .deep _ _) ?_
  have k35 : (G.e 35).kd = 0 := by rw [h35]; rfl
  have m35 : (G.e 35).ro = c35 := by rw [h35]; rfl
  rintro ⟨xs, ⟨⟩⟩ hpre
  simp only [Tryz.f9, go_sem, k35, m35, c35_eq, aSet_map, aCell_map, List.map_replicate, Nat.reduceAdd, Nat.reduceMul, Nat.reduceLeDiff, Nat.reduceEqDiff, reduceCtorEq, Nat.reduceSub, Int.reduceNeg, Nat.reduceMod, Nat.reduceBEq, Nat.reduceLT] at hpre ⊢

  repeat' (first | with_reducible apply And.intro | intro _ | (refine brB_split (fun hb => ?_) (fun hb => ?_) <;> simp only [hb, go_sem, k35, m35, c35_eq, aSet_map, aCell_map, List.map_replicate, Nat.reduceAdd, Nat.reduceMul, Nat.reduceLeDiff, Nat.reduceEqDiff, reduceCtorEq, Nat.reduceSub, Int.reduceNeg, Nat.reduceMod, Nat.reduceBEq, Nat.reduceLT] <;> try simp only [bOf_t, bOf_f, decide_eq_true_eq, decide_eq_false_iff_not, Bool.not_eq_true', Bool.not_eq_false', Bool.not_eq_true, Bool.not_eq_false, Decidable.not_not] at hb) | (refine aPickB_split (fun hb => ?_) (fun hb => ?_) <;> simp only [hb, go_sem, k35, m35, c35_eq, aSet_map, aCell_map, List.map_replicate, Nat.reduceAdd, Nat.reduceMul, Nat.reduceLeDiff, Nat.reduceEqDiff, reduceCtorEq, Nat.reduceSub, Int.reduceNeg, Nat.reduceMod, Nat.reduceBEq, Nat.reduceLT] <;> try simp only [bOf_t, bOf_f, decide_eq_true_eq, decide_eq_false_iff_not, Bool.not_eq_true', Bool.not_eq_false', Bool.not_eq_true, Bool.not_eq_false, Decidable.not_not] at hb) | (refine gB_split (fun hb => ?_) (fun hb => ?_) <;> simp only [hb, go_sem, k35, m35, c35_eq, aSet_map, aCell_map, List.map_replicate, Nat.reduceAdd, Nat.reduceMul, Nat.reduceLeDiff, Nat.reduceEqDiff, reduceCtorEq, Nat.reduceSub, Int.reduceNeg, Nat.reduceMod, Nat.reduceBEq, Nat.reduceLT] <;> try simp only [bOf_t, bOf_f, decide_eq_true_eq, decide_eq_false_iff_not, Bool.not_eq_true', Bool.not_eq_false', Bool.not_eq_true, Bool.not_eq_false, Decidable.not_not] at hb))
  all_goals (try simp only [maxLen] at *)
  all_goals first | rfl | omega | skip
  · refine run_loop [] (ι := {i : Nat // i ≤ xs.length}) (fun p => ⟨[(0, .t (.sl (xs.map encRu))), (3, .h 1007), (4, .t (.v (.int .i64 p.1)))], [(1007, some (.arr true 5 ((fillTo xs p.1).map encRu)))]⟩) (fun p => xs.length - p.1) ⟨0, by omega⟩ rfl ?_ ?_
    · simp only [go_sem, k35, m35, c35_eq, aSet_map, aCell_map, List.map_replicate, Nat.reduceAdd, Nat.reduceMul, Nat.reduceLeDiff, Nat.reduceEqDiff, reduceCtorEq, Nat.reduceSub, Int.reduceNeg, Nat.reduceMod, Nat.reduceBEq, Nat.reduceLT]
      simp [fillTo_0]
      try (exact .inr rfl)
    · rintro ⟨i, hi⟩
      simp only [go_sem, k35, m35, c35_eq, aSet_map, aCell_map, List.map_replicate, Nat.reduceAdd, Nat.reduceMul, Nat.reduceLeDiff, Nat.reduceEqDiff, reduceCtorEq, Nat.reduceSub, Int.reduceNeg, Nat.reduceMod, Nat.reduceBEq, Nat.reduceLT]
      have hl := fillTo_len hi
      repeat' (first | with_reducible apply And.intro | intro _ | (refine brB_split (fun hb => ?_) (fun hb => ?_) <;> simp only [hb, go_sem, k35, m35, c35_eq, aSet_map, aCell_map, List.map_replicate, Nat.reduceAdd, Nat.reduceMul, Nat.reduceLeDiff, Nat.reduceEqDiff, reduceCtorEq, Nat.reduceSub, Int.reduceNeg, Nat.reduceMod, Nat.reduceBEq, Nat.reduceLT] <;> try simp only [bOf_t, bOf_f, decide_eq_true_eq, decide_eq_false_iff_not, Bool.not_eq_true', Bool.not_eq_false', Bool.not_eq_true, Bool.not_eq_false, Decidable.not_not] at hb) | (refine aPickB_split (fun hb => ?_) (fun hb => ?_) <;> simp only [hb, go_sem, k35, m35, c35_eq, aSet_map, aCell_map, List.map_replicate, Nat.reduceAdd, Nat.reduceMul, Nat.reduceLeDiff, Nat.reduceEqDiff, reduceCtorEq, Nat.reduceSub, Int.reduceNeg, Nat.reduceMod, Nat.reduceBEq, Nat.reduceLT] <;> try simp only [bOf_t, bOf_f, decide_eq_true_eq, decide_eq_false_iff_not, Bool.not_eq_true', Bool.not_eq_false', Bool.not_eq_true, Bool.not_eq_false, Decidable.not_not] at hb) | (refine gB_split (fun hb => ?_) (fun hb => ?_) <;> simp only [hb, go_sem, k35, m35, c35_eq, aSet_map, aCell_map, List.map_replicate, Nat.reduceAdd, Nat.reduceMul, Nat.reduceLeDiff, Nat.reduceEqDiff, reduceCtorEq, Nat.reduceSub, Int.reduceNeg, Nat.reduceMod, Nat.reduceBEq, Nat.reduceLT] <;> try simp only [bOf_t, bOf_f, decide_eq_true_eq, decide_eq_false_iff_not, Bool.not_eq_true', Bool.not_eq_false', Bool.not_eq_true, Bool.not_eq_false, Decidable.not_not] at hb))
      all_goals (try simp only [maxLen, Int.toNat_natCast, fillTo_len hi, List.length_map] at *)
      all_goals first | rfl | omega | skip
      · refine ⟨⟨i + 1, by omega⟩, by simp only []; omega, ?_⟩
        have h2 : i < xs.length := by omega
        simp only [go_sem, k35, m35, c35_eq, aSet_map, aCell_map, List.map_replicate, Nat.reduceAdd, Nat.reduceMul, Nat.reduceLeDiff, Nat.reduceEqDiff, reduceCtorEq, Nat.reduceSub, Int.reduceNeg, Nat.reduceMod, Nat.reduceBEq, Nat.reduceLT]
        repeat' (first | with_reducible apply And.intro | intro _ | (refine brB_split (fun hb => ?_) (fun hb => ?_) <;> simp only [hb, go_sem, k35, m35, c35_eq, aSet_map, aCell_map, List.map_replicate, Nat.reduceAdd, Nat.reduceMul, Nat.reduceLeDiff, Nat.reduceEqDiff, reduceCtorEq, Nat.reduceSub, Int.reduceNeg, Nat.reduceMod, Nat.reduceBEq, Nat.reduceLT] <;> try simp only [bOf_t, bOf_f, decide_eq_true_eq, decide_eq_false_iff_not, Bool.not_eq_true', Bool.not_eq_false', Bool.not_eq_true, Bool.not_eq_false, Decidable.not_not] at hb) | (refine aPickB_split (fun hb => ?_) (fun hb => ?_) <;> simp only [hb, go_sem, k35, m35, c35_eq, aSet_map, aCell_map, List.map_replicate, Nat.reduceAdd, Nat.reduceMul, Nat.reduceLeDiff, Nat.reduceEqDiff, reduceCtorEq, Nat.reduceSub, Int.reduceNeg, Nat.reduceMod, Nat.reduceBEq, Nat.reduceLT] <;> try simp only [bOf_t, bOf_f, decide_eq_true_eq, decide_eq_false_iff_not, Bool.not_eq_true', Bool.not_eq_false', Bool.not_eq_true, Bool.not_eq_false, Decidable.not_not] at hb) | (refine gB_split (fun hb => ?_) (fun hb => ?_) <;> simp only [hb, go_sem, k35, m35, c35_eq, aSet_map, aCell_map, List.map_replicate, Nat.reduceAdd, Nat.reduceMul, Nat.reduceLeDiff, Nat.reduceEqDiff, reduceCtorEq, Nat.reduceSub, Int.reduceNeg, Nat.reduceMod, Nat.reduceBEq, Nat.reduceLT] <;> try simp only [bOf_t, bOf_f, decide_eq_true_eq, decide_eq_false_iff_not, Bool.not_eq_true', Bool.not_eq_false', Bool.not_eq_true, Bool.not_eq_false, Decidable.not_not] at hb))
        all_goals first | exact congrArg (fun l => some (Ob.arr true 5 l)) (fillTo_set h2 rfl) | exact congrArg (fun l => Ob.arr true 5 l) (fillTo_set h2 rfl) | rfl | (simp; done)
      · rw [fillTo_end (by omega)]
      · simp


theorem all_eq_of {α : Type} [Inhabited α] {xs ys : List α} (i : Nat) (hl : xs.length = ys.length) (h : ∀ j, j < i → xs.getD j default = ys.getD j default) (hi : xs.length ≤ i) : xs = ys := by
  refine List.ext_getElem hl fun j h1 h2 => ?_
  have := h j (by omega)
  simpa [h1, h2] using this
theorem Ad_ext {a b : Ad} : a = b ↔ a.user = b.user ∧ a.domain = b.domain := by
  cases a; cases b; simp
theorem Ru_ext {a b : Ru} : a = b ↔ a.ask = b.ask ∧ a.text = b.text ∧ a.act = b.act ∧ a.to = b.to := by
  cases a; cases b; simp
theorem Ml_ext {a b : Ml} : a = b ↔ a.frm = b.frm ∧ a.to = b.to ∧ a.body = b.body := by
  cases a; cases b; simp
def c44 : Ct := ctR (lc EStr.asl (lc EStr.asl l0)) (fun p => True) (fun p => .t (.v (.bool (decide (p.1 = p.2.1)))))
theorem c44_eq {args : List AV} {K : AV → Prop} : c44 args K = K0 (fun p => True) (fun p => .t (.v (.bool (decide (p.1 = p.2.1))))) K ((lc EStr.asl (lc EStr.asl l0)).dec args) := rfl
theorem good44 {G : Gt} (hG : GOk Tryz.prog G ∧ GDet G) : Good Tryz.prog G.m 44 (roEnt 0 c44) := by
  refine good_run (dp := fun _ => true) (fn := Tryz.f44) (n := 2) (fun _ => rfl) (by kernel_rfl) rfl (by kernel_rfl) hmix hG (Nat.le_of_ble_eq_true rfl) (by kernel_rfl) (by decide) (fun _ _ => .v _) ?_
  rintro ⟨xs, ys, ⟨⟩⟩ hpre
  simp only [Tryz.f44, go_sem, Nat.reduceAdd, Nat.reduceMul, Nat.reduceLeDiff, Nat.reduceEqDiff, reduceCtorEq, Nat.reduceSub, Int.reduceNeg, Nat.reduceMod, Nat.reduceBEq, Nat.reduceLT] at hpre ⊢

  repeat' (first | with_reducible apply And.intro | intro _ | (refine brB_split (fun hb => ?_) (fun hb => ?_) <;> simp only [hb, go_sem, Nat.reduceAdd, Nat.reduceMul, Nat.reduceLeDiff, Nat.reduceEqDiff, reduceCtorEq, Nat.reduceSub, Int.reduceNeg, Nat.reduceMod, Nat.reduceBEq, Nat.reduceLT] <;> try simp only [bOf_t, bOf_f, decide_eq_true_eq, decide_eq_false_iff_not, Bool.not_eq_true', Bool.not_eq_false', Bool.not_eq_true, Bool.not_eq_false, Decidable.not_not] at hb) | (refine aPickB_split (fun hb => ?_) (fun hb => ?_) <;> simp only [hb, go_sem, Nat.reduceAdd, Nat.reduceMul, Nat.reduceLeDiff, Nat.reduceEqDiff, reduceCtorEq, Nat.reduceSub, Int.reduceNeg, Nat.reduceMod, Nat.reduceBEq, Nat.reduceLT] <;> try simp only [bOf_t, bOf_f, decide_eq_true_eq, decide_eq_false_iff_not, Bool.not_eq_true', Bool.not_eq_false', Bool.not_eq_true, Bool.not_eq_false, Decidable.not_not] at hb) | (refine gB_split (fun hb => ?_) (fun hb => ?_) <;> simp only [hb, go_sem, Nat.reduceAdd, Nat.reduceMul, Nat.reduceLeDiff, Nat.reduceEqDiff, reduceCtorEq, Nat.reduceSub, Int.reduceNeg, Nat.reduceMod, Nat.reduceBEq, Nat.reduceLT] <;> try simp only [bOf_t, bOf_f, decide_eq_true_eq, decide_eq_false_iff_not, Bool.not_eq_true', Bool.not_eq_false', Bool.not_eq_true, Bool.not_eq_false, Decidable.not_not] at hb))
  all_goals (try simp only [maxLen] at *)
  all_goals first | rfl | omega | skip
  · have : ¬ xs = ys := fun e => hb (by rw [e])
    simp [this]
  · have hl : xs.length = ys.length := by omega
    refine run_loop [] (ι := {i : Nat // i ≤ xs.length ∧ ∀ j, j < i → xs.getD j default = ys.getD j default}) (fun p => ⟨[(0, .t (.sl (xs.map encStr))), (1, .t (.sl (ys.map encStr))), (5, .t (.v (.int .i64 p.1)))], []⟩) (fun p => xs.length - p.1) ⟨0, by simp, by simp⟩ rfl ?_ ?_
    · simp only [go_sem, Nat.reduceAdd, Nat.reduceMul, Nat.reduceLeDiff, Nat.reduceEqDiff, reduceCtorEq, Nat.reduceSub, Int.reduceNeg, Nat.reduceMod, Nat.reduceBEq, Nat.reduceLT]
      simp
    · rintro ⟨i, hi, hall⟩
      simp only [go_sem, Nat.reduceAdd, Nat.reduceMul, Nat.reduceLeDiff, Nat.reduceEqDiff, reduceCtorEq, Nat.reduceSub, Int.reduceNeg, Nat.reduceMod, Nat.reduceBEq, Nat.reduceLT]
      repeat' (first | with_reducible apply And.intro | intro _ | (refine brB_split (fun hb => ?_) (fun hb => ?_) <;> simp only [hb, go_sem, Nat.reduceAdd, Nat.reduceMul, Nat.reduceLeDiff, Nat.reduceEqDiff, reduceCtorEq, Nat.reduceSub, Int.reduceNeg, Nat.reduceMod, Nat.reduceBEq, Nat.reduceLT] <;> try simp only [bOf_t, bOf_f, decide_eq_true_eq, decide_eq_false_iff_not, Bool.not_eq_true', Bool.not_eq_false', Bool.not_eq_true, Bool.not_eq_false, Decidable.not_not] at hb) | (refine aPickB_split (fun hb => ?_) (fun hb => ?_) <;> simp only [hb, go_sem, Nat.reduceAdd, Nat.reduceMul, Nat.reduceLeDiff, Nat.reduceEqDiff, reduceCtorEq, Nat.reduceSub, Int.reduceNeg, Nat.reduceMod, Nat.reduceBEq, Nat.reduceLT] <;> try simp only [bOf_t, bOf_f, decide_eq_true_eq, decide_eq_false_iff_not, Bool.not_eq_true', Bool.not_eq_false', Bool.not_eq_true, Bool.not_eq_false, Decidable.not_not] at hb) | (refine gB_split (fun hb => ?_) (fun hb => ?_) <;> simp only [hb, go_sem, Nat.reduceAdd, Nat.reduceMul, Nat.reduceLeDiff, Nat.reduceEqDiff, reduceCtorEq, Nat.reduceSub, Int.reduceNeg, Nat.reduceMod, Nat.reduceBEq, Nat.reduceLT] <;> try simp only [bOf_t, bOf_f, decide_eq_true_eq, decide_eq_false_iff_not, Bool.not_eq_true', Bool.not_eq_false', Bool.not_eq_true, Bool.not_eq_false, Decidable.not_not] at hb))
      all_goals (try simp only [maxLen, Int.toNat_natCast] at *)
      all_goals first | rfl | omega | skip
      · have : ¬ xs = ys := fun e => by subst e; exact hb rfl
        simp [this]
      · refine ⟨⟨i + 1, by omega, fun j hj => ?_⟩, by dsimp only; omega, ?_⟩
        · by_cases e : j = i
          · subst e; exact hb
          · exact hall j (by omega)
        · simp only [go_sem, Nat.reduceAdd, Nat.reduceMul, Nat.reduceLeDiff, Nat.reduceEqDiff, reduceCtorEq, Nat.reduceSub, Int.reduceNeg, Nat.reduceMod, Nat.reduceBEq, Nat.reduceLT]
          simp
      · have : xs = ys := all_eq_of i hl hall (by omega)
        simp [this]

def c42 : Ct := ctR (lc EAd.ag (lc EAd.ag l0)) (fun p => True) (fun p => .t (.v (.bool (decide (p.1 = p.2.1)))))
theorem c42_eq {args : List AV} {K : AV → Prop} : c42 args K = K0 (fun p => True) (fun p => .t (.v (.bool (decide (p.1 = p.2.1))))) K ((lc EAd.ag (lc EAd.ag l0)).dec args) := rfl
theorem good42 {G : Gt} (hG : GOk Tryz.prog G ∧ GDet G) : Good Tryz.prog G.m 42 (roEnt 0 c42) := by
  refine good_run (dp := fun _ => true) (fn := Tryz.f42) (n := 2) (fun _ => rfl) (by kernel_rfl) rfl (by kernel_rfl) hmix hG (Nat.le_of_ble_eq_true rfl) (by kernel_rfl) (by decide) (fun _ _ => .v _) ?_
  rintro ⟨a, b, ⟨⟩⟩ hpre
  simp only [Tryz.f42, go_sem, Nat.reduceAdd, Nat.reduceMul, Nat.reduceLeDiff, Nat.reduceEqDiff, reduceCtorEq, Nat.reduceSub, Int.reduceNeg, Nat.reduceMod, Nat.reduceBEq, Nat.reduceLT] at hpre ⊢

  repeat' (first | with_reducible apply And.intro | intro _ | (refine brB_split (fun hb => ?_) (fun hb => ?_) <;> simp only [hb, go_sem, Nat.reduceAdd, Nat.reduceMul, Nat.reduceLeDiff, Nat.reduceEqDiff, reduceCtorEq, Nat.reduceSub, Int.reduceNeg, Nat.reduceMod, Nat.reduceBEq, Nat.reduceLT] <;> try simp only [bOf_t, bOf_f, decide_eq_true_eq, decide_eq_false_iff_not, Bool.not_eq_true', Bool.not_eq_false', Bool.not_eq_true, Bool.not_eq_false, Decidable.not_not] at hb) | (refine aPickB_split (fun hb => ?_) (fun hb => ?_) <;> simp only [hb, go_sem, Nat.reduceAdd, Nat.reduceMul, Nat.reduceLeDiff, Nat.reduceEqDiff, reduceCtorEq, Nat.reduceSub, Int.reduceNeg, Nat.reduceMod, Nat.reduceBEq, Nat.reduceLT] <;> try simp only [bOf_t, bOf_f, decide_eq_true_eq, decide_eq_false_iff_not, Bool.not_eq_true', Bool.not_eq_false', Bool.not_eq_true, Bool.not_eq_false, Decidable.not_not] at hb) | (refine gB_split (fun hb => ?_) (fun hb => ?_) <;> simp only [hb, go_sem, Nat.reduceAdd, Nat.reduceMul, Nat.reduceLeDiff, Nat.reduceEqDiff, reduceCtorEq, Nat.reduceSub, Int.reduceNeg, Nat.reduceMod, Nat.reduceBEq, Nat.reduceLT] <;> try simp only [bOf_t, bOf_f, decide_eq_true_eq, decide_eq_false_iff_not, Bool.not_eq_true', Bool.not_eq_false', Bool.not_eq_true, Bool.not_eq_false, Decidable.not_not] at hb))
  all_goals first | rfl | omega | (simp [Ad_ext, *]; done) | skip
  all_goals trace_state

def c43 : Ct := ctR (lc EAd.asl (lc EAd.asl l0)) (fun p => True) (fun p => .t (.v (.bool (decide (p.1 = p.2.1)))))
theorem c43_eq {args : List AV} {K : AV → Prop} : c43 args K = K0 (fun p => True) (fun p => .t (.v (.bool (decide (p.1 = p.2.1))))) K ((lc EAd.asl (lc EAd.asl l0)).dec args) := rfl
theorem good43 {G : Gt} (hG : GOk Tryz.prog G ∧ GDet G) (h42 : G.e 42 = roEnt 0 c42) : Good Tryz.prog G.m 43 (roEnt 0 c43) := by
  refine good_run (dp := fun _ => true) (fn := Tryz.f43) (n := 2) (fun _ => rfl) (by kernel_rfl) rfl (by kernel_rfl) hmix hG (Nat.le_of_ble_eq_true rfl) (by kernel_rfl) (by decide) (fun _ _ => .v _) ?_
  have k42 : (G.e 42).kd = 0 := by rw [h42]; rfl
  have m42 : (G.e 42).ro = c42 := by rw [h42]; rfl
  rintro ⟨xs, ys, ⟨⟩⟩ hpre
  simp only [Tryz.f43, go_sem, k42, m42, c42_eq, Nat.reduceAdd, Nat.reduceMul, Nat.reduceLeDiff, Nat.reduceEqDiff, reduceCtorEq, Nat.reduceSub, Int.reduceNeg, Nat.reduceMod, Nat.reduceBEq, Nat.reduceLT] at hpre ⊢

  repeat' (first | with_reducible apply And.intro | intro _ | (refine brB_split (fun hb => ?_) (fun hb => ?_) <;> simp only [hb, go_sem, k42, m42, c42_eq, Nat.reduceAdd, Nat.reduceMul, Nat.reduceLeDiff, Nat.reduceEqDiff, reduceCtorEq, Nat.reduceSub, Int.reduceNeg, Nat.reduceMod, Nat.reduceBEq, Nat.reduceLT] <;> try simp only [bOf_t, bOf_f, decide_eq_true_eq, decide_eq_false_iff_not, Bool.not_eq_true', Bool.not_eq_false', Bool.not_eq_true, Bool.not_eq_false, Decidable.not_not] at hb) | (refine aPickB_split (fun hb => ?_) (fun hb => ?_) <;> simp only [hb, go_sem, k42, m42, c42_eq, Nat.reduceAdd, Nat.reduceMul, Nat.reduceLeDiff, Nat.reduceEqDiff, reduceCtorEq, Nat.reduceSub, Int.reduceNeg, Nat.reduceMod, Nat.reduceBEq, Nat.reduceLT] <;> try simp only [bOf_t, bOf_f, decide_eq_true_eq, decide_eq_false_iff_not, Bool.not_eq_true', Bool.not_eq_false', Bool.not_eq_true, Bool.not_eq_false, Decidable.not_not] at hb) | (refine gB_split (fun hb => ?_) (fun hb => ?_) <;> simp only [hb, go_sem, k42, m42, c42_eq, Nat.reduceAdd, Nat.reduceMul, Nat.reduceLeDiff, Nat.reduceEqDiff, reduceCtorEq, Nat.reduceSub, Int.reduceNeg, Nat.reduceMod, Nat.reduceBEq, Nat.reduceLT] <;> try simp only [bOf_t, bOf_f, decide_eq_true_eq, decide_eq_false_iff_not, Bool.not_eq_true', Bool.not_eq_false', Bool.not_eq_true, Bool.not_eq_false, Decidable.not_not] at hb))
  all_goals (try simp only [maxLen] at *)
  all_goals first | rfl | omega | skip
  · have : ¬ xs = ys := fun e => hb (by rw [e])
    simp [this]
  · have hl : xs.length = ys.length := by omega
    refine run_loop [] (ι := {i : Nat // i ≤ xs.length ∧ ∀ j, j < i → xs.getD j default = ys.getD j default}) (fun p => ⟨[(0, .t (.sl (xs.map encAd))), (1, .t (.sl (ys.map encAd))), (5, .t (.v (.int .i64 p.1)))], []⟩) (fun p => xs.length - p.1) ⟨0, by simp, by simp⟩ rfl ?_ ?_
    · simp only [go_sem, k42, m42, c42_eq, Nat.reduceAdd, Nat.reduceMul, Nat.reduceLeDiff, Nat.reduceEqDiff, reduceCtorEq, Nat.reduceSub, Int.reduceNeg, Nat.reduceMod, Nat.reduceBEq, Nat.reduceLT]
      simp
    · rintro ⟨i, hi, hall⟩
      simp only [go_sem, k42, m42, c42_eq, Nat.reduceAdd, Nat.reduceMul, Nat.reduceLeDiff, Nat.reduceEqDiff, reduceCtorEq, Nat.reduceSub, Int.reduceNeg, Nat.reduceMod, Nat.reduceBEq, Nat.reduceLT]
      repeat' (first | with_reducible apply And.intro | intro _ | (refine brB_split (fun hb => ?_) (fun hb => ?_) <;> simp only [hb, go_sem, k42, m42, c42_eq, Nat.reduceAdd, Nat.reduceMul, Nat.reduceLeDiff, Nat.reduceEqDiff, reduceCtorEq, Nat.reduceSub, Int.reduceNeg, Nat.reduceMod, Nat.reduceBEq, Nat.reduceLT] <;> try simp only [bOf_t, bOf_f, decide_eq_true_eq, decide_eq_false_iff_not, Bool.not_eq_true', Bool.not_eq_false', Bool.not_eq_true, Bool.not_eq_false, Decidable.not_not] at hb) | (refine aPickB_split (fun hb => ?_) (fun hb => ?_) <;> simp only [hb, go_sem, k42, m42, c42_eq, Nat.reduceAdd, Nat.reduceMul, Nat.reduceLeDiff, Nat.reduceEqDiff, reduceCtorEq, Nat.reduceSub, Int.reduceNeg, Nat.reduceMod, Nat.reduceBEq, Nat.reduceLT] <;> try simp only [bOf_t, bOf_f, decide_eq_true_eq, decide_eq_false_iff_not, Bool.not_eq_true', Bool.not_eq_false', Bool.not_eq_true, Bool.not_eq_false, Decidable.not_not] at hb) | (refine gB_split (fun hb => ?_) (fun hb => ?_) <;> simp only [hb, go_sem, k42, m42, c42_eq, Nat.reduceAdd, Nat.reduceMul, Nat.reduceLeDiff, Nat.reduceEqDiff, reduceCtorEq, Nat.reduceSub, Int.reduceNeg, Nat.reduceMod, Nat.reduceBEq, Nat.reduceLT] <;> try simp only [bOf_t, bOf_f, decide_eq_true_eq, decide_eq_false_iff_not, Bool.not_eq_true', Bool.not_eq_false', Bool.not_eq_true, Bool.not_eq_false, Decidable.not_not] at hb))
      all_goals (try simp only [maxLen, Int.toNat_natCast] at *)
      all_goals first | rfl | omega | skip
      · have : ¬ xs = ys := fun e => by subst e; exact hb rfl
        simp [this]
      · refine ⟨⟨i + 1, by omega, fun j hj => ?_⟩, by dsimp only; omega, ?_⟩
        · by_cases e : j = i
          · subst e; exact hb
          · exact hall j (by omega)
        · simp only [go_sem, k42, m42, c42_eq, Nat.reduceAdd, Nat.reduceMul, Nat.reduceLeDiff, Nat.reduceEqDiff, reduceCtorEq, Nat.reduceSub, Int.reduceNeg, Nat.reduceMod, Nat.reduceBEq, Nat.reduceLT]
          simp
      · have : xs = ys := all_eq_of i hl hall (by omega)
        simp [this]

def c12 : Ct := ctR (lc EMl.ag (lc EMl.ag l0)) (fun p => True) (fun p => .t (.v (.bool (decide (p.1 = p.2.1)))))
theorem c12_eq {args : List AV} {K : AV → Prop} : c12 args K = K0 (fun p => True) (fun p => .t (.v (.bool (decide (p.1 = p.2.1))))) K ((lc EMl.ag (lc EMl.ag l0)).dec args) := rfl
theorem good12 {G : Gt} (hG : GOk Tryz.prog G ∧ GDet G) (h42 : G.e 42 = roEnt 0 c42) (h43 : G.e 43 = roEnt 0 c43) (h44 : G.e 44 = roEnt 0 c44) : Good Tryz.prog G.m 12 (roEnt 0 c12) := by
  refine good_run (dp := fun _ => true) (fn := Tryz.f12) (n := 2) (fun _ => rfl) (by kernel_rfl) rfl (by kernel_rfl) hmix hG (Nat.le_of_ble_eq_true rfl) (by kernel_rfl) (by decide) (fun _ _ => .v _) ?_
  have k42 : (G.e 42).kd = 0 := by rw [h42]; rfl
  have m42 : (G.e 42).ro = c42 := by rw [h42]; rfl
  have k43 : (G.e 43).kd = 0 := by rw [h43]; rfl
  have m43 : (G.e 43).ro = c43 := by rw [h43]; rfl
  have k44 : (G.e 44).kd = 0 := by rw [h44]; rfl
  have m44 : (G.e 44).ro = c44 := by rw [h44]; rfl
  rintro ⟨a, b, ⟨⟩⟩ hpre
  simp only [Tryz.f12, go_sem, k42, m42, c42_eq, k43, m43, c43_eq, k44, m44, c44_eq, Nat.reduceAdd, Nat.reduceMul, Nat.reduceLeDiff, Nat.reduceEqDiff, reduceCtorEq, Nat.reduceSub, Int.reduceNeg, Nat.reduceMod, Nat.reduceBEq, Nat.reduceLT] at hpre ⊢

  repeat' (first | with_reducible apply And.intro | intro _ | (refine brB_split (fun hb => ?_) (fun hb => ?_) <;> simp only [hb, go_sem, k42, m42, c42_eq, k43, m43, c43_eq, k44, m44, c44_eq, Nat.reduceAdd, Nat.reduceMul, Nat.reduceLeDiff, Nat.reduceEqDiff, reduceCtorEq, Nat.reduceSub, Int.reduceNeg, Nat.reduceMod, Nat.reduceBEq, Nat.reduceLT] <;> try simp only [bOf_t, bOf_f, decide_eq_true_eq, decide_eq_false_iff_not, Bool.not_eq_true', Bool.not_eq_false', Bool.not_eq_true, Bool.not_eq_false, Decidable.not_not] at hb) | (refine aPickB_split (fun hb => ?_) (fun hb => ?_) <;> simp only [hb, go_sem, k42, m42, c42_eq, k43, m43, c43_eq, k44, m44, c44_eq, Nat.reduceAdd, Nat.reduceMul, Nat.reduceLeDiff, Nat.reduceEqDiff, reduceCtorEq, Nat.reduceSub, Int.reduceNeg, Nat.reduceMod, Nat.reduceBEq, Nat.reduceLT] <;> try simp only [bOf_t, bOf_f, decide_eq_true_eq, decide_eq_false_iff_not, Bool.not_eq_true', Bool.not_eq_false', Bool.not_eq_true, Bool.not_eq_false, Decidable.not_not] at hb) | (refine gB_split (fun hb => ?_) (fun hb => ?_) <;> simp only [hb, go_sem, k42, m42, c42_eq, k43, m43, c43_eq, k44, m44, c44_eq, Nat.reduceAdd, Nat.reduceMul, Nat.reduceLeDiff, Nat.reduceEqDiff, reduceCtorEq, Nat.reduceSub, Int.reduceNeg, Nat.reduceMod, Nat.reduceBEq, Nat.reduceLT] <;> try simp only [bOf_t, bOf_f, decide_eq_true_eq, decide_eq_false_iff_not, Bool.not_eq_true', Bool.not_eq_false', Bool.not_eq_true, Bool.not_eq_false, Decidable.not_not] at hb))
  all_goals first | rfl | omega | (simp [Ml_ext, *]; done) | skip
  all_goals trace_state

def c45 : Ct := ctR (lc ERu.ag (lc ERu.ag l0)) (fun p => True) (fun p => .t (.v (.bool (decide (p.1 = p.2.1)))))
theorem c45_eq {args : List AV} {K : AV → Prop} : c45 args K = K0 (fun p => True) (fun p => .t (.v (.bool (decide (p.1 = p.2.1))))) K ((lc ERu.ag (lc ERu.ag l0)).dec args) := rfl
theorem good45 {G : Gt} (hG : GOk Tryz.prog G ∧ GDet G) (h42 : G.e 42 = roEnt 0 c42) : Good Tryz.prog G.m 45 (roEnt 0 c45) := by
  refine good_run (dp := fun _ => true) (fn := Tryz.f45) (n := 2) (fun _ => rfl) (by kernel_rfl) rfl (by kernel_rfl) hmix hG (Nat.le_of_ble_eq_true rfl) (by kernel_rfl) (by decide) (fun _ _ => .v _) ?_
  have k42 : (G.e 42).kd = 0 := by rw [h42]; rfl
  have m42 : (G.e 42).ro = c42 := by rw [h42]; rfl
  rintro ⟨a, b, ⟨⟩⟩ hpre
  simp only [Tryz.f45, go_sem, k42, m42, c42_eq, Nat.reduceAdd, Nat.reduceMul, Nat.reduceLeDiff, Nat.reduceEqDiff, reduceCtorEq, Nat.reduceSub, Int.reduceNeg, Nat.reduceMod, Nat.reduceBEq, Nat.reduceLT] at hpre ⊢

  repeat' (first | with_reducible apply And.intro | intro _ | (refine brB_split (fun hb => ?_) (fun hb => ?_) <;> simp only [hb, go_sem, k42, m42, c42_eq, Nat.reduceAdd, Nat.reduceMul, Nat.reduceLeDiff, Nat.reduceEqDiff, reduceCtorEq, Nat.reduceSub, Int.reduceNeg, Nat.reduceMod, Nat.reduceBEq, Nat.reduceLT] <;> try simp only [bOf_t, bOf_f, decide_eq_true_eq, decide_eq_false_iff_not, Bool.not_eq_true', Bool.not_eq_false', Bool.not_eq_true, Bool.not_eq_false, Decidable.not_not] at hb) | (refine aPickB_split (fun hb => ?_) (fun hb => ?_) <;> simp only [hb, go_sem, k42, m42, c42_eq, Nat.reduceAdd, Nat.reduceMul, Nat.reduceLeDiff, Nat.reduceEqDiff, reduceCtorEq, Nat.reduceSub, Int.reduceNeg, Nat.reduceMod, Nat.reduceBEq, Nat.reduceLT] <;> try simp only [bOf_t, bOf_f, decide_eq_true_eq, decide_eq_false_iff_not, Bool.not_eq_true', Bool.not_eq_false', Bool.not_eq_true, Bool.not_eq_false, Decidable.not_not] at hb) | (refine gB_split (fun hb => ?_) (fun hb => ?_) <;> simp only [hb, go_sem, k42, m42, c42_eq, Nat.reduceAdd, Nat.reduceMul, Nat.reduceLeDiff, Nat.reduceEqDiff, reduceCtorEq, Nat.reduceSub, Int.reduceNeg, Nat.reduceMod, Nat.reduceBEq, Nat.reduceLT] <;> try simp only [bOf_t, bOf_f, decide_eq_true_eq, decide_eq_false_iff_not, Bool.not_eq_true', Bool.not_eq_false', Bool.not_eq_true, Bool.not_eq_false, Decidable.not_not] at hb))
  all_goals first | rfl | omega | (simp [Ru_ext, *]; done) | skip
  all_goals trace_state

def c13 : Ct := ctR (lc ERu.asl (lc ERu.asl l0)) (fun p => True) (fun p => .t (.v (.bool (decide (p.1 = p.2.1)))))
theorem c13_eq {args : List AV} {K : AV → Prop} : c13 args K = K0 (fun p => True) (fun p => .t (.v (.bool (decide (p.1 = p.2.1))))) K ((lc ERu.asl (lc ERu.asl l0)).dec args) := rfl
theorem good13 {G : Gt} (hG : GOk Tryz.prog G ∧ GDet G) (h45 : G.e 45 = roEnt 0 c45) : Good Tryz.prog G.m 13 (roEnt 0 c13) := by
  refine good_run (dp := fun _ => true) (fn := Tryz.f13) (n := 2) (fun _ => rfl) (by kernel_rfl) rfl (by kernel_rfl) hmix hG (Nat.le_of_ble_eq_true rfl) (by kernel_rfl) (by decide) (fun _ _ => .v _) ?_
  have k45 : (G.e 45).kd = 0 := by rw [h45]; rfl
  have m45 : (G.e 45).ro = c45 := by rw [h45]; rfl
  rintro ⟨xs, ys, ⟨⟩⟩ hpre
  simp only [Tryz.f13, go_sem, k45, m45, c45_eq, Nat.reduceAdd, Nat.reduceMul, Nat.reduceLeDiff, Nat.reduceEqDiff, reduceCtorEq, Nat.reduceSub, Int.reduceNeg, Nat.reduceMod, Nat.reduceBEq, Nat.reduceLT] at hpre ⊢

  repeat' (first | with_reducible apply And.intro | intro _ | (refine brB_split (fun hb => ?_) (fun hb => ?_) <;> simp only [hb, go_sem, k45, m45, c45_eq, Nat.reduceAdd, Nat.reduceMul, Nat.reduceLeDiff, Nat.reduceEqDiff, reduceCtorEq, Nat.reduceSub, Int.reduceNeg, Nat.reduceMod, Nat.reduceBEq, Nat.reduceLT] <;> try simp only [bOf_t, bOf_f, decide_eq_true_eq, decide_eq_false_iff_not, Bool.not_eq_true', Bool.not_eq_false', Bool.not_eq_true, Bool.not_eq_false, Decidable.not_not] at hb) | (refine aPickB_split (fun hb => ?_) (fun hb => ?_) <;> simp only [hb, go_sem, k45, m45, c45_eq, Nat.reduceAdd, Nat.reduceMul, Nat.reduceLeDiff, Nat.reduceEqDiff, reduceCtorEq, Nat.reduceSub, Int.reduceNeg, Nat.reduceMod, Nat.reduceBEq, Nat.reduceLT] <;> try simp only [bOf_t, bOf_f, decide_eq_true_eq, decide_eq_false_iff_not, Bool.not_eq_true', Bool.not_eq_false', Bool.not_eq_true, Bool.not_eq_false, Decidable.not_not] at hb) | (refine gB_split (fun hb => ?_) (fun hb => ?_) <;> simp only [hb, go_sem, k45, m45, c45_eq, Nat.reduceAdd, Nat.reduceMul, Nat.reduceLeDiff, Nat.reduceEqDiff, reduceCtorEq, Nat.reduceSub, Int.reduceNeg, Nat.reduceMod, Nat.reduceBEq, Nat.reduceLT] <;> try simp only [bOf_t, bOf_f, decide_eq_true_eq, decide_eq_false_iff_not, Bool.not_eq_true', Bool.not_eq_false', Bool.not_eq_true, Bool.not_eq_false, Decidable.not_not] at hb))
  all_goals (try simp only [maxLen] at *)
  all_goals first | rfl | omega | skip
  · have : ¬ xs = ys := fun e => hb (by rw [e])
    simp [this]
  · have hl : xs.length = ys.length := by omega
    refine run_loop [] (ι := {i : Nat // i ≤ xs.length ∧ ∀ j, j < i → xs.getD j default = ys.getD j default}) (fun p => ⟨[(0, .t (.sl (xs.map encRu))), (1, .t (.sl (ys.map encRu))), (5, .t (.v (.int .i64 p.1)))], []⟩) (fun p => xs.length - p.1) ⟨0, by simp, by simp⟩ rfl ?_ ?_
    · simp only [go_sem, k45, m45, c45_eq, Nat.reduceAdd, Nat.reduceMul, Nat.reduceLeDiff, Nat.reduceEqDiff, reduceCtorEq, Nat.reduceSub, Int.reduceNeg, Nat.reduceMod, Nat.reduceBEq, Nat.reduceLT]
      simp
    · rintro ⟨i, hi, hall⟩
      simp only [go_sem, k45, m45, c45_eq, Nat.reduceAdd, Nat.reduceMul, Nat.reduceLeDiff, Nat.reduceEqDiff, reduceCtorEq, Nat.reduceSub, Int.reduceNeg, Nat.reduceMod, Nat.reduceBEq, Nat.reduceLT]
      repeat' (first | with_reducible apply And.intro | intro _ | (refine brB_split (fun hb => ?_) (fun hb => ?_) <;> simp only [hb, go_sem, k45, m45, c45_eq, Nat.reduceAdd, Nat.reduceMul, Nat.reduceLeDiff, Nat.reduceEqDiff, reduceCtorEq, Nat.reduceSub, Int.reduceNeg, Nat.reduceMod, Nat.reduceBEq, Nat.reduceLT] <;> try simp only [bOf_t, bOf_f, decide_eq_true_eq, decide_eq_false_iff_not, Bool.not_eq_true', Bool.not_eq_false', Bool.not_eq_true, Bool.not_eq_false, Decidable.not_not] at hb) | (refine aPickB_split (fun hb => ?_) (fun hb => ?_) <;> simp only [hb, go_sem, k45, m45, c45_eq, Nat.reduceAdd, Nat.reduceMul, Nat.reduceLeDiff, Nat.reduceEqDiff, reduceCtorEq, Nat.reduceSub, Int.reduceNeg, Nat.reduceMod, Nat.reduceBEq, Nat.reduceLT] <;> try simp only [bOf_t, bOf_f, decide_eq_true_eq, decide_eq_false_iff_not, Bool.not_eq_true', Bool.not_eq_false', Bool.not_eq_true, Bool.not_eq_false, Decidable.not_not] at hb) | (refine gB_split (fun hb => ?_) (fun hb => ?_) <;> simp only [hb, go_sem, k45, m45, c45_eq, Nat.reduceAdd, Nat.reduceMul, Nat.reduceLeDiff, Nat.reduceEqDiff, reduceCtorEq, Nat.reduceSub, Int.reduceNeg, Nat.reduceMod, Nat.reduceBEq, Nat.reduceLT] <;> try simp only [bOf_t, bOf_f, decide_eq_true_eq, decide_eq_false_iff_not, Bool.not_eq_true', Bool.not_eq_false', Bool.not_eq_true, Bool.not_eq_false, Decidable.not_not] at hb))
      all_goals (try simp only [maxLen, Int.toNat_natCast] at *)
      all_goals first | rfl | omega | skip
      · have : ¬ xs = ys := fun e => by subst e; exact hb rfl
        simp [this]
      · refine ⟨⟨i + 1, by omega, fun j hj => ?_⟩, by dsimp only; omega, ?_⟩
        · by_cases e : j = i
          · subst e; exact hb
          · exact hall j (by omega)
        · simp only [go_sem, k45, m45, c45_eq, Nat.reduceAdd, Nat.reduceMul, Nat.reduceLeDiff, Nat.reduceEqDiff, reduceCtorEq, Nat.reduceSub, Int.reduceNeg, Nat.reduceMod, Nat.reduceBEq, Nat.reduceLT]
          simp
      · have : xs = ys := all_eq_of i hl hall (by omega)
        simp [this]


def dig (k : Nat) : ByteArray := if k = 0 then ⟨#[]⟩ else dig (k / 10) ++ strOf [48 + (k : Int) % 10]
termination_by k
decreasing_by omega
def mkT (k : Int) : ByteArray := if k ≤ 0 then ⟨#[109, 48]⟩ else ⟨#[109]⟩ ++ dig k.toNat
theorem dig_size : ∀ (n k : Nat), k < 10 ^ n → (dig k).size ≤ n
  | 0, k, h => by
    have : k = 0 := by simp at h; omega
    subst this
    rw [dig]; exact Nat.le_refl _
  | n + 1, k, h => by
    rw [dig]
    split
    · exact Nat.zero_le _
    · rw [ByteArray.size_append]
      have := dig_size n (k / 10) (by rw [Nat.pow_succ] at h; omega)
      have h2 : (strOf [48 + (k : Int) % 10]).size = 1 := rfl
      omega
theorem dig_step {k : Nat} (h : 0 < k) (out : ByteArray) : dig k ++ out = dig (k / 10) ++ (strOf [48 + (k : Int) % 10] ++ out) := by
  rw [dig, if_neg (by omega), ByteArray.append_assoc]
theorem dig_zero (out : ByteArray) : dig 0 ++ out = out := by
  rw [dig, if_pos rfl]; exact ByteArray.empty_append
def c46 : Ct := ctR (lc AInt l0) (fun p => p.1 ≤ 1000000000000) (fun p => .t (.v (.string (mkT p.1))))
theorem c46_eq {args : List AV} {K : AV → Prop} : c46 args K = K0 (fun p => p.1 ≤ 1000000000000) (fun p => .t (.v (.string (mkT p.1)))) K ((lc AInt l0).dec args) := rfl
theorem good46 {G : Gt} (hG : GOk Tryz.prog G ∧ GDet G) : Good Tryz.prog G.m 46 (roEnt 0 c46) := by
  refine good_run (dp := fun _ => true) (fn := Tryz.f46) (n := 1) (fun _ => rfl) (by kernel_rfl) rfl (by kernel_rfl) hmix hG (Nat.le_of_ble_eq_true rfl) (by kernel_rfl) (by decide) (fun _ _ => .v _) ?_
  rintro ⟨k, ⟨⟩⟩ hpre
  simp only [Tryz.f46, go_sem, Nat.reduceAdd, Nat.reduceMul, Nat.reduceLeDiff, Nat.reduceEqDiff, reduceCtorEq, Nat.reduceSub, Int.reduceNeg, Nat.reduceMod, Nat.reduceBEq, Nat.reduceLT] at hpre ⊢

  repeat' (first | with_reducible apply And.intro | intro _ | (refine brB_split (fun hb => ?_) (fun hb => ?_) <;> simp only [hb, go_sem, Nat.reduceAdd, Nat.reduceMul, Nat.reduceLeDiff, Nat.reduceEqDiff, reduceCtorEq, Nat.reduceSub, Int.reduceNeg, Nat.reduceMod, Nat.reduceBEq, Nat.reduceLT] <;> try simp only [bOf_t, bOf_f, decide_eq_true_eq, decide_eq_false_iff_not, Bool.not_eq_true', Bool.not_eq_false', Bool.not_eq_true, Bool.not_eq_false, Decidable.not_not] at hb) | (refine aPickB_split (fun hb => ?_) (fun hb => ?_) <;> simp only [hb, go_sem, Nat.reduceAdd, Nat.reduceMul, Nat.reduceLeDiff, Nat.reduceEqDiff, reduceCtorEq, Nat.reduceSub, Int.reduceNeg, Nat.reduceMod, Nat.reduceBEq, Nat.reduceLT] <;> try simp only [bOf_t, bOf_f, decide_eq_true_eq, decide_eq_false_iff_not, Bool.not_eq_true', Bool.not_eq_false', Bool.not_eq_true, Bool.not_eq_false, Decidable.not_not] at hb) | (refine gB_split (fun hb => ?_) (fun hb => ?_) <;> simp only [hb, go_sem, Nat.reduceAdd, Nat.reduceMul, Nat.reduceLeDiff, Nat.reduceEqDiff, reduceCtorEq, Nat.reduceSub, Int.reduceNeg, Nat.reduceMod, Nat.reduceBEq, Nat.reduceLT] <;> try simp only [bOf_t, bOf_f, decide_eq_true_eq, decide_eq_false_iff_not, Bool.not_eq_true', Bool.not_eq_false', Bool.not_eq_true, Bool.not_eq_false, Decidable.not_not] at hb))
  all_goals (try simp only [maxLen] at *)
  · simp [mkT, hb]
  · refine run_loop [] (ι := {p : Nat × ByteArray // dig k.toNat = dig p.1 ++ p.2 ∧ p.1 ≤ 1000000000000}) (fun p => ⟨[(0, .t (.v (.int .i64 p.1.1))), (3, .t (.v (.string p.1.2)))], []⟩) (fun p => p.1.1) ⟨(k.toNat, ⟨#[]⟩), by simp only []; exact ByteArray.append_empty.symm, by simp only []; omega⟩ rfl ?_ ?_
    · simp only [go_sem, Nat.reduceAdd, Nat.reduceMul, Nat.reduceLeDiff, Nat.reduceEqDiff, reduceCtorEq, Nat.reduceSub, Int.reduceNeg, Nat.reduceMod, Nat.reduceBEq, Nat.reduceLT]
      simp; omega
    · rintro ⟨⟨m, out⟩, hm, hk⟩
      have hs : out.size ≤ 13 := by
        have h1 := dig_size 13 k.toNat (by omega)
        have h2 := congrArg ByteArray.size hm
        simp only [ByteArray.size_append] at h2
        omega
      simp only [go_sem, Nat.reduceAdd, Nat.reduceMul, Nat.reduceLeDiff, Nat.reduceEqDiff, reduceCtorEq, Nat.reduceSub, Int.reduceNeg, Nat.reduceMod, Nat.reduceBEq, Nat.reduceLT]
      repeat' (first | with_reducible apply And.intro | intro _ | (refine brB_split (fun hb => ?_) (fun hb => ?_) <;> simp only [hb, go_sem, Nat.reduceAdd, Nat.reduceMul, Nat.reduceLeDiff, Nat.reduceEqDiff, reduceCtorEq, Nat.reduceSub, Int.reduceNeg, Nat.reduceMod, Nat.reduceBEq, Nat.reduceLT] <;> try simp only [bOf_t, bOf_f, decide_eq_true_eq, decide_eq_false_iff_not, Bool.not_eq_true', Bool.not_eq_false', Bool.not_eq_true, Bool.not_eq_false, Decidable.not_not] at hb) | (refine aPickB_split (fun hb => ?_) (fun hb => ?_) <;> simp only [hb, go_sem, Nat.reduceAdd, Nat.reduceMul, Nat.reduceLeDiff, Nat.reduceEqDiff, reduceCtorEq, Nat.reduceSub, Int.reduceNeg, Nat.reduceMod, Nat.reduceBEq, Nat.reduceLT] <;> try simp only [bOf_t, bOf_f, decide_eq_true_eq, decide_eq_false_iff_not, Bool.not_eq_true', Bool.not_eq_false', Bool.not_eq_true, Bool.not_eq_false, Decidable.not_not] at hb) | (refine gB_split (fun hb => ?_) (fun hb => ?_) <;> simp only [hb, go_sem, Nat.reduceAdd, Nat.reduceMul, Nat.reduceLeDiff, Nat.reduceEqDiff, reduceCtorEq, Nat.reduceSub, Int.reduceNeg, Nat.reduceMod, Nat.reduceBEq, Nat.reduceLT] <;> try simp only [bOf_t, bOf_f, decide_eq_true_eq, decide_eq_false_iff_not, Bool.not_eq_true', Bool.not_eq_false', Bool.not_eq_true, Bool.not_eq_false, Decidable.not_not] at hb))
      all_goals (try simp only [maxLen, Int.toNat_natCast] at *)
      all_goals first | rfl | omega | skip
      · have : (strOf [48 + (m : Int) % 10]).size = 1 := rfl
        omega
      · refine ⟨⟨(m / 10, strOf [48 + (m : Int) % 10] ++ out), ?_, by simp only []; omega⟩, by simp only []; omega, ?_⟩
        · rw [hm]; exact dig_step (by omega) out
        · simp only [go_sem, Nat.reduceAdd, Nat.reduceMul, Nat.reduceLeDiff, Nat.reduceEqDiff, reduceCtorEq, Nat.reduceSub, Int.reduceNeg, Nat.reduceMod, Nat.reduceBEq, Nat.reduceLT]
          simp
      · show 1 + out.size ≤ _
        omega
      · have : m = 0 := by omega
        subst this
        rw [mkT, if_neg (by omega), hm, dig_zero]


def mkL {α : Type} (g : Int → α) (w k : Int) (n : Nat) : List α := (List.range n).map fun (j : Nat) => g (k + w * j)
theorem mkL_len {α : Type} (g : Int → α) (w k : Int) (n : Nat) : (mkL g w k n).length = n := by simp [mkL]
theorem mkL_succ {α : Type} (g : Int → α) (w k : Int) (n : Nat) : mkL g w k (n + 1) = mkL g w k n ++ [g (k + w * n)] := by simp [mkL, List.range_succ]
def mkTo {α : Type} (g : Int → α) (w k : Int) (xs : List α) (i : Nat) : List α := mkL g w k i ++ xs.drop i
theorem mkTo_len {α : Type} {g : Int → α} {w k : Int} {xs : List α} {i : Nat} (h : i ≤ xs.length) : (mkTo g w k xs i).length = xs.length := by simp [mkTo, mkL_len]; omega
theorem mkTo_0 {α : Type} (g : Int → α) (w k : Int) (xs : List α) : mkTo g w k xs 0 = xs := by simp [mkTo, mkL]
theorem mkTo_end {α : Type} {g : Int → α} {w k : Int} {xs : List α} {i : Nat} (h : i = xs.length) : mkTo g w k xs i = mkL g w k xs.length := by subst h; simp [mkTo]
theorem mkTo_set {α : Type} {g : Int → α} {w k : Int} {xs : List α} {i : Nat} (h : i < xs.length) {y : α} (hy : y = g (k + w * i)) : (mkTo g w k xs i).set i y = mkTo g w k xs (i + 1) := by
  unfold mkTo
  rw [mkL_succ, List.set_append_right _ _ (by rw [mkL_len]; exact Nat.le_refl _), mkL_len, Nat.sub_self, List.append_assoc, List.drop_eq_getElem_cons h, List.set_cons_zero, hy]
  rfl
def hL {α : Type} [DecidableEq α] (g : Int → α) (w : Int) (xs : List α) (k : Int) : Int := if xs = mkL g w k xs.length then k + w * xs.length else -1
theorem hL_mk {α : Type} [DecidableEq α] (g : Int → α) (w k : Int) (n : Nat) : hL g w (mkL g w k n) k = k + w * n := by
  unfold hL; rw [mkL_len, if_pos rfl]
theorem hL_no {α : Type} [DecidableEq α] [Inhabited α] {g : Int → α} {w : Int} {xs : List α} {k : Int} {i : Nat} (h : i < xs.length) (hne : ¬ xs.getD i default = g (k + w * i)) : hL g w xs k = -1 := by
  unfold hL
  rw [if_neg]
  intro e
  apply hne
  rw [e]
  simp [mkL, h]
theorem hL_yes {α : Type} [DecidableEq α] [Inhabited α] {g : Int → α} {w : Int} {xs : List α} {k : Int} {i : Nat} (h : xs.length ≤ i) (hall : ∀ j, j < i → xs.getD j default = g (k + w * j)) : hL g w xs k = k + w * xs.length := by
  unfold hL
  rw [if_pos]
  refine List.ext_getElem (by rw [mkL_len]) fun j h1 h2 => ?_
  have := hall j (by omega)
  simp [h1] at this
  simp [mkL, this]
def gAd (k : Int) : Ad := ⟨mkT k, mkT (k + 1)⟩
def gRu (k : Int) : Ru := ⟨k, mkT (k + 1), k + 1 + 1, ⟨mkT (k + 1 + 1 + 1), mkT (k + 1 + 1 + 1 + 1)⟩⟩
theorem set_Str (xs : List ByteArray) (i : Nat) (s : ByteArray) : (xs.map encStr).set i [.v (.string s)] = (xs.set i s).map encStr := set_map encStr xs i s rfl
theorem set_Ad (xs : List Ad) (i : Nat) (u d : ByteArray) : (xs.map encAd).set i [.v (.string u), .v (.string d)] = (xs.set i ⟨u, d⟩).map encAd := set_map encAd xs i ⟨u, d⟩ rfl
theorem set_Ru (xs : List Ru) (i : Nat) (a c : Int) (t u d : ByteArray) : (xs.map encRu).set i [.v (.int .i64 a), .v (.string t), .v (.int .i64 c), .v (.string u), .v (.string d)] = (xs.set i ⟨a, t, c, ⟨u, d⟩⟩).map encRu := set_map encRu xs i ⟨a, t, c, ⟨u, d⟩⟩ rfl
theorem getD_set' {α : Type} [Inhabited α] {xs : List α} {i : Nat} (h : i < xs.length) (y : α) : (xs.set i y).getD i default = y := by simp [h]
theorem set_set' {α : Type} (xs : List α) (i : Nat) (x y : α) : (xs.set i x).set i y = xs.set i y := List.set_set ..
def hMl (m : Ml) (k : Int) : Int := if hL gAd 2 m.to k < 0 then -1 else if hL mkT 1 m.body (hL gAd 2 m.to k) < 0 then -1 else hL mkT 1 m.body (hL gAd 2 m.to k)
theorem hL_le {α : Type} [DecidableEq α] (g : Int → α) {w : Int} (hw : 0 ≤ w) (xs : List α) (k : Int) : hL g w xs k < 0 ∨ hL g w xs k = k + w * xs.length := by
  unfold hL; split <;> simp
def c50 : Ct := ctR (lc EStr.asl (lc AInt l0)) (fun p => 0 ≤ p.2.1 ∧ p.2.1 ≤ 10000000 ∧ (p.1.length : Int) ≤ 1048576) (fun p => .t (.v (.int .i64 (hL mkT 1 p.1 p.2.1))))
theorem c50_eq {args : List AV} {K : AV → Prop} : c50 args K = K0 (fun p => 0 ≤ p.2.1 ∧ p.2.1 ≤ 10000000 ∧ (p.1.length : Int) ≤ 1048576) (fun p => .t (.v (.int .i64 (hL mkT 1 p.1 p.2.1)))) K ((lc EStr.asl (lc AInt l0)).dec args) := rfl
theorem good50 {G : Gt} (hG : GOk Tryz.prog G ∧ GDet G) (h46 : G.e 46 = roEnt 0 c46) : Good Tryz.prog G.m 50 (roEnt 0 c50) := by
  refine good_run (dp := fun _ => true) (fn := Tryz.f50) (n := 2) (fun _ => rfl) (by kernel_rfl) rfl (by kernel_rfl) hmix hG (Nat.le_of_ble_eq_true rfl) (by kernel_rfl) (by decide) (fun _ _ => .v _) ?_
  have k46 : (G.e 46).kd = 0 := by rw [h46]; rfl
  have m46 : (G.e 46).ro = c46 := by rw [h46]; rfl
  rintro ⟨xs, k, ⟨⟩⟩ hpre
  simp only [Tryz.f50, go_sem, k46, m46, c46_eq, Nat.reduceAdd, Nat.reduceMul, Nat.reduceLeDiff, Nat.reduceEqDiff, reduceCtorEq, Nat.reduceSub, Int.reduceNeg, Nat.reduceMod, Nat.reduceBEq, Nat.reduceLT] at hpre ⊢

  refine run_loop [] (ι := {i : Nat // i ≤ xs.length ∧ ∀ j, j < i → xs.getD j default = mkT (k + 1 * j)}) (fun p => ⟨[(0, .t (.sl (xs.map encStr))), (1, .t (.v (.int .i64 (k + 1 * p.1)))), (5, .t (.v (.int .i64 p.1)))], []⟩) (fun p => xs.length - p.1) ⟨0, by simp, by simp⟩ rfl ?_ ?_
  · simp only [go_sem, k46, m46, c46_eq, Nat.reduceAdd, Nat.reduceMul, Nat.reduceLeDiff, Nat.reduceEqDiff, reduceCtorEq, Nat.reduceSub, Int.reduceNeg, Nat.reduceMod, Nat.reduceBEq, Nat.reduceLT]
    simp
  · rintro ⟨i, hi, hall⟩
    simp only [go_sem, k46, m46, c46_eq, Nat.reduceAdd, Nat.reduceMul, Nat.reduceLeDiff, Nat.reduceEqDiff, reduceCtorEq, Nat.reduceSub, Int.reduceNeg, Nat.reduceMod, Nat.reduceBEq, Nat.reduceLT]
    repeat' (first | with_reducible apply And.intro | intro _ | (refine brB_split (fun hb => ?_) (fun hb => ?_) <;> simp only [hb, go_sem, k46, m46, c46_eq, Nat.reduceAdd, Nat.reduceMul, Nat.reduceLeDiff, Nat.reduceEqDiff, reduceCtorEq, Nat.reduceSub, Int.reduceNeg, Nat.reduceMod, Nat.reduceBEq, Nat.reduceLT] <;> try simp only [bOf_t, bOf_f, decide_eq_true_eq, decide_eq_false_iff_not, Bool.not_eq_true', Bool.not_eq_false', Bool.not_eq_true, Bool.not_eq_false, Decidable.not_not] at hb) | (refine aPickB_split (fun hb => ?_) (fun hb => ?_) <;> simp only [hb, go_sem, k46, m46, c46_eq, Nat.reduceAdd, Nat.reduceMul, Nat.reduceLeDiff, Nat.reduceEqDiff, reduceCtorEq, Nat.reduceSub, Int.reduceNeg, Nat.reduceMod, Nat.reduceBEq, Nat.reduceLT] <;> try simp only [bOf_t, bOf_f, decide_eq_true_eq, decide_eq_false_iff_not, Bool.not_eq_true', Bool.not_eq_false', Bool.not_eq_true, Bool.not_eq_false, Decidable.not_not] at hb) | (refine gB_split (fun hb => ?_) (fun hb => ?_) <;> simp only [hb, go_sem, k46, m46, c46_eq, Nat.reduceAdd, Nat.reduceMul, Nat.reduceLeDiff, Nat.reduceEqDiff, reduceCtorEq, Nat.reduceSub, Int.reduceNeg, Nat.reduceMod, Nat.reduceBEq, Nat.reduceLT] <;> try simp only [bOf_t, bOf_f, decide_eq_true_eq, decide_eq_false_iff_not, Bool.not_eq_true', Bool.not_eq_false', Bool.not_eq_true, Bool.not_eq_false, Decidable.not_not] at hb))
    all_goals (try simp only [maxLen, Int.toNat_natCast] at *)
    all_goals first | rfl | omega | skip
    · rw [hL_no (g := mkT) (w := 1) (xs := xs) (k := k) (i := i) (by omega) (fun e => by rw [e] at hb; exact hb rfl)]
    · refine ⟨⟨i + 1, by omega, fun j hj => ?_⟩, by dsimp only; omega, ?_⟩
      · by_cases e : j = i
        · subst e; exact hb
        · exact hall j (by omega)
      · simp only [go_sem, k46, m46, c46_eq, Nat.reduceAdd, Nat.reduceMul, Nat.reduceLeDiff, Nat.reduceEqDiff, reduceCtorEq, Nat.reduceSub, Int.reduceNeg, Nat.reduceMod, Nat.reduceBEq, Nat.reduceLT]
        repeat' (first | with_reducible apply And.intro | intro _ | (refine brB_split (fun hb => ?_) (fun hb => ?_) <;> simp only [hb, go_sem, k46, m46, c46_eq, Nat.reduceAdd, Nat.reduceMul, Nat.reduceLeDiff, Nat.reduceEqDiff, reduceCtorEq, Nat.reduceSub, Int.reduceNeg, Nat.reduceMod, Nat.reduceBEq, Nat.reduceLT] <;> try simp only [bOf_t, bOf_f, decide_eq_true_eq, decide_eq_false_iff_not, Bool.not_eq_true', Bool.not_eq_false', Bool.not_eq_true, Bool.not_eq_false, Decidable.not_not] at hb) | (refine aPickB_split (fun hb => ?_) (fun hb => ?_) <;> simp only [hb, go_sem, k46, m46, c46_eq, Nat.reduceAdd, Nat.reduceMul, Nat.reduceLeDiff, Nat.reduceEqDiff, reduceCtorEq, Nat.reduceSub, Int.reduceNeg, Nat.reduceMod, Nat.reduceBEq, Nat.reduceLT] <;> try simp only [bOf_t, bOf_f, decide_eq_true_eq, decide_eq_false_iff_not, Bool.not_eq_true', Bool.not_eq_false', Bool.not_eq_true, Bool.not_eq_false, Decidable.not_not] at hb) | (refine gB_split (fun hb => ?_) (fun hb => ?_) <;> simp only [hb, go_sem, k46, m46, c46_eq, Nat.reduceAdd, Nat.reduceMul, Nat.reduceLeDiff, Nat.reduceEqDiff, reduceCtorEq, Nat.reduceSub, Int.reduceNeg, Nat.reduceMod, Nat.reduceBEq, Nat.reduceLT] <;> try simp only [bOf_t, bOf_f, decide_eq_true_eq, decide_eq_false_iff_not, Bool.not_eq_true', Bool.not_eq_false', Bool.not_eq_true, Bool.not_eq_false, Decidable.not_not] at hb))
        all_goals first | rfl | (simp; omega) | skip
    · rw [hL_yes (g := mkT) (w := 1) (xs := xs) (k := k) (i := i) (by omega) hall]
      have : i = xs.length := by omega
      rw [this]


def c49 : Ct := ctR (lc EAd.asl (lc AInt l0)) (fun p => 0 ≤ p.2.1 ∧ p.2.1 ≤ 10000000 ∧ (p.1.length : Int) ≤ 1048576) (fun p => .t (.v (.int .i64 (hL gAd 2 p.1 p.2.1))))
theorem c49_eq {args : List AV} {K : AV → Prop} : c49 args K = K0 (fun p => 0 ≤ p.2.1 ∧ p.2.1 ≤ 10000000 ∧ (p.1.length : Int) ≤ 1048576) (fun p => .t (.v (.int .i64 (hL gAd 2 p.1 p.2.1)))) K ((lc EAd.asl (lc AInt l0)).dec args) := rfl
theorem good49 {G : Gt} (hG : GOk Tryz.prog G ∧ GDet G) (h46 : G.e 46 = roEnt 0 c46) : Good Tryz.prog G.m 49 (roEnt 0 c49) := by
  refine good_run (dp := fun _ => true) (fn := Tryz.f49) (n := 2) (fun _ => rfl) (by kernel_rfl) rfl (by kernel_rfl) hmix hG (Nat.le_of_ble_eq_true rfl) (by kernel_rfl) (by decide) (fun _ _ => .v _) ?_
  have k46 : (G.e 46).kd = 0 := by rw [h46]; rfl
  have m46 : (G.e 46).ro = c46 := by rw [h46]; rfl
  rintro ⟨xs, k, ⟨⟩⟩ hpre
  simp only [Tryz.f49, go_sem, k46, m46, c46_eq, Nat.reduceAdd, Nat.reduceMul, Nat.reduceLeDiff, Nat.reduceEqDiff, reduceCtorEq, Nat.reduceSub, Int.reduceNeg, Nat.reduceMod, Nat.reduceBEq, Nat.reduceLT] at hpre ⊢

  refine run_loop [] (ι := {i : Nat // i ≤ xs.length ∧ ∀ j, j < i → xs.getD j default = gAd (k + 2 * j)}) (fun p => ⟨[(0, .t (.sl (xs.map encAd))), (1, .t (.v (.int .i64 (k + 2 * p.1)))), (5, .t (.v (.int .i64 p.1)))], []⟩) (fun p => xs.length - p.1) ⟨0, by simp, by simp⟩ rfl ?_ ?_
  · simp only [go_sem, k46, m46, c46_eq, Nat.reduceAdd, Nat.reduceMul, Nat.reduceLeDiff, Nat.reduceEqDiff, reduceCtorEq, Nat.reduceSub, Int.reduceNeg, Nat.reduceMod, Nat.reduceBEq, Nat.reduceLT]
    simp
  · rintro ⟨i, hi, hall⟩
    simp only [go_sem, k46, m46, c46_eq, Nat.reduceAdd, Nat.reduceMul, Nat.reduceLeDiff, Nat.reduceEqDiff, reduceCtorEq, Nat.reduceSub, Int.reduceNeg, Nat.reduceMod, Nat.reduceBEq, Nat.reduceLT]
    repeat' (first | with_reducible apply And.intro | intro _ | (refine brB_split (fun hb => ?_) (fun hb => ?_) <;> simp only [hb, go_sem, k46, m46, c46_eq, Nat.reduceAdd, Nat.reduceMul, Nat.reduceLeDiff, Nat.reduceEqDiff, reduceCtorEq, Nat.reduceSub, Int.reduceNeg, Nat.reduceMod, Nat.reduceBEq, Nat.reduceLT] <;> try simp only [bOf_t, bOf_f, decide_eq_true_eq, decide_eq_false_iff_not, Bool.not_eq_true', Bool.not_eq_false', Bool.not_eq_true, Bool.not_eq_false, Decidable.not_not] at hb) | (refine aPickB_split (fun hb => ?_) (fun hb => ?_) <;> simp only [hb, go_sem, k46, m46, c46_eq, Nat.reduceAdd, Nat.reduceMul, Nat.reduceLeDiff, Nat.reduceEqDiff, reduceCtorEq, Nat.reduceSub, Int.reduceNeg, Nat.reduceMod, Nat.reduceBEq, Nat.reduceLT] <;> try simp only [bOf_t, bOf_f, decide_eq_true_eq, decide_eq_false_iff_not, Bool.not_eq_true', Bool.not_eq_false', Bool.not_eq_true, Bool.not_eq_false, Decidable.not_not] at hb) | (refine gB_split (fun hb => ?_) (fun hb => ?_) <;> simp only [hb, go_sem, k46, m46, c46_eq, Nat.reduceAdd, Nat.reduceMul, Nat.reduceLeDiff, Nat.reduceEqDiff, reduceCtorEq, Nat.reduceSub, Int.reduceNeg, Nat.reduceMod, Nat.reduceBEq, Nat.reduceLT] <;> try simp only [bOf_t, bOf_f, decide_eq_true_eq, decide_eq_false_iff_not, Bool.not_eq_true', Bool.not_eq_false', Bool.not_eq_true, Bool.not_eq_false, Decidable.not_not] at hb))
    all_goals (try simp only [maxLen, Int.toNat_natCast] at *)
    all_goals first | rfl | omega | skip
    · rw [hL_no (g := gAd) (w := 2) (xs := xs) (k := k) (i := i) (by omega) (fun e => by rw [e] at hb; exact hb rfl)]
    · rw [hL_no (g := gAd) (w := 2) (xs := xs) (k := k) (i := i) (by omega) (fun e => by rw [e] at hb; exact hb rfl)]
    · refine ⟨⟨i + 1, by omega, fun j hj => ?_⟩, by dsimp only; omega, ?_⟩
      · by_cases e : j = i
        · subst e; exact Ad_ext.2 ⟨by assumption, by assumption⟩
        · exact hall j (by omega)
      · simp only [go_sem, k46, m46, c46_eq, Nat.reduceAdd, Nat.reduceMul, Nat.reduceLeDiff, Nat.reduceEqDiff, reduceCtorEq, Nat.reduceSub, Int.reduceNeg, Nat.reduceMod, Nat.reduceBEq, Nat.reduceLT]
        repeat' (first | with_reducible apply And.intro | intro _ | (refine brB_split (fun hb => ?_) (fun hb => ?_) <;> simp only [hb, go_sem, k46, m46, c46_eq, Nat.reduceAdd, Nat.reduceMul, Nat.reduceLeDiff, Nat.reduceEqDiff, reduceCtorEq, Nat.reduceSub, Int.reduceNeg, Nat.reduceMod, Nat.reduceBEq, Nat.reduceLT] <;> try simp only [bOf_t, bOf_f, decide_eq_true_eq, decide_eq_false_iff_not, Bool.not_eq_true', Bool.not_eq_false', Bool.not_eq_true, Bool.not_eq_false, Decidable.not_not] at hb) | (refine aPickB_split (fun hb => ?_) (fun hb => ?_) <;> simp only [hb, go_sem, k46, m46, c46_eq, Nat.reduceAdd, Nat.reduceMul, Nat.reduceLeDiff, Nat.reduceEqDiff, reduceCtorEq, Nat.reduceSub, Int.reduceNeg, Nat.reduceMod, Nat.reduceBEq, Nat.reduceLT] <;> try simp only [bOf_t, bOf_f, decide_eq_true_eq, decide_eq_false_iff_not, Bool.not_eq_true', Bool.not_eq_false', Bool.not_eq_true, Bool.not_eq_false, Decidable.not_not] at hb) | (refine gB_split (fun hb => ?_) (fun hb => ?_) <;> simp only [hb, go_sem, k46, m46, c46_eq, Nat.reduceAdd, Nat.reduceMul, Nat.reduceLeDiff, Nat.reduceEqDiff, reduceCtorEq, Nat.reduceSub, Int.reduceNeg, Nat.reduceMod, Nat.reduceBEq, Nat.reduceLT] <;> try simp only [bOf_t, bOf_f, decide_eq_true_eq, decide_eq_false_iff_not, Bool.not_eq_true', Bool.not_eq_false', Bool.not_eq_true, Bool.not_eq_false, Decidable.not_not] at hb))
        all_goals first | rfl | (simp; omega) | skip
    · rw [hL_yes (g := gAd) (w := 2) (xs := xs) (k := k) (i := i) (by omega) hall]
      have : i = xs.length := by omega
      rw [this]


def c16 : Ct := ctR (lc EMl.ag (lc AInt l0)) (fun p => 0 ≤ p.2.1 ∧ p.2.1 ≤ 6000000 ∧ (p.1.to.length : Int) ≤ 1048576 ∧ (p.1.body.length : Int) ≤ 1048576) (fun p => .t (.v (.int .i64 (hMl p.1 p.2.1))))
theorem c16_eq {args : List AV} {K : AV → Prop} : c16 args K = K0 (fun p => 0 ≤ p.2.1 ∧ p.2.1 ≤ 6000000 ∧ (p.1.to.length : Int) ≤ 1048576 ∧ (p.1.body.length : Int) ≤ 1048576) (fun p => .t (.v (.int .i64 (hMl p.1 p.2.1)))) K ((lc EMl.ag (lc AInt l0)).dec args) := rfl
theorem good16 {G : Gt} (hG : GOk Tryz.prog G ∧ GDet G) (h49 : G.e 49 = roEnt 0 c49) (h50 : G.e 50 = roEnt 0 c50) : Good Tryz.prog G.m 16 (roEnt 0 c16) := by
  refine good_run (dp := fun _ => true) (fn := Tryz.f16) (n := 2) (fun _ => rfl) (by kernel_rfl) rfl (by kernel_rfl) hmix hG (Nat.le_of_ble_eq_true rfl) (by kernel_rfl) (by decide) (fun _ _ => .v _) ?_
  have k49 : (G.e 49).kd = 0 := by rw [h49]; rfl
  have m49 : (G.e 49).ro = c49 := by rw [h49]; rfl
  have k50 : (G.e 50).kd = 0 := by rw [h50]; rfl
  have m50 : (G.e 50).ro = c50 := by rw [h50]; rfl
  rintro ⟨m, k, ⟨⟩⟩ hpre
  simp only [Tryz.f16, go_sem, k49, m49, c49_eq, k50, m50, c50_eq, Nat.reduceAdd, Nat.reduceMul, Nat.reduceLeDiff, Nat.reduceEqDiff, reduceCtorEq, Nat.reduceSub, Int.reduceNeg, Nat.reduceMod, Nat.reduceBEq, Nat.reduceLT] at hpre ⊢

  repeat' (first | with_reducible apply And.intro | intro _ | (refine brB_split (fun hb => ?_) (fun hb => ?_) <;> simp only [hb, go_sem, k49, m49, c49_eq, k50, m50, c50_eq, Nat.reduceAdd, Nat.reduceMul, Nat.reduceLeDiff, Nat.reduceEqDiff, reduceCtorEq, Nat.reduceSub, Int.reduceNeg, Nat.reduceMod, Nat.reduceBEq, Nat.reduceLT] <;> try simp only [bOf_t, bOf_f, decide_eq_true_eq, decide_eq_false_iff_not, Bool.not_eq_true', Bool.not_eq_false', Bool.not_eq_true, Bool.not_eq_false, Decidable.not_not] at hb) | (refine aPickB_split (fun hb => ?_) (fun hb => ?_) <;> simp only [hb, go_sem, k49, m49, c49_eq, k50, m50, c50_eq, Nat.reduceAdd, Nat.reduceMul, Nat.reduceLeDiff, Nat.reduceEqDiff, reduceCtorEq, Nat.reduceSub, Int.reduceNeg, Nat.reduceMod, Nat.reduceBEq, Nat.reduceLT] <;> try simp only [bOf_t, bOf_f, decide_eq_true_eq, decide_eq_false_iff_not, Bool.not_eq_true', Bool.not_eq_false', Bool.not_eq_true, Bool.not_eq_false, Decidable.not_not] at hb) | (refine gB_split (fun hb => ?_) (fun hb => ?_) <;> simp only [hb, go_sem, k49, m49, c49_eq, k50, m50, c50_eq, Nat.reduceAdd, Nat.reduceMul, Nat.reduceLeDiff, Nat.reduceEqDiff, reduceCtorEq, Nat.reduceSub, Int.reduceNeg, Nat.reduceMod, Nat.reduceBEq, Nat.reduceLT] <;> try simp only [bOf_t, bOf_f, decide_eq_true_eq, decide_eq_false_iff_not, Bool.not_eq_true', Bool.not_eq_false', Bool.not_eq_true, Bool.not_eq_false, Decidable.not_not] at hb))
  all_goals have q1 := hL_le gAd (w := 2) (by omega) m.to k
  all_goals (try simp only [hMl, maxLen] at *)
  all_goals first | rfl | omega | (simp [*]; done) | trace_state

def c48 : Mt := ctM (lc (EStr.aow true 1) (lc AInt l0)) (fun p => 0 ≤ p.2.1 ∧ p.2.1 ≤ 10000000 ∧ (p.1.length : Int) ≤ 1048576) (fun p => ([.o true 1 ((mkL mkT 1 p.2.1 p.1.length).map encStr), .t (.v (.int .i64 p.2.1))], .t (.v (.int .i64 (p.2.1 + 1 * p.1.length)))))
theorem c48_eq {args : List AV} {K : List AV → AV → Prop} : c48 args K = M0 (fun p => 0 ≤ p.2.1 ∧ p.2.1 ≤ 10000000 ∧ (p.1.length : Int) ≤ 1048576) (fun p => ([.o true 1 ((mkL mkT 1 p.2.1 p.1.length).map encStr), .t (.v (.int .i64 p.2.1))], .t (.v (.int .i64 (p.2.1 + 1 * p.1.length))))) K ((lc (EStr.aow true 1) (lc AInt l0)).dec args) := rfl
theorem good48 {G : Gt} (hG : GOk Tryz.prog G ∧ GDet G) (h46 : G.e 46 = roEnt 0 c46) : Good Tryz.prog G.m 48 (muEnt c48) := by
  refine good_runM (dp := fun _ => true) (fn := Tryz.f48) (n := 2) (fun _ => rfl) (by kernel_rfl) rfl (by kernel_rfl) hmix hG (Nat.le_of_ble_eq_true rfl) (by kernel_rfl) ?_
  have k46 : (G.e 46).kd = 0 := by rw [h46]; rfl
  have m46 : (G.e 46).ro = c46 := by rw [h46]; rfl
  rintro ⟨xs, k, ⟨⟩⟩ hpre
  simp only [Tryz.f48, go_sem, k46, m46, c46_eq, aSet_map, aCell_map, List.map_replicate, set_Str, set_Ad, set_Ru, List.length_set, List.length_map, Nat.reduceAdd, Nat.reduceMul, Nat.reduceLeDiff, Nat.reduceEqDiff, reduceCtorEq, Nat.reduceSub, Int.reduceNeg, Nat.reduceMod, Nat.reduceBEq, Nat.reduceLT] at hpre ⊢

  refine run_loop [] (ι := {i : Nat // i ≤ xs.length}) (fun p => ⟨[(0, .h 1900), (1, .t (.v (.int .i64 (k + 1 * p.1)))), (5, .t (.v (.int .i64 p.1)))], [(1900, some (.arr true 1 ((mkTo mkT 1 k xs p.1).map encStr)))]⟩) (fun p => xs.length - p.1) ⟨0, by omega⟩ rfl ?_ ?_
  · simp only [go_sem, k46, m46, c46_eq, aSet_map, aCell_map, List.map_replicate, set_Str, set_Ad, set_Ru, List.length_set, List.length_map, Nat.reduceAdd, Nat.reduceMul, Nat.reduceLeDiff, Nat.reduceEqDiff, reduceCtorEq, Nat.reduceSub, Int.reduceNeg, Nat.reduceMod, Nat.reduceBEq, Nat.reduceLT]
    simp [mkTo_0]
  · rintro ⟨i, hi⟩
    simp only [go_sem, k46, m46, c46_eq, aSet_map, aCell_map, List.map_replicate, set_Str, set_Ad, set_Ru, List.length_set, List.length_map, Nat.reduceAdd, Nat.reduceMul, Nat.reduceLeDiff, Nat.reduceEqDiff, reduceCtorEq, Nat.reduceSub, Int.reduceNeg, Nat.reduceMod, Nat.reduceBEq, Nat.reduceLT]
    have hl := mkTo_len (g := mkT) (w := 1) (k := k) hi
    repeat' (first | with_reducible apply And.intro | intro _ | (refine brB_split (fun hb => ?_) (fun hb => ?_) <;> simp only [hb, go_sem, k46, m46, c46_eq, aSet_map, aCell_map, List.map_replicate, set_Str, set_Ad, set_Ru, List.length_set, List.length_map, Nat.reduceAdd, Nat.reduceMul, Nat.reduceLeDiff, Nat.reduceEqDiff, reduceCtorEq, Nat.reduceSub, Int.reduceNeg, Nat.reduceMod, Nat.reduceBEq, Nat.reduceLT] <;> try simp only [bOf_t, bOf_f, decide_eq_true_eq, decide_eq_false_iff_not, Bool.not_eq_true', Bool.not_eq_false', Bool.not_eq_true, Bool.not_eq_false, Decidable.not_not] at hb) | (refine aPickB_split (fun hb => ?_) (fun hb => ?_) <;> simp only [hb, go_sem, k46, m46, c46_eq, aSet_map, aCell_map, List.map_replicate, set_Str, set_Ad, set_Ru, List.length_set, List.length_map, Nat.reduceAdd, Nat.reduceMul, Nat.reduceLeDiff, Nat.reduceEqDiff, reduceCtorEq, Nat.reduceSub, Int.reduceNeg, Nat.reduceMod, Nat.reduceBEq, Nat.reduceLT] <;> try simp only [bOf_t, bOf_f, decide_eq_true_eq, decide_eq_false_iff_not, Bool.not_eq_true', Bool.not_eq_false', Bool.not_eq_true, Bool.not_eq_false, Decidable.not_not] at hb) | (refine gB_split (fun hb => ?_) (fun hb => ?_) <;> simp only [hb, go_sem, k46, m46, c46_eq, aSet_map, aCell_map, List.map_replicate, set_Str, set_Ad, set_Ru, List.length_set, List.length_map, Nat.reduceAdd, Nat.reduceMul, Nat.reduceLeDiff, Nat.reduceEqDiff, reduceCtorEq, Nat.reduceSub, Int.reduceNeg, Nat.reduceMod, Nat.reduceBEq, Nat.reduceLT] <;> try simp only [bOf_t, bOf_f, decide_eq_true_eq, decide_eq_false_iff_not, Bool.not_eq_true', Bool.not_eq_false', Bool.not_eq_true, Bool.not_eq_false, Decidable.not_not] at hb))
    all_goals (try simp only [maxLen, Int.toNat_natCast, List.length_set, List.length_map, mkTo_len hi] at *)
    all_goals first | rfl | omega | (simp; done) | skip
    · have hlt : i < (mkTo mkT 1 k xs i).length := by rw [mkTo_len hi]; omega
      refine ⟨⟨i + 1, by omega⟩, by simp only []; omega, ?_⟩
      simp only [go_sem, k46, m46, c46_eq, aSet_map, aCell_map, List.map_replicate, set_Str, set_Ad, set_Ru, List.length_set, List.length_map, Nat.reduceAdd, Nat.reduceMul, Nat.reduceLeDiff, Nat.reduceEqDiff, reduceCtorEq, Nat.reduceSub, Int.reduceNeg, Nat.reduceMod, Nat.reduceBEq, Nat.reduceLT]
      repeat' (first | with_reducible apply And.intro | intro _ | (refine brB_split (fun hb => ?_) (fun hb => ?_) <;> simp only [hb, go_sem, k46, m46, c46_eq, aSet_map, aCell_map, List.map_replicate, set_Str, set_Ad, set_Ru, List.length_set, List.length_map, Nat.reduceAdd, Nat.reduceMul, Nat.reduceLeDiff, Nat.reduceEqDiff, reduceCtorEq, Nat.reduceSub, Int.reduceNeg, Nat.reduceMod, Nat.reduceBEq, Nat.reduceLT] <;> try simp only [bOf_t, bOf_f, decide_eq_true_eq, decide_eq_false_iff_not, Bool.not_eq_true', Bool.not_eq_false', Bool.not_eq_true, Bool.not_eq_false, Decidable.not_not] at hb) | (refine aPickB_split (fun hb => ?_) (fun hb => ?_) <;> simp only [hb, go_sem, k46, m46, c46_eq, aSet_map, aCell_map, List.map_replicate, set_Str, set_Ad, set_Ru, List.length_set, List.length_map, Nat.reduceAdd, Nat.reduceMul, Nat.reduceLeDiff, Nat.reduceEqDiff, reduceCtorEq, Nat.reduceSub, Int.reduceNeg, Nat.reduceMod, Nat.reduceBEq, Nat.reduceLT] <;> try simp only [bOf_t, bOf_f, decide_eq_true_eq, decide_eq_false_iff_not, Bool.not_eq_true', Bool.not_eq_false', Bool.not_eq_true, Bool.not_eq_false, Decidable.not_not] at hb) | (refine gB_split (fun hb => ?_) (fun hb => ?_) <;> simp only [hb, go_sem, k46, m46, c46_eq, aSet_map, aCell_map, List.map_replicate, set_Str, set_Ad, set_Ru, List.length_set, List.length_map, Nat.reduceAdd, Nat.reduceMul, Nat.reduceLeDiff, Nat.reduceEqDiff, reduceCtorEq, Nat.reduceSub, Int.reduceNeg, Nat.reduceMod, Nat.reduceBEq, Nat.reduceLT] <;> try simp only [bOf_t, bOf_f, decide_eq_true_eq, decide_eq_false_iff_not, Bool.not_eq_true', Bool.not_eq_false', Bool.not_eq_true, Bool.not_eq_false, Decidable.not_not] at hb))
      all_goals first
        | rfl
        | (simp; omega)
        | (refine congrArg (fun l => Ob.arr true 1 (List.map encStr l)) ?_
           try simp only [getD_set', List.length_set, hlt, set_set']
           exact mkTo_set (by omega) rfl)
    · rw [mkTo_end (by omega)]
    · have : i = xs.length := by omega
      rw [this]

def c47 : Mt := ctM (lc (EAd.aow true 2) (lc AInt l0)) (fun p => 0 ≤ p.2.1 ∧ p.2.1 ≤ 10000000 ∧ (p.1.length : Int) ≤ 1048576) (fun p => ([.o true 2 ((mkL gAd 2 p.2.1 p.1.length).map encAd), .t (.v (.int .i64 p.2.1))], .t (.v (.int .i64 (p.2.1 + 2 * p.1.length)))))
theorem c47_eq {args : List AV} {K : List AV → AV → Prop} : c47 args K = M0 (fun p => 0 ≤ p.2.1 ∧ p.2.1 ≤ 10000000 ∧ (p.1.length : Int) ≤ 1048576) (fun p => ([.o true 2 ((mkL gAd 2 p.2.1 p.1.length).map encAd), .t (.v (.int .i64 p.2.1))], .t (.v (.int .i64 (p.2.1 + 2 * p.1.length))))) K ((lc (EAd.aow true 2) (lc AInt l0)).dec args) := rfl
theorem good47 {G : Gt} (hG : GOk Tryz.prog G ∧ GDet G) (h46 : G.e 46 = roEnt 0 c46) : Good Tryz.prog G.m 47 (muEnt c47) := by
  refine good_runM (dp := fun _ => true) (fn := Tryz.f47) (n := 2) (fun _ => rfl) (by kernel_rfl) rfl (by kernel_rfl) hmix hG (Nat.le_of_ble_eq_true rfl) (by kernel_rfl) ?_
  have k46 : (G.e 46).kd = 0 := by rw [h46]; rfl
  have m46 : (G.e 46).ro = c46 := by rw [h46]; rfl
  rintro ⟨xs, k, ⟨⟩⟩ hpre
  simp only [Tryz.f47, go_sem, k46, m46, c46_eq, aSet_map, aCell_map, List.map_replicate, set_Str, set_Ad, set_Ru, List.length_set, List.length_map, Nat.reduceAdd, Nat.reduceMul, Nat.reduceLeDiff, Nat.reduceEqDiff, reduceCtorEq, Nat.reduceSub, Int.reduceNeg, Nat.reduceMod, Nat.reduceBEq, Nat.reduceLT] at hpre ⊢

  refine run_loop [] (ι := {i : Nat // i ≤ xs.length}) (fun p => ⟨[(0, .h 1900), (1, .t (.v (.int .i64 (k + 2 * p.1)))), (5, .t (.v (.int .i64 p.1)))], [(1900, some (.arr true 2 ((mkTo gAd 2 k xs p.1).map encAd)))]⟩) (fun p => xs.length - p.1) ⟨0, by omega⟩ rfl ?_ ?_
  · simp only [go_sem, k46, m46, c46_eq, aSet_map, aCell_map, List.map_replicate, set_Str, set_Ad, set_Ru, List.length_set, List.length_map, Nat.reduceAdd, Nat.reduceMul, Nat.reduceLeDiff, Nat.reduceEqDiff, reduceCtorEq, Nat.reduceSub, Int.reduceNeg, Nat.reduceMod, Nat.reduceBEq, Nat.reduceLT]
    simp [mkTo_0]
  · rintro ⟨i, hi⟩
    simp only [go_sem, k46, m46, c46_eq, aSet_map, aCell_map, List.map_replicate, set_Str, set_Ad, set_Ru, List.length_set, List.length_map, Nat.reduceAdd, Nat.reduceMul, Nat.reduceLeDiff, Nat.reduceEqDiff, reduceCtorEq, Nat.reduceSub, Int.reduceNeg, Nat.reduceMod, Nat.reduceBEq, Nat.reduceLT]
    have hl := mkTo_len (g := gAd) (w := 2) (k := k) hi
    repeat' (first | with_reducible apply And.intro | intro _ | (refine brB_split (fun hb => ?_) (fun hb => ?_) <;> simp only [hb, go_sem, k46, m46, c46_eq, aSet_map, aCell_map, List.map_replicate, set_Str, set_Ad, set_Ru, List.length_set, List.length_map, Nat.reduceAdd, Nat.reduceMul, Nat.reduceLeDiff, Nat.reduceEqDiff, reduceCtorEq, Nat.reduceSub, Int.reduceNeg, Nat.reduceMod, Nat.reduceBEq, Nat.reduceLT] <;> try simp only [bOf_t, bOf_f, decide_eq_true_eq, decide_eq_false_iff_not, Bool.not_eq_true', Bool.not_eq_false', Bool.not_eq_true, Bool.not_eq_false, Decidable.not_not] at hb) | (refine aPickB_split (fun hb => ?_) (fun hb => ?_) <;> simp only [hb, go_sem, k46, m46, c46_eq, aSet_map, aCell_map, List.map_replicate, set_Str, set_Ad, set_Ru, List.length_set, List.length_map, Nat.reduceAdd, Nat.reduceMul, Nat.reduceLeDiff, Nat.reduceEqDiff, reduceCtorEq, Nat.reduceSub, Int.reduceNeg, Nat.reduceMod, Nat.reduceBEq, Nat.reduceLT] <;> try simp only [bOf_t, bOf_f, decide_eq_true_eq, decide_eq_false_iff_not, Bool.not_eq_true', Bool.not_eq_false', Bool.not_eq_true, Bool.not_eq_false, Decidable.not_not] at hb) | (refine gB_split (fun hb => ?_) (fun hb => ?_) <;> simp only [hb, go_sem, k46, m46, c46_eq, aSet_map, aCell_map, List.map_replicate, set_Str, set_Ad, set_Ru, List.length_set, List.length_map, Nat.reduceAdd, Nat.reduceMul, Nat.reduceLeDiff, Nat.reduceEqDiff, reduceCtorEq, Nat.reduceSub, Int.reduceNeg, Nat.reduceMod, Nat.reduceBEq, Nat.reduceLT] <;> try simp only [bOf_t, bOf_f, decide_eq_true_eq, decide_eq_false_iff_not, Bool.not_eq_true', Bool.not_eq_false', Bool.not_eq_true, Bool.not_eq_false, Decidable.not_not] at hb))
    all_goals (try simp only [maxLen, Int.toNat_natCast, List.length_set, List.length_map, mkTo_len hi] at *)
    all_goals first | rfl | omega | (simp; done) | skip
    · have hlt : i < (mkTo gAd 2 k xs i).length := by rw [mkTo_len hi]; omega
      refine ⟨⟨i + 1, by omega⟩, by simp only []; omega, ?_⟩
      simp only [go_sem, k46, m46, c46_eq, aSet_map, aCell_map, List.map_replicate, set_Str, set_Ad, set_Ru, List.length_set, List.length_map, Nat.reduceAdd, Nat.reduceMul, Nat.reduceLeDiff, Nat.reduceEqDiff, reduceCtorEq, Nat.reduceSub, Int.reduceNeg, Nat.reduceMod, Nat.reduceBEq, Nat.reduceLT]
      repeat' (first | with_reducible apply And.intro | intro _ | (refine brB_split (fun hb => ?_) (fun hb => ?_) <;> simp only [hb, go_sem, k46, m46, c46_eq, aSet_map, aCell_map, List.map_replicate, set_Str, set_Ad, set_Ru, List.length_set, List.length_map, Nat.reduceAdd, Nat.reduceMul, Nat.reduceLeDiff, Nat.reduceEqDiff, reduceCtorEq, Nat.reduceSub, Int.reduceNeg, Nat.reduceMod, Nat.reduceBEq, Nat.reduceLT] <;> try simp only [bOf_t, bOf_f, decide_eq_true_eq, decide_eq_false_iff_not, Bool.not_eq_true', Bool.not_eq_false', Bool.not_eq_true, Bool.not_eq_false, Decidable.not_not] at hb) | (refine aPickB_split (fun hb => ?_) (fun hb => ?_) <;> simp only [hb, go_sem, k46, m46, c46_eq, aSet_map, aCell_map, List.map_replicate, set_Str, set_Ad, set_Ru, List.length_set, List.length_map, Nat.reduceAdd, Nat.reduceMul, Nat.reduceLeDiff, Nat.reduceEqDiff, reduceCtorEq, Nat.reduceSub, Int.reduceNeg, Nat.reduceMod, Nat.reduceBEq, Nat.reduceLT] <;> try simp only [bOf_t, bOf_f, decide_eq_true_eq, decide_eq_false_iff_not, Bool.not_eq_true', Bool.not_eq_false', Bool.not_eq_true, Bool.not_eq_false, Decidable.not_not] at hb) | (refine gB_split (fun hb => ?_) (fun hb => ?_) <;> simp only [hb, go_sem, k46, m46, c46_eq, aSet_map, aCell_map, List.map_replicate, set_Str, set_Ad, set_Ru, List.length_set, List.length_map, Nat.reduceAdd, Nat.reduceMul, Nat.reduceLeDiff, Nat.reduceEqDiff, reduceCtorEq, Nat.reduceSub, Int.reduceNeg, Nat.reduceMod, Nat.reduceBEq, Nat.reduceLT] <;> try simp only [bOf_t, bOf_f, decide_eq_true_eq, decide_eq_false_iff_not, Bool.not_eq_true', Bool.not_eq_false', Bool.not_eq_true, Bool.not_eq_false, Decidable.not_not] at hb))
      all_goals first
        | rfl
        | (simp; omega)
        | (refine congrArg (fun l => Ob.arr true 2 (List.map encAd l)) ?_
           try simp only [getD_set', List.length_set, hlt, set_set']
           exact mkTo_set (by omega) rfl)
    · rw [mkTo_end (by omega)]
    · have : i = xs.length := by omega
      rw [this]

def c14 : Mt := ctM (lc (ERu.aow true 5) (lc AInt l0)) (fun p => 0 ≤ p.2.1 ∧ p.2.1 ≤ 10000000 ∧ (p.1.length : Int) ≤ 1048576) (fun p => ([.o true 5 ((mkL gRu 5 p.2.1 p.1.length).map encRu), .t (.v (.int .i64 p.2.1))], .t (.v (.int .i64 (p.2.1 + 5 * p.1.length)))))
theorem c14_eq {args : List AV} {K : List AV → AV → Prop} : c14 args K = M0 (fun p => 0 ≤ p.2.1 ∧ p.2.1 ≤ 10000000 ∧ (p.1.length : Int) ≤ 1048576) (fun p => ([.o true 5 ((mkL gRu 5 p.2.1 p.1.length).map encRu), .t (.v (.int .i64 p.2.1))], .t (.v (.int .i64 (p.2.1 + 5 * p.1.length))))) K ((lc (ERu.aow true 5) (lc AInt l0)).dec args) := rfl
theorem good14 {G : Gt} (hG : GOk Tryz.prog G ∧ GDet G) (h46 : G.e 46 = roEnt 0 c46) : Good Tryz.prog G.m 14 (muEnt c14) := by
  refine good_runM (dp := fun _ => true) (fn := Tryz.f14) (n := 2) (fun _ => rfl) (by kernel_rfl) rfl (by kernel_rfl) hmix hG (Nat.le_of_ble_eq_true rfl) (by kernel_rfl) ?_
  have k46 : (G.e 46).kd = 0 := by rw [h46]; rfl
  have m46 : (G.e 46).ro = c46 := by rw [h46]; rfl
  rintro ⟨xs, k, ⟨⟩⟩ hpre
  simp only [Tryz.f14, go_sem, k46, m46, c46_eq, aSet_map, aCell_map, List.map_replicate, set_Str, set_Ad, set_Ru, List.length_set, List.length_map, Nat.reduceAdd, Nat.reduceMul, Nat.reduceLeDiff, Nat.reduceEqDiff, reduceCtorEq, Nat.reduceSub, Int.reduceNeg, Nat.reduceMod, Nat.reduceBEq, Nat.reduceLT] at hpre ⊢

  refine run_loop [] (ι := {i : Nat // i ≤ xs.length}) (fun p => ⟨[(0, .h 1900), (1, .t (.v (.int .i64 (k + 5 * p.1)))), (5, .t (.v (.int .i64 p.1)))], [(1900, some (.arr true 5 ((mkTo gRu 5 k xs p.1).map encRu)))]⟩) (fun p => xs.length - p.1) ⟨0, by omega⟩ rfl ?_ ?_
  · simp only [go_sem, k46, m46, c46_eq, aSet_map, aCell_map, List.map_replicate, set_Str, set_Ad, set_Ru, List.length_set, List.length_map, Nat.reduceAdd, Nat.reduceMul, Nat.reduceLeDiff, Nat.reduceEqDiff, reduceCtorEq, Nat.reduceSub, Int.reduceNeg, Nat.reduceMod, Nat.reduceBEq, Nat.reduceLT]
    simp [mkTo_0]
  · rintro ⟨i, hi⟩
    simp only [go_sem, k46, m46, c46_eq, aSet_map, aCell_map, List.map_replicate, set_Str, set_Ad, set_Ru, List.length_set, List.length_map, Nat.reduceAdd, Nat.reduceMul, Nat.reduceLeDiff, Nat.reduceEqDiff, reduceCtorEq, Nat.reduceSub, Int.reduceNeg, Nat.reduceMod, Nat.reduceBEq, Nat.reduceLT]
    have hl := mkTo_len (g := gRu) (w := 5) (k := k) hi
    repeat' (first | with_reducible apply And.intro | intro _ | (refine brB_split (fun hb => ?_) (fun hb => ?_) <;> simp only [hb, go_sem, k46, m46, c46_eq, aSet_map, aCell_map, List.map_replicate, set_Str, set_Ad, set_Ru, List.length_set, List.length_map, Nat.reduceAdd, Nat.reduceMul, Nat.reduceLeDiff, Nat.reduceEqDiff, reduceCtorEq, Nat.reduceSub, Int.reduceNeg, Nat.reduceMod, Nat.reduceBEq, Nat.reduceLT] <;> try simp only [bOf_t, bOf_f, decide_eq_true_eq, decide_eq_false_iff_not, Bool.not_eq_true', Bool.not_eq_false', Bool.not_eq_true, Bool.not_eq_false, Decidable.not_not] at hb) | (refine aPickB_split (fun hb => ?_) (fun hb => ?_) <;> simp only [hb, go_sem, k46, m46, c46_eq, aSet_map, aCell_map, List.map_replicate, set_Str, set_Ad, set_Ru, List.length_set, List.length_map, Nat.reduceAdd, Nat.reduceMul, Nat.reduceLeDiff, Nat.reduceEqDiff, reduceCtorEq, Nat.reduceSub, Int.reduceNeg, Nat.reduceMod, Nat.reduceBEq, Nat.reduceLT] <;> try simp only [bOf_t, bOf_f, decide_eq_true_eq, decide_eq_false_iff_not, Bool.not_eq_true', Bool.not_eq_false', Bool.not_eq_true, Bool.not_eq_false, Decidable.not_not] at hb) | (refine gB_split (fun hb => ?_) (fun hb => ?_) <;> simp only [hb, go_sem, k46, m46, c46_eq, aSet_map, aCell_map, List.map_replicate, set_Str, set_Ad, set_Ru, List.length_set, List.length_map, Nat.reduceAdd, Nat.reduceMul, Nat.reduceLeDiff, Nat.reduceEqDiff, reduceCtorEq, Nat.reduceSub, Int.reduceNeg, Nat.reduceMod, Nat.reduceBEq, Nat.reduceLT] <;> try simp only [bOf_t, bOf_f, decide_eq_true_eq, decide_eq_false_iff_not, Bool.not_eq_true', Bool.not_eq_false', Bool.not_eq_true, Bool.not_eq_false, Decidable.not_not] at hb))
    all_goals (try simp only [maxLen, Int.toNat_natCast, List.length_set, List.length_map, mkTo_len hi] at *)
    all_goals first | rfl | omega | (simp; done) | skip
    · have hlt : i < (mkTo gRu 5 k xs i).length := by rw [mkTo_len hi]; omega
      refine ⟨⟨i + 1, by omega⟩, by simp only []; omega, ?_⟩
      simp only [go_sem, k46, m46, c46_eq, aSet_map, aCell_map, List.map_replicate, set_Str, set_Ad, set_Ru, List.length_set, List.length_map, Nat.reduceAdd, Nat.reduceMul, Nat.reduceLeDiff, Nat.reduceEqDiff, reduceCtorEq, Nat.reduceSub, Int.reduceNeg, Nat.reduceMod, Nat.reduceBEq, Nat.reduceLT]
      repeat' (first | with_reducible apply And.intro | intro _ | (refine brB_split (fun hb => ?_) (fun hb => ?_) <;> simp only [hb, go_sem, k46, m46, c46_eq, aSet_map, aCell_map, List.map_replicate, set_Str, set_Ad, set_Ru, List.length_set, List.length_map, Nat.reduceAdd, Nat.reduceMul, Nat.reduceLeDiff, Nat.reduceEqDiff, reduceCtorEq, Nat.reduceSub, Int.reduceNeg, Nat.reduceMod, Nat.reduceBEq, Nat.reduceLT] <;> try simp only [bOf_t, bOf_f, decide_eq_true_eq, decide_eq_false_iff_not, Bool.not_eq_true', Bool.not_eq_false', Bool.not_eq_true, Bool.not_eq_false, Decidable.not_not] at hb) | (refine aPickB_split (fun hb => ?_) (fun hb => ?_) <;> simp only [hb, go_sem, k46, m46, c46_eq, aSet_map, aCell_map, List.map_replicate, set_Str, set_Ad, set_Ru, List.length_set, List.length_map, Nat.reduceAdd, Nat.reduceMul, Nat.reduceLeDiff, Nat.reduceEqDiff, reduceCtorEq, Nat.reduceSub, Int.reduceNeg, Nat.reduceMod, Nat.reduceBEq, Nat.reduceLT] <;> try simp only [bOf_t, bOf_f, decide_eq_true_eq, decide_eq_false_iff_not, Bool.not_eq_true', Bool.not_eq_false', Bool.not_eq_true, Bool.not_eq_false, Decidable.not_not] at hb) | (refine gB_split (fun hb => ?_) (fun hb => ?_) <;> simp only [hb, go_sem, k46, m46, c46_eq, aSet_map, aCell_map, List.map_replicate, set_Str, set_Ad, set_Ru, List.length_set, List.length_map, Nat.reduceAdd, Nat.reduceMul, Nat.reduceLeDiff, Nat.reduceEqDiff, reduceCtorEq, Nat.reduceSub, Int.reduceNeg, Nat.reduceMod, Nat.reduceBEq, Nat.reduceLT] <;> try simp only [bOf_t, bOf_f, decide_eq_true_eq, decide_eq_false_iff_not, Bool.not_eq_true', Bool.not_eq_false', Bool.not_eq_true, Bool.not_eq_false, Decidable.not_not] at hb))
      all_goals first
        | rfl
        | (simp; omega)
        | (refine congrArg (fun l => Ob.arr true 5 (List.map encRu l)) ?_
           try simp only [getD_set', List.length_set, hlt, set_set']
           exact mkTo_set (by omega) rfl)
    · rw [mkTo_end (by omega)]
    · have : i = xs.length := by omega
      rw [this]


/-- A mail of one's own. -/
def mlOwD : AV → Option Ml
  | .agg [.t (.v (.string u)), .t (.v (.string d)), x, y] => mkMl u d (EAd.owD true 2 x) (EStr.owD true 1 y)
  | _ => none
def mlOw (m : Ml) : AV := .agg [.t (.v (.string m.frm.user)), .t (.v (.string m.frm.domain)), .o true 2 (m.to.map encAd), .o true 1 (m.body.map encStr)]
def AMl : AD Ml where
  enc := mlOw
  dec := mlOwD
  ed := fun m => by
    show mkMl m.frm.user m.frm.domain (EAd.owD true 2 ((EAd.aow true 2).enc m.to)) (EStr.owD true 1 ((EStr.aow true 1).enc m.body)) = _
    rw [show EAd.owD true 2 ((EAd.aow true 2).enc m.to) = some m.to from (EAd.aow true 2).ed m.to, show EStr.owD true 1 ((EStr.aow true 1).enc m.body) = some m.body from (EStr.aow true 1).ed m.body]
    rfl
  de := fun x m h => by
    unfold mlOwD at h
    split at h
    · unfold mkMl at h
      split at h
      · rename_i e1 e2
        cases h
        have q1 := (EAd.aow true 2).de _ _ e1
        have q2 := (EStr.aow true 1).de _ _ e2
        subst q1; subst q2; rfl
      · cases h
    · cases h
theorem AMl_enc (m : Ml) : AMl.enc m = .agg [.t (.v (.string m.frm.user)), .t (.v (.string m.frm.domain)), .o true 2 (m.to.map encAd), .o true 1 (m.body.map encStr)] := rfl
theorem AMl_dec {u d : ByteArray} {t b : List (List T)} : AMl.dec (.agg [.t (.v (.string u)), .t (.v (.string d)), .o true 2 t, .o true 1 b]) = mkMl u d (EAd.decL t) (EStr.decL b) := rfl
def mkMlM (m : Ml) (k : Int) : Ml := ⟨m.frm, mkL gAd 2 k m.to.length, mkL mkT 1 (k + 2 * m.to.length) m.body.length⟩
def c15 : Mt := ctM (lc AMl (lc AInt l0)) (fun p => 0 ≤ p.2.1 ∧ p.2.1 ≤ 6000000 ∧ (p.1.to.length : Int) ≤ 1048576 ∧ (p.1.body.length : Int) ≤ 1048576) (fun p => ([mlOw (mkMlM p.1 p.2.1), .t (.v (.int .i64 p.2.1))], .t (.v (.int .i64 (p.2.1 + 2 * p.1.to.length + 1 * p.1.body.length)))))
theorem c15_eq {args : List AV} {K : List AV → AV → Prop} : c15 args K = M0 (fun p => 0 ≤ p.2.1 ∧ p.2.1 ≤ 6000000 ∧ (p.1.to.length : Int) ≤ 1048576 ∧ (p.1.body.length : Int) ≤ 1048576) (fun p => ([mlOw (mkMlM p.1 p.2.1), .t (.v (.int .i64 p.2.1))], .t (.v (.int .i64 (p.2.1 + 2 * p.1.to.length + 1 * p.1.body.length))))) K ((lc AMl (lc AInt l0)).dec args) := rfl
theorem good15 {G : Gt} (hG : GOk Tryz.prog G ∧ GDet G) (h47 : G.e 47 = muEnt c47) (h48 : G.e 48 = muEnt c48) : Good Tryz.prog G.m 15 (muEnt c15) := by
  refine good_runM (dp := fun _ => true) (fn := Tryz.f15) (n := 2) (fun _ => rfl) (by kernel_rfl) rfl (by kernel_rfl) hmix hG (Nat.le_of_ble_eq_true rfl) (by kernel_rfl) ?_
  have k47 : (G.e 47).kd = 2 := by rw [h47]; rfl
  have m47 : (G.e 47).mu = c47 := by rw [h47]; rfl
  have k48 : (G.e 48).kd = 2 := by rw [h48]; rfl
  have m48 : (G.e 48).mu = c48 := by rw [h48]; rfl
  rintro ⟨m, k, ⟨⟩⟩ hpre
  simp only [Tryz.f15, go_sem, k47, m47, c47_eq, k48, m48, c48_eq, AMl_enc, mlOw, mkMlM, Nat.reduceAdd, Nat.reduceMul, Nat.reduceLeDiff, Nat.reduceEqDiff, reduceCtorEq, Nat.reduceSub, Int.reduceNeg, Nat.reduceMod, Nat.reduceBEq, Nat.reduceLT] at hpre ⊢

  repeat' (first | with_reducible apply And.intro | intro _ | (refine brB_split (fun hb => ?_) (fun hb => ?_) <;> simp only [hb, go_sem, k47, m47, c47_eq, k48, m48, c48_eq, AMl_enc, mlOw, mkMlM, Nat.reduceAdd, Nat.reduceMul, Nat.reduceLeDiff, Nat.reduceEqDiff, reduceCtorEq, Nat.reduceSub, Int.reduceNeg, Nat.reduceMod, Nat.reduceBEq, Nat.reduceLT] <;> try simp only [bOf_t, bOf_f, decide_eq_true_eq, decide_eq_false_iff_not, Bool.not_eq_true', Bool.not_eq_false', Bool.not_eq_true, Bool.not_eq_false, Decidable.not_not] at hb) | (refine aPickB_split (fun hb => ?_) (fun hb => ?_) <;> simp only [hb, go_sem, k47, m47, c47_eq, k48, m48, c48_eq, AMl_enc, mlOw, mkMlM, Nat.reduceAdd, Nat.reduceMul, Nat.reduceLeDiff, Nat.reduceEqDiff, reduceCtorEq, Nat.reduceSub, Int.reduceNeg, Nat.reduceMod, Nat.reduceBEq, Nat.reduceLT] <;> try simp only [bOf_t, bOf_f, decide_eq_true_eq, decide_eq_false_iff_not, Bool.not_eq_true', Bool.not_eq_false', Bool.not_eq_true, Bool.not_eq_false, Decidable.not_not] at hb) | (refine gB_split (fun hb => ?_) (fun hb => ?_) <;> simp only [hb, go_sem, k47, m47, c47_eq, k48, m48, c48_eq, AMl_enc, mlOw, mkMlM, Nat.reduceAdd, Nat.reduceMul, Nat.reduceLeDiff, Nat.reduceEqDiff, reduceCtorEq, Nat.reduceSub, Int.reduceNeg, Nat.reduceMod, Nat.reduceBEq, Nat.reduceLT] <;> try simp only [bOf_t, bOf_f, decide_eq_true_eq, decide_eq_false_iff_not, Bool.not_eq_true', Bool.not_eq_false', Bool.not_eq_true, Bool.not_eq_false, Decidable.not_not] at hb))
  all_goals (try simp only [maxLen, List.length_map] at *)
  all_goals first | rfl | omega | (simp [*]; done) | trace_state


def bl (s : ByteArray) : List UInt8 := s.data.toList
def mB (l : List UInt8) : ByteArray := ⟨l.toArray⟩
theorem bl_mk (l : List UInt8) : bl (mB l) = l := rfl
theorem mk_bl (s : ByteArray) : mB (bl s) = s := rfl
theorem bl_len (s : ByteArray) : (bl s).length = s.size := rfl
theorem mk_size (l : List UInt8) : (mB l).size = l.length := rfl
theorem byteAt_bl (s : ByteArray) (i : Nat) : byteAt s i = (((bl s).getD i 0).toNat : Int) := rfl
theorem bl_inj {s t : ByteArray} (h : bl s = bl t) : s = t := by
  rw [← mk_bl s, ← mk_bl t, h]
theorem bl_extract (s : ByteArray) (i j : Nat) : bl (s.extract i j) = ((bl s).drop i).take (j - i) := by
  unfold bl
  rw [ByteArray.data_extract, Array.toList_extract]
theorem extract_mk (s : ByteArray) (i j : Nat) : s.extract i j = mB (((bl s).drop i).take (j - i)) := bl_inj (by rw [bl_extract, bl_mk])
theorem byteAt_range (s : ByteArray) (i : Nat) : 0 ≤ byteAt s i ∧ byteAt s i ≤ 255 := by
  rw [byteAt_bl]
  have := ((bl s).getD i 0).toNat_lt
  omega
def isLc (n : Int) : Prop := (97 ≤ n ∧ n ≤ 122) ∨ (48 ≤ n ∧ n ≤ 57)
def Lbl (s : ByteArray) : Prop := (∀ j, j < s.size → isLc (byteAt s j)) ∧ 1 ≤ s.size ∧ s.size ≤ 8
def Lin (s : ByteArray) : Prop := (∀ j, j < s.size → 32 ≤ byteAt s j ∧ byteAt s j ≤ 126) ∧ s.size ≤ 40
/-- Cut at each such byte, so many times at most. -/
def splitN (c : UInt8) : Nat → List UInt8 → List (List UInt8)
  | 0, l => [l]
  | _ + 1, [] => [[]]
  | m + 1, x :: r => if x = c then [] :: splitN c m r else match splitN c (m + 1) r with | h :: t => (x :: h) :: t | [] => [[x]]
def preL (p : List UInt8) : List (List UInt8) → List (List UInt8)
  | h :: t => (p ++ h) :: t
  | [] => [p]
theorem preL_nil : ∀ (l : List (List UInt8)), l ≠ [] → preL [] l = l
  | h :: t, _ => rfl
  | [], h => absurd rfl h
theorem splitN_ne (c : UInt8) : ∀ (m : Nat) (l : List UInt8), splitN c m l ≠ []
  | 0, l => by simp [splitN]
  | m + 1, [] => by simp [splitN]
  | m + 1, x :: r => by
    unfold splitN
    split
    · simp
    · split <;> simp
theorem splitN_hit (c : UInt8) (m : Nat) (r : List UInt8) (p : List UInt8) : preL p (splitN c (m + 1) (c :: r)) = p :: splitN c m r := by
  simp [splitN, preL]
theorem splitN_miss {c x : UInt8} (h : x ≠ c) (m : Nat) (r : List UInt8) (p : List UInt8) : preL p (splitN c (m + 1) (x :: r)) = preL (p ++ [x]) (splitN c (m + 1) r) := by
  cases h1 : splitN c (m + 1) r with
  | nil => exact absurd h1 (splitN_ne c (m + 1) r)
  | cons a t => simp only [splitN, if_neg h, h1, preL, List.append_assoc, List.singleton_append]
theorem splitN_0 (c : UInt8) (l : List UInt8) (p : List UInt8) : preL p (splitN c 0 l) = [p ++ l] := by simp [splitN, preL]
theorem splitN_end (c : UInt8) (m : Nat) (p : List UInt8) : preL p (splitN c m []) = [p] := by
  cases m <;> simp [splitN, preL]
def cutL (s : ByteArray) (c : UInt8) (m : Nat) : List ByteArray := (splitN c m (bl s)).map mB
def c66 : Ct := ctR (lc AInt (lc AInt (lc AInt l0))) (fun p => True) (fun p => .t (.v (.bool (bOf (p.2.1 ≤ p.1 ∧ p.1 ≤ p.2.2.1)))))
theorem c66_eq {args : List AV} {K : AV → Prop} : c66 args K = K0 (fun p => True) (fun p => .t (.v (.bool (bOf (p.2.1 ≤ p.1 ∧ p.1 ≤ p.2.2.1))))) K ((lc AInt (lc AInt (lc AInt l0))).dec args) := rfl
theorem good66 {G : Gt} (hG : GOk Tryz.prog G ∧ GDet G) : Good Tryz.prog G.m 66 (roEnt 0 c66) := by
  refine good_run (dp := fun _ => true) (fn := Tryz.f66) (n := 3) (fun _ => rfl) (by kernel_rfl) rfl (by kernel_rfl) hmix hG (Nat.le_of_ble_eq_true rfl) (by kernel_rfl) (by decide) (fun _ _ => .v _) ?_
  rintro ⟨n, lo, hi, ⟨⟩⟩ hpre
  simp only [Tryz.f66, go_sem, Nat.reduceAdd, Nat.reduceMul, Nat.reduceLeDiff, Nat.reduceEqDiff, reduceCtorEq, Nat.reduceSub, Int.reduceNeg, Nat.reduceMod, Nat.reduceBEq, Nat.reduceLT] at hpre ⊢

  repeat' (first | with_reducible apply And.intro | intro _ | (refine brB_split (fun hb => ?_) (fun hb => ?_) <;> simp only [hb, go_sem, Nat.reduceAdd, Nat.reduceMul, Nat.reduceLeDiff, Nat.reduceEqDiff, reduceCtorEq, Nat.reduceSub, Int.reduceNeg, Nat.reduceMod, Nat.reduceBEq, Nat.reduceLT] <;> try simp only [bOf_t, bOf_f, decide_eq_true_eq, decide_eq_false_iff_not, Bool.not_eq_true', Bool.not_eq_false', Bool.not_eq_true, Bool.not_eq_false, Decidable.not_not] at hb) | (refine aPickB_split (fun hb => ?_) (fun hb => ?_) <;> simp only [hb, go_sem, Nat.reduceAdd, Nat.reduceMul, Nat.reduceLeDiff, Nat.reduceEqDiff, reduceCtorEq, Nat.reduceSub, Int.reduceNeg, Nat.reduceMod, Nat.reduceBEq, Nat.reduceLT] <;> try simp only [bOf_t, bOf_f, decide_eq_true_eq, decide_eq_false_iff_not, Bool.not_eq_true', Bool.not_eq_false', Bool.not_eq_true, Bool.not_eq_false, Decidable.not_not] at hb) | (refine gB_split (fun hb => ?_) (fun hb => ?_) <;> simp only [hb, go_sem, Nat.reduceAdd, Nat.reduceMul, Nat.reduceLeDiff, Nat.reduceEqDiff, reduceCtorEq, Nat.reduceSub, Int.reduceNeg, Nat.reduceMod, Nat.reduceBEq, Nat.reduceLT] <;> try simp only [bOf_t, bOf_f, decide_eq_true_eq, decide_eq_false_iff_not, Bool.not_eq_true', Bool.not_eq_false', Bool.not_eq_true, Bool.not_eq_false, Decidable.not_not] at hb))
  all_goals first
    | (rw [bOf_n (by omega)]; done)
    | (rw [bOf_d]; simp [*]; done)
    | trace_state

def c106 : Ct := ctR (lc AStr l0) (fun p => True) (fun p => .t (.v (.bool (bOf (Lbl p.1)))))
theorem c106_eq {args : List AV} {K : AV → Prop} : c106 args K = K0 (fun p => True) (fun p => .t (.v (.bool (bOf (Lbl p.1))))) K ((lc AStr l0).dec args) := rfl
theorem good106 {G : Gt} (hG : GOk Tryz.prog G ∧ GDet G) (h66 : G.e 66 = roEnt 0 c66) : Good Tryz.prog G.m 106 (roEnt 0 c106) := by
  refine good_run (dp := fun _ => true) (fn := Tryz.f106) (n := 1) (fun _ => rfl) (by kernel_rfl) rfl (by kernel_rfl) hmix hG (Nat.le_of_ble_eq_true rfl) (by kernel_rfl) (by decide) (fun _ _ => .v _) ?_
  have k66 : (G.e 66).kd = 0 := by rw [h66]; rfl
  have m66 : (G.e 66).ro = c66 := by rw [h66]; rfl
  rintro ⟨s, ⟨⟩⟩ hpre
  simp only [Tryz.f106, go_sem, k66, m66, c66_eq, Nat.reduceAdd, Nat.reduceMul, Nat.reduceLeDiff, Nat.reduceEqDiff, reduceCtorEq, Nat.reduceSub, Int.reduceNeg, Nat.reduceMod, Nat.reduceBEq, Nat.reduceLT] at hpre ⊢

  refine run_loop [] (ι := {i : Nat // i ≤ s.size ∧ ∀ j, j < i → isLc (byteAt s j)}) (fun p => ⟨[(0, .t (.v (.string s))), (3, .t (.v (.int .i64 p.1)))], []⟩) (fun p => s.size - p.1) ⟨0, by simp, by simp⟩ rfl ?_ ?_
  · simp only [go_sem, k66, m66, c66_eq, Nat.reduceAdd, Nat.reduceMul, Nat.reduceLeDiff, Nat.reduceEqDiff, reduceCtorEq, Nat.reduceSub, Int.reduceNeg, Nat.reduceMod, Nat.reduceBEq, Nat.reduceLT]
    simp
  · rintro ⟨i, hi, hall⟩
    simp only [go_sem, k66, m66, c66_eq, Nat.reduceAdd, Nat.reduceMul, Nat.reduceLeDiff, Nat.reduceEqDiff, reduceCtorEq, Nat.reduceSub, Int.reduceNeg, Nat.reduceMod, Nat.reduceBEq, Nat.reduceLT]
    repeat' (first | with_reducible apply And.intro | intro _ | (refine brB_split (fun hb => ?_) (fun hb => ?_) <;> simp only [hb, go_sem, k66, m66, c66_eq, Nat.reduceAdd, Nat.reduceMul, Nat.reduceLeDiff, Nat.reduceEqDiff, reduceCtorEq, Nat.reduceSub, Int.reduceNeg, Nat.reduceMod, Nat.reduceBEq, Nat.reduceLT] <;> try simp only [bOf_t, bOf_f, decide_eq_true_eq, decide_eq_false_iff_not, Bool.not_eq_true', Bool.not_eq_false', Bool.not_eq_true, Bool.not_eq_false, Decidable.not_not] at hb) | (refine aPickB_split (fun hb => ?_) (fun hb => ?_) <;> simp only [hb, go_sem, k66, m66, c66_eq, Nat.reduceAdd, Nat.reduceMul, Nat.reduceLeDiff, Nat.reduceEqDiff, reduceCtorEq, Nat.reduceSub, Int.reduceNeg, Nat.reduceMod, Nat.reduceBEq, Nat.reduceLT] <;> try simp only [bOf_t, bOf_f, decide_eq_true_eq, decide_eq_false_iff_not, Bool.not_eq_true', Bool.not_eq_false', Bool.not_eq_true, Bool.not_eq_false, Decidable.not_not] at hb) | (refine gB_split (fun hb => ?_) (fun hb => ?_) <;> simp only [hb, go_sem, k66, m66, c66_eq, Nat.reduceAdd, Nat.reduceMul, Nat.reduceLeDiff, Nat.reduceEqDiff, reduceCtorEq, Nat.reduceSub, Int.reduceNeg, Nat.reduceMod, Nat.reduceBEq, Nat.reduceLT] <;> try simp only [bOf_t, bOf_f, decide_eq_true_eq, decide_eq_false_iff_not, Bool.not_eq_true', Bool.not_eq_false', Bool.not_eq_true, Bool.not_eq_false, Decidable.not_not] at hb))
    all_goals (try simp only [maxLen, Int.toNat_natCast] at *)
    all_goals (try have hbr := byteAt_range s i)
    all_goals first | rfl | omega | skip
    all_goals first
      | (rw [bOf_n (fun hq => by have hq1 := hq.1 i (by omega); simp only [isLc] at *; omega)]; done)
      | (refine ⟨⟨i + 1, by omega, fun j hj => ?_⟩, by dsimp only; omega, ?_⟩
         · by_cases e : j = i
           · subst e; simp only [isLc] at *; omega
           · exact hall j (by omega)
         · simp only [go_sem, k66, m66, c66_eq, Nat.reduceAdd, Nat.reduceMul, Nat.reduceLeDiff, Nat.reduceEqDiff, reduceCtorEq, Nat.reduceSub, Int.reduceNeg, Nat.reduceMod, Nat.reduceBEq, Nat.reduceLT]
           simp)
      | skip
    · rw [bOf_congr]
      exact ⟨fun h => ⟨fun j hj => hall j (by omega), by omega⟩, fun h => by have := h.2; omega⟩


def c70 : Ct := ctR (lc AStr l0) (fun p => True) (fun p => .t (.v (.bool (bOf (Lin p.1)))))
theorem c70_eq {args : List AV} {K : AV → Prop} : c70 args K = K0 (fun p => True) (fun p => .t (.v (.bool (bOf (Lin p.1))))) K ((lc AStr l0).dec args) := rfl
theorem good70 {G : Gt} (hG : GOk Tryz.prog G ∧ GDet G) : Good Tryz.prog G.m 70 (roEnt 0 c70) := by
  refine good_run (dp := fun _ => true) (fn := Tryz.f70) (n := 1) (fun _ => rfl) (by kernel_rfl) rfl (by kernel_rfl) hmix hG (Nat.le_of_ble_eq_true rfl) (by kernel_rfl) (by decide) (fun _ _ => .v _) ?_
  rintro ⟨s, ⟨⟩⟩ hpre
  simp only [Tryz.f70, go_sem, Nat.reduceAdd, Nat.reduceMul, Nat.reduceLeDiff, Nat.reduceEqDiff, reduceCtorEq, Nat.reduceSub, Int.reduceNeg, Nat.reduceMod, Nat.reduceBEq, Nat.reduceLT] at hpre ⊢

  refine run_loop [] (ι := {i : Nat // i ≤ s.size ∧ ∀ j, j < i → 32 ≤ byteAt s j ∧ byteAt s j ≤ 126}) (fun p => ⟨[(0, .t (.v (.string s))), (3, .t (.v (.int .i64 p.1)))], []⟩) (fun p => s.size - p.1) ⟨0, by simp, by simp⟩ rfl ?_ ?_
  · simp only [go_sem, Nat.reduceAdd, Nat.reduceMul, Nat.reduceLeDiff, Nat.reduceEqDiff, reduceCtorEq, Nat.reduceSub, Int.reduceNeg, Nat.reduceMod, Nat.reduceBEq, Nat.reduceLT]
    simp
  · rintro ⟨i, hi, hall⟩
    simp only [go_sem, Nat.reduceAdd, Nat.reduceMul, Nat.reduceLeDiff, Nat.reduceEqDiff, reduceCtorEq, Nat.reduceSub, Int.reduceNeg, Nat.reduceMod, Nat.reduceBEq, Nat.reduceLT]
    repeat' (first | with_reducible apply And.intro | intro _ | (refine brB_split (fun hb => ?_) (fun hb => ?_) <;> simp only [hb, go_sem, Nat.reduceAdd, Nat.reduceMul, Nat.reduceLeDiff, Nat.reduceEqDiff, reduceCtorEq, Nat.reduceSub, Int.reduceNeg, Nat.reduceMod, Nat.reduceBEq, Nat.reduceLT] <;> try simp only [bOf_t, bOf_f, decide_eq_true_eq, decide_eq_false_iff_not, Bool.not_eq_true', Bool.not_eq_false', Bool.not_eq_true, Bool.not_eq_false, Decidable.not_not] at hb) | (refine aPickB_split (fun hb => ?_) (fun hb => ?_) <;> simp only [hb, go_sem, Nat.reduceAdd, Nat.reduceMul, Nat.reduceLeDiff, Nat.reduceEqDiff, reduceCtorEq, Nat.reduceSub, Int.reduceNeg, Nat.reduceMod, Nat.reduceBEq, Nat.reduceLT] <;> try simp only [bOf_t, bOf_f, decide_eq_true_eq, decide_eq_false_iff_not, Bool.not_eq_true', Bool.not_eq_false', Bool.not_eq_true, Bool.not_eq_false, Decidable.not_not] at hb) | (refine gB_split (fun hb => ?_) (fun hb => ?_) <;> simp only [hb, go_sem, Nat.reduceAdd, Nat.reduceMul, Nat.reduceLeDiff, Nat.reduceEqDiff, reduceCtorEq, Nat.reduceSub, Int.reduceNeg, Nat.reduceMod, Nat.reduceBEq, Nat.reduceLT] <;> try simp only [bOf_t, bOf_f, decide_eq_true_eq, decide_eq_false_iff_not, Bool.not_eq_true', Bool.not_eq_false', Bool.not_eq_true, Bool.not_eq_false, Decidable.not_not] at hb))
    all_goals (try simp only [maxLen, Int.toNat_natCast] at *)
    all_goals (try have hbr := byteAt_range s i)
    all_goals first | rfl | omega | skip
    all_goals first
      | (rw [bOf_n (fun hq => by have hq1 := hq.1 i (by omega); skip; omega)]; done)
      | (refine ⟨⟨i + 1, by omega, fun j hj => ?_⟩, by dsimp only; omega, ?_⟩
         · by_cases e : j = i
           · subst e; skip; omega
           · exact hall j (by omega)
         · simp only [go_sem, Nat.reduceAdd, Nat.reduceMul, Nat.reduceLeDiff, Nat.reduceEqDiff, reduceCtorEq, Nat.reduceSub, Int.reduceNeg, Nat.reduceMod, Nat.reduceBEq, Nat.reduceLT]
           simp)
      | skip
    · rw [← bOf_d, bOf_congr]
      exact ⟨fun h => ⟨fun j hj => hall j (by omega), by omega⟩, fun h => by have := h.2; omega⟩



/-- What a cut has come to: what is cut off, where the rest begins, how far it was looked. -/
structure CutSt (s : ByteArray) (c : UInt8) (m : Nat) where
  i : Nat
  fr : Nat
  o : List (List UInt8)
  hi : i ≤ s.size
  hf : fr ≤ i
  ho : o.length ≤ m
  h : o ++ preL (((bl s).drop fr).take (i - fr)) (splitN c (m - o.length) ((bl s).drop i)) = splitN c m (bl s)
theorem take_snoc {l : List UInt8} {fr i : Nat} (hf : fr ≤ i) (hi : i < l.length) : (l.drop fr).take (i + 1 - fr) = (l.drop fr).take (i - fr) ++ [l.getD i 0] := by
  have e : i + 1 - fr = (i - fr) + 1 := by omega
  rw [e, List.take_add_one]
  have : (l.drop fr)[i - fr]? = some (l.getD i 0) := by
    rw [List.getElem?_drop]
    have : fr + (i - fr) = i := by omega
    rw [this]
    simp [hi]
  rw [this]; rfl
def CutSt.start (s : ByteArray) (c : UInt8) (m : Nat) : CutSt s c m := ⟨0, 0, [], Nat.zero_le _, Nat.le_refl _, Nat.zero_le _, by
  simp only [Nat.sub_self, List.take_zero, List.nil_append, List.length_nil, Nat.sub_zero, List.drop_zero]
  exact preL_nil _ (splitN_ne c m _)⟩
theorem drop_byte {s : ByteArray} {i : Nat} (h : i < s.size) : (bl s).drop i = (bl s).getD i 0 :: (bl s).drop (i + 1) := by
  have h' : i < (bl s).length := h
  rw [List.drop_eq_getElem_cons h']
  simp [h']
def CutSt.hit {s : ByteArray} {c : UInt8} {m : Nat} (z : CutSt s c m) (h1 : z.i < s.size) (h2 : z.o.length < m) (h3 : (bl s).getD z.i 0 = c) : CutSt s c m :=
  ⟨z.i + 1, z.i + 1, z.o ++ [((bl s).drop z.fr).take (z.i - z.fr)], h1, Nat.le_refl _, by simp; omega, by
    have h := z.h
    obtain ⟨k, hk⟩ : ∃ k, m - z.o.length = k + 1 := ⟨m - z.o.length - 1, by omega⟩
    rw [hk, drop_byte h1, h3, splitN_hit] at h
    have e : m - (z.o ++ [((bl s).drop z.fr).take (z.i - z.fr)]).length = k := by simp; omega
    rw [e, Nat.sub_self, List.take_zero, preL_nil _ (splitN_ne _ _ _), List.append_assoc, List.singleton_append]
    exact h⟩
def CutSt.miss {s : ByteArray} {c : UInt8} {m : Nat} (z : CutSt s c m) (h1 : z.i < s.size) (h2 : z.o.length < m) (h3 : (bl s).getD z.i 0 ≠ c) : CutSt s c m :=
  ⟨z.i + 1, z.fr, z.o, h1, Nat.le_succ_of_le z.hf, z.ho, by
    have h := z.h
    obtain ⟨k, hk⟩ : ∃ k, m - z.o.length = k + 1 := ⟨m - z.o.length - 1, by omega⟩
    rw [hk, drop_byte h1, splitN_miss h3] at h
    rw [hk, take_snoc (l := bl s) z.hf (by rw [bl_len]; exact h1)]
    exact h⟩
theorem CutSt.done {s : ByteArray} {c : UInt8} {m : Nat} (z : CutSt s c m) (h : ¬ z.i < s.size ∨ ¬ z.o.length < m) : z.o.map mB ++ [s.extract z.fr s.size] = cutL s c m := by
  have hz := z.h
  have e0 : s.extract z.fr s.size = mB ((bl s).drop z.fr) := by
    rw [extract_mk]
    congr 1
    rw [List.take_of_length_le (by rw [List.length_drop, bl_len]; exact Nat.le_refl _)]
  unfold cutL
  rw [← hz, List.map_append, e0]
  congr 1
  rcases h with h | h
  · have hi := z.hi
    have e : (bl s).drop z.i = [] := List.drop_of_length_le (by rw [bl_len]; omega)
    rw [e, splitN_end]
    have : ((bl s).drop z.fr).take (z.i - z.fr) = (bl s).drop z.fr := List.take_of_length_le (by rw [List.length_drop, bl_len]; omega)
    rw [this]; rfl
  · have hk : m - z.o.length = 0 := by omega
    rw [hk, splitN_0]
    have hf := z.hf
    have : ((bl s).drop z.fr).take (z.i - z.fr) ++ (bl s).drop z.i = (bl s).drop z.fr := by
      have e : (bl s).drop z.i = ((bl s).drop z.fr).drop (z.i - z.fr) := by rw [List.drop_drop]; congr 1; omega
      rw [e, List.take_append_drop]
    rw [this]; rfl
theorem ex_take (s : ByteArray) (z : List (List UInt8)) (fr i : Nat) : z.map mB ++ [s.extract fr i] = (z ++ [((bl s).drop fr).take (i - fr)]).map mB := by
  rw [extract_mk, List.map_append]; rfl
theorem app_str (l : List ByteArray) (x : ByteArray) : l.map encStr ++ [[T.v (.string x)]] = (l ++ [x]).map encStr := by simp [encStr]
theorem app_ex (s : ByteArray) (z : List (List UInt8)) (fr i : Nat) : (z.map mB).map encStr ++ [[T.v (.string (s.extract fr i))]] = ((z ++ [((bl s).drop fr).take (i - fr)]).map mB).map encStr := by
  rw [app_str, ex_take]
theorem byteAt_eq {s : ByteArray} {i : Nat} {c : UInt8} : byteAt s i = (c.toNat : Int) ↔ (bl s).getD i 0 = c := by
  rw [byteAt_bl]
  constructor
  · intro h
    have : ((bl s).getD i 0).toNat = c.toNat := by omega
    exact UInt8.toNat_inj.1 this
  · intro h; rw [h]
def c105 : Ct := ctR (lc AStr (lc AU8 (lc AInt l0))) (fun p => 0 ≤ p.2.1 ∧ p.2.1 ≤ 255 ∧ 0 ≤ p.2.2.1 ∧ p.2.2.1 ≤ 1000) (fun p => .o true 1 ((cutL p.1 (UInt8.ofNat p.2.1.toNat) p.2.2.1.toNat).map encStr))
theorem c105_eq {args : List AV} {K : AV → Prop} : c105 args K = K0 (fun p => 0 ≤ p.2.1 ∧ p.2.1 ≤ 255 ∧ 0 ≤ p.2.2.1 ∧ p.2.2.1 ≤ 1000) (fun p => .o true 1 ((cutL p.1 (UInt8.ofNat p.2.1.toNat) p.2.2.1.toNat).map encStr)) K ((lc AStr (lc AU8 (lc AInt l0))).dec args) := rfl
theorem good105 {G : Gt} (hG : GOk Tryz.prog G ∧ GDet G) : Good Tryz.prog G.m 105 (roEnt 0 c105) := by
  refine good_run (dp := fun _ => true) (fn := Tryz.f105) (n := 3) (fun _ => rfl) (by kernel_rfl) rfl (by kernel_rfl) hmix hG (Nat.le_of_ble_eq_true rfl) (by kernel_rfl) (by decide) (fun _ p => .deep _ _) ?_
  rintro ⟨s, c, m, ⟨⟩⟩ hpre
  simp only [Tryz.f105, go_sem, List.length_map, List.map_nil, List.length_nil, Nat.reduceAdd, Nat.reduceMul, Nat.reduceLeDiff, Nat.reduceEqDiff, reduceCtorEq, Nat.reduceSub, Int.reduceNeg, Nat.reduceMod, Nat.reduceBEq, Nat.reduceLT] at hpre ⊢

  obtain ⟨c, rfl⟩ : ∃ b : UInt8, c = (b.toNat : Int) := ⟨UInt8.ofNat c.toNat, by simp; omega⟩
  obtain ⟨m, rfl⟩ : ∃ n : Nat, m = (n : Int) := ⟨m.toNat, by omega⟩
  repeat' (first | with_reducible apply And.intro | intro _ | (refine brB_split (fun hb => ?_) (fun hb => ?_) <;> simp only [hb, go_sem, List.length_map, List.map_nil, List.length_nil, Nat.reduceAdd, Nat.reduceMul, Nat.reduceLeDiff, Nat.reduceEqDiff, reduceCtorEq, Nat.reduceSub, Int.reduceNeg, Nat.reduceMod, Nat.reduceBEq, Nat.reduceLT] <;> try simp only [bOf_t, bOf_f, decide_eq_true_eq, decide_eq_false_iff_not, Bool.not_eq_true', Bool.not_eq_false', Bool.not_eq_true, Bool.not_eq_false, Decidable.not_not] at hb) | (refine aPickB_split (fun hb => ?_) (fun hb => ?_) <;> simp only [hb, go_sem, List.length_map, List.map_nil, List.length_nil, Nat.reduceAdd, Nat.reduceMul, Nat.reduceLeDiff, Nat.reduceEqDiff, reduceCtorEq, Nat.reduceSub, Int.reduceNeg, Nat.reduceMod, Nat.reduceBEq, Nat.reduceLT] <;> try simp only [bOf_t, bOf_f, decide_eq_true_eq, decide_eq_false_iff_not, Bool.not_eq_true', Bool.not_eq_false', Bool.not_eq_true, Bool.not_eq_false, Decidable.not_not] at hb) | (refine gB_split (fun hb => ?_) (fun hb => ?_) <;> simp only [hb, go_sem, List.length_map, List.map_nil, List.length_nil, Nat.reduceAdd, Nat.reduceMul, Nat.reduceLeDiff, Nat.reduceEqDiff, reduceCtorEq, Nat.reduceSub, Int.reduceNeg, Nat.reduceMod, Nat.reduceBEq, Nat.reduceLT] <;> try simp only [bOf_t, bOf_f, decide_eq_true_eq, decide_eq_false_iff_not, Bool.not_eq_true', Bool.not_eq_false', Bool.not_eq_true, Bool.not_eq_false, Decidable.not_not] at hb))
  all_goals first | rfl | omega | skip
  refine run_loop [(7, 1901, true, 1)] (ι := CutSt s c m) (fun z => ⟨[(0, .t (.v (.string s))), (1, .t (.v (.int .u8 c.toNat))), (2, .t (.v (.int .i64 m))), (7, .h 1901), (8, .t (.v (.int .i64 z.fr))), (9, .t (.v (.int .i64 z.i)))], [(1901, some (.arr true 1 ((z.o.map mB).map encStr)))]⟩) (fun z => s.size - z.i) (CutSt.start s c m) rfl ?_ ?_
  · simp only [go_sem, List.length_map, List.map_nil, List.length_nil, Nat.reduceAdd, Nat.reduceMul, Nat.reduceLeDiff, Nat.reduceEqDiff, reduceCtorEq, Nat.reduceSub, Int.reduceNeg, Nat.reduceMod, Nat.reduceBEq, Nat.reduceLT]
    simp [CutSt.start]
  · intro z
    have h1 := z.hi
    have h2 := z.hf
    have h3 := z.ho
    simp only [go_sem, List.length_map, List.map_nil, List.length_nil, Nat.reduceAdd, Nat.reduceMul, Nat.reduceLeDiff, Nat.reduceEqDiff, reduceCtorEq, Nat.reduceSub, Int.reduceNeg, Nat.reduceMod, Nat.reduceBEq, Nat.reduceLT]
    repeat' (first | with_reducible apply And.intro | intro _ | (refine brB_split (fun hb => ?_) (fun hb => ?_) <;> simp only [hb, go_sem, List.length_map, List.map_nil, List.length_nil, Nat.reduceAdd, Nat.reduceMul, Nat.reduceLeDiff, Nat.reduceEqDiff, reduceCtorEq, Nat.reduceSub, Int.reduceNeg, Nat.reduceMod, Nat.reduceBEq, Nat.reduceLT] <;> try simp only [bOf_t, bOf_f, decide_eq_true_eq, decide_eq_false_iff_not, Bool.not_eq_true', Bool.not_eq_false', Bool.not_eq_true, Bool.not_eq_false, Decidable.not_not] at hb) | (refine aPickB_split (fun hb => ?_) (fun hb => ?_) <;> simp only [hb, go_sem, List.length_map, List.map_nil, List.length_nil, Nat.reduceAdd, Nat.reduceMul, Nat.reduceLeDiff, Nat.reduceEqDiff, reduceCtorEq, Nat.reduceSub, Int.reduceNeg, Nat.reduceMod, Nat.reduceBEq, Nat.reduceLT] <;> try simp only [bOf_t, bOf_f, decide_eq_true_eq, decide_eq_false_iff_not, Bool.not_eq_true', Bool.not_eq_false', Bool.not_eq_true, Bool.not_eq_false, Decidable.not_not] at hb) | (refine gB_split (fun hb => ?_) (fun hb => ?_) <;> simp only [hb, go_sem, List.length_map, List.map_nil, List.length_nil, Nat.reduceAdd, Nat.reduceMul, Nat.reduceLeDiff, Nat.reduceEqDiff, reduceCtorEq, Nat.reduceSub, Int.reduceNeg, Nat.reduceMod, Nat.reduceBEq, Nat.reduceLT] <;> try simp only [bOf_t, bOf_f, decide_eq_true_eq, decide_eq_false_iff_not, Bool.not_eq_true', Bool.not_eq_false', Bool.not_eq_true, Bool.not_eq_false, Decidable.not_not] at hb))
    all_goals (try simp only [maxLen, Int.toNat_natCast, List.length_map] at *)
    all_goals first | rfl | omega | (simp_all; done) | skip
    · refine ⟨z.hit (by omega) (by omega) (byteAt_eq.1 hb), by simp only [CutSt.hit]; omega, ?_⟩
      rw [app_ex]
      simp only [go_sem, List.length_map, List.map_nil, List.length_nil, Nat.reduceAdd, Nat.reduceMul, Nat.reduceLeDiff, Nat.reduceEqDiff, reduceCtorEq, Nat.reduceSub, Int.reduceNeg, Nat.reduceMod, Nat.reduceBEq, Nat.reduceLT]
      simp [CutSt.hit]
    · refine ⟨z.miss (by omega) (by omega) (fun e => hb (byteAt_eq.2 e)), by simp only [CutSt.miss]; omega, ?_⟩
      simp only [go_sem, List.length_map, List.map_nil, List.length_nil, Nat.reduceAdd, Nat.reduceMul, Nat.reduceLeDiff, Nat.reduceEqDiff, reduceCtorEq, Nat.reduceSub, Int.reduceNeg, Nat.reduceMod, Nat.reduceBEq, Nat.reduceLT]
      simp [CutSt.miss]
    · rw [app_str, z.done (.inr (by omega)), UInt8.ofNat_toNat]
    · rw [app_str, z.done (.inl (by omega)), UInt8.ofNat_toNat]


def Dom (s : ByteArray) : Prop := (∀ w ∈ cutL s 46 3, Lbl w) ∧ (cutL s 46 3).length ≤ 3
def AdOk (a : Ad) : Prop := Lbl a.user ∧ Dom a.domain
def AdNull (a : Ad) : Prop := a.user = ⟨#[]⟩ ∧ a.domain = ⟨#[]⟩
def BdOk (b : List ByteArray) : Prop := (∀ s ∈ b, Lin s) ∧ b.length ≤ 12
def MlOk (m : Ml) : Prop := (∀ a ∈ m.to, AdOk a) ∧ m.to.Nodup ∧ (AdOk m.frm ∨ AdNull m.frm) ∧ (1 ≤ m.to.length ∧ m.to.length ≤ 4) ∧ BdOk m.body
def Ends (s e : ByteArray) : Prop := s = e ∨ (e.size < s.size ∧ s.extract (s.size - e.size) s.size = e ∧ byteAt s (s.size - e.size - 1) = 46)
def Has (s p : ByteArray) : Prop := ∃ i, i + p.size ≤ s.size ∧ s.extract i (i + p.size) = p
theorem cutL_len (s : ByteArray) (c : UInt8) (m : Nat) : (cutL s c m).length ≤ m + 1 := by
  unfold cutL
  rw [List.length_map]
  generalize bl s = l
  induction l generalizing m with
  | nil => cases m <;> simp [splitN]
  | cons x r ih =>
    cases m with
    | zero => simp [splitN]
    | succ m =>
      unfold splitN
      split
      · have := ih m; simp; omega
      · have := ih (m + 1)
        split
        · rename_i h; rw [h] at this; simpa using this
        · simp
theorem mem_getD {α : Type} [Inhabited α] {xs : List α} {P : α → Prop} (h : ∀ j, j < xs.length → P (xs.getD j default)) : ∀ x ∈ xs, P x := fun x hx => by
  obtain ⟨j, hj, rfl⟩ := List.getElem_of_mem hx
  have := h j hj
  simpa [hj] using this
theorem getD_mem {α : Type} [Inhabited α] {xs : List α} {j : Nat} (h : j < xs.length) : xs.getD j default ∈ xs := by
  simp [h]
theorem nodup_of {α : Type} [Inhabited α] {xs : List α} (h : ∀ j, j < xs.length → ∀ k, k < j → ¬ xs.getD k default = xs.getD j default) : xs.Nodup := by
  rw [List.nodup_iff_pairwise_ne, List.pairwise_iff_getElem]
  intro k j hk hj hkj
  have := h j hj k hkj
  simpa [hk, hj] using this
theorem neqb {a b : Ad} (h : (false != (decide (a.user = b.user) && decide (a.domain = b.domain))) = false) : ¬ a = b := fun e => by
  subst e; simp at h
theorem all_step {α : Type} [Inhabited α] {xs : List α} {P : α → Prop} {i : Nat} (hall : ∀ j, j < i → P (xs.getD j default)) (h : P (xs.getD i default)) : ∀ j, j < i + 1 → P (xs.getD j default) := fun j hj => by
  by_cases e : j = i
  · subst e; exact h
  · exact hall j (by omega)
def c71 : Ct := ctR (lc AStr l0) (fun p => True) (fun p => .t (.v (.bool (bOf (Dom p.1)))))
theorem c71_eq {args : List AV} {K : AV → Prop} : c71 args K = K0 (fun p => True) (fun p => .t (.v (.bool (bOf (Dom p.1))))) K ((lc AStr l0).dec args) := rfl
theorem good71 {G : Gt} (hG : GOk Tryz.prog G ∧ GDet G) (h105 : G.e 105 = roEnt 0 c105) (h106 : G.e 106 = roEnt 0 c106) : Good Tryz.prog G.m 71 (roEnt 0 c71) := by
  refine good_run (dp := fun _ => true) (fn := Tryz.f71) (n := 1) (fun _ => rfl) (by kernel_rfl) rfl (by kernel_rfl) hmix hG (Nat.le_of_ble_eq_true rfl) (by kernel_rfl) (by decide) (fun _ _ => .v _) ?_
  have k105 : (G.e 105).kd = 0 := by rw [h105]; rfl
  have m105 : (G.e 105).ro = c105 := by rw [h105]; rfl
  have k106 : (G.e 106).kd = 0 := by rw [h106]; rfl
  have m106 : (G.e 106).ro = c106 := by rw [h106]; rfl
  rintro ⟨s, ⟨⟩⟩ hpre
  simp only [Tryz.f71, go_sem, k105, m105, c105_eq, k106, m106, c106_eq, aCell_map, List.length_map, Nat.reduceAdd, Nat.reduceMul, Nat.reduceLeDiff, Nat.reduceEqDiff, reduceCtorEq, Nat.reduceSub, Int.reduceNeg, Nat.reduceMod, Nat.reduceBEq, Nat.reduceLT] at hpre ⊢

  repeat' (first | with_reducible apply And.intro | intro _ | (refine brB_split (fun hb => ?_) (fun hb => ?_) <;> simp only [hb, go_sem, k105, m105, c105_eq, k106, m106, c106_eq, aCell_map, List.length_map, Nat.reduceAdd, Nat.reduceMul, Nat.reduceLeDiff, Nat.reduceEqDiff, reduceCtorEq, Nat.reduceSub, Int.reduceNeg, Nat.reduceMod, Nat.reduceBEq, Nat.reduceLT] <;> try simp only [bOf_t, bOf_f, decide_eq_true_eq, decide_eq_false_iff_not, Bool.not_eq_true', Bool.not_eq_false', Bool.not_eq_true, Bool.not_eq_false, Decidable.not_not] at hb) | (refine aPickB_split (fun hb => ?_) (fun hb => ?_) <;> simp only [hb, go_sem, k105, m105, c105_eq, k106, m106, c106_eq, aCell_map, List.length_map, Nat.reduceAdd, Nat.reduceMul, Nat.reduceLeDiff, Nat.reduceEqDiff, reduceCtorEq, Nat.reduceSub, Int.reduceNeg, Nat.reduceMod, Nat.reduceBEq, Nat.reduceLT] <;> try simp only [bOf_t, bOf_f, decide_eq_true_eq, decide_eq_false_iff_not, Bool.not_eq_true', Bool.not_eq_false', Bool.not_eq_true, Bool.not_eq_false, Decidable.not_not] at hb) | (refine gB_split (fun hb => ?_) (fun hb => ?_) <;> simp only [hb, go_sem, k105, m105, c105_eq, k106, m106, c106_eq, aCell_map, List.length_map, Nat.reduceAdd, Nat.reduceMul, Nat.reduceLeDiff, Nat.reduceEqDiff, reduceCtorEq, Nat.reduceSub, Int.reduceNeg, Nat.reduceMod, Nat.reduceBEq, Nat.reduceLT] <;> try simp only [bOf_t, bOf_f, decide_eq_true_eq, decide_eq_false_iff_not, Bool.not_eq_true', Bool.not_eq_false', Bool.not_eq_true, Bool.not_eq_false, Decidable.not_not] at hb))
  all_goals first | rfl | omega | skip
  have e46 : UInt8.ofNat (46 : Int).toNat = 46 := rfl
  have e3 : (3 : Int).toNat = 3 := rfl
  rw [e46, e3] at *
  refine run_loop [] (ι := {i : Nat // i ≤ (cutL s 46 3).length ∧ ∀ j, j < i → Lbl ((cutL s 46 3).getD j default)}) (fun p => ⟨[(3, .h 1006), (4, .t (.v (.int .i64 p.1)))], [(1006, some (.arr true 1 ((cutL s 46 3).map encStr)))]⟩) (fun p => (cutL s 46 3).length - p.1) ⟨0, by simp, by simp⟩ rfl ?_ ?_
  · simp only [go_sem, k105, m105, c105_eq, k106, m106, c106_eq, aCell_map, List.length_map, Nat.reduceAdd, Nat.reduceMul, Nat.reduceLeDiff, Nat.reduceEqDiff, reduceCtorEq, Nat.reduceSub, Int.reduceNeg, Nat.reduceMod, Nat.reduceBEq, Nat.reduceLT]
    simp
  · rintro ⟨i, hi, hall⟩
    simp only [go_sem, k105, m105, c105_eq, k106, m106, c106_eq, aCell_map, List.length_map, Nat.reduceAdd, Nat.reduceMul, Nat.reduceLeDiff, Nat.reduceEqDiff, reduceCtorEq, Nat.reduceSub, Int.reduceNeg, Nat.reduceMod, Nat.reduceBEq, Nat.reduceLT]
    repeat' (first | with_reducible apply And.intro | intro _ | (refine brB_split (fun hb => ?_) (fun hb => ?_) <;> simp only [hb, go_sem, k105, m105, c105_eq, k106, m106, c106_eq, aCell_map, List.length_map, Nat.reduceAdd, Nat.reduceMul, Nat.reduceLeDiff, Nat.reduceEqDiff, reduceCtorEq, Nat.reduceSub, Int.reduceNeg, Nat.reduceMod, Nat.reduceBEq, Nat.reduceLT] <;> try simp only [bOf_t, bOf_f, decide_eq_true_eq, decide_eq_false_iff_not, Bool.not_eq_true', Bool.not_eq_false', Bool.not_eq_true, Bool.not_eq_false, Decidable.not_not] at hb) | (refine aPickB_split (fun hb => ?_) (fun hb => ?_) <;> simp only [hb, go_sem, k105, m105, c105_eq, k106, m106, c106_eq, aCell_map, List.length_map, Nat.reduceAdd, Nat.reduceMul, Nat.reduceLeDiff, Nat.reduceEqDiff, reduceCtorEq, Nat.reduceSub, Int.reduceNeg, Nat.reduceMod, Nat.reduceBEq, Nat.reduceLT] <;> try simp only [bOf_t, bOf_f, decide_eq_true_eq, decide_eq_false_iff_not, Bool.not_eq_true', Bool.not_eq_false', Bool.not_eq_true, Bool.not_eq_false, Decidable.not_not] at hb) | (refine gB_split (fun hb => ?_) (fun hb => ?_) <;> simp only [hb, go_sem, k105, m105, c105_eq, k106, m106, c106_eq, aCell_map, List.length_map, Nat.reduceAdd, Nat.reduceMul, Nat.reduceLeDiff, Nat.reduceEqDiff, reduceCtorEq, Nat.reduceSub, Int.reduceNeg, Nat.reduceMod, Nat.reduceBEq, Nat.reduceLT] <;> try simp only [bOf_t, bOf_f, decide_eq_true_eq, decide_eq_false_iff_not, Bool.not_eq_true', Bool.not_eq_false', Bool.not_eq_true, Bool.not_eq_false, Decidable.not_not] at hb))
    all_goals (try simp only [maxLen, Int.toNat_natCast, List.length_map] at *)
    all_goals first | rfl | omega | skip
    · rw [bOf_n (fun h => hb (h.1 _ (getD_mem (by omega))))]
    · refine ⟨⟨i + 1, by omega, all_step hall hb⟩, by dsimp only; omega, ?_⟩
      simp only [go_sem, k105, m105, c105_eq, k106, m106, c106_eq, aCell_map, List.length_map, Nat.reduceAdd, Nat.reduceMul, Nat.reduceLeDiff, Nat.reduceEqDiff, reduceCtorEq, Nat.reduceSub, Int.reduceNeg, Nat.reduceMod, Nat.reduceBEq, Nat.reduceLT]
      simp
    · rw [← bOf_d, bOf_congr]
      exact ⟨fun h => ⟨mem_getD fun j hj => hall j (by omega), by omega⟩, fun h => by have := h.2; omega⟩

def c72 : Ct := ctR (lc EAd.ag l0) (fun p => True) (fun p => .t (.v (.bool (bOf (AdOk p.1)))))
theorem c72_eq {args : List AV} {K : AV → Prop} : c72 args K = K0 (fun p => True) (fun p => .t (.v (.bool (bOf (AdOk p.1))))) K ((lc EAd.ag l0).dec args) := rfl
theorem good72 {G : Gt} (hG : GOk Tryz.prog G ∧ GDet G) (h106 : G.e 106 = roEnt 0 c106) (h71 : G.e 71 = roEnt 0 c71) : Good Tryz.prog G.m 72 (roEnt 0 c72) := by
  refine good_run (dp := fun _ => true) (fn := Tryz.f72) (n := 1) (fun _ => rfl) (by kernel_rfl) rfl (by kernel_rfl) hmix hG (Nat.le_of_ble_eq_true rfl) (by kernel_rfl) (by decide) (fun _ _ => .v _) ?_
  have k106 : (G.e 106).kd = 0 := by rw [h106]; rfl
  have m106 : (G.e 106).ro = c106 := by rw [h106]; rfl
  have k71 : (G.e 71).kd = 0 := by rw [h71]; rfl
  have m71 : (G.e 71).ro = c71 := by rw [h71]; rfl
  rintro ⟨a, ⟨⟩⟩ hpre
  simp only [Tryz.f72, go_sem, k106, m106, c106_eq, k71, m71, c71_eq, Nat.reduceAdd, Nat.reduceMul, Nat.reduceLeDiff, Nat.reduceEqDiff, reduceCtorEq, Nat.reduceSub, Int.reduceNeg, Nat.reduceMod, Nat.reduceBEq, Nat.reduceLT] at hpre ⊢

  repeat' (first | with_reducible apply And.intro | intro _ | (refine brB_split (fun hb => ?_) (fun hb => ?_) <;> simp only [hb, go_sem, k106, m106, c106_eq, k71, m71, c71_eq, Nat.reduceAdd, Nat.reduceMul, Nat.reduceLeDiff, Nat.reduceEqDiff, reduceCtorEq, Nat.reduceSub, Int.reduceNeg, Nat.reduceMod, Nat.reduceBEq, Nat.reduceLT] <;> try simp only [bOf_t, bOf_f, decide_eq_true_eq, decide_eq_false_iff_not, Bool.not_eq_true', Bool.not_eq_false', Bool.not_eq_true, Bool.not_eq_false, Decidable.not_not] at hb) | (refine aPickB_split (fun hb => ?_) (fun hb => ?_) <;> simp only [hb, go_sem, k106, m106, c106_eq, k71, m71, c71_eq, Nat.reduceAdd, Nat.reduceMul, Nat.reduceLeDiff, Nat.reduceEqDiff, reduceCtorEq, Nat.reduceSub, Int.reduceNeg, Nat.reduceMod, Nat.reduceBEq, Nat.reduceLT] <;> try simp only [bOf_t, bOf_f, decide_eq_true_eq, decide_eq_false_iff_not, Bool.not_eq_true', Bool.not_eq_false', Bool.not_eq_true, Bool.not_eq_false, Decidable.not_not] at hb) | (refine gB_split (fun hb => ?_) (fun hb => ?_) <;> simp only [hb, go_sem, k106, m106, c106_eq, k71, m71, c71_eq, Nat.reduceAdd, Nat.reduceMul, Nat.reduceLeDiff, Nat.reduceEqDiff, reduceCtorEq, Nat.reduceSub, Int.reduceNeg, Nat.reduceMod, Nat.reduceBEq, Nat.reduceLT] <;> try simp only [bOf_t, bOf_f, decide_eq_true_eq, decide_eq_false_iff_not, Bool.not_eq_true', Bool.not_eq_false', Bool.not_eq_true, Bool.not_eq_false, Decidable.not_not] at hb))
  all_goals first
    | rfl
    | (rw [bOf_n (fun h => hb h.1)]; done)
    | (rw [bOf_congr]; exact ⟨fun h => ⟨by assumption, h⟩, fun h => h.2⟩)
    | trace_state

def c73 : Ct := ctR (lc EAd.ag l0) (fun p => True) (fun p => .t (.v (.bool (bOf (AdNull p.1)))))
theorem c73_eq {args : List AV} {K : AV → Prop} : c73 args K = K0 (fun p => True) (fun p => .t (.v (.bool (bOf (AdNull p.1))))) K ((lc EAd.ag l0).dec args) := rfl
theorem good73 {G : Gt} (hG : GOk Tryz.prog G ∧ GDet G) : Good Tryz.prog G.m 73 (roEnt 0 c73) := by
  refine good_run (dp := fun _ => true) (fn := Tryz.f73) (n := 1) (fun _ => rfl) (by kernel_rfl) rfl (by kernel_rfl) hmix hG (Nat.le_of_ble_eq_true rfl) (by kernel_rfl) (by decide) (fun _ _ => .v _) ?_
  rintro ⟨a, ⟨⟩⟩ hpre
  simp only [Tryz.f73, go_sem, Nat.reduceAdd, Nat.reduceMul, Nat.reduceLeDiff, Nat.reduceEqDiff, reduceCtorEq, Nat.reduceSub, Int.reduceNeg, Nat.reduceMod, Nat.reduceBEq, Nat.reduceLT] at hpre ⊢

  repeat' (first | with_reducible apply And.intro | intro _ | (refine brB_split (fun hb => ?_) (fun hb => ?_) <;> simp only [hb, go_sem, Nat.reduceAdd, Nat.reduceMul, Nat.reduceLeDiff, Nat.reduceEqDiff, reduceCtorEq, Nat.reduceSub, Int.reduceNeg, Nat.reduceMod, Nat.reduceBEq, Nat.reduceLT] <;> try simp only [bOf_t, bOf_f, decide_eq_true_eq, decide_eq_false_iff_not, Bool.not_eq_true', Bool.not_eq_false', Bool.not_eq_true, Bool.not_eq_false, Decidable.not_not] at hb) | (refine aPickB_split (fun hb => ?_) (fun hb => ?_) <;> simp only [hb, go_sem, Nat.reduceAdd, Nat.reduceMul, Nat.reduceLeDiff, Nat.reduceEqDiff, reduceCtorEq, Nat.reduceSub, Int.reduceNeg, Nat.reduceMod, Nat.reduceBEq, Nat.reduceLT] <;> try simp only [bOf_t, bOf_f, decide_eq_true_eq, decide_eq_false_iff_not, Bool.not_eq_true', Bool.not_eq_false', Bool.not_eq_true, Bool.not_eq_false, Decidable.not_not] at hb) | (refine gB_split (fun hb => ?_) (fun hb => ?_) <;> simp only [hb, go_sem, Nat.reduceAdd, Nat.reduceMul, Nat.reduceLeDiff, Nat.reduceEqDiff, reduceCtorEq, Nat.reduceSub, Int.reduceNeg, Nat.reduceMod, Nat.reduceBEq, Nat.reduceLT] <;> try simp only [bOf_t, bOf_f, decide_eq_true_eq, decide_eq_false_iff_not, Bool.not_eq_true', Bool.not_eq_false', Bool.not_eq_true, Bool.not_eq_false, Decidable.not_not] at hb))
  all_goals first
    | rfl
    | (rw [bOf_n (fun h => hb h.1)]; done)
    | (rw [← bOf_d, bOf_congr]; exact ⟨fun h => ⟨by assumption, h⟩, fun h => h.2⟩)
    | trace_state

def c107 : Ct := ctR (lc AStr (lc AStr l0)) (fun p => True) (fun p => .t (.v (.bool (bOf (Ends p.1 p.2.1)))))
theorem c107_eq {args : List AV} {K : AV → Prop} : c107 args K = K0 (fun p => True) (fun p => .t (.v (.bool (bOf (Ends p.1 p.2.1))))) K ((lc AStr (lc AStr l0)).dec args) := rfl
theorem good107 {G : Gt} (hG : GOk Tryz.prog G ∧ GDet G) : Good Tryz.prog G.m 107 (roEnt 0 c107) := by
  refine good_run (dp := fun _ => true) (fn := Tryz.f107) (n := 2) (fun _ => rfl) (by kernel_rfl) rfl (by kernel_rfl) hmix hG (Nat.le_of_ble_eq_true rfl) (by kernel_rfl) (by decide) (fun _ _ => .v _) ?_
  rintro ⟨s, e, ⟨⟩⟩ hpre
  simp only [Tryz.f107, go_sem, Nat.reduceAdd, Nat.reduceMul, Nat.reduceLeDiff, Nat.reduceEqDiff, reduceCtorEq, Nat.reduceSub, Int.reduceNeg, Nat.reduceMod, Nat.reduceBEq, Nat.reduceLT] at hpre ⊢

  repeat' (first | with_reducible apply And.intro | intro _ | (refine brB_split (fun hb => ?_) (fun hb => ?_) <;> simp only [hb, go_sem, Nat.reduceAdd, Nat.reduceMul, Nat.reduceLeDiff, Nat.reduceEqDiff, reduceCtorEq, Nat.reduceSub, Int.reduceNeg, Nat.reduceMod, Nat.reduceBEq, Nat.reduceLT] <;> try simp only [bOf_t, bOf_f, decide_eq_true_eq, decide_eq_false_iff_not, Bool.not_eq_true', Bool.not_eq_false', Bool.not_eq_true, Bool.not_eq_false, Decidable.not_not] at hb) | (refine aPickB_split (fun hb => ?_) (fun hb => ?_) <;> simp only [hb, go_sem, Nat.reduceAdd, Nat.reduceMul, Nat.reduceLeDiff, Nat.reduceEqDiff, reduceCtorEq, Nat.reduceSub, Int.reduceNeg, Nat.reduceMod, Nat.reduceBEq, Nat.reduceLT] <;> try simp only [bOf_t, bOf_f, decide_eq_true_eq, decide_eq_false_iff_not, Bool.not_eq_true', Bool.not_eq_false', Bool.not_eq_true, Bool.not_eq_false, Decidable.not_not] at hb) | (refine gB_split (fun hb => ?_) (fun hb => ?_) <;> simp only [hb, go_sem, Nat.reduceAdd, Nat.reduceMul, Nat.reduceLeDiff, Nat.reduceEqDiff, reduceCtorEq, Nat.reduceSub, Int.reduceNeg, Nat.reduceMod, Nat.reduceBEq, Nat.reduceLT] <;> try simp only [bOf_t, bOf_f, decide_eq_true_eq, decide_eq_false_iff_not, Bool.not_eq_true', Bool.not_eq_false', Bool.not_eq_true, Bool.not_eq_false, Decidable.not_not] at hb))
  all_goals (try simp only [maxLen] at *)
  all_goals first
    | rfl
    | omega
    | (rw [bOf_y (.inl hb)]; done)
    | skip
  all_goals have e1 : ((s.size : Int) - e.size).toNat = s.size - e.size := by omega
  all_goals (try rw [e1, Int.toNat_natCast] at hb)
  · have e2 : ((s.size : Int) - e.size - 1).toNat = s.size - e.size - 1 := by omega
    rw [e2, ← bOf_d, bOf_congr]
    exact ⟨fun h => .inr ⟨by omega, hb, h⟩, fun h => by
      rcases h with h | h
      · exact absurd h (by assumption)
      · exact h.2.2⟩
  · rw [bOf_n]
    rintro (h | h)
    · exact absurd h (by assumption)
    · exact hb h.2.1
  · rw [bOf_n]
    rintro (h | h)
    · exact absurd h (by assumption)
    · have := h.1; omega

def c74 : Ct := ctR (lc EStr.asl l0) (fun p => True) (fun p => .t (.v (.bool (bOf (BdOk p.1)))))
theorem c74_eq {args : List AV} {K : AV → Prop} : c74 args K = K0 (fun p => True) (fun p => .t (.v (.bool (bOf (BdOk p.1))))) K ((lc EStr.asl l0).dec args) := rfl
theorem good74 {G : Gt} (hG : GOk Tryz.prog G ∧ GDet G) (h70 : G.e 70 = roEnt 0 c70) : Good Tryz.prog G.m 74 (roEnt 0 c74) := by
  refine good_run (dp := fun _ => true) (fn := Tryz.f74) (n := 1) (fun _ => rfl) (by kernel_rfl) rfl (by kernel_rfl) hmix hG (Nat.le_of_ble_eq_true rfl) (by kernel_rfl) (by decide) (fun _ _ => .v _) ?_
  have k70 : (G.e 70).kd = 0 := by rw [h70]; rfl
  have m70 : (G.e 70).ro = c70 := by rw [h70]; rfl
  rintro ⟨xs, ⟨⟩⟩ hpre
  simp only [Tryz.f74, go_sem, k70, m70, c70_eq, Nat.reduceAdd, Nat.reduceMul, Nat.reduceLeDiff, Nat.reduceEqDiff, reduceCtorEq, Nat.reduceSub, Int.reduceNeg, Nat.reduceMod, Nat.reduceBEq, Nat.reduceLT] at hpre ⊢

  refine run_loop [] (ι := {i : Nat // i ≤ xs.length ∧ ∀ j, j < i → Lin (xs.getD j default)}) (fun p => ⟨[(0, .t (.sl (xs.map encStr))), (3, .t (.v (.int .i64 p.1)))], []⟩) (fun p => xs.length - p.1) ⟨0, by simp, by simp⟩ rfl ?_ ?_
  · simp only [go_sem, k70, m70, c70_eq, Nat.reduceAdd, Nat.reduceMul, Nat.reduceLeDiff, Nat.reduceEqDiff, reduceCtorEq, Nat.reduceSub, Int.reduceNeg, Nat.reduceMod, Nat.reduceBEq, Nat.reduceLT]
    simp
  · rintro ⟨i, hi, hall⟩
    simp only [go_sem, k70, m70, c70_eq, Nat.reduceAdd, Nat.reduceMul, Nat.reduceLeDiff, Nat.reduceEqDiff, reduceCtorEq, Nat.reduceSub, Int.reduceNeg, Nat.reduceMod, Nat.reduceBEq, Nat.reduceLT]
    repeat' (first | with_reducible apply And.intro | intro _ | (refine brB_split (fun hb => ?_) (fun hb => ?_) <;> simp only [hb, go_sem, k70, m70, c70_eq, Nat.reduceAdd, Nat.reduceMul, Nat.reduceLeDiff, Nat.reduceEqDiff, reduceCtorEq, Nat.reduceSub, Int.reduceNeg, Nat.reduceMod, Nat.reduceBEq, Nat.reduceLT] <;> try simp only [bOf_t, bOf_f, decide_eq_true_eq, decide_eq_false_iff_not, Bool.not_eq_true', Bool.not_eq_false', Bool.not_eq_true, Bool.not_eq_false, Decidable.not_not] at hb) | (refine aPickB_split (fun hb => ?_) (fun hb => ?_) <;> simp only [hb, go_sem, k70, m70, c70_eq, Nat.reduceAdd, Nat.reduceMul, Nat.reduceLeDiff, Nat.reduceEqDiff, reduceCtorEq, Nat.reduceSub, Int.reduceNeg, Nat.reduceMod, Nat.reduceBEq, Nat.reduceLT] <;> try simp only [bOf_t, bOf_f, decide_eq_true_eq, decide_eq_false_iff_not, Bool.not_eq_true', Bool.not_eq_false', Bool.not_eq_true, Bool.not_eq_false, Decidable.not_not] at hb) | (refine gB_split (fun hb => ?_) (fun hb => ?_) <;> simp only [hb, go_sem, k70, m70, c70_eq, Nat.reduceAdd, Nat.reduceMul, Nat.reduceLeDiff, Nat.reduceEqDiff, reduceCtorEq, Nat.reduceSub, Int.reduceNeg, Nat.reduceMod, Nat.reduceBEq, Nat.reduceLT] <;> try simp only [bOf_t, bOf_f, decide_eq_true_eq, decide_eq_false_iff_not, Bool.not_eq_true', Bool.not_eq_false', Bool.not_eq_true, Bool.not_eq_false, Decidable.not_not] at hb))
    all_goals (try simp only [maxLen, Int.toNat_natCast, List.length_map] at *)
    all_goals first | rfl | omega | skip
    · rw [bOf_n (fun h => hb (h.1 _ (getD_mem (by omega))))]
    · refine ⟨⟨i + 1, by omega, all_step hall hb⟩, by dsimp only; omega, ?_⟩
      simp only [go_sem, k70, m70, c70_eq, Nat.reduceAdd, Nat.reduceMul, Nat.reduceLeDiff, Nat.reduceEqDiff, reduceCtorEq, Nat.reduceSub, Int.reduceNeg, Nat.reduceMod, Nat.reduceBEq, Nat.reduceLT]
      simp
    · rw [← bOf_d, bOf_congr]
      exact ⟨fun h => ⟨mem_getD fun j hj => hall j (by omega), by omega⟩, fun h => by have := h.2; omega⟩

def c108 : Ct := ctR (lc AStr (lc AStr l0)) (fun p => p.1.size ≤ 1000000 ∧ p.2.1.size ≤ 1000000) (fun p => .t (.v (.bool (bOf (Has p.1 p.2.1)))))
theorem c108_eq {args : List AV} {K : AV → Prop} : c108 args K = K0 (fun p => p.1.size ≤ 1000000 ∧ p.2.1.size ≤ 1000000) (fun p => .t (.v (.bool (bOf (Has p.1 p.2.1))))) K ((lc AStr (lc AStr l0)).dec args) := rfl
theorem good108 {G : Gt} (hG : GOk Tryz.prog G ∧ GDet G) : Good Tryz.prog G.m 108 (roEnt 0 c108) := by
  refine good_run (dp := fun _ => true) (fn := Tryz.f108) (n := 2) (fun _ => rfl) (by kernel_rfl) rfl (by kernel_rfl) hmix hG (Nat.le_of_ble_eq_true rfl) (by kernel_rfl) (by decide) (fun _ _ => .v _) ?_
  rintro ⟨s, p, ⟨⟩⟩ hpre
  simp only [Tryz.f108, go_sem, Nat.reduceAdd, Nat.reduceMul, Nat.reduceLeDiff, Nat.reduceEqDiff, reduceCtorEq, Nat.reduceSub, Int.reduceNeg, Nat.reduceMod, Nat.reduceBEq, Nat.reduceLT] at hpre ⊢

  refine run_loop [] (ι := {i : Nat // i ≤ s.size + 1 ∧ ∀ j, j < i → ¬ (j + p.size ≤ s.size ∧ s.extract j (j + p.size) = p)}) (fun z => ⟨[(0, .t (.v (.string s))), (1, .t (.v (.string p))), (5, .t (.v (.int .i64 z.1)))], []⟩) (fun z => s.size + 1 - z.1) ⟨0, by omega, by simp⟩ rfl ?_ ?_
  · simp only [go_sem, Nat.reduceAdd, Nat.reduceMul, Nat.reduceLeDiff, Nat.reduceEqDiff, reduceCtorEq, Nat.reduceSub, Int.reduceNeg, Nat.reduceMod, Nat.reduceBEq, Nat.reduceLT]
    simp
  · rintro ⟨i, hi, hall⟩
    simp only [go_sem, Nat.reduceAdd, Nat.reduceMul, Nat.reduceLeDiff, Nat.reduceEqDiff, reduceCtorEq, Nat.reduceSub, Int.reduceNeg, Nat.reduceMod, Nat.reduceBEq, Nat.reduceLT]
    repeat' (first | with_reducible apply And.intro | intro _ | (refine brB_split (fun hb => ?_) (fun hb => ?_) <;> simp only [hb, go_sem, Nat.reduceAdd, Nat.reduceMul, Nat.reduceLeDiff, Nat.reduceEqDiff, reduceCtorEq, Nat.reduceSub, Int.reduceNeg, Nat.reduceMod, Nat.reduceBEq, Nat.reduceLT] <;> try simp only [bOf_t, bOf_f, decide_eq_true_eq, decide_eq_false_iff_not, Bool.not_eq_true', Bool.not_eq_false', Bool.not_eq_true, Bool.not_eq_false, Decidable.not_not] at hb) | (refine aPickB_split (fun hb => ?_) (fun hb => ?_) <;> simp only [hb, go_sem, Nat.reduceAdd, Nat.reduceMul, Nat.reduceLeDiff, Nat.reduceEqDiff, reduceCtorEq, Nat.reduceSub, Int.reduceNeg, Nat.reduceMod, Nat.reduceBEq, Nat.reduceLT] <;> try simp only [bOf_t, bOf_f, decide_eq_true_eq, decide_eq_false_iff_not, Bool.not_eq_true', Bool.not_eq_false', Bool.not_eq_true, Bool.not_eq_false, Decidable.not_not] at hb) | (refine gB_split (fun hb => ?_) (fun hb => ?_) <;> simp only [hb, go_sem, Nat.reduceAdd, Nat.reduceMul, Nat.reduceLeDiff, Nat.reduceEqDiff, reduceCtorEq, Nat.reduceSub, Int.reduceNeg, Nat.reduceMod, Nat.reduceBEq, Nat.reduceLT] <;> try simp only [bOf_t, bOf_f, decide_eq_true_eq, decide_eq_false_iff_not, Bool.not_eq_true', Bool.not_eq_false', Bool.not_eq_true, Bool.not_eq_false, Decidable.not_not] at hb))
    all_goals (try simp only [maxLen, Int.toNat_natCast, List.length_map] at *)
    all_goals first | rfl | omega | skip
    all_goals have e1 : ((i : Int) + p.size).toNat = i + p.size := by omega
    all_goals (try rw [e1] at hb)
    · rw [bOf_y ⟨i, by omega, hb⟩]
    · refine ⟨⟨i + 1, by omega, fun j hj => ?_⟩, by dsimp only; omega, ?_⟩
      · by_cases e : j = i
        · subst e; exact fun h => hb h.2
        · exact hall j (by omega)
      · simp only [go_sem, Nat.reduceAdd, Nat.reduceMul, Nat.reduceLeDiff, Nat.reduceEqDiff, reduceCtorEq, Nat.reduceSub, Int.reduceNeg, Nat.reduceMod, Nat.reduceBEq, Nat.reduceLT]
        simp
    · rw [bOf_n]
      rintro ⟨j, h1, h2⟩
      exact hall j (by omega) ⟨h1, h2⟩

def c34 : Ct := ctR (lc EMl.ag l0) (fun p => (p.1.to.length : Int) ≤ 1048576 ∧ (p.1.body.length : Int) ≤ 1048576) (fun p => mlOw p.1)
theorem c34_eq {args : List AV} {K : AV → Prop} : c34 args K = K0 (fun p => (p.1.to.length : Int) ≤ 1048576 ∧ (p.1.body.length : Int) ≤ 1048576) (fun p => mlOw p.1) K ((lc EMl.ag l0).dec args) := rfl
theorem good34 {G : Gt} (hG : GOk Tryz.prog G ∧ GDet G) : Good Tryz.prog G.m 34 (roEnt 0 c34) := by
  refine good_run (dp := fun _ => true) (fn := Tryz.f34) (n := 1) (fun _ => rfl) (by kernel_rfl) rfl (by kernel_rfl) hmix hG (Nat.le_of_ble_eq_true rfl) (by kernel_rfl) (by decide) (fun _ p => .agg _ (by intro c hc; simp only [List.mem_cons, List.not_mem_nil, or_false] at hc; rcases hc with rfl | rfl | rfl | rfl <;> first | exact .v _ | exact .deep _ _)) ?_
  rintro ⟨m, ⟨⟩⟩ hpre
  simp only [Tryz.f34, go_sem, mlOw, List.length_map, List.map_nil, List.length_nil, Nat.reduceAdd, Nat.reduceMul, Nat.reduceLeDiff, Nat.reduceEqDiff, reduceCtorEq, Nat.reduceSub, Int.reduceNeg, Nat.reduceMod, Nat.reduceBEq, Nat.reduceLT] at hpre ⊢

  repeat' (first | with_reducible apply And.intro | intro _ | (refine brB_split (fun hb => ?_) (fun hb => ?_) <;> simp only [hb, go_sem, mlOw, List.length_map, List.map_nil, List.length_nil, Nat.reduceAdd, Nat.reduceMul, Nat.reduceLeDiff, Nat.reduceEqDiff, reduceCtorEq, Nat.reduceSub, Int.reduceNeg, Nat.reduceMod, Nat.reduceBEq, Nat.reduceLT] <;> try simp only [bOf_t, bOf_f, decide_eq_true_eq, decide_eq_false_iff_not, Bool.not_eq_true', Bool.not_eq_false', Bool.not_eq_true, Bool.not_eq_false, Decidable.not_not] at hb) | (refine aPickB_split (fun hb => ?_) (fun hb => ?_) <;> simp only [hb, go_sem, mlOw, List.length_map, List.map_nil, List.length_nil, Nat.reduceAdd, Nat.reduceMul, Nat.reduceLeDiff, Nat.reduceEqDiff, reduceCtorEq, Nat.reduceSub, Int.reduceNeg, Nat.reduceMod, Nat.reduceBEq, Nat.reduceLT] <;> try simp only [bOf_t, bOf_f, decide_eq_true_eq, decide_eq_false_iff_not, Bool.not_eq_true', Bool.not_eq_false', Bool.not_eq_true, Bool.not_eq_false, Decidable.not_not] at hb) | (refine gB_split (fun hb => ?_) (fun hb => ?_) <;> simp only [hb, go_sem, mlOw, List.length_map, List.map_nil, List.length_nil, Nat.reduceAdd, Nat.reduceMul, Nat.reduceLeDiff, Nat.reduceEqDiff, reduceCtorEq, Nat.reduceSub, Int.reduceNeg, Nat.reduceMod, Nat.reduceBEq, Nat.reduceLT] <;> try simp only [bOf_t, bOf_f, decide_eq_true_eq, decide_eq_false_iff_not, Bool.not_eq_true', Bool.not_eq_false', Bool.not_eq_true, Bool.not_eq_false, Decidable.not_not] at hb))
  all_goals (try simp only [maxLen, Int.toNat_natCast, List.length_map] at *)
  all_goals first | rfl | omega | (simp_all; done) | trace_state

def c32 : Ct := ctR (lc EMl.ag l0) (fun p => True) (fun p => .t (.v (.bool (bOf (MlOk p.1)))))
theorem c32_eq {args : List AV} {K : AV → Prop} : c32 args K = K0 (fun p => True) (fun p => .t (.v (.bool (bOf (MlOk p.1))))) K ((lc EMl.ag l0).dec args) := rfl
theorem good32 {G : Gt} (hG : GOk Tryz.prog G ∧ GDet G) (h72 : G.e 72 = roEnt 0 c72) (h73 : G.e 73 = roEnt 0 c73) (h66 : G.e 66 = roEnt 0 c66) (h74 : G.e 74 = roEnt 0 c74) : Good Tryz.prog G.m 32 (roEnt 0 c32) := by
  refine good_run (dp := fun _ => true) (fn := Tryz.f32) (n := 1) (fun _ => rfl) (by kernel_rfl) rfl (by kernel_rfl) hmix hG (Nat.le_of_ble_eq_true rfl) (by kernel_rfl) (by decide) (fun _ _ => .v _) ?_
  have k72 : (G.e 72).kd = 0 := by rw [h72]; rfl
  have m72 : (G.e 72).ro = c72 := by rw [h72]; rfl
  have k73 : (G.e 73).kd = 0 := by rw [h73]; rfl
  have m73 : (G.e 73).ro = c73 := by rw [h73]; rfl
  have k66 : (G.e 66).kd = 0 := by rw [h66]; rfl
  have m66 : (G.e 66).ro = c66 := by rw [h66]; rfl
  have k74 : (G.e 74).kd = 0 := by rw [h74]; rfl
  have m74 : (G.e 74).ro = c74 := by rw [h74]; rfl
  rintro ⟨m, ⟨⟩⟩ hpre
  simp only [Tryz.f32, go_sem, k72, m72, c72_eq, k73, m73, c73_eq, k66, m66, c66_eq, k74, m74, c74_eq, mlOw, List.length_map, List.map_nil, List.length_nil, Nat.reduceAdd, Nat.reduceMul, Nat.reduceLeDiff, Nat.reduceEqDiff, reduceCtorEq, Nat.reduceSub, Int.reduceNeg, Nat.reduceMod, Nat.reduceBEq, Nat.reduceLT] at hpre ⊢

  refine run_loop [] (ι := {i : Nat // i ≤ m.to.length ∧ (∀ j, j < i → AdOk (m.to.getD j default)) ∧ ∀ j, j < i → ∀ k, k < j → ¬ m.to.getD k default = m.to.getD j default}) (fun p => ⟨[(1, .pb 1001 0), (3, .t (.v (.int .i64 p.1)))], [(1001, some (.box [.t (.v (.string m.frm.user)), .t (.v (.string m.frm.domain)), .t (.sl (m.to.map encAd)), .t (.sl (m.body.map encStr))]))]⟩) (fun p => m.to.length - p.1) ⟨0, by simp, by simp, by simp⟩ rfl ?_ ?_
  · simp only [go_sem, k72, m72, c72_eq, k73, m73, c73_eq, k66, m66, c66_eq, k74, m74, c74_eq, mlOw, List.length_map, List.map_nil, List.length_nil, Nat.reduceAdd, Nat.reduceMul, Nat.reduceLeDiff, Nat.reduceEqDiff, reduceCtorEq, Nat.reduceSub, Int.reduceNeg, Nat.reduceMod, Nat.reduceBEq, Nat.reduceLT]
    simp
  · rintro ⟨i, hi, hall, hno⟩
    simp only [go_sem, k72, m72, c72_eq, k73, m73, c73_eq, k66, m66, c66_eq, k74, m74, c74_eq, mlOw, List.length_map, List.map_nil, List.length_nil, Nat.reduceAdd, Nat.reduceMul, Nat.reduceLeDiff, Nat.reduceEqDiff, reduceCtorEq, Nat.reduceSub, Int.reduceNeg, Nat.reduceMod, Nat.reduceBEq, Nat.reduceLT]
    repeat' (first | with_reducible apply And.intro | intro _ | (refine brB_split (fun hb => ?_) (fun hb => ?_) <;> simp only [hb, go_sem, k72, m72, c72_eq, k73, m73, c73_eq, k66, m66, c66_eq, k74, m74, c74_eq, mlOw, List.length_map, List.map_nil, List.length_nil, Nat.reduceAdd, Nat.reduceMul, Nat.reduceLeDiff, Nat.reduceEqDiff, reduceCtorEq, Nat.reduceSub, Int.reduceNeg, Nat.reduceMod, Nat.reduceBEq, Nat.reduceLT] <;> try simp only [bOf_t, bOf_f, decide_eq_true_eq, decide_eq_false_iff_not, Bool.not_eq_true', Bool.not_eq_false', Bool.not_eq_true, Bool.not_eq_false, Decidable.not_not] at hb) | (refine aPickB_split (fun hb => ?_) (fun hb => ?_) <;> simp only [hb, go_sem, k72, m72, c72_eq, k73, m73, c73_eq, k66, m66, c66_eq, k74, m74, c74_eq, mlOw, List.length_map, List.map_nil, List.length_nil, Nat.reduceAdd, Nat.reduceMul, Nat.reduceLeDiff, Nat.reduceEqDiff, reduceCtorEq, Nat.reduceSub, Int.reduceNeg, Nat.reduceMod, Nat.reduceBEq, Nat.reduceLT] <;> try simp only [bOf_t, bOf_f, decide_eq_true_eq, decide_eq_false_iff_not, Bool.not_eq_true', Bool.not_eq_false', Bool.not_eq_true, Bool.not_eq_false, Decidable.not_not] at hb) | (refine gB_split (fun hb => ?_) (fun hb => ?_) <;> simp only [hb, go_sem, k72, m72, c72_eq, k73, m73, c73_eq, k66, m66, c66_eq, k74, m74, c74_eq, mlOw, List.length_map, List.map_nil, List.length_nil, Nat.reduceAdd, Nat.reduceMul, Nat.reduceLeDiff, Nat.reduceEqDiff, reduceCtorEq, Nat.reduceSub, Int.reduceNeg, Nat.reduceMod, Nat.reduceBEq, Nat.reduceLT] <;> try simp only [bOf_t, bOf_f, decide_eq_true_eq, decide_eq_false_iff_not, Bool.not_eq_true', Bool.not_eq_false', Bool.not_eq_true, Bool.not_eq_false, Decidable.not_not] at hb))
    all_goals (try simp only [maxLen, Int.toNat_natCast, List.length_map] at *)
    all_goals first | rfl | omega | skip
    · rw [bOf_n (fun h => hb (h.1 _ (getD_mem (by omega))))]
    · refine run_loop [] (ι := {k : Nat // k ≤ i ∧ ∀ j, j < k → ¬ m.to.getD j default = m.to.getD i default}) (fun p => ⟨[(1, .pb 1001 0), (3, .t (.v (.int .i64 i))), (4, .t (.v (.int .i64 p.1)))], [(1001, some (.box [.t (.v (.string m.frm.user)), .t (.v (.string m.frm.domain)), .t (.sl (m.to.map encAd)), .t (.sl (m.body.map encStr))]))]⟩) (fun p => i - p.1) ⟨0, by simp, by simp⟩ rfl ?_ ?_
      · simp only [go_sem, k72, m72, c72_eq, k73, m73, c73_eq, k66, m66, c66_eq, k74, m74, c74_eq, mlOw, List.length_map, List.map_nil, List.length_nil, Nat.reduceAdd, Nat.reduceMul, Nat.reduceLeDiff, Nat.reduceEqDiff, reduceCtorEq, Nat.reduceSub, Int.reduceNeg, Nat.reduceMod, Nat.reduceBEq, Nat.reduceLT]
        simp
      · rintro ⟨k, hk, hk2⟩
        simp only [go_sem, k72, m72, c72_eq, k73, m73, c73_eq, k66, m66, c66_eq, k74, m74, c74_eq, mlOw, List.length_map, List.map_nil, List.length_nil, Nat.reduceAdd, Nat.reduceMul, Nat.reduceLeDiff, Nat.reduceEqDiff, reduceCtorEq, Nat.reduceSub, Int.reduceNeg, Nat.reduceMod, Nat.reduceBEq, Nat.reduceLT]
        repeat' (first | with_reducible apply And.intro | intro _ | (refine brB_split (fun hb => ?_) (fun hb => ?_) <;> simp only [hb, go_sem, k72, m72, c72_eq, k73, m73, c73_eq, k66, m66, c66_eq, k74, m74, c74_eq, mlOw, List.length_map, List.map_nil, List.length_nil, Nat.reduceAdd, Nat.reduceMul, Nat.reduceLeDiff, Nat.reduceEqDiff, reduceCtorEq, Nat.reduceSub, Int.reduceNeg, Nat.reduceMod, Nat.reduceBEq, Nat.reduceLT] <;> try simp only [bOf_t, bOf_f, decide_eq_true_eq, decide_eq_false_iff_not, Bool.not_eq_true', Bool.not_eq_false', Bool.not_eq_true, Bool.not_eq_false, Decidable.not_not] at hb) | (refine aPickB_split (fun hb => ?_) (fun hb => ?_) <;> simp only [hb, go_sem, k72, m72, c72_eq, k73, m73, c73_eq, k66, m66, c66_eq, k74, m74, c74_eq, mlOw, List.length_map, List.map_nil, List.length_nil, Nat.reduceAdd, Nat.reduceMul, Nat.reduceLeDiff, Nat.reduceEqDiff, reduceCtorEq, Nat.reduceSub, Int.reduceNeg, Nat.reduceMod, Nat.reduceBEq, Nat.reduceLT] <;> try simp only [bOf_t, bOf_f, decide_eq_true_eq, decide_eq_false_iff_not, Bool.not_eq_true', Bool.not_eq_false', Bool.not_eq_true, Bool.not_eq_false, Decidable.not_not] at hb) | (refine gB_split (fun hb => ?_) (fun hb => ?_) <;> simp only [hb, go_sem, k72, m72, c72_eq, k73, m73, c73_eq, k66, m66, c66_eq, k74, m74, c74_eq, mlOw, List.length_map, List.map_nil, List.length_nil, Nat.reduceAdd, Nat.reduceMul, Nat.reduceLeDiff, Nat.reduceEqDiff, reduceCtorEq, Nat.reduceSub, Int.reduceNeg, Nat.reduceMod, Nat.reduceBEq, Nat.reduceLT] <;> try simp only [bOf_t, bOf_f, decide_eq_true_eq, decide_eq_false_iff_not, Bool.not_eq_true', Bool.not_eq_false', Bool.not_eq_true, Bool.not_eq_false, Decidable.not_not] at hb))
        all_goals (try simp only [maxLen, Int.toNat_natCast, List.length_map] at *)
        all_goals first | rfl | omega | skip
        · have e : m.to.getD k default = m.to.getD i default := Ad_ext.2 (by simpa using hb)
          rw [bOf_n]
          intro h
          have hn := h.2.1
          have q1 : k < m.to.length := by omega
          have q2 : i < m.to.length := by omega
          simp only [List.getD_eq_getElem?_getD, List.getElem?_eq_getElem q1, List.getElem?_eq_getElem q2, Option.getD_some] at e
          exact List.pairwise_iff_getElem.1 (List.nodup_iff_pairwise_ne.1 hn) k i q1 q2 (by omega) e
        · refine ⟨⟨k + 1, by omega, fun j hj => ?_⟩, by dsimp only; omega, ?_⟩
          · by_cases e : j = k
            · subst e; exact neqb hb
            · exact hk2 j (by omega)
          · simp only [go_sem, k72, m72, c72_eq, k73, m73, c73_eq, k66, m66, c66_eq, k74, m74, c74_eq, mlOw, List.length_map, List.map_nil, List.length_nil, Nat.reduceAdd, Nat.reduceMul, Nat.reduceLeDiff, Nat.reduceEqDiff, reduceCtorEq, Nat.reduceSub, Int.reduceNeg, Nat.reduceMod, Nat.reduceBEq, Nat.reduceLT]
            simp
        · refine ⟨⟨i + 1, by omega, all_step hall (by assumption), fun j hj q hq => ?_⟩, by dsimp only; omega, ?_⟩
          · by_cases e : j = i
            · subst e; exact hk2 q (by omega)
            · exact hno j (by omega) q hq
          · simp only [go_sem, k72, m72, c72_eq, k73, m73, c73_eq, k66, m66, c66_eq, k74, m74, c74_eq, mlOw, List.length_map, List.map_nil, List.length_nil, Nat.reduceAdd, Nat.reduceMul, Nat.reduceLeDiff, Nat.reduceEqDiff, reduceCtorEq, Nat.reduceSub, Int.reduceNeg, Nat.reduceMod, Nat.reduceBEq, Nat.reduceLT]
            simp
    all_goals have hlen : m.to.length ≤ i := by omega
    all_goals have hA : ∀ a ∈ m.to, AdOk a := mem_getD fun j hj => hall j (by omega)
    all_goals have hN : m.to.Nodup := nodup_of fun j hj q hq => hno j (by omega) q hq
    all_goals first
      | (rw [bOf_congr]
         exact ⟨fun h => ⟨hA, hN, by first | exact .inl (by assumption) | exact .inr (by assumption), by omega, h⟩, fun h => h.2.2.2.2⟩)
      | (rw [bOf_n]
         intro h
         first
           | (have := h.2.2.2.1; omega)
           | (rcases h.2.2.1 with q | q <;> contradiction))


def Asks (r : Ru) (f : Ad) (b : List ByteArray) : Prop :=
  (r.ask = 1 → ¬ AdNull f ∧ Ends f.domain r.text) ∧ (r.ask = 2 → ∃ s ∈ b, Has s r.text) ∧ (r.ask = 3 → AdNull f)
noncomputable def rIx (f : Ad) (b : List ByteArray) : Nat → List Ru → Int
  | _, [] => -1
  | k, r :: t => bif bOf (Asks r f b) then k else rIx f b (k + 1) t
def RuOk (r : Ru) : Prop := (1 ≤ r.ask ∧ r.ask ≤ 4) ∧ (1 ≤ r.act ∧ r.act ≤ 3) ∧ Lin r.text ∧ (3 ≤ r.ask → r.text = ⟨#[]⟩) ∧ (r.ask = 1 → Dom r.text) ∧ (r.act = 3 → AdOk r.to) ∧ (r.act ≠ 3 → AdNull r.to)
def RsOk (rs : List Ru) : Prop := (∀ r ∈ rs, RuOk r) ∧ rs.length ≤ 5
theorem rIx_yes {f : Ad} {b : List ByteArray} {rs : List Ru} {i : Nat} (h : i < rs.length) (ha : Asks (rs.getD i default) f b) : rIx f b i (rs.drop i) = i := by
  rw [getD_drop h, rIx, bOf_y ha]; rfl
theorem rIx_no {f : Ad} {b : List ByteArray} {rs : List Ru} {i : Nat} (h : i < rs.length) (ha : ¬ Asks (rs.getD i default) f b) : rIx f b i (rs.drop i) = rIx f b (i + 1) (rs.drop (i + 1)) := by
  rw [getD_drop h, rIx, bOf_n ha]; rfl
theorem rIx_end {f : Ad} {b : List ByteArray} {rs : List Ru} {i : Nat} (h : rs.length ≤ i) : rIx f b i (rs.drop i) = -1 := by
  rw [List.drop_of_length_le h]; rfl
theorem rIx_range (f : Ad) (b : List ByteArray) : ∀ (rs : List Ru) (k : Nat), rIx f b k rs = -1 ∨ (0 ≤ rIx f b k rs ∧ rIx f b k rs < k + rs.length)
  | [], k => .inl rfl
  | r :: t, k => by
    unfold rIx
    cases bOf (Asks r f b) with
    | true => exact .inr ⟨by simp, by simp; omega⟩
    | false =>
      rcases rIx_range f b t (k + 1) with h | h
      · exact .inl h
      · exact .inr ⟨h.1, by have := h.2; simp only [cond_false, List.length_cons]; omega⟩
def c75 : Ct := ctR (lc ERu.ag (lc EAd.ag (lc EStr.asl l0))) (fun p => (∀ s ∈ p.2.2.1, s.size ≤ 1000000) ∧ p.1.text.size ≤ 1000000) (fun p => .t (.v (.bool (bOf (Asks p.1 p.2.1 p.2.2.1)))))
theorem c75_eq {args : List AV} {K : AV → Prop} : c75 args K = K0 (fun p => (∀ s ∈ p.2.2.1, s.size ≤ 1000000) ∧ p.1.text.size ≤ 1000000) (fun p => .t (.v (.bool (bOf (Asks p.1 p.2.1 p.2.2.1))))) K ((lc ERu.ag (lc EAd.ag (lc EStr.asl l0))).dec args) := rfl
theorem good75 {G : Gt} (hG : GOk Tryz.prog G ∧ GDet G) (h73 : G.e 73 = roEnt 0 c73) (h107 : G.e 107 = roEnt 0 c107) (h108 : G.e 108 = roEnt 0 c108) : Good Tryz.prog G.m 75 (roEnt 0 c75) := by
  refine good_run (dp := fun _ => true) (fn := Tryz.f75) (n := 3) (fun _ => rfl) (by kernel_rfl) rfl (by kernel_rfl) hmix hG (Nat.le_of_ble_eq_true rfl) (by kernel_rfl) (by decide) (fun _ _ => .v _) ?_
  have k73 : (G.e 73).kd = 0 := by rw [h73]; rfl
  have m73 : (G.e 73).ro = c73 := by rw [h73]; rfl
  have k107 : (G.e 107).kd = 0 := by rw [h107]; rfl
  have m107 : (G.e 107).ro = c107 := by rw [h107]; rfl
  have k108 : (G.e 108).kd = 0 := by rw [h108]; rfl
  have m108 : (G.e 108).ro = c108 := by rw [h108]; rfl
  rintro ⟨r, f, b, ⟨⟩⟩ hpre
  simp only [Tryz.f75, go_sem, k73, m73, c73_eq, k107, m107, c107_eq, k108, m108, c108_eq, Nat.reduceAdd, Nat.reduceMul, Nat.reduceLeDiff, Nat.reduceEqDiff, reduceCtorEq, Nat.reduceSub, Int.reduceNeg, Nat.reduceMod, Nat.reduceBEq, Nat.reduceLT] at hpre ⊢

  repeat' (first | with_reducible apply And.intro | intro _ | (refine brB_split (fun hb => ?_) (fun hb => ?_) <;> simp only [hb, go_sem, k73, m73, c73_eq, k107, m107, c107_eq, k108, m108, c108_eq, Nat.reduceAdd, Nat.reduceMul, Nat.reduceLeDiff, Nat.reduceEqDiff, reduceCtorEq, Nat.reduceSub, Int.reduceNeg, Nat.reduceMod, Nat.reduceBEq, Nat.reduceLT] <;> try simp only [bOf_t, bOf_f, decide_eq_true_eq, decide_eq_false_iff_not, Bool.not_eq_true', Bool.not_eq_false', Bool.not_eq_true, Bool.not_eq_false, Decidable.not_not] at hb) | (refine aPickB_split (fun hb => ?_) (fun hb => ?_) <;> simp only [hb, go_sem, k73, m73, c73_eq, k107, m107, c107_eq, k108, m108, c108_eq, Nat.reduceAdd, Nat.reduceMul, Nat.reduceLeDiff, Nat.reduceEqDiff, reduceCtorEq, Nat.reduceSub, Int.reduceNeg, Nat.reduceMod, Nat.reduceBEq, Nat.reduceLT] <;> try simp only [bOf_t, bOf_f, decide_eq_true_eq, decide_eq_false_iff_not, Bool.not_eq_true', Bool.not_eq_false', Bool.not_eq_true, Bool.not_eq_false, Decidable.not_not] at hb) | (refine gB_split (fun hb => ?_) (fun hb => ?_) <;> simp only [hb, go_sem, k73, m73, c73_eq, k107, m107, c107_eq, k108, m108, c108_eq, Nat.reduceAdd, Nat.reduceMul, Nat.reduceLeDiff, Nat.reduceEqDiff, reduceCtorEq, Nat.reduceSub, Int.reduceNeg, Nat.reduceMod, Nat.reduceBEq, Nat.reduceLT] <;> try simp only [bOf_t, bOf_f, decide_eq_true_eq, decide_eq_false_iff_not, Bool.not_eq_true', Bool.not_eq_false', Bool.not_eq_true, Bool.not_eq_false, Decidable.not_not] at hb))
  all_goals (try simp only [maxLen] at *)
  · rw [bOf_congr]
    exact ⟨fun h => ⟨fun _ => ⟨hb, h⟩, fun q => by omega, fun q => by omega⟩, fun h => (h.1 (by assumption)).2⟩
  · rw [bOf_n (fun h => (h.1 (by assumption)).1 hb)]
  · refine run_loop [] (ι := {i : Nat // i ≤ b.length ∧ ∀ j, j < i → ¬ Has (b.getD j default) r.text}) (fun p => ⟨[(2, .t (.sl (b.map encStr))), (3, .pb 1003 0), (7, .t (.v (.int .i64 p.1)))], [(1003, some (.box [.t (.v (.int .i64 r.ask)), .t (.v (.string r.text)), .t (.v (.int .i64 r.act)), .t (.v (.string r.to.user)), .t (.v (.string r.to.domain))]))]⟩) (fun p => b.length - p.1) ⟨0, by simp, by simp⟩ rfl ?_ ?_
    · simp only [go_sem, k73, m73, c73_eq, k107, m107, c107_eq, k108, m108, c108_eq, Nat.reduceAdd, Nat.reduceMul, Nat.reduceLeDiff, Nat.reduceEqDiff, reduceCtorEq, Nat.reduceSub, Int.reduceNeg, Nat.reduceMod, Nat.reduceBEq, Nat.reduceLT]
      simp
    · rintro ⟨i, hi, hall⟩
      simp only [go_sem, k73, m73, c73_eq, k107, m107, c107_eq, k108, m108, c108_eq, Nat.reduceAdd, Nat.reduceMul, Nat.reduceLeDiff, Nat.reduceEqDiff, reduceCtorEq, Nat.reduceSub, Int.reduceNeg, Nat.reduceMod, Nat.reduceBEq, Nat.reduceLT]
      repeat' (first | with_reducible apply And.intro | intro _ | (refine brB_split (fun hb => ?_) (fun hb => ?_) <;> simp only [hb, go_sem, k73, m73, c73_eq, k107, m107, c107_eq, k108, m108, c108_eq, Nat.reduceAdd, Nat.reduceMul, Nat.reduceLeDiff, Nat.reduceEqDiff, reduceCtorEq, Nat.reduceSub, Int.reduceNeg, Nat.reduceMod, Nat.reduceBEq, Nat.reduceLT] <;> try simp only [bOf_t, bOf_f, decide_eq_true_eq, decide_eq_false_iff_not, Bool.not_eq_true', Bool.not_eq_false', Bool.not_eq_true, Bool.not_eq_false, Decidable.not_not] at hb) | (refine aPickB_split (fun hb => ?_) (fun hb => ?_) <;> simp only [hb, go_sem, k73, m73, c73_eq, k107, m107, c107_eq, k108, m108, c108_eq, Nat.reduceAdd, Nat.reduceMul, Nat.reduceLeDiff, Nat.reduceEqDiff, reduceCtorEq, Nat.reduceSub, Int.reduceNeg, Nat.reduceMod, Nat.reduceBEq, Nat.reduceLT] <;> try simp only [bOf_t, bOf_f, decide_eq_true_eq, decide_eq_false_iff_not, Bool.not_eq_true', Bool.not_eq_false', Bool.not_eq_true, Bool.not_eq_false, Decidable.not_not] at hb) | (refine gB_split (fun hb => ?_) (fun hb => ?_) <;> simp only [hb, go_sem, k73, m73, c73_eq, k107, m107, c107_eq, k108, m108, c108_eq, Nat.reduceAdd, Nat.reduceMul, Nat.reduceLeDiff, Nat.reduceEqDiff, reduceCtorEq, Nat.reduceSub, Int.reduceNeg, Nat.reduceMod, Nat.reduceBEq, Nat.reduceLT] <;> try simp only [bOf_t, bOf_f, decide_eq_true_eq, decide_eq_false_iff_not, Bool.not_eq_true', Bool.not_eq_false', Bool.not_eq_true, Bool.not_eq_false, Decidable.not_not] at hb))
      all_goals (try simp only [maxLen, Int.toNat_natCast, List.length_map] at *)
      all_goals first | rfl | omega | skip
      · exact hpre.1 _ (getD_mem (by omega))
      · rw [bOf_y]
        exact ⟨fun q => by omega, fun _ => ⟨_, getD_mem (j := i) (by omega), hb⟩, fun q => by omega⟩
      · refine ⟨⟨i + 1, by omega, all_step (P := fun x => ¬ Has x r.text) hall hb⟩, by dsimp only; omega, ?_⟩
        simp only [go_sem, k73, m73, c73_eq, k107, m107, c107_eq, k108, m108, c108_eq, Nat.reduceAdd, Nat.reduceMul, Nat.reduceLeDiff, Nat.reduceEqDiff, reduceCtorEq, Nat.reduceSub, Int.reduceNeg, Nat.reduceMod, Nat.reduceBEq, Nat.reduceLT]
        simp
      · rw [bOf_n]
        intro h
        obtain ⟨s, hs, hh⟩ := h.2.1 (by assumption)
        exact (mem_getD (P := fun s => ¬ Has s r.text) fun j hj => hall j (by omega)) s hs hh
  · rw [bOf_congr]
    exact ⟨fun h => ⟨fun q => by omega, fun q => by omega, fun _ => h⟩, fun h => h.2.2 (by assumption)⟩
  · rw [bOf_y ⟨fun q => by omega, fun q => by omega, fun q => by omega⟩]

def c33 : Ct := ctR (lc ERu.asl (lc EAd.ag (lc EStr.asl l0))) (fun p => (∀ s ∈ p.2.2.1, s.size ≤ 1000000) ∧ ∀ r ∈ p.1, r.text.size ≤ 1000000) (fun p => .t (.v (.int .i64 (rIx p.2.1 p.2.2.1 0 p.1))))
theorem c33_eq {args : List AV} {K : AV → Prop} : c33 args K = K0 (fun p => (∀ s ∈ p.2.2.1, s.size ≤ 1000000) ∧ ∀ r ∈ p.1, r.text.size ≤ 1000000) (fun p => .t (.v (.int .i64 (rIx p.2.1 p.2.2.1 0 p.1)))) K ((lc ERu.asl (lc EAd.ag (lc EStr.asl l0))).dec args) := rfl
theorem good33 {G : Gt} (hG : GOk Tryz.prog G ∧ GDet G) (h75 : G.e 75 = roEnt 0 c75) : Good Tryz.prog G.m 33 (roEnt 0 c33) := by
  refine good_run (dp := fun _ => true) (fn := Tryz.f33) (n := 3) (fun _ => rfl) (by kernel_rfl) rfl (by kernel_rfl) hmix hG (Nat.le_of_ble_eq_true rfl) (by kernel_rfl) (by decide) (fun _ _ => .v _) ?_
  have k75 : (G.e 75).kd = 0 := by rw [h75]; rfl
  have m75 : (G.e 75).ro = c75 := by rw [h75]; rfl
  rintro ⟨rs, f, b, ⟨⟩⟩ hpre
  simp only [Tryz.f33, go_sem, k75, m75, c75_eq, Nat.reduceAdd, Nat.reduceMul, Nat.reduceLeDiff, Nat.reduceEqDiff, reduceCtorEq, Nat.reduceSub, Int.reduceNeg, Nat.reduceMod, Nat.reduceBEq, Nat.reduceLT] at hpre ⊢

  refine run_loop [] (ι := {i : Nat // i ≤ rs.length ∧ rIx f b i (rs.drop i) = rIx f b 0 rs}) (fun p => ⟨[(0, .t (.sl (rs.map encRu))), (2, .t (.sl (b.map encStr))), (4, .pb 1004 0), (7, .t (.v (.int .i64 p.1)))], [(1004, some (.box [.t (.v (.string f.user)), .t (.v (.string f.domain))]))]⟩) (fun p => rs.length - p.1) ⟨0, by omega, rfl⟩ rfl ?_ ?_
  · simp only [go_sem, k75, m75, c75_eq, Nat.reduceAdd, Nat.reduceMul, Nat.reduceLeDiff, Nat.reduceEqDiff, reduceCtorEq, Nat.reduceSub, Int.reduceNeg, Nat.reduceMod, Nat.reduceBEq, Nat.reduceLT]
    simp
  · rintro ⟨i, hi, hall⟩
    simp only [go_sem, k75, m75, c75_eq, Nat.reduceAdd, Nat.reduceMul, Nat.reduceLeDiff, Nat.reduceEqDiff, reduceCtorEq, Nat.reduceSub, Int.reduceNeg, Nat.reduceMod, Nat.reduceBEq, Nat.reduceLT]
    repeat' (first | with_reducible apply And.intro | intro _ | (refine brB_split (fun hb => ?_) (fun hb => ?_) <;> simp only [hb, go_sem, k75, m75, c75_eq, Nat.reduceAdd, Nat.reduceMul, Nat.reduceLeDiff, Nat.reduceEqDiff, reduceCtorEq, Nat.reduceSub, Int.reduceNeg, Nat.reduceMod, Nat.reduceBEq, Nat.reduceLT] <;> try simp only [bOf_t, bOf_f, decide_eq_true_eq, decide_eq_false_iff_not, Bool.not_eq_true', Bool.not_eq_false', Bool.not_eq_true, Bool.not_eq_false, Decidable.not_not] at hb) | (refine aPickB_split (fun hb => ?_) (fun hb => ?_) <;> simp only [hb, go_sem, k75, m75, c75_eq, Nat.reduceAdd, Nat.reduceMul, Nat.reduceLeDiff, Nat.reduceEqDiff, reduceCtorEq, Nat.reduceSub, Int.reduceNeg, Nat.reduceMod, Nat.reduceBEq, Nat.reduceLT] <;> try simp only [bOf_t, bOf_f, decide_eq_true_eq, decide_eq_false_iff_not, Bool.not_eq_true', Bool.not_eq_false', Bool.not_eq_true, Bool.not_eq_false, Decidable.not_not] at hb) | (refine gB_split (fun hb => ?_) (fun hb => ?_) <;> simp only [hb, go_sem, k75, m75, c75_eq, Nat.reduceAdd, Nat.reduceMul, Nat.reduceLeDiff, Nat.reduceEqDiff, reduceCtorEq, Nat.reduceSub, Int.reduceNeg, Nat.reduceMod, Nat.reduceBEq, Nat.reduceLT] <;> try simp only [bOf_t, bOf_f, decide_eq_true_eq, decide_eq_false_iff_not, Bool.not_eq_true', Bool.not_eq_false', Bool.not_eq_true, Bool.not_eq_false, Decidable.not_not] at hb))
    all_goals (try simp only [maxLen, Int.toNat_natCast, List.length_map] at *)
    all_goals first | rfl | omega | skip
    · exact hpre.1 _ (by assumption)
    · exact hpre.2 _ (getD_mem (by omega))
    · rw [← hall, rIx_yes (by omega) (by assumption)]
    · refine ⟨⟨i + 1, by omega, ?_⟩, by dsimp only; omega, ?_⟩
      · rw [← hall]; exact (rIx_no (by omega) (by assumption)).symm
      · simp only [go_sem, k75, m75, c75_eq, Nat.reduceAdd, Nat.reduceMul, Nat.reduceLeDiff, Nat.reduceEqDiff, reduceCtorEq, Nat.reduceSub, Int.reduceNeg, Nat.reduceMod, Nat.reduceBEq, Nat.reduceLT]
        simp
    · rw [← hall, rIx_end (by omega)]

def c31 : Ct := ctR (lc ERu.asl l0) (fun p => True) (fun p => .t (.v (.bool (bOf (RsOk p.1)))))
theorem c31_eq {args : List AV} {K : AV → Prop} : c31 args K = K0 (fun p => True) (fun p => .t (.v (.bool (bOf (RsOk p.1))))) K ((lc ERu.asl l0).dec args) := rfl
theorem good31 {G : Gt} (hG : GOk Tryz.prog G ∧ GDet G) (h66 : G.e 66 = roEnt 0 c66) (h70 : G.e 70 = roEnt 0 c70) (h71 : G.e 71 = roEnt 0 c71) (h72 : G.e 72 = roEnt 0 c72) (h73 : G.e 73 = roEnt 0 c73) : Good Tryz.prog G.m 31 (roEnt 0 c31) := by
  refine good_run (dp := fun _ => true) (fn := Tryz.f31) (n := 1) (fun _ => rfl) (by kernel_rfl) rfl (by kernel_rfl) hmix hG (Nat.le_of_ble_eq_true rfl) (by kernel_rfl) (by decide) (fun _ _ => .v _) ?_
  have k66 : (G.e 66).kd = 0 := by rw [h66]; rfl
  have m66 : (G.e 66).ro = c66 := by rw [h66]; rfl
  have k70 : (G.e 70).kd = 0 := by rw [h70]; rfl
  have m70 : (G.e 70).ro = c70 := by rw [h70]; rfl
  have k71 : (G.e 71).kd = 0 := by rw [h71]; rfl
  have m71 : (G.e 71).ro = c71 := by rw [h71]; rfl
  have k72 : (G.e 72).kd = 0 := by rw [h72]; rfl
  have m72 : (G.e 72).ro = c72 := by rw [h72]; rfl
  have k73 : (G.e 73).kd = 0 := by rw [h73]; rfl
  have m73 : (G.e 73).ro = c73 := by rw [h73]; rfl
  rintro ⟨rs, ⟨⟩⟩ hpre
  simp only [Tryz.f31, go_sem, k66, m66, c66_eq, k70, m70, c70_eq, k71, m71, c71_eq, k72, m72, c72_eq, k73, m73, c73_eq, Nat.reduceAdd, Nat.reduceMul, Nat.reduceLeDiff, Nat.reduceEqDiff, reduceCtorEq, Nat.reduceSub, Int.reduceNeg, Nat.reduceMod, Nat.reduceBEq, Nat.reduceLT] at hpre ⊢

  refine run_loop [] (ι := {i : Nat // i ≤ rs.length ∧ ∀ j, j < i → RuOk (rs.getD j default)}) (fun p => ⟨[(0, .t (.sl (rs.map encRu))), (3, .t (.v (.int .i64 p.1)))], []⟩) (fun p => rs.length - p.1) ⟨0, by simp, by simp⟩ rfl ?_ ?_
  · simp only [go_sem, k66, m66, c66_eq, k70, m70, c70_eq, k71, m71, c71_eq, k72, m72, c72_eq, k73, m73, c73_eq, Nat.reduceAdd, Nat.reduceMul, Nat.reduceLeDiff, Nat.reduceEqDiff, reduceCtorEq, Nat.reduceSub, Int.reduceNeg, Nat.reduceMod, Nat.reduceBEq, Nat.reduceLT]
    simp
  · rintro ⟨i, hi, hall⟩
    simp only [go_sem, k66, m66, c66_eq, k70, m70, c70_eq, k71, m71, c71_eq, k72, m72, c72_eq, k73, m73, c73_eq, Nat.reduceAdd, Nat.reduceMul, Nat.reduceLeDiff, Nat.reduceEqDiff, reduceCtorEq, Nat.reduceSub, Int.reduceNeg, Nat.reduceMod, Nat.reduceBEq, Nat.reduceLT]
    repeat' (first | with_reducible apply And.intro | intro _ | (refine brB_split (fun hb => ?_) (fun hb => ?_) <;> simp only [hb, go_sem, k66, m66, c66_eq, k70, m70, c70_eq, k71, m71, c71_eq, k72, m72, c72_eq, k73, m73, c73_eq, Nat.reduceAdd, Nat.reduceMul, Nat.reduceLeDiff, Nat.reduceEqDiff, reduceCtorEq, Nat.reduceSub, Int.reduceNeg, Nat.reduceMod, Nat.reduceBEq, Nat.reduceLT] <;> try simp only [bOf_t, bOf_f, decide_eq_true_eq, decide_eq_false_iff_not, Bool.not_eq_true', Bool.not_eq_false', Bool.not_eq_true, Bool.not_eq_false, Decidable.not_not] at hb) | (refine aPickB_split (fun hb => ?_) (fun hb => ?_) <;> simp only [hb, go_sem, k66, m66, c66_eq, k70, m70, c70_eq, k71, m71, c71_eq, k72, m72, c72_eq, k73, m73, c73_eq, Nat.reduceAdd, Nat.reduceMul, Nat.reduceLeDiff, Nat.reduceEqDiff, reduceCtorEq, Nat.reduceSub, Int.reduceNeg, Nat.reduceMod, Nat.reduceBEq, Nat.reduceLT] <;> try simp only [bOf_t, bOf_f, decide_eq_true_eq, decide_eq_false_iff_not, Bool.not_eq_true', Bool.not_eq_false', Bool.not_eq_true, Bool.not_eq_false, Decidable.not_not] at hb) | (refine gB_split (fun hb => ?_) (fun hb => ?_) <;> simp only [hb, go_sem, k66, m66, c66_eq, k70, m70, c70_eq, k71, m71, c71_eq, k72, m72, c72_eq, k73, m73, c73_eq, Nat.reduceAdd, Nat.reduceMul, Nat.reduceLeDiff, Nat.reduceEqDiff, reduceCtorEq, Nat.reduceSub, Int.reduceNeg, Nat.reduceMod, Nat.reduceBEq, Nat.reduceLT] <;> try simp only [bOf_t, bOf_f, decide_eq_true_eq, decide_eq_false_iff_not, Bool.not_eq_true', Bool.not_eq_false', Bool.not_eq_true, Bool.not_eq_false, Decidable.not_not] at hb))
    all_goals (try simp only [maxLen, Int.toNat_natCast, List.length_map] at *)
    all_goals first | rfl | omega | skip
    all_goals first
      | (rw [bOf_n]
         intro h
         have q := h.1 _ (getD_mem (xs := rs) (j := i) (by omega))
         obtain ⟨q1, q2, q3, q4, q5, q6, q7⟩ := q
         first | omega | contradiction | (exact absurd (q4 (by omega)) (by assumption)) | (exact absurd (q5 (by omega)) (by assumption)) | (exact absurd (q6 (by omega)) (by assumption)) | (exact absurd (q7 (by omega)) (by assumption)))
      | (refine ⟨⟨i + 1, by omega, all_step hall ?_⟩, by dsimp only; omega, ?_⟩
         · refine ⟨by omega, by omega, by assumption, fun z => ?_, fun z => ?_, fun z => ?_, fun z => ?_⟩ <;> first | assumption | omega | contradiction
         · simp only [go_sem, k66, m66, c66_eq, k70, m70, c70_eq, k71, m71, c71_eq, k72, m72, c72_eq, k73, m73, c73_eq, Nat.reduceAdd, Nat.reduceMul, Nat.reduceLeDiff, Nat.reduceEqDiff, reduceCtorEq, Nat.reduceSub, Int.reduceNeg, Nat.reduceMod, Nat.reduceBEq, Nat.reduceLT]
           simp)
      | (rw [← bOf_d, bOf_congr]
         exact ⟨fun h => ⟨mem_getD fun j hj => hall j (by omega), by omega⟩, fun h => by have := h.2; omega⟩)
      | trace_state


def ml0 : Ml := ⟨⟨⟨#[]⟩, ⟨#[]⟩⟩, [], []⟩
open Classical in
noncomputable def SDo (rs : List Ru) (m : Ml) : Ml × Int :=
  if RsOk rs ∧ MlOk m then
    if rIx m.frm m.body 0 rs < 0 then (m, 1)
    else if (rs.getD (rIx m.frm m.body 0 rs).toNat default).act = 1 then (m, 1)
    else if (rs.getD (rIx m.frm m.body 0 rs).toNat default).act = 2 then (ml0, 2)
    else (⟨m.frm, [(rs.getD (rIx m.frm m.body 0 rs).toNat default).to], m.body⟩, 3)
  else (ml0, -1)
theorem SDo_no {rs : List Ru} {m : Ml} (h : ¬ (RsOk rs ∧ MlOk m)) : SDo rs m = (ml0, -1) := by unfold SDo; rw [if_neg h]
theorem SDo_neg {rs : List Ru} {m : Ml} (h : RsOk rs ∧ MlOk m) (h1 : rIx m.frm m.body 0 rs < 0) : SDo rs m = (m, 1) := by unfold SDo; rw [if_pos h, if_pos h1]
theorem SDo_1 {rs : List Ru} {m : Ml} (h : RsOk rs ∧ MlOk m) (h1 : ¬ rIx m.frm m.body 0 rs < 0) (h2 : (rs.getD (rIx m.frm m.body 0 rs).toNat default).act = 1) : SDo rs m = (m, 1) := by unfold SDo; rw [if_pos h, if_neg h1, if_pos h2]
theorem SDo_2 {rs : List Ru} {m : Ml} (h : RsOk rs ∧ MlOk m) (h1 : ¬ rIx m.frm m.body 0 rs < 0) (h2 : (rs.getD (rIx m.frm m.body 0 rs).toNat default).act = 2) : SDo rs m = (ml0, 2) := by
  unfold SDo; rw [if_pos h, if_neg h1, if_neg (by omega), if_pos h2]
theorem SDo_3 {rs : List Ru} {m : Ml} (h : RsOk rs ∧ MlOk m) (h1 : ¬ rIx m.frm m.body 0 rs < 0) (h2 : ¬ (rs.getD (rIx m.frm m.body 0 rs).toNat default).act = 1) (h3 : ¬ (rs.getD (rIx m.frm m.body 0 rs).toNat default).act = 2) :
    SDo rs m = (⟨m.frm, [(rs.getD (rIx m.frm m.body 0 rs).toNat default).to], m.body⟩, 3) := by
  unfold SDo; rw [if_pos h, if_neg h1, if_neg h2, if_neg h3]
theorem ok_sizes {rs : List Ru} {m : Ml} (h1 : RsOk rs) (h2 : MlOk m) : (∀ s ∈ m.body, s.size ≤ 1000000) ∧ ∀ r ∈ rs, r.text.size ≤ 1000000 :=
  ⟨fun s hs => by have := (h2.2.2.2.2.1 s hs).2; omega, fun r hr => by have := (h1.1 r hr).2.2.1.2; omega⟩
theorem ok_lens {m : Ml} (h : MlOk m) : m.to.length ≤ 4 ∧ m.body.length ≤ 12 := ⟨h.2.2.2.1.2, h.2.2.2.2.2⟩
def mlR (p : Ml × Int) : AV := .tup [mlOw p.1, .t (.v (.int .i64 p.2))]
theorem mlOw_solid (m : Ml) : Solid (mlOw m) := .agg _ (by
  intro c hc
  simp only [List.mem_cons, List.not_mem_nil, or_false] at hc
  rcases hc with rfl | rfl | rfl | rfl <;> first | exact .v _ | exact .deep _ _)
theorem mlR_solid (p : Ml × Int) : Solid (mlR p) := .tup _ (by
  intro c hc
  simp only [List.mem_cons, List.not_mem_nil, or_false] at hc
  rcases hc with rfl | rfl
  · exact mlOw_solid _
  · exact .v _)
def c8 : Ct := ctR (lc ERu.asl (lc EMl.ag l0)) (fun p => True) (fun p => mlR (SDo p.1 p.2.1))
theorem c8_eq {args : List AV} {K : AV → Prop} : c8 args K = K0 (fun p => True) (fun p => mlR (SDo p.1 p.2.1)) K ((lc ERu.asl (lc EMl.ag l0)).dec args) := rfl
theorem good8 {G : Gt} (hG : GOk Tryz.prog G ∧ GDet G) (h31 : G.e 31 = roEnt 0 c31) (h32 : G.e 32 = roEnt 0 c32) (h33 : G.e 33 = roEnt 0 c33) (h34 : G.e 34 = roEnt 0 c34) : Good Tryz.prog G.m 8 (roEnt 0 c8) := by
  refine good_run (dp := fun _ => true) (fn := Tryz.f8) (n := 2) (fun _ => rfl) (by kernel_rfl) rfl (by kernel_rfl) hmix hG (Nat.le_of_ble_eq_true rfl) (by kernel_rfl) (by decide) (fun _ p => mlR_solid _) ?_
  have k31 : (G.e 31).kd = 0 := by rw [h31]; rfl
  have m31 : (G.e 31).ro = c31 := by rw [h31]; rfl
  have k32 : (G.e 32).kd = 0 := by rw [h32]; rfl
  have m32 : (G.e 32).ro = c32 := by rw [h32]; rfl
  have k33 : (G.e 33).kd = 0 := by rw [h33]; rfl
  have m33 : (G.e 33).ro = c33 := by rw [h33]; rfl
  have k34 : (G.e 34).kd = 0 := by rw [h34]; rfl
  have m34 : (G.e 34).ro = c34 := by rw [h34]; rfl
  rintro ⟨rs, m, ⟨⟩⟩ hpre

  by_cases h : RsOk rs ∧ MlOk m
  · have b1 := bOf_y h.1
    have b2 := bOf_y h.2
    have z1 := ok_sizes h.1 h.2
    have z2 := ok_lens h.2
    have z3 := rIx_range m.frm m.body rs 0
    by_cases h1 : rIx m.frm m.body 0 rs < 0
    · have b3 := decide_eq_true h1
      rw [SDo_neg h h1]
      simp only [Tryz.f8, mlR, ml0, b1, b2, b3, go_sem, k31, m31, c31_eq, k32, m32, c32_eq, k33, m33, c33_eq, k34, m34, c34_eq, mlOw, List.length_map, List.map_nil, List.length_nil, List.map_cons, Nat.reduceAdd, Nat.reduceMul, Nat.reduceLeDiff, Nat.reduceEqDiff, reduceCtorEq, Nat.reduceSub, Int.reduceNeg, Nat.reduceMod, Nat.reduceBEq, Nat.reduceLT] at hpre ⊢
      repeat' (first | with_reducible apply And.intro | intro _ | (refine brB_split (fun hb => ?_) (fun hb => ?_) <;> simp only [hb, go_sem, k31, m31, c31_eq, k32, m32, c32_eq, k33, m33, c33_eq, k34, m34, c34_eq, mlOw, List.length_map, List.map_nil, List.length_nil, List.map_cons, Nat.reduceAdd, Nat.reduceMul, Nat.reduceLeDiff, Nat.reduceEqDiff, reduceCtorEq, Nat.reduceSub, Int.reduceNeg, Nat.reduceMod, Nat.reduceBEq, Nat.reduceLT] <;> try simp only [bOf_t, bOf_f, decide_eq_true_eq, decide_eq_false_iff_not, Bool.not_eq_true', Bool.not_eq_false', Bool.not_eq_true, Bool.not_eq_false, Decidable.not_not] at hb) | (refine aPickB_split (fun hb => ?_) (fun hb => ?_) <;> simp only [hb, go_sem, k31, m31, c31_eq, k32, m32, c32_eq, k33, m33, c33_eq, k34, m34, c34_eq, mlOw, List.length_map, List.map_nil, List.length_nil, List.map_cons, Nat.reduceAdd, Nat.reduceMul, Nat.reduceLeDiff, Nat.reduceEqDiff, reduceCtorEq, Nat.reduceSub, Int.reduceNeg, Nat.reduceMod, Nat.reduceBEq, Nat.reduceLT] <;> try simp only [bOf_t, bOf_f, decide_eq_true_eq, decide_eq_false_iff_not, Bool.not_eq_true', Bool.not_eq_false', Bool.not_eq_true, Bool.not_eq_false, Decidable.not_not] at hb) | (refine gB_split (fun hb => ?_) (fun hb => ?_) <;> simp only [hb, go_sem, k31, m31, c31_eq, k32, m32, c32_eq, k33, m33, c33_eq, k34, m34, c34_eq, mlOw, List.length_map, List.map_nil, List.length_nil, List.map_cons, Nat.reduceAdd, Nat.reduceMul, Nat.reduceLeDiff, Nat.reduceEqDiff, reduceCtorEq, Nat.reduceSub, Int.reduceNeg, Nat.reduceMod, Nat.reduceBEq, Nat.reduceLT] <;> try simp only [bOf_t, bOf_f, decide_eq_true_eq, decide_eq_false_iff_not, Bool.not_eq_true', Bool.not_eq_false', Bool.not_eq_true, Bool.not_eq_false, Decidable.not_not] at hb))
      all_goals (try simp only [maxLen] at *)
      all_goals first | rfl | omega | (simp_all; done) | trace_state
    · have b3 := decide_eq_false h1
      by_cases h2 : (rs.getD (rIx m.frm m.body 0 rs).toNat default).act = 1
      · have b4 := decide_eq_true h2
        rw [SDo_1 h h1 h2]
        simp only [Tryz.f8, mlR, ml0, b1, b2, b3, b4, go_sem, k31, m31, c31_eq, k32, m32, c32_eq, k33, m33, c33_eq, k34, m34, c34_eq, mlOw, List.length_map, List.map_nil, List.length_nil, List.map_cons, Nat.reduceAdd, Nat.reduceMul, Nat.reduceLeDiff, Nat.reduceEqDiff, reduceCtorEq, Nat.reduceSub, Int.reduceNeg, Nat.reduceMod, Nat.reduceBEq, Nat.reduceLT] at hpre ⊢
        repeat' (first | with_reducible apply And.intro | intro _ | (refine brB_split (fun hb => ?_) (fun hb => ?_) <;> simp only [hb, go_sem, k31, m31, c31_eq, k32, m32, c32_eq, k33, m33, c33_eq, k34, m34, c34_eq, mlOw, List.length_map, List.map_nil, List.length_nil, List.map_cons, Nat.reduceAdd, Nat.reduceMul, Nat.reduceLeDiff, Nat.reduceEqDiff, reduceCtorEq, Nat.reduceSub, Int.reduceNeg, Nat.reduceMod, Nat.reduceBEq, Nat.reduceLT] <;> try simp only [bOf_t, bOf_f, decide_eq_true_eq, decide_eq_false_iff_not, Bool.not_eq_true', Bool.not_eq_false', Bool.not_eq_true, Bool.not_eq_false, Decidable.not_not] at hb) | (refine aPickB_split (fun hb => ?_) (fun hb => ?_) <;> simp only [hb, go_sem, k31, m31, c31_eq, k32, m32, c32_eq, k33, m33, c33_eq, k34, m34, c34_eq, mlOw, List.length_map, List.map_nil, List.length_nil, List.map_cons, Nat.reduceAdd, Nat.reduceMul, Nat.reduceLeDiff, Nat.reduceEqDiff, reduceCtorEq, Nat.reduceSub, Int.reduceNeg, Nat.reduceMod, Nat.reduceBEq, Nat.reduceLT] <;> try simp only [bOf_t, bOf_f, decide_eq_true_eq, decide_eq_false_iff_not, Bool.not_eq_true', Bool.not_eq_false', Bool.not_eq_true, Bool.not_eq_false, Decidable.not_not] at hb) | (refine gB_split (fun hb => ?_) (fun hb => ?_) <;> simp only [hb, go_sem, k31, m31, c31_eq, k32, m32, c32_eq, k33, m33, c33_eq, k34, m34, c34_eq, mlOw, List.length_map, List.map_nil, List.length_nil, List.map_cons, Nat.reduceAdd, Nat.reduceMul, Nat.reduceLeDiff, Nat.reduceEqDiff, reduceCtorEq, Nat.reduceSub, Int.reduceNeg, Nat.reduceMod, Nat.reduceBEq, Nat.reduceLT] <;> try simp only [bOf_t, bOf_f, decide_eq_true_eq, decide_eq_false_iff_not, Bool.not_eq_true', Bool.not_eq_false', Bool.not_eq_true, Bool.not_eq_false, Decidable.not_not] at hb))
        all_goals (try simp only [maxLen] at *)
        all_goals first | rfl | omega | (simp_all; done) | trace_state
      · have b4 := decide_eq_false h2
        by_cases h3 : (rs.getD (rIx m.frm m.body 0 rs).toNat default).act = 2
        · have b5 := decide_eq_true h3
          rw [SDo_2 h h1 h3]
          simp only [Tryz.f8, mlR, ml0, b1, b2, b3, b4, b5, go_sem, k31, m31, c31_eq, k32, m32, c32_eq, k33, m33, c33_eq, k34, m34, c34_eq, mlOw, List.length_map, List.map_nil, List.length_nil, List.map_cons, Nat.reduceAdd, Nat.reduceMul, Nat.reduceLeDiff, Nat.reduceEqDiff, reduceCtorEq, Nat.reduceSub, Int.reduceNeg, Nat.reduceMod, Nat.reduceBEq, Nat.reduceLT] at hpre ⊢
          repeat' (first | with_reducible apply And.intro | intro _ | (refine brB_split (fun hb => ?_) (fun hb => ?_) <;> simp only [hb, go_sem, k31, m31, c31_eq, k32, m32, c32_eq, k33, m33, c33_eq, k34, m34, c34_eq, mlOw, List.length_map, List.map_nil, List.length_nil, List.map_cons, Nat.reduceAdd, Nat.reduceMul, Nat.reduceLeDiff, Nat.reduceEqDiff, reduceCtorEq, Nat.reduceSub, Int.reduceNeg, Nat.reduceMod, Nat.reduceBEq, Nat.reduceLT] <;> try simp only [bOf_t, bOf_f, decide_eq_true_eq, decide_eq_false_iff_not, Bool.not_eq_true', Bool.not_eq_false', Bool.not_eq_true, Bool.not_eq_false, Decidable.not_not] at hb) | (refine aPickB_split (fun hb => ?_) (fun hb => ?_) <;> simp only [hb, go_sem, k31, m31, c31_eq, k32, m32, c32_eq, k33, m33, c33_eq, k34, m34, c34_eq, mlOw, List.length_map, List.map_nil, List.length_nil, List.map_cons, Nat.reduceAdd, Nat.reduceMul, Nat.reduceLeDiff, Nat.reduceEqDiff, reduceCtorEq, Nat.reduceSub, Int.reduceNeg, Nat.reduceMod, Nat.reduceBEq, Nat.reduceLT] <;> try simp only [bOf_t, bOf_f, decide_eq_true_eq, decide_eq_false_iff_not, Bool.not_eq_true', Bool.not_eq_false', Bool.not_eq_true, Bool.not_eq_false, Decidable.not_not] at hb) | (refine gB_split (fun hb => ?_) (fun hb => ?_) <;> simp only [hb, go_sem, k31, m31, c31_eq, k32, m32, c32_eq, k33, m33, c33_eq, k34, m34, c34_eq, mlOw, List.length_map, List.map_nil, List.length_nil, List.map_cons, Nat.reduceAdd, Nat.reduceMul, Nat.reduceLeDiff, Nat.reduceEqDiff, reduceCtorEq, Nat.reduceSub, Int.reduceNeg, Nat.reduceMod, Nat.reduceBEq, Nat.reduceLT] <;> try simp only [bOf_t, bOf_f, decide_eq_true_eq, decide_eq_false_iff_not, Bool.not_eq_true', Bool.not_eq_false', Bool.not_eq_true, Bool.not_eq_false, Decidable.not_not] at hb))
          all_goals (try simp only [maxLen] at *)
          all_goals first | rfl | omega | (simp_all; done) | trace_state
        · have b5 := decide_eq_false h3
          rw [SDo_3 h h1 h2 h3]
          simp only [Tryz.f8, mlR, ml0, b1, b2, b3, b4, b5, go_sem, k31, m31, c31_eq, k32, m32, c32_eq, k33, m33, c33_eq, k34, m34, c34_eq, mlOw, List.length_map, List.map_nil, List.length_nil, List.map_cons, Nat.reduceAdd, Nat.reduceMul, Nat.reduceLeDiff, Nat.reduceEqDiff, reduceCtorEq, Nat.reduceSub, Int.reduceNeg, Nat.reduceMod, Nat.reduceBEq, Nat.reduceLT] at hpre ⊢
          repeat' (first | with_reducible apply And.intro | intro _ | (refine brB_split (fun hb => ?_) (fun hb => ?_) <;> simp only [hb, go_sem, k31, m31, c31_eq, k32, m32, c32_eq, k33, m33, c33_eq, k34, m34, c34_eq, mlOw, List.length_map, List.map_nil, List.length_nil, List.map_cons, Nat.reduceAdd, Nat.reduceMul, Nat.reduceLeDiff, Nat.reduceEqDiff, reduceCtorEq, Nat.reduceSub, Int.reduceNeg, Nat.reduceMod, Nat.reduceBEq, Nat.reduceLT] <;> try simp only [bOf_t, bOf_f, decide_eq_true_eq, decide_eq_false_iff_not, Bool.not_eq_true', Bool.not_eq_false', Bool.not_eq_true, Bool.not_eq_false, Decidable.not_not] at hb) | (refine aPickB_split (fun hb => ?_) (fun hb => ?_) <;> simp only [hb, go_sem, k31, m31, c31_eq, k32, m32, c32_eq, k33, m33, c33_eq, k34, m34, c34_eq, mlOw, List.length_map, List.map_nil, List.length_nil, List.map_cons, Nat.reduceAdd, Nat.reduceMul, Nat.reduceLeDiff, Nat.reduceEqDiff, reduceCtorEq, Nat.reduceSub, Int.reduceNeg, Nat.reduceMod, Nat.reduceBEq, Nat.reduceLT] <;> try simp only [bOf_t, bOf_f, decide_eq_true_eq, decide_eq_false_iff_not, Bool.not_eq_true', Bool.not_eq_false', Bool.not_eq_true, Bool.not_eq_false, Decidable.not_not] at hb) | (refine gB_split (fun hb => ?_) (fun hb => ?_) <;> simp only [hb, go_sem, k31, m31, c31_eq, k32, m32, c32_eq, k33, m33, c33_eq, k34, m34, c34_eq, mlOw, List.length_map, List.map_nil, List.length_nil, List.map_cons, Nat.reduceAdd, Nat.reduceMul, Nat.reduceLeDiff, Nat.reduceEqDiff, reduceCtorEq, Nat.reduceSub, Int.reduceNeg, Nat.reduceMod, Nat.reduceBEq, Nat.reduceLT] <;> try simp only [bOf_t, bOf_f, decide_eq_true_eq, decide_eq_false_iff_not, Bool.not_eq_true', Bool.not_eq_false', Bool.not_eq_true, Bool.not_eq_false, Decidable.not_not] at hb))
          all_goals (try simp only [maxLen] at *)
          all_goals first | rfl | omega | (simp_all; done) | trace_state
  · rw [SDo_no h]
    by_cases hr : RsOk rs
    · have b1 := bOf_y hr
      have b2 := bOf_n (fun q => h ⟨hr, q⟩)
      simp only [Tryz.f8, mlR, ml0, b1, b2, go_sem, k31, m31, c31_eq, k32, m32, c32_eq, k33, m33, c33_eq, k34, m34, c34_eq, mlOw, List.length_map, List.map_nil, List.length_nil, List.map_cons, Nat.reduceAdd, Nat.reduceMul, Nat.reduceLeDiff, Nat.reduceEqDiff, reduceCtorEq, Nat.reduceSub, Int.reduceNeg, Nat.reduceMod, Nat.reduceBEq, Nat.reduceLT] at hpre ⊢
      repeat' (first | with_reducible apply And.intro | intro _ | (refine brB_split (fun hb => ?_) (fun hb => ?_) <;> simp only [hb, go_sem, k31, m31, c31_eq, k32, m32, c32_eq, k33, m33, c33_eq, k34, m34, c34_eq, mlOw, List.length_map, List.map_nil, List.length_nil, List.map_cons, Nat.reduceAdd, Nat.reduceMul, Nat.reduceLeDiff, Nat.reduceEqDiff, reduceCtorEq, Nat.reduceSub, Int.reduceNeg, Nat.reduceMod, Nat.reduceBEq, Nat.reduceLT] <;> try simp only [bOf_t, bOf_f, decide_eq_true_eq, decide_eq_false_iff_not, Bool.not_eq_true', Bool.not_eq_false', Bool.not_eq_true, Bool.not_eq_false, Decidable.not_not] at hb) | (refine aPickB_split (fun hb => ?_) (fun hb => ?_) <;> simp only [hb, go_sem, k31, m31, c31_eq, k32, m32, c32_eq, k33, m33, c33_eq, k34, m34, c34_eq, mlOw, List.length_map, List.map_nil, List.length_nil, List.map_cons, Nat.reduceAdd, Nat.reduceMul, Nat.reduceLeDiff, Nat.reduceEqDiff, reduceCtorEq, Nat.reduceSub, Int.reduceNeg, Nat.reduceMod, Nat.reduceBEq, Nat.reduceLT] <;> try simp only [bOf_t, bOf_f, decide_eq_true_eq, decide_eq_false_iff_not, Bool.not_eq_true', Bool.not_eq_false', Bool.not_eq_true, Bool.not_eq_false, Decidable.not_not] at hb) | (refine gB_split (fun hb => ?_) (fun hb => ?_) <;> simp only [hb, go_sem, k31, m31, c31_eq, k32, m32, c32_eq, k33, m33, c33_eq, k34, m34, c34_eq, mlOw, List.length_map, List.map_nil, List.length_nil, List.map_cons, Nat.reduceAdd, Nat.reduceMul, Nat.reduceLeDiff, Nat.reduceEqDiff, reduceCtorEq, Nat.reduceSub, Int.reduceNeg, Nat.reduceMod, Nat.reduceBEq, Nat.reduceLT] <;> try simp only [bOf_t, bOf_f, decide_eq_true_eq, decide_eq_false_iff_not, Bool.not_eq_true', Bool.not_eq_false', Bool.not_eq_true, Bool.not_eq_false, Decidable.not_not] at hb))
      all_goals (try simp only [maxLen] at *)
      all_goals first | rfl | omega | (simp_all; done) | trace_state
    · have b1 := bOf_n hr
      simp only [Tryz.f8, mlR, ml0, b1, go_sem, k31, m31, c31_eq, k32, m32, c32_eq, k33, m33, c33_eq, k34, m34, c34_eq, mlOw, List.length_map, List.map_nil, List.length_nil, List.map_cons, Nat.reduceAdd, Nat.reduceMul, Nat.reduceLeDiff, Nat.reduceEqDiff, reduceCtorEq, Nat.reduceSub, Int.reduceNeg, Nat.reduceMod, Nat.reduceBEq, Nat.reduceLT] at hpre ⊢
      repeat' (first | with_reducible apply And.intro | intro _ | (refine brB_split (fun hb => ?_) (fun hb => ?_) <;> simp only [hb, go_sem, k31, m31, c31_eq, k32, m32, c32_eq, k33, m33, c33_eq, k34, m34, c34_eq, mlOw, List.length_map, List.map_nil, List.length_nil, List.map_cons, Nat.reduceAdd, Nat.reduceMul, Nat.reduceLeDiff, Nat.reduceEqDiff, reduceCtorEq, Nat.reduceSub, Int.reduceNeg, Nat.reduceMod, Nat.reduceBEq, Nat.reduceLT] <;> try simp only [bOf_t, bOf_f, decide_eq_true_eq, decide_eq_false_iff_not, Bool.not_eq_true', Bool.not_eq_false', Bool.not_eq_true, Bool.not_eq_false, Decidable.not_not] at hb) | (refine aPickB_split (fun hb => ?_) (fun hb => ?_) <;> simp only [hb, go_sem, k31, m31, c31_eq, k32, m32, c32_eq, k33, m33, c33_eq, k34, m34, c34_eq, mlOw, List.length_map, List.map_nil, List.length_nil, List.map_cons, Nat.reduceAdd, Nat.reduceMul, Nat.reduceLeDiff, Nat.reduceEqDiff, reduceCtorEq, Nat.reduceSub, Int.reduceNeg, Nat.reduceMod, Nat.reduceBEq, Nat.reduceLT] <;> try simp only [bOf_t, bOf_f, decide_eq_true_eq, decide_eq_false_iff_not, Bool.not_eq_true', Bool.not_eq_false', Bool.not_eq_true, Bool.not_eq_false, Decidable.not_not] at hb) | (refine gB_split (fun hb => ?_) (fun hb => ?_) <;> simp only [hb, go_sem, k31, m31, c31_eq, k32, m32, c32_eq, k33, m33, c33_eq, k34, m34, c34_eq, mlOw, List.length_map, List.map_nil, List.length_nil, List.map_cons, Nat.reduceAdd, Nat.reduceMul, Nat.reduceLeDiff, Nat.reduceEqDiff, reduceCtorEq, Nat.reduceSub, Int.reduceNeg, Nat.reduceMod, Nat.reduceBEq, Nat.reduceLT] <;> try simp only [bOf_t, bOf_f, decide_eq_true_eq, decide_eq_false_iff_not, Bool.not_eq_true', Bool.not_eq_false', Bool.not_eq_true, Bool.not_eq_false, Decidable.not_not] at hb))
      all_goals (try simp only [maxLen] at *)
      all_goals first | rfl | omega | (simp_all; done) | trace_state



theorem two_args {w : World} {pr : Nat → Prop} {u v : Value} {vs : List Value} (h : AHasL ρ0 w pr [.t (.v u), .t (.v v)] vs []) : vs = [u, v] := by
  obtain ⟨a, l, rfl, h1, h2⟩ := h.one
  obtain ⟨b, l2, rfl, h3, h4⟩ := h2.one
  generalize hF : ([] : List Nat) = F at h4
  cases h4
  rw [h1.val.1, h3.val.1]
theorem GlOk.cell {m : Int} {w : World} {pr : Nat → Prop} (h : GlOk m w pr) : w.cell? ⟨0, 0, none⟩ = some (.int .i64 m) := by
  unfold GlOk at h
  cases h with
  | rop cs a vs hp hv hr =>
    cases hr with
    | cons t v ts vs h1 h2 =>
      cases h1 with
      | v x hx =>
        have := hv 0 (.int .i64 m) rfl
        simpa [Addr.add, glb] using this
def c156 : Ct := ctR (lc AStr (lc AU8 l0)) (fun _ => True) (fun p => .t (.v (.int .i64 (Lib.indexByte (bl p.1) (UInt8.ofNat p.2.1.toNat)))))
theorem c156_eq {args : List AV} {K : AV → Prop} : c156 args K = K0 (fun (_ : ByteArray × Int × Unit) => True) (fun p => .t (.v (.int .i64 (Lib.indexByte (bl p.1) (UInt8.ofNat p.2.1.toNat))))) K ((lc AStr (lc AU8 l0)).dec args) := rfl
theorem good156 (m : Int) : GoodX Tryz.prog m 156 c156 := GoodX.of (r := fun (p : ByteArray × Int × Unit) => .int .i64 (Lib.indexByte (bl p.1) (UInt8.ofNat p.2.1.toNat))) (fun _ => trivial) fun p _ => by
  obtain ⟨s, c, ⟨⟩⟩ := p
  intro w pr vs hgl hv
  have := two_args hv
  subst this
  have he : Extern.find Tryz.f156 = some Extern.BytealgIndexByte.indexByte := by kernel_rfl
  rw [run_callFunc_extern (fn := Tryz.f156) (by kernel_rfl) (by kernel_rfl) rfl (by kernel_rfl) he]
  have h := Lib.run_indexByteString (P := Tryz.prog) s c w
  rw [show ([Value.string s, Value.int .u8 c].toArray) = #[.string s, .int .u8 c] from rfl, h]
  rfl
def c152 : Ct := ctR (lc AStr (lc AU8 l0)) (fun _ => True) (fun p => .t (.v (.int .i64 (Lib.countByte (bl p.1) (UInt8.ofNat p.2.1.toNat)))))
theorem c152_eq {args : List AV} {K : AV → Prop} : c152 args K = K0 (fun (_ : ByteArray × Int × Unit) => True) (fun p => .t (.v (.int .i64 (Lib.countByte (bl p.1) (UInt8.ofNat p.2.1.toNat))))) K ((lc AStr (lc AU8 l0)).dec args) := rfl
theorem good152 (m : Int) : GoodX Tryz.prog m 152 c152 := GoodX.of (r := fun (p : ByteArray × Int × Unit) => .int .i64 (Lib.countByte (bl p.1) (UInt8.ofNat p.2.1.toNat))) (fun _ => trivial) fun p _ => by
  obtain ⟨s, c, ⟨⟩⟩ := p
  intro w pr vs hgl hv
  have := two_args hv
  subst this
  have he : Extern.find Tryz.f152 = some Extern.BytealgCount.count := by kernel_rfl
  rw [run_callFunc_extern (fn := Tryz.f152) (by kernel_rfl) (by kernel_rfl) rfl (by kernel_rfl) he]
  have h := Lib.run_countString (P := Tryz.prog) s c w
  rw [show ([Value.string s, Value.int .u8 c].toArray) = #[.string s, .int .u8 c] from rfl, h]
  rfl
/-- What bytealg.IndexString gives, where the needle is no longer than MaxLen. -/
def c148 (m : Int) : Ct := ctR (lc AStr (lc AStr l0)) (fun p => 2 ≤ p.2.1.size ∧ (p.2.1.size : Int) ≤ m ∧ p.1.size ≤ 2000000) (fun p => .t (.v (.int .i64 (Lib.indexB p.1 p.2.1))))
theorem c148_eq {m : Int} {args : List AV} {K : AV → Prop} : c148 m args K = K0 (fun (p : ByteArray × ByteArray × Unit) => 2 ≤ p.2.1.size ∧ (p.2.1.size : Int) ≤ m ∧ p.1.size ≤ 2000000) (fun p => .t (.v (.int .i64 (Lib.indexB p.1 p.2.1)))) K ((lc AStr (lc AStr l0)).dec args) := rfl
theorem good148 (m : Int) : GoodX Tryz.prog m 148 (c148 m) := GoodX.of (r := fun (p : ByteArray × ByteArray × Unit) => .int .i64 (Lib.indexB p.1 p.2.1)) (fun _ => trivial) fun p hp => by
  obtain ⟨s, b, ⟨⟩⟩ := p
  intro w pr vs hgl hv
  have := two_args hv
  subst this
  have he : Extern.find Tryz.f148 = some Extern.BytealgIndex.index := by kernel_rfl
  rw [run_callFunc_extern (fn := Tryz.f148) (by kernel_rfl) (by kernel_rfl) rfl (by kernel_rfl) he]
  have h := Lib.run_indexString (P := Tryz.prog) s b w 0 m (by kernel_rfl) hgl.cell hp.1 hp.2.1 (by have h3 : s.size ≤ 2000000 := hp.2.2; omega)
  rw [show ([Value.string s, Value.string b].toArray) = #[.string s, .string b] from rfl, h]
  rfl
theorem byteAt_get (s : ByteArray) (i : Nat) (h : i < s.size) : byteAt s i = (s[i].toNat : Int) := by
  rw [byteAt_bl]
  have h' : i < (bl s).length := h
  have : (bl s).getD i 0 = s[i] := by
    simp [h']
    rfl
  rw [this]
  rfl
theorem toList_bl (s : ByteArray) : s.toList = bl s := ByteArray.toList_eq s
theorem beq_of_eq {s t : ByteArray} (h : s = t) : (s.toList == t.toList) = true := by rw [h]; simp
theorem beq_of_ne {s t : ByteArray} (h : ¬ s = t) : (s.toList == t.toList) = false := by
  rw [toList_bl, toList_bl]
  simpa using fun e => h (bl_inj e)
def c147 : Ct := ctR (lc AStr (lc AU8 l0)) (fun p => True) (fun p => .t (.v (.int .i64 (Lib.indexByte (bl p.1) (UInt8.ofNat p.2.1.toNat)))))
theorem c147_eq {args : List AV} {K : AV → Prop} : c147 args K = K0 (fun p => True) (fun p => .t (.v (.int .i64 (Lib.indexByte (bl p.1) (UInt8.ofNat p.2.1.toNat))))) K ((lc AStr (lc AU8 l0)).dec args) := rfl
theorem good147 {G : Gt} (hG : GOk Tryz.prog G ∧ GDet G) (h156 : G.e 156 = roEnt 3 c156) : Good Tryz.prog G.m 147 (roEnt 0 c147) := by
  refine good_run (dp := fun _ => true) (fn := Tryz.f147) (n := 2) (fun _ => rfl) (by kernel_rfl) rfl (by kernel_rfl) hmix hG (Nat.le_of_ble_eq_true rfl) (by kernel_rfl) (by decide) (fun _ _ => .v _) ?_
  have k156 : (G.e 156).kd = 3 := by rw [h156]; rfl
  have m156 : (G.e 156).ro = c156 := by rw [h156]; rfl
  rintro ⟨s, c, ⟨⟩⟩ hpre
  simp only [Tryz.f147, go_sem, k156, m156, c156_eq, Nat.reduceAdd, Nat.reduceMul, Nat.reduceLeDiff, Nat.reduceEqDiff, reduceCtorEq, Nat.reduceSub, Int.reduceNeg, Nat.reduceMod, Nat.reduceBEq, Nat.reduceLT] at hpre ⊢

  repeat' (first | with_reducible apply And.intro | intro _ | (refine brB_split (fun hb => ?_) (fun hb => ?_) <;> simp only [hb, go_sem, k156, m156, c156_eq, Nat.reduceAdd, Nat.reduceMul, Nat.reduceLeDiff, Nat.reduceEqDiff, reduceCtorEq, Nat.reduceSub, Int.reduceNeg, Nat.reduceMod, Nat.reduceBEq, Nat.reduceLT] <;> try simp only [bOf_t, bOf_f, decide_eq_true_eq, decide_eq_false_iff_not, Bool.not_eq_true', Bool.not_eq_false', Bool.not_eq_true, Bool.not_eq_false, Decidable.not_not] at hb) | (refine aPickB_split (fun hb => ?_) (fun hb => ?_) <;> simp only [hb, go_sem, k156, m156, c156_eq, Nat.reduceAdd, Nat.reduceMul, Nat.reduceLeDiff, Nat.reduceEqDiff, reduceCtorEq, Nat.reduceSub, Int.reduceNeg, Nat.reduceMod, Nat.reduceBEq, Nat.reduceLT] <;> try simp only [bOf_t, bOf_f, decide_eq_true_eq, decide_eq_false_iff_not, Bool.not_eq_true', Bool.not_eq_false', Bool.not_eq_true, Bool.not_eq_false, Decidable.not_not] at hb) | (refine gB_split (fun hb => ?_) (fun hb => ?_) <;> simp only [hb, go_sem, k156, m156, c156_eq, Nat.reduceAdd, Nat.reduceMul, Nat.reduceLeDiff, Nat.reduceEqDiff, reduceCtorEq, Nat.reduceSub, Int.reduceNeg, Nat.reduceMod, Nat.reduceBEq, Nat.reduceLT] <;> try simp only [bOf_t, bOf_f, decide_eq_true_eq, decide_eq_false_iff_not, Bool.not_eq_true', Bool.not_eq_false', Bool.not_eq_true, Bool.not_eq_false, Decidable.not_not] at hb))
  all_goals first | rfl | trace_state

def c149 : Ct := ctR (lc AInt l0) (fun p => 0 ≤ p.1 ∧ p.1 ≤ 1000000000000) (fun p => .t (.v (.int .i64 ((p.1 + 16) / 8))))
theorem c149_eq {args : List AV} {K : AV → Prop} : c149 args K = K0 (fun p => 0 ≤ p.1 ∧ p.1 ≤ 1000000000000) (fun p => .t (.v (.int .i64 ((p.1 + 16) / 8)))) K ((lc AInt l0).dec args) := rfl
theorem good149 {G : Gt} (hG : GOk Tryz.prog G ∧ GDet G) : Good Tryz.prog G.m 149 (roEnt 0 c149) := by
  refine good_run (dp := fun _ => true) (fn := Tryz.f149) (n := 1) (fun _ => rfl) (by kernel_rfl) rfl (by kernel_rfl) hmix hG (Nat.le_of_ble_eq_true rfl) (by kernel_rfl) (by decide) (fun _ _ => .v _) ?_
  rintro ⟨n, ⟨⟩⟩ hpre
  simp only [Tryz.f149, go_sem, Nat.reduceAdd, Nat.reduceMul, Nat.reduceLeDiff, Nat.reduceEqDiff, reduceCtorEq, Nat.reduceSub, Int.reduceNeg, Nat.reduceMod, Nat.reduceBEq, Nat.reduceLT] at hpre ⊢

  repeat' (first | with_reducible apply And.intro | intro _ | (refine brB_split (fun hb => ?_) (fun hb => ?_) <;> simp only [hb, go_sem, Nat.reduceAdd, Nat.reduceMul, Nat.reduceLeDiff, Nat.reduceEqDiff, reduceCtorEq, Nat.reduceSub, Int.reduceNeg, Nat.reduceMod, Nat.reduceBEq, Nat.reduceLT] <;> try simp only [bOf_t, bOf_f, decide_eq_true_eq, decide_eq_false_iff_not, Bool.not_eq_true', Bool.not_eq_false', Bool.not_eq_true, Bool.not_eq_false, Decidable.not_not] at hb) | (refine aPickB_split (fun hb => ?_) (fun hb => ?_) <;> simp only [hb, go_sem, Nat.reduceAdd, Nat.reduceMul, Nat.reduceLeDiff, Nat.reduceEqDiff, reduceCtorEq, Nat.reduceSub, Int.reduceNeg, Nat.reduceMod, Nat.reduceBEq, Nat.reduceLT] <;> try simp only [bOf_t, bOf_f, decide_eq_true_eq, decide_eq_false_iff_not, Bool.not_eq_true', Bool.not_eq_false', Bool.not_eq_true, Bool.not_eq_false, Decidable.not_not] at hb) | (refine gB_split (fun hb => ?_) (fun hb => ?_) <;> simp only [hb, go_sem, Nat.reduceAdd, Nat.reduceMul, Nat.reduceLeDiff, Nat.reduceEqDiff, reduceCtorEq, Nat.reduceSub, Int.reduceNeg, Nat.reduceMod, Nat.reduceBEq, Nat.reduceLT] <;> try simp only [bOf_t, bOf_f, decide_eq_true_eq, decide_eq_false_iff_not, Bool.not_eq_true', Bool.not_eq_false', Bool.not_eq_true, Bool.not_eq_false, Decidable.not_not] at hb))
  all_goals first | rfl | omega | trace_state


open Go.Lib in
theorem hash_next (s : ByteArray) (k : Nat) (hk : k < s.size) {h : Int} (hh : h = RK.H ((bl s).take k) % 4294967296) : (h * 16777619 % 4294967296 + byteAt s k) % 4294967296 = RK.H ((bl s).take (k + 1)) % 4294967296 := by
  have := Go.Proofs.hash_step s k hk hh
  rw [byteAt_get s k hk]
  have h2 : (s[k].toNat : Int) % 4294967296 = s[k].toNat := by
    have := s[k].toNat_lt
    omega
  rw [h2] at this
  exact this
theorem u32_lt (x : Int) : 0 ≤ x % 4294967296 ∧ x % 4294967296 < 4294967296 := by omega
def hsR (s : ByteArray) : AV := .tup [.t (.v (.int .u32 (Lib.RK.H (bl s) % 4294967296))), .t (.v (.int .u32 (16777619 ^ s.size % 4294967296)))]
def c157 : Ct := ctR (lc AStr l0) (fun p => p.1.size ≤ 2000000) (fun p => hsR p.1)
theorem c157_eq {args : List AV} {K : AV → Prop} : c157 args K = K0 (fun p => p.1.size ≤ 2000000) (fun p => hsR p.1) K ((lc AStr l0).dec args) := rfl
theorem good157 {G : Gt} (hG : GOk Tryz.prog G ∧ GDet G) : Good Tryz.prog G.m 157 (roEnt 0 c157) := by
  refine good_run (dp := fun _ => true) (fn := Tryz.f157) (n := 1) (fun _ => rfl) (by kernel_rfl) rfl (by kernel_rfl) hmix hG (Nat.le_of_ble_eq_true rfl) (by kernel_rfl) (by decide) (fun _ p => .tup _ (by intro c hc; simp only [List.mem_cons, List.not_mem_nil, or_false] at hc; rcases hc with rfl | rfl <;> exact .v _)) ?_
  rintro ⟨s, ⟨⟩⟩ hpre
  simp only [Tryz.f157, go_sem, hsR, Nat.reduceAdd, Nat.reduceMul, Nat.reduceLeDiff, Nat.reduceEqDiff, reduceCtorEq, Nat.reduceSub, Int.reduceNeg, Nat.reduceMod, Nat.reduceBEq, Nat.reduceLT] at hpre ⊢

  refine run_loop [] (ι := {i : Nat // i ≤ s.size}) (fun p => ⟨[(0, .t (.v (.string s))), (4, .t (.v (.int .u32 (Lib.RK.H ((bl s).take p.1) % 4294967296)))), (5, .t (.v (.int .i64 p.1)))], []⟩) (fun p => s.size - p.1) ⟨0, by omega⟩ rfl ?_ ?_
  · simp only [go_sem, hsR, Nat.reduceAdd, Nat.reduceMul, Nat.reduceLeDiff, Nat.reduceEqDiff, reduceCtorEq, Nat.reduceSub, Int.reduceNeg, Nat.reduceMod, Nat.reduceBEq, Nat.reduceLT]
    simp [Lib.RK.H_nil]
  · rintro ⟨i, hi⟩
    simp only [go_sem, hsR, Nat.reduceAdd, Nat.reduceMul, Nat.reduceLeDiff, Nat.reduceEqDiff, reduceCtorEq, Nat.reduceSub, Int.reduceNeg, Nat.reduceMod, Nat.reduceBEq, Nat.reduceLT]
    repeat' (first | with_reducible apply And.intro | intro _ | (refine brB_split (fun hb => ?_) (fun hb => ?_) <;> simp only [hb, go_sem, hsR, Nat.reduceAdd, Nat.reduceMul, Nat.reduceLeDiff, Nat.reduceEqDiff, reduceCtorEq, Nat.reduceSub, Int.reduceNeg, Nat.reduceMod, Nat.reduceBEq, Nat.reduceLT] <;> try simp only [bOf_t, bOf_f, decide_eq_true_eq, decide_eq_false_iff_not, Bool.not_eq_true', Bool.not_eq_false', Bool.not_eq_true, Bool.not_eq_false, Decidable.not_not] at hb) | (refine aPickB_split (fun hb => ?_) (fun hb => ?_) <;> simp only [hb, go_sem, hsR, Nat.reduceAdd, Nat.reduceMul, Nat.reduceLeDiff, Nat.reduceEqDiff, reduceCtorEq, Nat.reduceSub, Int.reduceNeg, Nat.reduceMod, Nat.reduceBEq, Nat.reduceLT] <;> try simp only [bOf_t, bOf_f, decide_eq_true_eq, decide_eq_false_iff_not, Bool.not_eq_true', Bool.not_eq_false', Bool.not_eq_true, Bool.not_eq_false, Decidable.not_not] at hb) | (refine gB_split (fun hb => ?_) (fun hb => ?_) <;> simp only [hb, go_sem, hsR, Nat.reduceAdd, Nat.reduceMul, Nat.reduceLeDiff, Nat.reduceEqDiff, reduceCtorEq, Nat.reduceSub, Int.reduceNeg, Nat.reduceMod, Nat.reduceBEq, Nat.reduceLT] <;> try simp only [bOf_t, bOf_f, decide_eq_true_eq, decide_eq_false_iff_not, Bool.not_eq_true', Bool.not_eq_false', Bool.not_eq_true, Bool.not_eq_false, Decidable.not_not] at hb))
    all_goals (try simp only [maxLen, Int.toNat_natCast] at *)
    all_goals (try have hbr := byteAt_range s i)
    all_goals first | rfl | omega | skip
    · refine ⟨⟨i + 1, by omega⟩, by dsimp only; omega, ?_⟩
      rw [hash_next s i (by omega) rfl]
      simp only [go_sem, hsR, Nat.reduceAdd, Nat.reduceMul, Nat.reduceLeDiff, Nat.reduceEqDiff, reduceCtorEq, Nat.reduceSub, Int.reduceNeg, Nat.reduceMod, Nat.reduceBEq, Nat.reduceLT]
      try simp
    · have hii : i = s.size := by omega
      have hle : (bl s).length ≤ i := by rw [bl_len]; omega
      rw [List.take_of_length_le hle]
      refine run_loop [] (ι := {p : Nat × Int × Int // p.1 ≤ 2000000 ∧ Lib.RK.PowInv s.size p.1 p.2.1 p.2.2 ∧ 0 ≤ p.2.1 ∧ p.2.1 < 4294967296}) (fun p => ⟨[(4, .t (.v (.int .u32 (Lib.RK.H (bl s) % 4294967296)))), (6, .t (.v (.int .u32 p.1.2.1))), (7, .t (.v (.int .u32 p.1.2.2))), (8, .t (.v (.int .i64 p.1.1)))], []⟩) (fun p => p.1.1) ⟨(s.size, 1, 16777619), by simpa using hpre, Lib.RK.pow_start _, by simp, by simp⟩ rfl ?_ ?_
      · simp only [go_sem, hsR, Nat.reduceAdd, Nat.reduceMul, Nat.reduceLeDiff, Nat.reduceEqDiff, reduceCtorEq, Nat.reduceSub, Int.reduceNeg, Nat.reduceMod, Nat.reduceBEq, Nat.reduceLT]
        try simp
      · rintro ⟨⟨k, pw, sq⟩, hk, hpi, h0, h1⟩
        have hand := Go.Proofs.and_one k (by simp only at hk; omega)
        simp only at hk h0 h1 hpi
        have hpw : ((k : Int) / 2 ^ (1 : Int).toNat) = ((k / 2 : Nat) : Int) := by simp
        simp only [go_sem, hsR, Nat.reduceAdd, Nat.reduceMul, Nat.reduceLeDiff, Nat.reduceEqDiff, reduceCtorEq, Nat.reduceSub, Int.reduceNeg, Nat.reduceMod, Nat.reduceBEq, Nat.reduceLT]
        repeat' (first | with_reducible apply And.intro | intro _ | (refine brB_split (fun hb => ?_) (fun hb => ?_) <;> simp only [hb, go_sem, hsR, Nat.reduceAdd, Nat.reduceMul, Nat.reduceLeDiff, Nat.reduceEqDiff, reduceCtorEq, Nat.reduceSub, Int.reduceNeg, Nat.reduceMod, Nat.reduceBEq, Nat.reduceLT] <;> try simp only [bOf_t, bOf_f, decide_eq_true_eq, decide_eq_false_iff_not, Bool.not_eq_true', Bool.not_eq_false', Bool.not_eq_true, Bool.not_eq_false, Decidable.not_not] at hb) | (refine aPickB_split (fun hb => ?_) (fun hb => ?_) <;> simp only [hb, go_sem, hsR, Nat.reduceAdd, Nat.reduceMul, Nat.reduceLeDiff, Nat.reduceEqDiff, reduceCtorEq, Nat.reduceSub, Int.reduceNeg, Nat.reduceMod, Nat.reduceBEq, Nat.reduceLT] <;> try simp only [bOf_t, bOf_f, decide_eq_true_eq, decide_eq_false_iff_not, Bool.not_eq_true', Bool.not_eq_false', Bool.not_eq_true, Bool.not_eq_false, Decidable.not_not] at hb) | (refine gB_split (fun hb => ?_) (fun hb => ?_) <;> simp only [hb, go_sem, hsR, Nat.reduceAdd, Nat.reduceMul, Nat.reduceLeDiff, Nat.reduceEqDiff, reduceCtorEq, Nat.reduceSub, Int.reduceNeg, Nat.reduceMod, Nat.reduceBEq, Nat.reduceLT] <;> try simp only [bOf_t, bOf_f, decide_eq_true_eq, decide_eq_false_iff_not, Bool.not_eq_true', Bool.not_eq_false', Bool.not_eq_true, Bool.not_eq_false, Decidable.not_not] at hb))
        all_goals (try simp only [maxLen, Int.toNat_natCast] at *)
        all_goals first | rfl | omega | skip
        · have h2 : k % 2 = 1 := by rw [hand] at hb; omega
          have := u32_lt (pw * sq)
          refine ⟨⟨(k / 2, pw * sq % 4294967296, sq * sq % 4294967296), by simp only []; omega, Lib.RK.pow_odd hpi h2, this.1, this.2⟩, by simp only []; omega, ?_⟩
          rw [hpw]
          simp only [go_sem, hsR, Nat.reduceAdd, Nat.reduceMul, Nat.reduceLeDiff, Nat.reduceEqDiff, reduceCtorEq, Nat.reduceSub, Int.reduceNeg, Nat.reduceMod, Nat.reduceBEq, Nat.reduceLT]
          try simp
        · have h2 : k % 2 = 0 := by rw [hand] at hb; omega
          refine ⟨⟨(k / 2, pw, sq * sq % 4294967296), by simp only []; omega, Lib.RK.pow_even hpi h2, h0, h1⟩, by simp only []; omega, ?_⟩
          rw [hpw]
          simp only [go_sem, hsR, Nat.reduceAdd, Nat.reduceMul, Nat.reduceLeDiff, Nat.reduceEqDiff, reduceCtorEq, Nat.reduceSub, Int.reduceNeg, Nat.reduceMod, Nat.reduceBEq, Nat.reduceLT]
          try simp
        · have h2 : k = 0 := by omega
          subst h2
          rw [← Lib.RK.pow_end hpi h0 h1]


open Go.Lib in
theorem roll_next (s : ByteArray) (n i : Nat) (hn : 1 ≤ n) (hni : n ≤ i) (hi : i < s.size) {h pw : Int} (hh : h = RK.H (RK.win (bl s) (i - n) n) % 4294967296) (hp : pw = 16777619 ^ n % 4294967296) :
    ((h * 16777619 % 4294967296 + byteAt s i) % 4294967296 - pw * byteAt s (i - n) % 4294967296) % 4294967296 = RK.H (RK.win (bl s) (i + 1 - n) n) % 4294967296 := by
  have := Go.Proofs.roll_step s n i hn hni hi hh hp
  rw [byteAt_get s i hi, byteAt_get s (i - n) (by omega)]
  have h2 : (s[i - n].toNat : Int) % 4294967296 = s[i - n].toNat := by
    have := s[i - n].toNat_lt
    omega
  rw [h2] at this
  rw [← show RK.H (RK.win s.data.toList (i + 1 - n) n) % 4294967296 = RK.H (RK.win (bl s) (i + 1 - n) n) % 4294967296 from rfl, ← this]
  generalize pw * (s[i - n].toNat : Int) = X
  omega
def c150 : Ct := ctR (lc AStr (lc AStr l0)) (fun p => 1 ≤ p.2.1.size ∧ p.2.1.size ≤ p.1.size ∧ p.1.size ≤ 2000000) (fun p => .t (.v (.int .i64 (Lib.indexB p.1 p.2.1))))
theorem c150_eq {args : List AV} {K : AV → Prop} : c150 args K = K0 (fun p => 1 ≤ p.2.1.size ∧ p.2.1.size ≤ p.1.size ∧ p.1.size ≤ 2000000) (fun p => .t (.v (.int .i64 (Lib.indexB p.1 p.2.1)))) K ((lc AStr (lc AStr l0)).dec args) := rfl
theorem good150 {G : Gt} (hG : GOk Tryz.prog G ∧ GDet G) (h157 : G.e 157 = roEnt 0 c157) : Good Tryz.prog G.m 150 (roEnt 0 c150) := by
  refine good_run (dp := fun _ => true) (fn := Tryz.f150) (n := 2) (fun _ => rfl) (by kernel_rfl) rfl (by kernel_rfl) hmix hG (Nat.le_of_ble_eq_true rfl) (by kernel_rfl) (by decide) (fun _ _ => .v _) ?_
  have k157 : (G.e 157).kd = 0 := by rw [h157]; rfl
  have m157 : (G.e 157).ro = c157 := by rw [h157]; rfl
  rintro ⟨s, sep, ⟨⟩⟩ hpre
  simp only [Tryz.f150, go_sem, k157, m157, c157_eq, hsR, Nat.reduceAdd, Nat.reduceMul, Nat.reduceLeDiff, Nat.reduceEqDiff, reduceCtorEq, Nat.reduceSub, Int.reduceNeg, Nat.reduceMod, Nat.reduceBEq, Nat.reduceLT] at hpre ⊢

  repeat' (first | with_reducible apply And.intro | intro _ | (refine brB_split (fun hb => ?_) (fun hb => ?_) <;> simp only [hb, go_sem, k157, m157, c157_eq, hsR, Nat.reduceAdd, Nat.reduceMul, Nat.reduceLeDiff, Nat.reduceEqDiff, reduceCtorEq, Nat.reduceSub, Int.reduceNeg, Nat.reduceMod, Nat.reduceBEq, Nat.reduceLT] <;> try simp only [bOf_t, bOf_f, decide_eq_true_eq, decide_eq_false_iff_not, Bool.not_eq_true', Bool.not_eq_false', Bool.not_eq_true, Bool.not_eq_false, Decidable.not_not] at hb) | (refine aPickB_split (fun hb => ?_) (fun hb => ?_) <;> simp only [hb, go_sem, k157, m157, c157_eq, hsR, Nat.reduceAdd, Nat.reduceMul, Nat.reduceLeDiff, Nat.reduceEqDiff, reduceCtorEq, Nat.reduceSub, Int.reduceNeg, Nat.reduceMod, Nat.reduceBEq, Nat.reduceLT] <;> try simp only [bOf_t, bOf_f, decide_eq_true_eq, decide_eq_false_iff_not, Bool.not_eq_true', Bool.not_eq_false', Bool.not_eq_true, Bool.not_eq_false, Decidable.not_not] at hb) | (refine gB_split (fun hb => ?_) (fun hb => ?_) <;> simp only [hb, go_sem, k157, m157, c157_eq, hsR, Nat.reduceAdd, Nat.reduceMul, Nat.reduceLeDiff, Nat.reduceEqDiff, reduceCtorEq, Nat.reduceSub, Int.reduceNeg, Nat.reduceMod, Nat.reduceBEq, Nat.reduceLT] <;> try simp only [bOf_t, bOf_f, decide_eq_true_eq, decide_eq_false_iff_not, Bool.not_eq_true', Bool.not_eq_false', Bool.not_eq_true, Bool.not_eq_false, Decidable.not_not] at hb))
  all_goals first | rfl | omega | skip
  refine run_loop [] (ι := {i : Nat // i ≤ sep.size}) (fun p => ⟨[(0, .t (.v (.string s))), (1, .t (.v (.string sep))), (5, .t (.v (.int .u32 (Lib.RK.H (bl sep) % 4294967296)))), (6, .t (.v (.int .u32 (16777619 ^ sep.size % 4294967296)))), (7, .t (.v (.int .i64 sep.size))), (8, .t (.v (.int .u32 (Lib.RK.H ((bl s).take p.1) % 4294967296)))), (9, .t (.v (.int .i64 p.1)))], []⟩) (fun p => sep.size - p.1) ⟨0, by omega⟩ rfl ?_ ?_
  · simp only [go_sem, k157, m157, c157_eq, hsR, Nat.reduceAdd, Nat.reduceMul, Nat.reduceLeDiff, Nat.reduceEqDiff, reduceCtorEq, Nat.reduceSub, Int.reduceNeg, Nat.reduceMod, Nat.reduceBEq, Nat.reduceLT]
    simp [Lib.RK.H_nil]
  · rintro ⟨i, hi⟩
    simp only [go_sem, k157, m157, c157_eq, hsR, Nat.reduceAdd, Nat.reduceMul, Nat.reduceLeDiff, Nat.reduceEqDiff, reduceCtorEq, Nat.reduceSub, Int.reduceNeg, Nat.reduceMod, Nat.reduceBEq, Nat.reduceLT]
    repeat' (first | with_reducible apply And.intro | intro _ | (refine brB_split (fun hb => ?_) (fun hb => ?_) <;> simp only [hb, go_sem, k157, m157, c157_eq, hsR, Nat.reduceAdd, Nat.reduceMul, Nat.reduceLeDiff, Nat.reduceEqDiff, reduceCtorEq, Nat.reduceSub, Int.reduceNeg, Nat.reduceMod, Nat.reduceBEq, Nat.reduceLT] <;> try simp only [bOf_t, bOf_f, decide_eq_true_eq, decide_eq_false_iff_not, Bool.not_eq_true', Bool.not_eq_false', Bool.not_eq_true, Bool.not_eq_false, Decidable.not_not] at hb) | (refine aPickB_split (fun hb => ?_) (fun hb => ?_) <;> simp only [hb, go_sem, k157, m157, c157_eq, hsR, Nat.reduceAdd, Nat.reduceMul, Nat.reduceLeDiff, Nat.reduceEqDiff, reduceCtorEq, Nat.reduceSub, Int.reduceNeg, Nat.reduceMod, Nat.reduceBEq, Nat.reduceLT] <;> try simp only [bOf_t, bOf_f, decide_eq_true_eq, decide_eq_false_iff_not, Bool.not_eq_true', Bool.not_eq_false', Bool.not_eq_true, Bool.not_eq_false, Decidable.not_not] at hb) | (refine gB_split (fun hb => ?_) (fun hb => ?_) <;> simp only [hb, go_sem, k157, m157, c157_eq, hsR, Nat.reduceAdd, Nat.reduceMul, Nat.reduceLeDiff, Nat.reduceEqDiff, reduceCtorEq, Nat.reduceSub, Int.reduceNeg, Nat.reduceMod, Nat.reduceBEq, Nat.reduceLT] <;> try simp only [bOf_t, bOf_f, decide_eq_true_eq, decide_eq_false_iff_not, Bool.not_eq_true', Bool.not_eq_false', Bool.not_eq_true, Bool.not_eq_false, Decidable.not_not] at hb))
    all_goals (try simp only [maxLen, Int.toNat_natCast] at *)
    all_goals (try have hbr := byteAt_range s i)
    all_goals first | rfl | omega | skip
    · refine ⟨⟨i + 1, by omega⟩, by dsimp only; omega, ?_⟩
      rw [hash_next s i (by omega) rfl]
      simp only [go_sem, k157, m157, c157_eq, hsR, Nat.reduceAdd, Nat.reduceMul, Nat.reduceLeDiff, Nat.reduceEqDiff, reduceCtorEq, Nat.reduceSub, Int.reduceNeg, Nat.reduceMod, Nat.reduceBEq, Nat.reduceLT]
      try simp
    · rw [Lib.hit s sep 0 (fun j hj => absurd hj (Nat.not_lt_zero _)) (by omega) (beq_of_eq (by rw [Nat.zero_add]; exact hb))]
      rfl
    all_goals
      have hii : i = sep.size := by omega
      have hb0 := hb
      subst hii
      have hno : Lib.NoOccB s sep (sep.size - sep.size + 1) := by
        rw [Nat.sub_self]
        refine Lib.NoOcc.succ (fun j hj => absurd hj (Nat.not_lt_zero _)) ?_
        first
          | exact Go.Proofs.occ_no s sep 0 (by omega) (by rw [Nat.zero_add]; exact beq_of_ne hb0)
          | exact Go.Proofs.occ_no_hash s sep 0 (by omega) rfl rfl hb0
      refine run_loop [] (ι := {k : Nat // sep.size ≤ k ∧ k ≤ s.size ∧ Lib.NoOccB s sep (k - sep.size + 1)}) (fun p => ⟨[(0, .t (.v (.string s))), (1, .t (.v (.string sep))), (5, .t (.v (.int .u32 (Lib.RK.H (bl sep) % 4294967296)))), (6, .t (.v (.int .u32 (16777619 ^ sep.size % 4294967296)))), (7, .t (.v (.int .i64 sep.size))), (8, .t (.v (.int .u32 (Lib.RK.H (Lib.RK.win (bl s) (p.1 - sep.size) sep.size) % 4294967296)))), (10, .t (.v (.int .i64 p.1)))], []⟩) (fun p => s.size - p.1) ⟨sep.size, by omega, by omega, hno⟩ rfl ?_ ?_
      · simp only [go_sem, k157, m157, c157_eq, hsR, Nat.reduceAdd, Nat.reduceMul, Nat.reduceLeDiff, Nat.reduceEqDiff, reduceCtorEq, Nat.reduceSub, Int.reduceNeg, Nat.reduceMod, Nat.reduceBEq, Nat.reduceLT]
        try simp [Lib.RK.win_zero]
      · rintro ⟨k, hk1, hk2, hk3⟩
        have hrn := fun h => roll_next s sep.size k (by omega) hk1 h rfl rfl
        have eks : ((k : Int) - sep.size).toNat = k - sep.size := by omega
        have eks1 : ((k : Int) + 1 - sep.size).toNat = k + 1 - sep.size := by omega
        have ek1 : ((k : Int) + 1).toNat = k + 1 := by omega
        simp only [go_sem, k157, m157, c157_eq, hsR, Nat.reduceAdd, Nat.reduceMul, Nat.reduceLeDiff, Nat.reduceEqDiff, reduceCtorEq, Nat.reduceSub, Int.reduceNeg, Nat.reduceMod, Nat.reduceBEq, Nat.reduceLT]
        repeat' (first | with_reducible apply And.intro | intro _ | (refine brB_split (fun hb => ?_) (fun hb => ?_) <;> simp only [hb, go_sem, k157, m157, c157_eq, hsR, Nat.reduceAdd, Nat.reduceMul, Nat.reduceLeDiff, Nat.reduceEqDiff, reduceCtorEq, Nat.reduceSub, Int.reduceNeg, Nat.reduceMod, Nat.reduceBEq, Nat.reduceLT] <;> try simp only [bOf_t, bOf_f, decide_eq_true_eq, decide_eq_false_iff_not, Bool.not_eq_true', Bool.not_eq_false', Bool.not_eq_true, Bool.not_eq_false, Decidable.not_not] at hb) | (refine aPickB_split (fun hb => ?_) (fun hb => ?_) <;> simp only [hb, go_sem, k157, m157, c157_eq, hsR, Nat.reduceAdd, Nat.reduceMul, Nat.reduceLeDiff, Nat.reduceEqDiff, reduceCtorEq, Nat.reduceSub, Int.reduceNeg, Nat.reduceMod, Nat.reduceBEq, Nat.reduceLT] <;> try simp only [bOf_t, bOf_f, decide_eq_true_eq, decide_eq_false_iff_not, Bool.not_eq_true', Bool.not_eq_false', Bool.not_eq_true, Bool.not_eq_false, Decidable.not_not] at hb) | (refine gB_split (fun hb => ?_) (fun hb => ?_) <;> simp only [hb, go_sem, k157, m157, c157_eq, hsR, Nat.reduceAdd, Nat.reduceMul, Nat.reduceLeDiff, Nat.reduceEqDiff, reduceCtorEq, Nat.reduceSub, Int.reduceNeg, Nat.reduceMod, Nat.reduceBEq, Nat.reduceLT] <;> try simp only [bOf_t, bOf_f, decide_eq_true_eq, decide_eq_false_iff_not, Bool.not_eq_true', Bool.not_eq_false', Bool.not_eq_true, Bool.not_eq_false, Decidable.not_not] at hb))
        all_goals (try simp only [maxLen, Int.toNat_natCast] at *)
        all_goals (try have hbr := byteAt_range s k)
        all_goals (try have hbr2 := byteAt_range s (k - sep.size))
        all_goals (try simp only [eks, eks1, ek1] at *)
        all_goals first | rfl | omega | skip
        all_goals (try have hkk := hrn (by omega))
        all_goals have e1 : k - sep.size + 1 = k + 1 - sep.size := by omega
        all_goals rw [e1] at hk3
        · have e2 : k + 1 - sep.size + sep.size = k + 1 := by omega
          rw [Lib.hit s sep (k + 1 - sep.size) hk3 (by omega) (beq_of_eq (by rw [e2]; exact hb))]
          have e3 : ((k + 1 - sep.size : Nat) : Int) = (k : Int) + 1 - sep.size := by omega
          rw [e3]
        · have e2 : k + 1 - sep.size + sep.size = k + 1 := by omega
          have hocc := Go.Proofs.occ_no s sep (k + 1 - sep.size) (by omega) (by rw [e2]; exact beq_of_ne hb)
          refine ⟨⟨k + 1, by omega, by omega, Lib.NoOcc.succ hk3 hocc⟩, by dsimp only; omega, ?_⟩
          rw [hkk]
          simp only [go_sem, k157, m157, c157_eq, hsR, Nat.reduceAdd, Nat.reduceMul, Nat.reduceLeDiff, Nat.reduceEqDiff, reduceCtorEq, Nat.reduceSub, Int.reduceNeg, Nat.reduceMod, Nat.reduceBEq, Nat.reduceLT]
          try simp
        · rw [hkk] at hb
          have hocc := Go.Proofs.occ_no_hash s sep (k + 1 - sep.size) (by omega) rfl rfl hb
          refine ⟨⟨k + 1, by omega, by omega, Lib.NoOcc.succ hk3 hocc⟩, by dsimp only; omega, ?_⟩
          rw [hkk]
          simp only [go_sem, k157, m157, c157_eq, hsR, Nat.reduceAdd, Nat.reduceMul, Nat.reduceLeDiff, Nat.reduceEqDiff, reduceCtorEq, Nat.reduceSub, Int.reduceNeg, Nat.reduceMod, Nat.reduceBEq, Nat.reduceLT]
          try simp
        · rw [Lib.past s sep (k + 1 - sep.size) hk3 (by omega) (by omega)]

end Go.V
