/- The row. No condition. -/
import Derived.Test.YtahogphlohnpmaaGreatDoorXB
import Derived.Test.YtahogphlohnpmaaGreatDoorProg
import Derived.KernelRfl
import Derived.Lib.IndexMore
import Derived.Lib.IndexEntry
import Derived.Lib.RabinKarpLaws
import Derived.Lib.Split
import Derived.DeepKeys4
namespace Go.V
open Go Go.Proofs
theorem ty3 : tyOf Tryz.prog 3 = some ⟨.int .i64, 1, 8, [.int .i64 0]⟩ := by kernel_rfl
theorem ty4 : tyOf Tryz.prog 4 = some ⟨.bool, 1, 1, [.bool false]⟩ := by kernel_rfl
theorem ty5 : tyOf Tryz.prog 5 = some ⟨.int .u8, 1, 1, [.int .u8 0]⟩ := by kernel_rfl
theorem ty9 : tyOf Tryz.prog 9 = some ⟨.str, 1, 16, [.string ⟨#[]⟩]⟩ := by kernel_rfl
theorem ty21 : tyOf Tryz.prog 21 = some ⟨.int .i32, 1, 4, [.int .i32 0]⟩ := by kernel_rfl
theorem ty22 : tyOf Tryz.prog 22 = some ⟨.slice 5, 1, 24, [.slice none 0 0]⟩ := by kernel_rfl
theorem ty23 : tyOf Tryz.prog 23 = some ⟨.slice 75, 1, 24, [.slice none 0 0]⟩ := by kernel_rfl
theorem ty25 : tyOf Tryz.prog 25 = some ⟨.struct [(0, 1, false), (1, 1, false)], 2, 32, [.int .i64 0, .slice none 0 0]⟩ := by kernel_rfl
theorem ty27 : tyOf Tryz.prog 27 = some ⟨.struct [(0, 1, false), (1, 1, false)], 2, 32, [.string ⟨#[]⟩, .string ⟨#[]⟩]⟩ := by kernel_rfl
theorem ty28 : tyOf Tryz.prog 28 = some ⟨.slice 27, 1, 24, [.slice none 0 0]⟩ := by kernel_rfl
theorem ty29 : tyOf Tryz.prog 29 = some ⟨.slice 9, 1, 24, [.slice none 0 0]⟩ := by kernel_rfl
theorem ty31 : tyOf Tryz.prog 31 = some ⟨.struct [(0, 2, true), (2, 1, false), (3, 1, false)], 4, 80, [.string ⟨#[]⟩, .string ⟨#[]⟩, .slice none 0 0, .slice none 0 0]⟩ := by kernel_rfl
theorem ty33 : tyOf Tryz.prog 33 = some ⟨.struct [(0, 1, false), (1, 1, false), (2, 2, true), (4, 1, false), (5, 4, true)], 9, 136, [.int .i64 0, .int .i64 0, .string ⟨#[]⟩, .string ⟨#[]⟩, .int .i64 0, .string ⟨#[]⟩, .string ⟨#[]⟩, .slice none 0 0, .slice none 0 0]⟩ := by kernel_rfl
theorem ty43 : tyOf Tryz.prog 43 = some ⟨.slice 59, 1, 24, [.slice none 0 0]⟩ := by kernel_rfl
theorem ty45 : tyOf Tryz.prog 45 = some ⟨.slice 62, 1, 24, [.slice none 0 0]⟩ := by kernel_rfl
theorem ty46 : tyOf Tryz.prog 46 = some ⟨.slice 91, 1, 24, [.slice none 0 0]⟩ := by kernel_rfl
theorem ty48 : tyOf Tryz.prog 48 = some ⟨.struct [(0, 1, false), (1, 1, false), (2, 1, false), (3, 1, false)], 4, 64, [.slice none 0 0, .int .i64 0, .int .i64 0, .slice none 0 0]⟩ := by kernel_rfl
theorem ty54 : tyOf Tryz.prog 54 = some ⟨.slice 3, 1, 24, [.slice none 0 0]⟩ := by kernel_rfl
theorem ty57 : tyOf Tryz.prog 57 = some ⟨.slice 120, 1, 24, [.slice none 0 0]⟩ := by kernel_rfl
theorem ty59 : tyOf Tryz.prog 59 = some ⟨.struct [(0, 1, false), (1, 1, false), (2, 1, false)], 3, 64, [.string ⟨#[]⟩, .slice none 0 0, .slice none 0 0]⟩ := by kernel_rfl
theorem ty60 : tyOf Tryz.prog 60 = some ⟨.slice 98, 1, 24, [.slice none 0 0]⟩ := by kernel_rfl
theorem ty62 : tyOf Tryz.prog 62 = some ⟨.struct [(0, 3, true), (3, 2, true), (5, 1, false), (6, 1, false)], 7, 144, [.string ⟨#[]⟩, .slice none 0 0, .slice none 0 0, .int .i64 0, .slice none 0 0, .slice none 0 0, .slice none 0 0]⟩ := by kernel_rfl
theorem ty73 : tyOf Tryz.prog 73 = some ⟨.slice 104, 1, 24, [.slice none 0 0]⟩ := by kernel_rfl
theorem ty75 : tyOf Tryz.prog 75 = some ⟨.struct [(0, 1, false), (1, 2, true), (3, 1, false), (4, 1, false)], 5, 88, [.int .i64 0, .string ⟨#[]⟩, .string ⟨#[]⟩, .slice none 0 0, .slice none 0 0]⟩ := by kernel_rfl
theorem ty91 : tyOf Tryz.prog 91 = some ⟨.struct [(0, 1, false), (1, 2, true)], 3, 48, [.string ⟨#[]⟩, .string ⟨#[]⟩, .string ⟨#[]⟩]⟩ := by kernel_rfl
theorem ty96 : tyOf Tryz.prog 96 = some ⟨.slice 125, 1, 24, [.slice none 0 0]⟩ := by kernel_rfl
theorem ty98 : tyOf Tryz.prog 98 = some ⟨.struct [(0, 2, true), (2, 1, false)], 3, 56, [.string ⟨#[]⟩, .string ⟨#[]⟩, .slice none 0 0]⟩ := by kernel_rfl
theorem ty101 : tyOf Tryz.prog 101 = some ⟨.struct [(0, 1, false), (1, 1, false)], 2, 32, [.slice none 0 0, .int .i64 0]⟩ := by kernel_rfl
theorem ty104 : tyOf Tryz.prog 104 = some ⟨.struct [(0, 2, true), (2, 1, false), (3, 1, false)], 4, 48, [.string ⟨#[]⟩, .string ⟨#[]⟩, .int .i64 0, .int .i64 0]⟩ := by kernel_rfl
theorem ty120 : tyOf Tryz.prog 120 = some ⟨.struct [(0, 1, false), (1, 1, false)], 2, 32, [.string ⟨#[]⟩, .string ⟨#[]⟩]⟩ := by kernel_rfl
theorem ty125 : tyOf Tryz.prog 125 = some ⟨.struct [(0, 2, true), (2, 1, false)], 3, 56, [.string ⟨#[]⟩, .string ⟨#[]⟩, .slice none 0 0]⟩ := by kernel_rfl
theorem ty129 : tyOf Tryz.prog 129 = some ⟨.map 9 4, 1, 8, [.map none]⟩ := by kernel_rfl
theorem ty146 : tyOf Tryz.prog 146 = some ⟨.map 27 4, 1, 8, [.map none]⟩ := by kernel_rfl
theorem ty166 : tyOf Tryz.prog 166 = some ⟨.slice 194, 1, 24, [.slice none 0 0]⟩ := by kernel_rfl
theorem ty176 : tyOf Tryz.prog 176 = some ⟨.arr 256 4, 256, 256, List.replicate 256 (.bool false)⟩ := by kernel_rfl
theorem ty207 : tyOf Tryz.prog 207 = some ⟨.slice 31, 1, 24, [.slice none 0 0]⟩ := by kernel_rfl
theorem ty220 : tyOf Tryz.prog 220 = some ⟨.int .u64, 1, 8, [.int .u64 0]⟩ := by kernel_rfl
theorem ty237 : tyOf Tryz.prog 237 = some ⟨.int .u32, 1, 4, [.int .u32 0]⟩ := by kernel_rfl
theorem lv27 : lvs Tryz.prog 27 = some [.s, .s] := by kernel_rfl
theorem lv91 : lvs Tryz.prog 91 = some [.s, .s, .s] := by kernel_rfl
theorem lv104 : lvs Tryz.prog 104 = some [.s, .s, .i .i64, .i .i64] := by kernel_rfl
theorem lv120 : lvs Tryz.prog 120 = some [.s, .s] := by kernel_rfl
theorem zb4 : zeroB Tryz.prog 4 = true := by kernel_rfl
theorem hmix : Tryz.prog.follows .mixedOrders = true := by kernel_rfl
instance : Inhabited ByteArray := ⟨⟨#[]⟩⟩
def encInt (a : Int) : List T := [.v (.int .i64 a)]
def decInt : List T → Option Int
  | [.v (.int .i64 x)] => some x
  | _ => none
def EInt : Enc Int where
  enc := encInt
  dec := decInt
  n := 1
  ed := fun _ => rfl
  de := fun c a h => by unfold decInt at h; split at h <;> cases h; rfl
  len := fun _ => rfl
theorem encInt_eq (a : Int) : encInt a = [.v (.int .i64 a)] := rfl
theorem aIdx_int (xs : List Int) (n : Int) (s : AS) (K : Kt) : aIdx 1 (xs.map encInt) n s K = (0 ≤ n ∧ n < xs.length ∧ K (.t (.rop (encInt (xs.getD n.toNat default)))) s) := aIdx_map encInt xs 1 n s K fun _ => rfl
theorem EInt_dec {b : Int} : EInt.dec [.v (.int .i64 b)] = some b := rfl
theorem decInts (xs : List Int) : EInt.decL (xs.map encInt) = some xs := EInt.decL_map xs
theorem decInts0 : EInt.decL [] = some [] := rfl
theorem EInt_enc : EInt.enc = encInt := rfl
theorem EInt_n : EInt.n = 1 := rfl
theorem AllV_Int (xs : List Int) : AllV (xs.map encInt) = True := eq_true (AllV_map encInt (by intro a t ht; simp [encInt] at ht; exact ⟨_, ht⟩) xs)
theorem len_Int (xs : List Int) : (∀ c ∈ xs.map encInt, c.length = 1) = True := eq_true fun c hc => by
  obtain ⟨a, _, rfl⟩ := List.mem_map.1 hc; rfl
theorem set_Int (xs : List Int) (i : Nat) (s : Int) : (xs.map encInt).set i [.v (.int .i64 s)] = (xs.set i s).map encInt := set_map encInt xs i s rfl
theorem encStr_eq (a : ByteArray) : encStr a = [.v (.string a)] := rfl
theorem aIdx_str (xs : List ByteArray) (n : Int) (s : AS) (K : Kt) : aIdx 1 (xs.map encStr) n s K = (0 ≤ n ∧ n < xs.length ∧ K (.t (.rop (encStr (xs.getD n.toNat default)))) s) := aIdx_map encStr xs 1 n s K fun _ => rfl
theorem EStr_dec {b : ByteArray} : EStr.dec [.v (.string b)] = some b := rfl
theorem decStrs (xs : List ByteArray) : EStr.decL (xs.map encStr) = some xs := EStr.decL_map xs
theorem decStrs0 : EStr.decL [] = some [] := rfl
theorem EStr_enc : EStr.enc = encStr := rfl
theorem EStr_n : EStr.n = 1 := rfl
theorem AllV_Str (xs : List ByteArray) : AllV (xs.map encStr) = True := eq_true (AllV_map encStr (by intro a t ht; simp [encStr] at ht; exact ⟨_, ht⟩) xs)
theorem len_Str (xs : List ByteArray) : (∀ c ∈ xs.map encStr, c.length = 1) = True := eq_true fun c hc => by
  obtain ⟨a, _, rfl⟩ := List.mem_map.1 hc; rfl
theorem set_Str (xs : List ByteArray) (i : Nat) (s : ByteArray) : (xs.map encStr).set i [.v (.string s)] = (xs.set i s).map encStr := set_map encStr xs i s rfl
theorem lc_enc {α β : Type} {A : AD α} {L : AL β} {a : α} {b : β} : (lc A L).enc (a, b) = A.enc a :: L.enc b := rfl
theorem l0_enc {a : Unit} : l0.enc a = [] := rfl
theorem asl_enc {α : Type} {E : Enc α} {xs : List α} : E.asl.enc xs = .t (.sl E.n (xs.map E.enc)) := rfl
theorem ag_enc {α : Type} {E : Enc α} {a : α} : E.ag.enc a = .agg ((E.enc a).map .t) := rfl
theorem aow_enc {α : Type} {E : Enc α} {d : Bool} {n : Nat} {xs : List α} : (E.aow d n).enc xs = .o d n (xs.map E.enc) := rfl
theorem ABool_enc {b : Bool} : ABool.enc b = .t (.v (.bool b)) := rfl
theorem AInt_enc {b : Int} : AInt.enc b = .t (.v (.int .i64 b)) := rfl
theorem AU8_enc {b : Int} : AU8.enc b = .t (.v (.int .u8 b)) := rfl
theorem AStr_enc {b : ByteArray} : AStr.enc b = .t (.v (.string b)) := rfl
theorem getD_drop {α : Type} [Inhabited α] {xs : List α} {i : Nat} (h : i < xs.length) : xs.drop i = xs.getD i default :: xs.drop (i + 1) := drop_getD h
theorem ro_kd {k : Nat} {c : Ct} : (roEnt k c).kd = k := rfl
theorem ro_ro {k : Nat} {c : Ct} : (roEnt k c).ro = c := rfl
theorem mu_kd {c : Mt} : (muEnt c).kd = 2 := rfl
theorem mu_mu {c : Mt} : (muEnt c).mu = c := rfl
open Classical in
noncomputable def bOf (p : Prop) : Bool := decide p
theorem bOf_t {p : Prop} : (bOf p = true) = p := by unfold bOf; simp
theorem bOf_f {p : Prop} : (bOf p = false) = ¬ p := by unfold bOf; simp
theorem bOf_y {p : Prop} (h : p) : bOf p = true := by rw [bOf_t]; exact h
theorem bOf_n {p : Prop} (h : ¬ p) : bOf p = false := by rw [bOf_f]; exact h
theorem bOf_d {p : Prop} [Decidable p] : bOf p = decide p := by
  by_cases h : p
  · rw [bOf_y h, decide_eq_true h]
  · rw [bOf_n h, decide_eq_false h]
theorem bOf_not {p : Prop} : (!bOf p) = bOf (¬ p) := by
  by_cases h : p
  · rw [bOf_y h, bOf_n (fun q => q h)]; rfl
  · rw [bOf_n h, bOf_y h]; rfl
theorem bOf_congr {p q : Prop} (h : p ↔ q) : bOf p = bOf q := by rw [propext h]
theorem qa {p : Prop} [Decidable p] : (decide p = true) = p := by simp
theorem qb {p : Prop} [Decidable p] : (decide p = false) = ¬ p := by simp
theorem qc {b : Bool} : ((!b) = true) = (b = false) := by simp
theorem qd {b : Bool} : ((!b) = false) = (b = true) := by simp
theorem qe {b : Bool} : (¬ b = true) = (b = false) := by simp
theorem qf {b : Bool} : (¬ b = false) = (b = true) := by simp
theorem qg {p : Prop} : (¬ ¬ p) = p := by simp
theorem qz : (∀ (p : Prop) [Decidable p], (decide p = true) = p) ∧ (∀ (p : Prop) [Decidable p], (decide p = false) = ¬ p) ∧ (∀ b : Bool, ((!b) = true) = (b = false)) ∧ (∀ b : Bool, ((!b) = false) = (b = true)) ∧ (∀ b : Bool, (¬ b = true) = (b = false)) ∧ (∀ b : Bool, (¬ b = false) = (b = true)) ∧ (∀ p : Prop, (¬ ¬ p) = p) ∧ (∀ p : Prop, (bOf p = true) = p) ∧ (∀ p : Prop, (bOf p = false) = ¬ p) := ⟨fun _ _ => qa, fun _ _ => qb, fun _ => qc, fun _ => qd, fun _ => qe, fun _ => qf, fun _ => qg, fun _ => bOf_t, fun _ => bOf_f⟩
abbrev OkG (G : Gt) : Prop := GOk Tryz.prog G ∧ GDet G
abbrev Gd (G : Gt) (f : FuncId) (e : Ent) : Prop := Good Tryz.prog G.m f e
theorem gR {G : Gt} {dp : Nat → Bool} {f : FuncId} {fn : Func} {c : Code} {α : Type} {L : AL α} {pre : α → Prop} {r : α → AV} {kd n : Nat} (hn : ∀ a, (L.enc a).length = n) (hf : Tryz.prog.funcs[f]? = some fn) (hb : fn.body = some c) (hok : okFn fn c = true) (hG : OkG G)
    (hlen : n ≤ fn.ntmps) (ok : okCallee Tryz.prog f = true) (hk : ¬ kd = 3) (hs : kd = 0 → ∀ a, Solid (r a)) (h : ∀ a, pre a → run Tryz.prog G dp (fin Tryz.prog fn.results.toList (internL 900 0 (L.enc a) ⟨[], []⟩).avs (L.enc a) (r a)) [.c c] (s0 (L.enc a))) : Gd G f (roEnt kd (ctR L pre r)) := good_run hn hf hb hok hmix hG hlen ok hk hs h
theorem gM {G : Gt} {dp : Nat → Bool} {f : FuncId} {fn : Func} {c : Code} {α : Type} {L : AL α} {pre : α → Prop} {r : α → List AV × AV} {n : Nat} (hn : ∀ a, (L.enc a).length = n) (hf : Tryz.prog.funcs[f]? = some fn) (hb : fn.body = some c) (hok : okFn fn c = true) (hG : OkG G)
    (hlen : n ≤ fn.ntmps) (ok : okCallee Tryz.prog f = true) (h : ∀ a, pre a → run Tryz.prog G dp (fin Tryz.prog fn.results.toList (internL 900 0 (L.enc a) ⟨[], []⟩).avs (r a).1 (r a).2) [.c c] (s0 (L.enc a))) : Gd G f (muEnt (ctM L pre r)) := good_runM hn hf hb hok hmix hG hlen ok h
structure Ad where
  user : ByteArray
  domain : ByteArray
  deriving DecidableEq
instance : Inhabited Ad := ⟨⟨default, default⟩⟩
def encAd (a : Ad) : List T := [.v (.string a.user), .v (.string a.domain)]
def decAd : List T → Option Ad
  | [.v (.string x0), .v (.string x1)] => some ⟨x0, x1⟩
  | _ => none
def EAd : Enc Ad where
  enc := encAd
  dec := decAd
  n := 2
  ed := fun _ => rfl
  de := fun c a h => by unfold decAd at h; split at h <;> cases h; rfl
  len := fun _ => rfl
theorem encAd_eq (a : Ad) : encAd a = [.v (.string a.user), .v (.string a.domain)] := rfl
theorem aIdx_Ad (xs : List Ad) (n : Int) (s : AS) (K : Kt) : aIdx 2 (xs.map encAd) n s K = (0 ≤ n ∧ n < xs.length ∧ K (.t (.rop (encAd (xs.getD n.toNat default)))) s) := aIdx_map encAd xs 2 n s K fun _ => rfl
theorem EAd_dec {x0 : ByteArray} {x1 : ByteArray} : EAd.dec [.v (.string x0), .v (.string x1)] = some ⟨x0, x1⟩ := rfl
theorem decAds (xs : List Ad) : EAd.decL (xs.map encAd) = some xs := EAd.decL_map xs
theorem decAds0 : EAd.decL [] = some [] := rfl
theorem EAd_enc : EAd.enc = encAd := rfl
theorem EAd_n : EAd.n = 2 := rfl
theorem len_Ad (xs : List Ad) : (∀ c ∈ xs.map encAd, c.length = 2) = True := eq_true fun c hc => by
  obtain ⟨a, _, rfl⟩ := List.mem_map.1 hc; rfl
theorem AllV_Ad (xs : List Ad) : AllV (xs.map encAd) = True := eq_true (AllV_map encAd (by intro a t ht; simp only [encAd, List.mem_cons, List.not_mem_nil, or_false] at ht; rcases ht with rfl | rfl <;> exact ⟨_, rfl⟩) xs)
theorem Ad_eta (a : Ad) : (⟨a.user, a.domain⟩ : Ad) = a := rfl
theorem Ad_ext {a b : Ad} : a = b ↔ a.user = b.user ∧ a.domain = b.domain := by
  cases a; cases b; simp
theorem set_Ad (xs : List Ad) (i : Nat) (x0 : ByteArray) (x1 : ByteArray) : (xs.map encAd).set i [.v (.string x0), .v (.string x1)] = (xs.set i ⟨x0, x1⟩).map encAd := set_map encAd xs i ⟨x0, x1⟩ rfl
structure Ml where
  frm : Ad
  to : List Ad
  body : List ByteArray
  deriving DecidableEq
instance : Inhabited Ml := ⟨⟨default, default, default⟩⟩
def encMl (a : Ml) : List T := [.v (.string a.frm.user), .v (.string a.frm.domain), .sl 2 (a.to.map encAd), .sl 1 (a.body.map encStr)]
def mkMl (x0 : ByteArray) (x1 : ByteArray) : Option (List Ad) → Option (List ByteArray) → Option Ml
  | some x2, some x3 => some ⟨⟨x0, x1⟩, x2, x3⟩
  | _, _ => none
def decMl : List T → Option Ml
  | [.v (.string x0), .v (.string x1), .sl 2 x2, .sl 1 x3] => mkMl x0 x1 (EAd.decL x2) (EStr.decL x3)
  | _ => none
def EMl : Enc Ml where
  enc := encMl
  dec := decMl
  n := 4
  ed := fun a => by
    show mkMl a.frm.user a.frm.domain (EAd.decL (a.to.map EAd.enc)) (EStr.decL (a.body.map EStr.enc)) = _
    rw [EAd.decL_map, EStr.decL_map]
    rfl
  de := fun c a h => by
    unfold decMl at h
    split at h
    · unfold mkMl at h
      split at h
      · rename_i e0 e1
        cases h
        rw [EAd.decL_inv e0, EStr.decL_inv e1]; rfl
      · cases h
    · cases h
  len := fun _ => rfl
theorem encMl_eq (a : Ml) : encMl a = [.v (.string a.frm.user), .v (.string a.frm.domain), .sl 2 (a.to.map encAd), .sl 1 (a.body.map encStr)] := rfl
theorem aIdx_Ml (xs : List Ml) (n : Int) (s : AS) (K : Kt) : aIdx 4 (xs.map encMl) n s K = (0 ≤ n ∧ n < xs.length ∧ K (.t (.rop (encMl (xs.getD n.toNat default)))) s) := aIdx_map encMl xs 4 n s K fun _ => rfl
theorem EMl_dec {x0 : ByteArray} {x1 : ByteArray} {x2 : List (List T)} {x3 : List (List T)} : EMl.dec [.v (.string x0), .v (.string x1), .sl 2 x2, .sl 1 x3] = mkMl x0 x1 (EAd.decL x2) (EStr.decL x3) := rfl
theorem decMls (xs : List Ml) : EMl.decL (xs.map encMl) = some xs := EMl.decL_map xs
theorem decMls0 : EMl.decL [] = some [] := rfl
theorem EMl_enc : EMl.enc = encMl := rfl
theorem EMl_n : EMl.n = 4 := rfl
theorem len_Ml (xs : List Ml) : (∀ c ∈ xs.map encMl, c.length = 4) = True := eq_true fun c hc => by
  obtain ⟨a, _, rfl⟩ := List.mem_map.1 hc; rfl
theorem Ml_eta (a : Ml) : (⟨a.frm, a.to, a.body⟩ : Ml) = a := rfl
theorem Ml_ext {a b : Ml} : a = b ↔ a.frm = b.frm ∧ a.to = b.to ∧ a.body = b.body := by
  cases a; cases b; simp
theorem set_Ml (xs : List Ml) (i : Nat) (x0 : ByteArray) (x1 : ByteArray) (x2 : List Ad) (x3 : List ByteArray) : (xs.map encMl).set i [.v (.string x0), .v (.string x1), .sl 2 (x2.map encAd), .sl 1 (x3.map encStr)] = (xs.set i ⟨⟨x0, x1⟩, x2, x3⟩).map encMl := set_map encMl xs i ⟨⟨x0, x1⟩, x2, x3⟩ rfl
structure Rc where
  addr : Ad
  tries : Int
  next : Int
  deriving DecidableEq
instance : Inhabited Rc := ⟨⟨default, default, default⟩⟩
def encRc (a : Rc) : List T := [.v (.string a.addr.user), .v (.string a.addr.domain), .v (.int .i64 a.tries), .v (.int .i64 a.next)]
def decRc : List T → Option Rc
  | [.v (.string x0), .v (.string x1), .v (.int .i64 x2), .v (.int .i64 x3)] => some ⟨⟨x0, x1⟩, x2, x3⟩
  | _ => none
def ERc : Enc Rc where
  enc := encRc
  dec := decRc
  n := 4
  ed := fun _ => rfl
  de := fun c a h => by unfold decRc at h; split at h <;> cases h; rfl
  len := fun _ => rfl
theorem encRc_eq (a : Rc) : encRc a = [.v (.string a.addr.user), .v (.string a.addr.domain), .v (.int .i64 a.tries), .v (.int .i64 a.next)] := rfl
theorem aIdx_Rc (xs : List Rc) (n : Int) (s : AS) (K : Kt) : aIdx 4 (xs.map encRc) n s K = (0 ≤ n ∧ n < xs.length ∧ K (.t (.rop (encRc (xs.getD n.toNat default)))) s) := aIdx_map encRc xs 4 n s K fun _ => rfl
theorem ERc_dec {x0 : ByteArray} {x1 : ByteArray} {x2 : Int} {x3 : Int} : ERc.dec [.v (.string x0), .v (.string x1), .v (.int .i64 x2), .v (.int .i64 x3)] = some ⟨⟨x0, x1⟩, x2, x3⟩ := rfl
theorem decRcs (xs : List Rc) : ERc.decL (xs.map encRc) = some xs := ERc.decL_map xs
theorem decRcs0 : ERc.decL [] = some [] := rfl
theorem ERc_enc : ERc.enc = encRc := rfl
theorem ERc_n : ERc.n = 4 := rfl
theorem len_Rc (xs : List Rc) : (∀ c ∈ xs.map encRc, c.length = 4) = True := eq_true fun c hc => by
  obtain ⟨a, _, rfl⟩ := List.mem_map.1 hc; rfl
theorem AllV_Rc (xs : List Rc) : AllV (xs.map encRc) = True := eq_true (AllV_map encRc (by intro a t ht; simp only [encRc, List.mem_cons, List.not_mem_nil, or_false] at ht; rcases ht with rfl | rfl | rfl | rfl <;> exact ⟨_, rfl⟩) xs)
theorem Rc_eta (a : Rc) : (⟨a.addr, a.tries, a.next⟩ : Rc) = a := rfl
theorem Rc_ext {a b : Rc} : a = b ↔ a.addr = b.addr ∧ a.tries = b.tries ∧ a.next = b.next := by
  cases a; cases b; simp
theorem set_Rc (xs : List Rc) (i : Nat) (x0 : ByteArray) (x1 : ByteArray) (x2 : Int) (x3 : Int) : (xs.map encRc).set i [.v (.string x0), .v (.string x1), .v (.int .i64 x2), .v (.int .i64 x3)] = (xs.set i ⟨⟨x0, x1⟩, x2, x3⟩).map encRc := set_map encRc xs i ⟨⟨x0, x1⟩, x2, x3⟩ rfl
structure Im where
  id : Int
  frm : Ad
  to : List Rc
  body : List ByteArray
  deriving DecidableEq
instance : Inhabited Im := ⟨⟨default, default, default, default⟩⟩
def encIm (a : Im) : List T := [.v (.int .i64 a.id), .v (.string a.frm.user), .v (.string a.frm.domain), .sl 4 (a.to.map encRc), .sl 1 (a.body.map encStr)]
def mkIm (x0 : Int) (x1 : ByteArray) (x2 : ByteArray) : Option (List Rc) → Option (List ByteArray) → Option Im
  | some x3, some x4 => some ⟨x0, ⟨x1, x2⟩, x3, x4⟩
  | _, _ => none
def decIm : List T → Option Im
  | [.v (.int .i64 x0), .v (.string x1), .v (.string x2), .sl 4 x3, .sl 1 x4] => mkIm x0 x1 x2 (ERc.decL x3) (EStr.decL x4)
  | _ => none
def EIm : Enc Im where
  enc := encIm
  dec := decIm
  n := 5
  ed := fun a => by
    show mkIm a.id a.frm.user a.frm.domain (ERc.decL (a.to.map ERc.enc)) (EStr.decL (a.body.map EStr.enc)) = _
    rw [ERc.decL_map, EStr.decL_map]
    rfl
  de := fun c a h => by
    unfold decIm at h
    split at h
    · unfold mkIm at h
      split at h
      · rename_i e0 e1
        cases h
        rw [ERc.decL_inv e0, EStr.decL_inv e1]; rfl
      · cases h
    · cases h
  len := fun _ => rfl
theorem encIm_eq (a : Im) : encIm a = [.v (.int .i64 a.id), .v (.string a.frm.user), .v (.string a.frm.domain), .sl 4 (a.to.map encRc), .sl 1 (a.body.map encStr)] := rfl
theorem aIdx_Im (xs : List Im) (n : Int) (s : AS) (K : Kt) : aIdx 5 (xs.map encIm) n s K = (0 ≤ n ∧ n < xs.length ∧ K (.t (.rop (encIm (xs.getD n.toNat default)))) s) := aIdx_map encIm xs 5 n s K fun _ => rfl
theorem EIm_dec {x0 : Int} {x1 : ByteArray} {x2 : ByteArray} {x3 : List (List T)} {x4 : List (List T)} : EIm.dec [.v (.int .i64 x0), .v (.string x1), .v (.string x2), .sl 4 x3, .sl 1 x4] = mkIm x0 x1 x2 (ERc.decL x3) (EStr.decL x4) := rfl
theorem decIms (xs : List Im) : EIm.decL (xs.map encIm) = some xs := EIm.decL_map xs
theorem decIms0 : EIm.decL [] = some [] := rfl
theorem EIm_enc : EIm.enc = encIm := rfl
theorem EIm_n : EIm.n = 5 := rfl
theorem len_Im (xs : List Im) : (∀ c ∈ xs.map encIm, c.length = 5) = True := eq_true fun c hc => by
  obtain ⟨a, _, rfl⟩ := List.mem_map.1 hc; rfl
theorem Im_eta (a : Im) : (⟨a.id, a.frm, a.to, a.body⟩ : Im) = a := rfl
theorem Im_ext {a b : Im} : a = b ↔ a.id = b.id ∧ a.frm = b.frm ∧ a.to = b.to ∧ a.body = b.body := by
  cases a; cases b; simp
theorem set_Im (xs : List Im) (i : Nat) (x0 : Int) (x1 : ByteArray) (x2 : ByteArray) (x3 : List Rc) (x4 : List ByteArray) : (xs.map encIm).set i [.v (.int .i64 x0), .v (.string x1), .v (.string x2), .sl 4 (x3.map encRc), .sl 1 (x4.map encStr)] = (xs.set i ⟨x0, ⟨x1, x2⟩, x3, x4⟩).map encIm := set_map encIm xs i ⟨x0, ⟨x1, x2⟩, x3, x4⟩ rfl
structure Sp where
  last : Int
  items : List Im
  deriving DecidableEq
instance : Inhabited Sp := ⟨⟨default, default⟩⟩
def encSp (a : Sp) : List T := [.v (.int .i64 a.last), .sl 5 (a.items.map encIm)]
def mkSp (x0 : Int) : Option (List Im) → Option Sp
  | some x1 => some ⟨x0, x1⟩
  | _ => none
def decSp : List T → Option Sp
  | [.v (.int .i64 x0), .sl 5 x1] => mkSp x0 (EIm.decL x1)
  | _ => none
def ESp : Enc Sp where
  enc := encSp
  dec := decSp
  n := 2
  ed := fun a => by
    show mkSp a.last (EIm.decL (a.items.map EIm.enc)) = _
    rw [EIm.decL_map]
    rfl
  de := fun c a h => by
    unfold decSp at h
    split at h
    · unfold mkSp at h
      split at h
      · rename_i e0
        cases h
        rw [EIm.decL_inv e0]; rfl
      · cases h
    · cases h
  len := fun _ => rfl
theorem encSp_eq (a : Sp) : encSp a = [.v (.int .i64 a.last), .sl 5 (a.items.map encIm)] := rfl
theorem aIdx_Sp (xs : List Sp) (n : Int) (s : AS) (K : Kt) : aIdx 2 (xs.map encSp) n s K = (0 ≤ n ∧ n < xs.length ∧ K (.t (.rop (encSp (xs.getD n.toNat default)))) s) := aIdx_map encSp xs 2 n s K fun _ => rfl
theorem ESp_dec {x0 : Int} {x1 : List (List T)} : ESp.dec [.v (.int .i64 x0), .sl 5 x1] = mkSp x0 (EIm.decL x1) := rfl
theorem decSps (xs : List Sp) : ESp.decL (xs.map encSp) = some xs := ESp.decL_map xs
theorem decSps0 : ESp.decL [] = some [] := rfl
theorem ESp_enc : ESp.enc = encSp := rfl
theorem ESp_n : ESp.n = 2 := rfl
theorem len_Sp (xs : List Sp) : (∀ c ∈ xs.map encSp, c.length = 2) = True := eq_true fun c hc => by
  obtain ⟨a, _, rfl⟩ := List.mem_map.1 hc; rfl
theorem Sp_eta (a : Sp) : (⟨a.last, a.items⟩ : Sp) = a := rfl
theorem Sp_ext {a b : Sp} : a = b ↔ a.last = b.last ∧ a.items = b.items := by
  cases a; cases b; simp
theorem set_Sp (xs : List Sp) (i : Nat) (x0 : Int) (x1 : List Im) : (xs.map encSp).set i [.v (.int .i64 x0), .sl 5 (x1.map encIm)] = (xs.set i ⟨x0, x1⟩).map encSp := set_map encSp xs i ⟨x0, x1⟩ rfl
structure Nt where
  kind : Int
  id : Int
  addr : Ad
  now : Int
  mail : Ml
  deriving DecidableEq
instance : Inhabited Nt := ⟨⟨default, default, default, default, default⟩⟩
def encNt (a : Nt) : List T := [.v (.int .i64 a.kind), .v (.int .i64 a.id), .v (.string a.addr.user), .v (.string a.addr.domain), .v (.int .i64 a.now), .v (.string a.mail.frm.user), .v (.string a.mail.frm.domain), .sl 2 (a.mail.to.map encAd), .sl 1 (a.mail.body.map encStr)]
def mkNt (x0 : Int) (x1 : Int) (x2 : ByteArray) (x3 : ByteArray) (x4 : Int) (x5 : ByteArray) (x6 : ByteArray) : Option (List Ad) → Option (List ByteArray) → Option Nt
  | some x7, some x8 => some ⟨x0, x1, ⟨x2, x3⟩, x4, ⟨⟨x5, x6⟩, x7, x8⟩⟩
  | _, _ => none
def decNt : List T → Option Nt
  | [.v (.int .i64 x0), .v (.int .i64 x1), .v (.string x2), .v (.string x3), .v (.int .i64 x4), .v (.string x5), .v (.string x6), .sl 2 x7, .sl 1 x8] => mkNt x0 x1 x2 x3 x4 x5 x6 (EAd.decL x7) (EStr.decL x8)
  | _ => none
def ENt : Enc Nt where
  enc := encNt
  dec := decNt
  n := 9
  ed := fun a => by
    show mkNt a.kind a.id a.addr.user a.addr.domain a.now a.mail.frm.user a.mail.frm.domain (EAd.decL (a.mail.to.map EAd.enc)) (EStr.decL (a.mail.body.map EStr.enc)) = _
    rw [EAd.decL_map, EStr.decL_map]
    rfl
  de := fun c a h => by
    unfold decNt at h
    split at h
    · unfold mkNt at h
      split at h
      · rename_i e0 e1
        cases h
        rw [EAd.decL_inv e0, EStr.decL_inv e1]; rfl
      · cases h
    · cases h
  len := fun _ => rfl
theorem encNt_eq (a : Nt) : encNt a = [.v (.int .i64 a.kind), .v (.int .i64 a.id), .v (.string a.addr.user), .v (.string a.addr.domain), .v (.int .i64 a.now), .v (.string a.mail.frm.user), .v (.string a.mail.frm.domain), .sl 2 (a.mail.to.map encAd), .sl 1 (a.mail.body.map encStr)] := rfl
theorem aIdx_Nt (xs : List Nt) (n : Int) (s : AS) (K : Kt) : aIdx 9 (xs.map encNt) n s K = (0 ≤ n ∧ n < xs.length ∧ K (.t (.rop (encNt (xs.getD n.toNat default)))) s) := aIdx_map encNt xs 9 n s K fun _ => rfl
theorem ENt_dec {x0 : Int} {x1 : Int} {x2 : ByteArray} {x3 : ByteArray} {x4 : Int} {x5 : ByteArray} {x6 : ByteArray} {x7 : List (List T)} {x8 : List (List T)} : ENt.dec [.v (.int .i64 x0), .v (.int .i64 x1), .v (.string x2), .v (.string x3), .v (.int .i64 x4), .v (.string x5), .v (.string x6), .sl 2 x7, .sl 1 x8] = mkNt x0 x1 x2 x3 x4 x5 x6 (EAd.decL x7) (EStr.decL x8) := rfl
theorem decNts (xs : List Nt) : ENt.decL (xs.map encNt) = some xs := ENt.decL_map xs
theorem decNts0 : ENt.decL [] = some [] := rfl
theorem ENt_enc : ENt.enc = encNt := rfl
theorem ENt_n : ENt.n = 9 := rfl
theorem len_Nt (xs : List Nt) : (∀ c ∈ xs.map encNt, c.length = 9) = True := eq_true fun c hc => by
  obtain ⟨a, _, rfl⟩ := List.mem_map.1 hc; rfl
theorem Nt_eta (a : Nt) : (⟨a.kind, a.id, a.addr, a.now, a.mail⟩ : Nt) = a := rfl
theorem Nt_ext {a b : Nt} : a = b ↔ a.kind = b.kind ∧ a.id = b.id ∧ a.addr = b.addr ∧ a.now = b.now ∧ a.mail = b.mail := by
  cases a; cases b; simp
theorem set_Nt (xs : List Nt) (i : Nat) (x0 : Int) (x1 : Int) (x2 : ByteArray) (x3 : ByteArray) (x4 : Int) (x5 : ByteArray) (x6 : ByteArray) (x7 : List Ad) (x8 : List ByteArray) : (xs.map encNt).set i [.v (.int .i64 x0), .v (.int .i64 x1), .v (.string x2), .v (.string x3), .v (.int .i64 x4), .v (.string x5), .v (.string x6), .sl 2 (x7.map encAd), .sl 1 (x8.map encStr)] = (xs.set i ⟨x0, x1, ⟨x2, x3⟩, x4, ⟨⟨x5, x6⟩, x7, x8⟩⟩).map encNt := set_map encNt xs i ⟨x0, x1, ⟨x2, x3⟩, x4, ⟨⟨x5, x6⟩, x7, x8⟩⟩ rfl
def owMl (a : Ml) : AV := .agg [.t (.v (.string a.frm.user)), .t (.v (.string a.frm.domain)), .o true 2 (a.to.map encAd), .o true 1 (a.body.map encStr)]
def owMlD : AV → Option Ml
  | .agg [.t (.v (.string x0)), .t (.v (.string x1)), x2, x3] => mkMl x0 x1 (EAd.owD true 2 x2) (EStr.owD true 1 x3)
  | _ => none
def AMl : AD Ml where
  enc := owMl
  dec := owMlD
  ed := fun a => by
    show mkMl a.frm.user a.frm.domain (EAd.owD true 2 ((EAd.aow true 2).enc a.to)) (EStr.owD true 1 ((EStr.aow true 1).enc a.body)) = _
    rw [show EAd.owD true 2 ((EAd.aow true 2).enc a.to) = some a.to from (EAd.aow true 2).ed _, show EStr.owD true 1 ((EStr.aow true 1).enc a.body) = some a.body from (EStr.aow true 1).ed _]
    rfl
  de := fun x m h => by
    unfold owMlD at h
    split at h
    · unfold mkMl at h
      split at h
      · rename_i e0 e1
        cases h
        have q0 := (EAd.aow true 2).de _ _ e0
        subst q0
        have q1 := (EStr.aow true 1).de _ _ e1
        subst q1
        rfl
      · cases h
    · cases h
theorem AMl_enc (a : Ml) : AMl.enc a = .agg [.t (.v (.string a.frm.user)), .t (.v (.string a.frm.domain)), .o true 2 (a.to.map encAd), .o true 1 (a.body.map encStr)] := rfl
theorem AMl_dec {x0 : ByteArray} {x1 : ByteArray} {x2 : List (List T)} {x3 : List (List T)} : AMl.dec (.agg [.t (.v (.string x0)), .t (.v (.string x1)), .o true 2 x2, .o true 1 x3]) = mkMl x0 x1 (EAd.decL x2) (EStr.decL x3) := rfl
theorem owMl_eq (a : Ml) : owMl a = .agg [.t (.v (.string a.frm.user)), .t (.v (.string a.frm.domain)), .o true 2 (a.to.map encAd), .o true 1 (a.body.map encStr)] := rfl
theorem owMl_solid (a : Ml) : Solid (owMl a) := .agg _ fun c hc => by
  simp only [List.mem_cons, List.not_mem_nil, or_false] at hc
  rcases hc with rfl | rfl | rfl | rfl
  · exact .v _
  · exact .v _
  · exact .deep _ _
  · exact .deep _ _
def owIm (a : Im) : AV := .agg [.t (.v (.int .i64 a.id)), .t (.v (.string a.frm.user)), .t (.v (.string a.frm.domain)), .o true 4 (a.to.map encRc), .o true 1 (a.body.map encStr)]
def owImD : AV → Option Im
  | .agg [.t (.v (.int .i64 x0)), .t (.v (.string x1)), .t (.v (.string x2)), x3, x4] => mkIm x0 x1 x2 (ERc.owD true 4 x3) (EStr.owD true 1 x4)
  | _ => none
def AIm : AD Im where
  enc := owIm
  dec := owImD
  ed := fun a => by
    show mkIm a.id a.frm.user a.frm.domain (ERc.owD true 4 ((ERc.aow true 4).enc a.to)) (EStr.owD true 1 ((EStr.aow true 1).enc a.body)) = _
    rw [show ERc.owD true 4 ((ERc.aow true 4).enc a.to) = some a.to from (ERc.aow true 4).ed _, show EStr.owD true 1 ((EStr.aow true 1).enc a.body) = some a.body from (EStr.aow true 1).ed _]
    rfl
  de := fun x m h => by
    unfold owImD at h
    split at h
    · unfold mkIm at h
      split at h
      · rename_i e0 e1
        cases h
        have q0 := (ERc.aow true 4).de _ _ e0
        subst q0
        have q1 := (EStr.aow true 1).de _ _ e1
        subst q1
        rfl
      · cases h
    · cases h
theorem AIm_enc (a : Im) : AIm.enc a = .agg [.t (.v (.int .i64 a.id)), .t (.v (.string a.frm.user)), .t (.v (.string a.frm.domain)), .o true 4 (a.to.map encRc), .o true 1 (a.body.map encStr)] := rfl
theorem AIm_dec {x0 : Int} {x1 : ByteArray} {x2 : ByteArray} {x3 : List (List T)} {x4 : List (List T)} : AIm.dec (.agg [.t (.v (.int .i64 x0)), .t (.v (.string x1)), .t (.v (.string x2)), .o true 4 x3, .o true 1 x4]) = mkIm x0 x1 x2 (ERc.decL x3) (EStr.decL x4) := rfl
theorem owIm_eq (a : Im) : owIm a = .agg [.t (.v (.int .i64 a.id)), .t (.v (.string a.frm.user)), .t (.v (.string a.frm.domain)), .o true 4 (a.to.map encRc), .o true 1 (a.body.map encStr)] := rfl
theorem owIm_solid (a : Im) : Solid (owIm a) := .agg _ fun c hc => by
  simp only [List.mem_cons, List.not_mem_nil, or_false] at hc
  rcases hc with rfl | rfl | rfl | rfl | rfl
  · exact .v _
  · exact .v _
  · exact .v _
  · exact .deep _ _
  · exact .deep _ _
def owSp (a : Sp) : AV := .agg [.t (.v (.int .i64 a.last)), .o true 5 (a.items.map encIm)]
def owSpD : AV → Option Sp
  | .agg [.t (.v (.int .i64 x0)), x1] => mkSp x0 (EIm.owD true 5 x1)
  | _ => none
def ASp : AD Sp where
  enc := owSp
  dec := owSpD
  ed := fun a => by
    show mkSp a.last (EIm.owD true 5 ((EIm.aow true 5).enc a.items)) = _
    rw [show EIm.owD true 5 ((EIm.aow true 5).enc a.items) = some a.items from (EIm.aow true 5).ed _]
    rfl
  de := fun x m h => by
    unfold owSpD at h
    split at h
    · unfold mkSp at h
      split at h
      · rename_i e0
        cases h
        have q0 := (EIm.aow true 5).de _ _ e0
        subst q0
        rfl
      · cases h
    · cases h
theorem ASp_enc (a : Sp) : ASp.enc a = .agg [.t (.v (.int .i64 a.last)), .o true 5 (a.items.map encIm)] := rfl
theorem ASp_dec {x0 : Int} {x1 : List (List T)} : ASp.dec (.agg [.t (.v (.int .i64 x0)), .o true 5 x1]) = mkSp x0 (EIm.decL x1) := rfl
theorem owSp_eq (a : Sp) : owSp a = .agg [.t (.v (.int .i64 a.last)), .o true 5 (a.items.map encIm)] := rfl
theorem owSp_solid (a : Sp) : Solid (owSp a) := .agg _ fun c hc => by
  simp only [List.mem_cons, List.not_mem_nil, or_false] at hc
  rcases hc with rfl | rfl
  · exact .v _
  · exact .deep _ _
def owNt (a : Nt) : AV := .agg [.t (.v (.int .i64 a.kind)), .t (.v (.int .i64 a.id)), .t (.v (.string a.addr.user)), .t (.v (.string a.addr.domain)), .t (.v (.int .i64 a.now)), .t (.v (.string a.mail.frm.user)), .t (.v (.string a.mail.frm.domain)), .o true 2 (a.mail.to.map encAd), .o true 1 (a.mail.body.map encStr)]
def owNtD : AV → Option Nt
  | .agg [.t (.v (.int .i64 x0)), .t (.v (.int .i64 x1)), .t (.v (.string x2)), .t (.v (.string x3)), .t (.v (.int .i64 x4)), .t (.v (.string x5)), .t (.v (.string x6)), x7, x8] => mkNt x0 x1 x2 x3 x4 x5 x6 (EAd.owD true 2 x7) (EStr.owD true 1 x8)
  | _ => none
def ANt : AD Nt where
  enc := owNt
  dec := owNtD
  ed := fun a => by
    show mkNt a.kind a.id a.addr.user a.addr.domain a.now a.mail.frm.user a.mail.frm.domain (EAd.owD true 2 ((EAd.aow true 2).enc a.mail.to)) (EStr.owD true 1 ((EStr.aow true 1).enc a.mail.body)) = _
    rw [show EAd.owD true 2 ((EAd.aow true 2).enc a.mail.to) = some a.mail.to from (EAd.aow true 2).ed _, show EStr.owD true 1 ((EStr.aow true 1).enc a.mail.body) = some a.mail.body from (EStr.aow true 1).ed _]
    rfl
  de := fun x m h => by
    unfold owNtD at h
    split at h
    · unfold mkNt at h
      split at h
      · rename_i e0 e1
        cases h
        have q0 := (EAd.aow true 2).de _ _ e0
        subst q0
        have q1 := (EStr.aow true 1).de _ _ e1
        subst q1
        rfl
      · cases h
    · cases h
theorem ANt_enc (a : Nt) : ANt.enc a = .agg [.t (.v (.int .i64 a.kind)), .t (.v (.int .i64 a.id)), .t (.v (.string a.addr.user)), .t (.v (.string a.addr.domain)), .t (.v (.int .i64 a.now)), .t (.v (.string a.mail.frm.user)), .t (.v (.string a.mail.frm.domain)), .o true 2 (a.mail.to.map encAd), .o true 1 (a.mail.body.map encStr)] := rfl
theorem ANt_dec {x0 : Int} {x1 : Int} {x2 : ByteArray} {x3 : ByteArray} {x4 : Int} {x5 : ByteArray} {x6 : ByteArray} {x7 : List (List T)} {x8 : List (List T)} : ANt.dec (.agg [.t (.v (.int .i64 x0)), .t (.v (.int .i64 x1)), .t (.v (.string x2)), .t (.v (.string x3)), .t (.v (.int .i64 x4)), .t (.v (.string x5)), .t (.v (.string x6)), .o true 2 x7, .o true 1 x8]) = mkNt x0 x1 x2 x3 x4 x5 x6 (EAd.decL x7) (EStr.decL x8) := rfl
theorem owNt_eq (a : Nt) : owNt a = .agg [.t (.v (.int .i64 a.kind)), .t (.v (.int .i64 a.id)), .t (.v (.string a.addr.user)), .t (.v (.string a.addr.domain)), .t (.v (.int .i64 a.now)), .t (.v (.string a.mail.frm.user)), .t (.v (.string a.mail.frm.domain)), .o true 2 (a.mail.to.map encAd), .o true 1 (a.mail.body.map encStr)] := rfl
theorem owNt_solid (a : Nt) : Solid (owNt a) := .agg _ fun c hc => by
  simp only [List.mem_cons, List.not_mem_nil, or_false] at hc
  rcases hc with rfl | rfl | rfl | rfl | rfl | rfl | rfl | rfl | rfl
  · exact .v _
  · exact .v _
  · exact .v _
  · exact .v _
  · exact .v _
  · exact .v _
  · exact .v _
  · exact .deep _ _
  · exact .deep _ _
end Go.V
namespace Go.V
open Go Go.Proofs
set_option maxRecDepth 100000
set_option linter.unusedSimpArgs false
set_option linter.unusedVariables false
attribute [local go_sem] aPickB.eq_1 aPickB.eq_2 aPick.eq_1 aBox.eq_1 aBox.eq_2 aAlloc.eq_1 aAlloc.eq_2 aLoadB.eq_1 aLoadB.eq_2 aLoadB.eq_3 aLoadB.eq_4 aLoadB.eq_5 aLoadA.eq_1 aLoadA.eq_2 aLoadA.eq_3 aLoadA.eq_4 aLoadA.eq_5 aLoadP.eq_1 aLoadP.eq_2 aLoadP.eq_3 aLoad.eq_1 aLoad.eq_2 aFAx.eq_1 aFAx.eq_2 aFAx.eq_3 aFA.eq_1 aFA.eq_2 aFx.eq_1 aF.eq_1 aF.eq_2 fld.eq_1 elT.eq_1 aIdxH.eq_1 aIdxH.eq_2 aIdxH.eq_3 aIdxH.eq_4 aIdxH.eq_5 aIdxP.eq_1 aIdxP.eq_2 aIndexAddr.eq_1 aIndexAddr.eq_2 aIndexAddr.eq_3 isStr.eq_1 aIndex.eq_1 aSlStr.eq_1 aSlRo.eq_1 aSlZ.eq_1 aSlZ.eq_2 aSlice.eq_1 aSlice.eq_2 aSlice.eq_3 bnd.eq_1 bnd.eq_2 aBuildO.eq_1 aBuildO.eq_2 aBuild.eq_1 aNewArr.eq_1 aNewArr.eq_2 aBS.eq_1 aBS.eq_2 aBuildSlice.eq_1 aBuildSlice.eq_2 aMakeSlice.eq_1 appDeep.eq_1 aApp2.eq_1 aAppend.eq_1 aAppend.eq_2 aStoreB.eq_1 aStoreA.eq_1 obFlat.eq_1 aStore2.eq_1 aStore2.eq_2 aStoreP.eq_1 aStoreP.eq_2 aStore.eq_1 aStore.eq_2 isShl.eq_1 isShl.eq_2 isBool.eq_1 aBinI.eq_1 aBinI.eq_2 aBinB.eq_1 aBinB.eq_2 aEq.eq_1 aEq.eq_2 aEq.eq_3 aEq.eq_4 aEqG.eq_1 aEqG.eq_2 aBin.eq_1 aBin.eq_2 aBin.eq_3 aBin.eq_4 aUn.eq_1 aUn.eq_2 aLenO.eq_1 aLenS.eq_1 aLenS.eq_2 aLenS.eq_3 aLenT.eq_1 aLen.eq_1 aLen.eq_2 aLen.eq_3 bytesOb.eq_1 bytesOb.eq_2 bytesOf.eq_1 bytesOf.eq_2 aNums.eq_1 aNums.eq_2 isU8.eq_1 aCvI.eq_1 aCvS.eq_1 aCvB.eq_1 aCvB.eq_2 aCvT.eq_1 aConv.eq_1 aConv.eq_2 aConv.eq_3 aConv.eq_4 aExO.eq_1 aExO.eq_2 aExtract.eq_1 aNil.eq_1 aNil.eq_2 aNil.eq_3 aCallS.eq_1 aCallS.eq_2 aCallR.eq_1 aCallR.eq_2 aCallK.eq_1 aCallK.eq_2 aCallK.eq_3 aCall.eq_1 aCall.eq_2 takeO.eq_1 AS.takeV.eq_1 AS.takeV.eq_2 AS.takeV.eq_3 AS.takeV.eq_4 AS.takeV.eq_5 AS.takeV.eq_6 AS.takeV.eq_7 AV.oldM.eq_1 AV.oldM.eq_2 AV.oldM.eq_3 AV.oldM.eq_4 AV.oldM.eq_5 AV.oldM.eq_6 AV.oldM.eq_7 AV.oldM.eq_8 AV.oldM.eq_9 AV.oldM.eq_10 AV.oldM.eq_11 AV.oldML.eq_1 AV.oldML.eq_2 subL.eq_1 subL.eq_2 back.eq_1 back.eq_2 back.eq_3 back.eq_4 backL.eq_1 backI.eq_1 backI.eq_2 backI.eq_3 backI.eq_4 backIL.eq_1 aBuiltin.eq_1 aBuiltin.eq_2 aBuiltin.eq_3 aCallee.eq_1 aCallee.eq_2 aCallee.eq_3 abin.eq_1 abin.eq_2 abin.eq_3 abin.eq_4 abin.eq_5 abin.eq_6 abin.eq_7 abin.eq_8 abin.eq_9 abin.eq_10 abin.eq_11 abin.eq_12 abin.eq_13 abin.eq_14 abin.eq_15 abin.eq_17 abin.eq_18 abin.eq_19 abin.eq_20 abin.eq_21 abin.eq_22 abin.eq_23 AS.ev.eq_1 AS.ev.eq_2 AS.ev.eq_3 AS.ev.eq_4 AS.evs.eq_1 AS.evs.eq_2 AS.evp.eq_1 AS.evp.eq_2 AS.put.eq_1 AS.put.eq_2 AS.remL.eq_1 AS.remL.eq_2 AV.has.eq_1 AV.has.eq_2 AV.has.eq_3 AV.has.eq_4 AV.has.eq_5 AV.has.eq_6 AV.has.eq_7 AV.has.eq_8 AV.has.eq_9 AV.has.eq_10 AV.has.eq_11 AV.hasL.eq_1 AV.hasL.eq_2 Ob.drop.eq_1 Ob.drop.eq_2 Ob.drop.eq_3 Ob.drop.eq_4 AV.cells.eq_1 AV.cells.eq_2 AV.cells.eq_3 AV.cells.eq_4 AV.cells.eq_5 AS.snapT.eq_1 AS.snapT.eq_2 AS.snapT.eq_3 AS.snapT.eq_4 AS.snapT.eq_5 AS.snapT.eq_6 AS.snapT.eq_7 AS.snap.eq_1 AS.snap.eq_2 mapO.eq_1 mapO.eq_2 intern.eq_1 intern.eq_2 intern.eq_3 intern.eq_4 intern.eq_5 intern.eq_6 intern.eq_7 intern.eq_8 intern.eq_9 intern.eq_10 intern.eq_11 internL.eq_1 internL.eq_2 zipSl.eq_1 zipSl.eq_2 AV.ids.eq_1 AV.ids.eq_2 AV.ids.eq_3 AV.ids.eq_4 AV.ids.eq_5 AV.ids.eq_6 AV.ids.eq_7 AV.ids.eq_8 AV.ids.eq_9 AV.ids.eq_10 AV.ids.eq_11 AV.idsL.eq_1 AV.idsL.eq_2 AV.sub.eq_1 AV.sub.eq_2 AV.sub.eq_3 AV.sub.eq_4 AV.sub.eq_5 AV.sub.eq_6 AV.sub.eq_7 AV.sub.eq_8 AV.sub.eq_9 AV.sub.eq_10 AV.sub.eq_11 AV.subL.eq_1 AV.subL.eq_2 AS.frzL.eq_1 AS.frzL.eq_2 AS.absT.eq_1 AS.absT.eq_2 AS.absT.eq_4 AS.absL.eq_1 AS.absL.eq_2 AS.absOk.eq_1 AS.absOkL.eq_1 AS.absOkL.eq_2 hid.eq_1 hids.eq_1 hids.eq_2 AS.appBase.eq_1 AS.appBase.eq_2 AS.appSrc.eq_1 appFits.eq_1 appFits.eq_2 appFits.eq_3 avFill.eq_1 avFill.eq_2 avc.eq_1 avc.eq_2 avc1.eq_1 Kd.agg.eq_1 Kd.agg.eq_2 okR.eq_1 okR.eq_2 okR.eq_3 okR.eq_4 okR.eq_5 okR.eq_6 okR.eq_7 okR.eq_8 zt.eq_1 rvB.eq_1 rvP.eq_1 rvA.eq_1 rvA.eq_2 rv1.eq_1 outTO.eq_1 outT.eq_1 outT.eq_2 outT.eq_3 outTn.eq_1 outOO.eq_1 outO.eq_1 outO.eq_2 boxOf.eq_1 outP.eq_1 outP.eq_2 outP.eq_3 outP.eq_4 outP.eq_5 outP.eq_6 outP.eq_7 outP.eq_8 outPL.eq_1 outPL.eq_2 outI.eq_1 outI.eq_2 outI.eq_3 outI.eq_4 outI.eq_5 outIL.eq_1 outZ.eq_1 outZ.eq_2 outZ.eq_3 outZ.eq_4 outZ.eq_5 outZL.eq_1 finO.eq_1 finO.eq_2 fin.eq_1 fin.eq_2 fin.eq_3 cellAV.eq_1 cellAV.eq_2 numsOf.eq_1 numsOf.eq_2 aop.eq_1 aop.eq_2 aop.eq_3 aop.eq_4 aop.eq_5 aop.eq_6 aop.eq_7 aop.eq_8 aop.eq_9 aop.eq_10 aop.eq_11 aop.eq_12 aop.eq_13 aop.eq_14 aop.eq_15 aop.eq_16 aop.eq_17 aop.eq_18 aop.eq_19 aop.eq_20 aop.eq_21 aop.eq_22 aop.eq_23 aop.eq_24 aop.eq_25 aop.eq_26 tmpsOf.eq_1 tmpsOf.eq_2 tmpsOf.eq_3 tmpsOf.eq_4 tmpsOf.eq_5 AV.refs.eq_1 AV.refs.eq_2 AV.refs.eq_3 AV.refs.eq_4 AV.refs.eq_5 AV.refs.eq_6 AV.refs.eq_7 AV.refs.eq_8 AV.refs.eq_9 AV.refs.eq_10 AV.refs.eq_11 AV.refsL.eq_1 AV.refsL.eq_2 refsT.eq_1 refsT.eq_2 refsO.eq_1 refsO.eq_2 refsO.eq_3 refsO.eq_4 refsO.eq_5 refsO.eq_6 refsB.eq_1 refsB.eq_2 clos.eq_1 clos.eq_2 keepL.eq_1 keepL.eq_2 AV.hasM.eq_1 AV.hasM.eq_2 AV.hasM.eq_3 AV.hasM.eq_4 AV.hasM.eq_5 AV.hasM.eq_6 AV.hasM.eq_7 AV.hasM.eq_8 AV.hasM.eq_9 AV.hasM.eq_10 AV.hasM.eq_11 AV.hasML.eq_1 AV.hasML.eq_2 Ob.dropM.eq_1 Ob.dropM.eq_2 Ob.dropM.eq_3 Ob.dropM.eq_4 nsC.eq_1 nsC.eq_2 okGuard.eq_1 okGuard.eq_2 AS.purges.eq_1 AS.purges.eq_2 dropMB.eq_1 dropMB.eq_2 newB.eq_1 newB.eq_2 ptB.eq_1 ptB.eq_2 lookC.eq_1 lookC.eq_2 dropB.eq_1 dropB.eq_2 leS.eq_1 leS.eq_2 leT.eq_1 leT.eq_2 AS.mvs.eq_1 AS.mvs.eq_2 AS.mvA.eq_1 AS.mvA.eq_2 AS.mvB.eq_1 aSetO.eq_1 aSetO.eq_2 aSh.eq_1 aSh.eq_2 arK.eq_1 aIdxA.eq_1 aIdxA.eq_2 arT.eq_1 aSlHB.eq_1 aSlHB.eq_2 aSlHO.eq_1 aSlHZ.eq_1 aSlHZ.eq_2 isSlT.eq_1 isNilC.eq_1 aNilO.eq_1 aNilX.eq_1 aNilX.eq_2 aNilX.eq_3 aNilC.eq_1 aNilC.eq_2 aBinQ.eq_1 aBinQ.eq_2 aMin.eq_1 flT.eq_1 flT.eq_2 flT.eq_3 mpT.eq_1 aMkMap.eq_1 aMkMap.eq_2 strA.eq_1 keyMK.eq_1 keyMK.eq_2 keyMK.eq_3 mkB.eq_1 mkB.eq_2 mkB.eq_3 aMp2.eq_1 aMp1.eq_1 aMp0.eq_1 aMapU.eq_1 aLk2.eq_1 aLk2.eq_2 aLk1.eq_1 aLk0.eq_1 aLookup.eq_1 aLenMO.eq_1 aLenM.eq_1 glV.eq_1 glV.eq_2 evG.eq_1 evG.eq_2 evG.eq_3 evG.eq_4 lkHitO.eq_1 lkHitO.eq_2 lkHitO.eq_3 lkHitO.eq_4 lkHit.eq_1 lkHit.eq_2 lkF.eq_1 lkF.eq_2 lkFind.eq_1 lkFind.eq_2 lkV.eq_1 lkV.eq_2 lkV.eq_3 lkV.eq_4 lkV.eq_5 AS.lkO.eq_1 AS.lkO.eq_2 AS.lkOf.eq_1 rawT.eq_1 rawT.eq_2 rawT.eq_3 rawT.eq_4 rawT.eq_5 rawT.eq_6 rawOf.eq_1 rawOf.eq_2 rawOf.eq_3 rawOf.eq_4 rawOf.eq_5 rawOf.eq_6 rawOf.eq_7 rawOf.eq_8 rawOf.eq_9 rawOf.eq_10 rawOf.eq_11 aLkR.eq_1 aLkR.eq_2 aLk.eq_1 aLk.eq_2 KL.eq_1 lkDrop.eq_1 lkDrop.eq_2 lkParO.eq_1 lkParO.eq_2 lkParO.eq_3 lkParO.eq_4 lkPar.eq_1 lkPar.eq_2 lkI.eq_1 lkI.eq_2 lkIds.eq_1 lkIds.eq_2 adLd.eq_1 run_nil run_b run_l run_skip run_label run_seq run_cond brV_b brB_t brB_f run_block run_exit run_ret run_region runX_nil runX_c runX_c' runX_b runX_b' runX_l runX_l' exB_t exB_f run_o run_op run_opg gV_b gV_t gB_tt gB_ff gB_tf gB_ft rs_eq kv KI aLenN aBS1 aApp1 aStore1 szOk gv gd s0 idOf look_cons lookC frzU_t frzU_f orT orF drop_any drop_nil drop_t drop_h drop_pb drop_pa drop_agg drop_tup drop_fn dropB kill_eq set_eq rem_eq re_eq up_eq get_eq ob_eq Ob.drop apl fpl plainTy AS.frz splice cond_true cond_false List.map_cons List.map_nil List.drop_zero List.drop_succ_cons List.drop_nil List.take_zero List.take_succ_cons List.take_nil List.getElem?_cons_zero List.getElem?_cons_succ List.getElem?_nil List.length_cons List.length_nil Option.map_some Option.map_none Option.bind_some Option.bind_none List.cons_append List.nil_append List.append_nil Option.getD_some Option.getD_none List.all_cons List.all_nil Bool.and_true Bool.true_and Bool.or_false Bool.false_or Bool.or_true Bool.true_or List.flatten_cons List.flatten_nil List.replicate_succ List.replicate_zero and_true true_and avOf_t avOf_f agg_bool agg_int agg_str agg_slice agg_struct agg_func agg_ptr agg_map avc_bool avc_int avc_str avc_fn avc1_bool avc1_int avc1_str avc1_fn zt_bool zt_int zt_str cells_nil cells_t cells_h cells_pb cells_fn snap_t snap_nil snap_h snap_pb snap_fn rv1_one rv1_two outI_t outI_oh outI_on outI_any outI_nil outZ_th outZ_tt outZ_tn outZ_o outZ_any outZ_nil outIL_nil outZL_nil finN finR ne_eq not_false_eq_true not_true_eq_false List.nodup_nil List.not_mem_nil false_implies implies_true eq_self true_or or_true Option.some.injEq shl_add shl_sub shl_mul shl_quo shl_rem shl_and shl_or shl_xor shl_andNot shl_eql shl_neq shl_lss shl_leq shl_gtr shl_geq shl_shr shl_shl appDeep_none appDeep_sn appSrc_h appSrc_nil fits_ft fits_tn fits_tf isStr_slice obFlat_box Nat.le_refl nbeq_self List.length_map updZ_s updZ_n dropM_eq purge_eq newIds_cons newIds_nil purgeT_nil purgeT_cons memN_cons memN_nil bd_d bd_c bd_g bd_p bd_t bd_o preds_nil preds_cons hasIns insB List.any_cons List.any_nil adK_eq adr_nil adG_eq kdOp noLen creates Op.operands Call.operands nsOf adT adI adJ plainB rst List.append_eq nsD_f nsD_n nsD_t nOf_0 nOf_1 nOf_2 chO_0 chO_1 chO_2 keepK_0 keepK_1 keepK_2 eqRes AS.mv fits KM aCallM notNew kdCall arK_i64 arK_i32 arK_u8 arK_u64 arT_sl isNilC_t isNilC_f isNilC_g isNilC_i isNilC_b isNilC_s isNilC_a isNilC_n andBF andBT aCallK_2 ble_dec hid_t hid_nil hid_any hid_pb hid_fn absOk_t absOk_nil absOk_pb absOk_h absOkO_1 decide_true decide_false Array.toList_append chunk_0 chunk_1 chunk_2 chunk_3 back_t back_nil back_ht backL_nil backI_t backI_nil backI_ht backIL_nil AS.mvJ nbeq_dec runR_f runR_t loadB Option.isSome_some Option.isSome_none nodup1 adr_none adr_some adO_s adV_b adV_t adB_tt adB_ff adB_tf adB_ft adS_eq lenL.eq_1 lenO.eq_1 lenO.eq_2 lenV.eq_1 lenV.eq_2 lenV.eq_3 lenV.eq_4 optN optS absT_ft
attribute [local go_sem] ty3 ty4 ty5 ty9 ty21 ty22 ty23 ty25 ty27 ty28 ty29 ty31 ty33 ty43 ty45 ty46 ty48 ty54 ty57 ty59 ty60 ty62 ty73 ty75 ty91 ty96 ty98 ty101 ty104 ty120 ty125 ty129 ty146 ty166 ty207 ty220 ty237 lv27 lv91 lv104 lv120 zb4 leS leT fits AS.mvs encStr_eq aIdx_str EStr_dec decStrs decStrs0 EStr_enc EStr_n encInt_eq aIdx_int EInt_dec decInts decInts0 EInt_enc EInt_n AllV_Int len_Int lc_enc l0_enc asl_enc ag_enc aow_enc ABool_enc AInt_enc AStr_enc AU8_enc ABool_dec AInt_dec AStr_dec AU8_dec asl_dec ag_dec aow_dec bind_some pr2.eq_1 l0_nil lc_cons unT.eq_1 K0.eq_1 M0.eq_1 KI AllV_Str len_Str ctR_eq ctM_eq ro_kd ro_ro mu_kd mu_mu encAd_eq aIdx_Ad EAd_dec decAds decAds0 EAd_enc EAd_n len_Ad Ad_eta AllV_Ad encMl_eq aIdx_Ml EMl_dec decMls decMls0 EMl_enc EMl_n len_Ml Ml_eta mkMl.eq_1 owMl_eq AMl_enc AMl_dec encRc_eq aIdx_Rc ERc_dec decRcs decRcs0 ERc_enc ERc_n len_Rc Rc_eta AllV_Rc encIm_eq aIdx_Im EIm_dec decIms decIms0 EIm_enc EIm_n len_Im Im_eta mkIm.eq_1 owIm_eq AIm_enc AIm_dec encSp_eq aIdx_Sp ESp_dec decSps decSps0 ESp_enc ESp_n len_Sp Sp_eta mkSp.eq_1 owSp_eq ASp_enc ASp_dec encNt_eq aIdx_Nt ENt_dec decNts decNts0 ENt_enc ENt_n len_Nt Nt_eta mkNt.eq_1 owNt_eq ANt_enc ANt_dec
def szStr (b : ByteArray) (l : Int) : Int := l - b.size
def szF {α : Type} (f : α → Int → Int) (l : Int) : List α → Int
  | [] => l
  | x :: r => if f x l < 0 then -1 else szF f (f x l) r
def szL {α : Type} (f : α → Int → Int) (xs : List α) (l : Int) : Int := if l - xs.length < 0 then -1 else szF f (l - xs.length) xs
def smaller {α : Type} (f : α → Int → Int) : Prop := ∀ x l, f x l < 0 ∨ f x l ≤ l
theorem szStr_le : smaller szStr := fun a l => by unfold szStr; omega
theorem szF_le {α : Type} {f : α → Int → Int} (hf : smaller f) : ∀ (xs : List α) (l : Int), szF f l xs < 0 ∨ szF f l xs ≤ l
  | [], l => .inr (Int.le_refl _)
  | x :: r, l => by
    unfold szF
    split
    · exact .inl (by omega)
    · rename_i h
      rcases szF_le hf r (f x l) with h1 | h1
      · exact .inl h1
      · rcases hf x l with h2 | h2
        · omega
        · exact .inr (by omega)
theorem szL_le {α : Type} {f : α → Int → Int} (hf : smaller f) (xs : List α) (l : Int) : szL f xs l < 0 ∨ (szL f xs l ≤ l ∧ (xs.length : Int) ≤ l) := by
  unfold szL
  split
  · exact .inl (by omega)
  · rcases szF_le hf xs (l - xs.length) with h | h
    · exact .inl h
    · exact .inr ⟨by omega, by omega⟩
theorem szF_step {α : Type} [Inhabited α] {f : α → Int → Int} {xs : List α} {l : Int} {i : Nat} (h : i < xs.length) : szF f l (xs.drop i) = if f (xs.getD i default) l < 0 then -1 else szF f (f (xs.getD i default) l) (xs.drop (i + 1)) := by
  rw [getD_drop h]; rfl
theorem szF_end {α : Type} {f : α → Int → Int} {xs : List α} {l : Int} {i : Nat} (h : xs.length ≤ i) : szF f l (xs.drop i) = l := by
  rw [List.drop_of_length_le h]; rfl
def OkStr (b : ByteArray) : Prop := b.size ≤ 1048576
def OkL {α : Type} (p : α → Prop) (xs : List α) : Prop := (xs.length : Int) ≤ 1048576 ∧ ∀ x ∈ xs, p x
theorem OkL.at {α : Type} [Inhabited α] {p : α → Prop} {xs : List α} (h : OkL p xs) {i : Nat} (hi : i < xs.length) : p (xs.getD i default) := h.2 _ (by simp [hi])
def szOkP {α : Type} (f : α → Int → Int) (p : α → Prop) : Prop := ∀ x l, 0 ≤ l → l ≤ 1048576 → 0 ≤ f x l → p x
theorem szStr_ok : szOkP szStr OkStr := fun x l h0 h1 h => by unfold szStr at h; unfold OkStr; omega
theorem szF_ok {α : Type} {f : α → Int → Int} {p : α → Prop} (hf : szOkP f p) (hl : smaller f) : ∀ (xs : List α) (l : Int), 0 ≤ l → l ≤ 1048576 → 0 ≤ szF f l xs → ∀ x ∈ xs, p x
  | [], _, _, _, _, x, hx => by cases hx
  | y :: r, l, h0, h1, h, x, hx => by
    unfold szF at h
    split at h
    · omega
    · rename_i h2
      cases hx with
      | head => exact hf _ l h0 h1 (by omega)
      | tail _ hx => exact szF_ok hf hl r (f y l) (by omega) (by rcases hl y l with h3 | h3 <;> omega) h x hx
theorem szL_ok {α : Type} {f : α → Int → Int} {p : α → Prop} (hf : szOkP f p) (hl : smaller f) : szOkP (szL f) (OkL p) := fun xs l h0 h1 h => by
  unfold szL at h
  split at h
  · omega
  · exact ⟨by omega, szF_ok hf hl xs _ (by omega) (by omega) h⟩
def OkAd (a : Ad) : Prop := OkStr a.user ∧ OkStr a.domain
def OkMl (a : Ml) : Prop := OkAd a.frm ∧ OkL OkAd a.to ∧ OkL OkStr a.body
def OkRc (a : Rc) : Prop := OkAd a.addr
def OkIm (a : Im) : Prop := OkAd a.frm ∧ OkL OkRc a.to ∧ OkL OkStr a.body
def OkSp (a : Sp) : Prop := OkL OkIm a.items
def OkNt (a : Nt) : Prop := OkAd a.addr ∧ OkMl a.mail
end Go.V
namespace Go.V
open Go Go.Proofs
set_option maxRecDepth 100000
set_option linter.unusedSimpArgs false
set_option linter.unusedVariables false
attribute [local go_sem_proc] Nat.reduceAdd Nat.reduceMul Nat.reduceLeDiff Nat.reduceEqDiff reduceCtorEq Nat.reduceSub Int.reduceNeg Nat.reduceMod Nat.reduceBEq Nat.reduceLT
attribute [local go_sem] aPickB.eq_1 aPickB.eq_2 aPick.eq_1 aBox.eq_1 aBox.eq_2 aAlloc.eq_1 aAlloc.eq_2 aLoadB.eq_1 aLoadB.eq_2 aLoadB.eq_3 aLoadB.eq_4 aLoadB.eq_5 aLoadA.eq_1 aLoadA.eq_2 aLoadA.eq_3 aLoadA.eq_4 aLoadA.eq_5 aLoadP.eq_1 aLoadP.eq_2 aLoadP.eq_3 aLoad.eq_1 aLoad.eq_2 aFAx.eq_1 aFAx.eq_2 aFAx.eq_3 aFA.eq_1 aFA.eq_2 aFx.eq_1 aF.eq_1 aF.eq_2 fld.eq_1 elT.eq_1 aIdxH.eq_1 aIdxH.eq_2 aIdxH.eq_3 aIdxH.eq_4 aIdxH.eq_5 aIdxP.eq_1 aIdxP.eq_2 aIndexAddr.eq_1 aIndexAddr.eq_2 aIndexAddr.eq_3 isStr.eq_1 aIndex.eq_1 aSlStr.eq_1 aSlRo.eq_1 aSlZ.eq_1 aSlZ.eq_2 aSlice.eq_1 aSlice.eq_2 aSlice.eq_3 bnd.eq_1 bnd.eq_2 aBuildO.eq_1 aBuildO.eq_2 aBuild.eq_1 aNewArr.eq_1 aNewArr.eq_2 aBS.eq_1 aBS.eq_2 aBuildSlice.eq_1 aBuildSlice.eq_2 aMakeSlice.eq_1 appDeep.eq_1 aApp2.eq_1 aAppend.eq_1 aAppend.eq_2 aStoreB.eq_1 aStoreA.eq_1 obFlat.eq_1 aStore2.eq_1 aStore2.eq_2 aStoreP.eq_1 aStoreP.eq_2 aStore.eq_1 aStore.eq_2 isShl.eq_1 isShl.eq_2 isBool.eq_1 aBinI.eq_1 aBinI.eq_2 aBinB.eq_1 aBinB.eq_2 aEq.eq_1 aEq.eq_2 aEq.eq_3 aEq.eq_4 aEqG.eq_1 aEqG.eq_2 aBin.eq_1 aBin.eq_2 aBin.eq_3 aBin.eq_4 aUn.eq_1 aUn.eq_2 aLenO.eq_1 aLenS.eq_1 aLenS.eq_2 aLenS.eq_3 aLenT.eq_1 aLen.eq_1 aLen.eq_2 aLen.eq_3 bytesOb.eq_1 bytesOb.eq_2 bytesOf.eq_1 bytesOf.eq_2 aNums.eq_1 aNums.eq_2 isU8.eq_1 aCvI.eq_1 aCvS.eq_1 aCvB.eq_1 aCvB.eq_2 aCvT.eq_1 aConv.eq_1 aConv.eq_2 aConv.eq_3 aConv.eq_4 aExO.eq_1 aExO.eq_2 aExtract.eq_1 aNil.eq_1 aNil.eq_2 aNil.eq_3 aCallS.eq_1 aCallS.eq_2 aCallR.eq_1 aCallR.eq_2 aCallK.eq_1 aCallK.eq_2 aCallK.eq_3 aCall.eq_1 aCall.eq_2 takeO.eq_1 AS.takeV.eq_1 AS.takeV.eq_2 AS.takeV.eq_3 AS.takeV.eq_4 AS.takeV.eq_5 AS.takeV.eq_6 AS.takeV.eq_7 AV.oldM.eq_1 AV.oldM.eq_2 AV.oldM.eq_3 AV.oldM.eq_4 AV.oldM.eq_5 AV.oldM.eq_6 AV.oldM.eq_7 AV.oldM.eq_8 AV.oldM.eq_9 AV.oldM.eq_10 AV.oldM.eq_11 AV.oldML.eq_1 AV.oldML.eq_2 subL.eq_1 subL.eq_2 back.eq_1 back.eq_2 back.eq_3 back.eq_4 backL.eq_1 backI.eq_1 backI.eq_2 backI.eq_3 backI.eq_4 backIL.eq_1 aBuiltin.eq_1 aBuiltin.eq_2 aBuiltin.eq_3 aCallee.eq_1 aCallee.eq_2 aCallee.eq_3 abin.eq_1 abin.eq_2 abin.eq_3 abin.eq_4 abin.eq_5 abin.eq_6 abin.eq_7 abin.eq_8 abin.eq_9 abin.eq_10 abin.eq_11 abin.eq_12 abin.eq_13 abin.eq_14 abin.eq_15 abin.eq_17 abin.eq_18 abin.eq_19 abin.eq_20 abin.eq_21 abin.eq_22 abin.eq_23 AS.ev.eq_1 AS.ev.eq_2 AS.ev.eq_3 AS.ev.eq_4 AS.evs.eq_1 AS.evs.eq_2 AS.evp.eq_1 AS.evp.eq_2 AS.put.eq_1 AS.put.eq_2 AS.remL.eq_1 AS.remL.eq_2 AV.has.eq_1 AV.has.eq_2 AV.has.eq_3 AV.has.eq_4 AV.has.eq_5 AV.has.eq_6 AV.has.eq_7 AV.has.eq_8 AV.has.eq_9 AV.has.eq_10 AV.has.eq_11 AV.hasL.eq_1 AV.hasL.eq_2 Ob.drop.eq_1 Ob.drop.eq_2 Ob.drop.eq_3 Ob.drop.eq_4 AV.cells.eq_1 AV.cells.eq_2 AV.cells.eq_3 AV.cells.eq_4 AV.cells.eq_5 AS.snapT.eq_1 AS.snapT.eq_2 AS.snapT.eq_3 AS.snapT.eq_4 AS.snapT.eq_5 AS.snapT.eq_6 AS.snapT.eq_7 AS.snap.eq_1 AS.snap.eq_2 mapO.eq_1 mapO.eq_2 intern.eq_1 intern.eq_2 intern.eq_3 intern.eq_4 intern.eq_5 intern.eq_6 intern.eq_7 intern.eq_8 intern.eq_9 intern.eq_10 intern.eq_11 internL.eq_1 internL.eq_2 zipSl.eq_1 zipSl.eq_2 AV.ids.eq_1 AV.ids.eq_2 AV.ids.eq_3 AV.ids.eq_4 AV.ids.eq_5 AV.ids.eq_6 AV.ids.eq_7 AV.ids.eq_8 AV.ids.eq_9 AV.ids.eq_10 AV.ids.eq_11 AV.idsL.eq_1 AV.idsL.eq_2 AV.sub.eq_1 AV.sub.eq_2 AV.sub.eq_3 AV.sub.eq_4 AV.sub.eq_5 AV.sub.eq_6 AV.sub.eq_7 AV.sub.eq_8 AV.sub.eq_9 AV.sub.eq_10 AV.sub.eq_11 AV.subL.eq_1 AV.subL.eq_2 AS.frzL.eq_1 AS.frzL.eq_2 AS.absT.eq_1 AS.absT.eq_2 AS.absT.eq_4 AS.absL.eq_1 AS.absL.eq_2 AS.absOk.eq_1 AS.absOkL.eq_1 AS.absOkL.eq_2 hid.eq_1 hids.eq_1 hids.eq_2 AS.appBase.eq_1 AS.appBase.eq_2 AS.appSrc.eq_1 appFits.eq_1 appFits.eq_2 appFits.eq_3 avFill.eq_1 avFill.eq_2 avc.eq_1 avc.eq_2 avc1.eq_1 Kd.agg.eq_1 Kd.agg.eq_2 okR.eq_1 okR.eq_2 okR.eq_3 okR.eq_4 okR.eq_5 okR.eq_6 okR.eq_7 okR.eq_8 zt.eq_1 rvB.eq_1 rvP.eq_1 rvA.eq_1 rvA.eq_2 rv1.eq_1 outTO.eq_1 outT.eq_1 outT.eq_2 outT.eq_3 outTn.eq_1 outOO.eq_1 outO.eq_1 outO.eq_2 boxOf.eq_1 outP.eq_1 outP.eq_2 outP.eq_3 outP.eq_4 outP.eq_5 outP.eq_6 outP.eq_7 outP.eq_8 outPL.eq_1 outPL.eq_2 outI.eq_1 outI.eq_2 outI.eq_3 outI.eq_4 outI.eq_5 outIL.eq_1 outZ.eq_1 outZ.eq_2 outZ.eq_3 outZ.eq_4 outZ.eq_5 outZL.eq_1 finO.eq_1 finO.eq_2 fin.eq_1 fin.eq_2 fin.eq_3 cellAV.eq_1 cellAV.eq_2 numsOf.eq_1 numsOf.eq_2 aop.eq_1 aop.eq_2 aop.eq_3 aop.eq_4 aop.eq_5 aop.eq_6 aop.eq_7 aop.eq_8 aop.eq_9 aop.eq_10 aop.eq_11 aop.eq_12 aop.eq_13 aop.eq_14 aop.eq_15 aop.eq_16 aop.eq_17 aop.eq_18 aop.eq_19 aop.eq_20 aop.eq_21 aop.eq_22 aop.eq_23 aop.eq_24 aop.eq_25 aop.eq_26 tmpsOf.eq_1 tmpsOf.eq_2 tmpsOf.eq_3 tmpsOf.eq_4 tmpsOf.eq_5 AV.refs.eq_1 AV.refs.eq_2 AV.refs.eq_3 AV.refs.eq_4 AV.refs.eq_5 AV.refs.eq_6 AV.refs.eq_7 AV.refs.eq_8 AV.refs.eq_9 AV.refs.eq_10 AV.refs.eq_11 AV.refsL.eq_1 AV.refsL.eq_2 refsT.eq_1 refsT.eq_2 refsO.eq_1 refsO.eq_2 refsO.eq_3 refsO.eq_4 refsO.eq_5 refsO.eq_6 refsB.eq_1 refsB.eq_2 clos.eq_1 clos.eq_2 keepL.eq_1 keepL.eq_2 AV.hasM.eq_1 AV.hasM.eq_2 AV.hasM.eq_3 AV.hasM.eq_4 AV.hasM.eq_5 AV.hasM.eq_6 AV.hasM.eq_7 AV.hasM.eq_8 AV.hasM.eq_9 AV.hasM.eq_10 AV.hasM.eq_11 AV.hasML.eq_1 AV.hasML.eq_2 Ob.dropM.eq_1 Ob.dropM.eq_2 Ob.dropM.eq_3 Ob.dropM.eq_4 nsC.eq_1 nsC.eq_2 okGuard.eq_1 okGuard.eq_2 AS.purges.eq_1 AS.purges.eq_2 dropMB.eq_1 dropMB.eq_2 newB.eq_1 newB.eq_2 ptB.eq_1 ptB.eq_2 lookC.eq_1 lookC.eq_2 dropB.eq_1 dropB.eq_2 leS.eq_1 leS.eq_2 leT.eq_1 leT.eq_2 AS.mvs.eq_1 AS.mvs.eq_2 AS.mvA.eq_1 AS.mvA.eq_2 AS.mvB.eq_1 aSetO.eq_1 aSetO.eq_2 aSh.eq_1 aSh.eq_2 arK.eq_1 aIdxA.eq_1 aIdxA.eq_2 arT.eq_1 aSlHB.eq_1 aSlHB.eq_2 aSlHO.eq_1 aSlHZ.eq_1 aSlHZ.eq_2 isSlT.eq_1 isNilC.eq_1 aNilO.eq_1 aNilX.eq_1 aNilX.eq_2 aNilX.eq_3 aNilC.eq_1 aNilC.eq_2 aBinQ.eq_1 aBinQ.eq_2 aMin.eq_1 flT.eq_1 flT.eq_2 flT.eq_3 mpT.eq_1 aMkMap.eq_1 aMkMap.eq_2 strA.eq_1 keyMK.eq_1 keyMK.eq_2 keyMK.eq_3 mkB.eq_1 mkB.eq_2 mkB.eq_3 aMp2.eq_1 aMp1.eq_1 aMp0.eq_1 aMapU.eq_1 aLk2.eq_1 aLk2.eq_2 aLk1.eq_1 aLk0.eq_1 aLookup.eq_1 aLenMO.eq_1 aLenM.eq_1 glV.eq_1 glV.eq_2 evG.eq_1 evG.eq_2 evG.eq_3 evG.eq_4 lkHitO.eq_1 lkHitO.eq_2 lkHitO.eq_3 lkHitO.eq_4 lkHit.eq_1 lkHit.eq_2 lkF.eq_1 lkF.eq_2 lkFind.eq_1 lkFind.eq_2 lkV.eq_1 lkV.eq_2 lkV.eq_3 lkV.eq_4 lkV.eq_5 AS.lkO.eq_1 AS.lkO.eq_2 AS.lkOf.eq_1 rawT.eq_1 rawT.eq_2 rawT.eq_3 rawT.eq_4 rawT.eq_5 rawT.eq_6 rawOf.eq_1 rawOf.eq_2 rawOf.eq_3 rawOf.eq_4 rawOf.eq_5 rawOf.eq_6 rawOf.eq_7 rawOf.eq_8 rawOf.eq_9 rawOf.eq_10 rawOf.eq_11 aLkR.eq_1 aLkR.eq_2 aLk.eq_1 aLk.eq_2 KL.eq_1 lkDrop.eq_1 lkDrop.eq_2 lkParO.eq_1 lkParO.eq_2 lkParO.eq_3 lkParO.eq_4 lkPar.eq_1 lkPar.eq_2 lkI.eq_1 lkI.eq_2 lkIds.eq_1 lkIds.eq_2 adLd.eq_1 run_nil run_b run_l run_skip run_label run_seq run_cond brV_b brB_t brB_f run_block run_exit run_ret run_region runX_nil runX_c runX_c' runX_b runX_b' runX_l runX_l' exB_t exB_f run_o run_op run_opg gV_b gV_t gB_tt gB_ff gB_tf gB_ft rs_eq kv KI aLenN aBS1 aApp1 aStore1 szOk gv gd s0 idOf look_cons lookC frzU_t frzU_f orT orF drop_any drop_nil drop_t drop_h drop_pb drop_pa drop_agg drop_tup drop_fn dropB kill_eq set_eq rem_eq re_eq up_eq get_eq ob_eq Ob.drop apl fpl plainTy AS.frz splice cond_true cond_false List.map_cons List.map_nil List.drop_zero List.drop_succ_cons List.drop_nil List.take_zero List.take_succ_cons List.take_nil List.getElem?_cons_zero List.getElem?_cons_succ List.getElem?_nil List.length_cons List.length_nil Option.map_some Option.map_none Option.bind_some Option.bind_none List.cons_append List.nil_append List.append_nil Option.getD_some Option.getD_none List.all_cons List.all_nil Bool.and_true Bool.true_and Bool.or_false Bool.false_or Bool.or_true Bool.true_or List.flatten_cons List.flatten_nil List.replicate_succ List.replicate_zero and_true true_and avOf_t avOf_f agg_bool agg_int agg_str agg_slice agg_struct agg_func agg_ptr agg_map avc_bool avc_int avc_str avc_fn avc1_bool avc1_int avc1_str avc1_fn zt_bool zt_int zt_str cells_nil cells_t cells_h cells_pb cells_fn snap_t snap_nil snap_h snap_pb snap_fn rv1_one rv1_two outI_t outI_oh outI_on outI_any outI_nil outZ_th outZ_tt outZ_tn outZ_o outZ_any outZ_nil outIL_nil outZL_nil finN finR ne_eq not_false_eq_true not_true_eq_false List.nodup_nil List.not_mem_nil false_implies implies_true eq_self true_or or_true Option.some.injEq shl_add shl_sub shl_mul shl_quo shl_rem shl_and shl_or shl_xor shl_andNot shl_eql shl_neq shl_lss shl_leq shl_gtr shl_geq shl_shr shl_shl appDeep_none appDeep_sn appSrc_h appSrc_nil fits_ft fits_tn fits_tf isStr_slice obFlat_box Nat.le_refl nbeq_self List.length_map updZ_s updZ_n dropM_eq purge_eq newIds_cons newIds_nil purgeT_nil purgeT_cons memN_cons memN_nil bd_d bd_c bd_g bd_p bd_t bd_o preds_nil preds_cons hasIns insB List.any_cons List.any_nil adK_eq adr_nil adG_eq kdOp noLen creates Op.operands Call.operands nsOf adT adI adJ plainB rst List.append_eq nsD_f nsD_n nsD_t nOf_0 nOf_1 nOf_2 chO_0 chO_1 chO_2 keepK_0 keepK_1 keepK_2 eqRes AS.mv fits KM aCallM notNew kdCall arK_i64 arK_i32 arK_u8 arK_u64 arT_sl isNilC_t isNilC_f isNilC_g isNilC_i isNilC_b isNilC_s isNilC_a isNilC_n andBF andBT aCallK_2 ble_dec hid_t hid_nil hid_any hid_pb hid_fn absOk_t absOk_nil absOk_pb absOk_h absOkO_1 decide_true decide_false Array.toList_append chunk_0 chunk_1 chunk_2 chunk_3 back_t back_nil back_ht backL_nil backI_t backI_nil backI_ht backIL_nil AS.mvJ nbeq_dec runR_f runR_t loadB Option.isSome_some Option.isSome_none nodup1 adr_none adr_some adO_s adV_b adV_t adB_tt adB_ff adB_tf adB_ft adS_eq lenL.eq_1 lenO.eq_1 lenO.eq_2 lenV.eq_1 lenV.eq_2 lenV.eq_3 lenV.eq_4 optN optS absT_ft
attribute [local go_sem] ty3 ty4 ty5 ty9 ty21 ty22 ty23 ty25 ty27 ty28 ty29 ty31 ty33 ty43 ty45 ty46 ty48 ty54 ty57 ty59 ty60 ty62 ty73 ty75 ty91 ty96 ty98 ty101 ty104 ty120 ty125 ty129 ty146 ty166 ty207 ty220 ty237 lv27 lv91 lv104 lv120 zb4 leS leT fits AS.mvs encStr_eq aIdx_str EStr_dec decStrs decStrs0 EStr_enc EStr_n encInt_eq aIdx_int EInt_dec decInts decInts0 EInt_enc EInt_n AllV_Int len_Int lc_enc l0_enc asl_enc ag_enc aow_enc ABool_enc AInt_enc AStr_enc AU8_enc ABool_dec AInt_dec AStr_dec AU8_dec asl_dec ag_dec aow_dec bind_some pr2.eq_1 l0_nil lc_cons unT.eq_1 K0.eq_1 M0.eq_1 KI AllV_Str len_Str ctR_eq ctM_eq ro_kd ro_ro mu_kd mu_mu encAd_eq aIdx_Ad EAd_dec decAds decAds0 EAd_enc EAd_n len_Ad Ad_eta AllV_Ad encMl_eq aIdx_Ml EMl_dec decMls decMls0 EMl_enc EMl_n len_Ml Ml_eta mkMl.eq_1 owMl_eq AMl_enc AMl_dec encRc_eq aIdx_Rc ERc_dec decRcs decRcs0 ERc_enc ERc_n len_Rc Rc_eta AllV_Rc encIm_eq aIdx_Im EIm_dec decIms decIms0 EIm_enc EIm_n len_Im Im_eta mkIm.eq_1 owIm_eq AIm_enc AIm_dec encSp_eq aIdx_Sp ESp_dec decSps decSps0 ESp_enc ESp_n len_Sp Sp_eta mkSp.eq_1 owSp_eq ASp_enc ASp_dec encNt_eq aIdx_Nt ENt_dec decNts decNts0 ENt_enc ENt_n len_Nt Nt_eta mkNt.eq_1 owNt_eq ANt_enc ANt_dec
def bl (s : ByteArray) : List UInt8 := s.data.toList
def mB (l : List UInt8) : ByteArray := ⟨l.toArray⟩
theorem bl_mk (l : List UInt8) : bl (mB l) = l := rfl
theorem mk_bl (s : ByteArray) : mB (bl s) = s := rfl
theorem bl_len (s : ByteArray) : (bl s).length = s.size := rfl
theorem mk_size (l : List UInt8) : (mB l).size = l.length := rfl
theorem byteAt_bl (s : ByteArray) (i : Nat) : byteAt s i = (((bl s).getD i 0).toNat : Int) := rfl
theorem bl_inj {s t : ByteArray} (h : bl s = bl t) : s = t := by
  rw [← mk_bl s, ← mk_bl t, h]
theorem bl_extract (s : ByteArray) (i j : Nat) : bl (s.extract i j) = ((bl s).drop i).take (j - i) := by
  unfold bl
  rw [ByteArray.data_extract, Array.toList_extract]
theorem extract_mk (s : ByteArray) (i j : Nat) : s.extract i j = mB (((bl s).drop i).take (j - i)) := bl_inj (by rw [bl_extract, bl_mk])
theorem byteAt_range (s : ByteArray) (i : Nat) : 0 ≤ byteAt s i ∧ byteAt s i ≤ 255 := by
  rw [byteAt_bl]
  have := ((bl s).getD i 0).toNat_lt
  omega
def isLc (n : Int) : Prop := (97 ≤ n ∧ n ≤ 122) ∨ (48 ≤ n ∧ n ≤ 57)
def Lbl (s : ByteArray) : Prop := (∀ j, j < s.size → isLc (byteAt s j)) ∧ 1 ≤ s.size ∧ s.size ≤ 8
def Lin (s : ByteArray) : Prop := (∀ j, j < s.size → 32 ≤ byteAt s j ∧ byteAt s j ≤ 126) ∧ s.size ≤ 40
def splitN (c : UInt8) : Nat → List UInt8 → List (List UInt8)
  | 0, l => [l]
  | _ + 1, [] => [[]]
  | m + 1, x :: r => if x = c then [] :: splitN c m r else match splitN c (m + 1) r with | h :: t => (x :: h) :: t | [] => [[x]]
def preL (p : List UInt8) : List (List UInt8) → List (List UInt8)
  | h :: t => (p ++ h) :: t
  | [] => [p]
theorem preL_nil : ∀ (l : List (List UInt8)), l ≠ [] → preL [] l = l
  | h :: t, _ => rfl
  | [], h => absurd rfl h
theorem splitN_ne (c : UInt8) : ∀ (m : Nat) (l : List UInt8), splitN c m l ≠ []
  | 0, l => by simp [splitN]
  | m + 1, [] => by simp [splitN]
  | m + 1, x :: r => by
    unfold splitN
    split
    · simp
    · split <;> simp
theorem splitN_hit (c : UInt8) (m : Nat) (r : List UInt8) (p : List UInt8) : preL p (splitN c (m + 1) (c :: r)) = p :: splitN c m r := by
  simp [splitN, preL]
theorem splitN_miss {c x : UInt8} (h : x ≠ c) (m : Nat) (r : List UInt8) (p : List UInt8) : preL p (splitN c (m + 1) (x :: r)) = preL (p ++ [x]) (splitN c (m + 1) r) := by
  cases h1 : splitN c (m + 1) r with
  | nil => exact absurd h1 (splitN_ne c (m + 1) r)
  | cons a t => simp only [splitN, if_neg h, h1, preL, List.append_assoc, List.singleton_append]
theorem splitN_0 (c : UInt8) (l : List UInt8) (p : List UInt8) : preL p (splitN c 0 l) = [p ++ l] := by simp [splitN, preL]
theorem splitN_end (c : UInt8) (m : Nat) (p : List UInt8) : preL p (splitN c m []) = [p] := by
  cases m <;> simp [splitN, preL]
def cutL (s : ByteArray) (c : UInt8) (m : Nat) : List ByteArray := (splitN c m (bl s)).map mB
def c71 : Ct := ctR (lc AInt (lc AInt (lc AInt l0))) (fun p => True) (fun p => .t (.v (.bool (bOf (p.2.1 ≤ p.1 ∧ p.1 ≤ p.2.2.1)))))
theorem good71 {G : Gt} (hG : OkG G) : Gd G 71 (roEnt 0 c71) := by
  refine gR (dp := fun _ => true) (fn := Tryz.f71) (n := 3) (fun _ => rfl) (by kernel_rfl) rfl (by kernel_rfl) hG (Nat.le_of_ble_eq_true rfl) (by kernel_rfl) (by decide) (fun _ _ => .v _) ?_
  rintro ⟨n, lo, hi, ⟨⟩⟩ hpre
  simp -implicitDefEqProofs only [Tryz.f71, go_sem] at hpre ⊢
  repeat' (first | with_reducible apply And.intro | with_reducible intro _ | ((first | apply brB_split | apply aPickB_split | apply gB_split | apply adB_split) <;> intro hb <;> simp -implicitDefEqProofs only [hb, go_sem] <;> try simp only [qz] at hb))
  all_goals first
    | (rw [bOf_n (by omega)]; done)
    | (rw [bOf_d]; simp [*]; done)
    | trace_state
def c123 : Ct := ctR (lc AStr l0) (fun p => True) (fun p => .t (.v (.bool (bOf (Lbl p.1)))))
section
attribute [local go_sem] c71
theorem good123 {G : Gt} (hG : OkG G) (hh : G.e 71 = roEnt 0 c71) : Gd G 123 (roEnt 0 c123) := by
  refine gR (dp := fun _ => true) (fn := Tryz.f123) (n := 1) (fun _ => rfl) (by kernel_rfl) rfl (by kernel_rfl) hG (Nat.le_of_ble_eq_true rfl) (by kernel_rfl) (by decide) (fun _ _ => .v _) ?_
  rintro ⟨s, ⟨⟩⟩ hpre
  simp -implicitDefEqProofs only [Tryz.f123, go_sem, hh] at hpre ⊢
  refine run_loop [] (ι := {i : Nat // i ≤ s.size ∧ ∀ j, j < i → isLc (byteAt s j)}) (fun p => ⟨[(0, .t (.v (.string s))), (3, .t (.v (.int .i64 p.1)))], []⟩) (fun p => s.size - p.1) ⟨0, by simp, by simp⟩ rfl ?_ ?_
  · simp -implicitDefEqProofs only [go_sem, hh]
    simp
  · rintro ⟨i, hi, hall⟩
    simp -implicitDefEqProofs only [go_sem, hh]
    repeat' (first | with_reducible apply And.intro | with_reducible intro _ | ((first | apply brB_split | apply aPickB_split | apply gB_split | apply adB_split) <;> intro hb <;> simp -implicitDefEqProofs only [hb, go_sem, hh] <;> try simp only [qz] at hb))
    all_goals (try simp only [maxLen, Int.toNat_natCast] at *)
    all_goals (try have hbr := byteAt_range s i)
    all_goals first | rfl | omega | skip
    all_goals first
      | (rw [bOf_n (fun hq => by have hq1 := hq.1 i (by omega); simp only [isLc] at *; omega)]; done)
      | (refine ⟨⟨i + 1, by omega, fun j hj => ?_⟩, by dsimp only; omega, ?_⟩
         · by_cases e : j = i
           · subst e; simp only [isLc] at *; omega
           · exact hall j (by omega)
         · simp -implicitDefEqProofs only [go_sem, hh]
           simp)
      | skip
    · rw [bOf_congr]
      exact ⟨fun h => ⟨fun j hj => hall j (by omega), by omega⟩, fun h => by have := h.2; omega⟩
end
def c96 : Ct := ctR (lc AStr l0) (fun p => True) (fun p => .t (.v (.bool (bOf (Lin p.1)))))
theorem good96 {G : Gt} (hG : OkG G) : Gd G 96 (roEnt 0 c96) := by
  refine gR (dp := fun _ => true) (fn := Tryz.f96) (n := 1) (fun _ => rfl) (by kernel_rfl) rfl (by kernel_rfl) hG (Nat.le_of_ble_eq_true rfl) (by kernel_rfl) (by decide) (fun _ _ => .v _) ?_
  rintro ⟨s, ⟨⟩⟩ hpre
  simp -implicitDefEqProofs only [Tryz.f96, go_sem] at hpre ⊢
  refine run_loop [] (ι := {i : Nat // i ≤ s.size ∧ ∀ j, j < i → 32 ≤ byteAt s j ∧ byteAt s j ≤ 126}) (fun p => ⟨[(0, .t (.v (.string s))), (3, .t (.v (.int .i64 p.1)))], []⟩) (fun p => s.size - p.1) ⟨0, by simp, by simp⟩ rfl ?_ ?_
  · simp -implicitDefEqProofs only [go_sem]
    simp
  · rintro ⟨i, hi, hall⟩
    simp -implicitDefEqProofs only [go_sem]
    repeat' (first | with_reducible apply And.intro | with_reducible intro _ | ((first | apply brB_split | apply aPickB_split | apply gB_split | apply adB_split) <;> intro hb <;> simp -implicitDefEqProofs only [hb, go_sem] <;> try simp only [qz] at hb))
    all_goals (try simp only [maxLen, Int.toNat_natCast] at *)
    all_goals (try have hbr := byteAt_range s i)
    all_goals first | rfl | omega | skip
    all_goals first
      | (rw [bOf_n (fun hq => by have hq1 := hq.1 i (by omega); skip; omega)]; done)
      | (refine ⟨⟨i + 1, by omega, fun j hj => ?_⟩, by dsimp only; omega, ?_⟩
         · by_cases e : j = i
           · subst e; skip; omega
           · exact hall j (by omega)
         · simp -implicitDefEqProofs only [go_sem]
           simp)
      | skip
    · rw [← bOf_d, bOf_congr]
      exact ⟨fun h => ⟨fun j hj => hall j (by omega), by omega⟩, fun h => by have := h.2; omega⟩
structure CutSt (s : ByteArray) (c : UInt8) (m : Nat) where
  i : Nat
  fr : Nat
  o : List (List UInt8)
  hi : i ≤ s.size
  hf : fr ≤ i
  ho : o.length ≤ m
  h : o ++ preL (((bl s).drop fr).take (i - fr)) (splitN c (m - o.length) ((bl s).drop i)) = splitN c m (bl s)
theorem take_snoc {l : List UInt8} {fr i : Nat} (hf : fr ≤ i) (hi : i < l.length) : (l.drop fr).take (i + 1 - fr) = (l.drop fr).take (i - fr) ++ [l.getD i 0] := by
  have e : i + 1 - fr = (i - fr) + 1 := by omega
  rw [e, List.take_add_one]
  have : (l.drop fr)[i - fr]? = some (l.getD i 0) := by
    rw [List.getElem?_drop]
    have : fr + (i - fr) = i := by omega
    rw [this]
    simp [hi]
  rw [this]; rfl
def CutSt.start (s : ByteArray) (c : UInt8) (m : Nat) : CutSt s c m := ⟨0, 0, [], Nat.zero_le _, Nat.le_refl _, Nat.zero_le _, by
  simp only [Nat.sub_self, List.take_zero, List.nil_append, List.length_nil, Nat.sub_zero, List.drop_zero]
  exact preL_nil _ (splitN_ne c m _)⟩
theorem drop_byte {s : ByteArray} {i : Nat} (h : i < s.size) : (bl s).drop i = (bl s).getD i 0 :: (bl s).drop (i + 1) := by
  have h' : i < (bl s).length := h
  rw [List.drop_eq_getElem_cons h']
  simp [h']
def CutSt.hit {s : ByteArray} {c : UInt8} {m : Nat} (z : CutSt s c m) (h1 : z.i < s.size) (h2 : z.o.length < m) (h3 : (bl s).getD z.i 0 = c) : CutSt s c m :=
  ⟨z.i + 1, z.i + 1, z.o ++ [((bl s).drop z.fr).take (z.i - z.fr)], h1, Nat.le_refl _, by simp; omega, by
    have h := z.h
    obtain ⟨k, hk⟩ : ∃ k, m - z.o.length = k + 1 := ⟨m - z.o.length - 1, by omega⟩
    rw [hk, drop_byte h1, h3, splitN_hit] at h
    have e : m - (z.o ++ [((bl s).drop z.fr).take (z.i - z.fr)]).length = k := by simp; omega
    rw [e, Nat.sub_self, List.take_zero, preL_nil _ (splitN_ne _ _ _), List.append_assoc, List.singleton_append]
    exact h⟩
def CutSt.miss {s : ByteArray} {c : UInt8} {m : Nat} (z : CutSt s c m) (h1 : z.i < s.size) (h2 : z.o.length < m) (h3 : (bl s).getD z.i 0 ≠ c) : CutSt s c m :=
  ⟨z.i + 1, z.fr, z.o, h1, Nat.le_succ_of_le z.hf, z.ho, by
    have h := z.h
    obtain ⟨k, hk⟩ : ∃ k, m - z.o.length = k + 1 := ⟨m - z.o.length - 1, by omega⟩
    rw [hk, drop_byte h1, splitN_miss h3] at h
    rw [hk, take_snoc (l := bl s) z.hf (by rw [bl_len]; exact h1)]
    exact h⟩
theorem CutSt.done {s : ByteArray} {c : UInt8} {m : Nat} (z : CutSt s c m) (h : ¬ z.i < s.size ∨ ¬ z.o.length < m) : z.o.map mB ++ [s.extract z.fr s.size] = cutL s c m := by
  have hz := z.h
  have e0 : s.extract z.fr s.size = mB ((bl s).drop z.fr) := by
    rw [extract_mk]
    congr 1
    rw [List.take_of_length_le (by rw [List.length_drop, bl_len]; exact Nat.le_refl _)]
  unfold cutL
  rw [← hz, List.map_append, e0]
  congr 1
  rcases h with h | h
  · have hi := z.hi
    have e : (bl s).drop z.i = [] := List.drop_of_length_le (by rw [bl_len]; omega)
    rw [e, splitN_end]
    have : ((bl s).drop z.fr).take (z.i - z.fr) = (bl s).drop z.fr := List.take_of_length_le (by rw [List.length_drop, bl_len]; omega)
    rw [this]; rfl
  · have hk : m - z.o.length = 0 := by omega
    rw [hk, splitN_0]
    have hf := z.hf
    have : ((bl s).drop z.fr).take (z.i - z.fr) ++ (bl s).drop z.i = (bl s).drop z.fr := by
      have e : (bl s).drop z.i = ((bl s).drop z.fr).drop (z.i - z.fr) := by rw [List.drop_drop]; congr 1; omega
      rw [e, List.take_append_drop]
    rw [this]; rfl
theorem ex_take (s : ByteArray) (z : List (List UInt8)) (fr i : Nat) : z.map mB ++ [s.extract fr i] = (z ++ [((bl s).drop fr).take (i - fr)]).map mB := by
  rw [extract_mk, List.map_append]; rfl
theorem app_str (l : List ByteArray) (x : ByteArray) : l.map encStr ++ [[T.v (.string x)]] = (l ++ [x]).map encStr := by simp [encStr]
theorem app_ex (s : ByteArray) (z : List (List UInt8)) (fr i : Nat) : (z.map mB).map encStr ++ [[T.v (.string (s.extract fr i))]] = ((z ++ [((bl s).drop fr).take (i - fr)]).map mB).map encStr := by
  rw [app_str, ex_take]
theorem byteAt_eq {s : ByteArray} {i : Nat} {c : UInt8} : byteAt s i = (c.toNat : Int) ↔ (bl s).getD i 0 = c := by
  rw [byteAt_bl]
  constructor
  · intro h
    have : ((bl s).getD i 0).toNat = c.toNat := by omega
    exact UInt8.toNat_inj.1 this
  · intro h; rw [h]
def c136 : Ct := ctR (lc AStr (lc AU8 (lc AInt l0))) (fun p => 0 ≤ p.2.1 ∧ p.2.1 ≤ 255 ∧ 0 ≤ p.2.2.1 ∧ p.2.2.1 ≤ 1000) (fun p => .o true 1 ((cutL p.1 (UInt8.ofNat p.2.1.toNat) p.2.2.1.toNat).map encStr))
section
attribute [local go_sem] List.length_map List.map_nil List.length_nil
theorem good136 {G : Gt} (hG : OkG G) : Gd G 136 (roEnt 0 c136) := by
  refine gR (dp := fun _ => true) (fn := Tryz.f136) (n := 3) (fun _ => rfl) (by kernel_rfl) rfl (by kernel_rfl) hG (Nat.le_of_ble_eq_true rfl) (by kernel_rfl) (by decide) (fun _ p => .deep _ _) ?_
  rintro ⟨s, c, m, ⟨⟩⟩ hpre
  simp -implicitDefEqProofs only [Tryz.f136, go_sem] at hpre ⊢
  obtain ⟨c, rfl⟩ : ∃ b : UInt8, c = (b.toNat : Int) := ⟨UInt8.ofNat c.toNat, by simp; omega⟩
  obtain ⟨m, rfl⟩ : ∃ n : Nat, m = (n : Int) := ⟨m.toNat, by omega⟩
  repeat' (first | with_reducible apply And.intro | with_reducible intro _ | ((first | apply brB_split | apply aPickB_split | apply gB_split | apply adB_split) <;> intro hb <;> simp -implicitDefEqProofs only [hb, go_sem] <;> try simp only [qz] at hb))
  all_goals first | rfl | omega | skip
  refine run_loop [(7, 1901, true, 1)] (ι := CutSt s c m) (fun z => ⟨[(0, .t (.v (.string s))), (1, .t (.v (.int .u8 c.toNat))), (2, .t (.v (.int .i64 m))), (7, .h 1901), (8, .t (.v (.int .i64 z.fr))), (9, .t (.v (.int .i64 z.i)))], [(1901, some (.arr true 1 ((z.o.map mB).map encStr)))]⟩) (fun z => s.size - z.i) (CutSt.start s c m) rfl ?_ ?_
  · simp -implicitDefEqProofs only [go_sem]
    simp [CutSt.start]
  · intro z
    have h1 := z.hi
    have h2 := z.hf
    have h3 := z.ho
    simp -implicitDefEqProofs only [go_sem]
    repeat' (first | with_reducible apply And.intro | with_reducible intro _ | ((first | apply brB_split | apply aPickB_split | apply gB_split | apply adB_split) <;> intro hb <;> simp -implicitDefEqProofs only [hb, go_sem] <;> try simp only [qz] at hb))
    all_goals (try simp only [maxLen, Int.toNat_natCast, List.length_map] at *)
    all_goals first | rfl | omega | (simp_all; done) | skip
    · refine ⟨z.hit (by omega) (by omega) (byteAt_eq.1 hb), by simp only [CutSt.hit]; omega, ?_⟩
      rw [app_ex]
      simp -implicitDefEqProofs only [go_sem]
      simp [CutSt.hit]
    · refine ⟨z.miss (by omega) (by omega) (fun e => hb (byteAt_eq.2 e)), by simp only [CutSt.miss]; omega, ?_⟩
      simp -implicitDefEqProofs only [go_sem]
      simp [CutSt.miss]
    · rw [app_str, z.done (.inr (by omega)), UInt8.ofNat_toNat]
    · rw [app_str, z.done (.inl (by omega)), UInt8.ofNat_toNat]
end
def Dom (s : ByteArray) : Prop := (∀ w ∈ cutL s 46 3, Lbl w) ∧ (cutL s 46 3).length ≤ 3
def AdOk (a : Ad) : Prop := Lbl a.user ∧ Dom a.domain
def AdNull (a : Ad) : Prop := a.user = ⟨#[]⟩ ∧ a.domain = ⟨#[]⟩
def BdOk (b : List ByteArray) : Prop := (∀ s ∈ b, Lin s) ∧ b.length ≤ 12
def MlOk (m : Ml) : Prop := (∀ a ∈ m.to, AdOk a) ∧ m.to.Nodup ∧ (AdOk m.frm ∨ AdNull m.frm) ∧ (1 ≤ m.to.length ∧ m.to.length ≤ 4) ∧ BdOk m.body
def Ends (s e : ByteArray) : Prop := s = e ∨ (e.size < s.size ∧ s.extract (s.size - e.size) s.size = e ∧ byteAt s (s.size - e.size - 1) = 46)
def Has (s p : ByteArray) : Prop := ∃ i, i + p.size ≤ s.size ∧ s.extract i (i + p.size) = p
theorem cutL_len (s : ByteArray) (c : UInt8) (m : Nat) : (cutL s c m).length ≤ m + 1 := by
  unfold cutL
  rw [List.length_map]
  generalize bl s = l
  induction l generalizing m with
  | nil => cases m <;> simp [splitN]
  | cons x r ih =>
    cases m with
    | zero => simp [splitN]
    | succ m =>
      unfold splitN
      split
      · have := ih m; simp; omega
      · have := ih (m + 1)
        split
        · rename_i h; rw [h] at this; simpa using this
        · simp
theorem mem_getD {α : Type} [Inhabited α] {xs : List α} {P : α → Prop} (h : ∀ j, j < xs.length → P (xs.getD j default)) : ∀ x ∈ xs, P x := fun x hx => by
  obtain ⟨j, hj, rfl⟩ := List.getElem_of_mem hx
  have := h j hj
  simpa [hj] using this
theorem getD_mem {α : Type} [Inhabited α] {xs : List α} {j : Nat} (h : j < xs.length) : xs.getD j default ∈ xs := by
  simp [h]
theorem nodup_of {α : Type} [Inhabited α] {xs : List α} (h : ∀ j, j < xs.length → ∀ k, k < j → ¬ xs.getD k default = xs.getD j default) : xs.Nodup := by
  rw [List.nodup_iff_pairwise_ne, List.pairwise_iff_getElem]
  intro k j hk hj hkj
  have := h j hj k hkj
  simpa [hk, hj] using this
theorem neqb {a b : Ad} (h : (false != (decide (a.user = b.user) && decide (a.domain = b.domain))) = false) : ¬ a = b := fun e => by
  subst e; simp at h
theorem all_step {α : Type} [Inhabited α] {xs : List α} {P : α → Prop} {i : Nat} (hall : ∀ j, j < i → P (xs.getD j default)) (h : P (xs.getD i default)) : ∀ j, j < i + 1 → P (xs.getD j default) := fun j hj => by
  by_cases e : j = i
  · subst e; exact h
  · exact hall j (by omega)
def c93 : Ct := ctR (lc AStr l0) (fun p => True) (fun p => .t (.v (.bool (bOf (Dom p.1)))))
section
attribute [local go_sem] c136 c123 aCell_map List.length_map
theorem good93 {G : Gt} (hG : OkG G) (hh : G.e 136 = roEnt 0 c136 ∧ G.e 123 = roEnt 0 c123) : Gd G 93 (roEnt 0 c93) := by
  refine gR (dp := fun _ => true) (fn := Tryz.f93) (n := 1) (fun _ => rfl) (by kernel_rfl) rfl (by kernel_rfl) hG (Nat.le_of_ble_eq_true rfl) (by kernel_rfl) (by decide) (fun _ _ => .v _) ?_
  rintro ⟨s, ⟨⟩⟩ hpre
  simp -implicitDefEqProofs only [Tryz.f93, go_sem, hh] at hpre ⊢
  repeat' (first | with_reducible apply And.intro | with_reducible intro _ | ((first | apply brB_split | apply aPickB_split | apply gB_split | apply adB_split) <;> intro hb <;> simp -implicitDefEqProofs only [hb, go_sem, hh] <;> try simp only [qz] at hb))
  all_goals first | rfl | omega | skip
  have e46 : UInt8.ofNat (46 : Int).toNat = 46 := rfl
  have e3 : (3 : Int).toNat = 3 := rfl
  rw [e46, e3] at *
  refine run_loop [] (ι := {i : Nat // i ≤ (cutL s 46 3).length ∧ ∀ j, j < i → Lbl ((cutL s 46 3).getD j default)}) (fun p => ⟨[(3, .h 1006), (4, .t (.v (.int .i64 p.1)))], [(1006, some (.arr true 1 ((cutL s 46 3).map encStr)))]⟩) (fun p => (cutL s 46 3).length - p.1) ⟨0, by simp, by simp⟩ rfl ?_ ?_
  · simp -implicitDefEqProofs only [go_sem, hh]
    simp
  · rintro ⟨i, hi, hall⟩
    simp -implicitDefEqProofs only [go_sem, hh]
    repeat' (first | with_reducible apply And.intro | with_reducible intro _ | ((first | apply brB_split | apply aPickB_split | apply gB_split | apply adB_split) <;> intro hb <;> simp -implicitDefEqProofs only [hb, go_sem, hh] <;> try simp only [qz] at hb))
    all_goals (try simp only [maxLen, Int.toNat_natCast, List.length_map] at *)
    all_goals first | rfl | omega | skip
    · rw [bOf_n (fun h => hb (h.1 _ (getD_mem (by omega))))]
    · refine ⟨⟨i + 1, by omega, all_step hall hb⟩, by dsimp only; omega, ?_⟩
      simp -implicitDefEqProofs only [go_sem, hh]
      simp
    · rw [← bOf_d, bOf_congr]
      exact ⟨fun h => ⟨mem_getD fun j hj => hall j (by omega), by omega⟩, fun h => by have := h.2; omega⟩
end
def c74 : Ct := ctR (lc EAd.ag l0) (fun p => True) (fun p => .t (.v (.bool (bOf (AdOk p.1)))))
section
attribute [local go_sem] c123 c93
theorem good74 {G : Gt} (hG : OkG G) (hh : G.e 123 = roEnt 0 c123 ∧ G.e 93 = roEnt 0 c93) : Gd G 74 (roEnt 0 c74) := by
  refine gR (dp := fun _ => true) (fn := Tryz.f74) (n := 1) (fun _ => rfl) (by kernel_rfl) rfl (by kernel_rfl) hG (Nat.le_of_ble_eq_true rfl) (by kernel_rfl) (by decide) (fun _ _ => .v _) ?_
  rintro ⟨a, ⟨⟩⟩ hpre
  simp -implicitDefEqProofs only [Tryz.f74, go_sem, hh] at hpre ⊢
  repeat' (first | with_reducible apply And.intro | with_reducible intro _ | ((first | apply brB_split | apply aPickB_split | apply gB_split | apply adB_split) <;> intro hb <;> simp -implicitDefEqProofs only [hb, go_sem, hh] <;> try simp only [qz] at hb))
  all_goals first
    | rfl
    | (rw [bOf_n (fun h => hb h.1)]; done)
    | (rw [bOf_congr]; exact ⟨fun h => ⟨by assumption, h⟩, fun h => h.2⟩)
    | trace_state
end
def c72 : Ct := ctR (lc EAd.ag l0) (fun p => True) (fun p => .t (.v (.bool (bOf (AdNull p.1)))))
theorem good72 {G : Gt} (hG : OkG G) : Gd G 72 (roEnt 0 c72) := by
  refine gR (dp := fun _ => true) (fn := Tryz.f72) (n := 1) (fun _ => rfl) (by kernel_rfl) rfl (by kernel_rfl) hG (Nat.le_of_ble_eq_true rfl) (by kernel_rfl) (by decide) (fun _ _ => .v _) ?_
  rintro ⟨a, ⟨⟩⟩ hpre
  simp -implicitDefEqProofs only [Tryz.f72, go_sem] at hpre ⊢
  repeat' (first | with_reducible apply And.intro | with_reducible intro _ | ((first | apply brB_split | apply aPickB_split | apply gB_split | apply adB_split) <;> intro hb <;> simp -implicitDefEqProofs only [hb, go_sem] <;> try simp only [qz] at hb))
  all_goals first
    | rfl
    | (rw [bOf_n (fun h => hb h.1)]; done)
    | (rw [← bOf_d, bOf_congr]; exact ⟨fun h => ⟨by assumption, h⟩, fun h => h.2⟩)
    | trace_state
def c122 : Ct := ctR (lc EStr.asl l0) (fun p => True) (fun p => .t (.v (.bool (bOf (BdOk p.1)))))
section
attribute [local go_sem] c96
theorem good122 {G : Gt} (hG : OkG G) (hh : G.e 96 = roEnt 0 c96) : Gd G 122 (roEnt 0 c122) := by
  refine gR (dp := fun _ => true) (fn := Tryz.f122) (n := 1) (fun _ => rfl) (by kernel_rfl) rfl (by kernel_rfl) hG (Nat.le_of_ble_eq_true rfl) (by kernel_rfl) (by decide) (fun _ _ => .v _) ?_
  rintro ⟨xs, ⟨⟩⟩ hpre
  simp -implicitDefEqProofs only [Tryz.f122, go_sem, hh] at hpre ⊢
  refine run_loop [] (ι := {i : Nat // i ≤ xs.length ∧ ∀ j, j < i → Lin (xs.getD j default)}) (fun p => ⟨[(0, .t (.sl 1 (xs.map encStr))), (3, .t (.v (.int .i64 p.1)))], []⟩) (fun p => xs.length - p.1) ⟨0, by simp, by simp⟩ rfl ?_ ?_
  · simp -implicitDefEqProofs only [go_sem, hh]
    simp
  · rintro ⟨i, hi, hall⟩
    simp -implicitDefEqProofs only [go_sem, hh]
    repeat' (first | with_reducible apply And.intro | with_reducible intro _ | ((first | apply brB_split | apply aPickB_split | apply gB_split | apply adB_split) <;> intro hb <;> simp -implicitDefEqProofs only [hb, go_sem, hh] <;> try simp only [qz] at hb))
    all_goals (try simp only [maxLen, Int.toNat_natCast, List.length_map] at *)
    all_goals first | rfl | omega | skip
    · rw [bOf_n (fun h => hb (h.1 _ (getD_mem (by omega))))]
    · refine ⟨⟨i + 1, by omega, all_step hall hb⟩, by dsimp only; omega, ?_⟩
      simp -implicitDefEqProofs only [go_sem, hh]
      simp
    · rw [← bOf_d, bOf_congr]
      exact ⟨fun h => ⟨mem_getD fun j hj => hall j (by omega), by omega⟩, fun h => by have := h.2; omega⟩
end
def c73 : Ct := ctR (lc EMl.ag l0) (fun p => True) (fun p => .t (.v (.bool (bOf (MlOk p.1)))))
section
attribute [local go_sem] c74 c72 c71 c122 List.length_map List.map_nil List.length_nil
theorem good73 {G : Gt} (hG : OkG G) (hh : G.e 74 = roEnt 0 c74 ∧ G.e 72 = roEnt 0 c72 ∧ G.e 71 = roEnt 0 c71 ∧ G.e 122 = roEnt 0 c122) : Gd G 73 (roEnt 0 c73) := by
  refine gR (dp := fun _ => true) (fn := Tryz.f73) (n := 1) (fun _ => rfl) (by kernel_rfl) rfl (by kernel_rfl) hG (Nat.le_of_ble_eq_true rfl) (by kernel_rfl) (by decide) (fun _ _ => .v _) ?_
  rintro ⟨m, ⟨⟩⟩ hpre
  simp -implicitDefEqProofs only [Tryz.f73, go_sem, hh] at hpre ⊢
  refine run_loop [] (ι := {i : Nat // i ≤ m.to.length ∧ (∀ j, j < i → AdOk (m.to.getD j default)) ∧ ∀ j, j < i → ∀ k, k < j → ¬ m.to.getD k default = m.to.getD j default}) (fun p => ⟨[(1, .pb 1001 0), (3, .t (.v (.int .i64 p.1)))], [(1001, some (.box [.t (.v (.string m.frm.user)), .t (.v (.string m.frm.domain)), .t (.sl 2 (m.to.map encAd)), .t (.sl 1 (m.body.map encStr))]))]⟩) (fun p => m.to.length - p.1) ⟨0, by simp, by simp, by simp⟩ rfl ?_ ?_
  · simp -implicitDefEqProofs only [go_sem, hh]
    simp
  · rintro ⟨i, hi, hall, hno⟩
    simp -implicitDefEqProofs only [go_sem, hh]
    repeat' (first | with_reducible apply And.intro | with_reducible intro _ | ((first | apply brB_split | apply aPickB_split | apply gB_split | apply adB_split) <;> intro hb <;> simp -implicitDefEqProofs only [hb, go_sem, hh] <;> try simp only [qz] at hb))
    all_goals (try simp only [maxLen, Int.toNat_natCast, List.length_map] at *)
    all_goals first | rfl | omega | skip
    · rw [bOf_n (fun h => hb (h.1 _ (getD_mem (by omega))))]
    · refine run_loop [] (ι := {k : Nat // k ≤ i ∧ ∀ j, j < k → ¬ m.to.getD j default = m.to.getD i default}) (fun p => ⟨[(1, .pb 1001 0), (3, .t (.v (.int .i64 i))), (4, .t (.v (.int .i64 p.1)))], [(1001, some (.box [.t (.v (.string m.frm.user)), .t (.v (.string m.frm.domain)), .t (.sl 2 (m.to.map encAd)), .t (.sl 1 (m.body.map encStr))]))]⟩) (fun p => i - p.1) ⟨0, by simp, by simp⟩ rfl ?_ ?_
      · simp -implicitDefEqProofs only [go_sem, hh]
        simp
      · rintro ⟨k, hk, hk2⟩
        simp -implicitDefEqProofs only [go_sem, hh]
        repeat' (first | with_reducible apply And.intro | with_reducible intro _ | ((first | apply brB_split | apply aPickB_split | apply gB_split | apply adB_split) <;> intro hb <;> simp -implicitDefEqProofs only [hb, go_sem, hh] <;> try simp only [qz] at hb))
        all_goals (try simp only [maxLen, Int.toNat_natCast, List.length_map] at *)
        all_goals first | rfl | omega | skip
        · have e : m.to.getD k default = m.to.getD i default := Ad_ext.2 (by simpa using hb)
          rw [bOf_n]
          intro h
          have hn := h.2.1
          have q1 : k < m.to.length := by omega
          have q2 : i < m.to.length := by omega
          simp only [List.getD_eq_getElem?_getD, List.getElem?_eq_getElem q1, List.getElem?_eq_getElem q2, Option.getD_some] at e
          exact List.pairwise_iff_getElem.1 (List.nodup_iff_pairwise_ne.1 hn) k i q1 q2 (by omega) e
        · refine ⟨⟨k + 1, by omega, fun j hj => ?_⟩, by dsimp only; omega, ?_⟩
          · by_cases e : j = k
            · subst e; exact neqb hb
            · exact hk2 j (by omega)
          · simp -implicitDefEqProofs only [go_sem, hh]
            simp
        · refine ⟨⟨i + 1, by omega, all_step hall (by assumption), fun j hj q hq => ?_⟩, by dsimp only; omega, ?_⟩
          · by_cases e : j = i
            · subst e; exact hk2 q (by omega)
            · exact hno j (by omega) q hq
          · simp -implicitDefEqProofs only [go_sem, hh]
            simp
    all_goals have hlen : m.to.length ≤ i := by omega
    all_goals have hA : ∀ a ∈ m.to, AdOk a := mem_getD fun j hj => hall j (by omega)
    all_goals have hN : m.to.Nodup := nodup_of fun j hj q hq => hno j (by omega) q hq
    all_goals first
      | (rw [bOf_congr]
         exact ⟨fun h => ⟨hA, hN, by first | exact .inl (by assumption) | exact .inr (by assumption), by omega, h⟩, fun h => h.2.2.2.2⟩)
      | (rw [bOf_n]
         intro h
         first
           | (have := h.2.2.2.1; omega)
           | (rcases h.2.2.1 with q | q <;> contradiction))
end
theorem two_args {w : World} {pr : Nat → Prop} {u v : Value} {vs : List Value} (h : AHasL ρ0 w pr [.t (.v u), .t (.v v)] vs []) : vs = [u, v] := by
  obtain ⟨a, l, rfl, h1, h2⟩ := h.one
  obtain ⟨b, l2, rfl, h3, h4⟩ := h2.one
  generalize hF : ([] : List Nat) = F at h4
  cases h4
  rw [h1.val.1, h3.val.1]
theorem GlOk.cell {m : Int} {w : World} {pr : Nat → Prop} (h : GlOk m w pr) : w.cell? ⟨0, 0, none⟩ = some (.int .i64 m) := by
  unfold GlOk at h
  cases h with
  | rop cs a vs hp hv hr =>
    cases hr with
    | cons t v ts vs h1 h2 =>
      cases h1 with
      | v x hx =>
        have := hv 0 (.int .i64 m) rfl
        simpa [Addr.add, glb] using this
def c223 : Ct := ctR (lc AStr (lc AU8 l0)) (fun _ => True) (fun p => .t (.v (.int .i64 (Lib.indexByte (bl p.1) (UInt8.ofNat p.2.1.toNat)))))
theorem c223_eq {args : List AV} {K : AV → Prop} : c223 args K = K0 (fun (_ : ByteArray × Int × Unit) => True) (fun p => .t (.v (.int .i64 (Lib.indexByte (bl p.1) (UInt8.ofNat p.2.1.toNat))))) K ((lc AStr (lc AU8 l0)).dec args) := rfl
theorem good223 (m : Int) : GoodX Tryz.prog m 223 c223 := GoodX.of (r := fun (p : ByteArray × Int × Unit) => .int .i64 (Lib.indexByte (bl p.1) (UInt8.ofNat p.2.1.toNat))) (fun _ => trivial) fun p _ => by
  obtain ⟨s, c, ⟨⟩⟩ := p
  intro w pr vs hgl hv
  have := two_args hv
  subst this
  have he : Extern.find Tryz.f223 = some Extern.BytealgIndexByte.indexByte := by kernel_rfl
  rw [run_callFunc_extern (fn := Tryz.f223) (by kernel_rfl) (by kernel_rfl) rfl (by kernel_rfl) he]
  have h := Lib.run_indexByteString (P := Tryz.prog) s c w
  rw [show ([Value.string s, Value.int .u8 c].toArray) = #[.string s, .int .u8 c] from rfl, h]
  rfl
def c196 : Ct := ctR (lc AStr (lc AU8 l0)) (fun _ => True) (fun p => .t (.v (.int .i64 (Lib.countByte (bl p.1) (UInt8.ofNat p.2.1.toNat)))))
theorem c196_eq {args : List AV} {K : AV → Prop} : c196 args K = K0 (fun (_ : ByteArray × Int × Unit) => True) (fun p => .t (.v (.int .i64 (Lib.countByte (bl p.1) (UInt8.ofNat p.2.1.toNat))))) K ((lc AStr (lc AU8 l0)).dec args) := rfl
theorem good196 (m : Int) : GoodX Tryz.prog m 196 c196 := GoodX.of (r := fun (p : ByteArray × Int × Unit) => .int .i64 (Lib.countByte (bl p.1) (UInt8.ofNat p.2.1.toNat))) (fun _ => trivial) fun p _ => by
  obtain ⟨s, c, ⟨⟩⟩ := p
  intro w pr vs hgl hv
  have := two_args hv
  subst this
  have he : Extern.find Tryz.f196 = some Extern.BytealgCount.count := by kernel_rfl
  rw [run_callFunc_extern (fn := Tryz.f196) (by kernel_rfl) (by kernel_rfl) rfl (by kernel_rfl) he]
  have h := Lib.run_countString (P := Tryz.prog) s c w
  rw [show ([Value.string s, Value.int .u8 c].toArray) = #[.string s, .int .u8 c] from rfl, h]
  rfl
def c213 (m : Int) : Ct := ctR (lc AStr (lc AStr l0)) (fun p => 2 ≤ p.2.1.size ∧ (p.2.1.size : Int) ≤ m ∧ p.1.size ≤ 2000000) (fun p => .t (.v (.int .i64 (Lib.indexB p.1 p.2.1))))
theorem c213_eq {m : Int} {args : List AV} {K : AV → Prop} : c213 m args K = K0 (fun (p : ByteArray × ByteArray × Unit) => 2 ≤ p.2.1.size ∧ (p.2.1.size : Int) ≤ m ∧ p.1.size ≤ 2000000) (fun p => .t (.v (.int .i64 (Lib.indexB p.1 p.2.1)))) K ((lc AStr (lc AStr l0)).dec args) := rfl
theorem good213 (m : Int) : GoodX Tryz.prog m 213 (c213 m) := GoodX.of (r := fun (p : ByteArray × ByteArray × Unit) => .int .i64 (Lib.indexB p.1 p.2.1)) (fun _ => trivial) fun p hp => by
  obtain ⟨s, b, ⟨⟩⟩ := p
  intro w pr vs hgl hv
  have := two_args hv
  subst this
  have he : Extern.find Tryz.f213 = some Extern.BytealgIndex.index := by kernel_rfl
  rw [run_callFunc_extern (fn := Tryz.f213) (by kernel_rfl) (by kernel_rfl) rfl (by kernel_rfl) he]
  have h := Lib.run_indexString (P := Tryz.prog) s b w 0 m (by kernel_rfl) hgl.cell hp.1 hp.2.1 (by have h3 : s.size ≤ 2000000 := hp.2.2; omega)
  rw [show ([Value.string s, Value.string b].toArray) = #[.string s, .string b] from rfl, h]
  rfl
theorem byteAt_get (s : ByteArray) (i : Nat) (h : i < s.size) : byteAt s i = (s[i].toNat : Int) := by
  rw [byteAt_bl]
  have h' : i < (bl s).length := h
  have : (bl s).getD i 0 = s[i] := by
    simp [h']
    rfl
  rw [this]
  rfl
theorem toList_bl (s : ByteArray) : s.toList = bl s := ByteArray.toList_eq s
theorem beq_of_eq {s t : ByteArray} (h : s = t) : (s.toList == t.toList) = true := by rw [h]; simp
theorem beq_of_ne {s t : ByteArray} (h : ¬ s = t) : (s.toList == t.toList) = false := by
  rw [toList_bl, toList_bl]
  simpa using fun e => h (bl_inj e)
def c214 : Ct := ctR (lc AStr (lc AU8 l0)) (fun p => True) (fun p => .t (.v (.int .i64 (Lib.indexByte (bl p.1) (UInt8.ofNat p.2.1.toNat)))))
section
attribute [local go_sem] c223
theorem good214 {G : Gt} (hG : OkG G) (hh : G.e 223 = roEnt 3 c223) : Gd G 214 (roEnt 0 c214) := by
  refine gR (dp := fun _ => true) (fn := Tryz.f214) (n := 2) (fun _ => rfl) (by kernel_rfl) rfl (by kernel_rfl) hG (Nat.le_of_ble_eq_true rfl) (by kernel_rfl) (by decide) (fun _ _ => .v _) ?_
  rintro ⟨s, c, ⟨⟩⟩ hpre
  simp -implicitDefEqProofs only [Tryz.f214, go_sem, hh] at hpre ⊢
  repeat' (first | with_reducible apply And.intro | with_reducible intro _ | ((first | apply brB_split | apply aPickB_split | apply gB_split | apply adB_split) <;> intro hb <;> simp -implicitDefEqProofs only [hb, go_sem, hh] <;> try simp only [qz] at hb))
  all_goals first | rfl | trace_state
end
def c212 : Ct := ctR (lc AInt l0) (fun p => 0 ≤ p.1 ∧ p.1 ≤ 1000000000000) (fun p => .t (.v (.int .i64 ((p.1 + 16) / 8))))
theorem good212 {G : Gt} (hG : OkG G) : Gd G 212 (roEnt 0 c212) := by
  refine gR (dp := fun _ => true) (fn := Tryz.f212) (n := 1) (fun _ => rfl) (by kernel_rfl) rfl (by kernel_rfl) hG (Nat.le_of_ble_eq_true rfl) (by kernel_rfl) (by decide) (fun _ _ => .v _) ?_
  rintro ⟨n, ⟨⟩⟩ hpre
  simp -implicitDefEqProofs only [Tryz.f212, go_sem] at hpre ⊢
  repeat' (first | with_reducible apply And.intro | with_reducible intro _ | ((first | apply brB_split | apply aPickB_split | apply gB_split | apply adB_split) <;> intro hb <;> simp -implicitDefEqProofs only [hb, go_sem] <;> try simp only [qz] at hb))
  all_goals first | rfl | omega | trace_state
open Go.Lib in
theorem hash_next (s : ByteArray) (k : Nat) (hk : k < s.size) {h : Int} (hh : h = RK.H ((bl s).take k) % 4294967296) : (h * 16777619 % 4294967296 + byteAt s k) % 4294967296 = RK.H ((bl s).take (k + 1)) % 4294967296 := by
  have := Go.Proofs.hash_step s k hk hh
  rw [byteAt_get s k hk]
  have h2 : (s[k].toNat : Int) % 4294967296 = s[k].toNat := by
    have := s[k].toNat_lt
    omega
  rw [h2] at this
  exact this
theorem u32_lt (x : Int) : 0 ≤ x % 4294967296 ∧ x % 4294967296 < 4294967296 := by omega
def hsR (s : ByteArray) : AV := .tup [.t (.v (.int .u32 (Lib.RK.H (bl s) % 4294967296))), .t (.v (.int .u32 (16777619 ^ s.size % 4294967296)))]
def c224 : Ct := ctR (lc AStr l0) (fun p => p.1.size ≤ 2000000) (fun p => hsR p.1)
section
attribute [local go_sem] hsR
theorem good224 {G : Gt} (hG : OkG G) : Gd G 224 (roEnt 0 c224) := by
  refine gR (dp := fun _ => true) (fn := Tryz.f224) (n := 1) (fun _ => rfl) (by kernel_rfl) rfl (by kernel_rfl) hG (Nat.le_of_ble_eq_true rfl) (by kernel_rfl) (by decide) (fun _ p => .tup _ (by intro c hc; simp only [List.mem_cons, List.not_mem_nil, or_false] at hc; rcases hc with rfl | rfl <;> exact .v _)) ?_
  rintro ⟨s, ⟨⟩⟩ hpre
  simp -implicitDefEqProofs only [Tryz.f224, go_sem] at hpre ⊢
  refine run_loop [] (ι := {i : Nat // i ≤ s.size}) (fun p => ⟨[(0, .t (.v (.string s))), (4, .t (.v (.int .u32 (Lib.RK.H ((bl s).take p.1) % 4294967296)))), (5, .t (.v (.int .i64 p.1)))], []⟩) (fun p => s.size - p.1) ⟨0, by omega⟩ rfl ?_ ?_
  · simp -implicitDefEqProofs only [go_sem]
    simp [Lib.RK.H_nil]
  · rintro ⟨i, hi⟩
    simp -implicitDefEqProofs only [go_sem]
    repeat' (first | with_reducible apply And.intro | with_reducible intro _ | ((first | apply brB_split | apply aPickB_split | apply gB_split | apply adB_split) <;> intro hb <;> simp -implicitDefEqProofs only [hb, go_sem] <;> try simp only [qz] at hb))
    all_goals (try simp only [maxLen, Int.toNat_natCast] at *)
    all_goals (try have hbr := byteAt_range s i)
    all_goals first | rfl | omega | skip
    · refine ⟨⟨i + 1, by omega⟩, by dsimp only; omega, ?_⟩
      rw [hash_next s i (by omega) rfl]
      simp -implicitDefEqProofs only [go_sem]
      try simp
    · have hii : i = s.size := by omega
      have hle : (bl s).length ≤ i := by rw [bl_len]; omega
      rw [List.take_of_length_le hle]
      refine run_loop [] (ι := {p : Nat × Int × Int // p.1 ≤ 2000000 ∧ Lib.RK.PowInv s.size p.1 p.2.1 p.2.2 ∧ 0 ≤ p.2.1 ∧ p.2.1 < 4294967296}) (fun p => ⟨[(4, .t (.v (.int .u32 (Lib.RK.H (bl s) % 4294967296)))), (6, .t (.v (.int .u32 p.1.2.1))), (7, .t (.v (.int .u32 p.1.2.2))), (8, .t (.v (.int .i64 p.1.1)))], []⟩) (fun p => p.1.1) ⟨(s.size, 1, 16777619), by simpa using hpre, Lib.RK.pow_start _, by simp, by simp⟩ rfl ?_ ?_
      · simp -implicitDefEqProofs only [go_sem]
        try simp
      · rintro ⟨⟨k, pw, sq⟩, hk, hpi, h0, h1⟩
        have hand := Go.Proofs.and_one k (by simp only at hk; omega)
        simp only at hk h0 h1 hpi
        have hpw : ((k : Int) / 2 ^ (1 : Int).toNat) = ((k / 2 : Nat) : Int) := by simp
        simp -implicitDefEqProofs only [go_sem]
        repeat' (first | with_reducible apply And.intro | with_reducible intro _ | ((first | apply brB_split | apply aPickB_split | apply gB_split | apply adB_split) <;> intro hb <;> simp -implicitDefEqProofs only [hb, go_sem] <;> try simp only [qz] at hb))
        all_goals (try simp only [maxLen, Int.toNat_natCast] at *)
        all_goals first | rfl | omega | skip
        · have h2 : k % 2 = 1 := by rw [hand] at hb; omega
          have := u32_lt (pw * sq)
          refine ⟨⟨(k / 2, pw * sq % 4294967296, sq * sq % 4294967296), by simp only []; omega, Lib.RK.pow_odd hpi h2, this.1, this.2⟩, by simp only []; omega, ?_⟩
          rw [hpw]
          simp -implicitDefEqProofs only [go_sem]
          try simp
        · have h2 : k % 2 = 0 := by rw [hand] at hb; omega
          refine ⟨⟨(k / 2, pw, sq * sq % 4294967296), by simp only []; omega, Lib.RK.pow_even hpi h2, h0, h1⟩, by simp only []; omega, ?_⟩
          rw [hpw]
          simp -implicitDefEqProofs only [go_sem]
          try simp
        · have h2 : k = 0 := by omega
          subst h2
          rw [← Lib.RK.pow_end hpi h0 h1]
end
open Go.Lib in
theorem roll_next (s : ByteArray) (n i : Nat) (hn : 1 ≤ n) (hni : n ≤ i) (hi : i < s.size) {h pw : Int} (hh : h = RK.H (RK.win (bl s) (i - n) n) % 4294967296) (hp : pw = 16777619 ^ n % 4294967296) :
    ((h * 16777619 % 4294967296 + byteAt s i) % 4294967296 - pw * byteAt s (i - n) % 4294967296) % 4294967296 = RK.H (RK.win (bl s) (i + 1 - n) n) % 4294967296 := by
  have := Go.Proofs.roll_step s n i hn hni hi hh hp
  rw [byteAt_get s i hi, byteAt_get s (i - n) (by omega)]
  have h2 : (s[i - n].toNat : Int) % 4294967296 = s[i - n].toNat := by
    have := s[i - n].toNat_lt
    omega
  rw [h2] at this
  rw [← show RK.H (RK.win s.data.toList (i + 1 - n) n) % 4294967296 = RK.H (RK.win (bl s) (i + 1 - n) n) % 4294967296 from rfl, ← this]
  generalize pw * (s[i - n].toNat : Int) = X
  omega
def c215 : Ct := ctR (lc AStr (lc AStr l0)) (fun p => 1 ≤ p.2.1.size ∧ p.2.1.size ≤ p.1.size ∧ p.1.size ≤ 2000000) (fun p => .t (.v (.int .i64 (Lib.indexB p.1 p.2.1))))
section
attribute [local go_sem] c224 hsR
theorem good215 {G : Gt} (hG : OkG G) (hh : G.e 224 = roEnt 0 c224) : Gd G 215 (roEnt 0 c215) := by
  refine gR (dp := fun _ => true) (fn := Tryz.f215) (n := 2) (fun _ => rfl) (by kernel_rfl) rfl (by kernel_rfl) hG (Nat.le_of_ble_eq_true rfl) (by kernel_rfl) (by decide) (fun _ _ => .v _) ?_
  rintro ⟨s, sep, ⟨⟩⟩ hpre
  simp -implicitDefEqProofs only [Tryz.f215, go_sem, hh] at hpre ⊢
  repeat' (first | with_reducible apply And.intro | with_reducible intro _ | ((first | apply brB_split | apply aPickB_split | apply gB_split | apply adB_split) <;> intro hb <;> simp -implicitDefEqProofs only [hb, go_sem, hh] <;> try simp only [qz] at hb))
  all_goals first | rfl | omega | skip
  refine run_loop [] (ι := {i : Nat // i ≤ sep.size}) (fun p => ⟨[(0, .t (.v (.string s))), (1, .t (.v (.string sep))), (5, .t (.v (.int .u32 (Lib.RK.H (bl sep) % 4294967296)))), (6, .t (.v (.int .u32 (16777619 ^ sep.size % 4294967296)))), (7, .t (.v (.int .i64 sep.size))), (8, .t (.v (.int .u32 (Lib.RK.H ((bl s).take p.1) % 4294967296)))), (9, .t (.v (.int .i64 p.1)))], []⟩) (fun p => sep.size - p.1) ⟨0, by omega⟩ rfl ?_ ?_
  · simp -implicitDefEqProofs only [go_sem, hh]
    simp [Lib.RK.H_nil]
  · rintro ⟨i, hi⟩
    simp -implicitDefEqProofs only [go_sem, hh]
    repeat' (first | with_reducible apply And.intro | with_reducible intro _ | ((first | apply brB_split | apply aPickB_split | apply gB_split | apply adB_split) <;> intro hb <;> simp -implicitDefEqProofs only [hb, go_sem, hh] <;> try simp only [qz] at hb))
    all_goals (try simp only [maxLen, Int.toNat_natCast] at *)
    all_goals (try have hbr := byteAt_range s i)
    all_goals first | rfl | omega | skip
    · refine ⟨⟨i + 1, by omega⟩, by dsimp only; omega, ?_⟩
      rw [hash_next s i (by omega) rfl]
      simp -implicitDefEqProofs only [go_sem, hh]
      try simp
    · rw [Lib.hit s sep 0 (fun j hj => absurd hj (Nat.not_lt_zero _)) (by omega) (beq_of_eq (by rw [Nat.zero_add]; exact hb))]
      rfl
    all_goals
      have hii : i = sep.size := by omega
      have hb0 := hb
      subst hii
      have hno : Lib.NoOccB s sep (sep.size - sep.size + 1) := by
        rw [Nat.sub_self]
        refine Lib.NoOcc.succ (fun j hj => absurd hj (Nat.not_lt_zero _)) ?_
        first
          | exact Go.Proofs.occ_no s sep 0 (by omega) (by rw [Nat.zero_add]; exact beq_of_ne hb0)
          | exact Go.Proofs.occ_no_hash s sep 0 (by omega) rfl rfl hb0
      refine run_loop [] (ι := {k : Nat // sep.size ≤ k ∧ k ≤ s.size ∧ Lib.NoOccB s sep (k - sep.size + 1)}) (fun p => ⟨[(0, .t (.v (.string s))), (1, .t (.v (.string sep))), (5, .t (.v (.int .u32 (Lib.RK.H (bl sep) % 4294967296)))), (6, .t (.v (.int .u32 (16777619 ^ sep.size % 4294967296)))), (7, .t (.v (.int .i64 sep.size))), (8, .t (.v (.int .u32 (Lib.RK.H (Lib.RK.win (bl s) (p.1 - sep.size) sep.size) % 4294967296)))), (10, .t (.v (.int .i64 p.1)))], []⟩) (fun p => s.size - p.1) ⟨sep.size, by omega, by omega, hno⟩ rfl ?_ ?_
      · simp -implicitDefEqProofs only [go_sem, hh]
        try simp [Lib.RK.win_zero]
      · rintro ⟨k, hk1, hk2, hk3⟩
        have hrn := fun h => roll_next s sep.size k (by omega) hk1 h rfl rfl
        have eks : ((k : Int) - sep.size).toNat = k - sep.size := by omega
        have eks1 : ((k : Int) + 1 - sep.size).toNat = k + 1 - sep.size := by omega
        have ek1 : ((k : Int) + 1).toNat = k + 1 := by omega
        simp -implicitDefEqProofs only [go_sem, hh]
        repeat' (first | with_reducible apply And.intro | with_reducible intro _ | ((first | apply brB_split | apply aPickB_split | apply gB_split | apply adB_split) <;> intro hb <;> simp -implicitDefEqProofs only [hb, go_sem, hh] <;> try simp only [qz] at hb))
        all_goals (try simp only [maxLen, Int.toNat_natCast] at *)
        all_goals (try have hbr := byteAt_range s k)
        all_goals (try have hbr2 := byteAt_range s (k - sep.size))
        all_goals (try simp only [eks, eks1, ek1] at *)
        all_goals first | rfl | omega | skip
        all_goals (try have hkk := hrn (by omega))
        all_goals have e1 : k - sep.size + 1 = k + 1 - sep.size := by omega
        all_goals rw [e1] at hk3
        · have e2 : k + 1 - sep.size + sep.size = k + 1 := by omega
          rw [Lib.hit s sep (k + 1 - sep.size) hk3 (by omega) (beq_of_eq (by rw [e2]; exact hb))]
          have e3 : ((k + 1 - sep.size : Nat) : Int) = (k : Int) + 1 - sep.size := by omega
          rw [e3]
        · have e2 : k + 1 - sep.size + sep.size = k + 1 := by omega
          have hocc := Go.Proofs.occ_no s sep (k + 1 - sep.size) (by omega) (by rw [e2]; exact beq_of_ne hb)
          refine ⟨⟨k + 1, by omega, by omega, Lib.NoOcc.succ hk3 hocc⟩, by dsimp only; omega, ?_⟩
          rw [hkk]
          simp -implicitDefEqProofs only [go_sem, hh]
          try simp
        · rw [hkk] at hb
          have hocc := Go.Proofs.occ_no_hash s sep (k + 1 - sep.size) (by omega) rfl rfl hb
          refine ⟨⟨k + 1, by omega, by omega, Lib.NoOcc.succ hk3 hocc⟩, by dsimp only; omega, ?_⟩
          rw [hkk]
          simp -implicitDefEqProofs only [go_sem, hh]
          try simp
        · rw [Lib.past s sep (k + 1 - sep.size) hk3 (by omega) (by omega)]
end
section
open Go.Lib
theorem ib_cases (s : ByteArray) (c : UInt8) : indexByte (bl s) c = -1 ∨ ∃ o : Nat, indexByte (bl s) c = o ∧ o < s.size := by
  have hge := indexByte_ge (bl s) c
  by_cases h : indexByte (bl s) c = -1
  · exact .inl h
  · obtain ⟨o, ho⟩ : ∃ o : Nat, indexByte (bl s) c = o := ⟨(indexByte (bl s) c).toNat, by omega⟩
    refine .inr ⟨o, ho, ?_⟩
    obtain ⟨h1, _⟩ := indexByte_some ho
    exact (List.getElem?_eq_some_iff.1 h1).1
theorem byte_back2 (sub : ByteArray) (h : 0 < sub.size) : UInt8.ofNat (byteAt sub 0).toNat = ((sub[0].toNat : Int)).toNat.toUInt8 := by rw [byteAt_get sub 0 h]
theorem ix_ne {s sub : ByteArray} {k j : Nat} (hk : k < s.size) (hj : j < sub.size) (h : ¬ byteAt s k = byteAt sub j) : ((((s[k].toNat : Nat) : Int)) != ((sub[j].toNat : Nat) : Int)) = true := by
  rw [byteAt_get s k hk, byteAt_get sub j hj] at h
  simpa using h
theorem ix_skip_none {s sub : ByteArray} {k : Nat} (h2 : 2 ≤ sub.size) (hls : sub.size ≤ s.size) (hk : k < s.size) (hno : NoOccB s sub k) (hne : ¬ byteAt s k = byteAt sub 0) (hib : indexByte (bl (s.extract (k + 1) (s.size - sub.size + 1))) (UInt8.ofNat (byteAt sub 0).toNat) = -1) : indexB s sub = -1 :=
  skip_none s sub k h2 hls hk hno (ix_ne hk (by omega) hne) (by rw [byte_back2 sub (by omega)] at hib; exact hib)
theorem ix_skip_some {s sub : ByteArray} {k o : Nat} (h2 : 2 ≤ sub.size) (hk : k < s.size) (hno : NoOccB s sub k) (hne : ¬ byteAt s k = byteAt sub 0) (hib : indexByte (bl (s.extract (k + 1) (s.size - sub.size + 1))) (UInt8.ofNat (byteAt sub 0).toNat) = o) : NoOccB s sub (k + (o + 1)) :=
  skip_some s sub k o h2 hk hno (ix_ne hk (by omega) hne) (by rw [byte_back2 sub (by omega)] at hib; exact hib)
theorem ix_second {s sub : ByteArray} {i : Nat} (hno : NoOccB s sub i) (h2 : 2 ≤ sub.size) (hi : i + 1 < s.size) (hne : ¬ byteAt s (i + 1) = byteAt sub 1) : NoOccB s sub (i + 1) :=
  miss_second s sub i hno h2 hi (by rw [byteAt_get s _ hi, byteAt_get sub 1 (by omega)] at hne; exact hne)
theorem ix_piece {s sub : ByteArray} {i : Nat} (hno : NoOccB s sub i) (hi : i + sub.size ≤ s.size) (h : ¬ s.extract i (i + sub.size) = sub) : NoOccB s sub (i + 1) := miss_piece s sub i hno hi (beq_of_ne h)
theorem ix_bound (s sub : ByteArray) (a : Nat) : -1 ≤ indexB (s.extract a s.size) sub ∧ indexB (s.extract a s.size) sub ≤ s.size := ⟨index_ge _ _, index_tail_le s sub a⟩
theorem ix_one {s sub : ByteArray} (h : sub.size = 1) : indexByte (bl s) (UInt8.ofNat (byteAt sub 0).toNat) = indexB s sub := by
  rw [one s sub h, byte_back2 sub (by omega)]; rfl
theorem ix_zero {s sub : ByteArray} (h : sub.size = 0 ∨ sub = s) : indexB s sub = 0 := zero s sub (by
  rcases h with h | h
  · exact .inl (by rw [h]; rfl)
  · exact .inr (beq_of_eq h))
theorem ix_fb {s sub : ByteArray} {k : Nat} (hno : NoOccB s sub k) (hk : k ≤ s.size) : indexB s sub = if indexB (s.extract k s.size) sub < 0 then -1 else indexB (s.extract k s.size) sub + k := by
  split
  · exact fb_neg s sub k hno hk (r := indexB (s.extract k s.size) sub) rfl (by assumption) (ix_bound s sub k).1
  · exact fb_pos s sub k hno hk (r := indexB (s.extract k s.size) sub) rfl (by omega)
theorem ivc {k : IntKind} {x y : Int} (h : x = y) : T.v (.int k x) = T.v (.int k y) := by rw [h]
theorem ix_long {s sub : ByteArray} (h1 : s.size ≤ sub.size) (h2 : ¬ sub = s) : indexB s sub = -1 := long s sub h1 (beq_of_ne h2)
end
def c197 : Ct := ctR (lc AStr (lc AStr l0)) (fun p => p.2.1.size ≤ 2000000 ∧ p.1.size ≤ 2000000) (fun p => .t (.v (.int .i64 (Lib.indexB p.1 p.2.1))))
section
attribute [local go_sem] c214 c213 c212 c215 glb eq_self decide_true Bool.not_true Bool.not_false
set_option maxHeartbeats 8000000 in
theorem good197 {G : Gt} (hG : OkG G) (hh : G.e 214 = roEnt 0 c214 ∧ G.e 213 = roEnt 3 (c213 G.m) ∧ G.e 212 = roEnt 0 c212 ∧ G.e 215 = roEnt 0 c215) : Gd G 197 (roEnt 0 c197) := by
  refine gR (dp := fun _ => true) (fn := Tryz.f197) (n := 2) (fun _ => rfl) (by kernel_rfl) rfl (by kernel_rfl) hG (Nat.le_of_ble_eq_true rfl) (by kernel_rfl) (by decide) (fun _ _ => .v _) ?_
  rintro ⟨s, sub, ⟨⟩⟩ hpre
  simp -implicitDefEqProofs only [Tryz.f197, go_sem, hh] at hpre ⊢
  repeat' (first | with_reducible apply And.intro | with_reducible intro _ | ((first | apply brB_split | apply aPickB_split | apply gB_split | apply adB_split) <;> intro hb <;> simp -implicitDefEqProofs only [hb, go_sem, hh] <;> try simp only [qz] at hb))
  all_goals (try simp only [maxLen, Int.toNat_natCast] at *)
  all_goals first | rfl | omega | skip
  · rw [ix_zero (.inl (by omega))]
  · rename_i hb; rw [ix_zero (.inr hb)]
  · rw [← ix_one (s := s) (sub := sub) (by omega)]; rfl
  · rw [ix_long (by omega) (by assumption)]
  all_goals
    have h2 : 2 ≤ sub.size := by omega
    have hls : sub.size < s.size := by omega
    refine run_loop [] (ι := {p : Nat × Nat // p.1 ≤ s.size - sub.size + 1 ∧ Lib.NoOccB s sub p.1 ∧ p.2 ≤ p.1}) (fun p => ⟨[(0, .t (.v (.string s))), (1, .t (.v (.string sub))), (5, .t (.v (.int .i64 sub.size))), (6, .t (.v (.int .u8 (byteAt sub 0)))), (7, .t (.v (.int .u8 (byteAt sub 1)))), (8, .t (.v (.int .i64 p.1.1))), (9, .t (.v (.int .i64 (s.size - sub.size + 1)))), (10, .t (.v (.int .i64 p.1.2)))], []⟩) (fun p => s.size - p.1.1) ⟨(0, 0), by dsimp only; omega, (fun j hj => absurd hj (Nat.not_lt_zero _)), by dsimp only; omega⟩ rfl ?_ ?_
    · simp -implicitDefEqProofs only [go_sem, hh]
      simp
    · rintro ⟨⟨i, f⟩, hi, hno, hf⟩
      dsimp only at hi hno hf
      have et : ((s.size : Int) - sub.size + 1).toNat = s.size - sub.size + 1 := by omega
      have ei : ((i : Int) + 1).toNat = i + 1 := by omega
      by_cases ht : (i : Int) < s.size - sub.size + 1
      · by_cases e0 : byteAt s (i : Int).toNat = byteAt sub 0
        · have e1 : ((i : Int) + sub.size).toNat = i + sub.size := by omega
          simp -implicitDefEqProofs only [ht, e0, go_sem, hh]
          repeat' (first | with_reducible apply And.intro | with_reducible intro _ | ((first | apply brB_split | apply aPickB_split | apply gB_split | apply adB_split) <;> intro hb <;> simp -implicitDefEqProofs only [hb, go_sem, hh] <;> try simp only [qz] at hb))
          all_goals (try simp only [maxLen, Int.toNat_natCast, Int.reduceToNat, ei, et, e1] at *)
          all_goals first | rfl | omega | skip
          all_goals first
            | (rw [Lib.hit s sub i hno (by omega) (beq_of_eq (by assumption))]; done)
            | (rw [ByteArray.size_extract]; omega)
            | (have hk2 : Lib.NoOccB s sub (i + 1) := by
                 first
                   | exact ix_piece hno (by omega) (by assumption)
                   | exact ix_second hno h2 (by omega) (by assumption)
               have hbd := ix_bound s sub (i + 1)
               first
                 | omega
                 | (refine ivc ?_
                    rw [ix_fb hk2 (by omega)]
                    first
                      | (rw [if_pos (by omega)]; done)
                      | (rw [if_neg (by omega)]; omega))
                 | (refine ⟨⟨(i + 1, f + 1), by dsimp only; omega, hk2, by dsimp only; omega⟩, by dsimp only; omega, ?_⟩
                    simp -implicitDefEqProofs only [go_sem, hh]
                    simp))
        · have hz : True := trivial
          rcases ib_cases (s.extract ((i : Int) + 1).toNat ((s.size : Int) - sub.size + 1).toNat) (UInt8.ofNat (byteAt sub (Int.toNat 0)).toNat) with h | ⟨o, h, ho⟩
          · have h' : Lib.indexByte (bl (s.extract ((i : Int) + 1).toNat ((s.size : Int) - sub.size + 1).toNat)) (UInt8.ofNat (byteAt sub 0).toNat) = -1 := h
            simp -implicitDefEqProofs only [ht, e0, h', go_sem, hh]
            repeat' (first | with_reducible apply And.intro | with_reducible intro _ | ((first | apply brB_split | apply aPickB_split | apply gB_split | apply adB_split) <;> intro hb <;> simp -implicitDefEqProofs only [hb, go_sem, hh] <;> try simp only [qz] at hb))
            all_goals (try simp only [maxLen] at *)
            all_goals first | rfl | omega | skip
            rw [ei, et] at h'
            rw [Int.toNat_natCast] at e0
            rw [ix_skip_none (k := i) h2 (by omega) (by omega) hno e0 h']
          · have h' : Lib.indexByte (bl (s.extract ((i : Int) + 1).toNat ((s.size : Int) - sub.size + 1).toNat)) (UInt8.ofNat (byteAt sub 0).toNat) = o := h
            have ho' : i + (o + 1) < s.size - sub.size + 1 := by
              rw [ei, et, ByteArray.size_extract] at ho; omega
            have hno' : Lib.NoOccB s sub (i + (o + 1)) := by
              rw [ei, et] at h'
              rw [Int.toNat_natCast] at e0
              exact ix_skip_some (k := i) h2 (by omega) hno e0 h'
            have e4 : ((i : Int) + ((o : Int) + 1)) = ((i + (o + 1) : Nat) : Int) := by omega
            simp -implicitDefEqProofs only [ht, e0, h', e4, go_sem, hh]
            have hik : i ≤ i + (o + 1) := by omega
            have hob : o ≤ 2000000 := by omega
            clear h h' ho e0
            generalize i + (o + 1) = k at *
            have ek : ((k : Int) + 1).toNat = k + 1 := by omega
            have e1 : ((k : Int) + sub.size).toNat = k + sub.size := by omega
            repeat' (first | with_reducible apply And.intro | with_reducible intro _ | ((first | apply brB_split | apply aPickB_split | apply gB_split | apply adB_split) <;> intro hb <;> simp -implicitDefEqProofs only [hb, go_sem, hh] <;> try simp only [qz] at hb))
            all_goals (try simp only [maxLen, Int.toNat_natCast, Int.reduceToNat, ei, et, e1, ek, e4] at *)
            all_goals first | rfl | omega | skip
            all_goals first
              | (rw [Lib.hit s sub k hno' (by omega) (beq_of_eq (by assumption))]; done)
              | (rw [ByteArray.size_extract]; omega)
              | (have hk2 : Lib.NoOccB s sub (k + 1) := by
                   first
                     | exact ix_piece hno' (by omega) (by assumption)
                     | exact ix_second hno' h2 (by omega) (by assumption)
                 have hbd := ix_bound s sub (k + 1)
                 first
                   | omega
                   | (refine ivc ?_
                      rw [ix_fb hk2 (by omega)]
                      first
                        | (rw [if_pos (by omega)]; done)
                        | (rw [if_neg (by omega)]; omega))
                   | (refine ⟨⟨(k + 1, f + 1), by dsimp only; omega, hk2, by dsimp only; omega⟩, by dsimp only; omega, ?_⟩
                      simp -implicitDefEqProofs only [go_sem, hh]
                      simp))

      · simp -implicitDefEqProofs only [ht, go_sem, hh]
        rw [Lib.past s sub i hno (by omega) (by omega)]
end
section
open Go.Lib
theorem eq_of_beqL {a b : ByteArray} (h : (a.toList == b.toList) = true) : a = b := by
  by_cases e : a = b
  · exact e
  · rw [beq_of_ne e] at h; cases h
def spA (c : UInt8) : List UInt8 → List (List UInt8)
  | [] => [[]]
  | x :: r => if x = c then [] :: spA c r else match spA c r with | h :: t => (x :: h) :: t | [] => [[x]]
def spl (s : ByteArray) (c : UInt8) : List ByteArray := (spA c (bl s)).map mB
theorem spA_len (c : UInt8) : ∀ l : List UInt8, (spA c l).length = l.count c + 1
  | [] => rfl
  | x :: r => by
    have h := spA_len c r
    rw [spA]
    by_cases e : x = c
    · rw [if_pos e, e, List.count_cons_self]; simp [h]
    · rw [if_neg e, List.count_cons_of_ne e]
      cases hs : spA c r with
      | nil => rw [hs] at h; simp at h
      | cons a t => rw [hs] at h; simp at h ⊢; exact h
theorem spA_none {c : UInt8} : ∀ {l : List UInt8}, (∀ j : Nat, l[j]? ≠ some c) → spA c l = [l]
  | [], _ => rfl
  | x :: r, h => by
    rw [spA, if_neg (fun e => h 0 (by rw [e]; rfl)), spA_none (fun j => h (j + 1))]
theorem spA_first {c : UInt8} : ∀ (o : Nat) (l : List UInt8), l[o]? = some c → (∀ k : Nat, k < o → l[k]? ≠ some c) → spA c l = l.take o :: spA c (l.drop (o + 1))
  | 0, l, h, _ => by
    cases l with
    | nil => cases h
    | cons x r => simp at h; rw [spA, if_pos h]; rfl
  | o + 1, l, h, hk => by
    cases l with
    | nil => cases h
    | cons x r =>
      rw [spA, if_neg (fun e => hk 0 (by omega) (by rw [e]; rfl)), spA_first o r h (fun k q => hk (k + 1) (by omega))]
      rfl
theorem splitN_spA {c : UInt8} : ∀ (l : List UInt8) (m : Nat), (splitN c m l).length ≤ m ∨ (spA c l).length ≤ m → splitN c m l = spA c l
  | l, 0, h => by
    have := spA_len c l
    rw [splitN] at h
    rcases h with h | h
    · exact absurd h (by simp)
    · omega
  | [], m + 1, _ => by rw [splitN, spA]
  | x :: r, m + 1, h => by
    rw [splitN, spA] at h ⊢
    by_cases e : x = c
    · rw [if_pos e, if_pos e] at h ⊢
      rw [splitN_spA r m (by simp at h; exact h)]
    · rw [if_neg e, if_neg e] at h ⊢
      have h2 : (splitN c (m + 1) r).length ≤ m + 1 ∨ (spA c r).length ≤ m + 1 := by
        rcases h with h | h
        · cases hs : splitN c (m + 1) r with
          | nil => exact .inl (by simp)
          | cons a t => rw [hs] at h; exact .inl (by simpa using h)
        · cases hs : spA c r with
          | nil => exact .inr (by simp)
          | cons a t => rw [hs] at h; exact .inr (by simpa using h)
      rw [splitN_spA r (m + 1) h2]
      all_goals (cases spA c r <;> rfl)
theorem Dom_spl (s : ByteArray) : Dom s ↔ (∀ w ∈ spl s 46, Lbl w) ∧ (spl s 46).length ≤ 3 := by
  unfold Dom cutL spl
  constructor
  · rintro ⟨h1, h2⟩
    rw [List.length_map] at h2
    rw [splitN_spA _ _ (.inl h2)] at h1 h2
    exact ⟨h1, by rw [List.length_map]; exact h2⟩
  · rintro ⟨h1, h2⟩
    rw [List.length_map] at h2
    rw [← splitN_spA _ _ (.inr h2)] at h1 h2
    exact ⟨h1, by rw [List.length_map]; exact h2⟩
theorem indexByte_none : ∀ {l : List UInt8} {c : UInt8}, indexByte l c = -1 → ∀ j : Nat, l[j]? ≠ some c
  | [], c, _, j => by simp
  | b :: l, c, h, j => by
    have hge := indexByte_ge l c
    unfold indexByte at h
    by_cases e : b = c
    · rw [if_pos (by simp [e])] at h; cases h
    · rw [if_neg (by simp [e])] at h
      by_cases e2 : indexByte l c = -1
      · cases j with
        | zero => simp [e]
        | succ j => exact indexByte_none e2 j
      · rw [if_neg (by simp [e2])] at h; omega
theorem spl_none {s sep : ByteArray} (h1 : sep.size = 1) (h : indexB s sep = -1) : spl s (UInt8.ofNat (byteAt sep 0).toNat) = [s] := by
  rw [← ix_one h1] at h
  unfold spl
  rw [spA_none (indexByte_none h)]
  rfl
theorem spl_some {s sep : ByteArray} (h1 : sep.size = 1) {o : Nat} (h : indexB s sep = o) : o < s.size ∧ spl s (UInt8.ofNat (byteAt sep 0).toNat) = s.extract 0 o :: spl (s.extract (o + 1) s.size) (UInt8.ofNat (byteAt sep 0).toNat) := by
  rw [← ix_one h1] at h
  obtain ⟨ha, hb⟩ := indexByte_some h
  refine ⟨(List.getElem?_eq_some_iff.1 ha).1, ?_⟩
  unfold spl
  rw [spA_first o _ ha hb, List.map_cons, bl_extract s (o + 1) s.size, List.take_of_length_le (l := (bl s).drop (o + 1)) (by rw [List.length_drop, bl_len]; exact Nat.le_refl _)]
  rw [extract_mk s 0 o]; rfl
theorem fill_set {α : Type} (enc : α → List T) (d x : α) (p : List α) (n : Nat) : ((p ++ List.replicate (n + 1) d).map enc).set p.length (enc x) = ((p ++ [x]) ++ List.replicate n d).map enc := by
  rw [← List.map_set, List.set_append_right _ _ (Nat.le_refl _), Nat.sub_self, List.replicate_succ, List.set_cons_zero, List.append_assoc]; rfl
theorem fillS {t : ByteArray} {p : List ByteArray} {n : Nat} : ((p ++ List.replicate (n + 1) (⟨#[]⟩ : ByteArray)).map encStr).set p.length [T.v (.string t)] = ((p ++ [t]) ++ List.replicate n (⟨#[]⟩ : ByteArray)).map encStr := fill_set encStr _ t p n
theorem spl_len (s : ByteArray) (c : UInt8) : (spl s c).length = countByte (bl s) c + 1 := by
  unfold spl; rw [List.length_map, spA_len]; rfl
theorem cnt_le (s : ByteArray) (c : UInt8) : countByte (bl s) c ≤ s.size := by
  have := List.count_le_length (a := c) (l := bl s)
  exact this
theorem spl_cases {s sep : ByteArray} (h1 : sep.size = 1) : (indexB s sep = -1 ∧ countByte (bl s) (UInt8.ofNat (byteAt sep 0).toNat) = 0 ∧ spl s (UInt8.ofNat (byteAt sep 0).toNat) = [s]) ∨ ∃ o : Nat, indexB s sep = o ∧ o < s.size ∧ spl s (UInt8.ofNat (byteAt sep 0).toNat) = s.extract 0 o :: spl (s.extract (o + 1) s.size) (UInt8.ofNat (byteAt sep 0).toNat) ∧ countByte (bl s) (UInt8.ofNat (byteAt sep 0).toNat) = countByte (bl (s.extract (o + 1) s.size)) (UInt8.ofNat (byteAt sep 0).toNat) + 1 := by
  have hge := index_ge (bl s) (bl sep)
  by_cases h : indexB s sep = -1
  · refine .inl ⟨h, ?_, spl_none h1 h⟩
    have := spl_len s (UInt8.ofNat (byteAt sep 0).toNat)
    rw [spl_none h1 h] at this
    simp at this; exact this
  · have hge' : -1 ≤ indexB s sep := hge
    obtain ⟨o, ho⟩ : ∃ o : Nat, indexB s sep = o := ⟨(indexB s sep).toNat, by omega⟩
    obtain ⟨a, b⟩ := spl_some h1 ho
    refine .inr ⟨o, ho, a, b, ?_⟩
    have q1 := spl_len s (UInt8.ofNat (byteAt sep 0).toNat)
    have q2 := spl_len (s.extract (o + 1) s.size) (UInt8.ofNat (byteAt sep 0).toNat)
    rw [b, List.length_cons, q2] at q1
    omega
theorem Has_index (s p : ByteArray) : 0 ≤ indexB s p ↔ Has s p := by
  constructor
  · intro h
    rcases index_spec (bl s) (bl p) with ⟨h1, _⟩ | ⟨i, h1, h2, h3, h4⟩
    · have : indexB s p = -1 := h1
      omega
    · have hr := index_room (bl s) (bl p) (by rw [h1]; omega)
      have hi : i + p.size ≤ s.size := by
        rw [h1, bl_len, bl_len] at hr; omega
      refine ⟨i, hi, ?_⟩
      have := occ_of_piece s p i hi
      rw [show occAt s.data.toList p.data.toList i = true from h3] at this
      exact eq_of_beqL this.symm
  · rintro ⟨i, hi, he⟩
    rcases index_spec (bl s) (bl p) with ⟨h1, h2⟩ | ⟨j, h1, h2, h3, h4⟩
    · have h := h2 i (by rw [bl_len]; omega)
      rw [show bl s = s.data.toList from rfl, show bl p = p.data.toList from rfl, occ_of_piece s p i hi, he] at h
      simp at h
    · show 0 ≤ index _ _
      rw [show s.data.toList = bl s from rfl, show p.data.toList = bl p from rfl, h1]
      omega
end
def c182 : Ct := ctR (lc AStr (lc AStr l0)) (fun p => p.2.1.size ≤ 2000000 ∧ p.1.size ≤ 2000000) (fun p => .t (.v (.int .i64 (Lib.indexB p.1 p.2.1))))
section
attribute [local go_sem] c197
theorem good182 {G : Gt} (hG : OkG G) (hh : G.e 197 = roEnt 0 c197) : Gd G 182 (roEnt 0 c182) := by
  refine gR (dp := fun _ => true) (fn := Tryz.f182) (n := 2) (fun _ => rfl) (by kernel_rfl) rfl (by kernel_rfl) hG (Nat.le_of_ble_eq_true rfl) (by kernel_rfl) (by decide) (fun _ _ => .v _) ?_
  rintro ⟨s, sub, ⟨⟩⟩ hpre
  simp -implicitDefEqProofs only [Tryz.f182, go_sem, hh] at hpre ⊢
  repeat' (first | with_reducible apply And.intro | with_reducible intro _ | ((first | apply brB_split | apply aPickB_split | apply gB_split | apply adB_split) <;> intro hb <;> simp -implicitDefEqProofs only [hb, go_sem, hh] <;> try simp only [qz] at hb))
  all_goals first | rfl | omega | skip
end
def c181 : Ct := ctR (lc AStr (lc AStr l0)) (fun p => p.2.1.size = 1 ∧ p.1.size ≤ 2000000) (fun p => .t (.v (.int .i64 (Lib.countByte (bl p.1) (UInt8.ofNat (byteAt p.2.1 0).toNat)))))
section
attribute [local go_sem] c196
theorem good181 {G : Gt} (hG : OkG G) (hh : G.e 196 = roEnt 3 c196) : Gd G 181 (roEnt 0 c181) := by
  refine gR (dp := fun _ => true) (fn := Tryz.f181) (n := 2) (fun _ => rfl) (by kernel_rfl) rfl (by kernel_rfl) hG (Nat.le_of_ble_eq_true rfl) (by kernel_rfl) (by decide) (fun _ _ => .v _) ?_
  rintro ⟨s, sub, ⟨⟩⟩ hpre
  simp -implicitDefEqProofs only [Tryz.f181, go_sem, hh] at hpre ⊢
  have h1 : (sub.size : Int) = 1 := by omega
  simp -implicitDefEqProofs only [h1, go_sem, hh]
  repeat' (first | with_reducible apply And.intro | with_reducible intro _ | ((first | apply brB_split | apply aPickB_split | apply gB_split | apply adB_split) <;> intro hb <;> simp -implicitDefEqProofs only [hb, go_sem, hh] <;> try simp only [qz] at hb))
  all_goals first | rfl | omega | skip
end
def c162 : Ct := ctR (lc AStr (lc AStr (lc AInt (lc AInt l0)))) (fun p => p.2.1.size = 1 ∧ p.2.2.1 = 0 ∧ p.2.2.2.1 = -1 ∧ p.1.size ≤ 2000000) (fun p => .o true 1 ((spl p.1 (UInt8.ofNat (byteAt p.2.1 0).toNat)).map encStr))
section
attribute [local go_sem] c181 c182 aSet_map aCell_map List.map_replicate
set_option maxHeartbeats 1600000 in
theorem good162 {G : Gt} (hG : OkG G) (hh : G.e 181 = roEnt 0 c181 ∧ G.e 182 = roEnt 0 c182) : Gd G 162 (roEnt 0 c162) := by
  refine gR (dp := fun _ => true) (fn := Tryz.f162) (n := 4) (fun _ => rfl) (by kernel_rfl) rfl (by kernel_rfl) hG (Nat.le_of_ble_eq_true rfl) (by kernel_rfl) (by decide) (fun _ _ => .deep _ _) ?_
  rintro ⟨s, sep, sv, n, ⟨⟩⟩ hpre
  obtain ⟨h1, h2, h3, h4⟩ := hpre
  dsimp only at h1 h2 h3 h4
  subst h2 h3
  have hse : ¬ sep = ⟨#[]⟩ := by intro e; rw [e] at h1; cases h1
  have hc := cnt_le s (UInt8.ofNat (byteAt sep 0).toNat)
  have hl := spl_len s (UInt8.ofNat (byteAt sep 0).toNat)
  have hmin : ¬ ((s.size : Int) + 1 < (Lib.countByte (bl s) (UInt8.ofNat (byteAt sep 0).toNat) : Int) + 1) := by omega
  simp -implicitDefEqProofs only [Tryz.f162, hse, if_neg hmin, go_sem, hh]
  repeat' (first | with_reducible apply And.intro | with_reducible intro _ | ((first | apply brB_split | apply aPickB_split | apply gB_split | apply adB_split) <;> intro hb <;> simp -implicitDefEqProofs only [hb, go_sem, hh] <;> try simp only [qz] at hb))
  all_goals (try simp only [maxLen, Int.toNat_natCast] at *)
  all_goals first | rfl | omega | skip
  refine run_loop [] (ι := {z : List ByteArray × ByteArray // spl s (UInt8.ofNat (byteAt sep 0).toNat) = z.1 ++ spl z.2 (UInt8.ofNat (byteAt sep 0).toNat) ∧ z.2.size ≤ s.size}) (fun z => ⟨[(0, .t (.v (.string z.1.2))), (1, .t (.v (.string sep))), (2, .t (.v (.int .i64 0))), (3, .t (.v (.int .i64 (Lib.countByte (bl s) (UInt8.ofNat (byteAt sep 0).toNat))))), (9, .h 1031), (10, .t (.v (.int .i64 z.1.1.length)))], [(1031, some (.arr true 1 ((z.1.1 ++ List.replicate (Lib.countByte (bl s) (UInt8.ofNat (byteAt sep 0).toNat) + 1 - z.1.1.length) (⟨#[]⟩ : ByteArray)).map encStr)))]⟩) (fun z => s.size + 1 - z.1.1.length) ⟨([], s), rfl, Nat.le_refl _⟩ rfl ?_ ?_
  · simp -implicitDefEqProofs only [go_sem, hh]
    simp
    constructor <;> split <;> omega
  · rintro ⟨⟨p, t⟩, hz, ht⟩
    dsimp only at hz ht
    have hcl : (spl s (UInt8.ofNat (byteAt sep 0).toNat)).length = p.length + (spl t (UInt8.ofNat (byteAt sep 0).toNat)).length := by rw [hz, List.length_append]
    rw [hl, spl_len] at hcl
    by_cases hlt : (p.length : Int) < Lib.countByte (bl s) (UInt8.ofNat (byteAt sep 0).toNat)
    · rcases spl_cases (s := t) h1 with ⟨_, q, _⟩ | ⟨o, q1, q2, q3, q4⟩
      · omega
      · have q0 : ¬ (o : Int) < 0 := by omega
        simp -implicitDefEqProofs only [hlt, q1, q0, go_sem, hh]
        obtain ⟨n, hn⟩ : ∃ n, Lib.countByte (bl s) (UInt8.ofNat (byteAt sep 0).toNat) + 1 - p.length = n + 1 := ⟨Lib.countByte (bl s) (UInt8.ofNat (byteAt sep 0).toNat) - p.length, by omega⟩
        have hn2 : n = Lib.countByte (bl s) (UInt8.ofNat (byteAt sep 0).toNat) - p.length := by omega
        have hs1 : ((o : Int) + sep.size).toNat = o + 1 := by omega
        repeat' (first | with_reducible apply And.intro | with_reducible intro _ | ((first | apply brB_split | apply aPickB_split | apply gB_split | apply adB_split) <;> intro hb <;> simp -implicitDefEqProofs only [hb, go_sem, hh] <;> try simp only [qz] at hb))
        all_goals (try simp only [maxLen, Int.toNat_natCast, Int.add_zero, hn, fillS, List.length_map, List.length_append, List.length_replicate, hs1] at *)
        all_goals first | rfl | omega | skip
        refine ⟨⟨(p ++ [t.extract 0 o], t.extract (o + 1) t.size), ?_, ?_⟩, ?_, ?_⟩
        · dsimp only; rw [hz, q3, List.append_assoc]; rfl
        · dsimp only; rw [ByteArray.size_extract]; omega
        · dsimp only; rw [List.length_append]; simp; omega
        · have e2 : Lib.countByte (bl s) (UInt8.ofNat (byteAt sep 0).toNat) + 1 - (p ++ [t.extract 0 o]).length = n := by rw [List.length_append, hn2]; simp
          simp -implicitDefEqProofs only [e2, go_sem, hh]
          simp
    · simp -implicitDefEqProofs only [hlt, go_sem, hh]
      rcases spl_cases (s := t) h1 with ⟨_, _, q⟩ | ⟨o, q1, q2, q3, q4⟩
      · have hn : Lib.countByte (bl s) (UInt8.ofNat (byteAt sep 0).toNat) + 1 - p.length = 0 + 1 := by omega
        rw [q] at hz
        repeat' (first | with_reducible apply And.intro | with_reducible intro _ | ((first | apply brB_split | apply aPickB_split | apply gB_split | apply adB_split) <;> intro hb <;> simp -implicitDefEqProofs only [hb, go_sem, hh] <;> try simp only [qz] at hb))
        all_goals (try simp only [maxLen, Int.toNat_natCast, Int.add_zero, hn, fillS, List.length_map, List.length_append, List.length_replicate] at *)
        all_goals first | rfl | omega | (simp; done) | skip
        · rw [hz, List.replicate_zero, List.append_nil, List.take_of_length_le]
          simp
      · omega
end
def bx (l : List Bool) : List AV := l.map fun b => .t (.v (.bool b))
def bxT (l : List Bool) : List T := l.map fun b => .v (.bool b)
def bxD : List T → Option (List Bool)
  | [] => some []
  | .v (.bool b) :: r => (bxD r).map (b :: ·)
  | _ => none
theorem bxD_ed : ∀ l, bxD (bxT l) = some l
  | [] => rfl
  | b :: l => by show (bxD (bxT l)).map (b :: ·) = _; rw [bxD_ed l]; rfl
theorem bxD_de : ∀ {c l}, bxD c = some l → bxT l = c
  | [], _, h => by cases h; rfl
  | x :: c, l, h => by
    unfold bxD at h
    split at h
    · rename_i e; cases e
    · rename_i e
      cases e
      cases hq : bxD c with
      | none => rw [hq] at h; cases h
      | some l' => rw [hq] at h; cases h; rw [← bxD_de hq]; rfl
    · cases h
def bxA : AV → Option (List Bool)
  | .t (.rop c) => bxD c
  | _ => none
def ABs : AD (List Bool) where
  enc l := .t (.rop (bxT l))
  dec := bxA
  ed := fun l => bxD_ed l
  de := fun x l h => by
    unfold bxA at h
    split at h
    · rw [← bxD_de h]
    · cases h
theorem ABs_dec {l : List Bool} : ABs.dec (.t (.rop (bxT l))) = some l := bxD_ed l
theorem ABs_enc {l : List Bool} : ABs.enc l = .t (.rop (bxT l)) := rfl
theorem bx_len {l : List Bool} : (bx l).length = l.length := by simp [bx]
theorem bxT_len {l : List Bool} : (bxT l).length = l.length := by simp [bxT]
def z256 : List Value := List.replicate 256 (.bool false)
def b256 : List Bool := List.replicate 256 false
theorem tyasz : tyOf Tryz.prog 176 = some ⟨.arr 256 4, 256, 256, z256⟩ := ty176
theorem bx_zero : z256.map avc1 = bx b256 := by simp [bx, z256, b256]; rfl
theorem bx_fine : z256.all fineB = true := by decide
theorem b256_len : b256.length = 256 := rfl
theorem bx_drop0 : List.drop 256 (bx b256) = [] := rfl
theorem bx_spl {l : List Bool} {k : Nat} {b : Bool} (h : k < l.length) : (bx l).take k ++ AV.t (.v (.bool b)) :: (bx l).drop (k + 1) = bx (l.set k b) := by
  unfold bx
  rw [List.set_eq_take_append_cons_drop, if_pos h]
  simp
theorem bx_splice {l : List Bool} {k : Nat} {b : Bool} (h : k < l.length) : splice (bx l) k [AV.t (.v (.bool b))] = bx (l.set k b) := by
  unfold splice bx
  rw [List.set_eq_take_append_cons_drop, if_pos h]
  simp
theorem bx_take {l : List Bool} {n : Nat} (h : l.length = n) : (bx l).take n = bx l := List.take_of_length_le (by rw [bx_len]; omega)
theorem bx_snap {s : AS} {n : Nat} : ∀ {l : List Bool}, mapO (s.snapT (n + 1)) (bx l) = some (bxT l)
  | [] => rfl
  | b :: l => by
    have h := bx_snap (s := s) (n := n) (l := l)
    unfold bx bxT at h ⊢
    simp only [List.map_cons, mapO, h, AS.snapT]
theorem bxT_get {l : List Bool} {k : Nat} (h : k < l.length) : (bxT l).drop k = T.v (.bool (l.getD k false)) :: (bxT l).drop (k + 1) := by
  rw [List.drop_eq_getElem_cons (by rw [bxT_len]; exact h)]
  congr 1
  simp [bxT, h]
theorem bx_outP {s : AS} : ∀ {l : List Bool}, outPL s (bx l) (bx l)
  | [] => trivial
  | b :: l => ⟨by simp only [outP, outT], bx_outP⟩
theorem bx_outI {s : AS} : ∀ {l : List Bool}, outIL s (bx l) (bx l) = []
  | [] => rfl
  | b :: l => by show outI s (.t (.v (.bool b))) (.t (.v (.bool b))) ++ outIL s (bx l) (bx l) = []; rw [bx_outI]; rfl
theorem bx_outZ {s : AS} : ∀ {l : List Bool}, outZL s (bx l) (bx l) = []
  | [] => rfl
  | b :: l => by show outZ s (.t (.v (.bool b))) (.t (.v (.bool b))) ++ outZL s (bx l) (bx l) = []; rw [bx_outZ]; rfl
theorem bx_intern {d k : Nat} {s : AS} : ∀ {l : List Bool}, internL d k (bx l) s = ⟨bx l, s, k⟩
  | [] => rfl
  | b :: l => by
    show InL.mk (AV.t (.v (.bool b)) :: (internL d k (bx l) s).avs) (internL d k (bx l) s).s (internL d k (bx l) s).k = _
    rw [bx_intern]; rfl
theorem bx_has {k : Nat} : ∀ {l : List Bool}, AV.hasL k (bx l) = false
  | [] => rfl
  | b :: l => by show (false || AV.hasL k (bx l)) = false; rw [bx_has]; rfl
theorem bx_dropm {k : Nat} : ∀ {l : List Bool}, (bx l).map (AV.drop k) = bx l
  | [] => rfl
  | b :: l => by show AV.t (.v (.bool b)) :: (bx l).map (AV.drop k) = _; rw [bx_dropm]; rfl
def setN (cs : ByteArray) : Nat → List Bool
  | 0 => b256
  | n + 1 => (setN cs n).set (byteAt cs n).toNat true
theorem setN_len (cs : ByteArray) : ∀ n, (setN cs n).length = 256
  | 0 => rfl
  | n + 1 => by rw [setN, List.length_set]; exact setN_len cs n
def trR (l : List Bool) (s : ByteArray) : ByteArray :=
  if h : s.size = 0 then s else bif l.getD (byteAt s (s.size - 1)).toNat false then trR l (s.extract 0 (s.size - 1)) else s
termination_by s.size
decreasing_by rw [ByteArray.size_extract]; omega
def trL (l : List Bool) (s : ByteArray) : ByteArray :=
  if h : s.size = 0 then s else bif l.getD (byteAt s 0).toNat false then trL l (s.extract 1 s.size) else s
termination_by s.size
decreasing_by rw [ByteArray.size_extract]; omega
theorem trR_nil {l : List Bool} : trR l ⟨#[]⟩ = ⟨#[]⟩ := by rw [trR]; exact dif_pos rfl
theorem trL_nil {l : List Bool} : trL l ⟨#[]⟩ = ⟨#[]⟩ := by rw [trL]; exact dif_pos rfl
theorem trR_le (l : List Bool) (s : ByteArray) : (trR l s).size ≤ s.size := by
  rw [trR]
  split
  · exact Nat.le_refl _
  · cases l.getD (byteAt s (s.size - 1)).toNat false
    · exact Nat.le_refl _
    · have := trR_le l (s.extract 0 (s.size - 1))
      rw [ByteArray.size_extract] at this
      show (trR l (s.extract 0 (s.size - 1))).size ≤ _
      omega
termination_by s.size
decreasing_by rw [ByteArray.size_extract]; omega
def c176 : Ct := ctR (lc ABs (lc AU8 l0)) (fun p => p.1.length = 256 ∧ 0 ≤ p.2.1 ∧ p.2.1 < 256) (fun p => .t (.v (.bool (p.1.getD p.2.1.toNat false))))
section
attribute [local go_sem] tyasz ABs_dec ABs_enc bxT_len
theorem good176 {G : Gt} (hG : OkG G) : Gd G 176 (roEnt 0 c176) := by
  refine gR (dp := fun _ => true) (fn := Tryz.f176) (n := 2) (fun _ => rfl) (by kernel_rfl) rfl (by kernel_rfl) hG (Nat.le_of_ble_eq_true rfl) (by kernel_rfl) (by decide) (fun _ _ => .v _) ?_
  rintro ⟨l, c, ⟨⟩⟩ hpre
  simp -implicitDefEqProofs only [Tryz.f176, go_sem] at hpre ⊢
  have hk : c.toNat < l.length := by omega
  simp -implicitDefEqProofs only [bxT_get hk, Nat.mul_one, hpre.1, go_sem]
  repeat' (first | with_reducible apply And.intro | with_reducible intro _ | ((first | apply brB_split | apply aPickB_split | apply gB_split | apply adB_split) <;> intro hb <;> simp -implicitDefEqProofs only [hb, go_sem] <;> try simp only [qz] at hb))
  all_goals first | rfl | omega | skip
  all_goals trace_state
end
def c159 : Ct := ctR (lc AStr (lc ABs l0)) (fun p => p.2.1.length = 256 ∧ p.1.size ≤ 2000000) (fun p => .t (.v (.string (trR p.2.1 p.1))))
section
attribute [local go_sem] c176 ABs_dec ABs_enc Bool.not_true Bool.not_false
theorem good159 {G : Gt} (hG : OkG G) (hh : G.e 176 = roEnt 0 c176) : Gd G 159 (roEnt 0 c159) := by
  refine gR (dp := fun _ => true) (fn := Tryz.f159) (n := 2) (fun _ => rfl) (by kernel_rfl) rfl (by kernel_rfl) hG (Nat.le_of_ble_eq_true rfl) (by kernel_rfl) (by decide) (fun _ _ => .v _) ?_
  rintro ⟨s, l, ⟨⟩⟩ hpre
  simp -implicitDefEqProofs only [Tryz.f159, go_sem, hh] at hpre ⊢
  refine run_loop [] (ι := {t : ByteArray // trR l t = trR l s ∧ t.size ≤ s.size}) (fun p => ⟨[(0, .t (.v (.string p.1))), (1, .t (.rop (bxT l)))], []⟩) (fun p => p.1.size) ⟨s, rfl, Nat.le_refl _⟩ rfl ?_ ?_
  · simp -implicitDefEqProofs only [go_sem, hh]
    try simp
  · rintro ⟨t, ht, hts⟩
    by_cases h0 : t.size = 0
    · have h1 : (t.size : Int) = 0 := by omega
      simp -implicitDefEqProofs only [h1, go_sem, hh]
      repeat' (first | with_reducible apply And.intro | with_reducible intro _ | ((first | apply brB_split | apply aPickB_split | apply gB_split | apply adB_split) <;> intro hb <;> simp -implicitDefEqProofs only [hb, go_sem, hh] <;> try simp only [qz] at hb))
      all_goals first | rfl | omega | skip
      rw [← ht, trR, dif_pos h0]
    · have h1 : (t.size : Int) > 0 := by omega
      have hbr := byteAt_range t (t.size - 1)
      have hr : trR l t = bif l.getD (byteAt t (t.size - 1)).toNat false then trR l (t.extract 0 (t.size - 1)) else t := by
        rw [trR, dif_neg h0]
      have e1 : ((t.size : Int) - 1).toNat = (t.size - 1) := by omega
      cases hb : l.getD (byteAt t (((t.size : Int) - 1).toNat)).toNat false
      · simp -implicitDefEqProofs only [h1, hb, go_sem, hh]
        repeat' (first | with_reducible apply And.intro | with_reducible intro _ | ((first | apply brB_split | apply aPickB_split | apply gB_split | apply adB_split) <;> intro hb <;> simp -implicitDefEqProofs only [hb, go_sem, hh] <;> try simp only [qz] at hb))
        all_goals first | rfl | omega | skip
        all_goals rw [e1] at *
        all_goals first | omega | (rw [← ht, hr, hb]; rfl)
      · simp -implicitDefEqProofs only [h1, hb, go_sem, hh]
        repeat' (first | with_reducible apply And.intro | with_reducible intro _ | ((first | apply brB_split | apply aPickB_split | apply gB_split | apply adB_split) <;> intro hb <;> simp -implicitDefEqProofs only [hb, go_sem, hh] <;> try simp only [qz] at hb))
        all_goals first | rfl | omega | skip
        all_goals rw [e1] at *
        all_goals first | omega | skip
        refine ⟨⟨t.extract 0 (t.size - 1), ?_, ?_⟩, ?_, ?_⟩
        · rw [← ht, hr, hb]; rfl
        · rw [ByteArray.size_extract]; omega
        · show (t.extract 0 (t.size - 1)).size < t.size
          rw [ByteArray.size_extract]; omega
        · simp -implicitDefEqProofs only [go_sem, hh]
          try simp [e1]
end
def c158 : Ct := ctR (lc AStr (lc ABs l0)) (fun p => p.2.1.length = 256 ∧ p.1.size ≤ 2000000) (fun p => .t (.v (.string (trL p.2.1 p.1))))
section
attribute [local go_sem] c176 ABs_dec ABs_enc Bool.not_true Bool.not_false
theorem good158 {G : Gt} (hG : OkG G) (hh : G.e 176 = roEnt 0 c176) : Gd G 158 (roEnt 0 c158) := by
  refine gR (dp := fun _ => true) (fn := Tryz.f158) (n := 2) (fun _ => rfl) (by kernel_rfl) rfl (by kernel_rfl) hG (Nat.le_of_ble_eq_true rfl) (by kernel_rfl) (by decide) (fun _ _ => .v _) ?_
  rintro ⟨s, l, ⟨⟩⟩ hpre
  simp -implicitDefEqProofs only [Tryz.f158, go_sem, hh] at hpre ⊢
  refine run_loop [] (ι := {t : ByteArray // trL l t = trL l s ∧ t.size ≤ s.size}) (fun p => ⟨[(0, .t (.v (.string p.1))), (1, .t (.rop (bxT l)))], []⟩) (fun p => p.1.size) ⟨s, rfl, Nat.le_refl _⟩ rfl ?_ ?_
  · simp -implicitDefEqProofs only [go_sem, hh]
    try simp
  · rintro ⟨t, ht, hts⟩
    by_cases h0 : t.size = 0
    · have h1 : (t.size : Int) = 0 := by omega
      simp -implicitDefEqProofs only [h1, go_sem, hh]
      repeat' (first | with_reducible apply And.intro | with_reducible intro _ | ((first | apply brB_split | apply aPickB_split | apply gB_split | apply adB_split) <;> intro hb <;> simp -implicitDefEqProofs only [hb, go_sem, hh] <;> try simp only [qz] at hb))
      all_goals first | rfl | omega | skip
      rw [← ht, trL, dif_pos h0]
    · have h1 : (t.size : Int) > 0 := by omega
      have hbr := byteAt_range t 0
      have hr : trL l t = bif l.getD (byteAt t 0).toNat false then trL l (t.extract 1 t.size) else t := by
        rw [trL, dif_neg h0]
      have e1 : Int.toNat 0 = 0 := by omega
      cases hb : l.getD (byteAt t (Int.toNat 0)).toNat false
      · simp -implicitDefEqProofs only [h1, hb, go_sem, hh]
        repeat' (first | with_reducible apply And.intro | with_reducible intro _ | ((first | apply brB_split | apply aPickB_split | apply gB_split | apply adB_split) <;> intro hb <;> simp -implicitDefEqProofs only [hb, go_sem, hh] <;> try simp only [qz] at hb))
        all_goals first | rfl | omega | skip
        all_goals rw [e1] at *
        all_goals first | omega | (rw [← ht, hr, hb]; rfl)
      · simp -implicitDefEqProofs only [h1, hb, go_sem, hh]
        repeat' (first | with_reducible apply And.intro | with_reducible intro _ | ((first | apply brB_split | apply aPickB_split | apply gB_split | apply adB_split) <;> intro hb <;> simp -implicitDefEqProofs only [hb, go_sem, hh] <;> try simp only [qz] at hb))
        all_goals first | rfl | omega | skip
        all_goals rw [e1] at *
        all_goals first | omega | skip
        refine ⟨⟨t.extract 1 t.size, ?_, ?_⟩, ?_, ?_⟩
        · rw [← ht, hr, hb]; rfl
        · rw [ByteArray.size_extract]; omega
        · show (t.extract 1 t.size).size < t.size
          rw [ByteArray.size_extract]; omega
        · simp -implicitDefEqProofs only [go_sem, hh]
          try simp [e1]
end
def c157 : Ct := ctR (lc AStr l0) (fun p => p.1.size ≤ 1000 ∧ ∀ j, j < p.1.size → byteAt p.1 j < 128) (fun p => .tup [.agg (bx (setN p.1 p.1.size)), .t (.v (.bool true))])
section
attribute [local go_sem] tyasz bx_zero bx_fine
theorem good157 {G : Gt} (hG : OkG G) : Gd G 157 (roEnt 0 c157) := by
  refine gR (dp := fun _ => true) (fn := Tryz.f157) (n := 1) (fun _ => rfl) (by kernel_rfl) rfl (by kernel_rfl) hG (Nat.le_of_ble_eq_true rfl) (by kernel_rfl) (by decide) (fun _ _ => .tup _ (by intro c hc; simp only [List.mem_cons, List.not_mem_nil, or_false] at hc; rcases hc with rfl | rfl <;> first | exact .v _ | exact .agg _ (by intro c hc; simp only [bx, List.mem_map] at hc; obtain ⟨b, _, rfl⟩ := hc; exact .v _))) ?_
  rintro ⟨cs, ⟨⟩⟩ hpre
  simp -implicitDefEqProofs only [Tryz.f157, go_sem] at hpre ⊢
  repeat' (first | with_reducible apply And.intro | with_reducible intro _ | ((first | apply brB_split | apply aPickB_split | apply gB_split | apply adB_split) <;> intro hb <;> simp -implicitDefEqProofs only [hb, go_sem] <;> try simp only [qz] at hb))
  all_goals first | rfl | omega | skip
  refine run_loop [] (ι := {i : Nat // i ≤ cs.size}) (fun p => ⟨[(0, .t (.v (.string cs))), (2, .pb 1002 0), (4, .t (.v (.int .i64 p.1)))], [(1002, some (.box (bx (setN cs p.1))))]⟩) (fun p => cs.size - p.1) ⟨0, Nat.zero_le _⟩ rfl ?_ ?_
  · simp -implicitDefEqProofs only [go_sem]
    exact ⟨rfl, rfl⟩
  · rintro ⟨i, hi⟩
    have hbr := byteAt_range cs i
    have hlen := setN_len cs i
    by_cases hlt : (i : Int) < cs.size
    · have h128 := hpre.2 i (by omega)
      have h1 : ¬ byteAt cs (i : Int).toNat ≥ 128 := by rw [Int.toNat_natCast]; omega
      have h2 : (byteAt cs (i : Int).toNat).toNat * 1 < (setN cs i).length := by rw [Int.toNat_natCast]; omega
      simp -implicitDefEqProofs only [hlt, h1, Nat.zero_add, bx_splice h2, go_sem]
      repeat' (first | with_reducible apply And.intro | with_reducible intro _ | ((first | apply brB_split | apply aPickB_split | apply gB_split | apply adB_split) <;> intro hb <;> simp -implicitDefEqProofs only [hb, go_sem] <;> try simp only [qz] at hb))
      all_goals (try rw [Int.toNat_natCast])
      all_goals first | rfl | omega | (simp only [bx_len, hlen]; omega) | skip
      refine ⟨⟨i + 1, by omega⟩, by dsimp only; omega, ?_⟩
      simp -implicitDefEqProofs only [go_sem]
      refine ⟨by simp, ?_⟩
      refine congrArg Ob.box ?_
      rw [setN]
      simp only [Int.toNat_natCast, Nat.mul_one]
      exact bx_spl (by omega)
    · have e1 : i = cs.size := by omega
      have e2 : List.drop 256 (bx (setN cs i)) = [] := List.drop_eq_nil_of_le (by rw [bx_len, hlen]; exact Nat.le_refl _)
      have e3 : decide (256 ≤ 256) = true := rfl
      simp -implicitDefEqProofs only [hlt, bx_take hlen, bx_len, hlen, e2, List.append_nil, Nat.zero_add, e3, cond_true, go_sem]
      subst e1
      repeat' (first | with_reducible apply And.intro | with_reducible intro _ | ((first | apply brB_split | apply aPickB_split | apply gB_split | apply adB_split) <;> intro hb <;> simp -implicitDefEqProofs only [hb, go_sem] <;> try simp only [qz] at hb))
      all_goals first
        | rfl
        | omega
        | exact bx_outP
        | (rw [bx_outI]; exact .nil)
        | (rw [bx_outZ]; simp; done)
        | skip
      all_goals trace_state
end
def c129 : Ct := ctR (lc AStr (lc AStr l0)) (fun p => p.2.1.size ≤ 1000 ∧ 2 ≤ p.2.1.size ∧ p.1.size ≤ 2000000 ∧ ∀ j, j < p.2.1.size → byteAt p.2.1 j < 128) (fun p => .t (.v (.string (trL (setN p.2.1 p.2.1.size) (trR (setN p.2.1 p.2.1.size) p.1)))))
section
attribute [local go_sem] c157 c158 c159 tyasz bx_zero bx_fine bx_drop0 b256_len ABs_dec ABs_enc
theorem good129 {G : Gt} (hG : OkG G) (hh : G.e 157 = roEnt 0 c157 ∧ G.e 158 = roEnt 0 c158 ∧ G.e 159 = roEnt 0 c159) : Gd G 129 (roEnt 0 c129) := by
  refine gR (dp := fun _ => true) (fn := Tryz.f129) (n := 2) (fun _ => rfl) (by kernel_rfl) rfl (by kernel_rfl) hG (Nat.le_of_ble_eq_true rfl) (by kernel_rfl) (by decide) (fun _ _ => .v _) ?_
  rintro ⟨s, cs, ⟨⟩⟩ hpre
  simp -implicitDefEqProofs only [Tryz.f129, go_sem, hh] at hpre ⊢
  have hc : ¬ cs = ⟨#[]⟩ := by intro e; rw [e] at hpre; exact absurd hpre.2.1 (by decide)
  have h1 : ¬ (cs.size : Int) = 1 := by omega
  have hlen := setN_len cs cs.size
  have htr : (trR (setN cs cs.size) s).size ≤ s.size := trR_le _ s
  by_cases hs : s = ⟨#[]⟩
  · simp -implicitDefEqProofs only [hs, go_sem, hh]
    repeat' (first | with_reducible apply And.intro | with_reducible intro _ | ((first | apply brB_split | apply aPickB_split | apply gB_split | apply adB_split) <;> intro hb <;> simp -implicitDefEqProofs only [hb, go_sem, hh] <;> try simp only [qz] at hb))
    all_goals first | rfl | omega | skip
    all_goals (rw [trR_nil, trL_nil])
  · simp -implicitDefEqProofs only [hs, hc, h1, bx_intern, bx_has, bx_dropm, bx_len, hlen, b256_len, bx_drop0, bx_snap, List.append_nil, List.nil_append, Nat.zero_add, go_sem, hh]
    repeat' (first | with_reducible apply And.intro | with_reducible intro _ | ((first | apply brB_split | apply aPickB_split | apply gB_split | apply adB_split) <;> intro hb <;> simp -implicitDefEqProofs only [hb, go_sem, hh] <;> try simp only [qz] at hb))
    all_goals first | rfl | omega | exact hpre.2.2.2 | exact hpre.2.2.2 _ (by assumption) | skip
    all_goals trace_state
end
theorem size0 {s : ByteArray} (h : s.size = 0) : s = ⟨#[]⟩ := by
  have : bl s = [] := List.eq_nil_of_length_eq_zero (by rw [bl_len]; exact h)
  exact bl_inj this
theorem byteAt_ext {s : ByteArray} {a b j : Nat} (h : a + j < b) : byteAt (s.extract a b) j = byteAt s (a + j) := by
  rw [byteAt_bl, byteAt_bl, bl_extract]
  congr 2
  simp only [List.getD_eq_getElem?_getD]
  rw [List.getElem?_take_of_lt (by omega), List.getElem?_drop]
section
variable {l : List Bool}
theorem trR_ne {s : ByteArray} (h : s.size ≠ 0) : trR l s = bif l.getD (byteAt s (s.size - 1)).toNat false then trR l (s.extract 0 (s.size - 1)) else s := by rw [trR, dif_neg h]
theorem trL_ne {s : ByteArray} (h : s.size ≠ 0) : trL l s = bif l.getD (byteAt s 0).toNat false then trL l (s.extract 1 s.size) else s := by rw [trL, dif_neg h]
theorem trR_all {s : ByteArray} (h : ∀ j, j < s.size → l.getD (byteAt s j).toNat false = true) : trR l s = ⟨#[]⟩ := by
  by_cases h0 : s.size = 0
  · rw [size0 h0, trR_nil]
  · rw [trR_ne h0, h (s.size - 1) (by omega), cond_true]
    refine trR_all fun j hj => ?_
    rw [ByteArray.size_extract] at hj
    rw [byteAt_ext (by omega), Nat.zero_add]
    exact h j (by omega)
termination_by s.size
decreasing_by rw [ByteArray.size_extract]; omega
theorem trL_emp {s : ByteArray} (h : trL l s = ⟨#[]⟩) : ∀ j, j < s.size → l.getD (byteAt s j).toNat false = true := by
  intro j hj
  have h0 : s.size ≠ 0 := by omega
  rw [trL_ne h0] at h
  cases hb : l.getD (byteAt s 0).toNat false
  · rw [hb, cond_false] at h
    rw [h] at hj
    cases hj
  · rw [hb, cond_true] at h
    by_cases hj0 : j = 0
    · rw [hj0]; exact hb
    · have := trL_emp h (j - 1) (by rw [ByteArray.size_extract]; omega)
      rw [byteAt_ext (by omega)] at this
      rw [show 1 + (j - 1) = j by omega] at this
      exact this
termination_by s.size
decreasing_by rw [ByteArray.size_extract]; omega
theorem trR_emp {s : ByteArray} (h : ∀ j, j < (trR l s).size → l.getD (byteAt (trR l s) j).toNat false = true) : ∀ j, j < s.size → l.getD (byteAt s j).toNat false = true := by
  intro j hj
  have h0 : s.size ≠ 0 := by omega
  rw [trR_ne h0] at h
  cases hb : l.getD (byteAt s (s.size - 1)).toNat false
  · rw [hb, cond_false] at h
    exact h j hj
  · rw [hb, cond_true] at h
    by_cases hj0 : j = s.size - 1
    · rw [hj0]; exact hb
    · have := trR_emp h j (by rw [ByteArray.size_extract]; omega)
      rw [byteAt_ext (by omega), Nat.zero_add] at this
      exact this
termination_by s.size
decreasing_by rw [ByteArray.size_extract]; omega
theorem tr_iff (s : ByteArray) : trL l (trR l s) = ⟨#[]⟩ ↔ ∀ j, j < s.size → l.getD (byteAt s j).toNat false = true :=
  ⟨fun h => trR_emp (trL_emp h), fun h => by rw [trR_all h, trL_nil]⟩
end
def lcs : ByteArray := ⟨#[97, 98, 99, 100, 101, 102, 103, 104, 105, 106, 107, 108, 109, 110, 111, 112, 113, 114, 115, 116, 117, 118, 119, 120, 121, 122, 48, 49, 50, 51, 52, 53, 54, 55, 56, 57]⟩
theorem lcs_get : ∀ k : Nat, k < 256 → (setN lcs 36).getD k false = ((Nat.ble 97 k && Nat.ble k 122) || (Nat.ble 48 k && Nat.ble k 57)) := by decide +kernel
theorem lcs_iff (s : ByteArray) : trL (setN lcs 36) (trR (setN lcs 36) s) = ⟨#[]⟩ ↔ ∀ j, j < s.size → isLc (byteAt s j) := by
  rw [tr_iff]
  refine forall_congr' fun j => imp_congr_right fun _ => ?_
  have h := byteAt_range s j
  rw [lcs_get _ (by omega)]
  simp only [Bool.or_eq_true, Bool.and_eq_true, Nat.ble_eq]
  unfold isLc
  omega
theorem bl_app (a b : ByteArray) : bl (a ++ b) = bl a ++ bl b := by
  unfold bl; rw [ByteArray.data_append, Array.toList_append]
theorem ends_dot (s e : ByteArray) : Ends s e ↔ s = e ∨ ((⟨#[46]⟩ : ByteArray).size + e.size ≤ s.size ∧ s.extract (s.size - ((⟨#[46]⟩ : ByteArray).size + e.size)) s.size = ⟨#[46]⟩ ++ e) := by
  unfold Ends
  refine or_congr_right ?_
  have h1 : (⟨#[46]⟩ : ByteArray).size = 1 := rfl
  rw [h1]
  by_cases hs : 1 + e.size ≤ s.size
  · obtain ⟨n, hn⟩ : ∃ n, s.size - (1 + e.size) = n := ⟨_, rfl⟩
    have e1 : s.size - e.size = n + 1 := by omega
    have e2 : s.size - e.size - 1 = n := by omega
    rw [hn, e1, Nat.add_sub_cancel]
    have q : ∀ k, bl (s.extract k s.size) = (bl s).drop k := fun k => by
      rw [bl_extract, List.take_of_length_le (by rw [List.length_drop, bl_len]; exact Nat.le_refl _)]
    have d := drop_byte (s := s) (i := n) (by omega)
    constructor
    · rintro ⟨_, h2, h3⟩
      refine ⟨hs, bl_inj ?_⟩
      rw [bl_app, q, d, ← h2, q]
      rw [byteAt_bl] at h3
      have : (bl s).getD n 0 = 46 := UInt8.toNat_inj.1 (by show ((bl s).getD n 0).toNat = 46; omega)
      rw [this]; rfl
    · rintro ⟨_, h2⟩
      have h3 := congrArg bl h2
      rw [bl_app, q, d] at h3
      have h4 : (bl s).getD n 0 :: (bl s).drop (n + 1) = 46 :: bl e := h3
      injection h4 with h5 h6
      refine ⟨by omega, bl_inj (by rw [q]; exact h6), ?_⟩
      rw [byteAt_bl, h5]; rfl
  · constructor
    · rintro ⟨h, _⟩; omega
    · rintro ⟨h, _⟩; omega
theorem dotc : UInt8.ofNat (byteAt ⟨#[46]⟩ 0).toNat = 46 := rfl
theorem lcs_low : ∀ j, j < 36 → byteAt lcs j < 128 := by decide +kernel
def c130 : Ct := ctR (lc AStr (lc AStr l0)) (fun p => p.2.1.size = 1 ∧ p.1.size ≤ 2000000) (fun p => .o true 1 ((spl p.1 (UInt8.ofNat (byteAt p.2.1 0).toNat)).map encStr))
section
attribute [local go_sem] c162
theorem good130 {G : Gt} (hG : OkG G) (hh : G.e 162 = roEnt 0 c162) : Gd G 130 (roEnt 0 c130) := by
  refine gR (dp := fun _ => true) (fn := Tryz.f130) (n := 2) (fun _ => rfl) (by kernel_rfl) rfl (by kernel_rfl) hG (Nat.le_of_ble_eq_true rfl) (by kernel_rfl) (by decide) (fun _ _ => .deep _ _) ?_
  rintro ⟨s, sep, ⟨⟩⟩ hpre
  simp -implicitDefEqProofs only [Tryz.f130, go_sem, hh] at hpre ⊢
  repeat' (first | with_reducible apply And.intro | with_reducible intro _ | ((first | apply brB_split | apply aPickB_split | apply gB_split | apply adB_split) <;> intro hb <;> simp -implicitDefEqProofs only [hb, go_sem, hh] <;> try simp only [qz] at hb))
  all_goals first | rfl | omega | (simp; done) | skip
end
def c36 : Ct := ctR (lc AInt (lc AInt (lc AInt l0))) (fun p => True) (fun p => .t (.v (.bool (bOf (p.2.1 ≤ p.1 ∧ p.1 ≤ p.2.2.1)))))
theorem good36 {G : Gt} (hG : OkG G) : Gd G 36 (roEnt 0 c36) := by
  refine gR (dp := fun _ => true) (fn := Tryz.f36) (n := 3) (fun _ => rfl) (by kernel_rfl) rfl (by kernel_rfl) hG (Nat.le_of_ble_eq_true rfl) (by kernel_rfl) (by decide) (fun _ _ => .v _) ?_
  rintro ⟨n, a, b, ⟨⟩⟩ hpre
  simp -implicitDefEqProofs only [Tryz.f36, go_sem] at hpre ⊢
  repeat' (first | with_reducible apply And.intro | with_reducible intro _ | ((first | apply brB_split | apply aPickB_split | apply gB_split | apply adB_split) <;> intro hb <;> simp -implicitDefEqProofs only [hb, go_sem] <;> try simp only [qz] at hb))
  all_goals first | rfl | omega | skip
  all_goals first
    | (rw [bOf_d]; simp only [*]; done)
    | (rw [bOf_d]; simp [*])
def c128 : Ct := ctR (lc AStr l0) (fun p => p.1.size ≤ 2000000) (fun p => .t (.v (.bool (bOf (Lin p.1)))))
theorem good128 {G : Gt} (hG : OkG G) : Gd G 128 (roEnt 0 c128) := by
  refine gR (dp := fun _ => true) (fn := Tryz.f128) (n := 1) (fun _ => rfl) (by kernel_rfl) rfl (by kernel_rfl) hG (Nat.le_of_ble_eq_true rfl) (by kernel_rfl) (by decide) (fun _ _ => .v _) ?_
  rintro ⟨s, ⟨⟩⟩ hpre
  simp -implicitDefEqProofs only [Tryz.f128, go_sem] at hpre ⊢
  repeat' (first | with_reducible apply And.intro | with_reducible intro _ | ((first | apply brB_split | apply aPickB_split | apply gB_split | apply adB_split) <;> intro hb <;> simp -implicitDefEqProofs only [hb, go_sem] <;> try simp only [qz] at hb))
  all_goals first | rfl | omega | skip
  refine run_loop [] (ι := {i : Nat // i ≤ s.size ∧ ∀ j, j < i → 32 ≤ byteAt s j ∧ byteAt s j ≤ 126}) (fun p => ⟨[(0, .t (.v (.string s))), (5, .t (.v (.int .i64 s.size))), (6, .t (.v (.int .i64 p.1)))], []⟩) (fun p => s.size - p.1) ⟨0, Nat.zero_le _, fun j hj => absurd hj (Nat.not_lt_zero _)⟩ rfl ?_ ?_
  · simp -implicitDefEqProofs only [go_sem]
    try simp
  · rintro ⟨i, hi, hall⟩
    by_cases hlt : (i : Int) < s.size
    · by_cases h1 : byteAt s (i : Int).toNat < 32
      · simp -implicitDefEqProofs only [hlt, h1, go_sem]
        repeat' (first | with_reducible apply And.intro | with_reducible intro _ | ((first | apply brB_split | apply aPickB_split | apply gB_split | apply adB_split) <;> intro hb <;> simp -implicitDefEqProofs only [hb, go_sem] <;> try simp only [qz] at hb))
        all_goals (try simp only [maxLen, Int.toNat_natCast] at *)
        all_goals first | rfl | omega | skip
        rw [bOf_n (fun h => by have := (h.1 i (by omega)).1; omega)]
      · by_cases h2 : byteAt s (i : Int).toNat > 126
        · simp -implicitDefEqProofs only [hlt, h1, h2, go_sem]
          repeat' (first | with_reducible apply And.intro | with_reducible intro _ | ((first | apply brB_split | apply aPickB_split | apply gB_split | apply adB_split) <;> intro hb <;> simp -implicitDefEqProofs only [hb, go_sem] <;> try simp only [qz] at hb))
          all_goals (try simp only [maxLen, Int.toNat_natCast] at *)
          all_goals first | rfl | omega | skip
          rw [bOf_n (fun h => by have := (h.1 i (by omega)).2; omega)]
        · simp -implicitDefEqProofs only [hlt, h1, h2, go_sem]
          repeat' (first | with_reducible apply And.intro | with_reducible intro _ | ((first | apply brB_split | apply aPickB_split | apply gB_split | apply adB_split) <;> intro hb <;> simp -implicitDefEqProofs only [hb, go_sem] <;> try simp only [qz] at hb))
          all_goals (try simp only [maxLen, Int.toNat_natCast] at *)
          all_goals first | rfl | omega | skip
          refine ⟨⟨i + 1, by omega, fun j hj => ?_⟩, by dsimp only; omega, ?_⟩
          · by_cases e : j = i
            · subst e; omega
            · exact hall j (by omega)
          · simp -implicitDefEqProofs only [go_sem]
            try simp
    · simp -implicitDefEqProofs only [hlt, go_sem]
      repeat' (first | with_reducible apply And.intro | with_reducible intro _ | ((first | apply brB_split | apply aPickB_split | apply gB_split | apply adB_split) <;> intro hb <;> simp -implicitDefEqProofs only [hb, go_sem] <;> try simp only [qz] at hb))
      all_goals (try simp only [maxLen, Int.toNat_natCast] at *)
      all_goals first | rfl | omega | skip
      rw [← bOf_d, bOf_congr]
      exact ⟨fun h => ⟨fun j hj => hall j (by omega), by omega⟩, fun h => by have := h.2; omega⟩
def c83 : Ct := ctR (lc AStr l0) (fun p => True) (fun p => .t (.v (.bool (bOf (Lbl p.1)))))
section
attribute [local go_sem] c36 c129 bOf_t bOf_f
theorem good83 {G : Gt} (hG : OkG G) (hh : G.e 36 = roEnt 0 c36 ∧ G.e 129 = roEnt 0 c129) : Gd G 83 (roEnt 0 c83) := by
  refine gR (dp := fun _ => true) (fn := Tryz.f83) (n := 1) (fun _ => rfl) (by kernel_rfl) rfl (by kernel_rfl) hG (Nat.le_of_ble_eq_true rfl) (by kernel_rfl) (by decide) (fun _ _ => .v _) ?_
  rintro ⟨s, ⟨⟩⟩ hpre
  simp -implicitDefEqProofs only [Tryz.f83, go_sem, hh] at hpre ⊢
  repeat' (first | with_reducible apply And.intro | with_reducible intro _ | ((first | apply brB_split | apply aPickB_split | apply gB_split | apply adB_split) <;> intro hb <;> simp -implicitDefEqProofs only [hb, go_sem, hh] <;> try simp only [qz] at hb))
  all_goals first | rfl | omega | exact lcs_low _ (by assumption) | (simp; done) | skip
  · show T.v (.bool (decide (trL (setN lcs 36) (trR (setN lcs 36) s) = ⟨#[]⟩))) = _
    rw [← bOf_d]
    refine congrArg (fun b => T.v (.bool b)) (bOf_congr ((lcs_iff s).trans ?_))
    exact ⟨fun h => ⟨h, by omega, by omega⟩, fun h => h.1⟩
  · rw [bOf_n (fun h => hb ⟨by have := h.2.1; omega, by have := h.2.2; omega⟩)]
end
def c84 : Ct := ctR (lc AStr l0) (fun p => p.1.size ≤ 2000000) (fun p => .t (.v (.bool (bOf (Dom p.1)))))
section
attribute [local go_sem] c130 c83 dotc aSet_map aCell_map List.length_map Bool.not_true Bool.not_false
theorem good84 {G : Gt} (hG : OkG G) (hh : G.e 130 = roEnt 0 c130 ∧ G.e 83 = roEnt 0 c83) : Gd G 84 (roEnt 0 c84) := by
  refine gR (dp := fun _ => true) (fn := Tryz.f84) (n := 1) (fun _ => rfl) (by kernel_rfl) rfl (by kernel_rfl) hG (Nat.le_of_ble_eq_true rfl) (by kernel_rfl) (by decide) (fun _ _ => .v _) ?_
  rintro ⟨s, ⟨⟩⟩ hpre
  simp -implicitDefEqProofs only [Tryz.f84, go_sem, hh] at hpre ⊢
  repeat' (first | with_reducible apply And.intro | with_reducible intro _ | ((first | apply brB_split | apply aPickB_split | apply gB_split | apply adB_split) <;> intro hb <;> simp -implicitDefEqProofs only [hb, go_sem, hh] <;> try simp only [qz] at hb))
  all_goals first | rfl | omega | skip
  have hlen := spl_len s 46
  have hcnt := cnt_le s 46
  refine run_loop [] (ι := {i : Nat // i ≤ (spl s 46).length ∧ ∀ j, j < i → Lbl ((spl s 46).getD j default)}) (fun p => ⟨[(3, .h 1007), (8, .h 1007), (9, .t (.v (.int .i64 (spl s 46).length))), (10, .t (.v (.int .i64 p.1)))], [(1007, some (.arr true 1 ((spl s 46).map encStr)))]⟩) (fun p => (spl s 46).length - p.1) ⟨0, Nat.zero_le _, fun j hj => absurd hj (Nat.not_lt_zero _)⟩ rfl ?_ ?_
  · simp -implicitDefEqProofs only [go_sem, hh]
    try simp
  · rintro ⟨i, hi, hall⟩
    by_cases hlt : (i : Int) < (spl s 46).length
    · cases hb : bOf (Lbl ((spl s 46).getD (i : Int).toNat default))
      · simp -implicitDefEqProofs only [hlt, hb, go_sem, hh]
        repeat' (first | with_reducible apply And.intro | with_reducible intro _ | ((first | apply brB_split | apply aPickB_split | apply gB_split | apply adB_split) <;> intro hb <;> simp -implicitDefEqProofs only [hb, go_sem, hh] <;> try simp only [qz] at hb))
        all_goals (try simp only [maxLen, Int.toNat_natCast, bOf_f] at *)
        all_goals first | rfl | omega | skip
        rw [bOf_n (fun h => hb (((Dom_spl s).1 h).1 _ (getD_mem (by omega))))]
      · simp -implicitDefEqProofs only [hlt, hb, go_sem, hh]
        repeat' (first | with_reducible apply And.intro | with_reducible intro _ | ((first | apply brB_split | apply aPickB_split | apply gB_split | apply adB_split) <;> intro hb <;> simp -implicitDefEqProofs only [hb, go_sem, hh] <;> try simp only [qz] at hb))
        all_goals (try simp only [maxLen, Int.toNat_natCast, bOf_t] at *)
        all_goals first | rfl | omega | skip
        refine ⟨⟨i + 1, by omega, all_step hall hb⟩, by dsimp only; omega, ?_⟩
        simp -implicitDefEqProofs only [go_sem, hh]
        simp
    · simp -implicitDefEqProofs only [hlt, go_sem, hh]
      repeat' (first | with_reducible apply And.intro | with_reducible intro _ | ((first | apply brB_split | apply aPickB_split | apply gB_split | apply adB_split) <;> intro hb <;> simp -implicitDefEqProofs only [hb, go_sem, hh] <;> try simp only [qz] at hb))
      all_goals first | rfl | omega | skip
      rw [← bOf_d, bOf_congr (Dom_spl s)]
      refine congrArg (fun b => T.v (.bool b)) (bOf_congr ?_)
      exact ⟨fun h => ⟨mem_getD fun j hj => hall j (by omega), by omega⟩, fun h => by have := h.2; omega⟩
end
def c37 : Ct := ctR (lc EAd.ag l0) (fun p => p.1.domain.size ≤ 2000000) (fun p => .t (.v (.bool (bOf (AdOk p.1)))))
section
attribute [local go_sem] c83 c84
theorem good37 {G : Gt} (hG : OkG G) (hh : G.e 83 = roEnt 0 c83 ∧ G.e 84 = roEnt 0 c84) : Gd G 37 (roEnt 0 c37) := by
  refine gR (dp := fun _ => true) (fn := Tryz.f37) (n := 1) (fun _ => rfl) (by kernel_rfl) rfl (by kernel_rfl) hG (Nat.le_of_ble_eq_true rfl) (by kernel_rfl) (by decide) (fun _ _ => .v _) ?_
  rintro ⟨a, ⟨⟩⟩ hpre
  simp -implicitDefEqProofs only [Tryz.f37, go_sem, hh] at hpre ⊢
  repeat' (first | with_reducible apply And.intro | with_reducible intro _ | ((first | apply brB_split | apply aPickB_split | apply gB_split | apply adB_split) <;> intro hb <;> simp -implicitDefEqProofs only [hb, go_sem, hh] <;> try simp only [qz] at hb))
  all_goals (try simp only [bOf_t, bOf_f] at *)
  all_goals first | rfl | omega | skip
  · refine congrArg (fun b => T.v (.bool b)) (bOf_congr ⟨fun h => ⟨by assumption, h⟩, fun h => h.2⟩)
  · rw [bOf_n (fun h => absurd h.1 (by assumption))]
end
def c41 : Ct := ctR (lc EAd.ag l0) (fun p => True) (fun p => .t (.v (.bool (bOf (AdNull p.1)))))
theorem good41 {G : Gt} (hG : OkG G) : Gd G 41 (roEnt 0 c41) := by
  refine gR (dp := fun _ => true) (fn := Tryz.f41) (n := 1) (fun _ => rfl) (by kernel_rfl) rfl (by kernel_rfl) hG (Nat.le_of_ble_eq_true rfl) (by kernel_rfl) (by decide) (fun _ _ => .v _) ?_
  rintro ⟨a, ⟨⟩⟩ hpre
  simp -implicitDefEqProofs only [Tryz.f41, go_sem] at hpre ⊢
  repeat' (first | with_reducible apply And.intro | with_reducible intro _ | ((first | apply brB_split | apply aPickB_split | apply gB_split | apply adB_split) <;> intro hb <;> simp -implicitDefEqProofs only [hb, go_sem] <;> try simp only [qz] at hb))
  all_goals first | rfl | omega | skip
  · unfold AdNull
    rw [bOf_d]
    by_cases h1 : a.user = ⟨#[]⟩ <;> by_cases h2 : a.domain = ⟨#[]⟩ <;> simp [h1, h2]
def c80 : Ct := ctR (lc EAd.ag l0) (fun p => p.1.domain.size ≤ 2000000) (fun p => .t (.v (.bool (bOf (AdOk p.1 ∨ AdNull p.1)))))
section
attribute [local go_sem] c37 c41
theorem good80 {G : Gt} (hG : OkG G) (hh : G.e 37 = roEnt 0 c37 ∧ G.e 41 = roEnt 0 c41) : Gd G 80 (roEnt 0 c80) := by
  refine gR (dp := fun _ => true) (fn := Tryz.f80) (n := 1) (fun _ => rfl) (by kernel_rfl) rfl (by kernel_rfl) hG (Nat.le_of_ble_eq_true rfl) (by kernel_rfl) (by decide) (fun _ _ => .v _) ?_
  rintro ⟨a, ⟨⟩⟩ hpre
  simp -implicitDefEqProofs only [Tryz.f80, go_sem, hh] at hpre ⊢
  repeat' (first | with_reducible apply And.intro | with_reducible intro _ | ((first | apply brB_split | apply aPickB_split | apply gB_split | apply adB_split) <;> intro hb <;> simp -implicitDefEqProofs only [hb, go_sem, hh] <;> try simp only [qz] at hb))
  all_goals (try simp only [bOf_t, bOf_f] at *)
  all_goals first | rfl | omega | skip
  · rw [bOf_y (.inr (by assumption))]
  · refine congrArg (fun b => T.v (.bool b)) (bOf_congr ⟨fun h => .inl h, fun h => h.resolve_right (by assumption)⟩)
end
namespace Enc
variable {α : Type} (E : Enc α)
def apD : AV → Option α
  | .t (.rop c) => E.dec c
  | _ => none
def ap : AD α where
  enc a := .t (.rop (E.enc a))
  dec := E.apD
  ed := fun a => E.ed a
  de := fun x a h => by
    unfold apD at h
    split at h
    · rw [E.de _ _ h]
    · cases h
end Enc
theorem ap_enc {α : Type} {E : Enc α} {a : α} : E.ap.enc a = .t (.rop (E.enc a)) := rfl
theorem ap_dec {α : Type} {E : Enc α} {c : List T} : E.ap.dec (.t (.rop c)) = E.dec c := rfl
theorem AFn0_dec {f : FuncId} : (AFn0 f).dec (.t (.fn f [])) = some () := if_pos rfl
theorem AFn0_enc {f : FuncId} {u : Unit} : (AFn0 f).enc u = .t (.fn f []) := rfl
noncomputable def ixP {α : Type} (p : α → Prop) : Nat → List α → Int
  | _, [] => -1
  | k, x :: t => bif bOf (p x) then k else ixP p (k + 1) t
theorem ixP_yes {α : Type} [Inhabited α] {p : α → Prop} {xs : List α} {i : Nat} (h : i < xs.length) (ha : p (xs.getD i default)) : ixP p i (xs.drop i) = i := by
  rw [getD_drop h, ixP, bOf_y ha]; rfl
theorem ixP_no {α : Type} [Inhabited α] {p : α → Prop} {xs : List α} {i : Nat} (h : i < xs.length) (ha : ¬ p (xs.getD i default)) : ixP p i (xs.drop i) = ixP p (i + 1) (xs.drop (i + 1)) := by
  rw [getD_drop h, ixP, bOf_n ha]; rfl
theorem ixP_end {α : Type} {p : α → Prop} {xs : List α} {i : Nat} (h : xs.length ≤ i) : ixP p i (xs.drop i) = -1 := by
  rw [List.drop_eq_nil_of_le h, ixP]
theorem ixP_iff {α : Type} {p : α → Prop} : ∀ (xs : List α) (k : Nat), 0 ≤ ixP p k xs ↔ ∃ x ∈ xs, p x
  | [], k => by simp [ixP]
  | x :: t, k => by
    rw [ixP]
    by_cases h : p x
    · rw [bOf_y h, cond_true]
      exact ⟨fun _ => ⟨x, by simp, h⟩, fun _ => by omega⟩
    · rw [bOf_n h, cond_false, ixP_iff t (k + 1)]
      simp [h]
inductive FAd where
  | wrong
def FAd.enc : FAd → AV
  | .wrong  => .t (.fn 85 [])
def FAd.dec : AV → Option FAd
  | .t (.fn 85 []) => some (.wrong )
  | _ => none
def FAd.sem : FAd → Ad → Prop
  | .wrong , x => ¬ AdOk x
def FAd.pre : FAd → Ad → Prop
  | .wrong , x => x.domain.size ≤ 2000000
def AFAd : AD FAd where
  enc := FAd.enc
  dec := FAd.dec
  ed := fun f => by cases f <;> rfl
  de := fun x f h => by
    unfold FAd.dec at h
    split at h <;> cases h <;> rfl
theorem AFAd_d0  : AFAd.dec (.t (.fn 85 [])) = some (.wrong ) := rfl
theorem AFAd_e0  : AFAd.enc (.wrong ) = .t (.fn 85 []) := rfl
def c85 : Ct := ctR (lc EAd.ag l0) (fun p => p.1.domain.size ≤ 2000000) (fun p => .t (.v (.bool (bOf (¬ AdOk p.1)))))
section
attribute [local go_sem] c37 ap_enc ap_dec AFn0_dec AFn0_enc Bool.not_true Bool.not_false ty146 lv27
theorem good85 {G : Gt} (hG : OkG G) (hh : G.e 37 = roEnt 0 c37) : Gd G 85 (roEnt 0 c85) := by
  refine gR (dp := fun _ => true) (fn := Tryz.f85) (n := 1) (fun _ => rfl) (by kernel_rfl) rfl (by kernel_rfl) hG (Nat.le_of_ble_eq_true rfl) (by kernel_rfl) (by decide) (fun _ _ => .v _) ?_
  rintro ⟨x, ⟨⟩⟩ hpre
  simp -implicitDefEqProofs only [Tryz.f85, go_sem, hh] at hpre ⊢
  repeat' (first | with_reducible apply And.intro | with_reducible intro _ | ((first | apply brB_split | apply aPickB_split | apply gB_split | apply adB_split) <;> intro hb <;> simp -implicitDefEqProofs only [hb, go_sem, hh] <;> try simp only [qz] at hb))
  all_goals first | rfl | omega | exact hpre | skip
  all_goals (try (simp only [bOf_not]; done))
  all_goals first | rfl | (rw [bOf_d]; done) | (rw [bOf_d, decide_eq_decide.2]; simp [Ad_ext]; done) | (rw [bOf_d]; simp [Ad_ext]; done)
end
def c131 : Ct := ctR (lc EAd.asl (lc AFAd l0)) (fun p => ∀ x ∈ p.1, p.2.1.pre x) (fun p => .t (.v (.int .i64 (ixP p.2.1.sem 0 p.1))))
section
attribute [local go_sem] c85 ap_enc ap_dec AFn0_dec AFn0_enc Bool.not_true Bool.not_false ty146 lv27 AFAd_d0 AFAd_e0
theorem good131 {G : Gt} (hG : OkG G) (hh : G.e 85 = roEnt 0 c85) : Gd G 131 (roEnt 0 c131) := by
  refine gR (dp := fun _ => true) (fn := Tryz.f131) (n := 2) (fun _ => rfl) (by kernel_rfl) rfl (by kernel_rfl) hG (Nat.le_of_ble_eq_true rfl) (by kernel_rfl) (by decide) (fun _ _ => .v _) ?_
  rintro ⟨xs, f, ⟨⟩⟩ hpre
  have hs := hpre
  dsimp only at hs ⊢
  cases f with
  | wrong  =>
    simp -implicitDefEqProofs only [Tryz.f131, go_sem, hh]
    repeat' (first | with_reducible apply And.intro | with_reducible intro _ | ((first | apply brB_split | apply aPickB_split | apply gB_split | apply adB_split) <;> intro hb <;> simp -implicitDefEqProofs only [hb, go_sem, hh] <;> try simp only [qz] at hb))
    all_goals first | rfl | omega | skip
    refine run_loop [] (ι := {i : Nat // i ≤ xs.length ∧ ixP (FAd.sem (.wrong )) 0 xs = ixP (FAd.sem (.wrong )) i (xs.drop i)}) (fun p => ⟨[(0, .t (.sl 2 (xs.map encAd))), (1, .t (.fn 85 [])), (7, .t (.v (.int .i64 xs.length))), (8, .t (.v (.int .i64 p.1)))], []⟩) (fun p => xs.length - p.1) ⟨0, Nat.zero_le _, rfl⟩ rfl ?_ ?_
    · simp -implicitDefEqProofs only [go_sem, hh]
      try simp
    · rintro ⟨i, hi, hix⟩
      by_cases hlt : (i : Int) < xs.length
      · have hm : xs.getD (i : Int).toNat default ∈ xs := getD_mem (by omega)
        have hsz := hs _ hm
        cases hb : bOf (¬ AdOk (xs.getD (i : Int).toNat default))
        · have hq := hb
          simp -implicitDefEqProofs only [hlt, hq, go_sem, hh]
          repeat' (first | with_reducible apply And.intro | with_reducible intro _ | ((first | apply brB_split | apply aPickB_split | apply gB_split | apply adB_split) <;> intro hb <;> simp -implicitDefEqProofs only [hb, go_sem, hh] <;> try simp only [qz] at hb))
          all_goals (try simp only [maxLen] at *)
          all_goals first | rfl | omega | with_reducible assumption | exact hsz | exact hsz.1 | exact hsz.2 | exact hsz.2 _ (by assumption) | exact hsz.2.1 | exact hsz.2.2.1 | exact hsz.2.2.2 | trivial | skip
          rw [bOf_f, Int.toNat_natCast] at hb
          refine ⟨⟨i + 1, by omega, ?_⟩, by dsimp only; omega, ?_⟩
          · rw [hix, ixP_no (p := FAd.sem (.wrong )) (by omega) hb]
          · simp -implicitDefEqProofs only [go_sem, hh]
            try simp
        · have hq := hb
          simp -implicitDefEqProofs only [hlt, hq, go_sem, hh]
          repeat' (first | with_reducible apply And.intro | with_reducible intro _ | ((first | apply brB_split | apply aPickB_split | apply gB_split | apply adB_split) <;> intro hb <;> simp -implicitDefEqProofs only [hb, go_sem, hh] <;> try simp only [qz] at hb))
          all_goals (try simp only [maxLen] at *)
          all_goals first | rfl | omega | with_reducible assumption | exact hsz | exact hsz.1 | exact hsz.2 | exact hsz.2 _ (by assumption) | exact hsz.2.1 | exact hsz.2.2.1 | exact hsz.2.2.2 | trivial | skip
          rw [bOf_t, Int.toNat_natCast] at hb
          rw [hix, ixP_yes (p := FAd.sem (.wrong )) (by omega) hb]
      · simp -implicitDefEqProofs only [hlt, go_sem, hh]
        repeat' (first | with_reducible apply And.intro | with_reducible intro _ | ((first | apply brB_split | apply aPickB_split | apply gB_split | apply adB_split) <;> intro hb <;> simp -implicitDefEqProofs only [hb, go_sem, hh] <;> try simp only [qz] at hb))
        all_goals first | rfl | omega | skip
        all_goals (rw [hix, ixP_end (by omega)])
end
def c86 : Ct := ctR (lc EAd.asl (lc AFAd l0)) (fun p => ∀ x ∈ p.1, p.2.1.pre x) (fun p => .t (.v (.bool (bOf (∃ x ∈ p.1, p.2.1.sem x)))))
section
attribute [local go_sem] c131 ap_enc ap_dec AFn0_dec AFn0_enc Bool.not_true Bool.not_false ty146 lv27 AFAd_d0 AFAd_e0
theorem good86 {G : Gt} (hG : OkG G) (hh : G.e 131 = roEnt 0 c131) : Gd G 86 (roEnt 0 c86) := by
  refine gR (dp := fun _ => true) (fn := Tryz.f86) (n := 2) (fun _ => rfl) (by kernel_rfl) rfl (by kernel_rfl) hG (Nat.le_of_ble_eq_true rfl) (by kernel_rfl) (by decide) (fun _ _ => .v _) ?_
  rintro ⟨xs, f, ⟨⟩⟩ hpre
  dsimp only at hpre ⊢
  cases f
  all_goals
    simp -implicitDefEqProofs only [Tryz.f86, go_sem, hh]
    repeat' (first | with_reducible apply And.intro | with_reducible intro _ | ((first | apply brB_split | apply aPickB_split | apply gB_split | apply adB_split) <;> intro hb <;> simp -implicitDefEqProofs only [hb, go_sem, hh] <;> try simp only [qz] at hb))
    all_goals first | rfl | omega | exact hpre | exact hpre _ (by assumption) | skip
    all_goals (rw [← bOf_congr (ixP_iff _ 0)]; rw [bOf_d])
end
inductive FStr where
  | line
def FStr.enc : FStr → AV
  | .line  => .t (.fn 127 [])
def FStr.dec : AV → Option FStr
  | .t (.fn 127 []) => some (.line )
  | _ => none
def FStr.sem : FStr → ByteArray → Prop
  | .line , x => ¬ Lin x
def FStr.pre : FStr → ByteArray → Prop
  | .line , x => x.size ≤ 2000000
def AFStr : AD FStr where
  enc := FStr.enc
  dec := FStr.dec
  ed := fun f => by cases f <;> rfl
  de := fun x f h => by
    unfold FStr.dec at h
    split at h <;> cases h <;> rfl
theorem AFStr_d0  : AFStr.dec (.t (.fn 127 [])) = some (.line ) := rfl
theorem AFStr_e0  : AFStr.enc (.line ) = .t (.fn 127 []) := rfl
def c127 : Ct := ctR (lc AStr l0) (fun p => p.1.size ≤ 2000000) (fun p => .t (.v (.bool (bOf (¬ Lin p.1)))))
section
attribute [local go_sem] c128 ap_enc ap_dec AFn0_dec AFn0_enc Bool.not_true Bool.not_false ty146 lv27
theorem good127 {G : Gt} (hG : OkG G) (hh : G.e 128 = roEnt 0 c128) : Gd G 127 (roEnt 0 c127) := by
  refine gR (dp := fun _ => true) (fn := Tryz.f127) (n := 1) (fun _ => rfl) (by kernel_rfl) rfl (by kernel_rfl) hG (Nat.le_of_ble_eq_true rfl) (by kernel_rfl) (by decide) (fun _ _ => .v _) ?_
  rintro ⟨x, ⟨⟩⟩ hpre
  simp -implicitDefEqProofs only [Tryz.f127, go_sem, hh] at hpre ⊢
  repeat' (first | with_reducible apply And.intro | with_reducible intro _ | ((first | apply brB_split | apply aPickB_split | apply gB_split | apply adB_split) <;> intro hb <;> simp -implicitDefEqProofs only [hb, go_sem, hh] <;> try simp only [qz] at hb))
  all_goals first | rfl | omega | exact hpre | skip
  all_goals (try (simp only [bOf_not]; done))
  all_goals first | rfl | (rw [bOf_d]; done) | (rw [bOf_d, decide_eq_decide.2]; simp [Ad_ext]; done) | (rw [bOf_d]; simp [Ad_ext]; done)
end
def c154 : Ct := ctR (lc EStr.asl (lc AFStr l0)) (fun p => ∀ x ∈ p.1, p.2.1.pre x) (fun p => .t (.v (.int .i64 (ixP p.2.1.sem 0 p.1))))
section
attribute [local go_sem] c127 ap_enc ap_dec AFn0_dec AFn0_enc Bool.not_true Bool.not_false ty146 lv27 AFStr_d0 AFStr_e0
theorem good154 {G : Gt} (hG : OkG G) (hh : G.e 127 = roEnt 0 c127) : Gd G 154 (roEnt 0 c154) := by
  refine gR (dp := fun _ => true) (fn := Tryz.f154) (n := 2) (fun _ => rfl) (by kernel_rfl) rfl (by kernel_rfl) hG (Nat.le_of_ble_eq_true rfl) (by kernel_rfl) (by decide) (fun _ _ => .v _) ?_
  rintro ⟨xs, f, ⟨⟩⟩ hpre
  have hs := hpre
  dsimp only at hs ⊢
  cases f with
  | line  =>
    simp -implicitDefEqProofs only [Tryz.f154, go_sem, hh]
    repeat' (first | with_reducible apply And.intro | with_reducible intro _ | ((first | apply brB_split | apply aPickB_split | apply gB_split | apply adB_split) <;> intro hb <;> simp -implicitDefEqProofs only [hb, go_sem, hh] <;> try simp only [qz] at hb))
    all_goals first | rfl | omega | skip
    refine run_loop [] (ι := {i : Nat // i ≤ xs.length ∧ ixP (FStr.sem (.line )) 0 xs = ixP (FStr.sem (.line )) i (xs.drop i)}) (fun p => ⟨[(0, .t (.sl 1 (xs.map encStr))), (1, .t (.fn 127 [])), (7, .t (.v (.int .i64 xs.length))), (8, .t (.v (.int .i64 p.1)))], []⟩) (fun p => xs.length - p.1) ⟨0, Nat.zero_le _, rfl⟩ rfl ?_ ?_
    · simp -implicitDefEqProofs only [go_sem, hh]
      try simp
    · rintro ⟨i, hi, hix⟩
      by_cases hlt : (i : Int) < xs.length
      · have hm : xs.getD (i : Int).toNat default ∈ xs := getD_mem (by omega)
        have hsz := hs _ hm
        cases hb : bOf (¬ Lin (xs.getD (i : Int).toNat default))
        · have hq := hb
          simp -implicitDefEqProofs only [hlt, hq, go_sem, hh]
          repeat' (first | with_reducible apply And.intro | with_reducible intro _ | ((first | apply brB_split | apply aPickB_split | apply gB_split | apply adB_split) <;> intro hb <;> simp -implicitDefEqProofs only [hb, go_sem, hh] <;> try simp only [qz] at hb))
          all_goals (try simp only [maxLen] at *)
          all_goals first | rfl | omega | with_reducible assumption | exact hsz | exact hsz.1 | exact hsz.2 | exact hsz.2 _ (by assumption) | exact hsz.2.1 | exact hsz.2.2.1 | exact hsz.2.2.2 | trivial | skip
          rw [bOf_f, Int.toNat_natCast] at hb
          refine ⟨⟨i + 1, by omega, ?_⟩, by dsimp only; omega, ?_⟩
          · rw [hix, ixP_no (p := FStr.sem (.line )) (by omega) hb]
          · simp -implicitDefEqProofs only [go_sem, hh]
            try simp
        · have hq := hb
          simp -implicitDefEqProofs only [hlt, hq, go_sem, hh]
          repeat' (first | with_reducible apply And.intro | with_reducible intro _ | ((first | apply brB_split | apply aPickB_split | apply gB_split | apply adB_split) <;> intro hb <;> simp -implicitDefEqProofs only [hb, go_sem, hh] <;> try simp only [qz] at hb))
          all_goals (try simp only [maxLen] at *)
          all_goals first | rfl | omega | with_reducible assumption | exact hsz | exact hsz.1 | exact hsz.2 | exact hsz.2 _ (by assumption) | exact hsz.2.1 | exact hsz.2.2.1 | exact hsz.2.2.2 | trivial | skip
          rw [bOf_t, Int.toNat_natCast] at hb
          rw [hix, ixP_yes (p := FStr.sem (.line )) (by omega) hb]
      · simp -implicitDefEqProofs only [hlt, go_sem, hh]
        repeat' (first | with_reducible apply And.intro | with_reducible intro _ | ((first | apply brB_split | apply aPickB_split | apply gB_split | apply adB_split) <;> intro hb <;> simp -implicitDefEqProofs only [hb, go_sem, hh] <;> try simp only [qz] at hb))
        all_goals first | rfl | omega | skip
        all_goals (rw [hix, ixP_end (by omega)])
end
def c126 : Ct := ctR (lc EStr.asl (lc AFStr l0)) (fun p => ∀ x ∈ p.1, p.2.1.pre x) (fun p => .t (.v (.bool (bOf (∃ x ∈ p.1, p.2.1.sem x)))))
section
attribute [local go_sem] c154 ap_enc ap_dec AFn0_dec AFn0_enc Bool.not_true Bool.not_false ty146 lv27 AFStr_d0 AFStr_e0
theorem good126 {G : Gt} (hG : OkG G) (hh : G.e 154 = roEnt 0 c154) : Gd G 126 (roEnt 0 c126) := by
  refine gR (dp := fun _ => true) (fn := Tryz.f126) (n := 2) (fun _ => rfl) (by kernel_rfl) rfl (by kernel_rfl) hG (Nat.le_of_ble_eq_true rfl) (by kernel_rfl) (by decide) (fun _ _ => .v _) ?_
  rintro ⟨xs, f, ⟨⟩⟩ hpre
  dsimp only at hpre ⊢
  cases f
  all_goals
    simp -implicitDefEqProofs only [Tryz.f126, go_sem, hh]
    repeat' (first | with_reducible apply And.intro | with_reducible intro _ | ((first | apply brB_split | apply aPickB_split | apply gB_split | apply adB_split) <;> intro hb <;> simp -implicitDefEqProofs only [hb, go_sem, hh] <;> try simp only [qz] at hb))
    all_goals first | rfl | omega | exact hpre | exact hpre _ (by assumption) | skip
    all_goals (rw [← bOf_congr (ixP_iff _ 0)]; rw [bOf_d])
end
inductive FIm where
  | num (n : Int)
def FIm.enc : FIm → AV
  | .num n => .t (.fn 118 [.rop [.v (.int .i64 n)]])
def FIm.dec : AV → Option FIm
  | .t (.fn 118 [.rop [.v (.int .i64 n)]]) => some (.num n)
  | _ => none
def FIm.sem : FIm → Im → Prop
  | .num n, x => x.id = n
def FIm.pre : FIm → Im → Prop
  | .num _, x => True
def AFIm : AD FIm where
  enc := FIm.enc
  dec := FIm.dec
  ed := fun f => by cases f <;> rfl
  de := fun x f h => by
    unfold FIm.dec at h
    split at h <;> cases h <;> rfl
theorem AFIm_d0 {n : Int} : AFIm.dec (.t (.fn 118 [.rop [.v (.int .i64 n)]])) = some (.num n) := rfl
theorem AFIm_e0 {n : Int} : AFIm.enc (.num n) = .t (.fn 118 [.rop [.v (.int .i64 n)]]) := rfl
def c118 : Ct := ctR (lc EIm.ag (lc EInt.ap l0)) (fun p => True) (fun p => .t (.v (.bool (bOf (p.1.id = p.2.1)))))
section
attribute [local go_sem] ap_enc ap_dec AFn0_dec AFn0_enc Bool.not_true Bool.not_false ty146 lv27
theorem good118 {G : Gt} (hG : OkG G) : Gd G 118 (roEnt 0 c118) := by
  refine gR (dp := fun _ => true) (fn := Tryz.f118) (n := 2) (fun _ => rfl) (by kernel_rfl) rfl (by kernel_rfl) hG (Nat.le_of_ble_eq_true rfl) (by kernel_rfl) (by decide) (fun _ _ => .v _) ?_
  rintro ⟨x, n, ⟨⟩⟩ hpre
  simp -implicitDefEqProofs only [Tryz.f118, go_sem] at hpre ⊢
  repeat' (first | with_reducible apply And.intro | with_reducible intro _ | ((first | apply brB_split | apply aPickB_split | apply gB_split | apply adB_split) <;> intro hb <;> simp -implicitDefEqProofs only [hb, go_sem] <;> try simp only [qz] at hb))
  all_goals first | rfl | omega | exact hpre | skip
  all_goals (try (simp only [bOf_not]; done))
  all_goals first | rfl | (rw [bOf_d]; done) | (rw [bOf_d, decide_eq_decide.2]; simp [Ad_ext]; done) | (rw [bOf_d]; simp [Ad_ext]; done)
end
def c117 : Ct := ctR (lc EIm.asl (lc AFIm l0)) (fun p => ∀ x ∈ p.1, p.2.1.pre x) (fun p => .t (.v (.int .i64 (ixP p.2.1.sem 0 p.1))))
section
attribute [local go_sem] c118 ap_enc ap_dec AFn0_dec AFn0_enc Bool.not_true Bool.not_false ty146 lv27 AFIm_d0 AFIm_e0
theorem good117 {G : Gt} (hG : OkG G) (hh : G.e 118 = roEnt 0 c118) : Gd G 117 (roEnt 0 c117) := by
  refine gR (dp := fun _ => true) (fn := Tryz.f117) (n := 2) (fun _ => rfl) (by kernel_rfl) rfl (by kernel_rfl) hG (Nat.le_of_ble_eq_true rfl) (by kernel_rfl) (by decide) (fun _ _ => .v _) ?_
  rintro ⟨xs, f, ⟨⟩⟩ hpre
  have hs := hpre
  dsimp only at hs ⊢
  cases f with
  | num n =>
    simp -implicitDefEqProofs only [Tryz.f117, go_sem, hh]
    repeat' (first | with_reducible apply And.intro | with_reducible intro _ | ((first | apply brB_split | apply aPickB_split | apply gB_split | apply adB_split) <;> intro hb <;> simp -implicitDefEqProofs only [hb, go_sem, hh] <;> try simp only [qz] at hb))
    all_goals first | rfl | omega | skip
    refine run_loop [] (ι := {i : Nat // i ≤ xs.length ∧ ixP (FIm.sem (.num n)) 0 xs = ixP (FIm.sem (.num n)) i (xs.drop i)}) (fun p => ⟨[(0, .t (.sl 5 (xs.map encIm))), (1, AFIm.enc (.num n)), (7, .t (.v (.int .i64 xs.length))), (8, .t (.v (.int .i64 p.1)))], []⟩) (fun p => xs.length - p.1) ⟨0, Nat.zero_le _, rfl⟩ rfl ?_ ?_
    · simp -implicitDefEqProofs only [go_sem, hh]
      try simp
    · rintro ⟨i, hi, hix⟩
      by_cases hlt : (i : Int) < xs.length
      · have hm : xs.getD (i : Int).toNat default ∈ xs := getD_mem (by omega)
        have hsz := hs _ hm
        cases hb : bOf ((xs.getD (i : Int).toNat default).id = n)
        · have hq := hb
          simp -implicitDefEqProofs only [hlt, hq, go_sem, hh]
          repeat' (first | with_reducible apply And.intro | with_reducible intro _ | ((first | apply brB_split | apply aPickB_split | apply gB_split | apply adB_split) <;> intro hb <;> simp -implicitDefEqProofs only [hb, go_sem, hh] <;> try simp only [qz] at hb))
          all_goals (try simp only [maxLen] at *)
          all_goals first | rfl | omega | with_reducible assumption | exact hsz | exact hsz.1 | exact hsz.2 | exact hsz.2 _ (by assumption) | exact hsz.2.1 | exact hsz.2.2.1 | exact hsz.2.2.2 | trivial | skip
          rw [bOf_f, Int.toNat_natCast] at hb
          refine ⟨⟨i + 1, by omega, ?_⟩, by dsimp only; omega, ?_⟩
          · rw [hix, ixP_no (p := FIm.sem (.num n)) (by omega) hb]
          · simp -implicitDefEqProofs only [go_sem, hh]
            try simp
        · have hq := hb
          simp -implicitDefEqProofs only [hlt, hq, go_sem, hh]
          repeat' (first | with_reducible apply And.intro | with_reducible intro _ | ((first | apply brB_split | apply aPickB_split | apply gB_split | apply adB_split) <;> intro hb <;> simp -implicitDefEqProofs only [hb, go_sem, hh] <;> try simp only [qz] at hb))
          all_goals (try simp only [maxLen] at *)
          all_goals first | rfl | omega | with_reducible assumption | exact hsz | exact hsz.1 | exact hsz.2 | exact hsz.2 _ (by assumption) | exact hsz.2.1 | exact hsz.2.2.1 | exact hsz.2.2.2 | trivial | skip
          rw [bOf_t, Int.toNat_natCast] at hb
          rw [hix, ixP_yes (p := FIm.sem (.num n)) (by omega) hb]
      · simp -implicitDefEqProofs only [hlt, go_sem, hh]
        repeat' (first | with_reducible apply And.intro | with_reducible intro _ | ((first | apply brB_split | apply aPickB_split | apply gB_split | apply adB_split) <;> intro hb <;> simp -implicitDefEqProofs only [hb, go_sem, hh] <;> try simp only [qz] at hb))
        all_goals first | rfl | omega | skip
        all_goals (rw [hix, ixP_end (by omega)])
end
inductive FRc where
  | who (b : Ad)
def FRc.enc : FRc → AV
  | .who b => .t (.fn 120 [.rop [.v (.string b.user), .v (.string b.domain)]])
def FRc.dec : AV → Option FRc
  | .t (.fn 120 [.rop [.v (.string b0), .v (.string b1)]]) => some (.who ⟨b0, b1⟩)
  | _ => none
def FRc.sem : FRc → Rc → Prop
  | .who b, x => x.addr = b
def FRc.pre : FRc → Rc → Prop
  | .who _, x => True
def AFRc : AD FRc where
  enc := FRc.enc
  dec := FRc.dec
  ed := fun f => by cases f <;> rfl
  de := fun x f h => by
    unfold FRc.dec at h
    split at h <;> cases h <;> rfl
theorem AFRc_d0 {b0 : ByteArray} {b1 : ByteArray} : AFRc.dec (.t (.fn 120 [.rop [.v (.string b0), .v (.string b1)]])) = some (.who ⟨b0, b1⟩) := rfl
theorem AFRc_e0 {b : Ad} : AFRc.enc (.who b) = .t (.fn 120 [.rop [.v (.string b.user), .v (.string b.domain)]]) := rfl
def c120 : Ct := ctR (lc ERc.ag (lc EAd.ap l0)) (fun p => True) (fun p => .t (.v (.bool (bOf (p.1.addr = p.2.1)))))
section
attribute [local go_sem] ap_enc ap_dec AFn0_dec AFn0_enc Bool.not_true Bool.not_false ty146 lv27
theorem good120 {G : Gt} (hG : OkG G) : Gd G 120 (roEnt 0 c120) := by
  refine gR (dp := fun _ => true) (fn := Tryz.f120) (n := 2) (fun _ => rfl) (by kernel_rfl) rfl (by kernel_rfl) hG (Nat.le_of_ble_eq_true rfl) (by kernel_rfl) (by decide) (fun _ _ => .v _) ?_
  rintro ⟨x, b, ⟨⟩⟩ hpre
  simp -implicitDefEqProofs only [Tryz.f120, go_sem] at hpre ⊢
  repeat' (first | with_reducible apply And.intro | with_reducible intro _ | ((first | apply brB_split | apply aPickB_split | apply gB_split | apply adB_split) <;> intro hb <;> simp -implicitDefEqProofs only [hb, go_sem] <;> try simp only [qz] at hb))
  all_goals first | rfl | omega | exact hpre | skip
  all_goals (try (simp only [bOf_not]; done))
  all_goals first | rfl | (rw [bOf_d]; done) | (rw [bOf_d, decide_eq_decide.2]; simp [Ad_ext]; done) | (rw [bOf_d]; simp [Ad_ext]; done)
end
def c119 : Ct := ctR (lc ERc.asl (lc AFRc l0)) (fun p => ∀ x ∈ p.1, p.2.1.pre x) (fun p => .t (.v (.int .i64 (ixP p.2.1.sem 0 p.1))))
section
attribute [local go_sem] c120 ap_enc ap_dec AFn0_dec AFn0_enc Bool.not_true Bool.not_false ty146 lv27 AFRc_d0 AFRc_e0
theorem good119 {G : Gt} (hG : OkG G) (hh : G.e 120 = roEnt 0 c120) : Gd G 119 (roEnt 0 c119) := by
  refine gR (dp := fun _ => true) (fn := Tryz.f119) (n := 2) (fun _ => rfl) (by kernel_rfl) rfl (by kernel_rfl) hG (Nat.le_of_ble_eq_true rfl) (by kernel_rfl) (by decide) (fun _ _ => .v _) ?_
  rintro ⟨xs, f, ⟨⟩⟩ hpre
  have hs := hpre
  dsimp only at hs ⊢
  cases f with
  | who b =>
    simp -implicitDefEqProofs only [Tryz.f119, go_sem, hh]
    repeat' (first | with_reducible apply And.intro | with_reducible intro _ | ((first | apply brB_split | apply aPickB_split | apply gB_split | apply adB_split) <;> intro hb <;> simp -implicitDefEqProofs only [hb, go_sem, hh] <;> try simp only [qz] at hb))
    all_goals first | rfl | omega | skip
    refine run_loop [] (ι := {i : Nat // i ≤ xs.length ∧ ixP (FRc.sem (.who b)) 0 xs = ixP (FRc.sem (.who b)) i (xs.drop i)}) (fun p => ⟨[(0, .t (.sl 4 (xs.map encRc))), (1, AFRc.enc (.who b)), (7, .t (.v (.int .i64 xs.length))), (8, .t (.v (.int .i64 p.1)))], []⟩) (fun p => xs.length - p.1) ⟨0, Nat.zero_le _, rfl⟩ rfl ?_ ?_
    · simp -implicitDefEqProofs only [go_sem, hh]
      try simp
    · rintro ⟨i, hi, hix⟩
      by_cases hlt : (i : Int) < xs.length
      · have hm : xs.getD (i : Int).toNat default ∈ xs := getD_mem (by omega)
        have hsz := hs _ hm
        cases hb : bOf ((xs.getD (i : Int).toNat default).addr = b)
        · have hq := hb
          simp -implicitDefEqProofs only [hlt, hq, go_sem, hh]
          repeat' (first | with_reducible apply And.intro | with_reducible intro _ | ((first | apply brB_split | apply aPickB_split | apply gB_split | apply adB_split) <;> intro hb <;> simp -implicitDefEqProofs only [hb, go_sem, hh] <;> try simp only [qz] at hb))
          all_goals (try simp only [maxLen] at *)
          all_goals first | rfl | omega | with_reducible assumption | exact hsz | exact hsz.1 | exact hsz.2 | exact hsz.2 _ (by assumption) | exact hsz.2.1 | exact hsz.2.2.1 | exact hsz.2.2.2 | trivial | skip
          rw [bOf_f, Int.toNat_natCast] at hb
          refine ⟨⟨i + 1, by omega, ?_⟩, by dsimp only; omega, ?_⟩
          · rw [hix, ixP_no (p := FRc.sem (.who b)) (by omega) hb]
          · simp -implicitDefEqProofs only [go_sem, hh]
            try simp
        · have hq := hb
          simp -implicitDefEqProofs only [hlt, hq, go_sem, hh]
          repeat' (first | with_reducible apply And.intro | with_reducible intro _ | ((first | apply brB_split | apply aPickB_split | apply gB_split | apply adB_split) <;> intro hb <;> simp -implicitDefEqProofs only [hb, go_sem, hh] <;> try simp only [qz] at hb))
          all_goals (try simp only [maxLen] at *)
          all_goals first | rfl | omega | with_reducible assumption | exact hsz | exact hsz.1 | exact hsz.2 | exact hsz.2 _ (by assumption) | exact hsz.2.1 | exact hsz.2.2.1 | exact hsz.2.2.2 | trivial | skip
          rw [bOf_t, Int.toNat_natCast] at hb
          rw [hix, ixP_yes (p := FRc.sem (.who b)) (by omega) hb]
      · simp -implicitDefEqProofs only [hlt, go_sem, hh]
        repeat' (first | with_reducible apply And.intro | with_reducible intro _ | ((first | apply brB_split | apply aPickB_split | apply gB_split | apply adB_split) <;> intro hb <;> simp -implicitDefEqProofs only [hb, go_sem, hh] <;> try simp only [qz] at hb))
        all_goals first | rfl | omega | skip
        all_goals (rw [hix, ixP_end (by omega)])
end
def c82 : Ct := ctR (lc EStr.asl l0) (fun p => ∀ s ∈ p.1, s.size ≤ 2000000) (fun p => .t (.v (.bool (bOf (BdOk p.1)))))
section
attribute [local go_sem] c126 ap_enc ap_dec AFn0_dec AFn0_enc Bool.not_true Bool.not_false ty146 lv27 AFStr_d0 AFStr_e0
theorem good82 {G : Gt} (hG : OkG G) (hh : G.e 126 = roEnt 0 c126) : Gd G 82 (roEnt 0 c82) := by
  refine gR (dp := fun _ => true) (fn := Tryz.f82) (n := 1) (fun _ => rfl) (by kernel_rfl) rfl (by kernel_rfl) hG (Nat.le_of_ble_eq_true rfl) (by kernel_rfl) (by decide) (fun _ _ => .v _) ?_
  rintro ⟨xs, ⟨⟩⟩ hpre
  simp -implicitDefEqProofs only [Tryz.f82, go_sem, hh] at hpre ⊢
  repeat' (first | with_reducible apply And.intro | with_reducible intro _ | ((first | apply brB_split | apply aPickB_split | apply gB_split | apply adB_split) <;> intro hb <;> simp -implicitDefEqProofs only [hb, go_sem, hh] <;> try simp only [qz] at hb))
  all_goals first | rfl | omega | exact hpre | exact hpre _ (by assumption) | exact trivial | skip
  · rw [bOf_not]
    refine congrArg (fun b => T.v (.bool b)) (bOf_congr ?_)
    constructor
    · intro h
      exact ⟨fun s hs => Classical.byContradiction fun q => h ⟨s, hs, q⟩, by omega⟩
    · rintro h ⟨s, hs, q⟩
      exact q (h.1 s hs)
  · rw [bOf_n (fun h => by have := h.2; omega)]
end
theorem K31 : Maps.Keyed Tryz.prog 27 := Maps.Keyed.of_law (deep_law_laid (m := 5) (by kernel_rfl) (by decide) (Nat.lt_of_lt_of_le (Nat.lt_succ_self 27) (Nat.le_of_ble_eq_true (by kernel_rfl))) (by kernel_rfl) (by kernel_rfl))
noncomputable def fs31 : Array Field := match Tryz.prog.underlying 27 with | some (.struct fs) => fs | _ => #[]
theorem u31 : Tryz.prog.underlying 27 = some (.struct fs31) := by kernel_rfl
theorem u9 : Tryz.prog.underlying 9 = some .string := by kernel_rfl
theorem u3 : Tryz.prog.underlying 3 = some (.int .i64) := by kernel_rfl
theorem fs31_l : (fs31.toList.map fun f => (f.type, f.offset)) = [(9, 0), (9, 1)] := by kernel_rfl
theorem fs31_n : fs31.all (·.name != "_") = true := by kernel_rfl
theorem co9 : Tryz.prog.cellsOf 9 = 1 := by kernel_rfl
theorem co31 : Tryz.prog.cellsOf 27 = 2 := by kernel_rfl
theorem kt31 : Tryz.prog.keyType 27 = true := by kernel_rfl
theorem ts31 : ∃ n, Tryz.prog.types.size + 1 = n + 2 := ⟨Tryz.prog.types.size - 1, by
  have : 27 < Tryz.prog.types.size := Nat.lt_of_lt_of_le (Nat.lt_succ_self 27) (Nat.le_of_ble_eq_true (by kernel_rfl))
  omega⟩
theorem kl9 (d : Nat) {s : ByteArray} (h : s.size ≤ maxLen) : Tryz.prog.keyLits (d + 1) 9 [.string s] = some [.string s.data.toList] := by
  simp only [Program.keyLits, u9, if_pos h]
theorem key31 {k : MK} (h : k.ok (some 2)) : ∃ l, keyOf Tryz.prog 27 k.val = some l := by
  cases k with
  | i n => exact h.elim
  | s b => exact absurd h.1 (by decide)
  | ss l =>
    obtain ⟨h1, h2, _⟩ := h
    obtain ⟨u, d, rfl⟩ : ∃ u d, l = [u, d] := by
      rcases l with _ | ⟨u, _ | ⟨d, _ | ⟨z, t⟩⟩⟩
      · cases h1
      · cases h1
      · exact ⟨u, d, rfl⟩
      · simp at h1
    obtain ⟨n, hn⟩ := ts31
    have hl : fs31.toList.map (fun f => (f.type, f.offset)) = [(9, 0), (9, 1)] := fs31_l
    rcases hf : fs31.toList with _ | ⟨f, _ | ⟨g, _ | ⟨z, t⟩⟩⟩
    · rw [hf] at hl; cases hl
    · rw [hf] at hl; simp at hl
    · rw [hf] at hl
      · simp only [List.map_cons, List.map_nil, List.cons.injEq, Prod.mk.injEq, and_true] at hl
        obtain ⟨⟨a1, a2⟩, b1, b2⟩ := hl
        refine ⟨.string (keyBytes [.string u.data.toList, .string d.data.toList]), ?_⟩
        have hform : (MK.val (.ss [u, d])).formed Tryz.prog 27 = true := by
          simp only [Value.formed, MK.val, u31, co31]
          rfl
        unfold keyOf
        rw [u31]
        show (if (Tryz.prog.keyType 27 && (MK.val (.ss [u, d])).formed Tryz.prog 27) = true then _ else none) = _
        rw [kt31, hform]
        refine (if_pos rfl).trans ?_
        rw [hn]
        have : Tryz.prog.keyLits (n + 2) 27 (MK.val (.ss [u, d])).cells.toList = some [.string u.data.toList, .string d.data.toList] := by
          show Tryz.prog.keyLits (n + 2) 27 [.string u, .string d] = _
          have e1 : [Value.string u, Value.string d].length = Tryz.prog.cellsOf 27 ∧ fs31.all (·.name != "_") = true := ⟨by rw [co31]; rfl, fs31_n⟩
          rw [Program.keyLits.eq_def]
          simp only [u31]
          refine (if_pos e1).trans ?_
          rw [hf]
          simp only [List.mapM_cons, List.mapM_nil, a1, a2, b1, b2, co9, List.drop_zero, List.take_succ_cons, List.take_zero, List.drop_succ_cons, kl9 n (h2 u (by simp)), kl9 n (h2 d (by simp))]
          rfl
        rw [this]; rfl
    · rw [hf] at hl
      simp only [List.map_cons, List.cons.injEq] at hl
      exact absurd hl.2.2 (by simp)
theorem kd31 : KeyD Tryz.prog 27 (some 2) := KeyD.ss K31 key31
theorem kd3 : KeyD Tryz.prog 3 none := KeyD.int u3
def mkA (a : Ad) : MK := .ss [a.user, a.domain]
theorem mkA_inj {a b : Ad} (h : mkA a = mkA b) : a = b := by
  cases a; cases b
  simp only [mkA, MK.ss.injEq, List.cons.injEq, and_true] at h
  rw [h.1, h.2]
def dis (xs : List Ad) : List (MK × Bool) := xs.foldl (fun es a => upE (mkA a) true es) []
theorem dis_snoc (xs : List Ad) (a : Ad) : dis (xs ++ [a]) = upE (mkA a) true (dis xs) := by simp [dis]
theorem upE_keys {k : MK} {b : Bool} : ∀ {es : List (MK × Bool)}, (upE k b es).map Prod.fst = if k ∈ es.map Prod.fst then es.map Prod.fst else es.map Prod.fst ++ [k]
  | [] => by simp [upE]
  | p :: r => by
    rw [upE]
    by_cases h : p.1 = k
    · simp [h]
    · have hk : ¬ k = p.1 := fun e => h e.symm
      rw [if_neg h, List.map_cons, upE_keys]
      by_cases h2 : k ∈ r.map Prod.fst
      · rw [if_pos h2, if_pos (by simp only [List.map_cons, List.mem_cons]; exact .inr h2)]; rfl
      · rw [if_neg h2, if_neg (by simp only [List.map_cons, List.mem_cons]; exact fun e => e.elim hk h2)]; rfl
theorem dis_mem (xs : List Ad) (a : Ad) : mkA a ∈ (dis xs).map Prod.fst ↔ a ∈ xs := by
  generalize hr : xs.reverse = r
  have hx : xs = r.reverse := by rw [← hr, List.reverse_reverse]
  subst hx
  clear hr
  induction r with
  | nil => simp [dis]
  | cons b r ih =>
    rw [List.reverse_cons, dis_snoc, upE_keys, List.mem_append, ← propext ih]
    by_cases h : mkA b ∈ (dis r.reverse).map Prod.fst
    · rw [if_pos h]
      constructor
      · exact .inl
      · rintro (h1 | h1)
        · exact h1
        · rw [List.mem_singleton.1 h1]; exact h
    · rw [if_neg h, List.mem_append, List.mem_singleton, List.mem_singleton]
      exact or_congr_right ⟨mkA_inj, fun e => by rw [e]⟩
theorem dis_len (xs : List Ad) : (dis xs).length ≤ xs.length ∧ ((dis xs).length = xs.length ↔ xs.Nodup) := by
  generalize hr : xs.reverse = r
  have hx : xs = r.reverse := by rw [← hr, List.reverse_reverse]
  subst hx
  clear hr
  induction r with
  | nil => simp [dis]
  | cons b r ih =>
    have hl : ∀ es : List (MK × Bool), es.length = (es.map Prod.fst).length := fun es => by rw [List.length_map]
    have hn : (r.reverse ++ [b]).Nodup ↔ r.reverse.Nodup ∧ b ∉ r.reverse := by
      rw [List.nodup_append]
      constructor
      · rintro ⟨h1, _, h3⟩
        exact ⟨h1, fun hb => h3 b hb b (by simp) rfl⟩
      · rintro ⟨h1, h2⟩
        refine ⟨h1, by simp, fun x hx y hy e => ?_⟩
        rw [List.mem_singleton] at hy
        subst hy; subst e; exact h2 hx
    rw [List.reverse_cons, dis_snoc, hl, upE_keys, List.length_append, hn, ← dis_mem]
    obtain ⟨i1, i2⟩ := ih
    by_cases h : mkA b ∈ (dis r.reverse).map Prod.fst
    · rw [if_pos h, ← hl]
      refine ⟨by omega, ⟨fun e => ?_, fun e => absurd h e.2⟩⟩
      simp at e i1; omega
    · rw [if_neg h, List.length_append, ← hl]
      refine ⟨by simp at *; omega, ⟨fun e => ⟨i2.1 (by simp at *; omega), h⟩, fun e => ?_⟩⟩
      have := i2.2 e.1
      simp at *; omega
theorem take_succ' {xs : List Ad} {i : Nat} (h : i < xs.length) : xs.take (i + 1) = xs.take i ++ [xs.getD i default] := by
  rw [List.take_succ_eq_append_getElem h]
  simp [h]
theorem dis_take {xs : List Ad} {i : Nat} (h : i < xs.length) : upE (.ss [(xs.getD i default).user, (xs.getD i default).domain]) true (dis (xs.take i)) = dis (xs.take (i + 1)) := by
  rw [take_succ' h, dis_snoc]; rfl
def c81 : Ct := ctR (lc EAd.asl l0) (fun p => True) (fun p => .t (.v (.bool (bOf p.1.Nodup))))
section
attribute [local go_sem] ap_enc ap_dec AFn0_dec AFn0_enc Bool.not_true Bool.not_false ty146 lv27 AFAd_d0 AFAd_e0 AFStr_d0 AFStr_e0
theorem good81 {G : Gt} (hG : OkG G) : Gd G 81 (roEnt 0 c81) := by
  refine gR (dp := fun _ => true) (fn := Tryz.f81) (n := 1) (fun _ => rfl) (by kernel_rfl) rfl (by kernel_rfl) hG (Nat.le_of_ble_eq_true rfl) (by kernel_rfl) (by decide) (fun _ _ => .v _) ?_
  rintro ⟨xs, ⟨⟩⟩ hpre
  simp -implicitDefEqProofs only [Tryz.f81, go_sem] at hpre ⊢
  repeat' (first | with_reducible apply And.intro | with_reducible intro _ | ((first | apply brB_split | apply aPickB_split | apply gB_split | apply adB_split) <;> intro hb <;> simp -implicitDefEqProofs only [hb, go_sem] <;> try simp only [qz] at hb))
  all_goals first | rfl | omega | skip
  refine run_loop [] (ι := {i : Nat // i ≤ xs.length}) (fun p => ⟨[(0, .t (.sl 2 (xs.map encAd))), (3, .h 1006), (7, .t (.sl 2 (xs.map encAd))), (8, .t (.v (.int .i64 xs.length))), (9, .t (.v (.int .i64 p.1)))], [(1006, some (.mp (some 2) (dis (xs.take p.1))))]⟩) (fun p => xs.length - p.1) ⟨0, Nat.zero_le _⟩ rfl ?_ ?_
  · simp -implicitDefEqProofs only [go_sem]
    simp
    rfl
  · rintro ⟨i, hi⟩
    by_cases hlt : (i : Int) < xs.length
    · simp -implicitDefEqProofs only [hlt, go_sem]
      repeat' (first | with_reducible apply And.intro | with_reducible intro _ | ((first | apply brB_split | apply aPickB_split | apply gB_split | apply adB_split) <;> intro hb <;> simp -implicitDefEqProofs only [hb, go_sem] <;> try simp only [qz] at hb))
      all_goals (try simp only [maxLen] at *)
      all_goals first | rfl | omega | exact kd31 | skip
      refine ⟨⟨i + 1, by omega⟩, by dsimp only; omega, ?_⟩
      simp -implicitDefEqProofs only [go_sem]
      simp only [Int.toNat_natCast, dis_take (show i < xs.length by omega)]
      try simp
    · simp -implicitDefEqProofs only [hlt, go_sem]
      repeat' (first | with_reducible apply And.intro | with_reducible intro _ | ((first | apply brB_split | apply aPickB_split | apply gB_split | apply adB_split) <;> intro hb <;> simp -implicitDefEqProofs only [hb, go_sem] <;> try simp only [qz] at hb))
      all_goals first | rfl | omega | skip
      rw [List.take_of_length_le (by omega), ← bOf_congr (dis_len xs).2, bOf_d]
      refine congrArg (fun b => T.v (.bool b)) (decide_eq_decide.2 ?_)
      omega
end
def c39 : Ct := ctR (lc EMl.ag l0) (fun p => (∀ a ∈ p.1.to, a.domain.size ≤ 2000000) ∧ p.1.frm.domain.size ≤ 2000000 ∧ ∀ s ∈ p.1.body, s.size ≤ 2000000) (fun p => .t (.v (.bool (bOf (MlOk p.1)))))
section
attribute [local go_sem] c80 c36 c86 c81 c82 ap_enc ap_dec AFn0_dec AFn0_enc Bool.not_true Bool.not_false ty146 lv27 AFAd_d0 AFAd_e0 AFStr_d0 AFStr_e0 bOf_t bOf_f
set_option maxHeartbeats 800000 in
theorem good39 {G : Gt} (hG : OkG G) (hh : G.e 80 = roEnt 0 c80 ∧ G.e 36 = roEnt 0 c36 ∧ G.e 86 = roEnt 0 c86 ∧ G.e 81 = roEnt 0 c81 ∧ G.e 82 = roEnt 0 c82) : Gd G 39 (roEnt 0 c39) := by
  refine gR (dp := fun _ => true) (fn := Tryz.f39) (n := 1) (fun _ => rfl) (by kernel_rfl) rfl (by kernel_rfl) hG (Nat.le_of_ble_eq_true rfl) (by kernel_rfl) (by decide) (fun _ _ => .v _) ?_
  rintro ⟨m, ⟨⟩⟩ hpre
  simp -implicitDefEqProofs only [Tryz.f39, go_sem, hh] at hpre ⊢
  repeat' (first | with_reducible apply And.intro | with_reducible intro _ | ((first | apply brB_split | apply aPickB_split | apply gB_split | apply adB_split) <;> intro hb <;> simp -implicitDefEqProofs only [hb, go_sem, hh] <;> try simp only [qz] at hb))
  all_goals (try simp only [bOf_t, bOf_f, bOf_not, Decidable.not_not, Classical.not_not] at *)
  all_goals first | rfl | omega | exact hpre.1 | exact hpre.2.1 | exact hpre.2.2 | exact hpre.1 _ (by assumption) | exact hpre.2.2 _ (by assumption) | skip
  · refine congrArg (fun b => T.v (.bool b)) (bOf_congr ⟨fun h => ?_, fun h => h.2.2.2.2⟩)
    rename_i q1 q2 q3 q4
    exact ⟨fun a ha => Classical.byContradiction fun q => q4 ⟨a, ha, q⟩, hb, q1, by omega, h⟩
  · rw [bOf_n (fun h => absurd h.2.1 (by assumption))]
  · rw [bOf_n (fun h => by obtain ⟨a, ha, q⟩ := hb; exact q (h.1 a ha))]
  · rw [bOf_n (fun h => by have := h.2.2.2.1; omega)]
  · rw [bOf_n (fun h => absurd h.2.2.1 (by assumption))]
end
theorem take_snoc_map {α : Type} [Inhabited α] (enc : α → List T) {xs : List α} {i : Nat} (h : i < xs.length) : (xs.take (i + 1)).map enc = (xs.take i).map enc ++ [enc (xs.getD i default)] := by
  rw [List.take_succ_eq_append_getElem h, List.map_append, List.map_cons, List.map_nil]
  simp only [List.getD_eq_getElem?_getD, List.getElem?_eq_getElem h, Option.getD_some]
theorem tmap {α : Type} {enc : α → List T} {xs : List α} {k : Nat} : (xs.map enc).take k = (xs.take k).map enc := List.map_take.symm
theorem dmap {α : Type} {enc : α → List T} {xs : List α} {k : Nat} : (xs.map enc).drop k = (xs.drop k).map enc := List.map_drop.symm
def RcOk (r : Rc) : Prop := AdOk r.addr ∧ (0 ≤ r.tries ∧ r.tries ≤ 3) ∧ (0 ≤ r.next ∧ r.next ≤ 9999)
def ImOk (x : Im) : Prop := (∀ r ∈ x.to, RcOk r) ∧ (x.to.map Rc.addr).Nodup ∧ 0 < x.id ∧ (AdOk x.frm ∨ AdNull x.frm) ∧ (1 ≤ x.to.length ∧ x.to.length ≤ 4) ∧ BdOk x.body
def Asc (xs : List Im) : Prop := ∀ j, 0 < j → j < xs.length → (xs.getD (j - 1) default).id < (xs.getD j default).id
def SpOk (s : Sp) : Prop := (∀ x ∈ s.items, ImOk x ∧ x.id ≤ s.last) ∧ Asc s.items ∧ (0 ≤ s.last ∧ s.last ≤ 999) ∧ s.items.length ≤ 10
theorem nodup_addr {xs : List Rc} (h : ∀ j, j < xs.length → ∀ k, k < j → ¬ (xs.getD k default).addr = (xs.getD j default).addr) : (xs.map Rc.addr).Nodup := by
  rw [List.nodup_iff_pairwise_ne, List.pairwise_iff_getElem]
  intro k j hk hj hkj
  rw [List.length_map] at hk hj
  have := h j hj k hkj
  simpa [hk, hj] using this
theorem addr_nodup {xs : List Rc} (h : (xs.map Rc.addr).Nodup) {k i : Nat} (hk : k < i) (hi : i < xs.length) : ¬ (xs.getD k default).addr = (xs.getD i default).addr := fun e => by
  have q1 : k < xs.length := by omega
  simp only [List.getD_eq_getElem?_getD, List.getElem?_eq_getElem q1, List.getElem?_eq_getElem hi, Option.getD_some] at e
  exact List.pairwise_iff_getElem.1 (List.nodup_iff_pairwise_ne.1 h) k i (by simpa using q1) (by simpa using hi) hk (by simpa using e)
def c121 : Ct := ctR (lc ERc.ag l0) (fun p => True) (fun p => .t (.v (.bool (bOf (RcOk p.1)))))
section
attribute [local go_sem] c74 c71
theorem good121 {G : Gt} (hG : OkG G) (hh : G.e 74 = roEnt 0 c74 ∧ G.e 71 = roEnt 0 c71) : Gd G 121 (roEnt 0 c121) := by
  refine gR (dp := fun _ => true) (fn := Tryz.f121) (n := 1) (fun _ => rfl) (by kernel_rfl) rfl (by kernel_rfl) hG (Nat.le_of_ble_eq_true rfl) (by kernel_rfl) (by decide) (fun _ _ => .v _) ?_
  rintro ⟨r, ⟨⟩⟩ hpre
  simp -implicitDefEqProofs only [Tryz.f121, go_sem, hh] at hpre ⊢
  repeat' (first | with_reducible apply And.intro | with_reducible intro _ | ((first | apply brB_split | apply aPickB_split | apply gB_split | apply adB_split) <;> intro hb <;> simp -implicitDefEqProofs only [hb, go_sem, hh] <;> try simp only [qz] at hb))
  all_goals first
    | rfl
    | omega
    | exact congrArg (fun b => T.v (Value.bool b)) (bOf_congr ⟨fun h => ⟨by assumption, by assumption, h⟩, fun h => h.2.2⟩)
    | (rw [bOf_n (fun h => absurd h.1 (by assumption))]; done)
    | (rw [bOf_n (fun h => absurd h.2.1 (by assumption))]; done)
end
def c70 : Ct := ctR (lc EIm.ag l0) (fun p => True) (fun p => .t (.v (.bool (bOf (ImOk p.1)))))
section
attribute [local go_sem] c74 c71 c121 c72 c122 List.length_map
set_option maxHeartbeats 800000 in
theorem good70 {G : Gt} (hG : OkG G) (hh : G.e 74 = roEnt 0 c74 ∧ G.e 71 = roEnt 0 c71 ∧ G.e 121 = roEnt 0 c121 ∧ G.e 72 = roEnt 0 c72 ∧ G.e 122 = roEnt 0 c122) : Gd G 70 (roEnt 0 c70) := by
  refine gR (dp := fun _ => true) (fn := Tryz.f70) (n := 1) (fun _ => rfl) (by kernel_rfl) rfl (by kernel_rfl) hG (Nat.le_of_ble_eq_true rfl) (by kernel_rfl) (by decide) (fun _ _ => .v _) ?_
  rintro ⟨x, ⟨⟩⟩ hpre
  simp -implicitDefEqProofs only [Tryz.f70, go_sem, hh] at hpre ⊢
  have hbox : ∀ y : Im, Ob.box [AV.t (T.v (Value.int IntKind.i64 y.id)), AV.t (T.v (Value.string y.frm.user)), AV.t (T.v (Value.string y.frm.domain)), AV.t (T.sl 4 (List.map encRc y.to)), AV.t (T.sl 1 (List.map encStr y.body))] = Ob.box ((encIm y).map .t) := fun _ => rfl
  refine run_loop [] (ι := {i : Nat // i ≤ x.to.length ∧ (∀ j, j < i → RcOk (x.to.getD j default)) ∧ ∀ j, j < i → ∀ k, k < j → ¬ (x.to.getD k default).addr = (x.to.getD j default).addr}) (fun p => ⟨[(1, .pb 1001 0), (3, .t (.v (.int .i64 p.1)))], [(1001, some (.box ((encIm x).map .t)))]⟩) (fun p => x.to.length - p.1) ⟨0, by simp, by simp, by simp⟩ rfl ?_ ?_
  · simp -implicitDefEqProofs only [go_sem, hh]
    simp
  · rintro ⟨i, hi, hall, hno⟩
    simp -implicitDefEqProofs only [go_sem, hh]
    repeat' (first | with_reducible apply And.intro | with_reducible intro _ | ((first | apply brB_split | apply aPickB_split | apply gB_split | apply adB_split) <;> intro hb <;> simp -implicitDefEqProofs only [hb, go_sem, hh] <;> try simp only [qz] at hb))
    all_goals (try simp only [maxLen, Int.toNat_natCast, List.length_map] at *)
    all_goals first | rfl | omega | skip
    · rw [bOf_n (fun h => hb (h.1 _ (getD_mem (by omega))))]
    · refine run_loop [] (ι := {k : Nat // k ≤ i ∧ ∀ j, j < k → ¬ (x.to.getD j default).addr = (x.to.getD i default).addr}) (fun p => ⟨[(1, .pb 1001 0), (3, .t (.v (.int .i64 i))), (4, .t (.v (.int .i64 p.1)))], [(1001, some (.box ((encIm x).map .t)))]⟩) (fun p => i - p.1) ⟨0, by simp, by simp⟩ rfl ?_ ?_
      · simp -implicitDefEqProofs only [go_sem, hh]
        simp
      · rintro ⟨k, hk, hk2⟩
        simp -implicitDefEqProofs only [go_sem, hh]
        repeat' (first | with_reducible apply And.intro | with_reducible intro _ | ((first | apply brB_split | apply aPickB_split | apply gB_split | apply adB_split) <;> intro hb <;> simp -implicitDefEqProofs only [hb, go_sem, hh] <;> try simp only [qz] at hb))
        all_goals (try simp only [maxLen, Int.toNat_natCast, List.length_map] at *)
        all_goals first | rfl | omega | skip
        · have e : (x.to.getD k default).addr = (x.to.getD i default).addr := Ad_ext.2 (by simpa using hb)
          rw [bOf_n (fun h => addr_nodup h.2.1 (by omega) (by omega) e)]
        · refine ⟨⟨k + 1, by omega, fun j hj => ?_⟩, by dsimp only; omega, ?_⟩
          · by_cases e : j = k
            · subst e; exact neqb hb
            · exact hk2 j (by omega)
          · simp -implicitDefEqProofs only [go_sem, hh]
            simp
        · refine ⟨⟨i + 1, by omega, all_step hall (by assumption), fun j hj q hq => ?_⟩, by dsimp only; omega, ?_⟩
          · by_cases e : j = i
            · subst e; exact hk2 q (by omega)
            · exact hno j (by omega) q hq
          · simp -implicitDefEqProofs only [go_sem, hh]
            simp
    all_goals have hA : ∀ r ∈ x.to, RcOk r := mem_getD fun j hj => hall j (by omega)
    all_goals have hN : (x.to.map Rc.addr).Nodup := nodup_addr fun j hj q hq => hno j (by omega) q hq
    all_goals first
      | (rw [bOf_congr]
         exact ⟨fun h => ⟨hA, hN, by first | assumption | omega, by first | exact .inl (by assumption) | exact .inr (by assumption), by omega, h⟩, fun h => h.2.2.2.2.2⟩)
      | (rw [bOf_n]
         intro h
         first
           | (have := h.2.2.1; omega)
           | (have := h.2.2.2.2.1; omega)
           | (rcases h.2.2.2.1 with h | h <;> contradiction))
end
def c30 : Ct := ctR (lc ESp.ag l0) (fun p => True) (fun p => .t (.v (.bool (bOf (SpOk p.1)))))
section
attribute [local go_sem] c70 c71 List.length_map Bool.not_true Bool.not_false
set_option maxHeartbeats 1600000 in
theorem good30 {G : Gt} (hG : OkG G) (hh : G.e 70 = roEnt 0 c70 ∧ G.e 71 = roEnt 0 c71) : Gd G 30 (roEnt 0 c30) := by
  refine gR (dp := fun _ => true) (fn := Tryz.f30) (n := 1) (fun _ => rfl) (by kernel_rfl) rfl (by kernel_rfl) hG (Nat.le_of_ble_eq_true rfl) (by kernel_rfl) (by decide) (fun _ _ => .v _) ?_
  rintro ⟨s, ⟨⟩⟩ hpre
  simp -implicitDefEqProofs only [Tryz.f30, go_sem, hh] at hpre ⊢
  refine run_loop [] (ι := {i : Nat // i ≤ s.items.length ∧ (∀ j, j < i → ImOk (s.items.getD j default) ∧ (s.items.getD j default).id ≤ s.last) ∧ ∀ j, 0 < j → j < i → (s.items.getD (j - 1) default).id < (s.items.getD j default).id}) (fun p => ⟨[(1, .pb 1001 0), (3, .t (.v (.int .i64 p.1)))], [(1001, some (.box ((encSp s).map .t)))]⟩) (fun p => s.items.length - p.1) ⟨0, by simp, by simp, by simp⟩ rfl ?_ ?_
  · simp -implicitDefEqProofs only [go_sem, hh]
    simp
  · rintro ⟨i, hi, hall, hasc⟩
    by_cases hlt : (i : Int) < s.items.length
    · simp -implicitDefEqProofs only [hlt, decide_true, go_sem, hh]
      repeat' (first | with_reducible apply And.intro | with_reducible intro _ | ((first | apply brB_split | apply aPickB_split | apply gB_split | apply adB_split) <;> intro hb <;> simp -implicitDefEqProofs only [hb, go_sem, hh] <;> try simp only [qz] at hb))
      all_goals (try simp only [maxLen, Int.toNat_natCast, List.length_map] at *)
      all_goals first | rfl | omega | skip
      all_goals (try rw [show ((i : Int) - 1).toNat = i - 1 from by omega] at hb)
      all_goals first
        | (rw [bOf_n (fun h => by have h1 := h.1 _ (getD_mem (xs := s.items) (j := i) (by omega)); first | exact hb h1.1 | omega)]; done)
        | (rw [bOf_n (fun h => by have h1 := h.2.1 i (by omega) (by omega); omega)]; done)
        | skip
      all_goals
        refine ⟨⟨i + 1, by omega, all_step (P := fun x : Im => ImOk x ∧ x.id ≤ s.last) hall ⟨by assumption, by omega⟩, fun j h0 hj => ?_⟩, by dsimp only; omega, ?_⟩
        · by_cases e : j = i
          · subst e; omega
          · exact hasc j h0 (by omega)
        · simp -implicitDefEqProofs only [go_sem, hh]
          simp
    · simp -implicitDefEqProofs only [hlt, decide_false, go_sem, hh]
      repeat' (first | with_reducible apply And.intro | with_reducible intro _ | ((first | apply brB_split | apply aPickB_split | apply gB_split | apply adB_split) <;> intro hb <;> simp -implicitDefEqProofs only [hb, go_sem, hh] <;> try simp only [qz] at hb))
      all_goals (try simp only [maxLen, Int.toNat_natCast, List.length_map] at *)
      all_goals first | rfl | omega | skip
      · refine congrArg (fun b => T.v (Value.bool b)) ?_
        rw [← bOf_d, bOf_congr]
        exact ⟨fun h => ⟨mem_getD fun j hj => hall j (by omega), fun j h0 hj => hasc j h0 (by omega), hb, by omega⟩, fun h => by have := h.2.2.2; omega⟩
      · rw [bOf_n (fun h => hb h.2.2.1)]
end
def c124 : Ct := ctR (lc ESp.ag (lc AInt l0)) (fun p => True) (fun p => .t (.v (.int .i64 (ixP (fun x : Im => x.id = p.2.1) 0 p.1.items))))
section
attribute [local go_sem] List.length_map
theorem good124 {G : Gt} (hG : OkG G) : Gd G 124 (roEnt 0 c124) := by
  refine gR (dp := fun _ => true) (fn := Tryz.f124) (n := 2) (fun _ => rfl) (by kernel_rfl) rfl (by kernel_rfl) hG (Nat.le_of_ble_eq_true rfl) (by kernel_rfl) (by decide) (fun _ _ => .v _) ?_
  rintro ⟨s, n, ⟨⟩⟩ hpre
  simp -implicitDefEqProofs only [Tryz.f124, go_sem] at hpre ⊢
  refine run_loop [] (ι := {i : Nat // i ≤ s.items.length ∧ ixP (fun x : Im => x.id = n) 0 s.items = ixP (fun x : Im => x.id = n) i (s.items.drop i)}) (fun p => ⟨[(1, .t (.v (.int .i64 n))), (2, .pb 1002 0), (5, .t (.v (.int .i64 p.1)))], [(1002, some (.box ((encSp s).map .t)))]⟩) (fun p => s.items.length - p.1) ⟨0, by simp, rfl⟩ rfl ?_ ?_
  · simp -implicitDefEqProofs only [go_sem]
    simp
  · rintro ⟨i, hi, hix⟩
    simp -implicitDefEqProofs only [go_sem]
    repeat' (first | with_reducible apply And.intro | with_reducible intro _ | ((first | apply brB_split | apply aPickB_split | apply gB_split | apply adB_split) <;> intro hb <;> simp -implicitDefEqProofs only [hb, go_sem] <;> try simp only [qz] at hb))
    all_goals (try simp only [maxLen, Int.toNat_natCast, List.length_map] at *)
    all_goals first | rfl | omega | skip
    · rw [hix, ixP_yes (p := fun x : Im => x.id = n) (by omega) hb]
    · refine ⟨⟨i + 1, by omega, by rw [hix, ixP_no (p := fun x : Im => x.id = n) (by omega) hb]⟩, by dsimp only; omega, ?_⟩
      simp -implicitDefEqProofs only [go_sem]
      simp
    · rw [hix, ixP_end (by omega)]
end
def c125 : Ct := ctR (lc EIm.ag (lc EAd.ag l0)) (fun p => True) (fun p => .t (.v (.int .i64 (ixP (fun r : Rc => r.addr = p.2.1) 0 p.1.to))))
section
attribute [local go_sem] List.length_map
theorem good125 {G : Gt} (hG : OkG G) : Gd G 125 (roEnt 0 c125) := by
  refine gR (dp := fun _ => true) (fn := Tryz.f125) (n := 2) (fun _ => rfl) (by kernel_rfl) rfl (by kernel_rfl) hG (Nat.le_of_ble_eq_true rfl) (by kernel_rfl) (by decide) (fun _ _ => .v _) ?_
  rintro ⟨x, a, ⟨⟩⟩ hpre
  simp -implicitDefEqProofs only [Tryz.f125, go_sem] at hpre ⊢
  refine run_loop [] (ι := {i : Nat // i ≤ x.to.length ∧ ixP (fun r : Rc => r.addr = a) 0 x.to = ixP (fun r : Rc => r.addr = a) i (x.to.drop i)}) (fun p => ⟨[(2, .pb 1002 0), (3, .pb 1003 0), (5, .t (.v (.int .i64 p.1)))], [(1002, some (.box ((encIm x).map .t))), (1003, some (.box ((encAd a).map .t)))]⟩) (fun p => x.to.length - p.1) ⟨0, by simp, rfl⟩ rfl ?_ ?_
  · simp -implicitDefEqProofs only [go_sem]
    simp
  · rintro ⟨i, hi, hix⟩
    simp -implicitDefEqProofs only [go_sem]
    repeat' (first | with_reducible apply And.intro | with_reducible intro _ | ((first | apply brB_split | apply aPickB_split | apply gB_split | apply adB_split) <;> intro hb <;> simp -implicitDefEqProofs only [hb, go_sem] <;> try simp only [qz] at hb))
    all_goals (try simp only [maxLen, Int.toNat_natCast, List.length_map] at *)
    all_goals first | rfl | omega | skip
    · rw [hix, ixP_yes (p := fun r : Rc => r.addr = a) (by omega) (Ad_ext.2 (by simpa using hb))]
    · refine ⟨⟨i + 1, by omega, by rw [hix, ixP_no (p := fun r : Rc => r.addr = a) (by omega) (neqb hb)]⟩, by dsimp only; omega, ?_⟩
      simp -implicitDefEqProofs only [go_sem]
      simp
    · rw [hix, ixP_end (by omega)]
end
def c75 : Ct := ctR (lc EIm.ag l0) (fun p => OkIm p.1) (fun p => owIm p.1)
section
attribute [local go_sem] List.length_map List.map_nil List.length_nil List.nil_append Nat.zero_add
theorem good75 {G : Gt} (hG : OkG G) : Gd G 75 (roEnt 0 c75) := by
  refine gR (dp := fun _ => true) (fn := Tryz.f75) (n := 1) (fun _ => rfl) (by kernel_rfl) rfl (by kernel_rfl) hG (Nat.le_of_ble_eq_true rfl) (by kernel_rfl) (by decide) (fun _ p => owIm_solid _) ?_
  rintro ⟨x, ⟨⟩⟩ hpre
  simp -implicitDefEqProofs only [Tryz.f75, go_sem] at hpre ⊢
  obtain ⟨_, ⟨h1, _⟩, ⟨h2, _⟩⟩ := hpre
  repeat' (first | with_reducible apply And.intro | with_reducible intro _ | ((first | apply brB_split | apply aPickB_split | apply gB_split | apply adB_split) <;> intro hb <;> simp -implicitDefEqProofs only [hb, go_sem] <;> try simp only [qz] at hb))
  all_goals (try simp only [maxLen, List.length_map, List.length_nil] at *)
  all_goals first | rfl | omega | (simp_all; done) | trace_state
end
def c32 : Ct := ctR (lc ESp.ag l0) (fun p => OkSp p.1) (fun p => owSp p.1)
section
attribute [local go_sem] c75 List.length_map List.length_append List.length_cons List.length_nil List.map_append List.mem_singleton forall_eq AS.nilb AS.renb Bool.not_false Bool.not_true List.set_cons_zero List.set_cons_succ List.set_nil
set_option maxHeartbeats 1600000 in
theorem good32 {G : Gt} (hG : OkG G) (hh : G.e 75 = roEnt 0 c75) : Gd G 32 (roEnt 0 c32) := by
  refine gR (dp := fun n => !(Nat.beq n 100002 || Nat.beq n 100004)) (fn := Tryz.f32) (n := 1) (fun _ => rfl) (by kernel_rfl) rfl (by kernel_rfl) hG (Nat.le_of_ble_eq_true rfl) (by kernel_rfl) (by decide) (fun _ p => owSp_solid _) ?_
  rintro ⟨s, ⟨⟩⟩ hpre
  simp -implicitDefEqProofs only [Tryz.f32, go_sem, hh] at hpre ⊢
  have hpre' : OkL OkIm s.items := hpre
  repeat' (first | with_reducible apply And.intro | with_reducible intro _ | ((first | apply brB_split | apply aPickB_split | apply gB_split | apply adB_split) <;> intro hb <;> simp -implicitDefEqProofs only [hb, go_sem, hh] <;> try simp only [qz] at hb))
  all_goals first | rfl | skip
  refine run_le (Le.nilb 1003 1 1901 true 5 rfl rfl rfl) (run_go ?_)
  simp -implicitDefEqProofs only [go_sem, hh]
  refine run_loop [] (ι := {i : Nat // i ≤ s.items.length}) (fun p => ⟨[(1, .pb 1001 0), (2, .pb 1002 0), (3, .pb 1003 0), (4, .t (.v (.int .i64 p.1)))], [(1001, some (.box ((encSp s).map .t))), (1002, some (.box [.t (.v (.int .i64 0)), .nil])), (1003, some (.box [.t (.v (.int .i64 s.last)), .h 1901])), (1901, some (.arr true 5 ((s.items.take p.1).map encIm)))]⟩) (fun p => s.items.length - p.1) ⟨0, by simp⟩ rfl ?_ ?_
  · simp -implicitDefEqProofs only [go_sem, hh]
    simp
  · rintro ⟨i, hi⟩
    by_cases hlt : (i : Int) < s.items.length
    · have hok := hpre'.at (i := i) (by omega)
      have hlen : (s.items.take i).length = i := by simp; omega
      have hmax := hpre'.1
      simp -implicitDefEqProofs only [hlt, decide_true, Int.toNat_natCast, go_sem, hh]
      repeat' (first | with_reducible apply And.intro | with_reducible intro _ | ((first | apply brB_split | apply aPickB_split | apply gB_split | apply adB_split) <;> intro hb <;> simp -implicitDefEqProofs only [hb, go_sem, hh] <;> try simp only [qz] at hb))
      all_goals (try simp only [maxLen] at *)
      all_goals first | rfl | omega | assumption | decide | skip
      refine run_le (Le.renb 1003 1 1024 1901 rfl rfl rfl rfl) (run_go ?_)
      simp -implicitDefEqProofs only [go_sem, hh]
      repeat' (first | with_reducible apply And.intro | with_reducible intro _ | ((first | apply brB_split | apply aPickB_split | apply gB_split | apply adB_split) <;> intro hb <;> simp -implicitDefEqProofs only [hb, go_sem, hh] <;> try simp only [qz] at hb))
      all_goals first | rfl | omega | decide | skip
      refine ⟨⟨i + 1, by omega⟩, by dsimp only; omega, ?_⟩
      simp -implicitDefEqProofs only [go_sem, hh]
      simp only [take_snoc_map encIm (show i < s.items.length by omega)]
      repeat' (first | with_reducible apply And.intro | with_reducible intro _ | ((first | apply brB_split | apply aPickB_split | apply gB_split | apply adB_split) <;> intro hb <;> simp -implicitDefEqProofs only [hb, go_sem, hh] <;> try simp only [qz] at hb))
      all_goals first | rfl | (simp; done)
    · simp -implicitDefEqProofs only [hlt, decide_false, go_sem, hh]
      repeat' (first | with_reducible apply And.intro | with_reducible intro _ | ((first | apply brB_split | apply aPickB_split | apply gB_split | apply adB_split) <;> intro hb <;> simp -implicitDefEqProofs only [hb, go_sem, hh] <;> try simp only [qz] at hb))
      all_goals first | rfl | omega | skip
      rw [List.take_of_length_le (by omega)]
end
def dnIm (x : Im) (k : Nat) : Im := ⟨x.id, x.frm, x.to.take k ++ x.to.drop (k + 1), x.body⟩
def dnL (xs : List Im) (i k : Nat) : List Im := if (dnIm (xs.getD i default) k).to = [] then xs.take i ++ xs.drop (i + 1) else xs.take i ++ (dnIm (xs.getD i default) k :: xs.drop (i + 1))
def dnSp (s : Sp) (i k : Nat) : Sp := ⟨s.last, dnL s.items i k⟩
theorem dn_len {xs : List Rc} {k : Nat} (h : k < xs.length) : (xs.take k ++ xs.drop (k + 1)).length = xs.length - 1 := by simp; omega
def c113 : Ct := ctR (lc ESp.ag (lc AInt (lc AInt l0))) (fun p => OkSp p.1 ∧ 0 ≤ p.2.1 ∧ p.2.1 < p.1.items.length ∧ 0 ≤ p.2.2.1 ∧ p.2.2.1 < (p.1.items.getD p.2.1.toNat default).to.length) (fun p => .agg ((encSp (dnSp p.1 p.2.1.toNat p.2.2.1.toNat)).map .t))
section
attribute [local go_sem] c75 tmap dmap List.take_length List.drop_zero List.length_take List.length_drop List.length_map List.length_append List.length_cons List.length_nil List.map_append List.map_nil List.map_cons List.nil_append Nat.zero_add List.mem_singleton forall_eq Bool.not_true Bool.not_false
set_option maxHeartbeats 1600000 in
theorem good113 {G : Gt} (hG : OkG G) (hh : G.e 75 = roEnt 0 c75) : Gd G 113 (roEnt 1 c113) := by
  refine gR (dp := fun n => Nat.ble 100000 n && !(Nat.beq n 100002)) (fn := Tryz.f113) (n := 3) (fun _ => rfl) (by kernel_rfl) rfl (by kernel_rfl) hG (Nat.le_of_ble_eq_true rfl) (by kernel_rfl) (by decide) (fun h => by cases h) ?_
  rintro ⟨s, i, k, ⟨⟩⟩ hpre
  obtain ⟨hok, hi0, hi1, hk0, hk1⟩ := hpre
  dsimp only at hi0 hi1 hk0 hk1 ⊢
  obtain ⟨ni, rfl⟩ := Int.eq_ofNat_of_zero_le hi0
  obtain ⟨nk, rfl⟩ := Int.eq_ofNat_of_zero_le hk0
  have hok' : OkL OkIm s.items := hok
  simp only [Int.toNat_natCast] at hk1 ⊢
  have hx := hok'.at (i := ni) (by omega)
  have hmax := hok'.1
  have hmx : ((s.items.getD ni default).to.length : Int) ≤ 1048576 := hx.2.1.1
  have hi2 : ni < s.items.length := by omega
  have hk2 : nk < (s.items.getD ni default).to.length := by omega
  have e1 : ((ni : Int) + 1).toNat = ni + 1 := by omega
  have e2 : ((nk : Int) + 1).toNat = nk + 1 := by omega
  simp -implicitDefEqProofs only [Tryz.f113, Int.toNat_natCast, go_sem, hh]
  repeat' (first | with_reducible apply And.intro | with_reducible intro _ | ((first | apply brB_split | apply aPickB_split | apply gB_split | apply adB_split) <;> intro hb <;> simp -implicitDefEqProofs only [hb, go_sem, hh] <;> try simp only [qz] at hb))
  all_goals first | rfl | omega | assumption | decide | skip
  refine run_le (Le.frzL [1014]) (run_go ?_)
  simp -implicitDefEqProofs only [go_sem, hh]
  repeat' (first | with_reducible apply And.intro | with_reducible intro _ | ((first | apply brB_split | apply aPickB_split | apply gB_split | apply adB_split) <;> intro hb <;> simp -implicitDefEqProofs only [hb, go_sem, hh] <;> try simp only [qz] at hb))
  all_goals (try simp only [maxLen, e1, e2, Int.toNat_natCast, List.take_length, List.drop_zero] at *)
  all_goals first | rfl | omega | assumption | decide | skip
  all_goals
    refine congrArg (T.sl 5) ?_
    simp only [dnSp, dnL]
    first
      | (rw [if_neg (fun e => by have := congrArg List.length e; simp only [dnIm, List.length_append, List.length_take, List.length_drop, List.length_nil] at this; omega)]; simp [dnIm, encIm]; done)
      | (rw [if_pos (List.eq_nil_of_length_eq_zero (by simp only [dnIm, List.length_append, List.length_take, List.length_drop]; omega))]; simp; done)
      | trace_state
end
theorem ixP_range {α : Type} (p : α → Prop) : ∀ (xs : List α) (k : Nat), ixP p k xs = -1 ∨ ((k : Int) ≤ ixP p k xs ∧ ixP p k xs < k + xs.length)
  | [], _ => .inl rfl
  | x :: t, k => by
    rw [ixP]
    cases bOf (p x)
    · rcases ixP_range p t (k + 1) with h | h
      · exact .inl h
      · simp only [cond_false, List.length_cons]; right; omega
    · simp only [cond_true, List.length_cons]; right; omega
noncomputable def atIm (s : Sp) (n : Int) : Int := ixP (fun x : Im => x.id = n) 0 s.items
noncomputable def atRc (x : Im) (a : Ad) : Int := ixP (fun r : Rc => r.addr = a) 0 x.to
noncomputable def theIm (s : Sp) (n : Int) : Im := s.items.getD (atIm s n).toNat default
open Classical in
noncomputable def SDone (s : Sp) (n : Int) (a : Ad) : Sp × Bool :=
  if SpOk s then (if atIm s n < 0 then (s, false) else if atRc (theIm s n) a < 0 then (s, false) else (dnSp s (atIm s n).toNat (atRc (theIm s n) a).toNat, true)) else (⟨0, []⟩, false)
def roSB (p : Sp × Bool) : AV := .tup [.agg ((encSp p.1).map .t), .t (.v (.bool p.2))]
def owSB (p : Sp × Bool) : AV := .tup [owSp p.1, .t (.v (.bool p.2))]
theorem owSB_solid (p : Sp × Bool) : Solid (owSB p) := .tup _ fun c hc => by
  simp only [List.mem_cons, List.not_mem_nil, or_false] at hc
  rcases hc with rfl | rfl
  · exact owSp_solid _
  · exact .v _
theorem SDone_no {s : Sp} {n : Int} {a : Ad} (h : ¬ SpOk s) : SDone s n a = (⟨0, []⟩, false) := by unfold SDone; rw [if_neg h]
theorem SDone_i {s : Sp} {n : Int} {a : Ad} (h : SpOk s) (hi : atIm s n < 0) : SDone s n a = (s, false) := by unfold SDone; rw [if_pos h, if_pos hi]
theorem SDone_k {s : Sp} {n : Int} {a : Ad} (h : SpOk s) (hi : ¬ atIm s n < 0) (hk : atRc (theIm s n) a < 0) : SDone s n a = (s, false) := by unfold SDone; rw [if_pos h, if_neg hi, if_pos hk]
theorem SDone_y {s : Sp} {n : Int} {a : Ad} (h : SpOk s) (hi : ¬ atIm s n < 0) (hk : ¬ atRc (theIm s n) a < 0) : SDone s n a = (dnSp s (atIm s n).toNat (atRc (theIm s n) a).toNat, true) := by unfold SDone; rw [if_pos h, if_neg hi, if_neg hk]
theorem atIm_lt {s : Sp} {n : Int} (h : ¬ atIm s n < 0) : 0 ≤ atIm s n ∧ atIm s n < s.items.length := by
  rcases ixP_range (fun x : Im => x.id = n) s.items 0 with h1 | h1
  · have : atIm s n = -1 := h1
    omega
  · have : atIm s n < (0 : Nat) + s.items.length := h1.2
    omega
theorem atRc_lt {x : Im} {a : Ad} (h : ¬ atRc x a < 0) : 0 ≤ atRc x a ∧ atRc x a < x.to.length := by
  rcases ixP_range (fun r : Rc => r.addr = a) x.to 0 with h1 | h1
  · have : atRc x a = -1 := h1
    omega
  · have : atRc x a < (0 : Nat) + x.to.length := h1.2
    omega
def c77 : Ct := ctR (lc ESp.ag (lc AInt (lc EAd.ag l0))) (fun p => OkSp p.1) (fun p => roSB (SDone p.1 p.2.1 p.2.2.1))
section
attribute [local go_sem] c30 c32 c124 c125 c113 tmap dmap List.take_length List.drop_zero List.length_take List.length_drop List.length_map List.length_append List.length_cons List.length_nil List.map_append List.map_nil List.map_cons List.nil_append Nat.zero_add List.mem_singleton forall_eq Bool.not_true Bool.not_false roSB dnSp
set_option maxHeartbeats 1600000 in
theorem good77 {G : Gt} (hG : OkG G) (hh : G.e 30 = roEnt 0 c30 ∧ G.e 32 = roEnt 0 c32 ∧ G.e 124 = roEnt 0 c124 ∧ G.e 125 = roEnt 0 c125 ∧ G.e 113 = roEnt 1 c113) : Gd G 77 (roEnt 1 c77) := by
  refine gR (dp := fun n => Nat.ble 100000 n && !(Nat.beq n 100007)) (fn := Tryz.f77) (n := 3) (fun _ => rfl) (by kernel_rfl) rfl (by kernel_rfl) hG (Nat.le_of_ble_eq_true rfl) (by kernel_rfl) (by decide) (fun h => by cases h) ?_
  rintro ⟨s, n, a, ⟨⟩⟩ hpre
  have hok' : OkL OkIm s.items := hpre
  dsimp only at hpre ⊢
  by_cases h : SpOk s
  · have b1 := bOf_y h
    by_cases hi : atIm s n < 0
    · have hi' : ixP (fun x : Im => x.id = n) 0 s.items < 0 := hi
      rw [SDone_i h hi]
      simp -implicitDefEqProofs only [Tryz.f77, b1, hi', decide_true, decide_false, go_sem, hh]
      repeat' (first | with_reducible apply And.intro | with_reducible intro _ | ((first | apply brB_split | apply aPickB_split | apply gB_split | apply adB_split) <;> intro hb <;> simp -implicitDefEqProofs only [hb, go_sem, hh] <;> try simp only [qz] at hb))
      all_goals first | rfl | omega | assumption | decide | skip
    · have hi' : ¬ ixP (fun x : Im => x.id = n) 0 s.items < 0 := hi
      obtain ⟨hi0, hi1⟩ := atIm_lt hi
      have hi0' : 0 ≤ ixP (fun x : Im => x.id = n) 0 s.items := hi0
      have hi1' : ixP (fun x : Im => x.id = n) 0 s.items < s.items.length := hi1
      by_cases hk : atRc (theIm s n) a < 0
      · have hk' : ixP (fun r : Rc => r.addr = a) 0 (s.items.getD (ixP (fun x : Im => x.id = n) 0 s.items).toNat default).to < 0 := hk
        rw [SDone_k h hi hk]
        simp -implicitDefEqProofs only [Tryz.f77, b1, hi', hk', decide_true, decide_false, go_sem, hh]
        repeat' (first | with_reducible apply And.intro | with_reducible intro _ | ((first | apply brB_split | apply aPickB_split | apply gB_split | apply adB_split) <;> intro hb <;> simp -implicitDefEqProofs only [hb, go_sem, hh] <;> try simp only [qz] at hb))
        all_goals first | rfl | omega | assumption | decide | skip
      · have hk' : ¬ ixP (fun r : Rc => r.addr = a) 0 (s.items.getD (ixP (fun x : Im => x.id = n) 0 s.items).toNat default).to < 0 := hk
        obtain ⟨hk0, hk1⟩ := atRc_lt hk
        have hk0' : 0 ≤ ixP (fun r : Rc => r.addr = a) 0 (s.items.getD (ixP (fun x : Im => x.id = n) 0 s.items).toNat default).to := hk0
        have hk1' : ixP (fun r : Rc => r.addr = a) 0 (s.items.getD (ixP (fun x : Im => x.id = n) 0 s.items).toNat default).to < (s.items.getD (ixP (fun x : Im => x.id = n) 0 s.items).toNat default).to.length := hk1
        rw [SDone_y h hi hk]
        simp -implicitDefEqProofs only [Tryz.f77, b1, hi', hk', decide_true, decide_false, go_sem, hh]
        repeat' (first | with_reducible apply And.intro | with_reducible intro _ | ((first | apply brB_split | apply aPickB_split | apply gB_split | apply adB_split) <;> intro hb <;> simp -implicitDefEqProofs only [hb, go_sem, hh] <;> try simp only [qz] at hb))
        all_goals first | rfl | omega | assumption | decide | skip
        refine run_le (Le.frzL [1015]) (run_go ?_)
        simp -implicitDefEqProofs only [go_sem, hh]
        repeat' (first | with_reducible apply And.intro | with_reducible intro _ | ((first | apply brB_split | apply aPickB_split | apply gB_split | apply adB_split) <;> intro hb <;> simp -implicitDefEqProofs only [hb, go_sem, hh] <;> try simp only [qz] at hb))
        all_goals first | rfl | omega | assumption | decide | skip
        all_goals trace_state
  · have b1 := bOf_n h
    rw [SDone_no h]
    simp -implicitDefEqProofs only [Tryz.f77, b1, decide_true, decide_false, go_sem, hh]
    repeat' (first | with_reducible apply And.intro | with_reducible intro _ | ((first | apply brB_split | apply aPickB_split | apply gB_split | apply adB_split) <;> intro hb <;> simp -implicitDefEqProofs only [hb, go_sem, hh] <;> try simp only [qz] at hb))
    all_goals first | rfl | omega | assumption | decide | skip
end
def pau (t : Int) : Int := 2 * 2 ^ (t - 1).toNat
theorem pow2_le {a b : Nat} (h : a ≤ b) : (2 : Int) ^ a ≤ 2 ^ b := by
  have h1 := Nat.pow_le_pow_right (n := 2) (by omega) h
  have e : ∀ k : Nat, ((2 ^ k : Nat) : Int) = 2 ^ k := fun k => by simp
  rw [← e, ← e]
  omega
theorem pau_le {t : Int} {m : Nat} (h : t ≤ m + 1) : 2 ≤ pau t ∧ pau t ≤ 2 * 2 ^ m := by
  unfold pau
  have h1 : (2 : Int) ^ (t - 1).toNat ≤ 2 ^ m := pow2_le (by omega)
  have h2 : (2 : Int) ^ 0 ≤ 2 ^ (t - 1).toNat := pow2_le (by omega)
  simp only [Int.pow_zero] at h2
  omega
def ltRc (r : Rc) (w : Int) : Rc := ⟨r.addr, r.tries + 1, w + pau (r.tries + 1)⟩
def ltIm (x : Im) (k : Nat) (w : Int) : Im := ⟨x.id, x.frm, x.to.set k (ltRc (x.to.getD k default) w), x.body⟩
def ltSp (s : Sp) (i k : Nat) (w : Int) : Sp := ⟨s.last, s.items.set i (ltIm (s.items.getD i default) k w)⟩
def ltNo (r : Rc) (w : Int) : Prop := r.tries + 1 ≥ 4 ∨ w + pau (r.tries + 1) > 9999
instance (r : Rc) (w : Int) : Decidable (ltNo r w) := by unfold ltNo; infer_instance
def SLat (s : Sp) (i k : Nat) (w : Int) : Sp × Bool := if ltNo ((s.items.getD i default).to.getD k default) w then (s, false) else (ltSp s i k w, true)
def c152 : Ct := ctR (lc AInt l0) (fun p => p.1 ≤ 40) (fun p => .t (.v (.int .i64 (pau p.1))))
theorem good152 {G : Gt} (hG : OkG G) : Gd G 152 (roEnt 0 c152) := by
  refine gR (dp := fun _ => true) (fn := Tryz.f152) (n := 1) (fun _ => rfl) (by kernel_rfl) rfl (by kernel_rfl) hG (Nat.le_of_ble_eq_true rfl) (by kernel_rfl) (by decide) (fun _ _ => .v _) ?_
  rintro ⟨t, ⟨⟩⟩ hpre
  simp -implicitDefEqProofs only [Tryz.f152, go_sem] at hpre ⊢
  refine run_loop [] (ι := {j : Nat // j ≤ (t - 1).toNat}) (fun p => ⟨[(0, .t (.v (.int .i64 t))), (3, .t (.v (.int .i64 (2 * 2 ^ p.1)))), (4, .t (.v (.int .i64 (p.1 + 1))))], []⟩) (fun p => (t - 1).toNat - p.1) ⟨0, by simp⟩ rfl ?_ ?_
  · simp -implicitDefEqProofs only [go_sem]
    simp
  · rintro ⟨j, hj⟩
    have hb : (2 : Int) ^ j ≤ 2 ^ 40 := pow2_le (by omega)
    have hp : (0 : Int) ≤ 2 ^ j := Int.le_of_lt (Int.pow_pos (by omega))
    have h40 : (2 : Int) ^ 40 = 1099511627776 := by decide
    simp -implicitDefEqProofs only [go_sem]
    repeat' (first | with_reducible apply And.intro | with_reducible intro _ | ((first | apply brB_split | apply aPickB_split | apply gB_split | apply adB_split) <;> intro hb <;> simp -implicitDefEqProofs only [hb, go_sem] <;> try simp only [qz] at hb))
    all_goals first | rfl | omega | skip
    · refine ⟨⟨j + 1, by omega⟩, by dsimp only; omega, ?_⟩
      simp -implicitDefEqProofs only [go_sem]
      repeat' (first | with_reducible apply And.intro | with_reducible intro _ | ((first | apply brB_split | apply aPickB_split | apply gB_split | apply adB_split) <;> intro hb <;> simp -implicitDefEqProofs only [hb, go_sem] <;> try simp only [qz] at hb))
      all_goals first | rfl | (simp; omega) | (refine congrArg (fun z => AV.t (T.v (Value.int .i64 z))) ?_; rw [Int.pow_succ]; omega) | (refine congrArg (fun z => AV.t (T.v (Value.int .i64 z))) ?_; simp; done)
    · rw [show pau t = 2 * 2 ^ j from by unfold pau; rw [show (t - 1).toNat = j from by omega]]
def c114 : Ct := ctR (lc ESp.ag (lc AInt (lc AInt (lc AInt l0)))) (fun p => OkSp p.1 ∧ SpOk p.1 ∧ (0 ≤ p.2.1 ∧ p.2.1 < p.1.items.length) ∧ (0 ≤ p.2.2.1 ∧ p.2.2.1 < (p.1.items.getD p.2.1.toNat default).to.length) ∧ 0 ≤ p.2.2.2.1 ∧ p.2.2.2.1 ≤ 9999) (fun p => roSB (SLat p.1 p.2.1.toNat p.2.2.1.toNat p.2.2.2.1))
section
attribute [local go_sem] c75 c152 tmap dmap List.take_length List.drop_zero List.length_take List.length_drop List.length_map List.length_append List.length_cons List.length_nil List.map_append List.map_nil List.map_cons List.nil_append Nat.zero_add List.mem_singleton forall_eq Bool.not_true Bool.not_false roSB ltSp aCell_map aSet_map List.length_set
set_option maxHeartbeats 1600000 in
theorem good114 {G : Gt} (hG : OkG G) (hh : G.e 75 = roEnt 0 c75 ∧ G.e 152 = roEnt 0 c152) : Gd G 114 (roEnt 1 c114) := by
  refine gR (dp := fun n => Nat.ble 100000 n) (fn := Tryz.f114) (n := 4) (fun _ => rfl) (by kernel_rfl) rfl (by kernel_rfl) hG (Nat.le_of_ble_eq_true rfl) (by kernel_rfl) (by decide) (fun h => by cases h) ?_
  rintro ⟨s, i, k, w, ⟨⟩⟩ hpre
  dsimp only at hpre ⊢
  obtain ⟨hok, hsp, ⟨hi0, hi1⟩, ⟨hk0, hk1⟩, hw0, hw1⟩ := hpre
  obtain ⟨ni, rfl⟩ := Int.eq_ofNat_of_zero_le hi0
  obtain ⟨nk, rfl⟩ := Int.eq_ofNat_of_zero_le hk0
  have hok' : OkL OkIm s.items := hok
  simp only [Int.toNat_natCast] at hk1 ⊢
  have hx := hok'.at (i := ni) (by omega)
  have hmax := hok'.1
  have hmx : ((s.items.getD ni default).to.length : Int) ≤ 1048576 := hx.2.1.1
  have hi2 : ni < s.items.length := by omega
  have hk2 : nk < (s.items.getD ni default).to.length := by omega
  have hk3 : nk < ((s.items.getD ni default).to.map encRc).length := by rw [List.length_map]; exact hk2
  have hr := (hsp.1 _ (getD_mem hi2)).1.1 _ (getD_mem hk2)
  obtain ⟨_, ⟨ht0, ht1⟩, _⟩ := hr
  obtain ⟨hp0, hp1⟩ := pau_le (t := ((s.items.getD ni default).to.getD nk default).tries + 1) (m := 3) (by omega)
  have h8 : (2 : Int) * 2 ^ 3 = 16 := by decide
  by_cases hno : ltNo ((s.items.getD ni default).to.getD nk default) w
  · unfold SLat
    rw [if_pos hno]
    rcases hno with hno | hno
    · simp -implicitDefEqProofs only [Tryz.f114, Int.toNat_natCast, hno, decide_true, go_sem, hh]
      repeat' (first | with_reducible apply And.intro | with_reducible intro _ | ((first | apply brB_split | apply aPickB_split | apply gB_split | apply adB_split) <;> intro hb <;> simp -implicitDefEqProofs only [hb, go_sem, hh] <;> try simp only [qz] at hb))
      all_goals first | rfl | omega | assumption | decide | skip
      all_goals trace_state
    · simp -implicitDefEqProofs only [Tryz.f114, Int.toNat_natCast, hno, decide_true, go_sem, hh]
      repeat' (first | with_reducible apply And.intro | with_reducible intro _ | ((first | apply brB_split | apply aPickB_split | apply gB_split | apply adB_split) <;> intro hb <;> simp -implicitDefEqProofs only [hb, go_sem, hh] <;> try simp only [qz] at hb))
      all_goals first | rfl | omega | assumption | decide | skip
      all_goals trace_state
  · unfold SLat
    rw [if_neg hno]
    have hno1 : ¬ ((s.items.getD ni default).to.getD nk default).tries + 1 ≥ 4 := fun h => hno (.inl h)
    have hno2 : ¬ w + pau (((s.items.getD ni default).to.getD nk default).tries + 1) > 9999 := fun h => hno (.inr h)
    simp -implicitDefEqProofs only [Tryz.f114, Int.toNat_natCast, aSet_set hk3, hno1, hno2, decide_false, go_sem, hh]
    repeat' (first | with_reducible apply And.intro | with_reducible intro _ | ((first | apply brB_split | apply aPickB_split | apply gB_split | apply adB_split) <;> intro hb <;> simp -implicitDefEqProofs only [hb, go_sem, hh] <;> try simp only [qz] at hb))
    all_goals first | rfl | omega | assumption | decide | skip
    refine congrArg (T.sl 5) ?_
    rw [set_Rc, set_Im]
    rfl
end
open Classical in
noncomputable def SLater (s : Sp) (n : Int) (a : Ad) (w : Int) : Sp × Bool :=
  if SpOk s then (if atIm s n < 0 then (s, false) else if ¬ (0 ≤ w ∧ w ≤ 9999) then (s, false) else if atRc (theIm s n) a < 0 then (s, false) else SLat s (atIm s n).toNat (atRc (theIm s n) a).toNat w) else (⟨0, []⟩, false)
section
variable {s : Sp} {n : Int} {a : Ad} {w : Int}
theorem SLater_no (h : ¬ SpOk s) : SLater s n a w = (⟨0, []⟩, false) := by unfold SLater; rw [if_neg h]
theorem SLater_i (h : SpOk s) (hi : atIm s n < 0) : SLater s n a w = (s, false) := by unfold SLater; rw [if_pos h, if_pos hi]
theorem SLater_w (h : SpOk s) (hi : ¬ atIm s n < 0) (hw : ¬ (0 ≤ w ∧ w ≤ 9999)) : SLater s n a w = (s, false) := by unfold SLater; rw [if_pos h, if_neg hi, if_pos hw]
theorem SLater_k (h : SpOk s) (hi : ¬ atIm s n < 0) (hw : 0 ≤ w ∧ w ≤ 9999) (hk : atRc (theIm s n) a < 0) : SLater s n a w = (s, false) := by unfold SLater; rw [if_pos h, if_neg hi, if_neg (fun h => h hw), if_pos hk]
theorem SLater_y (h : SpOk s) (hi : ¬ atIm s n < 0) (hw : 0 ≤ w ∧ w ≤ 9999) (hk : ¬ atRc (theIm s n) a < 0) : SLater s n a w = SLat s (atIm s n).toNat (atRc (theIm s n) a).toNat w := by unfold SLater; rw [if_pos h, if_neg hi, if_neg (fun h => h hw), if_neg hk]
end
def c78 : Ct := ctR (lc ESp.ag (lc AInt (lc EAd.ag (lc AInt l0)))) (fun p => OkSp p.1) (fun p => roSB (SLater p.1 p.2.1 p.2.2.1 p.2.2.2.1))
section
attribute [local go_sem] c30 c32 c124 c125 c114 c71 tmap dmap List.take_length List.drop_zero List.length_take List.length_drop List.length_map List.length_append List.length_cons List.length_nil List.map_append List.map_nil List.map_cons List.nil_append Nat.zero_add List.mem_singleton forall_eq Bool.not_true Bool.not_false roSB
set_option maxHeartbeats 1600000 in
theorem good78 {G : Gt} (hG : OkG G) (hh : G.e 30 = roEnt 0 c30 ∧ G.e 32 = roEnt 0 c32 ∧ G.e 124 = roEnt 0 c124 ∧ G.e 125 = roEnt 0 c125 ∧ G.e 114 = roEnt 1 c114 ∧ G.e 71 = roEnt 0 c71) : Gd G 78 (roEnt 1 c78) := by
  refine gR (dp := fun n => Nat.ble 100000 n && !(Nat.beq n 100007)) (fn := Tryz.f78) (n := 4) (fun _ => rfl) (by kernel_rfl) rfl (by kernel_rfl) hG (Nat.le_of_ble_eq_true rfl) (by kernel_rfl) (by decide) (fun h => by cases h) ?_
  rintro ⟨s, n, a, w, ⟨⟩⟩ hpre
  have hok' : OkL OkIm s.items := hpre
  dsimp only at hpre ⊢
  by_cases h : SpOk s
  · have b1 := bOf_y h
    by_cases hi : atIm s n < 0
    · have hi' : ixP (fun x : Im => x.id = n) 0 s.items < 0 := hi
      rw [SLater_i h hi]
      simp -implicitDefEqProofs only [Tryz.f78, b1, hi', decide_true, decide_false, go_sem, hh]
      repeat' (first | with_reducible apply And.intro | with_reducible intro _ | ((first | apply brB_split | apply aPickB_split | apply gB_split | apply adB_split) <;> intro hb <;> simp -implicitDefEqProofs only [hb, go_sem, hh] <;> try simp only [qz] at hb))
      all_goals first | rfl | omega | assumption | decide | skip
    · have hi' : ¬ ixP (fun x : Im => x.id = n) 0 s.items < 0 := hi
      obtain ⟨hi0, hi1⟩ := atIm_lt hi
      have hi0' : 0 ≤ ixP (fun x : Im => x.id = n) 0 s.items := hi0
      have hi1' : ixP (fun x : Im => x.id = n) 0 s.items < s.items.length := hi1
      by_cases hw : 0 ≤ w ∧ w ≤ 9999
      · have bw := bOf_y hw
        by_cases hk : atRc (theIm s n) a < 0
        · have hk' : ixP (fun r : Rc => r.addr = a) 0 (s.items.getD (ixP (fun x : Im => x.id = n) 0 s.items).toNat default).to < 0 := hk
          rw [SLater_k h hi hw hk]
          simp -implicitDefEqProofs only [Tryz.f78, b1, bw, hi', hk', decide_true, decide_false, go_sem, hh]
          repeat' (first | with_reducible apply And.intro | with_reducible intro _ | ((first | apply brB_split | apply aPickB_split | apply gB_split | apply adB_split) <;> intro hb <;> simp -implicitDefEqProofs only [hb, go_sem, hh] <;> try simp only [qz] at hb))
          all_goals first | rfl | omega | assumption | decide | skip
        · have hk' : ¬ ixP (fun r : Rc => r.addr = a) 0 (s.items.getD (ixP (fun x : Im => x.id = n) 0 s.items).toNat default).to < 0 := hk
          obtain ⟨hk0, hk1⟩ := atRc_lt hk
          have hk0' : 0 ≤ ixP (fun r : Rc => r.addr = a) 0 (s.items.getD (ixP (fun x : Im => x.id = n) 0 s.items).toNat default).to := hk0
          have hk1' : ixP (fun r : Rc => r.addr = a) 0 (s.items.getD (ixP (fun x : Im => x.id = n) 0 s.items).toNat default).to < (s.items.getD (ixP (fun x : Im => x.id = n) 0 s.items).toNat default).to.length := hk1
          rw [SLater_y h hi hw hk]
          simp -implicitDefEqProofs only [Tryz.f78, b1, bw, hi', hk', decide_true, decide_false, go_sem, hh]
          repeat' (first | with_reducible apply And.intro | with_reducible intro _ | ((first | apply brB_split | apply aPickB_split | apply gB_split | apply adB_split) <;> intro hb <;> simp -implicitDefEqProofs only [hb, go_sem, hh] <;> try simp only [qz] at hb))
          all_goals first | rfl | omega | assumption | decide | skip
          refine run_le (Le.frzL [1019]) (run_go ?_)
          simp -implicitDefEqProofs only [go_sem, hh]
          repeat' (first | with_reducible apply And.intro | with_reducible intro _ | ((first | apply brB_split | apply aPickB_split | apply gB_split | apply adB_split) <;> intro hb <;> simp -implicitDefEqProofs only [hb, go_sem, hh] <;> try simp only [qz] at hb))
          all_goals first | rfl | omega | assumption | decide | exact hw.1 | exact hw.2 | exact h.1 | exact h.2.1 | exact h.2.2.1 | exact h.2.2.2 | skip
          all_goals trace_state
      · have bw := bOf_n hw
        rw [SLater_w h hi hw]
        simp -implicitDefEqProofs only [Tryz.f78, b1, bw, hi', decide_true, decide_false, go_sem, hh]
        repeat' (first | with_reducible apply And.intro | with_reducible intro _ | ((first | apply brB_split | apply aPickB_split | apply gB_split | apply adB_split) <;> intro hb <;> simp -implicitDefEqProofs only [hb, go_sem, hh] <;> try simp only [qz] at hb))
        all_goals first | rfl | omega | assumption | decide | skip
  · have b1 := bOf_n h
    rw [SLater_no h]
    simp -implicitDefEqProofs only [Tryz.f78, b1, decide_true, decide_false, go_sem, hh]
    repeat' (first | with_reducible apply And.intro | with_reducible intro _ | ((first | apply brB_split | apply aPickB_split | apply gB_split | apply adB_split) <;> intro hb <;> simp -implicitDefEqProofs only [hb, go_sem, hh] <;> try simp only [qz] at hb))
    all_goals first | rfl | omega | assumption | decide | skip
end
theorem aNil_n {s : AS} {K : Kt} : aNilE [] false s K = (K (.t (.v (.bool true))) s ∧ K (.t (.v (.bool false))) s) := propext ⟨fun h => ⟨h.1 rfl, h.2⟩, fun h => ⟨fun _ => h.1, h.2⟩⟩
theorem aNil_c {e : List T} {es : List (List T)} {s : AS} {K : Kt} : aNilE (e :: es) false s K = K (.t (.v (.bool false))) s := propext ⟨fun h => h.2, fun h => ⟨fun e => (by cases e), h⟩⟩
theorem take_addr {xs : List Rc} {i : Nat} (h : i < xs.length) : ((xs.map Rc.addr).take (i + 1)).map encAd = ((xs.map Rc.addr).take i).map encAd ++ [[.v (.string (xs.getD i default).addr.user), .v (.string (xs.getD i default).addr.domain)]] := by
  have e : (xs.map Rc.addr).getD i default = (xs.getD i default).addr := by
    simp only [List.getD_eq_getElem?_getD, List.getElem?_map, List.getElem?_eq_getElem h, Option.map_some, Option.getD_some]
  rw [take_snoc_map encAd (by rw [List.length_map]; exact h), e]
  rfl
noncomputable def findR (s : Sp) (n : Int) (a : Ad) : AV := if atIm s n < 0 then .tup [.t (.v (.int .i64 0)), .t (.v (.int .i64 0)), .t (.v (.bool false))] else .tup [.t (.v (.int .i64 (atIm s n))), .t (.v (.int .i64 (atRc (theIm s n) a))), .t (.v (.bool (decide (atRc (theIm s n) a ≥ 0))))]
theorem findR_solid (s : Sp) (n : Int) (a : Ad) : Solid (findR s n a) := by
  unfold findR
  split
  all_goals
    refine .tup _ fun c hc => ?_
    simp only [List.mem_cons, List.not_mem_nil, or_false] at hc
    rcases hc with rfl | rfl | rfl <;> exact .v _
theorem findR_n {s : Sp} {n : Int} {a : Ad} (h : atIm s n < 0) : findR s n a = .tup [.t (.v (.int .i64 0)), .t (.v (.int .i64 0)), .t (.v (.bool false))] := if_pos h
theorem findR_y {s : Sp} {n : Int} {a : Ad} (h : ¬ atIm s n < 0) : findR s n a = .tup [.t (.v (.int .i64 (atIm s n))), .t (.v (.int .i64 (atRc (theIm s n) a))), .t (.v (.bool (decide (atRc (theIm s n) a ≥ 0))))] := if_neg h
theorem pau_shl {t : Int} (h : 1 ≤ t) : (2 : Int) * 2 ^ (t - 1).toNat = pau t := rfl
def c40 : Ct := ctR (lc AInt l0) (fun p => True) (fun p => .t (.v (.bool (bOf (0 ≤ p.1 ∧ p.1 ≤ 9999)))))
section
attribute [local go_sem] c36
theorem good40 {G : Gt} (hG : OkG G) (hh : G.e 36 = roEnt 0 c36) : Gd G 40 (roEnt 0 c40) := by
  refine gR (dp := fun _ => true) (fn := Tryz.f40) (n := 1) (fun _ => rfl) (by kernel_rfl) rfl (by kernel_rfl) hG (Nat.le_of_ble_eq_true rfl) (by kernel_rfl) (by decide) (fun _ _ => .v _) ?_
  rintro ⟨n, ⟨⟩⟩ hpre
  simp -implicitDefEqProofs only [Tryz.f40, go_sem, hh] at hpre ⊢
  repeat' (first | with_reducible apply And.intro | with_reducible intro _ | ((first | apply brB_split | apply aPickB_split | apply gB_split | apply adB_split) <;> intro hb <;> simp -implicitDefEqProofs only [hb, go_sem, hh] <;> try simp only [qz] at hb))
  all_goals first | rfl | skip
end
def c35 : Ct := ctR (lc EIm.ag l0) (fun p => OkIm p.1) (fun p => .t (.v (.bool (bOf (ImOk p.1)))))
section
attribute [local go_sem] c37 c36 c40 c80 c81 c82 tmap dmap List.take_length List.drop_zero List.length_take List.length_drop List.length_map List.length_append List.length_cons List.length_nil List.map_append List.map_nil List.map_cons List.nil_append Nat.zero_add List.mem_singleton forall_eq Bool.not_true Bool.not_false bOf_t bOf_f
set_option maxHeartbeats 1600000 in
theorem good35 {G : Gt} (hG : OkG G) (hh : G.e 37 = roEnt 0 c37 ∧ G.e 36 = roEnt 0 c36 ∧ G.e 40 = roEnt 0 c40 ∧ G.e 80 = roEnt 0 c80 ∧ G.e 81 = roEnt 0 c81 ∧ G.e 82 = roEnt 0 c82) : Gd G 35 (roEnt 0 c35) := by
  refine gR (dp := fun _ => true) (fn := Tryz.f35) (n := 1) (fun _ => rfl) (by kernel_rfl) rfl (by kernel_rfl) hG (Nat.le_of_ble_eq_true rfl) (by kernel_rfl) (by decide) (fun _ _ => .v _) ?_
  rintro ⟨x, ⟨⟩⟩ hpre
  simp -implicitDefEqProofs only [Tryz.f35, go_sem, hh] at hpre ⊢
  obtain ⟨⟨_, hfd⟩, ⟨hl1, hto⟩, ⟨hl2, hbd⟩⟩ := hpre
  have hfd' : x.frm.domain.size ≤ 2000000 := by have : x.frm.domain.size ≤ 1048576 := hfd; omega
  have hbd' : ∀ s ∈ x.body, s.size ≤ 2000000 := fun s hs => by have : s.size ≤ 1048576 := hbd s hs; omega
  have hto' : ∀ j, j < x.to.length → (x.to.getD j default).addr.domain.size ≤ 2000000 := fun j hj => by have : (x.to.getD j default).addr.domain.size ≤ 1048576 := (hto _ (getD_mem hj)).2; omega
  repeat' (first | with_reducible apply And.intro | with_reducible intro _ | ((first | apply brB_split | apply aPickB_split | apply gB_split | apply adB_split) <;> intro hb <;> simp -implicitDefEqProofs only [hb, go_sem, hh] <;> try simp only [qz] at hb))
  all_goals first | rfl | skip
  refine run_loop [(3, 1903, true, 2)] (ι := {i : Nat // i ≤ x.to.length ∧ ∀ j, j < i → RcOk (x.to.getD j default)}) (fun p => ⟨[(1, .pb 1001 0), (3, .h 1903), (7, .t (.sl 4 (x.to.map encRc))), (8, .t (.v (.int .i64 x.to.length))), (9, .t (.v (.int .i64 p.1)))], [(1001, some (.box ((encIm x).map .t))), (1903, some (.arr true 2 (((x.to.map Rc.addr).take p.1).map encAd)))]⟩) (fun p => x.to.length - p.1) ⟨0, by simp, by simp⟩ rfl ?_ ?_
  · simp -implicitDefEqProofs only [go_sem, hh]
    simp
  · rintro ⟨i, hi, hall⟩
    by_cases hlt : (i : Int) < x.to.length
    · have hd := hto' i (by omega)
      have hlen : ((x.to.map Rc.addr).take i).length = i := by simp; omega
      simp -implicitDefEqProofs only [hlt, decide_true, Int.toNat_natCast, go_sem, hh]
      repeat' (first | with_reducible apply And.intro | with_reducible intro _ | ((first | apply brB_split | apply aPickB_split | apply gB_split | apply adB_split) <;> intro hb <;> simp -implicitDefEqProofs only [hb, go_sem, hh] <;> try simp only [qz] at hb))
      all_goals (try simp only [maxLen] at *)
      all_goals first | rfl | omega | assumption | decide | skip
      all_goals first
        | (rw [bOf_n (fun h => by have h1 := h.1 _ (getD_mem (xs := x.to) (j := i) (by omega)); first | exact hb h1.1 | exact hb h1.2.1 | exact hb h1.2.2)]; done)
        | skip
      refine ⟨⟨i + 1, by omega, all_step (P := RcOk) hall ⟨by assumption, by assumption, by assumption⟩⟩, by dsimp only; omega, ?_⟩
      simp -implicitDefEqProofs only [go_sem, hh]
      simp only [take_addr (show i < x.to.length by omega)]
      repeat' (first | with_reducible apply And.intro | with_reducible intro _ | ((first | apply brB_split | apply aPickB_split | apply gB_split | apply adB_split) <;> intro hb <;> simp -implicitDefEqProofs only [hb, go_sem, hh] <;> try simp only [qz] at hb))
      all_goals first | rfl | (simp; done) | (simp; omega)
    · have hA : ∀ r ∈ x.to, RcOk r := mem_getD fun j hj => hall j (by omega)
      simp -implicitDefEqProofs only [hlt, decide_false, go_sem, hh]
      repeat' (first | with_reducible apply And.intro | with_reducible intro _ | ((first | apply brB_split | apply aPickB_split | apply gB_split | apply adB_split) <;> intro hb <;> simp -implicitDefEqProofs only [hb, go_sem, hh] <;> try simp only [qz] at hb))
      all_goals (try simp only [maxLen] at *)
      all_goals first | rfl | omega | assumption | decide | exact hbd' _ (by assumption) | skip
      all_goals (try rw [List.take_of_length_le (by rw [List.length_map]; omega)] at hb)
      all_goals first
        | (rw [bOf_congr]
           exact ⟨fun h => ⟨hA, hb, by assumption, by assumption, by omega, h⟩, fun h => h.2.2.2.2.2⟩)
        | (rw [bOf_n]
           intro h
           first
             | exact hb h.2.1
             | exact hb h.2.2.1
             | exact hb h.2.2.2.1
             | exact hb (by have := h.2.2.2.2.1; omega))
        | trace_state
end
def c10 : Ct := ctR (lc ESp.ag l0) (fun p => OkSp p.1) (fun p => .t (.v (.bool (bOf (SpOk p.1)))))
section
attribute [local go_sem] c35 c36 tmap dmap List.take_length List.drop_zero List.length_take List.length_drop List.length_map List.length_append List.length_cons List.length_nil List.map_append List.map_nil List.map_cons List.nil_append Nat.zero_add List.mem_singleton forall_eq Bool.not_true Bool.not_false bOf_t bOf_f
set_option maxHeartbeats 1600000 in
theorem good10 {G : Gt} (hG : OkG G) (hh : G.e 35 = roEnt 0 c35 ∧ G.e 36 = roEnt 0 c36) : Gd G 10 (roEnt 0 c10) := by
  refine gR (dp := fun _ => true) (fn := Tryz.f10) (n := 1) (fun _ => rfl) (by kernel_rfl) rfl (by kernel_rfl) hG (Nat.le_of_ble_eq_true rfl) (by kernel_rfl) (by decide) (fun _ _ => .v _) ?_
  rintro ⟨s, ⟨⟩⟩ hpre
  simp -implicitDefEqProofs only [Tryz.f10, go_sem, hh] at hpre ⊢
  have hok' : OkL OkIm s.items := hpre
  have hmx := hok'.1
  repeat' (first | with_reducible apply And.intro | with_reducible intro _ | ((first | apply brB_split | apply aPickB_split | apply gB_split | apply adB_split) <;> intro hb <;> simp -implicitDefEqProofs only [hb, go_sem, hh] <;> try simp only [qz] at hb))
  all_goals first | rfl | skip
  refine run_loop [] (ι := {i : Nat // i ≤ s.items.length ∧ (∀ j, j < i → ImOk (s.items.getD j default) ∧ (s.items.getD j default).id ≤ s.last) ∧ ∀ j, 0 < j → j < i → (s.items.getD (j - 1) default).id < (s.items.getD j default).id}) (fun p => ⟨[(1, .pb 1001 0), (3, .t (.v (.int .i64 (if p.1 = 0 then 0 else (s.items.getD (p.1 - 1) default).id)))), (7, .t (.sl 5 (s.items.map encIm))), (8, .t (.v (.int .i64 s.items.length))), (9, .t (.v (.int .i64 p.1)))], [(1001, some (.box ((encSp s).map .t)))]⟩) (fun p => s.items.length - p.1) ⟨0, by simp, by simp, by simp⟩ rfl ?_ ?_
  · simp -implicitDefEqProofs only [go_sem, hh]
    simp
  · rintro ⟨i, hi, hall, hasc⟩
    have hgen : ∀ L : Int, L = (if i = 0 then 0 else (s.items.getD (i - 1) default).id) → True := fun _ _ => trivial
    obtain ⟨L, hL⟩ : ∃ L : Int, L = (if i = 0 then 0 else (s.items.getD (i - 1) default).id) := ⟨_, rfl⟩
    by_cases hlt : (i : Int) < s.items.length
    · have hok := hok'.at (i := i) (by omega)
      dsimp only
      rw [← hL]
      simp -implicitDefEqProofs only [hlt, decide_true, Int.toNat_natCast, go_sem, hh]
      repeat' (first | with_reducible apply And.intro | with_reducible intro _ | ((first | apply brB_split | apply aPickB_split | apply gB_split | apply adB_split) <;> intro hb <;> simp -implicitDefEqProofs only [hb, go_sem, hh] <;> try simp only [qz] at hb))
      all_goals (try simp only [maxLen] at *)
      all_goals first | rfl | omega | assumption | decide | skip
      all_goals (try have h0 := (show ImOk (s.items.getD i default) from by assumption).2.2.1)
      all_goals first
        | (rw [bOf_n]
           intro h
           have h1 := h.1 _ (getD_mem (xs := s.items) (j := i) (by omega))
           first
             | exact hb h1.1
             | omega
             | (by_cases e : i = 0
                · rw [if_pos e] at hL; omega
                · rw [if_neg e] at hL
                  have h2 := h.2.1 i (by omega) (by omega)
                  omega))
        | skip
      refine ⟨⟨i + 1, by omega, all_step (P := fun x : Im => ImOk x ∧ x.id ≤ s.last) hall ⟨by assumption, by omega⟩, fun j h0 hj => ?_⟩, by dsimp only; omega, ?_⟩
      · by_cases e : j = i
        · subst e
          rw [if_neg (by omega)] at hL
          omega
        · exact hasc j h0 (by omega)
      · simp -implicitDefEqProofs only [go_sem, hh]
        simp
    · dsimp only
      rw [← hL]
      simp -implicitDefEqProofs only [hlt, decide_false, go_sem, hh]
      repeat' (first | with_reducible apply And.intro | with_reducible intro _ | ((first | apply brB_split | apply aPickB_split | apply gB_split | apply adB_split) <;> intro hb <;> simp -implicitDefEqProofs only [hb, go_sem, hh] <;> try simp only [qz] at hb))
      all_goals (try simp only [maxLen] at *)
      all_goals first | rfl | omega | assumption | decide | skip
      · refine congrArg (fun b => T.v (Value.bool b)) ?_
        rw [← bOf_d, bOf_congr]
        exact ⟨fun h => ⟨mem_getD fun j hj => hall j (by omega), fun j h0 hj => hasc j h0 (by omega), hb, by omega⟩, fun h => by have := h.2.2.2; omega⟩
      · rw [bOf_n (fun h => hb h.2.2.1)]
end
def c63 : Ct := ctR (lc ERc.asl l0) (fun p => (p.1.length : Int) ≤ 1048576) (fun p => .o true 4 (p.1.map encRc))
section
attribute [local go_sem] aNil_n aNil_c List.length_map List.nil_append List.map_nil List.map_cons List.length_cons List.length_nil
theorem good63 {G : Gt} (hG : OkG G) : Gd G 63 (roEnt 0 c63) := by
  refine gR (dp := fun _ => true) (fn := Tryz.f63) (n := 1) (fun _ => rfl) (by kernel_rfl) rfl (by kernel_rfl) hG (Nat.le_of_ble_eq_true rfl) (by kernel_rfl) (by decide) (fun _ _ => .deep _ _) ?_
  rintro ⟨xs, ⟨⟩⟩ hpre
  dsimp only at hpre ⊢
  cases xs with
  | nil =>
    simp -implicitDefEqProofs only [Tryz.f63, go_sem]
    repeat' (first | with_reducible apply And.intro | with_reducible intro _ | ((first | apply brB_split | apply aPickB_split | apply gB_split | apply adB_split) <;> intro hb <;> simp -implicitDefEqProofs only [hb, go_sem] <;> try simp only [qz] at hb))
    all_goals (try simp only [maxLen, List.length_map] at *)
    all_goals first | rfl | omega | exact of_eq_true (AllV_Rc []) | (simp; done) | skip
  | cons x xs =>
    simp only [List.length_cons] at hpre
    simp -implicitDefEqProofs only [Tryz.f63, go_sem]
    repeat' (first | with_reducible apply And.intro | with_reducible intro _ | ((first | apply brB_split | apply aPickB_split | apply gB_split | apply adB_split) <;> intro hb <;> simp -implicitDefEqProofs only [hb, go_sem] <;> try simp only [qz] at hb))
    all_goals (try simp only [maxLen, List.length_map] at *)
    all_goals first | rfl | omega | exact of_eq_true (AllV_Rc (x :: xs)) | exact of_eq_true (len_Rc (x :: xs)) _ (by assumption) | (simp; done) | skip
end
def c64 : Ct := ctR (lc EStr.asl l0) (fun p => (p.1.length : Int) ≤ 1048576) (fun p => .o true 1 (p.1.map encStr))
section
attribute [local go_sem] aNil_n aNil_c List.length_map List.nil_append List.map_nil List.map_cons List.length_cons List.length_nil
theorem good64 {G : Gt} (hG : OkG G) : Gd G 64 (roEnt 0 c64) := by
  refine gR (dp := fun _ => true) (fn := Tryz.f64) (n := 1) (fun _ => rfl) (by kernel_rfl) rfl (by kernel_rfl) hG (Nat.le_of_ble_eq_true rfl) (by kernel_rfl) (by decide) (fun _ _ => .deep _ _) ?_
  rintro ⟨xs, ⟨⟩⟩ hpre
  dsimp only at hpre ⊢
  cases xs with
  | nil =>
    simp -implicitDefEqProofs only [Tryz.f64, go_sem]
    repeat' (first | with_reducible apply And.intro | with_reducible intro _ | ((first | apply brB_split | apply aPickB_split | apply gB_split | apply adB_split) <;> intro hb <;> simp -implicitDefEqProofs only [hb, go_sem] <;> try simp only [qz] at hb))
    all_goals (try simp only [maxLen, List.length_map] at *)
    all_goals first | rfl | omega | exact of_eq_true (AllV_Str []) | (simp; done) | skip
  | cons x xs =>
    simp only [List.length_cons] at hpre
    simp -implicitDefEqProofs only [Tryz.f64, go_sem]
    repeat' (first | with_reducible apply And.intro | with_reducible intro _ | ((first | apply brB_split | apply aPickB_split | apply gB_split | apply adB_split) <;> intro hb <;> simp -implicitDefEqProofs only [hb, go_sem] <;> try simp only [qz] at hb))
    all_goals (try simp only [maxLen, List.length_map] at *)
    all_goals first | rfl | omega | exact of_eq_true (AllV_Str (x :: xs)) | exact of_eq_true (len_Str (x :: xs)) _ (by assumption) | (simp; done) | skip
end
theorem FIm_num {n : Int} : FIm.sem (.num n) = fun x : Im => x.id = n := rfl
theorem FRc_who {b : Ad} : FRc.sem (.who b) = fun r : Rc => r.addr = b := rfl
def c66 : Ct := ctR (lc ESp.ag (lc AInt (lc EAd.ag l0))) (fun p => True) (fun p => findR p.1 p.2.1 p.2.2.1)
section
attribute [local go_sem] c117 c119 ap_enc ap_dec AFn0_dec AFn0_enc Bool.not_true Bool.not_false ty146 lv27 AFStr_d0 AFStr_e0 AFAd_d0 AFAd_e0 AFIm_d0 AFIm_e0 AFRc_d0 AFRc_e0 FIm_num FRc_who
set_option maxHeartbeats 800000 in
theorem good66 {G : Gt} (hG : OkG G) (hh : G.e 117 = roEnt 0 c117 ∧ G.e 119 = roEnt 0 c119) : Gd G 66 (roEnt 0 c66) := by
  refine gR (dp := fun _ => true) (fn := Tryz.f66) (n := 3) (fun _ => rfl) (by kernel_rfl) rfl (by kernel_rfl) hG (Nat.le_of_ble_eq_true rfl) (by kernel_rfl) (by decide) (fun _ p => findR_solid _ _ _) ?_
  rintro ⟨s, n, a, ⟨⟩⟩ hpre
  dsimp only
  by_cases hi : atIm s n < 0
  · have hi' : ixP (fun x : Im => x.id = n) 0 s.items < 0 := hi
    rw [findR_n hi]
    simp -implicitDefEqProofs only [Tryz.f66, hi', decide_true, go_sem, hh]
    repeat' (first | with_reducible apply And.intro | with_reducible intro _ | ((first | apply brB_split | apply aPickB_split | apply gB_split | apply adB_split) <;> intro hb <;> simp -implicitDefEqProofs only [hb, go_sem, hh] <;> try simp only [qz] at hb))
    all_goals first | rfl | omega | exact trivial | (simp; done) | skip
  · have hi' : ¬ ixP (fun x : Im => x.id = n) 0 s.items < 0 := hi
    obtain ⟨hi0, hi1⟩ := atIm_lt hi
    have hi0' : 0 ≤ ixP (fun x : Im => x.id = n) 0 s.items := hi0
    have hi1' : ixP (fun x : Im => x.id = n) 0 s.items < s.items.length := hi1
    rw [findR_y hi]
    simp -implicitDefEqProofs only [Tryz.f66, hi', decide_false, go_sem, hh]
    repeat' (first | with_reducible apply And.intro | with_reducible intro _ | ((first | apply brB_split | apply aPickB_split | apply gB_split | apply adB_split) <;> intro hb <;> simp -implicitDefEqProofs only [hb, go_sem, hh] <;> try simp only [qz] at hb))
    all_goals first | rfl | omega | exact trivial | (simp; done) | skip
    all_goals trace_state
end
def c69 : Ct := ctR (lc AInt l0) (fun p => True) (fun p => .t (.v (.int .i64 (if 1 ≤ p.1 ∧ p.1 ≤ 4 then pau p.1 else -1))))
section
attribute [local go_sem] c36 bOf_t bOf_f
theorem good69 {G : Gt} (hG : OkG G) (hh : G.e 36 = roEnt 0 c36) : Gd G 69 (roEnt 0 c69) := by
  refine gR (dp := fun _ => true) (fn := Tryz.f69) (n := 1) (fun _ => rfl) (by kernel_rfl) rfl (by kernel_rfl) hG (Nat.le_of_ble_eq_true rfl) (by kernel_rfl) (by decide) (fun _ _ => .v _) ?_
  rintro ⟨t, ⟨⟩⟩ hpre
  dsimp only
  have bt0 : True := trivial
  simp -implicitDefEqProofs only [Tryz.f69, go_sem, hh]
  repeat' (first | with_reducible apply And.intro | with_reducible intro _ | ((first | apply brB_split | apply aPickB_split | apply gB_split | apply adB_split) <;> intro hb <;> simp -implicitDefEqProofs only [hb, go_sem, hh] <;> try simp only [qz] at hb))
  all_goals first
    | rfl
    | omega
    | (rw [if_neg (by assumption)]; done)
    | (rw [if_pos (by assumption)]; rfl)
    | (obtain ⟨hp0, hp1⟩ := pau_le (t := t) (m := 3) (by omega)
       have h8 : (2 : Int) * 2 ^ 3 = 16 := by decide
       have e : (2 : Int) * 2 ^ (t - 1).toNat = pau t := rfl
       omega)
    | trace_state
end
def c26 : Ct := ctR (lc ESp.ag l0) (fun p => OkSp p.1) (fun p => owSp p.1)
section
attribute [local go_sem] c63 c64 List.length_map List.length_append List.length_cons List.length_nil List.map_append List.mem_singleton forall_eq AS.nilb AS.renb Bool.not_false Bool.not_true List.set_cons_zero List.set_cons_succ List.set_nil
set_option maxHeartbeats 1600000 in
theorem good26 {G : Gt} (hG : OkG G) (hh : G.e 63 = roEnt 0 c63 ∧ G.e 64 = roEnt 0 c64) : Gd G 26 (roEnt 0 c26) := by
  refine gR (dp := fun _ => true) (fn := Tryz.f26) (n := 1) (fun _ => rfl) (by kernel_rfl) rfl (by kernel_rfl) hG (Nat.le_of_ble_eq_true rfl) (by kernel_rfl) (by decide) (fun _ p => owSp_solid _) ?_
  rintro ⟨s, ⟨⟩⟩ hpre
  simp -implicitDefEqProofs only [Tryz.f26, go_sem, hh] at hpre ⊢
  have hok' : OkL OkIm s.items := hpre
  have hmx := hok'.1
  repeat' (first | with_reducible apply And.intro | with_reducible intro _ | ((first | apply brB_split | apply aPickB_split | apply gB_split | apply adB_split) <;> intro hb <;> simp -implicitDefEqProofs only [hb, go_sem, hh] <;> try simp only [qz] at hb))
  all_goals first | rfl | skip
  refine run_loop [(3, 1903, true, 5)] (ι := {i : Nat // i ≤ s.items.length}) (fun p => ⟨[(1, .pb 1001 0), (2, .pb 1002 0), (3, .h 1903), (7, .t (.sl 5 (s.items.map encIm))), (8, .t (.v (.int .i64 s.items.length))), (9, .t (.v (.int .i64 p.1)))], [(1001, some (.box ((encSp s).map .t))), (1002, some (.box [.t (.v (.int .i64 0)), .nil])), (1903, some (.arr true 5 ((s.items.take p.1).map encIm)))]⟩) (fun p => s.items.length - p.1) ⟨0, by simp⟩ rfl ?_ ?_
  · simp -implicitDefEqProofs only [go_sem, hh]
    simp
  · rintro ⟨i, hi⟩
    by_cases hlt : (i : Int) < s.items.length
    · have hok := hok'.at (i := i) (by omega)
      obtain ⟨_, ⟨hl1, _⟩, ⟨hl2, _⟩⟩ := hok
      have hlen : (s.items.take i).length = i := by simp; omega
      simp -implicitDefEqProofs only [hlt, decide_true, Int.toNat_natCast, go_sem, hh]
      repeat' (first | with_reducible apply And.intro | with_reducible intro _ | ((first | apply brB_split | apply aPickB_split | apply gB_split | apply adB_split) <;> intro hb <;> simp -implicitDefEqProofs only [hb, go_sem, hh] <;> try simp only [qz] at hb))
      all_goals (try simp only [maxLen] at *)
      all_goals first | rfl | omega | assumption | decide | skip
      refine ⟨⟨i + 1, by omega⟩, by dsimp only; omega, ?_⟩
      simp -implicitDefEqProofs only [go_sem, hh]
      simp only [take_snoc_map encIm (show i < s.items.length by omega)]
      repeat' (first | with_reducible apply And.intro | with_reducible intro _ | ((first | apply brB_split | apply aPickB_split | apply gB_split | apply adB_split) <;> intro hb <;> simp -implicitDefEqProofs only [hb, go_sem, hh] <;> try simp only [qz] at hb))
      all_goals first | rfl | (simp; done) | trace_state
    · simp -implicitDefEqProofs only [hlt, decide_false, go_sem, hh]
      repeat' (first | with_reducible apply And.intro | with_reducible intro _ | ((first | apply brB_split | apply aPickB_split | apply gB_split | apply adB_split) <;> intro hb <;> simp -implicitDefEqProofs only [hb, go_sem, hh] <;> try simp only [qz] at hb))
      all_goals (try simp only [maxLen] at *)
      all_goals first | rfl | omega | assumption | decide | skip
      rw [List.take_of_length_le (by omega)]
end
end Go.V
