/- The row. No condition. -/
import Derived.Test.YtahogphlohnpmaaGreatDoorXB
import Derived.Test.YtahogphlohnpmaaGreatDoorProg
import Derived.KernelRfl
import Derived.Lib.IndexMore
import Derived.Lib.IndexEntry
import Derived.Lib.RabinKarpLaws
import Derived.Lib.Split
import Derived.DeepKeys4
namespace Go.V
open Go Go.Proofs
theorem ty3 : tyOf Tryz.prog 3 = some ⟨.int .i64, 1, 8, [.int .i64 0]⟩ := by kernel_rfl
theorem ty4 : tyOf Tryz.prog 4 = some ⟨.bool, 1, 1, [.bool false]⟩ := by kernel_rfl
theorem ty5 : tyOf Tryz.prog 5 = some ⟨.int .u8, 1, 1, [.int .u8 0]⟩ := by kernel_rfl
theorem ty9 : tyOf Tryz.prog 9 = some ⟨.str, 1, 16, [.string ⟨#[]⟩]⟩ := by kernel_rfl
theorem ty21 : tyOf Tryz.prog 21 = some ⟨.int .i32, 1, 4, [.int .i32 0]⟩ := by kernel_rfl
theorem ty22 : tyOf Tryz.prog 22 = some ⟨.slice 5, 1, 24, [.slice none 0 0]⟩ := by kernel_rfl
theorem ty23 : tyOf Tryz.prog 23 = some ⟨.slice 75, 1, 24, [.slice none 0 0]⟩ := by kernel_rfl
theorem ty25 : tyOf Tryz.prog 25 = some ⟨.struct [(0, 1, false), (1, 1, false)], 2, 32, [.int .i64 0, .slice none 0 0]⟩ := by kernel_rfl
theorem ty27 : tyOf Tryz.prog 27 = some ⟨.struct [(0, 1, false), (1, 1, false)], 2, 32, [.string ⟨#[]⟩, .string ⟨#[]⟩]⟩ := by kernel_rfl
theorem ty28 : tyOf Tryz.prog 28 = some ⟨.slice 27, 1, 24, [.slice none 0 0]⟩ := by kernel_rfl
theorem ty29 : tyOf Tryz.prog 29 = some ⟨.slice 9, 1, 24, [.slice none 0 0]⟩ := by kernel_rfl
theorem ty31 : tyOf Tryz.prog 31 = some ⟨.struct [(0, 2, true), (2, 1, false), (3, 1, false)], 4, 80, [.string ⟨#[]⟩, .string ⟨#[]⟩, .slice none 0 0, .slice none 0 0]⟩ := by kernel_rfl
theorem ty33 : tyOf Tryz.prog 33 = some ⟨.struct [(0, 1, false), (1, 1, false), (2, 2, true), (4, 1, false), (5, 4, true)], 9, 136, [.int .i64 0, .int .i64 0, .string ⟨#[]⟩, .string ⟨#[]⟩, .int .i64 0, .string ⟨#[]⟩, .string ⟨#[]⟩, .slice none 0 0, .slice none 0 0]⟩ := by kernel_rfl
theorem ty43 : tyOf Tryz.prog 43 = some ⟨.slice 59, 1, 24, [.slice none 0 0]⟩ := by kernel_rfl
theorem ty45 : tyOf Tryz.prog 45 = some ⟨.slice 62, 1, 24, [.slice none 0 0]⟩ := by kernel_rfl
theorem ty46 : tyOf Tryz.prog 46 = some ⟨.slice 91, 1, 24, [.slice none 0 0]⟩ := by kernel_rfl
theorem ty48 : tyOf Tryz.prog 48 = some ⟨.struct [(0, 1, false), (1, 1, false), (2, 1, false), (3, 1, false)], 4, 64, [.slice none 0 0, .int .i64 0, .int .i64 0, .slice none 0 0]⟩ := by kernel_rfl
theorem ty54 : tyOf Tryz.prog 54 = some ⟨.slice 3, 1, 24, [.slice none 0 0]⟩ := by kernel_rfl
theorem ty57 : tyOf Tryz.prog 57 = some ⟨.slice 120, 1, 24, [.slice none 0 0]⟩ := by kernel_rfl
theorem ty59 : tyOf Tryz.prog 59 = some ⟨.struct [(0, 1, false), (1, 1, false), (2, 1, false)], 3, 64, [.string ⟨#[]⟩, .slice none 0 0, .slice none 0 0]⟩ := by kernel_rfl
theorem ty60 : tyOf Tryz.prog 60 = some ⟨.slice 98, 1, 24, [.slice none 0 0]⟩ := by kernel_rfl
theorem ty62 : tyOf Tryz.prog 62 = some ⟨.struct [(0, 3, true), (3, 2, true), (5, 1, false), (6, 1, false)], 7, 144, [.string ⟨#[]⟩, .slice none 0 0, .slice none 0 0, .int .i64 0, .slice none 0 0, .slice none 0 0, .slice none 0 0]⟩ := by kernel_rfl
theorem ty73 : tyOf Tryz.prog 73 = some ⟨.slice 104, 1, 24, [.slice none 0 0]⟩ := by kernel_rfl
theorem ty75 : tyOf Tryz.prog 75 = some ⟨.struct [(0, 1, false), (1, 2, true), (3, 1, false), (4, 1, false)], 5, 88, [.int .i64 0, .string ⟨#[]⟩, .string ⟨#[]⟩, .slice none 0 0, .slice none 0 0]⟩ := by kernel_rfl
theorem ty91 : tyOf Tryz.prog 91 = some ⟨.struct [(0, 1, false), (1, 2, true)], 3, 48, [.string ⟨#[]⟩, .string ⟨#[]⟩, .string ⟨#[]⟩]⟩ := by kernel_rfl
theorem ty96 : tyOf Tryz.prog 96 = some ⟨.slice 125, 1, 24, [.slice none 0 0]⟩ := by kernel_rfl
theorem ty98 : tyOf Tryz.prog 98 = some ⟨.struct [(0, 2, true), (2, 1, false)], 3, 56, [.string ⟨#[]⟩, .string ⟨#[]⟩, .slice none 0 0]⟩ := by kernel_rfl
theorem ty101 : tyOf Tryz.prog 101 = some ⟨.struct [(0, 1, false), (1, 1, false)], 2, 32, [.slice none 0 0, .int .i64 0]⟩ := by kernel_rfl
theorem ty104 : tyOf Tryz.prog 104 = some ⟨.struct [(0, 2, true), (2, 1, false), (3, 1, false)], 4, 48, [.string ⟨#[]⟩, .string ⟨#[]⟩, .int .i64 0, .int .i64 0]⟩ := by kernel_rfl
theorem ty120 : tyOf Tryz.prog 120 = some ⟨.struct [(0, 1, false), (1, 1, false)], 2, 32, [.string ⟨#[]⟩, .string ⟨#[]⟩]⟩ := by kernel_rfl
theorem ty125 : tyOf Tryz.prog 125 = some ⟨.struct [(0, 2, true), (2, 1, false)], 3, 56, [.string ⟨#[]⟩, .string ⟨#[]⟩, .slice none 0 0]⟩ := by kernel_rfl
theorem ty129 : tyOf Tryz.prog 129 = some ⟨.map 9 4, 1, 8, [.map none]⟩ := by kernel_rfl
theorem ty146 : tyOf Tryz.prog 146 = some ⟨.map 27 4, 1, 8, [.map none]⟩ := by kernel_rfl
theorem ty166 : tyOf Tryz.prog 166 = some ⟨.slice 194, 1, 24, [.slice none 0 0]⟩ := by kernel_rfl
theorem ty176 : tyOf Tryz.prog 176 = some ⟨.arr 256 4, 256, 256, List.replicate 256 (.bool false)⟩ := by kernel_rfl
theorem ty207 : tyOf Tryz.prog 207 = some ⟨.slice 31, 1, 24, [.slice none 0 0]⟩ := by kernel_rfl
theorem ty220 : tyOf Tryz.prog 220 = some ⟨.int .u64, 1, 8, [.int .u64 0]⟩ := by kernel_rfl
theorem ty237 : tyOf Tryz.prog 237 = some ⟨.int .u32, 1, 4, [.int .u32 0]⟩ := by kernel_rfl
theorem lv27 : lvs Tryz.prog 27 = some [.s, .s] := by kernel_rfl
theorem lv91 : lvs Tryz.prog 91 = some [.s, .s, .s] := by kernel_rfl
theorem lv104 : lvs Tryz.prog 104 = some [.s, .s, .i .i64, .i .i64] := by kernel_rfl
theorem lv120 : lvs Tryz.prog 120 = some [.s, .s] := by kernel_rfl
theorem zb4 : zeroB Tryz.prog 4 = true := by kernel_rfl
theorem hmix : Tryz.prog.follows .mixedOrders = true := by kernel_rfl
instance : Inhabited ByteArray := ⟨⟨#[]⟩⟩
def encInt (a : Int) : List T := [.v (.int .i64 a)]
def decInt : List T → Option Int
  | [.v (.int .i64 x)] => some x
  | _ => none
def EInt : Enc Int where
  enc := encInt
  dec := decInt
  n := 1
  ed := fun _ => rfl
  de := fun c a h => by unfold decInt at h; split at h <;> cases h; rfl
  len := fun _ => rfl
theorem encInt_eq (a : Int) : encInt a = [.v (.int .i64 a)] := rfl
theorem aIdx_int (xs : List Int) (n : Int) (s : AS) (K : Kt) : aIdx 1 (xs.map encInt) n s K = (0 ≤ n ∧ n < xs.length ∧ K (.t (.rop (encInt (xs.getD n.toNat default)))) s) := aIdx_map encInt xs 1 n s K fun _ => rfl
theorem EInt_dec {b : Int} : EInt.dec [.v (.int .i64 b)] = some b := rfl
theorem decInts (xs : List Int) : EInt.decL (xs.map encInt) = some xs := EInt.decL_map xs
theorem decInts0 : EInt.decL [] = some [] := rfl
theorem EInt_enc : EInt.enc = encInt := rfl
theorem EInt_n : EInt.n = 1 := rfl
theorem AllV_Int (xs : List Int) : AllV (xs.map encInt) = True := eq_true (AllV_map encInt (by intro a t ht; simp [encInt] at ht; exact ⟨_, ht⟩) xs)
theorem len_Int (xs : List Int) : (∀ c ∈ xs.map encInt, c.length = 1) = True := eq_true fun c hc => by
  obtain ⟨a, _, rfl⟩ := List.mem_map.1 hc; rfl
theorem set_Int (xs : List Int) (i : Nat) (s : Int) : (xs.map encInt).set i [.v (.int .i64 s)] = (xs.set i s).map encInt := set_map encInt xs i s rfl
theorem encStr_eq (a : ByteArray) : encStr a = [.v (.string a)] := rfl
theorem aIdx_str (xs : List ByteArray) (n : Int) (s : AS) (K : Kt) : aIdx 1 (xs.map encStr) n s K = (0 ≤ n ∧ n < xs.length ∧ K (.t (.rop (encStr (xs.getD n.toNat default)))) s) := aIdx_map encStr xs 1 n s K fun _ => rfl
theorem EStr_dec {b : ByteArray} : EStr.dec [.v (.string b)] = some b := rfl
theorem decStrs (xs : List ByteArray) : EStr.decL (xs.map encStr) = some xs := EStr.decL_map xs
theorem decStrs0 : EStr.decL [] = some [] := rfl
theorem EStr_enc : EStr.enc = encStr := rfl
theorem EStr_n : EStr.n = 1 := rfl
theorem AllV_Str (xs : List ByteArray) : AllV (xs.map encStr) = True := eq_true (AllV_map encStr (by intro a t ht; simp [encStr] at ht; exact ⟨_, ht⟩) xs)
theorem len_Str (xs : List ByteArray) : (∀ c ∈ xs.map encStr, c.length = 1) = True := eq_true fun c hc => by
  obtain ⟨a, _, rfl⟩ := List.mem_map.1 hc; rfl
theorem set_Str (xs : List ByteArray) (i : Nat) (s : ByteArray) : (xs.map encStr).set i [.v (.string s)] = (xs.set i s).map encStr := set_map encStr xs i s rfl
theorem lc_enc {α β : Type} {A : AD α} {L : AL β} {a : α} {b : β} : (lc A L).enc (a, b) = A.enc a :: L.enc b := rfl
theorem l0_enc {a : Unit} : l0.enc a = [] := rfl
theorem asl_enc {α : Type} {E : Enc α} {xs : List α} : E.asl.enc xs = .t (.sl E.n (xs.map E.enc)) := rfl
theorem ag_enc {α : Type} {E : Enc α} {a : α} : E.ag.enc a = .agg ((E.enc a).map .t) := rfl
theorem aow_enc {α : Type} {E : Enc α} {d : Bool} {n : Nat} {xs : List α} : (E.aow d n).enc xs = .o d n (xs.map E.enc) := rfl
theorem ABool_enc {b : Bool} : ABool.enc b = .t (.v (.bool b)) := rfl
theorem AInt_enc {b : Int} : AInt.enc b = .t (.v (.int .i64 b)) := rfl
theorem AU8_enc {b : Int} : AU8.enc b = .t (.v (.int .u8 b)) := rfl
theorem AStr_enc {b : ByteArray} : AStr.enc b = .t (.v (.string b)) := rfl
theorem getD_drop {α : Type} [Inhabited α] {xs : List α} {i : Nat} (h : i < xs.length) : xs.drop i = xs.getD i default :: xs.drop (i + 1) := drop_getD h
theorem ro_kd {k : Nat} {c : Ct} : (roEnt k c).kd = k := rfl
theorem ro_ro {k : Nat} {c : Ct} : (roEnt k c).ro = c := rfl
theorem mu_kd {c : Mt} : (muEnt c).kd = 2 := rfl
theorem mu_mu {c : Mt} : (muEnt c).mu = c := rfl
open Classical in
noncomputable def bOf (p : Prop) : Bool := decide p
theorem bOf_t {p : Prop} : (bOf p = true) = p := by unfold bOf; simp
theorem bOf_f {p : Prop} : (bOf p = false) = ¬ p := by unfold bOf; simp
theorem bOf_y {p : Prop} (h : p) : bOf p = true := by rw [bOf_t]; exact h
theorem bOf_n {p : Prop} (h : ¬ p) : bOf p = false := by rw [bOf_f]; exact h
theorem bOf_d {p : Prop} [Decidable p] : bOf p = decide p := by
  by_cases h : p
  · rw [bOf_y h, decide_eq_true h]
  · rw [bOf_n h, decide_eq_false h]
theorem bOf_not {p : Prop} : (!bOf p) = bOf (¬ p) := by
  by_cases h : p
  · rw [bOf_y h, bOf_n (fun q => q h)]; rfl
  · rw [bOf_n h, bOf_y h]; rfl
theorem bOf_congr {p q : Prop} (h : p ↔ q) : bOf p = bOf q := by rw [propext h]
theorem qa {p : Prop} [Decidable p] : (decide p = true) = p := by simp
theorem qb {p : Prop} [Decidable p] : (decide p = false) = ¬ p := by simp
theorem qc {b : Bool} : ((!b) = true) = (b = false) := by simp
theorem qd {b : Bool} : ((!b) = false) = (b = true) := by simp
theorem qe {b : Bool} : (¬ b = true) = (b = false) := by simp
theorem qf {b : Bool} : (¬ b = false) = (b = true) := by simp
theorem qg {p : Prop} : (¬ ¬ p) = p := by simp
theorem qz : (∀ (p : Prop) [Decidable p], (decide p = true) = p) ∧ (∀ (p : Prop) [Decidable p], (decide p = false) = ¬ p) ∧ (∀ b : Bool, ((!b) = true) = (b = false)) ∧ (∀ b : Bool, ((!b) = false) = (b = true)) ∧ (∀ b : Bool, (¬ b = true) = (b = false)) ∧ (∀ b : Bool, (¬ b = false) = (b = true)) ∧ (∀ p : Prop, (¬ ¬ p) = p) ∧ (∀ p : Prop, (bOf p = true) = p) ∧ (∀ p : Prop, (bOf p = false) = ¬ p) := ⟨fun _ _ => qa, fun _ _ => qb, fun _ => qc, fun _ => qd, fun _ => qe, fun _ => qf, fun _ => qg, fun _ => bOf_t, fun _ => bOf_f⟩
abbrev OkG (G : Gt) : Prop := GOk Tryz.prog G ∧ GDet G
abbrev Gd (G : Gt) (f : FuncId) (e : Ent) : Prop := Good Tryz.prog G.m f e
theorem gR {G : Gt} {dp : Nat → Bool} {f : FuncId} {fn : Func} {c : Code} {α : Type} {L : AL α} {pre : α → Prop} {r : α → AV} {kd n : Nat} (hn : ∀ a, (L.enc a).length = n) (hf : Tryz.prog.funcs[f]? = some fn) (hb : fn.body = some c) (hok : okFn fn c = true) (hG : OkG G)
    (hlen : n ≤ fn.ntmps) (ok : okCallee Tryz.prog f = true) (hk : ¬ kd = 3) (hs : kd = 0 → ∀ a, Solid (r a)) (h : ∀ a, pre a → run Tryz.prog G dp (fin Tryz.prog fn.results.toList (internL 900 0 (L.enc a) ⟨[], []⟩).avs (L.enc a) (r a)) [.c c] (s0 (L.enc a))) : Gd G f (roEnt kd (ctR L pre r)) := good_run hn hf hb hok hmix hG hlen ok hk hs h
theorem gM {G : Gt} {dp : Nat → Bool} {f : FuncId} {fn : Func} {c : Code} {α : Type} {L : AL α} {pre : α → Prop} {r : α → List AV × AV} {n : Nat} (hn : ∀ a, (L.enc a).length = n) (hf : Tryz.prog.funcs[f]? = some fn) (hb : fn.body = some c) (hok : okFn fn c = true) (hG : OkG G)
    (hlen : n ≤ fn.ntmps) (ok : okCallee Tryz.prog f = true) (h : ∀ a, pre a → run Tryz.prog G dp (fin Tryz.prog fn.results.toList (internL 900 0 (L.enc a) ⟨[], []⟩).avs (r a).1 (r a).2) [.c c] (s0 (L.enc a))) : Gd G f (muEnt (ctM L pre r)) := good_runM hn hf hb hok hmix hG hlen ok h
structure Ad where
  user : ByteArray
  domain : ByteArray
  deriving DecidableEq
instance : Inhabited Ad := ⟨⟨default, default⟩⟩
def encAd (a : Ad) : List T := [.v (.string a.user), .v (.string a.domain)]
def decAd : List T → Option Ad
  | [.v (.string x0), .v (.string x1)] => some ⟨x0, x1⟩
  | _ => none
def EAd : Enc Ad where
  enc := encAd
  dec := decAd
  n := 2
  ed := fun _ => rfl
  de := fun c a h => by unfold decAd at h; split at h <;> cases h; rfl
  len := fun _ => rfl
theorem encAd_eq (a : Ad) : encAd a = [.v (.string a.user), .v (.string a.domain)] := rfl
theorem aIdx_Ad (xs : List Ad) (n : Int) (s : AS) (K : Kt) : aIdx 2 (xs.map encAd) n s K = (0 ≤ n ∧ n < xs.length ∧ K (.t (.rop (encAd (xs.getD n.toNat default)))) s) := aIdx_map encAd xs 2 n s K fun _ => rfl
theorem EAd_dec {x0 : ByteArray} {x1 : ByteArray} : EAd.dec [.v (.string x0), .v (.string x1)] = some ⟨x0, x1⟩ := rfl
theorem decAds (xs : List Ad) : EAd.decL (xs.map encAd) = some xs := EAd.decL_map xs
theorem decAds0 : EAd.decL [] = some [] := rfl
theorem EAd_enc : EAd.enc = encAd := rfl
theorem EAd_n : EAd.n = 2 := rfl
theorem len_Ad (xs : List Ad) : (∀ c ∈ xs.map encAd, c.length = 2) = True := eq_true fun c hc => by
  obtain ⟨a, _, rfl⟩ := List.mem_map.1 hc; rfl
theorem AllV_Ad (xs : List Ad) : AllV (xs.map encAd) = True := eq_true (AllV_map encAd (by intro a t ht; simp only [encAd, List.mem_cons, List.not_mem_nil, or_false] at ht; rcases ht with rfl | rfl <;> exact ⟨_, rfl⟩) xs)
theorem Ad_eta (a : Ad) : (⟨a.user, a.domain⟩ : Ad) = a := rfl
theorem Ad_ext {a b : Ad} : a = b ↔ a.user = b.user ∧ a.domain = b.domain := by
  cases a; cases b; simp
theorem set_Ad (xs : List Ad) (i : Nat) (x0 : ByteArray) (x1 : ByteArray) : (xs.map encAd).set i [.v (.string x0), .v (.string x1)] = (xs.set i ⟨x0, x1⟩).map encAd := set_map encAd xs i ⟨x0, x1⟩ rfl
structure Rc where
  addr : Ad
  tries : Int
  next : Int
  deriving DecidableEq
instance : Inhabited Rc := ⟨⟨default, default, default⟩⟩
def encRc (a : Rc) : List T := [.v (.string a.addr.user), .v (.string a.addr.domain), .v (.int .i64 a.tries), .v (.int .i64 a.next)]
def decRc : List T → Option Rc
  | [.v (.string x0), .v (.string x1), .v (.int .i64 x2), .v (.int .i64 x3)] => some ⟨⟨x0, x1⟩, x2, x3⟩
  | _ => none
def ERc : Enc Rc where
  enc := encRc
  dec := decRc
  n := 4
  ed := fun _ => rfl
  de := fun c a h => by unfold decRc at h; split at h <;> cases h; rfl
  len := fun _ => rfl
theorem encRc_eq (a : Rc) : encRc a = [.v (.string a.addr.user), .v (.string a.addr.domain), .v (.int .i64 a.tries), .v (.int .i64 a.next)] := rfl
theorem aIdx_Rc (xs : List Rc) (n : Int) (s : AS) (K : Kt) : aIdx 4 (xs.map encRc) n s K = (0 ≤ n ∧ n < xs.length ∧ K (.t (.rop (encRc (xs.getD n.toNat default)))) s) := aIdx_map encRc xs 4 n s K fun _ => rfl
theorem ERc_dec {x0 : ByteArray} {x1 : ByteArray} {x2 : Int} {x3 : Int} : ERc.dec [.v (.string x0), .v (.string x1), .v (.int .i64 x2), .v (.int .i64 x3)] = some ⟨⟨x0, x1⟩, x2, x3⟩ := rfl
theorem decRcs (xs : List Rc) : ERc.decL (xs.map encRc) = some xs := ERc.decL_map xs
theorem decRcs0 : ERc.decL [] = some [] := rfl
theorem ERc_enc : ERc.enc = encRc := rfl
theorem ERc_n : ERc.n = 4 := rfl
theorem len_Rc (xs : List Rc) : (∀ c ∈ xs.map encRc, c.length = 4) = True := eq_true fun c hc => by
  obtain ⟨a, _, rfl⟩ := List.mem_map.1 hc; rfl
theorem AllV_Rc (xs : List Rc) : AllV (xs.map encRc) = True := eq_true (AllV_map encRc (by intro a t ht; simp only [encRc, List.mem_cons, List.not_mem_nil, or_false] at ht; rcases ht with rfl | rfl | rfl | rfl <;> exact ⟨_, rfl⟩) xs)
theorem Rc_eta (a : Rc) : (⟨a.addr, a.tries, a.next⟩ : Rc) = a := rfl
theorem Rc_ext {a b : Rc} : a = b ↔ a.addr = b.addr ∧ a.tries = b.tries ∧ a.next = b.next := by
  cases a; cases b; simp
theorem set_Rc (xs : List Rc) (i : Nat) (x0 : ByteArray) (x1 : ByteArray) (x2 : Int) (x3 : Int) : (xs.map encRc).set i [.v (.string x0), .v (.string x1), .v (.int .i64 x2), .v (.int .i64 x3)] = (xs.set i ⟨⟨x0, x1⟩, x2, x3⟩).map encRc := set_map encRc xs i ⟨⟨x0, x1⟩, x2, x3⟩ rfl
structure Im where
  id : Int
  frm : Ad
  to : List Rc
  body : List ByteArray
  deriving DecidableEq
instance : Inhabited Im := ⟨⟨default, default, default, default⟩⟩
def encIm (a : Im) : List T := [.v (.int .i64 a.id), .v (.string a.frm.user), .v (.string a.frm.domain), .sl 4 (a.to.map encRc), .sl 1 (a.body.map encStr)]
def mkIm (x0 : Int) (x1 : ByteArray) (x2 : ByteArray) : Option (List Rc) → Option (List ByteArray) → Option Im
  | some x3, some x4 => some ⟨x0, ⟨x1, x2⟩, x3, x4⟩
  | _, _ => none
def decIm : List T → Option Im
  | [.v (.int .i64 x0), .v (.string x1), .v (.string x2), .sl 4 x3, .sl 1 x4] => mkIm x0 x1 x2 (ERc.decL x3) (EStr.decL x4)
  | _ => none
def EIm : Enc Im where
  enc := encIm
  dec := decIm
  n := 5
  ed := fun a => by
    show mkIm a.id a.frm.user a.frm.domain (ERc.decL (a.to.map ERc.enc)) (EStr.decL (a.body.map EStr.enc)) = _
    rw [ERc.decL_map, EStr.decL_map]
    rfl
  de := fun c a h => by
    unfold decIm at h
    split at h
    · unfold mkIm at h
      split at h
      · rename_i e0 e1
        cases h
        rw [ERc.decL_inv e0, EStr.decL_inv e1]; rfl
      · cases h
    · cases h
  len := fun _ => rfl
theorem encIm_eq (a : Im) : encIm a = [.v (.int .i64 a.id), .v (.string a.frm.user), .v (.string a.frm.domain), .sl 4 (a.to.map encRc), .sl 1 (a.body.map encStr)] := rfl
theorem aIdx_Im (xs : List Im) (n : Int) (s : AS) (K : Kt) : aIdx 5 (xs.map encIm) n s K = (0 ≤ n ∧ n < xs.length ∧ K (.t (.rop (encIm (xs.getD n.toNat default)))) s) := aIdx_map encIm xs 5 n s K fun _ => rfl
theorem EIm_dec {x0 : Int} {x1 : ByteArray} {x2 : ByteArray} {x3 : List (List T)} {x4 : List (List T)} : EIm.dec [.v (.int .i64 x0), .v (.string x1), .v (.string x2), .sl 4 x3, .sl 1 x4] = mkIm x0 x1 x2 (ERc.decL x3) (EStr.decL x4) := rfl
theorem decIms (xs : List Im) : EIm.decL (xs.map encIm) = some xs := EIm.decL_map xs
theorem decIms0 : EIm.decL [] = some [] := rfl
theorem EIm_enc : EIm.enc = encIm := rfl
theorem EIm_n : EIm.n = 5 := rfl
theorem len_Im (xs : List Im) : (∀ c ∈ xs.map encIm, c.length = 5) = True := eq_true fun c hc => by
  obtain ⟨a, _, rfl⟩ := List.mem_map.1 hc; rfl
theorem Im_eta (a : Im) : (⟨a.id, a.frm, a.to, a.body⟩ : Im) = a := rfl
theorem Im_ext {a b : Im} : a = b ↔ a.id = b.id ∧ a.frm = b.frm ∧ a.to = b.to ∧ a.body = b.body := by
  cases a; cases b; simp
theorem set_Im (xs : List Im) (i : Nat) (x0 : Int) (x1 : ByteArray) (x2 : ByteArray) (x3 : List Rc) (x4 : List ByteArray) : (xs.map encIm).set i [.v (.int .i64 x0), .v (.string x1), .v (.string x2), .sl 4 (x3.map encRc), .sl 1 (x4.map encStr)] = (xs.set i ⟨x0, ⟨x1, x2⟩, x3, x4⟩).map encIm := set_map encIm xs i ⟨x0, ⟨x1, x2⟩, x3, x4⟩ rfl
structure Sp where
  last : Int
  items : List Im
  deriving DecidableEq
instance : Inhabited Sp := ⟨⟨default, default⟩⟩
def encSp (a : Sp) : List T := [.v (.int .i64 a.last), .sl 5 (a.items.map encIm)]
def mkSp (x0 : Int) : Option (List Im) → Option Sp
  | some x1 => some ⟨x0, x1⟩
  | _ => none
def decSp : List T → Option Sp
  | [.v (.int .i64 x0), .sl 5 x1] => mkSp x0 (EIm.decL x1)
  | _ => none
def ESp : Enc Sp where
  enc := encSp
  dec := decSp
  n := 2
  ed := fun a => by
    show mkSp a.last (EIm.decL (a.items.map EIm.enc)) = _
    rw [EIm.decL_map]
    rfl
  de := fun c a h => by
    unfold decSp at h
    split at h
    · unfold mkSp at h
      split at h
      · rename_i e0
        cases h
        rw [EIm.decL_inv e0]; rfl
      · cases h
    · cases h
  len := fun _ => rfl
theorem encSp_eq (a : Sp) : encSp a = [.v (.int .i64 a.last), .sl 5 (a.items.map encIm)] := rfl
theorem aIdx_Sp (xs : List Sp) (n : Int) (s : AS) (K : Kt) : aIdx 2 (xs.map encSp) n s K = (0 ≤ n ∧ n < xs.length ∧ K (.t (.rop (encSp (xs.getD n.toNat default)))) s) := aIdx_map encSp xs 2 n s K fun _ => rfl
theorem ESp_dec {x0 : Int} {x1 : List (List T)} : ESp.dec [.v (.int .i64 x0), .sl 5 x1] = mkSp x0 (EIm.decL x1) := rfl
theorem decSps (xs : List Sp) : ESp.decL (xs.map encSp) = some xs := ESp.decL_map xs
theorem decSps0 : ESp.decL [] = some [] := rfl
theorem ESp_enc : ESp.enc = encSp := rfl
theorem ESp_n : ESp.n = 2 := rfl
theorem len_Sp (xs : List Sp) : (∀ c ∈ xs.map encSp, c.length = 2) = True := eq_true fun c hc => by
  obtain ⟨a, _, rfl⟩ := List.mem_map.1 hc; rfl
theorem Sp_eta (a : Sp) : (⟨a.last, a.items⟩ : Sp) = a := rfl
theorem Sp_ext {a b : Sp} : a = b ↔ a.last = b.last ∧ a.items = b.items := by
  cases a; cases b; simp
theorem set_Sp (xs : List Sp) (i : Nat) (x0 : Int) (x1 : List Im) : (xs.map encSp).set i [.v (.int .i64 x0), .sl 5 (x1.map encIm)] = (xs.set i ⟨x0, x1⟩).map encSp := set_map encSp xs i ⟨x0, x1⟩ rfl
structure Wy where
  ends : ByteArray
  to : ByteArray
  deriving DecidableEq
instance : Inhabited Wy := ⟨⟨default, default⟩⟩
def encWy (a : Wy) : List T := [.v (.string a.ends), .v (.string a.to)]
def decWy : List T → Option Wy
  | [.v (.string x0), .v (.string x1)] => some ⟨x0, x1⟩
  | _ => none
def EWy : Enc Wy where
  enc := encWy
  dec := decWy
  n := 2
  ed := fun _ => rfl
  de := fun c a h => by unfold decWy at h; split at h <;> cases h; rfl
  len := fun _ => rfl
theorem encWy_eq (a : Wy) : encWy a = [.v (.string a.ends), .v (.string a.to)] := rfl
theorem aIdx_Wy (xs : List Wy) (n : Int) (s : AS) (K : Kt) : aIdx 2 (xs.map encWy) n s K = (0 ≤ n ∧ n < xs.length ∧ K (.t (.rop (encWy (xs.getD n.toNat default)))) s) := aIdx_map encWy xs 2 n s K fun _ => rfl
theorem EWy_dec {x0 : ByteArray} {x1 : ByteArray} : EWy.dec [.v (.string x0), .v (.string x1)] = some ⟨x0, x1⟩ := rfl
theorem decWys (xs : List Wy) : EWy.decL (xs.map encWy) = some xs := EWy.decL_map xs
theorem decWys0 : EWy.decL [] = some [] := rfl
theorem EWy_enc : EWy.enc = encWy := rfl
theorem EWy_n : EWy.n = 2 := rfl
theorem len_Wy (xs : List Wy) : (∀ c ∈ xs.map encWy, c.length = 2) = True := eq_true fun c hc => by
  obtain ⟨a, _, rfl⟩ := List.mem_map.1 hc; rfl
theorem AllV_Wy (xs : List Wy) : AllV (xs.map encWy) = True := eq_true (AllV_map encWy (by intro a t ht; simp only [encWy, List.mem_cons, List.not_mem_nil, or_false] at ht; rcases ht with rfl | rfl <;> exact ⟨_, rfl⟩) xs)
theorem Wy_eta (a : Wy) : (⟨a.ends, a.to⟩ : Wy) = a := rfl
theorem Wy_ext {a b : Wy} : a = b ↔ a.ends = b.ends ∧ a.to = b.to := by
  cases a; cases b; simp
theorem set_Wy (xs : List Wy) (i : Nat) (x0 : ByteArray) (x1 : ByteArray) : (xs.map encWy).set i [.v (.string x0), .v (.string x1)] = (xs.set i ⟨x0, x1⟩).map encWy := set_map encWy xs i ⟨x0, x1⟩ rfl
structure Cf where
  name : ByteArray
  own : List ByteArray
  ways : List Wy
  deriving DecidableEq
instance : Inhabited Cf := ⟨⟨default, default, default⟩⟩
def encCf (a : Cf) : List T := [.v (.string a.name), .sl 1 (a.own.map encStr), .sl 2 (a.ways.map encWy)]
def mkCf (x0 : ByteArray) : Option (List ByteArray) → Option (List Wy) → Option Cf
  | some x1, some x2 => some ⟨x0, x1, x2⟩
  | _, _ => none
def decCf : List T → Option Cf
  | [.v (.string x0), .sl 1 x1, .sl 2 x2] => mkCf x0 (EStr.decL x1) (EWy.decL x2)
  | _ => none
def ECf : Enc Cf where
  enc := encCf
  dec := decCf
  n := 3
  ed := fun a => by
    show mkCf a.name (EStr.decL (a.own.map EStr.enc)) (EWy.decL (a.ways.map EWy.enc)) = _
    rw [EStr.decL_map, EWy.decL_map]
    rfl
  de := fun c a h => by
    unfold decCf at h
    split at h
    · unfold mkCf at h
      split at h
      · rename_i e0 e1
        cases h
        rw [EStr.decL_inv e0, EWy.decL_inv e1]; rfl
      · cases h
    · cases h
  len := fun _ => rfl
theorem encCf_eq (a : Cf) : encCf a = [.v (.string a.name), .sl 1 (a.own.map encStr), .sl 2 (a.ways.map encWy)] := rfl
theorem aIdx_Cf (xs : List Cf) (n : Int) (s : AS) (K : Kt) : aIdx 3 (xs.map encCf) n s K = (0 ≤ n ∧ n < xs.length ∧ K (.t (.rop (encCf (xs.getD n.toNat default)))) s) := aIdx_map encCf xs 3 n s K fun _ => rfl
theorem ECf_dec {x0 : ByteArray} {x1 : List (List T)} {x2 : List (List T)} : ECf.dec [.v (.string x0), .sl 1 x1, .sl 2 x2] = mkCf x0 (EStr.decL x1) (EWy.decL x2) := rfl
theorem decCfs (xs : List Cf) : ECf.decL (xs.map encCf) = some xs := ECf.decL_map xs
theorem decCfs0 : ECf.decL [] = some [] := rfl
theorem ECf_enc : ECf.enc = encCf := rfl
theorem ECf_n : ECf.n = 3 := rfl
theorem len_Cf (xs : List Cf) : (∀ c ∈ xs.map encCf, c.length = 3) = True := eq_true fun c hc => by
  obtain ⟨a, _, rfl⟩ := List.mem_map.1 hc; rfl
theorem Cf_eta (a : Cf) : (⟨a.name, a.own, a.ways⟩ : Cf) = a := rfl
theorem Cf_ext {a b : Cf} : a = b ↔ a.name = b.name ∧ a.own = b.own ∧ a.ways = b.ways := by
  cases a; cases b; simp
theorem set_Cf (xs : List Cf) (i : Nat) (x0 : ByteArray) (x1 : List ByteArray) (x2 : List Wy) : (xs.map encCf).set i [.v (.string x0), .sl 1 (x1.map encStr), .sl 2 (x2.map encWy)] = (xs.set i ⟨x0, x1, x2⟩).map encCf := set_map encCf xs i ⟨x0, x1, x2⟩ rfl
structure Gm where
  frm : Ad
  body : List ByteArray
  deriving DecidableEq
instance : Inhabited Gm := ⟨⟨default, default⟩⟩
def encGm (a : Gm) : List T := [.v (.string a.frm.user), .v (.string a.frm.domain), .sl 1 (a.body.map encStr)]
def mkGm (x0 : ByteArray) (x1 : ByteArray) : Option (List ByteArray) → Option Gm
  | some x2 => some ⟨⟨x0, x1⟩, x2⟩
  | _ => none
def decGm : List T → Option Gm
  | [.v (.string x0), .v (.string x1), .sl 1 x2] => mkGm x0 x1 (EStr.decL x2)
  | _ => none
def EGm : Enc Gm where
  enc := encGm
  dec := decGm
  n := 3
  ed := fun a => by
    show mkGm a.frm.user a.frm.domain (EStr.decL (a.body.map EStr.enc)) = _
    rw [EStr.decL_map]
    rfl
  de := fun c a h => by
    unfold decGm at h
    split at h
    · unfold mkGm at h
      split at h
      · rename_i e0
        cases h
        rw [EStr.decL_inv e0]; rfl
      · cases h
    · cases h
  len := fun _ => rfl
theorem encGm_eq (a : Gm) : encGm a = [.v (.string a.frm.user), .v (.string a.frm.domain), .sl 1 (a.body.map encStr)] := rfl
theorem aIdx_Gm (xs : List Gm) (n : Int) (s : AS) (K : Kt) : aIdx 3 (xs.map encGm) n s K = (0 ≤ n ∧ n < xs.length ∧ K (.t (.rop (encGm (xs.getD n.toNat default)))) s) := aIdx_map encGm xs 3 n s K fun _ => rfl
theorem EGm_dec {x0 : ByteArray} {x1 : ByteArray} {x2 : List (List T)} : EGm.dec [.v (.string x0), .v (.string x1), .sl 1 x2] = mkGm x0 x1 (EStr.decL x2) := rfl
theorem decGms (xs : List Gm) : EGm.decL (xs.map encGm) = some xs := EGm.decL_map xs
theorem decGms0 : EGm.decL [] = some [] := rfl
theorem EGm_enc : EGm.enc = encGm := rfl
theorem EGm_n : EGm.n = 3 := rfl
theorem len_Gm (xs : List Gm) : (∀ c ∈ xs.map encGm, c.length = 3) = True := eq_true fun c hc => by
  obtain ⟨a, _, rfl⟩ := List.mem_map.1 hc; rfl
theorem Gm_eta (a : Gm) : (⟨a.frm, a.body⟩ : Gm) = a := rfl
theorem Gm_ext {a b : Gm} : a = b ↔ a.frm = b.frm ∧ a.body = b.body := by
  cases a; cases b; simp
theorem set_Gm (xs : List Gm) (i : Nat) (x0 : ByteArray) (x1 : ByteArray) (x2 : List ByteArray) : (xs.map encGm).set i [.v (.string x0), .v (.string x1), .sl 1 (x2.map encStr)] = (xs.set i ⟨⟨x0, x1⟩, x2⟩).map encGm := set_map encGm xs i ⟨⟨x0, x1⟩, x2⟩ rfl
structure Bx where
  addr : Ad
  mails : List Gm
  deriving DecidableEq
instance : Inhabited Bx := ⟨⟨default, default⟩⟩
def encBx (a : Bx) : List T := [.v (.string a.addr.user), .v (.string a.addr.domain), .sl 3 (a.mails.map encGm)]
def mkBx (x0 : ByteArray) (x1 : ByteArray) : Option (List Gm) → Option Bx
  | some x2 => some ⟨⟨x0, x1⟩, x2⟩
  | _ => none
def decBx : List T → Option Bx
  | [.v (.string x0), .v (.string x1), .sl 3 x2] => mkBx x0 x1 (EGm.decL x2)
  | _ => none
def EBx : Enc Bx where
  enc := encBx
  dec := decBx
  n := 3
  ed := fun a => by
    show mkBx a.addr.user a.addr.domain (EGm.decL (a.mails.map EGm.enc)) = _
    rw [EGm.decL_map]
    rfl
  de := fun c a h => by
    unfold decBx at h
    split at h
    · unfold mkBx at h
      split at h
      · rename_i e0
        cases h
        rw [EGm.decL_inv e0]; rfl
      · cases h
    · cases h
  len := fun _ => rfl
theorem encBx_eq (a : Bx) : encBx a = [.v (.string a.addr.user), .v (.string a.addr.domain), .sl 3 (a.mails.map encGm)] := rfl
theorem aIdx_Bx (xs : List Bx) (n : Int) (s : AS) (K : Kt) : aIdx 3 (xs.map encBx) n s K = (0 ≤ n ∧ n < xs.length ∧ K (.t (.rop (encBx (xs.getD n.toNat default)))) s) := aIdx_map encBx xs 3 n s K fun _ => rfl
theorem EBx_dec {x0 : ByteArray} {x1 : ByteArray} {x2 : List (List T)} : EBx.dec [.v (.string x0), .v (.string x1), .sl 3 x2] = mkBx x0 x1 (EGm.decL x2) := rfl
theorem decBxs (xs : List Bx) : EBx.decL (xs.map encBx) = some xs := EBx.decL_map xs
theorem decBxs0 : EBx.decL [] = some [] := rfl
theorem EBx_enc : EBx.enc = encBx := rfl
theorem EBx_n : EBx.n = 3 := rfl
theorem len_Bx (xs : List Bx) : (∀ c ∈ xs.map encBx, c.length = 3) = True := eq_true fun c hc => by
  obtain ⟨a, _, rfl⟩ := List.mem_map.1 hc; rfl
theorem Bx_eta (a : Bx) : (⟨a.addr, a.mails⟩ : Bx) = a := rfl
theorem Bx_ext {a b : Bx} : a = b ↔ a.addr = b.addr ∧ a.mails = b.mails := by
  cases a; cases b; simp
theorem set_Bx (xs : List Bx) (i : Nat) (x0 : ByteArray) (x1 : ByteArray) (x2 : List Gm) : (xs.map encBx).set i [.v (.string x0), .v (.string x1), .sl 3 (x2.map encGm)] = (xs.set i ⟨⟨x0, x1⟩, x2⟩).map encBx := set_map encBx xs i ⟨⟨x0, x1⟩, x2⟩ rfl
structure Ls where
  mark : ByteArray
  addr : Ad
  deriving DecidableEq
instance : Inhabited Ls := ⟨⟨default, default⟩⟩
def encLs (a : Ls) : List T := [.v (.string a.mark), .v (.string a.addr.user), .v (.string a.addr.domain)]
def decLs : List T → Option Ls
  | [.v (.string x0), .v (.string x1), .v (.string x2)] => some ⟨x0, ⟨x1, x2⟩⟩
  | _ => none
def ELs : Enc Ls where
  enc := encLs
  dec := decLs
  n := 3
  ed := fun _ => rfl
  de := fun c a h => by unfold decLs at h; split at h <;> cases h; rfl
  len := fun _ => rfl
theorem encLs_eq (a : Ls) : encLs a = [.v (.string a.mark), .v (.string a.addr.user), .v (.string a.addr.domain)] := rfl
theorem aIdx_Ls (xs : List Ls) (n : Int) (s : AS) (K : Kt) : aIdx 3 (xs.map encLs) n s K = (0 ≤ n ∧ n < xs.length ∧ K (.t (.rop (encLs (xs.getD n.toNat default)))) s) := aIdx_map encLs xs 3 n s K fun _ => rfl
theorem ELs_dec {x0 : ByteArray} {x1 : ByteArray} {x2 : ByteArray} : ELs.dec [.v (.string x0), .v (.string x1), .v (.string x2)] = some ⟨x0, ⟨x1, x2⟩⟩ := rfl
theorem decLss (xs : List Ls) : ELs.decL (xs.map encLs) = some xs := ELs.decL_map xs
theorem decLss0 : ELs.decL [] = some [] := rfl
theorem ELs_enc : ELs.enc = encLs := rfl
theorem ELs_n : ELs.n = 3 := rfl
theorem len_Ls (xs : List Ls) : (∀ c ∈ xs.map encLs, c.length = 3) = True := eq_true fun c hc => by
  obtain ⟨a, _, rfl⟩ := List.mem_map.1 hc; rfl
theorem AllV_Ls (xs : List Ls) : AllV (xs.map encLs) = True := eq_true (AllV_map encLs (by intro a t ht; simp only [encLs, List.mem_cons, List.not_mem_nil, or_false] at ht; rcases ht with rfl | rfl | rfl <;> exact ⟨_, rfl⟩) xs)
theorem Ls_eta (a : Ls) : (⟨a.mark, a.addr⟩ : Ls) = a := rfl
theorem Ls_ext {a b : Ls} : a = b ↔ a.mark = b.mark ∧ a.addr = b.addr := by
  cases a; cases b; simp
theorem set_Ls (xs : List Ls) (i : Nat) (x0 : ByteArray) (x1 : ByteArray) (x2 : ByteArray) : (xs.map encLs).set i [.v (.string x0), .v (.string x1), .v (.string x2)] = (xs.set i ⟨x0, ⟨x1, x2⟩⟩).map encLs := set_map encLs xs i ⟨x0, ⟨x1, x2⟩⟩ rfl
structure Hs where
  conf : Cf
  spool : Sp
  boxes : List Bx
  lost : List Ls
  deriving DecidableEq
instance : Inhabited Hs := ⟨⟨default, default, default, default⟩⟩
def encHs (a : Hs) : List T := [.v (.string a.conf.name), .sl 1 (a.conf.own.map encStr), .sl 2 (a.conf.ways.map encWy), .v (.int .i64 a.spool.last), .sl 5 (a.spool.items.map encIm), .sl 3 (a.boxes.map encBx), .sl 3 (a.lost.map encLs)]
def mkHs (x0 : ByteArray) (x3 : Int) : Option (List ByteArray) → Option (List Wy) → Option (List Im) → Option (List Bx) → Option (List Ls) → Option Hs
  | some x1, some x2, some x4, some x5, some x6 => some ⟨⟨x0, x1, x2⟩, ⟨x3, x4⟩, x5, x6⟩
  | _, _, _, _, _ => none
def decHs : List T → Option Hs
  | [.v (.string x0), .sl 1 x1, .sl 2 x2, .v (.int .i64 x3), .sl 5 x4, .sl 3 x5, .sl 3 x6] => mkHs x0 x3 (EStr.decL x1) (EWy.decL x2) (EIm.decL x4) (EBx.decL x5) (ELs.decL x6)
  | _ => none
def EHs : Enc Hs where
  enc := encHs
  dec := decHs
  n := 7
  ed := fun a => by
    show mkHs a.conf.name a.spool.last (EStr.decL (a.conf.own.map EStr.enc)) (EWy.decL (a.conf.ways.map EWy.enc)) (EIm.decL (a.spool.items.map EIm.enc)) (EBx.decL (a.boxes.map EBx.enc)) (ELs.decL (a.lost.map ELs.enc)) = _
    rw [EStr.decL_map, EWy.decL_map, EIm.decL_map, EBx.decL_map, ELs.decL_map]
    rfl
  de := fun c a h => by
    unfold decHs at h
    split at h
    · unfold mkHs at h
      split at h
      · rename_i e0 e1 e2 e3 e4
        cases h
        rw [EStr.decL_inv e0, EWy.decL_inv e1, EIm.decL_inv e2, EBx.decL_inv e3, ELs.decL_inv e4]; rfl
      · cases h
    · cases h
  len := fun _ => rfl
theorem encHs_eq (a : Hs) : encHs a = [.v (.string a.conf.name), .sl 1 (a.conf.own.map encStr), .sl 2 (a.conf.ways.map encWy), .v (.int .i64 a.spool.last), .sl 5 (a.spool.items.map encIm), .sl 3 (a.boxes.map encBx), .sl 3 (a.lost.map encLs)] := rfl
theorem aIdx_Hs (xs : List Hs) (n : Int) (s : AS) (K : Kt) : aIdx 7 (xs.map encHs) n s K = (0 ≤ n ∧ n < xs.length ∧ K (.t (.rop (encHs (xs.getD n.toNat default)))) s) := aIdx_map encHs xs 7 n s K fun _ => rfl
theorem EHs_dec {x0 : ByteArray} {x1 : List (List T)} {x2 : List (List T)} {x3 : Int} {x4 : List (List T)} {x5 : List (List T)} {x6 : List (List T)} : EHs.dec [.v (.string x0), .sl 1 x1, .sl 2 x2, .v (.int .i64 x3), .sl 5 x4, .sl 3 x5, .sl 3 x6] = mkHs x0 x3 (EStr.decL x1) (EWy.decL x2) (EIm.decL x4) (EBx.decL x5) (ELs.decL x6) := rfl
theorem decHss (xs : List Hs) : EHs.decL (xs.map encHs) = some xs := EHs.decL_map xs
theorem decHss0 : EHs.decL [] = some [] := rfl
theorem EHs_enc : EHs.enc = encHs := rfl
theorem EHs_n : EHs.n = 7 := rfl
theorem len_Hs (xs : List Hs) : (∀ c ∈ xs.map encHs, c.length = 7) = True := eq_true fun c hc => by
  obtain ⟨a, _, rfl⟩ := List.mem_map.1 hc; rfl
theorem Hs_eta (a : Hs) : (⟨a.conf, a.spool, a.boxes, a.lost⟩ : Hs) = a := rfl
theorem Hs_ext {a b : Hs} : a = b ↔ a.conf = b.conf ∧ a.spool = b.spool ∧ a.boxes = b.boxes ∧ a.lost = b.lost := by
  cases a; cases b; simp
theorem set_Hs (xs : List Hs) (i : Nat) (x0 : ByteArray) (x1 : List ByteArray) (x2 : List Wy) (x3 : Int) (x4 : List Im) (x5 : List Bx) (x6 : List Ls) : (xs.map encHs).set i [.v (.string x0), .sl 1 (x1.map encStr), .sl 2 (x2.map encWy), .v (.int .i64 x3), .sl 5 (x4.map encIm), .sl 3 (x5.map encBx), .sl 3 (x6.map encLs)] = (xs.set i ⟨⟨x0, x1, x2⟩, ⟨x3, x4⟩, x5, x6⟩).map encHs := set_map encHs xs i ⟨⟨x0, x1, x2⟩, ⟨x3, x4⟩, x5, x6⟩ rfl
structure Wd where
  hosts : List Hs
  now : Int
  marks : Int
  given : List Ls
  deriving DecidableEq
instance : Inhabited Wd := ⟨⟨default, default, default, default⟩⟩
def encWd (a : Wd) : List T := [.sl 7 (a.hosts.map encHs), .v (.int .i64 a.now), .v (.int .i64 a.marks), .sl 3 (a.given.map encLs)]
def mkWd (x1 : Int) (x2 : Int) : Option (List Hs) → Option (List Ls) → Option Wd
  | some x0, some x3 => some ⟨x0, x1, x2, x3⟩
  | _, _ => none
def decWd : List T → Option Wd
  | [.sl 7 x0, .v (.int .i64 x1), .v (.int .i64 x2), .sl 3 x3] => mkWd x1 x2 (EHs.decL x0) (ELs.decL x3)
  | _ => none
def EWd : Enc Wd where
  enc := encWd
  dec := decWd
  n := 4
  ed := fun a => by
    show mkWd a.now a.marks (EHs.decL (a.hosts.map EHs.enc)) (ELs.decL (a.given.map ELs.enc)) = _
    rw [EHs.decL_map, ELs.decL_map]
    rfl
  de := fun c a h => by
    unfold decWd at h
    split at h
    · unfold mkWd at h
      split at h
      · rename_i e0 e1
        cases h
        rw [EHs.decL_inv e0, ELs.decL_inv e1]; rfl
      · cases h
    · cases h
  len := fun _ => rfl
theorem encWd_eq (a : Wd) : encWd a = [.sl 7 (a.hosts.map encHs), .v (.int .i64 a.now), .v (.int .i64 a.marks), .sl 3 (a.given.map encLs)] := rfl
theorem aIdx_Wd (xs : List Wd) (n : Int) (s : AS) (K : Kt) : aIdx 4 (xs.map encWd) n s K = (0 ≤ n ∧ n < xs.length ∧ K (.t (.rop (encWd (xs.getD n.toNat default)))) s) := aIdx_map encWd xs 4 n s K fun _ => rfl
theorem EWd_dec {x0 : List (List T)} {x1 : Int} {x2 : Int} {x3 : List (List T)} : EWd.dec [.sl 7 x0, .v (.int .i64 x1), .v (.int .i64 x2), .sl 3 x3] = mkWd x1 x2 (EHs.decL x0) (ELs.decL x3) := rfl
theorem decWds (xs : List Wd) : EWd.decL (xs.map encWd) = some xs := EWd.decL_map xs
theorem decWds0 : EWd.decL [] = some [] := rfl
theorem EWd_enc : EWd.enc = encWd := rfl
theorem EWd_n : EWd.n = 4 := rfl
theorem len_Wd (xs : List Wd) : (∀ c ∈ xs.map encWd, c.length = 4) = True := eq_true fun c hc => by
  obtain ⟨a, _, rfl⟩ := List.mem_map.1 hc; rfl
theorem Wd_eta (a : Wd) : (⟨a.hosts, a.now, a.marks, a.given⟩ : Wd) = a := rfl
theorem Wd_ext {a b : Wd} : a = b ↔ a.hosts = b.hosts ∧ a.now = b.now ∧ a.marks = b.marks ∧ a.given = b.given := by
  cases a; cases b; simp
theorem set_Wd (xs : List Wd) (i : Nat) (x0 : List Hs) (x1 : Int) (x2 : Int) (x3 : List Ls) : (xs.map encWd).set i [.sl 7 (x0.map encHs), .v (.int .i64 x1), .v (.int .i64 x2), .sl 3 (x3.map encLs)] = (xs.set i ⟨x0, x1, x2, x3⟩).map encWd := set_map encWd xs i ⟨x0, x1, x2, x3⟩ rfl
def owIm (a : Im) : AV := .agg [.t (.v (.int .i64 a.id)), .t (.v (.string a.frm.user)), .t (.v (.string a.frm.domain)), .o true 4 (a.to.map encRc), .o true 1 (a.body.map encStr)]
def owImD : AV → Option Im
  | .agg [.t (.v (.int .i64 x0)), .t (.v (.string x1)), .t (.v (.string x2)), x3, x4] => mkIm x0 x1 x2 (ERc.owD true 4 x3) (EStr.owD true 1 x4)
  | _ => none
def AIm : AD Im where
  enc := owIm
  dec := owImD
  ed := fun a => by
    show mkIm a.id a.frm.user a.frm.domain (ERc.owD true 4 ((ERc.aow true 4).enc a.to)) (EStr.owD true 1 ((EStr.aow true 1).enc a.body)) = _
    rw [show ERc.owD true 4 ((ERc.aow true 4).enc a.to) = some a.to from (ERc.aow true 4).ed _, show EStr.owD true 1 ((EStr.aow true 1).enc a.body) = some a.body from (EStr.aow true 1).ed _]
    rfl
  de := fun x m h => by
    unfold owImD at h
    split at h
    · unfold mkIm at h
      split at h
      · rename_i e0 e1
        cases h
        have q0 := (ERc.aow true 4).de _ _ e0
        subst q0
        have q1 := (EStr.aow true 1).de _ _ e1
        subst q1
        rfl
      · cases h
    · cases h
theorem AIm_enc (a : Im) : AIm.enc a = .agg [.t (.v (.int .i64 a.id)), .t (.v (.string a.frm.user)), .t (.v (.string a.frm.domain)), .o true 4 (a.to.map encRc), .o true 1 (a.body.map encStr)] := rfl
theorem AIm_dec {x0 : Int} {x1 : ByteArray} {x2 : ByteArray} {x3 : List (List T)} {x4 : List (List T)} : AIm.dec (.agg [.t (.v (.int .i64 x0)), .t (.v (.string x1)), .t (.v (.string x2)), .o true 4 x3, .o true 1 x4]) = mkIm x0 x1 x2 (ERc.decL x3) (EStr.decL x4) := rfl
theorem owIm_eq (a : Im) : owIm a = .agg [.t (.v (.int .i64 a.id)), .t (.v (.string a.frm.user)), .t (.v (.string a.frm.domain)), .o true 4 (a.to.map encRc), .o true 1 (a.body.map encStr)] := rfl
theorem owIm_solid (a : Im) : Solid (owIm a) := .agg _ fun c hc => by
  simp only [List.mem_cons, List.not_mem_nil, or_false] at hc
  rcases hc with rfl | rfl | rfl | rfl | rfl
  · exact .v _
  · exact .v _
  · exact .v _
  · exact .deep _ _
  · exact .deep _ _
def owSp (a : Sp) : AV := .agg [.t (.v (.int .i64 a.last)), .o true 5 (a.items.map encIm)]
def owSpD : AV → Option Sp
  | .agg [.t (.v (.int .i64 x0)), x1] => mkSp x0 (EIm.owD true 5 x1)
  | _ => none
def ASp : AD Sp where
  enc := owSp
  dec := owSpD
  ed := fun a => by
    show mkSp a.last (EIm.owD true 5 ((EIm.aow true 5).enc a.items)) = _
    rw [show EIm.owD true 5 ((EIm.aow true 5).enc a.items) = some a.items from (EIm.aow true 5).ed _]
    rfl
  de := fun x m h => by
    unfold owSpD at h
    split at h
    · unfold mkSp at h
      split at h
      · rename_i e0
        cases h
        have q0 := (EIm.aow true 5).de _ _ e0
        subst q0
        rfl
      · cases h
    · cases h
theorem ASp_enc (a : Sp) : ASp.enc a = .agg [.t (.v (.int .i64 a.last)), .o true 5 (a.items.map encIm)] := rfl
theorem ASp_dec {x0 : Int} {x1 : List (List T)} : ASp.dec (.agg [.t (.v (.int .i64 x0)), .o true 5 x1]) = mkSp x0 (EIm.decL x1) := rfl
theorem owSp_eq (a : Sp) : owSp a = .agg [.t (.v (.int .i64 a.last)), .o true 5 (a.items.map encIm)] := rfl
theorem owSp_solid (a : Sp) : Solid (owSp a) := .agg _ fun c hc => by
  simp only [List.mem_cons, List.not_mem_nil, or_false] at hc
  rcases hc with rfl | rfl
  · exact .v _
  · exact .deep _ _
def owCf (a : Cf) : AV := .agg [.t (.v (.string a.name)), .o true 1 (a.own.map encStr), .o true 2 (a.ways.map encWy)]
def owCfD : AV → Option Cf
  | .agg [.t (.v (.string x0)), x1, x2] => mkCf x0 (EStr.owD true 1 x1) (EWy.owD true 2 x2)
  | _ => none
def ACf : AD Cf where
  enc := owCf
  dec := owCfD
  ed := fun a => by
    show mkCf a.name (EStr.owD true 1 ((EStr.aow true 1).enc a.own)) (EWy.owD true 2 ((EWy.aow true 2).enc a.ways)) = _
    rw [show EStr.owD true 1 ((EStr.aow true 1).enc a.own) = some a.own from (EStr.aow true 1).ed _, show EWy.owD true 2 ((EWy.aow true 2).enc a.ways) = some a.ways from (EWy.aow true 2).ed _]
    rfl
  de := fun x m h => by
    unfold owCfD at h
    split at h
    · unfold mkCf at h
      split at h
      · rename_i e0 e1
        cases h
        have q0 := (EStr.aow true 1).de _ _ e0
        subst q0
        have q1 := (EWy.aow true 2).de _ _ e1
        subst q1
        rfl
      · cases h
    · cases h
theorem ACf_enc (a : Cf) : ACf.enc a = .agg [.t (.v (.string a.name)), .o true 1 (a.own.map encStr), .o true 2 (a.ways.map encWy)] := rfl
theorem ACf_dec {x0 : ByteArray} {x1 : List (List T)} {x2 : List (List T)} : ACf.dec (.agg [.t (.v (.string x0)), .o true 1 x1, .o true 2 x2]) = mkCf x0 (EStr.decL x1) (EWy.decL x2) := rfl
theorem owCf_eq (a : Cf) : owCf a = .agg [.t (.v (.string a.name)), .o true 1 (a.own.map encStr), .o true 2 (a.ways.map encWy)] := rfl
theorem owCf_solid (a : Cf) : Solid (owCf a) := .agg _ fun c hc => by
  simp only [List.mem_cons, List.not_mem_nil, or_false] at hc
  rcases hc with rfl | rfl | rfl
  · exact .v _
  · exact .deep _ _
  · exact .deep _ _
def owGm (a : Gm) : AV := .agg [.t (.v (.string a.frm.user)), .t (.v (.string a.frm.domain)), .o true 1 (a.body.map encStr)]
def owGmD : AV → Option Gm
  | .agg [.t (.v (.string x0)), .t (.v (.string x1)), x2] => mkGm x0 x1 (EStr.owD true 1 x2)
  | _ => none
def AGm : AD Gm where
  enc := owGm
  dec := owGmD
  ed := fun a => by
    show mkGm a.frm.user a.frm.domain (EStr.owD true 1 ((EStr.aow true 1).enc a.body)) = _
    rw [show EStr.owD true 1 ((EStr.aow true 1).enc a.body) = some a.body from (EStr.aow true 1).ed _]
    rfl
  de := fun x m h => by
    unfold owGmD at h
    split at h
    · unfold mkGm at h
      split at h
      · rename_i e0
        cases h
        have q0 := (EStr.aow true 1).de _ _ e0
        subst q0
        rfl
      · cases h
    · cases h
theorem AGm_enc (a : Gm) : AGm.enc a = .agg [.t (.v (.string a.frm.user)), .t (.v (.string a.frm.domain)), .o true 1 (a.body.map encStr)] := rfl
theorem AGm_dec {x0 : ByteArray} {x1 : ByteArray} {x2 : List (List T)} : AGm.dec (.agg [.t (.v (.string x0)), .t (.v (.string x1)), .o true 1 x2]) = mkGm x0 x1 (EStr.decL x2) := rfl
theorem owGm_eq (a : Gm) : owGm a = .agg [.t (.v (.string a.frm.user)), .t (.v (.string a.frm.domain)), .o true 1 (a.body.map encStr)] := rfl
theorem owGm_solid (a : Gm) : Solid (owGm a) := .agg _ fun c hc => by
  simp only [List.mem_cons, List.not_mem_nil, or_false] at hc
  rcases hc with rfl | rfl | rfl
  · exact .v _
  · exact .v _
  · exact .deep _ _
def owBx (a : Bx) : AV := .agg [.t (.v (.string a.addr.user)), .t (.v (.string a.addr.domain)), .o true 3 (a.mails.map encGm)]
def owBxD : AV → Option Bx
  | .agg [.t (.v (.string x0)), .t (.v (.string x1)), x2] => mkBx x0 x1 (EGm.owD true 3 x2)
  | _ => none
def ABx : AD Bx where
  enc := owBx
  dec := owBxD
  ed := fun a => by
    show mkBx a.addr.user a.addr.domain (EGm.owD true 3 ((EGm.aow true 3).enc a.mails)) = _
    rw [show EGm.owD true 3 ((EGm.aow true 3).enc a.mails) = some a.mails from (EGm.aow true 3).ed _]
    rfl
  de := fun x m h => by
    unfold owBxD at h
    split at h
    · unfold mkBx at h
      split at h
      · rename_i e0
        cases h
        have q0 := (EGm.aow true 3).de _ _ e0
        subst q0
        rfl
      · cases h
    · cases h
theorem ABx_enc (a : Bx) : ABx.enc a = .agg [.t (.v (.string a.addr.user)), .t (.v (.string a.addr.domain)), .o true 3 (a.mails.map encGm)] := rfl
theorem ABx_dec {x0 : ByteArray} {x1 : ByteArray} {x2 : List (List T)} : ABx.dec (.agg [.t (.v (.string x0)), .t (.v (.string x1)), .o true 3 x2]) = mkBx x0 x1 (EGm.decL x2) := rfl
theorem owBx_eq (a : Bx) : owBx a = .agg [.t (.v (.string a.addr.user)), .t (.v (.string a.addr.domain)), .o true 3 (a.mails.map encGm)] := rfl
theorem owBx_solid (a : Bx) : Solid (owBx a) := .agg _ fun c hc => by
  simp only [List.mem_cons, List.not_mem_nil, or_false] at hc
  rcases hc with rfl | rfl | rfl
  · exact .v _
  · exact .v _
  · exact .deep _ _
def owHs (a : Hs) : AV := .agg [.t (.v (.string a.conf.name)), .o true 1 (a.conf.own.map encStr), .o true 2 (a.conf.ways.map encWy), .t (.v (.int .i64 a.spool.last)), .o true 5 (a.spool.items.map encIm), .o true 3 (a.boxes.map encBx), .o true 3 (a.lost.map encLs)]
def owHsD : AV → Option Hs
  | .agg [.t (.v (.string x0)), x1, x2, .t (.v (.int .i64 x3)), x4, x5, x6] => mkHs x0 x3 (EStr.owD true 1 x1) (EWy.owD true 2 x2) (EIm.owD true 5 x4) (EBx.owD true 3 x5) (ELs.owD true 3 x6)
  | _ => none
def AHs : AD Hs where
  enc := owHs
  dec := owHsD
  ed := fun a => by
    show mkHs a.conf.name a.spool.last (EStr.owD true 1 ((EStr.aow true 1).enc a.conf.own)) (EWy.owD true 2 ((EWy.aow true 2).enc a.conf.ways)) (EIm.owD true 5 ((EIm.aow true 5).enc a.spool.items)) (EBx.owD true 3 ((EBx.aow true 3).enc a.boxes)) (ELs.owD true 3 ((ELs.aow true 3).enc a.lost)) = _
    rw [show EStr.owD true 1 ((EStr.aow true 1).enc a.conf.own) = some a.conf.own from (EStr.aow true 1).ed _, show EWy.owD true 2 ((EWy.aow true 2).enc a.conf.ways) = some a.conf.ways from (EWy.aow true 2).ed _, show EIm.owD true 5 ((EIm.aow true 5).enc a.spool.items) = some a.spool.items from (EIm.aow true 5).ed _, show EBx.owD true 3 ((EBx.aow true 3).enc a.boxes) = some a.boxes from (EBx.aow true 3).ed _, show ELs.owD true 3 ((ELs.aow true 3).enc a.lost) = some a.lost from (ELs.aow true 3).ed _]
    rfl
  de := fun x m h => by
    unfold owHsD at h
    split at h
    · unfold mkHs at h
      split at h
      · rename_i e0 e1 e2 e3 e4
        cases h
        have q0 := (EStr.aow true 1).de _ _ e0
        subst q0
        have q1 := (EWy.aow true 2).de _ _ e1
        subst q1
        have q2 := (EIm.aow true 5).de _ _ e2
        subst q2
        have q3 := (EBx.aow true 3).de _ _ e3
        subst q3
        have q4 := (ELs.aow true 3).de _ _ e4
        subst q4
        rfl
      · cases h
    · cases h
theorem AHs_enc (a : Hs) : AHs.enc a = .agg [.t (.v (.string a.conf.name)), .o true 1 (a.conf.own.map encStr), .o true 2 (a.conf.ways.map encWy), .t (.v (.int .i64 a.spool.last)), .o true 5 (a.spool.items.map encIm), .o true 3 (a.boxes.map encBx), .o true 3 (a.lost.map encLs)] := rfl
theorem AHs_dec {x0 : ByteArray} {x1 : List (List T)} {x2 : List (List T)} {x3 : Int} {x4 : List (List T)} {x5 : List (List T)} {x6 : List (List T)} : AHs.dec (.agg [.t (.v (.string x0)), .o true 1 x1, .o true 2 x2, .t (.v (.int .i64 x3)), .o true 5 x4, .o true 3 x5, .o true 3 x6]) = mkHs x0 x3 (EStr.decL x1) (EWy.decL x2) (EIm.decL x4) (EBx.decL x5) (ELs.decL x6) := rfl
theorem owHs_eq (a : Hs) : owHs a = .agg [.t (.v (.string a.conf.name)), .o true 1 (a.conf.own.map encStr), .o true 2 (a.conf.ways.map encWy), .t (.v (.int .i64 a.spool.last)), .o true 5 (a.spool.items.map encIm), .o true 3 (a.boxes.map encBx), .o true 3 (a.lost.map encLs)] := rfl
theorem owHs_solid (a : Hs) : Solid (owHs a) := .agg _ fun c hc => by
  simp only [List.mem_cons, List.not_mem_nil, or_false] at hc
  rcases hc with rfl | rfl | rfl | rfl | rfl | rfl | rfl
  · exact .v _
  · exact .deep _ _
  · exact .deep _ _
  · exact .v _
  · exact .deep _ _
  · exact .deep _ _
  · exact .deep _ _
def owWd (a : Wd) : AV := .agg [.o true 7 (a.hosts.map encHs), .t (.v (.int .i64 a.now)), .t (.v (.int .i64 a.marks)), .o true 3 (a.given.map encLs)]
def owWdD : AV → Option Wd
  | .agg [x0, .t (.v (.int .i64 x1)), .t (.v (.int .i64 x2)), x3] => mkWd x1 x2 (EHs.owD true 7 x0) (ELs.owD true 3 x3)
  | _ => none
def AWd : AD Wd where
  enc := owWd
  dec := owWdD
  ed := fun a => by
    show mkWd a.now a.marks (EHs.owD true 7 ((EHs.aow true 7).enc a.hosts)) (ELs.owD true 3 ((ELs.aow true 3).enc a.given)) = _
    rw [show EHs.owD true 7 ((EHs.aow true 7).enc a.hosts) = some a.hosts from (EHs.aow true 7).ed _, show ELs.owD true 3 ((ELs.aow true 3).enc a.given) = some a.given from (ELs.aow true 3).ed _]
    rfl
  de := fun x m h => by
    unfold owWdD at h
    split at h
    · unfold mkWd at h
      split at h
      · rename_i e0 e1
        cases h
        have q0 := (EHs.aow true 7).de _ _ e0
        subst q0
        have q1 := (ELs.aow true 3).de _ _ e1
        subst q1
        rfl
      · cases h
    · cases h
theorem AWd_enc (a : Wd) : AWd.enc a = .agg [.o true 7 (a.hosts.map encHs), .t (.v (.int .i64 a.now)), .t (.v (.int .i64 a.marks)), .o true 3 (a.given.map encLs)] := rfl
theorem AWd_dec {x0 : List (List T)} {x1 : Int} {x2 : Int} {x3 : List (List T)} : AWd.dec (.agg [.o true 7 x0, .t (.v (.int .i64 x1)), .t (.v (.int .i64 x2)), .o true 3 x3]) = mkWd x1 x2 (EHs.decL x0) (ELs.decL x3) := rfl
theorem owWd_eq (a : Wd) : owWd a = .agg [.o true 7 (a.hosts.map encHs), .t (.v (.int .i64 a.now)), .t (.v (.int .i64 a.marks)), .o true 3 (a.given.map encLs)] := rfl
theorem owWd_solid (a : Wd) : Solid (owWd a) := .agg _ fun c hc => by
  simp only [List.mem_cons, List.not_mem_nil, or_false] at hc
  rcases hc with rfl | rfl | rfl | rfl
  · exact .deep _ _
  · exact .v _
  · exact .v _
  · exact .deep _ _
end Go.V
namespace Go.V
open Go Go.Proofs
set_option maxRecDepth 100000
set_option linter.unusedSimpArgs false
set_option linter.unusedVariables false
attribute [local go_sem] aPickB.eq_1 aPickB.eq_2 aPick.eq_1 aBox.eq_1 aBox.eq_2 aAlloc.eq_1 aAlloc.eq_2 aLoadB.eq_1 aLoadB.eq_2 aLoadB.eq_3 aLoadB.eq_4 aLoadB.eq_5 aLoadA.eq_1 aLoadA.eq_2 aLoadA.eq_3 aLoadA.eq_4 aLoadA.eq_5 aLoadP.eq_1 aLoadP.eq_2 aLoadP.eq_3 aLoad.eq_1 aLoad.eq_2 aFAx.eq_1 aFAx.eq_2 aFAx.eq_3 aFA.eq_1 aFA.eq_2 aFx.eq_1 aF.eq_1 aF.eq_2 fld.eq_1 elT.eq_1 aIdxH.eq_1 aIdxH.eq_2 aIdxH.eq_3 aIdxH.eq_4 aIdxH.eq_5 aIdxP.eq_1 aIdxP.eq_2 aIndexAddr.eq_1 aIndexAddr.eq_2 aIndexAddr.eq_3 isStr.eq_1 aIndex.eq_1 aSlStr.eq_1 aSlRo.eq_1 aSlZ.eq_1 aSlZ.eq_2 aSlice.eq_1 aSlice.eq_2 aSlice.eq_3 bnd.eq_1 bnd.eq_2 aBuildO.eq_1 aBuildO.eq_2 aBuild.eq_1 aNewArr.eq_1 aNewArr.eq_2 aBS.eq_1 aBS.eq_2 aBuildSlice.eq_1 aBuildSlice.eq_2 aMakeSlice.eq_1 appDeep.eq_1 aApp2.eq_1 aAppend.eq_1 aAppend.eq_2 aStoreB.eq_1 aStoreA.eq_1 obFlat.eq_1 aStore2.eq_1 aStore2.eq_2 aStoreP.eq_1 aStoreP.eq_2 aStore.eq_1 aStore.eq_2 isShl.eq_1 isShl.eq_2 isBool.eq_1 aBinI.eq_1 aBinI.eq_2 aBinB.eq_1 aBinB.eq_2 aEq.eq_1 aEq.eq_2 aEq.eq_3 aEq.eq_4 aEqG.eq_1 aEqG.eq_2 aBin.eq_1 aBin.eq_2 aBin.eq_3 aBin.eq_4 aUn.eq_1 aUn.eq_2 aLenO.eq_1 aLenS.eq_1 aLenS.eq_2 aLenS.eq_3 aLenT.eq_1 aLen.eq_1 aLen.eq_2 aLen.eq_3 bytesOb.eq_1 bytesOb.eq_2 bytesOf.eq_1 bytesOf.eq_2 aNums.eq_1 aNums.eq_2 isU8.eq_1 aCvI.eq_1 aCvS.eq_1 aCvB.eq_1 aCvB.eq_2 aCvT.eq_1 aConv.eq_1 aConv.eq_2 aConv.eq_3 aConv.eq_4 aExO.eq_1 aExO.eq_2 aExtract.eq_1 aNil.eq_1 aNil.eq_2 aNil.eq_3 aCallS.eq_1 aCallS.eq_2 aCallR.eq_1 aCallR.eq_2 aCallK.eq_1 aCallK.eq_2 aCallK.eq_3 aCall.eq_1 aCall.eq_2 takeO.eq_1 AS.takeV.eq_1 AS.takeV.eq_2 AS.takeV.eq_3 AS.takeV.eq_4 AS.takeV.eq_5 AS.takeV.eq_6 AS.takeV.eq_7 AV.oldM.eq_1 AV.oldM.eq_2 AV.oldM.eq_3 AV.oldM.eq_4 AV.oldM.eq_5 AV.oldM.eq_6 AV.oldM.eq_7 AV.oldM.eq_8 AV.oldM.eq_9 AV.oldM.eq_10 AV.oldM.eq_11 AV.oldML.eq_1 AV.oldML.eq_2 subL.eq_1 subL.eq_2 back.eq_1 back.eq_2 back.eq_3 back.eq_4 backL.eq_1 backI.eq_1 backI.eq_2 backI.eq_3 backI.eq_4 backIL.eq_1 aBuiltin.eq_1 aBuiltin.eq_2 aBuiltin.eq_3 aCallee.eq_1 aCallee.eq_2 aCallee.eq_3 abin.eq_1 abin.eq_2 abin.eq_3 abin.eq_4 abin.eq_5 abin.eq_6 abin.eq_7 abin.eq_8 abin.eq_9 abin.eq_10 abin.eq_11 abin.eq_12 abin.eq_13 abin.eq_14 abin.eq_15 abin.eq_17 abin.eq_18 abin.eq_19 abin.eq_20 abin.eq_21 abin.eq_22 abin.eq_23 AS.ev.eq_1 AS.ev.eq_2 AS.ev.eq_3 AS.ev.eq_4 AS.evs.eq_1 AS.evs.eq_2 AS.evp.eq_1 AS.evp.eq_2 AS.put.eq_1 AS.put.eq_2 AS.remL.eq_1 AS.remL.eq_2 AV.has.eq_1 AV.has.eq_2 AV.has.eq_3 AV.has.eq_4 AV.has.eq_5 AV.has.eq_6 AV.has.eq_7 AV.has.eq_8 AV.has.eq_9 AV.has.eq_10 AV.has.eq_11 AV.hasL.eq_1 AV.hasL.eq_2 Ob.drop.eq_1 Ob.drop.eq_2 Ob.drop.eq_3 Ob.drop.eq_4 AV.cells.eq_1 AV.cells.eq_2 AV.cells.eq_3 AV.cells.eq_4 AV.cells.eq_5 AS.snapT.eq_1 AS.snapT.eq_2 AS.snapT.eq_3 AS.snapT.eq_4 AS.snapT.eq_5 AS.snapT.eq_6 AS.snapT.eq_7 AS.snap.eq_1 AS.snap.eq_2 mapO.eq_1 mapO.eq_2 intern.eq_1 intern.eq_2 intern.eq_3 intern.eq_4 intern.eq_5 intern.eq_6 intern.eq_7 intern.eq_8 intern.eq_9 intern.eq_10 intern.eq_11 internL.eq_1 internL.eq_2 zipSl.eq_1 zipSl.eq_2 AV.ids.eq_1 AV.ids.eq_2 AV.ids.eq_3 AV.ids.eq_4 AV.ids.eq_5 AV.ids.eq_6 AV.ids.eq_7 AV.ids.eq_8 AV.ids.eq_9 AV.ids.eq_10 AV.ids.eq_11 AV.idsL.eq_1 AV.idsL.eq_2 AV.sub.eq_1 AV.sub.eq_2 AV.sub.eq_3 AV.sub.eq_4 AV.sub.eq_5 AV.sub.eq_6 AV.sub.eq_7 AV.sub.eq_8 AV.sub.eq_9 AV.sub.eq_10 AV.sub.eq_11 AV.subL.eq_1 AV.subL.eq_2 AS.frzL.eq_1 AS.frzL.eq_2 AS.absT.eq_1 AS.absT.eq_2 AS.absT.eq_4 AS.absL.eq_1 AS.absL.eq_2 AS.absOk.eq_1 AS.absOkL.eq_1 AS.absOkL.eq_2 hid.eq_1 hids.eq_1 hids.eq_2 AS.appBase.eq_1 AS.appBase.eq_2 AS.appSrc.eq_1 appFits.eq_1 appFits.eq_2 appFits.eq_3 avFill.eq_1 avFill.eq_2 avc.eq_1 avc.eq_2 avc1.eq_1 Kd.agg.eq_1 Kd.agg.eq_2 okR.eq_1 okR.eq_2 okR.eq_3 okR.eq_4 okR.eq_5 okR.eq_6 okR.eq_7 okR.eq_8 zt.eq_1 rvB.eq_1 rvP.eq_1 rvA.eq_1 rvA.eq_2 rv1.eq_1 outTO.eq_1 outT.eq_1 outT.eq_2 outT.eq_3 outTn.eq_1 outOO.eq_1 outO.eq_1 outO.eq_2 boxOf.eq_1 outP.eq_1 outP.eq_2 outP.eq_3 outP.eq_4 outP.eq_5 outP.eq_6 outP.eq_7 outP.eq_8 outPL.eq_1 outPL.eq_2 outI.eq_1 outI.eq_2 outI.eq_3 outI.eq_4 outI.eq_5 outIL.eq_1 outZ.eq_1 outZ.eq_2 outZ.eq_3 outZ.eq_4 outZ.eq_5 outZL.eq_1 finO.eq_1 finO.eq_2 fin.eq_1 fin.eq_2 fin.eq_3 cellAV.eq_1 cellAV.eq_2 numsOf.eq_1 numsOf.eq_2 aop.eq_1 aop.eq_2 aop.eq_3 aop.eq_4 aop.eq_5 aop.eq_6 aop.eq_7 aop.eq_8 aop.eq_9 aop.eq_10 aop.eq_11 aop.eq_12 aop.eq_13 aop.eq_14 aop.eq_15 aop.eq_16 aop.eq_17 aop.eq_18 aop.eq_19 aop.eq_20 aop.eq_21 aop.eq_22 aop.eq_23 aop.eq_24 aop.eq_25 aop.eq_26 tmpsOf.eq_1 tmpsOf.eq_2 tmpsOf.eq_3 tmpsOf.eq_4 tmpsOf.eq_5 AV.refs.eq_1 AV.refs.eq_2 AV.refs.eq_3 AV.refs.eq_4 AV.refs.eq_5 AV.refs.eq_6 AV.refs.eq_7 AV.refs.eq_8 AV.refs.eq_9 AV.refs.eq_10 AV.refs.eq_11 AV.refsL.eq_1 AV.refsL.eq_2 refsT.eq_1 refsT.eq_2 refsO.eq_1 refsO.eq_2 refsO.eq_3 refsO.eq_4 refsO.eq_5 refsO.eq_6 refsB.eq_1 refsB.eq_2 clos.eq_1 clos.eq_2 keepL.eq_1 keepL.eq_2 AV.hasM.eq_1 AV.hasM.eq_2 AV.hasM.eq_3 AV.hasM.eq_4 AV.hasM.eq_5 AV.hasM.eq_6 AV.hasM.eq_7 AV.hasM.eq_8 AV.hasM.eq_9 AV.hasM.eq_10 AV.hasM.eq_11 AV.hasML.eq_1 AV.hasML.eq_2 Ob.dropM.eq_1 Ob.dropM.eq_2 Ob.dropM.eq_3 Ob.dropM.eq_4 nsC.eq_1 nsC.eq_2 okGuard.eq_1 okGuard.eq_2 AS.purges.eq_1 AS.purges.eq_2 dropMB.eq_1 dropMB.eq_2 newB.eq_1 newB.eq_2 ptB.eq_1 ptB.eq_2 lookC.eq_1 lookC.eq_2 dropB.eq_1 dropB.eq_2 leS.eq_1 leS.eq_2 leT.eq_1 leT.eq_2 AS.mvs.eq_1 AS.mvs.eq_2 AS.mvA.eq_1 AS.mvA.eq_2 AS.mvB.eq_1 aSetO.eq_1 aSetO.eq_2 aSh.eq_1 aSh.eq_2 arK.eq_1 aIdxA.eq_1 aIdxA.eq_2 arT.eq_1 aSlHB.eq_1 aSlHB.eq_2 aSlHO.eq_1 aSlHZ.eq_1 aSlHZ.eq_2 isSlT.eq_1 isNilC.eq_1 aNilO.eq_1 aNilX.eq_1 aNilX.eq_2 aNilX.eq_3 aNilC.eq_1 aNilC.eq_2 aBinQ.eq_1 aBinQ.eq_2 aMin.eq_1 flT.eq_1 flT.eq_2 flT.eq_3 mpT.eq_1 aMkMap.eq_1 aMkMap.eq_2 strA.eq_1 keyMK.eq_1 keyMK.eq_2 keyMK.eq_3 mkB.eq_1 mkB.eq_2 mkB.eq_3 aMp2.eq_1 aMp1.eq_1 aMp0.eq_1 aMapU.eq_1 aLk2.eq_1 aLk2.eq_2 aLk1.eq_1 aLk0.eq_1 aLookup.eq_1 aLenMO.eq_1 aLenM.eq_1 glV.eq_1 glV.eq_2 evG.eq_1 evG.eq_2 evG.eq_3 evG.eq_4 lkHitO.eq_1 lkHitO.eq_2 lkHitO.eq_3 lkHitO.eq_4 lkHit.eq_1 lkHit.eq_2 lkF.eq_1 lkF.eq_2 lkFind.eq_1 lkFind.eq_2 lkV.eq_1 lkV.eq_2 lkV.eq_3 lkV.eq_4 lkV.eq_5 AS.lkO.eq_1 AS.lkO.eq_2 AS.lkOf.eq_1 rawT.eq_1 rawT.eq_2 rawT.eq_3 rawT.eq_4 rawT.eq_5 rawT.eq_6 rawOf.eq_1 rawOf.eq_2 rawOf.eq_3 rawOf.eq_4 rawOf.eq_5 rawOf.eq_6 rawOf.eq_7 rawOf.eq_8 rawOf.eq_9 rawOf.eq_10 rawOf.eq_11 aLkR.eq_1 aLkR.eq_2 aLk.eq_1 aLk.eq_2 KL.eq_1 lkDrop.eq_1 lkDrop.eq_2 lkParO.eq_1 lkParO.eq_2 lkParO.eq_3 lkParO.eq_4 lkPar.eq_1 lkPar.eq_2 lkI.eq_1 lkI.eq_2 lkIds.eq_1 lkIds.eq_2 adLd.eq_1 run_nil run_b run_l run_skip run_label run_seq run_cond brV_b brB_t brB_f run_block run_exit run_ret run_region runX_nil runX_c runX_c' runX_b runX_b' runX_l runX_l' exB_t exB_f run_o run_op run_opg gV_b gV_t gB_tt gB_ff gB_tf gB_ft rs_eq kv KI aLenN aBS1 aApp1 aStore1 szOk gv gd s0 idOf look_cons lookC frzU_t frzU_f orT orF drop_any drop_nil drop_t drop_h drop_pb drop_pa drop_agg drop_tup drop_fn dropB kill_eq set_eq rem_eq re_eq up_eq get_eq ob_eq Ob.drop apl fpl plainTy AS.frz splice cond_true cond_false List.map_cons List.map_nil List.drop_zero List.drop_succ_cons List.drop_nil List.take_zero List.take_succ_cons List.take_nil List.getElem?_cons_zero List.getElem?_cons_succ List.getElem?_nil List.length_cons List.length_nil Option.map_some Option.map_none Option.bind_some Option.bind_none List.cons_append List.nil_append List.append_nil Option.getD_some Option.getD_none List.all_cons List.all_nil Bool.and_true Bool.true_and Bool.or_false Bool.false_or Bool.or_true Bool.true_or List.flatten_cons List.flatten_nil List.replicate_succ List.replicate_zero and_true true_and avOf_t avOf_f agg_bool agg_int agg_str agg_slice agg_struct agg_func agg_ptr agg_map avc_bool avc_int avc_str avc_fn avc1_bool avc1_int avc1_str avc1_fn zt_bool zt_int zt_str cells_nil cells_t cells_h cells_pb cells_fn snap_t snap_nil snap_h snap_pb snap_fn rv1_one rv1_two outI_t outI_oh outI_on outI_any outI_nil outZ_th outZ_tt outZ_tn outZ_o outZ_any outZ_nil outIL_nil outZL_nil finN finR ne_eq not_false_eq_true not_true_eq_false List.nodup_nil List.not_mem_nil false_implies implies_true eq_self true_or or_true Option.some.injEq shl_add shl_sub shl_mul shl_quo shl_rem shl_and shl_or shl_xor shl_andNot shl_eql shl_neq shl_lss shl_leq shl_gtr shl_geq shl_shr shl_shl appDeep_none appDeep_sn appSrc_h appSrc_nil fits_ft fits_tn fits_tf isStr_slice obFlat_box Nat.le_refl nbeq_self List.length_map updZ_s updZ_n dropM_eq purge_eq newIds_cons newIds_nil purgeT_nil purgeT_cons memN_cons memN_nil bd_d bd_c bd_g bd_p bd_t bd_o preds_nil preds_cons hasIns insB List.any_cons List.any_nil adK_eq adr_nil adG_eq kdOp noLen creates Op.operands Call.operands nsOf adT adI adJ plainB rst List.append_eq nsD_f nsD_n nsD_t nOf_0 nOf_1 nOf_2 chO_0 chO_1 chO_2 keepK_0 keepK_1 keepK_2 eqRes AS.mv fits KM aCallM notNew kdCall arK_i64 arK_i32 arK_u8 arK_u64 arT_sl isNilC_t isNilC_f isNilC_g isNilC_i isNilC_b isNilC_s isNilC_a isNilC_n andBF andBT aCallK_2 ble_dec hid_t hid_nil hid_any hid_pb hid_fn absOk_t absOk_nil absOk_pb absOk_h absOkO_1 decide_true decide_false Array.toList_append chunk_0 chunk_1 chunk_2 chunk_3 back_t back_nil back_ht backL_nil backI_t backI_nil backI_ht backIL_nil AS.mvJ nbeq_dec runR_f runR_t loadB Option.isSome_some Option.isSome_none nodup1 adr_none adr_some adO_s adV_b adV_t adB_tt adB_ff adB_tf adB_ft adS_eq lenL.eq_1 lenO.eq_1 lenO.eq_2 lenV.eq_1 lenV.eq_2 lenV.eq_3 lenV.eq_4 optN optS absT_ft
attribute [local go_sem] ty3 ty4 ty5 ty9 ty21 ty22 ty23 ty25 ty27 ty28 ty29 ty31 ty33 ty43 ty45 ty46 ty48 ty54 ty57 ty59 ty60 ty62 ty73 ty75 ty91 ty96 ty98 ty101 ty104 ty120 ty125 ty129 ty146 ty166 ty207 ty220 ty237 lv27 lv91 lv104 lv120 zb4 leS leT fits AS.mvs encStr_eq aIdx_str EStr_dec decStrs decStrs0 EStr_enc EStr_n encInt_eq aIdx_int EInt_dec decInts decInts0 EInt_enc EInt_n AllV_Int len_Int lc_enc l0_enc asl_enc ag_enc aow_enc ABool_enc AInt_enc AStr_enc AU8_enc ABool_dec AInt_dec AStr_dec AU8_dec asl_dec ag_dec aow_dec bind_some pr2.eq_1 l0_nil lc_cons unT.eq_1 K0.eq_1 M0.eq_1 KI AllV_Str len_Str ctR_eq ctM_eq ro_kd ro_ro mu_kd mu_mu encAd_eq aIdx_Ad EAd_dec decAds decAds0 EAd_enc EAd_n len_Ad Ad_eta AllV_Ad encRc_eq aIdx_Rc ERc_dec decRcs decRcs0 ERc_enc ERc_n len_Rc Rc_eta AllV_Rc encIm_eq aIdx_Im EIm_dec decIms decIms0 EIm_enc EIm_n len_Im Im_eta mkIm.eq_1 owIm_eq AIm_enc AIm_dec encSp_eq aIdx_Sp ESp_dec decSps decSps0 ESp_enc ESp_n len_Sp Sp_eta mkSp.eq_1 owSp_eq ASp_enc ASp_dec encWy_eq aIdx_Wy EWy_dec decWys decWys0 EWy_enc EWy_n len_Wy Wy_eta AllV_Wy encCf_eq aIdx_Cf ECf_dec decCfs decCfs0 ECf_enc ECf_n len_Cf Cf_eta mkCf.eq_1 owCf_eq ACf_enc ACf_dec encGm_eq aIdx_Gm EGm_dec decGms decGms0 EGm_enc EGm_n len_Gm Gm_eta mkGm.eq_1 owGm_eq AGm_enc AGm_dec encBx_eq aIdx_Bx EBx_dec decBxs decBxs0 EBx_enc EBx_n len_Bx Bx_eta mkBx.eq_1 owBx_eq ABx_enc ABx_dec encLs_eq aIdx_Ls ELs_dec decLss decLss0 ELs_enc ELs_n len_Ls Ls_eta AllV_Ls encHs_eq aIdx_Hs EHs_dec decHss decHss0 EHs_enc EHs_n len_Hs Hs_eta mkHs.eq_1 owHs_eq AHs_enc AHs_dec encWd_eq aIdx_Wd EWd_dec decWds decWds0 EWd_enc EWd_n len_Wd Wd_eta mkWd.eq_1 owWd_eq AWd_enc AWd_dec
def szStr (b : ByteArray) (l : Int) : Int := l - b.size
def szF {α : Type} (f : α → Int → Int) (l : Int) : List α → Int
  | [] => l
  | x :: r => if f x l < 0 then -1 else szF f (f x l) r
def szL {α : Type} (f : α → Int → Int) (xs : List α) (l : Int) : Int := if l - xs.length < 0 then -1 else szF f (l - xs.length) xs
def smaller {α : Type} (f : α → Int → Int) : Prop := ∀ x l, f x l < 0 ∨ f x l ≤ l
theorem szStr_le : smaller szStr := fun a l => by unfold szStr; omega
theorem szF_le {α : Type} {f : α → Int → Int} (hf : smaller f) : ∀ (xs : List α) (l : Int), szF f l xs < 0 ∨ szF f l xs ≤ l
  | [], l => .inr (Int.le_refl _)
  | x :: r, l => by
    unfold szF
    split
    · exact .inl (by omega)
    · rename_i h
      rcases szF_le hf r (f x l) with h1 | h1
      · exact .inl h1
      · rcases hf x l with h2 | h2
        · omega
        · exact .inr (by omega)
theorem szL_le {α : Type} {f : α → Int → Int} (hf : smaller f) (xs : List α) (l : Int) : szL f xs l < 0 ∨ (szL f xs l ≤ l ∧ (xs.length : Int) ≤ l) := by
  unfold szL
  split
  · exact .inl (by omega)
  · rcases szF_le hf xs (l - xs.length) with h | h
    · exact .inl h
    · exact .inr ⟨by omega, by omega⟩
theorem szF_step {α : Type} [Inhabited α] {f : α → Int → Int} {xs : List α} {l : Int} {i : Nat} (h : i < xs.length) : szF f l (xs.drop i) = if f (xs.getD i default) l < 0 then -1 else szF f (f (xs.getD i default) l) (xs.drop (i + 1)) := by
  rw [getD_drop h]; rfl
theorem szF_end {α : Type} {f : α → Int → Int} {xs : List α} {l : Int} {i : Nat} (h : xs.length ≤ i) : szF f l (xs.drop i) = l := by
  rw [List.drop_of_length_le h]; rfl
def OkStr (b : ByteArray) : Prop := b.size ≤ 1048576
def OkL {α : Type} (p : α → Prop) (xs : List α) : Prop := (xs.length : Int) ≤ 1048576 ∧ ∀ x ∈ xs, p x
theorem OkL.at {α : Type} [Inhabited α] {p : α → Prop} {xs : List α} (h : OkL p xs) {i : Nat} (hi : i < xs.length) : p (xs.getD i default) := h.2 _ (by simp [hi])
def szOkP {α : Type} (f : α → Int → Int) (p : α → Prop) : Prop := ∀ x l, 0 ≤ l → l ≤ 1048576 → 0 ≤ f x l → p x
theorem szStr_ok : szOkP szStr OkStr := fun x l h0 h1 h => by unfold szStr at h; unfold OkStr; omega
theorem szF_ok {α : Type} {f : α → Int → Int} {p : α → Prop} (hf : szOkP f p) (hl : smaller f) : ∀ (xs : List α) (l : Int), 0 ≤ l → l ≤ 1048576 → 0 ≤ szF f l xs → ∀ x ∈ xs, p x
  | [], _, _, _, _, x, hx => by cases hx
  | y :: r, l, h0, h1, h, x, hx => by
    unfold szF at h
    split at h
    · omega
    · rename_i h2
      cases hx with
      | head => exact hf _ l h0 h1 (by omega)
      | tail _ hx => exact szF_ok hf hl r (f y l) (by omega) (by rcases hl y l with h3 | h3 <;> omega) h x hx
theorem szL_ok {α : Type} {f : α → Int → Int} {p : α → Prop} (hf : szOkP f p) (hl : smaller f) : szOkP (szL f) (OkL p) := fun xs l h0 h1 h => by
  unfold szL at h
  split at h
  · omega
  · exact ⟨by omega, szF_ok hf hl xs _ (by omega) (by omega) h⟩
def OkAd (a : Ad) : Prop := OkStr a.user ∧ OkStr a.domain
def OkRc (a : Rc) : Prop := OkAd a.addr
def OkIm (a : Im) : Prop := OkAd a.frm ∧ OkL OkRc a.to ∧ OkL OkStr a.body
def OkSp (a : Sp) : Prop := OkL OkIm a.items
def OkWy (a : Wy) : Prop := OkStr a.ends ∧ OkStr a.to
def OkCf (a : Cf) : Prop := OkStr a.name ∧ OkL OkStr a.own ∧ OkL OkWy a.ways
def OkGm (a : Gm) : Prop := OkAd a.frm ∧ OkL OkStr a.body
def OkBx (a : Bx) : Prop := OkAd a.addr ∧ OkL OkGm a.mails
def OkLs (a : Ls) : Prop := OkStr a.mark ∧ OkAd a.addr
def OkHs (a : Hs) : Prop := OkCf a.conf ∧ OkSp a.spool ∧ OkL OkBx a.boxes ∧ OkL OkLs a.lost
def OkWd (a : Wd) : Prop := OkL OkHs a.hosts ∧ OkL OkLs a.given
def fillZ {α : Type} (z : List T) (enc : α → List T) (xs : List α) (i : Nat) : List (List T) := (xs.take i).map enc ++ List.replicate (xs.length - i) z
theorem fillZ_len {α : Type} {z : List T} {enc : α → List T} {xs : List α} {i : Nat} (h : i ≤ xs.length) : (fillZ z enc xs i).length = xs.length := by simp [fillZ]; omega
theorem fillZ_0 {α : Type} {z : List T} {enc : α → List T} {xs : List α} : fillZ z enc xs 0 = List.replicate xs.length z := by simp [fillZ]
theorem fillZ_end {α : Type} {z : List T} {enc : α → List T} {xs : List α} {i : Nat} (h : xs.length ≤ i) : fillZ z enc xs i = xs.map enc := by
  have : xs.length - i = 0 := by omega
  simp [fillZ, List.take_of_length_le h, this]
theorem fillZ_set {α : Type} [Inhabited α] {z : List T} {enc : α → List T} {xs : List α} {i : Nat} (h : i < xs.length) {c : List T} (hc : c = enc (xs.getD i default)) : (fillZ z enc xs i).set i c = fillZ z enc xs (i + 1) := by
  unfold fillZ
  rw [List.set_append_right _ _ (by simp; omega)]
  have e1 : ((xs.take i).map enc).length = i := by simp; omega
  rw [e1, Nat.sub_self, List.take_succ_eq_append_getElem h, List.map_append, List.append_assoc]
  congr 1
  rw [show xs.length - i = (xs.length - (i + 1)) + 1 from by omega, List.replicate_succ, List.set_cons_zero, hc]
  simp [h]
theorem aSet_fill {α : Type} {z : List T} {enc : α → List T} {xs : List α} {i : Nat} (hi : i < xs.length) (d : Bool) (n id j sz : Nat) (ys : List AV) (s : AS) (K : Kt) :
    aSet d n (fillZ z enc xs i) id i j sz ys s K = (ys.length = sz ∧ j + ys.length ≤ z.length ∧ aSetO d n (fillZ z enc xs i) id i j z ys s K (s.absL d ys)) := by
  have hg : (fillZ z enc xs i)[i]? = some z := by
    have e1 : ((xs.take i).map enc).length = i := by simp; omega
    unfold fillZ
    rw [List.getElem?_append_right (by omega), e1, Nat.sub_self, List.getElem?_replicate, if_pos (by omega)]
  unfold aSet
  apply propext
  constructor
  · rintro ⟨e', ts, he, h1, h2, h3, h4, h5, h6, hK⟩
    rw [hg] at he; cases he
    rw [h3]
    exact ⟨h1, h2, h4, h5, h6, hK⟩
  · rintro ⟨h1, h2, h3⟩
    cases hq : s.absL d ys with
    | none => rw [hq] at h3; exact h3.elim
    | some ts =>
      rw [hq] at h3
      obtain ⟨h4, h5, h6, hK⟩ := h3
      exact ⟨z, ts, hg, h1, h2, rfl, h4, h5, h6, hK⟩
theorem all_eq_of {α : Type} [Inhabited α] {xs ys : List α} (i : Nat) (hl : xs.length = ys.length) (h : ∀ j, j < i → xs.getD j default = ys.getD j default) (hi : xs.length ≤ i) : xs = ys := by
  refine List.ext_getElem hl fun j h1 h2 => ?_
  have := h j (by omega)
  simpa [h1, h2] using this
def dig (k : Nat) : ByteArray := if k = 0 then ⟨#[]⟩ else dig (k / 10) ++ strOf [48 + (k : Int) % 10]
termination_by k
decreasing_by omega
def mkT (k : Int) : ByteArray := if k ≤ 0 then ⟨#[109, 48]⟩ else ⟨#[109]⟩ ++ dig k.toNat
theorem dig_size : ∀ (n k : Nat), k < 10 ^ n → (dig k).size ≤ n
  | 0, k, h => by
    have : k = 0 := by simp at h; omega
    subst this
    rw [dig]; exact Nat.le_refl _
  | n + 1, k, h => by
    rw [dig]
    split
    · exact Nat.zero_le _
    · rw [ByteArray.size_append]
      have := dig_size n (k / 10) (by rw [Nat.pow_succ] at h; omega)
      have h2 : (strOf [48 + (k : Int) % 10]).size = 1 := rfl
      omega
theorem dig_step {k : Nat} (h : 0 < k) (out : ByteArray) : dig k ++ out = dig (k / 10) ++ (strOf [48 + (k : Int) % 10] ++ out) := by
  rw [dig, if_neg (by omega), ByteArray.append_assoc]
theorem dig_zero (out : ByteArray) : dig 0 ++ out = out := by
  rw [dig, if_pos rfl]; exact ByteArray.empty_append
section
variable {α : Type} (mk : α → Int → α) (e : α → Int → Int)
def mkS : Int → List α → List α
  | _, [] => []
  | k, x :: r => mk x k :: mkS (e x k) r
def eS : Int → List α → Int
  | k, [] => k
  | k, x :: r => eS (e x k) r
def incr : Prop := ∀ a k, k ≤ e a k
def idem : Prop := ∀ a k, mk (mk a k) k = mk a k ∧ e (mk a k) k = e a k
variable {mk e}
theorem eS_le (h : incr e) : ∀ (xs : List α) (k : Int), k ≤ eS e k xs
  | [], k => Int.le_refl _
  | x :: r, k => Int.le_trans (h x k) (eS_le h r _)
theorem eS_app : ∀ (xs ys : List α) (k : Int), eS e k (xs ++ ys) = eS e (eS e k xs) ys
  | [], _, _ => rfl
  | x :: r, ys, k => eS_app r ys _
theorem mkS_app : ∀ (xs ys : List α) (k : Int), mkS mk e k (xs ++ ys) = mkS mk e k xs ++ mkS mk e (eS e k xs) ys
  | [], _, _ => rfl
  | x :: r, ys, k => by simp only [List.cons_append, mkS, eS, mkS_app r ys _]
theorem mkS_len : ∀ (xs : List α) (k : Int), (mkS mk e k xs).length = xs.length
  | [], _ => rfl
  | x :: r, k => by simp only [mkS, List.length_cons, mkS_len r _]
theorem eS_idem (h : idem mk e) : ∀ (xs : List α) (k : Int), eS e k (mkS mk e k xs) = eS e k xs
  | [], _ => rfl
  | x :: r, k => by simp only [mkS, eS, (h x k).2, eS_idem h r _]
theorem mkS_idem (h : idem mk e) : ∀ (xs : List α) (k : Int), mkS mk e k (mkS mk e k xs) = mkS mk e k xs
  | [], _ => rfl
  | x :: r, k => by simp only [mkS, (h x k).1, (h x k).2, mkS_idem h r _]
def mkTo (mk : α → Int → α) (e : α → Int → Int) (k : Int) (xs : List α) (i : Nat) : List α := mkS mk e k (xs.take i) ++ xs.drop i
theorem mkTo_len {k : Int} {xs : List α} {i : Nat} (h : i ≤ xs.length) : (mkTo mk e k xs i).length = xs.length := by simp [mkTo, mkS_len]; omega
theorem mkTo_0 (k : Int) (xs : List α) : mkTo mk e k xs 0 = xs := by simp [mkTo, mkS]
theorem mkTo_end {k : Int} {xs : List α} {i : Nat} (h : xs.length ≤ i) : mkTo mk e k xs i = mkS mk e k xs := by simp [mkTo, List.take_of_length_le h, List.drop_of_length_le h]
set_option linter.unusedSectionVars false
variable [Inhabited α]
theorem mkTo_at {k : Int} {xs : List α} {i : Nat} (h : i < xs.length) : (mkTo mk e k xs i).getD i default = xs.getD i default := by
  have e1 : (mkS mk e k (xs.take i)).length = i := by rw [mkS_len]; simp; omega
  unfold mkTo
  simp only [List.getD_eq_getElem?_getD]
  rw [List.getElem?_append_right (by omega), e1, Nat.sub_self]
  simp
theorem eS_to {k : Int} {xs : List α} {i : Nat} (h : i < xs.length) : eS e k (xs.take (i + 1)) = e (xs.getD i default) (eS e k (xs.take i)) := by
  rw [List.take_succ_eq_append_getElem h, eS_app]
  simp [eS, h]
theorem mkTo_set {k : Int} {xs : List α} {i : Nat} (h : i < xs.length) {y : α} (hy : y = mk (xs.getD i default) (eS e k (xs.take i))) : (mkTo mk e k xs i).set i y = mkTo mk e k xs (i + 1) := by
  have e1 : (mkS mk e k (xs.take i)).length = i := by rw [mkS_len]; simp; omega
  unfold mkTo
  rw [List.set_append_right _ _ (by omega), e1, Nat.sub_self, List.take_succ_eq_append_getElem h, mkS_app, List.append_assoc, List.drop_eq_getElem_cons h, List.set_cons_zero, hy]
  simp [mkS, h]
theorem eS_take {k : Int} (hi : incr e) (xs : List α) (i : Nat) : k ≤ eS e k (xs.take i) ∧ eS e k (xs.take i) ≤ eS e k xs := by
  refine ⟨eS_le hi _ _, ?_⟩
  have h := eS_app (e := e) (xs.take i) (xs.drop i) k
  rw [List.take_append_drop] at h
  rw [h]; exact eS_le hi _ _
open Classical in
noncomputable def hS (mk : α → Int → α) (e : α → Int → Int) (xs : List α) (k : Int) : Int := if xs = mkS mk e k xs then eS e k xs else -1
theorem hS_mk (h : idem mk e) (xs : List α) (k : Int) : hS mk e (mkS mk e k xs) k = eS e k xs := by
  unfold hS; rw [mkS_idem h, if_pos rfl, eS_idem h]
theorem mkS_at {k : Int} {xs : List α} {i : Nat} (h : i < xs.length) : (mkS mk e k xs).getD i default = mk (xs.getD i default) (eS e k (xs.take i)) := by
  have h1 : xs = xs.take i ++ xs.drop i := (List.take_append_drop i xs).symm
  have e1 : (mkS mk e k (xs.take i)).length = i := by rw [mkS_len]; simp; omega
  have h2 := mkS_app (mk := mk) (e := e) (xs.take i) (xs.drop i) k
  rw [List.take_append_drop] at h2
  rw [h2]
  simp only [List.getD_eq_getElem?_getD]
  rw [List.getElem?_append_right (by omega), e1, Nat.sub_self, List.drop_eq_getElem_cons h]
  simp [mkS, h]
theorem hS_no {xs : List α} {k : Int} {i : Nat} (h : i < xs.length) (hne : ¬ xs.getD i default = mk (xs.getD i default) (eS e k (xs.take i))) : hS mk e xs k = -1 := by
  unfold hS
  rw [if_neg]
  intro q
  apply hne
  rw [← mkS_at (mk := mk) h, ← q]
theorem hS_yes {xs : List α} {k : Int} (hall : ∀ j, j < xs.length → xs.getD j default = mk (xs.getD j default) (eS e k (xs.take j))) : hS mk e xs k = eS e k xs := by
  unfold hS
  rw [if_pos]
  refine List.ext_getElem (by rw [mkS_len]) fun j h1 h2 => ?_
  have q1 := hall j h1
  rw [← mkS_at (mk := mk) h1] at q1
  simpa [h1, h2] using q1
theorem hS_eq {xs : List α} {k : Int} (q : xs = mkS mk e k xs) : hS mk e xs k = eS e k xs := by unfold hS; rw [if_pos q]
theorem hS_ne {xs : List α} {k : Int} (hb : hS mk e xs k < 0) (h0 : 0 ≤ k) (hi : incr e) (q : xs = mkS mk e k xs) : False := by
  rw [hS_eq q] at hb
  have := eS_le hi xs k
  omega
theorem hS_pos {xs : List α} {k : Int} (hb : ¬ hS mk e xs k < 0) : xs = mkS mk e k xs ∧ hS mk e xs k = eS e k xs := by
  by_cases q : xs = mkS mk e k xs
  · exact ⟨q, hS_eq q⟩
  · unfold hS at hb; rw [if_neg q] at hb; omega
theorem hS_le (hi : incr e) (xs : List α) (k : Int) : hS mk e xs k = -1 ∨ hS mk e xs k = eS e k xs := by
  unfold hS; split
  · exact .inr rfl
  · exact .inl rfl
theorem hS_iff {xs : List α} {k : Int} (h0 : 0 ≤ k) (hi : incr e) : (hS mk e xs k < 0) = ¬ xs = mkS mk e k xs := by
  unfold hS
  have := eS_le hi xs k
  by_cases h : xs = mkS mk e k xs
  · rw [if_pos h]; exact propext ⟨fun q => by omega, fun q => absurd h q⟩
  · rw [if_neg h]; exact propext ⟨fun _ => h, fun _ => by omega⟩
end
def mStr (_ : ByteArray) (k : Int) : ByteArray := mkT k
def eStr (_ : ByteArray) (k : Int) : Int := k + 1
def mInt (_ : Int) (k : Int) : Int := k
def eInt (_ : Int) (k : Int) : Int := k + 1
theorem eStr_inc : incr eStr := fun a k => by unfold eStr; omega
theorem eInt_inc : incr eInt := fun a k => by unfold eInt; omega
theorem mStr_idem : idem mStr eStr := fun _ _ => ⟨rfl, rfl⟩
theorem mInt_idem : idem mInt eInt := fun _ _ => ⟨rfl, rfl⟩
theorem getD_set' {α : Type} [Inhabited α] {xs : List α} {i : Nat} (h : i < xs.length) (y : α) : (xs.set i y).getD i default = y := by simp [h]
def mAd (a : Ad) (k : Int) : Ad := ⟨(mkT k), (mkT (k + 1))⟩
def eAd (a : Ad) (k : Int) : Int := ((k + 1) + 1)
theorem eAd_inc : incr eAd := fun a k => by
  unfold eAd
  omega
theorem mAd_idem : idem mAd eAd := fun a k => by simp only [mAd, eAd, and_self]
end Go.V
namespace Go.V
open Go Go.Proofs
set_option maxRecDepth 100000
set_option linter.unusedSimpArgs false
set_option linter.unusedVariables false
attribute [local go_sem_proc] Nat.reduceAdd Nat.reduceMul Nat.reduceLeDiff Nat.reduceEqDiff reduceCtorEq Nat.reduceSub Int.reduceNeg Nat.reduceMod Nat.reduceBEq Nat.reduceLT
attribute [local go_sem] aPickB.eq_1 aPickB.eq_2 aPick.eq_1 aBox.eq_1 aBox.eq_2 aAlloc.eq_1 aAlloc.eq_2 aLoadB.eq_1 aLoadB.eq_2 aLoadB.eq_3 aLoadB.eq_4 aLoadB.eq_5 aLoadA.eq_1 aLoadA.eq_2 aLoadA.eq_3 aLoadA.eq_4 aLoadA.eq_5 aLoadP.eq_1 aLoadP.eq_2 aLoadP.eq_3 aLoad.eq_1 aLoad.eq_2 aFAx.eq_1 aFAx.eq_2 aFAx.eq_3 aFA.eq_1 aFA.eq_2 aFx.eq_1 aF.eq_1 aF.eq_2 fld.eq_1 elT.eq_1 aIdxH.eq_1 aIdxH.eq_2 aIdxH.eq_3 aIdxH.eq_4 aIdxH.eq_5 aIdxP.eq_1 aIdxP.eq_2 aIndexAddr.eq_1 aIndexAddr.eq_2 aIndexAddr.eq_3 isStr.eq_1 aIndex.eq_1 aSlStr.eq_1 aSlRo.eq_1 aSlZ.eq_1 aSlZ.eq_2 aSlice.eq_1 aSlice.eq_2 aSlice.eq_3 bnd.eq_1 bnd.eq_2 aBuildO.eq_1 aBuildO.eq_2 aBuild.eq_1 aNewArr.eq_1 aNewArr.eq_2 aBS.eq_1 aBS.eq_2 aBuildSlice.eq_1 aBuildSlice.eq_2 aMakeSlice.eq_1 appDeep.eq_1 aApp2.eq_1 aAppend.eq_1 aAppend.eq_2 aStoreB.eq_1 aStoreA.eq_1 obFlat.eq_1 aStore2.eq_1 aStore2.eq_2 aStoreP.eq_1 aStoreP.eq_2 aStore.eq_1 aStore.eq_2 isShl.eq_1 isShl.eq_2 isBool.eq_1 aBinI.eq_1 aBinI.eq_2 aBinB.eq_1 aBinB.eq_2 aEq.eq_1 aEq.eq_2 aEq.eq_3 aEq.eq_4 aEqG.eq_1 aEqG.eq_2 aBin.eq_1 aBin.eq_2 aBin.eq_3 aBin.eq_4 aUn.eq_1 aUn.eq_2 aLenO.eq_1 aLenS.eq_1 aLenS.eq_2 aLenS.eq_3 aLenT.eq_1 aLen.eq_1 aLen.eq_2 aLen.eq_3 bytesOb.eq_1 bytesOb.eq_2 bytesOf.eq_1 bytesOf.eq_2 aNums.eq_1 aNums.eq_2 isU8.eq_1 aCvI.eq_1 aCvS.eq_1 aCvB.eq_1 aCvB.eq_2 aCvT.eq_1 aConv.eq_1 aConv.eq_2 aConv.eq_3 aConv.eq_4 aExO.eq_1 aExO.eq_2 aExtract.eq_1 aNil.eq_1 aNil.eq_2 aNil.eq_3 aCallS.eq_1 aCallS.eq_2 aCallR.eq_1 aCallR.eq_2 aCallK.eq_1 aCallK.eq_2 aCallK.eq_3 aCall.eq_1 aCall.eq_2 takeO.eq_1 AS.takeV.eq_1 AS.takeV.eq_2 AS.takeV.eq_3 AS.takeV.eq_4 AS.takeV.eq_5 AS.takeV.eq_6 AS.takeV.eq_7 AV.oldM.eq_1 AV.oldM.eq_2 AV.oldM.eq_3 AV.oldM.eq_4 AV.oldM.eq_5 AV.oldM.eq_6 AV.oldM.eq_7 AV.oldM.eq_8 AV.oldM.eq_9 AV.oldM.eq_10 AV.oldM.eq_11 AV.oldML.eq_1 AV.oldML.eq_2 subL.eq_1 subL.eq_2 back.eq_1 back.eq_2 back.eq_3 back.eq_4 backL.eq_1 backI.eq_1 backI.eq_2 backI.eq_3 backI.eq_4 backIL.eq_1 aBuiltin.eq_1 aBuiltin.eq_2 aBuiltin.eq_3 aCallee.eq_1 aCallee.eq_2 aCallee.eq_3 abin.eq_1 abin.eq_2 abin.eq_3 abin.eq_4 abin.eq_5 abin.eq_6 abin.eq_7 abin.eq_8 abin.eq_9 abin.eq_10 abin.eq_11 abin.eq_12 abin.eq_13 abin.eq_14 abin.eq_15 abin.eq_17 abin.eq_18 abin.eq_19 abin.eq_20 abin.eq_21 abin.eq_22 abin.eq_23 AS.ev.eq_1 AS.ev.eq_2 AS.ev.eq_3 AS.ev.eq_4 AS.evs.eq_1 AS.evs.eq_2 AS.evp.eq_1 AS.evp.eq_2 AS.put.eq_1 AS.put.eq_2 AS.remL.eq_1 AS.remL.eq_2 AV.has.eq_1 AV.has.eq_2 AV.has.eq_3 AV.has.eq_4 AV.has.eq_5 AV.has.eq_6 AV.has.eq_7 AV.has.eq_8 AV.has.eq_9 AV.has.eq_10 AV.has.eq_11 AV.hasL.eq_1 AV.hasL.eq_2 Ob.drop.eq_1 Ob.drop.eq_2 Ob.drop.eq_3 Ob.drop.eq_4 AV.cells.eq_1 AV.cells.eq_2 AV.cells.eq_3 AV.cells.eq_4 AV.cells.eq_5 AS.snapT.eq_1 AS.snapT.eq_2 AS.snapT.eq_3 AS.snapT.eq_4 AS.snapT.eq_5 AS.snapT.eq_6 AS.snapT.eq_7 AS.snap.eq_1 AS.snap.eq_2 mapO.eq_1 mapO.eq_2 intern.eq_1 intern.eq_2 intern.eq_3 intern.eq_4 intern.eq_5 intern.eq_6 intern.eq_7 intern.eq_8 intern.eq_9 intern.eq_10 intern.eq_11 internL.eq_1 internL.eq_2 zipSl.eq_1 zipSl.eq_2 AV.ids.eq_1 AV.ids.eq_2 AV.ids.eq_3 AV.ids.eq_4 AV.ids.eq_5 AV.ids.eq_6 AV.ids.eq_7 AV.ids.eq_8 AV.ids.eq_9 AV.ids.eq_10 AV.ids.eq_11 AV.idsL.eq_1 AV.idsL.eq_2 AV.sub.eq_1 AV.sub.eq_2 AV.sub.eq_3 AV.sub.eq_4 AV.sub.eq_5 AV.sub.eq_6 AV.sub.eq_7 AV.sub.eq_8 AV.sub.eq_9 AV.sub.eq_10 AV.sub.eq_11 AV.subL.eq_1 AV.subL.eq_2 AS.frzL.eq_1 AS.frzL.eq_2 AS.absT.eq_1 AS.absT.eq_2 AS.absT.eq_4 AS.absL.eq_1 AS.absL.eq_2 AS.absOk.eq_1 AS.absOkL.eq_1 AS.absOkL.eq_2 hid.eq_1 hids.eq_1 hids.eq_2 AS.appBase.eq_1 AS.appBase.eq_2 AS.appSrc.eq_1 appFits.eq_1 appFits.eq_2 appFits.eq_3 avFill.eq_1 avFill.eq_2 avc.eq_1 avc.eq_2 avc1.eq_1 Kd.agg.eq_1 Kd.agg.eq_2 okR.eq_1 okR.eq_2 okR.eq_3 okR.eq_4 okR.eq_5 okR.eq_6 okR.eq_7 okR.eq_8 zt.eq_1 rvB.eq_1 rvP.eq_1 rvA.eq_1 rvA.eq_2 rv1.eq_1 outTO.eq_1 outT.eq_1 outT.eq_2 outT.eq_3 outTn.eq_1 outOO.eq_1 outO.eq_1 outO.eq_2 boxOf.eq_1 outP.eq_1 outP.eq_2 outP.eq_3 outP.eq_4 outP.eq_5 outP.eq_6 outP.eq_7 outP.eq_8 outPL.eq_1 outPL.eq_2 outI.eq_1 outI.eq_2 outI.eq_3 outI.eq_4 outI.eq_5 outIL.eq_1 outZ.eq_1 outZ.eq_2 outZ.eq_3 outZ.eq_4 outZ.eq_5 outZL.eq_1 finO.eq_1 finO.eq_2 fin.eq_1 fin.eq_2 fin.eq_3 cellAV.eq_1 cellAV.eq_2 numsOf.eq_1 numsOf.eq_2 aop.eq_1 aop.eq_2 aop.eq_3 aop.eq_4 aop.eq_5 aop.eq_6 aop.eq_7 aop.eq_8 aop.eq_9 aop.eq_10 aop.eq_11 aop.eq_12 aop.eq_13 aop.eq_14 aop.eq_15 aop.eq_16 aop.eq_17 aop.eq_18 aop.eq_19 aop.eq_20 aop.eq_21 aop.eq_22 aop.eq_23 aop.eq_24 aop.eq_25 aop.eq_26 tmpsOf.eq_1 tmpsOf.eq_2 tmpsOf.eq_3 tmpsOf.eq_4 tmpsOf.eq_5 AV.refs.eq_1 AV.refs.eq_2 AV.refs.eq_3 AV.refs.eq_4 AV.refs.eq_5 AV.refs.eq_6 AV.refs.eq_7 AV.refs.eq_8 AV.refs.eq_9 AV.refs.eq_10 AV.refs.eq_11 AV.refsL.eq_1 AV.refsL.eq_2 refsT.eq_1 refsT.eq_2 refsO.eq_1 refsO.eq_2 refsO.eq_3 refsO.eq_4 refsO.eq_5 refsO.eq_6 refsB.eq_1 refsB.eq_2 clos.eq_1 clos.eq_2 keepL.eq_1 keepL.eq_2 AV.hasM.eq_1 AV.hasM.eq_2 AV.hasM.eq_3 AV.hasM.eq_4 AV.hasM.eq_5 AV.hasM.eq_6 AV.hasM.eq_7 AV.hasM.eq_8 AV.hasM.eq_9 AV.hasM.eq_10 AV.hasM.eq_11 AV.hasML.eq_1 AV.hasML.eq_2 Ob.dropM.eq_1 Ob.dropM.eq_2 Ob.dropM.eq_3 Ob.dropM.eq_4 nsC.eq_1 nsC.eq_2 okGuard.eq_1 okGuard.eq_2 AS.purges.eq_1 AS.purges.eq_2 dropMB.eq_1 dropMB.eq_2 newB.eq_1 newB.eq_2 ptB.eq_1 ptB.eq_2 lookC.eq_1 lookC.eq_2 dropB.eq_1 dropB.eq_2 leS.eq_1 leS.eq_2 leT.eq_1 leT.eq_2 AS.mvs.eq_1 AS.mvs.eq_2 AS.mvA.eq_1 AS.mvA.eq_2 AS.mvB.eq_1 aSetO.eq_1 aSetO.eq_2 aSh.eq_1 aSh.eq_2 arK.eq_1 aIdxA.eq_1 aIdxA.eq_2 arT.eq_1 aSlHB.eq_1 aSlHB.eq_2 aSlHO.eq_1 aSlHZ.eq_1 aSlHZ.eq_2 isSlT.eq_1 isNilC.eq_1 aNilO.eq_1 aNilX.eq_1 aNilX.eq_2 aNilX.eq_3 aNilC.eq_1 aNilC.eq_2 aBinQ.eq_1 aBinQ.eq_2 aMin.eq_1 flT.eq_1 flT.eq_2 flT.eq_3 mpT.eq_1 aMkMap.eq_1 aMkMap.eq_2 strA.eq_1 keyMK.eq_1 keyMK.eq_2 keyMK.eq_3 mkB.eq_1 mkB.eq_2 mkB.eq_3 aMp2.eq_1 aMp1.eq_1 aMp0.eq_1 aMapU.eq_1 aLk2.eq_1 aLk2.eq_2 aLk1.eq_1 aLk0.eq_1 aLookup.eq_1 aLenMO.eq_1 aLenM.eq_1 glV.eq_1 glV.eq_2 evG.eq_1 evG.eq_2 evG.eq_3 evG.eq_4 lkHitO.eq_1 lkHitO.eq_2 lkHitO.eq_3 lkHitO.eq_4 lkHit.eq_1 lkHit.eq_2 lkF.eq_1 lkF.eq_2 lkFind.eq_1 lkFind.eq_2 lkV.eq_1 lkV.eq_2 lkV.eq_3 lkV.eq_4 lkV.eq_5 AS.lkO.eq_1 AS.lkO.eq_2 AS.lkOf.eq_1 rawT.eq_1 rawT.eq_2 rawT.eq_3 rawT.eq_4 rawT.eq_5 rawT.eq_6 rawOf.eq_1 rawOf.eq_2 rawOf.eq_3 rawOf.eq_4 rawOf.eq_5 rawOf.eq_6 rawOf.eq_7 rawOf.eq_8 rawOf.eq_9 rawOf.eq_10 rawOf.eq_11 aLkR.eq_1 aLkR.eq_2 aLk.eq_1 aLk.eq_2 KL.eq_1 lkDrop.eq_1 lkDrop.eq_2 lkParO.eq_1 lkParO.eq_2 lkParO.eq_3 lkParO.eq_4 lkPar.eq_1 lkPar.eq_2 lkI.eq_1 lkI.eq_2 lkIds.eq_1 lkIds.eq_2 adLd.eq_1 run_nil run_b run_l run_skip run_label run_seq run_cond brV_b brB_t brB_f run_block run_exit run_ret run_region runX_nil runX_c runX_c' runX_b runX_b' runX_l runX_l' exB_t exB_f run_o run_op run_opg gV_b gV_t gB_tt gB_ff gB_tf gB_ft rs_eq kv KI aLenN aBS1 aApp1 aStore1 szOk gv gd s0 idOf look_cons lookC frzU_t frzU_f orT orF drop_any drop_nil drop_t drop_h drop_pb drop_pa drop_agg drop_tup drop_fn dropB kill_eq set_eq rem_eq re_eq up_eq get_eq ob_eq Ob.drop apl fpl plainTy AS.frz splice cond_true cond_false List.map_cons List.map_nil List.drop_zero List.drop_succ_cons List.drop_nil List.take_zero List.take_succ_cons List.take_nil List.getElem?_cons_zero List.getElem?_cons_succ List.getElem?_nil List.length_cons List.length_nil Option.map_some Option.map_none Option.bind_some Option.bind_none List.cons_append List.nil_append List.append_nil Option.getD_some Option.getD_none List.all_cons List.all_nil Bool.and_true Bool.true_and Bool.or_false Bool.false_or Bool.or_true Bool.true_or List.flatten_cons List.flatten_nil List.replicate_succ List.replicate_zero and_true true_and avOf_t avOf_f agg_bool agg_int agg_str agg_slice agg_struct agg_func agg_ptr agg_map avc_bool avc_int avc_str avc_fn avc1_bool avc1_int avc1_str avc1_fn zt_bool zt_int zt_str cells_nil cells_t cells_h cells_pb cells_fn snap_t snap_nil snap_h snap_pb snap_fn rv1_one rv1_two outI_t outI_oh outI_on outI_any outI_nil outZ_th outZ_tt outZ_tn outZ_o outZ_any outZ_nil outIL_nil outZL_nil finN finR ne_eq not_false_eq_true not_true_eq_false List.nodup_nil List.not_mem_nil false_implies implies_true eq_self true_or or_true Option.some.injEq shl_add shl_sub shl_mul shl_quo shl_rem shl_and shl_or shl_xor shl_andNot shl_eql shl_neq shl_lss shl_leq shl_gtr shl_geq shl_shr shl_shl appDeep_none appDeep_sn appSrc_h appSrc_nil fits_ft fits_tn fits_tf isStr_slice obFlat_box Nat.le_refl nbeq_self List.length_map updZ_s updZ_n dropM_eq purge_eq newIds_cons newIds_nil purgeT_nil purgeT_cons memN_cons memN_nil bd_d bd_c bd_g bd_p bd_t bd_o preds_nil preds_cons hasIns insB List.any_cons List.any_nil adK_eq adr_nil adG_eq kdOp noLen creates Op.operands Call.operands nsOf adT adI adJ plainB rst List.append_eq nsD_f nsD_n nsD_t nOf_0 nOf_1 nOf_2 chO_0 chO_1 chO_2 keepK_0 keepK_1 keepK_2 eqRes AS.mv fits KM aCallM notNew kdCall arK_i64 arK_i32 arK_u8 arK_u64 arT_sl isNilC_t isNilC_f isNilC_g isNilC_i isNilC_b isNilC_s isNilC_a isNilC_n andBF andBT aCallK_2 ble_dec hid_t hid_nil hid_any hid_pb hid_fn absOk_t absOk_nil absOk_pb absOk_h absOkO_1 decide_true decide_false Array.toList_append chunk_0 chunk_1 chunk_2 chunk_3 back_t back_nil back_ht backL_nil backI_t backI_nil backI_ht backIL_nil AS.mvJ nbeq_dec runR_f runR_t loadB Option.isSome_some Option.isSome_none nodup1 adr_none adr_some adO_s adV_b adV_t adB_tt adB_ff adB_tf adB_ft adS_eq lenL.eq_1 lenO.eq_1 lenO.eq_2 lenV.eq_1 lenV.eq_2 lenV.eq_3 lenV.eq_4 optN optS absT_ft
attribute [local go_sem] ty3 ty4 ty5 ty9 ty21 ty22 ty23 ty25 ty27 ty28 ty29 ty31 ty33 ty43 ty45 ty46 ty48 ty54 ty57 ty59 ty60 ty62 ty73 ty75 ty91 ty96 ty98 ty101 ty104 ty120 ty125 ty129 ty146 ty166 ty207 ty220 ty237 lv27 lv91 lv104 lv120 zb4 leS leT fits AS.mvs encStr_eq aIdx_str EStr_dec decStrs decStrs0 EStr_enc EStr_n encInt_eq aIdx_int EInt_dec decInts decInts0 EInt_enc EInt_n AllV_Int len_Int lc_enc l0_enc asl_enc ag_enc aow_enc ABool_enc AInt_enc AStr_enc AU8_enc ABool_dec AInt_dec AStr_dec AU8_dec asl_dec ag_dec aow_dec bind_some pr2.eq_1 l0_nil lc_cons unT.eq_1 K0.eq_1 M0.eq_1 KI AllV_Str len_Str ctR_eq ctM_eq ro_kd ro_ro mu_kd mu_mu encAd_eq aIdx_Ad EAd_dec decAds decAds0 EAd_enc EAd_n len_Ad Ad_eta AllV_Ad encRc_eq aIdx_Rc ERc_dec decRcs decRcs0 ERc_enc ERc_n len_Rc Rc_eta AllV_Rc encIm_eq aIdx_Im EIm_dec decIms decIms0 EIm_enc EIm_n len_Im Im_eta mkIm.eq_1 owIm_eq AIm_enc AIm_dec encSp_eq aIdx_Sp ESp_dec decSps decSps0 ESp_enc ESp_n len_Sp Sp_eta mkSp.eq_1 owSp_eq ASp_enc ASp_dec encWy_eq aIdx_Wy EWy_dec decWys decWys0 EWy_enc EWy_n len_Wy Wy_eta AllV_Wy encCf_eq aIdx_Cf ECf_dec decCfs decCfs0 ECf_enc ECf_n len_Cf Cf_eta mkCf.eq_1 owCf_eq ACf_enc ACf_dec encGm_eq aIdx_Gm EGm_dec decGms decGms0 EGm_enc EGm_n len_Gm Gm_eta mkGm.eq_1 owGm_eq AGm_enc AGm_dec encBx_eq aIdx_Bx EBx_dec decBxs decBxs0 EBx_enc EBx_n len_Bx Bx_eta mkBx.eq_1 owBx_eq ABx_enc ABx_dec encLs_eq aIdx_Ls ELs_dec decLss decLss0 ELs_enc ELs_n len_Ls Ls_eta AllV_Ls encHs_eq aIdx_Hs EHs_dec decHss decHss0 EHs_enc EHs_n len_Hs Hs_eta mkHs.eq_1 owHs_eq AHs_enc AHs_dec encWd_eq aIdx_Wd EWd_dec decWds decWds0 EWd_enc EWd_n len_Wd Wd_eta mkWd.eq_1 owWd_eq AWd_enc AWd_dec
def bl (s : ByteArray) : List UInt8 := s.data.toList
def mB (l : List UInt8) : ByteArray := ⟨l.toArray⟩
theorem bl_mk (l : List UInt8) : bl (mB l) = l := rfl
theorem mk_bl (s : ByteArray) : mB (bl s) = s := rfl
theorem bl_len (s : ByteArray) : (bl s).length = s.size := rfl
theorem mk_size (l : List UInt8) : (mB l).size = l.length := rfl
theorem byteAt_bl (s : ByteArray) (i : Nat) : byteAt s i = (((bl s).getD i 0).toNat : Int) := rfl
theorem bl_inj {s t : ByteArray} (h : bl s = bl t) : s = t := by
  rw [← mk_bl s, ← mk_bl t, h]
theorem bl_extract (s : ByteArray) (i j : Nat) : bl (s.extract i j) = ((bl s).drop i).take (j - i) := by
  unfold bl
  rw [ByteArray.data_extract, Array.toList_extract]
theorem extract_mk (s : ByteArray) (i j : Nat) : s.extract i j = mB (((bl s).drop i).take (j - i)) := bl_inj (by rw [bl_extract, bl_mk])
theorem byteAt_range (s : ByteArray) (i : Nat) : 0 ≤ byteAt s i ∧ byteAt s i ≤ 255 := by
  rw [byteAt_bl]
  have := ((bl s).getD i 0).toNat_lt
  omega
def isLc (n : Int) : Prop := (97 ≤ n ∧ n ≤ 122) ∨ (48 ≤ n ∧ n ≤ 57)
def Lbl (s : ByteArray) : Prop := (∀ j, j < s.size → isLc (byteAt s j)) ∧ 1 ≤ s.size ∧ s.size ≤ 8
def Lin (s : ByteArray) : Prop := (∀ j, j < s.size → 32 ≤ byteAt s j ∧ byteAt s j ≤ 126) ∧ s.size ≤ 40
def splitN (c : UInt8) : Nat → List UInt8 → List (List UInt8)
  | 0, l => [l]
  | _ + 1, [] => [[]]
  | m + 1, x :: r => if x = c then [] :: splitN c m r else match splitN c (m + 1) r with | h :: t => (x :: h) :: t | [] => [[x]]
def preL (p : List UInt8) : List (List UInt8) → List (List UInt8)
  | h :: t => (p ++ h) :: t
  | [] => [p]
theorem preL_nil : ∀ (l : List (List UInt8)), l ≠ [] → preL [] l = l
  | h :: t, _ => rfl
  | [], h => absurd rfl h
theorem splitN_ne (c : UInt8) : ∀ (m : Nat) (l : List UInt8), splitN c m l ≠ []
  | 0, l => by simp [splitN]
  | m + 1, [] => by simp [splitN]
  | m + 1, x :: r => by
    unfold splitN
    split
    · simp
    · split <;> simp
theorem splitN_hit (c : UInt8) (m : Nat) (r : List UInt8) (p : List UInt8) : preL p (splitN c (m + 1) (c :: r)) = p :: splitN c m r := by
  simp [splitN, preL]
theorem splitN_miss {c x : UInt8} (h : x ≠ c) (m : Nat) (r : List UInt8) (p : List UInt8) : preL p (splitN c (m + 1) (x :: r)) = preL (p ++ [x]) (splitN c (m + 1) r) := by
  cases h1 : splitN c (m + 1) r with
  | nil => exact absurd h1 (splitN_ne c (m + 1) r)
  | cons a t => simp only [splitN, if_neg h, h1, preL, List.append_assoc, List.singleton_append]
theorem splitN_0 (c : UInt8) (l : List UInt8) (p : List UInt8) : preL p (splitN c 0 l) = [p ++ l] := by simp [splitN, preL]
theorem splitN_end (c : UInt8) (m : Nat) (p : List UInt8) : preL p (splitN c m []) = [p] := by
  cases m <;> simp [splitN, preL]
def cutL (s : ByteArray) (c : UInt8) (m : Nat) : List ByteArray := (splitN c m (bl s)).map mB
def c71 : Ct := ctR (lc AInt (lc AInt (lc AInt l0))) (fun p => True) (fun p => .t (.v (.bool (bOf (p.2.1 ≤ p.1 ∧ p.1 ≤ p.2.2.1)))))
theorem good71 {G : Gt} (hG : OkG G) : Gd G 71 (roEnt 0 c71) := by
  refine gR (dp := fun _ => true) (fn := Tryz.f71) (n := 3) (fun _ => rfl) (by kernel_rfl) rfl (by kernel_rfl) hG (Nat.le_of_ble_eq_true rfl) (by kernel_rfl) (by decide) (fun _ _ => .v _) ?_
  rintro ⟨n, lo, hi, ⟨⟩⟩ hpre
  simp -implicitDefEqProofs only [Tryz.f71, go_sem] at hpre ⊢
  repeat' (first | with_reducible apply And.intro | with_reducible intro _ | ((first | apply brB_split | apply aPickB_split | apply gB_split | apply adB_split) <;> intro hb <;> simp -implicitDefEqProofs only [hb, go_sem] <;> try simp only [qz] at hb))
  all_goals first
    | (rw [bOf_n (by omega)]; done)
    | (rw [bOf_d]; simp [*]; done)
    | trace_state
def c123 : Ct := ctR (lc AStr l0) (fun p => True) (fun p => .t (.v (.bool (bOf (Lbl p.1)))))
section
attribute [local go_sem] c71
theorem good123 {G : Gt} (hG : OkG G) (hh : G.e 71 = roEnt 0 c71) : Gd G 123 (roEnt 0 c123) := by
  refine gR (dp := fun _ => true) (fn := Tryz.f123) (n := 1) (fun _ => rfl) (by kernel_rfl) rfl (by kernel_rfl) hG (Nat.le_of_ble_eq_true rfl) (by kernel_rfl) (by decide) (fun _ _ => .v _) ?_
  rintro ⟨s, ⟨⟩⟩ hpre
  simp -implicitDefEqProofs only [Tryz.f123, go_sem, hh] at hpre ⊢
  refine run_loop [] (ι := {i : Nat // i ≤ s.size ∧ ∀ j, j < i → isLc (byteAt s j)}) (fun p => ⟨[(0, .t (.v (.string s))), (3, .t (.v (.int .i64 p.1)))], []⟩) (fun p => s.size - p.1) ⟨0, by simp, by simp⟩ rfl ?_ ?_
  · simp -implicitDefEqProofs only [go_sem, hh]
    simp
  · rintro ⟨i, hi, hall⟩
    simp -implicitDefEqProofs only [go_sem, hh]
    repeat' (first | with_reducible apply And.intro | with_reducible intro _ | ((first | apply brB_split | apply aPickB_split | apply gB_split | apply adB_split) <;> intro hb <;> simp -implicitDefEqProofs only [hb, go_sem, hh] <;> try simp only [qz] at hb))
    all_goals (try simp only [maxLen, Int.toNat_natCast] at *)
    all_goals (try have hbr := byteAt_range s i)
    all_goals first | rfl | omega | skip
    all_goals first
      | (rw [bOf_n (fun hq => by have hq1 := hq.1 i (by omega); simp only [isLc] at *; omega)]; done)
      | (refine ⟨⟨i + 1, by omega, fun j hj => ?_⟩, by dsimp only; omega, ?_⟩
         · by_cases e : j = i
           · subst e; simp only [isLc] at *; omega
           · exact hall j (by omega)
         · simp -implicitDefEqProofs only [go_sem, hh]
           simp)
      | skip
    · rw [bOf_congr]
      exact ⟨fun h => ⟨fun j hj => hall j (by omega), by omega⟩, fun h => by have := h.2; omega⟩
end
def c96 : Ct := ctR (lc AStr l0) (fun p => True) (fun p => .t (.v (.bool (bOf (Lin p.1)))))
theorem good96 {G : Gt} (hG : OkG G) : Gd G 96 (roEnt 0 c96) := by
  refine gR (dp := fun _ => true) (fn := Tryz.f96) (n := 1) (fun _ => rfl) (by kernel_rfl) rfl (by kernel_rfl) hG (Nat.le_of_ble_eq_true rfl) (by kernel_rfl) (by decide) (fun _ _ => .v _) ?_
  rintro ⟨s, ⟨⟩⟩ hpre
  simp -implicitDefEqProofs only [Tryz.f96, go_sem] at hpre ⊢
  refine run_loop [] (ι := {i : Nat // i ≤ s.size ∧ ∀ j, j < i → 32 ≤ byteAt s j ∧ byteAt s j ≤ 126}) (fun p => ⟨[(0, .t (.v (.string s))), (3, .t (.v (.int .i64 p.1)))], []⟩) (fun p => s.size - p.1) ⟨0, by simp, by simp⟩ rfl ?_ ?_
  · simp -implicitDefEqProofs only [go_sem]
    simp
  · rintro ⟨i, hi, hall⟩
    simp -implicitDefEqProofs only [go_sem]
    repeat' (first | with_reducible apply And.intro | with_reducible intro _ | ((first | apply brB_split | apply aPickB_split | apply gB_split | apply adB_split) <;> intro hb <;> simp -implicitDefEqProofs only [hb, go_sem] <;> try simp only [qz] at hb))
    all_goals (try simp only [maxLen, Int.toNat_natCast] at *)
    all_goals (try have hbr := byteAt_range s i)
    all_goals first | rfl | omega | skip
    all_goals first
      | (rw [bOf_n (fun hq => by have hq1 := hq.1 i (by omega); skip; omega)]; done)
      | (refine ⟨⟨i + 1, by omega, fun j hj => ?_⟩, by dsimp only; omega, ?_⟩
         · by_cases e : j = i
           · subst e; skip; omega
           · exact hall j (by omega)
         · simp -implicitDefEqProofs only [go_sem]
           simp)
      | skip
    · rw [← bOf_d, bOf_congr]
      exact ⟨fun h => ⟨fun j hj => hall j (by omega), by omega⟩, fun h => by have := h.2; omega⟩
structure CutSt (s : ByteArray) (c : UInt8) (m : Nat) where
  i : Nat
  fr : Nat
  o : List (List UInt8)
  hi : i ≤ s.size
  hf : fr ≤ i
  ho : o.length ≤ m
  h : o ++ preL (((bl s).drop fr).take (i - fr)) (splitN c (m - o.length) ((bl s).drop i)) = splitN c m (bl s)
theorem take_snoc {l : List UInt8} {fr i : Nat} (hf : fr ≤ i) (hi : i < l.length) : (l.drop fr).take (i + 1 - fr) = (l.drop fr).take (i - fr) ++ [l.getD i 0] := by
  have e : i + 1 - fr = (i - fr) + 1 := by omega
  rw [e, List.take_add_one]
  have : (l.drop fr)[i - fr]? = some (l.getD i 0) := by
    rw [List.getElem?_drop]
    have : fr + (i - fr) = i := by omega
    rw [this]
    simp [hi]
  rw [this]; rfl
def CutSt.start (s : ByteArray) (c : UInt8) (m : Nat) : CutSt s c m := ⟨0, 0, [], Nat.zero_le _, Nat.le_refl _, Nat.zero_le _, by
  simp only [Nat.sub_self, List.take_zero, List.nil_append, List.length_nil, Nat.sub_zero, List.drop_zero]
  exact preL_nil _ (splitN_ne c m _)⟩
theorem drop_byte {s : ByteArray} {i : Nat} (h : i < s.size) : (bl s).drop i = (bl s).getD i 0 :: (bl s).drop (i + 1) := by
  have h' : i < (bl s).length := h
  rw [List.drop_eq_getElem_cons h']
  simp [h']
def CutSt.hit {s : ByteArray} {c : UInt8} {m : Nat} (z : CutSt s c m) (h1 : z.i < s.size) (h2 : z.o.length < m) (h3 : (bl s).getD z.i 0 = c) : CutSt s c m :=
  ⟨z.i + 1, z.i + 1, z.o ++ [((bl s).drop z.fr).take (z.i - z.fr)], h1, Nat.le_refl _, by simp; omega, by
    have h := z.h
    obtain ⟨k, hk⟩ : ∃ k, m - z.o.length = k + 1 := ⟨m - z.o.length - 1, by omega⟩
    rw [hk, drop_byte h1, h3, splitN_hit] at h
    have e : m - (z.o ++ [((bl s).drop z.fr).take (z.i - z.fr)]).length = k := by simp; omega
    rw [e, Nat.sub_self, List.take_zero, preL_nil _ (splitN_ne _ _ _), List.append_assoc, List.singleton_append]
    exact h⟩
def CutSt.miss {s : ByteArray} {c : UInt8} {m : Nat} (z : CutSt s c m) (h1 : z.i < s.size) (h2 : z.o.length < m) (h3 : (bl s).getD z.i 0 ≠ c) : CutSt s c m :=
  ⟨z.i + 1, z.fr, z.o, h1, Nat.le_succ_of_le z.hf, z.ho, by
    have h := z.h
    obtain ⟨k, hk⟩ : ∃ k, m - z.o.length = k + 1 := ⟨m - z.o.length - 1, by omega⟩
    rw [hk, drop_byte h1, splitN_miss h3] at h
    rw [hk, take_snoc (l := bl s) z.hf (by rw [bl_len]; exact h1)]
    exact h⟩
theorem CutSt.done {s : ByteArray} {c : UInt8} {m : Nat} (z : CutSt s c m) (h : ¬ z.i < s.size ∨ ¬ z.o.length < m) : z.o.map mB ++ [s.extract z.fr s.size] = cutL s c m := by
  have hz := z.h
  have e0 : s.extract z.fr s.size = mB ((bl s).drop z.fr) := by
    rw [extract_mk]
    congr 1
    rw [List.take_of_length_le (by rw [List.length_drop, bl_len]; exact Nat.le_refl _)]
  unfold cutL
  rw [← hz, List.map_append, e0]
  congr 1
  rcases h with h | h
  · have hi := z.hi
    have e : (bl s).drop z.i = [] := List.drop_of_length_le (by rw [bl_len]; omega)
    rw [e, splitN_end]
    have : ((bl s).drop z.fr).take (z.i - z.fr) = (bl s).drop z.fr := List.take_of_length_le (by rw [List.length_drop, bl_len]; omega)
    rw [this]; rfl
  · have hk : m - z.o.length = 0 := by omega
    rw [hk, splitN_0]
    have hf := z.hf
    have : ((bl s).drop z.fr).take (z.i - z.fr) ++ (bl s).drop z.i = (bl s).drop z.fr := by
      have e : (bl s).drop z.i = ((bl s).drop z.fr).drop (z.i - z.fr) := by rw [List.drop_drop]; congr 1; omega
      rw [e, List.take_append_drop]
    rw [this]; rfl
theorem ex_take (s : ByteArray) (z : List (List UInt8)) (fr i : Nat) : z.map mB ++ [s.extract fr i] = (z ++ [((bl s).drop fr).take (i - fr)]).map mB := by
  rw [extract_mk, List.map_append]; rfl
theorem app_str (l : List ByteArray) (x : ByteArray) : l.map encStr ++ [[T.v (.string x)]] = (l ++ [x]).map encStr := by simp [encStr]
theorem app_ex (s : ByteArray) (z : List (List UInt8)) (fr i : Nat) : (z.map mB).map encStr ++ [[T.v (.string (s.extract fr i))]] = ((z ++ [((bl s).drop fr).take (i - fr)]).map mB).map encStr := by
  rw [app_str, ex_take]
theorem byteAt_eq {s : ByteArray} {i : Nat} {c : UInt8} : byteAt s i = (c.toNat : Int) ↔ (bl s).getD i 0 = c := by
  rw [byteAt_bl]
  constructor
  · intro h
    have : ((bl s).getD i 0).toNat = c.toNat := by omega
    exact UInt8.toNat_inj.1 this
  · intro h; rw [h]
def c136 : Ct := ctR (lc AStr (lc AU8 (lc AInt l0))) (fun p => 0 ≤ p.2.1 ∧ p.2.1 ≤ 255 ∧ 0 ≤ p.2.2.1 ∧ p.2.2.1 ≤ 1000) (fun p => .o true 1 ((cutL p.1 (UInt8.ofNat p.2.1.toNat) p.2.2.1.toNat).map encStr))
section
attribute [local go_sem] List.length_map List.map_nil List.length_nil
theorem good136 {G : Gt} (hG : OkG G) : Gd G 136 (roEnt 0 c136) := by
  refine gR (dp := fun _ => true) (fn := Tryz.f136) (n := 3) (fun _ => rfl) (by kernel_rfl) rfl (by kernel_rfl) hG (Nat.le_of_ble_eq_true rfl) (by kernel_rfl) (by decide) (fun _ p => .deep _ _) ?_
  rintro ⟨s, c, m, ⟨⟩⟩ hpre
  simp -implicitDefEqProofs only [Tryz.f136, go_sem] at hpre ⊢
  obtain ⟨c, rfl⟩ : ∃ b : UInt8, c = (b.toNat : Int) := ⟨UInt8.ofNat c.toNat, by simp; omega⟩
  obtain ⟨m, rfl⟩ : ∃ n : Nat, m = (n : Int) := ⟨m.toNat, by omega⟩
  repeat' (first | with_reducible apply And.intro | with_reducible intro _ | ((first | apply brB_split | apply aPickB_split | apply gB_split | apply adB_split) <;> intro hb <;> simp -implicitDefEqProofs only [hb, go_sem] <;> try simp only [qz] at hb))
  all_goals first | rfl | omega | skip
  refine run_loop [(7, 1901, true, 1)] (ι := CutSt s c m) (fun z => ⟨[(0, .t (.v (.string s))), (1, .t (.v (.int .u8 c.toNat))), (2, .t (.v (.int .i64 m))), (7, .h 1901), (8, .t (.v (.int .i64 z.fr))), (9, .t (.v (.int .i64 z.i)))], [(1901, some (.arr true 1 ((z.o.map mB).map encStr)))]⟩) (fun z => s.size - z.i) (CutSt.start s c m) rfl ?_ ?_
  · simp -implicitDefEqProofs only [go_sem]
    simp [CutSt.start]
  · intro z
    have h1 := z.hi
    have h2 := z.hf
    have h3 := z.ho
    simp -implicitDefEqProofs only [go_sem]
    repeat' (first | with_reducible apply And.intro | with_reducible intro _ | ((first | apply brB_split | apply aPickB_split | apply gB_split | apply adB_split) <;> intro hb <;> simp -implicitDefEqProofs only [hb, go_sem] <;> try simp only [qz] at hb))
    all_goals (try simp only [maxLen, Int.toNat_natCast, List.length_map] at *)
    all_goals first | rfl | omega | (simp_all; done) | skip
    · refine ⟨z.hit (by omega) (by omega) (byteAt_eq.1 hb), by simp only [CutSt.hit]; omega, ?_⟩
      rw [app_ex]
      simp -implicitDefEqProofs only [go_sem]
      simp [CutSt.hit]
    · refine ⟨z.miss (by omega) (by omega) (fun e => hb (byteAt_eq.2 e)), by simp only [CutSt.miss]; omega, ?_⟩
      simp -implicitDefEqProofs only [go_sem]
      simp [CutSt.miss]
    · rw [app_str, z.done (.inr (by omega)), UInt8.ofNat_toNat]
    · rw [app_str, z.done (.inl (by omega)), UInt8.ofNat_toNat]
end
def Dom (s : ByteArray) : Prop := (∀ w ∈ cutL s 46 3, Lbl w) ∧ (cutL s 46 3).length ≤ 3
def AdOk (a : Ad) : Prop := Lbl a.user ∧ Dom a.domain
def AdNull (a : Ad) : Prop := a.user = ⟨#[]⟩ ∧ a.domain = ⟨#[]⟩
def BdOk (b : List ByteArray) : Prop := (∀ s ∈ b, Lin s) ∧ b.length ≤ 12
def Ends (s e : ByteArray) : Prop := s = e ∨ (e.size < s.size ∧ s.extract (s.size - e.size) s.size = e ∧ byteAt s (s.size - e.size - 1) = 46)
def Has (s p : ByteArray) : Prop := ∃ i, i + p.size ≤ s.size ∧ s.extract i (i + p.size) = p
theorem cutL_len (s : ByteArray) (c : UInt8) (m : Nat) : (cutL s c m).length ≤ m + 1 := by
  unfold cutL
  rw [List.length_map]
  generalize bl s = l
  induction l generalizing m with
  | nil => cases m <;> simp [splitN]
  | cons x r ih =>
    cases m with
    | zero => simp [splitN]
    | succ m =>
      unfold splitN
      split
      · have := ih m; simp; omega
      · have := ih (m + 1)
        split
        · rename_i h; rw [h] at this; simpa using this
        · simp
theorem mem_getD {α : Type} [Inhabited α] {xs : List α} {P : α → Prop} (h : ∀ j, j < xs.length → P (xs.getD j default)) : ∀ x ∈ xs, P x := fun x hx => by
  obtain ⟨j, hj, rfl⟩ := List.getElem_of_mem hx
  have := h j hj
  simpa [hj] using this
theorem getD_mem {α : Type} [Inhabited α] {xs : List α} {j : Nat} (h : j < xs.length) : xs.getD j default ∈ xs := by
  simp [h]
theorem nodup_of {α : Type} [Inhabited α] {xs : List α} (h : ∀ j, j < xs.length → ∀ k, k < j → ¬ xs.getD k default = xs.getD j default) : xs.Nodup := by
  rw [List.nodup_iff_pairwise_ne, List.pairwise_iff_getElem]
  intro k j hk hj hkj
  have := h j hj k hkj
  simpa [hk, hj] using this
theorem neqb {a b : Ad} (h : (false != (decide (a.user = b.user) && decide (a.domain = b.domain))) = false) : ¬ a = b := fun e => by
  subst e; simp at h
theorem all_step {α : Type} [Inhabited α] {xs : List α} {P : α → Prop} {i : Nat} (hall : ∀ j, j < i → P (xs.getD j default)) (h : P (xs.getD i default)) : ∀ j, j < i + 1 → P (xs.getD j default) := fun j hj => by
  by_cases e : j = i
  · subst e; exact h
  · exact hall j (by omega)
def c93 : Ct := ctR (lc AStr l0) (fun p => True) (fun p => .t (.v (.bool (bOf (Dom p.1)))))
section
attribute [local go_sem] c136 c123 aCell_map List.length_map
theorem good93 {G : Gt} (hG : OkG G) (hh : G.e 136 = roEnt 0 c136 ∧ G.e 123 = roEnt 0 c123) : Gd G 93 (roEnt 0 c93) := by
  refine gR (dp := fun _ => true) (fn := Tryz.f93) (n := 1) (fun _ => rfl) (by kernel_rfl) rfl (by kernel_rfl) hG (Nat.le_of_ble_eq_true rfl) (by kernel_rfl) (by decide) (fun _ _ => .v _) ?_
  rintro ⟨s, ⟨⟩⟩ hpre
  simp -implicitDefEqProofs only [Tryz.f93, go_sem, hh] at hpre ⊢
  repeat' (first | with_reducible apply And.intro | with_reducible intro _ | ((first | apply brB_split | apply aPickB_split | apply gB_split | apply adB_split) <;> intro hb <;> simp -implicitDefEqProofs only [hb, go_sem, hh] <;> try simp only [qz] at hb))
  all_goals first | rfl | omega | skip
  have e46 : UInt8.ofNat (46 : Int).toNat = 46 := rfl
  have e3 : (3 : Int).toNat = 3 := rfl
  rw [e46, e3] at *
  refine run_loop [] (ι := {i : Nat // i ≤ (cutL s 46 3).length ∧ ∀ j, j < i → Lbl ((cutL s 46 3).getD j default)}) (fun p => ⟨[(3, .h 1006), (4, .t (.v (.int .i64 p.1)))], [(1006, some (.arr true 1 ((cutL s 46 3).map encStr)))]⟩) (fun p => (cutL s 46 3).length - p.1) ⟨0, by simp, by simp⟩ rfl ?_ ?_
  · simp -implicitDefEqProofs only [go_sem, hh]
    simp
  · rintro ⟨i, hi, hall⟩
    simp -implicitDefEqProofs only [go_sem, hh]
    repeat' (first | with_reducible apply And.intro | with_reducible intro _ | ((first | apply brB_split | apply aPickB_split | apply gB_split | apply adB_split) <;> intro hb <;> simp -implicitDefEqProofs only [hb, go_sem, hh] <;> try simp only [qz] at hb))
    all_goals (try simp only [maxLen, Int.toNat_natCast, List.length_map] at *)
    all_goals first | rfl | omega | skip
    · rw [bOf_n (fun h => hb (h.1 _ (getD_mem (by omega))))]
    · refine ⟨⟨i + 1, by omega, all_step hall hb⟩, by dsimp only; omega, ?_⟩
      simp -implicitDefEqProofs only [go_sem, hh]
      simp
    · rw [← bOf_d, bOf_congr]
      exact ⟨fun h => ⟨mem_getD fun j hj => hall j (by omega), by omega⟩, fun h => by have := h.2; omega⟩
end
def c74 : Ct := ctR (lc EAd.ag l0) (fun p => True) (fun p => .t (.v (.bool (bOf (AdOk p.1)))))
section
attribute [local go_sem] c123 c93
theorem good74 {G : Gt} (hG : OkG G) (hh : G.e 123 = roEnt 0 c123 ∧ G.e 93 = roEnt 0 c93) : Gd G 74 (roEnt 0 c74) := by
  refine gR (dp := fun _ => true) (fn := Tryz.f74) (n := 1) (fun _ => rfl) (by kernel_rfl) rfl (by kernel_rfl) hG (Nat.le_of_ble_eq_true rfl) (by kernel_rfl) (by decide) (fun _ _ => .v _) ?_
  rintro ⟨a, ⟨⟩⟩ hpre
  simp -implicitDefEqProofs only [Tryz.f74, go_sem, hh] at hpre ⊢
  repeat' (first | with_reducible apply And.intro | with_reducible intro _ | ((first | apply brB_split | apply aPickB_split | apply gB_split | apply adB_split) <;> intro hb <;> simp -implicitDefEqProofs only [hb, go_sem, hh] <;> try simp only [qz] at hb))
  all_goals first
    | rfl
    | (rw [bOf_n (fun h => hb h.1)]; done)
    | (rw [bOf_congr]; exact ⟨fun h => ⟨by assumption, h⟩, fun h => h.2⟩)
    | trace_state
end
def c72 : Ct := ctR (lc EAd.ag l0) (fun p => True) (fun p => .t (.v (.bool (bOf (AdNull p.1)))))
theorem good72 {G : Gt} (hG : OkG G) : Gd G 72 (roEnt 0 c72) := by
  refine gR (dp := fun _ => true) (fn := Tryz.f72) (n := 1) (fun _ => rfl) (by kernel_rfl) rfl (by kernel_rfl) hG (Nat.le_of_ble_eq_true rfl) (by kernel_rfl) (by decide) (fun _ _ => .v _) ?_
  rintro ⟨a, ⟨⟩⟩ hpre
  simp -implicitDefEqProofs only [Tryz.f72, go_sem] at hpre ⊢
  repeat' (first | with_reducible apply And.intro | with_reducible intro _ | ((first | apply brB_split | apply aPickB_split | apply gB_split | apply adB_split) <;> intro hb <;> simp -implicitDefEqProofs only [hb, go_sem] <;> try simp only [qz] at hb))
  all_goals first
    | rfl
    | (rw [bOf_n (fun h => hb h.1)]; done)
    | (rw [← bOf_d, bOf_congr]; exact ⟨fun h => ⟨by assumption, h⟩, fun h => h.2⟩)
    | trace_state
def c122 : Ct := ctR (lc EStr.asl l0) (fun p => True) (fun p => .t (.v (.bool (bOf (BdOk p.1)))))
section
attribute [local go_sem] c96
theorem good122 {G : Gt} (hG : OkG G) (hh : G.e 96 = roEnt 0 c96) : Gd G 122 (roEnt 0 c122) := by
  refine gR (dp := fun _ => true) (fn := Tryz.f122) (n := 1) (fun _ => rfl) (by kernel_rfl) rfl (by kernel_rfl) hG (Nat.le_of_ble_eq_true rfl) (by kernel_rfl) (by decide) (fun _ _ => .v _) ?_
  rintro ⟨xs, ⟨⟩⟩ hpre
  simp -implicitDefEqProofs only [Tryz.f122, go_sem, hh] at hpre ⊢
  refine run_loop [] (ι := {i : Nat // i ≤ xs.length ∧ ∀ j, j < i → Lin (xs.getD j default)}) (fun p => ⟨[(0, .t (.sl 1 (xs.map encStr))), (3, .t (.v (.int .i64 p.1)))], []⟩) (fun p => xs.length - p.1) ⟨0, by simp, by simp⟩ rfl ?_ ?_
  · simp -implicitDefEqProofs only [go_sem, hh]
    simp
  · rintro ⟨i, hi, hall⟩
    simp -implicitDefEqProofs only [go_sem, hh]
    repeat' (first | with_reducible apply And.intro | with_reducible intro _ | ((first | apply brB_split | apply aPickB_split | apply gB_split | apply adB_split) <;> intro hb <;> simp -implicitDefEqProofs only [hb, go_sem, hh] <;> try simp only [qz] at hb))
    all_goals (try simp only [maxLen, Int.toNat_natCast, List.length_map] at *)
    all_goals first | rfl | omega | skip
    · rw [bOf_n (fun h => hb (h.1 _ (getD_mem (by omega))))]
    · refine ⟨⟨i + 1, by omega, all_step hall hb⟩, by dsimp only; omega, ?_⟩
      simp -implicitDefEqProofs only [go_sem, hh]
      simp
    · rw [← bOf_d, bOf_congr]
      exact ⟨fun h => ⟨mem_getD fun j hj => hall j (by omega), by omega⟩, fun h => by have := h.2; omega⟩
end
theorem two_args {w : World} {pr : Nat → Prop} {u v : Value} {vs : List Value} (h : AHasL ρ0 w pr [.t (.v u), .t (.v v)] vs []) : vs = [u, v] := by
  obtain ⟨a, l, rfl, h1, h2⟩ := h.one
  obtain ⟨b, l2, rfl, h3, h4⟩ := h2.one
  generalize hF : ([] : List Nat) = F at h4
  cases h4
  rw [h1.val.1, h3.val.1]
theorem GlOk.cell {m : Int} {w : World} {pr : Nat → Prop} (h : GlOk m w pr) : w.cell? ⟨0, 0, none⟩ = some (.int .i64 m) := by
  unfold GlOk at h
  cases h with
  | rop cs a vs hp hv hr =>
    cases hr with
    | cons t v ts vs h1 h2 =>
      cases h1 with
      | v x hx =>
        have := hv 0 (.int .i64 m) rfl
        simpa [Addr.add, glb] using this
def c223 : Ct := ctR (lc AStr (lc AU8 l0)) (fun _ => True) (fun p => .t (.v (.int .i64 (Lib.indexByte (bl p.1) (UInt8.ofNat p.2.1.toNat)))))
theorem c223_eq {args : List AV} {K : AV → Prop} : c223 args K = K0 (fun (_ : ByteArray × Int × Unit) => True) (fun p => .t (.v (.int .i64 (Lib.indexByte (bl p.1) (UInt8.ofNat p.2.1.toNat))))) K ((lc AStr (lc AU8 l0)).dec args) := rfl
theorem good223 (m : Int) : GoodX Tryz.prog m 223 c223 := GoodX.of (r := fun (p : ByteArray × Int × Unit) => .int .i64 (Lib.indexByte (bl p.1) (UInt8.ofNat p.2.1.toNat))) (fun _ => trivial) fun p _ => by
  obtain ⟨s, c, ⟨⟩⟩ := p
  intro w pr vs hgl hv
  have := two_args hv
  subst this
  have he : Extern.find Tryz.f223 = some Extern.BytealgIndexByte.indexByte := by kernel_rfl
  rw [run_callFunc_extern (fn := Tryz.f223) (by kernel_rfl) (by kernel_rfl) rfl (by kernel_rfl) he]
  have h := Lib.run_indexByteString (P := Tryz.prog) s c w
  rw [show ([Value.string s, Value.int .u8 c].toArray) = #[.string s, .int .u8 c] from rfl, h]
  rfl
def c196 : Ct := ctR (lc AStr (lc AU8 l0)) (fun _ => True) (fun p => .t (.v (.int .i64 (Lib.countByte (bl p.1) (UInt8.ofNat p.2.1.toNat)))))
theorem c196_eq {args : List AV} {K : AV → Prop} : c196 args K = K0 (fun (_ : ByteArray × Int × Unit) => True) (fun p => .t (.v (.int .i64 (Lib.countByte (bl p.1) (UInt8.ofNat p.2.1.toNat))))) K ((lc AStr (lc AU8 l0)).dec args) := rfl
theorem good196 (m : Int) : GoodX Tryz.prog m 196 c196 := GoodX.of (r := fun (p : ByteArray × Int × Unit) => .int .i64 (Lib.countByte (bl p.1) (UInt8.ofNat p.2.1.toNat))) (fun _ => trivial) fun p _ => by
  obtain ⟨s, c, ⟨⟩⟩ := p
  intro w pr vs hgl hv
  have := two_args hv
  subst this
  have he : Extern.find Tryz.f196 = some Extern.BytealgCount.count := by kernel_rfl
  rw [run_callFunc_extern (fn := Tryz.f196) (by kernel_rfl) (by kernel_rfl) rfl (by kernel_rfl) he]
  have h := Lib.run_countString (P := Tryz.prog) s c w
  rw [show ([Value.string s, Value.int .u8 c].toArray) = #[.string s, .int .u8 c] from rfl, h]
  rfl
def c213 (m : Int) : Ct := ctR (lc AStr (lc AStr l0)) (fun p => 2 ≤ p.2.1.size ∧ (p.2.1.size : Int) ≤ m ∧ p.1.size ≤ 2000000) (fun p => .t (.v (.int .i64 (Lib.indexB p.1 p.2.1))))
theorem c213_eq {m : Int} {args : List AV} {K : AV → Prop} : c213 m args K = K0 (fun (p : ByteArray × ByteArray × Unit) => 2 ≤ p.2.1.size ∧ (p.2.1.size : Int) ≤ m ∧ p.1.size ≤ 2000000) (fun p => .t (.v (.int .i64 (Lib.indexB p.1 p.2.1)))) K ((lc AStr (lc AStr l0)).dec args) := rfl
theorem good213 (m : Int) : GoodX Tryz.prog m 213 (c213 m) := GoodX.of (r := fun (p : ByteArray × ByteArray × Unit) => .int .i64 (Lib.indexB p.1 p.2.1)) (fun _ => trivial) fun p hp => by
  obtain ⟨s, b, ⟨⟩⟩ := p
  intro w pr vs hgl hv
  have := two_args hv
  subst this
  have he : Extern.find Tryz.f213 = some Extern.BytealgIndex.index := by kernel_rfl
  rw [run_callFunc_extern (fn := Tryz.f213) (by kernel_rfl) (by kernel_rfl) rfl (by kernel_rfl) he]
  have h := Lib.run_indexString (P := Tryz.prog) s b w 0 m (by kernel_rfl) hgl.cell hp.1 hp.2.1 (by have h3 : s.size ≤ 2000000 := hp.2.2; omega)
  rw [show ([Value.string s, Value.string b].toArray) = #[.string s, .string b] from rfl, h]
  rfl
theorem byteAt_get (s : ByteArray) (i : Nat) (h : i < s.size) : byteAt s i = (s[i].toNat : Int) := by
  rw [byteAt_bl]
  have h' : i < (bl s).length := h
  have : (bl s).getD i 0 = s[i] := by
    simp [h']
    rfl
  rw [this]
  rfl
theorem toList_bl (s : ByteArray) : s.toList = bl s := ByteArray.toList_eq s
theorem beq_of_eq {s t : ByteArray} (h : s = t) : (s.toList == t.toList) = true := by rw [h]; simp
theorem beq_of_ne {s t : ByteArray} (h : ¬ s = t) : (s.toList == t.toList) = false := by
  rw [toList_bl, toList_bl]
  simpa using fun e => h (bl_inj e)
def c214 : Ct := ctR (lc AStr (lc AU8 l0)) (fun p => True) (fun p => .t (.v (.int .i64 (Lib.indexByte (bl p.1) (UInt8.ofNat p.2.1.toNat)))))
section
attribute [local go_sem] c223
theorem good214 {G : Gt} (hG : OkG G) (hh : G.e 223 = roEnt 3 c223) : Gd G 214 (roEnt 0 c214) := by
  refine gR (dp := fun _ => true) (fn := Tryz.f214) (n := 2) (fun _ => rfl) (by kernel_rfl) rfl (by kernel_rfl) hG (Nat.le_of_ble_eq_true rfl) (by kernel_rfl) (by decide) (fun _ _ => .v _) ?_
  rintro ⟨s, c, ⟨⟩⟩ hpre
  simp -implicitDefEqProofs only [Tryz.f214, go_sem, hh] at hpre ⊢
  repeat' (first | with_reducible apply And.intro | with_reducible intro _ | ((first | apply brB_split | apply aPickB_split | apply gB_split | apply adB_split) <;> intro hb <;> simp -implicitDefEqProofs only [hb, go_sem, hh] <;> try simp only [qz] at hb))
  all_goals first | rfl | trace_state
end
def c212 : Ct := ctR (lc AInt l0) (fun p => 0 ≤ p.1 ∧ p.1 ≤ 1000000000000) (fun p => .t (.v (.int .i64 ((p.1 + 16) / 8))))
theorem good212 {G : Gt} (hG : OkG G) : Gd G 212 (roEnt 0 c212) := by
  refine gR (dp := fun _ => true) (fn := Tryz.f212) (n := 1) (fun _ => rfl) (by kernel_rfl) rfl (by kernel_rfl) hG (Nat.le_of_ble_eq_true rfl) (by kernel_rfl) (by decide) (fun _ _ => .v _) ?_
  rintro ⟨n, ⟨⟩⟩ hpre
  simp -implicitDefEqProofs only [Tryz.f212, go_sem] at hpre ⊢
  repeat' (first | with_reducible apply And.intro | with_reducible intro _ | ((first | apply brB_split | apply aPickB_split | apply gB_split | apply adB_split) <;> intro hb <;> simp -implicitDefEqProofs only [hb, go_sem] <;> try simp only [qz] at hb))
  all_goals first | rfl | omega | trace_state
open Go.Lib in
theorem hash_next (s : ByteArray) (k : Nat) (hk : k < s.size) {h : Int} (hh : h = RK.H ((bl s).take k) % 4294967296) : (h * 16777619 % 4294967296 + byteAt s k) % 4294967296 = RK.H ((bl s).take (k + 1)) % 4294967296 := by
  have := Go.Proofs.hash_step s k hk hh
  rw [byteAt_get s k hk]
  have h2 : (s[k].toNat : Int) % 4294967296 = s[k].toNat := by
    have := s[k].toNat_lt
    omega
  rw [h2] at this
  exact this
theorem u32_lt (x : Int) : 0 ≤ x % 4294967296 ∧ x % 4294967296 < 4294967296 := by omega
def hsR (s : ByteArray) : AV := .tup [.t (.v (.int .u32 (Lib.RK.H (bl s) % 4294967296))), .t (.v (.int .u32 (16777619 ^ s.size % 4294967296)))]
def c224 : Ct := ctR (lc AStr l0) (fun p => p.1.size ≤ 2000000) (fun p => hsR p.1)
section
attribute [local go_sem] hsR
theorem good224 {G : Gt} (hG : OkG G) : Gd G 224 (roEnt 0 c224) := by
  refine gR (dp := fun _ => true) (fn := Tryz.f224) (n := 1) (fun _ => rfl) (by kernel_rfl) rfl (by kernel_rfl) hG (Nat.le_of_ble_eq_true rfl) (by kernel_rfl) (by decide) (fun _ p => .tup _ (by intro c hc; simp only [List.mem_cons, List.not_mem_nil, or_false] at hc; rcases hc with rfl | rfl <;> exact .v _)) ?_
  rintro ⟨s, ⟨⟩⟩ hpre
  simp -implicitDefEqProofs only [Tryz.f224, go_sem] at hpre ⊢
  refine run_loop [] (ι := {i : Nat // i ≤ s.size}) (fun p => ⟨[(0, .t (.v (.string s))), (4, .t (.v (.int .u32 (Lib.RK.H ((bl s).take p.1) % 4294967296)))), (5, .t (.v (.int .i64 p.1)))], []⟩) (fun p => s.size - p.1) ⟨0, by omega⟩ rfl ?_ ?_
  · simp -implicitDefEqProofs only [go_sem]
    simp [Lib.RK.H_nil]
  · rintro ⟨i, hi⟩
    simp -implicitDefEqProofs only [go_sem]
    repeat' (first | with_reducible apply And.intro | with_reducible intro _ | ((first | apply brB_split | apply aPickB_split | apply gB_split | apply adB_split) <;> intro hb <;> simp -implicitDefEqProofs only [hb, go_sem] <;> try simp only [qz] at hb))
    all_goals (try simp only [maxLen, Int.toNat_natCast] at *)
    all_goals (try have hbr := byteAt_range s i)
    all_goals first | rfl | omega | skip
    · refine ⟨⟨i + 1, by omega⟩, by dsimp only; omega, ?_⟩
      rw [hash_next s i (by omega) rfl]
      simp -implicitDefEqProofs only [go_sem]
      try simp
    · have hii : i = s.size := by omega
      have hle : (bl s).length ≤ i := by rw [bl_len]; omega
      rw [List.take_of_length_le hle]
      refine run_loop [] (ι := {p : Nat × Int × Int // p.1 ≤ 2000000 ∧ Lib.RK.PowInv s.size p.1 p.2.1 p.2.2 ∧ 0 ≤ p.2.1 ∧ p.2.1 < 4294967296}) (fun p => ⟨[(4, .t (.v (.int .u32 (Lib.RK.H (bl s) % 4294967296)))), (6, .t (.v (.int .u32 p.1.2.1))), (7, .t (.v (.int .u32 p.1.2.2))), (8, .t (.v (.int .i64 p.1.1)))], []⟩) (fun p => p.1.1) ⟨(s.size, 1, 16777619), by simpa using hpre, Lib.RK.pow_start _, by simp, by simp⟩ rfl ?_ ?_
      · simp -implicitDefEqProofs only [go_sem]
        try simp
      · rintro ⟨⟨k, pw, sq⟩, hk, hpi, h0, h1⟩
        have hand := Go.Proofs.and_one k (by simp only at hk; omega)
        simp only at hk h0 h1 hpi
        have hpw : ((k : Int) / 2 ^ (1 : Int).toNat) = ((k / 2 : Nat) : Int) := by simp
        simp -implicitDefEqProofs only [go_sem]
        repeat' (first | with_reducible apply And.intro | with_reducible intro _ | ((first | apply brB_split | apply aPickB_split | apply gB_split | apply adB_split) <;> intro hb <;> simp -implicitDefEqProofs only [hb, go_sem] <;> try simp only [qz] at hb))
        all_goals (try simp only [maxLen, Int.toNat_natCast] at *)
        all_goals first | rfl | omega | skip
        · have h2 : k % 2 = 1 := by rw [hand] at hb; omega
          have := u32_lt (pw * sq)
          refine ⟨⟨(k / 2, pw * sq % 4294967296, sq * sq % 4294967296), by simp only []; omega, Lib.RK.pow_odd hpi h2, this.1, this.2⟩, by simp only []; omega, ?_⟩
          rw [hpw]
          simp -implicitDefEqProofs only [go_sem]
          try simp
        · have h2 : k % 2 = 0 := by rw [hand] at hb; omega
          refine ⟨⟨(k / 2, pw, sq * sq % 4294967296), by simp only []; omega, Lib.RK.pow_even hpi h2, h0, h1⟩, by simp only []; omega, ?_⟩
          rw [hpw]
          simp -implicitDefEqProofs only [go_sem]
          try simp
        · have h2 : k = 0 := by omega
          subst h2
          rw [← Lib.RK.pow_end hpi h0 h1]
end
open Go.Lib in
theorem roll_next (s : ByteArray) (n i : Nat) (hn : 1 ≤ n) (hni : n ≤ i) (hi : i < s.size) {h pw : Int} (hh : h = RK.H (RK.win (bl s) (i - n) n) % 4294967296) (hp : pw = 16777619 ^ n % 4294967296) :
    ((h * 16777619 % 4294967296 + byteAt s i) % 4294967296 - pw * byteAt s (i - n) % 4294967296) % 4294967296 = RK.H (RK.win (bl s) (i + 1 - n) n) % 4294967296 := by
  have := Go.Proofs.roll_step s n i hn hni hi hh hp
  rw [byteAt_get s i hi, byteAt_get s (i - n) (by omega)]
  have h2 : (s[i - n].toNat : Int) % 4294967296 = s[i - n].toNat := by
    have := s[i - n].toNat_lt
    omega
  rw [h2] at this
  rw [← show RK.H (RK.win s.data.toList (i + 1 - n) n) % 4294967296 = RK.H (RK.win (bl s) (i + 1 - n) n) % 4294967296 from rfl, ← this]
  generalize pw * (s[i - n].toNat : Int) = X
  omega
def c215 : Ct := ctR (lc AStr (lc AStr l0)) (fun p => 1 ≤ p.2.1.size ∧ p.2.1.size ≤ p.1.size ∧ p.1.size ≤ 2000000) (fun p => .t (.v (.int .i64 (Lib.indexB p.1 p.2.1))))
section
attribute [local go_sem] c224 hsR
theorem good215 {G : Gt} (hG : OkG G) (hh : G.e 224 = roEnt 0 c224) : Gd G 215 (roEnt 0 c215) := by
  refine gR (dp := fun _ => true) (fn := Tryz.f215) (n := 2) (fun _ => rfl) (by kernel_rfl) rfl (by kernel_rfl) hG (Nat.le_of_ble_eq_true rfl) (by kernel_rfl) (by decide) (fun _ _ => .v _) ?_
  rintro ⟨s, sep, ⟨⟩⟩ hpre
  simp -implicitDefEqProofs only [Tryz.f215, go_sem, hh] at hpre ⊢
  repeat' (first | with_reducible apply And.intro | with_reducible intro _ | ((first | apply brB_split | apply aPickB_split | apply gB_split | apply adB_split) <;> intro hb <;> simp -implicitDefEqProofs only [hb, go_sem, hh] <;> try simp only [qz] at hb))
  all_goals first | rfl | omega | skip
  refine run_loop [] (ι := {i : Nat // i ≤ sep.size}) (fun p => ⟨[(0, .t (.v (.string s))), (1, .t (.v (.string sep))), (5, .t (.v (.int .u32 (Lib.RK.H (bl sep) % 4294967296)))), (6, .t (.v (.int .u32 (16777619 ^ sep.size % 4294967296)))), (7, .t (.v (.int .i64 sep.size))), (8, .t (.v (.int .u32 (Lib.RK.H ((bl s).take p.1) % 4294967296)))), (9, .t (.v (.int .i64 p.1)))], []⟩) (fun p => sep.size - p.1) ⟨0, by omega⟩ rfl ?_ ?_
  · simp -implicitDefEqProofs only [go_sem, hh]
    simp [Lib.RK.H_nil]
  · rintro ⟨i, hi⟩
    simp -implicitDefEqProofs only [go_sem, hh]
    repeat' (first | with_reducible apply And.intro | with_reducible intro _ | ((first | apply brB_split | apply aPickB_split | apply gB_split | apply adB_split) <;> intro hb <;> simp -implicitDefEqProofs only [hb, go_sem, hh] <;> try simp only [qz] at hb))
    all_goals (try simp only [maxLen, Int.toNat_natCast] at *)
    all_goals (try have hbr := byteAt_range s i)
    all_goals first | rfl | omega | skip
    · refine ⟨⟨i + 1, by omega⟩, by dsimp only; omega, ?_⟩
      rw [hash_next s i (by omega) rfl]
      simp -implicitDefEqProofs only [go_sem, hh]
      try simp
    · rw [Lib.hit s sep 0 (fun j hj => absurd hj (Nat.not_lt_zero _)) (by omega) (beq_of_eq (by rw [Nat.zero_add]; exact hb))]
      rfl
    all_goals
      have hii : i = sep.size := by omega
      have hb0 := hb
      subst hii
      have hno : Lib.NoOccB s sep (sep.size - sep.size + 1) := by
        rw [Nat.sub_self]
        refine Lib.NoOcc.succ (fun j hj => absurd hj (Nat.not_lt_zero _)) ?_
        first
          | exact Go.Proofs.occ_no s sep 0 (by omega) (by rw [Nat.zero_add]; exact beq_of_ne hb0)
          | exact Go.Proofs.occ_no_hash s sep 0 (by omega) rfl rfl hb0
      refine run_loop [] (ι := {k : Nat // sep.size ≤ k ∧ k ≤ s.size ∧ Lib.NoOccB s sep (k - sep.size + 1)}) (fun p => ⟨[(0, .t (.v (.string s))), (1, .t (.v (.string sep))), (5, .t (.v (.int .u32 (Lib.RK.H (bl sep) % 4294967296)))), (6, .t (.v (.int .u32 (16777619 ^ sep.size % 4294967296)))), (7, .t (.v (.int .i64 sep.size))), (8, .t (.v (.int .u32 (Lib.RK.H (Lib.RK.win (bl s) (p.1 - sep.size) sep.size) % 4294967296)))), (10, .t (.v (.int .i64 p.1)))], []⟩) (fun p => s.size - p.1) ⟨sep.size, by omega, by omega, hno⟩ rfl ?_ ?_
      · simp -implicitDefEqProofs only [go_sem, hh]
        try simp [Lib.RK.win_zero]
      · rintro ⟨k, hk1, hk2, hk3⟩
        have hrn := fun h => roll_next s sep.size k (by omega) hk1 h rfl rfl
        have eks : ((k : Int) - sep.size).toNat = k - sep.size := by omega
        have eks1 : ((k : Int) + 1 - sep.size).toNat = k + 1 - sep.size := by omega
        have ek1 : ((k : Int) + 1).toNat = k + 1 := by omega
        simp -implicitDefEqProofs only [go_sem, hh]
        repeat' (first | with_reducible apply And.intro | with_reducible intro _ | ((first | apply brB_split | apply aPickB_split | apply gB_split | apply adB_split) <;> intro hb <;> simp -implicitDefEqProofs only [hb, go_sem, hh] <;> try simp only [qz] at hb))
        all_goals (try simp only [maxLen, Int.toNat_natCast] at *)
        all_goals (try have hbr := byteAt_range s k)
        all_goals (try have hbr2 := byteAt_range s (k - sep.size))
        all_goals (try simp only [eks, eks1, ek1] at *)
        all_goals first | rfl | omega | skip
        all_goals (try have hkk := hrn (by omega))
        all_goals have e1 : k - sep.size + 1 = k + 1 - sep.size := by omega
        all_goals rw [e1] at hk3
        · have e2 : k + 1 - sep.size + sep.size = k + 1 := by omega
          rw [Lib.hit s sep (k + 1 - sep.size) hk3 (by omega) (beq_of_eq (by rw [e2]; exact hb))]
          have e3 : ((k + 1 - sep.size : Nat) : Int) = (k : Int) + 1 - sep.size := by omega
          rw [e3]
        · have e2 : k + 1 - sep.size + sep.size = k + 1 := by omega
          have hocc := Go.Proofs.occ_no s sep (k + 1 - sep.size) (by omega) (by rw [e2]; exact beq_of_ne hb)
          refine ⟨⟨k + 1, by omega, by omega, Lib.NoOcc.succ hk3 hocc⟩, by dsimp only; omega, ?_⟩
          rw [hkk]
          simp -implicitDefEqProofs only [go_sem, hh]
          try simp
        · rw [hkk] at hb
          have hocc := Go.Proofs.occ_no_hash s sep (k + 1 - sep.size) (by omega) rfl rfl hb
          refine ⟨⟨k + 1, by omega, by omega, Lib.NoOcc.succ hk3 hocc⟩, by dsimp only; omega, ?_⟩
          rw [hkk]
          simp -implicitDefEqProofs only [go_sem, hh]
          try simp
        · rw [Lib.past s sep (k + 1 - sep.size) hk3 (by omega) (by omega)]
end
section
open Go.Lib
theorem ib_cases (s : ByteArray) (c : UInt8) : indexByte (bl s) c = -1 ∨ ∃ o : Nat, indexByte (bl s) c = o ∧ o < s.size := by
  have hge := indexByte_ge (bl s) c
  by_cases h : indexByte (bl s) c = -1
  · exact .inl h
  · obtain ⟨o, ho⟩ : ∃ o : Nat, indexByte (bl s) c = o := ⟨(indexByte (bl s) c).toNat, by omega⟩
    refine .inr ⟨o, ho, ?_⟩
    obtain ⟨h1, _⟩ := indexByte_some ho
    exact (List.getElem?_eq_some_iff.1 h1).1
theorem byte_back2 (sub : ByteArray) (h : 0 < sub.size) : UInt8.ofNat (byteAt sub 0).toNat = ((sub[0].toNat : Int)).toNat.toUInt8 := by rw [byteAt_get sub 0 h]
theorem ix_ne {s sub : ByteArray} {k j : Nat} (hk : k < s.size) (hj : j < sub.size) (h : ¬ byteAt s k = byteAt sub j) : ((((s[k].toNat : Nat) : Int)) != ((sub[j].toNat : Nat) : Int)) = true := by
  rw [byteAt_get s k hk, byteAt_get sub j hj] at h
  simpa using h
theorem ix_skip_none {s sub : ByteArray} {k : Nat} (h2 : 2 ≤ sub.size) (hls : sub.size ≤ s.size) (hk : k < s.size) (hno : NoOccB s sub k) (hne : ¬ byteAt s k = byteAt sub 0) (hib : indexByte (bl (s.extract (k + 1) (s.size - sub.size + 1))) (UInt8.ofNat (byteAt sub 0).toNat) = -1) : indexB s sub = -1 :=
  skip_none s sub k h2 hls hk hno (ix_ne hk (by omega) hne) (by rw [byte_back2 sub (by omega)] at hib; exact hib)
theorem ix_skip_some {s sub : ByteArray} {k o : Nat} (h2 : 2 ≤ sub.size) (hk : k < s.size) (hno : NoOccB s sub k) (hne : ¬ byteAt s k = byteAt sub 0) (hib : indexByte (bl (s.extract (k + 1) (s.size - sub.size + 1))) (UInt8.ofNat (byteAt sub 0).toNat) = o) : NoOccB s sub (k + (o + 1)) :=
  skip_some s sub k o h2 hk hno (ix_ne hk (by omega) hne) (by rw [byte_back2 sub (by omega)] at hib; exact hib)
theorem ix_second {s sub : ByteArray} {i : Nat} (hno : NoOccB s sub i) (h2 : 2 ≤ sub.size) (hi : i + 1 < s.size) (hne : ¬ byteAt s (i + 1) = byteAt sub 1) : NoOccB s sub (i + 1) :=
  miss_second s sub i hno h2 hi (by rw [byteAt_get s _ hi, byteAt_get sub 1 (by omega)] at hne; exact hne)
theorem ix_piece {s sub : ByteArray} {i : Nat} (hno : NoOccB s sub i) (hi : i + sub.size ≤ s.size) (h : ¬ s.extract i (i + sub.size) = sub) : NoOccB s sub (i + 1) := miss_piece s sub i hno hi (beq_of_ne h)
theorem ix_bound (s sub : ByteArray) (a : Nat) : -1 ≤ indexB (s.extract a s.size) sub ∧ indexB (s.extract a s.size) sub ≤ s.size := ⟨index_ge _ _, index_tail_le s sub a⟩
theorem ix_one {s sub : ByteArray} (h : sub.size = 1) : indexByte (bl s) (UInt8.ofNat (byteAt sub 0).toNat) = indexB s sub := by
  rw [one s sub h, byte_back2 sub (by omega)]; rfl
theorem ix_zero {s sub : ByteArray} (h : sub.size = 0 ∨ sub = s) : indexB s sub = 0 := zero s sub (by
  rcases h with h | h
  · exact .inl (by rw [h]; rfl)
  · exact .inr (beq_of_eq h))
theorem ix_fb {s sub : ByteArray} {k : Nat} (hno : NoOccB s sub k) (hk : k ≤ s.size) : indexB s sub = if indexB (s.extract k s.size) sub < 0 then -1 else indexB (s.extract k s.size) sub + k := by
  split
  · exact fb_neg s sub k hno hk (r := indexB (s.extract k s.size) sub) rfl (by assumption) (ix_bound s sub k).1
  · exact fb_pos s sub k hno hk (r := indexB (s.extract k s.size) sub) rfl (by omega)
theorem ivc {k : IntKind} {x y : Int} (h : x = y) : T.v (.int k x) = T.v (.int k y) := by rw [h]
theorem ix_long {s sub : ByteArray} (h1 : s.size ≤ sub.size) (h2 : ¬ sub = s) : indexB s sub = -1 := long s sub h1 (beq_of_ne h2)
end
def c197 : Ct := ctR (lc AStr (lc AStr l0)) (fun p => p.2.1.size ≤ 2000000 ∧ p.1.size ≤ 2000000) (fun p => .t (.v (.int .i64 (Lib.indexB p.1 p.2.1))))
section
attribute [local go_sem] c214 c213 c212 c215 glb eq_self decide_true Bool.not_true Bool.not_false
set_option maxHeartbeats 8000000 in
theorem good197 {G : Gt} (hG : OkG G) (hh : G.e 214 = roEnt 0 c214 ∧ G.e 213 = roEnt 3 (c213 G.m) ∧ G.e 212 = roEnt 0 c212 ∧ G.e 215 = roEnt 0 c215) : Gd G 197 (roEnt 0 c197) := by
  refine gR (dp := fun _ => true) (fn := Tryz.f197) (n := 2) (fun _ => rfl) (by kernel_rfl) rfl (by kernel_rfl) hG (Nat.le_of_ble_eq_true rfl) (by kernel_rfl) (by decide) (fun _ _ => .v _) ?_
  rintro ⟨s, sub, ⟨⟩⟩ hpre
  simp -implicitDefEqProofs only [Tryz.f197, go_sem, hh] at hpre ⊢
  repeat' (first | with_reducible apply And.intro | with_reducible intro _ | ((first | apply brB_split | apply aPickB_split | apply gB_split | apply adB_split) <;> intro hb <;> simp -implicitDefEqProofs only [hb, go_sem, hh] <;> try simp only [qz] at hb))
  all_goals (try simp only [maxLen, Int.toNat_natCast] at *)
  all_goals first | rfl | omega | skip
  · rw [ix_zero (.inl (by omega))]
  · rename_i hb; rw [ix_zero (.inr hb)]
  · rw [← ix_one (s := s) (sub := sub) (by omega)]; rfl
  · rw [ix_long (by omega) (by assumption)]
  all_goals
    have h2 : 2 ≤ sub.size := by omega
    have hls : sub.size < s.size := by omega
    refine run_loop [] (ι := {p : Nat × Nat // p.1 ≤ s.size - sub.size + 1 ∧ Lib.NoOccB s sub p.1 ∧ p.2 ≤ p.1}) (fun p => ⟨[(0, .t (.v (.string s))), (1, .t (.v (.string sub))), (5, .t (.v (.int .i64 sub.size))), (6, .t (.v (.int .u8 (byteAt sub 0)))), (7, .t (.v (.int .u8 (byteAt sub 1)))), (8, .t (.v (.int .i64 p.1.1))), (9, .t (.v (.int .i64 (s.size - sub.size + 1)))), (10, .t (.v (.int .i64 p.1.2)))], []⟩) (fun p => s.size - p.1.1) ⟨(0, 0), by dsimp only; omega, (fun j hj => absurd hj (Nat.not_lt_zero _)), by dsimp only; omega⟩ rfl ?_ ?_
    · simp -implicitDefEqProofs only [go_sem, hh]
      simp
    · rintro ⟨⟨i, f⟩, hi, hno, hf⟩
      dsimp only at hi hno hf
      have et : ((s.size : Int) - sub.size + 1).toNat = s.size - sub.size + 1 := by omega
      have ei : ((i : Int) + 1).toNat = i + 1 := by omega
      by_cases ht : (i : Int) < s.size - sub.size + 1
      · by_cases e0 : byteAt s (i : Int).toNat = byteAt sub 0
        · have e1 : ((i : Int) + sub.size).toNat = i + sub.size := by omega
          simp -implicitDefEqProofs only [ht, e0, go_sem, hh]
          repeat' (first | with_reducible apply And.intro | with_reducible intro _ | ((first | apply brB_split | apply aPickB_split | apply gB_split | apply adB_split) <;> intro hb <;> simp -implicitDefEqProofs only [hb, go_sem, hh] <;> try simp only [qz] at hb))
          all_goals (try simp only [maxLen, Int.toNat_natCast, Int.reduceToNat, ei, et, e1] at *)
          all_goals first | rfl | omega | skip
          all_goals first
            | (rw [Lib.hit s sub i hno (by omega) (beq_of_eq (by assumption))]; done)
            | (rw [ByteArray.size_extract]; omega)
            | (have hk2 : Lib.NoOccB s sub (i + 1) := by
                 first
                   | exact ix_piece hno (by omega) (by assumption)
                   | exact ix_second hno h2 (by omega) (by assumption)
               have hbd := ix_bound s sub (i + 1)
               first
                 | omega
                 | (refine ivc ?_
                    rw [ix_fb hk2 (by omega)]
                    first
                      | (rw [if_pos (by omega)]; done)
                      | (rw [if_neg (by omega)]; omega))
                 | (refine ⟨⟨(i + 1, f + 1), by dsimp only; omega, hk2, by dsimp only; omega⟩, by dsimp only; omega, ?_⟩
                    simp -implicitDefEqProofs only [go_sem, hh]
                    simp))
        · have hz : True := trivial
          rcases ib_cases (s.extract ((i : Int) + 1).toNat ((s.size : Int) - sub.size + 1).toNat) (UInt8.ofNat (byteAt sub (Int.toNat 0)).toNat) with h | ⟨o, h, ho⟩
          · have h' : Lib.indexByte (bl (s.extract ((i : Int) + 1).toNat ((s.size : Int) - sub.size + 1).toNat)) (UInt8.ofNat (byteAt sub 0).toNat) = -1 := h
            simp -implicitDefEqProofs only [ht, e0, h', go_sem, hh]
            repeat' (first | with_reducible apply And.intro | with_reducible intro _ | ((first | apply brB_split | apply aPickB_split | apply gB_split | apply adB_split) <;> intro hb <;> simp -implicitDefEqProofs only [hb, go_sem, hh] <;> try simp only [qz] at hb))
            all_goals (try simp only [maxLen] at *)
            all_goals first | rfl | omega | skip
            rw [ei, et] at h'
            rw [Int.toNat_natCast] at e0
            rw [ix_skip_none (k := i) h2 (by omega) (by omega) hno e0 h']
          · have h' : Lib.indexByte (bl (s.extract ((i : Int) + 1).toNat ((s.size : Int) - sub.size + 1).toNat)) (UInt8.ofNat (byteAt sub 0).toNat) = o := h
            have ho' : i + (o + 1) < s.size - sub.size + 1 := by
              rw [ei, et, ByteArray.size_extract] at ho; omega
            have hno' : Lib.NoOccB s sub (i + (o + 1)) := by
              rw [ei, et] at h'
              rw [Int.toNat_natCast] at e0
              exact ix_skip_some (k := i) h2 (by omega) hno e0 h'
            have e4 : ((i : Int) + ((o : Int) + 1)) = ((i + (o + 1) : Nat) : Int) := by omega
            simp -implicitDefEqProofs only [ht, e0, h', e4, go_sem, hh]
            have hik : i ≤ i + (o + 1) := by omega
            have hob : o ≤ 2000000 := by omega
            clear h h' ho e0
            generalize i + (o + 1) = k at *
            have ek : ((k : Int) + 1).toNat = k + 1 := by omega
            have e1 : ((k : Int) + sub.size).toNat = k + sub.size := by omega
            repeat' (first | with_reducible apply And.intro | with_reducible intro _ | ((first | apply brB_split | apply aPickB_split | apply gB_split | apply adB_split) <;> intro hb <;> simp -implicitDefEqProofs only [hb, go_sem, hh] <;> try simp only [qz] at hb))
            all_goals (try simp only [maxLen, Int.toNat_natCast, Int.reduceToNat, ei, et, e1, ek, e4] at *)
            all_goals first | rfl | omega | skip
            all_goals first
              | (rw [Lib.hit s sub k hno' (by omega) (beq_of_eq (by assumption))]; done)
              | (rw [ByteArray.size_extract]; omega)
              | (have hk2 : Lib.NoOccB s sub (k + 1) := by
                   first
                     | exact ix_piece hno' (by omega) (by assumption)
                     | exact ix_second hno' h2 (by omega) (by assumption)
                 have hbd := ix_bound s sub (k + 1)
                 first
                   | omega
                   | (refine ivc ?_
                      rw [ix_fb hk2 (by omega)]
                      first
                        | (rw [if_pos (by omega)]; done)
                        | (rw [if_neg (by omega)]; omega))
                   | (refine ⟨⟨(k + 1, f + 1), by dsimp only; omega, hk2, by dsimp only; omega⟩, by dsimp only; omega, ?_⟩
                      simp -implicitDefEqProofs only [go_sem, hh]
                      simp))

      · simp -implicitDefEqProofs only [ht, go_sem, hh]
        rw [Lib.past s sub i hno (by omega) (by omega)]
end
section
open Go.Lib
theorem eq_of_beqL {a b : ByteArray} (h : (a.toList == b.toList) = true) : a = b := by
  by_cases e : a = b
  · exact e
  · rw [beq_of_ne e] at h; cases h
def spA (c : UInt8) : List UInt8 → List (List UInt8)
  | [] => [[]]
  | x :: r => if x = c then [] :: spA c r else match spA c r with | h :: t => (x :: h) :: t | [] => [[x]]
def spl (s : ByteArray) (c : UInt8) : List ByteArray := (spA c (bl s)).map mB
theorem spA_len (c : UInt8) : ∀ l : List UInt8, (spA c l).length = l.count c + 1
  | [] => rfl
  | x :: r => by
    have h := spA_len c r
    rw [spA]
    by_cases e : x = c
    · rw [if_pos e, e, List.count_cons_self]; simp [h]
    · rw [if_neg e, List.count_cons_of_ne e]
      cases hs : spA c r with
      | nil => rw [hs] at h; simp at h
      | cons a t => rw [hs] at h; simp at h ⊢; exact h
theorem spA_none {c : UInt8} : ∀ {l : List UInt8}, (∀ j : Nat, l[j]? ≠ some c) → spA c l = [l]
  | [], _ => rfl
  | x :: r, h => by
    rw [spA, if_neg (fun e => h 0 (by rw [e]; rfl)), spA_none (fun j => h (j + 1))]
theorem spA_first {c : UInt8} : ∀ (o : Nat) (l : List UInt8), l[o]? = some c → (∀ k : Nat, k < o → l[k]? ≠ some c) → spA c l = l.take o :: spA c (l.drop (o + 1))
  | 0, l, h, _ => by
    cases l with
    | nil => cases h
    | cons x r => simp at h; rw [spA, if_pos h]; rfl
  | o + 1, l, h, hk => by
    cases l with
    | nil => cases h
    | cons x r =>
      rw [spA, if_neg (fun e => hk 0 (by omega) (by rw [e]; rfl)), spA_first o r h (fun k q => hk (k + 1) (by omega))]
      rfl
theorem splitN_spA {c : UInt8} : ∀ (l : List UInt8) (m : Nat), (splitN c m l).length ≤ m ∨ (spA c l).length ≤ m → splitN c m l = spA c l
  | l, 0, h => by
    have := spA_len c l
    rw [splitN] at h
    rcases h with h | h
    · exact absurd h (by simp)
    · omega
  | [], m + 1, _ => by rw [splitN, spA]
  | x :: r, m + 1, h => by
    rw [splitN, spA] at h ⊢
    by_cases e : x = c
    · rw [if_pos e, if_pos e] at h ⊢
      rw [splitN_spA r m (by simp at h; exact h)]
    · rw [if_neg e, if_neg e] at h ⊢
      have h2 : (splitN c (m + 1) r).length ≤ m + 1 ∨ (spA c r).length ≤ m + 1 := by
        rcases h with h | h
        · cases hs : splitN c (m + 1) r with
          | nil => exact .inl (by simp)
          | cons a t => rw [hs] at h; exact .inl (by simpa using h)
        · cases hs : spA c r with
          | nil => exact .inr (by simp)
          | cons a t => rw [hs] at h; exact .inr (by simpa using h)
      rw [splitN_spA r (m + 1) h2]
      all_goals (cases spA c r <;> rfl)
theorem Dom_spl (s : ByteArray) : Dom s ↔ (∀ w ∈ spl s 46, Lbl w) ∧ (spl s 46).length ≤ 3 := by
  unfold Dom cutL spl
  constructor
  · rintro ⟨h1, h2⟩
    rw [List.length_map] at h2
    rw [splitN_spA _ _ (.inl h2)] at h1 h2
    exact ⟨h1, by rw [List.length_map]; exact h2⟩
  · rintro ⟨h1, h2⟩
    rw [List.length_map] at h2
    rw [← splitN_spA _ _ (.inr h2)] at h1 h2
    exact ⟨h1, by rw [List.length_map]; exact h2⟩
theorem indexByte_none : ∀ {l : List UInt8} {c : UInt8}, indexByte l c = -1 → ∀ j : Nat, l[j]? ≠ some c
  | [], c, _, j => by simp
  | b :: l, c, h, j => by
    have hge := indexByte_ge l c
    unfold indexByte at h
    by_cases e : b = c
    · rw [if_pos (by simp [e])] at h; cases h
    · rw [if_neg (by simp [e])] at h
      by_cases e2 : indexByte l c = -1
      · cases j with
        | zero => simp [e]
        | succ j => exact indexByte_none e2 j
      · rw [if_neg (by simp [e2])] at h; omega
theorem spl_none {s sep : ByteArray} (h1 : sep.size = 1) (h : indexB s sep = -1) : spl s (UInt8.ofNat (byteAt sep 0).toNat) = [s] := by
  rw [← ix_one h1] at h
  unfold spl
  rw [spA_none (indexByte_none h)]
  rfl
theorem spl_some {s sep : ByteArray} (h1 : sep.size = 1) {o : Nat} (h : indexB s sep = o) : o < s.size ∧ spl s (UInt8.ofNat (byteAt sep 0).toNat) = s.extract 0 o :: spl (s.extract (o + 1) s.size) (UInt8.ofNat (byteAt sep 0).toNat) := by
  rw [← ix_one h1] at h
  obtain ⟨ha, hb⟩ := indexByte_some h
  refine ⟨(List.getElem?_eq_some_iff.1 ha).1, ?_⟩
  unfold spl
  rw [spA_first o _ ha hb, List.map_cons, bl_extract s (o + 1) s.size, List.take_of_length_le (l := (bl s).drop (o + 1)) (by rw [List.length_drop, bl_len]; exact Nat.le_refl _)]
  rw [extract_mk s 0 o]; rfl
theorem fill_set {α : Type} (enc : α → List T) (d x : α) (p : List α) (n : Nat) : ((p ++ List.replicate (n + 1) d).map enc).set p.length (enc x) = ((p ++ [x]) ++ List.replicate n d).map enc := by
  rw [← List.map_set, List.set_append_right _ _ (Nat.le_refl _), Nat.sub_self, List.replicate_succ, List.set_cons_zero, List.append_assoc]; rfl
theorem fillS {t : ByteArray} {p : List ByteArray} {n : Nat} : ((p ++ List.replicate (n + 1) (⟨#[]⟩ : ByteArray)).map encStr).set p.length [T.v (.string t)] = ((p ++ [t]) ++ List.replicate n (⟨#[]⟩ : ByteArray)).map encStr := fill_set encStr _ t p n
theorem spl_len (s : ByteArray) (c : UInt8) : (spl s c).length = countByte (bl s) c + 1 := by
  unfold spl; rw [List.length_map, spA_len]; rfl
theorem cnt_le (s : ByteArray) (c : UInt8) : countByte (bl s) c ≤ s.size := by
  have := List.count_le_length (a := c) (l := bl s)
  exact this
theorem spl_cases {s sep : ByteArray} (h1 : sep.size = 1) : (indexB s sep = -1 ∧ countByte (bl s) (UInt8.ofNat (byteAt sep 0).toNat) = 0 ∧ spl s (UInt8.ofNat (byteAt sep 0).toNat) = [s]) ∨ ∃ o : Nat, indexB s sep = o ∧ o < s.size ∧ spl s (UInt8.ofNat (byteAt sep 0).toNat) = s.extract 0 o :: spl (s.extract (o + 1) s.size) (UInt8.ofNat (byteAt sep 0).toNat) ∧ countByte (bl s) (UInt8.ofNat (byteAt sep 0).toNat) = countByte (bl (s.extract (o + 1) s.size)) (UInt8.ofNat (byteAt sep 0).toNat) + 1 := by
  have hge := index_ge (bl s) (bl sep)
  by_cases h : indexB s sep = -1
  · refine .inl ⟨h, ?_, spl_none h1 h⟩
    have := spl_len s (UInt8.ofNat (byteAt sep 0).toNat)
    rw [spl_none h1 h] at this
    simp at this; exact this
  · have hge' : -1 ≤ indexB s sep := hge
    obtain ⟨o, ho⟩ : ∃ o : Nat, indexB s sep = o := ⟨(indexB s sep).toNat, by omega⟩
    obtain ⟨a, b⟩ := spl_some h1 ho
    refine .inr ⟨o, ho, a, b, ?_⟩
    have q1 := spl_len s (UInt8.ofNat (byteAt sep 0).toNat)
    have q2 := spl_len (s.extract (o + 1) s.size) (UInt8.ofNat (byteAt sep 0).toNat)
    rw [b, List.length_cons, q2] at q1
    omega
theorem Has_index (s p : ByteArray) : 0 ≤ indexB s p ↔ Has s p := by
  constructor
  · intro h
    rcases index_spec (bl s) (bl p) with ⟨h1, _⟩ | ⟨i, h1, h2, h3, h4⟩
    · have : indexB s p = -1 := h1
      omega
    · have hr := index_room (bl s) (bl p) (by rw [h1]; omega)
      have hi : i + p.size ≤ s.size := by
        rw [h1, bl_len, bl_len] at hr; omega
      refine ⟨i, hi, ?_⟩
      have := occ_of_piece s p i hi
      rw [show occAt s.data.toList p.data.toList i = true from h3] at this
      exact eq_of_beqL this.symm
  · rintro ⟨i, hi, he⟩
    rcases index_spec (bl s) (bl p) with ⟨h1, h2⟩ | ⟨j, h1, h2, h3, h4⟩
    · have h := h2 i (by rw [bl_len]; omega)
      rw [show bl s = s.data.toList from rfl, show bl p = p.data.toList from rfl, occ_of_piece s p i hi, he] at h
      simp at h
    · show 0 ≤ index _ _
      rw [show s.data.toList = bl s from rfl, show p.data.toList = bl p from rfl, h1]
      omega
end
def c182 : Ct := ctR (lc AStr (lc AStr l0)) (fun p => p.2.1.size ≤ 2000000 ∧ p.1.size ≤ 2000000) (fun p => .t (.v (.int .i64 (Lib.indexB p.1 p.2.1))))
section
attribute [local go_sem] c197
theorem good182 {G : Gt} (hG : OkG G) (hh : G.e 197 = roEnt 0 c197) : Gd G 182 (roEnt 0 c182) := by
  refine gR (dp := fun _ => true) (fn := Tryz.f182) (n := 2) (fun _ => rfl) (by kernel_rfl) rfl (by kernel_rfl) hG (Nat.le_of_ble_eq_true rfl) (by kernel_rfl) (by decide) (fun _ _ => .v _) ?_
  rintro ⟨s, sub, ⟨⟩⟩ hpre
  simp -implicitDefEqProofs only [Tryz.f182, go_sem, hh] at hpre ⊢
  repeat' (first | with_reducible apply And.intro | with_reducible intro _ | ((first | apply brB_split | apply aPickB_split | apply gB_split | apply adB_split) <;> intro hb <;> simp -implicitDefEqProofs only [hb, go_sem, hh] <;> try simp only [qz] at hb))
  all_goals first | rfl | omega | skip
end
def c181 : Ct := ctR (lc AStr (lc AStr l0)) (fun p => p.2.1.size = 1 ∧ p.1.size ≤ 2000000) (fun p => .t (.v (.int .i64 (Lib.countByte (bl p.1) (UInt8.ofNat (byteAt p.2.1 0).toNat)))))
section
attribute [local go_sem] c196
theorem good181 {G : Gt} (hG : OkG G) (hh : G.e 196 = roEnt 3 c196) : Gd G 181 (roEnt 0 c181) := by
  refine gR (dp := fun _ => true) (fn := Tryz.f181) (n := 2) (fun _ => rfl) (by kernel_rfl) rfl (by kernel_rfl) hG (Nat.le_of_ble_eq_true rfl) (by kernel_rfl) (by decide) (fun _ _ => .v _) ?_
  rintro ⟨s, sub, ⟨⟩⟩ hpre
  simp -implicitDefEqProofs only [Tryz.f181, go_sem, hh] at hpre ⊢
  have h1 : (sub.size : Int) = 1 := by omega
  simp -implicitDefEqProofs only [h1, go_sem, hh]
  repeat' (first | with_reducible apply And.intro | with_reducible intro _ | ((first | apply brB_split | apply aPickB_split | apply gB_split | apply adB_split) <;> intro hb <;> simp -implicitDefEqProofs only [hb, go_sem, hh] <;> try simp only [qz] at hb))
  all_goals first | rfl | omega | skip
end
def c198 : Ct := ctR (lc AStr (lc AStr l0)) (fun p => p.2.1.size ≤ 2000000 ∧ p.1.size ≤ 2000000) (fun p => .t (.v (.bool (bOf (p.2.1.size ≤ p.1.size ∧ p.1.extract (p.1.size - p.2.1.size) p.1.size = p.2.1)))))
theorem good198 {G : Gt} (hG : OkG G) : Gd G 198 (roEnt 0 c198) := by
  refine gR (dp := fun _ => true) (fn := Tryz.f198) (n := 2) (fun _ => rfl) (by kernel_rfl) rfl (by kernel_rfl) hG (Nat.le_of_ble_eq_true rfl) (by kernel_rfl) (by decide) (fun _ _ => .v _) ?_
  rintro ⟨s, e, ⟨⟩⟩ hpre
  simp -implicitDefEqProofs only [Tryz.f198, go_sem] at hpre ⊢
  repeat' (first | with_reducible apply And.intro | with_reducible intro _ | ((first | apply brB_split | apply aPickB_split | apply gB_split | apply adB_split) <;> intro hb <;> simp -implicitDefEqProofs only [hb, go_sem] <;> try simp only [qz] at hb))
  all_goals (try simp only [maxLen] at *)
  all_goals first | rfl | omega | skip
  · have e1 : (s.size : Int).toNat = s.size := Int.toNat_natCast _
    have e2 : ((s.size : Int) - e.size).toNat = s.size - e.size := by omega
    rw [e1, e2, ← bOf_d]
    exact congrArg (fun b => T.v (.bool b)) (bOf_congr ⟨fun h => ⟨by omega, h⟩, fun h => h.2⟩)
  · rw [bOf_n (fun h => by omega)]
def c162 : Ct := ctR (lc AStr (lc AStr (lc AInt (lc AInt l0)))) (fun p => p.2.1.size = 1 ∧ p.2.2.1 = 0 ∧ p.2.2.2.1 = -1 ∧ p.1.size ≤ 2000000) (fun p => .o true 1 ((spl p.1 (UInt8.ofNat (byteAt p.2.1 0).toNat)).map encStr))
section
attribute [local go_sem] c181 c182 aSet_map aCell_map List.map_replicate
set_option maxHeartbeats 1600000 in
theorem good162 {G : Gt} (hG : OkG G) (hh : G.e 181 = roEnt 0 c181 ∧ G.e 182 = roEnt 0 c182) : Gd G 162 (roEnt 0 c162) := by
  refine gR (dp := fun _ => true) (fn := Tryz.f162) (n := 4) (fun _ => rfl) (by kernel_rfl) rfl (by kernel_rfl) hG (Nat.le_of_ble_eq_true rfl) (by kernel_rfl) (by decide) (fun _ _ => .deep _ _) ?_
  rintro ⟨s, sep, sv, n, ⟨⟩⟩ hpre
  obtain ⟨h1, h2, h3, h4⟩ := hpre
  dsimp only at h1 h2 h3 h4
  subst h2 h3
  have hse : ¬ sep = ⟨#[]⟩ := by intro e; rw [e] at h1; cases h1
  have hc := cnt_le s (UInt8.ofNat (byteAt sep 0).toNat)
  have hl := spl_len s (UInt8.ofNat (byteAt sep 0).toNat)
  have hmin : ¬ ((s.size : Int) + 1 < (Lib.countByte (bl s) (UInt8.ofNat (byteAt sep 0).toNat) : Int) + 1) := by omega
  simp -implicitDefEqProofs only [Tryz.f162, hse, if_neg hmin, go_sem, hh]
  repeat' (first | with_reducible apply And.intro | with_reducible intro _ | ((first | apply brB_split | apply aPickB_split | apply gB_split | apply adB_split) <;> intro hb <;> simp -implicitDefEqProofs only [hb, go_sem, hh] <;> try simp only [qz] at hb))
  all_goals (try simp only [maxLen, Int.toNat_natCast] at *)
  all_goals first | rfl | omega | skip
  refine run_loop [] (ι := {z : List ByteArray × ByteArray // spl s (UInt8.ofNat (byteAt sep 0).toNat) = z.1 ++ spl z.2 (UInt8.ofNat (byteAt sep 0).toNat) ∧ z.2.size ≤ s.size}) (fun z => ⟨[(0, .t (.v (.string z.1.2))), (1, .t (.v (.string sep))), (2, .t (.v (.int .i64 0))), (3, .t (.v (.int .i64 (Lib.countByte (bl s) (UInt8.ofNat (byteAt sep 0).toNat))))), (9, .h 1031), (10, .t (.v (.int .i64 z.1.1.length)))], [(1031, some (.arr true 1 ((z.1.1 ++ List.replicate (Lib.countByte (bl s) (UInt8.ofNat (byteAt sep 0).toNat) + 1 - z.1.1.length) (⟨#[]⟩ : ByteArray)).map encStr)))]⟩) (fun z => s.size + 1 - z.1.1.length) ⟨([], s), rfl, Nat.le_refl _⟩ rfl ?_ ?_
  · simp -implicitDefEqProofs only [go_sem, hh]
    simp
    constructor <;> split <;> omega
  · rintro ⟨⟨p, t⟩, hz, ht⟩
    dsimp only at hz ht
    have hcl : (spl s (UInt8.ofNat (byteAt sep 0).toNat)).length = p.length + (spl t (UInt8.ofNat (byteAt sep 0).toNat)).length := by rw [hz, List.length_append]
    rw [hl, spl_len] at hcl
    by_cases hlt : (p.length : Int) < Lib.countByte (bl s) (UInt8.ofNat (byteAt sep 0).toNat)
    · rcases spl_cases (s := t) h1 with ⟨_, q, _⟩ | ⟨o, q1, q2, q3, q4⟩
      · omega
      · have q0 : ¬ (o : Int) < 0 := by omega
        simp -implicitDefEqProofs only [hlt, q1, q0, go_sem, hh]
        obtain ⟨n, hn⟩ : ∃ n, Lib.countByte (bl s) (UInt8.ofNat (byteAt sep 0).toNat) + 1 - p.length = n + 1 := ⟨Lib.countByte (bl s) (UInt8.ofNat (byteAt sep 0).toNat) - p.length, by omega⟩
        have hn2 : n = Lib.countByte (bl s) (UInt8.ofNat (byteAt sep 0).toNat) - p.length := by omega
        have hs1 : ((o : Int) + sep.size).toNat = o + 1 := by omega
        repeat' (first | with_reducible apply And.intro | with_reducible intro _ | ((first | apply brB_split | apply aPickB_split | apply gB_split | apply adB_split) <;> intro hb <;> simp -implicitDefEqProofs only [hb, go_sem, hh] <;> try simp only [qz] at hb))
        all_goals (try simp only [maxLen, Int.toNat_natCast, Int.add_zero, hn, fillS, List.length_map, List.length_append, List.length_replicate, hs1] at *)
        all_goals first | rfl | omega | skip
        refine ⟨⟨(p ++ [t.extract 0 o], t.extract (o + 1) t.size), ?_, ?_⟩, ?_, ?_⟩
        · dsimp only; rw [hz, q3, List.append_assoc]; rfl
        · dsimp only; rw [ByteArray.size_extract]; omega
        · dsimp only; rw [List.length_append]; simp; omega
        · have e2 : Lib.countByte (bl s) (UInt8.ofNat (byteAt sep 0).toNat) + 1 - (p ++ [t.extract 0 o]).length = n := by rw [List.length_append, hn2]; simp
          simp -implicitDefEqProofs only [e2, go_sem, hh]
          simp
    · simp -implicitDefEqProofs only [hlt, go_sem, hh]
      rcases spl_cases (s := t) h1 with ⟨_, _, q⟩ | ⟨o, q1, q2, q3, q4⟩
      · have hn : Lib.countByte (bl s) (UInt8.ofNat (byteAt sep 0).toNat) + 1 - p.length = 0 + 1 := by omega
        rw [q] at hz
        repeat' (first | with_reducible apply And.intro | with_reducible intro _ | ((first | apply brB_split | apply aPickB_split | apply gB_split | apply adB_split) <;> intro hb <;> simp -implicitDefEqProofs only [hb, go_sem, hh] <;> try simp only [qz] at hb))
        all_goals (try simp only [maxLen, Int.toNat_natCast, Int.add_zero, hn, fillS, List.length_map, List.length_append, List.length_replicate] at *)
        all_goals first | rfl | omega | (simp; done) | skip
        · rw [hz, List.replicate_zero, List.append_nil, List.take_of_length_le]
          simp
      · omega
end
def bx (l : List Bool) : List AV := l.map fun b => .t (.v (.bool b))
def bxT (l : List Bool) : List T := l.map fun b => .v (.bool b)
def bxD : List T → Option (List Bool)
  | [] => some []
  | .v (.bool b) :: r => (bxD r).map (b :: ·)
  | _ => none
theorem bxD_ed : ∀ l, bxD (bxT l) = some l
  | [] => rfl
  | b :: l => by show (bxD (bxT l)).map (b :: ·) = _; rw [bxD_ed l]; rfl
theorem bxD_de : ∀ {c l}, bxD c = some l → bxT l = c
  | [], _, h => by cases h; rfl
  | x :: c, l, h => by
    unfold bxD at h
    split at h
    · rename_i e; cases e
    · rename_i e
      cases e
      cases hq : bxD c with
      | none => rw [hq] at h; cases h
      | some l' => rw [hq] at h; cases h; rw [← bxD_de hq]; rfl
    · cases h
def bxA : AV → Option (List Bool)
  | .t (.rop c) => bxD c
  | _ => none
def ABs : AD (List Bool) where
  enc l := .t (.rop (bxT l))
  dec := bxA
  ed := fun l => bxD_ed l
  de := fun x l h => by
    unfold bxA at h
    split at h
    · rw [← bxD_de h]
    · cases h
theorem ABs_dec {l : List Bool} : ABs.dec (.t (.rop (bxT l))) = some l := bxD_ed l
theorem ABs_enc {l : List Bool} : ABs.enc l = .t (.rop (bxT l)) := rfl
theorem bx_len {l : List Bool} : (bx l).length = l.length := by simp [bx]
theorem bxT_len {l : List Bool} : (bxT l).length = l.length := by simp [bxT]
def z256 : List Value := List.replicate 256 (.bool false)
def b256 : List Bool := List.replicate 256 false
theorem tyasz : tyOf Tryz.prog 176 = some ⟨.arr 256 4, 256, 256, z256⟩ := ty176
theorem bx_zero : z256.map avc1 = bx b256 := by simp [bx, z256, b256]; rfl
theorem bx_fine : z256.all fineB = true := by decide
theorem b256_len : b256.length = 256 := rfl
theorem bx_drop0 : List.drop 256 (bx b256) = [] := rfl
theorem bx_spl {l : List Bool} {k : Nat} {b : Bool} (h : k < l.length) : (bx l).take k ++ AV.t (.v (.bool b)) :: (bx l).drop (k + 1) = bx (l.set k b) := by
  unfold bx
  rw [List.set_eq_take_append_cons_drop, if_pos h]
  simp
theorem bx_splice {l : List Bool} {k : Nat} {b : Bool} (h : k < l.length) : splice (bx l) k [AV.t (.v (.bool b))] = bx (l.set k b) := by
  unfold splice bx
  rw [List.set_eq_take_append_cons_drop, if_pos h]
  simp
theorem bx_take {l : List Bool} {n : Nat} (h : l.length = n) : (bx l).take n = bx l := List.take_of_length_le (by rw [bx_len]; omega)
theorem bx_snap {s : AS} {n : Nat} : ∀ {l : List Bool}, mapO (s.snapT (n + 1)) (bx l) = some (bxT l)
  | [] => rfl
  | b :: l => by
    have h := bx_snap (s := s) (n := n) (l := l)
    unfold bx bxT at h ⊢
    simp only [List.map_cons, mapO, h, AS.snapT]
theorem bxT_get {l : List Bool} {k : Nat} (h : k < l.length) : (bxT l).drop k = T.v (.bool (l.getD k false)) :: (bxT l).drop (k + 1) := by
  rw [List.drop_eq_getElem_cons (by rw [bxT_len]; exact h)]
  congr 1
  simp [bxT, h]
theorem bx_outP {s : AS} : ∀ {l : List Bool}, outPL s (bx l) (bx l)
  | [] => trivial
  | b :: l => ⟨by simp only [outP, outT], bx_outP⟩
theorem bx_outI {s : AS} : ∀ {l : List Bool}, outIL s (bx l) (bx l) = []
  | [] => rfl
  | b :: l => by show outI s (.t (.v (.bool b))) (.t (.v (.bool b))) ++ outIL s (bx l) (bx l) = []; rw [bx_outI]; rfl
theorem bx_outZ {s : AS} : ∀ {l : List Bool}, outZL s (bx l) (bx l) = []
  | [] => rfl
  | b :: l => by show outZ s (.t (.v (.bool b))) (.t (.v (.bool b))) ++ outZL s (bx l) (bx l) = []; rw [bx_outZ]; rfl
theorem bx_intern {d k : Nat} {s : AS} : ∀ {l : List Bool}, internL d k (bx l) s = ⟨bx l, s, k⟩
  | [] => rfl
  | b :: l => by
    show InL.mk (AV.t (.v (.bool b)) :: (internL d k (bx l) s).avs) (internL d k (bx l) s).s (internL d k (bx l) s).k = _
    rw [bx_intern]; rfl
theorem bx_has {k : Nat} : ∀ {l : List Bool}, AV.hasL k (bx l) = false
  | [] => rfl
  | b :: l => by show (false || AV.hasL k (bx l)) = false; rw [bx_has]; rfl
theorem bx_dropm {k : Nat} : ∀ {l : List Bool}, (bx l).map (AV.drop k) = bx l
  | [] => rfl
  | b :: l => by show AV.t (.v (.bool b)) :: (bx l).map (AV.drop k) = _; rw [bx_dropm]; rfl
def setN (cs : ByteArray) : Nat → List Bool
  | 0 => b256
  | n + 1 => (setN cs n).set (byteAt cs n).toNat true
theorem setN_len (cs : ByteArray) : ∀ n, (setN cs n).length = 256
  | 0 => rfl
  | n + 1 => by rw [setN, List.length_set]; exact setN_len cs n
def trR (l : List Bool) (s : ByteArray) : ByteArray :=
  if h : s.size = 0 then s else bif l.getD (byteAt s (s.size - 1)).toNat false then trR l (s.extract 0 (s.size - 1)) else s
termination_by s.size
decreasing_by rw [ByteArray.size_extract]; omega
def trL (l : List Bool) (s : ByteArray) : ByteArray :=
  if h : s.size = 0 then s else bif l.getD (byteAt s 0).toNat false then trL l (s.extract 1 s.size) else s
termination_by s.size
decreasing_by rw [ByteArray.size_extract]; omega
theorem trR_nil {l : List Bool} : trR l ⟨#[]⟩ = ⟨#[]⟩ := by rw [trR]; exact dif_pos rfl
theorem trL_nil {l : List Bool} : trL l ⟨#[]⟩ = ⟨#[]⟩ := by rw [trL]; exact dif_pos rfl
theorem trR_le (l : List Bool) (s : ByteArray) : (trR l s).size ≤ s.size := by
  rw [trR]
  split
  · exact Nat.le_refl _
  · cases l.getD (byteAt s (s.size - 1)).toNat false
    · exact Nat.le_refl _
    · have := trR_le l (s.extract 0 (s.size - 1))
      rw [ByteArray.size_extract] at this
      show (trR l (s.extract 0 (s.size - 1))).size ≤ _
      omega
termination_by s.size
decreasing_by rw [ByteArray.size_extract]; omega
def c176 : Ct := ctR (lc ABs (lc AU8 l0)) (fun p => p.1.length = 256 ∧ 0 ≤ p.2.1 ∧ p.2.1 < 256) (fun p => .t (.v (.bool (p.1.getD p.2.1.toNat false))))
section
attribute [local go_sem] tyasz ABs_dec ABs_enc bxT_len
theorem good176 {G : Gt} (hG : OkG G) : Gd G 176 (roEnt 0 c176) := by
  refine gR (dp := fun _ => true) (fn := Tryz.f176) (n := 2) (fun _ => rfl) (by kernel_rfl) rfl (by kernel_rfl) hG (Nat.le_of_ble_eq_true rfl) (by kernel_rfl) (by decide) (fun _ _ => .v _) ?_
  rintro ⟨l, c, ⟨⟩⟩ hpre
  simp -implicitDefEqProofs only [Tryz.f176, go_sem] at hpre ⊢
  have hk : c.toNat < l.length := by omega
  simp -implicitDefEqProofs only [bxT_get hk, Nat.mul_one, hpre.1, go_sem]
  repeat' (first | with_reducible apply And.intro | with_reducible intro _ | ((first | apply brB_split | apply aPickB_split | apply gB_split | apply adB_split) <;> intro hb <;> simp -implicitDefEqProofs only [hb, go_sem] <;> try simp only [qz] at hb))
  all_goals first | rfl | omega | skip
  all_goals trace_state
end
def c159 : Ct := ctR (lc AStr (lc ABs l0)) (fun p => p.2.1.length = 256 ∧ p.1.size ≤ 2000000) (fun p => .t (.v (.string (trR p.2.1 p.1))))
section
attribute [local go_sem] c176 ABs_dec ABs_enc Bool.not_true Bool.not_false
theorem good159 {G : Gt} (hG : OkG G) (hh : G.e 176 = roEnt 0 c176) : Gd G 159 (roEnt 0 c159) := by
  refine gR (dp := fun _ => true) (fn := Tryz.f159) (n := 2) (fun _ => rfl) (by kernel_rfl) rfl (by kernel_rfl) hG (Nat.le_of_ble_eq_true rfl) (by kernel_rfl) (by decide) (fun _ _ => .v _) ?_
  rintro ⟨s, l, ⟨⟩⟩ hpre
  simp -implicitDefEqProofs only [Tryz.f159, go_sem, hh] at hpre ⊢
  refine run_loop [] (ι := {t : ByteArray // trR l t = trR l s ∧ t.size ≤ s.size}) (fun p => ⟨[(0, .t (.v (.string p.1))), (1, .t (.rop (bxT l)))], []⟩) (fun p => p.1.size) ⟨s, rfl, Nat.le_refl _⟩ rfl ?_ ?_
  · simp -implicitDefEqProofs only [go_sem, hh]
    try simp
  · rintro ⟨t, ht, hts⟩
    by_cases h0 : t.size = 0
    · have h1 : (t.size : Int) = 0 := by omega
      simp -implicitDefEqProofs only [h1, go_sem, hh]
      repeat' (first | with_reducible apply And.intro | with_reducible intro _ | ((first | apply brB_split | apply aPickB_split | apply gB_split | apply adB_split) <;> intro hb <;> simp -implicitDefEqProofs only [hb, go_sem, hh] <;> try simp only [qz] at hb))
      all_goals first | rfl | omega | skip
      rw [← ht, trR, dif_pos h0]
    · have h1 : (t.size : Int) > 0 := by omega
      have hbr := byteAt_range t (t.size - 1)
      have hr : trR l t = bif l.getD (byteAt t (t.size - 1)).toNat false then trR l (t.extract 0 (t.size - 1)) else t := by
        rw [trR, dif_neg h0]
      have e1 : ((t.size : Int) - 1).toNat = (t.size - 1) := by omega
      cases hb : l.getD (byteAt t (((t.size : Int) - 1).toNat)).toNat false
      · simp -implicitDefEqProofs only [h1, hb, go_sem, hh]
        repeat' (first | with_reducible apply And.intro | with_reducible intro _ | ((first | apply brB_split | apply aPickB_split | apply gB_split | apply adB_split) <;> intro hb <;> simp -implicitDefEqProofs only [hb, go_sem, hh] <;> try simp only [qz] at hb))
        all_goals first | rfl | omega | skip
        all_goals rw [e1] at *
        all_goals first | omega | (rw [← ht, hr, hb]; rfl)
      · simp -implicitDefEqProofs only [h1, hb, go_sem, hh]
        repeat' (first | with_reducible apply And.intro | with_reducible intro _ | ((first | apply brB_split | apply aPickB_split | apply gB_split | apply adB_split) <;> intro hb <;> simp -implicitDefEqProofs only [hb, go_sem, hh] <;> try simp only [qz] at hb))
        all_goals first | rfl | omega | skip
        all_goals rw [e1] at *
        all_goals first | omega | skip
        refine ⟨⟨t.extract 0 (t.size - 1), ?_, ?_⟩, ?_, ?_⟩
        · rw [← ht, hr, hb]; rfl
        · rw [ByteArray.size_extract]; omega
        · show (t.extract 0 (t.size - 1)).size < t.size
          rw [ByteArray.size_extract]; omega
        · simp -implicitDefEqProofs only [go_sem, hh]
          try simp [e1]
end
def c158 : Ct := ctR (lc AStr (lc ABs l0)) (fun p => p.2.1.length = 256 ∧ p.1.size ≤ 2000000) (fun p => .t (.v (.string (trL p.2.1 p.1))))
section
attribute [local go_sem] c176 ABs_dec ABs_enc Bool.not_true Bool.not_false
theorem good158 {G : Gt} (hG : OkG G) (hh : G.e 176 = roEnt 0 c176) : Gd G 158 (roEnt 0 c158) := by
  refine gR (dp := fun _ => true) (fn := Tryz.f158) (n := 2) (fun _ => rfl) (by kernel_rfl) rfl (by kernel_rfl) hG (Nat.le_of_ble_eq_true rfl) (by kernel_rfl) (by decide) (fun _ _ => .v _) ?_
  rintro ⟨s, l, ⟨⟩⟩ hpre
  simp -implicitDefEqProofs only [Tryz.f158, go_sem, hh] at hpre ⊢
  refine run_loop [] (ι := {t : ByteArray // trL l t = trL l s ∧ t.size ≤ s.size}) (fun p => ⟨[(0, .t (.v (.string p.1))), (1, .t (.rop (bxT l)))], []⟩) (fun p => p.1.size) ⟨s, rfl, Nat.le_refl _⟩ rfl ?_ ?_
  · simp -implicitDefEqProofs only [go_sem, hh]
    try simp
  · rintro ⟨t, ht, hts⟩
    by_cases h0 : t.size = 0
    · have h1 : (t.size : Int) = 0 := by omega
      simp -implicitDefEqProofs only [h1, go_sem, hh]
      repeat' (first | with_reducible apply And.intro | with_reducible intro _ | ((first | apply brB_split | apply aPickB_split | apply gB_split | apply adB_split) <;> intro hb <;> simp -implicitDefEqProofs only [hb, go_sem, hh] <;> try simp only [qz] at hb))
      all_goals first | rfl | omega | skip
      rw [← ht, trL, dif_pos h0]
    · have h1 : (t.size : Int) > 0 := by omega
      have hbr := byteAt_range t 0
      have hr : trL l t = bif l.getD (byteAt t 0).toNat false then trL l (t.extract 1 t.size) else t := by
        rw [trL, dif_neg h0]
      have e1 : Int.toNat 0 = 0 := by omega
      cases hb : l.getD (byteAt t (Int.toNat 0)).toNat false
      · simp -implicitDefEqProofs only [h1, hb, go_sem, hh]
        repeat' (first | with_reducible apply And.intro | with_reducible intro _ | ((first | apply brB_split | apply aPickB_split | apply gB_split | apply adB_split) <;> intro hb <;> simp -implicitDefEqProofs only [hb, go_sem, hh] <;> try simp only [qz] at hb))
        all_goals first | rfl | omega | skip
        all_goals rw [e1] at *
        all_goals first | omega | (rw [← ht, hr, hb]; rfl)
      · simp -implicitDefEqProofs only [h1, hb, go_sem, hh]
        repeat' (first | with_reducible apply And.intro | with_reducible intro _ | ((first | apply brB_split | apply aPickB_split | apply gB_split | apply adB_split) <;> intro hb <;> simp -implicitDefEqProofs only [hb, go_sem, hh] <;> try simp only [qz] at hb))
        all_goals first | rfl | omega | skip
        all_goals rw [e1] at *
        all_goals first | omega | skip
        refine ⟨⟨t.extract 1 t.size, ?_, ?_⟩, ?_, ?_⟩
        · rw [← ht, hr, hb]; rfl
        · rw [ByteArray.size_extract]; omega
        · show (t.extract 1 t.size).size < t.size
          rw [ByteArray.size_extract]; omega
        · simp -implicitDefEqProofs only [go_sem, hh]
          try simp [e1]
end
def c157 : Ct := ctR (lc AStr l0) (fun p => p.1.size ≤ 1000 ∧ ∀ j, j < p.1.size → byteAt p.1 j < 128) (fun p => .tup [.agg (bx (setN p.1 p.1.size)), .t (.v (.bool true))])
section
attribute [local go_sem] tyasz bx_zero bx_fine
theorem good157 {G : Gt} (hG : OkG G) : Gd G 157 (roEnt 0 c157) := by
  refine gR (dp := fun _ => true) (fn := Tryz.f157) (n := 1) (fun _ => rfl) (by kernel_rfl) rfl (by kernel_rfl) hG (Nat.le_of_ble_eq_true rfl) (by kernel_rfl) (by decide) (fun _ _ => .tup _ (by intro c hc; simp only [List.mem_cons, List.not_mem_nil, or_false] at hc; rcases hc with rfl | rfl <;> first | exact .v _ | exact .agg _ (by intro c hc; simp only [bx, List.mem_map] at hc; obtain ⟨b, _, rfl⟩ := hc; exact .v _))) ?_
  rintro ⟨cs, ⟨⟩⟩ hpre
  simp -implicitDefEqProofs only [Tryz.f157, go_sem] at hpre ⊢
  repeat' (first | with_reducible apply And.intro | with_reducible intro _ | ((first | apply brB_split | apply aPickB_split | apply gB_split | apply adB_split) <;> intro hb <;> simp -implicitDefEqProofs only [hb, go_sem] <;> try simp only [qz] at hb))
  all_goals first | rfl | omega | skip
  refine run_loop [] (ι := {i : Nat // i ≤ cs.size}) (fun p => ⟨[(0, .t (.v (.string cs))), (2, .pb 1002 0), (4, .t (.v (.int .i64 p.1)))], [(1002, some (.box (bx (setN cs p.1))))]⟩) (fun p => cs.size - p.1) ⟨0, Nat.zero_le _⟩ rfl ?_ ?_
  · simp -implicitDefEqProofs only [go_sem]
    exact ⟨rfl, rfl⟩
  · rintro ⟨i, hi⟩
    have hbr := byteAt_range cs i
    have hlen := setN_len cs i
    by_cases hlt : (i : Int) < cs.size
    · have h128 := hpre.2 i (by omega)
      have h1 : ¬ byteAt cs (i : Int).toNat ≥ 128 := by rw [Int.toNat_natCast]; omega
      have h2 : (byteAt cs (i : Int).toNat).toNat * 1 < (setN cs i).length := by rw [Int.toNat_natCast]; omega
      simp -implicitDefEqProofs only [hlt, h1, Nat.zero_add, bx_splice h2, go_sem]
      repeat' (first | with_reducible apply And.intro | with_reducible intro _ | ((first | apply brB_split | apply aPickB_split | apply gB_split | apply adB_split) <;> intro hb <;> simp -implicitDefEqProofs only [hb, go_sem] <;> try simp only [qz] at hb))
      all_goals (try rw [Int.toNat_natCast])
      all_goals first | rfl | omega | (simp only [bx_len, hlen]; omega) | skip
      refine ⟨⟨i + 1, by omega⟩, by dsimp only; omega, ?_⟩
      simp -implicitDefEqProofs only [go_sem]
      refine ⟨by simp, ?_⟩
      refine congrArg Ob.box ?_
      rw [setN]
      simp only [Int.toNat_natCast, Nat.mul_one]
      exact bx_spl (by omega)
    · have e1 : i = cs.size := by omega
      have e2 : List.drop 256 (bx (setN cs i)) = [] := List.drop_eq_nil_of_le (by rw [bx_len, hlen]; exact Nat.le_refl _)
      have e3 : decide (256 ≤ 256) = true := rfl
      simp -implicitDefEqProofs only [hlt, bx_take hlen, bx_len, hlen, e2, List.append_nil, Nat.zero_add, e3, cond_true, go_sem]
      subst e1
      repeat' (first | with_reducible apply And.intro | with_reducible intro _ | ((first | apply brB_split | apply aPickB_split | apply gB_split | apply adB_split) <;> intro hb <;> simp -implicitDefEqProofs only [hb, go_sem] <;> try simp only [qz] at hb))
      all_goals first
        | rfl
        | omega
        | exact bx_outP
        | (rw [bx_outI]; exact .nil)
        | (rw [bx_outZ]; simp; done)
        | skip
      all_goals trace_state
end
def c129 : Ct := ctR (lc AStr (lc AStr l0)) (fun p => p.2.1.size ≤ 1000 ∧ 2 ≤ p.2.1.size ∧ p.1.size ≤ 2000000 ∧ ∀ j, j < p.2.1.size → byteAt p.2.1 j < 128) (fun p => .t (.v (.string (trL (setN p.2.1 p.2.1.size) (trR (setN p.2.1 p.2.1.size) p.1)))))
section
attribute [local go_sem] c157 c158 c159 tyasz bx_zero bx_fine bx_drop0 b256_len ABs_dec ABs_enc
theorem good129 {G : Gt} (hG : OkG G) (hh : G.e 157 = roEnt 0 c157 ∧ G.e 158 = roEnt 0 c158 ∧ G.e 159 = roEnt 0 c159) : Gd G 129 (roEnt 0 c129) := by
  refine gR (dp := fun _ => true) (fn := Tryz.f129) (n := 2) (fun _ => rfl) (by kernel_rfl) rfl (by kernel_rfl) hG (Nat.le_of_ble_eq_true rfl) (by kernel_rfl) (by decide) (fun _ _ => .v _) ?_
  rintro ⟨s, cs, ⟨⟩⟩ hpre
  simp -implicitDefEqProofs only [Tryz.f129, go_sem, hh] at hpre ⊢
  have hc : ¬ cs = ⟨#[]⟩ := by intro e; rw [e] at hpre; exact absurd hpre.2.1 (by decide)
  have h1 : ¬ (cs.size : Int) = 1 := by omega
  have hlen := setN_len cs cs.size
  have htr : (trR (setN cs cs.size) s).size ≤ s.size := trR_le _ s
  by_cases hs : s = ⟨#[]⟩
  · simp -implicitDefEqProofs only [hs, go_sem, hh]
    repeat' (first | with_reducible apply And.intro | with_reducible intro _ | ((first | apply brB_split | apply aPickB_split | apply gB_split | apply adB_split) <;> intro hb <;> simp -implicitDefEqProofs only [hb, go_sem, hh] <;> try simp only [qz] at hb))
    all_goals first | rfl | omega | skip
    all_goals (rw [trR_nil, trL_nil])
  · simp -implicitDefEqProofs only [hs, hc, h1, bx_intern, bx_has, bx_dropm, bx_len, hlen, b256_len, bx_drop0, bx_snap, List.append_nil, List.nil_append, Nat.zero_add, go_sem, hh]
    repeat' (first | with_reducible apply And.intro | with_reducible intro _ | ((first | apply brB_split | apply aPickB_split | apply gB_split | apply adB_split) <;> intro hb <;> simp -implicitDefEqProofs only [hb, go_sem, hh] <;> try simp only [qz] at hb))
    all_goals first | rfl | omega | exact hpre.2.2.2 | exact hpre.2.2.2 _ (by assumption) | skip
    all_goals trace_state
end
theorem size0 {s : ByteArray} (h : s.size = 0) : s = ⟨#[]⟩ := by
  have : bl s = [] := List.eq_nil_of_length_eq_zero (by rw [bl_len]; exact h)
  exact bl_inj this
theorem byteAt_ext {s : ByteArray} {a b j : Nat} (h : a + j < b) : byteAt (s.extract a b) j = byteAt s (a + j) := by
  rw [byteAt_bl, byteAt_bl, bl_extract]
  congr 2
  simp only [List.getD_eq_getElem?_getD]
  rw [List.getElem?_take_of_lt (by omega), List.getElem?_drop]
section
variable {l : List Bool}
theorem trR_ne {s : ByteArray} (h : s.size ≠ 0) : trR l s = bif l.getD (byteAt s (s.size - 1)).toNat false then trR l (s.extract 0 (s.size - 1)) else s := by rw [trR, dif_neg h]
theorem trL_ne {s : ByteArray} (h : s.size ≠ 0) : trL l s = bif l.getD (byteAt s 0).toNat false then trL l (s.extract 1 s.size) else s := by rw [trL, dif_neg h]
theorem trR_all {s : ByteArray} (h : ∀ j, j < s.size → l.getD (byteAt s j).toNat false = true) : trR l s = ⟨#[]⟩ := by
  by_cases h0 : s.size = 0
  · rw [size0 h0, trR_nil]
  · rw [trR_ne h0, h (s.size - 1) (by omega), cond_true]
    refine trR_all fun j hj => ?_
    rw [ByteArray.size_extract] at hj
    rw [byteAt_ext (by omega), Nat.zero_add]
    exact h j (by omega)
termination_by s.size
decreasing_by rw [ByteArray.size_extract]; omega
theorem trL_emp {s : ByteArray} (h : trL l s = ⟨#[]⟩) : ∀ j, j < s.size → l.getD (byteAt s j).toNat false = true := by
  intro j hj
  have h0 : s.size ≠ 0 := by omega
  rw [trL_ne h0] at h
  cases hb : l.getD (byteAt s 0).toNat false
  · rw [hb, cond_false] at h
    rw [h] at hj
    cases hj
  · rw [hb, cond_true] at h
    by_cases hj0 : j = 0
    · rw [hj0]; exact hb
    · have := trL_emp h (j - 1) (by rw [ByteArray.size_extract]; omega)
      rw [byteAt_ext (by omega)] at this
      rw [show 1 + (j - 1) = j by omega] at this
      exact this
termination_by s.size
decreasing_by rw [ByteArray.size_extract]; omega
theorem trR_emp {s : ByteArray} (h : ∀ j, j < (trR l s).size → l.getD (byteAt (trR l s) j).toNat false = true) : ∀ j, j < s.size → l.getD (byteAt s j).toNat false = true := by
  intro j hj
  have h0 : s.size ≠ 0 := by omega
  rw [trR_ne h0] at h
  cases hb : l.getD (byteAt s (s.size - 1)).toNat false
  · rw [hb, cond_false] at h
    exact h j hj
  · rw [hb, cond_true] at h
    by_cases hj0 : j = s.size - 1
    · rw [hj0]; exact hb
    · have := trR_emp h j (by rw [ByteArray.size_extract]; omega)
      rw [byteAt_ext (by omega), Nat.zero_add] at this
      exact this
termination_by s.size
decreasing_by rw [ByteArray.size_extract]; omega
theorem tr_iff (s : ByteArray) : trL l (trR l s) = ⟨#[]⟩ ↔ ∀ j, j < s.size → l.getD (byteAt s j).toNat false = true :=
  ⟨fun h => trR_emp (trL_emp h), fun h => by rw [trR_all h, trL_nil]⟩
end
def lcs : ByteArray := ⟨#[97, 98, 99, 100, 101, 102, 103, 104, 105, 106, 107, 108, 109, 110, 111, 112, 113, 114, 115, 116, 117, 118, 119, 120, 121, 122, 48, 49, 50, 51, 52, 53, 54, 55, 56, 57]⟩
theorem lcs_get : ∀ k : Nat, k < 256 → (setN lcs 36).getD k false = ((Nat.ble 97 k && Nat.ble k 122) || (Nat.ble 48 k && Nat.ble k 57)) := by decide +kernel
theorem lcs_iff (s : ByteArray) : trL (setN lcs 36) (trR (setN lcs 36) s) = ⟨#[]⟩ ↔ ∀ j, j < s.size → isLc (byteAt s j) := by
  rw [tr_iff]
  refine forall_congr' fun j => imp_congr_right fun _ => ?_
  have h := byteAt_range s j
  rw [lcs_get _ (by omega)]
  simp only [Bool.or_eq_true, Bool.and_eq_true, Nat.ble_eq]
  unfold isLc
  omega
theorem bl_app (a b : ByteArray) : bl (a ++ b) = bl a ++ bl b := by
  unfold bl; rw [ByteArray.data_append, Array.toList_append]
theorem ends_dot (s e : ByteArray) : Ends s e ↔ s = e ∨ ((⟨#[46]⟩ : ByteArray).size + e.size ≤ s.size ∧ s.extract (s.size - ((⟨#[46]⟩ : ByteArray).size + e.size)) s.size = ⟨#[46]⟩ ++ e) := by
  unfold Ends
  refine or_congr_right ?_
  have h1 : (⟨#[46]⟩ : ByteArray).size = 1 := rfl
  rw [h1]
  by_cases hs : 1 + e.size ≤ s.size
  · obtain ⟨n, hn⟩ : ∃ n, s.size - (1 + e.size) = n := ⟨_, rfl⟩
    have e1 : s.size - e.size = n + 1 := by omega
    have e2 : s.size - e.size - 1 = n := by omega
    rw [hn, e1, Nat.add_sub_cancel]
    have q : ∀ k, bl (s.extract k s.size) = (bl s).drop k := fun k => by
      rw [bl_extract, List.take_of_length_le (by rw [List.length_drop, bl_len]; exact Nat.le_refl _)]
    have d := drop_byte (s := s) (i := n) (by omega)
    constructor
    · rintro ⟨_, h2, h3⟩
      refine ⟨hs, bl_inj ?_⟩
      rw [bl_app, q, d, ← h2, q]
      rw [byteAt_bl] at h3
      have : (bl s).getD n 0 = 46 := UInt8.toNat_inj.1 (by show ((bl s).getD n 0).toNat = 46; omega)
      rw [this]; rfl
    · rintro ⟨_, h2⟩
      have h3 := congrArg bl h2
      rw [bl_app, q, d] at h3
      have h4 : (bl s).getD n 0 :: (bl s).drop (n + 1) = 46 :: bl e := h3
      injection h4 with h5 h6
      refine ⟨by omega, bl_inj (by rw [q]; exact h6), ?_⟩
      rw [byteAt_bl, h5]; rfl
  · constructor
    · rintro ⟨h, _⟩; omega
    · rintro ⟨h, _⟩; omega
theorem dotc : UInt8.ofNat (byteAt ⟨#[46]⟩ 0).toNat = 46 := rfl
theorem lcs_low : ∀ j, j < 36 → byteAt lcs j < 128 := by decide +kernel
def c130 : Ct := ctR (lc AStr (lc AStr l0)) (fun p => p.2.1.size = 1 ∧ p.1.size ≤ 2000000) (fun p => .o true 1 ((spl p.1 (UInt8.ofNat (byteAt p.2.1 0).toNat)).map encStr))
section
attribute [local go_sem] c162
theorem good130 {G : Gt} (hG : OkG G) (hh : G.e 162 = roEnt 0 c162) : Gd G 130 (roEnt 0 c130) := by
  refine gR (dp := fun _ => true) (fn := Tryz.f130) (n := 2) (fun _ => rfl) (by kernel_rfl) rfl (by kernel_rfl) hG (Nat.le_of_ble_eq_true rfl) (by kernel_rfl) (by decide) (fun _ _ => .deep _ _) ?_
  rintro ⟨s, sep, ⟨⟩⟩ hpre
  simp -implicitDefEqProofs only [Tryz.f130, go_sem, hh] at hpre ⊢
  repeat' (first | with_reducible apply And.intro | with_reducible intro _ | ((first | apply brB_split | apply aPickB_split | apply gB_split | apply adB_split) <;> intro hb <;> simp -implicitDefEqProofs only [hb, go_sem, hh] <;> try simp only [qz] at hb))
  all_goals first | rfl | omega | (simp; done) | skip
end
def c36 : Ct := ctR (lc AInt (lc AInt (lc AInt l0))) (fun p => True) (fun p => .t (.v (.bool (bOf (p.2.1 ≤ p.1 ∧ p.1 ≤ p.2.2.1)))))
theorem good36 {G : Gt} (hG : OkG G) : Gd G 36 (roEnt 0 c36) := by
  refine gR (dp := fun _ => true) (fn := Tryz.f36) (n := 3) (fun _ => rfl) (by kernel_rfl) rfl (by kernel_rfl) hG (Nat.le_of_ble_eq_true rfl) (by kernel_rfl) (by decide) (fun _ _ => .v _) ?_
  rintro ⟨n, a, b, ⟨⟩⟩ hpre
  simp -implicitDefEqProofs only [Tryz.f36, go_sem] at hpre ⊢
  repeat' (first | with_reducible apply And.intro | with_reducible intro _ | ((first | apply brB_split | apply aPickB_split | apply gB_split | apply adB_split) <;> intro hb <;> simp -implicitDefEqProofs only [hb, go_sem] <;> try simp only [qz] at hb))
  all_goals first | rfl | omega | skip
  all_goals first
    | (rw [bOf_d]; simp only [*]; done)
    | (rw [bOf_d]; simp [*])
def c128 : Ct := ctR (lc AStr l0) (fun p => p.1.size ≤ 2000000) (fun p => .t (.v (.bool (bOf (Lin p.1)))))
theorem good128 {G : Gt} (hG : OkG G) : Gd G 128 (roEnt 0 c128) := by
  refine gR (dp := fun _ => true) (fn := Tryz.f128) (n := 1) (fun _ => rfl) (by kernel_rfl) rfl (by kernel_rfl) hG (Nat.le_of_ble_eq_true rfl) (by kernel_rfl) (by decide) (fun _ _ => .v _) ?_
  rintro ⟨s, ⟨⟩⟩ hpre
  simp -implicitDefEqProofs only [Tryz.f128, go_sem] at hpre ⊢
  repeat' (first | with_reducible apply And.intro | with_reducible intro _ | ((first | apply brB_split | apply aPickB_split | apply gB_split | apply adB_split) <;> intro hb <;> simp -implicitDefEqProofs only [hb, go_sem] <;> try simp only [qz] at hb))
  all_goals first | rfl | omega | skip
  refine run_loop [] (ι := {i : Nat // i ≤ s.size ∧ ∀ j, j < i → 32 ≤ byteAt s j ∧ byteAt s j ≤ 126}) (fun p => ⟨[(0, .t (.v (.string s))), (5, .t (.v (.int .i64 s.size))), (6, .t (.v (.int .i64 p.1)))], []⟩) (fun p => s.size - p.1) ⟨0, Nat.zero_le _, fun j hj => absurd hj (Nat.not_lt_zero _)⟩ rfl ?_ ?_
  · simp -implicitDefEqProofs only [go_sem]
    try simp
  · rintro ⟨i, hi, hall⟩
    by_cases hlt : (i : Int) < s.size
    · by_cases h1 : byteAt s (i : Int).toNat < 32
      · simp -implicitDefEqProofs only [hlt, h1, go_sem]
        repeat' (first | with_reducible apply And.intro | with_reducible intro _ | ((first | apply brB_split | apply aPickB_split | apply gB_split | apply adB_split) <;> intro hb <;> simp -implicitDefEqProofs only [hb, go_sem] <;> try simp only [qz] at hb))
        all_goals (try simp only [maxLen, Int.toNat_natCast] at *)
        all_goals first | rfl | omega | skip
        rw [bOf_n (fun h => by have := (h.1 i (by omega)).1; omega)]
      · by_cases h2 : byteAt s (i : Int).toNat > 126
        · simp -implicitDefEqProofs only [hlt, h1, h2, go_sem]
          repeat' (first | with_reducible apply And.intro | with_reducible intro _ | ((first | apply brB_split | apply aPickB_split | apply gB_split | apply adB_split) <;> intro hb <;> simp -implicitDefEqProofs only [hb, go_sem] <;> try simp only [qz] at hb))
          all_goals (try simp only [maxLen, Int.toNat_natCast] at *)
          all_goals first | rfl | omega | skip
          rw [bOf_n (fun h => by have := (h.1 i (by omega)).2; omega)]
        · simp -implicitDefEqProofs only [hlt, h1, h2, go_sem]
          repeat' (first | with_reducible apply And.intro | with_reducible intro _ | ((first | apply brB_split | apply aPickB_split | apply gB_split | apply adB_split) <;> intro hb <;> simp -implicitDefEqProofs only [hb, go_sem] <;> try simp only [qz] at hb))
          all_goals (try simp only [maxLen, Int.toNat_natCast] at *)
          all_goals first | rfl | omega | skip
          refine ⟨⟨i + 1, by omega, fun j hj => ?_⟩, by dsimp only; omega, ?_⟩
          · by_cases e : j = i
            · subst e; omega
            · exact hall j (by omega)
          · simp -implicitDefEqProofs only [go_sem]
            try simp
    · simp -implicitDefEqProofs only [hlt, go_sem]
      repeat' (first | with_reducible apply And.intro | with_reducible intro _ | ((first | apply brB_split | apply aPickB_split | apply gB_split | apply adB_split) <;> intro hb <;> simp -implicitDefEqProofs only [hb, go_sem] <;> try simp only [qz] at hb))
      all_goals (try simp only [maxLen, Int.toNat_natCast] at *)
      all_goals first | rfl | omega | skip
      rw [← bOf_d, bOf_congr]
      exact ⟨fun h => ⟨fun j hj => hall j (by omega), by omega⟩, fun h => by have := h.2; omega⟩
def c83 : Ct := ctR (lc AStr l0) (fun p => True) (fun p => .t (.v (.bool (bOf (Lbl p.1)))))
section
attribute [local go_sem] c36 c129 bOf_t bOf_f
theorem good83 {G : Gt} (hG : OkG G) (hh : G.e 36 = roEnt 0 c36 ∧ G.e 129 = roEnt 0 c129) : Gd G 83 (roEnt 0 c83) := by
  refine gR (dp := fun _ => true) (fn := Tryz.f83) (n := 1) (fun _ => rfl) (by kernel_rfl) rfl (by kernel_rfl) hG (Nat.le_of_ble_eq_true rfl) (by kernel_rfl) (by decide) (fun _ _ => .v _) ?_
  rintro ⟨s, ⟨⟩⟩ hpre
  simp -implicitDefEqProofs only [Tryz.f83, go_sem, hh] at hpre ⊢
  repeat' (first | with_reducible apply And.intro | with_reducible intro _ | ((first | apply brB_split | apply aPickB_split | apply gB_split | apply adB_split) <;> intro hb <;> simp -implicitDefEqProofs only [hb, go_sem, hh] <;> try simp only [qz] at hb))
  all_goals first | rfl | omega | exact lcs_low _ (by assumption) | (simp; done) | skip
  · show T.v (.bool (decide (trL (setN lcs 36) (trR (setN lcs 36) s) = ⟨#[]⟩))) = _
    rw [← bOf_d]
    refine congrArg (fun b => T.v (.bool b)) (bOf_congr ((lcs_iff s).trans ?_))
    exact ⟨fun h => ⟨h, by omega, by omega⟩, fun h => h.1⟩
  · rw [bOf_n (fun h => hb ⟨by have := h.2.1; omega, by have := h.2.2; omega⟩)]
end
def c84 : Ct := ctR (lc AStr l0) (fun p => p.1.size ≤ 2000000) (fun p => .t (.v (.bool (bOf (Dom p.1)))))
section
attribute [local go_sem] c130 c83 dotc aSet_map aCell_map List.length_map Bool.not_true Bool.not_false
theorem good84 {G : Gt} (hG : OkG G) (hh : G.e 130 = roEnt 0 c130 ∧ G.e 83 = roEnt 0 c83) : Gd G 84 (roEnt 0 c84) := by
  refine gR (dp := fun _ => true) (fn := Tryz.f84) (n := 1) (fun _ => rfl) (by kernel_rfl) rfl (by kernel_rfl) hG (Nat.le_of_ble_eq_true rfl) (by kernel_rfl) (by decide) (fun _ _ => .v _) ?_
  rintro ⟨s, ⟨⟩⟩ hpre
  simp -implicitDefEqProofs only [Tryz.f84, go_sem, hh] at hpre ⊢
  repeat' (first | with_reducible apply And.intro | with_reducible intro _ | ((first | apply brB_split | apply aPickB_split | apply gB_split | apply adB_split) <;> intro hb <;> simp -implicitDefEqProofs only [hb, go_sem, hh] <;> try simp only [qz] at hb))
  all_goals first | rfl | omega | skip
  have hlen := spl_len s 46
  have hcnt := cnt_le s 46
  refine run_loop [] (ι := {i : Nat // i ≤ (spl s 46).length ∧ ∀ j, j < i → Lbl ((spl s 46).getD j default)}) (fun p => ⟨[(3, .h 1007), (8, .h 1007), (9, .t (.v (.int .i64 (spl s 46).length))), (10, .t (.v (.int .i64 p.1)))], [(1007, some (.arr true 1 ((spl s 46).map encStr)))]⟩) (fun p => (spl s 46).length - p.1) ⟨0, Nat.zero_le _, fun j hj => absurd hj (Nat.not_lt_zero _)⟩ rfl ?_ ?_
  · simp -implicitDefEqProofs only [go_sem, hh]
    try simp
  · rintro ⟨i, hi, hall⟩
    by_cases hlt : (i : Int) < (spl s 46).length
    · cases hb : bOf (Lbl ((spl s 46).getD (i : Int).toNat default))
      · simp -implicitDefEqProofs only [hlt, hb, go_sem, hh]
        repeat' (first | with_reducible apply And.intro | with_reducible intro _ | ((first | apply brB_split | apply aPickB_split | apply gB_split | apply adB_split) <;> intro hb <;> simp -implicitDefEqProofs only [hb, go_sem, hh] <;> try simp only [qz] at hb))
        all_goals (try simp only [maxLen, Int.toNat_natCast, bOf_f] at *)
        all_goals first | rfl | omega | skip
        rw [bOf_n (fun h => hb (((Dom_spl s).1 h).1 _ (getD_mem (by omega))))]
      · simp -implicitDefEqProofs only [hlt, hb, go_sem, hh]
        repeat' (first | with_reducible apply And.intro | with_reducible intro _ | ((first | apply brB_split | apply aPickB_split | apply gB_split | apply adB_split) <;> intro hb <;> simp -implicitDefEqProofs only [hb, go_sem, hh] <;> try simp only [qz] at hb))
        all_goals (try simp only [maxLen, Int.toNat_natCast, bOf_t] at *)
        all_goals first | rfl | omega | skip
        refine ⟨⟨i + 1, by omega, all_step hall hb⟩, by dsimp only; omega, ?_⟩
        simp -implicitDefEqProofs only [go_sem, hh]
        simp
    · simp -implicitDefEqProofs only [hlt, go_sem, hh]
      repeat' (first | with_reducible apply And.intro | with_reducible intro _ | ((first | apply brB_split | apply aPickB_split | apply gB_split | apply adB_split) <;> intro hb <;> simp -implicitDefEqProofs only [hb, go_sem, hh] <;> try simp only [qz] at hb))
      all_goals first | rfl | omega | skip
      rw [← bOf_d, bOf_congr (Dom_spl s)]
      refine congrArg (fun b => T.v (.bool b)) (bOf_congr ?_)
      exact ⟨fun h => ⟨mem_getD fun j hj => hall j (by omega), by omega⟩, fun h => by have := h.2; omega⟩
end
def c37 : Ct := ctR (lc EAd.ag l0) (fun p => p.1.domain.size ≤ 2000000) (fun p => .t (.v (.bool (bOf (AdOk p.1)))))
section
attribute [local go_sem] c83 c84
theorem good37 {G : Gt} (hG : OkG G) (hh : G.e 83 = roEnt 0 c83 ∧ G.e 84 = roEnt 0 c84) : Gd G 37 (roEnt 0 c37) := by
  refine gR (dp := fun _ => true) (fn := Tryz.f37) (n := 1) (fun _ => rfl) (by kernel_rfl) rfl (by kernel_rfl) hG (Nat.le_of_ble_eq_true rfl) (by kernel_rfl) (by decide) (fun _ _ => .v _) ?_
  rintro ⟨a, ⟨⟩⟩ hpre
  simp -implicitDefEqProofs only [Tryz.f37, go_sem, hh] at hpre ⊢
  repeat' (first | with_reducible apply And.intro | with_reducible intro _ | ((first | apply brB_split | apply aPickB_split | apply gB_split | apply adB_split) <;> intro hb <;> simp -implicitDefEqProofs only [hb, go_sem, hh] <;> try simp only [qz] at hb))
  all_goals (try simp only [bOf_t, bOf_f] at *)
  all_goals first | rfl | omega | skip
  · refine congrArg (fun b => T.v (.bool b)) (bOf_congr ⟨fun h => ⟨by assumption, h⟩, fun h => h.2⟩)
  · rw [bOf_n (fun h => absurd h.1 (by assumption))]
end
def c41 : Ct := ctR (lc EAd.ag l0) (fun p => True) (fun p => .t (.v (.bool (bOf (AdNull p.1)))))
theorem good41 {G : Gt} (hG : OkG G) : Gd G 41 (roEnt 0 c41) := by
  refine gR (dp := fun _ => true) (fn := Tryz.f41) (n := 1) (fun _ => rfl) (by kernel_rfl) rfl (by kernel_rfl) hG (Nat.le_of_ble_eq_true rfl) (by kernel_rfl) (by decide) (fun _ _ => .v _) ?_
  rintro ⟨a, ⟨⟩⟩ hpre
  simp -implicitDefEqProofs only [Tryz.f41, go_sem] at hpre ⊢
  repeat' (first | with_reducible apply And.intro | with_reducible intro _ | ((first | apply brB_split | apply aPickB_split | apply gB_split | apply adB_split) <;> intro hb <;> simp -implicitDefEqProofs only [hb, go_sem] <;> try simp only [qz] at hb))
  all_goals first | rfl | omega | skip
  · unfold AdNull
    rw [bOf_d]
    by_cases h1 : a.user = ⟨#[]⟩ <;> by_cases h2 : a.domain = ⟨#[]⟩ <;> simp [h1, h2]
def c80 : Ct := ctR (lc EAd.ag l0) (fun p => p.1.domain.size ≤ 2000000) (fun p => .t (.v (.bool (bOf (AdOk p.1 ∨ AdNull p.1)))))
section
attribute [local go_sem] c37 c41
theorem good80 {G : Gt} (hG : OkG G) (hh : G.e 37 = roEnt 0 c37 ∧ G.e 41 = roEnt 0 c41) : Gd G 80 (roEnt 0 c80) := by
  refine gR (dp := fun _ => true) (fn := Tryz.f80) (n := 1) (fun _ => rfl) (by kernel_rfl) rfl (by kernel_rfl) hG (Nat.le_of_ble_eq_true rfl) (by kernel_rfl) (by decide) (fun _ _ => .v _) ?_
  rintro ⟨a, ⟨⟩⟩ hpre
  simp -implicitDefEqProofs only [Tryz.f80, go_sem, hh] at hpre ⊢
  repeat' (first | with_reducible apply And.intro | with_reducible intro _ | ((first | apply brB_split | apply aPickB_split | apply gB_split | apply adB_split) <;> intro hb <;> simp -implicitDefEqProofs only [hb, go_sem, hh] <;> try simp only [qz] at hb))
  all_goals (try simp only [bOf_t, bOf_f] at *)
  all_goals first | rfl | omega | skip
  · rw [bOf_y (.inr (by assumption))]
  · refine congrArg (fun b => T.v (.bool b)) (bOf_congr ⟨fun h => .inl h, fun h => h.resolve_right (by assumption)⟩)
end
theorem vT {p : Prop} (h : p) : T.v (Value.bool true) = T.v (Value.bool (bOf p)) := by rw [bOf_y h]
theorem vN {p q : Prop} (h : ¬ p ↔ q) : T.v (Value.bool (!bOf p)) = T.v (Value.bool (bOf q)) := by rw [bOf_not, bOf_congr h]
theorem vF {p : Prop} (h : ¬ p) : T.v (Value.bool false) = T.v (Value.bool (bOf p)) := by rw [bOf_n h]
theorem vD {p q : Prop} [Decidable p] (h : p ↔ q) : T.v (Value.bool (decide p)) = T.v (Value.bool (bOf q)) := by rw [← bOf_d, bOf_congr h]
def Pre (s p : ByteArray) : Prop := p.size ≤ s.size ∧ s.extract 0 p.size = p
def Suf (s p : ByteArray) : Prop := p.size ≤ s.size ∧ s.extract (s.size - p.size) s.size = p
open Classical in
noncomputable def preX (s p : ByteArray) : ByteArray := if Pre s p then s.extract p.size s.size else s
open Classical in
noncomputable def sufX (s p : ByteArray) : ByteArray := if Suf s p then s.extract 0 (s.size - p.size) else s
theorem preX_y {s p : ByteArray} (h : Pre s p) : preX s p = s.extract p.size s.size := if_pos h
theorem preX_n {s p : ByteArray} (h : ¬ Pre s p) : preX s p = s := if_neg h
theorem sufX_y {s p : ByteArray} (h : Suf s p) : sufX s p = s.extract 0 (s.size - p.size) := if_pos h
theorem sufX_n {s p : ByteArray} (h : ¬ Suf s p) : sufX s p = s := if_neg h
theorem preX_le (s p : ByteArray) : (preX s p).size ≤ s.size := by
  unfold preX; split
  · rw [ByteArray.size_extract]; omega
  · exact Nat.le_refl _
theorem sufX_le (s p : ByteArray) : (sufX s p).size ≤ s.size := by
  unfold sufX; split
  · rw [ByteArray.size_extract]; omega
  · exact Nat.le_refl _
def c166 : Ct := ctR (lc AStr (lc AStr l0)) (fun p => p.1.size ≤ 2000000 ∧ p.2.1.size ≤ 2000000) (fun p => .t (.v (.bool (bOf (Pre p.1 p.2.1)))))
theorem good166 {G : Gt} (hG : OkG G) : Gd G 166 (roEnt 0 c166) := by
  refine gR (dp := fun _ => true) (fn := Tryz.f166) (n := 2) (fun _ => rfl) (by kernel_rfl) rfl (by kernel_rfl) hG (Nat.le_of_ble_eq_true rfl) (by kernel_rfl) (by decide) (fun _ _ => .v _) ?_
  rintro ⟨s, q, ⟨⟩⟩ hpre
  simp -implicitDefEqProofs only [Tryz.f166, go_sem] at hpre ⊢
  obtain ⟨z1, z2⟩ := hpre
  repeat' (first | with_reducible apply And.intro | with_reducible intro _ | ((first | apply brB_split | apply aPickB_split | apply gB_split | apply adB_split) <;> intro hb <;> simp -implicitDefEqProofs only [hb, go_sem] <;> try simp only [qz] at hb))
  all_goals (try simp only [maxLen, Int.toNat_natCast] at *)
  all_goals first
    | rfl
    | omega
    | exact vD ⟨fun h => ⟨by omega, h⟩, fun h => h.2⟩
    | exact vF (fun h => by have := h.1; omega)
    | trace_state
def c144 : Ct := ctR (lc AStr (lc AStr l0)) (fun p => p.1.size ≤ 2000000 ∧ p.2.1.size ≤ 2000000) (fun p => .t (.v (.bool (bOf (Pre p.1 p.2.1)))))
section
attribute [local go_sem] c166
theorem good144 {G : Gt} (hG : OkG G) (hh : G.e 166 = roEnt 0 c166) : Gd G 144 (roEnt 0 c144) := by
  refine gR (dp := fun _ => true) (fn := Tryz.f144) (n := 2) (fun _ => rfl) (by kernel_rfl) rfl (by kernel_rfl) hG (Nat.le_of_ble_eq_true rfl) (by kernel_rfl) (by decide) (fun _ _ => .v _) ?_
  rintro ⟨s, q, ⟨⟩⟩ hpre
  simp -implicitDefEqProofs only [Tryz.f144, go_sem, hh] at hpre ⊢
  obtain ⟨z1, z2⟩ := hpre
  repeat' (first | with_reducible apply And.intro | with_reducible intro _ | ((first | apply brB_split | apply aPickB_split | apply gB_split | apply adB_split) <;> intro hb <;> simp -implicitDefEqProofs only [hb, go_sem, hh] <;> try simp only [qz] at hb))
  all_goals (try simp only [maxLen, Int.toNat_natCast] at *)
  all_goals first
    | rfl
    | omega
    | exact vD ⟨fun h => ⟨by omega, h⟩, fun h => h.2⟩
    | exact vF (fun h => by have := h.1; omega)
    | trace_state
end
theorem sol2 (a b : Value) : Solid (.tup [.t (.v a), .t (.v b)]) := .tup _ fun c hc => by
  simp only [List.mem_cons, List.not_mem_nil, or_false] at hc
  rcases hc with rfl | rfl <;> exact .v _
theorem sol3 (a b c : Value) : Solid (.tup [.t (.v a), .t (.v b), .t (.v c)]) := .tup _ fun c hc => by
  simp only [List.mem_cons, List.not_mem_nil, or_false] at hc
  rcases hc with rfl | rfl | rfl <;> exact .v _
noncomputable def cpB (s p : ByteArray) : AV := .tup [.t (.v (.string (preX s p))), .t (.v (.bool (bOf (Pre s p))))]
theorem cpB_eq (s p : ByteArray) : cpB s p = .tup [.t (.v (.string (preX s p))), .t (.v (.bool (bOf (Pre s p))))] := rfl
open Lib in
open Classical in
noncomputable def ctU (s p : ByteArray) : ByteArray := if 0 ≤ indexB s p then s.extract 0 (indexB s p).toNat else s
open Lib in
open Classical in
noncomputable def ctD (s p : ByteArray) : ByteArray := if 0 ≤ indexB s p then s.extract ((indexB s p).toNat + p.size) s.size else ⟨#[]⟩
noncomputable def ctB (s p : ByteArray) : AV := .tup [.t (.v (.string (ctU s p))), .t (.v (.string (ctD s p))), .t (.v (.bool (bOf (0 ≤ Lib.indexB s p))))]
theorem ctU_le (s p : ByteArray) : (ctU s p).size ≤ s.size := by
  unfold ctU; split
  · rw [ByteArray.size_extract]; omega
  · exact Nat.le_refl _
theorem ctD_le (s p : ByteArray) : (ctD s p).size ≤ s.size := by
  unfold ctD; split
  · rw [ByteArray.size_extract]; omega
  · exact Nat.zero_le _
theorem ctB_eq (s p : ByteArray) : ctB s p = .tup [.t (.v (.string (ctU s p))), .t (.v (.string (ctD s p))), .t (.v (.bool (bOf (0 ≤ Lib.indexB s p))))] := rfl
theorem ctU_y {s p : ByteArray} (h : Lib.indexB s p ≥ 0) : s.extract 0 (Lib.indexB s p).toNat = ctU s p := (if_pos h).symm
theorem ctU_n {s p : ByteArray} (h : ¬ Lib.indexB s p ≥ 0) : s = ctU s p := (if_neg h).symm
theorem ctD_y {s p : ByteArray} (h : Lib.indexB s p ≥ 0) : s.extract (Lib.indexB s p + (p.size : Nat)).toNat s.size = ctD s p := by
  unfold ctD
  rw [if_pos h]
  congr 1
  omega
theorem ctD_n {s p : ByteArray} (h : ¬ Lib.indexB s p ≥ 0) : (⟨#[]⟩ : ByteArray) = ctD s p := (if_neg h).symm
theorem ctB_solid (s p : ByteArray) : Solid (ctB s p) := sol3 _ _ _
theorem ix_room (s p : ByteArray) (h : 0 ≤ Lib.indexB s p) : (Lib.indexB s p).toNat + p.size ≤ s.size := by
  have hr := Lib.index_room (bl s) (bl p) (show 0 ≤ Lib.index (bl s) (bl p) from h)
  have e : Lib.index (bl s) (bl p) = Lib.indexB s p := rfl
  rw [e, bl_len, bl_len] at hr
  omega
def c184 : Ct := ctR (lc AStr (lc AStr l0)) (fun p => p.1.size ≤ 2000000 ∧ p.2.1.size ≤ 2000000) (fun p => cpB p.1 p.2.1)
section
attribute [local go_sem] c166 cpB_eq bOf_t bOf_f
theorem good184 {G : Gt} (hG : OkG G) (hh : G.e 166 = roEnt 0 c166) : Gd G 184 (roEnt 0 c184) := by
  refine gR (dp := fun _ => true) (fn := Tryz.f184) (n := 2) (fun _ => rfl) (by kernel_rfl) rfl (by kernel_rfl) hG (Nat.le_of_ble_eq_true rfl) (by kernel_rfl) (by decide) (fun _ _ => sol2 _ _) ?_
  rintro ⟨s, q, ⟨⟩⟩ hpre
  simp -implicitDefEqProofs only [Tryz.f184, go_sem, hh] at hpre ⊢
  obtain ⟨z1, z2⟩ := hpre
  repeat' (first | with_reducible apply And.intro | with_reducible intro _ | ((first | apply brB_split | apply aPickB_split | apply gB_split | apply adB_split) <;> intro hb <;> simp -implicitDefEqProofs only [hb, go_sem, hh] <;> try simp only [qz] at hb))
  all_goals (try simp only [maxLen, Int.toNat_natCast] at *)
  all_goals first
    | rfl
    | omega
    | assumption
    | exact hb.1
    | (have := hb.1; omega)
    | exact vT hb
    | exact vF hb
    | (rw [preX_y (by assumption)]; done)
    | (rw [preX_n (by assumption)]; done)
    | (rw [preX_y (by assumption), bOf_y (by assumption)]; done)
    | (rw [preX_n (by assumption), bOf_n (by assumption)]; done)
    | trace_state
end
def c168 : Ct := ctR (lc AStr (lc AStr l0)) (fun p => p.1.size ≤ 2000000 ∧ p.2.1.size ≤ 2000000) (fun p => cpB p.1 p.2.1)
section
attribute [local go_sem] c184 cpB_eq bOf_t bOf_f
theorem good168 {G : Gt} (hG : OkG G) (hh : G.e 184 = roEnt 0 c184) : Gd G 168 (roEnt 0 c168) := by
  refine gR (dp := fun _ => true) (fn := Tryz.f168) (n := 2) (fun _ => rfl) (by kernel_rfl) rfl (by kernel_rfl) hG (Nat.le_of_ble_eq_true rfl) (by kernel_rfl) (by decide) (fun _ _ => sol2 _ _) ?_
  rintro ⟨s, q, ⟨⟩⟩ hpre
  simp -implicitDefEqProofs only [Tryz.f168, go_sem, hh] at hpre ⊢
  obtain ⟨z1, z2⟩ := hpre
  repeat' (first | with_reducible apply And.intro | with_reducible intro _ | ((first | apply brB_split | apply aPickB_split | apply gB_split | apply adB_split) <;> intro hb <;> simp -implicitDefEqProofs only [hb, go_sem, hh] <;> try simp only [qz] at hb))
  all_goals (try simp only [maxLen, Int.toNat_natCast] at *)
  all_goals first
    | rfl
    | omega
    | assumption
    | exact hb.1
    | (have := hb.1; omega)
    | exact vT hb
    | exact vF hb
    | (rw [preX_y (by assumption)]; done)
    | (rw [preX_n (by assumption)]; done)
    | (rw [preX_y (by assumption), bOf_y (by assumption)]; done)
    | (rw [preX_n (by assumption), bOf_n (by assumption)]; done)
    | trace_state
end
def c186 : Ct := ctR (lc AStr (lc AStr l0)) (fun p => p.1.size ≤ 2000000 ∧ p.2.1.size ≤ 2000000) (fun p => .t (.v (.string (sufX p.1 p.2.1))))
section
attribute [local go_sem] c198 bOf_t bOf_f
theorem good186 {G : Gt} (hG : OkG G) (hh : G.e 198 = roEnt 0 c198) : Gd G 186 (roEnt 0 c186) := by
  refine gR (dp := fun _ => true) (fn := Tryz.f186) (n := 2) (fun _ => rfl) (by kernel_rfl) rfl (by kernel_rfl) hG (Nat.le_of_ble_eq_true rfl) (by kernel_rfl) (by decide) (fun _ _ => .v _) ?_
  rintro ⟨s, q, ⟨⟩⟩ hpre
  simp -implicitDefEqProofs only [Tryz.f186, go_sem, hh] at hpre ⊢
  obtain ⟨z1, z2⟩ := hpre
  repeat' (first | with_reducible apply And.intro | with_reducible intro _ | ((first | apply brB_split | apply aPickB_split | apply gB_split | apply adB_split) <;> intro hb <;> simp -implicitDefEqProofs only [hb, go_sem, hh] <;> try simp only [qz] at hb))
  all_goals (try simp only [maxLen, Int.toNat_natCast] at *)
  all_goals first
    | rfl
    | omega
    | assumption
    | (have := hb.1; omega)
    | (rw [sufX_y hb]; done)
    | (rw [sufX_y hb]; congr 3; have := hb.1; omega)
    | (rw [sufX_n hb]; done)
    | trace_state
end
def c170 : Ct := ctR (lc AStr (lc AStr l0)) (fun p => p.1.size ≤ 2000000 ∧ p.2.1.size ≤ 2000000) (fun p => .t (.v (.string (sufX p.1 p.2.1))))
section
attribute [local go_sem] c186 bOf_t bOf_f
theorem good170 {G : Gt} (hG : OkG G) (hh : G.e 186 = roEnt 0 c186) : Gd G 170 (roEnt 0 c170) := by
  refine gR (dp := fun _ => true) (fn := Tryz.f170) (n := 2) (fun _ => rfl) (by kernel_rfl) rfl (by kernel_rfl) hG (Nat.le_of_ble_eq_true rfl) (by kernel_rfl) (by decide) (fun _ _ => .v _) ?_
  rintro ⟨s, q, ⟨⟩⟩ hpre
  simp -implicitDefEqProofs only [Tryz.f170, go_sem, hh] at hpre ⊢
  obtain ⟨z1, z2⟩ := hpre
  repeat' (first | with_reducible apply And.intro | with_reducible intro _ | ((first | apply brB_split | apply aPickB_split | apply gB_split | apply adB_split) <;> intro hb <;> simp -implicitDefEqProofs only [hb, go_sem, hh] <;> try simp only [qz] at hb))
  all_goals (try simp only [maxLen, Int.toNat_natCast] at *)
  all_goals first
    | rfl
    | omega
    | assumption
    | (have := hb.1; omega)
    | (rw [sufX_y hb]; done)
    | (rw [sufX_y hb]; congr 3; have := hb.1; omega)
    | (rw [sufX_n hb]; done)
    | trace_state
end
def c185 : Ct := ctR (lc AStr (lc AStr l0)) (fun p => p.1.size ≤ 2000000 ∧ p.2.1.size ≤ 2000000) (fun p => ctB p.1 p.2.1)
section
attribute [local go_sem] c197 ctB_eq
theorem good185 {G : Gt} (hG : OkG G) (hh : G.e 197 = roEnt 0 c197) : Gd G 185 (roEnt 0 c185) := by
  refine gR (dp := fun _ => true) (fn := Tryz.f185) (n := 2) (fun _ => rfl) (by kernel_rfl) rfl (by kernel_rfl) hG (Nat.le_of_ble_eq_true rfl) (by kernel_rfl) (by decide) (fun _ _ => ctB_solid _ _) ?_
  rintro ⟨s, q, ⟨⟩⟩ hpre
  simp -implicitDefEqProofs only [Tryz.f185, go_sem, hh] at hpre ⊢
  obtain ⟨z1, z2⟩ := hpre
  repeat' (first | with_reducible apply And.intro | with_reducible intro _ | ((first | apply brB_split | apply aPickB_split | apply gB_split | apply adB_split) <;> intro hb <;> simp -implicitDefEqProofs only [hb, go_sem, hh] <;> try simp only [qz] at hb))
  all_goals (try simp only [maxLen, Int.toNat_natCast] at *)
  all_goals (try have hr := ix_room s q (by assumption))
  all_goals first
    | with_reducible rfl
    | omega
    | decide
    | (show pairsB _ = true; rfl)
    | assumption
    | (rw [ctU_y hb]; done)
    | (rw [← ctU_n hb]; done)
    | (rw [ctD_y hb]; done)
    | (rw [← ctD_n hb]; done)
    | exact vT hb
    | exact vF hb
    | trace_state
end
def c169 : Ct := ctR (lc AStr (lc AStr l0)) (fun p => p.1.size ≤ 2000000 ∧ p.2.1.size ≤ 2000000) (fun p => ctB p.1 p.2.1)
section
attribute [local go_sem] c185 ctB_eq
theorem good169 {G : Gt} (hG : OkG G) (hh : G.e 185 = roEnt 0 c185) : Gd G 169 (roEnt 0 c169) := by
  refine gR (dp := fun _ => true) (fn := Tryz.f169) (n := 2) (fun _ => rfl) (by kernel_rfl) rfl (by kernel_rfl) hG (Nat.le_of_ble_eq_true rfl) (by kernel_rfl) (by decide) (fun _ _ => ctB_solid _ _) ?_
  rintro ⟨s, q, ⟨⟩⟩ hpre
  simp -implicitDefEqProofs only [Tryz.f169, go_sem, hh] at hpre ⊢
  obtain ⟨z1, z2⟩ := hpre
  repeat' (first | with_reducible apply And.intro | with_reducible intro _ | ((first | apply brB_split | apply aPickB_split | apply gB_split | apply adB_split) <;> intro hb <;> simp -implicitDefEqProofs only [hb, go_sem, hh] <;> try simp only [qz] at hb))
  all_goals (try simp only [maxLen, Int.toNat_natCast] at *)
  all_goals (try have hr := ix_room s q (by assumption))
  all_goals first
    | with_reducible rfl
    | omega
    | decide
    | (show pairsB _ = true; rfl)
    | assumption
    | (rw [ctU_y hb]; done)
    | (rw [← ctU_n hb]; done)
    | (rw [ctD_y hb]; done)
    | (rw [← ctD_n hb]; done)
    | exact vT hb
    | exact vF hb
    | trace_state
end
def hopP : ByteArray := ⟨#[72, 111, 112, 58, 32]⟩
def HopL (s : ByteArray) : Prop := Pre s hopP ∧ Dom (s.extract 5 s.size)
theorem HopL_iff {s : ByteArray} : (Pre s ⟨#[72, 111, 112, 58, 32]⟩ ∧ Dom (preX s ⟨#[72, 111, 112, 58, 32]⟩)) ↔ HopL s := by
  unfold HopL
  constructor
  · rintro ⟨h1, h2⟩
    rw [preX_y h1] at h2
    exact ⟨h1, h2⟩
  · rintro ⟨h1, h2⟩
    have e : preX s ⟨#[72, 111, 112, 58, 32]⟩ = s.extract 5 s.size := preX_y h1
    exact ⟨h1, by rw [e]; exact h2⟩
namespace Enc
variable {α : Type} (E : Enc α)
def apD : AV → Option α
  | .t (.rop c) => E.dec c
  | _ => none
def ap : AD α where
  enc a := .t (.rop (E.enc a))
  dec := E.apD
  ed := fun a => E.ed a
  de := fun x a h => by
    unfold apD at h
    split at h
    · rw [E.de _ _ h]
    · cases h
end Enc
theorem ap_enc {α : Type} {E : Enc α} {a : α} : E.ap.enc a = .t (.rop (E.enc a)) := rfl
theorem ap_dec {α : Type} {E : Enc α} {c : List T} : E.ap.dec (.t (.rop c)) = E.dec c := rfl
theorem AFn0_dec {f : FuncId} : (AFn0 f).dec (.t (.fn f [])) = some () := if_pos rfl
theorem AFn0_enc {f : FuncId} {u : Unit} : (AFn0 f).enc u = .t (.fn f []) := rfl
noncomputable def ixP {α : Type} (p : α → Prop) : Nat → List α → Int
  | _, [] => -1
  | k, x :: t => bif bOf (p x) then k else ixP p (k + 1) t
theorem ixP_yes {α : Type} [Inhabited α] {p : α → Prop} {xs : List α} {i : Nat} (h : i < xs.length) (ha : p (xs.getD i default)) : ixP p i (xs.drop i) = i := by
  rw [getD_drop h, ixP, bOf_y ha]; rfl
theorem ixP_no {α : Type} [Inhabited α] {p : α → Prop} {xs : List α} {i : Nat} (h : i < xs.length) (ha : ¬ p (xs.getD i default)) : ixP p i (xs.drop i) = ixP p (i + 1) (xs.drop (i + 1)) := by
  rw [getD_drop h, ixP, bOf_n ha]; rfl
theorem ixP_end {α : Type} {p : α → Prop} {xs : List α} {i : Nat} (h : xs.length ≤ i) : ixP p i (xs.drop i) = -1 := by
  rw [List.drop_eq_nil_of_le h, ixP]
theorem ixP_iff {α : Type} {p : α → Prop} : ∀ (xs : List α) (k : Nat), 0 ≤ ixP p k xs ↔ ∃ x ∈ xs, p x
  | [], k => by simp [ixP]
  | x :: t, k => by
    rw [ixP]
    by_cases h : p x
    · rw [bOf_y h, cond_true]
      exact ⟨fun _ => ⟨x, by simp, h⟩, fun _ => by omega⟩
    · rw [bOf_n h, cond_false, ixP_iff t (k + 1)]
      simp [h]
inductive FStr where
  | line
  | dom
  | hop
def FStr.enc : FStr → AV
  | .line  => .t (.fn 127 [])
  | .dom  => .t (.fn 132 [])
  | .hop  => .t (.fn 167 [])
def FStr.dec : AV → Option FStr
  | .t (.fn 127 []) => some (.line )
  | .t (.fn 132 []) => some (.dom )
  | .t (.fn 167 []) => some (.hop )
  | _ => none
def FStr.sem : FStr → ByteArray → Prop
  | .line , x => ¬ Lin x
  | .dom , x => ¬ Dom x
  | .hop , x => ¬ HopL x
def FStr.pre : FStr → ByteArray → Prop
  | .line , x => x.size ≤ 2000000
  | .dom , x => x.size ≤ 2000000
  | .hop , x => x.size ≤ 2000000
def AFStr : AD FStr where
  enc := FStr.enc
  dec := FStr.dec
  ed := fun f => by cases f <;> rfl
  de := fun x f h => by
    unfold FStr.dec at h
    split at h <;> cases h <;> rfl
theorem AFStr_d0  : AFStr.dec (.t (.fn 127 [])) = some (.line ) := rfl
theorem AFStr_e0  : AFStr.enc (.line ) = .t (.fn 127 []) := rfl
theorem AFStr_d1  : AFStr.dec (.t (.fn 132 [])) = some (.dom ) := rfl
theorem AFStr_e1  : AFStr.enc (.dom ) = .t (.fn 132 []) := rfl
theorem AFStr_d2  : AFStr.dec (.t (.fn 167 [])) = some (.hop ) := rfl
theorem AFStr_e2  : AFStr.enc (.hop ) = .t (.fn 167 []) := rfl
def c127 : Ct := ctR (lc AStr l0) (fun p => p.1.size ≤ 2000000) (fun p => .t (.v (.bool (bOf (¬ Lin p.1)))))
section
attribute [local go_sem] c128 ap_enc ap_dec AFn0_dec AFn0_enc Bool.not_true Bool.not_false ty146 lv27
theorem good127 {G : Gt} (hG : OkG G) (hh : G.e 128 = roEnt 0 c128) : Gd G 127 (roEnt 0 c127) := by
  refine gR (dp := fun _ => true) (fn := Tryz.f127) (n := 1) (fun _ => rfl) (by kernel_rfl) rfl (by kernel_rfl) hG (Nat.le_of_ble_eq_true rfl) (by kernel_rfl) (by decide) (fun _ _ => .v _) ?_
  rintro ⟨x, ⟨⟩⟩ hpre
  simp -implicitDefEqProofs only [Tryz.f127, go_sem, hh] at hpre ⊢
  repeat' (first | with_reducible apply And.intro | with_reducible intro _ | ((first | apply brB_split | apply aPickB_split | apply gB_split | apply adB_split) <;> intro hb <;> simp -implicitDefEqProofs only [hb, go_sem, hh] <;> try simp only [qz] at hb))
  all_goals first | rfl | omega | exact hpre | skip
  all_goals (try (simp only [bOf_not]; done))
  all_goals first | rfl | (rw [bOf_d]; done) | (rw [bOf_d, decide_eq_decide.2]; simp [Ad_ext]; done) | (rw [bOf_d]; simp [Ad_ext]; done)
end
def c132 : Ct := ctR (lc AStr l0) (fun p => p.1.size ≤ 2000000) (fun p => .t (.v (.bool (bOf (¬ Dom p.1)))))
section
attribute [local go_sem] c84 ap_enc ap_dec AFn0_dec AFn0_enc Bool.not_true Bool.not_false ty146 lv27
theorem good132 {G : Gt} (hG : OkG G) (hh : G.e 84 = roEnt 0 c84) : Gd G 132 (roEnt 0 c132) := by
  refine gR (dp := fun _ => true) (fn := Tryz.f132) (n := 1) (fun _ => rfl) (by kernel_rfl) rfl (by kernel_rfl) hG (Nat.le_of_ble_eq_true rfl) (by kernel_rfl) (by decide) (fun _ _ => .v _) ?_
  rintro ⟨x, ⟨⟩⟩ hpre
  simp -implicitDefEqProofs only [Tryz.f132, go_sem, hh] at hpre ⊢
  repeat' (first | with_reducible apply And.intro | with_reducible intro _ | ((first | apply brB_split | apply aPickB_split | apply gB_split | apply adB_split) <;> intro hb <;> simp -implicitDefEqProofs only [hb, go_sem, hh] <;> try simp only [qz] at hb))
  all_goals first | rfl | omega | exact hpre | skip
  all_goals (try (simp only [bOf_not]; done))
  all_goals first | rfl | (rw [bOf_d]; done) | (rw [bOf_d, decide_eq_decide.2]; simp [Ad_ext]; done) | (rw [bOf_d]; simp [Ad_ext]; done)
end
def c167 : Ct := ctR (lc AStr l0) (fun p => p.1.size ≤ 2000000) (fun p => .t (.v (.bool (bOf (¬ HopL p.1)))))
section
attribute [local go_sem] c168 c84 ap_enc ap_dec AFn0_dec AFn0_enc Bool.not_true Bool.not_false ty146 lv27 cpB_eq bOf_t bOf_f
theorem good167 {G : Gt} (hG : OkG G) (hh : G.e 168 = roEnt 0 c168 ∧ G.e 84 = roEnt 0 c84) : Gd G 167 (roEnt 0 c167) := by
  refine gR (dp := fun _ => true) (fn := Tryz.f167) (n := 1) (fun _ => rfl) (by kernel_rfl) rfl (by kernel_rfl) hG (Nat.le_of_ble_eq_true rfl) (by kernel_rfl) (by decide) (fun _ _ => .v _) ?_
  rintro ⟨x, ⟨⟩⟩ hpre
  simp -implicitDefEqProofs only [Tryz.f167, go_sem, hh] at hpre ⊢
  repeat' (first | with_reducible apply And.intro | with_reducible intro _ | ((first | apply brB_split | apply aPickB_split | apply gB_split | apply adB_split) <;> intro hb <;> simp -implicitDefEqProofs only [hb, go_sem, hh] <;> try simp only [qz] at hb))
  all_goals (try simp only [bOf_t, bOf_f, maxLen] at *)
  all_goals first
    | rfl
    | omega
    | decide
    | exact hpre
    | (have := preX_le x ⟨#[72, 111, 112, 58, 32]⟩; omega)
    | exact vT (fun h => absurd (HopL_iff.2 h).1 (by assumption))
    | exact vN ⟨fun h q => h (HopL_iff.2 q).2, fun h q => h (HopL_iff.1 ⟨by assumption, q⟩)⟩
    | trace_state
end
def c154 : Ct := ctR (lc EStr.asl (lc AFStr l0)) (fun p => ∀ x ∈ p.1, p.2.1.pre x) (fun p => .t (.v (.int .i64 (ixP p.2.1.sem 0 p.1))))
section
attribute [local go_sem] c127 c132 c167 ap_enc ap_dec AFn0_dec AFn0_enc Bool.not_true Bool.not_false ty146 lv27 AFStr_d0 AFStr_e0 AFStr_d1 AFStr_e1 AFStr_d2 AFStr_e2
theorem good154 {G : Gt} (hG : OkG G) (hh : G.e 127 = roEnt 0 c127 ∧ G.e 132 = roEnt 0 c132 ∧ G.e 167 = roEnt 0 c167) : Gd G 154 (roEnt 0 c154) := by
  refine gR (dp := fun _ => true) (fn := Tryz.f154) (n := 2) (fun _ => rfl) (by kernel_rfl) rfl (by kernel_rfl) hG (Nat.le_of_ble_eq_true rfl) (by kernel_rfl) (by decide) (fun _ _ => .v _) ?_
  rintro ⟨xs, f, ⟨⟩⟩ hpre
  have hs := hpre
  dsimp only at hs ⊢
  cases f with
  | line  =>
    simp -implicitDefEqProofs only [Tryz.f154, go_sem, hh]
    repeat' (first | with_reducible apply And.intro | with_reducible intro _ | ((first | apply brB_split | apply aPickB_split | apply gB_split | apply adB_split) <;> intro hb <;> simp -implicitDefEqProofs only [hb, go_sem, hh] <;> try simp only [qz] at hb))
    all_goals first | rfl | omega | skip
    refine run_loop [] (ι := {i : Nat // i ≤ xs.length ∧ ixP (FStr.sem (.line )) 0 xs = ixP (FStr.sem (.line )) i (xs.drop i)}) (fun p => ⟨[(0, .t (.sl 1 (xs.map encStr))), (1, .t (.fn 127 [])), (7, .t (.v (.int .i64 xs.length))), (8, .t (.v (.int .i64 p.1)))], []⟩) (fun p => xs.length - p.1) ⟨0, Nat.zero_le _, rfl⟩ rfl ?_ ?_
    · simp -implicitDefEqProofs only [go_sem, hh]
      try simp
    · rintro ⟨i, hi, hix⟩
      by_cases hlt : (i : Int) < xs.length
      · have hm : xs.getD (i : Int).toNat default ∈ xs := getD_mem (by omega)
        have hsz := hs _ hm
        cases hb : bOf (¬ Lin (xs.getD (i : Int).toNat default))
        · have hq := hb
          simp -implicitDefEqProofs only [hlt, hq, go_sem, hh]
          repeat' (first | with_reducible apply And.intro | with_reducible intro _ | ((first | apply brB_split | apply aPickB_split | apply gB_split | apply adB_split) <;> intro hb <;> simp -implicitDefEqProofs only [hb, go_sem, hh] <;> try simp only [qz] at hb))
          all_goals (try simp only [maxLen] at *)
          all_goals first | rfl | omega | with_reducible assumption | exact hsz | exact hsz.1 | exact hsz.2 | exact hsz.2 _ (by assumption) | exact hsz.2.1 | exact hsz.2.2.1 | exact hsz.2.2.2 | trivial | skip
          rw [bOf_f, Int.toNat_natCast] at hb
          refine ⟨⟨i + 1, by omega, ?_⟩, by dsimp only; omega, ?_⟩
          · rw [hix, ixP_no (p := FStr.sem (.line )) (by omega) hb]
          · simp -implicitDefEqProofs only [go_sem, hh]
            try simp
        · have hq := hb
          simp -implicitDefEqProofs only [hlt, hq, go_sem, hh]
          repeat' (first | with_reducible apply And.intro | with_reducible intro _ | ((first | apply brB_split | apply aPickB_split | apply gB_split | apply adB_split) <;> intro hb <;> simp -implicitDefEqProofs only [hb, go_sem, hh] <;> try simp only [qz] at hb))
          all_goals (try simp only [maxLen] at *)
          all_goals first | rfl | omega | with_reducible assumption | exact hsz | exact hsz.1 | exact hsz.2 | exact hsz.2 _ (by assumption) | exact hsz.2.1 | exact hsz.2.2.1 | exact hsz.2.2.2 | trivial | skip
          rw [bOf_t, Int.toNat_natCast] at hb
          rw [hix, ixP_yes (p := FStr.sem (.line )) (by omega) hb]
      · simp -implicitDefEqProofs only [hlt, go_sem, hh]
        repeat' (first | with_reducible apply And.intro | with_reducible intro _ | ((first | apply brB_split | apply aPickB_split | apply gB_split | apply adB_split) <;> intro hb <;> simp -implicitDefEqProofs only [hb, go_sem, hh] <;> try simp only [qz] at hb))
        all_goals first | rfl | omega | skip
        all_goals (rw [hix, ixP_end (by omega)])
  | dom  =>
    simp -implicitDefEqProofs only [Tryz.f154, go_sem, hh]
    repeat' (first | with_reducible apply And.intro | with_reducible intro _ | ((first | apply brB_split | apply aPickB_split | apply gB_split | apply adB_split) <;> intro hb <;> simp -implicitDefEqProofs only [hb, go_sem, hh] <;> try simp only [qz] at hb))
    all_goals first | rfl | omega | skip
    refine run_loop [] (ι := {i : Nat // i ≤ xs.length ∧ ixP (FStr.sem (.dom )) 0 xs = ixP (FStr.sem (.dom )) i (xs.drop i)}) (fun p => ⟨[(0, .t (.sl 1 (xs.map encStr))), (1, .t (.fn 132 [])), (7, .t (.v (.int .i64 xs.length))), (8, .t (.v (.int .i64 p.1)))], []⟩) (fun p => xs.length - p.1) ⟨0, Nat.zero_le _, rfl⟩ rfl ?_ ?_
    · simp -implicitDefEqProofs only [go_sem, hh]
      try simp
    · rintro ⟨i, hi, hix⟩
      by_cases hlt : (i : Int) < xs.length
      · have hm : xs.getD (i : Int).toNat default ∈ xs := getD_mem (by omega)
        have hsz := hs _ hm
        cases hb : bOf (¬ Dom (xs.getD (i : Int).toNat default))
        · have hq := hb
          simp -implicitDefEqProofs only [hlt, hq, go_sem, hh]
          repeat' (first | with_reducible apply And.intro | with_reducible intro _ | ((first | apply brB_split | apply aPickB_split | apply gB_split | apply adB_split) <;> intro hb <;> simp -implicitDefEqProofs only [hb, go_sem, hh] <;> try simp only [qz] at hb))
          all_goals (try simp only [maxLen] at *)
          all_goals first | rfl | omega | with_reducible assumption | exact hsz | exact hsz.1 | exact hsz.2 | exact hsz.2 _ (by assumption) | exact hsz.2.1 | exact hsz.2.2.1 | exact hsz.2.2.2 | trivial | skip
          rw [bOf_f, Int.toNat_natCast] at hb
          refine ⟨⟨i + 1, by omega, ?_⟩, by dsimp only; omega, ?_⟩
          · rw [hix, ixP_no (p := FStr.sem (.dom )) (by omega) hb]
          · simp -implicitDefEqProofs only [go_sem, hh]
            try simp
        · have hq := hb
          simp -implicitDefEqProofs only [hlt, hq, go_sem, hh]
          repeat' (first | with_reducible apply And.intro | with_reducible intro _ | ((first | apply brB_split | apply aPickB_split | apply gB_split | apply adB_split) <;> intro hb <;> simp -implicitDefEqProofs only [hb, go_sem, hh] <;> try simp only [qz] at hb))
          all_goals (try simp only [maxLen] at *)
          all_goals first | rfl | omega | with_reducible assumption | exact hsz | exact hsz.1 | exact hsz.2 | exact hsz.2 _ (by assumption) | exact hsz.2.1 | exact hsz.2.2.1 | exact hsz.2.2.2 | trivial | skip
          rw [bOf_t, Int.toNat_natCast] at hb
          rw [hix, ixP_yes (p := FStr.sem (.dom )) (by omega) hb]
      · simp -implicitDefEqProofs only [hlt, go_sem, hh]
        repeat' (first | with_reducible apply And.intro | with_reducible intro _ | ((first | apply brB_split | apply aPickB_split | apply gB_split | apply adB_split) <;> intro hb <;> simp -implicitDefEqProofs only [hb, go_sem, hh] <;> try simp only [qz] at hb))
        all_goals first | rfl | omega | skip
        all_goals (rw [hix, ixP_end (by omega)])
  | hop  =>
    simp -implicitDefEqProofs only [Tryz.f154, go_sem, hh]
    repeat' (first | with_reducible apply And.intro | with_reducible intro _ | ((first | apply brB_split | apply aPickB_split | apply gB_split | apply adB_split) <;> intro hb <;> simp -implicitDefEqProofs only [hb, go_sem, hh] <;> try simp only [qz] at hb))
    all_goals first | rfl | omega | skip
    refine run_loop [] (ι := {i : Nat // i ≤ xs.length ∧ ixP (FStr.sem (.hop )) 0 xs = ixP (FStr.sem (.hop )) i (xs.drop i)}) (fun p => ⟨[(0, .t (.sl 1 (xs.map encStr))), (1, .t (.fn 167 [])), (7, .t (.v (.int .i64 xs.length))), (8, .t (.v (.int .i64 p.1)))], []⟩) (fun p => xs.length - p.1) ⟨0, Nat.zero_le _, rfl⟩ rfl ?_ ?_
    · simp -implicitDefEqProofs only [go_sem, hh]
      try simp
    · rintro ⟨i, hi, hix⟩
      by_cases hlt : (i : Int) < xs.length
      · have hm : xs.getD (i : Int).toNat default ∈ xs := getD_mem (by omega)
        have hsz := hs _ hm
        cases hb : bOf (¬ HopL (xs.getD (i : Int).toNat default))
        · have hq := hb
          simp -implicitDefEqProofs only [hlt, hq, go_sem, hh]
          repeat' (first | with_reducible apply And.intro | with_reducible intro _ | ((first | apply brB_split | apply aPickB_split | apply gB_split | apply adB_split) <;> intro hb <;> simp -implicitDefEqProofs only [hb, go_sem, hh] <;> try simp only [qz] at hb))
          all_goals (try simp only [maxLen] at *)
          all_goals first | rfl | omega | with_reducible assumption | exact hsz | exact hsz.1 | exact hsz.2 | exact hsz.2 _ (by assumption) | exact hsz.2.1 | exact hsz.2.2.1 | exact hsz.2.2.2 | trivial | skip
          rw [bOf_f, Int.toNat_natCast] at hb
          refine ⟨⟨i + 1, by omega, ?_⟩, by dsimp only; omega, ?_⟩
          · rw [hix, ixP_no (p := FStr.sem (.hop )) (by omega) hb]
          · simp -implicitDefEqProofs only [go_sem, hh]
            try simp
        · have hq := hb
          simp -implicitDefEqProofs only [hlt, hq, go_sem, hh]
          repeat' (first | with_reducible apply And.intro | with_reducible intro _ | ((first | apply brB_split | apply aPickB_split | apply gB_split | apply adB_split) <;> intro hb <;> simp -implicitDefEqProofs only [hb, go_sem, hh] <;> try simp only [qz] at hb))
          all_goals (try simp only [maxLen] at *)
          all_goals first | rfl | omega | with_reducible assumption | exact hsz | exact hsz.1 | exact hsz.2 | exact hsz.2 _ (by assumption) | exact hsz.2.1 | exact hsz.2.2.1 | exact hsz.2.2.2 | trivial | skip
          rw [bOf_t, Int.toNat_natCast] at hb
          rw [hix, ixP_yes (p := FStr.sem (.hop )) (by omega) hb]
      · simp -implicitDefEqProofs only [hlt, go_sem, hh]
        repeat' (first | with_reducible apply And.intro | with_reducible intro _ | ((first | apply brB_split | apply aPickB_split | apply gB_split | apply adB_split) <;> intro hb <;> simp -implicitDefEqProofs only [hb, go_sem, hh] <;> try simp only [qz] at hb))
        all_goals first | rfl | omega | skip
        all_goals (rw [hix, ixP_end (by omega)])
end
def c126 : Ct := ctR (lc EStr.asl (lc AFStr l0)) (fun p => ∀ x ∈ p.1, p.2.1.pre x) (fun p => .t (.v (.bool (bOf (∃ x ∈ p.1, p.2.1.sem x)))))
section
attribute [local go_sem] c154 ap_enc ap_dec AFn0_dec AFn0_enc Bool.not_true Bool.not_false ty146 lv27 AFStr_d0 AFStr_e0 AFStr_d1 AFStr_e1 AFStr_d2 AFStr_e2
theorem good126 {G : Gt} (hG : OkG G) (hh : G.e 154 = roEnt 0 c154) : Gd G 126 (roEnt 0 c126) := by
  refine gR (dp := fun _ => true) (fn := Tryz.f126) (n := 2) (fun _ => rfl) (by kernel_rfl) rfl (by kernel_rfl) hG (Nat.le_of_ble_eq_true rfl) (by kernel_rfl) (by decide) (fun _ _ => .v _) ?_
  rintro ⟨xs, f, ⟨⟩⟩ hpre
  dsimp only at hpre ⊢
  cases f
  all_goals
    simp -implicitDefEqProofs only [Tryz.f126, go_sem, hh]
    repeat' (first | with_reducible apply And.intro | with_reducible intro _ | ((first | apply brB_split | apply aPickB_split | apply gB_split | apply adB_split) <;> intro hb <;> simp -implicitDefEqProofs only [hb, go_sem, hh] <;> try simp only [qz] at hb))
    all_goals first | rfl | omega | exact hpre | exact hpre _ (by assumption) | skip
    all_goals (rw [← bOf_congr (ixP_iff _ 0)]; rw [bOf_d])
end
inductive FRc where
  | kept (g : Ls)
def FRc.enc : FRc → AV
  | .kept g => .t (.fn 105 [.rop [.v (.string g.mark), .v (.string g.addr.user), .v (.string g.addr.domain)]])
def FRc.dec : AV → Option FRc
  | .t (.fn 105 [.rop [.v (.string g0), .v (.string g1), .v (.string g2)]]) => some (.kept ⟨g0, ⟨g1, g2⟩⟩)
  | _ => none
def FRc.sem : FRc → Rc → Prop
  | .kept g, x => x.addr = g.addr
def FRc.pre : FRc → Rc → Prop
  | .kept _, x => True
def AFRc : AD FRc where
  enc := FRc.enc
  dec := FRc.dec
  ed := fun f => by cases f <;> rfl
  de := fun x f h => by
    unfold FRc.dec at h
    split at h <;> cases h <;> rfl
theorem AFRc_d0 {g0 : ByteArray} {g1 : ByteArray} {g2 : ByteArray} : AFRc.dec (.t (.fn 105 [.rop [.v (.string g0), .v (.string g1), .v (.string g2)]])) = some (.kept ⟨g0, ⟨g1, g2⟩⟩) := rfl
theorem AFRc_e0 {g : Ls} : AFRc.enc (.kept g) = .t (.fn 105 [.rop [.v (.string g.mark), .v (.string g.addr.user), .v (.string g.addr.domain)]]) := rfl
def c105 : Ct := ctR (lc ERc.ag (lc ELs.ap l0)) (fun p => True) (fun p => .t (.v (.bool (bOf (p.1.addr = p.2.1.addr)))))
section
attribute [local go_sem] ap_enc ap_dec AFn0_dec AFn0_enc Bool.not_true Bool.not_false ty146 lv27
theorem good105 {G : Gt} (hG : OkG G) : Gd G 105 (roEnt 0 c105) := by
  refine gR (dp := fun _ => true) (fn := Tryz.f105) (n := 2) (fun _ => rfl) (by kernel_rfl) rfl (by kernel_rfl) hG (Nat.le_of_ble_eq_true rfl) (by kernel_rfl) (by decide) (fun _ _ => .v _) ?_
  rintro ⟨x, g, ⟨⟩⟩ hpre
  simp -implicitDefEqProofs only [Tryz.f105, go_sem] at hpre ⊢
  repeat' (first | with_reducible apply And.intro | with_reducible intro _ | ((first | apply brB_split | apply aPickB_split | apply gB_split | apply adB_split) <;> intro hb <;> simp -implicitDefEqProofs only [hb, go_sem] <;> try simp only [qz] at hb))
  all_goals first | rfl | omega | exact hpre | skip
  all_goals (try (simp only [bOf_not]; done))
  all_goals first | rfl | (rw [bOf_d]; done) | (rw [bOf_d, decide_eq_decide.2]; simp [Ad_ext]; done) | (rw [bOf_d]; simp [Ad_ext]; done)
end
def c119 : Ct := ctR (lc ERc.asl (lc AFRc l0)) (fun p => ∀ x ∈ p.1, p.2.1.pre x) (fun p => .t (.v (.int .i64 (ixP p.2.1.sem 0 p.1))))
section
attribute [local go_sem] c105 ap_enc ap_dec AFn0_dec AFn0_enc Bool.not_true Bool.not_false ty146 lv27 AFRc_d0 AFRc_e0
theorem good119 {G : Gt} (hG : OkG G) (hh : G.e 105 = roEnt 0 c105) : Gd G 119 (roEnt 0 c119) := by
  refine gR (dp := fun _ => true) (fn := Tryz.f119) (n := 2) (fun _ => rfl) (by kernel_rfl) rfl (by kernel_rfl) hG (Nat.le_of_ble_eq_true rfl) (by kernel_rfl) (by decide) (fun _ _ => .v _) ?_
  rintro ⟨xs, f, ⟨⟩⟩ hpre
  have hs := hpre
  dsimp only at hs ⊢
  cases f with
  | kept g =>
    simp -implicitDefEqProofs only [Tryz.f119, go_sem, hh]
    repeat' (first | with_reducible apply And.intro | with_reducible intro _ | ((first | apply brB_split | apply aPickB_split | apply gB_split | apply adB_split) <;> intro hb <;> simp -implicitDefEqProofs only [hb, go_sem, hh] <;> try simp only [qz] at hb))
    all_goals first | rfl | omega | skip
    refine run_loop [] (ι := {i : Nat // i ≤ xs.length ∧ ixP (FRc.sem (.kept g)) 0 xs = ixP (FRc.sem (.kept g)) i (xs.drop i)}) (fun p => ⟨[(0, .t (.sl 4 (xs.map encRc))), (1, AFRc.enc (.kept g)), (7, .t (.v (.int .i64 xs.length))), (8, .t (.v (.int .i64 p.1)))], []⟩) (fun p => xs.length - p.1) ⟨0, Nat.zero_le _, rfl⟩ rfl ?_ ?_
    · simp -implicitDefEqProofs only [go_sem, hh]
      try simp
    · rintro ⟨i, hi, hix⟩
      by_cases hlt : (i : Int) < xs.length
      · have hm : xs.getD (i : Int).toNat default ∈ xs := getD_mem (by omega)
        have hsz := hs _ hm
        cases hb : bOf ((xs.getD (i : Int).toNat default).addr = g.addr)
        · have hq := hb
          simp -implicitDefEqProofs only [hlt, hq, go_sem, hh]
          repeat' (first | with_reducible apply And.intro | with_reducible intro _ | ((first | apply brB_split | apply aPickB_split | apply gB_split | apply adB_split) <;> intro hb <;> simp -implicitDefEqProofs only [hb, go_sem, hh] <;> try simp only [qz] at hb))
          all_goals (try simp only [maxLen] at *)
          all_goals first | rfl | omega | with_reducible assumption | exact hsz | exact hsz.1 | exact hsz.2 | exact hsz.2 _ (by assumption) | exact hsz.2.1 | exact hsz.2.2.1 | exact hsz.2.2.2 | trivial | skip
          rw [bOf_f, Int.toNat_natCast] at hb
          refine ⟨⟨i + 1, by omega, ?_⟩, by dsimp only; omega, ?_⟩
          · rw [hix, ixP_no (p := FRc.sem (.kept g)) (by omega) hb]
          · simp -implicitDefEqProofs only [go_sem, hh]
            try simp
        · have hq := hb
          simp -implicitDefEqProofs only [hlt, hq, go_sem, hh]
          repeat' (first | with_reducible apply And.intro | with_reducible intro _ | ((first | apply brB_split | apply aPickB_split | apply gB_split | apply adB_split) <;> intro hb <;> simp -implicitDefEqProofs only [hb, go_sem, hh] <;> try simp only [qz] at hb))
          all_goals (try simp only [maxLen] at *)
          all_goals first | rfl | omega | with_reducible assumption | exact hsz | exact hsz.1 | exact hsz.2 | exact hsz.2 _ (by assumption) | exact hsz.2.1 | exact hsz.2.2.1 | exact hsz.2.2.2 | trivial | skip
          rw [bOf_t, Int.toNat_natCast] at hb
          rw [hix, ixP_yes (p := FRc.sem (.kept g)) (by omega) hb]
      · simp -implicitDefEqProofs only [hlt, go_sem, hh]
        repeat' (first | with_reducible apply And.intro | with_reducible intro _ | ((first | apply brB_split | apply aPickB_split | apply gB_split | apply adB_split) <;> intro hb <;> simp -implicitDefEqProofs only [hb, go_sem, hh] <;> try simp only [qz] at hb))
        all_goals first | rfl | omega | skip
        all_goals (rw [hix, ixP_end (by omega)])
end
def c104 : Ct := ctR (lc ERc.asl (lc AFRc l0)) (fun p => ∀ x ∈ p.1, p.2.1.pre x) (fun p => .t (.v (.bool (bOf (∃ x ∈ p.1, p.2.1.sem x)))))
section
attribute [local go_sem] c119 ap_enc ap_dec AFn0_dec AFn0_enc Bool.not_true Bool.not_false ty146 lv27 AFRc_d0 AFRc_e0
theorem good104 {G : Gt} (hG : OkG G) (hh : G.e 119 = roEnt 0 c119) : Gd G 104 (roEnt 0 c104) := by
  refine gR (dp := fun _ => true) (fn := Tryz.f104) (n := 2) (fun _ => rfl) (by kernel_rfl) rfl (by kernel_rfl) hG (Nat.le_of_ble_eq_true rfl) (by kernel_rfl) (by decide) (fun _ _ => .v _) ?_
  rintro ⟨xs, f, ⟨⟩⟩ hpre
  dsimp only at hpre ⊢
  cases f
  all_goals
    simp -implicitDefEqProofs only [Tryz.f104, go_sem, hh]
    repeat' (first | with_reducible apply And.intro | with_reducible intro _ | ((first | apply brB_split | apply aPickB_split | apply gB_split | apply adB_split) <;> intro hb <;> simp -implicitDefEqProofs only [hb, go_sem, hh] <;> try simp only [qz] at hb))
    all_goals first | rfl | omega | exact hpre | exact hpre _ (by assumption) | skip
    all_goals (rw [← bOf_congr (ixP_iff _ 0)]; rw [bOf_d])
end
def c82 : Ct := ctR (lc EStr.asl l0) (fun p => ∀ s ∈ p.1, s.size ≤ 2000000) (fun p => .t (.v (.bool (bOf (BdOk p.1)))))
section
attribute [local go_sem] c126 ap_enc ap_dec AFn0_dec AFn0_enc Bool.not_true Bool.not_false ty146 lv27 AFStr_d0 AFStr_e0 AFStr_d1 AFStr_e1 AFStr_d2 AFStr_e2
theorem good82 {G : Gt} (hG : OkG G) (hh : G.e 126 = roEnt 0 c126) : Gd G 82 (roEnt 0 c82) := by
  refine gR (dp := fun _ => true) (fn := Tryz.f82) (n := 1) (fun _ => rfl) (by kernel_rfl) rfl (by kernel_rfl) hG (Nat.le_of_ble_eq_true rfl) (by kernel_rfl) (by decide) (fun _ _ => .v _) ?_
  rintro ⟨xs, ⟨⟩⟩ hpre
  simp -implicitDefEqProofs only [Tryz.f82, go_sem, hh] at hpre ⊢
  repeat' (first | with_reducible apply And.intro | with_reducible intro _ | ((first | apply brB_split | apply aPickB_split | apply gB_split | apply adB_split) <;> intro hb <;> simp -implicitDefEqProofs only [hb, go_sem, hh] <;> try simp only [qz] at hb))
  all_goals first | rfl | omega | exact hpre | exact hpre _ (by assumption) | exact trivial | skip
  · rw [bOf_not]
    refine congrArg (fun b => T.v (.bool b)) (bOf_congr ?_)
    constructor
    · intro h
      exact ⟨fun s hs => Classical.byContradiction fun q => h ⟨s, hs, q⟩, by omega⟩
    · rintro h ⟨s, hs, q⟩
      exact q (h.1 s hs)
  · rw [bOf_n (fun h => by have := h.2; omega)]
end
theorem K31 : Maps.Keyed Tryz.prog 27 := Maps.Keyed.of_law (deep_law_laid (m := 5) (by kernel_rfl) (by decide) (Nat.lt_of_lt_of_le (Nat.lt_succ_self 27) (Nat.le_of_ble_eq_true (by kernel_rfl))) (by kernel_rfl) (by kernel_rfl))
noncomputable def fs31 : Array Field := match Tryz.prog.underlying 27 with | some (.struct fs) => fs | _ => #[]
theorem u31 : Tryz.prog.underlying 27 = some (.struct fs31) := by kernel_rfl
theorem u9 : Tryz.prog.underlying 9 = some .string := by kernel_rfl
theorem u3 : Tryz.prog.underlying 3 = some (.int .i64) := by kernel_rfl
theorem fs31_l : (fs31.toList.map fun f => (f.type, f.offset)) = [(9, 0), (9, 1)] := by kernel_rfl
theorem fs31_n : fs31.all (·.name != "_") = true := by kernel_rfl
theorem co9 : Tryz.prog.cellsOf 9 = 1 := by kernel_rfl
theorem co31 : Tryz.prog.cellsOf 27 = 2 := by kernel_rfl
theorem kt31 : Tryz.prog.keyType 27 = true := by kernel_rfl
theorem ts31 : ∃ n, Tryz.prog.types.size + 1 = n + 2 := ⟨Tryz.prog.types.size - 1, by
  have : 27 < Tryz.prog.types.size := Nat.lt_of_lt_of_le (Nat.lt_succ_self 27) (Nat.le_of_ble_eq_true (by kernel_rfl))
  omega⟩
theorem kl9 (d : Nat) {s : ByteArray} (h : s.size ≤ maxLen) : Tryz.prog.keyLits (d + 1) 9 [.string s] = some [.string s.data.toList] := by
  simp only [Program.keyLits, u9, if_pos h]
theorem key31 {k : MK} (h : k.ok (some 2)) : ∃ l, keyOf Tryz.prog 27 k.val = some l := by
  cases k with
  | i n => exact h.elim
  | s b => exact absurd h.1 (by decide)
  | ss l =>
    obtain ⟨h1, h2, _⟩ := h
    obtain ⟨u, d, rfl⟩ : ∃ u d, l = [u, d] := by
      rcases l with _ | ⟨u, _ | ⟨d, _ | ⟨z, t⟩⟩⟩
      · cases h1
      · cases h1
      · exact ⟨u, d, rfl⟩
      · simp at h1
    obtain ⟨n, hn⟩ := ts31
    have hl : fs31.toList.map (fun f => (f.type, f.offset)) = [(9, 0), (9, 1)] := fs31_l
    rcases hf : fs31.toList with _ | ⟨f, _ | ⟨g, _ | ⟨z, t⟩⟩⟩
    · rw [hf] at hl; cases hl
    · rw [hf] at hl; simp at hl
    · rw [hf] at hl
      · simp only [List.map_cons, List.map_nil, List.cons.injEq, Prod.mk.injEq, and_true] at hl
        obtain ⟨⟨a1, a2⟩, b1, b2⟩ := hl
        refine ⟨.string (keyBytes [.string u.data.toList, .string d.data.toList]), ?_⟩
        have hform : (MK.val (.ss [u, d])).formed Tryz.prog 27 = true := by
          simp only [Value.formed, MK.val, u31, co31]
          rfl
        unfold keyOf
        rw [u31]
        show (if (Tryz.prog.keyType 27 && (MK.val (.ss [u, d])).formed Tryz.prog 27) = true then _ else none) = _
        rw [kt31, hform]
        refine (if_pos rfl).trans ?_
        rw [hn]
        have : Tryz.prog.keyLits (n + 2) 27 (MK.val (.ss [u, d])).cells.toList = some [.string u.data.toList, .string d.data.toList] := by
          show Tryz.prog.keyLits (n + 2) 27 [.string u, .string d] = _
          have e1 : [Value.string u, Value.string d].length = Tryz.prog.cellsOf 27 ∧ fs31.all (·.name != "_") = true := ⟨by rw [co31]; rfl, fs31_n⟩
          rw [Program.keyLits.eq_def]
          simp only [u31]
          refine (if_pos e1).trans ?_
          rw [hf]
          simp only [List.mapM_cons, List.mapM_nil, a1, a2, b1, b2, co9, List.drop_zero, List.take_succ_cons, List.take_zero, List.drop_succ_cons, kl9 n (h2 u (by simp)), kl9 n (h2 d (by simp))]
          rfl
        rw [this]; rfl
    · rw [hf] at hl
      simp only [List.map_cons, List.cons.injEq] at hl
      exact absurd hl.2.2 (by simp)
theorem kd31 : KeyD Tryz.prog 27 (some 2) := KeyD.ss K31 key31
theorem kd3 : KeyD Tryz.prog 3 none := KeyD.int u3
def mkA (a : Ad) : MK := .ss [a.user, a.domain]
theorem mkA_inj {a b : Ad} (h : mkA a = mkA b) : a = b := by
  cases a; cases b
  simp only [mkA, MK.ss.injEq, List.cons.injEq, and_true] at h
  rw [h.1, h.2]
def dis (xs : List Ad) : List (MK × Bool) := xs.foldl (fun es a => upE (mkA a) true es) []
theorem dis_snoc (xs : List Ad) (a : Ad) : dis (xs ++ [a]) = upE (mkA a) true (dis xs) := by simp [dis]
theorem upE_keys {k : MK} {b : Bool} : ∀ {es : List (MK × Bool)}, (upE k b es).map Prod.fst = if k ∈ es.map Prod.fst then es.map Prod.fst else es.map Prod.fst ++ [k]
  | [] => by simp [upE]
  | p :: r => by
    rw [upE]
    by_cases h : p.1 = k
    · simp [h]
    · have hk : ¬ k = p.1 := fun e => h e.symm
      rw [if_neg h, List.map_cons, upE_keys]
      by_cases h2 : k ∈ r.map Prod.fst
      · rw [if_pos h2, if_pos (by simp only [List.map_cons, List.mem_cons]; exact .inr h2)]; rfl
      · rw [if_neg h2, if_neg (by simp only [List.map_cons, List.mem_cons]; exact fun e => e.elim hk h2)]; rfl
theorem dis_mem (xs : List Ad) (a : Ad) : mkA a ∈ (dis xs).map Prod.fst ↔ a ∈ xs := by
  generalize hr : xs.reverse = r
  have hx : xs = r.reverse := by rw [← hr, List.reverse_reverse]
  subst hx
  clear hr
  induction r with
  | nil => simp [dis]
  | cons b r ih =>
    rw [List.reverse_cons, dis_snoc, upE_keys, List.mem_append, ← propext ih]
    by_cases h : mkA b ∈ (dis r.reverse).map Prod.fst
    · rw [if_pos h]
      constructor
      · exact .inl
      · rintro (h1 | h1)
        · exact h1
        · rw [List.mem_singleton.1 h1]; exact h
    · rw [if_neg h, List.mem_append, List.mem_singleton, List.mem_singleton]
      exact or_congr_right ⟨mkA_inj, fun e => by rw [e]⟩
theorem dis_len (xs : List Ad) : (dis xs).length ≤ xs.length ∧ ((dis xs).length = xs.length ↔ xs.Nodup) := by
  generalize hr : xs.reverse = r
  have hx : xs = r.reverse := by rw [← hr, List.reverse_reverse]
  subst hx
  clear hr
  induction r with
  | nil => simp [dis]
  | cons b r ih =>
    have hl : ∀ es : List (MK × Bool), es.length = (es.map Prod.fst).length := fun es => by rw [List.length_map]
    have hn : (r.reverse ++ [b]).Nodup ↔ r.reverse.Nodup ∧ b ∉ r.reverse := by
      rw [List.nodup_append]
      constructor
      · rintro ⟨h1, _, h3⟩
        exact ⟨h1, fun hb => h3 b hb b (by simp) rfl⟩
      · rintro ⟨h1, h2⟩
        refine ⟨h1, by simp, fun x hx y hy e => ?_⟩
        rw [List.mem_singleton] at hy
        subst hy; subst e; exact h2 hx
    rw [List.reverse_cons, dis_snoc, hl, upE_keys, List.length_append, hn, ← dis_mem]
    obtain ⟨i1, i2⟩ := ih
    by_cases h : mkA b ∈ (dis r.reverse).map Prod.fst
    · rw [if_pos h, ← hl]
      refine ⟨by omega, ⟨fun e => ?_, fun e => absurd h e.2⟩⟩
      simp at e i1; omega
    · rw [if_neg h, List.length_append, ← hl]
      refine ⟨by simp at *; omega, ⟨fun e => ⟨i2.1 (by simp at *; omega), h⟩, fun e => ?_⟩⟩
      have := i2.2 e.1
      simp at *; omega
theorem take_succ' {xs : List Ad} {i : Nat} (h : i < xs.length) : xs.take (i + 1) = xs.take i ++ [xs.getD i default] := by
  rw [List.take_succ_eq_append_getElem h]
  simp [h]
theorem dis_take {xs : List Ad} {i : Nat} (h : i < xs.length) : upE (.ss [(xs.getD i default).user, (xs.getD i default).domain]) true (dis (xs.take i)) = dis (xs.take (i + 1)) := by
  rw [take_succ' h, dis_snoc]; rfl
def c81 : Ct := ctR (lc EAd.asl l0) (fun p => True) (fun p => .t (.v (.bool (bOf p.1.Nodup))))
section
attribute [local go_sem] ap_enc ap_dec AFn0_dec AFn0_enc Bool.not_true Bool.not_false ty146 lv27 AFStr_d0 AFStr_e0 AFStr_d1 AFStr_e1 AFStr_d2 AFStr_e2
theorem good81 {G : Gt} (hG : OkG G) : Gd G 81 (roEnt 0 c81) := by
  refine gR (dp := fun _ => true) (fn := Tryz.f81) (n := 1) (fun _ => rfl) (by kernel_rfl) rfl (by kernel_rfl) hG (Nat.le_of_ble_eq_true rfl) (by kernel_rfl) (by decide) (fun _ _ => .v _) ?_
  rintro ⟨xs, ⟨⟩⟩ hpre
  simp -implicitDefEqProofs only [Tryz.f81, go_sem] at hpre ⊢
  repeat' (first | with_reducible apply And.intro | with_reducible intro _ | ((first | apply brB_split | apply aPickB_split | apply gB_split | apply adB_split) <;> intro hb <;> simp -implicitDefEqProofs only [hb, go_sem] <;> try simp only [qz] at hb))
  all_goals first | rfl | omega | skip
  refine run_loop [] (ι := {i : Nat // i ≤ xs.length}) (fun p => ⟨[(0, .t (.sl 2 (xs.map encAd))), (3, .h 1006), (7, .t (.sl 2 (xs.map encAd))), (8, .t (.v (.int .i64 xs.length))), (9, .t (.v (.int .i64 p.1)))], [(1006, some (.mp (some 2) (dis (xs.take p.1))))]⟩) (fun p => xs.length - p.1) ⟨0, Nat.zero_le _⟩ rfl ?_ ?_
  · simp -implicitDefEqProofs only [go_sem]
    simp
    rfl
  · rintro ⟨i, hi⟩
    by_cases hlt : (i : Int) < xs.length
    · simp -implicitDefEqProofs only [hlt, go_sem]
      repeat' (first | with_reducible apply And.intro | with_reducible intro _ | ((first | apply brB_split | apply aPickB_split | apply gB_split | apply adB_split) <;> intro hb <;> simp -implicitDefEqProofs only [hb, go_sem] <;> try simp only [qz] at hb))
      all_goals (try simp only [maxLen] at *)
      all_goals first | rfl | omega | exact kd31 | skip
      refine ⟨⟨i + 1, by omega⟩, by dsimp only; omega, ?_⟩
      simp -implicitDefEqProofs only [go_sem]
      simp only [Int.toNat_natCast, dis_take (show i < xs.length by omega)]
      try simp
    · simp -implicitDefEqProofs only [hlt, go_sem]
      repeat' (first | with_reducible apply And.intro | with_reducible intro _ | ((first | apply brB_split | apply aPickB_split | apply gB_split | apply adB_split) <;> intro hb <;> simp -implicitDefEqProofs only [hb, go_sem] <;> try simp only [qz] at hb))
      all_goals first | rfl | omega | skip
      rw [List.take_of_length_le (by omega), ← bOf_congr (dis_len xs).2, bOf_d]
      refine congrArg (fun b => T.v (.bool b)) (decide_eq_decide.2 ?_)
      omega
end
theorem take_snoc_map {α : Type} [Inhabited α] (enc : α → List T) {xs : List α} {i : Nat} (h : i < xs.length) : (xs.take (i + 1)).map enc = (xs.take i).map enc ++ [enc (xs.getD i default)] := by
  rw [List.take_succ_eq_append_getElem h, List.map_append, List.map_cons, List.map_nil]
  simp only [List.getD_eq_getElem?_getD, List.getElem?_eq_getElem h, Option.getD_some]
theorem tmap {α : Type} {enc : α → List T} {xs : List α} {k : Nat} : (xs.map enc).take k = (xs.take k).map enc := List.map_take.symm
theorem dmap {α : Type} {enc : α → List T} {xs : List α} {k : Nat} : (xs.map enc).drop k = (xs.drop k).map enc := List.map_drop.symm
def RcOk (r : Rc) : Prop := AdOk r.addr ∧ (0 ≤ r.tries ∧ r.tries ≤ 3) ∧ (0 ≤ r.next ∧ r.next ≤ 9999)
def ImOk (x : Im) : Prop := (∀ r ∈ x.to, RcOk r) ∧ (x.to.map Rc.addr).Nodup ∧ 0 < x.id ∧ (AdOk x.frm ∨ AdNull x.frm) ∧ (1 ≤ x.to.length ∧ x.to.length ≤ 4) ∧ BdOk x.body
def Asc (xs : List Im) : Prop := ∀ j, 0 < j → j < xs.length → (xs.getD (j - 1) default).id < (xs.getD j default).id
def SpOk (s : Sp) : Prop := (∀ x ∈ s.items, ImOk x ∧ x.id ≤ s.last) ∧ Asc s.items ∧ (0 ≤ s.last ∧ s.last ≤ 999) ∧ s.items.length ≤ 10
theorem nodup_addr {xs : List Rc} (h : ∀ j, j < xs.length → ∀ k, k < j → ¬ (xs.getD k default).addr = (xs.getD j default).addr) : (xs.map Rc.addr).Nodup := by
  rw [List.nodup_iff_pairwise_ne, List.pairwise_iff_getElem]
  intro k j hk hj hkj
  rw [List.length_map] at hk hj
  have := h j hj k hkj
  simpa [hk, hj] using this
theorem addr_nodup {xs : List Rc} (h : (xs.map Rc.addr).Nodup) {k i : Nat} (hk : k < i) (hi : i < xs.length) : ¬ (xs.getD k default).addr = (xs.getD i default).addr := fun e => by
  have q1 : k < xs.length := by omega
  simp only [List.getD_eq_getElem?_getD, List.getElem?_eq_getElem q1, List.getElem?_eq_getElem hi, Option.getD_some] at e
  exact List.pairwise_iff_getElem.1 (List.nodup_iff_pairwise_ne.1 h) k i (by simpa using q1) (by simpa using hi) hk (by simpa using e)
def c121 : Ct := ctR (lc ERc.ag l0) (fun p => True) (fun p => .t (.v (.bool (bOf (RcOk p.1)))))
section
attribute [local go_sem] c74 c71
theorem good121 {G : Gt} (hG : OkG G) (hh : G.e 74 = roEnt 0 c74 ∧ G.e 71 = roEnt 0 c71) : Gd G 121 (roEnt 0 c121) := by
  refine gR (dp := fun _ => true) (fn := Tryz.f121) (n := 1) (fun _ => rfl) (by kernel_rfl) rfl (by kernel_rfl) hG (Nat.le_of_ble_eq_true rfl) (by kernel_rfl) (by decide) (fun _ _ => .v _) ?_
  rintro ⟨r, ⟨⟩⟩ hpre
  simp -implicitDefEqProofs only [Tryz.f121, go_sem, hh] at hpre ⊢
  repeat' (first | with_reducible apply And.intro | with_reducible intro _ | ((first | apply brB_split | apply aPickB_split | apply gB_split | apply adB_split) <;> intro hb <;> simp -implicitDefEqProofs only [hb, go_sem, hh] <;> try simp only [qz] at hb))
  all_goals first
    | rfl
    | omega
    | exact congrArg (fun b => T.v (Value.bool b)) (bOf_congr ⟨fun h => ⟨by assumption, by assumption, h⟩, fun h => h.2.2⟩)
    | (rw [bOf_n (fun h => absurd h.1 (by assumption))]; done)
    | (rw [bOf_n (fun h => absurd h.2.1 (by assumption))]; done)
end
def c70 : Ct := ctR (lc EIm.ag l0) (fun p => True) (fun p => .t (.v (.bool (bOf (ImOk p.1)))))
section
attribute [local go_sem] c74 c71 c121 c72 c122 List.length_map
set_option maxHeartbeats 800000 in
theorem good70 {G : Gt} (hG : OkG G) (hh : G.e 74 = roEnt 0 c74 ∧ G.e 71 = roEnt 0 c71 ∧ G.e 121 = roEnt 0 c121 ∧ G.e 72 = roEnt 0 c72 ∧ G.e 122 = roEnt 0 c122) : Gd G 70 (roEnt 0 c70) := by
  refine gR (dp := fun _ => true) (fn := Tryz.f70) (n := 1) (fun _ => rfl) (by kernel_rfl) rfl (by kernel_rfl) hG (Nat.le_of_ble_eq_true rfl) (by kernel_rfl) (by decide) (fun _ _ => .v _) ?_
  rintro ⟨x, ⟨⟩⟩ hpre
  simp -implicitDefEqProofs only [Tryz.f70, go_sem, hh] at hpre ⊢
  have hbox : ∀ y : Im, Ob.box [AV.t (T.v (Value.int IntKind.i64 y.id)), AV.t (T.v (Value.string y.frm.user)), AV.t (T.v (Value.string y.frm.domain)), AV.t (T.sl 4 (List.map encRc y.to)), AV.t (T.sl 1 (List.map encStr y.body))] = Ob.box ((encIm y).map .t) := fun _ => rfl
  refine run_loop [] (ι := {i : Nat // i ≤ x.to.length ∧ (∀ j, j < i → RcOk (x.to.getD j default)) ∧ ∀ j, j < i → ∀ k, k < j → ¬ (x.to.getD k default).addr = (x.to.getD j default).addr}) (fun p => ⟨[(1, .pb 1001 0), (3, .t (.v (.int .i64 p.1)))], [(1001, some (.box ((encIm x).map .t)))]⟩) (fun p => x.to.length - p.1) ⟨0, by simp, by simp, by simp⟩ rfl ?_ ?_
  · simp -implicitDefEqProofs only [go_sem, hh]
    simp
  · rintro ⟨i, hi, hall, hno⟩
    simp -implicitDefEqProofs only [go_sem, hh]
    repeat' (first | with_reducible apply And.intro | with_reducible intro _ | ((first | apply brB_split | apply aPickB_split | apply gB_split | apply adB_split) <;> intro hb <;> simp -implicitDefEqProofs only [hb, go_sem, hh] <;> try simp only [qz] at hb))
    all_goals (try simp only [maxLen, Int.toNat_natCast, List.length_map] at *)
    all_goals first | rfl | omega | skip
    · rw [bOf_n (fun h => hb (h.1 _ (getD_mem (by omega))))]
    · refine run_loop [] (ι := {k : Nat // k ≤ i ∧ ∀ j, j < k → ¬ (x.to.getD j default).addr = (x.to.getD i default).addr}) (fun p => ⟨[(1, .pb 1001 0), (3, .t (.v (.int .i64 i))), (4, .t (.v (.int .i64 p.1)))], [(1001, some (.box ((encIm x).map .t)))]⟩) (fun p => i - p.1) ⟨0, by simp, by simp⟩ rfl ?_ ?_
      · simp -implicitDefEqProofs only [go_sem, hh]
        simp
      · rintro ⟨k, hk, hk2⟩
        simp -implicitDefEqProofs only [go_sem, hh]
        repeat' (first | with_reducible apply And.intro | with_reducible intro _ | ((first | apply brB_split | apply aPickB_split | apply gB_split | apply adB_split) <;> intro hb <;> simp -implicitDefEqProofs only [hb, go_sem, hh] <;> try simp only [qz] at hb))
        all_goals (try simp only [maxLen, Int.toNat_natCast, List.length_map] at *)
        all_goals first | rfl | omega | skip
        · have e : (x.to.getD k default).addr = (x.to.getD i default).addr := Ad_ext.2 (by simpa using hb)
          rw [bOf_n (fun h => addr_nodup h.2.1 (by omega) (by omega) e)]
        · refine ⟨⟨k + 1, by omega, fun j hj => ?_⟩, by dsimp only; omega, ?_⟩
          · by_cases e : j = k
            · subst e; exact neqb hb
            · exact hk2 j (by omega)
          · simp -implicitDefEqProofs only [go_sem, hh]
            simp
        · refine ⟨⟨i + 1, by omega, all_step hall (by assumption), fun j hj q hq => ?_⟩, by dsimp only; omega, ?_⟩
          · by_cases e : j = i
            · subst e; exact hk2 q (by omega)
            · exact hno j (by omega) q hq
          · simp -implicitDefEqProofs only [go_sem, hh]
            simp
    all_goals have hA : ∀ r ∈ x.to, RcOk r := mem_getD fun j hj => hall j (by omega)
    all_goals have hN : (x.to.map Rc.addr).Nodup := nodup_addr fun j hj q hq => hno j (by omega) q hq
    all_goals first
      | (rw [bOf_congr]
         exact ⟨fun h => ⟨hA, hN, by first | assumption | omega, by first | exact .inl (by assumption) | exact .inr (by assumption), by omega, h⟩, fun h => h.2.2.2.2.2⟩)
      | (rw [bOf_n]
         intro h
         first
           | (have := h.2.2.1; omega)
           | (have := h.2.2.2.2.1; omega)
           | (rcases h.2.2.2.1 with h | h <;> contradiction))
end
def c30 : Ct := ctR (lc ESp.ag l0) (fun p => True) (fun p => .t (.v (.bool (bOf (SpOk p.1)))))
section
attribute [local go_sem] c70 c71 List.length_map Bool.not_true Bool.not_false
set_option maxHeartbeats 1600000 in
theorem good30 {G : Gt} (hG : OkG G) (hh : G.e 70 = roEnt 0 c70 ∧ G.e 71 = roEnt 0 c71) : Gd G 30 (roEnt 0 c30) := by
  refine gR (dp := fun _ => true) (fn := Tryz.f30) (n := 1) (fun _ => rfl) (by kernel_rfl) rfl (by kernel_rfl) hG (Nat.le_of_ble_eq_true rfl) (by kernel_rfl) (by decide) (fun _ _ => .v _) ?_
  rintro ⟨s, ⟨⟩⟩ hpre
  simp -implicitDefEqProofs only [Tryz.f30, go_sem, hh] at hpre ⊢
  refine run_loop [] (ι := {i : Nat // i ≤ s.items.length ∧ (∀ j, j < i → ImOk (s.items.getD j default) ∧ (s.items.getD j default).id ≤ s.last) ∧ ∀ j, 0 < j → j < i → (s.items.getD (j - 1) default).id < (s.items.getD j default).id}) (fun p => ⟨[(1, .pb 1001 0), (3, .t (.v (.int .i64 p.1)))], [(1001, some (.box ((encSp s).map .t)))]⟩) (fun p => s.items.length - p.1) ⟨0, by simp, by simp, by simp⟩ rfl ?_ ?_
  · simp -implicitDefEqProofs only [go_sem, hh]
    simp
  · rintro ⟨i, hi, hall, hasc⟩
    by_cases hlt : (i : Int) < s.items.length
    · simp -implicitDefEqProofs only [hlt, decide_true, go_sem, hh]
      repeat' (first | with_reducible apply And.intro | with_reducible intro _ | ((first | apply brB_split | apply aPickB_split | apply gB_split | apply adB_split) <;> intro hb <;> simp -implicitDefEqProofs only [hb, go_sem, hh] <;> try simp only [qz] at hb))
      all_goals (try simp only [maxLen, Int.toNat_natCast, List.length_map] at *)
      all_goals first | rfl | omega | skip
      all_goals (try rw [show ((i : Int) - 1).toNat = i - 1 from by omega] at hb)
      all_goals first
        | (rw [bOf_n (fun h => by have h1 := h.1 _ (getD_mem (xs := s.items) (j := i) (by omega)); first | exact hb h1.1 | omega)]; done)
        | (rw [bOf_n (fun h => by have h1 := h.2.1 i (by omega) (by omega); omega)]; done)
        | skip
      all_goals
        refine ⟨⟨i + 1, by omega, all_step (P := fun x : Im => ImOk x ∧ x.id ≤ s.last) hall ⟨by assumption, by omega⟩, fun j h0 hj => ?_⟩, by dsimp only; omega, ?_⟩
        · by_cases e : j = i
          · subst e; omega
          · exact hasc j h0 (by omega)
        · simp -implicitDefEqProofs only [go_sem, hh]
          simp
    · simp -implicitDefEqProofs only [hlt, decide_false, go_sem, hh]
      repeat' (first | with_reducible apply And.intro | with_reducible intro _ | ((first | apply brB_split | apply aPickB_split | apply gB_split | apply adB_split) <;> intro hb <;> simp -implicitDefEqProofs only [hb, go_sem, hh] <;> try simp only [qz] at hb))
      all_goals (try simp only [maxLen, Int.toNat_natCast, List.length_map] at *)
      all_goals first | rfl | omega | skip
      · refine congrArg (fun b => T.v (Value.bool b)) ?_
        rw [← bOf_d, bOf_congr]
        exact ⟨fun h => ⟨mem_getD fun j hj => hall j (by omega), fun j h0 hj => hasc j h0 (by omega), hb, by omega⟩, fun h => by have := h.2.2.2; omega⟩
      · rw [bOf_n (fun h => hb h.2.2.1)]
end
def dnIm (x : Im) (k : Nat) : Im := ⟨x.id, x.frm, x.to.take k ++ x.to.drop (k + 1), x.body⟩
def dnL (xs : List Im) (i k : Nat) : List Im := if (dnIm (xs.getD i default) k).to = [] then xs.take i ++ xs.drop (i + 1) else xs.take i ++ (dnIm (xs.getD i default) k :: xs.drop (i + 1))
def dnSp (s : Sp) (i k : Nat) : Sp := ⟨s.last, dnL s.items i k⟩
theorem dn_len {xs : List Rc} {k : Nat} (h : k < xs.length) : (xs.take k ++ xs.drop (k + 1)).length = xs.length - 1 := by simp; omega
theorem ixP_range {α : Type} (p : α → Prop) : ∀ (xs : List α) (k : Nat), ixP p k xs = -1 ∨ ((k : Int) ≤ ixP p k xs ∧ ixP p k xs < k + xs.length)
  | [], _ => .inl rfl
  | x :: t, k => by
    rw [ixP]
    cases bOf (p x)
    · rcases ixP_range p t (k + 1) with h | h
      · exact .inl h
      · simp only [cond_false, List.length_cons]; right; omega
    · simp only [cond_true, List.length_cons]; right; omega
noncomputable def atIm (s : Sp) (n : Int) : Int := ixP (fun x : Im => x.id = n) 0 s.items
noncomputable def atRc (x : Im) (a : Ad) : Int := ixP (fun r : Rc => r.addr = a) 0 x.to
noncomputable def theIm (s : Sp) (n : Int) : Im := s.items.getD (atIm s n).toNat default
open Classical in
noncomputable def SDone (s : Sp) (n : Int) (a : Ad) : Sp × Bool :=
  if SpOk s then (if atIm s n < 0 then (s, false) else if atRc (theIm s n) a < 0 then (s, false) else (dnSp s (atIm s n).toNat (atRc (theIm s n) a).toNat, true)) else (⟨0, []⟩, false)
def roSB (p : Sp × Bool) : AV := .tup [.agg ((encSp p.1).map .t), .t (.v (.bool p.2))]
def owSB (p : Sp × Bool) : AV := .tup [owSp p.1, .t (.v (.bool p.2))]
theorem owSB_solid (p : Sp × Bool) : Solid (owSB p) := .tup _ fun c hc => by
  simp only [List.mem_cons, List.not_mem_nil, or_false] at hc
  rcases hc with rfl | rfl
  · exact owSp_solid _
  · exact .v _
theorem SDone_no {s : Sp} {n : Int} {a : Ad} (h : ¬ SpOk s) : SDone s n a = (⟨0, []⟩, false) := by unfold SDone; rw [if_neg h]
theorem SDone_i {s : Sp} {n : Int} {a : Ad} (h : SpOk s) (hi : atIm s n < 0) : SDone s n a = (s, false) := by unfold SDone; rw [if_pos h, if_pos hi]
theorem SDone_k {s : Sp} {n : Int} {a : Ad} (h : SpOk s) (hi : ¬ atIm s n < 0) (hk : atRc (theIm s n) a < 0) : SDone s n a = (s, false) := by unfold SDone; rw [if_pos h, if_neg hi, if_pos hk]
theorem SDone_y {s : Sp} {n : Int} {a : Ad} (h : SpOk s) (hi : ¬ atIm s n < 0) (hk : ¬ atRc (theIm s n) a < 0) : SDone s n a = (dnSp s (atIm s n).toNat (atRc (theIm s n) a).toNat, true) := by unfold SDone; rw [if_pos h, if_neg hi, if_neg hk]
theorem atIm_lt {s : Sp} {n : Int} (h : ¬ atIm s n < 0) : 0 ≤ atIm s n ∧ atIm s n < s.items.length := by
  rcases ixP_range (fun x : Im => x.id = n) s.items 0 with h1 | h1
  · have : atIm s n = -1 := h1
    omega
  · have : atIm s n < (0 : Nat) + s.items.length := h1.2
    omega
theorem atRc_lt {x : Im} {a : Ad} (h : ¬ atRc x a < 0) : 0 ≤ atRc x a ∧ atRc x a < x.to.length := by
  rcases ixP_range (fun r : Rc => r.addr = a) x.to 0 with h1 | h1
  · have : atRc x a = -1 := h1
    omega
  · have : atRc x a < (0 : Nat) + x.to.length := h1.2
    omega
def pau (t : Int) : Int := 2 * 2 ^ (t - 1).toNat
theorem pow2_le {a b : Nat} (h : a ≤ b) : (2 : Int) ^ a ≤ 2 ^ b := by
  have h1 := Nat.pow_le_pow_right (n := 2) (by omega) h
  have e : ∀ k : Nat, ((2 ^ k : Nat) : Int) = 2 ^ k := fun k => by simp
  rw [← e, ← e]
  omega
theorem pau_le {t : Int} {m : Nat} (h : t ≤ m + 1) : 2 ≤ pau t ∧ pau t ≤ 2 * 2 ^ m := by
  unfold pau
  have h1 : (2 : Int) ^ (t - 1).toNat ≤ 2 ^ m := pow2_le (by omega)
  have h2 : (2 : Int) ^ 0 ≤ 2 ^ (t - 1).toNat := pow2_le (by omega)
  simp only [Int.pow_zero] at h2
  omega
def ltRc (r : Rc) (w : Int) : Rc := ⟨r.addr, r.tries + 1, w + pau (r.tries + 1)⟩
def ltIm (x : Im) (k : Nat) (w : Int) : Im := ⟨x.id, x.frm, x.to.set k (ltRc (x.to.getD k default) w), x.body⟩
def ltSp (s : Sp) (i k : Nat) (w : Int) : Sp := ⟨s.last, s.items.set i (ltIm (s.items.getD i default) k w)⟩
def ltNo (r : Rc) (w : Int) : Prop := r.tries + 1 ≥ 4 ∨ w + pau (r.tries + 1) > 9999
instance (r : Rc) (w : Int) : Decidable (ltNo r w) := by unfold ltNo; infer_instance
def SLat (s : Sp) (i k : Nat) (w : Int) : Sp × Bool := if ltNo ((s.items.getD i default).to.getD k default) w then (s, false) else (ltSp s i k w, true)
open Classical in
noncomputable def SLater (s : Sp) (n : Int) (a : Ad) (w : Int) : Sp × Bool :=
  if SpOk s then (if atIm s n < 0 then (s, false) else if ¬ (0 ≤ w ∧ w ≤ 9999) then (s, false) else if atRc (theIm s n) a < 0 then (s, false) else SLat s (atIm s n).toNat (atRc (theIm s n) a).toNat w) else (⟨0, []⟩, false)
section
variable {s : Sp} {n : Int} {a : Ad} {w : Int}
theorem SLater_no (h : ¬ SpOk s) : SLater s n a w = (⟨0, []⟩, false) := by unfold SLater; rw [if_neg h]
theorem SLater_i (h : SpOk s) (hi : atIm s n < 0) : SLater s n a w = (s, false) := by unfold SLater; rw [if_pos h, if_pos hi]
theorem SLater_w (h : SpOk s) (hi : ¬ atIm s n < 0) (hw : ¬ (0 ≤ w ∧ w ≤ 9999)) : SLater s n a w = (s, false) := by unfold SLater; rw [if_pos h, if_neg hi, if_pos hw]
theorem SLater_k (h : SpOk s) (hi : ¬ atIm s n < 0) (hw : 0 ≤ w ∧ w ≤ 9999) (hk : atRc (theIm s n) a < 0) : SLater s n a w = (s, false) := by unfold SLater; rw [if_pos h, if_neg hi, if_neg (fun h => h hw), if_pos hk]
theorem SLater_y (h : SpOk s) (hi : ¬ atIm s n < 0) (hw : 0 ≤ w ∧ w ≤ 9999) (hk : ¬ atRc (theIm s n) a < 0) : SLater s n a w = SLat s (atIm s n).toNat (atRc (theIm s n) a).toNat w := by unfold SLater; rw [if_pos h, if_neg hi, if_neg (fun h => h hw), if_neg hk]
end
theorem aNil_n {s : AS} {K : Kt} : aNilE [] false s K = (K (.t (.v (.bool true))) s ∧ K (.t (.v (.bool false))) s) := propext ⟨fun h => ⟨h.1 rfl, h.2⟩, fun h => ⟨fun _ => h.1, h.2⟩⟩
theorem aNil_c {e : List T} {es : List (List T)} {s : AS} {K : Kt} : aNilE (e :: es) false s K = K (.t (.v (.bool false))) s := propext ⟨fun h => h.2, fun h => ⟨fun e => (by cases e), h⟩⟩
theorem take_addr {xs : List Rc} {i : Nat} (h : i < xs.length) : ((xs.map Rc.addr).take (i + 1)).map encAd = ((xs.map Rc.addr).take i).map encAd ++ [[.v (.string (xs.getD i default).addr.user), .v (.string (xs.getD i default).addr.domain)]] := by
  have e : (xs.map Rc.addr).getD i default = (xs.getD i default).addr := by
    simp only [List.getD_eq_getElem?_getD, List.getElem?_map, List.getElem?_eq_getElem h, Option.map_some, Option.getD_some]
  rw [take_snoc_map encAd (by rw [List.length_map]; exact h), e]
  rfl
noncomputable def findR (s : Sp) (n : Int) (a : Ad) : AV := if atIm s n < 0 then .tup [.t (.v (.int .i64 0)), .t (.v (.int .i64 0)), .t (.v (.bool false))] else .tup [.t (.v (.int .i64 (atIm s n))), .t (.v (.int .i64 (atRc (theIm s n) a))), .t (.v (.bool (decide (atRc (theIm s n) a ≥ 0))))]
theorem findR_solid (s : Sp) (n : Int) (a : Ad) : Solid (findR s n a) := by
  unfold findR
  split
  all_goals
    refine .tup _ fun c hc => ?_
    simp only [List.mem_cons, List.not_mem_nil, or_false] at hc
    rcases hc with rfl | rfl | rfl <;> exact .v _
theorem findR_n {s : Sp} {n : Int} {a : Ad} (h : atIm s n < 0) : findR s n a = .tup [.t (.v (.int .i64 0)), .t (.v (.int .i64 0)), .t (.v (.bool false))] := if_pos h
theorem findR_y {s : Sp} {n : Int} {a : Ad} (h : ¬ atIm s n < 0) : findR s n a = .tup [.t (.v (.int .i64 (atIm s n))), .t (.v (.int .i64 (atRc (theIm s n) a))), .t (.v (.bool (decide (atRc (theIm s n) a ≥ 0))))] := if_neg h
theorem pau_shl {t : Int} (h : 1 ≤ t) : (2 : Int) * 2 ^ (t - 1).toNat = pau t := rfl
def c40 : Ct := ctR (lc AInt l0) (fun p => True) (fun p => .t (.v (.bool (bOf (0 ≤ p.1 ∧ p.1 ≤ 9999)))))
section
attribute [local go_sem] c36
theorem good40 {G : Gt} (hG : OkG G) (hh : G.e 36 = roEnt 0 c36) : Gd G 40 (roEnt 0 c40) := by
  refine gR (dp := fun _ => true) (fn := Tryz.f40) (n := 1) (fun _ => rfl) (by kernel_rfl) rfl (by kernel_rfl) hG (Nat.le_of_ble_eq_true rfl) (by kernel_rfl) (by decide) (fun _ _ => .v _) ?_
  rintro ⟨n, ⟨⟩⟩ hpre
  simp -implicitDefEqProofs only [Tryz.f40, go_sem, hh] at hpre ⊢
  repeat' (first | with_reducible apply And.intro | with_reducible intro _ | ((first | apply brB_split | apply aPickB_split | apply gB_split | apply adB_split) <;> intro hb <;> simp -implicitDefEqProofs only [hb, go_sem, hh] <;> try simp only [qz] at hb))
  all_goals first | rfl | skip
end
def c35 : Ct := ctR (lc EIm.ag l0) (fun p => OkIm p.1) (fun p => .t (.v (.bool (bOf (ImOk p.1)))))
section
attribute [local go_sem] c37 c36 c40 c80 c81 c82 tmap dmap List.take_length List.drop_zero List.length_take List.length_drop List.length_map List.length_append List.length_cons List.length_nil List.map_append List.map_nil List.map_cons List.nil_append Nat.zero_add List.mem_singleton forall_eq Bool.not_true Bool.not_false bOf_t bOf_f
set_option maxHeartbeats 1600000 in
theorem good35 {G : Gt} (hG : OkG G) (hh : G.e 37 = roEnt 0 c37 ∧ G.e 36 = roEnt 0 c36 ∧ G.e 40 = roEnt 0 c40 ∧ G.e 80 = roEnt 0 c80 ∧ G.e 81 = roEnt 0 c81 ∧ G.e 82 = roEnt 0 c82) : Gd G 35 (roEnt 0 c35) := by
  refine gR (dp := fun _ => true) (fn := Tryz.f35) (n := 1) (fun _ => rfl) (by kernel_rfl) rfl (by kernel_rfl) hG (Nat.le_of_ble_eq_true rfl) (by kernel_rfl) (by decide) (fun _ _ => .v _) ?_
  rintro ⟨x, ⟨⟩⟩ hpre
  simp -implicitDefEqProofs only [Tryz.f35, go_sem, hh] at hpre ⊢
  obtain ⟨⟨_, hfd⟩, ⟨hl1, hto⟩, ⟨hl2, hbd⟩⟩ := hpre
  have hfd' : x.frm.domain.size ≤ 2000000 := by have : x.frm.domain.size ≤ 1048576 := hfd; omega
  have hbd' : ∀ s ∈ x.body, s.size ≤ 2000000 := fun s hs => by have : s.size ≤ 1048576 := hbd s hs; omega
  have hto' : ∀ j, j < x.to.length → (x.to.getD j default).addr.domain.size ≤ 2000000 := fun j hj => by have : (x.to.getD j default).addr.domain.size ≤ 1048576 := (hto _ (getD_mem hj)).2; omega
  repeat' (first | with_reducible apply And.intro | with_reducible intro _ | ((first | apply brB_split | apply aPickB_split | apply gB_split | apply adB_split) <;> intro hb <;> simp -implicitDefEqProofs only [hb, go_sem, hh] <;> try simp only [qz] at hb))
  all_goals first | rfl | skip
  refine run_loop [(3, 1903, true, 2)] (ι := {i : Nat // i ≤ x.to.length ∧ ∀ j, j < i → RcOk (x.to.getD j default)}) (fun p => ⟨[(1, .pb 1001 0), (3, .h 1903), (7, .t (.sl 4 (x.to.map encRc))), (8, .t (.v (.int .i64 x.to.length))), (9, .t (.v (.int .i64 p.1)))], [(1001, some (.box ((encIm x).map .t))), (1903, some (.arr true 2 (((x.to.map Rc.addr).take p.1).map encAd)))]⟩) (fun p => x.to.length - p.1) ⟨0, by simp, by simp⟩ rfl ?_ ?_
  · simp -implicitDefEqProofs only [go_sem, hh]
    simp
  · rintro ⟨i, hi, hall⟩
    by_cases hlt : (i : Int) < x.to.length
    · have hd := hto' i (by omega)
      have hlen : ((x.to.map Rc.addr).take i).length = i := by simp; omega
      simp -implicitDefEqProofs only [hlt, decide_true, Int.toNat_natCast, go_sem, hh]
      repeat' (first | with_reducible apply And.intro | with_reducible intro _ | ((first | apply brB_split | apply aPickB_split | apply gB_split | apply adB_split) <;> intro hb <;> simp -implicitDefEqProofs only [hb, go_sem, hh] <;> try simp only [qz] at hb))
      all_goals (try simp only [maxLen] at *)
      all_goals first | rfl | omega | assumption | decide | skip
      all_goals first
        | (rw [bOf_n (fun h => by have h1 := h.1 _ (getD_mem (xs := x.to) (j := i) (by omega)); first | exact hb h1.1 | exact hb h1.2.1 | exact hb h1.2.2)]; done)
        | skip
      refine ⟨⟨i + 1, by omega, all_step (P := RcOk) hall ⟨by assumption, by assumption, by assumption⟩⟩, by dsimp only; omega, ?_⟩
      simp -implicitDefEqProofs only [go_sem, hh]
      simp only [take_addr (show i < x.to.length by omega)]
      repeat' (first | with_reducible apply And.intro | with_reducible intro _ | ((first | apply brB_split | apply aPickB_split | apply gB_split | apply adB_split) <;> intro hb <;> simp -implicitDefEqProofs only [hb, go_sem, hh] <;> try simp only [qz] at hb))
      all_goals first | rfl | (simp; done) | (simp; omega)
    · have hA : ∀ r ∈ x.to, RcOk r := mem_getD fun j hj => hall j (by omega)
      simp -implicitDefEqProofs only [hlt, decide_false, go_sem, hh]
      repeat' (first | with_reducible apply And.intro | with_reducible intro _ | ((first | apply brB_split | apply aPickB_split | apply gB_split | apply adB_split) <;> intro hb <;> simp -implicitDefEqProofs only [hb, go_sem, hh] <;> try simp only [qz] at hb))
      all_goals (try simp only [maxLen] at *)
      all_goals first | rfl | omega | assumption | decide | exact hbd' _ (by assumption) | skip
      all_goals (try rw [List.take_of_length_le (by rw [List.length_map]; omega)] at hb)
      all_goals first
        | (rw [bOf_congr]
           exact ⟨fun h => ⟨hA, hb, by assumption, by assumption, by omega, h⟩, fun h => h.2.2.2.2.2⟩)
        | (rw [bOf_n]
           intro h
           first
             | exact hb h.2.1
             | exact hb h.2.2.1
             | exact hb h.2.2.2.1
             | exact hb (by have := h.2.2.2.2.1; omega))
        | trace_state
end
def c10 : Ct := ctR (lc ESp.ag l0) (fun p => OkSp p.1) (fun p => .t (.v (.bool (bOf (SpOk p.1)))))
section
attribute [local go_sem] c35 c36 tmap dmap List.take_length List.drop_zero List.length_take List.length_drop List.length_map List.length_append List.length_cons List.length_nil List.map_append List.map_nil List.map_cons List.nil_append Nat.zero_add List.mem_singleton forall_eq Bool.not_true Bool.not_false bOf_t bOf_f
set_option maxHeartbeats 1600000 in
theorem good10 {G : Gt} (hG : OkG G) (hh : G.e 35 = roEnt 0 c35 ∧ G.e 36 = roEnt 0 c36) : Gd G 10 (roEnt 0 c10) := by
  refine gR (dp := fun _ => true) (fn := Tryz.f10) (n := 1) (fun _ => rfl) (by kernel_rfl) rfl (by kernel_rfl) hG (Nat.le_of_ble_eq_true rfl) (by kernel_rfl) (by decide) (fun _ _ => .v _) ?_
  rintro ⟨s, ⟨⟩⟩ hpre
  simp -implicitDefEqProofs only [Tryz.f10, go_sem, hh] at hpre ⊢
  have hok' : OkL OkIm s.items := hpre
  have hmx := hok'.1
  repeat' (first | with_reducible apply And.intro | with_reducible intro _ | ((first | apply brB_split | apply aPickB_split | apply gB_split | apply adB_split) <;> intro hb <;> simp -implicitDefEqProofs only [hb, go_sem, hh] <;> try simp only [qz] at hb))
  all_goals first | rfl | skip
  refine run_loop [] (ι := {i : Nat // i ≤ s.items.length ∧ (∀ j, j < i → ImOk (s.items.getD j default) ∧ (s.items.getD j default).id ≤ s.last) ∧ ∀ j, 0 < j → j < i → (s.items.getD (j - 1) default).id < (s.items.getD j default).id}) (fun p => ⟨[(1, .pb 1001 0), (3, .t (.v (.int .i64 (if p.1 = 0 then 0 else (s.items.getD (p.1 - 1) default).id)))), (7, .t (.sl 5 (s.items.map encIm))), (8, .t (.v (.int .i64 s.items.length))), (9, .t (.v (.int .i64 p.1)))], [(1001, some (.box ((encSp s).map .t)))]⟩) (fun p => s.items.length - p.1) ⟨0, by simp, by simp, by simp⟩ rfl ?_ ?_
  · simp -implicitDefEqProofs only [go_sem, hh]
    simp
  · rintro ⟨i, hi, hall, hasc⟩
    have hgen : ∀ L : Int, L = (if i = 0 then 0 else (s.items.getD (i - 1) default).id) → True := fun _ _ => trivial
    obtain ⟨L, hL⟩ : ∃ L : Int, L = (if i = 0 then 0 else (s.items.getD (i - 1) default).id) := ⟨_, rfl⟩
    by_cases hlt : (i : Int) < s.items.length
    · have hok := hok'.at (i := i) (by omega)
      dsimp only
      rw [← hL]
      simp -implicitDefEqProofs only [hlt, decide_true, Int.toNat_natCast, go_sem, hh]
      repeat' (first | with_reducible apply And.intro | with_reducible intro _ | ((first | apply brB_split | apply aPickB_split | apply gB_split | apply adB_split) <;> intro hb <;> simp -implicitDefEqProofs only [hb, go_sem, hh] <;> try simp only [qz] at hb))
      all_goals (try simp only [maxLen] at *)
      all_goals first | rfl | omega | assumption | decide | skip
      all_goals (try have h0 := (show ImOk (s.items.getD i default) from by assumption).2.2.1)
      all_goals first
        | (rw [bOf_n]
           intro h
           have h1 := h.1 _ (getD_mem (xs := s.items) (j := i) (by omega))
           first
             | exact hb h1.1
             | omega
             | (by_cases e : i = 0
                · rw [if_pos e] at hL; omega
                · rw [if_neg e] at hL
                  have h2 := h.2.1 i (by omega) (by omega)
                  omega))
        | skip
      refine ⟨⟨i + 1, by omega, all_step (P := fun x : Im => ImOk x ∧ x.id ≤ s.last) hall ⟨by assumption, by omega⟩, fun j h0 hj => ?_⟩, by dsimp only; omega, ?_⟩
      · by_cases e : j = i
        · subst e
          rw [if_neg (by omega)] at hL
          omega
        · exact hasc j h0 (by omega)
      · simp -implicitDefEqProofs only [go_sem, hh]
        simp
    · dsimp only
      rw [← hL]
      simp -implicitDefEqProofs only [hlt, decide_false, go_sem, hh]
      repeat' (first | with_reducible apply And.intro | with_reducible intro _ | ((first | apply brB_split | apply aPickB_split | apply gB_split | apply adB_split) <;> intro hb <;> simp -implicitDefEqProofs only [hb, go_sem, hh] <;> try simp only [qz] at hb))
      all_goals (try simp only [maxLen] at *)
      all_goals first | rfl | omega | assumption | decide | skip
      · refine congrArg (fun b => T.v (Value.bool b)) ?_
        rw [← bOf_d, bOf_congr]
        exact ⟨fun h => ⟨mem_getD fun j hj => hall j (by omega), fun j h0 hj => hasc j h0 (by omega), hb, by omega⟩, fun h => by have := h.2.2.2; omega⟩
      · rw [bOf_n (fun h => hb h.2.2.1)]
end
def c64 : Ct := ctR (lc EStr.asl l0) (fun p => (p.1.length : Int) ≤ 1048576) (fun p => .o true 1 (p.1.map encStr))
section
attribute [local go_sem] aNil_n aNil_c List.length_map List.nil_append List.map_nil List.map_cons List.length_cons List.length_nil
theorem good64 {G : Gt} (hG : OkG G) : Gd G 64 (roEnt 0 c64) := by
  refine gR (dp := fun _ => true) (fn := Tryz.f64) (n := 1) (fun _ => rfl) (by kernel_rfl) rfl (by kernel_rfl) hG (Nat.le_of_ble_eq_true rfl) (by kernel_rfl) (by decide) (fun _ _ => .deep _ _) ?_
  rintro ⟨xs, ⟨⟩⟩ hpre
  dsimp only at hpre ⊢
  cases xs with
  | nil =>
    simp -implicitDefEqProofs only [Tryz.f64, go_sem]
    repeat' (first | with_reducible apply And.intro | with_reducible intro _ | ((first | apply brB_split | apply aPickB_split | apply gB_split | apply adB_split) <;> intro hb <;> simp -implicitDefEqProofs only [hb, go_sem] <;> try simp only [qz] at hb))
    all_goals (try simp only [maxLen, List.length_map] at *)
    all_goals first | rfl | omega | exact of_eq_true (AllV_Str []) | (simp; done) | skip
  | cons x xs =>
    simp only [List.length_cons] at hpre
    simp -implicitDefEqProofs only [Tryz.f64, go_sem]
    repeat' (first | with_reducible apply And.intro | with_reducible intro _ | ((first | apply brB_split | apply aPickB_split | apply gB_split | apply adB_split) <;> intro hb <;> simp -implicitDefEqProofs only [hb, go_sem] <;> try simp only [qz] at hb))
    all_goals (try simp only [maxLen, List.length_map] at *)
    all_goals first | rfl | omega | exact of_eq_true (AllV_Str (x :: xs)) | exact of_eq_true (len_Str (x :: xs)) _ (by assumption) | (simp; done) | skip
end
end Go.V
