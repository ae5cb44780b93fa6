/- The row. No condition. -/
import Derived.Test.YtcihecoggoeelaaGreatDoorXB
import Derived.Test.YtcihecoggoeelaaGreatDoorProg
import Derived.KernelRfl
import Derived.Lib.IndexMore
import Derived.Lib.IndexEntry
import Derived.Lib.RabinKarpLaws
import Derived.Lib.Split
import Derived.DeepKeys4
import Derived.Lib.Bytealg
namespace Go.V
open Go Go.Proofs
theorem yw : AJ Tryz.prog 3 = some ⟨.int .i64, 1, 8, [.int .i64 0]⟩ := by kernel_rfl
theorem yx : AJ Tryz.prog 4 = some ⟨.bool, 1, 1, [.bool false]⟩ := by kernel_rfl
theorem yy : AJ Tryz.prog 5 = some ⟨.int .u8, 1, 1, [.int .u8 0]⟩ := by kernel_rfl
theorem yz : AJ Tryz.prog 9 = some ⟨.str, 1, 16, [.string ⟨#[]⟩]⟩ := by kernel_rfl
theorem wX : AJ Tryz.prog 22 = some ⟨.slice 5, 1, 24, [.slice none 0 0]⟩ := by kernel_rfl
theorem wY : AJ Tryz.prog 23 = some ⟨.slice 9, 1, 24, [.slice none 0 0]⟩ := by kernel_rfl
theorem wZ : AJ Tryz.prog 24 = some ⟨.slice 126, 1, 24, [.slice none 0 0]⟩ := by kernel_rfl
theorem wa : AJ Tryz.prog 26 = some ⟨.struct [(0, 1, false), (1, 1, false), (2, 1, false)], 3, 64, [.string ⟨#[]⟩, .slice none 0 0, .slice none 0 0]⟩ := by kernel_rfl
theorem wb : AJ Tryz.prog 27 = some ⟨.slice 48, 1, 24, [.slice none 0 0]⟩ := by kernel_rfl
theorem wc : AJ Tryz.prog 29 = some ⟨.struct [(0, 1, false), (1, 1, false)], 2, 32, [.int .i64 0, .slice none 0 0]⟩ := by kernel_rfl
theorem wd : AJ Tryz.prog 30 = some ⟨.slice 63, 1, 24, [.slice none 0 0]⟩ := by kernel_rfl
theorem we : AJ Tryz.prog 31 = some ⟨.slice 100, 1, 24, [.slice none 0 0]⟩ := by kernel_rfl
theorem wg : AJ Tryz.prog 33 = some ⟨.struct [(0, 3, true), (3, 2, true), (5, 1, false), (6, 1, false)], 7, 144, [.string ⟨#[]⟩, .slice none 0 0, .slice none 0 0, .int .i64 0, .slice none 0 0, .slice none 0 0, .slice none 0 0]⟩ := by kernel_rfl
theorem wh : AJ Tryz.prog 37 = some ⟨.struct [(0, 1, false), (1, 1, false)], 2, 32, [.string ⟨#[]⟩, .string ⟨#[]⟩]⟩ := by kernel_rfl
theorem wi : AJ Tryz.prog 38 = some ⟨.slice 37, 1, 24, [.slice none 0 0]⟩ := by kernel_rfl
theorem wj : AJ Tryz.prog 40 = some ⟨.struct [(0, 2, true), (2, 1, false), (3, 1, false)], 4, 80, [.string ⟨#[]⟩, .string ⟨#[]⟩, .slice none 0 0, .slice none 0 0]⟩ := by kernel_rfl
theorem wk : AJ Tryz.prog 46 = some ⟨.slice 50, 1, 24, [.slice none 0 0]⟩ := by kernel_rfl
theorem wl : AJ Tryz.prog 48 = some ⟨.struct [(0, 1, false), (1, 2, true), (3, 1, false), (4, 1, false)], 5, 88, [.int .i64 0, .string ⟨#[]⟩, .string ⟨#[]⟩, .slice none 0 0, .slice none 0 0]⟩ := by kernel_rfl
theorem wm : AJ Tryz.prog 50 = some ⟨.struct [(0, 2, true), (2, 1, false), (3, 1, false)], 4, 48, [.string ⟨#[]⟩, .string ⟨#[]⟩, .int .i64 0, .int .i64 0]⟩ := by kernel_rfl
theorem wn : AJ Tryz.prog 53 = some ⟨.slice 33, 1, 24, [.slice none 0 0]⟩ := by kernel_rfl
theorem wo : AJ Tryz.prog 55 = some ⟨.struct [(0, 1, false), (1, 1, false), (2, 1, false), (3, 1, false)], 4, 64, [.slice none 0 0, .int .i64 0, .int .i64 0, .slice none 0 0]⟩ := by kernel_rfl
theorem wq : AJ Tryz.prog 58 = some ⟨.slice 104, 1, 24, [.slice none 0 0]⟩ := by kernel_rfl
theorem wr : AJ Tryz.prog 63 = some ⟨.struct [(0, 2, true), (2, 1, false)], 3, 56, [.string ⟨#[]⟩, .string ⟨#[]⟩, .slice none 0 0]⟩ := by kernel_rfl
theorem wt : AJ Tryz.prog 64 = some ⟨.slice 3, 1, 24, [.slice none 0 0]⟩ := by kernel_rfl
theorem mK : AJ Tryz.prog 100 = some ⟨.struct [(0, 1, false), (1, 2, true)], 3, 48, [.string ⟨#[]⟩, .string ⟨#[]⟩, .string ⟨#[]⟩]⟩ := by kernel_rfl
theorem mL : AJ Tryz.prog 104 = some ⟨.struct [(0, 2, true), (2, 1, false)], 3, 56, [.string ⟨#[]⟩, .string ⟨#[]⟩, .slice none 0 0]⟩ := by kernel_rfl
theorem mM : AJ Tryz.prog 121 = some ⟨.struct [(0, 1, false), (1, 1, false)], 2, 32, [.slice none 0 0, .int .i64 0]⟩ := by kernel_rfl
theorem mN : AJ Tryz.prog 126 = some ⟨.struct [(0, 1, false), (1, 1, false)], 2, 32, [.string ⟨#[]⟩, .string ⟨#[]⟩]⟩ := by kernel_rfl
theorem Bw : AJ Tryz.prog 136 = some ⟨.map 37 4, 1, 8, [.map none]⟩ := by kernel_rfl
theorem co : AJ Tryz.prog 141 = some ⟨.map 9 4, 1, 8, [.map none]⟩ := by kernel_rfl
theorem mO : AJ Tryz.prog 159 = some ⟨.slice 26, 1, 24, [.slice none 0 0]⟩ := by kernel_rfl
theorem mP : AJ Tryz.prog 160 = some ⟨.slice 167, 1, 24, [.slice none 0 0]⟩ := by kernel_rfl
theorem mQ : AJ Tryz.prog 167 = some ⟨.struct [(0, 1, false), (1, 1, false), (2, 1, false), (3, 1, false), (4, 1, false), (5, 1, false), (6, 4, true)], 10, 128, [.int .i64 0, .int .i64 0, .int .i64 0, .int .i64 0, .int .i64 0, .bool false, .string ⟨#[]⟩, .string ⟨#[]⟩, .slice none 0 0, .slice none 0 0]⟩ := by kernel_rfl
theorem wW : AJ Tryz.prog 179 = some ⟨.arr 256 4, 256, 256, List.replicate 256 (.bool false)⟩ := by kernel_rfl
theorem mR : AJ Tryz.prog 198 = some ⟨.slice 40, 1, 24, [.slice none 0 0]⟩ := by kernel_rfl
theorem mS : AJ Tryz.prog 208 = some ⟨.struct [(0, 1, false), (1, 4, true), (5, 1, false), (6, 1, false), (7, 1, false)], 8, 136, [.string ⟨#[]⟩, .string ⟨#[]⟩, .string ⟨#[]⟩, .slice none 0 0, .slice none 0 0, .int .i64 0, .int .i64 0, .slice none 0 0]⟩ := by kernel_rfl
theorem mT : AJ Tryz.prog 211 = some ⟨.struct [(0, 1, false), (1, 4, true), (5, 1, false), (6, 1, false)], 7, 112, [.int .i64 0, .string ⟨#[]⟩, .string ⟨#[]⟩, .slice none 0 0, .slice none 0 0, .bool false, .string ⟨#[]⟩]⟩ := by kernel_rfl
theorem mU : AJ Tryz.prog 223 = some ⟨.int .u32, 1, 4, [.int .u32 0]⟩ := by kernel_rfl
theorem DR : tE Tryz.prog 37 = some [.s, .s] := by kernel_rfl
theorem uy : Tryz.prog.follows .mixedOrders = true := by kernel_rfl
instance : Inhabited ByteArray := ⟨⟨#[]⟩⟩
def Ao (a : Int) : List T := [.v (.int .i64 a)]
def ZT : List T → Option Int
 | [.v (.int .i64 x)] => some x
 | _ => none
def EA : FN Int where
 enc := Ao
 dec := ZT
 n := 1
 ed := fun _ => rfl
 de := fun c a h => by unfold ZT at h; split at h <;> cases h; rfl
 len := fun _ => rfl
theorem MV (a : Int) : Ao a = [.v (.int .i64 a)] := rfl
theorem Ot (xs : List Int) (n : Int) (s : AS) (K : Kt) : E9 1 (xs.map Ao) n s K = (0 ≤ n ∧ n < xs.length ∧ K (.t (.rop (Ao (xs.getD n.toNat default)))) s) := Ba Ao xs 1 n s K fun _ => rfl
theorem J7 {b : Int} : EA.dec [.v (.int .i64 b)] = some b := rfl
theorem Uj (xs : List Int) : EA.decL (xs.map Ao) = some xs := EA.decL_map xs
theorem PH : EA.decL [] = some [] := rfl
theorem Oa : EA.enc = Ao := rfl
theorem X8 : EA.n = 1 := rfl
theorem OY (xs : List Int) : Ef (xs.map Ao) = True := eq_true (Eg Ao (by intro a t ht; simp [Ao] at ht; exact ⟨_, ht⟩) xs)
theorem VH (xs : List Int) : (∀ c ∈ xs.map Ao, c.length = 1) = True := eq_true fun c hc => by
 obtain ⟨a, _, rfl⟩ := List.mem_map.1 hc; rfl
theorem J1 (xs : List Int) (i : Nat) (s : Int) : (xs.map Ao).set i [.v (.int .i64 s)] = (xs.set i s).map Ao := J2 Ao xs i s rfl
theorem MW (a : ByteArray) : AH a = [.v (.string a)] := rfl
theorem Ou (xs : List ByteArray) (n : Int) (s : AS) (K : Kt) : E9 1 (xs.map AH) n s K = (0 ≤ n ∧ n < xs.length ∧ K (.t (.rop (AH (xs.getD n.toNat default)))) s) := Ba AH xs 1 n s K fun _ => rfl
theorem J8 {b : ByteArray} : Al.dec [.v (.string b)] = some b := rfl
theorem Ul (xs : List ByteArray) : Al.decL (xs.map AH) = some xs := Al.decL_map xs
theorem PI : Al.decL [] = some [] := rfl
theorem Oc : Al.enc = AH := rfl
theorem X9 : Al.n = 1 := rfl
theorem HP (xs : List ByteArray) : Ef (xs.map AH) = True := eq_true (Eg AH (by intro a t ht; simp [AH] at ht; exact ⟨_, ht⟩) xs)
theorem Nr (xs : List ByteArray) : (∀ c ∈ xs.map AH, c.length = 1) = True := eq_true fun c hc => by
 obtain ⟨a, _, rfl⟩ := List.mem_map.1 hc; rfl
theorem ar {α β : Type} {A : AD α} {L : AL β} {a : α} {b : β} : (lc A L).enc (a, b) = A.enc a :: L.enc b := rfl
theorem ao {a : Unit} : l0.enc a = [] := rfl
theorem UJ {α : Type} {E : FN α} {xs : List α} : E.asl.enc xs = .t (.sl E.n (xs.map E.enc)) := rfl
theorem Yg {α : Type} {E : FN α} {a : α} : E.ag.enc a = .agg ((E.enc a).map .t) := rfl
theorem UG {α : Type} {E : FN α} {d : Bool} {n : Nat} {xs : List α} : (E.aow d n).enc xs = .o d n (xs.map E.enc) := rfl
theorem OV {b : Int} : BK.enc b = .t (.v (.int .i64 b)) := rfl
theorem S3 {b : Int} : mX.enc b = .t (.v (.int .u8 b)) := rfl
theorem OX {b : ByteArray} : Ax.enc b = .t (.v (.string b)) := rfl
theorem AW {α : Type} [Inhabited α] {xs : List α} {i : Nat} (h : i < xs.length) : xs.drop i = xs.getD i default :: xs.drop (i + 1) := W6 h
theorem lp {k : Nat} {c : Ct} : (AA k c).kd = k := rfl
theorem lq {k : Nat} {c : Ct} : (AA k c).ro = c := rfl
theorem lP {c : Mt} : (AN c).kd = 2 := rfl
theorem lQ {c : Mt} : (AN c).mu = c := rfl
open Classical in
noncomputable def BW (p : Prop) : Bool := decide p
theorem AZ {p : Prop} : (BW p = true) = p := by unfold BW; simp
theorem AY {p : Prop} : (BW p = false) = ¬ p := by unfold BW; simp
theorem Ap {p : Prop} (h : p) : BW p = true := by rw [AZ]; exact h
theorem AQ {p : Prop} (h : ¬ p) : BW p = false := by rw [AY]; exact h
theorem Bl {p : Prop} [Decidable p] : BW p = decide p := by
 by_cases h : p
 ·rw [Ap h, decide_eq_true h]
 ·rw [AQ h, decide_eq_false h]
theorem Jq {p : Prop} : (!BW p) = BW (¬ p) := by
 by_cases h : p
 ·rw [Ap h, AQ (fun q => q h)]; rfl
 ·rw [AQ h, Ap h]; rfl
theorem Ab {p q : Prop} (h : p ↔ q) : BW p = BW q := by rw [propext h]
theorem qa {p : Prop} [Decidable p] : (decide p = true) = p := by simp
theorem qb {p : Prop} [Decidable p] : (decide p = false) = ¬ p := by simp
theorem qc {b : Bool} : ((!b) = true) = (b = false) := by simp
theorem qd {b : Bool} : ((!b) = false) = (b = true) := by simp
theorem qe {b : Bool} : (¬ b = true) = (b = false) := by simp
theorem qf {b : Bool} : (¬ b = false) = (b = true) := by simp
theorem qg {p : Prop} : (¬ ¬ p) = p := by simp
theorem qz : (∀ (p : Prop) [Decidable p], (decide p = true) = p) ∧ (∀ (p : Prop) [Decidable p], (decide p = false) = ¬ p) ∧ (∀ b : Bool, ((!b) = true) = (b = false)) ∧ (∀ b : Bool, ((!b) = false) = (b = true)) ∧ (∀ b : Bool, (¬ b = true) = (b = false)) ∧ (∀ b : Bool, (¬ b = false) = (b = true)) ∧ (∀ p : Prop, (¬ ¬ p) = p) ∧ (∀ p : Prop, (BW p = true) = p) ∧ (∀ p : Prop, (BW p = false) = ¬ p) := ⟨fun _ _ => qa, fun _ _ => qb, fun _ => qc, fun _ => qd, fun _ => qe, fun _ => qf, fun _ => qg, fun _ => AZ, fun _ => AY⟩
abbrev Ah (G : Gt) : Prop := Ld Tryz.prog G ∧ Ei G
abbrev Gd (G : Gt) (f : FuncId) (e : Q3) : Prop := HR Tryz.prog G.m f e
theorem gR {G : Gt} {dp : Nat → Bool} {f : FuncId} {fn : Func} {c : Code} {α : Type} {L : AL α} {pre : α → Prop} {r : α → AV} {kd n : Nat} (hn : ∀ a, (L.enc a).length = n) (hf : Tryz.prog.funcs[f]? = some fn) (hb : fn.body = some c) (hok : Nx fn c = true) (hG : Ah G)
    (hlen : n ≤ fn.ntmps) (ok : BB Tryz.prog f = true) (hk : ¬ kd = 3) (hs : kd = 0 → ∀ a, BY (r a)) (h : ∀ a, pre a → run Tryz.prog G dp (OO Tryz.prog fn.results.toList (AU 900 0 (L.enc a) ⟨[], []⟩).avs (L.enc a) (r a)) [.c c] (s0 (L.enc a))) : Gd G f (AA kd (Ar L pre r)) := aZ hn hf hb hok uy hG hlen ok hk hs h
theorem gM {G : Gt} {dp : Nat → Bool} {f : FuncId} {fn : Func} {c : Code} {α : Type} {L : AL α} {pre : α → Prop} {r : α → List AV × AV} {n : Nat} (hn : ∀ a, (L.enc a).length = n) (hf : Tryz.prog.funcs[f]? = some fn) (hb : fn.body = some c) (hok : Nx fn c = true) (hG : Ah G)
    (hlen : n ≤ fn.ntmps) (ok : BB Tryz.prog f = true) (h : ∀ a, pre a → run Tryz.prog G dp (OO Tryz.prog fn.results.toList (AU 900 0 (L.enc a) ⟨[], []⟩).avs (r a).1 (r a).2) [.c c] (s0 (L.enc a))) : Gd G f (AN (HB L pre r)) := W9 hn hf hb hok uy hG hlen ok h
structure Ad where
 user : ByteArray
 domain : ByteArray
 deriving DecidableEq
instance : Inhabited Ad := ⟨⟨default, default⟩⟩
def Am (a : Ad) : List T := [.v (.string a.user), .v (.string a.domain)]
def kI : List T → Option Ad
 | [.v (.string x0), .v (.string x1)] => some ⟨x0, x1⟩
 | _ => none
def DY : FN Ad where
 enc := Am
 dec := kI
 n := 2
 ed := fun _ => rfl
 de := fun c a h => by unfold kI at h; split at h <;> cases h; rfl
 len := fun _ => rfl
theorem Hk (a : Ad) : Am a = [.v (.string a.user), .v (.string a.domain)] := rfl
theorem Tl (xs : List Ad) (n : Int) (s : AS) (K : Kt) : E9 2 (xs.map Am) n s K = (0 ≤ n ∧ n < xs.length ∧ K (.t (.rop (Am (xs.getD n.toNat default)))) s) := Ba Am xs 2 n s K fun _ => rfl
theorem S6 {x0 : ByteArray} {x1 : ByteArray} : DY.dec [.v (.string x0), .v (.string x1)] = some ⟨x0, x1⟩ := rfl
theorem ZM (xs : List Ad) : DY.decL (xs.map Am) = some xs := DY.decL_map xs
theorem Ui : DY.decL [] = some [] := rfl
theorem S7 : DY.enc = Am := rfl
theorem jf : DY.n = 2 := rfl
theorem ax (xs : List Ad) : (∀ c ∈ xs.map Am, c.length = 2) = True := eq_true fun c hc => by
 obtain ⟨a, _, rfl⟩ := List.mem_map.1 hc; rfl
theorem S4 (xs : List Ad) : Ef (xs.map Am) = True := eq_true (Eg Am (by intro a t ht; simp only [Am, List.mem_cons, List.not_mem_nil, or_false] at ht; rcases ht with rfl | rfl <;> exact ⟨_, rfl⟩) xs)
theorem X1 (a : Ad) : (⟨a.user, a.domain⟩ : Ad) = a := rfl
theorem B8 {a b : Ad} : a = b ↔ a.user = b.user ∧ a.domain = b.domain := by
 cases a; cases b; simp
structure Ml where
 frm : Ad
 to : List Ad
 body : List ByteArray
 deriving DecidableEq
instance : Inhabited Ml := ⟨⟨default, default, default⟩⟩
def DP (a : Ml) : List T := [.v (.string a.frm.user), .v (.string a.frm.domain), .sl 2 (a.to.map Am), .sl 1 (a.body.map AH)]
def XM (x0 : ByteArray) (x1 : ByteArray) : Option (List Ad) → Option (List ByteArray) → Option Ml
 | some x2, some x3 => some ⟨⟨x0, x1⟩, x2, x3⟩
 | _, _ => none
def kU : List T → Option Ml
 | [.v (.string x0), .v (.string x1), .sl 2 x2, .sl 1 x3] => XM x0 x1 (DY.decL x2) (Al.decL x3)
 | _ => none
def dP : FN Ml where
 enc := DP
 dec := kU
 n := 4
 ed := fun a => by
  show XM a.frm.user a.frm.domain (DY.decL (a.to.map DY.enc)) (Al.decL (a.body.map Al.enc)) = _
  rw [DY.decL_map, Al.decL_map]
  rfl
 de := fun c a h => by
  unfold kU at h
  split at h
  ·unfold XM at h
   split at h
   ·rename_i e0 e1
    cases h
    rw [DY.decL_inv e0, Al.decL_inv e1]; rfl
   ·cases h
  ·cases h
 len := fun _ => rfl
theorem Ph (a : Ml) : DP a = [.v (.string a.frm.user), .v (.string a.frm.domain), .sl 2 (a.to.map Am), .sl 1 (a.body.map AH)] := rfl
theorem Tt (xs : List Ml) (n : Int) (s : AS) (K : Kt) : E9 4 (xs.map DP) n s K = (0 ≤ n ∧ n < xs.length ∧ K (.t (.rop (DP (xs.getD n.toNat default)))) s) := Ba DP xs 4 n s K fun _ => rfl
theorem TO {x0 : ByteArray} {x1 : ByteArray} {x2 : List (List T)} {x3 : List (List T)} : dP.dec [.v (.string x0), .v (.string x1), .sl 2 x2, .sl 1 x3] = XM x0 x1 (DY.decL x2) (Al.decL x3) := rfl
theorem TP : dP.enc = DP := rfl
theorem a9 (xs : List Ml) : (∀ c ∈ xs.map DP, c.length = 4) = True := eq_true fun c hc => by
 obtain ⟨a, _, rfl⟩ := List.mem_map.1 hc; rfl
theorem YJ (a : Ml) : (⟨a.frm, a.to, a.body⟩ : Ml) = a := rfl
structure Rc where
 addr : Ad
 tries : Int
 next : Int
 deriving DecidableEq
instance : Inhabited Rc := ⟨⟨default, default, default⟩⟩
def BN (a : Rc) : List T := [.v (.string a.addr.user), .v (.string a.addr.domain), .v (.int .i64 a.tries), .v (.int .i64 a.next)]
def kV : List T → Option Rc
 | [.v (.string x0), .v (.string x1), .v (.int .i64 x2), .v (.int .i64 x3)] => some ⟨⟨x0, x1⟩, x2, x3⟩
 | _ => none
def WS : FN Rc where
 enc := BN
 dec := kV
 n := 4
 ed := fun _ => rfl
 de := fun c a h => by unfold kV at h; split at h <;> cases h; rfl
 len := fun _ => rfl
theorem Pi (a : Rc) : BN a = [.v (.string a.addr.user), .v (.string a.addr.domain), .v (.int .i64 a.tries), .v (.int .i64 a.next)] := rfl
theorem Tu (xs : List Rc) (n : Int) (s : AS) (K : Kt) : E9 4 (xs.map BN) n s K = (0 ≤ n ∧ n < xs.length ∧ K (.t (.rop (BN (xs.getD n.toNat default)))) s) := Ba BN xs 4 n s K fun _ => rfl
theorem TQ {x0 : ByteArray} {x1 : ByteArray} {x2 : Int} {x3 : Int} : WS.dec [.v (.string x0), .v (.string x1), .v (.int .i64 x2), .v (.int .i64 x3)] = some ⟨⟨x0, x1⟩, x2, x3⟩ := rfl
theorem ZV (xs : List Rc) : WS.decL (xs.map BN) = some xs := WS.decL_map xs
theorem TR : WS.enc = BN := rfl
theorem jk : WS.n = 4 := rfl
theorem SH (xs : List Rc) : (∀ c ∈ xs.map BN, c.length = 4) = True := eq_true fun c hc => by
 obtain ⟨a, _, rfl⟩ := List.mem_map.1 hc; rfl
theorem Jj (xs : List Rc) : Ef (xs.map BN) = True := eq_true (Eg BN (by intro a t ht; simp only [BN, List.mem_cons, List.not_mem_nil, or_false] at ht; rcases ht with rfl | rfl | rfl | rfl <;> exact ⟨_, rfl⟩) xs)
theorem YK (a : Rc) : (⟨a.addr, a.tries, a.next⟩ : Rc) = a := rfl
theorem sD (xs : List Rc) (i : Nat) (x0 : ByteArray) (x1 : ByteArray) (x2 : Int) (x3 : Int) : (xs.map BN).set i [.v (.string x0), .v (.string x1), .v (.int .i64 x2), .v (.int .i64 x3)] = (xs.set i ⟨⟨x0, x1⟩, x2, x3⟩).map BN := J2 BN xs i ⟨⟨x0, x1⟩, x2, x3⟩ rfl
structure Im where
 id : Int
 frm : Ad
 to : List Rc
 body : List ByteArray
 deriving DecidableEq
instance : Inhabited Im := ⟨⟨default, default, default, default⟩⟩
def As (a : Im) : List T := [.v (.int .i64 a.id), .v (.string a.frm.user), .v (.string a.frm.domain), .sl 4 (a.to.map BN), .sl 1 (a.body.map AH)]
def XL (x0 : Int) (x1 : ByteArray) (x2 : ByteArray) : Option (List Rc) → Option (List ByteArray) → Option Im
 | some x3, some x4 => some ⟨x0, ⟨x1, x2⟩, x3, x4⟩
 | _, _ => none
def kQ : List T → Option Im
 | [.v (.int .i64 x0), .v (.string x1), .v (.string x2), .sl 4 x3, .sl 1 x4] => XL x0 x1 x2 (WS.decL x3) (Al.decL x4)
 | _ => none
def J6 : FN Im where
 enc := As
 dec := kQ
 n := 5
 ed := fun a => by
  show XL a.id a.frm.user a.frm.domain (WS.decL (a.to.map WS.enc)) (Al.decL (a.body.map Al.enc)) = _
  rw [WS.decL_map, Al.decL_map]
  rfl
 de := fun c a h => by
  unfold kQ at h
  split at h
  ·unfold XL at h
   split at h
   ·rename_i e0 e1
    cases h
    rw [WS.decL_inv e0, Al.decL_inv e1]; rfl
   ·cases h
  ·cases h
 len := fun _ => rfl
theorem Pf (a : Im) : As a = [.v (.int .i64 a.id), .v (.string a.frm.user), .v (.string a.frm.domain), .sl 4 (a.to.map BN), .sl 1 (a.body.map AH)] := rfl
theorem Tr (xs : List Im) (n : Int) (s : AS) (K : Kt) : E9 5 (xs.map As) n s K = (0 ≤ n ∧ n < xs.length ∧ K (.t (.rop (As (xs.getD n.toNat default)))) s) := Ba As xs 5 n s K fun _ => rfl
theorem TL {x0 : Int} {x1 : ByteArray} {x2 : ByteArray} {x3 : List (List T)} {x4 : List (List T)} : J6.dec [.v (.int .i64 x0), .v (.string x1), .v (.string x2), .sl 4 x3, .sl 1 x4] = XL x0 x1 x2 (WS.decL x3) (Al.decL x4) := rfl
theorem ZS (xs : List Im) : J6.decL (xs.map As) = some xs := J6.decL_map xs
theorem TM : J6.enc = As := rfl
theorem a8 (xs : List Im) : (∀ c ∈ xs.map As, c.length = 5) = True := eq_true fun c hc => by
 obtain ⟨a, _, rfl⟩ := List.mem_map.1 hc; rfl
theorem YG (a : Im) : (⟨a.id, a.frm, a.to, a.body⟩ : Im) = a := rfl
theorem sC (xs : List Im) (i : Nat) (x0 : Int) (x1 : ByteArray) (x2 : ByteArray) (x3 : List Rc) (x4 : List ByteArray) : (xs.map As).set i [.v (.int .i64 x0), .v (.string x1), .v (.string x2), .sl 4 (x3.map BN), .sl 1 (x4.map AH)] = (xs.set i ⟨x0, ⟨x1, x2⟩, x3, x4⟩).map As := J2 As xs i ⟨x0, ⟨x1, x2⟩, x3, x4⟩ rfl
structure Sp where
 last : Int
 items : List Im
 deriving DecidableEq
instance : Inhabited Sp := ⟨⟨default, default⟩⟩
def Dx (a : Sp) : List T := [.v (.int .i64 a.last), .sl 5 (a.items.map As)]
def XN (x0 : Int) : Option (List Im) → Option Sp
 | some x1 => some ⟨x0, x1⟩
 | _ => none
def kX : List T → Option Sp
 | [.v (.int .i64 x0), .sl 5 x1] => XN x0 (J6.decL x1)
 | _ => none
def Q2 : FN Sp where
 enc := Dx
 dec := kX
 n := 2
 ed := fun a => by
  show XN a.last (J6.decL (a.items.map J6.enc)) = _
  rw [J6.decL_map]
  rfl
 de := fun c a h => by
  unfold kX at h
  split at h
  ·unfold XN at h
   split at h
   ·rename_i e0
    cases h
    rw [J6.decL_inv e0]; rfl
   ·cases h
  ·cases h
 len := fun _ => rfl
theorem Pj (a : Sp) : Dx a = [.v (.int .i64 a.last), .sl 5 (a.items.map As)] := rfl
theorem TS {x0 : Int} {x1 : List (List T)} : Q2.dec [.v (.int .i64 x0), .sl 5 x1] = XN x0 (J6.decL x1) := rfl
theorem TT : Q2.enc = Dx := rfl
theorem YP (a : Sp) : (⟨a.last, a.items⟩ : Sp) = a := rfl
structure Wy where
 ends : ByteArray
 to : ByteArray
 deriving DecidableEq
instance : Inhabited Wy := ⟨⟨default, default⟩⟩
def Bt (a : Wy) : List T := [.v (.string a.ends), .v (.string a.to)]
def ka : List T → Option Wy
 | [.v (.string x0), .v (.string x1)] => some ⟨x0, x1⟩
 | _ => none
def Lk : FN Wy where
 enc := Bt
 dec := ka
 n := 2
 ed := fun _ => rfl
 de := fun c a h => by unfold ka at h; split at h <;> cases h; rfl
 len := fun _ => rfl
theorem Pm (a : Wy) : Bt a = [.v (.string a.ends), .v (.string a.to)] := rfl
theorem Tv (xs : List Wy) (n : Int) (s : AS) (K : Kt) : E9 2 (xs.map Bt) n s K = (0 ≤ n ∧ n < xs.length ∧ K (.t (.rop (Bt (xs.getD n.toNat default)))) s) := Ba Bt xs 2 n s K fun _ => rfl
theorem TY {x0 : ByteArray} {x1 : ByteArray} : Lk.dec [.v (.string x0), .v (.string x1)] = some ⟨x0, x1⟩ := rfl
theorem ZX (xs : List Wy) : Lk.decL (xs.map Bt) = some xs := Lk.decL_map xs
theorem TZ : Lk.enc = Bt := rfl
theorem jl : Lk.n = 2 := rfl
theorem SI (xs : List Wy) : (∀ c ∈ xs.map Bt, c.length = 2) = True := eq_true fun c hc => by
 obtain ⟨a, _, rfl⟩ := List.mem_map.1 hc; rfl
theorem Jk (xs : List Wy) : Ef (xs.map Bt) = True := eq_true (Eg Bt (by intro a t ht; simp only [Bt, List.mem_cons, List.not_mem_nil, or_false] at ht; rcases ht with rfl | rfl <;> exact ⟨_, rfl⟩) xs)
theorem YS (a : Wy) : (⟨a.ends, a.to⟩ : Wy) = a := rfl
structure Cf where
 name : ByteArray
 own : List ByteArray
 ways : List Wy
 deriving DecidableEq
instance : Inhabited Cf := ⟨⟨default, default, default⟩⟩
def DZ (a : Cf) : List T := [.v (.string a.name), .sl 1 (a.own.map AH), .sl 2 (a.ways.map Bt)]
def XG (x0 : ByteArray) : Option (List ByteArray) → Option (List Wy) → Option Cf
 | some x1, some x2 => some ⟨x0, x1, x2⟩
 | _, _ => none
def kL : List T → Option Cf
 | [.v (.string x0), .sl 1 x1, .sl 2 x2] => XG x0 (Al.decL x1) (Lk.decL x2)
 | _ => none
def Jn : FN Cf where
 enc := DZ
 dec := kL
 n := 3
 ed := fun a => by
  show XG a.name (Al.decL (a.own.map Al.enc)) (Lk.decL (a.ways.map Lk.enc)) = _
  rw [Al.decL_map, Lk.decL_map]
  rfl
 de := fun c a h => by
  unfold kL at h
  split at h
  ·unfold XG at h
   split at h
   ·rename_i e0 e1
    cases h
    rw [Al.decL_inv e0, Lk.decL_inv e1]; rfl
   ·cases h
  ·cases h
 len := fun _ => rfl
theorem Pb (a : Cf) : DZ a = [.v (.string a.name), .sl 1 (a.own.map AH), .sl 2 (a.ways.map Bt)] := rfl
theorem Tn (xs : List Cf) (n : Int) (s : AS) (K : Kt) : E9 3 (xs.map DZ) n s K = (0 ≤ n ∧ n < xs.length ∧ K (.t (.rop (DZ (xs.getD n.toNat default)))) s) := Ba DZ xs 3 n s K fun _ => rfl
theorem TB {x0 : ByteArray} {x1 : List (List T)} {x2 : List (List T)} : Jn.dec [.v (.string x0), .sl 1 x1, .sl 2 x2] = XG x0 (Al.decL x1) (Lk.decL x2) := rfl
theorem ZO (xs : List Cf) : Jn.decL (xs.map DZ) = some xs := Jn.decL_map xs
theorem TC : Jn.enc = DZ := rfl
theorem jg : Jn.n = 3 := rfl
theorem X5 (a : Cf) : (⟨a.name, a.own, a.ways⟩ : Cf) = a := rfl
structure Gm where
 frm : Ad
 body : List ByteArray
 deriving DecidableEq
instance : Inhabited Gm := ⟨⟨default, default⟩⟩
def BU (a : Gm) : List T := [.v (.string a.frm.user), .v (.string a.frm.domain), .sl 1 (a.body.map AH)]
def XJ (x0 : ByteArray) (x1 : ByteArray) : Option (List ByteArray) → Option Gm
 | some x2 => some ⟨⟨x0, x1⟩, x2⟩
 | _ => none
def kO : List T → Option Gm
 | [.v (.string x0), .v (.string x1), .sl 1 x2] => XJ x0 x1 (Al.decL x2)
 | _ => none
def Qu : FN Gm where
 enc := BU
 dec := kO
 n := 3
 ed := fun a => by
  show XJ a.frm.user a.frm.domain (Al.decL (a.body.map Al.enc)) = _
  rw [Al.decL_map]
  rfl
 de := fun c a h => by
  unfold kO at h
  split at h
  ·unfold XJ at h
   split at h
   ·rename_i e0
    cases h
    rw [Al.decL_inv e0]; rfl
   ·cases h
  ·cases h
 len := fun _ => rfl
theorem Km (a : Gm) : BU a = [.v (.string a.frm.user), .v (.string a.frm.domain), .sl 1 (a.body.map AH)] := rfl
theorem Tp (xs : List Gm) (n : Int) (s : AS) (K : Kt) : E9 3 (xs.map BU) n s K = (0 ≤ n ∧ n < xs.length ∧ K (.t (.rop (BU (xs.getD n.toNat default)))) s) := Ba BU xs 3 n s K fun _ => rfl
theorem TH {x0 : ByteArray} {x1 : ByteArray} {x2 : List (List T)} : Qu.dec [.v (.string x0), .v (.string x1), .sl 1 x2] = XJ x0 x1 (Al.decL x2) := rfl
theorem ZQ (xs : List Gm) : Qu.decL (xs.map BU) = some xs := Qu.decL_map xs
theorem TI : Qu.enc = BU := rfl
theorem ji : Qu.n = 3 := rfl
theorem az (xs : List Gm) : (∀ c ∈ xs.map BU, c.length = 3) = True := eq_true fun c hc => by
 obtain ⟨a, _, rfl⟩ := List.mem_map.1 hc; rfl
theorem YC (a : Gm) : (⟨a.frm, a.body⟩ : Gm) = a := rfl
theorem mb {a b : Gm} : a = b ↔ a.frm = b.frm ∧ a.body = b.body := by
 cases a; cases b; simp
structure Bx where
 addr : Ad
 mails : List Gm
 deriving DecidableEq
instance : Inhabited Bx := ⟨⟨default, default⟩⟩
def BT (a : Bx) : List T := [.v (.string a.addr.user), .v (.string a.addr.domain), .sl 3 (a.mails.map BU)]
def XF (x0 : ByteArray) (x1 : ByteArray) : Option (List Gm) → Option Bx
 | some x2 => some ⟨⟨x0, x1⟩, x2⟩
 | _ => none
def kJ : List T → Option Bx
 | [.v (.string x0), .v (.string x1), .sl 3 x2] => XF x0 x1 (Qu.decL x2)
 | _ => none
def X7 : FN Bx where
 enc := BT
 dec := kJ
 n := 3
 ed := fun a => by
  show XF a.addr.user a.addr.domain (Qu.decL (a.mails.map Qu.enc)) = _
  rw [Qu.decL_map]
  rfl
 de := fun c a h => by
  unfold kJ at h
  split at h
  ·unfold XF at h
   split at h
   ·rename_i e0
    cases h
    rw [Qu.decL_inv e0]; rfl
   ·cases h
  ·cases h
 len := fun _ => rfl
theorem Pa (a : Bx) : BT a = [.v (.string a.addr.user), .v (.string a.addr.domain), .sl 3 (a.mails.map BU)] := rfl
theorem Tm (xs : List Bx) (n : Int) (s : AS) (K : Kt) : E9 3 (xs.map BT) n s K = (0 ≤ n ∧ n < xs.length ∧ K (.t (.rop (BT (xs.getD n.toNat default)))) s) := Ba BT xs 3 n s K fun _ => rfl
theorem S8 {x0 : ByteArray} {x1 : ByteArray} {x2 : List (List T)} : X7.dec [.v (.string x0), .v (.string x1), .sl 3 x2] = XF x0 x1 (Qu.decL x2) := rfl
theorem ZN (xs : List Bx) : X7.decL (xs.map BT) = some xs := X7.decL_map xs
theorem S9 : X7.enc = BT := rfl
theorem ay (xs : List Bx) : (∀ c ∈ xs.map BT, c.length = 3) = True := eq_true fun c hc => by
 obtain ⟨a, _, rfl⟩ := List.mem_map.1 hc; rfl
theorem X4 (a : Bx) : (⟨a.addr, a.mails⟩ : Bx) = a := rfl
structure Ls where
 mark : ByteArray
 addr : Ad
 deriving DecidableEq
instance : Inhabited Ls := ⟨⟨default, default⟩⟩
def An (a : Ls) : List T := [.v (.string a.mark), .v (.string a.addr.user), .v (.string a.addr.domain)]
def kT : List T → Option Ls
 | [.v (.string x0), .v (.string x1), .v (.string x2)] => some ⟨x0, ⟨x1, x2⟩⟩
 | _ => none
def Iw : FN Ls where
 enc := An
 dec := kT
 n := 3
 ed := fun _ => rfl
 de := fun c a h => by unfold kT at h; split at h <;> cases h; rfl
 len := fun _ => rfl
theorem Pg (a : Ls) : An a = [.v (.string a.mark), .v (.string a.addr.user), .v (.string a.addr.domain)] := rfl
theorem Ts (xs : List Ls) (n : Int) (s : AS) (K : Kt) : E9 3 (xs.map An) n s K = (0 ≤ n ∧ n < xs.length ∧ K (.t (.rop (An (xs.getD n.toNat default)))) s) := Ba An xs 3 n s K fun _ => rfl
theorem ZU (xs : List Ls) : Iw.decL (xs.map An) = some xs := Iw.decL_map xs
theorem Uk : Iw.decL [] = some [] := rfl
theorem TN : Iw.enc = An := rfl
theorem jj : Iw.n = 3 := rfl
theorem SG (xs : List Ls) : (∀ c ∈ xs.map An, c.length = 3) = True := eq_true fun c hc => by
 obtain ⟨a, _, rfl⟩ := List.mem_map.1 hc; rfl
theorem Ji (xs : List Ls) : Ef (xs.map An) = True := eq_true (Eg An (by intro a t ht; simp only [An, List.mem_cons, List.not_mem_nil, or_false] at ht; rcases ht with rfl | rfl | rfl <;> exact ⟨_, rfl⟩) xs)
structure Hs where
 conf : Cf
 spool : Sp
 boxes : List Bx
 lost : List Ls
 deriving DecidableEq
instance : Inhabited Hs := ⟨⟨default, default, default, default⟩⟩
def Af (a : Hs) : List T := [.v (.string a.conf.name), .sl 1 (a.conf.own.map AH), .sl 2 (a.conf.ways.map Bt), .v (.int .i64 a.spool.last), .sl 5 (a.spool.items.map As), .sl 3 (a.boxes.map BT), .sl 3 (a.lost.map An)]
def XK (x0 : ByteArray) (x3 : Int) : Option (List ByteArray) → Option (List Wy) → Option (List Im) → Option (List Bx) → Option (List Ls) → Option Hs
 | some x1, some x2, some x4, some x5, some x6 => some ⟨⟨x0, x1, x2⟩, ⟨x3, x4⟩, x5, x6⟩
 | _, _, _, _, _ => none
def kP : List T → Option Hs
 | [.v (.string x0), .sl 1 x1, .sl 2 x2, .v (.int .i64 x3), .sl 5 x4, .sl 3 x5, .sl 3 x6] => XK x0 x3 (Al.decL x1) (Lk.decL x2) (J6.decL x4) (X7.decL x5) (Iw.decL x6)
 | _ => none
def Gy : FN Hs where
 enc := Af
 dec := kP
 n := 7
 ed := fun a => by
  show XK a.conf.name a.spool.last (Al.decL (a.conf.own.map Al.enc)) (Lk.decL (a.conf.ways.map Lk.enc)) (J6.decL (a.spool.items.map J6.enc)) (X7.decL (a.boxes.map X7.enc)) (Iw.decL (a.lost.map Iw.enc)) = _
  rw [Al.decL_map, Lk.decL_map, J6.decL_map, X7.decL_map, Iw.decL_map]
  rfl
 de := fun c a h => by
  unfold kP at h
  split at h
  ·unfold XK at h
   split at h
   ·rename_i e0 e1 e2 e3 e4
    cases h
    rw [Al.decL_inv e0, Lk.decL_inv e1, J6.decL_inv e2, X7.decL_inv e3, Iw.decL_inv e4]; rfl
   ·cases h
  ·cases h
 len := fun _ => rfl
theorem Pe (a : Hs) : Af a = [.v (.string a.conf.name), .sl 1 (a.conf.own.map AH), .sl 2 (a.conf.ways.map Bt), .v (.int .i64 a.spool.last), .sl 5 (a.spool.items.map As), .sl 3 (a.boxes.map BT), .sl 3 (a.lost.map An)] := rfl
theorem Tq (xs : List Hs) (n : Int) (s : AS) (K : Kt) : E9 7 (xs.map Af) n s K = (0 ≤ n ∧ n < xs.length ∧ K (.t (.rop (Af (xs.getD n.toNat default)))) s) := Ba Af xs 7 n s K fun _ => rfl
theorem TJ {x0 : ByteArray} {x1 : List (List T)} {x2 : List (List T)} {x3 : Int} {x4 : List (List T)} {x5 : List (List T)} {x6 : List (List T)} : Gy.dec [.v (.string x0), .sl 1 x1, .sl 2 x2, .v (.int .i64 x3), .sl 5 x4, .sl 3 x5, .sl 3 x6] = XK x0 x3 (Al.decL x1) (Lk.decL x2) (J6.decL x4) (X7.decL x5) (Iw.decL x6) := rfl
theorem ZR (xs : List Hs) : Gy.decL (xs.map Af) = some xs := Gy.decL_map xs
theorem TK : Gy.enc = Af := rfl
theorem YF (a : Hs) : (⟨a.conf, a.spool, a.boxes, a.lost⟩ : Hs) = a := rfl
theorem LN (xs : List Hs) (i : Nat) (x0 : ByteArray) (x1 : List ByteArray) (x2 : List Wy) (x3 : Int) (x4 : List Im) (x5 : List Bx) (x6 : List Ls) : (xs.map Af).set i [.v (.string x0), .sl 1 (x1.map AH), .sl 2 (x2.map Bt), .v (.int .i64 x3), .sl 5 (x4.map As), .sl 3 (x5.map BT), .sl 3 (x6.map An)] = (xs.set i ⟨⟨x0, x1, x2⟩, ⟨x3, x4⟩, x5, x6⟩).map Af := J2 Af xs i ⟨⟨x0, x1, x2⟩, ⟨x3, x4⟩, x5, x6⟩ rfl
structure Ss where
 state : Int
 mail : Ml
 bad : Bool
 buf : ByteArray
 deriving DecidableEq
instance : Inhabited Ss := ⟨⟨default, default, default, default⟩⟩
def Es (a : Ss) : List T := [.v (.int .i64 a.state), .v (.string a.mail.frm.user), .v (.string a.mail.frm.domain), .sl 2 (a.mail.to.map Am), .sl 1 (a.mail.body.map AH), .v (.bool a.bad), .v (.string a.buf)]
def XO (x0 : Int) (x1 : ByteArray) (x2 : ByteArray) (x5 : Bool) (x6 : ByteArray) : Option (List Ad) → Option (List ByteArray) → Option Ss
 | some x3, some x4 => some ⟨x0, ⟨⟨x1, x2⟩, x3, x4⟩, x5, x6⟩
 | _, _ => none
def kY : List T → Option Ss
 | [.v (.int .i64 x0), .v (.string x1), .v (.string x2), .sl 2 x3, .sl 1 x4, .v (.bool x5), .v (.string x6)] => XO x0 x1 x2 x5 x6 (DY.decL x3) (Al.decL x4)
 | _ => none
def dQ : FN Ss where
 enc := Es
 dec := kY
 n := 7
 ed := fun a => by
  show XO a.state a.mail.frm.user a.mail.frm.domain a.bad a.buf (DY.decL (a.mail.to.map DY.enc)) (Al.decL (a.mail.body.map Al.enc)) = _
  rw [DY.decL_map, Al.decL_map]
  rfl
 de := fun c a h => by
  unfold kY at h
  split at h
  ·unfold XO at h
   split at h
   ·rename_i e0 e1
    cases h
    rw [DY.decL_inv e0, Al.decL_inv e1]; rfl
   ·cases h
  ·cases h
 len := fun _ => rfl
theorem Pk (a : Ss) : Es a = [.v (.int .i64 a.state), .v (.string a.mail.frm.user), .v (.string a.mail.frm.domain), .sl 2 (a.mail.to.map Am), .sl 1 (a.mail.body.map AH), .v (.bool a.bad), .v (.string a.buf)] := rfl
theorem TU {x0 : Int} {x1 : ByteArray} {x2 : ByteArray} {x3 : List (List T)} {x4 : List (List T)} {x5 : Bool} {x6 : ByteArray} : dQ.dec [.v (.int .i64 x0), .v (.string x1), .v (.string x2), .sl 2 x3, .sl 1 x4, .v (.bool x5), .v (.string x6)] = XO x0 x1 x2 x5 x6 (DY.decL x3) (Al.decL x4) := rfl
theorem TV : dQ.enc = Es := rfl
theorem YQ (a : Ss) : (⟨a.state, a.mail, a.bad, a.buf⟩ : Ss) = a := rfl
structure Cl where
 name : ByteArray
 mail : Ml
 state : Int
 pos : Int
 outs : List Int
 deriving DecidableEq
instance : Inhabited Cl := ⟨⟨default, default, default, default, default⟩⟩
def Dw (a : Cl) : List T := [.v (.string a.name), .v (.string a.mail.frm.user), .v (.string a.mail.frm.domain), .sl 2 (a.mail.to.map Am), .sl 1 (a.mail.body.map AH), .v (.int .i64 a.state), .v (.int .i64 a.pos), .sl 1 (a.outs.map Ao)]
def XH (x0 : ByteArray) (x1 : ByteArray) (x2 : ByteArray) (x5 : Int) (x6 : Int) : Option (List Ad) → Option (List ByteArray) → Option (List Int) → Option Cl
 | some x3, some x4, some x7 => some ⟨x0, ⟨⟨x1, x2⟩, x3, x4⟩, x5, x6, x7⟩
 | _, _, _ => none
def kM : List T → Option Cl
 | [.v (.string x0), .v (.string x1), .v (.string x2), .sl 2 x3, .sl 1 x4, .v (.int .i64 x5), .v (.int .i64 x6), .sl 1 x7] => XH x0 x1 x2 x5 x6 (DY.decL x3) (Al.decL x4) (EA.decL x7)
 | _ => none
def dO : FN Cl where
 enc := Dw
 dec := kM
 n := 8
 ed := fun a => by
  show XH a.name a.mail.frm.user a.mail.frm.domain a.state a.pos (DY.decL (a.mail.to.map DY.enc)) (Al.decL (a.mail.body.map Al.enc)) (EA.decL (a.outs.map EA.enc)) = _
  rw [DY.decL_map, Al.decL_map, EA.decL_map]
  rfl
 de := fun c a h => by
  unfold kM at h
  split at h
  ·unfold XH at h
   split at h
   ·rename_i e0 e1 e2
    cases h
    rw [DY.decL_inv e0, Al.decL_inv e1, EA.decL_inv e2]; rfl
   ·cases h
  ·cases h
 len := fun _ => rfl
theorem Pc (a : Cl) : Dw a = [.v (.string a.name), .v (.string a.mail.frm.user), .v (.string a.mail.frm.domain), .sl 2 (a.mail.to.map Am), .sl 1 (a.mail.body.map AH), .v (.int .i64 a.state), .v (.int .i64 a.pos), .sl 1 (a.outs.map Ao)] := rfl
theorem TD {x0 : ByteArray} {x1 : ByteArray} {x2 : ByteArray} {x3 : List (List T)} {x4 : List (List T)} {x5 : Int} {x6 : Int} {x7 : List (List T)} : dO.dec [.v (.string x0), .v (.string x1), .v (.string x2), .sl 2 x3, .sl 1 x4, .v (.int .i64 x5), .v (.int .i64 x6), .sl 1 x7] = XH x0 x1 x2 x5 x6 (DY.decL x3) (Al.decL x4) (EA.decL x7) := rfl
theorem TE : dO.enc = Dw := rfl
theorem X6 (a : Cl) : (⟨a.name, a.mail, a.state, a.pos, a.outs⟩ : Cl) = a := rfl
structure Ev where
 kind : Int
 host : Int
 to : Int
 id : Int
 cut : Int
 lose : Bool
 mail : Ml
 deriving DecidableEq
instance : Inhabited Ev := ⟨⟨default, default, default, default, default, default, default⟩⟩
def C7 (a : Ev) : List T := [.v (.int .i64 a.kind), .v (.int .i64 a.host), .v (.int .i64 a.to), .v (.int .i64 a.id), .v (.int .i64 a.cut), .v (.bool a.lose), .v (.string a.mail.frm.user), .v (.string a.mail.frm.domain), .sl 2 (a.mail.to.map Am), .sl 1 (a.mail.body.map AH)]
def XI (x0 : Int) (x1 : Int) (x2 : Int) (x3 : Int) (x4 : Int) (x5 : Bool) (x6 : ByteArray) (x7 : ByteArray) : Option (List Ad) → Option (List ByteArray) → Option Ev
 | some x8, some x9 => some ⟨x0, x1, x2, x3, x4, x5, ⟨⟨x6, x7⟩, x8, x9⟩⟩
 | _, _ => none
def kN : List T → Option Ev
 | [.v (.int .i64 x0), .v (.int .i64 x1), .v (.int .i64 x2), .v (.int .i64 x3), .v (.int .i64 x4), .v (.bool x5), .v (.string x6), .v (.string x7), .sl 2 x8, .sl 1 x9] => XI x0 x1 x2 x3 x4 x5 x6 x7 (DY.decL x8) (Al.decL x9)
 | _ => none
def OZ : FN Ev where
 enc := C7
 dec := kN
 n := 10
 ed := fun a => by
  show XI a.kind a.host a.to a.id a.cut a.lose a.mail.frm.user a.mail.frm.domain (DY.decL (a.mail.to.map DY.enc)) (Al.decL (a.mail.body.map Al.enc)) = _
  rw [DY.decL_map, Al.decL_map]
  rfl
 de := fun c a h => by
  unfold kN at h
  split at h
  ·unfold XI at h
   split at h
   ·rename_i e0 e1
    cases h
    rw [DY.decL_inv e0, Al.decL_inv e1]; rfl
   ·cases h
  ·cases h
 len := fun _ => rfl
theorem Pd (a : Ev) : C7 a = [.v (.int .i64 a.kind), .v (.int .i64 a.host), .v (.int .i64 a.to), .v (.int .i64 a.id), .v (.int .i64 a.cut), .v (.bool a.lose), .v (.string a.mail.frm.user), .v (.string a.mail.frm.domain), .sl 2 (a.mail.to.map Am), .sl 1 (a.mail.body.map AH)] := rfl
theorem To (xs : List Ev) (n : Int) (s : AS) (K : Kt) : E9 10 (xs.map C7) n s K = (0 ≤ n ∧ n < xs.length ∧ K (.t (.rop (C7 (xs.getD n.toNat default)))) s) := Ba C7 xs 10 n s K fun _ => rfl
theorem TF {x0 : Int} {x1 : Int} {x2 : Int} {x3 : Int} {x4 : Int} {x5 : Bool} {x6 : ByteArray} {x7 : ByteArray} {x8 : List (List T)} {x9 : List (List T)} : OZ.dec [.v (.int .i64 x0), .v (.int .i64 x1), .v (.int .i64 x2), .v (.int .i64 x3), .v (.int .i64 x4), .v (.bool x5), .v (.string x6), .v (.string x7), .sl 2 x8, .sl 1 x9] = XI x0 x1 x2 x3 x4 x5 x6 x7 (DY.decL x8) (Al.decL x9) := rfl
theorem ZP (xs : List Ev) : OZ.decL (xs.map C7) = some xs := OZ.decL_map xs
theorem TG : OZ.enc = C7 := rfl
theorem jh : OZ.n = 10 := rfl
theorem YB (a : Ev) : (⟨a.kind, a.host, a.to, a.id, a.cut, a.lose, a.mail⟩ : Ev) = a := rfl
structure Wd where
 hosts : List Hs
 now : Int
 marks : Int
 given : List Ls
 deriving DecidableEq
instance : Inhabited Wd := ⟨⟨default, default, default, default⟩⟩
def C8 (a : Wd) : List T := [.sl 7 (a.hosts.map Af), .v (.int .i64 a.now), .v (.int .i64 a.marks), .sl 3 (a.given.map An)]
def FV (x1 : Int) (x2 : Int) : Option (List Hs) → Option (List Ls) → Option Wd
 | some x0, some x3 => some ⟨x0, x1, x2, x3⟩
 | _, _ => none
def kZ : List T → Option Wd
 | [.sl 7 x0, .v (.int .i64 x1), .v (.int .i64 x2), .sl 3 x3] => FV x1 x2 (Gy.decL x0) (Iw.decL x3)
 | _ => none
def Qv : FN Wd where
 enc := C8
 dec := kZ
 n := 4
 ed := fun a => by
  show FV a.now a.marks (Gy.decL (a.hosts.map Gy.enc)) (Iw.decL (a.given.map Iw.enc)) = _
  rw [Gy.decL_map, Iw.decL_map]
  rfl
 de := fun c a h => by
  unfold kZ at h
  split at h
  ·unfold FV at h
   split at h
   ·rename_i e0 e1
    cases h
    rw [Gy.decL_inv e0, Iw.decL_inv e1]; rfl
   ·cases h
  ·cases h
 len := fun _ => rfl
theorem Pl (a : Wd) : C8 a = [.sl 7 (a.hosts.map Af), .v (.int .i64 a.now), .v (.int .i64 a.marks), .sl 3 (a.given.map An)] := rfl
theorem TW {x0 : List (List T)} {x1 : Int} {x2 : Int} {x3 : List (List T)} : Qv.dec [.sl 7 x0, .v (.int .i64 x1), .v (.int .i64 x2), .sl 3 x3] = FV x1 x2 (Gy.decL x0) (Iw.decL x3) := rfl
theorem TX : Qv.enc = C8 := rfl
theorem YR (a : Wd) : (⟨a.hosts, a.now, a.marks, a.given⟩ : Wd) = a := rfl
def SY (a : Ml) : AV := .agg [.t (.v (.string a.frm.user)), .t (.v (.string a.frm.domain)), .o true 2 (a.to.map Am), .o true 1 (a.body.map AH)]
theorem Vt (a : Ml) : SY a = .agg [.t (.v (.string a.frm.user)), .t (.v (.string a.frm.domain)), .o true 2 (a.to.map Am), .o true 1 (a.body.map AH)] := rfl
theorem K9 (a : Ml) : BY (SY a) := .agg _ fun c hc => by
 simp only [List.mem_cons, List.not_mem_nil, or_false] at hc
 rcases hc with rfl | rfl | rfl | rfl
 ·exact .v _
 ·exact .v _
 ·exact .deep _ _
 ·exact .deep _ _
def rx (a : Im) : AV := .agg [.t (.v (.int .i64 a.id)), .t (.v (.string a.frm.user)), .t (.v (.string a.frm.domain)), .o true 4 (a.to.map BN), .o true 1 (a.body.map AH)]
theorem Vs (a : Im) : rx a = .agg [.t (.v (.int .i64 a.id)), .t (.v (.string a.frm.user)), .t (.v (.string a.frm.domain)), .o true 4 (a.to.map BN), .o true 1 (a.body.map AH)] := rfl
theorem SX (a : Im) : BY (rx a) := .agg _ fun c hc => by
 simp only [List.mem_cons, List.not_mem_nil, or_false] at hc
 rcases hc with rfl | rfl | rfl | rfl | rfl
 ·exact .v _
 ·exact .v _
 ·exact .v _
 ·exact .deep _ _
 ·exact .deep _ _
def Xa (a : Sp) : AV := .agg [.t (.v (.int .i64 a.last)), .o true 5 (a.items.map As)]
theorem Vu (a : Sp) : Xa a = .agg [.t (.v (.int .i64 a.last)), .o true 5 (a.items.map As)] := rfl
theorem LA (a : Sp) : BY (Xa a) := .agg _ fun c hc => by
 simp only [List.mem_cons, List.not_mem_nil, or_false] at hc
 rcases hc with rfl | rfl
 ·exact .v _
 ·exact .deep _ _
def jE (a : Cf) : AV := .agg [.t (.v (.string a.name)), .o true 1 (a.own.map AH), .o true 2 (a.ways.map Bt)]
theorem Vq (a : Cf) : jE a = .agg [.t (.v (.string a.name)), .o true 1 (a.own.map AH), .o true 2 (a.ways.map Bt)] := rfl
theorem K7 (a : Cf) : BY (jE a) := .agg _ fun c hc => by
 simp only [List.mem_cons, List.not_mem_nil, or_false] at hc
 rcases hc with rfl | rfl | rfl
 ·exact .v _
 ·exact .deep _ _
 ·exact .deep _ _
def jF (a : Hs) : AV := .agg [.t (.v (.string a.conf.name)), .o true 1 (a.conf.own.map AH), .o true 2 (a.conf.ways.map Bt), .t (.v (.int .i64 a.spool.last)), .o true 5 (a.spool.items.map As), .o true 3 (a.boxes.map BT), .o true 3 (a.lost.map An)]
theorem Vr (a : Hs) : jF a = .agg [.t (.v (.string a.conf.name)), .o true 1 (a.conf.own.map AH), .o true 2 (a.conf.ways.map Bt), .t (.v (.int .i64 a.spool.last)), .o true 5 (a.spool.items.map As), .o true 3 (a.boxes.map BT), .o true 3 (a.lost.map An)] := rfl
theorem K8 (a : Hs) : BY (jF a) := .agg _ fun c hc => by
 simp only [List.mem_cons, List.not_mem_nil, or_false] at hc
 rcases hc with rfl | rfl | rfl | rfl | rfl | rfl | rfl
 ·exact .v _
 ·exact .deep _ _
 ·exact .deep _ _
 ·exact .v _
 ·exact .deep _ _
 ·exact .deep _ _
 ·exact .deep _ _
def rz (a : Wd) : AV := .agg [.o true 7 (a.hosts.map Af), .t (.v (.int .i64 a.now)), .t (.v (.int .i64 a.marks)), .o true 3 (a.given.map An)]
theorem N7 (a : Wd) : rz a = .agg [.o true 7 (a.hosts.map Af), .t (.v (.int .i64 a.now)), .t (.v (.int .i64 a.marks)), .o true 3 (a.given.map An)] := rfl
theorem SZ (a : Wd) : BY (rz a) := .agg _ fun c hc => by
 simp only [List.mem_cons, List.not_mem_nil, or_false] at hc
 rcases hc with rfl | rfl | rfl | rfl
 ·exact .deep _ _
 ·exact .v _
 ·exact .v _
 ·exact .deep _ _
end Go.V
namespace Go.V
open Go Go.Proofs
set_option maxRecDepth 100000
set_option linter.unusedSimpArgs false
set_option linter.unusedVariables false
theorem ai {a b : Prop} (x : a) (y : b) : a ∧ b := ⟨x, y⟩
theorem s1 {P G dp R k s t e b} (h1 : b = true → run P G dp R (.c t :: k) s) (h2 : b = false → run P G dp R (.c e :: k) s) : tr P G dp R t e k s b := Wi h1 h2
theorem s2 {s : AS} {x y : AV} {K : Kt} {b : Bool} (h1 : b = true → K x s) (h2 : b = false → K y s) : EX x y s K b := NI h1 h2
theorem s3 {P G dp R k s d all r op b want} (h1 : b = true → gB P G dp R d all r k s op true want) (h2 : b = false → gB P G dp R d all r k s op false want) : gB P G dp R d all r k s op b want := aR h1 h2
theorem s4 {P G dp all ns K i l acc s pre t d op b want} (h1 : b = true → Xr P G dp all ns K i l acc s pre t d op true want) (h2 : b = false → Xr P G dp all ns K i l acc s pre t d op false want) : Xr P G dp all ns K i l acc s pre t d op b want := Wa h1 h2
theorem tv : True := trivial
theorem tn (n : Nat) : Int.toNat (n : Int) = n := rfl
theorem lm {α β : Type} {xs : List α} (f : α → β) : (xs.map f).length = xs.length := List.length_map f
theorem OP {dp : Nat → Bool} {G : Gt} {f : FuncId} {fn : Func} {c : Code} {rs} {α : Type} {L : AL α} {pre : α → Prop} {r : α → AV} {kd n : Nat} (hb : fn.body = some c) (hr : fn.results = ⟨rs⟩) (hG : Ah G) (h : ∀ a, pre a → run Tryz.prog G dp (OO Tryz.prog rs (AU 900 0 (L.enc a) ⟨[], []⟩).avs (L.enc a) (r a)) [.c c] (s0 (L.enc a)))
    (hn : ∀ a, (L.enc a).length = n := by exact fun _ => rfl) (hf : Tryz.prog.funcs[f]? = some fn := by kernel_rfl) (hok : Nx fn c = true := by kernel_rfl) (hlen : n ≤ fn.ntmps := by exact Nat.le_of_ble_eq_true rfl) (ok : BB Tryz.prog f = true := by kernel_rfl) (hk : ¬ kd = 3 := by decide) (hs : kd = 0 → ∀ a, BY (r a) := by first | exact fun _ _ => .v _ | exact fun h => by cases h) : Gd G f (AA kd (Ar L pre r)) := gR hn hf hb hok hG hlen ok hk hs (by rw [hr]; exact h)
theorem gr {G : Gt} {f : FuncId} {fn : Func} {c : Code} {rs} {α : Type} {L : AL α} {pre : α → Prop} {r : α → AV} {kd n : Nat} (hb : fn.body = some c) (hr : fn.results = ⟨rs⟩) (hG : Ah G) (h : ∀ a, pre a → run Tryz.prog G (fun _ => true) (OO Tryz.prog rs (AU 900 0 (L.enc a) ⟨[], []⟩).avs (L.enc a) (r a)) [.c c] (s0 (L.enc a)))
    (hn : ∀ a, (L.enc a).length = n := by exact fun _ => rfl) (hf : Tryz.prog.funcs[f]? = some fn := by kernel_rfl) (hok : Nx fn c = true := by kernel_rfl) (hlen : n ≤ fn.ntmps := by exact Nat.le_of_ble_eq_true rfl) (ok : BB Tryz.prog f = true := by kernel_rfl) (hk : ¬ kd = 3 := by decide) (hs : kd = 0 → ∀ a, BY (r a) := by first | exact fun _ _ => .v _ | exact fun h => by cases h) : Gd G f (AA kd (Ar L pre r)) := gR hn hf hb hok hG hlen ok hk hs (by rw [hr]; exact h)
theorem JS {dp : Nat → Bool} {G : Gt} {f : FuncId} {fn : Func} {c : Code} {rs} {α : Type} {L : AL α} {pre : α → Prop} {r : α → List AV × AV} {n : Nat} (hb : fn.body = some c) (hr : fn.results = ⟨rs⟩) (hG : Ah G) (h : ∀ a, pre a → run Tryz.prog G dp (OO Tryz.prog rs (AU 900 0 (L.enc a) ⟨[], []⟩).avs (r a).1 (r a).2) [.c c] (s0 (L.enc a)))
    (hn : ∀ a, (L.enc a).length = n := by exact fun _ => rfl) (hf : Tryz.prog.funcs[f]? = some fn := by kernel_rfl) (hok : Nx fn c = true := by kernel_rfl) (hlen : n ≤ fn.ntmps := by exact Nat.le_of_ble_eq_true rfl) (ok : BB Tryz.prog f = true := by kernel_rfl) : Gd G f (AN (HB L pre r)) := gM hn hf hb hok hG hlen ok (by rw [hr]; exact h)
attribute [go_sem] EX.eq_1 EX.eq_2 I0.eq_1 On.eq_1 On.eq_2 Fb.eq_1 Fb.eq_2 Cp.eq_1 Cp.eq_2 Cp.eq_3 Cp.eq_4 Cp.eq_5 Co.eq_1 Co.eq_2 Co.eq_3 Co.eq_4 Co.eq_5 DT.eq_1 DT.eq_2 DT.eq_3 Gi.eq_1 Gi.eq_2 Ln.eq_1 Ln.eq_2 Ln.eq_3 dj.eq_1 dj.eq_2 sw.eq_1 aF.eq_1 aF.eq_2 dD.eq_1 Kl.eq_1 EJ.eq_1 EJ.eq_2 EJ.eq_3 EJ.eq_4 EJ.eq_5 HZ.eq_1 HZ.eq_2 BI.eq_1 BI.eq_2 BI.eq_3 Hp.eq_1 Fd.eq_1 Gz.eq_1 KO.eq_1 NJ.eq_1 NJ.eq_2 DU.eq_1 DU.eq_2 DU.eq_3 Lg.eq_1 Lg.eq_2 De.eq_1 De.eq_2 Fc.eq_1 EL.eq_1 EL.eq_2 dh.eq_1 dh.eq_2 BZ.eq_1 BZ.eq_2 CB.eq_1 He.eq_1 KK.eq_1 Dd.eq_1 Dd.eq_2 FB.eq_1 FA.eq_1 K3.eq_1 DG.eq_1 DG.eq_2 DH.eq_1 DH.eq_2 EY.eq_1 EY.eq_2 Cw.eq_1 Cw.eq_2 HG.eq_1 HY.eq_1 HY.eq_2 Ix.eq_1 Ix.eq_2 Lm.eq_1 Lm.eq_2 Lm.eq_3 Lm.eq_4 ND.eq_1 ND.eq_2 HX.eq_1 HX.eq_2 HX.eq_3 HX.eq_4 cz.eq_1 cz.eq_2 MC.eq_1 FO.eq_1 FO.eq_2 FO.eq_3 MD.eq_1 Fe.eq_1 Fe.eq_2 Fe.eq_3 GI.eq_1 GI.eq_2 GJ.eq_1 GJ.eq_2 Hb.eq_1 Hb.eq_2 XB.eq_1 Q9.eq_1 RA.eq_1 NC.eq_1 NC.eq_2 RB.eq_1 EI.eq_1 EI.eq_2 EI.eq_3 EI.eq_4 NE.eq_1 NE.eq_2 DL.eq_1 JN.eq_1 JN.eq_2 JN.eq_3 Cb.eq_1 Cb.eq_2 E8.eq_1 E8.eq_2 Ca.eq_1 Ca.eq_2 Ca.eq_3 Gg.eq_1 Gg.eq_2 cY.eq_1 AS.takeV.eq_1 AS.takeV.eq_2 AS.takeV.eq_3 AS.takeV.eq_4 AS.takeV.eq_5 AS.takeV.eq_6 AS.takeV.eq_7 AV.oldM.eq_1 AV.oldM.eq_2 AV.oldM.eq_3 AV.oldM.eq_4 AV.oldM.eq_5 AV.oldM.eq_6 AV.oldM.eq_7 AV.oldM.eq_8 AV.oldM.eq_9 AV.oldM.eq_10 AV.oldM.eq_11 AV.oldML.eq_1 AV.oldML.eq_2 subL.eq_1 subL.eq_2 Dg.eq_1 Dg.eq_2 Dg.eq_3 Dg.eq_4 C6.eq_1 BH.eq_1 BH.eq_2 BH.eq_3 BH.eq_4 By.eq_1 CA.eq_1 CA.eq_2 CA.eq_3 EH.eq_1 EH.eq_2 EH.eq_3 BG.eq_1 BG.eq_2 BG.eq_3 BG.eq_4 BG.eq_5 BG.eq_6 BG.eq_7 BG.eq_8 BG.eq_9 BG.eq_10 BG.eq_11 BG.eq_12 BG.eq_13 BG.eq_14 BG.eq_15 BG.eq_17 BG.eq_18 BG.eq_19 BG.eq_20 BG.eq_21 BG.eq_22 BG.eq_23 AS.ev.eq_1 AS.ev.eq_2 AS.ev.eq_3 AS.ev.eq_4 AS.evs.eq_1 AS.evs.eq_2 AS.evp.eq_1 AS.evp.eq_2 AS.put.eq_1 AS.put.eq_2 AS.remL.eq_1 AS.remL.eq_2 AV.has.eq_1 AV.has.eq_2 AV.has.eq_3 AV.has.eq_4 AV.has.eq_5 AV.has.eq_6 AV.has.eq_7 AV.has.eq_8 AV.has.eq_9 AV.has.eq_10 AV.has.eq_11 AV.hasL.eq_1 AV.hasL.eq_2 Ob.drop.eq_1 Ob.drop.eq_2 Ob.drop.eq_3 Ob.drop.eq_4 AV.cells.eq_1 AV.cells.eq_2 AV.cells.eq_3 AV.cells.eq_4 AV.cells.eq_5 AS.snapT.eq_1 AS.snapT.eq_2 AS.snapT.eq_3 AS.snapT.eq_4 AS.snapT.eq_5 AS.snapT.eq_6 AS.snapT.eq_7 AS.snap.eq_1 AS.snap.eq_2 BA.eq_1 BA.eq_2 AM.eq_1 AM.eq_2 AM.eq_3 AM.eq_4 AM.eq_5 AM.eq_6 AM.eq_7 AM.eq_8 AM.eq_9 AM.eq_10 AM.eq_11 AU.eq_1 AU.eq_2 IG.eq_1 IG.eq_2 AV.ids.eq_1 AV.ids.eq_2 AV.ids.eq_3 AV.ids.eq_4 AV.ids.eq_5 AV.ids.eq_6 AV.ids.eq_7 AV.ids.eq_8 AV.ids.eq_9 AV.ids.eq_10 AV.ids.eq_11 AV.idsL.eq_1 AV.idsL.eq_2 AV.sub.eq_1 AV.sub.eq_2 AV.sub.eq_3 AV.sub.eq_4 AV.sub.eq_5 AV.sub.eq_6 AV.sub.eq_7 AV.sub.eq_8 AV.sub.eq_9 AV.sub.eq_10 AV.sub.eq_11 AV.subL.eq_1 AV.subL.eq_2 AS.frzL.eq_1 AS.frzL.eq_2 AS.absT.eq_1 AS.absT.eq_2 AS.absT.eq_4 AS.absL.eq_1 AS.absL.eq_2 AS.absOk.eq_1 AS.absOkL.eq_1 AS.absOkL.eq_2 B7.eq_1 BV.eq_1 BV.eq_2 AS.appBase.eq_1 AS.appBase.eq_2 AS.appSrc.eq_1 CW.eq_1 CW.eq_2 CW.eq_3 CO.eq_1 CO.eq_2 c8.eq_1 c8.eq_2 DV.eq_1 Kd.agg.eq_1 Kd.agg.eq_2 Ih.eq_1 Ih.eq_2 Ih.eq_3 Ih.eq_4 Ih.eq_5 Ih.eq_6 Ih.eq_7 Ih.eq_8 zt.eq_1 xL.eq_1 xM.eq_1 Xg.eq_1 Xg.eq_2 cJ.eq_1 Vm.eq_1 K6.eq_1 K6.eq_2 K6.eq_3 Vn.eq_1 Vl.eq_1 QW.eq_1 QW.eq_2 Hh.eq_1 DS.eq_1 DS.eq_2 DS.eq_3 DS.eq_4 DS.eq_5 DS.eq_6 DS.eq_7 DS.eq_8 Da.eq_1 Da.eq_2 Cj.eq_1 Cj.eq_2 Cj.eq_3 Cj.eq_4 Cj.eq_5 Bv.eq_1 C1.eq_1 C1.eq_2 C1.eq_3 C1.eq_4 C1.eq_5 CN.eq_1 R4.eq_1 R4.eq_2 OO.eq_1 OO.eq_2 OO.eq_3 cellAV.eq_1 cellAV.eq_2 DX.eq_1 DX.eq_2 B4.eq_1 B4.eq_2 B4.eq_3 B4.eq_4 B4.eq_5 B4.eq_6 B4.eq_7 B4.eq_8 B4.eq_9 B4.eq_10 B4.eq_11 B4.eq_12 B4.eq_13 B4.eq_14 B4.eq_15 B4.eq_16 B4.eq_17 B4.eq_18 B4.eq_19 B4.eq_20 B4.eq_21 B4.eq_22 B4.eq_23 B4.eq_24 B4.eq_25 B4.eq_26 Bp.eq_1 Bp.eq_2 Bp.eq_3 Bp.eq_4 Bp.eq_5 AV.refs.eq_1 AV.refs.eq_2 AV.refs.eq_3 AV.refs.eq_4 AV.refs.eq_5 AV.refs.eq_6 AV.refs.eq_7 AV.refs.eq_8 AV.refs.eq_9 AV.refs.eq_10 AV.refs.eq_11 AV.refsL.eq_1 AV.refsL.eq_2 LH.eq_1 LH.eq_2 E0.eq_1 E0.eq_2 E0.eq_3 E0.eq_4 E0.eq_5 E0.eq_6 Mv.eq_1 Mv.eq_2 Wm.eq_1 Wm.eq_2 Gu.eq_1 Gu.eq_2 AV.hasM.eq_1 AV.hasM.eq_2 AV.hasM.eq_3 AV.hasM.eq_4 AV.hasM.eq_5 AV.hasM.eq_6 AV.hasM.eq_7 AV.hasM.eq_8 AV.hasM.eq_9 AV.hasM.eq_10 AV.hasM.eq_11 AV.hasML.eq_1 AV.hasML.eq_2 Ob.dropM.eq_1 Ob.dropM.eq_2 Ob.dropM.eq_3 Ob.dropM.eq_4 lV.eq_1 lV.eq_2 AS.purges.eq_1 AS.purges.eq_2 Kh.eq_1 Kh.eq_2 XQ.eq_1 XQ.eq_2 vn.eq_1 vn.eq_2 FS.eq_1 FS.eq_2 FP.eq_1 FP.eq_2 dE.eq_1 dE.eq_2 dF.eq_1 dF.eq_2 AS.mvs.eq_1 AS.mvs.eq_2 AS.mvA.eq_1 AS.mvA.eq_2 AS.mvB.eq_1 MF.eq_1 MF.eq_2 js.eq_1 js.eq_2 Yi.eq_1 Gh.eq_1 Gh.eq_2 jz.eq_1 Hc.eq_1 Hc.eq_2 KN.eq_1 Hd.eq_1 Hd.eq_2 I3.eq_1 DB.eq_1 Tx.eq_1 Gj.eq_1 Gj.eq_2 Gj.eq_3 ME.eq_1 ME.eq_2 Iy.eq_1 Iy.eq_2 Ov.eq_1 pi.eq_1 pi.eq_2 pi.eq_3 xI.eq_1 EW.eq_1 EW.eq_2 Xi.eq_1 Gv.eq_1 Gv.eq_2 Gv.eq_3 iu.eq_1 iu.eq_2 iu.eq_3 RH.eq_1 RG.eq_1 RF.eq_1 Ha.eq_1 NF.eq_1 NF.eq_2 RE.eq_1 RD.eq_1 EK.eq_1 IN.eq_1 MB.eq_1 ur.eq_1 ur.eq_2 Xx.eq_1 Xx.eq_2 Xx.eq_3 Xx.eq_4 FH.eq_1 FH.eq_2 FH.eq_3 FH.eq_4 P5.eq_1 P5.eq_2 vB.eq_1 vB.eq_2 HI.eq_1 HI.eq_2 Xy.eq_1 Xy.eq_2 Xy.eq_3 Xy.eq_4 Xy.eq_5 AS.lkO.eq_1 AS.lkO.eq_2 AS.lkOf.eq_1 H1.eq_1 H1.eq_2 H1.eq_3 H1.eq_4 H1.eq_5 H1.eq_6 Bg.eq_1 Bg.eq_2 Bg.eq_3 Bg.eq_4 Bg.eq_5 Bg.eq_6 Bg.eq_7 Bg.eq_8 Bg.eq_9 Bg.eq_10 Bg.eq_11 YV.eq_1 YV.eq_2 mh.eq_1 mh.eq_2 KL.eq_1 Cz.eq_1 Cz.eq_2 FI.eq_1 FI.eq_2 FI.eq_3 FI.eq_4 P6.eq_1 P6.eq_2 vC.eq_1 vC.eq_2 Mg.eq_1 Mg.eq_2 mi.eq_1 lu lw Qj V1 Qg j9 j8 j7 Mw Qh V0 LL Qe cE Vx cD Vw cF Vy kq kp lx cH Vz um uo k9 k6 k8 k7 lr kv KI Iz di Tj F9 Sr gv gd s0 Aq B5 FS aQ aP PW drop_nil Z4 Z3 Uq Uo PV PX Un FP VC cP b6 re_eq up_eq aS ld Ob.drop w6 yK DI AS.frz splice cond_true cond_false List.map_cons List.map_nil List.drop_zero List.drop_succ_cons List.drop_nil List.take_zero List.take_succ_cons List.take_nil List.getElem?_cons_zero List.getElem?_cons_succ List.getElem?_nil List.length_cons List.length_nil Option.map_some Option.map_none Option.bind_some Option.bind_none List.cons_append List.nil_append List.append_nil Option.getD_some Option.getD_none List.all_cons List.all_nil Bool.and_true Bool.true_and Bool.or_false Bool.false_or Bool.or_true Bool.true_or List.flatten_cons List.flatten_nil List.replicate_succ List.replicate_zero and_true true_and Yo Yn O1 T3 T4 MI O7 UK UL MJ O5 O6 cw cx MR Ua UZ cR cQ WH WG V2 bm Vk QU QV Vp Vo bn QX QY Mp Mr ne_eq not_false_eq_true not_true_eq_false List.nodup_nil List.not_mem_nil false_implies implies_true eq_self true_or or_true Option.some.injEq V3 WE WA WC WD V4 WF V5 WB V9 V8 V7 V6 O4 Ux I4 Nat.le_refl Mm lm ct cr PU Qc I7 K1 LF JE Mi P8 tk tj tl tp tq tm Ms LE HF rR List.any_cons List.any_nil Yc T2 Ya Ea Mn NW Op.operands Call.operands JV jv xY T1 Se Sk List.append_eq lW lX lR lS lT kD kE kF U8 U9 VA Hl AS.mv fits KM IL Fw Np UH Yj Yk Py Pv Pw jy Oo UP lC U1 Tz MG decide_true decide_false Array.toList_append Uc Ud Ue Uf Yx O9 MM UO ML KU AS.mvJ QF cB cC bB Option.isSome_some Option.isSome_none bK Oz O0 ju jw jx YZ YW YY YX Ye ij.eq_1 XC.eq_1 XC.eq_2 Ly.eq_1 Ly.eq_2 Ly.eq_3 Ly.eq_4 vW vX T0 yw yx yy yz wX wY wZ wa wb wc wd we wg wh wi wj wk wl wm wn wo wq wr wt mK mL mM mN Bw co mO mP mQ mR mS mT mU DR dE dF AS.mvs MW Ou J8 Ul PI Oc X9 MV Ot J7 Uj PH Oa X8 OY VH ar ao UJ Yg UG OV OX S3 OU OW S2 UI Yf UF Il.eq_1 aq VF mV.eq_1 K0.eq_1 M0.eq_1 HP Nr Rg ZJ lp lq lP lQ Hk Tl S6 ZM Ui S7 jf ax X1 S4 Ph Tt TO TP a9 YJ XM.eq_1 Vt Pi Tu TQ ZV TR jk SH YK Jj Pf Tr TL ZS TM a8 YG XL.eq_1 Vs Pj TS TT YP XN.eq_1 Vu Pm Tv TY ZX TZ jl SI YS Jk Pb Tn TB ZO TC jg X5 XG.eq_1 Vq Km Tp TH ZQ TI ji az YC XJ.eq_1 Pa Tm S8 ZN S9 ay X4 XF.eq_1 Pg Ts ZU Uk TN jj SG Ji Pe Tq TJ ZR TK YF XK.eq_1 Vr Pk TU TV YQ XO.eq_1 Pc TD TE X6 XH.eq_1 Pd To TF ZP TG jh YB XI.eq_1 Pl TW TX YR FV.eq_1 N7
def Bj (b : ByteArray) : Prop := b.size ≤ 1048576
def HN {α : Type} (p : α → Prop) (xs : List α) : Prop := (xs.length : Int) ≤ 1048576 ∧ ∀ x ∈ xs, p x
theorem HN.at {α : Type} [Inhabited α] {p : α → Prop} {xs : List α} (h : HN p xs) {i : Nat} (hi : i < xs.length) : p (xs.getD i default) := h.2 _ (by simp [hi])
def HT (a : Ad) : Prop := Bj a.user ∧ Bj a.domain
def KB (a : Ml) : Prop := HT a.frm ∧ HN HT a.to ∧ HN Bj a.body
def xR (a : Rc) : Prop := HT a.addr
def GX (a : Im) : Prop := HT a.frm ∧ HN xR a.to ∧ HN Bj a.body
def E7 (a : Sp) : Prop := HN GX a.items
def xS (a : Wy) : Prop := Bj a.ends ∧ Bj a.to
def M8 (a : Cf) : Prop := Bj a.name ∧ HN Bj a.own ∧ HN xS a.ways
def xQ (a : Gm) : Prop := HT a.frm ∧ HN Bj a.body
def xP (a : Bx) : Prop := HT a.addr ∧ HN xQ a.mails
def WV (a : Ls) : Prop := Bj a.mark ∧ HT a.addr
def HU (a : Hs) : Prop := M8 a.conf ∧ E7 a.spool ∧ HN xP a.boxes ∧ HN WV a.lost
def GY (a : Wd) : Prop := HN HU a.hosts ∧ HN WV a.given
def bl (s : ByteArray) : List UInt8 := s.data.toList
def mB (l : List UInt8) : ByteArray := ⟨l.toArray⟩
theorem Yy (l : List UInt8) : bl (mB l) = l := rfl
theorem VR (s : ByteArray) : mB (bl s) = s := rfl
theorem CP (s : ByteArray) : (bl s).length = s.size := rfl
theorem CJ (s : ByteArray) (i : Nat) : AF s i = (((bl s).getD i 0).toNat : Int) := rfl
theorem G4 {s t : ByteArray} (h : bl s = bl t) : s = t := by
 rw [← VR s, ← VR t, h]
theorem Dt (s : ByteArray) (i j : Nat) : bl (s.extract i j) = ((bl s).drop i).take (j - i) := by
 unfold bl
 rw [ByteArray.data_extract, Array.toList_extract]
theorem HD (s : ByteArray) (i j : Nat) : s.extract i j = mB (((bl s).drop i).take (j - i)) := G4 (by rw [Dt, Yy])
theorem A9 (s : ByteArray) (i : Nat) : 0 ≤ AF s i ∧ AF s i ≤ 255 := by
 rw [CJ]
 have := ((bl s).getD i 0).toNat_lt
 omega
def Kr (n : Int) : Prop := (97 ≤ n ∧ n ≤ 122) ∨ (48 ≤ n ∧ n ≤ 57)
def Td (s : ByteArray) : Prop := (∀ j, j < s.size → Kr (AF s j)) ∧ 1 ≤ s.size ∧ s.size ≤ 8
def IH (s : ByteArray) : Prop := (∀ j, j < s.size → 32 ≤ AF s j ∧ AF s j ≤ 126) ∧ s.size ≤ 40
def At (c : UInt8) : Nat → List UInt8 → List (List UInt8)
 | 0, l => [l]
 | _ + 1, [] => [[]]
 | m + 1, x :: r => if x = c then [] :: At c m r else match At c (m + 1) r with | h :: t => (x :: h) :: t | [] => [[x]]
def LD (p : List UInt8) : List (List UInt8) → List (List UInt8)
 | h :: t => (p ++ h) :: t
 | [] => [p]
theorem Qb : ∀ (l : List (List UInt8)), l ≠ [] → LD [] l = l
 | h :: t, _ => rfl
 | [], h => absurd rfl h
theorem Is (c : UInt8) : ∀ (m : Nat) (l : List UInt8), At c m l ≠ []
 | 0, l => by simp [At]
 | m + 1, [] => by simp [At]
 | m + 1, x :: r => by
   unfold At
   split
   ·try simp
   ·split <;> simp
theorem Sq (c : UInt8) (m : Nat) (r : List UInt8) (p : List UInt8) : LD p (At c (m + 1) (c :: r)) = p :: At c m r := by
 simp [At, LD]
theorem Qo {c x : UInt8} (h : x ≠ c) (m : Nat) (r : List UInt8) (p : List UInt8) : LD p (At c (m + 1) (x :: r)) = LD (p ++ [x]) (At c (m + 1) r) := by
 cases h1 : At c (m + 1) r with
 | nil => exact absurd h1 (Is c (m + 1) r)
 | cons a t => simp only [At, if_neg h, h1, LD, List.append_assoc, List.singleton_append]
theorem cU (c : UInt8) (l : List UInt8) (p : List UInt8) : LD p (At c 0 l) = [p ++ l] := by simp [At, LD]
theorem So (c : UInt8) (m : Nat) (p : List UInt8) : LD p (At c m []) = [p] := by
 cases m <;> simp [At, LD]
def C4 (s : ByteArray) (c : UInt8) (m : Nat) : List ByteArray := (At c m (bl s)).map mB
def JP : Ct := Ar (lc BK (lc BK (lc BK l0))) (fun p => True) (fun p => .t (.v (.bool (BW (p.2.1 ≤ p.1 ∧ p.1 ≤ p.2.2.1)))))
theorem qm {G : Gt} (hG : Ah G) : Gd G 69 (AA 0 JP) := by
 refine gr (fn := Tryz.f69) (n := 3) rfl rfl hG ?_
 rintro ⟨n, lo, hi, ⟨⟩⟩ hpre
 simp -implicitDefEqProofs only [Tryz.f69, go_sem, seval] at hpre ⊢
 with_reducible repeat' (first | apply ai | intro _ | ((first | apply s1 | apply s3 | apply s4) <;> intro hb <;> simp -implicitDefEqProofs only [hb, go_sem, seval] <;> try simp only [qz] at hb))
 all_goals first
  | (rw [AQ (by omega)]; done)
  | (rw [Bl]; simp [*]; done)
  | skip
def t9 : Ct := Ar (lc Ax l0) (fun p => True) (fun p => .t (.v (.bool (BW (Td p.1)))))
section
attribute [local go_sem] JP
theorem rC {G : Gt} (hG : Ah G) (hh : G.e 69 = AA 0 JP) : Gd G 89 (AA 0 t9) := by
 refine gr (fn := Tryz.f89) (n := 1) rfl rfl hG ?_
 rintro ⟨s, ⟨⟩⟩ hpre
 simp -implicitDefEqProofs only [Tryz.f89, go_sem, hh, seval] at hpre ⊢
 refine AE [] (ι := {i : Nat // i ≤ s.size ∧ ∀ j, j < i → Kr (AF s j)}) (fun p => ⟨[(0, .t (.v (.string s))), (3, .t (.v (.int .i64 p.1)))], []⟩) (fun p => s.size - p.1) ⟨0, by simp, by simp⟩ rfl ?_ ?_
 ·simp -implicitDefEqProofs only [go_sem, hh, seval]
  try simp
 ·rintro ⟨i, hi, hall⟩
  simp -implicitDefEqProofs only [go_sem, hh, seval]
  with_reducible repeat' (first | apply ai | intro _ | ((first | apply s1 | apply s3 | apply s4) <;> intro hb <;> simp -implicitDefEqProofs only [hb, go_sem, hh, seval] <;> try simp only [qz] at hb))
  all_goals (try simp only [maxLen, tn] at *)
  all_goals (try have hbr := A9 s i)
  all_goals first | rfl | omega | skip
  all_goals first
   | (rw [AQ (fun hq => by have hq1 := hq.1 i (by omega); simp only [Kr] at *; omega)]; done)
   | (refine ⟨⟨i + 1, by omega, fun j hj => ?_⟩, by dsimp only; omega, ?_⟩
      ·by_cases e : j = i
       ·subst e; simp only [Kr] at *; omega
       ·exact hall j (by omega)
      ·simp -implicitDefEqProofs only [go_sem, hh, seval]
       simp)
   | skip
  ·rw [Ab]
   exact ⟨fun h => ⟨fun j hj => hall j (by omega), by omega⟩, fun h => by have := h.2; omega⟩
end
def RT : Ct := Ar (lc Ax l0) (fun p => True) (fun p => .t (.v (.bool (BW (IH p.1)))))
theorem fO {G : Gt} (hG : Ah G) : Gd G 108 (AA 0 RT) := by
 refine gr (fn := Tryz.f108) (n := 1) rfl rfl hG ?_
 rintro ⟨s, ⟨⟩⟩ hpre
 simp -implicitDefEqProofs only [Tryz.f108, go_sem, seval] at hpre ⊢
 refine AE [] (ι := {i : Nat // i ≤ s.size ∧ ∀ j, j < i → 32 ≤ AF s j ∧ AF s j ≤ 126}) (fun p => ⟨[(0, .t (.v (.string s))), (3, .t (.v (.int .i64 p.1)))], []⟩) (fun p => s.size - p.1) ⟨0, by simp, by simp⟩ rfl ?_ ?_
 ·simp -implicitDefEqProofs only [go_sem, seval]
  try simp
 ·rintro ⟨i, hi, hall⟩
  simp -implicitDefEqProofs only [go_sem, seval]
  with_reducible repeat' (first | apply ai | intro _ | ((first | apply s1 | apply s3 | apply s4) <;> intro hb <;> simp -implicitDefEqProofs only [hb, go_sem, seval] <;> try simp only [qz] at hb))
  all_goals (try simp only [maxLen, tn] at *)
  all_goals (try have hbr := A9 s i)
  all_goals first | rfl | omega | skip
  all_goals first
   | (rw [AQ (fun hq => by have hq1 := hq.1 i (by omega); skip; omega)]; done)
   | (refine ⟨⟨i + 1, by omega, fun j hj => ?_⟩, by dsimp only; omega, ?_⟩
      ·by_cases e : j = i
       ·subst e; skip; omega
       ·exact hall j (by omega)
      ·simp -implicitDefEqProofs only [go_sem, seval]
       simp)
   | skip
  ·rw [← Bl, Ab]
   exact ⟨fun h => ⟨fun j hj => hall j (by omega), by omega⟩, fun h => by have := h.2; omega⟩
structure DJ (s : ByteArray) (c : UInt8) (m : Nat) where
 i : Nat
 fr : Nat
 o : List (List UInt8)
 hi : i ≤ s.size
 hf : fr ≤ i
 ho : o.length ≤ m
 h : o ++ LD (((bl s).drop fr).take (i - fr)) (At c (m - o.length) ((bl s).drop i)) = At c m (bl s)
theorem Xk {l : List UInt8} {fr i : Nat} (hf : fr ≤ i) (hi : i < l.length) : (l.drop fr).take (i + 1 - fr) = (l.drop fr).take (i - fr) ++ [l.getD i 0] := by
 have e : i + 1 - fr = (i - fr) + 1 := by omega
 rw [e, List.take_add_one]
 have : (l.drop fr)[i - fr]? = some (l.getD i 0) := by
  rw [List.getElem?_drop]
  have : fr + (i - fr) = i := by omega
  rw [this]
  simp [hi]
 rw [this]; rfl
def DJ.start (s : ByteArray) (c : UInt8) (m : Nat) : DJ s c m := ⟨0, 0, [], Nat.zero_le _, Nat.le_refl _, Nat.zero_le _, by
 simp only [Nat.sub_self, List.take_zero, List.nil_append, List.length_nil, Nat.sub_zero, List.drop_zero]
 exact Qb _ (Is c m _)⟩
theorem GL {s : ByteArray} {i : Nat} (h : i < s.size) : (bl s).drop i = (bl s).getD i 0 :: (bl s).drop (i + 1) := by
 have h' : i < (bl s).length := h
 rw [List.drop_eq_getElem_cons h']
 simp [h']
def DJ.hit {s : ByteArray} {c : UInt8} {m : Nat} (z : DJ s c m) (h1 : z.i < s.size) (h2 : z.o.length < m) (h3 : (bl s).getD z.i 0 = c) : DJ s c m :=
 ⟨z.i + 1, z.i + 1, z.o ++ [((bl s).drop z.fr).take (z.i - z.fr)], h1, Nat.le_refl _, by simp; omega, by
   have h := z.h
   obtain ⟨k, hk⟩ : ∃ k, m - z.o.length = k + 1 := ⟨m - z.o.length - 1, by omega⟩
   rw [hk, GL h1, h3, Sq] at h
   have e : m - (z.o ++ [((bl s).drop z.fr).take (z.i - z.fr)]).length = k := by simp; omega
   rw [e, Nat.sub_self, List.take_zero, Qb _ (Is _ _ _), List.append_assoc, List.singleton_append]
   exact h⟩
def DJ.miss {s : ByteArray} {c : UInt8} {m : Nat} (z : DJ s c m) (h1 : z.i < s.size) (h2 : z.o.length < m) (h3 : (bl s).getD z.i 0 ≠ c) : DJ s c m :=
 ⟨z.i + 1, z.fr, z.o, h1, Nat.le_succ_of_le z.hf, z.ho, by
   have h := z.h
   obtain ⟨k, hk⟩ : ∃ k, m - z.o.length = k + 1 := ⟨m - z.o.length - 1, by omega⟩
   rw [hk, GL h1, Qo h3] at h
   rw [hk, Xk (l := bl s) z.hf (by rw [CP]; exact h1)]
   exact h⟩
theorem DJ.done {s : ByteArray} {c : UInt8} {m : Nat} (z : DJ s c m) (h : ¬ z.i < s.size ∨ ¬ z.o.length < m) : z.o.map mB ++ [s.extract z.fr s.size] = C4 s c m := by
 have hz := z.h
 have e0 : s.extract z.fr s.size = mB ((bl s).drop z.fr) := by
  rw [HD]
  congr 1
  rw [List.take_of_length_le (by rw [List.length_drop, CP]; exact Nat.le_refl _)]
 unfold C4
 rw [← hz, List.map_append, e0]
 congr 1
 rcases h with h | h
 ·have hi := z.hi
  have e : (bl s).drop z.i = [] := List.drop_of_length_le (by rw [CP]; omega)
  rw [e, So]
  have : ((bl s).drop z.fr).take (z.i - z.fr) = (bl s).drop z.fr := List.take_of_length_le (by rw [List.length_drop, CP]; omega)
  rw [this]; rfl
 ·have hk : m - z.o.length = 0 := by omega
  rw [hk, cU]
  have hf := z.hf
  have : ((bl s).drop z.fr).take (z.i - z.fr) ++ (bl s).drop z.i = (bl s).drop z.fr := by
   have e : (bl s).drop z.i = ((bl s).drop z.fr).drop (z.i - z.fr) := by rw [List.drop_drop]; congr 1; omega
   rw [e, List.take_append_drop]
  rw [this]; rfl
theorem fA (s : ByteArray) (z : List (List UInt8)) (fr i : Nat) : z.map mB ++ [s.extract fr i] = (z ++ [((bl s).drop fr).take (i - fr)]).map mB := by
 rw [HD, List.map_append]; rfl
theorem NM (l : List ByteArray) (x : ByteArray) : l.map AH ++ [[T.v (.string x)]] = (l ++ [x]).map AH := by simp [AH]
theorem mm (s : ByteArray) (z : List (List UInt8)) (fr i : Nat) : (z.map mB).map AH ++ [[T.v (.string (s.extract fr i))]] = ((z ++ [((bl s).drop fr).take (i - fr)]).map mB).map AH := by
 rw [NM, fA]
theorem GH {s : ByteArray} {i : Nat} {c : UInt8} : AF s i = (c.toNat : Int) ↔ (bl s).getD i 0 = c := by
 rw [CJ]
 constructor
 ·intro h
  have : ((bl s).getD i 0).toNat = c.toNat := by omega
  exact UInt8.toNat_inj.1 this
 ·intro h; rw [h]
def t8 : Ct := Ar (lc Ax (lc mX (lc BK l0))) (fun p => 0 ≤ p.2.1 ∧ p.2.1 ≤ 255 ∧ 0 ≤ p.2.2.1 ∧ p.2.2.1 ≤ 1000) (fun p => .o true 1 ((C4 p.1 (UInt8.ofNat p.2.1.toNat) p.2.2.1.toNat).map AH))
section
attribute [local go_sem] lm List.map_nil List.length_nil
theorem rB {G : Gt} (hG : Ah G) : Gd G 88 (AA 0 t8) := by
 refine gr (fn := Tryz.f88) (n := 3) rfl rfl hG ?_ (hs := fun _ p => .deep _ _)
 rintro ⟨s, c, m, ⟨⟩⟩ hpre
 simp -implicitDefEqProofs only [Tryz.f88, go_sem, seval] at hpre ⊢
 obtain ⟨c, rfl⟩ : ∃ b : UInt8, c = (b.toNat : Int) := ⟨UInt8.ofNat c.toNat, by simp; omega⟩
 obtain ⟨m, rfl⟩ : ∃ n : Nat, m = (n : Int) := ⟨m.toNat, by omega⟩
 with_reducible repeat' (first | apply ai | intro _ | ((first | apply s1 | apply s3 | apply s4) <;> intro hb <;> simp -implicitDefEqProofs only [hb, go_sem, seval] <;> try simp only [qz] at hb))
 all_goals first | rfl | omega | skip
 refine AE [(7, 1901, true, 1)] (ι := DJ s c m) (fun z => ⟨[(0, .t (.v (.string s))), (1, .t (.v (.int .u8 c.toNat))), (2, .t (.v (.int .i64 m))), (7, .h 1901), (8, .t (.v (.int .i64 z.fr))), (9, .t (.v (.int .i64 z.i)))], [(1901, some (.arr true 1 ((z.o.map mB).map AH)))]⟩) (fun z => s.size - z.i) (DJ.start s c m) rfl ?_ ?_
 ·simp -implicitDefEqProofs only [go_sem, seval]
  simp [DJ.start]
 ·intro z
  have h1 := z.hi
  have h2 := z.hf
  have h3 := z.ho
  simp -implicitDefEqProofs only [go_sem, seval]
  with_reducible repeat' (first | apply ai | intro _ | ((first | apply s1 | apply s3 | apply s4) <;> intro hb <;> simp -implicitDefEqProofs only [hb, go_sem, seval] <;> try simp only [qz] at hb))
  all_goals (try simp only [maxLen, tn, lm] at *)
  all_goals first | rfl | omega | (simp_all; done) | skip
  ·refine ⟨z.hit (by omega) (by omega) (GH.1 hb), by simp only [DJ.hit]; omega, ?_⟩
   rw [mm]
   simp -implicitDefEqProofs only [go_sem, seval]
   simp [DJ.hit]
  ·refine ⟨z.miss (by omega) (by omega) (fun e => hb (GH.2 e)), by simp only [DJ.miss]; omega, ?_⟩
   simp -implicitDefEqProofs only [go_sem, seval]
   simp [DJ.miss]
  ·rw [NM, z.done (.inr (by omega)), UInt8.ofNat_toNat]
  ·rw [NM, z.done (.inl (by omega)), UInt8.ofNat_toNat]
end
def D9 (s : ByteArray) : Prop := (∀ w ∈ C4 s 46 3, Td w) ∧ (C4 s 46 3).length ≤ 3
def BS (a : Ad) : Prop := Td a.user ∧ D9 a.domain
def Ac (a : Ad) : Prop := a.user = ⟨#[]⟩ ∧ a.domain = ⟨#[]⟩
def Ck (b : List ByteArray) : Prop := (∀ s ∈ b, IH s) ∧ b.length ≤ 12
def DK (m : Ml) : Prop := (∀ a ∈ m.to, BS a) ∧ m.to.Nodup ∧ (BS m.frm ∨ Ac m.frm) ∧ (1 ≤ m.to.length ∧ m.to.length ≤ 4) ∧ Ck m.body
def dR (s e : ByteArray) : Prop := s = e ∨ (e.size < s.size ∧ s.extract (s.size - e.size) s.size = e ∧ AF s (s.size - e.size - 1) = 46)
theorem BF {α : Type} [Inhabited α] {xs : List α} {P : α → Prop} (h : ∀ j, j < xs.length → P (xs.getD j default)) : ∀ x ∈ xs, P x := fun x hx => by
 obtain ⟨j, hj, rfl⟩ := List.getElem_of_mem hx
 have := h j hj
 simpa [hj] using this
theorem AC {α : Type} [Inhabited α] {xs : List α} {j : Nat} (h : j < xs.length) : xs.getD j default ∈ xs := by
 simp [h]
theorem bL {α : Type} [Inhabited α] {xs : List α} (h : ∀ j, j < xs.length → ∀ k, k < j → ¬ xs.getD k default = xs.getD j default) : xs.Nodup := by
 rw [List.nodup_iff_pairwise_ne, List.pairwise_iff_getElem]
 intro k j hk hj hkj
 have := h j hj k hkj
 simpa [hk, hj] using this
theorem ra {a b : Ad} (h : (false != (decide (a.user = b.user) && decide (a.domain = b.domain))) = false) : ¬ a = b := fun e => by
 subst e; simp at h
theorem DM {α : Type} [Inhabited α] {xs : List α} {P : α → Prop} {i : Nat} (hall : ∀ j, j < i → P (xs.getD j default)) (h : P (xs.getD i default)) : ∀ j, j < i + 1 → P (xs.getD j default) := fun j hj => by
 by_cases e : j = i
 ·subst e; exact h
 ·exact hall j (by omega)
def dA : Ct := Ar (lc Ax l0) (fun p => True) (fun p => .t (.v (.bool (BW (D9 p.1)))))
section
attribute [local go_sem] t8 t9 AT lm
theorem qJ {G : Gt} (hG : Ah G) (hh : G.e 88 = AA 0 t8 ∧ G.e 89 = AA 0 t9) : Gd G 40 (AA 0 dA) := by
 refine gr (fn := Tryz.f40) (n := 1) rfl rfl hG ?_
 rintro ⟨s, ⟨⟩⟩ hpre
 simp -implicitDefEqProofs only [Tryz.f40, go_sem, hh, seval] at hpre ⊢
 with_reducible repeat' (first | apply ai | intro _ | ((first | apply s1 | apply s3 | apply s4) <;> intro hb <;> simp -implicitDefEqProofs only [hb, go_sem, hh, seval] <;> try simp only [qz] at hb))
 all_goals first | rfl | omega | skip
 have e46 : UInt8.ofNat (46 : Int).toNat = 46 := rfl
 have e3 : (3 : Int).toNat = 3 := rfl
 rw [e46, e3] at *
 refine AE [] (ι := {i : Nat // i ≤ (C4 s 46 3).length ∧ ∀ j, j < i → Td ((C4 s 46 3).getD j default)}) (fun p => ⟨[(3, .h 1006), (4, .t (.v (.int .i64 p.1)))], [(1006, some (.arr true 1 ((C4 s 46 3).map AH)))]⟩) (fun p => (C4 s 46 3).length - p.1) ⟨0, by simp, by simp⟩ rfl ?_ ?_
 ·simp -implicitDefEqProofs only [go_sem, hh, seval]
  try simp
 ·rintro ⟨i, hi, hall⟩
  simp -implicitDefEqProofs only [go_sem, hh, seval]
  with_reducible repeat' (first | apply ai | intro _ | ((first | apply s1 | apply s3 | apply s4) <;> intro hb <;> simp -implicitDefEqProofs only [hb, go_sem, hh, seval] <;> try simp only [qz] at hb))
  all_goals (try simp only [maxLen, tn, lm] at *)
  all_goals first | rfl | omega | skip
  ·rw [AQ (fun h => hb (h.1 _ (AC (by omega))))]
  ·refine ⟨⟨i + 1, by omega, DM hall hb⟩, by dsimp only; omega, ?_⟩
   simp -implicitDefEqProofs only [go_sem, hh, seval]
   try simp
  ·rw [← Bl, Ab]
   exact ⟨fun h => ⟨BF fun j hj => hall j (by omega), by omega⟩, fun h => by have := h.2; omega⟩
end
def IU : Ct := Ar (lc DY.ag l0) (fun p => True) (fun p => .t (.v (.bool (BW (BS p.1)))))
section
attribute [local go_sem] t9 dA
theorem fM {G : Gt} (hG : Ah G) (hh : G.e 89 = AA 0 t9 ∧ G.e 40 = AA 0 dA) : Gd G 106 (AA 0 IU) := by
 refine gr (fn := Tryz.f106) (n := 1) rfl rfl hG ?_
 rintro ⟨a, ⟨⟩⟩ hpre
 simp -implicitDefEqProofs only [Tryz.f106, go_sem, hh, seval] at hpre ⊢
 with_reducible repeat' (first | apply ai | intro _ | ((first | apply s1 | apply s3 | apply s4) <;> intro hb <;> simp -implicitDefEqProofs only [hb, go_sem, hh, seval] <;> try simp only [qz] at hb))
 all_goals first
  | rfl
  | (rw [AQ (fun h => hb h.1)]; done)
  | (rw [Ab]; exact ⟨fun h => ⟨by assumption, h⟩, fun h => h.2⟩)
  | skip
end
def IV : Ct := Ar (lc DY.ag l0) (fun p => True) (fun p => .t (.v (.bool (BW (Ac p.1)))))
theorem fW {G : Gt} (hG : Ah G) : Gd G 119 (AA 0 IV) := by
 refine gr (fn := Tryz.f119) (n := 1) rfl rfl hG ?_
 rintro ⟨a, ⟨⟩⟩ hpre
 simp -implicitDefEqProofs only [Tryz.f119, go_sem, seval] at hpre ⊢
 with_reducible repeat' (first | apply ai | intro _ | ((first | apply s1 | apply s3 | apply s4) <;> intro hb <;> simp -implicitDefEqProofs only [hb, go_sem, seval] <;> try simp only [qz] at hb))
 all_goals first
  | rfl
  | (rw [AQ (fun h => hb h.1)]; done)
  | (rw [← Bl, Ab]; exact ⟨fun h => ⟨by assumption, h⟩, fun h => h.2⟩)
  | skip
def nR : Ct := Ar (lc Ax (lc Ax l0)) (fun p => True) (fun p => .t (.v (.bool (BW (dR p.1 p.2.1)))))
theorem f0 {G : Gt} (hG : Ah G) : Gd G 145 (AA 0 nR) := by
 refine gr (fn := Tryz.f145) (n := 2) rfl rfl hG ?_
 rintro ⟨s, e, ⟨⟩⟩ hpre
 simp -implicitDefEqProofs only [Tryz.f145, go_sem, seval] at hpre ⊢
 with_reducible repeat' (first | apply ai | intro _ | ((first | apply s1 | apply s3 | apply s4) <;> intro hb <;> simp -implicitDefEqProofs only [hb, go_sem, seval] <;> try simp only [qz] at hb))
 all_goals (try simp only [maxLen] at *)
 all_goals first
  | rfl
  | omega
  | (rw [Ap (.inl hb)]; done)
  | skip
 all_goals have e1 : ((s.size : Int) - e.size).toNat = s.size - e.size := by omega
 all_goals (try rw [e1, tn] at hb)
 ·have e2 : ((s.size : Int) - e.size - 1).toNat = s.size - e.size - 1 := by omega
  rw [e2, ← Bl, Ab]
  exact ⟨fun h => .inr ⟨by omega, hb, h⟩, fun h => by
   rcases h with h | h
   ·exact absurd h (by assumption)
   ·exact h.2.2⟩
 ·rw [AQ]
  rintro (h | h)
  ·exact absurd h (by assumption)
  ·exact hb h.2.1
 ·rw [AQ]
  rintro (h | h)
  ·exact absurd h (by assumption)
  ·have := h.1; omega
def NS : Ct := Ar (lc Al.asl l0) (fun p => True) (fun p => .t (.v (.bool (BW (Ck p.1)))))
section
attribute [local go_sem] RT
theorem fX {G : Gt} (hG : Ah G) (hh : G.e 108 = AA 0 RT) : Gd G 120 (AA 0 NS) := by
 refine gr (fn := Tryz.f120) (n := 1) rfl rfl hG ?_
 rintro ⟨xs, ⟨⟩⟩ hpre
 simp -implicitDefEqProofs only [Tryz.f120, go_sem, hh, seval] at hpre ⊢
 refine AE [] (ι := {i : Nat // i ≤ xs.length ∧ ∀ j, j < i → IH (xs.getD j default)}) (fun p => ⟨[(0, .t (.sl 1 (xs.map AH))), (3, .t (.v (.int .i64 p.1)))], []⟩) (fun p => xs.length - p.1) ⟨0, by simp, by simp⟩ rfl ?_ ?_
 ·simp -implicitDefEqProofs only [go_sem, hh, seval]
  try simp
 ·rintro ⟨i, hi, hall⟩
  simp -implicitDefEqProofs only [go_sem, hh, seval]
  with_reducible repeat' (first | apply ai | intro _ | ((first | apply s1 | apply s3 | apply s4) <;> intro hb <;> simp -implicitDefEqProofs only [hb, go_sem, hh, seval] <;> try simp only [qz] at hb))
  all_goals (try simp only [maxLen, tn, lm] at *)
  all_goals first | rfl | omega | skip
  ·rw [AQ (fun h => hb (h.1 _ (AC (by omega))))]
  ·refine ⟨⟨i + 1, by omega, DM hall hb⟩, by dsimp only; omega, ?_⟩
   simp -implicitDefEqProofs only [go_sem, hh, seval]
   try simp
  ·rw [← Bl, Ab]
   exact ⟨fun h => ⟨BF fun j hj => hall j (by omega), by omega⟩, fun h => by have := h.2; omega⟩
end
def NT : Ct := Ar (lc dP.ag l0) (fun p => (p.1.to.length : Int) ≤ 1048576 ∧ (p.1.body.length : Int) ≤ 1048576) (fun p => SY p.1)
section
attribute [local go_sem] lm List.map_nil List.length_nil
theorem fZ {G : Gt} (hG : Ah G) : Gd G 122 (AA 0 NT) := by
 refine gr (fn := Tryz.f122) (n := 1) rfl rfl hG ?_ (hs := fun _ p => .agg _ (by intro c hc; simp only [List.mem_cons, List.not_mem_nil, or_false] at hc; rcases hc with rfl | rfl | rfl | rfl <;> first | exact .v _ | exact .deep _ _))
 rintro ⟨m, ⟨⟩⟩ hpre
 simp -implicitDefEqProofs only [Tryz.f122, go_sem, seval] at hpre ⊢
 with_reducible repeat' (first | apply ai | intro _ | ((first | apply s1 | apply s3 | apply s4) <;> intro hb <;> simp -implicitDefEqProofs only [hb, go_sem, seval] <;> try simp only [qz] at hb))
 all_goals (try simp only [maxLen, tn, lm] at *)
 all_goals first | rfl | omega | (simp_all; done) | skip
end
def xE : Ct := Ar (lc dP.ag l0) (fun p => True) (fun p => .t (.v (.bool (BW (DK p.1)))))
section
attribute [local go_sem] IU IV JP NS lm List.map_nil List.length_nil
theorem ql {G : Gt} (hG : Ah G) (hh : G.e 106 = AA 0 IU ∧ G.e 119 = AA 0 IV ∧ G.e 69 = AA 0 JP ∧ G.e 120 = AA 0 NS) : Gd G 68 (AA 0 xE) := by
 refine gr (fn := Tryz.f68) (n := 1) rfl rfl hG ?_
 rintro ⟨m, ⟨⟩⟩ hpre
 simp -implicitDefEqProofs only [Tryz.f68, go_sem, hh, seval] at hpre ⊢
 refine AE [] (ι := {i : Nat // i ≤ m.to.length ∧ (∀ j, j < i → BS (m.to.getD j default)) ∧ ∀ j, j < i → ∀ k, k < j → ¬ m.to.getD k default = m.to.getD j default}) (fun p => ⟨[(1, .pb 1001 0), (3, .t (.v (.int .i64 p.1)))], [(1001, some (.box [.t (.v (.string m.frm.user)), .t (.v (.string m.frm.domain)), .t (.sl 2 (m.to.map Am)), .t (.sl 1 (m.body.map AH))]))]⟩) (fun p => m.to.length - p.1) ⟨0, by simp, by simp, by simp⟩ rfl ?_ ?_
 ·simp -implicitDefEqProofs only [go_sem, hh, seval]
  try simp
 ·rintro ⟨i, hi, hall, hno⟩
  simp -implicitDefEqProofs only [go_sem, hh, seval]
  with_reducible repeat' (first | apply ai | intro _ | ((first | apply s1 | apply s3 | apply s4) <;> intro hb <;> simp -implicitDefEqProofs only [hb, go_sem, hh, seval] <;> try simp only [qz] at hb))
  all_goals (try simp only [maxLen, tn, lm] at *)
  all_goals first | rfl | omega | skip
  ·rw [AQ (fun h => hb (h.1 _ (AC (by omega))))]
  ·refine AE [] (ι := {k : Nat // k ≤ i ∧ ∀ j, j < k → ¬ m.to.getD j default = m.to.getD i default}) (fun p => ⟨[(1, .pb 1001 0), (3, .t (.v (.int .i64 i))), (4, .t (.v (.int .i64 p.1)))], [(1001, some (.box [.t (.v (.string m.frm.user)), .t (.v (.string m.frm.domain)), .t (.sl 2 (m.to.map Am)), .t (.sl 1 (m.body.map AH))]))]⟩) (fun p => i - p.1) ⟨0, by simp, by simp⟩ rfl ?_ ?_
   ·simp -implicitDefEqProofs only [go_sem, hh, seval]
    try simp
   ·rintro ⟨k, hk, hk2⟩
    simp -implicitDefEqProofs only [go_sem, hh, seval]
    with_reducible repeat' (first | apply ai | intro _ | ((first | apply s1 | apply s3 | apply s4) <;> intro hb <;> simp -implicitDefEqProofs only [hb, go_sem, hh, seval] <;> try simp only [qz] at hb))
    all_goals (try simp only [maxLen, tn, lm] at *)
    all_goals first | rfl | omega | skip
    ·have e : m.to.getD k default = m.to.getD i default := B8.2 (by simpa using hb)
     rw [AQ]
     intro h
     have hn := h.2.1
     have q1 : k < m.to.length := by omega
     have q2 : i < m.to.length := by omega
     simp only [List.getD_eq_getElem?_getD, List.getElem?_eq_getElem q1, List.getElem?_eq_getElem q2, Option.getD_some] at e
     exact List.pairwise_iff_getElem.1 (List.nodup_iff_pairwise_ne.1 hn) k i q1 q2 (by omega) e
    ·refine ⟨⟨k + 1, by omega, fun j hj => ?_⟩, by dsimp only; omega, ?_⟩
     ·by_cases e : j = k
      ·subst e; exact ra hb
      ·exact hk2 j (by omega)
     ·simp -implicitDefEqProofs only [go_sem, hh, seval]
      try simp
    ·refine ⟨⟨i + 1, by omega, DM hall (by assumption), fun j hj q hq => ?_⟩, by dsimp only; omega, ?_⟩
     ·by_cases e : j = i
      ·subst e; exact hk2 q (by omega)
      ·exact hno j (by omega) q hq
     ·simp -implicitDefEqProofs only [go_sem, hh, seval]
      try simp
  all_goals have hlen : m.to.length ≤ i := by omega
  all_goals have hA : ∀ a ∈ m.to, BS a := BF fun j hj => hall j (by omega)
  all_goals have hN : m.to.Nodup := bL fun j hj q hq => hno j (by omega) q hq
  all_goals first
   | (rw [Ab]
      exact ⟨fun h => ⟨hA, hN, by first | exact .inl (by assumption) | exact .inr (by assumption), by omega, h⟩, fun h => h.2.2.2.2⟩)
   | (rw [AQ]
      intro h
      first
       | (have := h.2.2.2.1; omega)
       | (rcases h.2.2.1 with q | q <;> contradiction))
end
theorem IA {w : World} {pr : Nat → Prop} {u v : Value} {vs : List Value} (h : AI ρ0 w pr [.t (.v u), .t (.v v)] vs []) : vs = [u, v] := by
 obtain ⟨a, l, rfl, h1, h2⟩ := h.one
 obtain ⟨b, l2, rfl, h3, h4⟩ := h2.one
 generalize hF : ([] : List Nat) = F at h4
 cases h4
 rw [h1.val.1, h3.val.1]
theorem Ll.cell {m : Int} {w : World} {pr : Nat → Prop} (h : Ll m w pr) : w.cell? ⟨0, 0, none⟩ = some (.int .i64 m) := by
 unfold Ll at h
 cases h with
 | rop cs a vs hp hv hr =>
   cases hr with
   | cons t v ts vs h1 h2 =>
     cases h1 with
     | v x hx =>
       have := hv 0 (.int .i64 m) rfl
       simpa [Addr.add, tA] using this
def oF : Ct := Ar (lc Ax (lc mX l0)) (fun _ => True) (fun p => .t (.v (.int .i64 (Lib.indexByte (bl p.1) (UInt8.ofNat p.2.1.toNat)))))
theorem iB (m : Int) : FY Tryz.prog m 203 oF := FY.of (r := fun (p : ByteArray × Int × Unit) => .int .i64 (Lib.indexByte (bl p.1) (UInt8.ofNat p.2.1.toNat))) (fun _ => trivial) fun p _ => by
 obtain ⟨s, c, ⟨⟩⟩ := p
 intro w pr vs hgl hv
 have := IA hv
 subst this
 have he : Extern.find Tryz.f203 = some Extern.BytealgIndexByte.indexByte := by kernel_rfl
 rw [run_callFunc_extern (fn := Tryz.f203) (by kernel_rfl) (by kernel_rfl) rfl (by kernel_rfl) he]
 have h := Lib.run_indexByteString (P := Tryz.prog) s c w
 rw [show ([Value.string s, Value.int .u8 c].toArray) = #[.string s, .int .u8 c] from rfl, h]
 rfl
def np : Ct := Ar (lc Ax (lc mX l0)) (fun _ => True) (fun p => .t (.v (.int .i64 (Lib.countByte (bl p.1) (UInt8.ofNat p.2.1.toNat)))))
theorem gZ (m : Int) : FY Tryz.prog m 177 np := FY.of (r := fun (p : ByteArray × Int × Unit) => .int .i64 (Lib.countByte (bl p.1) (UInt8.ofNat p.2.1.toNat))) (fun _ => trivial) fun p _ => by
 obtain ⟨s, c, ⟨⟩⟩ := p
 intro w pr vs hgl hv
 have := IA hv
 subst this
 have he : Extern.find Tryz.f177 = some Extern.BytealgCount.count := by kernel_rfl
 rw [run_callFunc_extern (fn := Tryz.f177) (by kernel_rfl) (by kernel_rfl) rfl (by kernel_rfl) he]
 have h := Lib.run_countString (P := Tryz.prog) s c w
 rw [show ([Value.string s, Value.int .u8 c].toArray) = #[.string s, .int .u8 c] from rfl, h]
 rfl
def n6 (m : Int) : Ct := Ar (lc Ax (lc Ax l0)) (fun p => 2 ≤ p.2.1.size ∧ (p.2.1.size : Int) ≤ m ∧ p.1.size ≤ 2000000) (fun p => .t (.v (.int .i64 (Lib.indexB p.1 p.2.1))))
theorem gp (m : Int) : FY Tryz.prog m 192 (n6 m) := FY.of (r := fun (p : ByteArray × ByteArray × Unit) => .int .i64 (Lib.indexB p.1 p.2.1)) (fun _ => trivial) fun p hp => by
 obtain ⟨s, b, ⟨⟩⟩ := p
 intro w pr vs hgl hv
 have := IA hv
 subst this
 have he : Extern.find Tryz.f192 = some Extern.BytealgIndex.index := by kernel_rfl
 rw [run_callFunc_extern (fn := Tryz.f192) (by kernel_rfl) (by kernel_rfl) rfl (by kernel_rfl) he]
 have h := Lib.run_indexString (P := Tryz.prog) s b w 0 m (by kernel_rfl) hgl.cell hp.1 hp.2.1 (by have h3 : s.size ≤ 2000000 := hp.2.2; omega)
 rw [show ([Value.string s, Value.string b].toArray) = #[.string s, .string b] from rfl, h]
 rfl
theorem CC (s : ByteArray) (i : Nat) (h : i < s.size) : AF s i = (s[i].toNat : Int) := by
 rw [CJ]
 have h' : i < (bl s).length := h
 have : (bl s).getD i 0 = s[i] := by
  simp [h']
  rfl
 rw [this]
 rfl
theorem GU (s : ByteArray) : s.toList = bl s := ByteArray.toList_eq s
theorem El {s t : ByteArray} (h : s = t) : (s.toList == t.toList) = true := by rw [h]; simp
theorem GF {s t : ByteArray} (h : ¬ s = t) : (s.toList == t.toList) = false := by
 rw [GU, GU]
 simpa using fun e => h (G4 e)
def n5 : Ct := Ar (lc Ax (lc mX l0)) (fun p => True) (fun p => .t (.v (.int .i64 (Lib.indexByte (bl p.1) (UInt8.ofNat p.2.1.toNat)))))
section
attribute [local go_sem] oF
theorem gn {G : Gt} (hG : Ah G) (hh : G.e 203 = AA 3 oF) : Gd G 191 (AA 0 n5) := by
 refine gr (fn := Tryz.f191) (n := 2) rfl rfl hG ?_
 rintro ⟨s, c, ⟨⟩⟩ hpre
 simp -implicitDefEqProofs only [Tryz.f191, go_sem, hh, seval] at hpre ⊢
 repeat' (first | with_reducible apply ai | with_reducible intro _ | ((first | apply s1 | apply s2 | apply s3 | apply s4) <;> intro hb <;> simp -implicitDefEqProofs only [hb, go_sem, hh, seval] <;> try simp only [qz] at hb))
 all_goals first | rfl | skip
end
def n7 : Ct := Ar (lc BK l0) (fun p => 0 ≤ p.1 ∧ p.1 ≤ 1000000000000) (fun p => .t (.v (.int .i64 ((p.1 + 16) / 8))))
theorem gq {G : Gt} (hG : Ah G) : Gd G 193 (AA 0 n7) := by
 refine gr (fn := Tryz.f193) (n := 1) rfl rfl hG ?_
 rintro ⟨n, ⟨⟩⟩ hpre
 simp -implicitDefEqProofs only [Tryz.f193, go_sem, seval] at hpre ⊢
 repeat' (first | with_reducible apply ai | with_reducible intro _ | ((first | apply s1 | apply s2 | apply s3 | apply s4) <;> intro hb <;> simp -implicitDefEqProofs only [hb, go_sem, seval] <;> try simp only [qz] at hb))
 all_goals first | rfl | omega | skip
open Go.Lib in
theorem hash_next (s : ByteArray) (k : Nat) (hk : k < s.size) {h : Int} (hh : h = RK.H ((bl s).take k) % 4294967296) : (h * 16777619 % 4294967296 + AF s k) % 4294967296 = RK.H ((bl s).take (k + 1)) % 4294967296 := by
 have := Go.Proofs.hash_step s k hk hh
 rw [CC s k hk]
 have h2 : (s[k].toNat : Int) % 4294967296 = s[k].toNat := by
  have := s[k].toNat_lt
  omega
 rw [h2] at this
 exact this
theorem sh (x : Int) : 0 ≤ x % 4294967296 ∧ x % 4294967296 < 4294967296 := by omega
def yO (s : ByteArray) : AV := .tup [.t (.v (.int .u32 (Lib.RK.H (bl s) % 4294967296))), .t (.v (.int .u32 (16777619 ^ s.size % 4294967296)))]
def oG : Ct := Ar (lc Ax l0) (fun p => p.1.size ≤ 2000000) (fun p => yO p.1)
section
attribute [local go_sem] yO
theorem iC {G : Gt} (hG : Ah G) : Gd G 204 (AA 0 oG) := by
 refine gr (fn := Tryz.f204) (n := 1) rfl rfl hG ?_ (hs := fun _ p => .tup _ (by intro c hc; simp only [List.mem_cons, List.not_mem_nil, or_false] at hc; rcases hc with rfl | rfl <;> exact .v _))
 rintro ⟨s, ⟨⟩⟩ hpre
 simp -implicitDefEqProofs only [Tryz.f204, go_sem, seval] at hpre ⊢
 refine AE [] (ι := {i : Nat // i ≤ s.size}) (fun p => ⟨[(0, .t (.v (.string s))), (4, .t (.v (.int .u32 (Lib.RK.H ((bl s).take p.1) % 4294967296)))), (5, .t (.v (.int .i64 p.1)))], []⟩) (fun p => s.size - p.1) ⟨0, by omega⟩ rfl ?_ ?_
 ·simp -implicitDefEqProofs only [go_sem, seval]
  simp [Lib.RK.H_nil]
 ·rintro ⟨i, hi⟩
  simp -implicitDefEqProofs only [go_sem, seval]
  repeat' (first | with_reducible apply ai | with_reducible intro _ | ((first | apply s1 | apply s2 | apply s3 | apply s4) <;> intro hb <;> simp -implicitDefEqProofs only [hb, go_sem, seval] <;> try simp only [qz] at hb))
  all_goals (try simp only [maxLen, tn] at *)
  all_goals (try have hbr := A9 s i)
  all_goals first | rfl | omega | skip
  ·refine ⟨⟨i + 1, by omega⟩, by dsimp only; omega, ?_⟩
   rw [hash_next s i (by omega) rfl]
   simp -implicitDefEqProofs only [go_sem, seval]
   try simp
  ·have hii : i = s.size := by omega
   have hle : (bl s).length ≤ i := by rw [CP]; omega
   rw [List.take_of_length_le hle]
   refine AE [] (ι := {p : Nat × Int × Int // p.1 ≤ 2000000 ∧ Lib.RK.PowInv s.size p.1 p.2.1 p.2.2 ∧ 0 ≤ p.2.1 ∧ p.2.1 < 4294967296}) (fun p => ⟨[(4, .t (.v (.int .u32 (Lib.RK.H (bl s) % 4294967296)))), (6, .t (.v (.int .u32 p.1.2.1))), (7, .t (.v (.int .u32 p.1.2.2))), (8, .t (.v (.int .i64 p.1.1)))], []⟩) (fun p => p.1.1) ⟨(s.size, 1, 16777619), by simpa using hpre, Lib.RK.pow_start _, by simp, by simp⟩ rfl ?_ ?_
   ·simp -implicitDefEqProofs only [go_sem, seval]
    try simp
   ·rintro ⟨⟨k, pw, sq⟩, hk, hpi, h0, h1⟩
    have hand := Go.Proofs.and_one k (by simp only at hk; omega)
    simp only at hk h0 h1 hpi
    have hpw : ((k : Int) / 2 ^ (1 : Int).toNat) = ((k / 2 : Nat) : Int) := by simp
    simp -implicitDefEqProofs only [go_sem, seval]
    repeat' (first | with_reducible apply ai | with_reducible intro _ | ((first | apply s1 | apply s2 | apply s3 | apply s4) <;> intro hb <;> simp -implicitDefEqProofs only [hb, go_sem, seval] <;> try simp only [qz] at hb))
    all_goals (try simp only [maxLen, tn] at *)
    all_goals first | rfl | omega | skip
    ·have h2 : k % 2 = 1 := by rw [hand] at hb; omega
     have := sh (pw * sq)
     refine ⟨⟨(k / 2, pw * sq % 4294967296, sq * sq % 4294967296), by simp only []; omega, Lib.RK.pow_odd hpi h2, this.1, this.2⟩, by simp only []; omega, ?_⟩
     try rw [hpw]
     simp -implicitDefEqProofs only [go_sem, seval]
     try simp
    ·have h2 : k % 2 = 0 := by rw [hand] at hb; omega
     refine ⟨⟨(k / 2, pw, sq * sq % 4294967296), by simp only []; omega, Lib.RK.pow_even hpi h2, h0, h1⟩, by simp only []; omega, ?_⟩
     try rw [hpw]
     simp -implicitDefEqProofs only [go_sem, seval]
     try simp
    ·have h2 : k = 0 := by omega
     subst h2
     rw [← Lib.RK.pow_end hpi h0 h1]
end
open Go.Lib in
theorem roll_next (s : ByteArray) (n i : Nat) (hn : 1 ≤ n) (hni : n ≤ i) (hi : i < s.size) {h pw : Int} (hh : h = RK.H (RK.win (bl s) (i - n) n) % 4294967296) (hp : pw = 16777619 ^ n % 4294967296) :
    ((h * 16777619 % 4294967296 + AF s i) % 4294967296 - pw * AF s (i - n) % 4294967296) % 4294967296 = RK.H (RK.win (bl s) (i + 1 - n) n) % 4294967296 := by
 have := Go.Proofs.roll_step s n i hn hni hi hh hp
 rw [CC s i hi, CC s (i - n) (by omega)]
 have h2 : (s[i - n].toNat : Int) % 4294967296 = s[i - n].toNat := by
  have := s[i - n].toNat_lt
  omega
 rw [h2] at this
 rw [← show RK.H (RK.win s.data.toList (i + 1 - n) n) % 4294967296 = RK.H (RK.win (bl s) (i + 1 - n) n) % 4294967296 from rfl, ← this]
 generalize pw * (s[i - n].toNat : Int) = X
 omega
def n8 : Ct := Ar (lc Ax (lc Ax l0)) (fun p => 1 ≤ p.2.1.size ∧ p.2.1.size ≤ p.1.size ∧ p.1.size ≤ 2000000) (fun p => .t (.v (.int .i64 (Lib.indexB p.1 p.2.1))))
section
attribute [local go_sem] oG yO
theorem gu {G : Gt} (hG : Ah G) (hh : G.e 204 = AA 0 oG) : Gd G 194 (AA 0 n8) := by
 refine gr (fn := Tryz.f194) (n := 2) rfl rfl hG ?_
 rintro ⟨s, sep, ⟨⟩⟩ hpre
 simp -implicitDefEqProofs only [Tryz.f194, go_sem, hh, seval] at hpre ⊢
 repeat' (first | with_reducible apply ai | with_reducible intro _ | ((first | apply s1 | apply s2 | apply s3 | apply s4) <;> intro hb <;> simp -implicitDefEqProofs only [hb, go_sem, hh, seval] <;> try simp only [qz] at hb))
 all_goals first | rfl | omega | skip
 refine AE [] (ι := {i : Nat // i ≤ sep.size}) (fun p => ⟨[(0, .t (.v (.string s))), (1, .t (.v (.string sep))), (5, .t (.v (.int .u32 (Lib.RK.H (bl sep) % 4294967296)))), (6, .t (.v (.int .u32 (16777619 ^ sep.size % 4294967296)))), (7, .t (.v (.int .i64 sep.size))), (8, .t (.v (.int .u32 (Lib.RK.H ((bl s).take p.1) % 4294967296)))), (9, .t (.v (.int .i64 p.1)))], []⟩) (fun p => sep.size - p.1) ⟨0, by omega⟩ rfl ?_ ?_
 ·simp -implicitDefEqProofs only [go_sem, hh, seval]
  simp [Lib.RK.H_nil]
 ·rintro ⟨i, hi⟩
  simp -implicitDefEqProofs only [go_sem, hh, seval]
  repeat' (first | with_reducible apply ai | with_reducible intro _ | ((first | apply s1 | apply s2 | apply s3 | apply s4) <;> intro hb <;> simp -implicitDefEqProofs only [hb, go_sem, hh, seval] <;> try simp only [qz] at hb))
  all_goals (try simp only [maxLen, tn] at *)
  all_goals (try have hbr := A9 s i)
  all_goals first | rfl | omega | skip
  ·refine ⟨⟨i + 1, by omega⟩, by dsimp only; omega, ?_⟩
   rw [hash_next s i (by omega) rfl]
   simp -implicitDefEqProofs only [go_sem, hh, seval]
   try simp
  ·rw [Lib.hit s sep 0 (fun j hj => absurd hj (Nat.not_lt_zero _)) (by omega) (El (by rw [Nat.zero_add]; exact hb))]
   rfl
  all_goals
   have hii : i = sep.size := by omega
   have hb0 := hb
   subst hii
   have hno : Lib.NoOccB s sep (sep.size - sep.size + 1) := by
    rw [Nat.sub_self]
    refine Lib.NoOcc.succ (fun j hj => absurd hj (Nat.not_lt_zero _)) ?_
    first
     | exact Go.Proofs.occ_no s sep 0 (by omega) (by rw [Nat.zero_add]; exact GF hb0)
     | exact Go.Proofs.occ_no_hash s sep 0 (by omega) rfl rfl hb0
   refine AE [] (ι := {k : Nat // sep.size ≤ k ∧ k ≤ s.size ∧ Lib.NoOccB s sep (k - sep.size + 1)}) (fun p => ⟨[(0, .t (.v (.string s))), (1, .t (.v (.string sep))), (5, .t (.v (.int .u32 (Lib.RK.H (bl sep) % 4294967296)))), (6, .t (.v (.int .u32 (16777619 ^ sep.size % 4294967296)))), (7, .t (.v (.int .i64 sep.size))), (8, .t (.v (.int .u32 (Lib.RK.H (Lib.RK.win (bl s) (p.1 - sep.size) sep.size) % 4294967296)))), (10, .t (.v (.int .i64 p.1)))], []⟩) (fun p => s.size - p.1) ⟨sep.size, by omega, by omega, hno⟩ rfl ?_ ?_
   ·simp -implicitDefEqProofs only [go_sem, hh, seval]
    try simp [Lib.RK.win_zero]
   ·rintro ⟨k, hk1, hk2, hk3⟩
    have hrn := fun h => roll_next s sep.size k (by omega) hk1 h rfl rfl
    have eks : ((k : Int) - sep.size).toNat = k - sep.size := by omega
    have eks1 : ((k : Int) + 1 - sep.size).toNat = k + 1 - sep.size := by omega
    have ek1 : ((k : Int) + 1).toNat = k + 1 := by omega
    simp -implicitDefEqProofs only [go_sem, hh, seval]
    repeat' (first | with_reducible apply ai | with_reducible intro _ | ((first | apply s1 | apply s2 | apply s3 | apply s4) <;> intro hb <;> simp -implicitDefEqProofs only [hb, go_sem, hh, seval] <;> try simp only [qz] at hb))
    all_goals (try simp only [maxLen, tn] at *)
    all_goals (try have hbr := A9 s k)
    all_goals (try have hbr2 := A9 s (k - sep.size))
    all_goals (try simp only [eks, eks1, ek1] at *)
    all_goals first | rfl | omega | skip
    all_goals (try have hkk := hrn (by omega))
    all_goals have e1 : k - sep.size + 1 = k + 1 - sep.size := by omega
    all_goals rw [e1] at hk3
    ·have e2 : k + 1 - sep.size + sep.size = k + 1 := by omega
     rw [Lib.hit s sep (k + 1 - sep.size) hk3 (by omega) (El (by rw [e2]; exact hb))]
     have e3 : ((k + 1 - sep.size : Nat) : Int) = (k : Int) + 1 - sep.size := by omega
     rw [e3]
    ·have e2 : k + 1 - sep.size + sep.size = k + 1 := by omega
     have hocc := Go.Proofs.occ_no s sep (k + 1 - sep.size) (by omega) (by rw [e2]; exact GF hb)
     refine ⟨⟨k + 1, by omega, by omega, Lib.NoOcc.succ hk3 hocc⟩, by dsimp only; omega, ?_⟩
     rw [hkk]
     simp -implicitDefEqProofs only [go_sem, hh, seval]
     try simp
    ·rw [hkk] at hb
     have hocc := Go.Proofs.occ_no_hash s sep (k + 1 - sep.size) (by omega) rfl rfl hb
     refine ⟨⟨k + 1, by omega, by omega, Lib.NoOcc.succ hk3 hocc⟩, by dsimp only; omega, ?_⟩
     rw [hkk]
     simp -implicitDefEqProofs only [go_sem, hh, seval]
     try simp
    ·rw [Lib.past s sep (k + 1 - sep.size) hk3 (by omega) (by omega)]
end
section
open Go.Lib
theorem ah (s : ByteArray) (c : UInt8) : indexByte (bl s) c = -1 ∨ ∃ o : Nat, indexByte (bl s) c = o ∧ o < s.size := by
 have hge := indexByte_ge (bl s) c
 by_cases h : indexByte (bl s) c = -1
 ·exact .inl h
 ·obtain ⟨o, ho⟩ : ∃ o : Nat, indexByte (bl s) c = o := ⟨(indexByte (bl s) c).toNat, by omega⟩
  refine .inr ⟨o, ho, ?_⟩
  obtain ⟨h1, _⟩ := indexByte_some ho
  exact (List.getElem?_eq_some_iff.1 h1).1
theorem G6 (sub : ByteArray) (h : 0 < sub.size) : UInt8.ofNat (AF sub 0).toNat = ((sub[0].toNat : Int)).toNat.toUInt8 := by rw [CC sub 0 h]
theorem lG {s sub : ByteArray} {k j : Nat} (hk : k < s.size) (hj : j < sub.size) (h : ¬ AF s k = AF sub j) : ((((s[k].toNat : Nat) : Int)) != ((sub[j].toNat : Nat) : Int)) = true := by
 rw [CC s k hk, CC sub j hj] at h
 simpa using h
theorem Nn {s sub : ByteArray} {k : Nat} (h2 : 2 ≤ sub.size) (hls : sub.size ≤ s.size) (hk : k < s.size) (hno : NoOccB s sub k) (hne : ¬ AF s k = AF sub 0) (hib : indexByte (bl (s.extract (k + 1) (s.size - sub.size + 1))) (UInt8.ofNat (AF sub 0).toNat) = -1) : indexB s sub = -1 :=
 skip_none s sub k h2 hls hk hno (lG hk (by omega) hne) (by rw [G6 sub (by omega)] at hib; exact hib)
theorem No {s sub : ByteArray} {k o : Nat} (h2 : 2 ≤ sub.size) (hk : k < s.size) (hno : NoOccB s sub k) (hne : ¬ AF s k = AF sub 0) (hib : indexByte (bl (s.extract (k + 1) (s.size - sub.size + 1))) (UInt8.ofNat (AF sub 0).toNat) = o) : NoOccB s sub (k + (o + 1)) :=
 skip_some s sub k o h2 hk hno (lG hk (by omega) hne) (by rw [G6 sub (by omega)] at hib; exact hib)
theorem Mc {s sub : ByteArray} {i : Nat} (hno : NoOccB s sub i) (h2 : 2 ≤ sub.size) (hi : i + 1 < s.size) (hne : ¬ AF s (i + 1) = AF sub 1) : NoOccB s sub (i + 1) :=
 miss_second s sub i hno h2 hi (by rw [CC s _ hi, CC sub 1 (by omega)] at hne; exact hne)
theorem Pz {s sub : ByteArray} {i : Nat} (hno : NoOccB s sub i) (hi : i + sub.size ≤ s.size) (h : ¬ s.extract i (i + sub.size) = sub) : NoOccB s sub (i + 1) := miss_piece s sub i hno hi (GF h)
theorem Ku (s sub : ByteArray) (a : Nat) : -1 ≤ indexB (s.extract a s.size) sub ∧ indexB (s.extract a s.size) sub ≤ s.size := ⟨index_ge _ _, index_tail_le s sub a⟩
theorem SC {s sub : ByteArray} (h : sub.size = 1) : indexByte (bl s) (UInt8.ofNat (AF sub 0).toNat) = indexB s sub := by
 rw [one s sub h, G6 sub (by omega)]; rfl
theorem U5 {s sub : ByteArray} (h : sub.size = 0 ∨ sub = s) : indexB s sub = 0 := zero s sub (by
 rcases h with h | h
 ·exact .inl (by rw [h]; rfl)
 ·exact .inr (El h))
theorem lF {s sub : ByteArray} {k : Nat} (hno : NoOccB s sub k) (hk : k ≤ s.size) : indexB s sub = if indexB (s.extract k s.size) sub < 0 then -1 else indexB (s.extract k s.size) sub + k := by
 split
 ·exact fb_neg s sub k hno hk (r := indexB (s.extract k s.size) sub) rfl (by assumption) (Ku s sub k).1
 ·exact fb_pos s sub k hno hk (r := indexB (s.extract k s.size) sub) rfl (by omega)
theorem yn {k : IntKind} {x y : Int} (h : x = y) : T.v (.int k x) = T.v (.int k y) := by rw [h]
theorem ia {s sub : ByteArray} (h1 : s.size ≤ sub.size) (h2 : ¬ sub = s) : indexB s sub = -1 := long s sub h1 (GF h2)
end
def nq : Ct := Ar (lc Ax (lc Ax l0)) (fun p => p.2.1.size ≤ 2000000 ∧ p.1.size ≤ 2000000) (fun p => .t (.v (.int .i64 (Lib.indexB p.1 p.2.1))))
section
attribute [local go_sem] n5 n6 n7 n8 tA eq_self decide_true Bool.not_true Bool.not_false
set_option maxHeartbeats 8000000 in
theorem ga {G : Gt} (hG : Ah G) (hh : G.e 191 = AA 0 n5 ∧ G.e 192 = AA 3 (n6 G.m) ∧ G.e 193 = AA 0 n7 ∧ G.e 194 = AA 0 n8) : Gd G 178 (AA 0 nq) := by
 refine gr (fn := Tryz.f178) (n := 2) rfl rfl hG ?_
 rintro ⟨s, sub, ⟨⟩⟩ hpre
 simp -implicitDefEqProofs only [Tryz.f178, go_sem, hh, Nat.reduceAdd, Nat.reduceMul, Nat.reduceLeDiff, Nat.reduceEqDiff, reduceCtorEq, Nat.reduceSub, Int.reduceNeg, Nat.reduceMod, Nat.reduceBEq, Nat.reduceLT] at hpre ⊢
 with_reducible repeat' (first | apply ai | intro _ | ((first | apply s1 | apply s3 | apply s4) <;> intro hb <;> simp -implicitDefEqProofs only [hb, go_sem, hh, Nat.reduceAdd, Nat.reduceMul, Nat.reduceLeDiff, Nat.reduceEqDiff, reduceCtorEq, Nat.reduceSub, Int.reduceNeg, Nat.reduceMod, Nat.reduceBEq, Nat.reduceLT] <;> try simp only [qz] at hb))
 all_goals (try simp only [maxLen, tn] at *)
 all_goals first | rfl | omega | skip
 ·rw [U5 (.inl (by omega))]
 ·rename_i hb; rw [U5 (.inr hb)]
 ·rw [← SC (s := s) (sub := sub) (by omega)]; rfl
 ·rw [ia (by omega) (by assumption)]
 all_goals
  have h2 : 2 ≤ sub.size := by omega
  have hls : sub.size < s.size := by omega
  refine AE [] (ι := {p : Nat × Nat // p.1 ≤ s.size - sub.size + 1 ∧ Lib.NoOccB s sub p.1 ∧ p.2 ≤ p.1}) (fun p => ⟨[(0, .t (.v (.string s))), (1, .t (.v (.string sub))), (5, .t (.v (.int .i64 sub.size))), (6, .t (.v (.int .u8 (AF sub 0)))), (7, .t (.v (.int .u8 (AF sub 1)))), (8, .t (.v (.int .i64 p.1.1))), (9, .t (.v (.int .i64 (s.size - sub.size + 1)))), (10, .t (.v (.int .i64 p.1.2)))], []⟩) (fun p => s.size - p.1.1) ⟨(0, 0), by dsimp only; omega, (fun j hj => absurd hj (Nat.not_lt_zero _)), by dsimp only; omega⟩ rfl ?_ ?_
  ·simp -implicitDefEqProofs only [go_sem, hh, Nat.reduceAdd, Nat.reduceMul, Nat.reduceLeDiff, Nat.reduceEqDiff, reduceCtorEq, Nat.reduceSub, Int.reduceNeg, Nat.reduceMod, Nat.reduceBEq, Nat.reduceLT]
   try simp
  ·rintro ⟨⟨i, f⟩, hi, hno, hf⟩
   dsimp only at hi hno hf
   have et : ((s.size : Int) - sub.size + 1).toNat = s.size - sub.size + 1 := by omega
   have ei : ((i : Int) + 1).toNat = i + 1 := by omega
   by_cases ht : (i : Int) < s.size - sub.size + 1
   ·by_cases e0 : AF s (i : Int).toNat = AF sub 0
    ·have e1 : ((i : Int) + sub.size).toNat = i + sub.size := by omega
     simp -implicitDefEqProofs only [ht, e0, go_sem, hh, Nat.reduceAdd, Nat.reduceMul, Nat.reduceLeDiff, Nat.reduceEqDiff, reduceCtorEq, Nat.reduceSub, Int.reduceNeg, Nat.reduceMod, Nat.reduceBEq, Nat.reduceLT]
     with_reducible repeat' (first | apply ai | intro _ | ((first | apply s1 | apply s3 | apply s4) <;> intro hb <;> simp -implicitDefEqProofs only [hb, go_sem, hh, Nat.reduceAdd, Nat.reduceMul, Nat.reduceLeDiff, Nat.reduceEqDiff, reduceCtorEq, Nat.reduceSub, Int.reduceNeg, Nat.reduceMod, Nat.reduceBEq, Nat.reduceLT] <;> try simp only [qz] at hb))
     all_goals (try simp only [maxLen, tn, Int.reduceToNat, ei, et, e1] at *)
     all_goals first | rfl | omega | skip
     all_goals first
      | (rw [Lib.hit s sub i hno (by omega) (El (by assumption))]; done)
      | (rw [ByteArray.size_extract]; omega)
      | (have hk2 : Lib.NoOccB s sub (i + 1) := by
           first
            | exact Pz hno (by omega) (by assumption)
            | exact Mc hno h2 (by omega) (by assumption)
         have hbd := Ku s sub (i + 1)
         first
          | omega
          | (refine yn ?_
             rw [lF hk2 (by omega)]
             first
              | (rw [if_pos (by omega)]; done)
              | (rw [if_neg (by omega)]; omega))
          | (refine ⟨⟨(i + 1, f + 1), by dsimp only; omega, hk2, by dsimp only; omega⟩, by dsimp only; omega, ?_⟩
             simp -implicitDefEqProofs only [go_sem, hh, Nat.reduceAdd, Nat.reduceMul, Nat.reduceLeDiff, Nat.reduceEqDiff, reduceCtorEq, Nat.reduceSub, Int.reduceNeg, Nat.reduceMod, Nat.reduceBEq, Nat.reduceLT]
             simp))
    ·have hz : True := trivial
     rcases ah (s.extract ((i : Int) + 1).toNat ((s.size : Int) - sub.size + 1).toNat) (UInt8.ofNat (AF sub (Int.toNat 0)).toNat) with h | ⟨o, h, ho⟩
     ·have h' : Lib.indexByte (bl (s.extract ((i : Int) + 1).toNat ((s.size : Int) - sub.size + 1).toNat)) (UInt8.ofNat (AF sub 0).toNat) = -1 := h
      simp -implicitDefEqProofs only [ht, e0, h', go_sem, hh, Nat.reduceAdd, Nat.reduceMul, Nat.reduceLeDiff, Nat.reduceEqDiff, reduceCtorEq, Nat.reduceSub, Int.reduceNeg, Nat.reduceMod, Nat.reduceBEq, Nat.reduceLT]
      with_reducible repeat' (first | apply ai | intro _ | ((first | apply s1 | apply s3 | apply s4) <;> intro hb <;> simp -implicitDefEqProofs only [hb, go_sem, hh, Nat.reduceAdd, Nat.reduceMul, Nat.reduceLeDiff, Nat.reduceEqDiff, reduceCtorEq, Nat.reduceSub, Int.reduceNeg, Nat.reduceMod, Nat.reduceBEq, Nat.reduceLT] <;> try simp only [qz] at hb))
      all_goals (try simp only [maxLen] at *)
      all_goals first | rfl | omega | skip
      rw [ei, et] at h'
      rw [tn] at e0
      rw [Nn (k := i) h2 (by omega) (by omega) hno e0 h']
     ·have h' : Lib.indexByte (bl (s.extract ((i : Int) + 1).toNat ((s.size : Int) - sub.size + 1).toNat)) (UInt8.ofNat (AF sub 0).toNat) = o := h
      have ho' : i + (o + 1) < s.size - sub.size + 1 := by
       rw [ei, et, ByteArray.size_extract] at ho; omega
      have hno' : Lib.NoOccB s sub (i + (o + 1)) := by
       rw [ei, et] at h'
       rw [tn] at e0
       exact No (k := i) h2 (by omega) hno e0 h'
      have e4 : ((i : Int) + ((o : Int) + 1)) = ((i + (o + 1) : Nat) : Int) := by omega
      simp -implicitDefEqProofs only [ht, e0, h', e4, go_sem, hh, Nat.reduceAdd, Nat.reduceMul, Nat.reduceLeDiff, Nat.reduceEqDiff, reduceCtorEq, Nat.reduceSub, Int.reduceNeg, Nat.reduceMod, Nat.reduceBEq, Nat.reduceLT]
      have hik : i ≤ i + (o + 1) := by omega
      have hob : o ≤ 2000000 := by omega
      clear h h' ho e0
      generalize i + (o + 1) = k at *
      have ek : ((k : Int) + 1).toNat = k + 1 := by omega
      have e1 : ((k : Int) + sub.size).toNat = k + sub.size := by omega
      with_reducible repeat' (first | apply ai | intro _ | ((first | apply s1 | apply s3 | apply s4) <;> intro hb <;> simp -implicitDefEqProofs only [hb, go_sem, hh, Nat.reduceAdd, Nat.reduceMul, Nat.reduceLeDiff, Nat.reduceEqDiff, reduceCtorEq, Nat.reduceSub, Int.reduceNeg, Nat.reduceMod, Nat.reduceBEq, Nat.reduceLT] <;> try simp only [qz] at hb))
      all_goals (try simp only [maxLen, tn, Int.reduceToNat, ei, et, e1, ek, e4] at *)
      all_goals first | rfl | omega | skip
      all_goals first
       | (rw [Lib.hit s sub k hno' (by omega) (El (by assumption))]; done)
       | (rw [ByteArray.size_extract]; omega)
       | (have hk2 : Lib.NoOccB s sub (k + 1) := by
            first
             | exact Pz hno' (by omega) (by assumption)
             | exact Mc hno' h2 (by omega) (by assumption)
          have hbd := Ku s sub (k + 1)
          first
           | omega
           | (refine yn ?_
              rw [lF hk2 (by omega)]
              first
               | (rw [if_pos (by omega)]; done)
               | (rw [if_neg (by omega)]; omega))
           | (refine ⟨⟨(k + 1, f + 1), by dsimp only; omega, hk2, by dsimp only; omega⟩, by dsimp only; omega, ?_⟩
              simp -implicitDefEqProofs only [go_sem, hh, Nat.reduceAdd, Nat.reduceMul, Nat.reduceLeDiff, Nat.reduceEqDiff, reduceCtorEq, Nat.reduceSub, Int.reduceNeg, Nat.reduceMod, Nat.reduceBEq, Nat.reduceLT]
              simp))

   ·simp -implicitDefEqProofs only [ht, go_sem, hh, Nat.reduceAdd, Nat.reduceMul, Nat.reduceLeDiff, Nat.reduceEqDiff, reduceCtorEq, Nat.reduceSub, Int.reduceNeg, Nat.reduceMod, Nat.reduceBEq, Nat.reduceLT]
    rw [Lib.past s sub i hno (by omega) (by omega)]
end
section
open Go.Lib
def Fy (c : UInt8) : List UInt8 → List (List UInt8)
 | [] => [[]]
 | x :: r => if x = c then [] :: Fy c r else match Fy c r with | h :: t => (x :: h) :: t | [] => [[x]]
def Ir (s : ByteArray) (c : UInt8) : List ByteArray := (Fy c (bl s)).map mB
theorem GQ (c : UInt8) : ∀ l : List UInt8, (Fy c l).length = l.count c + 1
 | [] => rfl
 | x :: r => by
   have h := GQ c r
   rw [Fy]
   by_cases e : x = c
   ·rw [if_pos e, e, List.count_cons_self]; simp [h]
   ·rw [if_neg e, List.count_cons_of_ne e]
    cases hs : Fy c r with
    | nil => rw [hs] at h; simp at h
    | cons a t => rw [hs] at h; simp at h ⊢; exact h
theorem Ql {c : UInt8} : ∀ {l : List UInt8}, (∀ j : Nat, l[j]? ≠ some c) → Fy c l = [l]
 | [], _ => rfl
 | x :: r, h => by
   rw [Fy, if_neg (fun e => h 0 (by rw [e]; rfl)), Ql (fun j => h (j + 1))]
theorem Mx {c : UInt8} : ∀ (o : Nat) (l : List UInt8), l[o]? = some c → (∀ k : Nat, k < o → l[k]? ≠ some c) → Fy c l = l.take o :: Fy c (l.drop (o + 1))
 | 0, l, h, _ => by
   cases l with
   | nil => cases h
   | cons x r => simp at h; rw [Fy, if_pos h]; rfl
 | o + 1, l, h, hk => by
   cases l with
   | nil => cases h
   | cons x r =>
     rw [Fy, if_neg (fun e => hk 0 (by omega) (by rw [e]; rfl)), Mx o r h (fun k q => hk (k + 1) (by omega))]
     rfl
theorem FL {c : UInt8} : ∀ (l : List UInt8) (m : Nat), (At c m l).length ≤ m ∨ (Fy c l).length ≤ m → At c m l = Fy c l
 | l, 0, h => by
   have := GQ c l
   rw [At] at h
   rcases h with h | h
   ·exact absurd h (by simp)
   ·omega
 | [], m + 1, _ => by rw [At, Fy]
 | x :: r, m + 1, h => by
   rw [At, Fy] at h ⊢
   by_cases e : x = c
   ·rw [if_pos e, if_pos e] at h ⊢
    rw [FL r m (by simp at h; exact h)]
   ·rw [if_neg e, if_neg e] at h ⊢
    have h2 : (At c (m + 1) r).length ≤ m + 1 ∨ (Fy c r).length ≤ m + 1 := by
     rcases h with h | h
     ·cases hs : At c (m + 1) r with
      | nil => exact .inl (by simp)
      | cons a t => rw [hs] at h; exact .inl (by simpa using h)
     ·cases hs : Fy c r with
      | nil => exact .inr (by simp)
      | cons a t => rw [hs] at h; exact .inr (by simpa using h)
    rw [FL r (m + 1) h2]
    all_goals (cases Fy c r <;> rfl)
theorem Jl (s : ByteArray) : D9 s ↔ (∀ w ∈ Ir s 46, Td w) ∧ (Ir s 46).length ≤ 3 := by
 unfold D9 C4 Ir
 constructor
 ·rintro ⟨h1, h2⟩
  rw [lm] at h2
  rw [FL _ _ (.inl h2)] at h1 h2
  exact ⟨h1, by rw [lm]; exact h2⟩
 ·rintro ⟨h1, h2⟩
  rw [lm] at h2
  rw [← FL _ _ (.inr h2)] at h1 h2
  exact ⟨h1, by rw [lm]; exact h2⟩
theorem Fo : ∀ {l : List UInt8} {c : UInt8}, indexByte l c = -1 → ∀ j : Nat, l[j]? ≠ some c
 | [], c, _, j => by simp
 | b :: l, c, h, j => by
   have hge := indexByte_ge l c
   unfold indexByte at h
   by_cases e : b = c
   ·rw [if_pos (by simp [e])] at h; cases h
   ·rw [if_neg (by simp [e])] at h
    by_cases e2 : indexByte l c = -1
    ·cases j with
     | zero => simp [e]
     | succ j => exact Fo e2 j
    ·rw [if_neg (by simp [e2])] at h; omega
theorem Qn {s sep : ByteArray} (h1 : sep.size = 1) (h : indexB s sep = -1) : Ir s (UInt8.ofNat (AF sep 0).toNat) = [s] := by
 rw [← SC h1] at h
 unfold Ir
 rw [Ql (Fo h)]
 rfl
theorem cT {s sep : ByteArray} (h1 : sep.size = 1) {o : Nat} (h : indexB s sep = o) : o < s.size ∧ Ir s (UInt8.ofNat (AF sep 0).toNat) = s.extract 0 o :: Ir (s.extract (o + 1) s.size) (UInt8.ofNat (AF sep 0).toNat) := by
 rw [← SC h1] at h
 obtain ⟨ha, hb⟩ := indexByte_some h
 refine ⟨(List.getElem?_eq_some_iff.1 ha).1, ?_⟩
 unfold Ir
 rw [Mx o _ ha hb, List.map_cons, Dt s (o + 1) s.size, List.take_of_length_le (l := (bl s).drop (o + 1)) (by rw [List.length_drop, CP]; exact Nat.le_refl _)]
 rw [HD s 0 o]; rfl
theorem aN {α : Type} (enc : α → List T) (d x : α) (p : List α) (n : Nat) : ((p ++ List.replicate (n + 1) d).map enc).set p.length (enc x) = ((p ++ [x]) ++ List.replicate n d).map enc := by
 rw [← List.map_set, List.set_append_right _ _ (Nat.le_refl _), Nat.sub_self, List.replicate_succ, List.set_cons_zero, List.append_assoc]; rfl
theorem kz {t : ByteArray} {p : List ByteArray} {n : Nat} : ((p ++ List.replicate (n + 1) (⟨#[]⟩ : ByteArray)).map AH).set p.length [T.v (.string t)] = ((p ++ [t]) ++ List.replicate n (⟨#[]⟩ : ByteArray)).map AH := aN AH _ t p n
theorem GR (s : ByteArray) (c : UInt8) : (Ir s c).length = countByte (bl s) c + 1 := by
 unfold Ir; rw [lm, GQ]; rfl
theorem ZI (s : ByteArray) (c : UInt8) : countByte (bl s) c ≤ s.size := by
 have := List.count_le_length (a := c) (l := bl s)
 exact this
theorem My {s sep : ByteArray} (h1 : sep.size = 1) : (indexB s sep = -1 ∧ countByte (bl s) (UInt8.ofNat (AF sep 0).toNat) = 0 ∧ Ir s (UInt8.ofNat (AF sep 0).toNat) = [s]) ∨ ∃ o : Nat, indexB s sep = o ∧ o < s.size ∧ Ir s (UInt8.ofNat (AF sep 0).toNat) = s.extract 0 o :: Ir (s.extract (o + 1) s.size) (UInt8.ofNat (AF sep 0).toNat) ∧ countByte (bl s) (UInt8.ofNat (AF sep 0).toNat) = countByte (bl (s.extract (o + 1) s.size)) (UInt8.ofNat (AF sep 0).toNat) + 1 := by
 have hge := index_ge (bl s) (bl sep)
 by_cases h : indexB s sep = -1
 ·refine .inl ⟨h, ?_, Qn h1 h⟩
  have := GR s (UInt8.ofNat (AF sep 0).toNat)
  rw [Qn h1 h] at this
  simp at this; exact this
 ·have hge' : -1 ≤ indexB s sep := hge
  obtain ⟨o, ho⟩ : ∃ o : Nat, indexB s sep = o := ⟨(indexB s sep).toNat, by omega⟩
  obtain ⟨a, b⟩ := cT h1 ho
  refine .inr ⟨o, ho, a, b, ?_⟩
  have q1 := GR s (UInt8.ofNat (AF sep 0).toNat)
  have q2 := GR (s.extract (o + 1) s.size) (UInt8.ofNat (AF sep 0).toNat)
  rw [b, List.length_cons, q2] at q1
  omega
end
def nW : Ct := Ar (lc Ax (lc Ax l0)) (fun p => p.2.1.size ≤ 2000000 ∧ p.1.size ≤ 2000000) (fun p => .t (.v (.int .i64 (Lib.indexB p.1 p.2.1))))
section
attribute [local go_sem] nq
theorem gC {G : Gt} (hG : Ah G) (hh : G.e 178 = AA 0 nq) : Gd G 154 (AA 0 nW) := by
 refine gr (fn := Tryz.f154) (n := 2) rfl rfl hG ?_
 rintro ⟨s, sub, ⟨⟩⟩ hpre
 simp -implicitDefEqProofs only [Tryz.f154, go_sem, hh, seval] at hpre ⊢
 with_reducible repeat' (first | apply ai | intro _ | ((first | apply s1 | apply s3 | apply s4) <;> intro hb <;> simp -implicitDefEqProofs only [hb, go_sem, hh, seval] <;> try simp only [qz] at hb))
 all_goals first | rfl | omega | skip
end
def nV : Ct := Ar (lc Ax (lc Ax l0)) (fun p => p.2.1.size = 1 ∧ p.1.size ≤ 2000000) (fun p => .t (.v (.int .i64 (Lib.countByte (bl p.1) (UInt8.ofNat (AF p.2.1 0).toNat)))))
section
attribute [local go_sem] np
theorem gA {G : Gt} (hG : Ah G) (hh : G.e 177 = AA 3 np) : Gd G 153 (AA 0 nV) := by
 refine gr (fn := Tryz.f153) (n := 2) rfl rfl hG ?_
 rintro ⟨s, sub, ⟨⟩⟩ hpre
 simp -implicitDefEqProofs only [Tryz.f153, go_sem, hh, seval] at hpre ⊢
 have h1 : (sub.size : Int) = 1 := by omega
 simp -implicitDefEqProofs only [h1, go_sem, hh, seval]
 with_reducible repeat' (first | apply ai | intro _ | ((first | apply s1 | apply s3 | apply s4) <;> intro hb <;> simp -implicitDefEqProofs only [hb, go_sem, hh, seval] <;> try simp only [qz] at hb))
 all_goals first | rfl | omega | skip
end
section
end
def nG : Ct := Ar (lc Ax (lc Ax (lc BK (lc BK l0)))) (fun p => p.2.1.size = 1 ∧ p.2.2.1 = 0 ∧ p.2.2.2.1 = -1 ∧ p.1.size ≤ 2000000) (fun p => .o true 1 ((Ir p.1 (UInt8.ofNat (AF p.2.1 0).toNat)).map AH))
section
attribute [local go_sem] nV nW Bb AT List.map_replicate
set_option maxHeartbeats 1600000 in
theorem fh {G : Gt} (hG : Ah G) (hh : G.e 153 = AA 0 nV ∧ G.e 154 = AA 0 nW) : Gd G 131 (AA 0 nG) := by
 refine gr (fn := Tryz.f131) (n := 4) rfl rfl hG ?_ (hs := fun _ _ => .deep _ _)
 rintro ⟨s, sep, sv, n, ⟨⟩⟩ hpre
 obtain ⟨h1, h2, h3, h4⟩ := hpre
 dsimp only at h1 h2 h3 h4
 subst h2 h3
 have hse : ¬ sep = ⟨#[]⟩ := by intro e; rw [e] at h1; cases h1
 have hc := ZI s (UInt8.ofNat (AF sep 0).toNat)
 have hl := GR s (UInt8.ofNat (AF sep 0).toNat)
 have hmin : ¬ ((s.size : Int) + 1 < (Lib.countByte (bl s) (UInt8.ofNat (AF sep 0).toNat) : Int) + 1) := by omega
 simp -implicitDefEqProofs only [Tryz.f131, hse, if_neg hmin, go_sem, hh, seval]
 with_reducible repeat' (first | apply ai | intro _ | ((first | apply s1 | apply s3 | apply s4) <;> intro hb <;> simp -implicitDefEqProofs only [hb, go_sem, hh, seval] <;> try simp only [qz] at hb))
 all_goals (try simp only [maxLen, tn] at *)
 all_goals first | rfl | omega | skip
 refine AE [] (ι := {z : List ByteArray × ByteArray // Ir s (UInt8.ofNat (AF sep 0).toNat) = z.1 ++ Ir z.2 (UInt8.ofNat (AF sep 0).toNat) ∧ z.2.size ≤ s.size}) (fun z => ⟨[(0, .t (.v (.string z.1.2))), (1, .t (.v (.string sep))), (2, .t (.v (.int .i64 0))), (3, .t (.v (.int .i64 (Lib.countByte (bl s) (UInt8.ofNat (AF sep 0).toNat))))), (9, .h 1031), (10, .t (.v (.int .i64 z.1.1.length)))], [(1031, some (.arr true 1 ((z.1.1 ++ List.replicate (Lib.countByte (bl s) (UInt8.ofNat (AF sep 0).toNat) + 1 - z.1.1.length) (⟨#[]⟩ : ByteArray)).map AH)))]⟩) (fun z => s.size + 1 - z.1.1.length) ⟨([], s), rfl, Nat.le_refl _⟩ rfl ?_ ?_
 ·simp -implicitDefEqProofs only [go_sem, hh, seval]
  try simp
  constructor <;> split <;> omega
 ·rintro ⟨⟨p, t⟩, hz, ht⟩
  dsimp only at hz ht
  have hcl : (Ir s (UInt8.ofNat (AF sep 0).toNat)).length = p.length + (Ir t (UInt8.ofNat (AF sep 0).toNat)).length := by rw [hz, List.length_append]
  rw [hl, GR] at hcl
  by_cases hlt : (p.length : Int) < Lib.countByte (bl s) (UInt8.ofNat (AF sep 0).toNat)
  ·rcases My (s := t) h1 with ⟨_, q, _⟩ | ⟨o, q1, q2, q3, q4⟩
   ·omega
   ·have q0 : ¬ (o : Int) < 0 := by omega
    simp -implicitDefEqProofs only [hlt, q1, q0, go_sem, hh, seval]
    obtain ⟨n, hn⟩ : ∃ n, Lib.countByte (bl s) (UInt8.ofNat (AF sep 0).toNat) + 1 - p.length = n + 1 := ⟨Lib.countByte (bl s) (UInt8.ofNat (AF sep 0).toNat) - p.length, by omega⟩
    have hn2 : n = Lib.countByte (bl s) (UInt8.ofNat (AF sep 0).toNat) - p.length := by omega
    have hs1 : ((o : Int) + sep.size).toNat = o + 1 := by omega
    with_reducible repeat' (first | apply ai | intro _ | ((first | apply s1 | apply s3 | apply s4) <;> intro hb <;> simp -implicitDefEqProofs only [hb, go_sem, hh, seval] <;> try simp only [qz] at hb))
    all_goals (try simp only [maxLen, tn, Int.add_zero, hn, kz, lm, List.length_append, List.length_replicate, hs1] at *)
    all_goals first | rfl | omega | skip
    refine ⟨⟨(p ++ [t.extract 0 o], t.extract (o + 1) t.size), ?_, ?_⟩, ?_, ?_⟩
    ·dsimp only; rw [hz, q3, List.append_assoc]; rfl
    ·dsimp only; rw [ByteArray.size_extract]; omega
    ·dsimp only; rw [List.length_append]; simp; omega
    ·have e2 : Lib.countByte (bl s) (UInt8.ofNat (AF sep 0).toNat) + 1 - (p ++ [t.extract 0 o]).length = n := by rw [List.length_append, hn2]; simp
     simp -implicitDefEqProofs only [e2, go_sem, hh, seval]
     try simp
  ·simp -implicitDefEqProofs only [hlt, go_sem, hh, seval]
   rcases My (s := t) h1 with ⟨_, _, q⟩ | ⟨o, q1, q2, q3, q4⟩
   ·have hn : Lib.countByte (bl s) (UInt8.ofNat (AF sep 0).toNat) + 1 - p.length = 0 + 1 := by omega
    rw [q] at hz
    with_reducible repeat' (first | apply ai | intro _ | ((first | apply s1 | apply s3 | apply s4) <;> intro hb <;> simp -implicitDefEqProofs only [hb, go_sem, hh, seval] <;> try simp only [qz] at hb))
    all_goals (try simp only [maxLen, tn, Int.add_zero, hn, kz, lm, List.length_append, List.length_replicate] at *)
    all_goals first | rfl | omega | (simp; done) | skip
    ·rw [hz, List.replicate_zero, List.append_nil, List.take_of_length_le]
     try simp
   ·omega
end
def bx (l : List Bool) : List AV := l.map fun b => .t (.v (.bool b))
def RR (l : List Bool) : List T := l.map fun b => .v (.bool b)
def mt : List T → Option (List Bool)
 | [] => some []
 | .v (.bool b) :: r => (mt r).map (b :: ·)
 | _ => none
theorem RQ : ∀ l, mt (RR l) = some l
 | [] => rfl
 | b :: l => by show (mt (RR l)).map (b :: ·) = _; rw [RQ l]; rfl
theorem Y1 : ∀ {c l}, mt c = some l → RR l = c
 | [], _, h => by cases h; rfl
 | x :: c, l, h => by
   unfold mt at h
   split at h
   ·rename_i e; cases e
   ·rename_i e
    cases e
    cases hq : mt c with
    | none => rw [hq] at h; cases h
    | some l' => rw [hq] at h; cases h; rw [← Y1 hq]; rfl
   ·cases h
def yl : AV → Option (List Bool)
 | .t (.rop c) => mt c
 | _ => none
def tI : AD (List Bool) where
 enc l := .t (.rop (RR l))
 dec := yl
 ed := fun l => RQ l
 de := fun x l h => by
  unfold yl at h
  split at h
  ·rw [← Y1 h]
  ·cases h
theorem Jc {l : List Bool} : tI.dec (.t (.rop (RR l))) = some l := RQ l
theorem Jd {l : List Bool} : tI.enc l = .t (.rop (RR l)) := rfl
theorem KW {l : List Bool} : (bx l).length = l.length := by simp [bx]
theorem UQ {l : List Bool} : (RR l).length = l.length := by simp [RR]
def jc : List Value := List.replicate 256 (.bool false)
def Yw : List Bool := List.replicate 256 false
theorem cq : AJ Tryz.prog 179 = some ⟨.arr 256 4, 256, 256, jc⟩ := wW
theorem UW : jc.map DV = bx Yw := by simp [bx, jc, Yw]; rfl
theorem UR : jc.all CU = true := by decide
theorem O8 : Yw.length = 256 := rfl
theorem PC : List.drop 256 (bx Yw) = [] := rfl
theorem my {l : List Bool} {k : Nat} {b : Bool} (h : k < l.length) : (bx l).take k ++ AV.t (.v (.bool b)) :: (bx l).drop (k + 1) = bx (l.set k b) := by
 unfold bx
 rw [List.set_eq_take_append_cons_drop, if_pos h]
 try simp
theorem d4 {l : List Bool} {n : Nat} (h : l.length = n) : (bx l).take n = bx l := List.take_of_length_le (by rw [KW]; omega)
theorem UV {s : AS} {n : Nat} : ∀ {l : List Bool}, BA (s.snapT (n + 1)) (bx l) = some (RR l)
 | [] => rfl
 | b :: l => by
   have h := UV (s := s) (n := n) (l := l)
   unfold bx RR at h ⊢
   simp only [List.map_cons, BA, h, AS.snapT]
theorem dz {l : List Bool} {k : Nat} (h : k < l.length) : (RR l).drop k = T.v (.bool (l.getD k false)) :: (RR l).drop (k + 1) := by
 rw [List.drop_eq_getElem_cons (by rw [UQ]; exact h)]
 congr 1
 simp [RR, h]
theorem UT {s : AS} : ∀ {l : List Bool}, Da s (bx l) (bx l)
 | [] => trivial
 | b :: l => ⟨by simp only [DS, K6], UT⟩
theorem US {s : AS} : ∀ {l : List Bool}, Bv s (bx l) (bx l) = []
 | [] => rfl
 | b :: l => by show Cj s (.t (.v (.bool b))) (.t (.v (.bool b))) ++ Bv s (bx l) (bx l) = []; rw [US]; rfl
theorem UU {s : AS} : ∀ {l : List Bool}, CN s (bx l) (bx l) = []
 | [] => rfl
 | b :: l => by show C1 s (.t (.v (.bool b))) (.t (.v (.bool b))) ++ CN s (bx l) (bx l) = []; rw [UU]; rfl
theorem MP {d k : Nat} {s : AS} : ∀ {l : List Bool}, AU d k (bx l) s = ⟨bx l, s, k⟩
 | [] => rfl
 | b :: l => by
   show yd.mk (AV.t (.v (.bool b)) :: (AU d k (bx l) s).avs) (AU d k (bx l) s).s (AU d k (bx l) s).k = _
   rw [MP]; rfl
theorem Y2 {k : Nat} : ∀ {l : List Bool}, AV.hasL k (bx l) = false
 | [] => rfl
 | b :: l => by show (false || AV.hasL k (bx l)) = false; rw [Y2]; rfl
theorem PD {k : Nat} : ∀ {l : List Bool}, (bx l).map (AV.drop k) = bx l
 | [] => rfl
 | b :: l => by show AV.t (.v (.bool b)) :: (bx l).map (AV.drop k) = _; rw [PD]; rfl
def Gc (cs : ByteArray) : Nat → List Bool
 | 0 => Yw
 | n + 1 => (Gc cs n).set (AF cs n).toNat true
theorem LM (cs : ByteArray) : ∀ n, (Gc cs n).length = 256
 | 0 => rfl
 | n + 1 => by rw [Gc, List.length_set]; exact LM cs n
def J5 (l : List Bool) (s : ByteArray) : ByteArray :=
 if h : s.size = 0 then s else bif l.getD (AF s (s.size - 1)).toNat false then J5 l (s.extract 0 (s.size - 1)) else s
termination_by s.size
decreasing_by rw [ByteArray.size_extract]; omega
def OT (l : List Bool) (s : ByteArray) : ByteArray :=
 if h : s.size = 0 then s else bif l.getD (AF s 0).toNat false then OT l (s.extract 1 s.size) else s
termination_by s.size
decreasing_by rw [ByteArray.size_extract]; omega
theorem WQ {l : List Bool} : J5 l ⟨#[]⟩ = ⟨#[]⟩ := by rw [J5]; exact dif_pos rfl
theorem WN {l : List Bool} : OT l ⟨#[]⟩ = ⟨#[]⟩ := by rw [OT]; exact dif_pos rfl
theorem ci (l : List Bool) (s : ByteArray) : (J5 l s).size ≤ s.size := by
 rw [J5]
 split
 ·exact Nat.le_refl _
 ·cases l.getD (AF s (s.size - 1)).toNat false
  ·exact Nat.le_refl _
  ·have := ci l (s.extract 0 (s.size - 1))
   rw [ByteArray.size_extract] at this
   show (J5 l (s.extract 0 (s.size - 1))).size ≤ _
   omega
termination_by s.size
decreasing_by rw [ByteArray.size_extract]; omega
def ZA : Ct := Ar (lc tI (lc mX l0)) (fun p => p.1.length = 256 ∧ 0 ≤ p.2.1 ∧ p.2.1 < 256) (fun p => .t (.v (.bool (p.1.getD p.2.1.toNat false))))
section
attribute [local go_sem] cq Jc Jd UQ
theorem gb {G : Gt} (hG : Ah G) : Gd G 179 (AA 0 ZA) := by
 refine gr (fn := Tryz.f179) (n := 2) rfl rfl hG ?_
 rintro ⟨l, c, ⟨⟩⟩ hpre
 simp -implicitDefEqProofs only [Tryz.f179, go_sem, Nat.reduceAdd, Nat.reduceMul, Nat.reduceLeDiff, Nat.reduceEqDiff, reduceCtorEq, Nat.reduceSub, Int.reduceNeg, Nat.reduceMod, Nat.reduceBEq, Nat.reduceLT] at hpre ⊢
 have hk : c.toNat < l.length := by omega
 simp -implicitDefEqProofs only [dz hk, Nat.mul_one, hpre.1, go_sem, Nat.reduceAdd, Nat.reduceMul, Nat.reduceLeDiff, Nat.reduceEqDiff, reduceCtorEq, Nat.reduceSub, Int.reduceNeg, Nat.reduceMod, Nat.reduceBEq, Nat.reduceLT]
 with_reducible repeat' (first | apply ai | intro _ | ((first | apply s1 | apply s3 | apply s4) <;> intro hb <;> simp -implicitDefEqProofs only [hb, go_sem, Nat.reduceAdd, Nat.reduceMul, Nat.reduceLeDiff, Nat.reduceEqDiff, reduceCtorEq, Nat.reduceSub, Int.reduceNeg, Nat.reduceMod, Nat.reduceBEq, Nat.reduceLT] <;> try simp only [qz] at hb))
 all_goals first | rfl | omega | skip
 all_goals trace_state
end
def nZ : Ct := Ar (lc Ax (lc tI l0)) (fun p => p.2.1.length = 256 ∧ p.1.size ≤ 2000000) (fun p => .t (.v (.string (J5 p.2.1 p.1))))
section
attribute [local go_sem] ZA Jc Jd Bool.not_true Bool.not_false
theorem gH {G : Gt} (hG : Ah G) (hh : G.e 179 = AA 0 ZA) : Gd G 159 (AA 0 nZ) := by
 refine gr (fn := Tryz.f159) (n := 2) rfl rfl hG ?_
 rintro ⟨s, l, ⟨⟩⟩ hpre
 simp -implicitDefEqProofs only [Tryz.f159, go_sem, hh, Nat.reduceAdd, Nat.reduceMul, Nat.reduceLeDiff, Nat.reduceEqDiff, reduceCtorEq, Nat.reduceSub, Int.reduceNeg, Nat.reduceMod, Nat.reduceBEq, Nat.reduceLT] at hpre ⊢
 refine AE [] (ι := {t : ByteArray // J5 l t = J5 l s ∧ t.size ≤ s.size}) (fun p => ⟨[(0, .t (.v (.string p.1))), (1, .t (.rop (RR l)))], []⟩) (fun p => p.1.size) ⟨s, rfl, Nat.le_refl _⟩ rfl ?_ ?_
 ·simp -implicitDefEqProofs only [go_sem, hh, Nat.reduceAdd, Nat.reduceMul, Nat.reduceLeDiff, Nat.reduceEqDiff, reduceCtorEq, Nat.reduceSub, Int.reduceNeg, Nat.reduceMod, Nat.reduceBEq, Nat.reduceLT]
  try simp
 ·rintro ⟨t, ht, hts⟩
  by_cases h0 : t.size = 0
  ·have h1 : (t.size : Int) = 0 := by omega
   simp -implicitDefEqProofs only [h1, go_sem, hh, Nat.reduceAdd, Nat.reduceMul, Nat.reduceLeDiff, Nat.reduceEqDiff, reduceCtorEq, Nat.reduceSub, Int.reduceNeg, Nat.reduceMod, Nat.reduceBEq, Nat.reduceLT]
   with_reducible repeat' (first | apply ai | intro _ | ((first | apply s1 | apply s3 | apply s4) <;> intro hb <;> simp -implicitDefEqProofs only [hb, go_sem, hh, Nat.reduceAdd, Nat.reduceMul, Nat.reduceLeDiff, Nat.reduceEqDiff, reduceCtorEq, Nat.reduceSub, Int.reduceNeg, Nat.reduceMod, Nat.reduceBEq, Nat.reduceLT] <;> try simp only [qz] at hb))
   all_goals first | rfl | omega | skip
   rw [← ht, J5, dif_pos h0]
  ·have h1 : (t.size : Int) > 0 := by omega
   have hbr := A9 t (t.size - 1)
   have hr : J5 l t = bif l.getD (AF t (t.size - 1)).toNat false then J5 l (t.extract 0 (t.size - 1)) else t := by
    rw [J5, dif_neg h0]
   have e1 : ((t.size : Int) - 1).toNat = (t.size - 1) := by omega
   cases hb : l.getD (AF t (((t.size : Int) - 1).toNat)).toNat false
   ·simp -implicitDefEqProofs only [h1, hb, go_sem, hh, Nat.reduceAdd, Nat.reduceMul, Nat.reduceLeDiff, Nat.reduceEqDiff, reduceCtorEq, Nat.reduceSub, Int.reduceNeg, Nat.reduceMod, Nat.reduceBEq, Nat.reduceLT]
    with_reducible repeat' (first | apply ai | intro _ | ((first | apply s1 | apply s3 | apply s4) <;> intro hb <;> simp -implicitDefEqProofs only [hb, go_sem, hh, Nat.reduceAdd, Nat.reduceMul, Nat.reduceLeDiff, Nat.reduceEqDiff, reduceCtorEq, Nat.reduceSub, Int.reduceNeg, Nat.reduceMod, Nat.reduceBEq, Nat.reduceLT] <;> try simp only [qz] at hb))
    all_goals first | rfl | omega | skip
    all_goals rw [e1] at *
    all_goals first | omega | (rw [← ht, hr, hb]; rfl)
   ·simp -implicitDefEqProofs only [h1, hb, go_sem, hh, Nat.reduceAdd, Nat.reduceMul, Nat.reduceLeDiff, Nat.reduceEqDiff, reduceCtorEq, Nat.reduceSub, Int.reduceNeg, Nat.reduceMod, Nat.reduceBEq, Nat.reduceLT]
    with_reducible repeat' (first | apply ai | intro _ | ((first | apply s1 | apply s3 | apply s4) <;> intro hb <;> simp -implicitDefEqProofs only [hb, go_sem, hh, Nat.reduceAdd, Nat.reduceMul, Nat.reduceLeDiff, Nat.reduceEqDiff, reduceCtorEq, Nat.reduceSub, Int.reduceNeg, Nat.reduceMod, Nat.reduceBEq, Nat.reduceLT] <;> try simp only [qz] at hb))
    all_goals first | rfl | omega | skip
    all_goals rw [e1] at *
    all_goals first | omega | skip
    refine ⟨⟨t.extract 0 (t.size - 1), ?_, ?_⟩, ?_, ?_⟩
    ·rw [← ht, hr, hb]; rfl
    ·rw [ByteArray.size_extract]; omega
    ·show (t.extract 0 (t.size - 1)).size < t.size
     rw [ByteArray.size_extract]; omega
    ·simp -implicitDefEqProofs only [go_sem, hh, Nat.reduceAdd, Nat.reduceMul, Nat.reduceLeDiff, Nat.reduceEqDiff, reduceCtorEq, Nat.reduceSub, Int.reduceNeg, Nat.reduceMod, Nat.reduceBEq, Nat.reduceLT]
     try simp [e1]
end
def nY : Ct := Ar (lc Ax (lc tI l0)) (fun p => p.2.1.length = 256 ∧ p.1.size ≤ 2000000) (fun p => .t (.v (.string (OT p.2.1 p.1))))
section
attribute [local go_sem] ZA Jc Jd Bool.not_true Bool.not_false
theorem gG {G : Gt} (hG : Ah G) (hh : G.e 179 = AA 0 ZA) : Gd G 158 (AA 0 nY) := by
 refine gr (fn := Tryz.f158) (n := 2) rfl rfl hG ?_
 rintro ⟨s, l, ⟨⟩⟩ hpre
 simp -implicitDefEqProofs only [Tryz.f158, go_sem, hh, Nat.reduceAdd, Nat.reduceMul, Nat.reduceLeDiff, Nat.reduceEqDiff, reduceCtorEq, Nat.reduceSub, Int.reduceNeg, Nat.reduceMod, Nat.reduceBEq, Nat.reduceLT] at hpre ⊢
 refine AE [] (ι := {t : ByteArray // OT l t = OT l s ∧ t.size ≤ s.size}) (fun p => ⟨[(0, .t (.v (.string p.1))), (1, .t (.rop (RR l)))], []⟩) (fun p => p.1.size) ⟨s, rfl, Nat.le_refl _⟩ rfl ?_ ?_
 ·simp -implicitDefEqProofs only [go_sem, hh, Nat.reduceAdd, Nat.reduceMul, Nat.reduceLeDiff, Nat.reduceEqDiff, reduceCtorEq, Nat.reduceSub, Int.reduceNeg, Nat.reduceMod, Nat.reduceBEq, Nat.reduceLT]
  try simp
 ·rintro ⟨t, ht, hts⟩
  by_cases h0 : t.size = 0
  ·have h1 : (t.size : Int) = 0 := by omega
   simp -implicitDefEqProofs only [h1, go_sem, hh, Nat.reduceAdd, Nat.reduceMul, Nat.reduceLeDiff, Nat.reduceEqDiff, reduceCtorEq, Nat.reduceSub, Int.reduceNeg, Nat.reduceMod, Nat.reduceBEq, Nat.reduceLT]
   with_reducible repeat' (first | apply ai | intro _ | ((first | apply s1 | apply s3 | apply s4) <;> intro hb <;> simp -implicitDefEqProofs only [hb, go_sem, hh, Nat.reduceAdd, Nat.reduceMul, Nat.reduceLeDiff, Nat.reduceEqDiff, reduceCtorEq, Nat.reduceSub, Int.reduceNeg, Nat.reduceMod, Nat.reduceBEq, Nat.reduceLT] <;> try simp only [qz] at hb))
   all_goals first | rfl | omega | skip
   rw [← ht, OT, dif_pos h0]
  ·have h1 : (t.size : Int) > 0 := by omega
   have hbr := A9 t 0
   have hr : OT l t = bif l.getD (AF t 0).toNat false then OT l (t.extract 1 t.size) else t := by
    rw [OT, dif_neg h0]
   have e1 : Int.toNat 0 = 0 := by omega
   cases hb : l.getD (AF t (Int.toNat 0)).toNat false
   ·simp -implicitDefEqProofs only [h1, hb, go_sem, hh, Nat.reduceAdd, Nat.reduceMul, Nat.reduceLeDiff, Nat.reduceEqDiff, reduceCtorEq, Nat.reduceSub, Int.reduceNeg, Nat.reduceMod, Nat.reduceBEq, Nat.reduceLT]
    with_reducible repeat' (first | apply ai | intro _ | ((first | apply s1 | apply s3 | apply s4) <;> intro hb <;> simp -implicitDefEqProofs only [hb, go_sem, hh, Nat.reduceAdd, Nat.reduceMul, Nat.reduceLeDiff, Nat.reduceEqDiff, reduceCtorEq, Nat.reduceSub, Int.reduceNeg, Nat.reduceMod, Nat.reduceBEq, Nat.reduceLT] <;> try simp only [qz] at hb))
    all_goals first | rfl | omega | skip
    all_goals rw [e1] at *
    all_goals first | omega | (rw [← ht, hr, hb]; rfl)
   ·simp -implicitDefEqProofs only [h1, hb, go_sem, hh, Nat.reduceAdd, Nat.reduceMul, Nat.reduceLeDiff, Nat.reduceEqDiff, reduceCtorEq, Nat.reduceSub, Int.reduceNeg, Nat.reduceMod, Nat.reduceBEq, Nat.reduceLT]
    with_reducible repeat' (first | apply ai | intro _ | ((first | apply s1 | apply s3 | apply s4) <;> intro hb <;> simp -implicitDefEqProofs only [hb, go_sem, hh, Nat.reduceAdd, Nat.reduceMul, Nat.reduceLeDiff, Nat.reduceEqDiff, reduceCtorEq, Nat.reduceSub, Int.reduceNeg, Nat.reduceMod, Nat.reduceBEq, Nat.reduceLT] <;> try simp only [qz] at hb))
    all_goals first | rfl | omega | skip
    all_goals rw [e1] at *
    all_goals first | omega | skip
    refine ⟨⟨t.extract 1 t.size, ?_, ?_⟩, ?_, ?_⟩
    ·rw [← ht, hr, hb]; rfl
    ·rw [ByteArray.size_extract]; omega
    ·show (t.extract 1 t.size).size < t.size
     rw [ByteArray.size_extract]; omega
    ·simp -implicitDefEqProofs only [go_sem, hh, Nat.reduceAdd, Nat.reduceMul, Nat.reduceLeDiff, Nat.reduceEqDiff, reduceCtorEq, Nat.reduceSub, Int.reduceNeg, Nat.reduceMod, Nat.reduceBEq, Nat.reduceLT]
     try simp [e1]
end
def nX : Ct := Ar (lc Ax l0) (fun p => p.1.size ≤ 1000 ∧ ∀ j, j < p.1.size → AF p.1 j < 128) (fun p => .tup [.agg (bx (Gc p.1 p.1.size)), .t (.v (.bool true))])
section
attribute [local go_sem] cq UW UR
theorem gE {G : Gt} (hG : Ah G) : Gd G 157 (AA 0 nX) := by
 refine gr (fn := Tryz.f157) (n := 1) rfl rfl hG ?_ (hs := fun _ _ => .tup _ (by intro c hc; simp only [List.mem_cons, List.not_mem_nil, or_false] at hc; rcases hc with rfl | rfl <;> first | exact .v _ | exact .agg _ (by intro c hc; simp only [bx, List.mem_map] at hc; obtain ⟨b, _, rfl⟩ := hc; exact .v _)))
 rintro ⟨cs, ⟨⟩⟩ hpre
 simp -implicitDefEqProofs only [Tryz.f157, go_sem, Nat.reduceAdd, Nat.reduceMul, Nat.reduceLeDiff, Nat.reduceEqDiff, reduceCtorEq, Nat.reduceSub, Int.reduceNeg, Nat.reduceMod, Nat.reduceBEq, Nat.reduceLT] at hpre ⊢
 with_reducible repeat' (first | apply ai | intro _ | ((first | apply s1 | apply s3 | apply s4) <;> intro hb <;> simp -implicitDefEqProofs only [hb, go_sem, Nat.reduceAdd, Nat.reduceMul, Nat.reduceLeDiff, Nat.reduceEqDiff, reduceCtorEq, Nat.reduceSub, Int.reduceNeg, Nat.reduceMod, Nat.reduceBEq, Nat.reduceLT] <;> try simp only [qz] at hb))
 all_goals first | rfl | omega | skip
 refine AE [] (ι := {i : Nat // i ≤ cs.size}) (fun p => ⟨[(0, .t (.v (.string cs))), (2, .pb 1002 0), (4, .t (.v (.int .i64 p.1)))], [(1002, some (.box (bx (Gc cs p.1))))]⟩) (fun p => cs.size - p.1) ⟨0, Nat.zero_le _⟩ rfl ?_ ?_
 ·simp -implicitDefEqProofs only [go_sem, Nat.reduceAdd, Nat.reduceMul, Nat.reduceLeDiff, Nat.reduceEqDiff, reduceCtorEq, Nat.reduceSub, Int.reduceNeg, Nat.reduceMod, Nat.reduceBEq, Nat.reduceLT]
  exact ⟨rfl, rfl⟩
 ·rintro ⟨i, hi⟩
  have hbr := A9 cs i
  have hlen := LM cs i
  by_cases hlt : (i : Int) < cs.size
  ·have h128 := hpre.2 i (by omega)
   have h1 : ¬ AF cs (i : Int).toNat ≥ 128 := by rw [tn]; omega
   have h2 : (AF cs (i : Int).toNat).toNat * 1 < (Gc cs i).length := by rw [tn]; omega
   simp -implicitDefEqProofs only [hlt, h1, Nat.zero_add, go_sem, Nat.reduceAdd, Nat.reduceMul, Nat.reduceLeDiff, Nat.reduceEqDiff, reduceCtorEq, Nat.reduceSub, Int.reduceNeg, Nat.reduceMod, Nat.reduceBEq, Nat.reduceLT]
   with_reducible repeat' (first | apply ai | intro _ | ((first | apply s1 | apply s3 | apply s4) <;> intro hb <;> simp -implicitDefEqProofs only [hb, go_sem, Nat.reduceAdd, Nat.reduceMul, Nat.reduceLeDiff, Nat.reduceEqDiff, reduceCtorEq, Nat.reduceSub, Int.reduceNeg, Nat.reduceMod, Nat.reduceBEq, Nat.reduceLT] <;> try simp only [qz] at hb))
   all_goals (try rw [tn])
   all_goals first | rfl | omega | (simp only [KW, hlen]; omega) | skip
   refine ⟨⟨i + 1, by omega⟩, by dsimp only; omega, ?_⟩
   simp -implicitDefEqProofs only [go_sem, Nat.reduceAdd, Nat.reduceMul, Nat.reduceLeDiff, Nat.reduceEqDiff, reduceCtorEq, Nat.reduceSub, Int.reduceNeg, Nat.reduceMod, Nat.reduceBEq, Nat.reduceLT]
   refine ⟨by simp, ?_⟩
   refine congrArg Ob.box ?_
   rw [Gc]
   simp only [tn, Nat.mul_one]
   exact my (by omega)
  ·have e1 : i = cs.size := by omega
   have e2 : List.drop 256 (bx (Gc cs i)) = [] := List.drop_eq_nil_of_le (by rw [KW, hlen]; exact Nat.le_refl _)
   have e3 : decide (256 ≤ 256) = true := rfl
   simp -implicitDefEqProofs only [hlt, d4 hlen, KW, hlen, e2, List.append_nil, Nat.zero_add, e3, cond_true, go_sem, Nat.reduceAdd, Nat.reduceMul, Nat.reduceLeDiff, Nat.reduceEqDiff, reduceCtorEq, Nat.reduceSub, Int.reduceNeg, Nat.reduceMod, Nat.reduceBEq, Nat.reduceLT]
   subst e1
   with_reducible repeat' (first | apply ai | intro _ | ((first | apply s1 | apply s3 | apply s4) <;> intro hb <;> simp -implicitDefEqProofs only [hb, go_sem, Nat.reduceAdd, Nat.reduceMul, Nat.reduceLeDiff, Nat.reduceEqDiff, reduceCtorEq, Nat.reduceSub, Int.reduceNeg, Nat.reduceMod, Nat.reduceBEq, Nat.reduceLT] <;> try simp only [qz] at hb))
   all_goals first
    | rfl
    | omega
    | exact UT
    | (rw [US]; exact .nil)
    | (rw [UU]; simp; done)
    | skip
   all_goals trace_state
end
def nH : Ct := Ar (lc Ax (lc Ax l0)) (fun p => p.2.1.size ≤ 1000 ∧ 2 ≤ p.2.1.size ∧ p.1.size ≤ 2000000 ∧ ∀ j, j < p.2.1.size → AF p.2.1 j < 128) (fun p => .t (.v (.string (OT (Gc p.2.1 p.2.1.size) (J5 (Gc p.2.1 p.2.1.size) p.1)))))
section
attribute [local go_sem] nX nY nZ cq UW UR PC O8 Jc Jd
theorem fi {G : Gt} (hG : Ah G) (hh : G.e 157 = AA 0 nX ∧ G.e 158 = AA 0 nY ∧ G.e 159 = AA 0 nZ) : Gd G 132 (AA 0 nH) := by
 refine gr (fn := Tryz.f132) (n := 2) rfl rfl hG ?_
 rintro ⟨s, cs, ⟨⟩⟩ hpre
 simp -implicitDefEqProofs only [Tryz.f132, go_sem, hh, Nat.reduceAdd, Nat.reduceMul, Nat.reduceLeDiff, Nat.reduceEqDiff, reduceCtorEq, Nat.reduceSub, Int.reduceNeg, Nat.reduceMod, Nat.reduceBEq, Nat.reduceLT] at hpre ⊢
 have hc : ¬ cs = ⟨#[]⟩ := by intro e; rw [e] at hpre; exact absurd hpre.2.1 (by decide)
 have h1 : ¬ (cs.size : Int) = 1 := by omega
 have hlen := LM cs cs.size
 have htr : (J5 (Gc cs cs.size) s).size ≤ s.size := ci _ s
 by_cases hs : s = ⟨#[]⟩
 ·simp -implicitDefEqProofs only [hs, go_sem, hh, Nat.reduceAdd, Nat.reduceMul, Nat.reduceLeDiff, Nat.reduceEqDiff, reduceCtorEq, Nat.reduceSub, Int.reduceNeg, Nat.reduceMod, Nat.reduceBEq, Nat.reduceLT]
  with_reducible repeat' (first | apply ai | intro _ | ((first | apply s1 | apply s3 | apply s4) <;> intro hb <;> simp -implicitDefEqProofs only [hb, go_sem, hh, Nat.reduceAdd, Nat.reduceMul, Nat.reduceLeDiff, Nat.reduceEqDiff, reduceCtorEq, Nat.reduceSub, Int.reduceNeg, Nat.reduceMod, Nat.reduceBEq, Nat.reduceLT] <;> try simp only [qz] at hb))
  all_goals first | rfl | omega | skip
  all_goals (rw [WQ, WN])
 ·simp -implicitDefEqProofs only [hs, hc, h1, MP, Y2, PD, KW, hlen, O8, PC, UV, List.append_nil, List.nil_append, Nat.zero_add, go_sem, hh, Nat.reduceAdd, Nat.reduceMul, Nat.reduceLeDiff, Nat.reduceEqDiff, reduceCtorEq, Nat.reduceSub, Int.reduceNeg, Nat.reduceMod, Nat.reduceBEq, Nat.reduceLT]
  with_reducible repeat' (first | apply ai | intro _ | ((first | apply s1 | apply s3 | apply s4) <;> intro hb <;> simp -implicitDefEqProofs only [hb, go_sem, hh, Nat.reduceAdd, Nat.reduceMul, Nat.reduceLeDiff, Nat.reduceEqDiff, reduceCtorEq, Nat.reduceSub, Int.reduceNeg, Nat.reduceMod, Nat.reduceBEq, Nat.reduceLT] <;> try simp only [qz] at hb))
  all_goals first | rfl | omega | exact hpre.2.2.2 | exact hpre.2.2.2 _ (by assumption) | skip
  all_goals trace_state
end
theorem l3 {s : ByteArray} (h : s.size = 0) : s = ⟨#[]⟩ := by
 have : bl s = [] := List.eq_nil_of_length_eq_zero (by rw [CP]; exact h)
 exact G4 this
theorem G5 {s : ByteArray} {a b j : Nat} (h : a + j < b) : AF (s.extract a b) j = AF s (a + j) := by
 rw [CJ, CJ, Dt]
 congr 2
 simp only [List.getD_eq_getElem?_getD]
 rw [List.getElem?_take_of_lt (by omega), List.getElem?_drop]
section
variable {l : List Bool}
theorem cj {s : ByteArray} (h : s.size ≠ 0) : J5 l s = bif l.getD (AF s (s.size - 1)).toNat false then J5 l (s.extract 0 (s.size - 1)) else s := by rw [J5, dif_neg h]
theorem se {s : ByteArray} (h : s.size ≠ 0) : OT l s = bif l.getD (AF s 0).toNat false then OT l (s.extract 1 s.size) else s := by rw [OT, dif_neg h]
theorem WO {s : ByteArray} (h : ∀ j, j < s.size → l.getD (AF s j).toNat false = true) : J5 l s = ⟨#[]⟩ := by
 by_cases h0 : s.size = 0
 ·rw [l3 h0, WQ]
 ·rw [cj h0, h (s.size - 1) (by omega), cond_true]
  refine WO fun j hj => ?_
  rw [ByteArray.size_extract] at hj
  rw [G5 (by omega), Nat.zero_add]
  exact h j (by omega)
termination_by s.size
decreasing_by rw [ByteArray.size_extract]; omega
theorem WM {s : ByteArray} (h : OT l s = ⟨#[]⟩) : ∀ j, j < s.size → l.getD (AF s j).toNat false = true := by
 intro j hj
 have h0 : s.size ≠ 0 := by omega
 rw [se h0] at h
 cases hb : l.getD (AF s 0).toNat false
 ·rw [hb, cond_false] at h
  rw [h] at hj
  cases hj
 ·rw [hb, cond_true] at h
  by_cases hj0 : j = 0
  ·rw [hj0]; exact hb
  ·have := WM h (j - 1) (by rw [ByteArray.size_extract]; omega)
   rw [G5 (by omega)] at this
   rw [show 1 + (j - 1) = j by omega] at this
   exact this
termination_by s.size
decreasing_by rw [ByteArray.size_extract]; omega
theorem WP {s : ByteArray} (h : ∀ j, j < (J5 l s).size → l.getD (AF (J5 l s) j).toNat false = true) : ∀ j, j < s.size → l.getD (AF s j).toNat false = true := by
 intro j hj
 have h0 : s.size ≠ 0 := by omega
 rw [cj h0] at h
 cases hb : l.getD (AF s (s.size - 1)).toNat false
 ·rw [hb, cond_false] at h
  exact h j hj
 ·rw [hb, cond_true] at h
  by_cases hj0 : j = s.size - 1
  ·rw [hj0]; exact hb
  ·have := WP h j (by rw [ByteArray.size_extract]; omega)
   rw [G5 (by omega), Nat.zero_add] at this
   exact this
termination_by s.size
decreasing_by rw [ByteArray.size_extract]; omega
theorem sg (s : ByteArray) : OT l (J5 l s) = ⟨#[]⟩ ↔ ∀ j, j < s.size → l.getD (AF s j).toNat false = true :=
 ⟨fun h => WP (WM h), fun h => by rw [WO h, WN]⟩
end
def tD : ByteArray := ⟨#[97, 98, 99, 100, 101, 102, 103, 104, 105, 106, 107, 108, 109, 110, 111, 112, 113, 114, 115, 116, 117, 118, 119, 120, 121, 122, 48, 49, 50, 51, 52, 53, 54, 55, 56, 57]⟩
theorem ie : ∀ k : Nat, k < 256 → (Gc tD 36).getD k false = ((Nat.ble 97 k && Nat.ble k 122) || (Nat.ble 48 k && Nat.ble k 57)) := by decide +kernel
theorem ig (s : ByteArray) : OT (Gc tD 36) (J5 (Gc tD 36) s) = ⟨#[]⟩ ↔ ∀ j, j < s.size → Kr (AF s j) := by
 rw [sg]
 refine forall_congr' fun j => imp_congr_right fun _ => ?_
 have h := A9 s j
 rw [ie _ (by omega)]
 simp only [Bool.or_eq_true, Bool.and_eq_true, Nat.ble_eq]
 unfold Kr
 omega
theorem RO (a b : ByteArray) : bl (a ++ b) = bl a ++ bl b := by
 unfold bl; rw [ByteArray.data_append, Array.toList_append]
theorem yI : UInt8.ofNat (AF ⟨#[46]⟩ 0).toNat = 46 := rfl
theorem ii : ∀ j, j < 36 → AF tD j < 128 := by decide +kernel
def xx : Ct := Ar (lc Ax (lc Ax l0)) (fun p => p.2.1.size = 1 ∧ p.1.size ≤ 2000000) (fun p => .o true 1 ((Ir p.1 (UInt8.ofNat (AF p.2.1 0).toNat)).map AH))
section
attribute [local go_sem] nG
theorem qu {G : Gt} (hG : Ah G) (hh : G.e 131 = AA 0 nG) : Gd G 79 (AA 0 xx) := by
 refine gr (fn := Tryz.f79) (n := 2) rfl rfl hG ?_ (hs := fun _ _ => .deep _ _)
 rintro ⟨s, sep, ⟨⟩⟩ hpre
 simp -implicitDefEqProofs only [Tryz.f79, go_sem, hh, seval] at hpre ⊢
 with_reducible repeat' (first | apply ai | intro _ | ((first | apply s1 | apply s3 | apply s4) <;> intro hb <;> simp -implicitDefEqProofs only [hb, go_sem, hh, seval] <;> try simp only [qz] at hb))
 all_goals first | rfl | omega | (simp; done) | skip
end
def Xv : Ct := Ar (lc BK (lc BK (lc BK l0))) (fun p => True) (fun p => .t (.v (.bool (BW (p.2.1 ≤ p.1 ∧ p.1 ≤ p.2.2.1)))))
theorem qO {G : Gt} (hG : Ah G) : Gd G 48 (AA 0 Xv) := by
 refine gr (fn := Tryz.f48) (n := 3) rfl rfl hG ?_
 rintro ⟨n, a, b, ⟨⟩⟩ hpre
 simp -implicitDefEqProofs only [Tryz.f48, go_sem, seval] at hpre ⊢
 with_reducible repeat' (first | apply ai | intro _ | ((first | apply s1 | apply s3 | apply s4) <;> intro hb <;> simp -implicitDefEqProofs only [hb, go_sem, seval] <;> try simp only [qz] at hb))
 all_goals first | rfl | omega | skip
 all_goals first
  | (rw [Bl]; simp only [*]; done)
  | (rw [Bl]; simp [*])
def yF : Ct := Ar (lc Ax l0) (fun p => p.1.size ≤ 2000000) (fun p => .t (.v (.bool (BW (IH p.1)))))
theorem rK {G : Gt} (hG : Ah G) : Gd G 98 (AA 0 yF) := by
 refine gr (fn := Tryz.f98) (n := 1) rfl rfl hG ?_
 rintro ⟨s, ⟨⟩⟩ hpre
 simp -implicitDefEqProofs only [Tryz.f98, go_sem, seval] at hpre ⊢
 with_reducible repeat' (first | apply ai | intro _ | ((first | apply s1 | apply s3 | apply s4) <;> intro hb <;> simp -implicitDefEqProofs only [hb, go_sem, seval] <;> try simp only [qz] at hb))
 all_goals first | rfl | omega | skip
 refine AE [] (ι := {i : Nat // i ≤ s.size ∧ ∀ j, j < i → 32 ≤ AF s j ∧ AF s j ≤ 126}) (fun p => ⟨[(0, .t (.v (.string s))), (5, .t (.v (.int .i64 s.size))), (6, .t (.v (.int .i64 p.1)))], []⟩) (fun p => s.size - p.1) ⟨0, Nat.zero_le _, fun j hj => absurd hj (Nat.not_lt_zero _)⟩ rfl ?_ ?_
 ·simp -implicitDefEqProofs only [go_sem, seval]
  try simp
 ·rintro ⟨i, hi, hall⟩
  by_cases hlt : (i : Int) < s.size
  ·by_cases h1 : AF s (i : Int).toNat < 32
   ·simp -implicitDefEqProofs only [hlt, h1, go_sem, seval]
    with_reducible repeat' (first | apply ai | intro _ | ((first | apply s1 | apply s3 | apply s4) <;> intro hb <;> simp -implicitDefEqProofs only [hb, go_sem, seval] <;> try simp only [qz] at hb))
    all_goals (try simp only [maxLen, tn] at *)
    all_goals first | rfl | omega | skip
    rw [AQ (fun h => by have := (h.1 i (by omega)).1; omega)]
   ·by_cases h2 : AF s (i : Int).toNat > 126
    ·simp -implicitDefEqProofs only [hlt, h1, h2, go_sem, seval]
     with_reducible repeat' (first | apply ai | intro _ | ((first | apply s1 | apply s3 | apply s4) <;> intro hb <;> simp -implicitDefEqProofs only [hb, go_sem, seval] <;> try simp only [qz] at hb))
     all_goals (try simp only [maxLen, tn] at *)
     all_goals first | rfl | omega | skip
     rw [AQ (fun h => by have := (h.1 i (by omega)).2; omega)]
    ·simp -implicitDefEqProofs only [hlt, h1, h2, go_sem, seval]
     with_reducible repeat' (first | apply ai | intro _ | ((first | apply s1 | apply s3 | apply s4) <;> intro hb <;> simp -implicitDefEqProofs only [hb, go_sem, seval] <;> try simp only [qz] at hb))
     all_goals (try simp only [maxLen, tn] at *)
     all_goals first | rfl | omega | skip
     refine ⟨⟨i + 1, by omega, fun j hj => ?_⟩, by dsimp only; omega, ?_⟩
     ·by_cases e : j = i
      ·subst e; omega
      ·exact hall j (by omega)
     ·simp -implicitDefEqProofs only [go_sem, seval]
      try simp
  ·simp -implicitDefEqProofs only [hlt, go_sem, seval]
   with_reducible repeat' (first | apply ai | intro _ | ((first | apply s1 | apply s3 | apply s4) <;> intro hb <;> simp -implicitDefEqProofs only [hb, go_sem, seval] <;> try simp only [qz] at hb))
   all_goals (try simp only [maxLen, tn] at *)
   all_goals first | rfl | omega | skip
   rw [← Bl, Ab]
   exact ⟨fun h => ⟨fun j hj => hall j (by omega), by omega⟩, fun h => by have := h.2; omega⟩
def tz : Ct := Ar (lc Ax l0) (fun p => True) (fun p => .t (.v (.bool (BW (Td p.1)))))
section
attribute [local go_sem] Xv nH AZ AY
theorem qv {G : Gt} (hG : Ah G) (hh : G.e 48 = AA 0 Xv ∧ G.e 132 = AA 0 nH) : Gd G 80 (AA 0 tz) := by
 refine gr (fn := Tryz.f80) (n := 1) rfl rfl hG ?_
 rintro ⟨s, ⟨⟩⟩ hpre
 simp -implicitDefEqProofs only [Tryz.f80, go_sem, hh, seval] at hpre ⊢
 with_reducible repeat' (first | apply ai | intro _ | ((first | apply s1 | apply s3 | apply s4) <;> intro hb <;> simp -implicitDefEqProofs only [hb, go_sem, hh, seval] <;> try simp only [qz] at hb))
 all_goals first | rfl | omega | exact ii _ (by assumption) | (simp; done) | skip
 ·show T.v (.bool (decide (OT (Gc tD 36) (J5 (Gc tD 36) s) = ⟨#[]⟩))) = _
  rw [← Bl]
  refine congrArg (fun b => T.v (.bool b)) (Ab ((ig s).trans ?_))
  exact ⟨fun h => ⟨h, by omega, by omega⟩, fun h => h.1⟩
 ·rw [AQ (fun h => hb ⟨by have := h.2.1; omega, by have := h.2.2; omega⟩)]
end
def Xu : Ct := Ar (lc Ax l0) (fun p => p.1.size ≤ 2000000) (fun p => .t (.v (.bool (BW (D9 p.1)))))
section
attribute [local go_sem] xx tz yI Bb AT lm Bool.not_true Bool.not_false
theorem qE {G : Gt} (hG : Ah G) (hh : G.e 79 = AA 0 xx ∧ G.e 80 = AA 0 tz) : Gd G 34 (AA 0 Xu) := by
 refine gr (fn := Tryz.f34) (n := 1) rfl rfl hG ?_
 rintro ⟨s, ⟨⟩⟩ hpre
 simp -implicitDefEqProofs only [Tryz.f34, go_sem, hh, seval] at hpre ⊢
 with_reducible repeat' (first | apply ai | intro _ | ((first | apply s1 | apply s3 | apply s4) <;> intro hb <;> simp -implicitDefEqProofs only [hb, go_sem, hh, seval] <;> try simp only [qz] at hb))
 all_goals first | rfl | omega | skip
 have hlen := GR s 46
 have hcnt := ZI s 46
 refine AE [] (ι := {i : Nat // i ≤ (Ir s 46).length ∧ ∀ j, j < i → Td ((Ir s 46).getD j default)}) (fun p => ⟨[(3, .h 1007), (8, .h 1007), (9, .t (.v (.int .i64 (Ir s 46).length))), (10, .t (.v (.int .i64 p.1)))], [(1007, some (.arr true 1 ((Ir s 46).map AH)))]⟩) (fun p => (Ir s 46).length - p.1) ⟨0, Nat.zero_le _, fun j hj => absurd hj (Nat.not_lt_zero _)⟩ rfl ?_ ?_
 ·simp -implicitDefEqProofs only [go_sem, hh, seval]
  try simp
 ·rintro ⟨i, hi, hall⟩
  by_cases hlt : (i : Int) < (Ir s 46).length
  ·cases hb : BW (Td ((Ir s 46).getD (i : Int).toNat default))
   ·simp -implicitDefEqProofs only [hlt, hb, go_sem, hh, seval]
    with_reducible repeat' (first | apply ai | intro _ | ((first | apply s1 | apply s3 | apply s4) <;> intro hb <;> simp -implicitDefEqProofs only [hb, go_sem, hh, seval] <;> try simp only [qz] at hb))
    all_goals (try simp only [maxLen, tn, AY] at *)
    all_goals first | rfl | omega | skip
    rw [AQ (fun h => hb (((Jl s).1 h).1 _ (AC (by omega))))]
   ·simp -implicitDefEqProofs only [hlt, hb, go_sem, hh, seval]
    with_reducible repeat' (first | apply ai | intro _ | ((first | apply s1 | apply s3 | apply s4) <;> intro hb <;> simp -implicitDefEqProofs only [hb, go_sem, hh, seval] <;> try simp only [qz] at hb))
    all_goals (try simp only [maxLen, tn, AZ] at *)
    all_goals first | rfl | omega | skip
    refine ⟨⟨i + 1, by omega, DM hall hb⟩, by dsimp only; omega, ?_⟩
    simp -implicitDefEqProofs only [go_sem, hh, seval]
    try simp
  ·simp -implicitDefEqProofs only [hlt, go_sem, hh, seval]
   with_reducible repeat' (first | apply ai | intro _ | ((first | apply s1 | apply s3 | apply s4) <;> intro hb <;> simp -implicitDefEqProofs only [hb, go_sem, hh, seval] <;> try simp only [qz] at hb))
   all_goals first | rfl | omega | skip
   rw [← Bl, Ab (Jl s)]
   refine congrArg (fun b => T.v (.bool b)) (Ab ?_)
   exact ⟨fun h => ⟨BF fun j hj => hall j (by omega), by omega⟩, fun h => by have := h.2; omega⟩
end
def dB : Ct := Ar (lc DY.ag l0) (fun p => p.1.domain.size ≤ 2000000) (fun p => .t (.v (.bool (BW (BS p.1)))))
section
attribute [local go_sem] tz Xu
theorem qM {G : Gt} (hG : Ah G) (hh : G.e 80 = AA 0 tz ∧ G.e 34 = AA 0 Xu) : Gd G 44 (AA 0 dB) := by
 refine gr (fn := Tryz.f44) (n := 1) rfl rfl hG ?_
 rintro ⟨a, ⟨⟩⟩ hpre
 simp -implicitDefEqProofs only [Tryz.f44, go_sem, hh, seval] at hpre ⊢
 with_reducible repeat' (first | apply ai | intro _ | ((first | apply s1 | apply s3 | apply s4) <;> intro hb <;> simp -implicitDefEqProofs only [hb, go_sem, hh, seval] <;> try simp only [qz] at hb))
 all_goals (try simp only [AZ, AY] at *)
 all_goals first | rfl | omega | skip
 ·refine congrArg (fun b => T.v (.bool b)) (Ab ⟨fun h => ⟨by assumption, h⟩, fun h => h.2⟩)
 ·rw [AQ (fun h => absurd h.1 (by assumption))]
end
def yD : Ct := Ar (lc DY.ag l0) (fun p => True) (fun p => .t (.v (.bool (BW (Ac p.1)))))
theorem rI {G : Gt} (hG : Ah G) : Gd G 95 (AA 0 yD) := by
 refine gr (fn := Tryz.f95) (n := 1) rfl rfl hG ?_
 rintro ⟨a, ⟨⟩⟩ hpre
 simp -implicitDefEqProofs only [Tryz.f95, go_sem, seval] at hpre ⊢
 with_reducible repeat' (first | apply ai | intro _ | ((first | apply s1 | apply s3 | apply s4) <;> intro hb <;> simp -implicitDefEqProofs only [hb, go_sem, seval] <;> try simp only [qz] at hb))
 all_goals first | rfl | omega | skip
 ·unfold Ac
  rw [Bl]
  by_cases h1 : a.user = ⟨#[]⟩ <;> by_cases h2 : a.domain = ⟨#[]⟩ <;> simp [h1, h2]
def s6 : Ct := Ar (lc DY.ag l0) (fun p => p.1.domain.size ≤ 2000000) (fun p => .t (.v (.bool (BW (BS p.1 ∨ Ac p.1)))))
section
attribute [local go_sem] dB yD
theorem qN {G : Gt} (hG : Ah G) (hh : G.e 44 = AA 0 dB ∧ G.e 95 = AA 0 yD) : Gd G 47 (AA 0 s6) := by
 refine gr (fn := Tryz.f47) (n := 1) rfl rfl hG ?_
 rintro ⟨a, ⟨⟩⟩ hpre
 simp -implicitDefEqProofs only [Tryz.f47, go_sem, hh, seval] at hpre ⊢
 with_reducible repeat' (first | apply ai | intro _ | ((first | apply s1 | apply s3 | apply s4) <;> intro hb <;> simp -implicitDefEqProofs only [hb, go_sem, hh, seval] <;> try simp only [qz] at hb))
 all_goals (try simp only [AZ, AY] at *)
 all_goals first | rfl | omega | skip
 ·rw [Ap (.inr (by assumption))]
 ·refine congrArg (fun b => T.v (.bool b)) (Ab ⟨fun h => .inl h, fun h => h.resolve_right (by assumption)⟩)
end
section
attribute [local go_sem] Xu
end
namespace FN
variable {α : Type} (E : FN α)
def apD : AV → Option α
 | .t (.rop c) => E.dec c
 | _ => none
def ap : AD α where
 enc a := .t (.rop (E.enc a))
 dec := E.apD
 ed := fun a => E.ed a
 de := fun x a h => by
  unfold apD at h
  split at h
  ·rw [E.de _ _ h]
  ·cases h
end FN
noncomputable def BM {α : Type} (p : α → Prop) : Nat → List α → Int
 | _, [] => -1
 | k, x :: t => bif BW (p x) then k else BM p (k + 1) t
theorem EQ {α : Type} [Inhabited α] {p : α → Prop} {xs : List α} {i : Nat} (h : i < xs.length) (ha : p (xs.getD i default)) : BM p i (xs.drop i) = i := by
 rw [AW h, BM, Ap ha]; rfl
theorem Fp {α : Type} [Inhabited α] {p : α → Prop} {xs : List α} {i : Nat} (h : i < xs.length) (ha : ¬ p (xs.getD i default)) : BM p i (xs.drop i) = BM p (i + 1) (xs.drop (i + 1)) := by
 rw [AW h, BM, AQ ha]; rfl
theorem EP {α : Type} {p : α → Prop} {xs : List α} {i : Nat} (h : xs.length ≤ i) : BM p i (xs.drop i) = -1 := by
 rw [List.drop_eq_nil_of_le h, BM]
theorem FF {α : Type} {p : α → Prop} : ∀ (xs : List α) (k : Nat), 0 ≤ BM p k xs ↔ ∃ x ∈ xs, p x
 | [], k => by simp [BM]
 | x :: t, k => by
   rw [BM]
   by_cases h : p x
   ·rw [Ap h, cond_true]
    exact ⟨fun _ => ⟨x, by simp, h⟩, fun _ => by omega⟩
   ·rw [AQ h, cond_false, FF t (k + 1)]
    simp [h]
inductive EB where
 | line
 | dom
def EB.enc : EB → AV
 | .line  => .t (.fn 97 [])
 | .dom  => .t (.fn 91 [])
def EB.dec : AV → Option EB
 | .t (.fn 97 []) => some (.line )
 | .t (.fn 91 []) => some (.dom )
 | _ => none
def EB.sem : EB → ByteArray → Prop
 | .line , x => ¬ IH x
 | .dom , x => ¬ D9 x
def EB.pre : EB → ByteArray → Prop
 | .line , x => x.size ≤ 2000000
 | .dom , x => x.size ≤ 2000000
def L7 : AD EB where
 enc := EB.enc
 dec := EB.dec
 ed := fun f => by cases f <;> rfl
 de := fun x f h => by
  unfold EB.dec at h
  split at h <;> cases h <;> rfl
theorem Dk  : L7.dec (.t (.fn 97 [])) = some (.line ) := rfl
theorem Dm  : L7.enc (.line ) = .t (.fn 97 []) := rfl
theorem Dl  : L7.dec (.t (.fn 91 [])) = some (.dom ) := rfl
theorem Dn  : L7.enc (.dom ) = .t (.fn 91 []) := rfl
def yE : Ct := Ar (lc Ax l0) (fun p => p.1.size ≤ 2000000) (fun p => .t (.v (.bool (BW (¬ IH p.1)))))
section
attribute [local go_sem] yF Bool.not_true Bool.not_false Bw DR
theorem rJ {G : Gt} (hG : Ah G) (hh : G.e 98 = AA 0 yF) : Gd G 97 (AA 0 yE) := by
 refine gr (fn := Tryz.f97) (n := 1) rfl rfl hG ?_
 rintro ⟨x, ⟨⟩⟩ hpre
 simp -implicitDefEqProofs only [Tryz.f97, go_sem, hh, seval] at hpre ⊢
 with_reducible repeat' (first | apply ai | intro _ | ((first | apply s1 | apply s3 | apply s4) <;> intro hb <;> simp -implicitDefEqProofs only [hb, go_sem, hh, seval] <;> try simp only [qz] at hb))
 all_goals first | rfl | omega | exact hpre | skip
 all_goals (try (simp only [Jq]; done))
 all_goals first | rfl | (rw [Bl]; done) | (rw [Bl, decide_eq_decide.2]; simp [B8]; done) | (rw [Bl]; simp [B8]; done)
end
def yA : Ct := Ar (lc Ax l0) (fun p => p.1.size ≤ 2000000) (fun p => .t (.v (.bool (BW (¬ D9 p.1)))))
section
attribute [local go_sem] Xu Bool.not_true Bool.not_false Bw DR
theorem rE {G : Gt} (hG : Ah G) (hh : G.e 34 = AA 0 Xu) : Gd G 91 (AA 0 yA) := by
 refine gr (fn := Tryz.f91) (n := 1) rfl rfl hG ?_
 rintro ⟨x, ⟨⟩⟩ hpre
 simp -implicitDefEqProofs only [Tryz.f91, go_sem, hh, seval] at hpre ⊢
 with_reducible repeat' (first | apply ai | intro _ | ((first | apply s1 | apply s3 | apply s4) <;> intro hb <;> simp -implicitDefEqProofs only [hb, go_sem, hh, seval] <;> try simp only [qz] at hb))
 all_goals first | rfl | omega | exact hpre | skip
 all_goals (try (simp only [Jq]; done))
 all_goals first | rfl | (rw [Bl]; done) | (rw [Bl, decide_eq_decide.2]; simp [B8]; done) | (rw [Bl]; simp [B8]; done)
end
def nK : Ct := Ar (lc Al.asl (lc L7 l0)) (fun p => ∀ x ∈ p.1, p.2.1.pre x) (fun p => .t (.v (.int .i64 (BM p.2.1.sem 0 p.1))))
section
attribute [local go_sem] yE yA Bool.not_true Bool.not_false Bw DR Dk Dm Dl Dn
theorem fm {G : Gt} (hG : Ah G) (hh : G.e 97 = AA 0 yE ∧ G.e 91 = AA 0 yA) : Gd G 136 (AA 0 nK) := by
 refine gr (fn := Tryz.f136) (n := 2) rfl rfl hG ?_
 rintro ⟨xs, f, ⟨⟩⟩ hpre
 have hs := hpre
 dsimp only at hs ⊢
 cases f with
 | line  =>
   simp -implicitDefEqProofs only [Tryz.f136, go_sem, hh, seval]
   with_reducible repeat' (first | apply ai | intro _ | ((first | apply s1 | apply s3 | apply s4) <;> intro hb <;> simp -implicitDefEqProofs only [hb, go_sem, hh, seval] <;> try simp only [qz] at hb))
   all_goals first | rfl | omega | skip
   refine AE [] (ι := {i : Nat // i ≤ xs.length ∧ BM (EB.sem (.line )) 0 xs = BM (EB.sem (.line )) i (xs.drop i)}) (fun p => ⟨[(0, .t (.sl 1 (xs.map AH))), (1, .t (.fn 97 [])), (7, .t (.v (.int .i64 xs.length))), (8, .t (.v (.int .i64 p.1)))], []⟩) (fun p => xs.length - p.1) ⟨0, Nat.zero_le _, rfl⟩ rfl ?_ ?_
   ·simp -implicitDefEqProofs only [go_sem, hh, seval]
    try simp
   ·rintro ⟨i, hi, hix⟩
    by_cases hlt : (i : Int) < xs.length
    ·have hm : xs.getD (i : Int).toNat default ∈ xs := AC (by omega)
     have hsz := hs _ hm
     cases hb : BW (¬ IH (xs.getD (i : Int).toNat default))
     ·have hq := hb
      simp -implicitDefEqProofs only [hlt, hq, go_sem, hh, seval]
      with_reducible repeat' (first | apply ai | intro _ | ((first | apply s1 | apply s3 | apply s4) <;> intro hb <;> simp -implicitDefEqProofs only [hb, go_sem, hh, seval] <;> try simp only [qz] at hb))
      all_goals (try simp only [maxLen] at *)
      all_goals first | rfl | omega | with_reducible assumption | exact hsz | exact hsz.1 | exact hsz.2 | exact hsz.2 _ (by assumption) | exact hsz.2.1 | exact hsz.2.2.1 | exact hsz.2.2.2 | trivial | skip
      rw [AY, tn] at hb
      refine ⟨⟨i + 1, by omega, ?_⟩, by dsimp only; omega, ?_⟩
      ·rw [hix, Fp (p := EB.sem (.line )) (by omega) hb]
      ·simp -implicitDefEqProofs only [go_sem, hh, seval]
       try simp
     ·have hq := hb
      simp -implicitDefEqProofs only [hlt, hq, go_sem, hh, seval]
      with_reducible repeat' (first | apply ai | intro _ | ((first | apply s1 | apply s3 | apply s4) <;> intro hb <;> simp -implicitDefEqProofs only [hb, go_sem, hh, seval] <;> try simp only [qz] at hb))
      all_goals (try simp only [maxLen] at *)
      all_goals first | rfl | omega | with_reducible assumption | exact hsz | exact hsz.1 | exact hsz.2 | exact hsz.2 _ (by assumption) | exact hsz.2.1 | exact hsz.2.2.1 | exact hsz.2.2.2 | trivial | skip
      rw [AZ, tn] at hb
      rw [hix, EQ (p := EB.sem (.line )) (by omega) hb]
    ·simp -implicitDefEqProofs only [hlt, go_sem, hh, seval]
     with_reducible repeat' (first | apply ai | intro _ | ((first | apply s1 | apply s3 | apply s4) <;> intro hb <;> simp -implicitDefEqProofs only [hb, go_sem, hh, seval] <;> try simp only [qz] at hb))
     all_goals first | rfl | omega | skip
     all_goals (rw [hix, EP (by omega)])
 | dom  =>
   simp -implicitDefEqProofs only [Tryz.f136, go_sem, hh, seval]
   with_reducible repeat' (first | apply ai | intro _ | ((first | apply s1 | apply s3 | apply s4) <;> intro hb <;> simp -implicitDefEqProofs only [hb, go_sem, hh, seval] <;> try simp only [qz] at hb))
   all_goals first | rfl | omega | skip
   refine AE [] (ι := {i : Nat // i ≤ xs.length ∧ BM (EB.sem (.dom )) 0 xs = BM (EB.sem (.dom )) i (xs.drop i)}) (fun p => ⟨[(0, .t (.sl 1 (xs.map AH))), (1, .t (.fn 91 [])), (7, .t (.v (.int .i64 xs.length))), (8, .t (.v (.int .i64 p.1)))], []⟩) (fun p => xs.length - p.1) ⟨0, Nat.zero_le _, rfl⟩ rfl ?_ ?_
   ·simp -implicitDefEqProofs only [go_sem, hh, seval]
    try simp
   ·rintro ⟨i, hi, hix⟩
    by_cases hlt : (i : Int) < xs.length
    ·have hm : xs.getD (i : Int).toNat default ∈ xs := AC (by omega)
     have hsz := hs _ hm
     cases hb : BW (¬ D9 (xs.getD (i : Int).toNat default))
     ·have hq := hb
      simp -implicitDefEqProofs only [hlt, hq, go_sem, hh, seval]
      with_reducible repeat' (first | apply ai | intro _ | ((first | apply s1 | apply s3 | apply s4) <;> intro hb <;> simp -implicitDefEqProofs only [hb, go_sem, hh, seval] <;> try simp only [qz] at hb))
      all_goals (try simp only [maxLen] at *)
      all_goals first | rfl | omega | with_reducible assumption | exact hsz | exact hsz.1 | exact hsz.2 | exact hsz.2 _ (by assumption) | exact hsz.2.1 | exact hsz.2.2.1 | exact hsz.2.2.2 | trivial | skip
      rw [AY, tn] at hb
      refine ⟨⟨i + 1, by omega, ?_⟩, by dsimp only; omega, ?_⟩
      ·rw [hix, Fp (p := EB.sem (.dom )) (by omega) hb]
      ·simp -implicitDefEqProofs only [go_sem, hh, seval]
       try simp
     ·have hq := hb
      simp -implicitDefEqProofs only [hlt, hq, go_sem, hh, seval]
      with_reducible repeat' (first | apply ai | intro _ | ((first | apply s1 | apply s3 | apply s4) <;> intro hb <;> simp -implicitDefEqProofs only [hb, go_sem, hh, seval] <;> try simp only [qz] at hb))
      all_goals (try simp only [maxLen] at *)
      all_goals first | rfl | omega | with_reducible assumption | exact hsz | exact hsz.1 | exact hsz.2 | exact hsz.2 _ (by assumption) | exact hsz.2.1 | exact hsz.2.2.1 | exact hsz.2.2.2 | trivial | skip
      rw [AZ, tn] at hb
      rw [hix, EQ (p := EB.sem (.dom )) (by omega) hb]
    ·simp -implicitDefEqProofs only [hlt, go_sem, hh, seval]
     with_reducible repeat' (first | apply ai | intro _ | ((first | apply s1 | apply s3 | apply s4) <;> intro hb <;> simp -implicitDefEqProofs only [hb, go_sem, hh, seval] <;> try simp only [qz] at hb))
     all_goals first | rfl | omega | skip
     all_goals (rw [hix, EP (by omega)])
end
def uC : Ct := Ar (lc Al.asl (lc L7 l0)) (fun p => ∀ x ∈ p.1, p.2.1.pre x) (fun p => .t (.v (.bool (BW (∃ x ∈ p.1, p.2.1.sem x)))))
section
attribute [local go_sem] nK Bool.not_true Bool.not_false Bw DR Dk Dm Dl Dn
theorem rG {G : Gt} (hG : Ah G) (hh : G.e 136 = AA 0 nK) : Gd G 93 (AA 0 uC) := by
 refine gr (fn := Tryz.f93) (n := 2) rfl rfl hG ?_
 rintro ⟨xs, f, ⟨⟩⟩ hpre
 dsimp only at hpre ⊢
 cases f
 all_goals
  simp -implicitDefEqProofs only [Tryz.f93, go_sem, hh, seval]
  with_reducible repeat' (first | apply ai | intro _ | ((first | apply s1 | apply s3 | apply s4) <;> intro hb <;> simp -implicitDefEqProofs only [hb, go_sem, hh, seval] <;> try simp only [qz] at hb))
  all_goals first | rfl | omega | exact hpre | exact hpre _ (by assumption) | skip
  all_goals (rw [← Ab (FF _ 0)]; rw [Bl])
end
section
attribute [local go_sem] Bool.not_true Bool.not_false Bw DR
end
section
attribute [local go_sem] Bool.not_true Bool.not_false Bw DR
end
def eF : Ct := Ar (lc Al.asl l0) (fun p => ∀ s ∈ p.1, s.size ≤ 2000000) (fun p => .t (.v (.bool (BW (Ck p.1)))))
section
attribute [local go_sem] uC Bool.not_true Bool.not_false Bw DR Dk Dm Dl Dn
theorem qQ {G : Gt} (hG : Ah G) (hh : G.e 93 = AA 0 uC) : Gd G 51 (AA 0 eF) := by
 refine gr (fn := Tryz.f51) (n := 1) rfl rfl hG ?_
 rintro ⟨xs, ⟨⟩⟩ hpre
 simp -implicitDefEqProofs only [Tryz.f51, go_sem, hh, seval] at hpre ⊢
 with_reducible repeat' (first | apply ai | intro _ | ((first | apply s1 | apply s3 | apply s4) <;> intro hb <;> simp -implicitDefEqProofs only [hb, go_sem, hh, seval] <;> try simp only [qz] at hb))
 all_goals first | rfl | omega | exact hpre | exact hpre _ (by assumption) | exact trivial | skip
 ·rw [Jq]
  refine congrArg (fun b => T.v (.bool b)) (Ab ?_)
  constructor
  ·intro h
   exact ⟨fun s hs => Classical.byContradiction fun q => h ⟨s, hs, q⟩, by omega⟩
  ·rintro h ⟨s, hs, q⟩
   exact q (h.1 s hs)
 ·rw [AQ (fun h => by have := h.2; omega)]
end
theorem y0 : Maps.Keyed Tryz.prog 37 := Maps.Keyed.of_law (deep_law_laid (m := 5) (by kernel_rfl) (by decide) (Nat.lt_of_lt_of_le (Nat.lt_succ_self 37) (Nat.le_of_ble_eq_true (by kernel_rfl))) (by kernel_rfl) (by kernel_rfl))
noncomputable def W8 : Array Field := match Tryz.prog.underlying 37 with | some (.struct fs) => fs | _ => #[]
theorem yc : Tryz.prog.underlying 37 = some (.struct W8) := by kernel_rfl
theorem u9 : Tryz.prog.underlying 9 = some .string := by kernel_rfl
theorem po : (W8.toList.map fun f => (f.type, f.offset)) = [(9, 0), (9, 1)] := by kernel_rfl
theorem pq : W8.all (·.name != "_") = true := by kernel_rfl
theorem y9 : Tryz.prog.cellsOf 9 = 1 := by kernel_rfl
theorem uG : Tryz.prog.cellsOf 37 = 2 := by kernel_rfl
theorem yQ : Tryz.prog.keyType 37 = true := by kernel_rfl
theorem yb : ∃ n, Tryz.prog.types.size + 1 = n + 2 := ⟨Tryz.prog.types.size - 1, by
 have : 37 < Tryz.prog.types.size := Nat.lt_of_lt_of_le (Nat.lt_succ_self 37) (Nat.le_of_ble_eq_true (by kernel_rfl))
 omega⟩
theorem yq (d : Nat) {s : ByteArray} (h : s.size ≤ maxLen) : Tryz.prog.keyLits (d + 1) 9 [.string s] = some [.string s.data.toList] := by
 simp only [Program.keyLits, u9, if_pos h]
theorem u4 {k : MK} (h : k.ok (some 2)) : ∃ l, keyOf Tryz.prog 37 k.val = some l := by
 cases k with
 | i n => exact h.elim
 | s b => exact absurd h.1 (by decide)
 | ss l =>
   obtain ⟨h1, h2, _⟩ := h
   obtain ⟨u, d, rfl⟩ : ∃ u d, l = [u, d] := by
    rcases l with _ | ⟨u, _ | ⟨d, _ | ⟨z, t⟩⟩⟩
    ·cases h1
    ·cases h1
    ·exact ⟨u, d, rfl⟩
    ·simp at h1
   obtain ⟨n, hn⟩ := yb
   have hl : W8.toList.map (fun f => (f.type, f.offset)) = [(9, 0), (9, 1)] := po
   rcases hf : W8.toList with _ | ⟨f, _ | ⟨g, _ | ⟨z, t⟩⟩⟩
   ·rw [hf] at hl; cases hl
   ·rw [hf] at hl; simp at hl
   ·rw [hf] at hl
    ·simp only [List.map_cons, List.map_nil, List.cons.injEq, Prod.mk.injEq, and_true] at hl
     obtain ⟨⟨a1, a2⟩, b1, b2⟩ := hl
     refine ⟨.string (keyBytes [.string u.data.toList, .string d.data.toList]), ?_⟩
     have hform : (MK.val (.ss [u, d])).formed Tryz.prog 37 = true := by
      simp only [Value.formed, MK.val, yc, uG]
      rfl
     unfold keyOf
     rw [yc]
     show (if (Tryz.prog.keyType 37 && (MK.val (.ss [u, d])).formed Tryz.prog 37) = true then _ else none) = _
     rw [yQ, hform]
     refine (if_pos rfl).trans ?_
     rw [hn]
     have : Tryz.prog.keyLits (n + 2) 37 (MK.val (.ss [u, d])).cells.toList = some [.string u.data.toList, .string d.data.toList] := by
      show Tryz.prog.keyLits (n + 2) 37 [.string u, .string d] = _
      have e1 : [Value.string u, Value.string d].length = Tryz.prog.cellsOf 37 ∧ W8.all (·.name != "_") = true := ⟨by rw [uG]; rfl, pq⟩
      rw [Program.keyLits.eq_def]
      simp only [yc]
      refine (if_pos e1).trans ?_
      rw [hf]
      simp only [List.mapM_cons, List.mapM_nil, a1, a2, b1, b2, y9, List.drop_zero, List.take_succ_cons, List.take_zero, List.drop_succ_cons, yq n (h2 u (by simp)), yq n (h2 d (by simp))]
      rfl
     rw [this]; rfl
   ·rw [hf] at hl
    simp only [List.map_cons, List.cons.injEq] at hl
    exact absurd hl.2.2 (by simp)
theorem yP : IJ Tryz.prog 37 (some 2) := IJ.ss y0 u4
def lK (a : Ad) : MK := .ss [a.user, a.domain]
theorem it {a b : Ad} (h : lK a = lK b) : a = b := by
 cases a; cases b
 simp only [lK, MK.ss.injEq, List.cons.injEq, and_true] at h
 rw [h.1, h.2]
def dis (xs : List Ad) : List (MK × Bool) := xs.foldl (fun es a => L6 (lK a) true es) []
theorem Kf (xs : List Ad) (a : Ad) : dis (xs ++ [a]) = L6 (lK a) true (dis xs) := by simp [dis]
theorem F4 {k : MK} {b : Bool} : ∀ {es : List (MK × Bool)}, (L6 k b es).map Prod.fst = if k ∈ es.map Prod.fst then es.map Prod.fst else es.map Prod.fst ++ [k]
 | [] => by simp [L6]
 | p :: r => by
   rw [L6]
   by_cases h : p.1 = k
   ·simp [h]
   ·have hk : ¬ k = p.1 := fun e => h e.symm
    rw [if_neg h, List.map_cons, F4]
    by_cases h2 : k ∈ r.map Prod.fst
    ·rw [if_pos h2, if_pos (by simp only [List.map_cons, List.mem_cons]; exact .inr h2)]; rfl
    ·rw [if_neg h2, if_neg (by simp only [List.map_cons, List.mem_cons]; exact fun e => e.elim hk h2)]; rfl
theorem eh (xs : List Ad) (a : Ad) : lK a ∈ (dis xs).map Prod.fst ↔ a ∈ xs := by
 generalize hr : xs.reverse = r
 have hx : xs = r.reverse := by rw [← hr, List.reverse_reverse]
 subst hx
 clear hr
 induction r with
 | nil => simp [dis]
 | cons b r ih =>
   rw [List.reverse_cons, Kf, F4, List.mem_append, ← propext ih]
   by_cases h : lK b ∈ (dis r.reverse).map Prod.fst
   ·rw [if_pos h]
    constructor
    ·exact .inl
    ·rintro (h1 | h1)
     ·exact h1
     ·rw [List.mem_singleton.1 h1]; exact h
   ·rw [if_neg h, List.mem_append, List.mem_singleton, List.mem_singleton]
    exact or_congr_right ⟨it, fun e => by rw [e]⟩
theorem eg (xs : List Ad) : (dis xs).length ≤ xs.length ∧ ((dis xs).length = xs.length ↔ xs.Nodup) := by
 generalize hr : xs.reverse = r
 have hx : xs = r.reverse := by rw [← hr, List.reverse_reverse]
 subst hx
 clear hr
 induction r with
 | nil => simp [dis]
 | cons b r ih =>
   have hl : ∀ es : List (MK × Bool), es.length = (es.map Prod.fst).length := fun es => by rw [lm]
   have hn : (r.reverse ++ [b]).Nodup ↔ r.reverse.Nodup ∧ b ∉ r.reverse := by
    rw [List.nodup_append]
    constructor
    ·rintro ⟨h1, _, h3⟩
     exact ⟨h1, fun hb => h3 b hb b (by simp) rfl⟩
    ·rintro ⟨h1, h2⟩
     refine ⟨h1, by simp, fun x hx y hy e => ?_⟩
     rw [List.mem_singleton] at hy
     subst hy; subst e; exact h2 hx
   rw [List.reverse_cons, Kf, hl, F4, List.length_append, hn, ← eh]
   obtain ⟨i1, i2⟩ := ih
   by_cases h : lK b ∈ (dis r.reverse).map Prod.fst
   ·rw [if_pos h, ← hl]
    refine ⟨by omega, ⟨fun e => ?_, fun e => absurd h e.2⟩⟩
    simp at e i1; omega
   ·rw [if_neg h, List.length_append, ← hl]
    refine ⟨by simp at *; omega, ⟨fun e => ⟨i2.1 (by simp at *; omega), h⟩, fun e => ?_⟩⟩
    have := i2.2 e.1
    simp at *; omega
theorem Sw {xs : List Ad} {i : Nat} (h : i < xs.length) : xs.take (i + 1) = xs.take i ++ [xs.getD i default] := by
 rw [List.take_succ_eq_append_getElem h]
 simp [h]
theorem Zv {xs : List Ad} {i : Nat} (h : i < xs.length) : L6 (.ss [(xs.getD i default).user, (xs.getD i default).domain]) true (dis (xs.take i)) = dis (xs.take (i + 1)) := by
 rw [Sw h, Kf]; rfl
def w9 : Ct := Ar (lc DY.asl l0) (fun p => True) (fun p => .t (.v (.bool (BW p.1.Nodup))))
section
attribute [local go_sem] Bool.not_true Bool.not_false Bw DR Dk Dm Dl Dn
theorem qP {G : Gt} (hG : Ah G) : Gd G 50 (AA 0 w9) := by
 refine gr (fn := Tryz.f50) (n := 1) rfl rfl hG ?_
 rintro ⟨xs, ⟨⟩⟩ hpre
 simp -implicitDefEqProofs only [Tryz.f50, go_sem, seval] at hpre ⊢
 with_reducible repeat' (first | apply ai | intro _ | ((first | apply s1 | apply s3 | apply s4) <;> intro hb <;> simp -implicitDefEqProofs only [hb, go_sem, seval] <;> try simp only [qz] at hb))
 all_goals first | rfl | omega | skip
 refine AE [] (ι := {i : Nat // i ≤ xs.length}) (fun p => ⟨[(0, .t (.sl 2 (xs.map Am))), (3, .h 1006), (7, .t (.sl 2 (xs.map Am))), (8, .t (.v (.int .i64 xs.length))), (9, .t (.v (.int .i64 p.1)))], [(1006, some (.mp (some 2) (dis (xs.take p.1))))]⟩) (fun p => xs.length - p.1) ⟨0, Nat.zero_le _⟩ rfl ?_ ?_
 ·simp -implicitDefEqProofs only [go_sem, seval]
  try simp
  rfl
 ·rintro ⟨i, hi⟩
  by_cases hlt : (i : Int) < xs.length
  ·simp -implicitDefEqProofs only [hlt, go_sem, seval]
   with_reducible repeat' (first | apply ai | intro _ | ((first | apply s1 | apply s3 | apply s4) <;> intro hb <;> simp -implicitDefEqProofs only [hb, go_sem, seval] <;> try simp only [qz] at hb))
   all_goals (try simp only [maxLen] at *)
   all_goals first | rfl | omega | exact yP | skip
   refine ⟨⟨i + 1, by omega⟩, by dsimp only; omega, ?_⟩
   simp -implicitDefEqProofs only [go_sem, seval]
   simp only [tn, Zv (show i < xs.length by omega)]
   try simp
  ·simp -implicitDefEqProofs only [hlt, go_sem, seval]
   with_reducible repeat' (first | apply ai | intro _ | ((first | apply s1 | apply s3 | apply s4) <;> intro hb <;> simp -implicitDefEqProofs only [hb, go_sem, seval] <;> try simp only [qz] at hb))
   all_goals first | rfl | omega | skip
   rw [List.take_of_length_le (by omega), ← Ab (eg xs).2, Bl]
   refine congrArg (fun b => T.v (.bool b)) (decide_eq_decide.2 ?_)
   omega
end
theorem Az {α : Type} [Inhabited α] (enc : α → List T) {xs : List α} {i : Nat} (h : i < xs.length) : (xs.take (i + 1)).map enc = (xs.take i).map enc ++ [enc (xs.getD i default)] := by
 rw [List.take_succ_eq_append_getElem h, List.map_append, List.map_cons, List.map_nil]
 simp only [List.getD_eq_getElem?_getD, List.getElem?_eq_getElem h, Option.getD_some]
theorem Ja {α : Type} {enc : α → List T} {xs : List α} {k : Nat} : (xs.map enc).take k = (xs.take k).map enc := List.map_take.symm
theorem JR {α : Type} {enc : α → List T} {xs : List α} {k : Nat} : (xs.map enc).drop k = (xs.drop k).map enc := List.map_drop.symm
def Oj (r : Rc) : Prop := BS r.addr ∧ (0 ≤ r.tries ∧ r.tries ≤ 3) ∧ (0 ≤ r.next ∧ r.next ≤ 9999)
def Do (x : Im) : Prop := (∀ r ∈ x.to, Oj r) ∧ (x.to.map Rc.addr).Nodup ∧ 0 < x.id ∧ (BS x.frm ∨ Ac x.frm) ∧ (1 ≤ x.to.length ∧ x.to.length ≤ 4) ∧ Ck x.body
def xO (xs : List Im) : Prop := ∀ j, 0 < j → j < xs.length → (xs.getD (j - 1) default).id < (xs.getD j default).id
def Bh (s : Sp) : Prop := (∀ x ∈ s.items, Do x ∧ x.id ≤ s.last) ∧ xO s.items ∧ (0 ≤ s.last ∧ s.last ≤ 999) ∧ s.items.length ≤ 10
theorem SM {xs : List Rc} (h : ∀ j, j < xs.length → ∀ k, k < j → ¬ (xs.getD k default).addr = (xs.getD j default).addr) : (xs.map Rc.addr).Nodup := by
 rw [List.nodup_iff_pairwise_ne, List.pairwise_iff_getElem]
 intro k j hk hj hkj
 rw [lm] at hk hj
 have := h j hj k hkj
 simpa [hk, hj] using this
theorem RJ {xs : List Rc} (h : (xs.map Rc.addr).Nodup) {k i : Nat} (hk : k < i) (hi : i < xs.length) : ¬ (xs.getD k default).addr = (xs.getD i default).addr := fun e => by
 have q1 : k < xs.length := by omega
 simp only [List.getD_eq_getElem?_getD, List.getElem?_eq_getElem q1, List.getElem?_eq_getElem hi, Option.getD_some] at e
 exact List.pairwise_iff_getElem.1 (List.nodup_iff_pairwise_ne.1 h) k i (by simpa using q1) (by simpa using hi) hk (by simpa using e)
def nc : Ct := Ar (lc WS.ag l0) (fun p => True) (fun p => .t (.v (.bool (BW (Oj p.1)))))
section
attribute [local go_sem] IU JP
theorem gI {G : Gt} (hG : Ah G) (hh : G.e 106 = AA 0 IU ∧ G.e 69 = AA 0 JP) : Gd G 163 (AA 0 nc) := by
 refine gr (fn := Tryz.f163) (n := 1) rfl rfl hG ?_
 rintro ⟨r, ⟨⟩⟩ hpre
 simp -implicitDefEqProofs only [Tryz.f163, go_sem, hh, seval] at hpre ⊢
 with_reducible repeat' (first | apply ai | intro _ | ((first | apply s1 | apply s3 | apply s4) <;> intro hb <;> simp -implicitDefEqProofs only [hb, go_sem, hh, seval] <;> try simp only [qz] at hb))
 all_goals first
  | rfl
  | omega
  | exact congrArg (fun b => T.v (Value.bool b)) (Ab ⟨fun h => ⟨by assumption, by assumption, h⟩, fun h => h.2.2⟩)
  | (rw [AQ (fun h => absurd h.1 (by assumption))]; done)
  | (rw [AQ (fun h => absurd h.2.1 (by assumption))]; done)
end
def nJ : Ct := Ar (lc J6.ag l0) (fun p => True) (fun p => .t (.v (.bool (BW (Do p.1)))))
section
attribute [local go_sem] IU JP nc IV NS lm
set_option maxHeartbeats 800000 in
theorem fk {G : Gt} (hG : Ah G) (hh : G.e 106 = AA 0 IU ∧ G.e 69 = AA 0 JP ∧ G.e 163 = AA 0 nc ∧ G.e 119 = AA 0 IV ∧ G.e 120 = AA 0 NS) : Gd G 135 (AA 0 nJ) := by
 refine gr (fn := Tryz.f135) (n := 1) rfl rfl hG ?_
 rintro ⟨x, ⟨⟩⟩ hpre
 simp -implicitDefEqProofs only [Tryz.f135, go_sem, hh, seval] at hpre ⊢
 have hbox : ∀ y : Im, Ob.box [AV.t (T.v (Value.int IntKind.i64 y.id)), AV.t (T.v (Value.string y.frm.user)), AV.t (T.v (Value.string y.frm.domain)), AV.t (T.sl 4 (List.map BN y.to)), AV.t (T.sl 1 (List.map AH y.body))] = Ob.box ((As y).map .t) := fun _ => rfl
 refine AE [] (ι := {i : Nat // i ≤ x.to.length ∧ (∀ j, j < i → Oj (x.to.getD j default)) ∧ ∀ j, j < i → ∀ k, k < j → ¬ (x.to.getD k default).addr = (x.to.getD j default).addr}) (fun p => ⟨[(1, .pb 1001 0), (3, .t (.v (.int .i64 p.1)))], [(1001, some (.box ((As x).map .t)))]⟩) (fun p => x.to.length - p.1) ⟨0, by simp, by simp, by simp⟩ rfl ?_ ?_
 ·simp -implicitDefEqProofs only [go_sem, hh, seval]
  try simp
 ·rintro ⟨i, hi, hall, hno⟩
  simp -implicitDefEqProofs only [go_sem, hh, seval]
  with_reducible repeat' (first | apply ai | intro _ | ((first | apply s1 | apply s3 | apply s4) <;> intro hb <;> simp -implicitDefEqProofs only [hb, go_sem, hh, seval] <;> try simp only [qz] at hb))
  all_goals (try simp only [maxLen, tn, lm] at *)
  all_goals first | rfl | omega | skip
  ·rw [AQ (fun h => hb (h.1 _ (AC (by omega))))]
  ·refine AE [] (ι := {k : Nat // k ≤ i ∧ ∀ j, j < k → ¬ (x.to.getD j default).addr = (x.to.getD i default).addr}) (fun p => ⟨[(1, .pb 1001 0), (3, .t (.v (.int .i64 i))), (4, .t (.v (.int .i64 p.1)))], [(1001, some (.box ((As x).map .t)))]⟩) (fun p => i - p.1) ⟨0, by simp, by simp⟩ rfl ?_ ?_
   ·simp -implicitDefEqProofs only [go_sem, hh, seval]
    try simp
   ·rintro ⟨k, hk, hk2⟩
    simp -implicitDefEqProofs only [go_sem, hh, seval]
    with_reducible repeat' (first | apply ai | intro _ | ((first | apply s1 | apply s3 | apply s4) <;> intro hb <;> simp -implicitDefEqProofs only [hb, go_sem, hh, seval] <;> try simp only [qz] at hb))
    all_goals (try simp only [maxLen, tn, lm] at *)
    all_goals first | rfl | omega | skip
    ·have e : (x.to.getD k default).addr = (x.to.getD i default).addr := B8.2 (by simpa using hb)
     rw [AQ (fun h => RJ h.2.1 (by omega) (by omega) e)]
    ·refine ⟨⟨k + 1, by omega, fun j hj => ?_⟩, by dsimp only; omega, ?_⟩
     ·by_cases e : j = k
      ·subst e; exact ra hb
      ·exact hk2 j (by omega)
     ·simp -implicitDefEqProofs only [go_sem, hh, seval]
      try simp
    ·refine ⟨⟨i + 1, by omega, DM hall (by assumption), fun j hj q hq => ?_⟩, by dsimp only; omega, ?_⟩
     ·by_cases e : j = i
      ·subst e; exact hk2 q (by omega)
      ·exact hno j (by omega) q hq
     ·simp -implicitDefEqProofs only [go_sem, hh, seval]
      try simp
  all_goals have hA : ∀ r ∈ x.to, Oj r := BF fun j hj => hall j (by omega)
  all_goals have hN : (x.to.map Rc.addr).Nodup := SM fun j hj q hq => hno j (by omega) q hq
  all_goals first
   | (rw [Ab]
      exact ⟨fun h => ⟨hA, hN, by first | assumption | omega, by first | exact .inl (by assumption) | exact .inr (by assumption), by omega, h⟩, fun h => h.2.2.2.2.2⟩)
   | (rw [AQ]
      intro h
      first
       | (have := h.2.2.1; omega)
       | (have := h.2.2.2.2.1; omega)
       | (rcases h.2.2.2.1 with h | h <;> contradiction))
end
def t7 : Ct := Ar (lc Q2.ag l0) (fun p => True) (fun p => .t (.v (.bool (BW (Bh p.1)))))
section
attribute [local go_sem] nJ JP lm Bool.not_true Bool.not_false
set_option maxHeartbeats 1600000 in
theorem rA {G : Gt} (hG : Ah G) (hh : G.e 135 = AA 0 nJ ∧ G.e 69 = AA 0 JP) : Gd G 87 (AA 0 t7) := by
 refine gr (fn := Tryz.f87) (n := 1) rfl rfl hG ?_
 rintro ⟨s, ⟨⟩⟩ hpre
 simp -implicitDefEqProofs only [Tryz.f87, go_sem, hh, seval] at hpre ⊢
 refine AE [] (ι := {i : Nat // i ≤ s.items.length ∧ (∀ j, j < i → Do (s.items.getD j default) ∧ (s.items.getD j default).id ≤ s.last) ∧ ∀ j, 0 < j → j < i → (s.items.getD (j - 1) default).id < (s.items.getD j default).id}) (fun p => ⟨[(1, .pb 1001 0), (3, .t (.v (.int .i64 p.1)))], [(1001, some (.box ((Dx s).map .t)))]⟩) (fun p => s.items.length - p.1) ⟨0, by simp, by simp, by simp⟩ rfl ?_ ?_
 ·simp -implicitDefEqProofs only [go_sem, hh, seval]
  try simp
 ·rintro ⟨i, hi, hall, hasc⟩
  by_cases hlt : (i : Int) < s.items.length
  ·simp -implicitDefEqProofs only [hlt, decide_true, go_sem, hh, seval]
   with_reducible repeat' (first | apply ai | intro _ | ((first | apply s1 | apply s3 | apply s4) <;> intro hb <;> simp -implicitDefEqProofs only [hb, go_sem, hh, seval] <;> try simp only [qz] at hb))
   all_goals (try simp only [maxLen, tn, lm] at *)
   all_goals first | rfl | omega | skip
   all_goals (try rw [show ((i : Int) - 1).toNat = i - 1 from by omega] at hb)
   all_goals first
    | (rw [AQ (fun h => by have h1 := h.1 _ (AC (xs := s.items) (j := i) (by omega)); first | exact hb h1.1 | omega)]; done)
    | (rw [AQ (fun h => by have h1 := h.2.1 i (by omega) (by omega); omega)]; done)
    | skip
   all_goals
    refine ⟨⟨i + 1, by omega, DM (P := fun x : Im => Do x ∧ x.id ≤ s.last) hall ⟨by assumption, by omega⟩, fun j h0 hj => ?_⟩, by dsimp only; omega, ?_⟩
    ·by_cases e : j = i
     ·subst e; omega
     ·exact hasc j h0 (by omega)
    ·simp -implicitDefEqProofs only [go_sem, hh, seval]
     try simp
  ·simp -implicitDefEqProofs only [hlt, decide_false, go_sem, hh, seval]
   with_reducible repeat' (first | apply ai | intro _ | ((first | apply s1 | apply s3 | apply s4) <;> intro hb <;> simp -implicitDefEqProofs only [hb, go_sem, hh, seval] <;> try simp only [qz] at hb))
   all_goals (try simp only [maxLen, tn, lm] at *)
   all_goals first | rfl | omega | skip
   ·refine congrArg (fun b => T.v (Value.bool b)) ?_
    rw [← Bl, Ab]
    exact ⟨fun h => ⟨BF fun j hj => hall j (by omega), fun j h0 hj => hasc j h0 (by omega), hb, by omega⟩, fun h => by have := h.2.2.2; omega⟩
   ·rw [AQ (fun h => hb h.2.2.1)]
end
def kA : Ct := Ar (lc Q2.ag (lc BK l0)) (fun p => True) (fun p => .t (.v (.int .i64 (BM (fun x : Im => x.id = p.2.1) 0 p.1.items))))
section
attribute [local go_sem] lm
theorem qH {G : Gt} (hG : Ah G) : Gd G 38 (AA 0 kA) := by
 refine gr (fn := Tryz.f38) (n := 2) rfl rfl hG ?_
 rintro ⟨s, n, ⟨⟩⟩ hpre
 simp -implicitDefEqProofs only [Tryz.f38, go_sem, seval] at hpre ⊢
 refine AE [] (ι := {i : Nat // i ≤ s.items.length ∧ BM (fun x : Im => x.id = n) 0 s.items = BM (fun x : Im => x.id = n) i (s.items.drop i)}) (fun p => ⟨[(1, .t (.v (.int .i64 n))), (2, .pb 1002 0), (5, .t (.v (.int .i64 p.1)))], [(1002, some (.box ((Dx s).map .t)))]⟩) (fun p => s.items.length - p.1) ⟨0, by simp, rfl⟩ rfl ?_ ?_
 ·simp -implicitDefEqProofs only [go_sem, seval]
  try simp
 ·rintro ⟨i, hi, hix⟩
  simp -implicitDefEqProofs only [go_sem, seval]
  with_reducible repeat' (first | apply ai | intro _ | ((first | apply s1 | apply s3 | apply s4) <;> intro hb <;> simp -implicitDefEqProofs only [hb, go_sem, seval] <;> try simp only [qz] at hb))
  all_goals (try simp only [maxLen, tn, lm] at *)
  all_goals first | rfl | omega | skip
  ·rw [hix, EQ (p := fun x : Im => x.id = n) (by omega) hb]
  ·refine ⟨⟨i + 1, by omega, by rw [hix, Fp (p := fun x : Im => x.id = n) (by omega) hb]⟩, by dsimp only; omega, ?_⟩
   simp -implicitDefEqProofs only [go_sem, seval]
   try simp
  ·rw [hix, EP (by omega)]
end
def oD : Ct := Ar (lc J6.ag (lc DY.ag l0)) (fun p => True) (fun p => .t (.v (.int .i64 (BM (fun r : Rc => r.addr = p.2.1) 0 p.1.to))))
section
attribute [local go_sem] lm
theorem hY {G : Gt} (hG : Ah G) : Gd G 201 (AA 0 oD) := by
 refine gr (fn := Tryz.f201) (n := 2) rfl rfl hG ?_
 rintro ⟨x, a, ⟨⟩⟩ hpre
 simp -implicitDefEqProofs only [Tryz.f201, go_sem, seval] at hpre ⊢
 refine AE [] (ι := {i : Nat // i ≤ x.to.length ∧ BM (fun r : Rc => r.addr = a) 0 x.to = BM (fun r : Rc => r.addr = a) i (x.to.drop i)}) (fun p => ⟨[(2, .pb 1002 0), (3, .pb 1003 0), (5, .t (.v (.int .i64 p.1)))], [(1002, some (.box ((As x).map .t))), (1003, some (.box ((Am a).map .t)))]⟩) (fun p => x.to.length - p.1) ⟨0, by simp, rfl⟩ rfl ?_ ?_
 ·simp -implicitDefEqProofs only [go_sem, seval]
  try simp
 ·rintro ⟨i, hi, hix⟩
  simp -implicitDefEqProofs only [go_sem, seval]
  with_reducible repeat' (first | apply ai | intro _ | ((first | apply s1 | apply s3 | apply s4) <;> intro hb <;> simp -implicitDefEqProofs only [hb, go_sem, seval] <;> try simp only [qz] at hb))
  all_goals (try simp only [maxLen, tn, lm] at *)
  all_goals first | rfl | omega | skip
  ·rw [hix, EQ (p := fun r : Rc => r.addr = a) (by omega) (B8.2 (by simpa using hb))]
  ·refine ⟨⟨i + 1, by omega, by rw [hix, Fp (p := fun r : Rc => r.addr = a) (by omega) (ra hb)]⟩, by dsimp only; omega, ?_⟩
   simp -implicitDefEqProofs only [go_sem, seval]
   try simp
  ·rw [hix, EP (by omega)]
end
def RX : Ct := Ar (lc J6.ag l0) (fun p => GX p.1) (fun p => rx p.1)
section
attribute [local go_sem] lm List.map_nil List.length_nil List.nil_append Nat.zero_add
theorem f7 {G : Gt} (hG : Ah G) : Gd G 149 (AA 0 RX) := by
 refine gr (fn := Tryz.f149) (n := 1) rfl rfl hG ?_ (hs := fun _ p => SX _)
 rintro ⟨x, ⟨⟩⟩ hpre
 simp -implicitDefEqProofs only [Tryz.f149, go_sem, seval] at hpre ⊢
 obtain ⟨_, ⟨h1, _⟩, ⟨h2, _⟩⟩ := hpre
 with_reducible repeat' (first | apply ai | intro _ | ((first | apply s1 | apply s3 | apply s4) <;> intro hb <;> simp -implicitDefEqProofs only [hb, go_sem, seval] <;> try simp only [qz] at hb))
 all_goals (try simp only [maxLen, lm, List.length_nil] at *)
 all_goals first | rfl | omega | (simp_all; done) | skip
end
def Y6 : Ct := Ar (lc Q2.ag l0) (fun p => E7 p.1) (fun p => Xa p.1)
section
attribute [local go_sem] RX lm List.length_append List.length_cons List.length_nil List.map_append List.mem_singleton forall_eq AS.nilb AS.renb Bool.not_false Bool.not_true List.set_cons_zero List.set_cons_succ List.set_nil
set_option maxHeartbeats 1600000 in
theorem fV {G : Gt} (hG : Ah G) (hh : G.e 149 = AA 0 RX) : Gd G 118 (AA 0 Y6) := by
 refine OP (dp := fun n => !(Nat.beq n 100002 || Nat.beq n 100004)) (fn := Tryz.f118) (n := 1) rfl rfl hG ?_ (hs := fun _ p => LA _)
 rintro ⟨s, ⟨⟩⟩ hpre
 simp -implicitDefEqProofs only [Tryz.f118, go_sem, hh, seval] at hpre ⊢
 have hpre' : HN GX s.items := hpre
 with_reducible repeat' (first | apply ai | intro _ | ((first | apply s1 | apply s3 | apply s4) <;> intro hb <;> simp -implicitDefEqProofs only [hb, go_sem, hh, seval] <;> try simp only [qz] at hb))
 all_goals first | rfl | skip
 refine AO (Le.nilb 1003 1 1901 true 5 rfl rfl rfl) (AX ?_)
 simp -implicitDefEqProofs only [go_sem, hh, seval]
 refine AE [] (ι := {i : Nat // i ≤ s.items.length}) (fun p => ⟨[(1, .pb 1001 0), (2, .pb 1002 0), (3, .pb 1003 0), (4, .t (.v (.int .i64 p.1)))], [(1001, some (.box ((Dx s).map .t))), (1002, some (.box [.t (.v (.int .i64 0)), .nil])), (1003, some (.box [.t (.v (.int .i64 s.last)), .h 1901])), (1901, some (.arr true 5 ((s.items.take p.1).map As)))]⟩) (fun p => s.items.length - p.1) ⟨0, by simp⟩ rfl ?_ ?_
 ·simp -implicitDefEqProofs only [go_sem, hh, seval]
  try simp
 ·rintro ⟨i, hi⟩
  by_cases hlt : (i : Int) < s.items.length
  ·have hok := hpre'.at (i := i) (by omega)
   have hlen : (s.items.take i).length = i := by simp; omega
   have hmax := hpre'.1
   simp -implicitDefEqProofs only [hlt, decide_true, tn, go_sem, hh, seval]
   with_reducible repeat' (first | apply ai | intro _ | ((first | apply s1 | apply s3 | apply s4) <;> intro hb <;> simp -implicitDefEqProofs only [hb, go_sem, hh, seval] <;> try simp only [qz] at hb))
   all_goals (try simp only [maxLen] at *)
   all_goals first | rfl | omega | assumption | decide | skip
   refine AO (Le.renb 1003 1 1024 1901 rfl rfl rfl rfl) (AX ?_)
   simp -implicitDefEqProofs only [go_sem, hh, seval]
   with_reducible repeat' (first | apply ai | intro _ | ((first | apply s1 | apply s3 | apply s4) <;> intro hb <;> simp -implicitDefEqProofs only [hb, go_sem, hh, seval] <;> try simp only [qz] at hb))
   all_goals first | rfl | omega | decide | skip
   refine ⟨⟨i + 1, by omega⟩, by dsimp only; omega, ?_⟩
   simp -implicitDefEqProofs only [go_sem, hh, seval]
   simp only [Az As (show i < s.items.length by omega)]
   with_reducible repeat' (first | apply ai | intro _ | ((first | apply s1 | apply s3 | apply s4) <;> intro hb <;> simp -implicitDefEqProofs only [hb, go_sem, hh, seval] <;> try simp only [qz] at hb))
   all_goals first | rfl | (simp; done)
  ·simp -implicitDefEqProofs only [hlt, decide_false, go_sem, hh, seval]
   with_reducible repeat' (first | apply ai | intro _ | ((first | apply s1 | apply s3 | apply s4) <;> intro hb <;> simp -implicitDefEqProofs only [hb, go_sem, hh, seval] <;> try simp only [qz] at hb))
   all_goals first | rfl | omega | skip
   rw [List.take_of_length_le (by omega)]
end
def Ib (x : Im) (k : Nat) : Im := ⟨x.id, x.frm, x.to.take k ++ x.to.drop (k + 1), x.body⟩
def Xw (xs : List Im) (i k : Nat) : List Im := if (Ib (xs.getD i default) k).to = [] then xs.take i ++ xs.drop (i + 1) else xs.take i ++ (Ib (xs.getD i default) k :: xs.drop (i + 1))
def DO (s : Sp) (i k : Nat) : Sp := ⟨s.last, Xw s.items i k⟩
def RY : Ct := Ar (lc Q2.ag (lc BK (lc BK l0))) (fun p => E7 p.1 ∧ 0 ≤ p.2.1 ∧ p.2.1 < p.1.items.length ∧ 0 ≤ p.2.2.1 ∧ p.2.2.1 < (p.1.items.getD p.2.1.toNat default).to.length) (fun p => .agg ((Dx (DO p.1 p.2.1.toNat p.2.2.1.toNat)).map .t))
section
attribute [local go_sem] RX Ja JR List.take_length List.drop_zero List.length_take List.length_drop lm List.length_append List.length_cons List.length_nil List.map_append List.map_nil List.map_cons List.nil_append Nat.zero_add List.mem_singleton forall_eq Bool.not_true Bool.not_false
set_option maxHeartbeats 1600000 in
theorem gL {G : Gt} (hG : Ah G) (hh : G.e 149 = AA 0 RX) : Gd G 166 (AA 1 RY) := by
 refine OP (dp := fun n => Nat.ble 100000 n && !(Nat.beq n 100002)) (fn := Tryz.f166) (n := 3) rfl rfl hG ?_
 rintro ⟨s, i, k, ⟨⟩⟩ hpre
 obtain ⟨hok, hi0, hi1, hk0, hk1⟩ := hpre
 dsimp only at hi0 hi1 hk0 hk1 ⊢
 obtain ⟨ni, rfl⟩ := Int.eq_ofNat_of_zero_le hi0
 obtain ⟨nk, rfl⟩ := Int.eq_ofNat_of_zero_le hk0
 have hok' : HN GX s.items := hok
 simp only [tn] at hk1 ⊢
 have hx := hok'.at (i := ni) (by omega)
 have hmax := hok'.1
 have hmx : ((s.items.getD ni default).to.length : Int) ≤ 1048576 := hx.2.1.1
 have hi2 : ni < s.items.length := by omega
 have hk2 : nk < (s.items.getD ni default).to.length := by omega
 have e1 : ((ni : Int) + 1).toNat = ni + 1 := by omega
 have e2 : ((nk : Int) + 1).toNat = nk + 1 := by omega
 simp -implicitDefEqProofs only [Tryz.f166, tn, go_sem, hh, seval]
 with_reducible repeat' (first | apply ai | intro _ | ((first | apply s1 | apply s3 | apply s4) <;> intro hb <;> simp -implicitDefEqProofs only [hb, go_sem, hh, seval] <;> try simp only [qz] at hb))
 all_goals first | rfl | omega | assumption | decide | skip
 refine AO (Le.frzL [1014]) (AX ?_)
 simp -implicitDefEqProofs only [go_sem, hh, seval]
 with_reducible repeat' (first | apply ai | intro _ | ((first | apply s1 | apply s3 | apply s4) <;> intro hb <;> simp -implicitDefEqProofs only [hb, go_sem, hh, seval] <;> try simp only [qz] at hb))
 all_goals (try simp only [maxLen, e1, e2, tn, List.take_length, List.drop_zero] at *)
 all_goals first | rfl | omega | assumption | decide | skip
 all_goals
  refine congrArg (T.sl 5) ?_
  simp only [DO, Xw]
  first
   | (rw [if_neg (fun e => by have := congrArg List.length e; simp only [Ib, List.length_append, List.length_take, List.length_drop, List.length_nil] at this; omega)]; simp [Ib, As]; done)
   | (rw [if_pos (List.eq_nil_of_length_eq_zero (by simp only [Ib, List.length_append, List.length_take, List.length_drop]; omega))]; simp; done)
   | skip
end
theorem GO {α : Type} (p : α → Prop) : ∀ (xs : List α) (k : Nat), BM p k xs = -1 ∨ ((k : Int) ≤ BM p k xs ∧ BM p k xs < k + xs.length)
 | [], _ => .inl rfl
 | x :: t, k => by
   rw [BM]
   cases BW (p x)
   ·rcases GO p t (k + 1) with h | h
    ·exact .inl h
    ·simp only [cond_false, List.length_cons]; right; omega
   ·simp only [cond_true, List.length_cons]; right; omega
noncomputable def A8 (s : Sp) (n : Int) : Int := BM (fun x : Im => x.id = n) 0 s.items
noncomputable def B6 (x : Im) (a : Ad) : Int := BM (fun r : Rc => r.addr = a) 0 x.to
noncomputable def A2 (s : Sp) (n : Int) : Im := s.items.getD (A8 s n).toNat default
open Classical in
noncomputable def Tg (s : Sp) (n : Int) (a : Ad) : Sp × Bool :=
 if Bh s then (if A8 s n < 0 then (s, false) else if B6 (A2 s n) a < 0 then (s, false) else (DO s (A8 s n).toNat (B6 (A2 s n) a).toNat, true)) else (⟨0, []⟩, false)
def jI (p : Sp × Bool) : AV := .tup [.agg ((Dx p.1).map .t), .t (.v (.bool p.2))]
theorem dY {s : Sp} {n : Int} {a : Ad} (h : Bh s) (hi : ¬ A8 s n < 0) (hk : ¬ B6 (A2 s n) a < 0) : Tg s n a = (DO s (A8 s n).toNat (B6 (A2 s n) a).toNat, true) := by unfold Tg; rw [if_pos h, if_neg hi, if_neg hk]
theorem CX {s : Sp} {n : Int} (h : ¬ A8 s n < 0) : 0 ≤ A8 s n ∧ A8 s n < s.items.length := by
 rcases GO (fun x : Im => x.id = n) s.items 0 with h1 | h1
 ·have : A8 s n = -1 := h1
  omega
 ·have : A8 s n < (0 : Nat) + s.items.length := h1.2
  omega
theorem Hf {x : Im} {a : Ad} (h : ¬ B6 x a < 0) : 0 ≤ B6 x a ∧ B6 x a < x.to.length := by
 rcases GO (fun r : Rc => r.addr = a) x.to 0 with h1 | h1
 ·have : B6 x a = -1 := h1
  omega
 ·have : B6 x a < (0 : Nat) + x.to.length := h1.2
  omega
def dG (t : Int) : Int := 2 * 2 ^ (t - 1).toNat
theorem N9 {a b : Nat} (h : a ≤ b) : (2 : Int) ^ a ≤ 2 ^ b := by
 have h1 := Nat.pow_le_pow_right (n := 2) (by omega) h
 have e : ∀ k : Nat, ((2 ^ k : Nat) : Int) = 2 ^ k := fun k => by simp
 rw [← e, ← e]
 omega
theorem bq {t : Int} {m : Nat} (h : t ≤ m + 1) : 2 ≤ dG t ∧ dG t ≤ 2 * 2 ^ m := by
 unfold dG
 have h1 : (2 : Int) ^ (t - 1).toNat ≤ 2 ^ m := N9 (by omega)
 have h2 : (2 : Int) ^ 0 ≤ 2 ^ (t - 1).toNat := N9 (by omega)
 simp only [Int.pow_zero] at h2
 omega
def XE (r : Rc) (w : Int) : Rc := ⟨r.addr, r.tries + 1, w + dG (r.tries + 1)⟩
def SK (x : Im) (k : Nat) (w : Int) : Im := ⟨x.id, x.frm, x.to.set k (XE (x.to.getD k default) w), x.body⟩
def P7 (s : Sp) (i k : Nat) (w : Int) : Sp := ⟨s.last, s.items.set i (SK (s.items.getD i default) k w)⟩
def Ns (r : Rc) (w : Int) : Prop := r.tries + 1 ≥ 4 ∨ w + dG (r.tries + 1) > 9999
instance (r : Rc) (w : Int) : Decidable (Ns r w) := by unfold Ns; infer_instance
def KD (s : Sp) (i k : Nat) (w : Int) : Sp × Bool := if Ns ((s.items.getD i default).to.getD k default) w then (s, false) else (P7 s i k w, true)
def nu : Ct := Ar (lc BK l0) (fun p => p.1 ≤ 40) (fun p => .t (.v (.int .i64 (dG p.1))))
theorem gf {G : Gt} (hG : Ah G) : Gd G 183 (AA 0 nu) := by
 refine gr (fn := Tryz.f183) (n := 1) rfl rfl hG ?_
 rintro ⟨t, ⟨⟩⟩ hpre
 simp -implicitDefEqProofs only [Tryz.f183, go_sem, seval] at hpre ⊢
 refine AE [] (ι := {j : Nat // j ≤ (t - 1).toNat}) (fun p => ⟨[(0, .t (.v (.int .i64 t))), (3, .t (.v (.int .i64 (2 * 2 ^ p.1)))), (4, .t (.v (.int .i64 (p.1 + 1))))], []⟩) (fun p => (t - 1).toNat - p.1) ⟨0, by simp⟩ rfl ?_ ?_
 ·simp -implicitDefEqProofs only [go_sem, seval]
  try simp
 ·rintro ⟨j, hj⟩
  have hb : (2 : Int) ^ j ≤ 2 ^ 40 := N9 (by omega)
  have hp : (0 : Int) ≤ 2 ^ j := Int.le_of_lt (Int.pow_pos (by omega))
  have h40 : (2 : Int) ^ 40 = 1099511627776 := by decide
  simp -implicitDefEqProofs only [go_sem, seval]
  with_reducible repeat' (first | apply ai | intro _ | ((first | apply s1 | apply s3 | apply s4) <;> intro hb <;> simp -implicitDefEqProofs only [hb, go_sem, seval] <;> try simp only [qz] at hb))
  all_goals first | rfl | omega | skip
  ·refine ⟨⟨j + 1, by omega⟩, by dsimp only; omega, ?_⟩
   simp -implicitDefEqProofs only [go_sem, seval]
   with_reducible repeat' (first | apply ai | intro _ | ((first | apply s1 | apply s3 | apply s4) <;> intro hb <;> simp -implicitDefEqProofs only [hb, go_sem, seval] <;> try simp only [qz] at hb))
   all_goals first | rfl | (simp; omega) | (refine congrArg (fun z => AV.t (T.v (Value.int .i64 z))) ?_; rw [Int.pow_succ]; omega) | (refine congrArg (fun z => AV.t (T.v (Value.int .i64 z))) ?_; simp; done)
  ·rw [show dG t = 2 * 2 ^ j from by unfold dG; rw [show (t - 1).toNat = j from by omega]]
def Y9 : Ct := Ar (lc Q2.ag (lc BK (lc BK (lc BK l0)))) (fun p => E7 p.1 ∧ Bh p.1 ∧ (0 ≤ p.2.1 ∧ p.2.1 < p.1.items.length) ∧ (0 ≤ p.2.2.1 ∧ p.2.2.1 < (p.1.items.getD p.2.1.toNat default).to.length) ∧ 0 ≤ p.2.2.2.1 ∧ p.2.2.2.1 ≤ 9999) (fun p => jI (KD p.1 p.2.1.toNat p.2.2.1.toNat p.2.2.2.1))
section
attribute [local go_sem] RX nu Ja JR List.take_length List.drop_zero List.length_take List.length_drop lm List.length_append List.length_cons List.length_nil List.map_append List.map_nil List.map_cons List.nil_append Nat.zero_add List.mem_singleton forall_eq Bool.not_true Bool.not_false jI P7 AT Bb List.length_set
set_option maxHeartbeats 1600000 in
theorem gN {G : Gt} (hG : Ah G) (hh : G.e 149 = AA 0 RX ∧ G.e 183 = AA 0 nu) : Gd G 167 (AA 1 Y9) := by
 refine OP (dp := fun n => Nat.ble 100000 n) (fn := Tryz.f167) (n := 4) rfl rfl hG ?_
 rintro ⟨s, i, k, w, ⟨⟩⟩ hpre
 dsimp only at hpre ⊢
 obtain ⟨hok, hsp, ⟨hi0, hi1⟩, ⟨hk0, hk1⟩, hw0, hw1⟩ := hpre
 obtain ⟨ni, rfl⟩ := Int.eq_ofNat_of_zero_le hi0
 obtain ⟨nk, rfl⟩ := Int.eq_ofNat_of_zero_le hk0
 have hok' : HN GX s.items := hok
 simp only [tn] at hk1 ⊢
 have hx := hok'.at (i := ni) (by omega)
 have hmax := hok'.1
 have hmx : ((s.items.getD ni default).to.length : Int) ≤ 1048576 := hx.2.1.1
 have hi2 : ni < s.items.length := by omega
 have hk2 : nk < (s.items.getD ni default).to.length := by omega
 have hk3 : nk < ((s.items.getD ni default).to.map BN).length := by rw [lm]; exact hk2
 have hr := (hsp.1 _ (AC hi2)).1.1 _ (AC hk2)
 obtain ⟨_, ⟨ht0, ht1⟩, _⟩ := hr
 obtain ⟨hp0, hp1⟩ := bq (t := ((s.items.getD ni default).to.getD nk default).tries + 1) (m := 3) (by omega)
 have h8 : (2 : Int) * 2 ^ 3 = 16 := by decide
 by_cases hno : Ns ((s.items.getD ni default).to.getD nk default) w
 ·unfold KD
  rw [if_pos hno]
  rcases hno with hno | hno
  ·simp -implicitDefEqProofs only [Tryz.f167, tn, hno, decide_true, go_sem, hh, seval]
   with_reducible repeat' (first | apply ai | intro _ | ((first | apply s1 | apply s3 | apply s4) <;> intro hb <;> simp -implicitDefEqProofs only [hb, go_sem, hh, seval] <;> try simp only [qz] at hb))
   all_goals first | rfl | omega | assumption | decide | skip
   all_goals trace_state
  ·simp -implicitDefEqProofs only [Tryz.f167, tn, hno, decide_true, go_sem, hh, seval]
   with_reducible repeat' (first | apply ai | intro _ | ((first | apply s1 | apply s3 | apply s4) <;> intro hb <;> simp -implicitDefEqProofs only [hb, go_sem, hh, seval] <;> try simp only [qz] at hb))
   all_goals first | rfl | omega | assumption | decide | skip
   all_goals trace_state
 ·unfold KD
  rw [if_neg hno]
  have hno1 : ¬ ((s.items.getD ni default).to.getD nk default).tries + 1 ≥ 4 := fun h => hno (.inl h)
  have hno2 : ¬ w + dG (((s.items.getD ni default).to.getD nk default).tries + 1) > 9999 := fun h => hno (.inr h)
  simp -implicitDefEqProofs only [Tryz.f167, tn, Ow hk3, hno1, hno2, decide_false, go_sem, hh, seval]
  with_reducible repeat' (first | apply ai | intro _ | ((first | apply s1 | apply s3 | apply s4) <;> intro hb <;> simp -implicitDefEqProofs only [hb, go_sem, hh, seval] <;> try simp only [qz] at hb))
  all_goals first | rfl | omega | assumption | decide | skip
  refine congrArg (T.sl 5) ?_
  rw [sD, sC]
  rfl
end
section
variable {s : Sp} {n : Int} {a : Ad} {w : Int}
end
theorem NH {s : AS} {K : Kt} : Tw [] false s K = (K (.t (.v (.bool true))) s ∧ K (.t (.v (.bool false))) s) := propext ⟨fun h => ⟨h.1 rfl, h.2⟩, fun h => ⟨fun _ => h.1, h.2⟩⟩
theorem NG {e : List T} {es : List (List T)} {s : AS} {K : Kt} : Tw (e :: es) false s K = K (.t (.v (.bool false))) s := propext ⟨fun h => h.2, fun h => ⟨fun e => (by cases e), h⟩⟩
theorem Xj {xs : List Rc} {i : Nat} (h : i < xs.length) : ((xs.map Rc.addr).take (i + 1)).map Am = ((xs.map Rc.addr).take i).map Am ++ [[.v (.string (xs.getD i default).addr.user), .v (.string (xs.getD i default).addr.domain)]] := by
 have e : (xs.map Rc.addr).getD i default = (xs.getD i default).addr := by
  simp only [List.getD_eq_getElem?_getD, List.getElem?_map, List.getElem?_eq_getElem h, Option.map_some, Option.getD_some]
 rw [Az Am (by rw [lm]; exact h), e]
 rfl
def s7 : Ct := Ar (lc BK l0) (fun p => True) (fun p => .t (.v (.bool (BW (0 ≤ p.1 ∧ p.1 ≤ 9999)))))
section
attribute [local go_sem] Xv
theorem qZ {G : Gt} (hG : Ah G) (hh : G.e 48 = AA 0 Xv) : Gd G 60 (AA 0 s7) := by
 refine gr (fn := Tryz.f60) (n := 1) rfl rfl hG ?_
 rintro ⟨n, ⟨⟩⟩ hpre
 simp -implicitDefEqProofs only [Tryz.f60, go_sem, hh, seval] at hpre ⊢
 with_reducible repeat' (first | apply ai | intro _ | ((first | apply s1 | apply s3 | apply s4) <;> intro hb <;> simp -implicitDefEqProofs only [hb, go_sem, hh, seval] <;> try simp only [qz] at hb))
 all_goals first | rfl | skip
end
def nB : Ct := Ar (lc J6.ag l0) (fun p => GX p.1) (fun p => .t (.v (.bool (BW (Do p.1)))))
section
attribute [local go_sem] dB Xv s7 s6 w9 eF Ja JR List.take_length List.drop_zero List.length_take List.length_drop lm List.length_append List.length_cons List.length_nil List.map_append List.map_nil List.map_cons List.nil_append Nat.zero_add List.mem_singleton forall_eq Bool.not_true Bool.not_false AZ AY
set_option maxHeartbeats 1600000 in
theorem fc {G : Gt} (hG : Ah G) (hh : G.e 44 = AA 0 dB ∧ G.e 48 = AA 0 Xv ∧ G.e 60 = AA 0 s7 ∧ G.e 47 = AA 0 s6 ∧ G.e 50 = AA 0 w9 ∧ G.e 51 = AA 0 eF) : Gd G 126 (AA 0 nB) := by
 refine gr (fn := Tryz.f126) (n := 1) rfl rfl hG ?_
 rintro ⟨x, ⟨⟩⟩ hpre
 simp -implicitDefEqProofs only [Tryz.f126, go_sem, hh, seval] at hpre ⊢
 obtain ⟨⟨_, hfd⟩, ⟨hl1, hto⟩, ⟨hl2, hbd⟩⟩ := hpre
 have hfd' : x.frm.domain.size ≤ 2000000 := by have : x.frm.domain.size ≤ 1048576 := hfd; omega
 have hbd' : ∀ s ∈ x.body, s.size ≤ 2000000 := fun s hs => by have : s.size ≤ 1048576 := hbd s hs; omega
 have hto' : ∀ j, j < x.to.length → (x.to.getD j default).addr.domain.size ≤ 2000000 := fun j hj => by have : (x.to.getD j default).addr.domain.size ≤ 1048576 := (hto _ (AC hj)).2; omega
 with_reducible repeat' (first | apply ai | intro _ | ((first | apply s1 | apply s3 | apply s4) <;> intro hb <;> simp -implicitDefEqProofs only [hb, go_sem, hh, seval] <;> try simp only [qz] at hb))
 all_goals first | rfl | skip
 refine AE [(3, 1903, true, 2)] (ι := {i : Nat // i ≤ x.to.length ∧ ∀ j, j < i → Oj (x.to.getD j default)}) (fun p => ⟨[(1, .pb 1001 0), (3, .h 1903), (7, .t (.sl 4 (x.to.map BN))), (8, .t (.v (.int .i64 x.to.length))), (9, .t (.v (.int .i64 p.1)))], [(1001, some (.box ((As x).map .t))), (1903, some (.arr true 2 (((x.to.map Rc.addr).take p.1).map Am)))]⟩) (fun p => x.to.length - p.1) ⟨0, by simp, by simp⟩ rfl ?_ ?_
 ·simp -implicitDefEqProofs only [go_sem, hh, seval]
  try simp
 ·rintro ⟨i, hi, hall⟩
  by_cases hlt : (i : Int) < x.to.length
  ·have hd := hto' i (by omega)
   have hlen : ((x.to.map Rc.addr).take i).length = i := by simp; omega
   simp -implicitDefEqProofs only [hlt, decide_true, tn, go_sem, hh, seval]
   with_reducible repeat' (first | apply ai | intro _ | ((first | apply s1 | apply s3 | apply s4) <;> intro hb <;> simp -implicitDefEqProofs only [hb, go_sem, hh, seval] <;> try simp only [qz] at hb))
   all_goals (try simp only [maxLen] at *)
   all_goals first | rfl | omega | assumption | decide | skip
   all_goals first
    | (rw [AQ (fun h => by have h1 := h.1 _ (AC (xs := x.to) (j := i) (by omega)); first | exact hb h1.1 | exact hb h1.2.1 | exact hb h1.2.2)]; done)
    | skip
   refine ⟨⟨i + 1, by omega, DM (P := Oj) hall ⟨by assumption, by assumption, by assumption⟩⟩, by dsimp only; omega, ?_⟩
   simp -implicitDefEqProofs only [go_sem, hh, seval]
   simp only [Xj (show i < x.to.length by omega)]
   with_reducible repeat' (first | apply ai | intro _ | ((first | apply s1 | apply s3 | apply s4) <;> intro hb <;> simp -implicitDefEqProofs only [hb, go_sem, hh, seval] <;> try simp only [qz] at hb))
   all_goals first | rfl | (simp; done) | (simp; omega)
  ·have hA : ∀ r ∈ x.to, Oj r := BF fun j hj => hall j (by omega)
   simp -implicitDefEqProofs only [hlt, decide_false, go_sem, hh, seval]
   with_reducible repeat' (first | apply ai | intro _ | ((first | apply s1 | apply s3 | apply s4) <;> intro hb <;> simp -implicitDefEqProofs only [hb, go_sem, hh, seval] <;> try simp only [qz] at hb))
   all_goals (try simp only [maxLen] at *)
   all_goals first | rfl | omega | assumption | decide | exact hbd' _ (by assumption) | skip
   all_goals (try rw [List.take_of_length_le (by rw [lm]; omega)] at hb)
   all_goals first
    | (rw [Ab]
       exact ⟨fun h => ⟨hA, hb, by assumption, by assumption, by omega, h⟩, fun h => h.2.2.2.2.2⟩)
    | (rw [AQ]
       intro h
       first
        | exact hb h.2.1
        | exact hb h.2.2.1
        | exact hb h.2.2.2.1
        | exact hb (by have := h.2.2.2.2.1; omega))
    | skip
end
def s9 : Ct := Ar (lc Q2.ag l0) (fun p => E7 p.1) (fun p => .t (.v (.bool (BW (Bh p.1)))))
section
attribute [local go_sem] nB Xv Ja JR List.take_length List.drop_zero List.length_take List.length_drop lm List.length_append List.length_cons List.length_nil List.map_append List.map_nil List.map_cons List.nil_append Nat.zero_add List.mem_singleton forall_eq Bool.not_true Bool.not_false AZ AY
set_option maxHeartbeats 1600000 in
theorem qp {G : Gt} (hG : Ah G) (hh : G.e 126 = AA 0 nB ∧ G.e 48 = AA 0 Xv) : Gd G 74 (AA 0 s9) := by
 refine gr (fn := Tryz.f74) (n := 1) rfl rfl hG ?_
 rintro ⟨s, ⟨⟩⟩ hpre
 simp -implicitDefEqProofs only [Tryz.f74, go_sem, hh, seval] at hpre ⊢
 have hok' : HN GX s.items := hpre
 have hmx := hok'.1
 with_reducible repeat' (first | apply ai | intro _ | ((first | apply s1 | apply s3 | apply s4) <;> intro hb <;> simp -implicitDefEqProofs only [hb, go_sem, hh, seval] <;> try simp only [qz] at hb))
 all_goals first | rfl | skip
 refine AE [] (ι := {i : Nat // i ≤ s.items.length ∧ (∀ j, j < i → Do (s.items.getD j default) ∧ (s.items.getD j default).id ≤ s.last) ∧ ∀ j, 0 < j → j < i → (s.items.getD (j - 1) default).id < (s.items.getD j default).id}) (fun p => ⟨[(1, .pb 1001 0), (3, .t (.v (.int .i64 (if p.1 = 0 then 0 else (s.items.getD (p.1 - 1) default).id)))), (7, .t (.sl 5 (s.items.map As))), (8, .t (.v (.int .i64 s.items.length))), (9, .t (.v (.int .i64 p.1)))], [(1001, some (.box ((Dx s).map .t)))]⟩) (fun p => s.items.length - p.1) ⟨0, by simp, by simp, by simp⟩ rfl ?_ ?_
 ·simp -implicitDefEqProofs only [go_sem, hh, seval]
  try simp
 ·rintro ⟨i, hi, hall, hasc⟩
  have hgen : ∀ L : Int, L = (if i = 0 then 0 else (s.items.getD (i - 1) default).id) → True := fun _ _ => trivial
  obtain ⟨L, hL⟩ : ∃ L : Int, L = (if i = 0 then 0 else (s.items.getD (i - 1) default).id) := ⟨_, rfl⟩
  by_cases hlt : (i : Int) < s.items.length
  ·have hok := hok'.at (i := i) (by omega)
   dsimp only
   rw [← hL]
   simp -implicitDefEqProofs only [hlt, decide_true, tn, go_sem, hh, seval]
   with_reducible repeat' (first | apply ai | intro _ | ((first | apply s1 | apply s3 | apply s4) <;> intro hb <;> simp -implicitDefEqProofs only [hb, go_sem, hh, seval] <;> try simp only [qz] at hb))
   all_goals (try simp only [maxLen] at *)
   all_goals first | rfl | omega | assumption | decide | skip
   all_goals (try have h0 := (show Do (s.items.getD i default) from by assumption).2.2.1)
   all_goals first
    | (rw [AQ]
       intro h
       have h1 := h.1 _ (AC (xs := s.items) (j := i) (by omega))
       first
        | exact hb h1.1
        | omega
        | (by_cases e : i = 0
           ·rw [if_pos e] at hL; omega
           ·rw [if_neg e] at hL
            have h2 := h.2.1 i (by omega) (by omega)
            omega))
    | skip
   refine ⟨⟨i + 1, by omega, DM (P := fun x : Im => Do x ∧ x.id ≤ s.last) hall ⟨by assumption, by omega⟩, fun j h0 hj => ?_⟩, by dsimp only; omega, ?_⟩
   ·by_cases e : j = i
    ·subst e
     rw [if_neg (by omega)] at hL
     omega
    ·exact hasc j h0 (by omega)
   ·simp -implicitDefEqProofs only [go_sem, hh, seval]
    try simp
  ·dsimp only
   rw [← hL]
   simp -implicitDefEqProofs only [hlt, decide_false, go_sem, hh, seval]
   with_reducible repeat' (first | apply ai | intro _ | ((first | apply s1 | apply s3 | apply s4) <;> intro hb <;> simp -implicitDefEqProofs only [hb, go_sem, hh, seval] <;> try simp only [qz] at hb))
   all_goals (try simp only [maxLen] at *)
   all_goals first | rfl | omega | assumption | decide | skip
   ·refine congrArg (fun b => T.v (Value.bool b)) ?_
    rw [← Bl, Ab]
    exact ⟨fun h => ⟨BF fun j hj => hall j (by omega), fun j h0 hj => hasc j h0 (by omega), hb, by omega⟩, fun h => by have := h.2.2.2; omega⟩
   ·rw [AQ (fun h => hb h.2.2.1)]
end
def nT : Ct := Ar (lc WS.asl l0) (fun p => (p.1.length : Int) ≤ 1048576) (fun p => .o true 4 (p.1.map BN))
section
attribute [local go_sem] NH NG lm List.nil_append List.map_nil List.map_cons List.length_cons List.length_nil
theorem f6 {G : Gt} (hG : Ah G) : Gd G 147 (AA 0 nT) := by
 refine gr (fn := Tryz.f147) (n := 1) rfl rfl hG ?_ (hs := fun _ _ => .deep _ _)
 rintro ⟨xs, ⟨⟩⟩ hpre
 dsimp only at hpre ⊢
 cases xs with
 | nil =>
   simp -implicitDefEqProofs only [Tryz.f147, go_sem, seval]
   with_reducible repeat' (first | apply ai | intro _ | ((first | apply s1 | apply s3 | apply s4) <;> intro hb <;> simp -implicitDefEqProofs only [hb, go_sem, seval] <;> try simp only [qz] at hb))
   all_goals (try simp only [maxLen, lm] at *)
   all_goals first | rfl | omega | exact of_eq_true (Jj []) | (simp; done) | skip
 | cons x xs =>
   simp only [List.length_cons] at hpre
   simp -implicitDefEqProofs only [Tryz.f147, go_sem, seval]
   with_reducible repeat' (first | apply ai | intro _ | ((first | apply s1 | apply s3 | apply s4) <;> intro hb <;> simp -implicitDefEqProofs only [hb, go_sem, seval] <;> try simp only [qz] at hb))
   all_goals (try simp only [maxLen, lm] at *)
   all_goals first | rfl | omega | exact of_eq_true (Jj (x :: xs)) | exact of_eq_true (SH (x :: xs)) _ (by assumption) | (simp; done) | skip
end
def eE : Ct := Ar (lc Al.asl l0) (fun p => (p.1.length : Int) ≤ 1048576) (fun p => .o true 1 (p.1.map AH))
section
attribute [local go_sem] NH NG lm List.nil_append List.map_nil List.map_cons List.length_cons List.length_nil
theorem qF {G : Gt} (hG : Ah G) : Gd G 35 (AA 0 eE) := by
 refine gr (fn := Tryz.f35) (n := 1) rfl rfl hG ?_ (hs := fun _ _ => .deep _ _)
 rintro ⟨xs, ⟨⟩⟩ hpre
 dsimp only at hpre ⊢
 cases xs with
 | nil =>
   simp -implicitDefEqProofs only [Tryz.f35, go_sem, seval]
   with_reducible repeat' (first | apply ai | intro _ | ((first | apply s1 | apply s3 | apply s4) <;> intro hb <;> simp -implicitDefEqProofs only [hb, go_sem, seval] <;> try simp only [qz] at hb))
   all_goals (try simp only [maxLen, lm] at *)
   all_goals first | rfl | omega | exact of_eq_true (HP []) | (simp; done) | skip
 | cons x xs =>
   simp only [List.length_cons] at hpre
   simp -implicitDefEqProofs only [Tryz.f35, go_sem, seval]
   with_reducible repeat' (first | apply ai | intro _ | ((first | apply s1 | apply s3 | apply s4) <;> intro hb <;> simp -implicitDefEqProofs only [hb, go_sem, seval] <;> try simp only [qz] at hb))
   all_goals (try simp only [maxLen, lm] at *)
   all_goals first | rfl | omega | exact of_eq_true (HP (x :: xs)) | exact of_eq_true (Nr (x :: xs)) _ (by assumption) | (simp; done) | skip
end
def d7 : Ct := Ar (lc Q2.ag l0) (fun p => E7 p.1) (fun p => Xa p.1)
section
attribute [local go_sem] nT eE lm List.length_append List.length_cons List.length_nil List.map_append List.mem_singleton forall_eq AS.nilb AS.renb Bool.not_false Bool.not_true List.set_cons_zero List.set_cons_succ List.set_nil
set_option maxHeartbeats 1600000 in
theorem fT {G : Gt} (hG : Ah G) (hh : G.e 147 = AA 0 nT ∧ G.e 35 = AA 0 eE) : Gd G 114 (AA 0 d7) := by
 refine gr (fn := Tryz.f114) (n := 1) rfl rfl hG ?_ (hs := fun _ p => LA _)
 rintro ⟨s, ⟨⟩⟩ hpre
 simp -implicitDefEqProofs only [Tryz.f114, go_sem, hh, seval] at hpre ⊢
 have hok' : HN GX s.items := hpre
 have hmx := hok'.1
 with_reducible repeat' (first | apply ai | intro _ | ((first | apply s1 | apply s3 | apply s4) <;> intro hb <;> simp -implicitDefEqProofs only [hb, go_sem, hh, seval] <;> try simp only [qz] at hb))
 all_goals first | rfl | skip
 refine AE [(3, 1903, true, 5)] (ι := {i : Nat // i ≤ s.items.length}) (fun p => ⟨[(1, .pb 1001 0), (2, .pb 1002 0), (3, .h 1903), (7, .t (.sl 5 (s.items.map As))), (8, .t (.v (.int .i64 s.items.length))), (9, .t (.v (.int .i64 p.1)))], [(1001, some (.box ((Dx s).map .t))), (1002, some (.box [.t (.v (.int .i64 0)), .nil])), (1903, some (.arr true 5 ((s.items.take p.1).map As)))]⟩) (fun p => s.items.length - p.1) ⟨0, by simp⟩ rfl ?_ ?_
 ·simp -implicitDefEqProofs only [go_sem, hh, seval]
  try simp
 ·rintro ⟨i, hi⟩
  by_cases hlt : (i : Int) < s.items.length
  ·have hok := hok'.at (i := i) (by omega)
   obtain ⟨_, ⟨hl1, _⟩, ⟨hl2, _⟩⟩ := hok
   have hlen : (s.items.take i).length = i := by simp; omega
   simp -implicitDefEqProofs only [hlt, decide_true, tn, go_sem, hh, seval]
   with_reducible repeat' (first | apply ai | intro _ | ((first | apply s1 | apply s3 | apply s4) <;> intro hb <;> simp -implicitDefEqProofs only [hb, go_sem, hh, seval] <;> try simp only [qz] at hb))
   all_goals (try simp only [maxLen] at *)
   all_goals first | rfl | omega | assumption | decide | skip
   refine ⟨⟨i + 1, by omega⟩, by dsimp only; omega, ?_⟩
   simp -implicitDefEqProofs only [go_sem, hh, seval]
   simp only [Az As (show i < s.items.length by omega)]
   with_reducible repeat' (first | apply ai | intro _ | ((first | apply s1 | apply s3 | apply s4) <;> intro hb <;> simp -implicitDefEqProofs only [hb, go_sem, hh, seval] <;> try simp only [qz] at hb))
   all_goals first | rfl | (simp; done) | skip
  ·simp -implicitDefEqProofs only [hlt, decide_false, go_sem, hh, seval]
   with_reducible repeat' (first | apply ai | intro _ | ((first | apply s1 | apply s3 | apply s4) <;> intro hb <;> simp -implicitDefEqProofs only [hb, go_sem, hh, seval] <;> try simp only [qz] at hb))
   all_goals (try simp only [maxLen] at *)
   all_goals first | rfl | omega | assumption | decide | skip
   rw [List.take_of_length_le (by omega)]
end
theorem uT {p : Prop} (h : p) : T.v (Value.bool true) = T.v (Value.bool (BW p)) := by rw [Ap h]
theorem uF {p : Prop} (h : ¬ p) : T.v (Value.bool false) = T.v (Value.bool (BW p)) := by rw [AQ h]
theorem uE {p q : Prop} (h : p ↔ q) : T.v (Value.bool (BW p)) = T.v (Value.bool (BW q)) := by rw [Ab h]
theorem uN {p q : Prop} (h : ¬ p ↔ q) : T.v (Value.bool (!BW p)) = T.v (Value.bool (BW q)) := by rw [Jq, Ab h]
theorem uB {b : Bool} {q : Prop} (h : b = true ↔ q) : T.v (Value.bool b) = T.v (Value.bool (BW q)) := by
 cases b
 ·exact uF (fun q => by have := h.2 q; simp at this)
 ·exact uT (h.1 rfl)
theorem uD {p q : Prop} [Decidable p] (h : p ↔ q) : T.v (Value.bool (decide p)) = T.v (Value.bool (BW q)) := by rw [← Bl, Ab h]
def Eo (a b : ByteArray) : Int := Lib.compareBytes (bl a) (bl b)
theorem ZH : ∀ a b : List UInt8, (Lib.compareBytes a b < 0) ↔ Op.bytesLess a b = true
 | [], [] => by simp [Lib.compareBytes, Op.bytesLess]
 | [], _ :: _ => by simp [Lib.compareBytes, Op.bytesLess]
 | _ :: _, [] => by simp [Lib.compareBytes, Op.bytesLess]
 | a :: x, b :: y => by
   have ih := ZH x y
   simp only [Lib.compareBytes, Op.bytesLess, Bool.or_eq_true, Bool.and_eq_true, decide_eq_true_eq, beq_iff_eq]
   by_cases h1 : a < b
   ·simp [h1]
   ·by_cases h2 : b < a
    ·have h3 : ¬ a = b := fun e => by subst e; exact absurd h2 (UInt8.lt_irrefl _)
     simp [h1, h2, h3]
    ·have h3 : a = b := UInt8.le_antisymm (UInt8.not_lt.1 h2) (UInt8.not_lt.1 h1)
     have hir := UInt8.lt_irrefl b
     simp only [h3, hir, if_false, false_or, true_and]
     exact ih
theorem kG : ∀ a b : List UInt8, (Lib.compareBytes a b = 0) ↔ a = b
 | [], [] => by simp [Lib.compareBytes]
 | [], _ :: _ => by simp [Lib.compareBytes]
 | _ :: _, [] => by simp [Lib.compareBytes]
 | a :: x, b :: y => by
   have ih := kG x y
   simp only [Lib.compareBytes, List.cons.injEq]
   by_cases h1 : a < b
   ·have h3 : ¬ a = b := fun e => by subst e; exact absurd h1 (UInt8.lt_irrefl _)
    simp [h1, h3]
   ·by_cases h2 : b < a
    ·have h3 : ¬ a = b := fun e => by subst e; exact absurd h2 (UInt8.lt_irrefl _)
     simp [h1, h2, h3]
    ·have h3 : a = b := UInt8.le_antisymm (UInt8.not_lt.1 h2) (UInt8.not_lt.1 h1)
     simp only [h3, true_and]
     rw [if_neg (UInt8.lt_irrefl b), if_neg (UInt8.lt_irrefl b)]
     exact ih
theorem NV (a b : ByteArray) : Eo a b < 0 ↔ E3 a b = true := by
 unfold Eo E3
 rw [ZH, GU, GU]
theorem HA (a b : ByteArray) : Eo a b = 0 ↔ a = b := by
 unfold Eo
 rw [kG]
 exact ⟨G4, fun e => by rw [e]⟩
def Yd (a b : Ad) : Prop := E3 a.domain b.domain = true ∨ (a.domain = b.domain ∧ E3 a.user b.user = true)
def Jr (a b : Ad) : Int := if Eo a.domain b.domain = 0 then Eo a.user b.user else Eo a.domain b.domain
theorem IS (a b : Ad) : Jr a b < 0 ↔ Yd a b := by
 unfold Jr Yd
 by_cases h : Eo a.domain b.domain = 0
 ·rw [if_pos h, NV]
  have h2 : ¬ E3 a.domain b.domain = true := fun q => by have := (NV _ _).2 q; omega
  exact ⟨fun q => .inr ⟨(HA _ _).1 h, q⟩, fun q => q.elim (fun q => absurd q h2) fun q => q.2⟩
 ·rw [if_neg h, NV]
  exact ⟨.inl, fun q => q.elim id fun q => absurd ((HA _ _).2 q.1) h⟩
def ru : List Int → Int
 | [] => 0
 | x :: r => if x = 0 then ru r else x
theorem uH {x y : Int} : EA.decL [[.v (.int .i64 x)], [.v (.int .i64 y)]] = some [x, y] := EA.decL_map [x, y]
theorem bg {xs : List Int} {i : Nat} (h : i < xs.length) : ru (xs.drop i) = if xs.getD i default = 0 then ru (xs.drop (i + 1)) else xs.getD i default := by
 rw [AW h]; rfl
def nn : Ct := Ar (lc Ax (lc Ax l0)) (fun _ => True) (fun p => .t (.v (.int .i64 (Eo p.1 p.2.1))))
theorem gY (m : Int) : FY Tryz.prog m 174 nn := FY.of (r := fun (p : ByteArray × ByteArray × Unit) => .int .i64 (Eo p.1 p.2.1)) (fun _ => trivial) fun p _ => by
 obtain ⟨s, c, ⟨⟩⟩ := p
 intro w pr vs hgl hv
 have := IA hv
 subst this
 have he : Extern.find Tryz.f174 = some Extern.BytealgCompare.compare := by kernel_rfl
 rw [run_callFunc_extern (fn := Tryz.f174) (by kernel_rfl) (by kernel_rfl) rfl (by kernel_rfl) he]
 have h := Lib.run_compareString (P := Tryz.prog) s c w
 rw [show ([Value.string s, Value.string c].toArray) = #[.string s, .string c] from rfl, h]
 rfl
def Li (c : Cf) : Prop := (∀ s ∈ c.own, D9 s) ∧ (∀ w ∈ c.ways, D9 w.ends ∧ D9 w.to) ∧ D9 c.name ∧ (c.own.length : Int) ≤ 3 ∧ (c.ways.length : Int) ≤ 4
def nU : Ct := Ar (lc Ax (lc Ax l0)) (fun p => True) (fun p => .t (.v (.int .i64 (Eo p.1 p.2.1))))
section
attribute [local go_sem] nn
theorem f8 {G : Gt} (hG : Ah G) (hh : G.e 174 = AA 3 nn) : Gd G 150 (AA 0 nU) := by
 refine gr (fn := Tryz.f150) (n := 2) rfl rfl hG ?_
 rintro ⟨a, b, ⟨⟩⟩ hpre
 simp -implicitDefEqProofs only [Tryz.f150, go_sem, hh, seval] at hpre ⊢
 with_reducible repeat' (first | apply ai | intro _ | ((first | apply s1 | apply s3 | apply s4) <;> intro hb <;> simp -implicitDefEqProofs only [hb, go_sem, hh, seval] <;> try simp only [qz] at hb))
 all_goals first | rfl | omega | skip
end
def nE : Ct := Ar (lc Ax (lc Ax l0)) (fun p => True) (fun p => .t (.v (.int .i64 (Eo p.1 p.2.1))))
section
attribute [local go_sem] nU
theorem ff {G : Gt} (hG : Ah G) (hh : G.e 150 = AA 0 nU) : Gd G 129 (AA 0 nE) := by
 refine gr (fn := Tryz.f129) (n := 2) rfl rfl hG ?_
 rintro ⟨a, b, ⟨⟩⟩ hpre
 simp -implicitDefEqProofs only [Tryz.f129, go_sem, hh, seval] at hpre ⊢
 with_reducible repeat' (first | apply ai | intro _ | ((first | apply s1 | apply s3 | apply s4) <;> intro hb <;> simp -implicitDefEqProofs only [hb, go_sem, hh, seval] <;> try simp only [qz] at hb))
 all_goals first | rfl | omega | skip
end
def nD : Ct := Ar (lc EA.asl l0) (fun p => True) (fun p => .t (.v (.int .i64 (ru p.1))))
section
attribute [local go_sem] lm
theorem fe {G : Gt} (hG : Ah G) : Gd G 128 (AA 0 nD) := by
 refine gr (fn := Tryz.f128) (n := 1) rfl rfl hG ?_
 rintro ⟨xs, ⟨⟩⟩ hpre
 simp -implicitDefEqProofs only [Tryz.f128, go_sem, seval] at hpre ⊢
 with_reducible repeat' (first | apply ai | intro _ | ((first | apply s1 | apply s3 | apply s4) <;> intro hb <;> simp -implicitDefEqProofs only [hb, go_sem, seval] <;> try simp only [qz] at hb))
 all_goals first | rfl | omega | skip
 refine AE [] (ι := {i : Nat // i ≤ xs.length ∧ ru xs = ru (xs.drop i)}) (fun p => ⟨[(3, .t (.v (.int .i64 0))), (6, .t (.sl 1 (xs.map Ao))), (7, .t (.v (.int .i64 xs.length))), (8, .t (.v (.int .i64 p.1)))], []⟩) (fun p => xs.length - p.1) ⟨0, by simp, rfl⟩ rfl ?_ ?_
 ·simp -implicitDefEqProofs only [go_sem, seval]
  try simp
 ·rintro ⟨i, hi, hor⟩
  by_cases hlt : (i : Int) < xs.length
  ·have hs := bg (xs := xs) (i := i) (by omega)
   simp -implicitDefEqProofs only [hlt, decide_true, tn, go_sem, seval]
   with_reducible repeat' (first | apply ai | intro _ | ((first | apply s1 | apply s3 | apply s4) <;> intro hb <;> simp -implicitDefEqProofs only [hb, go_sem, seval] <;> try simp only [qz] at hb))
   all_goals (try simp only [maxLen] at *)
   all_goals first | rfl | omega | skip
   ·rw [hor, hs, if_neg (by assumption)]
   ·refine ⟨⟨i + 1, by omega, by rw [hor, hs, if_pos (by simpa using hb)]⟩, by dsimp only; omega, ?_⟩
    simp -implicitDefEqProofs only [go_sem, seval]
    try simp
  ·simp -implicitDefEqProofs only [hlt, decide_false, go_sem, seval]
   with_reducible repeat' (first | apply ai | intro _ | ((first | apply s1 | apply s3 | apply s4) <;> intro hb <;> simp -implicitDefEqProofs only [hb, go_sem, seval] <;> try simp only [qz] at hb))
   all_goals first | rfl | omega | skip
   rw [hor, List.drop_eq_nil_of_le (by omega)]
   rfl
end
def xw : Ct := Ar (lc DY.ag (lc DY.ag l0)) (fun p => True) (fun p => .t (.v (.int .i64 (Jr p.1 p.2.1))))
section
attribute [local go_sem] nE nD uH
theorem qs {G : Gt} (hG : Ah G) (hh : G.e 129 = AA 0 nE ∧ G.e 128 = AA 0 nD) : Gd G 77 (AA 0 xw) := by
 refine gr (fn := Tryz.f77) (n := 2) rfl rfl hG ?_
 rintro ⟨a, b, ⟨⟩⟩ hpre
 simp -implicitDefEqProofs only [Tryz.f77, go_sem, hh, seval] at hpre ⊢
 with_reducible repeat' (first | apply ai | intro _ | ((first | apply s1 | apply s3 | apply s4) <;> intro hb <;> simp -implicitDefEqProofs only [hb, go_sem, hh, seval] <;> try simp only [qz] at hb))
 all_goals first | rfl | omega | skip
 all_goals
  refine congrArg (fun z => T.v (Value.int .i64 z)) ?_
  simp only [ru, Jr]
  by_cases h : Eo a.domain b.domain = 0
  ·rw [if_pos h, if_pos h]
   by_cases h2 : Eo a.user b.user = 0
   ·rw [if_pos h2, h2]
   ·rw [if_neg h2]
  ·rw [if_neg h, if_neg h]
end
def t5 : Ct := Ar (lc DY.ag (lc DY.ag l0)) (fun p => True) (fun p => .t (.v (.bool (BW (Yd p.1 p.2.1)))))
theorem qy {G : Gt} (hG : Ah G) : Gd G 84 (AA 0 t5) := by
 refine gr (fn := Tryz.f84) (n := 2) rfl rfl hG ?_
 rintro ⟨a, b, ⟨⟩⟩ hpre
 simp -implicitDefEqProofs only [Tryz.f84, go_sem, seval] at hpre ⊢
 with_reducible repeat' (first | apply ai | intro _ | ((first | apply s1 | apply s3 | apply s4) <;> intro hb <;> simp -implicitDefEqProofs only [hb, go_sem, seval] <;> try simp only [qz] at hb))
 all_goals first | rfl | omega | skip
 all_goals first
  | exact uT (.inl (by assumption))
  | exact uB ⟨fun q => .inr ⟨by assumption, q⟩, fun q => q.elim (fun q => by simp_all) fun q => q.2⟩
  | exact uF (fun q => q.elim (fun q => by simp_all) fun q => by simp_all)
  | skip
def mY (b : Bx) : Prop := (∀ g ∈ b.mails, (BS g.frm ∨ Ac g.frm) ∧ Ck g.body) ∧ BS b.addr
def X3 (h : Hs) (j : Nat) : Prop := mY (h.boxes.getD j default) ∧ (0 < j → Yd (h.boxes.getD (j - 1) default).addr (h.boxes.getD j default).addr) ∧ (h.boxes.getD j default).addr.domain ∈ h.conf.own
def GW (h : Hs) : Prop := (∀ j, j < h.boxes.length → X3 h j) ∧ Li h.conf ∧ Bh h.spool
theorem CY {P : Nat → Prop} {i : Nat} (h : ∀ j, j < i → P j) (hi : P i) : ∀ j, j < i + 1 → P j := fun j hj => by
 by_cases e : j = i
 ·rw [e]; exact hi
 ·exact h j (by omega)
theorem iz {xs : List ByteArray} {a : ByteArray} (h : ∀ j, j < xs.length → ¬ xs.getD j default = a) : ¬ a ∈ xs := fun hm => by
 obtain ⟨j, hj, e⟩ := List.getElem_of_mem hm
 exact h j hj (by simp [hj, e])
def t6 : Ct := Ar (lc Jn.ag l0) (fun p => True) (fun p => .t (.v (.bool (BW (Li p.1)))))
section
attribute [local go_sem] dA AZ AY lm
set_option maxHeartbeats 1600000 in
theorem q9 {G : Gt} (hG : Ah G) (hh : G.e 40 = AA 0 dA) : Gd G 86 (AA 0 t6) := by
 refine gr (fn := Tryz.f86) (n := 1) rfl rfl hG ?_
 rintro ⟨c, ⟨⟩⟩ hpre
 simp -implicitDefEqProofs only [Tryz.f86, go_sem, hh, seval] at hpre ⊢
 refine AE [] (ι := {i : Nat // i ≤ c.own.length ∧ ∀ j, j < i → D9 (c.own.getD j default)}) (fun p => ⟨[(1, .pb 1001 0), (3, .t (.v (.int .i64 p.1)))], [(1001, some (.box ((DZ c).map .t)))]⟩) (fun p => c.own.length - p.1) ⟨0, by simp, by simp⟩ rfl ?_ ?_
 ·simp -implicitDefEqProofs only [go_sem, hh, seval]
  try simp
 ·rintro ⟨i, hi, hall⟩
  by_cases hlt : (i : Int) < c.own.length
  ·simp -implicitDefEqProofs only [hlt, decide_true, tn, go_sem, hh, seval]
   with_reducible repeat' (first | apply ai | intro _ | ((first | apply s1 | apply s3 | apply s4) <;> intro hb <;> simp -implicitDefEqProofs only [hb, go_sem, hh, seval] <;> try simp only [qz] at hb))
   all_goals (try simp only [maxLen] at *)
   all_goals first | rfl | omega | skip
   ·exact uF (fun h => hb (h.1 _ (AC (by omega))))
   ·refine ⟨⟨i + 1, by omega, CY hall hb⟩, by dsimp only; omega, ?_⟩
    simp -implicitDefEqProofs only [go_sem, hh, seval]
    try simp
  ·have hA : ∀ s ∈ c.own, D9 s := BF fun j hj => hall j (by omega)
   simp -implicitDefEqProofs only [hlt, decide_false, go_sem, hh, seval]
   with_reducible repeat' (first | apply ai | intro _ | ((first | apply s1 | apply s3 | apply s4) <;> intro hb <;> simp -implicitDefEqProofs only [hb, go_sem, hh, seval] <;> try simp only [qz] at hb))
   all_goals first | rfl | omega | skip
   refine AE [] (ι := {i : Nat // i ≤ c.ways.length ∧ ∀ j, j < i → D9 (c.ways.getD j default).ends ∧ D9 (c.ways.getD j default).to}) (fun p => ⟨[(1, .pb 1001 0), (4, .t (.v (.int .i64 p.1)))], [(1001, some (.box ((DZ c).map .t)))]⟩) (fun p => c.ways.length - p.1) ⟨0, by simp, by simp⟩ rfl ?_ ?_
   ·simp -implicitDefEqProofs only [go_sem, hh, seval]
    try simp
   ·rintro ⟨k, hk, hall2⟩
    by_cases hlt2 : (k : Int) < c.ways.length
    ·simp -implicitDefEqProofs only [hlt2, decide_true, tn, go_sem, hh, seval]
     with_reducible repeat' (first | apply ai | intro _ | ((first | apply s1 | apply s3 | apply s4) <;> intro hb <;> simp -implicitDefEqProofs only [hb, go_sem, hh, seval] <;> try simp only [qz] at hb))
     all_goals (try simp only [maxLen] at *)
     all_goals first
      | rfl
      | omega
      | exact uF (fun h => hb (h.2.1 _ (AC (by omega))).1)
      | exact uF (fun h => hb (h.2.1 _ (AC (by omega))).2)
      | skip
     refine ⟨⟨k + 1, by omega, CY (P := fun j => D9 (c.ways.getD j default).ends ∧ D9 (c.ways.getD j default).to) hall2 ⟨by assumption, by assumption⟩⟩, by dsimp only; omega, ?_⟩
     simp -implicitDefEqProofs only [go_sem, hh, seval]
     try simp
    ·have hB : ∀ w ∈ c.ways, D9 w.ends ∧ D9 w.to := BF fun j hj => hall2 j (by omega)
     simp -implicitDefEqProofs only [hlt2, decide_false, go_sem, hh, seval]
     with_reducible repeat' (first | apply ai | intro _ | ((first | apply s1 | apply s3 | apply s4) <;> intro hb <;> simp -implicitDefEqProofs only [hb, go_sem, hh, seval] <;> try simp only [qz] at hb))
     all_goals first
      | rfl
      | omega
      | exact uD ⟨fun q => ⟨hA, hB, by assumption, by omega, q⟩, fun q => q.2.2.2.2⟩
      | exact uF (fun q => absurd q.2.2.1 (by assumption))
      | exact uF (fun q => by have h1 := q.2.2.2.1; have h2 := q.2.2.2.2; omega)
      | skip
end
def eH : Ct := Ar (lc Jn.ag (lc DY.ag l0)) (fun p => True) (fun p => .t (.v (.bool (BW (p.2.1.domain ∈ p.1.own)))))
section
attribute [local go_sem] lm
theorem q8 {G : Gt} (hG : Ah G) : Gd G 85 (AA 0 eH) := by
 refine gr (fn := Tryz.f85) (n := 2) rfl rfl hG ?_
 rintro ⟨c, a, ⟨⟩⟩ hpre
 simp -implicitDefEqProofs only [Tryz.f85, go_sem, seval] at hpre ⊢
 refine AE [] (ι := {i : Nat // i ≤ c.own.length ∧ ∀ j, j < i → ¬ c.own.getD j default = a.domain}) (fun p => ⟨[(2, .pb 1002 0), (3, .pb 1003 0), (5, .t (.v (.int .i64 p.1)))], [(1002, some (.box ((DZ c).map .t))), (1003, some (.box ((Am a).map .t)))]⟩) (fun p => c.own.length - p.1) ⟨0, by simp, by simp⟩ rfl ?_ ?_
 ·simp -implicitDefEqProofs only [go_sem, seval]
  try simp
 ·rintro ⟨i, hi, hall⟩
  by_cases hlt : (i : Int) < c.own.length
  ·simp -implicitDefEqProofs only [hlt, decide_true, tn, go_sem, seval]
   with_reducible repeat' (first | apply ai | intro _ | ((first | apply s1 | apply s3 | apply s4) <;> intro hb <;> simp -implicitDefEqProofs only [hb, go_sem, seval] <;> try simp only [qz] at hb))
   all_goals (try simp only [maxLen] at *)
   all_goals first | rfl | omega | skip
   ·exact uT (by rw [← hb]; exact AC (by omega))
   ·refine ⟨⟨i + 1, by omega, CY hall hb⟩, by dsimp only; omega, ?_⟩
    simp -implicitDefEqProofs only [go_sem, seval]
    try simp
  ·simp -implicitDefEqProofs only [hlt, decide_false, go_sem, seval]
   with_reducible repeat' (first | apply ai | intro _ | ((first | apply s1 | apply s3 | apply s4) <;> intro hb <;> simp -implicitDefEqProofs only [hb, go_sem, seval] <;> try simp only [qz] at hb))
   all_goals first | rfl | omega | skip
   exact uF (iz fun j hj => hall j (by omega))
end
def xz : Ct := Ar (lc X7.ag l0) (fun p => True) (fun p => .t (.v (.bool (BW (mY p.1)))))
section
attribute [local go_sem] NS IU IV AZ AY lm
set_option maxHeartbeats 1600000 in
theorem qx {G : Gt} (hG : Ah G) (hh : G.e 120 = AA 0 NS ∧ G.e 106 = AA 0 IU ∧ G.e 119 = AA 0 IV) : Gd G 83 (AA 0 xz) := by
 refine gr (fn := Tryz.f83) (n := 1) rfl rfl hG ?_
 rintro ⟨b, ⟨⟩⟩ hpre
 simp -implicitDefEqProofs only [Tryz.f83, go_sem, hh, seval] at hpre ⊢
 refine AE [] (ι := {i : Nat // i ≤ b.mails.length ∧ ∀ j, j < i → (BS (b.mails.getD j default).frm ∨ Ac (b.mails.getD j default).frm) ∧ Ck (b.mails.getD j default).body}) (fun p => ⟨[(1, .pb 1001 0), (3, .t (.v (.int .i64 p.1)))], [(1001, some (.box ((BT b).map .t)))]⟩) (fun p => b.mails.length - p.1) ⟨0, by simp, by simp⟩ rfl ?_ ?_
 ·simp -implicitDefEqProofs only [go_sem, hh, seval]
  try simp
 ·rintro ⟨i, hi, hall⟩
  by_cases hlt : (i : Int) < b.mails.length
  ·simp -implicitDefEqProofs only [hlt, decide_true, tn, go_sem, hh, seval]
   with_reducible repeat' (first | apply ai | intro _ | ((first | apply s1 | apply s3 | apply s4) <;> intro hb <;> simp -implicitDefEqProofs only [hb, go_sem, hh, seval] <;> try simp only [qz] at hb))
   all_goals (try simp only [maxLen, tn] at *)
   all_goals first
    | rfl
    | omega
    | exact uF (fun h => absurd (h.1 (b.mails.getD i default) (AC (by omega))).2 (by assumption))
    | exact uF (fun h => (h.1 (b.mails.getD i default) (AC (by omega))).1.elim (fun q => absurd q (by assumption)) fun q => absurd q (by assumption))
    | skip
   all_goals
    refine ⟨⟨i + 1, by omega, CY (P := fun j => (BS (b.mails.getD j default).frm ∨ Ac (b.mails.getD j default).frm) ∧ Ck (b.mails.getD j default).body) hall ⟨by first | exact .inl (by assumption) | exact .inr (by assumption), by assumption⟩⟩, by dsimp only; omega, ?_⟩
    simp -implicitDefEqProofs only [go_sem, hh, seval]
    try simp
  ·have hA : ∀ g ∈ b.mails, (BS g.frm ∨ Ac g.frm) ∧ Ck g.body := BF (P := fun g : Gm => (BS g.frm ∨ Ac g.frm) ∧ Ck g.body) fun j hj => hall j (by omega)
   simp -implicitDefEqProofs only [hlt, decide_false, go_sem, hh, seval]
   with_reducible repeat' (first | apply ai | intro _ | ((first | apply s1 | apply s3 | apply s4) <;> intro hb <;> simp -implicitDefEqProofs only [hb, go_sem, hh, seval] <;> try simp only [qz] at hb))
   all_goals first | rfl | omega | exact uE ⟨fun q => ⟨hA, q⟩, fun q => q.2⟩ | skip
end
def s5 : Ct := Ar (lc Gy.ag l0) (fun p => True) (fun p => .t (.v (.bool (BW (GW p.1)))))
section
attribute [local go_sem] xz t5 eH t6 t7 AZ AY lm
set_option maxHeartbeats 6400000 in
theorem qI {G : Gt} (hG : Ah G) (hh : G.e 83 = AA 0 xz ∧ G.e 84 = AA 0 t5 ∧ G.e 85 = AA 0 eH ∧ G.e 86 = AA 0 t6 ∧ G.e 87 = AA 0 t7) : Gd G 39 (AA 0 s5) := by
 refine gr (fn := Tryz.f39) (n := 1) rfl rfl hG ?_
 rintro ⟨h, ⟨⟩⟩ hpre
 simp -implicitDefEqProofs only [Tryz.f39, go_sem, hh, seval] at hpre ⊢
 refine AE [] (ι := {i : Nat // i ≤ h.boxes.length ∧ ∀ j, j < i → X3 h j}) (fun p => ⟨[(1, .pb 1001 0), (3, .t (.v (.int .i64 p.1)))], [(1001, some (.box ((Af h).map .t)))]⟩) (fun p => h.boxes.length - p.1) ⟨0, by simp, by simp⟩ rfl ?_ ?_
 ·simp -implicitDefEqProofs only [go_sem, hh, seval]
  try simp
 ·rintro ⟨i, hi, hall⟩
  by_cases hlt : (i : Int) < h.boxes.length
  ·simp -implicitDefEqProofs only [hlt, decide_true, tn, go_sem, hh, seval]
   with_reducible repeat' (first | apply ai | intro _ | ((first | apply s1 | apply s3 | apply s4) <;> intro hb <;> simp -implicitDefEqProofs only [hb, go_sem, hh, seval] <;> try simp only [qz] at hb))
   all_goals (try simp only [maxLen, tn] at *)
   all_goals have hnat : ((i : Int) - 1).toNat = i - 1 := by omega
   all_goals first
    | rfl
    | omega
    | exact uF (fun q => absurd (q.1 i (by omega)).1 (by assumption))
    | exact uF (fun q => absurd (q.1 i (by omega)).2.2 (by assumption))
    | exact uF (fun q => absurd ((q.1 i (by omega)).2.1 (by omega)) (by rw [← hnat]; assumption))
    | skip
   all_goals
    refine ⟨⟨i + 1, by omega, CY hall ⟨by assumption, fun _ => by first | (rw [← hnat]; assumption) | (exfalso; omega), by assumption⟩⟩, by dsimp only; omega, ?_⟩
    simp -implicitDefEqProofs only [go_sem, hh, seval]
    try simp
  ·simp -implicitDefEqProofs only [hlt, decide_false, go_sem, hh, seval]
   with_reducible repeat' (first | apply ai | intro _ | ((first | apply s1 | apply s3 | apply s4) <;> intro hb <;> simp -implicitDefEqProofs only [hb, go_sem, hh, seval] <;> try simp only [qz] at hb))
   all_goals first
    | rfl
    | omega
    | exact uE ⟨fun q => ⟨fun j hj => hall j (by omega), by assumption, q⟩, fun q => q.2.2⟩
    | exact uF (fun q => absurd q.2.1 (by assumption))
    | skip
end
section
attribute [local go_sem] s5
end
inductive OK where
 | bad
def OK.enc : OK → AV
 | .bad  => .t (.fn 75 [])
def OK.dec : AV → Option OK
 | .t (.fn 75 []) => some (.bad )
 | _ => none
def OK.sem : OK → Gm → Prop
 | .bad , x => ¬ ((BS x.frm ∨ Ac x.frm) ∧ Ck x.body)
def OK.pre : OK → Gm → Prop
 | .bad , x => x.frm.domain.size ≤ 2000000 ∧ ∀ s ∈ x.body, s.size ≤ 2000000
def dL : AD OK where
 enc := OK.enc
 dec := OK.dec
 ed := fun f => by cases f <;> rfl
 de := fun x f h => by
  unfold OK.dec at h
  split at h <;> cases h <;> rfl
theorem Je  : dL.dec (.t (.fn 75 [])) = some (.bad ) := rfl
theorem Jf  : dL.enc (.bad ) = .t (.fn 75 []) := rfl
def xu : Ct := Ar (lc Qu.ag l0) (fun p => p.1.frm.domain.size ≤ 2000000 ∧ ∀ s ∈ p.1.body, s.size ≤ 2000000) (fun p => .t (.v (.bool (BW (¬ ((BS p.1.frm ∨ Ac p.1.frm) ∧ Ck p.1.body))))))
section
attribute [local go_sem] s6 eF Bool.not_true Bool.not_false Bw DR
theorem qq {G : Gt} (hG : Ah G) (hh : G.e 47 = AA 0 s6 ∧ G.e 51 = AA 0 eF) : Gd G 75 (AA 0 xu) := by
 refine gr (fn := Tryz.f75) (n := 1) rfl rfl hG ?_
 rintro ⟨x, ⟨⟩⟩ hpre
 simp -implicitDefEqProofs only [Tryz.f75, go_sem, hh, seval] at hpre ⊢
 with_reducible repeat' (first | apply ai | intro _ | ((first | apply s1 | apply s3 | apply s4) <;> intro hb <;> simp -implicitDefEqProofs only [hb, go_sem, hh, seval] <;> try simp only [qz] at hb))
 all_goals first | rfl | omega | exact hpre.1 | exact hpre.2 | exact hpre.2 _ (by assumption) | skip
 all_goals first
  | exact uT (fun h => absurd h.1 (by assumption))
  | exact uN ⟨fun h q => h q.2, fun h q => h ⟨by assumption, q⟩⟩
  | skip
end
def nC : Ct := Ar (lc Qu.asl (lc dL l0)) (fun p => ∀ x ∈ p.1, p.2.1.pre x) (fun p => .t (.v (.int .i64 (BM p.2.1.sem 0 p.1))))
section
attribute [local go_sem] xu Bool.not_true Bool.not_false Bw DR Je Jf
theorem fd {G : Gt} (hG : Ah G) (hh : G.e 75 = AA 0 xu) : Gd G 127 (AA 0 nC) := by
 refine gr (fn := Tryz.f127) (n := 2) rfl rfl hG ?_
 rintro ⟨xs, f, ⟨⟩⟩ hpre
 have hs := hpre
 dsimp only at hs ⊢
 cases f with
 | bad  =>
   simp -implicitDefEqProofs only [Tryz.f127, go_sem, hh, seval]
   with_reducible repeat' (first | apply ai | intro _ | ((first | apply s1 | apply s3 | apply s4) <;> intro hb <;> simp -implicitDefEqProofs only [hb, go_sem, hh, seval] <;> try simp only [qz] at hb))
   all_goals first | rfl | omega | skip
   refine AE [] (ι := {i : Nat // i ≤ xs.length ∧ BM (OK.sem (.bad )) 0 xs = BM (OK.sem (.bad )) i (xs.drop i)}) (fun p => ⟨[(0, .t (.sl 3 (xs.map BU))), (1, .t (.fn 75 [])), (7, .t (.v (.int .i64 xs.length))), (8, .t (.v (.int .i64 p.1)))], []⟩) (fun p => xs.length - p.1) ⟨0, Nat.zero_le _, rfl⟩ rfl ?_ ?_
   ·simp -implicitDefEqProofs only [go_sem, hh, seval]
    try simp
   ·rintro ⟨i, hi, hix⟩
    by_cases hlt : (i : Int) < xs.length
    ·have hm : xs.getD (i : Int).toNat default ∈ xs := AC (by omega)
     have hsz := hs _ hm
     cases hb : BW (¬ ((BS (xs.getD (i : Int).toNat default).frm ∨ Ac (xs.getD (i : Int).toNat default).frm) ∧ Ck (xs.getD (i : Int).toNat default).body))
     ·have hq := hb
      simp -implicitDefEqProofs only [hlt, hq, go_sem, hh, seval]
      with_reducible repeat' (first | apply ai | intro _ | ((first | apply s1 | apply s3 | apply s4) <;> intro hb <;> simp -implicitDefEqProofs only [hb, go_sem, hh, seval] <;> try simp only [qz] at hb))
      all_goals (try simp only [maxLen] at *)
      all_goals first | rfl | omega | with_reducible assumption | exact hsz | exact hsz.1 | exact hsz.2 | exact hsz.2 _ (by assumption) | exact hsz.2.1 | exact hsz.2.2.1 | exact hsz.2.2.2 | trivial | skip
      rw [AY, tn] at hb
      refine ⟨⟨i + 1, by omega, ?_⟩, by dsimp only; omega, ?_⟩
      ·rw [hix, Fp (p := OK.sem (.bad )) (by omega) hb]
      ·simp -implicitDefEqProofs only [go_sem, hh, seval]
       try simp
     ·have hq := hb
      simp -implicitDefEqProofs only [hlt, hq, go_sem, hh, seval]
      with_reducible repeat' (first | apply ai | intro _ | ((first | apply s1 | apply s3 | apply s4) <;> intro hb <;> simp -implicitDefEqProofs only [hb, go_sem, hh, seval] <;> try simp only [qz] at hb))
      all_goals (try simp only [maxLen] at *)
      all_goals first | rfl | omega | with_reducible assumption | exact hsz | exact hsz.1 | exact hsz.2 | exact hsz.2 _ (by assumption) | exact hsz.2.1 | exact hsz.2.2.1 | exact hsz.2.2.2 | trivial | skip
      rw [AZ, tn] at hb
      rw [hix, EQ (p := OK.sem (.bad )) (by omega) hb]
    ·simp -implicitDefEqProofs only [hlt, go_sem, hh, seval]
     with_reducible repeat' (first | apply ai | intro _ | ((first | apply s1 | apply s3 | apply s4) <;> intro hb <;> simp -implicitDefEqProofs only [hb, go_sem, hh, seval] <;> try simp only [qz] at hb))
     all_goals first | rfl | omega | skip
     all_goals (rw [hix, EP (by omega)])
end
def xv : Ct := Ar (lc Qu.asl (lc dL l0)) (fun p => ∀ x ∈ p.1, p.2.1.pre x) (fun p => .t (.v (.bool (BW (∃ x ∈ p.1, p.2.1.sem x)))))
section
attribute [local go_sem] nC Bool.not_true Bool.not_false Bw DR Je Jf
theorem qr {G : Gt} (hG : Ah G) (hh : G.e 127 = AA 0 nC) : Gd G 76 (AA 0 xv) := by
 refine gr (fn := Tryz.f76) (n := 2) rfl rfl hG ?_
 rintro ⟨xs, f, ⟨⟩⟩ hpre
 dsimp only at hpre ⊢
 cases f
 all_goals
  simp -implicitDefEqProofs only [Tryz.f76, go_sem, hh, seval]
  with_reducible repeat' (first | apply ai | intro _ | ((first | apply s1 | apply s3 | apply s4) <;> intro hb <;> simp -implicitDefEqProofs only [hb, go_sem, hh, seval] <;> try simp only [qz] at hb))
  all_goals first | rfl | omega | exact hpre | exact hpre _ (by assumption) | skip
  all_goals (rw [← Ab (FF _ 0)]; rw [Bl])
end
inductive OL where
 | way
def OL.enc : OL → AV
 | .way  => .t (.fn 92 [])
def OL.dec : AV → Option OL
 | .t (.fn 92 []) => some (.way )
 | _ => none
def OL.sem : OL → Wy → Prop
 | .way , x => ¬ (D9 x.ends ∧ D9 x.to)
def OL.pre : OL → Wy → Prop
 | .way , x => x.ends.size ≤ 2000000 ∧ x.to.size ≤ 2000000
def dM : AD OL where
 enc := OL.enc
 dec := OL.dec
 ed := fun f => by cases f <;> rfl
 de := fun x f h => by
  unfold OL.dec at h
  split at h <;> cases h <;> rfl
theorem Jg  : dM.dec (.t (.fn 92 [])) = some (.way ) := rfl
theorem Jh  : dM.enc (.way ) = .t (.fn 92 []) := rfl
def yB : Ct := Ar (lc Lk.ag l0) (fun p => p.1.ends.size ≤ 2000000 ∧ p.1.to.size ≤ 2000000) (fun p => .t (.v (.bool (BW (¬ (D9 p.1.ends ∧ D9 p.1.to))))))
section
attribute [local go_sem] Xu Bool.not_true Bool.not_false Bw DR
theorem rF {G : Gt} (hG : Ah G) (hh : G.e 34 = AA 0 Xu) : Gd G 92 (AA 0 yB) := by
 refine gr (fn := Tryz.f92) (n := 1) rfl rfl hG ?_
 rintro ⟨x, ⟨⟩⟩ hpre
 simp -implicitDefEqProofs only [Tryz.f92, go_sem, hh, seval] at hpre ⊢
 with_reducible repeat' (first | apply ai | intro _ | ((first | apply s1 | apply s3 | apply s4) <;> intro hb <;> simp -implicitDefEqProofs only [hb, go_sem, hh, seval] <;> try simp only [qz] at hb))
 all_goals first | rfl | omega | exact hpre.1 | exact hpre.2 | exact hpre.2 _ (by assumption) | skip
 all_goals first
  | exact uT (fun h => absurd h.1 (by assumption))
  | exact uN ⟨fun h q => h q.2, fun h q => h ⟨by assumption, q⟩⟩
  | skip
end
def nL : Ct := Ar (lc Lk.asl (lc dM l0)) (fun p => ∀ x ∈ p.1, p.2.1.pre x) (fun p => .t (.v (.int .i64 (BM p.2.1.sem 0 p.1))))
section
attribute [local go_sem] yB Bool.not_true Bool.not_false Bw DR Jg Jh
theorem fp {G : Gt} (hG : Ah G) (hh : G.e 92 = AA 0 yB) : Gd G 137 (AA 0 nL) := by
 refine gr (fn := Tryz.f137) (n := 2) rfl rfl hG ?_
 rintro ⟨xs, f, ⟨⟩⟩ hpre
 have hs := hpre
 dsimp only at hs ⊢
 cases f with
 | way  =>
   simp -implicitDefEqProofs only [Tryz.f137, go_sem, hh, seval]
   with_reducible repeat' (first | apply ai | intro _ | ((first | apply s1 | apply s3 | apply s4) <;> intro hb <;> simp -implicitDefEqProofs only [hb, go_sem, hh, seval] <;> try simp only [qz] at hb))
   all_goals first | rfl | omega | skip
   refine AE [] (ι := {i : Nat // i ≤ xs.length ∧ BM (OL.sem (.way )) 0 xs = BM (OL.sem (.way )) i (xs.drop i)}) (fun p => ⟨[(0, .t (.sl 2 (xs.map Bt))), (1, .t (.fn 92 [])), (7, .t (.v (.int .i64 xs.length))), (8, .t (.v (.int .i64 p.1)))], []⟩) (fun p => xs.length - p.1) ⟨0, Nat.zero_le _, rfl⟩ rfl ?_ ?_
   ·simp -implicitDefEqProofs only [go_sem, hh, seval]
    try simp
   ·rintro ⟨i, hi, hix⟩
    by_cases hlt : (i : Int) < xs.length
    ·have hm : xs.getD (i : Int).toNat default ∈ xs := AC (by omega)
     have hsz := hs _ hm
     cases hb : BW (¬ (D9 (xs.getD (i : Int).toNat default).ends ∧ D9 (xs.getD (i : Int).toNat default).to))
     ·have hq := hb
      simp -implicitDefEqProofs only [hlt, hq, go_sem, hh, seval]
      with_reducible repeat' (first | apply ai | intro _ | ((first | apply s1 | apply s3 | apply s4) <;> intro hb <;> simp -implicitDefEqProofs only [hb, go_sem, hh, seval] <;> try simp only [qz] at hb))
      all_goals (try simp only [maxLen] at *)
      all_goals first | rfl | omega | with_reducible assumption | exact hsz | exact hsz.1 | exact hsz.2 | exact hsz.2 _ (by assumption) | exact hsz.2.1 | exact hsz.2.2.1 | exact hsz.2.2.2 | trivial | skip
      rw [AY, tn] at hb
      refine ⟨⟨i + 1, by omega, ?_⟩, by dsimp only; omega, ?_⟩
      ·rw [hix, Fp (p := OL.sem (.way )) (by omega) hb]
      ·simp -implicitDefEqProofs only [go_sem, hh, seval]
       try simp
     ·have hq := hb
      simp -implicitDefEqProofs only [hlt, hq, go_sem, hh, seval]
      with_reducible repeat' (first | apply ai | intro _ | ((first | apply s1 | apply s3 | apply s4) <;> intro hb <;> simp -implicitDefEqProofs only [hb, go_sem, hh, seval] <;> try simp only [qz] at hb))
      all_goals (try simp only [maxLen] at *)
      all_goals first | rfl | omega | with_reducible assumption | exact hsz | exact hsz.1 | exact hsz.2 | exact hsz.2 _ (by assumption) | exact hsz.2.1 | exact hsz.2.2.1 | exact hsz.2.2.2 | trivial | skip
      rw [AZ, tn] at hb
      rw [hix, EQ (p := OL.sem (.way )) (by omega) hb]
    ·simp -implicitDefEqProofs only [hlt, go_sem, hh, seval]
     with_reducible repeat' (first | apply ai | intro _ | ((first | apply s1 | apply s3 | apply s4) <;> intro hb <;> simp -implicitDefEqProofs only [hb, go_sem, hh, seval] <;> try simp only [qz] at hb))
     all_goals first | rfl | omega | skip
     all_goals (rw [hix, EP (by omega)])
end
def yC : Ct := Ar (lc Lk.asl (lc dM l0)) (fun p => ∀ x ∈ p.1, p.2.1.pre x) (fun p => .t (.v (.bool (BW (∃ x ∈ p.1, p.2.1.sem x)))))
section
attribute [local go_sem] nL Bool.not_true Bool.not_false Bw DR Jg Jh
theorem rH {G : Gt} (hG : Ah G) (hh : G.e 137 = AA 0 nL) : Gd G 94 (AA 0 yC) := by
 refine gr (fn := Tryz.f94) (n := 2) rfl rfl hG ?_
 rintro ⟨xs, f, ⟨⟩⟩ hpre
 dsimp only at hpre ⊢
 cases f
 all_goals
  simp -implicitDefEqProofs only [Tryz.f94, go_sem, hh, seval]
  with_reducible repeat' (first | apply ai | intro _ | ((first | apply s1 | apply s3 | apply s4) <;> intro hb <;> simp -implicitDefEqProofs only [hb, go_sem, hh, seval] <;> try simp only [qz] at hb))
  all_goals first | rfl | omega | exact hpre | exact hpre _ (by assumption) | skip
  all_goals (rw [← Ab (FF _ 0)]; rw [Bl])
end
def nI : Ct := Ar (lc Al.asl (lc Ax l0)) (fun p => True) (fun p => .t (.v (.int .i64 (BM (fun s : ByteArray => s = p.2.1) 0 p.1))))
section
attribute [local go_sem] lm
theorem fj {G : Gt} (hG : Ah G) : Gd G 133 (AA 0 nI) := by
 refine gr (fn := Tryz.f133) (n := 2) rfl rfl hG ?_
 rintro ⟨xs, a, ⟨⟩⟩ hpre
 simp -implicitDefEqProofs only [Tryz.f133, go_sem, seval] at hpre ⊢
 with_reducible repeat' (first | apply ai | intro _ | ((first | apply s1 | apply s3 | apply s4) <;> intro hb <;> simp -implicitDefEqProofs only [hb, go_sem, seval] <;> try simp only [qz] at hb))
 all_goals first | rfl | omega | skip
 refine AE [] (ι := {i : Nat // i ≤ xs.length ∧ BM (fun s : ByteArray => s = a) 0 xs = BM (fun s : ByteArray => s = a) i (xs.drop i)}) (fun p => ⟨[(0, .t (.sl 1 (xs.map AH))), (1, .t (.v (.string a))), (7, .t (.v (.int .i64 xs.length))), (8, .t (.v (.int .i64 p.1)))], []⟩) (fun p => xs.length - p.1) ⟨0, by simp, rfl⟩ rfl ?_ ?_
 ·simp -implicitDefEqProofs only [go_sem, seval]
  try simp
 ·rintro ⟨i, hi, hix⟩
  by_cases hlt : (i : Int) < xs.length
  ·simp -implicitDefEqProofs only [hlt, decide_true, tn, go_sem, seval]
   with_reducible repeat' (first | apply ai | intro _ | ((first | apply s1 | apply s3 | apply s4) <;> intro hb <;> simp -implicitDefEqProofs only [hb, go_sem, seval] <;> try simp only [qz] at hb))
   all_goals (try simp only [maxLen] at *)
   all_goals first | rfl | omega | skip
   ·rw [hix, EQ (p := fun s : ByteArray => s = a) (by omega) hb.symm]
   ·refine ⟨⟨i + 1, by omega, by rw [hix, Fp (p := fun s : ByteArray => s = a) (by omega) (fun e => hb e.symm)]⟩, by dsimp only; omega, ?_⟩
    simp -implicitDefEqProofs only [go_sem, seval]
    try simp
  ·simp -implicitDefEqProofs only [hlt, decide_false, go_sem, seval]
   with_reducible repeat' (first | apply ai | intro _ | ((first | apply s1 | apply s3 | apply s4) <;> intro hb <;> simp -implicitDefEqProofs only [hb, go_sem, seval] <;> try simp only [qz] at hb))
   all_goals first | rfl | omega | skip
   rw [hix, EP (by omega)]
end
def xy : Ct := Ar (lc Al.asl (lc Ax l0)) (fun p => True) (fun p => .t (.v (.bool (BW (p.2.1 ∈ p.1)))))
section
attribute [local go_sem] nI
theorem qw {G : Gt} (hG : Ah G) (hh : G.e 133 = AA 0 nI) : Gd G 81 (AA 0 xy) := by
 refine gr (fn := Tryz.f81) (n := 2) rfl rfl hG ?_
 rintro ⟨xs, a, ⟨⟩⟩ hpre
 simp -implicitDefEqProofs only [Tryz.f81, go_sem, hh, seval] at hpre ⊢
 with_reducible repeat' (first | apply ai | intro _ | ((first | apply s1 | apply s3 | apply s4) <;> intro hb <;> simp -implicitDefEqProofs only [hb, go_sem, hh, seval] <;> try simp only [qz] at hb))
 all_goals first | rfl | omega | skip
 refine uD ?_
 rw [ge_iff_le, FF]
 exact ⟨fun ⟨x, hx, e⟩ => e ▸ hx, fun h => ⟨a, h, rfl⟩⟩
end
def sy : Ct := Ar (lc Jn.ag (lc Ax l0)) (fun p => True) (fun p => .t (.v (.bool (BW (p.2.1 ∈ p.1.own)))))
section
attribute [local go_sem] xy
theorem qG {G : Gt} (hG : Ah G) (hh : G.e 81 = AA 0 xy) : Gd G 36 (AA 0 sy) := by
 refine gr (fn := Tryz.f36) (n := 2) rfl rfl hG ?_
 rintro ⟨c, a, ⟨⟩⟩ hpre
 simp -implicitDefEqProofs only [Tryz.f36, go_sem, hh, seval] at hpre ⊢
 with_reducible repeat' (first | apply ai | intro _ | ((first | apply s1 | apply s3 | apply s4) <;> intro hb <;> simp -implicitDefEqProofs only [hb, go_sem, hh, seval] <;> try simp only [qz] at hb))
 all_goals first | rfl | omega | skip
end
def xn : Ct := Ar (lc Jn.ag l0) (fun p => M8 p.1) (fun p => .t (.v (.bool (BW (Li p.1)))))
section
attribute [local go_sem] Xu uC yC Bool.not_true Bool.not_false Bw DR Je Jf Jg Jh Dk Dm Dl Dn AZ AY lm
set_option maxHeartbeats 1600000 in
theorem qL {G : Gt} (hG : Ah G) (hh : G.e 34 = AA 0 Xu ∧ G.e 93 = AA 0 uC ∧ G.e 94 = AA 0 yC) : Gd G 43 (AA 0 xn) := by
 refine gr (fn := Tryz.f43) (n := 1) rfl rfl hG ?_
 rintro ⟨c, ⟨⟩⟩ hpre
 simp -implicitDefEqProofs only [Tryz.f43, go_sem, hh, seval] at hpre ⊢
 obtain ⟨z1, ⟨l1, z2⟩, ⟨l2, z3⟩⟩ := hpre
 have y1 : c.name.size ≤ 2000000 := by have : c.name.size ≤ 1048576 := z1; omega
 have y2 : ∀ x ∈ c.own, EB.pre .dom x := fun x hx => by have : x.size ≤ 1048576 := z2 x hx; show x.size ≤ 2000000; omega
 have y3 : ∀ x ∈ c.ways, OL.pre .way x := fun x hx => by
  have h1 : x.ends.size ≤ 1048576 := (z3 x hx).1
  have h2 : x.to.size ≤ 1048576 := (z3 x hx).2
  exact ⟨by omega, by omega⟩
 have e1 : (¬ ∃ x ∈ c.own, EB.sem .dom x) ↔ ∀ s ∈ c.own, D9 s := ⟨fun h s hs => Classical.byContradiction fun q => h ⟨s, hs, q⟩, fun h ⟨s, hs, q⟩ => q (h s hs)⟩
 have e2 : (¬ ∃ x ∈ c.ways, OL.sem .way x) ↔ ∀ w ∈ c.ways, D9 w.ends ∧ D9 w.to := ⟨fun h s hs => Classical.byContradiction fun q => h ⟨s, hs, q⟩, fun h ⟨s, hs, q⟩ => q (h s hs)⟩
 with_reducible repeat' (first | apply ai | intro _ | ((first | apply s1 | apply s3 | apply s4) <;> intro hb <;> simp -implicitDefEqProofs only [hb, go_sem, hh, seval] <;> try simp only [qz] at hb))
 all_goals first | rfl | omega | assumption | exact y2 _ (by assumption) | exact y3 _ (by assumption) | skip
 all_goals first
  | exact uN (e2.trans ⟨fun q => ⟨e1.1 (by assumption), q, by assumption, by omega, by omega⟩, fun q => q.2.1⟩)
  | exact uF (fun q => absurd q.2.2.1 (by assumption))
  | exact uF (fun q => by have h1 := q.2.2.2.1; have h2 := q.2.2.2.2; omega)
  | exact uF (fun q => absurd hb (e1.2 q.1))
  | skip
end
def tw : Ct := Ar (lc Gy.ag l0) (fun p => HU p.1) (fun p => .t (.v (.bool (BW (GW p.1)))))
section
attribute [local go_sem] xn s9 dB sy xv xw Bool.not_true Bool.not_false Bw DR Je Jf Jg Jh Dk Dm Dl Dn AZ AY lm
set_option maxHeartbeats 6400000 in
theorem p8 {G : Gt} (hG : Ah G) (hh : G.e 43 = AA 0 xn ∧ G.e 74 = AA 0 s9 ∧ G.e 44 = AA 0 dB ∧ G.e 36 = AA 0 sy ∧ G.e 76 = AA 0 xv ∧ G.e 77 = AA 0 xw) : Gd G 23 (AA 0 tw) := by
 refine gr (fn := Tryz.f23) (n := 1) rfl rfl hG ?_
 rintro ⟨h, ⟨⟩⟩ hpre
 simp -implicitDefEqProofs only [Tryz.f23, go_sem, hh, seval] at hpre ⊢
 obtain ⟨zc, zs, ⟨lb, zb⟩, zl⟩ := hpre
 have e1 : ∀ j, j < h.boxes.length → ((∃ x ∈ (h.boxes.getD j default).mails, OK.sem .bad x) ↔ ¬ ∀ g ∈ (h.boxes.getD j default).mails, (BS g.frm ∨ Ac g.frm) ∧ Ck g.body) := fun j _ => ⟨fun ⟨s, hs, q⟩ f => q (f s hs), fun f => Classical.byContradiction fun q => f fun s hs => Classical.byContradiction fun r => q ⟨s, hs, r⟩⟩
 with_reducible repeat' (first | apply ai | intro _ | ((first | apply s1 | apply s3 | apply s4) <;> intro hb <;> simp -implicitDefEqProofs only [hb, go_sem, hh, seval] <;> try simp only [qz] at hb))
 all_goals first
  | rfl
  | omega
  | assumption
  | exact uF (fun q => absurd q.2.1 (by assumption))
  | exact uF (fun q => absurd q.2.2 (by assumption))
  | skip
 all_goals
  refine AE [] (ι := {i : Nat // i ≤ h.boxes.length ∧ ∀ j, j < i → X3 h j}) (fun p => ⟨[(1, .pb 1001 0), (3, .fn 75 []), (17, .t (.sl 3 (h.boxes.map BT))), (18, .t (.v (.int .i64 h.boxes.length))), (19, .t (.v (.int .i64 p.1)))], [(1001, some (.box ((Af h).map .t)))]⟩) (fun p => h.boxes.length - p.1) ⟨0, by simp, by simp⟩ rfl ?_ ?_
  ·simp -implicitDefEqProofs only [go_sem, hh, seval]
   try simp
  ·rintro ⟨i, hi, hall⟩
   by_cases hlt : (i : Int) < h.boxes.length
   ·have hbx := zb _ (AC (xs := h.boxes) (j := i) (by omega))
    obtain ⟨za, zm⟩ := hbx
    have y1 : (h.boxes.getD i default).addr.domain.size ≤ 2000000 := by have : (h.boxes.getD i default).addr.domain.size ≤ 1048576 := za.2; omega
    have y2 : ∀ x ∈ (h.boxes.getD i default).mails, OK.pre .bad x := fun x hx => by
     obtain ⟨⟨_, g1⟩, ⟨_, g2⟩⟩ := zm.2 x hx
     refine ⟨by have : x.frm.domain.size ≤ 1048576 := g1; omega, fun s hs => ?_⟩
     have : s.size ≤ 1048576 := g2 s hs
     omega
    have e2 := e1 i (by omega)
    simp -implicitDefEqProofs only [hlt, decide_true, tn, go_sem, hh, seval]
    with_reducible repeat' (first | apply ai | intro _ | ((first | apply s1 | apply s3 | apply s4) <;> intro hb <;> simp -implicitDefEqProofs only [hb, go_sem, hh, seval] <;> try simp only [qz] at hb))
    all_goals (try simp only [maxLen, tn] at *)
    all_goals have hnat : ((i : Int) - 1).toNat = i - 1 := by omega
    all_goals first
     | rfl
     | omega
     | assumption
     | exact y2 _ (by assumption)
     | exact uF (fun q => absurd (q.1 i (by omega)).1.2 (by assumption))
     | exact uF (fun q => absurd (q.1 i (by omega)).2.2 (by assumption))
     | exact uF (fun q => absurd hb (fun f => e2.1 f (q.1 i (by omega)).1.1))
     | exact uF (fun q => by have h9 := (IS _ _).2 ((q.1 i (by omega)).2.1 (by omega)); rw [← hnat] at h9; omega)
     | skip
    all_goals
     refine ⟨⟨i + 1, by omega, CY hall ⟨⟨Classical.byContradiction fun f => absurd (e2.2 f) (by assumption), by assumption⟩, fun _ => by first | (exact (IS _ _).1 (by rw [← hnat]; omega)) | (exfalso; omega), by assumption⟩⟩, by dsimp only; omega, ?_⟩
     simp -implicitDefEqProofs only [go_sem, hh, seval]
     try simp
   ·simp -implicitDefEqProofs only [hlt, decide_false, go_sem, hh, seval]
    with_reducible repeat' (first | apply ai | intro _ | ((first | apply s1 | apply s3 | apply s4) <;> intro hb <;> simp -implicitDefEqProofs only [hb, go_sem, hh, seval] <;> try simp only [qz] at hb))
    all_goals first | rfl | omega | exact uT ⟨fun j hj => hall j (by omega), by assumption, by assumption⟩ | skip
end
def vY : ByteArray := ⟨#[73, 100, 58, 32]⟩
def IK (s : ByteArray) : Prop := 4 < s.size ∧ s.extract 0 4 = vY
noncomputable def Be : List ByteArray → ByteArray
 | [] => ⟨#[]⟩
 | x :: r => bif BW (IK x) then x else Be r
theorem QB {xs : List ByteArray} {i : Nat} (h : i < xs.length) (ha : IK (xs.getD i default)) : Be (xs.drop i) = xs.getD i default := by
 rw [AW h, Be, Ap ha]; rfl
theorem VQ {xs : List ByteArray} {i : Nat} (h : i < xs.length) (ha : ¬ IK (xs.getD i default)) : Be (xs.drop i) = Be (xs.drop (i + 1)) := by
 rw [AW h, Be, AQ ha]; rfl
theorem QA {xs : List ByteArray} {i : Nat} (h : xs.length ≤ i) : Be (xs.drop i) = ⟨#[]⟩ := by
 rw [List.drop_eq_nil_of_le h, Be]
def sr (s p : ByteArray) : Prop := p.size ≤ s.size ∧ s.extract 0 p.size = p
theorem bE (s : ByteArray) : (sr s vY ∧ ¬ s = vY) ↔ IK s := by
 unfold sr IK
 have h4 : vY.size = 4 := rfl
 rw [h4]
 constructor
 ·rintro ⟨⟨h1, h2⟩, h3⟩
  refine ⟨?_, h2⟩
  by_cases e : s.size = 4
  ·exfalso
   apply h3
   rw [← h2, ← e]
   exact (ByteArray.extract_zero_size).symm
  ·omega
 ·rintro ⟨h1, h2⟩
  exact ⟨⟨by omega, h2⟩, fun e => by rw [e] at h1; have : vY.size = 4 := rfl; omega⟩
def nj : Ct := Ar (lc Ax (lc Ax l0)) (fun p => p.1.size ≤ 2000000 ∧ p.2.1.size ≤ 2000000) (fun p => .t (.v (.bool (BW (sr p.1 p.2.1)))))
theorem gW {G : Gt} (hG : Ah G) : Gd G 172 (AA 0 nj) := by
 refine gr (fn := Tryz.f172) (n := 2) rfl rfl hG ?_
 rintro ⟨s, q, ⟨⟩⟩ hpre
 simp -implicitDefEqProofs only [Tryz.f172, go_sem, seval] at hpre ⊢
 obtain ⟨z1, z2⟩ := hpre
 with_reducible repeat' (first | apply ai | intro _ | ((first | apply s1 | apply s3 | apply s4) <;> intro hb <;> simp -implicitDefEqProofs only [hb, go_sem, seval] <;> try simp only [qz] at hb))
 all_goals (try simp only [maxLen, tn] at *)
 all_goals first
  | rfl
  | omega
  | exact uD ⟨fun h => ⟨by omega, h⟩, fun h => h.2⟩
  | exact uF (fun h => by have := h.1; omega)
  | skip
def nQ : Ct := Ar (lc Ax (lc Ax l0)) (fun p => p.1.size ≤ 2000000 ∧ p.2.1.size ≤ 2000000) (fun p => .t (.v (.bool (BW (sr p.1 p.2.1)))))
section
attribute [local go_sem] nj
theorem fy {G : Gt} (hG : Ah G) (hh : G.e 172 = AA 0 nj) : Gd G 143 (AA 0 nQ) := by
 refine gr (fn := Tryz.f143) (n := 2) rfl rfl hG ?_
 rintro ⟨s, q, ⟨⟩⟩ hpre
 simp -implicitDefEqProofs only [Tryz.f143, go_sem, hh, seval] at hpre ⊢
 obtain ⟨z1, z2⟩ := hpre
 with_reducible repeat' (first | apply ai | intro _ | ((first | apply s1 | apply s3 | apply s4) <;> intro hb <;> simp -implicitDefEqProofs only [hb, go_sem, hh, seval] <;> try simp only [qz] at hb))
 all_goals (try simp only [maxLen, tn] at *)
 all_goals first
  | rfl
  | omega
  | exact uD ⟨fun h => ⟨by omega, h⟩, fun h => h.2⟩
  | exact uF (fun h => by have := h.1; omega)
  | skip
end
def NR : Ct := Ar (lc Al.asl l0) (fun p => True) (fun p => .t (.v (.string (Be p.1))))
section
attribute [local go_sem] lm
theorem fN {G : Gt} (hG : Ah G) : Gd G 107 (AA 0 NR) := by
 refine gr (fn := Tryz.f107) (n := 1) rfl rfl hG ?_
 rintro ⟨xs, ⟨⟩⟩ hpre
 simp -implicitDefEqProofs only [Tryz.f107, go_sem, seval] at hpre ⊢
 refine AE [] (ι := {i : Nat // i ≤ xs.length ∧ Be xs = Be (xs.drop i)}) (fun p => ⟨[(0, .t (.sl 1 (xs.map AH))), (3, .t (.v (.int .i64 p.1)))], []⟩) (fun p => xs.length - p.1) ⟨0, by simp, rfl⟩ rfl ?_ ?_
 ·simp -implicitDefEqProofs only [go_sem, seval]
  try simp
 ·rintro ⟨i, hi, hix⟩
  by_cases hlt : (i : Int) < xs.length
  ·simp -implicitDefEqProofs only [hlt, decide_true, tn, go_sem, seval]
   with_reducible repeat' (first | apply ai | intro _ | ((first | apply s1 | apply s3 | apply s4) <;> intro hb <;> simp -implicitDefEqProofs only [hb, go_sem, seval] <;> try simp only [qz] at hb))
   all_goals (try simp only [maxLen, tn] at *)
   all_goals first
    | rfl
    | omega
    | (rw [hix, QB (by omega) ⟨by omega, by assumption⟩]; done)
    | skip
   all_goals
    refine ⟨⟨i + 1, by omega, by rw [hix, VQ (by omega) (fun h => by first | exact absurd h.2 (by assumption) | (have := h.1; omega))]⟩, by dsimp only; omega, ?_⟩
    simp -implicitDefEqProofs only [go_sem, seval]
    try simp
  ·simp -implicitDefEqProofs only [hlt, decide_false, go_sem, seval]
   with_reducible repeat' (first | apply ai | intro _ | ((first | apply s1 | apply s3 | apply s4) <;> intro hb <;> simp -implicitDefEqProofs only [hb, go_sem, seval] <;> try simp only [qz] at hb))
   all_goals first | rfl | omega | skip
   rw [hix, QA (by omega)]
end
def m8 : Ct := Ar (lc Al.asl l0) (fun p => ∀ s ∈ p.1, s.size ≤ 2000000) (fun p => .t (.v (.string (Be p.1))))
section
attribute [local go_sem] nQ lm AZ AY
theorem fP {G : Gt} (hG : Ah G) (hh : G.e 143 = AA 0 nQ) : Gd G 109 (AA 0 m8) := by
 refine gr (fn := Tryz.f109) (n := 1) rfl rfl hG ?_
 rintro ⟨xs, ⟨⟩⟩ hpre
 simp -implicitDefEqProofs only [Tryz.f109, go_sem, hh, seval] at hpre ⊢
 try dsimp only at hpre
 with_reducible repeat' (first | apply ai | intro _ | ((first | apply s1 | apply s3 | apply s4) <;> intro hb <;> simp -implicitDefEqProofs only [hb, go_sem, hh, seval] <;> try simp only [qz] at hb))
 all_goals first | rfl | omega | skip
 refine AE [] (ι := {i : Nat // i ≤ xs.length ∧ Be xs = Be (xs.drop i)}) (fun p => ⟨[(5, .t (.sl 1 (xs.map AH))), (6, .t (.v (.int .i64 xs.length))), (7, .t (.v (.int .i64 p.1)))], []⟩) (fun p => xs.length - p.1) ⟨0, by simp, rfl⟩ rfl ?_ ?_
 ·simp -implicitDefEqProofs only [go_sem, hh, seval]
  try simp
 ·rintro ⟨i, hi, hix⟩
  by_cases hlt : (i : Int) < xs.length
  ·have hm := hpre _ (AC (xs := xs) (j := i) (by omega))
   simp -implicitDefEqProofs only [hlt, decide_true, tn, go_sem, hh, seval]
   with_reducible repeat' (first | apply ai | intro _ | ((first | apply s1 | apply s3 | apply s4) <;> intro hb <;> simp -implicitDefEqProofs only [hb, go_sem, hh, seval] <;> try simp only [qz] at hb))
   all_goals (try simp only [maxLen, tn] at *)
   all_goals first
    | rfl
    | omega
    | assumption
    | decide
    | (rw [hix, QB (by omega) ((bE _).1 ⟨by assumption, by assumption⟩)]; done)
    | skip
   all_goals
    refine ⟨⟨i + 1, by omega, by rw [hix, VQ (by omega) (fun h => by have h2 := (bE _).2 h; first | exact absurd h2.1 (by assumption) | exact absurd (by assumption) h2.2)]⟩, by dsimp only; omega, ?_⟩
    simp -implicitDefEqProofs only [go_sem, hh, seval]
    try simp
  ·simp -implicitDefEqProofs only [hlt, decide_false, go_sem, hh, seval]
   with_reducible repeat' (first | apply ai | intro _ | ((first | apply s1 | apply s3 | apply s4) <;> intro hb <;> simp -implicitDefEqProofs only [hb, go_sem, hh, seval] <;> try simp only [qz] at hb))
   all_goals first | rfl | omega | skip
   rw [hix, QA (by omega)]
end
def lL (a : ByteArray) : MK := .s a
theorem iv {a b : ByteArray} (h : lL a = lL b) : a = b := by
 simp only [lL, MK.s.injEq] at h
 exact h
theorem zE : IJ Tryz.prog 9 (some 0) := IJ.str u9
theorem kW {x : ByteArray} : Al.decL [[.v (.string x)]] = some [x] := Al.decL_map [x]
def IZ (xs : List ByteArray) : List (MK × Bool) := xs.foldl (fun es a => L6 (lL a) true es) []
theorem Ia (xs : List ByteArray) (a : ByteArray) : IZ (xs ++ [a]) = L6 (lL a) true (IZ xs) := by simp [IZ]
theorem Zu (xs : List ByteArray) (a : ByteArray) : lL a ∈ (IZ xs).map Prod.fst ↔ a ∈ xs := by
 generalize hr : xs.reverse = r
 have hx : xs = r.reverse := by rw [← hr, List.reverse_reverse]
 subst hx
 clear hr
 induction r with
 | nil => simp [IZ]
 | cons b r ih =>
   rw [List.reverse_cons, Ia, F4, List.mem_append, ← propext ih]
   by_cases h : lL b ∈ (IZ r.reverse).map Prod.fst
   ·rw [if_pos h]
    constructor
    ·exact .inl
    ·rintro (h1 | h1)
     ·exact h1
     ·rw [List.mem_singleton.1 h1]; exact h
   ·rw [if_neg h, List.mem_append, List.mem_singleton, List.mem_singleton]
    exact or_congr_right ⟨iv, fun e => by rw [e]⟩
theorem Zt (xs : List ByteArray) : (IZ xs).length ≤ xs.length ∧ ((IZ xs).length = xs.length ↔ xs.Nodup) := by
 generalize hr : xs.reverse = r
 have hx : xs = r.reverse := by rw [← hr, List.reverse_reverse]
 subst hx
 clear hr
 induction r with
 | nil => simp [IZ]
 | cons b r ih =>
   have hl : ∀ es : List (MK × Bool), es.length = (es.map Prod.fst).length := fun es => by rw [lm]
   have hn : (r.reverse ++ [b]).Nodup ↔ r.reverse.Nodup ∧ b ∉ r.reverse := by
    rw [List.nodup_append]
    constructor
    ·rintro ⟨h1, _, h3⟩
     exact ⟨h1, fun hb => h3 b hb b (by simp) rfl⟩
    ·rintro ⟨h1, h2⟩
     refine ⟨h1, by simp, fun x hx y hy e => ?_⟩
     rw [List.mem_singleton] at hy
     subst hy; subst e; exact h2 hx
   rw [List.reverse_cons, Ia, hl, F4, List.length_append, hn, ← Zu]
   obtain ⟨i1, i2⟩ := ih
   by_cases h : lL b ∈ (IZ r.reverse).map Prod.fst
   ·rw [if_pos h, ← hl]
    refine ⟨by omega, ⟨fun e => ?_, fun e => absurd h e.2⟩⟩
    simp at e i1; omega
   ·rw [if_neg h, List.length_append, ← hl]
    refine ⟨by simp at *; omega, ⟨fun e => ⟨i2.1 (by simp at *; omega), h⟩, fun e => ?_⟩⟩
    have := i2.2 e.1
    simp at *; omega
theorem Su {xs : List ByteArray} {i : Nat} (h : i < xs.length) : xs.take (i + 1) = xs.take i ++ [xs.getD i default] := by
 rw [List.take_succ_eq_append_getElem h]
 simp [h]
theorem W3 {xs : List ByteArray} {i : Nat} (h : i < xs.length) : L6 (.s (xs.getD i default)) true (IZ (xs.take i)) = IZ (xs.take (i + 1)) := by
 rw [Su h, Ia]; rfl
def Q5 (l : Ls) : Prop := ¬ l.mark = ⟨#[]⟩ ∧ Be [l.mark] = l.mark ∧ BS l.addr ∧ IH l.mark
def Ma (h : Hs) : ByteArray := h.conf.name
def Dc (w : Wd) : Prop := (∀ h ∈ w.hosts, GW h) ∧ (w.hosts.map Ma).Nodup ∧ (∀ l ∈ w.given, Q5 l) ∧ (1 ≤ (w.hosts.length : Int) ∧ (w.hosts.length : Int) ≤ 4) ∧ (0 ≤ w.now ∧ w.now ≤ 9999) ∧ (0 ≤ w.marks ∧ w.marks ≤ 60)
theorem XR {xs : List Hs} (h : ∀ j, j < xs.length → ∀ k, k < j → ¬ (xs.getD k default).conf.name = (xs.getD j default).conf.name) : (xs.map Ma).Nodup := by
 rw [List.nodup_iff_pairwise_ne, List.pairwise_iff_getElem]
 intro k j hk hj hkj
 rw [lm] at hk hj
 have := h j hj k hkj
 simpa [hk, hj, Ma] using this
theorem XA {xs : List Hs} (h : (xs.map Ma).Nodup) {k i : Nat} (hk : k < i) (hi : i < xs.length) : ¬ (xs.getD k default).conf.name = (xs.getD i default).conf.name := fun e => by
 have q1 : k < xs.length := by omega
 simp only [List.getD_eq_getElem?_getD, List.getElem?_eq_getElem q1, List.getElem?_eq_getElem hi, Option.getD_some] at e
 exact List.pairwise_iff_getElem.1 (List.nodup_iff_pairwise_ne.1 h) k i (by simpa using q1) (by simpa using hi) hk (by simpa [Ma] using e)
theorem cZ {xs : List Hs} {i : Nat} (h : i < xs.length) : ((xs.map Ma).take (i + 1)).map AH = ((xs.map Ma).take i).map AH ++ [[.v (.string (xs.getD i default).conf.name)]] := by
 have e : (xs.map Ma).getD i default = (xs.getD i default).conf.name := by
  simp only [List.getD_eq_getElem?_getD, List.getElem?_map, List.getElem?_eq_getElem h, Option.map_some, Option.getD_some]; rfl
 rw [Az AH (by rw [lm]; exact h), e]
 rfl
def xt : Ct := Ar (lc Al.asl l0) (fun p => True) (fun p => .t (.v (.bool (BW p.1.Nodup))))
section
attribute [local go_sem] Bool.not_true Bool.not_false Bw DR co
theorem qY {G : Gt} (hG : Ah G) : Gd G 59 (AA 0 xt) := by
 refine gr (fn := Tryz.f59) (n := 1) rfl rfl hG ?_
 rintro ⟨xs, ⟨⟩⟩ hpre
 simp -implicitDefEqProofs only [Tryz.f59, go_sem, seval] at hpre ⊢
 with_reducible repeat' (first | apply ai | intro _ | ((first | apply s1 | apply s3 | apply s4) <;> intro hb <;> simp -implicitDefEqProofs only [hb, go_sem, seval] <;> try simp only [qz] at hb))
 all_goals first | rfl | omega | skip
 refine AE [] (ι := {i : Nat // i ≤ xs.length}) (fun p => ⟨[(0, .t (.sl 1 (xs.map AH))), (3, .h 1006), (7, .t (.sl 1 (xs.map AH))), (8, .t (.v (.int .i64 xs.length))), (9, .t (.v (.int .i64 p.1)))], [(1006, some (.mp (some 0) (IZ (xs.take p.1))))]⟩) (fun p => xs.length - p.1) ⟨0, Nat.zero_le _⟩ rfl ?_ ?_
 ·simp -implicitDefEqProofs only [go_sem, seval]
  try simp
  rfl
 ·rintro ⟨i, hi⟩
  by_cases hlt : (i : Int) < xs.length
  ·simp -implicitDefEqProofs only [hlt, go_sem, seval]
   with_reducible repeat' (first | apply ai | intro _ | ((first | apply s1 | apply s3 | apply s4) <;> intro hb <;> simp -implicitDefEqProofs only [hb, go_sem, seval] <;> try simp only [qz] at hb))
   all_goals (try simp only [maxLen] at *)
   all_goals first | rfl | omega | exact zE | skip
   refine ⟨⟨i + 1, by omega⟩, by dsimp only; omega, ?_⟩
   simp -implicitDefEqProofs only [go_sem, seval]
   simp only [tn, W3 (show i < xs.length by omega)]
   try simp
  ·simp -implicitDefEqProofs only [hlt, go_sem, seval]
   with_reducible repeat' (first | apply ai | intro _ | ((first | apply s1 | apply s3 | apply s4) <;> intro hb <;> simp -implicitDefEqProofs only [hb, go_sem, seval] <;> try simp only [qz] at hb))
   all_goals first | rfl | omega | skip
   rw [List.take_of_length_le (by omega), ← Ab (Zt xs).2, Bl]
   refine congrArg (fun b => T.v (.bool b)) (decide_eq_decide.2 ?_)
   omega
end
open Classical in
noncomputable def VN (xs : List ByteArray) : ByteArray := if Ck xs then Be xs else ⟨#[]⟩
theorem VP {xs : List ByteArray} (h : Ck xs) : VN xs = Be xs := if_pos h
theorem VO {xs : List ByteArray} (h : ¬ Ck xs) : VN xs = ⟨#[]⟩ := if_neg h
theorem X2 (x : ByteArray) : Ck [x] ↔ IH x := by
 unfold Ck
 constructor
 ·intro h; exact h.1 x (by simp)
 ·intro h
  refine ⟨fun s hs => by rw [List.mem_singleton.1 hs]; exact h, by simp⟩
theorem yf (l : Ls) : (¬ l.mark = ⟨#[]⟩ ∧ VN [l.mark] = l.mark ∧ BS l.addr) ↔ Q5 l := by
 unfold Q5
 by_cases h : IH l.mark
 ·rw [VP ((X2 _).2 h)]
  exact ⟨fun q => ⟨q.1, q.2.1, q.2.2, h⟩, fun q => ⟨q.1, q.2.1, q.2.2.1⟩⟩
 ·rw [VO (fun q => h ((X2 _).1 q))]
  exact ⟨fun q => absurd q.2.1.symm q.1, fun q => absurd q.2.2.2 h⟩
def xr : Ct := Ar (lc Al.asl l0) (fun p => ∀ s ∈ p.1, s.size ≤ 2000000) (fun p => .t (.v (.string (VN p.1))))
section
attribute [local go_sem] eF m8 AZ AY
theorem qX {G : Gt} (hG : Ah G) (hh : G.e 51 = AA 0 eF ∧ G.e 109 = AA 0 m8) : Gd G 58 (AA 0 xr) := by
 refine gr (fn := Tryz.f58) (n := 1) rfl rfl hG ?_
 rintro ⟨xs, ⟨⟩⟩ hpre
 simp -implicitDefEqProofs only [Tryz.f58, go_sem, hh, seval] at hpre ⊢
 try dsimp only at hpre
 with_reducible repeat' (first | apply ai | intro _ | ((first | apply s1 | apply s3 | apply s4) <;> intro hb <;> simp -implicitDefEqProofs only [hb, go_sem, hh, seval] <;> try simp only [qz] at hb))
 all_goals first | rfl | omega | exact hpre _ (by assumption) | (rw [VP hb]; done) | (rw [VO hb]; done) | skip
end
def oX : Ct := Ar (lc Qv.ag l0) (fun p => True) (fun p => .t (.v (.bool (BW (Dc p.1)))))
section
attribute [local go_sem] s5 IU NR RT JP AZ AY lm kW
set_option maxHeartbeats 6400000 in
theorem qW {G : Gt} (hG : Ah G) (hh : G.e 39 = AA 0 s5 ∧ G.e 106 = AA 0 IU ∧ G.e 107 = AA 0 NR ∧ G.e 108 = AA 0 RT ∧ G.e 69 = AA 0 JP) : Gd G 57 (AA 0 oX) := by
 refine gr (fn := Tryz.f57) (n := 1) rfl rfl hG ?_
 rintro ⟨w, ⟨⟩⟩ hpre
 simp -implicitDefEqProofs only [Tryz.f57, go_sem, hh, seval] at hpre ⊢
 refine AE [] (ι := {i : Nat // i ≤ w.hosts.length ∧ (∀ j, j < i → GW (w.hosts.getD j default)) ∧ ∀ j, j < i → ∀ k, k < j → ¬ (w.hosts.getD k default).conf.name = (w.hosts.getD j default).conf.name}) (fun p => ⟨[(1, .pb 1001 0), (3, .t (.v (.int .i64 p.1)))], [(1001, some (.box ((C8 w).map .t)))]⟩) (fun p => w.hosts.length - p.1) ⟨0, by simp, by simp, by simp⟩ rfl ?_ ?_
 ·simp -implicitDefEqProofs only [go_sem, hh, seval]
  try simp
 ·rintro ⟨i, hi, hall, hno⟩
  by_cases hlt : (i : Int) < w.hosts.length
  ·simp -implicitDefEqProofs only [hlt, decide_true, tn, go_sem, hh, seval]
   with_reducible repeat' (first | apply ai | intro _ | ((first | apply s1 | apply s3 | apply s4) <;> intro hb <;> simp -implicitDefEqProofs only [hb, go_sem, hh, seval] <;> try simp only [qz] at hb))
   all_goals (try simp only [maxLen, tn] at *)
   all_goals first
    | rfl
    | omega
    | exact uF (fun q => absurd (q.1 (w.hosts.getD i default) (AC (by omega))) (by assumption))
    | skip
   refine AE [] (ι := {k : Nat // k ≤ i ∧ ∀ j, j < k → ¬ (w.hosts.getD j default).conf.name = (w.hosts.getD i default).conf.name}) (fun p => ⟨[(1, .pb 1001 0), (3, .t (.v (.int .i64 i))), (4, .t (.v (.int .i64 p.1)))], [(1001, some (.box ((C8 w).map .t)))]⟩) (fun p => i - p.1) ⟨0, by simp, by simp⟩ rfl ?_ ?_
   ·simp -implicitDefEqProofs only [go_sem, hh, seval]
    try simp
   ·rintro ⟨k, hk, hk2⟩
    by_cases hlt2 : (k : Int) < i
    ·simp -implicitDefEqProofs only [hlt2, decide_true, tn, go_sem, hh, seval]
     with_reducible repeat' (first | apply ai | intro _ | ((first | apply s1 | apply s3 | apply s4) <;> intro hb <;> simp -implicitDefEqProofs only [hb, go_sem, hh, seval] <;> try simp only [qz] at hb))
     all_goals (try simp only [maxLen, tn] at *)
     all_goals first
      | rfl
      | omega
      | exact uF (fun q => XA q.2.1 (k := k) (i := i) (by omega) (by omega) (by assumption))
      | skip
     all_goals
      refine ⟨⟨k + 1, by omega, CY hk2 (by assumption)⟩, by dsimp only; omega, ?_⟩
      simp -implicitDefEqProofs only [go_sem, hh, seval]
      try simp
    ·simp -implicitDefEqProofs only [hlt2, decide_false, go_sem, hh, seval]
     with_reducible repeat' (first | apply ai | intro _ | ((first | apply s1 | apply s3 | apply s4) <;> intro hb <;> simp -implicitDefEqProofs only [hb, go_sem, hh, seval] <;> try simp only [qz] at hb))
     all_goals first | rfl | omega | skip
     refine ⟨⟨i + 1, by omega, CY hall (by assumption), CY (P := fun j => ∀ k, k < j → ¬ (w.hosts.getD k default).conf.name = (w.hosts.getD j default).conf.name) hno (fun q hq => hk2 q (by omega))⟩, by dsimp only; omega, ?_⟩
     simp -implicitDefEqProofs only [go_sem, hh, seval]
     try simp
  ·have hA : ∀ h ∈ w.hosts, GW h := BF fun j hj => hall j (by omega)
   have hN : (w.hosts.map Ma).Nodup := XR fun j hj q hq => hno j (by omega) q hq
   simp -implicitDefEqProofs only [hlt, decide_false, go_sem, hh, seval]
   with_reducible repeat' (first | apply ai | intro _ | ((first | apply s1 | apply s3 | apply s4) <;> intro hb <;> simp -implicitDefEqProofs only [hb, go_sem, hh, seval] <;> try simp only [qz] at hb))
   all_goals first | rfl | omega | skip
   refine AE [] (ι := {i : Nat // i ≤ w.given.length ∧ ∀ j, j < i → Q5 (w.given.getD j default)}) (fun p => ⟨[(1, .pb 1001 0), (5, .t (.v (.int .i64 p.1)))], [(1001, some (.box ((C8 w).map .t)))]⟩) (fun p => w.given.length - p.1) ⟨0, by simp, by simp⟩ rfl ?_ ?_
   ·simp -implicitDefEqProofs only [go_sem, hh, seval]
    try simp
   ·rintro ⟨k, hk, hall2⟩
    by_cases hlt2 : (k : Int) < w.given.length
    ·simp -implicitDefEqProofs only [hlt2, decide_true, tn, go_sem, hh, seval]
     with_reducible repeat' (first | apply ai | intro _ | ((first | apply s1 | apply s3 | apply s4) <;> intro hb <;> simp -implicitDefEqProofs only [hb, go_sem, hh, seval] <;> try simp only [qz] at hb))
     all_goals (try simp only [maxLen, tn] at *)
     all_goals first
      | rfl
      | omega
      | decide
      | exact uF (fun q => absurd (q.2.2.1 (w.given.getD k default) (AC (by omega))).1 (by simpa using hb))
      | exact uF (fun q => absurd (q.2.2.1 (w.given.getD k default) (AC (by omega))).2.1 (by assumption))
      | exact uF (fun q => absurd (q.2.2.1 (w.given.getD k default) (AC (by omega))).2.2.1 (by assumption))
      | exact uF (fun q => absurd (q.2.2.1 (w.given.getD k default) (AC (by omega))).2.2.2 (by assumption))
      | skip
     all_goals
      refine ⟨⟨k + 1, by omega, CY hall2 ⟨by first | assumption | (simpa using hb), by assumption, by assumption, by assumption⟩⟩, by dsimp only; omega, ?_⟩
      simp -implicitDefEqProofs only [go_sem, hh, seval]
      try simp
    ·have hB : ∀ l ∈ w.given, Q5 l := BF fun j hj => hall2 j (by omega)
     simp -implicitDefEqProofs only [hlt2, decide_false, go_sem, hh, seval]
     with_reducible repeat' (first | apply ai | intro _ | ((first | apply s1 | apply s3 | apply s4) <;> intro hb <;> simp -implicitDefEqProofs only [hb, go_sem, hh, seval] <;> try simp only [qz] at hb))
     all_goals first
      | rfl
      | omega
      | exact uE ⟨fun q => ⟨hA, hN, hB, by assumption, by assumption, q⟩, fun q => q.2.2.2.2.2⟩
      | exact uF (fun q => absurd q.2.2.2.1 (by assumption))
      | exact uF (fun q => absurd q.2.2.2.2.1 (by assumption))
      | skip
end
def nh : Ct := Ar (lc Qv.ag l0) (fun p => GY p.1) (fun p => .t (.v (.bool (BW (Dc p.1)))))
section
attribute [local go_sem] tw xr dB Xv xt s7 AZ AY lm kW List.mem_singleton forall_eq List.length_cons List.length_nil List.length_append List.nil_append Nat.zero_add Bool.not_false Bool.not_true
set_option maxHeartbeats 6400000 in
theorem p6 {G : Gt} (hG : Ah G) (hh : G.e 23 = AA 0 tw ∧ G.e 58 = AA 0 xr ∧ G.e 44 = AA 0 dB ∧ G.e 48 = AA 0 Xv ∧ G.e 59 = AA 0 xt ∧ G.e 60 = AA 0 s7) : Gd G 17 (AA 0 nh) := by
 refine gr (fn := Tryz.f17) (n := 1) rfl rfl hG ?_
 rintro ⟨w, ⟨⟩⟩ hpre
 simp -implicitDefEqProofs only [Tryz.f17, go_sem, hh, seval] at hpre ⊢
 obtain ⟨⟨lh, zh⟩, ⟨lg, zg⟩⟩ := hpre
 with_reducible repeat' (first | apply ai | intro _ | ((first | apply s1 | apply s3 | apply s4) <;> intro hb <;> simp -implicitDefEqProofs only [hb, go_sem, hh, seval] <;> try simp only [qz] at hb))
 all_goals first | rfl | omega | skip
 refine AE [(3, 1903, true, 1)] (ι := {i : Nat // i ≤ w.hosts.length ∧ ∀ j, j < i → GW (w.hosts.getD j default)}) (fun p => ⟨[(1, .pb 1001 0), (3, .h 1903), (9, .t (.sl 7 (w.hosts.map Af))), (10, .t (.v (.int .i64 w.hosts.length))), (11, .t (.v (.int .i64 p.1)))], [(1001, some (.box ((C8 w).map .t))), (1903, some (.arr true 1 (((w.hosts.map Ma).take p.1).map AH)))]⟩) (fun p => w.hosts.length - p.1) ⟨0, by simp, by simp⟩ rfl ?_ ?_
 ·simp -implicitDefEqProofs only [go_sem, hh, seval]
  try simp
 ·rintro ⟨i, hi, hall⟩
  have hlen : ((w.hosts.map Ma).take i).length = i := by simp; omega
  by_cases hlt : (i : Int) < w.hosts.length
  ·have hz := zh _ (AC (xs := w.hosts) (j := i) (by omega))
   simp -implicitDefEqProofs only [hlt, decide_true, tn, go_sem, hh, seval]
   with_reducible repeat' (first | apply ai | intro _ | ((first | apply s1 | apply s3 | apply s4) <;> intro hb <;> simp -implicitDefEqProofs only [hb, go_sem, hh, seval] <;> try simp only [qz] at hb))
   all_goals (try simp only [maxLen, tn] at *)
   all_goals first
    | rfl
    | omega
    | assumption
    | exact uF (fun q => absurd (q.1 (w.hosts.getD i default) (AC (by omega))) (by assumption))
    | skip
   refine ⟨⟨i + 1, by omega, CY hall hb⟩, by dsimp only; omega, ?_⟩
   simp -implicitDefEqProofs only [go_sem, hh, seval]
   simp only [cZ (show i < w.hosts.length by omega)]
   with_reducible repeat' (first | apply ai | intro _ | ((first | apply s1 | apply s3 | apply s4) <;> intro hb <;> simp -implicitDefEqProofs only [hb, go_sem, hh, seval] <;> try simp only [qz] at hb))
   all_goals first | rfl | (simp; done) | skip
  ·have hA : ∀ h ∈ w.hosts, GW h := BF fun j hj => hall j (by omega)
   simp -implicitDefEqProofs only [hlt, decide_false, go_sem, hh, seval]
   with_reducible repeat' (first | apply ai | intro _ | ((first | apply s1 | apply s3 | apply s4) <;> intro hb <;> simp -implicitDefEqProofs only [hb, go_sem, hh, seval] <;> try simp only [qz] at hb))
   all_goals first | rfl | omega | skip
   rw [List.take_of_length_le (by rw [lm]; omega)]
   refine AE [] (ι := {i : Nat // i ≤ w.given.length ∧ ∀ j, j < i → Q5 (w.given.getD j default)}) (fun p => ⟨[(1, .pb 1001 0), (3, .h 1903), (26, .t (.sl 3 (w.given.map An))), (27, .t (.v (.int .i64 w.given.length))), (28, .t (.v (.int .i64 p.1)))], [(1001, some (.box ((C8 w).map .t))), (1903, some (.arr true 1 ((w.hosts.map Ma).map AH)))]⟩) (fun p => w.given.length - p.1) ⟨0, by simp, by simp⟩ rfl ?_ ?_
   ·simp -implicitDefEqProofs only [go_sem, hh, seval]
    try simp
   ·rintro ⟨k, hk, hall2⟩
    by_cases hlt2 : (k : Int) < w.given.length
    ·obtain ⟨g1, g2⟩ := zg _ (AC (xs := w.given) (j := k) (by omega))
     have y1 : (w.given.getD k default).mark.size ≤ 2000000 := by have : (w.given.getD k default).mark.size ≤ 1048576 := g1; omega
     have y1' : ∀ s ∈ [(w.given.getD k default).mark], s.size ≤ 2000000 := fun s hs => by rw [List.mem_singleton.1 hs]; exact y1
     have y2 : (w.given.getD k default).addr.domain.size ≤ 2000000 := by have : (w.given.getD k default).addr.domain.size ≤ 1048576 := g2.2; omega
     simp -implicitDefEqProofs only [hlt2, decide_true, tn, go_sem, hh, seval]
     with_reducible repeat' (first | apply ai | intro _ | ((first | apply s1 | apply s3 | apply s4) <;> intro hb <;> simp -implicitDefEqProofs only [hb, go_sem, hh, seval] <;> try simp only [qz] at hb))
     all_goals (try simp only [maxLen, tn] at *)
     all_goals first
      | rfl
      | omega
      | assumption
      | exact y1' _ (by assumption)
      | exact uF (fun q => absurd (q.2.2.1 (w.given.getD k default) (AC (by omega))).1 (fun f => f (by assumption)))
      | exact uF (fun q => absurd ((yf _).2 (q.2.2.1 (w.given.getD k default) (AC (by omega)))).2.1 (by assumption))
      | exact uF (fun q => absurd (q.2.2.1 (w.given.getD k default) (AC (by omega))).2.2.1 (by assumption))
      | skip
     all_goals
      refine ⟨⟨k + 1, by omega, CY hall2 ((yf _).1 ⟨by assumption, by assumption, by assumption⟩)⟩, by dsimp only; omega, ?_⟩
      simp -implicitDefEqProofs only [go_sem, hh, seval]
      try simp
    ·have hB : ∀ l ∈ w.given, Q5 l := BF fun j hj => hall2 j (by omega)
     simp -implicitDefEqProofs only [hlt2, decide_false, go_sem, hh, seval]
     with_reducible repeat' (first | apply ai | intro _ | ((first | apply s1 | apply s3 | apply s4) <;> intro hb <;> simp -implicitDefEqProofs only [hb, go_sem, hh, seval] <;> try simp only [qz] at hb))
     all_goals first
      | rfl
      | omega
      | exact uE ⟨fun q => ⟨hA, by assumption, hB, by assumption, by assumption, q⟩, fun q => q.2.2.2.2.2⟩
      | exact uF (fun q => absurd q.2.2.2.1 (by assumption))
      | exact uF (fun q => absurd q.2.1 (by assumption))
      | exact uF (fun q => absurd q.2.2.2.2.1 (by assumption))
      | skip
end
end Go.V
