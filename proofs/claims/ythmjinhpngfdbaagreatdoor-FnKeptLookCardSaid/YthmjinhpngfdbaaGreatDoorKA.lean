/- The row. No condition. -/
import Derived.Test.YthmjinhpngfdbaaGreatDoorXB
import Derived.Test.YthmjinhpngfdbaaGreatDoorProg
import Derived.KernelRfl
import Derived.Lib.IndexMore
import Derived.Lib.IndexEntry
import Derived.Lib.RabinKarpLaws
import Derived.Lib.Split
import Derived.DeepKeys4
import Derived.Lib.Bytealg
namespace Go.V
open Go Go.Proofs
theorem zf : AI Tryz.prog 3 = some ⟨.int .i64, 1, 8, [.int .i64 0]⟩ := by kernel_rfl
theorem zj : AI Tryz.prog 4 = some ⟨.bool, 1, 1, [.bool false]⟩ := by kernel_rfl
theorem zk : AI Tryz.prog 5 = some ⟨.int .u8, 1, 1, [.int .u8 0]⟩ := by kernel_rfl
theorem zp : AI Tryz.prog 9 = some ⟨.str, 1, 16, [.string ⟨#[]⟩]⟩ := by kernel_rfl
theorem yY : AI Tryz.prog 22 = some ⟨.slice 5, 1, 24, [.slice none 0 0]⟩ := by kernel_rfl
theorem yZ : AI Tryz.prog 23 = some ⟨.slice 9, 1, 24, [.slice none 0 0]⟩ := by kernel_rfl
theorem ya : AI Tryz.prog 24 = some ⟨.slice 139, 1, 24, [.slice none 0 0]⟩ := by kernel_rfl
theorem yb : AI Tryz.prog 26 = some ⟨.struct [(0, 1, false), (1, 1, false), (2, 1, false)], 3, 64, [.string ⟨#[]⟩, .slice none 0 0, .slice none 0 0]⟩ := by kernel_rfl
theorem yc : AI Tryz.prog 27 = some ⟨.slice 76, 1, 24, [.slice none 0 0]⟩ := by kernel_rfl
theorem yd : AI Tryz.prog 29 = some ⟨.struct [(0, 1, false), (1, 1, false)], 2, 32, [.int .i64 0, .slice none 0 0]⟩ := by kernel_rfl
theorem yf : AI Tryz.prog 30 = some ⟨.slice 57, 1, 24, [.slice none 0 0]⟩ := by kernel_rfl
theorem yg : AI Tryz.prog 31 = some ⟨.slice 44, 1, 24, [.slice none 0 0]⟩ := by kernel_rfl
theorem yh : AI Tryz.prog 33 = some ⟨.struct [(0, 3, true), (3, 2, true), (5, 1, false), (6, 1, false)], 7, 144, [.string ⟨#[]⟩, .slice none 0 0, .slice none 0 0, .int .i64 0, .slice none 0 0, .slice none 0 0, .slice none 0 0]⟩ := by kernel_rfl
theorem yi : AI Tryz.prog 35 = some ⟨.struct [(0, 1, false), (1, 1, false)], 2, 32, [.string ⟨#[]⟩, .string ⟨#[]⟩]⟩ := by kernel_rfl
theorem yj : AI Tryz.prog 44 = some ⟨.struct [(0, 1, false), (1, 2, true)], 3, 48, [.string ⟨#[]⟩, .string ⟨#[]⟩, .string ⟨#[]⟩]⟩ := by kernel_rfl
theorem yk : AI Tryz.prog 46 = some ⟨.slice 33, 1, 24, [.slice none 0 0]⟩ := by kernel_rfl
theorem yl : AI Tryz.prog 48 = some ⟨.struct [(0, 1, false), (1, 1, false), (2, 1, false), (3, 1, false)], 4, 64, [.slice none 0 0, .int .i64 0, .int .i64 0, .slice none 0 0]⟩ := by kernel_rfl
theorem ym : AI Tryz.prog 55 = some ⟨.slice 88, 1, 24, [.slice none 0 0]⟩ := by kernel_rfl
theorem yn : AI Tryz.prog 57 = some ⟨.struct [(0, 2, true), (2, 1, false)], 3, 56, [.string ⟨#[]⟩, .string ⟨#[]⟩, .slice none 0 0]⟩ := by kernel_rfl
theorem yp : AI Tryz.prog 64 = some ⟨.slice 3, 1, 24, [.slice none 0 0]⟩ := by kernel_rfl
theorem yq : AI Tryz.prog 74 = some ⟨.slice 115, 1, 24, [.slice none 0 0]⟩ := by kernel_rfl
theorem yr : AI Tryz.prog 76 = some ⟨.struct [(0, 1, false), (1, 2, true), (3, 1, false), (4, 1, false)], 5, 88, [.int .i64 0, .string ⟨#[]⟩, .string ⟨#[]⟩, .slice none 0 0, .slice none 0 0]⟩ := by kernel_rfl
theorem yu : AI Tryz.prog 88 = some ⟨.struct [(0, 2, true), (2, 1, false)], 3, 56, [.string ⟨#[]⟩, .string ⟨#[]⟩, .slice none 0 0]⟩ := by kernel_rfl
theorem wP : AI Tryz.prog 102 = some ⟨.slice 35, 1, 24, [.slice none 0 0]⟩ := by kernel_rfl
theorem wQ : AI Tryz.prog 104 = some ⟨.struct [(0, 2, true), (2, 1, false), (3, 1, false)], 4, 80, [.string ⟨#[]⟩, .string ⟨#[]⟩, .slice none 0 0, .slice none 0 0]⟩ := by kernel_rfl
theorem wR : AI Tryz.prog 110 = some ⟨.struct [(0, 1, false), (1, 1, false)], 2, 32, [.slice none 0 0, .int .i64 0]⟩ := by kernel_rfl
theorem wS : AI Tryz.prog 115 = some ⟨.struct [(0, 2, true), (2, 1, false), (3, 1, false)], 4, 48, [.string ⟨#[]⟩, .string ⟨#[]⟩, .int .i64 0, .int .i64 0]⟩ := by kernel_rfl
theorem wT : AI Tryz.prog 139 = some ⟨.struct [(0, 1, false), (1, 1, false)], 2, 32, [.string ⟨#[]⟩, .string ⟨#[]⟩]⟩ := by kernel_rfl
theorem iA : AI Tryz.prog 157 = some ⟨.map 9 4, 1, 8, [.map none]⟩ := by kernel_rfl
theorem wU : AI Tryz.prog 179 = some ⟨.slice 26, 1, 24, [.slice none 0 0]⟩ := by kernel_rfl
theorem wV : AI Tryz.prog 180 = some ⟨.slice 209, 1, 24, [.slice none 0 0]⟩ := by kernel_rfl
theorem Bc : AI Tryz.prog 196 = some ⟨.map 35 4, 1, 8, [.map none]⟩ := by kernel_rfl
theorem wW : AI Tryz.prog 199 = some ⟨.arr 256 4, 256, 256, List.replicate 256 (.bool false)⟩ := by kernel_rfl
theorem wX : AI Tryz.prog 209 = some ⟨.struct [(0, 1, false), (1, 1, false), (2, 1, false), (3, 1, false), (4, 1, false), (5, 1, false), (6, 4, true)], 10, 128, [.int .i64 0, .int .i64 0, .int .i64 0, .int .i64 0, .int .i64 0, .bool false, .string ⟨#[]⟩, .string ⟨#[]⟩, .slice none 0 0, .slice none 0 0]⟩ := by kernel_rfl
theorem wY : AI Tryz.prog 229 = some ⟨.slice 104, 1, 24, [.slice none 0 0]⟩ := by kernel_rfl
theorem wZ : AI Tryz.prog 242 = some ⟨.struct [(0, 1, false), (1, 4, true), (5, 1, false), (6, 1, false), (7, 1, false)], 8, 136, [.string ⟨#[]⟩, .string ⟨#[]⟩, .string ⟨#[]⟩, .slice none 0 0, .slice none 0 0, .int .i64 0, .int .i64 0, .slice none 0 0]⟩ := by kernel_rfl
theorem wa : AI Tryz.prog 245 = some ⟨.struct [(0, 1, false), (1, 4, true), (5, 1, false), (6, 1, false)], 7, 112, [.int .i64 0, .string ⟨#[]⟩, .string ⟨#[]⟩, .slice none 0 0, .slice none 0 0, .bool false, .string ⟨#[]⟩]⟩ := by kernel_rfl
theorem wb : AI Tryz.prog 251 = some ⟨.int .u32, 1, 4, [.int .u32 0]⟩ := by kernel_rfl
theorem Cv : rq Tryz.prog 35 = some [.s, .s] := by kernel_rfl
theorem uz : Tryz.prog.follows .mixedOrders = true := by kernel_rfl
instance : Inhabited ByteArray := ⟨⟨#[]⟩⟩
def A9 (a : Int) : List T := [.v (.int .i64 a)]
def Wh : List T → Option Int
 | [.v (.int .i64 x)] => some x
 | _ => none
def D4 : En Int where
 enc := A9
 dec := Wh
 n := 1
 ed := fun _ => rfl
 de := fun c a h => by unfold Wh at h; split at h <;> cases h; rfl
 len := fun _ => rfl
theorem Ue (a : Int) : A9 a = [.v (.int .i64 a)] := rfl
theorem Vm (xs : List Int) (n : Int) (s : AS) (K : Kt) : Eu 1 (xs.map A9) n s K = (0 ≤ n ∧ n < xs.length ∧ K (.t (.rop (A9 (xs.getD n.toNat default)))) s) := BX A9 xs 1 n s K fun _ => rfl
theorem OK {b : Int} : D4.dec [.v (.int .i64 b)] = some b := rfl
theorem cH (xs : List Int) : D4.decL (xs.map A9) = some xs := D4.decL_map xs
theorem Wi : D4.decL [] = some [] := rfl
theorem Va : D4.enc = A9 := rfl
theorem iJ : D4.n = 1 := rfl
theorem VW (xs : List Int) : ES (xs.map A9) = True := eq_true (ET A9 (by intro a t ht; simp [A9] at ht; exact ⟨_, ht⟩) xs)
theorem dC (xs : List Int) : (∀ c ∈ xs.map A9, c.length = 1) = True := eq_true fun c hc => by
 obtain ⟨a, _, rfl⟩ := List.mem_map.1 hc; rfl
theorem N3 (xs : List Int) (i : Nat) (s : Int) : (xs.map A9).set i [.v (.int .i64 s)] = (xs.set i s).map A9 := Jl A9 xs i s rfl
theorem Uf (a : ByteArray) : AG a = [.v (.string a)] := rfl
theorem Vn (xs : List ByteArray) (n : Int) (s : AS) (K : Kt) : Eu 1 (xs.map AG) n s K = (0 ≤ n ∧ n < xs.length ∧ K (.t (.rop (AG (xs.getD n.toNat default)))) s) := BX AG xs 1 n s K fun _ => rfl
theorem OL {b : ByteArray} : Ao.dec [.v (.string b)] = some b := rfl
theorem cJ (xs : List ByteArray) : Ao.decL (xs.map AG) = some xs := Ao.decL_map xs
theorem Wk : Ao.decL [] = some [] := rfl
theorem Vc : Ao.enc = AG := rfl
theorem iK : Ao.n = 1 := rfl
theorem Jq (xs : List ByteArray) : ES (xs.map AG) = True := eq_true (ET AG (by intro a t ht; simp [AG] at ht; exact ⟨_, ht⟩) xs)
theorem S8 (xs : List ByteArray) : (∀ c ∈ xs.map AG, c.length = 1) = True := eq_true fun c hc => by
 obtain ⟨a, _, rfl⟩ := List.mem_map.1 hc; rfl
theorem mr {α β : Type} {A : AD α} {L : AL β} {a : α} {b : β} : (lc A L).enc (a, b) = A.enc a :: L.enc b := rfl
theorem mo {a : Unit} : l0.enc a = [] := rfl
theorem bT {α : Type} {E : En α} {xs : List α} : E.asl.enc xs = .t (.sl E.n (xs.map E.enc)) := rfl
theorem iy {α : Type} {E : En α} {a : α} : E.ag.enc a = .agg ((E.enc a).map .t) := rfl
theorem bQ {α : Type} {E : En α} {d : Bool} {n : Nat} {xs : List α} : (E.aow d n).enc xs = .o d n (xs.map E.enc) := rfl
theorem VT {b : Int} : BU.enc b = .t (.v (.int .i64 b)) := rfl
theorem Z0 {b : Int} : iC.enc b = .t (.v (.int .u8 b)) := rfl
theorem VV {b : ByteArray} : Ak.enc b = .t (.v (.string b)) := rfl
theorem Aa {α : Type} [Inhabited α] {xs : List α} {i : Nat} (h : i < xs.length) : xs.drop i = xs.getD i default :: xs.drop (i + 1) := Ud h
theorem vf {k : Nat} {c : Ct} : (AA k c).kd = k := rfl
theorem vg {k : Nat} {c : Ct} : (AA k c).ro = c := rfl
theorem vG {c : Mt} : (AW c).kd = 2 := rfl
theorem vH {c : Mt} : (AW c).mu = c := rfl
open Classical in
noncomputable def BA (p : Prop) : Bool := decide p
theorem AK {p : Prop} : (BA p = true) = p := by unfold BA; simp
theorem AM {p : Prop} : (BA p = false) = ¬ p := by unfold BA; simp
theorem An {p : Prop} (h : p) : BA p = true := by rw [AK]; exact h
theorem AQ {p : Prop} (h : ¬ p) : BA p = false := by rw [AM]; exact h
theorem A4 {p : Prop} [Decidable p] : BA p = decide p := by
 by_cases h : p
 ·rw [An h, decide_eq_true h]
 ·rw [AQ h, decide_eq_false h]
theorem D8 {p : Prop} : (!BA p) = BA (¬ p) := by
 by_cases h : p
 ·rw [An h, AQ (fun q => q h)]; rfl
 ·rw [AQ h, An h]; rfl
theorem AP {p q : Prop} (h : p ↔ q) : BA p = BA q := by rw [propext h]
theorem qa {p : Prop} [Decidable p] : (decide p = true) = p := by simp
theorem qb {p : Prop} [Decidable p] : (decide p = false) = ¬ p := by simp
theorem qc {b : Bool} : ((!b) = true) = (b = false) := by simp
theorem qd {b : Bool} : ((!b) = false) = (b = true) := by simp
theorem qe {b : Bool} : (¬ b = true) = (b = false) := by simp
theorem qf {b : Bool} : (¬ b = false) = (b = true) := by simp
theorem qg {p : Prop} : (¬ ¬ p) = p := by simp
theorem qz : (∀ (p : Prop) [Decidable p], (decide p = true) = p) ∧ (∀ (p : Prop) [Decidable p], (decide p = false) = ¬ p) ∧ (∀ b : Bool, ((!b) = true) = (b = false)) ∧ (∀ b : Bool, ((!b) = false) = (b = true)) ∧ (∀ b : Bool, (¬ b = true) = (b = false)) ∧ (∀ b : Bool, (¬ b = false) = (b = true)) ∧ (∀ p : Prop, (¬ ¬ p) = p) ∧ (∀ p : Prop, (BA p = true) = p) ∧ (∀ p : Prop, (BA p = false) = ¬ p) := ⟨fun _ _ => qa, fun _ _ => qb, fun _ => qc, fun _ => qd, fun _ => qe, fun _ => qf, fun _ => qg, fun _ => AK, fun _ => AM⟩
abbrev Ac (G : Gt) : Prop := Lb Tryz.prog G ∧ El G
abbrev Gd (G : Gt) (f : FuncId) (e : QJ) : Prop := Lg Tryz.prog G.m f e
theorem gR {G : Gt} {dp : Nat → Bool} {f : FuncId} {fn : Func} {c : Code} {α : Type} {L : AL α} {pre : α → Prop} {r : α → AV} {kd n : Nat} (hn : ∀ a, (L.enc a).length = n) (hf : Tryz.prog.funcs[f]? = some fn) (hb : fn.body = some c) (hok : Nh fn c = true) (hG : Ac G)
    (hlen : n ≤ fn.ntmps) (ok : BI Tryz.prog f = true) (hk : ¬ kd = 3) (hs : kd = 0 → ∀ a, BO (r a)) (h : ∀ a, pre a → run Tryz.prog G dp (RF Tryz.prog fn.results.toList (AX 900 0 (L.enc a) ⟨[], []⟩).avs (L.enc a) (r a)) [.c c] (s0 (L.enc a))) : Gd G f (AA kd (Aj L pre r)) := Xx hn hf hb hok uz hG hlen ok hk hs h
theorem gM {G : Gt} {dp : Nat → Bool} {f : FuncId} {fn : Func} {c : Code} {α : Type} {L : AL α} {pre : α → Prop} {r : α → List AV × AV} {n : Nat} (hn : ∀ a, (L.enc a).length = n) (hf : Tryz.prog.funcs[f]? = some fn) (hb : fn.body = some c) (hok : Nh fn c = true) (hG : Ac G)
    (hlen : n ≤ fn.ntmps) (ok : BI Tryz.prog f = true) (h : ∀ a, pre a → run Tryz.prog G dp (RF Tryz.prog fn.results.toList (AX 900 0 (L.enc a) ⟨[], []⟩).avs (r a).1 (r a).2) [.c c] (s0 (L.enc a))) : Gd G f (AW (H1 L pre r)) := Ui hn hf hb hok uz hG hlen ok h
structure Ad where
 user : ByteArray
 domain : ByteArray
 deriving DecidableEq
instance : Inhabited Ad := ⟨⟨default, default⟩⟩
def Ap (a : Ad) : List T := [.v (.string a.user), .v (.string a.domain)]
def fR : List T → Option Ad
 | [.v (.string x0), .v (.string x1)] => some ⟨x0, x1⟩
 | _ => none
def DV : En Ad where
 enc := Ap
 dec := fR
 n := 2
 ed := fun _ => rfl
 de := fun c a h => by unfold fR at h; split at h <;> cases h; rfl
 len := fun _ => rfl
theorem Kc (a : Ad) : Ap a = [.v (.string a.user), .v (.string a.domain)] := rfl
theorem au (xs : List Ad) (n : Int) (s : AS) (K : Kt) : Eu 2 (xs.map Ap) n s K = (0 ≤ n ∧ n < xs.length ∧ K (.t (.rop (Ap (xs.getD n.toNat default)))) s) := BX Ap xs 2 n s K fun _ => rfl
theorem Z3 {x0 : ByteArray} {x1 : ByteArray} : DV.dec [.v (.string x0), .v (.string x1)] = some ⟨x0, x1⟩ := rfl
theorem l6 (xs : List Ad) : DV.decL (xs.map Ap) = some xs := DV.decL_map xs
theorem Z4 : DV.enc = Ap := rfl
theorem rz : DV.n = 2 := rfl
theorem mz (xs : List Ad) : (∀ c ∈ xs.map Ap, c.length = 2) = True := eq_true fun c hc => by
 obtain ⟨a, _, rfl⟩ := List.mem_map.1 hc; rfl
theorem Z2 (xs : List Ad) : ES (xs.map Ap) = True := eq_true (ET Ap (by intro a t ht; simp only [Ap, List.mem_cons, List.not_mem_nil, or_false] at ht; rcases ht with rfl | rfl <;> exact ⟨_, rfl⟩) xs)
theorem iD (a : Ad) : (⟨a.user, a.domain⟩ : Ad) = a := rfl
theorem BV {a b : Ad} : a = b ↔ a.user = b.user ∧ a.domain = b.domain := by
 cases a; cases b; simp
structure Ml where
 frm : Ad
 to : List Ad
 body : List ByteArray
 deriving DecidableEq
instance : Inhabited Ml := ⟨⟨default, default, default⟩⟩
def DG (a : Ml) : List T := [.v (.string a.frm.user), .v (.string a.frm.domain), .sl 2 (a.to.map Ap), .sl 1 (a.body.map AG)]
def YS (x0 : ByteArray) (x1 : ByteArray) : Option (List Ad) → Option (List ByteArray) → Option Ml
 | some x2, some x3 => some ⟨⟨x0, x1⟩, x2, x3⟩
 | _, _ => none
def fc : List T → Option Ml
 | [.v (.string x0), .v (.string x1), .sl 2 x2, .sl 1 x3] => YS x0 x1 (DV.decL x2) (Ao.decL x3)
 | _ => none
def aN : En Ml where
 enc := DG
 dec := fc
 n := 4
 ed := fun a => by
  show YS a.frm.user a.frm.domain (DV.decL (a.to.map DV.enc)) (Ao.decL (a.body.map Ao.enc)) = _
  rw [DV.decL_map, Ao.decL_map]
  rfl
 de := fun c a h => by
  unfold fc at h
  split at h
  ·unfold YS at h
   split at h
   ·rename_i e0 e1
    cases h
    rw [DV.decL_inv e0, Ao.decL_inv e1]; rfl
   ·cases h
  ·cases h
 len := fun _ => rfl
theorem XR (a : Ml) : DG a = [.v (.string a.frm.user), .v (.string a.frm.domain), .sl 2 (a.to.map Ap), .sl 1 (a.body.map AG)] := rfl
theorem bD (xs : List Ml) (n : Int) (s : AS) (K : Kt) : Eu 4 (xs.map DG) n s K = (0 ≤ n ∧ n < xs.length ∧ K (.t (.rop (DG (xs.getD n.toNat default)))) s) := BX DG xs 4 n s K fun _ => rfl
theorem aO {x0 : ByteArray} {x1 : ByteArray} {x2 : List (List T)} {x3 : List (List T)} : aN.dec [.v (.string x0), .v (.string x1), .sl 2 x2, .sl 1 x3] = YS x0 x1 (DV.decL x2) (Ao.decL x3) := rfl
theorem aP : aN.enc = DG := rfl
theorem m9 (xs : List Ml) : (∀ c ∈ xs.map DG, c.length = 4) = True := eq_true fun c hc => by
 obtain ⟨a, _, rfl⟩ := List.mem_map.1 hc; rfl
theorem iT (a : Ml) : (⟨a.frm, a.to, a.body⟩ : Ml) = a := rfl
structure Rc where
 addr : Ad
 tries : Int
 next : Int
 deriving DecidableEq
instance : Inhabited Rc := ⟨⟨default, default, default⟩⟩
def BP (a : Rc) : List T := [.v (.string a.addr.user), .v (.string a.addr.domain), .v (.int .i64 a.tries), .v (.int .i64 a.next)]
def fd : List T → Option Rc
 | [.v (.string x0), .v (.string x1), .v (.int .i64 x2), .v (.int .i64 x3)] => some ⟨⟨x0, x1⟩, x2, x3⟩
 | _ => none
def QA : En Rc where
 enc := BP
 dec := fd
 n := 4
 ed := fun _ => rfl
 de := fun c a h => by unfold fd at h; split at h <;> cases h; rfl
 len := fun _ => rfl
theorem XS (a : Rc) : BP a = [.v (.string a.addr.user), .v (.string a.addr.domain), .v (.int .i64 a.tries), .v (.int .i64 a.next)] := rfl
theorem bE (xs : List Rc) (n : Int) (s : AS) (K : Kt) : Eu 4 (xs.map BP) n s K = (0 ≤ n ∧ n < xs.length ∧ K (.t (.rop (BP (xs.getD n.toNat default)))) s) := BX BP xs 4 n s K fun _ => rfl
theorem aQ {x0 : ByteArray} {x1 : ByteArray} {x2 : Int} {x3 : Int} : QA.dec [.v (.string x0), .v (.string x1), .v (.int .i64 x2), .v (.int .i64 x3)] = some ⟨⟨x0, x1⟩, x2, x3⟩ := rfl
theorem mF (xs : List Rc) : QA.decL (xs.map BP) = some xs := QA.decL_map xs
theorem aR : QA.enc = BP := rfl
theorem sC : QA.n = 4 := rfl
theorem YE (xs : List Rc) : (∀ c ∈ xs.map BP, c.length = 4) = True := eq_true fun c hc => by
 obtain ⟨a, _, rfl⟩ := List.mem_map.1 hc; rfl
theorem Mn (xs : List Rc) : ES (xs.map BP) = True := eq_true (ET BP (by intro a t ht; simp only [BP, List.mem_cons, List.not_mem_nil, or_false] at ht; rcases ht with rfl | rfl | rfl | rfl <;> exact ⟨_, rfl⟩) xs)
theorem iU (a : Rc) : (⟨a.addr, a.tries, a.next⟩ : Rc) = a := rfl
theorem n9 (xs : List Rc) (i : Nat) (x0 : ByteArray) (x1 : ByteArray) (x2 : Int) (x3 : Int) : (xs.map BP).set i [.v (.string x0), .v (.string x1), .v (.int .i64 x2), .v (.int .i64 x3)] = (xs.set i ⟨⟨x0, x1⟩, x2, x3⟩).map BP := Jl BP xs i ⟨⟨x0, x1⟩, x2, x3⟩ rfl
structure Im where
 id : Int
 frm : Ad
 to : List Rc
 body : List ByteArray
 deriving DecidableEq
instance : Inhabited Im := ⟨⟨default, default, default, default⟩⟩
def Ar (a : Im) : List T := [.v (.int .i64 a.id), .v (.string a.frm.user), .v (.string a.frm.domain), .sl 4 (a.to.map BP), .sl 1 (a.body.map AG)]
def YR (x0 : Int) (x1 : ByteArray) (x2 : ByteArray) : Option (List Rc) → Option (List ByteArray) → Option Im
 | some x3, some x4 => some ⟨x0, ⟨x1, x2⟩, x3, x4⟩
 | _, _ => none
def fZ : List T → Option Im
 | [.v (.int .i64 x0), .v (.string x1), .v (.string x2), .sl 4 x3, .sl 1 x4] => YR x0 x1 x2 (QA.decL x3) (Ao.decL x4)
 | _ => none
def Jr : En Im where
 enc := Ar
 dec := fZ
 n := 5
 ed := fun a => by
  show YR a.id a.frm.user a.frm.domain (QA.decL (a.to.map QA.enc)) (Ao.decL (a.body.map Ao.enc)) = _
  rw [QA.decL_map, Ao.decL_map]
  rfl
 de := fun c a h => by
  unfold fZ at h
  split at h
  ·unfold YR at h
   split at h
   ·rename_i e0 e1
    cases h
    rw [QA.decL_inv e0, Ao.decL_inv e1]; rfl
   ·cases h
  ·cases h
 len := fun _ => rfl
theorem XP (a : Im) : Ar a = [.v (.int .i64 a.id), .v (.string a.frm.user), .v (.string a.frm.domain), .sl 4 (a.to.map BP), .sl 1 (a.body.map AG)] := rfl
theorem bB (xs : List Im) (n : Int) (s : AS) (K : Kt) : Eu 5 (xs.map Ar) n s K = (0 ≤ n ∧ n < xs.length ∧ K (.t (.rop (Ar (xs.getD n.toNat default)))) s) := BX Ar xs 5 n s K fun _ => rfl
theorem aJ {x0 : Int} {x1 : ByteArray} {x2 : ByteArray} {x3 : List (List T)} {x4 : List (List T)} : Jr.dec [.v (.int .i64 x0), .v (.string x1), .v (.string x2), .sl 4 x3, .sl 1 x4] = YR x0 x1 x2 (QA.decL x3) (Ao.decL x4) := rfl
theorem mD (xs : List Im) : Jr.decL (xs.map Ar) = some xs := Jr.decL_map xs
theorem aK : Jr.enc = Ar := rfl
theorem m8 (xs : List Im) : (∀ c ∈ xs.map Ar, c.length = 5) = True := eq_true fun c hc => by
 obtain ⟨a, _, rfl⟩ := List.mem_map.1 hc; rfl
theorem iQ (a : Im) : (⟨a.id, a.frm, a.to, a.body⟩ : Im) = a := rfl
theorem n8 (xs : List Im) (i : Nat) (x0 : Int) (x1 : ByteArray) (x2 : ByteArray) (x3 : List Rc) (x4 : List ByteArray) : (xs.map Ar).set i [.v (.int .i64 x0), .v (.string x1), .v (.string x2), .sl 4 (x3.map BP), .sl 1 (x4.map AG)] = (xs.set i ⟨x0, ⟨x1, x2⟩, x3, x4⟩).map Ar := Jl Ar xs i ⟨x0, ⟨x1, x2⟩, x3, x4⟩ rfl
structure Sp where
 last : Int
 items : List Im
 deriving DecidableEq
instance : Inhabited Sp := ⟨⟨default, default⟩⟩
def FG (a : Sp) : List T := [.v (.int .i64 a.last), .sl 5 (a.items.map Ar)]
def YU (x0 : Int) : Option (List Im) → Option Sp
 | some x1 => some ⟨x0, x1⟩
 | _ => none
def ff : List T → Option Sp
 | [.v (.int .i64 x0), .sl 5 x1] => YU x0 (Jr.decL x1)
 | _ => none
def Vb : En Sp where
 enc := FG
 dec := ff
 n := 2
 ed := fun a => by
  show YU a.last (Jr.decL (a.items.map Jr.enc)) = _
  rw [Jr.decL_map]
  rfl
 de := fun c a h => by
  unfold ff at h
  split at h
  ·unfold YU at h
   split at h
   ·rename_i e0
    cases h
    rw [Jr.decL_inv e0]; rfl
   ·cases h
  ·cases h
 len := fun _ => rfl
theorem XT (a : Sp) : FG a = [.v (.int .i64 a.last), .sl 5 (a.items.map Ar)] := rfl
theorem aS {x0 : Int} {x1 : List (List T)} : Vb.dec [.v (.int .i64 x0), .sl 5 x1] = YU x0 (Jr.decL x1) := rfl
theorem aT : Vb.enc = FG := rfl
theorem iV (a : Sp) : (⟨a.last, a.items⟩ : Sp) = a := rfl
structure Wy where
 ends : ByteArray
 to : ByteArray
 deriving DecidableEq
instance : Inhabited Wy := ⟨⟨default, default⟩⟩
def Bn (a : Wy) : List T := [.v (.string a.ends), .v (.string a.to)]
def fi : List T → Option Wy
 | [.v (.string x0), .v (.string x1)] => some ⟨x0, x1⟩
 | _ => none
def Ld : En Wy where
 enc := Bn
 dec := fi
 n := 2
 ed := fun _ => rfl
 de := fun c a h => by unfold fi at h; split at h <;> cases h; rfl
 len := fun _ => rfl
theorem XW (a : Wy) : Bn a = [.v (.string a.ends), .v (.string a.to)] := rfl
theorem bF (xs : List Wy) (n : Int) (s : AS) (K : Kt) : Eu 2 (xs.map Bn) n s K = (0 ≤ n ∧ n < xs.length ∧ K (.t (.rop (Bn (xs.getD n.toNat default)))) s) := BX Bn xs 2 n s K fun _ => rfl
theorem aZ {x0 : ByteArray} {x1 : ByteArray} : Ld.dec [.v (.string x0), .v (.string x1)] = some ⟨x0, x1⟩ := rfl
theorem mH (xs : List Wy) : Ld.decL (xs.map Bn) = some xs := Ld.decL_map xs
theorem aa : Ld.enc = Bn := rfl
theorem sD : Ld.n = 2 := rfl
theorem YF (xs : List Wy) : (∀ c ∈ xs.map Bn, c.length = 2) = True := eq_true fun c hc => by
 obtain ⟨a, _, rfl⟩ := List.mem_map.1 hc; rfl
theorem Mo (xs : List Wy) : ES (xs.map Bn) = True := eq_true (ET Bn (by intro a t ht; simp only [Bn, List.mem_cons, List.not_mem_nil, or_false] at ht; rcases ht with rfl | rfl <;> exact ⟨_, rfl⟩) xs)
theorem iZ (a : Wy) : (⟨a.ends, a.to⟩ : Wy) = a := rfl
structure Cf where
 name : ByteArray
 own : List ByteArray
 ways : List Wy
 deriving DecidableEq
instance : Inhabited Cf := ⟨⟨default, default, default⟩⟩
def DT (a : Cf) : List T := [.v (.string a.name), .sl 1 (a.own.map AG), .sl 2 (a.ways.map Bn)]
def YM (x0 : ByteArray) : Option (List ByteArray) → Option (List Wy) → Option Cf
 | some x1, some x2 => some ⟨x0, x1, x2⟩
 | _, _ => none
def fU : List T → Option Cf
 | [.v (.string x0), .sl 1 x1, .sl 2 x2] => YM x0 (Ao.decL x1) (Ld.decL x2)
 | _ => none
def JS : En Cf where
 enc := DT
 dec := fU
 n := 3
 ed := fun a => by
  show YM a.name (Ao.decL (a.own.map Ao.enc)) (Ld.decL (a.ways.map Ld.enc)) = _
  rw [Ao.decL_map, Ld.decL_map]
  rfl
 de := fun c a h => by
  unfold fU at h
  split at h
  ·unfold YM at h
   split at h
   ·rename_i e0 e1
    cases h
    rw [Ao.decL_inv e0, Ld.decL_inv e1]; rfl
   ·cases h
  ·cases h
 len := fun _ => rfl
theorem XL (a : Cf) : DT a = [.v (.string a.name), .sl 1 (a.own.map AG), .sl 2 (a.ways.map Bn)] := rfl
theorem az (xs : List Cf) (n : Int) (s : AS) (K : Kt) : Eu 3 (xs.map DT) n s K = (0 ≤ n ∧ n < xs.length ∧ K (.t (.rop (DT (xs.getD n.toNat default)))) s) := BX DT xs 3 n s K fun _ => rfl
theorem Z7 {x0 : ByteArray} {x1 : List (List T)} {x2 : List (List T)} : JS.dec [.v (.string x0), .sl 1 x1, .sl 2 x2] = YM x0 (Ao.decL x1) (Ld.decL x2) := rfl
theorem l8 (xs : List Cf) : JS.decL (xs.map DT) = some xs := JS.decL_map xs
theorem Z8 : JS.enc = DT := rfl
theorem r7 : JS.n = 3 := rfl
theorem iG (a : Cf) : (⟨a.name, a.own, a.ways⟩ : Cf) = a := rfl
structure Gm where
 frm : Ad
 body : List ByteArray
 deriving DecidableEq
instance : Inhabited Gm := ⟨⟨default, default⟩⟩
def Ba (a : Gm) : List T := [.v (.string a.frm.user), .v (.string a.frm.domain), .sl 1 (a.body.map AG)]
def YP (x0 : ByteArray) (x1 : ByteArray) : Option (List ByteArray) → Option Gm
 | some x2 => some ⟨⟨x0, x1⟩, x2⟩
 | _ => none
def fX : List T → Option Gm
 | [.v (.string x0), .v (.string x1), .sl 1 x2] => YP x0 x1 (Ao.decL x2)
 | _ => none
def QI : En Gm where
 enc := Ba
 dec := fX
 n := 3
 ed := fun a => by
  show YP a.frm.user a.frm.domain (Ao.decL (a.body.map Ao.enc)) = _
  rw [Ao.decL_map]
  rfl
 de := fun c a h => by
  unfold fX at h
  split at h
  ·unfold YP at h
   split at h
   ·rename_i e0
    cases h
    rw [Ao.decL_inv e0]; rfl
   ·cases h
  ·cases h
 len := fun _ => rfl
theorem O9 (a : Gm) : Ba a = [.v (.string a.frm.user), .v (.string a.frm.domain), .sl 1 (a.body.map AG)] := rfl
theorem a9 (xs : List Gm) (n : Int) (s : AS) (K : Kt) : Eu 3 (xs.map Ba) n s K = (0 ≤ n ∧ n < xs.length ∧ K (.t (.rop (Ba (xs.getD n.toNat default)))) s) := BX Ba xs 3 n s K fun _ => rfl
theorem aE {x0 : ByteArray} {x1 : ByteArray} {x2 : List (List T)} : QI.dec [.v (.string x0), .v (.string x1), .sl 1 x2] = YP x0 x1 (Ao.decL x2) := rfl
theorem mA (xs : List Gm) : QI.decL (xs.map Ba) = some xs := QI.decL_map xs
theorem aG : QI.enc = Ba := rfl
theorem r9 : QI.n = 3 := rfl
theorem m7 (xs : List Gm) : (∀ c ∈ xs.map Ba, c.length = 3) = True := eq_true fun c hc => by
 obtain ⟨a, _, rfl⟩ := List.mem_map.1 hc; rfl
theorem iN (a : Gm) : (⟨a.frm, a.body⟩ : Gm) = a := rfl
structure Bx where
 addr : Ad
 mails : List Gm
 deriving DecidableEq
instance : Inhabited Bx := ⟨⟨default, default⟩⟩
def BQ (a : Bx) : List T := [.v (.string a.addr.user), .v (.string a.addr.domain), .sl 3 (a.mails.map Ba)]
def YL (x0 : ByteArray) (x1 : ByteArray) : Option (List Gm) → Option Bx
 | some x2 => some ⟨⟨x0, x1⟩, x2⟩
 | _ => none
def fS : List T → Option Bx
 | [.v (.string x0), .v (.string x1), .sl 3 x2] => YL x0 x1 (QI.decL x2)
 | _ => none
def VZ : En Bx where
 enc := BQ
 dec := fS
 n := 3
 ed := fun a => by
  show YL a.addr.user a.addr.domain (QI.decL (a.mails.map QI.enc)) = _
  rw [QI.decL_map]
  rfl
 de := fun c a h => by
  unfold fS at h
  split at h
  ·unfold YL at h
   split at h
   ·rename_i e0
    cases h
    rw [QI.decL_inv e0]; rfl
   ·cases h
  ·cases h
 len := fun _ => rfl
theorem XJ (a : Bx) : BQ a = [.v (.string a.addr.user), .v (.string a.addr.domain), .sl 3 (a.mails.map Ba)] := rfl
theorem ax (xs : List Bx) (n : Int) (s : AS) (K : Kt) : Eu 3 (xs.map BQ) n s K = (0 ≤ n ∧ n < xs.length ∧ K (.t (.rop (BQ (xs.getD n.toNat default)))) s) := BX BQ xs 3 n s K fun _ => rfl
theorem Z5 {x0 : ByteArray} {x1 : ByteArray} {x2 : List (List T)} : VZ.dec [.v (.string x0), .v (.string x1), .sl 3 x2] = YL x0 x1 (QI.decL x2) := rfl
theorem l7 (xs : List Bx) : VZ.decL (xs.map BQ) = some xs := VZ.decL_map xs
theorem Z6 : VZ.enc = BQ := rfl
theorem m0 (xs : List Bx) : (∀ c ∈ xs.map BQ, c.length = 3) = True := eq_true fun c hc => by
 obtain ⟨a, _, rfl⟩ := List.mem_map.1 hc; rfl
theorem iF (a : Bx) : (⟨a.addr, a.mails⟩ : Bx) = a := rfl
structure Ls where
 mark : ByteArray
 addr : Ad
 deriving DecidableEq
instance : Inhabited Ls := ⟨⟨default, default⟩⟩
def Ae (a : Ls) : List T := [.v (.string a.mark), .v (.string a.addr.user), .v (.string a.addr.domain)]
def fb : List T → Option Ls
 | [.v (.string x0), .v (.string x1), .v (.string x2)] => some ⟨x0, ⟨x1, x2⟩⟩
 | _ => none
def FR : En Ls where
 enc := Ae
 dec := fb
 n := 3
 ed := fun _ => rfl
 de := fun c a h => by unfold fb at h; split at h <;> cases h; rfl
 len := fun _ => rfl
theorem XQ (a : Ls) : Ae a = [.v (.string a.mark), .v (.string a.addr.user), .v (.string a.addr.domain)] := rfl
theorem bC (xs : List Ls) (n : Int) (s : AS) (K : Kt) : Eu 3 (xs.map Ae) n s K = (0 ≤ n ∧ n < xs.length ∧ K (.t (.rop (Ae (xs.getD n.toNat default)))) s) := BX Ae xs 3 n s K fun _ => rfl
theorem aL {x0 : ByteArray} {x1 : ByteArray} {x2 : ByteArray} : FR.dec [.v (.string x0), .v (.string x1), .v (.string x2)] = some ⟨x0, ⟨x1, x2⟩⟩ := rfl
theorem mE (xs : List Ls) : FR.decL (xs.map Ae) = some xs := FR.decL_map xs
theorem cI : FR.decL [] = some [] := rfl
theorem aM : FR.enc = Ae := rfl
theorem sB : FR.n = 3 := rfl
theorem YD (xs : List Ls) : (∀ c ∈ xs.map Ae, c.length = 3) = True := eq_true fun c hc => by
 obtain ⟨a, _, rfl⟩ := List.mem_map.1 hc; rfl
theorem Mm (xs : List Ls) : ES (xs.map Ae) = True := eq_true (ET Ae (by intro a t ht; simp only [Ae, List.mem_cons, List.not_mem_nil, or_false] at ht; rcases ht with rfl | rfl | rfl <;> exact ⟨_, rfl⟩) xs)
theorem iR (a : Ls) : (⟨a.mark, a.addr⟩ : Ls) = a := rfl
structure Hs where
 conf : Cf
 spool : Sp
 boxes : List Bx
 lost : List Ls
 deriving DecidableEq
instance : Inhabited Hs := ⟨⟨default, default, default, default⟩⟩
def AY (a : Hs) : List T := [.v (.string a.conf.name), .sl 1 (a.conf.own.map AG), .sl 2 (a.conf.ways.map Bn), .v (.int .i64 a.spool.last), .sl 5 (a.spool.items.map Ar), .sl 3 (a.boxes.map BQ), .sl 3 (a.lost.map Ae)]
def YQ (x0 : ByteArray) (x3 : Int) : Option (List ByteArray) → Option (List Wy) → Option (List Im) → Option (List Bx) → Option (List Ls) → Option Hs
 | some x1, some x2, some x4, some x5, some x6 => some ⟨⟨x0, x1, x2⟩, ⟨x3, x4⟩, x5, x6⟩
 | _, _, _, _, _ => none
def fY : List T → Option Hs
 | [.v (.string x0), .sl 1 x1, .sl 2 x2, .v (.int .i64 x3), .sl 5 x4, .sl 3 x5, .sl 3 x6] => YQ x0 x3 (Ao.decL x1) (Ld.decL x2) (Jr.decL x4) (VZ.decL x5) (FR.decL x6)
 | _ => none
def FM : En Hs where
 enc := AY
 dec := fY
 n := 7
 ed := fun a => by
  show YQ a.conf.name a.spool.last (Ao.decL (a.conf.own.map Ao.enc)) (Ld.decL (a.conf.ways.map Ld.enc)) (Jr.decL (a.spool.items.map Jr.enc)) (VZ.decL (a.boxes.map VZ.enc)) (FR.decL (a.lost.map FR.enc)) = _
  rw [Ao.decL_map, Ld.decL_map, Jr.decL_map, VZ.decL_map, FR.decL_map]
  rfl
 de := fun c a h => by
  unfold fY at h
  split at h
  ·unfold YQ at h
   split at h
   ·rename_i e0 e1 e2 e3 e4
    cases h
    rw [Ao.decL_inv e0, Ld.decL_inv e1, Jr.decL_inv e2, VZ.decL_inv e3, FR.decL_inv e4]; rfl
   ·cases h
  ·cases h
 len := fun _ => rfl
theorem XO (a : Hs) : AY a = [.v (.string a.conf.name), .sl 1 (a.conf.own.map AG), .sl 2 (a.conf.ways.map Bn), .v (.int .i64 a.spool.last), .sl 5 (a.spool.items.map Ar), .sl 3 (a.boxes.map BQ), .sl 3 (a.lost.map Ae)] := rfl
theorem bA (xs : List Hs) (n : Int) (s : AS) (K : Kt) : Eu 7 (xs.map AY) n s K = (0 ≤ n ∧ n < xs.length ∧ K (.t (.rop (AY (xs.getD n.toNat default)))) s) := BX AY xs 7 n s K fun _ => rfl
theorem aH {x0 : ByteArray} {x1 : List (List T)} {x2 : List (List T)} {x3 : Int} {x4 : List (List T)} {x5 : List (List T)} {x6 : List (List T)} : FM.dec [.v (.string x0), .sl 1 x1, .sl 2 x2, .v (.int .i64 x3), .sl 5 x4, .sl 3 x5, .sl 3 x6] = YQ x0 x3 (Ao.decL x1) (Ld.decL x2) (Jr.decL x4) (VZ.decL x5) (FR.decL x6) := rfl
theorem mC (xs : List Hs) : FM.decL (xs.map AY) = some xs := FM.decL_map xs
theorem aI : FM.enc = AY := rfl
theorem sA : FM.n = 7 := rfl
theorem iP (a : Hs) : (⟨a.conf, a.spool, a.boxes, a.lost⟩ : Hs) = a := rfl
theorem LF (xs : List Hs) (i : Nat) (x0 : ByteArray) (x1 : List ByteArray) (x2 : List Wy) (x3 : Int) (x4 : List Im) (x5 : List Bx) (x6 : List Ls) : (xs.map AY).set i [.v (.string x0), .sl 1 (x1.map AG), .sl 2 (x2.map Bn), .v (.int .i64 x3), .sl 5 (x4.map Ar), .sl 3 (x5.map BQ), .sl 3 (x6.map Ae)] = (xs.set i ⟨⟨x0, x1, x2⟩, ⟨x3, x4⟩, x5, x6⟩).map AY := Jl AY xs i ⟨⟨x0, x1, x2⟩, ⟨x3, x4⟩, x5, x6⟩ rfl
structure Ss where
 state : Int
 mail : Ml
 bad : Bool
 buf : ByteArray
 deriving DecidableEq
instance : Inhabited Ss := ⟨⟨default, default, default, default⟩⟩
def Eb (a : Ss) : List T := [.v (.int .i64 a.state), .v (.string a.mail.frm.user), .v (.string a.mail.frm.domain), .sl 2 (a.mail.to.map Ap), .sl 1 (a.mail.body.map AG), .v (.bool a.bad), .v (.string a.buf)]
def YV (x0 : Int) (x1 : ByteArray) (x2 : ByteArray) (x5 : Bool) (x6 : ByteArray) : Option (List Ad) → Option (List ByteArray) → Option Ss
 | some x3, some x4 => some ⟨x0, ⟨⟨x1, x2⟩, x3, x4⟩, x5, x6⟩
 | _, _ => none
def fg : List T → Option Ss
 | [.v (.int .i64 x0), .v (.string x1), .v (.string x2), .sl 2 x3, .sl 1 x4, .v (.bool x5), .v (.string x6)] => YV x0 x1 x2 x5 x6 (DV.decL x3) (Ao.decL x4)
 | _ => none
def aU : En Ss where
 enc := Eb
 dec := fg
 n := 7
 ed := fun a => by
  show YV a.state a.mail.frm.user a.mail.frm.domain a.bad a.buf (DV.decL (a.mail.to.map DV.enc)) (Ao.decL (a.mail.body.map Ao.enc)) = _
  rw [DV.decL_map, Ao.decL_map]
  rfl
 de := fun c a h => by
  unfold fg at h
  split at h
  ·unfold YV at h
   split at h
   ·rename_i e0 e1
    cases h
    rw [DV.decL_inv e0, Ao.decL_inv e1]; rfl
   ·cases h
  ·cases h
 len := fun _ => rfl
theorem XU (a : Ss) : Eb a = [.v (.int .i64 a.state), .v (.string a.mail.frm.user), .v (.string a.mail.frm.domain), .sl 2 (a.mail.to.map Ap), .sl 1 (a.mail.body.map AG), .v (.bool a.bad), .v (.string a.buf)] := rfl
theorem aV {x0 : Int} {x1 : ByteArray} {x2 : ByteArray} {x3 : List (List T)} {x4 : List (List T)} {x5 : Bool} {x6 : ByteArray} : aU.dec [.v (.int .i64 x0), .v (.string x1), .v (.string x2), .sl 2 x3, .sl 1 x4, .v (.bool x5), .v (.string x6)] = YV x0 x1 x2 x5 x6 (DV.decL x3) (Ao.decL x4) := rfl
theorem aW : aU.enc = Eb := rfl
theorem iX (a : Ss) : (⟨a.state, a.mail, a.bad, a.buf⟩ : Ss) = a := rfl
structure Cl where
 name : ByteArray
 mail : Ml
 state : Int
 pos : Int
 outs : List Int
 deriving DecidableEq
instance : Inhabited Cl := ⟨⟨default, default, default, default, default⟩⟩
def Do (a : Cl) : List T := [.v (.string a.name), .v (.string a.mail.frm.user), .v (.string a.mail.frm.domain), .sl 2 (a.mail.to.map Ap), .sl 1 (a.mail.body.map AG), .v (.int .i64 a.state), .v (.int .i64 a.pos), .sl 1 (a.outs.map A9)]
def YN (x0 : ByteArray) (x1 : ByteArray) (x2 : ByteArray) (x5 : Int) (x6 : Int) : Option (List Ad) → Option (List ByteArray) → Option (List Int) → Option Cl
 | some x3, some x4, some x7 => some ⟨x0, ⟨⟨x1, x2⟩, x3, x4⟩, x5, x6, x7⟩
 | _, _, _ => none
def fV : List T → Option Cl
 | [.v (.string x0), .v (.string x1), .v (.string x2), .sl 2 x3, .sl 1 x4, .v (.int .i64 x5), .v (.int .i64 x6), .sl 1 x7] => YN x0 x1 x2 x5 x6 (DV.decL x3) (Ao.decL x4) (D4.decL x7)
 | _ => none
def Z9 : En Cl where
 enc := Do
 dec := fV
 n := 8
 ed := fun a => by
  show YN a.name a.mail.frm.user a.mail.frm.domain a.state a.pos (DV.decL (a.mail.to.map DV.enc)) (Ao.decL (a.mail.body.map Ao.enc)) (D4.decL (a.outs.map D4.enc)) = _
  rw [DV.decL_map, Ao.decL_map, D4.decL_map]
  rfl
 de := fun c a h => by
  unfold fV at h
  split at h
  ·unfold YN at h
   split at h
   ·rename_i e0 e1 e2
    cases h
    rw [DV.decL_inv e0, Ao.decL_inv e1, D4.decL_inv e2]; rfl
   ·cases h
  ·cases h
 len := fun _ => rfl
theorem XM (a : Cl) : Do a = [.v (.string a.name), .v (.string a.mail.frm.user), .v (.string a.mail.frm.domain), .sl 2 (a.mail.to.map Ap), .sl 1 (a.mail.body.map AG), .v (.int .i64 a.state), .v (.int .i64 a.pos), .sl 1 (a.outs.map A9)] := rfl
theorem aA {x0 : ByteArray} {x1 : ByteArray} {x2 : ByteArray} {x3 : List (List T)} {x4 : List (List T)} {x5 : Int} {x6 : Int} {x7 : List (List T)} : Z9.dec [.v (.string x0), .v (.string x1), .v (.string x2), .sl 2 x3, .sl 1 x4, .v (.int .i64 x5), .v (.int .i64 x6), .sl 1 x7] = YN x0 x1 x2 x5 x6 (DV.decL x3) (Ao.decL x4) (D4.decL x7) := rfl
theorem aB : Z9.enc = Do := rfl
theorem iH (a : Cl) : (⟨a.name, a.mail, a.state, a.pos, a.outs⟩ : Cl) = a := rfl
structure Ev where
 kind : Int
 host : Int
 to : Int
 id : Int
 cut : Int
 lose : Bool
 mail : Ml
 deriving DecidableEq
instance : Inhabited Ev := ⟨⟨default, default, default, default, default, default, default⟩⟩
def C2 (a : Ev) : List T := [.v (.int .i64 a.kind), .v (.int .i64 a.host), .v (.int .i64 a.to), .v (.int .i64 a.id), .v (.int .i64 a.cut), .v (.bool a.lose), .v (.string a.mail.frm.user), .v (.string a.mail.frm.domain), .sl 2 (a.mail.to.map Ap), .sl 1 (a.mail.body.map AG)]
def YO (x0 : Int) (x1 : Int) (x2 : Int) (x3 : Int) (x4 : Int) (x5 : Bool) (x6 : ByteArray) (x7 : ByteArray) : Option (List Ad) → Option (List ByteArray) → Option Ev
 | some x8, some x9 => some ⟨x0, x1, x2, x3, x4, x5, ⟨⟨x6, x7⟩, x8, x9⟩⟩
 | _, _ => none
def fW : List T → Option Ev
 | [.v (.int .i64 x0), .v (.int .i64 x1), .v (.int .i64 x2), .v (.int .i64 x3), .v (.int .i64 x4), .v (.bool x5), .v (.string x6), .v (.string x7), .sl 2 x8, .sl 1 x9] => YO x0 x1 x2 x3 x4 x5 x6 x7 (DV.decL x8) (Ao.decL x9)
 | _ => none
def QH : En Ev where
 enc := C2
 dec := fW
 n := 10
 ed := fun a => by
  show YO a.kind a.host a.to a.id a.cut a.lose a.mail.frm.user a.mail.frm.domain (DV.decL (a.mail.to.map DV.enc)) (Ao.decL (a.mail.body.map Ao.enc)) = _
  rw [DV.decL_map, Ao.decL_map]
  rfl
 de := fun c a h => by
  unfold fW at h
  split at h
  ·unfold YO at h
   split at h
   ·rename_i e0 e1
    cases h
    rw [DV.decL_inv e0, Ao.decL_inv e1]; rfl
   ·cases h
  ·cases h
 len := fun _ => rfl
theorem XN (a : Ev) : C2 a = [.v (.int .i64 a.kind), .v (.int .i64 a.host), .v (.int .i64 a.to), .v (.int .i64 a.id), .v (.int .i64 a.cut), .v (.bool a.lose), .v (.string a.mail.frm.user), .v (.string a.mail.frm.domain), .sl 2 (a.mail.to.map Ap), .sl 1 (a.mail.body.map AG)] := rfl
theorem a8 (xs : List Ev) (n : Int) (s : AS) (K : Kt) : Eu 10 (xs.map C2) n s K = (0 ≤ n ∧ n < xs.length ∧ K (.t (.rop (C2 (xs.getD n.toNat default)))) s) := BX C2 xs 10 n s K fun _ => rfl
theorem aC {x0 : Int} {x1 : Int} {x2 : Int} {x3 : Int} {x4 : Int} {x5 : Bool} {x6 : ByteArray} {x7 : ByteArray} {x8 : List (List T)} {x9 : List (List T)} : QH.dec [.v (.int .i64 x0), .v (.int .i64 x1), .v (.int .i64 x2), .v (.int .i64 x3), .v (.int .i64 x4), .v (.bool x5), .v (.string x6), .v (.string x7), .sl 2 x8, .sl 1 x9] = YO x0 x1 x2 x3 x4 x5 x6 x7 (DV.decL x8) (Ao.decL x9) := rfl
theorem l9 (xs : List Ev) : QH.decL (xs.map C2) = some xs := QH.decL_map xs
theorem aD : QH.enc = C2 := rfl
theorem r8 : QH.n = 10 := rfl
theorem iL (a : Ev) : (⟨a.kind, a.host, a.to, a.id, a.cut, a.lose, a.mail⟩ : Ev) = a := rfl
structure Wd where
 hosts : List Hs
 now : Int
 marks : Int
 given : List Ls
 deriving DecidableEq
instance : Inhabited Wd := ⟨⟨default, default, default, default⟩⟩
def CP (a : Wd) : List T := [.sl 7 (a.hosts.map AY), .v (.int .i64 a.now), .v (.int .i64 a.marks), .sl 3 (a.given.map Ae)]
def G3 (x1 : Int) (x2 : Int) : Option (List Hs) → Option (List Ls) → Option Wd
 | some x0, some x3 => some ⟨x0, x1, x2, x3⟩
 | _, _ => none
def fh : List T → Option Wd
 | [.sl 7 x0, .v (.int .i64 x1), .v (.int .i64 x2), .sl 3 x3] => G3 x1 x2 (FM.decL x0) (FR.decL x3)
 | _ => none
def OM : En Wd where
 enc := CP
 dec := fh
 n := 4
 ed := fun a => by
  show G3 a.now a.marks (FM.decL (a.hosts.map FM.enc)) (FR.decL (a.given.map FR.enc)) = _
  rw [FM.decL_map, FR.decL_map]
  rfl
 de := fun c a h => by
  unfold fh at h
  split at h
  ·unfold G3 at h
   split at h
   ·rename_i e0 e1
    cases h
    rw [FM.decL_inv e0, FR.decL_inv e1]; rfl
   ·cases h
  ·cases h
 len := fun _ => rfl
theorem XV (a : Wd) : CP a = [.sl 7 (a.hosts.map AY), .v (.int .i64 a.now), .v (.int .i64 a.marks), .sl 3 (a.given.map Ae)] := rfl
theorem aX {x0 : List (List T)} {x1 : Int} {x2 : Int} {x3 : List (List T)} : OM.dec [.sl 7 x0, .v (.int .i64 x1), .v (.int .i64 x2), .sl 3 x3] = G3 x1 x2 (FM.decL x0) (FR.decL x3) := rfl
theorem aY : OM.enc = CP := rfl
theorem iY (a : Wd) : (⟨a.hosts, a.now, a.marks, a.given⟩ : Wd) = a := rfl
def U4 (a : Ml) : AV := .agg [.t (.v (.string a.frm.user)), .t (.v (.string a.frm.domain)), .o true 2 (a.to.map Ap), .o true 1 (a.body.map AG)]
theorem di (a : Ml) : U4 a = .agg [.t (.v (.string a.frm.user)), .t (.v (.string a.frm.domain)), .o true 2 (a.to.map Ap), .o true 1 (a.body.map AG)] := rfl
theorem K5 (a : Ml) : BO (U4 a) := .agg _ fun c hc => by
 simp only [List.mem_cons, List.not_mem_nil, or_false] at hc
 rcases hc with rfl | rfl | rfl | rfl
 ·exact .v _
 ·exact .v _
 ·exact .deep _ _
 ·exact .deep _ _
def nh (a : Im) : AV := .agg [.t (.v (.int .i64 a.id)), .t (.v (.string a.frm.user)), .t (.v (.string a.frm.domain)), .o true 4 (a.to.map BP), .o true 1 (a.body.map AG)]
theorem dh (a : Im) : nh a = .agg [.t (.v (.int .i64 a.id)), .t (.v (.string a.frm.user)), .t (.v (.string a.frm.domain)), .o true 4 (a.to.map BP), .o true 1 (a.body.map AG)] := rfl
theorem Rj (a : Im) : BO (nh a) := .agg _ fun c hc => by
 simp only [List.mem_cons, List.not_mem_nil, or_false] at hc
 rcases hc with rfl | rfl | rfl | rfl | rfl
 ·exact .v _
 ·exact .v _
 ·exact .v _
 ·exact .deep _ _
 ·exact .deep _ _
def U5 (a : Sp) : AV := .agg [.t (.v (.int .i64 a.last)), .o true 5 (a.items.map Ar)]
theorem dj (a : Sp) : U5 a = .agg [.t (.v (.int .i64 a.last)), .o true 5 (a.items.map Ar)] := rfl
theorem K6 (a : Sp) : BO (U5 a) := .agg _ fun c hc => by
 simp only [List.mem_cons, List.not_mem_nil, or_false] at hc
 rcases hc with rfl | rfl
 ·exact .v _
 ·exact .deep _ _
def da (a : Cf) : AV := .agg [.t (.v (.string a.name)), .o true 1 (a.own.map AG), .o true 2 (a.ways.map Bn)]
theorem db (a : Cf) : da a = .agg [.t (.v (.string a.name)), .o true 1 (a.own.map AG), .o true 2 (a.ways.map Bn)] := rfl
theorem K3 (a : Cf) : BO (da a) := .agg _ fun c hc => by
 simp only [List.mem_cons, List.not_mem_nil, or_false] at hc
 rcases hc with rfl | rfl | rfl
 ·exact .v _
 ·exact .deep _ _
 ·exact .deep _ _
def dc (a : Hs) : AV := .agg [.t (.v (.string a.conf.name)), .o true 1 (a.conf.own.map AG), .o true 2 (a.conf.ways.map Bn), .t (.v (.int .i64 a.spool.last)), .o true 5 (a.spool.items.map Ar), .o true 3 (a.boxes.map BQ), .o true 3 (a.lost.map Ae)]
theorem df (a : Hs) : dc a = .agg [.t (.v (.string a.conf.name)), .o true 1 (a.conf.own.map AG), .o true 2 (a.conf.ways.map Bn), .t (.v (.int .i64 a.spool.last)), .o true 5 (a.spool.items.map Ar), .o true 3 (a.boxes.map BQ), .o true 3 (a.lost.map Ae)] := rfl
theorem K4 (a : Hs) : BO (dc a) := .agg _ fun c hc => by
 simp only [List.mem_cons, List.not_mem_nil, or_false] at hc
 rcases hc with rfl | rfl | rfl | rfl | rfl | rfl | rfl
 ·exact .v _
 ·exact .deep _ _
 ·exact .deep _ _
 ·exact .v _
 ·exact .deep _ _
 ·exact .deep _ _
 ·exact .deep _ _
def nj (a : Wd) : AV := .agg [.o true 7 (a.hosts.map AY), .t (.v (.int .i64 a.now)), .t (.v (.int .i64 a.marks)), .o true 3 (a.given.map Ae)]
theorem TW (a : Wd) : nj a = .agg [.o true 7 (a.hosts.map AY), .t (.v (.int .i64 a.now)), .t (.v (.int .i64 a.marks)), .o true 3 (a.given.map Ae)] := rfl
theorem Rk (a : Wd) : BO (nj a) := .agg _ fun c hc => by
 simp only [List.mem_cons, List.not_mem_nil, or_false] at hc
 rcases hc with rfl | rfl | rfl | rfl
 ·exact .deep _ _
 ·exact .v _
 ·exact .v _
 ·exact .deep _ _
end Go.V
namespace Go.V
open Go Go.Proofs
set_option maxRecDepth 100000
set_option linter.unusedSimpArgs false
set_option linter.unusedVariables false
theorem ai {a b : Prop} (x : a) (y : b) : a ∧ b := ⟨x, y⟩
theorem s1 {P G dp R k s t e b} (h1 : b = true → run P G dp R (.c t :: k) s) (h2 : b = false → run P G dp R (.c e :: k) s) : sY P G dp R t e k s b := UH h1 h2
theorem s2 {s : AS} {x y : AV} {K : Kt} {b : Bool} (h1 : b = true → K x s) (h2 : b = false → K y s) : FY x y s K b := M2 h1 h2
theorem s3 {P G dp R k s d all r op b want} (h1 : b = true → gB P G dp R d all r k s op true want) (h2 : b = false → gB P G dp R d all r k s op false want) : gB P G dp R d all r k s op b want := Xo h1 h2
theorem s4 {P G dp all ns K i l acc s pre t d op b want} (h1 : b = true → VK P G dp all ns K i l acc s pre t d op true want) (h2 : b = false → VK P G dp all ns K i l acc s pre t d op false want) : VK P G dp all ns K i l acc s pre t d op b want := T4 h1 h2
theorem tn (n : Nat) : Int.toNat (n : Int) = n := rfl
theorem lm {α β : Type} {xs : List α} (f : α → β) : (xs.map f).length = xs.length := List.length_map f
theorem PF {dp : Nat → Bool} {G : Gt} {f : FuncId} {fn : Func} {c : Code} {α : Type} {L : AL α} {pre : α → Prop} {r : α → AV} {kd n : Nat} (hb : fn.body = some c) (hG : Ac G) (h : ∀ a, pre a → run Tryz.prog G dp (RF Tryz.prog fn.results.toList (AX 900 0 (L.enc a) ⟨[], []⟩).avs (L.enc a) (r a)) [.c c] (s0 (L.enc a)))
    (hn : ∀ a, (L.enc a).length = n := by exact fun _ => rfl) (hf : Tryz.prog.funcs[f]? = some fn := by kernel_rfl) (hok : Nh fn c = true := by kernel_rfl) (hlen : n ≤ fn.ntmps := by exact Nat.le_of_ble_eq_true rfl) (ok : BI Tryz.prog f = true := by kernel_rfl) (hk : ¬ kd = 3 := by decide) (hs : kd = 0 → ∀ a, BO (r a) := by first | exact fun _ _ => .v _ | exact fun h => by cases h) : Gd G f (AA kd (Aj L pre r)) := gR hn hf hb hok hG hlen ok hk hs h
theorem gr {G : Gt} {f : FuncId} {fn : Func} {c : Code} {α : Type} {L : AL α} {pre : α → Prop} {r : α → AV} {kd n : Nat} (hb : fn.body = some c) (hG : Ac G) (h : ∀ a, pre a → run Tryz.prog G (fun _ => true) (RF Tryz.prog fn.results.toList (AX 900 0 (L.enc a) ⟨[], []⟩).avs (L.enc a) (r a)) [.c c] (s0 (L.enc a)))
    (hn : ∀ a, (L.enc a).length = n := by exact fun _ => rfl) (hf : Tryz.prog.funcs[f]? = some fn := by kernel_rfl) (hok : Nh fn c = true := by kernel_rfl) (hlen : n ≤ fn.ntmps := by exact Nat.le_of_ble_eq_true rfl) (ok : BI Tryz.prog f = true := by kernel_rfl) (hk : ¬ kd = 3 := by decide) (hs : kd = 0 → ∀ a, BO (r a) := by first | exact fun _ _ => .v _ | exact fun h => by cases h) : Gd G f (AA kd (Aj L pre r)) := gR hn hf hb hok hG hlen ok hk hs h
theorem Ke {dp : Nat → Bool} {G : Gt} {f : FuncId} {fn : Func} {c : Code} {α : Type} {L : AL α} {pre : α → Prop} {r : α → List AV × AV} {n : Nat} (hb : fn.body = some c) (hG : Ac G) (h : ∀ a, pre a → run Tryz.prog G dp (RF Tryz.prog fn.results.toList (AX 900 0 (L.enc a) ⟨[], []⟩).avs (r a).1 (r a).2) [.c c] (s0 (L.enc a)))
    (hn : ∀ a, (L.enc a).length = n := by exact fun _ => rfl) (hf : Tryz.prog.funcs[f]? = some fn := by kernel_rfl) (hok : Nh fn c = true := by kernel_rfl) (hlen : n ≤ fn.ntmps := by exact Nat.le_of_ble_eq_true rfl) (ok : BI Tryz.prog f = true := by kernel_rfl) : Gd G f (AW (H1 L pre r)) := gM hn hf hb hok hG hlen ok h
attribute [go_sem] FY.eq_1 FY.eq_2 J9.eq_1 Tr.eq_1 Tr.eq_2 H8.eq_1 H8.eq_2 Ex.eq_1 Ex.eq_2 Ex.eq_3 Ex.eq_4 Ex.eq_5 Ew.eq_1 Ew.eq_2 Ew.eq_3 Ew.eq_4 Ew.eq_5 Ey.eq_1 Ey.eq_2 Ey.eq_3 Il.eq_1 Il.eq_2 QV.eq_1 QV.eq_2 QV.eq_3 ie.eq_1 ie.eq_2 sJ.eq_1 aF.eq_1 aF.eq_2 cj.eq_1 LZ.eq_1 HJ.eq_1 HJ.eq_2 HJ.eq_3 HJ.eq_4 HJ.eq_5 J4.eq_1 J4.eq_2 Bq.eq_1 Bq.eq_2 Bq.eq_3 Iu.eq_1 Gk.eq_1 IA.eq_1 L7.eq_1 Qa.eq_1 Qa.eq_2 E0.eq_1 E0.eq_2 E0.eq_3 L9.eq_1 L9.eq_2 Et.eq_1 Et.eq_2 Gi.eq_1 F5.eq_1 F5.eq_2 ia.eq_1 ia.eq_2 B6.eq_1 B6.eq_2 CZ.eq_1 JW.eq_1 L3.eq_1 Es.eq_1 Es.eq_2 F7.eq_1 F6.eq_1 Ng.eq_1 D6.eq_1 D6.eq_2 D7.eq_1 D7.eq_2 Fa.eq_1 Fa.eq_2 DH.eq_1 DH.eq_2 IW.eq_1 J2.eq_1 J2.eq_2 L4.eq_1 L4.eq_2 Oe.eq_1 Oe.eq_2 Oe.eq_3 Oe.eq_4 QT.eq_1 QT.eq_2 Li.eq_1 Li.eq_2 Li.eq_3 Li.eq_4 fA.eq_1 fA.eq_2 Og.eq_1 HL.eq_1 HL.eq_2 HL.eq_3 Oh.eq_1 HK.eq_1 HK.eq_2 HK.eq_3 JY.eq_1 JY.eq_2 JZ.eq_1 JZ.eq_2 J8.eq_1 J8.eq_2 X7.eq_1 Ts.eq_1 Tt.eq_1 QS.eq_1 QS.eq_2 Tu.eq_1 GU.eq_1 GU.eq_2 GU.eq_3 GU.eq_4 QU.eq_1 QU.eq_2 Dl.eq_1 My.eq_1 My.eq_2 My.eq_3 C4.eq_1 C4.eq_2 Gj.eq_1 Gj.eq_2 DM.eq_1 DM.eq_2 DM.eq_3 Ij.eq_1 Ij.eq_2 gf.eq_1 AS.takeV.eq_1 AS.takeV.eq_2 AS.takeV.eq_3 AS.takeV.eq_4 AS.takeV.eq_5 AS.takeV.eq_6 AS.takeV.eq_7 AV.oldM.eq_1 AV.oldM.eq_2 AV.oldM.eq_3 AV.oldM.eq_4 AV.oldM.eq_5 AV.oldM.eq_6 AV.oldM.eq_7 AV.oldM.eq_8 AV.oldM.eq_9 AV.oldM.eq_10 AV.oldM.eq_11 AV.oldML.eq_1 AV.oldML.eq_2 subL.eq_1 subL.eq_2 E3.eq_1 E3.eq_2 E3.eq_3 E3.eq_4 DD.eq_1 BY.eq_1 BY.eq_2 BY.eq_3 BY.eq_4 B1.eq_1 DB.eq_1 DB.eq_2 DB.eq_3 HI.eq_1 HI.eq_2 HI.eq_3 Ce.eq_1 Ce.eq_2 Ce.eq_3 Ce.eq_4 Ce.eq_5 Ce.eq_6 Ce.eq_7 Ce.eq_8 Ce.eq_9 Ce.eq_10 Ce.eq_11 Ce.eq_12 Ce.eq_13 Ce.eq_14 Ce.eq_15 Ce.eq_17 Ce.eq_18 Ce.eq_19 Ce.eq_20 Ce.eq_21 Ce.eq_22 Ce.eq_23 AS.ev.eq_1 AS.ev.eq_2 AS.ev.eq_3 AS.ev.eq_4 AS.evs.eq_1 AS.evs.eq_2 AS.evp.eq_1 AS.evp.eq_2 AS.put.eq_1 AS.put.eq_2 AS.remL.eq_1 AS.remL.eq_2 AV.has.eq_1 AV.has.eq_2 AV.has.eq_3 AV.has.eq_4 AV.has.eq_5 AV.has.eq_6 AV.has.eq_7 AV.has.eq_8 AV.has.eq_9 AV.has.eq_10 AV.has.eq_11 AV.hasL.eq_1 AV.hasL.eq_2 Ob.drop.eq_1 Ob.drop.eq_2 Ob.drop.eq_3 Ob.drop.eq_4 AV.cells.eq_1 AV.cells.eq_2 AV.cells.eq_3 AV.cells.eq_4 AV.cells.eq_5 AS.snapT.eq_1 AS.snapT.eq_2 AS.snapT.eq_3 AS.snapT.eq_4 AS.snapT.eq_5 AS.snapT.eq_6 AS.snapT.eq_7 AS.snap.eq_1 AS.snap.eq_2 BE.eq_1 BE.eq_2 AT.eq_1 AT.eq_2 AT.eq_3 AT.eq_4 AT.eq_5 AT.eq_6 AT.eq_7 AT.eq_8 AT.eq_9 AT.eq_10 AT.eq_11 AX.eq_1 AX.eq_2 LY.eq_1 LY.eq_2 AV.ids.eq_1 AV.ids.eq_2 AV.ids.eq_3 AV.ids.eq_4 AV.ids.eq_5 AV.ids.eq_6 AV.ids.eq_7 AV.ids.eq_8 AV.ids.eq_9 AV.ids.eq_10 AV.ids.eq_11 AV.idsL.eq_1 AV.idsL.eq_2 AV.sub.eq_1 AV.sub.eq_2 AV.sub.eq_3 AV.sub.eq_4 AV.sub.eq_5 AV.sub.eq_6 AV.sub.eq_7 AV.sub.eq_8 AV.sub.eq_9 AV.sub.eq_10 AV.sub.eq_11 AV.subL.eq_1 AV.subL.eq_2 AS.frzL.eq_1 AS.frzL.eq_2 AS.absT.eq_1 AS.absT.eq_2 AS.absT.eq_4 AS.absL.eq_1 AS.absL.eq_2 AS.absOk.eq_1 AS.absOkL.eq_1 AS.absOkL.eq_2 B3.eq_1 Bd.eq_1 Bd.eq_2 AS.appBase.eq_1 AS.appBase.eq_2 AS.appSrc.eq_1 DX.eq_1 DX.eq_2 DX.eq_3 Cn.eq_1 Cn.eq_2 fI.eq_1 fI.eq_2 DY.eq_1 Kd.agg.eq_1 Kd.agg.eq_2 Ni.eq_1 Ni.eq_2 Ni.eq_3 Ni.eq_4 Ni.eq_5 Ni.eq_6 Ni.eq_7 Ni.eq_8 zt.eq_1 yP.eq_1 yQ.eq_1 ZJ.eq_1 ZJ.eq_2 Zs.eq_1 Yy.eq_1 Pm.eq_1 Pm.eq_2 Pm.eq_3 Yz.eq_1 Yx.eq_1 U2.eq_1 U2.eq_2 Iq.eq_1 FP.eq_1 FP.eq_2 FP.eq_3 FP.eq_4 FP.eq_5 FP.eq_6 FP.eq_7 FP.eq_8 ED.eq_1 ED.eq_2 Dc.eq_1 Dc.eq_2 Dc.eq_3 Dc.eq_4 Dc.eq_5 Bw.eq_1 Dw.eq_1 Dw.eq_2 Dw.eq_3 Dw.eq_4 Dw.eq_5 CS.eq_1 Xm.eq_1 Xm.eq_2 RF.eq_1 RF.eq_2 RF.eq_3 cellAV.eq_1 cellAV.eq_2 EM.eq_1 EM.eq_2 DS.eq_1 DS.eq_2 DS.eq_3 DS.eq_4 DS.eq_5 DS.eq_6 DS.eq_7 DS.eq_8 DS.eq_9 DS.eq_10 DS.eq_11 DS.eq_12 DS.eq_13 DS.eq_14 DS.eq_15 DS.eq_16 DS.eq_17 DS.eq_18 DS.eq_19 DS.eq_20 DS.eq_21 DS.eq_22 DS.eq_23 DS.eq_24 DS.eq_25 DS.eq_26 Cd.eq_1 Cd.eq_2 Cd.eq_3 Cd.eq_4 Cd.eq_5 AV.refs.eq_1 AV.refs.eq_2 AV.refs.eq_3 AV.refs.eq_4 AV.refs.eq_5 AV.refs.eq_6 AV.refs.eq_7 AV.refs.eq_8 AV.refs.eq_9 AV.refs.eq_10 AV.refs.eq_11 AV.refsL.eq_1 AV.refsL.eq_2 Pv.eq_1 Pv.eq_2 LA.eq_1 LA.eq_2 LA.eq_3 LA.eq_4 LA.eq_5 LA.eq_6 TZ.eq_1 TZ.eq_2 bz.eq_1 bz.eq_2 Iw.eq_1 Iw.eq_2 AV.hasM.eq_1 AV.hasM.eq_2 AV.hasM.eq_3 AV.hasM.eq_4 AV.hasM.eq_5 AV.hasM.eq_6 AV.hasM.eq_7 AV.hasM.eq_8 AV.hasM.eq_9 AV.hasM.eq_10 AV.hasM.eq_11 AV.hasML.eq_1 AV.hasML.eq_2 Ob.dropM.eq_1 Ob.dropM.eq_2 Ob.dropM.eq_3 Ob.dropM.eq_4 rt.eq_1 rt.eq_2 AS.purges.eq_1 AS.purges.eq_2 Q9.eq_1 Q9.eq_2 dL.eq_1 dL.eq_2 yO.eq_1 yO.eq_2 HY.eq_1 HY.eq_2 HS.eq_1 HS.eq_2 mt.eq_1 mt.eq_2 mw.eq_1 mw.eq_2 AS.mvs.eq_1 AS.mvs.eq_2 AS.mvA.eq_1 AS.mvA.eq_2 AS.mvB.eq_1 SL.eq_1 SL.eq_2 rm.eq_1 rm.eq_2 Zo.eq_1 Ik.eq_1 Ik.eq_2 i5.eq_1 KA.eq_1 KA.eq_2 L6.eq_1 KB.eq_1 KB.eq_2 Kj.eq_1 DO.eq_1 Vo.eq_1 J7.eq_1 J7.eq_2 J7.eq_3 SJ.eq_1 SJ.eq_2 L5.eq_1 L5.eq_2 QY.eq_1 wl.eq_1 wl.eq_2 wl.eq_3 yI.eq_1 FX.eq_1 FX.eq_2 ZT.eq_1 Kn.eq_1 Kn.eq_2 Kn.eq_3 rr.eq_1 rr.eq_2 rr.eq_3 T1.eq_1 T0.eq_1 Tz.eq_1 Io.eq_1 QX.eq_1 QX.eq_2 Tx.eq_1 Tw.eq_1 Ez.eq_1 J5.eq_1 Of.eq_1 yA.eq_1 yA.eq_2 fq.eq_1 fq.eq_2 fq.eq_3 fq.eq_4 Kq.eq_1 Kq.eq_2 Kq.eq_3 Kq.eq_4 YG.eq_1 YG.eq_2 yG.eq_1 yG.eq_2 Ko.eq_1 Ko.eq_2 nA.eq_1 nA.eq_2 nA.eq_3 nA.eq_4 nA.eq_5 AS.lkO.eq_1 AS.lkO.eq_2 AS.lkOf.eq_1 Pu.eq_1 Pu.eq_2 Pu.eq_3 Pu.eq_4 Pu.eq_5 Pu.eq_6 DJ.eq_1 DJ.eq_2 DJ.eq_3 DJ.eq_4 DJ.eq_5 DJ.eq_6 DJ.eq_7 DJ.eq_8 DJ.eq_9 DJ.eq_10 DJ.eq_11 ig.eq_1 ig.eq_2 sK.eq_1 sK.eq_2 KL.eq_1 DQ.eq_1 DQ.eq_2 Kr.eq_1 Kr.eq_2 Kr.eq_3 Kr.eq_4 YH.eq_1 YH.eq_2 yH.eq_1 yH.eq_2 S9.eq_1 S9.eq_2 sM.eq_1 vi vj ZH d4 ZF sb sa sZ U8 ZG dz Rw ZD ny dw nw dv nz dx tL tK vk n5 dy xy xz tX tU tW tV vh kv KI J6 ib Vi HM VB gv gd s0 Aq CH HY mc mb XG drop_nil mS mR cY cX XF XH cW HS cy oA np re_eq up_eq mf vQ Ob.drop xB zA Dd AS.frz splice cond_true cond_false List.map_cons List.map_nil List.drop_zero List.drop_succ_cons List.drop_nil List.take_zero List.take_succ_cons List.take_nil List.getElem?_cons_zero List.getElem?_cons_succ List.getElem?_nil List.length_cons List.length_nil Option.map_some Option.map_none Option.bind_some Option.bind_none List.cons_append List.nil_append List.append_nil Option.getD_some Option.getD_none List.all_cons List.all_nil Bool.and_true Bool.true_and Bool.or_false Bool.false_or Bool.or_true Bool.true_or List.flatten_cons List.flatten_nil List.replicate_succ List.replicate_zero and_true true_and jA i9 Vt bM bN T8 V0 bV bW UA Vy Vz oz o0 UI bo bn oC oB eM eK d5 nZ dV Yw dZ dY nc Y0 U0 U3 ne_eq not_false_eq_true not_true_eq_false List.nodup_nil List.not_mem_nil false_implies implies_true eq_self true_or or_true Option.some.injEq d7 eI eE eG eH d8 eJ d9 eF eD eC eB eA Vw ci PK Nat.le_refl Us lm ov ou XE Y7 PX RV Rr Pr Uq YJ xE xD xF xH xI xG U6 Rp IS u5 List.any_cons List.any_nil iq bL ip Ed PY Si Op.operands Call.operands Kz iu yz T7 Y5 Tb List.append_eq vO vP vI vJ vK sr su sw cu cw cx Ir AS.mv fits KM J3 G5 RO bR i4 i6 X6 X4 X5 sR Vj ba uy cm bG T3 decide_true decide_false Array.toList_append br bt bu bw jI UD bY Qg AS.mvJ Yb nu nv gK Option.isSome_some Option.isSome_none nJ Vr Vs sN sO sP il ii ik ij it my.eq_1 dB.eq_1 dB.eq_2 Um.eq_1 Um.eq_2 Um.eq_3 Um.eq_4 yL yM bI zf zj zk zp yY yZ ya yb yc yd yf yg yh yi yj yk yl ym yn yp yq yr yu wP wQ wR wS wT iA wU wV Bc wX wY wZ wa wb Cv mt mw AS.mvs Uf Vn OL cJ Wk Vc iK Ue Vm OK cH Wi Va iJ VW dC mr mo bT iy bQ VT VV Z0 VS VU Zz bS iw bP I3.eq_1 mq cz ot.eq_1 K0.eq_1 M0.eq_1 Jq S8 b9 li vf vg vG vH Kc au Z3 l6 Z4 rz mz iD Z2 XR bD aO aP m9 iT YS.eq_1 di XS bE aQ mF aR sC YE iU Mn XP bB aJ mD aK m8 iQ YR.eq_1 dh XT aS aT iV YU.eq_1 dj XW bF aZ mH aa sD YF iZ Mo XL az Z7 l8 Z8 r7 iG YM.eq_1 db O9 a9 aE mA aG r9 m7 iN YP.eq_1 XJ ax Z5 l7 Z6 m0 iF YL.eq_1 XQ bC aL mE cI aM sB YD iR Mm XO bA aH mC aI sA iP YQ.eq_1 df XU aV aW iX YV.eq_1 XM aA aB iH YN.eq_1 XN a8 aC l9 aD r8 iL YO.eq_1 XV aX aY iY G3.eq_1 TW
def Bg (b : ByteArray) : Prop := b.size ≤ 1048576
def HA {α : Type} (p : α → Prop) (xs : List α) : Prop := (xs.length : Int) ≤ 1048576 ∧ ∀ x ∈ xs, p x
theorem HA.at {α : Type} [Inhabited α] {p : α → Prop} {xs : List α} (h : HA p xs) {i : Nat} (hi : i < xs.length) : p (xs.getD i default) := h.2 _ (by simp [hi])
def H6 (a : Ad) : Prop := Bg a.user ∧ Bg a.domain
def Lh (a : Ml) : Prop := H6 a.frm ∧ HA H6 a.to ∧ HA Bg a.body
def wy (a : Rc) : Prop := H6 a.addr
def GQ (a : Im) : Prop := H6 a.frm ∧ HA wy a.to ∧ HA Bg a.body
def Gf (a : Sp) : Prop := HA GQ a.items
def wz (a : Wy) : Prop := Bg a.ends ∧ Bg a.to
def Mu (a : Cf) : Prop := Bg a.name ∧ HA Bg a.own ∧ HA wz a.ways
def sF (a : Gm) : Prop := H6 a.frm ∧ HA Bg a.body
def wx (a : Bx) : Prop := H6 a.addr ∧ HA sF a.mails
def Tp (a : Ls) : Prop := Bg a.mark ∧ H6 a.addr
def FN (a : Hs) : Prop := Mu a.conf ∧ Gf a.spool ∧ HA wx a.boxes ∧ HA Tp a.lost
def Gg (a : Wd) : Prop := HA FN a.hosts ∧ HA Tp a.given
def bl (s : ByteArray) : List UInt8 := s.data.toList
def mB (l : List UInt8) : ByteArray := ⟨l.toArray⟩
theorem FF (l : List UInt8) : bl (mB l) = l := rfl
theorem TH (s : ByteArray) : mB (bl s) = s := rfl
theorem Br (s : ByteArray) : (bl s).length = s.size := rfl
theorem TI (l : List UInt8) : (mB l).size = l.length := rfl
theorem CE (s : ByteArray) (i : Nat) : AE s i = (((bl s).getD i 0).toNat : Int) := rfl
theorem C5 {s t : ByteArray} (h : bl s = bl t) : s = t := by
 rw [← TH s, ← TH t, h]
theorem BS (s : ByteArray) (i j : Nat) : bl (s.extract i j) = ((bl s).drop i).take (j - i) := by
 unfold bl
 rw [ByteArray.data_extract, Array.toList_extract]
theorem Gy (s : ByteArray) (i j : Nat) : s.extract i j = mB (((bl s).drop i).take (j - i)) := C5 (by rw [BS, FF])
theorem A8 (s : ByteArray) (i : Nat) : 0 ≤ AE s i ∧ AE s i ≤ 255 := by
 rw [CE]
 have := ((bl s).getD i 0).toNat_lt
 omega
def Ki (n : Int) : Prop := (97 ≤ n ∧ n ≤ 122) ∨ (48 ≤ n ∧ n ≤ 57)
def SC (s : ByteArray) : Prop := (∀ j, j < s.size → Ki (AE s j)) ∧ 1 ≤ s.size ∧ s.size ≤ 8
def H0 (s : ByteArray) : Prop := (∀ j, j < s.size → 32 ≤ AE s j ∧ AE s j ≤ 126) ∧ s.size ≤ 40
def As (c : UInt8) : Nat → List UInt8 → List (List UInt8)
 | 0, l => [l]
 | _ + 1, [] => [[]]
 | m + 1, x :: r => if x = c then [] :: As c m r else match As c (m + 1) r with | h :: t => (x :: h) :: t | [] => [[x]]
def K9 (p : List UInt8) : List (List UInt8) → List (List UInt8)
 | h :: t => (p ++ h) :: t
 | [] => [p]
theorem Pq : ∀ (l : List (List UInt8)), l ≠ [] → K9 [] l = l
 | h :: t, _ => rfl
 | [], h => absurd rfl h
theorem If (c : UInt8) : ∀ (m : Nat) (l : List UInt8), As c m l ≠ []
 | 0, l => by simp [As]
 | m + 1, [] => by simp [As]
 | m + 1, x :: r => by
   unfold As
   split
   ·try simp
   ·split <;> simp
theorem Rz (c : UInt8) (m : Nat) (r : List UInt8) (p : List UInt8) : K9 p (As c (m + 1) (c :: r)) = p :: As c m r := by
 simp [As, K9]
theorem P2 {c x : UInt8} (h : x ≠ c) (m : Nat) (r : List UInt8) (p : List UInt8) : K9 p (As c (m + 1) (x :: r)) = K9 (p ++ [x]) (As c (m + 1) r) := by
 cases h1 : As c (m + 1) r with
 | nil => exact absurd h1 (If c (m + 1) r)
 | cons a t => simp only [As, if_neg h, h1, K9, List.append_assoc, List.singleton_append]
theorem ZR (c : UInt8) (l : List UInt8) (p : List UInt8) : K9 p (As c 0 l) = [p ++ l] := by simp [As, K9]
theorem Ry (c : UInt8) (m : Nat) (p : List UInt8) : K9 p (As c m []) = [p] := by
 cases m <;> simp [As, K9]
def Cz (s : ByteArray) (c : UInt8) (m : Nat) : List ByteArray := (As c m (bl s)).map mB
def Ln : Ct := Aj (lc BU (lc BU (lc BU l0))) (fun p => True) (fun p => .t (.v (.bool (BA (p.2.1 ≤ p.1 ∧ p.1 ≤ p.2.2.1)))))
theorem tw {G : Gt} (hG : Ac G) : Gd G 36 (AA 0 Ln) := by
 refine gr (fn := Tryz.f36) (n := 3) rfl hG ?_
 rintro ⟨n, lo, hi, ⟨⟩⟩ hpre
 simp -implicitDefEqProofs only [Tryz.f36, go_sem, seval] at hpre ⊢
 with_reducible repeat' (first | apply ai | intro _ | ((first | apply s1 | apply s2 | apply s3 | apply s4) <;> intro hb <;> simp -implicitDefEqProofs only [hb, go_sem, seval] <;> try simp only [qz] at hb))
 all_goals first
  | (rw [AQ (by omega)]; done)
  | (rw [A4]; simp [*]; done)
  | skip
def WJ : Ct := Aj (lc Ak l0) (fun p => True) (fun p => .t (.v (.bool (BA (SC p.1)))))
section
attribute [local go_sem] Ln
theorem qH {G : Gt} (hG : Ac G) (hh : G.e 36 = AA 0 Ln) : Gd G 165 (AA 0 WJ) := by
 refine gr (fn := Tryz.f165) (n := 1) rfl hG ?_
 rintro ⟨s, ⟨⟩⟩ hpre
 simp -implicitDefEqProofs only [Tryz.f165, go_sem, hh, seval] at hpre ⊢
 refine AC [] (ι := {i : Nat // i ≤ s.size ∧ ∀ j, j < i → Ki (AE s j)}) (fun p => ⟨[(0, .t (.v (.string s))), (3, .t (.v (.int .i64 p.1)))], []⟩) (fun p => s.size - p.1) ⟨0, by simp, by simp⟩ rfl ?_ ?_
 ·simp -implicitDefEqProofs only [go_sem, hh, seval]
  try simp
 ·rintro ⟨i, hi, hall⟩
  simp -implicitDefEqProofs only [go_sem, hh, seval]
  with_reducible repeat' (first | apply ai | intro _ | ((first | apply s1 | apply s2 | apply s3 | apply s4) <;> intro hb <;> simp -implicitDefEqProofs only [hb, go_sem, hh, seval] <;> try simp only [qz] at hb))
  all_goals (try simp only [maxLen, tn] at *)
  all_goals (try have hbr := A8 s i)
  all_goals first | rfl | omega | skip
  all_goals first
   | (rw [AQ (fun hq => by have hq1 := hq.1 i (by omega); simp only [Ki] at *; omega)]; done)
   | (refine ⟨⟨i + 1, by omega, fun j hj => ?_⟩, by dsimp only; omega, ?_⟩
      ·by_cases e : j = i
       ·subst e; simp only [Ki] at *; omega
       ·exact hall j (by omega)
      ·simp -implicitDefEqProofs only [go_sem, hh, seval]
       simp)
   | skip
  ·rw [AP]
   exact ⟨fun h => ⟨fun j hj => hall j (by omega), by omega⟩, fun h => by have := h.2; omega⟩
end
def Ql : Ct := Aj (lc Ak l0) (fun p => True) (fun p => .t (.v (.bool (BA (H0 p.1)))))
theorem pY {G : Gt} (hG : Ac G) : Gd G 124 (AA 0 Ql) := by
 refine gr (fn := Tryz.f124) (n := 1) rfl hG ?_
 rintro ⟨s, ⟨⟩⟩ hpre
 simp -implicitDefEqProofs only [Tryz.f124, go_sem, seval] at hpre ⊢
 refine AC [] (ι := {i : Nat // i ≤ s.size ∧ ∀ j, j < i → 32 ≤ AE s j ∧ AE s j ≤ 126}) (fun p => ⟨[(0, .t (.v (.string s))), (3, .t (.v (.int .i64 p.1)))], []⟩) (fun p => s.size - p.1) ⟨0, by simp, by simp⟩ rfl ?_ ?_
 ·simp -implicitDefEqProofs only [go_sem, seval]
  try simp
 ·rintro ⟨i, hi, hall⟩
  simp -implicitDefEqProofs only [go_sem, seval]
  with_reducible repeat' (first | apply ai | intro _ | ((first | apply s1 | apply s2 | apply s3 | apply s4) <;> intro hb <;> simp -implicitDefEqProofs only [hb, go_sem, seval] <;> try simp only [qz] at hb))
  all_goals (try simp only [maxLen, tn] at *)
  all_goals (try have hbr := A8 s i)
  all_goals first | rfl | omega | skip
  all_goals first
   | (rw [AQ (fun hq => by have hq1 := hq.1 i (by omega); skip; omega)]; done)
   | (refine ⟨⟨i + 1, by omega, fun j hj => ?_⟩, by dsimp only; omega, ?_⟩
      ·by_cases e : j = i
       ·subst e; skip; omega
       ·exact hall j (by omega)
      ·simp -implicitDefEqProofs only [go_sem, seval]
       simp)
   | skip
  ·rw [← A4, AP]
   exact ⟨fun h => ⟨fun j hj => hall j (by omega), by omega⟩, fun h => by have := h.2; omega⟩
structure C9 (s : ByteArray) (c : UInt8) (m : Nat) where
 i : Nat
 fr : Nat
 o : List (List UInt8)
 hi : i ≤ s.size
 hf : fr ≤ i
 ho : o.length ≤ m
 h : o ++ K9 (((bl s).drop fr).take (i - fr)) (As c (m - o.length) ((bl s).drop i)) = As c m (bl s)
theorem VD {l : List UInt8} {fr i : Nat} (hf : fr ≤ i) (hi : i < l.length) : (l.drop fr).take (i + 1 - fr) = (l.drop fr).take (i - fr) ++ [l.getD i 0] := by
 have e : i + 1 - fr = (i - fr) + 1 := by omega
 rw [e, List.take_add_one]
 have : (l.drop fr)[i - fr]? = some (l.getD i 0) := by
  rw [List.getElem?_drop]
  have : fr + (i - fr) = i := by omega
  rw [this]
  simp [hi]
 rw [this]; rfl
def C9.start (s : ByteArray) (c : UInt8) (m : Nat) : C9 s c m := ⟨0, 0, [], Nat.zero_le _, Nat.le_refl _, Nat.zero_le _, by
 simp only [Nat.sub_self, List.take_zero, List.nil_append, List.length_nil, Nat.sub_zero, List.drop_zero]
 exact Pq _ (If c m _)⟩
theorem GG {s : ByteArray} {i : Nat} (h : i < s.size) : (bl s).drop i = (bl s).getD i 0 :: (bl s).drop (i + 1) := by
 have h' : i < (bl s).length := h
 rw [List.drop_eq_getElem_cons h']
 simp [h']
def C9.hit {s : ByteArray} {c : UInt8} {m : Nat} (z : C9 s c m) (h1 : z.i < s.size) (h2 : z.o.length < m) (h3 : (bl s).getD z.i 0 = c) : C9 s c m :=
 ⟨z.i + 1, z.i + 1, z.o ++ [((bl s).drop z.fr).take (z.i - z.fr)], h1, Nat.le_refl _, by simp; omega, by
   have h := z.h
   obtain ⟨k, hk⟩ : ∃ k, m - z.o.length = k + 1 := ⟨m - z.o.length - 1, by omega⟩
   rw [hk, GG h1, h3, Rz] at h
   have e : m - (z.o ++ [((bl s).drop z.fr).take (z.i - z.fr)]).length = k := by simp; omega
   rw [e, Nat.sub_self, List.take_zero, Pq _ (If _ _ _), List.append_assoc, List.singleton_append]
   exact h⟩
def C9.miss {s : ByteArray} {c : UInt8} {m : Nat} (z : C9 s c m) (h1 : z.i < s.size) (h2 : z.o.length < m) (h3 : (bl s).getD z.i 0 ≠ c) : C9 s c m :=
 ⟨z.i + 1, z.fr, z.o, h1, Nat.le_succ_of_le z.hf, z.ho, by
   have h := z.h
   obtain ⟨k, hk⟩ : ∃ k, m - z.o.length = k + 1 := ⟨m - z.o.length - 1, by omega⟩
   rw [hk, GG h1, P2 h3] at h
   rw [hk, VD (l := bl s) z.hf (by rw [Br]; exact h1)]
   exact h⟩
theorem C9.done {s : ByteArray} {c : UInt8} {m : Nat} (z : C9 s c m) (h : ¬ z.i < s.size ∨ ¬ z.o.length < m) : z.o.map mB ++ [s.extract z.fr s.size] = Cz s c m := by
 have hz := z.h
 have e0 : s.extract z.fr s.size = mB ((bl s).drop z.fr) := by
  rw [Gy]
  congr 1
  rw [List.take_of_length_le (by rw [List.length_drop, Br]; exact Nat.le_refl _)]
 unfold Cz
 rw [← hz, List.map_append, e0]
 congr 1
 rcases h with h | h
 ·have hi := z.hi
  have e : (bl s).drop z.i = [] := List.drop_of_length_le (by rw [Br]; omega)
  rw [e, Ry]
  have : ((bl s).drop z.fr).take (z.i - z.fr) = (bl s).drop z.fr := List.take_of_length_le (by rw [List.length_drop, Br]; omega)
  rw [this]; rfl
 ·have hk : m - z.o.length = 0 := by omega
  rw [hk, ZR]
  have hf := z.hf
  have : ((bl s).drop z.fr).take (z.i - z.fr) ++ (bl s).drop z.i = (bl s).drop z.fr := by
   have e : (bl s).drop z.i = ((bl s).drop z.fr).drop (z.i - z.fr) := by rw [List.drop_drop]; congr 1; omega
   rw [e, List.take_append_drop]
  rw [this]; rfl
theorem cb (s : ByteArray) (z : List (List UInt8)) (fr i : Nat) : z.map mB ++ [s.extract fr i] = (z ++ [((bl s).drop fr).take (i - fr)]).map mB := by
 rw [Gy, List.map_append]; rfl
theorem M4 (l : List ByteArray) (x : ByteArray) : l.map AG ++ [[T.v (.string x)]] = (l ++ [x]).map AG := by simp [AG]
theorem iz (s : ByteArray) (z : List (List UInt8)) (fr i : Nat) : (z.map mB).map AG ++ [[T.v (.string (s.extract fr i))]] = ((z ++ [((bl s).drop fr).take (i - fr)]).map mB).map AG := by
 rw [M4, cb]
theorem GF {s : ByteArray} {i : Nat} {c : UInt8} : AE s i = (c.toNat : Int) ↔ (bl s).getD i 0 = c := by
 rw [CE]
 constructor
 ·intro h
  have : ((bl s).getD i 0).toNat = c.toNat := by omega
  exact UInt8.toNat_inj.1 this
 ·intro h; rw [h]
def WM : Ct := Aj (lc Ak (lc iC (lc BU l0))) (fun p => 0 ≤ p.2.1 ∧ p.2.1 ≤ 255 ∧ 0 ≤ p.2.2.1 ∧ p.2.2.1 ≤ 1000) (fun p => .o true 1 ((Cz p.1 (UInt8.ofNat p.2.1.toNat) p.2.2.1.toNat).map AG))
section
attribute [local go_sem] lm List.map_nil List.length_nil
theorem qM {G : Gt} (hG : Ac G) : Gd G 175 (AA 0 WM) := by
 refine gr (fn := Tryz.f175) (n := 3) rfl hG ?_ (hs := fun _ p => .deep _ _)
 rintro ⟨s, c, m, ⟨⟩⟩ hpre
 simp -implicitDefEqProofs only [Tryz.f175, go_sem, seval] at hpre ⊢
 obtain ⟨c, rfl⟩ : ∃ b : UInt8, c = (b.toNat : Int) := ⟨UInt8.ofNat c.toNat, by simp; omega⟩
 obtain ⟨m, rfl⟩ : ∃ n : Nat, m = (n : Int) := ⟨m.toNat, by omega⟩
 with_reducible repeat' (first | apply ai | intro _ | ((first | apply s1 | apply s2 | apply s3 | apply s4) <;> intro hb <;> simp -implicitDefEqProofs only [hb, go_sem, seval] <;> try simp only [qz] at hb))
 all_goals first | rfl | omega | skip
 refine AC [(7, 1901, true, 1)] (ι := C9 s c m) (fun z => ⟨[(0, .t (.v (.string s))), (1, .t (.v (.int .u8 c.toNat))), (2, .t (.v (.int .i64 m))), (7, .h 1901), (8, .t (.v (.int .i64 z.fr))), (9, .t (.v (.int .i64 z.i)))], [(1901, some (.arr true 1 ((z.o.map mB).map AG)))]⟩) (fun z => s.size - z.i) (C9.start s c m) rfl ?_ ?_
 ·simp -implicitDefEqProofs only [go_sem, seval]
  simp [C9.start]
 ·intro z
  have h1 := z.hi
  have h2 := z.hf
  have h3 := z.ho
  simp -implicitDefEqProofs only [go_sem, seval]
  with_reducible repeat' (first | apply ai | intro _ | ((first | apply s1 | apply s2 | apply s3 | apply s4) <;> intro hb <;> simp -implicitDefEqProofs only [hb, go_sem, seval] <;> try simp only [qz] at hb))
  all_goals (try simp only [maxLen, tn, lm] at *)
  all_goals first | rfl | omega | (simp_all; done) | skip
  ·refine ⟨z.hit (by omega) (by omega) (GF.1 hb), by simp only [C9.hit]; omega, ?_⟩
   rw [iz]
   simp -implicitDefEqProofs only [go_sem, seval]
   simp [C9.hit]
  ·refine ⟨z.miss (by omega) (by omega) (fun e => hb (GF.2 e)), by simp only [C9.miss]; omega, ?_⟩
   simp -implicitDefEqProofs only [go_sem, seval]
   simp [C9.miss]
  ·rw [M4, z.done (.inr (by omega)), UInt8.ofNat_toNat]
  ·rw [M4, z.done (.inl (by omega)), UInt8.ofNat_toNat]
end
def D3 (s : ByteArray) : Prop := (∀ w ∈ Cz s 46 3, SC w) ∧ (Cz s 46 3).length ≤ 3
def BL (a : Ad) : Prop := SC a.user ∧ D3 a.domain
def AN (a : Ad) : Prop := a.user = ⟨#[]⟩ ∧ a.domain = ⟨#[]⟩
def Ch (b : List ByteArray) : Prop := (∀ s ∈ b, H0 s) ∧ b.length ≤ 12
def DA (m : Ml) : Prop := (∀ a ∈ m.to, BL a) ∧ m.to.Nodup ∧ (BL m.frm ∨ AN m.frm) ∧ (1 ≤ m.to.length ∧ m.to.length ≤ 4) ∧ Ch m.body
def ab (s e : ByteArray) : Prop := s = e ∨ (e.size < s.size ∧ s.extract (s.size - e.size) s.size = e ∧ AE s (s.size - e.size - 1) = 46)
theorem BH {α : Type} [Inhabited α] {xs : List α} {P : α → Prop} (h : ∀ j, j < xs.length → P (xs.getD j default)) : ∀ x ∈ xs, P x := fun x hx => by
 obtain ⟨j, hj, rfl⟩ := List.getElem_of_mem hx
 have := h j hj
 simpa [hj] using this
theorem AB {α : Type} [Inhabited α] {xs : List α} {j : Nat} (h : j < xs.length) : xs.getD j default ∈ xs := by
 simp [h]
theorem Yc {α : Type} [Inhabited α] {xs : List α} (h : ∀ j, j < xs.length → ∀ k, k < j → ¬ xs.getD k default = xs.getD j default) : xs.Nodup := by
 rw [List.nodup_iff_pairwise_ne, List.pairwise_iff_getElem]
 intro k j hk hj hkj
 have := h j hj k hkj
 simpa [hk, hj] using this
theorem nH {a b : Ad} (h : (false != (decide (a.user = b.user) && decide (a.domain = b.domain))) = false) : ¬ a = b := fun e => by
 subst e; simp at h
theorem DC {α : Type} [Inhabited α] {xs : List α} {P : α → Prop} {i : Nat} (hall : ∀ j, j < i → P (xs.getD j default)) (h : P (xs.getD i default)) : ∀ j, j < i + 1 → P (xs.getD j default) := fun j hj => by
 by_cases e : j = i
 ·subst e; exact h
 ·exact hall j (by omega)
def M9 : Ct := Aj (lc Ak l0) (fun p => True) (fun p => .t (.v (.bool (BA (D3 p.1)))))
section
attribute [local go_sem] WM WJ Ai lm
theorem pn {G : Gt} (hG : Ac G) (hh : G.e 175 = AA 0 WM ∧ G.e 165 = AA 0 WJ) : Gd G 143 (AA 0 M9) := by
 refine gr (fn := Tryz.f143) (n := 1) rfl hG ?_
 rintro ⟨s, ⟨⟩⟩ hpre
 simp -implicitDefEqProofs only [Tryz.f143, go_sem, hh, seval] at hpre ⊢
 with_reducible repeat' (first | apply ai | intro _ | ((first | apply s1 | apply s2 | apply s3 | apply s4) <;> intro hb <;> simp -implicitDefEqProofs only [hb, go_sem, hh, seval] <;> try simp only [qz] at hb))
 all_goals first | rfl | omega | skip
 have e46 : UInt8.ofNat (46 : Int).toNat = 46 := rfl
 have e3 : (3 : Int).toNat = 3 := rfl
 rw [e46, e3] at *
 refine AC [] (ι := {i : Nat // i ≤ (Cz s 46 3).length ∧ ∀ j, j < i → SC ((Cz s 46 3).getD j default)}) (fun p => ⟨[(3, .h 1006), (4, .t (.v (.int .i64 p.1)))], [(1006, some (.arr true 1 ((Cz s 46 3).map AG)))]⟩) (fun p => (Cz s 46 3).length - p.1) ⟨0, by simp, by simp⟩ rfl ?_ ?_
 ·simp -implicitDefEqProofs only [go_sem, hh, seval]
  try simp
 ·rintro ⟨i, hi, hall⟩
  simp -implicitDefEqProofs only [go_sem, hh, seval]
  with_reducible repeat' (first | apply ai | intro _ | ((first | apply s1 | apply s2 | apply s3 | apply s4) <;> intro hb <;> simp -implicitDefEqProofs only [hb, go_sem, hh, seval] <;> try simp only [qz] at hb))
  all_goals (try simp only [maxLen, tn, lm] at *)
  all_goals first | rfl | omega | skip
  ·rw [AQ (fun h => hb (h.1 _ (AB (by omega))))]
  ·refine ⟨⟨i + 1, by omega, DC hall hb⟩, by dsimp only; omega, ?_⟩
   simp -implicitDefEqProofs only [go_sem, hh, seval]
   try simp
  ·rw [← A4, AP]
   exact ⟨fun h => ⟨BH fun j hj => hall j (by omega), by omega⟩, fun h => by have := h.2; omega⟩
end
def II : Ct := Aj (lc DV.ag l0) (fun p => True) (fun p => .t (.v (.bool (BA (BL p.1)))))
section
attribute [local go_sem] WJ M9
theorem pX {G : Gt} (hG : Ac G) (hh : G.e 165 = AA 0 WJ ∧ G.e 143 = AA 0 M9) : Gd G 123 (AA 0 II) := by
 refine gr (fn := Tryz.f123) (n := 1) rfl hG ?_
 rintro ⟨a, ⟨⟩⟩ hpre
 simp -implicitDefEqProofs only [Tryz.f123, go_sem, hh, seval] at hpre ⊢
 with_reducible repeat' (first | apply ai | intro _ | ((first | apply s1 | apply s2 | apply s3 | apply s4) <;> intro hb <;> simp -implicitDefEqProofs only [hb, go_sem, hh, seval] <;> try simp only [qz] at hb))
 all_goals first
  | rfl
  | (rw [AQ (fun h => hb h.1)]; done)
  | (rw [AP]; exact ⟨fun h => ⟨by assumption, h⟩, fun h => h.2⟩)
  | skip
end
def NB : Ct := Aj (lc DV.ag l0) (fun p => True) (fun p => .t (.v (.bool (BA (AN p.1)))))
theorem uS {G : Gt} (hG : Ac G) : Gd G 62 (AA 0 NB) := by
 refine gr (fn := Tryz.f62) (n := 1) rfl hG ?_
 rintro ⟨a, ⟨⟩⟩ hpre
 simp -implicitDefEqProofs only [Tryz.f62, go_sem, seval] at hpre ⊢
 with_reducible repeat' (first | apply ai | intro _ | ((first | apply s1 | apply s2 | apply s3 | apply s4) <;> intro hb <;> simp -implicitDefEqProofs only [hb, go_sem, seval] <;> try simp only [qz] at hb))
 all_goals first
  | rfl
  | (rw [AQ (fun h => hb h.1)]; done)
  | (rw [← A4, AP]; exact ⟨fun h => ⟨by assumption, h⟩, fun h => h.2⟩)
  | skip
def kD : Ct := Aj (lc Ak (lc Ak l0)) (fun p => True) (fun p => .t (.v (.bool (BA (ab p.1 p.2.1)))))
theorem qi {G : Gt} (hG : Ac G) : Gd G 196 (AA 0 kD) := by
 refine gr (fn := Tryz.f196) (n := 2) rfl hG ?_
 rintro ⟨s, e, ⟨⟩⟩ hpre
 simp -implicitDefEqProofs only [Tryz.f196, go_sem, seval] at hpre ⊢
 with_reducible repeat' (first | apply ai | intro _ | ((first | apply s1 | apply s2 | apply s3 | apply s4) <;> intro hb <;> simp -implicitDefEqProofs only [hb, go_sem, seval] <;> try simp only [qz] at hb))
 all_goals (try simp only [maxLen] at *)
 all_goals first
  | rfl
  | omega
  | (rw [An (.inl hb)]; done)
  | skip
 all_goals have e1 : ((s.size : Int) - e.size).toNat = s.size - e.size := by omega
 all_goals (try rw [e1, tn] at hb)
 ·have e2 : ((s.size : Int) - e.size - 1).toNat = s.size - e.size - 1 := by omega
  rw [e2, ← A4, AP]
  exact ⟨fun h => .inr ⟨by omega, hb, h⟩, fun h => by
   rcases h with h | h
   ·exact absurd h (by assumption)
   ·exact h.2.2⟩
 ·rw [AQ]
  rintro (h | h)
  ·exact absurd h (by assumption)
  ·exact hb h.2.1
 ·rw [AQ]
  rintro (h | h)
  ·exact absurd h (by assumption)
  ·have := h.1; omega
def M8 : Ct := Aj (lc Ao.asl l0) (fun p => True) (fun p => .t (.v (.bool (BA (Ch p.1)))))
section
attribute [local go_sem] Ql
theorem pm {G : Gt} (hG : Ac G) (hh : G.e 124 = AA 0 Ql) : Gd G 142 (AA 0 M8) := by
 refine gr (fn := Tryz.f142) (n := 1) rfl hG ?_
 rintro ⟨xs, ⟨⟩⟩ hpre
 simp -implicitDefEqProofs only [Tryz.f142, go_sem, hh, seval] at hpre ⊢
 refine AC [] (ι := {i : Nat // i ≤ xs.length ∧ ∀ j, j < i → H0 (xs.getD j default)}) (fun p => ⟨[(0, .t (.sl 1 (xs.map AG))), (3, .t (.v (.int .i64 p.1)))], []⟩) (fun p => xs.length - p.1) ⟨0, by simp, by simp⟩ rfl ?_ ?_
 ·simp -implicitDefEqProofs only [go_sem, hh, seval]
  try simp
 ·rintro ⟨i, hi, hall⟩
  simp -implicitDefEqProofs only [go_sem, hh, seval]
  with_reducible repeat' (first | apply ai | intro _ | ((first | apply s1 | apply s2 | apply s3 | apply s4) <;> intro hb <;> simp -implicitDefEqProofs only [hb, go_sem, hh, seval] <;> try simp only [qz] at hb))
  all_goals (try simp only [maxLen, tn, lm] at *)
  all_goals first | rfl | omega | skip
  ·rw [AQ (fun h => hb (h.1 _ (AB (by omega))))]
  ·refine ⟨⟨i + 1, by omega, DC hall hb⟩, by dsimp only; omega, ?_⟩
   simp -implicitDefEqProofs only [go_sem, hh, seval]
   try simp
  ·rw [← A4, AP]
   exact ⟨fun h => ⟨BH fun j hj => hall j (by omega), by omega⟩, fun h => by have := h.2; omega⟩
end
def NA : Ct := Aj (lc aN.ag l0) (fun p => (p.1.to.length : Int) ≤ 1048576 ∧ (p.1.body.length : Int) ≤ 1048576) (fun p => U4 p.1)
section
attribute [local go_sem] lm List.map_nil List.length_nil
theorem q8 {G : Gt} (hG : Ac G) : Gd G 222 (AA 0 NA) := by
 refine gr (fn := Tryz.f222) (n := 1) rfl hG ?_ (hs := fun _ p => .agg _ (by intro c hc; simp only [List.mem_cons, List.not_mem_nil, or_false] at hc; rcases hc with rfl | rfl | rfl | rfl <;> first | exact .v _ | exact .deep _ _))
 rintro ⟨m, ⟨⟩⟩ hpre
 simp -implicitDefEqProofs only [Tryz.f222, go_sem, seval] at hpre ⊢
 with_reducible repeat' (first | apply ai | intro _ | ((first | apply s1 | apply s2 | apply s3 | apply s4) <;> intro hb <;> simp -implicitDefEqProofs only [hb, go_sem, seval] <;> try simp only [qz] at hb))
 all_goals (try simp only [maxLen, tn, lm] at *)
 all_goals first | rfl | omega | (simp_all; done) | skip
end
def kQ : Ct := Aj (lc aN.ag l0) (fun p => True) (fun p => .t (.v (.bool (BA (DA p.1)))))
section
attribute [local go_sem] II NB Ln M8 lm List.map_nil List.length_nil
theorem qy {G : Gt} (hG : Ac G) (hh : G.e 123 = AA 0 II ∧ G.e 62 = AA 0 NB ∧ G.e 36 = AA 0 Ln ∧ G.e 142 = AA 0 M8) : Gd G 221 (AA 0 kQ) := by
 refine gr (fn := Tryz.f221) (n := 1) rfl hG ?_
 rintro ⟨m, ⟨⟩⟩ hpre
 simp -implicitDefEqProofs only [Tryz.f221, go_sem, hh, seval] at hpre ⊢
 refine AC [] (ι := {i : Nat // i ≤ m.to.length ∧ (∀ j, j < i → BL (m.to.getD j default)) ∧ ∀ j, j < i → ∀ k, k < j → ¬ m.to.getD k default = m.to.getD j default}) (fun p => ⟨[(1, .pb 1001 0), (3, .t (.v (.int .i64 p.1)))], [(1001, some (.box [.t (.v (.string m.frm.user)), .t (.v (.string m.frm.domain)), .t (.sl 2 (m.to.map Ap)), .t (.sl 1 (m.body.map AG))]))]⟩) (fun p => m.to.length - p.1) ⟨0, by simp, by simp, by simp⟩ rfl ?_ ?_
 ·simp -implicitDefEqProofs only [go_sem, hh, seval]
  try simp
 ·rintro ⟨i, hi, hall, hno⟩
  simp -implicitDefEqProofs only [go_sem, hh, seval]
  with_reducible repeat' (first | apply ai | intro _ | ((first | apply s1 | apply s2 | apply s3 | apply s4) <;> intro hb <;> simp -implicitDefEqProofs only [hb, go_sem, hh, seval] <;> try simp only [qz] at hb))
  all_goals (try simp only [maxLen, tn, lm] at *)
  all_goals first | rfl | omega | skip
  ·rw [AQ (fun h => hb (h.1 _ (AB (by omega))))]
  ·refine AC [] (ι := {k : Nat // k ≤ i ∧ ∀ j, j < k → ¬ m.to.getD j default = m.to.getD i default}) (fun p => ⟨[(1, .pb 1001 0), (3, .t (.v (.int .i64 i))), (4, .t (.v (.int .i64 p.1)))], [(1001, some (.box [.t (.v (.string m.frm.user)), .t (.v (.string m.frm.domain)), .t (.sl 2 (m.to.map Ap)), .t (.sl 1 (m.body.map AG))]))]⟩) (fun p => i - p.1) ⟨0, by simp, by simp⟩ rfl ?_ ?_
   ·simp -implicitDefEqProofs only [go_sem, hh, seval]
    try simp
   ·rintro ⟨k, hk, hk2⟩
    simp -implicitDefEqProofs only [go_sem, hh, seval]
    with_reducible repeat' (first | apply ai | intro _ | ((first | apply s1 | apply s2 | apply s3 | apply s4) <;> intro hb <;> simp -implicitDefEqProofs only [hb, go_sem, hh, seval] <;> try simp only [qz] at hb))
    all_goals (try simp only [maxLen, tn, lm] at *)
    all_goals first | rfl | omega | skip
    ·have e : m.to.getD k default = m.to.getD i default := BV.2 (by simpa using hb)
     rw [AQ]
     intro h
     have hn := h.2.1
     have q1 : k < m.to.length := by omega
     have q2 : i < m.to.length := by omega
     simp only [List.getD_eq_getElem?_getD, List.getElem?_eq_getElem q1, List.getElem?_eq_getElem q2, Option.getD_some] at e
     exact List.pairwise_iff_getElem.1 (List.nodup_iff_pairwise_ne.1 hn) k i q1 q2 (by omega) e
    ·refine ⟨⟨k + 1, by omega, fun j hj => ?_⟩, by dsimp only; omega, ?_⟩
     ·by_cases e : j = k
      ·subst e; exact nH hb
      ·exact hk2 j (by omega)
     ·simp -implicitDefEqProofs only [go_sem, hh, seval]
      try simp
    ·refine ⟨⟨i + 1, by omega, DC hall (by assumption), fun j hj q hq => ?_⟩, by dsimp only; omega, ?_⟩
     ·by_cases e : j = i
      ·subst e; exact hk2 q (by omega)
      ·exact hno j (by omega) q hq
     ·simp -implicitDefEqProofs only [go_sem, hh, seval]
      try simp
  all_goals have hlen : m.to.length ≤ i := by omega
  all_goals have hA : ∀ a ∈ m.to, BL a := BH fun j hj => hall j (by omega)
  all_goals have hN : m.to.Nodup := Yc fun j hj q hq => hno j (by omega) q hq
  all_goals first
   | (rw [AP]
      exact ⟨fun h => ⟨hA, hN, by first | exact .inl (by assumption) | exact .inr (by assumption), by omega, h⟩, fun h => h.2.2.2.2⟩)
   | (rw [AQ]
      intro h
      first
       | (have := h.2.2.2.1; omega)
       | (rcases h.2.2.1 with q | q <;> contradiction))
end
theorem Hu {w : World} {pr : Nat → Prop} {u v : Value} {vs : List Value} (h : AJ ρ0 w pr [.t (.v u), .t (.v v)] vs []) : vs = [u, v] := by
 obtain ⟨a, l, rfl, h1, h2⟩ := h.one
 obtain ⟨b, l2, rfl, h3, h4⟩ := h2.one
 generalize hF : ([] : List Nat) = F at h4
 cases h4
 rw [h1.val.1, h3.val.1]
theorem Ly.cell {m : Int} {w : World} {pr : Nat → Prop} (h : Ly m w pr) : w.cell? ⟨0, 0, none⟩ = some (.int .i64 m) := by
 unfold Ly at h
 cases h with
 | rop cs a vs hp hv hr =>
   cases hr with
   | cons t v ts vs h1 h2 =>
     cases h1 with
     | v x hx =>
       have := hv 0 (.int .i64 m) rfl
       simpa [Addr.add, rx] using this
def kg : Ct := Aj (lc Ak (lc iC l0)) (fun _ => True) (fun p => .t (.v (.int .i64 (Lib.indexByte (bl p.1) (UInt8.ofNat p.2.1.toNat)))))
theorem rP (m : Int) : FV Tryz.prog m 241 kg := FV.of (r := fun (p : ByteArray × Int × Unit) => .int .i64 (Lib.indexByte (bl p.1) (UInt8.ofNat p.2.1.toNat))) (fun _ => trivial) fun p _ => by
 obtain ⟨s, c, ⟨⟩⟩ := p
 intro w pr vs hgl hv
 have := Hu hv
 subst this
 have he : Extern.find Tryz.f241 = some Extern.BytealgIndexByte.indexByte := by kernel_rfl
 rw [run_callFunc_extern (fn := Tryz.f241) (by kernel_rfl) (by kernel_rfl) rfl (by kernel_rfl) he]
 have h := Lib.run_indexByteString (P := Tryz.prog) s c w
 rw [show ([Value.string s, Value.int .u8 c].toArray) = #[.string s, .int .u8 c] from rfl, h]
 rfl
def kP : Ct := Aj (lc Ak (lc iC l0)) (fun _ => True) (fun p => .t (.v (.int .i64 (Lib.countByte (bl p.1) (UInt8.ofNat p.2.1.toNat)))))
theorem qw (m : Int) : FV Tryz.prog m 216 kP := FV.of (r := fun (p : ByteArray × Int × Unit) => .int .i64 (Lib.countByte (bl p.1) (UInt8.ofNat p.2.1.toNat))) (fun _ => trivial) fun p _ => by
 obtain ⟨s, c, ⟨⟩⟩ := p
 intro w pr vs hgl hv
 have := Hu hv
 subst this
 have he : Extern.find Tryz.f216 = some Extern.BytealgCount.count := by kernel_rfl
 rw [run_callFunc_extern (fn := Tryz.f216) (by kernel_rfl) (by kernel_rfl) rfl (by kernel_rfl) he]
 have h := Lib.run_countString (P := Tryz.prog) s c w
 rw [show ([Value.string s, Value.int .u8 c].toArray) = #[.string s, .int .u8 c] from rfl, h]
 rfl
def kX (m : Int) : Ct := Aj (lc Ak (lc Ak l0)) (fun p => 2 ≤ p.2.1.size ∧ (p.2.1.size : Int) ≤ m ∧ p.1.size ≤ 2000000) (fun p => .t (.v (.int .i64 (Lib.indexB p.1 p.2.1))))
theorem rH (m : Int) : FV Tryz.prog m 231 (kX m) := FV.of (r := fun (p : ByteArray × ByteArray × Unit) => .int .i64 (Lib.indexB p.1 p.2.1)) (fun _ => trivial) fun p hp => by
 obtain ⟨s, b, ⟨⟩⟩ := p
 intro w pr vs hgl hv
 have := Hu hv
 subst this
 have he : Extern.find Tryz.f231 = some Extern.BytealgIndex.index := by kernel_rfl
 rw [run_callFunc_extern (fn := Tryz.f231) (by kernel_rfl) (by kernel_rfl) rfl (by kernel_rfl) he]
 have h := Lib.run_indexString (P := Tryz.prog) s b w 0 m (by kernel_rfl) hgl.cell hp.1 hp.2.1 (by have h3 : s.size ≤ 2000000 := hp.2.2; omega)
 rw [show ([Value.string s, Value.string b].toArray) = #[.string s, .string b] from rfl, h]
 rfl
theorem B8 (s : ByteArray) (i : Nat) (h : i < s.size) : AE s i = (s[i].toNat : Int) := by
 rw [CE]
 have h' : i < (bl s).length := h
 have : (bl s).getD i 0 = s[i] := by
  simp [h']
  rfl
 rw [this]
 rfl
theorem GO (s : ByteArray) : s.toList = bl s := ByteArray.toList_eq s
theorem EV {s t : ByteArray} (h : s = t) : (s.toList == t.toList) = true := by rw [h]; simp
theorem GD {s t : ByteArray} (h : ¬ s = t) : (s.toList == t.toList) = false := by
 rw [GO, GO]
 simpa using fun e => h (C5 e)
def kW : Ct := Aj (lc Ak (lc iC l0)) (fun p => True) (fun p => .t (.v (.int .i64 (Lib.indexByte (bl p.1) (UInt8.ofNat p.2.1.toNat)))))
section
attribute [local go_sem] kg
theorem rG {G : Gt} (hG : Ac G) (hh : G.e 241 = AA 3 kg) : Gd G 230 (AA 0 kW) := by
 refine gr (fn := Tryz.f230) (n := 2) rfl hG ?_
 rintro ⟨s, c, ⟨⟩⟩ hpre
 simp -implicitDefEqProofs only [Tryz.f230, go_sem, hh, seval] at hpre ⊢
 repeat' (first | with_reducible apply ai | with_reducible intro _ | ((first | apply s1 | apply s2 | apply s3 | apply s4) <;> intro hb <;> simp -implicitDefEqProofs only [hb, go_sem, hh, seval] <;> try simp only [qz] at hb))
 all_goals first | rfl | skip
end
def kY : Ct := Aj (lc BU l0) (fun p => 0 ≤ p.1 ∧ p.1 ≤ 1000000000000) (fun p => .t (.v (.int .i64 ((p.1 + 16) / 8))))
theorem rI {G : Gt} (hG : Ac G) : Gd G 232 (AA 0 kY) := by
 refine gr (fn := Tryz.f232) (n := 1) rfl hG ?_
 rintro ⟨n, ⟨⟩⟩ hpre
 simp -implicitDefEqProofs only [Tryz.f232, go_sem, seval] at hpre ⊢
 repeat' (first | with_reducible apply ai | with_reducible intro _ | ((first | apply s1 | apply s2 | apply s3 | apply s4) <;> intro hb <;> simp -implicitDefEqProofs only [hb, go_sem, seval] <;> try simp only [qz] at hb))
 all_goals first | rfl | omega | skip
open Go.Lib in
theorem hash_next (s : ByteArray) (k : Nat) (hk : k < s.size) {h : Int} (hh : h = RK.H ((bl s).take k) % 4294967296) : (h * 16777619 % 4294967296 + AE s k) % 4294967296 = RK.H ((bl s).take (k + 1)) % 4294967296 := by
 have := Go.Proofs.hash_step s k hk hh
 rw [B8 s k hk]
 have h2 : (s[k].toNat : Int) % 4294967296 = s[k].toNat := by
  have := s[k].toNat_lt
  omega
 rw [h2] at this
 exact this
theorem oo (x : Int) : 0 ≤ x % 4294967296 ∧ x % 4294967296 < 4294967296 := by omega
def yD (s : ByteArray) : AV := .tup [.t (.v (.int .u32 (Lib.RK.H (bl s) % 4294967296))), .t (.v (.int .u32 (16777619 ^ s.size % 4294967296)))]
def kh : Ct := Aj (lc Ak l0) (fun p => p.1.size ≤ 2000000) (fun p => yD p.1)
section
attribute [local go_sem] yD
theorem rQ {G : Gt} (hG : Ac G) : Gd G 242 (AA 0 kh) := by
 refine gr (fn := Tryz.f242) (n := 1) rfl hG ?_ (hs := fun _ p => .tup _ (by intro c hc; simp only [List.mem_cons, List.not_mem_nil, or_false] at hc; rcases hc with rfl | rfl <;> exact .v _))
 rintro ⟨s, ⟨⟩⟩ hpre
 simp -implicitDefEqProofs only [Tryz.f242, go_sem, seval] at hpre ⊢
 refine AC [] (ι := {i : Nat // i ≤ s.size}) (fun p => ⟨[(0, .t (.v (.string s))), (4, .t (.v (.int .u32 (Lib.RK.H ((bl s).take p.1) % 4294967296)))), (5, .t (.v (.int .i64 p.1)))], []⟩) (fun p => s.size - p.1) ⟨0, by omega⟩ rfl ?_ ?_
 ·simp -implicitDefEqProofs only [go_sem, seval]
  simp [Lib.RK.H_nil]
 ·rintro ⟨i, hi⟩
  simp -implicitDefEqProofs only [go_sem, seval]
  repeat' (first | with_reducible apply ai | with_reducible intro _ | ((first | apply s1 | apply s2 | apply s3 | apply s4) <;> intro hb <;> simp -implicitDefEqProofs only [hb, go_sem, seval] <;> try simp only [qz] at hb))
  all_goals (try simp only [maxLen, tn] at *)
  all_goals (try have hbr := A8 s i)
  all_goals first | rfl | omega | skip
  ·refine ⟨⟨i + 1, by omega⟩, by dsimp only; omega, ?_⟩
   rw [hash_next s i (by omega) rfl]
   simp -implicitDefEqProofs only [go_sem, seval]
   try simp
  ·have hii : i = s.size := by omega
   have hle : (bl s).length ≤ i := by rw [Br]; omega
   rw [List.take_of_length_le hle]
   refine AC [] (ι := {p : Nat × Int × Int // p.1 ≤ 2000000 ∧ Lib.RK.PowInv s.size p.1 p.2.1 p.2.2 ∧ 0 ≤ p.2.1 ∧ p.2.1 < 4294967296}) (fun p => ⟨[(4, .t (.v (.int .u32 (Lib.RK.H (bl s) % 4294967296)))), (6, .t (.v (.int .u32 p.1.2.1))), (7, .t (.v (.int .u32 p.1.2.2))), (8, .t (.v (.int .i64 p.1.1)))], []⟩) (fun p => p.1.1) ⟨(s.size, 1, 16777619), by simpa using hpre, Lib.RK.pow_start _, by simp, by simp⟩ rfl ?_ ?_
   ·simp -implicitDefEqProofs only [go_sem, seval]
    try simp
   ·rintro ⟨⟨k, pw, sq⟩, hk, hpi, h0, h1⟩
    have hand := Go.Proofs.and_one k (by simp only at hk; omega)
    simp only at hk h0 h1 hpi
    have hpw : ((k : Int) / 2 ^ (1 : Int).toNat) = ((k / 2 : Nat) : Int) := by simp
    simp -implicitDefEqProofs only [go_sem, seval]
    repeat' (first | with_reducible apply ai | with_reducible intro _ | ((first | apply s1 | apply s2 | apply s3 | apply s4) <;> intro hb <;> simp -implicitDefEqProofs only [hb, go_sem, seval] <;> try simp only [qz] at hb))
    all_goals (try simp only [maxLen, tn] at *)
    all_goals first | rfl | omega | skip
    ·have h2 : k % 2 = 1 := by rw [hand] at hb; omega
     have := oo (pw * sq)
     refine ⟨⟨(k / 2, pw * sq % 4294967296, sq * sq % 4294967296), by simp only []; omega, Lib.RK.pow_odd hpi h2, this.1, this.2⟩, by simp only []; omega, ?_⟩
     try rw [hpw]
     simp -implicitDefEqProofs only [go_sem, seval]
     try simp
    ·have h2 : k % 2 = 0 := by rw [hand] at hb; omega
     refine ⟨⟨(k / 2, pw, sq * sq % 4294967296), by simp only []; omega, Lib.RK.pow_even hpi h2, h0, h1⟩, by simp only []; omega, ?_⟩
     try rw [hpw]
     simp -implicitDefEqProofs only [go_sem, seval]
     try simp
    ·have h2 : k = 0 := by omega
     subst h2
     rw [← Lib.RK.pow_end hpi h0 h1]
end
open Go.Lib in
theorem roll_next (s : ByteArray) (n i : Nat) (hn : 1 ≤ n) (hni : n ≤ i) (hi : i < s.size) {h pw : Int} (hh : h = RK.H (RK.win (bl s) (i - n) n) % 4294967296) (hp : pw = 16777619 ^ n % 4294967296) :
    ((h * 16777619 % 4294967296 + AE s i) % 4294967296 - pw * AE s (i - n) % 4294967296) % 4294967296 = RK.H (RK.win (bl s) (i + 1 - n) n) % 4294967296 := by
 have := Go.Proofs.roll_step s n i hn hni hi hh hp
 rw [B8 s i hi, B8 s (i - n) (by omega)]
 have h2 : (s[i - n].toNat : Int) % 4294967296 = s[i - n].toNat := by
  have := s[i - n].toNat_lt
  omega
 rw [h2] at this
 rw [← show RK.H (RK.win s.data.toList (i + 1 - n) n) % 4294967296 = RK.H (RK.win (bl s) (i + 1 - n) n) % 4294967296 from rfl, ← this]
 generalize pw * (s[i - n].toNat : Int) = X
 omega
def kZ : Ct := Aj (lc Ak (lc Ak l0)) (fun p => 1 ≤ p.2.1.size ∧ p.2.1.size ≤ p.1.size ∧ p.1.size ≤ 2000000) (fun p => .t (.v (.int .i64 (Lib.indexB p.1 p.2.1))))
section
attribute [local go_sem] kh yD
theorem rJ {G : Gt} (hG : Ac G) (hh : G.e 242 = AA 0 kh) : Gd G 233 (AA 0 kZ) := by
 refine gr (fn := Tryz.f233) (n := 2) rfl hG ?_
 rintro ⟨s, sep, ⟨⟩⟩ hpre
 simp -implicitDefEqProofs only [Tryz.f233, go_sem, hh, seval] at hpre ⊢
 repeat' (first | with_reducible apply ai | with_reducible intro _ | ((first | apply s1 | apply s2 | apply s3 | apply s4) <;> intro hb <;> simp -implicitDefEqProofs only [hb, go_sem, hh, seval] <;> try simp only [qz] at hb))
 all_goals first | rfl | omega | skip
 refine AC [] (ι := {i : Nat // i ≤ sep.size}) (fun p => ⟨[(0, .t (.v (.string s))), (1, .t (.v (.string sep))), (5, .t (.v (.int .u32 (Lib.RK.H (bl sep) % 4294967296)))), (6, .t (.v (.int .u32 (16777619 ^ sep.size % 4294967296)))), (7, .t (.v (.int .i64 sep.size))), (8, .t (.v (.int .u32 (Lib.RK.H ((bl s).take p.1) % 4294967296)))), (9, .t (.v (.int .i64 p.1)))], []⟩) (fun p => sep.size - p.1) ⟨0, by omega⟩ rfl ?_ ?_
 ·simp -implicitDefEqProofs only [go_sem, hh, seval]
  simp [Lib.RK.H_nil]
 ·rintro ⟨i, hi⟩
  simp -implicitDefEqProofs only [go_sem, hh, seval]
  repeat' (first | with_reducible apply ai | with_reducible intro _ | ((first | apply s1 | apply s2 | apply s3 | apply s4) <;> intro hb <;> simp -implicitDefEqProofs only [hb, go_sem, hh, seval] <;> try simp only [qz] at hb))
  all_goals (try simp only [maxLen, tn] at *)
  all_goals (try have hbr := A8 s i)
  all_goals first | rfl | omega | skip
  ·refine ⟨⟨i + 1, by omega⟩, by dsimp only; omega, ?_⟩
   rw [hash_next s i (by omega) rfl]
   simp -implicitDefEqProofs only [go_sem, hh, seval]
   try simp
  ·rw [Lib.hit s sep 0 (fun j hj => absurd hj (Nat.not_lt_zero _)) (by omega) (EV (by rw [Nat.zero_add]; exact hb))]
   rfl
  all_goals
   have hii : i = sep.size := by omega
   have hb0 := hb
   subst hii
   have hno : Lib.NoOccB s sep (sep.size - sep.size + 1) := by
    rw [Nat.sub_self]
    refine Lib.NoOcc.succ (fun j hj => absurd hj (Nat.not_lt_zero _)) ?_
    first
     | exact Go.Proofs.occ_no s sep 0 (by omega) (by rw [Nat.zero_add]; exact GD hb0)
     | exact Go.Proofs.occ_no_hash s sep 0 (by omega) rfl rfl hb0
   refine AC [] (ι := {k : Nat // sep.size ≤ k ∧ k ≤ s.size ∧ Lib.NoOccB s sep (k - sep.size + 1)}) (fun p => ⟨[(0, .t (.v (.string s))), (1, .t (.v (.string sep))), (5, .t (.v (.int .u32 (Lib.RK.H (bl sep) % 4294967296)))), (6, .t (.v (.int .u32 (16777619 ^ sep.size % 4294967296)))), (7, .t (.v (.int .i64 sep.size))), (8, .t (.v (.int .u32 (Lib.RK.H (Lib.RK.win (bl s) (p.1 - sep.size) sep.size) % 4294967296)))), (10, .t (.v (.int .i64 p.1)))], []⟩) (fun p => s.size - p.1) ⟨sep.size, by omega, by omega, hno⟩ rfl ?_ ?_
   ·simp -implicitDefEqProofs only [go_sem, hh, seval]
    try simp [Lib.RK.win_zero]
   ·rintro ⟨k, hk1, hk2, hk3⟩
    have hrn := fun h => roll_next s sep.size k (by omega) hk1 h rfl rfl
    have eks : ((k : Int) - sep.size).toNat = k - sep.size := by omega
    have eks1 : ((k : Int) + 1 - sep.size).toNat = k + 1 - sep.size := by omega
    have ek1 : ((k : Int) + 1).toNat = k + 1 := by omega
    simp -implicitDefEqProofs only [go_sem, hh, seval]
    repeat' (first | with_reducible apply ai | with_reducible intro _ | ((first | apply s1 | apply s2 | apply s3 | apply s4) <;> intro hb <;> simp -implicitDefEqProofs only [hb, go_sem, hh, seval] <;> try simp only [qz] at hb))
    all_goals (try simp only [maxLen, tn] at *)
    all_goals (try have hbr := A8 s k)
    all_goals (try have hbr2 := A8 s (k - sep.size))
    all_goals (try simp only [eks, eks1, ek1] at *)
    all_goals first | rfl | omega | skip
    all_goals (try have hkk := hrn (by omega))
    all_goals have e1 : k - sep.size + 1 = k + 1 - sep.size := by omega
    all_goals rw [e1] at hk3
    ·have e2 : k + 1 - sep.size + sep.size = k + 1 := by omega
     rw [Lib.hit s sep (k + 1 - sep.size) hk3 (by omega) (EV (by rw [e2]; exact hb))]
     have e3 : ((k + 1 - sep.size : Nat) : Int) = (k : Int) + 1 - sep.size := by omega
     rw [e3]
    ·have e2 : k + 1 - sep.size + sep.size = k + 1 := by omega
     have hocc := Go.Proofs.occ_no s sep (k + 1 - sep.size) (by omega) (by rw [e2]; exact GD hb)
     refine ⟨⟨k + 1, by omega, by omega, Lib.NoOcc.succ hk3 hocc⟩, by dsimp only; omega, ?_⟩
     rw [hkk]
     simp -implicitDefEqProofs only [go_sem, hh, seval]
     try simp
    ·rw [hkk] at hb
     have hocc := Go.Proofs.occ_no_hash s sep (k + 1 - sep.size) (by omega) rfl rfl hb
     refine ⟨⟨k + 1, by omega, by omega, Lib.NoOcc.succ hk3 hocc⟩, by dsimp only; omega, ?_⟩
     rw [hkk]
     simp -implicitDefEqProofs only [go_sem, hh, seval]
     try simp
    ·rw [Lib.past s sep (k + 1 - sep.size) hk3 (by omega) (by omega)]
end
section
open Go.Lib
theorem X2 (s : ByteArray) (c : UInt8) : indexByte (bl s) c = -1 ∨ ∃ o : Nat, indexByte (bl s) c = o ∧ o < s.size := by
 have hge := indexByte_ge (bl s) c
 by_cases h : indexByte (bl s) c = -1
 ·exact .inl h
 ·obtain ⟨o, ho⟩ : ∃ o : Nat, indexByte (bl s) c = o := ⟨(indexByte (bl s) c).toNat, by omega⟩
  refine .inr ⟨o, ho, ?_⟩
  obtain ⟨h1, _⟩ := indexByte_some ho
  exact (List.getElem?_eq_some_iff.1 h1).1
theorem Gr (sub : ByteArray) (h : 0 < sub.size) : UInt8.ofNat (AE sub 0).toNat = ((sub[0].toNat : Int)).toNat.toUInt8 := by rw [B8 sub 0 h]
theorem gH {s sub : ByteArray} {k j : Nat} (hk : k < s.size) (hj : j < sub.size) (h : ¬ AE s k = AE sub j) : ((((s[k].toNat : Nat) : Int)) != ((sub[j].toNat : Nat) : Int)) = true := by
 rw [B8 s k hk, B8 sub j hj] at h
 simpa using h
theorem NW {s sub : ByteArray} {k : Nat} (h2 : 2 ≤ sub.size) (hls : sub.size ≤ s.size) (hk : k < s.size) (hno : NoOccB s sub k) (hne : ¬ AE s k = AE sub 0) (hib : indexByte (bl (s.extract (k + 1) (s.size - sub.size + 1))) (UInt8.ofNat (AE sub 0).toNat) = -1) : indexB s sub = -1 :=
 skip_none s sub k h2 hls hk hno (gH hk (by omega) hne) (by rw [Gr sub (by omega)] at hib; exact hib)
theorem NX {s sub : ByteArray} {k o : Nat} (h2 : 2 ≤ sub.size) (hk : k < s.size) (hno : NoOccB s sub k) (hne : ¬ AE s k = AE sub 0) (hib : indexByte (bl (s.extract (k + 1) (s.size - sub.size + 1))) (UInt8.ofNat (AE sub 0).toNat) = o) : NoOccB s sub (k + (o + 1)) :=
 skip_some s sub k o h2 hk hno (gH hk (by omega) hne) (by rw [Gr sub (by omega)] at hib; exact hib)
theorem MN {s sub : ByteArray} {i : Nat} (hno : NoOccB s sub i) (h2 : 2 ≤ sub.size) (hi : i + 1 < s.size) (hne : ¬ AE s (i + 1) = AE sub 1) : NoOccB s sub (i + 1) :=
 miss_second s sub i hno h2 hi (by rw [B8 s _ hi, B8 sub 1 (by omega)] at hne; exact hne)
theorem PL {s sub : ByteArray} {i : Nat} (hno : NoOccB s sub i) (hi : i + sub.size ≤ s.size) (h : ¬ s.extract i (i + sub.size) = sub) : NoOccB s sub (i + 1) := miss_piece s sub i hno hi (GD h)
theorem Kl (s sub : ByteArray) (a : Nat) : -1 ≤ indexB (s.extract a s.size) sub ∧ indexB (s.extract a s.size) sub ≤ s.size := ⟨index_ge _ _, index_tail_le s sub a⟩
theorem Km {s sub : ByteArray} (h : sub.size = 1) : indexByte (bl s) (UInt8.ofNat (AE sub 0).toNat) = indexB s sub := by
 rw [one s sub h, Gr sub (by omega)]; rfl
theorem S3 {s sub : ByteArray} (h : sub.size = 0 ∨ sub = s) : indexB s sub = 0 := zero s sub (by
 rcases h with h | h
 ·exact .inl (by rw [h]; rfl)
 ·exact .inr (EV h))
theorem gG {s sub : ByteArray} {k : Nat} (hno : NoOccB s sub k) (hk : k ≤ s.size) : indexB s sub = if indexB (s.extract k s.size) sub < 0 then -1 else indexB (s.extract k s.size) sub + k := by
 split
 ·exact fb_neg s sub k hno hk (r := indexB (s.extract k s.size) sub) rfl (by assumption) (Kl s sub k).1
 ·exact fb_pos s sub k hno hk (r := indexB (s.extract k s.size) sub) rfl (by omega)
theorem zI {k : IntKind} {x y : Int} (h : x = y) : T.v (.int k x) = T.v (.int k y) := by rw [h]
theorem cq {s sub : ByteArray} (h1 : s.size ≤ sub.size) (h2 : ¬ sub = s) : indexB s sub = -1 := long s sub h1 (GD h2)
end
def WS : Ct := Aj (lc Ak (lc Ak l0)) (fun p => p.2.1.size ≤ 2000000 ∧ p.1.size ≤ 2000000) (fun p => .t (.v (.int .i64 (Lib.indexB p.1 p.2.1))))
section
attribute [local go_sem] kW kX kY kZ rx eq_self decide_true Bool.not_true Bool.not_false
set_option maxHeartbeats 8000000 in
theorem qx {G : Gt} (hG : Ac G) (hh : G.e 230 = AA 0 kW ∧ G.e 231 = AA 3 (kX G.m) ∧ G.e 232 = AA 0 kY ∧ G.e 233 = AA 0 kZ) : Gd G 217 (AA 0 WS) := by
 refine gr (fn := Tryz.f217) (n := 2) rfl hG ?_
 rintro ⟨s, sub, ⟨⟩⟩ hpre
 simp -implicitDefEqProofs only [Tryz.f217, go_sem, hh, Nat.reduceAdd, Nat.reduceMul, Nat.reduceLeDiff, Nat.reduceEqDiff, reduceCtorEq, Nat.reduceSub, Int.reduceNeg, Nat.reduceMod, Nat.reduceBEq, Nat.reduceLT] at hpre ⊢
 with_reducible repeat' (first | apply ai | intro _ | ((first | apply s1 | apply s2 | apply s3 | apply s4) <;> intro hb <;> simp -implicitDefEqProofs only [hb, go_sem, hh, Nat.reduceAdd, Nat.reduceMul, Nat.reduceLeDiff, Nat.reduceEqDiff, reduceCtorEq, Nat.reduceSub, Int.reduceNeg, Nat.reduceMod, Nat.reduceBEq, Nat.reduceLT] <;> try simp only [qz] at hb))
 all_goals (try simp only [maxLen, tn] at *)
 all_goals first | rfl | omega | skip
 ·rw [S3 (.inl (by omega))]
 ·rename_i hb; rw [S3 (.inr hb)]
 ·rw [← Km (s := s) (sub := sub) (by omega)]; rfl
 ·rw [cq (by omega) (by assumption)]
 all_goals
  have h2 : 2 ≤ sub.size := by omega
  have hls : sub.size < s.size := by omega
  refine AC [] (ι := {p : Nat × Nat // p.1 ≤ s.size - sub.size + 1 ∧ Lib.NoOccB s sub p.1 ∧ p.2 ≤ p.1}) (fun p => ⟨[(0, .t (.v (.string s))), (1, .t (.v (.string sub))), (5, .t (.v (.int .i64 sub.size))), (6, .t (.v (.int .u8 (AE sub 0)))), (7, .t (.v (.int .u8 (AE sub 1)))), (8, .t (.v (.int .i64 p.1.1))), (9, .t (.v (.int .i64 (s.size - sub.size + 1)))), (10, .t (.v (.int .i64 p.1.2)))], []⟩) (fun p => s.size - p.1.1) ⟨(0, 0), by dsimp only; omega, (fun j hj => absurd hj (Nat.not_lt_zero _)), by dsimp only; omega⟩ rfl ?_ ?_
  ·simp -implicitDefEqProofs only [go_sem, hh, Nat.reduceAdd, Nat.reduceMul, Nat.reduceLeDiff, Nat.reduceEqDiff, reduceCtorEq, Nat.reduceSub, Int.reduceNeg, Nat.reduceMod, Nat.reduceBEq, Nat.reduceLT]
   try simp
  ·rintro ⟨⟨i, f⟩, hi, hno, hf⟩
   dsimp only at hi hno hf
   have et : ((s.size : Int) - sub.size + 1).toNat = s.size - sub.size + 1 := by omega
   have ei : ((i : Int) + 1).toNat = i + 1 := by omega
   by_cases ht : (i : Int) < s.size - sub.size + 1
   ·by_cases e0 : AE s (i : Int).toNat = AE sub 0
    ·have e1 : ((i : Int) + sub.size).toNat = i + sub.size := by omega
     simp -implicitDefEqProofs only [ht, e0, go_sem, hh, Nat.reduceAdd, Nat.reduceMul, Nat.reduceLeDiff, Nat.reduceEqDiff, reduceCtorEq, Nat.reduceSub, Int.reduceNeg, Nat.reduceMod, Nat.reduceBEq, Nat.reduceLT]
     with_reducible repeat' (first | apply ai | intro _ | ((first | apply s1 | apply s2 | apply s3 | apply s4) <;> intro hb <;> simp -implicitDefEqProofs only [hb, go_sem, hh, Nat.reduceAdd, Nat.reduceMul, Nat.reduceLeDiff, Nat.reduceEqDiff, reduceCtorEq, Nat.reduceSub, Int.reduceNeg, Nat.reduceMod, Nat.reduceBEq, Nat.reduceLT] <;> try simp only [qz] at hb))
     all_goals (try simp only [maxLen, tn, Int.reduceToNat, ei, et, e1] at *)
     all_goals first | rfl | omega | skip
     all_goals first
      | (rw [Lib.hit s sub i hno (by omega) (EV (by assumption))]; done)
      | (rw [ByteArray.size_extract]; omega)
      | (have hk2 : Lib.NoOccB s sub (i + 1) := by
           first
            | exact PL hno (by omega) (by assumption)
            | exact MN hno h2 (by omega) (by assumption)
         have hbd := Kl s sub (i + 1)
         first
          | omega
          | (refine zI ?_
             rw [gG hk2 (by omega)]
             first
              | (rw [if_pos (by omega)]; done)
              | (rw [if_neg (by omega)]; omega))
          | (refine ⟨⟨(i + 1, f + 1), by dsimp only; omega, hk2, by dsimp only; omega⟩, by dsimp only; omega, ?_⟩
             simp -implicitDefEqProofs only [go_sem, hh, Nat.reduceAdd, Nat.reduceMul, Nat.reduceLeDiff, Nat.reduceEqDiff, reduceCtorEq, Nat.reduceSub, Int.reduceNeg, Nat.reduceMod, Nat.reduceBEq, Nat.reduceLT]
             simp))
    ·have hz : True := trivial
     rcases X2 (s.extract ((i : Int) + 1).toNat ((s.size : Int) - sub.size + 1).toNat) (UInt8.ofNat (AE sub (Int.toNat 0)).toNat) with h | ⟨o, h, ho⟩
     ·have h' : Lib.indexByte (bl (s.extract ((i : Int) + 1).toNat ((s.size : Int) - sub.size + 1).toNat)) (UInt8.ofNat (AE sub 0).toNat) = -1 := h
      simp -implicitDefEqProofs only [ht, e0, h', go_sem, hh, Nat.reduceAdd, Nat.reduceMul, Nat.reduceLeDiff, Nat.reduceEqDiff, reduceCtorEq, Nat.reduceSub, Int.reduceNeg, Nat.reduceMod, Nat.reduceBEq, Nat.reduceLT]
      with_reducible repeat' (first | apply ai | intro _ | ((first | apply s1 | apply s2 | apply s3 | apply s4) <;> intro hb <;> simp -implicitDefEqProofs only [hb, go_sem, hh, Nat.reduceAdd, Nat.reduceMul, Nat.reduceLeDiff, Nat.reduceEqDiff, reduceCtorEq, Nat.reduceSub, Int.reduceNeg, Nat.reduceMod, Nat.reduceBEq, Nat.reduceLT] <;> try simp only [qz] at hb))
      all_goals (try simp only [maxLen] at *)
      all_goals first | rfl | omega | skip
      rw [ei, et] at h'
      rw [tn] at e0
      rw [NW (k := i) h2 (by omega) (by omega) hno e0 h']
     ·have h' : Lib.indexByte (bl (s.extract ((i : Int) + 1).toNat ((s.size : Int) - sub.size + 1).toNat)) (UInt8.ofNat (AE sub 0).toNat) = o := h
      have ho' : i + (o + 1) < s.size - sub.size + 1 := by
       rw [ei, et, ByteArray.size_extract] at ho; omega
      have hno' : Lib.NoOccB s sub (i + (o + 1)) := by
       rw [ei, et] at h'
       rw [tn] at e0
       exact NX (k := i) h2 (by omega) hno e0 h'
      have e4 : ((i : Int) + ((o : Int) + 1)) = ((i + (o + 1) : Nat) : Int) := by omega
      simp -implicitDefEqProofs only [ht, e0, h', e4, go_sem, hh, Nat.reduceAdd, Nat.reduceMul, Nat.reduceLeDiff, Nat.reduceEqDiff, reduceCtorEq, Nat.reduceSub, Int.reduceNeg, Nat.reduceMod, Nat.reduceBEq, Nat.reduceLT]
      have hik : i ≤ i + (o + 1) := by omega
      have hob : o ≤ 2000000 := by omega
      clear h h' ho e0
      generalize i + (o + 1) = k at *
      have ek : ((k : Int) + 1).toNat = k + 1 := by omega
      have e1 : ((k : Int) + sub.size).toNat = k + sub.size := by omega
      with_reducible repeat' (first | apply ai | intro _ | ((first | apply s1 | apply s2 | apply s3 | apply s4) <;> intro hb <;> simp -implicitDefEqProofs only [hb, go_sem, hh, Nat.reduceAdd, Nat.reduceMul, Nat.reduceLeDiff, Nat.reduceEqDiff, reduceCtorEq, Nat.reduceSub, Int.reduceNeg, Nat.reduceMod, Nat.reduceBEq, Nat.reduceLT] <;> try simp only [qz] at hb))
      all_goals (try simp only [maxLen, tn, Int.reduceToNat, ei, et, e1, ek, e4] at *)
      all_goals first | rfl | omega | skip
      all_goals first
       | (rw [Lib.hit s sub k hno' (by omega) (EV (by assumption))]; done)
       | (rw [ByteArray.size_extract]; omega)
       | (have hk2 : Lib.NoOccB s sub (k + 1) := by
            first
             | exact PL hno' (by omega) (by assumption)
             | exact MN hno' h2 (by omega) (by assumption)
          have hbd := Kl s sub (k + 1)
          first
           | omega
           | (refine zI ?_
              rw [gG hk2 (by omega)]
              first
               | (rw [if_pos (by omega)]; done)
               | (rw [if_neg (by omega)]; omega))
           | (refine ⟨⟨(k + 1, f + 1), by dsimp only; omega, hk2, by dsimp only; omega⟩, by dsimp only; omega, ?_⟩
              simp -implicitDefEqProofs only [go_sem, hh, Nat.reduceAdd, Nat.reduceMul, Nat.reduceLeDiff, Nat.reduceEqDiff, reduceCtorEq, Nat.reduceSub, Int.reduceNeg, Nat.reduceMod, Nat.reduceBEq, Nat.reduceLT]
              simp))

   ·simp -implicitDefEqProofs only [ht, go_sem, hh, Nat.reduceAdd, Nat.reduceMul, Nat.reduceLeDiff, Nat.reduceEqDiff, reduceCtorEq, Nat.reduceSub, Int.reduceNeg, Nat.reduceMod, Nat.reduceBEq, Nat.reduceLT]
    rw [Lib.past s sub i hno (by omega) (by omega)]
end
section
open Go.Lib
def Ft (c : UInt8) : List UInt8 → List (List UInt8)
 | [] => [[]]
 | x :: r => if x = c then [] :: Ft c r else match Ft c r with | h :: t => (x :: h) :: t | [] => [[x]]
def Ie (s : ByteArray) (c : UInt8) : List ByteArray := (Ft c (bl s)).map mB
theorem GK (c : UInt8) : ∀ l : List UInt8, (Ft c l).length = l.count c + 1
 | [] => rfl
 | x :: r => by
   have h := GK c r
   rw [Ft]
   by_cases e : x = c
   ·rw [if_pos e, e, List.count_cons_self]; simp [h]
   ·rw [if_neg e, List.count_cons_of_ne e]
    cases hs : Ft c r with
    | nil => rw [hs] at h; simp at h
    | cons a t => rw [hs] at h; simp at h ⊢; exact h
theorem Pz {c : UInt8} : ∀ {l : List UInt8}, (∀ j : Nat, l[j]? ≠ some c) → Ft c l = [l]
 | [], _ => rfl
 | x :: r, h => by
   rw [Ft, if_neg (fun e => h 0 (by rw [e]; rfl)), Pz (fun j => h (j + 1))]
theorem MY {c : UInt8} : ∀ (o : Nat) (l : List UInt8), l[o]? = some c → (∀ k : Nat, k < o → l[k]? ≠ some c) → Ft c l = l.take o :: Ft c (l.drop (o + 1))
 | 0, l, h, _ => by
   cases l with
   | nil => cases h
   | cons x r => simp at h; rw [Ft, if_pos h]; rfl
 | o + 1, l, h, hk => by
   cases l with
   | nil => cases h
   | cons x r =>
     rw [Ft, if_neg (fun e => hk 0 (by omega) (by rw [e]; rfl)), MY o r h (fun k q => hk (k + 1) (by omega))]
     rfl
theorem FB {c : UInt8} : ∀ (l : List UInt8) (m : Nat), (As c m l).length ≤ m ∨ (Ft c l).length ≤ m → As c m l = Ft c l
 | l, 0, h => by
   have := GK c l
   rw [As] at h
   rcases h with h | h
   ·exact absurd h (by simp)
   ·omega
 | [], m + 1, _ => by rw [As, Ft]
 | x :: r, m + 1, h => by
   rw [As, Ft] at h ⊢
   by_cases e : x = c
   ·rw [if_pos e, if_pos e] at h ⊢
    rw [FB r m (by simp at h; exact h)]
   ·rw [if_neg e, if_neg e] at h ⊢
    have h2 : (As c (m + 1) r).length ≤ m + 1 ∨ (Ft c r).length ≤ m + 1 := by
     rcases h with h | h
     ·cases hs : As c (m + 1) r with
      | nil => exact .inl (by simp)
      | cons a t => rw [hs] at h; exact .inl (by simpa using h)
     ·cases hs : Ft c r with
      | nil => exact .inr (by simp)
      | cons a t => rw [hs] at h; exact .inr (by simpa using h)
    rw [FB r (m + 1) h2]
    all_goals (cases Ft c r <;> rfl)
theorem JQ (s : ByteArray) : D3 s ↔ (∀ w ∈ Ie s 46, SC w) ∧ (Ie s 46).length ≤ 3 := by
 unfold D3 Cz Ie
 constructor
 ·rintro ⟨h1, h2⟩
  rw [lm] at h2
  rw [FB _ _ (.inl h2)] at h1 h2
  exact ⟨h1, by rw [lm]; exact h2⟩
 ·rintro ⟨h1, h2⟩
  rw [lm] at h2
  rw [← FB _ _ (.inr h2)] at h1 h2
  exact ⟨h1, by rw [lm]; exact h2⟩
theorem Fk : ∀ {l : List UInt8} {c : UInt8}, indexByte l c = -1 → ∀ j : Nat, l[j]? ≠ some c
 | [], c, _, j => by simp
 | b :: l, c, h, j => by
   have hge := indexByte_ge l c
   unfold indexByte at h
   by_cases e : b = c
   ·rw [if_pos (by simp [e])] at h; cases h
   ·rw [if_neg (by simp [e])] at h
    by_cases e2 : indexByte l c = -1
    ·cases j with
     | zero => simp [e]
     | succ j => exact Fk e2 j
    ·rw [if_neg (by simp [e2])] at h; omega
theorem P1 {s sep : ByteArray} (h1 : sep.size = 1) (h : indexB s sep = -1) : Ie s (UInt8.ofNat (AE sep 0).toNat) = [s] := by
 rw [← Km h1] at h
 unfold Ie
 rw [Pz (Fk h)]
 rfl
theorem ZQ {s sep : ByteArray} (h1 : sep.size = 1) {o : Nat} (h : indexB s sep = o) : o < s.size ∧ Ie s (UInt8.ofNat (AE sep 0).toNat) = s.extract 0 o :: Ie (s.extract (o + 1) s.size) (UInt8.ofNat (AE sep 0).toNat) := by
 rw [← Km h1] at h
 obtain ⟨ha, hb⟩ := indexByte_some h
 refine ⟨(List.getElem?_eq_some_iff.1 ha).1, ?_⟩
 unfold Ie
 rw [MY o _ ha hb, List.map_cons, BS s (o + 1) s.size, List.take_of_length_le (l := (bl s).drop (o + 1)) (by rw [List.length_drop, Br]; exact Nat.le_refl _)]
 rw [Gy s 0 o]; rfl
theorem Xl {α : Type} (enc : α → List T) (d x : α) (p : List α) (n : Nat) : ((p ++ List.replicate (n + 1) d).map enc).set p.length (enc x) = ((p ++ [x]) ++ List.replicate n d).map enc := by
 rw [← List.map_set, List.set_append_right _ _ (Nat.le_refl _), Nat.sub_self, List.replicate_succ, List.set_cons_zero, List.append_assoc]; rfl
theorem f7 {t : ByteArray} {p : List ByteArray} {n : Nat} : ((p ++ List.replicate (n + 1) (⟨#[]⟩ : ByteArray)).map AG).set p.length [T.v (.string t)] = ((p ++ [t]) ++ List.replicate n (⟨#[]⟩ : ByteArray)).map AG := Xl AG _ t p n
theorem GL (s : ByteArray) (c : UInt8) : (Ie s c).length = countByte (bl s) c + 1 := by
 unfold Ie; rw [lm, GK]; rfl
theorem Wc (s : ByteArray) (c : UInt8) : countByte (bl s) c ≤ s.size := by
 have := List.count_le_length (a := c) (l := bl s)
 exact this
theorem MZ {s sep : ByteArray} (h1 : sep.size = 1) : (indexB s sep = -1 ∧ countByte (bl s) (UInt8.ofNat (AE sep 0).toNat) = 0 ∧ Ie s (UInt8.ofNat (AE sep 0).toNat) = [s]) ∨ ∃ o : Nat, indexB s sep = o ∧ o < s.size ∧ Ie s (UInt8.ofNat (AE sep 0).toNat) = s.extract 0 o :: Ie (s.extract (o + 1) s.size) (UInt8.ofNat (AE sep 0).toNat) ∧ countByte (bl s) (UInt8.ofNat (AE sep 0).toNat) = countByte (bl (s.extract (o + 1) s.size)) (UInt8.ofNat (AE sep 0).toNat) + 1 := by
 have hge := index_ge (bl s) (bl sep)
 by_cases h : indexB s sep = -1
 ·refine .inl ⟨h, ?_, P1 h1 h⟩
  have := GL s (UInt8.ofNat (AE sep 0).toNat)
  rw [P1 h1 h] at this
  simp at this; exact this
 ·have hge' : -1 ≤ indexB s sep := hge
  obtain ⟨o, ho⟩ : ∃ o : Nat, indexB s sep = o := ⟨(indexB s sep).toNat, by omega⟩
  obtain ⟨a, b⟩ := ZQ h1 ho
  refine .inr ⟨o, ho, a, b, ?_⟩
  have q1 := GL s (UInt8.ofNat (AE sep 0).toNat)
  have q2 := GL (s.extract (o + 1) s.size) (UInt8.ofNat (AE sep 0).toNat)
  rw [b, List.length_cons, q2] at q1
  omega
end
def kF : Ct := Aj (lc Ak (lc Ak l0)) (fun p => p.2.1.size ≤ 2000000 ∧ p.1.size ≤ 2000000) (fun p => .t (.v (.int .i64 (Lib.indexB p.1 p.2.1))))
section
attribute [local go_sem] WS
theorem ql {G : Gt} (hG : Ac G) (hh : G.e 217 = AA 0 WS) : Gd G 200 (AA 0 kF) := by
 refine gr (fn := Tryz.f200) (n := 2) rfl hG ?_
 rintro ⟨s, sub, ⟨⟩⟩ hpre
 simp -implicitDefEqProofs only [Tryz.f200, go_sem, hh, seval] at hpre ⊢
 with_reducible repeat' (first | apply ai | intro _ | ((first | apply s1 | apply s2 | apply s3 | apply s4) <;> intro hb <;> simp -implicitDefEqProofs only [hb, go_sem, hh, seval] <;> try simp only [qz] at hb))
 all_goals first | rfl | omega | skip
end
def kE : Ct := Aj (lc Ak (lc Ak l0)) (fun p => p.2.1.size = 1 ∧ p.1.size ≤ 2000000) (fun p => .t (.v (.int .i64 (Lib.countByte (bl p.1) (UInt8.ofNat (AE p.2.1 0).toNat)))))
section
attribute [local go_sem] kP
theorem qj {G : Gt} (hG : Ac G) (hh : G.e 216 = AA 3 kP) : Gd G 199 (AA 0 kE) := by
 refine gr (fn := Tryz.f199) (n := 2) rfl hG ?_
 rintro ⟨s, sub, ⟨⟩⟩ hpre
 simp -implicitDefEqProofs only [Tryz.f199, go_sem, hh, seval] at hpre ⊢
 have h1 : (sub.size : Int) = 1 := by omega
 simp -implicitDefEqProofs only [h1, go_sem, hh, seval]
 with_reducible repeat' (first | apply ai | intro _ | ((first | apply s1 | apply s2 | apply s3 | apply s4) <;> intro hb <;> simp -implicitDefEqProofs only [hb, go_sem, hh, seval] <;> try simp only [qz] at hb))
 all_goals first | rfl | omega | skip
end
def kO : Ct := Aj (lc Ak (lc Ak l0)) (fun p => p.2.1.size ≤ 2000000 ∧ p.1.size ≤ 2000000) (fun p => .t (.v (.bool (BA (p.2.1.size ≤ p.1.size ∧ p.1.extract (p.1.size - p.2.1.size) p.1.size = p.2.1)))))
theorem qv {G : Gt} (hG : Ac G) : Gd G 213 (AA 0 kO) := by
 refine gr (fn := Tryz.f213) (n := 2) rfl hG ?_
 rintro ⟨s, e, ⟨⟩⟩ hpre
 simp -implicitDefEqProofs only [Tryz.f213, go_sem, seval] at hpre ⊢
 with_reducible repeat' (first | apply ai | intro _ | ((first | apply s1 | apply s2 | apply s3 | apply s4) <;> intro hb <;> simp -implicitDefEqProofs only [hb, go_sem, seval] <;> try simp only [qz] at hb))
 all_goals (try simp only [maxLen] at *)
 all_goals first | rfl | omega | skip
 ·have e1 : (s.size : Int).toNat = s.size := tn _
  have e2 : ((s.size : Int) - e.size).toNat = s.size - e.size := by omega
  rw [e1, e2, ← A4]
  exact congrArg (fun b => T.v (.bool b)) (AP ⟨fun h => ⟨by omega, h⟩, fun h => h.2⟩)
 ·rw [AQ (fun h => by omega)]
def j4 : Ct := Aj (lc Ak (lc Ak (lc BU (lc BU l0)))) (fun p => p.2.1.size = 1 ∧ p.2.2.1 = 0 ∧ p.2.2.2.1 = -1 ∧ p.1.size ≤ 2000000) (fun p => .o true 1 ((Ie p.1 (UInt8.ofNat (AE p.2.1 0).toNat)).map AG))
section
attribute [local go_sem] kE kF Bh Ai List.map_replicate
set_option maxHeartbeats 1600000 in
theorem qO {G : Gt} (hG : Ac G) (hh : G.e 199 = AA 0 kE ∧ G.e 200 = AA 0 kF) : Gd G 177 (AA 0 j4) := by
 refine gr (fn := Tryz.f177) (n := 4) rfl hG ?_ (hs := fun _ _ => .deep _ _)
 rintro ⟨s, sep, sv, n, ⟨⟩⟩ hpre
 obtain ⟨h1, h2, h3, h4⟩ := hpre
 dsimp only at h1 h2 h3 h4
 subst h2 h3
 have hse : ¬ sep = ⟨#[]⟩ := by intro e; rw [e] at h1; cases h1
 have hc := Wc s (UInt8.ofNat (AE sep 0).toNat)
 have hl := GL s (UInt8.ofNat (AE sep 0).toNat)
 have hmin : ¬ ((s.size : Int) + 1 < (Lib.countByte (bl s) (UInt8.ofNat (AE sep 0).toNat) : Int) + 1) := by omega
 simp -implicitDefEqProofs only [Tryz.f177, hse, if_neg hmin, go_sem, hh, seval]
 with_reducible repeat' (first | apply ai | intro _ | ((first | apply s1 | apply s2 | apply s3 | apply s4) <;> intro hb <;> simp -implicitDefEqProofs only [hb, go_sem, hh, seval] <;> try simp only [qz] at hb))
 all_goals (try simp only [maxLen, tn] at *)
 all_goals first | rfl | omega | skip
 refine AC [] (ι := {z : List ByteArray × ByteArray // Ie s (UInt8.ofNat (AE sep 0).toNat) = z.1 ++ Ie z.2 (UInt8.ofNat (AE sep 0).toNat) ∧ z.2.size ≤ s.size}) (fun z => ⟨[(0, .t (.v (.string z.1.2))), (1, .t (.v (.string sep))), (2, .t (.v (.int .i64 0))), (3, .t (.v (.int .i64 (Lib.countByte (bl s) (UInt8.ofNat (AE sep 0).toNat))))), (9, .h 1031), (10, .t (.v (.int .i64 z.1.1.length)))], [(1031, some (.arr true 1 ((z.1.1 ++ List.replicate (Lib.countByte (bl s) (UInt8.ofNat (AE sep 0).toNat) + 1 - z.1.1.length) (⟨#[]⟩ : ByteArray)).map AG)))]⟩) (fun z => s.size + 1 - z.1.1.length) ⟨([], s), rfl, Nat.le_refl _⟩ rfl ?_ ?_
 ·simp -implicitDefEqProofs only [go_sem, hh, seval]
  try simp
  constructor <;> split <;> omega
 ·rintro ⟨⟨p, t⟩, hz, ht⟩
  dsimp only at hz ht
  have hcl : (Ie s (UInt8.ofNat (AE sep 0).toNat)).length = p.length + (Ie t (UInt8.ofNat (AE sep 0).toNat)).length := by rw [hz, List.length_append]
  rw [hl, GL] at hcl
  by_cases hlt : (p.length : Int) < Lib.countByte (bl s) (UInt8.ofNat (AE sep 0).toNat)
  ·rcases MZ (s := t) h1 with ⟨_, q, _⟩ | ⟨o, q1, q2, q3, q4⟩
   ·omega
   ·have q0 : ¬ (o : Int) < 0 := by omega
    simp -implicitDefEqProofs only [hlt, q1, q0, go_sem, hh, seval]
    obtain ⟨n, hn⟩ : ∃ n, Lib.countByte (bl s) (UInt8.ofNat (AE sep 0).toNat) + 1 - p.length = n + 1 := ⟨Lib.countByte (bl s) (UInt8.ofNat (AE sep 0).toNat) - p.length, by omega⟩
    have hn2 : n = Lib.countByte (bl s) (UInt8.ofNat (AE sep 0).toNat) - p.length := by omega
    have hs1 : ((o : Int) + sep.size).toNat = o + 1 := by omega
    with_reducible repeat' (first | apply ai | intro _ | ((first | apply s1 | apply s2 | apply s3 | apply s4) <;> intro hb <;> simp -implicitDefEqProofs only [hb, go_sem, hh, seval] <;> try simp only [qz] at hb))
    all_goals (try simp only [maxLen, tn, Int.add_zero, hn, f7, lm, List.length_append, List.length_replicate, hs1] at *)
    all_goals first | rfl | omega | skip
    refine ⟨⟨(p ++ [t.extract 0 o], t.extract (o + 1) t.size), ?_, ?_⟩, ?_, ?_⟩
    ·dsimp only; rw [hz, q3, List.append_assoc]; rfl
    ·dsimp only; rw [ByteArray.size_extract]; omega
    ·dsimp only; rw [List.length_append]; simp; omega
    ·have e2 : Lib.countByte (bl s) (UInt8.ofNat (AE sep 0).toNat) + 1 - (p ++ [t.extract 0 o]).length = n := by rw [List.length_append, hn2]; simp
     simp -implicitDefEqProofs only [e2, go_sem, hh, seval]
     try simp
  ·simp -implicitDefEqProofs only [hlt, go_sem, hh, seval]
   rcases MZ (s := t) h1 with ⟨_, _, q⟩ | ⟨o, q1, q2, q3, q4⟩
   ·have hn : Lib.countByte (bl s) (UInt8.ofNat (AE sep 0).toNat) + 1 - p.length = 0 + 1 := by omega
    rw [q] at hz
    with_reducible repeat' (first | apply ai | intro _ | ((first | apply s1 | apply s2 | apply s3 | apply s4) <;> intro hb <;> simp -implicitDefEqProofs only [hb, go_sem, hh, seval] <;> try simp only [qz] at hb))
    all_goals (try simp only [maxLen, tn, Int.add_zero, hn, f7, lm, List.length_append, List.length_replicate] at *)
    all_goals first | rfl | omega | (simp; done) | skip
    ·rw [hz, List.replicate_zero, List.append_nil, List.take_of_length_le]
     try simp
   ·omega
end
def bx (l : List Bool) : List AV := l.map fun b => .t (.v (.bool b))
def Qk (l : List Bool) : List T := l.map fun b => .v (.bool b)
def jM : List T → Option (List Bool)
 | [] => some []
 | .v (.bool b) :: r => (jM r).map (b :: ·)
 | _ => none
theorem Qj : ∀ l, jM (Qk l) = some l
 | [] => rfl
 | b :: l => by show (jM (Qk l)).map (b :: ·) = _; rw [Qj l]; rfl
theorem V8 : ∀ {c l}, jM c = some l → Qk l = c
 | [], _, h => by cases h; rfl
 | x :: c, l, h => by
   unfold jM at h
   split at h
   ·rename_i e; cases e
   ·rename_i e
    cases e
    cases hq : jM c with
    | none => rw [hq] at h; cases h
    | some l' => rw [hq] at h; cases h; rw [← V8 hq]; rfl
   ·cases h
def y8 : AV → Option (List Bool)
 | .t (.rop c) => jM c
 | _ => none
def ry : AD (List Bool) where
 enc l := .t (.rop (Qk l))
 dec := y8
 ed := fun l => Qj l
 de := fun x l h => by
  unfold y8 at h
  split at h
  ·rw [← V8 h]
  ·cases h
theorem JK {l : List Bool} : ry.dec (.t (.rop (Qk l))) = some l := Qj l
theorem JL {l : List Bool} : ry.enc l = .t (.rop (Qk l)) := rfl
theorem KK {l : List Bool} : (bx l).length = l.length := by simp [bx]
theorem SX {l : List Bool} : (Qk l).length = l.length := by simp [Qk]
def eg : List Value := List.replicate 256 (.bool false)
def V5 : List Bool := List.replicate 256 false
theorem Zk : AI Tryz.prog 199 = some ⟨.arr 256 4, 256, 256, eg⟩ := wW
theorem Se : eg.map DY = bx V5 := by simp [bx, eg, V5]; rfl
theorem SY : eg.all CQ = true := by decide
theorem Om : V5.length = 256 := rfl
theorem Oq : List.drop 256 (bx V5) = [] := rfl
theorem jO {l : List Bool} {k : Nat} {b : Bool} (h : k < l.length) : (bx l).take k ++ AV.t (.v (.bool b)) :: (bx l).drop (k + 1) = bx (l.set k b) := by
 unfold bx
 rw [List.set_eq_take_append_cons_drop, if_pos h]
 try simp
theorem bd {l : List Bool} {n : Nat} (h : l.length = n) : (bx l).take n = bx l := List.take_of_length_le (by rw [KK]; omega)
theorem Sc {s : AS} {n : Nat} : ∀ {l : List Bool}, BE (s.snapT (n + 1)) (bx l) = some (Qk l)
 | [] => rfl
 | b :: l => by
   have h := Sc (s := s) (n := n) (l := l)
   unfold bx Qk at h ⊢
   simp only [List.map_cons, BE, h, AS.snapT]
theorem bc {l : List Bool} {k : Nat} (h : k < l.length) : (Qk l).drop k = T.v (.bool (l.getD k false)) :: (Qk l).drop (k + 1) := by
 rw [List.drop_eq_getElem_cons (by rw [SX]; exact h)]
 congr 1
 simp [Qk, h]
theorem Sa {s : AS} : ∀ {l : List Bool}, ED s (bx l) (bx l)
 | [] => trivial
 | b :: l => ⟨by simp only [FP, Pm], Sa⟩
theorem SZ {s : AS} : ∀ {l : List Bool}, Bw s (bx l) (bx l) = []
 | [] => rfl
 | b :: l => by show Dc s (.t (.v (.bool b))) (.t (.v (.bool b))) ++ Bw s (bx l) (bx l) = []; rw [SZ]; rfl
theorem Sb {s : AS} : ∀ {l : List Bool}, CS s (bx l) (bx l) = []
 | [] => rfl
 | b :: l => by show Dw s (.t (.v (.bool b))) (.t (.v (.bool b))) ++ CS s (bx l) (bx l) = []; rw [Sb]; rfl
theorem MC {d k : Nat} {s : AS} : ∀ {l : List Bool}, AX d k (bx l) s = ⟨bx l, s, k⟩
 | [] => rfl
 | b :: l => by
   show yw.mk (AV.t (.v (.bool b)) :: (AX d k (bx l) s).avs) (AX d k (bx l) s).s (AX d k (bx l) s).k = _
   rw [MC]; rfl
theorem V9 {k : Nat} : ∀ {l : List Bool}, AV.hasL k (bx l) = false
 | [] => rfl
 | b :: l => by show (false || AV.hasL k (bx l)) = false; rw [V9]; rfl
theorem Ot {k : Nat} : ∀ {l : List Bool}, (bx l).map (AV.drop k) = bx l
 | [] => rfl
 | b :: l => by show AV.t (.v (.bool b)) :: (bx l).map (AV.drop k) = _; rw [Ot]; rfl
def GS (cs : ByteArray) : Nat → List Bool
 | 0 => V5
 | n + 1 => (GS cs n).set (AE cs n).toNat true
theorem LE (cs : ByteArray) : ∀ n, (GS cs n).length = 256
 | 0 => rfl
 | n + 1 => by rw [GS, List.length_set]; exact LE cs n
def Jo (l : List Bool) (s : ByteArray) : ByteArray :=
 if h : s.size = 0 then s else bif l.getD (AE s (s.size - 1)).toNat false then Jo l (s.extract 0 (s.size - 1)) else s
termination_by s.size
decreasing_by rw [ByteArray.size_extract]; omega
def OJ (l : List Bool) (s : ByteArray) : ByteArray :=
 if h : s.size = 0 then s else bif l.getD (AE s 0).toNat false then OJ l (s.extract 1 s.size) else s
termination_by s.size
decreasing_by rw [ByteArray.size_extract]; omega
theorem Tl {l : List Bool} : Jo l ⟨#[]⟩ = ⟨#[]⟩ := by rw [Jo]; exact dif_pos rfl
theorem Ti {l : List Bool} : OJ l ⟨#[]⟩ = ⟨#[]⟩ := by rw [OJ]; exact dif_pos rfl
theorem Ze (l : List Bool) (s : ByteArray) : (Jo l s).size ≤ s.size := by
 rw [Jo]
 split
 ·exact Nat.le_refl _
 ·cases l.getD (AE s (s.size - 1)).toNat false
  ·exact Nat.le_refl _
  ·have := Ze l (s.extract 0 (s.size - 1))
   rw [ByteArray.size_extract] at this
   show (Jo l (s.extract 0 (s.size - 1))).size ≤ _
   omega
termination_by s.size
decreasing_by rw [ByteArray.size_extract]; omega
def WR : Ct := Aj (lc ry (lc iC l0)) (fun p => p.1.length = 256 ∧ 0 ≤ p.2.1 ∧ p.2.1 < 256) (fun p => .t (.v (.bool (p.1.getD p.2.1.toNat false))))
section
attribute [local go_sem] Zk JK JL SX
theorem qm {G : Gt} (hG : Ac G) : Gd G 201 (AA 0 WR) := by
 refine gr (fn := Tryz.f201) (n := 2) rfl hG ?_
 rintro ⟨l, c, ⟨⟩⟩ hpre
 simp -implicitDefEqProofs only [Tryz.f201, go_sem, Nat.reduceAdd, Nat.reduceMul, Nat.reduceLeDiff, Nat.reduceEqDiff, reduceCtorEq, Nat.reduceSub, Int.reduceNeg, Nat.reduceMod, Nat.reduceBEq, Nat.reduceLT] at hpre ⊢
 have hk : c.toNat < l.length := by omega
 simp -implicitDefEqProofs only [bc hk, Nat.mul_one, hpre.1, go_sem, Nat.reduceAdd, Nat.reduceMul, Nat.reduceLeDiff, Nat.reduceEqDiff, reduceCtorEq, Nat.reduceSub, Int.reduceNeg, Nat.reduceMod, Nat.reduceBEq, Nat.reduceLT]
 with_reducible repeat' (first | apply ai | intro _ | ((first | apply s1 | apply s2 | apply s3 | apply s4) <;> intro hb <;> simp -implicitDefEqProofs only [hb, go_sem, Nat.reduceAdd, Nat.reduceMul, Nat.reduceLeDiff, Nat.reduceEqDiff, reduceCtorEq, Nat.reduceSub, Int.reduceNeg, Nat.reduceMod, Nat.reduceBEq, Nat.reduceLT] <;> try simp only [qz] at hb))
 all_goals first | rfl | omega | skip
 all_goals trace_state
end
def j7 : Ct := Aj (lc Ak (lc ry l0)) (fun p => p.2.1.length = 256 ∧ p.1.size ≤ 2000000) (fun p => .t (.v (.string (Jo p.2.1 p.1))))
section
attribute [local go_sem] WR JK JL Bool.not_true Bool.not_false
theorem qR {G : Gt} (hG : Ac G) (hh : G.e 201 = AA 0 WR) : Gd G 182 (AA 0 j7) := by
 refine gr (fn := Tryz.f182) (n := 2) rfl hG ?_
 rintro ⟨s, l, ⟨⟩⟩ hpre
 simp -implicitDefEqProofs only [Tryz.f182, go_sem, hh, Nat.reduceAdd, Nat.reduceMul, Nat.reduceLeDiff, Nat.reduceEqDiff, reduceCtorEq, Nat.reduceSub, Int.reduceNeg, Nat.reduceMod, Nat.reduceBEq, Nat.reduceLT] at hpre ⊢
 refine AC [] (ι := {t : ByteArray // Jo l t = Jo l s ∧ t.size ≤ s.size}) (fun p => ⟨[(0, .t (.v (.string p.1))), (1, .t (.rop (Qk l)))], []⟩) (fun p => p.1.size) ⟨s, rfl, Nat.le_refl _⟩ rfl ?_ ?_
 ·simp -implicitDefEqProofs only [go_sem, hh, Nat.reduceAdd, Nat.reduceMul, Nat.reduceLeDiff, Nat.reduceEqDiff, reduceCtorEq, Nat.reduceSub, Int.reduceNeg, Nat.reduceMod, Nat.reduceBEq, Nat.reduceLT]
  try simp
 ·rintro ⟨t, ht, hts⟩
  by_cases h0 : t.size = 0
  ·have h1 : (t.size : Int) = 0 := by omega
   simp -implicitDefEqProofs only [h1, go_sem, hh, Nat.reduceAdd, Nat.reduceMul, Nat.reduceLeDiff, Nat.reduceEqDiff, reduceCtorEq, Nat.reduceSub, Int.reduceNeg, Nat.reduceMod, Nat.reduceBEq, Nat.reduceLT]
   with_reducible repeat' (first | apply ai | intro _ | ((first | apply s1 | apply s2 | apply s3 | apply s4) <;> intro hb <;> simp -implicitDefEqProofs only [hb, go_sem, hh, Nat.reduceAdd, Nat.reduceMul, Nat.reduceLeDiff, Nat.reduceEqDiff, reduceCtorEq, Nat.reduceSub, Int.reduceNeg, Nat.reduceMod, Nat.reduceBEq, Nat.reduceLT] <;> try simp only [qz] at hb))
   all_goals first | rfl | omega | skip
   rw [← ht, Jo, dif_pos h0]
  ·have h1 : (t.size : Int) > 0 := by omega
   have hbr := A8 t (t.size - 1)
   have hr : Jo l t = bif l.getD (AE t (t.size - 1)).toNat false then Jo l (t.extract 0 (t.size - 1)) else t := by
    rw [Jo, dif_neg h0]
   have e1 : ((t.size : Int) - 1).toNat = (t.size - 1) := by omega
   cases hb : l.getD (AE t (((t.size : Int) - 1).toNat)).toNat false
   ·simp -implicitDefEqProofs only [h1, hb, go_sem, hh, Nat.reduceAdd, Nat.reduceMul, Nat.reduceLeDiff, Nat.reduceEqDiff, reduceCtorEq, Nat.reduceSub, Int.reduceNeg, Nat.reduceMod, Nat.reduceBEq, Nat.reduceLT]
    with_reducible repeat' (first | apply ai | intro _ | ((first | apply s1 | apply s2 | apply s3 | apply s4) <;> intro hb <;> simp -implicitDefEqProofs only [hb, go_sem, hh, Nat.reduceAdd, Nat.reduceMul, Nat.reduceLeDiff, Nat.reduceEqDiff, reduceCtorEq, Nat.reduceSub, Int.reduceNeg, Nat.reduceMod, Nat.reduceBEq, Nat.reduceLT] <;> try simp only [qz] at hb))
    all_goals first | rfl | omega | skip
    all_goals rw [e1] at *
    all_goals first | omega | (rw [← ht, hr, hb]; rfl)
   ·simp -implicitDefEqProofs only [h1, hb, go_sem, hh, Nat.reduceAdd, Nat.reduceMul, Nat.reduceLeDiff, Nat.reduceEqDiff, reduceCtorEq, Nat.reduceSub, Int.reduceNeg, Nat.reduceMod, Nat.reduceBEq, Nat.reduceLT]
    with_reducible repeat' (first | apply ai | intro _ | ((first | apply s1 | apply s2 | apply s3 | apply s4) <;> intro hb <;> simp -implicitDefEqProofs only [hb, go_sem, hh, Nat.reduceAdd, Nat.reduceMul, Nat.reduceLeDiff, Nat.reduceEqDiff, reduceCtorEq, Nat.reduceSub, Int.reduceNeg, Nat.reduceMod, Nat.reduceBEq, Nat.reduceLT] <;> try simp only [qz] at hb))
    all_goals first | rfl | omega | skip
    all_goals rw [e1] at *
    all_goals first | omega | skip
    refine ⟨⟨t.extract 0 (t.size - 1), ?_, ?_⟩, ?_, ?_⟩
    ·rw [← ht, hr, hb]; rfl
    ·rw [ByteArray.size_extract]; omega
    ·show (t.extract 0 (t.size - 1)).size < t.size
     rw [ByteArray.size_extract]; omega
    ·simp -implicitDefEqProofs only [go_sem, hh, Nat.reduceAdd, Nat.reduceMul, Nat.reduceLeDiff, Nat.reduceEqDiff, reduceCtorEq, Nat.reduceSub, Int.reduceNeg, Nat.reduceMod, Nat.reduceBEq, Nat.reduceLT]
     try simp [e1]
end
def j6 : Ct := Aj (lc Ak (lc ry l0)) (fun p => p.2.1.length = 256 ∧ p.1.size ≤ 2000000) (fun p => .t (.v (.string (OJ p.2.1 p.1))))
section
attribute [local go_sem] WR JK JL Bool.not_true Bool.not_false
theorem qQ {G : Gt} (hG : Ac G) (hh : G.e 201 = AA 0 WR) : Gd G 181 (AA 0 j6) := by
 refine gr (fn := Tryz.f181) (n := 2) rfl hG ?_
 rintro ⟨s, l, ⟨⟩⟩ hpre
 simp -implicitDefEqProofs only [Tryz.f181, go_sem, hh, Nat.reduceAdd, Nat.reduceMul, Nat.reduceLeDiff, Nat.reduceEqDiff, reduceCtorEq, Nat.reduceSub, Int.reduceNeg, Nat.reduceMod, Nat.reduceBEq, Nat.reduceLT] at hpre ⊢
 refine AC [] (ι := {t : ByteArray // OJ l t = OJ l s ∧ t.size ≤ s.size}) (fun p => ⟨[(0, .t (.v (.string p.1))), (1, .t (.rop (Qk l)))], []⟩) (fun p => p.1.size) ⟨s, rfl, Nat.le_refl _⟩ rfl ?_ ?_
 ·simp -implicitDefEqProofs only [go_sem, hh, Nat.reduceAdd, Nat.reduceMul, Nat.reduceLeDiff, Nat.reduceEqDiff, reduceCtorEq, Nat.reduceSub, Int.reduceNeg, Nat.reduceMod, Nat.reduceBEq, Nat.reduceLT]
  try simp
 ·rintro ⟨t, ht, hts⟩
  by_cases h0 : t.size = 0
  ·have h1 : (t.size : Int) = 0 := by omega
   simp -implicitDefEqProofs only [h1, go_sem, hh, Nat.reduceAdd, Nat.reduceMul, Nat.reduceLeDiff, Nat.reduceEqDiff, reduceCtorEq, Nat.reduceSub, Int.reduceNeg, Nat.reduceMod, Nat.reduceBEq, Nat.reduceLT]
   with_reducible repeat' (first | apply ai | intro _ | ((first | apply s1 | apply s2 | apply s3 | apply s4) <;> intro hb <;> simp -implicitDefEqProofs only [hb, go_sem, hh, Nat.reduceAdd, Nat.reduceMul, Nat.reduceLeDiff, Nat.reduceEqDiff, reduceCtorEq, Nat.reduceSub, Int.reduceNeg, Nat.reduceMod, Nat.reduceBEq, Nat.reduceLT] <;> try simp only [qz] at hb))
   all_goals first | rfl | omega | skip
   rw [← ht, OJ, dif_pos h0]
  ·have h1 : (t.size : Int) > 0 := by omega
   have hbr := A8 t 0
   have hr : OJ l t = bif l.getD (AE t 0).toNat false then OJ l (t.extract 1 t.size) else t := by
    rw [OJ, dif_neg h0]
   have e1 : Int.toNat 0 = 0 := by omega
   cases hb : l.getD (AE t (Int.toNat 0)).toNat false
   ·simp -implicitDefEqProofs only [h1, hb, go_sem, hh, Nat.reduceAdd, Nat.reduceMul, Nat.reduceLeDiff, Nat.reduceEqDiff, reduceCtorEq, Nat.reduceSub, Int.reduceNeg, Nat.reduceMod, Nat.reduceBEq, Nat.reduceLT]
    with_reducible repeat' (first | apply ai | intro _ | ((first | apply s1 | apply s2 | apply s3 | apply s4) <;> intro hb <;> simp -implicitDefEqProofs only [hb, go_sem, hh, Nat.reduceAdd, Nat.reduceMul, Nat.reduceLeDiff, Nat.reduceEqDiff, reduceCtorEq, Nat.reduceSub, Int.reduceNeg, Nat.reduceMod, Nat.reduceBEq, Nat.reduceLT] <;> try simp only [qz] at hb))
    all_goals first | rfl | omega | skip
    all_goals rw [e1] at *
    all_goals first | omega | (rw [← ht, hr, hb]; rfl)
   ·simp -implicitDefEqProofs only [h1, hb, go_sem, hh, Nat.reduceAdd, Nat.reduceMul, Nat.reduceLeDiff, Nat.reduceEqDiff, reduceCtorEq, Nat.reduceSub, Int.reduceNeg, Nat.reduceMod, Nat.reduceBEq, Nat.reduceLT]
    with_reducible repeat' (first | apply ai | intro _ | ((first | apply s1 | apply s2 | apply s3 | apply s4) <;> intro hb <;> simp -implicitDefEqProofs only [hb, go_sem, hh, Nat.reduceAdd, Nat.reduceMul, Nat.reduceLeDiff, Nat.reduceEqDiff, reduceCtorEq, Nat.reduceSub, Int.reduceNeg, Nat.reduceMod, Nat.reduceBEq, Nat.reduceLT] <;> try simp only [qz] at hb))
    all_goals first | rfl | omega | skip
    all_goals rw [e1] at *
    all_goals first | omega | skip
    refine ⟨⟨t.extract 1 t.size, ?_, ?_⟩, ?_, ?_⟩
    ·rw [← ht, hr, hb]; rfl
    ·rw [ByteArray.size_extract]; omega
    ·show (t.extract 1 t.size).size < t.size
     rw [ByteArray.size_extract]; omega
    ·simp -implicitDefEqProofs only [go_sem, hh, Nat.reduceAdd, Nat.reduceMul, Nat.reduceLeDiff, Nat.reduceEqDiff, reduceCtorEq, Nat.reduceSub, Int.reduceNeg, Nat.reduceMod, Nat.reduceBEq, Nat.reduceLT]
     try simp [e1]
end
def j5 : Ct := Aj (lc Ak l0) (fun p => p.1.size ≤ 1000 ∧ ∀ j, j < p.1.size → AE p.1 j < 128) (fun p => .tup [.agg (bx (GS p.1 p.1.size)), .t (.v (.bool true))])
section
attribute [local go_sem] Zk Se SY
theorem qP {G : Gt} (hG : Ac G) : Gd G 180 (AA 0 j5) := by
 refine gr (fn := Tryz.f180) (n := 1) rfl hG ?_ (hs := fun _ _ => .tup _ (by intro c hc; simp only [List.mem_cons, List.not_mem_nil, or_false] at hc; rcases hc with rfl | rfl <;> first | exact .v _ | exact .agg _ (by intro c hc; simp only [bx, List.mem_map] at hc; obtain ⟨b, _, rfl⟩ := hc; exact .v _)))
 rintro ⟨cs, ⟨⟩⟩ hpre
 simp -implicitDefEqProofs only [Tryz.f180, go_sem, Nat.reduceAdd, Nat.reduceMul, Nat.reduceLeDiff, Nat.reduceEqDiff, reduceCtorEq, Nat.reduceSub, Int.reduceNeg, Nat.reduceMod, Nat.reduceBEq, Nat.reduceLT] at hpre ⊢
 with_reducible repeat' (first | apply ai | intro _ | ((first | apply s1 | apply s2 | apply s3 | apply s4) <;> intro hb <;> simp -implicitDefEqProofs only [hb, go_sem, Nat.reduceAdd, Nat.reduceMul, Nat.reduceLeDiff, Nat.reduceEqDiff, reduceCtorEq, Nat.reduceSub, Int.reduceNeg, Nat.reduceMod, Nat.reduceBEq, Nat.reduceLT] <;> try simp only [qz] at hb))
 all_goals first | rfl | omega | skip
 refine AC [] (ι := {i : Nat // i ≤ cs.size}) (fun p => ⟨[(0, .t (.v (.string cs))), (2, .pb 1002 0), (4, .t (.v (.int .i64 p.1)))], [(1002, some (.box (bx (GS cs p.1))))]⟩) (fun p => cs.size - p.1) ⟨0, Nat.zero_le _⟩ rfl ?_ ?_
 ·simp -implicitDefEqProofs only [go_sem, Nat.reduceAdd, Nat.reduceMul, Nat.reduceLeDiff, Nat.reduceEqDiff, reduceCtorEq, Nat.reduceSub, Int.reduceNeg, Nat.reduceMod, Nat.reduceBEq, Nat.reduceLT]
  exact ⟨rfl, rfl⟩
 ·rintro ⟨i, hi⟩
  have hbr := A8 cs i
  have hlen := LE cs i
  by_cases hlt : (i : Int) < cs.size
  ·have h128 := hpre.2 i (by omega)
   have h1 : ¬ AE cs (i : Int).toNat ≥ 128 := by rw [tn]; omega
   have h2 : (AE cs (i : Int).toNat).toNat * 1 < (GS cs i).length := by rw [tn]; omega
   simp -implicitDefEqProofs only [hlt, h1, Nat.zero_add, go_sem, Nat.reduceAdd, Nat.reduceMul, Nat.reduceLeDiff, Nat.reduceEqDiff, reduceCtorEq, Nat.reduceSub, Int.reduceNeg, Nat.reduceMod, Nat.reduceBEq, Nat.reduceLT]
   with_reducible repeat' (first | apply ai | intro _ | ((first | apply s1 | apply s2 | apply s3 | apply s4) <;> intro hb <;> simp -implicitDefEqProofs only [hb, go_sem, Nat.reduceAdd, Nat.reduceMul, Nat.reduceLeDiff, Nat.reduceEqDiff, reduceCtorEq, Nat.reduceSub, Int.reduceNeg, Nat.reduceMod, Nat.reduceBEq, Nat.reduceLT] <;> try simp only [qz] at hb))
   all_goals (try rw [tn])
   all_goals first | rfl | omega | (simp only [KK, hlen]; omega) | skip
   refine ⟨⟨i + 1, by omega⟩, by dsimp only; omega, ?_⟩
   simp -implicitDefEqProofs only [go_sem, Nat.reduceAdd, Nat.reduceMul, Nat.reduceLeDiff, Nat.reduceEqDiff, reduceCtorEq, Nat.reduceSub, Int.reduceNeg, Nat.reduceMod, Nat.reduceBEq, Nat.reduceLT]
   refine ⟨by simp, ?_⟩
   refine congrArg Ob.box ?_
   rw [GS]
   simp only [tn, Nat.mul_one]
   exact jO (by omega)
  ·have e1 : i = cs.size := by omega
   have e2 : List.drop 256 (bx (GS cs i)) = [] := List.drop_eq_nil_of_le (by rw [KK, hlen]; exact Nat.le_refl _)
   have e3 : decide (256 ≤ 256) = true := rfl
   simp -implicitDefEqProofs only [hlt, bd hlen, KK, hlen, e2, List.append_nil, Nat.zero_add, e3, cond_true, go_sem, Nat.reduceAdd, Nat.reduceMul, Nat.reduceLeDiff, Nat.reduceEqDiff, reduceCtorEq, Nat.reduceSub, Int.reduceNeg, Nat.reduceMod, Nat.reduceBEq, Nat.reduceLT]
   subst e1
   with_reducible repeat' (first | apply ai | intro _ | ((first | apply s1 | apply s2 | apply s3 | apply s4) <;> intro hb <;> simp -implicitDefEqProofs only [hb, go_sem, Nat.reduceAdd, Nat.reduceMul, Nat.reduceLeDiff, Nat.reduceEqDiff, reduceCtorEq, Nat.reduceSub, Int.reduceNeg, Nat.reduceMod, Nat.reduceBEq, Nat.reduceLT] <;> try simp only [qz] at hb))
   all_goals first
    | rfl
    | omega
    | exact Sa
    | (rw [SZ]; exact .nil)
    | (rw [Sb]; simp; done)
    | skip
   all_goals trace_state
end
def ju : Ct := Aj (lc Ak (lc Ak l0)) (fun p => p.2.1.size ≤ 1000 ∧ 2 ≤ p.2.1.size ∧ p.1.size ≤ 2000000 ∧ ∀ j, j < p.2.1.size → AE p.2.1 j < 128) (fun p => .t (.v (.string (OJ (GS p.2.1 p.2.1.size) (Jo (GS p.2.1 p.2.1.size) p.1)))))
section
attribute [local go_sem] j5 j6 j7 Zk Se SY Oq Om JK JL
theorem p6 {G : Gt} (hG : Ac G) (hh : G.e 180 = AA 0 j5 ∧ G.e 181 = AA 0 j6 ∧ G.e 182 = AA 0 j7) : Gd G 154 (AA 0 ju) := by
 refine gr (fn := Tryz.f154) (n := 2) rfl hG ?_
 rintro ⟨s, cs, ⟨⟩⟩ hpre
 simp -implicitDefEqProofs only [Tryz.f154, go_sem, hh, Nat.reduceAdd, Nat.reduceMul, Nat.reduceLeDiff, Nat.reduceEqDiff, reduceCtorEq, Nat.reduceSub, Int.reduceNeg, Nat.reduceMod, Nat.reduceBEq, Nat.reduceLT] at hpre ⊢
 have hc : ¬ cs = ⟨#[]⟩ := by intro e; rw [e] at hpre; exact absurd hpre.2.1 (by decide)
 have h1 : ¬ (cs.size : Int) = 1 := by omega
 have hlen := LE cs cs.size
 have htr : (Jo (GS cs cs.size) s).size ≤ s.size := Ze _ s
 by_cases hs : s = ⟨#[]⟩
 ·simp -implicitDefEqProofs only [hs, go_sem, hh, Nat.reduceAdd, Nat.reduceMul, Nat.reduceLeDiff, Nat.reduceEqDiff, reduceCtorEq, Nat.reduceSub, Int.reduceNeg, Nat.reduceMod, Nat.reduceBEq, Nat.reduceLT]
  with_reducible repeat' (first | apply ai | intro _ | ((first | apply s1 | apply s2 | apply s3 | apply s4) <;> intro hb <;> simp -implicitDefEqProofs only [hb, go_sem, hh, Nat.reduceAdd, Nat.reduceMul, Nat.reduceLeDiff, Nat.reduceEqDiff, reduceCtorEq, Nat.reduceSub, Int.reduceNeg, Nat.reduceMod, Nat.reduceBEq, Nat.reduceLT] <;> try simp only [qz] at hb))
  all_goals first | rfl | omega | skip
  all_goals (rw [Tl, Ti])
 ·simp -implicitDefEqProofs only [hs, hc, h1, MC, V9, Ot, KK, hlen, Om, Oq, Sc, List.append_nil, List.nil_append, Nat.zero_add, go_sem, hh, Nat.reduceAdd, Nat.reduceMul, Nat.reduceLeDiff, Nat.reduceEqDiff, reduceCtorEq, Nat.reduceSub, Int.reduceNeg, Nat.reduceMod, Nat.reduceBEq, Nat.reduceLT]
  with_reducible repeat' (first | apply ai | intro _ | ((first | apply s1 | apply s2 | apply s3 | apply s4) <;> intro hb <;> simp -implicitDefEqProofs only [hb, go_sem, hh, Nat.reduceAdd, Nat.reduceMul, Nat.reduceLeDiff, Nat.reduceEqDiff, reduceCtorEq, Nat.reduceSub, Int.reduceNeg, Nat.reduceMod, Nat.reduceBEq, Nat.reduceLT] <;> try simp only [qz] at hb))
  all_goals first | rfl | omega | exact hpre.2.2.2 | exact hpre.2.2.2 _ (by assumption) | skip
  all_goals trace_state
end
theorem gc {s : ByteArray} (h : s.size = 0) : s = ⟨#[]⟩ := by
 have : bl s = [] := List.eq_nil_of_length_eq_zero (by rw [Br]; exact h)
 exact C5 this
theorem Gq {s : ByteArray} {a b j : Nat} (h : a + j < b) : AE (s.extract a b) j = AE s (a + j) := by
 rw [CE, CE, BS]
 congr 2
 simp only [List.getD_eq_getElem?_getD]
 rw [List.getElem?_take_of_lt (by omega), List.getElem?_drop]
section
variable {l : List Bool}
theorem Zf {s : ByteArray} (h : s.size ≠ 0) : Jo l s = bif l.getD (AE s (s.size - 1)).toNat false then Jo l (s.extract 0 (s.size - 1)) else s := by rw [Jo, dif_neg h]
theorem og {s : ByteArray} (h : s.size ≠ 0) : OJ l s = bif l.getD (AE s 0).toNat false then OJ l (s.extract 1 s.size) else s := by rw [OJ, dif_neg h]
theorem Tj {s : ByteArray} (h : ∀ j, j < s.size → l.getD (AE s j).toNat false = true) : Jo l s = ⟨#[]⟩ := by
 by_cases h0 : s.size = 0
 ·rw [gc h0, Tl]
 ·rw [Zf h0, h (s.size - 1) (by omega), cond_true]
  refine Tj fun j hj => ?_
  rw [ByteArray.size_extract] at hj
  rw [Gq (by omega), Nat.zero_add]
  exact h j (by omega)
termination_by s.size
decreasing_by rw [ByteArray.size_extract]; omega
theorem Th {s : ByteArray} (h : OJ l s = ⟨#[]⟩) : ∀ j, j < s.size → l.getD (AE s j).toNat false = true := by
 intro j hj
 have h0 : s.size ≠ 0 := by omega
 rw [og h0] at h
 cases hb : l.getD (AE s 0).toNat false
 ·rw [hb, cond_false] at h
  rw [h] at hj
  cases hj
 ·rw [hb, cond_true] at h
  by_cases hj0 : j = 0
  ·rw [hj0]; exact hb
  ·have := Th h (j - 1) (by rw [ByteArray.size_extract]; omega)
   rw [Gq (by omega)] at this
   rw [show 1 + (j - 1) = j by omega] at this
   exact this
termination_by s.size
decreasing_by rw [ByteArray.size_extract]; omega
theorem Tk {s : ByteArray} (h : ∀ j, j < (Jo l s).size → l.getD (AE (Jo l s) j).toNat false = true) : ∀ j, j < s.size → l.getD (AE s j).toNat false = true := by
 intro j hj
 have h0 : s.size ≠ 0 := by omega
 rw [Zf h0] at h
 cases hb : l.getD (AE s (s.size - 1)).toNat false
 ·rw [hb, cond_false] at h
  exact h j hj
 ·rw [hb, cond_true] at h
  by_cases hj0 : j = s.size - 1
  ·rw [hj0]; exact hb
  ·have := Tk h j (by rw [ByteArray.size_extract]; omega)
   rw [Gq (by omega), Nat.zero_add] at this
   exact this
termination_by s.size
decreasing_by rw [ByteArray.size_extract]; omega
theorem ol (s : ByteArray) : OJ l (Jo l s) = ⟨#[]⟩ ↔ ∀ j, j < s.size → l.getD (AE s j).toNat false = true :=
 ⟨fun h => Tk (Th h), fun h => by rw [Tj h, Ti]⟩
end
def rp : ByteArray := ⟨#[97, 98, 99, 100, 101, 102, 103, 104, 105, 106, 107, 108, 109, 110, 111, 112, 113, 114, 115, 116, 117, 118, 119, 120, 121, 122, 48, 49, 50, 51, 52, 53, 54, 55, 56, 57]⟩
theorem c8 : ∀ k : Nat, k < 256 → (GS rp 36).getD k false = ((Nat.ble 97 k && Nat.ble k 122) || (Nat.ble 48 k && Nat.ble k 57)) := by decide +kernel
theorem c9 (s : ByteArray) : OJ (GS rp 36) (Jo (GS rp 36) s) = ⟨#[]⟩ ↔ ∀ j, j < s.size → Ki (AE s j) := by
 rw [ol]
 refine forall_congr' fun j => imp_congr_right fun _ => ?_
 have h := A8 s j
 rw [c8 _ (by omega)]
 simp only [Bool.or_eq_true, Bool.and_eq_true, Nat.ble_eq]
 unfold Ki
 omega
theorem Qh (a b : ByteArray) : bl (a ++ b) = bl a ++ bl b := by
 unfold bl; rw [ByteArray.data_append, Array.toList_append]
theorem xw : UInt8.ofNat (AE ⟨#[46]⟩ 0).toNat = 46 := rfl
theorem dA : ∀ j, j < 36 → AE rp j < 128 := by decide +kernel
def jr : Ct := Aj (lc Ak (lc Ak l0)) (fun p => p.2.1.size = 1 ∧ p.1.size ≤ 2000000) (fun p => .o true 1 ((Ie p.1 (UInt8.ofNat (AE p.2.1 0).toNat)).map AG))
section
attribute [local go_sem] j4
theorem py {G : Gt} (hG : Ac G) (hh : G.e 177 = AA 0 j4) : Gd G 150 (AA 0 jr) := by
 refine gr (fn := Tryz.f150) (n := 2) rfl hG ?_ (hs := fun _ _ => .deep _ _)
 rintro ⟨s, sep, ⟨⟩⟩ hpre
 simp -implicitDefEqProofs only [Tryz.f150, go_sem, hh, seval] at hpre ⊢
 with_reducible repeat' (first | apply ai | intro _ | ((first | apply s1 | apply s2 | apply s3 | apply s4) <;> intro hb <;> simp -implicitDefEqProofs only [hb, go_sem, hh, seval] <;> try simp only [qz] at hb))
 all_goals first | rfl | omega | (simp; done) | skip
end
def WX : Ct := Aj (lc BU (lc BU (lc BU l0))) (fun p => True) (fun p => .t (.v (.bool (BA (p.2.1 ≤ p.1 ∧ p.1 ≤ p.2.2.1)))))
theorem tp {G : Gt} (hG : Ac G) : Gd G 27 (AA 0 WX) := by
 refine gr (fn := Tryz.f27) (n := 3) rfl hG ?_
 rintro ⟨n, a, b, ⟨⟩⟩ hpre
 simp -implicitDefEqProofs only [Tryz.f27, go_sem, seval] at hpre ⊢
 with_reducible repeat' (first | apply ai | intro _ | ((first | apply s1 | apply s2 | apply s3 | apply s4) <;> intro hb <;> simp -implicitDefEqProofs only [hb, go_sem, seval] <;> try simp only [qz] at hb))
 all_goals first | rfl | omega | skip
 all_goals first
  | (rw [A4]; simp only [*]; done)
  | (rw [A4]; simp [*])
def jS : Ct := Aj (lc Ak l0) (fun p => p.1.size ≤ 2000000) (fun p => .t (.v (.bool (BA (H0 p.1)))))
theorem pE {G : Gt} (hG : Ac G) : Gd G 105 (AA 0 jS) := by
 refine gr (fn := Tryz.f105) (n := 1) rfl hG ?_
 rintro ⟨s, ⟨⟩⟩ hpre
 simp -implicitDefEqProofs only [Tryz.f105, go_sem, seval] at hpre ⊢
 with_reducible repeat' (first | apply ai | intro _ | ((first | apply s1 | apply s2 | apply s3 | apply s4) <;> intro hb <;> simp -implicitDefEqProofs only [hb, go_sem, seval] <;> try simp only [qz] at hb))
 all_goals first | rfl | omega | skip
 refine AC [] (ι := {i : Nat // i ≤ s.size ∧ ∀ j, j < i → 32 ≤ AE s j ∧ AE s j ≤ 126}) (fun p => ⟨[(0, .t (.v (.string s))), (5, .t (.v (.int .i64 s.size))), (6, .t (.v (.int .i64 p.1)))], []⟩) (fun p => s.size - p.1) ⟨0, Nat.zero_le _, fun j hj => absurd hj (Nat.not_lt_zero _)⟩ rfl ?_ ?_
 ·simp -implicitDefEqProofs only [go_sem, seval]
  try simp
 ·rintro ⟨i, hi, hall⟩
  by_cases hlt : (i : Int) < s.size
  ·by_cases h1 : AE s (i : Int).toNat < 32
   ·simp -implicitDefEqProofs only [hlt, h1, go_sem, seval]
    with_reducible repeat' (first | apply ai | intro _ | ((first | apply s1 | apply s2 | apply s3 | apply s4) <;> intro hb <;> simp -implicitDefEqProofs only [hb, go_sem, seval] <;> try simp only [qz] at hb))
    all_goals (try simp only [maxLen, tn] at *)
    all_goals first | rfl | omega | skip
    rw [AQ (fun h => by have := (h.1 i (by omega)).1; omega)]
   ·by_cases h2 : AE s (i : Int).toNat > 126
    ·simp -implicitDefEqProofs only [hlt, h1, h2, go_sem, seval]
     with_reducible repeat' (first | apply ai | intro _ | ((first | apply s1 | apply s2 | apply s3 | apply s4) <;> intro hb <;> simp -implicitDefEqProofs only [hb, go_sem, seval] <;> try simp only [qz] at hb))
     all_goals (try simp only [maxLen, tn] at *)
     all_goals first | rfl | omega | skip
     rw [AQ (fun h => by have := (h.1 i (by omega)).2; omega)]
    ·simp -implicitDefEqProofs only [hlt, h1, h2, go_sem, seval]
     with_reducible repeat' (first | apply ai | intro _ | ((first | apply s1 | apply s2 | apply s3 | apply s4) <;> intro hb <;> simp -implicitDefEqProofs only [hb, go_sem, seval] <;> try simp only [qz] at hb))
     all_goals (try simp only [maxLen, tn] at *)
     all_goals first | rfl | omega | skip
     refine ⟨⟨i + 1, by omega, fun j hj => ?_⟩, by dsimp only; omega, ?_⟩
     ·by_cases e : j = i
      ·subst e; omega
      ·exact hall j (by omega)
     ·simp -implicitDefEqProofs only [go_sem, seval]
      try simp
  ·simp -implicitDefEqProofs only [hlt, go_sem, seval]
   with_reducible repeat' (first | apply ai | intro _ | ((first | apply s1 | apply s2 | apply s3 | apply s4) <;> intro hb <;> simp -implicitDefEqProofs only [hb, go_sem, seval] <;> try simp only [qz] at hb))
   all_goals (try simp only [maxLen, tn] at *)
   all_goals first | rfl | omega | skip
   rw [← A4, AP]
   exact ⟨fun h => ⟨fun j hj => hall j (by omega), by omega⟩, fun h => by have := h.2; omega⟩
def WC : Ct := Aj (lc Ak l0) (fun p => True) (fun p => .t (.v (.bool (BA (SC p.1)))))
section
attribute [local go_sem] WX ju AK AM
theorem pF {G : Gt} (hG : Ac G) (hh : G.e 27 = AA 0 WX ∧ G.e 154 = AA 0 ju) : Gd G 106 (AA 0 WC) := by
 refine gr (fn := Tryz.f106) (n := 1) rfl hG ?_
 rintro ⟨s, ⟨⟩⟩ hpre
 simp -implicitDefEqProofs only [Tryz.f106, go_sem, hh, seval] at hpre ⊢
 with_reducible repeat' (first | apply ai | intro _ | ((first | apply s1 | apply s2 | apply s3 | apply s4) <;> intro hb <;> simp -implicitDefEqProofs only [hb, go_sem, hh, seval] <;> try simp only [qz] at hb))
 all_goals first | rfl | omega | exact dA _ (by assumption) | (simp; done) | skip
 ·show T.v (.bool (decide (OJ (GS rp 36) (Jo (GS rp 36) s) = ⟨#[]⟩))) = _
  rw [← A4]
  refine congrArg (fun b => T.v (.bool b)) (AP ((c9 s).trans ?_))
  exact ⟨fun h => ⟨h, by omega, by omega⟩, fun h => h.1⟩
 ·rw [AQ (fun h => hb ⟨by have := h.2.1; omega, by have := h.2.2; omega⟩)]
end
def WY : Ct := Aj (lc Ak l0) (fun p => p.1.size ≤ 2000000) (fun p => .t (.v (.bool (BA (D3 p.1)))))
section
attribute [local go_sem] jr WC xw Bh Ai lm Bool.not_true Bool.not_false
theorem uw {G : Gt} (hG : Ac G) (hh : G.e 150 = AA 0 jr ∧ G.e 106 = AA 0 WC) : Gd G 98 (AA 0 WY) := by
 refine gr (fn := Tryz.f98) (n := 1) rfl hG ?_
 rintro ⟨s, ⟨⟩⟩ hpre
 simp -implicitDefEqProofs only [Tryz.f98, go_sem, hh, seval] at hpre ⊢
 with_reducible repeat' (first | apply ai | intro _ | ((first | apply s1 | apply s2 | apply s3 | apply s4) <;> intro hb <;> simp -implicitDefEqProofs only [hb, go_sem, hh, seval] <;> try simp only [qz] at hb))
 all_goals first | rfl | omega | skip
 have hlen := GL s 46
 have hcnt := Wc s 46
 refine AC [] (ι := {i : Nat // i ≤ (Ie s 46).length ∧ ∀ j, j < i → SC ((Ie s 46).getD j default)}) (fun p => ⟨[(3, .h 1007), (8, .h 1007), (9, .t (.v (.int .i64 (Ie s 46).length))), (10, .t (.v (.int .i64 p.1)))], [(1007, some (.arr true 1 ((Ie s 46).map AG)))]⟩) (fun p => (Ie s 46).length - p.1) ⟨0, Nat.zero_le _, fun j hj => absurd hj (Nat.not_lt_zero _)⟩ rfl ?_ ?_
 ·simp -implicitDefEqProofs only [go_sem, hh, seval]
  try simp
 ·rintro ⟨i, hi, hall⟩
  by_cases hlt : (i : Int) < (Ie s 46).length
  ·cases hb : BA (SC ((Ie s 46).getD (i : Int).toNat default))
   ·simp -implicitDefEqProofs only [hlt, hb, go_sem, hh, seval]
    with_reducible repeat' (first | apply ai | intro _ | ((first | apply s1 | apply s2 | apply s3 | apply s4) <;> intro hb <;> simp -implicitDefEqProofs only [hb, go_sem, hh, seval] <;> try simp only [qz] at hb))
    all_goals (try simp only [maxLen, tn, AM] at *)
    all_goals first | rfl | omega | skip
    rw [AQ (fun h => hb (((JQ s).1 h).1 _ (AB (by omega))))]
   ·simp -implicitDefEqProofs only [hlt, hb, go_sem, hh, seval]
    with_reducible repeat' (first | apply ai | intro _ | ((first | apply s1 | apply s2 | apply s3 | apply s4) <;> intro hb <;> simp -implicitDefEqProofs only [hb, go_sem, hh, seval] <;> try simp only [qz] at hb))
    all_goals (try simp only [maxLen, tn, AK] at *)
    all_goals first | rfl | omega | skip
    refine ⟨⟨i + 1, by omega, DC hall hb⟩, by dsimp only; omega, ?_⟩
    simp -implicitDefEqProofs only [go_sem, hh, seval]
    try simp
  ·simp -implicitDefEqProofs only [hlt, go_sem, hh, seval]
   with_reducible repeat' (first | apply ai | intro _ | ((first | apply s1 | apply s2 | apply s3 | apply s4) <;> intro hb <;> simp -implicitDefEqProofs only [hb, go_sem, hh, seval] <;> try simp only [qz] at hb))
   all_goals first | rfl | omega | skip
   rw [← A4, AP (JQ s)]
   refine congrArg (fun b => T.v (.bool b)) (AP ?_)
   exact ⟨fun h => ⟨BH fun j hj => hall j (by omega), by omega⟩, fun h => by have := h.2; omega⟩
end
def bh : Ct := Aj (lc DV.ag l0) (fun p => p.1.domain.size ≤ 2000000) (fun p => .t (.v (.bool (BA (BL p.1)))))
section
attribute [local go_sem] WC WY
theorem t8 {G : Gt} (hG : Ac G) (hh : G.e 106 = AA 0 WC ∧ G.e 98 = AA 0 WY) : Gd G 47 (AA 0 bh) := by
 refine gr (fn := Tryz.f47) (n := 1) rfl hG ?_
 rintro ⟨a, ⟨⟩⟩ hpre
 simp -implicitDefEqProofs only [Tryz.f47, go_sem, hh, seval] at hpre ⊢
 with_reducible repeat' (first | apply ai | intro _ | ((first | apply s1 | apply s2 | apply s3 | apply s4) <;> intro hb <;> simp -implicitDefEqProofs only [hb, go_sem, hh, seval] <;> try simp only [qz] at hb))
 all_goals (try simp only [AK, AM] at *)
 all_goals first | rfl | omega | skip
 ·refine congrArg (fun b => T.v (.bool b)) (AP ⟨fun h => ⟨by assumption, h⟩, fun h => h.2⟩)
 ·rw [AQ (fun h => absurd h.1 (by assumption))]
end
def M6 : Ct := Aj (lc DV.ag l0) (fun p => True) (fun p => .t (.v (.bool (BA (AN p.1)))))
theorem pC {G : Gt} (hG : Ac G) : Gd G 103 (AA 0 M6) := by
 refine gr (fn := Tryz.f103) (n := 1) rfl hG ?_
 rintro ⟨a, ⟨⟩⟩ hpre
 simp -implicitDefEqProofs only [Tryz.f103, go_sem, seval] at hpre ⊢
 with_reducible repeat' (first | apply ai | intro _ | ((first | apply s1 | apply s2 | apply s3 | apply s4) <;> intro hb <;> simp -implicitDefEqProofs only [hb, go_sem, seval] <;> try simp only [qz] at hb))
 all_goals first | rfl | omega | skip
 ·unfold AN
  rw [A4]
  by_cases h1 : a.user = ⟨#[]⟩ <;> by_cases h2 : a.domain = ⟨#[]⟩ <;> simp [h1, h2]
def k9 : Ct := Aj (lc DV.ag l0) (fun p => p.1.domain.size ≤ 2000000) (fun p => .t (.v (.bool (BA (BL p.1 ∨ AN p.1)))))
section
attribute [local go_sem] bh M6
theorem t6 {G : Gt} (hG : Ac G) (hh : G.e 47 = AA 0 bh ∧ G.e 103 = AA 0 M6) : Gd G 45 (AA 0 k9) := by
 refine gr (fn := Tryz.f45) (n := 1) rfl hG ?_
 rintro ⟨a, ⟨⟩⟩ hpre
 simp -implicitDefEqProofs only [Tryz.f45, go_sem, hh, seval] at hpre ⊢
 with_reducible repeat' (first | apply ai | intro _ | ((first | apply s1 | apply s2 | apply s3 | apply s4) <;> intro hb <;> simp -implicitDefEqProofs only [hb, go_sem, hh, seval] <;> try simp only [qz] at hb))
 all_goals (try simp only [AK, AM] at *)
 all_goals first | rfl | omega | skip
 ·rw [An (.inr (by assumption))]
 ·refine congrArg (fun b => T.v (.bool b)) (AP ⟨fun h => .inl h, fun h => h.resolve_right (by assumption)⟩)
end
theorem vT {p : Prop} (h : p) : T.v (Value.bool true) = T.v (Value.bool (BA p)) := by rw [An h]
theorem vN {p q : Prop} (h : ¬ p ↔ q) : T.v (Value.bool (!BA p)) = T.v (Value.bool (BA q)) := by rw [D8, AP h]
theorem vF {p : Prop} (h : ¬ p) : T.v (Value.bool false) = T.v (Value.bool (BA p)) := by rw [AQ h]
theorem vD {p q : Prop} [Decidable p] (h : p ↔ q) : T.v (Value.bool (decide p)) = T.v (Value.bool (BA q)) := by rw [← A4, AP h]
def QN (s p : ByteArray) : Prop := p.size ≤ s.size ∧ s.extract 0 p.size = p
def wg (s p : ByteArray) : Prop := p.size ≤ s.size ∧ s.extract (s.size - p.size) s.size = p
open Classical in
noncomputable def Fs (s p : ByteArray) : ByteArray := if QN s p then s.extract p.size s.size else s
open Classical in
noncomputable def G9 (s p : ByteArray) : ByteArray := if wg s p then s.extract 0 (s.size - p.size) else s
theorem G7 {s p : ByteArray} (h : QN s p) : Fs s p = s.extract p.size s.size := if_pos h
theorem Nt {s p : ByteArray} (h : ¬ QN s p) : Fs s p = s := if_neg h
theorem LK {s p : ByteArray} (h : wg s p) : G9 s p = s.extract 0 (s.size - p.size) := if_pos h
theorem ZU {s p : ByteArray} (h : ¬ wg s p) : G9 s p = s := if_neg h
theorem Hh (s p : ByteArray) : (Fs s p).size ≤ s.size := by
 unfold Fs; split
 ·rw [ByteArray.size_extract]; omega
 ·exact Nat.le_refl _
theorem N5 (s p : ByteArray) : (G9 s p).size ≤ s.size := by
 unfold G9; split
 ·rw [ByteArray.size_extract]; omega
 ·exact Nat.le_refl _
def WI : Ct := Aj (lc Ak (lc Ak l0)) (fun p => p.1.size ≤ 2000000 ∧ p.2.1.size ≤ 2000000) (fun p => .t (.v (.bool (BA (QN p.1 p.2.1)))))
theorem qG {G : Gt} (hG : Ac G) : Gd G 164 (AA 0 WI) := by
 refine gr (fn := Tryz.f164) (n := 2) rfl hG ?_
 rintro ⟨s, q, ⟨⟩⟩ hpre
 simp -implicitDefEqProofs only [Tryz.f164, go_sem, seval] at hpre ⊢
 obtain ⟨z1, z2⟩ := hpre
 with_reducible repeat' (first | apply ai | intro _ | ((first | apply s1 | apply s2 | apply s3 | apply s4) <;> intro hb <;> simp -implicitDefEqProofs only [hb, go_sem, seval] <;> try simp only [qz] at hb))
 all_goals (try simp only [maxLen, tn] at *)
 all_goals first
  | rfl
  | omega
  | exact vD ⟨fun h => ⟨by omega, h⟩, fun h => h.2⟩
  | exact vF (fun h => by have := h.1; omega)
  | skip
def jg : Ct := Aj (lc Ak (lc Ak l0)) (fun p => p.1.size ≤ 2000000 ∧ p.2.1.size ≤ 2000000) (fun p => .t (.v (.bool (BA (QN p.1 p.2.1)))))
section
attribute [local go_sem] WI
theorem pV {G : Gt} (hG : Ac G) (hh : G.e 164 = AA 0 WI) : Gd G 122 (AA 0 jg) := by
 refine gr (fn := Tryz.f122) (n := 2) rfl hG ?_
 rintro ⟨s, q, ⟨⟩⟩ hpre
 simp -implicitDefEqProofs only [Tryz.f122, go_sem, hh, seval] at hpre ⊢
 obtain ⟨z1, z2⟩ := hpre
 with_reducible repeat' (first | apply ai | intro _ | ((first | apply s1 | apply s2 | apply s3 | apply s4) <;> intro hb <;> simp -implicitDefEqProofs only [hb, go_sem, hh, seval] <;> try simp only [qz] at hb))
 all_goals (try simp only [maxLen, tn] at *)
 all_goals first
  | rfl
  | omega
  | exact vD ⟨fun h => ⟨by omega, h⟩, fun h => h.2⟩
  | exact vF (fun h => by have := h.1; omega)
  | skip
end
theorem vu (a b : Value) : BO (.tup [.t (.v a), .t (.v b)]) := .tup _ fun c hc => by
 simp only [List.mem_cons, List.not_mem_nil, or_false] at hc
 rcases hc with rfl | rfl <;> exact .v _
theorem yS (a b c : Value) : BO (.tup [.t (.v a), .t (.v b), .t (.v c)]) := .tup _ fun c hc => by
 simp only [List.mem_cons, List.not_mem_nil, or_false] at hc
 rcases hc with rfl | rfl | rfl <;> exact .v _
noncomputable def xu (s p : ByteArray) : AV := .tup [.t (.v (.string (Fs s p))), .t (.v (.bool (BA (QN s p))))]
theorem NE (s p : ByteArray) : xu s p = .tup [.t (.v (.string (Fs s p))), .t (.v (.bool (BA (QN s p))))] := rfl
open Lib in
open Classical in
noncomputable def ctU (s p : ByteArray) : ByteArray := if 0 ≤ indexB s p then s.extract 0 (indexB s p).toNat else s
open Lib in
open Classical in
noncomputable def ctD (s p : ByteArray) : ByteArray := if 0 ≤ indexB s p then s.extract ((indexB s p).toNat + p.size) s.size else ⟨#[]⟩
noncomputable def wj (s p : ByteArray) : AV := .tup [.t (.v (.string (ctU s p))), .t (.v (.string (ctD s p))), .t (.v (.bool (BA (0 ≤ Lib.indexB s p))))]
theorem lj (s p : ByteArray) : (ctU s p).size ≤ s.size := by
 unfold ctU; split
 ·rw [ByteArray.size_extract]; omega
 ·exact Nat.le_refl _
theorem ld (s p : ByteArray) : (ctD s p).size ≤ s.size := by
 unfold ctD; split
 ·rw [ByteArray.size_extract]; omega
 ·exact Nat.zero_le _
theorem Qt (s p : ByteArray) : wj s p = .tup [.t (.v (.string (ctU s p))), .t (.v (.string (ctD s p))), .t (.v (.bool (BA (0 ≤ Lib.indexB s p))))] := rfl
theorem fP {s p : ByteArray} (h : Lib.indexB s p ≥ 0) : s.extract 0 (Lib.indexB s p).toNat = ctU s p := (if_pos h).symm
theorem fO {s p : ByteArray} (h : ¬ Lib.indexB s p ≥ 0) : s = ctU s p := (if_neg h).symm
theorem fN {s p : ByteArray} (h : Lib.indexB s p ≥ 0) : s.extract (Lib.indexB s p + (p.size : Nat)).toNat s.size = ctD s p := by
 unfold ctD
 rw [if_pos h]
 congr 1
 omega
theorem fM {s p : ByteArray} (h : ¬ Lib.indexB s p ≥ 0) : (⟨#[]⟩ : ByteArray) = ctD s p := (if_neg h).symm
theorem ME (s p : ByteArray) : BO (wj s p) := yS _ _ _
theorem S2 (s p : ByteArray) (h : 0 ≤ Lib.indexB s p) : (Lib.indexB s p).toNat + p.size ≤ s.size := by
 have hr := Lib.index_room (bl s) (bl p) (show 0 ≤ Lib.index (bl s) (bl p) from h)
 have e : Lib.index (bl s) (bl p) = Lib.indexB s p := rfl
 rw [e, Br, Br] at hr
 omega
def kL : Ct := Aj (lc Ak (lc Ak l0)) (fun p => p.1.size ≤ 2000000 ∧ p.2.1.size ≤ 2000000) (fun p => xu p.1 p.2.1)
section
attribute [local go_sem] WI NE AK AM
theorem qs {G : Gt} (hG : Ac G) (hh : G.e 164 = AA 0 WI) : Gd G 210 (AA 0 kL) := by
 refine gr (fn := Tryz.f210) (n := 2) rfl hG ?_ (hs := fun _ _ => vu _ _)
 rintro ⟨s, q, ⟨⟩⟩ hpre
 simp -implicitDefEqProofs only [Tryz.f210, go_sem, hh, seval] at hpre ⊢
 obtain ⟨z1, z2⟩ := hpre
 with_reducible repeat' (first | apply ai | intro _ | ((first | apply s1 | apply s2 | apply s3 | apply s4) <;> intro hb <;> simp -implicitDefEqProofs only [hb, go_sem, hh, seval] <;> try simp only [qz] at hb))
 all_goals (try simp only [maxLen, tn] at *)
 all_goals first
  | rfl
  | omega
  | assumption
  | exact hb.1
  | (have := hb.1; omega)
  | exact vT hb
  | exact vF hb
  | (rw [G7 (by assumption)]; done)
  | (rw [Nt (by assumption)]; done)
  | (rw [G7 (by assumption), An (by assumption)]; done)
  | (rw [Nt (by assumption), AQ (by assumption)]; done)
  | skip
end
def WQ : Ct := Aj (lc Ak (lc Ak l0)) (fun p => p.1.size ≤ 2000000 ∧ p.2.1.size ≤ 2000000) (fun p => xu p.1 p.2.1)
section
attribute [local go_sem] kL NE AK AM
theorem qY {G : Gt} (hG : Ac G) (hh : G.e 210 = AA 0 kL) : Gd G 191 (AA 0 WQ) := by
 refine gr (fn := Tryz.f191) (n := 2) rfl hG ?_ (hs := fun _ _ => vu _ _)
 rintro ⟨s, q, ⟨⟩⟩ hpre
 simp -implicitDefEqProofs only [Tryz.f191, go_sem, hh, seval] at hpre ⊢
 obtain ⟨z1, z2⟩ := hpre
 with_reducible repeat' (first | apply ai | intro _ | ((first | apply s1 | apply s2 | apply s3 | apply s4) <;> intro hb <;> simp -implicitDefEqProofs only [hb, go_sem, hh, seval] <;> try simp only [qz] at hb))
 all_goals (try simp only [maxLen, tn] at *)
 all_goals first
  | rfl
  | omega
  | assumption
  | exact hb.1
  | (have := hb.1; omega)
  | exact vT hb
  | exact vF hb
  | (rw [G7 (by assumption)]; done)
  | (rw [Nt (by assumption)]; done)
  | (rw [G7 (by assumption), An (by assumption)]; done)
  | (rw [Nt (by assumption), AQ (by assumption)]; done)
  | skip
end
def kN : Ct := Aj (lc Ak (lc Ak l0)) (fun p => p.1.size ≤ 2000000 ∧ p.2.1.size ≤ 2000000) (fun p => .t (.v (.string (G9 p.1 p.2.1))))
section
attribute [local go_sem] kO AK AM
theorem qu {G : Gt} (hG : Ac G) (hh : G.e 213 = AA 0 kO) : Gd G 212 (AA 0 kN) := by
 refine gr (fn := Tryz.f212) (n := 2) rfl hG ?_
 rintro ⟨s, q, ⟨⟩⟩ hpre
 simp -implicitDefEqProofs only [Tryz.f212, go_sem, hh, seval] at hpre ⊢
 obtain ⟨z1, z2⟩ := hpre
 with_reducible repeat' (first | apply ai | intro _ | ((first | apply s1 | apply s2 | apply s3 | apply s4) <;> intro hb <;> simp -implicitDefEqProofs only [hb, go_sem, hh, seval] <;> try simp only [qz] at hb))
 all_goals (try simp only [maxLen, tn] at *)
 all_goals first
  | rfl
  | omega
  | assumption
  | (have := hb.1; omega)
  | (rw [LK hb]; done)
  | (rw [LK hb]; congr 3; have := hb.1; omega)
  | (rw [ZU hb]; done)
  | skip
end
def kC : Ct := Aj (lc Ak (lc Ak l0)) (fun p => p.1.size ≤ 2000000 ∧ p.2.1.size ≤ 2000000) (fun p => .t (.v (.string (G9 p.1 p.2.1))))
section
attribute [local go_sem] kN AK AM
theorem qh {G : Gt} (hG : Ac G) (hh : G.e 212 = AA 0 kN) : Gd G 193 (AA 0 kC) := by
 refine gr (fn := Tryz.f193) (n := 2) rfl hG ?_
 rintro ⟨s, q, ⟨⟩⟩ hpre
 simp -implicitDefEqProofs only [Tryz.f193, go_sem, hh, seval] at hpre ⊢
 obtain ⟨z1, z2⟩ := hpre
 with_reducible repeat' (first | apply ai | intro _ | ((first | apply s1 | apply s2 | apply s3 | apply s4) <;> intro hb <;> simp -implicitDefEqProofs only [hb, go_sem, hh, seval] <;> try simp only [qz] at hb))
 all_goals (try simp only [maxLen, tn] at *)
 all_goals first
  | rfl
  | omega
  | assumption
  | (have := hb.1; omega)
  | (rw [LK hb]; done)
  | (rw [LK hb]; congr 3; have := hb.1; omega)
  | (rw [ZU hb]; done)
  | skip
end
def kM : Ct := Aj (lc Ak (lc Ak l0)) (fun p => p.1.size ≤ 2000000 ∧ p.2.1.size ≤ 2000000) (fun p => wj p.1 p.2.1)
section
attribute [local go_sem] WS Qt
theorem qt {G : Gt} (hG : Ac G) (hh : G.e 217 = AA 0 WS) : Gd G 211 (AA 0 kM) := by
 refine gr (fn := Tryz.f211) (n := 2) rfl hG ?_ (hs := fun _ _ => ME _ _)
 rintro ⟨s, q, ⟨⟩⟩ hpre
 simp -implicitDefEqProofs only [Tryz.f211, go_sem, hh, seval] at hpre ⊢
 obtain ⟨z1, z2⟩ := hpre
 with_reducible repeat' (first | apply ai | intro _ | ((first | apply s1 | apply s2 | apply s3 | apply s4) <;> intro hb <;> simp -implicitDefEqProofs only [hb, go_sem, hh, seval] <;> try simp only [qz] at hb))
 all_goals (try simp only [maxLen, tn] at *)
 all_goals (try have hr := S2 s q (by assumption))
 all_goals first
  | with_reducible rfl
  | omega
  | decide
  | (show AZ _ = true; rfl)
  | assumption
  | (rw [fP hb]; done)
  | (rw [← fO hb]; done)
  | (rw [fN hb]; done)
  | (rw [← fM hb]; done)
  | exact vT hb
  | exact vF hb
  | skip
end
def kB : Ct := Aj (lc Ak (lc Ak l0)) (fun p => p.1.size ≤ 2000000 ∧ p.2.1.size ≤ 2000000) (fun p => wj p.1 p.2.1)
section
attribute [local go_sem] kM Qt
theorem qZ {G : Gt} (hG : Ac G) (hh : G.e 211 = AA 0 kM) : Gd G 192 (AA 0 kB) := by
 refine gr (fn := Tryz.f192) (n := 2) rfl hG ?_ (hs := fun _ _ => ME _ _)
 rintro ⟨s, q, ⟨⟩⟩ hpre
 simp -implicitDefEqProofs only [Tryz.f192, go_sem, hh, seval] at hpre ⊢
 obtain ⟨z1, z2⟩ := hpre
 with_reducible repeat' (first | apply ai | intro _ | ((first | apply s1 | apply s2 | apply s3 | apply s4) <;> intro hb <;> simp -implicitDefEqProofs only [hb, go_sem, hh, seval] <;> try simp only [qz] at hb))
 all_goals (try simp only [maxLen, tn] at *)
 all_goals (try have hr := S2 s q (by assumption))
 all_goals first
  | with_reducible rfl
  | omega
  | decide
  | (show AZ _ = true; rfl)
  | assumption
  | (rw [fP hb]; done)
  | (rw [← fO hb]; done)
  | (rw [fN hb]; done)
  | (rw [← fM hb]; done)
  | exact vT hb
  | exact vF hb
  | skip
end
def ml : ByteArray := ⟨#[72, 111, 112, 58, 32]⟩
def Ge (s : ByteArray) : Prop := QN s ml ∧ D3 (s.extract 5 s.size)
theorem Ju {s : ByteArray} : (QN s ⟨#[72, 111, 112, 58, 32]⟩ ∧ D3 (Fs s ⟨#[72, 111, 112, 58, 32]⟩)) ↔ Ge s := by
 unfold Ge
 constructor
 ·rintro ⟨h1, h2⟩
  rw [G7 h1] at h2
  exact ⟨h1, h2⟩
 ·rintro ⟨h1, h2⟩
  have e : Fs s ⟨#[72, 111, 112, 58, 32]⟩ = s.extract 5 s.size := G7 h1
  exact ⟨h1, by rw [e]; exact h2⟩
namespace En
variable {α : Type} (E : En α)
def apD : AV → Option α
 | .t (.rop c) => E.dec c
 | _ => none
def ap : AD α where
 enc a := .t (.rop (E.enc a))
 dec := E.apD
 ed := fun a => E.ed a
 de := fun x a h => by
  unfold apD at h
  split at h
  ·rw [E.de _ _ h]
  ·cases h
end En
theorem BC {α : Type} {E : En α} {a : α} : E.ap.enc a = .t (.rop (E.enc a)) := rfl
theorem BB {α : Type} {E : En α} {c : List T} : E.ap.dec (.t (.rop c)) = E.dec c := rfl
noncomputable def BD {α : Type} (p : α → Prop) : Nat → List α → Int
 | _, [] => -1
 | k, x :: t => bif BA (p x) then k else BD p (k + 1) t
theorem CX {α : Type} [Inhabited α] {p : α → Prop} {xs : List α} {i : Nat} (h : i < xs.length) (ha : p (xs.getD i default)) : BD p i (xs.drop i) = i := by
 rw [Aa h, BD, An ha]; rfl
theorem DP {α : Type} [Inhabited α] {p : α → Prop} {xs : List α} {i : Nat} (h : i < xs.length) (ha : ¬ p (xs.getD i default)) : BD p i (xs.drop i) = BD p (i + 1) (xs.drop (i + 1)) := by
 rw [Aa h, BD, AQ ha]; rfl
theorem CV {α : Type} {p : α → Prop} {xs : List α} {i : Nat} (h : xs.length ≤ i) : BD p i (xs.drop i) = -1 := by
 rw [List.drop_eq_nil_of_le h, BD]
theorem CW {α : Type} {p : α → Prop} : ∀ (xs : List α) (k : Nat), 0 ≤ BD p k xs ↔ ∃ x ∈ xs, p x
 | [], k => by simp [BD]
 | x :: t, k => by
   rw [BD]
   by_cases h : p x
   ·rw [An h, cond_true]
    exact ⟨fun _ => ⟨x, by simp, h⟩, fun _ => by omega⟩
   ·rw [AQ h, cond_false, CW t (k + 1)]
    simp [h]
inductive C3 where
 | line
 | dom
 | hop
def C3.enc : C3 → AV
 | .line  => .t (.fn 104 [])
 | .dom  => .t (.fn 97 [])
 | .hop  => .t (.fn 190 [])
def C3.dec : AV → Option C3
 | .t (.fn 104 []) => some (.line )
 | .t (.fn 97 []) => some (.dom )
 | .t (.fn 190 []) => some (.hop )
 | _ => none
def C3.sem : C3 → ByteArray → Prop
 | .line , x => ¬ H0 x
 | .dom , x => ¬ D3 x
 | .hop , x => ¬ Ge x
def C3.pre : C3 → ByteArray → Prop
 | .line , x => x.size ≤ 2000000
 | .dom , x => x.size ≤ 2000000
 | .hop , x => x.size ≤ 2000000
def Ii : AD C3 where
 enc := C3.enc
 dec := C3.dec
 ed := fun f => by cases f <;> rfl
 de := fun x f h => by
  unfold C3.dec at h
  split at h <;> cases h <;> rfl
theorem Dg  : Ii.dec (.t (.fn 104 [])) = some (.line ) := rfl
theorem Di  : Ii.enc (.line ) = .t (.fn 104 []) := rfl
theorem Dh  : Ii.dec (.t (.fn 97 [])) = some (.dom ) := rfl
theorem Dj  : Ii.enc (.dom ) = .t (.fn 97 []) := rfl
theorem FT  : Ii.dec (.t (.fn 190 [])) = some (.hop ) := rfl
theorem FU  : Ii.enc (.hop ) = .t (.fn 190 []) := rfl
def jR : Ct := Aj (lc Ak l0) (fun p => p.1.size ≤ 2000000) (fun p => .t (.v (.bool (BA (¬ H0 p.1)))))
section
attribute [local go_sem] jS BC BB Bool.not_true Bool.not_false Bc Cv
theorem pD {G : Gt} (hG : Ac G) (hh : G.e 105 = AA 0 jS) : Gd G 104 (AA 0 jR) := by
 refine gr (fn := Tryz.f104) (n := 1) rfl hG ?_
 rintro ⟨x, ⟨⟩⟩ hpre
 simp -implicitDefEqProofs only [Tryz.f104, go_sem, hh, seval] at hpre ⊢
 with_reducible repeat' (first | apply ai | intro _ | ((first | apply s1 | apply s2 | apply s3 | apply s4) <;> intro hb <;> simp -implicitDefEqProofs only [hb, go_sem, hh, seval] <;> try simp only [qz] at hb))
 all_goals first | rfl | omega | exact hpre | skip
 all_goals (try (simp only [D8]; done))
 all_goals first | rfl | (rw [A4]; done) | (rw [A4, decide_eq_decide.2]; simp [BV]; done) | (rw [A4]; simp [BV]; done)
end
def xr : Ct := Aj (lc Ak l0) (fun p => p.1.size ≤ 2000000) (fun p => .t (.v (.bool (BA (¬ D3 p.1)))))
section
attribute [local go_sem] WY BC BB Bool.not_true Bool.not_false Bc Cv
theorem uv {G : Gt} (hG : Ac G) (hh : G.e 98 = AA 0 WY) : Gd G 97 (AA 0 xr) := by
 refine gr (fn := Tryz.f97) (n := 1) rfl hG ?_
 rintro ⟨x, ⟨⟩⟩ hpre
 simp -implicitDefEqProofs only [Tryz.f97, go_sem, hh, seval] at hpre ⊢
 with_reducible repeat' (first | apply ai | intro _ | ((first | apply s1 | apply s2 | apply s3 | apply s4) <;> intro hb <;> simp -implicitDefEqProofs only [hb, go_sem, hh, seval] <;> try simp only [qz] at hb))
 all_goals first | rfl | omega | exact hpre | skip
 all_goals (try (simp only [D8]; done))
 all_goals first | rfl | (rw [A4]; done) | (rw [A4, decide_eq_decide.2]; simp [BV]; done) | (rw [A4]; simp [BV]; done)
end
def kA : Ct := Aj (lc Ak l0) (fun p => p.1.size ≤ 2000000) (fun p => .t (.v (.bool (BA (¬ Ge p.1)))))
section
attribute [local go_sem] WQ WY BC BB Bool.not_true Bool.not_false Bc Cv NE AK AM
theorem qX {G : Gt} (hG : Ac G) (hh : G.e 191 = AA 0 WQ ∧ G.e 98 = AA 0 WY) : Gd G 190 (AA 0 kA) := by
 refine gr (fn := Tryz.f190) (n := 1) rfl hG ?_
 rintro ⟨x, ⟨⟩⟩ hpre
 simp -implicitDefEqProofs only [Tryz.f190, go_sem, hh, seval] at hpre ⊢
 with_reducible repeat' (first | apply ai | intro _ | ((first | apply s1 | apply s2 | apply s3 | apply s4) <;> intro hb <;> simp -implicitDefEqProofs only [hb, go_sem, hh, seval] <;> try simp only [qz] at hb))
 all_goals (try simp only [AK, AM, maxLen] at *)
 all_goals first
  | rfl
  | omega
  | decide
  | exact hpre
  | (have := Hh x ⟨#[72, 111, 112, 58, 32]⟩; omega)
  | exact vT (fun h => absurd (Ju.2 h).1 (by assumption))
  | exact vN ⟨fun h q => h (Ju.2 q).2, fun h q => h (Ju.1 ⟨by assumption, q⟩)⟩
  | skip
end
def WG : Ct := Aj (lc Ao.asl (lc Ii l0)) (fun p => ∀ x ∈ p.1, p.2.1.pre x) (fun p => .t (.v (.int .i64 (BD p.2.1.sem 0 p.1))))
section
attribute [local go_sem] jR xr kA BC BB Bool.not_true Bool.not_false Bc Cv Dg Di Dh Dj FT FU
theorem pz {G : Gt} (hG : Ac G) (hh : G.e 104 = AA 0 jR ∧ G.e 97 = AA 0 xr ∧ G.e 190 = AA 0 kA) : Gd G 151 (AA 0 WG) := by
 refine gr (fn := Tryz.f151) (n := 2) rfl hG ?_
 rintro ⟨xs, f, ⟨⟩⟩ hpre
 have hs := hpre
 dsimp only at hs ⊢
 cases f with
 | line  =>
   simp -implicitDefEqProofs only [Tryz.f151, go_sem, hh, seval]
   with_reducible repeat' (first | apply ai | intro _ | ((first | apply s1 | apply s2 | apply s3 | apply s4) <;> intro hb <;> simp -implicitDefEqProofs only [hb, go_sem, hh, seval] <;> try simp only [qz] at hb))
   all_goals first | rfl | omega | skip
   refine AC [] (ι := {i : Nat // i ≤ xs.length ∧ BD (C3.sem (.line )) 0 xs = BD (C3.sem (.line )) i (xs.drop i)}) (fun p => ⟨[(0, .t (.sl 1 (xs.map AG))), (1, .t (.fn 104 [])), (7, .t (.v (.int .i64 xs.length))), (8, .t (.v (.int .i64 p.1)))], []⟩) (fun p => xs.length - p.1) ⟨0, Nat.zero_le _, rfl⟩ rfl ?_ ?_
   ·simp -implicitDefEqProofs only [go_sem, hh, seval]
    try simp
   ·rintro ⟨i, hi, hix⟩
    by_cases hlt : (i : Int) < xs.length
    ·have hm : xs.getD (i : Int).toNat default ∈ xs := AB (by omega)
     have hsz := hs _ hm
     cases hb : BA (¬ H0 (xs.getD (i : Int).toNat default))
     ·have hq := hb
      simp -implicitDefEqProofs only [hlt, hq, go_sem, hh, seval]
      with_reducible repeat' (first | apply ai | intro _ | ((first | apply s1 | apply s2 | apply s3 | apply s4) <;> intro hb <;> simp -implicitDefEqProofs only [hb, go_sem, hh, seval] <;> try simp only [qz] at hb))
      all_goals (try simp only [maxLen] at *)
      all_goals first | rfl | omega | with_reducible assumption | exact hsz | exact hsz.1 | exact hsz.2 | exact hsz.2 _ (by assumption) | exact hsz.2.1 | exact hsz.2.2.1 | exact hsz.2.2.2 | trivial | skip
      rw [AM, tn] at hb
      refine ⟨⟨i + 1, by omega, ?_⟩, by dsimp only; omega, ?_⟩
      ·rw [hix, DP (p := C3.sem (.line )) (by omega) hb]
      ·simp -implicitDefEqProofs only [go_sem, hh, seval]
       try simp
     ·have hq := hb
      simp -implicitDefEqProofs only [hlt, hq, go_sem, hh, seval]
      with_reducible repeat' (first | apply ai | intro _ | ((first | apply s1 | apply s2 | apply s3 | apply s4) <;> intro hb <;> simp -implicitDefEqProofs only [hb, go_sem, hh, seval] <;> try simp only [qz] at hb))
      all_goals (try simp only [maxLen] at *)
      all_goals first | rfl | omega | with_reducible assumption | exact hsz | exact hsz.1 | exact hsz.2 | exact hsz.2 _ (by assumption) | exact hsz.2.1 | exact hsz.2.2.1 | exact hsz.2.2.2 | trivial | skip
      rw [AK, tn] at hb
      rw [hix, CX (p := C3.sem (.line )) (by omega) hb]
    ·simp -implicitDefEqProofs only [hlt, go_sem, hh, seval]
     with_reducible repeat' (first | apply ai | intro _ | ((first | apply s1 | apply s2 | apply s3 | apply s4) <;> intro hb <;> simp -implicitDefEqProofs only [hb, go_sem, hh, seval] <;> try simp only [qz] at hb))
     all_goals first | rfl | omega | skip
     all_goals (rw [hix, CV (by omega)])
 | dom  =>
   simp -implicitDefEqProofs only [Tryz.f151, go_sem, hh, seval]
   with_reducible repeat' (first | apply ai | intro _ | ((first | apply s1 | apply s2 | apply s3 | apply s4) <;> intro hb <;> simp -implicitDefEqProofs only [hb, go_sem, hh, seval] <;> try simp only [qz] at hb))
   all_goals first | rfl | omega | skip
   refine AC [] (ι := {i : Nat // i ≤ xs.length ∧ BD (C3.sem (.dom )) 0 xs = BD (C3.sem (.dom )) i (xs.drop i)}) (fun p => ⟨[(0, .t (.sl 1 (xs.map AG))), (1, .t (.fn 97 [])), (7, .t (.v (.int .i64 xs.length))), (8, .t (.v (.int .i64 p.1)))], []⟩) (fun p => xs.length - p.1) ⟨0, Nat.zero_le _, rfl⟩ rfl ?_ ?_
   ·simp -implicitDefEqProofs only [go_sem, hh, seval]
    try simp
   ·rintro ⟨i, hi, hix⟩
    by_cases hlt : (i : Int) < xs.length
    ·have hm : xs.getD (i : Int).toNat default ∈ xs := AB (by omega)
     have hsz := hs _ hm
     cases hb : BA (¬ D3 (xs.getD (i : Int).toNat default))
     ·have hq := hb
      simp -implicitDefEqProofs only [hlt, hq, go_sem, hh, seval]
      with_reducible repeat' (first | apply ai | intro _ | ((first | apply s1 | apply s2 | apply s3 | apply s4) <;> intro hb <;> simp -implicitDefEqProofs only [hb, go_sem, hh, seval] <;> try simp only [qz] at hb))
      all_goals (try simp only [maxLen] at *)
      all_goals first | rfl | omega | with_reducible assumption | exact hsz | exact hsz.1 | exact hsz.2 | exact hsz.2 _ (by assumption) | exact hsz.2.1 | exact hsz.2.2.1 | exact hsz.2.2.2 | trivial | skip
      rw [AM, tn] at hb
      refine ⟨⟨i + 1, by omega, ?_⟩, by dsimp only; omega, ?_⟩
      ·rw [hix, DP (p := C3.sem (.dom )) (by omega) hb]
      ·simp -implicitDefEqProofs only [go_sem, hh, seval]
       try simp
     ·have hq := hb
      simp -implicitDefEqProofs only [hlt, hq, go_sem, hh, seval]
      with_reducible repeat' (first | apply ai | intro _ | ((first | apply s1 | apply s2 | apply s3 | apply s4) <;> intro hb <;> simp -implicitDefEqProofs only [hb, go_sem, hh, seval] <;> try simp only [qz] at hb))
      all_goals (try simp only [maxLen] at *)
      all_goals first | rfl | omega | with_reducible assumption | exact hsz | exact hsz.1 | exact hsz.2 | exact hsz.2 _ (by assumption) | exact hsz.2.1 | exact hsz.2.2.1 | exact hsz.2.2.2 | trivial | skip
      rw [AK, tn] at hb
      rw [hix, CX (p := C3.sem (.dom )) (by omega) hb]
    ·simp -implicitDefEqProofs only [hlt, go_sem, hh, seval]
     with_reducible repeat' (first | apply ai | intro _ | ((first | apply s1 | apply s2 | apply s3 | apply s4) <;> intro hb <;> simp -implicitDefEqProofs only [hb, go_sem, hh, seval] <;> try simp only [qz] at hb))
     all_goals first | rfl | omega | skip
     all_goals (rw [hix, CV (by omega)])
 | hop  =>
   simp -implicitDefEqProofs only [Tryz.f151, go_sem, hh, seval]
   with_reducible repeat' (first | apply ai | intro _ | ((first | apply s1 | apply s2 | apply s3 | apply s4) <;> intro hb <;> simp -implicitDefEqProofs only [hb, go_sem, hh, seval] <;> try simp only [qz] at hb))
   all_goals first | rfl | omega | skip
   refine AC [] (ι := {i : Nat // i ≤ xs.length ∧ BD (C3.sem (.hop )) 0 xs = BD (C3.sem (.hop )) i (xs.drop i)}) (fun p => ⟨[(0, .t (.sl 1 (xs.map AG))), (1, .t (.fn 190 [])), (7, .t (.v (.int .i64 xs.length))), (8, .t (.v (.int .i64 p.1)))], []⟩) (fun p => xs.length - p.1) ⟨0, Nat.zero_le _, rfl⟩ rfl ?_ ?_
   ·simp -implicitDefEqProofs only [go_sem, hh, seval]
    try simp
   ·rintro ⟨i, hi, hix⟩
    by_cases hlt : (i : Int) < xs.length
    ·have hm : xs.getD (i : Int).toNat default ∈ xs := AB (by omega)
     have hsz := hs _ hm
     cases hb : BA (¬ Ge (xs.getD (i : Int).toNat default))
     ·have hq := hb
      simp -implicitDefEqProofs only [hlt, hq, go_sem, hh, seval]
      with_reducible repeat' (first | apply ai | intro _ | ((first | apply s1 | apply s2 | apply s3 | apply s4) <;> intro hb <;> simp -implicitDefEqProofs only [hb, go_sem, hh, seval] <;> try simp only [qz] at hb))
      all_goals (try simp only [maxLen] at *)
      all_goals first | rfl | omega | with_reducible assumption | exact hsz | exact hsz.1 | exact hsz.2 | exact hsz.2 _ (by assumption) | exact hsz.2.1 | exact hsz.2.2.1 | exact hsz.2.2.2 | trivial | skip
      rw [AM, tn] at hb
      refine ⟨⟨i + 1, by omega, ?_⟩, by dsimp only; omega, ?_⟩
      ·rw [hix, DP (p := C3.sem (.hop )) (by omega) hb]
      ·simp -implicitDefEqProofs only [go_sem, hh, seval]
       try simp
     ·have hq := hb
      simp -implicitDefEqProofs only [hlt, hq, go_sem, hh, seval]
      with_reducible repeat' (first | apply ai | intro _ | ((first | apply s1 | apply s2 | apply s3 | apply s4) <;> intro hb <;> simp -implicitDefEqProofs only [hb, go_sem, hh, seval] <;> try simp only [qz] at hb))
      all_goals (try simp only [maxLen] at *)
      all_goals first | rfl | omega | with_reducible assumption | exact hsz | exact hsz.1 | exact hsz.2 | exact hsz.2 _ (by assumption) | exact hsz.2.1 | exact hsz.2.2.1 | exact hsz.2.2.2 | trivial | skip
      rw [AK, tn] at hb
      rw [hix, CX (p := C3.sem (.hop )) (by omega) hb]
    ·simp -implicitDefEqProofs only [hlt, go_sem, hh, seval]
     with_reducible repeat' (first | apply ai | intro _ | ((first | apply s1 | apply s2 | apply s3 | apply s4) <;> intro hb <;> simp -implicitDefEqProofs only [hb, go_sem, hh, seval] <;> try simp only [qz] at hb))
     all_goals first | rfl | omega | skip
     all_goals (rw [hix, CV (by omega)])
end
def WB : Ct := Aj (lc Ao.asl (lc Ii l0)) (fun p => ∀ x ∈ p.1, p.2.1.pre x) (fun p => .t (.v (.bool (BA (∃ x ∈ p.1, p.2.1.sem x)))))
section
attribute [local go_sem] WG BC BB Bool.not_true Bool.not_false Bc Cv Dg Di Dh Dj FT FU
theorem o9 {G : Gt} (hG : Ac G) (hh : G.e 151 = AA 0 WG) : Gd G 100 (AA 0 WB) := by
 refine gr (fn := Tryz.f100) (n := 2) rfl hG ?_
 rintro ⟨xs, f, ⟨⟩⟩ hpre
 dsimp only at hpre ⊢
 cases f
 all_goals
  simp -implicitDefEqProofs only [Tryz.f100, go_sem, hh, seval]
  with_reducible repeat' (first | apply ai | intro _ | ((first | apply s1 | apply s2 | apply s3 | apply s4) <;> intro hb <;> simp -implicitDefEqProofs only [hb, go_sem, hh, seval] <;> try simp only [qz] at hb))
  all_goals first | rfl | omega | exact hpre | exact hpre _ (by assumption) | skip
  all_goals (rw [← AP (CW _ 0)]; rw [A4])
end
inductive OO where
 | kept (g : Ls)
def OO.enc : OO → AV
 | .kept g => .t (.fn 118 [.rop [.v (.string g.mark), .v (.string g.addr.user), .v (.string g.addr.domain)]])
def OO.dec : AV → Option OO
 | .t (.fn 118 [.rop [.v (.string g0), .v (.string g1), .v (.string g2)]]) => some (.kept ⟨g0, ⟨g1, g2⟩⟩)
 | _ => none
def OO.sem : OO → Rc → Prop
 | .kept g, x => x.addr = g.addr
def OO.pre : OO → Rc → Prop
 | .kept _, x => True
def VR : AD OO where
 enc := OO.enc
 dec := OO.dec
 ed := fun f => by cases f <;> rfl
 de := fun x f h => by
  unfold OO.dec at h
  split at h <;> cases h <;> rfl
theorem Mj {g0 : ByteArray} {g1 : ByteArray} {g2 : ByteArray} : VR.dec (.t (.fn 118 [.rop [.v (.string g0), .v (.string g1), .v (.string g2)]])) = some (.kept ⟨g0, ⟨g1, g2⟩⟩) := rfl
theorem Mk {g : Ls} : VR.enc (.kept g) = .t (.fn 118 [.rop [.v (.string g.mark), .v (.string g.addr.user), .v (.string g.addr.domain)]]) := rfl
def jc : Ct := Aj (lc QA.ag (lc FR.ap l0)) (fun p => True) (fun p => .t (.v (.bool (BA (p.1.addr = p.2.1.addr)))))
section
attribute [local go_sem] BC BB Bool.not_true Bool.not_false Bc Cv
theorem pR {G : Gt} (hG : Ac G) : Gd G 118 (AA 0 jc) := by
 refine gr (fn := Tryz.f118) (n := 2) rfl hG ?_
 rintro ⟨x, g, ⟨⟩⟩ hpre
 simp -implicitDefEqProofs only [Tryz.f118, go_sem, seval] at hpre ⊢
 with_reducible repeat' (first | apply ai | intro _ | ((first | apply s1 | apply s2 | apply s3 | apply s4) <;> intro hb <;> simp -implicitDefEqProofs only [hb, go_sem, seval] <;> try simp only [qz] at hb))
 all_goals first | rfl | omega | exact hpre | skip
 all_goals (try (simp only [D8]; done))
 all_goals first | rfl | (rw [A4]; done) | (rw [A4, decide_eq_decide.2]; simp [BV]; done) | (rw [A4]; simp [BV]; done)
end
def xm : Ct := Aj (lc QA.asl (lc VR l0)) (fun p => ∀ x ∈ p.1, p.2.1.pre x) (fun p => .t (.v (.int .i64 (BD p.2.1.sem 0 p.1))))
section
attribute [local go_sem] jc BC BB Bool.not_true Bool.not_false Bc Cv Mj Mk
theorem uh {G : Gt} (hG : Ac G) (hh : G.e 118 = AA 0 jc) : Gd G 78 (AA 0 xm) := by
 refine gr (fn := Tryz.f78) (n := 2) rfl hG ?_
 rintro ⟨xs, f, ⟨⟩⟩ hpre
 have hs := hpre
 dsimp only at hs ⊢
 cases f with
 | kept g =>
   simp -implicitDefEqProofs only [Tryz.f78, go_sem, hh, seval]
   with_reducible repeat' (first | apply ai | intro _ | ((first | apply s1 | apply s2 | apply s3 | apply s4) <;> intro hb <;> simp -implicitDefEqProofs only [hb, go_sem, hh, seval] <;> try simp only [qz] at hb))
   all_goals first | rfl | omega | skip
   refine AC [] (ι := {i : Nat // i ≤ xs.length ∧ BD (OO.sem (.kept g)) 0 xs = BD (OO.sem (.kept g)) i (xs.drop i)}) (fun p => ⟨[(0, .t (.sl 4 (xs.map BP))), (1, VR.enc (.kept g)), (7, .t (.v (.int .i64 xs.length))), (8, .t (.v (.int .i64 p.1)))], []⟩) (fun p => xs.length - p.1) ⟨0, Nat.zero_le _, rfl⟩ rfl ?_ ?_
   ·simp -implicitDefEqProofs only [go_sem, hh, seval]
    try simp
   ·rintro ⟨i, hi, hix⟩
    by_cases hlt : (i : Int) < xs.length
    ·have hm : xs.getD (i : Int).toNat default ∈ xs := AB (by omega)
     have hsz := hs _ hm
     cases hb : BA ((xs.getD (i : Int).toNat default).addr = g.addr)
     ·have hq := hb
      simp -implicitDefEqProofs only [hlt, hq, go_sem, hh, seval]
      with_reducible repeat' (first | apply ai | intro _ | ((first | apply s1 | apply s2 | apply s3 | apply s4) <;> intro hb <;> simp -implicitDefEqProofs only [hb, go_sem, hh, seval] <;> try simp only [qz] at hb))
      all_goals (try simp only [maxLen] at *)
      all_goals first | rfl | omega | with_reducible assumption | exact hsz | exact hsz.1 | exact hsz.2 | exact hsz.2 _ (by assumption) | exact hsz.2.1 | exact hsz.2.2.1 | exact hsz.2.2.2 | trivial | skip
      rw [AM, tn] at hb
      refine ⟨⟨i + 1, by omega, ?_⟩, by dsimp only; omega, ?_⟩
      ·rw [hix, DP (p := OO.sem (.kept g)) (by omega) hb]
      ·simp -implicitDefEqProofs only [go_sem, hh, seval]
       try simp
     ·have hq := hb
      simp -implicitDefEqProofs only [hlt, hq, go_sem, hh, seval]
      with_reducible repeat' (first | apply ai | intro _ | ((first | apply s1 | apply s2 | apply s3 | apply s4) <;> intro hb <;> simp -implicitDefEqProofs only [hb, go_sem, hh, seval] <;> try simp only [qz] at hb))
      all_goals (try simp only [maxLen] at *)
      all_goals first | rfl | omega | with_reducible assumption | exact hsz | exact hsz.1 | exact hsz.2 | exact hsz.2 _ (by assumption) | exact hsz.2.1 | exact hsz.2.2.1 | exact hsz.2.2.2 | trivial | skip
      rw [AK, tn] at hb
      rw [hix, CX (p := OO.sem (.kept g)) (by omega) hb]
    ·simp -implicitDefEqProofs only [hlt, go_sem, hh, seval]
     with_reducible repeat' (first | apply ai | intro _ | ((first | apply s1 | apply s2 | apply s3 | apply s4) <;> intro hb <;> simp -implicitDefEqProofs only [hb, go_sem, hh, seval] <;> try simp only [qz] at hb))
     all_goals first | rfl | omega | skip
     all_goals (rw [hix, CV (by omega)])
end
def jb : Ct := Aj (lc QA.asl (lc VR l0)) (fun p => ∀ x ∈ p.1, p.2.1.pre x) (fun p => .t (.v (.bool (BA (∃ x ∈ p.1, p.2.1.sem x)))))
section
attribute [local go_sem] xm BC BB Bool.not_true Bool.not_false Bc Cv Mj Mk
theorem pQ {G : Gt} (hG : Ac G) (hh : G.e 78 = AA 0 xm) : Gd G 117 (AA 0 jb) := by
 refine gr (fn := Tryz.f117) (n := 2) rfl hG ?_
 rintro ⟨xs, f, ⟨⟩⟩ hpre
 dsimp only at hpre ⊢
 cases f
 all_goals
  simp -implicitDefEqProofs only [Tryz.f117, go_sem, hh, seval]
  with_reducible repeat' (first | apply ai | intro _ | ((first | apply s1 | apply s2 | apply s3 | apply s4) <;> intro hb <;> simp -implicitDefEqProofs only [hb, go_sem, hh, seval] <;> try simp only [qz] at hb))
  all_goals first | rfl | omega | exact hpre | exact hpre _ (by assumption) | skip
  all_goals (rw [← AP (CW _ 0)]; rw [A4])
end
def lA : Ct := Aj (lc Ao.asl l0) (fun p => ∀ s ∈ p.1, s.size ≤ 2000000) (fun p => .t (.v (.bool (BA (Ch p.1)))))
section
attribute [local go_sem] WB BC BB Bool.not_true Bool.not_false Bc Cv Dg Di Dh Dj FT FU
theorem t7 {G : Gt} (hG : Ac G) (hh : G.e 100 = AA 0 WB) : Gd G 46 (AA 0 lA) := by
 refine gr (fn := Tryz.f46) (n := 1) rfl hG ?_
 rintro ⟨xs, ⟨⟩⟩ hpre
 simp -implicitDefEqProofs only [Tryz.f46, go_sem, hh, seval] at hpre ⊢
 with_reducible repeat' (first | apply ai | intro _ | ((first | apply s1 | apply s2 | apply s3 | apply s4) <;> intro hb <;> simp -implicitDefEqProofs only [hb, go_sem, hh, seval] <;> try simp only [qz] at hb))
 all_goals first | rfl | omega | exact hpre | exact hpre _ (by assumption) | exact trivial | skip
 ·rw [D8]
  refine congrArg (fun b => T.v (.bool b)) (AP ?_)
  constructor
  ·intro h
   exact ⟨fun s hs => Classical.byContradiction fun q => h ⟨s, hs, q⟩, by omega⟩
  ·rintro h ⟨s, hs, q⟩
   exact q (h.1 s hs)
 ·rw [AQ (fun h => by have := h.2; omega)]
end
theorem zP : Maps.Keyed Tryz.prog 35 := Maps.Keyed.of_law (deep_law_laid (m := 5) (by kernel_rfl) (by decide) (Nat.lt_of_lt_of_le (Nat.lt_succ_self 35) (Nat.le_of_ble_eq_true (by kernel_rfl))) (by kernel_rfl) (by kernel_rfl))
noncomputable def Uh : Array Field := match Tryz.prog.underlying 35 with | some (.struct fs) => fs | _ => #[]
theorem yv : Tryz.prog.underlying 35 = some (.struct Uh) := by kernel_rfl
theorem u9 : Tryz.prog.underlying 9 = some .string := by kernel_rfl
theorem md : (Uh.toList.map fun f => (f.type, f.offset)) = [(9, 0), (9, 1)] := by kernel_rfl
theorem me : Uh.all (·.name != "_") = true := by kernel_rfl
theorem zQ : Tryz.prog.cellsOf 9 = 1 := by kernel_rfl
theorem sx : Tryz.prog.cellsOf 35 = 2 := by kernel_rfl
theorem yF : Tryz.prog.keyType 35 = true := by kernel_rfl
theorem yX : ∃ n, Tryz.prog.types.size + 1 = n + 2 := ⟨Tryz.prog.types.size - 1, by
 have : 35 < Tryz.prog.types.size := Nat.lt_of_lt_of_le (Nat.lt_succ_self 35) (Nat.le_of_ble_eq_true (by kernel_rfl))
 omega⟩
theorem zL (d : Nat) {s : ByteArray} (h : s.size ≤ maxLen) : Tryz.prog.keyLits (d + 1) 9 [.string s] = some [.string s.data.toList] := by
 simp only [Program.keyLits, u9, if_pos h]
theorem u6 {k : MK} (h : k.ok (some 2)) : ∃ l, keyOf Tryz.prog 35 k.val = some l := by
 cases k with
 | i n => exact h.elim
 | s b => exact absurd h.1 (by decide)
 | ss l =>
   obtain ⟨h1, h2, _⟩ := h
   obtain ⟨u, d, rfl⟩ : ∃ u d, l = [u, d] := by
    rcases l with _ | ⟨u, _ | ⟨d, _ | ⟨z, t⟩⟩⟩
    ·cases h1
    ·cases h1
    ·exact ⟨u, d, rfl⟩
    ·simp at h1
   obtain ⟨n, hn⟩ := yX
   have hl : Uh.toList.map (fun f => (f.type, f.offset)) = [(9, 0), (9, 1)] := md
   rcases hf : Uh.toList with _ | ⟨f, _ | ⟨g, _ | ⟨z, t⟩⟩⟩
   ·rw [hf] at hl; cases hl
   ·rw [hf] at hl; simp at hl
   ·rw [hf] at hl
    ·simp only [List.map_cons, List.map_nil, List.cons.injEq, Prod.mk.injEq, and_true] at hl
     obtain ⟨⟨a1, a2⟩, b1, b2⟩ := hl
     refine ⟨.string (keyBytes [.string u.data.toList, .string d.data.toList]), ?_⟩
     have hform : (MK.val (.ss [u, d])).formed Tryz.prog 35 = true := by
      simp only [Value.formed, MK.val, yv, sx]
      rfl
     unfold keyOf
     rw [yv]
     show (if (Tryz.prog.keyType 35 && (MK.val (.ss [u, d])).formed Tryz.prog 35) = true then _ else none) = _
     rw [yF, hform]
     refine (if_pos rfl).trans ?_
     rw [hn]
     have : Tryz.prog.keyLits (n + 2) 35 (MK.val (.ss [u, d])).cells.toList = some [.string u.data.toList, .string d.data.toList] := by
      show Tryz.prog.keyLits (n + 2) 35 [.string u, .string d] = _
      have e1 : [Value.string u, Value.string d].length = Tryz.prog.cellsOf 35 ∧ Uh.all (·.name != "_") = true := ⟨by rw [sx]; rfl, me⟩
      rw [Program.keyLits.eq_def]
      simp only [yv]
      refine (if_pos e1).trans ?_
      rw [hf]
      simp only [List.mapM_cons, List.mapM_nil, a1, a2, b1, b2, zQ, List.drop_zero, List.take_succ_cons, List.take_zero, List.drop_succ_cons, zL n (h2 u (by simp)), zL n (h2 d (by simp))]
      rfl
     rw [this]; rfl
   ·rw [hf] at hl
    simp only [List.map_cons, List.cons.injEq] at hl
    exact absurd hl.2.2 (by simp)
theorem yE : H4 Tryz.prog 35 (some 2) := H4.ss zP u6
def gL (a : Ad) : MK := .ss [a.user, a.domain]
theorem dJ {a b : Ad} (h : gL a = gL b) : a = b := by
 cases a; cases b
 simp only [gL, MK.ss.injEq, List.cons.injEq, and_true] at h
 rw [h.1, h.2]
def dis (xs : List Ad) : List (MK × Bool) := xs.foldl (fun es a => Lw (gL a) true es) []
theorem KW (xs : List Ad) (a : Ad) : dis (xs ++ [a]) = Lw (gL a) true (dis xs) := by simp [dis]
theorem Fw {k : MK} {b : Bool} : ∀ {es : List (MK × Bool)}, (Lw k b es).map Prod.fst = if k ∈ es.map Prod.fst then es.map Prod.fst else es.map Prod.fst ++ [k]
 | [] => by simp [Lw]
 | p :: r => by
   rw [Lw]
   by_cases h : p.1 = k
   ·simp [h]
   ·have hk : ¬ k = p.1 := fun e => h e.symm
    rw [if_neg h, List.map_cons, Fw]
    by_cases h2 : k ∈ r.map Prod.fst
    ·rw [if_pos h2, if_pos (by simp only [List.map_cons, List.mem_cons]; exact .inr h2)]; rfl
    ·rw [if_neg h2, if_neg (by simp only [List.map_cons, List.mem_cons]; exact fun e => e.elim hk h2)]; rfl
theorem cS (xs : List Ad) (a : Ad) : gL a ∈ (dis xs).map Prod.fst ↔ a ∈ xs := by
 generalize hr : xs.reverse = r
 have hx : xs = r.reverse := by rw [← hr, List.reverse_reverse]
 subst hx
 clear hr
 induction r with
 | nil => simp [dis]
 | cons b r ih =>
   rw [List.reverse_cons, KW, Fw, List.mem_append, ← propext ih]
   by_cases h : gL b ∈ (dis r.reverse).map Prod.fst
   ·rw [if_pos h]
    constructor
    ·exact .inl
    ·rintro (h1 | h1)
     ·exact h1
     ·rw [List.mem_singleton.1 h1]; exact h
   ·rw [if_neg h, List.mem_append, List.mem_singleton, List.mem_singleton]
    exact or_congr_right ⟨dJ, fun e => by rw [e]⟩
theorem cR (xs : List Ad) : (dis xs).length ≤ xs.length ∧ ((dis xs).length = xs.length ↔ xs.Nodup) := by
 generalize hr : xs.reverse = r
 have hx : xs = r.reverse := by rw [← hr, List.reverse_reverse]
 subst hx
 clear hr
 induction r with
 | nil => simp [dis]
 | cons b r ih =>
   have hl : ∀ es : List (MK × Bool), es.length = (es.map Prod.fst).length := fun es => by rw [lm]
   have hn : (r.reverse ++ [b]).Nodup ↔ r.reverse.Nodup ∧ b ∉ r.reverse := by
    rw [List.nodup_append]
    constructor
    ·rintro ⟨h1, _, h3⟩
     exact ⟨h1, fun hb => h3 b hb b (by simp) rfl⟩
    ·rintro ⟨h1, h2⟩
     refine ⟨h1, by simp, fun x hx y hy e => ?_⟩
     rw [List.mem_singleton] at hy
     subst hy; subst e; exact h2 hx
   rw [List.reverse_cons, KW, hl, Fw, List.length_append, hn, ← cS]
   obtain ⟨i1, i2⟩ := ih
   by_cases h : gL b ∈ (dis r.reverse).map Prod.fst
   ·rw [if_pos h, ← hl]
    refine ⟨by omega, ⟨fun e => ?_, fun e => absurd h e.2⟩⟩
    simp at e i1; omega
   ·rw [if_neg h, List.length_append, ← hl]
    refine ⟨by simp at *; omega, ⟨fun e => ⟨i2.1 (by simp at *; omega), h⟩, fun e => ?_⟩⟩
    have := i2.2 e.1
    simp at *; omega
theorem R2 {xs : List Ad} {i : Nat} (h : i < xs.length) : xs.take (i + 1) = xs.take i ++ [xs.getD i default] := by
 rw [List.take_succ_eq_append_getElem h]
 simp [h]
theorem W9 {xs : List Ad} {i : Nat} (h : i < xs.length) : Lw (.ss [(xs.getD i default).user, (xs.getD i default).domain]) true (dis (xs.take i)) = dis (xs.take (i + 1)) := by
 rw [R2 h, KW]; rfl
def jt : Ct := Aj (lc DV.asl l0) (fun p => True) (fun p => .t (.v (.bool (BA p.1.Nodup))))
section
attribute [local go_sem] BC BB Bool.not_true Bool.not_false Bc Cv Dg Di Dh Dj FT FU
theorem p5 {G : Gt} (hG : Ac G) : Gd G 153 (AA 0 jt) := by
 refine gr (fn := Tryz.f153) (n := 1) rfl hG ?_
 rintro ⟨xs, ⟨⟩⟩ hpre
 simp -implicitDefEqProofs only [Tryz.f153, go_sem, seval] at hpre ⊢
 with_reducible repeat' (first | apply ai | intro _ | ((first | apply s1 | apply s2 | apply s3 | apply s4) <;> intro hb <;> simp -implicitDefEqProofs only [hb, go_sem, seval] <;> try simp only [qz] at hb))
 all_goals first | rfl | omega | skip
 refine AC [] (ι := {i : Nat // i ≤ xs.length}) (fun p => ⟨[(0, .t (.sl 2 (xs.map Ap))), (3, .h 1006), (7, .t (.sl 2 (xs.map Ap))), (8, .t (.v (.int .i64 xs.length))), (9, .t (.v (.int .i64 p.1)))], [(1006, some (.mp (some 2) (dis (xs.take p.1))))]⟩) (fun p => xs.length - p.1) ⟨0, Nat.zero_le _⟩ rfl ?_ ?_
 ·simp -implicitDefEqProofs only [go_sem, seval]
  try simp
  rfl
 ·rintro ⟨i, hi⟩
  by_cases hlt : (i : Int) < xs.length
  ·simp -implicitDefEqProofs only [hlt, go_sem, seval]
   with_reducible repeat' (first | apply ai | intro _ | ((first | apply s1 | apply s2 | apply s3 | apply s4) <;> intro hb <;> simp -implicitDefEqProofs only [hb, go_sem, seval] <;> try simp only [qz] at hb))
   all_goals (try simp only [maxLen] at *)
   all_goals first | rfl | omega | exact yE | skip
   refine ⟨⟨i + 1, by omega⟩, by dsimp only; omega, ?_⟩
   simp -implicitDefEqProofs only [go_sem, seval]
   simp only [tn, W9 (show i < xs.length by omega)]
   try simp
  ·simp -implicitDefEqProofs only [hlt, go_sem, seval]
   with_reducible repeat' (first | apply ai | intro _ | ((first | apply s1 | apply s2 | apply s3 | apply s4) <;> intro hb <;> simp -implicitDefEqProofs only [hb, go_sem, seval] <;> try simp only [qz] at hb))
   all_goals first | rfl | omega | skip
   rw [List.take_of_length_le (by omega), ← AP (cR xs).2, A4]
   refine congrArg (fun b => T.v (.bool b)) (decide_eq_decide.2 ?_)
   omega
end
theorem Ay {α : Type} [Inhabited α] (enc : α → List T) {xs : List α} {i : Nat} (h : i < xs.length) : (xs.take (i + 1)).map enc = (xs.take i).map enc ++ [enc (xs.getD i default)] := by
 rw [List.take_succ_eq_append_getElem h, List.map_append, List.map_cons, List.map_nil]
 simp only [List.getD_eq_getElem?_getD, List.getElem?_eq_getElem h, Option.getD_some]
theorem LR {α : Type} {enc : α → List T} {xs : List α} {k : Nat} : (xs.map enc).take k = (xs.take k).map enc := List.map_take.symm
theorem KX {α : Type} {enc : α → List T} {xs : List α} {k : Nat} : (xs.map enc).drop k = (xs.drop k).map enc := List.map_drop.symm
def OY (r : Rc) : Prop := BL r.addr ∧ (0 ≤ r.tries ∧ r.tries ≤ 3) ∧ (0 ≤ r.next ∧ r.next ≤ 9999)
def Dk (x : Im) : Prop := (∀ r ∈ x.to, OY r) ∧ (x.to.map Rc.addr).Nodup ∧ 0 < x.id ∧ (BL x.frm ∨ AN x.frm) ∧ (1 ≤ x.to.length ∧ x.to.length ≤ 4) ∧ Ch x.body
def wu (xs : List Im) : Prop := ∀ j, 0 < j → j < xs.length → (xs.getD (j - 1) default).id < (xs.getD j default).id
def CM (s : Sp) : Prop := (∀ x ∈ s.items, Dk x ∧ x.id ≤ s.last) ∧ wu s.items ∧ (0 ≤ s.last ∧ s.last ≤ 999) ∧ s.items.length ≤ 10
theorem RX {xs : List Rc} (h : ∀ j, j < xs.length → ∀ k, k < j → ¬ (xs.getD k default).addr = (xs.getD j default).addr) : (xs.map Rc.addr).Nodup := by
 rw [List.nodup_iff_pairwise_ne, List.pairwise_iff_getElem]
 intro k j hk hj hkj
 rw [lm] at hk hj
 have := h j hj k hkj
 simpa [hk, hj] using this
theorem Qc {xs : List Rc} (h : (xs.map Rc.addr).Nodup) {k i : Nat} (hk : k < i) (hi : i < xs.length) : ¬ (xs.getD k default).addr = (xs.getD i default).addr := fun e => by
 have q1 : k < xs.length := by omega
 simp only [List.getD_eq_getElem?_getD, List.getElem?_eq_getElem q1, List.getElem?_eq_getElem hi, Option.getD_some] at e
 exact List.pairwise_iff_getElem.1 (List.nodup_iff_pairwise_ne.1 h) k i (by simpa using q1) (by simpa using hi) hk (by simpa using e)
def j3 : Ct := Aj (lc QA.ag l0) (fun p => True) (fun p => .t (.v (.bool (BA (OY p.1)))))
section
attribute [local go_sem] II Ln
theorem qN {G : Gt} (hG : Ac G) (hh : G.e 123 = AA 0 II ∧ G.e 36 = AA 0 Ln) : Gd G 176 (AA 0 j3) := by
 refine gr (fn := Tryz.f176) (n := 1) rfl hG ?_
 rintro ⟨r, ⟨⟩⟩ hpre
 simp -implicitDefEqProofs only [Tryz.f176, go_sem, hh, seval] at hpre ⊢
 with_reducible repeat' (first | apply ai | intro _ | ((first | apply s1 | apply s2 | apply s3 | apply s4) <;> intro hb <;> simp -implicitDefEqProofs only [hb, go_sem, hh, seval] <;> try simp only [qz] at hb))
 all_goals first
  | rfl
  | omega
  | exact congrArg (fun b => T.v (Value.bool b)) (AP ⟨fun h => ⟨by assumption, by assumption, h⟩, fun h => h.2.2⟩)
  | (rw [AQ (fun h => absurd h.1 (by assumption))]; done)
  | (rw [AQ (fun h => absurd h.2.1 (by assumption))]; done)
end
def jo : Ct := Aj (lc Jr.ag l0) (fun p => True) (fun p => .t (.v (.bool (BA (Dk p.1)))))
section
attribute [local go_sem] II Ln j3 NB M8 lm
set_option maxHeartbeats 800000 in
theorem po {G : Gt} (hG : Ac G) (hh : G.e 123 = AA 0 II ∧ G.e 36 = AA 0 Ln ∧ G.e 176 = AA 0 j3 ∧ G.e 62 = AA 0 NB ∧ G.e 142 = AA 0 M8) : Gd G 144 (AA 0 jo) := by
 refine gr (fn := Tryz.f144) (n := 1) rfl hG ?_
 rintro ⟨x, ⟨⟩⟩ hpre
 simp -implicitDefEqProofs only [Tryz.f144, go_sem, hh, seval] at hpre ⊢
 have hbox : ∀ y : Im, Ob.box [AV.t (T.v (Value.int IntKind.i64 y.id)), AV.t (T.v (Value.string y.frm.user)), AV.t (T.v (Value.string y.frm.domain)), AV.t (T.sl 4 (List.map BP y.to)), AV.t (T.sl 1 (List.map AG y.body))] = Ob.box ((Ar y).map .t) := fun _ => rfl
 refine AC [] (ι := {i : Nat // i ≤ x.to.length ∧ (∀ j, j < i → OY (x.to.getD j default)) ∧ ∀ j, j < i → ∀ k, k < j → ¬ (x.to.getD k default).addr = (x.to.getD j default).addr}) (fun p => ⟨[(1, .pb 1001 0), (3, .t (.v (.int .i64 p.1)))], [(1001, some (.box ((Ar x).map .t)))]⟩) (fun p => x.to.length - p.1) ⟨0, by simp, by simp, by simp⟩ rfl ?_ ?_
 ·simp -implicitDefEqProofs only [go_sem, hh, seval]
  try simp
 ·rintro ⟨i, hi, hall, hno⟩
  simp -implicitDefEqProofs only [go_sem, hh, seval]
  with_reducible repeat' (first | apply ai | intro _ | ((first | apply s1 | apply s2 | apply s3 | apply s4) <;> intro hb <;> simp -implicitDefEqProofs only [hb, go_sem, hh, seval] <;> try simp only [qz] at hb))
  all_goals (try simp only [maxLen, tn, lm] at *)
  all_goals first | rfl | omega | skip
  ·rw [AQ (fun h => hb (h.1 _ (AB (by omega))))]
  ·refine AC [] (ι := {k : Nat // k ≤ i ∧ ∀ j, j < k → ¬ (x.to.getD j default).addr = (x.to.getD i default).addr}) (fun p => ⟨[(1, .pb 1001 0), (3, .t (.v (.int .i64 i))), (4, .t (.v (.int .i64 p.1)))], [(1001, some (.box ((Ar x).map .t)))]⟩) (fun p => i - p.1) ⟨0, by simp, by simp⟩ rfl ?_ ?_
   ·simp -implicitDefEqProofs only [go_sem, hh, seval]
    try simp
   ·rintro ⟨k, hk, hk2⟩
    simp -implicitDefEqProofs only [go_sem, hh, seval]
    with_reducible repeat' (first | apply ai | intro _ | ((first | apply s1 | apply s2 | apply s3 | apply s4) <;> intro hb <;> simp -implicitDefEqProofs only [hb, go_sem, hh, seval] <;> try simp only [qz] at hb))
    all_goals (try simp only [maxLen, tn, lm] at *)
    all_goals first | rfl | omega | skip
    ·have e : (x.to.getD k default).addr = (x.to.getD i default).addr := BV.2 (by simpa using hb)
     rw [AQ (fun h => Qc h.2.1 (by omega) (by omega) e)]
    ·refine ⟨⟨k + 1, by omega, fun j hj => ?_⟩, by dsimp only; omega, ?_⟩
     ·by_cases e : j = k
      ·subst e; exact nH hb
      ·exact hk2 j (by omega)
     ·simp -implicitDefEqProofs only [go_sem, hh, seval]
      try simp
    ·refine ⟨⟨i + 1, by omega, DC hall (by assumption), fun j hj q hq => ?_⟩, by dsimp only; omega, ?_⟩
     ·by_cases e : j = i
      ·subst e; exact hk2 q (by omega)
      ·exact hno j (by omega) q hq
     ·simp -implicitDefEqProofs only [go_sem, hh, seval]
      try simp
  all_goals have hA : ∀ r ∈ x.to, OY r := BH fun j hj => hall j (by omega)
  all_goals have hN : (x.to.map Rc.addr).Nodup := RX fun j hj q hq => hno j (by omega) q hq
  all_goals first
   | (rw [AP]
      exact ⟨fun h => ⟨hA, hN, by first | assumption | omega, by first | exact .inl (by assumption) | exact .inr (by assumption), by omega, h⟩, fun h => h.2.2.2.2.2⟩)
   | (rw [AQ]
      intro h
      first
       | (have := h.2.2.1; omega)
       | (have := h.2.2.2.2.1; omega)
       | (rcases h.2.2.2.1 with h | h <;> contradiction))
end
def xp : Ct := Aj (lc Vb.ag l0) (fun p => True) (fun p => .t (.v (.bool (BA (CM p.1)))))
section
attribute [local go_sem] jo Ln lm Bool.not_true Bool.not_false
set_option maxHeartbeats 1600000 in
theorem um {G : Gt} (hG : Ac G) (hh : G.e 144 = AA 0 jo ∧ G.e 36 = AA 0 Ln) : Gd G 89 (AA 0 xp) := by
 refine gr (fn := Tryz.f89) (n := 1) rfl hG ?_
 rintro ⟨s, ⟨⟩⟩ hpre
 simp -implicitDefEqProofs only [Tryz.f89, go_sem, hh, seval] at hpre ⊢
 refine AC [] (ι := {i : Nat // i ≤ s.items.length ∧ (∀ j, j < i → Dk (s.items.getD j default) ∧ (s.items.getD j default).id ≤ s.last) ∧ ∀ j, 0 < j → j < i → (s.items.getD (j - 1) default).id < (s.items.getD j default).id}) (fun p => ⟨[(1, .pb 1001 0), (3, .t (.v (.int .i64 p.1)))], [(1001, some (.box ((FG s).map .t)))]⟩) (fun p => s.items.length - p.1) ⟨0, by simp, by simp, by simp⟩ rfl ?_ ?_
 ·simp -implicitDefEqProofs only [go_sem, hh, seval]
  try simp
 ·rintro ⟨i, hi, hall, hasc⟩
  by_cases hlt : (i : Int) < s.items.length
  ·simp -implicitDefEqProofs only [hlt, decide_true, go_sem, hh, seval]
   with_reducible repeat' (first | apply ai | intro _ | ((first | apply s1 | apply s2 | apply s3 | apply s4) <;> intro hb <;> simp -implicitDefEqProofs only [hb, go_sem, hh, seval] <;> try simp only [qz] at hb))
   all_goals (try simp only [maxLen, tn, lm] at *)
   all_goals first | rfl | omega | skip
   all_goals (try rw [show ((i : Int) - 1).toNat = i - 1 from by omega] at hb)
   all_goals first
    | (rw [AQ (fun h => by have h1 := h.1 _ (AB (xs := s.items) (j := i) (by omega)); first | exact hb h1.1 | omega)]; done)
    | (rw [AQ (fun h => by have h1 := h.2.1 i (by omega) (by omega); omega)]; done)
    | skip
   all_goals
    refine ⟨⟨i + 1, by omega, DC (P := fun x : Im => Dk x ∧ x.id ≤ s.last) hall ⟨by assumption, by omega⟩, fun j h0 hj => ?_⟩, by dsimp only; omega, ?_⟩
    ·by_cases e : j = i
     ·subst e; omega
     ·exact hasc j h0 (by omega)
    ·simp -implicitDefEqProofs only [go_sem, hh, seval]
     try simp
  ·simp -implicitDefEqProofs only [hlt, decide_false, go_sem, hh, seval]
   with_reducible repeat' (first | apply ai | intro _ | ((first | apply s1 | apply s2 | apply s3 | apply s4) <;> intro hb <;> simp -implicitDefEqProofs only [hb, go_sem, hh, seval] <;> try simp only [qz] at hb))
   all_goals (try simp only [maxLen, tn, lm] at *)
   all_goals first | rfl | omega | skip
   ·refine congrArg (fun b => T.v (Value.bool b)) ?_
    rw [← A4, AP]
    exact ⟨fun h => ⟨BH fun j hj => hall j (by omega), fun j h0 hj => hasc j h0 (by omega), hb, by omega⟩, fun h => by have := h.2.2.2; omega⟩
   ·rw [AQ (fun h => hb h.2.2.1)]
end
def k7 : Ct := Aj (lc Vb.ag (lc BU l0)) (fun p => True) (fun p => .t (.v (.int .i64 (BD (fun x : Im => x.id = p.2.1) 0 p.1.items))))
section
attribute [local go_sem] lm
theorem tu {G : Gt} (hG : Ac G) : Gd G 34 (AA 0 k7) := by
 refine gr (fn := Tryz.f34) (n := 2) rfl hG ?_
 rintro ⟨s, n, ⟨⟩⟩ hpre
 simp -implicitDefEqProofs only [Tryz.f34, go_sem, seval] at hpre ⊢
 refine AC [] (ι := {i : Nat // i ≤ s.items.length ∧ BD (fun x : Im => x.id = n) 0 s.items = BD (fun x : Im => x.id = n) i (s.items.drop i)}) (fun p => ⟨[(1, .t (.v (.int .i64 n))), (2, .pb 1002 0), (5, .t (.v (.int .i64 p.1)))], [(1002, some (.box ((FG s).map .t)))]⟩) (fun p => s.items.length - p.1) ⟨0, by simp, rfl⟩ rfl ?_ ?_
 ·simp -implicitDefEqProofs only [go_sem, seval]
  try simp
 ·rintro ⟨i, hi, hix⟩
  simp -implicitDefEqProofs only [go_sem, seval]
  with_reducible repeat' (first | apply ai | intro _ | ((first | apply s1 | apply s2 | apply s3 | apply s4) <;> intro hb <;> simp -implicitDefEqProofs only [hb, go_sem, seval] <;> try simp only [qz] at hb))
  all_goals (try simp only [maxLen, tn, lm] at *)
  all_goals first | rfl | omega | skip
  ·rw [hix, CX (p := fun x : Im => x.id = n) (by omega) hb]
  ·refine ⟨⟨i + 1, by omega, by rw [hix, DP (p := fun x : Im => x.id = n) (by omega) hb]⟩, by dsimp only; omega, ?_⟩
   simp -implicitDefEqProofs only [go_sem, seval]
   try simp
  ·rw [hix, CV (by omega)]
end
def se : Ct := Aj (lc Jr.ag (lc DV.ag l0)) (fun p => True) (fun p => .t (.v (.int .i64 (BD (fun r : Rc => r.addr = p.2.1) 0 p.1.to))))
section
attribute [local go_sem] lm
theorem tv {G : Gt} (hG : Ac G) : Gd G 35 (AA 0 se) := by
 refine gr (fn := Tryz.f35) (n := 2) rfl hG ?_
 rintro ⟨x, a, ⟨⟩⟩ hpre
 simp -implicitDefEqProofs only [Tryz.f35, go_sem, seval] at hpre ⊢
 refine AC [] (ι := {i : Nat // i ≤ x.to.length ∧ BD (fun r : Rc => r.addr = a) 0 x.to = BD (fun r : Rc => r.addr = a) i (x.to.drop i)}) (fun p => ⟨[(2, .pb 1002 0), (3, .pb 1003 0), (5, .t (.v (.int .i64 p.1)))], [(1002, some (.box ((Ar x).map .t))), (1003, some (.box ((Ap a).map .t)))]⟩) (fun p => x.to.length - p.1) ⟨0, by simp, rfl⟩ rfl ?_ ?_
 ·simp -implicitDefEqProofs only [go_sem, seval]
  try simp
 ·rintro ⟨i, hi, hix⟩
  simp -implicitDefEqProofs only [go_sem, seval]
  with_reducible repeat' (first | apply ai | intro _ | ((first | apply s1 | apply s2 | apply s3 | apply s4) <;> intro hb <;> simp -implicitDefEqProofs only [hb, go_sem, seval] <;> try simp only [qz] at hb))
  all_goals (try simp only [maxLen, tn, lm] at *)
  all_goals first | rfl | omega | skip
  ·rw [hix, CX (p := fun r : Rc => r.addr = a) (by omega) (BV.2 (by simpa using hb))]
  ·refine ⟨⟨i + 1, by omega, by rw [hix, DP (p := fun r : Rc => r.addr = a) (by omega) (nH hb)]⟩, by dsimp only; omega, ?_⟩
   simp -implicitDefEqProofs only [go_sem, seval]
   try simp
  ·rw [hix, CV (by omega)]
end
def Qm : Ct := Aj (lc Jr.ag l0) (fun p => GQ p.1) (fun p => nh p.1)
section
attribute [local go_sem] lm List.map_nil List.length_nil List.nil_append Nat.zero_add
theorem pq {G : Gt} (hG : Ac G) : Gd G 145 (AA 0 Qm) := by
 refine gr (fn := Tryz.f145) (n := 1) rfl hG ?_ (hs := fun _ p => Rj _)
 rintro ⟨x, ⟨⟩⟩ hpre
 simp -implicitDefEqProofs only [Tryz.f145, go_sem, seval] at hpre ⊢
 obtain ⟨_, ⟨h1, _⟩, ⟨h2, _⟩⟩ := hpre
 with_reducible repeat' (first | apply ai | intro _ | ((first | apply s1 | apply s2 | apply s3 | apply s4) <;> intro hb <;> simp -implicitDefEqProofs only [hb, go_sem, seval] <;> try simp only [qz] at hb))
 all_goals (try simp only [maxLen, lm, List.length_nil] at *)
 all_goals first | rfl | omega | (simp_all; done) | skip
end
def sm : Ct := Aj (lc Vb.ag l0) (fun p => Gf p.1) (fun p => U5 p.1)
section
attribute [local go_sem] Qm lm List.length_append List.length_cons List.length_nil List.map_append List.mem_singleton forall_eq AS.nilb AS.renb Bool.not_false Bool.not_true List.set_cons_zero List.set_cons_succ List.set_nil
set_option maxHeartbeats 1600000 in
theorem uq {G : Gt} (hG : Ac G) (hh : G.e 145 = AA 0 Qm) : Gd G 91 (AA 0 sm) := by
 refine PF (dp := fun n => !(Nat.beq n 100002 || Nat.beq n 100004)) (fn := Tryz.f91) (n := 1) rfl hG ?_ (hs := fun _ p => K6 _)
 rintro ⟨s, ⟨⟩⟩ hpre
 simp -implicitDefEqProofs only [Tryz.f91, go_sem, hh, seval] at hpre ⊢
 have hpre' : HA GQ s.items := hpre
 with_reducible repeat' (first | apply ai | intro _ | ((first | apply s1 | apply s2 | apply s3 | apply s4) <;> intro hb <;> simp -implicitDefEqProofs only [hb, go_sem, hh, seval] <;> try simp only [qz] at hb))
 all_goals first | rfl | skip
 refine Am (Le.nilb 1003 1 1901 true 5 rfl rfl rfl) (Af ?_)
 simp -implicitDefEqProofs only [go_sem, hh, seval]
 refine AC [] (ι := {i : Nat // i ≤ s.items.length}) (fun p => ⟨[(1, .pb 1001 0), (2, .pb 1002 0), (3, .pb 1003 0), (4, .t (.v (.int .i64 p.1)))], [(1001, some (.box ((FG s).map .t))), (1002, some (.box [.t (.v (.int .i64 0)), .nil])), (1003, some (.box [.t (.v (.int .i64 s.last)), .h 1901])), (1901, some (.arr true 5 ((s.items.take p.1).map Ar)))]⟩) (fun p => s.items.length - p.1) ⟨0, by simp⟩ rfl ?_ ?_
 ·simp -implicitDefEqProofs only [go_sem, hh, seval]
  try simp
 ·rintro ⟨i, hi⟩
  by_cases hlt : (i : Int) < s.items.length
  ·have hok := hpre'.at (i := i) (by omega)
   have hlen : (s.items.take i).length = i := by simp; omega
   have hmax := hpre'.1
   simp -implicitDefEqProofs only [hlt, decide_true, tn, go_sem, hh, seval]
   with_reducible repeat' (first | apply ai | intro _ | ((first | apply s1 | apply s2 | apply s3 | apply s4) <;> intro hb <;> simp -implicitDefEqProofs only [hb, go_sem, hh, seval] <;> try simp only [qz] at hb))
   all_goals (try simp only [maxLen] at *)
   all_goals first | rfl | omega | assumption | decide | skip
   refine Am (Le.renb 1003 1 1024 1901 rfl rfl rfl rfl) (Af ?_)
   simp -implicitDefEqProofs only [go_sem, hh, seval]
   with_reducible repeat' (first | apply ai | intro _ | ((first | apply s1 | apply s2 | apply s3 | apply s4) <;> intro hb <;> simp -implicitDefEqProofs only [hb, go_sem, hh, seval] <;> try simp only [qz] at hb))
   all_goals first | rfl | omega | decide | skip
   refine ⟨⟨i + 1, by omega⟩, by dsimp only; omega, ?_⟩
   simp -implicitDefEqProofs only [go_sem, hh, seval]
   simp only [Ay Ar (show i < s.items.length by omega)]
   with_reducible repeat' (first | apply ai | intro _ | ((first | apply s1 | apply s2 | apply s3 | apply s4) <;> intro hb <;> simp -implicitDefEqProofs only [hb, go_sem, hh, seval] <;> try simp only [qz] at hb))
   all_goals first | rfl | (simp; done)
  ·simp -implicitDefEqProofs only [hlt, decide_false, go_sem, hh, seval]
   with_reducible repeat' (first | apply ai | intro _ | ((first | apply s1 | apply s2 | apply s3 | apply s4) <;> intro hb <;> simp -implicitDefEqProofs only [hb, go_sem, hh, seval] <;> try simp only [qz] at hb))
   all_goals first | rfl | omega | skip
   rw [List.take_of_length_le (by omega)]
end
def IQ (x : Im) (k : Nat) : Im := ⟨x.id, x.frm, x.to.take k ++ x.to.drop (k + 1), x.body⟩
def VL (xs : List Im) (i k : Nat) : List Im := if (IQ (xs.getD i default) k).to = [] then xs.take i ++ xs.drop (i + 1) else xs.take i ++ (IQ (xs.getD i default) k :: xs.drop (i + 1))
def DF (s : Sp) (i k : Nat) : Sp := ⟨s.last, VL s.items i k⟩
def lE : Ct := Aj (lc Vb.ag (lc BU (lc BU l0))) (fun p => Gf p.1 ∧ 0 ≤ p.2.1 ∧ p.2.1 < p.1.items.length ∧ 0 ≤ p.2.2.1 ∧ p.2.2.1 < (p.1.items.getD p.2.1.toNat default).to.length) (fun p => .agg ((FG (DF p.1 p.2.1.toNat p.2.2.1.toNat)).map .t))
section
attribute [local go_sem] Qm LR KX List.take_length List.drop_zero List.length_take List.length_drop lm List.length_append List.length_cons List.length_nil List.map_append List.map_nil List.map_cons List.nil_append Nat.zero_add List.mem_singleton forall_eq Bool.not_true Bool.not_false
set_option maxHeartbeats 1600000 in
theorem ur {G : Gt} (hG : Ac G) (hh : G.e 145 = AA 0 Qm) : Gd G 92 (AA 1 lE) := by
 refine PF (dp := fun n => Nat.ble 100000 n && !(Nat.beq n 100002)) (fn := Tryz.f92) (n := 3) rfl hG ?_
 rintro ⟨s, i, k, ⟨⟩⟩ hpre
 obtain ⟨hok, hi0, hi1, hk0, hk1⟩ := hpre
 dsimp only at hi0 hi1 hk0 hk1 ⊢
 obtain ⟨ni, rfl⟩ := Int.eq_ofNat_of_zero_le hi0
 obtain ⟨nk, rfl⟩ := Int.eq_ofNat_of_zero_le hk0
 have hok' : HA GQ s.items := hok
 simp only [tn] at hk1 ⊢
 have hx := hok'.at (i := ni) (by omega)
 have hmax := hok'.1
 have hmx : ((s.items.getD ni default).to.length : Int) ≤ 1048576 := hx.2.1.1
 have hi2 : ni < s.items.length := by omega
 have hk2 : nk < (s.items.getD ni default).to.length := by omega
 have e1 : ((ni : Int) + 1).toNat = ni + 1 := by omega
 have e2 : ((nk : Int) + 1).toNat = nk + 1 := by omega
 simp -implicitDefEqProofs only [Tryz.f92, tn, go_sem, hh, seval]
 with_reducible repeat' (first | apply ai | intro _ | ((first | apply s1 | apply s2 | apply s3 | apply s4) <;> intro hb <;> simp -implicitDefEqProofs only [hb, go_sem, hh, seval] <;> try simp only [qz] at hb))
 all_goals first | rfl | omega | assumption | decide | skip
 refine Am (Le.frzL [1014]) (Af ?_)
 simp -implicitDefEqProofs only [go_sem, hh, seval]
 with_reducible repeat' (first | apply ai | intro _ | ((first | apply s1 | apply s2 | apply s3 | apply s4) <;> intro hb <;> simp -implicitDefEqProofs only [hb, go_sem, hh, seval] <;> try simp only [qz] at hb))
 all_goals (try simp only [maxLen, e1, e2, tn, List.take_length, List.drop_zero] at *)
 all_goals first | rfl | omega | assumption | decide | skip
 all_goals
  refine congrArg (T.sl 5) ?_
  simp only [DF, VL]
  first
   | (rw [if_neg (fun e => by have := congrArg List.length e; simp only [IQ, List.length_append, List.length_take, List.length_drop, List.length_nil] at this; omega)]; simp [IQ, Ar]; done)
   | (rw [if_pos (List.eq_nil_of_length_eq_zero (by simp only [IQ, List.length_append, List.length_take, List.length_drop]; omega))]; simp; done)
   | skip
end
theorem GI {α : Type} (p : α → Prop) : ∀ (xs : List α) (k : Nat), BD p k xs = -1 ∨ ((k : Int) ≤ BD p k xs ∧ BD p k xs < k + xs.length)
 | [], _ => .inl rfl
 | x :: t, k => by
   rw [BD]
   cases BA (p x)
   ·rcases GI p t (k + 1) with h | h
    ·exact .inl h
    ·simp only [cond_false, List.length_cons]; right; omega
   ·simp only [cond_true, List.length_cons]; right; omega
noncomputable def A7 (s : Sp) (n : Int) : Int := BD (fun x : Im => x.id = n) 0 s.items
noncomputable def B0 (x : Im) (a : Ad) : Int := BD (fun r : Rc => r.addr = a) 0 x.to
noncomputable def A3 (s : Sp) (n : Int) : Im := s.items.getD (A7 s n).toNat default
open Classical in
noncomputable def SG (s : Sp) (n : Int) (a : Ad) : Sp × Bool :=
 if CM s then (if A7 s n < 0 then (s, false) else if B0 (A3 s n) a < 0 then (s, false) else (DF s (A7 s n).toNat (B0 (A3 s n) a).toNat, true)) else (⟨0, []⟩, false)
def dt (p : Sp × Bool) : AV := .tup [.agg ((FG p.1).map .t), .t (.v (.bool p.2))]
theorem am {s : Sp} {n : Int} {a : Ad} (h : CM s) (hi : ¬ A7 s n < 0) (hk : ¬ B0 (A3 s n) a < 0) : SG s n a = (DF s (A7 s n).toNat (B0 (A3 s n) a).toNat, true) := by unfold SG; rw [if_pos h, if_neg hi, if_neg hk]
theorem CU {s : Sp} {n : Int} (h : ¬ A7 s n < 0) : 0 ≤ A7 s n ∧ A7 s n < s.items.length := by
 rcases GI (fun x : Im => x.id = n) s.items 0 with h1 | h1
 ·have : A7 s n = -1 := h1
  omega
 ·have : A7 s n < (0 : Nat) + s.items.length := h1.2
  omega
theorem HN {x : Im} {a : Ad} (h : ¬ B0 x a < 0) : 0 ≤ B0 x a ∧ B0 x a < x.to.length := by
 rcases GI (fun r : Rc => r.addr = a) x.to 0 with h1 | h1
 ·have : B0 x a = -1 := h1
  omega
 ·have : B0 x a < (0 : Nat) + x.to.length := h1.2
  omega
def Zr (t : Int) : Int := 2 * 2 ^ (t - 1).toNat
theorem Ns {a b : Nat} (h : a ≤ b) : (2 : Int) ^ a ≤ 2 ^ b := by
 have h1 := Nat.pow_le_pow_right (n := 2) (by omega) h
 have e : ∀ k : Nat, ((2 ^ k : Nat) : Int) = 2 ^ k := fun k => by simp
 rw [← e, ← e]
 omega
theorem Y3 {t : Int} {m : Nat} (h : t ≤ m + 1) : 2 ≤ Zr t ∧ Zr t ≤ 2 * 2 ^ m := by
 unfold Zr
 have h1 : (2 : Int) ^ (t - 1).toNat ≤ 2 ^ m := Ns (by omega)
 have h2 : (2 : Int) ^ 0 ≤ 2 ^ (t - 1).toNat := Ns (by omega)
 simp only [Int.pow_zero] at h2
 omega
def Uo (r : Rc) (w : Int) : Rc := ⟨r.addr, r.tries + 1, w + Zr (r.tries + 1)⟩
def RU (x : Im) (k : Nat) (w : Int) : Im := ⟨x.id, x.frm, x.to.set k (Uo (x.to.getD k default) w), x.body⟩
def PP (s : Sp) (i k : Nat) (w : Int) : Sp := ⟨s.last, s.items.set i (RU (s.items.getD i default) k w)⟩
def Nb (r : Rc) (w : Int) : Prop := r.tries + 1 ≥ 4 ∨ w + Zr (r.tries + 1) > 9999
instance (r : Rc) (w : Int) : Decidable (Nb r w) := by unfold Nb; infer_instance
def Jy (s : Sp) (i k : Nat) (w : Int) : Sp × Bool := if Nb ((s.items.getD i default).to.getD k default) w then (s, false) else (PP s i k w, true)
def jp : Ct := Aj (lc BU l0) (fun p => p.1 ≤ 40) (fun p => .t (.v (.int .i64 (Zr p.1))))
theorem pt {G : Gt} (hG : Ac G) : Gd G 146 (AA 0 jp) := by
 refine gr (fn := Tryz.f146) (n := 1) rfl hG ?_
 rintro ⟨t, ⟨⟩⟩ hpre
 simp -implicitDefEqProofs only [Tryz.f146, go_sem, seval] at hpre ⊢
 refine AC [] (ι := {j : Nat // j ≤ (t - 1).toNat}) (fun p => ⟨[(0, .t (.v (.int .i64 t))), (3, .t (.v (.int .i64 (2 * 2 ^ p.1)))), (4, .t (.v (.int .i64 (p.1 + 1))))], []⟩) (fun p => (t - 1).toNat - p.1) ⟨0, by simp⟩ rfl ?_ ?_
 ·simp -implicitDefEqProofs only [go_sem, seval]
  try simp
 ·rintro ⟨j, hj⟩
  have hb : (2 : Int) ^ j ≤ 2 ^ 40 := Ns (by omega)
  have hp : (0 : Int) ≤ 2 ^ j := Int.le_of_lt (Int.pow_pos (by omega))
  have h40 : (2 : Int) ^ 40 = 1099511627776 := by decide
  simp -implicitDefEqProofs only [go_sem, seval]
  with_reducible repeat' (first | apply ai | intro _ | ((first | apply s1 | apply s2 | apply s3 | apply s4) <;> intro hb <;> simp -implicitDefEqProofs only [hb, go_sem, seval] <;> try simp only [qz] at hb))
  all_goals first | rfl | omega | skip
  ·refine ⟨⟨j + 1, by omega⟩, by dsimp only; omega, ?_⟩
   simp -implicitDefEqProofs only [go_sem, seval]
   with_reducible repeat' (first | apply ai | intro _ | ((first | apply s1 | apply s2 | apply s3 | apply s4) <;> intro hb <;> simp -implicitDefEqProofs only [hb, go_sem, seval] <;> try simp only [qz] at hb))
   all_goals first | rfl | (simp; omega) | (refine congrArg (fun z => AV.t (T.v (Value.int .i64 z))) ?_; rw [Int.pow_succ]; omega) | (refine congrArg (fun z => AV.t (T.v (Value.int .i64 z))) ?_; simp; done)
  ·rw [show Zr t = 2 * 2 ^ j from by unfold Zr; rw [show (t - 1).toNat = j from by omega]]
def sn : Ct := Aj (lc Vb.ag (lc BU (lc BU (lc BU l0)))) (fun p => Gf p.1 ∧ CM p.1 ∧ (0 ≤ p.2.1 ∧ p.2.1 < p.1.items.length) ∧ (0 ≤ p.2.2.1 ∧ p.2.2.1 < (p.1.items.getD p.2.1.toNat default).to.length) ∧ 0 ≤ p.2.2.2.1 ∧ p.2.2.2.1 ≤ 9999) (fun p => dt (Jy p.1 p.2.1.toNat p.2.2.1.toNat p.2.2.2.1))
section
attribute [local go_sem] Qm jp LR KX List.take_length List.drop_zero List.length_take List.length_drop lm List.length_append List.length_cons List.length_nil List.map_append List.map_nil List.map_cons List.nil_append Nat.zero_add List.mem_singleton forall_eq Bool.not_true Bool.not_false dt PP Ai Bh List.length_set
set_option maxHeartbeats 1600000 in
theorem ut {G : Gt} (hG : Ac G) (hh : G.e 145 = AA 0 Qm ∧ G.e 146 = AA 0 jp) : Gd G 93 (AA 1 sn) := by
 refine PF (dp := fun n => Nat.ble 100000 n) (fn := Tryz.f93) (n := 4) rfl hG ?_
 rintro ⟨s, i, k, w, ⟨⟩⟩ hpre
 dsimp only at hpre ⊢
 obtain ⟨hok, hsp, ⟨hi0, hi1⟩, ⟨hk0, hk1⟩, hw0, hw1⟩ := hpre
 obtain ⟨ni, rfl⟩ := Int.eq_ofNat_of_zero_le hi0
 obtain ⟨nk, rfl⟩ := Int.eq_ofNat_of_zero_le hk0
 have hok' : HA GQ s.items := hok
 simp only [tn] at hk1 ⊢
 have hx := hok'.at (i := ni) (by omega)
 have hmax := hok'.1
 have hmx : ((s.items.getD ni default).to.length : Int) ≤ 1048576 := hx.2.1.1
 have hi2 : ni < s.items.length := by omega
 have hk2 : nk < (s.items.getD ni default).to.length := by omega
 have hk3 : nk < ((s.items.getD ni default).to.map BP).length := by rw [lm]; exact hk2
 have hr := (hsp.1 _ (AB hi2)).1.1 _ (AB hk2)
 obtain ⟨_, ⟨ht0, ht1⟩, _⟩ := hr
 obtain ⟨hp0, hp1⟩ := Y3 (t := ((s.items.getD ni default).to.getD nk default).tries + 1) (m := 3) (by omega)
 have h8 : (2 : Int) * 2 ^ 3 = 16 := by decide
 by_cases hno : Nb ((s.items.getD ni default).to.getD nk default) w
 ·unfold Jy
  rw [if_pos hno]
  rcases hno with hno | hno
  ·simp -implicitDefEqProofs only [Tryz.f93, tn, hno, decide_true, go_sem, hh, seval]
   with_reducible repeat' (first | apply ai | intro _ | ((first | apply s1 | apply s2 | apply s3 | apply s4) <;> intro hb <;> simp -implicitDefEqProofs only [hb, go_sem, hh, seval] <;> try simp only [qz] at hb))
   all_goals first | rfl | omega | assumption | decide | skip
   all_goals trace_state
  ·simp -implicitDefEqProofs only [Tryz.f93, tn, hno, decide_true, go_sem, hh, seval]
   with_reducible repeat' (first | apply ai | intro _ | ((first | apply s1 | apply s2 | apply s3 | apply s4) <;> intro hb <;> simp -implicitDefEqProofs only [hb, go_sem, hh, seval] <;> try simp only [qz] at hb))
   all_goals first | rfl | omega | assumption | decide | skip
   all_goals trace_state
 ·unfold Jy
  rw [if_neg hno]
  have hno1 : ¬ ((s.items.getD ni default).to.getD nk default).tries + 1 ≥ 4 := fun h => hno (.inl h)
  have hno2 : ¬ w + Zr (((s.items.getD ni default).to.getD nk default).tries + 1) > 9999 := fun h => hno (.inr h)
  simp -implicitDefEqProofs only [Tryz.f93, tn, Oi hk3, hno1, hno2, decide_false, go_sem, hh, seval]
  with_reducible repeat' (first | apply ai | intro _ | ((first | apply s1 | apply s2 | apply s3 | apply s4) <;> intro hb <;> simp -implicitDefEqProofs only [hb, go_sem, hh, seval] <;> try simp only [qz] at hb))
  all_goals first | rfl | omega | assumption | decide | skip
  refine congrArg (T.sl 5) ?_
  rw [n9, n8]
  rfl
end
section
variable {s : Sp} {n : Int} {a : Ad} {w : Int}
end
theorem M1 {s : AS} {K : Kt} : SK [] false s K = (K (.t (.v (.bool true))) s ∧ K (.t (.v (.bool false))) s) := propext ⟨fun h => ⟨h.1 rfl, h.2⟩, fun h => ⟨fun _ => h.1, h.2⟩⟩
theorem Mz {e : List T} {es : List (List T)} {s : AS} {K : Kt} : SK (e :: es) false s K = K (.t (.v (.bool false))) s := propext ⟨fun h => h.2, fun h => ⟨fun e => (by cases e), h⟩⟩
theorem VC {xs : List Rc} {i : Nat} (h : i < xs.length) : ((xs.map Rc.addr).take (i + 1)).map Ap = ((xs.map Rc.addr).take i).map Ap ++ [[.v (.string (xs.getD i default).addr.user), .v (.string (xs.getD i default).addr.domain)]] := by
 have e : (xs.map Rc.addr).getD i default = (xs.getD i default).addr := by
  simp only [List.getD_eq_getElem?_getD, List.getElem?_map, List.getElem?_eq_getElem h, Option.map_some, Option.getD_some]
 rw [Ay Ap (by rw [lm]; exact h), e]
 rfl
def sd : Ct := Aj (lc BU l0) (fun p => True) (fun p => .t (.v (.bool (BA (0 ≤ p.1 ∧ p.1 ≤ 9999)))))
section
attribute [local go_sem] WX
theorem tq {G : Gt} (hG : Ac G) (hh : G.e 27 = AA 0 WX) : Gd G 28 (AA 0 sd) := by
 refine gr (fn := Tryz.f28) (n := 1) rfl hG ?_
 rintro ⟨n, ⟨⟩⟩ hpre
 simp -implicitDefEqProofs only [Tryz.f28, go_sem, hh, seval] at hpre ⊢
 with_reducible repeat' (first | apply ai | intro _ | ((first | apply s1 | apply s2 | apply s3 | apply s4) <;> intro hb <;> simp -implicitDefEqProofs only [hb, go_sem, hh, seval] <;> try simp only [qz] at hb))
 all_goals first | rfl | skip
end
def jQ : Ct := Aj (lc Jr.ag l0) (fun p => GQ p.1) (fun p => .t (.v (.bool (BA (Dk p.1)))))
section
attribute [local go_sem] bh WX sd k9 jt lA LR KX List.take_length List.drop_zero List.length_take List.length_drop lm List.length_append List.length_cons List.length_nil List.map_append List.map_nil List.map_cons List.nil_append Nat.zero_add List.mem_singleton forall_eq Bool.not_true Bool.not_false AK AM
set_option maxHeartbeats 1600000 in
theorem pB {G : Gt} (hG : Ac G) (hh : G.e 47 = AA 0 bh ∧ G.e 27 = AA 0 WX ∧ G.e 28 = AA 0 sd ∧ G.e 45 = AA 0 k9 ∧ G.e 153 = AA 0 jt ∧ G.e 46 = AA 0 lA) : Gd G 102 (AA 0 jQ) := by
 refine gr (fn := Tryz.f102) (n := 1) rfl hG ?_
 rintro ⟨x, ⟨⟩⟩ hpre
 simp -implicitDefEqProofs only [Tryz.f102, go_sem, hh, seval] at hpre ⊢
 obtain ⟨⟨_, hfd⟩, ⟨hl1, hto⟩, ⟨hl2, hbd⟩⟩ := hpre
 have hfd' : x.frm.domain.size ≤ 2000000 := by have : x.frm.domain.size ≤ 1048576 := hfd; omega
 have hbd' : ∀ s ∈ x.body, s.size ≤ 2000000 := fun s hs => by have : s.size ≤ 1048576 := hbd s hs; omega
 have hto' : ∀ j, j < x.to.length → (x.to.getD j default).addr.domain.size ≤ 2000000 := fun j hj => by have : (x.to.getD j default).addr.domain.size ≤ 1048576 := (hto _ (AB hj)).2; omega
 with_reducible repeat' (first | apply ai | intro _ | ((first | apply s1 | apply s2 | apply s3 | apply s4) <;> intro hb <;> simp -implicitDefEqProofs only [hb, go_sem, hh, seval] <;> try simp only [qz] at hb))
 all_goals first | rfl | skip
 refine AC [(3, 1903, true, 2)] (ι := {i : Nat // i ≤ x.to.length ∧ ∀ j, j < i → OY (x.to.getD j default)}) (fun p => ⟨[(1, .pb 1001 0), (3, .h 1903), (7, .t (.sl 4 (x.to.map BP))), (8, .t (.v (.int .i64 x.to.length))), (9, .t (.v (.int .i64 p.1)))], [(1001, some (.box ((Ar x).map .t))), (1903, some (.arr true 2 (((x.to.map Rc.addr).take p.1).map Ap)))]⟩) (fun p => x.to.length - p.1) ⟨0, by simp, by simp⟩ rfl ?_ ?_
 ·simp -implicitDefEqProofs only [go_sem, hh, seval]
  try simp
 ·rintro ⟨i, hi, hall⟩
  by_cases hlt : (i : Int) < x.to.length
  ·have hd := hto' i (by omega)
   have hlen : ((x.to.map Rc.addr).take i).length = i := by simp; omega
   simp -implicitDefEqProofs only [hlt, decide_true, tn, go_sem, hh, seval]
   with_reducible repeat' (first | apply ai | intro _ | ((first | apply s1 | apply s2 | apply s3 | apply s4) <;> intro hb <;> simp -implicitDefEqProofs only [hb, go_sem, hh, seval] <;> try simp only [qz] at hb))
   all_goals (try simp only [maxLen] at *)
   all_goals first | rfl | omega | assumption | decide | skip
   all_goals first
    | (rw [AQ (fun h => by have h1 := h.1 _ (AB (xs := x.to) (j := i) (by omega)); first | exact hb h1.1 | exact hb h1.2.1 | exact hb h1.2.2)]; done)
    | skip
   refine ⟨⟨i + 1, by omega, DC (P := OY) hall ⟨by assumption, by assumption, by assumption⟩⟩, by dsimp only; omega, ?_⟩
   simp -implicitDefEqProofs only [go_sem, hh, seval]
   simp only [VC (show i < x.to.length by omega)]
   with_reducible repeat' (first | apply ai | intro _ | ((first | apply s1 | apply s2 | apply s3 | apply s4) <;> intro hb <;> simp -implicitDefEqProofs only [hb, go_sem, hh, seval] <;> try simp only [qz] at hb))
   all_goals first | rfl | (simp; done) | (simp; omega)
  ·have hA : ∀ r ∈ x.to, OY r := BH fun j hj => hall j (by omega)
   simp -implicitDefEqProofs only [hlt, decide_false, go_sem, hh, seval]
   with_reducible repeat' (first | apply ai | intro _ | ((first | apply s1 | apply s2 | apply s3 | apply s4) <;> intro hb <;> simp -implicitDefEqProofs only [hb, go_sem, hh, seval] <;> try simp only [qz] at hb))
   all_goals (try simp only [maxLen] at *)
   all_goals first | rfl | omega | assumption | decide | exact hbd' _ (by assumption) | skip
   all_goals (try rw [List.take_of_length_le (by rw [lm]; omega)] at hb)
   all_goals first
    | (rw [AP]
       exact ⟨fun h => ⟨hA, hb, by assumption, by assumption, by omega, h⟩, fun h => h.2.2.2.2.2⟩)
    | (rw [AQ]
       intro h
       first
        | exact hb h.2.1
        | exact hb h.2.2.1
        | exact hb h.2.2.2.1
        | exact hb (by have := h.2.2.2.2.1; omega))
    | skip
end
def xU : Ct := Aj (lc Vb.ag l0) (fun p => Gf p.1) (fun p => .t (.v (.bool (BA (CM p.1)))))
section
attribute [local go_sem] jQ WX LR KX List.take_length List.drop_zero List.length_take List.length_drop lm List.length_append List.length_cons List.length_nil List.map_append List.map_nil List.map_cons List.nil_append Nat.zero_add List.mem_singleton forall_eq Bool.not_true Bool.not_false AK AM
set_option maxHeartbeats 1600000 in
theorem t4 {G : Gt} (hG : Ac G) (hh : G.e 102 = AA 0 jQ ∧ G.e 27 = AA 0 WX) : Gd G 43 (AA 0 xU) := by
 refine gr (fn := Tryz.f43) (n := 1) rfl hG ?_
 rintro ⟨s, ⟨⟩⟩ hpre
 simp -implicitDefEqProofs only [Tryz.f43, go_sem, hh, seval] at hpre ⊢
 have hok' : HA GQ s.items := hpre
 have hmx := hok'.1
 with_reducible repeat' (first | apply ai | intro _ | ((first | apply s1 | apply s2 | apply s3 | apply s4) <;> intro hb <;> simp -implicitDefEqProofs only [hb, go_sem, hh, seval] <;> try simp only [qz] at hb))
 all_goals first | rfl | skip
 refine AC [] (ι := {i : Nat // i ≤ s.items.length ∧ (∀ j, j < i → Dk (s.items.getD j default) ∧ (s.items.getD j default).id ≤ s.last) ∧ ∀ j, 0 < j → j < i → (s.items.getD (j - 1) default).id < (s.items.getD j default).id}) (fun p => ⟨[(1, .pb 1001 0), (3, .t (.v (.int .i64 (if p.1 = 0 then 0 else (s.items.getD (p.1 - 1) default).id)))), (7, .t (.sl 5 (s.items.map Ar))), (8, .t (.v (.int .i64 s.items.length))), (9, .t (.v (.int .i64 p.1)))], [(1001, some (.box ((FG s).map .t)))]⟩) (fun p => s.items.length - p.1) ⟨0, by simp, by simp, by simp⟩ rfl ?_ ?_
 ·simp -implicitDefEqProofs only [go_sem, hh, seval]
  try simp
 ·rintro ⟨i, hi, hall, hasc⟩
  have hgen : ∀ L : Int, L = (if i = 0 then 0 else (s.items.getD (i - 1) default).id) → True := fun _ _ => trivial
  obtain ⟨L, hL⟩ : ∃ L : Int, L = (if i = 0 then 0 else (s.items.getD (i - 1) default).id) := ⟨_, rfl⟩
  by_cases hlt : (i : Int) < s.items.length
  ·have hok := hok'.at (i := i) (by omega)
   dsimp only
   rw [← hL]
   simp -implicitDefEqProofs only [hlt, decide_true, tn, go_sem, hh, seval]
   with_reducible repeat' (first | apply ai | intro _ | ((first | apply s1 | apply s2 | apply s3 | apply s4) <;> intro hb <;> simp -implicitDefEqProofs only [hb, go_sem, hh, seval] <;> try simp only [qz] at hb))
   all_goals (try simp only [maxLen] at *)
   all_goals first | rfl | omega | assumption | decide | skip
   all_goals (try have h0 := (show Dk (s.items.getD i default) from by assumption).2.2.1)
   all_goals first
    | (rw [AQ]
       intro h
       have h1 := h.1 _ (AB (xs := s.items) (j := i) (by omega))
       first
        | exact hb h1.1
        | omega
        | (by_cases e : i = 0
           ·rw [if_pos e] at hL; omega
           ·rw [if_neg e] at hL
            have h2 := h.2.1 i (by omega) (by omega)
            omega))
    | skip
   refine ⟨⟨i + 1, by omega, DC (P := fun x : Im => Dk x ∧ x.id ≤ s.last) hall ⟨by assumption, by omega⟩, fun j h0 hj => ?_⟩, by dsimp only; omega, ?_⟩
   ·by_cases e : j = i
    ·subst e
     rw [if_neg (by omega)] at hL
     omega
    ·exact hasc j h0 (by omega)
   ·simp -implicitDefEqProofs only [go_sem, hh, seval]
    try simp
  ·dsimp only
   rw [← hL]
   simp -implicitDefEqProofs only [hlt, decide_false, go_sem, hh, seval]
   with_reducible repeat' (first | apply ai | intro _ | ((first | apply s1 | apply s2 | apply s3 | apply s4) <;> intro hb <;> simp -implicitDefEqProofs only [hb, go_sem, hh, seval] <;> try simp only [qz] at hb))
   all_goals (try simp only [maxLen] at *)
   all_goals first | rfl | omega | assumption | decide | skip
   ·refine congrArg (fun b => T.v (Value.bool b)) ?_
    rw [← A4, AP]
    exact ⟨fun h => ⟨BH fun j hj => hall j (by omega), fun j h0 hj => hasc j h0 (by omega), hb, by omega⟩, fun h => by have := h.2.2.2; omega⟩
   ·rw [AQ (fun h => hb h.2.2.1)]
end
def jm : Ct := Aj (lc QA.asl l0) (fun p => (p.1.length : Int) ≤ 1048576) (fun p => .o true 4 (p.1.map BP))
section
attribute [local go_sem] M1 Mz lm List.nil_append List.map_nil List.map_cons List.length_cons List.length_nil
theorem pj {G : Gt} (hG : Ac G) : Gd G 138 (AA 0 jm) := by
 refine gr (fn := Tryz.f138) (n := 1) rfl hG ?_ (hs := fun _ _ => .deep _ _)
 rintro ⟨xs, ⟨⟩⟩ hpre
 dsimp only at hpre ⊢
 cases xs with
 | nil =>
   simp -implicitDefEqProofs only [Tryz.f138, go_sem, seval]
   with_reducible repeat' (first | apply ai | intro _ | ((first | apply s1 | apply s2 | apply s3 | apply s4) <;> intro hb <;> simp -implicitDefEqProofs only [hb, go_sem, seval] <;> try simp only [qz] at hb))
   all_goals (try simp only [maxLen, lm] at *)
   all_goals first | rfl | omega | exact of_eq_true (Mn []) | (simp; done) | skip
 | cons x xs =>
   simp only [List.length_cons] at hpre
   simp -implicitDefEqProofs only [Tryz.f138, go_sem, seval]
   with_reducible repeat' (first | apply ai | intro _ | ((first | apply s1 | apply s2 | apply s3 | apply s4) <;> intro hb <;> simp -implicitDefEqProofs only [hb, go_sem, seval] <;> try simp only [qz] at hb))
   all_goals (try simp only [maxLen, lm] at *)
   all_goals first | rfl | omega | exact of_eq_true (Mn (x :: xs)) | exact of_eq_true (YE (x :: xs)) _ (by assumption) | (simp; done) | skip
end
def lD : Ct := Aj (lc Ao.asl l0) (fun p => (p.1.length : Int) ≤ 1048576) (fun p => .o true 1 (p.1.map AG))
section
attribute [local go_sem] M1 Mz lm List.nil_append List.map_nil List.map_cons List.length_cons List.length_nil
theorem uX {G : Gt} (hG : Ac G) : Gd G 68 (AA 0 lD) := by
 refine gr (fn := Tryz.f68) (n := 1) rfl hG ?_ (hs := fun _ _ => .deep _ _)
 rintro ⟨xs, ⟨⟩⟩ hpre
 dsimp only at hpre ⊢
 cases xs with
 | nil =>
   simp -implicitDefEqProofs only [Tryz.f68, go_sem, seval]
   with_reducible repeat' (first | apply ai | intro _ | ((first | apply s1 | apply s2 | apply s3 | apply s4) <;> intro hb <;> simp -implicitDefEqProofs only [hb, go_sem, seval] <;> try simp only [qz] at hb))
   all_goals (try simp only [maxLen, lm] at *)
   all_goals first | rfl | omega | exact of_eq_true (Jq []) | (simp; done) | skip
 | cons x xs =>
   simp only [List.length_cons] at hpre
   simp -implicitDefEqProofs only [Tryz.f68, go_sem, seval]
   with_reducible repeat' (first | apply ai | intro _ | ((first | apply s1 | apply s2 | apply s3 | apply s4) <;> intro hb <;> simp -implicitDefEqProofs only [hb, go_sem, seval] <;> try simp only [qz] at hb))
   all_goals (try simp only [maxLen, lm] at *)
   all_goals first | rfl | omega | exact of_eq_true (Jq (x :: xs)) | exact of_eq_true (S8 (x :: xs)) _ (by assumption) | (simp; done) | skip
end
def xl : Ct := Aj (lc Vb.ag l0) (fun p => Gf p.1) (fun p => U5 p.1)
section
attribute [local go_sem] jm lD lm List.length_append List.length_cons List.length_nil List.map_append List.mem_singleton forall_eq AS.nilb AS.renb Bool.not_false Bool.not_true List.set_cons_zero List.set_cons_succ List.set_nil
set_option maxHeartbeats 1600000 in
theorem uf {G : Gt} (hG : Ac G) (hh : G.e 138 = AA 0 jm ∧ G.e 68 = AA 0 lD) : Gd G 74 (AA 0 xl) := by
 refine gr (fn := Tryz.f74) (n := 1) rfl hG ?_ (hs := fun _ p => K6 _)
 rintro ⟨s, ⟨⟩⟩ hpre
 simp -implicitDefEqProofs only [Tryz.f74, go_sem, hh, seval] at hpre ⊢
 have hok' : HA GQ s.items := hpre
 have hmx := hok'.1
 with_reducible repeat' (first | apply ai | intro _ | ((first | apply s1 | apply s2 | apply s3 | apply s4) <;> intro hb <;> simp -implicitDefEqProofs only [hb, go_sem, hh, seval] <;> try simp only [qz] at hb))
 all_goals first | rfl | skip
 refine AC [(3, 1903, true, 5)] (ι := {i : Nat // i ≤ s.items.length}) (fun p => ⟨[(1, .pb 1001 0), (2, .pb 1002 0), (3, .h 1903), (7, .t (.sl 5 (s.items.map Ar))), (8, .t (.v (.int .i64 s.items.length))), (9, .t (.v (.int .i64 p.1)))], [(1001, some (.box ((FG s).map .t))), (1002, some (.box [.t (.v (.int .i64 0)), .nil])), (1903, some (.arr true 5 ((s.items.take p.1).map Ar)))]⟩) (fun p => s.items.length - p.1) ⟨0, by simp⟩ rfl ?_ ?_
 ·simp -implicitDefEqProofs only [go_sem, hh, seval]
  try simp
 ·rintro ⟨i, hi⟩
  by_cases hlt : (i : Int) < s.items.length
  ·have hok := hok'.at (i := i) (by omega)
   obtain ⟨_, ⟨hl1, _⟩, ⟨hl2, _⟩⟩ := hok
   have hlen : (s.items.take i).length = i := by simp; omega
   simp -implicitDefEqProofs only [hlt, decide_true, tn, go_sem, hh, seval]
   with_reducible repeat' (first | apply ai | intro _ | ((first | apply s1 | apply s2 | apply s3 | apply s4) <;> intro hb <;> simp -implicitDefEqProofs only [hb, go_sem, hh, seval] <;> try simp only [qz] at hb))
   all_goals (try simp only [maxLen] at *)
   all_goals first | rfl | omega | assumption | decide | skip
   refine ⟨⟨i + 1, by omega⟩, by dsimp only; omega, ?_⟩
   simp -implicitDefEqProofs only [go_sem, hh, seval]
   simp only [Ay Ar (show i < s.items.length by omega)]
   with_reducible repeat' (first | apply ai | intro _ | ((first | apply s1 | apply s2 | apply s3 | apply s4) <;> intro hb <;> simp -implicitDefEqProofs only [hb, go_sem, hh, seval] <;> try simp only [qz] at hb))
   all_goals first | rfl | (simp; done) | skip
  ·simp -implicitDefEqProofs only [hlt, decide_false, go_sem, hh, seval]
   with_reducible repeat' (first | apply ai | intro _ | ((first | apply s1 | apply s2 | apply s3 | apply s4) <;> intro hb <;> simp -implicitDefEqProofs only [hb, go_sem, hh, seval] <;> try simp only [qz] at hb))
   all_goals (try simp only [maxLen] at *)
   all_goals first | rfl | omega | assumption | decide | skip
   rw [List.take_of_length_le (by omega)]
end
theorem uT {p : Prop} (h : p) : T.v (Value.bool true) = T.v (Value.bool (BA p)) := by rw [An h]
theorem uF {p : Prop} (h : ¬ p) : T.v (Value.bool false) = T.v (Value.bool (BA p)) := by rw [AQ h]
theorem uE {p q : Prop} (h : p ↔ q) : T.v (Value.bool (BA p)) = T.v (Value.bool (BA q)) := by rw [AP h]
theorem uN {p q : Prop} (h : ¬ p ↔ q) : T.v (Value.bool (!BA p)) = T.v (Value.bool (BA q)) := by rw [D8, AP h]
theorem uB {b : Bool} {q : Prop} (h : b = true ↔ q) : T.v (Value.bool b) = T.v (Value.bool (BA q)) := by
 cases b
 ·exact uF (fun q => by have := h.2 q; simp at this)
 ·exact uT (h.1 rfl)
theorem uD {p q : Prop} [Decidable p] (h : p ↔ q) : T.v (Value.bool (decide p)) = T.v (Value.bool (BA q)) := by rw [← A4, AP h]
def EY (a b : ByteArray) : Int := Lib.compareBytes (bl a) (bl b)
theorem Wb : ∀ a b : List UInt8, (Lib.compareBytes a b < 0) ↔ Op.bytesLess a b = true
 | [], [] => by simp [Lib.compareBytes, Op.bytesLess]
 | [], _ :: _ => by simp [Lib.compareBytes, Op.bytesLess]
 | _ :: _, [] => by simp [Lib.compareBytes, Op.bytesLess]
 | a :: x, b :: y => by
   have ih := Wb x y
   simp only [Lib.compareBytes, Op.bytesLess, Bool.or_eq_true, Bool.and_eq_true, decide_eq_true_eq, beq_iff_eq]
   by_cases h1 : a < b
   ·simp [h1]
   ·by_cases h2 : b < a
    ·have h3 : ¬ a = b := fun e => by subst e; exact absurd h2 (UInt8.lt_irrefl _)
     simp [h1, h2, h3]
    ·have h3 : a = b := UInt8.le_antisymm (UInt8.not_lt.1 h2) (UInt8.not_lt.1 h1)
     have hir := UInt8.lt_irrefl b
     simp only [h3, hir, if_false, false_or, true_and]
     exact ih
theorem fL : ∀ a b : List UInt8, (Lib.compareBytes a b = 0) ↔ a = b
 | [], [] => by simp [Lib.compareBytes]
 | [], _ :: _ => by simp [Lib.compareBytes]
 | _ :: _, [] => by simp [Lib.compareBytes]
 | a :: x, b :: y => by
   have ih := fL x y
   simp only [Lib.compareBytes, List.cons.injEq]
   by_cases h1 : a < b
   ·have h3 : ¬ a = b := fun e => by subst e; exact absurd h1 (UInt8.lt_irrefl _)
    simp [h1, h3]
   ·by_cases h2 : b < a
    ·have h3 : ¬ a = b := fun e => by subst e; exact absurd h2 (UInt8.lt_irrefl _)
     simp [h1, h2, h3]
    ·have h3 : a = b := UInt8.le_antisymm (UInt8.not_lt.1 h2) (UInt8.not_lt.1 h1)
     simp only [h3, true_and]
     rw [if_neg (UInt8.lt_irrefl b), if_neg (UInt8.lt_irrefl b)]
     exact ih
theorem ND (a b : ByteArray) : EY a b < 0 ↔ Ej a b = true := by
 unfold EY Ej
 rw [Wb, GO, GO]
theorem Gu (a b : ByteArray) : EY a b = 0 ↔ a = b := by
 unfold EY
 rw [fL]
 exact ⟨C5, fun e => by rw [e]⟩
def Vq (a b : Ad) : Prop := Ej a.domain b.domain = true ∨ (a.domain = b.domain ∧ Ej a.user b.user = true)
def JX (a b : Ad) : Int := if EY a.domain b.domain = 0 then EY a.user b.user else EY a.domain b.domain
theorem IF (a b : Ad) : JX a b < 0 ↔ Vq a b := by
 unfold JX Vq
 by_cases h : EY a.domain b.domain = 0
 ·rw [if_pos h, ND]
  have h2 : ¬ Ej a.domain b.domain = true := fun q => by have := (ND _ _).2 q; omega
  exact ⟨fun q => .inr ⟨(Gu _ _).1 h, q⟩, fun q => q.elim (fun q => absurd q h2) fun q => q.2⟩
 ·rw [if_neg h, ND]
  exact ⟨.inl, fun q => q.elim id fun q => absurd ((Gu _ _).2 q.1) h⟩
def nY : List Int → Int
 | [] => 0
 | x :: r => if x = 0 then nY r else x
theorem sy {x y : Int} : D4.decL [[.v (.int .i64 x)], [.v (.int .i64 y)]] = some [x, y] := D4.decL_map [x, y]
theorem Ys {xs : List Int} {i : Nat} (h : i < xs.length) : nY (xs.drop i) = if xs.getD i default = 0 then nY (xs.drop (i + 1)) else xs.getD i default := by
 rw [Aa h]; rfl
def j8 : Ct := Aj (lc Ak (lc Ak l0)) (fun _ => True) (fun p => .t (.v (.int .i64 (EY p.1 p.2.1))))
theorem qS (m : Int) : FV Tryz.prog m 185 j8 := FV.of (r := fun (p : ByteArray × ByteArray × Unit) => .int .i64 (EY p.1 p.2.1)) (fun _ => trivial) fun p _ => by
 obtain ⟨s, c, ⟨⟩⟩ := p
 intro w pr vs hgl hv
 have := Hu hv
 subst this
 have he : Extern.find Tryz.f185 = some Extern.BytealgCompare.compare := by kernel_rfl
 rw [run_callFunc_extern (fn := Tryz.f185) (by kernel_rfl) (by kernel_rfl) rfl (by kernel_rfl) he]
 have h := Lib.run_compareString (P := Tryz.prog) s c w
 rw [show ([Value.string s, Value.string c].toArray) = #[.string s, .string c] from rfl, h]
 rfl
def Lc (c : Cf) : Prop := (∀ s ∈ c.own, D3 s) ∧ (∀ w ∈ c.ways, D3 w.ends ∧ D3 w.to) ∧ D3 c.name ∧ (c.own.length : Int) ≤ 3 ∧ (c.ways.length : Int) ≤ 4
def jw : Ct := Aj (lc Ak (lc Ak l0)) (fun p => True) (fun p => .t (.v (.int .i64 (EY p.1 p.2.1))))
section
attribute [local go_sem] j8
theorem p8 {G : Gt} (hG : Ac G) (hh : G.e 185 = AA 3 j8) : Gd G 156 (AA 0 jw) := by
 refine gr (fn := Tryz.f156) (n := 2) rfl hG ?_
 rintro ⟨a, b, ⟨⟩⟩ hpre
 simp -implicitDefEqProofs only [Tryz.f156, go_sem, hh, seval] at hpre ⊢
 with_reducible repeat' (first | apply ai | intro _ | ((first | apply s1 | apply s2 | apply s3 | apply s4) <;> intro hb <;> simp -implicitDefEqProofs only [hb, go_sem, hh, seval] <;> try simp only [qz] at hb))
 all_goals first | rfl | omega | skip
end
def jW : Ct := Aj (lc Ak (lc Ak l0)) (fun p => True) (fun p => .t (.v (.int .i64 (EY p.1 p.2.1))))
section
attribute [local go_sem] jw
theorem pJ {G : Gt} (hG : Ac G) (hh : G.e 156 = AA 0 jw) : Gd G 110 (AA 0 jW) := by
 refine gr (fn := Tryz.f110) (n := 2) rfl hG ?_
 rintro ⟨a, b, ⟨⟩⟩ hpre
 simp -implicitDefEqProofs only [Tryz.f110, go_sem, hh, seval] at hpre ⊢
 with_reducible repeat' (first | apply ai | intro _ | ((first | apply s1 | apply s2 | apply s3 | apply s4) <;> intro hb <;> simp -implicitDefEqProofs only [hb, go_sem, hh, seval] <;> try simp only [qz] at hb))
 all_goals first | rfl | omega | skip
end
def jV : Ct := Aj (lc D4.asl l0) (fun p => True) (fun p => .t (.v (.int .i64 (nY p.1))))
section
attribute [local go_sem] lm
theorem pI {G : Gt} (hG : Ac G) : Gd G 109 (AA 0 jV) := by
 refine gr (fn := Tryz.f109) (n := 1) rfl hG ?_
 rintro ⟨xs, ⟨⟩⟩ hpre
 simp -implicitDefEqProofs only [Tryz.f109, go_sem, seval] at hpre ⊢
 with_reducible repeat' (first | apply ai | intro _ | ((first | apply s1 | apply s2 | apply s3 | apply s4) <;> intro hb <;> simp -implicitDefEqProofs only [hb, go_sem, seval] <;> try simp only [qz] at hb))
 all_goals first | rfl | omega | skip
 refine AC [] (ι := {i : Nat // i ≤ xs.length ∧ nY xs = nY (xs.drop i)}) (fun p => ⟨[(3, .t (.v (.int .i64 0))), (6, .t (.sl 1 (xs.map A9))), (7, .t (.v (.int .i64 xs.length))), (8, .t (.v (.int .i64 p.1)))], []⟩) (fun p => xs.length - p.1) ⟨0, by simp, rfl⟩ rfl ?_ ?_
 ·simp -implicitDefEqProofs only [go_sem, seval]
  try simp
 ·rintro ⟨i, hi, hor⟩
  by_cases hlt : (i : Int) < xs.length
  ·have hs := Ys (xs := xs) (i := i) (by omega)
   simp -implicitDefEqProofs only [hlt, decide_true, tn, go_sem, seval]
   with_reducible repeat' (first | apply ai | intro _ | ((first | apply s1 | apply s2 | apply s3 | apply s4) <;> intro hb <;> simp -implicitDefEqProofs only [hb, go_sem, seval] <;> try simp only [qz] at hb))
   all_goals (try simp only [maxLen] at *)
   all_goals first | rfl | omega | skip
   ·rw [hor, hs, if_neg (by assumption)]
   ·refine ⟨⟨i + 1, by omega, by rw [hor, hs, if_pos (by simpa using hb)]⟩, by dsimp only; omega, ?_⟩
    simp -implicitDefEqProofs only [go_sem, seval]
    try simp
  ·simp -implicitDefEqProofs only [hlt, decide_false, go_sem, seval]
   with_reducible repeat' (first | apply ai | intro _ | ((first | apply s1 | apply s2 | apply s3 | apply s4) <;> intro hb <;> simp -implicitDefEqProofs only [hb, go_sem, seval] <;> try simp only [qz] at hb))
   all_goals first | rfl | omega | skip
   rw [hor, List.drop_eq_nil_of_le (by omega)]
   rfl
end
def xY : Ct := Aj (lc DV.ag (lc DV.ag l0)) (fun p => True) (fun p => .t (.v (.int .i64 (JX p.1 p.2.1))))
section
attribute [local go_sem] jW jV sy
theorem uC {G : Gt} (hG : Ac G) (hh : G.e 110 = AA 0 jW ∧ G.e 109 = AA 0 jV) : Gd G 50 (AA 0 xY) := by
 refine gr (fn := Tryz.f50) (n := 2) rfl hG ?_
 rintro ⟨a, b, ⟨⟩⟩ hpre
 simp -implicitDefEqProofs only [Tryz.f50, go_sem, hh, seval] at hpre ⊢
 with_reducible repeat' (first | apply ai | intro _ | ((first | apply s1 | apply s2 | apply s3 | apply s4) <;> intro hb <;> simp -implicitDefEqProofs only [hb, go_sem, hh, seval] <;> try simp only [qz] at hb))
 all_goals first | rfl | omega | skip
 all_goals
  refine congrArg (fun z => T.v (Value.int .i64 z)) ?_
  simp only [nY, JX]
  by_cases h : EY a.domain b.domain = 0
  ·rw [if_pos h, if_pos h]
   by_cases h2 : EY a.user b.user = 0
   ·rw [if_pos h2, h2]
   ·rw [if_neg h2]
  ·rw [if_neg h, if_neg h]
end
def si : Ct := Aj (lc DV.ag (lc DV.ag l0)) (fun p => True) (fun p => .t (.v (.bool (BA (Vq p.1 p.2.1)))))
theorem uj {G : Gt} (hG : Ac G) : Gd G 86 (AA 0 si) := by
 refine gr (fn := Tryz.f86) (n := 2) rfl hG ?_
 rintro ⟨a, b, ⟨⟩⟩ hpre
 simp -implicitDefEqProofs only [Tryz.f86, go_sem, seval] at hpre ⊢
 with_reducible repeat' (first | apply ai | intro _ | ((first | apply s1 | apply s2 | apply s3 | apply s4) <;> intro hb <;> simp -implicitDefEqProofs only [hb, go_sem, seval] <;> try simp only [qz] at hb))
 all_goals first | rfl | omega | skip
 all_goals first
  | exact uT (.inl (by assumption))
  | exact uB ⟨fun q => .inr ⟨by assumption, q⟩, fun q => q.elim (fun q => by simp_all) fun q => q.2⟩
  | exact uF (fun q => q.elim (fun q => by simp_all) fun q => by simp_all)
  | skip
def iE (b : Bx) : Prop := (∀ g ∈ b.mails, (BL g.frm ∨ AN g.frm) ∧ Ch g.body) ∧ BL b.addr
def VY (h : Hs) (j : Nat) : Prop := iE (h.boxes.getD j default) ∧ (0 < j → Vq (h.boxes.getD (j - 1) default).addr (h.boxes.getD j default).addr) ∧ (h.boxes.getD j default).addr.domain ∈ h.conf.own
def HD (h : Hs) : Prop := (∀ j, j < h.boxes.length → VY h j) ∧ Lc h.conf ∧ CM h.spool
theorem BF {P : Nat → Prop} {i : Nat} (h : ∀ j, j < i → P j) (hi : P i) : ∀ j, j < i + 1 → P j := fun j hj => by
 by_cases e : j = i
 ·rw [e]; exact hi
 ·exact h j (by omega)
theorem dN {xs : List ByteArray} {a : ByteArray} (h : ∀ j, j < xs.length → ¬ xs.getD j default = a) : ¬ a ∈ xs := fun hm => by
 obtain ⟨j, hj, e⟩ := List.getElem_of_mem hm
 exact h j hj (by simp [hj, e])
def sj : Ct := Aj (lc JS.ag l0) (fun p => True) (fun p => .t (.v (.bool (BA (Lc p.1)))))
section
attribute [local go_sem] M9 AK AM lm
set_option maxHeartbeats 1600000 in
theorem ul {G : Gt} (hG : Ac G) (hh : G.e 143 = AA 0 M9) : Gd G 88 (AA 0 sj) := by
 refine gr (fn := Tryz.f88) (n := 1) rfl hG ?_
 rintro ⟨c, ⟨⟩⟩ hpre
 simp -implicitDefEqProofs only [Tryz.f88, go_sem, hh, seval] at hpre ⊢
 refine AC [] (ι := {i : Nat // i ≤ c.own.length ∧ ∀ j, j < i → D3 (c.own.getD j default)}) (fun p => ⟨[(1, .pb 1001 0), (3, .t (.v (.int .i64 p.1)))], [(1001, some (.box ((DT c).map .t)))]⟩) (fun p => c.own.length - p.1) ⟨0, by simp, by simp⟩ rfl ?_ ?_
 ·simp -implicitDefEqProofs only [go_sem, hh, seval]
  try simp
 ·rintro ⟨i, hi, hall⟩
  by_cases hlt : (i : Int) < c.own.length
  ·simp -implicitDefEqProofs only [hlt, decide_true, tn, go_sem, hh, seval]
   with_reducible repeat' (first | apply ai | intro _ | ((first | apply s1 | apply s2 | apply s3 | apply s4) <;> intro hb <;> simp -implicitDefEqProofs only [hb, go_sem, hh, seval] <;> try simp only [qz] at hb))
   all_goals (try simp only [maxLen] at *)
   all_goals first | rfl | omega | skip
   ·exact uF (fun h => hb (h.1 _ (AB (by omega))))
   ·refine ⟨⟨i + 1, by omega, BF hall hb⟩, by dsimp only; omega, ?_⟩
    simp -implicitDefEqProofs only [go_sem, hh, seval]
    try simp
  ·have hA : ∀ s ∈ c.own, D3 s := BH fun j hj => hall j (by omega)
   simp -implicitDefEqProofs only [hlt, decide_false, go_sem, hh, seval]
   with_reducible repeat' (first | apply ai | intro _ | ((first | apply s1 | apply s2 | apply s3 | apply s4) <;> intro hb <;> simp -implicitDefEqProofs only [hb, go_sem, hh, seval] <;> try simp only [qz] at hb))
   all_goals first | rfl | omega | skip
   refine AC [] (ι := {i : Nat // i ≤ c.ways.length ∧ ∀ j, j < i → D3 (c.ways.getD j default).ends ∧ D3 (c.ways.getD j default).to}) (fun p => ⟨[(1, .pb 1001 0), (4, .t (.v (.int .i64 p.1)))], [(1001, some (.box ((DT c).map .t)))]⟩) (fun p => c.ways.length - p.1) ⟨0, by simp, by simp⟩ rfl ?_ ?_
   ·simp -implicitDefEqProofs only [go_sem, hh, seval]
    try simp
   ·rintro ⟨k, hk, hall2⟩
    by_cases hlt2 : (k : Int) < c.ways.length
    ·simp -implicitDefEqProofs only [hlt2, decide_true, tn, go_sem, hh, seval]
     with_reducible repeat' (first | apply ai | intro _ | ((first | apply s1 | apply s2 | apply s3 | apply s4) <;> intro hb <;> simp -implicitDefEqProofs only [hb, go_sem, hh, seval] <;> try simp only [qz] at hb))
     all_goals (try simp only [maxLen] at *)
     all_goals first
      | rfl
      | omega
      | exact uF (fun h => hb (h.2.1 _ (AB (by omega))).1)
      | exact uF (fun h => hb (h.2.1 _ (AB (by omega))).2)
      | skip
     refine ⟨⟨k + 1, by omega, BF (P := fun j => D3 (c.ways.getD j default).ends ∧ D3 (c.ways.getD j default).to) hall2 ⟨by assumption, by assumption⟩⟩, by dsimp only; omega, ?_⟩
     simp -implicitDefEqProofs only [go_sem, hh, seval]
     try simp
    ·have hB : ∀ w ∈ c.ways, D3 w.ends ∧ D3 w.to := BH fun j hj => hall2 j (by omega)
     simp -implicitDefEqProofs only [hlt2, decide_false, go_sem, hh, seval]
     with_reducible repeat' (first | apply ai | intro _ | ((first | apply s1 | apply s2 | apply s3 | apply s4) <;> intro hb <;> simp -implicitDefEqProofs only [hb, go_sem, hh, seval] <;> try simp only [qz] at hb))
     all_goals first
      | rfl
      | omega
      | exact uD ⟨fun q => ⟨hA, hB, by assumption, by omega, q⟩, fun q => q.2.2.2.2⟩
      | exact uF (fun q => absurd q.2.2.1 (by assumption))
      | exact uF (fun q => by have h1 := q.2.2.2.1; have h2 := q.2.2.2.2; omega)
      | skip
end
def bj : Ct := Aj (lc JS.ag (lc DV.ag l0)) (fun p => True) (fun p => .t (.v (.bool (BA (p.2.1.domain ∈ p.1.own)))))
section
attribute [local go_sem] lm
theorem uk {G : Gt} (hG : Ac G) : Gd G 87 (AA 0 bj) := by
 refine gr (fn := Tryz.f87) (n := 2) rfl hG ?_
 rintro ⟨c, a, ⟨⟩⟩ hpre
 simp -implicitDefEqProofs only [Tryz.f87, go_sem, seval] at hpre ⊢
 refine AC [] (ι := {i : Nat // i ≤ c.own.length ∧ ∀ j, j < i → ¬ c.own.getD j default = a.domain}) (fun p => ⟨[(2, .pb 1002 0), (3, .pb 1003 0), (5, .t (.v (.int .i64 p.1)))], [(1002, some (.box ((DT c).map .t))), (1003, some (.box ((Ap a).map .t)))]⟩) (fun p => c.own.length - p.1) ⟨0, by simp, by simp⟩ rfl ?_ ?_
 ·simp -implicitDefEqProofs only [go_sem, seval]
  try simp
 ·rintro ⟨i, hi, hall⟩
  by_cases hlt : (i : Int) < c.own.length
  ·simp -implicitDefEqProofs only [hlt, decide_true, tn, go_sem, seval]
   with_reducible repeat' (first | apply ai | intro _ | ((first | apply s1 | apply s2 | apply s3 | apply s4) <;> intro hb <;> simp -implicitDefEqProofs only [hb, go_sem, seval] <;> try simp only [qz] at hb))
   all_goals (try simp only [maxLen] at *)
   all_goals first | rfl | omega | skip
   ·exact uT (by rw [← hb]; exact AB (by omega))
   ·refine ⟨⟨i + 1, by omega, BF hall hb⟩, by dsimp only; omega, ?_⟩
    simp -implicitDefEqProofs only [go_sem, seval]
    try simp
  ·simp -implicitDefEqProofs only [hlt, decide_false, go_sem, seval]
   with_reducible repeat' (first | apply ai | intro _ | ((first | apply s1 | apply s2 | apply s3 | apply s4) <;> intro hb <;> simp -implicitDefEqProofs only [hb, go_sem, seval] <;> try simp only [qz] at hb))
   all_goals first | rfl | omega | skip
   exact uF (dN fun j hj => hall j (by omega))
end
def xn : Ct := Aj (lc VZ.ag l0) (fun p => True) (fun p => .t (.v (.bool (BA (iE p.1)))))
section
attribute [local go_sem] M8 II NB AK AM lm
set_option maxHeartbeats 1600000 in
theorem ui {G : Gt} (hG : Ac G) (hh : G.e 142 = AA 0 M8 ∧ G.e 123 = AA 0 II ∧ G.e 62 = AA 0 NB) : Gd G 85 (AA 0 xn) := by
 refine gr (fn := Tryz.f85) (n := 1) rfl hG ?_
 rintro ⟨b, ⟨⟩⟩ hpre
 simp -implicitDefEqProofs only [Tryz.f85, go_sem, hh, seval] at hpre ⊢
 refine AC [] (ι := {i : Nat // i ≤ b.mails.length ∧ ∀ j, j < i → (BL (b.mails.getD j default).frm ∨ AN (b.mails.getD j default).frm) ∧ Ch (b.mails.getD j default).body}) (fun p => ⟨[(1, .pb 1001 0), (3, .t (.v (.int .i64 p.1)))], [(1001, some (.box ((BQ b).map .t)))]⟩) (fun p => b.mails.length - p.1) ⟨0, by simp, by simp⟩ rfl ?_ ?_
 ·simp -implicitDefEqProofs only [go_sem, hh, seval]
  try simp
 ·rintro ⟨i, hi, hall⟩
  by_cases hlt : (i : Int) < b.mails.length
  ·simp -implicitDefEqProofs only [hlt, decide_true, tn, go_sem, hh, seval]
   with_reducible repeat' (first | apply ai | intro _ | ((first | apply s1 | apply s2 | apply s3 | apply s4) <;> intro hb <;> simp -implicitDefEqProofs only [hb, go_sem, hh, seval] <;> try simp only [qz] at hb))
   all_goals (try simp only [maxLen, tn] at *)
   all_goals first
    | rfl
    | omega
    | exact uF (fun h => absurd (h.1 (b.mails.getD i default) (AB (by omega))).2 (by assumption))
    | exact uF (fun h => (h.1 (b.mails.getD i default) (AB (by omega))).1.elim (fun q => absurd q (by assumption)) fun q => absurd q (by assumption))
    | skip
   all_goals
    refine ⟨⟨i + 1, by omega, BF (P := fun j => (BL (b.mails.getD j default).frm ∨ AN (b.mails.getD j default).frm) ∧ Ch (b.mails.getD j default).body) hall ⟨by first | exact .inl (by assumption) | exact .inr (by assumption), by assumption⟩⟩, by dsimp only; omega, ?_⟩
    simp -implicitDefEqProofs only [go_sem, hh, seval]
    try simp
  ·have hA : ∀ g ∈ b.mails, (BL g.frm ∨ AN g.frm) ∧ Ch g.body := BH (P := fun g : Gm => (BL g.frm ∨ AN g.frm) ∧ Ch g.body) fun j hj => hall j (by omega)
   simp -implicitDefEqProofs only [hlt, decide_false, go_sem, hh, seval]
   with_reducible repeat' (first | apply ai | intro _ | ((first | apply s1 | apply s2 | apply s3 | apply s4) <;> intro hb <;> simp -implicitDefEqProofs only [hb, go_sem, hh, seval] <;> try simp only [qz] at hb))
   all_goals first | rfl | omega | exact uE ⟨fun q => ⟨hA, q⟩, fun q => q.2⟩ | skip
end
def xR : Ct := Aj (lc FM.ag l0) (fun p => True) (fun p => .t (.v (.bool (BA (HD p.1)))))
section
attribute [local go_sem] xn si bj sj xp AK AM lm
set_option maxHeartbeats 6400000 in
theorem tr {G : Gt} (hG : Ac G) (hh : G.e 85 = AA 0 xn ∧ G.e 86 = AA 0 si ∧ G.e 87 = AA 0 bj ∧ G.e 88 = AA 0 sj ∧ G.e 89 = AA 0 xp) : Gd G 32 (AA 0 xR) := by
 refine gr (fn := Tryz.f32) (n := 1) rfl hG ?_
 rintro ⟨h, ⟨⟩⟩ hpre
 simp -implicitDefEqProofs only [Tryz.f32, go_sem, hh, seval] at hpre ⊢
 refine AC [] (ι := {i : Nat // i ≤ h.boxes.length ∧ ∀ j, j < i → VY h j}) (fun p => ⟨[(1, .pb 1001 0), (3, .t (.v (.int .i64 p.1)))], [(1001, some (.box ((AY h).map .t)))]⟩) (fun p => h.boxes.length - p.1) ⟨0, by simp, by simp⟩ rfl ?_ ?_
 ·simp -implicitDefEqProofs only [go_sem, hh, seval]
  try simp
 ·rintro ⟨i, hi, hall⟩
  by_cases hlt : (i : Int) < h.boxes.length
  ·simp -implicitDefEqProofs only [hlt, decide_true, tn, go_sem, hh, seval]
   with_reducible repeat' (first | apply ai | intro _ | ((first | apply s1 | apply s2 | apply s3 | apply s4) <;> intro hb <;> simp -implicitDefEqProofs only [hb, go_sem, hh, seval] <;> try simp only [qz] at hb))
   all_goals (try simp only [maxLen, tn] at *)
   all_goals have hnat : ((i : Int) - 1).toNat = i - 1 := by omega
   all_goals first
    | rfl
    | omega
    | exact uF (fun q => absurd (q.1 i (by omega)).1 (by assumption))
    | exact uF (fun q => absurd (q.1 i (by omega)).2.2 (by assumption))
    | exact uF (fun q => absurd ((q.1 i (by omega)).2.1 (by omega)) (by rw [← hnat]; assumption))
    | skip
   all_goals
    refine ⟨⟨i + 1, by omega, BF hall ⟨by assumption, fun _ => by first | (rw [← hnat]; assumption) | (exfalso; omega), by assumption⟩⟩, by dsimp only; omega, ?_⟩
    simp -implicitDefEqProofs only [go_sem, hh, seval]
    try simp
  ·simp -implicitDefEqProofs only [hlt, decide_false, go_sem, hh, seval]
   with_reducible repeat' (first | apply ai | intro _ | ((first | apply s1 | apply s2 | apply s3 | apply s4) <;> intro hb <;> simp -implicitDefEqProofs only [hb, go_sem, hh, seval] <;> try simp only [qz] at hb))
   all_goals first
    | rfl
    | omega
    | exact uE ⟨fun q => ⟨fun j hj => hall j (by omega), by assumption, q⟩, fun q => q.2.2⟩
    | exact uF (fun q => absurd q.2.1 (by assumption))
    | skip
end
inductive OC where
 | bad
def OC.enc : OC → AV
 | .bad  => .t (.fn 44 [])
def OC.dec : AV → Option OC
 | .t (.fn 44 []) => some (.bad )
 | _ => none
def OC.sem : OC → Gm → Prop
 | .bad , x => ¬ ((BL x.frm ∨ AN x.frm) ∧ Ch x.body)
def OC.pre : OC → Gm → Prop
 | .bad , x => x.frm.domain.size ≤ 2000000 ∧ ∀ s ∈ x.body, s.size ≤ 2000000
def Zx : AD OC where
 enc := OC.enc
 dec := OC.dec
 ed := fun f => by cases f <;> rfl
 de := fun x f h => by
  unfold OC.dec at h
  split at h <;> cases h <;> rfl
theorem JM  : Zx.dec (.t (.fn 44 [])) = some (.bad ) := rfl
theorem JN  : Zx.enc (.bad ) = .t (.fn 44 []) := rfl
def xV : Ct := Aj (lc QI.ag l0) (fun p => p.1.frm.domain.size ≤ 2000000 ∧ ∀ s ∈ p.1.body, s.size ≤ 2000000) (fun p => .t (.v (.bool (BA (¬ ((BL p.1.frm ∨ AN p.1.frm) ∧ Ch p.1.body))))))
section
attribute [local go_sem] k9 lA BC BB Bool.not_true Bool.not_false Bc Cv
theorem t5 {G : Gt} (hG : Ac G) (hh : G.e 45 = AA 0 k9 ∧ G.e 46 = AA 0 lA) : Gd G 44 (AA 0 xV) := by
 refine gr (fn := Tryz.f44) (n := 1) rfl hG ?_
 rintro ⟨x, ⟨⟩⟩ hpre
 simp -implicitDefEqProofs only [Tryz.f44, go_sem, hh, seval] at hpre ⊢
 with_reducible repeat' (first | apply ai | intro _ | ((first | apply s1 | apply s2 | apply s3 | apply s4) <;> intro hb <;> simp -implicitDefEqProofs only [hb, go_sem, hh, seval] <;> try simp only [qz] at hb))
 all_goals first | rfl | omega | exact hpre.1 | exact hpre.2 | exact hpre.2 _ (by assumption) | skip
 all_goals first
  | exact uT (fun h => absurd h.1 (by assumption))
  | exact uN ⟨fun h q => h q.2, fun h q => h ⟨by assumption, q⟩⟩
  | skip
end
def jU : Ct := Aj (lc QI.asl (lc Zx l0)) (fun p => ∀ x ∈ p.1, p.2.1.pre x) (fun p => .t (.v (.int .i64 (BD p.2.1.sem 0 p.1))))
section
attribute [local go_sem] xV BC BB Bool.not_true Bool.not_false Bc Cv JM JN
theorem pH {G : Gt} (hG : Ac G) (hh : G.e 44 = AA 0 xV) : Gd G 108 (AA 0 jU) := by
 refine gr (fn := Tryz.f108) (n := 2) rfl hG ?_
 rintro ⟨xs, f, ⟨⟩⟩ hpre
 have hs := hpre
 dsimp only at hs ⊢
 cases f with
 | bad  =>
   simp -implicitDefEqProofs only [Tryz.f108, go_sem, hh, seval]
   with_reducible repeat' (first | apply ai | intro _ | ((first | apply s1 | apply s2 | apply s3 | apply s4) <;> intro hb <;> simp -implicitDefEqProofs only [hb, go_sem, hh, seval] <;> try simp only [qz] at hb))
   all_goals first | rfl | omega | skip
   refine AC [] (ι := {i : Nat // i ≤ xs.length ∧ BD (OC.sem (.bad )) 0 xs = BD (OC.sem (.bad )) i (xs.drop i)}) (fun p => ⟨[(0, .t (.sl 3 (xs.map Ba))), (1, .t (.fn 44 [])), (7, .t (.v (.int .i64 xs.length))), (8, .t (.v (.int .i64 p.1)))], []⟩) (fun p => xs.length - p.1) ⟨0, Nat.zero_le _, rfl⟩ rfl ?_ ?_
   ·simp -implicitDefEqProofs only [go_sem, hh, seval]
    try simp
   ·rintro ⟨i, hi, hix⟩
    by_cases hlt : (i : Int) < xs.length
    ·have hm : xs.getD (i : Int).toNat default ∈ xs := AB (by omega)
     have hsz := hs _ hm
     cases hb : BA (¬ ((BL (xs.getD (i : Int).toNat default).frm ∨ AN (xs.getD (i : Int).toNat default).frm) ∧ Ch (xs.getD (i : Int).toNat default).body))
     ·have hq := hb
      simp -implicitDefEqProofs only [hlt, hq, go_sem, hh, seval]
      with_reducible repeat' (first | apply ai | intro _ | ((first | apply s1 | apply s2 | apply s3 | apply s4) <;> intro hb <;> simp -implicitDefEqProofs only [hb, go_sem, hh, seval] <;> try simp only [qz] at hb))
      all_goals (try simp only [maxLen] at *)
      all_goals first | rfl | omega | with_reducible assumption | exact hsz | exact hsz.1 | exact hsz.2 | exact hsz.2 _ (by assumption) | exact hsz.2.1 | exact hsz.2.2.1 | exact hsz.2.2.2 | trivial | skip
      rw [AM, tn] at hb
      refine ⟨⟨i + 1, by omega, ?_⟩, by dsimp only; omega, ?_⟩
      ·rw [hix, DP (p := OC.sem (.bad )) (by omega) hb]
      ·simp -implicitDefEqProofs only [go_sem, hh, seval]
       try simp
     ·have hq := hb
      simp -implicitDefEqProofs only [hlt, hq, go_sem, hh, seval]
      with_reducible repeat' (first | apply ai | intro _ | ((first | apply s1 | apply s2 | apply s3 | apply s4) <;> intro hb <;> simp -implicitDefEqProofs only [hb, go_sem, hh, seval] <;> try simp only [qz] at hb))
      all_goals (try simp only [maxLen] at *)
      all_goals first | rfl | omega | with_reducible assumption | exact hsz | exact hsz.1 | exact hsz.2 | exact hsz.2 _ (by assumption) | exact hsz.2.1 | exact hsz.2.2.1 | exact hsz.2.2.2 | trivial | skip
      rw [AK, tn] at hb
      rw [hix, CX (p := OC.sem (.bad )) (by omega) hb]
    ·simp -implicitDefEqProofs only [hlt, go_sem, hh, seval]
     with_reducible repeat' (first | apply ai | intro _ | ((first | apply s1 | apply s2 | apply s3 | apply s4) <;> intro hb <;> simp -implicitDefEqProofs only [hb, go_sem, hh, seval] <;> try simp only [qz] at hb))
     all_goals first | rfl | omega | skip
     all_goals (rw [hix, CV (by omega)])
end
def xX : Ct := Aj (lc QI.asl (lc Zx l0)) (fun p => ∀ x ∈ p.1, p.2.1.pre x) (fun p => .t (.v (.bool (BA (∃ x ∈ p.1, p.2.1.sem x)))))
section
attribute [local go_sem] jU BC BB Bool.not_true Bool.not_false Bc Cv JM JN
theorem uA {G : Gt} (hG : Ac G) (hh : G.e 108 = AA 0 jU) : Gd G 49 (AA 0 xX) := by
 refine gr (fn := Tryz.f49) (n := 2) rfl hG ?_
 rintro ⟨xs, f, ⟨⟩⟩ hpre
 dsimp only at hpre ⊢
 cases f
 all_goals
  simp -implicitDefEqProofs only [Tryz.f49, go_sem, hh, seval]
  with_reducible repeat' (first | apply ai | intro _ | ((first | apply s1 | apply s2 | apply s3 | apply s4) <;> intro hb <;> simp -implicitDefEqProofs only [hb, go_sem, hh, seval] <;> try simp only [qz] at hb))
  all_goals first | rfl | omega | exact hpre | exact hpre _ (by assumption) | skip
  all_goals (rw [← AP (CW _ 0)]; rw [A4])
end
inductive OD where
 | way
def OD.enc : OD → AV
 | .way  => .t (.fn 99 [])
def OD.dec : AV → Option OD
 | .t (.fn 99 []) => some (.way )
 | _ => none
def OD.sem : OD → Wy → Prop
 | .way , x => ¬ (D3 x.ends ∧ D3 x.to)
def OD.pre : OD → Wy → Prop
 | .way , x => x.ends.size ≤ 2000000 ∧ x.to.size ≤ 2000000
def Zy : AD OD where
 enc := OD.enc
 dec := OD.dec
 ed := fun f => by cases f <;> rfl
 de := fun x f h => by
  unfold OD.dec at h
  split at h <;> cases h <;> rfl
theorem JO  : Zy.dec (.t (.fn 99 [])) = some (.way ) := rfl
theorem JP  : Zy.enc (.way ) = .t (.fn 99 []) := rfl
def xt : Ct := Aj (lc Ld.ag l0) (fun p => p.1.ends.size ≤ 2000000 ∧ p.1.to.size ≤ 2000000) (fun p => .t (.v (.bool (BA (¬ (D3 p.1.ends ∧ D3 p.1.to))))))
section
attribute [local go_sem] WY BC BB Bool.not_true Bool.not_false Bc Cv
theorem ux {G : Gt} (hG : Ac G) (hh : G.e 98 = AA 0 WY) : Gd G 99 (AA 0 xt) := by
 refine gr (fn := Tryz.f99) (n := 1) rfl hG ?_
 rintro ⟨x, ⟨⟩⟩ hpre
 simp -implicitDefEqProofs only [Tryz.f99, go_sem, hh, seval] at hpre ⊢
 with_reducible repeat' (first | apply ai | intro _ | ((first | apply s1 | apply s2 | apply s3 | apply s4) <;> intro hb <;> simp -implicitDefEqProofs only [hb, go_sem, hh, seval] <;> try simp only [qz] at hb))
 all_goals first | rfl | omega | exact hpre.1 | exact hpre.2 | exact hpre.2 _ (by assumption) | skip
 all_goals first
  | exact uT (fun h => absurd h.1 (by assumption))
  | exact uN ⟨fun h q => h q.2, fun h q => h ⟨by assumption, q⟩⟩
  | skip
end
def js : Ct := Aj (lc Ld.asl (lc Zy l0)) (fun p => ∀ x ∈ p.1, p.2.1.pre x) (fun p => .t (.v (.int .i64 (BD p.2.1.sem 0 p.1))))
section
attribute [local go_sem] xt BC BB Bool.not_true Bool.not_false Bc Cv JO JP
theorem p4 {G : Gt} (hG : Ac G) (hh : G.e 99 = AA 0 xt) : Gd G 152 (AA 0 js) := by
 refine gr (fn := Tryz.f152) (n := 2) rfl hG ?_
 rintro ⟨xs, f, ⟨⟩⟩ hpre
 have hs := hpre
 dsimp only at hs ⊢
 cases f with
 | way  =>
   simp -implicitDefEqProofs only [Tryz.f152, go_sem, hh, seval]
   with_reducible repeat' (first | apply ai | intro _ | ((first | apply s1 | apply s2 | apply s3 | apply s4) <;> intro hb <;> simp -implicitDefEqProofs only [hb, go_sem, hh, seval] <;> try simp only [qz] at hb))
   all_goals first | rfl | omega | skip
   refine AC [] (ι := {i : Nat // i ≤ xs.length ∧ BD (OD.sem (.way )) 0 xs = BD (OD.sem (.way )) i (xs.drop i)}) (fun p => ⟨[(0, .t (.sl 2 (xs.map Bn))), (1, .t (.fn 99 [])), (7, .t (.v (.int .i64 xs.length))), (8, .t (.v (.int .i64 p.1)))], []⟩) (fun p => xs.length - p.1) ⟨0, Nat.zero_le _, rfl⟩ rfl ?_ ?_
   ·simp -implicitDefEqProofs only [go_sem, hh, seval]
    try simp
   ·rintro ⟨i, hi, hix⟩
    by_cases hlt : (i : Int) < xs.length
    ·have hm : xs.getD (i : Int).toNat default ∈ xs := AB (by omega)
     have hsz := hs _ hm
     cases hb : BA (¬ (D3 (xs.getD (i : Int).toNat default).ends ∧ D3 (xs.getD (i : Int).toNat default).to))
     ·have hq := hb
      simp -implicitDefEqProofs only [hlt, hq, go_sem, hh, seval]
      with_reducible repeat' (first | apply ai | intro _ | ((first | apply s1 | apply s2 | apply s3 | apply s4) <;> intro hb <;> simp -implicitDefEqProofs only [hb, go_sem, hh, seval] <;> try simp only [qz] at hb))
      all_goals (try simp only [maxLen] at *)
      all_goals first | rfl | omega | with_reducible assumption | exact hsz | exact hsz.1 | exact hsz.2 | exact hsz.2 _ (by assumption) | exact hsz.2.1 | exact hsz.2.2.1 | exact hsz.2.2.2 | trivial | skip
      rw [AM, tn] at hb
      refine ⟨⟨i + 1, by omega, ?_⟩, by dsimp only; omega, ?_⟩
      ·rw [hix, DP (p := OD.sem (.way )) (by omega) hb]
      ·simp -implicitDefEqProofs only [go_sem, hh, seval]
       try simp
     ·have hq := hb
      simp -implicitDefEqProofs only [hlt, hq, go_sem, hh, seval]
      with_reducible repeat' (first | apply ai | intro _ | ((first | apply s1 | apply s2 | apply s3 | apply s4) <;> intro hb <;> simp -implicitDefEqProofs only [hb, go_sem, hh, seval] <;> try simp only [qz] at hb))
      all_goals (try simp only [maxLen] at *)
      all_goals first | rfl | omega | with_reducible assumption | exact hsz | exact hsz.1 | exact hsz.2 | exact hsz.2 _ (by assumption) | exact hsz.2.1 | exact hsz.2.2.1 | exact hsz.2.2.2 | trivial | skip
      rw [AK, tn] at hb
      rw [hix, CX (p := OD.sem (.way )) (by omega) hb]
    ·simp -implicitDefEqProofs only [hlt, go_sem, hh, seval]
     with_reducible repeat' (first | apply ai | intro _ | ((first | apply s1 | apply s2 | apply s3 | apply s4) <;> intro hb <;> simp -implicitDefEqProofs only [hb, go_sem, hh, seval] <;> try simp only [qz] at hb))
     all_goals first | rfl | omega | skip
     all_goals (rw [hix, CV (by omega)])
end
def jP : Ct := Aj (lc Ld.asl (lc Zy l0)) (fun p => ∀ x ∈ p.1, p.2.1.pre x) (fun p => .t (.v (.bool (BA (∃ x ∈ p.1, p.2.1.sem x)))))
section
attribute [local go_sem] js BC BB Bool.not_true Bool.not_false Bc Cv JO JP
theorem pA {G : Gt} (hG : Ac G) (hh : G.e 152 = AA 0 js) : Gd G 101 (AA 0 jP) := by
 refine gr (fn := Tryz.f101) (n := 2) rfl hG ?_
 rintro ⟨xs, f, ⟨⟩⟩ hpre
 dsimp only at hpre ⊢
 cases f
 all_goals
  simp -implicitDefEqProofs only [Tryz.f101, go_sem, hh, seval]
  with_reducible repeat' (first | apply ai | intro _ | ((first | apply s1 | apply s2 | apply s3 | apply s4) <;> intro hb <;> simp -implicitDefEqProofs only [hb, go_sem, hh, seval] <;> try simp only [qz] at hb))
  all_goals first | rfl | omega | exact hpre | exact hpre _ (by assumption) | skip
  all_goals (rw [← AP (CW _ 0)]; rw [A4])
end
def jv : Ct := Aj (lc Ao.asl (lc Ak l0)) (fun p => True) (fun p => .t (.v (.int .i64 (BD (fun s : ByteArray => s = p.2.1) 0 p.1))))
section
attribute [local go_sem] lm
theorem p7 {G : Gt} (hG : Ac G) : Gd G 155 (AA 0 jv) := by
 refine gr (fn := Tryz.f155) (n := 2) rfl hG ?_
 rintro ⟨xs, a, ⟨⟩⟩ hpre
 simp -implicitDefEqProofs only [Tryz.f155, go_sem, seval] at hpre ⊢
 with_reducible repeat' (first | apply ai | intro _ | ((first | apply s1 | apply s2 | apply s3 | apply s4) <;> intro hb <;> simp -implicitDefEqProofs only [hb, go_sem, seval] <;> try simp only [qz] at hb))
 all_goals first | rfl | omega | skip
 refine AC [] (ι := {i : Nat // i ≤ xs.length ∧ BD (fun s : ByteArray => s = a) 0 xs = BD (fun s : ByteArray => s = a) i (xs.drop i)}) (fun p => ⟨[(0, .t (.sl 1 (xs.map AG))), (1, .t (.v (.string a))), (7, .t (.v (.int .i64 xs.length))), (8, .t (.v (.int .i64 p.1)))], []⟩) (fun p => xs.length - p.1) ⟨0, by simp, rfl⟩ rfl ?_ ?_
 ·simp -implicitDefEqProofs only [go_sem, seval]
  try simp
 ·rintro ⟨i, hi, hix⟩
  by_cases hlt : (i : Int) < xs.length
  ·simp -implicitDefEqProofs only [hlt, decide_true, tn, go_sem, seval]
   with_reducible repeat' (first | apply ai | intro _ | ((first | apply s1 | apply s2 | apply s3 | apply s4) <;> intro hb <;> simp -implicitDefEqProofs only [hb, go_sem, seval] <;> try simp only [qz] at hb))
   all_goals (try simp only [maxLen] at *)
   all_goals first | rfl | omega | skip
   ·rw [hix, CX (p := fun s : ByteArray => s = a) (by omega) hb.symm]
   ·refine ⟨⟨i + 1, by omega, by rw [hix, DP (p := fun s : ByteArray => s = a) (by omega) (fun e => hb e.symm)]⟩, by dsimp only; omega, ?_⟩
    simp -implicitDefEqProofs only [go_sem, seval]
    try simp
  ·simp -implicitDefEqProofs only [hlt, decide_false, go_sem, seval]
   with_reducible repeat' (first | apply ai | intro _ | ((first | apply s1 | apply s2 | apply s3 | apply s4) <;> intro hb <;> simp -implicitDefEqProofs only [hb, go_sem, seval] <;> try simp only [qz] at hb))
   all_goals first | rfl | omega | skip
   rw [hix, CV (by omega)]
end
def jT : Ct := Aj (lc Ao.asl (lc Ak l0)) (fun p => True) (fun p => .t (.v (.bool (BA (p.2.1 ∈ p.1)))))
section
attribute [local go_sem] jv
theorem pG {G : Gt} (hG : Ac G) (hh : G.e 155 = AA 0 jv) : Gd G 107 (AA 0 jT) := by
 refine gr (fn := Tryz.f107) (n := 2) rfl hG ?_
 rintro ⟨xs, a, ⟨⟩⟩ hpre
 simp -implicitDefEqProofs only [Tryz.f107, go_sem, hh, seval] at hpre ⊢
 with_reducible repeat' (first | apply ai | intro _ | ((first | apply s1 | apply s2 | apply s3 | apply s4) <;> intro hb <;> simp -implicitDefEqProofs only [hb, go_sem, hh, seval] <;> try simp only [qz] at hb))
 all_goals first | rfl | omega | skip
 refine uD ?_
 rw [ge_iff_le, CW]
 exact ⟨fun ⟨x, hx, e⟩ => e ▸ hx, fun h => ⟨a, h, rfl⟩⟩
end
def xW : Ct := Aj (lc JS.ag (lc Ak l0)) (fun p => True) (fun p => .t (.v (.bool (BA (p.2.1 ∈ p.1.own)))))
section
attribute [local go_sem] jT
theorem t9 {G : Gt} (hG : Ac G) (hh : G.e 107 = AA 0 jT) : Gd G 48 (AA 0 xW) := by
 refine gr (fn := Tryz.f48) (n := 2) rfl hG ?_
 rintro ⟨c, a, ⟨⟩⟩ hpre
 simp -implicitDefEqProofs only [Tryz.f48, go_sem, hh, seval] at hpre ⊢
 with_reducible repeat' (first | apply ai | intro _ | ((first | apply s1 | apply s2 | apply s3 | apply s4) <;> intro hb <;> simp -implicitDefEqProofs only [hb, go_sem, hh, seval] <;> try simp only [qz] at hb))
 all_goals first | rfl | omega | skip
end
def xT : Ct := Aj (lc JS.ag l0) (fun p => Mu p.1) (fun p => .t (.v (.bool (BA (Lc p.1)))))
section
attribute [local go_sem] WY WB jP BC BB Bool.not_true Bool.not_false Bc Cv JM JN JO JP Dg Di Dh Dj AK AM lm
set_option maxHeartbeats 1600000 in
theorem tz {G : Gt} (hG : Ac G) (hh : G.e 98 = AA 0 WY ∧ G.e 100 = AA 0 WB ∧ G.e 101 = AA 0 jP) : Gd G 42 (AA 0 xT) := by
 refine gr (fn := Tryz.f42) (n := 1) rfl hG ?_
 rintro ⟨c, ⟨⟩⟩ hpre
 simp -implicitDefEqProofs only [Tryz.f42, go_sem, hh, seval] at hpre ⊢
 obtain ⟨z1, ⟨l1, z2⟩, ⟨l2, z3⟩⟩ := hpre
 have y1 : c.name.size ≤ 2000000 := by have : c.name.size ≤ 1048576 := z1; omega
 have y2 : ∀ x ∈ c.own, C3.pre .dom x := fun x hx => by have : x.size ≤ 1048576 := z2 x hx; show x.size ≤ 2000000; omega
 have y3 : ∀ x ∈ c.ways, OD.pre .way x := fun x hx => by
  have h1 : x.ends.size ≤ 1048576 := (z3 x hx).1
  have h2 : x.to.size ≤ 1048576 := (z3 x hx).2
  exact ⟨by omega, by omega⟩
 have e1 : (¬ ∃ x ∈ c.own, C3.sem .dom x) ↔ ∀ s ∈ c.own, D3 s := ⟨fun h s hs => Classical.byContradiction fun q => h ⟨s, hs, q⟩, fun h ⟨s, hs, q⟩ => q (h s hs)⟩
 have e2 : (¬ ∃ x ∈ c.ways, OD.sem .way x) ↔ ∀ w ∈ c.ways, D3 w.ends ∧ D3 w.to := ⟨fun h s hs => Classical.byContradiction fun q => h ⟨s, hs, q⟩, fun h ⟨s, hs, q⟩ => q (h s hs)⟩
 with_reducible repeat' (first | apply ai | intro _ | ((first | apply s1 | apply s2 | apply s3 | apply s4) <;> intro hb <;> simp -implicitDefEqProofs only [hb, go_sem, hh, seval] <;> try simp only [qz] at hb))
 all_goals first | rfl | omega | assumption | exact y2 _ (by assumption) | exact y3 _ (by assumption) | skip
 all_goals first
  | exact uN (e2.trans ⟨fun q => ⟨e1.1 (by assumption), q, by assumption, by omega, by omega⟩, fun q => q.2.1⟩)
  | exact uF (fun q => absurd q.2.2.1 (by assumption))
  | exact uF (fun q => by have h1 := q.2.2.2.1; have h2 := q.2.2.2.2; omega)
  | exact uF (fun q => absurd hb (e1.2 q.1))
  | skip
end
def xJ : Ct := Aj (lc FM.ag l0) (fun p => FN p.1) (fun p => .t (.v (.bool (BA (HD p.1)))))
section
attribute [local go_sem] xT xU bh xW xX xY BC BB Bool.not_true Bool.not_false Bc Cv JM JN JO JP Dg Di Dh Dj AK AM lm
set_option maxHeartbeats 6400000 in
theorem tc {G : Gt} (hG : Ac G) (hh : G.e 42 = AA 0 xT ∧ G.e 43 = AA 0 xU ∧ G.e 47 = AA 0 bh ∧ G.e 48 = AA 0 xW ∧ G.e 49 = AA 0 xX ∧ G.e 50 = AA 0 xY) : Gd G 10 (AA 0 xJ) := by
 refine gr (fn := Tryz.f10) (n := 1) rfl hG ?_
 rintro ⟨h, ⟨⟩⟩ hpre
 simp -implicitDefEqProofs only [Tryz.f10, go_sem, hh, seval] at hpre ⊢
 obtain ⟨zc, zs, ⟨lb, zb⟩, zl⟩ := hpre
 have e1 : ∀ j, j < h.boxes.length → ((∃ x ∈ (h.boxes.getD j default).mails, OC.sem .bad x) ↔ ¬ ∀ g ∈ (h.boxes.getD j default).mails, (BL g.frm ∨ AN g.frm) ∧ Ch g.body) := fun j _ => ⟨fun ⟨s, hs, q⟩ f => q (f s hs), fun f => Classical.byContradiction fun q => f fun s hs => Classical.byContradiction fun r => q ⟨s, hs, r⟩⟩
 with_reducible repeat' (first | apply ai | intro _ | ((first | apply s1 | apply s2 | apply s3 | apply s4) <;> intro hb <;> simp -implicitDefEqProofs only [hb, go_sem, hh, seval] <;> try simp only [qz] at hb))
 all_goals first
  | rfl
  | omega
  | assumption
  | exact uF (fun q => absurd q.2.1 (by assumption))
  | exact uF (fun q => absurd q.2.2 (by assumption))
  | skip
 all_goals
  refine AC [] (ι := {i : Nat // i ≤ h.boxes.length ∧ ∀ j, j < i → VY h j}) (fun p => ⟨[(1, .pb 1001 0), (3, .fn 44 []), (17, .t (.sl 3 (h.boxes.map BQ))), (18, .t (.v (.int .i64 h.boxes.length))), (19, .t (.v (.int .i64 p.1)))], [(1001, some (.box ((AY h).map .t)))]⟩) (fun p => h.boxes.length - p.1) ⟨0, by simp, by simp⟩ rfl ?_ ?_
  ·simp -implicitDefEqProofs only [go_sem, hh, seval]
   try simp
  ·rintro ⟨i, hi, hall⟩
   by_cases hlt : (i : Int) < h.boxes.length
   ·have hbx := zb _ (AB (xs := h.boxes) (j := i) (by omega))
    obtain ⟨za, zm⟩ := hbx
    have y1 : (h.boxes.getD i default).addr.domain.size ≤ 2000000 := by have : (h.boxes.getD i default).addr.domain.size ≤ 1048576 := za.2; omega
    have y2 : ∀ x ∈ (h.boxes.getD i default).mails, OC.pre .bad x := fun x hx => by
     obtain ⟨⟨_, g1⟩, ⟨_, g2⟩⟩ := zm.2 x hx
     refine ⟨by have : x.frm.domain.size ≤ 1048576 := g1; omega, fun s hs => ?_⟩
     have : s.size ≤ 1048576 := g2 s hs
     omega
    have e2 := e1 i (by omega)
    simp -implicitDefEqProofs only [hlt, decide_true, tn, go_sem, hh, seval]
    with_reducible repeat' (first | apply ai | intro _ | ((first | apply s1 | apply s2 | apply s3 | apply s4) <;> intro hb <;> simp -implicitDefEqProofs only [hb, go_sem, hh, seval] <;> try simp only [qz] at hb))
    all_goals (try simp only [maxLen, tn] at *)
    all_goals have hnat : ((i : Int) - 1).toNat = i - 1 := by omega
    all_goals first
     | rfl
     | omega
     | assumption
     | exact y2 _ (by assumption)
     | exact uF (fun q => absurd (q.1 i (by omega)).1.2 (by assumption))
     | exact uF (fun q => absurd (q.1 i (by omega)).2.2 (by assumption))
     | exact uF (fun q => absurd hb (fun f => e2.1 f (q.1 i (by omega)).1.1))
     | exact uF (fun q => by have h9 := (IF _ _).2 ((q.1 i (by omega)).2.1 (by omega)); rw [← hnat] at h9; omega)
     | skip
    all_goals
     refine ⟨⟨i + 1, by omega, BF hall ⟨⟨Classical.byContradiction fun f => absurd (e2.2 f) (by assumption), by assumption⟩, fun _ => by first | (exact (IF _ _).1 (by rw [← hnat]; omega)) | (exfalso; omega), by assumption⟩⟩, by dsimp only; omega, ?_⟩
     simp -implicitDefEqProofs only [go_sem, hh, seval]
     try simp
   ·simp -implicitDefEqProofs only [hlt, decide_false, go_sem, hh, seval]
    with_reducible repeat' (first | apply ai | intro _ | ((first | apply s1 | apply s2 | apply s3 | apply s4) <;> intro hb <;> simp -implicitDefEqProofs only [hb, go_sem, hh, seval] <;> try simp only [qz] at hb))
    all_goals first | rfl | omega | exact uT ⟨fun j hj => hall j (by omega), by assumption, by assumption⟩ | skip
end
def vW : ByteArray := ⟨#[73, 100, 58, 32]⟩
def H5 (s : ByteArray) : Prop := 4 < s.size ∧ s.extract 0 4 = vW
noncomputable def A6 : List ByteArray → ByteArray
 | [] => ⟨#[]⟩
 | x :: r => bif BA (H5 x) then x else A6 r
theorem PS {xs : List ByteArray} {i : Nat} (h : i < xs.length) (ha : H5 (xs.getD i default)) : A6 (xs.drop i) = xs.getD i default := by
 rw [Aa h, A6, An ha]; rfl
theorem TG {xs : List ByteArray} {i : Nat} (h : i < xs.length) (ha : ¬ H5 (xs.getD i default)) : A6 (xs.drop i) = A6 (xs.drop (i + 1)) := by
 rw [Aa h, A6, AQ ha]; rfl
theorem PR {xs : List ByteArray} {i : Nat} (h : xs.length ≤ i) : A6 (xs.drop i) = ⟨#[]⟩ := by
 rw [List.drop_eq_nil_of_le h, A6]
theorem YW (s : ByteArray) : (QN s vW ∧ ¬ s = vW) ↔ H5 s := by
 unfold QN H5
 have h4 : vW.size = 4 := rfl
 rw [h4]
 constructor
 ·rintro ⟨⟨h1, h2⟩, h3⟩
  refine ⟨?_, h2⟩
  by_cases e : s.size = 4
  ·exfalso
   apply h3
   rw [← h2, ← e]
   exact (ByteArray.extract_zero_size).symm
  ·omega
 ·rintro ⟨h1, h2⟩
  exact ⟨⟨by omega, h2⟩, fun e => by rw [e] at h1; have : vW.size = 4 := rfl; omega⟩
def Qr : Ct := Aj (lc Ao.asl l0) (fun p => True) (fun p => .t (.v (.string (A6 p.1))))
section
attribute [local go_sem] lm
theorem uR {G : Gt} (hG : Ac G) : Gd G 61 (AA 0 Qr) := by
 refine gr (fn := Tryz.f61) (n := 1) rfl hG ?_
 rintro ⟨xs, ⟨⟩⟩ hpre
 simp -implicitDefEqProofs only [Tryz.f61, go_sem, seval] at hpre ⊢
 refine AC [] (ι := {i : Nat // i ≤ xs.length ∧ A6 xs = A6 (xs.drop i)}) (fun p => ⟨[(0, .t (.sl 1 (xs.map AG))), (3, .t (.v (.int .i64 p.1)))], []⟩) (fun p => xs.length - p.1) ⟨0, by simp, rfl⟩ rfl ?_ ?_
 ·simp -implicitDefEqProofs only [go_sem, seval]
  try simp
 ·rintro ⟨i, hi, hix⟩
  by_cases hlt : (i : Int) < xs.length
  ·simp -implicitDefEqProofs only [hlt, decide_true, tn, go_sem, seval]
   with_reducible repeat' (first | apply ai | intro _ | ((first | apply s1 | apply s2 | apply s3 | apply s4) <;> intro hb <;> simp -implicitDefEqProofs only [hb, go_sem, seval] <;> try simp only [qz] at hb))
   all_goals (try simp only [maxLen, tn] at *)
   all_goals first
    | rfl
    | omega
    | (rw [hix, PS (by omega) ⟨by omega, by assumption⟩]; done)
    | skip
   all_goals
    refine ⟨⟨i + 1, by omega, by rw [hix, TG (by omega) (fun h => by first | exact absurd h.2 (by assumption) | (have := h.1; omega))]⟩, by dsimp only; omega, ?_⟩
    simp -implicitDefEqProofs only [go_sem, seval]
    try simp
  ·simp -implicitDefEqProofs only [hlt, decide_false, go_sem, seval]
   with_reducible repeat' (first | apply ai | intro _ | ((first | apply s1 | apply s2 | apply s3 | apply s4) <;> intro hb <;> simp -implicitDefEqProofs only [hb, go_sem, seval] <;> try simp only [qz] at hb))
   all_goals first | rfl | omega | skip
   rw [hix, PR (by omega)]
end
def lB : Ct := Aj (lc Ao.asl l0) (fun p => ∀ s ∈ p.1, s.size ≤ 2000000) (fun p => .t (.v (.string (A6 p.1))))
section
attribute [local go_sem] jg lm AK AM
theorem uL {G : Gt} (hG : Ac G) (hh : G.e 122 = AA 0 jg) : Gd G 56 (AA 0 lB) := by
 refine gr (fn := Tryz.f56) (n := 1) rfl hG ?_
 rintro ⟨xs, ⟨⟩⟩ hpre
 simp -implicitDefEqProofs only [Tryz.f56, go_sem, hh, seval] at hpre ⊢
 try dsimp only at hpre
 with_reducible repeat' (first | apply ai | intro _ | ((first | apply s1 | apply s2 | apply s3 | apply s4) <;> intro hb <;> simp -implicitDefEqProofs only [hb, go_sem, hh, seval] <;> try simp only [qz] at hb))
 all_goals first | rfl | omega | skip
 refine AC [] (ι := {i : Nat // i ≤ xs.length ∧ A6 xs = A6 (xs.drop i)}) (fun p => ⟨[(5, .t (.sl 1 (xs.map AG))), (6, .t (.v (.int .i64 xs.length))), (7, .t (.v (.int .i64 p.1)))], []⟩) (fun p => xs.length - p.1) ⟨0, by simp, rfl⟩ rfl ?_ ?_
 ·simp -implicitDefEqProofs only [go_sem, hh, seval]
  try simp
 ·rintro ⟨i, hi, hix⟩
  by_cases hlt : (i : Int) < xs.length
  ·have hm := hpre _ (AB (xs := xs) (j := i) (by omega))
   simp -implicitDefEqProofs only [hlt, decide_true, tn, go_sem, hh, seval]
   with_reducible repeat' (first | apply ai | intro _ | ((first | apply s1 | apply s2 | apply s3 | apply s4) <;> intro hb <;> simp -implicitDefEqProofs only [hb, go_sem, hh, seval] <;> try simp only [qz] at hb))
   all_goals (try simp only [maxLen, tn] at *)
   all_goals first
    | rfl
    | omega
    | assumption
    | decide
    | (rw [hix, PS (by omega) ((YW _).1 ⟨by assumption, by assumption⟩)]; done)
    | skip
   all_goals
    refine ⟨⟨i + 1, by omega, by rw [hix, TG (by omega) (fun h => by have h2 := (YW _).2 h; first | exact absurd h2.1 (by assumption) | exact absurd (by assumption) h2.2)]⟩, by dsimp only; omega, ?_⟩
    simp -implicitDefEqProofs only [go_sem, hh, seval]
    try simp
  ·simp -implicitDefEqProofs only [hlt, decide_false, go_sem, hh, seval]
   with_reducible repeat' (first | apply ai | intro _ | ((first | apply s1 | apply s2 | apply s3 | apply s4) <;> intro hb <;> simp -implicitDefEqProofs only [hb, go_sem, hh, seval] <;> try simp only [qz] at hb))
   all_goals first | rfl | omega | skip
   rw [hix, PR (by omega)]
end
end Go.V
