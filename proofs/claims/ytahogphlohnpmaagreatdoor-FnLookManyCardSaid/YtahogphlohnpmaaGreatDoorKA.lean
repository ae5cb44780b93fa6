/- The row. No condition. -/
import Derived.Test.YtahogphlohnpmaaGreatDoorXB
import Derived.Test.YtahogphlohnpmaaGreatDoorProg
import Derived.KernelRfl
import Derived.Lib.IndexMore
import Derived.Lib.IndexEntry
import Derived.Lib.RabinKarpLaws
import Derived.Lib.Split
import Derived.DeepKeys4
import Derived.Lib.Bytealg
namespace Go.V
open Go Go.Proofs
theorem vS : AI Tryz.prog 3 = some ⟨.int .i64, 1, 8, [.int .i64 0]⟩ := by kernel_rfl
theorem vT : AI Tryz.prog 4 = some ⟨.bool, 1, 1, [.bool false]⟩ := by kernel_rfl
theorem vU : AI Tryz.prog 5 = some ⟨.int .u8, 1, 1, [.int .u8 0]⟩ := by kernel_rfl
theorem vV : AI Tryz.prog 9 = some ⟨.str, 1, 16, [.string ⟨#[]⟩]⟩ := by kernel_rfl
theorem uP : AI Tryz.prog 22 = some ⟨.slice 5, 1, 24, [.slice none 0 0]⟩ := by kernel_rfl
theorem uQ : AI Tryz.prog 23 = some ⟨.slice 75, 1, 24, [.slice none 0 0]⟩ := by kernel_rfl
theorem uR : AI Tryz.prog 25 = some ⟨.struct [(0, 1, false), (1, 1, false)], 2, 32, [.int .i64 0, .slice none 0 0]⟩ := by kernel_rfl
theorem uS : AI Tryz.prog 27 = some ⟨.struct [(0, 1, false), (1, 1, false)], 2, 32, [.string ⟨#[]⟩, .string ⟨#[]⟩]⟩ := by kernel_rfl
theorem uU : AI Tryz.prog 28 = some ⟨.slice 27, 1, 24, [.slice none 0 0]⟩ := by kernel_rfl
theorem uV : AI Tryz.prog 29 = some ⟨.slice 9, 1, 24, [.slice none 0 0]⟩ := by kernel_rfl
theorem uW : AI Tryz.prog 31 = some ⟨.struct [(0, 2, true), (2, 1, false), (3, 1, false)], 4, 80, [.string ⟨#[]⟩, .string ⟨#[]⟩, .slice none 0 0, .slice none 0 0]⟩ := by kernel_rfl
theorem uX : AI Tryz.prog 43 = some ⟨.slice 59, 1, 24, [.slice none 0 0]⟩ := by kernel_rfl
theorem uY : AI Tryz.prog 45 = some ⟨.slice 62, 1, 24, [.slice none 0 0]⟩ := by kernel_rfl
theorem uZ : AI Tryz.prog 46 = some ⟨.slice 91, 1, 24, [.slice none 0 0]⟩ := by kernel_rfl
theorem ua : AI Tryz.prog 48 = some ⟨.struct [(0, 1, false), (1, 1, false), (2, 1, false), (3, 1, false)], 4, 64, [.slice none 0 0, .int .i64 0, .int .i64 0, .slice none 0 0]⟩ := by kernel_rfl
theorem ub : AI Tryz.prog 54 = some ⟨.slice 3, 1, 24, [.slice none 0 0]⟩ := by kernel_rfl
theorem uc : AI Tryz.prog 57 = some ⟨.slice 120, 1, 24, [.slice none 0 0]⟩ := by kernel_rfl
theorem ud : AI Tryz.prog 59 = some ⟨.struct [(0, 1, false), (1, 1, false), (2, 1, false)], 3, 64, [.string ⟨#[]⟩, .slice none 0 0, .slice none 0 0]⟩ := by kernel_rfl
theorem ue : AI Tryz.prog 60 = some ⟨.slice 98, 1, 24, [.slice none 0 0]⟩ := by kernel_rfl
theorem uf : AI Tryz.prog 62 = some ⟨.struct [(0, 3, true), (3, 2, true), (5, 1, false), (6, 1, false)], 7, 144, [.string ⟨#[]⟩, .slice none 0 0, .slice none 0 0, .int .i64 0, .slice none 0 0, .slice none 0 0, .slice none 0 0]⟩ := by kernel_rfl
theorem ug : AI Tryz.prog 73 = some ⟨.slice 104, 1, 24, [.slice none 0 0]⟩ := by kernel_rfl
theorem uh : AI Tryz.prog 75 = some ⟨.struct [(0, 1, false), (1, 2, true), (3, 1, false), (4, 1, false)], 5, 88, [.int .i64 0, .string ⟨#[]⟩, .string ⟨#[]⟩, .slice none 0 0, .slice none 0 0]⟩ := by kernel_rfl
theorem ui : AI Tryz.prog 91 = some ⟨.struct [(0, 1, false), (1, 2, true)], 3, 48, [.string ⟨#[]⟩, .string ⟨#[]⟩, .string ⟨#[]⟩]⟩ := by kernel_rfl
theorem uj : AI Tryz.prog 96 = some ⟨.slice 125, 1, 24, [.slice none 0 0]⟩ := by kernel_rfl
theorem uk : AI Tryz.prog 98 = some ⟨.struct [(0, 2, true), (2, 1, false)], 3, 56, [.string ⟨#[]⟩, .string ⟨#[]⟩, .slice none 0 0]⟩ := by kernel_rfl
theorem sL : AI Tryz.prog 101 = some ⟨.struct [(0, 1, false), (1, 1, false)], 2, 32, [.slice none 0 0, .int .i64 0]⟩ := by kernel_rfl
theorem sM : AI Tryz.prog 104 = some ⟨.struct [(0, 2, true), (2, 1, false), (3, 1, false)], 4, 48, [.string ⟨#[]⟩, .string ⟨#[]⟩, .int .i64 0, .int .i64 0]⟩ := by kernel_rfl
theorem sN : AI Tryz.prog 120 = some ⟨.struct [(0, 1, false), (1, 1, false)], 2, 32, [.string ⟨#[]⟩, .string ⟨#[]⟩]⟩ := by kernel_rfl
theorem sO : AI Tryz.prog 125 = some ⟨.struct [(0, 2, true), (2, 1, false)], 3, 56, [.string ⟨#[]⟩, .string ⟨#[]⟩, .slice none 0 0]⟩ := by kernel_rfl
theorem dq : AI Tryz.prog 129 = some ⟨.map 9 4, 1, 8, [.map none]⟩ := by kernel_rfl
theorem DB : AI Tryz.prog 146 = some ⟨.map 27 4, 1, 8, [.map none]⟩ := by kernel_rfl
theorem sP : AI Tryz.prog 166 = some ⟨.slice 194, 1, 24, [.slice none 0 0]⟩ := by kernel_rfl
theorem sQ : AI Tryz.prog 176 = some ⟨.arr 256 4, 256, 256, List.replicate 256 (.bool false)⟩ := by kernel_rfl
theorem sR : AI Tryz.prog 194 = some ⟨.struct [(0, 1, false), (1, 1, false), (2, 1, false), (3, 1, false), (4, 1, false), (5, 1, false), (6, 4, true)], 10, 128, [.int .i64 0, .int .i64 0, .int .i64 0, .int .i64 0, .int .i64 0, .bool false, .string ⟨#[]⟩, .string ⟨#[]⟩, .slice none 0 0, .slice none 0 0]⟩ := by kernel_rfl
theorem sS : AI Tryz.prog 207 = some ⟨.slice 31, 1, 24, [.slice none 0 0]⟩ := by kernel_rfl
theorem sT : AI Tryz.prog 226 = some ⟨.struct [(0, 1, false), (1, 4, true), (5, 1, false), (6, 1, false), (7, 1, false)], 8, 136, [.string ⟨#[]⟩, .string ⟨#[]⟩, .string ⟨#[]⟩, .slice none 0 0, .slice none 0 0, .int .i64 0, .int .i64 0, .slice none 0 0]⟩ := by kernel_rfl
theorem sU : AI Tryz.prog 229 = some ⟨.struct [(0, 1, false), (1, 4, true), (5, 1, false), (6, 1, false)], 7, 112, [.int .i64 0, .string ⟨#[]⟩, .string ⟨#[]⟩, .slice none 0 0, .slice none 0 0, .bool false, .string ⟨#[]⟩]⟩ := by kernel_rfl
theorem sV : AI Tryz.prog 237 = some ⟨.int .u32, 1, 4, [.int .u32 0]⟩ := by kernel_rfl
theorem Fp : nj Tryz.prog 27 = some [.s, .s] := by kernel_rfl
theorem qx : Tryz.prog.follows .mixedOrders = true := by kernel_rfl
instance : Inhabited ByteArray := ⟨⟨#[]⟩⟩
def An (a : Int) : List T := [.v (.int .i64 a)]
def Ub : List T → Option Int
 | [.v (.int .i64 x)] => some x
 | _ => none
def DC : Eo Int where
 enc := An
 dec := Ub
 n := 1
 ed := fun _ => rfl
 de := fun c a h => by unfold Ub at h; split at h <;> cases h; rfl
 len := fun _ => rfl
theorem Sa (a : Int) : An a = [.v (.int .i64 a)] := rfl
theorem Tp (xs : List Int) (n : Int) (s : AS) (K : Kt) : EV 1 (xs.map An) n s K = (0 ≤ n ∧ n < xs.length ∧ K (.t (.rop (An (xs.getD n.toNat default)))) s) := BM An xs 1 n s K fun _ => rfl
theorem Mq {b : Int} : DC.dec [.v (.int .i64 b)] = some b := rfl
theorem ZU (xs : List Int) : DC.decL (xs.map An) = some xs := DC.decL_map xs
theorem Uc : DC.decL [] = some [] := rfl
theorem Tc : DC.enc = An := rfl
theorem d4 : DC.n = 1 := rfl
theorem TX (xs : List Int) : D6 (xs.map An) = True := eq_true (D7 An (by intro a t ht; simp [An] at ht; exact ⟨_, ht⟩) xs)
theorem aD (xs : List Int) : (∀ c ∈ xs.map An, c.length = 1) = True := eq_true fun c hc => by
 obtain ⟨a, _, rfl⟩ := List.mem_map.1 hc; rfl
theorem Iv (xs : List Int) (i : Nat) (s : Int) : (xs.map An).set i [.v (.int .i64 s)] = (xs.set i s).map An := Iw An xs i s rfl
theorem Sb (a : ByteArray) : AH a = [.v (.string a)] := rfl
theorem Tq (xs : List ByteArray) (n : Int) (s : AS) (K : Kt) : EV 1 (xs.map AH) n s K = (0 ≤ n ∧ n < xs.length ∧ K (.t (.rop (AH (xs.getD n.toNat default)))) s) := BM AH xs 1 n s K fun _ => rfl
theorem Mr {b : ByteArray} : Al.dec [.v (.string b)] = some b := rfl
theorem ZW (xs : List ByteArray) : Al.decL (xs.map AH) = some xs := Al.decL_map xs
theorem Ue : Al.decL [] = some [] := rfl
theorem Te : Al.enc = AH := rfl
theorem d5 : Al.n = 1 := rfl
theorem TY (xs : List ByteArray) : D6 (xs.map AH) = True := eq_true (D7 AH (by intro a t ht; simp [AH] at ht; exact ⟨_, ht⟩) xs)
theorem aE (xs : List ByteArray) : (∀ c ∈ xs.map AH, c.length = 1) = True := eq_true fun c hc => by
 obtain ⟨a, _, rfl⟩ := List.mem_map.1 hc; rfl
theorem jY {α β : Type} {A : AD α} {L : AL β} {a : α} {b : β} : (lc A L).enc (a, b) = A.enc a :: L.enc b := rfl
theorem jW {a : Unit} : l0.enc a = [] := rfl
theorem Yu {α : Type} {E : Eo α} {xs : List α} : E.asl.enc xs = .t (.sl E.n (xs.map E.enc)) := rfl
theorem ea {α : Type} {E : Eo α} {a : α} : E.ag.enc a = .agg ((E.enc a).map .t) := rfl
theorem Yr {α : Type} {E : Eo α} {d : Bool} {n : Nat} {xs : List α} : (E.aow d n).enc xs = .o d n (xs.map E.enc) := rfl
theorem TU {b : Int} : BJ.enc b = .t (.v (.int .i64 b)) := rfl
theorem Xg {b : Int} : dt.enc b = .t (.v (.int .u8 b)) := rfl
theorem TW {b : ByteArray} : Av.enc b = .t (.v (.string b)) := rfl
theorem AW {α : Type} [Inhabited α] {xs : List α} {i : Nat} (h : i < xs.length) : xs.drop i = xs.getD i default :: xs.drop (i + 1) := SZ h
theorem rf {k : Nat} {c : Ct} : (AA k c).kd = k := rfl
theorem rg {k : Nat} {c : Ct} : (AA k c).ro = c := rfl
theorem rH {c : Mt} : (AP c).kd = 2 := rfl
theorem rI {c : Mt} : (AP c).mu = c := rfl
open Classical in
noncomputable def BT (p : Prop) : Bool := decide p
theorem Ac {p : Prop} : (BT p = true) = p := by unfold BT; simp
theorem Ab {p : Prop} : (BT p = false) = ¬ p := by unfold BT; simp
theorem Aq {p : Prop} (h : p) : BT p = true := by rw [Ac]; exact h
theorem AQ {p : Prop} (h : ¬ p) : BT p = false := by rw [Ab]; exact h
theorem BZ {p : Prop} [Decidable p] : BT p = decide p := by
 by_cases h : p
 ·rw [Aq h, decide_eq_true h]
 ·rw [AQ h, decide_eq_false h]
theorem Ie {p : Prop} : (!BT p) = BT (¬ p) := by
 by_cases h : p
 ·rw [Aq h, AQ (fun q => q h)]; rfl
 ·rw [AQ h, Aq h]; rfl
theorem AT {p q : Prop} (h : p ↔ q) : BT p = BT q := by rw [propext h]
theorem qa {p : Prop} [Decidable p] : (decide p = true) = p := by simp
theorem qb {p : Prop} [Decidable p] : (decide p = false) = ¬ p := by simp
theorem qc {b : Bool} : ((!b) = true) = (b = false) := by simp
theorem qd {b : Bool} : ((!b) = false) = (b = true) := by simp
theorem qe {b : Bool} : (¬ b = true) = (b = false) := by simp
theorem qf {b : Bool} : (¬ b = false) = (b = true) := by simp
theorem qg {p : Prop} : (¬ ¬ p) = p := by simp
theorem qz : (∀ (p : Prop) [Decidable p], (decide p = true) = p) ∧ (∀ (p : Prop) [Decidable p], (decide p = false) = ¬ p) ∧ (∀ b : Bool, ((!b) = true) = (b = false)) ∧ (∀ b : Bool, ((!b) = false) = (b = true)) ∧ (∀ b : Bool, (¬ b = true) = (b = false)) ∧ (∀ b : Bool, (¬ b = false) = (b = true)) ∧ (∀ p : Prop, (¬ ¬ p) = p) ∧ (∀ p : Prop, (BT p = true) = p) ∧ (∀ p : Prop, (BT p = false) = ¬ p) := ⟨fun _ _ => qa, fun _ _ => qb, fun _ => qc, fun _ => qd, fun _ => qe, fun _ => qf, fun _ => qg, fun _ => Ac, fun _ => Ab⟩
abbrev Aj (G : Gt) : Prop := KY Tryz.prog G ∧ EQ G
abbrev Gd (G : Gt) (f : FuncId) (e : Od) : Prop := Ka Tryz.prog G.m f e
theorem gR {G : Gt} {dp : Nat → Bool} {f : FuncId} {fn : Func} {c : Code} {α : Type} {L : AL α} {pre : α → Prop} {r : α → AV} {kd n : Nat} (hn : ∀ a, (L.enc a).length = n) (hf : Tryz.prog.funcs[f]? = some fn) (hb : fn.body = some c) (hok : MM fn c = true) (hG : Aj G)
    (hlen : n ≤ fn.ntmps) (ok : A8 Tryz.prog f = true) (hk : ¬ kd = 3) (hs : kd = 0 → ∀ a, BX (r a)) (h : ∀ a, pre a → run Tryz.prog G dp (PZ Tryz.prog fn.results.toList (AR 900 0 (L.enc a) ⟨[], []⟩).avs (L.enc a) (r a)) [.c c] (s0 (L.enc a))) : Gd G f (AA kd (At L pre r)) := Vr hn hf hb hok qx hG hlen ok hk hs h
theorem gM {G : Gt} {dp : Nat → Bool} {f : FuncId} {fn : Func} {c : Code} {α : Type} {L : AL α} {pre : α → Prop} {r : α → List AV × AV} {n : Nat} (hn : ∀ a, (L.enc a).length = n) (hf : Tryz.prog.funcs[f]? = some fn) (hb : fn.body = some c) (hok : MM fn c = true) (hG : Aj G)
    (hlen : n ≤ fn.ntmps) (ok : A8 Tryz.prog f = true) (h : ∀ a, pre a → run Tryz.prog G dp (PZ Tryz.prog fn.results.toList (AR 900 0 (L.enc a) ⟨[], []⟩).avs (r a).1 (r a).2) [.c c] (s0 (L.enc a))) : Gd G f (AP (HJ L pre r)) := Sf hn hf hb hok qx hG hlen ok h
structure Ad where
 user : ByteArray
 domain : ByteArray
 deriving DecidableEq
instance : Inhabited Ad := ⟨⟨default, default⟩⟩
def Aw (a : Ad) : List T := [.v (.string a.user), .v (.string a.domain)]
def cN : List T → Option Ad
 | [.v (.string x0), .v (.string x1)] => some ⟨x0, x1⟩
 | _ => none
def Dd : Eo Ad where
 enc := Aw
 dec := cN
 n := 2
 ed := fun _ => rfl
 de := fun c a h => by unfold cN at h; split at h <;> cases h; rfl
 len := fun _ => rfl
theorem Jg (a : Ad) : Aw a = [.v (.string a.user), .v (.string a.domain)] := rfl
theorem YU (xs : List Ad) (n : Int) (s : AS) (K : Kt) : EV 2 (xs.map Aw) n s K = (0 ≤ n ∧ n < xs.length ∧ K (.t (.rop (Aw (xs.getD n.toNat default)))) s) := BM Aw xs 2 n s K fun _ => rfl
theorem Xm {x0 : ByteArray} {x1 : ByteArray} : Dd.dec [.v (.string x0), .v (.string x1)] = some ⟨x0, x1⟩ := rfl
theorem ii (xs : List Ad) : Dd.decL (xs.map Aw) = some xs := Dd.decL_map xs
theorem Xn : Dd.enc = Aw := rfl
theorem nw : Dd.n = 2 := rfl
theorem jc (xs : List Ad) : (∀ c ∈ xs.map Aw, c.length = 2) = True := eq_true fun c hc => by
 obtain ⟨a, _, rfl⟩ := List.mem_map.1 hc; rfl
theorem Xi (xs : List Ad) : D6 (xs.map Aw) = True := eq_true (D7 Aw (by intro a t ht; simp only [Aw, List.mem_cons, List.not_mem_nil, or_false] at ht; rcases ht with rfl | rfl <;> exact ⟨_, rfl⟩) xs)
theorem du (a : Ad) : (⟨a.user, a.domain⟩ : Ad) = a := rfl
theorem C3 {a b : Ad} : a = b ↔ a.user = b.user ∧ a.domain = b.domain := by
 cases a; cases b; simp
structure Ml where
 frm : Ad
 to : List Ad
 body : List ByteArray
 deriving DecidableEq
instance : Inhabited Ml := ⟨⟨default, default, default⟩⟩
def Cy (a : Ml) : List T := [.v (.string a.frm.user), .v (.string a.frm.domain), .sl 2 (a.to.map Aw), .sl 1 (a.body.map AH)]
def WG (x0 : ByteArray) (x1 : ByteArray) : Option (List Ad) → Option (List ByteArray) → Option Ml
 | some x2, some x3 => some ⟨⟨x0, x1⟩, x2, x3⟩
 | _, _ => none
def cY : List T → Option Ml
 | [.v (.string x0), .v (.string x1), .sl 2 x2, .sl 1 x3] => WG x0 x1 (Dd.decL x2) (Al.decL x3)
 | _ => none
def X3 : Eo Ml where
 enc := Cy
 dec := cY
 n := 4
 ed := fun a => by
  show WG a.frm.user a.frm.domain (Dd.decL (a.to.map Dd.enc)) (Al.decL (a.body.map Al.enc)) = _
  rw [Dd.decL_map, Al.decL_map]
  rfl
 de := fun c a h => by
  unfold cY at h
  split at h
  ·unfold WG at h
   split at h
   ·rename_i e0 e1
    cases h
    rw [Dd.decL_inv e0, Al.decL_inv e1]; rfl
   ·cases h
  ·cases h
 len := fun _ => rfl
theorem VN (a : Ml) : Cy a = [.v (.string a.frm.user), .v (.string a.frm.domain), .sl 2 (a.to.map Aw), .sl 1 (a.body.map AH)] := rfl
theorem Yd (xs : List Ml) (n : Int) (s : AS) (K : Kt) : EV 4 (xs.map Cy) n s K = (0 ≤ n ∧ n < xs.length ∧ K (.t (.rop (Cy (xs.getD n.toNat default)))) s) := BM Cy xs 4 n s K fun _ => rfl
theorem X4 {x0 : ByteArray} {x1 : ByteArray} {x2 : List (List T)} {x3 : List (List T)} : X3.dec [.v (.string x0), .v (.string x1), .sl 2 x2, .sl 1 x3] = WG x0 x1 (Dd.decL x2) (Al.decL x3) := rfl
theorem X5 : X3.enc = Cy := rfl
theorem jh (xs : List Ml) : (∀ c ∈ xs.map Cy, c.length = 4) = True := eq_true fun c hc => by
 obtain ⟨a, _, rfl⟩ := List.mem_map.1 hc; rfl
theorem eC (a : Ml) : (⟨a.frm, a.to, a.body⟩ : Ml) = a := rfl
structure Rc where
 addr : Ad
 tries : Int
 next : Int
 deriving DecidableEq
instance : Inhabited Rc := ⟨⟨default, default, default⟩⟩
def BI (a : Rc) : List T := [.v (.string a.addr.user), .v (.string a.addr.domain), .v (.int .i64 a.tries), .v (.int .i64 a.next)]
def cZ : List T → Option Rc
 | [.v (.string x0), .v (.string x1), .v (.int .i64 x2), .v (.int .i64 x3)] => some ⟨⟨x0, x1⟩, x2, x3⟩
 | _ => none
def Td : Eo Rc where
 enc := BI
 dec := cZ
 n := 4
 ed := fun _ => rfl
 de := fun c a h => by unfold cZ at h; split at h <;> cases h; rfl
 len := fun _ => rfl
theorem VO (a : Rc) : BI a = [.v (.string a.addr.user), .v (.string a.addr.domain), .v (.int .i64 a.tries), .v (.int .i64 a.next)] := rfl
theorem Ye (xs : List Rc) (n : Int) (s : AS) (K : Kt) : EV 4 (xs.map BI) n s K = (0 ≤ n ∧ n < xs.length ∧ K (.t (.rop (BI (xs.getD n.toNat default)))) s) := BM BI xs 4 n s K fun _ => rfl
theorem X6 {x0 : ByteArray} {x1 : ByteArray} {x2 : Int} {x3 : Int} : Td.dec [.v (.string x0), .v (.string x1), .v (.int .i64 x2), .v (.int .i64 x3)] = some ⟨⟨x0, x1⟩, x2, x3⟩ := rfl
theorem ir (xs : List Rc) : Td.decL (xs.map BI) = some xs := Td.decL_map xs
theorem X7 : Td.enc = BI := rfl
theorem ji (xs : List Rc) : (∀ c ∈ xs.map BI, c.length = 4) = True := eq_true fun c hc => by
 obtain ⟨a, _, rfl⟩ := List.mem_map.1 hc; rfl
theorem Xk (xs : List Rc) : D6 (xs.map BI) = True := eq_true (D7 BI (by intro a t ht; simp only [BI, List.mem_cons, List.not_mem_nil, or_false] at ht; rcases ht with rfl | rfl | rfl | rfl <;> exact ⟨_, rfl⟩) xs)
theorem eD (a : Rc) : (⟨a.addr, a.tries, a.next⟩ : Rc) = a := rfl
theorem kU (xs : List Rc) (i : Nat) (x0 : ByteArray) (x1 : ByteArray) (x2 : Int) (x3 : Int) : (xs.map BI).set i [.v (.string x0), .v (.string x1), .v (.int .i64 x2), .v (.int .i64 x3)] = (xs.set i ⟨⟨x0, x1⟩, x2, x3⟩).map BI := Iw BI xs i ⟨⟨x0, x1⟩, x2, x3⟩ rfl
structure Im where
 id : Int
 frm : Ad
 to : List Rc
 body : List ByteArray
 deriving DecidableEq
instance : Inhabited Im := ⟨⟨default, default, default, default⟩⟩
def Ay (a : Im) : List T := [.v (.int .i64 a.id), .v (.string a.frm.user), .v (.string a.frm.domain), .sl 4 (a.to.map BI), .sl 1 (a.body.map AH)]
def WF (x0 : Int) (x1 : ByteArray) (x2 : ByteArray) : Option (List Rc) → Option (List ByteArray) → Option Im
 | some x3, some x4 => some ⟨x0, ⟨x1, x2⟩, x3, x4⟩
 | _, _ => none
def cV : List T → Option Im
 | [.v (.int .i64 x0), .v (.string x1), .v (.string x2), .sl 4 x3, .sl 1 x4] => WF x0 x1 x2 (Td.decL x3) (Al.decL x4)
 | _ => none
def I1 : Eo Im where
 enc := Ay
 dec := cV
 n := 5
 ed := fun a => by
  show WF a.id a.frm.user a.frm.domain (Td.decL (a.to.map Td.enc)) (Al.decL (a.body.map Al.enc)) = _
  rw [Td.decL_map, Al.decL_map]
  rfl
 de := fun c a h => by
  unfold cV at h
  split at h
  ·unfold WF at h
   split at h
   ·rename_i e0 e1
    cases h
    rw [Td.decL_inv e0, Al.decL_inv e1]; rfl
   ·cases h
  ·cases h
 len := fun _ => rfl
theorem VL (a : Im) : Ay a = [.v (.int .i64 a.id), .v (.string a.frm.user), .v (.string a.frm.domain), .sl 4 (a.to.map BI), .sl 1 (a.body.map AH)] := rfl
theorem Yb (xs : List Im) (n : Int) (s : AS) (K : Kt) : EV 5 (xs.map Ay) n s K = (0 ≤ n ∧ n < xs.length ∧ K (.t (.rop (Ay (xs.getD n.toNat default)))) s) := BM Ay xs 5 n s K fun _ => rfl
theorem X1 {x0 : Int} {x1 : ByteArray} {x2 : ByteArray} {x3 : List (List T)} {x4 : List (List T)} : I1.dec [.v (.int .i64 x0), .v (.string x1), .v (.string x2), .sl 4 x3, .sl 1 x4] = WF x0 x1 x2 (Td.decL x3) (Al.decL x4) := rfl
theorem ip (xs : List Im) : I1.decL (xs.map Ay) = some xs := I1.decL_map xs
theorem X2 : I1.enc = Ay := rfl
theorem jf (xs : List Im) : (∀ c ∈ xs.map Ay, c.length = 5) = True := eq_true fun c hc => by
 obtain ⟨a, _, rfl⟩ := List.mem_map.1 hc; rfl
theorem eA (a : Im) : (⟨a.id, a.frm, a.to, a.body⟩ : Im) = a := rfl
theorem kT (xs : List Im) (i : Nat) (x0 : Int) (x1 : ByteArray) (x2 : ByteArray) (x3 : List Rc) (x4 : List ByteArray) : (xs.map Ay).set i [.v (.int .i64 x0), .v (.string x1), .v (.string x2), .sl 4 (x3.map BI), .sl 1 (x4.map AH)] = (xs.set i ⟨x0, ⟨x1, x2⟩, x3, x4⟩).map Ay := Iw Ay xs i ⟨x0, ⟨x1, x2⟩, x3, x4⟩ rfl
structure Sp where
 last : Int
 items : List Im
 deriving DecidableEq
instance : Inhabited Sp := ⟨⟨default, default⟩⟩
def EH (a : Sp) : List T := [.v (.int .i64 a.last), .sl 5 (a.items.map Ay)]
def WI (x0 : Int) : Option (List Im) → Option Sp
 | some x1 => some ⟨x0, x1⟩
 | _ => none
def cb : List T → Option Sp
 | [.v (.int .i64 x0), .sl 5 x1] => WI x0 (I1.decL x1)
 | _ => none
def TM : Eo Sp where
 enc := EH
 dec := cb
 n := 2
 ed := fun a => by
  show WI a.last (I1.decL (a.items.map I1.enc)) = _
  rw [I1.decL_map]
  rfl
 de := fun c a h => by
  unfold cb at h
  split at h
  ·unfold WI at h
   split at h
   ·rename_i e0
    cases h
    rw [I1.decL_inv e0]; rfl
   ·cases h
  ·cases h
 len := fun _ => rfl
theorem VP (a : Sp) : EH a = [.v (.int .i64 a.last), .sl 5 (a.items.map Ay)] := rfl
theorem X8 {x0 : Int} {x1 : List (List T)} : TM.dec [.v (.int .i64 x0), .sl 5 x1] = WI x0 (I1.decL x1) := rfl
theorem X9 : TM.enc = EH := rfl
theorem eE (a : Sp) : (⟨a.last, a.items⟩ : Sp) = a := rfl
structure Wy where
 ends : ByteArray
 to : ByteArray
 deriving DecidableEq
instance : Inhabited Wy := ⟨⟨default, default⟩⟩
def B0 (a : Wy) : List T := [.v (.string a.ends), .v (.string a.to)]
def ce : List T → Option Wy
 | [.v (.string x0), .v (.string x1)] => some ⟨x0, x1⟩
 | _ => none
def Kv : Eo Wy where
 enc := B0
 dec := ce
 n := 2
 ed := fun _ => rfl
 de := fun c a h => by unfold ce at h; split at h <;> cases h; rfl
 len := fun _ => rfl
theorem VS (a : Wy) : B0 a = [.v (.string a.ends), .v (.string a.to)] := rfl
theorem Yf (xs : List Wy) (n : Int) (s : AS) (K : Kt) : EV 2 (xs.map B0) n s K = (0 ≤ n ∧ n < xs.length ∧ K (.t (.rop (B0 (xs.getD n.toNat default)))) s) := BM B0 xs 2 n s K fun _ => rfl
theorem YF {x0 : ByteArray} {x1 : ByteArray} : Kv.dec [.v (.string x0), .v (.string x1)] = some ⟨x0, x1⟩ := rfl
theorem iu (xs : List Wy) : Kv.decL (xs.map B0) = some xs := Kv.decL_map xs
theorem YG : Kv.enc = B0 := rfl
theorem n6 : Kv.n = 2 := rfl
theorem jj (xs : List Wy) : (∀ c ∈ xs.map B0, c.length = 2) = True := eq_true fun c hc => by
 obtain ⟨a, _, rfl⟩ := List.mem_map.1 hc; rfl
theorem Xl (xs : List Wy) : D6 (xs.map B0) = True := eq_true (D7 B0 (by intro a t ht; simp only [B0, List.mem_cons, List.not_mem_nil, or_false] at ht; rcases ht with rfl | rfl <;> exact ⟨_, rfl⟩) xs)
theorem eI (a : Wy) : (⟨a.ends, a.to⟩ : Wy) = a := rfl
structure Cf where
 name : ByteArray
 own : List ByteArray
 ways : List Wy
 deriving DecidableEq
instance : Inhabited Cf := ⟨⟨default, default, default⟩⟩
def C9 (a : Cf) : List T := [.v (.string a.name), .sl 1 (a.own.map AH), .sl 2 (a.ways.map B0)]
def WA (x0 : ByteArray) : Option (List ByteArray) → Option (List Wy) → Option Cf
 | some x1, some x2 => some ⟨x0, x1, x2⟩
 | _, _ => none
def cQ : List T → Option Cf
 | [.v (.string x0), .sl 1 x1, .sl 2 x2] => WA x0 (Al.decL x1) (Kv.decL x2)
 | _ => none
def I0 : Eo Cf where
 enc := C9
 dec := cQ
 n := 3
 ed := fun a => by
  show WA a.name (Al.decL (a.own.map Al.enc)) (Kv.decL (a.ways.map Kv.enc)) = _
  rw [Al.decL_map, Kv.decL_map]
  rfl
 de := fun c a h => by
  unfold cQ at h
  split at h
  ·unfold WA at h
   split at h
   ·rename_i e0 e1
    cases h
    rw [Al.decL_inv e0, Kv.decL_inv e1]; rfl
   ·cases h
  ·cases h
 len := fun _ => rfl
theorem VG (a : Cf) : C9 a = [.v (.string a.name), .sl 1 (a.own.map AH), .sl 2 (a.ways.map B0)] := rfl
theorem YX (xs : List Cf) (n : Int) (s : AS) (K : Kt) : EV 3 (xs.map C9) n s K = (0 ≤ n ∧ n < xs.length ∧ K (.t (.rop (C9 (xs.getD n.toNat default)))) s) := BM C9 xs 3 n s K fun _ => rfl
theorem Xq {x0 : ByteArray} {x1 : List (List T)} {x2 : List (List T)} : I0.dec [.v (.string x0), .sl 1 x1, .sl 2 x2] = WA x0 (Al.decL x1) (Kv.decL x2) := rfl
theorem ik (xs : List Cf) : I0.decL (xs.map C9) = some xs := I0.decL_map xs
theorem Xr : I0.enc = C9 := rfl
theorem ny : I0.n = 3 := rfl
theorem dx (a : Cf) : (⟨a.name, a.own, a.ways⟩ : Cf) = a := rfl
structure Gm where
 frm : Ad
 body : List ByteArray
 deriving DecidableEq
instance : Inhabited Gm := ⟨⟨default, default⟩⟩
def DS (a : Gm) : List T := [.v (.string a.frm.user), .v (.string a.frm.domain), .sl 1 (a.body.map AH)]
def WD (x0 : ByteArray) (x1 : ByteArray) : Option (List ByteArray) → Option Gm
 | some x2 => some ⟨⟨x0, x1⟩, x2⟩
 | _ => none
def cT : List T → Option Gm
 | [.v (.string x0), .v (.string x1), .sl 1 x2] => WD x0 x1 (Al.decL x2)
 | _ => none
def QO : Eo Gm where
 enc := DS
 dec := cT
 n := 3
 ed := fun a => by
  show WD a.frm.user a.frm.domain (Al.decL (a.body.map Al.enc)) = _
  rw [Al.decL_map]
  rfl
 de := fun c a h => by
  unfold cT at h
  split at h
  ·unfold WD at h
   split at h
   ·rename_i e0
    cases h
    rw [Al.decL_inv e0]; rfl
   ·cases h
  ·cases h
 len := fun _ => rfl
theorem VJ (a : Gm) : DS a = [.v (.string a.frm.user), .v (.string a.frm.domain), .sl 1 (a.body.map AH)] := rfl
theorem YZ (xs : List Gm) (n : Int) (s : AS) (K : Kt) : EV 3 (xs.map DS) n s K = (0 ≤ n ∧ n < xs.length ∧ K (.t (.rop (DS (xs.getD n.toNat default)))) s) := BM DS xs 3 n s K fun _ => rfl
theorem Xx {x0 : ByteArray} {x1 : ByteArray} {x2 : List (List T)} : QO.dec [.v (.string x0), .v (.string x1), .sl 1 x2] = WD x0 x1 (Al.decL x2) := rfl
theorem im (xs : List Gm) : QO.decL (xs.map DS) = some xs := QO.decL_map xs
theorem Xy : QO.enc = DS := rfl
theorem n5 : QO.n = 3 := rfl
theorem je (xs : List Gm) : (∀ c ∈ xs.map DS, c.length = 3) = True := eq_true fun c hc => by
 obtain ⟨a, _, rfl⟩ := List.mem_map.1 hc; rfl
theorem d8 (a : Gm) : (⟨a.frm, a.body⟩ : Gm) = a := rfl
structure Bx where
 addr : Ad
 mails : List Gm
 deriving DecidableEq
instance : Inhabited Bx := ⟨⟨default, default⟩⟩
def CF (a : Bx) : List T := [.v (.string a.addr.user), .v (.string a.addr.domain), .sl 3 (a.mails.map DS)]
def V9 (x0 : ByteArray) (x1 : ByteArray) : Option (List Gm) → Option Bx
 | some x2 => some ⟨⟨x0, x1⟩, x2⟩
 | _ => none
def cO : List T → Option Bx
 | [.v (.string x0), .v (.string x1), .sl 3 x2] => V9 x0 x1 (QO.decL x2)
 | _ => none
def Tb : Eo Bx where
 enc := CF
 dec := cO
 n := 3
 ed := fun a => by
  show V9 a.addr.user a.addr.domain (QO.decL (a.mails.map QO.enc)) = _
  rw [QO.decL_map]
  rfl
 de := fun c a h => by
  unfold cO at h
  split at h
  ·unfold V9 at h
   split at h
   ·rename_i e0
    cases h
    rw [QO.decL_inv e0]; rfl
   ·cases h
  ·cases h
 len := fun _ => rfl
theorem VE (a : Bx) : CF a = [.v (.string a.addr.user), .v (.string a.addr.domain), .sl 3 (a.mails.map DS)] := rfl
theorem YV (xs : List Bx) (n : Int) (s : AS) (K : Kt) : EV 3 (xs.map CF) n s K = (0 ≤ n ∧ n < xs.length ∧ K (.t (.rop (CF (xs.getD n.toNat default)))) s) := BM CF xs 3 n s K fun _ => rfl
theorem Xo {x0 : ByteArray} {x1 : ByteArray} {x2 : List (List T)} : Tb.dec [.v (.string x0), .v (.string x1), .sl 3 x2] = V9 x0 x1 (QO.decL x2) := rfl
theorem ij (xs : List Bx) : Tb.decL (xs.map CF) = some xs := Tb.decL_map xs
theorem Xp : Tb.enc = CF := rfl
theorem jd (xs : List Bx) : (∀ c ∈ xs.map CF, c.length = 3) = True := eq_true fun c hc => by
 obtain ⟨a, _, rfl⟩ := List.mem_map.1 hc; rfl
theorem dw (a : Bx) : (⟨a.addr, a.mails⟩ : Bx) = a := rfl
structure Ls where
 mark : ByteArray
 addr : Ad
 deriving DecidableEq
instance : Inhabited Ls := ⟨⟨default, default⟩⟩
def A0 (a : Ls) : List T := [.v (.string a.mark), .v (.string a.addr.user), .v (.string a.addr.domain)]
def cX : List T → Option Ls
 | [.v (.string x0), .v (.string x1), .v (.string x2)] => some ⟨x0, ⟨x1, x2⟩⟩
 | _ => none
def I2 : Eo Ls where
 enc := A0
 dec := cX
 n := 3
 ed := fun _ => rfl
 de := fun c a h => by unfold cX at h; split at h <;> cases h; rfl
 len := fun _ => rfl
theorem VM (a : Ls) : A0 a = [.v (.string a.mark), .v (.string a.addr.user), .v (.string a.addr.domain)] := rfl
theorem Yc (xs : List Ls) (n : Int) (s : AS) (K : Kt) : EV 3 (xs.map A0) n s K = (0 ≤ n ∧ n < xs.length ∧ K (.t (.rop (A0 (xs.getD n.toNat default)))) s) := BM A0 xs 3 n s K fun _ => rfl
theorem iq (xs : List Ls) : I2.decL (xs.map A0) = some xs := I2.decL_map xs
theorem ZV : I2.decL [] = some [] := rfl
theorem jg (xs : List Ls) : (∀ c ∈ xs.map A0, c.length = 3) = True := eq_true fun c hc => by
 obtain ⟨a, _, rfl⟩ := List.mem_map.1 hc; rfl
theorem Xj (xs : List Ls) : D6 (xs.map A0) = True := eq_true (D7 A0 (by intro a t ht; simp only [A0, List.mem_cons, List.not_mem_nil, or_false] at ht; rcases ht with rfl | rfl | rfl <;> exact ⟨_, rfl⟩) xs)
structure Hs where
 conf : Cf
 spool : Sp
 boxes : List Bx
 lost : List Ls
 deriving DecidableEq
instance : Inhabited Hs := ⟨⟨default, default, default, default⟩⟩
def Ah (a : Hs) : List T := [.v (.string a.conf.name), .sl 1 (a.conf.own.map AH), .sl 2 (a.conf.ways.map B0), .v (.int .i64 a.spool.last), .sl 5 (a.spool.items.map Ay), .sl 3 (a.boxes.map CF), .sl 3 (a.lost.map A0)]
def WE (x0 : ByteArray) (x3 : Int) : Option (List ByteArray) → Option (List Wy) → Option (List Im) → Option (List Bx) → Option (List Ls) → Option Hs
 | some x1, some x2, some x4, some x5, some x6 => some ⟨⟨x0, x1, x2⟩, ⟨x3, x4⟩, x5, x6⟩
 | _, _, _, _, _ => none
def cU : List T → Option Hs
 | [.v (.string x0), .sl 1 x1, .sl 2 x2, .v (.int .i64 x3), .sl 5 x4, .sl 3 x5, .sl 3 x6] => WE x0 x3 (Al.decL x1) (Kv.decL x2) (I1.decL x4) (Tb.decL x5) (I2.decL x6)
 | _ => none
def GU : Eo Hs where
 enc := Ah
 dec := cU
 n := 7
 ed := fun a => by
  show WE a.conf.name a.spool.last (Al.decL (a.conf.own.map Al.enc)) (Kv.decL (a.conf.ways.map Kv.enc)) (I1.decL (a.spool.items.map I1.enc)) (Tb.decL (a.boxes.map Tb.enc)) (I2.decL (a.lost.map I2.enc)) = _
  rw [Al.decL_map, Kv.decL_map, I1.decL_map, Tb.decL_map, I2.decL_map]
  rfl
 de := fun c a h => by
  unfold cU at h
  split at h
  ·unfold WE at h
   split at h
   ·rename_i e0 e1 e2 e3 e4
    cases h
    rw [Al.decL_inv e0, Kv.decL_inv e1, I1.decL_inv e2, Tb.decL_inv e3, I2.decL_inv e4]; rfl
   ·cases h
  ·cases h
 len := fun _ => rfl
theorem VK (a : Hs) : Ah a = [.v (.string a.conf.name), .sl 1 (a.conf.own.map AH), .sl 2 (a.conf.ways.map B0), .v (.int .i64 a.spool.last), .sl 5 (a.spool.items.map Ay), .sl 3 (a.boxes.map CF), .sl 3 (a.lost.map A0)] := rfl
theorem Ya (xs : List Hs) (n : Int) (s : AS) (K : Kt) : EV 7 (xs.map Ah) n s K = (0 ≤ n ∧ n < xs.length ∧ K (.t (.rop (Ah (xs.getD n.toNat default)))) s) := BM Ah xs 7 n s K fun _ => rfl
theorem Xz {x0 : ByteArray} {x1 : List (List T)} {x2 : List (List T)} {x3 : Int} {x4 : List (List T)} {x5 : List (List T)} {x6 : List (List T)} : GU.dec [.v (.string x0), .sl 1 x1, .sl 2 x2, .v (.int .i64 x3), .sl 5 x4, .sl 3 x5, .sl 3 x6] = WE x0 x3 (Al.decL x1) (Kv.decL x2) (I1.decL x4) (Tb.decL x5) (I2.decL x6) := rfl
theorem io (xs : List Hs) : GU.decL (xs.map Ah) = some xs := GU.decL_map xs
theorem X0 : GU.enc = Ah := rfl
theorem d9 (a : Hs) : (⟨a.conf, a.spool, a.boxes, a.lost⟩ : Hs) = a := rfl
theorem KF (xs : List Hs) (i : Nat) (x0 : ByteArray) (x1 : List ByteArray) (x2 : List Wy) (x3 : Int) (x4 : List Im) (x5 : List Bx) (x6 : List Ls) : (xs.map Ah).set i [.v (.string x0), .sl 1 (x1.map AH), .sl 2 (x2.map B0), .v (.int .i64 x3), .sl 5 (x4.map Ay), .sl 3 (x5.map CF), .sl 3 (x6.map A0)] = (xs.set i ⟨⟨x0, x1, x2⟩, ⟨x3, x4⟩, x5, x6⟩).map Ah := Iw Ah xs i ⟨⟨x0, x1, x2⟩, ⟨x3, x4⟩, x5, x6⟩ rfl
structure Ss where
 state : Int
 mail : Ml
 bad : Bool
 buf : ByteArray
 deriving DecidableEq
instance : Inhabited Ss := ⟨⟨default, default, default, default⟩⟩
def EI (a : Ss) : List T := [.v (.int .i64 a.state), .v (.string a.mail.frm.user), .v (.string a.mail.frm.domain), .sl 2 (a.mail.to.map Aw), .sl 1 (a.mail.body.map AH), .v (.bool a.bad), .v (.string a.buf)]
def WJ (x0 : Int) (x1 : ByteArray) (x2 : ByteArray) (x5 : Bool) (x6 : ByteArray) : Option (List Ad) → Option (List ByteArray) → Option Ss
 | some x3, some x4 => some ⟨x0, ⟨⟨x1, x2⟩, x3, x4⟩, x5, x6⟩
 | _, _ => none
def cc : List T → Option Ss
 | [.v (.int .i64 x0), .v (.string x1), .v (.string x2), .sl 2 x3, .sl 1 x4, .v (.bool x5), .v (.string x6)] => WJ x0 x1 x2 x5 x6 (Dd.decL x3) (Al.decL x4)
 | _ => none
def YA : Eo Ss where
 enc := EI
 dec := cc
 n := 7
 ed := fun a => by
  show WJ a.state a.mail.frm.user a.mail.frm.domain a.bad a.buf (Dd.decL (a.mail.to.map Dd.enc)) (Al.decL (a.mail.body.map Al.enc)) = _
  rw [Dd.decL_map, Al.decL_map]
  rfl
 de := fun c a h => by
  unfold cc at h
  split at h
  ·unfold WJ at h
   split at h
   ·rename_i e0 e1
    cases h
    rw [Dd.decL_inv e0, Al.decL_inv e1]; rfl
   ·cases h
  ·cases h
 len := fun _ => rfl
theorem VQ (a : Ss) : EI a = [.v (.int .i64 a.state), .v (.string a.mail.frm.user), .v (.string a.mail.frm.domain), .sl 2 (a.mail.to.map Aw), .sl 1 (a.mail.body.map AH), .v (.bool a.bad), .v (.string a.buf)] := rfl
theorem YB {x0 : Int} {x1 : ByteArray} {x2 : ByteArray} {x3 : List (List T)} {x4 : List (List T)} {x5 : Bool} {x6 : ByteArray} : YA.dec [.v (.int .i64 x0), .v (.string x1), .v (.string x2), .sl 2 x3, .sl 1 x4, .v (.bool x5), .v (.string x6)] = WJ x0 x1 x2 x5 x6 (Dd.decL x3) (Al.decL x4) := rfl
theorem YC : YA.enc = EI := rfl
theorem eG (a : Ss) : (⟨a.state, a.mail, a.bad, a.buf⟩ : Ss) = a := rfl
structure Cl where
 name : ByteArray
 mail : Ml
 state : Int
 pos : Int
 outs : List Int
 deriving DecidableEq
instance : Inhabited Cl := ⟨⟨default, default, default, default, default⟩⟩
def DR (a : Cl) : List T := [.v (.string a.name), .v (.string a.mail.frm.user), .v (.string a.mail.frm.domain), .sl 2 (a.mail.to.map Aw), .sl 1 (a.mail.body.map AH), .v (.int .i64 a.state), .v (.int .i64 a.pos), .sl 1 (a.outs.map An)]
def WB (x0 : ByteArray) (x1 : ByteArray) (x2 : ByteArray) (x5 : Int) (x6 : Int) : Option (List Ad) → Option (List ByteArray) → Option (List Int) → Option Cl
 | some x3, some x4, some x7 => some ⟨x0, ⟨⟨x1, x2⟩, x3, x4⟩, x5, x6, x7⟩
 | _, _, _ => none
def cR : List T → Option Cl
 | [.v (.string x0), .v (.string x1), .v (.string x2), .sl 2 x3, .sl 1 x4, .v (.int .i64 x5), .v (.int .i64 x6), .sl 1 x7] => WB x0 x1 x2 x5 x6 (Dd.decL x3) (Al.decL x4) (DC.decL x7)
 | _ => none
def Xs : Eo Cl where
 enc := DR
 dec := cR
 n := 8
 ed := fun a => by
  show WB a.name a.mail.frm.user a.mail.frm.domain a.state a.pos (Dd.decL (a.mail.to.map Dd.enc)) (Al.decL (a.mail.body.map Al.enc)) (DC.decL (a.outs.map DC.enc)) = _
  rw [Dd.decL_map, Al.decL_map, DC.decL_map]
  rfl
 de := fun c a h => by
  unfold cR at h
  split at h
  ·unfold WB at h
   split at h
   ·rename_i e0 e1 e2
    cases h
    rw [Dd.decL_inv e0, Al.decL_inv e1, DC.decL_inv e2]; rfl
   ·cases h
  ·cases h
 len := fun _ => rfl
theorem VH (a : Cl) : DR a = [.v (.string a.name), .v (.string a.mail.frm.user), .v (.string a.mail.frm.domain), .sl 2 (a.mail.to.map Aw), .sl 1 (a.mail.body.map AH), .v (.int .i64 a.state), .v (.int .i64 a.pos), .sl 1 (a.outs.map An)] := rfl
theorem Xt {x0 : ByteArray} {x1 : ByteArray} {x2 : ByteArray} {x3 : List (List T)} {x4 : List (List T)} {x5 : Int} {x6 : Int} {x7 : List (List T)} : Xs.dec [.v (.string x0), .v (.string x1), .v (.string x2), .sl 2 x3, .sl 1 x4, .v (.int .i64 x5), .v (.int .i64 x6), .sl 1 x7] = WB x0 x1 x2 x5 x6 (Dd.decL x3) (Al.decL x4) (DC.decL x7) := rfl
theorem Xu : Xs.enc = DR := rfl
theorem dy (a : Cl) : (⟨a.name, a.mail, a.state, a.pos, a.outs⟩ : Cl) = a := rfl
structure Ev where
 kind : Int
 host : Int
 to : Int
 id : Int
 cut : Int
 lose : Bool
 mail : Ml
 deriving DecidableEq
instance : Inhabited Ev := ⟨⟨default, default, default, default, default, default, default⟩⟩
def Ci (a : Ev) : List T := [.v (.int .i64 a.kind), .v (.int .i64 a.host), .v (.int .i64 a.to), .v (.int .i64 a.id), .v (.int .i64 a.cut), .v (.bool a.lose), .v (.string a.mail.frm.user), .v (.string a.mail.frm.domain), .sl 2 (a.mail.to.map Aw), .sl 1 (a.mail.body.map AH)]
def WC (x0 : Int) (x1 : Int) (x2 : Int) (x3 : Int) (x4 : Int) (x5 : Bool) (x6 : ByteArray) (x7 : ByteArray) : Option (List Ad) → Option (List ByteArray) → Option Ev
 | some x8, some x9 => some ⟨x0, x1, x2, x3, x4, x5, ⟨⟨x6, x7⟩, x8, x9⟩⟩
 | _, _ => none
def cS : List T → Option Ev
 | [.v (.int .i64 x0), .v (.int .i64 x1), .v (.int .i64 x2), .v (.int .i64 x3), .v (.int .i64 x4), .v (.bool x5), .v (.string x6), .v (.string x7), .sl 2 x8, .sl 1 x9] => WC x0 x1 x2 x3 x4 x5 x6 x7 (Dd.decL x8) (Al.decL x9)
 | _ => none
def Oc : Eo Ev where
 enc := Ci
 dec := cS
 n := 10
 ed := fun a => by
  show WC a.kind a.host a.to a.id a.cut a.lose a.mail.frm.user a.mail.frm.domain (Dd.decL (a.mail.to.map Dd.enc)) (Al.decL (a.mail.body.map Al.enc)) = _
  rw [Dd.decL_map, Al.decL_map]
  rfl
 de := fun c a h => by
  unfold cS at h
  split at h
  ·unfold WC at h
   split at h
   ·rename_i e0 e1
    cases h
    rw [Dd.decL_inv e0, Al.decL_inv e1]; rfl
   ·cases h
  ·cases h
 len := fun _ => rfl
theorem VI (a : Ev) : Ci a = [.v (.int .i64 a.kind), .v (.int .i64 a.host), .v (.int .i64 a.to), .v (.int .i64 a.id), .v (.int .i64 a.cut), .v (.bool a.lose), .v (.string a.mail.frm.user), .v (.string a.mail.frm.domain), .sl 2 (a.mail.to.map Aw), .sl 1 (a.mail.body.map AH)] := rfl
theorem YY (xs : List Ev) (n : Int) (s : AS) (K : Kt) : EV 10 (xs.map Ci) n s K = (0 ≤ n ∧ n < xs.length ∧ K (.t (.rop (Ci (xs.getD n.toNat default)))) s) := BM Ci xs 10 n s K fun _ => rfl
theorem Xv {x0 : Int} {x1 : Int} {x2 : Int} {x3 : Int} {x4 : Int} {x5 : Bool} {x6 : ByteArray} {x7 : ByteArray} {x8 : List (List T)} {x9 : List (List T)} : Oc.dec [.v (.int .i64 x0), .v (.int .i64 x1), .v (.int .i64 x2), .v (.int .i64 x3), .v (.int .i64 x4), .v (.bool x5), .v (.string x6), .v (.string x7), .sl 2 x8, .sl 1 x9] = WC x0 x1 x2 x3 x4 x5 x6 x7 (Dd.decL x8) (Al.decL x9) := rfl
theorem il (xs : List Ev) : Oc.decL (xs.map Ci) = some xs := Oc.decL_map xs
theorem Xw : Oc.enc = Ci := rfl
theorem nz : Oc.n = 10 := rfl
theorem d6 (a : Ev) : (⟨a.kind, a.host, a.to, a.id, a.cut, a.lose, a.mail⟩ : Ev) = a := rfl
structure Wd where
 hosts : List Hs
 now : Int
 marks : Int
 given : List Ls
 deriving DecidableEq
instance : Inhabited Wd := ⟨⟨default, default, default, default⟩⟩
def DT (a : Wd) : List T := [.sl 7 (a.hosts.map Ah), .v (.int .i64 a.now), .v (.int .i64 a.marks), .sl 3 (a.given.map A0)]
def GN (x1 : Int) (x2 : Int) : Option (List Hs) → Option (List Ls) → Option Wd
 | some x0, some x3 => some ⟨x0, x1, x2, x3⟩
 | _, _ => none
def cd : List T → Option Wd
 | [.sl 7 x0, .v (.int .i64 x1), .v (.int .i64 x2), .sl 3 x3] => GN x1 x2 (GU.decL x0) (I2.decL x3)
 | _ => none
def TN : Eo Wd where
 enc := DT
 dec := cd
 n := 4
 ed := fun a => by
  show GN a.now a.marks (GU.decL (a.hosts.map GU.enc)) (I2.decL (a.given.map I2.enc)) = _
  rw [GU.decL_map, I2.decL_map]
  rfl
 de := fun c a h => by
  unfold cd at h
  split at h
  ·unfold GN at h
   split at h
   ·rename_i e0 e1
    cases h
    rw [GU.decL_inv e0, I2.decL_inv e1]; rfl
   ·cases h
  ·cases h
 len := fun _ => rfl
theorem VR (a : Wd) : DT a = [.sl 7 (a.hosts.map Ah), .v (.int .i64 a.now), .v (.int .i64 a.marks), .sl 3 (a.given.map A0)] := rfl
theorem YD {x0 : List (List T)} {x1 : Int} {x2 : Int} {x3 : List (List T)} : TN.dec [.sl 7 x0, .v (.int .i64 x1), .v (.int .i64 x2), .sl 3 x3] = GN x1 x2 (GU.decL x0) (I2.decL x3) := rfl
theorem YE : TN.enc = DT := rfl
theorem eH (a : Wd) : (⟨a.hosts, a.now, a.marks, a.given⟩ : Wd) = a := rfl
def S5 (a : Ml) : AV := .agg [.t (.v (.string a.frm.user)), .t (.v (.string a.frm.domain)), .o true 2 (a.to.map Aw), .o true 1 (a.body.map AH)]
theorem al (a : Ml) : S5 a = .agg [.t (.v (.string a.frm.user)), .t (.v (.string a.frm.domain)), .o true 2 (a.to.map Aw), .o true 1 (a.body.map AH)] := rfl
theorem J5 (a : Ml) : BX (S5 a) := .agg _ fun c hc => by
 simp only [List.mem_cons, List.not_mem_nil, or_false] at hc
 rcases hc with rfl | rfl | rfl | rfl
 ·exact .v _
 ·exact .v _
 ·exact .deep _ _
 ·exact .deep _ _
def kE (a : Im) : AV := .agg [.t (.v (.int .i64 a.id)), .t (.v (.string a.frm.user)), .t (.v (.string a.frm.domain)), .o true 4 (a.to.map BI), .o true 1 (a.body.map AH)]
theorem ak (a : Im) : kE a = .agg [.t (.v (.int .i64 a.id)), .t (.v (.string a.frm.user)), .t (.v (.string a.frm.domain)), .o true 4 (a.to.map BI), .o true 1 (a.body.map AH)] := rfl
theorem P0 (a : Im) : BX (kE a) := .agg _ fun c hc => by
 simp only [List.mem_cons, List.not_mem_nil, or_false] at hc
 rcases hc with rfl | rfl | rfl | rfl | rfl
 ·exact .v _
 ·exact .v _
 ·exact .v _
 ·exact .deep _ _
 ·exact .deep _ _
def Wq (a : Sp) : AV := .agg [.t (.v (.int .i64 a.last)), .o true 5 (a.items.map Ay)]
theorem am (a : Sp) : Wq a = .agg [.t (.v (.int .i64 a.last)), .o true 5 (a.items.map Ay)] := rfl
theorem P1 (a : Sp) : BX (Wq a) := .agg _ fun c hc => by
 simp only [List.mem_cons, List.not_mem_nil, or_false] at hc
 rcases hc with rfl | rfl
 ·exact .v _
 ·exact .deep _ _
def kC (a : Cf) : AV := .agg [.t (.v (.string a.name)), .o true 1 (a.own.map AH), .o true 2 (a.ways.map B0)]
theorem ah (a : Cf) : kC a = .agg [.t (.v (.string a.name)), .o true 1 (a.own.map AH), .o true 2 (a.ways.map B0)] := rfl
theorem Py (a : Cf) : BX (kC a) := .agg _ fun c hc => by
 simp only [List.mem_cons, List.not_mem_nil, or_false] at hc
 rcases hc with rfl | rfl | rfl
 ·exact .v _
 ·exact .deep _ _
 ·exact .deep _ _
def kD (a : Hs) : AV := .agg [.t (.v (.string a.conf.name)), .o true 1 (a.conf.own.map AH), .o true 2 (a.conf.ways.map B0), .t (.v (.int .i64 a.spool.last)), .o true 5 (a.spool.items.map Ay), .o true 3 (a.boxes.map CF), .o true 3 (a.lost.map A0)]
theorem aj (a : Hs) : kD a = .agg [.t (.v (.string a.conf.name)), .o true 1 (a.conf.own.map AH), .o true 2 (a.conf.ways.map B0), .t (.v (.int .i64 a.spool.last)), .o true 5 (a.spool.items.map Ay), .o true 3 (a.boxes.map CF), .o true 3 (a.lost.map A0)] := rfl
theorem Pz (a : Hs) : BX (kD a) := .agg _ fun c hc => by
 simp only [List.mem_cons, List.not_mem_nil, or_false] at hc
 rcases hc with rfl | rfl | rfl | rfl | rfl | rfl | rfl
 ·exact .v _
 ·exact .deep _ _
 ·exact .deep _ _
 ·exact .v _
 ·exact .deep _ _
 ·exact .deep _ _
 ·exact .deep _ _
end Go.V
namespace Go.V
open Go Go.Proofs
set_option maxRecDepth 100000
set_option linter.unusedSimpArgs false
set_option linter.unusedVariables false
theorem ai {a b : Prop} (x : a) (y : b) : a ∧ b := ⟨x, y⟩
theorem s1 {P G dp R k s t e b} (h1 : b = true → run P G dp R (.c t :: k) s) (h2 : b = false → run P G dp R (.c e :: k) s) : oc P G dp R t e k s b := R8 h1 h2
theorem s2 {s : AS} {x y : AV} {K : Kt} {b : Bool} (h1 : b = true → K x s) (h2 : b = false → K y s) : Ey x y s K b := Lh h1 h2
theorem s3 {P G dp R k s d all r op b want} (h1 : b = true → gB P G dp R d all r k s op true want) (h2 : b = false → gB P G dp R d all r k s op false want) : gB P G dp R d all r k s op b want := Vk h1 h2
theorem s4 {P G dp all ns K i l acc s pre t d op b want} (h1 : b = true → TQ P G dp all ns K i l acc s pre t d op true want) (h2 : b = false → TQ P G dp all ns K i l acc s pre t d op false want) : TQ P G dp all ns K i l acc s pre t d op b want := Ry h1 h2
theorem tn (n : Nat) : Int.toNat (n : Int) = n := rfl
theorem lm {α β : Type} {xs : List α} (f : α → β) : (xs.map f).length = xs.length := List.length_map f
theorem OW {dp : Nat → Bool} {G : Gt} {f : FuncId} {fn : Func} {c : Code} {α : Type} {L : AL α} {pre : α → Prop} {r : α → AV} {kd n : Nat} (hb : fn.body = some c) (hG : Aj G) (h : ∀ a, pre a → run Tryz.prog G dp (PZ Tryz.prog fn.results.toList (AR 900 0 (L.enc a) ⟨[], []⟩).avs (L.enc a) (r a)) [.c c] (s0 (L.enc a)))
    (hn : ∀ a, (L.enc a).length = n := by exact fun _ => rfl) (hf : Tryz.prog.funcs[f]? = some fn := by kernel_rfl) (hok : MM fn c = true := by kernel_rfl) (hlen : n ≤ fn.ntmps := by exact Nat.le_of_ble_eq_true rfl) (ok : A8 Tryz.prog f = true := by kernel_rfl) (hk : ¬ kd = 3 := by decide) (hs : kd = 0 → ∀ a, BX (r a) := by first | exact fun _ _ => .v _ | exact fun h => by cases h) : Gd G f (AA kd (At L pre r)) := gR hn hf hb hok hG hlen ok hk hs h
theorem gr {G : Gt} {f : FuncId} {fn : Func} {c : Code} {α : Type} {L : AL α} {pre : α → Prop} {r : α → AV} {kd n : Nat} (hb : fn.body = some c) (hG : Aj G) (h : ∀ a, pre a → run Tryz.prog G (fun _ => true) (PZ Tryz.prog fn.results.toList (AR 900 0 (L.enc a) ⟨[], []⟩).avs (L.enc a) (r a)) [.c c] (s0 (L.enc a)))
    (hn : ∀ a, (L.enc a).length = n := by exact fun _ => rfl) (hf : Tryz.prog.funcs[f]? = some fn := by kernel_rfl) (hok : MM fn c = true := by kernel_rfl) (hlen : n ≤ fn.ntmps := by exact Nat.le_of_ble_eq_true rfl) (ok : A8 Tryz.prog f = true := by kernel_rfl) (hk : ¬ kd = 3 := by decide) (hs : kd = 0 → ∀ a, BX (r a) := by first | exact fun _ _ => .v _ | exact fun h => by cases h) : Gd G f (AA kd (At L pre r)) := gR hn hf hb hok hG hlen ok hk hs h
theorem Jh {dp : Nat → Bool} {G : Gt} {f : FuncId} {fn : Func} {c : Code} {α : Type} {L : AL α} {pre : α → Prop} {r : α → List AV × AV} {n : Nat} (hb : fn.body = some c) (hG : Aj G) (h : ∀ a, pre a → run Tryz.prog G dp (PZ Tryz.prog fn.results.toList (AR 900 0 (L.enc a) ⟨[], []⟩).avs (r a).1 (r a).2) [.c c] (s0 (L.enc a)))
    (hn : ∀ a, (L.enc a).length = n := by exact fun _ => rfl) (hf : Tryz.prog.funcs[f]? = some fn := by kernel_rfl) (hok : MM fn c = true := by kernel_rfl) (hlen : n ≤ fn.ntmps := by exact Nat.le_of_ble_eq_true rfl) (ok : A8 Tryz.prog f = true := by kernel_rfl) : Gd G f (AP (HJ L pre r)) := gM hn hf hb hok hG hlen ok h
attribute [go_sem] Ey.eq_1 Ey.eq_2 JH.eq_1 Rk.eq_1 Rk.eq_2 HO.eq_1 HO.eq_2 EX.eq_1 EX.eq_2 EX.eq_3 EX.eq_4 EX.eq_5 EW.eq_1 EW.eq_2 EW.eq_3 EW.eq_4 EW.eq_5 EY.eq_1 EY.eq_2 EY.eq_3 Hw.eq_1 Hw.eq_2 On.eq_1 On.eq_2 On.eq_3 eM.eq_1 eM.eq_2 oF.eq_1 aF.eq_1 aF.eq_2 Zv.eq_1 KW.eq_1 Gb.eq_1 Gb.eq_2 Gb.eq_3 Gb.eq_4 Gb.eq_5 JC.eq_1 JC.eq_2 Bi.eq_1 Bi.eq_2 Bi.eq_3 H3.eq_1 GA.eq_1 HP.eq_1 K5.eq_1 Ov.eq_1 Ov.eq_2 Ea.eq_1 Ea.eq_2 Ea.eq_3 K7.eq_1 K7.eq_2 EU.eq_1 EU.eq_2 F8.eq_1 FP.eq_1 FP.eq_2 eJ.eq_1 eJ.eq_2 By.eq_1 By.eq_2 CN.eq_1 Id.eq_1 K1.eq_1 ET.eq_1 ET.eq_2 FR.eq_1 FQ.eq_1 ML.eq_1 Dj.eq_1 Dj.eq_2 Dk.eq_1 Dk.eq_2 Ez.eq_1 Ez.eq_2 Cz.eq_1 Cz.eq_2 Hi.eq_1 JA.eq_1 JA.eq_2 K2.eq_1 K2.eq_2 M7.eq_1 M7.eq_2 M7.eq_3 M7.eq_4 Ol.eq_1 Ol.eq_2 Kf.eq_1 Kf.eq_2 Kf.eq_3 Kf.eq_4 b9.eq_1 b9.eq_2 M9.eq_1 Ge.eq_1 Ge.eq_2 Ge.eq_3 NA.eq_1 Gc.eq_1 Gc.eq_2 Gc.eq_3 Ig.eq_1 Ig.eq_2 Ih.eq_1 Ih.eq_2 JG.eq_1 JG.eq_2 V0.eq_1 Rm.eq_1 Rn.eq_1 Ok.eq_1 Ok.eq_2 Rp.eq_1 Fu.eq_1 Fu.eq_2 Fu.eq_3 Fu.eq_4 Om.eq_1 Om.eq_2 DN.eq_1 Lg.eq_1 Lg.eq_2 Lg.eq_3 Cj.eq_1 Cj.eq_2 F9.eq_1 F9.eq_2 C4.eq_1 C4.eq_2 C4.eq_3 Hu.eq_1 Hu.eq_2 dT.eq_1 AS.takeV.eq_1 AS.takeV.eq_2 AS.takeV.eq_3 AS.takeV.eq_4 AS.takeV.eq_5 AS.takeV.eq_6 AS.takeV.eq_7 AV.oldM.eq_1 AV.oldM.eq_2 AV.oldM.eq_3 AV.oldM.eq_4 AV.oldM.eq_5 AV.oldM.eq_6 AV.oldM.eq_7 AV.oldM.eq_8 AV.oldM.eq_9 AV.oldM.eq_10 AV.oldM.eq_11 AV.oldML.eq_1 AV.oldML.eq_2 subL.eq_1 subL.eq_2 Eb.eq_1 Eb.eq_2 Eb.eq_3 Eb.eq_4 Cv.eq_1 BO.eq_1 BO.eq_2 BO.eq_3 BO.eq_4 Bp.eq_1 Cs.eq_1 Cs.eq_2 Cs.eq_3 Ga.eq_1 Ga.eq_2 Ga.eq_3 CS.eq_1 CS.eq_2 CS.eq_3 CS.eq_4 CS.eq_5 CS.eq_6 CS.eq_7 CS.eq_8 CS.eq_9 CS.eq_10 CS.eq_11 CS.eq_12 CS.eq_13 CS.eq_14 CS.eq_15 CS.eq_17 CS.eq_18 CS.eq_19 CS.eq_20 CS.eq_21 CS.eq_22 CS.eq_23 AS.ev.eq_1 AS.ev.eq_2 AS.ev.eq_3 AS.ev.eq_4 AS.evs.eq_1 AS.evs.eq_2 AS.evp.eq_1 AS.evp.eq_2 AS.put.eq_1 AS.put.eq_2 AS.remL.eq_1 AS.remL.eq_2 AV.has.eq_1 AV.has.eq_2 AV.has.eq_3 AV.has.eq_4 AV.has.eq_5 AV.has.eq_6 AV.has.eq_7 AV.has.eq_8 AV.has.eq_9 AV.has.eq_10 AV.has.eq_11 AV.hasL.eq_1 AV.hasL.eq_2 Ob.drop.eq_1 Ob.drop.eq_2 Ob.drop.eq_3 Ob.drop.eq_4 AV.cells.eq_1 AV.cells.eq_2 AV.cells.eq_3 AV.cells.eq_4 AV.cells.eq_5 AS.snapT.eq_1 AS.snapT.eq_2 AS.snapT.eq_3 AS.snapT.eq_4 AS.snapT.eq_5 AS.snapT.eq_6 AS.snapT.eq_7 AS.snap.eq_1 AS.snap.eq_2 A6.eq_1 A6.eq_2 AN.eq_1 AN.eq_2 AN.eq_3 AN.eq_4 AN.eq_5 AN.eq_6 AN.eq_7 AN.eq_8 AN.eq_9 AN.eq_10 AN.eq_11 AR.eq_1 AR.eq_2 KV.eq_1 KV.eq_2 AV.ids.eq_1 AV.ids.eq_2 AV.ids.eq_3 AV.ids.eq_4 AV.ids.eq_5 AV.ids.eq_6 AV.ids.eq_7 AV.ids.eq_8 AV.ids.eq_9 AV.ids.eq_10 AV.ids.eq_11 AV.idsL.eq_1 AV.idsL.eq_2 AV.sub.eq_1 AV.sub.eq_2 AV.sub.eq_3 AV.sub.eq_4 AV.sub.eq_5 AV.sub.eq_6 AV.sub.eq_7 AV.sub.eq_8 AV.sub.eq_9 AV.sub.eq_10 AV.sub.eq_11 AV.subL.eq_1 AV.subL.eq_2 AS.frzL.eq_1 AS.frzL.eq_2 AS.absT.eq_1 AS.absT.eq_2 AS.absT.eq_4 AS.absL.eq_1 AS.absL.eq_2 AS.absOk.eq_1 AS.absOkL.eq_1 AS.absOkL.eq_2 Bu.eq_1 BU.eq_1 BU.eq_2 AS.appBase.eq_1 AS.appBase.eq_2 AS.appSrc.eq_1 DE.eq_1 DE.eq_2 DE.eq_3 CY.eq_1 CY.eq_2 cG.eq_1 cG.eq_2 DF.eq_1 Kd.agg.eq_1 Kd.agg.eq_2 MN.eq_1 MN.eq_2 MN.eq_3 MN.eq_4 MN.eq_5 MN.eq_6 MN.eq_7 MN.eq_8 zt.eq_1 uC.eq_1 uG.eq_1 W8.eq_1 W8.eq_2 Xa.eq_1 Wm.eq_1 N7.eq_1 N7.eq_2 N7.eq_3 Wn.eq_1 Wl.eq_1 S3.eq_1 S3.eq_2 H0.eq_1 Er.eq_1 Er.eq_2 Er.eq_3 Er.eq_4 Er.eq_5 Er.eq_6 Er.eq_7 Er.eq_8 Dq.eq_1 Dq.eq_2 DJ.eq_1 DJ.eq_2 DJ.eq_3 DJ.eq_4 DJ.eq_5 Bn.eq_1 DY.eq_1 DY.eq_2 DY.eq_3 DY.eq_4 DY.eq_5 CI.eq_1 Vi.eq_1 Vi.eq_2 PZ.eq_1 PZ.eq_2 PZ.eq_3 cellAV.eq_1 cellAV.eq_2 Dw.eq_1 Dw.eq_2 C8.eq_1 C8.eq_2 C8.eq_3 C8.eq_4 C8.eq_5 C8.eq_6 C8.eq_7 C8.eq_8 C8.eq_9 C8.eq_10 C8.eq_11 C8.eq_12 C8.eq_13 C8.eq_14 C8.eq_15 C8.eq_16 C8.eq_17 C8.eq_18 C8.eq_19 C8.eq_20 C8.eq_21 C8.eq_22 C8.eq_23 C8.eq_24 C8.eq_25 C8.eq_26 CQ.eq_1 CQ.eq_2 CQ.eq_3 CQ.eq_4 CQ.eq_5 AV.refs.eq_1 AV.refs.eq_2 AV.refs.eq_3 AV.refs.eq_4 AV.refs.eq_5 AV.refs.eq_6 AV.refs.eq_7 AV.refs.eq_8 AV.refs.eq_9 AV.refs.eq_10 AV.refs.eq_11 AV.refsL.eq_1 AV.refsL.eq_2 OF.eq_1 OF.eq_2 KA.eq_1 KA.eq_2 KA.eq_3 KA.eq_4 KA.eq_5 KA.eq_6 RU.eq_1 RU.eq_2 ZJ.eq_1 ZJ.eq_2 H5.eq_1 H5.eq_2 AV.hasM.eq_1 AV.hasM.eq_2 AV.hasM.eq_3 AV.hasM.eq_4 AV.hasM.eq_5 AV.hasM.eq_6 AV.hasM.eq_7 AV.hasM.eq_8 AV.hasM.eq_9 AV.hasM.eq_10 AV.hasM.eq_11 AV.hasML.eq_1 AV.hasML.eq_2 Ob.dropM.eq_1 Ob.dropM.eq_2 Ob.dropM.eq_3 Ob.dropM.eq_4 nn.eq_1 nn.eq_2 AS.purges.eq_1 AS.purges.eq_2 PT.eq_1 PT.eq_2 aP.eq_1 aP.eq_2 t9.eq_1 t9.eq_2 Gu.eq_1 Gu.eq_2 Gk.eq_1 Gk.eq_2 jZ.eq_1 jZ.eq_2 ja.eq_1 ja.eq_2 AS.mvs.eq_1 AS.mvs.eq_2 AS.mvA.eq_1 AS.mvA.eq_2 AS.mvB.eq_1 QY.eq_1 QY.eq_2 nc.eq_1 nc.eq_2 XW.eq_1 Hv.eq_1 Hv.eq_2 ef.eq_1 JI.eq_1 JI.eq_2 K4.eq_1 JJ.eq_1 JJ.eq_2 Jn.eq_1 C6.eq_1 Tr.eq_1 JF.eq_1 JF.eq_2 JF.eq_3 QX.eq_1 QX.eq_2 K3.eq_1 K3.eq_2 Ot.eq_1 sc.eq_1 sc.eq_2 sc.eq_3 tz.eq_1 Ex.eq_1 Ex.eq_2 XG.eq_1 Jr.eq_1 Jr.eq_2 Jr.eq_3 nl.eq_1 nl.eq_2 nl.eq_3 Rv.eq_1 Ru.eq_1 Rt.eq_1 Hx.eq_1 Oq.eq_1 Oq.eq_2 Rs.eq_1 Rr.eq_1 EZ.eq_1 JD.eq_1 M8.eq_1 tp.eq_1 tp.eq_2 cl.eq_1 cl.eq_2 cl.eq_3 cl.eq_4 Jt.eq_1 Jt.eq_2 Jt.eq_3 Jt.eq_4 V4.eq_1 V4.eq_2 tw.eq_1 tw.eq_2 Js.eq_1 Js.eq_2 jk.eq_1 jk.eq_2 jk.eq_3 jk.eq_4 jk.eq_5 AS.lkO.eq_1 AS.lkO.eq_2 AS.lkOf.eq_1 OE.eq_1 OE.eq_2 OE.eq_3 OE.eq_4 OE.eq_5 OE.eq_6 C1.eq_1 C1.eq_2 C1.eq_3 C1.eq_4 C1.eq_5 C1.eq_6 C1.eq_7 C1.eq_8 C1.eq_9 C1.eq_10 C1.eq_11 eN.eq_1 eN.eq_2 oG.eq_1 oG.eq_2 KL.eq_1 C7.eq_1 C7.eq_2 Ju.eq_1 Ju.eq_2 Ju.eq_3 Ju.eq_4 V5.eq_1 V5.eq_2 tx.eq_1 tx.eq_2 Q9.eq_1 Q9.eq_2 oI.eq_1 ri rj W6 bA W3 og oe od TA W4 a9 QC W1 kN ay kM ax kO az pX pV rk kP a8 tl tm pm pi pk pj rh kv KI JE eK Tl Gf TF gv gd s0 Am B8 Gu jL jK VB drop_nil jB jA Zl Zk VA VC Zj Gk Z7 kV kI re_eq up_eq jO rQ Ob.drop tA uy DK AS.frz splice cond_true cond_false List.map_cons List.map_nil List.drop_zero List.drop_succ_cons List.drop_nil List.take_zero List.take_succ_cons List.take_nil List.getElem?_cons_zero List.getElem?_cons_succ List.getElem?_nil List.length_cons List.length_nil Option.map_some Option.map_none Option.bind_some Option.bind_none List.cons_append List.nil_append List.append_nil Option.getD_some Option.getD_none List.all_cons List.all_nil Bool.and_true Bool.true_and Bool.or_false Bool.false_or Bool.or_true Bool.true_or List.flatten_cons List.flatten_nil List.replicate_succ List.replicate_zero and_true true_and en ej Tw Ym Yn R0 T4 Yw Yx R2 T2 T3 lJ lK SE ZC ZB kX kW bS bQ bB j9 aZ Wk ae ac kA Wo S1 S4 ne_eq not_false_eq_true not_true_eq_false List.nodup_nil List.not_mem_nil false_implies implies_true eq_self true_or or_true Option.some.injEq bD bO bK bM bN bE bP bF bL bJ bI bH bG T0 Zu Nh Nat.le_refl So lm lE lD U9 Wv Nt Pm P7 OC Sk V7 tC tB tD tF tG tE S6 P5 He q9 List.any_cons List.any_nil eU Yl eT EK Nu Qs Op.operands Call.operands J2 eX ur Rz Wt RV List.append_eq rO rP rJ rK rL pC pD pE Z4 Z5 Z6 H1 AS.mv fits KM JB GP Ph Ys ec eg Vz Vx Vy oN Tm Y1 qw Zx Yg Rx decide_true decide_false Array.toList_append ZF ZG ZH ZI ew R5 Yz O1 AS.mvJ WO kK kL dF Option.isSome_some Option.isSome_none jt Tu Tv oJ oK oL eS eO eQ eP eW jb.eq_1 aC.eq_1 aC.eq_2 Sh.eq_1 Sh.eq_2 Sh.eq_3 Sh.eq_4 t6 t7 Yi vS vT vU vV uP uQ uR uS uU uV uW uX uY uZ ua ub uc ud ue uf ug uh ui uj uk sL sM sN sO dq DB sP sR sS sT sU sV Fp jZ ja AS.mvs Sb Tq Mr ZW Ue Te d5 Sa Tp Mq ZU Uc Tc d4 TX aD jY jW Yu ea Yr TU TW Xg TT TV Xf Yt eZ Yq IC.eq_1 jX Z8 lC.eq_1 K0.eq_1 M0.eq_1 TY aE ZN iS rf rg rH rI Jg YU Xm ii Xn nw jc du Xi VN Yd X4 X5 jh eC WG.eq_1 al VO Ye X6 ir X7 ji eD Xk VL Yb X1 ip X2 jf eA WF.eq_1 ak VP X8 X9 eE WI.eq_1 am VS Yf YF iu YG n6 jj eI Xl VG YX Xq ik Xr ny dx WA.eq_1 ah VJ YZ Xx im Xy n5 je d8 WD.eq_1 VE YV Xo ij Xp jd dw V9.eq_1 VM Yc iq ZV jg Xj VK Ya Xz io X0 d9 WE.eq_1 aj VQ YB YC eG WJ.eq_1 VH Xt Xu dy WB.eq_1 VI YY Xv il Xw nz d6 WC.eq_1 VR YD YE eH GN.eq_1
def BY (b : ByteArray) : Prop := b.size ≤ 1048576
def GW {α : Type} (p : α → Prop) (xs : List α) : Prop := (xs.length : Int) ≤ 1048576 ∧ ∀ x ∈ xs, p x
theorem GW.at {α : Type} [Inhabited α] {p : α → Prop} {xs : List α} (h : GW p xs) {i : Nat} (hi : i < xs.length) : p (xs.getD i default) := h.2 _ (by simp [hi])
def HN (a : Ad) : Prop := BY a.user ∧ BY a.domain
def Kc (a : Ml) : Prop := HN a.frm ∧ GW HN a.to ∧ GW BY a.body
def sn (a : Rc) : Prop := HN a.addr
def F6 (a : Im) : Prop := HN a.frm ∧ GW sn a.to ∧ GW BY a.body
def F7 (a : Sp) : Prop := GW F6 a.items
def sr (a : Wy) : Prop := BY a.ends ∧ BY a.to
def My (a : Cf) : Prop := BY a.name ∧ GW BY a.own ∧ GW sr a.ways
def sm (a : Gm) : Prop := HN a.frm ∧ GW BY a.body
def sk (a : Bx) : Prop := HN a.addr ∧ GW sm a.mails
def Ri (a : Ls) : Prop := BY a.mark ∧ HN a.addr
def IH (a : Hs) : Prop := My a.conf ∧ F7 a.spool ∧ GW sk a.boxes ∧ GW Ri a.lost
def Ke (a : Wd) : Prop := GW IH a.hosts ∧ GW Ri a.given
def bl (s : ByteArray) : List UInt8 := s.data.toList
def mB (l : List UInt8) : ByteArray := ⟨l.toArray⟩
theorem T8 (l : List UInt8) : bl (mB l) = l := rfl
theorem RG (s : ByteArray) : mB (bl s) = s := rfl
theorem CB (s : ByteArray) : (bl s).length = s.size := rfl
theorem B5 (s : ByteArray) (i : Nat) : AB s i = (((bl s).getD i 0).toNat : Int) := rfl
theorem GD {s t : ByteArray} (h : bl s = bl t) : s = t := by
 rw [← RG s, ← RG t, h]
theorem DQ (s : ByteArray) (i j : Nat) : bl (s.extract i j) = ((bl s).drop i).take (j - i) := by
 unfold bl
 rw [ByteArray.data_extract, Array.toList_extract]
theorem GK (s : ByteArray) (i j : Nat) : s.extract i j = mB (((bl s).drop i).take (j - i)) := GD (by rw [DQ, T8])
theorem A3 (s : ByteArray) (i : Nat) : 0 ≤ AB s i ∧ AB s i ≤ 255 := by
 rw [B5]
 have := ((bl s).getD i 0).toNat_lt
 omega
def Jm (n : Int) : Prop := (97 ≤ n ∧ n ≤ 122) ∨ (48 ≤ n ∧ n ≤ 57)
def QQ (s : ByteArray) : Prop := (∀ j, j < s.size → Jm (AB s j)) ∧ 1 ≤ s.size ∧ s.size ≤ 8
def HI (s : ByteArray) : Prop := (∀ j, j < s.size → 32 ≤ AB s j ∧ AB s j ≤ 126) ∧ s.size ≤ 40
def Ao (c : UInt8) : Nat → List UInt8 → List (List UInt8)
 | 0, l => [l]
 | _ + 1, [] => [[]]
 | m + 1, x :: r => if x = c then [] :: Ao c m r else match Ao c (m + 1) r with | h :: t => (x :: h) :: t | [] => [[x]]
def J8 (p : List UInt8) : List (List UInt8) → List (List UInt8)
 | h :: t => (p ++ h) :: t
 | [] => [p]
theorem OB : ∀ (l : List (List UInt8)), l ≠ [] → J8 [] l = l
 | h :: t, _ => rfl
 | [], h => absurd rfl h
theorem Hq (c : UInt8) : ∀ (m : Nat) (l : List UInt8), Ao c m l ≠ []
 | 0, l => by simp [Ao]
 | m + 1, [] => by simp [Ao]
 | m + 1, x :: r => by
   unfold Ao
   split
   ·try simp
   ·split <;> simp
theorem QF (c : UInt8) (m : Nat) (r : List UInt8) (p : List UInt8) : J8 p (Ao c (m + 1) (c :: r)) = p :: Ao c m r := by
 simp [Ao, J8]
theorem OM {c x : UInt8} (h : x ≠ c) (m : Nat) (r : List UInt8) (p : List UInt8) : J8 p (Ao c (m + 1) (x :: r)) = J8 (p ++ [x]) (Ao c (m + 1) r) := by
 cases h1 : Ao c (m + 1) r with
 | nil => exact absurd h1 (Hq c (m + 1) r)
 | cons a t => simp only [Ao, if_neg h, h1, J8, List.append_assoc, List.singleton_append]
theorem XE (c : UInt8) (l : List UInt8) (p : List UInt8) : J8 p (Ao c 0 l) = [p ++ l] := by simp [Ao, J8]
theorem QE (c : UInt8) (m : Nat) (p : List UInt8) : J8 p (Ao c m []) = [p] := by
 cases m <;> simp [Ao, J8]
def Cg (s : ByteArray) (c : UInt8) (m : Nat) : List ByteArray := (Ao c m (bl s)).map mB
def Kk : Ct := At (lc BJ (lc BJ (lc BJ l0))) (fun p => True) (fun p => .t (.v (.bool (BT (p.2.1 ≤ p.1 ∧ p.1 ≤ p.2.2.1)))))
theorem qU {G : Gt} (hG : Aj G) : Gd G 71 (AA 0 Kk) := by
 refine gr (fn := Tryz.f71) (n := 3) rfl hG ?_
 rintro ⟨n, lo, hi, ⟨⟩⟩ hpre
 simp -implicitDefEqProofs only [Tryz.f71, go_sem, seval] at hpre ⊢
 with_reducible repeat' (first | apply ai | intro _ | ((first | apply s1 | apply s2 | apply s3 | apply s4) <;> intro hb <;> simp -implicitDefEqProofs only [hb, go_sem, seval] <;> try simp only [qz] at hb))
 all_goals first
  | (rw [AQ (by omega)]; done)
  | (rw [BZ]; simp [*]; done)
  | skip
def UH : Ct := At (lc Av l0) (fun p => True) (fun p => .t (.v (.bool (BT (QQ p.1)))))
section
attribute [local go_sem] Kk
theorem lW {G : Gt} (hG : Aj G) (hh : G.e 71 = AA 0 Kk) : Gd G 123 (AA 0 UH) := by
 refine gr (fn := Tryz.f123) (n := 1) rfl hG ?_
 rintro ⟨s, ⟨⟩⟩ hpre
 simp -implicitDefEqProofs only [Tryz.f123, go_sem, hh, seval] at hpre ⊢
 refine AE [] (ι := {i : Nat // i ≤ s.size ∧ ∀ j, j < i → Jm (AB s j)}) (fun p => ⟨[(0, .t (.v (.string s))), (3, .t (.v (.int .i64 p.1)))], []⟩) (fun p => s.size - p.1) ⟨0, by simp, by simp⟩ rfl ?_ ?_
 ·simp -implicitDefEqProofs only [go_sem, hh, seval]
  try simp
 ·rintro ⟨i, hi, hall⟩
  simp -implicitDefEqProofs only [go_sem, hh, seval]
  with_reducible repeat' (first | apply ai | intro _ | ((first | apply s1 | apply s2 | apply s3 | apply s4) <;> intro hb <;> simp -implicitDefEqProofs only [hb, go_sem, hh, seval] <;> try simp only [qz] at hb))
  all_goals (try simp only [maxLen, tn] at *)
  all_goals (try have hbr := A3 s i)
  all_goals first | rfl | omega | skip
  all_goals first
   | (rw [AQ (fun hq => by have hq1 := hq.1 i (by omega); simp only [Jm] at *; omega)]; done)
   | (refine ⟨⟨i + 1, by omega, fun j hj => ?_⟩, by dsimp only; omega, ?_⟩
      ·by_cases e : j = i
       ·subst e; simp only [Jm] at *; omega
       ·exact hall j (by omega)
      ·simp -implicitDefEqProofs only [go_sem, hh, seval]
       simp)
   | skip
  ·rw [AT]
   exact ⟨fun h => ⟨fun j hj => hall j (by omega), by omega⟩, fun h => by have := h.2; omega⟩
end
def gw : Ct := At (lc Av l0) (fun p => True) (fun p => .t (.v (.bool (BT (HI p.1)))))
theorem qs {G : Gt} (hG : Aj G) : Gd G 96 (AA 0 gw) := by
 refine gr (fn := Tryz.f96) (n := 1) rfl hG ?_
 rintro ⟨s, ⟨⟩⟩ hpre
 simp -implicitDefEqProofs only [Tryz.f96, go_sem, seval] at hpre ⊢
 refine AE [] (ι := {i : Nat // i ≤ s.size ∧ ∀ j, j < i → 32 ≤ AB s j ∧ AB s j ≤ 126}) (fun p => ⟨[(0, .t (.v (.string s))), (3, .t (.v (.int .i64 p.1)))], []⟩) (fun p => s.size - p.1) ⟨0, by simp, by simp⟩ rfl ?_ ?_
 ·simp -implicitDefEqProofs only [go_sem, seval]
  try simp
 ·rintro ⟨i, hi, hall⟩
  simp -implicitDefEqProofs only [go_sem, seval]
  with_reducible repeat' (first | apply ai | intro _ | ((first | apply s1 | apply s2 | apply s3 | apply s4) <;> intro hb <;> simp -implicitDefEqProofs only [hb, go_sem, seval] <;> try simp only [qz] at hb))
  all_goals (try simp only [maxLen, tn] at *)
  all_goals (try have hbr := A3 s i)
  all_goals first | rfl | omega | skip
  all_goals first
   | (rw [AQ (fun hq => by have hq1 := hq.1 i (by omega); skip; omega)]; done)
   | (refine ⟨⟨i + 1, by omega, fun j hj => ?_⟩, by dsimp only; omega, ?_⟩
      ·by_cases e : j = i
       ·subst e; skip; omega
       ·exact hall j (by omega)
      ·simp -implicitDefEqProofs only [go_sem, seval]
       simp)
   | skip
  ·rw [← BZ, AT]
   exact ⟨fun h => ⟨fun j hj => hall j (by omega), by omega⟩, fun h => by have := h.2; omega⟩
structure Cp (s : ByteArray) (c : UInt8) (m : Nat) where
 i : Nat
 fr : Nat
 o : List (List UInt8)
 hi : i ≤ s.size
 hf : fr ≤ i
 ho : o.length ≤ m
 h : o ++ J8 (((bl s).drop fr).take (i - fr)) (Ao c (m - o.length) ((bl s).drop i)) = Ao c m (bl s)
theorem TH {l : List UInt8} {fr i : Nat} (hf : fr ≤ i) (hi : i < l.length) : (l.drop fr).take (i + 1 - fr) = (l.drop fr).take (i - fr) ++ [l.getD i 0] := by
 have e : i + 1 - fr = (i - fr) + 1 := by omega
 rw [e, List.take_add_one]
 have : (l.drop fr)[i - fr]? = some (l.getD i 0) := by
  rw [List.getElem?_drop]
  have : fr + (i - fr) = i := by omega
  rw [this]
  simp [hi]
 rw [this]; rfl
def Cp.start (s : ByteArray) (c : UInt8) (m : Nat) : Cp s c m := ⟨0, 0, [], Nat.zero_le _, Nat.le_refl _, Nat.zero_le _, by
 simp only [Nat.sub_self, List.take_zero, List.nil_append, List.length_nil, Nat.sub_zero, List.drop_zero]
 exact OB _ (Hq c m _)⟩
theorem Fb {s : ByteArray} {i : Nat} (h : i < s.size) : (bl s).drop i = (bl s).getD i 0 :: (bl s).drop (i + 1) := by
 have h' : i < (bl s).length := h
 rw [List.drop_eq_getElem_cons h']
 simp [h']
def Cp.hit {s : ByteArray} {c : UInt8} {m : Nat} (z : Cp s c m) (h1 : z.i < s.size) (h2 : z.o.length < m) (h3 : (bl s).getD z.i 0 = c) : Cp s c m :=
 ⟨z.i + 1, z.i + 1, z.o ++ [((bl s).drop z.fr).take (z.i - z.fr)], h1, Nat.le_refl _, by simp; omega, by
   have h := z.h
   obtain ⟨k, hk⟩ : ∃ k, m - z.o.length = k + 1 := ⟨m - z.o.length - 1, by omega⟩
   rw [hk, Fb h1, h3, QF] at h
   have e : m - (z.o ++ [((bl s).drop z.fr).take (z.i - z.fr)]).length = k := by simp; omega
   rw [e, Nat.sub_self, List.take_zero, OB _ (Hq _ _ _), List.append_assoc, List.singleton_append]
   exact h⟩
def Cp.miss {s : ByteArray} {c : UInt8} {m : Nat} (z : Cp s c m) (h1 : z.i < s.size) (h2 : z.o.length < m) (h3 : (bl s).getD z.i 0 ≠ c) : Cp s c m :=
 ⟨z.i + 1, z.fr, z.o, h1, Nat.le_succ_of_le z.hf, z.ho, by
   have h := z.h
   obtain ⟨k, hk⟩ : ∃ k, m - z.o.length = k + 1 := ⟨m - z.o.length - 1, by omega⟩
   rw [hk, Fb h1, OM h3] at h
   rw [hk, TH (l := bl s) z.hf (by rw [CB]; exact h1)]
   exact h⟩
theorem Cp.done {s : ByteArray} {c : UInt8} {m : Nat} (z : Cp s c m) (h : ¬ z.i < s.size ∨ ¬ z.o.length < m) : z.o.map mB ++ [s.extract z.fr s.size] = Cg s c m := by
 have hz := z.h
 have e0 : s.extract z.fr s.size = mB ((bl s).drop z.fr) := by
  rw [GK]
  congr 1
  rw [List.take_of_length_le (by rw [List.length_drop, CB]; exact Nat.le_refl _)]
 unfold Cg
 rw [← hz, List.map_append, e0]
 congr 1
 rcases h with h | h
 ·have hi := z.hi
  have e : (bl s).drop z.i = [] := List.drop_of_length_le (by rw [CB]; omega)
  rw [e, QE]
  have : ((bl s).drop z.fr).take (z.i - z.fr) = (bl s).drop z.fr := List.take_of_length_le (by rw [List.length_drop, CB]; omega)
  rw [this]; rfl
 ·have hk : m - z.o.length = 0 := by omega
  rw [hk, XE]
  have hf := z.hf
  have : ((bl s).drop z.fr).take (z.i - z.fr) ++ (bl s).drop z.i = (bl s).drop z.fr := by
   have e : (bl s).drop z.i = ((bl s).drop z.fr).drop (z.i - z.fr) := by rw [List.drop_drop]; congr 1; omega
   rw [e, List.take_append_drop]
  rw [this]; rfl
theorem Zp (s : ByteArray) (z : List (List UInt8)) (fr i : Nat) : z.map mB ++ [s.extract fr i] = (z ++ [((bl s).drop fr).take (i - fr)]).map mB := by
 rw [GK, List.map_append]; rfl
theorem Lj (l : List ByteArray) (x : ByteArray) : l.map AH ++ [[T.v (.string x)]] = (l ++ [x]).map AH := by simp [AH]
theorem eb (s : ByteArray) (z : List (List UInt8)) (fr i : Nat) : (z.map mB).map AH ++ [[T.v (.string (s.extract fr i))]] = ((z ++ [((bl s).drop fr).take (i - fr)]).map mB).map AH := by
 rw [Lj, Zp]
theorem Fa {s : ByteArray} {i : Nat} {c : UInt8} : AB s i = (c.toNat : Int) ↔ (bl s).getD i 0 = c := by
 rw [B5]
 constructor
 ·intro h
  have : ((bl s).getD i 0).toNat = c.toNat := by omega
  exact UInt8.toNat_inj.1 this
 ·intro h; rw [h]
def UJ : Ct := At (lc Av (lc dt (lc BJ l0))) (fun p => 0 ≤ p.2.1 ∧ p.2.1 ≤ 255 ∧ 0 ≤ p.2.2.1 ∧ p.2.2.1 ≤ 1000) (fun p => .o true 1 ((Cg p.1 (UInt8.ofNat p.2.1.toNat) p.2.2.1.toNat).map AH))
section
attribute [local go_sem] lm List.map_nil List.length_nil
theorem lr {G : Gt} (hG : Aj G) : Gd G 136 (AA 0 UJ) := by
 refine gr (fn := Tryz.f136) (n := 3) rfl hG ?_ (hs := fun _ p => .deep _ _)
 rintro ⟨s, c, m, ⟨⟩⟩ hpre
 simp -implicitDefEqProofs only [Tryz.f136, go_sem, seval] at hpre ⊢
 obtain ⟨c, rfl⟩ : ∃ b : UInt8, c = (b.toNat : Int) := ⟨UInt8.ofNat c.toNat, by simp; omega⟩
 obtain ⟨m, rfl⟩ : ∃ n : Nat, m = (n : Int) := ⟨m.toNat, by omega⟩
 with_reducible repeat' (first | apply ai | intro _ | ((first | apply s1 | apply s2 | apply s3 | apply s4) <;> intro hb <;> simp -implicitDefEqProofs only [hb, go_sem, seval] <;> try simp only [qz] at hb))
 all_goals first | rfl | omega | skip
 refine AE [(7, 1901, true, 1)] (ι := Cp s c m) (fun z => ⟨[(0, .t (.v (.string s))), (1, .t (.v (.int .u8 c.toNat))), (2, .t (.v (.int .i64 m))), (7, .h 1901), (8, .t (.v (.int .i64 z.fr))), (9, .t (.v (.int .i64 z.i)))], [(1901, some (.arr true 1 ((z.o.map mB).map AH)))]⟩) (fun z => s.size - z.i) (Cp.start s c m) rfl ?_ ?_
 ·simp -implicitDefEqProofs only [go_sem, seval]
  simp [Cp.start]
 ·intro z
  have h1 := z.hi
  have h2 := z.hf
  have h3 := z.ho
  simp -implicitDefEqProofs only [go_sem, seval]
  with_reducible repeat' (first | apply ai | intro _ | ((first | apply s1 | apply s2 | apply s3 | apply s4) <;> intro hb <;> simp -implicitDefEqProofs only [hb, go_sem, seval] <;> try simp only [qz] at hb))
  all_goals (try simp only [maxLen, tn, lm] at *)
  all_goals first | rfl | omega | (simp_all; done) | skip
  ·refine ⟨z.hit (by omega) (by omega) (Fa.1 hb), by simp only [Cp.hit]; omega, ?_⟩
   rw [eb]
   simp -implicitDefEqProofs only [go_sem, seval]
   simp [Cp.hit]
  ·refine ⟨z.miss (by omega) (by omega) (fun e => hb (Fa.2 e)), by simp only [Cp.miss]; omega, ?_⟩
   simp -implicitDefEqProofs only [go_sem, seval]
   simp [Cp.miss]
  ·rw [Lj, z.done (.inr (by omega)), UInt8.ofNat_toNat]
  ·rw [Lj, z.done (.inl (by omega)), UInt8.ofNat_toNat]
end
def Di (s : ByteArray) : Prop := (∀ w ∈ Cg s 46 3, QQ w) ∧ (Cg s 46 3).length ≤ 3
def BK (a : Ad) : Prop := QQ a.user ∧ Di a.domain
def AU (a : Ad) : Prop := a.user = ⟨#[]⟩ ∧ a.domain = ⟨#[]⟩
def CU (b : List ByteArray) : Prop := (∀ s ∈ b, HI s) ∧ b.length ≤ 12
def Cr (m : Ml) : Prop := (∀ a ∈ m.to, BK a) ∧ m.to.Nodup ∧ (BK m.frm ∨ AU m.frm) ∧ (1 ≤ m.to.length ∧ m.to.length ≤ 4) ∧ CU m.body
def YH (s e : ByteArray) : Prop := s = e ∨ (e.size < s.size ∧ s.extract (s.size - e.size) s.size = e ∧ AB s (s.size - e.size - 1) = 46)
theorem BC {α : Type} [Inhabited α] {xs : List α} {P : α → Prop} (h : ∀ j, j < xs.length → P (xs.getD j default)) : ∀ x ∈ xs, P x := fun x hx => by
 obtain ⟨j, hj, rfl⟩ := List.getElem_of_mem hx
 have := h j hj
 simpa [hj] using this
theorem AC {α : Type} [Inhabited α] {xs : List α} {j : Nat} (h : j < xs.length) : xs.getD j default ∈ xs := by
 simp [h]
theorem WP {α : Type} [Inhabited α] {xs : List α} (h : ∀ j, j < xs.length → ∀ k, k < j → ¬ xs.getD k default = xs.getD j default) : xs.Nodup := by
 rw [List.nodup_iff_pairwise_ne, List.pairwise_iff_getElem]
 intro k j hk hj hkj
 have := h j hj k hkj
 simpa [hk, hj] using this
theorem jr {a b : Ad} (h : (false != (decide (a.user = b.user) && decide (a.domain = b.domain))) = false) : ¬ a = b := fun e => by
 subst e; simp at h
theorem Cu {α : Type} [Inhabited α] {xs : List α} {P : α → Prop} {i : Nat} (hall : ∀ j, j < i → P (xs.getD j default)) (h : P (xs.getD i default)) : ∀ j, j < i + 1 → P (xs.getD j default) := fun j hj => by
 by_cases e : j = i
 ·subst e; exact h
 ·exact hall j (by omega)
def Y9 : Ct := At (lc Av l0) (fun p => True) (fun p => .t (.v (.bool (BT (Di p.1)))))
section
attribute [local go_sem] UJ UH AY lm
theorem qp {G : Gt} (hG : Aj G) (hh : G.e 136 = AA 0 UJ ∧ G.e 123 = AA 0 UH) : Gd G 93 (AA 0 Y9) := by
 refine gr (fn := Tryz.f93) (n := 1) rfl hG ?_
 rintro ⟨s, ⟨⟩⟩ hpre
 simp -implicitDefEqProofs only [Tryz.f93, go_sem, hh, seval] at hpre ⊢
 with_reducible repeat' (first | apply ai | intro _ | ((first | apply s1 | apply s2 | apply s3 | apply s4) <;> intro hb <;> simp -implicitDefEqProofs only [hb, go_sem, hh, seval] <;> try simp only [qz] at hb))
 all_goals first | rfl | omega | skip
 have e46 : UInt8.ofNat (46 : Int).toNat = 46 := rfl
 have e3 : (3 : Int).toNat = 3 := rfl
 rw [e46, e3] at *
 refine AE [] (ι := {i : Nat // i ≤ (Cg s 46 3).length ∧ ∀ j, j < i → QQ ((Cg s 46 3).getD j default)}) (fun p => ⟨[(3, .h 1006), (4, .t (.v (.int .i64 p.1)))], [(1006, some (.arr true 1 ((Cg s 46 3).map AH)))]⟩) (fun p => (Cg s 46 3).length - p.1) ⟨0, by simp, by simp⟩ rfl ?_ ?_
 ·simp -implicitDefEqProofs only [go_sem, hh, seval]
  try simp
 ·rintro ⟨i, hi, hall⟩
  simp -implicitDefEqProofs only [go_sem, hh, seval]
  with_reducible repeat' (first | apply ai | intro _ | ((first | apply s1 | apply s2 | apply s3 | apply s4) <;> intro hb <;> simp -implicitDefEqProofs only [hb, go_sem, hh, seval] <;> try simp only [qz] at hb))
  all_goals (try simp only [maxLen, tn, lm] at *)
  all_goals first | rfl | omega | skip
  ·rw [AQ (fun h => hb (h.1 _ (AC (by omega))))]
  ·refine ⟨⟨i + 1, by omega, Cu hall hb⟩, by dsimp only; omega, ?_⟩
   simp -implicitDefEqProofs only [go_sem, hh, seval]
   try simp
  ·rw [← BZ, AT]
   exact ⟨fun h => ⟨BC fun j hj => hall j (by omega), by omega⟩, fun h => by have := h.2; omega⟩
end
def SB : Ct := At (lc Dd.ag l0) (fun p => True) (fun p => .t (.v (.bool (BT (BK p.1)))))
section
attribute [local go_sem] UH Y9
theorem qX {G : Gt} (hG : Aj G) (hh : G.e 123 = AA 0 UH ∧ G.e 93 = AA 0 Y9) : Gd G 74 (AA 0 SB) := by
 refine gr (fn := Tryz.f74) (n := 1) rfl hG ?_
 rintro ⟨a, ⟨⟩⟩ hpre
 simp -implicitDefEqProofs only [Tryz.f74, go_sem, hh, seval] at hpre ⊢
 with_reducible repeat' (first | apply ai | intro _ | ((first | apply s1 | apply s2 | apply s3 | apply s4) <;> intro hb <;> simp -implicitDefEqProofs only [hb, go_sem, hh, seval] <;> try simp only [qz] at hb))
 all_goals first
  | rfl
  | (rw [AQ (fun h => hb h.1)]; done)
  | (rw [AT]; exact ⟨fun h => ⟨by assumption, h⟩, fun h => h.2⟩)
  | skip
end
def R9 : Ct := At (lc Dd.ag l0) (fun p => True) (fun p => .t (.v (.bool (BT (AU p.1)))))
theorem qV {G : Gt} (hG : Aj G) : Gd G 72 (AA 0 R9) := by
 refine gr (fn := Tryz.f72) (n := 1) rfl hG ?_
 rintro ⟨a, ⟨⟩⟩ hpre
 simp -implicitDefEqProofs only [Tryz.f72, go_sem, seval] at hpre ⊢
 with_reducible repeat' (first | apply ai | intro _ | ((first | apply s1 | apply s2 | apply s3 | apply s4) <;> intro hb <;> simp -implicitDefEqProofs only [hb, go_sem, seval] <;> try simp only [qz] at hb))
 all_goals first
  | rfl
  | (rw [AQ (fun h => hb h.1)]; done)
  | (rw [← BZ, AT]; exact ⟨fun h => ⟨by assumption, h⟩, fun h => h.2⟩)
  | skip
def gO : Ct := At (lc Av (lc Av l0)) (fun p => True) (fun p => .t (.v (.bool (BT (YH p.1 p.2.1)))))
theorem m8 {G : Gt} (hG : Aj G) : Gd G 222 (AA 0 gO) := by
 refine gr (fn := Tryz.f222) (n := 2) rfl hG ?_
 rintro ⟨s, e, ⟨⟩⟩ hpre
 simp -implicitDefEqProofs only [Tryz.f222, go_sem, seval] at hpre ⊢
 with_reducible repeat' (first | apply ai | intro _ | ((first | apply s1 | apply s2 | apply s3 | apply s4) <;> intro hb <;> simp -implicitDefEqProofs only [hb, go_sem, seval] <;> try simp only [qz] at hb))
 all_goals (try simp only [maxLen] at *)
 all_goals first
  | rfl
  | omega
  | (rw [Aq (.inl hb)]; done)
  | skip
 all_goals have e1 : ((s.size : Int) - e.size).toNat = s.size - e.size := by omega
 all_goals (try rw [e1, tn] at hb)
 ·have e2 : ((s.size : Int) - e.size - 1).toNat = s.size - e.size - 1 := by omega
  rw [e2, ← BZ, AT]
  exact ⟨fun h => .inr ⟨by omega, hb, h⟩, fun h => by
   rcases h with h | h
   ·exact absurd h (by assumption)
   ·exact h.2.2⟩
 ·rw [AQ]
  rintro (h | h)
  ·exact absurd h (by assumption)
  ·exact hb h.2.1
 ·rw [AQ]
  rintro (h | h)
  ·exact absurd h (by assumption)
  ·have := h.1; omega
def Lm : Ct := At (lc Al.asl l0) (fun p => True) (fun p => .t (.v (.bool (BT (CU p.1)))))
section
attribute [local go_sem] gw
theorem lV {G : Gt} (hG : Aj G) (hh : G.e 96 = AA 0 gw) : Gd G 122 (AA 0 Lm) := by
 refine gr (fn := Tryz.f122) (n := 1) rfl hG ?_
 rintro ⟨xs, ⟨⟩⟩ hpre
 simp -implicitDefEqProofs only [Tryz.f122, go_sem, hh, seval] at hpre ⊢
 refine AE [] (ι := {i : Nat // i ≤ xs.length ∧ ∀ j, j < i → HI (xs.getD j default)}) (fun p => ⟨[(0, .t (.sl 1 (xs.map AH))), (3, .t (.v (.int .i64 p.1)))], []⟩) (fun p => xs.length - p.1) ⟨0, by simp, by simp⟩ rfl ?_ ?_
 ·simp -implicitDefEqProofs only [go_sem, hh, seval]
  try simp
 ·rintro ⟨i, hi, hall⟩
  simp -implicitDefEqProofs only [go_sem, hh, seval]
  with_reducible repeat' (first | apply ai | intro _ | ((first | apply s1 | apply s2 | apply s3 | apply s4) <;> intro hb <;> simp -implicitDefEqProofs only [hb, go_sem, hh, seval] <;> try simp only [qz] at hb))
  all_goals (try simp only [maxLen, tn, lm] at *)
  all_goals first | rfl | omega | skip
  ·rw [AQ (fun h => hb (h.1 _ (AC (by omega))))]
  ·refine ⟨⟨i + 1, by omega, Cu hall hb⟩, by dsimp only; omega, ?_⟩
   simp -implicitDefEqProofs only [go_sem, hh, seval]
   try simp
  ·rw [← BZ, AT]
   exact ⟨fun h => ⟨BC fun j hj => hall j (by omega), by omega⟩, fun h => by have := h.2; omega⟩
end
def Lo : Ct := At (lc X3.ag l0) (fun p => (p.1.to.length : Int) ≤ 1048576 ∧ (p.1.body.length : Int) ≤ 1048576) (fun p => S5 p.1)
section
attribute [local go_sem] lm List.map_nil List.length_nil
theorem mb {G : Gt} (hG : Aj G) : Gd G 199 (AA 0 Lo) := by
 refine gr (fn := Tryz.f199) (n := 1) rfl hG ?_ (hs := fun _ p => .agg _ (by intro c hc; simp only [List.mem_cons, List.not_mem_nil, or_false] at hc; rcases hc with rfl | rfl | rfl | rfl <;> first | exact .v _ | exact .deep _ _))
 rintro ⟨m, ⟨⟩⟩ hpre
 simp -implicitDefEqProofs only [Tryz.f199, go_sem, seval] at hpre ⊢
 with_reducible repeat' (first | apply ai | intro _ | ((first | apply s1 | apply s2 | apply s3 | apply s4) <;> intro hb <;> simp -implicitDefEqProofs only [hb, go_sem, seval] <;> try simp only [qz] at hb))
 all_goals (try simp only [maxLen, tn, lm] at *)
 all_goals first | rfl | omega | (simp_all; done) | skip
end
def tY : Ct := At (lc X3.ag l0) (fun p => True) (fun p => .t (.v (.bool (BT (Cr p.1)))))
section
attribute [local go_sem] SB R9 Kk Lm lm List.map_nil List.length_nil
theorem qW {G : Gt} (hG : Aj G) (hh : G.e 74 = AA 0 SB ∧ G.e 72 = AA 0 R9 ∧ G.e 71 = AA 0 Kk ∧ G.e 122 = AA 0 Lm) : Gd G 73 (AA 0 tY) := by
 refine gr (fn := Tryz.f73) (n := 1) rfl hG ?_
 rintro ⟨m, ⟨⟩⟩ hpre
 simp -implicitDefEqProofs only [Tryz.f73, go_sem, hh, seval] at hpre ⊢
 refine AE [] (ι := {i : Nat // i ≤ m.to.length ∧ (∀ j, j < i → BK (m.to.getD j default)) ∧ ∀ j, j < i → ∀ k, k < j → ¬ m.to.getD k default = m.to.getD j default}) (fun p => ⟨[(1, .pb 1001 0), (3, .t (.v (.int .i64 p.1)))], [(1001, some (.box [.t (.v (.string m.frm.user)), .t (.v (.string m.frm.domain)), .t (.sl 2 (m.to.map Aw)), .t (.sl 1 (m.body.map AH))]))]⟩) (fun p => m.to.length - p.1) ⟨0, by simp, by simp, by simp⟩ rfl ?_ ?_
 ·simp -implicitDefEqProofs only [go_sem, hh, seval]
  try simp
 ·rintro ⟨i, hi, hall, hno⟩
  simp -implicitDefEqProofs only [go_sem, hh, seval]
  with_reducible repeat' (first | apply ai | intro _ | ((first | apply s1 | apply s2 | apply s3 | apply s4) <;> intro hb <;> simp -implicitDefEqProofs only [hb, go_sem, hh, seval] <;> try simp only [qz] at hb))
  all_goals (try simp only [maxLen, tn, lm] at *)
  all_goals first | rfl | omega | skip
  ·rw [AQ (fun h => hb (h.1 _ (AC (by omega))))]
  ·refine AE [] (ι := {k : Nat // k ≤ i ∧ ∀ j, j < k → ¬ m.to.getD j default = m.to.getD i default}) (fun p => ⟨[(1, .pb 1001 0), (3, .t (.v (.int .i64 i))), (4, .t (.v (.int .i64 p.1)))], [(1001, some (.box [.t (.v (.string m.frm.user)), .t (.v (.string m.frm.domain)), .t (.sl 2 (m.to.map Aw)), .t (.sl 1 (m.body.map AH))]))]⟩) (fun p => i - p.1) ⟨0, by simp, by simp⟩ rfl ?_ ?_
   ·simp -implicitDefEqProofs only [go_sem, hh, seval]
    try simp
   ·rintro ⟨k, hk, hk2⟩
    simp -implicitDefEqProofs only [go_sem, hh, seval]
    with_reducible repeat' (first | apply ai | intro _ | ((first | apply s1 | apply s2 | apply s3 | apply s4) <;> intro hb <;> simp -implicitDefEqProofs only [hb, go_sem, hh, seval] <;> try simp only [qz] at hb))
    all_goals (try simp only [maxLen, tn, lm] at *)
    all_goals first | rfl | omega | skip
    ·have e : m.to.getD k default = m.to.getD i default := C3.2 (by simpa using hb)
     rw [AQ]
     intro h
     have hn := h.2.1
     have q1 : k < m.to.length := by omega
     have q2 : i < m.to.length := by omega
     simp only [List.getD_eq_getElem?_getD, List.getElem?_eq_getElem q1, List.getElem?_eq_getElem q2, Option.getD_some] at e
     exact List.pairwise_iff_getElem.1 (List.nodup_iff_pairwise_ne.1 hn) k i q1 q2 (by omega) e
    ·refine ⟨⟨k + 1, by omega, fun j hj => ?_⟩, by dsimp only; omega, ?_⟩
     ·by_cases e : j = k
      ·subst e; exact jr hb
      ·exact hk2 j (by omega)
     ·simp -implicitDefEqProofs only [go_sem, hh, seval]
      try simp
    ·refine ⟨⟨i + 1, by omega, Cu hall (by assumption), fun j hj q hq => ?_⟩, by dsimp only; omega, ?_⟩
     ·by_cases e : j = i
      ·subst e; exact hk2 q (by omega)
      ·exact hno j (by omega) q hq
     ·simp -implicitDefEqProofs only [go_sem, hh, seval]
      try simp
  all_goals have hlen : m.to.length ≤ i := by omega
  all_goals have hA : ∀ a ∈ m.to, BK a := BC fun j hj => hall j (by omega)
  all_goals have hN : m.to.Nodup := WP fun j hj q hq => hno j (by omega) q hq
  all_goals first
   | (rw [AT]
      exact ⟨fun h => ⟨hA, hN, by first | exact .inl (by assumption) | exact .inr (by assumption), by omega, h⟩, fun h => h.2.2.2.2⟩)
   | (rw [AQ]
      intro h
      first
       | (have := h.2.2.2.1; omega)
       | (rcases h.2.2.1 with q | q <;> contradiction))
end
theorem HC {w : World} {pr : Nat → Prop} {u v : Value} {vs : List Value} (h : AJ ρ0 w pr [.t (.v u), .t (.v v)] vs []) : vs = [u, v] := by
 obtain ⟨a, l, rfl, h1, h2⟩ := h.one
 obtain ⟨b, l2, rfl, h3, h4⟩ := h2.one
 generalize hF : ([] : List Nat) = F at h4
 cases h4
 rw [h1.val.1, h3.val.1]
theorem Kx.cell {m : Int} {w : World} {pr : Nat → Prop} (h : Kx m w pr) : w.cell? ⟨0, 0, none⟩ = some (.int .i64 m) := by
 unfold Kx at h
 cases h with
 | rop cs a vs hp hv hr =>
   cases hr with
   | cons t v ts vs h1 h2 =>
     cases h1 with
     | v x hx =>
       have := hv 0 (.int .i64 m) rfl
       simpa [Addr.add, nu] using this
def gP : Ct := At (lc Av (lc dt l0)) (fun _ => True) (fun p => .t (.v (.int .i64 (Lib.indexByte (bl p.1) (UInt8.ofNat p.2.1.toNat)))))
theorem m9 (m : Int) : Eu Tryz.prog m 223 gP := Eu.of (r := fun (p : ByteArray × Int × Unit) => .int .i64 (Lib.indexByte (bl p.1) (UInt8.ofNat p.2.1.toNat))) (fun _ => trivial) fun p _ => by
 obtain ⟨s, c, ⟨⟩⟩ := p
 intro w pr vs hgl hv
 have := HC hv
 subst this
 have he : Extern.find Tryz.f223 = some Extern.BytealgIndexByte.indexByte := by kernel_rfl
 rw [run_callFunc_extern (fn := Tryz.f223) (by kernel_rfl) (by kernel_rfl) rfl (by kernel_rfl) he]
 have h := Lib.run_indexByteString (P := Tryz.prog) s c w
 rw [show ([Value.string s, Value.int .u8 c].toArray) = #[.string s, .int .u8 c] from rfl, h]
 rfl
def fz : Ct := At (lc Av (lc dt l0)) (fun _ => True) (fun p => .t (.v (.int .i64 (Lib.countByte (bl p.1) (UInt8.ofNat p.2.1.toNat)))))
theorem mZ (m : Int) : Eu Tryz.prog m 196 fz := Eu.of (r := fun (p : ByteArray × Int × Unit) => .int .i64 (Lib.countByte (bl p.1) (UInt8.ofNat p.2.1.toNat))) (fun _ => trivial) fun p _ => by
 obtain ⟨s, c, ⟨⟩⟩ := p
 intro w pr vs hgl hv
 have := HC hv
 subst this
 have he : Extern.find Tryz.f196 = some Extern.BytealgCount.count := by kernel_rfl
 rw [run_callFunc_extern (fn := Tryz.f196) (by kernel_rfl) (by kernel_rfl) rfl (by kernel_rfl) he]
 have h := Lib.run_countString (P := Tryz.prog) s c w
 rw [show ([Value.string s, Value.int .u8 c].toArray) = #[.string s, .int .u8 c] from rfl, h]
 rfl
def gC (m : Int) : Ct := At (lc Av (lc Av l0)) (fun p => 2 ≤ p.2.1.size ∧ (p.2.1.size : Int) ≤ m ∧ p.1.size ≤ 2000000) (fun p => .t (.v (.int .i64 (Lib.indexB p.1 p.2.1))))
theorem mo (m : Int) : Eu Tryz.prog m 213 (gC m) := Eu.of (r := fun (p : ByteArray × ByteArray × Unit) => .int .i64 (Lib.indexB p.1 p.2.1)) (fun _ => trivial) fun p hp => by
 obtain ⟨s, b, ⟨⟩⟩ := p
 intro w pr vs hgl hv
 have := HC hv
 subst this
 have he : Extern.find Tryz.f213 = some Extern.BytealgIndex.index := by kernel_rfl
 rw [run_callFunc_extern (fn := Tryz.f213) (by kernel_rfl) (by kernel_rfl) rfl (by kernel_rfl) he]
 have h := Lib.run_indexString (P := Tryz.prog) s b w 0 m (by kernel_rfl) hgl.cell hp.1 hp.2.1 (by have h3 : s.size ≤ 2000000 := hp.2.2; omega)
 rw [show ([Value.string s, Value.string b].toArray) = #[.string s, .string b] from rfl, h]
 rfl
theorem Bz (s : ByteArray) (i : Nat) (h : i < s.size) : AB s i = (s[i].toNat : Int) := by
 rw [B5]
 have h' : i < (bl s).length := h
 have : (bl s).getD i 0 = s[i] := by
  simp [h']
  rfl
 rw [this]
 rfl
theorem Fi (s : ByteArray) : s.toList = bl s := ByteArray.toList_eq s
theorem EA {s t : ByteArray} (h : s = t) : (s.toList == t.toList) = true := by rw [h]; simp
theorem FX {s t : ByteArray} (h : ¬ s = t) : (s.toList == t.toList) = false := by
 rw [Fi, Fi]
 simpa using fun e => h (GD e)
def gE : Ct := At (lc Av (lc dt l0)) (fun p => True) (fun p => .t (.v (.int .i64 (Lib.indexByte (bl p.1) (UInt8.ofNat p.2.1.toNat)))))
section
attribute [local go_sem] gP
theorem mq {G : Gt} (hG : Aj G) (hh : G.e 223 = AA 3 gP) : Gd G 214 (AA 0 gE) := by
 refine gr (fn := Tryz.f214) (n := 2) rfl hG ?_
 rintro ⟨s, c, ⟨⟩⟩ hpre
 simp -implicitDefEqProofs only [Tryz.f214, go_sem, hh, seval] at hpre ⊢
 repeat' (first | with_reducible apply ai | with_reducible intro _ | ((first | apply s1 | apply s2 | apply s3 | apply s4) <;> intro hb <;> simp -implicitDefEqProofs only [hb, go_sem, hh, seval] <;> try simp only [qz] at hb))
 all_goals first | rfl | skip
end
def gA : Ct := At (lc BJ l0) (fun p => 0 ≤ p.1 ∧ p.1 ≤ 1000000000000) (fun p => .t (.v (.int .i64 ((p.1 + 16) / 8))))
theorem mn {G : Gt} (hG : Aj G) : Gd G 212 (AA 0 gA) := by
 refine gr (fn := Tryz.f212) (n := 1) rfl hG ?_
 rintro ⟨n, ⟨⟩⟩ hpre
 simp -implicitDefEqProofs only [Tryz.f212, go_sem, seval] at hpre ⊢
 repeat' (first | with_reducible apply ai | with_reducible intro _ | ((first | apply s1 | apply s2 | apply s3 | apply s4) <;> intro hb <;> simp -implicitDefEqProofs only [hb, go_sem, seval] <;> try simp only [qz] at hb))
 all_goals first | rfl | omega | skip
open Go.Lib in
theorem hash_next (s : ByteArray) (k : Nat) (hk : k < s.size) {h : Int} (hh : h = RK.H ((bl s).take k) % 4294967296) : (h * 16777619 % 4294967296 + AB s k) % 4294967296 = RK.H ((bl s).take (k + 1)) % 4294967296 := by
 have := Go.Proofs.hash_step s k hk hh
 rw [Bz s k hk]
 have h2 : (s[k].toNat : Int) % 4294967296 = s[k].toNat := by
  have := s[k].toNat_lt
  omega
 rw [h2] at this
 exact this
theorem lB (x : Int) : 0 ≤ x % 4294967296 ∧ x % 4294967296 < 4294967296 := by omega
def tt (s : ByteArray) : AV := .tup [.t (.v (.int .u32 (Lib.RK.H (bl s) % 4294967296))), .t (.v (.int .u32 (16777619 ^ s.size % 4294967296)))]
def gQ : Ct := At (lc Av l0) (fun p => p.1.size ≤ 2000000) (fun p => tt p.1)
section
attribute [local go_sem] tt
theorem nA {G : Gt} (hG : Aj G) : Gd G 224 (AA 0 gQ) := by
 refine gr (fn := Tryz.f224) (n := 1) rfl hG ?_ (hs := fun _ p => .tup _ (by intro c hc; simp only [List.mem_cons, List.not_mem_nil, or_false] at hc; rcases hc with rfl | rfl <;> exact .v _))
 rintro ⟨s, ⟨⟩⟩ hpre
 simp -implicitDefEqProofs only [Tryz.f224, go_sem, seval] at hpre ⊢
 refine AE [] (ι := {i : Nat // i ≤ s.size}) (fun p => ⟨[(0, .t (.v (.string s))), (4, .t (.v (.int .u32 (Lib.RK.H ((bl s).take p.1) % 4294967296)))), (5, .t (.v (.int .i64 p.1)))], []⟩) (fun p => s.size - p.1) ⟨0, by omega⟩ rfl ?_ ?_
 ·simp -implicitDefEqProofs only [go_sem, seval]
  simp [Lib.RK.H_nil]
 ·rintro ⟨i, hi⟩
  simp -implicitDefEqProofs only [go_sem, seval]
  repeat' (first | with_reducible apply ai | with_reducible intro _ | ((first | apply s1 | apply s2 | apply s3 | apply s4) <;> intro hb <;> simp -implicitDefEqProofs only [hb, go_sem, seval] <;> try simp only [qz] at hb))
  all_goals (try simp only [maxLen, tn] at *)
  all_goals (try have hbr := A3 s i)
  all_goals first | rfl | omega | skip
  ·refine ⟨⟨i + 1, by omega⟩, by dsimp only; omega, ?_⟩
   rw [hash_next s i (by omega) rfl]
   simp -implicitDefEqProofs only [go_sem, seval]
   try simp
  ·have hii : i = s.size := by omega
   have hle : (bl s).length ≤ i := by rw [CB]; omega
   rw [List.take_of_length_le hle]
   refine AE [] (ι := {p : Nat × Int × Int // p.1 ≤ 2000000 ∧ Lib.RK.PowInv s.size p.1 p.2.1 p.2.2 ∧ 0 ≤ p.2.1 ∧ p.2.1 < 4294967296}) (fun p => ⟨[(4, .t (.v (.int .u32 (Lib.RK.H (bl s) % 4294967296)))), (6, .t (.v (.int .u32 p.1.2.1))), (7, .t (.v (.int .u32 p.1.2.2))), (8, .t (.v (.int .i64 p.1.1)))], []⟩) (fun p => p.1.1) ⟨(s.size, 1, 16777619), by simpa using hpre, Lib.RK.pow_start _, by simp, by simp⟩ rfl ?_ ?_
   ·simp -implicitDefEqProofs only [go_sem, seval]
    try simp
   ·rintro ⟨⟨k, pw, sq⟩, hk, hpi, h0, h1⟩
    have hand := Go.Proofs.and_one k (by simp only at hk; omega)
    simp only at hk h0 h1 hpi
    have hpw : ((k : Int) / 2 ^ (1 : Int).toNat) = ((k / 2 : Nat) : Int) := by simp
    simp -implicitDefEqProofs only [go_sem, seval]
    repeat' (first | with_reducible apply ai | with_reducible intro _ | ((first | apply s1 | apply s2 | apply s3 | apply s4) <;> intro hb <;> simp -implicitDefEqProofs only [hb, go_sem, seval] <;> try simp only [qz] at hb))
    all_goals (try simp only [maxLen, tn] at *)
    all_goals first | rfl | omega | skip
    ·have h2 : k % 2 = 1 := by rw [hand] at hb; omega
     have := lB (pw * sq)
     refine ⟨⟨(k / 2, pw * sq % 4294967296, sq * sq % 4294967296), by simp only []; omega, Lib.RK.pow_odd hpi h2, this.1, this.2⟩, by simp only []; omega, ?_⟩
     try rw [hpw]
     simp -implicitDefEqProofs only [go_sem, seval]
     try simp
    ·have h2 : k % 2 = 0 := by rw [hand] at hb; omega
     refine ⟨⟨(k / 2, pw, sq * sq % 4294967296), by simp only []; omega, Lib.RK.pow_even hpi h2, h0, h1⟩, by simp only []; omega, ?_⟩
     try rw [hpw]
     simp -implicitDefEqProofs only [go_sem, seval]
     try simp
    ·have h2 : k = 0 := by omega
     subst h2
     rw [← Lib.RK.pow_end hpi h0 h1]
end
open Go.Lib in
theorem roll_next (s : ByteArray) (n i : Nat) (hn : 1 ≤ n) (hni : n ≤ i) (hi : i < s.size) {h pw : Int} (hh : h = RK.H (RK.win (bl s) (i - n) n) % 4294967296) (hp : pw = 16777619 ^ n % 4294967296) :
    ((h * 16777619 % 4294967296 + AB s i) % 4294967296 - pw * AB s (i - n) % 4294967296) % 4294967296 = RK.H (RK.win (bl s) (i + 1 - n) n) % 4294967296 := by
 have := Go.Proofs.roll_step s n i hn hni hi hh hp
 rw [Bz s i hi, Bz s (i - n) (by omega)]
 have h2 : (s[i - n].toNat : Int) % 4294967296 = s[i - n].toNat := by
  have := s[i - n].toNat_lt
  omega
 rw [h2] at this
 rw [← show RK.H (RK.win s.data.toList (i + 1 - n) n) % 4294967296 = RK.H (RK.win (bl s) (i + 1 - n) n) % 4294967296 from rfl, ← this]
 generalize pw * (s[i - n].toNat : Int) = X
 omega
def gG : Ct := At (lc Av (lc Av l0)) (fun p => 1 ≤ p.2.1.size ∧ p.2.1.size ≤ p.1.size ∧ p.1.size ≤ 2000000) (fun p => .t (.v (.int .i64 (Lib.indexB p.1 p.2.1))))
section
attribute [local go_sem] gQ tt
theorem mr {G : Gt} (hG : Aj G) (hh : G.e 224 = AA 0 gQ) : Gd G 215 (AA 0 gG) := by
 refine gr (fn := Tryz.f215) (n := 2) rfl hG ?_
 rintro ⟨s, sep, ⟨⟩⟩ hpre
 simp -implicitDefEqProofs only [Tryz.f215, go_sem, hh, seval] at hpre ⊢
 repeat' (first | with_reducible apply ai | with_reducible intro _ | ((first | apply s1 | apply s2 | apply s3 | apply s4) <;> intro hb <;> simp -implicitDefEqProofs only [hb, go_sem, hh, seval] <;> try simp only [qz] at hb))
 all_goals first | rfl | omega | skip
 refine AE [] (ι := {i : Nat // i ≤ sep.size}) (fun p => ⟨[(0, .t (.v (.string s))), (1, .t (.v (.string sep))), (5, .t (.v (.int .u32 (Lib.RK.H (bl sep) % 4294967296)))), (6, .t (.v (.int .u32 (16777619 ^ sep.size % 4294967296)))), (7, .t (.v (.int .i64 sep.size))), (8, .t (.v (.int .u32 (Lib.RK.H ((bl s).take p.1) % 4294967296)))), (9, .t (.v (.int .i64 p.1)))], []⟩) (fun p => sep.size - p.1) ⟨0, by omega⟩ rfl ?_ ?_
 ·simp -implicitDefEqProofs only [go_sem, hh, seval]
  simp [Lib.RK.H_nil]
 ·rintro ⟨i, hi⟩
  simp -implicitDefEqProofs only [go_sem, hh, seval]
  repeat' (first | with_reducible apply ai | with_reducible intro _ | ((first | apply s1 | apply s2 | apply s3 | apply s4) <;> intro hb <;> simp -implicitDefEqProofs only [hb, go_sem, hh, seval] <;> try simp only [qz] at hb))
  all_goals (try simp only [maxLen, tn] at *)
  all_goals (try have hbr := A3 s i)
  all_goals first | rfl | omega | skip
  ·refine ⟨⟨i + 1, by omega⟩, by dsimp only; omega, ?_⟩
   rw [hash_next s i (by omega) rfl]
   simp -implicitDefEqProofs only [go_sem, hh, seval]
   try simp
  ·rw [Lib.hit s sep 0 (fun j hj => absurd hj (Nat.not_lt_zero _)) (by omega) (EA (by rw [Nat.zero_add]; exact hb))]
   rfl
  all_goals
   have hii : i = sep.size := by omega
   have hb0 := hb
   subst hii
   have hno : Lib.NoOccB s sep (sep.size - sep.size + 1) := by
    rw [Nat.sub_self]
    refine Lib.NoOcc.succ (fun j hj => absurd hj (Nat.not_lt_zero _)) ?_
    first
     | exact Go.Proofs.occ_no s sep 0 (by omega) (by rw [Nat.zero_add]; exact FX hb0)
     | exact Go.Proofs.occ_no_hash s sep 0 (by omega) rfl rfl hb0
   refine AE [] (ι := {k : Nat // sep.size ≤ k ∧ k ≤ s.size ∧ Lib.NoOccB s sep (k - sep.size + 1)}) (fun p => ⟨[(0, .t (.v (.string s))), (1, .t (.v (.string sep))), (5, .t (.v (.int .u32 (Lib.RK.H (bl sep) % 4294967296)))), (6, .t (.v (.int .u32 (16777619 ^ sep.size % 4294967296)))), (7, .t (.v (.int .i64 sep.size))), (8, .t (.v (.int .u32 (Lib.RK.H (Lib.RK.win (bl s) (p.1 - sep.size) sep.size) % 4294967296)))), (10, .t (.v (.int .i64 p.1)))], []⟩) (fun p => s.size - p.1) ⟨sep.size, by omega, by omega, hno⟩ rfl ?_ ?_
   ·simp -implicitDefEqProofs only [go_sem, hh, seval]
    try simp [Lib.RK.win_zero]
   ·rintro ⟨k, hk1, hk2, hk3⟩
    have hrn := fun h => roll_next s sep.size k (by omega) hk1 h rfl rfl
    have eks : ((k : Int) - sep.size).toNat = k - sep.size := by omega
    have eks1 : ((k : Int) + 1 - sep.size).toNat = k + 1 - sep.size := by omega
    have ek1 : ((k : Int) + 1).toNat = k + 1 := by omega
    simp -implicitDefEqProofs only [go_sem, hh, seval]
    repeat' (first | with_reducible apply ai | with_reducible intro _ | ((first | apply s1 | apply s2 | apply s3 | apply s4) <;> intro hb <;> simp -implicitDefEqProofs only [hb, go_sem, hh, seval] <;> try simp only [qz] at hb))
    all_goals (try simp only [maxLen, tn] at *)
    all_goals (try have hbr := A3 s k)
    all_goals (try have hbr2 := A3 s (k - sep.size))
    all_goals (try simp only [eks, eks1, ek1] at *)
    all_goals first | rfl | omega | skip
    all_goals (try have hkk := hrn (by omega))
    all_goals have e1 : k - sep.size + 1 = k + 1 - sep.size := by omega
    all_goals rw [e1] at hk3
    ·have e2 : k + 1 - sep.size + sep.size = k + 1 := by omega
     rw [Lib.hit s sep (k + 1 - sep.size) hk3 (by omega) (EA (by rw [e2]; exact hb))]
     have e3 : ((k + 1 - sep.size : Nat) : Int) = (k : Int) + 1 - sep.size := by omega
     rw [e3]
    ·have e2 : k + 1 - sep.size + sep.size = k + 1 := by omega
     have hocc := Go.Proofs.occ_no s sep (k + 1 - sep.size) (by omega) (by rw [e2]; exact FX hb)
     refine ⟨⟨k + 1, by omega, by omega, Lib.NoOcc.succ hk3 hocc⟩, by dsimp only; omega, ?_⟩
     rw [hkk]
     simp -implicitDefEqProofs only [go_sem, hh, seval]
     try simp
    ·rw [hkk] at hb
     have hocc := Go.Proofs.occ_no_hash s sep (k + 1 - sep.size) (by omega) rfl rfl hb
     refine ⟨⟨k + 1, by omega, by omega, Lib.NoOcc.succ hk3 hocc⟩, by dsimp only; omega, ?_⟩
     rw [hkk]
     simp -implicitDefEqProofs only [go_sem, hh, seval]
     try simp
    ·rw [Lib.past s sep (k + 1 - sep.size) hk3 (by omega) (by omega)]
end
section
open Go.Lib
theorem Vv (s : ByteArray) (c : UInt8) : indexByte (bl s) c = -1 ∨ ∃ o : Nat, indexByte (bl s) c = o ∧ o < s.size := by
 have hge := indexByte_ge (bl s) c
 by_cases h : indexByte (bl s) c = -1
 ·exact .inl h
 ·obtain ⟨o, ho⟩ : ∃ o : Nat, indexByte (bl s) c = o := ⟨(indexByte (bl s) c).toNat, by omega⟩
  refine .inr ⟨o, ho, ?_⟩
  obtain ⟨h1, _⟩ := indexByte_some ho
  exact (List.getElem?_eq_some_iff.1 h1).1
theorem GF (sub : ByteArray) (h : 0 < sub.size) : UInt8.ofNat (AB sub 0).toNat = ((sub[0].toNat : Int)).toNat.toUInt8 := by rw [Bz sub 0 h]
theorem dC {s sub : ByteArray} {k j : Nat} (hk : k < s.size) (hj : j < sub.size) (h : ¬ AB s k = AB sub j) : ((((s[k].toNat : Nat) : Int)) != ((sub[j].toNat : Nat) : Int)) = true := by
 rw [Bz s k hk, Bz sub j hj] at h
 simpa using h
theorem MA {s sub : ByteArray} {k : Nat} (h2 : 2 ≤ sub.size) (hls : sub.size ≤ s.size) (hk : k < s.size) (hno : NoOccB s sub k) (hne : ¬ AB s k = AB sub 0) (hib : indexByte (bl (s.extract (k + 1) (s.size - sub.size + 1))) (UInt8.ofNat (AB sub 0).toNat) = -1) : indexB s sub = -1 :=
 skip_none s sub k h2 hls hk hno (dC hk (by omega) hne) (by rw [GF sub (by omega)] at hib; exact hib)
theorem MB {s sub : ByteArray} {k o : Nat} (h2 : 2 ≤ sub.size) (hk : k < s.size) (hno : NoOccB s sub k) (hne : ¬ AB s k = AB sub 0) (hib : indexByte (bl (s.extract (k + 1) (s.size - sub.size + 1))) (UInt8.ofNat (AB sub 0).toNat) = o) : NoOccB s sub (k + (o + 1)) :=
 skip_some s sub k o h2 hk hno (dC hk (by omega) hne) (by rw [GF sub (by omega)] at hib; exact hib)
theorem LI {s sub : ByteArray} {i : Nat} (hno : NoOccB s sub i) (h2 : 2 ≤ sub.size) (hi : i + 1 < s.size) (hne : ¬ AB s (i + 1) = AB sub 1) : NoOccB s sub (i + 1) :=
 miss_second s sub i hno h2 hi (by rw [Bz s _ hi, Bz sub 1 (by omega)] at hne; exact hne)
theorem Ni {s sub : ByteArray} {i : Nat} (hno : NoOccB s sub i) (hi : i + sub.size ≤ s.size) (h : ¬ s.extract i (i + sub.size) = sub) : NoOccB s sub (i + 1) := miss_piece s sub i hno hi (FX h)
theorem Jp (s sub : ByteArray) (a : Nat) : -1 ≤ indexB (s.extract a s.size) sub ∧ indexB (s.extract a s.size) sub ≤ s.size := ⟨index_ge _ _, index_tail_le s sub a⟩
theorem Pg {s sub : ByteArray} (h : sub.size = 1) : indexByte (bl s) (UInt8.ofNat (AB sub 0).toNat) = indexB s sub := by
 rw [one s sub h, GF sub (by omega)]; rfl
theorem Q4 {s sub : ByteArray} (h : sub.size = 0 ∨ sub = s) : indexB s sub = 0 := zero s sub (by
 rcases h with h | h
 ·exact .inl (by rw [h]; rfl)
 ·exact .inr (EA h))
theorem dB {s sub : ByteArray} {k : Nat} (hno : NoOccB s sub k) (hk : k ≤ s.size) : indexB s sub = if indexB (s.extract k s.size) sub < 0 then -1 else indexB (s.extract k s.size) sub + k := by
 split
 ·exact fb_neg s sub k hno hk (r := indexB (s.extract k s.size) sub) rfl (by assumption) (Jp s sub k).1
 ·exact fb_pos s sub k hno hk (r := indexB (s.extract k s.size) sub) rfl (by omega)
theorem uz {k : IntKind} {x y : Int} (h : x = y) : T.v (.int k x) = T.v (.int k y) := by rw [h]
theorem Z1 {s sub : ByteArray} (h1 : s.size ≤ sub.size) (h2 : ¬ sub = s) : indexB s sub = -1 := long s sub h1 (FX h2)
end
def f0 : Ct := At (lc Av (lc Av l0)) (fun p => p.2.1.size ≤ 2000000 ∧ p.1.size ≤ 2000000) (fun p => .t (.v (.int .i64 (Lib.indexB p.1 p.2.1))))
section
attribute [local go_sem] gE gC gA gG nu eq_self decide_true Bool.not_true Bool.not_false
set_option maxHeartbeats 8000000 in
theorem ma {G : Gt} (hG : Aj G) (hh : G.e 214 = AA 0 gE ∧ G.e 213 = AA 3 (gC G.m) ∧ G.e 212 = AA 0 gA ∧ G.e 215 = AA 0 gG) : Gd G 197 (AA 0 f0) := by
 refine gr (fn := Tryz.f197) (n := 2) rfl hG ?_
 rintro ⟨s, sub, ⟨⟩⟩ hpre
 simp -implicitDefEqProofs only [Tryz.f197, go_sem, hh, Nat.reduceAdd, Nat.reduceMul, Nat.reduceLeDiff, Nat.reduceEqDiff, reduceCtorEq, Nat.reduceSub, Int.reduceNeg, Nat.reduceMod, Nat.reduceBEq, Nat.reduceLT] at hpre ⊢
 with_reducible repeat' (first | apply ai | intro _ | ((first | apply s1 | apply s2 | apply s3 | apply s4) <;> intro hb <;> simp -implicitDefEqProofs only [hb, go_sem, hh, Nat.reduceAdd, Nat.reduceMul, Nat.reduceLeDiff, Nat.reduceEqDiff, reduceCtorEq, Nat.reduceSub, Int.reduceNeg, Nat.reduceMod, Nat.reduceBEq, Nat.reduceLT] <;> try simp only [qz] at hb))
 all_goals (try simp only [maxLen, tn] at *)
 all_goals first | rfl | omega | skip
 ·rw [Q4 (.inl (by omega))]
 ·rename_i hb; rw [Q4 (.inr hb)]
 ·rw [← Pg (s := s) (sub := sub) (by omega)]; rfl
 ·rw [Z1 (by omega) (by assumption)]
 all_goals
  have h2 : 2 ≤ sub.size := by omega
  have hls : sub.size < s.size := by omega
  refine AE [] (ι := {p : Nat × Nat // p.1 ≤ s.size - sub.size + 1 ∧ Lib.NoOccB s sub p.1 ∧ p.2 ≤ p.1}) (fun p => ⟨[(0, .t (.v (.string s))), (1, .t (.v (.string sub))), (5, .t (.v (.int .i64 sub.size))), (6, .t (.v (.int .u8 (AB sub 0)))), (7, .t (.v (.int .u8 (AB sub 1)))), (8, .t (.v (.int .i64 p.1.1))), (9, .t (.v (.int .i64 (s.size - sub.size + 1)))), (10, .t (.v (.int .i64 p.1.2)))], []⟩) (fun p => s.size - p.1.1) ⟨(0, 0), by dsimp only; omega, (fun j hj => absurd hj (Nat.not_lt_zero _)), by dsimp only; omega⟩ rfl ?_ ?_
  ·simp -implicitDefEqProofs only [go_sem, hh, Nat.reduceAdd, Nat.reduceMul, Nat.reduceLeDiff, Nat.reduceEqDiff, reduceCtorEq, Nat.reduceSub, Int.reduceNeg, Nat.reduceMod, Nat.reduceBEq, Nat.reduceLT]
   try simp
  ·rintro ⟨⟨i, f⟩, hi, hno, hf⟩
   dsimp only at hi hno hf
   have et : ((s.size : Int) - sub.size + 1).toNat = s.size - sub.size + 1 := by omega
   have ei : ((i : Int) + 1).toNat = i + 1 := by omega
   by_cases ht : (i : Int) < s.size - sub.size + 1
   ·by_cases e0 : AB s (i : Int).toNat = AB sub 0
    ·have e1 : ((i : Int) + sub.size).toNat = i + sub.size := by omega
     simp -implicitDefEqProofs only [ht, e0, go_sem, hh, Nat.reduceAdd, Nat.reduceMul, Nat.reduceLeDiff, Nat.reduceEqDiff, reduceCtorEq, Nat.reduceSub, Int.reduceNeg, Nat.reduceMod, Nat.reduceBEq, Nat.reduceLT]
     with_reducible repeat' (first | apply ai | intro _ | ((first | apply s1 | apply s2 | apply s3 | apply s4) <;> intro hb <;> simp -implicitDefEqProofs only [hb, go_sem, hh, Nat.reduceAdd, Nat.reduceMul, Nat.reduceLeDiff, Nat.reduceEqDiff, reduceCtorEq, Nat.reduceSub, Int.reduceNeg, Nat.reduceMod, Nat.reduceBEq, Nat.reduceLT] <;> try simp only [qz] at hb))
     all_goals (try simp only [maxLen, tn, Int.reduceToNat, ei, et, e1] at *)
     all_goals first | rfl | omega | skip
     all_goals first
      | (rw [Lib.hit s sub i hno (by omega) (EA (by assumption))]; done)
      | (rw [ByteArray.size_extract]; omega)
      | (have hk2 : Lib.NoOccB s sub (i + 1) := by
           first
            | exact Ni hno (by omega) (by assumption)
            | exact LI hno h2 (by omega) (by assumption)
         have hbd := Jp s sub (i + 1)
         first
          | omega
          | (refine uz ?_
             rw [dB hk2 (by omega)]
             first
              | (rw [if_pos (by omega)]; done)
              | (rw [if_neg (by omega)]; omega))
          | (refine ⟨⟨(i + 1, f + 1), by dsimp only; omega, hk2, by dsimp only; omega⟩, by dsimp only; omega, ?_⟩
             simp -implicitDefEqProofs only [go_sem, hh, Nat.reduceAdd, Nat.reduceMul, Nat.reduceLeDiff, Nat.reduceEqDiff, reduceCtorEq, Nat.reduceSub, Int.reduceNeg, Nat.reduceMod, Nat.reduceBEq, Nat.reduceLT]
             simp))
    ·have hz : True := trivial
     rcases Vv (s.extract ((i : Int) + 1).toNat ((s.size : Int) - sub.size + 1).toNat) (UInt8.ofNat (AB sub (Int.toNat 0)).toNat) with h | ⟨o, h, ho⟩
     ·have h' : Lib.indexByte (bl (s.extract ((i : Int) + 1).toNat ((s.size : Int) - sub.size + 1).toNat)) (UInt8.ofNat (AB sub 0).toNat) = -1 := h
      simp -implicitDefEqProofs only [ht, e0, h', go_sem, hh, Nat.reduceAdd, Nat.reduceMul, Nat.reduceLeDiff, Nat.reduceEqDiff, reduceCtorEq, Nat.reduceSub, Int.reduceNeg, Nat.reduceMod, Nat.reduceBEq, Nat.reduceLT]
      with_reducible repeat' (first | apply ai | intro _ | ((first | apply s1 | apply s2 | apply s3 | apply s4) <;> intro hb <;> simp -implicitDefEqProofs only [hb, go_sem, hh, Nat.reduceAdd, Nat.reduceMul, Nat.reduceLeDiff, Nat.reduceEqDiff, reduceCtorEq, Nat.reduceSub, Int.reduceNeg, Nat.reduceMod, Nat.reduceBEq, Nat.reduceLT] <;> try simp only [qz] at hb))
      all_goals (try simp only [maxLen] at *)
      all_goals first | rfl | omega | skip
      rw [ei, et] at h'
      rw [tn] at e0
      rw [MA (k := i) h2 (by omega) (by omega) hno e0 h']
     ·have h' : Lib.indexByte (bl (s.extract ((i : Int) + 1).toNat ((s.size : Int) - sub.size + 1).toNat)) (UInt8.ofNat (AB sub 0).toNat) = o := h
      have ho' : i + (o + 1) < s.size - sub.size + 1 := by
       rw [ei, et, ByteArray.size_extract] at ho; omega
      have hno' : Lib.NoOccB s sub (i + (o + 1)) := by
       rw [ei, et] at h'
       rw [tn] at e0
       exact MB (k := i) h2 (by omega) hno e0 h'
      have e4 : ((i : Int) + ((o : Int) + 1)) = ((i + (o + 1) : Nat) : Int) := by omega
      simp -implicitDefEqProofs only [ht, e0, h', e4, go_sem, hh, Nat.reduceAdd, Nat.reduceMul, Nat.reduceLeDiff, Nat.reduceEqDiff, reduceCtorEq, Nat.reduceSub, Int.reduceNeg, Nat.reduceMod, Nat.reduceBEq, Nat.reduceLT]
      have hik : i ≤ i + (o + 1) := by omega
      have hob : o ≤ 2000000 := by omega
      clear h h' ho e0
      generalize i + (o + 1) = k at *
      have ek : ((k : Int) + 1).toNat = k + 1 := by omega
      have e1 : ((k : Int) + sub.size).toNat = k + sub.size := by omega
      with_reducible repeat' (first | apply ai | intro _ | ((first | apply s1 | apply s2 | apply s3 | apply s4) <;> intro hb <;> simp -implicitDefEqProofs only [hb, go_sem, hh, Nat.reduceAdd, Nat.reduceMul, Nat.reduceLeDiff, Nat.reduceEqDiff, reduceCtorEq, Nat.reduceSub, Int.reduceNeg, Nat.reduceMod, Nat.reduceBEq, Nat.reduceLT] <;> try simp only [qz] at hb))
      all_goals (try simp only [maxLen, tn, Int.reduceToNat, ei, et, e1, ek, e4] at *)
      all_goals first | rfl | omega | skip
      all_goals first
       | (rw [Lib.hit s sub k hno' (by omega) (EA (by assumption))]; done)
       | (rw [ByteArray.size_extract]; omega)
       | (have hk2 : Lib.NoOccB s sub (k + 1) := by
            first
             | exact Ni hno' (by omega) (by assumption)
             | exact LI hno' h2 (by omega) (by assumption)
          have hbd := Jp s sub (k + 1)
          first
           | omega
           | (refine uz ?_
              rw [dB hk2 (by omega)]
              first
               | (rw [if_pos (by omega)]; done)
               | (rw [if_neg (by omega)]; omega))
           | (refine ⟨⟨(k + 1, f + 1), by dsimp only; omega, hk2, by dsimp only; omega⟩, by dsimp only; omega, ?_⟩
              simp -implicitDefEqProofs only [go_sem, hh, Nat.reduceAdd, Nat.reduceMul, Nat.reduceLeDiff, Nat.reduceEqDiff, reduceCtorEq, Nat.reduceSub, Int.reduceNeg, Nat.reduceMod, Nat.reduceBEq, Nat.reduceLT]
              simp))

   ·simp -implicitDefEqProofs only [ht, go_sem, hh, Nat.reduceAdd, Nat.reduceMul, Nat.reduceLeDiff, Nat.reduceEqDiff, reduceCtorEq, Nat.reduceSub, Int.reduceNeg, Nat.reduceMod, Nat.reduceBEq, Nat.reduceLT]
    rw [Lib.past s sub i hno (by omega) (by omega)]
end
section
open Go.Lib
def FG (c : UInt8) : List UInt8 → List (List UInt8)
 | [] => [[]]
 | x :: r => if x = c then [] :: FG c r else match FG c r with | h :: t => (x :: h) :: t | [] => [[x]]
def Hp (s : ByteArray) (c : UInt8) : List ByteArray := (FG c (bl s)).map mB
theorem Ff (c : UInt8) : ∀ l : List UInt8, (FG c l).length = l.count c + 1
 | [] => rfl
 | x :: r => by
   have h := Ff c r
   rw [FG]
   by_cases e : x = c
   ·rw [if_pos e, e, List.count_cons_self]; simp [h]
   ·rw [if_neg e, List.count_cons_of_ne e]
    cases hs : FG c r with
    | nil => rw [hs] at h; simp at h
    | cons a t => rw [hs] at h; simp at h ⊢; exact h
theorem OJ {c : UInt8} : ∀ {l : List UInt8}, (∀ j : Nat, l[j]? ≠ some c) → FG c l = [l]
 | [], _ => rfl
 | x :: r, h => by
   rw [FG, if_neg (fun e => h 0 (by rw [e]; rfl)), OJ (fun j => h (j + 1))]
theorem LQ {c : UInt8} : ∀ (o : Nat) (l : List UInt8), l[o]? = some c → (∀ k : Nat, k < o → l[k]? ≠ some c) → FG c l = l.take o :: FG c (l.drop (o + 1))
 | 0, l, h, _ => by
   cases l with
   | nil => cases h
   | cons x r => simp at h; rw [FG, if_pos h]; rfl
 | o + 1, l, h, hk => by
   cases l with
   | nil => cases h
   | cons x r =>
     rw [FG, if_neg (fun e => hk 0 (by omega) (by rw [e]; rfl)), LQ o r h (fun k q => hk (k + 1) (by omega))]
     rfl
theorem Ej {c : UInt8} : ∀ (l : List UInt8) (m : Nat), (Ao c m l).length ≤ m ∨ (FG c l).length ≤ m → Ao c m l = FG c l
 | l, 0, h => by
   have := Ff c l
   rw [Ao] at h
   rcases h with h | h
   ·exact absurd h (by simp)
   ·omega
 | [], m + 1, _ => by rw [Ao, FG]
 | x :: r, m + 1, h => by
   rw [Ao, FG] at h ⊢
   by_cases e : x = c
   ·rw [if_pos e, if_pos e] at h ⊢
    rw [Ej r m (by simp at h; exact h)]
   ·rw [if_neg e, if_neg e] at h ⊢
    have h2 : (Ao c (m + 1) r).length ≤ m + 1 ∨ (FG c r).length ≤ m + 1 := by
     rcases h with h | h
     ·cases hs : Ao c (m + 1) r with
      | nil => exact .inl (by simp)
      | cons a t => rw [hs] at h; exact .inl (by simpa using h)
     ·cases hs : FG c r with
      | nil => exact .inr (by simp)
      | cons a t => rw [hs] at h; exact .inr (by simpa using h)
    rw [Ej r (m + 1) h2]
    all_goals (cases FG c r <;> rfl)
theorem IY (s : ByteArray) : Di s ↔ (∀ w ∈ Hp s 46, QQ w) ∧ (Hp s 46).length ≤ 3 := by
 unfold Di Cg Hp
 constructor
 ·rintro ⟨h1, h2⟩
  rw [lm] at h2
  rw [Ej _ _ (.inl h2)] at h1 h2
  exact ⟨h1, by rw [lm]; exact h2⟩
 ·rintro ⟨h1, h2⟩
  rw [lm] at h2
  rw [← Ej _ _ (.inr h2)] at h1 h2
  exact ⟨h1, by rw [lm]; exact h2⟩
theorem E7 : ∀ {l : List UInt8} {c : UInt8}, indexByte l c = -1 → ∀ j : Nat, l[j]? ≠ some c
 | [], c, _, j => by simp
 | b :: l, c, h, j => by
   have hge := indexByte_ge l c
   unfold indexByte at h
   by_cases e : b = c
   ·rw [if_pos (by simp [e])] at h; cases h
   ·rw [if_neg (by simp [e])] at h
    by_cases e2 : indexByte l c = -1
    ·cases j with
     | zero => simp [e]
     | succ j => exact E7 e2 j
    ·rw [if_neg (by simp [e2])] at h; omega
theorem OL {s sep : ByteArray} (h1 : sep.size = 1) (h : indexB s sep = -1) : Hp s (UInt8.ofNat (AB sep 0).toNat) = [s] := by
 rw [← Pg h1] at h
 unfold Hp
 rw [OJ (E7 h)]
 rfl
theorem XD {s sep : ByteArray} (h1 : sep.size = 1) {o : Nat} (h : indexB s sep = o) : o < s.size ∧ Hp s (UInt8.ofNat (AB sep 0).toNat) = s.extract 0 o :: Hp (s.extract (o + 1) s.size) (UInt8.ofNat (AB sep 0).toNat) := by
 rw [← Pg h1] at h
 obtain ⟨ha, hb⟩ := indexByte_some h
 refine ⟨(List.getElem?_eq_some_iff.1 ha).1, ?_⟩
 unfold Hp
 rw [LQ o _ ha hb, List.map_cons, DQ s (o + 1) s.size, List.take_of_length_le (l := (bl s).drop (o + 1)) (by rw [List.length_drop, CB]; exact Nat.le_refl _)]
 rw [GK s 0 o]; rfl
theorem Vh {α : Type} (enc : α → List T) (d x : α) (p : List α) (n : Nat) : ((p ++ List.replicate (n + 1) d).map enc).set p.length (enc x) = ((p ++ [x]) ++ List.replicate n d).map enc := by
 rw [← List.map_set, List.set_append_right _ _ (Nat.le_refl _), Nat.sub_self, List.replicate_succ, List.set_cons_zero, List.append_assoc]; rfl
theorem cx {t : ByteArray} {p : List ByteArray} {n : Nat} : ((p ++ List.replicate (n + 1) (⟨#[]⟩ : ByteArray)).map AH).set p.length [T.v (.string t)] = ((p ++ [t]) ++ List.replicate n (⟨#[]⟩ : ByteArray)).map AH := Vh AH _ t p n
theorem Fg (s : ByteArray) (c : UInt8) : (Hp s c).length = countByte (bl s) c + 1 := by
 unfold Hp; rw [lm, Ff]; rfl
theorem UY (s : ByteArray) (c : UInt8) : countByte (bl s) c ≤ s.size := by
 have := List.count_le_length (a := c) (l := bl s)
 exact this
theorem LR {s sep : ByteArray} (h1 : sep.size = 1) : (indexB s sep = -1 ∧ countByte (bl s) (UInt8.ofNat (AB sep 0).toNat) = 0 ∧ Hp s (UInt8.ofNat (AB sep 0).toNat) = [s]) ∨ ∃ o : Nat, indexB s sep = o ∧ o < s.size ∧ Hp s (UInt8.ofNat (AB sep 0).toNat) = s.extract 0 o :: Hp (s.extract (o + 1) s.size) (UInt8.ofNat (AB sep 0).toNat) ∧ countByte (bl s) (UInt8.ofNat (AB sep 0).toNat) = countByte (bl (s.extract (o + 1) s.size)) (UInt8.ofNat (AB sep 0).toNat) + 1 := by
 have hge := index_ge (bl s) (bl sep)
 by_cases h : indexB s sep = -1
 ·refine .inl ⟨h, ?_, OL h1 h⟩
  have := Fg s (UInt8.ofNat (AB sep 0).toNat)
  rw [OL h1 h] at this
  simp at this; exact this
 ·have hge' : -1 ≤ indexB s sep := hge
  obtain ⟨o, ho⟩ : ∃ o : Nat, indexB s sep = o := ⟨(indexB s sep).toNat, by omega⟩
  obtain ⟨a, b⟩ := XD h1 ho
  refine .inr ⟨o, ho, a, b, ?_⟩
  have q1 := Fg s (UInt8.ofNat (AB sep 0).toNat)
  have q2 := Fg (s.extract (o + 1) s.size) (UInt8.ofNat (AB sep 0).toNat)
  rw [b, List.length_cons, q2] at q1
  omega
end
def fp : Ct := At (lc Av (lc Av l0)) (fun p => p.2.1.size ≤ 2000000 ∧ p.1.size ≤ 2000000) (fun p => .t (.v (.int .i64 (Lib.indexB p.1 p.2.1))))
section
attribute [local go_sem] f0
theorem mS {G : Gt} (hG : Aj G) (hh : G.e 197 = AA 0 f0) : Gd G 182 (AA 0 fp) := by
 refine gr (fn := Tryz.f182) (n := 2) rfl hG ?_
 rintro ⟨s, sub, ⟨⟩⟩ hpre
 simp -implicitDefEqProofs only [Tryz.f182, go_sem, hh, seval] at hpre ⊢
 with_reducible repeat' (first | apply ai | intro _ | ((first | apply s1 | apply s2 | apply s3 | apply s4) <;> intro hb <;> simp -implicitDefEqProofs only [hb, go_sem, hh, seval] <;> try simp only [qz] at hb))
 all_goals first | rfl | omega | skip
end
def fm : Ct := At (lc Av (lc Av l0)) (fun p => p.2.1.size = 1 ∧ p.1.size ≤ 2000000) (fun p => .t (.v (.int .i64 (Lib.countByte (bl p.1) (UInt8.ofNat (AB p.2.1 0).toNat)))))
section
attribute [local go_sem] fz
theorem mR {G : Gt} (hG : Aj G) (hh : G.e 196 = AA 3 fz) : Gd G 181 (AA 0 fm) := by
 refine gr (fn := Tryz.f181) (n := 2) rfl hG ?_
 rintro ⟨s, sub, ⟨⟩⟩ hpre
 simp -implicitDefEqProofs only [Tryz.f181, go_sem, hh, seval] at hpre ⊢
 have h1 : (sub.size : Int) = 1 := by omega
 simp -implicitDefEqProofs only [h1, go_sem, hh, seval]
 with_reducible repeat' (first | apply ai | intro _ | ((first | apply s1 | apply s2 | apply s3 | apply s4) <;> intro hb <;> simp -implicitDefEqProofs only [hb, go_sem, hh, seval] <;> try simp only [qz] at hb))
 all_goals first | rfl | omega | skip
end
def fd : Ct := At (lc Av (lc Av (lc BJ (lc BJ l0)))) (fun p => p.2.1.size = 1 ∧ p.2.2.1 = 0 ∧ p.2.2.2.1 = -1 ∧ p.1.size ≤ 2000000) (fun p => .o true 1 ((Hp p.1 (UInt8.ofNat (AB p.2.1 0).toNat)).map AH))
section
attribute [local go_sem] fm fp BN AY List.map_replicate
set_option maxHeartbeats 1600000 in
theorem mH {G : Gt} (hG : Aj G) (hh : G.e 181 = AA 0 fm ∧ G.e 182 = AA 0 fp) : Gd G 162 (AA 0 fd) := by
 refine gr (fn := Tryz.f162) (n := 4) rfl hG ?_ (hs := fun _ _ => .deep _ _)
 rintro ⟨s, sep, sv, n, ⟨⟩⟩ hpre
 obtain ⟨h1, h2, h3, h4⟩ := hpre
 dsimp only at h1 h2 h3 h4
 subst h2 h3
 have hse : ¬ sep = ⟨#[]⟩ := by intro e; rw [e] at h1; cases h1
 have hc := UY s (UInt8.ofNat (AB sep 0).toNat)
 have hl := Fg s (UInt8.ofNat (AB sep 0).toNat)
 have hmin : ¬ ((s.size : Int) + 1 < (Lib.countByte (bl s) (UInt8.ofNat (AB sep 0).toNat) : Int) + 1) := by omega
 simp -implicitDefEqProofs only [Tryz.f162, hse, if_neg hmin, go_sem, hh, seval]
 with_reducible repeat' (first | apply ai | intro _ | ((first | apply s1 | apply s2 | apply s3 | apply s4) <;> intro hb <;> simp -implicitDefEqProofs only [hb, go_sem, hh, seval] <;> try simp only [qz] at hb))
 all_goals (try simp only [maxLen, tn] at *)
 all_goals first | rfl | omega | skip
 refine AE [] (ι := {z : List ByteArray × ByteArray // Hp s (UInt8.ofNat (AB sep 0).toNat) = z.1 ++ Hp z.2 (UInt8.ofNat (AB sep 0).toNat) ∧ z.2.size ≤ s.size}) (fun z => ⟨[(0, .t (.v (.string z.1.2))), (1, .t (.v (.string sep))), (2, .t (.v (.int .i64 0))), (3, .t (.v (.int .i64 (Lib.countByte (bl s) (UInt8.ofNat (AB sep 0).toNat))))), (9, .h 1031), (10, .t (.v (.int .i64 z.1.1.length)))], [(1031, some (.arr true 1 ((z.1.1 ++ List.replicate (Lib.countByte (bl s) (UInt8.ofNat (AB sep 0).toNat) + 1 - z.1.1.length) (⟨#[]⟩ : ByteArray)).map AH)))]⟩) (fun z => s.size + 1 - z.1.1.length) ⟨([], s), rfl, Nat.le_refl _⟩ rfl ?_ ?_
 ·simp -implicitDefEqProofs only [go_sem, hh, seval]
  try simp
  constructor <;> split <;> omega
 ·rintro ⟨⟨p, t⟩, hz, ht⟩
  dsimp only at hz ht
  have hcl : (Hp s (UInt8.ofNat (AB sep 0).toNat)).length = p.length + (Hp t (UInt8.ofNat (AB sep 0).toNat)).length := by rw [hz, List.length_append]
  rw [hl, Fg] at hcl
  by_cases hlt : (p.length : Int) < Lib.countByte (bl s) (UInt8.ofNat (AB sep 0).toNat)
  ·rcases LR (s := t) h1 with ⟨_, q, _⟩ | ⟨o, q1, q2, q3, q4⟩
   ·omega
   ·have q0 : ¬ (o : Int) < 0 := by omega
    simp -implicitDefEqProofs only [hlt, q1, q0, go_sem, hh, seval]
    obtain ⟨n, hn⟩ : ∃ n, Lib.countByte (bl s) (UInt8.ofNat (AB sep 0).toNat) + 1 - p.length = n + 1 := ⟨Lib.countByte (bl s) (UInt8.ofNat (AB sep 0).toNat) - p.length, by omega⟩
    have hn2 : n = Lib.countByte (bl s) (UInt8.ofNat (AB sep 0).toNat) - p.length := by omega
    have hs1 : ((o : Int) + sep.size).toNat = o + 1 := by omega
    with_reducible repeat' (first | apply ai | intro _ | ((first | apply s1 | apply s2 | apply s3 | apply s4) <;> intro hb <;> simp -implicitDefEqProofs only [hb, go_sem, hh, seval] <;> try simp only [qz] at hb))
    all_goals (try simp only [maxLen, tn, Int.add_zero, hn, cx, lm, List.length_append, List.length_replicate, hs1] at *)
    all_goals first | rfl | omega | skip
    refine ⟨⟨(p ++ [t.extract 0 o], t.extract (o + 1) t.size), ?_, ?_⟩, ?_, ?_⟩
    ·dsimp only; rw [hz, q3, List.append_assoc]; rfl
    ·dsimp only; rw [ByteArray.size_extract]; omega
    ·dsimp only; rw [List.length_append]; simp; omega
    ·have e2 : Lib.countByte (bl s) (UInt8.ofNat (AB sep 0).toNat) + 1 - (p ++ [t.extract 0 o]).length = n := by rw [List.length_append, hn2]; simp
     simp -implicitDefEqProofs only [e2, go_sem, hh, seval]
     try simp
  ·simp -implicitDefEqProofs only [hlt, go_sem, hh, seval]
   rcases LR (s := t) h1 with ⟨_, _, q⟩ | ⟨o, q1, q2, q3, q4⟩
   ·have hn : Lib.countByte (bl s) (UInt8.ofNat (AB sep 0).toNat) + 1 - p.length = 0 + 1 := by omega
    rw [q] at hz
    with_reducible repeat' (first | apply ai | intro _ | ((first | apply s1 | apply s2 | apply s3 | apply s4) <;> intro hb <;> simp -implicitDefEqProofs only [hb, go_sem, hh, seval] <;> try simp only [qz] at hb))
    all_goals (try simp only [maxLen, tn, Int.add_zero, hn, cx, lm, List.length_append, List.length_replicate] at *)
    all_goals first | rfl | omega | (simp; done) | skip
    ·rw [hz, List.replicate_zero, List.append_nil, List.take_of_length_le]
     try simp
   ·omega
end
def bx (l : List Bool) : List AV := l.map fun b => .t (.v (.bool b))
def O5 (l : List Bool) : List T := l.map fun b => .v (.bool b)
def fA : List T → Option (List Bool)
 | [] => some []
 | .v (.bool b) :: r => (fA r).map (b :: ·)
 | _ => none
theorem O4 : ∀ l, fA (O5 l) = some l
 | [] => rfl
 | b :: l => by show (fA (O5 l)).map (b :: ·) = _; rw [O4 l]; rfl
theorem UB : ∀ {c l}, fA c = some l → O5 l = c
 | [], _, h => by cases h; rfl
 | x :: c, l, h => by
   unfold fA at h
   split at h
   ·rename_i e; cases e
   ·rename_i e
    cases e
    cases hq : fA c with
    | none => rw [hq] at h; cases h
    | some l' => rw [hq] at h; cases h; rw [← UB hq]; rfl
   ·cases h
def uw : AV → Option (List Bool)
 | .t (.rop c) => fA c
 | _ => none
def nv : AD (List Bool) where
 enc l := .t (.rop (O5 l))
 dec := uw
 ed := fun l => O4 l
 de := fun x l h => by
  unfold uw at h
  split at h
  ·rw [← UB h]
  ·cases h
theorem IS {l : List Bool} : nv.dec (.t (.rop (O5 l))) = some l := O4 l
theorem IT {l : List Bool} : nv.enc l = .t (.rop (O5 l)) := rfl
theorem JR {l : List Bool} : (bx l).length = l.length := by simp [bx]
theorem Qi {l : List Bool} : (O5 l).length = l.length := by simp [O5]
def bj : List Value := List.replicate 256 (.bool false)
def T7 : List Bool := List.replicate 256 false
theorem XT : AI Tryz.prog 176 = some ⟨.arr 256 4, 256, 256, bj⟩ := sQ
theorem Qo : bj.map DF = bx T7 := by simp [bx, bj, T7]; rfl
theorem Qj : bj.all CH = true := by decide
theorem NF : T7.length = 256 := rfl
theorem NI : List.drop 256 (bx T7) = [] := rfl
theorem fB {l : List Bool} {k : Nat} {b : Bool} (h : k < l.length) : (bx l).take k ++ AV.t (.v (.bool b)) :: (bx l).drop (k + 1) = bx (l.set k b) := by
 unfold bx
 rw [List.set_eq_take_append_cons_drop, if_pos h]
 try simp
theorem Y4 {l : List Bool} {n : Nat} (h : l.length = n) : (bx l).take n = bx l := List.take_of_length_le (by rw [JR]; omega)
theorem Qn {s : AS} {n : Nat} : ∀ {l : List Bool}, A6 (s.snapT (n + 1)) (bx l) = some (O5 l)
 | [] => rfl
 | b :: l => by
   have h := Qn (s := s) (n := n) (l := l)
   unfold bx O5 at h ⊢
   simp only [List.map_cons, A6, h, AS.snapT]
theorem Y3 {l : List Bool} {k : Nat} (h : k < l.length) : (O5 l).drop k = T.v (.bool (l.getD k false)) :: (O5 l).drop (k + 1) := by
 rw [List.drop_eq_getElem_cons (by rw [Qi]; exact h)]
 congr 1
 simp [O5, h]
theorem Ql {s : AS} : ∀ {l : List Bool}, Dq s (bx l) (bx l)
 | [] => trivial
 | b :: l => ⟨by simp only [Er, N7], Ql⟩
theorem Qk {s : AS} : ∀ {l : List Bool}, Bn s (bx l) (bx l) = []
 | [] => rfl
 | b :: l => by show DJ s (.t (.v (.bool b))) (.t (.v (.bool b))) ++ Bn s (bx l) (bx l) = []; rw [Qk]; rfl
theorem Qm {s : AS} : ∀ {l : List Bool}, CI s (bx l) (bx l) = []
 | [] => rfl
 | b :: l => by show DY s (.t (.v (.bool b))) (.t (.v (.bool b))) ++ CI s (bx l) (bx l) = []; rw [Qm]; rfl
theorem K9 {d k : Nat} {s : AS} : ∀ {l : List Bool}, AR d k (bx l) s = ⟨bx l, s, k⟩
 | [] => rfl
 | b :: l => by
   show um.mk (AV.t (.v (.bool b)) :: (AR d k (bx l) s).avs) (AR d k (bx l) s).s (AR d k (bx l) s).k = _
   rw [K9]; rfl
theorem UC {k : Nat} : ∀ {l : List Bool}, AV.hasL k (bx l) = false
 | [] => rfl
 | b :: l => by show (false || AV.hasL k (bx l)) = false; rw [UC]; rfl
theorem NJ {k : Nat} : ∀ {l : List Bool}, (bx l).map (AV.drop k) = bx l
 | [] => rfl
 | b :: l => by show AV.t (.v (.bool b)) :: (bx l).map (AV.drop k) = _; rw [NJ]; rfl
def Fs (cs : ByteArray) : Nat → List Bool
 | 0 => T7
 | n + 1 => (Fs cs n).set (AB cs n).toNat true
theorem KE (cs : ByteArray) : ∀ n, (Fs cs n).length = 256
 | 0 => rfl
 | n + 1 => by rw [Fs, List.length_set]; exact KE cs n
def Iz (l : List Bool) (s : ByteArray) : ByteArray :=
 if h : s.size = 0 then s else bif l.getD (AB s (s.size - 1)).toNat false then Iz l (s.extract 0 (s.size - 1)) else s
termination_by s.size
decreasing_by rw [ByteArray.size_extract]; omega
def Mp (l : List Bool) (s : ByteArray) : ByteArray :=
 if h : s.size = 0 then s else bif l.getD (AB s 0).toNat false then Mp l (s.extract 1 s.size) else s
termination_by s.size
decreasing_by rw [ByteArray.size_extract]; omega
theorem Rf {l : List Bool} : Iz l ⟨#[]⟩ = ⟨#[]⟩ := by rw [Iz]; exact dif_pos rfl
theorem Ra {l : List Bool} : Mp l ⟨#[]⟩ = ⟨#[]⟩ := by rw [Mp]; exact dif_pos rfl
theorem XO (l : List Bool) (s : ByteArray) : (Iz l s).size ≤ s.size := by
 rw [Iz]
 split
 ·exact Nat.le_refl _
 ·cases l.getD (AB s (s.size - 1)).toNat false
  ·exact Nat.le_refl _
  ·have := XO l (s.extract 0 (s.size - 1))
   rw [ByteArray.size_extract] at this
   show (Iz l (s.extract 0 (s.size - 1))).size ≤ _
   omega
termination_by s.size
decreasing_by rw [ByteArray.size_extract]; omega
def UN : Ct := At (lc nv (lc dt l0)) (fun p => p.1.length = 256 ∧ 0 ≤ p.2.1 ∧ p.2.1 < 256) (fun p => .t (.v (.bool (p.1.getD p.2.1.toNat false))))
section
attribute [local go_sem] XT IS IT Qi
theorem mQ {G : Gt} (hG : Aj G) : Gd G 176 (AA 0 UN) := by
 refine gr (fn := Tryz.f176) (n := 2) rfl hG ?_
 rintro ⟨l, c, ⟨⟩⟩ hpre
 simp -implicitDefEqProofs only [Tryz.f176, go_sem, Nat.reduceAdd, Nat.reduceMul, Nat.reduceLeDiff, Nat.reduceEqDiff, reduceCtorEq, Nat.reduceSub, Int.reduceNeg, Nat.reduceMod, Nat.reduceBEq, Nat.reduceLT] at hpre ⊢
 have hk : c.toNat < l.length := by omega
 simp -implicitDefEqProofs only [Y3 hk, Nat.mul_one, hpre.1, go_sem, Nat.reduceAdd, Nat.reduceMul, Nat.reduceLeDiff, Nat.reduceEqDiff, reduceCtorEq, Nat.reduceSub, Int.reduceNeg, Nat.reduceMod, Nat.reduceBEq, Nat.reduceLT]
 with_reducible repeat' (first | apply ai | intro _ | ((first | apply s1 | apply s2 | apply s3 | apply s4) <;> intro hb <;> simp -implicitDefEqProofs only [hb, go_sem, Nat.reduceAdd, Nat.reduceMul, Nat.reduceLeDiff, Nat.reduceEqDiff, reduceCtorEq, Nat.reduceSub, Int.reduceNeg, Nat.reduceMod, Nat.reduceBEq, Nat.reduceLT] <;> try simp only [qz] at hb))
 all_goals first | rfl | omega | skip
 all_goals trace_state
end
def fc : Ct := At (lc Av (lc nv l0)) (fun p => p.2.1.length = 256 ∧ p.1.size ≤ 2000000) (fun p => .t (.v (.string (Iz p.2.1 p.1))))
section
attribute [local go_sem] UN IS IT Bool.not_true Bool.not_false
theorem mG {G : Gt} (hG : Aj G) (hh : G.e 176 = AA 0 UN) : Gd G 159 (AA 0 fc) := by
 refine gr (fn := Tryz.f159) (n := 2) rfl hG ?_
 rintro ⟨s, l, ⟨⟩⟩ hpre
 simp -implicitDefEqProofs only [Tryz.f159, go_sem, hh, Nat.reduceAdd, Nat.reduceMul, Nat.reduceLeDiff, Nat.reduceEqDiff, reduceCtorEq, Nat.reduceSub, Int.reduceNeg, Nat.reduceMod, Nat.reduceBEq, Nat.reduceLT] at hpre ⊢
 refine AE [] (ι := {t : ByteArray // Iz l t = Iz l s ∧ t.size ≤ s.size}) (fun p => ⟨[(0, .t (.v (.string p.1))), (1, .t (.rop (O5 l)))], []⟩) (fun p => p.1.size) ⟨s, rfl, Nat.le_refl _⟩ rfl ?_ ?_
 ·simp -implicitDefEqProofs only [go_sem, hh, Nat.reduceAdd, Nat.reduceMul, Nat.reduceLeDiff, Nat.reduceEqDiff, reduceCtorEq, Nat.reduceSub, Int.reduceNeg, Nat.reduceMod, Nat.reduceBEq, Nat.reduceLT]
  try simp
 ·rintro ⟨t, ht, hts⟩
  by_cases h0 : t.size = 0
  ·have h1 : (t.size : Int) = 0 := by omega
   simp -implicitDefEqProofs only [h1, go_sem, hh, Nat.reduceAdd, Nat.reduceMul, Nat.reduceLeDiff, Nat.reduceEqDiff, reduceCtorEq, Nat.reduceSub, Int.reduceNeg, Nat.reduceMod, Nat.reduceBEq, Nat.reduceLT]
   with_reducible repeat' (first | apply ai | intro _ | ((first | apply s1 | apply s2 | apply s3 | apply s4) <;> intro hb <;> simp -implicitDefEqProofs only [hb, go_sem, hh, Nat.reduceAdd, Nat.reduceMul, Nat.reduceLeDiff, Nat.reduceEqDiff, reduceCtorEq, Nat.reduceSub, Int.reduceNeg, Nat.reduceMod, Nat.reduceBEq, Nat.reduceLT] <;> try simp only [qz] at hb))
   all_goals first | rfl | omega | skip
   rw [← ht, Iz, dif_pos h0]
  ·have h1 : (t.size : Int) > 0 := by omega
   have hbr := A3 t (t.size - 1)
   have hr : Iz l t = bif l.getD (AB t (t.size - 1)).toNat false then Iz l (t.extract 0 (t.size - 1)) else t := by
    rw [Iz, dif_neg h0]
   have e1 : ((t.size : Int) - 1).toNat = (t.size - 1) := by omega
   cases hb : l.getD (AB t (((t.size : Int) - 1).toNat)).toNat false
   ·simp -implicitDefEqProofs only [h1, hb, go_sem, hh, Nat.reduceAdd, Nat.reduceMul, Nat.reduceLeDiff, Nat.reduceEqDiff, reduceCtorEq, Nat.reduceSub, Int.reduceNeg, Nat.reduceMod, Nat.reduceBEq, Nat.reduceLT]
    with_reducible repeat' (first | apply ai | intro _ | ((first | apply s1 | apply s2 | apply s3 | apply s4) <;> intro hb <;> simp -implicitDefEqProofs only [hb, go_sem, hh, Nat.reduceAdd, Nat.reduceMul, Nat.reduceLeDiff, Nat.reduceEqDiff, reduceCtorEq, Nat.reduceSub, Int.reduceNeg, Nat.reduceMod, Nat.reduceBEq, Nat.reduceLT] <;> try simp only [qz] at hb))
    all_goals first | rfl | omega | skip
    all_goals rw [e1] at *
    all_goals first | omega | (rw [← ht, hr, hb]; rfl)
   ·simp -implicitDefEqProofs only [h1, hb, go_sem, hh, Nat.reduceAdd, Nat.reduceMul, Nat.reduceLeDiff, Nat.reduceEqDiff, reduceCtorEq, Nat.reduceSub, Int.reduceNeg, Nat.reduceMod, Nat.reduceBEq, Nat.reduceLT]
    with_reducible repeat' (first | apply ai | intro _ | ((first | apply s1 | apply s2 | apply s3 | apply s4) <;> intro hb <;> simp -implicitDefEqProofs only [hb, go_sem, hh, Nat.reduceAdd, Nat.reduceMul, Nat.reduceLeDiff, Nat.reduceEqDiff, reduceCtorEq, Nat.reduceSub, Int.reduceNeg, Nat.reduceMod, Nat.reduceBEq, Nat.reduceLT] <;> try simp only [qz] at hb))
    all_goals first | rfl | omega | skip
    all_goals rw [e1] at *
    all_goals first | omega | skip
    refine ⟨⟨t.extract 0 (t.size - 1), ?_, ?_⟩, ?_, ?_⟩
    ·rw [← ht, hr, hb]; rfl
    ·rw [ByteArray.size_extract]; omega
    ·show (t.extract 0 (t.size - 1)).size < t.size
     rw [ByteArray.size_extract]; omega
    ·simp -implicitDefEqProofs only [go_sem, hh, Nat.reduceAdd, Nat.reduceMul, Nat.reduceLeDiff, Nat.reduceEqDiff, reduceCtorEq, Nat.reduceSub, Int.reduceNeg, Nat.reduceMod, Nat.reduceBEq, Nat.reduceLT]
     try simp [e1]
end
def fb : Ct := At (lc Av (lc nv l0)) (fun p => p.2.1.length = 256 ∧ p.1.size ≤ 2000000) (fun p => .t (.v (.string (Mp p.2.1 p.1))))
section
attribute [local go_sem] UN IS IT Bool.not_true Bool.not_false
theorem mF {G : Gt} (hG : Aj G) (hh : G.e 176 = AA 0 UN) : Gd G 158 (AA 0 fb) := by
 refine gr (fn := Tryz.f158) (n := 2) rfl hG ?_
 rintro ⟨s, l, ⟨⟩⟩ hpre
 simp -implicitDefEqProofs only [Tryz.f158, go_sem, hh, Nat.reduceAdd, Nat.reduceMul, Nat.reduceLeDiff, Nat.reduceEqDiff, reduceCtorEq, Nat.reduceSub, Int.reduceNeg, Nat.reduceMod, Nat.reduceBEq, Nat.reduceLT] at hpre ⊢
 refine AE [] (ι := {t : ByteArray // Mp l t = Mp l s ∧ t.size ≤ s.size}) (fun p => ⟨[(0, .t (.v (.string p.1))), (1, .t (.rop (O5 l)))], []⟩) (fun p => p.1.size) ⟨s, rfl, Nat.le_refl _⟩ rfl ?_ ?_
 ·simp -implicitDefEqProofs only [go_sem, hh, Nat.reduceAdd, Nat.reduceMul, Nat.reduceLeDiff, Nat.reduceEqDiff, reduceCtorEq, Nat.reduceSub, Int.reduceNeg, Nat.reduceMod, Nat.reduceBEq, Nat.reduceLT]
  try simp
 ·rintro ⟨t, ht, hts⟩
  by_cases h0 : t.size = 0
  ·have h1 : (t.size : Int) = 0 := by omega
   simp -implicitDefEqProofs only [h1, go_sem, hh, Nat.reduceAdd, Nat.reduceMul, Nat.reduceLeDiff, Nat.reduceEqDiff, reduceCtorEq, Nat.reduceSub, Int.reduceNeg, Nat.reduceMod, Nat.reduceBEq, Nat.reduceLT]
   with_reducible repeat' (first | apply ai | intro _ | ((first | apply s1 | apply s2 | apply s3 | apply s4) <;> intro hb <;> simp -implicitDefEqProofs only [hb, go_sem, hh, Nat.reduceAdd, Nat.reduceMul, Nat.reduceLeDiff, Nat.reduceEqDiff, reduceCtorEq, Nat.reduceSub, Int.reduceNeg, Nat.reduceMod, Nat.reduceBEq, Nat.reduceLT] <;> try simp only [qz] at hb))
   all_goals first | rfl | omega | skip
   rw [← ht, Mp, dif_pos h0]
  ·have h1 : (t.size : Int) > 0 := by omega
   have hbr := A3 t 0
   have hr : Mp l t = bif l.getD (AB t 0).toNat false then Mp l (t.extract 1 t.size) else t := by
    rw [Mp, dif_neg h0]
   have e1 : Int.toNat 0 = 0 := by omega
   cases hb : l.getD (AB t (Int.toNat 0)).toNat false
   ·simp -implicitDefEqProofs only [h1, hb, go_sem, hh, Nat.reduceAdd, Nat.reduceMul, Nat.reduceLeDiff, Nat.reduceEqDiff, reduceCtorEq, Nat.reduceSub, Int.reduceNeg, Nat.reduceMod, Nat.reduceBEq, Nat.reduceLT]
    with_reducible repeat' (first | apply ai | intro _ | ((first | apply s1 | apply s2 | apply s3 | apply s4) <;> intro hb <;> simp -implicitDefEqProofs only [hb, go_sem, hh, Nat.reduceAdd, Nat.reduceMul, Nat.reduceLeDiff, Nat.reduceEqDiff, reduceCtorEq, Nat.reduceSub, Int.reduceNeg, Nat.reduceMod, Nat.reduceBEq, Nat.reduceLT] <;> try simp only [qz] at hb))
    all_goals first | rfl | omega | skip
    all_goals rw [e1] at *
    all_goals first | omega | (rw [← ht, hr, hb]; rfl)
   ·simp -implicitDefEqProofs only [h1, hb, go_sem, hh, Nat.reduceAdd, Nat.reduceMul, Nat.reduceLeDiff, Nat.reduceEqDiff, reduceCtorEq, Nat.reduceSub, Int.reduceNeg, Nat.reduceMod, Nat.reduceBEq, Nat.reduceLT]
    with_reducible repeat' (first | apply ai | intro _ | ((first | apply s1 | apply s2 | apply s3 | apply s4) <;> intro hb <;> simp -implicitDefEqProofs only [hb, go_sem, hh, Nat.reduceAdd, Nat.reduceMul, Nat.reduceLeDiff, Nat.reduceEqDiff, reduceCtorEq, Nat.reduceSub, Int.reduceNeg, Nat.reduceMod, Nat.reduceBEq, Nat.reduceLT] <;> try simp only [qz] at hb))
    all_goals first | rfl | omega | skip
    all_goals rw [e1] at *
    all_goals first | omega | skip
    refine ⟨⟨t.extract 1 t.size, ?_, ?_⟩, ?_, ?_⟩
    ·rw [← ht, hr, hb]; rfl
    ·rw [ByteArray.size_extract]; omega
    ·show (t.extract 1 t.size).size < t.size
     rw [ByteArray.size_extract]; omega
    ·simp -implicitDefEqProofs only [go_sem, hh, Nat.reduceAdd, Nat.reduceMul, Nat.reduceLeDiff, Nat.reduceEqDiff, reduceCtorEq, Nat.reduceSub, Int.reduceNeg, Nat.reduceMod, Nat.reduceBEq, Nat.reduceLT]
     try simp [e1]
end
def fa : Ct := At (lc Av l0) (fun p => p.1.size ≤ 1000 ∧ ∀ j, j < p.1.size → AB p.1 j < 128) (fun p => .tup [.agg (bx (Fs p.1 p.1.size)), .t (.v (.bool true))])
section
attribute [local go_sem] XT Qo Qj
theorem mE {G : Gt} (hG : Aj G) : Gd G 157 (AA 0 fa) := by
 refine gr (fn := Tryz.f157) (n := 1) rfl hG ?_ (hs := fun _ _ => .tup _ (by intro c hc; simp only [List.mem_cons, List.not_mem_nil, or_false] at hc; rcases hc with rfl | rfl <;> first | exact .v _ | exact .agg _ (by intro c hc; simp only [bx, List.mem_map] at hc; obtain ⟨b, _, rfl⟩ := hc; exact .v _)))
 rintro ⟨cs, ⟨⟩⟩ hpre
 simp -implicitDefEqProofs only [Tryz.f157, go_sem, Nat.reduceAdd, Nat.reduceMul, Nat.reduceLeDiff, Nat.reduceEqDiff, reduceCtorEq, Nat.reduceSub, Int.reduceNeg, Nat.reduceMod, Nat.reduceBEq, Nat.reduceLT] at hpre ⊢
 with_reducible repeat' (first | apply ai | intro _ | ((first | apply s1 | apply s2 | apply s3 | apply s4) <;> intro hb <;> simp -implicitDefEqProofs only [hb, go_sem, Nat.reduceAdd, Nat.reduceMul, Nat.reduceLeDiff, Nat.reduceEqDiff, reduceCtorEq, Nat.reduceSub, Int.reduceNeg, Nat.reduceMod, Nat.reduceBEq, Nat.reduceLT] <;> try simp only [qz] at hb))
 all_goals first | rfl | omega | skip
 refine AE [] (ι := {i : Nat // i ≤ cs.size}) (fun p => ⟨[(0, .t (.v (.string cs))), (2, .pb 1002 0), (4, .t (.v (.int .i64 p.1)))], [(1002, some (.box (bx (Fs cs p.1))))]⟩) (fun p => cs.size - p.1) ⟨0, Nat.zero_le _⟩ rfl ?_ ?_
 ·simp -implicitDefEqProofs only [go_sem, Nat.reduceAdd, Nat.reduceMul, Nat.reduceLeDiff, Nat.reduceEqDiff, reduceCtorEq, Nat.reduceSub, Int.reduceNeg, Nat.reduceMod, Nat.reduceBEq, Nat.reduceLT]
  exact ⟨rfl, rfl⟩
 ·rintro ⟨i, hi⟩
  have hbr := A3 cs i
  have hlen := KE cs i
  by_cases hlt : (i : Int) < cs.size
  ·have h128 := hpre.2 i (by omega)
   have h1 : ¬ AB cs (i : Int).toNat ≥ 128 := by rw [tn]; omega
   have h2 : (AB cs (i : Int).toNat).toNat * 1 < (Fs cs i).length := by rw [tn]; omega
   simp -implicitDefEqProofs only [hlt, h1, Nat.zero_add, go_sem, Nat.reduceAdd, Nat.reduceMul, Nat.reduceLeDiff, Nat.reduceEqDiff, reduceCtorEq, Nat.reduceSub, Int.reduceNeg, Nat.reduceMod, Nat.reduceBEq, Nat.reduceLT]
   with_reducible repeat' (first | apply ai | intro _ | ((first | apply s1 | apply s2 | apply s3 | apply s4) <;> intro hb <;> simp -implicitDefEqProofs only [hb, go_sem, Nat.reduceAdd, Nat.reduceMul, Nat.reduceLeDiff, Nat.reduceEqDiff, reduceCtorEq, Nat.reduceSub, Int.reduceNeg, Nat.reduceMod, Nat.reduceBEq, Nat.reduceLT] <;> try simp only [qz] at hb))
   all_goals (try rw [tn])
   all_goals first | rfl | omega | (simp only [JR, hlen]; omega) | skip
   refine ⟨⟨i + 1, by omega⟩, by dsimp only; omega, ?_⟩
   simp -implicitDefEqProofs only [go_sem, Nat.reduceAdd, Nat.reduceMul, Nat.reduceLeDiff, Nat.reduceEqDiff, reduceCtorEq, Nat.reduceSub, Int.reduceNeg, Nat.reduceMod, Nat.reduceBEq, Nat.reduceLT]
   refine ⟨by simp, ?_⟩
   refine congrArg Ob.box ?_
   rw [Fs]
   simp only [tn, Nat.mul_one]
   exact fB (by omega)
  ·have e1 : i = cs.size := by omega
   have e2 : List.drop 256 (bx (Fs cs i)) = [] := List.drop_eq_nil_of_le (by rw [JR, hlen]; exact Nat.le_refl _)
   have e3 : decide (256 ≤ 256) = true := rfl
   simp -implicitDefEqProofs only [hlt, Y4 hlen, JR, hlen, e2, List.append_nil, Nat.zero_add, e3, cond_true, go_sem, Nat.reduceAdd, Nat.reduceMul, Nat.reduceLeDiff, Nat.reduceEqDiff, reduceCtorEq, Nat.reduceSub, Int.reduceNeg, Nat.reduceMod, Nat.reduceBEq, Nat.reduceLT]
   subst e1
   with_reducible repeat' (first | apply ai | intro _ | ((first | apply s1 | apply s2 | apply s3 | apply s4) <;> intro hb <;> simp -implicitDefEqProofs only [hb, go_sem, Nat.reduceAdd, Nat.reduceMul, Nat.reduceLeDiff, Nat.reduceEqDiff, reduceCtorEq, Nat.reduceSub, Int.reduceNeg, Nat.reduceMod, Nat.reduceBEq, Nat.reduceLT] <;> try simp only [qz] at hb))
   all_goals first
    | rfl
    | omega
    | exact Ql
    | (rw [Qk]; exact .nil)
    | (rw [Qm]; simp; done)
    | skip
   all_goals trace_state
end
def fJ : Ct := At (lc Av (lc Av l0)) (fun p => p.2.1.size ≤ 1000 ∧ 2 ≤ p.2.1.size ∧ p.1.size ≤ 2000000 ∧ ∀ j, j < p.2.1.size → AB p.2.1 j < 128) (fun p => .t (.v (.string (Mp (Fs p.2.1 p.2.1.size) (Iz (Fs p.2.1 p.2.1.size) p.1)))))
section
attribute [local go_sem] fa fb fc XT Qo Qj NI NF IS IT
theorem li {G : Gt} (hG : Aj G) (hh : G.e 157 = AA 0 fa ∧ G.e 158 = AA 0 fb ∧ G.e 159 = AA 0 fc) : Gd G 129 (AA 0 fJ) := by
 refine gr (fn := Tryz.f129) (n := 2) rfl hG ?_
 rintro ⟨s, cs, ⟨⟩⟩ hpre
 simp -implicitDefEqProofs only [Tryz.f129, go_sem, hh, Nat.reduceAdd, Nat.reduceMul, Nat.reduceLeDiff, Nat.reduceEqDiff, reduceCtorEq, Nat.reduceSub, Int.reduceNeg, Nat.reduceMod, Nat.reduceBEq, Nat.reduceLT] at hpre ⊢
 have hc : ¬ cs = ⟨#[]⟩ := by intro e; rw [e] at hpre; exact absurd hpre.2.1 (by decide)
 have h1 : ¬ (cs.size : Int) = 1 := by omega
 have hlen := KE cs cs.size
 have htr : (Iz (Fs cs cs.size) s).size ≤ s.size := XO _ s
 by_cases hs : s = ⟨#[]⟩
 ·simp -implicitDefEqProofs only [hs, go_sem, hh, Nat.reduceAdd, Nat.reduceMul, Nat.reduceLeDiff, Nat.reduceEqDiff, reduceCtorEq, Nat.reduceSub, Int.reduceNeg, Nat.reduceMod, Nat.reduceBEq, Nat.reduceLT]
  with_reducible repeat' (first | apply ai | intro _ | ((first | apply s1 | apply s2 | apply s3 | apply s4) <;> intro hb <;> simp -implicitDefEqProofs only [hb, go_sem, hh, Nat.reduceAdd, Nat.reduceMul, Nat.reduceLeDiff, Nat.reduceEqDiff, reduceCtorEq, Nat.reduceSub, Int.reduceNeg, Nat.reduceMod, Nat.reduceBEq, Nat.reduceLT] <;> try simp only [qz] at hb))
  all_goals first | rfl | omega | skip
  all_goals (rw [Rf, Ra])
 ·simp -implicitDefEqProofs only [hs, hc, h1, K9, UC, NJ, JR, hlen, NF, NI, Qn, List.append_nil, List.nil_append, Nat.zero_add, go_sem, hh, Nat.reduceAdd, Nat.reduceMul, Nat.reduceLeDiff, Nat.reduceEqDiff, reduceCtorEq, Nat.reduceSub, Int.reduceNeg, Nat.reduceMod, Nat.reduceBEq, Nat.reduceLT]
  with_reducible repeat' (first | apply ai | intro _ | ((first | apply s1 | apply s2 | apply s3 | apply s4) <;> intro hb <;> simp -implicitDefEqProofs only [hb, go_sem, hh, Nat.reduceAdd, Nat.reduceMul, Nat.reduceLeDiff, Nat.reduceEqDiff, reduceCtorEq, Nat.reduceSub, Int.reduceNeg, Nat.reduceMod, Nat.reduceBEq, Nat.reduceLT] <;> try simp only [qz] at hb))
  all_goals first | rfl | omega | exact hpre.2.2.2 | exact hpre.2.2.2 _ (by assumption) | skip
  all_goals trace_state
end
theorem dS {s : ByteArray} (h : s.size = 0) : s = ⟨#[]⟩ := by
 have : bl s = [] := List.eq_nil_of_length_eq_zero (by rw [CB]; exact h)
 exact GD this
theorem GE {s : ByteArray} {a b j : Nat} (h : a + j < b) : AB (s.extract a b) j = AB s (a + j) := by
 rw [B5, B5, DQ]
 congr 2
 simp only [List.getD_eq_getElem?_getD]
 rw [List.getElem?_take_of_lt (by omega), List.getElem?_drop]
section
variable {l : List Bool}
theorem XP {s : ByteArray} (h : s.size ≠ 0) : Iz l s = bif l.getD (AB s (s.size - 1)).toNat false then Iz l (s.extract 0 (s.size - 1)) else s := by rw [Iz, dif_neg h]
theorem k9 {s : ByteArray} (h : s.size ≠ 0) : Mp l s = bif l.getD (AB s 0).toNat false then Mp l (s.extract 1 s.size) else s := by rw [Mp, dif_neg h]
theorem Rb {s : ByteArray} (h : ∀ j, j < s.size → l.getD (AB s j).toNat false = true) : Iz l s = ⟨#[]⟩ := by
 by_cases h0 : s.size = 0
 ·rw [dS h0, Rf]
 ·rw [XP h0, h (s.size - 1) (by omega), cond_true]
  refine Rb fun j hj => ?_
  rw [ByteArray.size_extract] at hj
  rw [GE (by omega), Nat.zero_add]
  exact h j (by omega)
termination_by s.size
decreasing_by rw [ByteArray.size_extract]; omega
theorem RZ {s : ByteArray} (h : Mp l s = ⟨#[]⟩) : ∀ j, j < s.size → l.getD (AB s j).toNat false = true := by
 intro j hj
 have h0 : s.size ≠ 0 := by omega
 rw [k9 h0] at h
 cases hb : l.getD (AB s 0).toNat false
 ·rw [hb, cond_false] at h
  rw [h] at hj
  cases hj
 ·rw [hb, cond_true] at h
  by_cases hj0 : j = 0
  ·rw [hj0]; exact hb
  ·have := RZ h (j - 1) (by rw [ByteArray.size_extract]; omega)
   rw [GE (by omega)] at this
   rw [show 1 + (j - 1) = j by omega] at this
   exact this
termination_by s.size
decreasing_by rw [ByteArray.size_extract]; omega
theorem Re {s : ByteArray} (h : ∀ j, j < (Iz l s).size → l.getD (AB (Iz l s) j).toNat false = true) : ∀ j, j < s.size → l.getD (AB s j).toNat false = true := by
 intro j hj
 have h0 : s.size ≠ 0 := by omega
 rw [XP h0] at h
 cases hb : l.getD (AB s (s.size - 1)).toNat false
 ·rw [hb, cond_false] at h
  exact h j hj
 ·rw [hb, cond_true] at h
  by_cases hj0 : j = s.size - 1
  ·rw [hj0]; exact hb
  ·have := Re h j (by rw [ByteArray.size_extract]; omega)
   rw [GE (by omega), Nat.zero_add] at this
   exact this
termination_by s.size
decreasing_by rw [ByteArray.size_extract]; omega
theorem lA (s : ByteArray) : Mp l (Iz l s) = ⟨#[]⟩ ↔ ∀ j, j < s.size → l.getD (AB s j).toNat false = true :=
 ⟨fun h => Re (RZ h), fun h => by rw [Rb h, Ra]⟩
end
def nh : ByteArray := ⟨#[97, 98, 99, 100, 101, 102, 103, 104, 105, 106, 107, 108, 109, 110, 111, 112, 113, 114, 115, 116, 117, 118, 119, 120, 121, 122, 48, 49, 50, 51, 52, 53, 54, 55, 56, 57]⟩
theorem Z9 : ∀ k : Nat, k < 256 → (Fs nh 36).getD k false = ((Nat.ble 97 k && Nat.ble k 122) || (Nat.ble 48 k && Nat.ble k 57)) := by decide +kernel
theorem aA (s : ByteArray) : Mp (Fs nh 36) (Iz (Fs nh 36) s) = ⟨#[]⟩ ↔ ∀ j, j < s.size → Jm (AB s j) := by
 rw [lA]
 refine forall_congr' fun j => imp_congr_right fun _ => ?_
 have h := A3 s j
 rw [Z9 _ (by omega)]
 simp only [Bool.or_eq_true, Bool.and_eq_true, Nat.ble_eq]
 unfold Jm
 omega
theorem O2 (a b : ByteArray) : bl (a ++ b) = bl a ++ bl b := by
 unfold bl; rw [ByteArray.data_append, Array.toList_append]
theorem tj : UInt8.ofNat (AB ⟨#[46]⟩ 0).toNat = 46 := rfl
theorem aB : ∀ j, j < 36 → AB nh j < 128 := by decide +kernel
def fK : Ct := At (lc Av (lc Av l0)) (fun p => p.2.1.size = 1 ∧ p.1.size ≤ 2000000) (fun p => .o true 1 ((Hp p.1 (UInt8.ofNat (AB p.2.1 0).toNat)).map AH))
section
attribute [local go_sem] fd
theorem lj {G : Gt} (hG : Aj G) (hh : G.e 162 = AA 0 fd) : Gd G 130 (AA 0 fK) := by
 refine gr (fn := Tryz.f130) (n := 2) rfl hG ?_ (hs := fun _ _ => .deep _ _)
 rintro ⟨s, sep, ⟨⟩⟩ hpre
 simp -implicitDefEqProofs only [Tryz.f130, go_sem, hh, seval] at hpre ⊢
 with_reducible repeat' (first | apply ai | intro _ | ((first | apply s1 | apply s2 | apply s3 | apply s4) <;> intro hb <;> simp -implicitDefEqProofs only [hb, go_sem, hh, seval] <;> try simp only [qz] at hb))
 all_goals first | rfl | omega | (simp; done) | skip
end
def UT : Ct := At (lc BJ (lc BJ (lc BJ l0))) (fun p => True) (fun p => .t (.v (.bool (BT (p.2.1 ≤ p.1 ∧ p.1 ≤ p.2.2.1)))))
theorem qB {G : Gt} (hG : Aj G) : Gd G 36 (AA 0 UT) := by
 refine gr (fn := Tryz.f36) (n := 3) rfl hG ?_
 rintro ⟨n, a, b, ⟨⟩⟩ hpre
 simp -implicitDefEqProofs only [Tryz.f36, go_sem, seval] at hpre ⊢
 with_reducible repeat' (first | apply ai | intro _ | ((first | apply s1 | apply s2 | apply s3 | apply s4) <;> intro hb <;> simp -implicitDefEqProofs only [hb, go_sem, seval] <;> try simp only [qz] at hb))
 all_goals first | rfl | omega | skip
 all_goals first
  | (rw [BZ]; simp only [*]; done)
  | (rw [BZ]; simp [*])
def fI : Ct := At (lc Av l0) (fun p => p.1.size ≤ 2000000) (fun p => .t (.v (.bool (BT (HI p.1)))))
theorem ld {G : Gt} (hG : Aj G) : Gd G 128 (AA 0 fI) := by
 refine gr (fn := Tryz.f128) (n := 1) rfl hG ?_
 rintro ⟨s, ⟨⟩⟩ hpre
 simp -implicitDefEqProofs only [Tryz.f128, go_sem, seval] at hpre ⊢
 with_reducible repeat' (first | apply ai | intro _ | ((first | apply s1 | apply s2 | apply s3 | apply s4) <;> intro hb <;> simp -implicitDefEqProofs only [hb, go_sem, seval] <;> try simp only [qz] at hb))
 all_goals first | rfl | omega | skip
 refine AE [] (ι := {i : Nat // i ≤ s.size ∧ ∀ j, j < i → 32 ≤ AB s j ∧ AB s j ≤ 126}) (fun p => ⟨[(0, .t (.v (.string s))), (5, .t (.v (.int .i64 s.size))), (6, .t (.v (.int .i64 p.1)))], []⟩) (fun p => s.size - p.1) ⟨0, Nat.zero_le _, fun j hj => absurd hj (Nat.not_lt_zero _)⟩ rfl ?_ ?_
 ·simp -implicitDefEqProofs only [go_sem, seval]
  try simp
 ·rintro ⟨i, hi, hall⟩
  by_cases hlt : (i : Int) < s.size
  ·by_cases h1 : AB s (i : Int).toNat < 32
   ·simp -implicitDefEqProofs only [hlt, h1, go_sem, seval]
    with_reducible repeat' (first | apply ai | intro _ | ((first | apply s1 | apply s2 | apply s3 | apply s4) <;> intro hb <;> simp -implicitDefEqProofs only [hb, go_sem, seval] <;> try simp only [qz] at hb))
    all_goals (try simp only [maxLen, tn] at *)
    all_goals first | rfl | omega | skip
    rw [AQ (fun h => by have := (h.1 i (by omega)).1; omega)]
   ·by_cases h2 : AB s (i : Int).toNat > 126
    ·simp -implicitDefEqProofs only [hlt, h1, h2, go_sem, seval]
     with_reducible repeat' (first | apply ai | intro _ | ((first | apply s1 | apply s2 | apply s3 | apply s4) <;> intro hb <;> simp -implicitDefEqProofs only [hb, go_sem, seval] <;> try simp only [qz] at hb))
     all_goals (try simp only [maxLen, tn] at *)
     all_goals first | rfl | omega | skip
     rw [AQ (fun h => by have := (h.1 i (by omega)).2; omega)]
    ·simp -implicitDefEqProofs only [hlt, h1, h2, go_sem, seval]
     with_reducible repeat' (first | apply ai | intro _ | ((first | apply s1 | apply s2 | apply s3 | apply s4) <;> intro hb <;> simp -implicitDefEqProofs only [hb, go_sem, seval] <;> try simp only [qz] at hb))
     all_goals (try simp only [maxLen, tn] at *)
     all_goals first | rfl | omega | skip
     refine ⟨⟨i + 1, by omega, fun j hj => ?_⟩, by dsimp only; omega, ?_⟩
     ·by_cases e : j = i
      ·subst e; omega
      ·exact hall j (by omega)
     ·simp -implicitDefEqProofs only [go_sem, seval]
      try simp
  ·simp -implicitDefEqProofs only [hlt, go_sem, seval]
   with_reducible repeat' (first | apply ai | intro _ | ((first | apply s1 | apply s2 | apply s3 | apply s4) <;> intro hb <;> simp -implicitDefEqProofs only [hb, go_sem, seval] <;> try simp only [qz] at hb))
   all_goals (try simp only [maxLen, tn] at *)
   all_goals first | rfl | omega | skip
   rw [← BZ, AT]
   exact ⟨fun h => ⟨fun j hj => hall j (by omega), by omega⟩, fun h => by have := h.2; omega⟩
def pB : Ct := At (lc Av l0) (fun p => True) (fun p => .t (.v (.bool (BT (QQ p.1)))))
section
attribute [local go_sem] UT fJ Ac Ab
theorem qj {G : Gt} (hG : Aj G) (hh : G.e 36 = AA 0 UT ∧ G.e 129 = AA 0 fJ) : Gd G 83 (AA 0 pB) := by
 refine gr (fn := Tryz.f83) (n := 1) rfl hG ?_
 rintro ⟨s, ⟨⟩⟩ hpre
 simp -implicitDefEqProofs only [Tryz.f83, go_sem, hh, seval] at hpre ⊢
 with_reducible repeat' (first | apply ai | intro _ | ((first | apply s1 | apply s2 | apply s3 | apply s4) <;> intro hb <;> simp -implicitDefEqProofs only [hb, go_sem, hh, seval] <;> try simp only [qz] at hb))
 all_goals first | rfl | omega | exact aB _ (by assumption) | (simp; done) | skip
 ·show T.v (.bool (decide (Mp (Fs nh 36) (Iz (Fs nh 36) s) = ⟨#[]⟩))) = _
  rw [← BZ]
  refine congrArg (fun b => T.v (.bool b)) (AT ((aA s).trans ?_))
  exact ⟨fun h => ⟨h, by omega, by omega⟩, fun h => h.1⟩
 ·rw [AQ (fun h => hb ⟨by have := h.2.1; omega, by have := h.2.2; omega⟩)]
end
def Y8 : Ct := At (lc Av l0) (fun p => p.1.size ≤ 2000000) (fun p => .t (.v (.bool (BT (Di p.1)))))
section
attribute [local go_sem] fK pB tj BN AY lm Bool.not_true Bool.not_false
theorem ql {G : Gt} (hG : Aj G) (hh : G.e 130 = AA 0 fK ∧ G.e 83 = AA 0 pB) : Gd G 84 (AA 0 Y8) := by
 refine gr (fn := Tryz.f84) (n := 1) rfl hG ?_
 rintro ⟨s, ⟨⟩⟩ hpre
 simp -implicitDefEqProofs only [Tryz.f84, go_sem, hh, seval] at hpre ⊢
 with_reducible repeat' (first | apply ai | intro _ | ((first | apply s1 | apply s2 | apply s3 | apply s4) <;> intro hb <;> simp -implicitDefEqProofs only [hb, go_sem, hh, seval] <;> try simp only [qz] at hb))
 all_goals first | rfl | omega | skip
 have hlen := Fg s 46
 have hcnt := UY s 46
 refine AE [] (ι := {i : Nat // i ≤ (Hp s 46).length ∧ ∀ j, j < i → QQ ((Hp s 46).getD j default)}) (fun p => ⟨[(3, .h 1007), (8, .h 1007), (9, .t (.v (.int .i64 (Hp s 46).length))), (10, .t (.v (.int .i64 p.1)))], [(1007, some (.arr true 1 ((Hp s 46).map AH)))]⟩) (fun p => (Hp s 46).length - p.1) ⟨0, Nat.zero_le _, fun j hj => absurd hj (Nat.not_lt_zero _)⟩ rfl ?_ ?_
 ·simp -implicitDefEqProofs only [go_sem, hh, seval]
  try simp
 ·rintro ⟨i, hi, hall⟩
  by_cases hlt : (i : Int) < (Hp s 46).length
  ·cases hb : BT (QQ ((Hp s 46).getD (i : Int).toNat default))
   ·simp -implicitDefEqProofs only [hlt, hb, go_sem, hh, seval]
    with_reducible repeat' (first | apply ai | intro _ | ((first | apply s1 | apply s2 | apply s3 | apply s4) <;> intro hb <;> simp -implicitDefEqProofs only [hb, go_sem, hh, seval] <;> try simp only [qz] at hb))
    all_goals (try simp only [maxLen, tn, Ab] at *)
    all_goals first | rfl | omega | skip
    rw [AQ (fun h => hb (((IY s).1 h).1 _ (AC (by omega))))]
   ·simp -implicitDefEqProofs only [hlt, hb, go_sem, hh, seval]
    with_reducible repeat' (first | apply ai | intro _ | ((first | apply s1 | apply s2 | apply s3 | apply s4) <;> intro hb <;> simp -implicitDefEqProofs only [hb, go_sem, hh, seval] <;> try simp only [qz] at hb))
    all_goals (try simp only [maxLen, tn, Ac] at *)
    all_goals first | rfl | omega | skip
    refine ⟨⟨i + 1, by omega, Cu hall hb⟩, by dsimp only; omega, ?_⟩
    simp -implicitDefEqProofs only [go_sem, hh, seval]
    try simp
  ·simp -implicitDefEqProofs only [hlt, go_sem, hh, seval]
   with_reducible repeat' (first | apply ai | intro _ | ((first | apply s1 | apply s2 | apply s3 | apply s4) <;> intro hb <;> simp -implicitDefEqProofs only [hb, go_sem, hh, seval] <;> try simp only [qz] at hb))
   all_goals first | rfl | omega | skip
   rw [← BZ, AT (IY s)]
   refine congrArg (fun b => T.v (.bool b)) (AT ?_)
   exact ⟨fun h => ⟨BC fun j hj => hall j (by omega), by omega⟩, fun h => by have := h.2; omega⟩
end
def Y7 : Ct := At (lc Dd.ag l0) (fun p => p.1.domain.size ≤ 2000000) (fun p => .t (.v (.bool (BT (BK p.1)))))
section
attribute [local go_sem] pB Y8
theorem qC {G : Gt} (hG : Aj G) (hh : G.e 83 = AA 0 pB ∧ G.e 84 = AA 0 Y8) : Gd G 37 (AA 0 Y7) := by
 refine gr (fn := Tryz.f37) (n := 1) rfl hG ?_
 rintro ⟨a, ⟨⟩⟩ hpre
 simp -implicitDefEqProofs only [Tryz.f37, go_sem, hh, seval] at hpre ⊢
 with_reducible repeat' (first | apply ai | intro _ | ((first | apply s1 | apply s2 | apply s3 | apply s4) <;> intro hb <;> simp -implicitDefEqProofs only [hb, go_sem, hh, seval] <;> try simp only [qz] at hb))
 all_goals (try simp only [Ac, Ab] at *)
 all_goals first | rfl | omega | skip
 ·refine congrArg (fun b => T.v (.bool b)) (AT ⟨fun h => ⟨by assumption, h⟩, fun h => h.2⟩)
 ·rw [AQ (fun h => absurd h.1 (by assumption))]
end
def tO : Ct := At (lc Dd.ag l0) (fun p => True) (fun p => .t (.v (.bool (BT (AU p.1)))))
theorem qE {G : Gt} (hG : Aj G) : Gd G 41 (AA 0 tO) := by
 refine gr (fn := Tryz.f41) (n := 1) rfl hG ?_
 rintro ⟨a, ⟨⟩⟩ hpre
 simp -implicitDefEqProofs only [Tryz.f41, go_sem, seval] at hpre ⊢
 with_reducible repeat' (first | apply ai | intro _ | ((first | apply s1 | apply s2 | apply s3 | apply s4) <;> intro hb <;> simp -implicitDefEqProofs only [hb, go_sem, seval] <;> try simp only [qz] at hb))
 all_goals first | rfl | omega | skip
 ·unfold AU
  rw [BZ]
  by_cases h1 : a.user = ⟨#[]⟩ <;> by_cases h2 : a.domain = ⟨#[]⟩ <;> simp [h1, h2]
def pA : Ct := At (lc Dd.ag l0) (fun p => p.1.domain.size ≤ 2000000) (fun p => .t (.v (.bool (BT (BK p.1 ∨ AU p.1)))))
section
attribute [local go_sem] Y7 tO
theorem qZ {G : Gt} (hG : Aj G) (hh : G.e 37 = AA 0 Y7 ∧ G.e 41 = AA 0 tO) : Gd G 80 (AA 0 pA) := by
 refine gr (fn := Tryz.f80) (n := 1) rfl hG ?_
 rintro ⟨a, ⟨⟩⟩ hpre
 simp -implicitDefEqProofs only [Tryz.f80, go_sem, hh, seval] at hpre ⊢
 with_reducible repeat' (first | apply ai | intro _ | ((first | apply s1 | apply s2 | apply s3 | apply s4) <;> intro hb <;> simp -implicitDefEqProofs only [hb, go_sem, hh, seval] <;> try simp only [qz] at hb))
 all_goals (try simp only [Ac, Ab] at *)
 all_goals first | rfl | omega | skip
 ·rw [Aq (.inr (by assumption))]
 ·refine congrArg (fun b => T.v (.bool b)) (AT ⟨fun h => .inl h, fun h => h.resolve_right (by assumption)⟩)
end
namespace Eo
variable {α : Type} (E : Eo α)
def apD : AV → Option α
 | .t (.rop c) => E.dec c
 | _ => none
def ap : AD α where
 enc a := .t (.rop (E.enc a))
 dec := E.apD
 ed := fun a => E.ed a
 de := fun x a h => by
  unfold apD at h
  split at h
  ·rw [E.de _ _ h]
  ·cases h
end Eo
noncomputable def BF {α : Type} (p : α → Prop) : Nat → List α → Int
 | _, [] => -1
 | k, x :: t => bif BT (p x) then k else BF p (k + 1) t
theorem Dn {α : Type} [Inhabited α] {p : α → Prop} {xs : List α} {i : Nat} (h : i < xs.length) (ha : p (xs.getD i default)) : BF p i (xs.drop i) = i := by
 rw [AW h, BF, Aq ha]; rfl
theorem E8 {α : Type} [Inhabited α] {p : α → Prop} {xs : List α} {i : Nat} (h : i < xs.length) (ha : ¬ p (xs.getD i default)) : BF p i (xs.drop i) = BF p (i + 1) (xs.drop (i + 1)) := by
 rw [AW h, BF, AQ ha]; rfl
theorem Dm {α : Type} {p : α → Prop} {xs : List α} {i : Nat} (h : xs.length ≤ i) : BF p i (xs.drop i) = -1 := by
 rw [List.drop_eq_nil_of_le h, BF]
theorem Ee {α : Type} {p : α → Prop} : ∀ (xs : List α) (k : Nat), 0 ≤ BF p k xs ↔ ∃ x ∈ xs, p x
 | [], k => by simp [BF]
 | x :: t, k => by
   rw [BF]
   by_cases h : p x
   ·rw [Aq h, cond_true]
    exact ⟨fun _ => ⟨x, by simp, h⟩, fun _ => by omega⟩
   ·rw [AQ h, cond_false, Ee t (k + 1)]
    simp [h]
inductive Df where
 | line
 | dom
def Df.enc : Df → AV
 | .line  => .t (.fn 127 [])
 | .dom  => .t (.fn 132 [])
def Df.dec : AV → Option Df
 | .t (.fn 127 []) => some (.line )
 | .t (.fn 132 []) => some (.dom )
 | _ => none
def Df.sem : Df → ByteArray → Prop
 | .line , x => ¬ HI x
 | .dom , x => ¬ Di x
def Df.pre : Df → ByteArray → Prop
 | .line , x => x.size ≤ 2000000
 | .dom , x => x.size ≤ 2000000
def Ku : AD Df where
 enc := Df.enc
 dec := Df.dec
 ed := fun f => by cases f <;> rfl
 de := fun x f h => by
  unfold Df.dec at h
  split at h <;> cases h <;> rfl
theorem D1  : Ku.dec (.t (.fn 127 [])) = some (.line ) := rfl
theorem D3  : Ku.enc (.line ) = .t (.fn 127 []) := rfl
theorem D2  : Ku.dec (.t (.fn 132 [])) = some (.dom ) := rfl
theorem D4  : Ku.enc (.dom ) = .t (.fn 132 []) := rfl
def fH : Ct := At (lc Av l0) (fun p => p.1.size ≤ 2000000) (fun p => .t (.v (.bool (BT (¬ HI p.1)))))
section
attribute [local go_sem] fI Bool.not_true Bool.not_false DB Fp
theorem la {G : Gt} (hG : Aj G) (hh : G.e 128 = AA 0 fI) : Gd G 127 (AA 0 fH) := by
 refine gr (fn := Tryz.f127) (n := 1) rfl hG ?_
 rintro ⟨x, ⟨⟩⟩ hpre
 simp -implicitDefEqProofs only [Tryz.f127, go_sem, hh, seval] at hpre ⊢
 with_reducible repeat' (first | apply ai | intro _ | ((first | apply s1 | apply s2 | apply s3 | apply s4) <;> intro hb <;> simp -implicitDefEqProofs only [hb, go_sem, hh, seval] <;> try simp only [qz] at hb))
 all_goals first | rfl | omega | exact hpre | skip
 all_goals (try (simp only [Ie]; done))
 all_goals first | rfl | (rw [BZ]; done) | (rw [BZ, decide_eq_decide.2]; simp [C3]; done) | (rw [BZ]; simp [C3]; done)
end
def fL : Ct := At (lc Av l0) (fun p => p.1.size ≤ 2000000) (fun p => .t (.v (.bool (BT (¬ Di p.1)))))
section
attribute [local go_sem] Y8 Bool.not_true Bool.not_false DB Fp
theorem ln {G : Gt} (hG : Aj G) (hh : G.e 84 = AA 0 Y8) : Gd G 132 (AA 0 fL) := by
 refine gr (fn := Tryz.f132) (n := 1) rfl hG ?_
 rintro ⟨x, ⟨⟩⟩ hpre
 simp -implicitDefEqProofs only [Tryz.f132, go_sem, hh, seval] at hpre ⊢
 with_reducible repeat' (first | apply ai | intro _ | ((first | apply s1 | apply s2 | apply s3 | apply s4) <;> intro hb <;> simp -implicitDefEqProofs only [hb, go_sem, hh, seval] <;> try simp only [qz] at hb))
 all_goals first | rfl | omega | exact hpre | skip
 all_goals (try (simp only [Ie]; done))
 all_goals first | rfl | (rw [BZ]; done) | (rw [BZ, decide_eq_decide.2]; simp [C3]; done) | (rw [BZ]; simp [C3]; done)
end
def fZ : Ct := At (lc Al.asl (lc Ku l0)) (fun p => ∀ x ∈ p.1, p.2.1.pre x) (fun p => .t (.v (.int .i64 (BF p.2.1.sem 0 p.1))))
section
attribute [local go_sem] fH fL Bool.not_true Bool.not_false DB Fp D1 D3 D2 D4
theorem mD {G : Gt} (hG : Aj G) (hh : G.e 127 = AA 0 fH ∧ G.e 132 = AA 0 fL) : Gd G 154 (AA 0 fZ) := by
 refine gr (fn := Tryz.f154) (n := 2) rfl hG ?_
 rintro ⟨xs, f, ⟨⟩⟩ hpre
 have hs := hpre
 dsimp only at hs ⊢
 cases f with
 | line  =>
   simp -implicitDefEqProofs only [Tryz.f154, go_sem, hh, seval]
   with_reducible repeat' (first | apply ai | intro _ | ((first | apply s1 | apply s2 | apply s3 | apply s4) <;> intro hb <;> simp -implicitDefEqProofs only [hb, go_sem, hh, seval] <;> try simp only [qz] at hb))
   all_goals first | rfl | omega | skip
   refine AE [] (ι := {i : Nat // i ≤ xs.length ∧ BF (Df.sem (.line )) 0 xs = BF (Df.sem (.line )) i (xs.drop i)}) (fun p => ⟨[(0, .t (.sl 1 (xs.map AH))), (1, .t (.fn 127 [])), (7, .t (.v (.int .i64 xs.length))), (8, .t (.v (.int .i64 p.1)))], []⟩) (fun p => xs.length - p.1) ⟨0, Nat.zero_le _, rfl⟩ rfl ?_ ?_
   ·simp -implicitDefEqProofs only [go_sem, hh, seval]
    try simp
   ·rintro ⟨i, hi, hix⟩
    by_cases hlt : (i : Int) < xs.length
    ·have hm : xs.getD (i : Int).toNat default ∈ xs := AC (by omega)
     have hsz := hs _ hm
     cases hb : BT (¬ HI (xs.getD (i : Int).toNat default))
     ·have hq := hb
      simp -implicitDefEqProofs only [hlt, hq, go_sem, hh, seval]
      with_reducible repeat' (first | apply ai | intro _ | ((first | apply s1 | apply s2 | apply s3 | apply s4) <;> intro hb <;> simp -implicitDefEqProofs only [hb, go_sem, hh, seval] <;> try simp only [qz] at hb))
      all_goals (try simp only [maxLen] at *)
      all_goals first | rfl | omega | with_reducible assumption | exact hsz | exact hsz.1 | exact hsz.2 | exact hsz.2 _ (by assumption) | exact hsz.2.1 | exact hsz.2.2.1 | exact hsz.2.2.2 | trivial | skip
      rw [Ab, tn] at hb
      refine ⟨⟨i + 1, by omega, ?_⟩, by dsimp only; omega, ?_⟩
      ·rw [hix, E8 (p := Df.sem (.line )) (by omega) hb]
      ·simp -implicitDefEqProofs only [go_sem, hh, seval]
       try simp
     ·have hq := hb
      simp -implicitDefEqProofs only [hlt, hq, go_sem, hh, seval]
      with_reducible repeat' (first | apply ai | intro _ | ((first | apply s1 | apply s2 | apply s3 | apply s4) <;> intro hb <;> simp -implicitDefEqProofs only [hb, go_sem, hh, seval] <;> try simp only [qz] at hb))
      all_goals (try simp only [maxLen] at *)
      all_goals first | rfl | omega | with_reducible assumption | exact hsz | exact hsz.1 | exact hsz.2 | exact hsz.2 _ (by assumption) | exact hsz.2.1 | exact hsz.2.2.1 | exact hsz.2.2.2 | trivial | skip
      rw [Ac, tn] at hb
      rw [hix, Dn (p := Df.sem (.line )) (by omega) hb]
    ·simp -implicitDefEqProofs only [hlt, go_sem, hh, seval]
     with_reducible repeat' (first | apply ai | intro _ | ((first | apply s1 | apply s2 | apply s3 | apply s4) <;> intro hb <;> simp -implicitDefEqProofs only [hb, go_sem, hh, seval] <;> try simp only [qz] at hb))
     all_goals first | rfl | omega | skip
     all_goals (rw [hix, Dm (by omega)])
 | dom  =>
   simp -implicitDefEqProofs only [Tryz.f154, go_sem, hh, seval]
   with_reducible repeat' (first | apply ai | intro _ | ((first | apply s1 | apply s2 | apply s3 | apply s4) <;> intro hb <;> simp -implicitDefEqProofs only [hb, go_sem, hh, seval] <;> try simp only [qz] at hb))
   all_goals first | rfl | omega | skip
   refine AE [] (ι := {i : Nat // i ≤ xs.length ∧ BF (Df.sem (.dom )) 0 xs = BF (Df.sem (.dom )) i (xs.drop i)}) (fun p => ⟨[(0, .t (.sl 1 (xs.map AH))), (1, .t (.fn 132 [])), (7, .t (.v (.int .i64 xs.length))), (8, .t (.v (.int .i64 p.1)))], []⟩) (fun p => xs.length - p.1) ⟨0, Nat.zero_le _, rfl⟩ rfl ?_ ?_
   ·simp -implicitDefEqProofs only [go_sem, hh, seval]
    try simp
   ·rintro ⟨i, hi, hix⟩
    by_cases hlt : (i : Int) < xs.length
    ·have hm : xs.getD (i : Int).toNat default ∈ xs := AC (by omega)
     have hsz := hs _ hm
     cases hb : BT (¬ Di (xs.getD (i : Int).toNat default))
     ·have hq := hb
      simp -implicitDefEqProofs only [hlt, hq, go_sem, hh, seval]
      with_reducible repeat' (first | apply ai | intro _ | ((first | apply s1 | apply s2 | apply s3 | apply s4) <;> intro hb <;> simp -implicitDefEqProofs only [hb, go_sem, hh, seval] <;> try simp only [qz] at hb))
      all_goals (try simp only [maxLen] at *)
      all_goals first | rfl | omega | with_reducible assumption | exact hsz | exact hsz.1 | exact hsz.2 | exact hsz.2 _ (by assumption) | exact hsz.2.1 | exact hsz.2.2.1 | exact hsz.2.2.2 | trivial | skip
      rw [Ab, tn] at hb
      refine ⟨⟨i + 1, by omega, ?_⟩, by dsimp only; omega, ?_⟩
      ·rw [hix, E8 (p := Df.sem (.dom )) (by omega) hb]
      ·simp -implicitDefEqProofs only [go_sem, hh, seval]
       try simp
     ·have hq := hb
      simp -implicitDefEqProofs only [hlt, hq, go_sem, hh, seval]
      with_reducible repeat' (first | apply ai | intro _ | ((first | apply s1 | apply s2 | apply s3 | apply s4) <;> intro hb <;> simp -implicitDefEqProofs only [hb, go_sem, hh, seval] <;> try simp only [qz] at hb))
      all_goals (try simp only [maxLen] at *)
      all_goals first | rfl | omega | with_reducible assumption | exact hsz | exact hsz.1 | exact hsz.2 | exact hsz.2 _ (by assumption) | exact hsz.2.1 | exact hsz.2.2.1 | exact hsz.2.2.2 | trivial | skip
      rw [Ac, tn] at hb
      rw [hix, Dn (p := Df.sem (.dom )) (by omega) hb]
    ·simp -implicitDefEqProofs only [hlt, go_sem, hh, seval]
     with_reducible repeat' (first | apply ai | intro _ | ((first | apply s1 | apply s2 | apply s3 | apply s4) <;> intro hb <;> simp -implicitDefEqProofs only [hb, go_sem, hh, seval] <;> try simp only [qz] at hb))
     all_goals first | rfl | omega | skip
     all_goals (rw [hix, Dm (by omega)])
end
def UI : Ct := At (lc Al.asl (lc Ku l0)) (fun p => ∀ x ∈ p.1, p.2.1.pre x) (fun p => .t (.v (.bool (BT (∃ x ∈ p.1, p.2.1.sem x)))))
section
attribute [local go_sem] fZ Bool.not_true Bool.not_false DB Fp D1 D3 D2 D4
theorem lZ {G : Gt} (hG : Aj G) (hh : G.e 154 = AA 0 fZ) : Gd G 126 (AA 0 UI) := by
 refine gr (fn := Tryz.f126) (n := 2) rfl hG ?_
 rintro ⟨xs, f, ⟨⟩⟩ hpre
 dsimp only at hpre ⊢
 cases f
 all_goals
  simp -implicitDefEqProofs only [Tryz.f126, go_sem, hh, seval]
  with_reducible repeat' (first | apply ai | intro _ | ((first | apply s1 | apply s2 | apply s3 | apply s4) <;> intro hb <;> simp -implicitDefEqProofs only [hb, go_sem, hh, seval] <;> try simp only [qz] at hb))
  all_goals first | rfl | omega | exact hpre | exact hpre _ (by assumption) | skip
  all_goals (rw [← AT (Ee _ 0)]; rw [BZ])
end
def gu : Ct := At (lc Al.asl l0) (fun p => ∀ s ∈ p.1, s.size ≤ 2000000) (fun p => .t (.v (.bool (BT (CU p.1)))))
section
attribute [local go_sem] UI Bool.not_true Bool.not_false DB Fp D1 D3 D2 D4
theorem qi {G : Gt} (hG : Aj G) (hh : G.e 126 = AA 0 UI) : Gd G 82 (AA 0 gu) := by
 refine gr (fn := Tryz.f82) (n := 1) rfl hG ?_
 rintro ⟨xs, ⟨⟩⟩ hpre
 simp -implicitDefEqProofs only [Tryz.f82, go_sem, hh, seval] at hpre ⊢
 with_reducible repeat' (first | apply ai | intro _ | ((first | apply s1 | apply s2 | apply s3 | apply s4) <;> intro hb <;> simp -implicitDefEqProofs only [hb, go_sem, hh, seval] <;> try simp only [qz] at hb))
 all_goals first | rfl | omega | exact hpre | exact hpre _ (by assumption) | exact trivial | skip
 ·rw [Ie]
  refine congrArg (fun b => T.v (.bool b)) (AT ?_)
  constructor
  ·intro h
   exact ⟨fun s hs => Classical.byContradiction fun q => h ⟨s, hs, q⟩, by omega⟩
  ·rintro h ⟨s, hs, q⟩
   exact q (h.1 s hs)
 ·rw [AQ (fun h => by have := h.2; omega)]
end
theorem vA : Maps.Keyed Tryz.prog 27 := Maps.Keyed.of_law (deep_law_laid (m := 5) (by kernel_rfl) (by decide) (Nat.lt_of_lt_of_le (Nat.lt_succ_self 27) (Nat.le_of_ble_eq_true (by kernel_rfl))) (by kernel_rfl) (by kernel_rfl))
noncomputable def Se : Array Field := match Tryz.prog.underlying 27 with | some (.struct fs) => fs | _ => #[]
theorem ul : Tryz.prog.underlying 27 = some (.struct Se) := by kernel_rfl
theorem u9 : Tryz.prog.underlying 9 = some .string := by kernel_rfl
theorem jM : (Se.toList.map fun f => (f.type, f.offset)) = [(9, 0), (9, 1)] := by kernel_rfl
theorem jN : Se.all (·.name != "_") = true := by kernel_rfl
theorem vC : Tryz.prog.cellsOf 9 = 1 := by kernel_rfl
theorem pF : Tryz.prog.cellsOf 27 = 2 := by kernel_rfl
theorem tv : Tryz.prog.keyType 27 = true := by kernel_rfl
theorem uO : ∃ n, Tryz.prog.types.size + 1 = n + 2 := ⟨Tryz.prog.types.size - 1, by
 have : 27 < Tryz.prog.types.size := Nat.lt_of_lt_of_le (Nat.lt_succ_self 27) (Nat.le_of_ble_eq_true (by kernel_rfl))
 omega⟩
theorem u4 (d : Nat) {s : ByteArray} (h : s.size ≤ maxLen) : Tryz.prog.keyLits (d + 1) 9 [.string s] = some [.string s.data.toList] := by
 simp only [Program.keyLits, u9, if_pos h]
theorem rB {k : MK} (h : k.ok (some 2)) : ∃ l, keyOf Tryz.prog 27 k.val = some l := by
 cases k with
 | i n => exact h.elim
 | s b => exact absurd h.1 (by decide)
 | ss l =>
   obtain ⟨h1, h2, _⟩ := h
   obtain ⟨u, d, rfl⟩ : ∃ u d, l = [u, d] := by
    rcases l with _ | ⟨u, _ | ⟨d, _ | ⟨z, t⟩⟩⟩
    ·cases h1
    ·cases h1
    ·exact ⟨u, d, rfl⟩
    ·simp at h1
   obtain ⟨n, hn⟩ := uO
   have hl : Se.toList.map (fun f => (f.type, f.offset)) = [(9, 0), (9, 1)] := jM
   rcases hf : Se.toList with _ | ⟨f, _ | ⟨g, _ | ⟨z, t⟩⟩⟩
   ·rw [hf] at hl; cases hl
   ·rw [hf] at hl; simp at hl
   ·rw [hf] at hl
    ·simp only [List.map_cons, List.map_nil, List.cons.injEq, Prod.mk.injEq, and_true] at hl
     obtain ⟨⟨a1, a2⟩, b1, b2⟩ := hl
     refine ⟨.string (keyBytes [.string u.data.toList, .string d.data.toList]), ?_⟩
     have hform : (MK.val (.ss [u, d])).formed Tryz.prog 27 = true := by
      simp only [Value.formed, MK.val, ul, pF]
      rfl
     unfold keyOf
     rw [ul]
     show (if (Tryz.prog.keyType 27 && (MK.val (.ss [u, d])).formed Tryz.prog 27) = true then _ else none) = _
     rw [tv, hform]
     refine (if_pos rfl).trans ?_
     rw [hn]
     have : Tryz.prog.keyLits (n + 2) 27 (MK.val (.ss [u, d])).cells.toList = some [.string u.data.toList, .string d.data.toList] := by
      show Tryz.prog.keyLits (n + 2) 27 [.string u, .string d] = _
      have e1 : [Value.string u, Value.string d].length = Tryz.prog.cellsOf 27 ∧ Se.all (·.name != "_") = true := ⟨by rw [pF]; rfl, jN⟩
      rw [Program.keyLits.eq_def]
      simp only [ul]
      refine (if_pos e1).trans ?_
      rw [hf]
      simp only [List.mapM_cons, List.mapM_nil, a1, a2, b1, b2, vC, List.drop_zero, List.take_succ_cons, List.take_zero, List.drop_succ_cons, u4 n (h2 u (by simp)), u4 n (h2 d (by simp))]
      rfl
     rw [this]; rfl
   ·rw [hf] at hl
    simp only [List.map_cons, List.cons.injEq] at hl
    exact absurd hl.2.2 (by simp)
theorem tu : HL Tryz.prog 27 (some 2) := HL.ss vA rB
def dG (a : Ad) : MK := .ss [a.user, a.domain]
theorem aN {a b : Ad} (h : dG a = dG b) : a = b := by
 cases a; cases b
 simp only [dG, MK.ss.injEq, List.cons.injEq, and_true] at h
 rw [h.1, h.2]
def dis (xs : List Ad) : List (MK × Bool) := xs.foldl (fun es a => Ks (dG a) true es) []
theorem Ja (xs : List Ad) (a : Ad) : dis (xs ++ [a]) = Ks (dG a) true (dis xs) := by simp [dis]
theorem FJ {k : MK} {b : Bool} : ∀ {es : List (MK × Bool)}, (Ks k b es).map Prod.fst = if k ∈ es.map Prod.fst then es.map Prod.fst else es.map Prod.fst ++ [k]
 | [] => by simp [Ks]
 | p :: r => by
   rw [Ks]
   by_cases h : p.1 = k
   ·simp [h]
   ·have hk : ¬ k = p.1 := fun e => h e.symm
    rw [if_neg h, List.map_cons, FJ]
    by_cases h2 : k ∈ r.map Prod.fst
    ·rw [if_pos h2, if_pos (by simp only [List.map_cons, List.mem_cons]; exact .inr h2)]; rfl
    ·rw [if_neg h2, if_neg (by simp only [List.map_cons, List.mem_cons]; exact fun e => e.elim hk h2)]; rfl
theorem Zf (xs : List Ad) (a : Ad) : dG a ∈ (dis xs).map Prod.fst ↔ a ∈ xs := by
 generalize hr : xs.reverse = r
 have hx : xs = r.reverse := by rw [← hr, List.reverse_reverse]
 subst hx
 clear hr
 induction r with
 | nil => simp [dis]
 | cons b r ih =>
   rw [List.reverse_cons, Ja, FJ, List.mem_append, ← propext ih]
   by_cases h : dG b ∈ (dis r.reverse).map Prod.fst
   ·rw [if_pos h]
    constructor
    ·exact .inl
    ·rintro (h1 | h1)
     ·exact h1
     ·rw [List.mem_singleton.1 h1]; exact h
   ·rw [if_neg h, List.mem_append, List.mem_singleton, List.mem_singleton]
    exact or_congr_right ⟨aN, fun e => by rw [e]⟩
theorem Ze (xs : List Ad) : (dis xs).length ≤ xs.length ∧ ((dis xs).length = xs.length ↔ xs.Nodup) := by
 generalize hr : xs.reverse = r
 have hx : xs = r.reverse := by rw [← hr, List.reverse_reverse]
 subst hx
 clear hr
 induction r with
 | nil => simp [dis]
 | cons b r ih =>
   have hl : ∀ es : List (MK × Bool), es.length = (es.map Prod.fst).length := fun es => by rw [lm]
   have hn : (r.reverse ++ [b]).Nodup ↔ r.reverse.Nodup ∧ b ∉ r.reverse := by
    rw [List.nodup_append]
    constructor
    ·rintro ⟨h1, _, h3⟩
     exact ⟨h1, fun hb => h3 b hb b (by simp) rfl⟩
    ·rintro ⟨h1, h2⟩
     refine ⟨h1, by simp, fun x hx y hy e => ?_⟩
     rw [List.mem_singleton] at hy
     subst hy; subst e; exact h2 hx
   rw [List.reverse_cons, Ja, hl, FJ, List.length_append, hn, ← Zf]
   obtain ⟨i1, i2⟩ := ih
   by_cases h : dG b ∈ (dis r.reverse).map Prod.fst
   ·rw [if_pos h, ← hl]
    refine ⟨by omega, ⟨fun e => ?_, fun e => absurd h e.2⟩⟩
    simp at e i1; omega
   ·rw [if_neg h, List.length_append, ← hl]
    refine ⟨by simp at *; omega, ⟨fun e => ⟨i2.1 (by simp at *; omega), h⟩, fun e => ?_⟩⟩
    have := i2.2 e.1
    simp at *; omega
theorem QI {xs : List Ad} {i : Nat} (h : i < xs.length) : xs.take (i + 1) = xs.take i ++ [xs.getD i default] := by
 rw [List.take_succ_eq_append_getElem h]
 simp [h]
theorem U3 {xs : List Ad} {i : Nat} (h : i < xs.length) : Ks (.ss [(xs.getD i default).user, (xs.getD i default).domain]) true (dis (xs.take i)) = dis (xs.take (i + 1)) := by
 rw [QI h, Ja]; rfl
def tZ : Ct := At (lc Dd.asl l0) (fun p => True) (fun p => .t (.v (.bool (BT p.1.Nodup))))
section
attribute [local go_sem] Bool.not_true Bool.not_false DB Fp D1 D3 D2 D4
theorem qh {G : Gt} (hG : Aj G) : Gd G 81 (AA 0 tZ) := by
 refine gr (fn := Tryz.f81) (n := 1) rfl hG ?_
 rintro ⟨xs, ⟨⟩⟩ hpre
 simp -implicitDefEqProofs only [Tryz.f81, go_sem, seval] at hpre ⊢
 with_reducible repeat' (first | apply ai | intro _ | ((first | apply s1 | apply s2 | apply s3 | apply s4) <;> intro hb <;> simp -implicitDefEqProofs only [hb, go_sem, seval] <;> try simp only [qz] at hb))
 all_goals first | rfl | omega | skip
 refine AE [] (ι := {i : Nat // i ≤ xs.length}) (fun p => ⟨[(0, .t (.sl 2 (xs.map Aw))), (3, .h 1006), (7, .t (.sl 2 (xs.map Aw))), (8, .t (.v (.int .i64 xs.length))), (9, .t (.v (.int .i64 p.1)))], [(1006, some (.mp (some 2) (dis (xs.take p.1))))]⟩) (fun p => xs.length - p.1) ⟨0, Nat.zero_le _⟩ rfl ?_ ?_
 ·simp -implicitDefEqProofs only [go_sem, seval]
  try simp
  rfl
 ·rintro ⟨i, hi⟩
  by_cases hlt : (i : Int) < xs.length
  ·simp -implicitDefEqProofs only [hlt, go_sem, seval]
   with_reducible repeat' (first | apply ai | intro _ | ((first | apply s1 | apply s2 | apply s3 | apply s4) <;> intro hb <;> simp -implicitDefEqProofs only [hb, go_sem, seval] <;> try simp only [qz] at hb))
   all_goals (try simp only [maxLen] at *)
   all_goals first | rfl | omega | exact tu | skip
   refine ⟨⟨i + 1, by omega⟩, by dsimp only; omega, ?_⟩
   simp -implicitDefEqProofs only [go_sem, seval]
   simp only [tn, U3 (show i < xs.length by omega)]
   try simp
  ·simp -implicitDefEqProofs only [hlt, go_sem, seval]
   with_reducible repeat' (first | apply ai | intro _ | ((first | apply s1 | apply s2 | apply s3 | apply s4) <;> intro hb <;> simp -implicitDefEqProofs only [hb, go_sem, seval] <;> try simp only [qz] at hb))
   all_goals first | rfl | omega | skip
   rw [List.take_of_length_le (by omega), ← AT (Ze xs).2, BZ]
   refine congrArg (fun b => T.v (.bool b)) (decide_eq_decide.2 ?_)
   omega
end
theorem BV {α : Type} [Inhabited α] (enc : α → List T) {xs : List α} {i : Nat} (h : i < xs.length) : (xs.take (i + 1)).map enc = (xs.take i).map enc ++ [enc (xs.getD i default)] := by
 rw [List.take_succ_eq_append_getElem h, List.map_append, List.map_cons, List.map_nil]
 simp only [List.getD_eq_getElem?_getD, List.getElem?_eq_getElem h, Option.getD_some]
theorem KR {α : Type} {enc : α → List T} {xs : List α} {k : Nat} : (xs.map enc).take k = (xs.take k).map enc := List.map_take.symm
theorem Jb {α : Type} {enc : α → List T} {xs : List α} {k : Nat} : (xs.map enc).drop k = (xs.drop k).map enc := List.map_drop.symm
def M2 (r : Rc) : Prop := BK r.addr ∧ (0 ≤ r.tries ∧ r.tries ≤ 3) ∧ (0 ≤ r.next ∧ r.next ≤ 9999)
def DM (x : Im) : Prop := (∀ r ∈ x.to, M2 r) ∧ (x.to.map Rc.addr).Nodup ∧ 0 < x.id ∧ (BK x.frm ∨ AU x.frm) ∧ (1 ≤ x.to.length ∧ x.to.length ≤ 4) ∧ CU x.body
def sj (xs : List Im) : Prop := ∀ j, 0 < j → j < xs.length → (xs.getD (j - 1) default).id < (xs.getD j default).id
def Bl (s : Sp) : Prop := (∀ x ∈ s.items, DM x ∧ x.id ≤ s.last) ∧ sj s.items ∧ (0 ≤ s.last ∧ s.last ≤ 999) ∧ s.items.length ≤ 10
theorem Po {xs : List Rc} (h : ∀ j, j < xs.length → ∀ k, k < j → ¬ (xs.getD k default).addr = (xs.getD j default).addr) : (xs.map Rc.addr).Nodup := by
 rw [List.nodup_iff_pairwise_ne, List.pairwise_iff_getElem]
 intro k j hk hj hkj
 rw [lm] at hk hj
 have := h j hj k hkj
 simpa [hk, hj] using this
theorem Ox {xs : List Rc} (h : (xs.map Rc.addr).Nodup) {k i : Nat} (hk : k < i) (hi : i < xs.length) : ¬ (xs.getD k default).addr = (xs.getD i default).addr := fun e => by
 have q1 : k < xs.length := by omega
 simp only [List.getD_eq_getElem?_getD, List.getElem?_eq_getElem q1, List.getElem?_eq_getElem hi, Option.getD_some] at e
 exact List.pairwise_iff_getElem.1 (List.nodup_iff_pairwise_ne.1 h) k i (by simpa using q1) (by simpa using hi) hk (by simpa using e)
def fF : Ct := At (lc Td.ag l0) (fun p => True) (fun p => .t (.v (.bool (BT (M2 p.1)))))
section
attribute [local go_sem] SB Kk
theorem lU {G : Gt} (hG : Aj G) (hh : G.e 74 = AA 0 SB ∧ G.e 71 = AA 0 Kk) : Gd G 121 (AA 0 fF) := by
 refine gr (fn := Tryz.f121) (n := 1) rfl hG ?_
 rintro ⟨r, ⟨⟩⟩ hpre
 simp -implicitDefEqProofs only [Tryz.f121, go_sem, hh, seval] at hpre ⊢
 with_reducible repeat' (first | apply ai | intro _ | ((first | apply s1 | apply s2 | apply s3 | apply s4) <;> intro hb <;> simp -implicitDefEqProofs only [hb, go_sem, hh, seval] <;> try simp only [qz] at hb))
 all_goals first
  | rfl
  | omega
  | exact congrArg (fun b => T.v (Value.bool b)) (AT ⟨fun h => ⟨by assumption, by assumption, h⟩, fun h => h.2.2⟩)
  | (rw [AQ (fun h => absurd h.1 (by assumption))]; done)
  | (rw [AQ (fun h => absurd h.2.1 (by assumption))]; done)
end
def tX : Ct := At (lc I1.ag l0) (fun p => True) (fun p => .t (.v (.bool (BT (DM p.1)))))
section
attribute [local go_sem] SB Kk fF R9 Lm lm
set_option maxHeartbeats 800000 in
theorem qT {G : Gt} (hG : Aj G) (hh : G.e 74 = AA 0 SB ∧ G.e 71 = AA 0 Kk ∧ G.e 121 = AA 0 fF ∧ G.e 72 = AA 0 R9 ∧ G.e 122 = AA 0 Lm) : Gd G 70 (AA 0 tX) := by
 refine gr (fn := Tryz.f70) (n := 1) rfl hG ?_
 rintro ⟨x, ⟨⟩⟩ hpre
 simp -implicitDefEqProofs only [Tryz.f70, go_sem, hh, seval] at hpre ⊢
 have hbox : ∀ y : Im, Ob.box [AV.t (T.v (Value.int IntKind.i64 y.id)), AV.t (T.v (Value.string y.frm.user)), AV.t (T.v (Value.string y.frm.domain)), AV.t (T.sl 4 (List.map BI y.to)), AV.t (T.sl 1 (List.map AH y.body))] = Ob.box ((Ay y).map .t) := fun _ => rfl
 refine AE [] (ι := {i : Nat // i ≤ x.to.length ∧ (∀ j, j < i → M2 (x.to.getD j default)) ∧ ∀ j, j < i → ∀ k, k < j → ¬ (x.to.getD k default).addr = (x.to.getD j default).addr}) (fun p => ⟨[(1, .pb 1001 0), (3, .t (.v (.int .i64 p.1)))], [(1001, some (.box ((Ay x).map .t)))]⟩) (fun p => x.to.length - p.1) ⟨0, by simp, by simp, by simp⟩ rfl ?_ ?_
 ·simp -implicitDefEqProofs only [go_sem, hh, seval]
  try simp
 ·rintro ⟨i, hi, hall, hno⟩
  simp -implicitDefEqProofs only [go_sem, hh, seval]
  with_reducible repeat' (first | apply ai | intro _ | ((first | apply s1 | apply s2 | apply s3 | apply s4) <;> intro hb <;> simp -implicitDefEqProofs only [hb, go_sem, hh, seval] <;> try simp only [qz] at hb))
  all_goals (try simp only [maxLen, tn, lm] at *)
  all_goals first | rfl | omega | skip
  ·rw [AQ (fun h => hb (h.1 _ (AC (by omega))))]
  ·refine AE [] (ι := {k : Nat // k ≤ i ∧ ∀ j, j < k → ¬ (x.to.getD j default).addr = (x.to.getD i default).addr}) (fun p => ⟨[(1, .pb 1001 0), (3, .t (.v (.int .i64 i))), (4, .t (.v (.int .i64 p.1)))], [(1001, some (.box ((Ay x).map .t)))]⟩) (fun p => i - p.1) ⟨0, by simp, by simp⟩ rfl ?_ ?_
   ·simp -implicitDefEqProofs only [go_sem, hh, seval]
    try simp
   ·rintro ⟨k, hk, hk2⟩
    simp -implicitDefEqProofs only [go_sem, hh, seval]
    with_reducible repeat' (first | apply ai | intro _ | ((first | apply s1 | apply s2 | apply s3 | apply s4) <;> intro hb <;> simp -implicitDefEqProofs only [hb, go_sem, hh, seval] <;> try simp only [qz] at hb))
    all_goals (try simp only [maxLen, tn, lm] at *)
    all_goals first | rfl | omega | skip
    ·have e : (x.to.getD k default).addr = (x.to.getD i default).addr := C3.2 (by simpa using hb)
     rw [AQ (fun h => Ox h.2.1 (by omega) (by omega) e)]
    ·refine ⟨⟨k + 1, by omega, fun j hj => ?_⟩, by dsimp only; omega, ?_⟩
     ·by_cases e : j = k
      ·subst e; exact jr hb
      ·exact hk2 j (by omega)
     ·simp -implicitDefEqProofs only [go_sem, hh, seval]
      try simp
    ·refine ⟨⟨i + 1, by omega, Cu hall (by assumption), fun j hj q hq => ?_⟩, by dsimp only; omega, ?_⟩
     ·by_cases e : j = i
      ·subst e; exact hk2 q (by omega)
      ·exact hno j (by omega) q hq
     ·simp -implicitDefEqProofs only [go_sem, hh, seval]
      try simp
  all_goals have hA : ∀ r ∈ x.to, M2 r := BC fun j hj => hall j (by omega)
  all_goals have hN : (x.to.map Rc.addr).Nodup := Po fun j hj q hq => hno j (by omega) q hq
  all_goals first
   | (rw [AT]
      exact ⟨fun h => ⟨hA, hN, by first | assumption | omega, by first | exact .inl (by assumption) | exact .inr (by assumption), by omega, h⟩, fun h => h.2.2.2.2.2⟩)
   | (rw [AQ]
      intro h
      first
       | (have := h.2.2.1; omega)
       | (have := h.2.2.2.2.1; omega)
       | (rcases h.2.2.2.1 with h | h <;> contradiction))
end
def ov : Ct := At (lc TM.ag l0) (fun p => True) (fun p => .t (.v (.bool (BT (Bl p.1)))))
section
attribute [local go_sem] tX Kk lm Bool.not_true Bool.not_false
set_option maxHeartbeats 1600000 in
theorem p8 {G : Gt} (hG : Aj G) (hh : G.e 70 = AA 0 tX ∧ G.e 71 = AA 0 Kk) : Gd G 30 (AA 0 ov) := by
 refine gr (fn := Tryz.f30) (n := 1) rfl hG ?_
 rintro ⟨s, ⟨⟩⟩ hpre
 simp -implicitDefEqProofs only [Tryz.f30, go_sem, hh, seval] at hpre ⊢
 refine AE [] (ι := {i : Nat // i ≤ s.items.length ∧ (∀ j, j < i → DM (s.items.getD j default) ∧ (s.items.getD j default).id ≤ s.last) ∧ ∀ j, 0 < j → j < i → (s.items.getD (j - 1) default).id < (s.items.getD j default).id}) (fun p => ⟨[(1, .pb 1001 0), (3, .t (.v (.int .i64 p.1)))], [(1001, some (.box ((EH s).map .t)))]⟩) (fun p => s.items.length - p.1) ⟨0, by simp, by simp, by simp⟩ rfl ?_ ?_
 ·simp -implicitDefEqProofs only [go_sem, hh, seval]
  try simp
 ·rintro ⟨i, hi, hall, hasc⟩
  by_cases hlt : (i : Int) < s.items.length
  ·simp -implicitDefEqProofs only [hlt, decide_true, go_sem, hh, seval]
   with_reducible repeat' (first | apply ai | intro _ | ((first | apply s1 | apply s2 | apply s3 | apply s4) <;> intro hb <;> simp -implicitDefEqProofs only [hb, go_sem, hh, seval] <;> try simp only [qz] at hb))
   all_goals (try simp only [maxLen, tn, lm] at *)
   all_goals first | rfl | omega | skip
   all_goals (try rw [show ((i : Int) - 1).toNat = i - 1 from by omega] at hb)
   all_goals first
    | (rw [AQ (fun h => by have h1 := h.1 _ (AC (xs := s.items) (j := i) (by omega)); first | exact hb h1.1 | omega)]; done)
    | (rw [AQ (fun h => by have h1 := h.2.1 i (by omega) (by omega); omega)]; done)
    | skip
   all_goals
    refine ⟨⟨i + 1, by omega, Cu (P := fun x : Im => DM x ∧ x.id ≤ s.last) hall ⟨by assumption, by omega⟩, fun j h0 hj => ?_⟩, by dsimp only; omega, ?_⟩
    ·by_cases e : j = i
     ·subst e; omega
     ·exact hasc j h0 (by omega)
    ·simp -implicitDefEqProofs only [go_sem, hh, seval]
     try simp
  ·simp -implicitDefEqProofs only [hlt, decide_false, go_sem, hh, seval]
   with_reducible repeat' (first | apply ai | intro _ | ((first | apply s1 | apply s2 | apply s3 | apply s4) <;> intro hb <;> simp -implicitDefEqProofs only [hb, go_sem, hh, seval] <;> try simp only [qz] at hb))
   all_goals (try simp only [maxLen, tn, lm] at *)
   all_goals first | rfl | omega | skip
   ·refine congrArg (fun b => T.v (Value.bool b)) ?_
    rw [← BZ, AT]
    exact ⟨fun h => ⟨BC fun j hj => hall j (by omega), fun j h0 hj => hasc j h0 (by omega), hb, by omega⟩, fun h => by have := h.2.2.2; omega⟩
   ·rw [AQ (fun h => hb h.2.2.1)]
end
def O8 : Ct := At (lc TM.ag (lc BJ l0)) (fun p => True) (fun p => .t (.v (.int .i64 (BF (fun x : Im => x.id = p.2.1) 0 p.1.items))))
section
attribute [local go_sem] lm
theorem lX {G : Gt} (hG : Aj G) : Gd G 124 (AA 0 O8) := by
 refine gr (fn := Tryz.f124) (n := 2) rfl hG ?_
 rintro ⟨s, n, ⟨⟩⟩ hpre
 simp -implicitDefEqProofs only [Tryz.f124, go_sem, seval] at hpre ⊢
 refine AE [] (ι := {i : Nat // i ≤ s.items.length ∧ BF (fun x : Im => x.id = n) 0 s.items = BF (fun x : Im => x.id = n) i (s.items.drop i)}) (fun p => ⟨[(1, .t (.v (.int .i64 n))), (2, .pb 1002 0), (5, .t (.v (.int .i64 p.1)))], [(1002, some (.box ((EH s).map .t)))]⟩) (fun p => s.items.length - p.1) ⟨0, by simp, rfl⟩ rfl ?_ ?_
 ·simp -implicitDefEqProofs only [go_sem, seval]
  try simp
 ·rintro ⟨i, hi, hix⟩
  simp -implicitDefEqProofs only [go_sem, seval]
  with_reducible repeat' (first | apply ai | intro _ | ((first | apply s1 | apply s2 | apply s3 | apply s4) <;> intro hb <;> simp -implicitDefEqProofs only [hb, go_sem, seval] <;> try simp only [qz] at hb))
  all_goals (try simp only [maxLen, tn, lm] at *)
  all_goals first | rfl | omega | skip
  ·rw [hix, Dn (p := fun x : Im => x.id = n) (by omega) hb]
  ·refine ⟨⟨i + 1, by omega, by rw [hix, E8 (p := fun x : Im => x.id = n) (by omega) hb]⟩, by dsimp only; omega, ?_⟩
   simp -implicitDefEqProofs only [go_sem, seval]
   try simp
  ·rw [hix, Dm (by omega)]
end
def fG : Ct := At (lc I1.ag (lc Dd.ag l0)) (fun p => True) (fun p => .t (.v (.int .i64 (BF (fun r : Rc => r.addr = p.2.1) 0 p.1.to))))
section
attribute [local go_sem] lm
theorem lY {G : Gt} (hG : Aj G) : Gd G 125 (AA 0 fG) := by
 refine gr (fn := Tryz.f125) (n := 2) rfl hG ?_
 rintro ⟨x, a, ⟨⟩⟩ hpre
 simp -implicitDefEqProofs only [Tryz.f125, go_sem, seval] at hpre ⊢
 refine AE [] (ι := {i : Nat // i ≤ x.to.length ∧ BF (fun r : Rc => r.addr = a) 0 x.to = BF (fun r : Rc => r.addr = a) i (x.to.drop i)}) (fun p => ⟨[(2, .pb 1002 0), (3, .pb 1003 0), (5, .t (.v (.int .i64 p.1)))], [(1002, some (.box ((Ay x).map .t))), (1003, some (.box ((Aw a).map .t)))]⟩) (fun p => x.to.length - p.1) ⟨0, by simp, rfl⟩ rfl ?_ ?_
 ·simp -implicitDefEqProofs only [go_sem, seval]
  try simp
 ·rintro ⟨i, hi, hix⟩
  simp -implicitDefEqProofs only [go_sem, seval]
  with_reducible repeat' (first | apply ai | intro _ | ((first | apply s1 | apply s2 | apply s3 | apply s4) <;> intro hb <;> simp -implicitDefEqProofs only [hb, go_sem, seval] <;> try simp only [qz] at hb))
  all_goals (try simp only [maxLen, tn, lm] at *)
  all_goals first | rfl | omega | skip
  ·rw [hix, Dn (p := fun r : Rc => r.addr = a) (by omega) (C3.2 (by simpa using hb))]
  ·refine ⟨⟨i + 1, by omega, by rw [hix, E8 (p := fun r : Rc => r.addr = a) (by omega) (jr hb)]⟩, by dsimp only; omega, ?_⟩
   simp -implicitDefEqProofs only [go_sem, seval]
   try simp
  ·rw [hix, Dm (by omega)]
end
def gq : Ct := At (lc I1.ag l0) (fun p => F6 p.1) (fun p => kE p.1)
section
attribute [local go_sem] lm List.map_nil List.length_nil List.nil_append Nat.zero_add
theorem qY {G : Gt} (hG : Aj G) : Gd G 75 (AA 0 gq) := by
 refine gr (fn := Tryz.f75) (n := 1) rfl hG ?_ (hs := fun _ p => P0 _)
 rintro ⟨x, ⟨⟩⟩ hpre
 simp -implicitDefEqProofs only [Tryz.f75, go_sem, seval] at hpre ⊢
 obtain ⟨_, ⟨h1, _⟩, ⟨h2, _⟩⟩ := hpre
 with_reducible repeat' (first | apply ai | intro _ | ((first | apply s1 | apply s2 | apply s3 | apply s4) <;> intro hb <;> simp -implicitDefEqProofs only [hb, go_sem, seval] <;> try simp only [qz] at hb))
 all_goals (try simp only [maxLen, lm, List.length_nil] at *)
 all_goals first | rfl | omega | (simp_all; done) | skip
end
def ow : Ct := At (lc TM.ag l0) (fun p => F7 p.1) (fun p => Wq p.1)
section
attribute [local go_sem] gq lm List.length_append List.length_cons List.length_nil List.map_append List.mem_singleton forall_eq AS.nilb AS.renb Bool.not_false Bool.not_true List.set_cons_zero List.set_cons_succ List.set_nil
set_option maxHeartbeats 1600000 in
theorem p9 {G : Gt} (hG : Aj G) (hh : G.e 75 = AA 0 gq) : Gd G 32 (AA 0 ow) := by
 refine OW (dp := fun n => !(Nat.beq n 100002 || Nat.beq n 100004)) (fn := Tryz.f32) (n := 1) rfl hG ?_ (hs := fun _ p => P1 _)
 rintro ⟨s, ⟨⟩⟩ hpre
 simp -implicitDefEqProofs only [Tryz.f32, go_sem, hh, seval] at hpre ⊢
 have hpre' : GW F6 s.items := hpre
 with_reducible repeat' (first | apply ai | intro _ | ((first | apply s1 | apply s2 | apply s3 | apply s4) <;> intro hb <;> simp -implicitDefEqProofs only [hb, go_sem, hh, seval] <;> try simp only [qz] at hb))
 all_goals first | rfl | skip
 refine Ai (Le.nilb 1003 1 1901 true 5 rfl rfl rfl) (Ae ?_)
 simp -implicitDefEqProofs only [go_sem, hh, seval]
 refine AE [] (ι := {i : Nat // i ≤ s.items.length}) (fun p => ⟨[(1, .pb 1001 0), (2, .pb 1002 0), (3, .pb 1003 0), (4, .t (.v (.int .i64 p.1)))], [(1001, some (.box ((EH s).map .t))), (1002, some (.box [.t (.v (.int .i64 0)), .nil])), (1003, some (.box [.t (.v (.int .i64 s.last)), .h 1901])), (1901, some (.arr true 5 ((s.items.take p.1).map Ay)))]⟩) (fun p => s.items.length - p.1) ⟨0, by simp⟩ rfl ?_ ?_
 ·simp -implicitDefEqProofs only [go_sem, hh, seval]
  try simp
 ·rintro ⟨i, hi⟩
  by_cases hlt : (i : Int) < s.items.length
  ·have hok := hpre'.at (i := i) (by omega)
   have hlen : (s.items.take i).length = i := by simp; omega
   have hmax := hpre'.1
   simp -implicitDefEqProofs only [hlt, decide_true, tn, go_sem, hh, seval]
   with_reducible repeat' (first | apply ai | intro _ | ((first | apply s1 | apply s2 | apply s3 | apply s4) <;> intro hb <;> simp -implicitDefEqProofs only [hb, go_sem, hh, seval] <;> try simp only [qz] at hb))
   all_goals (try simp only [maxLen] at *)
   all_goals first | rfl | omega | assumption | decide | skip
   refine Ai (Le.renb 1003 1 1024 1901 rfl rfl rfl rfl) (Ae ?_)
   simp -implicitDefEqProofs only [go_sem, hh, seval]
   with_reducible repeat' (first | apply ai | intro _ | ((first | apply s1 | apply s2 | apply s3 | apply s4) <;> intro hb <;> simp -implicitDefEqProofs only [hb, go_sem, hh, seval] <;> try simp only [qz] at hb))
   all_goals first | rfl | omega | decide | skip
   refine ⟨⟨i + 1, by omega⟩, by dsimp only; omega, ?_⟩
   simp -implicitDefEqProofs only [go_sem, hh, seval]
   simp only [BV Ay (show i < s.items.length by omega)]
   with_reducible repeat' (first | apply ai | intro _ | ((first | apply s1 | apply s2 | apply s3 | apply s4) <;> intro hb <;> simp -implicitDefEqProofs only [hb, go_sem, hh, seval] <;> try simp only [qz] at hb))
   all_goals first | rfl | (simp; done)
  ·simp -implicitDefEqProofs only [hlt, decide_false, go_sem, hh, seval]
   with_reducible repeat' (first | apply ai | intro _ | ((first | apply s1 | apply s2 | apply s3 | apply s4) <;> intro hb <;> simp -implicitDefEqProofs only [hb, go_sem, hh, seval] <;> try simp only [qz] at hb))
   all_goals first | rfl | omega | skip
   rw [List.take_of_length_le (by omega)]
end
def Hc (x : Im) (k : Nat) : Im := ⟨x.id, x.frm, x.to.take k ++ x.to.drop (k + 1), x.body⟩
def TR (xs : List Im) (i k : Nat) : List Im := if (Hc (xs.getD i default) k).to = [] then xs.take i ++ xs.drop (i + 1) else xs.take i ++ (Hc (xs.getD i default) k :: xs.drop (i + 1))
def Cw (s : Sp) (i k : Nat) : Sp := ⟨s.last, TR s.items i k⟩
def O7 : Ct := At (lc TM.ag (lc BJ (lc BJ l0))) (fun p => F7 p.1 ∧ 0 ≤ p.2.1 ∧ p.2.1 < p.1.items.length ∧ 0 ≤ p.2.2.1 ∧ p.2.2.1 < (p.1.items.getD p.2.1.toNat default).to.length) (fun p => .agg ((EH (Cw p.1 p.2.1.toNat p.2.2.1.toNat)).map .t))
section
attribute [local go_sem] gq KR Jb List.take_length List.drop_zero List.length_take List.length_drop lm List.length_append List.length_cons List.length_nil List.map_append List.map_nil List.map_cons List.nil_append Nat.zero_add List.mem_singleton forall_eq Bool.not_true Bool.not_false
set_option maxHeartbeats 1600000 in
theorem lR {G : Gt} (hG : Aj G) (hh : G.e 75 = AA 0 gq) : Gd G 113 (AA 1 O7) := by
 refine OW (dp := fun n => Nat.ble 100000 n && !(Nat.beq n 100002)) (fn := Tryz.f113) (n := 3) rfl hG ?_
 rintro ⟨s, i, k, ⟨⟩⟩ hpre
 obtain ⟨hok, hi0, hi1, hk0, hk1⟩ := hpre
 dsimp only at hi0 hi1 hk0 hk1 ⊢
 obtain ⟨ni, rfl⟩ := Int.eq_ofNat_of_zero_le hi0
 obtain ⟨nk, rfl⟩ := Int.eq_ofNat_of_zero_le hk0
 have hok' : GW F6 s.items := hok
 simp only [tn] at hk1 ⊢
 have hx := hok'.at (i := ni) (by omega)
 have hmax := hok'.1
 have hmx : ((s.items.getD ni default).to.length : Int) ≤ 1048576 := hx.2.1.1
 have hi2 : ni < s.items.length := by omega
 have hk2 : nk < (s.items.getD ni default).to.length := by omega
 have e1 : ((ni : Int) + 1).toNat = ni + 1 := by omega
 have e2 : ((nk : Int) + 1).toNat = nk + 1 := by omega
 simp -implicitDefEqProofs only [Tryz.f113, tn, go_sem, hh, seval]
 with_reducible repeat' (first | apply ai | intro _ | ((first | apply s1 | apply s2 | apply s3 | apply s4) <;> intro hb <;> simp -implicitDefEqProofs only [hb, go_sem, hh, seval] <;> try simp only [qz] at hb))
 all_goals first | rfl | omega | assumption | decide | skip
 refine Ai (Le.frzL [1014]) (Ae ?_)
 simp -implicitDefEqProofs only [go_sem, hh, seval]
 with_reducible repeat' (first | apply ai | intro _ | ((first | apply s1 | apply s2 | apply s3 | apply s4) <;> intro hb <;> simp -implicitDefEqProofs only [hb, go_sem, hh, seval] <;> try simp only [qz] at hb))
 all_goals (try simp only [maxLen, e1, e2, tn, List.take_length, List.drop_zero] at *)
 all_goals first | rfl | omega | assumption | decide | skip
 all_goals
  refine congrArg (T.sl 5) ?_
  simp only [Cw, TR]
  first
   | (rw [if_neg (fun e => by have := congrArg List.length e; simp only [Hc, List.length_append, List.length_take, List.length_drop, List.length_nil] at this; omega)]; simp [Hc, Ay]; done)
   | (rw [if_pos (List.eq_nil_of_length_eq_zero (by simp only [Hc, List.length_append, List.length_take, List.length_drop]; omega))]; simp; done)
   | skip
end
theorem Fd {α : Type} (p : α → Prop) : ∀ (xs : List α) (k : Nat), BF p k xs = -1 ∨ ((k : Int) ≤ BF p k xs ∧ BF p k xs < k + xs.length)
 | [], _ => .inl rfl
 | x :: t, k => by
   rw [BF]
   cases BT (p x)
   ·rcases Fd p t (k + 1) with h | h
    ·exact .inl h
    ·simp only [cond_false, List.length_cons]; right; omega
   ·simp only [cond_true, List.length_cons]; right; omega
noncomputable def A5 (s : Sp) (n : Int) : Int := BF (fun x : Im => x.id = n) 0 s.items
noncomputable def Bt (x : Im) (a : Ad) : Int := BF (fun r : Rc => r.addr = a) 0 x.to
noncomputable def A1 (s : Sp) (n : Int) : Im := s.items.getD (A5 s n).toNat default
open Classical in
noncomputable def QT (s : Sp) (n : Int) (a : Ad) : Sp × Bool :=
 if Bl s then (if A5 s n < 0 then (s, false) else if Bt (A1 s n) a < 0 then (s, false) else (Cw s (A5 s n).toNat (Bt (A1 s n) a).toNat, true)) else (⟨0, []⟩, false)
def ar (p : Sp × Bool) : AV := .tup [.agg ((EH p.1).map .t), .t (.v (.bool p.2))]
theorem YP {s : Sp} {n : Int} {a : Ad} (h : Bl s) (hi : ¬ A5 s n < 0) (hk : ¬ Bt (A1 s n) a < 0) : QT s n a = (Cw s (A5 s n).toNat (Bt (A1 s n) a).toNat, true) := by unfold QT; rw [if_pos h, if_neg hi, if_neg hk]
theorem CK {s : Sp} {n : Int} (h : ¬ A5 s n < 0) : 0 ≤ A5 s n ∧ A5 s n < s.items.length := by
 rcases Fd (fun x : Im => x.id = n) s.items 0 with h1 | h1
 ·have : A5 s n = -1 := h1
  omega
 ·have : A5 s n < (0 : Nat) + s.items.length := h1.2
  omega
theorem Gg {x : Im} {a : Ad} (h : ¬ Bt x a < 0) : 0 ≤ Bt x a ∧ Bt x a < x.to.length := by
 rcases Fd (fun r : Rc => r.addr = a) x.to 0 with h1 | h1
 ·have : Bt x a = -1 := h1
  omega
 ·have : Bt x a < (0 : Nat) + x.to.length := h1.2
  omega
def XZ (t : Int) : Int := 2 * 2 ^ (t - 1).toNat
theorem MX {a b : Nat} (h : a ≤ b) : (2 : Int) ^ a ≤ 2 ^ b := by
 have h1 := Nat.pow_le_pow_right (n := 2) (by omega) h
 have e : ∀ k : Nat, ((2 ^ k : Nat) : Int) = 2 ^ k := fun k => by simp
 rw [← e, ← e]
 omega
theorem Ws {t : Int} {m : Nat} (h : t ≤ m + 1) : 2 ≤ XZ t ∧ XZ t ≤ 2 * 2 ^ m := by
 unfold XZ
 have h1 : (2 : Int) ^ (t - 1).toNat ≤ 2 ^ m := MX (by omega)
 have h2 : (2 : Int) ^ 0 ≤ 2 ^ (t - 1).toNat := MX (by omega)
 simp only [Int.pow_zero] at h2
 omega
def Sj (r : Rc) (w : Int) : Rc := ⟨r.addr, r.tries + 1, w + XZ (r.tries + 1)⟩
def Pl (x : Im) (k : Nat) (w : Int) : Im := ⟨x.id, x.frm, x.to.set k (Sj (x.to.getD k default) w), x.body⟩
def Nm (s : Sp) (i k : Nat) (w : Int) : Sp := ⟨s.last, s.items.set i (Pl (s.items.getD i default) k w)⟩
def ME (r : Rc) (w : Int) : Prop := r.tries + 1 ≥ 4 ∨ w + XZ (r.tries + 1) > 9999
instance (r : Rc) (w : Int) : Decidable (ME r w) := by unfold ME; infer_instance
def I6 (s : Sp) (i k : Nat) (w : Int) : Sp × Bool := if ME ((s.items.getD i default).to.getD k default) w then (s, false) else (Nm s i k w, true)
def fX : Ct := At (lc BJ l0) (fun p => p.1 ≤ 40) (fun p => .t (.v (.int .i64 (XZ p.1))))
theorem mA {G : Gt} (hG : Aj G) : Gd G 152 (AA 0 fX) := by
 refine gr (fn := Tryz.f152) (n := 1) rfl hG ?_
 rintro ⟨t, ⟨⟩⟩ hpre
 simp -implicitDefEqProofs only [Tryz.f152, go_sem, seval] at hpre ⊢
 refine AE [] (ι := {j : Nat // j ≤ (t - 1).toNat}) (fun p => ⟨[(0, .t (.v (.int .i64 t))), (3, .t (.v (.int .i64 (2 * 2 ^ p.1)))), (4, .t (.v (.int .i64 (p.1 + 1))))], []⟩) (fun p => (t - 1).toNat - p.1) ⟨0, by simp⟩ rfl ?_ ?_
 ·simp -implicitDefEqProofs only [go_sem, seval]
  try simp
 ·rintro ⟨j, hj⟩
  have hb : (2 : Int) ^ j ≤ 2 ^ 40 := MX (by omega)
  have hp : (0 : Int) ≤ 2 ^ j := Int.le_of_lt (Int.pow_pos (by omega))
  have h40 : (2 : Int) ^ 40 = 1099511627776 := by decide
  simp -implicitDefEqProofs only [go_sem, seval]
  with_reducible repeat' (first | apply ai | intro _ | ((first | apply s1 | apply s2 | apply s3 | apply s4) <;> intro hb <;> simp -implicitDefEqProofs only [hb, go_sem, seval] <;> try simp only [qz] at hb))
  all_goals first | rfl | omega | skip
  ·refine ⟨⟨j + 1, by omega⟩, by dsimp only; omega, ?_⟩
   simp -implicitDefEqProofs only [go_sem, seval]
   with_reducible repeat' (first | apply ai | intro _ | ((first | apply s1 | apply s2 | apply s3 | apply s4) <;> intro hb <;> simp -implicitDefEqProofs only [hb, go_sem, seval] <;> try simp only [qz] at hb))
   all_goals first | rfl | (simp; omega) | (refine congrArg (fun z => AV.t (T.v (Value.int .i64 z))) ?_; rw [Int.pow_succ]; omega) | (refine congrArg (fun z => AV.t (T.v (Value.int .i64 z))) ?_; simp; done)
  ·rw [show XZ t = 2 * 2 ^ j from by unfold XZ; rw [show (t - 1).toNat = j from by omega]]
def UF : Ct := At (lc TM.ag (lc BJ (lc BJ (lc BJ l0)))) (fun p => F7 p.1 ∧ Bl p.1 ∧ (0 ≤ p.2.1 ∧ p.2.1 < p.1.items.length) ∧ (0 ≤ p.2.2.1 ∧ p.2.2.1 < (p.1.items.getD p.2.1.toNat default).to.length) ∧ 0 ≤ p.2.2.2.1 ∧ p.2.2.2.1 ≤ 9999) (fun p => ar (I6 p.1 p.2.1.toNat p.2.2.1.toNat p.2.2.2.1))
section
attribute [local go_sem] gq fX KR Jb List.take_length List.drop_zero List.length_take List.length_drop lm List.length_append List.length_cons List.length_nil List.map_append List.map_nil List.map_cons List.nil_append Nat.zero_add List.mem_singleton forall_eq Bool.not_true Bool.not_false ar Nm AY BN List.length_set
set_option maxHeartbeats 1600000 in
theorem lS {G : Gt} (hG : Aj G) (hh : G.e 75 = AA 0 gq ∧ G.e 152 = AA 0 fX) : Gd G 114 (AA 1 UF) := by
 refine OW (dp := fun n => Nat.ble 100000 n) (fn := Tryz.f114) (n := 4) rfl hG ?_
 rintro ⟨s, i, k, w, ⟨⟩⟩ hpre
 dsimp only at hpre ⊢
 obtain ⟨hok, hsp, ⟨hi0, hi1⟩, ⟨hk0, hk1⟩, hw0, hw1⟩ := hpre
 obtain ⟨ni, rfl⟩ := Int.eq_ofNat_of_zero_le hi0
 obtain ⟨nk, rfl⟩ := Int.eq_ofNat_of_zero_le hk0
 have hok' : GW F6 s.items := hok
 simp only [tn] at hk1 ⊢
 have hx := hok'.at (i := ni) (by omega)
 have hmax := hok'.1
 have hmx : ((s.items.getD ni default).to.length : Int) ≤ 1048576 := hx.2.1.1
 have hi2 : ni < s.items.length := by omega
 have hk2 : nk < (s.items.getD ni default).to.length := by omega
 have hk3 : nk < ((s.items.getD ni default).to.map BI).length := by rw [lm]; exact hk2
 have hr := (hsp.1 _ (AC hi2)).1.1 _ (AC hk2)
 obtain ⟨_, ⟨ht0, ht1⟩, _⟩ := hr
 obtain ⟨hp0, hp1⟩ := Ws (t := ((s.items.getD ni default).to.getD nk default).tries + 1) (m := 3) (by omega)
 have h8 : (2 : Int) * 2 ^ 3 = 16 := by decide
 by_cases hno : ME ((s.items.getD ni default).to.getD nk default) w
 ·unfold I6
  rw [if_pos hno]
  rcases hno with hno | hno
  ·simp -implicitDefEqProofs only [Tryz.f114, tn, hno, decide_true, go_sem, hh, seval]
   with_reducible repeat' (first | apply ai | intro _ | ((first | apply s1 | apply s2 | apply s3 | apply s4) <;> intro hb <;> simp -implicitDefEqProofs only [hb, go_sem, hh, seval] <;> try simp only [qz] at hb))
   all_goals first | rfl | omega | assumption | decide | skip
   all_goals trace_state
  ·simp -implicitDefEqProofs only [Tryz.f114, tn, hno, decide_true, go_sem, hh, seval]
   with_reducible repeat' (first | apply ai | intro _ | ((first | apply s1 | apply s2 | apply s3 | apply s4) <;> intro hb <;> simp -implicitDefEqProofs only [hb, go_sem, hh, seval] <;> try simp only [qz] at hb))
   all_goals first | rfl | omega | assumption | decide | skip
   all_goals trace_state
 ·unfold I6
  rw [if_neg hno]
  have hno1 : ¬ ((s.items.getD ni default).to.getD nk default).tries + 1 ≥ 4 := fun h => hno (.inl h)
  have hno2 : ¬ w + XZ (((s.items.getD ni default).to.getD nk default).tries + 1) > 9999 := fun h => hno (.inr h)
  simp -implicitDefEqProofs only [Tryz.f114, tn, NB hk3, hno1, hno2, decide_false, go_sem, hh, seval]
  with_reducible repeat' (first | apply ai | intro _ | ((first | apply s1 | apply s2 | apply s3 | apply s4) <;> intro hb <;> simp -implicitDefEqProofs only [hb, go_sem, hh, seval] <;> try simp only [qz] at hb))
  all_goals first | rfl | omega | assumption | decide | skip
  refine congrArg (T.sl 5) ?_
  rw [kU, kT]
  rfl
end
section
variable {s : Sp} {n : Int} {a : Ad} {w : Int}
end
theorem TG {xs : List Rc} {i : Nat} (h : i < xs.length) : ((xs.map Rc.addr).take (i + 1)).map Aw = ((xs.map Rc.addr).take i).map Aw ++ [[.v (.string (xs.getD i default).addr.user), .v (.string (xs.getD i default).addr.domain)]] := by
 have e : (xs.map Rc.addr).getD i default = (xs.getD i default).addr := by
  simp only [List.getD_eq_getElem?_getD, List.getElem?_map, List.getElem?_eq_getElem h, Option.map_some, Option.getD_some]
 rw [BV Aw (by rw [lm]; exact h), e]
 rfl
def ox : Ct := At (lc BJ l0) (fun p => True) (fun p => .t (.v (.bool (BT (0 ≤ p.1 ∧ p.1 ≤ 9999)))))
section
attribute [local go_sem] UT
theorem qD {G : Gt} (hG : Aj G) (hh : G.e 36 = AA 0 UT) : Gd G 40 (AA 0 ox) := by
 refine gr (fn := Tryz.f40) (n := 1) rfl hG ?_
 rintro ⟨n, ⟨⟩⟩ hpre
 simp -implicitDefEqProofs only [Tryz.f40, go_sem, hh, seval] at hpre ⊢
 with_reducible repeat' (first | apply ai | intro _ | ((first | apply s1 | apply s2 | apply s3 | apply s4) <;> intro hb <;> simp -implicitDefEqProofs only [hb, go_sem, hh, seval] <;> try simp only [qz] at hb))
 all_goals first | rfl | skip
end
def tN : Ct := At (lc I1.ag l0) (fun p => F6 p.1) (fun p => .t (.v (.bool (BT (DM p.1)))))
section
attribute [local go_sem] Y7 UT ox pA tZ gu KR Jb List.take_length List.drop_zero List.length_take List.length_drop lm List.length_append List.length_cons List.length_nil List.map_append List.map_nil List.map_cons List.nil_append Nat.zero_add List.mem_singleton forall_eq Bool.not_true Bool.not_false Ac Ab
set_option maxHeartbeats 1600000 in
theorem qA {G : Gt} (hG : Aj G) (hh : G.e 37 = AA 0 Y7 ∧ G.e 36 = AA 0 UT ∧ G.e 40 = AA 0 ox ∧ G.e 80 = AA 0 pA ∧ G.e 81 = AA 0 tZ ∧ G.e 82 = AA 0 gu) : Gd G 35 (AA 0 tN) := by
 refine gr (fn := Tryz.f35) (n := 1) rfl hG ?_
 rintro ⟨x, ⟨⟩⟩ hpre
 simp -implicitDefEqProofs only [Tryz.f35, go_sem, hh, seval] at hpre ⊢
 obtain ⟨⟨_, hfd⟩, ⟨hl1, hto⟩, ⟨hl2, hbd⟩⟩ := hpre
 have hfd' : x.frm.domain.size ≤ 2000000 := by have : x.frm.domain.size ≤ 1048576 := hfd; omega
 have hbd' : ∀ s ∈ x.body, s.size ≤ 2000000 := fun s hs => by have : s.size ≤ 1048576 := hbd s hs; omega
 have hto' : ∀ j, j < x.to.length → (x.to.getD j default).addr.domain.size ≤ 2000000 := fun j hj => by have : (x.to.getD j default).addr.domain.size ≤ 1048576 := (hto _ (AC hj)).2; omega
 with_reducible repeat' (first | apply ai | intro _ | ((first | apply s1 | apply s2 | apply s3 | apply s4) <;> intro hb <;> simp -implicitDefEqProofs only [hb, go_sem, hh, seval] <;> try simp only [qz] at hb))
 all_goals first | rfl | skip
 refine AE [(3, 1903, true, 2)] (ι := {i : Nat // i ≤ x.to.length ∧ ∀ j, j < i → M2 (x.to.getD j default)}) (fun p => ⟨[(1, .pb 1001 0), (3, .h 1903), (7, .t (.sl 4 (x.to.map BI))), (8, .t (.v (.int .i64 x.to.length))), (9, .t (.v (.int .i64 p.1)))], [(1001, some (.box ((Ay x).map .t))), (1903, some (.arr true 2 (((x.to.map Rc.addr).take p.1).map Aw)))]⟩) (fun p => x.to.length - p.1) ⟨0, by simp, by simp⟩ rfl ?_ ?_
 ·simp -implicitDefEqProofs only [go_sem, hh, seval]
  try simp
 ·rintro ⟨i, hi, hall⟩
  by_cases hlt : (i : Int) < x.to.length
  ·have hd := hto' i (by omega)
   have hlen : ((x.to.map Rc.addr).take i).length = i := by simp; omega
   simp -implicitDefEqProofs only [hlt, decide_true, tn, go_sem, hh, seval]
   with_reducible repeat' (first | apply ai | intro _ | ((first | apply s1 | apply s2 | apply s3 | apply s4) <;> intro hb <;> simp -implicitDefEqProofs only [hb, go_sem, hh, seval] <;> try simp only [qz] at hb))
   all_goals (try simp only [maxLen] at *)
   all_goals first | rfl | omega | assumption | decide | skip
   all_goals first
    | (rw [AQ (fun h => by have h1 := h.1 _ (AC (xs := x.to) (j := i) (by omega)); first | exact hb h1.1 | exact hb h1.2.1 | exact hb h1.2.2)]; done)
    | skip
   refine ⟨⟨i + 1, by omega, Cu (P := M2) hall ⟨by assumption, by assumption, by assumption⟩⟩, by dsimp only; omega, ?_⟩
   simp -implicitDefEqProofs only [go_sem, hh, seval]
   simp only [TG (show i < x.to.length by omega)]
   with_reducible repeat' (first | apply ai | intro _ | ((first | apply s1 | apply s2 | apply s3 | apply s4) <;> intro hb <;> simp -implicitDefEqProofs only [hb, go_sem, hh, seval] <;> try simp only [qz] at hb))
   all_goals first | rfl | (simp; done) | (simp; omega)
  ·have hA : ∀ r ∈ x.to, M2 r := BC fun j hj => hall j (by omega)
   simp -implicitDefEqProofs only [hlt, decide_false, go_sem, hh, seval]
   with_reducible repeat' (first | apply ai | intro _ | ((first | apply s1 | apply s2 | apply s3 | apply s4) <;> intro hb <;> simp -implicitDefEqProofs only [hb, go_sem, hh, seval] <;> try simp only [qz] at hb))
   all_goals (try simp only [maxLen] at *)
   all_goals first | rfl | omega | assumption | decide | exact hbd' _ (by assumption) | skip
   all_goals (try rw [List.take_of_length_le (by rw [lm]; omega)] at hb)
   all_goals first
    | (rw [AT]
       exact ⟨fun h => ⟨hA, hb, by assumption, by assumption, by omega, h⟩, fun h => h.2.2.2.2.2⟩)
    | (rw [AQ]
       intro h
       first
        | exact hb h.2.1
        | exact hb h.2.2.1
        | exact hb h.2.2.2.1
        | exact hb (by have := h.2.2.2.2.1; omega))
    | skip
end
def ol : Ct := At (lc TM.ag l0) (fun p => F7 p.1) (fun p => .t (.v (.bool (BT (Bl p.1)))))
section
attribute [local go_sem] tN UT KR Jb List.take_length List.drop_zero List.length_take List.length_drop lm List.length_append List.length_cons List.length_nil List.map_append List.map_nil List.map_cons List.nil_append Nat.zero_add List.mem_singleton forall_eq Bool.not_true Bool.not_false Ac Ab
set_option maxHeartbeats 1600000 in
theorem pt {G : Gt} (hG : Aj G) (hh : G.e 35 = AA 0 tN ∧ G.e 36 = AA 0 UT) : Gd G 10 (AA 0 ol) := by
 refine gr (fn := Tryz.f10) (n := 1) rfl hG ?_
 rintro ⟨s, ⟨⟩⟩ hpre
 simp -implicitDefEqProofs only [Tryz.f10, go_sem, hh, seval] at hpre ⊢
 have hok' : GW F6 s.items := hpre
 have hmx := hok'.1
 with_reducible repeat' (first | apply ai | intro _ | ((first | apply s1 | apply s2 | apply s3 | apply s4) <;> intro hb <;> simp -implicitDefEqProofs only [hb, go_sem, hh, seval] <;> try simp only [qz] at hb))
 all_goals first | rfl | skip
 refine AE [] (ι := {i : Nat // i ≤ s.items.length ∧ (∀ j, j < i → DM (s.items.getD j default) ∧ (s.items.getD j default).id ≤ s.last) ∧ ∀ j, 0 < j → j < i → (s.items.getD (j - 1) default).id < (s.items.getD j default).id}) (fun p => ⟨[(1, .pb 1001 0), (3, .t (.v (.int .i64 (if p.1 = 0 then 0 else (s.items.getD (p.1 - 1) default).id)))), (7, .t (.sl 5 (s.items.map Ay))), (8, .t (.v (.int .i64 s.items.length))), (9, .t (.v (.int .i64 p.1)))], [(1001, some (.box ((EH s).map .t)))]⟩) (fun p => s.items.length - p.1) ⟨0, by simp, by simp, by simp⟩ rfl ?_ ?_
 ·simp -implicitDefEqProofs only [go_sem, hh, seval]
  try simp
 ·rintro ⟨i, hi, hall, hasc⟩
  have hgen : ∀ L : Int, L = (if i = 0 then 0 else (s.items.getD (i - 1) default).id) → True := fun _ _ => trivial
  obtain ⟨L, hL⟩ : ∃ L : Int, L = (if i = 0 then 0 else (s.items.getD (i - 1) default).id) := ⟨_, rfl⟩
  by_cases hlt : (i : Int) < s.items.length
  ·have hok := hok'.at (i := i) (by omega)
   dsimp only
   rw [← hL]
   simp -implicitDefEqProofs only [hlt, decide_true, tn, go_sem, hh, seval]
   with_reducible repeat' (first | apply ai | intro _ | ((first | apply s1 | apply s2 | apply s3 | apply s4) <;> intro hb <;> simp -implicitDefEqProofs only [hb, go_sem, hh, seval] <;> try simp only [qz] at hb))
   all_goals (try simp only [maxLen] at *)
   all_goals first | rfl | omega | assumption | decide | skip
   all_goals (try have h0 := (show DM (s.items.getD i default) from by assumption).2.2.1)
   all_goals first
    | (rw [AQ]
       intro h
       have h1 := h.1 _ (AC (xs := s.items) (j := i) (by omega))
       first
        | exact hb h1.1
        | omega
        | (by_cases e : i = 0
           ·rw [if_pos e] at hL; omega
           ·rw [if_neg e] at hL
            have h2 := h.2.1 i (by omega) (by omega)
            omega))
    | skip
   refine ⟨⟨i + 1, by omega, Cu (P := fun x : Im => DM x ∧ x.id ≤ s.last) hall ⟨by assumption, by omega⟩, fun j h0 hj => ?_⟩, by dsimp only; omega, ?_⟩
   ·by_cases e : j = i
    ·subst e
     rw [if_neg (by omega)] at hL
     omega
    ·exact hasc j h0 (by omega)
   ·simp -implicitDefEqProofs only [go_sem, hh, seval]
    try simp
  ·dsimp only
   rw [← hL]
   simp -implicitDefEqProofs only [hlt, decide_false, go_sem, hh, seval]
   with_reducible repeat' (first | apply ai | intro _ | ((first | apply s1 | apply s2 | apply s3 | apply s4) <;> intro hb <;> simp -implicitDefEqProofs only [hb, go_sem, hh, seval] <;> try simp only [qz] at hb))
   all_goals (try simp only [maxLen] at *)
   all_goals first | rfl | omega | assumption | decide | skip
   ·refine congrArg (fun b => T.v (Value.bool b)) ?_
    rw [← BZ, AT]
    exact ⟨fun h => ⟨BC fun j hj => hall j (by omega), fun j h0 hj => hasc j h0 (by omega), hb, by omega⟩, fun h => by have := h.2.2.2; omega⟩
   ·rw [AQ (fun h => hb h.2.2.1)]
end
theorem uT {p : Prop} (h : p) : T.v (Value.bool true) = T.v (Value.bool (BT p)) := by rw [Aq h]
theorem uF {p : Prop} (h : ¬ p) : T.v (Value.bool false) = T.v (Value.bool (BT p)) := by rw [AQ h]
theorem uE {p q : Prop} (h : p ↔ q) : T.v (Value.bool (BT p)) = T.v (Value.bool (BT q)) := by rw [AT h]
theorem uN {p q : Prop} (h : ¬ p ↔ q) : T.v (Value.bool (!BT p)) = T.v (Value.bool (BT q)) := by rw [Ie, AT h]
theorem uB {b : Bool} {q : Prop} (h : b = true ↔ q) : T.v (Value.bool b) = T.v (Value.bool (BT q)) := by
 cases b
 ·exact uF (fun q => by have := h.2 q; simp at this)
 ·exact uT (h.1 rfl)
theorem uD {p q : Prop} [Decidable p] (h : p ↔ q) : T.v (Value.bool (decide p)) = T.v (Value.bool (BT q)) := by rw [← BZ, AT h]
def ED (a b : ByteArray) : Int := Lib.compareBytes (bl a) (bl b)
theorem UX : ∀ a b : List UInt8, (Lib.compareBytes a b < 0) ↔ Op.bytesLess a b = true
 | [], [] => by simp [Lib.compareBytes, Op.bytesLess]
 | [], _ :: _ => by simp [Lib.compareBytes, Op.bytesLess]
 | _ :: _, [] => by simp [Lib.compareBytes, Op.bytesLess]
 | a :: x, b :: y => by
   have ih := UX x y
   simp only [Lib.compareBytes, Op.bytesLess, Bool.or_eq_true, Bool.and_eq_true, decide_eq_true_eq, beq_iff_eq]
   by_cases h1 : a < b
   ·simp [h1]
   ·by_cases h2 : b < a
    ·have h3 : ¬ a = b := fun e => by subst e; exact absurd h2 (UInt8.lt_irrefl _)
     simp [h1, h2, h3]
    ·have h3 : a = b := UInt8.le_antisymm (UInt8.not_lt.1 h2) (UInt8.not_lt.1 h1)
     have hir := UInt8.lt_irrefl b
     simp only [h3, hir, if_false, false_or, true_and]
     exact ih
theorem cL : ∀ a b : List UInt8, (Lib.compareBytes a b = 0) ↔ a = b
 | [], [] => by simp [Lib.compareBytes]
 | [], _ :: _ => by simp [Lib.compareBytes]
 | _ :: _, [] => by simp [Lib.compareBytes]
 | a :: x, b :: y => by
   have ih := cL x y
   simp only [Lib.compareBytes, List.cons.injEq]
   by_cases h1 : a < b
   ·have h3 : ¬ a = b := fun e => by subst e; exact absurd h1 (UInt8.lt_irrefl _)
    simp [h1, h3]
   ·by_cases h2 : b < a
    ·have h3 : ¬ a = b := fun e => by subst e; exact absurd h2 (UInt8.lt_irrefl _)
     simp [h1, h2, h3]
    ·have h3 : a = b := UInt8.le_antisymm (UInt8.not_lt.1 h2) (UInt8.not_lt.1 h1)
     simp only [h3, true_and]
     rw [if_neg (UInt8.lt_irrefl b), if_neg (UInt8.lt_irrefl b)]
     exact ih
theorem Lr (a b : ByteArray) : ED a b < 0 ↔ EO a b = true := by
 unfold ED EO
 rw [UX, Fi, Fi]
theorem GG (a b : ByteArray) : ED a b = 0 ↔ a = b := by
 unfold ED
 rw [cL]
 exact ⟨GD, fun e => by rw [e]⟩
def Tt (a b : Ad) : Prop := EO a.domain b.domain = true ∨ (a.domain = b.domain ∧ EO a.user b.user = true)
def If (a b : Ad) : Int := if ED a.domain b.domain = 0 then ED a.user b.user else ED a.domain b.domain
theorem HU (a b : Ad) : If a b < 0 ↔ Tt a b := by
 unfold If Tt
 by_cases h : ED a.domain b.domain = 0
 ·rw [if_pos h, Lr]
  have h2 : ¬ EO a.domain b.domain = true := fun q => by have := (Lr _ _).2 q; omega
  exact ⟨fun q => .inr ⟨(GG _ _).1 h, q⟩, fun q => q.elim (fun q => absurd q h2) fun q => q.2⟩
 ·rw [if_neg h, Lr]
  exact ⟨.inl, fun q => q.elim id fun q => absurd ((GG _ _).2 q.1) h⟩
def j8 : List Int → Int
 | [] => 0
 | x :: r => if x = 0 then j8 r else x
theorem pG {x y : Int} : DC.decL [[.v (.int .i64 x)], [.v (.int .i64 y)]] = some [x, y] := DC.decL_map [x, y]
theorem Wh {xs : List Int} {i : Nat} (h : i < xs.length) : j8 (xs.drop i) = if xs.getD i default = 0 then j8 (xs.drop (i + 1)) else xs.getD i default := by
 rw [AW h]; rfl
def fq : Ct := At (lc Av (lc Av l0)) (fun _ => True) (fun p => .t (.v (.int .i64 (ED p.1 p.2.1))))
theorem mT (m : Int) : Eu Tryz.prog m 183 fq := Eu.of (r := fun (p : ByteArray × ByteArray × Unit) => .int .i64 (ED p.1 p.2.1)) (fun _ => trivial) fun p _ => by
 obtain ⟨s, c, ⟨⟩⟩ := p
 intro w pr vs hgl hv
 have := HC hv
 subst this
 have he : Extern.find Tryz.f183 = some Extern.BytealgCompare.compare := by kernel_rfl
 rw [run_callFunc_extern (fn := Tryz.f183) (by kernel_rfl) (by kernel_rfl) rfl (by kernel_rfl) he]
 have h := Lib.run_compareString (P := Tryz.prog) s c w
 rw [show ([Value.string s, Value.string c].toArray) = #[.string s, .string c] from rfl, h]
 rfl
def KZ (c : Cf) : Prop := (∀ s ∈ c.own, Di s) ∧ (∀ w ∈ c.ways, Di w.ends ∧ Di w.to) ∧ Di c.name ∧ (c.own.length : Int) ≤ 3 ∧ (c.ways.length : Int) ≤ 4
def fg : Ct := At (lc Av (lc Av l0)) (fun p => True) (fun p => .t (.v (.int .i64 (ED p.1 p.2.1))))
section
attribute [local go_sem] fq
theorem mK {G : Gt} (hG : Aj G) (hh : G.e 183 = AA 3 fq) : Gd G 165 (AA 0 fg) := by
 refine gr (fn := Tryz.f165) (n := 2) rfl hG ?_
 rintro ⟨a, b, ⟨⟩⟩ hpre
 simp -implicitDefEqProofs only [Tryz.f165, go_sem, hh, seval] at hpre ⊢
 with_reducible repeat' (first | apply ai | intro _ | ((first | apply s1 | apply s2 | apply s3 | apply s4) <;> intro hb <;> simp -implicitDefEqProofs only [hb, go_sem, hh, seval] <;> try simp only [qz] at hb))
 all_goals first | rfl | omega | skip
end
def fS : Ct := At (lc Av (lc Av l0)) (fun p => True) (fun p => .t (.v (.int .i64 (ED p.1 p.2.1))))
section
attribute [local go_sem] fg
theorem l4 {G : Gt} (hG : Aj G) (hh : G.e 165 = AA 0 fg) : Gd G 143 (AA 0 fS) := by
 refine gr (fn := Tryz.f143) (n := 2) rfl hG ?_
 rintro ⟨a, b, ⟨⟩⟩ hpre
 simp -implicitDefEqProofs only [Tryz.f143, go_sem, hh, seval] at hpre ⊢
 with_reducible repeat' (first | apply ai | intro _ | ((first | apply s1 | apply s2 | apply s3 | apply s4) <;> intro hb <;> simp -implicitDefEqProofs only [hb, go_sem, hh, seval] <;> try simp only [qz] at hb))
 all_goals first | rfl | omega | skip
end
def fR : Ct := At (lc DC.asl l0) (fun p => True) (fun p => .t (.v (.int .i64 (j8 p.1))))
section
attribute [local go_sem] lm
theorem l3 {G : Gt} (hG : Aj G) : Gd G 142 (AA 0 fR) := by
 refine gr (fn := Tryz.f142) (n := 1) rfl hG ?_
 rintro ⟨xs, ⟨⟩⟩ hpre
 simp -implicitDefEqProofs only [Tryz.f142, go_sem, seval] at hpre ⊢
 with_reducible repeat' (first | apply ai | intro _ | ((first | apply s1 | apply s2 | apply s3 | apply s4) <;> intro hb <;> simp -implicitDefEqProofs only [hb, go_sem, seval] <;> try simp only [qz] at hb))
 all_goals first | rfl | omega | skip
 refine AE [] (ι := {i : Nat // i ≤ xs.length ∧ j8 xs = j8 (xs.drop i)}) (fun p => ⟨[(3, .t (.v (.int .i64 0))), (6, .t (.sl 1 (xs.map An))), (7, .t (.v (.int .i64 xs.length))), (8, .t (.v (.int .i64 p.1)))], []⟩) (fun p => xs.length - p.1) ⟨0, by simp, rfl⟩ rfl ?_ ?_
 ·simp -implicitDefEqProofs only [go_sem, seval]
  try simp
 ·rintro ⟨i, hi, hor⟩
  by_cases hlt : (i : Int) < xs.length
  ·have hs := Wh (xs := xs) (i := i) (by omega)
   simp -implicitDefEqProofs only [hlt, decide_true, tn, go_sem, seval]
   with_reducible repeat' (first | apply ai | intro _ | ((first | apply s1 | apply s2 | apply s3 | apply s4) <;> intro hb <;> simp -implicitDefEqProofs only [hb, go_sem, seval] <;> try simp only [qz] at hb))
   all_goals (try simp only [maxLen] at *)
   all_goals first | rfl | omega | skip
   ·rw [hor, hs, if_neg (by assumption)]
   ·refine ⟨⟨i + 1, by omega, by rw [hor, hs, if_pos (by simpa using hb)]⟩, by dsimp only; omega, ?_⟩
    simp -implicitDefEqProofs only [go_sem, seval]
    try simp
  ·simp -implicitDefEqProofs only [hlt, decide_false, go_sem, seval]
   with_reducible repeat' (first | apply ai | intro _ | ((first | apply s1 | apply s2 | apply s3 | apply s4) <;> intro hb <;> simp -implicitDefEqProofs only [hb, go_sem, seval] <;> try simp only [qz] at hb))
   all_goals first | rfl | omega | skip
   rw [hor, List.drop_eq_nil_of_le (by omega)]
   rfl
end
def fC : Ct := At (lc Dd.ag (lc Dd.ag l0)) (fun p => True) (fun p => .t (.v (.int .i64 (If p.1 p.2.1))))
section
attribute [local go_sem] fS fR pG
theorem lL {G : Gt} (hG : Aj G) (hh : G.e 143 = AA 0 fS ∧ G.e 142 = AA 0 fR) : Gd G 100 (AA 0 fC) := by
 refine gr (fn := Tryz.f100) (n := 2) rfl hG ?_
 rintro ⟨a, b, ⟨⟩⟩ hpre
 simp -implicitDefEqProofs only [Tryz.f100, go_sem, hh, seval] at hpre ⊢
 with_reducible repeat' (first | apply ai | intro _ | ((first | apply s1 | apply s2 | apply s3 | apply s4) <;> intro hb <;> simp -implicitDefEqProofs only [hb, go_sem, hh, seval] <;> try simp only [qz] at hb))
 all_goals first | rfl | omega | skip
 all_goals
  refine congrArg (fun z => T.v (Value.int .i64 z)) ?_
  simp only [j8, If]
  by_cases h : ED a.domain b.domain = 0
  ·rw [if_pos h, if_pos h]
   by_cases h2 : ED a.user b.user = 0
   ·rw [if_pos h2, h2]
   ·rw [if_neg h2]
  ·rw [if_neg h, if_neg h]
end
def UK : Ct := At (lc Dd.ag (lc Dd.ag l0)) (fun p => True) (fun p => .t (.v (.bool (BT (Tt p.1 p.2.1)))))
theorem lw {G : Gt} (hG : Aj G) : Gd G 138 (AA 0 UK) := by
 refine gr (fn := Tryz.f138) (n := 2) rfl hG ?_
 rintro ⟨a, b, ⟨⟩⟩ hpre
 simp -implicitDefEqProofs only [Tryz.f138, go_sem, seval] at hpre ⊢
 with_reducible repeat' (first | apply ai | intro _ | ((first | apply s1 | apply s2 | apply s3 | apply s4) <;> intro hb <;> simp -implicitDefEqProofs only [hb, go_sem, seval] <;> try simp only [qz] at hb))
 all_goals first | rfl | omega | skip
 all_goals first
  | exact uT (.inl (by assumption))
  | exact uB ⟨fun q => .inr ⟨by assumption, q⟩, fun q => q.elim (fun q => by simp_all) fun q => q.2⟩
  | exact uF (fun q => q.elim (fun q => by simp_all) fun q => by simp_all)
  | skip
def dv (b : Bx) : Prop := (∀ g ∈ b.mails, (BK g.frm ∨ AU g.frm) ∧ CU g.body) ∧ BK b.addr
def Ta (h : Hs) (j : Nat) : Prop := dv (h.boxes.getD j default) ∧ (0 < j → Tt (h.boxes.getD (j - 1) default).addr (h.boxes.getD j default).addr) ∧ (h.boxes.getD j default).addr.domain ∈ h.conf.own
def Fk (h : Hs) : Prop := (∀ j, j < h.boxes.length → Ta h j) ∧ KZ h.conf ∧ Bl h.spool
theorem CL {P : Nat → Prop} {i : Nat} (h : ∀ j, j < i → P j) (hi : P i) : ∀ j, j < i + 1 → P j := fun j hj => by
 by_cases e : j = i
 ·rw [e]; exact hi
 ·exact h j (by omega)
theorem aR {xs : List ByteArray} {a : ByteArray} (h : ∀ j, j < xs.length → ¬ xs.getD j default = a) : ¬ a ∈ xs := fun hm => by
 obtain ⟨j, hj, e⟩ := List.getElem_of_mem hm
 exact h j hj (by simp [hj, e])
def oz : Ct := At (lc I0.ag l0) (fun p => True) (fun p => .t (.v (.bool (BT (KZ p.1)))))
section
attribute [local go_sem] Y9 Ac Ab lm
set_option maxHeartbeats 1600000 in
theorem qI {G : Gt} (hG : Aj G) (hh : G.e 93 = AA 0 Y9) : Gd G 48 (AA 0 oz) := by
 refine gr (fn := Tryz.f48) (n := 1) rfl hG ?_
 rintro ⟨c, ⟨⟩⟩ hpre
 simp -implicitDefEqProofs only [Tryz.f48, go_sem, hh, seval] at hpre ⊢
 refine AE [] (ι := {i : Nat // i ≤ c.own.length ∧ ∀ j, j < i → Di (c.own.getD j default)}) (fun p => ⟨[(1, .pb 1001 0), (3, .t (.v (.int .i64 p.1)))], [(1001, some (.box ((C9 c).map .t)))]⟩) (fun p => c.own.length - p.1) ⟨0, by simp, by simp⟩ rfl ?_ ?_
 ·simp -implicitDefEqProofs only [go_sem, hh, seval]
  try simp
 ·rintro ⟨i, hi, hall⟩
  by_cases hlt : (i : Int) < c.own.length
  ·simp -implicitDefEqProofs only [hlt, decide_true, tn, go_sem, hh, seval]
   with_reducible repeat' (first | apply ai | intro _ | ((first | apply s1 | apply s2 | apply s3 | apply s4) <;> intro hb <;> simp -implicitDefEqProofs only [hb, go_sem, hh, seval] <;> try simp only [qz] at hb))
   all_goals (try simp only [maxLen] at *)
   all_goals first | rfl | omega | skip
   ·exact uF (fun h => hb (h.1 _ (AC (by omega))))
   ·refine ⟨⟨i + 1, by omega, CL hall hb⟩, by dsimp only; omega, ?_⟩
    simp -implicitDefEqProofs only [go_sem, hh, seval]
    try simp
  ·have hA : ∀ s ∈ c.own, Di s := BC fun j hj => hall j (by omega)
   simp -implicitDefEqProofs only [hlt, decide_false, go_sem, hh, seval]
   with_reducible repeat' (first | apply ai | intro _ | ((first | apply s1 | apply s2 | apply s3 | apply s4) <;> intro hb <;> simp -implicitDefEqProofs only [hb, go_sem, hh, seval] <;> try simp only [qz] at hb))
   all_goals first | rfl | omega | skip
   refine AE [] (ι := {i : Nat // i ≤ c.ways.length ∧ ∀ j, j < i → Di (c.ways.getD j default).ends ∧ Di (c.ways.getD j default).to}) (fun p => ⟨[(1, .pb 1001 0), (4, .t (.v (.int .i64 p.1)))], [(1001, some (.box ((C9 c).map .t)))]⟩) (fun p => c.ways.length - p.1) ⟨0, by simp, by simp⟩ rfl ?_ ?_
   ·simp -implicitDefEqProofs only [go_sem, hh, seval]
    try simp
   ·rintro ⟨k, hk, hall2⟩
    by_cases hlt2 : (k : Int) < c.ways.length
    ·simp -implicitDefEqProofs only [hlt2, decide_true, tn, go_sem, hh, seval]
     with_reducible repeat' (first | apply ai | intro _ | ((first | apply s1 | apply s2 | apply s3 | apply s4) <;> intro hb <;> simp -implicitDefEqProofs only [hb, go_sem, hh, seval] <;> try simp only [qz] at hb))
     all_goals (try simp only [maxLen] at *)
     all_goals first
      | rfl
      | omega
      | exact uF (fun h => hb (h.2.1 _ (AC (by omega))).1)
      | exact uF (fun h => hb (h.2.1 _ (AC (by omega))).2)
      | skip
     refine ⟨⟨k + 1, by omega, CL (P := fun j => Di (c.ways.getD j default).ends ∧ Di (c.ways.getD j default).to) hall2 ⟨by assumption, by assumption⟩⟩, by dsimp only; omega, ?_⟩
     simp -implicitDefEqProofs only [go_sem, hh, seval]
     try simp
    ·have hB : ∀ w ∈ c.ways, Di w.ends ∧ Di w.to := BC fun j hj => hall2 j (by omega)
     simp -implicitDefEqProofs only [hlt2, decide_false, go_sem, hh, seval]
     with_reducible repeat' (first | apply ai | intro _ | ((first | apply s1 | apply s2 | apply s3 | apply s4) <;> intro hb <;> simp -implicitDefEqProofs only [hb, go_sem, hh, seval] <;> try simp only [qz] at hb))
     all_goals first
      | rfl
      | omega
      | exact uD ⟨fun q => ⟨hA, hB, by assumption, by omega, q⟩, fun q => q.2.2.2.2⟩
      | exact uF (fun q => absurd q.2.2.1 (by assumption))
      | exact uF (fun q => by have h1 := q.2.2.2.1; have h2 := q.2.2.2.2; omega)
      | skip
end
def Ln : Ct := At (lc I0.ag (lc Dd.ag l0)) (fun p => True) (fun p => .t (.v (.bool (BT (p.2.1.domain ∈ p.1.own)))))
section
attribute [local go_sem] lm
theorem lx {G : Gt} (hG : Aj G) : Gd G 139 (AA 0 Ln) := by
 refine gr (fn := Tryz.f139) (n := 2) rfl hG ?_
 rintro ⟨c, a, ⟨⟩⟩ hpre
 simp -implicitDefEqProofs only [Tryz.f139, go_sem, seval] at hpre ⊢
 refine AE [] (ι := {i : Nat // i ≤ c.own.length ∧ ∀ j, j < i → ¬ c.own.getD j default = a.domain}) (fun p => ⟨[(2, .pb 1002 0), (3, .pb 1003 0), (5, .t (.v (.int .i64 p.1)))], [(1002, some (.box ((C9 c).map .t))), (1003, some (.box ((Aw a).map .t)))]⟩) (fun p => c.own.length - p.1) ⟨0, by simp, by simp⟩ rfl ?_ ?_
 ·simp -implicitDefEqProofs only [go_sem, seval]
  try simp
 ·rintro ⟨i, hi, hall⟩
  by_cases hlt : (i : Int) < c.own.length
  ·simp -implicitDefEqProofs only [hlt, decide_true, tn, go_sem, seval]
   with_reducible repeat' (first | apply ai | intro _ | ((first | apply s1 | apply s2 | apply s3 | apply s4) <;> intro hb <;> simp -implicitDefEqProofs only [hb, go_sem, seval] <;> try simp only [qz] at hb))
   all_goals (try simp only [maxLen] at *)
   all_goals first | rfl | omega | skip
   ·exact uT (by rw [← hb]; exact AC (by omega))
   ·refine ⟨⟨i + 1, by omega, CL hall hb⟩, by dsimp only; omega, ?_⟩
    simp -implicitDefEqProofs only [go_sem, seval]
    try simp
  ·simp -implicitDefEqProofs only [hlt, decide_false, go_sem, seval]
   with_reducible repeat' (first | apply ai | intro _ | ((first | apply s1 | apply s2 | apply s3 | apply s4) <;> intro hb <;> simp -implicitDefEqProofs only [hb, go_sem, seval] <;> try simp only [qz] at hb))
   all_goals first | rfl | omega | skip
   exact uF (aR fun j hj => hall j (by omega))
end
def fO : Ct := At (lc Tb.ag l0) (fun p => True) (fun p => .t (.v (.bool (BT (dv p.1)))))
section
attribute [local go_sem] Lm SB R9 Ac Ab lm
set_option maxHeartbeats 1600000 in
theorem lu {G : Gt} (hG : Aj G) (hh : G.e 122 = AA 0 Lm ∧ G.e 74 = AA 0 SB ∧ G.e 72 = AA 0 R9) : Gd G 137 (AA 0 fO) := by
 refine gr (fn := Tryz.f137) (n := 1) rfl hG ?_
 rintro ⟨b, ⟨⟩⟩ hpre
 simp -implicitDefEqProofs only [Tryz.f137, go_sem, hh, seval] at hpre ⊢
 refine AE [] (ι := {i : Nat // i ≤ b.mails.length ∧ ∀ j, j < i → (BK (b.mails.getD j default).frm ∨ AU (b.mails.getD j default).frm) ∧ CU (b.mails.getD j default).body}) (fun p => ⟨[(1, .pb 1001 0), (3, .t (.v (.int .i64 p.1)))], [(1001, some (.box ((CF b).map .t)))]⟩) (fun p => b.mails.length - p.1) ⟨0, by simp, by simp⟩ rfl ?_ ?_
 ·simp -implicitDefEqProofs only [go_sem, hh, seval]
  try simp
 ·rintro ⟨i, hi, hall⟩
  by_cases hlt : (i : Int) < b.mails.length
  ·simp -implicitDefEqProofs only [hlt, decide_true, tn, go_sem, hh, seval]
   with_reducible repeat' (first | apply ai | intro _ | ((first | apply s1 | apply s2 | apply s3 | apply s4) <;> intro hb <;> simp -implicitDefEqProofs only [hb, go_sem, hh, seval] <;> try simp only [qz] at hb))
   all_goals (try simp only [maxLen, tn] at *)
   all_goals first
    | rfl
    | omega
    | exact uF (fun h => absurd (h.1 (b.mails.getD i default) (AC (by omega))).2 (by assumption))
    | exact uF (fun h => (h.1 (b.mails.getD i default) (AC (by omega))).1.elim (fun q => absurd q (by assumption)) fun q => absurd q (by assumption))
    | skip
   all_goals
    refine ⟨⟨i + 1, by omega, CL (P := fun j => (BK (b.mails.getD j default).frm ∨ AU (b.mails.getD j default).frm) ∧ CU (b.mails.getD j default).body) hall ⟨by first | exact .inl (by assumption) | exact .inr (by assumption), by assumption⟩⟩, by dsimp only; omega, ?_⟩
    simp -implicitDefEqProofs only [go_sem, hh, seval]
    try simp
  ·have hA : ∀ g ∈ b.mails, (BK g.frm ∨ AU g.frm) ∧ CU g.body := BC (P := fun g : Gm => (BK g.frm ∨ AU g.frm) ∧ CU g.body) fun j hj => hall j (by omega)
   simp -implicitDefEqProofs only [hlt, decide_false, go_sem, hh, seval]
   with_reducible repeat' (first | apply ai | intro _ | ((first | apply s1 | apply s2 | apply s3 | apply s4) <;> intro hb <;> simp -implicitDefEqProofs only [hb, go_sem, hh, seval] <;> try simp only [qz] at hb))
   all_goals first | rfl | omega | exact uE ⟨fun q => ⟨hA, q⟩, fun q => q.2⟩ | skip
end
def te : Ct := At (lc GU.ag l0) (fun p => True) (fun p => .t (.v (.bool (BT (Fk p.1)))))
section
attribute [local go_sem] fO UK Ln oz ov Ac Ab lm
set_option maxHeartbeats 6400000 in
theorem qq {G : Gt} (hG : Aj G) (hh : G.e 137 = AA 0 fO ∧ G.e 138 = AA 0 UK ∧ G.e 139 = AA 0 Ln ∧ G.e 48 = AA 0 oz ∧ G.e 30 = AA 0 ov) : Gd G 94 (AA 0 te) := by
 refine gr (fn := Tryz.f94) (n := 1) rfl hG ?_
 rintro ⟨h, ⟨⟩⟩ hpre
 simp -implicitDefEqProofs only [Tryz.f94, go_sem, hh, seval] at hpre ⊢
 refine AE [] (ι := {i : Nat // i ≤ h.boxes.length ∧ ∀ j, j < i → Ta h j}) (fun p => ⟨[(1, .pb 1001 0), (3, .t (.v (.int .i64 p.1)))], [(1001, some (.box ((Ah h).map .t)))]⟩) (fun p => h.boxes.length - p.1) ⟨0, by simp, by simp⟩ rfl ?_ ?_
 ·simp -implicitDefEqProofs only [go_sem, hh, seval]
  try simp
 ·rintro ⟨i, hi, hall⟩
  by_cases hlt : (i : Int) < h.boxes.length
  ·simp -implicitDefEqProofs only [hlt, decide_true, tn, go_sem, hh, seval]
   with_reducible repeat' (first | apply ai | intro _ | ((first | apply s1 | apply s2 | apply s3 | apply s4) <;> intro hb <;> simp -implicitDefEqProofs only [hb, go_sem, hh, seval] <;> try simp only [qz] at hb))
   all_goals (try simp only [maxLen, tn] at *)
   all_goals have hnat : ((i : Int) - 1).toNat = i - 1 := by omega
   all_goals first
    | rfl
    | omega
    | exact uF (fun q => absurd (q.1 i (by omega)).1 (by assumption))
    | exact uF (fun q => absurd (q.1 i (by omega)).2.2 (by assumption))
    | exact uF (fun q => absurd ((q.1 i (by omega)).2.1 (by omega)) (by rw [← hnat]; assumption))
    | skip
   all_goals
    refine ⟨⟨i + 1, by omega, CL hall ⟨by assumption, fun _ => by first | (rw [← hnat]; assumption) | (exfalso; omega), by assumption⟩⟩, by dsimp only; omega, ?_⟩
    simp -implicitDefEqProofs only [go_sem, hh, seval]
    try simp
  ·simp -implicitDefEqProofs only [hlt, decide_false, go_sem, hh, seval]
   with_reducible repeat' (first | apply ai | intro _ | ((first | apply s1 | apply s2 | apply s3 | apply s4) <;> intro hb <;> simp -implicitDefEqProofs only [hb, go_sem, hh, seval] <;> try simp only [qz] at hb))
   all_goals first
    | rfl
    | omega
    | exact uE ⟨fun q => ⟨fun j hj => hall j (by omega), by assumption, q⟩, fun q => q.2.2⟩
    | exact uF (fun q => absurd q.2.1 (by assumption))
    | skip
end
inductive Mi where
 | bad
def Mi.enc : Mi → AV
 | .bad  => .t (.fn 97 [])
def Mi.dec : AV → Option Mi
 | .t (.fn 97 []) => some (.bad )
 | _ => none
def Mi.sem : Mi → Gm → Prop
 | .bad , x => ¬ ((BK x.frm ∨ AU x.frm) ∧ CU x.body)
def Mi.pre : Mi → Gm → Prop
 | .bad , x => x.frm.domain.size ≤ 2000000 ∧ ∀ s ∈ x.body, s.size ≤ 2000000
def Xd : AD Mi where
 enc := Mi.enc
 dec := Mi.dec
 ed := fun f => by cases f <;> rfl
 de := fun x f h => by
  unfold Mi.dec at h
  split at h <;> cases h <;> rfl
theorem IU  : Xd.dec (.t (.fn 97 [])) = some (.bad ) := rfl
theorem IV  : Xd.enc (.bad ) = .t (.fn 97 []) := rfl
def tf : Ct := At (lc QO.ag l0) (fun p => p.1.frm.domain.size ≤ 2000000 ∧ ∀ s ∈ p.1.body, s.size ≤ 2000000) (fun p => .t (.v (.bool (BT (¬ ((BK p.1.frm ∨ AU p.1.frm) ∧ CU p.1.body))))))
section
attribute [local go_sem] pA gu Bool.not_true Bool.not_false DB Fp
theorem qt {G : Gt} (hG : Aj G) (hh : G.e 80 = AA 0 pA ∧ G.e 82 = AA 0 gu) : Gd G 97 (AA 0 tf) := by
 refine gr (fn := Tryz.f97) (n := 1) rfl hG ?_
 rintro ⟨x, ⟨⟩⟩ hpre
 simp -implicitDefEqProofs only [Tryz.f97, go_sem, hh, seval] at hpre ⊢
 with_reducible repeat' (first | apply ai | intro _ | ((first | apply s1 | apply s2 | apply s3 | apply s4) <;> intro hb <;> simp -implicitDefEqProofs only [hb, go_sem, hh, seval] <;> try simp only [qz] at hb))
 all_goals first | rfl | omega | exact hpre.1 | exact hpre.2 | exact hpre.2 _ (by assumption) | skip
 all_goals first
  | exact uT (fun h => absurd h.1 (by assumption))
  | exact uN ⟨fun h q => h q.2, fun h q => h ⟨by assumption, q⟩⟩
  | skip
end
def fQ : Ct := At (lc QO.asl (lc Xd l0)) (fun p => ∀ x ∈ p.1, p.2.1.pre x) (fun p => .t (.v (.int .i64 (BF p.2.1.sem 0 p.1))))
section
attribute [local go_sem] tf Bool.not_true Bool.not_false DB Fp IU IV
theorem lz {G : Gt} (hG : Aj G) (hh : G.e 97 = AA 0 tf) : Gd G 141 (AA 0 fQ) := by
 refine gr (fn := Tryz.f141) (n := 2) rfl hG ?_
 rintro ⟨xs, f, ⟨⟩⟩ hpre
 have hs := hpre
 dsimp only at hs ⊢
 cases f with
 | bad  =>
   simp -implicitDefEqProofs only [Tryz.f141, go_sem, hh, seval]
   with_reducible repeat' (first | apply ai | intro _ | ((first | apply s1 | apply s2 | apply s3 | apply s4) <;> intro hb <;> simp -implicitDefEqProofs only [hb, go_sem, hh, seval] <;> try simp only [qz] at hb))
   all_goals first | rfl | omega | skip
   refine AE [] (ι := {i : Nat // i ≤ xs.length ∧ BF (Mi.sem (.bad )) 0 xs = BF (Mi.sem (.bad )) i (xs.drop i)}) (fun p => ⟨[(0, .t (.sl 3 (xs.map DS))), (1, .t (.fn 97 [])), (7, .t (.v (.int .i64 xs.length))), (8, .t (.v (.int .i64 p.1)))], []⟩) (fun p => xs.length - p.1) ⟨0, Nat.zero_le _, rfl⟩ rfl ?_ ?_
   ·simp -implicitDefEqProofs only [go_sem, hh, seval]
    try simp
   ·rintro ⟨i, hi, hix⟩
    by_cases hlt : (i : Int) < xs.length
    ·have hm : xs.getD (i : Int).toNat default ∈ xs := AC (by omega)
     have hsz := hs _ hm
     cases hb : BT (¬ ((BK (xs.getD (i : Int).toNat default).frm ∨ AU (xs.getD (i : Int).toNat default).frm) ∧ CU (xs.getD (i : Int).toNat default).body))
     ·have hq := hb
      simp -implicitDefEqProofs only [hlt, hq, go_sem, hh, seval]
      with_reducible repeat' (first | apply ai | intro _ | ((first | apply s1 | apply s2 | apply s3 | apply s4) <;> intro hb <;> simp -implicitDefEqProofs only [hb, go_sem, hh, seval] <;> try simp only [qz] at hb))
      all_goals (try simp only [maxLen] at *)
      all_goals first | rfl | omega | with_reducible assumption | exact hsz | exact hsz.1 | exact hsz.2 | exact hsz.2 _ (by assumption) | exact hsz.2.1 | exact hsz.2.2.1 | exact hsz.2.2.2 | trivial | skip
      rw [Ab, tn] at hb
      refine ⟨⟨i + 1, by omega, ?_⟩, by dsimp only; omega, ?_⟩
      ·rw [hix, E8 (p := Mi.sem (.bad )) (by omega) hb]
      ·simp -implicitDefEqProofs only [go_sem, hh, seval]
       try simp
     ·have hq := hb
      simp -implicitDefEqProofs only [hlt, hq, go_sem, hh, seval]
      with_reducible repeat' (first | apply ai | intro _ | ((first | apply s1 | apply s2 | apply s3 | apply s4) <;> intro hb <;> simp -implicitDefEqProofs only [hb, go_sem, hh, seval] <;> try simp only [qz] at hb))
      all_goals (try simp only [maxLen] at *)
      all_goals first | rfl | omega | with_reducible assumption | exact hsz | exact hsz.1 | exact hsz.2 | exact hsz.2 _ (by assumption) | exact hsz.2.1 | exact hsz.2.2.1 | exact hsz.2.2.2 | trivial | skip
      rw [Ac, tn] at hb
      rw [hix, Dn (p := Mi.sem (.bad )) (by omega) hb]
    ·simp -implicitDefEqProofs only [hlt, go_sem, hh, seval]
     with_reducible repeat' (first | apply ai | intro _ | ((first | apply s1 | apply s2 | apply s3 | apply s4) <;> intro hb <;> simp -implicitDefEqProofs only [hb, go_sem, hh, seval] <;> try simp only [qz] at hb))
     all_goals first | rfl | omega | skip
     all_goals (rw [hix, Dm (by omega)])
end
def th : Ct := At (lc QO.asl (lc Xd l0)) (fun p => ∀ x ∈ p.1, p.2.1.pre x) (fun p => .t (.v (.bool (BT (∃ x ∈ p.1, p.2.1.sem x)))))
section
attribute [local go_sem] fQ Bool.not_true Bool.not_false DB Fp IU IV
theorem qv {G : Gt} (hG : Aj G) (hh : G.e 141 = AA 0 fQ) : Gd G 99 (AA 0 th) := by
 refine gr (fn := Tryz.f99) (n := 2) rfl hG ?_
 rintro ⟨xs, f, ⟨⟩⟩ hpre
 dsimp only at hpre ⊢
 cases f
 all_goals
  simp -implicitDefEqProofs only [Tryz.f99, go_sem, hh, seval]
  with_reducible repeat' (first | apply ai | intro _ | ((first | apply s1 | apply s2 | apply s3 | apply s4) <;> intro hb <;> simp -implicitDefEqProofs only [hb, go_sem, hh, seval] <;> try simp only [qz] at hb))
  all_goals first | rfl | omega | exact hpre | exact hpre _ (by assumption) | skip
  all_goals (rw [← AT (Ee _ 0)]; rw [BZ])
end
inductive Mj where
 | way
def Mj.enc : Mj → AV
 | .way  => .t (.fn 133 [])
def Mj.dec : AV → Option Mj
 | .t (.fn 133 []) => some (.way )
 | _ => none
def Mj.sem : Mj → Wy → Prop
 | .way , x => ¬ (Di x.ends ∧ Di x.to)
def Mj.pre : Mj → Wy → Prop
 | .way , x => x.ends.size ≤ 2000000 ∧ x.to.size ≤ 2000000
def Xe : AD Mj where
 enc := Mj.enc
 dec := Mj.dec
 ed := fun f => by cases f <;> rfl
 de := fun x f h => by
  unfold Mj.dec at h
  split at h <;> cases h <;> rfl
theorem IW  : Xe.dec (.t (.fn 133 [])) = some (.way ) := rfl
theorem IX  : Xe.enc (.way ) = .t (.fn 133 []) := rfl
def fM : Ct := At (lc Kv.ag l0) (fun p => p.1.ends.size ≤ 2000000 ∧ p.1.to.size ≤ 2000000) (fun p => .t (.v (.bool (BT (¬ (Di p.1.ends ∧ Di p.1.to))))))
section
attribute [local go_sem] Y8 Bool.not_true Bool.not_false DB Fp
theorem lp {G : Gt} (hG : Aj G) (hh : G.e 84 = AA 0 Y8) : Gd G 133 (AA 0 fM) := by
 refine gr (fn := Tryz.f133) (n := 1) rfl hG ?_
 rintro ⟨x, ⟨⟩⟩ hpre
 simp -implicitDefEqProofs only [Tryz.f133, go_sem, hh, seval] at hpre ⊢
 with_reducible repeat' (first | apply ai | intro _ | ((first | apply s1 | apply s2 | apply s3 | apply s4) <;> intro hb <;> simp -implicitDefEqProofs only [hb, go_sem, hh, seval] <;> try simp only [qz] at hb))
 all_goals first | rfl | omega | exact hpre.1 | exact hpre.2 | exact hpre.2 _ (by assumption) | skip
 all_goals first
  | exact uT (fun h => absurd h.1 (by assumption))
  | exact uN ⟨fun h q => h q.2, fun h q => h ⟨by assumption, q⟩⟩
  | skip
end
def fe : Ct := At (lc Kv.asl (lc Xe l0)) (fun p => ∀ x ∈ p.1, p.2.1.pre x) (fun p => .t (.v (.int .i64 (BF p.2.1.sem 0 p.1))))
section
attribute [local go_sem] fM Bool.not_true Bool.not_false DB Fp IW IX
theorem mI {G : Gt} (hG : Aj G) (hh : G.e 133 = AA 0 fM) : Gd G 163 (AA 0 fe) := by
 refine gr (fn := Tryz.f163) (n := 2) rfl hG ?_
 rintro ⟨xs, f, ⟨⟩⟩ hpre
 have hs := hpre
 dsimp only at hs ⊢
 cases f with
 | way  =>
   simp -implicitDefEqProofs only [Tryz.f163, go_sem, hh, seval]
   with_reducible repeat' (first | apply ai | intro _ | ((first | apply s1 | apply s2 | apply s3 | apply s4) <;> intro hb <;> simp -implicitDefEqProofs only [hb, go_sem, hh, seval] <;> try simp only [qz] at hb))
   all_goals first | rfl | omega | skip
   refine AE [] (ι := {i : Nat // i ≤ xs.length ∧ BF (Mj.sem (.way )) 0 xs = BF (Mj.sem (.way )) i (xs.drop i)}) (fun p => ⟨[(0, .t (.sl 2 (xs.map B0))), (1, .t (.fn 133 [])), (7, .t (.v (.int .i64 xs.length))), (8, .t (.v (.int .i64 p.1)))], []⟩) (fun p => xs.length - p.1) ⟨0, Nat.zero_le _, rfl⟩ rfl ?_ ?_
   ·simp -implicitDefEqProofs only [go_sem, hh, seval]
    try simp
   ·rintro ⟨i, hi, hix⟩
    by_cases hlt : (i : Int) < xs.length
    ·have hm : xs.getD (i : Int).toNat default ∈ xs := AC (by omega)
     have hsz := hs _ hm
     cases hb : BT (¬ (Di (xs.getD (i : Int).toNat default).ends ∧ Di (xs.getD (i : Int).toNat default).to))
     ·have hq := hb
      simp -implicitDefEqProofs only [hlt, hq, go_sem, hh, seval]
      with_reducible repeat' (first | apply ai | intro _ | ((first | apply s1 | apply s2 | apply s3 | apply s4) <;> intro hb <;> simp -implicitDefEqProofs only [hb, go_sem, hh, seval] <;> try simp only [qz] at hb))
      all_goals (try simp only [maxLen] at *)
      all_goals first | rfl | omega | with_reducible assumption | exact hsz | exact hsz.1 | exact hsz.2 | exact hsz.2 _ (by assumption) | exact hsz.2.1 | exact hsz.2.2.1 | exact hsz.2.2.2 | trivial | skip
      rw [Ab, tn] at hb
      refine ⟨⟨i + 1, by omega, ?_⟩, by dsimp only; omega, ?_⟩
      ·rw [hix, E8 (p := Mj.sem (.way )) (by omega) hb]
      ·simp -implicitDefEqProofs only [go_sem, hh, seval]
       try simp
     ·have hq := hb
      simp -implicitDefEqProofs only [hlt, hq, go_sem, hh, seval]
      with_reducible repeat' (first | apply ai | intro _ | ((first | apply s1 | apply s2 | apply s3 | apply s4) <;> intro hb <;> simp -implicitDefEqProofs only [hb, go_sem, hh, seval] <;> try simp only [qz] at hb))
      all_goals (try simp only [maxLen] at *)
      all_goals first | rfl | omega | with_reducible assumption | exact hsz | exact hsz.1 | exact hsz.2 | exact hsz.2 _ (by assumption) | exact hsz.2.1 | exact hsz.2.2.1 | exact hsz.2.2.2 | trivial | skip
      rw [Ac, tn] at hb
      rw [hix, Dn (p := Mj.sem (.way )) (by omega) hb]
    ·simp -implicitDefEqProofs only [hlt, go_sem, hh, seval]
     with_reducible repeat' (first | apply ai | intro _ | ((first | apply s1 | apply s2 | apply s3 | apply s4) <;> intro hb <;> simp -implicitDefEqProofs only [hb, go_sem, hh, seval] <;> try simp only [qz] at hb))
     all_goals first | rfl | omega | skip
     all_goals (rw [hix, Dm (by omega)])
end
def fN : Ct := At (lc Kv.asl (lc Xe l0)) (fun p => ∀ x ∈ p.1, p.2.1.pre x) (fun p => .t (.v (.bool (BT (∃ x ∈ p.1, p.2.1.sem x)))))
section
attribute [local go_sem] fe Bool.not_true Bool.not_false DB Fp IW IX
theorem lq {G : Gt} (hG : Aj G) (hh : G.e 163 = AA 0 fe) : Gd G 134 (AA 0 fN) := by
 refine gr (fn := Tryz.f134) (n := 2) rfl hG ?_
 rintro ⟨xs, f, ⟨⟩⟩ hpre
 dsimp only at hpre ⊢
 cases f
 all_goals
  simp -implicitDefEqProofs only [Tryz.f134, go_sem, hh, seval]
  with_reducible repeat' (first | apply ai | intro _ | ((first | apply s1 | apply s2 | apply s3 | apply s4) <;> intro hb <;> simp -implicitDefEqProofs only [hb, go_sem, hh, seval] <;> try simp only [qz] at hb))
  all_goals first | rfl | omega | exact hpre | exact hpre _ (by assumption) | skip
  all_goals (rw [← AT (Ee _ 0)]; rw [BZ])
end
def ff : Ct := At (lc Al.asl (lc Av l0)) (fun p => True) (fun p => .t (.v (.int .i64 (BF (fun s : ByteArray => s = p.2.1) 0 p.1))))
section
attribute [local go_sem] lm
theorem mJ {G : Gt} (hG : Aj G) : Gd G 164 (AA 0 ff) := by
 refine gr (fn := Tryz.f164) (n := 2) rfl hG ?_
 rintro ⟨xs, a, ⟨⟩⟩ hpre
 simp -implicitDefEqProofs only [Tryz.f164, go_sem, seval] at hpre ⊢
 with_reducible repeat' (first | apply ai | intro _ | ((first | apply s1 | apply s2 | apply s3 | apply s4) <;> intro hb <;> simp -implicitDefEqProofs only [hb, go_sem, seval] <;> try simp only [qz] at hb))
 all_goals first | rfl | omega | skip
 refine AE [] (ι := {i : Nat // i ≤ xs.length ∧ BF (fun s : ByteArray => s = a) 0 xs = BF (fun s : ByteArray => s = a) i (xs.drop i)}) (fun p => ⟨[(0, .t (.sl 1 (xs.map AH))), (1, .t (.v (.string a))), (7, .t (.v (.int .i64 xs.length))), (8, .t (.v (.int .i64 p.1)))], []⟩) (fun p => xs.length - p.1) ⟨0, by simp, rfl⟩ rfl ?_ ?_
 ·simp -implicitDefEqProofs only [go_sem, seval]
  try simp
 ·rintro ⟨i, hi, hix⟩
  by_cases hlt : (i : Int) < xs.length
  ·simp -implicitDefEqProofs only [hlt, decide_true, tn, go_sem, seval]
   with_reducible repeat' (first | apply ai | intro _ | ((first | apply s1 | apply s2 | apply s3 | apply s4) <;> intro hb <;> simp -implicitDefEqProofs only [hb, go_sem, seval] <;> try simp only [qz] at hb))
   all_goals (try simp only [maxLen] at *)
   all_goals first | rfl | omega | skip
   ·rw [hix, Dn (p := fun s : ByteArray => s = a) (by omega) hb.symm]
   ·refine ⟨⟨i + 1, by omega, by rw [hix, E8 (p := fun s : ByteArray => s = a) (by omega) (fun e => hb e.symm)]⟩, by dsimp only; omega, ?_⟩
    simp -implicitDefEqProofs only [go_sem, seval]
    try simp
  ·simp -implicitDefEqProofs only [hlt, decide_false, go_sem, seval]
   with_reducible repeat' (first | apply ai | intro _ | ((first | apply s1 | apply s2 | apply s3 | apply s4) <;> intro hb <;> simp -implicitDefEqProofs only [hb, go_sem, seval] <;> try simp only [qz] at hb))
   all_goals first | rfl | omega | skip
   rw [hix, Dm (by omega)]
end
def fP : Ct := At (lc Al.asl (lc Av l0)) (fun p => True) (fun p => .t (.v (.bool (BT (p.2.1 ∈ p.1)))))
section
attribute [local go_sem] ff
theorem ly {G : Gt} (hG : Aj G) (hh : G.e 164 = AA 0 ff) : Gd G 140 (AA 0 fP) := by
 refine gr (fn := Tryz.f140) (n := 2) rfl hG ?_
 rintro ⟨xs, a, ⟨⟩⟩ hpre
 simp -implicitDefEqProofs only [Tryz.f140, go_sem, hh, seval] at hpre ⊢
 with_reducible repeat' (first | apply ai | intro _ | ((first | apply s1 | apply s2 | apply s3 | apply s4) <;> intro hb <;> simp -implicitDefEqProofs only [hb, go_sem, hh, seval] <;> try simp only [qz] at hb))
 all_goals first | rfl | omega | skip
 refine uD ?_
 rw [ge_iff_le, Ee]
 exact ⟨fun ⟨x, hx, e⟩ => e ▸ hx, fun h => ⟨a, h, rfl⟩⟩
end
def tg : Ct := At (lc I0.ag (lc Av l0)) (fun p => True) (fun p => .t (.v (.bool (BT (p.2.1 ∈ p.1.own)))))
section
attribute [local go_sem] fP
theorem qu {G : Gt} (hG : Aj G) (hh : G.e 140 = AA 0 fP) : Gd G 98 (AA 0 tg) := by
 refine gr (fn := Tryz.f98) (n := 2) rfl hG ?_
 rintro ⟨c, a, ⟨⟩⟩ hpre
 simp -implicitDefEqProofs only [Tryz.f98, go_sem, hh, seval] at hpre ⊢
 with_reducible repeat' (first | apply ai | intro _ | ((first | apply s1 | apply s2 | apply s3 | apply s4) <;> intro hb <;> simp -implicitDefEqProofs only [hb, go_sem, hh, seval] <;> try simp only [qz] at hb))
 all_goals first | rfl | omega | skip
end
def tc : Ct := At (lc I0.ag l0) (fun p => My p.1) (fun p => .t (.v (.bool (BT (KZ p.1)))))
section
attribute [local go_sem] Y8 UI fN Bool.not_true Bool.not_false DB Fp IU IV IW IX D1 D3 D2 D4 Ac Ab lm
set_option maxHeartbeats 1600000 in
theorem qo {G : Gt} (hG : Aj G) (hh : G.e 84 = AA 0 Y8 ∧ G.e 126 = AA 0 UI ∧ G.e 134 = AA 0 fN) : Gd G 89 (AA 0 tc) := by
 refine gr (fn := Tryz.f89) (n := 1) rfl hG ?_
 rintro ⟨c, ⟨⟩⟩ hpre
 simp -implicitDefEqProofs only [Tryz.f89, go_sem, hh, seval] at hpre ⊢
 obtain ⟨z1, ⟨l1, z2⟩, ⟨l2, z3⟩⟩ := hpre
 have y1 : c.name.size ≤ 2000000 := by have : c.name.size ≤ 1048576 := z1; omega
 have y2 : ∀ x ∈ c.own, Df.pre .dom x := fun x hx => by have : x.size ≤ 1048576 := z2 x hx; show x.size ≤ 2000000; omega
 have y3 : ∀ x ∈ c.ways, Mj.pre .way x := fun x hx => by
  have h1 : x.ends.size ≤ 1048576 := (z3 x hx).1
  have h2 : x.to.size ≤ 1048576 := (z3 x hx).2
  exact ⟨by omega, by omega⟩
 have e1 : (¬ ∃ x ∈ c.own, Df.sem .dom x) ↔ ∀ s ∈ c.own, Di s := ⟨fun h s hs => Classical.byContradiction fun q => h ⟨s, hs, q⟩, fun h ⟨s, hs, q⟩ => q (h s hs)⟩
 have e2 : (¬ ∃ x ∈ c.ways, Mj.sem .way x) ↔ ∀ w ∈ c.ways, Di w.ends ∧ Di w.to := ⟨fun h s hs => Classical.byContradiction fun q => h ⟨s, hs, q⟩, fun h ⟨s, hs, q⟩ => q (h s hs)⟩
 with_reducible repeat' (first | apply ai | intro _ | ((first | apply s1 | apply s2 | apply s3 | apply s4) <;> intro hb <;> simp -implicitDefEqProofs only [hb, go_sem, hh, seval] <;> try simp only [qz] at hb))
 all_goals first | rfl | omega | assumption | exact y2 _ (by assumption) | exact y3 _ (by assumption) | skip
 all_goals first
  | exact uN (e2.trans ⟨fun q => ⟨e1.1 (by assumption), q, by assumption, by omega, by omega⟩, fun q => q.2.1⟩)
  | exact uF (fun q => absurd q.2.2.1 (by assumption))
  | exact uF (fun q => by have h1 := q.2.2.2.1; have h2 := q.2.2.2.2; omega)
  | exact uF (fun q => absurd hb (e1.2 q.1))
  | skip
end
def tQ : Ct := At (lc GU.ag l0) (fun p => IH p.1) (fun p => .t (.v (.bool (BT (Fk p.1)))))
section
attribute [local go_sem] tc ol Y7 tg th fC Bool.not_true Bool.not_false DB Fp IU IV IW IX D1 D3 D2 D4 Ac Ab lm
set_option maxHeartbeats 6400000 in
theorem qL {G : Gt} (hG : Aj G) (hh : G.e 89 = AA 0 tc ∧ G.e 10 = AA 0 ol ∧ G.e 37 = AA 0 Y7 ∧ G.e 98 = AA 0 tg ∧ G.e 99 = AA 0 th ∧ G.e 100 = AA 0 fC) : Gd G 51 (AA 0 tQ) := by
 refine gr (fn := Tryz.f51) (n := 1) rfl hG ?_
 rintro ⟨h, ⟨⟩⟩ hpre
 simp -implicitDefEqProofs only [Tryz.f51, go_sem, hh, seval] at hpre ⊢
 obtain ⟨zc, zs, ⟨lb, zb⟩, zl⟩ := hpre
 have e1 : ∀ j, j < h.boxes.length → ((∃ x ∈ (h.boxes.getD j default).mails, Mi.sem .bad x) ↔ ¬ ∀ g ∈ (h.boxes.getD j default).mails, (BK g.frm ∨ AU g.frm) ∧ CU g.body) := fun j _ => ⟨fun ⟨s, hs, q⟩ f => q (f s hs), fun f => Classical.byContradiction fun q => f fun s hs => Classical.byContradiction fun r => q ⟨s, hs, r⟩⟩
 with_reducible repeat' (first | apply ai | intro _ | ((first | apply s1 | apply s2 | apply s3 | apply s4) <;> intro hb <;> simp -implicitDefEqProofs only [hb, go_sem, hh, seval] <;> try simp only [qz] at hb))
 all_goals first
  | rfl
  | omega
  | assumption
  | exact uF (fun q => absurd q.2.1 (by assumption))
  | exact uF (fun q => absurd q.2.2 (by assumption))
  | skip
 all_goals
  refine AE [] (ι := {i : Nat // i ≤ h.boxes.length ∧ ∀ j, j < i → Ta h j}) (fun p => ⟨[(1, .pb 1001 0), (3, .fn 97 []), (17, .t (.sl 3 (h.boxes.map CF))), (18, .t (.v (.int .i64 h.boxes.length))), (19, .t (.v (.int .i64 p.1)))], [(1001, some (.box ((Ah h).map .t)))]⟩) (fun p => h.boxes.length - p.1) ⟨0, by simp, by simp⟩ rfl ?_ ?_
  ·simp -implicitDefEqProofs only [go_sem, hh, seval]
   try simp
  ·rintro ⟨i, hi, hall⟩
   by_cases hlt : (i : Int) < h.boxes.length
   ·have hbx := zb _ (AC (xs := h.boxes) (j := i) (by omega))
    obtain ⟨za, zm⟩ := hbx
    have y1 : (h.boxes.getD i default).addr.domain.size ≤ 2000000 := by have : (h.boxes.getD i default).addr.domain.size ≤ 1048576 := za.2; omega
    have y2 : ∀ x ∈ (h.boxes.getD i default).mails, Mi.pre .bad x := fun x hx => by
     obtain ⟨⟨_, g1⟩, ⟨_, g2⟩⟩ := zm.2 x hx
     refine ⟨by have : x.frm.domain.size ≤ 1048576 := g1; omega, fun s hs => ?_⟩
     have : s.size ≤ 1048576 := g2 s hs
     omega
    have e2 := e1 i (by omega)
    simp -implicitDefEqProofs only [hlt, decide_true, tn, go_sem, hh, seval]
    with_reducible repeat' (first | apply ai | intro _ | ((first | apply s1 | apply s2 | apply s3 | apply s4) <;> intro hb <;> simp -implicitDefEqProofs only [hb, go_sem, hh, seval] <;> try simp only [qz] at hb))
    all_goals (try simp only [maxLen, tn] at *)
    all_goals have hnat : ((i : Int) - 1).toNat = i - 1 := by omega
    all_goals first
     | rfl
     | omega
     | assumption
     | exact y2 _ (by assumption)
     | exact uF (fun q => absurd (q.1 i (by omega)).1.2 (by assumption))
     | exact uF (fun q => absurd (q.1 i (by omega)).2.2 (by assumption))
     | exact uF (fun q => absurd hb (fun f => e2.1 f (q.1 i (by omega)).1.1))
     | exact uF (fun q => by have h9 := (HU _ _).2 ((q.1 i (by omega)).2.1 (by omega)); rw [← hnat] at h9; omega)
     | skip
    all_goals
     refine ⟨⟨i + 1, by omega, CL hall ⟨⟨Classical.byContradiction fun f => absurd (e2.2 f) (by assumption), by assumption⟩, fun _ => by first | (exact (HU _ _).1 (by rw [← hnat]; omega)) | (exfalso; omega), by assumption⟩⟩, by dsimp only; omega, ?_⟩
     simp -implicitDefEqProofs only [go_sem, hh, seval]
     try simp
   ·simp -implicitDefEqProofs only [hlt, decide_false, go_sem, hh, seval]
    with_reducible repeat' (first | apply ai | intro _ | ((first | apply s1 | apply s2 | apply s3 | apply s4) <;> intro hb <;> simp -implicitDefEqProofs only [hb, go_sem, hh, seval] <;> try simp only [qz] at hb))
    all_goals first | rfl | omega | exact uT ⟨fun j hj => hall j (by omega), by assumption, by assumption⟩ | skip
end
def rV : ByteArray := ⟨#[73, 100, 58, 32]⟩
def HM (s : ByteArray) : Prop := 4 < s.size ∧ s.extract 0 4 = rV
noncomputable def Bb : List ByteArray → ByteArray
 | [] => ⟨#[]⟩
 | x :: r => bif BT (HM x) then x else Bb r
theorem Np {xs : List ByteArray} {i : Nat} (h : i < xs.length) (ha : HM (xs.getD i default)) : Bb (xs.drop i) = xs.getD i default := by
 rw [AW h, Bb, Aq ha]; rfl
theorem RF {xs : List ByteArray} {i : Nat} (h : i < xs.length) (ha : ¬ HM (xs.getD i default)) : Bb (xs.drop i) = Bb (xs.drop (i + 1)) := by
 rw [AW h, Bb, AQ ha]; rfl
theorem No {xs : List ByteArray} {i : Nat} (h : xs.length ≤ i) : Bb (xs.drop i) = ⟨#[]⟩ := by
 rw [List.drop_eq_nil_of_le h, Bb]
def nY (s p : ByteArray) : Prop := p.size ≤ s.size ∧ s.extract 0 p.size = p
theorem WK (s : ByteArray) : (nY s rV ∧ ¬ s = rV) ↔ HM s := by
 unfold nY HM
 have h4 : rV.size = 4 := rfl
 rw [h4]
 constructor
 ·rintro ⟨⟨h1, h2⟩, h3⟩
  refine ⟨?_, h2⟩
  by_cases e : s.size = 4
  ·exfalso
   apply h3
   rw [← h2, ← e]
   exact (ByteArray.extract_zero_size).symm
  ·omega
 ·rintro ⟨h1, h2⟩
  exact ⟨⟨by omega, h2⟩, fun e => by rw [e] at h1; have : rV.size = 4 := rfl; omega⟩
def fh : Ct := At (lc Av (lc Av l0)) (fun p => p.1.size ≤ 2000000 ∧ p.2.1.size ≤ 2000000) (fun p => .t (.v (.bool (BT (nY p.1 p.2.1)))))
theorem mL {G : Gt} (hG : Aj G) : Gd G 166 (AA 0 fh) := by
 refine gr (fn := Tryz.f166) (n := 2) rfl hG ?_
 rintro ⟨s, q, ⟨⟩⟩ hpre
 simp -implicitDefEqProofs only [Tryz.f166, go_sem, seval] at hpre ⊢
 obtain ⟨z1, z2⟩ := hpre
 with_reducible repeat' (first | apply ai | intro _ | ((first | apply s1 | apply s2 | apply s3 | apply s4) <;> intro hb <;> simp -implicitDefEqProofs only [hb, go_sem, seval] <;> try simp only [qz] at hb))
 all_goals (try simp only [maxLen, tn] at *)
 all_goals first
  | rfl
  | omega
  | exact uD ⟨fun h => ⟨by omega, h⟩, fun h => h.2⟩
  | exact uF (fun h => by have := h.1; omega)
  | skip
def fT : Ct := At (lc Av (lc Av l0)) (fun p => p.1.size ≤ 2000000 ∧ p.2.1.size ≤ 2000000) (fun p => .t (.v (.bool (BT (nY p.1 p.2.1)))))
section
attribute [local go_sem] fh
theorem l5 {G : Gt} (hG : Aj G) (hh : G.e 166 = AA 0 fh) : Gd G 144 (AA 0 fT) := by
 refine gr (fn := Tryz.f144) (n := 2) rfl hG ?_
 rintro ⟨s, q, ⟨⟩⟩ hpre
 simp -implicitDefEqProofs only [Tryz.f144, go_sem, hh, seval] at hpre ⊢
 obtain ⟨z1, z2⟩ := hpre
 with_reducible repeat' (first | apply ai | intro _ | ((first | apply s1 | apply s2 | apply s3 | apply s4) <;> intro hb <;> simp -implicitDefEqProofs only [hb, go_sem, hh, seval] <;> try simp only [qz] at hb))
 all_goals (try simp only [maxLen, tn] at *)
 all_goals first
  | rfl
  | omega
  | exact uD ⟨fun h => ⟨by omega, h⟩, fun h => h.2⟩
  | exact uF (fun h => by have := h.1; omega)
  | skip
end
def ZA : Ct := At (lc Al.asl l0) (fun p => True) (fun p => .t (.v (.string (Bb p.1))))
section
attribute [local go_sem] lm
theorem qr {G : Gt} (hG : Aj G) : Gd G 95 (AA 0 ZA) := by
 refine gr (fn := Tryz.f95) (n := 1) rfl hG ?_
 rintro ⟨xs, ⟨⟩⟩ hpre
 simp -implicitDefEqProofs only [Tryz.f95, go_sem, seval] at hpre ⊢
 refine AE [] (ι := {i : Nat // i ≤ xs.length ∧ Bb xs = Bb (xs.drop i)}) (fun p => ⟨[(0, .t (.sl 1 (xs.map AH))), (3, .t (.v (.int .i64 p.1)))], []⟩) (fun p => xs.length - p.1) ⟨0, by simp, rfl⟩ rfl ?_ ?_
 ·simp -implicitDefEqProofs only [go_sem, seval]
  try simp
 ·rintro ⟨i, hi, hix⟩
  by_cases hlt : (i : Int) < xs.length
  ·simp -implicitDefEqProofs only [hlt, decide_true, tn, go_sem, seval]
   with_reducible repeat' (first | apply ai | intro _ | ((first | apply s1 | apply s2 | apply s3 | apply s4) <;> intro hb <;> simp -implicitDefEqProofs only [hb, go_sem, seval] <;> try simp only [qz] at hb))
   all_goals (try simp only [maxLen, tn] at *)
   all_goals first
    | rfl
    | omega
    | (rw [hix, Np (by omega) ⟨by omega, by assumption⟩]; done)
    | skip
   all_goals
    refine ⟨⟨i + 1, by omega, by rw [hix, RF (by omega) (fun h => by first | exact absurd h.2 (by assumption) | (have := h.1; omega))]⟩, by dsimp only; omega, ?_⟩
    simp -implicitDefEqProofs only [go_sem, seval]
    try simp
  ·simp -implicitDefEqProofs only [hlt, decide_false, go_sem, seval]
   with_reducible repeat' (first | apply ai | intro _ | ((first | apply s1 | apply s2 | apply s3 | apply s4) <;> intro hb <;> simp -implicitDefEqProofs only [hb, go_sem, seval] <;> try simp only [qz] at hb))
   all_goals first | rfl | omega | skip
   rw [hix, No (by omega)]
end
def fD : Ct := At (lc Al.asl l0) (fun p => ∀ s ∈ p.1, s.size ≤ 2000000) (fun p => .t (.v (.string (Bb p.1))))
section
attribute [local go_sem] fT lm Ac Ab
theorem lM {G : Gt} (hG : Aj G) (hh : G.e 144 = AA 0 fT) : Gd G 101 (AA 0 fD) := by
 refine gr (fn := Tryz.f101) (n := 1) rfl hG ?_
 rintro ⟨xs, ⟨⟩⟩ hpre
 simp -implicitDefEqProofs only [Tryz.f101, go_sem, hh, seval] at hpre ⊢
 try dsimp only at hpre
 with_reducible repeat' (first | apply ai | intro _ | ((first | apply s1 | apply s2 | apply s3 | apply s4) <;> intro hb <;> simp -implicitDefEqProofs only [hb, go_sem, hh, seval] <;> try simp only [qz] at hb))
 all_goals first | rfl | omega | skip
 refine AE [] (ι := {i : Nat // i ≤ xs.length ∧ Bb xs = Bb (xs.drop i)}) (fun p => ⟨[(5, .t (.sl 1 (xs.map AH))), (6, .t (.v (.int .i64 xs.length))), (7, .t (.v (.int .i64 p.1)))], []⟩) (fun p => xs.length - p.1) ⟨0, by simp, rfl⟩ rfl ?_ ?_
 ·simp -implicitDefEqProofs only [go_sem, hh, seval]
  try simp
 ·rintro ⟨i, hi, hix⟩
  by_cases hlt : (i : Int) < xs.length
  ·have hm := hpre _ (AC (xs := xs) (j := i) (by omega))
   simp -implicitDefEqProofs only [hlt, decide_true, tn, go_sem, hh, seval]
   with_reducible repeat' (first | apply ai | intro _ | ((first | apply s1 | apply s2 | apply s3 | apply s4) <;> intro hb <;> simp -implicitDefEqProofs only [hb, go_sem, hh, seval] <;> try simp only [qz] at hb))
   all_goals (try simp only [maxLen, tn] at *)
   all_goals first
    | rfl
    | omega
    | assumption
    | decide
    | (rw [hix, Np (by omega) ((WK _).1 ⟨by assumption, by assumption⟩)]; done)
    | skip
   all_goals
    refine ⟨⟨i + 1, by omega, by rw [hix, RF (by omega) (fun h => by have h2 := (WK _).2 h; first | exact absurd h2.1 (by assumption) | exact absurd (by assumption) h2.2)]⟩, by dsimp only; omega, ?_⟩
    simp -implicitDefEqProofs only [go_sem, hh, seval]
    try simp
  ·simp -implicitDefEqProofs only [hlt, decide_false, go_sem, hh, seval]
   with_reducible repeat' (first | apply ai | intro _ | ((first | apply s1 | apply s2 | apply s3 | apply s4) <;> intro hb <;> simp -implicitDefEqProofs only [hb, go_sem, hh, seval] <;> try simp only [qz] at hb))
   all_goals first | rfl | omega | skip
   rw [hix, No (by omega)]
end
def dH (a : ByteArray) : MK := .s a
theorem aO {a b : ByteArray} (h : dH a = dH b) : a = b := by
 simp only [dH, MK.s.injEq] at h
 exact h
theorem vH : HL Tryz.prog 9 (some 0) := HL.str u9
theorem ca {x : ByteArray} : Al.decL [[.v (.string x)]] = some [x] := Al.decL_map [x]
def Ha (xs : List ByteArray) : List (MK × Bool) := xs.foldl (fun es a => Ks (dH a) true es) []
theorem Hb (xs : List ByteArray) (a : ByteArray) : Ha (xs ++ [a]) = Ks (dH a) true (Ha xs) := by simp [Ha]
theorem U2 (xs : List ByteArray) (a : ByteArray) : dH a ∈ (Ha xs).map Prod.fst ↔ a ∈ xs := by
 generalize hr : xs.reverse = r
 have hx : xs = r.reverse := by rw [← hr, List.reverse_reverse]
 subst hx
 clear hr
 induction r with
 | nil => simp [Ha]
 | cons b r ih =>
   rw [List.reverse_cons, Hb, FJ, List.mem_append, ← propext ih]
   by_cases h : dH b ∈ (Ha r.reverse).map Prod.fst
   ·rw [if_pos h]
    constructor
    ·exact .inl
    ·rintro (h1 | h1)
     ·exact h1
     ·rw [List.mem_singleton.1 h1]; exact h
   ·rw [if_neg h, List.mem_append, List.mem_singleton, List.mem_singleton]
    exact or_congr_right ⟨aO, fun e => by rw [e]⟩
theorem U1 (xs : List ByteArray) : (Ha xs).length ≤ xs.length ∧ ((Ha xs).length = xs.length ↔ xs.Nodup) := by
 generalize hr : xs.reverse = r
 have hx : xs = r.reverse := by rw [← hr, List.reverse_reverse]
 subst hx
 clear hr
 induction r with
 | nil => simp [Ha]
 | cons b r ih =>
   have hl : ∀ es : List (MK × Bool), es.length = (es.map Prod.fst).length := fun es => by rw [lm]
   have hn : (r.reverse ++ [b]).Nodup ↔ r.reverse.Nodup ∧ b ∉ r.reverse := by
    rw [List.nodup_append]
    constructor
    ·rintro ⟨h1, _, h3⟩
     exact ⟨h1, fun hb => h3 b hb b (by simp) rfl⟩
    ·rintro ⟨h1, h2⟩
     refine ⟨h1, by simp, fun x hx y hy e => ?_⟩
     rw [List.mem_singleton] at hy
     subst hy; subst e; exact h2 hx
   rw [List.reverse_cons, Hb, hl, FJ, List.length_append, hn, ← U2]
   obtain ⟨i1, i2⟩ := ih
   by_cases h : dH b ∈ (Ha r.reverse).map Prod.fst
   ·rw [if_pos h, ← hl]
    refine ⟨by omega, ⟨fun e => ?_, fun e => absurd h e.2⟩⟩
    simp at e i1; omega
   ·rw [if_neg h, List.length_append, ← hl]
    refine ⟨by simp at *; omega, ⟨fun e => ⟨i2.1 (by simp at *; omega), h⟩, fun e => ?_⟩⟩
    have := i2.2 e.1
    simp at *; omega
theorem QG {xs : List ByteArray} {i : Nat} (h : i < xs.length) : xs.take (i + 1) = xs.take i ++ [xs.getD i default] := by
 rw [List.take_succ_eq_append_getElem h]
 simp [h]
theorem SW {xs : List ByteArray} {i : Nat} (h : i < xs.length) : Ks (.s (xs.getD i default)) true (Ha (xs.take i)) = Ha (xs.take (i + 1)) := by
 rw [QG h, Hb]; rfl
def Of (l : Ls) : Prop := ¬ l.mark = ⟨#[]⟩ ∧ Bb [l.mark] = l.mark ∧ BK l.addr ∧ HI l.mark
def LG (h : Hs) : ByteArray := h.conf.name
def II (w : Wd) : Prop := (∀ h ∈ w.hosts, Fk h) ∧ (w.hosts.map LG).Nodup ∧ (∀ l ∈ w.given, Of l) ∧ (1 ≤ (w.hosts.length : Int) ∧ (w.hosts.length : Int) ≤ 4) ∧ (0 ≤ w.now ∧ w.now ≤ 9999) ∧ (0 ≤ w.marks ∧ w.marks ≤ 60)
theorem Sq {xs : List Hs} (h : ∀ j, j < xs.length → ∀ k, k < j → ¬ (xs.getD k default).conf.name = (xs.getD j default).conf.name) : (xs.map LG).Nodup := by
 rw [List.nodup_iff_pairwise_ne, List.pairwise_iff_getElem]
 intro k j hk hj hkj
 rw [lm] at hk hj
 have := h j hj k hkj
 simpa [hk, hj, LG] using this
theorem Sg {xs : List Hs} (h : (xs.map LG).Nodup) {k i : Nat} (hk : k < i) (hi : i < xs.length) : ¬ (xs.getD k default).conf.name = (xs.getD i default).conf.name := fun e => by
 have q1 : k < xs.length := by omega
 simp only [List.getD_eq_getElem?_getD, List.getElem?_eq_getElem q1, List.getElem?_eq_getElem hi, Option.getD_some] at e
 exact List.pairwise_iff_getElem.1 (List.nodup_iff_pairwise_ne.1 h) k i (by simpa using q1) (by simpa using hi) hk (by simpa [LG] using e)
theorem XH {xs : List Hs} {i : Nat} (h : i < xs.length) : ((xs.map LG).take (i + 1)).map AH = ((xs.map LG).take i).map AH ++ [[.v (.string (xs.getD i default).conf.name)]] := by
 have e : (xs.map LG).getD i default = (xs.getD i default).conf.name := by
  simp only [List.getD_eq_getElem?_getD, List.getElem?_map, List.getElem?_eq_getElem h, Option.map_some, Option.getD_some]; rfl
 rw [BV AH (by rw [lm]; exact h), e]
 rfl
def tS : Ct := At (lc Al.asl l0) (fun p => True) (fun p => .t (.v (.bool (BT p.1.Nodup))))
section
attribute [local go_sem] Bool.not_true Bool.not_false DB Fp dq
theorem qN {G : Gt} (hG : Aj G) : Gd G 53 (AA 0 tS) := by
 refine gr (fn := Tryz.f53) (n := 1) rfl hG ?_
 rintro ⟨xs, ⟨⟩⟩ hpre
 simp -implicitDefEqProofs only [Tryz.f53, go_sem, seval] at hpre ⊢
 with_reducible repeat' (first | apply ai | intro _ | ((first | apply s1 | apply s2 | apply s3 | apply s4) <;> intro hb <;> simp -implicitDefEqProofs only [hb, go_sem, seval] <;> try simp only [qz] at hb))
 all_goals first | rfl | omega | skip
 refine AE [] (ι := {i : Nat // i ≤ xs.length}) (fun p => ⟨[(0, .t (.sl 1 (xs.map AH))), (3, .h 1006), (7, .t (.sl 1 (xs.map AH))), (8, .t (.v (.int .i64 xs.length))), (9, .t (.v (.int .i64 p.1)))], [(1006, some (.mp (some 0) (Ha (xs.take p.1))))]⟩) (fun p => xs.length - p.1) ⟨0, Nat.zero_le _⟩ rfl ?_ ?_
 ·simp -implicitDefEqProofs only [go_sem, seval]
  try simp
  rfl
 ·rintro ⟨i, hi⟩
  by_cases hlt : (i : Int) < xs.length
  ·simp -implicitDefEqProofs only [hlt, go_sem, seval]
   with_reducible repeat' (first | apply ai | intro _ | ((first | apply s1 | apply s2 | apply s3 | apply s4) <;> intro hb <;> simp -implicitDefEqProofs only [hb, go_sem, seval] <;> try simp only [qz] at hb))
   all_goals (try simp only [maxLen] at *)
   all_goals first | rfl | omega | exact vH | skip
   refine ⟨⟨i + 1, by omega⟩, by dsimp only; omega, ?_⟩
   simp -implicitDefEqProofs only [go_sem, seval]
   simp only [tn, SW (show i < xs.length by omega)]
   try simp
  ·simp -implicitDefEqProofs only [hlt, go_sem, seval]
   with_reducible repeat' (first | apply ai | intro _ | ((first | apply s1 | apply s2 | apply s3 | apply s4) <;> intro hb <;> simp -implicitDefEqProofs only [hb, go_sem, seval] <;> try simp only [qz] at hb))
   all_goals first | rfl | omega | skip
   rw [List.take_of_length_le (by omega), ← AT (U1 xs).2, BZ]
   refine congrArg (fun b => T.v (.bool b)) (decide_eq_decide.2 ?_)
   omega
end
open Classical in
noncomputable def RC (xs : List ByteArray) : ByteArray := if CU xs then Bb xs else ⟨#[]⟩
theorem RE {xs : List ByteArray} (h : CU xs) : RC xs = Bb xs := if_pos h
theorem RD {xs : List ByteArray} (h : ¬ CU xs) : RC xs = ⟨#[]⟩ := if_neg h
theorem TZ (x : ByteArray) : CU [x] ↔ HI x := by
 unfold CU
 constructor
 ·intro h; exact h.1 x (by simp)
 ·intro h
  refine ⟨fun s hs => by rw [List.mem_singleton.1 hs]; exact h, by simp⟩
theorem uo (l : Ls) : (¬ l.mark = ⟨#[]⟩ ∧ RC [l.mark] = l.mark ∧ BK l.addr) ↔ Of l := by
 unfold Of
 by_cases h : HI l.mark
 ·rw [RE ((TZ _).2 h)]
  exact ⟨fun q => ⟨q.1, q.2.1, q.2.2, h⟩, fun q => ⟨q.1, q.2.1, q.2.2.1⟩⟩
 ·rw [RD (fun q => h ((TZ _).1 q))]
  exact ⟨fun q => absurd q.2.1.symm q.1, fun q => absurd q.2.2.2 h⟩
def tR : Ct := At (lc Al.asl l0) (fun p => ∀ s ∈ p.1, s.size ≤ 2000000) (fun p => .t (.v (.string (RC p.1))))
section
attribute [local go_sem] gu fD Ac Ab
theorem qM {G : Gt} (hG : Aj G) (hh : G.e 82 = AA 0 gu ∧ G.e 101 = AA 0 fD) : Gd G 52 (AA 0 tR) := by
 refine gr (fn := Tryz.f52) (n := 1) rfl hG ?_
 rintro ⟨xs, ⟨⟩⟩ hpre
 simp -implicitDefEqProofs only [Tryz.f52, go_sem, hh, seval] at hpre ⊢
 try dsimp only at hpre
 with_reducible repeat' (first | apply ai | intro _ | ((first | apply s1 | apply s2 | apply s3 | apply s4) <;> intro hb <;> simp -implicitDefEqProofs only [hb, go_sem, hh, seval] <;> try simp only [qz] at hb))
 all_goals first | rfl | omega | exact hpre _ (by assumption) | (rw [RE hb]; done) | (rw [RD hb]; done) | skip
end
def o9 : Ct := At (lc TN.ag l0) (fun p => True) (fun p => .t (.v (.bool (BT (II p.1)))))
section
attribute [local go_sem] te SB ZA gw Kk Ac Ab lm ca
set_option maxHeartbeats 6400000 in
theorem qK {G : Gt} (hG : Aj G) (hh : G.e 94 = AA 0 te ∧ G.e 74 = AA 0 SB ∧ G.e 95 = AA 0 ZA ∧ G.e 96 = AA 0 gw ∧ G.e 71 = AA 0 Kk) : Gd G 50 (AA 0 o9) := by
 refine gr (fn := Tryz.f50) (n := 1) rfl hG ?_
 rintro ⟨w, ⟨⟩⟩ hpre
 simp -implicitDefEqProofs only [Tryz.f50, go_sem, hh, seval] at hpre ⊢
 refine AE [] (ι := {i : Nat // i ≤ w.hosts.length ∧ (∀ j, j < i → Fk (w.hosts.getD j default)) ∧ ∀ j, j < i → ∀ k, k < j → ¬ (w.hosts.getD k default).conf.name = (w.hosts.getD j default).conf.name}) (fun p => ⟨[(1, .pb 1001 0), (3, .t (.v (.int .i64 p.1)))], [(1001, some (.box ((DT w).map .t)))]⟩) (fun p => w.hosts.length - p.1) ⟨0, by simp, by simp, by simp⟩ rfl ?_ ?_
 ·simp -implicitDefEqProofs only [go_sem, hh, seval]
  try simp
 ·rintro ⟨i, hi, hall, hno⟩
  by_cases hlt : (i : Int) < w.hosts.length
  ·simp -implicitDefEqProofs only [hlt, decide_true, tn, go_sem, hh, seval]
   with_reducible repeat' (first | apply ai | intro _ | ((first | apply s1 | apply s2 | apply s3 | apply s4) <;> intro hb <;> simp -implicitDefEqProofs only [hb, go_sem, hh, seval] <;> try simp only [qz] at hb))
   all_goals (try simp only [maxLen, tn] at *)
   all_goals first
    | rfl
    | omega
    | exact uF (fun q => absurd (q.1 (w.hosts.getD i default) (AC (by omega))) (by assumption))
    | skip
   refine AE [] (ι := {k : Nat // k ≤ i ∧ ∀ j, j < k → ¬ (w.hosts.getD j default).conf.name = (w.hosts.getD i default).conf.name}) (fun p => ⟨[(1, .pb 1001 0), (3, .t (.v (.int .i64 i))), (4, .t (.v (.int .i64 p.1)))], [(1001, some (.box ((DT w).map .t)))]⟩) (fun p => i - p.1) ⟨0, by simp, by simp⟩ rfl ?_ ?_
   ·simp -implicitDefEqProofs only [go_sem, hh, seval]
    try simp
   ·rintro ⟨k, hk, hk2⟩
    by_cases hlt2 : (k : Int) < i
    ·simp -implicitDefEqProofs only [hlt2, decide_true, tn, go_sem, hh, seval]
     with_reducible repeat' (first | apply ai | intro _ | ((first | apply s1 | apply s2 | apply s3 | apply s4) <;> intro hb <;> simp -implicitDefEqProofs only [hb, go_sem, hh, seval] <;> try simp only [qz] at hb))
     all_goals (try simp only [maxLen, tn] at *)
     all_goals first
      | rfl
      | omega
      | exact uF (fun q => Sg q.2.1 (k := k) (i := i) (by omega) (by omega) (by assumption))
      | skip
     all_goals
      refine ⟨⟨k + 1, by omega, CL hk2 (by assumption)⟩, by dsimp only; omega, ?_⟩
      simp -implicitDefEqProofs only [go_sem, hh, seval]
      try simp
    ·simp -implicitDefEqProofs only [hlt2, decide_false, go_sem, hh, seval]
     with_reducible repeat' (first | apply ai | intro _ | ((first | apply s1 | apply s2 | apply s3 | apply s4) <;> intro hb <;> simp -implicitDefEqProofs only [hb, go_sem, hh, seval] <;> try simp only [qz] at hb))
     all_goals first | rfl | omega | skip
     refine ⟨⟨i + 1, by omega, CL hall (by assumption), CL (P := fun j => ∀ k, k < j → ¬ (w.hosts.getD k default).conf.name = (w.hosts.getD j default).conf.name) hno (fun q hq => hk2 q (by omega))⟩, by dsimp only; omega, ?_⟩
     simp -implicitDefEqProofs only [go_sem, hh, seval]
     try simp
  ·have hA : ∀ h ∈ w.hosts, Fk h := BC fun j hj => hall j (by omega)
   have hN : (w.hosts.map LG).Nodup := Sq fun j hj q hq => hno j (by omega) q hq
   simp -implicitDefEqProofs only [hlt, decide_false, go_sem, hh, seval]
   with_reducible repeat' (first | apply ai | intro _ | ((first | apply s1 | apply s2 | apply s3 | apply s4) <;> intro hb <;> simp -implicitDefEqProofs only [hb, go_sem, hh, seval] <;> try simp only [qz] at hb))
   all_goals first | rfl | omega | skip
   refine AE [] (ι := {i : Nat // i ≤ w.given.length ∧ ∀ j, j < i → Of (w.given.getD j default)}) (fun p => ⟨[(1, .pb 1001 0), (5, .t (.v (.int .i64 p.1)))], [(1001, some (.box ((DT w).map .t)))]⟩) (fun p => w.given.length - p.1) ⟨0, by simp, by simp⟩ rfl ?_ ?_
   ·simp -implicitDefEqProofs only [go_sem, hh, seval]
    try simp
   ·rintro ⟨k, hk, hall2⟩
    by_cases hlt2 : (k : Int) < w.given.length
    ·simp -implicitDefEqProofs only [hlt2, decide_true, tn, go_sem, hh, seval]
     with_reducible repeat' (first | apply ai | intro _ | ((first | apply s1 | apply s2 | apply s3 | apply s4) <;> intro hb <;> simp -implicitDefEqProofs only [hb, go_sem, hh, seval] <;> try simp only [qz] at hb))
     all_goals (try simp only [maxLen, tn] at *)
     all_goals first
      | rfl
      | omega
      | decide
      | exact uF (fun q => absurd (q.2.2.1 (w.given.getD k default) (AC (by omega))).1 (by simpa using hb))
      | exact uF (fun q => absurd (q.2.2.1 (w.given.getD k default) (AC (by omega))).2.1 (by assumption))
      | exact uF (fun q => absurd (q.2.2.1 (w.given.getD k default) (AC (by omega))).2.2.1 (by assumption))
      | exact uF (fun q => absurd (q.2.2.1 (w.given.getD k default) (AC (by omega))).2.2.2 (by assumption))
      | skip
     all_goals
      refine ⟨⟨k + 1, by omega, CL hall2 ⟨by first | assumption | (simpa using hb), by assumption, by assumption, by assumption⟩⟩, by dsimp only; omega, ?_⟩
      simp -implicitDefEqProofs only [go_sem, hh, seval]
      try simp
    ·have hB : ∀ l ∈ w.given, Of l := BC fun j hj => hall2 j (by omega)
     simp -implicitDefEqProofs only [hlt2, decide_false, go_sem, hh, seval]
     with_reducible repeat' (first | apply ai | intro _ | ((first | apply s1 | apply s2 | apply s3 | apply s4) <;> intro hb <;> simp -implicitDefEqProofs only [hb, go_sem, hh, seval] <;> try simp only [qz] at hb))
     all_goals first
      | rfl
      | omega
      | exact uE ⟨fun q => ⟨hA, hN, hB, by assumption, by assumption, q⟩, fun q => q.2.2.2.2.2⟩
      | exact uF (fun q => absurd q.2.2.2.1 (by assumption))
      | exact uF (fun q => absurd q.2.2.2.2.1 (by assumption))
      | skip
end
def ou : Ct := At (lc TN.ag l0) (fun p => Ke p.1) (fun p => .t (.v (.bool (BT (II p.1)))))
section
attribute [local go_sem] tQ tR Y7 UT tS ox Ac Ab lm ca List.mem_singleton forall_eq List.length_cons List.length_nil List.length_append List.nil_append Nat.zero_add Bool.not_false Bool.not_true
set_option maxHeartbeats 6400000 in
theorem px {G : Gt} (hG : Aj G) (hh : G.e 51 = AA 0 tQ ∧ G.e 52 = AA 0 tR ∧ G.e 37 = AA 0 Y7 ∧ G.e 36 = AA 0 UT ∧ G.e 53 = AA 0 tS ∧ G.e 40 = AA 0 ox) : Gd G 17 (AA 0 ou) := by
 refine gr (fn := Tryz.f17) (n := 1) rfl hG ?_
 rintro ⟨w, ⟨⟩⟩ hpre
 simp -implicitDefEqProofs only [Tryz.f17, go_sem, hh, seval] at hpre ⊢
 obtain ⟨⟨lh, zh⟩, ⟨lg, zg⟩⟩ := hpre
 with_reducible repeat' (first | apply ai | intro _ | ((first | apply s1 | apply s2 | apply s3 | apply s4) <;> intro hb <;> simp -implicitDefEqProofs only [hb, go_sem, hh, seval] <;> try simp only [qz] at hb))
 all_goals first | rfl | omega | skip
 refine AE [(3, 1903, true, 1)] (ι := {i : Nat // i ≤ w.hosts.length ∧ ∀ j, j < i → Fk (w.hosts.getD j default)}) (fun p => ⟨[(1, .pb 1001 0), (3, .h 1903), (9, .t (.sl 7 (w.hosts.map Ah))), (10, .t (.v (.int .i64 w.hosts.length))), (11, .t (.v (.int .i64 p.1)))], [(1001, some (.box ((DT w).map .t))), (1903, some (.arr true 1 (((w.hosts.map LG).take p.1).map AH)))]⟩) (fun p => w.hosts.length - p.1) ⟨0, by simp, by simp⟩ rfl ?_ ?_
 ·simp -implicitDefEqProofs only [go_sem, hh, seval]
  try simp
 ·rintro ⟨i, hi, hall⟩
  have hlen : ((w.hosts.map LG).take i).length = i := by simp; omega
  by_cases hlt : (i : Int) < w.hosts.length
  ·have hz := zh _ (AC (xs := w.hosts) (j := i) (by omega))
   simp -implicitDefEqProofs only [hlt, decide_true, tn, go_sem, hh, seval]
   with_reducible repeat' (first | apply ai | intro _ | ((first | apply s1 | apply s2 | apply s3 | apply s4) <;> intro hb <;> simp -implicitDefEqProofs only [hb, go_sem, hh, seval] <;> try simp only [qz] at hb))
   all_goals (try simp only [maxLen, tn] at *)
   all_goals first
    | rfl
    | omega
    | assumption
    | exact uF (fun q => absurd (q.1 (w.hosts.getD i default) (AC (by omega))) (by assumption))
    | skip
   refine ⟨⟨i + 1, by omega, CL hall hb⟩, by dsimp only; omega, ?_⟩
   simp -implicitDefEqProofs only [go_sem, hh, seval]
   simp only [XH (show i < w.hosts.length by omega)]
   with_reducible repeat' (first | apply ai | intro _ | ((first | apply s1 | apply s2 | apply s3 | apply s4) <;> intro hb <;> simp -implicitDefEqProofs only [hb, go_sem, hh, seval] <;> try simp only [qz] at hb))
   all_goals first | rfl | (simp; done) | skip
  ·have hA : ∀ h ∈ w.hosts, Fk h := BC fun j hj => hall j (by omega)
   simp -implicitDefEqProofs only [hlt, decide_false, go_sem, hh, seval]
   with_reducible repeat' (first | apply ai | intro _ | ((first | apply s1 | apply s2 | apply s3 | apply s4) <;> intro hb <;> simp -implicitDefEqProofs only [hb, go_sem, hh, seval] <;> try simp only [qz] at hb))
   all_goals first | rfl | omega | skip
   rw [List.take_of_length_le (by rw [lm]; omega)]
   refine AE [] (ι := {i : Nat // i ≤ w.given.length ∧ ∀ j, j < i → Of (w.given.getD j default)}) (fun p => ⟨[(1, .pb 1001 0), (3, .h 1903), (26, .t (.sl 3 (w.given.map A0))), (27, .t (.v (.int .i64 w.given.length))), (28, .t (.v (.int .i64 p.1)))], [(1001, some (.box ((DT w).map .t))), (1903, some (.arr true 1 ((w.hosts.map LG).map AH)))]⟩) (fun p => w.given.length - p.1) ⟨0, by simp, by simp⟩ rfl ?_ ?_
   ·simp -implicitDefEqProofs only [go_sem, hh, seval]
    try simp
   ·rintro ⟨k, hk, hall2⟩
    by_cases hlt2 : (k : Int) < w.given.length
    ·obtain ⟨g1, g2⟩ := zg _ (AC (xs := w.given) (j := k) (by omega))
     have y1 : (w.given.getD k default).mark.size ≤ 2000000 := by have : (w.given.getD k default).mark.size ≤ 1048576 := g1; omega
     have y1' : ∀ s ∈ [(w.given.getD k default).mark], s.size ≤ 2000000 := fun s hs => by rw [List.mem_singleton.1 hs]; exact y1
     have y2 : (w.given.getD k default).addr.domain.size ≤ 2000000 := by have : (w.given.getD k default).addr.domain.size ≤ 1048576 := g2.2; omega
     simp -implicitDefEqProofs only [hlt2, decide_true, tn, go_sem, hh, seval]
     with_reducible repeat' (first | apply ai | intro _ | ((first | apply s1 | apply s2 | apply s3 | apply s4) <;> intro hb <;> simp -implicitDefEqProofs only [hb, go_sem, hh, seval] <;> try simp only [qz] at hb))
     all_goals (try simp only [maxLen, tn] at *)
     all_goals first
      | rfl
      | omega
      | assumption
      | exact y1' _ (by assumption)
      | exact uF (fun q => absurd (q.2.2.1 (w.given.getD k default) (AC (by omega))).1 (fun f => f (by assumption)))
      | exact uF (fun q => absurd ((uo _).2 (q.2.2.1 (w.given.getD k default) (AC (by omega)))).2.1 (by assumption))
      | exact uF (fun q => absurd (q.2.2.1 (w.given.getD k default) (AC (by omega))).2.2.1 (by assumption))
      | skip
     all_goals
      refine ⟨⟨k + 1, by omega, CL hall2 ((uo _).1 ⟨by assumption, by assumption, by assumption⟩)⟩, by dsimp only; omega, ?_⟩
      simp -implicitDefEqProofs only [go_sem, hh, seval]
      try simp
    ·have hB : ∀ l ∈ w.given, Of l := BC fun j hj => hall2 j (by omega)
     simp -implicitDefEqProofs only [hlt2, decide_false, go_sem, hh, seval]
     with_reducible repeat' (first | apply ai | intro _ | ((first | apply s1 | apply s2 | apply s3 | apply s4) <;> intro hb <;> simp -implicitDefEqProofs only [hb, go_sem, hh, seval] <;> try simp only [qz] at hb))
     all_goals first
      | rfl
      | omega
      | exact uE ⟨fun q => ⟨hA, by assumption, hB, by assumption, by assumption, q⟩, fun q => q.2.2.2.2.2⟩
      | exact uF (fun q => absurd q.2.2.2.1 (by assumption))
      | exact uF (fun q => absurd q.2.1 (by assumption))
      | exact uF (fun q => absurd q.2.2.2.2.1 (by assumption))
      | skip
end
end Go.V
