/- The row. No condition. -/
import Derived.Test.YthmjinhpngfdbaaGreatDoorXB
import Derived.Test.YthmjinhpngfdbaaGreatDoorProg
import Derived.KernelRfl
import Derived.Lib.IndexMore
import Derived.Lib.IndexEntry
import Derived.Lib.RabinKarpLaws
import Derived.Lib.Split
import Derived.DeepKeys4
import Derived.Shelf.Abstract
import Derived.Shelf.RegionOpenPlain
import Derived.WalkKit
import Derived.Deep.LoopGhost
import Derived.Deep.RegionLaw
import Derived.Lib.Walk
import Derived.Sort.WalkB12
import Derived.Lib.SliceRun
import Derived.Lib.SlicesDelete
namespace Go.V
open Go Go.Proofs
theorem zN : AI Tryz.prog 3 = some ⟨.int .i64, 1, 8, [.int .i64 0]⟩ := by kernel_rfl
theorem zO : AI Tryz.prog 4 = some ⟨.bool, 1, 1, [.bool false]⟩ := by kernel_rfl
theorem zP : AI Tryz.prog 5 = some ⟨.int .u8, 1, 1, [.int .u8 0]⟩ := by kernel_rfl
theorem zQ : AI Tryz.prog 9 = some ⟨.str, 1, 16, [.string ⟨#[]⟩]⟩ := by kernel_rfl
theorem yD : AI Tryz.prog 22 = some ⟨.slice 5, 1, 24, [.slice none 0 0]⟩ := by kernel_rfl
theorem yE : AI Tryz.prog 23 = some ⟨.slice 9, 1, 24, [.slice none 0 0]⟩ := by kernel_rfl
theorem yF : AI Tryz.prog 24 = some ⟨.slice 139, 1, 24, [.slice none 0 0]⟩ := by kernel_rfl
theorem yG : AI Tryz.prog 26 = some ⟨.struct [(0, 1, false), (1, 1, false), (2, 1, false)], 3, 64, [.string ⟨#[]⟩, .slice none 0 0, .slice none 0 0]⟩ := by kernel_rfl
theorem yH : AI Tryz.prog 27 = some ⟨.slice 76, 1, 24, [.slice none 0 0]⟩ := by kernel_rfl
theorem yI : AI Tryz.prog 29 = some ⟨.struct [(0, 1, false), (1, 1, false)], 2, 32, [.int .i64 0, .slice none 0 0]⟩ := by kernel_rfl
theorem yJ : AI Tryz.prog 30 = some ⟨.slice 57, 1, 24, [.slice none 0 0]⟩ := by kernel_rfl
theorem yK : AI Tryz.prog 31 = some ⟨.slice 44, 1, 24, [.slice none 0 0]⟩ := by kernel_rfl
theorem yL : AI Tryz.prog 33 = some ⟨.struct [(0, 3, true), (3, 2, true), (5, 1, false), (6, 1, false)], 7, 144, [.string ⟨#[]⟩, .slice none 0 0, .slice none 0 0, .int .i64 0, .slice none 0 0, .slice none 0 0, .slice none 0 0]⟩ := by kernel_rfl
theorem yM : AI Tryz.prog 35 = some ⟨.struct [(0, 1, false), (1, 1, false)], 2, 32, [.string ⟨#[]⟩, .string ⟨#[]⟩]⟩ := by kernel_rfl
theorem yN : AI Tryz.prog 44 = some ⟨.struct [(0, 1, false), (1, 2, true)], 3, 48, [.string ⟨#[]⟩, .string ⟨#[]⟩, .string ⟨#[]⟩]⟩ := by kernel_rfl
theorem yO : AI Tryz.prog 46 = some ⟨.slice 33, 1, 24, [.slice none 0 0]⟩ := by kernel_rfl
theorem yP : AI Tryz.prog 48 = some ⟨.struct [(0, 1, false), (1, 1, false), (2, 1, false), (3, 1, false)], 4, 64, [.slice none 0 0, .int .i64 0, .int .i64 0, .slice none 0 0]⟩ := by kernel_rfl
theorem yQ : AI Tryz.prog 55 = some ⟨.slice 88, 1, 24, [.slice none 0 0]⟩ := by kernel_rfl
theorem yR : AI Tryz.prog 57 = some ⟨.struct [(0, 2, true), (2, 1, false)], 3, 56, [.string ⟨#[]⟩, .string ⟨#[]⟩, .slice none 0 0]⟩ := by kernel_rfl
theorem yS : AI Tryz.prog 64 = some ⟨.slice 3, 1, 24, [.slice none 0 0]⟩ := by kernel_rfl
theorem yT : AI Tryz.prog 74 = some ⟨.slice 115, 1, 24, [.slice none 0 0]⟩ := by kernel_rfl
theorem yU : AI Tryz.prog 76 = some ⟨.struct [(0, 1, false), (1, 2, true), (3, 1, false), (4, 1, false)], 5, 88, [.int .i64 0, .string ⟨#[]⟩, .string ⟨#[]⟩, .slice none 0 0, .slice none 0 0]⟩ := by kernel_rfl
theorem yV : AI Tryz.prog 88 = some ⟨.struct [(0, 2, true), (2, 1, false)], 3, 56, [.string ⟨#[]⟩, .string ⟨#[]⟩, .slice none 0 0]⟩ := by kernel_rfl
theorem vf : AI Tryz.prog 102 = some ⟨.slice 35, 1, 24, [.slice none 0 0]⟩ := by kernel_rfl
theorem vg : AI Tryz.prog 104 = some ⟨.struct [(0, 2, true), (2, 1, false), (3, 1, false)], 4, 80, [.string ⟨#[]⟩, .string ⟨#[]⟩, .slice none 0 0, .slice none 0 0]⟩ := by kernel_rfl
theorem vh : AI Tryz.prog 110 = some ⟨.struct [(0, 1, false), (1, 1, false)], 2, 32, [.slice none 0 0, .int .i64 0]⟩ := by kernel_rfl
theorem vi : AI Tryz.prog 115 = some ⟨.struct [(0, 2, true), (2, 1, false), (3, 1, false)], 4, 48, [.string ⟨#[]⟩, .string ⟨#[]⟩, .int .i64 0, .int .i64 0]⟩ := by kernel_rfl
theorem vj : AI Tryz.prog 139 = some ⟨.struct [(0, 1, false), (1, 1, false)], 2, 32, [.string ⟨#[]⟩, .string ⟨#[]⟩]⟩ := by kernel_rfl
theorem vk : AI Tryz.prog 179 = some ⟨.slice 26, 1, 24, [.slice none 0 0]⟩ := by kernel_rfl
theorem vl : AI Tryz.prog 180 = some ⟨.slice 209, 1, 24, [.slice none 0 0]⟩ := by kernel_rfl
theorem Bw : AI Tryz.prog 196 = some ⟨.map 35 4, 1, 8, [.map none]⟩ := by kernel_rfl
theorem vn : AI Tryz.prog 199 = some ⟨.arr 256 4, 256, 256, List.replicate 256 (.bool false)⟩ := by kernel_rfl
theorem vo : AI Tryz.prog 209 = some ⟨.struct [(0, 1, false), (1, 1, false), (2, 1, false), (3, 1, false), (4, 1, false), (5, 1, false), (6, 4, true)], 10, 128, [.int .i64 0, .int .i64 0, .int .i64 0, .int .i64 0, .int .i64 0, .bool false, .string ⟨#[]⟩, .string ⟨#[]⟩, .slice none 0 0, .slice none 0 0]⟩ := by kernel_rfl
theorem vq : AI Tryz.prog 229 = some ⟨.slice 104, 1, 24, [.slice none 0 0]⟩ := by kernel_rfl
theorem vr : AI Tryz.prog 242 = some ⟨.struct [(0, 1, false), (1, 4, true), (5, 1, false), (6, 1, false), (7, 1, false)], 8, 136, [.string ⟨#[]⟩, .string ⟨#[]⟩, .string ⟨#[]⟩, .slice none 0 0, .slice none 0 0, .int .i64 0, .int .i64 0, .slice none 0 0]⟩ := by kernel_rfl
theorem vt : AI Tryz.prog 245 = some ⟨.struct [(0, 1, false), (1, 4, true), (5, 1, false), (6, 1, false)], 7, 112, [.int .i64 0, .string ⟨#[]⟩, .string ⟨#[]⟩, .slice none 0 0, .slice none 0 0, .bool false, .string ⟨#[]⟩]⟩ := by kernel_rfl
theorem vu : AI Tryz.prog 251 = some ⟨.int .u32, 1, 4, [.int .u32 0]⟩ := by kernel_rfl
theorem DH : fD Tryz.prog 35 = some [.s, .s] := by kernel_rfl
theorem xg : fD Tryz.prog 44 = some [.s, .s, .s] := by kernel_rfl
theorem ub : fD Tryz.prog 115 = some [.s, .s, .i .i64, .i .i64] := by kernel_rfl
theorem uc : fD Tryz.prog 139 = some [.s, .s] := by kernel_rfl
theorem uP : Tryz.prog.follows .mixedOrders = true := by kernel_rfl
instance : Inhabited ByteArray := ⟨⟨#[]⟩⟩
def BB (a : Int) : List T := [.v (.int .i64 a)]
def Vr : List T → Option Int
 | [.v (.int .i64 x)] => some x
 | _ => none
def DR : Em Int where
 enc := BB
 dec := Vr
 n := 1
 ed := fun _ => rfl
 de := fun c a h => by unfold Vr at h; split at h <;> cases h; rfl
 len := fun _ => rfl
theorem Tz (a : Int) : BB a = [.v (.int .i64 a)] := rfl
theorem U4 (xs : List Int) (n : Int) (s : AS) (K : Kt) : Ep 1 (xs.map BB) n s K = (0 ≤ n ∧ n < xs.length ∧ K (.t (.rop (BB (xs.getD n.toNat default)))) s) := Ba BB xs 1 n s K fun _ => rfl
theorem Nt {b : Int} : DR.dec [.v (.int .i64 b)] = some b := rfl
theorem bR (xs : List Int) : DR.decL (xs.map BB) = some xs := DR.decL_map xs
theorem Vs : DR.decL [] = some [] := rfl
theorem Ul : DR.enc = BB := rfl
theorem ju : DR.n = 1 := rfl
theorem Ui (xs : List Int) : EO (xs.map BB) = True := eq_true (EP BB (by intro a t ht; simp [BB] at ht; exact ⟨_, ht⟩) xs)
theorem ew (xs : List Int) : (∀ c ∈ xs.map BB, c.length = 1) = True := eq_true fun c hc => by
 obtain ⟨a, _, rfl⟩ := List.mem_map.1 hc; rfl
theorem Nb (xs : List Int) (i : Nat) (s : Int) : (xs.map BB).set i [.v (.int .i64 s)] = (xs.set i s).map BB := Jb BB xs i s rfl
theorem T0 (a : ByteArray) : AH a = [.v (.string a)] := rfl
theorem U5 (xs : List ByteArray) (n : Int) (s : AS) (K : Kt) : Ep 1 (xs.map AH) n s K = (0 ≤ n ∧ n < xs.length ∧ K (.t (.rop (AH (xs.getD n.toNat default)))) s) := Ba AH xs 1 n s K fun _ => rfl
theorem Nu {b : ByteArray} : Al.dec [.v (.string b)] = some b := rfl
theorem bT (xs : List ByteArray) : Al.decL (xs.map AH) = some xs := Al.decL_map xs
theorem Vu : Al.decL [] = some [] := rfl
theorem Un : Al.enc = AH := rfl
theorem jv : Al.n = 1 := rfl
theorem Jf (xs : List ByteArray) : EO (xs.map AH) = True := eq_true (EP AH (by intro a t ht; simp [AH] at ht; exact ⟨_, ht⟩) xs)
theorem ST (xs : List ByteArray) : (∀ c ∈ xs.map AH, c.length = 1) = True := eq_true fun c hc => by
 obtain ⟨a, _, rfl⟩ := List.mem_map.1 hc; rfl
theorem qE {α β : Type} {A : AD α} {L : AL β} {a : α} {b : β} : (lc A L).enc (a, b) = A.enc a :: L.enc b := rfl
theorem qC {a : Unit} : l0.enc a = [] := rfl
theorem aP {α : Type} {E : Em α} {xs : List α} : E.asl.enc xs = .t (.sl E.n (xs.map E.enc)) := rfl
theorem kb {α : Type} {E : Em α} {a : α} : E.ag.enc a = .agg ((E.enc a).map .t) := rfl
theorem aM {α : Type} {E : Em α} {d : Bool} {n : Nat} {xs : List α} : (E.aow d n).enc xs = .o d n (xs.map E.enc) := rfl
theorem Uf {b : Int} : A6.enc b = .t (.v (.int .i64 b)) := rfl
theorem Y9 {b : Int} : jl.enc b = .t (.v (.int .u8 b)) := rfl
theorem Uh {b : ByteArray} : A0.enc b = .t (.v (.string b)) := rfl
theorem Ac {α : Type} [Inhabited α] {xs : List α} {i : Nat} (h : i < xs.length) : xs.drop i = xs.getD i default :: xs.drop (i + 1) := Tx h
theorem vB {k : Nat} {c : Ct} : (AA k c).kd = k := rfl
theorem vC {k : Nat} {c : Ct} : (AA k c).ro = c := rfl
theorem uf {c : Mt} : (AN c).kd = 2 := rfl
theorem ug {c : Mt} : (AN c).mu = c := rfl
open Classical in
noncomputable def BU (p : Prop) : Bool := decide p
theorem Aa {p : Prop} : (BU p = true) = p := by unfold BU; simp
theorem AZ {p : Prop} : (BU p = false) = ¬ p := by unfold BU; simp
theorem Ag {p : Prop} (h : p) : BU p = true := by rw [Aa]; exact h
theorem AO {p : Prop} (h : ¬ p) : BU p = false := by rw [AZ]; exact h
theorem A8 {p : Prop} [Decidable p] : BU p = decide p := by
 by_cases h : p
 ·rw [Ag h, decide_eq_true h]
 ·rw [AO h, decide_eq_false h]
theorem DW {p : Prop} : (!BU p) = BU (¬ p) := by
 by_cases h : p
 ·rw [Ag h, AO (fun q => q h)]; rfl
 ·rw [AO h, Ag h]; rfl
theorem AY {p q : Prop} (h : p ↔ q) : BU p = BU q := by rw [propext h]
theorem qa {p : Prop} [Decidable p] : (decide p = true) = p := by simp
theorem qb {p : Prop} [Decidable p] : (decide p = false) = ¬ p := by simp
theorem qc {b : Bool} : ((!b) = true) = (b = false) := by simp
theorem qd {b : Bool} : ((!b) = false) = (b = true) := by simp
theorem qe {b : Bool} : (¬ b = true) = (b = false) := by simp
theorem qf {b : Bool} : (¬ b = false) = (b = true) := by simp
theorem qg {p : Prop} : (¬ ¬ p) = p := by simp
theorem qz : (∀ (p : Prop) [Decidable p], (decide p = true) = p) ∧ (∀ (p : Prop) [Decidable p], (decide p = false) = ¬ p) ∧ (∀ b : Bool, ((!b) = true) = (b = false)) ∧ (∀ b : Bool, ((!b) = false) = (b = true)) ∧ (∀ b : Bool, (¬ b = true) = (b = false)) ∧ (∀ b : Bool, (¬ b = false) = (b = true)) ∧ (∀ p : Prop, (¬ ¬ p) = p) ∧ (∀ p : Prop, (BU p = true) = p) ∧ (∀ p : Prop, (BU p = false) = ¬ p) := ⟨fun _ _ => qa, fun _ _ => qb, fun _ => qc, fun _ => qd, fun _ => qe, fun _ => qf, fun _ => qg, fun _ => Aa, fun _ => AZ⟩
abbrev Aj (G : Gt) : Prop := LB Tryz.prog G ∧ ER G
abbrev Gd (G : Gt) (f : FuncId) (e : Po) : Prop := I3 Tryz.prog G.m f e
theorem gR {G : Gt} {dp : Nat → Bool} {f : FuncId} {fn : Func} {c : Code} {α : Type} {L : AL α} {pre : α → Prop} {r : α → AV} {kd n : Nat} (hn : ∀ a, (L.enc a).length = n) (hf : Tryz.prog.funcs[f]? = some fn) (hb : fn.body = some c) (hok : NG fn c = true) (hG : Aj G)
    (hlen : n ≤ fn.ntmps) (ok : BH Tryz.prog f = true) (hk : ¬ kd = 3) (hs : kd = 0 → ∀ a, BT (r a)) (h : ∀ a, pre a → run Tryz.prog G dp (Qg Tryz.prog fn.results.toList (AX 900 0 (L.enc a) ⟨[], []⟩).avs (L.enc a) (r a)) [.c c] (s0 (L.enc a))) : Gd G f (AA kd (An L pre r)) := W7 hn hf hb hok uP hG hlen ok hk hs h
theorem gM {G : Gt} {dp : Nat → Bool} {f : FuncId} {fn : Func} {c : Code} {α : Type} {L : AL α} {pre : α → Prop} {r : α → List AV × AV} {n : Nat} (hn : ∀ a, (L.enc a).length = n) (hf : Tryz.prog.funcs[f]? = some fn) (hb : fn.body = some c) (hok : NG fn c = true) (hG : Aj G)
    (hlen : n ≤ fn.ntmps) (ok : BH Tryz.prog f = true) (h : ∀ a, pre a → run Tryz.prog G dp (Qg Tryz.prog fn.results.toList (AX 900 0 (L.enc a) ⟨[], []⟩).avs (r a).1 (r a).2) [.c c] (s0 (L.enc a))) : Gd G f (AN (GL L pre r)) := T3 hn hf hb hok uP hG hlen ok h
structure Ad where
 user : ByteArray
 domain : ByteArray
 deriving DecidableEq
instance : Inhabited Ad := ⟨⟨default, default⟩⟩
def At (a : Ad) : List T := [.v (.string a.user), .v (.string a.domain)]
def iL : List T → Option Ad
 | [.v (.string x0), .v (.string x1)] => some ⟨x0, x1⟩
 | _ => none
def Ce : Em Ad where
 enc := At
 dec := iL
 n := 2
 ed := fun _ => rfl
 de := fun c a h => by unfold iL at h; split at h <;> cases h; rfl
 len := fun _ => rfl
theorem KG (a : Ad) : At a = [.v (.string a.user), .v (.string a.domain)] := rfl
theorem Zz (xs : List Ad) (n : Int) (s : AS) (K : Kt) : Ep 2 (xs.map At) n s K = (0 ≤ n ∧ n < xs.length ∧ K (.t (.rop (At (xs.getD n.toNat default)))) s) := Ba At xs 2 n s K fun _ => rfl
theorem ZC {x0 : ByteArray} {x1 : ByteArray} : Ce.dec [.v (.string x0), .v (.string x1)] = some ⟨x0, x1⟩ := rfl
theorem nW (xs : List Ad) : Ce.decL (xs.map At) = some xs := Ce.decL_map xs
theorem ZD : Ce.enc = At := rfl
theorem sS : Ce.n = 2 := rfl
theorem qI (xs : List Ad) : (∀ c ∈ xs.map At, c.length = 2) = True := eq_true fun c hc => by
 obtain ⟨a, _, rfl⟩ := List.mem_map.1 hc; rfl
theorem ZB (xs : List Ad) : EO (xs.map At) = True := eq_true (EP At (by intro a t ht; simp only [At, List.mem_cons, List.not_mem_nil, or_false] at ht; rcases ht with rfl | rfl <;> exact ⟨_, rfl⟩) xs)
theorem jm (a : Ad) : (⟨a.user, a.domain⟩ : Ad) = a := rfl
theorem BW {a b : Ad} : a = b ↔ a.user = b.user ∧ a.domain = b.domain := by
 cases a; cases b; simp
structure Ml where
 frm : Ad
 to : List Ad
 body : List ByteArray
 deriving DecidableEq
instance : Inhabited Ml := ⟨⟨default, default, default⟩⟩
def DE (a : Ml) : List T := [.v (.string a.frm.user), .v (.string a.frm.domain), .sl 2 (a.to.map At), .sl 1 (a.body.map AH)]
def Xh (x0 : ByteArray) (x1 : ByteArray) : Option (List Ad) → Option (List ByteArray) → Option Ml
 | some x2, some x3 => some ⟨⟨x0, x1⟩, x2, x3⟩
 | _, _ => none
def iW : List T → Option Ml
 | [.v (.string x0), .v (.string x1), .sl 2 x2, .sl 1 x3] => Xh x0 x1 (Ce.decL x2) (Al.decL x3)
 | _ => none
def Um : Em Ml where
 enc := DE
 dec := iW
 n := 4
 ed := fun a => by
  show Xh a.frm.user a.frm.domain (Ce.decL (a.to.map Ce.enc)) (Al.decL (a.body.map Al.enc)) = _
  rw [Ce.decL_map, Al.decL_map]
  rfl
 de := fun c a h => by
  unfold iW at h
  split at h
  ·unfold Xh at h
   split at h
   ·rename_i e0 e1
    cases h
    rw [Ce.decL_inv e0, Al.decL_inv e1]; rfl
   ·cases h
  ·cases h
 len := fun _ => rfl
theorem Wb (a : Ml) : DE a = [.v (.string a.frm.user), .v (.string a.frm.domain), .sl 2 (a.to.map At), .sl 1 (a.body.map AH)] := rfl
theorem Z8 (xs : List Ml) (n : Int) (s : AS) (K : Kt) : Ep 4 (xs.map DE) n s K = (0 ≤ n ∧ n < xs.length ∧ K (.t (.rop (DE (xs.getD n.toNat default)))) s) := Ba DE xs 4 n s K fun _ => rfl
theorem ZU {x0 : ByteArray} {x1 : ByteArray} {x2 : List (List T)} {x3 : List (List T)} : Um.dec [.v (.string x0), .v (.string x1), .sl 2 x2, .sl 1 x3] = Xh x0 x1 (Ce.decL x2) (Al.decL x3) := rfl
theorem ZV : Um.enc = DE := rfl
theorem qM (xs : List Ml) : (∀ c ∈ xs.map DE, c.length = 4) = True := eq_true fun c hc => by
 obtain ⟨a, _, rfl⟩ := List.mem_map.1 hc; rfl
theorem j7 (a : Ml) : (⟨a.frm, a.to, a.body⟩ : Ml) = a := rfl
structure Rc where
 addr : Ad
 tries : Int
 next : Int
 deriving DecidableEq
instance : Inhabited Rc := ⟨⟨default, default, default⟩⟩
def BD (a : Rc) : List T := [.v (.string a.addr.user), .v (.string a.addr.domain), .v (.int .i64 a.tries), .v (.int .i64 a.next)]
def iX : List T → Option Rc
 | [.v (.string x0), .v (.string x1), .v (.int .i64 x2), .v (.int .i64 x3)] => some ⟨⟨x0, x1⟩, x2, x3⟩
 | _ => none
def Pe : Em Rc where
 enc := BD
 dec := iX
 n := 4
 ed := fun _ => rfl
 de := fun c a h => by unfold iX at h; split at h <;> cases h; rfl
 len := fun _ => rfl
theorem Wc (a : Rc) : BD a = [.v (.string a.addr.user), .v (.string a.addr.domain), .v (.int .i64 a.tries), .v (.int .i64 a.next)] := rfl
theorem Z9 (xs : List Rc) (n : Int) (s : AS) (K : Kt) : Ep 4 (xs.map BD) n s K = (0 ≤ n ∧ n < xs.length ∧ K (.t (.rop (BD (xs.getD n.toNat default)))) s) := Ba BD xs 4 n s K fun _ => rfl
theorem ZW {x0 : ByteArray} {x1 : ByteArray} {x2 : Int} {x3 : Int} : Pe.dec [.v (.string x0), .v (.string x1), .v (.int .i64 x2), .v (.int .i64 x3)] = some ⟨⟨x0, x1⟩, x2, x3⟩ := rfl
theorem nl (xs : List Rc) : Pe.decL (xs.map BD) = some xs := Pe.decL_map xs
theorem ZX : Pe.enc = BD := rfl
theorem sY : Pe.n = 4 := rfl
theorem XU (xs : List Rc) : (∀ c ∈ xs.map BD, c.length = 4) = True := eq_true fun c hc => by
 obtain ⟨a, _, rfl⟩ := List.mem_map.1 hc; rfl
theorem MN (xs : List Rc) : EO (xs.map BD) = True := eq_true (EP BD (by intro a t ht; simp only [BD, List.mem_cons, List.not_mem_nil, or_false] at ht; rcases ht with rfl | rfl | rfl | rfl <;> exact ⟨_, rfl⟩) xs)
theorem j8 (a : Rc) : (⟨a.addr, a.tries, a.next⟩ : Rc) = a := rfl
theorem j9 {a b : Rc} : a = b ↔ a.addr = b.addr ∧ a.tries = b.tries ∧ a.next = b.next := by
 cases a; cases b; simp
theorem Yb (xs : List Rc) (i : Nat) (x0 : ByteArray) (x1 : ByteArray) (x2 : Int) (x3 : Int) : (xs.map BD).set i [.v (.string x0), .v (.string x1), .v (.int .i64 x2), .v (.int .i64 x3)] = (xs.set i ⟨⟨x0, x1⟩, x2, x3⟩).map BD := Jb BD xs i ⟨⟨x0, x1⟩, x2, x3⟩ rfl
structure Im where
 id : Int
 frm : Ad
 to : List Rc
 body : List ByteArray
 deriving DecidableEq
instance : Inhabited Im := ⟨⟨default, default, default, default⟩⟩
def Ah (a : Im) : List T := [.v (.int .i64 a.id), .v (.string a.frm.user), .v (.string a.frm.domain), .sl 4 (a.to.map BD), .sl 1 (a.body.map AH)]
def Xg (x0 : Int) (x1 : ByteArray) (x2 : ByteArray) : Option (List Rc) → Option (List ByteArray) → Option Im
 | some x3, some x4 => some ⟨x0, ⟨x1, x2⟩, x3, x4⟩
 | _, _ => none
def iT : List T → Option Im
 | [.v (.int .i64 x0), .v (.string x1), .v (.string x2), .sl 4 x3, .sl 1 x4] => Xg x0 x1 x2 (Pe.decL x3) (Al.decL x4)
 | _ => none
def EL : Em Im where
 enc := Ah
 dec := iT
 n := 5
 ed := fun a => by
  show Xg a.id a.frm.user a.frm.domain (Pe.decL (a.to.map Pe.enc)) (Al.decL (a.body.map Al.enc)) = _
  rw [Pe.decL_map, Al.decL_map]
  rfl
 de := fun c a h => by
  unfold iT at h
  split at h
  ·unfold Xg at h
   split at h
   ·rename_i e0 e1
    cases h
    rw [Pe.decL_inv e0, Al.decL_inv e1]; rfl
   ·cases h
  ·cases h
 len := fun _ => rfl
theorem WZ (a : Im) : Ah a = [.v (.int .i64 a.id), .v (.string a.frm.user), .v (.string a.frm.domain), .sl 4 (a.to.map BD), .sl 1 (a.body.map AH)] := rfl
theorem Z6 (xs : List Im) (n : Int) (s : AS) (K : Kt) : Ep 5 (xs.map Ah) n s K = (0 ≤ n ∧ n < xs.length ∧ K (.t (.rop (Ah (xs.getD n.toNat default)))) s) := Ba Ah xs 5 n s K fun _ => rfl
theorem ZR {x0 : Int} {x1 : ByteArray} {x2 : ByteArray} {x3 : List (List T)} {x4 : List (List T)} : EL.dec [.v (.int .i64 x0), .v (.string x1), .v (.string x2), .sl 4 x3, .sl 1 x4] = Xg x0 x1 x2 (Pe.decL x3) (Al.decL x4) := rfl
theorem nh (xs : List Im) : EL.decL (xs.map Ah) = some xs := EL.decL_map xs
theorem bQ : EL.decL [] = some [] := rfl
theorem ZS : EL.enc = Ah := rfl
theorem sW : EL.n = 5 := rfl
theorem qL (xs : List Im) : (∀ c ∈ xs.map Ah, c.length = 5) = True := eq_true fun c hc => by
 obtain ⟨a, _, rfl⟩ := List.mem_map.1 hc; rfl
theorem j2 (a : Im) : (⟨a.id, a.frm, a.to, a.body⟩ : Im) = a := rfl
theorem j3 {a b : Im} : a = b ↔ a.id = b.id ∧ a.frm = b.frm ∧ a.to = b.to ∧ a.body = b.body := by
 cases a; cases b; simp
theorem Na (xs : List Im) (i : Nat) (x0 : Int) (x1 : ByteArray) (x2 : ByteArray) (x3 : List Rc) (x4 : List ByteArray) : (xs.map Ah).set i [.v (.int .i64 x0), .v (.string x1), .v (.string x2), .sl 4 (x3.map BD), .sl 1 (x4.map AH)] = (xs.set i ⟨x0, ⟨x1, x2⟩, x3, x4⟩).map Ah := Jb Ah xs i ⟨x0, ⟨x1, x2⟩, x3, x4⟩ rfl
structure Sp where
 last : Int
 items : List Im
 deriving DecidableEq
instance : Inhabited Sp := ⟨⟨default, default⟩⟩
def Dk (a : Sp) : List T := [.v (.int .i64 a.last), .sl 5 (a.items.map Ah)]
def Xj (x0 : Int) : Option (List Im) → Option Sp
 | some x1 => some ⟨x0, x1⟩
 | _ => none
def iY : List T → Option Sp
 | [.v (.int .i64 x0), .sl 5 x1] => Xj x0 (EL.decL x1)
 | _ => none
def LG : Em Sp where
 enc := Dk
 dec := iY
 n := 2
 ed := fun a => by
  show Xj a.last (EL.decL (a.items.map EL.enc)) = _
  rw [EL.decL_map]
  rfl
 de := fun c a h => by
  unfold iY at h
  split at h
  ·unfold Xj at h
   split at h
   ·rename_i e0
    cases h
    rw [EL.decL_inv e0]; rfl
   ·cases h
  ·cases h
 len := fun _ => rfl
theorem We (a : Sp) : Dk a = [.v (.int .i64 a.last), .sl 5 (a.items.map Ah)] := rfl
theorem ZY {x0 : Int} {x1 : List (List T)} : LG.dec [.v (.int .i64 x0), .sl 5 x1] = Xj x0 (EL.decL x1) := rfl
theorem ZZ : LG.enc = Dk := rfl
theorem kA (a : Sp) : (⟨a.last, a.items⟩ : Sp) = a := rfl
theorem kB {a b : Sp} : a = b ↔ a.last = b.last ∧ a.items = b.items := by
 cases a; cases b; simp
structure Wy where
 ends : ByteArray
 to : ByteArray
 deriving DecidableEq
instance : Inhabited Wy := ⟨⟨default, default⟩⟩
def B2 (a : Wy) : List T := [.v (.string a.ends), .v (.string a.to)]
def ib : List T → Option Wy
 | [.v (.string x0), .v (.string x1)] => some ⟨x0, x1⟩
 | _ => none
def G7 : Em Wy where
 enc := B2
 dec := ib
 n := 2
 ed := fun _ => rfl
 de := fun c a h => by unfold ib at h; split at h <;> cases h; rfl
 len := fun _ => rfl
theorem Wh (a : Wy) : B2 a = [.v (.string a.ends), .v (.string a.to)] := rfl
theorem aA (xs : List Wy) (n : Int) (s : AS) (K : Kt) : Ep 2 (xs.map B2) n s K = (0 ≤ n ∧ n < xs.length ∧ K (.t (.rop (B2 (xs.getD n.toNat default)))) s) := Ba B2 xs 2 n s K fun _ => rfl
theorem Zf {x0 : ByteArray} {x1 : ByteArray} : G7.dec [.v (.string x0), .v (.string x1)] = some ⟨x0, x1⟩ := rfl
theorem np (xs : List Wy) : G7.decL (xs.map B2) = some xs := G7.decL_map xs
theorem bU : G7.decL [] = some [] := rfl
theorem Zg : G7.enc = B2 := rfl
theorem sZ : G7.n = 2 := rfl
theorem XV (xs : List Wy) : (∀ c ∈ xs.map B2, c.length = 2) = True := eq_true fun c hc => by
 obtain ⟨a, _, rfl⟩ := List.mem_map.1 hc; rfl
theorem MO (xs : List Wy) : EO (xs.map B2) = True := eq_true (EP B2 (by intro a t ht; simp only [B2, List.mem_cons, List.not_mem_nil, or_false] at ht; rcases ht with rfl | rfl <;> exact ⟨_, rfl⟩) xs)
theorem kG (a : Wy) : (⟨a.ends, a.to⟩ : Wy) = a := rfl
theorem kH {a b : Wy} : a = b ↔ a.ends = b.ends ∧ a.to = b.to := by
 cases a; cases b; simp
structure Cf where
 name : ByteArray
 own : List ByteArray
 ways : List Wy
 deriving DecidableEq
instance : Inhabited Cf := ⟨⟨default, default, default⟩⟩
def Cr (a : Cf) : List T := [.v (.string a.name), .sl 1 (a.own.map AH), .sl 2 (a.ways.map B2)]
def Xc (x0 : ByteArray) : Option (List ByteArray) → Option (List Wy) → Option Cf
 | some x1, some x2 => some ⟨x0, x1, x2⟩
 | _, _ => none
def iO : List T → Option Cf
 | [.v (.string x0), .sl 1 x1, .sl 2 x2] => Xc x0 (Al.decL x1) (G7.decL x2)
 | _ => none
def IZ : Em Cf where
 enc := Cr
 dec := iO
 n := 3
 ed := fun a => by
  show Xc a.name (Al.decL (a.own.map Al.enc)) (G7.decL (a.ways.map G7.enc)) = _
  rw [Al.decL_map, G7.decL_map]
  rfl
 de := fun c a h => by
  unfold iO at h
  split at h
  ·unfold Xc at h
   split at h
   ·rename_i e0 e1
    cases h
    rw [Al.decL_inv e0, G7.decL_inv e1]; rfl
   ·cases h
  ·cases h
 len := fun _ => rfl
theorem WU (a : Cf) : Cr a = [.v (.string a.name), .sl 1 (a.own.map AH), .sl 2 (a.ways.map B2)] := rfl
theorem Z2 (xs : List Cf) (n : Int) (s : AS) (K : Kt) : Ep 3 (xs.map Cr) n s K = (0 ≤ n ∧ n < xs.length ∧ K (.t (.rop (Cr (xs.getD n.toNat default)))) s) := Ba Cr xs 3 n s K fun _ => rfl
theorem ZG {x0 : ByteArray} {x1 : List (List T)} {x2 : List (List T)} : IZ.dec [.v (.string x0), .sl 1 x1, .sl 2 x2] = Xc x0 (Al.decL x1) (G7.decL x2) := rfl
theorem nY (xs : List Cf) : IZ.decL (xs.map Cr) = some xs := IZ.decL_map xs
theorem ZH : IZ.enc = Cr := rfl
theorem sT : IZ.n = 3 := rfl
theorem jq (a : Cf) : (⟨a.name, a.own, a.ways⟩ : Cf) = a := rfl
theorem jr {a b : Cf} : a = b ↔ a.name = b.name ∧ a.own = b.own ∧ a.ways = b.ways := by
 cases a; cases b; simp
structure Gm where
 frm : Ad
 body : List ByteArray
 deriving DecidableEq
instance : Inhabited Gm := ⟨⟨default, default⟩⟩
def Ca (a : Gm) : List T := [.v (.string a.frm.user), .v (.string a.frm.domain), .sl 1 (a.body.map AH)]
def Xf (x0 : ByteArray) (x1 : ByteArray) : Option (List ByteArray) → Option Gm
 | some x2 => some ⟨⟨x0, x1⟩, x2⟩
 | _ => none
def iR : List T → Option Gm
 | [.v (.string x0), .v (.string x1), .sl 1 x2] => Xf x0 x1 (Al.decL x2)
 | _ => none
def Pd : Em Gm where
 enc := Ca
 dec := iR
 n := 3
 ed := fun a => by
  show Xf a.frm.user a.frm.domain (Al.decL (a.body.map Al.enc)) = _
  rw [Al.decL_map]
  rfl
 de := fun c a h => by
  unfold iR at h
  split at h
  ·unfold Xf at h
   split at h
   ·rename_i e0
    cases h
    rw [Al.decL_inv e0]; rfl
   ·cases h
  ·cases h
 len := fun _ => rfl
theorem WX (a : Gm) : Ca a = [.v (.string a.frm.user), .v (.string a.frm.domain), .sl 1 (a.body.map AH)] := rfl
theorem Z4 (xs : List Gm) (n : Int) (s : AS) (K : Kt) : Ep 3 (xs.map Ca) n s K = (0 ≤ n ∧ n < xs.length ∧ K (.t (.rop (Ca (xs.getD n.toNat default)))) s) := Ba Ca xs 3 n s K fun _ => rfl
theorem ZN {x0 : ByteArray} {x1 : ByteArray} {x2 : List (List T)} : Pd.dec [.v (.string x0), .v (.string x1), .sl 1 x2] = Xf x0 x1 (Al.decL x2) := rfl
theorem nc (xs : List Gm) : Pd.decL (xs.map Ca) = some xs := Pd.decL_map xs
theorem ZO : Pd.enc = Ca := rfl
theorem sV : Pd.n = 3 := rfl
theorem qK (xs : List Gm) : (∀ c ∈ xs.map Ca, c.length = 3) = True := eq_true fun c hc => by
 obtain ⟨a, _, rfl⟩ := List.mem_map.1 hc; rfl
theorem jy (a : Gm) : (⟨a.frm, a.body⟩ : Gm) = a := rfl
theorem jz {a b : Gm} : a = b ↔ a.frm = b.frm ∧ a.body = b.body := by
 cases a; cases b; simp
structure Bx where
 addr : Ad
 mails : List Gm
 deriving DecidableEq
instance : Inhabited Bx := ⟨⟨default, default⟩⟩
def Bn (a : Bx) : List T := [.v (.string a.addr.user), .v (.string a.addr.domain), .sl 3 (a.mails.map Ca)]
def Xb (x0 : ByteArray) (x1 : ByteArray) : Option (List Gm) → Option Bx
 | some x2 => some ⟨⟨x0, x1⟩, x2⟩
 | _ => none
def iM : List T → Option Bx
 | [.v (.string x0), .v (.string x1), .sl 3 x2] => Xb x0 x1 (Pd.decL x2)
 | _ => none
def LZ : Em Bx where
 enc := Bn
 dec := iM
 n := 3
 ed := fun a => by
  show Xb a.addr.user a.addr.domain (Pd.decL (a.mails.map Pd.enc)) = _
  rw [Pd.decL_map]
  rfl
 de := fun c a h => by
  unfold iM at h
  split at h
  ·unfold Xb at h
   split at h
   ·rename_i e0
    cases h
    rw [Pd.decL_inv e0]; rfl
   ·cases h
  ·cases h
 len := fun _ => rfl
theorem WS (a : Bx) : Bn a = [.v (.string a.addr.user), .v (.string a.addr.domain), .sl 3 (a.mails.map Ca)] := rfl
theorem Z0 (xs : List Bx) (n : Int) (s : AS) (K : Kt) : Ep 3 (xs.map Bn) n s K = (0 ≤ n ∧ n < xs.length ∧ K (.t (.rop (Bn (xs.getD n.toNat default)))) s) := Ba Bn xs 3 n s K fun _ => rfl
theorem ZE {x0 : ByteArray} {x1 : ByteArray} {x2 : List (List T)} : LZ.dec [.v (.string x0), .v (.string x1), .sl 3 x2] = Xb x0 x1 (Pd.decL x2) := rfl
theorem nX (xs : List Bx) : LZ.decL (xs.map Bn) = some xs := LZ.decL_map xs
theorem bP : LZ.decL [] = some [] := rfl
theorem ZF : LZ.enc = Bn := rfl
theorem qJ (xs : List Bx) : (∀ c ∈ xs.map Bn, c.length = 3) = True := eq_true fun c hc => by
 obtain ⟨a, _, rfl⟩ := List.mem_map.1 hc; rfl
theorem jo (a : Bx) : (⟨a.addr, a.mails⟩ : Bx) = a := rfl
theorem jp {a b : Bx} : a = b ↔ a.addr = b.addr ∧ a.mails = b.mails := by
 cases a; cases b; simp
structure Ls where
 mark : ByteArray
 addr : Ad
 deriving DecidableEq
instance : Inhabited Ls := ⟨⟨default, default⟩⟩
def Ay (a : Ls) : List T := [.v (.string a.mark), .v (.string a.addr.user), .v (.string a.addr.domain)]
def iV : List T → Option Ls
 | [.v (.string x0), .v (.string x1), .v (.string x2)] => some ⟨x0, ⟨x1, x2⟩⟩
 | _ => none
def FI : Em Ls where
 enc := Ay
 dec := iV
 n := 3
 ed := fun _ => rfl
 de := fun c a h => by unfold iV at h; split at h <;> cases h; rfl
 len := fun _ => rfl
theorem Wa (a : Ls) : Ay a = [.v (.string a.mark), .v (.string a.addr.user), .v (.string a.addr.domain)] := rfl
theorem Z7 (xs : List Ls) (n : Int) (s : AS) (K : Kt) : Ep 3 (xs.map Ay) n s K = (0 ≤ n ∧ n < xs.length ∧ K (.t (.rop (Ay (xs.getD n.toNat default)))) s) := Ba Ay xs 3 n s K fun _ => rfl
theorem nj (xs : List Ls) : FI.decL (xs.map Ay) = some xs := FI.decL_map xs
theorem bS : FI.decL [] = some [] := rfl
theorem ZT : FI.enc = Ay := rfl
theorem sX : FI.n = 3 := rfl
theorem XT (xs : List Ls) : (∀ c ∈ xs.map Ay, c.length = 3) = True := eq_true fun c hc => by
 obtain ⟨a, _, rfl⟩ := List.mem_map.1 hc; rfl
theorem MM (xs : List Ls) : EO (xs.map Ay) = True := eq_true (EP Ay (by intro a t ht; simp only [Ay, List.mem_cons, List.not_mem_nil, or_false] at ht; rcases ht with rfl | rfl | rfl <;> exact ⟨_, rfl⟩) xs)
theorem j5 {a b : Ls} : a = b ↔ a.mark = b.mark ∧ a.addr = b.addr := by
 cases a; cases b; simp
structure Hs where
 conf : Cf
 spool : Sp
 boxes : List Bx
 lost : List Ls
 deriving DecidableEq
instance : Inhabited Hs := ⟨⟨default, default, default, default⟩⟩
def Ao (a : Hs) : List T := [.v (.string a.conf.name), .sl 1 (a.conf.own.map AH), .sl 2 (a.conf.ways.map B2), .v (.int .i64 a.spool.last), .sl 5 (a.spool.items.map Ah), .sl 3 (a.boxes.map Bn), .sl 3 (a.lost.map Ay)]
def NB (x0 : ByteArray) (x3 : Int) : Option (List ByteArray) → Option (List Wy) → Option (List Im) → Option (List Bx) → Option (List Ls) → Option Hs
 | some x1, some x2, some x4, some x5, some x6 => some ⟨⟨x0, x1, x2⟩, ⟨x3, x4⟩, x5, x6⟩
 | _, _, _, _, _ => none
def iS : List T → Option Hs
 | [.v (.string x0), .sl 1 x1, .sl 2 x2, .v (.int .i64 x3), .sl 5 x4, .sl 3 x5, .sl 3 x6] => NB x0 x3 (Al.decL x1) (G7.decL x2) (EL.decL x4) (LZ.decL x5) (FI.decL x6)
 | _ => none
def FH : Em Hs where
 enc := Ao
 dec := iS
 n := 7
 ed := fun a => by
  show NB a.conf.name a.spool.last (Al.decL (a.conf.own.map Al.enc)) (G7.decL (a.conf.ways.map G7.enc)) (EL.decL (a.spool.items.map EL.enc)) (LZ.decL (a.boxes.map LZ.enc)) (FI.decL (a.lost.map FI.enc)) = _
  rw [Al.decL_map, G7.decL_map, EL.decL_map, LZ.decL_map, FI.decL_map]
  rfl
 de := fun c a h => by
  unfold iS at h
  split at h
  ·unfold NB at h
   split at h
   ·rename_i e0 e1 e2 e3 e4
    cases h
    rw [Al.decL_inv e0, G7.decL_inv e1, EL.decL_inv e2, LZ.decL_inv e3, FI.decL_inv e4]; rfl
   ·cases h
  ·cases h
 len := fun _ => rfl
theorem WY (a : Hs) : Ao a = [.v (.string a.conf.name), .sl 1 (a.conf.own.map AH), .sl 2 (a.conf.ways.map B2), .v (.int .i64 a.spool.last), .sl 5 (a.spool.items.map Ah), .sl 3 (a.boxes.map Bn), .sl 3 (a.lost.map Ay)] := rfl
theorem Z5 (xs : List Hs) (n : Int) (s : AS) (K : Kt) : Ep 7 (xs.map Ao) n s K = (0 ≤ n ∧ n < xs.length ∧ K (.t (.rop (Ao (xs.getD n.toNat default)))) s) := Ba Ao xs 7 n s K fun _ => rfl
theorem ZP {x0 : ByteArray} {x1 : List (List T)} {x2 : List (List T)} {x3 : Int} {x4 : List (List T)} {x5 : List (List T)} {x6 : List (List T)} : FH.dec [.v (.string x0), .sl 1 x1, .sl 2 x2, .v (.int .i64 x3), .sl 5 x4, .sl 3 x5, .sl 3 x6] = NB x0 x3 (Al.decL x1) (G7.decL x2) (EL.decL x4) (LZ.decL x5) (FI.decL x6) := rfl
theorem nf (xs : List Hs) : FH.decL (xs.map Ao) = some xs := FH.decL_map xs
theorem ZQ : FH.enc = Ao := rfl
theorem j0 (a : Hs) : (⟨a.conf, a.spool, a.boxes, a.lost⟩ : Hs) = a := rfl
theorem j1 {a b : Hs} : a = b ↔ a.conf = b.conf ∧ a.spool = b.spool ∧ a.boxes = b.boxes ∧ a.lost = b.lost := by
 cases a; cases b; simp
theorem Kv (xs : List Hs) (i : Nat) (x0 : ByteArray) (x1 : List ByteArray) (x2 : List Wy) (x3 : Int) (x4 : List Im) (x5 : List Bx) (x6 : List Ls) : (xs.map Ao).set i [.v (.string x0), .sl 1 (x1.map AH), .sl 2 (x2.map B2), .v (.int .i64 x3), .sl 5 (x4.map Ah), .sl 3 (x5.map Bn), .sl 3 (x6.map Ay)] = (xs.set i ⟨⟨x0, x1, x2⟩, ⟨x3, x4⟩, x5, x6⟩).map Ao := Jb Ao xs i ⟨⟨x0, x1, x2⟩, ⟨x3, x4⟩, x5, x6⟩ rfl
structure Ss where
 state : Int
 mail : Ml
 bad : Bool
 buf : ByteArray
 deriving DecidableEq
instance : Inhabited Ss := ⟨⟨default, default, default, default⟩⟩
def Ed (a : Ss) : List T := [.v (.int .i64 a.state), .v (.string a.mail.frm.user), .v (.string a.mail.frm.domain), .sl 2 (a.mail.to.map At), .sl 1 (a.mail.body.map AH), .v (.bool a.bad), .v (.string a.buf)]
def Xk (x0 : Int) (x1 : ByteArray) (x2 : ByteArray) (x5 : Bool) (x6 : ByteArray) : Option (List Ad) → Option (List ByteArray) → Option Ss
 | some x3, some x4 => some ⟨x0, ⟨⟨x1, x2⟩, x3, x4⟩, x5, x6⟩
 | _, _ => none
def iZ : List T → Option Ss
 | [.v (.int .i64 x0), .v (.string x1), .v (.string x2), .sl 2 x3, .sl 1 x4, .v (.bool x5), .v (.string x6)] => Xk x0 x1 x2 x5 x6 (Ce.decL x3) (Al.decL x4)
 | _ => none
def Za : Em Ss where
 enc := Ed
 dec := iZ
 n := 7
 ed := fun a => by
  show Xk a.state a.mail.frm.user a.mail.frm.domain a.bad a.buf (Ce.decL (a.mail.to.map Ce.enc)) (Al.decL (a.mail.body.map Al.enc)) = _
  rw [Ce.decL_map, Al.decL_map]
  rfl
 de := fun c a h => by
  unfold iZ at h
  split at h
  ·unfold Xk at h
   split at h
   ·rename_i e0 e1
    cases h
    rw [Ce.decL_inv e0, Al.decL_inv e1]; rfl
   ·cases h
  ·cases h
 len := fun _ => rfl
theorem Wf (a : Ss) : Ed a = [.v (.int .i64 a.state), .v (.string a.mail.frm.user), .v (.string a.mail.frm.domain), .sl 2 (a.mail.to.map At), .sl 1 (a.mail.body.map AH), .v (.bool a.bad), .v (.string a.buf)] := rfl
theorem Zb {x0 : Int} {x1 : ByteArray} {x2 : ByteArray} {x3 : List (List T)} {x4 : List (List T)} {x5 : Bool} {x6 : ByteArray} : Za.dec [.v (.int .i64 x0), .v (.string x1), .v (.string x2), .sl 2 x3, .sl 1 x4, .v (.bool x5), .v (.string x6)] = Xk x0 x1 x2 x5 x6 (Ce.decL x3) (Al.decL x4) := rfl
theorem Zc : Za.enc = Ed := rfl
theorem kD (a : Ss) : (⟨a.state, a.mail, a.bad, a.buf⟩ : Ss) = a := rfl
structure Cl where
 name : ByteArray
 mail : Ml
 state : Int
 pos : Int
 outs : List Int
 deriving DecidableEq
instance : Inhabited Cl := ⟨⟨default, default, default, default, default⟩⟩
def Dj (a : Cl) : List T := [.v (.string a.name), .v (.string a.mail.frm.user), .v (.string a.mail.frm.domain), .sl 2 (a.mail.to.map At), .sl 1 (a.mail.body.map AH), .v (.int .i64 a.state), .v (.int .i64 a.pos), .sl 1 (a.outs.map BB)]
def Xd (x0 : ByteArray) (x1 : ByteArray) (x2 : ByteArray) (x5 : Int) (x6 : Int) : Option (List Ad) → Option (List ByteArray) → Option (List Int) → Option Cl
 | some x3, some x4, some x7 => some ⟨x0, ⟨⟨x1, x2⟩, x3, x4⟩, x5, x6, x7⟩
 | _, _, _ => none
def iP : List T → Option Cl
 | [.v (.string x0), .v (.string x1), .v (.string x2), .sl 2 x3, .sl 1 x4, .v (.int .i64 x5), .v (.int .i64 x6), .sl 1 x7] => Xd x0 x1 x2 x5 x6 (Ce.decL x3) (Al.decL x4) (DR.decL x7)
 | _ => none
def ZI : Em Cl where
 enc := Dj
 dec := iP
 n := 8
 ed := fun a => by
  show Xd a.name a.mail.frm.user a.mail.frm.domain a.state a.pos (Ce.decL (a.mail.to.map Ce.enc)) (Al.decL (a.mail.body.map Al.enc)) (DR.decL (a.outs.map DR.enc)) = _
  rw [Ce.decL_map, Al.decL_map, DR.decL_map]
  rfl
 de := fun c a h => by
  unfold iP at h
  split at h
  ·unfold Xd at h
   split at h
   ·rename_i e0 e1 e2
    cases h
    rw [Ce.decL_inv e0, Al.decL_inv e1, DR.decL_inv e2]; rfl
   ·cases h
  ·cases h
 len := fun _ => rfl
theorem WV (a : Cl) : Dj a = [.v (.string a.name), .v (.string a.mail.frm.user), .v (.string a.mail.frm.domain), .sl 2 (a.mail.to.map At), .sl 1 (a.mail.body.map AH), .v (.int .i64 a.state), .v (.int .i64 a.pos), .sl 1 (a.outs.map BB)] := rfl
theorem ZJ {x0 : ByteArray} {x1 : ByteArray} {x2 : ByteArray} {x3 : List (List T)} {x4 : List (List T)} {x5 : Int} {x6 : Int} {x7 : List (List T)} : ZI.dec [.v (.string x0), .v (.string x1), .v (.string x2), .sl 2 x3, .sl 1 x4, .v (.int .i64 x5), .v (.int .i64 x6), .sl 1 x7] = Xd x0 x1 x2 x5 x6 (Ce.decL x3) (Al.decL x4) (DR.decL x7) := rfl
theorem ZK : ZI.enc = Dj := rfl
theorem js (a : Cl) : (⟨a.name, a.mail, a.state, a.pos, a.outs⟩ : Cl) = a := rfl
structure Ev where
 kind : Int
 host : Int
 to : Int
 id : Int
 cut : Int
 lose : Bool
 mail : Ml
 deriving DecidableEq
instance : Inhabited Ev := ⟨⟨default, default, default, default, default, default, default⟩⟩
def Cs (a : Ev) : List T := [.v (.int .i64 a.kind), .v (.int .i64 a.host), .v (.int .i64 a.to), .v (.int .i64 a.id), .v (.int .i64 a.cut), .v (.bool a.lose), .v (.string a.mail.frm.user), .v (.string a.mail.frm.domain), .sl 2 (a.mail.to.map At), .sl 1 (a.mail.body.map AH)]
def Xe (x0 : Int) (x1 : Int) (x2 : Int) (x3 : Int) (x4 : Int) (x5 : Bool) (x6 : ByteArray) (x7 : ByteArray) : Option (List Ad) → Option (List ByteArray) → Option Ev
 | some x8, some x9 => some ⟨x0, x1, x2, x3, x4, x5, ⟨⟨x6, x7⟩, x8, x9⟩⟩
 | _, _ => none
def iQ : List T → Option Ev
 | [.v (.int .i64 x0), .v (.int .i64 x1), .v (.int .i64 x2), .v (.int .i64 x3), .v (.int .i64 x4), .v (.bool x5), .v (.string x6), .v (.string x7), .sl 2 x8, .sl 1 x9] => Xe x0 x1 x2 x3 x4 x5 x6 x7 (Ce.decL x8) (Al.decL x9)
 | _ => none
def Pn : Em Ev where
 enc := Cs
 dec := iQ
 n := 10
 ed := fun a => by
  show Xe a.kind a.host a.to a.id a.cut a.lose a.mail.frm.user a.mail.frm.domain (Ce.decL (a.mail.to.map Ce.enc)) (Al.decL (a.mail.body.map Al.enc)) = _
  rw [Ce.decL_map, Al.decL_map]
  rfl
 de := fun c a h => by
  unfold iQ at h
  split at h
  ·unfold Xe at h
   split at h
   ·rename_i e0 e1
    cases h
    rw [Ce.decL_inv e0, Al.decL_inv e1]; rfl
   ·cases h
  ·cases h
 len := fun _ => rfl
theorem WW (a : Ev) : Cs a = [.v (.int .i64 a.kind), .v (.int .i64 a.host), .v (.int .i64 a.to), .v (.int .i64 a.id), .v (.int .i64 a.cut), .v (.bool a.lose), .v (.string a.mail.frm.user), .v (.string a.mail.frm.domain), .sl 2 (a.mail.to.map At), .sl 1 (a.mail.body.map AH)] := rfl
theorem Z3 (xs : List Ev) (n : Int) (s : AS) (K : Kt) : Ep 10 (xs.map Cs) n s K = (0 ≤ n ∧ n < xs.length ∧ K (.t (.rop (Cs (xs.getD n.toNat default)))) s) := Ba Cs xs 10 n s K fun _ => rfl
theorem ZL {x0 : Int} {x1 : Int} {x2 : Int} {x3 : Int} {x4 : Int} {x5 : Bool} {x6 : ByteArray} {x7 : ByteArray} {x8 : List (List T)} {x9 : List (List T)} : Pn.dec [.v (.int .i64 x0), .v (.int .i64 x1), .v (.int .i64 x2), .v (.int .i64 x3), .v (.int .i64 x4), .v (.bool x5), .v (.string x6), .v (.string x7), .sl 2 x8, .sl 1 x9] = Xe x0 x1 x2 x3 x4 x5 x6 x7 (Ce.decL x8) (Al.decL x9) := rfl
theorem nZ (xs : List Ev) : Pn.decL (xs.map Cs) = some xs := Pn.decL_map xs
theorem ZM : Pn.enc = Cs := rfl
theorem sU : Pn.n = 10 := rfl
theorem jw (a : Ev) : (⟨a.kind, a.host, a.to, a.id, a.cut, a.lose, a.mail⟩ : Ev) = a := rfl
structure Wd where
 hosts : List Hs
 now : Int
 marks : Int
 given : List Ls
 deriving DecidableEq
instance : Inhabited Wd := ⟨⟨default, default, default, default⟩⟩
def Ii (a : Wd) : List T := [.sl 7 (a.hosts.map Ao), .v (.int .i64 a.now), .v (.int .i64 a.marks), .sl 3 (a.given.map Ay)]
def Gv (x1 : Int) (x2 : Int) : Option (List Hs) → Option (List Ls) → Option Wd
 | some x0, some x3 => some ⟨x0, x1, x2, x3⟩
 | _, _ => none
def ia : List T → Option Wd
 | [.sl 7 x0, .v (.int .i64 x1), .v (.int .i64 x2), .sl 3 x3] => Gv x1 x2 (FH.decL x0) (FI.decL x3)
 | _ => none
def gk : Em Wd where
 enc := Ii
 dec := ia
 n := 4
 ed := fun a => by
  show Gv a.now a.marks (FH.decL (a.hosts.map FH.enc)) (FI.decL (a.given.map FI.enc)) = _
  rw [FH.decL_map, FI.decL_map]
  rfl
 de := fun c a h => by
  unfold ia at h
  split at h
  ·unfold Gv at h
   split at h
   ·rename_i e0 e1
    cases h
    rw [FH.decL_inv e0, FI.decL_inv e1]; rfl
   ·cases h
  ·cases h
 len := fun _ => rfl
theorem Wg (a : Wd) : Ii a = [.sl 7 (a.hosts.map Ao), .v (.int .i64 a.now), .v (.int .i64 a.marks), .sl 3 (a.given.map Ay)] := rfl
theorem Zd {x0 : List (List T)} {x1 : Int} {x2 : Int} {x3 : List (List T)} : gk.dec [.sl 7 x0, .v (.int .i64 x1), .v (.int .i64 x2), .sl 3 x3] = Gv x1 x2 (FH.decL x0) (FI.decL x3) := rfl
theorem Ze : gk.enc = Ii := rfl
theorem kF (a : Wd) : (⟨a.hosts, a.now, a.marks, a.given⟩ : Wd) = a := rfl
def Q7 (a : Ml) : AV := .agg [.t (.v (.string a.frm.user)), .t (.v (.string a.frm.domain)), .o true 2 (a.to.map At), .o true 1 (a.body.map AH)]
theorem fb (a : Ml) : Q7 a = .agg [.t (.v (.string a.frm.user)), .t (.v (.string a.frm.domain)), .o true 2 (a.to.map At), .o true 1 (a.body.map AH)] := rfl
theorem Gz (a : Ml) : BT (Q7 a) := .agg _ fun c hc => by
 simp only [List.mem_cons, List.not_mem_nil, or_false] at hc
 rcases hc with rfl | rfl | rfl | rfl
 ·exact .v _
 ·exact .v _
 ·exact .deep _ _
 ·exact .deep _ _
def qy (a : Im) : AV := .agg [.t (.v (.int .i64 a.id)), .t (.v (.string a.frm.user)), .t (.v (.string a.frm.domain)), .o true 4 (a.to.map BD), .o true 1 (a.body.map AH)]
theorem fa (a : Im) : qy a = .agg [.t (.v (.int .i64 a.id)), .t (.v (.string a.frm.user)), .t (.v (.string a.frm.domain)), .o true 4 (a.to.map BD), .o true 1 (a.body.map AH)] := rfl
theorem Q6 (a : Im) : BT (qy a) := .agg _ fun c hc => by
 simp only [List.mem_cons, List.not_mem_nil, or_false] at hc
 rcases hc with rfl | rfl | rfl | rfl | rfl
 ·exact .v _
 ·exact .v _
 ·exact .v _
 ·exact .deep _ _
 ·exact .deep _ _
def Q8 (a : Sp) : AV := .agg [.t (.v (.int .i64 a.last)), .o true 5 (a.items.map Ah)]
theorem fc (a : Sp) : Q8 a = .agg [.t (.v (.int .i64 a.last)), .o true 5 (a.items.map Ah)] := rfl
theorem G4 (a : Sp) : BT (Q8 a) := .agg _ fun c hc => by
 simp only [List.mem_cons, List.not_mem_nil, or_false] at hc
 rcases hc with rfl | rfl
 ·exact .v _
 ·exact .deep _ _
def fW (a : Cf) : AV := .agg [.t (.v (.string a.name)), .o true 1 (a.own.map AH), .o true 2 (a.ways.map B2)]
theorem fX (a : Cf) : fW a = .agg [.t (.v (.string a.name)), .o true 1 (a.own.map AH), .o true 2 (a.ways.map B2)] := rfl
theorem Kj (a : Cf) : BT (fW a) := .agg _ fun c hc => by
 simp only [List.mem_cons, List.not_mem_nil, or_false] at hc
 rcases hc with rfl | rfl | rfl
 ·exact .v _
 ·exact .deep _ _
 ·exact .deep _ _
def NQ (a : Hs) : AV := .agg [.t (.v (.string a.conf.name)), .o true 1 (a.conf.own.map AH), .o true 2 (a.conf.ways.map B2), .t (.v (.int .i64 a.spool.last)), .o true 5 (a.spool.items.map Ah), .o true 3 (a.boxes.map Bn), .o true 3 (a.lost.map Ay)]
def YH : AV → Option Hs
 | .agg [.t (.v (.string x0)), x1, x2, .t (.v (.int .i64 x3)), x4, x5, x6] => NB x0 x3 (Al.owD true 1 x1) (G7.owD true 2 x2) (EL.owD true 5 x4) (LZ.owD true 3 x5) (FI.owD true 3 x6)
 | _ => none
def yc : AD Hs where
 enc := NQ
 dec := YH
 ed := fun a => by
  show NB a.conf.name a.spool.last (Al.owD true 1 ((Al.aow true 1).enc a.conf.own)) (G7.owD true 2 ((G7.aow true 2).enc a.conf.ways)) (EL.owD true 5 ((EL.aow true 5).enc a.spool.items)) (LZ.owD true 3 ((LZ.aow true 3).enc a.boxes)) (FI.owD true 3 ((FI.aow true 3).enc a.lost)) = _
  rw [show Al.owD true 1 ((Al.aow true 1).enc a.conf.own) = some a.conf.own from (Al.aow true 1).ed _, show G7.owD true 2 ((G7.aow true 2).enc a.conf.ways) = some a.conf.ways from (G7.aow true 2).ed _, show EL.owD true 5 ((EL.aow true 5).enc a.spool.items) = some a.spool.items from (EL.aow true 5).ed _, show LZ.owD true 3 ((LZ.aow true 3).enc a.boxes) = some a.boxes from (LZ.aow true 3).ed _, show FI.owD true 3 ((FI.aow true 3).enc a.lost) = some a.lost from (FI.aow true 3).ed _]
  rfl
 de := fun x m h => by
  unfold YH at h
  split at h
  ·unfold NB at h
   split at h
   ·rename_i e0 e1 e2 e3 e4
    cases h
    have q0 := (Al.aow true 1).de _ _ e0
    subst q0
    have q1 := (G7.aow true 2).de _ _ e1
    subst q1
    have q2 := (EL.aow true 5).de _ _ e2
    subst q2
    have q3 := (LZ.aow true 3).de _ _ e3
    subst q3
    have q4 := (FI.aow true 3).de _ _ e4
    subst q4
    rfl
   ·cases h
  ·cases h
theorem fZ (a : Hs) : NQ a = .agg [.t (.v (.string a.conf.name)), .o true 1 (a.conf.own.map AH), .o true 2 (a.conf.ways.map B2), .t (.v (.int .i64 a.spool.last)), .o true 5 (a.spool.items.map Ah), .o true 3 (a.boxes.map Bn), .o true 3 (a.lost.map Ay)] := rfl
theorem Gy (a : Hs) : BT (NQ a) := .agg _ fun c hc => by
 simp only [List.mem_cons, List.not_mem_nil, or_false] at hc
 rcases hc with rfl | rfl | rfl | rfl | rfl | rfl | rfl
 ·exact .v _
 ·exact .deep _ _
 ·exact .deep _ _
 ·exact .v _
 ·exact .deep _ _
 ·exact .deep _ _
 ·exact .deep _ _
end Go.V
namespace Go.V
open Go Go.Proofs
set_option maxRecDepth 100000
set_option linter.unusedSimpArgs false
set_option linter.unusedVariables false
theorem ai {a b : Prop} (x : a) (y : b) : a ∧ b := ⟨x, y⟩
theorem s1 {P G dp R k s t e b} (h1 : b = true → run P G dp R (.c t :: k) s) (h2 : b = false → run P G dp R (.c e :: k) s) : s8 P G dp R t e k s b := Ta h1 h2
theorem s2 {s : AS} {x y : AV} {K : Kt} {b : Bool} (h1 : b = true → K x s) (h2 : b = false → K y s) : FP x y s K b := Mc h1 h2
theorem s3 {P G dp R k s d all r op b want} (h1 : b = true → gB P G dp R d all r k s op true want) (h2 : b = false → gB P G dp R d all r k s op false want) : gB P G dp R d all r k s op b want := W0 h1 h2
theorem s4 {P G dp all ns K i l acc s pre t d op b want} (h1 : b = true → Ud P G dp all ns K i l acc s pre t d op true want) (h2 : b = false → Ud P G dp all ns K i l acc s pre t d op false want) : Ud P G dp all ns K i l acc s pre t d op b want := TR h1 h2
theorem tv : True := trivial
theorem tn (n : Nat) : Int.toNat (n : Int) = n := rfl
theorem lm {α β : Type} {xs : List α} (f : α → β) : (xs.map f).length = xs.length := List.length_map f
theorem LQ {dp : Nat → Bool} {G : Gt} {f : FuncId} {fn : Func} {c : Code} {α : Type} {L : AL α} {pre : α → Prop} {r : α → AV} {kd n : Nat} (hb : fn.body = some c) (hG : Aj G) (h : ∀ a, pre a → run Tryz.prog G dp (Qg Tryz.prog fn.results.toList (AX 900 0 (L.enc a) ⟨[], []⟩).avs (L.enc a) (r a)) [.c c] (s0 (L.enc a)))
    (hn : ∀ a, (L.enc a).length = n := by exact fun _ => rfl) (hf : Tryz.prog.funcs[f]? = some fn := by kernel_rfl) (hok : NG fn c = true := by kernel_rfl) (hlen : n ≤ fn.ntmps := by exact Nat.le_of_ble_eq_true rfl) (ok : BH Tryz.prog f = true := by kernel_rfl) (hk : ¬ kd = 3 := by decide) (hs : kd = 0 → ∀ a, BT (r a) := by first | exact fun _ _ => .v _ | exact fun h => by cases h) : Gd G f (AA kd (An L pre r)) := gR hn hf hb hok hG hlen ok hk hs h
theorem gr {G : Gt} {f : FuncId} {fn : Func} {c : Code} {α : Type} {L : AL α} {pre : α → Prop} {r : α → AV} {kd n : Nat} (hb : fn.body = some c) (hG : Aj G) (h : ∀ a, pre a → run Tryz.prog G (fun _ => true) (Qg Tryz.prog fn.results.toList (AX 900 0 (L.enc a) ⟨[], []⟩).avs (L.enc a) (r a)) [.c c] (s0 (L.enc a)))
    (hn : ∀ a, (L.enc a).length = n := by exact fun _ => rfl) (hf : Tryz.prog.funcs[f]? = some fn := by kernel_rfl) (hok : NG fn c = true := by kernel_rfl) (hlen : n ≤ fn.ntmps := by exact Nat.le_of_ble_eq_true rfl) (ok : BH Tryz.prog f = true := by kernel_rfl) (hk : ¬ kd = 3 := by decide) (hs : kd = 0 → ∀ a, BT (r a) := by first | exact fun _ _ => .v _ | exact fun h => by cases h) : Gd G f (AA kd (An L pre r)) := gR hn hf hb hok hG hlen ok hk hs h
theorem Ik {dp : Nat → Bool} {G : Gt} {f : FuncId} {fn : Func} {c : Code} {α : Type} {L : AL α} {pre : α → Prop} {r : α → List AV × AV} {n : Nat} (hb : fn.body = some c) (hG : Aj G) (h : ∀ a, pre a → run Tryz.prog G dp (Qg Tryz.prog fn.results.toList (AX 900 0 (L.enc a) ⟨[], []⟩).avs (r a).1 (r a).2) [.c c] (s0 (L.enc a)))
    (hn : ∀ a, (L.enc a).length = n := by exact fun _ => rfl) (hf : Tryz.prog.funcs[f]? = some fn := by kernel_rfl) (hok : NG fn c = true := by kernel_rfl) (hlen : n ≤ fn.ntmps := by exact Nat.le_of_ble_eq_true rfl) (ok : BH Tryz.prog f = true := by kernel_rfl) : Gd G f (AN (GL L pre r)) := gM hn hf hb hok hG hlen ok h
attribute [go_sem] FP.eq_1 FP.eq_2 Ju.eq_1 TF.eq_1 TF.eq_2 Hz.eq_1 Hz.eq_2 Es.eq_1 Es.eq_2 Es.eq_3 Es.eq_4 Es.eq_5 Er.eq_1 Er.eq_2 Er.eq_3 Er.eq_4 Er.eq_5 Et.eq_1 Et.eq_2 Et.eq_3 Id.eq_1 Id.eq_2 Px.eq_1 Px.eq_2 Px.eq_3 kL.eq_1 kL.eq_2 sf.eq_1 aF.eq_1 aF.eq_2 b5.eq_1 LC.eq_1 HI.eq_1 HI.eq_2 HI.eq_3 HI.eq_4 HI.eq_5 Jp.eq_1 Jp.eq_2 Bz.eq_1 Bz.eq_2 Bz.eq_3 Io.eq_1 Gc.eq_1 H0.eq_1 Lj.eq_1 P2.eq_1 P2.eq_2 Ew.eq_1 Ew.eq_2 Ew.eq_3 Ll.eq_1 Ll.eq_2 Eo.eq_1 Eo.eq_2 Ga.eq_1 Fq.eq_1 Fq.eq_2 kI.eq_1 kI.eq_2 B9.eq_1 B9.eq_2 CV.eq_1 JO.eq_1 Ld.eq_1 En.eq_1 En.eq_2 Ft.eq_1 Fs.eq_1 NF.eq_1 D5.eq_1 D5.eq_2 D6.eq_1 D6.eq_2 FR.eq_1 FR.eq_2 DF.eq_1 DF.eq_2 IN.eq_1 Jn.eq_1 Jn.eq_2 Lg.eq_1 Lg.eq_2 N9.eq_1 N9.eq_2 N9.eq_3 N9.eq_4 Pv.eq_1 Pv.eq_2 LL.eq_1 LL.eq_2 LL.eq_3 LL.eq_4 hP.eq_1 hP.eq_2 OB.eq_1 HK.eq_1 HK.eq_2 HK.eq_3 OC.eq_1 HJ.eq_1 HJ.eq_2 HJ.eq_3 JQ.eq_1 JQ.eq_2 JR.eq_1 JR.eq_2 Jt.eq_1 Jt.eq_2 XP.eq_1 TG.eq_1 TH.eq_1 Pu.eq_1 Pu.eq_2 TI.eq_1 GR.eq_1 GR.eq_2 GR.eq_3 GR.eq_4 Pw.eq_1 Pw.eq_2 Dg.eq_1 MZ.eq_1 MZ.eq_2 MZ.eq_3 Cv.eq_1 Cv.eq_2 Gb.eq_1 Gb.eq_2 DJ.eq_1 DJ.eq_2 DJ.eq_3 Ib.eq_1 Ib.eq_2 jU.eq_1 AS.takeV.eq_1 AS.takeV.eq_2 AS.takeV.eq_3 AS.takeV.eq_4 AS.takeV.eq_5 AS.takeV.eq_6 AS.takeV.eq_7 AV.oldM.eq_1 AV.oldM.eq_2 AV.oldM.eq_3 AV.oldM.eq_4 AV.oldM.eq_5 AV.oldM.eq_6 AV.oldM.eq_7 AV.oldM.eq_8 AV.oldM.eq_9 AV.oldM.eq_10 AV.oldM.eq_11 AV.oldML.eq_1 AV.oldML.eq_2 subL.eq_1 subL.eq_2 EU.eq_1 EU.eq_2 EU.eq_3 EU.eq_4 DD.eq_1 BY.eq_1 BY.eq_2 BY.eq_3 BY.eq_4 B6.eq_1 DB.eq_1 DB.eq_2 DB.eq_3 HH.eq_1 HH.eq_2 HH.eq_3 Cc.eq_1 Cc.eq_2 Cc.eq_3 Cc.eq_4 Cc.eq_5 Cc.eq_6 Cc.eq_7 Cc.eq_8 Cc.eq_9 Cc.eq_10 Cc.eq_11 Cc.eq_12 Cc.eq_13 Cc.eq_14 Cc.eq_15 Cc.eq_17 Cc.eq_18 Cc.eq_19 Cc.eq_20 Cc.eq_21 Cc.eq_22 Cc.eq_23 AS.ev.eq_1 AS.ev.eq_2 AS.ev.eq_3 AS.ev.eq_4 AS.evs.eq_1 AS.evs.eq_2 AS.evp.eq_1 AS.evp.eq_2 AS.put.eq_1 AS.put.eq_2 AS.remL.eq_1 AS.remL.eq_2 AV.has.eq_1 AV.has.eq_2 AV.has.eq_3 AV.has.eq_4 AV.has.eq_5 AV.has.eq_6 AV.has.eq_7 AV.has.eq_8 AV.has.eq_9 AV.has.eq_10 AV.has.eq_11 AV.hasL.eq_1 AV.hasL.eq_2 Ob.drop.eq_1 Ob.drop.eq_2 Ob.drop.eq_3 Ob.drop.eq_4 AV.cells.eq_1 AV.cells.eq_2 AV.cells.eq_3 AV.cells.eq_4 AV.cells.eq_5 AS.snapT.eq_1 AS.snapT.eq_2 AS.snapT.eq_3 AS.snapT.eq_4 AS.snapT.eq_5 AS.snapT.eq_6 AS.snapT.eq_7 AS.snap.eq_1 AS.snap.eq_2 BE.eq_1 BE.eq_2 AQ.eq_1 AQ.eq_2 AQ.eq_3 AQ.eq_4 AQ.eq_5 AQ.eq_6 AQ.eq_7 AQ.eq_8 AQ.eq_9 AQ.eq_10 AQ.eq_11 AX.eq_1 AX.eq_2 LA.eq_1 LA.eq_2 AV.ids.eq_1 AV.ids.eq_2 AV.ids.eq_3 AV.ids.eq_4 AV.ids.eq_5 AV.ids.eq_6 AV.ids.eq_7 AV.ids.eq_8 AV.ids.eq_9 AV.ids.eq_10 AV.ids.eq_11 AV.idsL.eq_1 AV.idsL.eq_2 AV.sub.eq_1 AV.sub.eq_2 AV.sub.eq_3 AV.sub.eq_4 AV.sub.eq_5 AV.sub.eq_6 AV.sub.eq_7 AV.sub.eq_8 AV.sub.eq_9 AV.sub.eq_10 AV.sub.eq_11 AV.subL.eq_1 AV.subL.eq_2 AS.frzL.eq_1 AS.frzL.eq_2 AS.absT.eq_1 AS.absT.eq_2 AS.absT.eq_4 AS.absL.eq_1 AS.absL.eq_2 AS.absOk.eq_1 AS.absOkL.eq_1 AS.absOkL.eq_2 Bq.eq_1 Bg.eq_1 Bg.eq_2 AS.appBase.eq_1 AS.appBase.eq_2 AS.appSrc.eq_1 DU.eq_1 DU.eq_2 DU.eq_3 Ci.eq_1 Ci.eq_2 iF.eq_1 iF.eq_2 DV.eq_1 Kd.agg.eq_1 Kd.agg.eq_2 NH.eq_1 NH.eq_2 NH.eq_3 NH.eq_4 NH.eq_5 NH.eq_6 NH.eq_7 NH.eq_8 zt.eq_1 xw.eq_1 xx.eq_1 YX.eq_1 YX.eq_2 YW.eq_1 YD.eq_1 PG.eq_1 PG.eq_2 PG.eq_3 YE.eq_1 YC.eq_1 UK.eq_1 UK.eq_2 Ih.eq_1 FF.eq_1 FF.eq_2 FF.eq_3 FF.eq_4 FF.eq_5 FF.eq_6 FF.eq_7 FF.eq_8 EC.eq_1 EC.eq_2 Da.eq_1 Da.eq_2 Da.eq_3 Da.eq_4 Da.eq_5 B3.eq_1 Dq.eq_1 Dq.eq_2 Dq.eq_3 Dq.eq_4 Dq.eq_5 CR.eq_1 Wx.eq_1 Wx.eq_2 Qg.eq_1 Qg.eq_2 Qg.eq_3 cellAV.eq_1 cellAV.eq_2 EI.eq_1 EI.eq_2 DO.eq_1 DO.eq_2 DO.eq_3 DO.eq_4 DO.eq_5 DO.eq_6 DO.eq_7 DO.eq_8 DO.eq_9 DO.eq_10 DO.eq_11 DO.eq_12 DO.eq_13 DO.eq_14 DO.eq_15 DO.eq_16 DO.eq_17 DO.eq_18 DO.eq_19 DO.eq_20 DO.eq_21 DO.eq_22 DO.eq_23 DO.eq_24 DO.eq_25 DO.eq_26 CY.eq_1 CY.eq_2 CY.eq_3 CY.eq_4 CY.eq_5 AV.refs.eq_1 AV.refs.eq_2 AV.refs.eq_3 AV.refs.eq_4 AV.refs.eq_5 AV.refs.eq_6 AV.refs.eq_7 AV.refs.eq_8 AV.refs.eq_9 AV.refs.eq_10 AV.refs.eq_11 AV.refsL.eq_1 AV.refsL.eq_2 PP.eq_1 PP.eq_2 Ko.eq_1 Ko.eq_2 Ko.eq_3 Ko.eq_4 Ko.eq_5 Ko.eq_6 Sr.eq_1 Sr.eq_2 bF.eq_1 bF.eq_2 Iq.eq_1 Iq.eq_2 AV.hasM.eq_1 AV.hasM.eq_2 AV.hasM.eq_3 AV.hasM.eq_4 AV.hasM.eq_5 AV.hasM.eq_6 AV.hasM.eq_7 AV.hasM.eq_8 AV.hasM.eq_9 AV.hasM.eq_10 AV.hasM.eq_11 AV.hasML.eq_1 AV.hasML.eq_2 Ob.dropM.eq_1 Ob.dropM.eq_2 Ob.dropM.eq_3 Ob.dropM.eq_4 sN.eq_1 sN.eq_2 AS.purges.eq_1 AS.purges.eq_2 Qa.eq_1 Qa.eq_2 fG.eq_1 fG.eq_2 xr.eq_1 xr.eq_2 HV.eq_1 HV.eq_2 HP.eq_1 HP.eq_2 qF.eq_1 qF.eq_2 qG.eq_1 qG.eq_2 AS.mvs.eq_1 AS.mvs.eq_2 AS.mvA.eq_1 AS.mvA.eq_2 AS.mvB.eq_1 Rk.eq_1 Rk.eq_2 sF.eq_1 sF.eq_2 Yy.eq_1 Ic.eq_1 Ic.eq_2 kf.eq_1 Jv.eq_1 Jv.eq_2 Li.eq_1 Jw.eq_1 Jw.eq_2 KQ.eq_1 DL.eq_1 U6.eq_1 Js.eq_1 Js.eq_2 Js.eq_3 Ri.eq_1 Ri.eq_2 Lh.eq_1 Lh.eq_2 P0.eq_1 wH.eq_1 wH.eq_2 wH.eq_3 xj.eq_1 FO.eq_1 FO.eq_2 Yh.eq_1 KU.eq_1 KU.eq_2 KU.eq_3 sM.eq_1 sM.eq_2 sM.eq_3 TO.eq_1 TN.eq_1 TM.eq_1 Ie.eq_1 Pz.eq_1 Pz.eq_2 TL.eq_1 TK.eq_1 Eu.eq_1 Jq.eq_1 OA.eq_1 xS.eq_1 xS.eq_2 ij.eq_1 ij.eq_2 ij.eq_3 ij.eq_4 KW.eq_1 KW.eq_2 KW.eq_3 KW.eq_4 XW.eq_1 XW.eq_2 xb.eq_1 xb.eq_2 KV.eq_1 KV.eq_2 qN.eq_1 qN.eq_2 qN.eq_3 qN.eq_4 qN.eq_5 AS.lkO.eq_1 AS.lkO.eq_2 AS.lkOf.eq_1 PO.eq_1 PO.eq_2 PO.eq_3 PO.eq_4 PO.eq_5 PO.eq_6 DI.eq_1 DI.eq_2 DI.eq_3 DI.eq_4 DI.eq_5 DI.eq_6 DI.eq_7 DI.eq_8 DI.eq_9 DI.eq_10 DI.eq_11 kM.eq_1 kM.eq_2 sg.eq_1 sg.eq_2 KL.eq_1 DN.eq_1 DN.eq_2 KX.eq_1 KX.eq_2 KX.eq_3 KX.eq_4 XX.eq_1 XX.eq_2 xc.eq_1 xc.eq_2 SU.eq_1 SU.eq_2 sj.eq_1 fk vE vF YU fq YS tB tA s9 UQ YT fp RJ YQ rG fi rF fh rH fj tq tp vG rI fm xQ xR uA t7 t9 t8 vD kv KI Jr kJ U0 HL UU gv gd s0 Aq CH HV oL oK WP drop_nil oB oA bm bj WO WQ bi HP ef rL rB re_eq up_eq oQ uq Ob.drop wd yl Db AS.frz splice cond_true cond_false List.map_cons List.map_nil List.drop_zero List.drop_succ_cons List.drop_nil List.take_zero List.take_succ_cons List.take_nil List.getElem?_cons_zero List.getElem?_cons_succ List.getElem?_nil List.length_cons List.length_nil Option.map_some Option.map_none Option.bind_some Option.bind_none List.cons_append List.nil_append List.append_nil Option.getD_some Option.getD_none List.all_cons List.all_nil Bool.and_true Bool.true_and Bool.or_false Bool.false_or Bool.or_true Bool.true_or List.flatten_cons List.flatten_nil List.replicate_succ List.replicate_zero and_true true_and ki kh VA aI aJ TT VG aR aT TV VE VF r9 sA Td a8 az rN rM gK gI ft qv fQ YB fU fT qw YF UI UL ne_eq not_false_eq_true not_true_eq_false List.nodup_nil List.not_mem_nil false_implies implies_true eq_self true_or or_true Option.some.injEq fu gG f5 gC gE fw gH fx gA f4 f0 fz fy VB bz On Nat.le_refl UA lm rx rv WN YL O1 Qs RE PM T8 XZ wg we wh wj wk wi UM RC IJ uW List.any_cons List.any_nil kT aH kR Ef O2 R8 Op.operands Call.operands Kg kX yf TS YJ Su List.append_eq um uo uh ui uj tM tN tO ea eb ec Ij AS.mv fits KM Jo Gx Qo aN ke kg XO XM XN su U1 ah uO eS aB TQ decide_true decide_false Array.toList_append bB bC bD bE km TY ac P7 AS.mvJ Xp rD rE jB Option.isSome_some Option.isSome_none qX U8 U9 sk sm sn kQ kN kP kO kW qH.eq_1 ep.eq_1 ep.eq_2 T5.eq_1 T5.eq_2 T5.eq_3 T5.eq_4 xn xp aD zN zO zP zQ yD yE yF yG yH yI yJ yK yL yM yN yO yP yQ yR yS yT yU yV vf vg vh vi vj vk vl Bw vo vq vr vt vu DH xg ub uc qF qG AS.mvs T0 U5 Nu bT Vu Un jv Tz U4 Nt bR Vs Ul ju Ui ew qE qC aP kb aM Uf Uh Y9 Ue Ug Y8 aO ka aL Iy.eq_1 qD eg ru.eq_1 K0.eq_1 M0.eq_1 Jf ST Vo nJ vB vC uf ug KG Zz ZC nW ZD sS qI jm ZB Wb Z8 ZU ZV qM j7 Xh.eq_1 fb Wc Z9 ZW nl ZX sY XU j8 MN WZ Z6 ZR nh bQ ZS sW qL j2 Xg.eq_1 fa We ZY ZZ kA Xj.eq_1 fc Wh aA Zf np bU Zg sZ XV kG MO WU Z2 ZG nY ZH sT jq Xc.eq_1 fX WX Z4 ZN nc ZO sV qK jy Xf.eq_1 WS Z0 ZE nX bP ZF qJ jo Xb.eq_1 Wa Z7 nj bS ZT sX XT MM WY Z5 ZP nf ZQ j0 NB.eq_1 fZ Wf Zb Zc kD Xk.eq_1 WV ZJ ZK js Xd.eq_1 WW Z3 ZL nZ ZM sU jw Xe.eq_1 Wg Zd Ze kF Gv.eq_1
def Bl (b : ByteArray) : Prop := b.size ≤ 1048576
def GH {α : Type} (p : α → Prop) (xs : List α) : Prop := (xs.length : Int) ≤ 1048576 ∧ ∀ x ∈ xs, p x
theorem GH.at {α : Type} [Inhabited α] {p : α → Prop} {xs : List α} (h : GH p xs) {i : Nat} (hi : i < xs.length) : p (xs.getD i default) := h.2 _ (by simp [hi])
def FM (a : Ad) : Prop := Bl a.user ∧ Bl a.domain
def Ji (a : Ml) : Prop := FM a.frm ∧ GH FM a.to ∧ GH Bl a.body
def wQ (a : Rc) : Prop := FM a.addr
def D0 (a : Im) : Prop := FM a.frm ∧ GH wQ a.to ∧ GH Bl a.body
def EF (a : Sp) : Prop := GH D0 a.items
def wR (a : Wy) : Prop := Bl a.ends ∧ Bl a.to
def LK (a : Cf) : Prop := Bl a.name ∧ GH Bl a.own ∧ GH wR a.ways
def wP (a : Gm) : Prop := FM a.frm ∧ GH Bl a.body
def wO (a : Bx) : Prop := FM a.addr ∧ GH wP a.mails
def TC (a : Ls) : Prop := Bl a.mark ∧ FM a.addr
def ET (a : Hs) : Prop := LK a.conf ∧ EF a.spool ∧ GH wO a.boxes ∧ GH TC a.lost
def Zn (a : Wd) : Prop := GH ET a.hosts ∧ GH TC a.given
def bl (s : ByteArray) : List UInt8 := s.data.toList
def mB (l : List UInt8) : ByteArray := ⟨l.toArray⟩
theorem VK (l : List UInt8) : bl (mB l) = l := rfl
theorem SZ (s : ByteArray) : mB (bl s) = s := rfl
theorem CJ (s : ByteArray) : (bl s).length = s.size := rfl
theorem CE (s : ByteArray) (i : Nat) : AC s i = (((bl s).getD i 0).toNat : Int) := rfl
theorem Gg {s t : ByteArray} (h : bl s = bl t) : s = t := by
 rw [← SZ s, ← SZ t, h]
theorem Di (s : ByteArray) (i j : Nat) : bl (s.extract i j) = ((bl s).drop i).take (j - i) := by
 unfold bl
 rw [ByteArray.data_extract, Array.toList_extract]
theorem Gp (s : ByteArray) (i j : Nat) : s.extract i j = mB (((bl s).drop i).take (j - i)) := Gg (by rw [Di, VK])
theorem BA (s : ByteArray) (i : Nat) : 0 ≤ AC s i ∧ AC s i ≤ 255 := by
 rw [CE]
 have := ((bl s).getD i 0).toNat_lt
 omega
def KP (n : Int) : Prop := (97 ≤ n ∧ n ≤ 122) ∨ (48 ≤ n ∧ n ≤ 57)
def Rb (s : ByteArray) : Prop := (∀ j, j < s.size → KP (AC s j)) ∧ 1 ≤ s.size ∧ s.size ≤ 8
def Ia (s : ByteArray) : Prop := (∀ j, j < s.size → 32 ≤ AC s j ∧ AC s j ≤ 126) ∧ s.size ≤ 40
def Ar (c : UInt8) : Nat → List UInt8 → List (List UInt8)
 | 0, l => [l]
 | _ + 1, [] => [[]]
 | m + 1, x :: r => if x = c then [] :: Ar c m r else match Ar c (m + 1) r with | h :: t => (x :: h) :: t | [] => [[x]]
def Km (p : List UInt8) : List (List UInt8) → List (List UInt8)
 | h :: t => (p ++ h) :: t
 | [] => [p]
theorem PL : ∀ (l : List (List UInt8)), l ≠ [] → Km [] l = l
 | h :: t, _ => rfl
 | [], h => absurd rfl h
theorem IV (c : UInt8) : ∀ (m : Nat) (l : List UInt8), Ar c m l ≠ []
 | 0, l => by simp [Ar]
 | m + 1, [] => by simp [Ar]
 | m + 1, x :: r => by
   unfold Ar
   split
   ·try simp
   ·split <;> simp
theorem RN (c : UInt8) (m : Nat) (r : List UInt8) (p : List UInt8) : Km p (Ar c (m + 1) (c :: r)) = p :: Ar c m r := by
 simp [Ar, Km]
theorem PW {c x : UInt8} (h : x ≠ c) (m : Nat) (r : List UInt8) (p : List UInt8) : Km p (Ar c (m + 1) (x :: r)) = Km (p ++ [x]) (Ar c (m + 1) r) := by
 cases h1 : Ar c (m + 1) r with
 | nil => exact absurd h1 (IV c (m + 1) r)
 | cons a t => simp only [Ar, if_neg h, h1, Km, List.append_assoc, List.singleton_append]
theorem Yf (c : UInt8) (l : List UInt8) (p : List UInt8) : Km p (Ar c 0 l) = [p ++ l] := by simp [Ar, Km]
theorem RM (c : UInt8) (m : Nat) (p : List UInt8) : Km p (Ar c m []) = [p] := by
 cases m <;> simp [Ar, Km]
def Cp (s : ByteArray) (c : UInt8) (m : Nat) : List ByteArray := (Ar c m (bl s)).map mB
def J6 : Ct := An (lc A6 (lc A6 (lc A6 l0))) (fun p => True) (fun p => .t (.v (.bool (BU (p.2.1 ≤ p.1 ∧ p.1 ≤ p.2.2.1)))))
theorem oy {G : Gt} (hG : Aj G) : Gd G 36 (AA 0 J6) := by
 refine gr (fn := Tryz.f36) (n := 3) rfl hG ?_
 rintro ⟨n, lo, hi, ⟨⟩⟩ hpre
 simp -implicitDefEqProofs only [Tryz.f36, go_sem, seval] at hpre ⊢
 with_reducible repeat' (first | apply ai | intro _ | ((first | apply s1 | apply s3 | apply s4) <;> intro hb <;> simp -implicitDefEqProofs only [hb, go_sem, seval] <;> try simp only [qz] at hb))
 all_goals first
  | (rw [AO (by omega)]; done)
  | (rw [A8]; simp [*]; done)
  | skip
def VU : Ct := An (lc A0 l0) (fun p => True) (fun p => .t (.v (.bool (BU (Rb p.1)))))
section
attribute [local go_sem] J6
theorem dA {G : Gt} (hG : Aj G) (hh : G.e 36 = AA 0 J6) : Gd G 165 (AA 0 VU) := by
 refine gr (fn := Tryz.f165) (n := 1) rfl hG ?_
 rintro ⟨s, ⟨⟩⟩ hpre
 simp -implicitDefEqProofs only [Tryz.f165, go_sem, hh, seval] at hpre ⊢
 refine AF [] (ι := {i : Nat // i ≤ s.size ∧ ∀ j, j < i → KP (AC s j)}) (fun p => ⟨[(0, .t (.v (.string s))), (3, .t (.v (.int .i64 p.1)))], []⟩) (fun p => s.size - p.1) ⟨0, by simp, by simp⟩ rfl ?_ ?_
 ·simp -implicitDefEqProofs only [go_sem, hh, seval]
  try simp
 ·rintro ⟨i, hi, hall⟩
  simp -implicitDefEqProofs only [go_sem, hh, seval]
  with_reducible repeat' (first | apply ai | intro _ | ((first | apply s1 | apply s3 | apply s4) <;> intro hb <;> simp -implicitDefEqProofs only [hb, go_sem, hh, seval] <;> try simp only [qz] at hb))
  all_goals (try simp only [maxLen, tn] at *)
  all_goals (try have hbr := BA s i)
  all_goals first | rfl | omega | skip
  all_goals first
   | (rw [AO (fun hq => by have hq1 := hq.1 i (by omega); simp only [KP] at *; omega)]; done)
   | (refine ⟨⟨i + 1, by omega, fun j hj => ?_⟩, by dsimp only; omega, ?_⟩
      ·by_cases e : j = i
       ·subst e; simp only [KP] at *; omega
       ·exact hall j (by omega)
      ·simp -implicitDefEqProofs only [go_sem, hh, seval]
       simp)
   | skip
  ·rw [AY]
   exact ⟨fun h => ⟨fun j hj => hall j (by omega), by omega⟩, fun h => by have := h.2; omega⟩
end
def QD : Ct := An (lc A0 l0) (fun p => True) (fun p => .t (.v (.bool (BU (Ia p.1)))))
theorem cQ {G : Gt} (hG : Aj G) : Gd G 124 (AA 0 QD) := by
 refine gr (fn := Tryz.f124) (n := 1) rfl hG ?_
 rintro ⟨s, ⟨⟩⟩ hpre
 simp -implicitDefEqProofs only [Tryz.f124, go_sem, seval] at hpre ⊢
 refine AF [] (ι := {i : Nat // i ≤ s.size ∧ ∀ j, j < i → 32 ≤ AC s j ∧ AC s j ≤ 126}) (fun p => ⟨[(0, .t (.v (.string s))), (3, .t (.v (.int .i64 p.1)))], []⟩) (fun p => s.size - p.1) ⟨0, by simp, by simp⟩ rfl ?_ ?_
 ·simp -implicitDefEqProofs only [go_sem, seval]
  try simp
 ·rintro ⟨i, hi, hall⟩
  simp -implicitDefEqProofs only [go_sem, seval]
  with_reducible repeat' (first | apply ai | intro _ | ((first | apply s1 | apply s3 | apply s4) <;> intro hb <;> simp -implicitDefEqProofs only [hb, go_sem, seval] <;> try simp only [qz] at hb))
  all_goals (try simp only [maxLen, tn] at *)
  all_goals (try have hbr := BA s i)
  all_goals first | rfl | omega | skip
  all_goals first
   | (rw [AO (fun hq => by have hq1 := hq.1 i (by omega); skip; omega)]; done)
   | (refine ⟨⟨i + 1, by omega, fun j hj => ?_⟩, by dsimp only; omega, ?_⟩
      ·by_cases e : j = i
       ·subst e; skip; omega
       ·exact hall j (by omega)
      ·simp -implicitDefEqProofs only [go_sem, seval]
       simp)
   | skip
  ·rw [← A8, AY]
   exact ⟨fun h => ⟨fun j hj => hall j (by omega), by omega⟩, fun h => by have := h.2; omega⟩
structure C9 (s : ByteArray) (c : UInt8) (m : Nat) where
 i : Nat
 fr : Nat
 o : List (List UInt8)
 hi : i ≤ s.size
 hf : fr ≤ i
 ho : o.length ≤ m
 h : o ++ Km (((bl s).drop fr).take (i - fr)) (Ar c (m - o.length) ((bl s).drop i)) = Ar c m (bl s)
theorem UW {l : List UInt8} {fr i : Nat} (hf : fr ≤ i) (hi : i < l.length) : (l.drop fr).take (i + 1 - fr) = (l.drop fr).take (i - fr) ++ [l.getD i 0] := by
 have e : i + 1 - fr = (i - fr) + 1 := by omega
 rw [e, List.take_add_one]
 have : (l.drop fr)[i - fr]? = some (l.getD i 0) := by
  rw [List.getElem?_drop]
  have : fr + (i - fr) = i := by omega
  rw [this]
  simp [hi]
 rw [this]; rfl
def C9.start (s : ByteArray) (c : UInt8) (m : Nat) : C9 s c m := ⟨0, 0, [], Nat.zero_le _, Nat.le_refl _, Nat.zero_le _, by
 simp only [Nat.sub_self, List.take_zero, List.nil_append, List.length_nil, Nat.sub_zero, List.drop_zero]
 exact PL _ (IV c m _)⟩
theorem F4 {s : ByteArray} {i : Nat} (h : i < s.size) : (bl s).drop i = (bl s).getD i 0 :: (bl s).drop (i + 1) := by
 have h' : i < (bl s).length := h
 rw [List.drop_eq_getElem_cons h']
 simp [h']
def C9.hit {s : ByteArray} {c : UInt8} {m : Nat} (z : C9 s c m) (h1 : z.i < s.size) (h2 : z.o.length < m) (h3 : (bl s).getD z.i 0 = c) : C9 s c m :=
 ⟨z.i + 1, z.i + 1, z.o ++ [((bl s).drop z.fr).take (z.i - z.fr)], h1, Nat.le_refl _, by simp; omega, by
   have h := z.h
   obtain ⟨k, hk⟩ : ∃ k, m - z.o.length = k + 1 := ⟨m - z.o.length - 1, by omega⟩
   rw [hk, F4 h1, h3, RN] at h
   have e : m - (z.o ++ [((bl s).drop z.fr).take (z.i - z.fr)]).length = k := by simp; omega
   rw [e, Nat.sub_self, List.take_zero, PL _ (IV _ _ _), List.append_assoc, List.singleton_append]
   exact h⟩
def C9.miss {s : ByteArray} {c : UInt8} {m : Nat} (z : C9 s c m) (h1 : z.i < s.size) (h2 : z.o.length < m) (h3 : (bl s).getD z.i 0 ≠ c) : C9 s c m :=
 ⟨z.i + 1, z.fr, z.o, h1, Nat.le_succ_of_le z.hf, z.ho, by
   have h := z.h
   obtain ⟨k, hk⟩ : ∃ k, m - z.o.length = k + 1 := ⟨m - z.o.length - 1, by omega⟩
   rw [hk, F4 h1, PW h3] at h
   rw [hk, UW (l := bl s) z.hf (by rw [CJ]; exact h1)]
   exact h⟩
theorem C9.done {s : ByteArray} {c : UInt8} {m : Nat} (z : C9 s c m) (h : ¬ z.i < s.size ∨ ¬ z.o.length < m) : z.o.map mB ++ [s.extract z.fr s.size] = Cp s c m := by
 have hz := z.h
 have e0 : s.extract z.fr s.size = mB ((bl s).drop z.fr) := by
  rw [Gp]
  congr 1
  rw [List.take_of_length_le (by rw [List.length_drop, CJ]; exact Nat.le_refl _)]
 unfold Cp
 rw [← hz, List.map_append, e0]
 congr 1
 rcases h with h | h
 ·have hi := z.hi
  have e : (bl s).drop z.i = [] := List.drop_of_length_le (by rw [CJ]; omega)
  rw [e, RM]
  have : ((bl s).drop z.fr).take (z.i - z.fr) = (bl s).drop z.fr := List.take_of_length_le (by rw [List.length_drop, CJ]; omega)
  rw [this]; rfl
 ·have hk : m - z.o.length = 0 := by omega
  rw [hk, Yf]
  have hf := z.hf
  have : ((bl s).drop z.fr).take (z.i - z.fr) ++ (bl s).drop z.i = (bl s).drop z.fr := by
   have e : (bl s).drop z.i = ((bl s).drop z.fr).drop (z.i - z.fr) := by rw [List.drop_drop]; congr 1; omega
   rw [e, List.take_append_drop]
  rw [this]; rfl
theorem bp (s : ByteArray) (z : List (List UInt8)) (fr i : Nat) : z.map mB ++ [s.extract fr i] = (z ++ [((bl s).drop fr).take (i - fr)]).map mB := by
 rw [Gp, List.map_append]; rfl
theorem Mf (l : List ByteArray) (x : ByteArray) : l.map AH ++ [[T.v (.string x)]] = (l ++ [x]).map AH := by simp [AH]
theorem kc (s : ByteArray) (z : List (List UInt8)) (fr i : Nat) : (z.map mB).map AH ++ [[T.v (.string (s.extract fr i))]] = ((z ++ [((bl s).drop fr).take (i - fr)]).map mB).map AH := by
 rw [Mf, bp]
theorem Fz {s : ByteArray} {i : Nat} {c : UInt8} : AC s i = (c.toNat : Int) ↔ (bl s).getD i 0 = c := by
 rw [CE]
 constructor
 ·intro h
  have : ((bl s).getD i 0).toNat = c.toNat := by omega
  exact UInt8.toNat_inj.1 this
 ·intro h; rw [h]
def VX : Ct := An (lc A0 (lc jl (lc A6 l0))) (fun p => 0 ≤ p.2.1 ∧ p.2.1 ≤ 255 ∧ 0 ≤ p.2.2.1 ∧ p.2.2.1 ≤ 1000) (fun p => .o true 1 ((Cp p.1 (UInt8.ofNat p.2.1.toNat) p.2.2.1.toNat).map AH))
section
attribute [local go_sem] lm List.map_nil List.length_nil
theorem dH {G : Gt} (hG : Aj G) : Gd G 175 (AA 0 VX) := by
 refine gr (fn := Tryz.f175) (n := 3) rfl hG ?_ (hs := fun _ p => .deep _ _)
 rintro ⟨s, c, m, ⟨⟩⟩ hpre
 simp -implicitDefEqProofs only [Tryz.f175, go_sem, seval] at hpre ⊢
 obtain ⟨c, rfl⟩ : ∃ b : UInt8, c = (b.toNat : Int) := ⟨UInt8.ofNat c.toNat, by simp; omega⟩
 obtain ⟨m, rfl⟩ : ∃ n : Nat, m = (n : Int) := ⟨m.toNat, by omega⟩
 with_reducible repeat' (first | apply ai | intro _ | ((first | apply s1 | apply s3 | apply s4) <;> intro hb <;> simp -implicitDefEqProofs only [hb, go_sem, seval] <;> try simp only [qz] at hb))
 all_goals first | rfl | omega | skip
 refine AF [(7, 1901, true, 1)] (ι := C9 s c m) (fun z => ⟨[(0, .t (.v (.string s))), (1, .t (.v (.int .u8 c.toNat))), (2, .t (.v (.int .i64 m))), (7, .h 1901), (8, .t (.v (.int .i64 z.fr))), (9, .t (.v (.int .i64 z.i)))], [(1901, some (.arr true 1 ((z.o.map mB).map AH)))]⟩) (fun z => s.size - z.i) (C9.start s c m) rfl ?_ ?_
 ·simp -implicitDefEqProofs only [go_sem, seval]
  simp [C9.start]
 ·intro z
  have h1 := z.hi
  have h2 := z.hf
  have h3 := z.ho
  simp -implicitDefEqProofs only [go_sem, seval]
  with_reducible repeat' (first | apply ai | intro _ | ((first | apply s1 | apply s3 | apply s4) <;> intro hb <;> simp -implicitDefEqProofs only [hb, go_sem, seval] <;> try simp only [qz] at hb))
  all_goals (try simp only [maxLen, tn, lm] at *)
  all_goals first | rfl | omega | (simp_all; done) | skip
  ·refine ⟨z.hit (by omega) (by omega) (Fz.1 hb), by simp only [C9.hit]; omega, ?_⟩
   rw [kc]
   simp -implicitDefEqProofs only [go_sem, seval]
   simp [C9.hit]
  ·refine ⟨z.miss (by omega) (by omega) (fun e => hb (Fz.2 e)), by simp only [C9.miss]; omega, ?_⟩
   simp -implicitDefEqProofs only [go_sem, seval]
   simp [C9.miss]
  ·rw [Mf, z.done (.inr (by omega)), UInt8.ofNat_toNat]
  ·rw [Mf, z.done (.inl (by omega)), UInt8.ofNat_toNat]
end
def D4 (s : ByteArray) : Prop := (∀ w ∈ Cp s 46 3, Rb w) ∧ (Cp s 46 3).length ≤ 3
def BL (a : Ad) : Prop := Rb a.user ∧ D4 a.domain
def AU (a : Ad) : Prop := a.user = ⟨#[]⟩ ∧ a.domain = ⟨#[]⟩
def DQ (b : List ByteArray) : Prop := (∀ s ∈ b, Ia s) ∧ b.length ≤ 12
def CM (m : Ml) : Prop := (∀ a ∈ m.to, BL a) ∧ m.to.Nodup ∧ (BL m.frm ∨ AU m.frm) ∧ (1 ≤ m.to.length ∧ m.to.length ≤ 4) ∧ DQ m.body
def Zh (s e : ByteArray) : Prop := s = e ∨ (e.size < s.size ∧ s.extract (s.size - e.size) s.size = e ∧ AC s (s.size - e.size - 1) = 46)
theorem BX {α : Type} [Inhabited α] {xs : List α} {P : α → Prop} (h : ∀ j, j < xs.length → P (xs.getD j default)) : ∀ x ∈ xs, P x := fun x hx => by
 obtain ⟨j, hj, rfl⟩ := List.getElem_of_mem hx
 have := h j hj
 simpa [hj] using this
theorem AE {α : Type} [Inhabited α] {xs : List α} {j : Nat} (h : j < xs.length) : xs.getD j default ∈ xs := by
 simp [h]
theorem Xr {α : Type} [Inhabited α] {xs : List α} (h : ∀ j, j < xs.length → ∀ k, k < j → ¬ xs.getD k default = xs.getD j default) : xs.Nodup := by
 rw [List.nodup_iff_pairwise_ne, List.pairwise_iff_getElem]
 intro k j hk hj hkj
 have := h j hj k hkj
 simpa [hk, hj] using this
theorem qV {a b : Ad} (h : (false != (decide (a.user = b.user) && decide (a.domain = b.domain))) = false) : ¬ a = b := fun e => by
 subst e; simp at h
theorem DC {α : Type} [Inhabited α] {xs : List α} {P : α → Prop} {i : Nat} (hall : ∀ j, j < i → P (xs.getD j default)) (h : P (xs.getD i default)) : ∀ j, j < i + 1 → P (xs.getD j default) := fun j hj => by
 by_cases e : j = i
 ·subst e; exact h
 ·exact hall j (by omega)
def Mk : Ct := An (lc A0 l0) (fun p => True) (fun p => .t (.v (.bool (BU (D4 p.1)))))
section
attribute [local go_sem] VX VU Ab lm
theorem cd {G : Gt} (hG : Aj G) (hh : G.e 175 = AA 0 VX ∧ G.e 165 = AA 0 VU) : Gd G 143 (AA 0 Mk) := by
 refine gr (fn := Tryz.f143) (n := 1) rfl hG ?_
 rintro ⟨s, ⟨⟩⟩ hpre
 simp -implicitDefEqProofs only [Tryz.f143, go_sem, hh, seval] at hpre ⊢
 with_reducible repeat' (first | apply ai | intro _ | ((first | apply s1 | apply s3 | apply s4) <;> intro hb <;> simp -implicitDefEqProofs only [hb, go_sem, hh, seval] <;> try simp only [qz] at hb))
 all_goals first | rfl | omega | skip
 have e46 : UInt8.ofNat (46 : Int).toNat = 46 := rfl
 have e3 : (3 : Int).toNat = 3 := rfl
 rw [e46, e3] at *
 refine AF [] (ι := {i : Nat // i ≤ (Cp s 46 3).length ∧ ∀ j, j < i → Rb ((Cp s 46 3).getD j default)}) (fun p => ⟨[(3, .h 1006), (4, .t (.v (.int .i64 p.1)))], [(1006, some (.arr true 1 ((Cp s 46 3).map AH)))]⟩) (fun p => (Cp s 46 3).length - p.1) ⟨0, by simp, by simp⟩ rfl ?_ ?_
 ·simp -implicitDefEqProofs only [go_sem, hh, seval]
  try simp
 ·rintro ⟨i, hi, hall⟩
  simp -implicitDefEqProofs only [go_sem, hh, seval]
  with_reducible repeat' (first | apply ai | intro _ | ((first | apply s1 | apply s3 | apply s4) <;> intro hb <;> simp -implicitDefEqProofs only [hb, go_sem, hh, seval] <;> try simp only [qz] at hb))
  all_goals (try simp only [maxLen, tn, lm] at *)
  all_goals first | rfl | omega | skip
  ·rw [AO (fun h => hb (h.1 _ (AE (by omega))))]
  ·refine ⟨⟨i + 1, by omega, DC hall hb⟩, by dsimp only; omega, ?_⟩
   simp -implicitDefEqProofs only [go_sem, hh, seval]
   try simp
  ·rw [← A8, AY]
   exact ⟨fun h => ⟨BX fun j hj => hall j (by omega), by omega⟩, fun h => by have := h.2; omega⟩
end
def IA : Ct := An (lc Ce.ag l0) (fun p => True) (fun p => .t (.v (.bool (BU (BL p.1)))))
section
attribute [local go_sem] VU Mk
theorem cP {G : Gt} (hG : Aj G) (hh : G.e 165 = AA 0 VU ∧ G.e 143 = AA 0 Mk) : Gd G 123 (AA 0 IA) := by
 refine gr (fn := Tryz.f123) (n := 1) rfl hG ?_
 rintro ⟨a, ⟨⟩⟩ hpre
 simp -implicitDefEqProofs only [Tryz.f123, go_sem, hh, seval] at hpre ⊢
 with_reducible repeat' (first | apply ai | intro _ | ((first | apply s1 | apply s3 | apply s4) <;> intro hb <;> simp -implicitDefEqProofs only [hb, go_sem, hh, seval] <;> try simp only [qz] at hb))
 all_goals first
  | rfl
  | (rw [AO (fun h => hb h.1)]; done)
  | (rw [AY]; exact ⟨fun h => ⟨by assumption, h⟩, fun h => h.2⟩)
  | skip
end
def Tc : Ct := An (lc Ce.ag l0) (fun p => True) (fun p => .t (.v (.bool (BU (AU p.1)))))
theorem pP {G : Gt} (hG : Aj G) : Gd G 62 (AA 0 Tc) := by
 refine gr (fn := Tryz.f62) (n := 1) rfl hG ?_
 rintro ⟨a, ⟨⟩⟩ hpre
 simp -implicitDefEqProofs only [Tryz.f62, go_sem, seval] at hpre ⊢
 with_reducible repeat' (first | apply ai | intro _ | ((first | apply s1 | apply s3 | apply s4) <;> intro hb <;> simp -implicitDefEqProofs only [hb, go_sem, seval] <;> try simp only [qz] at hb))
 all_goals first
  | rfl
  | (rw [AO (fun h => hb h.1)]; done)
  | (rw [← A8, AY]; exact ⟨fun h => ⟨by assumption, h⟩, fun h => h.2⟩)
  | skip
def lu : Ct := An (lc A0 (lc A0 l0)) (fun p => True) (fun p => .t (.v (.bool (BU (Zh p.1 p.2.1)))))
theorem dS {G : Gt} (hG : Aj G) : Gd G 196 (AA 0 lu) := by
 refine gr (fn := Tryz.f196) (n := 2) rfl hG ?_
 rintro ⟨s, e, ⟨⟩⟩ hpre
 simp -implicitDefEqProofs only [Tryz.f196, go_sem, seval] at hpre ⊢
 with_reducible repeat' (first | apply ai | intro _ | ((first | apply s1 | apply s3 | apply s4) <;> intro hb <;> simp -implicitDefEqProofs only [hb, go_sem, seval] <;> try simp only [qz] at hb))
 all_goals (try simp only [maxLen] at *)
 all_goals first
  | rfl
  | omega
  | (rw [Ag (.inl hb)]; done)
  | skip
 all_goals have e1 : ((s.size : Int) - e.size).toNat = s.size - e.size := by omega
 all_goals (try rw [e1, tn] at hb)
 ·have e2 : ((s.size : Int) - e.size - 1).toNat = s.size - e.size - 1 := by omega
  rw [e2, ← A8, AY]
  exact ⟨fun h => .inr ⟨by omega, hb, h⟩, fun h => by
   rcases h with h | h
   ·exact absurd h (by assumption)
   ·exact h.2.2⟩
 ·rw [AO]
  rintro (h | h)
  ·exact absurd h (by assumption)
  ·exact hb h.2.1
 ·rw [AO]
  rintro (h | h)
  ·exact absurd h (by assumption)
  ·have := h.1; omega
def Mj : Ct := An (lc Al.asl l0) (fun p => True) (fun p => .t (.v (.bool (BU (DQ p.1)))))
section
attribute [local go_sem] QD
theorem cc {G : Gt} (hG : Aj G) (hh : G.e 124 = AA 0 QD) : Gd G 142 (AA 0 Mj) := by
 refine gr (fn := Tryz.f142) (n := 1) rfl hG ?_
 rintro ⟨xs, ⟨⟩⟩ hpre
 simp -implicitDefEqProofs only [Tryz.f142, go_sem, hh, seval] at hpre ⊢
 refine AF [] (ι := {i : Nat // i ≤ xs.length ∧ ∀ j, j < i → Ia (xs.getD j default)}) (fun p => ⟨[(0, .t (.sl 1 (xs.map AH))), (3, .t (.v (.int .i64 p.1)))], []⟩) (fun p => xs.length - p.1) ⟨0, by simp, by simp⟩ rfl ?_ ?_
 ·simp -implicitDefEqProofs only [go_sem, hh, seval]
  try simp
 ·rintro ⟨i, hi, hall⟩
  simp -implicitDefEqProofs only [go_sem, hh, seval]
  with_reducible repeat' (first | apply ai | intro _ | ((first | apply s1 | apply s3 | apply s4) <;> intro hb <;> simp -implicitDefEqProofs only [hb, go_sem, hh, seval] <;> try simp only [qz] at hb))
  all_goals (try simp only [maxLen, tn, lm] at *)
  all_goals first | rfl | omega | skip
  ·rw [AO (fun h => hb (h.1 _ (AE (by omega))))]
  ·refine ⟨⟨i + 1, by omega, DC hall hb⟩, by dsimp only; omega, ?_⟩
   simp -implicitDefEqProofs only [go_sem, hh, seval]
   try simp
  ·rw [← A8, AY]
   exact ⟨fun h => ⟨BX fun j hj => hall j (by omega), by omega⟩, fun h => by have := h.2; omega⟩
end
def Mm : Ct := An (lc Um.ag l0) (fun p => (p.1.to.length : Int) ≤ 1048576 ∧ (p.1.body.length : Int) ≤ 1048576) (fun p => Q7 p.1)
section
attribute [local go_sem] lm List.map_nil List.length_nil
theorem di {G : Gt} (hG : Aj G) : Gd G 222 (AA 0 Mm) := by
 refine gr (fn := Tryz.f222) (n := 1) rfl hG ?_ (hs := fun _ p => .agg _ (by intro c hc; simp only [List.mem_cons, List.not_mem_nil, or_false] at hc; rcases hc with rfl | rfl | rfl | rfl <;> first | exact .v _ | exact .deep _ _))
 rintro ⟨m, ⟨⟩⟩ hpre
 simp -implicitDefEqProofs only [Tryz.f222, go_sem, seval] at hpre ⊢
 with_reducible repeat' (first | apply ai | intro _ | ((first | apply s1 | apply s3 | apply s4) <;> intro hb <;> simp -implicitDefEqProofs only [hb, go_sem, seval] <;> try simp only [qz] at hb))
 all_goals (try simp only [maxLen, tn, lm] at *)
 all_goals first | rfl | omega | (simp_all; done) | skip
end
def l9 : Ct := An (lc Um.ag l0) (fun p => True) (fun p => .t (.v (.bool (BU (CM p.1)))))
section
attribute [local go_sem] IA Tc J6 Mj lm List.map_nil List.length_nil
theorem dh {G : Gt} (hG : Aj G) (hh : G.e 123 = AA 0 IA ∧ G.e 62 = AA 0 Tc ∧ G.e 36 = AA 0 J6 ∧ G.e 142 = AA 0 Mj) : Gd G 221 (AA 0 l9) := by
 refine gr (fn := Tryz.f221) (n := 1) rfl hG ?_
 rintro ⟨m, ⟨⟩⟩ hpre
 simp -implicitDefEqProofs only [Tryz.f221, go_sem, hh, seval] at hpre ⊢
 refine AF [] (ι := {i : Nat // i ≤ m.to.length ∧ (∀ j, j < i → BL (m.to.getD j default)) ∧ ∀ j, j < i → ∀ k, k < j → ¬ m.to.getD k default = m.to.getD j default}) (fun p => ⟨[(1, .pb 1001 0), (3, .t (.v (.int .i64 p.1)))], [(1001, some (.box [.t (.v (.string m.frm.user)), .t (.v (.string m.frm.domain)), .t (.sl 2 (m.to.map At)), .t (.sl 1 (m.body.map AH))]))]⟩) (fun p => m.to.length - p.1) ⟨0, by simp, by simp, by simp⟩ rfl ?_ ?_
 ·simp -implicitDefEqProofs only [go_sem, hh, seval]
  try simp
 ·rintro ⟨i, hi, hall, hno⟩
  simp -implicitDefEqProofs only [go_sem, hh, seval]
  with_reducible repeat' (first | apply ai | intro _ | ((first | apply s1 | apply s3 | apply s4) <;> intro hb <;> simp -implicitDefEqProofs only [hb, go_sem, hh, seval] <;> try simp only [qz] at hb))
  all_goals (try simp only [maxLen, tn, lm] at *)
  all_goals first | rfl | omega | skip
  ·rw [AO (fun h => hb (h.1 _ (AE (by omega))))]
  ·refine AF [] (ι := {k : Nat // k ≤ i ∧ ∀ j, j < k → ¬ m.to.getD j default = m.to.getD i default}) (fun p => ⟨[(1, .pb 1001 0), (3, .t (.v (.int .i64 i))), (4, .t (.v (.int .i64 p.1)))], [(1001, some (.box [.t (.v (.string m.frm.user)), .t (.v (.string m.frm.domain)), .t (.sl 2 (m.to.map At)), .t (.sl 1 (m.body.map AH))]))]⟩) (fun p => i - p.1) ⟨0, by simp, by simp⟩ rfl ?_ ?_
   ·simp -implicitDefEqProofs only [go_sem, hh, seval]
    try simp
   ·rintro ⟨k, hk, hk2⟩
    simp -implicitDefEqProofs only [go_sem, hh, seval]
    with_reducible repeat' (first | apply ai | intro _ | ((first | apply s1 | apply s3 | apply s4) <;> intro hb <;> simp -implicitDefEqProofs only [hb, go_sem, hh, seval] <;> try simp only [qz] at hb))
    all_goals (try simp only [maxLen, tn, lm] at *)
    all_goals first | rfl | omega | skip
    ·have e : m.to.getD k default = m.to.getD i default := BW.2 (by simpa using hb)
     rw [AO]
     intro h
     have hn := h.2.1
     have q1 : k < m.to.length := by omega
     have q2 : i < m.to.length := by omega
     simp only [List.getD_eq_getElem?_getD, List.getElem?_eq_getElem q1, List.getElem?_eq_getElem q2, Option.getD_some] at e
     exact List.pairwise_iff_getElem.1 (List.nodup_iff_pairwise_ne.1 hn) k i q1 q2 (by omega) e
    ·refine ⟨⟨k + 1, by omega, fun j hj => ?_⟩, by dsimp only; omega, ?_⟩
     ·by_cases e : j = k
      ·subst e; exact qV hb
      ·exact hk2 j (by omega)
     ·simp -implicitDefEqProofs only [go_sem, hh, seval]
      try simp
    ·refine ⟨⟨i + 1, by omega, DC hall (by assumption), fun j hj q hq => ?_⟩, by dsimp only; omega, ?_⟩
     ·by_cases e : j = i
      ·subst e; exact hk2 q (by omega)
      ·exact hno j (by omega) q hq
     ·simp -implicitDefEqProofs only [go_sem, hh, seval]
      try simp
  all_goals have hlen : m.to.length ≤ i := by omega
  all_goals have hA : ∀ a ∈ m.to, BL a := BX fun j hj => hall j (by omega)
  all_goals have hN : m.to.Nodup := Xr fun j hj q hq => hno j (by omega) q hq
  all_goals first
   | (rw [AY]
      exact ⟨fun h => ⟨hA, hN, by first | exact .inl (by assumption) | exact .inr (by assumption), by omega, h⟩, fun h => h.2.2.2.2⟩)
   | (rw [AO]
      intro h
      first
       | (have := h.2.2.2.1; omega)
       | (rcases h.2.2.1 with q | q <;> contradiction))
end
theorem Hp {w : World} {pr : Nat → Prop} {u v : Value} {vs : List Value} (h : AK ρ0 w pr [.t (.v u), .t (.v v)] vs []) : vs = [u, v] := by
 obtain ⟨a, l, rfl, h1, h2⟩ := h.one
 obtain ⟨b, l2, rfl, h3, h4⟩ := h2.one
 generalize hF : ([] : List Nat) = F at h4
 cases h4
 rw [h1.val.1, h3.val.1]
theorem LI.cell {m : Int} {w : World} {pr : Nat → Prop} (h : LI m w pr) : w.cell? ⟨0, 0, none⟩ = some (.int .i64 m) := by
 unfold LI at h
 cases h with
 | rop cs a vs hp hv hr =>
   cases hr with
   | cons t v ts vs h1 h2 =>
     cases h1 with
     | v x hx =>
       have := hv 0 (.int .i64 m) rfl
       simpa [Addr.add, sK] using this
def mO : Ct := An (lc A0 (lc jl l0)) (fun _ => True) (fun p => .t (.v (.int .i64 (Lib.indexByte (bl p.1) (UInt8.ofNat p.2.1.toNat)))))
theorem d8 (m : Int) : FL Tryz.prog m 241 mO := FL.of (r := fun (p : ByteArray × Int × Unit) => .int .i64 (Lib.indexByte (bl p.1) (UInt8.ofNat p.2.1.toNat))) (fun _ => trivial) fun p _ => by
 obtain ⟨s, c, ⟨⟩⟩ := p
 intro w pr vs hgl hv
 have := Hp hv
 subst this
 have he : Extern.find Tryz.f241 = some Extern.BytealgIndexByte.indexByte := by kernel_rfl
 rw [run_callFunc_extern (fn := Tryz.f241) (by kernel_rfl) (by kernel_rfl) rfl (by kernel_rfl) he]
 have h := Lib.run_indexByteString (P := Tryz.prog) s c w
 rw [show ([Value.string s, Value.int .u8 c].toArray) = #[.string s, .int .u8 c] from rfl, h]
 rfl
def l7 : Ct := An (lc A0 (lc jl l0)) (fun _ => True) (fun p => .t (.v (.int .i64 (Lib.countByte (bl p.1) (UInt8.ofNat p.2.1.toNat)))))
theorem dc (m : Int) : FL Tryz.prog m 216 l7 := FL.of (r := fun (p : ByteArray × Int × Unit) => .int .i64 (Lib.countByte (bl p.1) (UInt8.ofNat p.2.1.toNat))) (fun _ => trivial) fun p _ => by
 obtain ⟨s, c, ⟨⟩⟩ := p
 intro w pr vs hgl hv
 have := Hp hv
 subst this
 have he : Extern.find Tryz.f216 = some Extern.BytealgCount.count := by kernel_rfl
 rw [run_callFunc_extern (fn := Tryz.f216) (by kernel_rfl) (by kernel_rfl) rfl (by kernel_rfl) he]
 have h := Lib.run_countString (P := Tryz.prog) s c w
 rw [show ([Value.string s, Value.int .u8 c].toArray) = #[.string s, .int .u8 c] from rfl, h]
 rfl
def mG (m : Int) : Ct := An (lc A0 (lc A0 l0)) (fun p => 2 ≤ p.2.1.size ∧ (p.2.1.size : Int) ≤ m ∧ p.1.size ≤ 2000000) (fun p => .t (.v (.int .i64 (Lib.indexB p.1 p.2.1))))
theorem dw (m : Int) : FL Tryz.prog m 231 (mG m) := FL.of (r := fun (p : ByteArray × ByteArray × Unit) => .int .i64 (Lib.indexB p.1 p.2.1)) (fun _ => trivial) fun p hp => by
 obtain ⟨s, b, ⟨⟩⟩ := p
 intro w pr vs hgl hv
 have := Hp hv
 subst this
 have he : Extern.find Tryz.f231 = some Extern.BytealgIndex.index := by kernel_rfl
 rw [run_callFunc_extern (fn := Tryz.f231) (by kernel_rfl) (by kernel_rfl) rfl (by kernel_rfl) he]
 have h := Lib.run_indexString (P := Tryz.prog) s b w 0 m (by kernel_rfl) hgl.cell hp.1 hp.2.1 (by have h3 : s.size ≤ 2000000 := hp.2.2; omega)
 rw [show ([Value.string s, Value.string b].toArray) = #[.string s, .string b] from rfl, h]
 rfl
theorem CA (s : ByteArray) (i : Nat) (h : i < s.size) : AC s i = (s[i].toNat : Int) := by
 rw [CE]
 have h' : i < (bl s).length := h
 have : (bl s).getD i 0 = s[i] := by
  simp [h']
  rfl
 rw [this]
 rfl
theorem GF (s : ByteArray) : s.toList = bl s := ByteArray.toList_eq s
theorem EV {s t : ByteArray} (h : s = t) : (s.toList == t.toList) = true := by rw [h]; simp
theorem Fx {s t : ByteArray} (h : ¬ s = t) : (s.toList == t.toList) = false := by
 rw [GF, GF]
 simpa using fun e => h (Gg e)
def mF : Ct := An (lc A0 (lc jl l0)) (fun p => True) (fun p => .t (.v (.int .i64 (Lib.indexByte (bl p.1) (UInt8.ofNat p.2.1.toNat)))))
section
attribute [local go_sem] mO
theorem dv {G : Gt} (hG : Aj G) (hh : G.e 241 = AA 3 mO) : Gd G 230 (AA 0 mF) := by
 refine gr (fn := Tryz.f230) (n := 2) rfl hG ?_
 rintro ⟨s, c, ⟨⟩⟩ hpre
 simp -implicitDefEqProofs only [Tryz.f230, go_sem, hh, seval] at hpre ⊢
 repeat' (first | with_reducible apply ai | with_reducible intro _ | ((first | apply s1 | apply s2 | apply s3 | apply s4) <;> intro hb <;> simp -implicitDefEqProofs only [hb, go_sem, hh, seval] <;> try simp only [qz] at hb))
 all_goals first | rfl | skip
end
def mH : Ct := An (lc A6 l0) (fun p => 0 ≤ p.1 ∧ p.1 ≤ 1000000000000) (fun p => .t (.v (.int .i64 ((p.1 + 16) / 8))))
theorem dx {G : Gt} (hG : Aj G) : Gd G 232 (AA 0 mH) := by
 refine gr (fn := Tryz.f232) (n := 1) rfl hG ?_
 rintro ⟨n, ⟨⟩⟩ hpre
 simp -implicitDefEqProofs only [Tryz.f232, go_sem, seval] at hpre ⊢
 repeat' (first | with_reducible apply ai | with_reducible intro _ | ((first | apply s1 | apply s2 | apply s3 | apply s4) <;> intro hb <;> simp -implicitDefEqProofs only [hb, go_sem, seval] <;> try simp only [qz] at hb))
 all_goals first | rfl | omega | skip
open Go.Lib in
theorem hash_next (s : ByteArray) (k : Nat) (hk : k < s.size) {h : Int} (hh : h = RK.H ((bl s).take k) % 4294967296) : (h * 16777619 % 4294967296 + AC s k) % 4294967296 = RK.H ((bl s).take (k + 1)) % 4294967296 := by
 have := Go.Proofs.hash_step s k hk hh
 rw [CA s k hk]
 have h2 : (s[k].toNat : Int) % 4294967296 = s[k].toNat := by
  have := s[k].toNat_lt
  omega
 rw [h2] at this
 exact this
theorem rt (x : Int) : 0 ≤ x % 4294967296 ∧ x % 4294967296 < 4294967296 := by omega
def xX (s : ByteArray) : AV := .tup [.t (.v (.int .u32 (Lib.RK.H (bl s) % 4294967296))), .t (.v (.int .u32 (16777619 ^ s.size % 4294967296)))]
def mP : Ct := An (lc A0 l0) (fun p => p.1.size ≤ 2000000) (fun p => xX p.1)
section
attribute [local go_sem] xX
theorem d9 {G : Gt} (hG : Aj G) : Gd G 242 (AA 0 mP) := by
 refine gr (fn := Tryz.f242) (n := 1) rfl hG ?_ (hs := fun _ p => .tup _ (by intro c hc; simp only [List.mem_cons, List.not_mem_nil, or_false] at hc; rcases hc with rfl | rfl <;> exact .v _))
 rintro ⟨s, ⟨⟩⟩ hpre
 simp -implicitDefEqProofs only [Tryz.f242, go_sem, seval] at hpre ⊢
 refine AF [] (ι := {i : Nat // i ≤ s.size}) (fun p => ⟨[(0, .t (.v (.string s))), (4, .t (.v (.int .u32 (Lib.RK.H ((bl s).take p.1) % 4294967296)))), (5, .t (.v (.int .i64 p.1)))], []⟩) (fun p => s.size - p.1) ⟨0, by omega⟩ rfl ?_ ?_
 ·simp -implicitDefEqProofs only [go_sem, seval]
  simp [Lib.RK.H_nil]
 ·rintro ⟨i, hi⟩
  simp -implicitDefEqProofs only [go_sem, seval]
  repeat' (first | with_reducible apply ai | with_reducible intro _ | ((first | apply s1 | apply s2 | apply s3 | apply s4) <;> intro hb <;> simp -implicitDefEqProofs only [hb, go_sem, seval] <;> try simp only [qz] at hb))
  all_goals (try simp only [maxLen, tn] at *)
  all_goals (try have hbr := BA s i)
  all_goals first | rfl | omega | skip
  ·refine ⟨⟨i + 1, by omega⟩, by dsimp only; omega, ?_⟩
   rw [hash_next s i (by omega) rfl]
   simp -implicitDefEqProofs only [go_sem, seval]
   try simp
  ·have hii : i = s.size := by omega
   have hle : (bl s).length ≤ i := by rw [CJ]; omega
   rw [List.take_of_length_le hle]
   refine AF [] (ι := {p : Nat × Int × Int // p.1 ≤ 2000000 ∧ Lib.RK.PowInv s.size p.1 p.2.1 p.2.2 ∧ 0 ≤ p.2.1 ∧ p.2.1 < 4294967296}) (fun p => ⟨[(4, .t (.v (.int .u32 (Lib.RK.H (bl s) % 4294967296)))), (6, .t (.v (.int .u32 p.1.2.1))), (7, .t (.v (.int .u32 p.1.2.2))), (8, .t (.v (.int .i64 p.1.1)))], []⟩) (fun p => p.1.1) ⟨(s.size, 1, 16777619), by simpa using hpre, Lib.RK.pow_start _, by simp, by simp⟩ rfl ?_ ?_
   ·simp -implicitDefEqProofs only [go_sem, seval]
    try simp
   ·rintro ⟨⟨k, pw, sq⟩, hk, hpi, h0, h1⟩
    have hand := Go.Proofs.and_one k (by simp only at hk; omega)
    simp only at hk h0 h1 hpi
    have hpw : ((k : Int) / 2 ^ (1 : Int).toNat) = ((k / 2 : Nat) : Int) := by simp
    simp -implicitDefEqProofs only [go_sem, seval]
    repeat' (first | with_reducible apply ai | with_reducible intro _ | ((first | apply s1 | apply s2 | apply s3 | apply s4) <;> intro hb <;> simp -implicitDefEqProofs only [hb, go_sem, seval] <;> try simp only [qz] at hb))
    all_goals (try simp only [maxLen, tn] at *)
    all_goals first | rfl | omega | skip
    ·have h2 : k % 2 = 1 := by rw [hand] at hb; omega
     have := rt (pw * sq)
     refine ⟨⟨(k / 2, pw * sq % 4294967296, sq * sq % 4294967296), by simp only []; omega, Lib.RK.pow_odd hpi h2, this.1, this.2⟩, by simp only []; omega, ?_⟩
     try rw [hpw]
     simp -implicitDefEqProofs only [go_sem, seval]
     try simp
    ·have h2 : k % 2 = 0 := by rw [hand] at hb; omega
     refine ⟨⟨(k / 2, pw, sq * sq % 4294967296), by simp only []; omega, Lib.RK.pow_even hpi h2, h0, h1⟩, by simp only []; omega, ?_⟩
     try rw [hpw]
     simp -implicitDefEqProofs only [go_sem, seval]
     try simp
    ·have h2 : k = 0 := by omega
     subst h2
     rw [← Lib.RK.pow_end hpi h0 h1]
end
open Go.Lib in
theorem roll_next (s : ByteArray) (n i : Nat) (hn : 1 ≤ n) (hni : n ≤ i) (hi : i < s.size) {h pw : Int} (hh : h = RK.H (RK.win (bl s) (i - n) n) % 4294967296) (hp : pw = 16777619 ^ n % 4294967296) :
    ((h * 16777619 % 4294967296 + AC s i) % 4294967296 - pw * AC s (i - n) % 4294967296) % 4294967296 = RK.H (RK.win (bl s) (i + 1 - n) n) % 4294967296 := by
 have := Go.Proofs.roll_step s n i hn hni hi hh hp
 rw [CA s i hi, CA s (i - n) (by omega)]
 have h2 : (s[i - n].toNat : Int) % 4294967296 = s[i - n].toNat := by
  have := s[i - n].toNat_lt
  omega
 rw [h2] at this
 rw [← show RK.H (RK.win s.data.toList (i + 1 - n) n) % 4294967296 = RK.H (RK.win (bl s) (i + 1 - n) n) % 4294967296 from rfl, ← this]
 generalize pw * (s[i - n].toNat : Int) = X
 omega
def mI : Ct := An (lc A0 (lc A0 l0)) (fun p => 1 ≤ p.2.1.size ∧ p.2.1.size ≤ p.1.size ∧ p.1.size ≤ 2000000) (fun p => .t (.v (.int .i64 (Lib.indexB p.1 p.2.1))))
section
attribute [local go_sem] mP xX
theorem dy {G : Gt} (hG : Aj G) (hh : G.e 242 = AA 0 mP) : Gd G 233 (AA 0 mI) := by
 refine gr (fn := Tryz.f233) (n := 2) rfl hG ?_
 rintro ⟨s, sep, ⟨⟩⟩ hpre
 simp -implicitDefEqProofs only [Tryz.f233, go_sem, hh, seval] at hpre ⊢
 repeat' (first | with_reducible apply ai | with_reducible intro _ | ((first | apply s1 | apply s2 | apply s3 | apply s4) <;> intro hb <;> simp -implicitDefEqProofs only [hb, go_sem, hh, seval] <;> try simp only [qz] at hb))
 all_goals first | rfl | omega | skip
 refine AF [] (ι := {i : Nat // i ≤ sep.size}) (fun p => ⟨[(0, .t (.v (.string s))), (1, .t (.v (.string sep))), (5, .t (.v (.int .u32 (Lib.RK.H (bl sep) % 4294967296)))), (6, .t (.v (.int .u32 (16777619 ^ sep.size % 4294967296)))), (7, .t (.v (.int .i64 sep.size))), (8, .t (.v (.int .u32 (Lib.RK.H ((bl s).take p.1) % 4294967296)))), (9, .t (.v (.int .i64 p.1)))], []⟩) (fun p => sep.size - p.1) ⟨0, by omega⟩ rfl ?_ ?_
 ·simp -implicitDefEqProofs only [go_sem, hh, seval]
  simp [Lib.RK.H_nil]
 ·rintro ⟨i, hi⟩
  simp -implicitDefEqProofs only [go_sem, hh, seval]
  repeat' (first | with_reducible apply ai | with_reducible intro _ | ((first | apply s1 | apply s2 | apply s3 | apply s4) <;> intro hb <;> simp -implicitDefEqProofs only [hb, go_sem, hh, seval] <;> try simp only [qz] at hb))
  all_goals (try simp only [maxLen, tn] at *)
  all_goals (try have hbr := BA s i)
  all_goals first | rfl | omega | skip
  ·refine ⟨⟨i + 1, by omega⟩, by dsimp only; omega, ?_⟩
   rw [hash_next s i (by omega) rfl]
   simp -implicitDefEqProofs only [go_sem, hh, seval]
   try simp
  ·rw [Lib.hit s sep 0 (fun j hj => absurd hj (Nat.not_lt_zero _)) (by omega) (EV (by rw [Nat.zero_add]; exact hb))]
   rfl
  all_goals
   have hii : i = sep.size := by omega
   have hb0 := hb
   subst hii
   have hno : Lib.NoOccB s sep (sep.size - sep.size + 1) := by
    rw [Nat.sub_self]
    refine Lib.NoOcc.succ (fun j hj => absurd hj (Nat.not_lt_zero _)) ?_
    first
     | exact Go.Proofs.occ_no s sep 0 (by omega) (by rw [Nat.zero_add]; exact Fx hb0)
     | exact Go.Proofs.occ_no_hash s sep 0 (by omega) rfl rfl hb0
   refine AF [] (ι := {k : Nat // sep.size ≤ k ∧ k ≤ s.size ∧ Lib.NoOccB s sep (k - sep.size + 1)}) (fun p => ⟨[(0, .t (.v (.string s))), (1, .t (.v (.string sep))), (5, .t (.v (.int .u32 (Lib.RK.H (bl sep) % 4294967296)))), (6, .t (.v (.int .u32 (16777619 ^ sep.size % 4294967296)))), (7, .t (.v (.int .i64 sep.size))), (8, .t (.v (.int .u32 (Lib.RK.H (Lib.RK.win (bl s) (p.1 - sep.size) sep.size) % 4294967296)))), (10, .t (.v (.int .i64 p.1)))], []⟩) (fun p => s.size - p.1) ⟨sep.size, by omega, by omega, hno⟩ rfl ?_ ?_
   ·simp -implicitDefEqProofs only [go_sem, hh, seval]
    try simp [Lib.RK.win_zero]
   ·rintro ⟨k, hk1, hk2, hk3⟩
    have hrn := fun h => roll_next s sep.size k (by omega) hk1 h rfl rfl
    have eks : ((k : Int) - sep.size).toNat = k - sep.size := by omega
    have eks1 : ((k : Int) + 1 - sep.size).toNat = k + 1 - sep.size := by omega
    have ek1 : ((k : Int) + 1).toNat = k + 1 := by omega
    simp -implicitDefEqProofs only [go_sem, hh, seval]
    repeat' (first | with_reducible apply ai | with_reducible intro _ | ((first | apply s1 | apply s2 | apply s3 | apply s4) <;> intro hb <;> simp -implicitDefEqProofs only [hb, go_sem, hh, seval] <;> try simp only [qz] at hb))
    all_goals (try simp only [maxLen, tn] at *)
    all_goals (try have hbr := BA s k)
    all_goals (try have hbr2 := BA s (k - sep.size))
    all_goals (try simp only [eks, eks1, ek1] at *)
    all_goals first | rfl | omega | skip
    all_goals (try have hkk := hrn (by omega))
    all_goals have e1 : k - sep.size + 1 = k + 1 - sep.size := by omega
    all_goals rw [e1] at hk3
    ·have e2 : k + 1 - sep.size + sep.size = k + 1 := by omega
     rw [Lib.hit s sep (k + 1 - sep.size) hk3 (by omega) (EV (by rw [e2]; exact hb))]
     have e3 : ((k + 1 - sep.size : Nat) : Int) = (k : Int) + 1 - sep.size := by omega
     rw [e3]
    ·have e2 : k + 1 - sep.size + sep.size = k + 1 := by omega
     have hocc := Go.Proofs.occ_no s sep (k + 1 - sep.size) (by omega) (by rw [e2]; exact Fx hb)
     refine ⟨⟨k + 1, by omega, by omega, Lib.NoOcc.succ hk3 hocc⟩, by dsimp only; omega, ?_⟩
     rw [hkk]
     simp -implicitDefEqProofs only [go_sem, hh, seval]
     try simp
    ·rw [hkk] at hb
     have hocc := Go.Proofs.occ_no_hash s sep (k + 1 - sep.size) (by omega) rfl rfl hb
     refine ⟨⟨k + 1, by omega, by omega, Lib.NoOcc.succ hk3 hocc⟩, by dsimp only; omega, ?_⟩
     rw [hkk]
     simp -implicitDefEqProofs only [go_sem, hh, seval]
     try simp
    ·rw [Lib.past s sep (k + 1 - sep.size) hk3 (by omega) (by omega)]
end
section
open Go.Lib
theorem XG (s : ByteArray) (c : UInt8) : indexByte (bl s) c = -1 ∨ ∃ o : Nat, indexByte (bl s) c = o ∧ o < s.size := by
 have hge := indexByte_ge (bl s) c
 by_cases h : indexByte (bl s) c = -1
 ·exact .inl h
 ·obtain ⟨o, ho⟩ : ∃ o : Nat, indexByte (bl s) c = o := ⟨(indexByte (bl s) c).toNat, by omega⟩
  refine .inr ⟨o, ho, ?_⟩
  obtain ⟨h1, _⟩ := indexByte_some ho
  exact (List.getElem?_eq_some_iff.1 h1).1
theorem Gi (sub : ByteArray) (h : 0 < sub.size) : UInt8.ofNat (AC sub 0).toNat = ((sub[0].toNat : Int)).toNat.toUInt8 := by rw [CA sub 0 h]
theorem i7 {s sub : ByteArray} {k j : Nat} (hk : k < s.size) (hj : j < sub.size) (h : ¬ AC s k = AC sub j) : ((((s[k].toNat : Nat) : Int)) != ((sub[j].toNat : Nat) : Int)) = true := by
 rw [CA s k hk, CA sub j hj] at h
 simpa using h
theorem M7 {s sub : ByteArray} {k : Nat} (h2 : 2 ≤ sub.size) (hls : sub.size ≤ s.size) (hk : k < s.size) (hno : NoOccB s sub k) (hne : ¬ AC s k = AC sub 0) (hib : indexByte (bl (s.extract (k + 1) (s.size - sub.size + 1))) (UInt8.ofNat (AC sub 0).toNat) = -1) : indexB s sub = -1 :=
 skip_none s sub k h2 hls hk hno (i7 hk (by omega) hne) (by rw [Gi sub (by omega)] at hib; exact hib)
theorem M8 {s sub : ByteArray} {k o : Nat} (h2 : 2 ≤ sub.size) (hk : k < s.size) (hno : NoOccB s sub k) (hne : ¬ AC s k = AC sub 0) (hib : indexByte (bl (s.extract (k + 1) (s.size - sub.size + 1))) (UInt8.ofNat (AC sub 0).toNat) = o) : NoOccB s sub (k + (o + 1)) :=
 skip_some s sub k o h2 hk hno (i7 hk (by omega) hne) (by rw [Gi sub (by omega)] at hib; exact hib)
theorem L0 {s sub : ByteArray} {i : Nat} (hno : NoOccB s sub i) (h2 : 2 ≤ sub.size) (hi : i + 1 < s.size) (hne : ¬ AC s (i + 1) = AC sub 1) : NoOccB s sub (i + 1) :=
 miss_second s sub i hno h2 hi (by rw [CA s _ hi, CA sub 1 (by omega)] at hne; exact hne)
theorem Oo {s sub : ByteArray} {i : Nat} (hno : NoOccB s sub i) (hi : i + sub.size ≤ s.size) (h : ¬ s.extract i (i + sub.size) = sub) : NoOccB s sub (i + 1) := miss_piece s sub i hno hi (Fx h)
theorem KS (s sub : ByteArray) (a : Nat) : -1 ≤ indexB (s.extract a s.size) sub ∧ indexB (s.extract a s.size) sub ≤ s.size := ⟨index_ge _ _, index_tail_le s sub a⟩
theorem Qn {s sub : ByteArray} (h : sub.size = 1) : indexByte (bl s) (UInt8.ofNat (AC sub 0).toNat) = indexB s sub := by
 rw [one s sub h, Gi sub (by omega)]; rfl
theorem SO {s sub : ByteArray} (h : sub.size = 0 ∨ sub = s) : indexB s sub = 0 := zero s sub (by
 rcases h with h | h
 ·exact .inl (by rw [h]; rfl)
 ·exact .inr (EV h))
theorem i6 {s sub : ByteArray} {k : Nat} (hno : NoOccB s sub k) (hk : k ≤ s.size) : indexB s sub = if indexB (s.extract k s.size) sub < 0 then -1 else indexB (s.extract k s.size) sub + k := by
 split
 ·exact fb_neg s sub k hno hk (r := indexB (s.extract k s.size) sub) rfl (by assumption) (KS s sub k).1
 ·exact fb_pos s sub k hno hk (r := indexB (s.extract k s.size) sub) rfl (by omega)
theorem ym {k : IntKind} {x y : Int} (h : x = y) : T.v (.int k x) = T.v (.int k y) := by rw [h]
theorem eX {s sub : ByteArray} (h1 : s.size ≤ sub.size) (h2 : ¬ sub = s) : indexB s sub = -1 := long s sub h1 (Fx h2)
end
def l8 : Ct := An (lc A0 (lc A0 l0)) (fun p => p.2.1.size ≤ 2000000 ∧ p.1.size ≤ 2000000) (fun p => .t (.v (.int .i64 (Lib.indexB p.1 p.2.1))))
section
attribute [local go_sem] mF mG mH mI sK eq_self decide_true Bool.not_true Bool.not_false
set_option maxHeartbeats 8000000 in
theorem df {G : Gt} (hG : Aj G) (hh : G.e 230 = AA 0 mF ∧ G.e 231 = AA 3 (mG G.m) ∧ G.e 232 = AA 0 mH ∧ G.e 233 = AA 0 mI) : Gd G 217 (AA 0 l8) := by
 refine gr (fn := Tryz.f217) (n := 2) rfl hG ?_
 rintro ⟨s, sub, ⟨⟩⟩ hpre
 simp -implicitDefEqProofs only [Tryz.f217, go_sem, hh, Nat.reduceAdd, Nat.reduceMul, Nat.reduceLeDiff, Nat.reduceEqDiff, reduceCtorEq, Nat.reduceSub, Int.reduceNeg, Nat.reduceMod, Nat.reduceBEq, Nat.reduceLT] at hpre ⊢
 with_reducible repeat' (first | apply ai | intro _ | ((first | apply s1 | apply s3 | apply s4) <;> intro hb <;> simp -implicitDefEqProofs only [hb, go_sem, hh, Nat.reduceAdd, Nat.reduceMul, Nat.reduceLeDiff, Nat.reduceEqDiff, reduceCtorEq, Nat.reduceSub, Int.reduceNeg, Nat.reduceMod, Nat.reduceBEq, Nat.reduceLT] <;> try simp only [qz] at hb))
 all_goals (try simp only [maxLen, tn] at *)
 all_goals first | rfl | omega | skip
 ·rw [SO (.inl (by omega))]
 ·rename_i hb; rw [SO (.inr hb)]
 ·rw [← Qn (s := s) (sub := sub) (by omega)]; rfl
 ·rw [eX (by omega) (by assumption)]
 all_goals
  have h2 : 2 ≤ sub.size := by omega
  have hls : sub.size < s.size := by omega
  refine AF [] (ι := {p : Nat × Nat // p.1 ≤ s.size - sub.size + 1 ∧ Lib.NoOccB s sub p.1 ∧ p.2 ≤ p.1}) (fun p => ⟨[(0, .t (.v (.string s))), (1, .t (.v (.string sub))), (5, .t (.v (.int .i64 sub.size))), (6, .t (.v (.int .u8 (AC sub 0)))), (7, .t (.v (.int .u8 (AC sub 1)))), (8, .t (.v (.int .i64 p.1.1))), (9, .t (.v (.int .i64 (s.size - sub.size + 1)))), (10, .t (.v (.int .i64 p.1.2)))], []⟩) (fun p => s.size - p.1.1) ⟨(0, 0), by dsimp only; omega, (fun j hj => absurd hj (Nat.not_lt_zero _)), by dsimp only; omega⟩ rfl ?_ ?_
  ·simp -implicitDefEqProofs only [go_sem, hh, Nat.reduceAdd, Nat.reduceMul, Nat.reduceLeDiff, Nat.reduceEqDiff, reduceCtorEq, Nat.reduceSub, Int.reduceNeg, Nat.reduceMod, Nat.reduceBEq, Nat.reduceLT]
   try simp
  ·rintro ⟨⟨i, f⟩, hi, hno, hf⟩
   dsimp only at hi hno hf
   have et : ((s.size : Int) - sub.size + 1).toNat = s.size - sub.size + 1 := by omega
   have ei : ((i : Int) + 1).toNat = i + 1 := by omega
   by_cases ht : (i : Int) < s.size - sub.size + 1
   ·by_cases e0 : AC s (i : Int).toNat = AC sub 0
    ·have e1 : ((i : Int) + sub.size).toNat = i + sub.size := by omega
     simp -implicitDefEqProofs only [ht, e0, go_sem, hh, Nat.reduceAdd, Nat.reduceMul, Nat.reduceLeDiff, Nat.reduceEqDiff, reduceCtorEq, Nat.reduceSub, Int.reduceNeg, Nat.reduceMod, Nat.reduceBEq, Nat.reduceLT]
     with_reducible repeat' (first | apply ai | intro _ | ((first | apply s1 | apply s3 | apply s4) <;> intro hb <;> simp -implicitDefEqProofs only [hb, go_sem, hh, Nat.reduceAdd, Nat.reduceMul, Nat.reduceLeDiff, Nat.reduceEqDiff, reduceCtorEq, Nat.reduceSub, Int.reduceNeg, Nat.reduceMod, Nat.reduceBEq, Nat.reduceLT] <;> try simp only [qz] at hb))
     all_goals (try simp only [maxLen, tn, Int.reduceToNat, ei, et, e1] at *)
     all_goals first | rfl | omega | skip
     all_goals first
      | (rw [Lib.hit s sub i hno (by omega) (EV (by assumption))]; done)
      | (rw [ByteArray.size_extract]; omega)
      | (have hk2 : Lib.NoOccB s sub (i + 1) := by
           first
            | exact Oo hno (by omega) (by assumption)
            | exact L0 hno h2 (by omega) (by assumption)
         have hbd := KS s sub (i + 1)
         first
          | omega
          | (refine ym ?_
             rw [i6 hk2 (by omega)]
             first
              | (rw [if_pos (by omega)]; done)
              | (rw [if_neg (by omega)]; omega))
          | (refine ⟨⟨(i + 1, f + 1), by dsimp only; omega, hk2, by dsimp only; omega⟩, by dsimp only; omega, ?_⟩
             simp -implicitDefEqProofs only [go_sem, hh, Nat.reduceAdd, Nat.reduceMul, Nat.reduceLeDiff, Nat.reduceEqDiff, reduceCtorEq, Nat.reduceSub, Int.reduceNeg, Nat.reduceMod, Nat.reduceBEq, Nat.reduceLT]
             simp))
    ·have hz : True := trivial
     rcases XG (s.extract ((i : Int) + 1).toNat ((s.size : Int) - sub.size + 1).toNat) (UInt8.ofNat (AC sub (Int.toNat 0)).toNat) with h | ⟨o, h, ho⟩
     ·have h' : Lib.indexByte (bl (s.extract ((i : Int) + 1).toNat ((s.size : Int) - sub.size + 1).toNat)) (UInt8.ofNat (AC sub 0).toNat) = -1 := h
      simp -implicitDefEqProofs only [ht, e0, h', go_sem, hh, Nat.reduceAdd, Nat.reduceMul, Nat.reduceLeDiff, Nat.reduceEqDiff, reduceCtorEq, Nat.reduceSub, Int.reduceNeg, Nat.reduceMod, Nat.reduceBEq, Nat.reduceLT]
      with_reducible repeat' (first | apply ai | intro _ | ((first | apply s1 | apply s3 | apply s4) <;> intro hb <;> simp -implicitDefEqProofs only [hb, go_sem, hh, Nat.reduceAdd, Nat.reduceMul, Nat.reduceLeDiff, Nat.reduceEqDiff, reduceCtorEq, Nat.reduceSub, Int.reduceNeg, Nat.reduceMod, Nat.reduceBEq, Nat.reduceLT] <;> try simp only [qz] at hb))
      all_goals (try simp only [maxLen] at *)
      all_goals first | rfl | omega | skip
      rw [ei, et] at h'
      rw [tn] at e0
      rw [M7 (k := i) h2 (by omega) (by omega) hno e0 h']
     ·have h' : Lib.indexByte (bl (s.extract ((i : Int) + 1).toNat ((s.size : Int) - sub.size + 1).toNat)) (UInt8.ofNat (AC sub 0).toNat) = o := h
      have ho' : i + (o + 1) < s.size - sub.size + 1 := by
       rw [ei, et, ByteArray.size_extract] at ho; omega
      have hno' : Lib.NoOccB s sub (i + (o + 1)) := by
       rw [ei, et] at h'
       rw [tn] at e0
       exact M8 (k := i) h2 (by omega) hno e0 h'
      have e4 : ((i : Int) + ((o : Int) + 1)) = ((i + (o + 1) : Nat) : Int) := by omega
      simp -implicitDefEqProofs only [ht, e0, h', e4, go_sem, hh, Nat.reduceAdd, Nat.reduceMul, Nat.reduceLeDiff, Nat.reduceEqDiff, reduceCtorEq, Nat.reduceSub, Int.reduceNeg, Nat.reduceMod, Nat.reduceBEq, Nat.reduceLT]
      have hik : i ≤ i + (o + 1) := by omega
      have hob : o ≤ 2000000 := by omega
      clear h h' ho e0
      generalize i + (o + 1) = k at *
      have ek : ((k : Int) + 1).toNat = k + 1 := by omega
      have e1 : ((k : Int) + sub.size).toNat = k + sub.size := by omega
      with_reducible repeat' (first | apply ai | intro _ | ((first | apply s1 | apply s3 | apply s4) <;> intro hb <;> simp -implicitDefEqProofs only [hb, go_sem, hh, Nat.reduceAdd, Nat.reduceMul, Nat.reduceLeDiff, Nat.reduceEqDiff, reduceCtorEq, Nat.reduceSub, Int.reduceNeg, Nat.reduceMod, Nat.reduceBEq, Nat.reduceLT] <;> try simp only [qz] at hb))
      all_goals (try simp only [maxLen, tn, Int.reduceToNat, ei, et, e1, ek, e4] at *)
      all_goals first | rfl | omega | skip
      all_goals first
       | (rw [Lib.hit s sub k hno' (by omega) (EV (by assumption))]; done)
       | (rw [ByteArray.size_extract]; omega)
       | (have hk2 : Lib.NoOccB s sub (k + 1) := by
            first
             | exact Oo hno' (by omega) (by assumption)
             | exact L0 hno' h2 (by omega) (by assumption)
          have hbd := KS s sub (k + 1)
          first
           | omega
           | (refine ym ?_
              rw [i6 hk2 (by omega)]
              first
               | (rw [if_pos (by omega)]; done)
               | (rw [if_neg (by omega)]; omega))
           | (refine ⟨⟨(k + 1, f + 1), by dsimp only; omega, hk2, by dsimp only; omega⟩, by dsimp only; omega, ?_⟩
              simp -implicitDefEqProofs only [go_sem, hh, Nat.reduceAdd, Nat.reduceMul, Nat.reduceLeDiff, Nat.reduceEqDiff, reduceCtorEq, Nat.reduceSub, Int.reduceNeg, Nat.reduceMod, Nat.reduceBEq, Nat.reduceLT]
              simp))

   ·simp -implicitDefEqProofs only [ht, go_sem, hh, Nat.reduceAdd, Nat.reduceMul, Nat.reduceLeDiff, Nat.reduceEqDiff, reduceCtorEq, Nat.reduceSub, Int.reduceNeg, Nat.reduceMod, Nat.reduceBEq, Nat.reduceLT]
    rw [Lib.past s sub i hno (by omega) (by omega)]
end
section
open Go.Lib
def Fg (c : UInt8) : List UInt8 → List (List UInt8)
 | [] => [[]]
 | x :: r => if x = c then [] :: Fg c r else match Fg c r with | h :: t => (x :: h) :: t | [] => [[x]]
def IU (s : ByteArray) (c : UInt8) : List ByteArray := (Fg c (bl s)).map mB
theorem GC (c : UInt8) : ∀ l : List UInt8, (Fg c l).length = l.count c + 1
 | [] => rfl
 | x :: r => by
   have h := GC c r
   rw [Fg]
   by_cases e : x = c
   ·rw [if_pos e, e, List.count_cons_self]; simp [h]
   ·rw [if_neg e, List.count_cons_of_ne e]
    cases hs : Fg c r with
    | nil => rw [hs] at h; simp at h
    | cons a t => rw [hs] at h; simp at h ⊢; exact h
theorem PT {c : UInt8} : ∀ {l : List UInt8}, (∀ j : Nat, l[j]? ≠ some c) → Fg c l = [l]
 | [], _ => rfl
 | x :: r, h => by
   rw [Fg, if_neg (fun e => h 0 (by rw [e]; rfl)), PT (fun j => h (j + 1))]
theorem MB {c : UInt8} : ∀ (o : Nat) (l : List UInt8), l[o]? = some c → (∀ k : Nat, k < o → l[k]? ≠ some c) → Fg c l = l.take o :: Fg c (l.drop (o + 1))
 | 0, l, h, _ => by
   cases l with
   | nil => cases h
   | cons x r => simp at h; rw [Fg, if_pos h]; rfl
 | o + 1, l, h, hk => by
   cases l with
   | nil => cases h
   | cons x r =>
     rw [Fg, if_neg (fun e => hk 0 (by omega) (by rw [e]; rfl)), MB o r h (fun k q => hk (k + 1) (by omega))]
     rfl
theorem E9 {c : UInt8} : ∀ (l : List UInt8) (m : Nat), (Ar c m l).length ≤ m ∨ (Fg c l).length ≤ m → Ar c m l = Fg c l
 | l, 0, h => by
   have := GC c l
   rw [Ar] at h
   rcases h with h | h
   ·exact absurd h (by simp)
   ·omega
 | [], m + 1, _ => by rw [Ar, Fg]
 | x :: r, m + 1, h => by
   rw [Ar, Fg] at h ⊢
   by_cases e : x = c
   ·rw [if_pos e, if_pos e] at h ⊢
    rw [E9 r m (by simp at h; exact h)]
   ·rw [if_neg e, if_neg e] at h ⊢
    have h2 : (Ar c (m + 1) r).length ≤ m + 1 ∨ (Fg c r).length ≤ m + 1 := by
     rcases h with h | h
     ·cases hs : Ar c (m + 1) r with
      | nil => exact .inl (by simp)
      | cons a t => rw [hs] at h; exact .inl (by simpa using h)
     ·cases hs : Fg c r with
      | nil => exact .inr (by simp)
      | cons a t => rw [hs] at h; exact .inr (by simpa using h)
    rw [E9 r (m + 1) h2]
    all_goals (cases Fg c r <;> rfl)
theorem JJ (s : ByteArray) : D4 s ↔ (∀ w ∈ IU s 46, Rb w) ∧ (IU s 46).length ≤ 3 := by
 unfold D4 Cp IU
 constructor
 ·rintro ⟨h1, h2⟩
  rw [lm] at h2
  rw [E9 _ _ (.inl h2)] at h1 h2
  exact ⟨h1, by rw [lm]; exact h2⟩
 ·rintro ⟨h1, h2⟩
  rw [lm] at h2
  rw [← E9 _ _ (.inr h2)] at h1 h2
  exact ⟨h1, by rw [lm]; exact h2⟩
theorem FX : ∀ {l : List UInt8} {c : UInt8}, indexByte l c = -1 → ∀ j : Nat, l[j]? ≠ some c
 | [], c, _, j => by simp
 | b :: l, c, h, j => by
   have hge := indexByte_ge l c
   unfold indexByte at h
   by_cases e : b = c
   ·rw [if_pos (by simp [e])] at h; cases h
   ·rw [if_neg (by simp [e])] at h
    by_cases e2 : indexByte l c = -1
    ·cases j with
     | zero => simp [e]
     | succ j => exact FX e2 j
    ·rw [if_neg (by simp [e2])] at h; omega
theorem PV {s sep : ByteArray} (h1 : sep.size = 1) (h : indexB s sep = -1) : IU s (UInt8.ofNat (AC sep 0).toNat) = [s] := by
 rw [← Qn h1] at h
 unfold IU
 rw [PT (FX h)]
 rfl
theorem Ye {s sep : ByteArray} (h1 : sep.size = 1) {o : Nat} (h : indexB s sep = o) : o < s.size ∧ IU s (UInt8.ofNat (AC sep 0).toNat) = s.extract 0 o :: IU (s.extract (o + 1) s.size) (UInt8.ofNat (AC sep 0).toNat) := by
 rw [← Qn h1] at h
 obtain ⟨ha, hb⟩ := indexByte_some h
 refine ⟨(List.getElem?_eq_some_iff.1 ha).1, ?_⟩
 unfold IU
 rw [MB o _ ha hb, List.map_cons, Di s (o + 1) s.size, List.take_of_length_le (l := (bl s).drop (o + 1)) (by rw [List.length_drop, CJ]; exact Nat.le_refl _)]
 rw [Gp s 0 o]; rfl
theorem Ww {α : Type} (enc : α → List T) (d x : α) (p : List α) (n : Nat) : ((p ++ List.replicate (n + 1) d).map enc).set p.length (enc x) = ((p ++ [x]) ++ List.replicate n d).map enc := by
 rw [← List.map_set, List.set_append_right _ _ (Nat.le_refl _), Nat.sub_self, List.replicate_succ, List.set_cons_zero, List.append_assoc]; rfl
theorem iv {t : ByteArray} {p : List ByteArray} {n : Nat} : ((p ++ List.replicate (n + 1) (⟨#[]⟩ : ByteArray)).map AH).set p.length [T.v (.string t)] = ((p ++ [t]) ++ List.replicate n (⟨#[]⟩ : ByteArray)).map AH := Ww AH _ t p n
theorem GD (s : ByteArray) (c : UInt8) : (IU s c).length = countByte (bl s) c + 1 := by
 unfold IU; rw [lm, GC]; rfl
theorem Vn (s : ByteArray) (c : UInt8) : countByte (bl s) c ≤ s.size := by
 have := List.count_le_length (a := c) (l := bl s)
 exact this
theorem MC {s sep : ByteArray} (h1 : sep.size = 1) : (indexB s sep = -1 ∧ countByte (bl s) (UInt8.ofNat (AC sep 0).toNat) = 0 ∧ IU s (UInt8.ofNat (AC sep 0).toNat) = [s]) ∨ ∃ o : Nat, indexB s sep = o ∧ o < s.size ∧ IU s (UInt8.ofNat (AC sep 0).toNat) = s.extract 0 o :: IU (s.extract (o + 1) s.size) (UInt8.ofNat (AC sep 0).toNat) ∧ countByte (bl s) (UInt8.ofNat (AC sep 0).toNat) = countByte (bl (s.extract (o + 1) s.size)) (UInt8.ofNat (AC sep 0).toNat) + 1 := by
 have hge := index_ge (bl s) (bl sep)
 by_cases h : indexB s sep = -1
 ·refine .inl ⟨h, ?_, PV h1 h⟩
  have := GD s (UInt8.ofNat (AC sep 0).toNat)
  rw [PV h1 h] at this
  simp at this; exact this
 ·have hge' : -1 ≤ indexB s sep := hge
  obtain ⟨o, ho⟩ : ∃ o : Nat, indexB s sep = o := ⟨(indexB s sep).toNat, by omega⟩
  obtain ⟨a, b⟩ := Ye h1 ho
  refine .inr ⟨o, ho, a, b, ?_⟩
  have q1 := GD s (UInt8.ofNat (AC sep 0).toNat)
  have q2 := GD (s.extract (o + 1) s.size) (UInt8.ofNat (AC sep 0).toNat)
  rw [b, List.length_cons, q2] at q1
  omega
end
def ly : Ct := An (lc A0 (lc A0 l0)) (fun p => p.2.1.size ≤ 2000000 ∧ p.1.size ≤ 2000000) (fun p => .t (.v (.int .i64 (Lib.indexB p.1 p.2.1))))
section
attribute [local go_sem] l8
theorem dV {G : Gt} (hG : Aj G) (hh : G.e 217 = AA 0 l8) : Gd G 200 (AA 0 ly) := by
 refine gr (fn := Tryz.f200) (n := 2) rfl hG ?_
 rintro ⟨s, sub, ⟨⟩⟩ hpre
 simp -implicitDefEqProofs only [Tryz.f200, go_sem, hh, seval] at hpre ⊢
 with_reducible repeat' (first | apply ai | intro _ | ((first | apply s1 | apply s3 | apply s4) <;> intro hb <;> simp -implicitDefEqProofs only [hb, go_sem, hh, seval] <;> try simp only [qz] at hb))
 all_goals first | rfl | omega | skip
end
def lx : Ct := An (lc A0 (lc A0 l0)) (fun p => p.2.1.size = 1 ∧ p.1.size ≤ 2000000) (fun p => .t (.v (.int .i64 (Lib.countByte (bl p.1) (UInt8.ofNat (AC p.2.1 0).toNat)))))
section
attribute [local go_sem] l7
theorem dU {G : Gt} (hG : Aj G) (hh : G.e 216 = AA 3 l7) : Gd G 199 (AA 0 lx) := by
 refine gr (fn := Tryz.f199) (n := 2) rfl hG ?_
 rintro ⟨s, sub, ⟨⟩⟩ hpre
 simp -implicitDefEqProofs only [Tryz.f199, go_sem, hh, seval] at hpre ⊢
 have h1 : (sub.size : Int) = 1 := by omega
 simp -implicitDefEqProofs only [h1, go_sem, hh, seval]
 with_reducible repeat' (first | apply ai | intro _ | ((first | apply s1 | apply s3 | apply s4) <;> intro hb <;> simp -implicitDefEqProofs only [hb, go_sem, hh, seval] <;> try simp only [qz] at hb))
 all_goals first | rfl | omega | skip
end
section
end
def li : Ct := An (lc A0 (lc A0 (lc A6 (lc A6 l0)))) (fun p => p.2.1.size = 1 ∧ p.2.2.1 = 0 ∧ p.2.2.2.1 = -1 ∧ p.1.size ≤ 2000000) (fun p => .o true 1 ((IU p.1 (UInt8.ofNat (AC p.2.1 0).toNat)).map AH))
section
attribute [local go_sem] lx ly BR Ab List.map_replicate
set_option maxHeartbeats 1600000 in
theorem dJ {G : Gt} (hG : Aj G) (hh : G.e 199 = AA 0 lx ∧ G.e 200 = AA 0 ly) : Gd G 177 (AA 0 li) := by
 refine gr (fn := Tryz.f177) (n := 4) rfl hG ?_ (hs := fun _ _ => .deep _ _)
 rintro ⟨s, sep, sv, n, ⟨⟩⟩ hpre
 obtain ⟨h1, h2, h3, h4⟩ := hpre
 dsimp only at h1 h2 h3 h4
 subst h2 h3
 have hse : ¬ sep = ⟨#[]⟩ := by intro e; rw [e] at h1; cases h1
 have hc := Vn s (UInt8.ofNat (AC sep 0).toNat)
 have hl := GD s (UInt8.ofNat (AC sep 0).toNat)
 have hmin : ¬ ((s.size : Int) + 1 < (Lib.countByte (bl s) (UInt8.ofNat (AC sep 0).toNat) : Int) + 1) := by omega
 simp -implicitDefEqProofs only [Tryz.f177, hse, if_neg hmin, go_sem, hh, seval]
 with_reducible repeat' (first | apply ai | intro _ | ((first | apply s1 | apply s3 | apply s4) <;> intro hb <;> simp -implicitDefEqProofs only [hb, go_sem, hh, seval] <;> try simp only [qz] at hb))
 all_goals (try simp only [maxLen, tn] at *)
 all_goals first | rfl | omega | skip
 refine AF [] (ι := {z : List ByteArray × ByteArray // IU s (UInt8.ofNat (AC sep 0).toNat) = z.1 ++ IU z.2 (UInt8.ofNat (AC sep 0).toNat) ∧ z.2.size ≤ s.size}) (fun z => ⟨[(0, .t (.v (.string z.1.2))), (1, .t (.v (.string sep))), (2, .t (.v (.int .i64 0))), (3, .t (.v (.int .i64 (Lib.countByte (bl s) (UInt8.ofNat (AC sep 0).toNat))))), (9, .h 1031), (10, .t (.v (.int .i64 z.1.1.length)))], [(1031, some (.arr true 1 ((z.1.1 ++ List.replicate (Lib.countByte (bl s) (UInt8.ofNat (AC sep 0).toNat) + 1 - z.1.1.length) (⟨#[]⟩ : ByteArray)).map AH)))]⟩) (fun z => s.size + 1 - z.1.1.length) ⟨([], s), rfl, Nat.le_refl _⟩ rfl ?_ ?_
 ·simp -implicitDefEqProofs only [go_sem, hh, seval]
  try simp
  constructor <;> split <;> omega
 ·rintro ⟨⟨p, t⟩, hz, ht⟩
  dsimp only at hz ht
  have hcl : (IU s (UInt8.ofNat (AC sep 0).toNat)).length = p.length + (IU t (UInt8.ofNat (AC sep 0).toNat)).length := by rw [hz, List.length_append]
  rw [hl, GD] at hcl
  by_cases hlt : (p.length : Int) < Lib.countByte (bl s) (UInt8.ofNat (AC sep 0).toNat)
  ·rcases MC (s := t) h1 with ⟨_, q, _⟩ | ⟨o, q1, q2, q3, q4⟩
   ·omega
   ·have q0 : ¬ (o : Int) < 0 := by omega
    simp -implicitDefEqProofs only [hlt, q1, q0, go_sem, hh, seval]
    obtain ⟨n, hn⟩ : ∃ n, Lib.countByte (bl s) (UInt8.ofNat (AC sep 0).toNat) + 1 - p.length = n + 1 := ⟨Lib.countByte (bl s) (UInt8.ofNat (AC sep 0).toNat) - p.length, by omega⟩
    have hn2 : n = Lib.countByte (bl s) (UInt8.ofNat (AC sep 0).toNat) - p.length := by omega
    have hs1 : ((o : Int) + sep.size).toNat = o + 1 := by omega
    with_reducible repeat' (first | apply ai | intro _ | ((first | apply s1 | apply s3 | apply s4) <;> intro hb <;> simp -implicitDefEqProofs only [hb, go_sem, hh, seval] <;> try simp only [qz] at hb))
    all_goals (try simp only [maxLen, tn, Int.add_zero, hn, iv, lm, List.length_append, List.length_replicate, hs1] at *)
    all_goals first | rfl | omega | skip
    refine ⟨⟨(p ++ [t.extract 0 o], t.extract (o + 1) t.size), ?_, ?_⟩, ?_, ?_⟩
    ·dsimp only; rw [hz, q3, List.append_assoc]; rfl
    ·dsimp only; rw [ByteArray.size_extract]; omega
    ·dsimp only; rw [List.length_append]; simp; omega
    ·have e2 : Lib.countByte (bl s) (UInt8.ofNat (AC sep 0).toNat) + 1 - (p ++ [t.extract 0 o]).length = n := by rw [List.length_append, hn2]; simp
     simp -implicitDefEqProofs only [e2, go_sem, hh, seval]
     try simp
  ·simp -implicitDefEqProofs only [hlt, go_sem, hh, seval]
   rcases MC (s := t) h1 with ⟨_, _, q⟩ | ⟨o, q1, q2, q3, q4⟩
   ·have hn : Lib.countByte (bl s) (UInt8.ofNat (AC sep 0).toNat) + 1 - p.length = 0 + 1 := by omega
    rw [q] at hz
    with_reducible repeat' (first | apply ai | intro _ | ((first | apply s1 | apply s3 | apply s4) <;> intro hb <;> simp -implicitDefEqProofs only [hb, go_sem, hh, seval] <;> try simp only [qz] at hb))
    all_goals (try simp only [maxLen, tn, Int.add_zero, hn, iv, lm, List.length_append, List.length_replicate] at *)
    all_goals first | rfl | omega | (simp; done) | skip
    ·rw [hz, List.replicate_zero, List.append_nil, List.take_of_length_le]
     try simp
   ·omega
end
def bx (l : List Bool) : List AV := l.map fun b => .t (.v (.bool b))
def QB (l : List Bool) : List T := l.map fun b => .v (.bool b)
def kq : List T → Option (List Bool)
 | [] => some []
 | .v (.bool b) :: r => (kq r).map (b :: ·)
 | _ => none
theorem QA : ∀ l, kq (QB l) = some l
 | [] => rfl
 | b :: l => by show (kq (QB l)).map (b :: ·) = _; rw [QA l]; rfl
theorem VL : ∀ {c l}, kq c = some l → QB l = c
 | [], _, h => by cases h; rfl
 | x :: c, l, h => by
   unfold kq at h
   split at h
   ·rename_i e; cases e
   ·rename_i e
    cases e
    cases hq : kq c with
    | none => rw [hq] at h; cases h
    | some l' => rw [hq] at h; cases h; rw [← VL hq]; rfl
   ·cases h
def yj : AV → Option (List Bool)
 | .t (.rop c) => kq c
 | _ => none
def sR : AD (List Bool) where
 enc l := .t (.rop (QB l))
 dec := yj
 ed := fun l => QA l
 de := fun x l h => by
  unfold yj at h
  split at h
  ·rw [← VL h]
  ·cases h
theorem JD {l : List Bool} : sR.dec (.t (.rop (QB l))) = some l := QA l
theorem JE {l : List Bool} : sR.enc l = .t (.rop (QB l)) := rfl
theorem J4 {l : List Bool} : (bx l).length = l.length := by simp [bx]
theorem Rx {l : List Bool} : (QB l).length = l.length := by simp [QB]
def gi : List Value := List.replicate 256 (.bool false)
def VJ : List Bool := List.replicate 256 false
theorem Yv : AI Tryz.prog 199 = some ⟨.arr 256 4, 256, 256, gi⟩ := vn
theorem R3 : gi.map DV = bx VJ := by simp [bx, gi, VJ]; rfl
theorem Ry : gi.all CP = true := by decide
theorem OI : VJ.length = 256 := rfl
theorem OM : List.drop 256 (bx VJ) = [] := rfl
theorem kr {l : List Bool} {k : Nat} {b : Bool} (h : k < l.length) : (bx l).take k ++ AV.t (.v (.bool b)) :: (bx l).drop (k + 1) = bx (l.set k b) := by
 unfold bx
 rw [List.set_eq_take_append_cons_drop, if_pos h]
 try simp
theorem al {l : List Bool} {n : Nat} (h : l.length = n) : (bx l).take n = bx l := List.take_of_length_le (by rw [J4]; omega)
theorem R2 {s : AS} {n : Nat} : ∀ {l : List Bool}, BE (s.snapT (n + 1)) (bx l) = some (QB l)
 | [] => rfl
 | b :: l => by
   have h := R2 (s := s) (n := n) (l := l)
   unfold bx QB at h ⊢
   simp only [List.map_cons, BE, h, AS.snapT]
theorem ak {l : List Bool} {k : Nat} (h : k < l.length) : (QB l).drop k = T.v (.bool (l.getD k false)) :: (QB l).drop (k + 1) := by
 rw [List.drop_eq_getElem_cons (by rw [Rx]; exact h)]
 congr 1
 simp [QB, h]
theorem R0 {s : AS} : ∀ {l : List Bool}, EC s (bx l) (bx l)
 | [] => trivial
 | b :: l => ⟨by simp only [FF, PG], R0⟩
theorem Rz {s : AS} : ∀ {l : List Bool}, B3 s (bx l) (bx l) = []
 | [] => rfl
 | b :: l => by show Da s (.t (.v (.bool b))) (.t (.v (.bool b))) ++ B3 s (bx l) (bx l) = []; rw [Rz]; rfl
theorem R1 {s : AS} : ∀ {l : List Bool}, CR s (bx l) (bx l) = []
 | [] => rfl
 | b :: l => by show Dq s (.t (.v (.bool b))) (.t (.v (.bool b))) ++ CR s (bx l) (bx l) = []; rw [R1]; rfl
theorem Lo {d k : Nat} {s : AS} : ∀ {l : List Bool}, AX d k (bx l) s = ⟨bx l, s, k⟩
 | [] => rfl
 | b :: l => by
   show yd.mk (AV.t (.v (.bool b)) :: (AX d k (bx l) s).avs) (AX d k (bx l) s).s (AX d k (bx l) s).k = _
   rw [Lo]; rfl
theorem VM {k : Nat} : ∀ {l : List Bool}, AV.hasL k (bx l) = false
 | [] => rfl
 | b :: l => by show (false || AV.hasL k (bx l)) = false; rw [VM]; rfl
theorem ON {k : Nat} : ∀ {l : List Bool}, (bx l).map (AV.drop k) = bx l
 | [] => rfl
 | b :: l => by show AV.t (.v (.bool b)) :: (bx l).map (AV.drop k) = _; rw [ON]; rfl
def GP (cs : ByteArray) : Nat → List Bool
 | 0 => VJ
 | n + 1 => (GP cs n).set (AC cs n).toNat true
theorem Ku (cs : ByteArray) : ∀ n, (GP cs n).length = 256
 | 0 => rfl
 | n + 1 => by rw [GP, List.length_set]; exact Ku cs n
def Je (l : List Bool) (s : ByteArray) : ByteArray :=
 if h : s.size = 0 then s else bif l.getD (AC s (s.size - 1)).toNat false then Je l (s.extract 0 (s.size - 1)) else s
termination_by s.size
decreasing_by rw [ByteArray.size_extract]; omega
def Nr (l : List Bool) (s : ByteArray) : ByteArray :=
 if h : s.size = 0 then s else bif l.getD (AC s 0).toNat false then Nr l (s.extract 1 s.size) else s
termination_by s.size
decreasing_by rw [ByteArray.size_extract]; omega
theorem S7 {l : List Bool} : Je l ⟨#[]⟩ = ⟨#[]⟩ := by rw [Je]; exact dif_pos rfl
theorem S4 {l : List Bool} : Nr l ⟨#[]⟩ = ⟨#[]⟩ := by rw [Nr]; exact dif_pos rfl
theorem Yq (l : List Bool) (s : ByteArray) : (Je l s).size ≤ s.size := by
 rw [Je]
 split
 ·exact Nat.le_refl _
 ·cases l.getD (AC s (s.size - 1)).toNat false
  ·exact Nat.le_refl _
  ·have := Yq l (s.extract 0 (s.size - 1))
   rw [ByteArray.size_extract] at this
   show (Je l (s.extract 0 (s.size - 1))).size ≤ _
   omega
termination_by s.size
decreasing_by rw [ByteArray.size_extract]; omega
def Vb : Ct := An (lc sR (lc jl l0)) (fun p => p.1.length = 256 ∧ 0 ≤ p.2.1 ∧ p.2.1 < 256) (fun p => .t (.v (.bool (p.1.getD p.2.1.toNat false))))
section
attribute [local go_sem] Yv JD JE Rx
theorem dW {G : Gt} (hG : Aj G) : Gd G 201 (AA 0 Vb) := by
 refine gr (fn := Tryz.f201) (n := 2) rfl hG ?_
 rintro ⟨l, c, ⟨⟩⟩ hpre
 simp -implicitDefEqProofs only [Tryz.f201, go_sem, Nat.reduceAdd, Nat.reduceMul, Nat.reduceLeDiff, Nat.reduceEqDiff, reduceCtorEq, Nat.reduceSub, Int.reduceNeg, Nat.reduceMod, Nat.reduceBEq, Nat.reduceLT] at hpre ⊢
 have hk : c.toNat < l.length := by omega
 simp -implicitDefEqProofs only [ak hk, Nat.mul_one, hpre.1, go_sem, Nat.reduceAdd, Nat.reduceMul, Nat.reduceLeDiff, Nat.reduceEqDiff, reduceCtorEq, Nat.reduceSub, Int.reduceNeg, Nat.reduceMod, Nat.reduceBEq, Nat.reduceLT]
 with_reducible repeat' (first | apply ai | intro _ | ((first | apply s1 | apply s3 | apply s4) <;> intro hb <;> simp -implicitDefEqProofs only [hb, go_sem, Nat.reduceAdd, Nat.reduceMul, Nat.reduceLeDiff, Nat.reduceEqDiff, reduceCtorEq, Nat.reduceSub, Int.reduceNeg, Nat.reduceMod, Nat.reduceBEq, Nat.reduceLT] <;> try simp only [qz] at hb))
 all_goals first | rfl | omega | skip
 all_goals trace_state
end
def lp : Ct := An (lc A0 (lc sR l0)) (fun p => p.2.1.length = 256 ∧ p.1.size ≤ 2000000) (fun p => .t (.v (.string (Je p.2.1 p.1))))
section
attribute [local go_sem] Vb JD JE Bool.not_true Bool.not_false
theorem dM {G : Gt} (hG : Aj G) (hh : G.e 201 = AA 0 Vb) : Gd G 182 (AA 0 lp) := by
 refine gr (fn := Tryz.f182) (n := 2) rfl hG ?_
 rintro ⟨s, l, ⟨⟩⟩ hpre
 simp -implicitDefEqProofs only [Tryz.f182, go_sem, hh, Nat.reduceAdd, Nat.reduceMul, Nat.reduceLeDiff, Nat.reduceEqDiff, reduceCtorEq, Nat.reduceSub, Int.reduceNeg, Nat.reduceMod, Nat.reduceBEq, Nat.reduceLT] at hpre ⊢
 refine AF [] (ι := {t : ByteArray // Je l t = Je l s ∧ t.size ≤ s.size}) (fun p => ⟨[(0, .t (.v (.string p.1))), (1, .t (.rop (QB l)))], []⟩) (fun p => p.1.size) ⟨s, rfl, Nat.le_refl _⟩ rfl ?_ ?_
 ·simp -implicitDefEqProofs only [go_sem, hh, Nat.reduceAdd, Nat.reduceMul, Nat.reduceLeDiff, Nat.reduceEqDiff, reduceCtorEq, Nat.reduceSub, Int.reduceNeg, Nat.reduceMod, Nat.reduceBEq, Nat.reduceLT]
  try simp
 ·rintro ⟨t, ht, hts⟩
  by_cases h0 : t.size = 0
  ·have h1 : (t.size : Int) = 0 := by omega
   simp -implicitDefEqProofs only [h1, go_sem, hh, Nat.reduceAdd, Nat.reduceMul, Nat.reduceLeDiff, Nat.reduceEqDiff, reduceCtorEq, Nat.reduceSub, Int.reduceNeg, Nat.reduceMod, Nat.reduceBEq, Nat.reduceLT]
   with_reducible repeat' (first | apply ai | intro _ | ((first | apply s1 | apply s3 | apply s4) <;> intro hb <;> simp -implicitDefEqProofs only [hb, go_sem, hh, Nat.reduceAdd, Nat.reduceMul, Nat.reduceLeDiff, Nat.reduceEqDiff, reduceCtorEq, Nat.reduceSub, Int.reduceNeg, Nat.reduceMod, Nat.reduceBEq, Nat.reduceLT] <;> try simp only [qz] at hb))
   all_goals first | rfl | omega | skip
   rw [← ht, Je, dif_pos h0]
  ·have h1 : (t.size : Int) > 0 := by omega
   have hbr := BA t (t.size - 1)
   have hr : Je l t = bif l.getD (AC t (t.size - 1)).toNat false then Je l (t.extract 0 (t.size - 1)) else t := by
    rw [Je, dif_neg h0]
   have e1 : ((t.size : Int) - 1).toNat = (t.size - 1) := by omega
   cases hb : l.getD (AC t (((t.size : Int) - 1).toNat)).toNat false
   ·simp -implicitDefEqProofs only [h1, hb, go_sem, hh, Nat.reduceAdd, Nat.reduceMul, Nat.reduceLeDiff, Nat.reduceEqDiff, reduceCtorEq, Nat.reduceSub, Int.reduceNeg, Nat.reduceMod, Nat.reduceBEq, Nat.reduceLT]
    with_reducible repeat' (first | apply ai | intro _ | ((first | apply s1 | apply s3 | apply s4) <;> intro hb <;> simp -implicitDefEqProofs only [hb, go_sem, hh, Nat.reduceAdd, Nat.reduceMul, Nat.reduceLeDiff, Nat.reduceEqDiff, reduceCtorEq, Nat.reduceSub, Int.reduceNeg, Nat.reduceMod, Nat.reduceBEq, Nat.reduceLT] <;> try simp only [qz] at hb))
    all_goals first | rfl | omega | skip
    all_goals rw [e1] at *
    all_goals first | omega | (rw [← ht, hr, hb]; rfl)
   ·simp -implicitDefEqProofs only [h1, hb, go_sem, hh, Nat.reduceAdd, Nat.reduceMul, Nat.reduceLeDiff, Nat.reduceEqDiff, reduceCtorEq, Nat.reduceSub, Int.reduceNeg, Nat.reduceMod, Nat.reduceBEq, Nat.reduceLT]
    with_reducible repeat' (first | apply ai | intro _ | ((first | apply s1 | apply s3 | apply s4) <;> intro hb <;> simp -implicitDefEqProofs only [hb, go_sem, hh, Nat.reduceAdd, Nat.reduceMul, Nat.reduceLeDiff, Nat.reduceEqDiff, reduceCtorEq, Nat.reduceSub, Int.reduceNeg, Nat.reduceMod, Nat.reduceBEq, Nat.reduceLT] <;> try simp only [qz] at hb))
    all_goals first | rfl | omega | skip
    all_goals rw [e1] at *
    all_goals first | omega | skip
    refine ⟨⟨t.extract 0 (t.size - 1), ?_, ?_⟩, ?_, ?_⟩
    ·rw [← ht, hr, hb]; rfl
    ·rw [ByteArray.size_extract]; omega
    ·show (t.extract 0 (t.size - 1)).size < t.size
     rw [ByteArray.size_extract]; omega
    ·simp -implicitDefEqProofs only [go_sem, hh, Nat.reduceAdd, Nat.reduceMul, Nat.reduceLeDiff, Nat.reduceEqDiff, reduceCtorEq, Nat.reduceSub, Int.reduceNeg, Nat.reduceMod, Nat.reduceBEq, Nat.reduceLT]
     try simp [e1]
end
def ln : Ct := An (lc A0 (lc sR l0)) (fun p => p.2.1.length = 256 ∧ p.1.size ≤ 2000000) (fun p => .t (.v (.string (Nr p.2.1 p.1))))
section
attribute [local go_sem] Vb JD JE Bool.not_true Bool.not_false
theorem dL {G : Gt} (hG : Aj G) (hh : G.e 201 = AA 0 Vb) : Gd G 181 (AA 0 ln) := by
 refine gr (fn := Tryz.f181) (n := 2) rfl hG ?_
 rintro ⟨s, l, ⟨⟩⟩ hpre
 simp -implicitDefEqProofs only [Tryz.f181, go_sem, hh, Nat.reduceAdd, Nat.reduceMul, Nat.reduceLeDiff, Nat.reduceEqDiff, reduceCtorEq, Nat.reduceSub, Int.reduceNeg, Nat.reduceMod, Nat.reduceBEq, Nat.reduceLT] at hpre ⊢
 refine AF [] (ι := {t : ByteArray // Nr l t = Nr l s ∧ t.size ≤ s.size}) (fun p => ⟨[(0, .t (.v (.string p.1))), (1, .t (.rop (QB l)))], []⟩) (fun p => p.1.size) ⟨s, rfl, Nat.le_refl _⟩ rfl ?_ ?_
 ·simp -implicitDefEqProofs only [go_sem, hh, Nat.reduceAdd, Nat.reduceMul, Nat.reduceLeDiff, Nat.reduceEqDiff, reduceCtorEq, Nat.reduceSub, Int.reduceNeg, Nat.reduceMod, Nat.reduceBEq, Nat.reduceLT]
  try simp
 ·rintro ⟨t, ht, hts⟩
  by_cases h0 : t.size = 0
  ·have h1 : (t.size : Int) = 0 := by omega
   simp -implicitDefEqProofs only [h1, go_sem, hh, Nat.reduceAdd, Nat.reduceMul, Nat.reduceLeDiff, Nat.reduceEqDiff, reduceCtorEq, Nat.reduceSub, Int.reduceNeg, Nat.reduceMod, Nat.reduceBEq, Nat.reduceLT]
   with_reducible repeat' (first | apply ai | intro _ | ((first | apply s1 | apply s3 | apply s4) <;> intro hb <;> simp -implicitDefEqProofs only [hb, go_sem, hh, Nat.reduceAdd, Nat.reduceMul, Nat.reduceLeDiff, Nat.reduceEqDiff, reduceCtorEq, Nat.reduceSub, Int.reduceNeg, Nat.reduceMod, Nat.reduceBEq, Nat.reduceLT] <;> try simp only [qz] at hb))
   all_goals first | rfl | omega | skip
   rw [← ht, Nr, dif_pos h0]
  ·have h1 : (t.size : Int) > 0 := by omega
   have hbr := BA t 0
   have hr : Nr l t = bif l.getD (AC t 0).toNat false then Nr l (t.extract 1 t.size) else t := by
    rw [Nr, dif_neg h0]
   have e1 : Int.toNat 0 = 0 := by omega
   cases hb : l.getD (AC t (Int.toNat 0)).toNat false
   ·simp -implicitDefEqProofs only [h1, hb, go_sem, hh, Nat.reduceAdd, Nat.reduceMul, Nat.reduceLeDiff, Nat.reduceEqDiff, reduceCtorEq, Nat.reduceSub, Int.reduceNeg, Nat.reduceMod, Nat.reduceBEq, Nat.reduceLT]
    with_reducible repeat' (first | apply ai | intro _ | ((first | apply s1 | apply s3 | apply s4) <;> intro hb <;> simp -implicitDefEqProofs only [hb, go_sem, hh, Nat.reduceAdd, Nat.reduceMul, Nat.reduceLeDiff, Nat.reduceEqDiff, reduceCtorEq, Nat.reduceSub, Int.reduceNeg, Nat.reduceMod, Nat.reduceBEq, Nat.reduceLT] <;> try simp only [qz] at hb))
    all_goals first | rfl | omega | skip
    all_goals rw [e1] at *
    all_goals first | omega | (rw [← ht, hr, hb]; rfl)
   ·simp -implicitDefEqProofs only [h1, hb, go_sem, hh, Nat.reduceAdd, Nat.reduceMul, Nat.reduceLeDiff, Nat.reduceEqDiff, reduceCtorEq, Nat.reduceSub, Int.reduceNeg, Nat.reduceMod, Nat.reduceBEq, Nat.reduceLT]
    with_reducible repeat' (first | apply ai | intro _ | ((first | apply s1 | apply s3 | apply s4) <;> intro hb <;> simp -implicitDefEqProofs only [hb, go_sem, hh, Nat.reduceAdd, Nat.reduceMul, Nat.reduceLeDiff, Nat.reduceEqDiff, reduceCtorEq, Nat.reduceSub, Int.reduceNeg, Nat.reduceMod, Nat.reduceBEq, Nat.reduceLT] <;> try simp only [qz] at hb))
    all_goals first | rfl | omega | skip
    all_goals rw [e1] at *
    all_goals first | omega | skip
    refine ⟨⟨t.extract 1 t.size, ?_, ?_⟩, ?_, ?_⟩
    ·rw [← ht, hr, hb]; rfl
    ·rw [ByteArray.size_extract]; omega
    ·show (t.extract 1 t.size).size < t.size
     rw [ByteArray.size_extract]; omega
    ·simp -implicitDefEqProofs only [go_sem, hh, Nat.reduceAdd, Nat.reduceMul, Nat.reduceLeDiff, Nat.reduceEqDiff, reduceCtorEq, Nat.reduceSub, Int.reduceNeg, Nat.reduceMod, Nat.reduceBEq, Nat.reduceLT]
     try simp [e1]
end
def lj : Ct := An (lc A0 l0) (fun p => p.1.size ≤ 1000 ∧ ∀ j, j < p.1.size → AC p.1 j < 128) (fun p => .tup [.agg (bx (GP p.1 p.1.size)), .t (.v (.bool true))])
section
attribute [local go_sem] Yv R3 Ry
theorem dK {G : Gt} (hG : Aj G) : Gd G 180 (AA 0 lj) := by
 refine gr (fn := Tryz.f180) (n := 1) rfl hG ?_ (hs := fun _ _ => .tup _ (by intro c hc; simp only [List.mem_cons, List.not_mem_nil, or_false] at hc; rcases hc with rfl | rfl <;> first | exact .v _ | exact .agg _ (by intro c hc; simp only [bx, List.mem_map] at hc; obtain ⟨b, _, rfl⟩ := hc; exact .v _)))
 rintro ⟨cs, ⟨⟩⟩ hpre
 simp -implicitDefEqProofs only [Tryz.f180, go_sem, Nat.reduceAdd, Nat.reduceMul, Nat.reduceLeDiff, Nat.reduceEqDiff, reduceCtorEq, Nat.reduceSub, Int.reduceNeg, Nat.reduceMod, Nat.reduceBEq, Nat.reduceLT] at hpre ⊢
 with_reducible repeat' (first | apply ai | intro _ | ((first | apply s1 | apply s3 | apply s4) <;> intro hb <;> simp -implicitDefEqProofs only [hb, go_sem, Nat.reduceAdd, Nat.reduceMul, Nat.reduceLeDiff, Nat.reduceEqDiff, reduceCtorEq, Nat.reduceSub, Int.reduceNeg, Nat.reduceMod, Nat.reduceBEq, Nat.reduceLT] <;> try simp only [qz] at hb))
 all_goals first | rfl | omega | skip
 refine AF [] (ι := {i : Nat // i ≤ cs.size}) (fun p => ⟨[(0, .t (.v (.string cs))), (2, .pb 1002 0), (4, .t (.v (.int .i64 p.1)))], [(1002, some (.box (bx (GP cs p.1))))]⟩) (fun p => cs.size - p.1) ⟨0, Nat.zero_le _⟩ rfl ?_ ?_
 ·simp -implicitDefEqProofs only [go_sem, Nat.reduceAdd, Nat.reduceMul, Nat.reduceLeDiff, Nat.reduceEqDiff, reduceCtorEq, Nat.reduceSub, Int.reduceNeg, Nat.reduceMod, Nat.reduceBEq, Nat.reduceLT]
  exact ⟨rfl, rfl⟩
 ·rintro ⟨i, hi⟩
  have hbr := BA cs i
  have hlen := Ku cs i
  by_cases hlt : (i : Int) < cs.size
  ·have h128 := hpre.2 i (by omega)
   have h1 : ¬ AC cs (i : Int).toNat ≥ 128 := by rw [tn]; omega
   have h2 : (AC cs (i : Int).toNat).toNat * 1 < (GP cs i).length := by rw [tn]; omega
   simp -implicitDefEqProofs only [hlt, h1, Nat.zero_add, go_sem, Nat.reduceAdd, Nat.reduceMul, Nat.reduceLeDiff, Nat.reduceEqDiff, reduceCtorEq, Nat.reduceSub, Int.reduceNeg, Nat.reduceMod, Nat.reduceBEq, Nat.reduceLT]
   with_reducible repeat' (first | apply ai | intro _ | ((first | apply s1 | apply s3 | apply s4) <;> intro hb <;> simp -implicitDefEqProofs only [hb, go_sem, Nat.reduceAdd, Nat.reduceMul, Nat.reduceLeDiff, Nat.reduceEqDiff, reduceCtorEq, Nat.reduceSub, Int.reduceNeg, Nat.reduceMod, Nat.reduceBEq, Nat.reduceLT] <;> try simp only [qz] at hb))
   all_goals (try rw [tn])
   all_goals first | rfl | omega | (simp only [J4, hlen]; omega) | skip
   refine ⟨⟨i + 1, by omega⟩, by dsimp only; omega, ?_⟩
   simp -implicitDefEqProofs only [go_sem, Nat.reduceAdd, Nat.reduceMul, Nat.reduceLeDiff, Nat.reduceEqDiff, reduceCtorEq, Nat.reduceSub, Int.reduceNeg, Nat.reduceMod, Nat.reduceBEq, Nat.reduceLT]
   refine ⟨by simp, ?_⟩
   refine congrArg Ob.box ?_
   rw [GP]
   simp only [tn, Nat.mul_one]
   exact kr (by omega)
  ·have e1 : i = cs.size := by omega
   have e2 : List.drop 256 (bx (GP cs i)) = [] := List.drop_eq_nil_of_le (by rw [J4, hlen]; exact Nat.le_refl _)
   have e3 : decide (256 ≤ 256) = true := rfl
   simp -implicitDefEqProofs only [hlt, al hlen, J4, hlen, e2, List.append_nil, Nat.zero_add, e3, cond_true, go_sem, Nat.reduceAdd, Nat.reduceMul, Nat.reduceLeDiff, Nat.reduceEqDiff, reduceCtorEq, Nat.reduceSub, Int.reduceNeg, Nat.reduceMod, Nat.reduceBEq, Nat.reduceLT]
   subst e1
   with_reducible repeat' (first | apply ai | intro _ | ((first | apply s1 | apply s3 | apply s4) <;> intro hb <;> simp -implicitDefEqProofs only [hb, go_sem, Nat.reduceAdd, Nat.reduceMul, Nat.reduceLeDiff, Nat.reduceEqDiff, reduceCtorEq, Nat.reduceSub, Int.reduceNeg, Nat.reduceMod, Nat.reduceBEq, Nat.reduceLT] <;> try simp only [qz] at hb))
   all_goals first
    | rfl
    | omega
    | exact R0
    | (rw [Rz]; exact .nil)
    | (rw [R1]; simp; done)
    | skip
   all_goals trace_state
end
def lS : Ct := An (lc A0 (lc A0 l0)) (fun p => p.2.1.size ≤ 1000 ∧ 2 ≤ p.2.1.size ∧ p.1.size ≤ 2000000 ∧ ∀ j, j < p.2.1.size → AC p.2.1 j < 128) (fun p => .t (.v (.string (Nr (GP p.2.1 p.2.1.size) (Je (GP p.2.1 p.2.1.size) p.1)))))
section
attribute [local go_sem] lj ln lp Yv R3 Ry OM OI JD JE
theorem cq {G : Gt} (hG : Aj G) (hh : G.e 180 = AA 0 lj ∧ G.e 181 = AA 0 ln ∧ G.e 182 = AA 0 lp) : Gd G 154 (AA 0 lS) := by
 refine gr (fn := Tryz.f154) (n := 2) rfl hG ?_
 rintro ⟨s, cs, ⟨⟩⟩ hpre
 simp -implicitDefEqProofs only [Tryz.f154, go_sem, hh, Nat.reduceAdd, Nat.reduceMul, Nat.reduceLeDiff, Nat.reduceEqDiff, reduceCtorEq, Nat.reduceSub, Int.reduceNeg, Nat.reduceMod, Nat.reduceBEq, Nat.reduceLT] at hpre ⊢
 have hc : ¬ cs = ⟨#[]⟩ := by intro e; rw [e] at hpre; exact absurd hpre.2.1 (by decide)
 have h1 : ¬ (cs.size : Int) = 1 := by omega
 have hlen := Ku cs cs.size
 have htr : (Je (GP cs cs.size) s).size ≤ s.size := Yq _ s
 by_cases hs : s = ⟨#[]⟩
 ·simp -implicitDefEqProofs only [hs, go_sem, hh, Nat.reduceAdd, Nat.reduceMul, Nat.reduceLeDiff, Nat.reduceEqDiff, reduceCtorEq, Nat.reduceSub, Int.reduceNeg, Nat.reduceMod, Nat.reduceBEq, Nat.reduceLT]
  with_reducible repeat' (first | apply ai | intro _ | ((first | apply s1 | apply s3 | apply s4) <;> intro hb <;> simp -implicitDefEqProofs only [hb, go_sem, hh, Nat.reduceAdd, Nat.reduceMul, Nat.reduceLeDiff, Nat.reduceEqDiff, reduceCtorEq, Nat.reduceSub, Int.reduceNeg, Nat.reduceMod, Nat.reduceBEq, Nat.reduceLT] <;> try simp only [qz] at hb))
  all_goals first | rfl | omega | skip
  all_goals (rw [S7, S4])
 ·simp -implicitDefEqProofs only [hs, hc, h1, Lo, VM, ON, J4, hlen, OI, OM, R2, List.append_nil, List.nil_append, Nat.zero_add, go_sem, hh, Nat.reduceAdd, Nat.reduceMul, Nat.reduceLeDiff, Nat.reduceEqDiff, reduceCtorEq, Nat.reduceSub, Int.reduceNeg, Nat.reduceMod, Nat.reduceBEq, Nat.reduceLT]
  with_reducible repeat' (first | apply ai | intro _ | ((first | apply s1 | apply s3 | apply s4) <;> intro hb <;> simp -implicitDefEqProofs only [hb, go_sem, hh, Nat.reduceAdd, Nat.reduceMul, Nat.reduceLeDiff, Nat.reduceEqDiff, reduceCtorEq, Nat.reduceSub, Int.reduceNeg, Nat.reduceMod, Nat.reduceBEq, Nat.reduceLT] <;> try simp only [qz] at hb))
  all_goals first | rfl | omega | exact hpre.2.2.2 | exact hpre.2.2.2 _ (by assumption) | skip
  all_goals trace_state
end
theorem jT {s : ByteArray} (h : s.size = 0) : s = ⟨#[]⟩ := by
 have : bl s = [] := List.eq_nil_of_length_eq_zero (by rw [CJ]; exact h)
 exact Gg this
theorem Gh {s : ByteArray} {a b j : Nat} (h : a + j < b) : AC (s.extract a b) j = AC s (a + j) := by
 rw [CE, CE, Di]
 congr 2
 simp only [List.getD_eq_getElem?_getD]
 rw [List.getElem?_take_of_lt (by omega), List.getElem?_drop]
section
variable {l : List Bool}
theorem Yr {s : ByteArray} (h : s.size ≠ 0) : Je l s = bif l.getD (AC s (s.size - 1)).toNat false then Je l (s.extract 0 (s.size - 1)) else s := by rw [Je, dif_neg h]
theorem rq {s : ByteArray} (h : s.size ≠ 0) : Nr l s = bif l.getD (AC s 0).toNat false then Nr l (s.extract 1 s.size) else s := by rw [Nr, dif_neg h]
theorem S5 {s : ByteArray} (h : ∀ j, j < s.size → l.getD (AC s j).toNat false = true) : Je l s = ⟨#[]⟩ := by
 by_cases h0 : s.size = 0
 ·rw [jT h0, S7]
 ·rw [Yr h0, h (s.size - 1) (by omega), cond_true]
  refine S5 fun j hj => ?_
  rw [ByteArray.size_extract] at hj
  rw [Gh (by omega), Nat.zero_add]
  exact h j (by omega)
termination_by s.size
decreasing_by rw [ByteArray.size_extract]; omega
theorem S3 {s : ByteArray} (h : Nr l s = ⟨#[]⟩) : ∀ j, j < s.size → l.getD (AC s j).toNat false = true := by
 intro j hj
 have h0 : s.size ≠ 0 := by omega
 rw [rq h0] at h
 cases hb : l.getD (AC s 0).toNat false
 ·rw [hb, cond_false] at h
  rw [h] at hj
  cases hj
 ·rw [hb, cond_true] at h
  by_cases hj0 : j = 0
  ·rw [hj0]; exact hb
  ·have := S3 h (j - 1) (by rw [ByteArray.size_extract]; omega)
   rw [Gh (by omega)] at this
   rw [show 1 + (j - 1) = j by omega] at this
   exact this
termination_by s.size
decreasing_by rw [ByteArray.size_extract]; omega
theorem S6 {s : ByteArray} (h : ∀ j, j < (Je l s).size → l.getD (AC (Je l s) j).toNat false = true) : ∀ j, j < s.size → l.getD (AC s j).toNat false = true := by
 intro j hj
 have h0 : s.size ≠ 0 := by omega
 rw [Yr h0] at h
 cases hb : l.getD (AC s (s.size - 1)).toNat false
 ·rw [hb, cond_false] at h
  exact h j hj
 ·rw [hb, cond_true] at h
  by_cases hj0 : j = s.size - 1
  ·rw [hj0]; exact hb
  ·have := S6 h j (by rw [ByteArray.size_extract]; omega)
   rw [Gh (by omega), Nat.zero_add] at this
   exact this
termination_by s.size
decreasing_by rw [ByteArray.size_extract]; omega
theorem rr (s : ByteArray) : Nr l (Je l s) = ⟨#[]⟩ ↔ ∀ j, j < s.size → l.getD (AC s j).toNat false = true :=
 ⟨fun h => S6 (S3 h), fun h => by rw [S5 h, S4]⟩
end
def sL : ByteArray := ⟨#[97, 98, 99, 100, 101, 102, 103, 104, 105, 106, 107, 108, 109, 110, 111, 112, 113, 114, 115, 116, 117, 118, 119, 120, 121, 122, 48, 49, 50, 51, 52, 53, 54, 55, 56, 57]⟩
theorem eh : ∀ k : Nat, k < 256 → (GP sL 36).getD k false = ((Nat.ble 97 k && Nat.ble k 122) || (Nat.ble 48 k && Nat.ble k 57)) := by decide +kernel
theorem ej (s : ByteArray) : Nr (GP sL 36) (Je (GP sL 36) s) = ⟨#[]⟩ ↔ ∀ j, j < s.size → KP (AC s j) := by
 rw [rr]
 refine forall_congr' fun j => imp_congr_right fun _ => ?_
 have h := BA s j
 rw [eh _ (by omega)]
 simp only [Bool.or_eq_true, Bool.and_eq_true, Nat.ble_eq]
 unfold KP
 omega
theorem P8 (a b : ByteArray) : bl (a ++ b) = bl a ++ bl b := by
 unfold bl; rw [ByteArray.data_append, Array.toList_append]
theorem xO : UInt8.ofNat (AC ⟨#[46]⟩ 0).toNat = 46 := rfl
theorem en : ∀ j, j < 36 → AC sL j < 128 := by decide +kernel
def lP : Ct := An (lc A0 (lc A0 l0)) (fun p => p.2.1.size = 1 ∧ p.1.size ≤ 2000000) (fun p => .o true 1 ((IU p.1 (UInt8.ofNat (AC p.2.1 0).toNat)).map AH))
section
attribute [local go_sem] li
theorem cm {G : Gt} (hG : Aj G) (hh : G.e 177 = AA 0 li) : Gd G 150 (AA 0 lP) := by
 refine gr (fn := Tryz.f150) (n := 2) rfl hG ?_ (hs := fun _ _ => .deep _ _)
 rintro ⟨s, sep, ⟨⟩⟩ hpre
 simp -implicitDefEqProofs only [Tryz.f150, go_sem, hh, seval] at hpre ⊢
 with_reducible repeat' (first | apply ai | intro _ | ((first | apply s1 | apply s3 | apply s4) <;> intro hb <;> simp -implicitDefEqProofs only [hb, go_sem, hh, seval] <;> try simp only [qz] at hb))
 all_goals first | rfl | omega | (simp; done) | skip
end
def QJ : Ct := An (lc A6 (lc A6 (lc A6 l0))) (fun p => True) (fun p => .t (.v (.bool (BU (p.2.1 ≤ p.1 ∧ p.1 ≤ p.2.2.1)))))
theorem og {G : Gt} (hG : Aj G) : Gd G 27 (AA 0 QJ) := by
 refine gr (fn := Tryz.f27) (n := 3) rfl hG ?_
 rintro ⟨n, a, b, ⟨⟩⟩ hpre
 simp -implicitDefEqProofs only [Tryz.f27, go_sem, seval] at hpre ⊢
 with_reducible repeat' (first | apply ai | intro _ | ((first | apply s1 | apply s3 | apply s4) <;> intro hb <;> simp -implicitDefEqProofs only [hb, go_sem, seval] <;> try simp only [qz] at hb))
 all_goals first | rfl | omega | skip
 all_goals first
  | (rw [A8]; simp only [*]; done)
  | (rw [A8]; simp [*])
def ky : Ct := An (lc A0 l0) (fun p => p.1.size ≤ 2000000) (fun p => .t (.v (.bool (BU (Ia p.1)))))
theorem cE {G : Gt} (hG : Aj G) : Gd G 105 (AA 0 ky) := by
 refine gr (fn := Tryz.f105) (n := 1) rfl hG ?_
 rintro ⟨s, ⟨⟩⟩ hpre
 simp -implicitDefEqProofs only [Tryz.f105, go_sem, seval] at hpre ⊢
 with_reducible repeat' (first | apply ai | intro _ | ((first | apply s1 | apply s3 | apply s4) <;> intro hb <;> simp -implicitDefEqProofs only [hb, go_sem, seval] <;> try simp only [qz] at hb))
 all_goals first | rfl | omega | skip
 refine AF [] (ι := {i : Nat // i ≤ s.size ∧ ∀ j, j < i → 32 ≤ AC s j ∧ AC s j ≤ 126}) (fun p => ⟨[(0, .t (.v (.string s))), (5, .t (.v (.int .i64 s.size))), (6, .t (.v (.int .i64 p.1)))], []⟩) (fun p => s.size - p.1) ⟨0, Nat.zero_le _, fun j hj => absurd hj (Nat.not_lt_zero _)⟩ rfl ?_ ?_
 ·simp -implicitDefEqProofs only [go_sem, seval]
  try simp
 ·rintro ⟨i, hi, hall⟩
  by_cases hlt : (i : Int) < s.size
  ·by_cases h1 : AC s (i : Int).toNat < 32
   ·simp -implicitDefEqProofs only [hlt, h1, go_sem, seval]
    with_reducible repeat' (first | apply ai | intro _ | ((first | apply s1 | apply s3 | apply s4) <;> intro hb <;> simp -implicitDefEqProofs only [hb, go_sem, seval] <;> try simp only [qz] at hb))
    all_goals (try simp only [maxLen, tn] at *)
    all_goals first | rfl | omega | skip
    rw [AO (fun h => by have := (h.1 i (by omega)).1; omega)]
   ·by_cases h2 : AC s (i : Int).toNat > 126
    ·simp -implicitDefEqProofs only [hlt, h1, h2, go_sem, seval]
     with_reducible repeat' (first | apply ai | intro _ | ((first | apply s1 | apply s3 | apply s4) <;> intro hb <;> simp -implicitDefEqProofs only [hb, go_sem, seval] <;> try simp only [qz] at hb))
     all_goals (try simp only [maxLen, tn] at *)
     all_goals first | rfl | omega | skip
     rw [AO (fun h => by have := (h.1 i (by omega)).2; omega)]
    ·simp -implicitDefEqProofs only [hlt, h1, h2, go_sem, seval]
     with_reducible repeat' (first | apply ai | intro _ | ((first | apply s1 | apply s3 | apply s4) <;> intro hb <;> simp -implicitDefEqProofs only [hb, go_sem, seval] <;> try simp only [qz] at hb))
     all_goals (try simp only [maxLen, tn] at *)
     all_goals first | rfl | omega | skip
     refine ⟨⟨i + 1, by omega, fun j hj => ?_⟩, by dsimp only; omega, ?_⟩
     ·by_cases e : j = i
      ·subst e; omega
      ·exact hall j (by omega)
     ·simp -implicitDefEqProofs only [go_sem, seval]
      try simp
  ·simp -implicitDefEqProofs only [hlt, go_sem, seval]
   with_reducible repeat' (first | apply ai | intro _ | ((first | apply s1 | apply s3 | apply s4) <;> intro hb <;> simp -implicitDefEqProofs only [hb, go_sem, seval] <;> try simp only [qz] at hb))
   all_goals (try simp only [maxLen, tn] at *)
   all_goals first | rfl | omega | skip
   rw [← A8, AY]
   exact ⟨fun h => ⟨fun j hj => hall j (by omega), by omega⟩, fun h => by have := h.2; omega⟩
def VQ : Ct := An (lc A0 l0) (fun p => True) (fun p => .t (.v (.bool (BU (Rb p.1)))))
section
attribute [local go_sem] QJ lS Aa AZ
theorem cF {G : Gt} (hG : Aj G) (hh : G.e 27 = AA 0 QJ ∧ G.e 154 = AA 0 lS) : Gd G 106 (AA 0 VQ) := by
 refine gr (fn := Tryz.f106) (n := 1) rfl hG ?_
 rintro ⟨s, ⟨⟩⟩ hpre
 simp -implicitDefEqProofs only [Tryz.f106, go_sem, hh, seval] at hpre ⊢
 with_reducible repeat' (first | apply ai | intro _ | ((first | apply s1 | apply s3 | apply s4) <;> intro hb <;> simp -implicitDefEqProofs only [hb, go_sem, hh, seval] <;> try simp only [qz] at hb))
 all_goals first | rfl | omega | exact en _ (by assumption) | (simp; done) | skip
 ·show T.v (.bool (decide (Nr (GP sL 36) (Je (GP sL 36) s) = ⟨#[]⟩))) = _
  rw [← A8]
  refine congrArg (fun b => T.v (.bool b)) (AY ((ej s).trans ?_))
  exact ⟨fun h => ⟨h, by omega, by omega⟩, fun h => h.1⟩
 ·rw [AO (fun h => hb ⟨by have := h.2.1; omega, by have := h.2.2; omega⟩)]
end
def Vi : Ct := An (lc A0 l0) (fun p => p.1.size ≤ 2000000) (fun p => .t (.v (.bool (BU (D4 p.1)))))
section
attribute [local go_sem] lP VQ xO BR Ab lm Bool.not_true Bool.not_false
theorem p6 {G : Gt} (hG : Aj G) (hh : G.e 150 = AA 0 lP ∧ G.e 106 = AA 0 VQ) : Gd G 98 (AA 0 Vi) := by
 refine gr (fn := Tryz.f98) (n := 1) rfl hG ?_
 rintro ⟨s, ⟨⟩⟩ hpre
 simp -implicitDefEqProofs only [Tryz.f98, go_sem, hh, seval] at hpre ⊢
 with_reducible repeat' (first | apply ai | intro _ | ((first | apply s1 | apply s3 | apply s4) <;> intro hb <;> simp -implicitDefEqProofs only [hb, go_sem, hh, seval] <;> try simp only [qz] at hb))
 all_goals first | rfl | omega | skip
 have hlen := GD s 46
 have hcnt := Vn s 46
 refine AF [] (ι := {i : Nat // i ≤ (IU s 46).length ∧ ∀ j, j < i → Rb ((IU s 46).getD j default)}) (fun p => ⟨[(3, .h 1007), (8, .h 1007), (9, .t (.v (.int .i64 (IU s 46).length))), (10, .t (.v (.int .i64 p.1)))], [(1007, some (.arr true 1 ((IU s 46).map AH)))]⟩) (fun p => (IU s 46).length - p.1) ⟨0, Nat.zero_le _, fun j hj => absurd hj (Nat.not_lt_zero _)⟩ rfl ?_ ?_
 ·simp -implicitDefEqProofs only [go_sem, hh, seval]
  try simp
 ·rintro ⟨i, hi, hall⟩
  by_cases hlt : (i : Int) < (IU s 46).length
  ·cases hb : BU (Rb ((IU s 46).getD (i : Int).toNat default))
   ·simp -implicitDefEqProofs only [hlt, hb, go_sem, hh, seval]
    with_reducible repeat' (first | apply ai | intro _ | ((first | apply s1 | apply s3 | apply s4) <;> intro hb <;> simp -implicitDefEqProofs only [hb, go_sem, hh, seval] <;> try simp only [qz] at hb))
    all_goals (try simp only [maxLen, tn, AZ] at *)
    all_goals first | rfl | omega | skip
    rw [AO (fun h => hb (((JJ s).1 h).1 _ (AE (by omega))))]
   ·simp -implicitDefEqProofs only [hlt, hb, go_sem, hh, seval]
    with_reducible repeat' (first | apply ai | intro _ | ((first | apply s1 | apply s3 | apply s4) <;> intro hb <;> simp -implicitDefEqProofs only [hb, go_sem, hh, seval] <;> try simp only [qz] at hb))
    all_goals (try simp only [maxLen, tn, Aa] at *)
    all_goals first | rfl | omega | skip
    refine ⟨⟨i + 1, by omega, DC hall hb⟩, by dsimp only; omega, ?_⟩
    simp -implicitDefEqProofs only [go_sem, hh, seval]
    try simp
  ·simp -implicitDefEqProofs only [hlt, go_sem, hh, seval]
   with_reducible repeat' (first | apply ai | intro _ | ((first | apply s1 | apply s3 | apply s4) <;> intro hb <;> simp -implicitDefEqProofs only [hb, go_sem, hh, seval] <;> try simp only [qz] at hb))
   all_goals first | rfl | omega | skip
   rw [← A8, AY (JJ s)]
   refine congrArg (fun b => T.v (.bool b)) (AY ?_)
   exact ⟨fun h => ⟨BX fun j hj => hall j (by omega), by omega⟩, fun h => by have := h.2; omega⟩
end
def Vg : Ct := An (lc Ce.ag l0) (fun p => p.1.domain.size ≤ 2000000) (fun p => .t (.v (.bool (BU (BL p.1)))))
section
attribute [local go_sem] VQ Vi
theorem pH {G : Gt} (hG : Aj G) (hh : G.e 106 = AA 0 VQ ∧ G.e 98 = AA 0 Vi) : Gd G 47 (AA 0 Vg) := by
 refine gr (fn := Tryz.f47) (n := 1) rfl hG ?_
 rintro ⟨a, ⟨⟩⟩ hpre
 simp -implicitDefEqProofs only [Tryz.f47, go_sem, hh, seval] at hpre ⊢
 with_reducible repeat' (first | apply ai | intro _ | ((first | apply s1 | apply s3 | apply s4) <;> intro hb <;> simp -implicitDefEqProofs only [hb, go_sem, hh, seval] <;> try simp only [qz] at hb))
 all_goals (try simp only [Aa, AZ] at *)
 all_goals first | rfl | omega | skip
 ·refine congrArg (fun b => T.v (.bool b)) (AY ⟨fun h => ⟨by assumption, h⟩, fun h => h.2⟩)
 ·rw [AO (fun h => absurd h.1 (by assumption))]
end
def QC : Ct := An (lc Ce.ag l0) (fun p => True) (fun p => .t (.v (.bool (BU (AU p.1)))))
theorem cC {G : Gt} (hG : Aj G) : Gd G 103 (AA 0 QC) := by
 refine gr (fn := Tryz.f103) (n := 1) rfl hG ?_
 rintro ⟨a, ⟨⟩⟩ hpre
 simp -implicitDefEqProofs only [Tryz.f103, go_sem, seval] at hpre ⊢
 with_reducible repeat' (first | apply ai | intro _ | ((first | apply s1 | apply s3 | apply s4) <;> intro hb <;> simp -implicitDefEqProofs only [hb, go_sem, seval] <;> try simp only [qz] at hb))
 all_goals first | rfl | omega | skip
 ·unfold AU
  rw [A8]
  by_cases h1 : a.user = ⟨#[]⟩ <;> by_cases h2 : a.domain = ⟨#[]⟩ <;> simp [h1, h2]
def mg : Ct := An (lc Ce.ag l0) (fun p => p.1.domain.size ≤ 2000000) (fun p => .t (.v (.bool (BU (BL p.1 ∨ AU p.1)))))
section
attribute [local go_sem] Vg QC
theorem pF {G : Gt} (hG : Aj G) (hh : G.e 47 = AA 0 Vg ∧ G.e 103 = AA 0 QC) : Gd G 45 (AA 0 mg) := by
 refine gr (fn := Tryz.f45) (n := 1) rfl hG ?_
 rintro ⟨a, ⟨⟩⟩ hpre
 simp -implicitDefEqProofs only [Tryz.f45, go_sem, hh, seval] at hpre ⊢
 with_reducible repeat' (first | apply ai | intro _ | ((first | apply s1 | apply s3 | apply s4) <;> intro hb <;> simp -implicitDefEqProofs only [hb, go_sem, hh, seval] <;> try simp only [qz] at hb))
 all_goals (try simp only [Aa, AZ] at *)
 all_goals first | rfl | omega | skip
 ·rw [Ag (.inr (by assumption))]
 ·refine congrArg (fun b => T.v (.bool b)) (AY ⟨fun h => .inl h, fun h => h.resolve_right (by assumption)⟩)
end
section
attribute [local go_sem] Vi
end
namespace Em
variable {α : Type} (E : Em α)
def apD : AV → Option α
 | .t (.rop c) => E.dec c
 | _ => none
def ap : AD α where
 enc a := .t (.rop (E.enc a))
 dec := E.apD
 ed := fun a => E.ed a
 de := fun x a h => by
  unfold apD at h
  split at h
  ·rw [E.de _ _ h]
  ·cases h
end Em
theorem BO {α : Type} {E : Em α} {a : α} : E.ap.enc a = .t (.rop (E.enc a)) := rfl
theorem BN {α : Type} {E : Em α} {c : List T} : E.ap.dec (.t (.rop c)) = E.dec c := rfl
noncomputable def A4 {α : Type} (p : α → Prop) : Nat → List α → Int
 | _, [] => -1
 | k, x :: t => bif BU (p x) then k else A4 p (k + 1) t
theorem CT {α : Type} [Inhabited α] {p : α → Prop} {xs : List α} {i : Nat} (h : i < xs.length) (ha : p (xs.getD i default)) : A4 p i (xs.drop i) = i := by
 rw [Ac h, A4, Ag ha]; rfl
theorem DM {α : Type} [Inhabited α] {p : α → Prop} {xs : List α} {i : Nat} (h : i < xs.length) (ha : ¬ p (xs.getD i default)) : A4 p i (xs.drop i) = A4 p (i + 1) (xs.drop (i + 1)) := by
 rw [Ac h, A4, AO ha]; rfl
theorem CS {α : Type} {p : α → Prop} {xs : List α} {i : Nat} (h : xs.length ≤ i) : A4 p i (xs.drop i) = -1 := by
 rw [List.drop_eq_nil_of_le h, A4]
theorem D9 {α : Type} {p : α → Prop} : ∀ (xs : List α) (k : Nat), 0 ≤ A4 p k xs ↔ ∃ x ∈ xs, p x
 | [], k => by simp [A4]
 | x :: t, k => by
   rw [A4]
   by_cases h : p x
   ·rw [Ag h, cond_true]
    exact ⟨fun _ => ⟨x, by simp, h⟩, fun _ => by omega⟩
   ·rw [AO h, cond_false, D9 t (k + 1)]
    simp [h]
inductive Pf where
 | wrong
def Pf.enc : Pf → AV
 | .wrong  => .t (.fn 173 [])
def Pf.dec : AV → Option Pf
 | .t (.fn 173 []) => some (.wrong )
 | _ => none
def Pf.sem : Pf → Ad → Prop
 | .wrong , x => ¬ BL x
def Pf.pre : Pf → Ad → Prop
 | .wrong , x => x.domain.size ≤ 2000000
def Y3 : AD Pf where
 enc := Pf.enc
 dec := Pf.dec
 ed := fun f => by cases f <;> rfl
 de := fun x f h => by
  unfold Pf.dec at h
  split at h <;> cases h <;> rfl
theorem G8  : Y3.dec (.t (.fn 173 [])) = some (.wrong ) := rfl
theorem G9  : Y3.enc (.wrong ) = .t (.fn 173 []) := rfl
def la : Ct := An (lc Ce.ag l0) (fun p => p.1.domain.size ≤ 2000000) (fun p => .t (.v (.bool (BU (¬ BL p.1)))))
section
attribute [local go_sem] Vg BO BN Bool.not_true Bool.not_false Bw DH
theorem dF {G : Gt} (hG : Aj G) (hh : G.e 47 = AA 0 Vg) : Gd G 173 (AA 0 la) := by
 refine gr (fn := Tryz.f173) (n := 1) rfl hG ?_
 rintro ⟨x, ⟨⟩⟩ hpre
 simp -implicitDefEqProofs only [Tryz.f173, go_sem, hh, seval] at hpre ⊢
 with_reducible repeat' (first | apply ai | intro _ | ((first | apply s1 | apply s3 | apply s4) <;> intro hb <;> simp -implicitDefEqProofs only [hb, go_sem, hh, seval] <;> try simp only [qz] at hb))
 all_goals first | rfl | omega | exact hpre | skip
 all_goals (try (simp only [DW]; done))
 all_goals first | rfl | (rw [A8]; done) | (rw [A8, decide_eq_decide.2]; simp [BW]; done) | (rw [A8]; simp [BW]; done)
end
def lw : Ct := An (lc Ce.asl (lc Y3 l0)) (fun p => ∀ x ∈ p.1, p.2.1.pre x) (fun p => .t (.v (.int .i64 (A4 p.2.1.sem 0 p.1))))
section
attribute [local go_sem] la BO BN Bool.not_true Bool.not_false Bw DH G8 G9
theorem dT {G : Gt} (hG : Aj G) (hh : G.e 173 = AA 0 la) : Gd G 197 (AA 0 lw) := by
 refine gr (fn := Tryz.f197) (n := 2) rfl hG ?_
 rintro ⟨xs, f, ⟨⟩⟩ hpre
 have hs := hpre
 dsimp only at hs ⊢
 cases f with
 | wrong  =>
   simp -implicitDefEqProofs only [Tryz.f197, go_sem, hh, seval]
   with_reducible repeat' (first | apply ai | intro _ | ((first | apply s1 | apply s3 | apply s4) <;> intro hb <;> simp -implicitDefEqProofs only [hb, go_sem, hh, seval] <;> try simp only [qz] at hb))
   all_goals first | rfl | omega | skip
   refine AF [] (ι := {i : Nat // i ≤ xs.length ∧ A4 (Pf.sem (.wrong )) 0 xs = A4 (Pf.sem (.wrong )) i (xs.drop i)}) (fun p => ⟨[(0, .t (.sl 2 (xs.map At))), (1, .t (.fn 173 [])), (7, .t (.v (.int .i64 xs.length))), (8, .t (.v (.int .i64 p.1)))], []⟩) (fun p => xs.length - p.1) ⟨0, Nat.zero_le _, rfl⟩ rfl ?_ ?_
   ·simp -implicitDefEqProofs only [go_sem, hh, seval]
    try simp
   ·rintro ⟨i, hi, hix⟩
    by_cases hlt : (i : Int) < xs.length
    ·have hm : xs.getD (i : Int).toNat default ∈ xs := AE (by omega)
     have hsz := hs _ hm
     cases hb : BU (¬ BL (xs.getD (i : Int).toNat default))
     ·have hq := hb
      simp -implicitDefEqProofs only [hlt, hq, go_sem, hh, seval]
      with_reducible repeat' (first | apply ai | intro _ | ((first | apply s1 | apply s3 | apply s4) <;> intro hb <;> simp -implicitDefEqProofs only [hb, go_sem, hh, seval] <;> try simp only [qz] at hb))
      all_goals (try simp only [maxLen] at *)
      all_goals first | rfl | omega | with_reducible assumption | exact hsz | exact hsz.1 | exact hsz.2 | exact hsz.2 _ (by assumption) | exact hsz.2.1 | exact hsz.2.2.1 | exact hsz.2.2.2 | trivial | skip
      rw [AZ, tn] at hb
      refine ⟨⟨i + 1, by omega, ?_⟩, by dsimp only; omega, ?_⟩
      ·rw [hix, DM (p := Pf.sem (.wrong )) (by omega) hb]
      ·simp -implicitDefEqProofs only [go_sem, hh, seval]
       try simp
     ·have hq := hb
      simp -implicitDefEqProofs only [hlt, hq, go_sem, hh, seval]
      with_reducible repeat' (first | apply ai | intro _ | ((first | apply s1 | apply s3 | apply s4) <;> intro hb <;> simp -implicitDefEqProofs only [hb, go_sem, hh, seval] <;> try simp only [qz] at hb))
      all_goals (try simp only [maxLen] at *)
      all_goals first | rfl | omega | with_reducible assumption | exact hsz | exact hsz.1 | exact hsz.2 | exact hsz.2 _ (by assumption) | exact hsz.2.1 | exact hsz.2.2.1 | exact hsz.2.2.2 | trivial | skip
      rw [Aa, tn] at hb
      rw [hix, CT (p := Pf.sem (.wrong )) (by omega) hb]
    ·simp -implicitDefEqProofs only [hlt, go_sem, hh, seval]
     with_reducible repeat' (first | apply ai | intro _ | ((first | apply s1 | apply s3 | apply s4) <;> intro hb <;> simp -implicitDefEqProofs only [hb, go_sem, hh, seval] <;> try simp only [qz] at hb))
     all_goals first | rfl | omega | skip
     all_goals (rw [hix, CS (by omega)])
end
def ld : Ct := An (lc Ce.asl (lc Y3 l0)) (fun p => ∀ x ∈ p.1, p.2.1.pre x) (fun p => .t (.v (.bool (BU (∃ x ∈ p.1, p.2.1.sem x)))))
section
attribute [local go_sem] lw BO BN Bool.not_true Bool.not_false Bw DH G8 G9
theorem dG {G : Gt} (hG : Aj G) (hh : G.e 197 = AA 0 lw) : Gd G 174 (AA 0 ld) := by
 refine gr (fn := Tryz.f174) (n := 2) rfl hG ?_
 rintro ⟨xs, f, ⟨⟩⟩ hpre
 dsimp only at hpre ⊢
 cases f
 all_goals
  simp -implicitDefEqProofs only [Tryz.f174, go_sem, hh, seval]
  with_reducible repeat' (first | apply ai | intro _ | ((first | apply s1 | apply s3 | apply s4) <;> intro hb <;> simp -implicitDefEqProofs only [hb, go_sem, hh, seval] <;> try simp only [qz] at hb))
  all_goals first | rfl | omega | exact hpre | exact hpre _ (by assumption) | skip
  all_goals (rw [← AY (D9 _ 0)]; rw [A8])
end
inductive Dy where
 | line
 | dom
def Dy.enc : Dy → AV
 | .line  => .t (.fn 104 [])
 | .dom  => .t (.fn 97 [])
def Dy.dec : AV → Option Dy
 | .t (.fn 104 []) => some (.line )
 | .t (.fn 97 []) => some (.dom )
 | _ => none
def Dy.sem : Dy → ByteArray → Prop
 | .line , x => ¬ Ia x
 | .dom , x => ¬ D4 x
def Dy.pre : Dy → ByteArray → Prop
 | .line , x => x.size ≤ 2000000
 | .dom , x => x.size ≤ 2000000
def LY : AD Dy where
 enc := Dy.enc
 dec := Dy.dec
 ed := fun f => by cases f <;> rfl
 de := fun x f h => by
  unfold Dy.dec at h
  split at h <;> cases h <;> rfl
theorem C5  : LY.dec (.t (.fn 104 [])) = some (.line ) := rfl
theorem C7  : LY.enc (.line ) = .t (.fn 104 []) := rfl
theorem C6  : LY.dec (.t (.fn 97 [])) = some (.dom ) := rfl
theorem C8  : LY.enc (.dom ) = .t (.fn 97 []) := rfl
def kx : Ct := An (lc A0 l0) (fun p => p.1.size ≤ 2000000) (fun p => .t (.v (.bool (BU (¬ Ia p.1)))))
section
attribute [local go_sem] ky BO BN Bool.not_true Bool.not_false Bw DH
theorem cD {G : Gt} (hG : Aj G) (hh : G.e 105 = AA 0 ky) : Gd G 104 (AA 0 kx) := by
 refine gr (fn := Tryz.f104) (n := 1) rfl hG ?_
 rintro ⟨x, ⟨⟩⟩ hpre
 simp -implicitDefEqProofs only [Tryz.f104, go_sem, hh, seval] at hpre ⊢
 with_reducible repeat' (first | apply ai | intro _ | ((first | apply s1 | apply s3 | apply s4) <;> intro hb <;> simp -implicitDefEqProofs only [hb, go_sem, hh, seval] <;> try simp only [qz] at hb))
 all_goals first | rfl | omega | exact hpre | skip
 all_goals (try (simp only [DW]; done))
 all_goals first | rfl | (rw [A8]; done) | (rw [A8, decide_eq_decide.2]; simp [BW]; done) | (rw [A8]; simp [BW]; done)
end
def xL : Ct := An (lc A0 l0) (fun p => p.1.size ≤ 2000000) (fun p => .t (.v (.bool (BU (¬ D4 p.1)))))
section
attribute [local go_sem] Vi BO BN Bool.not_true Bool.not_false Bw DH
theorem p5 {G : Gt} (hG : Aj G) (hh : G.e 98 = AA 0 Vi) : Gd G 97 (AA 0 xL) := by
 refine gr (fn := Tryz.f97) (n := 1) rfl hG ?_
 rintro ⟨x, ⟨⟩⟩ hpre
 simp -implicitDefEqProofs only [Tryz.f97, go_sem, hh, seval] at hpre ⊢
 with_reducible repeat' (first | apply ai | intro _ | ((first | apply s1 | apply s3 | apply s4) <;> intro hb <;> simp -implicitDefEqProofs only [hb, go_sem, hh, seval] <;> try simp only [qz] at hb))
 all_goals first | rfl | omega | exact hpre | skip
 all_goals (try (simp only [DW]; done))
 all_goals first | rfl | (rw [A8]; done) | (rw [A8, decide_eq_decide.2]; simp [BW]; done) | (rw [A8]; simp [BW]; done)
end
def lQ : Ct := An (lc Al.asl (lc LY l0)) (fun p => ∀ x ∈ p.1, p.2.1.pre x) (fun p => .t (.v (.int .i64 (A4 p.2.1.sem 0 p.1))))
section
attribute [local go_sem] kx xL BO BN Bool.not_true Bool.not_false Bw DH C5 C7 C6 C8
theorem cn {G : Gt} (hG : Aj G) (hh : G.e 104 = AA 0 kx ∧ G.e 97 = AA 0 xL) : Gd G 151 (AA 0 lQ) := by
 refine gr (fn := Tryz.f151) (n := 2) rfl hG ?_
 rintro ⟨xs, f, ⟨⟩⟩ hpre
 have hs := hpre
 dsimp only at hs ⊢
 cases f with
 | line  =>
   simp -implicitDefEqProofs only [Tryz.f151, go_sem, hh, seval]
   with_reducible repeat' (first | apply ai | intro _ | ((first | apply s1 | apply s3 | apply s4) <;> intro hb <;> simp -implicitDefEqProofs only [hb, go_sem, hh, seval] <;> try simp only [qz] at hb))
   all_goals first | rfl | omega | skip
   refine AF [] (ι := {i : Nat // i ≤ xs.length ∧ A4 (Dy.sem (.line )) 0 xs = A4 (Dy.sem (.line )) i (xs.drop i)}) (fun p => ⟨[(0, .t (.sl 1 (xs.map AH))), (1, .t (.fn 104 [])), (7, .t (.v (.int .i64 xs.length))), (8, .t (.v (.int .i64 p.1)))], []⟩) (fun p => xs.length - p.1) ⟨0, Nat.zero_le _, rfl⟩ rfl ?_ ?_
   ·simp -implicitDefEqProofs only [go_sem, hh, seval]
    try simp
   ·rintro ⟨i, hi, hix⟩
    by_cases hlt : (i : Int) < xs.length
    ·have hm : xs.getD (i : Int).toNat default ∈ xs := AE (by omega)
     have hsz := hs _ hm
     cases hb : BU (¬ Ia (xs.getD (i : Int).toNat default))
     ·have hq := hb
      simp -implicitDefEqProofs only [hlt, hq, go_sem, hh, seval]
      with_reducible repeat' (first | apply ai | intro _ | ((first | apply s1 | apply s3 | apply s4) <;> intro hb <;> simp -implicitDefEqProofs only [hb, go_sem, hh, seval] <;> try simp only [qz] at hb))
      all_goals (try simp only [maxLen] at *)
      all_goals first | rfl | omega | with_reducible assumption | exact hsz | exact hsz.1 | exact hsz.2 | exact hsz.2 _ (by assumption) | exact hsz.2.1 | exact hsz.2.2.1 | exact hsz.2.2.2 | trivial | skip
      rw [AZ, tn] at hb
      refine ⟨⟨i + 1, by omega, ?_⟩, by dsimp only; omega, ?_⟩
      ·rw [hix, DM (p := Dy.sem (.line )) (by omega) hb]
      ·simp -implicitDefEqProofs only [go_sem, hh, seval]
       try simp
     ·have hq := hb
      simp -implicitDefEqProofs only [hlt, hq, go_sem, hh, seval]
      with_reducible repeat' (first | apply ai | intro _ | ((first | apply s1 | apply s3 | apply s4) <;> intro hb <;> simp -implicitDefEqProofs only [hb, go_sem, hh, seval] <;> try simp only [qz] at hb))
      all_goals (try simp only [maxLen] at *)
      all_goals first | rfl | omega | with_reducible assumption | exact hsz | exact hsz.1 | exact hsz.2 | exact hsz.2 _ (by assumption) | exact hsz.2.1 | exact hsz.2.2.1 | exact hsz.2.2.2 | trivial | skip
      rw [Aa, tn] at hb
      rw [hix, CT (p := Dy.sem (.line )) (by omega) hb]
    ·simp -implicitDefEqProofs only [hlt, go_sem, hh, seval]
     with_reducible repeat' (first | apply ai | intro _ | ((first | apply s1 | apply s3 | apply s4) <;> intro hb <;> simp -implicitDefEqProofs only [hb, go_sem, hh, seval] <;> try simp only [qz] at hb))
     all_goals first | rfl | omega | skip
     all_goals (rw [hix, CS (by omega)])
 | dom  =>
   simp -implicitDefEqProofs only [Tryz.f151, go_sem, hh, seval]
   with_reducible repeat' (first | apply ai | intro _ | ((first | apply s1 | apply s3 | apply s4) <;> intro hb <;> simp -implicitDefEqProofs only [hb, go_sem, hh, seval] <;> try simp only [qz] at hb))
   all_goals first | rfl | omega | skip
   refine AF [] (ι := {i : Nat // i ≤ xs.length ∧ A4 (Dy.sem (.dom )) 0 xs = A4 (Dy.sem (.dom )) i (xs.drop i)}) (fun p => ⟨[(0, .t (.sl 1 (xs.map AH))), (1, .t (.fn 97 [])), (7, .t (.v (.int .i64 xs.length))), (8, .t (.v (.int .i64 p.1)))], []⟩) (fun p => xs.length - p.1) ⟨0, Nat.zero_le _, rfl⟩ rfl ?_ ?_
   ·simp -implicitDefEqProofs only [go_sem, hh, seval]
    try simp
   ·rintro ⟨i, hi, hix⟩
    by_cases hlt : (i : Int) < xs.length
    ·have hm : xs.getD (i : Int).toNat default ∈ xs := AE (by omega)
     have hsz := hs _ hm
     cases hb : BU (¬ D4 (xs.getD (i : Int).toNat default))
     ·have hq := hb
      simp -implicitDefEqProofs only [hlt, hq, go_sem, hh, seval]
      with_reducible repeat' (first | apply ai | intro _ | ((first | apply s1 | apply s3 | apply s4) <;> intro hb <;> simp -implicitDefEqProofs only [hb, go_sem, hh, seval] <;> try simp only [qz] at hb))
      all_goals (try simp only [maxLen] at *)
      all_goals first | rfl | omega | with_reducible assumption | exact hsz | exact hsz.1 | exact hsz.2 | exact hsz.2 _ (by assumption) | exact hsz.2.1 | exact hsz.2.2.1 | exact hsz.2.2.2 | trivial | skip
      rw [AZ, tn] at hb
      refine ⟨⟨i + 1, by omega, ?_⟩, by dsimp only; omega, ?_⟩
      ·rw [hix, DM (p := Dy.sem (.dom )) (by omega) hb]
      ·simp -implicitDefEqProofs only [go_sem, hh, seval]
       try simp
     ·have hq := hb
      simp -implicitDefEqProofs only [hlt, hq, go_sem, hh, seval]
      with_reducible repeat' (first | apply ai | intro _ | ((first | apply s1 | apply s3 | apply s4) <;> intro hb <;> simp -implicitDefEqProofs only [hb, go_sem, hh, seval] <;> try simp only [qz] at hb))
      all_goals (try simp only [maxLen] at *)
      all_goals first | rfl | omega | with_reducible assumption | exact hsz | exact hsz.1 | exact hsz.2 | exact hsz.2 _ (by assumption) | exact hsz.2.1 | exact hsz.2.2.1 | exact hsz.2.2.2 | trivial | skip
      rw [Aa, tn] at hb
      rw [hix, CT (p := Dy.sem (.dom )) (by omega) hb]
    ·simp -implicitDefEqProofs only [hlt, go_sem, hh, seval]
     with_reducible repeat' (first | apply ai | intro _ | ((first | apply s1 | apply s3 | apply s4) <;> intro hb <;> simp -implicitDefEqProofs only [hb, go_sem, hh, seval] <;> try simp only [qz] at hb))
     all_goals first | rfl | omega | skip
     all_goals (rw [hix, CS (by omega)])
end
def VO : Ct := An (lc Al.asl (lc LY l0)) (fun p => ∀ x ∈ p.1, p.2.1.pre x) (fun p => .t (.v (.bool (BU (∃ x ∈ p.1, p.2.1.sem x)))))
section
attribute [local go_sem] lQ BO BN Bool.not_true Bool.not_false Bw DH C5 C7 C6 C8
theorem b9 {G : Gt} (hG : Aj G) (hh : G.e 151 = AA 0 lQ) : Gd G 100 (AA 0 VO) := by
 refine gr (fn := Tryz.f100) (n := 2) rfl hG ?_
 rintro ⟨xs, f, ⟨⟩⟩ hpre
 dsimp only at hpre ⊢
 cases f
 all_goals
  simp -implicitDefEqProofs only [Tryz.f100, go_sem, hh, seval]
  with_reducible repeat' (first | apply ai | intro _ | ((first | apply s1 | apply s3 | apply s4) <;> intro hb <;> simp -implicitDefEqProofs only [hb, go_sem, hh, seval] <;> try simp only [qz] at hb))
  all_goals first | rfl | omega | exact hpre | exact hpre _ (by assumption) | skip
  all_goals (rw [← AY (D9 _ 0)]; rw [A8])
end
inductive LH where
 | num (n : Int)
 | part (n : Int)
def LH.enc : LH → AV
 | .num n => .t (.fn 77 [.rop [.v (.int .i64 n)]])
 | .part n => .t (.fn 128 [.rop [.v (.int .i64 n)]])
def LH.dec : AV → Option LH
 | .t (.fn 77 [.rop [.v (.int .i64 n)]]) => some (.num n)
 | .t (.fn 128 [.rop [.v (.int .i64 n)]]) => some (.part n)
 | _ => none
def LH.sem : LH → Im → Prop
 | .num n, x => x.id = n
 | .part n, x => x.id = n
def LH.pre : LH → Im → Prop
 | .num _, x => True
 | .part _, x => True
def S8 : AD LH where
 enc := LH.enc
 dec := LH.dec
 ed := fun f => by cases f <;> rfl
 de := fun x f h => by
  unfold LH.dec at h
  split at h <;> cases h <;> rfl
theorem MI {n : Int} : S8.dec (.t (.fn 77 [.rop [.v (.int .i64 n)]])) = some (.num n) := rfl
theorem MJ {n : Int} : S8.enc (.num n) = .t (.fn 77 [.rop [.v (.int .i64 n)]]) := rfl
theorem ML {n : Int} : S8.enc (.part n) = .t (.fn 128 [.rop [.v (.int .i64 n)]]) := rfl
def w9 : Ct := An (lc EL.ag (lc DR.ap l0)) (fun p => True) (fun p => .t (.v (.bool (BU (p.1.id = p.2.1)))))
section
attribute [local go_sem] BO BN Bool.not_true Bool.not_false Bw DH
theorem pc {G : Gt} (hG : Aj G) : Gd G 77 (AA 0 w9) := by
 refine gr (fn := Tryz.f77) (n := 2) rfl hG ?_
 rintro ⟨x, n, ⟨⟩⟩ hpre
 simp -implicitDefEqProofs only [Tryz.f77, go_sem, seval] at hpre ⊢
 with_reducible repeat' (first | apply ai | intro _ | ((first | apply s1 | apply s3 | apply s4) <;> intro hb <;> simp -implicitDefEqProofs only [hb, go_sem, seval] <;> try simp only [qz] at hb))
 all_goals first | rfl | omega | exact hpre | skip
 all_goals (try (simp only [DW]; done))
 all_goals first | rfl | (rw [A8]; done) | (rw [A8, decide_eq_decide.2]; simp [BW]; done) | (rw [A8]; simp [BW]; done)
end
def lD : Ct := An (lc EL.ag (lc DR.ap l0)) (fun p => True) (fun p => .t (.v (.bool (BU (p.1.id = p.2.1)))))
section
attribute [local go_sem] BO BN Bool.not_true Bool.not_false Bw DH
theorem cS {G : Gt} (hG : Aj G) : Gd G 128 (AA 0 lD) := by
 refine gr (fn := Tryz.f128) (n := 2) rfl hG ?_
 rintro ⟨x, n, ⟨⟩⟩ hpre
 simp -implicitDefEqProofs only [Tryz.f128, go_sem, seval] at hpre ⊢
 with_reducible repeat' (first | apply ai | intro _ | ((first | apply s1 | apply s3 | apply s4) <;> intro hb <;> simp -implicitDefEqProofs only [hb, go_sem, seval] <;> try simp only [qz] at hb))
 all_goals first | rfl | omega | exact hpre | skip
 all_goals (try (simp only [DW]; done))
 all_goals first | rfl | (rw [A8]; done) | (rw [A8, decide_eq_decide.2]; simp [BW]; done) | (rw [A8]; simp [BW]; done)
end
def wF : Ct := An (lc EL.asl (lc S8 l0)) (fun p => ∀ x ∈ p.1, p.2.1.pre x) (fun p => .t (.v (.int .i64 (A4 p.2.1.sem 0 p.1))))
section
attribute [local go_sem] w9 lD BO BN Bool.not_true Bool.not_false Bw DH MI MJ ML
theorem pZ {G : Gt} (hG : Aj G) (hh : G.e 77 = AA 0 w9 ∧ G.e 128 = AA 0 lD) : Gd G 76 (AA 0 wF) := by
 refine gr (fn := Tryz.f76) (n := 2) rfl hG ?_
 rintro ⟨xs, f, ⟨⟩⟩ hpre
 have hs := hpre
 dsimp only at hs ⊢
 cases f with
 | num n =>
   simp -implicitDefEqProofs only [Tryz.f76, go_sem, hh, seval]
   with_reducible repeat' (first | apply ai | intro _ | ((first | apply s1 | apply s3 | apply s4) <;> intro hb <;> simp -implicitDefEqProofs only [hb, go_sem, hh, seval] <;> try simp only [qz] at hb))
   all_goals first | rfl | omega | skip
   refine AF [] (ι := {i : Nat // i ≤ xs.length ∧ A4 (LH.sem (.num n)) 0 xs = A4 (LH.sem (.num n)) i (xs.drop i)}) (fun p => ⟨[(0, .t (.sl 5 (xs.map Ah))), (1, S8.enc (.num n)), (7, .t (.v (.int .i64 xs.length))), (8, .t (.v (.int .i64 p.1)))], []⟩) (fun p => xs.length - p.1) ⟨0, Nat.zero_le _, rfl⟩ rfl ?_ ?_
   ·simp -implicitDefEqProofs only [go_sem, hh, seval]
    try simp
   ·rintro ⟨i, hi, hix⟩
    by_cases hlt : (i : Int) < xs.length
    ·have hm : xs.getD (i : Int).toNat default ∈ xs := AE (by omega)
     have hsz := hs _ hm
     cases hb : BU ((xs.getD (i : Int).toNat default).id = n)
     ·have hq := hb
      simp -implicitDefEqProofs only [hlt, hq, go_sem, hh, seval]
      with_reducible repeat' (first | apply ai | intro _ | ((first | apply s1 | apply s3 | apply s4) <;> intro hb <;> simp -implicitDefEqProofs only [hb, go_sem, hh, seval] <;> try simp only [qz] at hb))
      all_goals (try simp only [maxLen] at *)
      all_goals first | rfl | omega | with_reducible assumption | exact hsz | exact hsz.1 | exact hsz.2 | exact hsz.2 _ (by assumption) | exact hsz.2.1 | exact hsz.2.2.1 | exact hsz.2.2.2 | trivial | skip
      rw [AZ, tn] at hb
      refine ⟨⟨i + 1, by omega, ?_⟩, by dsimp only; omega, ?_⟩
      ·rw [hix, DM (p := LH.sem (.num n)) (by omega) hb]
      ·simp -implicitDefEqProofs only [go_sem, hh, seval]
       try simp
     ·have hq := hb
      simp -implicitDefEqProofs only [hlt, hq, go_sem, hh, seval]
      with_reducible repeat' (first | apply ai | intro _ | ((first | apply s1 | apply s3 | apply s4) <;> intro hb <;> simp -implicitDefEqProofs only [hb, go_sem, hh, seval] <;> try simp only [qz] at hb))
      all_goals (try simp only [maxLen] at *)
      all_goals first | rfl | omega | with_reducible assumption | exact hsz | exact hsz.1 | exact hsz.2 | exact hsz.2 _ (by assumption) | exact hsz.2.1 | exact hsz.2.2.1 | exact hsz.2.2.2 | trivial | skip
      rw [Aa, tn] at hb
      rw [hix, CT (p := LH.sem (.num n)) (by omega) hb]
    ·simp -implicitDefEqProofs only [hlt, go_sem, hh, seval]
     with_reducible repeat' (first | apply ai | intro _ | ((first | apply s1 | apply s3 | apply s4) <;> intro hb <;> simp -implicitDefEqProofs only [hb, go_sem, hh, seval] <;> try simp only [qz] at hb))
     all_goals first | rfl | omega | skip
     all_goals (rw [hix, CS (by omega)])
 | part n =>
   simp -implicitDefEqProofs only [Tryz.f76, go_sem, hh, seval]
   with_reducible repeat' (first | apply ai | intro _ | ((first | apply s1 | apply s3 | apply s4) <;> intro hb <;> simp -implicitDefEqProofs only [hb, go_sem, hh, seval] <;> try simp only [qz] at hb))
   all_goals first | rfl | omega | skip
   refine AF [] (ι := {i : Nat // i ≤ xs.length ∧ A4 (LH.sem (.part n)) 0 xs = A4 (LH.sem (.part n)) i (xs.drop i)}) (fun p => ⟨[(0, .t (.sl 5 (xs.map Ah))), (1, S8.enc (.part n)), (7, .t (.v (.int .i64 xs.length))), (8, .t (.v (.int .i64 p.1)))], []⟩) (fun p => xs.length - p.1) ⟨0, Nat.zero_le _, rfl⟩ rfl ?_ ?_
   ·simp -implicitDefEqProofs only [go_sem, hh, seval]
    try simp
   ·rintro ⟨i, hi, hix⟩
    by_cases hlt : (i : Int) < xs.length
    ·have hm : xs.getD (i : Int).toNat default ∈ xs := AE (by omega)
     have hsz := hs _ hm
     cases hb : BU ((xs.getD (i : Int).toNat default).id = n)
     ·have hq := hb
      simp -implicitDefEqProofs only [hlt, hq, go_sem, hh, seval]
      with_reducible repeat' (first | apply ai | intro _ | ((first | apply s1 | apply s3 | apply s4) <;> intro hb <;> simp -implicitDefEqProofs only [hb, go_sem, hh, seval] <;> try simp only [qz] at hb))
      all_goals (try simp only [maxLen] at *)
      all_goals first | rfl | omega | with_reducible assumption | exact hsz | exact hsz.1 | exact hsz.2 | exact hsz.2 _ (by assumption) | exact hsz.2.1 | exact hsz.2.2.1 | exact hsz.2.2.2 | trivial | skip
      rw [AZ, tn] at hb
      refine ⟨⟨i + 1, by omega, ?_⟩, by dsimp only; omega, ?_⟩
      ·rw [hix, DM (p := LH.sem (.part n)) (by omega) hb]
      ·simp -implicitDefEqProofs only [go_sem, hh, seval]
       try simp
     ·have hq := hb
      simp -implicitDefEqProofs only [hlt, hq, go_sem, hh, seval]
      with_reducible repeat' (first | apply ai | intro _ | ((first | apply s1 | apply s3 | apply s4) <;> intro hb <;> simp -implicitDefEqProofs only [hb, go_sem, hh, seval] <;> try simp only [qz] at hb))
      all_goals (try simp only [maxLen] at *)
      all_goals first | rfl | omega | with_reducible assumption | exact hsz | exact hsz.1 | exact hsz.2 | exact hsz.2 _ (by assumption) | exact hsz.2.1 | exact hsz.2.2.1 | exact hsz.2.2.2 | trivial | skip
      rw [Aa, tn] at hb
      rw [hix, CT (p := LH.sem (.part n)) (by omega) hb]
    ·simp -implicitDefEqProofs only [hlt, go_sem, hh, seval]
     with_reducible repeat' (first | apply ai | intro _ | ((first | apply s1 | apply s3 | apply s4) <;> intro hb <;> simp -implicitDefEqProofs only [hb, go_sem, hh, seval] <;> try simp only [qz] at hb))
     all_goals first | rfl | omega | skip
     all_goals (rw [hix, CS (by omega)])
end
inductive Nv where
 | who (b : Ad)
def Nv.enc : Nv → AV
 | .who b => .t (.fn 79 [.rop [.v (.string b.user), .v (.string b.domain)]])
def Nv.dec : AV → Option Nv
 | .t (.fn 79 [.rop [.v (.string b0), .v (.string b1)]]) => some (.who ⟨b0, b1⟩)
 | _ => none
def Nv.sem : Nv → Rc → Prop
 | .who b, x => x.addr = b
def Nv.pre : Nv → Rc → Prop
 | .who _, x => True
def Y5 : AD Nv where
 enc := Nv.enc
 dec := Nv.dec
 ed := fun f => by cases f <;> rfl
 de := fun x f h => by
  unfold Nv.dec at h
  split at h <;> cases h <;> rfl
theorem RU {b0 : ByteArray} {b1 : ByteArray} : Y5.dec (.t (.fn 79 [.rop [.v (.string b0), .v (.string b1)]])) = some (.who ⟨b0, b1⟩) := rfl
theorem RV {b : Ad} : Y5.enc (.who b) = .t (.fn 79 [.rop [.v (.string b.user), .v (.string b.domain)]]) := rfl
def xB : Ct := An (lc Pe.ag (lc Ce.ap l0)) (fun p => True) (fun p => .t (.v (.bool (BU (p.1.addr = p.2.1)))))
section
attribute [local go_sem] BO BN Bool.not_true Bool.not_false Bw DH
theorem pe {G : Gt} (hG : Aj G) : Gd G 79 (AA 0 xB) := by
 refine gr (fn := Tryz.f79) (n := 2) rfl hG ?_
 rintro ⟨x, b, ⟨⟩⟩ hpre
 simp -implicitDefEqProofs only [Tryz.f79, go_sem, seval] at hpre ⊢
 with_reducible repeat' (first | apply ai | intro _ | ((first | apply s1 | apply s3 | apply s4) <;> intro hb <;> simp -implicitDefEqProofs only [hb, go_sem, seval] <;> try simp only [qz] at hb))
 all_goals first | rfl | omega | exact hpre | skip
 all_goals (try (simp only [DW]; done))
 all_goals first | rfl | (rw [A8]; done) | (rw [A8, decide_eq_decide.2]; simp [BW]; done) | (rw [A8]; simp [BW]; done)
end
def xA : Ct := An (lc Pe.asl (lc Y5 l0)) (fun p => ∀ x ∈ p.1, p.2.1.pre x) (fun p => .t (.v (.int .i64 (A4 p.2.1.sem 0 p.1))))
section
attribute [local go_sem] xB BO BN Bool.not_true Bool.not_false Bw DH RU RV
theorem pd {G : Gt} (hG : Aj G) (hh : G.e 79 = AA 0 xB) : Gd G 78 (AA 0 xA) := by
 refine gr (fn := Tryz.f78) (n := 2) rfl hG ?_
 rintro ⟨xs, f, ⟨⟩⟩ hpre
 have hs := hpre
 dsimp only at hs ⊢
 cases f with
 | who b =>
   simp -implicitDefEqProofs only [Tryz.f78, go_sem, hh, seval]
   with_reducible repeat' (first | apply ai | intro _ | ((first | apply s1 | apply s3 | apply s4) <;> intro hb <;> simp -implicitDefEqProofs only [hb, go_sem, hh, seval] <;> try simp only [qz] at hb))
   all_goals first | rfl | omega | skip
   refine AF [] (ι := {i : Nat // i ≤ xs.length ∧ A4 (Nv.sem (.who b)) 0 xs = A4 (Nv.sem (.who b)) i (xs.drop i)}) (fun p => ⟨[(0, .t (.sl 4 (xs.map BD))), (1, Y5.enc (.who b)), (7, .t (.v (.int .i64 xs.length))), (8, .t (.v (.int .i64 p.1)))], []⟩) (fun p => xs.length - p.1) ⟨0, Nat.zero_le _, rfl⟩ rfl ?_ ?_
   ·simp -implicitDefEqProofs only [go_sem, hh, seval]
    try simp
   ·rintro ⟨i, hi, hix⟩
    by_cases hlt : (i : Int) < xs.length
    ·have hm : xs.getD (i : Int).toNat default ∈ xs := AE (by omega)
     have hsz := hs _ hm
     cases hb : BU ((xs.getD (i : Int).toNat default).addr = b)
     ·have hq := hb
      simp -implicitDefEqProofs only [hlt, hq, go_sem, hh, seval]
      with_reducible repeat' (first | apply ai | intro _ | ((first | apply s1 | apply s3 | apply s4) <;> intro hb <;> simp -implicitDefEqProofs only [hb, go_sem, hh, seval] <;> try simp only [qz] at hb))
      all_goals (try simp only [maxLen] at *)
      all_goals first | rfl | omega | with_reducible assumption | exact hsz | exact hsz.1 | exact hsz.2 | exact hsz.2 _ (by assumption) | exact hsz.2.1 | exact hsz.2.2.1 | exact hsz.2.2.2 | trivial | skip
      rw [AZ, tn] at hb
      refine ⟨⟨i + 1, by omega, ?_⟩, by dsimp only; omega, ?_⟩
      ·rw [hix, DM (p := Nv.sem (.who b)) (by omega) hb]
      ·simp -implicitDefEqProofs only [go_sem, hh, seval]
       try simp
     ·have hq := hb
      simp -implicitDefEqProofs only [hlt, hq, go_sem, hh, seval]
      with_reducible repeat' (first | apply ai | intro _ | ((first | apply s1 | apply s3 | apply s4) <;> intro hb <;> simp -implicitDefEqProofs only [hb, go_sem, hh, seval] <;> try simp only [qz] at hb))
      all_goals (try simp only [maxLen] at *)
      all_goals first | rfl | omega | with_reducible assumption | exact hsz | exact hsz.1 | exact hsz.2 | exact hsz.2 _ (by assumption) | exact hsz.2.1 | exact hsz.2.2.1 | exact hsz.2.2.2 | trivial | skip
      rw [Aa, tn] at hb
      rw [hix, CT (p := Nv.sem (.who b)) (by omega) hb]
    ·simp -implicitDefEqProofs only [hlt, go_sem, hh, seval]
     with_reducible repeat' (first | apply ai | intro _ | ((first | apply s1 | apply s3 | apply s4) <;> intro hb <;> simp -implicitDefEqProofs only [hb, go_sem, hh, seval] <;> try simp only [qz] at hb))
     all_goals first | rfl | omega | skip
     all_goals (rw [hix, CS (by omega)])
end
def mh : Ct := An (lc Al.asl l0) (fun p => ∀ s ∈ p.1, s.size ≤ 2000000) (fun p => .t (.v (.bool (BU (DQ p.1)))))
section
attribute [local go_sem] VO BO BN Bool.not_true Bool.not_false Bw DH C5 C7 C6 C8
theorem pG {G : Gt} (hG : Aj G) (hh : G.e 100 = AA 0 VO) : Gd G 46 (AA 0 mh) := by
 refine gr (fn := Tryz.f46) (n := 1) rfl hG ?_
 rintro ⟨xs, ⟨⟩⟩ hpre
 simp -implicitDefEqProofs only [Tryz.f46, go_sem, hh, seval] at hpre ⊢
 with_reducible repeat' (first | apply ai | intro _ | ((first | apply s1 | apply s3 | apply s4) <;> intro hb <;> simp -implicitDefEqProofs only [hb, go_sem, hh, seval] <;> try simp only [qz] at hb))
 all_goals first | rfl | omega | exact hpre | exact hpre _ (by assumption) | exact trivial | skip
 ·rw [DW]
  refine congrArg (fun b => T.v (.bool b)) (AY ?_)
  constructor
  ·intro h
   exact ⟨fun s hs => Classical.byContradiction fun q => h ⟨s, hs, q⟩, by omega⟩
  ·rintro h ⟨s, hs, q⟩
   exact q (h.1 s hs)
 ·rw [AO (fun h => by have := h.2; omega)]
end
theorem yy : Maps.Keyed Tryz.prog 35 := Maps.Keyed.of_law (deep_law_laid (m := 5) (by kernel_rfl) (by decide) (Nat.lt_of_lt_of_le (Nat.lt_succ_self 35) (Nat.le_of_ble_eq_true (by kernel_rfl))) (by kernel_rfl) (by kernel_rfl))
noncomputable def T2 : Array Field := match Tryz.prog.underlying 35 with | some (.struct fs) => fs | _ => #[]
theorem yW : Tryz.prog.underlying 35 = some (.struct T2) := by kernel_rfl
theorem u9 : Tryz.prog.underlying 9 = some .string := by kernel_rfl
theorem oM : (T2.toList.map fun f => (f.type, f.offset)) = [(9, 0), (9, 1)] := by kernel_rfl
theorem oN : T2.all (·.name != "_") = true := by kernel_rfl
theorem y6 : Tryz.prog.cellsOf 9 = 1 := by kernel_rfl
theorem tR : Tryz.prog.cellsOf 35 = 2 := by kernel_rfl
theorem xa : Tryz.prog.keyType 35 = true := by kernel_rfl
theorem yC : ∃ n, Tryz.prog.types.size + 1 = n + 2 := ⟨Tryz.prog.types.size - 1, by
 have : 35 < Tryz.prog.types.size := Nat.lt_of_lt_of_le (Nat.lt_succ_self 35) (Nat.le_of_ble_eq_true (by kernel_rfl))
 omega⟩
theorem yp (d : Nat) {s : ByteArray} (h : s.size ≤ maxLen) : Tryz.prog.keyLits (d + 1) 9 [.string s] = some [.string s.data.toList] := by
 simp only [Program.keyLits, u9, if_pos h]
theorem uX {k : MK} (h : k.ok (some 2)) : ∃ l, keyOf Tryz.prog 35 k.val = some l := by
 cases k with
 | i n => exact h.elim
 | s b => exact absurd h.1 (by decide)
 | ss l =>
   obtain ⟨h1, h2, _⟩ := h
   obtain ⟨u, d, rfl⟩ : ∃ u d, l = [u, d] := by
    rcases l with _ | ⟨u, _ | ⟨d, _ | ⟨z, t⟩⟩⟩
    ·cases h1
    ·cases h1
    ·exact ⟨u, d, rfl⟩
    ·simp at h1
   obtain ⟨n, hn⟩ := yC
   have hl : T2.toList.map (fun f => (f.type, f.offset)) = [(9, 0), (9, 1)] := oM
   rcases hf : T2.toList with _ | ⟨f, _ | ⟨g, _ | ⟨z, t⟩⟩⟩
   ·rw [hf] at hl; cases hl
   ·rw [hf] at hl; simp at hl
   ·rw [hf] at hl
    ·simp only [List.map_cons, List.map_nil, List.cons.injEq, Prod.mk.injEq, and_true] at hl
     obtain ⟨⟨a1, a2⟩, b1, b2⟩ := hl
     refine ⟨.string (keyBytes [.string u.data.toList, .string d.data.toList]), ?_⟩
     have hform : (MK.val (.ss [u, d])).formed Tryz.prog 35 = true := by
      simp only [Value.formed, MK.val, yW, tR]
      rfl
     unfold keyOf
     rw [yW]
     show (if (Tryz.prog.keyType 35 && (MK.val (.ss [u, d])).formed Tryz.prog 35) = true then _ else none) = _
     rw [xa, hform]
     refine (if_pos rfl).trans ?_
     rw [hn]
     have : Tryz.prog.keyLits (n + 2) 35 (MK.val (.ss [u, d])).cells.toList = some [.string u.data.toList, .string d.data.toList] := by
      show Tryz.prog.keyLits (n + 2) 35 [.string u, .string d] = _
      have e1 : [Value.string u, Value.string d].length = Tryz.prog.cellsOf 35 ∧ T2.all (·.name != "_") = true := ⟨by rw [tR]; rfl, oN⟩
      rw [Program.keyLits.eq_def]
      simp only [yW]
      refine (if_pos e1).trans ?_
      rw [hf]
      simp only [List.mapM_cons, List.mapM_nil, a1, a2, b1, b2, y6, List.drop_zero, List.take_succ_cons, List.take_zero, List.drop_succ_cons, yp n (h2 u (by simp)), yp n (h2 d (by simp))]
      rfl
     rw [this]; rfl
   ·rw [hf] at hl
    simp only [List.map_cons, List.cons.injEq] at hl
    exact absurd hl.2.2 (by simp)
theorem xZ : Nx Tryz.prog 35 (some 2) := Nx.ss yy uX
def jC (a : Ad) : MK := .ss [a.user, a.domain]
theorem fE {a b : Ad} (h : jC a = jC b) : a = b := by
 cases a; cases b
 simp only [jC, MK.ss.injEq, List.cons.injEq, and_true] at h
 rw [h.1, h.2]
def dis (xs : List Ad) : List (MK × Bool) := xs.foldl (fun es a => Ns (jC a) true es) []
theorem KB (xs : List Ad) (a : Ad) : dis (xs ++ [a]) = Ns (jC a) true (dis xs) := by simp [dis]
theorem K7 {k : MK} {b : Bool} : ∀ {es : List (MK × Bool)}, (Ns k b es).map Prod.fst = if k ∈ es.map Prod.fst then es.map Prod.fst else es.map Prod.fst ++ [k]
 | [] => by simp [Ns]
 | p :: r => by
   rw [Ns]
   by_cases h : p.1 = k
   ·simp [h]
   ·have hk : ¬ k = p.1 := fun e => h e.symm
    rw [if_neg h, List.map_cons, K7]
    by_cases h2 : k ∈ r.map Prod.fst
    ·rw [if_pos h2, if_pos (by simp only [List.map_cons, List.mem_cons]; exact .inr h2)]; rfl
    ·rw [if_neg h2, if_neg (by simp only [List.map_cons, List.mem_cons]; exact fun e => e.elim hk h2)]; rfl
theorem bd (xs : List Ad) (a : Ad) : jC a ∈ (dis xs).map Prod.fst ↔ a ∈ xs := by
 generalize hr : xs.reverse = r
 have hx : xs = r.reverse := by rw [← hr, List.reverse_reverse]
 subst hx
 clear hr
 induction r with
 | nil => simp [dis]
 | cons b r ih =>
   rw [List.reverse_cons, KB, K7, List.mem_append, ← propext ih]
   by_cases h : jC b ∈ (dis r.reverse).map Prod.fst
   ·rw [if_pos h]
    constructor
    ·exact .inl
    ·rintro (h1 | h1)
     ·exact h1
     ·rw [List.mem_singleton.1 h1]; exact h
   ·rw [if_neg h, List.mem_append, List.mem_singleton, List.mem_singleton]
    exact or_congr_right ⟨fE, fun e => by rw [e]⟩
theorem bc (xs : List Ad) : (dis xs).length ≤ xs.length ∧ ((dis xs).length = xs.length ↔ xs.Nodup) := by
 generalize hr : xs.reverse = r
 have hx : xs = r.reverse := by rw [← hr, List.reverse_reverse]
 subst hx
 clear hr
 induction r with
 | nil => simp [dis]
 | cons b r ih =>
   have hl : ∀ es : List (MK × Bool), es.length = (es.map Prod.fst).length := fun es => by rw [lm]
   have hn : (r.reverse ++ [b]).Nodup ↔ r.reverse.Nodup ∧ b ∉ r.reverse := by
    rw [List.nodup_append]
    constructor
    ·rintro ⟨h1, _, h3⟩
     exact ⟨h1, fun hb => h3 b hb b (by simp) rfl⟩
    ·rintro ⟨h1, h2⟩
     refine ⟨h1, by simp, fun x hx y hy e => ?_⟩
     rw [List.mem_singleton] at hy
     subst hy; subst e; exact h2 hx
   rw [List.reverse_cons, KB, hl, K7, List.length_append, hn, ← bd]
   obtain ⟨i1, i2⟩ := ih
   by_cases h : jC b ∈ (dis r.reverse).map Prod.fst
   ·rw [if_pos h, ← hl]
    refine ⟨by omega, ⟨fun e => ?_, fun e => absurd h e.2⟩⟩
    simp at e i1; omega
   ·rw [if_neg h, List.length_append, ← hl]
    refine ⟨by simp at *; omega, ⟨fun e => ⟨i2.1 (by simp at *; omega), h⟩, fun e => ?_⟩⟩
    have := i2.2 e.1
    simp at *; omega
theorem RQ {xs : List Ad} {i : Nat} (h : i < xs.length) : xs.take (i + 1) = xs.take i ++ [xs.getD i default] := by
 rw [List.take_succ_eq_append_getElem h]
 simp [h]
theorem WG {xs : List Ad} {i : Nat} (h : i < xs.length) : Ns (.ss [(xs.getD i default).user, (xs.getD i default).domain]) true (dis (xs.take i)) = dis (xs.take (i + 1)) := by
 rw [RQ h, KB]; rfl
def VS : Ct := An (lc Ce.asl l0) (fun p => True) (fun p => .t (.v (.bool (BU p.1.Nodup))))
section
attribute [local go_sem] BO BN Bool.not_true Bool.not_false Bw DH G8 G9 C5 C7 C6 C8
theorem cp {G : Gt} (hG : Aj G) : Gd G 153 (AA 0 VS) := by
 refine gr (fn := Tryz.f153) (n := 1) rfl hG ?_
 rintro ⟨xs, ⟨⟩⟩ hpre
 simp -implicitDefEqProofs only [Tryz.f153, go_sem, seval] at hpre ⊢
 with_reducible repeat' (first | apply ai | intro _ | ((first | apply s1 | apply s3 | apply s4) <;> intro hb <;> simp -implicitDefEqProofs only [hb, go_sem, seval] <;> try simp only [qz] at hb))
 all_goals first | rfl | omega | skip
 refine AF [] (ι := {i : Nat // i ≤ xs.length}) (fun p => ⟨[(0, .t (.sl 2 (xs.map At))), (3, .h 1006), (7, .t (.sl 2 (xs.map At))), (8, .t (.v (.int .i64 xs.length))), (9, .t (.v (.int .i64 p.1)))], [(1006, some (.mp (some 2) (dis (xs.take p.1))))]⟩) (fun p => xs.length - p.1) ⟨0, Nat.zero_le _⟩ rfl ?_ ?_
 ·simp -implicitDefEqProofs only [go_sem, seval]
  try simp
  rfl
 ·rintro ⟨i, hi⟩
  by_cases hlt : (i : Int) < xs.length
  ·simp -implicitDefEqProofs only [hlt, go_sem, seval]
   with_reducible repeat' (first | apply ai | intro _ | ((first | apply s1 | apply s3 | apply s4) <;> intro hb <;> simp -implicitDefEqProofs only [hb, go_sem, seval] <;> try simp only [qz] at hb))
   all_goals (try simp only [maxLen] at *)
   all_goals first | rfl | omega | exact xZ | skip
   refine ⟨⟨i + 1, by omega⟩, by dsimp only; omega, ?_⟩
   simp -implicitDefEqProofs only [go_sem, seval]
   simp only [tn, WG (show i < xs.length by omega)]
   try simp
  ·simp -implicitDefEqProofs only [hlt, go_sem, seval]
   with_reducible repeat' (first | apply ai | intro _ | ((first | apply s1 | apply s3 | apply s4) <;> intro hb <;> simp -implicitDefEqProofs only [hb, go_sem, seval] <;> try simp only [qz] at hb))
   all_goals first | rfl | omega | skip
   rw [List.take_of_length_le (by omega), ← AY (bc xs).2, A8]
   refine congrArg (fun b => T.v (.bool b)) (decide_eq_decide.2 ?_)
   omega
end
def lK : Ct := An (lc Um.ag l0) (fun p => (∀ a ∈ p.1.to, a.domain.size ≤ 2000000) ∧ p.1.frm.domain.size ≤ 2000000 ∧ ∀ s ∈ p.1.body, s.size ≤ 2000000) (fun p => .t (.v (.bool (BU (CM p.1)))))
section
attribute [local go_sem] mg QJ ld VS mh BO BN Bool.not_true Bool.not_false Bw DH G8 G9 C5 C7 C6 C8 Aa AZ
set_option maxHeartbeats 800000 in
theorem ca {G : Gt} (hG : Aj G) (hh : G.e 45 = AA 0 mg ∧ G.e 27 = AA 0 QJ ∧ G.e 174 = AA 0 ld ∧ G.e 153 = AA 0 VS ∧ G.e 46 = AA 0 mh) : Gd G 140 (AA 0 lK) := by
 refine gr (fn := Tryz.f140) (n := 1) rfl hG ?_
 rintro ⟨m, ⟨⟩⟩ hpre
 simp -implicitDefEqProofs only [Tryz.f140, go_sem, hh, seval] at hpre ⊢
 with_reducible repeat' (first | apply ai | intro _ | ((first | apply s1 | apply s3 | apply s4) <;> intro hb <;> simp -implicitDefEqProofs only [hb, go_sem, hh, seval] <;> try simp only [qz] at hb))
 all_goals (try simp only [Aa, AZ, DW, Decidable.not_not, Classical.not_not] at *)
 all_goals first | rfl | omega | exact hpre.1 | exact hpre.2.1 | exact hpre.2.2 | exact hpre.1 _ (by assumption) | exact hpre.2.2 _ (by assumption) | skip
 ·refine congrArg (fun b => T.v (.bool b)) (AY ⟨fun h => ?_, fun h => h.2.2.2.2⟩)
  rename_i q1 q2 q3 q4
  exact ⟨fun a ha => Classical.byContradiction fun q => q4 ⟨a, ha, q⟩, hb, q1, by omega, h⟩
 ·rw [AO (fun h => absurd h.2.1 (by assumption))]
 ·rw [AO (fun h => by obtain ⟨a, ha, q⟩ := hb; exact q (h.1 a ha))]
 ·rw [AO (fun h => by have := h.2.2.2.1; omega)]
 ·rw [AO (fun h => absurd h.2.2.1 (by assumption))]
end
theorem BM {α : Type} [Inhabited α] (enc : α → List T) {xs : List α} {i : Nat} (h : i < xs.length) : (xs.take (i + 1)).map enc = (xs.take i).map enc ++ [enc (xs.getD i default)] := by
 rw [List.take_succ_eq_append_getElem h, List.map_append, List.map_cons, List.map_nil]
 simp only [List.getD_eq_getElem?_getD, List.getElem?_eq_getElem h, Option.getD_some]
theorem IX {α : Type} {enc : α → List T} {xs : List α} {k : Nat} : (xs.map enc).take k = (xs.take k).map enc := List.map_take.symm
theorem IH {α : Type} {enc : α → List T} {xs : List α} {k : Nat} : (xs.map enc).drop k = (xs.drop k).map enc := List.map_drop.symm
def N4 (r : Rc) : Prop := BL r.addr ∧ (0 ≤ r.tries ∧ r.tries ≤ 3) ∧ (0 ≤ r.next ∧ r.next ≤ 9999)
def Co (x : Im) : Prop := (∀ r ∈ x.to, N4 r) ∧ (x.to.map Rc.addr).Nodup ∧ 0 < x.id ∧ (BL x.frm ∨ AU x.frm) ∧ (1 ≤ x.to.length ∧ x.to.length ≤ 4) ∧ DQ x.body
def wN (xs : List Im) : Prop := ∀ j, 0 < j → j < xs.length → (xs.getD (j - 1) default).id < (xs.getD j default).id
def BI (s : Sp) : Prop := (∀ x ∈ s.items, Co x ∧ x.id ≤ s.last) ∧ wN s.items ∧ (0 ≤ s.last ∧ s.last ≤ 999) ∧ s.items.length ≤ 10
theorem Qv {xs : List Rc} (h : ∀ j, j < xs.length → ∀ k, k < j → ¬ (xs.getD k default).addr = (xs.getD j default).addr) : (xs.map Rc.addr).Nodup := by
 rw [List.nodup_iff_pairwise_ne, List.pairwise_iff_getElem]
 intro k j hk hj hkj
 rw [lm] at hk hj
 have := h j hj k hkj
 simpa [hk, hj] using this
theorem P3 {xs : List Rc} (h : (xs.map Rc.addr).Nodup) {k i : Nat} (hk : k < i) (hi : i < xs.length) : ¬ (xs.getD k default).addr = (xs.getD i default).addr := fun e => by
 have q1 : k < xs.length := by omega
 simp only [List.getD_eq_getElem?_getD, List.getElem?_eq_getElem q1, List.getElem?_eq_getElem hi, Option.getD_some] at e
 exact List.pairwise_iff_getElem.1 (List.nodup_iff_pairwise_ne.1 h) k i (by simpa using q1) (by simpa using hi) hk (by simpa using e)
def lh : Ct := An (lc Pe.ag l0) (fun p => True) (fun p => .t (.v (.bool (BU (N4 p.1)))))
section
attribute [local go_sem] IA J6
theorem dI {G : Gt} (hG : Aj G) (hh : G.e 123 = AA 0 IA ∧ G.e 36 = AA 0 J6) : Gd G 176 (AA 0 lh) := by
 refine gr (fn := Tryz.f176) (n := 1) rfl hG ?_
 rintro ⟨r, ⟨⟩⟩ hpre
 simp -implicitDefEqProofs only [Tryz.f176, go_sem, hh, seval] at hpre ⊢
 with_reducible repeat' (first | apply ai | intro _ | ((first | apply s1 | apply s3 | apply s4) <;> intro hb <;> simp -implicitDefEqProofs only [hb, go_sem, hh, seval] <;> try simp only [qz] at hb))
 all_goals first
  | rfl
  | omega
  | exact congrArg (fun b => T.v (Value.bool b)) (AY ⟨fun h => ⟨by assumption, by assumption, h⟩, fun h => h.2.2⟩)
  | (rw [AO (fun h => absurd h.1 (by assumption))]; done)
  | (rw [AO (fun h => absurd h.2.1 (by assumption))]; done)
end
def lM : Ct := An (lc EL.ag l0) (fun p => True) (fun p => .t (.v (.bool (BU (Co p.1)))))
section
attribute [local go_sem] IA J6 lh Tc Mj lm
set_option maxHeartbeats 800000 in
theorem ce {G : Gt} (hG : Aj G) (hh : G.e 123 = AA 0 IA ∧ G.e 36 = AA 0 J6 ∧ G.e 176 = AA 0 lh ∧ G.e 62 = AA 0 Tc ∧ G.e 142 = AA 0 Mj) : Gd G 144 (AA 0 lM) := by
 refine gr (fn := Tryz.f144) (n := 1) rfl hG ?_
 rintro ⟨x, ⟨⟩⟩ hpre
 simp -implicitDefEqProofs only [Tryz.f144, go_sem, hh, seval] at hpre ⊢
 have hbox : ∀ y : Im, Ob.box [AV.t (T.v (Value.int IntKind.i64 y.id)), AV.t (T.v (Value.string y.frm.user)), AV.t (T.v (Value.string y.frm.domain)), AV.t (T.sl 4 (List.map BD y.to)), AV.t (T.sl 1 (List.map AH y.body))] = Ob.box ((Ah y).map .t) := fun _ => rfl
 refine AF [] (ι := {i : Nat // i ≤ x.to.length ∧ (∀ j, j < i → N4 (x.to.getD j default)) ∧ ∀ j, j < i → ∀ k, k < j → ¬ (x.to.getD k default).addr = (x.to.getD j default).addr}) (fun p => ⟨[(1, .pb 1001 0), (3, .t (.v (.int .i64 p.1)))], [(1001, some (.box ((Ah x).map .t)))]⟩) (fun p => x.to.length - p.1) ⟨0, by simp, by simp, by simp⟩ rfl ?_ ?_
 ·simp -implicitDefEqProofs only [go_sem, hh, seval]
  try simp
 ·rintro ⟨i, hi, hall, hno⟩
  simp -implicitDefEqProofs only [go_sem, hh, seval]
  with_reducible repeat' (first | apply ai | intro _ | ((first | apply s1 | apply s3 | apply s4) <;> intro hb <;> simp -implicitDefEqProofs only [hb, go_sem, hh, seval] <;> try simp only [qz] at hb))
  all_goals (try simp only [maxLen, tn, lm] at *)
  all_goals first | rfl | omega | skip
  ·rw [AO (fun h => hb (h.1 _ (AE (by omega))))]
  ·refine AF [] (ι := {k : Nat // k ≤ i ∧ ∀ j, j < k → ¬ (x.to.getD j default).addr = (x.to.getD i default).addr}) (fun p => ⟨[(1, .pb 1001 0), (3, .t (.v (.int .i64 i))), (4, .t (.v (.int .i64 p.1)))], [(1001, some (.box ((Ah x).map .t)))]⟩) (fun p => i - p.1) ⟨0, by simp, by simp⟩ rfl ?_ ?_
   ·simp -implicitDefEqProofs only [go_sem, hh, seval]
    try simp
   ·rintro ⟨k, hk, hk2⟩
    simp -implicitDefEqProofs only [go_sem, hh, seval]
    with_reducible repeat' (first | apply ai | intro _ | ((first | apply s1 | apply s3 | apply s4) <;> intro hb <;> simp -implicitDefEqProofs only [hb, go_sem, hh, seval] <;> try simp only [qz] at hb))
    all_goals (try simp only [maxLen, tn, lm] at *)
    all_goals first | rfl | omega | skip
    ·have e : (x.to.getD k default).addr = (x.to.getD i default).addr := BW.2 (by simpa using hb)
     rw [AO (fun h => P3 h.2.1 (by omega) (by omega) e)]
    ·refine ⟨⟨k + 1, by omega, fun j hj => ?_⟩, by dsimp only; omega, ?_⟩
     ·by_cases e : j = k
      ·subst e; exact qV hb
      ·exact hk2 j (by omega)
     ·simp -implicitDefEqProofs only [go_sem, hh, seval]
      try simp
    ·refine ⟨⟨i + 1, by omega, DC hall (by assumption), fun j hj q hq => ?_⟩, by dsimp only; omega, ?_⟩
     ·by_cases e : j = i
      ·subst e; exact hk2 q (by omega)
      ·exact hno j (by omega) q hq
     ·simp -implicitDefEqProofs only [go_sem, hh, seval]
      try simp
  all_goals have hA : ∀ r ∈ x.to, N4 r := BX fun j hj => hall j (by omega)
  all_goals have hN : (x.to.map Rc.addr).Nodup := Qv fun j hj q hq => hno j (by omega) q hq
  all_goals first
   | (rw [AY]
      exact ⟨fun h => ⟨hA, hN, by first | assumption | omega, by first | exact .inl (by assumption) | exact .inr (by assumption), by omega, h⟩, fun h => h.2.2.2.2.2⟩)
   | (rw [AO]
      intro h
      first
       | (have := h.2.2.1; omega)
       | (have := h.2.2.2.2.1; omega)
       | (rcases h.2.2.2.1 with h | h <;> contradiction))
end
def xI : Ct := An (lc LG.ag l0) (fun p => True) (fun p => .t (.v (.bool (BU (BI p.1)))))
section
attribute [local go_sem] lM J6 lm Bool.not_true Bool.not_false
set_option maxHeartbeats 1600000 in
theorem pq {G : Gt} (hG : Aj G) (hh : G.e 144 = AA 0 lM ∧ G.e 36 = AA 0 J6) : Gd G 89 (AA 0 xI) := by
 refine gr (fn := Tryz.f89) (n := 1) rfl hG ?_
 rintro ⟨s, ⟨⟩⟩ hpre
 simp -implicitDefEqProofs only [Tryz.f89, go_sem, hh, seval] at hpre ⊢
 refine AF [] (ι := {i : Nat // i ≤ s.items.length ∧ (∀ j, j < i → Co (s.items.getD j default) ∧ (s.items.getD j default).id ≤ s.last) ∧ ∀ j, 0 < j → j < i → (s.items.getD (j - 1) default).id < (s.items.getD j default).id}) (fun p => ⟨[(1, .pb 1001 0), (3, .t (.v (.int .i64 p.1)))], [(1001, some (.box ((Dk s).map .t)))]⟩) (fun p => s.items.length - p.1) ⟨0, by simp, by simp, by simp⟩ rfl ?_ ?_
 ·simp -implicitDefEqProofs only [go_sem, hh, seval]
  try simp
 ·rintro ⟨i, hi, hall, hasc⟩
  by_cases hlt : (i : Int) < s.items.length
  ·simp -implicitDefEqProofs only [hlt, decide_true, go_sem, hh, seval]
   with_reducible repeat' (first | apply ai | intro _ | ((first | apply s1 | apply s3 | apply s4) <;> intro hb <;> simp -implicitDefEqProofs only [hb, go_sem, hh, seval] <;> try simp only [qz] at hb))
   all_goals (try simp only [maxLen, tn, lm] at *)
   all_goals first | rfl | omega | skip
   all_goals (try rw [show ((i : Int) - 1).toNat = i - 1 from by omega] at hb)
   all_goals first
    | (rw [AO (fun h => by have h1 := h.1 _ (AE (xs := s.items) (j := i) (by omega)); first | exact hb h1.1 | omega)]; done)
    | (rw [AO (fun h => by have h1 := h.2.1 i (by omega) (by omega); omega)]; done)
    | skip
   all_goals
    refine ⟨⟨i + 1, by omega, DC (P := fun x : Im => Co x ∧ x.id ≤ s.last) hall ⟨by assumption, by omega⟩, fun j h0 hj => ?_⟩, by dsimp only; omega, ?_⟩
    ·by_cases e : j = i
     ·subst e; omega
     ·exact hasc j h0 (by omega)
    ·simp -implicitDefEqProofs only [go_sem, hh, seval]
     try simp
  ·simp -implicitDefEqProofs only [hlt, decide_false, go_sem, hh, seval]
   with_reducible repeat' (first | apply ai | intro _ | ((first | apply s1 | apply s3 | apply s4) <;> intro hb <;> simp -implicitDefEqProofs only [hb, go_sem, hh, seval] <;> try simp only [qz] at hb))
   all_goals (try simp only [maxLen, tn, lm] at *)
   all_goals first | rfl | omega | skip
   ·refine congrArg (fun b => T.v (Value.bool b)) ?_
    rw [← A8, AY]
    exact ⟨fun h => ⟨BX fun j hj => hall j (by omega), fun j h0 hj => hasc j h0 (by omega), hb, by omega⟩, fun h => by have := h.2.2.2; omega⟩
   ·rw [AO (fun h => hb h.2.2.1)]
end
def aq : Ct := An (lc LG.ag (lc A6 l0)) (fun p => True) (fun p => .t (.v (.int .i64 (A4 (fun x : Im => x.id = p.2.1) 0 p.1.items))))
section
attribute [local go_sem] lm
theorem ow {G : Gt} (hG : Aj G) : Gd G 34 (AA 0 aq) := by
 refine gr (fn := Tryz.f34) (n := 2) rfl hG ?_
 rintro ⟨s, n, ⟨⟩⟩ hpre
 simp -implicitDefEqProofs only [Tryz.f34, go_sem, seval] at hpre ⊢
 refine AF [] (ι := {i : Nat // i ≤ s.items.length ∧ A4 (fun x : Im => x.id = n) 0 s.items = A4 (fun x : Im => x.id = n) i (s.items.drop i)}) (fun p => ⟨[(1, .t (.v (.int .i64 n))), (2, .pb 1002 0), (5, .t (.v (.int .i64 p.1)))], [(1002, some (.box ((Dk s).map .t)))]⟩) (fun p => s.items.length - p.1) ⟨0, by simp, rfl⟩ rfl ?_ ?_
 ·simp -implicitDefEqProofs only [go_sem, seval]
  try simp
 ·rintro ⟨i, hi, hix⟩
  simp -implicitDefEqProofs only [go_sem, seval]
  with_reducible repeat' (first | apply ai | intro _ | ((first | apply s1 | apply s3 | apply s4) <;> intro hb <;> simp -implicitDefEqProofs only [hb, go_sem, seval] <;> try simp only [qz] at hb))
  all_goals (try simp only [maxLen, tn, lm] at *)
  all_goals first | rfl | omega | skip
  ·rw [hix, CT (p := fun x : Im => x.id = n) (by omega) hb]
  ·refine ⟨⟨i + 1, by omega, by rw [hix, DM (p := fun x : Im => x.id = n) (by omega) hb]⟩, by dsimp only; omega, ?_⟩
   simp -implicitDefEqProofs only [go_sem, seval]
   try simp
  ·rw [hix, CS (by omega)]
end
def tD : Ct := An (lc EL.ag (lc Ce.ag l0)) (fun p => True) (fun p => .t (.v (.int .i64 (A4 (fun r : Rc => r.addr = p.2.1) 0 p.1.to))))
section
attribute [local go_sem] lm
theorem ox {G : Gt} (hG : Aj G) : Gd G 35 (AA 0 tD) := by
 refine gr (fn := Tryz.f35) (n := 2) rfl hG ?_
 rintro ⟨x, a, ⟨⟩⟩ hpre
 simp -implicitDefEqProofs only [Tryz.f35, go_sem, seval] at hpre ⊢
 refine AF [] (ι := {i : Nat // i ≤ x.to.length ∧ A4 (fun r : Rc => r.addr = a) 0 x.to = A4 (fun r : Rc => r.addr = a) i (x.to.drop i)}) (fun p => ⟨[(2, .pb 1002 0), (3, .pb 1003 0), (5, .t (.v (.int .i64 p.1)))], [(1002, some (.box ((Ah x).map .t))), (1003, some (.box ((At a).map .t)))]⟩) (fun p => x.to.length - p.1) ⟨0, by simp, rfl⟩ rfl ?_ ?_
 ·simp -implicitDefEqProofs only [go_sem, seval]
  try simp
 ·rintro ⟨i, hi, hix⟩
  simp -implicitDefEqProofs only [go_sem, seval]
  with_reducible repeat' (first | apply ai | intro _ | ((first | apply s1 | apply s3 | apply s4) <;> intro hb <;> simp -implicitDefEqProofs only [hb, go_sem, seval] <;> try simp only [qz] at hb))
  all_goals (try simp only [maxLen, tn, lm] at *)
  all_goals first | rfl | omega | skip
  ·rw [hix, CT (p := fun r : Rc => r.addr = a) (by omega) (BW.2 (by simpa using hb))]
  ·refine ⟨⟨i + 1, by omega, by rw [hix, DM (p := fun r : Rc => r.addr = a) (by omega) (qV hb)]⟩, by dsimp only; omega, ?_⟩
   simp -implicitDefEqProofs only [go_sem, seval]
   try simp
  ·rw [hix, CS (by omega)]
end
def QF : Ct := An (lc EL.ag l0) (fun p => D0 p.1) (fun p => qy p.1)
section
attribute [local go_sem] lm List.map_nil List.length_nil List.nil_append Nat.zero_add
theorem cg {G : Gt} (hG : Aj G) : Gd G 145 (AA 0 QF) := by
 refine gr (fn := Tryz.f145) (n := 1) rfl hG ?_ (hs := fun _ p => Q6 _)
 rintro ⟨x, ⟨⟩⟩ hpre
 simp -implicitDefEqProofs only [Tryz.f145, go_sem, seval] at hpre ⊢
 obtain ⟨_, ⟨h1, _⟩, ⟨h2, _⟩⟩ := hpre
 with_reducible repeat' (first | apply ai | intro _ | ((first | apply s1 | apply s3 | apply s4) <;> intro hb <;> simp -implicitDefEqProofs only [hb, go_sem, seval] <;> try simp only [qz] at hb))
 all_goals (try simp only [maxLen, lm, List.length_nil] at *)
 all_goals first | rfl | omega | (simp_all; done) | skip
end
def tK : Ct := An (lc LG.ag l0) (fun p => EF p.1) (fun p => Q8 p.1)
section
attribute [local go_sem] QF lm List.length_append List.length_cons List.length_nil List.map_append List.mem_singleton forall_eq AS.nilb AS.renb Bool.not_false Bool.not_true List.set_cons_zero List.set_cons_succ List.set_nil
set_option maxHeartbeats 1600000 in
theorem pu {G : Gt} (hG : Aj G) (hh : G.e 145 = AA 0 QF) : Gd G 91 (AA 0 tK) := by
 refine LQ (dp := fun n => !(Nat.beq n 100002 || Nat.beq n 100004)) (fn := Tryz.f91) (n := 1) rfl hG ?_ (hs := fun _ p => G4 _)
 rintro ⟨s, ⟨⟩⟩ hpre
 simp -implicitDefEqProofs only [Tryz.f91, go_sem, hh, seval] at hpre ⊢
 have hpre' : GH D0 s.items := hpre
 with_reducible repeat' (first | apply ai | intro _ | ((first | apply s1 | apply s3 | apply s4) <;> intro hb <;> simp -implicitDefEqProofs only [hb, go_sem, hh, seval] <;> try simp only [qz] at hb))
 all_goals first | rfl | skip
 refine Ak (Le.nilb 1003 1 1901 true 5 rfl rfl rfl) (AW ?_)
 simp -implicitDefEqProofs only [go_sem, hh, seval]
 refine AF [] (ι := {i : Nat // i ≤ s.items.length}) (fun p => ⟨[(1, .pb 1001 0), (2, .pb 1002 0), (3, .pb 1003 0), (4, .t (.v (.int .i64 p.1)))], [(1001, some (.box ((Dk s).map .t))), (1002, some (.box [.t (.v (.int .i64 0)), .nil])), (1003, some (.box [.t (.v (.int .i64 s.last)), .h 1901])), (1901, some (.arr true 5 ((s.items.take p.1).map Ah)))]⟩) (fun p => s.items.length - p.1) ⟨0, by simp⟩ rfl ?_ ?_
 ·simp -implicitDefEqProofs only [go_sem, hh, seval]
  try simp
 ·rintro ⟨i, hi⟩
  by_cases hlt : (i : Int) < s.items.length
  ·have hok := hpre'.at (i := i) (by omega)
   have hlen : (s.items.take i).length = i := by simp; omega
   have hmax := hpre'.1
   simp -implicitDefEqProofs only [hlt, decide_true, tn, go_sem, hh, seval]
   with_reducible repeat' (first | apply ai | intro _ | ((first | apply s1 | apply s3 | apply s4) <;> intro hb <;> simp -implicitDefEqProofs only [hb, go_sem, hh, seval] <;> try simp only [qz] at hb))
   all_goals (try simp only [maxLen] at *)
   all_goals first | rfl | omega | assumption | decide | skip
   refine Ak (Le.renb 1003 1 1024 1901 rfl rfl rfl rfl) (AW ?_)
   simp -implicitDefEqProofs only [go_sem, hh, seval]
   with_reducible repeat' (first | apply ai | intro _ | ((first | apply s1 | apply s3 | apply s4) <;> intro hb <;> simp -implicitDefEqProofs only [hb, go_sem, hh, seval] <;> try simp only [qz] at hb))
   all_goals first | rfl | omega | decide | skip
   refine ⟨⟨i + 1, by omega⟩, by dsimp only; omega, ?_⟩
   simp -implicitDefEqProofs only [go_sem, hh, seval]
   simp only [BM Ah (show i < s.items.length by omega)]
   with_reducible repeat' (first | apply ai | intro _ | ((first | apply s1 | apply s3 | apply s4) <;> intro hb <;> simp -implicitDefEqProofs only [hb, go_sem, hh, seval] <;> try simp only [qz] at hb))
   all_goals first | rfl | (simp; done)
  ·simp -implicitDefEqProofs only [hlt, decide_false, go_sem, hh, seval]
   with_reducible repeat' (first | apply ai | intro _ | ((first | apply s1 | apply s3 | apply s4) <;> intro hb <;> simp -implicitDefEqProofs only [hb, go_sem, hh, seval] <;> try simp only [qz] at hb))
   all_goals first | rfl | omega | skip
   rw [List.take_of_length_le (by omega)]
end
def GM (x : Im) (k : Nat) : Im := ⟨x.id, x.frm, x.to.take k ++ x.to.drop (k + 1), x.body⟩
def Nn (xs : List Im) (i k : Nat) : List Im := if (GM (xs.getD i default) k).to = [] then xs.take i ++ xs.drop (i + 1) else xs.take i ++ (GM (xs.getD i default) k :: xs.drop (i + 1))
def B7 (s : Sp) (i k : Nat) : Sp := ⟨s.last, Nn s.items i k⟩
theorem WI {xs : List Rc} {k : Nat} (h : k < xs.length) : (xs.take k ++ xs.drop (k + 1)).length = xs.length - 1 := by simp; omega
def mj : Ct := An (lc LG.ag (lc A6 (lc A6 l0))) (fun p => EF p.1 ∧ 0 ≤ p.2.1 ∧ p.2.1 < p.1.items.length ∧ 0 ≤ p.2.2.1 ∧ p.2.2.1 < (p.1.items.getD p.2.1.toNat default).to.length) (fun p => .agg ((Dk (B7 p.1 p.2.1.toNat p.2.2.1.toNat)).map .t))
section
attribute [local go_sem] QF IX IH List.take_length List.drop_zero List.length_take List.length_drop lm List.length_append List.length_cons List.length_nil List.map_append List.map_nil List.map_cons List.nil_append Nat.zero_add List.mem_singleton forall_eq Bool.not_true Bool.not_false
set_option maxHeartbeats 1600000 in
theorem pv {G : Gt} (hG : Aj G) (hh : G.e 145 = AA 0 QF) : Gd G 92 (AA 1 mj) := by
 refine LQ (dp := fun n => Nat.ble 100000 n && !(Nat.beq n 100002)) (fn := Tryz.f92) (n := 3) rfl hG ?_
 rintro ⟨s, i, k, ⟨⟩⟩ hpre
 obtain ⟨hok, hi0, hi1, hk0, hk1⟩ := hpre
 dsimp only at hi0 hi1 hk0 hk1 ⊢
 obtain ⟨ni, rfl⟩ := Int.eq_ofNat_of_zero_le hi0
 obtain ⟨nk, rfl⟩ := Int.eq_ofNat_of_zero_le hk0
 have hok' : GH D0 s.items := hok
 simp only [tn] at hk1 ⊢
 have hx := hok'.at (i := ni) (by omega)
 have hmax := hok'.1
 have hmx : ((s.items.getD ni default).to.length : Int) ≤ 1048576 := hx.2.1.1
 have hi2 : ni < s.items.length := by omega
 have hk2 : nk < (s.items.getD ni default).to.length := by omega
 have e1 : ((ni : Int) + 1).toNat = ni + 1 := by omega
 have e2 : ((nk : Int) + 1).toNat = nk + 1 := by omega
 simp -implicitDefEqProofs only [Tryz.f92, tn, go_sem, hh, seval]
 with_reducible repeat' (first | apply ai | intro _ | ((first | apply s1 | apply s3 | apply s4) <;> intro hb <;> simp -implicitDefEqProofs only [hb, go_sem, hh, seval] <;> try simp only [qz] at hb))
 all_goals first | rfl | omega | assumption | decide | skip
 refine Ak (Le.frzL [1014]) (AW ?_)
 simp -implicitDefEqProofs only [go_sem, hh, seval]
 with_reducible repeat' (first | apply ai | intro _ | ((first | apply s1 | apply s3 | apply s4) <;> intro hb <;> simp -implicitDefEqProofs only [hb, go_sem, hh, seval] <;> try simp only [qz] at hb))
 all_goals (try simp only [maxLen, e1, e2, tn, List.take_length, List.drop_zero] at *)
 all_goals first | rfl | omega | assumption | decide | skip
 all_goals
  refine congrArg (T.sl 5) ?_
  simp only [B7, Nn]
  first
   | (rw [if_neg (fun e => by have := congrArg List.length e; simp only [GM, List.length_append, List.length_take, List.length_drop, List.length_nil] at this; omega)]; simp [GM, Ah]; done)
   | (rw [if_pos (List.eq_nil_of_length_eq_zero (by simp only [GM, List.length_append, List.length_take, List.length_drop]; omega))]; simp; done)
   | skip
end
theorem F8 {α : Type} (p : α → Prop) : ∀ (xs : List α) (k : Nat), A4 p k xs = -1 ∨ ((k : Int) ≤ A4 p k xs ∧ A4 p k xs < k + xs.length)
 | [], _ => .inl rfl
 | x :: t, k => by
   rw [A4]
   cases BU (p x)
   ·rcases F8 p t (k + 1) with h | h
    ·exact .inl h
    ·simp only [cond_false, List.length_cons]; right; omega
   ·simp only [cond_true, List.length_cons]; right; omega
noncomputable def Ai (s : Sp) (n : Int) : Int := A4 (fun x : Im => x.id = n) 0 s.items
noncomputable def Aw (x : Im) (a : Ad) : Int := A4 (fun r : Rc => r.addr = a) 0 x.to
noncomputable def AM (s : Sp) (n : Int) : Im := s.items.getD (Ai s n).toNat default
open Classical in
noncomputable def FB (s : Sp) (n : Int) (a : Ad) : Sp × Bool :=
 if BI s then (if Ai s n < 0 then (s, false) else if Aw (AM s n) a < 0 then (s, false) else (B7 s (Ai s n).toNat (Aw (AM s n) a).toNat, true)) else (⟨0, []⟩, false)
def ff (p : Sp × Bool) : AV := .tup [.agg ((Dk p.1).map .t), .t (.v (.bool p.2))]
def LX (p : Sp × Bool) : AV := .tup [Q8 p.1, .t (.v (.bool p.2))]
theorem G0 (p : Sp × Bool) : BT (LX p) := .tup _ fun c hc => by
 simp only [List.mem_cons, List.not_mem_nil, or_false] at hc
 rcases hc with rfl | rfl
 ·exact G4 _
 ·exact .v _
theorem Uv {s : Sp} {n : Int} {a : Ad} (h : ¬ BI s) : FB s n a = (⟨0, []⟩, false) := by unfold FB; rw [if_neg h]
theorem Zs {s : Sp} {n : Int} {a : Ad} (h : BI s) (hi : Ai s n < 0) : FB s n a = (s, false) := by unfold FB; rw [if_pos h, if_pos hi]
theorem Zt {s : Sp} {n : Int} {a : Ad} (h : BI s) (hi : ¬ Ai s n < 0) (hk : Aw (AM s n) a < 0) : FB s n a = (s, false) := by unfold FB; rw [if_pos h, if_neg hi, if_pos hk]
theorem JN {s : Sp} {n : Int} {a : Ad} (h : BI s) (hi : ¬ Ai s n < 0) (hk : ¬ Aw (AM s n) a < 0) : FB s n a = (B7 s (Ai s n).toNat (Aw (AM s n) a).toNat, true) := by unfold FB; rw [if_pos h, if_neg hi, if_neg hk]
theorem BS {s : Sp} {n : Int} (h : ¬ Ai s n < 0) : 0 ≤ Ai s n ∧ Ai s n < s.items.length := by
 rcases F8 (fun x : Im => x.id = n) s.items 0 with h1 | h1
 ·have : Ai s n = -1 := h1
  omega
 ·have : Ai s n < (0 : Nat) + s.items.length := h1.2
  omega
theorem C3 {x : Im} {a : Ad} (h : ¬ Aw x a < 0) : 0 ≤ Aw x a ∧ Aw x a < x.to.length := by
 rcases F8 (fun r : Rc => r.addr = a) x.to 0 with h1 | h1
 ·have : Aw x a = -1 := h1
  omega
 ·have : Aw x a < (0 : Nat) + x.to.length := h1.2
  omega
def PK (t : Int) : Int := 2 * 2 ^ (t - 1).toNat
theorem NT {a b : Nat} (h : a ≤ b) : (2 : Int) ^ a ≤ 2 ^ b := by
 have h1 := Nat.pow_le_pow_right (n := 2) (by omega) h
 have e : ∀ k : Nat, ((2 ^ k : Nat) : Int) = 2 ^ k := fun k => by simp
 rw [← e, ← e]
 omega
theorem NS {t : Int} {m : Nat} (h : t ≤ m + 1) : 2 ≤ PK t ∧ PK t ≤ 2 * 2 ^ m := by
 unfold PK
 have h1 : (2 : Int) ^ (t - 1).toNat ≤ 2 ^ m := NT (by omega)
 have h2 : (2 : Int) ^ 0 ≤ 2 ^ (t - 1).toNat := NT (by omega)
 simp only [Int.pow_zero] at h2
 omega
def T7 (r : Rc) (w : Int) : Rc := ⟨r.addr, r.tries + 1, w + PK (r.tries + 1)⟩
def LS (x : Im) (k : Nat) (w : Int) : Im := ⟨x.id, x.frm, x.to.set k (T7 (x.to.getD k default) w), x.body⟩
def KZ (s : Sp) (i k : Nat) (w : Int) : Sp := ⟨s.last, s.items.set i (LS (s.items.getD i default) k w)⟩
def LT (r : Rc) (w : Int) : Prop := r.tries + 1 ≥ 4 ∨ w + PK (r.tries + 1) > 9999
instance (r : Rc) (w : Int) : Decidable (LT r w) := by unfold LT; infer_instance
def FE (s : Sp) (i k : Nat) (w : Int) : Sp × Bool := if LT ((s.items.getD i default).to.getD k default) w then (s, false) else (KZ s i k w, true)
def lN : Ct := An (lc A6 l0) (fun p => p.1 ≤ 40) (fun p => .t (.v (.int .i64 (PK p.1))))
theorem ci {G : Gt} (hG : Aj G) : Gd G 146 (AA 0 lN) := by
 refine gr (fn := Tryz.f146) (n := 1) rfl hG ?_
 rintro ⟨t, ⟨⟩⟩ hpre
 simp -implicitDefEqProofs only [Tryz.f146, go_sem, seval] at hpre ⊢
 refine AF [] (ι := {j : Nat // j ≤ (t - 1).toNat}) (fun p => ⟨[(0, .t (.v (.int .i64 t))), (3, .t (.v (.int .i64 (2 * 2 ^ p.1)))), (4, .t (.v (.int .i64 (p.1 + 1))))], []⟩) (fun p => (t - 1).toNat - p.1) ⟨0, by simp⟩ rfl ?_ ?_
 ·simp -implicitDefEqProofs only [go_sem, seval]
  try simp
 ·rintro ⟨j, hj⟩
  have hb : (2 : Int) ^ j ≤ 2 ^ 40 := NT (by omega)
  have hp : (0 : Int) ≤ 2 ^ j := Int.le_of_lt (Int.pow_pos (by omega))
  have h40 : (2 : Int) ^ 40 = 1099511627776 := by decide
  simp -implicitDefEqProofs only [go_sem, seval]
  with_reducible repeat' (first | apply ai | intro _ | ((first | apply s1 | apply s3 | apply s4) <;> intro hb <;> simp -implicitDefEqProofs only [hb, go_sem, seval] <;> try simp only [qz] at hb))
  all_goals first | rfl | omega | skip
  ·refine ⟨⟨j + 1, by omega⟩, by dsimp only; omega, ?_⟩
   simp -implicitDefEqProofs only [go_sem, seval]
   with_reducible repeat' (first | apply ai | intro _ | ((first | apply s1 | apply s3 | apply s4) <;> intro hb <;> simp -implicitDefEqProofs only [hb, go_sem, seval] <;> try simp only [qz] at hb))
   all_goals first | rfl | (simp; omega) | (refine congrArg (fun z => AV.t (T.v (Value.int .i64 z))) ?_; rw [Int.pow_succ]; omega) | (refine congrArg (fun z => AV.t (T.v (Value.int .i64 z))) ?_; simp; done)
  ·rw [show PK t = 2 * 2 ^ j from by unfold PK; rw [show (t - 1).toNat = j from by omega]]
def tL : Ct := An (lc LG.ag (lc A6 (lc A6 (lc A6 l0)))) (fun p => EF p.1 ∧ BI p.1 ∧ (0 ≤ p.2.1 ∧ p.2.1 < p.1.items.length) ∧ (0 ≤ p.2.2.1 ∧ p.2.2.1 < (p.1.items.getD p.2.1.toNat default).to.length) ∧ 0 ≤ p.2.2.2.1 ∧ p.2.2.2.1 ≤ 9999) (fun p => ff (FE p.1 p.2.1.toNat p.2.2.1.toNat p.2.2.2.1))
section
attribute [local go_sem] QF lN IX IH List.take_length List.drop_zero List.length_take List.length_drop lm List.length_append List.length_cons List.length_nil List.map_append List.map_nil List.map_cons List.nil_append Nat.zero_add List.mem_singleton forall_eq Bool.not_true Bool.not_false ff KZ Ab BR List.length_set
set_option maxHeartbeats 1600000 in
theorem px {G : Gt} (hG : Aj G) (hh : G.e 145 = AA 0 QF ∧ G.e 146 = AA 0 lN) : Gd G 93 (AA 1 tL) := by
 refine LQ (dp := fun n => Nat.ble 100000 n) (fn := Tryz.f93) (n := 4) rfl hG ?_
 rintro ⟨s, i, k, w, ⟨⟩⟩ hpre
 dsimp only at hpre ⊢
 obtain ⟨hok, hsp, ⟨hi0, hi1⟩, ⟨hk0, hk1⟩, hw0, hw1⟩ := hpre
 obtain ⟨ni, rfl⟩ := Int.eq_ofNat_of_zero_le hi0
 obtain ⟨nk, rfl⟩ := Int.eq_ofNat_of_zero_le hk0
 have hok' : GH D0 s.items := hok
 simp only [tn] at hk1 ⊢
 have hx := hok'.at (i := ni) (by omega)
 have hmax := hok'.1
 have hmx : ((s.items.getD ni default).to.length : Int) ≤ 1048576 := hx.2.1.1
 have hi2 : ni < s.items.length := by omega
 have hk2 : nk < (s.items.getD ni default).to.length := by omega
 have hk3 : nk < ((s.items.getD ni default).to.map BD).length := by rw [lm]; exact hk2
 have hr := (hsp.1 _ (AE hi2)).1.1 _ (AE hk2)
 obtain ⟨_, ⟨ht0, ht1⟩, _⟩ := hr
 obtain ⟨hp0, hp1⟩ := NS (t := ((s.items.getD ni default).to.getD nk default).tries + 1) (m := 3) (by omega)
 have h8 : (2 : Int) * 2 ^ 3 = 16 := by decide
 by_cases hno : LT ((s.items.getD ni default).to.getD nk default) w
 ·unfold FE
  rw [if_pos hno]
  rcases hno with hno | hno
  ·simp -implicitDefEqProofs only [Tryz.f93, tn, hno, decide_true, go_sem, hh, seval]
   with_reducible repeat' (first | apply ai | intro _ | ((first | apply s1 | apply s3 | apply s4) <;> intro hb <;> simp -implicitDefEqProofs only [hb, go_sem, hh, seval] <;> try simp only [qz] at hb))
   all_goals first | rfl | omega | assumption | decide | skip
   all_goals trace_state
  ·simp -implicitDefEqProofs only [Tryz.f93, tn, hno, decide_true, go_sem, hh, seval]
   with_reducible repeat' (first | apply ai | intro _ | ((first | apply s1 | apply s3 | apply s4) <;> intro hb <;> simp -implicitDefEqProofs only [hb, go_sem, hh, seval] <;> try simp only [qz] at hb))
   all_goals first | rfl | omega | assumption | decide | skip
   all_goals trace_state
 ·unfold FE
  rw [if_neg hno]
  have hno1 : ¬ ((s.items.getD ni default).to.getD nk default).tries + 1 ≥ 4 := fun h => hno (.inl h)
  have hno2 : ¬ w + PK (((s.items.getD ni default).to.getD nk default).tries + 1) > 9999 := fun h => hno (.inr h)
  simp -implicitDefEqProofs only [Tryz.f93, tn, FQ hk3, hno1, hno2, decide_false, go_sem, hh, seval]
  with_reducible repeat' (first | apply ai | intro _ | ((first | apply s1 | apply s3 | apply s4) <;> intro hb <;> simp -implicitDefEqProofs only [hb, go_sem, hh, seval] <;> try simp only [qz] at hb))
  all_goals first | rfl | omega | assumption | decide | skip
  refine congrArg (T.sl 5) ?_
  rw [Yb, Na]
  rfl
end
open Classical in
noncomputable def Cu (s : Sp) (n : Int) (a : Ad) (w : Int) : Sp × Bool :=
 if BI s then (if Ai s n < 0 then (s, false) else if ¬ (0 ≤ w ∧ w ≤ 9999) then (s, false) else if Aw (AM s n) a < 0 then (s, false) else FE s (Ai s n).toNat (Aw (AM s n) a).toNat w) else (⟨0, []⟩, false)
section
variable {s : Sp} {n : Int} {a : Ad} {w : Int}
theorem TE (h : ¬ BI s) : Cu s n a w = (⟨0, []⟩, false) := by unfold Cu; rw [if_neg h]
theorem Uw (h : BI s) (hi : Ai s n < 0) : Cu s n a w = (s, false) := by unfold Cu; rw [if_pos h, if_pos hi]
theorem Uy (h : BI s) (hi : ¬ Ai s n < 0) (hw : ¬ (0 ≤ w ∧ w ≤ 9999)) : Cu s n a w = (s, false) := by unfold Cu; rw [if_pos h, if_neg hi, if_pos hw]
theorem Ux (h : BI s) (hi : ¬ Ai s n < 0) (hw : 0 ≤ w ∧ w ≤ 9999) (hk : Aw (AM s n) a < 0) : Cu s n a w = (s, false) := by unfold Cu; rw [if_pos h, if_neg hi, if_neg (fun h => h hw), if_pos hk]
theorem Jk (h : BI s) (hi : ¬ Ai s n < 0) (hw : 0 ≤ w ∧ w ≤ 9999) (hk : ¬ Aw (AM s n) a < 0) : Cu s n a w = FE s (Ai s n).toNat (Aw (AM s n) a).toNat w := by unfold Cu; rw [if_pos h, if_neg hi, if_neg (fun h => h hw), if_neg hk]
end
theorem Mb {s : AS} {K : Kt} : Rj [] false s K = (K (.t (.v (.bool true))) s ∧ K (.t (.v (.bool false))) s) := propext ⟨fun h => ⟨h.1 rfl, h.2⟩, fun h => ⟨fun _ => h.1, h.2⟩⟩
theorem Ma {e : List T} {es : List (List T)} {s : AS} {K : Kt} : Rj (e :: es) false s K = K (.t (.v (.bool false))) s := propext ⟨fun h => h.2, fun h => ⟨fun e => (by cases e), h⟩⟩
theorem UV {xs : List Rc} {i : Nat} (h : i < xs.length) : ((xs.map Rc.addr).take (i + 1)).map At = ((xs.map Rc.addr).take i).map At ++ [[.v (.string (xs.getD i default).addr.user), .v (.string (xs.getD i default).addr.domain)]] := by
 have e : (xs.map Rc.addr).getD i default = (xs.getD i default).addr := by
  simp only [List.getD_eq_getElem?_getD, List.getElem?_map, List.getElem?_eq_getElem h, Option.map_some, Option.getD_some]
 rw [BM At (by rw [lm]; exact h), e]
 rfl
noncomputable def Lw (s : Sp) (n : Int) (a : Ad) : AV := if Ai s n < 0 then .tup [.t (.v (.int .i64 0)), .t (.v (.int .i64 0)), .t (.v (.bool false))] else .tup [.t (.v (.int .i64 (Ai s n))), .t (.v (.int .i64 (Aw (AM s n) a))), .t (.v (.bool (decide (Aw (AM s n) a ≥ 0))))]
theorem Oe (s : Sp) (n : Int) (a : Ad) : BT (Lw s n a) := by
 unfold Lw
 split
 all_goals
  refine .tup _ fun c hc => ?_
  simp only [List.mem_cons, List.not_mem_nil, or_false] at hc
  rcases hc with rfl | rfl | rfl <;> exact .v _
theorem JW {s : Sp} {n : Int} {a : Ad} (h : Ai s n < 0) : Lw s n a = .tup [.t (.v (.int .i64 0)), .t (.v (.int .i64 0)), .t (.v (.bool false))] := if_pos h
theorem F5 {s : Sp} {n : Int} {a : Ad} (h : ¬ Ai s n < 0) : Lw s n a = .tup [.t (.v (.int .i64 (Ai s n))), .t (.v (.int .i64 (Aw (AM s n) a))), .t (.v (.bool (decide (Aw (AM s n) a ≥ 0))))] := if_neg h
def ao : Ct := An (lc A6 l0) (fun p => True) (fun p => .t (.v (.bool (BU (0 ≤ p.1 ∧ p.1 ≤ 9999)))))
section
attribute [local go_sem] QJ
theorem oh {G : Gt} (hG : Aj G) (hh : G.e 27 = AA 0 QJ) : Gd G 28 (AA 0 ao) := by
 refine gr (fn := Tryz.f28) (n := 1) rfl hG ?_
 rintro ⟨n, ⟨⟩⟩ hpre
 simp -implicitDefEqProofs only [Tryz.f28, go_sem, hh, seval] at hpre ⊢
 with_reducible repeat' (first | apply ai | intro _ | ((first | apply s1 | apply s3 | apply s4) <;> intro hb <;> simp -implicitDefEqProofs only [hb, go_sem, hh, seval] <;> try simp only [qz] at hb))
 all_goals first | rfl | skip
end
def VP : Ct := An (lc EL.ag l0) (fun p => D0 p.1) (fun p => .t (.v (.bool (BU (Co p.1)))))
section
attribute [local go_sem] Vg QJ ao mg VS mh IX IH List.take_length List.drop_zero List.length_take List.length_drop lm List.length_append List.length_cons List.length_nil List.map_append List.map_nil List.map_cons List.nil_append Nat.zero_add List.mem_singleton forall_eq Bool.not_true Bool.not_false Aa AZ
set_option maxHeartbeats 1600000 in
theorem cB {G : Gt} (hG : Aj G) (hh : G.e 47 = AA 0 Vg ∧ G.e 27 = AA 0 QJ ∧ G.e 28 = AA 0 ao ∧ G.e 45 = AA 0 mg ∧ G.e 153 = AA 0 VS ∧ G.e 46 = AA 0 mh) : Gd G 102 (AA 0 VP) := by
 refine gr (fn := Tryz.f102) (n := 1) rfl hG ?_
 rintro ⟨x, ⟨⟩⟩ hpre
 simp -implicitDefEqProofs only [Tryz.f102, go_sem, hh, seval] at hpre ⊢
 obtain ⟨⟨_, hfd⟩, ⟨hl1, hto⟩, ⟨hl2, hbd⟩⟩ := hpre
 have hfd' : x.frm.domain.size ≤ 2000000 := by have : x.frm.domain.size ≤ 1048576 := hfd; omega
 have hbd' : ∀ s ∈ x.body, s.size ≤ 2000000 := fun s hs => by have : s.size ≤ 1048576 := hbd s hs; omega
 have hto' : ∀ j, j < x.to.length → (x.to.getD j default).addr.domain.size ≤ 2000000 := fun j hj => by have : (x.to.getD j default).addr.domain.size ≤ 1048576 := (hto _ (AE hj)).2; omega
 with_reducible repeat' (first | apply ai | intro _ | ((first | apply s1 | apply s3 | apply s4) <;> intro hb <;> simp -implicitDefEqProofs only [hb, go_sem, hh, seval] <;> try simp only [qz] at hb))
 all_goals first | rfl | skip
 refine AF [(3, 1903, true, 2)] (ι := {i : Nat // i ≤ x.to.length ∧ ∀ j, j < i → N4 (x.to.getD j default)}) (fun p => ⟨[(1, .pb 1001 0), (3, .h 1903), (7, .t (.sl 4 (x.to.map BD))), (8, .t (.v (.int .i64 x.to.length))), (9, .t (.v (.int .i64 p.1)))], [(1001, some (.box ((Ah x).map .t))), (1903, some (.arr true 2 (((x.to.map Rc.addr).take p.1).map At)))]⟩) (fun p => x.to.length - p.1) ⟨0, by simp, by simp⟩ rfl ?_ ?_
 ·simp -implicitDefEqProofs only [go_sem, hh, seval]
  try simp
 ·rintro ⟨i, hi, hall⟩
  by_cases hlt : (i : Int) < x.to.length
  ·have hd := hto' i (by omega)
   have hlen : ((x.to.map Rc.addr).take i).length = i := by simp; omega
   simp -implicitDefEqProofs only [hlt, decide_true, tn, go_sem, hh, seval]
   with_reducible repeat' (first | apply ai | intro _ | ((first | apply s1 | apply s3 | apply s4) <;> intro hb <;> simp -implicitDefEqProofs only [hb, go_sem, hh, seval] <;> try simp only [qz] at hb))
   all_goals (try simp only [maxLen] at *)
   all_goals first | rfl | omega | assumption | decide | skip
   all_goals first
    | (rw [AO (fun h => by have h1 := h.1 _ (AE (xs := x.to) (j := i) (by omega)); first | exact hb h1.1 | exact hb h1.2.1 | exact hb h1.2.2)]; done)
    | skip
   refine ⟨⟨i + 1, by omega, DC (P := N4) hall ⟨by assumption, by assumption, by assumption⟩⟩, by dsimp only; omega, ?_⟩
   simp -implicitDefEqProofs only [go_sem, hh, seval]
   simp only [UV (show i < x.to.length by omega)]
   with_reducible repeat' (first | apply ai | intro _ | ((first | apply s1 | apply s3 | apply s4) <;> intro hb <;> simp -implicitDefEqProofs only [hb, go_sem, hh, seval] <;> try simp only [qz] at hb))
   all_goals first | rfl | (simp; done) | (simp; omega)
  ·have hA : ∀ r ∈ x.to, N4 r := BX fun j hj => hall j (by omega)
   simp -implicitDefEqProofs only [hlt, decide_false, go_sem, hh, seval]
   with_reducible repeat' (first | apply ai | intro _ | ((first | apply s1 | apply s3 | apply s4) <;> intro hb <;> simp -implicitDefEqProofs only [hb, go_sem, hh, seval] <;> try simp only [qz] at hb))
   all_goals (try simp only [maxLen] at *)
   all_goals first | rfl | omega | assumption | decide | exact hbd' _ (by assumption) | skip
   all_goals (try rw [List.take_of_length_le (by rw [lm]; omega)] at hb)
   all_goals first
    | (rw [AY]
       exact ⟨fun h => ⟨hA, hb, by assumption, by assumption, by omega, h⟩, fun h => h.2.2.2.2.2⟩)
    | (rw [AO]
       intro h
       first
        | exact hb h.2.1
        | exact hb h.2.2.1
        | exact hb h.2.2.2.1
        | exact hb (by have := h.2.2.2.2.1; omega))
    | skip
end
def Vf : Ct := An (lc LG.ag l0) (fun p => EF p.1) (fun p => .t (.v (.bool (BU (BI p.1)))))
section
attribute [local go_sem] VP QJ IX IH List.take_length List.drop_zero List.length_take List.length_drop lm List.length_append List.length_cons List.length_nil List.map_append List.map_nil List.map_cons List.nil_append Nat.zero_add List.mem_singleton forall_eq Bool.not_true Bool.not_false Aa AZ
set_option maxHeartbeats 1600000 in
theorem pD {G : Gt} (hG : Aj G) (hh : G.e 102 = AA 0 VP ∧ G.e 27 = AA 0 QJ) : Gd G 43 (AA 0 Vf) := by
 refine gr (fn := Tryz.f43) (n := 1) rfl hG ?_
 rintro ⟨s, ⟨⟩⟩ hpre
 simp -implicitDefEqProofs only [Tryz.f43, go_sem, hh, seval] at hpre ⊢
 have hok' : GH D0 s.items := hpre
 have hmx := hok'.1
 with_reducible repeat' (first | apply ai | intro _ | ((first | apply s1 | apply s3 | apply s4) <;> intro hb <;> simp -implicitDefEqProofs only [hb, go_sem, hh, seval] <;> try simp only [qz] at hb))
 all_goals first | rfl | skip
 refine AF [] (ι := {i : Nat // i ≤ s.items.length ∧ (∀ j, j < i → Co (s.items.getD j default) ∧ (s.items.getD j default).id ≤ s.last) ∧ ∀ j, 0 < j → j < i → (s.items.getD (j - 1) default).id < (s.items.getD j default).id}) (fun p => ⟨[(1, .pb 1001 0), (3, .t (.v (.int .i64 (if p.1 = 0 then 0 else (s.items.getD (p.1 - 1) default).id)))), (7, .t (.sl 5 (s.items.map Ah))), (8, .t (.v (.int .i64 s.items.length))), (9, .t (.v (.int .i64 p.1)))], [(1001, some (.box ((Dk s).map .t)))]⟩) (fun p => s.items.length - p.1) ⟨0, by simp, by simp, by simp⟩ rfl ?_ ?_
 ·simp -implicitDefEqProofs only [go_sem, hh, seval]
  try simp
 ·rintro ⟨i, hi, hall, hasc⟩
  have hgen : ∀ L : Int, L = (if i = 0 then 0 else (s.items.getD (i - 1) default).id) → True := fun _ _ => trivial
  obtain ⟨L, hL⟩ : ∃ L : Int, L = (if i = 0 then 0 else (s.items.getD (i - 1) default).id) := ⟨_, rfl⟩
  by_cases hlt : (i : Int) < s.items.length
  ·have hok := hok'.at (i := i) (by omega)
   dsimp only
   rw [← hL]
   simp -implicitDefEqProofs only [hlt, decide_true, tn, go_sem, hh, seval]
   with_reducible repeat' (first | apply ai | intro _ | ((first | apply s1 | apply s3 | apply s4) <;> intro hb <;> simp -implicitDefEqProofs only [hb, go_sem, hh, seval] <;> try simp only [qz] at hb))
   all_goals (try simp only [maxLen] at *)
   all_goals first | rfl | omega | assumption | decide | skip
   all_goals (try have h0 := (show Co (s.items.getD i default) from by assumption).2.2.1)
   all_goals first
    | (rw [AO]
       intro h
       have h1 := h.1 _ (AE (xs := s.items) (j := i) (by omega))
       first
        | exact hb h1.1
        | omega
        | (by_cases e : i = 0
           ·rw [if_pos e] at hL; omega
           ·rw [if_neg e] at hL
            have h2 := h.2.1 i (by omega) (by omega)
            omega))
    | skip
   refine ⟨⟨i + 1, by omega, DC (P := fun x : Im => Co x ∧ x.id ≤ s.last) hall ⟨by assumption, by omega⟩, fun j h0 hj => ?_⟩, by dsimp only; omega, ?_⟩
   ·by_cases e : j = i
    ·subst e
     rw [if_neg (by omega)] at hL
     omega
    ·exact hasc j h0 (by omega)
   ·simp -implicitDefEqProofs only [go_sem, hh, seval]
    try simp
  ·dsimp only
   rw [← hL]
   simp -implicitDefEqProofs only [hlt, decide_false, go_sem, hh, seval]
   with_reducible repeat' (first | apply ai | intro _ | ((first | apply s1 | apply s3 | apply s4) <;> intro hb <;> simp -implicitDefEqProofs only [hb, go_sem, hh, seval] <;> try simp only [qz] at hb))
   all_goals (try simp only [maxLen] at *)
   all_goals first | rfl | omega | assumption | decide | skip
   ·refine congrArg (fun b => T.v (Value.bool b)) ?_
    rw [← A8, AY]
    exact ⟨fun h => ⟨BX fun j hj => hall j (by omega), fun j h0 hj => hasc j h0 (by omega), hb, by omega⟩, fun h => by have := h.2.2.2; omega⟩
   ·rw [AO (fun h => hb h.2.2.1)]
end
def lI : Ct := An (lc Pe.asl l0) (fun p => (p.1.length : Int) ≤ 1048576) (fun p => .o true 4 (p.1.map BD))
section
attribute [local go_sem] Mb Ma lm List.nil_append List.map_nil List.map_cons List.length_cons List.length_nil
theorem cY {G : Gt} (hG : Aj G) : Gd G 138 (AA 0 lI) := by
 refine gr (fn := Tryz.f138) (n := 1) rfl hG ?_ (hs := fun _ _ => .deep _ _)
 rintro ⟨xs, ⟨⟩⟩ hpre
 dsimp only at hpre ⊢
 cases xs with
 | nil =>
   simp -implicitDefEqProofs only [Tryz.f138, go_sem, seval]
   with_reducible repeat' (first | apply ai | intro _ | ((first | apply s1 | apply s3 | apply s4) <;> intro hb <;> simp -implicitDefEqProofs only [hb, go_sem, seval] <;> try simp only [qz] at hb))
   all_goals (try simp only [maxLen, lm] at *)
   all_goals first | rfl | omega | exact of_eq_true (MN []) | (simp; done) | skip
 | cons x xs =>
   simp only [List.length_cons] at hpre
   simp -implicitDefEqProofs only [Tryz.f138, go_sem, seval]
   with_reducible repeat' (first | apply ai | intro _ | ((first | apply s1 | apply s3 | apply s4) <;> intro hb <;> simp -implicitDefEqProofs only [hb, go_sem, seval] <;> try simp only [qz] at hb))
   all_goals (try simp only [maxLen, lm] at *)
   all_goals first | rfl | omega | exact of_eq_true (MN (x :: xs)) | exact of_eq_true (XU (x :: xs)) _ (by assumption) | (simp; done) | skip
end
def Vh : Ct := An (lc Al.asl l0) (fun p => (p.1.length : Int) ≤ 1048576) (fun p => .o true 1 (p.1.map AH))
section
attribute [local go_sem] Mb Ma lm List.nil_append List.map_nil List.map_cons List.length_cons List.length_nil
theorem pQ {G : Gt} (hG : Aj G) : Gd G 68 (AA 0 Vh) := by
 refine gr (fn := Tryz.f68) (n := 1) rfl hG ?_ (hs := fun _ _ => .deep _ _)
 rintro ⟨xs, ⟨⟩⟩ hpre
 dsimp only at hpre ⊢
 cases xs with
 | nil =>
   simp -implicitDefEqProofs only [Tryz.f68, go_sem, seval]
   with_reducible repeat' (first | apply ai | intro _ | ((first | apply s1 | apply s3 | apply s4) <;> intro hb <;> simp -implicitDefEqProofs only [hb, go_sem, seval] <;> try simp only [qz] at hb))
   all_goals (try simp only [maxLen, lm] at *)
   all_goals first | rfl | omega | exact of_eq_true (Jf []) | (simp; done) | skip
 | cons x xs =>
   simp only [List.length_cons] at hpre
   simp -implicitDefEqProofs only [Tryz.f68, go_sem, seval]
   with_reducible repeat' (first | apply ai | intro _ | ((first | apply s1 | apply s3 | apply s4) <;> intro hb <;> simp -implicitDefEqProofs only [hb, go_sem, seval] <;> try simp only [qz] at hb))
   all_goals (try simp only [maxLen, lm] at *)
   all_goals first | rfl | omega | exact of_eq_true (Jf (x :: xs)) | exact of_eq_true (ST (x :: xs)) _ (by assumption) | (simp; done) | skip
end
theorem Zj {n : Int} : LH.sem (.num n) = fun x : Im => x.id = n := rfl
theorem Zk {b : Ad} : Nv.sem (.who b) = fun r : Rc => r.addr = b := rfl
def mf : Ct := An (lc LG.ag (lc A6 (lc Ce.ag l0))) (fun p => True) (fun p => Lw p.1 p.2.1 p.2.2.1)
section
attribute [local go_sem] wF xA BO BN Bool.not_true Bool.not_false Bw DH C5 C7 C6 C8 G8 G9 MI MJ ML RU RV Zj Zk
set_option maxHeartbeats 800000 in
theorem oe {G : Gt} (hG : Aj G) (hh : G.e 76 = AA 0 wF ∧ G.e 78 = AA 0 xA) : Gd G 26 (AA 0 mf) := by
 refine gr (fn := Tryz.f26) (n := 3) rfl hG ?_ (hs := fun _ p => Oe _ _ _)
 rintro ⟨s, n, a, ⟨⟩⟩ hpre
 dsimp only
 by_cases hi : Ai s n < 0
 ·have hi' : A4 (fun x : Im => x.id = n) 0 s.items < 0 := hi
  rw [JW hi]
  simp -implicitDefEqProofs only [Tryz.f26, hi', decide_true, go_sem, hh, seval]
  with_reducible repeat' (first | apply ai | intro _ | ((first | apply s1 | apply s3 | apply s4) <;> intro hb <;> simp -implicitDefEqProofs only [hb, go_sem, hh, seval] <;> try simp only [qz] at hb))
  all_goals first | rfl | omega | exact trivial | (simp; done) | skip
 ·have hi' : ¬ A4 (fun x : Im => x.id = n) 0 s.items < 0 := hi
  obtain ⟨hi0, hi1⟩ := BS hi
  have hi0' : 0 ≤ A4 (fun x : Im => x.id = n) 0 s.items := hi0
  have hi1' : A4 (fun x : Im => x.id = n) 0 s.items < s.items.length := hi1
  rw [F5 hi]
  simp -implicitDefEqProofs only [Tryz.f26, hi', decide_false, go_sem, hh, seval]
  with_reducible repeat' (first | apply ai | intro _ | ((first | apply s1 | apply s3 | apply s4) <;> intro hb <;> simp -implicitDefEqProofs only [hb, go_sem, hh, seval] <;> try simp only [qz] at hb))
  all_goals first | rfl | omega | exact trivial | (simp; done) | skip
  all_goals trace_state
end
def xE : Ct := An (lc A6 l0) (fun p => True) (fun p => .t (.v (.int .i64 (if 1 ≤ p.1 ∧ p.1 ≤ 4 then PK p.1 else -1))))
section
attribute [local go_sem] QJ Aa AZ
theorem ph {G : Gt} (hG : Aj G) (hh : G.e 27 = AA 0 QJ) : Gd G 82 (AA 0 xE) := by
 refine gr (fn := Tryz.f82) (n := 1) rfl hG ?_
 rintro ⟨t, ⟨⟩⟩ hpre
 dsimp only
 have bt0 : True := trivial
 simp -implicitDefEqProofs only [Tryz.f82, go_sem, hh, seval]
 with_reducible repeat' (first | apply ai | intro _ | ((first | apply s1 | apply s3 | apply s4) <;> intro hb <;> simp -implicitDefEqProofs only [hb, go_sem, hh, seval] <;> try simp only [qz] at hb))
 all_goals first
  | rfl
  | omega
  | (rw [if_neg (by assumption)]; done)
  | (rw [if_pos (by assumption)]; rfl)
  | (obtain ⟨hp0, hp1⟩ := NS (t := t) (m := 3) (by omega)
     have h8 : (2 : Int) * 2 ^ 3 = 16 := by decide
     have e : (2 : Int) * 2 ^ (t - 1).toNat = PK t := rfl
     omega)
  | skip
end
def ax : Ct := An (lc LG.ag l0) (fun p => EF p.1) (fun p => Q8 p.1)
section
attribute [local go_sem] lI Vh lm List.length_append List.length_cons List.length_nil List.map_append List.mem_singleton forall_eq AS.nilb AS.renb Bool.not_false Bool.not_true List.set_cons_zero List.set_cons_succ List.set_nil
set_option maxHeartbeats 1600000 in
theorem pX {G : Gt} (hG : Aj G) (hh : G.e 138 = AA 0 lI ∧ G.e 68 = AA 0 Vh) : Gd G 74 (AA 0 ax) := by
 refine gr (fn := Tryz.f74) (n := 1) rfl hG ?_ (hs := fun _ p => G4 _)
 rintro ⟨s, ⟨⟩⟩ hpre
 simp -implicitDefEqProofs only [Tryz.f74, go_sem, hh, seval] at hpre ⊢
 have hok' : GH D0 s.items := hpre
 have hmx := hok'.1
 with_reducible repeat' (first | apply ai | intro _ | ((first | apply s1 | apply s3 | apply s4) <;> intro hb <;> simp -implicitDefEqProofs only [hb, go_sem, hh, seval] <;> try simp only [qz] at hb))
 all_goals first | rfl | skip
 refine AF [(3, 1903, true, 5)] (ι := {i : Nat // i ≤ s.items.length}) (fun p => ⟨[(1, .pb 1001 0), (2, .pb 1002 0), (3, .h 1903), (7, .t (.sl 5 (s.items.map Ah))), (8, .t (.v (.int .i64 s.items.length))), (9, .t (.v (.int .i64 p.1)))], [(1001, some (.box ((Dk s).map .t))), (1002, some (.box [.t (.v (.int .i64 0)), .nil])), (1903, some (.arr true 5 ((s.items.take p.1).map Ah)))]⟩) (fun p => s.items.length - p.1) ⟨0, by simp⟩ rfl ?_ ?_
 ·simp -implicitDefEqProofs only [go_sem, hh, seval]
  try simp
 ·rintro ⟨i, hi⟩
  by_cases hlt : (i : Int) < s.items.length
  ·have hok := hok'.at (i := i) (by omega)
   obtain ⟨_, ⟨hl1, _⟩, ⟨hl2, _⟩⟩ := hok
   have hlen : (s.items.take i).length = i := by simp; omega
   simp -implicitDefEqProofs only [hlt, decide_true, tn, go_sem, hh, seval]
   with_reducible repeat' (first | apply ai | intro _ | ((first | apply s1 | apply s3 | apply s4) <;> intro hb <;> simp -implicitDefEqProofs only [hb, go_sem, hh, seval] <;> try simp only [qz] at hb))
   all_goals (try simp only [maxLen] at *)
   all_goals first | rfl | omega | assumption | decide | skip
   refine ⟨⟨i + 1, by omega⟩, by dsimp only; omega, ?_⟩
   simp -implicitDefEqProofs only [go_sem, hh, seval]
   simp only [BM Ah (show i < s.items.length by omega)]
   with_reducible repeat' (first | apply ai | intro _ | ((first | apply s1 | apply s3 | apply s4) <;> intro hb <;> simp -implicitDefEqProofs only [hb, go_sem, hh, seval] <;> try simp only [qz] at hb))
   all_goals first | rfl | (simp; done) | skip
  ·simp -implicitDefEqProofs only [hlt, decide_false, go_sem, hh, seval]
   with_reducible repeat' (first | apply ai | intro _ | ((first | apply s1 | apply s3 | apply s4) <;> intro hb <;> simp -implicitDefEqProofs only [hb, go_sem, hh, seval] <;> try simp only [qz] at hb))
   all_goals (try simp only [maxLen] at *)
   all_goals first | rfl | omega | assumption | decide | skip
   rw [List.take_of_length_le (by omega)]
end
theorem Of {s : Sp} {n : Int} {a : Ad} {ni nk : Nat} (h : Ai s n = ni) (ht : AM s n = s.items.getD ni default) (hk : Aw (AM s n) a = nk) : Lw s n a = .tup [.t (.v (.int .i64 ni)), .t (.v (.int .i64 nk)), .t (.v (.bool true))] := by
 rw [F5 (by omega), h, hk, decide_eq_true (by omega : (nk : Int) ≥ 0)]
theorem Yc {α : Type} [Inhabited α] {xs : List α} {i : Nat} (h : i < xs.length) : xs.set i (xs.getD i default) = xs := by
 rw [List.getD_eq_getElem?_getD, List.getElem?_eq_getElem h, Option.getD_some, List.set_getElem_self]
theorem Sv {xs : List Im} {i : Nat} (h : i < xs.length) : (xs.map Ah).set i [.v (.int .i64 (xs.getD i default).id), .v (.string (xs.getD i default).frm.user), .v (.string (xs.getD i default).frm.domain), .sl 4 ((xs.getD i default).to.map BD), .sl 1 ((xs.getD i default).body.map AH)] = xs.map Ah := by
 rw [Na]
 exact congrArg (List.map Ah) (Yc h)
def wr : Ct := An (lc LG.ag (lc A6 (lc Ce.ag (lc A6 l0)))) (fun p => EF p.1) (fun p => LX (Cu p.1 p.2.1 p.2.2.1 p.2.2.2.1))
section
attribute [local go_sem] Vf ax mf ao xE lm List.length_set tn Ab BR LX AS.opn AS.cls AS.nilb AS.renb Bool.not_false Bool.not_true List.set_set List.set_cons_zero List.set_cons_succ List.set_nil List.mem_singleton forall_eq
set_option maxHeartbeats 3200000 in
theorem oo {G : Gt} (hG : Aj G) (hh : G.e 43 = AA 0 Vf ∧ G.e 74 = AA 0 ax ∧ G.e 26 = AA 0 mf ∧ G.e 28 = AA 0 ao ∧ G.e 82 = AA 0 xE) : Gd G 30 (AA 0 wr) := by
 refine LQ (dp := fun n => !(Nat.beq n 100007 || Nat.beq n 100010 || Nat.beq n 100012)) (fn := Tryz.f30) (n := 4) rfl hG ?_ (hs := fun _ p => G0 _)
 rintro ⟨s, n, a, w, ⟨⟩⟩ hpre
 have hok' : GH D0 s.items := hpre
 have hmx := hok'.1
 dsimp only at hpre ⊢
 by_cases h : BI s
 ·have b1 := Ag h
  by_cases hi : Ai s n < 0
  ·rw [Uw h hi]
   simp -implicitDefEqProofs only [Tryz.f30, b1, JW hi, go_sem, hh, seval]
   with_reducible repeat' (first | apply ai | intro _ | ((first | apply s1 | apply s3 | apply s4) <;> intro hb <;> simp -implicitDefEqProofs only [hb, go_sem, hh, seval] <;> try simp only [qz] at hb))
   all_goals first | rfl | omega | assumption | decide | skip
   all_goals trace_state
  ·by_cases hw : 0 ≤ w ∧ w ≤ 9999
   ·have bw := Ag hw
    by_cases hk : Aw (AM s n) a < 0
    ·have hk' : ¬ Aw (AM s n) a ≥ 0 := by omega
     rw [Ux h hi hw hk]
     simp -implicitDefEqProofs only [Tryz.f30, b1, bw, F5 hi, hk', decide_false, go_sem, hh, seval]
     with_reducible repeat' (first | apply ai | intro _ | ((first | apply s1 | apply s3 | apply s4) <;> intro hb <;> simp -implicitDefEqProofs only [hb, go_sem, hh, seval] <;> try simp only [qz] at hb))
     all_goals first | rfl | omega | assumption | decide | skip
     all_goals trace_state
    ·obtain ⟨hi0, hi1⟩ := BS hi
     obtain ⟨hk0, hk1⟩ := C3 hk
     obtain ⟨ni, hni⟩ := Int.eq_ofNat_of_zero_le hi0
     obtain ⟨nk, hnk⟩ := Int.eq_ofNat_of_zero_le hk0
     have hth : AM s n = s.items.getD ni default := by unfold AM; rw [hni, tn]
     have hf := Of hni hth hnk
     rw [Jk h hi hw hk, hni, hnk, tn, tn]
     rw [hni] at hi1
     rw [hnk, hth] at hk1
     have hx := hok'.at (i := ni) (by omega)
     have hmx2 : ((s.items.getD ni default).to.length : Int) ≤ 1048576 := hx.2.1.1
     have hi2 : ni < s.items.length := by omega
     have hk2 : nk < (s.items.getD ni default).to.length := by omega
     have hi3 : ni < (s.items.map Ah).length := by rw [lm]; exact hi2
     have hk3 : nk < ((s.items.getD ni default).to.map BD).length := by rw [lm]; exact hk2
     have hr := (h.1 _ (AE hi2)).1.1 _ (AE hk2)
     obtain ⟨_, ⟨ht0, ht1⟩, _⟩ := hr
     obtain ⟨hp0, hp1⟩ := NS (t := ((s.items.getD ni default).to.getD nk default).tries + 1) (m := 3) (by omega)
     have h8 : (2 : Int) * 2 ^ 3 = 16 := by decide
     have hpau : (if 1 ≤ ((s.items.getD ni default).to.getD nk default).tries + 1 ∧ ((s.items.getD ni default).to.getD nk default).tries + 1 ≤ 4 then PK (((s.items.getD ni default).to.getD nk default).tries + 1) else -1) = PK (((s.items.getD ni default).to.getD nk default).tries + 1) := if_pos (by omega)
     have hw0 := hw.1
     have hw1 := hw.2
     simp -implicitDefEqProofs only [Tryz.f30, b1, bw, hf, go_sem, hh, seval]
     with_reducible repeat' (first | apply ai | intro _ | ((first | apply s1 | apply s3 | apply s4) <;> intro hb <;> simp -implicitDefEqProofs only [hb, go_sem, hh, seval] <;> try simp only [qz] at hb))
     all_goals first | rfl | omega | assumption | decide | skip
     refine Hh 1021 1901 2901 ni 3 rfl (NA Ah hi2) rfl rfl fun x => AW ?_
     by_cases hA : ((s.items.getD ni default).to.getD nk default).tries + 1 = 4
     ·unfold FE
      rw [if_pos (.inl (by omega))]
      have hpau4 : (if (1 : Int) ≤ 4 ∧ (4 : Int) ≤ 4 then PK 4 else -1) = PK 4 := if_pos (by decide)
      rw [hA] at hp0 hp1
      simp -implicitDefEqProofs only [hA, decide_true, hpau4, Cw hi3, go_sem, hh, seval]
      with_reducible repeat' (first | apply ai | intro _ | ((first | apply s1 | apply s3 | apply s4) <;> intro hb <;> simp -implicitDefEqProofs only [hb, go_sem, hh, seval] <;> try simp only [qz] at hb))
      all_goals first | rfl | omega | assumption | decide | skip
      refine Ej 1021 1901 2901 ni 3 rfl (GB hi3 _) rfl rfl rfl rfl (AW ?_)
      simp -implicitDefEqProofs only [go_sem, hh, seval]
      with_reducible repeat' (first | apply ai | intro _ | ((first | apply s1 | apply s3 | apply s4) <;> intro hb <;> simp -implicitDefEqProofs only [hb, go_sem, hh, seval] <;> try simp only [qz] at hb))
      all_goals first | rfl | omega | assumption | decide | skip
      exact Sv hi2
     ·by_cases hB : w + PK (((s.items.getD ni default).to.getD nk default).tries + 1) > 9999
      ·unfold FE
       rw [if_pos (.inr hB)]
       simp -implicitDefEqProofs only [hA, hB, decide_true, decide_false, hpau, Cw hi3, go_sem, hh, seval]
       with_reducible repeat' (first | apply ai | intro _ | ((first | apply s1 | apply s3 | apply s4) <;> intro hb <;> simp -implicitDefEqProofs only [hb, go_sem, hh, seval] <;> try simp only [qz] at hb))
       all_goals first | rfl | omega | assumption | decide | contradiction | skip
       refine Ej 1021 1901 2901 ni 3 rfl (GB hi3 _) rfl rfl rfl rfl (AW ?_)
       simp -implicitDefEqProofs only [go_sem, hh, seval]
       with_reducible repeat' (first | apply ai | intro _ | ((first | apply s1 | apply s3 | apply s4) <;> intro hb <;> simp -implicitDefEqProofs only [hb, go_sem, hh, seval] <;> try simp only [qz] at hb))
       all_goals first | rfl | omega | assumption | decide | skip
       exact Sv hi2
      ·unfold FE
       rw [if_neg (fun q => q.elim (by omega) hB)]
       simp -implicitDefEqProofs only [hA, hB, decide_false, hpau, Cw hi3, Cw hk3, FQ hk3, go_sem, hh, seval]
       with_reducible repeat' (first | apply ai | intro _ | ((first | apply s1 | apply s3 | apply s4) <;> intro hb <;> simp -implicitDefEqProofs only [hb, go_sem, hh, seval] <;> try simp only [qz] at hb))
       all_goals first | rfl | omega | assumption | decide | contradiction | skip
       refine Ej 1021 1901 2901 ni 3 rfl (GB hi3 _) rfl rfl rfl rfl (AW ?_)
       simp -implicitDefEqProofs only [go_sem, hh, seval]
       with_reducible repeat' (first | apply ai | intro _ | ((first | apply s1 | apply s3 | apply s4) <;> intro hb <;> simp -implicitDefEqProofs only [hb, go_sem, hh, seval] <;> try simp only [qz] at hb))
       all_goals first | rfl | omega | assumption | decide | skip
       rw [Yb, Na]
       rfl
   ·have bw := AO hw
    rw [Uy h hi hw]
    by_cases hk : Aw (AM s n) a ≥ 0
    all_goals
     simp -implicitDefEqProofs only [Tryz.f30, b1, bw, F5 hi, hk, decide_true, decide_false, go_sem, hh, seval]
     with_reducible repeat' (first | apply ai | intro _ | ((first | apply s1 | apply s3 | apply s4) <;> intro hb <;> simp -implicitDefEqProofs only [hb, go_sem, hh, seval] <;> try simp only [qz] at hb))
     all_goals first | rfl | omega | assumption | decide | skip
     all_goals trace_state
 ·have b1 := AO h
  rw [TE h]
  simp -implicitDefEqProofs only [Tryz.f30, b1, go_sem, hh, seval]
  with_reducible repeat' (first | apply ai | intro _ | ((first | apply s1 | apply s3 | apply s4) <;> intro hb <;> simp -implicitDefEqProofs only [hb, go_sem, hh, seval] <;> try simp only [qz] at hb))
  all_goals first | rfl | omega | assumption | decide | skip
  all_goals trace_state
end
end Go.V
namespace Go.V
open Go Go.Proofs Go.Shelf Go.RowKit Go.Lib Go.Sort
set_option maxRecDepth 1000000
set_option linter.unusedSimpArgs false
set_option linter.unusedVariables false
theorem Hf {P : Program} (w : World) (t ty e : TypeId) (i : TypeInfo) (ht : P.underlying t = some (.slice e)) (hi : P.info? e = some i) (b sLen sCap : Nat) (cur : Array Value) (et : TypeId) (hb : w.heap[b]? = some (.cells cur et (0, 0)))
    (a : Addr) (m c : Nat) (Ax : List Value) (hl : Ax.length = m * i.size) (hnews : ∀ j u, Ax[j]? = some u → w.cell? (a.add j) = some u) (h1 : ∀ u ∈ Ax, u.oneCell' = true) (hroom : sLen + m ≤ sCap) (hsz : sLen * i.size + Ax.length ≤ cur.size) :
    (Builtin.append_ #[t, t] ty #[.slice (some ⟨b, 0, none⟩) sLen sCap, .slice (some a) m c]).run P w = .ok (.slice (some ⟨b, 0, none⟩) (sLen + m) sCap) (w.setRow b (Go.V.splice cur.toList (sLen * i.size) Ax).toArray) := by
 have hfc := run_firstCells_some (P := P) w i.size m a m c Ax hl hnews
 have Ap := run_storeCells_at P b (sLen * i.size) et Ax 0 cur w hb (by simpa using hsz) h1
 simp only [Nat.add_zero, List.append_assoc] at Ap
 simp [Builtin.append_, run_underlying ht, sizeOf, typeInfo, hi, Builtin.lenOf, hroom, hfc, Addr.add_lit, Ap, Go.V.splice]
theorem GY {P : Program} {ops : Array Oper} {o : Oper} {a : Act} {w : World} {K : Act → World → Prop} {Q : Exit → Act → World → Prop} {E : Prop}
    (hg : o.guard = none) (s x : Operand) (t : TypeId) (hop : o.op = Op.call { callee := Callee.builtin Builtin.append, args := #[s, x], argTypes := #[t, t] })
    (r : Value) (W' : World) (hrun : (Builtin.append_ #[t, t] o.type #[a.eval s, a.eval x]).run P w = .ok r W')
    (hK : K (a.put o.dst r) W') :
    if Region.wanted o (yielded ops a.tmps) = true then Oper.wp P o a w K Q else E := by
 have hw : Region.wanted o (yielded ops a.tmps) = true := by simp [Region.wanted, hg]
 rw [if_pos hw]
 unfold Oper.wp
 simp [execOp, hop, resolve, invoke, builtin, hrun, Result.andThen]
 exact hK
theorem Iz {P : Program} (w : World) (t e : TypeId) (z : Value) (size : Nat) (ht : P.underlying t = some (.slice e)) (hv : ∀ w, (zeroValue e).run P w = .ok z w) (hz : z.cells.size = size) (h1 : ∀ u ∈ z.cells.toList, u.oneCell' = true) (b o n c : Nat) (hn : 0 < n) (cur : Array Value) (et : TypeId)
    (hb : w.heap[b]? = some (.cells cur et (0, 0))) (hs : o + n * size ≤ cur.size) :
    ∃ cs : List Value, cs.length = n * size ∧ ∀ ty, (Builtin.clear_ #[t] ty #[.slice (some ⟨b, o, none⟩) n c]).run P w = .ok (.tuple #[]) (w.setRow b (Go.V.splice cur.toList o cs).toArray) := by
 have hlen : (Builtin.zeroCells z.cells n).toList.length = n * size := by
  simp [Builtin.zeroCells, hz]
 have hone : ∀ u ∈ (Builtin.zeroCells z.cells n).toList, u.oneCell' = true := by
  intro u hu
  simp only [Builtin.zeroCells, Array.toList_map, List.mem_map] at hu
  obtain ⟨k, hk, rfl⟩ := hu
  have hk2 : k < n * z.cells.size := by simpa using hk
  have hpos : 0 < z.cells.size := by
   rcases Nat.eq_zero_or_pos z.cells.size with h | h
   ·rw [h] at hk2; omega
   ·exact h
  have hlt : k % z.cells.size < z.cells.size := Nat.mod_lt _ hpos
  rw [getElem!_pos z.cells _ hlt]
  exact h1 _ (by simp)
 have Ap := run_storeCells_at P b o et (Builtin.zeroCells z.cells n).toList 0 cur w hb (by simpa [hlen] using hs) hone
 simp only [Nat.add_zero, List.append_assoc] at Ap
 obtain ⟨m, rfl⟩ : ∃ m, n = m + 1 := ⟨n - 1, by omega⟩
 refine ⟨_, hlen, fun ty => ?_⟩
 simp [Builtin.clear_, run_underlying ht, hv, Ap, Go.V.splice]
def MP (n b cap i j len : Nat) (cur : Array Value) (et : TypeId) (w : World) (e : Ending) (w' : World) : Prop :=
 e = .returned (.slice (some ⟨b, 0, none⟩) (len - (j - i)) cap) ∧ ∃ cur' : Array Value, w'.heap[b]? = some (.cells cur' et (0, 0)) ∧ cur'.size = cur.size ∧
  cur'.toList.take ((len - (j - i)) * n) = (cur.toList.take (len * n)).take (i * n) ++ (cur.toList.take (len * n)).drop (j * n) ∧
  w'.os = w.os ∧ w'.tape = w.tape ∧ w'.output = w.output ∧ w'.heap.size = w.heap.size ∧ ∀ c, c ≠ b → w'.heap[c]? = w.heap[c]?
def Pl (P : Program) (f : FuncId) (n : Nat) : Prop := ∀ (w : World) (b cap i j len : Nat) (cur : Array Value) (et : TypeId), w.heap[b]? = some (.cells cur et (0, 0)) → cur.size = cap * n → len ≤ cap → cap ≤ 9223372036854775807 → i < j → j ≤ len → (∀ u ∈ cur.toList.take (len * n), u.oneCell' = true) →
 Calls P f #[.slice (some ⟨b, 0, none⟩) len cap, .int .i64 i, .int .i64 j] w (MP n b cap i j len cur et w)
theorem E8 {α : Type} {l ys : List α} {o : Nat} (h : o + ys.length ≤ l.length) : (Go.V.splice l o ys).length = l.length := by
 simp [Go.V.splice]; omega
theorem PY {α : Type} {l ys : List α} {o k : Nat} (h : o ≤ l.length) (hk : k ≤ o) : (Go.V.splice l o ys).take k = l.take k := by
 unfold Go.V.splice
 rw [List.take_append_of_le_length (by simp; omega), List.take_take, Nat.min_eq_left hk]
theorem Nf {α : Type} {l ys : List α} {o : Nat} (h : o ≤ l.length) : (Go.V.splice l o ys).take (o + ys.length) = l.take o ++ ys := by
 unfold Go.V.splice
 rw [← List.append_assoc, List.take_append_of_le_length (by simp; omega), List.take_of_length_le (by simp; omega)]
theorem Lr {n b cap i j len : Nat} {cur : Array Value} {et : TypeId} {w : World} (hb : w.heap[b]? = some (.cells cur et (0, 0))) (hs : cur.size = cap * n) (hlc : len ≤ cap) (hij : i < j) (hj : j ≤ len) {Ax cs : List Value} (hnews : Ax = (cur.toList.drop (j * n)).take ((len - j) * n))
    (hcs : cs.length = (j - i) * n) {W1 W2 : World} (hW1 : W1 = w.drew.setRow b (Go.V.splice cur.toList (i * n) Ax).toArray) (hW2 : W2 = W1.setRow b (Go.V.splice (Go.V.splice cur.toList (i * n) Ax) ((i + (len - j)) * n) cs).toArray) :
    MP n b cap i j len cur et w (.returned (.slice (some ⟨b, 0, none⟩) (i + (len - j)) cap)) W2 := by
 have e1 : len * n ≤ cap * n := Nat.mul_le_mul_right n hlc
 have e2 : j * n ≤ len * n := Nat.mul_le_mul_right n hj
 have e3 : i * n ≤ j * n := Nat.mul_le_mul_right n (by omega)
 have e4 : (len - j) * n = len * n - j * n := Nat.sub_mul _ _ _
 have e5 : (j - i) * n = j * n - i * n := Nat.sub_mul _ _ _
 have e6 : (i + (len - j)) * n = i * n + (len - j) * n := Nat.add_mul _ _ _
 have hcl : cur.toList.length = cap * n := by simp [hs]
 have hnl : Ax.length = (len - j) * n := by rw [hnews, List.length_take, List.length_drop, hcl]; omega
 have hl1 : (Go.V.splice cur.toList (i * n) Ax).length = cap * n := by rw [E8 (by omega), hcl]
 have hl2 : (Go.V.splice (Go.V.splice cur.toList (i * n) Ax) ((i + (len - j)) * n) cs).length = cap * n := by rw [E8 (by omega), hl1]
 have hb1 : W1.heap[b]? = some (.cells (Go.V.splice cur.toList (i * n) Ax).toArray et (0, 0)) := by rw [hW1]; exact setRow_heap w.drew b _ _ et _ hb
 refine ⟨by rw [show len - (j - i) = i + (len - j) by omega], (Go.V.splice (Go.V.splice cur.toList (i * n) Ax) ((i + (len - j)) * n) cs).toArray, by rw [hW2]; exact setRow_heap W1 b _ _ et _ hb1, by rw [List.size_toArray, hl2, hs], ?_, by rw [hW2, hW1]; rfl, by rw [hW2, hW1]; rfl, by rw [hW2, hW1]; rfl, by rw [hW2, hW1]; simp only [World.setRow, Array.size_modify]; rfl, fun c hc => ?_⟩
 ·show (Go.V.splice (Go.V.splice cur.toList (i * n) Ax) ((i + (len - j)) * n) cs).take _ = _
  rw [show (len - (j - i)) * n = (i + (len - j)) * n by rw [show len - (j - i) = i + (len - j) by omega], PY (by omega) (Nat.le_refl _), e6, ← hnl, Nf (by omega), List.take_take, Nat.min_eq_left (by omega), hnews, List.drop_take, e4]
 ·rw [hW2, setRow_other W1 b c _ hc, hW1, setRow_other w.drew b c _ hc]
  rfl
theorem F7 {α : Type} {n : Nat} : ∀ {es : List (List α)}, (∀ x ∈ es, x.length = n) → es.flatten.length = es.length * n
 | [], _ => by simp
 | e :: es, h => by
   rw [List.flatten_cons, List.length_append, h e (by simp), F7 fun x hx => h x (by simp [hx]), List.length_cons, Nat.succ_mul]; omega
theorem R7 {P : Program} {m : Int} {f : FuncId} {n : Nat} (hraw : Pl P f n) (es : List (List T)) (i j : Nat) (hij : i < j) (hj : j ≤ es.length) :
    TA P m f [.o true n es, .t (.v (.int .i64 i)), .t (.v (.int .i64 j))] [.any, .t (.v (.int .i64 i)), .t (.v (.int .i64 j))] (.o true n (es.take i ++ es.drop j)) := by
 intro w pr vs F hgl hA hnd hF hpr
 cases hA with
 | cons _ v0 _ _ F0 _ h0 hA =>
 cases hA with
 | cons _ v1 _ _ F1 _ h1 hA =>
 cases hA with
 | cons _ v2 _ _ F2 _ h2 hA =>
 cases hA with
 | nil =>
 cases h1 with
 | t _ _ h1 =>
 cases h1 with
 | v _ g1 =>
 cases h2 with
 | t _ _ h2 =>
 cases h2 with
 | v _ g2 =>
 cases h0 with
 | o _ _ _ _ _ ha =>
 rcases ha with ⟨rfl, _, _⟩ | ⟨b, len, cap, cur, et, vs', G, rfl, hl, hc, hm, hn, hg, hs, hv, rfl, hr⟩
 ·simp at hj; omega
 have hr : B5 w es.flatten vs' G := hr
 have hvl : vs'.length = len * n := by rw [← hr.len, F7 hn, hl]
 have hone : ∀ u ∈ vs', u.oneCell' = true := fun u hu => by
  obtain ⟨k, hk, rfl⟩ := List.getElem_of_mem hu
  have hk2 : k < es.flatten.length := by rw [hr.len]; exact hk
  obtain ⟨v, _, _, _, q1, q2, _⟩ := hr.at (List.getElem?_eq_getElem hk2)
  rw [List.getElem?_eq_getElem hk, Option.some.injEq] at q1
  rw [q1]; exact q2.one
 have hcall := hraw w b cap i j len cur et hg hs hc hm hij (by omega) (by rw [hv]; exact hone)
 refine Calls.mono hcall fun e w' hq => ?_
 obtain ⟨he, cur', c1, c2, c3, o1, o2, o3, o4, o5⟩ := hq
 rw [hv] at c3
 have hes : es = es.take i ++ ((es.drop i).take (j - i) ++ es.drop j) := by
  have h2 : es.drop j = (es.drop i).drop (j - i) := by rw [List.drop_drop]; congr 1; omega
  rw [h2, List.take_append_drop, List.take_append_drop]
 have hvs : vs' = vs'.take (i * n) ++ ((vs'.drop (i * n)).take ((j - i) * n) ++ vs'.drop (j * n)) := by
  have h2 : vs'.drop (j * n) = (vs'.drop (i * n)).drop ((j - i) * n) := by
   rw [List.drop_drop]; congr 1
   rw [← Nat.add_mul]; congr 1; omega
  rw [h2, List.take_append_drop, List.take_append_drop]
 have e1 : i * n ≤ len * n := Nat.mul_le_mul_right n (by omega)
 have e2 : j * n ≤ len * n := Nat.mul_le_mul_right n (by omega)
 have e5 : (j - i) * n = j * n - i * n := Nat.sub_mul _ _ _
 have e7 : i * n ≤ j * n := Nat.mul_le_mul_right n (by omega)
 have l1 : (es.take i).flatten.length = i * n := by rw [F7 fun x hx => hn x (List.mem_of_mem_take hx), List.length_take]; congr 1; omega
 have l2 : ((es.drop i).take (j - i)).flatten.length = (j - i) * n := by rw [F7 fun x hx => hn x (List.mem_of_mem_drop (List.mem_of_mem_take hx)), List.length_take, List.length_drop]; congr 1; omega
 have hr2 : B5 w ((es.take i).flatten ++ (((es.drop i).take (j - i)).flatten ++ (es.drop j).flatten)) (vs'.take (i * n) ++ ((vs'.drop (i * n)).take ((j - i) * n) ++ vs'.drop (j * n))) G := by
  rw [← List.flatten_append, ← List.flatten_append, ← hes, ← hvs]; exact hr
 obtain ⟨G1, G', rfl, d1, hr3⟩ := B5.split hr2 (by rw [l1, List.length_take]; omega)
 obtain ⟨G2, G3, rfl, d2, d3⟩ := B5.split hr3 (by rw [l2, List.length_take, List.length_drop]; omega)
 simp only [List.append_nil] at hnd hF ⊢
 have hsub : ∀ c ∈ G1 ++ G3, c ∈ G1 ++ (G2 ++ G3) := fun c hc => by
  simp only [List.mem_append] at hc ⊢
  exact hc.elim .inl fun h => .inr (.inr h)
 have hbn : b ∉ G1 ++ (G2 ++ G3) := (List.nodup_cons.1 hnd).1
 have hne : ∀ c ∈ G1 ++ G3, c ≠ b := fun c hc e => hbn (e ▸ hsub c hc)
 have hnd2 : (b :: (G1 ++ G3)).Nodup := List.nodup_cons.2 ⟨fun h => hbn (hsub b h), List.Nodup.sublist (List.sublist_append_right G2 G3 |>.append_left G1) (List.nodup_cons.1 hnd).2⟩
 have hd : B5 w' (es.take i ++ es.drop j).flatten (vs'.take (i * n) ++ vs'.drop (j * n)) (G1 ++ G3) := by
  rw [List.flatten_append]
  exact (d1.append d3).keep fun c hc => o5 c (hne c hc)
 refine ⟨_, pr, [], b :: (G1 ++ G3), he, ⟨o1, o2, o3, by omega, fun k _ hk => o5 k fun e => hk (by rw [e]; simp)⟩, fun _ h => h, fun _ h => .inl h, fun c hc => by rw [o4]; exact hpr c hc, .cons _ _ _ _ [] [] (.any _) (.cons _ _ _ _ [] [] (.t _ _ (.v _ g1)) (.cons _ _ _ _ [] [] (.t _ _ (.v _ g2)) .nil)), .o _ _ _ _ _ (.inr ⟨b, len - (j - i), cap, cur', et, _, G1 ++ G3, rfl, ?_, by omega, hm, ?_, c1, by rw [c2, hs], c3, rfl, hd⟩), by simpa using hnd2, fun c hc => ?_⟩
 ·simp; omega
 ·intro x hx
  rcases List.mem_append.1 hx with hx | hx
  ·exact hn x (List.mem_of_mem_take hx)
  ·exact hn x (List.mem_of_mem_drop hx)
 ·simp only [List.nil_append] at hc
  have hin : c ∈ b :: (G1 ++ (G2 ++ G3)) := by
   rcases List.mem_cons.1 hc with e | hc
   ·rw [e]; simp
   ·exact List.mem_cons_of_mem _ (hsub c hc)
  have := hF c (by simpa using hin)
  exact ⟨by rw [o4]; exact this.1, this.2, .inr (by simpa using hin)⟩
theorem oO : Tryz.prog.funcs[80]? = some Tryz.f80 := by kernel_rfl
theorem xk : Tryz.f80.ntmps = 33 := rfl
noncomputable def XH : TypeInfo := (Tryz.prog.info? 115).get (by kernel_rfl)
theorem XI : Tryz.prog.info? 115 = some XH := by kernel_rfl
theorem Gq : XH.size = 4 := by kernel_rfl
theorem yZ (w : World) : (zeroValue 115).run Tryz.prog w = .ok (.agg #[.string ⟨#[]⟩, .string ⟨#[]⟩, .int .i64 0, .int .i64 0]) w := by kernel_rfl
set_option maxHeartbeats 4000000 in
theorem tW : Pl Tryz.prog 80 4 := by
 intro w b cap i j len cur et hb hs hlc hm hij hj hone
 have t0 : Tryz.prog.underlying 0 = some (TypeDesc.tuple #[]) := by kernel_rfl
 have a0 : ∀ w, (isAgg 0).run Tryz.prog w = .ok false w := run_isAgg_plain t0 rfl
 have t3 : Tryz.prog.underlying 3 = some (.int .i64) := by kernel_rfl
 have a3 : ∀ w, (isAgg 3).run Tryz.prog w = .ok false w := run_isAgg_plain t3 rfl
 have t4 : Tryz.prog.underlying 4 = some .bool := by kernel_rfl
 have a4 : ∀ w, (isAgg 4).run Tryz.prog w = .ok false w := run_isAgg_plain t4 rfl
 have tS : Tryz.prog.underlying 74 = some (.slice 115) := by kernel_rfl
 have aS : ∀ w, (isAgg 74).run Tryz.prog w = .ok false w := run_isAgg_plain tS rfl
 have zE : ∀ w, (Go.sizeOf 115).run Tryz.prog w = .ok 4 w := fun w => by kernel_rfl
 have mixed : Tryz.prog.follows .mixedOrders = true := by kernel_rfl
 have hic : i ≤ cap := by omega
 have hjc : j ≤ cap := by omega
 have hil : i ≤ len := by omega
 obtain ⟨Ax, hnews⟩ : ∃ Ax, Ax = (cur.toList.drop (j * 4)).take ((len - j) * 4) := ⟨_, rfl⟩
 have hcl : cur.toList.length = cap * 4 := by simp [hs]
 have hnl : Ax.length = (len - j) * 4 := by rw [hnews, List.length_take, List.length_drop, hcl]; omega
 obtain ⟨A, hA, hsrc⟩ : ∃ A : Addr, (if cap = j then some (⟨b, 0, none⟩ : Addr) else some ⟨b, j * 4, none⟩) = some A ∧ (∀ t u, Ax[t]? = some u → w.drew.cell? (A.add t) = some u) := by
  by_cases h : cap = j
  ·refine ⟨⟨b, 0, none⟩, by simp [h], fun t u hu => ?_⟩
   have : t < Ax.length := (List.getElem?_eq_some_iff.1 hu).1
   omega
  ·refine ⟨⟨b, j * 4, none⟩, by simp [h], fun t u hu => ?_⟩
   rw [hnews, List.getElem?_take] at hu
   split at hu
   ·rw [List.getElem?_drop] at hu
    show w.cell? _ = _
    rw [Addr.add_lit]
    simp only [World.cell?, hb]
    simpa using hu
   ·cases hu
 have hnone : ∀ u ∈ Ax, u.oneCell' = true := fun u hu => by
  rw [hnews] at hu
  refine hone u ?_
  rw [show (len - j) * 4 = len * 4 - j * 4 by omega, ← List.drop_take] at hu
  exact List.mem_of_mem_drop hu
 obtain ⟨W1, hW1⟩ : ∃ W1, W1 = w.drew.setRow b (Go.V.splice cur.toList (i * 4) Ax).toArray := ⟨_, rfl⟩
 have hap : Hid (∀ ty, (Builtin.append_ #[74, 74] ty #[.slice (some ⟨b, 0, none⟩) i cap, .slice (some A) (len - j) (cap - j)]).run Tryz.prog w.drew = .ok (.slice (some ⟨b, 0, none⟩) (i + (len - j)) cap) W1) := fun ty => by
  have := Hf (P := Tryz.prog) w.drew 74 ty 115 XH tS XI b i cap cur et hb A (len - j) (cap - j) Ax (by rw [Gq]; exact hnl) hsrc hnone (by omega) (by rw [Gq, hnl, hs]; omega)
  rw [Gq] at this
  rw [hW1]; exact this
 have hl1 : (Go.V.splice cur.toList (i * 4) Ax).length = cap * 4 := by rw [E8 (by omega), hcl]
 have hb1 : W1.heap[b]? = some (.cells (Go.V.splice cur.toList (i * 4) Ax).toArray et (0, 0)) := by rw [hW1]; exact setRow_heap w.drew b _ _ et _ hb
 obtain ⟨cs, hcs, hcl0⟩ := Iz (P := Tryz.prog) W1 74 115 (.agg #[.string ⟨#[]⟩, .string ⟨#[]⟩, .int .i64 0, .int .i64 0]) 4 tS yZ rfl (by intro u hu; simp [Value.cells] at hu; rcases hu with rfl | rfl | rfl | rfl <;> rfl) b ((i + (len - j)) * 4) (len - (i + (len - j))) (cap - (i + (len - j))) (by omega) _ et hb1 (by rw [List.size_toArray, hl1]; omega)
 obtain ⟨W2, hW2⟩ : ∃ W2, W2 = W1.setRow b (Go.V.splice (Go.V.splice cur.toList (i * 4) Ax) ((i + (len - j)) * 4) cs).toArray := ⟨_, rfl⟩
 have hcl : ∀ ty, (Builtin.clear_ #[74] ty #[.slice (some ⟨b, (i + (len - j)) * 4, none⟩) (len - (i + (len - j))) (cap - (i + (len - j)))]).run Tryz.prog W1 = .ok (.tuple #[]) W2 := fun ty => by rw [hW2]; exact hcl0 ty
 have X : Hid (MP 4 b cap i j len cur et w (.returned (.slice (some ⟨b, 0, none⟩) (i + (len - j)) cap)) W2) := Lr hb hs hlc hij hj hnews (by rw [hcs]; congr 1; omega) hW1 hW2
 clear hW1 hW2 hb hb1 hl1 hcs hcl0 hone hnone hsrc hnl hnews
 go_enter oO, xk
 go_wp2_with fail
 go_region_law_o (refine GY rfl (.tmp 22) (.tmp 25) 74 rfl (.slice (some ⟨b, 0, none⟩) (i + (len - j)) cap) W1 (by simp [Act.eval, Act.put]; exact hap.out 74) ?_)
 go_wp2
 go_ret
 exact X.out
def xC : Mt := GL (lc (Pe.aow true 4) (lc A6 (lc A6 l0))) (fun p => 0 ≤ p.2.1 ∧ p.2.1 < p.2.2.1 ∧ p.2.2.1 ≤ p.1.length) (fun p => ([.any, .t (.v (.int .i64 p.2.1)), .t (.v (.int .i64 p.2.2.1))], .o true 4 ((p.1.take p.2.1.toNat ++ p.1.drop p.2.2.1.toNat).map BD)))
theorem pf {G : Gt} (hG : Aj G) : Gd G 80 (AN xC) := I3.ofM (by kernel_rfl) fun ⟨xs, i, j, _⟩ h => by
 obtain ⟨h0, h1, h2⟩ := h
 dsimp only at h0 h1 h2 ⊢
 obtain ⟨a, rfl⟩ := Int.eq_ofNat_of_zero_le h0
 obtain ⟨c, rfl⟩ := Int.eq_ofNat_of_zero_le (show 0 ≤ j by omega)
 have := R7 (m := G.m) tW (xs.map BD) a c (by omega) (by rw [lm]; omega)
 rw [← List.map_take, ← List.map_drop, ← List.map_append] at this
 exact this
theorem oP : Tryz.prog.funcs[81]? = some Tryz.f81 := by kernel_rfl
theorem xl : Tryz.f81.ntmps = 33 := rfl
noncomputable def XJ : TypeInfo := (Tryz.prog.info? 76).get (by kernel_rfl)
theorem XK : Tryz.prog.info? 76 = some XJ := by kernel_rfl
theorem Gr : XJ.size = 5 := by kernel_rfl
theorem yb (w : World) : (zeroValue 76).run Tryz.prog w = .ok (.agg #[.int .i64 0, .string ⟨#[]⟩, .string ⟨#[]⟩, .slice none 0 0, .slice none 0 0]) w := by kernel_rfl
set_option maxHeartbeats 4000000 in
theorem tX : Pl Tryz.prog 81 5 := by
 intro w b cap i j len cur et hb hs hlc hm hij hj hone
 have t0 : Tryz.prog.underlying 0 = some (TypeDesc.tuple #[]) := by kernel_rfl
 have a0 : ∀ w, (isAgg 0).run Tryz.prog w = .ok false w := run_isAgg_plain t0 rfl
 have t3 : Tryz.prog.underlying 3 = some (.int .i64) := by kernel_rfl
 have a3 : ∀ w, (isAgg 3).run Tryz.prog w = .ok false w := run_isAgg_plain t3 rfl
 have t4 : Tryz.prog.underlying 4 = some .bool := by kernel_rfl
 have a4 : ∀ w, (isAgg 4).run Tryz.prog w = .ok false w := run_isAgg_plain t4 rfl
 have tS : Tryz.prog.underlying 27 = some (.slice 76) := by kernel_rfl
 have aS : ∀ w, (isAgg 27).run Tryz.prog w = .ok false w := run_isAgg_plain tS rfl
 have zE : ∀ w, (Go.sizeOf 76).run Tryz.prog w = .ok 5 w := fun w => by kernel_rfl
 have mixed : Tryz.prog.follows .mixedOrders = true := by kernel_rfl
 have hic : i ≤ cap := by omega
 have hjc : j ≤ cap := by omega
 have hil : i ≤ len := by omega
 obtain ⟨Ax, hnews⟩ : ∃ Ax, Ax = (cur.toList.drop (j * 5)).take ((len - j) * 5) := ⟨_, rfl⟩
 have hcl : cur.toList.length = cap * 5 := by simp [hs]
 have hnl : Ax.length = (len - j) * 5 := by rw [hnews, List.length_take, List.length_drop, hcl]; omega
 obtain ⟨A, hA, hsrc⟩ : ∃ A : Addr, (if cap = j then some (⟨b, 0, none⟩ : Addr) else some ⟨b, j * 5, none⟩) = some A ∧ (∀ t u, Ax[t]? = some u → w.drew.cell? (A.add t) = some u) := by
  by_cases h : cap = j
  ·refine ⟨⟨b, 0, none⟩, by simp [h], fun t u hu => ?_⟩
   have : t < Ax.length := (List.getElem?_eq_some_iff.1 hu).1
   omega
  ·refine ⟨⟨b, j * 5, none⟩, by simp [h], fun t u hu => ?_⟩
   rw [hnews, List.getElem?_take] at hu
   split at hu
   ·rw [List.getElem?_drop] at hu
    show w.cell? _ = _
    rw [Addr.add_lit]
    simp only [World.cell?, hb]
    simpa using hu
   ·cases hu
 have hnone : ∀ u ∈ Ax, u.oneCell' = true := fun u hu => by
  rw [hnews] at hu
  refine hone u ?_
  rw [show (len - j) * 5 = len * 5 - j * 5 by omega, ← List.drop_take] at hu
  exact List.mem_of_mem_drop hu
 obtain ⟨W1, hW1⟩ : ∃ W1, W1 = w.drew.setRow b (Go.V.splice cur.toList (i * 5) Ax).toArray := ⟨_, rfl⟩
 have hap : Hid (∀ ty, (Builtin.append_ #[27, 27] ty #[.slice (some ⟨b, 0, none⟩) i cap, .slice (some A) (len - j) (cap - j)]).run Tryz.prog w.drew = .ok (.slice (some ⟨b, 0, none⟩) (i + (len - j)) cap) W1) := fun ty => by
  have := Hf (P := Tryz.prog) w.drew 27 ty 76 XJ tS XK b i cap cur et hb A (len - j) (cap - j) Ax (by rw [Gr]; exact hnl) hsrc hnone (by omega) (by rw [Gr, hnl, hs]; omega)
  rw [Gr] at this
  rw [hW1]; exact this
 have hl1 : (Go.V.splice cur.toList (i * 5) Ax).length = cap * 5 := by rw [E8 (by omega), hcl]
 have hb1 : W1.heap[b]? = some (.cells (Go.V.splice cur.toList (i * 5) Ax).toArray et (0, 0)) := by rw [hW1]; exact setRow_heap w.drew b _ _ et _ hb
 obtain ⟨cs, hcs, hcl0⟩ := Iz (P := Tryz.prog) W1 27 76 (.agg #[.int .i64 0, .string ⟨#[]⟩, .string ⟨#[]⟩, .slice none 0 0, .slice none 0 0]) 5 tS yb rfl (by intro u hu; simp [Value.cells] at hu; rcases hu with rfl | rfl | rfl | rfl | rfl <;> rfl) b ((i + (len - j)) * 5) (len - (i + (len - j))) (cap - (i + (len - j))) (by omega) _ et hb1 (by rw [List.size_toArray, hl1]; omega)
 obtain ⟨W2, hW2⟩ : ∃ W2, W2 = W1.setRow b (Go.V.splice (Go.V.splice cur.toList (i * 5) Ax) ((i + (len - j)) * 5) cs).toArray := ⟨_, rfl⟩
 have hcl : ∀ ty, (Builtin.clear_ #[27] ty #[.slice (some ⟨b, (i + (len - j)) * 5, none⟩) (len - (i + (len - j))) (cap - (i + (len - j)))]).run Tryz.prog W1 = .ok (.tuple #[]) W2 := fun ty => by rw [hW2]; exact hcl0 ty
 have X : Hid (MP 5 b cap i j len cur et w (.returned (.slice (some ⟨b, 0, none⟩) (i + (len - j)) cap)) W2) := Lr hb hs hlc hij hj hnews (by rw [hcs]; congr 1; omega) hW1 hW2
 clear hW1 hW2 hb hb1 hl1 hcs hcl0 hone hnone hsrc hnl hnews
 go_enter oP, xl
 go_wp2_with fail
 go_region_law_o (refine GY rfl (.tmp 22) (.tmp 25) 27 rfl (.slice (some ⟨b, 0, none⟩) (i + (len - j)) cap) W1 (by simp [Act.eval, Act.put]; exact hap.out 27) ?_)
 go_wp2
 go_ret
 exact X.out
def xD : Mt := GL (lc (EL.aow true 5) (lc A6 (lc A6 l0))) (fun p => 0 ≤ p.2.1 ∧ p.2.1 < p.2.2.1 ∧ p.2.2.1 ≤ p.1.length) (fun p => ([.any, .t (.v (.int .i64 p.2.1)), .t (.v (.int .i64 p.2.2.1))], .o true 5 ((p.1.take p.2.1.toNat ++ p.1.drop p.2.2.1.toNat).map Ah)))
theorem pg {G : Gt} (hG : Aj G) : Gd G 81 (AN xD) := I3.ofM (by kernel_rfl) fun ⟨xs, i, j, _⟩ h => by
 obtain ⟨h0, h1, h2⟩ := h
 dsimp only at h0 h1 h2 ⊢
 obtain ⟨a, rfl⟩ := Int.eq_ofNat_of_zero_le h0
 obtain ⟨c, rfl⟩ := Int.eq_ofNat_of_zero_le (show 0 ≤ j by omega)
 have := R7 (m := G.m) tX (xs.map Ah) a c (by omega) (by rw [lm]; omega)
 rw [← List.map_take, ← List.map_drop, ← List.map_append] at this
 exact this
end Go.V
namespace Go.V
open Go Go.Proofs
set_option maxRecDepth 100000
set_option linter.unusedSimpArgs false
set_option linter.unusedVariables false
theorem nw {xs : List Im} {i k : Nat} (hi : i < xs.length) (h : ((xs.getD i default).to.take k ++ (xs.getD i default).to.drop (k + 1)).length = 0) {y : Im} : (xs.set i y).take i ++ (xs.set i y).drop (i + 1) = Nn xs i k := by
 unfold Nn
 rw [if_pos (show (GM (xs.getD i default) k).to = [] from List.eq_nil_of_length_eq_zero h), List.take_set_of_le (Nat.le_refl _), List.drop_set_of_lt (Nat.lt_succ_self _)]
theorem nv {xs : List Im} {i k : Nat} (hi : i < xs.length) (h : ¬ ((xs.getD i default).to.take k ++ (xs.getD i default).to.drop (k + 1)).length = 0) : xs.set i ⟨(xs.getD i default).id, (xs.getD i default).frm, (xs.getD i default).to.take k ++ (xs.getD i default).to.drop (k + 1), (xs.getD i default).body⟩ = Nn xs i k := by
 unfold Nn
 rw [if_neg (fun e => h (by rw [show (xs.getD i default).to.take k ++ (xs.getD i default).to.drop (k + 1) = [] from e]; rfl)), List.set_eq_take_append_cons_drop, if_pos hi]
 rfl
theorem Mh {dst id k : Nat} {s : AS} : EU dst (.h id) .any k s = (s, k) := rfl
theorem J1 {id : Nat} : BY (.h id) .any = [] := rfl
def sH : Ct := An (lc LG.ag (lc A6 (lc Ce.ag l0))) (fun p => EF p.1) (fun p => LX (FB p.1 p.2.1 p.2.2.1))
section
attribute [local go_sem] Vf ax mf xC xD Mh J1 lm List.length_set tn Ab BR LX AS.opn AS.cls AS.nilb AS.renb Bool.not_false Bool.not_true List.set_set List.set_cons_zero List.set_cons_succ List.set_nil List.mem_singleton forall_eq
set_option maxHeartbeats 3200000 in
theorem ol {G : Gt} (hG : Aj G) (hh : G.e 43 = AA 0 Vf ∧ G.e 74 = AA 0 ax ∧ G.e 26 = AA 0 mf ∧ G.e 80 = AN xC ∧ G.e 81 = AN xD) : Gd G 29 (AA 0 sH) := by
 refine LQ (dp := fun n => !(Nat.beq n 100007 || Nat.beq n 100008 || Nat.beq n 100009 || Nat.beq n 100010)) (fn := Tryz.f29) (n := 3) rfl hG ?_ (hs := fun _ p => G0 _)
 rintro ⟨s, n, a, ⟨⟩⟩ hpre
 have hok' : GH D0 s.items := hpre
 have hmx := hok'.1
 dsimp only at hpre ⊢
 by_cases h : BI s
 ·have b1 := Ag h
  by_cases hi : Ai s n < 0
  ·rw [Zs h hi]
   simp -implicitDefEqProofs only [Tryz.f29, b1, JW hi, go_sem, hh, seval]
   with_reducible repeat' (first | apply ai | intro _ | ((first | apply s1 | apply s3 | apply s4) <;> intro hb <;> simp -implicitDefEqProofs only [hb, go_sem, hh, seval] <;> try simp only [qz] at hb))
   all_goals first | rfl | omega | assumption | decide | skip
   all_goals trace_state
  ·by_cases hk : Aw (AM s n) a < 0
   ·have hk' : ¬ Aw (AM s n) a ≥ 0 := by omega
    rw [Zt h hi hk]
    simp -implicitDefEqProofs only [Tryz.f29, b1, F5 hi, hk', decide_false, go_sem, hh, seval]
    with_reducible repeat' (first | apply ai | intro _ | ((first | apply s1 | apply s3 | apply s4) <;> intro hb <;> simp -implicitDefEqProofs only [hb, go_sem, hh, seval] <;> try simp only [qz] at hb))
    all_goals first | rfl | omega | assumption | decide | skip
    all_goals trace_state
   ·obtain ⟨hi0, hi1⟩ := BS hi
    obtain ⟨hk0, hk1⟩ := C3 hk
    obtain ⟨ni, hni⟩ := Int.eq_ofNat_of_zero_le hi0
    obtain ⟨nk, hnk⟩ := Int.eq_ofNat_of_zero_le hk0
    have hth : AM s n = s.items.getD ni default := by unfold AM; rw [hni, tn]
    have hf := Of hni hth hnk
    rw [JN h hi hk, hni, hnk, tn, tn]
    rw [hni] at hi1
    rw [hnk, hth] at hk1
    have hx := hok'.at (i := ni) (by omega)
    have hmx2 : ((s.items.getD ni default).to.length : Int) ≤ 1048576 := hx.2.1.1
    have hi2 : ni < s.items.length := by omega
    have hk2 : nk < (s.items.getD ni default).to.length := by omega
    have hi3 : ni < (s.items.map Ah).length := by rw [lm]; exact hi2
    have e1 : ((ni : Int) + 1).toNat = ni + 1 := by omega
    have e2 : ((nk : Int) + 1).toNat = nk + 1 := by omega
    have hdl := WI hk2
    simp -implicitDefEqProofs only [Tryz.f29, b1, hf, go_sem, hh, seval]
    with_reducible repeat' (first | apply ai | intro _ | ((first | apply s1 | apply s3 | apply s4) <;> intro hb <;> simp -implicitDefEqProofs only [hb, go_sem, hh, seval] <;> try simp only [qz] at hb))
    all_goals first | rfl | omega | assumption | decide | skip
    refine Hh 1017 1901 2901 ni 3 rfl (NA Ah hi2) rfl rfl fun x => AW ?_
    simp -implicitDefEqProofs only [Cw hi3, FQ hi3, e1, e2, go_sem, hh, seval]
    with_reducible repeat' (first | apply ai | intro _ | ((first | apply s1 | apply s3 | apply s4) <;> intro hb <;> simp -implicitDefEqProofs only [hb, go_sem, hh, seval] <;> try simp only [qz] at hb))
    all_goals first | rfl | omega | assumption | decide | skip
    all_goals refine Hh 1017 1902 2902 ni 3 rfl (GB hi3 _) rfl rfl fun y => AW ?_
    all_goals by_cases hl : (((s.items.getD ni default).to.take nk ++ (s.items.getD ni default).to.drop (nk + 1)).length : Int) = 0
    all_goals simp -implicitDefEqProofs only [Cw hi3, FQ hi3, hl, decide_true, decide_false, e1, e2, go_sem, hh, seval]
    all_goals with_reducible repeat' (first | apply ai | intro _ | ((first | apply s1 | apply s3 | apply s4) <;> intro hb <;> simp -implicitDefEqProofs only [hb, go_sem, hh, seval] <;> try simp only [qz] at hb))
    all_goals first | rfl | omega | assumption | decide | contradiction | skip
    all_goals refine Ej 1017 1902 2902 ni 3 rfl (GB hi3 _) rfl rfl rfl rfl (AW ?_)
    all_goals simp -implicitDefEqProofs only [Na, e1, e2, go_sem, hh, seval]
    all_goals with_reducible repeat' (first | apply ai | intro _ | ((first | apply s1 | apply s3 | apply s4) <;> intro hb <;> simp -implicitDefEqProofs only [hb, go_sem, hh, seval] <;> try simp only [qz] at hb))
    all_goals first
     | rfl
     | omega
     | assumption
     | decide
     | contradiction
     | exact congrArg (List.map Ah) (nv hi2 (fun e => hl (by exact congrArg Int.ofNat e)))
     | (refine AW ?_
        simp -implicitDefEqProofs only [go_sem, hh, seval]
        with_reducible repeat' (first | apply ai | intro _ | ((first | apply s1 | apply s3 | apply s4) <;> intro hb <;> simp -implicitDefEqProofs only [hb, go_sem, hh, seval] <;> try simp only [qz] at hb))
        all_goals first
         | rfl
         | omega
         | assumption
         | decide
         | exact congrArg (List.map Ah) (nw hi2 (Int.ofNat.inj hl))
         | skip)
     | skip
 ·have b1 := AO h
  rw [Uv h]
  simp -implicitDefEqProofs only [Tryz.f29, b1, go_sem, hh, seval]
  with_reducible repeat' (first | apply ai | intro _ | ((first | apply s1 | apply s3 | apply s4) <;> intro hb <;> simp -implicitDefEqProofs only [hb, go_sem, hh, seval] <;> try simp only [qz] at hb))
  all_goals first | rfl | omega | assumption | decide | skip
  all_goals trace_state
end
end Go.V
