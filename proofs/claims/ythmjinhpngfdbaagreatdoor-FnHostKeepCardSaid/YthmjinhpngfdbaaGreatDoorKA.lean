/- The row. No condition. -/
import Derived.Test.YthmjinhpngfdbaaGreatDoorXB
import Derived.Test.YthmjinhpngfdbaaGreatDoorProg
import Derived.KernelRfl
import Derived.Lib.IndexMore
import Derived.Lib.IndexEntry
import Derived.Lib.RabinKarpLaws
import Derived.Lib.Split
import Derived.DeepKeys4
import Derived.Shelf.Abstract
import Derived.Shelf.RegionOpenPlain
import Derived.WalkKit
import Derived.Deep.LoopGhost
import Derived.Deep.RegionLaw
import Derived.Lib.Walk
import Derived.Sort.WalkB12
import Derived.Lib.SliceRun
import Derived.Lib.SlicesDelete
namespace Go.V
open Go Go.Proofs
theorem QAH : AI Tryz.prog 3 = some ⟨.int .i64, 1, 8, [.int .i64 0]⟩ := by kernel_rfl
theorem QAI : AI Tryz.prog 4 = some ⟨.bool, 1, 1, [.bool false]⟩ := by kernel_rfl
theorem QAJ : AI Tryz.prog 5 = some ⟨.int .u8, 1, 1, [.int .u8 0]⟩ := by kernel_rfl
theorem QAK : AI Tryz.prog 9 = some ⟨.str, 1, 16, [.string ⟨#[]⟩]⟩ := by kernel_rfl
theorem yr : AI Tryz.prog 22 = some ⟨.slice 5, 1, 24, [.slice none 0 0]⟩ := by kernel_rfl
theorem yu : AI Tryz.prog 23 = some ⟨.slice 9, 1, 24, [.slice none 0 0]⟩ := by kernel_rfl
theorem yv : AI Tryz.prog 24 = some ⟨.slice 139, 1, 24, [.slice none 0 0]⟩ := by kernel_rfl
theorem yw : AI Tryz.prog 26 = some ⟨.struct [(0, 1, false), (1, 1, false), (2, 1, false)], 3, 64, [.string ⟨#[]⟩, .slice none 0 0, .slice none 0 0]⟩ := by kernel_rfl
theorem yx : AI Tryz.prog 27 = some ⟨.slice 76, 1, 24, [.slice none 0 0]⟩ := by kernel_rfl
theorem yy : AI Tryz.prog 29 = some ⟨.struct [(0, 1, false), (1, 1, false)], 2, 32, [.int .i64 0, .slice none 0 0]⟩ := by kernel_rfl
theorem yz : AI Tryz.prog 30 = some ⟨.slice 57, 1, 24, [.slice none 0 0]⟩ := by kernel_rfl
theorem y6 : AI Tryz.prog 31 = some ⟨.slice 44, 1, 24, [.slice none 0 0]⟩ := by kernel_rfl
theorem y7 : AI Tryz.prog 33 = some ⟨.struct [(0, 3, true), (3, 2, true), (5, 1, false), (6, 1, false)], 7, 144, [.string ⟨#[]⟩, .slice none 0 0, .slice none 0 0, .int .i64 0, .slice none 0 0, .slice none 0 0, .slice none 0 0]⟩ := by kernel_rfl
theorem y8 : AI Tryz.prog 35 = some ⟨.struct [(0, 1, false), (1, 1, false)], 2, 32, [.string ⟨#[]⟩, .string ⟨#[]⟩]⟩ := by kernel_rfl
theorem y9 : AI Tryz.prog 44 = some ⟨.struct [(0, 1, false), (1, 2, true)], 3, 48, [.string ⟨#[]⟩, .string ⟨#[]⟩, .string ⟨#[]⟩]⟩ := by kernel_rfl
theorem zA : AI Tryz.prog 46 = some ⟨.slice 33, 1, 24, [.slice none 0 0]⟩ := by kernel_rfl
theorem zB : AI Tryz.prog 48 = some ⟨.struct [(0, 1, false), (1, 1, false), (2, 1, false), (3, 1, false)], 4, 64, [.slice none 0 0, .int .i64 0, .int .i64 0, .slice none 0 0]⟩ := by kernel_rfl
theorem zC : AI Tryz.prog 55 = some ⟨.slice 88, 1, 24, [.slice none 0 0]⟩ := by kernel_rfl
theorem zD : AI Tryz.prog 57 = some ⟨.struct [(0, 2, true), (2, 1, false)], 3, 56, [.string ⟨#[]⟩, .string ⟨#[]⟩, .slice none 0 0]⟩ := by kernel_rfl
theorem zF : AI Tryz.prog 64 = some ⟨.slice 3, 1, 24, [.slice none 0 0]⟩ := by kernel_rfl
theorem zG : AI Tryz.prog 74 = some ⟨.slice 115, 1, 24, [.slice none 0 0]⟩ := by kernel_rfl
theorem zH : AI Tryz.prog 76 = some ⟨.struct [(0, 1, false), (1, 2, true), (3, 1, false), (4, 1, false)], 5, 88, [.int .i64 0, .string ⟨#[]⟩, .string ⟨#[]⟩, .slice none 0 0, .slice none 0 0]⟩ := by kernel_rfl
theorem zI : AI Tryz.prog 88 = some ⟨.struct [(0, 2, true), (2, 1, false)], 3, 56, [.string ⟨#[]⟩, .string ⟨#[]⟩, .slice none 0 0]⟩ := by kernel_rfl
theorem wW : AI Tryz.prog 102 = some ⟨.slice 35, 1, 24, [.slice none 0 0]⟩ := by kernel_rfl
theorem wX : AI Tryz.prog 104 = some ⟨.struct [(0, 2, true), (2, 1, false), (3, 1, false)], 4, 80, [.string ⟨#[]⟩, .string ⟨#[]⟩, .slice none 0 0, .slice none 0 0]⟩ := by kernel_rfl
theorem wY : AI Tryz.prog 110 = some ⟨.struct [(0, 1, false), (1, 1, false)], 2, 32, [.slice none 0 0, .int .i64 0]⟩ := by kernel_rfl
theorem wZ : AI Tryz.prog 115 = some ⟨.struct [(0, 2, true), (2, 1, false), (3, 1, false)], 4, 48, [.string ⟨#[]⟩, .string ⟨#[]⟩, .int .i64 0, .int .i64 0]⟩ := by kernel_rfl
theorem wa : AI Tryz.prog 139 = some ⟨.struct [(0, 1, false), (1, 1, false)], 2, 32, [.string ⟨#[]⟩, .string ⟨#[]⟩]⟩ := by kernel_rfl
theorem wb : AI Tryz.prog 179 = some ⟨.slice 26, 1, 24, [.slice none 0 0]⟩ := by kernel_rfl
theorem wc : AI Tryz.prog 180 = some ⟨.slice 209, 1, 24, [.slice none 0 0]⟩ := by kernel_rfl
theorem wd : AI Tryz.prog 188 = some ⟨.int .u64, 1, 8, [.int .u64 0]⟩ := by kernel_rfl
theorem Bz : AI Tryz.prog 196 = some ⟨.map 35 4, 1, 8, [.map none]⟩ := by kernel_rfl
theorem we : AI Tryz.prog 199 = some ⟨.arr 256 4, 256, 256, List.replicate 256 (.bool false)⟩ := by kernel_rfl
theorem wg : AI Tryz.prog 209 = some ⟨.struct [(0, 1, false), (1, 1, false), (2, 1, false), (3, 1, false), (4, 1, false), (5, 1, false), (6, 4, true)], 10, 128, [.int .i64 0, .int .i64 0, .int .i64 0, .int .i64 0, .int .i64 0, .bool false, .string ⟨#[]⟩, .string ⟨#[]⟩, .slice none 0 0, .slice none 0 0]⟩ := by kernel_rfl
theorem wh : AI Tryz.prog 229 = some ⟨.slice 104, 1, 24, [.slice none 0 0]⟩ := by kernel_rfl
theorem wi : AI Tryz.prog 242 = some ⟨.struct [(0, 1, false), (1, 4, true), (5, 1, false), (6, 1, false), (7, 1, false)], 8, 136, [.string ⟨#[]⟩, .string ⟨#[]⟩, .string ⟨#[]⟩, .slice none 0 0, .slice none 0 0, .int .i64 0, .int .i64 0, .slice none 0 0]⟩ := by kernel_rfl
theorem wj : AI Tryz.prog 245 = some ⟨.struct [(0, 1, false), (1, 4, true), (5, 1, false), (6, 1, false)], 7, 112, [.int .i64 0, .string ⟨#[]⟩, .string ⟨#[]⟩, .slice none 0 0, .slice none 0 0, .bool false, .string ⟨#[]⟩]⟩ := by kernel_rfl
theorem wk : AI Tryz.prog 251 = some ⟨.int .u32, 1, 4, [.int .u32 0]⟩ := by kernel_rfl
theorem DQ : fm Tryz.prog 35 = some [.s, .s] := by kernel_rfl
theorem yU : fm Tryz.prog 44 = some [.s, .s, .s] := by kernel_rfl
theorem vE : fm Tryz.prog 115 = some [.s, .s, .i .i64, .i .i64] := by kernel_rfl
theorem vF : fm Tryz.prog 139 = some [.s, .s] := by kernel_rfl
theorem u3 : Tryz.prog.follows .mixedOrders = true := by kernel_rfl
instance : Inhabited ByteArray := ⟨⟨#[]⟩⟩
def A9 (a : Int) : List T := [.v (.int .i64 a)]
def WC : List T → Option Int
 | [.v (.int .i64 x)] => some x
 | _ => none
def Da : Ew Int where
 enc := A9
 dec := WC
 n := 1
 ed := fun _ => rfl
 de := fun c a h => by unfold WC at h; split at h <;> cases h; rfl
 len := fun _ => rfl
theorem UH (a : Int) : A9 a = [.v (.int .i64 a)] := rfl
theorem VO (xs : List Int) (n : Int) (s : AS) (K : Kt) : E4 1 (xs.map A9) n s K = (0 ≤ n ∧ n < xs.length ∧ K (.t (.rop (A9 (xs.getD n.toNat default)))) s) := Be A9 xs 1 n s K fun _ => rfl
theorem OH {b : Int} : Da.dec [.v (.int .i64 b)] = some b := rfl
theorem cA (xs : List Int) : Da.decL (xs.map A9) = some xs := Da.decL_map xs
theorem WD : Da.decL [] = some [] := rfl
theorem U9 : Da.enc = A9 := rfl
theorem kU : Da.n = 1 := rfl
theorem U7 (xs : List Int) : ET (xs.map A9) = True := eq_true (EU A9 (by intro a t ht; simp [A9] at ht; exact ⟨_, ht⟩) xs)
theorem fe (xs : List Int) : (∀ c ∈ xs.map A9, c.length = 1) = True := eq_true fun c hc => by
 obtain ⟨a, _, rfl⟩ := List.mem_map.1 hc; rfl
theorem Nw (xs : List Int) (i : Nat) (s : Int) : (xs.map A9).set i [.v (.int .i64 s)] = (xs.set i s).map A9 := Jr A9 xs i s rfl
theorem UI (a : ByteArray) : AH a = [.v (.string a)] := rfl
theorem VP (xs : List ByteArray) (n : Int) (s : AS) (K : Kt) : E4 1 (xs.map AH) n s K = (0 ≤ n ∧ n < xs.length ∧ K (.t (.rop (AH (xs.getD n.toNat default)))) s) := Be AH xs 1 n s K fun _ => rfl
theorem OI {b : ByteArray} : Ah.dec [.v (.string b)] = some b := rfl
theorem cC (xs : List ByteArray) : Ah.decL (xs.map AH) = some xs := Ah.decL_map xs
theorem WF : Ah.decL [] = some [] := rfl
theorem VA : Ah.enc = AH := rfl
theorem kV : Ah.n = 1 := rfl
theorem Jv (xs : List ByteArray) : ET (xs.map AH) = True := eq_true (EU AH (by intro a t ht; simp [AH] at ht; exact ⟨_, ht⟩) xs)
theorem Sr (xs : List ByteArray) : (∀ c ∈ xs.map AH, c.length = 1) = True := eq_true fun c hc => by
 obtain ⟨a, _, rfl⟩ := List.mem_map.1 hc; rfl
theorem qr {α β : Type} {A : AD α} {L : AL β} {a : α} {b : β} : (lc A L).enc (a, b) = A.enc a :: L.enc b := rfl
theorem qp {a : Unit} : l0.enc a = [] := rfl
theorem bB {α : Type} {E : Ew α} {xs : List α} : E.asl.enc xs = .t (.sl E.n (xs.map E.enc)) := rfl
theorem lK {α : Type} {E : Ew α} {a : α} : E.ag.enc a = .agg ((E.enc a).map .t) := rfl
theorem a8 {α : Type} {E : Ew α} {d : Bool} {n : Nat} {xs : List α} : (E.aow d n).enc xs = .o d n (xs.map E.enc) := rfl
theorem U4 {b : Int} : BA.enc b = .t (.v (.int .i64 b)) := rfl
theorem Zb {b : Int} : kK.enc b = .t (.v (.int .u8 b)) := rfl
theorem U6 {b : ByteArray} : Aw.enc b = .t (.v (.string b)) := rfl
theorem AX {α : Type} [Inhabited α] {xs : List α} {i : Nat} (h : i < xs.length) : xs.drop i = xs.getD i default :: xs.drop (i + 1) := UG h
theorem vi {k : Nat} {c : Ct} : (AA k c).kd = k := rfl
theorem vj {k : Nat} {c : Ct} : (AA k c).ro = c := rfl
theorem vI {c : Mt} : (AM c).kd = 2 := rfl
theorem vJ {c : Mt} : (AM c).mu = c := rfl
open Classical in
noncomputable def BV (p : Prop) : Bool := decide p
theorem Ae {p : Prop} : (BV p = true) = p := by unfold BV; simp
theorem Ac {p : Prop} : (BV p = false) = ¬ p := by unfold BV; simp
theorem Ap {p : Prop} (h : p) : BV p = true := by rw [Ae]; exact h
theorem AN {p : Prop} (h : ¬ p) : BV p = false := by rw [Ac]; exact h
theorem BI {p : Prop} [Decidable p] : BV p = decide p := by
 by_cases h : p
 ·rw [Ap h, decide_eq_true h]
 ·rw [AN h, decide_eq_false h]
theorem FC {p : Prop} : (!BV p) = BV (¬ p) := by
 by_cases h : p
 ·rw [Ap h, AN (fun q => q h)]; rfl
 ·rw [AN h, Ap h]; rfl
theorem AW {p q : Prop} (h : p ↔ q) : BV p = BV q := by rw [propext h]
theorem qa {p : Prop} [Decidable p] : (decide p = true) = p := by simp
theorem qb {p : Prop} [Decidable p] : (decide p = false) = ¬ p := by simp
theorem qc {b : Bool} : ((!b) = true) = (b = false) := by simp
theorem qd {b : Bool} : ((!b) = false) = (b = true) := by simp
theorem qe {b : Bool} : (¬ b = true) = (b = false) := by simp
theorem qf {b : Bool} : (¬ b = false) = (b = true) := by simp
theorem qg {p : Prop} : (¬ ¬ p) = p := by simp
theorem qz : (∀ (p : Prop) [Decidable p], (decide p = true) = p) ∧ (∀ (p : Prop) [Decidable p], (decide p = false) = ¬ p) ∧ (∀ b : Bool, ((!b) = true) = (b = false)) ∧ (∀ b : Bool, ((!b) = false) = (b = true)) ∧ (∀ b : Bool, (¬ b = true) = (b = false)) ∧ (∀ b : Bool, (¬ b = false) = (b = true)) ∧ (∀ p : Prop, (¬ ¬ p) = p) ∧ (∀ p : Prop, (BV p = true) = p) ∧ (∀ p : Prop, (BV p = false) = ¬ p) := ⟨fun _ _ => qa, fun _ _ => qb, fun _ => qc, fun _ => qd, fun _ => qe, fun _ => qf, fun _ => qg, fun _ => Ae, fun _ => Ac⟩
abbrev Ai (G : Gt) : Prop := La Tryz.prog G ∧ EW G
abbrev Gd (G : Gt) (f : FuncId) (e : P8) : Prop := H5 Tryz.prog G.m f e
theorem gR {G : Gt} {dp : Nat → Bool} {f : FuncId} {fn : Func} {c : Code} {α : Type} {L : AL α} {pre : α → Prop} {r : α → AV} {kd n : Nat} (hn : ∀ a, (L.enc a).length = n) (hf : Tryz.prog.funcs[f]? = some fn) (hb : fn.body = some c) (hok : Nb fn c = true) (hG : Ai G)
    (hlen : n ≤ fn.ntmps) (ok : BF Tryz.prog f = true) (hk : ¬ kd = 3) (hs : kd = 0 → ∀ a, BT (r a)) (h : ∀ a, pre a → run Tryz.prog G dp (Qx Tryz.prog fn.results.toList (AT 900 0 (L.enc a) ⟨[], []⟩).avs (L.enc a) (r a)) [.c c] (s0 (L.enc a))) : Gd G f (AA kd (Aq L pre r)) := XX hn hf hb hok u3 hG hlen ok hk hs h
theorem gM {G : Gt} {dp : Nat → Bool} {f : FuncId} {fn : Func} {c : Code} {α : Type} {L : AL α} {pre : α → Prop} {r : α → List AV × AV} {n : Nat} (hn : ∀ a, (L.enc a).length = n) (hf : Tryz.prog.funcs[f]? = some fn) (hb : fn.body = some c) (hok : Nb fn c = true) (hG : Ai G)
    (hlen : n ≤ fn.ntmps) (ok : BF Tryz.prog f = true) (h : ∀ a, pre a → run Tryz.prog G dp (Qx Tryz.prog fn.results.toList (AT 900 0 (L.enc a) ⟨[], []⟩).avs (r a).1 (r a).2) [.c c] (s0 (L.enc a))) : Gd G f (AM (GW L pre r)) := UL hn hf hb hok u3 hG hlen ok h
structure Ad where
 user : ByteArray
 domain : ByteArray
 deriving DecidableEq
instance : Inhabited Ad := ⟨⟨default, default⟩⟩
def Az (a : Ad) : List T := [.v (.string a.user), .v (.string a.domain)]
def i6 : List T → Option Ad
 | [.v (.string x0), .v (.string x1)] => some ⟨x0, x1⟩
 | _ => none
def DH : Ew Ad where
 enc := Az
 dec := i6
 n := 2
 ed := fun _ => rfl
 de := fun c a h => by unfold i6 at h; split at h <;> cases h; rfl
 len := fun _ => rfl
theorem Kh (a : Ad) : Az a = [.v (.string a.user), .v (.string a.domain)] := rfl
theorem aT (xs : List Ad) (n : Int) (s : AS) (K : Kt) : E4 2 (xs.map Az) n s K = (0 ≤ n ∧ n < xs.length ∧ K (.t (.rop (Az (xs.getD n.toNat default)))) s) := Be Az xs 2 n s K fun _ => rfl
theorem Ze {x0 : ByteArray} {x1 : ByteArray} : DH.dec [.v (.string x0), .v (.string x1)] = some ⟨x0, x1⟩ := rfl
theorem oJ (xs : List Ad) : DH.decL (xs.map Az) = some xs := DH.decL_map xs
theorem Zf : DH.enc = Az := rfl
theorem tC : DH.n = 2 := rfl
theorem qv (xs : List Ad) : (∀ c ∈ xs.map Az, c.length = 2) = True := eq_true fun c hc => by
 obtain ⟨a, _, rfl⟩ := List.mem_map.1 hc; rfl
theorem Zd (xs : List Ad) : ET (xs.map Az) = True := eq_true (EU Az (by intro a t ht; simp only [Az, List.mem_cons, List.not_mem_nil, or_false] at ht; rcases ht with rfl | rfl <;> exact ⟨_, rfl⟩) xs)
theorem kL (a : Ad) : (⟨a.user, a.domain⟩ : Ad) = a := rfl
theorem Bj {a b : Ad} : a = b ↔ a.user = b.user ∧ a.domain = b.domain := by
 cases a; cases b; simp
structure Ml where
 frm : Ad
 to : List Ad
 body : List ByteArray
 deriving DecidableEq
instance : Inhabited Ml := ⟨⟨default, default, default⟩⟩
def DN (a : Ml) : List T := [.v (.string a.frm.user), .v (.string a.frm.domain), .sl 2 (a.to.map Az), .sl 1 (a.body.map AH)]
def X6 (x0 : ByteArray) (x1 : ByteArray) : Option (List Ad) → Option (List ByteArray) → Option Ml
 | some x2, some x3 => some ⟨⟨x0, x1⟩, x2, x3⟩
 | _, _ => none
def jI : List T → Option Ml
 | [.v (.string x0), .v (.string x1), .sl 2 x2, .sl 1 x3] => X6 x0 x1 (DH.decL x2) (Ah.decL x3)
 | _ => none
def Zw : Ew Ml where
 enc := DN
 dec := jI
 n := 4
 ed := fun a => by
  show X6 a.frm.user a.frm.domain (DH.decL (a.to.map DH.enc)) (Ah.decL (a.body.map Ah.enc)) = _
  rw [DH.decL_map, Ah.decL_map]
  rfl
 de := fun c a h => by
  unfold jI at h
  split at h
  ·unfold X6 at h
   split at h
   ·rename_i e0 e1
    cases h
    rw [DH.decL_inv e0, Ah.decL_inv e1]; rfl
   ·cases h
  ·cases h
 len := fun _ => rfl
theorem Wx (a : Ml) : DN a = [.v (.string a.frm.user), .v (.string a.frm.domain), .sl 2 (a.to.map Az), .sl 1 (a.body.map AH)] := rfl
theorem ae (xs : List Ml) (n : Int) (s : AS) (K : Kt) : E4 4 (xs.map DN) n s K = (0 ≤ n ∧ n < xs.length ∧ K (.t (.rop (DN (xs.getD n.toNat default)))) s) := Be DN xs 4 n s K fun _ => rfl
theorem Zx {x0 : ByteArray} {x1 : ByteArray} {x2 : List (List T)} {x3 : List (List T)} : Zw.dec [.v (.string x0), .v (.string x1), .sl 2 x2, .sl 1 x3] = X6 x0 x1 (DH.decL x2) (Ah.decL x3) := rfl
theorem Zy : Zw.enc = DN := rfl
theorem q8 (xs : List Ml) : (∀ c ∈ xs.map DN, c.length = 4) = True := eq_true fun c hc => by
 obtain ⟨a, _, rfl⟩ := List.mem_map.1 hc; rfl
theorem ki (a : Ml) : (⟨a.frm, a.to, a.body⟩ : Ml) = a := rfl
structure Rc where
 addr : Ad
 tries : Int
 next : Int
 deriving DecidableEq
instance : Inhabited Rc := ⟨⟨default, default, default⟩⟩
def BJ (a : Rc) : List T := [.v (.string a.addr.user), .v (.string a.addr.domain), .v (.int .i64 a.tries), .v (.int .i64 a.next)]
def jJ : List T → Option Rc
 | [.v (.string x0), .v (.string x1), .v (.int .i64 x2), .v (.int .i64 x3)] => some ⟨⟨x0, x1⟩, x2, x3⟩
 | _ => none
def Pw : Ew Rc where
 enc := BJ
 dec := jJ
 n := 4
 ed := fun _ => rfl
 de := fun c a h => by unfold jJ at h; split at h <;> cases h; rfl
 len := fun _ => rfl
theorem Wz (a : Rc) : BJ a = [.v (.string a.addr.user), .v (.string a.addr.domain), .v (.int .i64 a.tries), .v (.int .i64 a.next)] := rfl
theorem ah (xs : List Rc) (n : Int) (s : AS) (K : Kt) : E4 4 (xs.map BJ) n s K = (0 ≤ n ∧ n < xs.length ∧ K (.t (.rop (BJ (xs.getD n.toNat default)))) s) := Be BJ xs 4 n s K fun _ => rfl
theorem Zz {x0 : ByteArray} {x1 : ByteArray} {x2 : Int} {x3 : Int} : Pw.dec [.v (.string x0), .v (.string x1), .v (.int .i64 x2), .v (.int .i64 x3)] = some ⟨⟨x0, x1⟩, x2, x3⟩ := rfl
theorem oR (xs : List Rc) : Pw.decL (xs.map BJ) = some xs := Pw.decL_map xs
theorem Z0 : Pw.enc = BJ := rfl
theorem tJ : Pw.n = 4 := rfl
theorem Xu (xs : List Rc) : (∀ c ∈ xs.map BJ, c.length = 4) = True := eq_true fun c hc => by
 obtain ⟨a, _, rfl⟩ := List.mem_map.1 hc; rfl
theorem Mm (xs : List Rc) : ET (xs.map BJ) = True := eq_true (EU BJ (by intro a t ht; simp only [BJ, List.mem_cons, List.not_mem_nil, or_false] at ht; rcases ht with rfl | rfl | rfl | rfl <;> exact ⟨_, rfl⟩) xs)
theorem kj (a : Rc) : (⟨a.addr, a.tries, a.next⟩ : Rc) = a := rfl
theorem kk {a b : Rc} : a = b ↔ a.addr = b.addr ∧ a.tries = b.tries ∧ a.next = b.next := by
 cases a; cases b; simp
theorem rr (xs : List Rc) (i : Nat) (x0 : ByteArray) (x1 : ByteArray) (x2 : Int) (x3 : Int) : (xs.map BJ).set i [.v (.string x0), .v (.string x1), .v (.int .i64 x2), .v (.int .i64 x3)] = (xs.set i ⟨⟨x0, x1⟩, x2, x3⟩).map BJ := Jr BJ xs i ⟨⟨x0, x1⟩, x2, x3⟩ rfl
structure Im where
 id : Int
 frm : Ad
 to : List Rc
 body : List ByteArray
 deriving DecidableEq
instance : Inhabited Im := ⟨⟨default, default, default, default⟩⟩
def Ag (a : Im) : List T := [.v (.int .i64 a.id), .v (.string a.frm.user), .v (.string a.frm.domain), .sl 4 (a.to.map BJ), .sl 1 (a.body.map AH)]
def X5 (x0 : Int) (x1 : ByteArray) (x2 : ByteArray) : Option (List Rc) → Option (List ByteArray) → Option Im
 | some x3, some x4 => some ⟨x0, ⟨x1, x2⟩, x3, x4⟩
 | _, _ => none
def jF : List T → Option Im
 | [.v (.int .i64 x0), .v (.string x1), .v (.string x2), .sl 4 x3, .sl 1 x4] => X5 x0 x1 x2 (Pw.decL x3) (Ah.decL x4)
 | _ => none
def Ey : Ew Im where
 enc := Ag
 dec := jF
 n := 5
 ed := fun a => by
  show X5 a.id a.frm.user a.frm.domain (Pw.decL (a.to.map Pw.enc)) (Ah.decL (a.body.map Ah.enc)) = _
  rw [Pw.decL_map, Ah.decL_map]
  rfl
 de := fun c a h => by
  unfold jF at h
  split at h
  ·unfold X5 at h
   split at h
   ·rename_i e0 e1
    cases h
    rw [Pw.decL_inv e0, Ah.decL_inv e1]; rfl
   ·cases h
  ·cases h
 len := fun _ => rfl
theorem Wv (a : Im) : Ag a = [.v (.int .i64 a.id), .v (.string a.frm.user), .v (.string a.frm.domain), .sl 4 (a.to.map BJ), .sl 1 (a.body.map AH)] := rfl
theorem aa (xs : List Im) (n : Int) (s : AS) (K : Kt) : E4 5 (xs.map Ag) n s K = (0 ≤ n ∧ n < xs.length ∧ K (.t (.rop (Ag (xs.getD n.toNat default)))) s) := Be Ag xs 5 n s K fun _ => rfl
theorem Zt {x0 : Int} {x1 : ByteArray} {x2 : ByteArray} {x3 : List (List T)} {x4 : List (List T)} : Ey.dec [.v (.int .i64 x0), .v (.string x1), .v (.string x2), .sl 4 x3, .sl 1 x4] = X5 x0 x1 x2 (Pw.decL x3) (Ah.decL x4) := rfl
theorem oP (xs : List Im) : Ey.decL (xs.map Ag) = some xs := Ey.decL_map xs
theorem b9 : Ey.decL [] = some [] := rfl
theorem Zu : Ey.enc = Ag := rfl
theorem tH : Ey.n = 5 := rfl
theorem qy (xs : List Im) : (∀ c ∈ xs.map Ag, c.length = 5) = True := eq_true fun c hc => by
 obtain ⟨a, _, rfl⟩ := List.mem_map.1 hc; rfl
theorem kc (a : Im) : (⟨a.id, a.frm, a.to, a.body⟩ : Im) = a := rfl
theorem ke {a b : Im} : a = b ↔ a.id = b.id ∧ a.frm = b.frm ∧ a.to = b.to ∧ a.body = b.body := by
 cases a; cases b; simp
theorem Y3 (xs : List Im) (i : Nat) (x0 : Int) (x1 : ByteArray) (x2 : ByteArray) (x3 : List Rc) (x4 : List ByteArray) : (xs.map Ag).set i [.v (.int .i64 x0), .v (.string x1), .v (.string x2), .sl 4 (x3.map BJ), .sl 1 (x4.map AH)] = (xs.set i ⟨x0, ⟨x1, x2⟩, x3, x4⟩).map Ag := Jr Ag xs i ⟨x0, ⟨x1, x2⟩, x3, x4⟩ rfl
structure Sp where
 last : Int
 items : List Im
 deriving DecidableEq
instance : Inhabited Sp := ⟨⟨default, default⟩⟩
def Dt (a : Sp) : List T := [.v (.int .i64 a.last), .sl 5 (a.items.map Ag)]
def YA (x0 : Int) : Option (List Im) → Option Sp
 | some x1 => some ⟨x0, x1⟩
 | _ => none
def jK : List T → Option Sp
 | [.v (.int .i64 x0), .sl 5 x1] => YA x0 (Ey.decL x1)
 | _ => none
def Px : Ew Sp where
 enc := Dt
 dec := jK
 n := 2
 ed := fun a => by
  show YA a.last (Ey.decL (a.items.map Ey.enc)) = _
  rw [Ey.decL_map]
  rfl
 de := fun c a h => by
  unfold jK at h
  split at h
  ·unfold YA at h
   split at h
   ·rename_i e0
    cases h
    rw [Ey.decL_inv e0]; rfl
   ·cases h
  ·cases h
 len := fun _ => rfl
theorem W3 (a : Sp) : Dt a = [.v (.int .i64 a.last), .sl 5 (a.items.map Ag)] := rfl
theorem Z1 {x0 : Int} {x1 : List (List T)} : Px.dec [.v (.int .i64 x0), .sl 5 x1] = YA x0 (Ey.decL x1) := rfl
theorem Z2 : Px.enc = Dt := rfl
theorem km (a : Sp) : (⟨a.last, a.items⟩ : Sp) = a := rfl
theorem kn {a b : Sp} : a = b ↔ a.last = b.last ∧ a.items = b.items := by
 cases a; cases b; simp
structure Wy where
 ends : ByteArray
 to : ByteArray
 deriving DecidableEq
instance : Inhabited Wy := ⟨⟨default, default⟩⟩
def Bh (a : Wy) : List T := [.v (.string a.ends), .v (.string a.to)]
def jN : List T → Option Wy
 | [.v (.string x0), .v (.string x1)] => some ⟨x0, x1⟩
 | _ => none
def HG : Ew Wy where
 enc := Bh
 dec := jN
 n := 2
 ed := fun _ => rfl
 de := fun c a h => by unfold jN at h; split at h <;> cases h; rfl
 len := fun _ => rfl
theorem W6 (a : Wy) : Bh a = [.v (.string a.ends), .v (.string a.to)] := rfl
theorem aj (xs : List Wy) (n : Int) (s : AS) (K : Kt) : E4 2 (xs.map Bh) n s K = (0 ≤ n ∧ n < xs.length ∧ K (.t (.rop (Bh (xs.getD n.toNat default)))) s) := Be Bh xs 2 n s K fun _ => rfl
theorem Z8 {x0 : ByteArray} {x1 : ByteArray} : HG.dec [.v (.string x0), .v (.string x1)] = some ⟨x0, x1⟩ := rfl
theorem oT (xs : List Wy) : HG.decL (xs.map Bh) = some xs := HG.decL_map xs
theorem cD : HG.decL [] = some [] := rfl
theorem Z9 : HG.enc = Bh := rfl
theorem tK : HG.n = 2 := rfl
theorem Xv (xs : List Wy) : (∀ c ∈ xs.map Bh, c.length = 2) = True := eq_true fun c hc => by
 obtain ⟨a, _, rfl⟩ := List.mem_map.1 hc; rfl
theorem Mn (xs : List Wy) : ET (xs.map Bh) = True := eq_true (EU Bh (by intro a t ht; simp only [Bh, List.mem_cons, List.not_mem_nil, or_false] at ht; rcases ht with rfl | rfl <;> exact ⟨_, rfl⟩) xs)
theorem ku (a : Wy) : (⟨a.ends, a.to⟩ : Wy) = a := rfl
theorem kw {a b : Wy} : a = b ↔ a.ends = b.ends ∧ a.to = b.to := by
 cases a; cases b; simp
structure Cf where
 name : ByteArray
 own : List ByteArray
 ways : List Wy
 deriving DecidableEq
instance : Inhabited Cf := ⟨⟨default, default, default⟩⟩
def Co (a : Cf) : List T := [.v (.string a.name), .sl 1 (a.own.map AH), .sl 2 (a.ways.map Bh)]
def X2 (x0 : ByteArray) : Option (List ByteArray) → Option (List Wy) → Option Cf
 | some x1, some x2 => some ⟨x0, x1, x2⟩
 | _, _ => none
def jA : List T → Option Cf
 | [.v (.string x0), .sl 1 x1, .sl 2 x2] => X2 x0 (Ah.decL x1) (HG.decL x2)
 | _ => none
def H4 : Ew Cf where
 enc := Co
 dec := jA
 n := 3
 ed := fun a => by
  show X2 a.name (Ah.decL (a.own.map Ah.enc)) (HG.decL (a.ways.map HG.enc)) = _
  rw [Ah.decL_map, HG.decL_map]
  rfl
 de := fun c a h => by
  unfold jA at h
  split at h
  ·unfold X2 at h
   split at h
   ·rename_i e0 e1
    cases h
    rw [Ah.decL_inv e0, HG.decL_inv e1]; rfl
   ·cases h
  ·cases h
 len := fun _ => rfl
theorem Wq (a : Cf) : Co a = [.v (.string a.name), .sl 1 (a.own.map AH), .sl 2 (a.ways.map Bh)] := rfl
theorem aW (xs : List Cf) (n : Int) (s : AS) (K : Kt) : E4 3 (xs.map Co) n s K = (0 ≤ n ∧ n < xs.length ∧ K (.t (.rop (Co (xs.getD n.toNat default)))) s) := Be Co xs 3 n s K fun _ => rfl
theorem Zi {x0 : ByteArray} {x1 : List (List T)} {x2 : List (List T)} : H4.dec [.v (.string x0), .sl 1 x1, .sl 2 x2] = X2 x0 (Ah.decL x1) (HG.decL x2) := rfl
theorem oL (xs : List Cf) : H4.decL (xs.map Co) = some xs := H4.decL_map xs
theorem Zj : H4.enc = Co := rfl
theorem tE : H4.n = 3 := rfl
theorem kP (a : Cf) : (⟨a.name, a.own, a.ways⟩ : Cf) = a := rfl
theorem kQ {a b : Cf} : a = b ↔ a.name = b.name ∧ a.own = b.own ∧ a.ways = b.ways := by
 cases a; cases b; simp
structure Gm where
 frm : Ad
 body : List ByteArray
 deriving DecidableEq
instance : Inhabited Gm := ⟨⟨default, default⟩⟩
def CF (a : Gm) : List T := [.v (.string a.frm.user), .v (.string a.frm.domain), .sl 1 (a.body.map AH)]
def NV (x0 : ByteArray) (x1 : ByteArray) : Option (List ByteArray) → Option Gm
 | some x2 => some ⟨⟨x0, x1⟩, x2⟩
 | _ => none
def jD : List T → Option Gm
 | [.v (.string x0), .v (.string x1), .sl 1 x2] => NV x0 x1 (Ah.decL x2)
 | _ => none
def Pv : Ew Gm where
 enc := CF
 dec := jD
 n := 3
 ed := fun a => by
  show NV a.frm.user a.frm.domain (Ah.decL (a.body.map Ah.enc)) = _
  rw [Ah.decL_map]
  rfl
 de := fun c a h => by
  unfold jD at h
  split at h
  ·unfold NV at h
   split at h
   ·rename_i e0
    cases h
    rw [Ah.decL_inv e0]; rfl
   ·cases h
  ·cases h
 len := fun _ => rfl
theorem Wt (a : Gm) : CF a = [.v (.string a.frm.user), .v (.string a.frm.domain), .sl 1 (a.body.map AH)] := rfl
theorem aY (xs : List Gm) (n : Int) (s : AS) (K : Kt) : E4 3 (xs.map CF) n s K = (0 ≤ n ∧ n < xs.length ∧ K (.t (.rop (CF (xs.getD n.toNat default)))) s) := Be CF xs 3 n s K fun _ => rfl
theorem Zp {x0 : ByteArray} {x1 : ByteArray} {x2 : List (List T)} : Pv.dec [.v (.string x0), .v (.string x1), .sl 1 x2] = NV x0 x1 (Ah.decL x2) := rfl
theorem oN (xs : List Gm) : Pv.decL (xs.map CF) = some xs := Pv.decL_map xs
theorem Zq : Pv.enc = CF := rfl
theorem tG : Pv.n = 3 := rfl
theorem qx (xs : List Gm) : (∀ c ∈ xs.map CF, c.length = 3) = True := eq_true fun c hc => by
 obtain ⟨a, _, rfl⟩ := List.mem_map.1 hc; rfl
theorem kY (a : Gm) : (⟨a.frm, a.body⟩ : Gm) = a := rfl
theorem kZ {a b : Gm} : a = b ↔ a.frm = b.frm ∧ a.body = b.body := by
 cases a; cases b; simp
structure Bx where
 addr : Ad
 mails : List Gm
 deriving DecidableEq
instance : Inhabited Bx := ⟨⟨default, default⟩⟩
def A5 (a : Bx) : List T := [.v (.string a.addr.user), .v (.string a.addr.domain), .sl 3 (a.mails.map CF)]
def X1 (x0 : ByteArray) (x1 : ByteArray) : Option (List Gm) → Option Bx
 | some x2 => some ⟨⟨x0, x1⟩, x2⟩
 | _ => none
def i7 : List T → Option Bx
 | [.v (.string x0), .v (.string x1), .sl 3 x2] => X1 x0 x1 (Pv.decL x2)
 | _ => none
def JU : Ew Bx where
 enc := A5
 dec := i7
 n := 3
 ed := fun a => by
  show X1 a.addr.user a.addr.domain (Pv.decL (a.mails.map Pv.enc)) = _
  rw [Pv.decL_map]
  rfl
 de := fun c a h => by
  unfold i7 at h
  split at h
  ·unfold X1 at h
   split at h
   ·rename_i e0
    cases h
    rw [Pv.decL_inv e0]; rfl
   ·cases h
  ·cases h
 len := fun _ => rfl
theorem Wo (a : Bx) : A5 a = [.v (.string a.addr.user), .v (.string a.addr.domain), .sl 3 (a.mails.map CF)] := rfl
theorem aU (xs : List Bx) (n : Int) (s : AS) (K : Kt) : E4 3 (xs.map A5) n s K = (0 ≤ n ∧ n < xs.length ∧ K (.t (.rop (A5 (xs.getD n.toNat default)))) s) := Be A5 xs 3 n s K fun _ => rfl
theorem Zg {x0 : ByteArray} {x1 : ByteArray} {x2 : List (List T)} : JU.dec [.v (.string x0), .v (.string x1), .sl 3 x2] = X1 x0 x1 (Pv.decL x2) := rfl
theorem oK (xs : List Bx) : JU.decL (xs.map A5) = some xs := JU.decL_map xs
theorem b6 : JU.decL [] = some [] := rfl
theorem Zh : JU.enc = A5 := rfl
theorem tD : JU.n = 3 := rfl
theorem qw (xs : List Bx) : (∀ c ∈ xs.map A5, c.length = 3) = True := eq_true fun c hc => by
 obtain ⟨a, _, rfl⟩ := List.mem_map.1 hc; rfl
theorem kN (a : Bx) : (⟨a.addr, a.mails⟩ : Bx) = a := rfl
theorem kO {a b : Bx} : a = b ↔ a.addr = b.addr ∧ a.mails = b.mails := by
 cases a; cases b; simp
structure Ls where
 mark : ByteArray
 addr : Ad
 deriving DecidableEq
instance : Inhabited Ls := ⟨⟨default, default⟩⟩
def Ax (a : Ls) : List T := [.v (.string a.mark), .v (.string a.addr.user), .v (.string a.addr.domain)]
def jH : List T → Option Ls
 | [.v (.string x0), .v (.string x1), .v (.string x2)] => some ⟨x0, ⟨x1, x2⟩⟩
 | _ => none
def Fb : Ew Ls where
 enc := Ax
 dec := jH
 n := 3
 ed := fun _ => rfl
 de := fun c a h => by unfold jH at h; split at h <;> cases h; rfl
 len := fun _ => rfl
theorem Ww (a : Ls) : Ax a = [.v (.string a.mark), .v (.string a.addr.user), .v (.string a.addr.domain)] := rfl
theorem ac (xs : List Ls) (n : Int) (s : AS) (K : Kt) : E4 3 (xs.map Ax) n s K = (0 ≤ n ∧ n < xs.length ∧ K (.t (.rop (Ax (xs.getD n.toNat default)))) s) := Be Ax xs 3 n s K fun _ => rfl
theorem oQ (xs : List Ls) : Fb.decL (xs.map Ax) = some xs := Fb.decL_map xs
theorem cB : Fb.decL [] = some [] := rfl
theorem Zv : Fb.enc = Ax := rfl
theorem tI : Fb.n = 3 := rfl
theorem Xt (xs : List Ls) : (∀ c ∈ xs.map Ax, c.length = 3) = True := eq_true fun c hc => by
 obtain ⟨a, _, rfl⟩ := List.mem_map.1 hc; rfl
theorem Mk (xs : List Ls) : ET (xs.map Ax) = True := eq_true (EU Ax (by intro a t ht; simp only [Ax, List.mem_cons, List.not_mem_nil, or_false] at ht; rcases ht with rfl | rfl | rfl <;> exact ⟨_, rfl⟩) xs)
theorem kg {a b : Ls} : a = b ↔ a.mark = b.mark ∧ a.addr = b.addr := by
 cases a; cases b; simp
structure Hs where
 conf : Cf
 spool : Sp
 boxes : List Bx
 lost : List Ls
 deriving DecidableEq
instance : Inhabited Hs := ⟨⟨default, default, default, default⟩⟩
def Ak (a : Hs) : List T := [.v (.string a.conf.name), .sl 1 (a.conf.own.map AH), .sl 2 (a.conf.ways.map Bh), .v (.int .i64 a.spool.last), .sl 5 (a.spool.items.map Ag), .sl 3 (a.boxes.map A5), .sl 3 (a.lost.map Ax)]
def NW (x0 : ByteArray) (x3 : Int) : Option (List ByteArray) → Option (List Wy) → Option (List Im) → Option (List Bx) → Option (List Ls) → Option Hs
 | some x1, some x2, some x4, some x5, some x6 => some ⟨⟨x0, x1, x2⟩, ⟨x3, x4⟩, x5, x6⟩
 | _, _, _, _, _ => none
def jE : List T → Option Hs
 | [.v (.string x0), .sl 1 x1, .sl 2 x2, .v (.int .i64 x3), .sl 5 x4, .sl 3 x5, .sl 3 x6] => NW x0 x3 (Ah.decL x1) (HG.decL x2) (Ey.decL x4) (JU.decL x5) (Fb.decL x6)
 | _ => none
def FX : Ew Hs where
 enc := Ak
 dec := jE
 n := 7
 ed := fun a => by
  show NW a.conf.name a.spool.last (Ah.decL (a.conf.own.map Ah.enc)) (HG.decL (a.conf.ways.map HG.enc)) (Ey.decL (a.spool.items.map Ey.enc)) (JU.decL (a.boxes.map JU.enc)) (Fb.decL (a.lost.map Fb.enc)) = _
  rw [Ah.decL_map, HG.decL_map, Ey.decL_map, JU.decL_map, Fb.decL_map]
  rfl
 de := fun c a h => by
  unfold jE at h
  split at h
  ·unfold NW at h
   split at h
   ·rename_i e0 e1 e2 e3 e4
    cases h
    rw [Ah.decL_inv e0, HG.decL_inv e1, Ey.decL_inv e2, JU.decL_inv e3, Fb.decL_inv e4]; rfl
   ·cases h
  ·cases h
 len := fun _ => rfl
theorem Wu (a : Hs) : Ak a = [.v (.string a.conf.name), .sl 1 (a.conf.own.map AH), .sl 2 (a.conf.ways.map Bh), .v (.int .i64 a.spool.last), .sl 5 (a.spool.items.map Ag), .sl 3 (a.boxes.map A5), .sl 3 (a.lost.map Ax)] := rfl
theorem aZ (xs : List Hs) (n : Int) (s : AS) (K : Kt) : E4 7 (xs.map Ak) n s K = (0 ≤ n ∧ n < xs.length ∧ K (.t (.rop (Ak (xs.getD n.toNat default)))) s) := Be Ak xs 7 n s K fun _ => rfl
theorem Zr {x0 : ByteArray} {x1 : List (List T)} {x2 : List (List T)} {x3 : Int} {x4 : List (List T)} {x5 : List (List T)} {x6 : List (List T)} : FX.dec [.v (.string x0), .sl 1 x1, .sl 2 x2, .v (.int .i64 x3), .sl 5 x4, .sl 3 x5, .sl 3 x6] = NW x0 x3 (Ah.decL x1) (HG.decL x2) (Ey.decL x4) (JU.decL x5) (Fb.decL x6) := rfl
theorem oO (xs : List Hs) : FX.decL (xs.map Ak) = some xs := FX.decL_map xs
theorem Zs : FX.enc = Ak := rfl
theorem ka (a : Hs) : (⟨a.conf, a.spool, a.boxes, a.lost⟩ : Hs) = a := rfl
theorem kb {a b : Hs} : a = b ↔ a.conf = b.conf ∧ a.spool = b.spool ∧ a.boxes = b.boxes ∧ a.lost = b.lost := by
 cases a; cases b; simp
theorem LK (xs : List Hs) (i : Nat) (x0 : ByteArray) (x1 : List ByteArray) (x2 : List Wy) (x3 : Int) (x4 : List Im) (x5 : List Bx) (x6 : List Ls) : (xs.map Ak).set i [.v (.string x0), .sl 1 (x1.map AH), .sl 2 (x2.map Bh), .v (.int .i64 x3), .sl 5 (x4.map Ag), .sl 3 (x5.map A5), .sl 3 (x6.map Ax)] = (xs.set i ⟨⟨x0, x1, x2⟩, ⟨x3, x4⟩, x5, x6⟩).map Ak := Jr Ak xs i ⟨⟨x0, x1, x2⟩, ⟨x3, x4⟩, x5, x6⟩ rfl
structure Ss where
 state : Int
 mail : Ml
 bad : Bool
 buf : ByteArray
 deriving DecidableEq
instance : Inhabited Ss := ⟨⟨default, default, default, default⟩⟩
def El (a : Ss) : List T := [.v (.int .i64 a.state), .v (.string a.mail.frm.user), .v (.string a.mail.frm.domain), .sl 2 (a.mail.to.map Az), .sl 1 (a.mail.body.map AH), .v (.bool a.bad), .v (.string a.buf)]
def YB (x0 : Int) (x1 : ByteArray) (x2 : ByteArray) (x5 : Bool) (x6 : ByteArray) : Option (List Ad) → Option (List ByteArray) → Option Ss
 | some x3, some x4 => some ⟨x0, ⟨⟨x1, x2⟩, x3, x4⟩, x5, x6⟩
 | _, _ => none
def jL : List T → Option Ss
 | [.v (.int .i64 x0), .v (.string x1), .v (.string x2), .sl 2 x3, .sl 1 x4, .v (.bool x5), .v (.string x6)] => YB x0 x1 x2 x5 x6 (DH.decL x3) (Ah.decL x4)
 | _ => none
def Z3 : Ew Ss where
 enc := El
 dec := jL
 n := 7
 ed := fun a => by
  show YB a.state a.mail.frm.user a.mail.frm.domain a.bad a.buf (DH.decL (a.mail.to.map DH.enc)) (Ah.decL (a.mail.body.map Ah.enc)) = _
  rw [DH.decL_map, Ah.decL_map]
  rfl
 de := fun c a h => by
  unfold jL at h
  split at h
  ·unfold YB at h
   split at h
   ·rename_i e0 e1
    cases h
    rw [DH.decL_inv e0, Ah.decL_inv e1]; rfl
   ·cases h
  ·cases h
 len := fun _ => rfl
theorem W4 (a : Ss) : El a = [.v (.int .i64 a.state), .v (.string a.mail.frm.user), .v (.string a.mail.frm.domain), .sl 2 (a.mail.to.map Az), .sl 1 (a.mail.body.map AH), .v (.bool a.bad), .v (.string a.buf)] := rfl
theorem Z4 {x0 : Int} {x1 : ByteArray} {x2 : ByteArray} {x3 : List (List T)} {x4 : List (List T)} {x5 : Bool} {x6 : ByteArray} : Z3.dec [.v (.int .i64 x0), .v (.string x1), .v (.string x2), .sl 2 x3, .sl 1 x4, .v (.bool x5), .v (.string x6)] = YB x0 x1 x2 x5 x6 (DH.decL x3) (Ah.decL x4) := rfl
theorem Z5 : Z3.enc = El := rfl
theorem kp (a : Ss) : (⟨a.state, a.mail, a.bad, a.buf⟩ : Ss) = a := rfl
structure Cl where
 name : ByteArray
 mail : Ml
 state : Int
 pos : Int
 outs : List Int
 deriving DecidableEq
instance : Inhabited Cl := ⟨⟨default, default, default, default, default⟩⟩
def Dr (a : Cl) : List T := [.v (.string a.name), .v (.string a.mail.frm.user), .v (.string a.mail.frm.domain), .sl 2 (a.mail.to.map Az), .sl 1 (a.mail.body.map AH), .v (.int .i64 a.state), .v (.int .i64 a.pos), .sl 1 (a.outs.map A9)]
def X3 (x0 : ByteArray) (x1 : ByteArray) (x2 : ByteArray) (x5 : Int) (x6 : Int) : Option (List Ad) → Option (List ByteArray) → Option (List Int) → Option Cl
 | some x3, some x4, some x7 => some ⟨x0, ⟨⟨x1, x2⟩, x3, x4⟩, x5, x6, x7⟩
 | _, _, _ => none
def jB : List T → Option Cl
 | [.v (.string x0), .v (.string x1), .v (.string x2), .sl 2 x3, .sl 1 x4, .v (.int .i64 x5), .v (.int .i64 x6), .sl 1 x7] => X3 x0 x1 x2 x5 x6 (DH.decL x3) (Ah.decL x4) (Da.decL x7)
 | _ => none
def Zk : Ew Cl where
 enc := Dr
 dec := jB
 n := 8
 ed := fun a => by
  show X3 a.name a.mail.frm.user a.mail.frm.domain a.state a.pos (DH.decL (a.mail.to.map DH.enc)) (Ah.decL (a.mail.body.map Ah.enc)) (Da.decL (a.outs.map Da.enc)) = _
  rw [DH.decL_map, Ah.decL_map, Da.decL_map]
  rfl
 de := fun c a h => by
  unfold jB at h
  split at h
  ·unfold X3 at h
   split at h
   ·rename_i e0 e1 e2
    cases h
    rw [DH.decL_inv e0, Ah.decL_inv e1, Da.decL_inv e2]; rfl
   ·cases h
  ·cases h
 len := fun _ => rfl
theorem Wr (a : Cl) : Dr a = [.v (.string a.name), .v (.string a.mail.frm.user), .v (.string a.mail.frm.domain), .sl 2 (a.mail.to.map Az), .sl 1 (a.mail.body.map AH), .v (.int .i64 a.state), .v (.int .i64 a.pos), .sl 1 (a.outs.map A9)] := rfl
theorem Zl {x0 : ByteArray} {x1 : ByteArray} {x2 : ByteArray} {x3 : List (List T)} {x4 : List (List T)} {x5 : Int} {x6 : Int} {x7 : List (List T)} : Zk.dec [.v (.string x0), .v (.string x1), .v (.string x2), .sl 2 x3, .sl 1 x4, .v (.int .i64 x5), .v (.int .i64 x6), .sl 1 x7] = X3 x0 x1 x2 x5 x6 (DH.decL x3) (Ah.decL x4) (Da.decL x7) := rfl
theorem Zm : Zk.enc = Dr := rfl
theorem kR (a : Cl) : (⟨a.name, a.mail, a.state, a.pos, a.outs⟩ : Cl) = a := rfl
structure Ev where
 kind : Int
 host : Int
 to : Int
 id : Int
 cut : Int
 lose : Bool
 mail : Ml
 deriving DecidableEq
instance : Inhabited Ev := ⟨⟨default, default, default, default, default, default, default⟩⟩
def C0 (a : Ev) : List T := [.v (.int .i64 a.kind), .v (.int .i64 a.host), .v (.int .i64 a.to), .v (.int .i64 a.id), .v (.int .i64 a.cut), .v (.bool a.lose), .v (.string a.mail.frm.user), .v (.string a.mail.frm.domain), .sl 2 (a.mail.to.map Az), .sl 1 (a.mail.body.map AH)]
def X4 (x0 : Int) (x1 : Int) (x2 : Int) (x3 : Int) (x4 : Int) (x5 : Bool) (x6 : ByteArray) (x7 : ByteArray) : Option (List Ad) → Option (List ByteArray) → Option Ev
 | some x8, some x9 => some ⟨x0, x1, x2, x3, x4, x5, ⟨⟨x6, x7⟩, x8, x9⟩⟩
 | _, _ => none
def jC : List T → Option Ev
 | [.v (.int .i64 x0), .v (.int .i64 x1), .v (.int .i64 x2), .v (.int .i64 x3), .v (.int .i64 x4), .v (.bool x5), .v (.string x6), .v (.string x7), .sl 2 x8, .sl 1 x9] => X4 x0 x1 x2 x3 x4 x5 x6 x7 (DH.decL x8) (Ah.decL x9)
 | _ => none
def P6 : Ew Ev where
 enc := C0
 dec := jC
 n := 10
 ed := fun a => by
  show X4 a.kind a.host a.to a.id a.cut a.lose a.mail.frm.user a.mail.frm.domain (DH.decL (a.mail.to.map DH.enc)) (Ah.decL (a.mail.body.map Ah.enc)) = _
  rw [DH.decL_map, Ah.decL_map]
  rfl
 de := fun c a h => by
  unfold jC at h
  split at h
  ·unfold X4 at h
   split at h
   ·rename_i e0 e1
    cases h
    rw [DH.decL_inv e0, Ah.decL_inv e1]; rfl
   ·cases h
  ·cases h
 len := fun _ => rfl
theorem Ws (a : Ev) : C0 a = [.v (.int .i64 a.kind), .v (.int .i64 a.host), .v (.int .i64 a.to), .v (.int .i64 a.id), .v (.int .i64 a.cut), .v (.bool a.lose), .v (.string a.mail.frm.user), .v (.string a.mail.frm.domain), .sl 2 (a.mail.to.map Az), .sl 1 (a.mail.body.map AH)] := rfl
theorem aX (xs : List Ev) (n : Int) (s : AS) (K : Kt) : E4 10 (xs.map C0) n s K = (0 ≤ n ∧ n < xs.length ∧ K (.t (.rop (C0 (xs.getD n.toNat default)))) s) := Be C0 xs 10 n s K fun _ => rfl
theorem Zn {x0 : Int} {x1 : Int} {x2 : Int} {x3 : Int} {x4 : Int} {x5 : Bool} {x6 : ByteArray} {x7 : ByteArray} {x8 : List (List T)} {x9 : List (List T)} : P6.dec [.v (.int .i64 x0), .v (.int .i64 x1), .v (.int .i64 x2), .v (.int .i64 x3), .v (.int .i64 x4), .v (.bool x5), .v (.string x6), .v (.string x7), .sl 2 x8, .sl 1 x9] = X4 x0 x1 x2 x3 x4 x5 x6 x7 (DH.decL x8) (Ah.decL x9) := rfl
theorem oM (xs : List Ev) : P6.decL (xs.map C0) = some xs := P6.decL_map xs
theorem Zo : P6.enc = C0 := rfl
theorem tF : P6.n = 10 := rfl
theorem kW (a : Ev) : (⟨a.kind, a.host, a.to, a.id, a.cut, a.lose, a.mail⟩ : Ev) = a := rfl
structure Wd where
 hosts : List Hs
 now : Int
 marks : Int
 given : List Ls
 deriving DecidableEq
instance : Inhabited Wd := ⟨⟨default, default, default, default⟩⟩
def Il (a : Wd) : List T := [.sl 7 (a.hosts.map Ak), .v (.int .i64 a.now), .v (.int .i64 a.marks), .sl 3 (a.given.map Ax)]
def G8 (x1 : Int) (x2 : Int) : Option (List Hs) → Option (List Ls) → Option Wd
 | some x0, some x3 => some ⟨x0, x1, x2, x3⟩
 | _, _ => none
def jM : List T → Option Wd
 | [.sl 7 x0, .v (.int .i64 x1), .v (.int .i64 x2), .sl 3 x3] => G8 x1 x2 (FX.decL x0) (Fb.decL x3)
 | _ => none
def iZ : Ew Wd where
 enc := Il
 dec := jM
 n := 4
 ed := fun a => by
  show G8 a.now a.marks (FX.decL (a.hosts.map FX.enc)) (Fb.decL (a.given.map Fb.enc)) = _
  rw [FX.decL_map, Fb.decL_map]
  rfl
 de := fun c a h => by
  unfold jM at h
  split at h
  ·unfold G8 at h
   split at h
   ·rename_i e0 e1
    cases h
    rw [FX.decL_inv e0, Fb.decL_inv e1]; rfl
   ·cases h
  ·cases h
 len := fun _ => rfl
theorem W5 (a : Wd) : Il a = [.sl 7 (a.hosts.map Ak), .v (.int .i64 a.now), .v (.int .i64 a.marks), .sl 3 (a.given.map Ax)] := rfl
theorem Z6 {x0 : List (List T)} {x1 : Int} {x2 : Int} {x3 : List (List T)} : iZ.dec [.sl 7 x0, .v (.int .i64 x1), .v (.int .i64 x2), .sl 3 x3] = G8 x1 x2 (FX.decL x0) (Fb.decL x3) := rfl
theorem Z7 : iZ.enc = Il := rfl
theorem kr (a : Wd) : (⟨a.hosts, a.now, a.marks, a.given⟩ : Wd) = a := rfl
def RP (a : Ml) : AV := .agg [.t (.v (.string a.frm.user)), .t (.v (.string a.frm.domain)), .o true 2 (a.to.map Az), .o true 1 (a.body.map AH)]
theorem gO (a : Ml) : RP a = .agg [.t (.v (.string a.frm.user)), .t (.v (.string a.frm.domain)), .o true 2 (a.to.map Az), .o true 1 (a.body.map AH)] := rfl
theorem HC (a : Ml) : BT (RP a) := .agg _ fun c hc => by
 simp only [List.mem_cons, List.not_mem_nil, or_false] at hc
 rcases hc with rfl | rfl | rfl | rfl
 ·exact .v _
 ·exact .v _
 ·exact .deep _ _
 ·exact .deep _ _
def rb (a : Im) : AV := .agg [.t (.v (.int .i64 a.id)), .t (.v (.string a.frm.user)), .t (.v (.string a.frm.domain)), .o true 4 (a.to.map BJ), .o true 1 (a.body.map AH)]
theorem gL (a : Im) : rb a = .agg [.t (.v (.int .i64 a.id)), .t (.v (.string a.frm.user)), .t (.v (.string a.frm.domain)), .o true 4 (a.to.map BJ), .o true 1 (a.body.map AH)] := rfl
theorem RN (a : Im) : BT (rb a) := .agg _ fun c hc => by
 simp only [List.mem_cons, List.not_mem_nil, or_false] at hc
 rcases hc with rfl | rfl | rfl | rfl | rfl
 ·exact .v _
 ·exact .v _
 ·exact .v _
 ·exact .deep _ _
 ·exact .deep _ _
def RR (a : Sp) : AV := .agg [.t (.v (.int .i64 a.last)), .o true 5 (a.items.map Ag)]
theorem gP (a : Sp) : RR a = .agg [.t (.v (.int .i64 a.last)), .o true 5 (a.items.map Ag)] := rfl
theorem HD (a : Sp) : BT (RR a) := .agg _ fun c hc => by
 simp only [List.mem_cons, List.not_mem_nil, or_false] at hc
 rcases hc with rfl | rfl
 ·exact .v _
 ·exact .deep _ _
def gI (a : Cf) : AV := .agg [.t (.v (.string a.name)), .o true 1 (a.own.map AH), .o true 2 (a.ways.map Bh)]
theorem gJ (a : Cf) : gI a = .agg [.t (.v (.string a.name)), .o true 1 (a.own.map AH), .o true 2 (a.ways.map Bh)] := rfl
theorem LA (a : Cf) : BT (gI a) := .agg _ fun c hc => by
 simp only [List.mem_cons, List.not_mem_nil, or_false] at hc
 rcases hc with rfl | rfl | rfl
 ·exact .v _
 ·exact .deep _ _
 ·exact .deep _ _
def yc (a : Gm) : AV := .agg [.t (.v (.string a.frm.user)), .t (.v (.string a.frm.domain)), .o true 1 (a.body.map AH)]
def jv : AV → Option Gm
 | .agg [.t (.v (.string x0)), .t (.v (.string x1)), x2] => NV x0 x1 (Ah.owD true 1 x2)
 | _ => none
def w4 : AD Gm where
 enc := yc
 dec := jv
 ed := fun a => by
  show NV a.frm.user a.frm.domain (Ah.owD true 1 ((Ah.aow true 1).enc a.body)) = _
  rw [show Ah.owD true 1 ((Ah.aow true 1).enc a.body) = some a.body from (Ah.aow true 1).ed _]
  rfl
 de := fun x m h => by
  unfold jv at h
  split at h
  ·unfold NV at h
   split at h
   ·rename_i e0
    cases h
    have q0 := (Ah.aow true 1).de _ _ e0
    subst q0
    rfl
   ·cases h
  ·cases h
theorem ZY (a : Gm) : w4.enc a = .agg [.t (.v (.string a.frm.user)), .t (.v (.string a.frm.domain)), .o true 1 (a.body.map AH)] := rfl
theorem ZX {x0 : ByteArray} {x1 : ByteArray} {x2 : List (List T)} : w4.dec (.agg [.t (.v (.string x0)), .t (.v (.string x1)), .o true 1 x2]) = NV x0 x1 (Ah.decL x2) := rfl
def Nm (a : Hs) : AV := .agg [.t (.v (.string a.conf.name)), .o true 1 (a.conf.own.map AH), .o true 2 (a.conf.ways.map Bh), .t (.v (.int .i64 a.spool.last)), .o true 5 (a.spool.items.map Ag), .o true 3 (a.boxes.map A5), .o true 3 (a.lost.map Ax)]
def Yh : AV → Option Hs
 | .agg [.t (.v (.string x0)), x1, x2, .t (.v (.int .i64 x3)), x4, x5, x6] => NW x0 x3 (Ah.owD true 1 x1) (HG.owD true 2 x2) (Ey.owD true 5 x4) (JU.owD true 3 x5) (Fb.owD true 3 x6)
 | _ => none
def zP : AD Hs where
 enc := Nm
 dec := Yh
 ed := fun a => by
  show NW a.conf.name a.spool.last (Ah.owD true 1 ((Ah.aow true 1).enc a.conf.own)) (HG.owD true 2 ((HG.aow true 2).enc a.conf.ways)) (Ey.owD true 5 ((Ey.aow true 5).enc a.spool.items)) (JU.owD true 3 ((JU.aow true 3).enc a.boxes)) (Fb.owD true 3 ((Fb.aow true 3).enc a.lost)) = _
  rw [show Ah.owD true 1 ((Ah.aow true 1).enc a.conf.own) = some a.conf.own from (Ah.aow true 1).ed _, show HG.owD true 2 ((HG.aow true 2).enc a.conf.ways) = some a.conf.ways from (HG.aow true 2).ed _, show Ey.owD true 5 ((Ey.aow true 5).enc a.spool.items) = some a.spool.items from (Ey.aow true 5).ed _, show JU.owD true 3 ((JU.aow true 3).enc a.boxes) = some a.boxes from (JU.aow true 3).ed _, show Fb.owD true 3 ((Fb.aow true 3).enc a.lost) = some a.lost from (Fb.aow true 3).ed _]
  rfl
 de := fun x m h => by
  unfold Yh at h
  split at h
  ·unfold NW at h
   split at h
   ·rename_i e0 e1 e2 e3 e4
    cases h
    have q0 := (Ah.aow true 1).de _ _ e0
    subst q0
    have q1 := (HG.aow true 2).de _ _ e1
    subst q1
    have q2 := (Ey.aow true 5).de _ _ e2
    subst q2
    have q3 := (JU.aow true 3).de _ _ e3
    subst q3
    have q4 := (Fb.aow true 3).de _ _ e4
    subst q4
    rfl
   ·cases h
  ·cases h
theorem gK (a : Hs) : Nm a = .agg [.t (.v (.string a.conf.name)), .o true 1 (a.conf.own.map AH), .o true 2 (a.conf.ways.map Bh), .t (.v (.int .i64 a.spool.last)), .o true 5 (a.spool.items.map Ag), .o true 3 (a.boxes.map A5), .o true 3 (a.lost.map Ax)] := rfl
theorem HB (a : Hs) : BT (Nm a) := .agg _ fun c hc => by
 simp only [List.mem_cons, List.not_mem_nil, or_false] at hc
 rcases hc with rfl | rfl | rfl | rfl | rfl | rfl | rfl
 ·exact .v _
 ·exact .deep _ _
 ·exact .deep _ _
 ·exact .v _
 ·exact .deep _ _
 ·exact .deep _ _
 ·exact .deep _ _
end Go.V
namespace Go.V
open Go Go.Proofs
set_option maxRecDepth 100000
set_option linter.unusedSimpArgs false
set_option linter.unusedVariables false
theorem ai {a b : Prop} (x : a) (y : b) : a ∧ b := ⟨x, y⟩
theorem s1 {P G dp R k s t e b} (h1 : b = true → run P G dp R (.c t :: k) s) (h2 : b = false → run P G dp R (.c e :: k) s) : th P G dp R t e k s b := Tr h1 h2
theorem s2 {s : AS} {x y : AV} {K : Kt} {b : Bool} (h1 : b = true → K x s) (h2 : b = false → K y s) : Fk x y s K b := M1 h1 h2
theorem s3 {P G dp R k s d all r op b want} (h1 : b = true → gB P G dp R d all r k s op true want) (h2 : b = false → gB P G dp R d all r k s op false want) : gB P G dp R d all r k s op b want := XQ h1 h2
theorem s4 {P G dp all ns K i l acc s pre t d op b want} (h1 : b = true → Uz P G dp all ns K i l acc s pre t d op true want) (h2 : b = false → Uz P G dp all ns K i l acc s pre t d op false want) : Uz P G dp all ns K i l acc s pre t d op b want := Th h1 h2
theorem tv : True := trivial
theorem tn (n : Nat) : Int.toNat (n : Int) = n := rfl
theorem lm {α β : Type} {xs : List α} (f : α → β) : (xs.map f).length = xs.length := List.length_map f
theorem Lr {dp : Nat → Bool} {G : Gt} {f : FuncId} {fn : Func} {c : Code} {α : Type} {L : AL α} {pre : α → Prop} {r : α → AV} {kd n : Nat} (hb : fn.body = some c) (hG : Ai G) (h : ∀ a, pre a → run Tryz.prog G dp (Qx Tryz.prog fn.results.toList (AT 900 0 (L.enc a) ⟨[], []⟩).avs (L.enc a) (r a)) [.c c] (s0 (L.enc a)))
    (hn : ∀ a, (L.enc a).length = n := by exact fun _ => rfl) (hf : Tryz.prog.funcs[f]? = some fn := by kernel_rfl) (hok : Nb fn c = true := by kernel_rfl) (hlen : n ≤ fn.ntmps := by exact Nat.le_of_ble_eq_true rfl) (ok : BF Tryz.prog f = true := by kernel_rfl) (hk : ¬ kd = 3 := by decide) (hs : kd = 0 → ∀ a, BT (r a) := by first | exact fun _ _ => .v _ | exact fun h => by cases h) : Gd G f (AA kd (Aq L pre r)) := gR hn hf hb hok hG hlen ok hk hs h
theorem gr {G : Gt} {f : FuncId} {fn : Func} {c : Code} {α : Type} {L : AL α} {pre : α → Prop} {r : α → AV} {kd n : Nat} (hb : fn.body = some c) (hG : Ai G) (h : ∀ a, pre a → run Tryz.prog G (fun _ => true) (Qx Tryz.prog fn.results.toList (AT 900 0 (L.enc a) ⟨[], []⟩).avs (L.enc a) (r a)) [.c c] (s0 (L.enc a)))
    (hn : ∀ a, (L.enc a).length = n := by exact fun _ => rfl) (hf : Tryz.prog.funcs[f]? = some fn := by kernel_rfl) (hok : Nb fn c = true := by kernel_rfl) (hlen : n ≤ fn.ntmps := by exact Nat.le_of_ble_eq_true rfl) (ok : BF Tryz.prog f = true := by kernel_rfl) (hk : ¬ kd = 3 := by decide) (hs : kd = 0 → ∀ a, BT (r a) := by first | exact fun _ _ => .v _ | exact fun h => by cases h) : Gd G f (AA kd (Aq L pre r)) := gR hn hf hb hok hG hlen ok hk hs h
theorem JF {dp : Nat → Bool} {G : Gt} {f : FuncId} {fn : Func} {c : Code} {α : Type} {L : AL α} {pre : α → Prop} {r : α → List AV × AV} {n : Nat} (hb : fn.body = some c) (hG : Ai G) (h : ∀ a, pre a → run Tryz.prog G dp (Qx Tryz.prog fn.results.toList (AT 900 0 (L.enc a) ⟨[], []⟩).avs (r a).1 (r a).2) [.c c] (s0 (L.enc a)))
    (hn : ∀ a, (L.enc a).length = n := by exact fun _ => rfl) (hf : Tryz.prog.funcs[f]? = some fn := by kernel_rfl) (hok : Nb fn c = true := by kernel_rfl) (hlen : n ≤ fn.ntmps := by exact Nat.le_of_ble_eq_true rfl) (ok : BF Tryz.prog f = true := by kernel_rfl) : Gd G f (AM (GW L pre r)) := gM hn hf hb hok hG hlen ok h
attribute [go_sem] Fk.eq_1 Fk.eq_2 KF.eq_1 TV.eq_1 TV.eq_2 H7.eq_1 H7.eq_2 E6.eq_1 E6.eq_2 E6.eq_3 E6.eq_4 E6.eq_5 E5.eq_1 E5.eq_2 E5.eq_3 E5.eq_4 E5.eq_5 E7.eq_1 E7.eq_2 E7.eq_3 Ih.eq_1 Ih.eq_2 QF.eq_1 QF.eq_2 QF.eq_3 k6.eq_1 k6.eq_2 tQ.eq_1 aF.eq_1 aF.eq_2 ce.eq_1 Lc.eq_1 HP.eq_1 HP.eq_2 HP.eq_3 HP.eq_4 HP.eq_5 KA.eq_1 KA.eq_2 B0.eq_1 B0.eq_2 B0.eq_3 Ir.eq_1 Gq.eq_1 H8.eq_1 L8.eq_1 QK.eq_1 QK.eq_2 E9.eq_1 E9.eq_2 E9.eq_3 MB.eq_1 MB.eq_2 E3.eq_1 E3.eq_2 Gn.eq_1 GE.eq_1 GE.eq_2 kx.eq_1 kx.eq_2 CC.eq_1 CC.eq_2 CY.eq_1 Ja.eq_1 L4.eq_1 E0.eq_1 E0.eq_2 GG.eq_1 GF.eq_1 Na.eq_1 EB.eq_1 EB.eq_2 EC.eq_1 EC.eq_2 Fl.eq_1 Fl.eq_2 DO.eq_1 DO.eq_2 IS.eq_1 J8.eq_1 J8.eq_2 L5.eq_1 L5.eq_2 OV.eq_1 OV.eq_2 OV.eq_3 OV.eq_4 QD.eq_1 QD.eq_2 Lk.eq_1 Lk.eq_2 Lk.eq_3 Lk.eq_4 ik.eq_1 ik.eq_2 OX.eq_1 HR.eq_1 HR.eq_2 HR.eq_3 OY.eq_1 HQ.eq_1 HQ.eq_2 HQ.eq_3 Jc.eq_1 Jc.eq_2 Jd.eq_1 Jd.eq_2 KE.eq_1 KE.eq_2 Xo.eq_1 TW.eq_1 TX.eq_1 QC.eq_1 QC.eq_2 TY.eq_1 Ga.eq_1 Ga.eq_2 Ga.eq_3 Ga.eq_4 QE.eq_1 QE.eq_2 Dn.eq_1 Mx.eq_1 Mx.eq_2 Mx.eq_3 C2.eq_1 C2.eq_2 Gp.eq_1 Gp.eq_2 DT.eq_1 DT.eq_2 DT.eq_3 If.eq_1 If.eq_2 j2.eq_1 AS.takeV.eq_1 AS.takeV.eq_2 AS.takeV.eq_3 AS.takeV.eq_4 AS.takeV.eq_5 AS.takeV.eq_6 AS.takeV.eq_7 AV.oldM.eq_1 AV.oldM.eq_2 AV.oldM.eq_3 AV.oldM.eq_4 AV.oldM.eq_5 AV.oldM.eq_6 AV.oldM.eq_7 AV.oldM.eq_8 AV.oldM.eq_9 AV.oldM.eq_10 AV.oldM.eq_11 AV.oldML.eq_1 AV.oldML.eq_2 subL.eq_1 subL.eq_2 Ed.eq_1 Ed.eq_2 Ed.eq_3 Ed.eq_4 DM.eq_1 Ba.eq_1 Ba.eq_2 Ba.eq_3 Ba.eq_4 B9.eq_1 DK.eq_1 DK.eq_2 DK.eq_3 HO.eq_1 HO.eq_2 HO.eq_3 Ci.eq_1 Ci.eq_2 Ci.eq_3 Ci.eq_4 Ci.eq_5 Ci.eq_6 Ci.eq_7 Ci.eq_8 Ci.eq_9 Ci.eq_10 Ci.eq_11 Ci.eq_12 Ci.eq_13 Ci.eq_14 Ci.eq_15 Ci.eq_17 Ci.eq_18 Ci.eq_19 Ci.eq_20 Ci.eq_21 Ci.eq_22 Ci.eq_23 AS.ev.eq_1 AS.ev.eq_2 AS.ev.eq_3 AS.ev.eq_4 AS.evs.eq_1 AS.evs.eq_2 AS.evp.eq_1 AS.evp.eq_2 AS.put.eq_1 AS.put.eq_2 AS.remL.eq_1 AS.remL.eq_2 AV.has.eq_1 AV.has.eq_2 AV.has.eq_3 AV.has.eq_4 AV.has.eq_5 AV.has.eq_6 AV.has.eq_7 AV.has.eq_8 AV.has.eq_9 AV.has.eq_10 AV.has.eq_11 AV.hasL.eq_1 AV.hasL.eq_2 Ob.drop.eq_1 Ob.drop.eq_2 Ob.drop.eq_3 Ob.drop.eq_4 AV.cells.eq_1 AV.cells.eq_2 AV.cells.eq_3 AV.cells.eq_4 AV.cells.eq_5 AS.snapT.eq_1 AS.snapT.eq_2 AS.snapT.eq_3 AS.snapT.eq_4 AS.snapT.eq_5 AS.snapT.eq_6 AS.snapT.eq_7 AS.snap.eq_1 AS.snap.eq_2 BC.eq_1 BC.eq_2 AP.eq_1 AP.eq_2 AP.eq_3 AP.eq_4 AP.eq_5 AP.eq_6 AP.eq_7 AP.eq_8 AP.eq_9 AP.eq_10 AP.eq_11 AT.eq_1 AT.eq_2 LY.eq_1 LY.eq_2 AV.ids.eq_1 AV.ids.eq_2 AV.ids.eq_3 AV.ids.eq_4 AV.ids.eq_5 AV.ids.eq_6 AV.ids.eq_7 AV.ids.eq_8 AV.ids.eq_9 AV.ids.eq_10 AV.ids.eq_11 AV.idsL.eq_1 AV.idsL.eq_2 AV.sub.eq_1 AV.sub.eq_2 AV.sub.eq_3 AV.sub.eq_4 AV.sub.eq_5 AV.sub.eq_6 AV.sub.eq_7 AV.sub.eq_8 AV.sub.eq_9 AV.sub.eq_10 AV.sub.eq_11 AV.subL.eq_1 AV.subL.eq_2 AS.frzL.eq_1 AS.frzL.eq_2 AS.absT.eq_1 AS.absT.eq_2 AS.absT.eq_4 AS.absL.eq_1 AS.absL.eq_2 AS.absOk.eq_1 AS.absOkL.eq_1 AS.absOkL.eq_2 B5.eq_1 Bl.eq_1 Bl.eq_2 AS.appBase.eq_1 AS.appBase.eq_2 AS.appSrc.eq_1 Dd.eq_1 Dd.eq_2 Dd.eq_3 Cm.eq_1 Cm.eq_2 it.eq_1 it.eq_2 De.eq_1 Kd.agg.eq_1 Kd.agg.eq_2 Nc.eq_1 Nc.eq_2 Nc.eq_3 Nc.eq_4 Nc.eq_5 Nc.eq_6 Nc.eq_7 Nc.eq_8 zt.eq_1 yj.eq_1 yk.eq_1 Yz.eq_1 Yz.eq_2 Yy.eq_1 Yd.eq_1 Pa.eq_1 Pa.eq_2 Pa.eq_3 Ye.eq_1 Yc.eq_1 Ud.eq_1 Ud.eq_2 Ik.eq_1 FY.eq_1 FY.eq_2 FY.eq_3 FY.eq_4 FY.eq_5 FY.eq_6 FY.eq_7 FY.eq_8 EI.eq_1 EI.eq_2 Di.eq_1 Di.eq_2 Di.eq_3 Di.eq_4 Di.eq_5 B6.eq_1 D1.eq_1 D1.eq_2 D1.eq_3 D1.eq_4 D1.eq_5 CV.eq_1 XN.eq_1 XN.eq_2 Qx.eq_1 Qx.eq_2 Qx.eq_3 cellAV.eq_1 cellAV.eq_2 EO.eq_1 EO.eq_2 DX.eq_1 DX.eq_2 DX.eq_3 DX.eq_4 DX.eq_5 DX.eq_6 DX.eq_7 DX.eq_8 DX.eq_9 DX.eq_10 DX.eq_11 DX.eq_12 DX.eq_13 DX.eq_14 DX.eq_15 DX.eq_16 DX.eq_17 DX.eq_18 DX.eq_19 DX.eq_20 DX.eq_21 DX.eq_22 DX.eq_23 DX.eq_24 DX.eq_25 DX.eq_26 Cb.eq_1 Cb.eq_2 Cb.eq_3 Cb.eq_4 Cb.eq_5 AV.refs.eq_1 AV.refs.eq_2 AV.refs.eq_3 AV.refs.eq_4 AV.refs.eq_5 AV.refs.eq_6 AV.refs.eq_7 AV.refs.eq_8 AV.refs.eq_9 AV.refs.eq_10 AV.refs.eq_11 AV.refsL.eq_1 AV.refsL.eq_2 Ph.eq_1 Ph.eq_2 LF.eq_1 LF.eq_2 LF.eq_3 LF.eq_4 LF.eq_5 LF.eq_6 TF.eq_1 TF.eq_2 bm.eq_1 bm.eq_2 Iv.eq_1 Iv.eq_2 AV.hasM.eq_1 AV.hasM.eq_2 AV.hasM.eq_3 AV.hasM.eq_4 AV.hasM.eq_5 AV.hasM.eq_6 AV.hasM.eq_7 AV.hasM.eq_8 AV.hasM.eq_9 AV.hasM.eq_10 AV.hasM.eq_11 AV.hasML.eq_1 AV.hasML.eq_2 Ob.dropM.eq_1 Ob.dropM.eq_2 Ob.dropM.eq_3 Ob.dropM.eq_4 s6.eq_1 s6.eq_2 AS.purges.eq_1 AS.purges.eq_2 Qr.eq_1 Qr.eq_2 fu.eq_1 fu.eq_2 yf.eq_1 yf.eq_2 Hd.eq_1 Hd.eq_2 HW.eq_1 HW.eq_2 qs.eq_1 qs.eq_2 qt.eq_1 qt.eq_2 AS.mvs.eq_1 AS.mvs.eq_2 AS.mvA.eq_1 AS.mvA.eq_2 AS.mvB.eq_1 R0.eq_1 R0.eq_2 sk.eq_1 sk.eq_2 ZO.eq_1 Ig.eq_1 Ig.eq_2 lN.eq_1 KG.eq_1 KG.eq_2 L7.eq_1 KH.eq_1 KH.eq_2 Kq.eq_1 DV.eq_1 VQ.eq_1 KD.eq_1 KD.eq_2 KD.eq_3 Ry.eq_1 Ry.eq_2 L6.eq_1 L6.eq_2 QI.eq_1 wu.eq_1 wu.eq_2 wu.eq_3 yW.eq_1 Fj.eq_1 Fj.eq_2 Y8.eq_1 Kw.eq_1 Kw.eq_2 Kw.eq_3 s5.eq_1 s5.eq_2 s5.eq_3 Te.eq_1 Td.eq_1 Tc.eq_1 Ii.eq_1 QH.eq_1 QH.eq_2 Tb.eq_1 Ta.eq_1 E8.eq_1 KB.eq_1 OW.eq_1 yG.eq_1 yG.eq_2 jS.eq_1 jS.eq_2 jS.eq_3 jS.eq_4 Ky.eq_1 Ky.eq_2 Ky.eq_3 Ky.eq_4 Xw.eq_1 Xw.eq_2 yP.eq_1 yP.eq_2 Kx.eq_1 Kx.eq_2 q9.eq_1 q9.eq_2 q9.eq_3 q9.eq_4 q9.eq_5 AS.lkO.eq_1 AS.lkO.eq_2 AS.lkOf.eq_1 Pg.eq_1 Pg.eq_2 Pg.eq_3 Pg.eq_4 Pg.eq_5 Pg.eq_6 DR.eq_1 DR.eq_2 DR.eq_3 DR.eq_4 DR.eq_5 DR.eq_6 DR.eq_7 DR.eq_8 DR.eq_9 DR.eq_10 DR.eq_11 k7.eq_1 k7.eq_2 tR.eq_1 tR.eq_2 KL.eq_1 DW.eq_1 DW.eq_2 Kz.eq_1 Kz.eq_2 Kz.eq_3 Kz.eq_4 Xx.eq_1 Xx.eq_2 yQ.eq_1 yQ.eq_2 Su.eq_1 Su.eq_2 tU.eq_1 gb vo vq Yw gg Yu tk tj ti Ul Yv gf RZ Ys rl gZ rk gY rm ga ud uc vu rn gc yE yF ur um uq uo vk kv KI KC ky VK HS Uq gv gd s0 Au CM Hd pD pC Wl drop_nil ou ot cU cT Wk Wm cS HW fY rt rg re_eq up_eq pI vS Ob.drop xK zZ Dj AS.frz splice cond_true cond_false List.map_cons List.map_nil List.drop_zero List.drop_succ_cons List.drop_nil List.take_zero List.take_succ_cons List.take_nil List.getElem?_cons_zero List.getElem?_cons_succ List.getElem?_nil List.length_cons List.length_nil Option.map_some Option.map_none Option.bind_some Option.bind_none List.cons_append List.nil_append List.append_nil Option.getD_some Option.getD_none List.all_cons List.all_nil Bool.and_true Bool.true_and Bool.or_false Bool.false_or Bool.or_true Bool.true_or List.flatten_cons List.flatten_nil List.replicate_succ List.replicate_zero and_true true_and lQ lP VV au ax Tj Vb bD bE Tk VZ Va sf sg Tv bd bc rv ru iD iB gh rY gA Yb gH gG rZ Yf Ub Ue ne_eq not_false_eq_true not_true_eq_false List.nodup_nil List.not_mem_nil false_implies implies_true eq_self true_or or_true Option.some.injEq gi hY gu gz hO gj iA gk gw gq gp gn gm VW cd PC Nat.le_refl US lm sa sZ Wj Ym PM RA RU Pe UQ Xz xM xL xN xP xQ xO Ug RT IN u7 List.any_cons List.any_nil lD ar lC En PN SR Op.operands Call.operands K7 lH zS Ti Yk TG List.append_eq vQ vR vK vL vM uA uC uG fV fW fX Io AS.mv fits KM J9 HA Q6 a9 lM lO Xn Xl Xm tZ VL bP uy fN ak Tg decide_true decide_false Array.toList_append bg bh bi bj lT Tn bN QQ AS.mvJ YF ri rj jn Option.isSome_some Option.isSome_none rI VT VU tV tW tX lB k8 lA k9 lG qu.eq_1 fd.eq_1 fd.eq_2 UN.eq_1 UN.eq_2 UN.eq_3 UN.eq_4 ya yb am QAH QAI QAJ QAK yr yu yv yw yx yy yz y6 y7 y8 y9 zA zB zC zD zF zG zH zI wW wX wY wZ wa wb wc wd Bz wg wh wi wj wk DQ yU vE vF qs qt AS.mvs UI VP OI cC WF VA kV UH VO OH cA WD U9 kU U7 fe qr qp bB lK a8 U4 U6 Zb U3 U5 Za bA lJ az I3.eq_1 qq fZ sY.eq_1 K0.eq_1 M0.eq_1 Jv Sr V9 n6 vi vj vI vJ Kh aT Ze oJ Zf tC qv kL Zd Wx ae Zx Zy q8 ki X6.eq_1 gO Wz ah Zz oR Z0 tJ Xu kj Mm Wv aa Zt oP b9 Zu tH qy kc X5.eq_1 gL W3 Z1 Z2 km YA.eq_1 gP W6 aj Z8 oT cD Z9 tK Xv ku Mn Wq aW Zi oL Zj tE kP X2.eq_1 gJ Wt aY Zp oN Zq tG qx kY NV.eq_1 ZY ZX Wo aU Zg oK b6 Zh tD qw kN X1.eq_1 Ww ac oQ cB Zv tI Xt Mk Wu aZ Zr oO Zs ka NW.eq_1 gK W4 Z4 Z5 kp YB.eq_1 Wr Zl Zm kR X3.eq_1 Ws aX Zn oM Zo tF kW X4.eq_1 W5 Z6 Z7 kr G8.eq_1
def Bn (b : ByteArray) : Prop := b.size ≤ 1048576
def Gl {α : Type} (p : α → Prop) (xs : List α) : Prop := (xs.length : Int) ≤ 1048576 ∧ ∀ x ∈ xs, p x
theorem Gl.at {α : Type} [Inhabited α] {p : α → Prop} {xs : List α} (h : Gl p xs) {i : Nat} (hi : i < xs.length) : p (xs.getD i default) := h.2 _ (by simp [hi])
def H6 (a : Ad) : Prop := Bn a.user ∧ Bn a.domain
def Lj (a : Ml) : Prop := H6 a.frm ∧ Gl H6 a.to ∧ Gl Bn a.body
def w9 (a : Rc) : Prop := H6 a.addr
def Ff (a : Im) : Prop := H6 a.frm ∧ Gl w9 a.to ∧ Gl Bn a.body
def Fg (a : Sp) : Prop := Gl Ff a.items
def xA (a : Wy) : Prop := Bn a.ends ∧ Bn a.to
def J1 (a : Cf) : Prop := Bn a.name ∧ Gl Bn a.own ∧ Gl xA a.ways
def w8 (a : Gm) : Prop := H6 a.frm ∧ Gl Bn a.body
def w7 (a : Bx) : Prop := H6 a.addr ∧ Gl w8 a.mails
def TT (a : Ls) : Prop := Bn a.mark ∧ H6 a.addr
def EM (a : Hs) : Prop := J1 a.conf ∧ Fg a.spool ∧ Gl w7 a.boxes ∧ Gl TT a.lost
def aH (a : Wd) : Prop := Gl EM a.hosts ∧ Gl TT a.given
def bl (s : ByteArray) : List UInt8 := s.data.toList
def mB (l : List UInt8) : ByteArray := ⟨l.toArray⟩
theorem Vf (l : List UInt8) : bl (mB l) = l := rfl
theorem Sz (s : ByteArray) : mB (bl s) = s := rfl
theorem CD (s : ByteArray) : (bl s).length = s.size := rfl
theorem Bq (s : ByteArray) (i : Nat) : AC s i = (((bl s).getD i 0).toNat : Int) := rfl
theorem FE {s t : ByteArray} (h : bl s = bl t) : s = t := by
 rw [← Sz s, ← Sz t, h]
theorem C3 (s : ByteArray) (i j : Nat) : bl (s.extract i j) = ((bl s).drop i).take (j - i) := by
 unfold bl
 rw [ByteArray.data_extract, Array.toList_extract]
theorem G0 (s : ByteArray) (i j : Nat) : s.extract i j = mB (((bl s).drop i).take (j - i)) := FE (by rw [C3, Vf])
theorem A8 (s : ByteArray) (i : Nat) : 0 ≤ AC s i ∧ AC s i ≤ 255 := by
 rw [Bq]
 have := ((bl s).getD i 0).toNat_lt
 omega
def Ko (n : Int) : Prop := (97 ≤ n ∧ n ≤ 122) ∨ (48 ≤ n ∧ n ≤ 57)
def Rs (s : ByteArray) : Prop := (∀ j, j < s.size → Ko (AC s j)) ∧ 1 ≤ s.size ∧ s.size ≤ 8
def Ie (s : ByteArray) : Prop := (∀ j, j < s.size → 32 ≤ AC s j ∧ AC s j ≤ 126) ∧ s.size ≤ 40
def Av (c : UInt8) : Nat → List UInt8 → List (List UInt8)
 | 0, l => [l]
 | _ + 1, [] => [[]]
 | m + 1, x :: r => if x = c then [] :: Av c m r else match Av c (m + 1) r with | h :: t => (x :: h) :: t | [] => [[x]]
def LD (p : List UInt8) : List (List UInt8) → List (List UInt8)
 | h :: t => (p ++ h) :: t
 | [] => [p]
theorem Pd : ∀ (l : List (List UInt8)), l ≠ [] → LD [] l = l
 | h :: t, _ => rfl
 | [], h => absurd rfl h
theorem Ia (c : UInt8) : ∀ (m : Nat) (l : List UInt8), Av c m l ≠ []
 | 0, l => by simp [Av]
 | m + 1, [] => by simp [Av]
 | m + 1, x :: r => by
   unfold Av
   split
   ·try simp
   ·split <;> simp
theorem Re (c : UInt8) (m : Nat) (r : List UInt8) (p : List UInt8) : LD p (Av c (m + 1) (c :: r)) = p :: Av c m r := by
 simp [Av, LD]
theorem Po {c x : UInt8} (h : x ≠ c) (m : Nat) (r : List UInt8) (p : List UInt8) : LD p (Av c (m + 1) (x :: r)) = LD (p ++ [x]) (Av c (m + 1) r) := by
 cases h1 : Av c (m + 1) r with
 | nil => exact absurd h1 (Ia c (m + 1) r)
 | cons a t => simp only [Av, if_neg h, h1, LD, List.append_assoc, List.singleton_append]
theorem Y6 (c : UInt8) (l : List UInt8) (p : List UInt8) : LD p (Av c 0 l) = [p ++ l] := by simp [Av, LD]
theorem Rb (c : UInt8) (m : Nat) (p : List UInt8) : LD p (Av c m []) = [p] := by
 cases m <;> simp [Av, LD]
def Cz (s : ByteArray) (c : UInt8) (m : Nat) : List ByteArray := (Av c m (bl s)).map mB
def Lb : Ct := Aq (lc BA (lc BA (lc BA l0))) (fun p => True) (fun p => .t (.v (.bool (BV (p.2.1 ≤ p.1 ∧ p.1 ≤ p.2.2.1)))))
theorem ph {G : Gt} (hG : Ai G) : Gd G 36 (AA 0 Lb) := by
 refine gr (fn := Tryz.f36) (n := 3) rfl hG ?_
 rintro ⟨n, lo, hi, ⟨⟩⟩ hpre
 simp -implicitDefEqProofs only [Tryz.f36, go_sem, seval] at hpre ⊢
 with_reducible repeat' (first | apply ai | intro _ | ((first | apply s1 | apply s3 | apply s4) <;> intro hb <;> simp -implicitDefEqProofs only [hb, go_sem, seval] <;> try simp only [qz] at hb))
 all_goals first
  | (rw [AN (by omega)]; done)
  | (rw [BI]; simp [*]; done)
  | skip
def Vs : Ct := Aq (lc Aw l0) (fun p => True) (fun p => .t (.v (.bool (BV (Rs p.1)))))
section
attribute [local go_sem] Lb
theorem dl {G : Gt} (hG : Ai G) (hh : G.e 36 = AA 0 Lb) : Gd G 165 (AA 0 Vs) := by
 refine gr (fn := Tryz.f165) (n := 1) rfl hG ?_
 rintro ⟨s, ⟨⟩⟩ hpre
 simp -implicitDefEqProofs only [Tryz.f165, go_sem, hh, seval] at hpre ⊢
 refine AF [] (ι := {i : Nat // i ≤ s.size ∧ ∀ j, j < i → Ko (AC s j)}) (fun p => ⟨[(0, .t (.v (.string s))), (3, .t (.v (.int .i64 p.1)))], []⟩) (fun p => s.size - p.1) ⟨0, by simp, by simp⟩ rfl ?_ ?_
 ·simp -implicitDefEqProofs only [go_sem, hh, seval]
  try simp
 ·rintro ⟨i, hi, hall⟩
  simp -implicitDefEqProofs only [go_sem, hh, seval]
  with_reducible repeat' (first | apply ai | intro _ | ((first | apply s1 | apply s3 | apply s4) <;> intro hb <;> simp -implicitDefEqProofs only [hb, go_sem, hh, seval] <;> try simp only [qz] at hb))
  all_goals (try simp only [maxLen, tn] at *)
  all_goals (try have hbr := A8 s i)
  all_goals first | rfl | omega | skip
  all_goals first
   | (rw [AN (fun hq => by have hq1 := hq.1 i (by omega); simp only [Ko] at *; omega)]; done)
   | (refine ⟨⟨i + 1, by omega, fun j hj => ?_⟩, by dsimp only; omega, ?_⟩
      ·by_cases e : j = i
       ·subst e; simp only [Ko] at *; omega
       ·exact hall j (by omega)
      ·simp -implicitDefEqProofs only [go_sem, hh, seval]
       simp)
   | skip
  ·rw [AW]
   exact ⟨fun h => ⟨fun j hj => hall j (by omega), by omega⟩, fun h => by have := h.2; omega⟩
end
def QW : Ct := Aq (lc Aw l0) (fun p => True) (fun p => .t (.v (.bool (BV (Ie p.1)))))
theorem dB {G : Gt} (hG : Ai G) : Gd G 124 (AA 0 QW) := by
 refine gr (fn := Tryz.f124) (n := 1) rfl hG ?_
 rintro ⟨s, ⟨⟩⟩ hpre
 simp -implicitDefEqProofs only [Tryz.f124, go_sem, seval] at hpre ⊢
 refine AF [] (ι := {i : Nat // i ≤ s.size ∧ ∀ j, j < i → 32 ≤ AC s j ∧ AC s j ≤ 126}) (fun p => ⟨[(0, .t (.v (.string s))), (3, .t (.v (.int .i64 p.1)))], []⟩) (fun p => s.size - p.1) ⟨0, by simp, by simp⟩ rfl ?_ ?_
 ·simp -implicitDefEqProofs only [go_sem, seval]
  try simp
 ·rintro ⟨i, hi, hall⟩
  simp -implicitDefEqProofs only [go_sem, seval]
  with_reducible repeat' (first | apply ai | intro _ | ((first | apply s1 | apply s3 | apply s4) <;> intro hb <;> simp -implicitDefEqProofs only [hb, go_sem, seval] <;> try simp only [qz] at hb))
  all_goals (try simp only [maxLen, tn] at *)
  all_goals (try have hbr := A8 s i)
  all_goals first | rfl | omega | skip
  all_goals first
   | (rw [AN (fun hq => by have hq1 := hq.1 i (by omega); skip; omega)]; done)
   | (refine ⟨⟨i + 1, by omega, fun j hj => ?_⟩, by dsimp only; omega, ?_⟩
      ·by_cases e : j = i
       ·subst e; skip; omega
       ·exact hall j (by omega)
      ·simp -implicitDefEqProofs only [go_sem, seval]
       simp)
   | skip
  ·rw [← BI, AW]
   exact ⟨fun h => ⟨fun j hj => hall j (by omega), by omega⟩, fun h => by have := h.2; omega⟩
structure DF (s : ByteArray) (c : UInt8) (m : Nat) where
 i : Nat
 fr : Nat
 o : List (List UInt8)
 hi : i ≤ s.size
 hf : fr ≤ i
 ho : o.length ≤ m
 h : o ++ LD (((bl s).drop fr).take (i - fr)) (Av c (m - o.length) ((bl s).drop i)) = Av c m (bl s)
theorem Us {l : List UInt8} {fr i : Nat} (hf : fr ≤ i) (hi : i < l.length) : (l.drop fr).take (i + 1 - fr) = (l.drop fr).take (i - fr) ++ [l.getD i 0] := by
 have e : i + 1 - fr = (i - fr) + 1 := by omega
 rw [e, List.take_add_one]
 have : (l.drop fr)[i - fr]? = some (l.getD i 0) := by
  rw [List.getElem?_drop]
  have : fr + (i - fr) = i := by omega
  rw [this]
  simp [hi]
 rw [this]; rfl
def DF.start (s : ByteArray) (c : UInt8) (m : Nat) : DF s c m := ⟨0, 0, [], Nat.zero_le _, Nat.le_refl _, Nat.zero_le _, by
 simp only [Nat.sub_self, List.take_zero, List.nil_append, List.length_nil, Nat.sub_zero, List.drop_zero]
 exact Pd _ (Ia c m _)⟩
theorem Ej {s : ByteArray} {i : Nat} (h : i < s.size) : (bl s).drop i = (bl s).getD i 0 :: (bl s).drop (i + 1) := by
 have h' : i < (bl s).length := h
 rw [List.drop_eq_getElem_cons h']
 simp [h']
def DF.hit {s : ByteArray} {c : UInt8} {m : Nat} (z : DF s c m) (h1 : z.i < s.size) (h2 : z.o.length < m) (h3 : (bl s).getD z.i 0 = c) : DF s c m :=
 ⟨z.i + 1, z.i + 1, z.o ++ [((bl s).drop z.fr).take (z.i - z.fr)], h1, Nat.le_refl _, by simp; omega, by
   have h := z.h
   obtain ⟨k, hk⟩ : ∃ k, m - z.o.length = k + 1 := ⟨m - z.o.length - 1, by omega⟩
   rw [hk, Ej h1, h3, Re] at h
   have e : m - (z.o ++ [((bl s).drop z.fr).take (z.i - z.fr)]).length = k := by simp; omega
   rw [e, Nat.sub_self, List.take_zero, Pd _ (Ia _ _ _), List.append_assoc, List.singleton_append]
   exact h⟩
def DF.miss {s : ByteArray} {c : UInt8} {m : Nat} (z : DF s c m) (h1 : z.i < s.size) (h2 : z.o.length < m) (h3 : (bl s).getD z.i 0 ≠ c) : DF s c m :=
 ⟨z.i + 1, z.fr, z.o, h1, Nat.le_succ_of_le z.hf, z.ho, by
   have h := z.h
   obtain ⟨k, hk⟩ : ∃ k, m - z.o.length = k + 1 := ⟨m - z.o.length - 1, by omega⟩
   rw [hk, Ej h1, Po h3] at h
   rw [hk, Us (l := bl s) z.hf (by rw [CD]; exact h1)]
   exact h⟩
theorem DF.done {s : ByteArray} {c : UInt8} {m : Nat} (z : DF s c m) (h : ¬ z.i < s.size ∨ ¬ z.o.length < m) : z.o.map mB ++ [s.extract z.fr s.size] = Cz s c m := by
 have hz := z.h
 have e0 : s.extract z.fr s.size = mB ((bl s).drop z.fr) := by
  rw [G0]
  congr 1
  rw [List.take_of_length_le (by rw [List.length_drop, CD]; exact Nat.le_refl _)]
 unfold Cz
 rw [← hz, List.map_append, e0]
 congr 1
 rcases h with h | h
 ·have hi := z.hi
  have e : (bl s).drop z.i = [] := List.drop_of_length_le (by rw [CD]; omega)
  rw [e, Rb]
  have : ((bl s).drop z.fr).take (z.i - z.fr) = (bl s).drop z.fr := List.take_of_length_le (by rw [List.length_drop, CD]; omega)
  rw [this]; rfl
 ·have hk : m - z.o.length = 0 := by omega
  rw [hk, Y6]
  have hf := z.hf
  have : ((bl s).drop z.fr).take (z.i - z.fr) ++ (bl s).drop z.i = (bl s).drop z.fr := by
   have e : (bl s).drop z.i = ((bl s).drop z.fr).drop (z.i - z.fr) := by rw [List.drop_drop]; congr 1; omega
   rw [e, List.take_append_drop]
  rw [this]; rfl
theorem cX (s : ByteArray) (z : List (List UInt8)) (fr i : Nat) : z.map mB ++ [s.extract fr i] = (z ++ [((bl s).drop fr).take (i - fr)]).map mB := by
 rw [G0, List.map_append]; rfl
theorem M3 (l : List ByteArray) (x : ByteArray) : l.map AH ++ [[T.v (.string x)]] = (l ++ [x]).map AH := by simp [AH]
theorem lL (s : ByteArray) (z : List (List UInt8)) (fr i : Nat) : (z.map mB).map AH ++ [[T.v (.string (s.extract fr i))]] = ((z ++ [((bl s).drop fr).take (i - fr)]).map mB).map AH := by
 rw [M3, cX]
theorem GL {s : ByteArray} {i : Nat} {c : UInt8} : AC s i = (c.toNat : Int) ↔ (bl s).getD i 0 = c := by
 rw [Bq]
 constructor
 ·intro h
  have : ((bl s).getD i 0).toNat = c.toNat := by omega
  exact UInt8.toNat_inj.1 this
 ·intro h; rw [h]
def Vv : Ct := Aq (lc Aw (lc kK (lc BA l0))) (fun p => 0 ≤ p.2.1 ∧ p.2.1 ≤ 255 ∧ 0 ≤ p.2.2.1 ∧ p.2.2.1 ≤ 1000) (fun p => .o true 1 ((Cz p.1 (UInt8.ofNat p.2.1.toNat) p.2.2.1.toNat).map AH))
section
attribute [local go_sem] lm List.map_nil List.length_nil
theorem dw {G : Gt} (hG : Ai G) : Gd G 175 (AA 0 Vv) := by
 refine gr (fn := Tryz.f175) (n := 3) rfl hG ?_ (hs := fun _ p => .deep _ _)
 rintro ⟨s, c, m, ⟨⟩⟩ hpre
 simp -implicitDefEqProofs only [Tryz.f175, go_sem, seval] at hpre ⊢
 obtain ⟨c, rfl⟩ : ∃ b : UInt8, c = (b.toNat : Int) := ⟨UInt8.ofNat c.toNat, by simp; omega⟩
 obtain ⟨m, rfl⟩ : ∃ n : Nat, m = (n : Int) := ⟨m.toNat, by omega⟩
 with_reducible repeat' (first | apply ai | intro _ | ((first | apply s1 | apply s3 | apply s4) <;> intro hb <;> simp -implicitDefEqProofs only [hb, go_sem, seval] <;> try simp only [qz] at hb))
 all_goals first | rfl | omega | skip
 refine AF [(7, 1901, true, 1)] (ι := DF s c m) (fun z => ⟨[(0, .t (.v (.string s))), (1, .t (.v (.int .u8 c.toNat))), (2, .t (.v (.int .i64 m))), (7, .h 1901), (8, .t (.v (.int .i64 z.fr))), (9, .t (.v (.int .i64 z.i)))], [(1901, some (.arr true 1 ((z.o.map mB).map AH)))]⟩) (fun z => s.size - z.i) (DF.start s c m) rfl ?_ ?_
 ·simp -implicitDefEqProofs only [go_sem, seval]
  simp [DF.start]
 ·intro z
  have h1 := z.hi
  have h2 := z.hf
  have h3 := z.ho
  simp -implicitDefEqProofs only [go_sem, seval]
  with_reducible repeat' (first | apply ai | intro _ | ((first | apply s1 | apply s3 | apply s4) <;> intro hb <;> simp -implicitDefEqProofs only [hb, go_sem, seval] <;> try simp only [qz] at hb))
  all_goals (try simp only [maxLen, tn, lm] at *)
  all_goals first | rfl | omega | (simp_all; done) | skip
  ·refine ⟨z.hit (by omega) (by omega) (GL.1 hb), by simp only [DF.hit]; omega, ?_⟩
   rw [lL]
   simp -implicitDefEqProofs only [go_sem, seval]
   simp [DF.hit]
  ·refine ⟨z.miss (by omega) (by omega) (fun e => hb (GL.2 e)), by simp only [DF.miss]; omega, ?_⟩
   simp -implicitDefEqProofs only [go_sem, seval]
   simp [DF.miss]
  ·rw [M3, z.done (.inr (by omega)), UInt8.ofNat_toNat]
  ·rw [M3, z.done (.inl (by omega)), UInt8.ofNat_toNat]
end
def DG (s : ByteArray) : Prop := (∀ w ∈ Cz s 46 3, Rs w) ∧ (Cz s 46 3).length ≤ 3
def Bb (a : Ad) : Prop := Rs a.user ∧ DG a.domain
def Ab (a : Ad) : Prop := a.user = ⟨#[]⟩ ∧ a.domain = ⟨#[]⟩
def DZ (b : List ByteArray) : Prop := (∀ s ∈ b, Ie s) ∧ b.length ≤ 12
def DJ (m : Ml) : Prop := (∀ a ∈ m.to, Bb a) ∧ m.to.Nodup ∧ (Bb m.frm ∨ Ab m.frm) ∧ (1 ≤ m.to.length ∧ m.to.length ≤ 4) ∧ DZ m.body
def P7 (s e : ByteArray) : Prop := s = e ∨ (e.size < s.size ∧ s.extract (s.size - e.size) s.size = e ∧ AC s (s.size - e.size - 1) = 46)
theorem BX {α : Type} [Inhabited α] {xs : List α} {P : α → Prop} (h : ∀ j, j < xs.length → P (xs.getD j default)) : ∀ x ∈ xs, P x := fun x hx => by
 obtain ⟨j, hj, rfl⟩ := List.getElem_of_mem hx
 have := h j hj
 simpa [hj] using this
theorem AE {α : Type} [Inhabited α] {xs : List α} {j : Nat} (h : j < xs.length) : xs.getD j default ∈ xs := by
 simp [h]
theorem YI {α : Type} [Inhabited α] {xs : List α} (h : ∀ j, j < xs.length → ∀ k, k < j → ¬ xs.getD k default = xs.getD j default) : xs.Nodup := by
 rw [List.nodup_iff_pairwise_ne, List.pairwise_iff_getElem]
 intro k j hk hj hkj
 have := h j hj k hkj
 simpa [hk, hj] using this
theorem rG {a b : Ad} (h : (false != (decide (a.user = b.user) && decide (a.domain = b.domain))) = false) : ¬ a = b := fun e => by
 subst e; simp at h
theorem DL {α : Type} [Inhabited α] {xs : List α} {P : α → Prop} {i : Nat} (hall : ∀ j, j < i → P (xs.getD j default)) (h : P (xs.getD i default)) : ∀ j, j < i + 1 → P (xs.getD j default) := fun j hj => by
 by_cases e : j = i
 ·subst e; exact h
 ·exact hall j (by omega)
def M8 : Ct := Aq (lc Aw l0) (fun p => True) (fun p => .t (.v (.bool (BV (DG p.1)))))
section
attribute [local go_sem] Vv Vs AZ lm
theorem dP {G : Gt} (hG : Ai G) (hh : G.e 175 = AA 0 Vv ∧ G.e 165 = AA 0 Vs) : Gd G 143 (AA 0 M8) := by
 refine gr (fn := Tryz.f143) (n := 1) rfl hG ?_
 rintro ⟨s, ⟨⟩⟩ hpre
 simp -implicitDefEqProofs only [Tryz.f143, go_sem, hh, seval] at hpre ⊢
 with_reducible repeat' (first | apply ai | intro _ | ((first | apply s1 | apply s3 | apply s4) <;> intro hb <;> simp -implicitDefEqProofs only [hb, go_sem, hh, seval] <;> try simp only [qz] at hb))
 all_goals first | rfl | omega | skip
 have e46 : UInt8.ofNat (46 : Int).toNat = 46 := rfl
 have e3 : (3 : Int).toNat = 3 := rfl
 rw [e46, e3] at *
 refine AF [] (ι := {i : Nat // i ≤ (Cz s 46 3).length ∧ ∀ j, j < i → Rs ((Cz s 46 3).getD j default)}) (fun p => ⟨[(3, .h 1006), (4, .t (.v (.int .i64 p.1)))], [(1006, some (.arr true 1 ((Cz s 46 3).map AH)))]⟩) (fun p => (Cz s 46 3).length - p.1) ⟨0, by simp, by simp⟩ rfl ?_ ?_
 ·simp -implicitDefEqProofs only [go_sem, hh, seval]
  try simp
 ·rintro ⟨i, hi, hall⟩
  simp -implicitDefEqProofs only [go_sem, hh, seval]
  with_reducible repeat' (first | apply ai | intro _ | ((first | apply s1 | apply s3 | apply s4) <;> intro hb <;> simp -implicitDefEqProofs only [hb, go_sem, hh, seval] <;> try simp only [qz] at hb))
  all_goals (try simp only [maxLen, tn, lm] at *)
  all_goals first | rfl | omega | skip
  ·rw [AN (fun h => hb (h.1 _ (AE (by omega))))]
  ·refine ⟨⟨i + 1, by omega, DL hall hb⟩, by dsimp only; omega, ?_⟩
   simp -implicitDefEqProofs only [go_sem, hh, seval]
   try simp
  ·rw [← BI, AW]
   exact ⟨fun h => ⟨BX fun j hj => hall j (by omega), by omega⟩, fun h => by have := h.2; omega⟩
end
def IH : Ct := Aq (lc DH.ag l0) (fun p => True) (fun p => .t (.v (.bool (BV (Bb p.1)))))
section
attribute [local go_sem] Vs M8
theorem dA {G : Gt} (hG : Ai G) (hh : G.e 165 = AA 0 Vs ∧ G.e 143 = AA 0 M8) : Gd G 123 (AA 0 IH) := by
 refine gr (fn := Tryz.f123) (n := 1) rfl hG ?_
 rintro ⟨a, ⟨⟩⟩ hpre
 simp -implicitDefEqProofs only [Tryz.f123, go_sem, hh, seval] at hpre ⊢
 with_reducible repeat' (first | apply ai | intro _ | ((first | apply s1 | apply s3 | apply s4) <;> intro hb <;> simp -implicitDefEqProofs only [hb, go_sem, hh, seval] <;> try simp only [qz] at hb))
 all_goals first
  | rfl
  | (rw [AN (fun h => hb h.1)]; done)
  | (rw [AW]; exact ⟨fun h => ⟨by assumption, h⟩, fun h => h.2⟩)
  | skip
end
def Tt : Ct := Aq (lc DH.ag l0) (fun p => True) (fun p => .t (.v (.bool (BV (Ab p.1)))))
theorem p8 {G : Gt} (hG : Ai G) : Gd G 62 (AA 0 Tt) := by
 refine gr (fn := Tryz.f62) (n := 1) rfl hG ?_
 rintro ⟨a, ⟨⟩⟩ hpre
 simp -implicitDefEqProofs only [Tryz.f62, go_sem, seval] at hpre ⊢
 with_reducible repeat' (first | apply ai | intro _ | ((first | apply s1 | apply s3 | apply s4) <;> intro hb <;> simp -implicitDefEqProofs only [hb, go_sem, seval] <;> try simp only [qz] at hb))
 all_goals first
  | rfl
  | (rw [AN (fun h => hb h.1)]; done)
  | (rw [← BI, AW]; exact ⟨fun h => ⟨by assumption, h⟩, fun h => h.2⟩)
  | skip
def mX : Ct := Aq (lc Aw (lc Aw l0)) (fun p => True) (fun p => .t (.v (.bool (BV (P7 p.1 p.2.1)))))
theorem eC {G : Gt} (hG : Ai G) : Gd G 196 (AA 0 mX) := by
 refine gr (fn := Tryz.f196) (n := 2) rfl hG ?_
 rintro ⟨s, e, ⟨⟩⟩ hpre
 simp -implicitDefEqProofs only [Tryz.f196, go_sem, seval] at hpre ⊢
 with_reducible repeat' (first | apply ai | intro _ | ((first | apply s1 | apply s3 | apply s4) <;> intro hb <;> simp -implicitDefEqProofs only [hb, go_sem, seval] <;> try simp only [qz] at hb))
 all_goals (try simp only [maxLen] at *)
 all_goals first
  | rfl
  | omega
  | (rw [Ap (.inl hb)]; done)
  | skip
 all_goals have e1 : ((s.size : Int) - e.size).toNat = s.size - e.size := by omega
 all_goals (try rw [e1, tn] at hb)
 ·have e2 : ((s.size : Int) - e.size - 1).toNat = s.size - e.size - 1 := by omega
  rw [e2, ← BI, AW]
  exact ⟨fun h => .inr ⟨by omega, hb, h⟩, fun h => by
   rcases h with h | h
   ·exact absurd h (by assumption)
   ·exact h.2.2⟩
 ·rw [AN]
  rintro (h | h)
  ·exact absurd h (by assumption)
  ·exact hb h.2.1
 ·rw [AN]
  rintro (h | h)
  ·exact absurd h (by assumption)
  ·have := h.1; omega
def M7 : Ct := Aq (lc Ah.asl l0) (fun p => True) (fun p => .t (.v (.bool (BV (DZ p.1)))))
section
attribute [local go_sem] QW
theorem dO {G : Gt} (hG : Ai G) (hh : G.e 124 = AA 0 QW) : Gd G 142 (AA 0 M7) := by
 refine gr (fn := Tryz.f142) (n := 1) rfl hG ?_
 rintro ⟨xs, ⟨⟩⟩ hpre
 simp -implicitDefEqProofs only [Tryz.f142, go_sem, hh, seval] at hpre ⊢
 refine AF [] (ι := {i : Nat // i ≤ xs.length ∧ ∀ j, j < i → Ie (xs.getD j default)}) (fun p => ⟨[(0, .t (.sl 1 (xs.map AH))), (3, .t (.v (.int .i64 p.1)))], []⟩) (fun p => xs.length - p.1) ⟨0, by simp, by simp⟩ rfl ?_ ?_
 ·simp -implicitDefEqProofs only [go_sem, hh, seval]
  try simp
 ·rintro ⟨i, hi, hall⟩
  simp -implicitDefEqProofs only [go_sem, hh, seval]
  with_reducible repeat' (first | apply ai | intro _ | ((first | apply s1 | apply s3 | apply s4) <;> intro hb <;> simp -implicitDefEqProofs only [hb, go_sem, hh, seval] <;> try simp only [qz] at hb))
  all_goals (try simp only [maxLen, tn, lm] at *)
  all_goals first | rfl | omega | skip
  ·rw [AN (fun h => hb (h.1 _ (AE (by omega))))]
  ·refine ⟨⟨i + 1, by omega, DL hall hb⟩, by dsimp only; omega, ?_⟩
   simp -implicitDefEqProofs only [go_sem, hh, seval]
   try simp
  ·rw [← BI, AW]
   exact ⟨fun h => ⟨BX fun j hj => hall j (by omega), by omega⟩, fun h => by have := h.2; omega⟩
end
def M9 : Ct := Aq (lc Zw.ag l0) (fun p => (p.1.to.length : Int) ≤ 1048576 ∧ (p.1.body.length : Int) ≤ 1048576) (fun p => RP p.1)
section
attribute [local go_sem] lm List.map_nil List.length_nil
theorem eP {G : Gt} (hG : Ai G) : Gd G 222 (AA 0 M9) := by
 refine gr (fn := Tryz.f222) (n := 1) rfl hG ?_ (hs := fun _ p => .agg _ (by intro c hc; simp only [List.mem_cons, List.not_mem_nil, or_false] at hc; rcases hc with rfl | rfl | rfl | rfl <;> first | exact .v _ | exact .deep _ _))
 rintro ⟨m, ⟨⟩⟩ hpre
 simp -implicitDefEqProofs only [Tryz.f222, go_sem, seval] at hpre ⊢
 with_reducible repeat' (first | apply ai | intro _ | ((first | apply s1 | apply s3 | apply s4) <;> intro hb <;> simp -implicitDefEqProofs only [hb, go_sem, seval] <;> try simp only [qz] at hb))
 all_goals (try simp only [maxLen, tn, lm] at *)
 all_goals first | rfl | omega | (simp_all; done) | skip
end
def mi : Ct := Aq (lc Zw.ag l0) (fun p => True) (fun p => .t (.v (.bool (BV (DJ p.1)))))
section
attribute [local go_sem] IH Tt Lb M7 lm List.map_nil List.length_nil
theorem eO {G : Gt} (hG : Ai G) (hh : G.e 123 = AA 0 IH ∧ G.e 62 = AA 0 Tt ∧ G.e 36 = AA 0 Lb ∧ G.e 142 = AA 0 M7) : Gd G 221 (AA 0 mi) := by
 refine gr (fn := Tryz.f221) (n := 1) rfl hG ?_
 rintro ⟨m, ⟨⟩⟩ hpre
 simp -implicitDefEqProofs only [Tryz.f221, go_sem, hh, seval] at hpre ⊢
 refine AF [] (ι := {i : Nat // i ≤ m.to.length ∧ (∀ j, j < i → Bb (m.to.getD j default)) ∧ ∀ j, j < i → ∀ k, k < j → ¬ m.to.getD k default = m.to.getD j default}) (fun p => ⟨[(1, .pb 1001 0), (3, .t (.v (.int .i64 p.1)))], [(1001, some (.box [.t (.v (.string m.frm.user)), .t (.v (.string m.frm.domain)), .t (.sl 2 (m.to.map Az)), .t (.sl 1 (m.body.map AH))]))]⟩) (fun p => m.to.length - p.1) ⟨0, by simp, by simp, by simp⟩ rfl ?_ ?_
 ·simp -implicitDefEqProofs only [go_sem, hh, seval]
  try simp
 ·rintro ⟨i, hi, hall, hno⟩
  simp -implicitDefEqProofs only [go_sem, hh, seval]
  with_reducible repeat' (first | apply ai | intro _ | ((first | apply s1 | apply s3 | apply s4) <;> intro hb <;> simp -implicitDefEqProofs only [hb, go_sem, hh, seval] <;> try simp only [qz] at hb))
  all_goals (try simp only [maxLen, tn, lm] at *)
  all_goals first | rfl | omega | skip
  ·rw [AN (fun h => hb (h.1 _ (AE (by omega))))]
  ·refine AF [] (ι := {k : Nat // k ≤ i ∧ ∀ j, j < k → ¬ m.to.getD j default = m.to.getD i default}) (fun p => ⟨[(1, .pb 1001 0), (3, .t (.v (.int .i64 i))), (4, .t (.v (.int .i64 p.1)))], [(1001, some (.box [.t (.v (.string m.frm.user)), .t (.v (.string m.frm.domain)), .t (.sl 2 (m.to.map Az)), .t (.sl 1 (m.body.map AH))]))]⟩) (fun p => i - p.1) ⟨0, by simp, by simp⟩ rfl ?_ ?_
   ·simp -implicitDefEqProofs only [go_sem, hh, seval]
    try simp
   ·rintro ⟨k, hk, hk2⟩
    simp -implicitDefEqProofs only [go_sem, hh, seval]
    with_reducible repeat' (first | apply ai | intro _ | ((first | apply s1 | apply s3 | apply s4) <;> intro hb <;> simp -implicitDefEqProofs only [hb, go_sem, hh, seval] <;> try simp only [qz] at hb))
    all_goals (try simp only [maxLen, tn, lm] at *)
    all_goals first | rfl | omega | skip
    ·have e : m.to.getD k default = m.to.getD i default := Bj.2 (by simpa using hb)
     rw [AN]
     intro h
     have hn := h.2.1
     have q1 : k < m.to.length := by omega
     have q2 : i < m.to.length := by omega
     simp only [List.getD_eq_getElem?_getD, List.getElem?_eq_getElem q1, List.getElem?_eq_getElem q2, Option.getD_some] at e
     exact List.pairwise_iff_getElem.1 (List.nodup_iff_pairwise_ne.1 hn) k i q1 q2 (by omega) e
    ·refine ⟨⟨k + 1, by omega, fun j hj => ?_⟩, by dsimp only; omega, ?_⟩
     ·by_cases e : j = k
      ·subst e; exact rG hb
      ·exact hk2 j (by omega)
     ·simp -implicitDefEqProofs only [go_sem, hh, seval]
      try simp
    ·refine ⟨⟨i + 1, by omega, DL hall (by assumption), fun j hj q hq => ?_⟩, by dsimp only; omega, ?_⟩
     ·by_cases e : j = i
      ·subst e; exact hk2 q (by omega)
      ·exact hno j (by omega) q hq
     ·simp -implicitDefEqProofs only [go_sem, hh, seval]
      try simp
  all_goals have hlen : m.to.length ≤ i := by omega
  all_goals have hA : ∀ a ∈ m.to, Bb a := BX fun j hj => hall j (by omega)
  all_goals have hN : m.to.Nodup := YI fun j hj q hq => hno j (by omega) q hq
  all_goals first
   | (rw [AW]
      exact ⟨fun h => ⟨hA, hN, by first | exact .inl (by assumption) | exact .inr (by assumption), by omega, h⟩, fun h => h.2.2.2.2⟩)
   | (rw [AN]
      intro h
      first
       | (have := h.2.2.2.1; omega)
       | (rcases h.2.2.1 with q | q <;> contradiction))
end
theorem Hx {w : World} {pr : Nat → Prop} {u v : Value} {vs : List Value} (h : AJ ρ0 w pr [.t (.v u), .t (.v v)] vs []) : vs = [u, v] := by
 obtain ⟨a, l, rfl, h1, h2⟩ := h.one
 obtain ⟨b, l2, rfl, h3, h4⟩ := h2.one
 generalize hF : ([] : List Nat) = F at h4
 cases h4
 rw [h1.val.1, h3.val.1]
theorem Lh.cell {m : Int} {w : World} {pr : Nat → Prop} (h : Lh m w pr) : w.cell? ⟨0, 0, none⟩ = some (.int .i64 m) := by
 unfold Lh at h
 cases h with
 | rop cs a vs hp hv hr =>
   cases hr with
   | cons t v ts vs h1 h2 =>
     cases h1 with
     | v x hx =>
       have := hv 0 (.int .i64 m) rfl
       simpa [Addr.add, sx] using this
def m8 : Ct := Aq (lc Aw (lc kK l0)) (fun _ => True) (fun p => .t (.v (.int .i64 (Lib.indexByte (bl p.1) (UInt8.ofNat p.2.1.toNat)))))
theorem en (m : Int) : Fe Tryz.prog m 241 m8 := Fe.of (r := fun (p : ByteArray × Int × Unit) => .int .i64 (Lib.indexByte (bl p.1) (UInt8.ofNat p.2.1.toNat))) (fun _ => trivial) fun p _ => by
 obtain ⟨s, c, ⟨⟩⟩ := p
 intro w pr vs hgl hv
 have := Hx hv
 subst this
 have he : Extern.find Tryz.f241 = some Extern.BytealgIndexByte.indexByte := by kernel_rfl
 rw [run_callFunc_extern (fn := Tryz.f241) (by kernel_rfl) (by kernel_rfl) rfl (by kernel_rfl) he]
 have h := Lib.run_indexByteString (P := Tryz.prog) s c w
 rw [show ([Value.string s, Value.int .u8 c].toArray) = #[.string s, .int .u8 c] from rfl, h]
 rfl
def mg : Ct := Aq (lc Aw (lc kK l0)) (fun _ => True) (fun p => .t (.v (.int .i64 (Lib.countByte (bl p.1) (UInt8.ofNat p.2.1.toNat)))))
theorem eM (m : Int) : Fe Tryz.prog m 216 mg := Fe.of (r := fun (p : ByteArray × Int × Unit) => .int .i64 (Lib.countByte (bl p.1) (UInt8.ofNat p.2.1.toNat))) (fun _ => trivial) fun p _ => by
 obtain ⟨s, c, ⟨⟩⟩ := p
 intro w pr vs hgl hv
 have := Hx hv
 subst this
 have he : Extern.find Tryz.f216 = some Extern.BytealgCount.count := by kernel_rfl
 rw [run_callFunc_extern (fn := Tryz.f216) (by kernel_rfl) (by kernel_rfl) rfl (by kernel_rfl) he]
 have h := Lib.run_countString (P := Tryz.prog) s c w
 rw [show ([Value.string s, Value.int .u8 c].toArray) = #[.string s, .int .u8 c] from rfl, h]
 rfl
def mq (m : Int) : Ct := Aq (lc Aw (lc Aw l0)) (fun p => 2 ≤ p.2.1.size ∧ (p.2.1.size : Int) ≤ m ∧ p.1.size ≤ 2000000) (fun p => .t (.v (.int .i64 (Lib.indexB p.1 p.2.1))))
theorem eZ (m : Int) : Fe Tryz.prog m 231 (mq m) := Fe.of (r := fun (p : ByteArray × ByteArray × Unit) => .int .i64 (Lib.indexB p.1 p.2.1)) (fun _ => trivial) fun p hp => by
 obtain ⟨s, b, ⟨⟩⟩ := p
 intro w pr vs hgl hv
 have := Hx hv
 subst this
 have he : Extern.find Tryz.f231 = some Extern.BytealgIndex.index := by kernel_rfl
 rw [run_callFunc_extern (fn := Tryz.f231) (by kernel_rfl) (by kernel_rfl) rfl (by kernel_rfl) he]
 have h := Lib.run_indexString (P := Tryz.prog) s b w 0 m (by kernel_rfl) hgl.cell hp.1 hp.2.1 (by have h3 : s.size ≤ 2000000 := hp.2.2; omega)
 rw [show ([Value.string s, Value.string b].toArray) = #[.string s, .string b] from rfl, h]
 rfl
theorem CE (s : ByteArray) (i : Nat) (h : i < s.size) : AC s i = (s[i].toNat : Int) := by
 rw [Bq]
 have h' : i < (bl s).length := h
 have : (bl s).getD i 0 = s[i] := by
  simp [h']
  rfl
 rw [this]
 rfl
theorem GS (s : ByteArray) : s.toList = bl s := ByteArray.toList_eq s
theorem Ee {s t : ByteArray} (h : s = t) : (s.toList == t.toList) = true := by rw [h]; simp
theorem GK {s t : ByteArray} (h : ¬ s = t) : (s.toList == t.toList) = false := by
 rw [GS, GS]
 simpa using fun e => h (FE e)
def mo : Ct := Aq (lc Aw (lc kK l0)) (fun p => True) (fun p => .t (.v (.int .i64 (Lib.indexByte (bl p.1) (UInt8.ofNat p.2.1.toNat)))))
section
attribute [local go_sem] m8
theorem eY {G : Gt} (hG : Ai G) (hh : G.e 241 = AA 3 m8) : Gd G 230 (AA 0 mo) := by
 refine gr (fn := Tryz.f230) (n := 2) rfl hG ?_
 rintro ⟨s, c, ⟨⟩⟩ hpre
 simp -implicitDefEqProofs only [Tryz.f230, go_sem, hh, seval] at hpre ⊢
 repeat' (first | with_reducible apply ai | with_reducible intro _ | ((first | apply s1 | apply s2 | apply s3 | apply s4) <;> intro hb <;> simp -implicitDefEqProofs only [hb, go_sem, hh, seval] <;> try simp only [qz] at hb))
 all_goals first | rfl | skip
end
def mr : Ct := Aq (lc BA l0) (fun p => 0 ≤ p.1 ∧ p.1 ≤ 1000000000000) (fun p => .t (.v (.int .i64 ((p.1 + 16) / 8))))
theorem ea {G : Gt} (hG : Ai G) : Gd G 232 (AA 0 mr) := by
 refine gr (fn := Tryz.f232) (n := 1) rfl hG ?_
 rintro ⟨n, ⟨⟩⟩ hpre
 simp -implicitDefEqProofs only [Tryz.f232, go_sem, seval] at hpre ⊢
 repeat' (first | with_reducible apply ai | with_reducible intro _ | ((first | apply s1 | apply s2 | apply s3 | apply s4) <;> intro hb <;> simp -implicitDefEqProofs only [hb, go_sem, seval] <;> try simp only [qz] at hb))
 all_goals first | rfl | omega | skip
open Go.Lib in
theorem hash_next (s : ByteArray) (k : Nat) (hk : k < s.size) {h : Int} (hh : h = RK.H ((bl s).take k) % 4294967296) : (h * 16777619 % 4294967296 + AC s k) % 4294967296 = RK.H ((bl s).take (k + 1)) % 4294967296 := by
 have := Go.Proofs.hash_step s k hk hh
 rw [CE s k hk]
 have h2 : (s[k].toNat : Int) % 4294967296 = s[k].toNat := by
  have := s[k].toNat_lt
  omega
 rw [h2] at this
 exact this
theorem sX (x : Int) : 0 ≤ x % 4294967296 ∧ x % 4294967296 < 4294967296 := by omega
def yL (s : ByteArray) : AV := .tup [.t (.v (.int .u32 (Lib.RK.H (bl s) % 4294967296))), .t (.v (.int .u32 (16777619 ^ s.size % 4294967296)))]
def m9 : Ct := Aq (lc Aw l0) (fun p => p.1.size ≤ 2000000) (fun p => yL p.1)
section
attribute [local go_sem] yL
theorem ep {G : Gt} (hG : Ai G) : Gd G 242 (AA 0 m9) := by
 refine gr (fn := Tryz.f242) (n := 1) rfl hG ?_ (hs := fun _ p => .tup _ (by intro c hc; simp only [List.mem_cons, List.not_mem_nil, or_false] at hc; rcases hc with rfl | rfl <;> exact .v _))
 rintro ⟨s, ⟨⟩⟩ hpre
 simp -implicitDefEqProofs only [Tryz.f242, go_sem, seval] at hpre ⊢
 refine AF [] (ι := {i : Nat // i ≤ s.size}) (fun p => ⟨[(0, .t (.v (.string s))), (4, .t (.v (.int .u32 (Lib.RK.H ((bl s).take p.1) % 4294967296)))), (5, .t (.v (.int .i64 p.1)))], []⟩) (fun p => s.size - p.1) ⟨0, by omega⟩ rfl ?_ ?_
 ·simp -implicitDefEqProofs only [go_sem, seval]
  simp [Lib.RK.H_nil]
 ·rintro ⟨i, hi⟩
  simp -implicitDefEqProofs only [go_sem, seval]
  repeat' (first | with_reducible apply ai | with_reducible intro _ | ((first | apply s1 | apply s2 | apply s3 | apply s4) <;> intro hb <;> simp -implicitDefEqProofs only [hb, go_sem, seval] <;> try simp only [qz] at hb))
  all_goals (try simp only [maxLen, tn] at *)
  all_goals (try have hbr := A8 s i)
  all_goals first | rfl | omega | skip
  ·refine ⟨⟨i + 1, by omega⟩, by dsimp only; omega, ?_⟩
   rw [hash_next s i (by omega) rfl]
   simp -implicitDefEqProofs only [go_sem, seval]
   try simp
  ·have hii : i = s.size := by omega
   have hle : (bl s).length ≤ i := by rw [CD]; omega
   rw [List.take_of_length_le hle]
   refine AF [] (ι := {p : Nat × Int × Int // p.1 ≤ 2000000 ∧ Lib.RK.PowInv s.size p.1 p.2.1 p.2.2 ∧ 0 ≤ p.2.1 ∧ p.2.1 < 4294967296}) (fun p => ⟨[(4, .t (.v (.int .u32 (Lib.RK.H (bl s) % 4294967296)))), (6, .t (.v (.int .u32 p.1.2.1))), (7, .t (.v (.int .u32 p.1.2.2))), (8, .t (.v (.int .i64 p.1.1)))], []⟩) (fun p => p.1.1) ⟨(s.size, 1, 16777619), by simpa using hpre, Lib.RK.pow_start _, by simp, by simp⟩ rfl ?_ ?_
   ·simp -implicitDefEqProofs only [go_sem, seval]
    try simp
   ·rintro ⟨⟨k, pw, sq⟩, hk, hpi, h0, h1⟩
    have hand := Go.Proofs.and_one k (by simp only at hk; omega)
    simp only at hk h0 h1 hpi
    have hpw : ((k : Int) / 2 ^ (1 : Int).toNat) = ((k / 2 : Nat) : Int) := by simp
    simp -implicitDefEqProofs only [go_sem, seval]
    repeat' (first | with_reducible apply ai | with_reducible intro _ | ((first | apply s1 | apply s2 | apply s3 | apply s4) <;> intro hb <;> simp -implicitDefEqProofs only [hb, go_sem, seval] <;> try simp only [qz] at hb))
    all_goals (try simp only [maxLen, tn] at *)
    all_goals first | rfl | omega | skip
    ·have h2 : k % 2 = 1 := by rw [hand] at hb; omega
     have := sX (pw * sq)
     refine ⟨⟨(k / 2, pw * sq % 4294967296, sq * sq % 4294967296), by simp only []; omega, Lib.RK.pow_odd hpi h2, this.1, this.2⟩, by simp only []; omega, ?_⟩
     try rw [hpw]
     simp -implicitDefEqProofs only [go_sem, seval]
     try simp
    ·have h2 : k % 2 = 0 := by rw [hand] at hb; omega
     refine ⟨⟨(k / 2, pw, sq * sq % 4294967296), by simp only []; omega, Lib.RK.pow_even hpi h2, h0, h1⟩, by simp only []; omega, ?_⟩
     try rw [hpw]
     simp -implicitDefEqProofs only [go_sem, seval]
     try simp
    ·have h2 : k = 0 := by omega
     subst h2
     rw [← Lib.RK.pow_end hpi h0 h1]
end
open Go.Lib in
theorem roll_next (s : ByteArray) (n i : Nat) (hn : 1 ≤ n) (hni : n ≤ i) (hi : i < s.size) {h pw : Int} (hh : h = RK.H (RK.win (bl s) (i - n) n) % 4294967296) (hp : pw = 16777619 ^ n % 4294967296) :
    ((h * 16777619 % 4294967296 + AC s i) % 4294967296 - pw * AC s (i - n) % 4294967296) % 4294967296 = RK.H (RK.win (bl s) (i + 1 - n) n) % 4294967296 := by
 have := Go.Proofs.roll_step s n i hn hni hi hh hp
 rw [CE s i hi, CE s (i - n) (by omega)]
 have h2 : (s[i - n].toNat : Int) % 4294967296 = s[i - n].toNat := by
  have := s[i - n].toNat_lt
  omega
 rw [h2] at this
 rw [← show RK.H (RK.win s.data.toList (i + 1 - n) n) % 4294967296 = RK.H (RK.win (bl s) (i + 1 - n) n) % 4294967296 from rfl, ← this]
 generalize pw * (s[i - n].toNat : Int) = X
 omega
def mt : Ct := Aq (lc Aw (lc Aw l0)) (fun p => 1 ≤ p.2.1.size ∧ p.2.1.size ≤ p.1.size ∧ p.1.size ≤ 2000000) (fun p => .t (.v (.int .i64 (Lib.indexB p.1 p.2.1))))
section
attribute [local go_sem] m9 yL
theorem eb {G : Gt} (hG : Ai G) (hh : G.e 242 = AA 0 m9) : Gd G 233 (AA 0 mt) := by
 refine gr (fn := Tryz.f233) (n := 2) rfl hG ?_
 rintro ⟨s, sep, ⟨⟩⟩ hpre
 simp -implicitDefEqProofs only [Tryz.f233, go_sem, hh, seval] at hpre ⊢
 repeat' (first | with_reducible apply ai | with_reducible intro _ | ((first | apply s1 | apply s2 | apply s3 | apply s4) <;> intro hb <;> simp -implicitDefEqProofs only [hb, go_sem, hh, seval] <;> try simp only [qz] at hb))
 all_goals first | rfl | omega | skip
 refine AF [] (ι := {i : Nat // i ≤ sep.size}) (fun p => ⟨[(0, .t (.v (.string s))), (1, .t (.v (.string sep))), (5, .t (.v (.int .u32 (Lib.RK.H (bl sep) % 4294967296)))), (6, .t (.v (.int .u32 (16777619 ^ sep.size % 4294967296)))), (7, .t (.v (.int .i64 sep.size))), (8, .t (.v (.int .u32 (Lib.RK.H ((bl s).take p.1) % 4294967296)))), (9, .t (.v (.int .i64 p.1)))], []⟩) (fun p => sep.size - p.1) ⟨0, by omega⟩ rfl ?_ ?_
 ·simp -implicitDefEqProofs only [go_sem, hh, seval]
  simp [Lib.RK.H_nil]
 ·rintro ⟨i, hi⟩
  simp -implicitDefEqProofs only [go_sem, hh, seval]
  repeat' (first | with_reducible apply ai | with_reducible intro _ | ((first | apply s1 | apply s2 | apply s3 | apply s4) <;> intro hb <;> simp -implicitDefEqProofs only [hb, go_sem, hh, seval] <;> try simp only [qz] at hb))
  all_goals (try simp only [maxLen, tn] at *)
  all_goals (try have hbr := A8 s i)
  all_goals first | rfl | omega | skip
  ·refine ⟨⟨i + 1, by omega⟩, by dsimp only; omega, ?_⟩
   rw [hash_next s i (by omega) rfl]
   simp -implicitDefEqProofs only [go_sem, hh, seval]
   try simp
  ·rw [Lib.hit s sep 0 (fun j hj => absurd hj (Nat.not_lt_zero _)) (by omega) (Ee (by rw [Nat.zero_add]; exact hb))]
   rfl
  all_goals
   have hii : i = sep.size := by omega
   have hb0 := hb
   subst hii
   have hno : Lib.NoOccB s sep (sep.size - sep.size + 1) := by
    rw [Nat.sub_self]
    refine Lib.NoOcc.succ (fun j hj => absurd hj (Nat.not_lt_zero _)) ?_
    first
     | exact Go.Proofs.occ_no s sep 0 (by omega) (by rw [Nat.zero_add]; exact GK hb0)
     | exact Go.Proofs.occ_no_hash s sep 0 (by omega) rfl rfl hb0
   refine AF [] (ι := {k : Nat // sep.size ≤ k ∧ k ≤ s.size ∧ Lib.NoOccB s sep (k - sep.size + 1)}) (fun p => ⟨[(0, .t (.v (.string s))), (1, .t (.v (.string sep))), (5, .t (.v (.int .u32 (Lib.RK.H (bl sep) % 4294967296)))), (6, .t (.v (.int .u32 (16777619 ^ sep.size % 4294967296)))), (7, .t (.v (.int .i64 sep.size))), (8, .t (.v (.int .u32 (Lib.RK.H (Lib.RK.win (bl s) (p.1 - sep.size) sep.size) % 4294967296)))), (10, .t (.v (.int .i64 p.1)))], []⟩) (fun p => s.size - p.1) ⟨sep.size, by omega, by omega, hno⟩ rfl ?_ ?_
   ·simp -implicitDefEqProofs only [go_sem, hh, seval]
    try simp [Lib.RK.win_zero]
   ·rintro ⟨k, hk1, hk2, hk3⟩
    have hrn := fun h => roll_next s sep.size k (by omega) hk1 h rfl rfl
    have eks : ((k : Int) - sep.size).toNat = k - sep.size := by omega
    have eks1 : ((k : Int) + 1 - sep.size).toNat = k + 1 - sep.size := by omega
    have ek1 : ((k : Int) + 1).toNat = k + 1 := by omega
    simp -implicitDefEqProofs only [go_sem, hh, seval]
    repeat' (first | with_reducible apply ai | with_reducible intro _ | ((first | apply s1 | apply s2 | apply s3 | apply s4) <;> intro hb <;> simp -implicitDefEqProofs only [hb, go_sem, hh, seval] <;> try simp only [qz] at hb))
    all_goals (try simp only [maxLen, tn] at *)
    all_goals (try have hbr := A8 s k)
    all_goals (try have hbr2 := A8 s (k - sep.size))
    all_goals (try simp only [eks, eks1, ek1] at *)
    all_goals first | rfl | omega | skip
    all_goals (try have hkk := hrn (by omega))
    all_goals have e1 : k - sep.size + 1 = k + 1 - sep.size := by omega
    all_goals rw [e1] at hk3
    ·have e2 : k + 1 - sep.size + sep.size = k + 1 := by omega
     rw [Lib.hit s sep (k + 1 - sep.size) hk3 (by omega) (Ee (by rw [e2]; exact hb))]
     have e3 : ((k + 1 - sep.size : Nat) : Int) = (k : Int) + 1 - sep.size := by omega
     rw [e3]
    ·have e2 : k + 1 - sep.size + sep.size = k + 1 := by omega
     have hocc := Go.Proofs.occ_no s sep (k + 1 - sep.size) (by omega) (by rw [e2]; exact GK hb)
     refine ⟨⟨k + 1, by omega, by omega, Lib.NoOcc.succ hk3 hocc⟩, by dsimp only; omega, ?_⟩
     rw [hkk]
     simp -implicitDefEqProofs only [go_sem, hh, seval]
     try simp
    ·rw [hkk] at hb
     have hocc := Go.Proofs.occ_no_hash s sep (k + 1 - sep.size) (by omega) rfl rfl hb
     refine ⟨⟨k + 1, by omega, by omega, Lib.NoOcc.succ hk3 hocc⟩, by dsimp only; omega, ?_⟩
     rw [hkk]
     simp -implicitDefEqProofs only [go_sem, hh, seval]
     try simp
    ·rw [Lib.past s sep (k + 1 - sep.size) hk3 (by omega) (by omega)]
end
section
open Go.Lib
theorem Xf (s : ByteArray) (c : UInt8) : indexByte (bl s) c = -1 ∨ ∃ o : Nat, indexByte (bl s) c = o ∧ o < s.size := by
 have hge := indexByte_ge (bl s) c
 by_cases h : indexByte (bl s) c = -1
 ·exact .inl h
 ·obtain ⟨o, ho⟩ : ∃ o : Nat, indexByte (bl s) c = o := ⟨(indexByte (bl s) c).toNat, by omega⟩
  refine .inr ⟨o, ho, ?_⟩
  obtain ⟨h1, _⟩ := indexByte_some ho
  exact (List.getElem?_eq_some_iff.1 h1).1
theorem Gw (sub : ByteArray) (h : 0 < sub.size) : UInt8.ofNat (AC sub 0).toNat = ((sub[0].toNat : Int)).toNat.toUInt8 := by rw [CE sub 0 h]
theorem jk {s sub : ByteArray} {k j : Nat} (hk : k < s.size) (hj : j < sub.size) (h : ¬ AC s k = AC sub j) : ((((s[k].toNat : Nat) : Int)) != ((sub[j].toNat : Nat) : Int)) = true := by
 rw [CE s k hk, CE sub j hj] at h
 simpa using h
theorem NR {s sub : ByteArray} {k : Nat} (h2 : 2 ≤ sub.size) (hls : sub.size ≤ s.size) (hk : k < s.size) (hno : NoOccB s sub k) (hne : ¬ AC s k = AC sub 0) (hib : indexByte (bl (s.extract (k + 1) (s.size - sub.size + 1))) (UInt8.ofNat (AC sub 0).toNat) = -1) : indexB s sub = -1 :=
 skip_none s sub k h2 hls hk hno (jk hk (by omega) hne) (by rw [Gw sub (by omega)] at hib; exact hib)
theorem NS {s sub : ByteArray} {k o : Nat} (h2 : 2 ≤ sub.size) (hk : k < s.size) (hno : NoOccB s sub k) (hne : ¬ AC s k = AC sub 0) (hib : indexByte (bl (s.extract (k + 1) (s.size - sub.size + 1))) (UInt8.ofNat (AC sub 0).toNat) = o) : NoOccB s sub (k + (o + 1)) :=
 skip_some s sub k o h2 hk hno (jk hk (by omega) hne) (by rw [Gw sub (by omega)] at hib; exact hib)
theorem MP {s sub : ByteArray} {i : Nat} (hno : NoOccB s sub i) (h2 : 2 ≤ sub.size) (hi : i + 1 < s.size) (hne : ¬ AC s (i + 1) = AC sub 1) : NoOccB s sub (i + 1) :=
 miss_second s sub i hno h2 hi (by rw [CE s _ hi, CE sub 1 (by omega)] at hne; exact hne)
theorem PD {s sub : ByteArray} {i : Nat} (hno : NoOccB s sub i) (hi : i + sub.size ≤ s.size) (h : ¬ s.extract i (i + sub.size) = sub) : NoOccB s sub (i + 1) := miss_piece s sub i hno hi (GK h)
theorem Ks (s sub : ByteArray) (a : Nat) : -1 ≤ indexB (s.extract a s.size) sub ∧ indexB (s.extract a s.size) sub ≤ s.size := ⟨index_ge _ _, index_tail_le s sub a⟩
theorem Q5 {s sub : ByteArray} (h : sub.size = 1) : indexByte (bl s) (UInt8.ofNat (AC sub 0).toNat) = indexB s sub := by
 rw [one s sub h, Gw sub (by omega)]; rfl
theorem Sg {s sub : ByteArray} (h : sub.size = 0 ∨ sub = s) : indexB s sub = 0 := zero s sub (by
 rcases h with h | h
 ·exact .inl (by rw [h]; rfl)
 ·exact .inr (Ee h))
theorem jj {s sub : ByteArray} {k : Nat} (hno : NoOccB s sub k) (hk : k ≤ s.size) : indexB s sub = if indexB (s.extract k s.size) sub < 0 then -1 else indexB (s.extract k s.size) sub + k := by
 split
 ·exact fb_neg s sub k hno hk (r := indexB (s.extract k s.size) sub) rfl (by assumption) (Ks s sub k).1
 ·exact fb_pos s sub k hno hk (r := indexB (s.extract k s.size) sub) rfl (by omega)
theorem zd {k : IntKind} {x y : Int} (h : x = y) : T.v (.int k x) = T.v (.int k y) := by rw [h]
theorem fR {s sub : ByteArray} (h1 : s.size ≤ sub.size) (h2 : ¬ sub = s) : indexB s sub = -1 := long s sub h1 (GK h2)
end
def mh : Ct := Aq (lc Aw (lc Aw l0)) (fun p => p.2.1.size ≤ 2000000 ∧ p.1.size ≤ 2000000) (fun p => .t (.v (.int .i64 (Lib.indexB p.1 p.2.1))))
section
attribute [local go_sem] mo mq mr mt sx eq_self decide_true Bool.not_true Bool.not_false
set_option maxHeartbeats 8000000 in
theorem eN {G : Gt} (hG : Ai G) (hh : G.e 230 = AA 0 mo ∧ G.e 231 = AA 3 (mq G.m) ∧ G.e 232 = AA 0 mr ∧ G.e 233 = AA 0 mt) : Gd G 217 (AA 0 mh) := by
 refine gr (fn := Tryz.f217) (n := 2) rfl hG ?_
 rintro ⟨s, sub, ⟨⟩⟩ hpre
 simp -implicitDefEqProofs only [Tryz.f217, go_sem, hh, Nat.reduceAdd, Nat.reduceMul, Nat.reduceLeDiff, Nat.reduceEqDiff, reduceCtorEq, Nat.reduceSub, Int.reduceNeg, Nat.reduceMod, Nat.reduceBEq, Nat.reduceLT] at hpre ⊢
 with_reducible repeat' (first | apply ai | intro _ | ((first | apply s1 | apply s3 | apply s4) <;> intro hb <;> simp -implicitDefEqProofs only [hb, go_sem, hh, Nat.reduceAdd, Nat.reduceMul, Nat.reduceLeDiff, Nat.reduceEqDiff, reduceCtorEq, Nat.reduceSub, Int.reduceNeg, Nat.reduceMod, Nat.reduceBEq, Nat.reduceLT] <;> try simp only [qz] at hb))
 all_goals (try simp only [maxLen, tn] at *)
 all_goals first | rfl | omega | skip
 ·rw [Sg (.inl (by omega))]
 ·rename_i hb; rw [Sg (.inr hb)]
 ·rw [← Q5 (s := s) (sub := sub) (by omega)]; rfl
 ·rw [fR (by omega) (by assumption)]
 all_goals
  have h2 : 2 ≤ sub.size := by omega
  have hls : sub.size < s.size := by omega
  refine AF [] (ι := {p : Nat × Nat // p.1 ≤ s.size - sub.size + 1 ∧ Lib.NoOccB s sub p.1 ∧ p.2 ≤ p.1}) (fun p => ⟨[(0, .t (.v (.string s))), (1, .t (.v (.string sub))), (5, .t (.v (.int .i64 sub.size))), (6, .t (.v (.int .u8 (AC sub 0)))), (7, .t (.v (.int .u8 (AC sub 1)))), (8, .t (.v (.int .i64 p.1.1))), (9, .t (.v (.int .i64 (s.size - sub.size + 1)))), (10, .t (.v (.int .i64 p.1.2)))], []⟩) (fun p => s.size - p.1.1) ⟨(0, 0), by dsimp only; omega, (fun j hj => absurd hj (Nat.not_lt_zero _)), by dsimp only; omega⟩ rfl ?_ ?_
  ·simp -implicitDefEqProofs only [go_sem, hh, Nat.reduceAdd, Nat.reduceMul, Nat.reduceLeDiff, Nat.reduceEqDiff, reduceCtorEq, Nat.reduceSub, Int.reduceNeg, Nat.reduceMod, Nat.reduceBEq, Nat.reduceLT]
   try simp
  ·rintro ⟨⟨i, f⟩, hi, hno, hf⟩
   dsimp only at hi hno hf
   have et : ((s.size : Int) - sub.size + 1).toNat = s.size - sub.size + 1 := by omega
   have ei : ((i : Int) + 1).toNat = i + 1 := by omega
   by_cases ht : (i : Int) < s.size - sub.size + 1
   ·by_cases e0 : AC s (i : Int).toNat = AC sub 0
    ·have e1 : ((i : Int) + sub.size).toNat = i + sub.size := by omega
     simp -implicitDefEqProofs only [ht, e0, go_sem, hh, Nat.reduceAdd, Nat.reduceMul, Nat.reduceLeDiff, Nat.reduceEqDiff, reduceCtorEq, Nat.reduceSub, Int.reduceNeg, Nat.reduceMod, Nat.reduceBEq, Nat.reduceLT]
     with_reducible repeat' (first | apply ai | intro _ | ((first | apply s1 | apply s3 | apply s4) <;> intro hb <;> simp -implicitDefEqProofs only [hb, go_sem, hh, Nat.reduceAdd, Nat.reduceMul, Nat.reduceLeDiff, Nat.reduceEqDiff, reduceCtorEq, Nat.reduceSub, Int.reduceNeg, Nat.reduceMod, Nat.reduceBEq, Nat.reduceLT] <;> try simp only [qz] at hb))
     all_goals (try simp only [maxLen, tn, Int.reduceToNat, ei, et, e1] at *)
     all_goals first | rfl | omega | skip
     all_goals first
      | (rw [Lib.hit s sub i hno (by omega) (Ee (by assumption))]; done)
      | (rw [ByteArray.size_extract]; omega)
      | (have hk2 : Lib.NoOccB s sub (i + 1) := by
           first
            | exact PD hno (by omega) (by assumption)
            | exact MP hno h2 (by omega) (by assumption)
         have hbd := Ks s sub (i + 1)
         first
          | omega
          | (refine zd ?_
             rw [jj hk2 (by omega)]
             first
              | (rw [if_pos (by omega)]; done)
              | (rw [if_neg (by omega)]; omega))
          | (refine ⟨⟨(i + 1, f + 1), by dsimp only; omega, hk2, by dsimp only; omega⟩, by dsimp only; omega, ?_⟩
             simp -implicitDefEqProofs only [go_sem, hh, Nat.reduceAdd, Nat.reduceMul, Nat.reduceLeDiff, Nat.reduceEqDiff, reduceCtorEq, Nat.reduceSub, Int.reduceNeg, Nat.reduceMod, Nat.reduceBEq, Nat.reduceLT]
             simp))
    ·have hz : True := trivial
     rcases Xf (s.extract ((i : Int) + 1).toNat ((s.size : Int) - sub.size + 1).toNat) (UInt8.ofNat (AC sub (Int.toNat 0)).toNat) with h | ⟨o, h, ho⟩
     ·have h' : Lib.indexByte (bl (s.extract ((i : Int) + 1).toNat ((s.size : Int) - sub.size + 1).toNat)) (UInt8.ofNat (AC sub 0).toNat) = -1 := h
      simp -implicitDefEqProofs only [ht, e0, h', go_sem, hh, Nat.reduceAdd, Nat.reduceMul, Nat.reduceLeDiff, Nat.reduceEqDiff, reduceCtorEq, Nat.reduceSub, Int.reduceNeg, Nat.reduceMod, Nat.reduceBEq, Nat.reduceLT]
      with_reducible repeat' (first | apply ai | intro _ | ((first | apply s1 | apply s3 | apply s4) <;> intro hb <;> simp -implicitDefEqProofs only [hb, go_sem, hh, Nat.reduceAdd, Nat.reduceMul, Nat.reduceLeDiff, Nat.reduceEqDiff, reduceCtorEq, Nat.reduceSub, Int.reduceNeg, Nat.reduceMod, Nat.reduceBEq, Nat.reduceLT] <;> try simp only [qz] at hb))
      all_goals (try simp only [maxLen] at *)
      all_goals first | rfl | omega | skip
      rw [ei, et] at h'
      rw [tn] at e0
      rw [NR (k := i) h2 (by omega) (by omega) hno e0 h']
     ·have h' : Lib.indexByte (bl (s.extract ((i : Int) + 1).toNat ((s.size : Int) - sub.size + 1).toNat)) (UInt8.ofNat (AC sub 0).toNat) = o := h
      have ho' : i + (o + 1) < s.size - sub.size + 1 := by
       rw [ei, et, ByteArray.size_extract] at ho; omega
      have hno' : Lib.NoOccB s sub (i + (o + 1)) := by
       rw [ei, et] at h'
       rw [tn] at e0
       exact NS (k := i) h2 (by omega) hno e0 h'
      have e4 : ((i : Int) + ((o : Int) + 1)) = ((i + (o + 1) : Nat) : Int) := by omega
      simp -implicitDefEqProofs only [ht, e0, h', e4, go_sem, hh, Nat.reduceAdd, Nat.reduceMul, Nat.reduceLeDiff, Nat.reduceEqDiff, reduceCtorEq, Nat.reduceSub, Int.reduceNeg, Nat.reduceMod, Nat.reduceBEq, Nat.reduceLT]
      have hik : i ≤ i + (o + 1) := by omega
      have hob : o ≤ 2000000 := by omega
      clear h h' ho e0
      generalize i + (o + 1) = k at *
      have ek : ((k : Int) + 1).toNat = k + 1 := by omega
      have e1 : ((k : Int) + sub.size).toNat = k + sub.size := by omega
      with_reducible repeat' (first | apply ai | intro _ | ((first | apply s1 | apply s3 | apply s4) <;> intro hb <;> simp -implicitDefEqProofs only [hb, go_sem, hh, Nat.reduceAdd, Nat.reduceMul, Nat.reduceLeDiff, Nat.reduceEqDiff, reduceCtorEq, Nat.reduceSub, Int.reduceNeg, Nat.reduceMod, Nat.reduceBEq, Nat.reduceLT] <;> try simp only [qz] at hb))
      all_goals (try simp only [maxLen, tn, Int.reduceToNat, ei, et, e1, ek, e4] at *)
      all_goals first | rfl | omega | skip
      all_goals first
       | (rw [Lib.hit s sub k hno' (by omega) (Ee (by assumption))]; done)
       | (rw [ByteArray.size_extract]; omega)
       | (have hk2 : Lib.NoOccB s sub (k + 1) := by
            first
             | exact PD hno' (by omega) (by assumption)
             | exact MP hno' h2 (by omega) (by assumption)
          have hbd := Ks s sub (k + 1)
          first
           | omega
           | (refine zd ?_
              rw [jj hk2 (by omega)]
              first
               | (rw [if_pos (by omega)]; done)
               | (rw [if_neg (by omega)]; omega))
           | (refine ⟨⟨(k + 1, f + 1), by dsimp only; omega, hk2, by dsimp only; omega⟩, by dsimp only; omega, ?_⟩
              simp -implicitDefEqProofs only [go_sem, hh, Nat.reduceAdd, Nat.reduceMul, Nat.reduceLeDiff, Nat.reduceEqDiff, reduceCtorEq, Nat.reduceSub, Int.reduceNeg, Nat.reduceMod, Nat.reduceBEq, Nat.reduceLT]
              simp))

   ·simp -implicitDefEqProofs only [ht, go_sem, hh, Nat.reduceAdd, Nat.reduceMul, Nat.reduceLeDiff, Nat.reduceEqDiff, reduceCtorEq, Nat.reduceSub, Int.reduceNeg, Nat.reduceMod, Nat.reduceBEq, Nat.reduceLT]
    rw [Lib.past s sub i hno (by omega) (by omega)]
end
section
open Go.Lib
def F5 (c : UInt8) : List UInt8 → List (List UInt8)
 | [] => [[]]
 | x :: r => if x = c then [] :: F5 c r else match F5 c r with | h :: t => (x :: h) :: t | [] => [[x]]
def IZ (s : ByteArray) (c : UInt8) : List ByteArray := (F5 c (bl s)).map mB
theorem GP (c : UInt8) : ∀ l : List UInt8, (F5 c l).length = l.count c + 1
 | [] => rfl
 | x :: r => by
   have h := GP c r
   rw [F5]
   by_cases e : x = c
   ·rw [if_pos e, e, List.count_cons_self]; simp [h]
   ·rw [if_neg e, List.count_cons_of_ne e]
    cases hs : F5 c r with
    | nil => rw [hs] at h; simp at h
    | cons a t => rw [hs] at h; simp at h ⊢; exact h
theorem Pl {c : UInt8} : ∀ {l : List UInt8}, (∀ j : Nat, l[j]? ≠ some c) → F5 c l = [l]
 | [], _ => rfl
 | x :: r, h => by
   rw [F5, if_neg (fun e => h 0 (by rw [e]; rfl)), Pl (fun j => h (j + 1))]
theorem MZ {c : UInt8} : ∀ (o : Nat) (l : List UInt8), l[o]? = some c → (∀ k : Nat, k < o → l[k]? ≠ some c) → F5 c l = l.take o :: F5 c (l.drop (o + 1))
 | 0, l, h, _ => by
   cases l with
   | nil => cases h
   | cons x r => simp at h; rw [F5, if_pos h]; rfl
 | o + 1, l, h, hk => by
   cases l with
   | nil => cases h
   | cons x r =>
     rw [F5, if_neg (fun e => hk 0 (by omega) (by rw [e]; rfl)), MZ o r h (fun k q => hk (k + 1) (by omega))]
     rfl
theorem FQ {c : UInt8} : ∀ (l : List UInt8) (m : Nat), (Av c m l).length ≤ m ∨ (F5 c l).length ≤ m → Av c m l = F5 c l
 | l, 0, h => by
   have := GP c l
   rw [Av] at h
   rcases h with h | h
   ·exact absurd h (by simp)
   ·omega
 | [], m + 1, _ => by rw [Av, F5]
 | x :: r, m + 1, h => by
   rw [Av, F5] at h ⊢
   by_cases e : x = c
   ·rw [if_pos e, if_pos e] at h ⊢
    rw [FQ r m (by simp at h; exact h)]
   ·rw [if_neg e, if_neg e] at h ⊢
    have h2 : (Av c (m + 1) r).length ≤ m + 1 ∨ (F5 c r).length ≤ m + 1 := by
     rcases h with h | h
     ·cases hs : Av c (m + 1) r with
      | nil => exact .inl (by simp)
      | cons a t => rw [hs] at h; exact .inl (by simpa using h)
     ·cases hs : F5 c r with
      | nil => exact .inr (by simp)
      | cons a t => rw [hs] at h; exact .inr (by simpa using h)
    rw [FQ r (m + 1) h2]
    all_goals (cases F5 c r <;> rfl)
theorem JT (s : ByteArray) : DG s ↔ (∀ w ∈ IZ s 46, Rs w) ∧ (IZ s 46).length ≤ 3 := by
 unfold DG Cz IZ
 constructor
 ·rintro ⟨h1, h2⟩
  rw [lm] at h2
  rw [FQ _ _ (.inl h2)] at h1 h2
  exact ⟨h1, by rw [lm]; exact h2⟩
 ·rintro ⟨h1, h2⟩
  rw [lm] at h2
  rw [← FQ _ _ (.inr h2)] at h1 h2
  exact ⟨h1, by rw [lm]; exact h2⟩
theorem Ft : ∀ {l : List UInt8} {c : UInt8}, indexByte l c = -1 → ∀ j : Nat, l[j]? ≠ some c
 | [], c, _, j => by simp
 | b :: l, c, h, j => by
   have hge := indexByte_ge l c
   unfold indexByte at h
   by_cases e : b = c
   ·rw [if_pos (by simp [e])] at h; cases h
   ·rw [if_neg (by simp [e])] at h
    by_cases e2 : indexByte l c = -1
    ·cases j with
     | zero => simp [e]
     | succ j => exact Ft e2 j
    ·rw [if_neg (by simp [e2])] at h; omega
theorem Pn {s sep : ByteArray} (h1 : sep.size = 1) (h : indexB s sep = -1) : IZ s (UInt8.ofNat (AC sep 0).toNat) = [s] := by
 rw [← Q5 h1] at h
 unfold IZ
 rw [Pl (Ft h)]
 rfl
theorem Y5 {s sep : ByteArray} (h1 : sep.size = 1) {o : Nat} (h : indexB s sep = o) : o < s.size ∧ IZ s (UInt8.ofNat (AC sep 0).toNat) = s.extract 0 o :: IZ (s.extract (o + 1) s.size) (UInt8.ofNat (AC sep 0).toNat) := by
 rw [← Q5 h1] at h
 obtain ⟨ha, hb⟩ := indexByte_some h
 refine ⟨(List.getElem?_eq_some_iff.1 ha).1, ?_⟩
 unfold IZ
 rw [MZ o _ ha hb, List.map_cons, C3 s (o + 1) s.size, List.take_of_length_le (l := (bl s).drop (o + 1)) (by rw [List.length_drop, CD]; exact Nat.le_refl _)]
 rw [G0 s 0 o]; rfl
theorem XM {α : Type} (enc : α → List T) (d x : α) (p : List α) (n : Nat) : ((p ++ List.replicate (n + 1) d).map enc).set p.length (enc x) = ((p ++ [x]) ++ List.replicate n d).map enc := by
 rw [← List.map_set, List.set_append_right _ _ (Nat.le_refl _), Nat.sub_self, List.replicate_succ, List.set_cons_zero, List.append_assoc]; rfl
theorem jc {t : ByteArray} {p : List ByteArray} {n : Nat} : ((p ++ List.replicate (n + 1) (⟨#[]⟩ : ByteArray)).map AH).set p.length [T.v (.string t)] = ((p ++ [t]) ++ List.replicate n (⟨#[]⟩ : ByteArray)).map AH := XM AH _ t p n
theorem GQ (s : ByteArray) (c : UInt8) : (IZ s c).length = countByte (bl s) c + 1 := by
 unfold IZ; rw [lm, GP]; rfl
theorem V8 (s : ByteArray) (c : UInt8) : countByte (bl s) c ≤ s.size := by
 have := List.count_le_length (a := c) (l := bl s)
 exact this
theorem Ma {s sep : ByteArray} (h1 : sep.size = 1) : (indexB s sep = -1 ∧ countByte (bl s) (UInt8.ofNat (AC sep 0).toNat) = 0 ∧ IZ s (UInt8.ofNat (AC sep 0).toNat) = [s]) ∨ ∃ o : Nat, indexB s sep = o ∧ o < s.size ∧ IZ s (UInt8.ofNat (AC sep 0).toNat) = s.extract 0 o :: IZ (s.extract (o + 1) s.size) (UInt8.ofNat (AC sep 0).toNat) ∧ countByte (bl s) (UInt8.ofNat (AC sep 0).toNat) = countByte (bl (s.extract (o + 1) s.size)) (UInt8.ofNat (AC sep 0).toNat) + 1 := by
 have hge := index_ge (bl s) (bl sep)
 by_cases h : indexB s sep = -1
 ·refine .inl ⟨h, ?_, Pn h1 h⟩
  have := GQ s (UInt8.ofNat (AC sep 0).toNat)
  rw [Pn h1 h] at this
  simp at this; exact this
 ·have hge' : -1 ≤ indexB s sep := hge
  obtain ⟨o, ho⟩ : ∃ o : Nat, indexB s sep = o := ⟨(indexB s sep).toNat, by omega⟩
  obtain ⟨a, b⟩ := Y5 h1 ho
  refine .inr ⟨o, ho, a, b, ?_⟩
  have q1 := GQ s (UInt8.ofNat (AC sep 0).toNat)
  have q2 := GQ (s.extract (o + 1) s.size) (UInt8.ofNat (AC sep 0).toNat)
  rw [b, List.length_cons, q2] at q1
  omega
end
def mZ : Ct := Aq (lc Aw (lc Aw l0)) (fun p => p.2.1.size ≤ 2000000 ∧ p.1.size ≤ 2000000) (fun p => .t (.v (.int .i64 (Lib.indexB p.1 p.2.1))))
section
attribute [local go_sem] mh
theorem eE {G : Gt} (hG : Ai G) (hh : G.e 217 = AA 0 mh) : Gd G 200 (AA 0 mZ) := by
 refine gr (fn := Tryz.f200) (n := 2) rfl hG ?_
 rintro ⟨s, sub, ⟨⟩⟩ hpre
 simp -implicitDefEqProofs only [Tryz.f200, go_sem, hh, seval] at hpre ⊢
 with_reducible repeat' (first | apply ai | intro _ | ((first | apply s1 | apply s3 | apply s4) <;> intro hb <;> simp -implicitDefEqProofs only [hb, go_sem, hh, seval] <;> try simp only [qz] at hb))
 all_goals first | rfl | omega | skip
end
def mY : Ct := Aq (lc Aw (lc Aw l0)) (fun p => p.2.1.size = 1 ∧ p.1.size ≤ 2000000) (fun p => .t (.v (.int .i64 (Lib.countByte (bl p.1) (UInt8.ofNat (AC p.2.1 0).toNat)))))
section
attribute [local go_sem] mg
theorem eD {G : Gt} (hG : Ai G) (hh : G.e 216 = AA 3 mg) : Gd G 199 (AA 0 mY) := by
 refine gr (fn := Tryz.f199) (n := 2) rfl hG ?_
 rintro ⟨s, sub, ⟨⟩⟩ hpre
 simp -implicitDefEqProofs only [Tryz.f199, go_sem, hh, seval] at hpre ⊢
 have h1 : (sub.size : Int) = 1 := by omega
 simp -implicitDefEqProofs only [h1, go_sem, hh, seval]
 with_reducible repeat' (first | apply ai | intro _ | ((first | apply s1 | apply s3 | apply s4) <;> intro hb <;> simp -implicitDefEqProofs only [hb, go_sem, hh, seval] <;> try simp only [qz] at hb))
 all_goals first | rfl | omega | skip
end
def mf : Ct := Aq (lc Aw (lc Aw l0)) (fun p => p.2.1.size ≤ 2000000 ∧ p.1.size ≤ 2000000) (fun p => .t (.v (.bool (BV (p.2.1.size ≤ p.1.size ∧ p.1.extract (p.1.size - p.2.1.size) p.1.size = p.2.1)))))
theorem eL {G : Gt} (hG : Ai G) : Gd G 213 (AA 0 mf) := by
 refine gr (fn := Tryz.f213) (n := 2) rfl hG ?_
 rintro ⟨s, e, ⟨⟩⟩ hpre
 simp -implicitDefEqProofs only [Tryz.f213, go_sem, seval] at hpre ⊢
 with_reducible repeat' (first | apply ai | intro _ | ((first | apply s1 | apply s3 | apply s4) <;> intro hb <;> simp -implicitDefEqProofs only [hb, go_sem, seval] <;> try simp only [qz] at hb))
 all_goals (try simp only [maxLen] at *)
 all_goals first | rfl | omega | skip
 ·have e1 : (s.size : Int).toNat = s.size := tn _
  have e2 : ((s.size : Int) - e.size).toNat = s.size - e.size := by omega
  rw [e1, e2, ← BI]
  exact congrArg (fun b => T.v (.bool b)) (AW ⟨fun h => ⟨by omega, h⟩, fun h => h.2⟩)
 ·rw [AN (fun h => by omega)]
def mW : Ct := Aq (lc Aw (lc Aw l0)) (fun p => p.2.1.size ≤ 2000000 ∧ p.1.size ≤ 2000000) (fun p => .t (.v (.bool (BV (p.2.1.size ≤ p.1.size ∧ p.1.extract (p.1.size - p.2.1.size) p.1.size = p.2.1)))))
section
attribute [local go_sem] mf
theorem eB {G : Gt} (hG : Ai G) (hh : G.e 213 = AA 0 mf) : Gd G 194 (AA 0 mW) := by
 refine gr (fn := Tryz.f194) (n := 2) rfl hG ?_
 rintro ⟨s, e, ⟨⟩⟩ hpre
 simp -implicitDefEqProofs only [Tryz.f194, go_sem, hh, seval] at hpre ⊢
 with_reducible repeat' (first | apply ai | intro _ | ((first | apply s1 | apply s3 | apply s4) <;> intro hb <;> simp -implicitDefEqProofs only [hb, go_sem, hh, seval] <;> try simp only [qz] at hb))
 all_goals (try simp only [maxLen] at *)
 all_goals first | rfl | omega | skip
end
def mQ : Ct := Aq (lc Aw (lc Aw (lc BA (lc BA l0)))) (fun p => p.2.1.size = 1 ∧ p.2.2.1 = 0 ∧ p.2.2.2.1 = -1 ∧ p.1.size ≤ 2000000) (fun p => .o true 1 ((IZ p.1 (UInt8.ofNat (AC p.2.1 0).toNat)).map AH))
section
attribute [local go_sem] mY mZ BQ AZ List.map_replicate
set_option maxHeartbeats 1600000 in
theorem dy {G : Gt} (hG : Ai G) (hh : G.e 199 = AA 0 mY ∧ G.e 200 = AA 0 mZ) : Gd G 177 (AA 0 mQ) := by
 refine gr (fn := Tryz.f177) (n := 4) rfl hG ?_ (hs := fun _ _ => .deep _ _)
 rintro ⟨s, sep, sv, n, ⟨⟩⟩ hpre
 obtain ⟨h1, h2, h3, h4⟩ := hpre
 dsimp only at h1 h2 h3 h4
 subst h2 h3
 have hse : ¬ sep = ⟨#[]⟩ := by intro e; rw [e] at h1; cases h1
 have hc := V8 s (UInt8.ofNat (AC sep 0).toNat)
 have hl := GQ s (UInt8.ofNat (AC sep 0).toNat)
 have hmin : ¬ ((s.size : Int) + 1 < (Lib.countByte (bl s) (UInt8.ofNat (AC sep 0).toNat) : Int) + 1) := by omega
 simp -implicitDefEqProofs only [Tryz.f177, hse, if_neg hmin, go_sem, hh, seval]
 with_reducible repeat' (first | apply ai | intro _ | ((first | apply s1 | apply s3 | apply s4) <;> intro hb <;> simp -implicitDefEqProofs only [hb, go_sem, hh, seval] <;> try simp only [qz] at hb))
 all_goals (try simp only [maxLen, tn] at *)
 all_goals first | rfl | omega | skip
 refine AF [] (ι := {z : List ByteArray × ByteArray // IZ s (UInt8.ofNat (AC sep 0).toNat) = z.1 ++ IZ z.2 (UInt8.ofNat (AC sep 0).toNat) ∧ z.2.size ≤ s.size}) (fun z => ⟨[(0, .t (.v (.string z.1.2))), (1, .t (.v (.string sep))), (2, .t (.v (.int .i64 0))), (3, .t (.v (.int .i64 (Lib.countByte (bl s) (UInt8.ofNat (AC sep 0).toNat))))), (9, .h 1031), (10, .t (.v (.int .i64 z.1.1.length)))], [(1031, some (.arr true 1 ((z.1.1 ++ List.replicate (Lib.countByte (bl s) (UInt8.ofNat (AC sep 0).toNat) + 1 - z.1.1.length) (⟨#[]⟩ : ByteArray)).map AH)))]⟩) (fun z => s.size + 1 - z.1.1.length) ⟨([], s), rfl, Nat.le_refl _⟩ rfl ?_ ?_
 ·simp -implicitDefEqProofs only [go_sem, hh, seval]
  try simp
  constructor <;> split <;> omega
 ·rintro ⟨⟨p, t⟩, hz, ht⟩
  dsimp only at hz ht
  have hcl : (IZ s (UInt8.ofNat (AC sep 0).toNat)).length = p.length + (IZ t (UInt8.ofNat (AC sep 0).toNat)).length := by rw [hz, List.length_append]
  rw [hl, GQ] at hcl
  by_cases hlt : (p.length : Int) < Lib.countByte (bl s) (UInt8.ofNat (AC sep 0).toNat)
  ·rcases Ma (s := t) h1 with ⟨_, q, _⟩ | ⟨o, q1, q2, q3, q4⟩
   ·omega
   ·have q0 : ¬ (o : Int) < 0 := by omega
    simp -implicitDefEqProofs only [hlt, q1, q0, go_sem, hh, seval]
    obtain ⟨n, hn⟩ : ∃ n, Lib.countByte (bl s) (UInt8.ofNat (AC sep 0).toNat) + 1 - p.length = n + 1 := ⟨Lib.countByte (bl s) (UInt8.ofNat (AC sep 0).toNat) - p.length, by omega⟩
    have hn2 : n = Lib.countByte (bl s) (UInt8.ofNat (AC sep 0).toNat) - p.length := by omega
    have hs1 : ((o : Int) + sep.size).toNat = o + 1 := by omega
    with_reducible repeat' (first | apply ai | intro _ | ((first | apply s1 | apply s3 | apply s4) <;> intro hb <;> simp -implicitDefEqProofs only [hb, go_sem, hh, seval] <;> try simp only [qz] at hb))
    all_goals (try simp only [maxLen, tn, Int.add_zero, hn, jc, lm, List.length_append, List.length_replicate, hs1] at *)
    all_goals first | rfl | omega | skip
    refine ⟨⟨(p ++ [t.extract 0 o], t.extract (o + 1) t.size), ?_, ?_⟩, ?_, ?_⟩
    ·dsimp only; rw [hz, q3, List.append_assoc]; rfl
    ·dsimp only; rw [ByteArray.size_extract]; omega
    ·dsimp only; rw [List.length_append]; simp; omega
    ·have e2 : Lib.countByte (bl s) (UInt8.ofNat (AC sep 0).toNat) + 1 - (p ++ [t.extract 0 o]).length = n := by rw [List.length_append, hn2]; simp
     simp -implicitDefEqProofs only [e2, go_sem, hh, seval]
     try simp
  ·simp -implicitDefEqProofs only [hlt, go_sem, hh, seval]
   rcases Ma (s := t) h1 with ⟨_, _, q⟩ | ⟨o, q1, q2, q3, q4⟩
   ·have hn : Lib.countByte (bl s) (UInt8.ofNat (AC sep 0).toNat) + 1 - p.length = 0 + 1 := by omega
    rw [q] at hz
    with_reducible repeat' (first | apply ai | intro _ | ((first | apply s1 | apply s3 | apply s4) <;> intro hb <;> simp -implicitDefEqProofs only [hb, go_sem, hh, seval] <;> try simp only [qz] at hb))
    all_goals (try simp only [maxLen, tn, Int.add_zero, hn, jc, lm, List.length_append, List.length_replicate] at *)
    all_goals first | rfl | omega | (simp; done) | skip
    ·rw [hz, List.replicate_zero, List.append_nil, List.take_of_length_le]
     try simp
   ·omega
end
def bx (l : List Bool) : List AV := l.map fun b => .t (.v (.bool b))
def QU (l : List Bool) : List T := l.map fun b => .v (.bool b)
def lX : List T → Option (List Bool)
 | [] => some []
 | .v (.bool b) :: r => (lX r).map (b :: ·)
 | _ => none
theorem QT : ∀ l, lX (QU l) = some l
 | [] => rfl
 | b :: l => by show (lX (QU l)).map (b :: ·) = _; rw [QT l]; rfl
theorem Vk : ∀ {c l}, lX c = some l → QU l = c
 | [], _, h => by cases h; rfl
 | x :: c, l, h => by
   unfold lX at h
   split at h
   ·rename_i e; cases e
   ·rename_i e
    cases e
    cases hq : lX c with
    | none => rw [hq] at h; cases h
    | some l' => rw [hq] at h; cases h; rw [← Vk hq]; rfl
   ·cases h
def zX : AV → Option (List Bool)
 | .t (.rop c) => lX c
 | _ => none
def tA : AD (List Bool) where
 enc l := .t (.rop (QU l))
 dec := zX
 ed := fun l => QT l
 de := fun x l h => by
  unfold zX at h
  split at h
  ·rw [← Vk h]
  ·cases h
theorem JN {l : List Bool} : tA.dec (.t (.rop (QU l))) = some l := QT l
theorem JO {l : List Bool} : tA.enc l = .t (.rop (QU l)) := rfl
theorem KU {l : List Bool} : (bx l).length = l.length := by simp [bx]
theorem SF {l : List Bool} : (QU l).length = l.length := by simp [QU]
def iW : List Value := List.replicate 256 (.bool false)
def Ve : List Bool := List.replicate 256 false
theorem ZK : AI Tryz.prog 199 = some ⟨.arr 256 4, 256, 256, iW⟩ := we
theorem SM : iW.map De = bx Ve := by simp [bx, iW, Ve]; rfl
theorem SG : iW.all CU = true := by decide
theorem Of : Ve.length = 256 := rfl
theorem Oi : List.drop 256 (bx Ve) = [] := rfl
theorem lY {l : List Bool} {k : Nat} {b : Bool} (h : k < l.length) : (bx l).take k ++ AV.t (.v (.bool b)) :: (bx l).drop (k + 1) = bx (l.set k b) := by
 unfold bx
 rw [List.set_eq_take_append_cons_drop, if_pos h]
 try simp
theorem bT {l : List Bool} {n : Nat} (h : l.length = n) : (bx l).take n = bx l := List.take_of_length_le (by rw [KU]; omega)
theorem SL {s : AS} {n : Nat} : ∀ {l : List Bool}, BC (s.snapT (n + 1)) (bx l) = some (QU l)
 | [] => rfl
 | b :: l => by
   have h := SL (s := s) (n := n) (l := l)
   unfold bx QU at h ⊢
   simp only [List.map_cons, BC, h, AS.snapT]
theorem bS {l : List Bool} {k : Nat} (h : k < l.length) : (QU l).drop k = T.v (.bool (l.getD k false)) :: (QU l).drop (k + 1) := by
 rw [List.drop_eq_getElem_cons (by rw [SF]; exact h)]
 congr 1
 simp [QU, h]
theorem SI {s : AS} : ∀ {l : List Bool}, EI s (bx l) (bx l)
 | [] => trivial
 | b :: l => ⟨by simp only [FY, Pa], SI⟩
theorem SH {s : AS} : ∀ {l : List Bool}, B6 s (bx l) (bx l) = []
 | [] => rfl
 | b :: l => by show Di s (.t (.v (.bool b))) (.t (.v (.bool b))) ++ B6 s (bx l) (bx l) = []; rw [SH]; rfl
theorem SJ {s : AS} : ∀ {l : List Bool}, CV s (bx l) (bx l) = []
 | [] => rfl
 | b :: l => by show D1 s (.t (.v (.bool b))) (.t (.v (.bool b))) ++ CV s (bx l) (bx l) = []; rw [SJ]; rfl
theorem MD {d k : Nat} {s : AS} : ∀ {l : List Bool}, AT d k (bx l) s = ⟨bx l, s, k⟩
 | [] => rfl
 | b :: l => by
   show zQ.mk (AV.t (.v (.bool b)) :: (AT d k (bx l) s).avs) (AT d k (bx l) s).s (AT d k (bx l) s).k = _
   rw [MD]; rfl
theorem Vl {k : Nat} : ∀ {l : List Bool}, AV.hasL k (bx l) = false
 | [] => rfl
 | b :: l => by show (false || AV.hasL k (bx l)) = false; rw [Vl]; rfl
theorem Oj {k : Nat} : ∀ {l : List Bool}, (bx l).map (AV.drop k) = bx l
 | [] => rfl
 | b :: l => by show AV.t (.v (.bool b)) :: (bx l).map (AV.drop k) = _; rw [Oj]; rfl
def GY (cs : ByteArray) : Nat → List Bool
 | 0 => Ve
 | n + 1 => (GY cs n).set (AC cs n).toNat true
theorem LJ (cs : ByteArray) : ∀ n, (GY cs n).length = 256
 | 0 => rfl
 | n + 1 => by rw [GY, List.length_set]; exact LJ cs n
def Ju (l : List Bool) (s : ByteArray) : ByteArray :=
 if h : s.size = 0 then s else bif l.getD (AC s (s.size - 1)).toNat false then Ju l (s.extract 0 (s.size - 1)) else s
termination_by s.size
decreasing_by rw [ByteArray.size_extract]; omega
def OD (l : List Bool) (s : ByteArray) : ByteArray :=
 if h : s.size = 0 then s else bif l.getD (AC s 0).toNat false then OD l (s.extract 1 s.size) else s
termination_by s.size
decreasing_by rw [ByteArray.size_extract]; omega
theorem TP {l : List Bool} : Ju l ⟨#[]⟩ = ⟨#[]⟩ := by rw [Ju]; exact dif_pos rfl
theorem TM {l : List Bool} : OD l ⟨#[]⟩ = ⟨#[]⟩ := by rw [OD]; exact dif_pos rfl
theorem ZF (l : List Bool) (s : ByteArray) : (Ju l s).size ≤ s.size := by
 rw [Ju]
 split
 ·exact Nat.le_refl _
 ·cases l.getD (AC s (s.size - 1)).toNat false
  ·exact Nat.le_refl _
  ·have := ZF l (s.extract 0 (s.size - 1))
   rw [ByteArray.size_extract] at this
   show (Ju l (s.extract 0 (s.size - 1))).size ≤ _
   omega
termination_by s.size
decreasing_by rw [ByteArray.size_extract]; omega
def Vz : Ct := Aq (lc tA (lc kK l0)) (fun p => p.1.length = 256 ∧ 0 ≤ p.2.1 ∧ p.2.1 < 256) (fun p => .t (.v (.bool (p.1.getD p.2.1.toNat false))))
section
attribute [local go_sem] ZK JN JO SF
theorem eF {G : Gt} (hG : Ai G) : Gd G 201 (AA 0 Vz) := by
 refine gr (fn := Tryz.f201) (n := 2) rfl hG ?_
 rintro ⟨l, c, ⟨⟩⟩ hpre
 simp -implicitDefEqProofs only [Tryz.f201, go_sem, Nat.reduceAdd, Nat.reduceMul, Nat.reduceLeDiff, Nat.reduceEqDiff, reduceCtorEq, Nat.reduceSub, Int.reduceNeg, Nat.reduceMod, Nat.reduceBEq, Nat.reduceLT] at hpre ⊢
 have hk : c.toNat < l.length := by omega
 simp -implicitDefEqProofs only [bS hk, Nat.mul_one, hpre.1, go_sem, Nat.reduceAdd, Nat.reduceMul, Nat.reduceLeDiff, Nat.reduceEqDiff, reduceCtorEq, Nat.reduceSub, Int.reduceNeg, Nat.reduceMod, Nat.reduceBEq, Nat.reduceLT]
 with_reducible repeat' (first | apply ai | intro _ | ((first | apply s1 | apply s3 | apply s4) <;> intro hb <;> simp -implicitDefEqProofs only [hb, go_sem, Nat.reduceAdd, Nat.reduceMul, Nat.reduceLeDiff, Nat.reduceEqDiff, reduceCtorEq, Nat.reduceSub, Int.reduceNeg, Nat.reduceMod, Nat.reduceBEq, Nat.reduceLT] <;> try simp only [qz] at hb))
 all_goals first | rfl | omega | skip
 all_goals trace_state
end
def mT : Ct := Aq (lc Aw (lc tA l0)) (fun p => p.2.1.length = 256 ∧ p.1.size ≤ 2000000) (fun p => .t (.v (.string (Ju p.2.1 p.1))))
section
attribute [local go_sem] Vz JN JO Bool.not_true Bool.not_false
theorem d5 {G : Gt} (hG : Ai G) (hh : G.e 201 = AA 0 Vz) : Gd G 182 (AA 0 mT) := by
 refine gr (fn := Tryz.f182) (n := 2) rfl hG ?_
 rintro ⟨s, l, ⟨⟩⟩ hpre
 simp -implicitDefEqProofs only [Tryz.f182, go_sem, hh, Nat.reduceAdd, Nat.reduceMul, Nat.reduceLeDiff, Nat.reduceEqDiff, reduceCtorEq, Nat.reduceSub, Int.reduceNeg, Nat.reduceMod, Nat.reduceBEq, Nat.reduceLT] at hpre ⊢
 refine AF [] (ι := {t : ByteArray // Ju l t = Ju l s ∧ t.size ≤ s.size}) (fun p => ⟨[(0, .t (.v (.string p.1))), (1, .t (.rop (QU l)))], []⟩) (fun p => p.1.size) ⟨s, rfl, Nat.le_refl _⟩ rfl ?_ ?_
 ·simp -implicitDefEqProofs only [go_sem, hh, Nat.reduceAdd, Nat.reduceMul, Nat.reduceLeDiff, Nat.reduceEqDiff, reduceCtorEq, Nat.reduceSub, Int.reduceNeg, Nat.reduceMod, Nat.reduceBEq, Nat.reduceLT]
  try simp
 ·rintro ⟨t, ht, hts⟩
  by_cases h0 : t.size = 0
  ·have h1 : (t.size : Int) = 0 := by omega
   simp -implicitDefEqProofs only [h1, go_sem, hh, Nat.reduceAdd, Nat.reduceMul, Nat.reduceLeDiff, Nat.reduceEqDiff, reduceCtorEq, Nat.reduceSub, Int.reduceNeg, Nat.reduceMod, Nat.reduceBEq, Nat.reduceLT]
   with_reducible repeat' (first | apply ai | intro _ | ((first | apply s1 | apply s3 | apply s4) <;> intro hb <;> simp -implicitDefEqProofs only [hb, go_sem, hh, Nat.reduceAdd, Nat.reduceMul, Nat.reduceLeDiff, Nat.reduceEqDiff, reduceCtorEq, Nat.reduceSub, Int.reduceNeg, Nat.reduceMod, Nat.reduceBEq, Nat.reduceLT] <;> try simp only [qz] at hb))
   all_goals first | rfl | omega | skip
   rw [← ht, Ju, dif_pos h0]
  ·have h1 : (t.size : Int) > 0 := by omega
   have hbr := A8 t (t.size - 1)
   have hr : Ju l t = bif l.getD (AC t (t.size - 1)).toNat false then Ju l (t.extract 0 (t.size - 1)) else t := by
    rw [Ju, dif_neg h0]
   have e1 : ((t.size : Int) - 1).toNat = (t.size - 1) := by omega
   cases hb : l.getD (AC t (((t.size : Int) - 1).toNat)).toNat false
   ·simp -implicitDefEqProofs only [h1, hb, go_sem, hh, Nat.reduceAdd, Nat.reduceMul, Nat.reduceLeDiff, Nat.reduceEqDiff, reduceCtorEq, Nat.reduceSub, Int.reduceNeg, Nat.reduceMod, Nat.reduceBEq, Nat.reduceLT]
    with_reducible repeat' (first | apply ai | intro _ | ((first | apply s1 | apply s3 | apply s4) <;> intro hb <;> simp -implicitDefEqProofs only [hb, go_sem, hh, Nat.reduceAdd, Nat.reduceMul, Nat.reduceLeDiff, Nat.reduceEqDiff, reduceCtorEq, Nat.reduceSub, Int.reduceNeg, Nat.reduceMod, Nat.reduceBEq, Nat.reduceLT] <;> try simp only [qz] at hb))
    all_goals first | rfl | omega | skip
    all_goals rw [e1] at *
    all_goals first | omega | (rw [← ht, hr, hb]; rfl)
   ·simp -implicitDefEqProofs only [h1, hb, go_sem, hh, Nat.reduceAdd, Nat.reduceMul, Nat.reduceLeDiff, Nat.reduceEqDiff, reduceCtorEq, Nat.reduceSub, Int.reduceNeg, Nat.reduceMod, Nat.reduceBEq, Nat.reduceLT]
    with_reducible repeat' (first | apply ai | intro _ | ((first | apply s1 | apply s3 | apply s4) <;> intro hb <;> simp -implicitDefEqProofs only [hb, go_sem, hh, Nat.reduceAdd, Nat.reduceMul, Nat.reduceLeDiff, Nat.reduceEqDiff, reduceCtorEq, Nat.reduceSub, Int.reduceNeg, Nat.reduceMod, Nat.reduceBEq, Nat.reduceLT] <;> try simp only [qz] at hb))
    all_goals first | rfl | omega | skip
    all_goals rw [e1] at *
    all_goals first | omega | skip
    refine ⟨⟨t.extract 0 (t.size - 1), ?_, ?_⟩, ?_, ?_⟩
    ·rw [← ht, hr, hb]; rfl
    ·rw [ByteArray.size_extract]; omega
    ·show (t.extract 0 (t.size - 1)).size < t.size
     rw [ByteArray.size_extract]; omega
    ·simp -implicitDefEqProofs only [go_sem, hh, Nat.reduceAdd, Nat.reduceMul, Nat.reduceLeDiff, Nat.reduceEqDiff, reduceCtorEq, Nat.reduceSub, Int.reduceNeg, Nat.reduceMod, Nat.reduceBEq, Nat.reduceLT]
     try simp [e1]
end
def mS : Ct := Aq (lc Aw (lc tA l0)) (fun p => p.2.1.length = 256 ∧ p.1.size ≤ 2000000) (fun p => .t (.v (.string (OD p.2.1 p.1))))
section
attribute [local go_sem] Vz JN JO Bool.not_true Bool.not_false
theorem d4 {G : Gt} (hG : Ai G) (hh : G.e 201 = AA 0 Vz) : Gd G 181 (AA 0 mS) := by
 refine gr (fn := Tryz.f181) (n := 2) rfl hG ?_
 rintro ⟨s, l, ⟨⟩⟩ hpre
 simp -implicitDefEqProofs only [Tryz.f181, go_sem, hh, Nat.reduceAdd, Nat.reduceMul, Nat.reduceLeDiff, Nat.reduceEqDiff, reduceCtorEq, Nat.reduceSub, Int.reduceNeg, Nat.reduceMod, Nat.reduceBEq, Nat.reduceLT] at hpre ⊢
 refine AF [] (ι := {t : ByteArray // OD l t = OD l s ∧ t.size ≤ s.size}) (fun p => ⟨[(0, .t (.v (.string p.1))), (1, .t (.rop (QU l)))], []⟩) (fun p => p.1.size) ⟨s, rfl, Nat.le_refl _⟩ rfl ?_ ?_
 ·simp -implicitDefEqProofs only [go_sem, hh, Nat.reduceAdd, Nat.reduceMul, Nat.reduceLeDiff, Nat.reduceEqDiff, reduceCtorEq, Nat.reduceSub, Int.reduceNeg, Nat.reduceMod, Nat.reduceBEq, Nat.reduceLT]
  try simp
 ·rintro ⟨t, ht, hts⟩
  by_cases h0 : t.size = 0
  ·have h1 : (t.size : Int) = 0 := by omega
   simp -implicitDefEqProofs only [h1, go_sem, hh, Nat.reduceAdd, Nat.reduceMul, Nat.reduceLeDiff, Nat.reduceEqDiff, reduceCtorEq, Nat.reduceSub, Int.reduceNeg, Nat.reduceMod, Nat.reduceBEq, Nat.reduceLT]
   with_reducible repeat' (first | apply ai | intro _ | ((first | apply s1 | apply s3 | apply s4) <;> intro hb <;> simp -implicitDefEqProofs only [hb, go_sem, hh, Nat.reduceAdd, Nat.reduceMul, Nat.reduceLeDiff, Nat.reduceEqDiff, reduceCtorEq, Nat.reduceSub, Int.reduceNeg, Nat.reduceMod, Nat.reduceBEq, Nat.reduceLT] <;> try simp only [qz] at hb))
   all_goals first | rfl | omega | skip
   rw [← ht, OD, dif_pos h0]
  ·have h1 : (t.size : Int) > 0 := by omega
   have hbr := A8 t 0
   have hr : OD l t = bif l.getD (AC t 0).toNat false then OD l (t.extract 1 t.size) else t := by
    rw [OD, dif_neg h0]
   have e1 : Int.toNat 0 = 0 := by omega
   cases hb : l.getD (AC t (Int.toNat 0)).toNat false
   ·simp -implicitDefEqProofs only [h1, hb, go_sem, hh, Nat.reduceAdd, Nat.reduceMul, Nat.reduceLeDiff, Nat.reduceEqDiff, reduceCtorEq, Nat.reduceSub, Int.reduceNeg, Nat.reduceMod, Nat.reduceBEq, Nat.reduceLT]
    with_reducible repeat' (first | apply ai | intro _ | ((first | apply s1 | apply s3 | apply s4) <;> intro hb <;> simp -implicitDefEqProofs only [hb, go_sem, hh, Nat.reduceAdd, Nat.reduceMul, Nat.reduceLeDiff, Nat.reduceEqDiff, reduceCtorEq, Nat.reduceSub, Int.reduceNeg, Nat.reduceMod, Nat.reduceBEq, Nat.reduceLT] <;> try simp only [qz] at hb))
    all_goals first | rfl | omega | skip
    all_goals rw [e1] at *
    all_goals first | omega | (rw [← ht, hr, hb]; rfl)
   ·simp -implicitDefEqProofs only [h1, hb, go_sem, hh, Nat.reduceAdd, Nat.reduceMul, Nat.reduceLeDiff, Nat.reduceEqDiff, reduceCtorEq, Nat.reduceSub, Int.reduceNeg, Nat.reduceMod, Nat.reduceBEq, Nat.reduceLT]
    with_reducible repeat' (first | apply ai | intro _ | ((first | apply s1 | apply s3 | apply s4) <;> intro hb <;> simp -implicitDefEqProofs only [hb, go_sem, hh, Nat.reduceAdd, Nat.reduceMul, Nat.reduceLeDiff, Nat.reduceEqDiff, reduceCtorEq, Nat.reduceSub, Int.reduceNeg, Nat.reduceMod, Nat.reduceBEq, Nat.reduceLT] <;> try simp only [qz] at hb))
    all_goals first | rfl | omega | skip
    all_goals rw [e1] at *
    all_goals first | omega | skip
    refine ⟨⟨t.extract 1 t.size, ?_, ?_⟩, ?_, ?_⟩
    ·rw [← ht, hr, hb]; rfl
    ·rw [ByteArray.size_extract]; omega
    ·show (t.extract 1 t.size).size < t.size
     rw [ByteArray.size_extract]; omega
    ·simp -implicitDefEqProofs only [go_sem, hh, Nat.reduceAdd, Nat.reduceMul, Nat.reduceLeDiff, Nat.reduceEqDiff, reduceCtorEq, Nat.reduceSub, Int.reduceNeg, Nat.reduceMod, Nat.reduceBEq, Nat.reduceLT]
     try simp [e1]
end
def mR : Ct := Aq (lc Aw l0) (fun p => p.1.size ≤ 1000 ∧ ∀ j, j < p.1.size → AC p.1 j < 128) (fun p => .tup [.agg (bx (GY p.1 p.1.size)), .t (.v (.bool true))])
section
attribute [local go_sem] ZK SM SG
theorem dz {G : Gt} (hG : Ai G) : Gd G 180 (AA 0 mR) := by
 refine gr (fn := Tryz.f180) (n := 1) rfl hG ?_ (hs := fun _ _ => .tup _ (by intro c hc; simp only [List.mem_cons, List.not_mem_nil, or_false] at hc; rcases hc with rfl | rfl <;> first | exact .v _ | exact .agg _ (by intro c hc; simp only [bx, List.mem_map] at hc; obtain ⟨b, _, rfl⟩ := hc; exact .v _)))
 rintro ⟨cs, ⟨⟩⟩ hpre
 simp -implicitDefEqProofs only [Tryz.f180, go_sem, Nat.reduceAdd, Nat.reduceMul, Nat.reduceLeDiff, Nat.reduceEqDiff, reduceCtorEq, Nat.reduceSub, Int.reduceNeg, Nat.reduceMod, Nat.reduceBEq, Nat.reduceLT] at hpre ⊢
 with_reducible repeat' (first | apply ai | intro _ | ((first | apply s1 | apply s3 | apply s4) <;> intro hb <;> simp -implicitDefEqProofs only [hb, go_sem, Nat.reduceAdd, Nat.reduceMul, Nat.reduceLeDiff, Nat.reduceEqDiff, reduceCtorEq, Nat.reduceSub, Int.reduceNeg, Nat.reduceMod, Nat.reduceBEq, Nat.reduceLT] <;> try simp only [qz] at hb))
 all_goals first | rfl | omega | skip
 refine AF [] (ι := {i : Nat // i ≤ cs.size}) (fun p => ⟨[(0, .t (.v (.string cs))), (2, .pb 1002 0), (4, .t (.v (.int .i64 p.1)))], [(1002, some (.box (bx (GY cs p.1))))]⟩) (fun p => cs.size - p.1) ⟨0, Nat.zero_le _⟩ rfl ?_ ?_
 ·simp -implicitDefEqProofs only [go_sem, Nat.reduceAdd, Nat.reduceMul, Nat.reduceLeDiff, Nat.reduceEqDiff, reduceCtorEq, Nat.reduceSub, Int.reduceNeg, Nat.reduceMod, Nat.reduceBEq, Nat.reduceLT]
  exact ⟨rfl, rfl⟩
 ·rintro ⟨i, hi⟩
  have hbr := A8 cs i
  have hlen := LJ cs i
  by_cases hlt : (i : Int) < cs.size
  ·have h128 := hpre.2 i (by omega)
   have h1 : ¬ AC cs (i : Int).toNat ≥ 128 := by rw [tn]; omega
   have h2 : (AC cs (i : Int).toNat).toNat * 1 < (GY cs i).length := by rw [tn]; omega
   simp -implicitDefEqProofs only [hlt, h1, Nat.zero_add, go_sem, Nat.reduceAdd, Nat.reduceMul, Nat.reduceLeDiff, Nat.reduceEqDiff, reduceCtorEq, Nat.reduceSub, Int.reduceNeg, Nat.reduceMod, Nat.reduceBEq, Nat.reduceLT]
   with_reducible repeat' (first | apply ai | intro _ | ((first | apply s1 | apply s3 | apply s4) <;> intro hb <;> simp -implicitDefEqProofs only [hb, go_sem, Nat.reduceAdd, Nat.reduceMul, Nat.reduceLeDiff, Nat.reduceEqDiff, reduceCtorEq, Nat.reduceSub, Int.reduceNeg, Nat.reduceMod, Nat.reduceBEq, Nat.reduceLT] <;> try simp only [qz] at hb))
   all_goals (try rw [tn])
   all_goals first | rfl | omega | (simp only [KU, hlen]; omega) | skip
   refine ⟨⟨i + 1, by omega⟩, by dsimp only; omega, ?_⟩
   simp -implicitDefEqProofs only [go_sem, Nat.reduceAdd, Nat.reduceMul, Nat.reduceLeDiff, Nat.reduceEqDiff, reduceCtorEq, Nat.reduceSub, Int.reduceNeg, Nat.reduceMod, Nat.reduceBEq, Nat.reduceLT]
   refine ⟨by simp, ?_⟩
   refine congrArg Ob.box ?_
   rw [GY]
   simp only [tn, Nat.mul_one]
   exact lY (by omega)
  ·have e1 : i = cs.size := by omega
   have e2 : List.drop 256 (bx (GY cs i)) = [] := List.drop_eq_nil_of_le (by rw [KU, hlen]; exact Nat.le_refl _)
   have e3 : decide (256 ≤ 256) = true := rfl
   simp -implicitDefEqProofs only [hlt, bT hlen, KU, hlen, e2, List.append_nil, Nat.zero_add, e3, cond_true, go_sem, Nat.reduceAdd, Nat.reduceMul, Nat.reduceLeDiff, Nat.reduceEqDiff, reduceCtorEq, Nat.reduceSub, Int.reduceNeg, Nat.reduceMod, Nat.reduceBEq, Nat.reduceLT]
   subst e1
   with_reducible repeat' (first | apply ai | intro _ | ((first | apply s1 | apply s3 | apply s4) <;> intro hb <;> simp -implicitDefEqProofs only [hb, go_sem, Nat.reduceAdd, Nat.reduceMul, Nat.reduceLeDiff, Nat.reduceEqDiff, reduceCtorEq, Nat.reduceSub, Int.reduceNeg, Nat.reduceMod, Nat.reduceBEq, Nat.reduceLT] <;> try simp only [qz] at hb))
   all_goals first
    | rfl
    | omega
    | exact SI
    | (rw [SH]; exact .nil)
    | (rw [SJ]; simp; done)
    | skip
   all_goals trace_state
end
def mH : Ct := Aq (lc Aw (lc Aw l0)) (fun p => p.2.1.size ≤ 1000 ∧ 2 ≤ p.2.1.size ∧ p.1.size ≤ 2000000 ∧ ∀ j, j < p.2.1.size → AC p.2.1 j < 128) (fun p => .t (.v (.string (OD (GY p.2.1 p.2.1.size) (Ju (GY p.2.1 p.2.1.size) p.1)))))
section
attribute [local go_sem] mR mS mT ZK SM SG Oi Of JN JO
theorem da {G : Gt} (hG : Ai G) (hh : G.e 180 = AA 0 mR ∧ G.e 181 = AA 0 mS ∧ G.e 182 = AA 0 mT) : Gd G 154 (AA 0 mH) := by
 refine gr (fn := Tryz.f154) (n := 2) rfl hG ?_
 rintro ⟨s, cs, ⟨⟩⟩ hpre
 simp -implicitDefEqProofs only [Tryz.f154, go_sem, hh, Nat.reduceAdd, Nat.reduceMul, Nat.reduceLeDiff, Nat.reduceEqDiff, reduceCtorEq, Nat.reduceSub, Int.reduceNeg, Nat.reduceMod, Nat.reduceBEq, Nat.reduceLT] at hpre ⊢
 have hc : ¬ cs = ⟨#[]⟩ := by intro e; rw [e] at hpre; exact absurd hpre.2.1 (by decide)
 have h1 : ¬ (cs.size : Int) = 1 := by omega
 have hlen := LJ cs cs.size
 have htr : (Ju (GY cs cs.size) s).size ≤ s.size := ZF _ s
 by_cases hs : s = ⟨#[]⟩
 ·simp -implicitDefEqProofs only [hs, go_sem, hh, Nat.reduceAdd, Nat.reduceMul, Nat.reduceLeDiff, Nat.reduceEqDiff, reduceCtorEq, Nat.reduceSub, Int.reduceNeg, Nat.reduceMod, Nat.reduceBEq, Nat.reduceLT]
  with_reducible repeat' (first | apply ai | intro _ | ((first | apply s1 | apply s3 | apply s4) <;> intro hb <;> simp -implicitDefEqProofs only [hb, go_sem, hh, Nat.reduceAdd, Nat.reduceMul, Nat.reduceLeDiff, Nat.reduceEqDiff, reduceCtorEq, Nat.reduceSub, Int.reduceNeg, Nat.reduceMod, Nat.reduceBEq, Nat.reduceLT] <;> try simp only [qz] at hb))
  all_goals first | rfl | omega | skip
  all_goals (rw [TP, TM])
 ·simp -implicitDefEqProofs only [hs, hc, h1, MD, Vl, Oj, KU, hlen, Of, Oi, SL, List.append_nil, List.nil_append, Nat.zero_add, go_sem, hh, Nat.reduceAdd, Nat.reduceMul, Nat.reduceLeDiff, Nat.reduceEqDiff, reduceCtorEq, Nat.reduceSub, Int.reduceNeg, Nat.reduceMod, Nat.reduceBEq, Nat.reduceLT]
  with_reducible repeat' (first | apply ai | intro _ | ((first | apply s1 | apply s3 | apply s4) <;> intro hb <;> simp -implicitDefEqProofs only [hb, go_sem, hh, Nat.reduceAdd, Nat.reduceMul, Nat.reduceLeDiff, Nat.reduceEqDiff, reduceCtorEq, Nat.reduceSub, Int.reduceNeg, Nat.reduceMod, Nat.reduceBEq, Nat.reduceLT] <;> try simp only [qz] at hb))
  all_goals first | rfl | omega | exact hpre.2.2.2 | exact hpre.2.2.2 _ (by assumption) | skip
  all_goals trace_state
end
theorem j1 {s : ByteArray} (h : s.size = 0) : s = ⟨#[]⟩ := by
 have : bl s = [] := List.eq_nil_of_length_eq_zero (by rw [CD]; exact h)
 exact FE this
theorem Gu {s : ByteArray} {a b j : Nat} (h : a + j < b) : AC (s.extract a b) j = AC s (a + j) := by
 rw [Bq, Bq, C3]
 congr 2
 simp only [List.getD_eq_getElem?_getD]
 rw [List.getElem?_take_of_lt (by omega), List.getElem?_drop]
section
variable {l : List Bool}
theorem ZG {s : ByteArray} (h : s.size ≠ 0) : Ju l s = bif l.getD (AC s (s.size - 1)).toNat false then Ju l (s.extract 0 (s.size - 1)) else s := by rw [Ju, dif_neg h]
theorem sV {s : ByteArray} (h : s.size ≠ 0) : OD l s = bif l.getD (AC s 0).toNat false then OD l (s.extract 1 s.size) else s := by rw [OD, dif_neg h]
theorem TN {s : ByteArray} (h : ∀ j, j < s.size → l.getD (AC s j).toNat false = true) : Ju l s = ⟨#[]⟩ := by
 by_cases h0 : s.size = 0
 ·rw [j1 h0, TP]
 ·rw [ZG h0, h (s.size - 1) (by omega), cond_true]
  refine TN fun j hj => ?_
  rw [ByteArray.size_extract] at hj
  rw [Gu (by omega), Nat.zero_add]
  exact h j (by omega)
termination_by s.size
decreasing_by rw [ByteArray.size_extract]; omega
theorem TL {s : ByteArray} (h : OD l s = ⟨#[]⟩) : ∀ j, j < s.size → l.getD (AC s j).toNat false = true := by
 intro j hj
 have h0 : s.size ≠ 0 := by omega
 rw [sV h0] at h
 cases hb : l.getD (AC s 0).toNat false
 ·rw [hb, cond_false] at h
  rw [h] at hj
  cases hj
 ·rw [hb, cond_true] at h
  by_cases hj0 : j = 0
  ·rw [hj0]; exact hb
  ·have := TL h (j - 1) (by rw [ByteArray.size_extract]; omega)
   rw [Gu (by omega)] at this
   rw [show 1 + (j - 1) = j by omega] at this
   exact this
termination_by s.size
decreasing_by rw [ByteArray.size_extract]; omega
theorem TO {s : ByteArray} (h : ∀ j, j < (Ju l s).size → l.getD (AC (Ju l s) j).toNat false = true) : ∀ j, j < s.size → l.getD (AC s j).toNat false = true := by
 intro j hj
 have h0 : s.size ≠ 0 := by omega
 rw [ZG h0] at h
 cases hb : l.getD (AC s (s.size - 1)).toNat false
 ·rw [hb, cond_false] at h
  exact h j hj
 ·rw [hb, cond_true] at h
  by_cases hj0 : j = s.size - 1
  ·rw [hj0]; exact hb
  ·have := TO h j (by rw [ByteArray.size_extract]; omega)
   rw [Gu (by omega), Nat.zero_add] at this
   exact this
termination_by s.size
decreasing_by rw [ByteArray.size_extract]; omega
theorem sW (s : ByteArray) : OD l (Ju l s) = ⟨#[]⟩ ↔ ∀ j, j < s.size → l.getD (AC s j).toNat false = true :=
 ⟨fun h => TO (TL h), fun h => by rw [TN h, TM]⟩
end
def sy : ByteArray := ⟨#[97, 98, 99, 100, 101, 102, 103, 104, 105, 106, 107, 108, 109, 110, 111, 112, 113, 114, 115, 116, 117, 118, 119, 120, 121, 122, 48, 49, 50, 51, 52, 53, 54, 55, 56, 57]⟩
theorem fa : ∀ k : Nat, k < 256 → (GY sy 36).getD k false = ((Nat.ble 97 k && Nat.ble k 122) || (Nat.ble 48 k && Nat.ble k 57)) := by decide +kernel
theorem fb (s : ByteArray) : OD (GY sy 36) (Ju (GY sy 36) s) = ⟨#[]⟩ ↔ ∀ j, j < s.size → Ko (AC s j) := by
 rw [sW]
 refine forall_congr' fun j => imp_congr_right fun _ => ?_
 have h := A8 s j
 rw [fa _ (by omega)]
 simp only [Bool.or_eq_true, Bool.and_eq_true, Nat.ble_eq]
 unfold Ko
 omega
theorem KR (a b : ByteArray) : bl (a ++ b) = bl a ++ bl b := by
 unfold bl; rw [ByteArray.data_append, Array.toList_append]
theorem W7 (s e : ByteArray) : P7 s e ↔ s = e ∨ ((⟨#[46]⟩ : ByteArray).size + e.size ≤ s.size ∧ s.extract (s.size - ((⟨#[46]⟩ : ByteArray).size + e.size)) s.size = ⟨#[46]⟩ ++ e) := by
 unfold P7
 refine or_congr_right ?_
 have h1 : (⟨#[46]⟩ : ByteArray).size = 1 := rfl
 rw [h1]
 by_cases hs : 1 + e.size ≤ s.size
 ·obtain ⟨n, hn⟩ : ∃ n, s.size - (1 + e.size) = n := ⟨_, rfl⟩
  have e1 : s.size - e.size = n + 1 := by omega
  have e2 : s.size - e.size - 1 = n := by omega
  rw [hn, e1, Nat.add_sub_cancel]
  have q : ∀ k, bl (s.extract k s.size) = (bl s).drop k := fun k => by
   rw [C3, List.take_of_length_le (by rw [List.length_drop, CD]; exact Nat.le_refl _)]
  have d := Ej (s := s) (i := n) (by omega)
  constructor
  ·rintro ⟨_, h2, h3⟩
   refine ⟨hs, FE ?_⟩
   rw [KR, q, d, ← h2, q]
   rw [Bq] at h3
   have : (bl s).getD n 0 = 46 := UInt8.toNat_inj.1 (by show ((bl s).getD n 0).toNat = 46; omega)
   rw [this]; rfl
  ·rintro ⟨_, h2⟩
   have h3 := congrArg bl h2
   rw [KR, q, d] at h3
   have h4 : (bl s).getD n 0 :: (bl s).drop (n + 1) = 46 :: bl e := h3
   injection h4 with h5 h6
   refine ⟨by omega, FE (by rw [q]; exact h6), ?_⟩
   rw [Bq, h5]; rfl
 ·constructor
  ·rintro ⟨h, _⟩; omega
  ·rintro ⟨h, _⟩; omega
theorem yC : UInt8.ofNat (AC ⟨#[46]⟩ 0).toNat = 46 := rfl
theorem fc : ∀ j, j < 36 → AC sy j < 128 := by decide +kernel
def mE : Ct := Aq (lc Aw (lc Aw l0)) (fun p => p.2.1.size = 1 ∧ p.1.size ≤ 2000000) (fun p => .o true 1 ((IZ p.1 (UInt8.ofNat (AC p.2.1 0).toNat)).map AH))
section
attribute [local go_sem] mQ
theorem dW {G : Gt} (hG : Ai G) (hh : G.e 177 = AA 0 mQ) : Gd G 150 (AA 0 mE) := by
 refine gr (fn := Tryz.f150) (n := 2) rfl hG ?_ (hs := fun _ _ => .deep _ _)
 rintro ⟨s, sep, ⟨⟩⟩ hpre
 simp -implicitDefEqProofs only [Tryz.f150, go_sem, hh, seval] at hpre ⊢
 with_reducible repeat' (first | apply ai | intro _ | ((first | apply s1 | apply s3 | apply s4) <;> intro hb <;> simp -implicitDefEqProofs only [hb, go_sem, hh, seval] <;> try simp only [qz] at hb))
 all_goals first | rfl | omega | (simp; done) | skip
end
def V3 : Ct := Aq (lc BA (lc BA (lc BA l0))) (fun p => True) (fun p => .t (.v (.bool (BV (p.2.1 ≤ p.1 ∧ p.1 ≤ p.2.2.1)))))
theorem pY {G : Gt} (hG : Ai G) : Gd G 27 (AA 0 V3) := by
 refine gr (fn := Tryz.f27) (n := 3) rfl hG ?_
 rintro ⟨n, a, b, ⟨⟩⟩ hpre
 simp -implicitDefEqProofs only [Tryz.f27, go_sem, seval] at hpre ⊢
 with_reducible repeat' (first | apply ai | intro _ | ((first | apply s1 | apply s3 | apply s4) <;> intro hb <;> simp -implicitDefEqProofs only [hb, go_sem, seval] <;> try simp only [qz] at hb))
 all_goals first | rfl | omega | skip
 all_goals first
  | (rw [BI]; simp only [*]; done)
  | (rw [BI]; simp [*])
def lh : Ct := Aq (lc Aw l0) (fun p => p.1.size ≤ 2000000) (fun p => .t (.v (.bool (BV (Ie p.1)))))
theorem cp {G : Gt} (hG : Ai G) : Gd G 105 (AA 0 lh) := by
 refine gr (fn := Tryz.f105) (n := 1) rfl hG ?_
 rintro ⟨s, ⟨⟩⟩ hpre
 simp -implicitDefEqProofs only [Tryz.f105, go_sem, seval] at hpre ⊢
 with_reducible repeat' (first | apply ai | intro _ | ((first | apply s1 | apply s3 | apply s4) <;> intro hb <;> simp -implicitDefEqProofs only [hb, go_sem, seval] <;> try simp only [qz] at hb))
 all_goals first | rfl | omega | skip
 refine AF [] (ι := {i : Nat // i ≤ s.size ∧ ∀ j, j < i → 32 ≤ AC s j ∧ AC s j ≤ 126}) (fun p => ⟨[(0, .t (.v (.string s))), (5, .t (.v (.int .i64 s.size))), (6, .t (.v (.int .i64 p.1)))], []⟩) (fun p => s.size - p.1) ⟨0, Nat.zero_le _, fun j hj => absurd hj (Nat.not_lt_zero _)⟩ rfl ?_ ?_
 ·simp -implicitDefEqProofs only [go_sem, seval]
  try simp
 ·rintro ⟨i, hi, hall⟩
  by_cases hlt : (i : Int) < s.size
  ·by_cases h1 : AC s (i : Int).toNat < 32
   ·simp -implicitDefEqProofs only [hlt, h1, go_sem, seval]
    with_reducible repeat' (first | apply ai | intro _ | ((first | apply s1 | apply s3 | apply s4) <;> intro hb <;> simp -implicitDefEqProofs only [hb, go_sem, seval] <;> try simp only [qz] at hb))
    all_goals (try simp only [maxLen, tn] at *)
    all_goals first | rfl | omega | skip
    rw [AN (fun h => by have := (h.1 i (by omega)).1; omega)]
   ·by_cases h2 : AC s (i : Int).toNat > 126
    ·simp -implicitDefEqProofs only [hlt, h1, h2, go_sem, seval]
     with_reducible repeat' (first | apply ai | intro _ | ((first | apply s1 | apply s3 | apply s4) <;> intro hb <;> simp -implicitDefEqProofs only [hb, go_sem, seval] <;> try simp only [qz] at hb))
     all_goals (try simp only [maxLen, tn] at *)
     all_goals first | rfl | omega | skip
     rw [AN (fun h => by have := (h.1 i (by omega)).2; omega)]
    ·simp -implicitDefEqProofs only [hlt, h1, h2, go_sem, seval]
     with_reducible repeat' (first | apply ai | intro _ | ((first | apply s1 | apply s3 | apply s4) <;> intro hb <;> simp -implicitDefEqProofs only [hb, go_sem, seval] <;> try simp only [qz] at hb))
     all_goals (try simp only [maxLen, tn] at *)
     all_goals first | rfl | omega | skip
     refine ⟨⟨i + 1, by omega, fun j hj => ?_⟩, by dsimp only; omega, ?_⟩
     ·by_cases e : j = i
      ·subst e; omega
      ·exact hall j (by omega)
     ·simp -implicitDefEqProofs only [go_sem, seval]
      try simp
  ·simp -implicitDefEqProofs only [hlt, go_sem, seval]
   with_reducible repeat' (first | apply ai | intro _ | ((first | apply s1 | apply s3 | apply s4) <;> intro hb <;> simp -implicitDefEqProofs only [hb, go_sem, seval] <;> try simp only [qz] at hb))
   all_goals (try simp only [maxLen, tn] at *)
   all_goals first | rfl | omega | skip
   rw [← BI, AW]
   exact ⟨fun h => ⟨fun j hj => hall j (by omega), by omega⟩, fun h => by have := h.2; omega⟩
def Vp : Ct := Aq (lc Aw l0) (fun p => True) (fun p => .t (.v (.bool (BV (Rs p.1)))))
section
attribute [local go_sem] V3 mH Ae Ac
theorem cq {G : Gt} (hG : Ai G) (hh : G.e 27 = AA 0 V3 ∧ G.e 154 = AA 0 mH) : Gd G 106 (AA 0 Vp) := by
 refine gr (fn := Tryz.f106) (n := 1) rfl hG ?_
 rintro ⟨s, ⟨⟩⟩ hpre
 simp -implicitDefEqProofs only [Tryz.f106, go_sem, hh, seval] at hpre ⊢
 with_reducible repeat' (first | apply ai | intro _ | ((first | apply s1 | apply s3 | apply s4) <;> intro hb <;> simp -implicitDefEqProofs only [hb, go_sem, hh, seval] <;> try simp only [qz] at hb))
 all_goals first | rfl | omega | exact fc _ (by assumption) | (simp; done) | skip
 ·show T.v (.bool (decide (OD (GY sy 36) (Ju (GY sy 36) s) = ⟨#[]⟩))) = _
  rw [← BI]
  refine congrArg (fun b => T.v (.bool b)) (AW ((fb s).trans ?_))
  exact ⟨fun h => ⟨h, by omega, by omega⟩, fun h => h.1⟩
 ·rw [AN (fun h => hb ⟨by have := h.2.1; omega, by have := h.2.2; omega⟩)]
end
def Tu : Ct := Aq (lc Aw l0) (fun p => p.1.size ≤ 2000000) (fun p => .t (.v (.bool (BV (DG p.1)))))
section
attribute [local go_sem] mE Vp yC BQ AZ lm Bool.not_true Bool.not_false
theorem qj {G : Gt} (hG : Ai G) (hh : G.e 150 = AA 0 mE ∧ G.e 106 = AA 0 Vp) : Gd G 98 (AA 0 Tu) := by
 refine gr (fn := Tryz.f98) (n := 1) rfl hG ?_
 rintro ⟨s, ⟨⟩⟩ hpre
 simp -implicitDefEqProofs only [Tryz.f98, go_sem, hh, seval] at hpre ⊢
 with_reducible repeat' (first | apply ai | intro _ | ((first | apply s1 | apply s3 | apply s4) <;> intro hb <;> simp -implicitDefEqProofs only [hb, go_sem, hh, seval] <;> try simp only [qz] at hb))
 all_goals first | rfl | omega | skip
 have hlen := GQ s 46
 have hcnt := V8 s 46
 refine AF [] (ι := {i : Nat // i ≤ (IZ s 46).length ∧ ∀ j, j < i → Rs ((IZ s 46).getD j default)}) (fun p => ⟨[(3, .h 1007), (8, .h 1007), (9, .t (.v (.int .i64 (IZ s 46).length))), (10, .t (.v (.int .i64 p.1)))], [(1007, some (.arr true 1 ((IZ s 46).map AH)))]⟩) (fun p => (IZ s 46).length - p.1) ⟨0, Nat.zero_le _, fun j hj => absurd hj (Nat.not_lt_zero _)⟩ rfl ?_ ?_
 ·simp -implicitDefEqProofs only [go_sem, hh, seval]
  try simp
 ·rintro ⟨i, hi, hall⟩
  by_cases hlt : (i : Int) < (IZ s 46).length
  ·cases hb : BV (Rs ((IZ s 46).getD (i : Int).toNat default))
   ·simp -implicitDefEqProofs only [hlt, hb, go_sem, hh, seval]
    with_reducible repeat' (first | apply ai | intro _ | ((first | apply s1 | apply s3 | apply s4) <;> intro hb <;> simp -implicitDefEqProofs only [hb, go_sem, hh, seval] <;> try simp only [qz] at hb))
    all_goals (try simp only [maxLen, tn, Ac] at *)
    all_goals first | rfl | omega | skip
    rw [AN (fun h => hb (((JT s).1 h).1 _ (AE (by omega))))]
   ·simp -implicitDefEqProofs only [hlt, hb, go_sem, hh, seval]
    with_reducible repeat' (first | apply ai | intro _ | ((first | apply s1 | apply s3 | apply s4) <;> intro hb <;> simp -implicitDefEqProofs only [hb, go_sem, hh, seval] <;> try simp only [qz] at hb))
    all_goals (try simp only [maxLen, tn, Ae] at *)
    all_goals first | rfl | omega | skip
    refine ⟨⟨i + 1, by omega, DL hall hb⟩, by dsimp only; omega, ?_⟩
    simp -implicitDefEqProofs only [go_sem, hh, seval]
    try simp
  ·simp -implicitDefEqProofs only [hlt, go_sem, hh, seval]
   with_reducible repeat' (first | apply ai | intro _ | ((first | apply s1 | apply s3 | apply s4) <;> intro hb <;> simp -implicitDefEqProofs only [hb, go_sem, hh, seval] <;> try simp only [qz] at hb))
   all_goals first | rfl | omega | skip
   rw [← BI, AW (JT s)]
   refine congrArg (fun b => T.v (.bool b)) (AW ?_)
   exact ⟨fun h => ⟨BX fun j hj => hall j (by omega), by omega⟩, fun h => by have := h.2; omega⟩
end
def bZ : Ct := Aq (lc DH.ag l0) (fun p => p.1.domain.size ≤ 2000000) (fun p => .t (.v (.bool (BV (Bb p.1)))))
section
attribute [local go_sem] Vp Tu
theorem px {G : Gt} (hG : Ai G) (hh : G.e 106 = AA 0 Vp ∧ G.e 98 = AA 0 Tu) : Gd G 47 (AA 0 bZ) := by
 refine gr (fn := Tryz.f47) (n := 1) rfl hG ?_
 rintro ⟨a, ⟨⟩⟩ hpre
 simp -implicitDefEqProofs only [Tryz.f47, go_sem, hh, seval] at hpre ⊢
 with_reducible repeat' (first | apply ai | intro _ | ((first | apply s1 | apply s3 | apply s4) <;> intro hb <;> simp -implicitDefEqProofs only [hb, go_sem, hh, seval] <;> try simp only [qz] at hb))
 all_goals (try simp only [Ae, Ac] at *)
 all_goals first | rfl | omega | skip
 ·refine congrArg (fun b => T.v (.bool b)) (AW ⟨fun h => ⟨by assumption, h⟩, fun h => h.2⟩)
 ·rw [AN (fun h => absurd h.1 (by assumption))]
end
def Vo : Ct := Aq (lc DH.ag l0) (fun p => True) (fun p => .t (.v (.bool (BV (Ab p.1)))))
theorem cn {G : Gt} (hG : Ai G) : Gd G 103 (AA 0 Vo) := by
 refine gr (fn := Tryz.f103) (n := 1) rfl hG ?_
 rintro ⟨a, ⟨⟩⟩ hpre
 simp -implicitDefEqProofs only [Tryz.f103, go_sem, seval] at hpre ⊢
 with_reducible repeat' (first | apply ai | intro _ | ((first | apply s1 | apply s3 | apply s4) <;> intro hb <;> simp -implicitDefEqProofs only [hb, go_sem, seval] <;> try simp only [qz] at hb))
 all_goals first | rfl | omega | skip
 ·unfold Ab
  rw [BI]
  by_cases h1 : a.user = ⟨#[]⟩ <;> by_cases h2 : a.domain = ⟨#[]⟩ <;> simp [h1, h2]
def su : Ct := Aq (lc DH.ag l0) (fun p => p.1.domain.size ≤ 2000000) (fun p => .t (.v (.bool (BV (Bb p.1 ∨ Ab p.1)))))
section
attribute [local go_sem] bZ Vo
theorem pu {G : Gt} (hG : Ai G) (hh : G.e 47 = AA 0 bZ ∧ G.e 103 = AA 0 Vo) : Gd G 45 (AA 0 su) := by
 refine gr (fn := Tryz.f45) (n := 1) rfl hG ?_
 rintro ⟨a, ⟨⟩⟩ hpre
 simp -implicitDefEqProofs only [Tryz.f45, go_sem, hh, seval] at hpre ⊢
 with_reducible repeat' (first | apply ai | intro _ | ((first | apply s1 | apply s3 | apply s4) <;> intro hb <;> simp -implicitDefEqProofs only [hb, go_sem, hh, seval] <;> try simp only [qz] at hb))
 all_goals (try simp only [Ae, Ac] at *)
 all_goals first | rfl | omega | skip
 ·rw [Ap (.inr (by assumption))]
 ·refine congrArg (fun b => T.v (.bool b)) (AW ⟨fun h => .inl h, fun h => h.resolve_right (by assumption)⟩)
end
def mO : Ct := Aq (lc Aw (lc Aw l0)) (fun p => p.1.size ≤ 2000000 ∧ p.2.1.size ≤ 1500000) (fun p => .t (.v (.bool (BV (DG p.1 ∧ DG p.2.1 ∧ P7 p.1 p.2.1)))))
section
attribute [local go_sem] Tu mW
theorem dt {G : Gt} (hG : Ai G) (hh : G.e 98 = AA 0 Tu ∧ G.e 194 = AA 0 mW) : Gd G 168 (AA 0 mO) := by
 refine gr (fn := Tryz.f168) (n := 2) rfl hG ?_
 rintro ⟨s, e, ⟨⟩⟩ hpre
 simp -implicitDefEqProofs only [Tryz.f168, go_sem, hh, seval] at hpre ⊢
 with_reducible repeat' (first | apply ai | intro _ | ((first | apply s1 | apply s3 | apply s4) <;> intro hb <;> simp -implicitDefEqProofs only [hb, go_sem, hh, seval] <;> try simp only [qz] at hb))
 all_goals (try simp only [Ae, Ac] at *)
 all_goals first | rfl | omega | skip
 all_goals (try rw [W7])
 ·rw [Ap ⟨by assumption, by assumption, .inl (by assumption)⟩]
 ·show 1 + e.size ≤ maxLen
  rw [maxLen]; omega
 ·show 1 + e.size ≤ _
  omega
 ·refine congrArg (fun b => T.v (.bool b)) (AW ⟨fun h => ⟨by assumption, by assumption, .inr h⟩, fun h => h.2.2.resolve_left (by assumption)⟩)
 ·rw [AN (fun h => absurd h.2.1 (by assumption))]
 ·rw [AN (fun h => absurd h.1 (by assumption))]
end
namespace Ew
variable {α : Type} (E : Ew α)
def apD : AV → Option α
 | .t (.rop c) => E.dec c
 | _ => none
def ap : AD α where
 enc a := .t (.rop (E.enc a))
 dec := E.apD
 ed := fun a => E.ed a
 de := fun x a h => by
  unfold apD at h
  split at h
  ·rw [E.de _ _ h]
  ·cases h
end Ew
theorem BO {α : Type} {E : Ew α} {a : α} : E.ap.enc a = .t (.rop (E.enc a)) := rfl
theorem BN {α : Type} {E : Ew α} {c : List T} : E.ap.dec (.t (.rop c)) = E.dec c := rfl
theorem An {f : FuncId} : (kJ f).dec (.t (.fn f [])) = some () := if_pos rfl
theorem Ao {f : FuncId} {u : Unit} : (kJ f).enc u = .t (.fn f []) := rfl
noncomputable def BB {α : Type} (p : α → Prop) : Nat → List α → Int
 | _, [] => -1
 | k, x :: t => bif BV (p x) then k else BB p (k + 1) t
theorem Cv {α : Type} [Inhabited α] {p : α → Prop} {xs : List α} {i : Nat} (h : i < xs.length) (ha : p (xs.getD i default)) : BB p i (xs.drop i) = i := by
 rw [AX h, BB, Ap ha]; rfl
theorem Dx {α : Type} [Inhabited α] {p : α → Prop} {xs : List α} {i : Nat} (h : i < xs.length) (ha : ¬ p (xs.getD i default)) : BB p i (xs.drop i) = BB p (i + 1) (xs.drop (i + 1)) := by
 rw [AX h, BB, AN ha]; rfl
theorem Cu {α : Type} {p : α → Prop} {xs : List α} {i : Nat} (h : xs.length ≤ i) : BB p i (xs.drop i) = -1 := by
 rw [List.drop_eq_nil_of_le h, BB]
theorem FJ {α : Type} {p : α → Prop} : ∀ (xs : List α) (k : Nat), 0 ≤ BB p k xs ↔ ∃ x ∈ xs, p x
 | [], k => by simp [BB]
 | x :: t, k => by
   rw [BB]
   by_cases h : p x
   ·rw [Ap h, cond_true]
    exact ⟨fun _ => ⟨x, by simp, h⟩, fun _ => by omega⟩
   ·rw [AN h, cond_false, FJ t (k + 1)]
    simp [h]
section
attribute [local go_sem] bZ BO BN An Ao Bool.not_true Bool.not_false Bz DQ
end
section
attribute [local go_sem] BO BN An Ao Bool.not_true Bool.not_false Bz DQ
end
section
attribute [local go_sem] BO BN An Ao Bool.not_true Bool.not_false Bz DQ
end
inductive D7 where
 | line
 | dom
def D7.enc : D7 → AV
 | .line  => .t (.fn 104 [])
 | .dom  => .t (.fn 97 [])
def D7.dec : AV → Option D7
 | .t (.fn 104 []) => some (.line )
 | .t (.fn 97 []) => some (.dom )
 | _ => none
def D7.sem : D7 → ByteArray → Prop
 | .line , x => ¬ Ie x
 | .dom , x => ¬ DG x
def D7.pre : D7 → ByteArray → Prop
 | .line , x => x.size ≤ 2000000
 | .dom , x => x.size ≤ 2000000
def Lx : AD D7 where
 enc := D7.enc
 dec := D7.dec
 ed := fun f => by cases f <;> rfl
 de := fun x f h => by
  unfold D7.dec at h
  split at h <;> cases h <;> rfl
theorem DB  : Lx.dec (.t (.fn 104 [])) = some (.line ) := rfl
theorem DD  : Lx.enc (.line ) = .t (.fn 104 []) := rfl
theorem DC  : Lx.dec (.t (.fn 97 [])) = some (.dom ) := rfl
theorem DE  : Lx.enc (.dom ) = .t (.fn 97 []) := rfl
def ld : Ct := Aq (lc Aw l0) (fun p => p.1.size ≤ 2000000) (fun p => .t (.v (.bool (BV (¬ Ie p.1)))))
section
attribute [local go_sem] lh BO BN An Ao Bool.not_true Bool.not_false Bz DQ
theorem co {G : Gt} (hG : Ai G) (hh : G.e 105 = AA 0 lh) : Gd G 104 (AA 0 ld) := by
 refine gr (fn := Tryz.f104) (n := 1) rfl hG ?_
 rintro ⟨x, ⟨⟩⟩ hpre
 simp -implicitDefEqProofs only [Tryz.f104, go_sem, hh, seval] at hpre ⊢
 with_reducible repeat' (first | apply ai | intro _ | ((first | apply s1 | apply s3 | apply s4) <;> intro hb <;> simp -implicitDefEqProofs only [hb, go_sem, hh, seval] <;> try simp only [qz] at hb))
 all_goals first | rfl | omega | exact hpre | skip
 all_goals (try (simp only [FC]; done))
 all_goals first | rfl | (rw [BI]; done) | (rw [BI, decide_eq_decide.2]; simp [Bj]; done) | (rw [BI]; simp [Bj]; done)
end
def xz : Ct := Aq (lc Aw l0) (fun p => p.1.size ≤ 2000000) (fun p => .t (.v (.bool (BV (¬ DG p.1)))))
section
attribute [local go_sem] Tu BO BN An Ao Bool.not_true Bool.not_false Bz DQ
theorem qi {G : Gt} (hG : Ai G) (hh : G.e 98 = AA 0 Tu) : Gd G 97 (AA 0 xz) := by
 refine gr (fn := Tryz.f97) (n := 1) rfl hG ?_
 rintro ⟨x, ⟨⟩⟩ hpre
 simp -implicitDefEqProofs only [Tryz.f97, go_sem, hh, seval] at hpre ⊢
 with_reducible repeat' (first | apply ai | intro _ | ((first | apply s1 | apply s3 | apply s4) <;> intro hb <;> simp -implicitDefEqProofs only [hb, go_sem, hh, seval] <;> try simp only [qz] at hb))
 all_goals first | rfl | omega | exact hpre | skip
 all_goals (try (simp only [FC]; done))
 all_goals first | rfl | (rw [BI]; done) | (rw [BI, decide_eq_decide.2]; simp [Bj]; done) | (rw [BI]; simp [Bj]; done)
end
def mF : Ct := Aq (lc Ah.asl (lc Lx l0)) (fun p => ∀ x ∈ p.1, p.2.1.pre x) (fun p => .t (.v (.int .i64 (BB p.2.1.sem 0 p.1))))
section
attribute [local go_sem] ld xz BO BN An Ao Bool.not_true Bool.not_false Bz DQ DB DD DC DE
theorem dX {G : Gt} (hG : Ai G) (hh : G.e 104 = AA 0 ld ∧ G.e 97 = AA 0 xz) : Gd G 151 (AA 0 mF) := by
 refine gr (fn := Tryz.f151) (n := 2) rfl hG ?_
 rintro ⟨xs, f, ⟨⟩⟩ hpre
 have hs := hpre
 dsimp only at hs ⊢
 cases f with
 | line  =>
   simp -implicitDefEqProofs only [Tryz.f151, go_sem, hh, seval]
   with_reducible repeat' (first | apply ai | intro _ | ((first | apply s1 | apply s3 | apply s4) <;> intro hb <;> simp -implicitDefEqProofs only [hb, go_sem, hh, seval] <;> try simp only [qz] at hb))
   all_goals first | rfl | omega | skip
   refine AF [] (ι := {i : Nat // i ≤ xs.length ∧ BB (D7.sem (.line )) 0 xs = BB (D7.sem (.line )) i (xs.drop i)}) (fun p => ⟨[(0, .t (.sl 1 (xs.map AH))), (1, .t (.fn 104 [])), (7, .t (.v (.int .i64 xs.length))), (8, .t (.v (.int .i64 p.1)))], []⟩) (fun p => xs.length - p.1) ⟨0, Nat.zero_le _, rfl⟩ rfl ?_ ?_
   ·simp -implicitDefEqProofs only [go_sem, hh, seval]
    try simp
   ·rintro ⟨i, hi, hix⟩
    by_cases hlt : (i : Int) < xs.length
    ·have hm : xs.getD (i : Int).toNat default ∈ xs := AE (by omega)
     have hsz := hs _ hm
     cases hb : BV (¬ Ie (xs.getD (i : Int).toNat default))
     ·have hq := hb
      simp -implicitDefEqProofs only [hlt, hq, go_sem, hh, seval]
      with_reducible repeat' (first | apply ai | intro _ | ((first | apply s1 | apply s3 | apply s4) <;> intro hb <;> simp -implicitDefEqProofs only [hb, go_sem, hh, seval] <;> try simp only [qz] at hb))
      all_goals (try simp only [maxLen] at *)
      all_goals first | rfl | omega | with_reducible assumption | exact hsz | exact hsz.1 | exact hsz.2 | exact hsz.2 _ (by assumption) | exact hsz.2.1 | exact hsz.2.2.1 | exact hsz.2.2.2 | trivial | skip
      rw [Ac, tn] at hb
      refine ⟨⟨i + 1, by omega, ?_⟩, by dsimp only; omega, ?_⟩
      ·rw [hix, Dx (p := D7.sem (.line )) (by omega) hb]
      ·simp -implicitDefEqProofs only [go_sem, hh, seval]
       try simp
     ·have hq := hb
      simp -implicitDefEqProofs only [hlt, hq, go_sem, hh, seval]
      with_reducible repeat' (first | apply ai | intro _ | ((first | apply s1 | apply s3 | apply s4) <;> intro hb <;> simp -implicitDefEqProofs only [hb, go_sem, hh, seval] <;> try simp only [qz] at hb))
      all_goals (try simp only [maxLen] at *)
      all_goals first | rfl | omega | with_reducible assumption | exact hsz | exact hsz.1 | exact hsz.2 | exact hsz.2 _ (by assumption) | exact hsz.2.1 | exact hsz.2.2.1 | exact hsz.2.2.2 | trivial | skip
      rw [Ae, tn] at hb
      rw [hix, Cv (p := D7.sem (.line )) (by omega) hb]
    ·simp -implicitDefEqProofs only [hlt, go_sem, hh, seval]
     with_reducible repeat' (first | apply ai | intro _ | ((first | apply s1 | apply s3 | apply s4) <;> intro hb <;> simp -implicitDefEqProofs only [hb, go_sem, hh, seval] <;> try simp only [qz] at hb))
     all_goals first | rfl | omega | skip
     all_goals (rw [hix, Cu (by omega)])
 | dom  =>
   simp -implicitDefEqProofs only [Tryz.f151, go_sem, hh, seval]
   with_reducible repeat' (first | apply ai | intro _ | ((first | apply s1 | apply s3 | apply s4) <;> intro hb <;> simp -implicitDefEqProofs only [hb, go_sem, hh, seval] <;> try simp only [qz] at hb))
   all_goals first | rfl | omega | skip
   refine AF [] (ι := {i : Nat // i ≤ xs.length ∧ BB (D7.sem (.dom )) 0 xs = BB (D7.sem (.dom )) i (xs.drop i)}) (fun p => ⟨[(0, .t (.sl 1 (xs.map AH))), (1, .t (.fn 97 [])), (7, .t (.v (.int .i64 xs.length))), (8, .t (.v (.int .i64 p.1)))], []⟩) (fun p => xs.length - p.1) ⟨0, Nat.zero_le _, rfl⟩ rfl ?_ ?_
   ·simp -implicitDefEqProofs only [go_sem, hh, seval]
    try simp
   ·rintro ⟨i, hi, hix⟩
    by_cases hlt : (i : Int) < xs.length
    ·have hm : xs.getD (i : Int).toNat default ∈ xs := AE (by omega)
     have hsz := hs _ hm
     cases hb : BV (¬ DG (xs.getD (i : Int).toNat default))
     ·have hq := hb
      simp -implicitDefEqProofs only [hlt, hq, go_sem, hh, seval]
      with_reducible repeat' (first | apply ai | intro _ | ((first | apply s1 | apply s3 | apply s4) <;> intro hb <;> simp -implicitDefEqProofs only [hb, go_sem, hh, seval] <;> try simp only [qz] at hb))
      all_goals (try simp only [maxLen] at *)
      all_goals first | rfl | omega | with_reducible assumption | exact hsz | exact hsz.1 | exact hsz.2 | exact hsz.2 _ (by assumption) | exact hsz.2.1 | exact hsz.2.2.1 | exact hsz.2.2.2 | trivial | skip
      rw [Ac, tn] at hb
      refine ⟨⟨i + 1, by omega, ?_⟩, by dsimp only; omega, ?_⟩
      ·rw [hix, Dx (p := D7.sem (.dom )) (by omega) hb]
      ·simp -implicitDefEqProofs only [go_sem, hh, seval]
       try simp
     ·have hq := hb
      simp -implicitDefEqProofs only [hlt, hq, go_sem, hh, seval]
      with_reducible repeat' (first | apply ai | intro _ | ((first | apply s1 | apply s3 | apply s4) <;> intro hb <;> simp -implicitDefEqProofs only [hb, go_sem, hh, seval] <;> try simp only [qz] at hb))
      all_goals (try simp only [maxLen] at *)
      all_goals first | rfl | omega | with_reducible assumption | exact hsz | exact hsz.1 | exact hsz.2 | exact hsz.2 _ (by assumption) | exact hsz.2.1 | exact hsz.2.2.1 | exact hsz.2.2.2 | trivial | skip
      rw [Ae, tn] at hb
      rw [hix, Cv (p := D7.sem (.dom )) (by omega) hb]
    ·simp -implicitDefEqProofs only [hlt, go_sem, hh, seval]
     with_reducible repeat' (first | apply ai | intro _ | ((first | apply s1 | apply s3 | apply s4) <;> intro hb <;> simp -implicitDefEqProofs only [hb, go_sem, hh, seval] <;> try simp only [qz] at hb))
     all_goals first | rfl | omega | skip
     all_goals (rw [hix, Cu (by omega)])
end
def Vn : Ct := Aq (lc Ah.asl (lc Lx l0)) (fun p => ∀ x ∈ p.1, p.2.1.pre x) (fun p => .t (.v (.bool (BV (∃ x ∈ p.1, p.2.1.sem x)))))
section
attribute [local go_sem] mF BO BN An Ao Bool.not_true Bool.not_false Bz DQ DB DD DC DE
theorem cj {G : Gt} (hG : Ai G) (hh : G.e 151 = AA 0 mF) : Gd G 100 (AA 0 Vn) := by
 refine gr (fn := Tryz.f100) (n := 2) rfl hG ?_
 rintro ⟨xs, f, ⟨⟩⟩ hpre
 dsimp only at hpre ⊢
 cases f
 all_goals
  simp -implicitDefEqProofs only [Tryz.f100, go_sem, hh, seval]
  with_reducible repeat' (first | apply ai | intro _ | ((first | apply s1 | apply s3 | apply s4) <;> intro hb <;> simp -implicitDefEqProofs only [hb, go_sem, hh, seval] <;> try simp only [qz] at hb))
  all_goals first | rfl | omega | exact hpre | exact hpre _ (by assumption) | skip
  all_goals (rw [← AW (FJ _ 0)]; rw [BI])
end
inductive LZ where
 | num (n : Int)
 | part (n : Int)
def LZ.enc : LZ → AV
 | .num n => .t (.fn 77 [.rop [.v (.int .i64 n)]])
 | .part n => .t (.fn 128 [.rop [.v (.int .i64 n)]])
def LZ.dec : AV → Option LZ
 | .t (.fn 77 [.rop [.v (.int .i64 n)]]) => some (.num n)
 | .t (.fn 128 [.rop [.v (.int .i64 n)]]) => some (.part n)
 | _ => none
def LZ.sem : LZ → Im → Prop
 | .num n, x => x.id = n
 | .part n, x => x.id = n
def LZ.pre : LZ → Im → Prop
 | .num _, x => True
 | .part _, x => True
def P1 : AD LZ where
 enc := LZ.enc
 dec := LZ.dec
 ed := fun f => by cases f <;> rfl
 de := fun x f h => by
  unfold LZ.dec at h
  split at h <;> cases h <;> rfl
theorem Mg {n : Int} : P1.dec (.t (.fn 77 [.rop [.v (.int .i64 n)]])) = some (.num n) := rfl
theorem Mi {n : Int} : P1.enc (.num n) = .t (.fn 77 [.rop [.v (.int .i64 n)]]) := rfl
theorem Mh {n : Int} : P1.dec (.t (.fn 128 [.rop [.v (.int .i64 n)]])) = some (.part n) := rfl
theorem Mj {n : Int} : P1.enc (.part n) = .t (.fn 128 [.rop [.v (.int .i64 n)]]) := rfl
def xn : Ct := Aq (lc Ey.ag (lc Da.ap l0)) (fun p => True) (fun p => .t (.v (.bool (BV (p.1.id = p.2.1)))))
section
attribute [local go_sem] BO BN An Ao Bool.not_true Bool.not_false Bz DQ
theorem qK {G : Gt} (hG : Ai G) : Gd G 77 (AA 0 xn) := by
 refine gr (fn := Tryz.f77) (n := 2) rfl hG ?_
 rintro ⟨x, n, ⟨⟩⟩ hpre
 simp -implicitDefEqProofs only [Tryz.f77, go_sem, seval] at hpre ⊢
 with_reducible repeat' (first | apply ai | intro _ | ((first | apply s1 | apply s3 | apply s4) <;> intro hb <;> simp -implicitDefEqProofs only [hb, go_sem, seval] <;> try simp only [qz] at hb))
 all_goals first | rfl | omega | exact hpre | skip
 all_goals (try (simp only [FC]; done))
 all_goals first | rfl | (rw [BI]; done) | (rw [BI, decide_eq_decide.2]; simp [Bj]; done) | (rw [BI]; simp [Bj]; done)
end
def lx : Ct := Aq (lc Ey.ag (lc Da.ap l0)) (fun p => True) (fun p => .t (.v (.bool (BV (p.1.id = p.2.1)))))
section
attribute [local go_sem] BO BN An Ao Bool.not_true Bool.not_false Bz DQ
theorem dD {G : Gt} (hG : Ai G) : Gd G 128 (AA 0 lx) := by
 refine gr (fn := Tryz.f128) (n := 2) rfl hG ?_
 rintro ⟨x, n, ⟨⟩⟩ hpre
 simp -implicitDefEqProofs only [Tryz.f128, go_sem, seval] at hpre ⊢
 with_reducible repeat' (first | apply ai | intro _ | ((first | apply s1 | apply s3 | apply s4) <;> intro hb <;> simp -implicitDefEqProofs only [hb, go_sem, seval] <;> try simp only [qz] at hb))
 all_goals first | rfl | omega | exact hpre | skip
 all_goals (try (simp only [FC]; done))
 all_goals first | rfl | (rw [BI]; done) | (rw [BI, decide_eq_decide.2]; simp [Bj]; done) | (rw [BI]; simp [Bj]; done)
end
def tu : Ct := Aq (lc Ey.asl (lc P1 l0)) (fun p => ∀ x ∈ p.1, p.2.1.pre x) (fun p => .t (.v (.int .i64 (BB p.2.1.sem 0 p.1))))
section
attribute [local go_sem] xn lx BO BN An Ao Bool.not_true Bool.not_false Bz DQ Mg Mi Mh Mj
theorem qJ {G : Gt} (hG : Ai G) (hh : G.e 77 = AA 0 xn ∧ G.e 128 = AA 0 lx) : Gd G 76 (AA 0 tu) := by
 refine gr (fn := Tryz.f76) (n := 2) rfl hG ?_
 rintro ⟨xs, f, ⟨⟩⟩ hpre
 have hs := hpre
 dsimp only at hs ⊢
 cases f with
 | num n =>
   simp -implicitDefEqProofs only [Tryz.f76, go_sem, hh, seval]
   with_reducible repeat' (first | apply ai | intro _ | ((first | apply s1 | apply s3 | apply s4) <;> intro hb <;> simp -implicitDefEqProofs only [hb, go_sem, hh, seval] <;> try simp only [qz] at hb))
   all_goals first | rfl | omega | skip
   refine AF [] (ι := {i : Nat // i ≤ xs.length ∧ BB (LZ.sem (.num n)) 0 xs = BB (LZ.sem (.num n)) i (xs.drop i)}) (fun p => ⟨[(0, .t (.sl 5 (xs.map Ag))), (1, P1.enc (.num n)), (7, .t (.v (.int .i64 xs.length))), (8, .t (.v (.int .i64 p.1)))], []⟩) (fun p => xs.length - p.1) ⟨0, Nat.zero_le _, rfl⟩ rfl ?_ ?_
   ·simp -implicitDefEqProofs only [go_sem, hh, seval]
    try simp
   ·rintro ⟨i, hi, hix⟩
    by_cases hlt : (i : Int) < xs.length
    ·have hm : xs.getD (i : Int).toNat default ∈ xs := AE (by omega)
     have hsz := hs _ hm
     cases hb : BV ((xs.getD (i : Int).toNat default).id = n)
     ·have hq := hb
      simp -implicitDefEqProofs only [hlt, hq, go_sem, hh, seval]
      with_reducible repeat' (first | apply ai | intro _ | ((first | apply s1 | apply s3 | apply s4) <;> intro hb <;> simp -implicitDefEqProofs only [hb, go_sem, hh, seval] <;> try simp only [qz] at hb))
      all_goals (try simp only [maxLen] at *)
      all_goals first | rfl | omega | with_reducible assumption | exact hsz | exact hsz.1 | exact hsz.2 | exact hsz.2 _ (by assumption) | exact hsz.2.1 | exact hsz.2.2.1 | exact hsz.2.2.2 | trivial | skip
      rw [Ac, tn] at hb
      refine ⟨⟨i + 1, by omega, ?_⟩, by dsimp only; omega, ?_⟩
      ·rw [hix, Dx (p := LZ.sem (.num n)) (by omega) hb]
      ·simp -implicitDefEqProofs only [go_sem, hh, seval]
       try simp
     ·have hq := hb
      simp -implicitDefEqProofs only [hlt, hq, go_sem, hh, seval]
      with_reducible repeat' (first | apply ai | intro _ | ((first | apply s1 | apply s3 | apply s4) <;> intro hb <;> simp -implicitDefEqProofs only [hb, go_sem, hh, seval] <;> try simp only [qz] at hb))
      all_goals (try simp only [maxLen] at *)
      all_goals first | rfl | omega | with_reducible assumption | exact hsz | exact hsz.1 | exact hsz.2 | exact hsz.2 _ (by assumption) | exact hsz.2.1 | exact hsz.2.2.1 | exact hsz.2.2.2 | trivial | skip
      rw [Ae, tn] at hb
      rw [hix, Cv (p := LZ.sem (.num n)) (by omega) hb]
    ·simp -implicitDefEqProofs only [hlt, go_sem, hh, seval]
     with_reducible repeat' (first | apply ai | intro _ | ((first | apply s1 | apply s3 | apply s4) <;> intro hb <;> simp -implicitDefEqProofs only [hb, go_sem, hh, seval] <;> try simp only [qz] at hb))
     all_goals first | rfl | omega | skip
     all_goals (rw [hix, Cu (by omega)])
 | part n =>
   simp -implicitDefEqProofs only [Tryz.f76, go_sem, hh, seval]
   with_reducible repeat' (first | apply ai | intro _ | ((first | apply s1 | apply s3 | apply s4) <;> intro hb <;> simp -implicitDefEqProofs only [hb, go_sem, hh, seval] <;> try simp only [qz] at hb))
   all_goals first | rfl | omega | skip
   refine AF [] (ι := {i : Nat // i ≤ xs.length ∧ BB (LZ.sem (.part n)) 0 xs = BB (LZ.sem (.part n)) i (xs.drop i)}) (fun p => ⟨[(0, .t (.sl 5 (xs.map Ag))), (1, P1.enc (.part n)), (7, .t (.v (.int .i64 xs.length))), (8, .t (.v (.int .i64 p.1)))], []⟩) (fun p => xs.length - p.1) ⟨0, Nat.zero_le _, rfl⟩ rfl ?_ ?_
   ·simp -implicitDefEqProofs only [go_sem, hh, seval]
    try simp
   ·rintro ⟨i, hi, hix⟩
    by_cases hlt : (i : Int) < xs.length
    ·have hm : xs.getD (i : Int).toNat default ∈ xs := AE (by omega)
     have hsz := hs _ hm
     cases hb : BV ((xs.getD (i : Int).toNat default).id = n)
     ·have hq := hb
      simp -implicitDefEqProofs only [hlt, hq, go_sem, hh, seval]
      with_reducible repeat' (first | apply ai | intro _ | ((first | apply s1 | apply s3 | apply s4) <;> intro hb <;> simp -implicitDefEqProofs only [hb, go_sem, hh, seval] <;> try simp only [qz] at hb))
      all_goals (try simp only [maxLen] at *)
      all_goals first | rfl | omega | with_reducible assumption | exact hsz | exact hsz.1 | exact hsz.2 | exact hsz.2 _ (by assumption) | exact hsz.2.1 | exact hsz.2.2.1 | exact hsz.2.2.2 | trivial | skip
      rw [Ac, tn] at hb
      refine ⟨⟨i + 1, by omega, ?_⟩, by dsimp only; omega, ?_⟩
      ·rw [hix, Dx (p := LZ.sem (.part n)) (by omega) hb]
      ·simp -implicitDefEqProofs only [go_sem, hh, seval]
       try simp
     ·have hq := hb
      simp -implicitDefEqProofs only [hlt, hq, go_sem, hh, seval]
      with_reducible repeat' (first | apply ai | intro _ | ((first | apply s1 | apply s3 | apply s4) <;> intro hb <;> simp -implicitDefEqProofs only [hb, go_sem, hh, seval] <;> try simp only [qz] at hb))
      all_goals (try simp only [maxLen] at *)
      all_goals first | rfl | omega | with_reducible assumption | exact hsz | exact hsz.1 | exact hsz.2 | exact hsz.2 _ (by assumption) | exact hsz.2.1 | exact hsz.2.2.1 | exact hsz.2.2.2 | trivial | skip
      rw [Ae, tn] at hb
      rw [hix, Cv (p := LZ.sem (.part n)) (by omega) hb]
    ·simp -implicitDefEqProofs only [hlt, go_sem, hh, seval]
     with_reducible repeat' (first | apply ai | intro _ | ((first | apply s1 | apply s3 | apply s4) <;> intro hb <;> simp -implicitDefEqProofs only [hb, go_sem, hh, seval] <;> try simp only [qz] at hb))
     all_goals first | rfl | omega | skip
     all_goals (rw [hix, Cu (by omega)])
end
inductive OJ where
 | who (b : Ad)
def OJ.enc : OJ → AV
 | .who b => .t (.fn 79 [.rop [.v (.string b.user), .v (.string b.domain)]])
def OJ.dec : AV → Option OJ
 | .t (.fn 79 [.rop [.v (.string b0), .v (.string b1)]]) => some (.who ⟨b0, b1⟩)
 | _ => none
def OJ.sem : OJ → Rc → Prop
 | .who b, x => x.addr = b
def OJ.pre : OJ → Rc → Prop
 | .who _, x => True
def ZV : AD OJ where
 enc := OJ.enc
 dec := OJ.dec
 ed := fun f => by cases f <;> rfl
 de := fun x f h => by
  unfold OJ.dec at h
  split at h <;> cases h <;> rfl
theorem Rk {b0 : ByteArray} {b1 : ByteArray} : ZV.dec (.t (.fn 79 [.rop [.v (.string b0), .v (.string b1)]])) = some (.who ⟨b0, b1⟩) := rfl
theorem Rl {b : Ad} : ZV.enc (.who b) = .t (.fn 79 [.rop [.v (.string b.user), .v (.string b.domain)]]) := rfl
def xq : Ct := Aq (lc Pw.ag (lc DH.ap l0)) (fun p => True) (fun p => .t (.v (.bool (BV (p.1.addr = p.2.1)))))
section
attribute [local go_sem] BO BN An Ao Bool.not_true Bool.not_false Bz DQ
theorem qM {G : Gt} (hG : Ai G) : Gd G 79 (AA 0 xq) := by
 refine gr (fn := Tryz.f79) (n := 2) rfl hG ?_
 rintro ⟨x, b, ⟨⟩⟩ hpre
 simp -implicitDefEqProofs only [Tryz.f79, go_sem, seval] at hpre ⊢
 with_reducible repeat' (first | apply ai | intro _ | ((first | apply s1 | apply s3 | apply s4) <;> intro hb <;> simp -implicitDefEqProofs only [hb, go_sem, seval] <;> try simp only [qz] at hb))
 all_goals first | rfl | omega | exact hpre | skip
 all_goals (try (simp only [FC]; done))
 all_goals first | rfl | (rw [BI]; done) | (rw [BI, decide_eq_decide.2]; simp [Bj]; done) | (rw [BI]; simp [Bj]; done)
end
def xp : Ct := Aq (lc Pw.asl (lc ZV l0)) (fun p => ∀ x ∈ p.1, p.2.1.pre x) (fun p => .t (.v (.int .i64 (BB p.2.1.sem 0 p.1))))
section
attribute [local go_sem] xq BO BN An Ao Bool.not_true Bool.not_false Bz DQ Rk Rl
theorem qL {G : Gt} (hG : Ai G) (hh : G.e 79 = AA 0 xq) : Gd G 78 (AA 0 xp) := by
 refine gr (fn := Tryz.f78) (n := 2) rfl hG ?_
 rintro ⟨xs, f, ⟨⟩⟩ hpre
 have hs := hpre
 dsimp only at hs ⊢
 cases f with
 | who b =>
   simp -implicitDefEqProofs only [Tryz.f78, go_sem, hh, seval]
   with_reducible repeat' (first | apply ai | intro _ | ((first | apply s1 | apply s3 | apply s4) <;> intro hb <;> simp -implicitDefEqProofs only [hb, go_sem, hh, seval] <;> try simp only [qz] at hb))
   all_goals first | rfl | omega | skip
   refine AF [] (ι := {i : Nat // i ≤ xs.length ∧ BB (OJ.sem (.who b)) 0 xs = BB (OJ.sem (.who b)) i (xs.drop i)}) (fun p => ⟨[(0, .t (.sl 4 (xs.map BJ))), (1, ZV.enc (.who b)), (7, .t (.v (.int .i64 xs.length))), (8, .t (.v (.int .i64 p.1)))], []⟩) (fun p => xs.length - p.1) ⟨0, Nat.zero_le _, rfl⟩ rfl ?_ ?_
   ·simp -implicitDefEqProofs only [go_sem, hh, seval]
    try simp
   ·rintro ⟨i, hi, hix⟩
    by_cases hlt : (i : Int) < xs.length
    ·have hm : xs.getD (i : Int).toNat default ∈ xs := AE (by omega)
     have hsz := hs _ hm
     cases hb : BV ((xs.getD (i : Int).toNat default).addr = b)
     ·have hq := hb
      simp -implicitDefEqProofs only [hlt, hq, go_sem, hh, seval]
      with_reducible repeat' (first | apply ai | intro _ | ((first | apply s1 | apply s3 | apply s4) <;> intro hb <;> simp -implicitDefEqProofs only [hb, go_sem, hh, seval] <;> try simp only [qz] at hb))
      all_goals (try simp only [maxLen] at *)
      all_goals first | rfl | omega | with_reducible assumption | exact hsz | exact hsz.1 | exact hsz.2 | exact hsz.2 _ (by assumption) | exact hsz.2.1 | exact hsz.2.2.1 | exact hsz.2.2.2 | trivial | skip
      rw [Ac, tn] at hb
      refine ⟨⟨i + 1, by omega, ?_⟩, by dsimp only; omega, ?_⟩
      ·rw [hix, Dx (p := OJ.sem (.who b)) (by omega) hb]
      ·simp -implicitDefEqProofs only [go_sem, hh, seval]
       try simp
     ·have hq := hb
      simp -implicitDefEqProofs only [hlt, hq, go_sem, hh, seval]
      with_reducible repeat' (first | apply ai | intro _ | ((first | apply s1 | apply s3 | apply s4) <;> intro hb <;> simp -implicitDefEqProofs only [hb, go_sem, hh, seval] <;> try simp only [qz] at hb))
      all_goals (try simp only [maxLen] at *)
      all_goals first | rfl | omega | with_reducible assumption | exact hsz | exact hsz.1 | exact hsz.2 | exact hsz.2 _ (by assumption) | exact hsz.2.1 | exact hsz.2.2.1 | exact hsz.2.2.2 | trivial | skip
      rw [Ae, tn] at hb
      rw [hix, Cv (p := OJ.sem (.who b)) (by omega) hb]
    ·simp -implicitDefEqProofs only [hlt, go_sem, hh, seval]
     with_reducible repeat' (first | apply ai | intro _ | ((first | apply s1 | apply s3 | apply s4) <;> intro hb <;> simp -implicitDefEqProofs only [hb, go_sem, hh, seval] <;> try simp only [qz] at hb))
     all_goals first | rfl | omega | skip
     all_goals (rw [hix, Cu (by omega)])
end
def sw : Ct := Aq (lc Ah.asl l0) (fun p => ∀ s ∈ p.1, s.size ≤ 2000000) (fun p => .t (.v (.bool (BV (DZ p.1)))))
section
attribute [local go_sem] Vn BO BN An Ao Bool.not_true Bool.not_false Bz DQ DB DD DC DE
theorem pv {G : Gt} (hG : Ai G) (hh : G.e 100 = AA 0 Vn) : Gd G 46 (AA 0 sw) := by
 refine gr (fn := Tryz.f46) (n := 1) rfl hG ?_
 rintro ⟨xs, ⟨⟩⟩ hpre
 simp -implicitDefEqProofs only [Tryz.f46, go_sem, hh, seval] at hpre ⊢
 with_reducible repeat' (first | apply ai | intro _ | ((first | apply s1 | apply s3 | apply s4) <;> intro hb <;> simp -implicitDefEqProofs only [hb, go_sem, hh, seval] <;> try simp only [qz] at hb))
 all_goals first | rfl | omega | exact hpre | exact hpre _ (by assumption) | exact trivial | skip
 ·rw [FC]
  refine congrArg (fun b => T.v (.bool b)) (AW ?_)
  constructor
  ·intro h
   exact ⟨fun s hs => Classical.byContradiction fun q => h ⟨s, hs, q⟩, by omega⟩
  ·rintro h ⟨s, hs, q⟩
   exact q (h.1 s hs)
 ·rw [AN (fun h => by have := h.2; omega)]
end
theorem zq : Maps.Keyed Tryz.prog 35 := Maps.Keyed.of_law (deep_law_laid (m := 5) (by kernel_rfl) (by decide) (Nat.lt_of_lt_of_le (Nat.lt_succ_self 35) (Nat.le_of_ble_eq_true (by kernel_rfl))) (by kernel_rfl) (by kernel_rfl))
noncomputable def UK : Array Field := match Tryz.prog.underlying 35 with | some (.struct fs) => fs | _ => #[]
theorem zJ : Tryz.prog.underlying 35 = some (.struct UK) := by kernel_rfl
theorem u9 : Tryz.prog.underlying 9 = some .string := by kernel_rfl
theorem pE : (UK.toList.map fun f => (f.type, f.offset)) = [(9, 0), (9, 1)] := by kernel_rfl
theorem pF : UK.all (·.name != "_") = true := by kernel_rfl
theorem zu : Tryz.prog.cellsOf 9 = 1 := by kernel_rfl
theorem uH : Tryz.prog.cellsOf 35 = 2 := by kernel_rfl
theorem yO : Tryz.prog.keyType 35 = true := by kernel_rfl
theorem yq : ∃ n, Tryz.prog.types.size + 1 = n + 2 := ⟨Tryz.prog.types.size - 1, by
 have : 35 < Tryz.prog.types.size := Nat.lt_of_lt_of_le (Nat.lt_succ_self 35) (Nat.le_of_ble_eq_true (by kernel_rfl))
 omega⟩
theorem zf (d : Nat) {s : ByteArray} (h : s.size ≤ maxLen) : Tryz.prog.keyLits (d + 1) 9 [.string s] = some [.string s.data.toList] := by
 simp only [Program.keyLits, u9, if_pos h]
theorem vA {k : MK} (h : k.ok (some 2)) : ∃ l, keyOf Tryz.prog 35 k.val = some l := by
 cases k with
 | i n => exact h.elim
 | s b => exact absurd h.1 (by decide)
 | ss l =>
   obtain ⟨h1, h2, _⟩ := h
   obtain ⟨u, d, rfl⟩ : ∃ u d, l = [u, d] := by
    rcases l with _ | ⟨u, _ | ⟨d, _ | ⟨z, t⟩⟩⟩
    ·cases h1
    ·cases h1
    ·exact ⟨u, d, rfl⟩
    ·simp at h1
   obtain ⟨n, hn⟩ := yq
   have hl : UK.toList.map (fun f => (f.type, f.offset)) = [(9, 0), (9, 1)] := pE
   rcases hf : UK.toList with _ | ⟨f, _ | ⟨g, _ | ⟨z, t⟩⟩⟩
   ·rw [hf] at hl; cases hl
   ·rw [hf] at hl; simp at hl
   ·rw [hf] at hl
    ·simp only [List.map_cons, List.map_nil, List.cons.injEq, Prod.mk.injEq, and_true] at hl
     obtain ⟨⟨a1, a2⟩, b1, b2⟩ := hl
     refine ⟨.string (keyBytes [.string u.data.toList, .string d.data.toList]), ?_⟩
     have hform : (MK.val (.ss [u, d])).formed Tryz.prog 35 = true := by
      simp only [Value.formed, MK.val, zJ, uH]
      rfl
     unfold keyOf
     rw [zJ]
     show (if (Tryz.prog.keyType 35 && (MK.val (.ss [u, d])).formed Tryz.prog 35) = true then _ else none) = _
     rw [yO, hform]
     refine (if_pos rfl).trans ?_
     rw [hn]
     have : Tryz.prog.keyLits (n + 2) 35 (MK.val (.ss [u, d])).cells.toList = some [.string u.data.toList, .string d.data.toList] := by
      show Tryz.prog.keyLits (n + 2) 35 [.string u, .string d] = _
      have e1 : [Value.string u, Value.string d].length = Tryz.prog.cellsOf 35 ∧ UK.all (·.name != "_") = true := ⟨by rw [uH]; rfl, pF⟩
      rw [Program.keyLits.eq_def]
      simp only [zJ]
      refine (if_pos e1).trans ?_
      rw [hf]
      simp only [List.mapM_cons, List.mapM_nil, a1, a2, b1, b2, zu, List.drop_zero, List.take_succ_cons, List.take_zero, List.drop_succ_cons, zf n (h2 u (by simp)), zf n (h2 d (by simp))]
      rfl
     rw [this]; rfl
   ·rw [hf] at hl
    simp only [List.map_cons, List.cons.injEq] at hl
    exact absurd hl.2.2 (by simp)
theorem yN : OL Tryz.prog 35 (some 2) := OL.ss zq vA
def jo (a : Ad) : MK := .ss [a.user, a.domain]
theorem fp {a b : Ad} (h : jo a = jo b) : a = b := by
 cases a; cases b
 simp only [jo, MK.ss.injEq, List.cons.injEq, and_true] at h
 rw [h.1, h.2]
def dis (xs : List Ad) : List (MK × Bool) := xs.foldl (fun es a => OE (jo a) true es) []
theorem Kb (xs : List Ad) (a : Ad) : dis (xs ++ [a]) = OE (jo a) true (dis xs) := by simp [dis]
theorem LW {k : MK} {b : Bool} : ∀ {es : List (MK × Bool)}, (OE k b es).map Prod.fst = if k ∈ es.map Prod.fst then es.map Prod.fst else es.map Prod.fst ++ [k]
 | [] => by simp [OE]
 | p :: r => by
   rw [OE]
   by_cases h : p.1 = k
   ·simp [h]
   ·have hk : ¬ k = p.1 := fun e => h e.symm
    rw [if_neg h, List.map_cons, LW]
    by_cases h2 : k ∈ r.map Prod.fst
    ·rw [if_pos h2, if_pos (by simp only [List.map_cons, List.mem_cons]; exact .inr h2)]; rfl
    ·rw [if_neg h2, if_neg (by simp only [List.map_cons, List.mem_cons]; exact fun e => e.elim hk h2)]; rfl
theorem cM (xs : List Ad) (a : Ad) : jo a ∈ (dis xs).map Prod.fst ↔ a ∈ xs := by
 generalize hr : xs.reverse = r
 have hx : xs = r.reverse := by rw [← hr, List.reverse_reverse]
 subst hx
 clear hr
 induction r with
 | nil => simp [dis]
 | cons b r ih =>
   rw [List.reverse_cons, Kb, LW, List.mem_append, ← propext ih]
   by_cases h : jo b ∈ (dis r.reverse).map Prod.fst
   ·rw [if_pos h]
    constructor
    ·exact .inl
    ·rintro (h1 | h1)
     ·exact h1
     ·rw [List.mem_singleton.1 h1]; exact h
   ·rw [if_neg h, List.mem_append, List.mem_singleton, List.mem_singleton]
    exact or_congr_right ⟨fp, fun e => by rw [e]⟩
theorem cL (xs : List Ad) : (dis xs).length ≤ xs.length ∧ ((dis xs).length = xs.length ↔ xs.Nodup) := by
 generalize hr : xs.reverse = r
 have hx : xs = r.reverse := by rw [← hr, List.reverse_reverse]
 subst hx
 clear hr
 induction r with
 | nil => simp [dis]
 | cons b r ih =>
   have hl : ∀ es : List (MK × Bool), es.length = (es.map Prod.fst).length := fun es => by rw [lm]
   have hn : (r.reverse ++ [b]).Nodup ↔ r.reverse.Nodup ∧ b ∉ r.reverse := by
    rw [List.nodup_append]
    constructor
    ·rintro ⟨h1, _, h3⟩
     exact ⟨h1, fun hb => h3 b hb b (by simp) rfl⟩
    ·rintro ⟨h1, h2⟩
     refine ⟨h1, by simp, fun x hx y hy e => ?_⟩
     rw [List.mem_singleton] at hy
     subst hy; subst e; exact h2 hx
   rw [List.reverse_cons, Kb, hl, LW, List.length_append, hn, ← cM]
   obtain ⟨i1, i2⟩ := ih
   by_cases h : jo b ∈ (dis r.reverse).map Prod.fst
   ·rw [if_pos h, ← hl]
    refine ⟨by omega, ⟨fun e => ?_, fun e => absurd h e.2⟩⟩
    simp at e i1; omega
   ·rw [if_neg h, List.length_append, ← hl]
    refine ⟨by simp at *; omega, ⟨fun e => ⟨i2.1 (by simp at *; omega), h⟩, fun e => ?_⟩⟩
    have := i2.2 e.1
    simp at *; omega
theorem Rg {xs : List Ad} {i : Nat} (h : i < xs.length) : xs.take (i + 1) = xs.take i ++ [xs.getD i default] := by
 rw [List.take_succ_eq_append_getElem h]
 simp [h]
theorem Wb {xs : List Ad} {i : Nat} (h : i < xs.length) : OE (.ss [(xs.getD i default).user, (xs.getD i default).domain]) true (dis (xs.take i)) = dis (xs.take (i + 1)) := by
 rw [Rg h, Kb]; rfl
def bW : Ct := Aq (lc DH.asl l0) (fun p => True) (fun p => .t (.v (.bool (BV p.1.Nodup))))
section
attribute [local go_sem] BO BN An Ao Bool.not_true Bool.not_false Bz DQ DB DD DC DE
theorem dZ {G : Gt} (hG : Ai G) : Gd G 153 (AA 0 bW) := by
 refine gr (fn := Tryz.f153) (n := 1) rfl hG ?_
 rintro ⟨xs, ⟨⟩⟩ hpre
 simp -implicitDefEqProofs only [Tryz.f153, go_sem, seval] at hpre ⊢
 with_reducible repeat' (first | apply ai | intro _ | ((first | apply s1 | apply s3 | apply s4) <;> intro hb <;> simp -implicitDefEqProofs only [hb, go_sem, seval] <;> try simp only [qz] at hb))
 all_goals first | rfl | omega | skip
 refine AF [] (ι := {i : Nat // i ≤ xs.length}) (fun p => ⟨[(0, .t (.sl 2 (xs.map Az))), (3, .h 1006), (7, .t (.sl 2 (xs.map Az))), (8, .t (.v (.int .i64 xs.length))), (9, .t (.v (.int .i64 p.1)))], [(1006, some (.mp (some 2) (dis (xs.take p.1))))]⟩) (fun p => xs.length - p.1) ⟨0, Nat.zero_le _⟩ rfl ?_ ?_
 ·simp -implicitDefEqProofs only [go_sem, seval]
  try simp
  rfl
 ·rintro ⟨i, hi⟩
  by_cases hlt : (i : Int) < xs.length
  ·simp -implicitDefEqProofs only [hlt, go_sem, seval]
   with_reducible repeat' (first | apply ai | intro _ | ((first | apply s1 | apply s3 | apply s4) <;> intro hb <;> simp -implicitDefEqProofs only [hb, go_sem, seval] <;> try simp only [qz] at hb))
   all_goals (try simp only [maxLen] at *)
   all_goals first | rfl | omega | exact yN | skip
   refine ⟨⟨i + 1, by omega⟩, by dsimp only; omega, ?_⟩
   simp -implicitDefEqProofs only [go_sem, seval]
   simp only [tn, Wb (show i < xs.length by omega)]
   try simp
  ·simp -implicitDefEqProofs only [hlt, go_sem, seval]
   with_reducible repeat' (first | apply ai | intro _ | ((first | apply s1 | apply s3 | apply s4) <;> intro hb <;> simp -implicitDefEqProofs only [hb, go_sem, seval] <;> try simp only [qz] at hb))
   all_goals first | rfl | omega | skip
   rw [List.take_of_length_le (by omega), ← AW (cL xs).2, BI]
   refine congrArg (fun b => T.v (.bool b)) (decide_eq_decide.2 ?_)
   omega
end
section
attribute [local go_sem] su V3 bW sw BO BN An Ao Bool.not_true Bool.not_false Bz DQ DB DD DC DE Ae Ac
end
theorem BL {α : Type} [Inhabited α] (enc : α → List T) {xs : List α} {i : Nat} (h : i < xs.length) : (xs.take (i + 1)).map enc = (xs.take i).map enc ++ [enc (xs.getD i default)] := by
 rw [List.take_succ_eq_append_getElem h, List.map_append, List.map_cons, List.map_nil]
 simp only [List.getD_eq_getElem?_getD, List.getElem?_eq_getElem h, Option.getD_some]
theorem Ic {α : Type} {enc : α → List T} {xs : List α} {k : Nat} : (xs.map enc).take k = (xs.take k).map enc := List.map_take.symm
theorem IL {α : Type} {enc : α → List T} {xs : List α} {k : Nat} : (xs.map enc).drop k = (xs.drop k).map enc := List.map_drop.symm
def OQ (r : Rc) : Prop := Bb r.addr ∧ (0 ≤ r.tries ∧ r.tries ≤ 3) ∧ (0 ≤ r.next ∧ r.next ≤ 9999)
def Dm (x : Im) : Prop := (∀ r ∈ x.to, OQ r) ∧ (x.to.map Rc.addr).Nodup ∧ 0 < x.id ∧ (Bb x.frm ∨ Ab x.frm) ∧ (1 ≤ x.to.length ∧ x.to.length ≤ 4) ∧ DZ x.body
def w6 (xs : List Im) : Prop := ∀ j, 0 < j → j < xs.length → (xs.getD (j - 1) default).id < (xs.getD j default).id
def Bk (s : Sp) : Prop := (∀ x ∈ s.items, Dm x ∧ x.id ≤ s.last) ∧ w6 s.items ∧ (0 ≤ s.last ∧ s.last ≤ 999) ∧ s.items.length ≤ 10
theorem RC {xs : List Rc} (h : ∀ j, j < xs.length → ∀ k, k < j → ¬ (xs.getD k default).addr = (xs.getD j default).addr) : (xs.map Rc.addr).Nodup := by
 rw [List.nodup_iff_pairwise_ne, List.pairwise_iff_getElem]
 intro k j hk hj hkj
 rw [lm] at hk hj
 have := h j hj k hkj
 simpa [hk, hj] using this
theorem QM {xs : List Rc} (h : (xs.map Rc.addr).Nodup) {k i : Nat} (hk : k < i) (hi : i < xs.length) : ¬ (xs.getD k default).addr = (xs.getD i default).addr := fun e => by
 have q1 : k < xs.length := by omega
 simp only [List.getD_eq_getElem?_getD, List.getElem?_eq_getElem q1, List.getElem?_eq_getElem hi, Option.getD_some] at e
 exact List.pairwise_iff_getElem.1 (List.nodup_iff_pairwise_ne.1 h) k i (by simpa using q1) (by simpa using hi) hk (by simpa using e)
def mP : Ct := Aq (lc Pw.ag l0) (fun p => True) (fun p => .t (.v (.bool (BV (OQ p.1)))))
section
attribute [local go_sem] IH Lb
theorem dx {G : Gt} (hG : Ai G) (hh : G.e 123 = AA 0 IH ∧ G.e 36 = AA 0 Lb) : Gd G 176 (AA 0 mP) := by
 refine gr (fn := Tryz.f176) (n := 1) rfl hG ?_
 rintro ⟨r, ⟨⟩⟩ hpre
 simp -implicitDefEqProofs only [Tryz.f176, go_sem, hh, seval] at hpre ⊢
 with_reducible repeat' (first | apply ai | intro _ | ((first | apply s1 | apply s3 | apply s4) <;> intro hb <;> simp -implicitDefEqProofs only [hb, go_sem, hh, seval] <;> try simp only [qz] at hb))
 all_goals first
  | rfl
  | omega
  | exact congrArg (fun b => T.v (Value.bool b)) (AW ⟨fun h => ⟨by assumption, by assumption, h⟩, fun h => h.2.2⟩)
  | (rw [AN (fun h => absurd h.1 (by assumption))]; done)
  | (rw [AN (fun h => absurd h.2.1 (by assumption))]; done)
end
def mA : Ct := Aq (lc Ey.ag l0) (fun p => True) (fun p => .t (.v (.bool (BV (Dm p.1)))))
section
attribute [local go_sem] IH Lb mP Tt M7 lm
set_option maxHeartbeats 800000 in
theorem dQ {G : Gt} (hG : Ai G) (hh : G.e 123 = AA 0 IH ∧ G.e 36 = AA 0 Lb ∧ G.e 176 = AA 0 mP ∧ G.e 62 = AA 0 Tt ∧ G.e 142 = AA 0 M7) : Gd G 144 (AA 0 mA) := by
 refine gr (fn := Tryz.f144) (n := 1) rfl hG ?_
 rintro ⟨x, ⟨⟩⟩ hpre
 simp -implicitDefEqProofs only [Tryz.f144, go_sem, hh, seval] at hpre ⊢
 have hbox : ∀ y : Im, Ob.box [AV.t (T.v (Value.int IntKind.i64 y.id)), AV.t (T.v (Value.string y.frm.user)), AV.t (T.v (Value.string y.frm.domain)), AV.t (T.sl 4 (List.map BJ y.to)), AV.t (T.sl 1 (List.map AH y.body))] = Ob.box ((Ag y).map .t) := fun _ => rfl
 refine AF [] (ι := {i : Nat // i ≤ x.to.length ∧ (∀ j, j < i → OQ (x.to.getD j default)) ∧ ∀ j, j < i → ∀ k, k < j → ¬ (x.to.getD k default).addr = (x.to.getD j default).addr}) (fun p => ⟨[(1, .pb 1001 0), (3, .t (.v (.int .i64 p.1)))], [(1001, some (.box ((Ag x).map .t)))]⟩) (fun p => x.to.length - p.1) ⟨0, by simp, by simp, by simp⟩ rfl ?_ ?_
 ·simp -implicitDefEqProofs only [go_sem, hh, seval]
  try simp
 ·rintro ⟨i, hi, hall, hno⟩
  simp -implicitDefEqProofs only [go_sem, hh, seval]
  with_reducible repeat' (first | apply ai | intro _ | ((first | apply s1 | apply s3 | apply s4) <;> intro hb <;> simp -implicitDefEqProofs only [hb, go_sem, hh, seval] <;> try simp only [qz] at hb))
  all_goals (try simp only [maxLen, tn, lm] at *)
  all_goals first | rfl | omega | skip
  ·rw [AN (fun h => hb (h.1 _ (AE (by omega))))]
  ·refine AF [] (ι := {k : Nat // k ≤ i ∧ ∀ j, j < k → ¬ (x.to.getD j default).addr = (x.to.getD i default).addr}) (fun p => ⟨[(1, .pb 1001 0), (3, .t (.v (.int .i64 i))), (4, .t (.v (.int .i64 p.1)))], [(1001, some (.box ((Ag x).map .t)))]⟩) (fun p => i - p.1) ⟨0, by simp, by simp⟩ rfl ?_ ?_
   ·simp -implicitDefEqProofs only [go_sem, hh, seval]
    try simp
   ·rintro ⟨k, hk, hk2⟩
    simp -implicitDefEqProofs only [go_sem, hh, seval]
    with_reducible repeat' (first | apply ai | intro _ | ((first | apply s1 | apply s3 | apply s4) <;> intro hb <;> simp -implicitDefEqProofs only [hb, go_sem, hh, seval] <;> try simp only [qz] at hb))
    all_goals (try simp only [maxLen, tn, lm] at *)
    all_goals first | rfl | omega | skip
    ·have e : (x.to.getD k default).addr = (x.to.getD i default).addr := Bj.2 (by simpa using hb)
     rw [AN (fun h => QM h.2.1 (by omega) (by omega) e)]
    ·refine ⟨⟨k + 1, by omega, fun j hj => ?_⟩, by dsimp only; omega, ?_⟩
     ·by_cases e : j = k
      ·subst e; exact rG hb
      ·exact hk2 j (by omega)
     ·simp -implicitDefEqProofs only [go_sem, hh, seval]
      try simp
    ·refine ⟨⟨i + 1, by omega, DL hall (by assumption), fun j hj q hq => ?_⟩, by dsimp only; omega, ?_⟩
     ·by_cases e : j = i
      ·subst e; exact hk2 q (by omega)
      ·exact hno j (by omega) q hq
     ·simp -implicitDefEqProofs only [go_sem, hh, seval]
      try simp
  all_goals have hA : ∀ r ∈ x.to, OQ r := BX fun j hj => hall j (by omega)
  all_goals have hN : (x.to.map Rc.addr).Nodup := RC fun j hj q hq => hno j (by omega) q hq
  all_goals first
   | (rw [AW]
      exact ⟨fun h => ⟨hA, hN, by first | assumption | omega, by first | exact .inl (by assumption) | exact .inr (by assumption), by omega, h⟩, fun h => h.2.2.2.2.2⟩)
   | (rw [AN]
      intro h
      first
       | (have := h.2.2.1; omega)
       | (have := h.2.2.2.2.1; omega)
       | (rcases h.2.2.2.1 with h | h <;> contradiction))
end
def xw : Ct := Aq (lc Px.ag l0) (fun p => True) (fun p => .t (.v (.bool (BV (Bk p.1)))))
section
attribute [local go_sem] mA Lb lm Bool.not_true Bool.not_false
set_option maxHeartbeats 1600000 in
theorem qT {G : Gt} (hG : Ai G) (hh : G.e 144 = AA 0 mA ∧ G.e 36 = AA 0 Lb) : Gd G 89 (AA 0 xw) := by
 refine gr (fn := Tryz.f89) (n := 1) rfl hG ?_
 rintro ⟨s, ⟨⟩⟩ hpre
 simp -implicitDefEqProofs only [Tryz.f89, go_sem, hh, seval] at hpre ⊢
 refine AF [] (ι := {i : Nat // i ≤ s.items.length ∧ (∀ j, j < i → Dm (s.items.getD j default) ∧ (s.items.getD j default).id ≤ s.last) ∧ ∀ j, 0 < j → j < i → (s.items.getD (j - 1) default).id < (s.items.getD j default).id}) (fun p => ⟨[(1, .pb 1001 0), (3, .t (.v (.int .i64 p.1)))], [(1001, some (.box ((Dt s).map .t)))]⟩) (fun p => s.items.length - p.1) ⟨0, by simp, by simp, by simp⟩ rfl ?_ ?_
 ·simp -implicitDefEqProofs only [go_sem, hh, seval]
  try simp
 ·rintro ⟨i, hi, hall, hasc⟩
  by_cases hlt : (i : Int) < s.items.length
  ·simp -implicitDefEqProofs only [hlt, decide_true, go_sem, hh, seval]
   with_reducible repeat' (first | apply ai | intro _ | ((first | apply s1 | apply s3 | apply s4) <;> intro hb <;> simp -implicitDefEqProofs only [hb, go_sem, hh, seval] <;> try simp only [qz] at hb))
   all_goals (try simp only [maxLen, tn, lm] at *)
   all_goals first | rfl | omega | skip
   all_goals (try rw [show ((i : Int) - 1).toNat = i - 1 from by omega] at hb)
   all_goals first
    | (rw [AN (fun h => by have h1 := h.1 _ (AE (xs := s.items) (j := i) (by omega)); first | exact hb h1.1 | omega)]; done)
    | (rw [AN (fun h => by have h1 := h.2.1 i (by omega) (by omega); omega)]; done)
    | skip
   all_goals
    refine ⟨⟨i + 1, by omega, DL (P := fun x : Im => Dm x ∧ x.id ≤ s.last) hall ⟨by assumption, by omega⟩, fun j h0 hj => ?_⟩, by dsimp only; omega, ?_⟩
    ·by_cases e : j = i
     ·subst e; omega
     ·exact hasc j h0 (by omega)
    ·simp -implicitDefEqProofs only [go_sem, hh, seval]
     try simp
  ·simp -implicitDefEqProofs only [hlt, decide_false, go_sem, hh, seval]
   with_reducible repeat' (first | apply ai | intro _ | ((first | apply s1 | apply s3 | apply s4) <;> intro hb <;> simp -implicitDefEqProofs only [hb, go_sem, hh, seval] <;> try simp only [qz] at hb))
   all_goals (try simp only [maxLen, tn, lm] at *)
   all_goals first | rfl | omega | skip
   ·refine congrArg (fun b => T.v (Value.bool b)) ?_
    rw [← BI, AW]
    exact ⟨fun h => ⟨BX fun j hj => hall j (by omega), fun j h0 hj => hasc j h0 (by omega), hb, by omega⟩, fun h => by have := h.2.2.2; omega⟩
   ·rw [AN (fun h => hb h.2.2.1)]
end
def iv : Ct := Aq (lc Px.ag (lc BA l0)) (fun p => True) (fun p => .t (.v (.int .i64 (BB (fun x : Im => x.id = p.2.1) 0 p.1.items))))
section
attribute [local go_sem] lm
theorem pf {G : Gt} (hG : Ai G) : Gd G 34 (AA 0 iv) := by
 refine gr (fn := Tryz.f34) (n := 2) rfl hG ?_
 rintro ⟨s, n, ⟨⟩⟩ hpre
 simp -implicitDefEqProofs only [Tryz.f34, go_sem, seval] at hpre ⊢
 refine AF [] (ι := {i : Nat // i ≤ s.items.length ∧ BB (fun x : Im => x.id = n) 0 s.items = BB (fun x : Im => x.id = n) i (s.items.drop i)}) (fun p => ⟨[(1, .t (.v (.int .i64 n))), (2, .pb 1002 0), (5, .t (.v (.int .i64 p.1)))], [(1002, some (.box ((Dt s).map .t)))]⟩) (fun p => s.items.length - p.1) ⟨0, by simp, rfl⟩ rfl ?_ ?_
 ·simp -implicitDefEqProofs only [go_sem, seval]
  try simp
 ·rintro ⟨i, hi, hix⟩
  simp -implicitDefEqProofs only [go_sem, seval]
  with_reducible repeat' (first | apply ai | intro _ | ((first | apply s1 | apply s3 | apply s4) <;> intro hb <;> simp -implicitDefEqProofs only [hb, go_sem, seval] <;> try simp only [qz] at hb))
  all_goals (try simp only [maxLen, tn, lm] at *)
  all_goals first | rfl | omega | skip
  ·rw [hix, Cv (p := fun x : Im => x.id = n) (by omega) hb]
  ·refine ⟨⟨i + 1, by omega, by rw [hix, Dx (p := fun x : Im => x.id = n) (by omega) hb]⟩, by dsimp only; omega, ?_⟩
   simp -implicitDefEqProofs only [go_sem, seval]
   try simp
  ·rw [hix, Cu (by omega)]
end
def wr : Ct := Aq (lc Ey.ag (lc DH.ag l0)) (fun p => True) (fun p => .t (.v (.int .i64 (BB (fun r : Rc => r.addr = p.2.1) 0 p.1.to))))
section
attribute [local go_sem] lm
theorem pg {G : Gt} (hG : Ai G) : Gd G 35 (AA 0 wr) := by
 refine gr (fn := Tryz.f35) (n := 2) rfl hG ?_
 rintro ⟨x, a, ⟨⟩⟩ hpre
 simp -implicitDefEqProofs only [Tryz.f35, go_sem, seval] at hpre ⊢
 refine AF [] (ι := {i : Nat // i ≤ x.to.length ∧ BB (fun r : Rc => r.addr = a) 0 x.to = BB (fun r : Rc => r.addr = a) i (x.to.drop i)}) (fun p => ⟨[(2, .pb 1002 0), (3, .pb 1003 0), (5, .t (.v (.int .i64 p.1)))], [(1002, some (.box ((Ag x).map .t))), (1003, some (.box ((Az a).map .t)))]⟩) (fun p => x.to.length - p.1) ⟨0, by simp, rfl⟩ rfl ?_ ?_
 ·simp -implicitDefEqProofs only [go_sem, seval]
  try simp
 ·rintro ⟨i, hi, hix⟩
  simp -implicitDefEqProofs only [go_sem, seval]
  with_reducible repeat' (first | apply ai | intro _ | ((first | apply s1 | apply s3 | apply s4) <;> intro hb <;> simp -implicitDefEqProofs only [hb, go_sem, seval] <;> try simp only [qz] at hb))
  all_goals (try simp only [maxLen, tn, lm] at *)
  all_goals first | rfl | omega | skip
  ·rw [hix, Cv (p := fun r : Rc => r.addr = a) (by omega) (Bj.2 (by simpa using hb))]
  ·refine ⟨⟨i + 1, by omega, by rw [hix, Dx (p := fun r : Rc => r.addr = a) (by omega) (rG hb)]⟩, by dsimp only; omega, ?_⟩
   simp -implicitDefEqProofs only [go_sem, seval]
   try simp
  ·rw [hix, Cu (by omega)]
end
def QY : Ct := Aq (lc Ey.ag l0) (fun p => Ff p.1) (fun p => rb p.1)
section
attribute [local go_sem] lm List.map_nil List.length_nil List.nil_append Nat.zero_add
theorem dR {G : Gt} (hG : Ai G) : Gd G 145 (AA 0 QY) := by
 refine gr (fn := Tryz.f145) (n := 1) rfl hG ?_ (hs := fun _ p => RN _)
 rintro ⟨x, ⟨⟩⟩ hpre
 simp -implicitDefEqProofs only [Tryz.f145, go_sem, seval] at hpre ⊢
 obtain ⟨_, ⟨h1, _⟩, ⟨h2, _⟩⟩ := hpre
 with_reducible repeat' (first | apply ai | intro _ | ((first | apply s1 | apply s3 | apply s4) <;> intro hb <;> simp -implicitDefEqProofs only [hb, go_sem, seval] <;> try simp only [qz] at hb))
 all_goals (try simp only [maxLen, lm, List.length_nil] at *)
 all_goals first | rfl | omega | (simp_all; done) | skip
end
def t5 : Ct := Aq (lc Px.ag l0) (fun p => Fg p.1) (fun p => RR p.1)
section
attribute [local go_sem] QY lm List.length_append List.length_cons List.length_nil List.map_append List.mem_singleton forall_eq AS.nilb AS.renb Bool.not_false Bool.not_true List.set_cons_zero List.set_cons_succ List.set_nil
set_option maxHeartbeats 1600000 in
theorem qV {G : Gt} (hG : Ai G) (hh : G.e 145 = AA 0 QY) : Gd G 91 (AA 0 t5) := by
 refine Lr (dp := fun n => !(Nat.beq n 100002 || Nat.beq n 100004)) (fn := Tryz.f91) (n := 1) rfl hG ?_ (hs := fun _ p => HD _)
 rintro ⟨s, ⟨⟩⟩ hpre
 simp -implicitDefEqProofs only [Tryz.f91, go_sem, hh, seval] at hpre ⊢
 have hpre' : Gl Ff s.items := hpre
 with_reducible repeat' (first | apply ai | intro _ | ((first | apply s1 | apply s3 | apply s4) <;> intro hb <;> simp -implicitDefEqProofs only [hb, go_sem, hh, seval] <;> try simp only [qz] at hb))
 all_goals first | rfl | skip
 refine AU (Le.nilb 1003 1 1901 true 5 rfl rfl rfl) (AR ?_)
 simp -implicitDefEqProofs only [go_sem, hh, seval]
 refine AF [] (ι := {i : Nat // i ≤ s.items.length}) (fun p => ⟨[(1, .pb 1001 0), (2, .pb 1002 0), (3, .pb 1003 0), (4, .t (.v (.int .i64 p.1)))], [(1001, some (.box ((Dt s).map .t))), (1002, some (.box [.t (.v (.int .i64 0)), .nil])), (1003, some (.box [.t (.v (.int .i64 s.last)), .h 1901])), (1901, some (.arr true 5 ((s.items.take p.1).map Ag)))]⟩) (fun p => s.items.length - p.1) ⟨0, by simp⟩ rfl ?_ ?_
 ·simp -implicitDefEqProofs only [go_sem, hh, seval]
  try simp
 ·rintro ⟨i, hi⟩
  by_cases hlt : (i : Int) < s.items.length
  ·have hok := hpre'.at (i := i) (by omega)
   have hlen : (s.items.take i).length = i := by simp; omega
   have hmax := hpre'.1
   simp -implicitDefEqProofs only [hlt, decide_true, tn, go_sem, hh, seval]
   with_reducible repeat' (first | apply ai | intro _ | ((first | apply s1 | apply s3 | apply s4) <;> intro hb <;> simp -implicitDefEqProofs only [hb, go_sem, hh, seval] <;> try simp only [qz] at hb))
   all_goals (try simp only [maxLen] at *)
   all_goals first | rfl | omega | assumption | decide | skip
   refine AU (Le.renb 1003 1 1024 1901 rfl rfl rfl rfl) (AR ?_)
   simp -implicitDefEqProofs only [go_sem, hh, seval]
   with_reducible repeat' (first | apply ai | intro _ | ((first | apply s1 | apply s3 | apply s4) <;> intro hb <;> simp -implicitDefEqProofs only [hb, go_sem, hh, seval] <;> try simp only [qz] at hb))
   all_goals first | rfl | omega | decide | skip
   refine ⟨⟨i + 1, by omega⟩, by dsimp only; omega, ?_⟩
   simp -implicitDefEqProofs only [go_sem, hh, seval]
   simp only [BL Ag (show i < s.items.length by omega)]
   with_reducible repeat' (first | apply ai | intro _ | ((first | apply s1 | apply s3 | apply s4) <;> intro hb <;> simp -implicitDefEqProofs only [hb, go_sem, hh, seval] <;> try simp only [qz] at hb))
   all_goals first | rfl | (simp; done)
  ·simp -implicitDefEqProofs only [hlt, decide_false, go_sem, hh, seval]
   with_reducible repeat' (first | apply ai | intro _ | ((first | apply s1 | apply s3 | apply s4) <;> intro hb <;> simp -implicitDefEqProofs only [hb, go_sem, hh, seval] <;> try simp only [qz] at hb))
   all_goals first | rfl | omega | skip
   rw [List.take_of_length_le (by omega)]
end
def Fp (x : Im) (k : Nat) : Im := ⟨x.id, x.frm, x.to.take k ++ x.to.drop (k + 1), x.body⟩
def MH (xs : List Im) (i k : Nat) : List Im := if (Fp (xs.getD i default) k).to = [] then xs.take i ++ xs.drop (i + 1) else xs.take i ++ (Fp (xs.getD i default) k :: xs.drop (i + 1))
def Cj (s : Sp) (i k : Nat) : Sp := ⟨s.last, MH s.items i k⟩
theorem We {xs : List Rc} {k : Nat} (h : k < xs.length) : (xs.take k ++ xs.drop (k + 1)).length = xs.length - 1 := by simp; omega
def nR : Ct := Aq (lc Px.ag (lc BA (lc BA l0))) (fun p => Fg p.1 ∧ 0 ≤ p.2.1 ∧ p.2.1 < p.1.items.length ∧ 0 ≤ p.2.2.1 ∧ p.2.2.1 < (p.1.items.getD p.2.1.toNat default).to.length) (fun p => .agg ((Dt (Cj p.1 p.2.1.toNat p.2.2.1.toNat)).map .t))
section
attribute [local go_sem] QY Ic IL List.take_length List.drop_zero List.length_take List.length_drop lm List.length_append List.length_cons List.length_nil List.map_append List.map_nil List.map_cons List.nil_append Nat.zero_add List.mem_singleton forall_eq Bool.not_true Bool.not_false
set_option maxHeartbeats 1600000 in
theorem qW {G : Gt} (hG : Ai G) (hh : G.e 145 = AA 0 QY) : Gd G 92 (AA 1 nR) := by
 refine Lr (dp := fun n => Nat.ble 100000 n && !(Nat.beq n 100002)) (fn := Tryz.f92) (n := 3) rfl hG ?_
 rintro ⟨s, i, k, ⟨⟩⟩ hpre
 obtain ⟨hok, hi0, hi1, hk0, hk1⟩ := hpre
 dsimp only at hi0 hi1 hk0 hk1 ⊢
 obtain ⟨ni, rfl⟩ := Int.eq_ofNat_of_zero_le hi0
 obtain ⟨nk, rfl⟩ := Int.eq_ofNat_of_zero_le hk0
 have hok' : Gl Ff s.items := hok
 simp only [tn] at hk1 ⊢
 have hx := hok'.at (i := ni) (by omega)
 have hmax := hok'.1
 have hmx : ((s.items.getD ni default).to.length : Int) ≤ 1048576 := hx.2.1.1
 have hi2 : ni < s.items.length := by omega
 have hk2 : nk < (s.items.getD ni default).to.length := by omega
 have e1 : ((ni : Int) + 1).toNat = ni + 1 := by omega
 have e2 : ((nk : Int) + 1).toNat = nk + 1 := by omega
 simp -implicitDefEqProofs only [Tryz.f92, tn, go_sem, hh, seval]
 with_reducible repeat' (first | apply ai | intro _ | ((first | apply s1 | apply s3 | apply s4) <;> intro hb <;> simp -implicitDefEqProofs only [hb, go_sem, hh, seval] <;> try simp only [qz] at hb))
 all_goals first | rfl | omega | assumption | decide | skip
 refine AU (Le.frzL [1014]) (AR ?_)
 simp -implicitDefEqProofs only [go_sem, hh, seval]
 with_reducible repeat' (first | apply ai | intro _ | ((first | apply s1 | apply s3 | apply s4) <;> intro hb <;> simp -implicitDefEqProofs only [hb, go_sem, hh, seval] <;> try simp only [qz] at hb))
 all_goals (try simp only [maxLen, e1, e2, tn, List.take_length, List.drop_zero] at *)
 all_goals first | rfl | omega | assumption | decide | skip
 all_goals
  refine congrArg (T.sl 5) ?_
  simp only [Cj, MH]
  first
   | (rw [if_neg (fun e => by have := congrArg List.length e; simp only [Fp, List.length_append, List.length_take, List.length_drop, List.length_nil] at this; omega)]; simp [Fp, Ag]; done)
   | (rw [if_pos (List.eq_nil_of_length_eq_zero (by simp only [Fp, List.length_append, List.length_take, List.length_drop]; omega))]; simp; done)
   | skip
end
theorem GN {α : Type} (p : α → Prop) : ∀ (xs : List α) (k : Nat), BB p k xs = -1 ∨ ((k : Int) ≤ BB p k xs ∧ BB p k xs < k + xs.length)
 | [], _ => .inl rfl
 | x :: t, k => by
   rw [BB]
   cases BV (p x)
   ·rcases GN p t (k + 1) with h | h
    ·exact .inl h
    ·simp only [cond_false, List.length_cons]; right; omega
   ·simp only [cond_true, List.length_cons]; right; omega
noncomputable def At (s : Sp) (n : Int) : Int := BB (fun x : Im => x.id = n) 0 s.items
noncomputable def BR (x : Im) (a : Ad) : Int := BB (fun r : Rc => r.addr = a) 0 x.to
noncomputable def Aa (s : Sp) (n : Int) : Im := s.items.getD (At s n).toNat default
open Classical in
noncomputable def Fi (s : Sp) (n : Int) (a : Ad) : Sp × Bool :=
 if Bk s then (if At s n < 0 then (s, false) else if BR (Aa s n) a < 0 then (s, false) else (Cj s (At s n).toNat (BR (Aa s n) a).toNat, true)) else (⟨0, []⟩, false)
def gW (p : Sp × Bool) : AV := .tup [.agg ((Dt p.1).map .t), .t (.v (.bool p.2))]
def Uf (p : Sp × Bool) : AV := .tup [RR p.1, .t (.v (.bool p.2))]
theorem RQ (p : Sp × Bool) : BT (Uf p) := .tup _ fun c hc => by
 simp only [List.mem_cons, List.not_mem_nil, or_false] at hc
 rcases hc with rfl | rfl
 ·exact HD _
 ·exact .v _
theorem VI {s : Sp} {n : Int} {a : Ad} (h : ¬ Bk s) : Fi s n a = (⟨0, []⟩, false) := by unfold Fi; rw [if_neg h]
theorem aL {s : Sp} {n : Int} {a : Ad} (h : Bk s) (hi : At s n < 0) : Fi s n a = (s, false) := by unfold Fi; rw [if_pos h, if_pos hi]
theorem aM {s : Sp} {n : Int} {a : Ad} (h : Bk s) (hi : ¬ At s n < 0) (hk : BR (Aa s n) a < 0) : Fi s n a = (s, false) := by unfold Fi; rw [if_pos h, if_neg hi, if_pos hk]
theorem Rv {s : Sp} {n : Int} {a : Ad} (h : Bk s) (hi : ¬ At s n < 0) (hk : ¬ BR (Aa s n) a < 0) : Fi s n a = (Cj s (At s n).toNat (BR (Aa s n) a).toNat, true) := by unfold Fi; rw [if_pos h, if_neg hi, if_neg hk]
theorem Bf {s : Sp} {n : Int} (h : ¬ At s n < 0) : 0 ≤ At s n ∧ At s n < s.items.length := by
 rcases GN (fun x : Im => x.id = n) s.items 0 with h1 | h1
 ·have : At s n = -1 := h1
  omega
 ·have : At s n < (0 : Nat) + s.items.length := h1.2
  omega
theorem ED {x : Im} {a : Ad} (h : ¬ BR x a < 0) : 0 ≤ BR x a ∧ BR x a < x.to.length := by
 rcases GN (fun r : Rc => r.addr = a) x.to 0 with h1 | h1
 ·have : BR x a = -1 := h1
  omega
 ·have : BR x a < (0 : Nat) + x.to.length := h1.2
  omega
def ZR (t : Int) : Int := 2 * 2 ^ (t - 1).toNat
theorem Np {a b : Nat} (h : a ≤ b) : (2 : Int) ^ a ≤ 2 ^ b := by
 have h1 := Nat.pow_le_pow_right (n := 2) (by omega) h
 have e : ∀ k : Nat, ((2 ^ k : Nat) : Int) = 2 ^ k := fun k => by simp
 rw [← e, ← e]
 omega
theorem Yj {t : Int} {m : Nat} (h : t ≤ m + 1) : 2 ≤ ZR t ∧ ZR t ≤ 2 * 2 ^ m := by
 unfold ZR
 have h1 : (2 : Int) ^ (t - 1).toNat ≤ 2 ^ m := Np (by omega)
 have h2 : (2 : Int) ^ 0 ≤ 2 ^ (t - 1).toNat := Np (by omega)
 simp only [Int.pow_zero] at h2
 omega
def UP (r : Rc) (w : Int) : Rc := ⟨r.addr, r.tries + 1, w + ZR (r.tries + 1)⟩
def Q9 (x : Im) (k : Nat) (w : Int) : Im := ⟨x.id, x.frm, x.to.set k (UP (x.to.getD k default) w), x.body⟩
def PH (s : Sp) (i k : Nat) (w : Int) : Sp := ⟨s.last, s.items.set i (Q9 (s.items.getD i default) k w)⟩
def NU (r : Rc) (w : Int) : Prop := r.tries + 1 ≥ 4 ∨ w + ZR (r.tries + 1) > 9999
instance (r : Rc) (w : Int) : Decidable (NU r w) := by unfold NU; infer_instance
def J3 (s : Sp) (i k : Nat) (w : Int) : Sp × Bool := if NU ((s.items.getD i default).to.getD k default) w then (s, false) else (PH s i k w, true)
def mC : Ct := Aq (lc BA l0) (fun p => p.1 ≤ 40) (fun p => .t (.v (.int .i64 (ZR p.1))))
theorem dS {G : Gt} (hG : Ai G) : Gd G 146 (AA 0 mC) := by
 refine gr (fn := Tryz.f146) (n := 1) rfl hG ?_
 rintro ⟨t, ⟨⟩⟩ hpre
 simp -implicitDefEqProofs only [Tryz.f146, go_sem, seval] at hpre ⊢
 refine AF [] (ι := {j : Nat // j ≤ (t - 1).toNat}) (fun p => ⟨[(0, .t (.v (.int .i64 t))), (3, .t (.v (.int .i64 (2 * 2 ^ p.1)))), (4, .t (.v (.int .i64 (p.1 + 1))))], []⟩) (fun p => (t - 1).toNat - p.1) ⟨0, by simp⟩ rfl ?_ ?_
 ·simp -implicitDefEqProofs only [go_sem, seval]
  try simp
 ·rintro ⟨j, hj⟩
  have hb : (2 : Int) ^ j ≤ 2 ^ 40 := Np (by omega)
  have hp : (0 : Int) ≤ 2 ^ j := Int.le_of_lt (Int.pow_pos (by omega))
  have h40 : (2 : Int) ^ 40 = 1099511627776 := by decide
  simp -implicitDefEqProofs only [go_sem, seval]
  with_reducible repeat' (first | apply ai | intro _ | ((first | apply s1 | apply s3 | apply s4) <;> intro hb <;> simp -implicitDefEqProofs only [hb, go_sem, seval] <;> try simp only [qz] at hb))
  all_goals first | rfl | omega | skip
  ·refine ⟨⟨j + 1, by omega⟩, by dsimp only; omega, ?_⟩
   simp -implicitDefEqProofs only [go_sem, seval]
   with_reducible repeat' (first | apply ai | intro _ | ((first | apply s1 | apply s3 | apply s4) <;> intro hb <;> simp -implicitDefEqProofs only [hb, go_sem, seval] <;> try simp only [qz] at hb))
   all_goals first | rfl | (simp; omega) | (refine congrArg (fun z => AV.t (T.v (Value.int .i64 z))) ?_; rw [Int.pow_succ]; omega) | (refine congrArg (fun z => AV.t (T.v (Value.int .i64 z))) ?_; simp; done)
  ·rw [show ZR t = 2 * 2 ^ j from by unfold ZR; rw [show (t - 1).toNat = j from by omega]]
def t6 : Ct := Aq (lc Px.ag (lc BA (lc BA (lc BA l0)))) (fun p => Fg p.1 ∧ Bk p.1 ∧ (0 ≤ p.2.1 ∧ p.2.1 < p.1.items.length) ∧ (0 ≤ p.2.2.1 ∧ p.2.2.1 < (p.1.items.getD p.2.1.toNat default).to.length) ∧ 0 ≤ p.2.2.2.1 ∧ p.2.2.2.1 ≤ 9999) (fun p => gW (J3 p.1 p.2.1.toNat p.2.2.1.toNat p.2.2.2.1))
section
attribute [local go_sem] QY mC Ic IL List.take_length List.drop_zero List.length_take List.length_drop lm List.length_append List.length_cons List.length_nil List.map_append List.map_nil List.map_cons List.nil_append Nat.zero_add List.mem_singleton forall_eq Bool.not_true Bool.not_false gW PH AZ BQ List.length_set
set_option maxHeartbeats 1600000 in
theorem qX {G : Gt} (hG : Ai G) (hh : G.e 145 = AA 0 QY ∧ G.e 146 = AA 0 mC) : Gd G 93 (AA 1 t6) := by
 refine Lr (dp := fun n => Nat.ble 100000 n) (fn := Tryz.f93) (n := 4) rfl hG ?_
 rintro ⟨s, i, k, w, ⟨⟩⟩ hpre
 dsimp only at hpre ⊢
 obtain ⟨hok, hsp, ⟨hi0, hi1⟩, ⟨hk0, hk1⟩, hw0, hw1⟩ := hpre
 obtain ⟨ni, rfl⟩ := Int.eq_ofNat_of_zero_le hi0
 obtain ⟨nk, rfl⟩ := Int.eq_ofNat_of_zero_le hk0
 have hok' : Gl Ff s.items := hok
 simp only [tn] at hk1 ⊢
 have hx := hok'.at (i := ni) (by omega)
 have hmax := hok'.1
 have hmx : ((s.items.getD ni default).to.length : Int) ≤ 1048576 := hx.2.1.1
 have hi2 : ni < s.items.length := by omega
 have hk2 : nk < (s.items.getD ni default).to.length := by omega
 have hk3 : nk < ((s.items.getD ni default).to.map BJ).length := by rw [lm]; exact hk2
 have hr := (hsp.1 _ (AE hi2)).1.1 _ (AE hk2)
 obtain ⟨_, ⟨ht0, ht1⟩, _⟩ := hr
 obtain ⟨hp0, hp1⟩ := Yj (t := ((s.items.getD ni default).to.getD nk default).tries + 1) (m := 3) (by omega)
 have h8 : (2 : Int) * 2 ^ 3 = 16 := by decide
 by_cases hno : NU ((s.items.getD ni default).to.getD nk default) w
 ·unfold J3
  rw [if_pos hno]
  rcases hno with hno | hno
  ·simp -implicitDefEqProofs only [Tryz.f93, tn, hno, decide_true, go_sem, hh, seval]
   with_reducible repeat' (first | apply ai | intro _ | ((first | apply s1 | apply s3 | apply s4) <;> intro hb <;> simp -implicitDefEqProofs only [hb, go_sem, hh, seval] <;> try simp only [qz] at hb))
   all_goals first | rfl | omega | assumption | decide | skip
   all_goals trace_state
  ·simp -implicitDefEqProofs only [Tryz.f93, tn, hno, decide_true, go_sem, hh, seval]
   with_reducible repeat' (first | apply ai | intro _ | ((first | apply s1 | apply s3 | apply s4) <;> intro hb <;> simp -implicitDefEqProofs only [hb, go_sem, hh, seval] <;> try simp only [qz] at hb))
   all_goals first | rfl | omega | assumption | decide | skip
   all_goals trace_state
 ·unfold J3
  rw [if_neg hno]
  have hno1 : ¬ ((s.items.getD ni default).to.getD nk default).tries + 1 ≥ 4 := fun h => hno (.inl h)
  have hno2 : ¬ w + ZR (((s.items.getD ni default).to.getD nk default).tries + 1) > 9999 := fun h => hno (.inr h)
  simp -implicitDefEqProofs only [Tryz.f93, tn, Eb hk3, hno1, hno2, decide_false, go_sem, hh, seval]
  with_reducible repeat' (first | apply ai | intro _ | ((first | apply s1 | apply s3 | apply s4) <;> intro hb <;> simp -implicitDefEqProofs only [hb, go_sem, hh, seval] <;> try simp only [qz] at hb))
  all_goals first | rfl | omega | assumption | decide | skip
  refine congrArg (T.sl 5) ?_
  rw [rr, Y3]
  rfl
end
section
variable {s : Sp} {n : Int} {a : Ad} {w : Int}
end
theorem Mz {s : AS} {K : Kt} : Rz [] false s K = (K (.t (.v (.bool true))) s ∧ K (.t (.v (.bool false))) s) := propext ⟨fun h => ⟨h.1 rfl, h.2⟩, fun h => ⟨fun _ => h.1, h.2⟩⟩
theorem My {e : List T} {es : List (List T)} {s : AS} {K : Kt} : Rz (e :: es) false s K = K (.t (.v (.bool false))) s := propext ⟨fun h => h.2, fun h => ⟨fun e => (by cases e), h⟩⟩
theorem Ur {xs : List Rc} {i : Nat} (h : i < xs.length) : ((xs.map Rc.addr).take (i + 1)).map Az = ((xs.map Rc.addr).take i).map Az ++ [[.v (.string (xs.getD i default).addr.user), .v (.string (xs.getD i default).addr.domain)]] := by
 have e : (xs.map Rc.addr).getD i default = (xs.getD i default).addr := by
  simp only [List.getD_eq_getElem?_getD, List.getElem?_map, List.getElem?_eq_getElem h, Option.map_some, Option.getD_some]
 rw [BL Az (by rw [lm]; exact h), e]
 rfl
noncomputable def ML (s : Sp) (n : Int) (a : Ad) : AV := if At s n < 0 then .tup [.t (.v (.int .i64 0)), .t (.v (.int .i64 0)), .t (.v (.bool false))] else .tup [.t (.v (.int .i64 (At s n))), .t (.v (.int .i64 (BR (Aa s n) a))), .t (.v (.bool (decide (BR (Aa s n) a ≥ 0))))]
theorem O2 (s : Sp) (n : Int) (a : Ad) : BT (ML s n a) := by
 unfold ML
 split
 all_goals
  refine .tup _ fun c hc => ?_
  simp only [List.mem_cons, List.not_mem_nil, or_false] at hc
  rcases hc with rfl | rfl | rfl <;> exact .v _
theorem SY {s : Sp} {n : Int} {a : Ad} (h : At s n < 0) : ML s n a = .tup [.t (.v (.int .i64 0)), .t (.v (.int .i64 0)), .t (.v (.bool false))] := if_pos h
theorem NM {s : Sp} {n : Int} {a : Ad} (h : ¬ At s n < 0) : ML s n a = .tup [.t (.v (.int .i64 (At s n))), .t (.v (.int .i64 (BR (Aa s n) a))), .t (.v (.bool (decide (BR (Aa s n) a ≥ 0))))] := if_neg h
def tm : Ct := Aq (lc BA l0) (fun p => True) (fun p => .t (.v (.bool (BV (0 ≤ p.1 ∧ p.1 ≤ 9999)))))
section
attribute [local go_sem] V3
theorem pZ {G : Gt} (hG : Ai G) (hh : G.e 27 = AA 0 V3) : Gd G 28 (AA 0 tm) := by
 refine gr (fn := Tryz.f28) (n := 1) rfl hG ?_
 rintro ⟨n, ⟨⟩⟩ hpre
 simp -implicitDefEqProofs only [Tryz.f28, go_sem, hh, seval] at hpre ⊢
 with_reducible repeat' (first | apply ai | intro _ | ((first | apply s1 | apply s3 | apply s4) <;> intro hb <;> simp -implicitDefEqProofs only [hb, go_sem, hh, seval] <;> try simp only [qz] at hb))
 all_goals first | rfl | skip
end
def bV : Ct := Aq (lc Ey.ag l0) (fun p => Ff p.1) (fun p => .t (.v (.bool (BV (Dm p.1)))))
section
attribute [local go_sem] bZ V3 tm su bW sw Ic IL List.take_length List.drop_zero List.length_take List.length_drop lm List.length_append List.length_cons List.length_nil List.map_append List.map_nil List.map_cons List.nil_append Nat.zero_add List.mem_singleton forall_eq Bool.not_true Bool.not_false Ae Ac
set_option maxHeartbeats 1600000 in
theorem cl {G : Gt} (hG : Ai G) (hh : G.e 47 = AA 0 bZ ∧ G.e 27 = AA 0 V3 ∧ G.e 28 = AA 0 tm ∧ G.e 45 = AA 0 su ∧ G.e 153 = AA 0 bW ∧ G.e 46 = AA 0 sw) : Gd G 102 (AA 0 bV) := by
 refine gr (fn := Tryz.f102) (n := 1) rfl hG ?_
 rintro ⟨x, ⟨⟩⟩ hpre
 simp -implicitDefEqProofs only [Tryz.f102, go_sem, hh, seval] at hpre ⊢
 obtain ⟨⟨_, hfd⟩, ⟨hl1, hto⟩, ⟨hl2, hbd⟩⟩ := hpre
 have hfd' : x.frm.domain.size ≤ 2000000 := by have : x.frm.domain.size ≤ 1048576 := hfd; omega
 have hbd' : ∀ s ∈ x.body, s.size ≤ 2000000 := fun s hs => by have : s.size ≤ 1048576 := hbd s hs; omega
 have hto' : ∀ j, j < x.to.length → (x.to.getD j default).addr.domain.size ≤ 2000000 := fun j hj => by have : (x.to.getD j default).addr.domain.size ≤ 1048576 := (hto _ (AE hj)).2; omega
 with_reducible repeat' (first | apply ai | intro _ | ((first | apply s1 | apply s3 | apply s4) <;> intro hb <;> simp -implicitDefEqProofs only [hb, go_sem, hh, seval] <;> try simp only [qz] at hb))
 all_goals first | rfl | skip
 refine AF [(3, 1903, true, 2)] (ι := {i : Nat // i ≤ x.to.length ∧ ∀ j, j < i → OQ (x.to.getD j default)}) (fun p => ⟨[(1, .pb 1001 0), (3, .h 1903), (7, .t (.sl 4 (x.to.map BJ))), (8, .t (.v (.int .i64 x.to.length))), (9, .t (.v (.int .i64 p.1)))], [(1001, some (.box ((Ag x).map .t))), (1903, some (.arr true 2 (((x.to.map Rc.addr).take p.1).map Az)))]⟩) (fun p => x.to.length - p.1) ⟨0, by simp, by simp⟩ rfl ?_ ?_
 ·simp -implicitDefEqProofs only [go_sem, hh, seval]
  try simp
 ·rintro ⟨i, hi, hall⟩
  by_cases hlt : (i : Int) < x.to.length
  ·have hd := hto' i (by omega)
   have hlen : ((x.to.map Rc.addr).take i).length = i := by simp; omega
   simp -implicitDefEqProofs only [hlt, decide_true, tn, go_sem, hh, seval]
   with_reducible repeat' (first | apply ai | intro _ | ((first | apply s1 | apply s3 | apply s4) <;> intro hb <;> simp -implicitDefEqProofs only [hb, go_sem, hh, seval] <;> try simp only [qz] at hb))
   all_goals (try simp only [maxLen] at *)
   all_goals first | rfl | omega | assumption | decide | skip
   all_goals first
    | (rw [AN (fun h => by have h1 := h.1 _ (AE (xs := x.to) (j := i) (by omega)); first | exact hb h1.1 | exact hb h1.2.1 | exact hb h1.2.2)]; done)
    | skip
   refine ⟨⟨i + 1, by omega, DL (P := OQ) hall ⟨by assumption, by assumption, by assumption⟩⟩, by dsimp only; omega, ?_⟩
   simp -implicitDefEqProofs only [go_sem, hh, seval]
   simp only [Ur (show i < x.to.length by omega)]
   with_reducible repeat' (first | apply ai | intro _ | ((first | apply s1 | apply s3 | apply s4) <;> intro hb <;> simp -implicitDefEqProofs only [hb, go_sem, hh, seval] <;> try simp only [qz] at hb))
   all_goals first | rfl | (simp; done) | (simp; omega)
  ·have hA : ∀ r ∈ x.to, OQ r := BX fun j hj => hall j (by omega)
   simp -implicitDefEqProofs only [hlt, decide_false, go_sem, hh, seval]
   with_reducible repeat' (first | apply ai | intro _ | ((first | apply s1 | apply s3 | apply s4) <;> intro hb <;> simp -implicitDefEqProofs only [hb, go_sem, hh, seval] <;> try simp only [qz] at hb))
   all_goals (try simp only [maxLen] at *)
   all_goals first | rfl | omega | assumption | decide | exact hbd' _ (by assumption) | skip
   all_goals (try rw [List.take_of_length_le (by rw [lm]; omega)] at hb)
   all_goals first
    | (rw [AW]
       exact ⟨fun h => ⟨hA, hb, by assumption, by assumption, by omega, h⟩, fun h => h.2.2.2.2.2⟩)
    | (rw [AN]
       intro h
       first
        | exact hb h.2.1
        | exact hb h.2.2.1
        | exact hb h.2.2.2.1
        | exact hb (by have := h.2.2.2.2.1; omega))
    | skip
end
def bY : Ct := Aq (lc Px.ag l0) (fun p => Fg p.1) (fun p => .t (.v (.bool (BV (Bk p.1)))))
section
attribute [local go_sem] bV V3 Ic IL List.take_length List.drop_zero List.length_take List.length_drop lm List.length_append List.length_cons List.length_nil List.map_append List.map_nil List.map_cons List.nil_append Nat.zero_add List.mem_singleton forall_eq Bool.not_true Bool.not_false Ae Ac
set_option maxHeartbeats 1600000 in
theorem pq {G : Gt} (hG : Ai G) (hh : G.e 102 = AA 0 bV ∧ G.e 27 = AA 0 V3) : Gd G 43 (AA 0 bY) := by
 refine gr (fn := Tryz.f43) (n := 1) rfl hG ?_
 rintro ⟨s, ⟨⟩⟩ hpre
 simp -implicitDefEqProofs only [Tryz.f43, go_sem, hh, seval] at hpre ⊢
 have hok' : Gl Ff s.items := hpre
 have hmx := hok'.1
 with_reducible repeat' (first | apply ai | intro _ | ((first | apply s1 | apply s3 | apply s4) <;> intro hb <;> simp -implicitDefEqProofs only [hb, go_sem, hh, seval] <;> try simp only [qz] at hb))
 all_goals first | rfl | skip
 refine AF [] (ι := {i : Nat // i ≤ s.items.length ∧ (∀ j, j < i → Dm (s.items.getD j default) ∧ (s.items.getD j default).id ≤ s.last) ∧ ∀ j, 0 < j → j < i → (s.items.getD (j - 1) default).id < (s.items.getD j default).id}) (fun p => ⟨[(1, .pb 1001 0), (3, .t (.v (.int .i64 (if p.1 = 0 then 0 else (s.items.getD (p.1 - 1) default).id)))), (7, .t (.sl 5 (s.items.map Ag))), (8, .t (.v (.int .i64 s.items.length))), (9, .t (.v (.int .i64 p.1)))], [(1001, some (.box ((Dt s).map .t)))]⟩) (fun p => s.items.length - p.1) ⟨0, by simp, by simp, by simp⟩ rfl ?_ ?_
 ·simp -implicitDefEqProofs only [go_sem, hh, seval]
  try simp
 ·rintro ⟨i, hi, hall, hasc⟩
  have hgen : ∀ L : Int, L = (if i = 0 then 0 else (s.items.getD (i - 1) default).id) → True := fun _ _ => trivial
  obtain ⟨L, hL⟩ : ∃ L : Int, L = (if i = 0 then 0 else (s.items.getD (i - 1) default).id) := ⟨_, rfl⟩
  by_cases hlt : (i : Int) < s.items.length
  ·have hok := hok'.at (i := i) (by omega)
   dsimp only
   rw [← hL]
   simp -implicitDefEqProofs only [hlt, decide_true, tn, go_sem, hh, seval]
   with_reducible repeat' (first | apply ai | intro _ | ((first | apply s1 | apply s3 | apply s4) <;> intro hb <;> simp -implicitDefEqProofs only [hb, go_sem, hh, seval] <;> try simp only [qz] at hb))
   all_goals (try simp only [maxLen] at *)
   all_goals first | rfl | omega | assumption | decide | skip
   all_goals (try have h0 := (show Dm (s.items.getD i default) from by assumption).2.2.1)
   all_goals first
    | (rw [AN]
       intro h
       have h1 := h.1 _ (AE (xs := s.items) (j := i) (by omega))
       first
        | exact hb h1.1
        | omega
        | (by_cases e : i = 0
           ·rw [if_pos e] at hL; omega
           ·rw [if_neg e] at hL
            have h2 := h.2.1 i (by omega) (by omega)
            omega))
    | skip
   refine ⟨⟨i + 1, by omega, DL (P := fun x : Im => Dm x ∧ x.id ≤ s.last) hall ⟨by assumption, by omega⟩, fun j h0 hj => ?_⟩, by dsimp only; omega, ?_⟩
   ·by_cases e : j = i
    ·subst e
     rw [if_neg (by omega)] at hL
     omega
    ·exact hasc j h0 (by omega)
   ·simp -implicitDefEqProofs only [go_sem, hh, seval]
    try simp
  ·dsimp only
   rw [← hL]
   simp -implicitDefEqProofs only [hlt, decide_false, go_sem, hh, seval]
   with_reducible repeat' (first | apply ai | intro _ | ((first | apply s1 | apply s3 | apply s4) <;> intro hb <;> simp -implicitDefEqProofs only [hb, go_sem, hh, seval] <;> try simp only [qz] at hb))
   all_goals (try simp only [maxLen] at *)
   all_goals first | rfl | omega | assumption | decide | skip
   ·refine congrArg (fun b => T.v (Value.bool b)) ?_
    rw [← BI, AW]
    exact ⟨fun h => ⟨BX fun j hj => hall j (by omega), fun j h0 hj => hasc j h0 (by omega), hb, by omega⟩, fun h => by have := h.2.2.2; omega⟩
   ·rw [AN (fun h => hb h.2.2.1)]
end
def l9 : Ct := Aq (lc Pw.asl l0) (fun p => (p.1.length : Int) ≤ 1048576) (fun p => .o true 4 (p.1.map BJ))
section
attribute [local go_sem] Mz My lm List.nil_append List.map_nil List.map_cons List.length_cons List.length_nil
theorem dN {G : Gt} (hG : Ai G) : Gd G 138 (AA 0 l9) := by
 refine gr (fn := Tryz.f138) (n := 1) rfl hG ?_ (hs := fun _ _ => .deep _ _)
 rintro ⟨xs, ⟨⟩⟩ hpre
 dsimp only at hpre ⊢
 cases xs with
 | nil =>
   simp -implicitDefEqProofs only [Tryz.f138, go_sem, seval]
   with_reducible repeat' (first | apply ai | intro _ | ((first | apply s1 | apply s3 | apply s4) <;> intro hb <;> simp -implicitDefEqProofs only [hb, go_sem, seval] <;> try simp only [qz] at hb))
   all_goals (try simp only [maxLen, lm] at *)
   all_goals first | rfl | omega | exact of_eq_true (Mm []) | (simp; done) | skip
 | cons x xs =>
   simp only [List.length_cons] at hpre
   simp -implicitDefEqProofs only [Tryz.f138, go_sem, seval]
   with_reducible repeat' (first | apply ai | intro _ | ((first | apply s1 | apply s3 | apply s4) <;> intro hb <;> simp -implicitDefEqProofs only [hb, go_sem, seval] <;> try simp only [qz] at hb))
   all_goals (try simp only [maxLen, lm] at *)
   all_goals first | rfl | omega | exact of_eq_true (Mm (x :: xs)) | exact of_eq_true (Xu (x :: xs)) _ (by assumption) | (simp; done) | skip
end
def U0 : Ct := Aq (lc Ah.asl l0) (fun p => (p.1.length : Int) ≤ 1048576) (fun p => .o true 1 (p.1.map AH))
section
attribute [local go_sem] Mz My lm List.nil_append List.map_nil List.map_cons List.length_cons List.length_nil
theorem qB {G : Gt} (hG : Ai G) : Gd G 68 (AA 0 U0) := by
 refine gr (fn := Tryz.f68) (n := 1) rfl hG ?_ (hs := fun _ _ => .deep _ _)
 rintro ⟨xs, ⟨⟩⟩ hpre
 dsimp only at hpre ⊢
 cases xs with
 | nil =>
   simp -implicitDefEqProofs only [Tryz.f68, go_sem, seval]
   with_reducible repeat' (first | apply ai | intro _ | ((first | apply s1 | apply s3 | apply s4) <;> intro hb <;> simp -implicitDefEqProofs only [hb, go_sem, seval] <;> try simp only [qz] at hb))
   all_goals (try simp only [maxLen, lm] at *)
   all_goals first | rfl | omega | exact of_eq_true (Jv []) | (simp; done) | skip
 | cons x xs =>
   simp only [List.length_cons] at hpre
   simp -implicitDefEqProofs only [Tryz.f68, go_sem, seval]
   with_reducible repeat' (first | apply ai | intro _ | ((first | apply s1 | apply s3 | apply s4) <;> intro hb <;> simp -implicitDefEqProofs only [hb, go_sem, seval] <;> try simp only [qz] at hb))
   all_goals (try simp only [maxLen, lm] at *)
   all_goals first | rfl | omega | exact of_eq_true (Jv (x :: xs)) | exact of_eq_true (Sr (x :: xs)) _ (by assumption) | (simp; done) | skip
end
theorem aB {n : Int} : LZ.sem (.num n) = fun x : Im => x.id = n := rfl
theorem aC {b : Ad} : OJ.sem (.who b) = fun r : Rc => r.addr = b := rfl
def wq : Ct := Aq (lc Px.ag (lc BA (lc DH.ag l0))) (fun p => True) (fun p => ML p.1 p.2.1 p.2.2.1)
section
attribute [local go_sem] tu xp BO BN An Ao Bool.not_true Bool.not_false Bz DQ DB DD DC DE Mg Mi Mh Mj Rk Rl aB aC
set_option maxHeartbeats 800000 in
theorem pX {G : Gt} (hG : Ai G) (hh : G.e 76 = AA 0 tu ∧ G.e 78 = AA 0 xp) : Gd G 26 (AA 0 wq) := by
 refine gr (fn := Tryz.f26) (n := 3) rfl hG ?_ (hs := fun _ p => O2 _ _ _)
 rintro ⟨s, n, a, ⟨⟩⟩ hpre
 dsimp only
 by_cases hi : At s n < 0
 ·have hi' : BB (fun x : Im => x.id = n) 0 s.items < 0 := hi
  rw [SY hi]
  simp -implicitDefEqProofs only [Tryz.f26, hi', decide_true, go_sem, hh, seval]
  with_reducible repeat' (first | apply ai | intro _ | ((first | apply s1 | apply s3 | apply s4) <;> intro hb <;> simp -implicitDefEqProofs only [hb, go_sem, hh, seval] <;> try simp only [qz] at hb))
  all_goals first | rfl | omega | exact trivial | (simp; done) | skip
 ·have hi' : ¬ BB (fun x : Im => x.id = n) 0 s.items < 0 := hi
  obtain ⟨hi0, hi1⟩ := Bf hi
  have hi0' : 0 ≤ BB (fun x : Im => x.id = n) 0 s.items := hi0
  have hi1' : BB (fun x : Im => x.id = n) 0 s.items < s.items.length := hi1
  rw [NM hi]
  simp -implicitDefEqProofs only [Tryz.f26, hi', decide_false, go_sem, hh, seval]
  with_reducible repeat' (first | apply ai | intro _ | ((first | apply s1 | apply s3 | apply s4) <;> intro hb <;> simp -implicitDefEqProofs only [hb, go_sem, hh, seval] <;> try simp only [qz] at hb))
  all_goals first | rfl | omega | exact trivial | (simp; done) | skip
  all_goals trace_state
end
section
attribute [local go_sem] V3 Ae Ac
end
def nQ : Ct := Aq (lc Px.ag l0) (fun p => Fg p.1) (fun p => RR p.1)
section
attribute [local go_sem] l9 U0 lm List.length_append List.length_cons List.length_nil List.map_append List.mem_singleton forall_eq AS.nilb AS.renb Bool.not_false Bool.not_true List.set_cons_zero List.set_cons_succ List.set_nil
set_option maxHeartbeats 1600000 in
theorem qH {G : Gt} (hG : Ai G) (hh : G.e 138 = AA 0 l9 ∧ G.e 68 = AA 0 U0) : Gd G 74 (AA 0 nQ) := by
 refine gr (fn := Tryz.f74) (n := 1) rfl hG ?_ (hs := fun _ p => HD _)
 rintro ⟨s, ⟨⟩⟩ hpre
 simp -implicitDefEqProofs only [Tryz.f74, go_sem, hh, seval] at hpre ⊢
 have hok' : Gl Ff s.items := hpre
 have hmx := hok'.1
 with_reducible repeat' (first | apply ai | intro _ | ((first | apply s1 | apply s3 | apply s4) <;> intro hb <;> simp -implicitDefEqProofs only [hb, go_sem, hh, seval] <;> try simp only [qz] at hb))
 all_goals first | rfl | skip
 refine AF [(3, 1903, true, 5)] (ι := {i : Nat // i ≤ s.items.length}) (fun p => ⟨[(1, .pb 1001 0), (2, .pb 1002 0), (3, .h 1903), (7, .t (.sl 5 (s.items.map Ag))), (8, .t (.v (.int .i64 s.items.length))), (9, .t (.v (.int .i64 p.1)))], [(1001, some (.box ((Dt s).map .t))), (1002, some (.box [.t (.v (.int .i64 0)), .nil])), (1903, some (.arr true 5 ((s.items.take p.1).map Ag)))]⟩) (fun p => s.items.length - p.1) ⟨0, by simp⟩ rfl ?_ ?_
 ·simp -implicitDefEqProofs only [go_sem, hh, seval]
  try simp
 ·rintro ⟨i, hi⟩
  by_cases hlt : (i : Int) < s.items.length
  ·have hok := hok'.at (i := i) (by omega)
   obtain ⟨_, ⟨hl1, _⟩, ⟨hl2, _⟩⟩ := hok
   have hlen : (s.items.take i).length = i := by simp; omega
   simp -implicitDefEqProofs only [hlt, decide_true, tn, go_sem, hh, seval]
   with_reducible repeat' (first | apply ai | intro _ | ((first | apply s1 | apply s3 | apply s4) <;> intro hb <;> simp -implicitDefEqProofs only [hb, go_sem, hh, seval] <;> try simp only [qz] at hb))
   all_goals (try simp only [maxLen] at *)
   all_goals first | rfl | omega | assumption | decide | skip
   refine ⟨⟨i + 1, by omega⟩, by dsimp only; omega, ?_⟩
   simp -implicitDefEqProofs only [go_sem, hh, seval]
   simp only [BL Ag (show i < s.items.length by omega)]
   with_reducible repeat' (first | apply ai | intro _ | ((first | apply s1 | apply s3 | apply s4) <;> intro hb <;> simp -implicitDefEqProofs only [hb, go_sem, hh, seval] <;> try simp only [qz] at hb))
   all_goals first | rfl | (simp; done) | skip
  ·simp -implicitDefEqProofs only [hlt, decide_false, go_sem, hh, seval]
   with_reducible repeat' (first | apply ai | intro _ | ((first | apply s1 | apply s3 | apply s4) <;> intro hb <;> simp -implicitDefEqProofs only [hb, go_sem, hh, seval] <;> try simp only [qz] at hb))
   all_goals (try simp only [maxLen] at *)
   all_goals first | rfl | omega | assumption | decide | skip
   rw [List.take_of_length_le (by omega)]
end
theorem XO {s : Sp} {n : Int} {a : Ad} {ni nk : Nat} (h : At s n = ni) (ht : Aa s n = s.items.getD ni default) (hk : BR (Aa s n) a = nk) : ML s n a = .tup [.t (.v (.int .i64 ni)), .t (.v (.int .i64 nk)), .t (.v (.bool true))] := by
 rw [NM (by omega), h, hk, decide_eq_true (by omega : (nk : Int) ≥ 0)]
section
attribute [local go_sem] bY nQ wq tm lm List.length_set tn AZ BQ Uf AS.opn AS.cls AS.nilb AS.renb Bool.not_false Bool.not_true List.set_set List.set_cons_zero List.set_cons_succ List.set_nil List.mem_singleton forall_eq
end
end Go.V
namespace Go.V
open Go Go.Proofs Go.Shelf Go.RowKit Go.Lib Go.Sort
set_option maxRecDepth 1000000
set_option linter.unusedSimpArgs false
set_option linter.unusedVariables false
theorem FN {P : Program} (w : World) (t ty e : TypeId) (i : TypeInfo) (ht : P.underlying t = some (.slice e)) (hi : P.info? e = some i) (b sLen sCap : Nat) (cur : Array Value) (et : TypeId) (hb : w.heap[b]? = some (.cells cur et (0, 0)))
    (a : Addr) (m c : Nat) (As : List Value) (hl : As.length = m * i.size) (hnews : ∀ j u, As[j]? = some u → w.cell? (a.add j) = some u) (h1 : ∀ u ∈ As, u.oneCell' = true) (hroom : sLen + m ≤ sCap) (hsz : sLen * i.size + As.length ≤ cur.size) :
    (Builtin.append_ #[t, t] ty #[.slice (some ⟨b, 0, none⟩) sLen sCap, .slice (some a) m c]).run P w = .ok (.slice (some ⟨b, 0, none⟩) (sLen + m) sCap) (w.setRow b (Go.V.splice cur.toList (sLen * i.size) As).toArray) := by
 have hfc := run_firstCells_some (P := P) w i.size m a m c As hl hnews
 have Ar := run_storeCells_at P b (sLen * i.size) et As 0 cur w hb (by simpa using hsz) h1
 simp only [Nat.add_zero, List.append_assoc] at Ar
 simp [Builtin.append_, run_underlying ht, sizeOf, typeInfo, hi, Builtin.lenOf, hroom, hfc, Addr.add_lit, Ar, Go.V.splice]
theorem Gj {P : Program} {ops : Array Oper} {o : Oper} {a : Act} {w : World} {K : Act → World → Prop} {Q : Exit → Act → World → Prop} {E : Prop}
    (hg : o.guard = none) (s x : Operand) (t : TypeId) (hop : o.op = Op.call { callee := Callee.builtin Builtin.append, args := #[s, x], argTypes := #[t, t] })
    (r : Value) (W' : World) (hrun : (Builtin.append_ #[t, t] o.type #[a.eval s, a.eval x]).run P w = .ok r W')
    (hK : K (a.put o.dst r) W') :
    if Region.wanted o (yielded ops a.tmps) = true then Oper.wp P o a w K Q else E := by
 have hw : Region.wanted o (yielded ops a.tmps) = true := by simp [Region.wanted, hg]
 rw [if_pos hw]
 unfold Oper.wp
 simp [execOp, hop, resolve, invoke, builtin, hrun, Result.andThen]
 exact hK
theorem I4 {P : Program} (w : World) (t e : TypeId) (z : Value) (size : Nat) (ht : P.underlying t = some (.slice e)) (hv : ∀ w, (zeroValue e).run P w = .ok z w) (hz : z.cells.size = size) (h1 : ∀ u ∈ z.cells.toList, u.oneCell' = true) (b o n c : Nat) (hn : 0 < n) (cur : Array Value) (et : TypeId)
    (hb : w.heap[b]? = some (.cells cur et (0, 0))) (hs : o + n * size ≤ cur.size) :
    ∃ cs : List Value, cs.length = n * size ∧ ∀ ty, (Builtin.clear_ #[t] ty #[.slice (some ⟨b, o, none⟩) n c]).run P w = .ok (.tuple #[]) (w.setRow b (Go.V.splice cur.toList o cs).toArray) := by
 have hlen : (Builtin.zeroCells z.cells n).toList.length = n * size := by
  simp [Builtin.zeroCells, hz]
 have hone : ∀ u ∈ (Builtin.zeroCells z.cells n).toList, u.oneCell' = true := by
  intro u hu
  simp only [Builtin.zeroCells, Array.toList_map, List.mem_map] at hu
  obtain ⟨k, hk, rfl⟩ := hu
  have hk2 : k < n * z.cells.size := by simpa using hk
  have hpos : 0 < z.cells.size := by
   rcases Nat.eq_zero_or_pos z.cells.size with h | h
   ·rw [h] at hk2; omega
   ·exact h
  have hlt : k % z.cells.size < z.cells.size := Nat.mod_lt _ hpos
  rw [getElem!_pos z.cells _ hlt]
  exact h1 _ (by simp)
 have Ar := run_storeCells_at P b o et (Builtin.zeroCells z.cells n).toList 0 cur w hb (by simpa [hlen] using hs) hone
 simp only [Nat.add_zero, List.append_assoc] at Ar
 obtain ⟨m, rfl⟩ : ∃ m, n = m + 1 := ⟨n - 1, by omega⟩
 refine ⟨_, hlen, fun ty => ?_⟩
 simp [Builtin.clear_, run_underlying ht, hv, Ar, Go.V.splice]
def Mo (n b cap i j len : Nat) (cur : Array Value) (et : TypeId) (w : World) (e : Ending) (w' : World) : Prop :=
 e = .returned (.slice (some ⟨b, 0, none⟩) (len - (j - i)) cap) ∧ ∃ cur' : Array Value, w'.heap[b]? = some (.cells cur' et (0, 0)) ∧ cur'.size = cur.size ∧
  cur'.toList.take ((len - (j - i)) * n) = (cur.toList.take (len * n)).take (i * n) ++ (cur.toList.take (len * n)).drop (j * n) ∧
  w'.os = w.os ∧ w'.tape = w.tape ∧ w'.output = w.output ∧ w'.heap.size = w.heap.size ∧ ∀ c, c ≠ b → w'.heap[c]? = w.heap[c]?
def P4 (P : Program) (f : FuncId) (n : Nat) : Prop := ∀ (w : World) (b cap i j len : Nat) (cur : Array Value) (et : TypeId), w.heap[b]? = some (.cells cur et (0, 0)) → cur.size = cap * n → len ≤ cap → cap ≤ 9223372036854775807 → i < j → j ≤ len → (∀ u ∈ cur.toList.take (len * n), u.oneCell' = true) →
 Calls P f #[.slice (some ⟨b, 0, none⟩) len cap, .int .i64 i, .int .i64 j] w (Mo n b cap i j len cur et w)
theorem B3 {α : Type} {l ys : List α} {o : Nat} (h : o + ys.length ≤ l.length) : (Go.V.splice l o ys).length = l.length := by
 simp [Go.V.splice]; omega
theorem I6 {α : Type} {l ys : List α} {o k : Nat} (h : o ≤ l.length) (hk : k ≤ o) : (Go.V.splice l o ys).take k = l.take k := by
 unfold Go.V.splice
 rw [List.take_append_of_le_length (by simp; omega), List.take_take, Nat.min_eq_left hk]
theorem Dk {α : Type} {l ys : List α} {o : Nat} (h : o ≤ l.length) : (Go.V.splice l o ys).take (o + ys.length) = l.take o ++ ys := by
 unfold Go.V.splice
 rw [← List.append_assoc, List.take_append_of_le_length (by simp; omega), List.take_of_length_le (by simp; omega)]
theorem MF {n b cap i j len : Nat} {cur : Array Value} {et : TypeId} {w : World} (hb : w.heap[b]? = some (.cells cur et (0, 0))) (hs : cur.size = cap * n) (hlc : len ≤ cap) (hij : i < j) (hj : j ≤ len) {As cs : List Value} (hnews : As = (cur.toList.drop (j * n)).take ((len - j) * n))
    (hcs : cs.length = (j - i) * n) {W1 W2 : World} (hW1 : W1 = w.drew.setRow b (Go.V.splice cur.toList (i * n) As).toArray) (hW2 : W2 = W1.setRow b (Go.V.splice (Go.V.splice cur.toList (i * n) As) ((i + (len - j)) * n) cs).toArray) :
    Mo n b cap i j len cur et w (.returned (.slice (some ⟨b, 0, none⟩) (i + (len - j)) cap)) W2 := by
 have e1 : len * n ≤ cap * n := Nat.mul_le_mul_right n hlc
 have e2 : j * n ≤ len * n := Nat.mul_le_mul_right n hj
 have e3 : i * n ≤ j * n := Nat.mul_le_mul_right n (by omega)
 have e4 : (len - j) * n = len * n - j * n := Nat.sub_mul _ _ _
 have e5 : (j - i) * n = j * n - i * n := Nat.sub_mul _ _ _
 have e6 : (i + (len - j)) * n = i * n + (len - j) * n := Nat.add_mul _ _ _
 have hcl : cur.toList.length = cap * n := by simp [hs]
 have hnl : As.length = (len - j) * n := by rw [hnews, List.length_take, List.length_drop, hcl]; omega
 have hl1 : (Go.V.splice cur.toList (i * n) As).length = cap * n := by rw [B3 (by omega), hcl]
 have hl2 : (Go.V.splice (Go.V.splice cur.toList (i * n) As) ((i + (len - j)) * n) cs).length = cap * n := by rw [B3 (by omega), hl1]
 have hb1 : W1.heap[b]? = some (.cells (Go.V.splice cur.toList (i * n) As).toArray et (0, 0)) := by rw [hW1]; exact setRow_heap w.drew b _ _ et _ hb
 refine ⟨by rw [show len - (j - i) = i + (len - j) by omega], (Go.V.splice (Go.V.splice cur.toList (i * n) As) ((i + (len - j)) * n) cs).toArray, by rw [hW2]; exact setRow_heap W1 b _ _ et _ hb1, by rw [List.size_toArray, hl2, hs], ?_, by rw [hW2, hW1]; rfl, by rw [hW2, hW1]; rfl, by rw [hW2, hW1]; rfl, by rw [hW2, hW1]; simp only [World.setRow, Array.size_modify]; rfl, fun c hc => ?_⟩
 ·show (Go.V.splice (Go.V.splice cur.toList (i * n) As) ((i + (len - j)) * n) cs).take _ = _
  rw [show (len - (j - i)) * n = (i + (len - j)) * n by rw [show len - (j - i) = i + (len - j) by omega], I6 (by omega) (Nat.le_refl _), e6, ← hnl, Dk (by omega), List.take_take, Nat.min_eq_left (by omega), hnews, List.drop_take, e4]
 ·rw [hW2, setRow_other W1 b c _ hc, hW1, setRow_other w.drew b c _ hc]
  rfl
theorem Cd {α : Type} {n : Nat} : ∀ {es : List (List α)}, (∀ x ∈ es, x.length = n) → es.flatten.length = es.length * n
 | [], _ => by simp
 | e :: es, h => by
   rw [List.flatten_cons, List.length_append, h e (by simp), Cd fun x hx => h x (by simp [hx]), List.length_cons, Nat.succ_mul]; omega
theorem SQ {P : Program} {m : Int} {f : FuncId} {n : Nat} (hraw : P4 P f n) (es : List (List T)) (i j : Nat) (hij : i < j) (hj : j ≤ es.length) :
    Rn P m f [.o true n es, .t (.v (.int .i64 i)), .t (.v (.int .i64 j))] [.any, .t (.v (.int .i64 i)), .t (.v (.int .i64 j))] (.o true n (es.take i ++ es.drop j)) := by
 intro w pr vs F hgl hA hnd hF hpr
 cases hA with
 | cons _ v0 _ _ F0 _ h0 hA =>
 cases hA with
 | cons _ v1 _ _ F1 _ h1 hA =>
 cases hA with
 | cons _ v2 _ _ F2 _ h2 hA =>
 cases hA with
 | nil =>
 cases h1 with
 | t _ _ h1 =>
 cases h1 with
 | v _ g1 =>
 cases h2 with
 | t _ _ h2 =>
 cases h2 with
 | v _ g2 =>
 cases h0 with
 | o _ _ _ _ _ ha =>
 rcases ha with ⟨rfl, _, _⟩ | ⟨b, len, cap, cur, et, vs', G, rfl, hl, hc, hm, hn, hg, hs, hv, rfl, hr⟩
 ·simp at hj; omega
 have hr : Bd w es.flatten vs' G := hr
 have hvl : vs'.length = len * n := by rw [← hr.len, Cd hn, hl]
 have hone : ∀ u ∈ vs', u.oneCell' = true := fun u hu => by
  obtain ⟨k, hk, rfl⟩ := List.getElem_of_mem hu
  have hk2 : k < es.flatten.length := by rw [hr.len]; exact hk
  obtain ⟨v, _, _, _, q1, q2, _⟩ := hr.at (List.getElem?_eq_getElem hk2)
  rw [List.getElem?_eq_getElem hk, Option.some.injEq] at q1
  rw [q1]; exact q2.one
 have hcall := hraw w b cap i j len cur et hg hs hc hm hij (by omega) (by rw [hv]; exact hone)
 refine Calls.mono hcall fun e w' hq => ?_
 obtain ⟨he, cur', c1, c2, c3, o1, o2, o3, o4, o5⟩ := hq
 rw [hv] at c3
 have hes : es = es.take i ++ ((es.drop i).take (j - i) ++ es.drop j) := by
  have h2 : es.drop j = (es.drop i).drop (j - i) := by rw [List.drop_drop]; congr 1; omega
  rw [h2, List.take_append_drop, List.take_append_drop]
 have hvs : vs' = vs'.take (i * n) ++ ((vs'.drop (i * n)).take ((j - i) * n) ++ vs'.drop (j * n)) := by
  have h2 : vs'.drop (j * n) = (vs'.drop (i * n)).drop ((j - i) * n) := by
   rw [List.drop_drop]; congr 1
   rw [← Nat.add_mul]; congr 1; omega
  rw [h2, List.take_append_drop, List.take_append_drop]
 have e1 : i * n ≤ len * n := Nat.mul_le_mul_right n (by omega)
 have e2 : j * n ≤ len * n := Nat.mul_le_mul_right n (by omega)
 have e5 : (j - i) * n = j * n - i * n := Nat.sub_mul _ _ _
 have e7 : i * n ≤ j * n := Nat.mul_le_mul_right n (by omega)
 have l1 : (es.take i).flatten.length = i * n := by rw [Cd fun x hx => hn x (List.mem_of_mem_take hx), List.length_take]; congr 1; omega
 have l2 : ((es.drop i).take (j - i)).flatten.length = (j - i) * n := by rw [Cd fun x hx => hn x (List.mem_of_mem_drop (List.mem_of_mem_take hx)), List.length_take, List.length_drop]; congr 1; omega
 have hr2 : Bd w ((es.take i).flatten ++ (((es.drop i).take (j - i)).flatten ++ (es.drop j).flatten)) (vs'.take (i * n) ++ ((vs'.drop (i * n)).take ((j - i) * n) ++ vs'.drop (j * n))) G := by
  rw [← List.flatten_append, ← List.flatten_append, ← hes, ← hvs]; exact hr
 obtain ⟨G1, G', rfl, d1, hr3⟩ := Bd.split hr2 (by rw [l1, List.length_take]; omega)
 obtain ⟨G2, G3, rfl, d2, d3⟩ := Bd.split hr3 (by rw [l2, List.length_take, List.length_drop]; omega)
 simp only [List.append_nil] at hnd hF ⊢
 have hsub : ∀ c ∈ G1 ++ G3, c ∈ G1 ++ (G2 ++ G3) := fun c hc => by
  simp only [List.mem_append] at hc ⊢
  exact hc.elim .inl fun h => .inr (.inr h)
 have hbn : b ∉ G1 ++ (G2 ++ G3) := (List.nodup_cons.1 hnd).1
 have hne : ∀ c ∈ G1 ++ G3, c ≠ b := fun c hc e => hbn (e ▸ hsub c hc)
 have hnd2 : (b :: (G1 ++ G3)).Nodup := List.nodup_cons.2 ⟨fun h => hbn (hsub b h), List.Nodup.sublist (List.sublist_append_right G2 G3 |>.append_left G1) (List.nodup_cons.1 hnd).2⟩
 have hd : Bd w' (es.take i ++ es.drop j).flatten (vs'.take (i * n) ++ vs'.drop (j * n)) (G1 ++ G3) := by
  rw [List.flatten_append]
  exact (d1.append d3).keep fun c hc => o5 c (hne c hc)
 refine ⟨_, pr, [], b :: (G1 ++ G3), he, ⟨o1, o2, o3, by omega, fun k _ hk => o5 k fun e => hk (by rw [e]; simp)⟩, fun _ h => h, fun _ h => .inl h, fun c hc => by rw [o4]; exact hpr c hc, .cons _ _ _ _ [] [] (.any _) (.cons _ _ _ _ [] [] (.t _ _ (.v _ g1)) (.cons _ _ _ _ [] [] (.t _ _ (.v _ g2)) .nil)), .o _ _ _ _ _ (.inr ⟨b, len - (j - i), cap, cur', et, _, G1 ++ G3, rfl, ?_, by omega, hm, ?_, c1, by rw [c2, hs], c3, rfl, hd⟩), by simpa using hnd2, fun c hc => ?_⟩
 ·simp; omega
 ·intro x hx
  rcases List.mem_append.1 hx with hx | hx
  ·exact hn x (List.mem_of_mem_take hx)
  ·exact hn x (List.mem_of_mem_drop hx)
 ·simp only [List.nil_append] at hc
  have hin : c ∈ b :: (G1 ++ (G2 ++ G3)) := by
   rcases List.mem_cons.1 hc with e | hc
   ·rw [e]; simp
   ·exact List.mem_cons_of_mem _ (hsub c hc)
  have := hF c (by simpa using hin)
  exact ⟨by rw [o4]; exact this.1, this.2, .inr (by simpa using hin)⟩
theorem pG : Tryz.prog.funcs[80]? = some Tryz.f80 := by kernel_rfl
theorem yX : Tryz.f80.ntmps = 33 := rfl
noncomputable def Xg : TypeInfo := (Tryz.prog.info? 115).get (by kernel_rfl)
theorem Xh : Tryz.prog.info? 115 = some Xg := by kernel_rfl
theorem G5 : Xg.size = 4 := by kernel_rfl
theorem zN (w : World) : (zeroValue 115).run Tryz.prog w = .ok (.agg #[.string ⟨#[]⟩, .string ⟨#[]⟩, .int .i64 0, .int .i64 0]) w := by kernel_rfl
set_option maxHeartbeats 4000000 in
theorem uL : P4 Tryz.prog 80 4 := by
 intro w b cap i j len cur et hb hs hlc hm hij hj hone
 have t0 : Tryz.prog.underlying 0 = some (TypeDesc.tuple #[]) := by kernel_rfl
 have a0 : ∀ w, (isAgg 0).run Tryz.prog w = .ok false w := run_isAgg_plain t0 rfl
 have t3 : Tryz.prog.underlying 3 = some (.int .i64) := by kernel_rfl
 have a3 : ∀ w, (isAgg 3).run Tryz.prog w = .ok false w := run_isAgg_plain t3 rfl
 have t4 : Tryz.prog.underlying 4 = some .bool := by kernel_rfl
 have a4 : ∀ w, (isAgg 4).run Tryz.prog w = .ok false w := run_isAgg_plain t4 rfl
 have tS : Tryz.prog.underlying 74 = some (.slice 115) := by kernel_rfl
 have aS : ∀ w, (isAgg 74).run Tryz.prog w = .ok false w := run_isAgg_plain tS rfl
 have zE : ∀ w, (Go.sizeOf 115).run Tryz.prog w = .ok 4 w := fun w => by kernel_rfl
 have mixed : Tryz.prog.follows .mixedOrders = true := by kernel_rfl
 have hic : i ≤ cap := by omega
 have hjc : j ≤ cap := by omega
 have hil : i ≤ len := by omega
 obtain ⟨As, hnews⟩ : ∃ As, As = (cur.toList.drop (j * 4)).take ((len - j) * 4) := ⟨_, rfl⟩
 have hcl : cur.toList.length = cap * 4 := by simp [hs]
 have hnl : As.length = (len - j) * 4 := by rw [hnews, List.length_take, List.length_drop, hcl]; omega
 obtain ⟨A, hA, hsrc⟩ : ∃ A : Addr, (if cap = j then some (⟨b, 0, none⟩ : Addr) else some ⟨b, j * 4, none⟩) = some A ∧ (∀ t u, As[t]? = some u → w.drew.cell? (A.add t) = some u) := by
  by_cases h : cap = j
  ·refine ⟨⟨b, 0, none⟩, by simp [h], fun t u hu => ?_⟩
   have : t < As.length := (List.getElem?_eq_some_iff.1 hu).1
   omega
  ·refine ⟨⟨b, j * 4, none⟩, by simp [h], fun t u hu => ?_⟩
   rw [hnews, List.getElem?_take] at hu
   split at hu
   ·rw [List.getElem?_drop] at hu
    show w.cell? _ = _
    rw [Addr.add_lit]
    simp only [World.cell?, hb]
    simpa using hu
   ·cases hu
 have hnone : ∀ u ∈ As, u.oneCell' = true := fun u hu => by
  rw [hnews] at hu
  refine hone u ?_
  rw [show (len - j) * 4 = len * 4 - j * 4 by omega, ← List.drop_take] at hu
  exact List.mem_of_mem_drop hu
 obtain ⟨W1, hW1⟩ : ∃ W1, W1 = w.drew.setRow b (Go.V.splice cur.toList (i * 4) As).toArray := ⟨_, rfl⟩
 have hap : Hid (∀ ty, (Builtin.append_ #[74, 74] ty #[.slice (some ⟨b, 0, none⟩) i cap, .slice (some A) (len - j) (cap - j)]).run Tryz.prog w.drew = .ok (.slice (some ⟨b, 0, none⟩) (i + (len - j)) cap) W1) := fun ty => by
  have := FN (P := Tryz.prog) w.drew 74 ty 115 Xg tS Xh b i cap cur et hb A (len - j) (cap - j) As (by rw [G5]; exact hnl) hsrc hnone (by omega) (by rw [G5, hnl, hs]; omega)
  rw [G5] at this
  rw [hW1]; exact this
 have hl1 : (Go.V.splice cur.toList (i * 4) As).length = cap * 4 := by rw [B3 (by omega), hcl]
 have hb1 : W1.heap[b]? = some (.cells (Go.V.splice cur.toList (i * 4) As).toArray et (0, 0)) := by rw [hW1]; exact setRow_heap w.drew b _ _ et _ hb
 obtain ⟨cs, hcs, hcl0⟩ := I4 (P := Tryz.prog) W1 74 115 (.agg #[.string ⟨#[]⟩, .string ⟨#[]⟩, .int .i64 0, .int .i64 0]) 4 tS zN rfl (by intro u hu; simp [Value.cells] at hu; rcases hu with rfl | rfl | rfl | rfl <;> rfl) b ((i + (len - j)) * 4) (len - (i + (len - j))) (cap - (i + (len - j))) (by omega) _ et hb1 (by rw [List.size_toArray, hl1]; omega)
 obtain ⟨W2, hW2⟩ : ∃ W2, W2 = W1.setRow b (Go.V.splice (Go.V.splice cur.toList (i * 4) As) ((i + (len - j)) * 4) cs).toArray := ⟨_, rfl⟩
 have hcl : ∀ ty, (Builtin.clear_ #[74] ty #[.slice (some ⟨b, (i + (len - j)) * 4, none⟩) (len - (i + (len - j))) (cap - (i + (len - j)))]).run Tryz.prog W1 = .ok (.tuple #[]) W2 := fun ty => by rw [hW2]; exact hcl0 ty
 have X : Hid (Mo 4 b cap i j len cur et w (.returned (.slice (some ⟨b, 0, none⟩) (i + (len - j)) cap)) W2) := MF hb hs hlc hij hj hnews (by rw [hcs]; congr 1; omega) hW1 hW2
 clear hW1 hW2 hb hb1 hl1 hcs hcl0 hone hnone hsrc hnl hnews
 go_enter pG, yX
 go_wp2_with fail
 go_region_law_o (refine Gj rfl (.tmp 22) (.tmp 25) 74 rfl (.slice (some ⟨b, 0, none⟩) (i + (len - j)) cap) W1 (by simp [Act.eval, Act.put]; exact hap.out 74) ?_)
 go_wp2
 go_ret
 exact X.out
def xr : Mt := GW (lc (Pw.aow true 4) (lc BA (lc BA l0))) (fun p => 0 ≤ p.2.1 ∧ p.2.1 < p.2.2.1 ∧ p.2.2.1 ≤ p.1.length) (fun p => ([.any, .t (.v (.int .i64 p.2.1)), .t (.v (.int .i64 p.2.2.1))], .o true 4 ((p.1.take p.2.1.toNat ++ p.1.drop p.2.2.1.toNat).map BJ)))
theorem qN {G : Gt} (hG : Ai G) : Gd G 80 (AM xr) := H5.ofM (by kernel_rfl) fun ⟨xs, i, j, _⟩ h => by
 obtain ⟨h0, h1, h2⟩ := h
 dsimp only at h0 h1 h2 ⊢
 obtain ⟨a, rfl⟩ := Int.eq_ofNat_of_zero_le h0
 obtain ⟨c, rfl⟩ := Int.eq_ofNat_of_zero_le (show 0 ≤ j by omega)
 have := SQ (m := G.m) uL (xs.map BJ) a c (by omega) (by rw [lm]; omega)
 rw [← List.map_take, ← List.map_drop, ← List.map_append] at this
 exact this
theorem pH : Tryz.prog.funcs[81]? = some Tryz.f81 := by kernel_rfl
theorem yY : Tryz.f81.ntmps = 33 := rfl
noncomputable def Xi : TypeInfo := (Tryz.prog.info? 76).get (by kernel_rfl)
theorem Xj : Tryz.prog.info? 76 = some Xi := by kernel_rfl
theorem G6 : Xi.size = 5 := by kernel_rfl
theorem zO (w : World) : (zeroValue 76).run Tryz.prog w = .ok (.agg #[.int .i64 0, .string ⟨#[]⟩, .string ⟨#[]⟩, .slice none 0 0, .slice none 0 0]) w := by kernel_rfl
set_option maxHeartbeats 4000000 in
theorem uM : P4 Tryz.prog 81 5 := by
 intro w b cap i j len cur et hb hs hlc hm hij hj hone
 have t0 : Tryz.prog.underlying 0 = some (TypeDesc.tuple #[]) := by kernel_rfl
 have a0 : ∀ w, (isAgg 0).run Tryz.prog w = .ok false w := run_isAgg_plain t0 rfl
 have t3 : Tryz.prog.underlying 3 = some (.int .i64) := by kernel_rfl
 have a3 : ∀ w, (isAgg 3).run Tryz.prog w = .ok false w := run_isAgg_plain t3 rfl
 have t4 : Tryz.prog.underlying 4 = some .bool := by kernel_rfl
 have a4 : ∀ w, (isAgg 4).run Tryz.prog w = .ok false w := run_isAgg_plain t4 rfl
 have tS : Tryz.prog.underlying 27 = some (.slice 76) := by kernel_rfl
 have aS : ∀ w, (isAgg 27).run Tryz.prog w = .ok false w := run_isAgg_plain tS rfl
 have zE : ∀ w, (Go.sizeOf 76).run Tryz.prog w = .ok 5 w := fun w => by kernel_rfl
 have mixed : Tryz.prog.follows .mixedOrders = true := by kernel_rfl
 have hic : i ≤ cap := by omega
 have hjc : j ≤ cap := by omega
 have hil : i ≤ len := by omega
 obtain ⟨As, hnews⟩ : ∃ As, As = (cur.toList.drop (j * 5)).take ((len - j) * 5) := ⟨_, rfl⟩
 have hcl : cur.toList.length = cap * 5 := by simp [hs]
 have hnl : As.length = (len - j) * 5 := by rw [hnews, List.length_take, List.length_drop, hcl]; omega
 obtain ⟨A, hA, hsrc⟩ : ∃ A : Addr, (if cap = j then some (⟨b, 0, none⟩ : Addr) else some ⟨b, j * 5, none⟩) = some A ∧ (∀ t u, As[t]? = some u → w.drew.cell? (A.add t) = some u) := by
  by_cases h : cap = j
  ·refine ⟨⟨b, 0, none⟩, by simp [h], fun t u hu => ?_⟩
   have : t < As.length := (List.getElem?_eq_some_iff.1 hu).1
   omega
  ·refine ⟨⟨b, j * 5, none⟩, by simp [h], fun t u hu => ?_⟩
   rw [hnews, List.getElem?_take] at hu
   split at hu
   ·rw [List.getElem?_drop] at hu
    show w.cell? _ = _
    rw [Addr.add_lit]
    simp only [World.cell?, hb]
    simpa using hu
   ·cases hu
 have hnone : ∀ u ∈ As, u.oneCell' = true := fun u hu => by
  rw [hnews] at hu
  refine hone u ?_
  rw [show (len - j) * 5 = len * 5 - j * 5 by omega, ← List.drop_take] at hu
  exact List.mem_of_mem_drop hu
 obtain ⟨W1, hW1⟩ : ∃ W1, W1 = w.drew.setRow b (Go.V.splice cur.toList (i * 5) As).toArray := ⟨_, rfl⟩
 have hap : Hid (∀ ty, (Builtin.append_ #[27, 27] ty #[.slice (some ⟨b, 0, none⟩) i cap, .slice (some A) (len - j) (cap - j)]).run Tryz.prog w.drew = .ok (.slice (some ⟨b, 0, none⟩) (i + (len - j)) cap) W1) := fun ty => by
  have := FN (P := Tryz.prog) w.drew 27 ty 76 Xi tS Xj b i cap cur et hb A (len - j) (cap - j) As (by rw [G6]; exact hnl) hsrc hnone (by omega) (by rw [G6, hnl, hs]; omega)
  rw [G6] at this
  rw [hW1]; exact this
 have hl1 : (Go.V.splice cur.toList (i * 5) As).length = cap * 5 := by rw [B3 (by omega), hcl]
 have hb1 : W1.heap[b]? = some (.cells (Go.V.splice cur.toList (i * 5) As).toArray et (0, 0)) := by rw [hW1]; exact setRow_heap w.drew b _ _ et _ hb
 obtain ⟨cs, hcs, hcl0⟩ := I4 (P := Tryz.prog) W1 27 76 (.agg #[.int .i64 0, .string ⟨#[]⟩, .string ⟨#[]⟩, .slice none 0 0, .slice none 0 0]) 5 tS zO rfl (by intro u hu; simp [Value.cells] at hu; rcases hu with rfl | rfl | rfl | rfl | rfl <;> rfl) b ((i + (len - j)) * 5) (len - (i + (len - j))) (cap - (i + (len - j))) (by omega) _ et hb1 (by rw [List.size_toArray, hl1]; omega)
 obtain ⟨W2, hW2⟩ : ∃ W2, W2 = W1.setRow b (Go.V.splice (Go.V.splice cur.toList (i * 5) As) ((i + (len - j)) * 5) cs).toArray := ⟨_, rfl⟩
 have hcl : ∀ ty, (Builtin.clear_ #[27] ty #[.slice (some ⟨b, (i + (len - j)) * 5, none⟩) (len - (i + (len - j))) (cap - (i + (len - j)))]).run Tryz.prog W1 = .ok (.tuple #[]) W2 := fun ty => by rw [hW2]; exact hcl0 ty
 have X : Hid (Mo 5 b cap i j len cur et w (.returned (.slice (some ⟨b, 0, none⟩) (i + (len - j)) cap)) W2) := MF hb hs hlc hij hj hnews (by rw [hcs]; congr 1; omega) hW1 hW2
 clear hW1 hW2 hb hb1 hl1 hcs hcl0 hone hnone hsrc hnl hnews
 go_enter pH, yY
 go_wp2_with fail
 go_region_law_o (refine Gj rfl (.tmp 22) (.tmp 25) 27 rfl (.slice (some ⟨b, 0, none⟩) (i + (len - j)) cap) W1 (by simp [Act.eval, Act.put]; exact hap.out 27) ?_)
 go_wp2
 go_ret
 exact X.out
def xt : Mt := GW (lc (Ey.aow true 5) (lc BA (lc BA l0))) (fun p => 0 ≤ p.2.1 ∧ p.2.1 < p.2.2.1 ∧ p.2.2.1 ≤ p.1.length) (fun p => ([.any, .t (.v (.int .i64 p.2.1)), .t (.v (.int .i64 p.2.2.1))], .o true 5 ((p.1.take p.2.1.toNat ++ p.1.drop p.2.2.1.toNat).map Ag)))
theorem qO {G : Gt} (hG : Ai G) : Gd G 81 (AM xt) := H5.ofM (by kernel_rfl) fun ⟨xs, i, j, _⟩ h => by
 obtain ⟨h0, h1, h2⟩ := h
 dsimp only at h0 h1 h2 ⊢
 obtain ⟨a, rfl⟩ := Int.eq_ofNat_of_zero_le h0
 obtain ⟨c, rfl⟩ := Int.eq_ofNat_of_zero_le (show 0 ≤ j by omega)
 have := SQ (m := G.m) uM (xs.map Ag) a c (by omega) (by rw [lm]; omega)
 rw [← List.map_take, ← List.map_drop, ← List.map_append] at this
 exact this
end Go.V
namespace Go.V
open Go Go.Proofs
set_option maxRecDepth 100000
set_option linter.unusedSimpArgs false
set_option linter.unusedVariables false
theorem oY {xs : List Im} {i k : Nat} (hi : i < xs.length) (h : ((xs.getD i default).to.take k ++ (xs.getD i default).to.drop (k + 1)).length = 0) {y : Im} : (xs.set i y).take i ++ (xs.set i y).drop (i + 1) = MH xs i k := by
 unfold MH
 rw [if_pos (show (Fp (xs.getD i default) k).to = [] from List.eq_nil_of_length_eq_zero h), List.take_set_of_le (Nat.le_refl _), List.drop_set_of_lt (Nat.lt_succ_self _)]
theorem oX {xs : List Im} {i k : Nat} (hi : i < xs.length) (h : ¬ ((xs.getD i default).to.take k ++ (xs.getD i default).to.drop (k + 1)).length = 0) : xs.set i ⟨(xs.getD i default).id, (xs.getD i default).frm, (xs.getD i default).to.take k ++ (xs.getD i default).to.drop (k + 1), (xs.getD i default).body⟩ = MH xs i k := by
 unfold MH
 rw [if_neg (fun e => h (by rw [show (xs.getD i default).to.take k ++ (xs.getD i default).to.drop (k + 1) = [] from e]; rfl)), List.set_eq_take_append_cons_drop, if_pos hi]
 rfl
theorem M5 {dst id k : Nat} {s : AS} : Ed dst (.h id) .any k s = (s, k) := rfl
theorem KP {id : Nat} : Ba (.h id) .any = [] := rfl
def xY : Ct := Aq (lc Px.ag (lc BA (lc DH.ag l0))) (fun p => Fg p.1) (fun p => Uf (Fi p.1 p.2.1 p.2.2.1))
section
attribute [local go_sem] bY nQ wq xr xt M5 KP lm List.length_set tn AZ BQ Uf AS.opn AS.cls AS.nilb AS.renb Bool.not_false Bool.not_true List.set_set List.set_cons_zero List.set_cons_succ List.set_nil List.mem_singleton forall_eq
set_option maxHeartbeats 3200000 in
theorem pc {G : Gt} (hG : Ai G) (hh : G.e 43 = AA 0 bY ∧ G.e 74 = AA 0 nQ ∧ G.e 26 = AA 0 wq ∧ G.e 80 = AM xr ∧ G.e 81 = AM xt) : Gd G 29 (AA 0 xY) := by
 refine Lr (dp := fun n => !(Nat.beq n 100007 || Nat.beq n 100008 || Nat.beq n 100009 || Nat.beq n 100010)) (fn := Tryz.f29) (n := 3) rfl hG ?_ (hs := fun _ p => RQ _)
 rintro ⟨s, n, a, ⟨⟩⟩ hpre
 have hok' : Gl Ff s.items := hpre
 have hmx := hok'.1
 dsimp only at hpre ⊢
 by_cases h : Bk s
 ·have b1 := Ap h
  by_cases hi : At s n < 0
  ·rw [aL h hi]
   simp -implicitDefEqProofs only [Tryz.f29, b1, SY hi, go_sem, hh, seval]
   with_reducible repeat' (first | apply ai | intro _ | ((first | apply s1 | apply s3 | apply s4) <;> intro hb <;> simp -implicitDefEqProofs only [hb, go_sem, hh, seval] <;> try simp only [qz] at hb))
   all_goals first | rfl | omega | assumption | decide | skip
   all_goals trace_state
  ·by_cases hk : BR (Aa s n) a < 0
   ·have hk' : ¬ BR (Aa s n) a ≥ 0 := by omega
    rw [aM h hi hk]
    simp -implicitDefEqProofs only [Tryz.f29, b1, NM hi, hk', decide_false, go_sem, hh, seval]
    with_reducible repeat' (first | apply ai | intro _ | ((first | apply s1 | apply s3 | apply s4) <;> intro hb <;> simp -implicitDefEqProofs only [hb, go_sem, hh, seval] <;> try simp only [qz] at hb))
    all_goals first | rfl | omega | assumption | decide | skip
    all_goals trace_state
   ·obtain ⟨hi0, hi1⟩ := Bf hi
    obtain ⟨hk0, hk1⟩ := ED hk
    obtain ⟨ni, hni⟩ := Int.eq_ofNat_of_zero_le hi0
    obtain ⟨nk, hnk⟩ := Int.eq_ofNat_of_zero_le hk0
    have hth : Aa s n = s.items.getD ni default := by unfold Aa; rw [hni, tn]
    have hf := XO hni hth hnk
    rw [Rv h hi hk, hni, hnk, tn, tn]
    rw [hni] at hi1
    rw [hnk, hth] at hk1
    have hx := hok'.at (i := ni) (by omega)
    have hmx2 : ((s.items.getD ni default).to.length : Int) ≤ 1048576 := hx.2.1.1
    have hi2 : ni < s.items.length := by omega
    have hk2 : nk < (s.items.getD ni default).to.length := by omega
    have hi3 : ni < (s.items.map Ag).length := by rw [lm]; exact hi2
    have e1 : ((ni : Int) + 1).toNat = ni + 1 := by omega
    have e2 : ((nk : Int) + 1).toNat = nk + 1 := by omega
    have hdl := We hk2
    simp -implicitDefEqProofs only [Tryz.f29, b1, hf, go_sem, hh, seval]
    with_reducible repeat' (first | apply ai | intro _ | ((first | apply s1 | apply s3 | apply s4) <;> intro hb <;> simp -implicitDefEqProofs only [hb, go_sem, hh, seval] <;> try simp only [qz] at hb))
    all_goals first | rfl | omega | assumption | decide | skip
    refine F4 1017 1901 2901 ni 3 rfl (Jm Ag hi2) rfl rfl fun x => AR ?_
    simp -implicitDefEqProofs only [Ea hi3, Eb hi3, e1, e2, go_sem, hh, seval]
    with_reducible repeat' (first | apply ai | intro _ | ((first | apply s1 | apply s3 | apply s4) <;> intro hb <;> simp -implicitDefEqProofs only [hb, go_sem, hh, seval] <;> try simp only [qz] at hb))
    all_goals first | rfl | omega | assumption | decide | skip
    all_goals refine F4 1017 1902 2902 ni 3 rfl (Nx hi3 _) rfl rfl fun y => AR ?_
    all_goals by_cases hl : (((s.items.getD ni default).to.take nk ++ (s.items.getD ni default).to.drop (nk + 1)).length : Int) = 0
    all_goals simp -implicitDefEqProofs only [Ea hi3, Eb hi3, hl, decide_true, decide_false, e1, e2, go_sem, hh, seval]
    all_goals with_reducible repeat' (first | apply ai | intro _ | ((first | apply s1 | apply s3 | apply s4) <;> intro hb <;> simp -implicitDefEqProofs only [hb, go_sem, hh, seval] <;> try simp only [qz] at hb))
    all_goals first | rfl | omega | assumption | decide | contradiction | skip
    all_goals refine MY 1017 1902 2902 ni 3 rfl (Nx hi3 _) rfl rfl rfl rfl (AR ?_)
    all_goals simp -implicitDefEqProofs only [Y3, e1, e2, go_sem, hh, seval]
    all_goals with_reducible repeat' (first | apply ai | intro _ | ((first | apply s1 | apply s3 | apply s4) <;> intro hb <;> simp -implicitDefEqProofs only [hb, go_sem, hh, seval] <;> try simp only [qz] at hb))
    all_goals first
     | rfl
     | omega
     | assumption
     | decide
     | contradiction
     | exact congrArg (List.map Ag) (oX hi2 (fun e => hl (by exact congrArg Int.ofNat e)))
     | (refine AR ?_
        simp -implicitDefEqProofs only [go_sem, hh, seval]
        with_reducible repeat' (first | apply ai | intro _ | ((first | apply s1 | apply s3 | apply s4) <;> intro hb <;> simp -implicitDefEqProofs only [hb, go_sem, hh, seval] <;> try simp only [qz] at hb))
        all_goals first
         | rfl
         | omega
         | assumption
         | decide
         | exact congrArg (List.map Ag) (oY hi2 (Int.ofNat.inj hl))
         | skip)
     | skip
 ·have b1 := AN h
  rw [VI h]
  simp -implicitDefEqProofs only [Tryz.f29, b1, go_sem, hh, seval]
  with_reducible repeat' (first | apply ai | intro _ | ((first | apply s1 | apply s3 | apply s4) <;> intro hb <;> simp -implicitDefEqProofs only [hb, go_sem, hh, seval] <;> try simp only [qz] at hb))
  all_goals first | rfl | omega | assumption | decide | skip
  all_goals trace_state
end
end Go.V
