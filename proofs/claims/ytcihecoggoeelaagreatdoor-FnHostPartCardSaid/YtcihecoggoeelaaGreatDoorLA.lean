/- The row. No condition. -/
import Derived.Test.YtcihecoggoeelaaGreatDoorYB
import Derived.Test.YtcihecoggoeelaaGreatDoorProg
import Derived.KernelRfl
import Derived.Lib.IndexMore
import Derived.Lib.IndexEntry
import Derived.Lib.RabinKarpLaws
import Derived.Lib.Split
import Derived.DeepKeys4
import Derived.Lib.Bytealg
namespace Go.V
open Go Go.Proofs
theorem wT : AJ Tryz.prog 3 = some ⟨.int .i64, 1, 8, [.int .i64 0]⟩ := by kernel_rfl
theorem wU : AJ Tryz.prog 4 = some ⟨.bool, 1, 1, [.bool false]⟩ := by kernel_rfl
theorem wV : AJ Tryz.prog 5 = some ⟨.int .u8, 1, 1, [.int .u8 0]⟩ := by kernel_rfl
theorem wW : AJ Tryz.prog 9 = some ⟨.str, 1, 16, [.string ⟨#[]⟩]⟩ := by kernel_rfl
theorem t8 : AJ Tryz.prog 22 = some ⟨.slice 5, 1, 24, [.slice none 0 0]⟩ := by kernel_rfl
theorem t9 : AJ Tryz.prog 23 = some ⟨.slice 9, 1, 24, [.slice none 0 0]⟩ := by kernel_rfl
theorem uA : AJ Tryz.prog 24 = some ⟨.slice 126, 1, 24, [.slice none 0 0]⟩ := by kernel_rfl
theorem uC : AJ Tryz.prog 26 = some ⟨.struct [(0, 1, false), (1, 1, false), (2, 1, false)], 3, 64, [.string ⟨#[]⟩, .slice none 0 0, .slice none 0 0]⟩ := by kernel_rfl
theorem uG : AJ Tryz.prog 27 = some ⟨.slice 48, 1, 24, [.slice none 0 0]⟩ := by kernel_rfl
theorem uH : AJ Tryz.prog 29 = some ⟨.struct [(0, 1, false), (1, 1, false)], 2, 32, [.int .i64 0, .slice none 0 0]⟩ := by kernel_rfl
theorem uI : AJ Tryz.prog 30 = some ⟨.slice 63, 1, 24, [.slice none 0 0]⟩ := by kernel_rfl
theorem uJ : AJ Tryz.prog 31 = some ⟨.slice 100, 1, 24, [.slice none 0 0]⟩ := by kernel_rfl
theorem uK : AJ Tryz.prog 33 = some ⟨.struct [(0, 3, true), (3, 2, true), (5, 1, false), (6, 1, false)], 7, 144, [.string ⟨#[]⟩, .slice none 0 0, .slice none 0 0, .int .i64 0, .slice none 0 0, .slice none 0 0, .slice none 0 0]⟩ := by kernel_rfl
theorem uL : AJ Tryz.prog 37 = some ⟨.struct [(0, 1, false), (1, 1, false)], 2, 32, [.string ⟨#[]⟩, .string ⟨#[]⟩]⟩ := by kernel_rfl
theorem uM : AJ Tryz.prog 38 = some ⟨.slice 37, 1, 24, [.slice none 0 0]⟩ := by kernel_rfl
theorem uO : AJ Tryz.prog 40 = some ⟨.struct [(0, 2, true), (2, 1, false), (3, 1, false)], 4, 80, [.string ⟨#[]⟩, .string ⟨#[]⟩, .slice none 0 0, .slice none 0 0]⟩ := by kernel_rfl
theorem uP : AJ Tryz.prog 46 = some ⟨.slice 50, 1, 24, [.slice none 0 0]⟩ := by kernel_rfl
theorem uQ : AJ Tryz.prog 48 = some ⟨.struct [(0, 1, false), (1, 2, true), (3, 1, false), (4, 1, false)], 5, 88, [.int .i64 0, .string ⟨#[]⟩, .string ⟨#[]⟩, .slice none 0 0, .slice none 0 0]⟩ := by kernel_rfl
theorem uR : AJ Tryz.prog 50 = some ⟨.struct [(0, 2, true), (2, 1, false), (3, 1, false)], 4, 48, [.string ⟨#[]⟩, .string ⟨#[]⟩, .int .i64 0, .int .i64 0]⟩ := by kernel_rfl
theorem uS : AJ Tryz.prog 53 = some ⟨.slice 33, 1, 24, [.slice none 0 0]⟩ := by kernel_rfl
theorem uU : AJ Tryz.prog 55 = some ⟨.struct [(0, 1, false), (1, 1, false), (2, 1, false), (3, 1, false)], 4, 64, [.slice none 0 0, .int .i64 0, .int .i64 0, .slice none 0 0]⟩ := by kernel_rfl
theorem uV : AJ Tryz.prog 58 = some ⟨.slice 104, 1, 24, [.slice none 0 0]⟩ := by kernel_rfl
theorem uW : AJ Tryz.prog 63 = some ⟨.struct [(0, 2, true), (2, 1, false)], 3, 56, [.string ⟨#[]⟩, .string ⟨#[]⟩, .slice none 0 0]⟩ := by kernel_rfl
theorem uX : AJ Tryz.prog 64 = some ⟨.slice 3, 1, 24, [.slice none 0 0]⟩ := by kernel_rfl
theorem kK : AJ Tryz.prog 100 = some ⟨.struct [(0, 1, false), (1, 2, true)], 3, 48, [.string ⟨#[]⟩, .string ⟨#[]⟩, .string ⟨#[]⟩]⟩ := by kernel_rfl
theorem kL : AJ Tryz.prog 104 = some ⟨.struct [(0, 2, true), (2, 1, false)], 3, 56, [.string ⟨#[]⟩, .string ⟨#[]⟩, .slice none 0 0]⟩ := by kernel_rfl
theorem kM : AJ Tryz.prog 121 = some ⟨.struct [(0, 1, false), (1, 1, false)], 2, 32, [.slice none 0 0, .int .i64 0]⟩ := by kernel_rfl
theorem kN : AJ Tryz.prog 126 = some ⟨.struct [(0, 1, false), (1, 1, false)], 2, 32, [.string ⟨#[]⟩, .string ⟨#[]⟩]⟩ := by kernel_rfl
theorem Br : AJ Tryz.prog 136 = some ⟨.map 37 4, 1, 8, [.map none]⟩ := by kernel_rfl
theorem kO : AJ Tryz.prog 159 = some ⟨.slice 26, 1, 24, [.slice none 0 0]⟩ := by kernel_rfl
theorem kP : AJ Tryz.prog 160 = some ⟨.slice 167, 1, 24, [.slice none 0 0]⟩ := by kernel_rfl
theorem kQ : AJ Tryz.prog 167 = some ⟨.struct [(0, 1, false), (1, 1, false), (2, 1, false), (3, 1, false), (4, 1, false), (5, 1, false), (6, 4, true)], 10, 128, [.int .i64 0, .int .i64 0, .int .i64 0, .int .i64 0, .int .i64 0, .bool false, .string ⟨#[]⟩, .string ⟨#[]⟩, .slice none 0 0, .slice none 0 0]⟩ := by kernel_rfl
theorem t7 : AJ Tryz.prog 179 = some ⟨.arr 256 4, 256, 256, List.replicate 256 (.bool false)⟩ := by kernel_rfl
theorem kR : AJ Tryz.prog 198 = some ⟨.slice 40, 1, 24, [.slice none 0 0]⟩ := by kernel_rfl
theorem kT : AJ Tryz.prog 208 = some ⟨.struct [(0, 1, false), (1, 4, true), (5, 1, false), (6, 1, false), (7, 1, false)], 8, 136, [.string ⟨#[]⟩, .string ⟨#[]⟩, .string ⟨#[]⟩, .slice none 0 0, .slice none 0 0, .int .i64 0, .int .i64 0, .slice none 0 0]⟩ := by kernel_rfl
theorem kU : AJ Tryz.prog 211 = some ⟨.struct [(0, 1, false), (1, 4, true), (5, 1, false), (6, 1, false)], 7, 112, [.int .i64 0, .string ⟨#[]⟩, .string ⟨#[]⟩, .slice none 0 0, .slice none 0 0, .bool false, .string ⟨#[]⟩]⟩ := by kernel_rfl
theorem kV : AJ Tryz.prog 223 = some ⟨.int .u32, 1, 4, [.int .u32 0]⟩ := by kernel_rfl
theorem DM : rL Tryz.prog 37 = some [.s, .s] := by kernel_rfl
theorem sn : Tryz.prog.follows .mixedOrders = true := by kernel_rfl
instance : Inhabited ByteArray := ⟨⟨#[]⟩⟩
def A7 (a : Int) : List T := [.v (.int .i64 a)]
def X8 : List T → Option Int
 | [.v (.int .i64 x)] => some x
 | _ => none
def Dj : Er Int where
 enc := A7
 dec := X8
 n := 1
 ed := fun _ => rfl
 de := fun c a h => by unfold X8 at h; split at h <;> cases h; rfl
 len := fun _ => rfl
theorem Lo (a : Int) : A7 a = [.v (.int .i64 a)] := rfl
theorem N9 (xs : List Int) (n : Int) (s : AS) (K : Kt) : Eu 1 (xs.map A7) n s K = (0 ≤ n ∧ n < xs.length ∧ K (.t (.rop (A7 (xs.getD n.toNat default)))) s) := BY A7 xs 1 n s K fun _ => rfl
theorem Jh {b : Int} : Dj.dec [.v (.int .i64 b)] = some b := rfl
theorem Tn (xs : List Int) : Dj.decL (xs.map A7) = some xs := Dj.decL_map xs
theorem OW : Dj.decL [] = some [] := rfl
theorem Ns : Dj.enc = A7 := rfl
theorem Wt : Dj.n = 1 := rfl
theorem Nq (xs : List Int) : EW (xs.map A7) = True := eq_true (EX A7 (by intro a t ht; simp [A7] at ht; exact ⟨_, ht⟩) xs)
theorem UK (xs : List Int) : (∀ c ∈ xs.map A7, c.length = 1) = True := eq_true fun c hc => by
 obtain ⟨a, _, rfl⟩ := List.mem_map.1 hc; rfl
theorem Jc (xs : List Int) (i : Nat) (s : Int) : (xs.map A7).set i [.v (.int .i64 s)] = (xs.set i s).map A7 := Jd A7 xs i s rfl
theorem Lq (a : ByteArray) : AH a = [.v (.string a)] := rfl
theorem OA (xs : List ByteArray) (n : Int) (s : AS) (K : Kt) : Eu 1 (xs.map AH) n s K = (0 ≤ n ∧ n < xs.length ∧ K (.t (.rop (AH (xs.getD n.toNat default)))) s) := BY AH xs 1 n s K fun _ => rfl
theorem Jj {b : ByteArray} : An.dec [.v (.string b)] = some b := rfl
theorem Tp (xs : List ByteArray) : An.decL (xs.map AH) = some xs := An.decL_map xs
theorem OX : An.decL [] = some [] := rfl
theorem Nt : An.enc = AH := rfl
theorem Wv : An.n = 1 := rfl
theorem HA (xs : List ByteArray) : EW (xs.map AH) = True := eq_true (EX AH (by intro a t ht; simp [AH] at ht; exact ⟨_, ht⟩) xs)
theorem NA (xs : List ByteArray) : (∀ c ∈ xs.map AH, c.length = 1) = True := eq_true fun c hc => by
 obtain ⟨a, _, rfl⟩ := List.mem_map.1 hc; rfl
theorem ZO {α β : Type} {A : AD α} {L : AL β} {a : α} {b : β} : (lc A L).enc (a, b) = A.enc a :: L.enc b := rfl
theorem ZM {a : Unit} : l0.enc a = [] := rfl
theorem TN {α : Type} {E : Er α} {xs : List α} : E.asl.enc xs = .t (.sl E.n (xs.map E.enc)) := rfl
theorem XR {α : Type} {E : Er α} {a : α} : E.ag.enc a = .agg ((E.enc a).map .t) := rfl
theorem TK {α : Type} {E : Er α} {d : Bool} {n : Nat} {xs : List α} : (E.aow d n).enc xs = .o d n (xs.map E.enc) := rfl
theorem Nn {b : Int} : BI.enc b = .t (.v (.int .i64 b)) := rfl
theorem Rx {b : Int} : kY.enc b = .t (.v (.int .u8 b)) := rfl
theorem Np {b : ByteArray} : Ap.enc b = .t (.v (.string b)) := rfl
theorem Ae {α : Type} [Inhabited α] {xs : List α} {i : Nat} (h : i < xs.length) : xs.drop i = xs.getD i default :: xs.drop (i + 1) := Vs h
theorem jt {k : Nat} {c : Ct} : (AA k c).kd = k := rfl
theorem ju {k : Nat} {c : Ct} : (AA k c).ro = c := rfl
theorem jZ {c : Mt} : (AN c).kd = 2 := rfl
theorem ja {c : Mt} : (AN c).mu = c := rfl
open Classical in
noncomputable def BL (p : Prop) : Bool := decide p
theorem AU {p : Prop} : (BL p = true) = p := by unfold BL; simp
theorem AT {p : Prop} : (BL p = false) = ¬ p := by unfold BL; simp
theorem Ak {p : Prop} (h : p) : BL p = true := by rw [AU]; exact h
theorem AO {p : Prop} (h : ¬ p) : BL p = false := by rw [AT]; exact h
theorem BF {p : Prop} [Decidable p] : BL p = decide p := by
 by_cases h : p
 ·rw [Ak h, decide_eq_true h]
 ·rw [AO h, decide_eq_false h]
theorem ED {p : Prop} : (!BL p) = BL (¬ p) := by
 by_cases h : p
 ·rw [Ak h, AO (fun q => q h)]; rfl
 ·rw [AO h, Ak h]; rfl
theorem AW {p q : Prop} (h : p ↔ q) : BL p = BL q := by rw [propext h]
theorem qa {p : Prop} [Decidable p] : (decide p = true) = p := by simp
theorem qb {p : Prop} [Decidable p] : (decide p = false) = ¬ p := by simp
theorem qc {b : Bool} : ((!b) = true) = (b = false) := by simp
theorem qd {b : Bool} : ((!b) = false) = (b = true) := by simp
theorem qe {b : Bool} : (¬ b = true) = (b = false) := by simp
theorem qf {b : Bool} : (¬ b = false) = (b = true) := by simp
theorem qg {p : Prop} : (¬ ¬ p) = p := by simp
theorem qz : (∀ (p : Prop) [Decidable p], (decide p = true) = p) ∧ (∀ (p : Prop) [Decidable p], (decide p = false) = ¬ p) ∧ (∀ b : Bool, ((!b) = true) = (b = false)) ∧ (∀ b : Bool, ((!b) = false) = (b = true)) ∧ (∀ b : Bool, (¬ b = true) = (b = false)) ∧ (∀ b : Bool, (¬ b = false) = (b = true)) ∧ (∀ p : Prop, (¬ ¬ p) = p) ∧ (∀ p : Prop, (BL p = true) = p) ∧ (∀ p : Prop, (BL p = false) = ¬ p) := ⟨fun _ _ => qa, fun _ _ => qb, fun _ => qc, fun _ => qd, fun _ => qe, fun _ => qf, fun _ => qg, fun _ => AU, fun _ => AT⟩
abbrev Ah (G : Gt) : Prop := K8 Tryz.prog G ∧ EZ G
abbrev Gd (G : Gt) (f : FuncId) (e : QG) : Prop := HC Tryz.prog G.m f e
theorem gR {G : Gt} {dp : Nat → Bool} {f : FuncId} {fn : Func} {c : Code} {α : Type} {L : AL α} {pre : α → Prop} {r : α → AV} {kd n : Nat} (hn : ∀ a, (L.enc a).length = n) (hf : Tryz.prog.funcs[f]? = some fn) (hb : fn.body = some c) (hok : NF fn c = true) (hG : Ah G)
    (hlen : n ≤ fn.ntmps) (ok : BA Tryz.prog f = true) (hk : ¬ kd = 3) (hs : kd = 0 → ∀ a, BW (r a)) (h : ∀ a, pre a → run Tryz.prog G dp (Ng Tryz.prog fn.results.toList (AR 900 0 (L.enc a) ⟨[], []⟩).avs (L.enc a) (r a)) [.c c] (s0 (L.enc a))) : Gd G f (AA kd (Aq L pre r)) := Y9 hn hf hb hok sn hG hlen ok hk hs h
theorem gM {G : Gt} {dp : Nat → Bool} {f : FuncId} {fn : Func} {c : Code} {α : Type} {L : AL α} {pre : α → Prop} {r : α → List AV × AV} {n : Nat} (hn : ∀ a, (L.enc a).length = n) (hf : Tryz.prog.funcs[f]? = some fn) (hb : fn.body = some c) (hok : NF fn c = true) (hG : Ah G)
    (hlen : n ≤ fn.ntmps) (ok : BA Tryz.prog f = true) (h : ∀ a, pre a → run Tryz.prog G dp (Ng Tryz.prog fn.results.toList (AR 900 0 (L.enc a) ⟨[], []⟩).avs (r a).1 (r a).2) [.c c] (s0 (L.enc a))) : Gd G f (AN (Gu L pre r)) := Vv hn hf hb hok sn hG hlen ok h
structure Ad where
 user : ByteArray
 domain : ByteArray
 deriving DecidableEq
instance : Inhabited Ad := ⟨⟨default, default⟩⟩
def Ao (a : Ad) : List T := [.v (.string a.user), .v (.string a.domain)]
def iV : List T → Option Ad
 | [.v (.string x0), .v (.string x1)] => some ⟨x0, x1⟩
 | _ => none
def C3 : Er Ad where
 enc := Ao
 dec := iV
 n := 2
 ed := fun _ => rfl
 de := fun c a h => by unfold iV at h; split at h <;> cases h; rfl
 len := fun _ => rfl
theorem HW (a : Ad) : Ao a = [.v (.string a.user), .v (.string a.domain)] := rfl
theorem Si (xs : List Ad) (n : Int) (s : AS) (K : Kt) : Eu 2 (xs.map Ao) n s K = (0 ≤ n ∧ n < xs.length ∧ K (.t (.rop (Ao (xs.getD n.toNat default)))) s) := BY Ao xs 2 n s K fun _ => rfl
theorem R3 {x0 : ByteArray} {x1 : ByteArray} : C3.dec [.v (.string x0), .v (.string x1)] = some ⟨x0, x1⟩ := rfl
theorem X1 (xs : List Ad) : C3.decL (xs.map Ao) = some xs := C3.decL_map xs
theorem Tm : C3.decL [] = some [] := rfl
theorem R4 : C3.enc = Ao := rfl
theorem ga : C3.n = 2 := rfl
theorem ZQ (xs : List Ad) : (∀ c ∈ xs.map Ao, c.length = 2) = True := eq_true fun c hc => by
 obtain ⟨a, _, rfl⟩ := List.mem_map.1 hc; rfl
theorem Ry (xs : List Ad) : EW (xs.map Ao) = True := eq_true (EX Ao (by intro a t ht; simp only [Ao, List.mem_cons, List.not_mem_nil, or_false] at ht; rcases ht with rfl | rfl <;> exact ⟨_, rfl⟩) xs)
theorem Wn (a : Ad) : (⟨a.user, a.domain⟩ : Ad) = a := rfl
theorem B5 {a b : Ad} : a = b ↔ a.user = b.user ∧ a.domain = b.domain := by
 cases a; cases b; simp
structure Ml where
 frm : Ad
 to : List Ad
 body : List ByteArray
 deriving DecidableEq
instance : Inhabited Ml := ⟨⟨default, default, default⟩⟩
def Ca (a : Ml) : List T := [.v (.string a.frm.user), .v (.string a.frm.domain), .sl 2 (a.to.map Ao), .sl 1 (a.body.map AH)]
def V9 (x0 : ByteArray) (x1 : ByteArray) : Option (List Ad) → Option (List ByteArray) → Option Ml
 | some x2, some x3 => some ⟨⟨x0, x1⟩, x2, x3⟩
 | _, _ => none
def ij : List T → Option Ml
 | [.v (.string x0), .v (.string x1), .sl 2 x2, .sl 1 x3] => V9 x0 x1 (C3.decL x2) (An.decL x3)
 | _ => none
def Wc : Er Ml where
 enc := Ca
 dec := ij
 n := 4
 ed := fun a => by
  show V9 a.frm.user a.frm.domain (C3.decL (a.to.map C3.enc)) (An.decL (a.body.map An.enc)) = _
  rw [C3.decL_map, An.decL_map]
  rfl
 de := fun c a h => by
  unfold ij at h
  split at h
  ·unfold V9 at h
   split at h
   ·rename_i e0 e1
    cases h
    rw [C3.decL_inv e0, An.decL_inv e1]; rfl
   ·cases h
  ·cases h
 len := fun _ => rfl
theorem O0 (a : Ml) : Ca a = [.v (.string a.frm.user), .v (.string a.frm.domain), .sl 2 (a.to.map Ao), .sl 1 (a.body.map AH)] := rfl
theorem Sv (xs : List Ml) (n : Int) (s : AS) (K : Kt) : Eu 4 (xs.map Ca) n s K = (0 ≤ n ∧ n < xs.length ∧ K (.t (.rop (Ca (xs.getD n.toNat default)))) s) := BY Ca xs 4 n s K fun _ => rfl
theorem SN {x0 : ByteArray} {x1 : ByteArray} {x2 : List (List T)} {x3 : List (List T)} : Wc.dec [.v (.string x0), .v (.string x1), .sl 2 x2, .sl 1 x3] = V9 x0 x1 (C3.decL x2) (An.decL x3) := rfl
theorem SO : Wc.enc = Ca := rfl
theorem ZV (xs : List Ml) : (∀ c ∈ xs.map Ca, c.length = 4) = True := eq_true fun c hc => by
 obtain ⟨a, _, rfl⟩ := List.mem_map.1 hc; rfl
theorem W6 (a : Ml) : (⟨a.frm, a.to, a.body⟩ : Ml) = a := rfl
theorem W7 {a b : Ml} : a = b ↔ a.frm = b.frm ∧ a.to = b.to ∧ a.body = b.body := by
 cases a; cases b; simp
structure Rc where
 addr : Ad
 tries : Int
 next : Int
 deriving DecidableEq
instance : Inhabited Rc := ⟨⟨default, default, default⟩⟩
def BO (a : Rc) : List T := [.v (.string a.addr.user), .v (.string a.addr.domain), .v (.int .i64 a.tries), .v (.int .i64 a.next)]
def ik : List T → Option Rc
 | [.v (.string x0), .v (.string x1), .v (.int .i64 x2), .v (.int .i64 x3)] => some ⟨⟨x0, x1⟩, x2, x3⟩
 | _ => none
def Wu : Er Rc where
 enc := BO
 dec := ik
 n := 4
 ed := fun _ => rfl
 de := fun c a h => by unfold ik at h; split at h <;> cases h; rfl
 len := fun _ => rfl
theorem O1 (a : Rc) : BO a = [.v (.string a.addr.user), .v (.string a.addr.domain), .v (.int .i64 a.tries), .v (.int .i64 a.next)] := rfl
theorem Sw (xs : List Rc) (n : Int) (s : AS) (K : Kt) : Eu 4 (xs.map BO) n s K = (0 ≤ n ∧ n < xs.length ∧ K (.t (.rop (BO (xs.getD n.toNat default)))) s) := BY BO xs 4 n s K fun _ => rfl
theorem SP {x0 : ByteArray} {x1 : ByteArray} {x2 : Int} {x3 : Int} : Wu.dec [.v (.string x0), .v (.string x1), .v (.int .i64 x2), .v (.int .i64 x3)] = some ⟨⟨x0, x1⟩, x2, x3⟩ := rfl
theorem YA (xs : List Rc) : Wu.decL (xs.map BO) = some xs := Wu.decL_map xs
theorem SQ : Wu.enc = BO := rfl
theorem ZW (xs : List Rc) : (∀ c ∈ xs.map BO, c.length = 4) = True := eq_true fun c hc => by
 obtain ⟨a, _, rfl⟩ := List.mem_map.1 hc; rfl
theorem R0 (xs : List Rc) : EW (xs.map BO) = True := eq_true (EX BO (by intro a t ht; simp only [BO, List.mem_cons, List.not_mem_nil, or_false] at ht; rcases ht with rfl | rfl | rfl | rfl <;> exact ⟨_, rfl⟩) xs)
theorem W8 (a : Rc) : (⟨a.addr, a.tries, a.next⟩ : Rc) = a := rfl
theorem qQ (xs : List Rc) (i : Nat) (x0 : ByteArray) (x1 : ByteArray) (x2 : Int) (x3 : Int) : (xs.map BO).set i [.v (.string x0), .v (.string x1), .v (.int .i64 x2), .v (.int .i64 x3)] = (xs.set i ⟨⟨x0, x1⟩, x2, x3⟩).map BO := Jd BO xs i ⟨⟨x0, x1⟩, x2, x3⟩ rfl
structure Im where
 id : Int
 frm : Ad
 to : List Rc
 body : List ByteArray
 deriving DecidableEq
instance : Inhabited Im := ⟨⟨default, default, default, default⟩⟩
def Az (a : Im) : List T := [.v (.int .i64 a.id), .v (.string a.frm.user), .v (.string a.frm.domain), .sl 4 (a.to.map BO), .sl 1 (a.body.map AH)]
def V8 (x0 : Int) (x1 : ByteArray) (x2 : ByteArray) : Option (List Rc) → Option (List ByteArray) → Option Im
 | some x3, some x4 => some ⟨x0, ⟨x1, x2⟩, x3, x4⟩
 | _, _ => none
def ie : List T → Option Im
 | [.v (.int .i64 x0), .v (.string x1), .v (.string x2), .sl 4 x3, .sl 1 x4] => V8 x0 x1 x2 (Wu.decL x3) (An.decL x4)
 | _ => none
def Ia : Er Im where
 enc := Az
 dec := ie
 n := 5
 ed := fun a => by
  show V8 a.id a.frm.user a.frm.domain (Wu.decL (a.to.map Wu.enc)) (An.decL (a.body.map An.enc)) = _
  rw [Wu.decL_map, An.decL_map]
  rfl
 de := fun c a h => by
  unfold ie at h
  split at h
  ·unfold V8 at h
   split at h
   ·rename_i e0 e1
    cases h
    rw [Wu.decL_inv e0, An.decL_inv e1]; rfl
   ·cases h
  ·cases h
 len := fun _ => rfl
theorem Oy (a : Im) : Az a = [.v (.int .i64 a.id), .v (.string a.frm.user), .v (.string a.frm.domain), .sl 4 (a.to.map BO), .sl 1 (a.body.map AH)] := rfl
theorem Sr (xs : List Im) (n : Int) (s : AS) (K : Kt) : Eu 5 (xs.map Az) n s K = (0 ≤ n ∧ n < xs.length ∧ K (.t (.rop (Az (xs.getD n.toNat default)))) s) := BY Az xs 5 n s K fun _ => rfl
theorem SL {x0 : Int} {x1 : ByteArray} {x2 : ByteArray} {x3 : List (List T)} {x4 : List (List T)} : Ia.dec [.v (.int .i64 x0), .v (.string x1), .v (.string x2), .sl 4 x3, .sl 1 x4] = V8 x0 x1 x2 (Wu.decL x3) (An.decL x4) := rfl
theorem X7 (xs : List Im) : Ia.decL (xs.map Az) = some xs := Ia.decL_map xs
theorem SM : Ia.enc = Az := rfl
theorem gg : Ia.n = 5 := rfl
theorem ZT (xs : List Im) : (∀ c ∈ xs.map Az, c.length = 5) = True := eq_true fun c hc => by
 obtain ⟨a, _, rfl⟩ := List.mem_map.1 hc; rfl
theorem W4 (a : Im) : (⟨a.id, a.frm, a.to, a.body⟩ : Im) = a := rfl
theorem qP (xs : List Im) (i : Nat) (x0 : Int) (x1 : ByteArray) (x2 : ByteArray) (x3 : List Rc) (x4 : List ByteArray) : (xs.map Az).set i [.v (.int .i64 x0), .v (.string x1), .v (.string x2), .sl 4 (x3.map BO), .sl 1 (x4.map AH)] = (xs.set i ⟨x0, ⟨x1, x2⟩, x3, x4⟩).map Az := Jd Az xs i ⟨x0, ⟨x1, x2⟩, x3, x4⟩ rfl
structure Sp where
 last : Int
 items : List Im
 deriving DecidableEq
instance : Inhabited Sp := ⟨⟨default, default⟩⟩
def FU (a : Sp) : List T := [.v (.int .i64 a.last), .sl 5 (a.items.map Az)]
def WA (x0 : Int) : Option (List Im) → Option Sp
 | some x1 => some ⟨x0, x1⟩
 | _ => none
def im : List T → Option Sp
 | [.v (.int .i64 x0), .sl 5 x1] => WA x0 (Ia.decL x1)
 | _ => none
def We : Er Sp where
 enc := FU
 dec := im
 n := 2
 ed := fun a => by
  show WA a.last (Ia.decL (a.items.map Ia.enc)) = _
  rw [Ia.decL_map]
  rfl
 de := fun c a h => by
  unfold im at h
  split at h
  ·unfold WA at h
   split at h
   ·rename_i e0
    cases h
    rw [Ia.decL_inv e0]; rfl
   ·cases h
  ·cases h
 len := fun _ => rfl
theorem O2 (a : Sp) : FU a = [.v (.int .i64 a.last), .sl 5 (a.items.map Az)] := rfl
theorem SR {x0 : Int} {x1 : List (List T)} : We.dec [.v (.int .i64 x0), .sl 5 x1] = WA x0 (Ia.decL x1) := rfl
theorem SS : We.enc = FU := rfl
theorem XA (a : Sp) : (⟨a.last, a.items⟩ : Sp) = a := rfl
structure Wy where
 ends : ByteArray
 to : ByteArray
 deriving DecidableEq
instance : Inhabited Wy := ⟨⟨default, default⟩⟩
def Bw (a : Wy) : List T := [.v (.string a.ends), .v (.string a.to)]
def iq : List T → Option Wy
 | [.v (.string x0), .v (.string x1)] => some ⟨x0, x1⟩
 | _ => none
def LS : Er Wy where
 enc := Bw
 dec := iq
 n := 2
 ed := fun _ => rfl
 de := fun c a h => by unfold iq at h; split at h <;> cases h; rfl
 len := fun _ => rfl
theorem O5 (a : Wy) : Bw a = [.v (.string a.ends), .v (.string a.to)] := rfl
theorem Sy (xs : List Wy) (n : Int) (s : AS) (K : Kt) : Eu 2 (xs.map Bw) n s K = (0 ≤ n ∧ n < xs.length ∧ K (.t (.rop (Bw (xs.getD n.toNat default)))) s) := BY Bw xs 2 n s K fun _ => rfl
theorem SX {x0 : ByteArray} {x1 : ByteArray} : LS.dec [.v (.string x0), .v (.string x1)] = some ⟨x0, x1⟩ := rfl
theorem YC (xs : List Wy) : LS.decL (xs.map Bw) = some xs := LS.decL_map xs
theorem SY : LS.enc = Bw := rfl
theorem gi : LS.n = 2 := rfl
theorem ZX (xs : List Wy) : (∀ c ∈ xs.map Bw, c.length = 2) = True := eq_true fun c hc => by
 obtain ⟨a, _, rfl⟩ := List.mem_map.1 hc; rfl
theorem R1 (xs : List Wy) : EW (xs.map Bw) = True := eq_true (EX Bw (by intro a t ht; simp only [Bw, List.mem_cons, List.not_mem_nil, or_false] at ht; rcases ht with rfl | rfl <;> exact ⟨_, rfl⟩) xs)
theorem XD (a : Wy) : (⟨a.ends, a.to⟩ : Wy) = a := rfl
structure Cf where
 name : ByteArray
 own : List ByteArray
 ways : List Wy
 deriving DecidableEq
instance : Inhabited Cf := ⟨⟨default, default, default⟩⟩
def DK (a : Cf) : List T := [.v (.string a.name), .sl 1 (a.own.map AH), .sl 2 (a.ways.map Bw)]
def V3 (x0 : ByteArray) : Option (List ByteArray) → Option (List Wy) → Option Cf
 | some x1, some x2 => some ⟨x0, x1, x2⟩
 | _, _ => none
def iY : List T → Option Cf
 | [.v (.string x0), .sl 1 x1, .sl 2 x2] => V3 x0 (An.decL x1) (LS.decL x2)
 | _ => none
def H3 : Er Cf where
 enc := DK
 dec := iY
 n := 3
 ed := fun a => by
  show V3 a.name (An.decL (a.own.map An.enc)) (LS.decL (a.ways.map LS.enc)) = _
  rw [An.decL_map, LS.decL_map]
  rfl
 de := fun c a h => by
  unfold iY at h
  split at h
  ·unfold V3 at h
   split at h
   ·rename_i e0 e1
    cases h
    rw [An.decL_inv e0, LS.decL_inv e1]; rfl
   ·cases h
  ·cases h
 len := fun _ => rfl
theorem Ot (a : Cf) : DK a = [.v (.string a.name), .sl 1 (a.own.map AH), .sl 2 (a.ways.map Bw)] := rfl
theorem Sk (xs : List Cf) (n : Int) (s : AS) (K : Kt) : Eu 3 (xs.map DK) n s K = (0 ≤ n ∧ n < xs.length ∧ K (.t (.rop (DK (xs.getD n.toNat default)))) s) := BY DK xs 3 n s K fun _ => rfl
theorem R8 {x0 : ByteArray} {x1 : List (List T)} {x2 : List (List T)} : H3.dec [.v (.string x0), .sl 1 x1, .sl 2 x2] = V3 x0 (An.decL x1) (LS.decL x2) := rfl
theorem X3 (xs : List Cf) : H3.decL (xs.map DK) = some xs := H3.decL_map xs
theorem R9 : H3.enc = DK := rfl
theorem gb : H3.n = 3 := rfl
theorem Wq (a : Cf) : (⟨a.name, a.own, a.ways⟩ : Cf) = a := rfl
structure Gm where
 frm : Ad
 body : List ByteArray
 deriving DecidableEq
instance : Inhabited Gm := ⟨⟨default, default⟩⟩
def Dq (a : Gm) : List T := [.v (.string a.frm.user), .v (.string a.frm.domain), .sl 1 (a.body.map AH)]
def V6 (x0 : ByteArray) (x1 : ByteArray) : Option (List ByteArray) → Option Gm
 | some x2 => some ⟨⟨x0, x1⟩, x2⟩
 | _ => none
def ib : List T → Option Gm
 | [.v (.string x0), .v (.string x1), .sl 1 x2] => V6 x0 x1 (An.decL x2)
 | _ => none
def SG : Er Gm where
 enc := Dq
 dec := ib
 n := 3
 ed := fun a => by
  show V6 a.frm.user a.frm.domain (An.decL (a.body.map An.enc)) = _
  rw [An.decL_map]
  rfl
 de := fun c a h => by
  unfold ib at h
  split at h
  ·unfold V6 at h
   split at h
   ·rename_i e0
    cases h
    rw [An.decL_inv e0]; rfl
   ·cases h
  ·cases h
 len := fun _ => rfl
theorem Ow (a : Gm) : Dq a = [.v (.string a.frm.user), .v (.string a.frm.domain), .sl 1 (a.body.map AH)] := rfl
theorem So (xs : List Gm) (n : Int) (s : AS) (K : Kt) : Eu 3 (xs.map Dq) n s K = (0 ≤ n ∧ n < xs.length ∧ K (.t (.rop (Dq (xs.getD n.toNat default)))) s) := BY Dq xs 3 n s K fun _ => rfl
theorem SH {x0 : ByteArray} {x1 : ByteArray} {x2 : List (List T)} : SG.dec [.v (.string x0), .v (.string x1), .sl 1 x2] = V6 x0 x1 (An.decL x2) := rfl
theorem X5 (xs : List Gm) : SG.decL (xs.map Dq) = some xs := SG.decL_map xs
theorem SI : SG.enc = Dq := rfl
theorem gf : SG.n = 3 := rfl
theorem ZS (xs : List Gm) : (∀ c ∈ xs.map Dq, c.length = 3) = True := eq_true fun c hc => by
 obtain ⟨a, _, rfl⟩ := List.mem_map.1 hc; rfl
theorem W0 (a : Gm) : (⟨a.frm, a.body⟩ : Gm) = a := rfl
structure Bx where
 addr : Ad
 mails : List Gm
 deriving DecidableEq
instance : Inhabited Bx := ⟨⟨default, default⟩⟩
def CZ (a : Bx) : List T := [.v (.string a.addr.user), .v (.string a.addr.domain), .sl 3 (a.mails.map Dq)]
def V2 (x0 : ByteArray) (x1 : ByteArray) : Option (List Gm) → Option Bx
 | some x2 => some ⟨⟨x0, x1⟩, x2⟩
 | _ => none
def iW : List T → Option Bx
 | [.v (.string x0), .v (.string x1), .sl 3 x2] => V2 x0 x1 (SG.decL x2)
 | _ => none
def Ws : Er Bx where
 enc := CZ
 dec := iW
 n := 3
 ed := fun a => by
  show V2 a.addr.user a.addr.domain (SG.decL (a.mails.map SG.enc)) = _
  rw [SG.decL_map]
  rfl
 de := fun c a h => by
  unfold iW at h
  split at h
  ·unfold V2 at h
   split at h
   ·rename_i e0
    cases h
    rw [SG.decL_inv e0]; rfl
   ·cases h
  ·cases h
 len := fun _ => rfl
theorem Oq (a : Bx) : CZ a = [.v (.string a.addr.user), .v (.string a.addr.domain), .sl 3 (a.mails.map Dq)] := rfl
theorem Sj (xs : List Bx) (n : Int) (s : AS) (K : Kt) : Eu 3 (xs.map CZ) n s K = (0 ≤ n ∧ n < xs.length ∧ K (.t (.rop (CZ (xs.getD n.toNat default)))) s) := BY CZ xs 3 n s K fun _ => rfl
theorem R5 {x0 : ByteArray} {x1 : ByteArray} {x2 : List (List T)} : Ws.dec [.v (.string x0), .v (.string x1), .sl 3 x2] = V2 x0 x1 (SG.decL x2) := rfl
theorem X2 (xs : List Bx) : Ws.decL (xs.map CZ) = some xs := Ws.decL_map xs
theorem R6 : Ws.enc = CZ := rfl
theorem ZR (xs : List Bx) : (∀ c ∈ xs.map CZ, c.length = 3) = True := eq_true fun c hc => by
 obtain ⟨a, _, rfl⟩ := List.mem_map.1 hc; rfl
theorem Wp (a : Bx) : (⟨a.addr, a.mails⟩ : Bx) = a := rfl
structure Ls where
 mark : ByteArray
 addr : Ad
 deriving DecidableEq
instance : Inhabited Ls := ⟨⟨default, default⟩⟩
def A2 (a : Ls) : List T := [.v (.string a.mark), .v (.string a.addr.user), .v (.string a.addr.domain)]
def ii : List T → Option Ls
 | [.v (.string x0), .v (.string x1), .v (.string x2)] => some ⟨x0, ⟨x1, x2⟩⟩
 | _ => none
def Ji : Er Ls where
 enc := A2
 dec := ii
 n := 3
 ed := fun _ => rfl
 de := fun c a h => by unfold ii at h; split at h <;> cases h; rfl
 len := fun _ => rfl
theorem Oz (a : Ls) : A2 a = [.v (.string a.mark), .v (.string a.addr.user), .v (.string a.addr.domain)] := rfl
theorem Su (xs : List Ls) (n : Int) (s : AS) (K : Kt) : Eu 3 (xs.map A2) n s K = (0 ≤ n ∧ n < xs.length ∧ K (.t (.rop (A2 (xs.getD n.toNat default)))) s) := BY A2 xs 3 n s K fun _ => rfl
theorem X9 (xs : List Ls) : Ji.decL (xs.map A2) = some xs := Ji.decL_map xs
theorem To : Ji.decL [] = some [] := rfl
theorem ZU (xs : List Ls) : (∀ c ∈ xs.map A2, c.length = 3) = True := eq_true fun c hc => by
 obtain ⟨a, _, rfl⟩ := List.mem_map.1 hc; rfl
theorem Rz (xs : List Ls) : EW (xs.map A2) = True := eq_true (EX A2 (by intro a t ht; simp only [A2, List.mem_cons, List.not_mem_nil, or_false] at ht; rcases ht with rfl | rfl | rfl <;> exact ⟨_, rfl⟩) xs)
structure Hs where
 conf : Cf
 spool : Sp
 boxes : List Bx
 lost : List Ls
 deriving DecidableEq
instance : Inhabited Hs := ⟨⟨default, default, default, default⟩⟩
def Al (a : Hs) : List T := [.v (.string a.conf.name), .sl 1 (a.conf.own.map AH), .sl 2 (a.conf.ways.map Bw), .v (.int .i64 a.spool.last), .sl 5 (a.spool.items.map Az), .sl 3 (a.boxes.map CZ), .sl 3 (a.lost.map A2)]
def V7 (x0 : ByteArray) (x3 : Int) : Option (List ByteArray) → Option (List Wy) → Option (List Im) → Option (List Bx) → Option (List Ls) → Option Hs
 | some x1, some x2, some x4, some x5, some x6 => some ⟨⟨x0, x1, x2⟩, ⟨x3, x4⟩, x5, x6⟩
 | _, _, _, _, _ => none
def ic : List T → Option Hs
 | [.v (.string x0), .sl 1 x1, .sl 2 x2, .v (.int .i64 x3), .sl 5 x4, .sl 3 x5, .sl 3 x6] => V7 x0 x3 (An.decL x1) (LS.decL x2) (Ia.decL x4) (Ws.decL x5) (Ji.decL x6)
 | _ => none
def Ep : Er Hs where
 enc := Al
 dec := ic
 n := 7
 ed := fun a => by
  show V7 a.conf.name a.spool.last (An.decL (a.conf.own.map An.enc)) (LS.decL (a.conf.ways.map LS.enc)) (Ia.decL (a.spool.items.map Ia.enc)) (Ws.decL (a.boxes.map Ws.enc)) (Ji.decL (a.lost.map Ji.enc)) = _
  rw [An.decL_map, LS.decL_map, Ia.decL_map, Ws.decL_map, Ji.decL_map]
  rfl
 de := fun c a h => by
  unfold ic at h
  split at h
  ·unfold V7 at h
   split at h
   ·rename_i e0 e1 e2 e3 e4
    cases h
    rw [An.decL_inv e0, LS.decL_inv e1, Ia.decL_inv e2, Ws.decL_inv e3, Ji.decL_inv e4]; rfl
   ·cases h
  ·cases h
 len := fun _ => rfl
theorem Ox (a : Hs) : Al a = [.v (.string a.conf.name), .sl 1 (a.conf.own.map AH), .sl 2 (a.conf.ways.map Bw), .v (.int .i64 a.spool.last), .sl 5 (a.spool.items.map Az), .sl 3 (a.boxes.map CZ), .sl 3 (a.lost.map A2)] := rfl
theorem Sq (xs : List Hs) (n : Int) (s : AS) (K : Kt) : Eu 7 (xs.map Al) n s K = (0 ≤ n ∧ n < xs.length ∧ K (.t (.rop (Al (xs.getD n.toNat default)))) s) := BY Al xs 7 n s K fun _ => rfl
theorem SJ {x0 : ByteArray} {x1 : List (List T)} {x2 : List (List T)} {x3 : Int} {x4 : List (List T)} {x5 : List (List T)} {x6 : List (List T)} : Ep.dec [.v (.string x0), .sl 1 x1, .sl 2 x2, .v (.int .i64 x3), .sl 5 x4, .sl 3 x5, .sl 3 x6] = V7 x0 x3 (An.decL x1) (LS.decL x2) (Ia.decL x4) (Ws.decL x5) (Ji.decL x6) := rfl
theorem X6 (xs : List Hs) : Ep.decL (xs.map Al) = some xs := Ep.decL_map xs
theorem SK : Ep.enc = Al := rfl
theorem W3 (a : Hs) : (⟨a.conf, a.spool, a.boxes, a.lost⟩ : Hs) = a := rfl
theorem Ku (xs : List Hs) (i : Nat) (x0 : ByteArray) (x1 : List ByteArray) (x2 : List Wy) (x3 : Int) (x4 : List Im) (x5 : List Bx) (x6 : List Ls) : (xs.map Al).set i [.v (.string x0), .sl 1 (x1.map AH), .sl 2 (x2.map Bw), .v (.int .i64 x3), .sl 5 (x4.map Az), .sl 3 (x5.map CZ), .sl 3 (x6.map A2)] = (xs.set i ⟨⟨x0, x1, x2⟩, ⟨x3, x4⟩, x5, x6⟩).map Al := Jd Al xs i ⟨⟨x0, x1, x2⟩, ⟨x3, x4⟩, x5, x6⟩ rfl
structure Ss where
 state : Int
 mail : Ml
 bad : Bool
 buf : ByteArray
 deriving DecidableEq
instance : Inhabited Ss := ⟨⟨default, default, default, default⟩⟩
def Eh (a : Ss) : List T := [.v (.int .i64 a.state), .v (.string a.mail.frm.user), .v (.string a.mail.frm.domain), .sl 2 (a.mail.to.map Ao), .sl 1 (a.mail.body.map AH), .v (.bool a.bad), .v (.string a.buf)]
def WB (x0 : Int) (x1 : ByteArray) (x2 : ByteArray) (x5 : Bool) (x6 : ByteArray) : Option (List Ad) → Option (List ByteArray) → Option Ss
 | some x3, some x4 => some ⟨x0, ⟨⟨x1, x2⟩, x3, x4⟩, x5, x6⟩
 | _, _ => none
def io : List T → Option Ss
 | [.v (.int .i64 x0), .v (.string x1), .v (.string x2), .sl 2 x3, .sl 1 x4, .v (.bool x5), .v (.string x6)] => WB x0 x1 x2 x5 x6 (C3.decL x3) (An.decL x4)
 | _ => none
def bc : Er Ss where
 enc := Eh
 dec := io
 n := 7
 ed := fun a => by
  show WB a.state a.mail.frm.user a.mail.frm.domain a.bad a.buf (C3.decL (a.mail.to.map C3.enc)) (An.decL (a.mail.body.map An.enc)) = _
  rw [C3.decL_map, An.decL_map]
  rfl
 de := fun c a h => by
  unfold io at h
  split at h
  ·unfold WB at h
   split at h
   ·rename_i e0 e1
    cases h
    rw [C3.decL_inv e0, An.decL_inv e1]; rfl
   ·cases h
  ·cases h
 len := fun _ => rfl
theorem O3 (a : Ss) : Eh a = [.v (.int .i64 a.state), .v (.string a.mail.frm.user), .v (.string a.mail.frm.domain), .sl 2 (a.mail.to.map Ao), .sl 1 (a.mail.body.map AH), .v (.bool a.bad), .v (.string a.buf)] := rfl
theorem ST {x0 : Int} {x1 : ByteArray} {x2 : ByteArray} {x3 : List (List T)} {x4 : List (List T)} {x5 : Bool} {x6 : ByteArray} : bc.dec [.v (.int .i64 x0), .v (.string x1), .v (.string x2), .sl 2 x3, .sl 1 x4, .v (.bool x5), .v (.string x6)] = WB x0 x1 x2 x5 x6 (C3.decL x3) (An.decL x4) := rfl
theorem SU : bc.enc = Eh := rfl
theorem XB (a : Ss) : (⟨a.state, a.mail, a.bad, a.buf⟩ : Ss) = a := rfl
structure Cl where
 name : ByteArray
 mail : Ml
 state : Int
 pos : Int
 outs : List Int
 deriving DecidableEq
instance : Inhabited Cl := ⟨⟨default, default, default, default, default⟩⟩
def Do (a : Cl) : List T := [.v (.string a.name), .v (.string a.mail.frm.user), .v (.string a.mail.frm.domain), .sl 2 (a.mail.to.map Ao), .sl 1 (a.mail.body.map AH), .v (.int .i64 a.state), .v (.int .i64 a.pos), .sl 1 (a.outs.map A7)]
def V4 (x0 : ByteArray) (x1 : ByteArray) (x2 : ByteArray) (x5 : Int) (x6 : Int) : Option (List Ad) → Option (List ByteArray) → Option (List Int) → Option Cl
 | some x3, some x4, some x7 => some ⟨x0, ⟨⟨x1, x2⟩, x3, x4⟩, x5, x6, x7⟩
 | _, _, _ => none
def iZ : List T → Option Cl
 | [.v (.string x0), .v (.string x1), .v (.string x2), .sl 2 x3, .sl 1 x4, .v (.int .i64 x5), .v (.int .i64 x6), .sl 1 x7] => V4 x0 x1 x2 x5 x6 (C3.decL x3) (An.decL x4) (Dj.decL x7)
 | _ => none
def bb : Er Cl where
 enc := Do
 dec := iZ
 n := 8
 ed := fun a => by
  show V4 a.name a.mail.frm.user a.mail.frm.domain a.state a.pos (C3.decL (a.mail.to.map C3.enc)) (An.decL (a.mail.body.map An.enc)) (Dj.decL (a.outs.map Dj.enc)) = _
  rw [C3.decL_map, An.decL_map, Dj.decL_map]
  rfl
 de := fun c a h => by
  unfold iZ at h
  split at h
  ·unfold V4 at h
   split at h
   ·rename_i e0 e1 e2
    cases h
    rw [C3.decL_inv e0, An.decL_inv e1, Dj.decL_inv e2]; rfl
   ·cases h
  ·cases h
 len := fun _ => rfl
theorem Ou (a : Cl) : Do a = [.v (.string a.name), .v (.string a.mail.frm.user), .v (.string a.mail.frm.domain), .sl 2 (a.mail.to.map Ao), .sl 1 (a.mail.body.map AH), .v (.int .i64 a.state), .v (.int .i64 a.pos), .sl 1 (a.outs.map A7)] := rfl
theorem SB {x0 : ByteArray} {x1 : ByteArray} {x2 : ByteArray} {x3 : List (List T)} {x4 : List (List T)} {x5 : Int} {x6 : Int} {x7 : List (List T)} : bb.dec [.v (.string x0), .v (.string x1), .v (.string x2), .sl 2 x3, .sl 1 x4, .v (.int .i64 x5), .v (.int .i64 x6), .sl 1 x7] = V4 x0 x1 x2 x5 x6 (C3.decL x3) (An.decL x4) (Dj.decL x7) := rfl
theorem SC : bb.enc = Do := rfl
theorem Wr (a : Cl) : (⟨a.name, a.mail, a.state, a.pos, a.outs⟩ : Cl) = a := rfl
structure Ev where
 kind : Int
 host : Int
 to : Int
 id : Int
 cut : Int
 lose : Bool
 mail : Ml
 deriving DecidableEq
instance : Inhabited Ev := ⟨⟨default, default, default, default, default, default, default⟩⟩
def C2 (a : Ev) : List T := [.v (.int .i64 a.kind), .v (.int .i64 a.host), .v (.int .i64 a.to), .v (.int .i64 a.id), .v (.int .i64 a.cut), .v (.bool a.lose), .v (.string a.mail.frm.user), .v (.string a.mail.frm.domain), .sl 2 (a.mail.to.map Ao), .sl 1 (a.mail.body.map AH)]
def V5 (x0 : Int) (x1 : Int) (x2 : Int) (x3 : Int) (x4 : Int) (x5 : Bool) (x6 : ByteArray) (x7 : ByteArray) : Option (List Ad) → Option (List ByteArray) → Option Ev
 | some x8, some x9 => some ⟨x0, x1, x2, x3, x4, x5, ⟨⟨x6, x7⟩, x8, x9⟩⟩
 | _, _ => none
def ia : List T → Option Ev
 | [.v (.int .i64 x0), .v (.int .i64 x1), .v (.int .i64 x2), .v (.int .i64 x3), .v (.int .i64 x4), .v (.bool x5), .v (.string x6), .v (.string x7), .sl 2 x8, .sl 1 x9] => V5 x0 x1 x2 x3 x4 x5 x6 x7 (C3.decL x8) (An.decL x9)
 | _ => none
def Nr : Er Ev where
 enc := C2
 dec := ia
 n := 10
 ed := fun a => by
  show V5 a.kind a.host a.to a.id a.cut a.lose a.mail.frm.user a.mail.frm.domain (C3.decL (a.mail.to.map C3.enc)) (An.decL (a.mail.body.map An.enc)) = _
  rw [C3.decL_map, An.decL_map]
  rfl
 de := fun c a h => by
  unfold ia at h
  split at h
  ·unfold V5 at h
   split at h
   ·rename_i e0 e1
    cases h
    rw [C3.decL_inv e0, An.decL_inv e1]; rfl
   ·cases h
  ·cases h
 len := fun _ => rfl
theorem Ov (a : Ev) : C2 a = [.v (.int .i64 a.kind), .v (.int .i64 a.host), .v (.int .i64 a.to), .v (.int .i64 a.id), .v (.int .i64 a.cut), .v (.bool a.lose), .v (.string a.mail.frm.user), .v (.string a.mail.frm.domain), .sl 2 (a.mail.to.map Ao), .sl 1 (a.mail.body.map AH)] := rfl
theorem Sm (xs : List Ev) (n : Int) (s : AS) (K : Kt) : Eu 10 (xs.map C2) n s K = (0 ≤ n ∧ n < xs.length ∧ K (.t (.rop (C2 (xs.getD n.toNat default)))) s) := BY C2 xs 10 n s K fun _ => rfl
theorem SE {x0 : Int} {x1 : Int} {x2 : Int} {x3 : Int} {x4 : Int} {x5 : Bool} {x6 : ByteArray} {x7 : ByteArray} {x8 : List (List T)} {x9 : List (List T)} : Nr.dec [.v (.int .i64 x0), .v (.int .i64 x1), .v (.int .i64 x2), .v (.int .i64 x3), .v (.int .i64 x4), .v (.bool x5), .v (.string x6), .v (.string x7), .sl 2 x8, .sl 1 x9] = V5 x0 x1 x2 x3 x4 x5 x6 x7 (C3.decL x8) (An.decL x9) := rfl
theorem X4 (xs : List Ev) : Nr.decL (xs.map C2) = some xs := Nr.decL_map xs
theorem SF : Nr.enc = C2 := rfl
theorem gc : Nr.n = 10 := rfl
theorem Wx (a : Ev) : (⟨a.kind, a.host, a.to, a.id, a.cut, a.lose, a.mail⟩ : Ev) = a := rfl
structure Wd where
 hosts : List Hs
 now : Int
 marks : Int
 given : List Ls
 deriving DecidableEq
instance : Inhabited Wd := ⟨⟨default, default, default, default⟩⟩
def Ih (a : Wd) : List T := [.sl 7 (a.hosts.map Al), .v (.int .i64 a.now), .v (.int .i64 a.marks), .sl 3 (a.given.map A2)]
def GN (x1 : Int) (x2 : Int) : Option (List Hs) → Option (List Ls) → Option Wd
 | some x0, some x3 => some ⟨x0, x1, x2, x3⟩
 | _, _ => none
def ip : List T → Option Wd
 | [.sl 7 x0, .v (.int .i64 x1), .v (.int .i64 x2), .sl 3 x3] => GN x1 x2 (Ep.decL x0) (Ji.decL x3)
 | _ => none
def gh : Er Wd where
 enc := Ih
 dec := ip
 n := 4
 ed := fun a => by
  show GN a.now a.marks (Ep.decL (a.hosts.map Ep.enc)) (Ji.decL (a.given.map Ji.enc)) = _
  rw [Ep.decL_map, Ji.decL_map]
  rfl
 de := fun c a h => by
  unfold ip at h
  split at h
  ·unfold GN at h
   split at h
   ·rename_i e0 e1
    cases h
    rw [Ep.decL_inv e0, Ji.decL_inv e1]; rfl
   ·cases h
  ·cases h
 len := fun _ => rfl
theorem O4 (a : Wd) : Ih a = [.sl 7 (a.hosts.map Al), .v (.int .i64 a.now), .v (.int .i64 a.marks), .sl 3 (a.given.map A2)] := rfl
theorem SV {x0 : List (List T)} {x1 : Int} {x2 : Int} {x3 : List (List T)} : gh.dec [.sl 7 x0, .v (.int .i64 x1), .v (.int .i64 x2), .sl 3 x3] = GN x1 x2 (Ep.decL x0) (Ji.decL x3) := rfl
theorem SW : gh.enc = Ih := rfl
theorem XC (a : Wd) : (⟨a.hosts, a.now, a.marks, a.given⟩ : Wd) = a := rfl
def RZ (a : Ml) : AV := .agg [.t (.v (.string a.frm.user)), .t (.v (.string a.frm.domain)), .o true 2 (a.to.map Ao), .o true 1 (a.body.map AH)]
theorem Uk (a : Ml) : RZ a = .agg [.t (.v (.string a.frm.user)), .t (.v (.string a.frm.domain)), .o true 2 (a.to.map Ao), .o true 1 (a.body.map AH)] := rfl
theorem G5 (a : Ml) : BW (RZ a) := .agg _ fun c hc => by
 simp only [List.mem_cons, List.not_mem_nil, or_false] at hc
 rcases hc with rfl | rfl | rfl | rfl
 ·exact .v _
 ·exact .v _
 ·exact .deep _ _
 ·exact .deep _ _
def qI (a : Im) : AV := .agg [.t (.v (.int .i64 a.id)), .t (.v (.string a.frm.user)), .t (.v (.string a.frm.domain)), .o true 4 (a.to.map BO), .o true 1 (a.body.map AH)]
theorem Uj (a : Im) : qI a = .agg [.t (.v (.int .i64 a.id)), .t (.v (.string a.frm.user)), .t (.v (.string a.frm.domain)), .o true 4 (a.to.map BO), .o true 1 (a.body.map AH)] := rfl
theorem RY (a : Im) : BW (qI a) := .agg _ fun c hc => by
 simp only [List.mem_cons, List.not_mem_nil, or_false] at hc
 rcases hc with rfl | rfl | rfl | rfl | rfl
 ·exact .v _
 ·exact .v _
 ·exact .v _
 ·exact .deep _ _
 ·exact .deep _ _
def aD (a : Sp) : AV := .agg [.t (.v (.int .i64 a.last)), .o true 5 (a.items.map Az)]
theorem Ul (a : Sp) : aD a = .agg [.t (.v (.int .i64 a.last)), .o true 5 (a.items.map Az)] := rfl
theorem Ra (a : Sp) : BW (aD a) := .agg _ fun c hc => by
 simp only [List.mem_cons, List.not_mem_nil, or_false] at hc
 rcases hc with rfl | rfl
 ·exact .v _
 ·exact .deep _ _
def qG (a : Cf) : AV := .agg [.t (.v (.string a.name)), .o true 1 (a.own.map AH), .o true 2 (a.ways.map Bw)]
theorem Uh (a : Cf) : qG a = .agg [.t (.v (.string a.name)), .o true 1 (a.own.map AH), .o true 2 (a.ways.map Bw)] := rfl
theorem RW (a : Cf) : BW (qG a) := .agg _ fun c hc => by
 simp only [List.mem_cons, List.not_mem_nil, or_false] at hc
 rcases hc with rfl | rfl | rfl
 ·exact .v _
 ·exact .deep _ _
 ·exact .deep _ _
def qH (a : Hs) : AV := .agg [.t (.v (.string a.conf.name)), .o true 1 (a.conf.own.map AH), .o true 2 (a.conf.ways.map Bw), .t (.v (.int .i64 a.spool.last)), .o true 5 (a.spool.items.map Az), .o true 3 (a.boxes.map CZ), .o true 3 (a.lost.map A2)]
theorem Ui (a : Hs) : qH a = .agg [.t (.v (.string a.conf.name)), .o true 1 (a.conf.own.map AH), .o true 2 (a.conf.ways.map Bw), .t (.v (.int .i64 a.spool.last)), .o true 5 (a.spool.items.map Az), .o true 3 (a.boxes.map CZ), .o true 3 (a.lost.map A2)] := rfl
theorem RX (a : Hs) : BW (qH a) := .agg _ fun c hc => by
 simp only [List.mem_cons, List.not_mem_nil, or_false] at hc
 rcases hc with rfl | rfl | rfl | rfl | rfl | rfl | rfl
 ·exact .v _
 ·exact .deep _ _
 ·exact .deep _ _
 ·exact .v _
 ·exact .deep _ _
 ·exact .deep _ _
 ·exact .deep _ _
end Go.V
namespace Go.V
open Go Go.Proofs
set_option maxRecDepth 100000
set_option linter.unusedSimpArgs false
set_option linter.unusedVariables false
theorem ai {a b : Prop} (x : a) (y : b) : a ∧ b := ⟨x, y⟩
theorem s1 {P G dp R k s t e b} (h1 : b = true → run P G dp R (.c t :: k) s) (h2 : b = false → run P G dp R (.c e :: k) s) : rk P G dp R t e k s b := VW h1 h2
theorem s2 {s : AS} {x y : AV} {K : Kt} {b : Bool} (h1 : b = true → K x s) (h2 : b = false → K y s) : EN x y s K b := Mc h1 h2
theorem s3 {P G dp R k s d all r op b want} (h1 : b = true → gB P G dp R d all r k s op true want) (h2 : b = false → gB P G dp R d all r k s op false want) : gB P G dp R d all r k s op b want := Y1 h1 h2
theorem s4 {P G dp all ns K i l acc s pre t d op b want} (h1 : b = true → Wh P G dp all ns K i l acc s pre t d op true want) (h2 : b = false → Wh P G dp all ns K i l acc s pre t d op false want) : Wh P G dp all ns K i l acc s pre t d op b want := VQ h1 h2
theorem tv : True := trivial
theorem tn (n : Nat) : Int.toNat (n : Int) = n := rfl
theorem lm {α β : Type} {xs : List α} (f : α → β) : (xs.map f).length = xs.length := List.length_map f
theorem Nh {dp : Nat → Bool} {G : Gt} {f : FuncId} {fn : Func} {c : Code} {rs} {α : Type} {L : AL α} {pre : α → Prop} {r : α → AV} {kd n : Nat} (hb : fn.body = some c) (hr : fn.results = ⟨rs⟩) (hG : Ah G) (h : ∀ a, pre a → run Tryz.prog G dp (Ng Tryz.prog rs (AR 900 0 (L.enc a) ⟨[], []⟩).avs (L.enc a) (r a)) [.c c] (s0 (L.enc a)))
    (hn : ∀ a, (L.enc a).length = n := by exact fun _ => rfl) (hf : Tryz.prog.funcs[f]? = some fn := by kernel_rfl) (hok : NF fn c = true := by kernel_rfl) (hlen : n ≤ fn.ntmps := by exact Nat.le_of_ble_eq_true rfl) (ok : BA Tryz.prog f = true := by kernel_rfl) (hk : ¬ kd = 3 := by decide) (hs : kd = 0 → ∀ a, BW (r a) := by first | exact fun _ _ => .v _ | exact fun h => by cases h) : Gd G f (AA kd (Aq L pre r)) := gR hn hf hb hok hG hlen ok hk hs (by rw [hr]; exact h)
theorem gr {G : Gt} {f : FuncId} {fn : Func} {c : Code} {rs} {α : Type} {L : AL α} {pre : α → Prop} {r : α → AV} {kd n : Nat} (hb : fn.body = some c) (hr : fn.results = ⟨rs⟩) (hG : Ah G) (h : ∀ a, pre a → run Tryz.prog G (fun _ => true) (Ng Tryz.prog rs (AR 900 0 (L.enc a) ⟨[], []⟩).avs (L.enc a) (r a)) [.c c] (s0 (L.enc a)))
    (hn : ∀ a, (L.enc a).length = n := by exact fun _ => rfl) (hf : Tryz.prog.funcs[f]? = some fn := by kernel_rfl) (hok : NF fn c = true := by kernel_rfl) (hlen : n ≤ fn.ntmps := by exact Nat.le_of_ble_eq_true rfl) (ok : BA Tryz.prog f = true := by kernel_rfl) (hk : ¬ kd = 3 := by decide) (hs : kd = 0 → ∀ a, BW (r a) := by first | exact fun _ _ => .v _ | exact fun h => by cases h) : Gd G f (AA kd (Aq L pre r)) := gR hn hf hb hok hG hlen ok hk hs (by rw [hr]; exact h)
theorem I5 {dp : Nat → Bool} {G : Gt} {f : FuncId} {fn : Func} {c : Code} {rs} {α : Type} {L : AL α} {pre : α → Prop} {r : α → List AV × AV} {n : Nat} (hb : fn.body = some c) (hr : fn.results = ⟨rs⟩) (hG : Ah G) (h : ∀ a, pre a → run Tryz.prog G dp (Ng Tryz.prog rs (AR 900 0 (L.enc a) ⟨[], []⟩).avs (r a).1 (r a).2) [.c c] (s0 (L.enc a)))
    (hn : ∀ a, (L.enc a).length = n := by exact fun _ => rfl) (hf : Tryz.prog.funcs[f]? = some fn := by kernel_rfl) (hok : NF fn c = true := by kernel_rfl) (hlen : n ≤ fn.ntmps := by exact Nat.le_of_ble_eq_true rfl) (ok : BA Tryz.prog f = true := by kernel_rfl) : Gd G f (AN (Gu L pre r)) := gM hn hf hb hok hG hlen ok (by rw [hr]; exact h)
attribute [go_sem] EN.eq_1 EN.eq_2 If.eq_1 N6.eq_1 N6.eq_2 FO.eq_1 FO.eq_2 Cj.eq_1 Cj.eq_2 Cj.eq_3 Cj.eq_4 Cj.eq_5 Ci.eq_1 Ci.eq_2 Ci.eq_3 Ci.eq_4 Ci.eq_5 DP.eq_1 DP.eq_2 DP.eq_3 GS.eq_1 GS.eq_2 LG.eq_1 LG.eq_2 LG.eq_3 bu.eq_1 bu.eq_2 rF.eq_1 aF.eq_1 aF.eq_2 bQ.eq_1 KG.eq_1 D9.eq_1 D9.eq_2 D9.eq_3 D9.eq_4 D9.eq_5 HL.eq_1 HL.eq_2 BG.eq_1 BG.eq_2 BG.eq_3 Hb.eq_1 FQ.eq_1 Gg.eq_1 Jt.eq_1 Md.eq_1 Md.eq_2 DQ.eq_1 DQ.eq_2 DQ.eq_3 K9.eq_1 K9.eq_2 DZ.eq_1 DZ.eq_2 FP.eq_1 EB.eq_1 EB.eq_2 br.eq_1 br.eq_2 BX.eq_1 BX.eq_2 B9.eq_1 HQ.eq_1 Jr.eq_1 DY.eq_1 DY.eq_2 Ex.eq_1 Ew.eq_1 KZ.eq_1 DB.eq_1 DB.eq_2 DC.eq_1 DC.eq_2 EO.eq_1 EO.eq_2 Cp.eq_1 Cp.eq_2 Gz.eq_1 HK.eq_1 HK.eq_2 Ic.eq_1 Ic.eq_2 LF.eq_1 LF.eq_2 LF.eq_3 LF.eq_4 MX.eq_1 MX.eq_2 HJ.eq_1 HJ.eq_2 HJ.eq_3 HJ.eq_4 bM.eq_1 bM.eq_2 LX.eq_1 FF.eq_1 FF.eq_2 FF.eq_3 LY.eq_1 FR.eq_1 FR.eq_2 FR.eq_3 F0.eq_1 F0.eq_2 F4.eq_1 F4.eq_2 HN.eq_1 HN.eq_2 Vy.eq_1 QL.eq_1 QM.eq_1 MW.eq_1 MW.eq_2 QN.eq_1 D8.eq_1 D8.eq_2 D8.eq_3 D8.eq_4 MY.eq_1 MY.eq_2 DH.eq_1 I1.eq_1 I1.eq_2 I1.eq_3 CV.eq_1 CV.eq_2 Et.eq_1 Et.eq_2 CU.eq_1 CU.eq_2 CU.eq_3 GQ.eq_1 GQ.eq_2 ao.eq_1 AS.takeV.eq_1 AS.takeV.eq_2 AS.takeV.eq_3 AS.takeV.eq_4 AS.takeV.eq_5 AS.takeV.eq_6 AS.takeV.eq_7 AV.oldM.eq_1 AV.oldM.eq_2 AV.oldM.eq_3 AV.oldM.eq_4 AV.oldM.eq_5 AV.oldM.eq_6 AV.oldM.eq_7 AV.oldM.eq_8 AV.oldM.eq_9 AV.oldM.eq_10 AV.oldM.eq_11 AV.oldML.eq_1 AV.oldML.eq_2 subL.eq_1 subL.eq_2 Dl.eq_1 Dl.eq_2 Dl.eq_3 Dl.eq_4 C1.eq_1 BK.eq_1 BK.eq_2 BK.eq_3 BK.eq_4 Bt.eq_1 B8.eq_1 B8.eq_2 B8.eq_3 D7.eq_1 D7.eq_2 D7.eq_3 BE.eq_1 BE.eq_2 BE.eq_3 BE.eq_4 BE.eq_5 BE.eq_6 BE.eq_7 BE.eq_8 BE.eq_9 BE.eq_10 BE.eq_11 BE.eq_12 BE.eq_13 BE.eq_14 BE.eq_15 BE.eq_17 BE.eq_18 BE.eq_19 BE.eq_20 BE.eq_21 BE.eq_22 BE.eq_23 AS.ev.eq_1 AS.ev.eq_2 AS.ev.eq_3 AS.ev.eq_4 AS.evs.eq_1 AS.evs.eq_2 AS.evp.eq_1 AS.evp.eq_2 AS.put.eq_1 AS.put.eq_2 AS.remL.eq_1 AS.remL.eq_2 AV.has.eq_1 AV.has.eq_2 AV.has.eq_3 AV.has.eq_4 AV.has.eq_5 AV.has.eq_6 AV.has.eq_7 AV.has.eq_8 AV.has.eq_9 AV.has.eq_10 AV.has.eq_11 AV.hasL.eq_1 AV.hasL.eq_2 Ob.drop.eq_1 Ob.drop.eq_2 Ob.drop.eq_3 Ob.drop.eq_4 AV.cells.eq_1 AV.cells.eq_2 AV.cells.eq_3 AV.cells.eq_4 AV.cells.eq_5 AS.snapT.eq_1 AS.snapT.eq_2 AS.snapT.eq_3 AS.snapT.eq_4 AS.snapT.eq_5 AS.snapT.eq_6 AS.snapT.eq_7 AS.snap.eq_1 AS.snap.eq_2 A8.eq_1 A8.eq_2 AM.eq_1 AM.eq_2 AM.eq_3 AM.eq_4 AM.eq_5 AM.eq_6 AM.eq_7 AM.eq_8 AM.eq_9 AM.eq_10 AM.eq_11 AR.eq_1 AR.eq_2 H1.eq_1 H1.eq_2 AV.ids.eq_1 AV.ids.eq_2 AV.ids.eq_3 AV.ids.eq_4 AV.ids.eq_5 AV.ids.eq_6 AV.ids.eq_7 AV.ids.eq_8 AV.ids.eq_9 AV.ids.eq_10 AV.ids.eq_11 AV.idsL.eq_1 AV.idsL.eq_2 AV.sub.eq_1 AV.sub.eq_2 AV.sub.eq_3 AV.sub.eq_4 AV.sub.eq_5 AV.sub.eq_6 AV.sub.eq_7 AV.sub.eq_8 AV.sub.eq_9 AV.sub.eq_10 AV.sub.eq_11 AV.subL.eq_1 AV.subL.eq_2 AS.frzL.eq_1 AS.frzL.eq_2 AS.absT.eq_1 AS.absT.eq_2 AS.absT.eq_4 AS.absL.eq_1 AS.absL.eq_2 AS.absOk.eq_1 AS.absOkL.eq_1 AS.absOkL.eq_2 B0.eq_1 BU.eq_1 BU.eq_2 AS.appBase.eq_1 AS.appBase.eq_2 AS.appSrc.eq_1 CS.eq_1 CS.eq_2 CS.eq_3 CL.eq_1 CL.eq_2 bN.eq_1 bN.eq_2 DR.eq_1 Kd.agg.eq_1 Kd.agg.eq_2 IP.eq_1 IP.eq_2 IP.eq_3 IP.eq_4 IP.eq_5 IP.eq_6 IP.eq_7 IP.eq_8 zt.eq_1 ut.eq_1 uu.eq_1 WS.eq_1 WS.eq_2 aZ.eq_1 Ud.eq_1 Ke.eq_1 Ke.eq_2 Ke.eq_3 Ue.eq_1 Uc.eq_1 Pi.eq_1 Pi.eq_2 HU.eq_1 DN.eq_1 DN.eq_2 DN.eq_3 DN.eq_4 DN.eq_5 DN.eq_6 DN.eq_7 DN.eq_8 DU.eq_1 DU.eq_2 Cw.eq_1 Cw.eq_2 Cw.eq_3 Cw.eq_4 Cw.eq_5 Bq.eq_1 C0.eq_1 C0.eq_2 C0.eq_3 C0.eq_4 C0.eq_5 CK.eq_1 Q6.eq_1 Q6.eq_2 Ng.eq_1 Ng.eq_2 Ng.eq_3 cellAV.eq_1 cellAV.eq_2 DT.eq_1 DT.eq_2 Bz.eq_1 Bz.eq_2 Bz.eq_3 Bz.eq_4 Bz.eq_5 Bz.eq_6 Bz.eq_7 Bz.eq_8 Bz.eq_9 Bz.eq_10 Bz.eq_11 Bz.eq_12 Bz.eq_13 Bz.eq_14 Bz.eq_15 Bz.eq_16 Bz.eq_17 Bz.eq_18 Bz.eq_19 Bz.eq_20 Bz.eq_21 Bz.eq_22 Bz.eq_23 Bz.eq_24 Bz.eq_25 Bz.eq_26 Bm.eq_1 Bm.eq_2 Bm.eq_3 Bm.eq_4 Bm.eq_5 AV.refs.eq_1 AV.refs.eq_2 AV.refs.eq_3 AV.refs.eq_4 AV.refs.eq_5 AV.refs.eq_6 AV.refs.eq_7 AV.refs.eq_8 AV.refs.eq_9 AV.refs.eq_10 AV.refs.eq_11 AV.refsL.eq_1 AV.refsL.eq_2 Km.eq_1 Km.eq_2 Em.eq_1 Em.eq_2 Em.eq_3 Em.eq_4 Em.eq_5 Em.eq_6 ME.eq_1 ME.eq_2 Va.eq_1 Va.eq_2 GZ.eq_1 GZ.eq_2 AV.hasM.eq_1 AV.hasM.eq_2 AV.hasM.eq_3 AV.hasM.eq_4 AV.hasM.eq_5 AV.hasM.eq_6 AV.hasM.eq_7 AV.hasM.eq_8 AV.hasM.eq_9 AV.hasM.eq_10 AV.hasM.eq_11 AV.hasML.eq_1 AV.hasML.eq_2 Ob.dropM.eq_1 Ob.dropM.eq_2 Ob.dropM.eq_3 Ob.dropM.eq_4 jf.eq_1 jf.eq_2 AS.purges.eq_1 AS.purges.eq_2 KC.eq_1 KC.eq_2 WD.eq_1 WD.eq_2 tX.eq_1 tX.eq_2 FH.eq_1 FH.eq_2 FG.eq_1 FG.eq_2 bR.eq_1 bR.eq_2 bS.eq_1 bS.eq_2 AS.mvs.eq_1 AS.mvs.eq_2 AS.mvA.eq_1 AS.mvA.eq_2 AS.mvB.eq_1 La.eq_1 La.eq_2 gu.eq_1 gu.eq_2 XS.eq_1 GR.eq_1 GR.eq_2 iB.eq_1 HO.eq_1 HO.eq_2 Js.eq_1 HP.eq_1 HP.eq_2 Ij.eq_1 C6.eq_1 S1.eq_1 GT.eq_1 GT.eq_2 GT.eq_3 LZ.eq_1 LZ.eq_2 Id.eq_1 Id.eq_2 OB.eq_1 nn.eq_1 nn.eq_2 nn.eq_3 uo.eq_1 EM.eq_1 EM.eq_2 WV.eq_1 Ga.eq_1 Ga.eq_2 Ga.eq_3 fe.eq_1 fe.eq_2 fe.eq_3 QT.eq_1 QS.eq_1 QR.eq_1 HM.eq_1 MZ.eq_1 MZ.eq_2 QQ.eq_1 QP.eq_1 EA.eq_1 H6.eq_1 LW.eq_1 se.eq_1 se.eq_2 Wl.eq_1 Wl.eq_2 Wl.eq_3 Wl.eq_4 E7.eq_1 E7.eq_2 E7.eq_3 E7.eq_4 PL.eq_1 PL.eq_2 s5.eq_1 s5.eq_2 G3.eq_1 G3.eq_2 Wm.eq_1 Wm.eq_2 Wm.eq_3 Wm.eq_4 Wm.eq_5 AS.lkO.eq_1 AS.lkO.eq_2 AS.lkOf.eq_1 Hl.eq_1 Hl.eq_2 Hl.eq_3 Hl.eq_4 Hl.eq_5 Hl.eq_6 Be.eq_1 Be.eq_2 Be.eq_3 Be.eq_4 Be.eq_5 Be.eq_6 Be.eq_7 Be.eq_8 Be.eq_9 Be.eq_10 Be.eq_11 XG.eq_1 XG.eq_2 kj.eq_1 kj.eq_2 KL.eq_1 Cu.eq_1 Cu.eq_2 E8.eq_1 E8.eq_2 E8.eq_3 E8.eq_4 PM.eq_1 PM.eq_2 s6.eq_1 s6.eq_2 Ly.eq_1 Ly.eq_2 kk.eq_1 jw jx Pu Ut Pr iN iM iL MF Ps Us Kq Pp aT Uo aS Un aU Uq i6 i5 jy aW Ur sb sc jH jE jG jF jv kv KI Ie bt Sg Fs Rp gv gd s0 Am B1 FH Y0 Yz Ol drop_nil Yf Ye Tt Ts Ok Om Tr FG UE ae aN re_eq up_eq Y2 jl Ob.drop ue vn DE AS.frz splice cond_true cond_false List.map_cons List.map_nil List.drop_zero List.drop_succ_cons List.drop_nil List.take_zero List.take_succ_cons List.take_nil List.getElem?_cons_zero List.getElem?_cons_succ List.getElem?_nil List.length_cons List.length_nil Option.map_some Option.map_none Option.bind_some Option.bind_none List.cons_append List.nil_append List.append_nil Option.getD_some Option.getD_none List.all_cons List.all_nil Bool.and_true Bool.true_and Bool.or_false Bool.false_or Bool.or_true Bool.true_or List.flatten_cons List.flatten_nil List.replicate_succ List.replicate_zero and_true true_and XY XX OH S6 S7 Ld OO TO TP Lg OM ON bI bJ Ll Td Tc aj ah U9 U8 Uu aA Ub Ph Ug Uf aB Pj L9 MB ne_eq not_false_eq_true not_true_eq_false List.nodup_nil List.not_mem_nil false_implies implies_true eq_self true_or or_true Option.some.injEq Uv U6 U2 U4 U5 Uw U7 Ux U3 U1 U0 Uz Uy OL Tz Ik Nat.le_refl L5 lm bF bE Oj Pn Ip KX Kk Iw L0 PO rf rd rg ri rj rh MC Kj Gy pg List.any_cons List.any_nil XN S5 XL ER L6 Mo Op.operands Call.operands I7 hO vC S4 Re Rk List.append_eq jg jh jb jc jd iQ iR iS UA UB UC HX AS.mv fits KM H5 Fe M8 TL XT XU PG PD PE iA N7 TS jK T4 S2 Lb decide_true decide_false Array.toList_append Tf Tg Th Ti Xb Lh TR Jz AS.mvJ PT aQ aR ZZ Option.isSome_some Option.isSome_none Zi OF OG gz hP hY XK XH XJ XI XP fV.eq_1 Vz.eq_1 Vz.eq_2 LM.eq_1 LM.eq_2 LM.eq_3 LM.eq_4 tN tO S3 wT wU wV wW t8 t9 uA uC uG uH uI uJ uK uL uM uO uP uQ uR uS uU uV uW uX kK kL kM kN Br kO kP kQ kR kT kU kV DM bR bS AS.mvs Lq OA Jj Tp OX Nt Wv Lo N9 Jh Tn OW Ns Wt Nq UK ZO ZM TN XR TK Nn Np Rx Nm No Rw TM XQ TJ IT.eq_1 ZN UI kW.eq_1 K0.eq_1 M0.eq_1 HA NA Ql Xy jt ju jZ ja HW Si R3 X1 Tm R4 ga ZQ Wn Ry O0 Sv SN SO ZV W6 V9.eq_1 Uk O1 Sw SP YA SQ ZW W8 R0 Oy Sr SL X7 SM gg ZT W4 V8.eq_1 Uj O2 SR SS XA WA.eq_1 Ul O5 Sy SX YC SY gi ZX XD R1 Ot Sk R8 X3 R9 gb Wq V3.eq_1 Uh Ow So SH X5 SI gf ZS W0 V6.eq_1 Oq Sj R5 X2 R6 ZR Wp V2.eq_1 Oz Su X9 To ZU Rz Ox Sq SJ X6 SK W3 V7.eq_1 Ui O3 ST SU XB WB.eq_1 Ou SB SC Wr V4.eq_1 Ov Sm SE X4 SF gc Wx V5.eq_1 O4 SV SW XC GN.eq_1
def Bh (b : ByteArray) : Prop := b.size ≤ 1048576
def HG {α : Type} (p : α → Prop) (xs : List α) : Prop := (xs.length : Int) ≤ 1048576 ∧ ∀ x ∈ xs, p x
theorem HG.at {α : Type} [Inhabited α] {p : α → Prop} {xs : List α} (h : HG p xs) {i : Nat} (hi : i < xs.length) : p (xs.getD i default) := h.2 _ (by simp [hi])
def Ge (a : Ad) : Prop := Bh a.user ∧ Bh a.domain
def LE (a : Ml) : Prop := Ge a.frm ∧ HG Ge a.to ∧ HG Bh a.body
def u3 (a : Rc) : Prop := Ge a.addr
def GH (a : Im) : Prop := Ge a.frm ∧ HG u3 a.to ∧ HG Bh a.body
def GI (a : Sp) : Prop := HG GH a.items
def u4 (a : Wy) : Prop := Bh a.ends ∧ Bh a.to
def Gf (a : Cf) : Prop := Bh a.name ∧ HG Bh a.own ∧ HG u4 a.ways
def uz (a : Gm) : Prop := Ge a.frm ∧ HG Bh a.body
def uy (a : Bx) : Prop := Ge a.addr ∧ HG uz a.mails
def VL (a : Ls) : Prop := Bh a.mark ∧ Ge a.addr
def GG (a : Hs) : Prop := Gf a.conf ∧ GI a.spool ∧ HG uy a.boxes ∧ HG VL a.lost
def bg (a : Wd) : Prop := HG GG a.hosts ∧ HG VL a.given
def bl (s : ByteArray) : List UInt8 := s.data.toList
def mB (l : List UInt8) : ByteArray := ⟨l.toArray⟩
theorem Xc (l : List UInt8) : bl (mB l) = l := rfl
theorem UN (s : ByteArray) : mB (bl s) = s := rfl
theorem CA (s : ByteArray) : (bl s).length = s.size := rfl
theorem Bj (s : ByteArray) (i : Nat) : AC s i = (((bl s).getD i 0).toNat : Int) := rfl
theorem E0 {s t : ByteArray} (h : bl s = bl t) : s = t := by
 rw [← UN s, ← UN t, h]
theorem C4 (s : ByteArray) (i j : Nat) : bl (s.extract i j) = ((bl s).drop i).take (j - i) := by
 unfold bl
 rw [ByteArray.data_extract, Array.toList_extract]
theorem Gw (s : ByteArray) (i j : Nat) : s.extract i j = mB (((bl s).drop i).take (j - i)) := E0 (by rw [C4, Xc])
theorem A6 (s : ByteArray) (i : Nat) : 0 ≤ AC s i ∧ AC s i ≤ 255 := by
 rw [Bj]
 have := ((bl s).getD i 0).toNat_lt
 omega
def KO (n : Int) : Prop := (97 ≤ n ∧ n ≤ 122) ∨ (48 ≤ n ∧ n ≤ 57)
def Sa (s : ByteArray) : Prop := (∀ j, j < s.size → KO (AC s j)) ∧ 1 ≤ s.size ∧ s.size ≤ 8
def Ib (s : ByteArray) : Prop := (∀ j, j < s.size → 32 ≤ AC s j ∧ AC s j ≤ 126) ∧ s.size ≤ 40
def Ar (c : UInt8) : Nat → List UInt8 → List (List UInt8)
 | 0, l => [l]
 | _ + 1, [] => [[]]
 | m + 1, x :: r => if x = c then [] :: Ar c m r else match Ar c (m + 1) r with | h :: t => (x :: h) :: t | [] => [[x]]
def Ki (p : List UInt8) : List (List UInt8) → List (List UInt8)
 | h :: t => (p ++ h) :: t
 | [] => [p]
theorem Pm : ∀ (l : List (List UInt8)), l ≠ [] → Ki [] l = l
 | h :: t, _ => rfl
 | [], h => absurd rfl h
theorem IX (c : UInt8) : ∀ (m : Nat) (l : List UInt8), Ar c m l ≠ []
 | 0, l => by simp [Ar]
 | m + 1, [] => by simp [Ar]
 | m + 1, x :: r => by
   unfold Ar
   split
   ·try simp
   ·split <;> simp
theorem Rn (c : UInt8) (m : Nat) (r : List UInt8) (p : List UInt8) : Ki p (Ar c (m + 1) (c :: r)) = p :: Ar c m r := by
 simp [Ar, Ki]
theorem Pz {c x : UInt8} (h : x ≠ c) (m : Nat) (r : List UInt8) (p : List UInt8) : Ki p (Ar c (m + 1) (x :: r)) = Ki (p ++ [x]) (Ar c (m + 1) r) := by
 cases h1 : Ar c (m + 1) r with
 | nil => exact absurd h1 (IX c (m + 1) r)
 | cons a t => simp only [Ar, if_neg h, h1, Ki, List.append_assoc, List.singleton_append]
theorem am (c : UInt8) (l : List UInt8) (p : List UInt8) : Ki p (Ar c 0 l) = [p ++ l] := by simp [Ar, Ki]
theorem Rm (c : UInt8) (m : Nat) (p : List UInt8) : Ki p (Ar c m []) = [p] := by
 cases m <;> simp [Ar, Ki]
def Cz (s : ByteArray) (c : UInt8) (m : Nat) : List ByteArray := (Ar c m (bl s)).map mB
def J5 : Ct := Aq (lc BI (lc BI (lc BI l0))) (fun p => True) (fun p => .t (.v (.bool (BL (p.2.1 ≤ p.1 ∧ p.1 ≤ p.2.2.1)))))
theorem oy {G : Gt} (hG : Ah G) : Gd G 69 (AA 0 J5) := by
 refine gr (fn := Tryz.f69) (n := 3) rfl rfl hG ?_
 rintro ⟨n, lo, hi, ⟨⟩⟩ hpre
 simp -implicitDefEqProofs only [Tryz.f69, go_sem, seval] at hpre ⊢
 with_reducible repeat' (first | apply ai | intro _ | ((first | apply s1 | apply s3 | apply s4) <;> intro hb <;> simp -implicitDefEqProofs only [hb, go_sem, seval] <;> try simp only [qz] at hb))
 all_goals first
  | (rw [AO (by omega)]; done)
  | (rw [BF]; simp [*]; done)
  | skip
def r9 : Ct := Aq (lc Ap l0) (fun p => True) (fun p => .t (.v (.bool (BL (Sa p.1)))))
section
attribute [local go_sem] J5
theorem pN {G : Gt} (hG : Ah G) (hh : G.e 69 = AA 0 J5) : Gd G 89 (AA 0 r9) := by
 refine gr (fn := Tryz.f89) (n := 1) rfl rfl hG ?_
 rintro ⟨s, ⟨⟩⟩ hpre
 simp -implicitDefEqProofs only [Tryz.f89, go_sem, hh, seval] at hpre ⊢
 refine AF [] (ι := {i : Nat // i ≤ s.size ∧ ∀ j, j < i → KO (AC s j)}) (fun p => ⟨[(0, .t (.v (.string s))), (3, .t (.v (.int .i64 p.1)))], []⟩) (fun p => s.size - p.1) ⟨0, by simp, by simp⟩ rfl ?_ ?_
 ·simp -implicitDefEqProofs only [go_sem, hh, seval]
  try simp
 ·rintro ⟨i, hi, hall⟩
  simp -implicitDefEqProofs only [go_sem, hh, seval]
  with_reducible repeat' (first | apply ai | intro _ | ((first | apply s1 | apply s3 | apply s4) <;> intro hb <;> simp -implicitDefEqProofs only [hb, go_sem, hh, seval] <;> try simp only [qz] at hb))
  all_goals (try simp only [maxLen, tn] at *)
  all_goals (try have hbr := A6 s i)
  all_goals first | rfl | omega | skip
  all_goals first
   | (rw [AO (fun hq => by have hq1 := hq.1 i (by omega); simp only [KO] at *; omega)]; done)
   | (refine ⟨⟨i + 1, by omega, fun j hj => ?_⟩, by dsimp only; omega, ?_⟩
      ·by_cases e : j = i
       ·subst e; simp only [KO] at *; omega
       ·exact hall j (by omega)
      ·simp -implicitDefEqProofs only [go_sem, hh, seval]
       simp)
   | skip
  ·rw [AW]
   exact ⟨fun h => ⟨fun j hj => hall j (by omega), by omega⟩, fun h => by have := h.2; omega⟩
end
def Qc : Ct := Aq (lc Ap l0) (fun p => True) (fun p => .t (.v (.bool (BL (Ib p.1)))))
theorem dH {G : Gt} (hG : Ah G) : Gd G 108 (AA 0 Qc) := by
 refine gr (fn := Tryz.f108) (n := 1) rfl rfl hG ?_
 rintro ⟨s, ⟨⟩⟩ hpre
 simp -implicitDefEqProofs only [Tryz.f108, go_sem, seval] at hpre ⊢
 refine AF [] (ι := {i : Nat // i ≤ s.size ∧ ∀ j, j < i → 32 ≤ AC s j ∧ AC s j ≤ 126}) (fun p => ⟨[(0, .t (.v (.string s))), (3, .t (.v (.int .i64 p.1)))], []⟩) (fun p => s.size - p.1) ⟨0, by simp, by simp⟩ rfl ?_ ?_
 ·simp -implicitDefEqProofs only [go_sem, seval]
  try simp
 ·rintro ⟨i, hi, hall⟩
  simp -implicitDefEqProofs only [go_sem, seval]
  with_reducible repeat' (first | apply ai | intro _ | ((first | apply s1 | apply s3 | apply s4) <;> intro hb <;> simp -implicitDefEqProofs only [hb, go_sem, seval] <;> try simp only [qz] at hb))
  all_goals (try simp only [maxLen, tn] at *)
  all_goals (try have hbr := A6 s i)
  all_goals first | rfl | omega | skip
  all_goals first
   | (rw [AO (fun hq => by have hq1 := hq.1 i (by omega); skip; omega)]; done)
   | (refine ⟨⟨i + 1, by omega, fun j hj => ?_⟩, by dsimp only; omega, ?_⟩
      ·by_cases e : j = i
       ·subst e; skip; omega
       ·exact hall j (by omega)
      ·simp -implicitDefEqProofs only [go_sem, seval]
       simp)
   | skip
  ·rw [← BF, AW]
   exact ⟨fun h => ⟨fun j hj => hall j (by omega), by omega⟩, fun h => by have := h.2; omega⟩
structure DF (s : ByteArray) (c : UInt8) (m : Nat) where
 i : Nat
 fr : Nat
 o : List (List UInt8)
 hi : i ≤ s.size
 hf : fr ≤ i
 ho : o.length ≤ m
 h : o ++ Ki (((bl s).drop fr).take (i - fr)) (Ar c (m - o.length) ((bl s).drop i)) = Ar c m (bl s)
theorem WX {l : List UInt8} {fr i : Nat} (hf : fr ≤ i) (hi : i < l.length) : (l.drop fr).take (i + 1 - fr) = (l.drop fr).take (i - fr) ++ [l.getD i 0] := by
 have e : i + 1 - fr = (i - fr) + 1 := by omega
 rw [e, List.take_add_one]
 have : (l.drop fr)[i - fr]? = some (l.getD i 0) := by
  rw [List.getElem?_drop]
  have : fr + (i - fr) = i := by omega
  rw [this]
  simp [hi]
 rw [this]; rfl
def DF.start (s : ByteArray) (c : UInt8) (m : Nat) : DF s c m := ⟨0, 0, [], Nat.zero_le _, Nat.le_refl _, Nat.zero_le _, by
 simp only [Nat.sub_self, List.take_zero, List.nil_append, List.length_nil, Nat.sub_zero, List.drop_zero]
 exact Pm _ (IX c m _)⟩
theorem Ef {s : ByteArray} {i : Nat} (h : i < s.size) : (bl s).drop i = (bl s).getD i 0 :: (bl s).drop (i + 1) := by
 have h' : i < (bl s).length := h
 rw [List.drop_eq_getElem_cons h']
 simp [h']
def DF.hit {s : ByteArray} {c : UInt8} {m : Nat} (z : DF s c m) (h1 : z.i < s.size) (h2 : z.o.length < m) (h3 : (bl s).getD z.i 0 = c) : DF s c m :=
 ⟨z.i + 1, z.i + 1, z.o ++ [((bl s).drop z.fr).take (z.i - z.fr)], h1, Nat.le_refl _, by simp; omega, by
   have h := z.h
   obtain ⟨k, hk⟩ : ∃ k, m - z.o.length = k + 1 := ⟨m - z.o.length - 1, by omega⟩
   rw [hk, Ef h1, h3, Rn] at h
   have e : m - (z.o ++ [((bl s).drop z.fr).take (z.i - z.fr)]).length = k := by simp; omega
   rw [e, Nat.sub_self, List.take_zero, Pm _ (IX _ _ _), List.append_assoc, List.singleton_append]
   exact h⟩
def DF.miss {s : ByteArray} {c : UInt8} {m : Nat} (z : DF s c m) (h1 : z.i < s.size) (h2 : z.o.length < m) (h3 : (bl s).getD z.i 0 ≠ c) : DF s c m :=
 ⟨z.i + 1, z.fr, z.o, h1, Nat.le_succ_of_le z.hf, z.ho, by
   have h := z.h
   obtain ⟨k, hk⟩ : ∃ k, m - z.o.length = k + 1 := ⟨m - z.o.length - 1, by omega⟩
   rw [hk, Ef h1, Pz h3] at h
   rw [hk, WX (l := bl s) z.hf (by rw [CA]; exact h1)]
   exact h⟩
theorem DF.done {s : ByteArray} {c : UInt8} {m : Nat} (z : DF s c m) (h : ¬ z.i < s.size ∨ ¬ z.o.length < m) : z.o.map mB ++ [s.extract z.fr s.size] = Cz s c m := by
 have hz := z.h
 have e0 : s.extract z.fr s.size = mB ((bl s).drop z.fr) := by
  rw [Gw]
  congr 1
  rw [List.take_of_length_le (by rw [List.length_drop, CA]; exact Nat.le_refl _)]
 unfold Cz
 rw [← hz, List.map_append, e0]
 congr 1
 rcases h with h | h
 ·have hi := z.hi
  have e : (bl s).drop z.i = [] := List.drop_of_length_le (by rw [CA]; omega)
  rw [e, Rm]
  have : ((bl s).drop z.fr).take (z.i - z.fr) = (bl s).drop z.fr := List.take_of_length_le (by rw [List.length_drop, CA]; omega)
  rw [this]; rfl
 ·have hk : m - z.o.length = 0 := by omega
  rw [hk, am]
  have hf := z.hf
  have : ((bl s).drop z.fr).take (z.i - z.fr) ++ (bl s).drop z.i = (bl s).drop z.fr := by
   have e : (bl s).drop z.i = ((bl s).drop z.fr).drop (z.i - z.fr) := by rw [List.drop_drop]; congr 1; omega
   rw [e, List.take_append_drop]
  rw [this]; rfl
theorem cu (s : ByteArray) (z : List (List UInt8)) (fr i : Nat) : z.map mB ++ [s.extract fr i] = (z ++ [((bl s).drop fr).take (i - fr)]).map mB := by
 rw [Gw, List.map_append]; rfl
theorem Mf (l : List ByteArray) (x : ByteArray) : l.map AH ++ [[T.v (.string x)]] = (l ++ [x]).map AH := by simp [AH]
theorem ko (s : ByteArray) (z : List (List UInt8)) (fr i : Nat) : (z.map mB).map AH ++ [[T.v (.string (s.extract fr i))]] = ((z ++ [((bl s).drop fr).take (i - fr)]).map mB).map AH := by
 rw [Mf, cu]
theorem Fz {s : ByteArray} {i : Nat} {c : UInt8} : AC s i = (c.toNat : Int) ↔ (bl s).getD i 0 = c := by
 rw [Bj]
 constructor
 ·intro h
  have : ((bl s).getD i 0).toNat = c.toNat := by omega
  exact UInt8.toNat_inj.1 this
 ·intro h; rw [h]
def r8 : Ct := Aq (lc Ap (lc kY (lc BI l0))) (fun p => 0 ≤ p.2.1 ∧ p.2.1 ≤ 255 ∧ 0 ≤ p.2.2.1 ∧ p.2.2.1 ≤ 1000) (fun p => .o true 1 ((Cz p.1 (UInt8.ofNat p.2.1.toNat) p.2.2.1.toNat).map AH))
section
attribute [local go_sem] lm List.map_nil List.length_nil
theorem pM {G : Gt} (hG : Ah G) : Gd G 88 (AA 0 r8) := by
 refine gr (fn := Tryz.f88) (n := 3) rfl rfl hG ?_ (hs := fun _ p => .deep _ _)
 rintro ⟨s, c, m, ⟨⟩⟩ hpre
 simp -implicitDefEqProofs only [Tryz.f88, go_sem, seval] at hpre ⊢
 obtain ⟨c, rfl⟩ : ∃ b : UInt8, c = (b.toNat : Int) := ⟨UInt8.ofNat c.toNat, by simp; omega⟩
 obtain ⟨m, rfl⟩ : ∃ n : Nat, m = (n : Int) := ⟨m.toNat, by omega⟩
 with_reducible repeat' (first | apply ai | intro _ | ((first | apply s1 | apply s3 | apply s4) <;> intro hb <;> simp -implicitDefEqProofs only [hb, go_sem, seval] <;> try simp only [qz] at hb))
 all_goals first | rfl | omega | skip
 refine AF [(7, 1901, true, 1)] (ι := DF s c m) (fun z => ⟨[(0, .t (.v (.string s))), (1, .t (.v (.int .u8 c.toNat))), (2, .t (.v (.int .i64 m))), (7, .h 1901), (8, .t (.v (.int .i64 z.fr))), (9, .t (.v (.int .i64 z.i)))], [(1901, some (.arr true 1 ((z.o.map mB).map AH)))]⟩) (fun z => s.size - z.i) (DF.start s c m) rfl ?_ ?_
 ·simp -implicitDefEqProofs only [go_sem, seval]
  simp [DF.start]
 ·intro z
  have h1 := z.hi
  have h2 := z.hf
  have h3 := z.ho
  simp -implicitDefEqProofs only [go_sem, seval]
  with_reducible repeat' (first | apply ai | intro _ | ((first | apply s1 | apply s3 | apply s4) <;> intro hb <;> simp -implicitDefEqProofs only [hb, go_sem, seval] <;> try simp only [qz] at hb))
  all_goals (try simp only [maxLen, tn, lm] at *)
  all_goals first | rfl | omega | (simp_all; done) | skip
  ·refine ⟨z.hit (by omega) (by omega) (Fz.1 hb), by simp only [DF.hit]; omega, ?_⟩
   rw [ko]
   simp -implicitDefEqProofs only [go_sem, seval]
   simp [DF.hit]
  ·refine ⟨z.miss (by omega) (by omega) (fun e => hb (Fz.2 e)), by simp only [DF.miss]; omega, ?_⟩
   simp -implicitDefEqProofs only [go_sem, seval]
   simp [DF.miss]
  ·rw [Mf, z.done (.inr (by omega)), UInt8.ofNat_toNat]
  ·rw [Mf, z.done (.inl (by omega)), UInt8.ofNat_toNat]
end
def Cc (s : ByteArray) : Prop := (∀ w ∈ Cz s 46 3, Sa w) ∧ (Cz s 46 3).length ≤ 3
def BJ (a : Ad) : Prop := Sa a.user ∧ Cc a.domain
def AZ (a : Ad) : Prop := a.user = ⟨#[]⟩ ∧ a.domain = ⟨#[]⟩
def DW (b : List ByteArray) : Prop := (∀ s ∈ b, Ib s) ∧ b.length ≤ 12
def Ce (m : Ml) : Prop := (∀ a ∈ m.to, BJ a) ∧ m.to.Nodup ∧ (BJ m.frm ∨ AZ m.frm) ∧ (1 ≤ m.to.length ∧ m.to.length ≤ 4) ∧ DW m.body
def QF (s e : ByteArray) : Prop := s = e ∨ (e.size < s.size ∧ s.extract (s.size - e.size) s.size = e ∧ AC s (s.size - e.size - 1) = 46)
theorem BR {α : Type} [Inhabited α] {xs : List α} {P : α → Prop} (h : ∀ j, j < xs.length → P (xs.getD j default)) : ∀ x ∈ xs, P x := fun x hx => by
 obtain ⟨j, hj, rfl⟩ := List.getElem_of_mem hx
 have := h j hj
 simpa [hj] using this
theorem AE {α : Type} [Inhabited α] {xs : List α} {j : Nat} (h : j < xs.length) : xs.getD j default ∈ xs := by
 simp [h]
theorem Zj {α : Type} [Inhabited α] {xs : List α} (h : ∀ j, j < xs.length → ∀ k, k < j → ¬ xs.getD k default = xs.getD j default) : xs.Nodup := by
 rw [List.nodup_iff_pairwise_ne, List.pairwise_iff_getElem]
 intro k j hk hj hkj
 have := h j hj k hkj
 simpa [hk, hj] using this
theorem pq {a b : Ad} (h : (false != (decide (a.user = b.user) && decide (a.domain = b.domain))) = false) : ¬ a = b := fun e => by
 subst e; simp at h
theorem DI {α : Type} [Inhabited α] {xs : List α} {P : α → Prop} {i : Nat} (hall : ∀ j, j < i → P (xs.getD j default)) (h : P (xs.getD i default)) : ∀ j, j < i + 1 → P (xs.getD j default) := fun j hj => by
 by_cases e : j = i
 ·subst e; exact h
 ·exact hall j (by omega)
def Xt : Ct := Aq (lc Ap l0) (fun p => True) (fun p => .t (.v (.bool (BL (Cc p.1)))))
section
attribute [local go_sem] r8 r9 AY lm
theorem oQ {G : Gt} (hG : Ah G) (hh : G.e 88 = AA 0 r8 ∧ G.e 89 = AA 0 r9) : Gd G 40 (AA 0 Xt) := by
 refine gr (fn := Tryz.f40) (n := 1) rfl rfl hG ?_
 rintro ⟨s, ⟨⟩⟩ hpre
 simp -implicitDefEqProofs only [Tryz.f40, go_sem, hh, seval] at hpre ⊢
 with_reducible repeat' (first | apply ai | intro _ | ((first | apply s1 | apply s3 | apply s4) <;> intro hb <;> simp -implicitDefEqProofs only [hb, go_sem, hh, seval] <;> try simp only [qz] at hb))
 all_goals first | rfl | omega | skip
 have e46 : UInt8.ofNat (46 : Int).toNat = 46 := rfl
 have e3 : (3 : Int).toNat = 3 := rfl
 rw [e46, e3] at *
 refine AF [] (ι := {i : Nat // i ≤ (Cz s 46 3).length ∧ ∀ j, j < i → Sa ((Cz s 46 3).getD j default)}) (fun p => ⟨[(3, .h 1006), (4, .t (.v (.int .i64 p.1)))], [(1006, some (.arr true 1 ((Cz s 46 3).map AH)))]⟩) (fun p => (Cz s 46 3).length - p.1) ⟨0, by simp, by simp⟩ rfl ?_ ?_
 ·simp -implicitDefEqProofs only [go_sem, hh, seval]
  try simp
 ·rintro ⟨i, hi, hall⟩
  simp -implicitDefEqProofs only [go_sem, hh, seval]
  with_reducible repeat' (first | apply ai | intro _ | ((first | apply s1 | apply s3 | apply s4) <;> intro hb <;> simp -implicitDefEqProofs only [hb, go_sem, hh, seval] <;> try simp only [qz] at hb))
  all_goals (try simp only [maxLen, tn, lm] at *)
  all_goals first | rfl | omega | skip
  ·rw [AO (fun h => hb (h.1 _ (AE (by omega))))]
  ·refine ⟨⟨i + 1, by omega, DI hall hb⟩, by dsimp only; omega, ?_⟩
   simp -implicitDefEqProofs only [go_sem, hh, seval]
   try simp
  ·rw [← BF, AW]
   exact ⟨fun h => ⟨BR fun j hj => hall j (by omega), by omega⟩, fun h => by have := h.2; omega⟩
end
def IE : Ct := Aq (lc C3.ag l0) (fun p => True) (fun p => .t (.v (.bool (BL (BJ p.1)))))
section
attribute [local go_sem] r9 Xt
theorem dF {G : Gt} (hG : Ah G) (hh : G.e 89 = AA 0 r9 ∧ G.e 40 = AA 0 Xt) : Gd G 106 (AA 0 IE) := by
 refine gr (fn := Tryz.f106) (n := 1) rfl rfl hG ?_
 rintro ⟨a, ⟨⟩⟩ hpre
 simp -implicitDefEqProofs only [Tryz.f106, go_sem, hh, seval] at hpre ⊢
 with_reducible repeat' (first | apply ai | intro _ | ((first | apply s1 | apply s3 | apply s4) <;> intro hb <;> simp -implicitDefEqProofs only [hb, go_sem, hh, seval] <;> try simp only [qz] at hb))
 all_goals first
  | rfl
  | (rw [AO (fun h => hb h.1)]; done)
  | (rw [AW]; exact ⟨fun h => ⟨by assumption, h⟩, fun h => h.2⟩)
  | skip
end
def IF : Ct := Aq (lc C3.ag l0) (fun p => True) (fun p => .t (.v (.bool (BL (AZ p.1)))))
theorem dM {G : Gt} (hG : Ah G) : Gd G 119 (AA 0 IF) := by
 refine gr (fn := Tryz.f119) (n := 1) rfl rfl hG ?_
 rintro ⟨a, ⟨⟩⟩ hpre
 simp -implicitDefEqProofs only [Tryz.f119, go_sem, seval] at hpre ⊢
 with_reducible repeat' (first | apply ai | intro _ | ((first | apply s1 | apply s3 | apply s4) <;> intro hb <;> simp -implicitDefEqProofs only [hb, go_sem, seval] <;> try simp only [qz] at hb))
 all_goals first
  | rfl
  | (rw [AO (fun h => hb h.1)]; done)
  | (rw [← BF, AW]; exact ⟨fun h => ⟨by assumption, h⟩, fun h => h.2⟩)
  | skip
def lU : Ct := Aq (lc Ap (lc Ap l0)) (fun p => True) (fun p => .t (.v (.bool (BL (QF p.1 p.2.1)))))
theorem dq {G : Gt} (hG : Ah G) : Gd G 145 (AA 0 lU) := by
 refine gr (fn := Tryz.f145) (n := 2) rfl rfl hG ?_
 rintro ⟨s, e, ⟨⟩⟩ hpre
 simp -implicitDefEqProofs only [Tryz.f145, go_sem, seval] at hpre ⊢
 with_reducible repeat' (first | apply ai | intro _ | ((first | apply s1 | apply s3 | apply s4) <;> intro hb <;> simp -implicitDefEqProofs only [hb, go_sem, seval] <;> try simp only [qz] at hb))
 all_goals (try simp only [maxLen] at *)
 all_goals first
  | rfl
  | omega
  | (rw [Ak (.inl hb)]; done)
  | skip
 all_goals have e1 : ((s.size : Int) - e.size).toNat = s.size - e.size := by omega
 all_goals (try rw [e1, tn] at hb)
 ·have e2 : ((s.size : Int) - e.size - 1).toNat = s.size - e.size - 1 := by omega
  rw [e2, ← BF, AW]
  exact ⟨fun h => .inr ⟨by omega, hb, h⟩, fun h => by
   rcases h with h | h
   ·exact absurd h (by assumption)
   ·exact h.2.2⟩
 ·rw [AO]
  rintro (h | h)
  ·exact absurd h (by assumption)
  ·exact hb h.2.1
 ·rw [AO]
  rintro (h | h)
  ·exact absurd h (by assumption)
  ·have := h.1; omega
def Mj : Ct := Aq (lc An.asl l0) (fun p => True) (fun p => .t (.v (.bool (BL (DW p.1)))))
section
attribute [local go_sem] Qc
theorem dN {G : Gt} (hG : Ah G) (hh : G.e 108 = AA 0 Qc) : Gd G 120 (AA 0 Mj) := by
 refine gr (fn := Tryz.f120) (n := 1) rfl rfl hG ?_
 rintro ⟨xs, ⟨⟩⟩ hpre
 simp -implicitDefEqProofs only [Tryz.f120, go_sem, hh, seval] at hpre ⊢
 refine AF [] (ι := {i : Nat // i ≤ xs.length ∧ ∀ j, j < i → Ib (xs.getD j default)}) (fun p => ⟨[(0, .t (.sl 1 (xs.map AH))), (3, .t (.v (.int .i64 p.1)))], []⟩) (fun p => xs.length - p.1) ⟨0, by simp, by simp⟩ rfl ?_ ?_
 ·simp -implicitDefEqProofs only [go_sem, hh, seval]
  try simp
 ·rintro ⟨i, hi, hall⟩
  simp -implicitDefEqProofs only [go_sem, hh, seval]
  with_reducible repeat' (first | apply ai | intro _ | ((first | apply s1 | apply s3 | apply s4) <;> intro hb <;> simp -implicitDefEqProofs only [hb, go_sem, hh, seval] <;> try simp only [qz] at hb))
  all_goals (try simp only [maxLen, tn, lm] at *)
  all_goals first | rfl | omega | skip
  ·rw [AO (fun h => hb (h.1 _ (AE (by omega))))]
  ·refine ⟨⟨i + 1, by omega, DI hall hb⟩, by dsimp only; omega, ?_⟩
   simp -implicitDefEqProofs only [go_sem, hh, seval]
   try simp
  ·rw [← BF, AW]
   exact ⟨fun h => ⟨BR fun j hj => hall j (by omega), by omega⟩, fun h => by have := h.2; omega⟩
end
def Mk : Ct := Aq (lc Wc.ag l0) (fun p => (p.1.to.length : Int) ≤ 1048576 ∧ (p.1.body.length : Int) ≤ 1048576) (fun p => RZ p.1)
section
attribute [local go_sem] lm List.map_nil List.length_nil
theorem dP {G : Gt} (hG : Ah G) : Gd G 122 (AA 0 Mk) := by
 refine gr (fn := Tryz.f122) (n := 1) rfl rfl hG ?_ (hs := fun _ p => .agg _ (by intro c hc; simp only [List.mem_cons, List.not_mem_nil, or_false] at hc; rcases hc with rfl | rfl | rfl | rfl <;> first | exact .v _ | exact .deep _ _))
 rintro ⟨m, ⟨⟩⟩ hpre
 simp -implicitDefEqProofs only [Tryz.f122, go_sem, seval] at hpre ⊢
 with_reducible repeat' (first | apply ai | intro _ | ((first | apply s1 | apply s3 | apply s4) <;> intro hb <;> simp -implicitDefEqProofs only [hb, go_sem, seval] <;> try simp only [qz] at hb))
 all_goals (try simp only [maxLen, tn, lm] at *)
 all_goals first | rfl | omega | (simp_all; done) | skip
end
def uj : Ct := Aq (lc Wc.ag l0) (fun p => True) (fun p => .t (.v (.bool (BL (Ce p.1)))))
section
attribute [local go_sem] IE IF J5 Mj lm List.map_nil List.length_nil
theorem ow {G : Gt} (hG : Ah G) (hh : G.e 106 = AA 0 IE ∧ G.e 119 = AA 0 IF ∧ G.e 69 = AA 0 J5 ∧ G.e 120 = AA 0 Mj) : Gd G 68 (AA 0 uj) := by
 refine gr (fn := Tryz.f68) (n := 1) rfl rfl hG ?_
 rintro ⟨m, ⟨⟩⟩ hpre
 simp -implicitDefEqProofs only [Tryz.f68, go_sem, hh, seval] at hpre ⊢
 refine AF [] (ι := {i : Nat // i ≤ m.to.length ∧ (∀ j, j < i → BJ (m.to.getD j default)) ∧ ∀ j, j < i → ∀ k, k < j → ¬ m.to.getD k default = m.to.getD j default}) (fun p => ⟨[(1, .pb 1001 0), (3, .t (.v (.int .i64 p.1)))], [(1001, some (.box [.t (.v (.string m.frm.user)), .t (.v (.string m.frm.domain)), .t (.sl 2 (m.to.map Ao)), .t (.sl 1 (m.body.map AH))]))]⟩) (fun p => m.to.length - p.1) ⟨0, by simp, by simp, by simp⟩ rfl ?_ ?_
 ·simp -implicitDefEqProofs only [go_sem, hh, seval]
  try simp
 ·rintro ⟨i, hi, hall, hno⟩
  simp -implicitDefEqProofs only [go_sem, hh, seval]
  with_reducible repeat' (first | apply ai | intro _ | ((first | apply s1 | apply s3 | apply s4) <;> intro hb <;> simp -implicitDefEqProofs only [hb, go_sem, hh, seval] <;> try simp only [qz] at hb))
  all_goals (try simp only [maxLen, tn, lm] at *)
  all_goals first | rfl | omega | skip
  ·rw [AO (fun h => hb (h.1 _ (AE (by omega))))]
  ·refine AF [] (ι := {k : Nat // k ≤ i ∧ ∀ j, j < k → ¬ m.to.getD j default = m.to.getD i default}) (fun p => ⟨[(1, .pb 1001 0), (3, .t (.v (.int .i64 i))), (4, .t (.v (.int .i64 p.1)))], [(1001, some (.box [.t (.v (.string m.frm.user)), .t (.v (.string m.frm.domain)), .t (.sl 2 (m.to.map Ao)), .t (.sl 1 (m.body.map AH))]))]⟩) (fun p => i - p.1) ⟨0, by simp, by simp⟩ rfl ?_ ?_
   ·simp -implicitDefEqProofs only [go_sem, hh, seval]
    try simp
   ·rintro ⟨k, hk, hk2⟩
    simp -implicitDefEqProofs only [go_sem, hh, seval]
    with_reducible repeat' (first | apply ai | intro _ | ((first | apply s1 | apply s3 | apply s4) <;> intro hb <;> simp -implicitDefEqProofs only [hb, go_sem, hh, seval] <;> try simp only [qz] at hb))
    all_goals (try simp only [maxLen, tn, lm] at *)
    all_goals first | rfl | omega | skip
    ·have e : m.to.getD k default = m.to.getD i default := B5.2 (by simpa using hb)
     rw [AO]
     intro h
     have hn := h.2.1
     have q1 : k < m.to.length := by omega
     have q2 : i < m.to.length := by omega
     simp only [List.getD_eq_getElem?_getD, List.getElem?_eq_getElem q1, List.getElem?_eq_getElem q2, Option.getD_some] at e
     exact List.pairwise_iff_getElem.1 (List.nodup_iff_pairwise_ne.1 hn) k i q1 q2 (by omega) e
    ·refine ⟨⟨k + 1, by omega, fun j hj => ?_⟩, by dsimp only; omega, ?_⟩
     ·by_cases e : j = k
      ·subst e; exact pq hb
      ·exact hk2 j (by omega)
     ·simp -implicitDefEqProofs only [go_sem, hh, seval]
      try simp
    ·refine ⟨⟨i + 1, by omega, DI hall (by assumption), fun j hj q hq => ?_⟩, by dsimp only; omega, ?_⟩
     ·by_cases e : j = i
      ·subst e; exact hk2 q (by omega)
      ·exact hno j (by omega) q hq
     ·simp -implicitDefEqProofs only [go_sem, hh, seval]
      try simp
  all_goals have hlen : m.to.length ≤ i := by omega
  all_goals have hA : ∀ a ∈ m.to, BJ a := BR fun j hj => hall j (by omega)
  all_goals have hN : m.to.Nodup := Zj fun j hj q hq => hno j (by omega) q hq
  all_goals first
   | (rw [AW]
      exact ⟨fun h => ⟨hA, hN, by first | exact .inl (by assumption) | exact .inr (by assumption), by omega, h⟩, fun h => h.2.2.2.2⟩)
   | (rw [AO]
      intro h
      first
       | (have := h.2.2.2.1; omega)
       | (rcases h.2.2.1 with q | q <;> contradiction))
end
theorem Hu {w : World} {pr : Nat → Prop} {u v : Value} {vs : List Value} (h : AI ρ0 w pr [.t (.v u), .t (.v v)] vs []) : vs = [u, v] := by
 obtain ⟨a, l, rfl, h1, h2⟩ := h.one
 obtain ⟨b, l2, rfl, h3, h4⟩ := h2.one
 generalize hF : ([] : List Nat) = F at h4
 cases h4
 rw [h1.val.1, h3.val.1]
theorem LC.cell {m : Int} {w : World} {pr : Nat → Prop} (h : LC m w pr) : w.cell? ⟨0, 0, none⟩ = some (.int .i64 m) := by
 unfold LC at h
 cases h with
 | rop cs a vs hp hv hr =>
   cases hr with
   | cons t v ts vs h1 h2 =>
     cases h1 with
     | v x hx =>
       have := hv 0 (.int .i64 m) rfl
       simpa [Addr.add, rJ] using this
def mH : Ct := Aq (lc Ap (lc kY l0)) (fun _ => True) (fun p => .t (.v (.int .i64 (Lib.indexByte (bl p.1) (UInt8.ofNat p.2.1.toNat)))))
theorem ec (m : Int) : FM Tryz.prog m 203 mH := FM.of (r := fun (p : ByteArray × Int × Unit) => .int .i64 (Lib.indexByte (bl p.1) (UInt8.ofNat p.2.1.toNat))) (fun _ => trivial) fun p _ => by
 obtain ⟨s, c, ⟨⟩⟩ := p
 intro w pr vs hgl hv
 have := Hu hv
 subst this
 have he : Extern.find Tryz.f203 = some Extern.BytealgIndexByte.indexByte := by kernel_rfl
 rw [run_callFunc_extern (fn := Tryz.f203) (by kernel_rfl) (by kernel_rfl) rfl (by kernel_rfl) he]
 have h := Lib.run_indexByteString (P := Tryz.prog) s c w
 rw [show ([Value.string s, Value.int .u8 c].toArray) = #[.string s, .int .u8 c] from rfl, h]
 rfl
def lq : Ct := Aq (lc Ap (lc kY l0)) (fun _ => True) (fun p => .t (.v (.int .i64 (Lib.countByte (bl p.1) (UInt8.ofNat p.2.1.toNat)))))
theorem eG (m : Int) : FM Tryz.prog m 177 lq := FM.of (r := fun (p : ByteArray × Int × Unit) => .int .i64 (Lib.countByte (bl p.1) (UInt8.ofNat p.2.1.toNat))) (fun _ => trivial) fun p _ => by
 obtain ⟨s, c, ⟨⟩⟩ := p
 intro w pr vs hgl hv
 have := Hu hv
 subst this
 have he : Extern.find Tryz.f177 = some Extern.BytealgCount.count := by kernel_rfl
 rw [run_callFunc_extern (fn := Tryz.f177) (by kernel_rfl) (by kernel_rfl) rfl (by kernel_rfl) he]
 have h := Lib.run_countString (P := Tryz.prog) s c w
 rw [show ([Value.string s, Value.int .u8 c].toArray) = #[.string s, .int .u8 c] from rfl, h]
 rfl
def l7 (m : Int) : Ct := Aq (lc Ap (lc Ap l0)) (fun p => 2 ≤ p.2.1.size ∧ (p.2.1.size : Int) ≤ m ∧ p.1.size ≤ 2000000) (fun p => .t (.v (.int .i64 (Lib.indexB p.1 p.2.1))))
theorem eT (m : Int) : FM Tryz.prog m 192 (l7 m) := FM.of (r := fun (p : ByteArray × ByteArray × Unit) => .int .i64 (Lib.indexB p.1 p.2.1)) (fun _ => trivial) fun p hp => by
 obtain ⟨s, b, ⟨⟩⟩ := p
 intro w pr vs hgl hv
 have := Hu hv
 subst this
 have he : Extern.find Tryz.f192 = some Extern.BytealgIndex.index := by kernel_rfl
 rw [run_callFunc_extern (fn := Tryz.f192) (by kernel_rfl) (by kernel_rfl) rfl (by kernel_rfl) he]
 have h := Lib.run_indexString (P := Tryz.prog) s b w 0 m (by kernel_rfl) hgl.cell hp.1 hp.2.1 (by have h3 : s.size ≤ 2000000 := hp.2.2; omega)
 rw [show ([Value.string s, Value.string b].toArray) = #[.string s, .string b] from rfl, h]
 rfl
theorem CB (s : ByteArray) (i : Nat) (h : i < s.size) : AC s i = (s[i].toNat : Int) := by
 rw [Bj]
 have h' : i < (bl s).length := h
 have : (bl s).getD i 0 = s[i] := by
  simp [h']
  rfl
 rw [this]
 rfl
theorem GD (s : ByteArray) : s.toList = bl s := ByteArray.toList_eq s
theorem Ea {s t : ByteArray} (h : s = t) : (s.toList == t.toList) = true := by rw [h]; simp
theorem Fx {s t : ByteArray} (h : ¬ s = t) : (s.toList == t.toList) = false := by
 rw [GD, GD]
 simpa using fun e => h (E0 e)
def l6 : Ct := Aq (lc Ap (lc kY l0)) (fun p => True) (fun p => .t (.v (.int .i64 (Lib.indexByte (bl p.1) (UInt8.ofNat p.2.1.toNat)))))
section
attribute [local go_sem] mH
theorem eS {G : Gt} (hG : Ah G) (hh : G.e 203 = AA 3 mH) : Gd G 191 (AA 0 l6) := by
 refine gr (fn := Tryz.f191) (n := 2) rfl rfl hG ?_
 rintro ⟨s, c, ⟨⟩⟩ hpre
 simp -implicitDefEqProofs only [Tryz.f191, go_sem, hh, seval] at hpre ⊢
 repeat' (first | with_reducible apply ai | with_reducible intro _ | ((first | apply s1 | apply s2 | apply s3 | apply s4) <;> intro hb <;> simp -implicitDefEqProofs only [hb, go_sem, hh, seval] <;> try simp only [qz] at hb))
 all_goals first | rfl | skip
end
def l8 : Ct := Aq (lc BI l0) (fun p => 0 ≤ p.1 ∧ p.1 ≤ 1000000000000) (fun p => .t (.v (.int .i64 ((p.1 + 16) / 8))))
theorem eU {G : Gt} (hG : Ah G) : Gd G 193 (AA 0 l8) := by
 refine gr (fn := Tryz.f193) (n := 1) rfl rfl hG ?_
 rintro ⟨n, ⟨⟩⟩ hpre
 simp -implicitDefEqProofs only [Tryz.f193, go_sem, seval] at hpre ⊢
 repeat' (first | with_reducible apply ai | with_reducible intro _ | ((first | apply s1 | apply s2 | apply s3 | apply s4) <;> intro hb <;> simp -implicitDefEqProofs only [hb, go_sem, seval] <;> try simp only [qz] at hb))
 all_goals first | rfl | omega | skip
open Go.Lib in
theorem hash_next (s : ByteArray) (k : Nat) (hk : k < s.size) {h : Int} (hh : h = RK.H ((bl s).take k) % 4294967296) : (h * 16777619 % 4294967296 + AC s k) % 4294967296 = RK.H ((bl s).take (k + 1)) % 4294967296 := by
 have := Go.Proofs.hash_step s k hk hh
 rw [CB s k hk]
 have h2 : (s[k].toNat : Int) % 4294967296 = s[k].toNat := by
  have := s[k].toNat_lt
  omega
 rw [h2] at this
 exact this
theorem rA (x : Int) : 0 ≤ x % 4294967296 ∧ x % 4294967296 < 4294967296 := by omega
def vt (s : ByteArray) : AV := .tup [.t (.v (.int .u32 (Lib.RK.H (bl s) % 4294967296))), .t (.v (.int .u32 (16777619 ^ s.size % 4294967296)))]
def mI : Ct := Aq (lc Ap l0) (fun p => p.1.size ≤ 2000000) (fun p => vt p.1)
section
attribute [local go_sem] vt
theorem ef {G : Gt} (hG : Ah G) : Gd G 204 (AA 0 mI) := by
 refine gr (fn := Tryz.f204) (n := 1) rfl rfl hG ?_ (hs := fun _ p => .tup _ (by intro c hc; simp only [List.mem_cons, List.not_mem_nil, or_false] at hc; rcases hc with rfl | rfl <;> exact .v _))
 rintro ⟨s, ⟨⟩⟩ hpre
 simp -implicitDefEqProofs only [Tryz.f204, go_sem, seval] at hpre ⊢
 refine AF [] (ι := {i : Nat // i ≤ s.size}) (fun p => ⟨[(0, .t (.v (.string s))), (4, .t (.v (.int .u32 (Lib.RK.H ((bl s).take p.1) % 4294967296)))), (5, .t (.v (.int .i64 p.1)))], []⟩) (fun p => s.size - p.1) ⟨0, by omega⟩ rfl ?_ ?_
 ·simp -implicitDefEqProofs only [go_sem, seval]
  simp [Lib.RK.H_nil]
 ·rintro ⟨i, hi⟩
  simp -implicitDefEqProofs only [go_sem, seval]
  repeat' (first | with_reducible apply ai | with_reducible intro _ | ((first | apply s1 | apply s2 | apply s3 | apply s4) <;> intro hb <;> simp -implicitDefEqProofs only [hb, go_sem, seval] <;> try simp only [qz] at hb))
  all_goals (try simp only [maxLen, tn] at *)
  all_goals (try have hbr := A6 s i)
  all_goals first | rfl | omega | skip
  ·refine ⟨⟨i + 1, by omega⟩, by dsimp only; omega, ?_⟩
   rw [hash_next s i (by omega) rfl]
   simp -implicitDefEqProofs only [go_sem, seval]
   try simp
  ·have hii : i = s.size := by omega
   have hle : (bl s).length ≤ i := by rw [CA]; omega
   rw [List.take_of_length_le hle]
   refine AF [] (ι := {p : Nat × Int × Int // p.1 ≤ 2000000 ∧ Lib.RK.PowInv s.size p.1 p.2.1 p.2.2 ∧ 0 ≤ p.2.1 ∧ p.2.1 < 4294967296}) (fun p => ⟨[(4, .t (.v (.int .u32 (Lib.RK.H (bl s) % 4294967296)))), (6, .t (.v (.int .u32 p.1.2.1))), (7, .t (.v (.int .u32 p.1.2.2))), (8, .t (.v (.int .i64 p.1.1)))], []⟩) (fun p => p.1.1) ⟨(s.size, 1, 16777619), by simpa using hpre, Lib.RK.pow_start _, by simp, by simp⟩ rfl ?_ ?_
   ·simp -implicitDefEqProofs only [go_sem, seval]
    try simp
   ·rintro ⟨⟨k, pw, sq⟩, hk, hpi, h0, h1⟩
    have hand := Go.Proofs.and_one k (by simp only at hk; omega)
    simp only at hk h0 h1 hpi
    have hpw : ((k : Int) / 2 ^ (1 : Int).toNat) = ((k / 2 : Nat) : Int) := by simp
    simp -implicitDefEqProofs only [go_sem, seval]
    repeat' (first | with_reducible apply ai | with_reducible intro _ | ((first | apply s1 | apply s2 | apply s3 | apply s4) <;> intro hb <;> simp -implicitDefEqProofs only [hb, go_sem, seval] <;> try simp only [qz] at hb))
    all_goals (try simp only [maxLen, tn] at *)
    all_goals first | rfl | omega | skip
    ·have h2 : k % 2 = 1 := by rw [hand] at hb; omega
     have := rA (pw * sq)
     refine ⟨⟨(k / 2, pw * sq % 4294967296, sq * sq % 4294967296), by simp only []; omega, Lib.RK.pow_odd hpi h2, this.1, this.2⟩, by simp only []; omega, ?_⟩
     try rw [hpw]
     simp -implicitDefEqProofs only [go_sem, seval]
     try simp
    ·have h2 : k % 2 = 0 := by rw [hand] at hb; omega
     refine ⟨⟨(k / 2, pw, sq * sq % 4294967296), by simp only []; omega, Lib.RK.pow_even hpi h2, h0, h1⟩, by simp only []; omega, ?_⟩
     try rw [hpw]
     simp -implicitDefEqProofs only [go_sem, seval]
     try simp
    ·have h2 : k = 0 := by omega
     subst h2
     rw [← Lib.RK.pow_end hpi h0 h1]
end
open Go.Lib in
theorem roll_next (s : ByteArray) (n i : Nat) (hn : 1 ≤ n) (hni : n ≤ i) (hi : i < s.size) {h pw : Int} (hh : h = RK.H (RK.win (bl s) (i - n) n) % 4294967296) (hp : pw = 16777619 ^ n % 4294967296) :
    ((h * 16777619 % 4294967296 + AC s i) % 4294967296 - pw * AC s (i - n) % 4294967296) % 4294967296 = RK.H (RK.win (bl s) (i + 1 - n) n) % 4294967296 := by
 have := Go.Proofs.roll_step s n i hn hni hi hh hp
 rw [CB s i hi, CB s (i - n) (by omega)]
 have h2 : (s[i - n].toNat : Int) % 4294967296 = s[i - n].toNat := by
  have := s[i - n].toNat_lt
  omega
 rw [h2] at this
 rw [← show RK.H (RK.win s.data.toList (i + 1 - n) n) % 4294967296 = RK.H (RK.win (bl s) (i + 1 - n) n) % 4294967296 from rfl, ← this]
 generalize pw * (s[i - n].toNat : Int) = X
 omega
def l9 : Ct := Aq (lc Ap (lc Ap l0)) (fun p => 1 ≤ p.2.1.size ∧ p.2.1.size ≤ p.1.size ∧ p.1.size ≤ 2000000) (fun p => .t (.v (.int .i64 (Lib.indexB p.1 p.2.1))))
section
attribute [local go_sem] mI vt
theorem eV {G : Gt} (hG : Ah G) (hh : G.e 204 = AA 0 mI) : Gd G 194 (AA 0 l9) := by
 refine gr (fn := Tryz.f194) (n := 2) rfl rfl hG ?_
 rintro ⟨s, sep, ⟨⟩⟩ hpre
 simp -implicitDefEqProofs only [Tryz.f194, go_sem, hh, seval] at hpre ⊢
 repeat' (first | with_reducible apply ai | with_reducible intro _ | ((first | apply s1 | apply s2 | apply s3 | apply s4) <;> intro hb <;> simp -implicitDefEqProofs only [hb, go_sem, hh, seval] <;> try simp only [qz] at hb))
 all_goals first | rfl | omega | skip
 refine AF [] (ι := {i : Nat // i ≤ sep.size}) (fun p => ⟨[(0, .t (.v (.string s))), (1, .t (.v (.string sep))), (5, .t (.v (.int .u32 (Lib.RK.H (bl sep) % 4294967296)))), (6, .t (.v (.int .u32 (16777619 ^ sep.size % 4294967296)))), (7, .t (.v (.int .i64 sep.size))), (8, .t (.v (.int .u32 (Lib.RK.H ((bl s).take p.1) % 4294967296)))), (9, .t (.v (.int .i64 p.1)))], []⟩) (fun p => sep.size - p.1) ⟨0, by omega⟩ rfl ?_ ?_
 ·simp -implicitDefEqProofs only [go_sem, hh, seval]
  simp [Lib.RK.H_nil]
 ·rintro ⟨i, hi⟩
  simp -implicitDefEqProofs only [go_sem, hh, seval]
  repeat' (first | with_reducible apply ai | with_reducible intro _ | ((first | apply s1 | apply s2 | apply s3 | apply s4) <;> intro hb <;> simp -implicitDefEqProofs only [hb, go_sem, hh, seval] <;> try simp only [qz] at hb))
  all_goals (try simp only [maxLen, tn] at *)
  all_goals (try have hbr := A6 s i)
  all_goals first | rfl | omega | skip
  ·refine ⟨⟨i + 1, by omega⟩, by dsimp only; omega, ?_⟩
   rw [hash_next s i (by omega) rfl]
   simp -implicitDefEqProofs only [go_sem, hh, seval]
   try simp
  ·rw [Lib.hit s sep 0 (fun j hj => absurd hj (Nat.not_lt_zero _)) (by omega) (Ea (by rw [Nat.zero_add]; exact hb))]
   rfl
  all_goals
   have hii : i = sep.size := by omega
   have hb0 := hb
   subst hii
   have hno : Lib.NoOccB s sep (sep.size - sep.size + 1) := by
    rw [Nat.sub_self]
    refine Lib.NoOcc.succ (fun j hj => absurd hj (Nat.not_lt_zero _)) ?_
    first
     | exact Go.Proofs.occ_no s sep 0 (by omega) (by rw [Nat.zero_add]; exact Fx hb0)
     | exact Go.Proofs.occ_no_hash s sep 0 (by omega) rfl rfl hb0
   refine AF [] (ι := {k : Nat // sep.size ≤ k ∧ k ≤ s.size ∧ Lib.NoOccB s sep (k - sep.size + 1)}) (fun p => ⟨[(0, .t (.v (.string s))), (1, .t (.v (.string sep))), (5, .t (.v (.int .u32 (Lib.RK.H (bl sep) % 4294967296)))), (6, .t (.v (.int .u32 (16777619 ^ sep.size % 4294967296)))), (7, .t (.v (.int .i64 sep.size))), (8, .t (.v (.int .u32 (Lib.RK.H (Lib.RK.win (bl s) (p.1 - sep.size) sep.size) % 4294967296)))), (10, .t (.v (.int .i64 p.1)))], []⟩) (fun p => s.size - p.1) ⟨sep.size, by omega, by omega, hno⟩ rfl ?_ ?_
   ·simp -implicitDefEqProofs only [go_sem, hh, seval]
    try simp [Lib.RK.win_zero]
   ·rintro ⟨k, hk1, hk2, hk3⟩
    have hrn := fun h => roll_next s sep.size k (by omega) hk1 h rfl rfl
    have eks : ((k : Int) - sep.size).toNat = k - sep.size := by omega
    have eks1 : ((k : Int) + 1 - sep.size).toNat = k + 1 - sep.size := by omega
    have ek1 : ((k : Int) + 1).toNat = k + 1 := by omega
    simp -implicitDefEqProofs only [go_sem, hh, seval]
    repeat' (first | with_reducible apply ai | with_reducible intro _ | ((first | apply s1 | apply s2 | apply s3 | apply s4) <;> intro hb <;> simp -implicitDefEqProofs only [hb, go_sem, hh, seval] <;> try simp only [qz] at hb))
    all_goals (try simp only [maxLen, tn] at *)
    all_goals (try have hbr := A6 s k)
    all_goals (try have hbr2 := A6 s (k - sep.size))
    all_goals (try simp only [eks, eks1, ek1] at *)
    all_goals first | rfl | omega | skip
    all_goals (try have hkk := hrn (by omega))
    all_goals have e1 : k - sep.size + 1 = k + 1 - sep.size := by omega
    all_goals rw [e1] at hk3
    ·have e2 : k + 1 - sep.size + sep.size = k + 1 := by omega
     rw [Lib.hit s sep (k + 1 - sep.size) hk3 (by omega) (Ea (by rw [e2]; exact hb))]
     have e3 : ((k + 1 - sep.size : Nat) : Int) = (k : Int) + 1 - sep.size := by omega
     rw [e3]
    ·have e2 : k + 1 - sep.size + sep.size = k + 1 := by omega
     have hocc := Go.Proofs.occ_no s sep (k + 1 - sep.size) (by omega) (by rw [e2]; exact Fx hb)
     refine ⟨⟨k + 1, by omega, by omega, Lib.NoOcc.succ hk3 hocc⟩, by dsimp only; omega, ?_⟩
     rw [hkk]
     simp -implicitDefEqProofs only [go_sem, hh, seval]
     try simp
    ·rw [hkk] at hb
     have hocc := Go.Proofs.occ_no_hash s sep (k + 1 - sep.size) (by omega) rfl rfl hb
     refine ⟨⟨k + 1, by omega, by omega, Lib.NoOcc.succ hk3 hocc⟩, by dsimp only; omega, ?_⟩
     rw [hkk]
     simp -implicitDefEqProofs only [go_sem, hh, seval]
     try simp
    ·rw [Lib.past s sep (k + 1 - sep.size) hk3 (by omega) (by omega)]
end
section
open Go.Lib
theorem ZH (s : ByteArray) (c : UInt8) : indexByte (bl s) c = -1 ∨ ∃ o : Nat, indexByte (bl s) c = o ∧ o < s.size := by
 have hge := indexByte_ge (bl s) c
 by_cases h : indexByte (bl s) c = -1
 ·exact .inl h
 ·obtain ⟨o, ho⟩ : ∃ o : Nat, indexByte (bl s) c = o := ⟨(indexByte (bl s) c).toNat, by omega⟩
  refine .inr ⟨o, ho, ?_⟩
  obtain ⟨h1, _⟩ := indexByte_some ho
  exact (List.getElem?_eq_some_iff.1 h1).1
theorem Gl (sub : ByteArray) (h : 0 < sub.size) : UInt8.ofNat (AC sub 0).toNat = ((sub[0].toNat : Int)).toNat.toUInt8 := by rw [CB sub 0 h]
theorem jR {s sub : ByteArray} {k j : Nat} (hk : k < s.size) (hj : j < sub.size) (h : ¬ AC s k = AC sub j) : ((((s[k].toNat : Nat) : Int)) != ((sub[j].toNat : Nat) : Int)) = true := by
 rw [CB s k hk, CB sub j hj] at h
 simpa using h
theorem M6 {s sub : ByteArray} {k : Nat} (h2 : 2 ≤ sub.size) (hls : sub.size ≤ s.size) (hk : k < s.size) (hno : NoOccB s sub k) (hne : ¬ AC s k = AC sub 0) (hib : indexByte (bl (s.extract (k + 1) (s.size - sub.size + 1))) (UInt8.ofNat (AC sub 0).toNat) = -1) : indexB s sub = -1 :=
 skip_none s sub k h2 hls hk hno (jR hk (by omega) hne) (by rw [Gl sub (by omega)] at hib; exact hib)
theorem M7 {s sub : ByteArray} {k o : Nat} (h2 : 2 ≤ sub.size) (hk : k < s.size) (hno : NoOccB s sub k) (hne : ¬ AC s k = AC sub 0) (hib : indexByte (bl (s.extract (k + 1) (s.size - sub.size + 1))) (UInt8.ofNat (AC sub 0).toNat) = o) : NoOccB s sub (k + (o + 1)) :=
 skip_some s sub k o h2 hk hno (jR hk (by omega) hne) (by rw [Gl sub (by omega)] at hib; exact hib)
theorem Lw {s sub : ByteArray} {i : Nat} (hno : NoOccB s sub i) (h2 : 2 ≤ sub.size) (hi : i + 1 < s.size) (hne : ¬ AC s (i + 1) = AC sub 1) : NoOccB s sub (i + 1) :=
 miss_second s sub i hno h2 hi (by rw [CB s _ hi, CB sub 1 (by omega)] at hne; exact hne)
theorem PH {s sub : ByteArray} {i : Nat} (hno : NoOccB s sub i) (hi : i + sub.size ≤ s.size) (h : ¬ s.extract i (i + sub.size) = sub) : NoOccB s sub (i + 1) := miss_piece s sub i hno hi (Fx h)
theorem KQ (s sub : ByteArray) (a : Nat) : -1 ≤ indexB (s.extract a s.size) sub ∧ indexB (s.extract a s.size) sub ≤ s.size := ⟨index_ge _ _, index_tail_le s sub a⟩
theorem RD {s sub : ByteArray} (h : sub.size = 1) : indexByte (bl s) (UInt8.ofNat (AC sub 0).toNat) = indexB s sub := by
 rw [one s sub h, Gl sub (by omega)]; rfl
theorem T7 {s sub : ByteArray} (h : sub.size = 0 ∨ sub = s) : indexB s sub = 0 := zero s sub (by
 rcases h with h | h
 ·exact .inl (by rw [h]; rfl)
 ·exact .inr (Ea h))
theorem jQ {s sub : ByteArray} {k : Nat} (hno : NoOccB s sub k) (hk : k ≤ s.size) : indexB s sub = if indexB (s.extract k s.size) sub < 0 then -1 else indexB (s.extract k s.size) sub + k := by
 split
 ·exact fb_neg s sub k hno hk (r := indexB (s.extract k s.size) sub) rfl (by assumption) (KQ s sub k).1
 ·exact fb_pos s sub k hno hk (r := indexB (s.extract k s.size) sub) rfl (by omega)
theorem wN {k : IntKind} {x y : Int} (h : x = y) : T.v (.int k x) = T.v (.int k y) := by rw [h]
theorem fP {s sub : ByteArray} (h1 : s.size ≤ sub.size) (h2 : ¬ sub = s) : indexB s sub = -1 := long s sub h1 (Fx h2)
end
def lr : Ct := Aq (lc Ap (lc Ap l0)) (fun p => p.2.1.size ≤ 2000000 ∧ p.1.size ≤ 2000000) (fun p => .t (.v (.int .i64 (Lib.indexB p.1 p.2.1))))
section
attribute [local go_sem] l6 l7 l8 l9 rJ eq_self decide_true Bool.not_true Bool.not_false
set_option maxHeartbeats 8000000 in
theorem eH {G : Gt} (hG : Ah G) (hh : G.e 191 = AA 0 l6 ∧ G.e 192 = AA 3 (l7 G.m) ∧ G.e 193 = AA 0 l8 ∧ G.e 194 = AA 0 l9) : Gd G 178 (AA 0 lr) := by
 refine gr (fn := Tryz.f178) (n := 2) rfl rfl hG ?_
 rintro ⟨s, sub, ⟨⟩⟩ hpre
 simp -implicitDefEqProofs only [Tryz.f178, go_sem, hh, Nat.reduceAdd, Nat.reduceMul, Nat.reduceLeDiff, Nat.reduceEqDiff, reduceCtorEq, Nat.reduceSub, Int.reduceNeg, Nat.reduceMod, Nat.reduceBEq, Nat.reduceLT] at hpre ⊢
 with_reducible repeat' (first | apply ai | intro _ | ((first | apply s1 | apply s3 | apply s4) <;> intro hb <;> simp -implicitDefEqProofs only [hb, go_sem, hh, Nat.reduceAdd, Nat.reduceMul, Nat.reduceLeDiff, Nat.reduceEqDiff, reduceCtorEq, Nat.reduceSub, Int.reduceNeg, Nat.reduceMod, Nat.reduceBEq, Nat.reduceLT] <;> try simp only [qz] at hb))
 all_goals (try simp only [maxLen, tn] at *)
 all_goals first | rfl | omega | skip
 ·rw [T7 (.inl (by omega))]
 ·rename_i hb; rw [T7 (.inr hb)]
 ·rw [← RD (s := s) (sub := sub) (by omega)]; rfl
 ·rw [fP (by omega) (by assumption)]
 all_goals
  have h2 : 2 ≤ sub.size := by omega
  have hls : sub.size < s.size := by omega
  refine AF [] (ι := {p : Nat × Nat // p.1 ≤ s.size - sub.size + 1 ∧ Lib.NoOccB s sub p.1 ∧ p.2 ≤ p.1}) (fun p => ⟨[(0, .t (.v (.string s))), (1, .t (.v (.string sub))), (5, .t (.v (.int .i64 sub.size))), (6, .t (.v (.int .u8 (AC sub 0)))), (7, .t (.v (.int .u8 (AC sub 1)))), (8, .t (.v (.int .i64 p.1.1))), (9, .t (.v (.int .i64 (s.size - sub.size + 1)))), (10, .t (.v (.int .i64 p.1.2)))], []⟩) (fun p => s.size - p.1.1) ⟨(0, 0), by dsimp only; omega, (fun j hj => absurd hj (Nat.not_lt_zero _)), by dsimp only; omega⟩ rfl ?_ ?_
  ·simp -implicitDefEqProofs only [go_sem, hh, Nat.reduceAdd, Nat.reduceMul, Nat.reduceLeDiff, Nat.reduceEqDiff, reduceCtorEq, Nat.reduceSub, Int.reduceNeg, Nat.reduceMod, Nat.reduceBEq, Nat.reduceLT]
   try simp
  ·rintro ⟨⟨i, f⟩, hi, hno, hf⟩
   dsimp only at hi hno hf
   have et : ((s.size : Int) - sub.size + 1).toNat = s.size - sub.size + 1 := by omega
   have ei : ((i : Int) + 1).toNat = i + 1 := by omega
   by_cases ht : (i : Int) < s.size - sub.size + 1
   ·by_cases e0 : AC s (i : Int).toNat = AC sub 0
    ·have e1 : ((i : Int) + sub.size).toNat = i + sub.size := by omega
     simp -implicitDefEqProofs only [ht, e0, go_sem, hh, Nat.reduceAdd, Nat.reduceMul, Nat.reduceLeDiff, Nat.reduceEqDiff, reduceCtorEq, Nat.reduceSub, Int.reduceNeg, Nat.reduceMod, Nat.reduceBEq, Nat.reduceLT]
     with_reducible repeat' (first | apply ai | intro _ | ((first | apply s1 | apply s3 | apply s4) <;> intro hb <;> simp -implicitDefEqProofs only [hb, go_sem, hh, Nat.reduceAdd, Nat.reduceMul, Nat.reduceLeDiff, Nat.reduceEqDiff, reduceCtorEq, Nat.reduceSub, Int.reduceNeg, Nat.reduceMod, Nat.reduceBEq, Nat.reduceLT] <;> try simp only [qz] at hb))
     all_goals (try simp only [maxLen, tn, Int.reduceToNat, ei, et, e1] at *)
     all_goals first | rfl | omega | skip
     all_goals first
      | (rw [Lib.hit s sub i hno (by omega) (Ea (by assumption))]; done)
      | (rw [ByteArray.size_extract]; omega)
      | (have hk2 : Lib.NoOccB s sub (i + 1) := by
           first
            | exact PH hno (by omega) (by assumption)
            | exact Lw hno h2 (by omega) (by assumption)
         have hbd := KQ s sub (i + 1)
         first
          | omega
          | (refine wN ?_
             rw [jQ hk2 (by omega)]
             first
              | (rw [if_pos (by omega)]; done)
              | (rw [if_neg (by omega)]; omega))
          | (refine ⟨⟨(i + 1, f + 1), by dsimp only; omega, hk2, by dsimp only; omega⟩, by dsimp only; omega, ?_⟩
             simp -implicitDefEqProofs only [go_sem, hh, Nat.reduceAdd, Nat.reduceMul, Nat.reduceLeDiff, Nat.reduceEqDiff, reduceCtorEq, Nat.reduceSub, Int.reduceNeg, Nat.reduceMod, Nat.reduceBEq, Nat.reduceLT]
             simp))
    ·have hz : True := trivial
     rcases ZH (s.extract ((i : Int) + 1).toNat ((s.size : Int) - sub.size + 1).toNat) (UInt8.ofNat (AC sub (Int.toNat 0)).toNat) with h | ⟨o, h, ho⟩
     ·have h' : Lib.indexByte (bl (s.extract ((i : Int) + 1).toNat ((s.size : Int) - sub.size + 1).toNat)) (UInt8.ofNat (AC sub 0).toNat) = -1 := h
      simp -implicitDefEqProofs only [ht, e0, h', go_sem, hh, Nat.reduceAdd, Nat.reduceMul, Nat.reduceLeDiff, Nat.reduceEqDiff, reduceCtorEq, Nat.reduceSub, Int.reduceNeg, Nat.reduceMod, Nat.reduceBEq, Nat.reduceLT]
      with_reducible repeat' (first | apply ai | intro _ | ((first | apply s1 | apply s3 | apply s4) <;> intro hb <;> simp -implicitDefEqProofs only [hb, go_sem, hh, Nat.reduceAdd, Nat.reduceMul, Nat.reduceLeDiff, Nat.reduceEqDiff, reduceCtorEq, Nat.reduceSub, Int.reduceNeg, Nat.reduceMod, Nat.reduceBEq, Nat.reduceLT] <;> try simp only [qz] at hb))
      all_goals (try simp only [maxLen] at *)
      all_goals first | rfl | omega | skip
      rw [ei, et] at h'
      rw [tn] at e0
      rw [M6 (k := i) h2 (by omega) (by omega) hno e0 h']
     ·have h' : Lib.indexByte (bl (s.extract ((i : Int) + 1).toNat ((s.size : Int) - sub.size + 1).toNat)) (UInt8.ofNat (AC sub 0).toNat) = o := h
      have ho' : i + (o + 1) < s.size - sub.size + 1 := by
       rw [ei, et, ByteArray.size_extract] at ho; omega
      have hno' : Lib.NoOccB s sub (i + (o + 1)) := by
       rw [ei, et] at h'
       rw [tn] at e0
       exact M7 (k := i) h2 (by omega) hno e0 h'
      have e4 : ((i : Int) + ((o : Int) + 1)) = ((i + (o + 1) : Nat) : Int) := by omega
      simp -implicitDefEqProofs only [ht, e0, h', e4, go_sem, hh, Nat.reduceAdd, Nat.reduceMul, Nat.reduceLeDiff, Nat.reduceEqDiff, reduceCtorEq, Nat.reduceSub, Int.reduceNeg, Nat.reduceMod, Nat.reduceBEq, Nat.reduceLT]
      have hik : i ≤ i + (o + 1) := by omega
      have hob : o ≤ 2000000 := by omega
      clear h h' ho e0
      generalize i + (o + 1) = k at *
      have ek : ((k : Int) + 1).toNat = k + 1 := by omega
      have e1 : ((k : Int) + sub.size).toNat = k + sub.size := by omega
      with_reducible repeat' (first | apply ai | intro _ | ((first | apply s1 | apply s3 | apply s4) <;> intro hb <;> simp -implicitDefEqProofs only [hb, go_sem, hh, Nat.reduceAdd, Nat.reduceMul, Nat.reduceLeDiff, Nat.reduceEqDiff, reduceCtorEq, Nat.reduceSub, Int.reduceNeg, Nat.reduceMod, Nat.reduceBEq, Nat.reduceLT] <;> try simp only [qz] at hb))
      all_goals (try simp only [maxLen, tn, Int.reduceToNat, ei, et, e1, ek, e4] at *)
      all_goals first | rfl | omega | skip
      all_goals first
       | (rw [Lib.hit s sub k hno' (by omega) (Ea (by assumption))]; done)
       | (rw [ByteArray.size_extract]; omega)
       | (have hk2 : Lib.NoOccB s sub (k + 1) := by
            first
             | exact PH hno' (by omega) (by assumption)
             | exact Lw hno' h2 (by omega) (by assumption)
          have hbd := KQ s sub (k + 1)
          first
           | omega
           | (refine wN ?_
              rw [jQ hk2 (by omega)]
              first
               | (rw [if_pos (by omega)]; done)
               | (rw [if_neg (by omega)]; omega))
           | (refine ⟨⟨(k + 1, f + 1), by dsimp only; omega, hk2, by dsimp only; omega⟩, by dsimp only; omega, ?_⟩
              simp -implicitDefEqProofs only [go_sem, hh, Nat.reduceAdd, Nat.reduceMul, Nat.reduceLeDiff, Nat.reduceEqDiff, reduceCtorEq, Nat.reduceSub, Int.reduceNeg, Nat.reduceMod, Nat.reduceBEq, Nat.reduceLT]
              simp))

   ·simp -implicitDefEqProofs only [ht, go_sem, hh, Nat.reduceAdd, Nat.reduceMul, Nat.reduceLeDiff, Nat.reduceEqDiff, reduceCtorEq, Nat.reduceSub, Int.reduceNeg, Nat.reduceMod, Nat.reduceBEq, Nat.reduceLT]
    rw [Lib.past s sub i hno (by omega) (by omega)]
end
section
open Go.Lib
def Fh (c : UInt8) : List UInt8 → List (List UInt8)
 | [] => [[]]
 | x :: r => if x = c then [] :: Fh c r else match Fh c r with | h :: t => (x :: h) :: t | [] => [[x]]
def IW (s : ByteArray) (c : UInt8) : List ByteArray := (Fh c (bl s)).map mB
theorem GA (c : UInt8) : ∀ l : List UInt8, (Fh c l).length = l.count c + 1
 | [] => rfl
 | x :: r => by
   have h := GA c r
   rw [Fh]
   by_cases e : x = c
   ·rw [if_pos e, e, List.count_cons_self]; simp [h]
   ·rw [if_neg e, List.count_cons_of_ne e]
    cases hs : Fh c r with
    | nil => rw [hs] at h; simp at h
    | cons a t => rw [hs] at h; simp at h ⊢; exact h
theorem Pw {c : UInt8} : ∀ {l : List UInt8}, (∀ j : Nat, l[j]? ≠ some c) → Fh c l = [l]
 | [], _ => rfl
 | x :: r, h => by
   rw [Fh, if_neg (fun e => h 0 (by rw [e]; rfl)), Pw (fun j => h (j + 1))]
theorem MG {c : UInt8} : ∀ (o : Nat) (l : List UInt8), l[o]? = some c → (∀ k : Nat, k < o → l[k]? ≠ some c) → Fh c l = l.take o :: Fh c (l.drop (o + 1))
 | 0, l, h, _ => by
   cases l with
   | nil => cases h
   | cons x r => simp at h; rw [Fh, if_pos h]; rfl
 | o + 1, l, h, hk => by
   cases l with
   | nil => cases h
   | cons x r =>
     rw [Fh, if_neg (fun e => hk 0 (by omega) (by rw [e]; rfl)), MG o r h (fun k q => hk (k + 1) (by omega))]
     rfl
theorem FC {c : UInt8} : ∀ (l : List UInt8) (m : Nat), (Ar c m l).length ≤ m ∨ (Fh c l).length ≤ m → Ar c m l = Fh c l
 | l, 0, h => by
   have := GA c l
   rw [Ar] at h
   rcases h with h | h
   ·exact absurd h (by simp)
   ·omega
 | [], m + 1, _ => by rw [Ar, Fh]
 | x :: r, m + 1, h => by
   rw [Ar, Fh] at h ⊢
   by_cases e : x = c
   ·rw [if_pos e, if_pos e] at h ⊢
    rw [FC r m (by simp at h; exact h)]
   ·rw [if_neg e, if_neg e] at h ⊢
    have h2 : (Ar c (m + 1) r).length ≤ m + 1 ∨ (Fh c r).length ≤ m + 1 := by
     rcases h with h | h
     ·cases hs : Ar c (m + 1) r with
      | nil => exact .inl (by simp)
      | cons a t => rw [hs] at h; exact .inl (by simpa using h)
     ·cases hs : Fh c r with
      | nil => exact .inr (by simp)
      | cons a t => rw [hs] at h; exact .inr (by simpa using h)
    rw [FC r (m + 1) h2]
    all_goals (cases Fh c r <;> rfl)
theorem JP (s : ByteArray) : Cc s ↔ (∀ w ∈ IW s 46, Sa w) ∧ (IW s 46).length ≤ 3 := by
 unfold Cc Cz IW
 constructor
 ·rintro ⟨h1, h2⟩
  rw [lm] at h2
  rw [FC _ _ (.inl h2)] at h1 h2
  exact ⟨h1, by rw [lm]; exact h2⟩
 ·rintro ⟨h1, h2⟩
  rw [lm] at h2
  rw [← FC _ _ (.inr h2)] at h1 h2
  exact ⟨h1, by rw [lm]; exact h2⟩
theorem FX : ∀ {l : List UInt8} {c : UInt8}, indexByte l c = -1 → ∀ j : Nat, l[j]? ≠ some c
 | [], c, _, j => by simp
 | b :: l, c, h, j => by
   have hge := indexByte_ge l c
   unfold indexByte at h
   by_cases e : b = c
   ·rw [if_pos (by simp [e])] at h; cases h
   ·rw [if_neg (by simp [e])] at h
    by_cases e2 : indexByte l c = -1
    ·cases j with
     | zero => simp [e]
     | succ j => exact FX e2 j
    ·rw [if_neg (by simp [e2])] at h; omega
theorem Py {s sep : ByteArray} (h1 : sep.size = 1) (h : indexB s sep = -1) : IW s (UInt8.ofNat (AC sep 0).toNat) = [s] := by
 rw [← RD h1] at h
 unfold IW
 rw [Pw (FX h)]
 rfl
theorem al {s sep : ByteArray} (h1 : sep.size = 1) {o : Nat} (h : indexB s sep = o) : o < s.size ∧ IW s (UInt8.ofNat (AC sep 0).toNat) = s.extract 0 o :: IW (s.extract (o + 1) s.size) (UInt8.ofNat (AC sep 0).toNat) := by
 rw [← RD h1] at h
 obtain ⟨ha, hb⟩ := indexByte_some h
 refine ⟨(List.getElem?_eq_some_iff.1 ha).1, ?_⟩
 unfold IW
 rw [MG o _ ha hb, List.map_cons, C4 s (o + 1) s.size, List.take_of_length_le (l := (bl s).drop (o + 1)) (by rw [List.length_drop, CA]; exact Nat.le_refl _)]
 rw [Gw s 0 o]; rfl
theorem Yx {α : Type} (enc : α → List T) (d x : α) (p : List α) (n : Nat) : ((p ++ List.replicate (n + 1) d).map enc).set p.length (enc x) = ((p ++ [x]) ++ List.replicate n d).map enc := by
 rw [← List.map_set, List.set_append_right _ _ (Nat.le_refl _), Nat.sub_self, List.replicate_succ, List.set_cons_zero, List.append_assoc]; rfl
theorem jD {t : ByteArray} {p : List ByteArray} {n : Nat} : ((p ++ List.replicate (n + 1) (⟨#[]⟩ : ByteArray)).map AH).set p.length [T.v (.string t)] = ((p ++ [t]) ++ List.replicate n (⟨#[]⟩ : ByteArray)).map AH := Yx AH _ t p n
theorem GB (s : ByteArray) (c : UInt8) : (IW s c).length = countByte (bl s) c + 1 := by
 unfold IW; rw [lm, GA]; rfl
theorem Xx (s : ByteArray) (c : UInt8) : countByte (bl s) c ≤ s.size := by
 have := List.count_le_length (a := c) (l := bl s)
 exact this
theorem MH {s sep : ByteArray} (h1 : sep.size = 1) : (indexB s sep = -1 ∧ countByte (bl s) (UInt8.ofNat (AC sep 0).toNat) = 0 ∧ IW s (UInt8.ofNat (AC sep 0).toNat) = [s]) ∨ ∃ o : Nat, indexB s sep = o ∧ o < s.size ∧ IW s (UInt8.ofNat (AC sep 0).toNat) = s.extract 0 o :: IW (s.extract (o + 1) s.size) (UInt8.ofNat (AC sep 0).toNat) ∧ countByte (bl s) (UInt8.ofNat (AC sep 0).toNat) = countByte (bl (s.extract (o + 1) s.size)) (UInt8.ofNat (AC sep 0).toNat) + 1 := by
 have hge := index_ge (bl s) (bl sep)
 by_cases h : indexB s sep = -1
 ·refine .inl ⟨h, ?_, Py h1 h⟩
  have := GB s (UInt8.ofNat (AC sep 0).toNat)
  rw [Py h1 h] at this
  simp at this; exact this
 ·have hge' : -1 ≤ indexB s sep := hge
  obtain ⟨o, ho⟩ : ∃ o : Nat, indexB s sep = o := ⟨(indexB s sep).toNat, by omega⟩
  obtain ⟨a, b⟩ := al h1 ho
  refine .inr ⟨o, ho, a, b, ?_⟩
  have q1 := GB s (UInt8.ofNat (AC sep 0).toNat)
  have q2 := GB (s.extract (o + 1) s.size) (UInt8.ofNat (AC sep 0).toNat)
  rw [b, List.length_cons, q2] at q1
  omega
end
def lX : Ct := Aq (lc Ap (lc Ap l0)) (fun p => p.2.1.size ≤ 2000000 ∧ p.1.size ≤ 2000000) (fun p => .t (.v (.int .i64 (Lib.indexB p.1 p.2.1))))
section
attribute [local go_sem] lr
theorem dw {G : Gt} (hG : Ah G) (hh : G.e 178 = AA 0 lr) : Gd G 154 (AA 0 lX) := by
 refine gr (fn := Tryz.f154) (n := 2) rfl rfl hG ?_
 rintro ⟨s, sub, ⟨⟩⟩ hpre
 simp -implicitDefEqProofs only [Tryz.f154, go_sem, hh, seval] at hpre ⊢
 with_reducible repeat' (first | apply ai | intro _ | ((first | apply s1 | apply s3 | apply s4) <;> intro hb <;> simp -implicitDefEqProofs only [hb, go_sem, hh, seval] <;> try simp only [qz] at hb))
 all_goals first | rfl | omega | skip
end
def lW : Ct := Aq (lc Ap (lc Ap l0)) (fun p => p.2.1.size = 1 ∧ p.1.size ≤ 2000000) (fun p => .t (.v (.int .i64 (Lib.countByte (bl p.1) (UInt8.ofNat (AC p.2.1 0).toNat)))))
section
attribute [local go_sem] lq
theorem dv {G : Gt} (hG : Ah G) (hh : G.e 177 = AA 3 lq) : Gd G 153 (AA 0 lW) := by
 refine gr (fn := Tryz.f153) (n := 2) rfl rfl hG ?_
 rintro ⟨s, sub, ⟨⟩⟩ hpre
 simp -implicitDefEqProofs only [Tryz.f153, go_sem, hh, seval] at hpre ⊢
 have h1 : (sub.size : Int) = 1 := by omega
 simp -implicitDefEqProofs only [h1, go_sem, hh, seval]
 with_reducible repeat' (first | apply ai | intro _ | ((first | apply s1 | apply s3 | apply s4) <;> intro hb <;> simp -implicitDefEqProofs only [hb, go_sem, hh, seval] <;> try simp only [qz] at hb))
 all_goals first | rfl | omega | skip
end
def lh : Ct := Aq (lc Ap (lc Ap l0)) (fun p => p.2.1.size ≤ 2000000 ∧ p.1.size ≤ 2000000) (fun p => .t (.v (.bool (BL (p.2.1.size ≤ p.1.size ∧ p.1.extract (p.1.size - p.2.1.size) p.1.size = p.2.1)))))
theorem d4 {G : Gt} (hG : Ah G) : Gd G 162 (AA 0 lh) := by
 refine gr (fn := Tryz.f162) (n := 2) rfl rfl hG ?_
 rintro ⟨s, e, ⟨⟩⟩ hpre
 simp -implicitDefEqProofs only [Tryz.f162, go_sem, seval] at hpre ⊢
 with_reducible repeat' (first | apply ai | intro _ | ((first | apply s1 | apply s3 | apply s4) <;> intro hb <;> simp -implicitDefEqProofs only [hb, go_sem, seval] <;> try simp only [qz] at hb))
 all_goals (try simp only [maxLen] at *)
 all_goals first | rfl | omega | skip
 ·have e1 : (s.size : Int).toNat = s.size := tn _
  have e2 : ((s.size : Int) - e.size).toNat = s.size - e.size := by omega
  rw [e1, e2, ← BF]
  exact congrArg (fun b => T.v (.bool b)) (AW ⟨fun h => ⟨by omega, h⟩, fun h => h.2⟩)
 ·rw [AO (fun h => by omega)]
def lN : Ct := Aq (lc Ap (lc Ap l0)) (fun p => p.2.1.size ≤ 2000000 ∧ p.1.size ≤ 2000000) (fun p => .t (.v (.bool (BL (p.2.1.size ≤ p.1.size ∧ p.1.extract (p.1.size - p.2.1.size) p.1.size = p.2.1)))))
section
attribute [local go_sem] lh
theorem da {G : Gt} (hG : Ah G) (hh : G.e 162 = AA 0 lh) : Gd G 134 (AA 0 lN) := by
 refine gr (fn := Tryz.f134) (n := 2) rfl rfl hG ?_
 rintro ⟨s, e, ⟨⟩⟩ hpre
 simp -implicitDefEqProofs only [Tryz.f134, go_sem, hh, seval] at hpre ⊢
 with_reducible repeat' (first | apply ai | intro _ | ((first | apply s1 | apply s3 | apply s4) <;> intro hb <;> simp -implicitDefEqProofs only [hb, go_sem, hh, seval] <;> try simp only [qz] at hb))
 all_goals (try simp only [maxLen] at *)
 all_goals first | rfl | omega | skip
end
def lK : Ct := Aq (lc Ap (lc Ap (lc BI (lc BI l0)))) (fun p => p.2.1.size = 1 ∧ p.2.2.1 = 0 ∧ p.2.2.2.1 = -1 ∧ p.1.size ≤ 2000000) (fun p => .o true 1 ((IW p.1 (UInt8.ofNat (AC p.2.1 0).toNat)).map AH))
section
attribute [local go_sem] lW lX BZ AY List.map_replicate
set_option maxHeartbeats 1600000 in
theorem dX {G : Gt} (hG : Ah G) (hh : G.e 153 = AA 0 lW ∧ G.e 154 = AA 0 lX) : Gd G 131 (AA 0 lK) := by
 refine gr (fn := Tryz.f131) (n := 4) rfl rfl hG ?_ (hs := fun _ _ => .deep _ _)
 rintro ⟨s, sep, sv, n, ⟨⟩⟩ hpre
 obtain ⟨h1, h2, h3, h4⟩ := hpre
 dsimp only at h1 h2 h3 h4
 subst h2 h3
 have hse : ¬ sep = ⟨#[]⟩ := by intro e; rw [e] at h1; cases h1
 have hc := Xx s (UInt8.ofNat (AC sep 0).toNat)
 have hl := GB s (UInt8.ofNat (AC sep 0).toNat)
 have hmin : ¬ ((s.size : Int) + 1 < (Lib.countByte (bl s) (UInt8.ofNat (AC sep 0).toNat) : Int) + 1) := by omega
 simp -implicitDefEqProofs only [Tryz.f131, hse, if_neg hmin, go_sem, hh, seval]
 with_reducible repeat' (first | apply ai | intro _ | ((first | apply s1 | apply s3 | apply s4) <;> intro hb <;> simp -implicitDefEqProofs only [hb, go_sem, hh, seval] <;> try simp only [qz] at hb))
 all_goals (try simp only [maxLen, tn] at *)
 all_goals first | rfl | omega | skip
 refine AF [] (ι := {z : List ByteArray × ByteArray // IW s (UInt8.ofNat (AC sep 0).toNat) = z.1 ++ IW z.2 (UInt8.ofNat (AC sep 0).toNat) ∧ z.2.size ≤ s.size}) (fun z => ⟨[(0, .t (.v (.string z.1.2))), (1, .t (.v (.string sep))), (2, .t (.v (.int .i64 0))), (3, .t (.v (.int .i64 (Lib.countByte (bl s) (UInt8.ofNat (AC sep 0).toNat))))), (9, .h 1031), (10, .t (.v (.int .i64 z.1.1.length)))], [(1031, some (.arr true 1 ((z.1.1 ++ List.replicate (Lib.countByte (bl s) (UInt8.ofNat (AC sep 0).toNat) + 1 - z.1.1.length) (⟨#[]⟩ : ByteArray)).map AH)))]⟩) (fun z => s.size + 1 - z.1.1.length) ⟨([], s), rfl, Nat.le_refl _⟩ rfl ?_ ?_
 ·simp -implicitDefEqProofs only [go_sem, hh, seval]
  try simp
  constructor <;> split <;> omega
 ·rintro ⟨⟨p, t⟩, hz, ht⟩
  dsimp only at hz ht
  have hcl : (IW s (UInt8.ofNat (AC sep 0).toNat)).length = p.length + (IW t (UInt8.ofNat (AC sep 0).toNat)).length := by rw [hz, List.length_append]
  rw [hl, GB] at hcl
  by_cases hlt : (p.length : Int) < Lib.countByte (bl s) (UInt8.ofNat (AC sep 0).toNat)
  ·rcases MH (s := t) h1 with ⟨_, q, _⟩ | ⟨o, q1, q2, q3, q4⟩
   ·omega
   ·have q0 : ¬ (o : Int) < 0 := by omega
    simp -implicitDefEqProofs only [hlt, q1, q0, go_sem, hh, seval]
    obtain ⟨n, hn⟩ : ∃ n, Lib.countByte (bl s) (UInt8.ofNat (AC sep 0).toNat) + 1 - p.length = n + 1 := ⟨Lib.countByte (bl s) (UInt8.ofNat (AC sep 0).toNat) - p.length, by omega⟩
    have hn2 : n = Lib.countByte (bl s) (UInt8.ofNat (AC sep 0).toNat) - p.length := by omega
    have hs1 : ((o : Int) + sep.size).toNat = o + 1 := by omega
    with_reducible repeat' (first | apply ai | intro _ | ((first | apply s1 | apply s3 | apply s4) <;> intro hb <;> simp -implicitDefEqProofs only [hb, go_sem, hh, seval] <;> try simp only [qz] at hb))
    all_goals (try simp only [maxLen, tn, Int.add_zero, hn, jD, lm, List.length_append, List.length_replicate, hs1] at *)
    all_goals first | rfl | omega | skip
    refine ⟨⟨(p ++ [t.extract 0 o], t.extract (o + 1) t.size), ?_, ?_⟩, ?_, ?_⟩
    ·dsimp only; rw [hz, q3, List.append_assoc]; rfl
    ·dsimp only; rw [ByteArray.size_extract]; omega
    ·dsimp only; rw [List.length_append]; simp; omega
    ·have e2 : Lib.countByte (bl s) (UInt8.ofNat (AC sep 0).toNat) + 1 - (p ++ [t.extract 0 o]).length = n := by rw [List.length_append, hn2]; simp
     simp -implicitDefEqProofs only [e2, go_sem, hh, seval]
     try simp
  ·simp -implicitDefEqProofs only [hlt, go_sem, hh, seval]
   rcases MH (s := t) h1 with ⟨_, _, q⟩ | ⟨o, q1, q2, q3, q4⟩
   ·have hn : Lib.countByte (bl s) (UInt8.ofNat (AC sep 0).toNat) + 1 - p.length = 0 + 1 := by omega
    rw [q] at hz
    with_reducible repeat' (first | apply ai | intro _ | ((first | apply s1 | apply s3 | apply s4) <;> intro hb <;> simp -implicitDefEqProofs only [hb, go_sem, hh, seval] <;> try simp only [qz] at hb))
    all_goals (try simp only [maxLen, tn, Int.add_zero, hn, jD, lm, List.length_append, List.length_replicate] at *)
    all_goals first | rfl | omega | (simp; done) | skip
    ·rw [hz, List.replicate_zero, List.append_nil, List.take_of_length_le]
     try simp
   ·omega
end
def bx (l : List Bool) : List AV := l.map fun b => .t (.v (.bool b))
def Qb (l : List Bool) : List T := l.map fun b => .v (.bool b)
def lA : List T → Option (List Bool)
 | [] => some []
 | .v (.bool b) :: r => (lA r).map (b :: ·)
 | _ => none
theorem Qa : ∀ l, lA (Qb l) = some l
 | [] => rfl
 | b :: l => by show (lA (Qb l)).map (b :: ·) = _; rw [Qa l]; rfl
theorem Xf : ∀ {c l}, lA c = some l → Qb l = c
 | [], _, h => by cases h; rfl
 | x :: c, l, h => by
   unfold lA at h
   split at h
   ·rename_i e; cases e
   ·rename_i e
    cases e
    cases hq : lA c with
    | none => rw [hq] at h; cases h
    | some l' => rw [hq] at h; cases h; rw [← Xf hq]; rfl
   ·cases h
def wL : AV → Option (List Bool)
 | .t (.rop c) => lA c
 | _ => none
def rP : AD (List Bool) where
 enc l := .t (.rop (Qb l))
 dec := wL
 ed := fun l => Qa l
 de := fun x l h => by
  unfold wL at h
  split at h
  ·rw [← Xf h]
  ·cases h
theorem JF {l : List Bool} : rP.dec (.t (.rop (Qb l))) = some l := Qa l
theorem JG {l : List Bool} : rP.enc l = .t (.rop (Qb l)) := rfl
theorem J3 {l : List Bool} : (bx l).length = l.length := by simp [bx]
theorem TT {l : List Bool} : (Qb l).length = l.length := by simp [Qb]
def gY : List Value := List.replicate 256 (.bool false)
def Xa : List Bool := List.replicate 256 false
theorem bD : AJ Tryz.prog 179 = some ⟨.arr 256 4, 256, 256, gY⟩ := t7
theorem TZ : gY.map DR = bx Xa := by simp [bx, gY, Xa]; rfl
theorem TU : gY.all CR = true := by decide
theorem OP : Xa.length = 256 := rfl
theorem OS : List.drop 256 (bx Xa) = [] := rfl
theorem lB {l : List Bool} {k : Nat} {b : Bool} (h : k < l.length) : (bx l).take k ++ AV.t (.v (.bool b)) :: (bx l).drop (k + 1) = bx (l.set k b) := by
 unfold bx
 rw [List.set_eq_take_append_cons_drop, if_pos h]
 try simp
theorem cF {l : List Bool} {n : Nat} (h : l.length = n) : (bx l).take n = bx l := List.take_of_length_le (by rw [J3]; omega)
theorem TY {s : AS} {n : Nat} : ∀ {l : List Bool}, A8 (s.snapT (n + 1)) (bx l) = some (Qb l)
 | [] => rfl
 | b :: l => by
   have h := TY (s := s) (n := n) (l := l)
   unfold bx Qb at h ⊢
   simp only [List.map_cons, A8, h, AS.snapT]
theorem cE {l : List Bool} {k : Nat} (h : k < l.length) : (Qb l).drop k = T.v (.bool (l.getD k false)) :: (Qb l).drop (k + 1) := by
 rw [List.drop_eq_getElem_cons (by rw [TT]; exact h)]
 congr 1
 simp [Qb, h]
theorem TW {s : AS} : ∀ {l : List Bool}, DU s (bx l) (bx l)
 | [] => trivial
 | b :: l => ⟨by simp only [DN, Ke], TW⟩
theorem TV {s : AS} : ∀ {l : List Bool}, Bq s (bx l) (bx l) = []
 | [] => rfl
 | b :: l => by show Cw s (.t (.v (.bool b))) (.t (.v (.bool b))) ++ Bq s (bx l) (bx l) = []; rw [TV]; rfl
theorem TX {s : AS} : ∀ {l : List Bool}, CK s (bx l) (bx l) = []
 | [] => rfl
 | b :: l => by show C0 s (.t (.v (.bool b))) (.t (.v (.bool b))) ++ CK s (bx l) (bx l) = []; rw [TX]; rfl
theorem Lj {d k : Nat} {s : AS} : ∀ {l : List Bool}, AR d k (bx l) s = ⟨bx l, s, k⟩
 | [] => rfl
 | b :: l => by
   show wG.mk (AV.t (.v (.bool b)) :: (AR d k (bx l) s).avs) (AR d k (bx l) s).s (AR d k (bx l) s).k = _
   rw [Lj]; rfl
theorem Xg {k : Nat} : ∀ {l : List Bool}, AV.hasL k (bx l) = false
 | [] => rfl
 | b :: l => by show (false || AV.hasL k (bx l)) = false; rw [Xg]; rfl
theorem OT {k : Nat} : ∀ {l : List Bool}, (bx l).map (AV.drop k) = bx l
 | [] => rfl
 | b :: l => by show AV.t (.v (.bool b)) :: (bx l).map (AV.drop k) = _; rw [OT]; rfl
def GO (cs : ByteArray) : Nat → List Bool
 | 0 => Xa
 | n + 1 => (GO cs n).set (AC cs n).toNat true
theorem Ks (cs : ByteArray) : ∀ n, (GO cs n).length = 256
 | 0 => rfl
 | n + 1 => by rw [GO, List.length_set]; exact Ks cs n
def Jg (l : List Bool) (s : ByteArray) : ByteArray :=
 if h : s.size = 0 then s else bif l.getD (AC s (s.size - 1)).toNat false then Jg l (s.extract 0 (s.size - 1)) else s
termination_by s.size
decreasing_by rw [ByteArray.size_extract]; omega
def Nk (l : List Bool) (s : ByteArray) : ByteArray :=
 if h : s.size = 0 then s else bif l.getD (AC s 0).toNat false then Nk l (s.extract 1 s.size) else s
termination_by s.size
decreasing_by rw [ByteArray.size_extract]; omega
theorem VH {l : List Bool} : Jg l ⟨#[]⟩ = ⟨#[]⟩ := by rw [Jg]; exact dif_pos rfl
theorem VE {l : List Bool} : Nk l ⟨#[]⟩ = ⟨#[]⟩ := by rw [Nk]; exact dif_pos rfl
theorem a8 (l : List Bool) (s : ByteArray) : (Jg l s).size ≤ s.size := by
 rw [Jg]
 split
 ·exact Nat.le_refl _
 ·cases l.getD (AC s (s.size - 1)).toNat false
  ·exact Nat.le_refl _
  ·have := a8 l (s.extract 0 (s.size - 1))
   rw [ByteArray.size_extract] at this
   show (Jg l (s.extract 0 (s.size - 1))).size ≤ _
   omega
termination_by s.size
decreasing_by rw [ByteArray.size_extract]; omega
def Xp : Ct := Aq (lc rP (lc kY l0)) (fun p => p.1.length = 256 ∧ 0 ≤ p.2.1 ∧ p.2.1 < 256) (fun p => .t (.v (.bool (p.1.getD p.2.1.toNat false))))
section
attribute [local go_sem] bD JF JG TT
theorem eI {G : Gt} (hG : Ah G) : Gd G 179 (AA 0 Xp) := by
 refine gr (fn := Tryz.f179) (n := 2) rfl rfl hG ?_
 rintro ⟨l, c, ⟨⟩⟩ hpre
 simp -implicitDefEqProofs only [Tryz.f179, go_sem, Nat.reduceAdd, Nat.reduceMul, Nat.reduceLeDiff, Nat.reduceEqDiff, reduceCtorEq, Nat.reduceSub, Int.reduceNeg, Nat.reduceMod, Nat.reduceBEq, Nat.reduceLT] at hpre ⊢
 have hk : c.toNat < l.length := by omega
 simp -implicitDefEqProofs only [cE hk, Nat.mul_one, hpre.1, go_sem, Nat.reduceAdd, Nat.reduceMul, Nat.reduceLeDiff, Nat.reduceEqDiff, reduceCtorEq, Nat.reduceSub, Int.reduceNeg, Nat.reduceMod, Nat.reduceBEq, Nat.reduceLT]
 with_reducible repeat' (first | apply ai | intro _ | ((first | apply s1 | apply s3 | apply s4) <;> intro hb <;> simp -implicitDefEqProofs only [hb, go_sem, Nat.reduceAdd, Nat.reduceMul, Nat.reduceLeDiff, Nat.reduceEqDiff, reduceCtorEq, Nat.reduceSub, Int.reduceNeg, Nat.reduceMod, Nat.reduceBEq, Nat.reduceLT] <;> try simp only [qz] at hb))
 all_goals first | rfl | omega | skip
 all_goals trace_state
end
def ld : Ct := Aq (lc Ap (lc rP l0)) (fun p => p.2.1.length = 256 ∧ p.1.size ≤ 2000000) (fun p => .t (.v (.string (Jg p.2.1 p.1))))
section
attribute [local go_sem] Xp JF JG Bool.not_true Bool.not_false
theorem dz {G : Gt} (hG : Ah G) (hh : G.e 179 = AA 0 Xp) : Gd G 159 (AA 0 ld) := by
 refine gr (fn := Tryz.f159) (n := 2) rfl rfl hG ?_
 rintro ⟨s, l, ⟨⟩⟩ hpre
 simp -implicitDefEqProofs only [Tryz.f159, go_sem, hh, Nat.reduceAdd, Nat.reduceMul, Nat.reduceLeDiff, Nat.reduceEqDiff, reduceCtorEq, Nat.reduceSub, Int.reduceNeg, Nat.reduceMod, Nat.reduceBEq, Nat.reduceLT] at hpre ⊢
 refine AF [] (ι := {t : ByteArray // Jg l t = Jg l s ∧ t.size ≤ s.size}) (fun p => ⟨[(0, .t (.v (.string p.1))), (1, .t (.rop (Qb l)))], []⟩) (fun p => p.1.size) ⟨s, rfl, Nat.le_refl _⟩ rfl ?_ ?_
 ·simp -implicitDefEqProofs only [go_sem, hh, Nat.reduceAdd, Nat.reduceMul, Nat.reduceLeDiff, Nat.reduceEqDiff, reduceCtorEq, Nat.reduceSub, Int.reduceNeg, Nat.reduceMod, Nat.reduceBEq, Nat.reduceLT]
  try simp
 ·rintro ⟨t, ht, hts⟩
  by_cases h0 : t.size = 0
  ·have h1 : (t.size : Int) = 0 := by omega
   simp -implicitDefEqProofs only [h1, go_sem, hh, Nat.reduceAdd, Nat.reduceMul, Nat.reduceLeDiff, Nat.reduceEqDiff, reduceCtorEq, Nat.reduceSub, Int.reduceNeg, Nat.reduceMod, Nat.reduceBEq, Nat.reduceLT]
   with_reducible repeat' (first | apply ai | intro _ | ((first | apply s1 | apply s3 | apply s4) <;> intro hb <;> simp -implicitDefEqProofs only [hb, go_sem, hh, Nat.reduceAdd, Nat.reduceMul, Nat.reduceLeDiff, Nat.reduceEqDiff, reduceCtorEq, Nat.reduceSub, Int.reduceNeg, Nat.reduceMod, Nat.reduceBEq, Nat.reduceLT] <;> try simp only [qz] at hb))
   all_goals first | rfl | omega | skip
   rw [← ht, Jg, dif_pos h0]
  ·have h1 : (t.size : Int) > 0 := by omega
   have hbr := A6 t (t.size - 1)
   have hr : Jg l t = bif l.getD (AC t (t.size - 1)).toNat false then Jg l (t.extract 0 (t.size - 1)) else t := by
    rw [Jg, dif_neg h0]
   have e1 : ((t.size : Int) - 1).toNat = (t.size - 1) := by omega
   cases hb : l.getD (AC t (((t.size : Int) - 1).toNat)).toNat false
   ·simp -implicitDefEqProofs only [h1, hb, go_sem, hh, Nat.reduceAdd, Nat.reduceMul, Nat.reduceLeDiff, Nat.reduceEqDiff, reduceCtorEq, Nat.reduceSub, Int.reduceNeg, Nat.reduceMod, Nat.reduceBEq, Nat.reduceLT]
    with_reducible repeat' (first | apply ai | intro _ | ((first | apply s1 | apply s3 | apply s4) <;> intro hb <;> simp -implicitDefEqProofs only [hb, go_sem, hh, Nat.reduceAdd, Nat.reduceMul, Nat.reduceLeDiff, Nat.reduceEqDiff, reduceCtorEq, Nat.reduceSub, Int.reduceNeg, Nat.reduceMod, Nat.reduceBEq, Nat.reduceLT] <;> try simp only [qz] at hb))
    all_goals first | rfl | omega | skip
    all_goals rw [e1] at *
    all_goals first | omega | (rw [← ht, hr, hb]; rfl)
   ·simp -implicitDefEqProofs only [h1, hb, go_sem, hh, Nat.reduceAdd, Nat.reduceMul, Nat.reduceLeDiff, Nat.reduceEqDiff, reduceCtorEq, Nat.reduceSub, Int.reduceNeg, Nat.reduceMod, Nat.reduceBEq, Nat.reduceLT]
    with_reducible repeat' (first | apply ai | intro _ | ((first | apply s1 | apply s3 | apply s4) <;> intro hb <;> simp -implicitDefEqProofs only [hb, go_sem, hh, Nat.reduceAdd, Nat.reduceMul, Nat.reduceLeDiff, Nat.reduceEqDiff, reduceCtorEq, Nat.reduceSub, Int.reduceNeg, Nat.reduceMod, Nat.reduceBEq, Nat.reduceLT] <;> try simp only [qz] at hb))
    all_goals first | rfl | omega | skip
    all_goals rw [e1] at *
    all_goals first | omega | skip
    refine ⟨⟨t.extract 0 (t.size - 1), ?_, ?_⟩, ?_, ?_⟩
    ·rw [← ht, hr, hb]; rfl
    ·rw [ByteArray.size_extract]; omega
    ·show (t.extract 0 (t.size - 1)).size < t.size
     rw [ByteArray.size_extract]; omega
    ·simp -implicitDefEqProofs only [go_sem, hh, Nat.reduceAdd, Nat.reduceMul, Nat.reduceLeDiff, Nat.reduceEqDiff, reduceCtorEq, Nat.reduceSub, Int.reduceNeg, Nat.reduceMod, Nat.reduceBEq, Nat.reduceLT]
     try simp [e1]
end
def lZ : Ct := Aq (lc Ap (lc rP l0)) (fun p => p.2.1.length = 256 ∧ p.1.size ≤ 2000000) (fun p => .t (.v (.string (Nk p.2.1 p.1))))
section
attribute [local go_sem] Xp JF JG Bool.not_true Bool.not_false
theorem dy {G : Gt} (hG : Ah G) (hh : G.e 179 = AA 0 Xp) : Gd G 158 (AA 0 lZ) := by
 refine gr (fn := Tryz.f158) (n := 2) rfl rfl hG ?_
 rintro ⟨s, l, ⟨⟩⟩ hpre
 simp -implicitDefEqProofs only [Tryz.f158, go_sem, hh, Nat.reduceAdd, Nat.reduceMul, Nat.reduceLeDiff, Nat.reduceEqDiff, reduceCtorEq, Nat.reduceSub, Int.reduceNeg, Nat.reduceMod, Nat.reduceBEq, Nat.reduceLT] at hpre ⊢
 refine AF [] (ι := {t : ByteArray // Nk l t = Nk l s ∧ t.size ≤ s.size}) (fun p => ⟨[(0, .t (.v (.string p.1))), (1, .t (.rop (Qb l)))], []⟩) (fun p => p.1.size) ⟨s, rfl, Nat.le_refl _⟩ rfl ?_ ?_
 ·simp -implicitDefEqProofs only [go_sem, hh, Nat.reduceAdd, Nat.reduceMul, Nat.reduceLeDiff, Nat.reduceEqDiff, reduceCtorEq, Nat.reduceSub, Int.reduceNeg, Nat.reduceMod, Nat.reduceBEq, Nat.reduceLT]
  try simp
 ·rintro ⟨t, ht, hts⟩
  by_cases h0 : t.size = 0
  ·have h1 : (t.size : Int) = 0 := by omega
   simp -implicitDefEqProofs only [h1, go_sem, hh, Nat.reduceAdd, Nat.reduceMul, Nat.reduceLeDiff, Nat.reduceEqDiff, reduceCtorEq, Nat.reduceSub, Int.reduceNeg, Nat.reduceMod, Nat.reduceBEq, Nat.reduceLT]
   with_reducible repeat' (first | apply ai | intro _ | ((first | apply s1 | apply s3 | apply s4) <;> intro hb <;> simp -implicitDefEqProofs only [hb, go_sem, hh, Nat.reduceAdd, Nat.reduceMul, Nat.reduceLeDiff, Nat.reduceEqDiff, reduceCtorEq, Nat.reduceSub, Int.reduceNeg, Nat.reduceMod, Nat.reduceBEq, Nat.reduceLT] <;> try simp only [qz] at hb))
   all_goals first | rfl | omega | skip
   rw [← ht, Nk, dif_pos h0]
  ·have h1 : (t.size : Int) > 0 := by omega
   have hbr := A6 t 0
   have hr : Nk l t = bif l.getD (AC t 0).toNat false then Nk l (t.extract 1 t.size) else t := by
    rw [Nk, dif_neg h0]
   have e1 : Int.toNat 0 = 0 := by omega
   cases hb : l.getD (AC t (Int.toNat 0)).toNat false
   ·simp -implicitDefEqProofs only [h1, hb, go_sem, hh, Nat.reduceAdd, Nat.reduceMul, Nat.reduceLeDiff, Nat.reduceEqDiff, reduceCtorEq, Nat.reduceSub, Int.reduceNeg, Nat.reduceMod, Nat.reduceBEq, Nat.reduceLT]
    with_reducible repeat' (first | apply ai | intro _ | ((first | apply s1 | apply s3 | apply s4) <;> intro hb <;> simp -implicitDefEqProofs only [hb, go_sem, hh, Nat.reduceAdd, Nat.reduceMul, Nat.reduceLeDiff, Nat.reduceEqDiff, reduceCtorEq, Nat.reduceSub, Int.reduceNeg, Nat.reduceMod, Nat.reduceBEq, Nat.reduceLT] <;> try simp only [qz] at hb))
    all_goals first | rfl | omega | skip
    all_goals rw [e1] at *
    all_goals first | omega | (rw [← ht, hr, hb]; rfl)
   ·simp -implicitDefEqProofs only [h1, hb, go_sem, hh, Nat.reduceAdd, Nat.reduceMul, Nat.reduceLeDiff, Nat.reduceEqDiff, reduceCtorEq, Nat.reduceSub, Int.reduceNeg, Nat.reduceMod, Nat.reduceBEq, Nat.reduceLT]
    with_reducible repeat' (first | apply ai | intro _ | ((first | apply s1 | apply s3 | apply s4) <;> intro hb <;> simp -implicitDefEqProofs only [hb, go_sem, hh, Nat.reduceAdd, Nat.reduceMul, Nat.reduceLeDiff, Nat.reduceEqDiff, reduceCtorEq, Nat.reduceSub, Int.reduceNeg, Nat.reduceMod, Nat.reduceBEq, Nat.reduceLT] <;> try simp only [qz] at hb))
    all_goals first | rfl | omega | skip
    all_goals rw [e1] at *
    all_goals first | omega | skip
    refine ⟨⟨t.extract 1 t.size, ?_, ?_⟩, ?_, ?_⟩
    ·rw [← ht, hr, hb]; rfl
    ·rw [ByteArray.size_extract]; omega
    ·show (t.extract 1 t.size).size < t.size
     rw [ByteArray.size_extract]; omega
    ·simp -implicitDefEqProofs only [go_sem, hh, Nat.reduceAdd, Nat.reduceMul, Nat.reduceLeDiff, Nat.reduceEqDiff, reduceCtorEq, Nat.reduceSub, Int.reduceNeg, Nat.reduceMod, Nat.reduceBEq, Nat.reduceLT]
     try simp [e1]
end
def lY : Ct := Aq (lc Ap l0) (fun p => p.1.size ≤ 1000 ∧ ∀ j, j < p.1.size → AC p.1 j < 128) (fun p => .tup [.agg (bx (GO p.1 p.1.size)), .t (.v (.bool true))])
section
attribute [local go_sem] bD TZ TU
theorem dx {G : Gt} (hG : Ah G) : Gd G 157 (AA 0 lY) := by
 refine gr (fn := Tryz.f157) (n := 1) rfl rfl hG ?_ (hs := fun _ _ => .tup _ (by intro c hc; simp only [List.mem_cons, List.not_mem_nil, or_false] at hc; rcases hc with rfl | rfl <;> first | exact .v _ | exact .agg _ (by intro c hc; simp only [bx, List.mem_map] at hc; obtain ⟨b, _, rfl⟩ := hc; exact .v _)))
 rintro ⟨cs, ⟨⟩⟩ hpre
 simp -implicitDefEqProofs only [Tryz.f157, go_sem, Nat.reduceAdd, Nat.reduceMul, Nat.reduceLeDiff, Nat.reduceEqDiff, reduceCtorEq, Nat.reduceSub, Int.reduceNeg, Nat.reduceMod, Nat.reduceBEq, Nat.reduceLT] at hpre ⊢
 with_reducible repeat' (first | apply ai | intro _ | ((first | apply s1 | apply s3 | apply s4) <;> intro hb <;> simp -implicitDefEqProofs only [hb, go_sem, Nat.reduceAdd, Nat.reduceMul, Nat.reduceLeDiff, Nat.reduceEqDiff, reduceCtorEq, Nat.reduceSub, Int.reduceNeg, Nat.reduceMod, Nat.reduceBEq, Nat.reduceLT] <;> try simp only [qz] at hb))
 all_goals first | rfl | omega | skip
 refine AF [] (ι := {i : Nat // i ≤ cs.size}) (fun p => ⟨[(0, .t (.v (.string cs))), (2, .pb 1002 0), (4, .t (.v (.int .i64 p.1)))], [(1002, some (.box (bx (GO cs p.1))))]⟩) (fun p => cs.size - p.1) ⟨0, Nat.zero_le _⟩ rfl ?_ ?_
 ·simp -implicitDefEqProofs only [go_sem, Nat.reduceAdd, Nat.reduceMul, Nat.reduceLeDiff, Nat.reduceEqDiff, reduceCtorEq, Nat.reduceSub, Int.reduceNeg, Nat.reduceMod, Nat.reduceBEq, Nat.reduceLT]
  exact ⟨rfl, rfl⟩
 ·rintro ⟨i, hi⟩
  have hbr := A6 cs i
  have hlen := Ks cs i
  by_cases hlt : (i : Int) < cs.size
  ·have h128 := hpre.2 i (by omega)
   have h1 : ¬ AC cs (i : Int).toNat ≥ 128 := by rw [tn]; omega
   have h2 : (AC cs (i : Int).toNat).toNat * 1 < (GO cs i).length := by rw [tn]; omega
   simp -implicitDefEqProofs only [hlt, h1, Nat.zero_add, go_sem, Nat.reduceAdd, Nat.reduceMul, Nat.reduceLeDiff, Nat.reduceEqDiff, reduceCtorEq, Nat.reduceSub, Int.reduceNeg, Nat.reduceMod, Nat.reduceBEq, Nat.reduceLT]
   with_reducible repeat' (first | apply ai | intro _ | ((first | apply s1 | apply s3 | apply s4) <;> intro hb <;> simp -implicitDefEqProofs only [hb, go_sem, Nat.reduceAdd, Nat.reduceMul, Nat.reduceLeDiff, Nat.reduceEqDiff, reduceCtorEq, Nat.reduceSub, Int.reduceNeg, Nat.reduceMod, Nat.reduceBEq, Nat.reduceLT] <;> try simp only [qz] at hb))
   all_goals (try rw [tn])
   all_goals first | rfl | omega | (simp only [J3, hlen]; omega) | skip
   refine ⟨⟨i + 1, by omega⟩, by dsimp only; omega, ?_⟩
   simp -implicitDefEqProofs only [go_sem, Nat.reduceAdd, Nat.reduceMul, Nat.reduceLeDiff, Nat.reduceEqDiff, reduceCtorEq, Nat.reduceSub, Int.reduceNeg, Nat.reduceMod, Nat.reduceBEq, Nat.reduceLT]
   refine ⟨by simp, ?_⟩
   refine congrArg Ob.box ?_
   rw [GO]
   simp only [tn, Nat.mul_one]
   exact lB (by omega)
  ·have e1 : i = cs.size := by omega
   have e2 : List.drop 256 (bx (GO cs i)) = [] := List.drop_eq_nil_of_le (by rw [J3, hlen]; exact Nat.le_refl _)
   have e3 : decide (256 ≤ 256) = true := rfl
   simp -implicitDefEqProofs only [hlt, cF hlen, J3, hlen, e2, List.append_nil, Nat.zero_add, e3, cond_true, go_sem, Nat.reduceAdd, Nat.reduceMul, Nat.reduceLeDiff, Nat.reduceEqDiff, reduceCtorEq, Nat.reduceSub, Int.reduceNeg, Nat.reduceMod, Nat.reduceBEq, Nat.reduceLT]
   subst e1
   with_reducible repeat' (first | apply ai | intro _ | ((first | apply s1 | apply s3 | apply s4) <;> intro hb <;> simp -implicitDefEqProofs only [hb, go_sem, Nat.reduceAdd, Nat.reduceMul, Nat.reduceLeDiff, Nat.reduceEqDiff, reduceCtorEq, Nat.reduceSub, Int.reduceNeg, Nat.reduceMod, Nat.reduceBEq, Nat.reduceLT] <;> try simp only [qz] at hb))
   all_goals first
    | rfl
    | omega
    | exact TW
    | (rw [TV]; exact .nil)
    | (rw [TX]; simp; done)
    | skip
   all_goals trace_state
end
def lL : Ct := Aq (lc Ap (lc Ap l0)) (fun p => p.2.1.size ≤ 1000 ∧ 2 ≤ p.2.1.size ∧ p.1.size ≤ 2000000 ∧ ∀ j, j < p.2.1.size → AC p.2.1 j < 128) (fun p => .t (.v (.string (Nk (GO p.2.1 p.2.1.size) (Jg (GO p.2.1 p.2.1.size) p.1)))))
section
attribute [local go_sem] lY lZ ld bD TZ TU OS OP JF JG
theorem dY {G : Gt} (hG : Ah G) (hh : G.e 157 = AA 0 lY ∧ G.e 158 = AA 0 lZ ∧ G.e 159 = AA 0 ld) : Gd G 132 (AA 0 lL) := by
 refine gr (fn := Tryz.f132) (n := 2) rfl rfl hG ?_
 rintro ⟨s, cs, ⟨⟩⟩ hpre
 simp -implicitDefEqProofs only [Tryz.f132, go_sem, hh, Nat.reduceAdd, Nat.reduceMul, Nat.reduceLeDiff, Nat.reduceEqDiff, reduceCtorEq, Nat.reduceSub, Int.reduceNeg, Nat.reduceMod, Nat.reduceBEq, Nat.reduceLT] at hpre ⊢
 have hc : ¬ cs = ⟨#[]⟩ := by intro e; rw [e] at hpre; exact absurd hpre.2.1 (by decide)
 have h1 : ¬ (cs.size : Int) = 1 := by omega
 have hlen := Ks cs cs.size
 have htr : (Jg (GO cs cs.size) s).size ≤ s.size := a8 _ s
 by_cases hs : s = ⟨#[]⟩
 ·simp -implicitDefEqProofs only [hs, go_sem, hh, Nat.reduceAdd, Nat.reduceMul, Nat.reduceLeDiff, Nat.reduceEqDiff, reduceCtorEq, Nat.reduceSub, Int.reduceNeg, Nat.reduceMod, Nat.reduceBEq, Nat.reduceLT]
  with_reducible repeat' (first | apply ai | intro _ | ((first | apply s1 | apply s3 | apply s4) <;> intro hb <;> simp -implicitDefEqProofs only [hb, go_sem, hh, Nat.reduceAdd, Nat.reduceMul, Nat.reduceLeDiff, Nat.reduceEqDiff, reduceCtorEq, Nat.reduceSub, Int.reduceNeg, Nat.reduceMod, Nat.reduceBEq, Nat.reduceLT] <;> try simp only [qz] at hb))
  all_goals first | rfl | omega | skip
  all_goals (rw [VH, VE])
 ·simp -implicitDefEqProofs only [hs, hc, h1, Lj, Xg, OT, J3, hlen, OP, OS, TY, List.append_nil, List.nil_append, Nat.zero_add, go_sem, hh, Nat.reduceAdd, Nat.reduceMul, Nat.reduceLeDiff, Nat.reduceEqDiff, reduceCtorEq, Nat.reduceSub, Int.reduceNeg, Nat.reduceMod, Nat.reduceBEq, Nat.reduceLT]
  with_reducible repeat' (first | apply ai | intro _ | ((first | apply s1 | apply s3 | apply s4) <;> intro hb <;> simp -implicitDefEqProofs only [hb, go_sem, hh, Nat.reduceAdd, Nat.reduceMul, Nat.reduceLeDiff, Nat.reduceEqDiff, reduceCtorEq, Nat.reduceSub, Int.reduceNeg, Nat.reduceMod, Nat.reduceBEq, Nat.reduceLT] <;> try simp only [qz] at hb))
  all_goals first | rfl | omega | exact hpre.2.2.2 | exact hpre.2.2.2 _ (by assumption) | skip
  all_goals trace_state
end
theorem j3 {s : ByteArray} (h : s.size = 0) : s = ⟨#[]⟩ := by
 have : bl s = [] := List.eq_nil_of_length_eq_zero (by rw [CA]; exact h)
 exact E0 this
theorem Gk {s : ByteArray} {a b j : Nat} (h : a + j < b) : AC (s.extract a b) j = AC s (a + j) := by
 rw [Bj, Bj, C4]
 congr 2
 simp only [List.getD_eq_getElem?_getD]
 rw [List.getElem?_take_of_lt (by omega), List.getElem?_drop]
section
variable {l : List Bool}
theorem a9 {s : ByteArray} (h : s.size ≠ 0) : Jg l s = bif l.getD (AC s (s.size - 1)).toNat false then Jg l (s.extract 0 (s.size - 1)) else s := by rw [Jg, dif_neg h]
theorem q8 {s : ByteArray} (h : s.size ≠ 0) : Nk l s = bif l.getD (AC s 0).toNat false then Nk l (s.extract 1 s.size) else s := by rw [Nk, dif_neg h]
theorem VF {s : ByteArray} (h : ∀ j, j < s.size → l.getD (AC s j).toNat false = true) : Jg l s = ⟨#[]⟩ := by
 by_cases h0 : s.size = 0
 ·rw [j3 h0, VH]
 ·rw [a9 h0, h (s.size - 1) (by omega), cond_true]
  refine VF fun j hj => ?_
  rw [ByteArray.size_extract] at hj
  rw [Gk (by omega), Nat.zero_add]
  exact h j (by omega)
termination_by s.size
decreasing_by rw [ByteArray.size_extract]; omega
theorem VD {s : ByteArray} (h : Nk l s = ⟨#[]⟩) : ∀ j, j < s.size → l.getD (AC s j).toNat false = true := by
 intro j hj
 have h0 : s.size ≠ 0 := by omega
 rw [q8 h0] at h
 cases hb : l.getD (AC s 0).toNat false
 ·rw [hb, cond_false] at h
  rw [h] at hj
  cases hj
 ·rw [hb, cond_true] at h
  by_cases hj0 : j = 0
  ·rw [hj0]; exact hb
  ·have := VD h (j - 1) (by rw [ByteArray.size_extract]; omega)
   rw [Gk (by omega)] at this
   rw [show 1 + (j - 1) = j by omega] at this
   exact this
termination_by s.size
decreasing_by rw [ByteArray.size_extract]; omega
theorem VG {s : ByteArray} (h : ∀ j, j < (Jg l s).size → l.getD (AC (Jg l s) j).toNat false = true) : ∀ j, j < s.size → l.getD (AC s j).toNat false = true := by
 intro j hj
 have h0 : s.size ≠ 0 := by omega
 rw [a9 h0] at h
 cases hb : l.getD (AC s (s.size - 1)).toNat false
 ·rw [hb, cond_false] at h
  exact h j hj
 ·rw [hb, cond_true] at h
  by_cases hj0 : j = s.size - 1
  ·rw [hj0]; exact hb
  ·have := VG h j (by rw [ByteArray.size_extract]; omega)
   rw [Gk (by omega), Nat.zero_add] at this
   exact this
termination_by s.size
decreasing_by rw [ByteArray.size_extract]; omega
theorem q9 (s : ByteArray) : Nk l (Jg l s) = ⟨#[]⟩ ↔ ∀ j, j < s.size → l.getD (AC s j).toNat false = true :=
 ⟨fun h => VG (VD h), fun h => by rw [VF h, VE]⟩
end
def rK : ByteArray := ⟨#[97, 98, 99, 100, 101, 102, 103, 104, 105, 106, 107, 108, 109, 110, 111, 112, 113, 114, 115, 116, 117, 118, 119, 120, 121, 122, 48, 49, 50, 51, 52, 53, 54, 55, 56, 57]⟩
theorem fS : ∀ k : Nat, k < 256 → (GO rK 36).getD k false = ((Nat.ble 97 k && Nat.ble k 122) || (Nat.ble 48 k && Nat.ble k 57)) := by decide +kernel
theorem fT (s : ByteArray) : Nk (GO rK 36) (Jg (GO rK 36) s) = ⟨#[]⟩ ↔ ∀ j, j < s.size → KO (AC s j) := by
 rw [q9]
 refine forall_congr' fun j => imp_congr_right fun _ => ?_
 have h := A6 s j
 rw [fS _ (by omega)]
 simp only [Bool.or_eq_true, Bool.and_eq_true, Nat.ble_eq]
 unfold KO
 omega
theorem J1 (a b : ByteArray) : bl (a ++ b) = bl a ++ bl b := by
 unfold bl; rw [ByteArray.data_append, Array.toList_append]
theorem Yi (s e : ByteArray) : QF s e ↔ s = e ∨ ((⟨#[46]⟩ : ByteArray).size + e.size ≤ s.size ∧ s.extract (s.size - ((⟨#[46]⟩ : ByteArray).size + e.size)) s.size = ⟨#[46]⟩ ++ e) := by
 unfold QF
 refine or_congr_right ?_
 have h1 : (⟨#[46]⟩ : ByteArray).size = 1 := rfl
 rw [h1]
 by_cases hs : 1 + e.size ≤ s.size
 ·obtain ⟨n, hn⟩ : ∃ n, s.size - (1 + e.size) = n := ⟨_, rfl⟩
  have e1 : s.size - e.size = n + 1 := by omega
  have e2 : s.size - e.size - 1 = n := by omega
  rw [hn, e1, Nat.add_sub_cancel]
  have q : ∀ k, bl (s.extract k s.size) = (bl s).drop k := fun k => by
   rw [C4, List.take_of_length_le (by rw [List.length_drop, CA]; exact Nat.le_refl _)]
  have d := Ef (s := s) (i := n) (by omega)
  constructor
  ·rintro ⟨_, h2, h3⟩
   refine ⟨hs, E0 ?_⟩
   rw [J1, q, d, ← h2, q]
   rw [Bj] at h3
   have : (bl s).getD n 0 = 46 := UInt8.toNat_inj.1 (by show ((bl s).getD n 0).toNat = 46; omega)
   rw [this]; rfl
  ·rintro ⟨_, h2⟩
   have h3 := congrArg bl h2
   rw [J1, q, d] at h3
   have h4 : (bl s).getD n 0 :: (bl s).drop (n + 1) = 46 :: bl e := h3
   injection h4 with h5 h6
   refine ⟨by omega, E0 (by rw [q]; exact h6), ?_⟩
   rw [Bj, h5]; rfl
 ·constructor
  ·rintro ⟨h, _⟩; omega
  ·rintro ⟨h, _⟩; omega
theorem vk : UInt8.ofNat (AC ⟨#[46]⟩ 0).toNat = 46 := rfl
theorem fU : ∀ j, j < 36 → AC rK j < 128 := by decide +kernel
def vW : Ct := Aq (lc Ap (lc Ap l0)) (fun p => p.2.1.size = 1 ∧ p.1.size ≤ 2000000) (fun p => .o true 1 ((IW p.1 (UInt8.ofNat (AC p.2.1 0).toNat)).map AH))
section
attribute [local go_sem] lK
theorem pD {G : Gt} (hG : Ah G) (hh : G.e 131 = AA 0 lK) : Gd G 79 (AA 0 vW) := by
 refine gr (fn := Tryz.f79) (n := 2) rfl rfl hG ?_ (hs := fun _ _ => .deep _ _)
 rintro ⟨s, sep, ⟨⟩⟩ hpre
 simp -implicitDefEqProofs only [Tryz.f79, go_sem, hh, seval] at hpre ⊢
 with_reducible repeat' (first | apply ai | intro _ | ((first | apply s1 | apply s3 | apply s4) <;> intro hb <;> simp -implicitDefEqProofs only [hb, go_sem, hh, seval] <;> try simp only [qz] at hb))
 all_goals first | rfl | omega | (simp; done) | skip
end
def Wj : Ct := Aq (lc BI (lc BI (lc BI l0))) (fun p => True) (fun p => .t (.v (.bool (BL (p.2.1 ≤ p.1 ∧ p.1 ≤ p.2.2.1)))))
theorem oY {G : Gt} (hG : Ah G) : Gd G 48 (AA 0 Wj) := by
 refine gr (fn := Tryz.f48) (n := 3) rfl rfl hG ?_
 rintro ⟨n, a, b, ⟨⟩⟩ hpre
 simp -implicitDefEqProofs only [Tryz.f48, go_sem, seval] at hpre ⊢
 with_reducible repeat' (first | apply ai | intro _ | ((first | apply s1 | apply s3 | apply s4) <;> intro hb <;> simp -implicitDefEqProofs only [hb, go_sem, seval] <;> try simp only [qz] at hb))
 all_goals first | rfl | omega | skip
 all_goals first
  | (rw [BF]; simp only [*]; done)
  | (rw [BF]; simp [*])
def vh : Ct := Aq (lc Ap l0) (fun p => p.1.size ≤ 2000000) (fun p => .t (.v (.bool (BL (Ib p.1)))))
theorem pX {G : Gt} (hG : Ah G) : Gd G 98 (AA 0 vh) := by
 refine gr (fn := Tryz.f98) (n := 1) rfl rfl hG ?_
 rintro ⟨s, ⟨⟩⟩ hpre
 simp -implicitDefEqProofs only [Tryz.f98, go_sem, seval] at hpre ⊢
 with_reducible repeat' (first | apply ai | intro _ | ((first | apply s1 | apply s3 | apply s4) <;> intro hb <;> simp -implicitDefEqProofs only [hb, go_sem, seval] <;> try simp only [qz] at hb))
 all_goals first | rfl | omega | skip
 refine AF [] (ι := {i : Nat // i ≤ s.size ∧ ∀ j, j < i → 32 ≤ AC s j ∧ AC s j ≤ 126}) (fun p => ⟨[(0, .t (.v (.string s))), (5, .t (.v (.int .i64 s.size))), (6, .t (.v (.int .i64 p.1)))], []⟩) (fun p => s.size - p.1) ⟨0, Nat.zero_le _, fun j hj => absurd hj (Nat.not_lt_zero _)⟩ rfl ?_ ?_
 ·simp -implicitDefEqProofs only [go_sem, seval]
  try simp
 ·rintro ⟨i, hi, hall⟩
  by_cases hlt : (i : Int) < s.size
  ·by_cases h1 : AC s (i : Int).toNat < 32
   ·simp -implicitDefEqProofs only [hlt, h1, go_sem, seval]
    with_reducible repeat' (first | apply ai | intro _ | ((first | apply s1 | apply s3 | apply s4) <;> intro hb <;> simp -implicitDefEqProofs only [hb, go_sem, seval] <;> try simp only [qz] at hb))
    all_goals (try simp only [maxLen, tn] at *)
    all_goals first | rfl | omega | skip
    rw [AO (fun h => by have := (h.1 i (by omega)).1; omega)]
   ·by_cases h2 : AC s (i : Int).toNat > 126
    ·simp -implicitDefEqProofs only [hlt, h1, h2, go_sem, seval]
     with_reducible repeat' (first | apply ai | intro _ | ((first | apply s1 | apply s3 | apply s4) <;> intro hb <;> simp -implicitDefEqProofs only [hb, go_sem, seval] <;> try simp only [qz] at hb))
     all_goals (try simp only [maxLen, tn] at *)
     all_goals first | rfl | omega | skip
     rw [AO (fun h => by have := (h.1 i (by omega)).2; omega)]
    ·simp -implicitDefEqProofs only [hlt, h1, h2, go_sem, seval]
     with_reducible repeat' (first | apply ai | intro _ | ((first | apply s1 | apply s3 | apply s4) <;> intro hb <;> simp -implicitDefEqProofs only [hb, go_sem, seval] <;> try simp only [qz] at hb))
     all_goals (try simp only [maxLen, tn] at *)
     all_goals first | rfl | omega | skip
     refine ⟨⟨i + 1, by omega, fun j hj => ?_⟩, by dsimp only; omega, ?_⟩
     ·by_cases e : j = i
      ·subst e; omega
      ·exact hall j (by omega)
     ·simp -implicitDefEqProofs only [go_sem, seval]
      try simp
  ·simp -implicitDefEqProofs only [hlt, go_sem, seval]
   with_reducible repeat' (first | apply ai | intro _ | ((first | apply s1 | apply s3 | apply s4) <;> intro hb <;> simp -implicitDefEqProofs only [hb, go_sem, seval] <;> try simp only [qz] at hb))
   all_goals (try simp only [maxLen, tn] at *)
   all_goals first | rfl | omega | skip
   rw [← BF, AW]
   exact ⟨fun h => ⟨fun j hj => hall j (by omega), by omega⟩, fun h => by have := h.2; omega⟩
def ry : Ct := Aq (lc Ap l0) (fun p => True) (fun p => .t (.v (.bool (BL (Sa p.1)))))
section
attribute [local go_sem] Wj lL AU AT
theorem pE {G : Gt} (hG : Ah G) (hh : G.e 48 = AA 0 Wj ∧ G.e 132 = AA 0 lL) : Gd G 80 (AA 0 ry) := by
 refine gr (fn := Tryz.f80) (n := 1) rfl rfl hG ?_
 rintro ⟨s, ⟨⟩⟩ hpre
 simp -implicitDefEqProofs only [Tryz.f80, go_sem, hh, seval] at hpre ⊢
 with_reducible repeat' (first | apply ai | intro _ | ((first | apply s1 | apply s3 | apply s4) <;> intro hb <;> simp -implicitDefEqProofs only [hb, go_sem, hh, seval] <;> try simp only [qz] at hb))
 all_goals first | rfl | omega | exact fU _ (by assumption) | (simp; done) | skip
 ·show T.v (.bool (decide (Nk (GO rK 36) (Jg (GO rK 36) s) = ⟨#[]⟩))) = _
  rw [← BF]
  refine congrArg (fun b => T.v (.bool b)) (AW ((fT s).trans ?_))
  exact ⟨fun h => ⟨h, by omega, by omega⟩, fun h => h.1⟩
 ·rw [AO (fun h => hb ⟨by have := h.2.1; omega, by have := h.2.2; omega⟩)]
end
def P8 : Ct := Aq (lc Ap l0) (fun p => p.1.size ≤ 2000000) (fun p => .t (.v (.bool (BL (Cc p.1)))))
section
attribute [local go_sem] vW ry vk BZ AY lm Bool.not_true Bool.not_false
theorem oK {G : Gt} (hG : Ah G) (hh : G.e 79 = AA 0 vW ∧ G.e 80 = AA 0 ry) : Gd G 34 (AA 0 P8) := by
 refine gr (fn := Tryz.f34) (n := 1) rfl rfl hG ?_
 rintro ⟨s, ⟨⟩⟩ hpre
 simp -implicitDefEqProofs only [Tryz.f34, go_sem, hh, seval] at hpre ⊢
 with_reducible repeat' (first | apply ai | intro _ | ((first | apply s1 | apply s3 | apply s4) <;> intro hb <;> simp -implicitDefEqProofs only [hb, go_sem, hh, seval] <;> try simp only [qz] at hb))
 all_goals first | rfl | omega | skip
 have hlen := GB s 46
 have hcnt := Xx s 46
 refine AF [] (ι := {i : Nat // i ≤ (IW s 46).length ∧ ∀ j, j < i → Sa ((IW s 46).getD j default)}) (fun p => ⟨[(3, .h 1007), (8, .h 1007), (9, .t (.v (.int .i64 (IW s 46).length))), (10, .t (.v (.int .i64 p.1)))], [(1007, some (.arr true 1 ((IW s 46).map AH)))]⟩) (fun p => (IW s 46).length - p.1) ⟨0, Nat.zero_le _, fun j hj => absurd hj (Nat.not_lt_zero _)⟩ rfl ?_ ?_
 ·simp -implicitDefEqProofs only [go_sem, hh, seval]
  try simp
 ·rintro ⟨i, hi, hall⟩
  by_cases hlt : (i : Int) < (IW s 46).length
  ·cases hb : BL (Sa ((IW s 46).getD (i : Int).toNat default))
   ·simp -implicitDefEqProofs only [hlt, hb, go_sem, hh, seval]
    with_reducible repeat' (first | apply ai | intro _ | ((first | apply s1 | apply s3 | apply s4) <;> intro hb <;> simp -implicitDefEqProofs only [hb, go_sem, hh, seval] <;> try simp only [qz] at hb))
    all_goals (try simp only [maxLen, tn, AT] at *)
    all_goals first | rfl | omega | skip
    rw [AO (fun h => hb (((JP s).1 h).1 _ (AE (by omega))))]
   ·simp -implicitDefEqProofs only [hlt, hb, go_sem, hh, seval]
    with_reducible repeat' (first | apply ai | intro _ | ((first | apply s1 | apply s3 | apply s4) <;> intro hb <;> simp -implicitDefEqProofs only [hb, go_sem, hh, seval] <;> try simp only [qz] at hb))
    all_goals (try simp only [maxLen, tn, AU] at *)
    all_goals first | rfl | omega | skip
    refine ⟨⟨i + 1, by omega, DI hall hb⟩, by dsimp only; omega, ?_⟩
    simp -implicitDefEqProofs only [go_sem, hh, seval]
    try simp
  ·simp -implicitDefEqProofs only [hlt, go_sem, hh, seval]
   with_reducible repeat' (first | apply ai | intro _ | ((first | apply s1 | apply s3 | apply s4) <;> intro hb <;> simp -implicitDefEqProofs only [hb, go_sem, hh, seval] <;> try simp only [qz] at hb))
   all_goals first | rfl | omega | skip
   rw [← BF, AW (JP s)]
   refine congrArg (fun b => T.v (.bool b)) (AW ?_)
   exact ⟨fun h => ⟨BR fun j hj => hall j (by omega), by omega⟩, fun h => by have := h.2; omega⟩
end
def Wi : Ct := Aq (lc C3.ag l0) (fun p => p.1.domain.size ≤ 2000000) (fun p => .t (.v (.bool (BL (BJ p.1)))))
section
attribute [local go_sem] ry P8
theorem oU {G : Gt} (hG : Ah G) (hh : G.e 80 = AA 0 ry ∧ G.e 34 = AA 0 P8) : Gd G 44 (AA 0 Wi) := by
 refine gr (fn := Tryz.f44) (n := 1) rfl rfl hG ?_
 rintro ⟨a, ⟨⟩⟩ hpre
 simp -implicitDefEqProofs only [Tryz.f44, go_sem, hh, seval] at hpre ⊢
 with_reducible repeat' (first | apply ai | intro _ | ((first | apply s1 | apply s3 | apply s4) <;> intro hb <;> simp -implicitDefEqProofs only [hb, go_sem, hh, seval] <;> try simp only [qz] at hb))
 all_goals (try simp only [AU, AT] at *)
 all_goals first | rfl | omega | skip
 ·refine congrArg (fun b => T.v (.bool b)) (AW ⟨fun h => ⟨by assumption, h⟩, fun h => h.2⟩)
 ·rw [AO (fun h => absurd h.1 (by assumption))]
end
def ve : Ct := Aq (lc C3.ag l0) (fun p => True) (fun p => .t (.v (.bool (BL (AZ p.1)))))
theorem pT {G : Gt} (hG : Ah G) : Gd G 95 (AA 0 ve) := by
 refine gr (fn := Tryz.f95) (n := 1) rfl rfl hG ?_
 rintro ⟨a, ⟨⟩⟩ hpre
 simp -implicitDefEqProofs only [Tryz.f95, go_sem, seval] at hpre ⊢
 with_reducible repeat' (first | apply ai | intro _ | ((first | apply s1 | apply s3 | apply s4) <;> intro hb <;> simp -implicitDefEqProofs only [hb, go_sem, seval] <;> try simp only [qz] at hb))
 all_goals first | rfl | omega | skip
 ·unfold AZ
  rw [BF]
  by_cases h1 : a.user = ⟨#[]⟩ <;> by_cases h2 : a.domain = ⟨#[]⟩ <;> simp [h1, h2]
def md : Ct := Aq (lc C3.ag l0) (fun p => p.1.domain.size ≤ 2000000) (fun p => .t (.v (.bool (BL (BJ p.1 ∨ AZ p.1)))))
section
attribute [local go_sem] Wi ve
theorem oX {G : Gt} (hG : Ah G) (hh : G.e 44 = AA 0 Wi ∧ G.e 95 = AA 0 ve) : Gd G 47 (AA 0 md) := by
 refine gr (fn := Tryz.f47) (n := 1) rfl rfl hG ?_
 rintro ⟨a, ⟨⟩⟩ hpre
 simp -implicitDefEqProofs only [Tryz.f47, go_sem, hh, seval] at hpre ⊢
 with_reducible repeat' (first | apply ai | intro _ | ((first | apply s1 | apply s3 | apply s4) <;> intro hb <;> simp -implicitDefEqProofs only [hb, go_sem, hh, seval] <;> try simp only [qz] at hb))
 all_goals (try simp only [AU, AT] at *)
 all_goals first | rfl | omega | skip
 ·rw [Ak (.inr (by assumption))]
 ·refine congrArg (fun b => T.v (.bool b)) (AW ⟨fun h => .inl h, fun h => h.resolve_right (by assumption)⟩)
end
def vY : Ct := Aq (lc Ap (lc Ap l0)) (fun p => p.1.size ≤ 2000000 ∧ p.2.1.size ≤ 1500000) (fun p => .t (.v (.bool (BL (Cc p.1 ∧ Cc p.2.1 ∧ QF p.1 p.2.1)))))
section
attribute [local go_sem] P8 lN
theorem pG {G : Gt} (hG : Ah G) (hh : G.e 34 = AA 0 P8 ∧ G.e 134 = AA 0 lN) : Gd G 82 (AA 0 vY) := by
 refine gr (fn := Tryz.f82) (n := 2) rfl rfl hG ?_
 rintro ⟨s, e, ⟨⟩⟩ hpre
 simp -implicitDefEqProofs only [Tryz.f82, go_sem, hh, seval] at hpre ⊢
 with_reducible repeat' (first | apply ai | intro _ | ((first | apply s1 | apply s3 | apply s4) <;> intro hb <;> simp -implicitDefEqProofs only [hb, go_sem, hh, seval] <;> try simp only [qz] at hb))
 all_goals (try simp only [AU, AT] at *)
 all_goals first | rfl | omega | skip
 all_goals (try rw [Yi])
 ·rw [Ak ⟨by assumption, by assumption, .inl (by assumption)⟩]
 ·show 1 + e.size ≤ maxLen
  rw [maxLen]; omega
 ·show 1 + e.size ≤ _
  omega
 ·refine congrArg (fun b => T.v (.bool b)) (AW ⟨fun h => ⟨by assumption, by assumption, .inr h⟩, fun h => h.2.2.resolve_left (by assumption)⟩)
 ·rw [AO (fun h => absurd h.2.1 (by assumption))]
 ·rw [AO (fun h => absurd h.1 (by assumption))]
end
namespace Er
variable {α : Type} (E : Er α)
def apD : AV → Option α
 | .t (.rop c) => E.dec c
 | _ => none
def ap : AD α where
 enc a := .t (.rop (E.enc a))
 dec := E.apD
 ed := fun a => E.ed a
 de := fun x a h => by
  unfold apD at h
  split at h
  ·rw [E.de _ _ h]
  ·cases h
end Er
theorem BN {α : Type} {E : Er α} {a : α} : E.ap.enc a = .t (.rop (E.enc a)) := rfl
theorem BM {α : Type} {E : Er α} {c : List T} : E.ap.dec (.t (.rop c)) = E.dec c := rfl
noncomputable def A5 {α : Type} (p : α → Prop) : Nat → List α → Int
 | _, [] => -1
 | k, x :: t => bif BL (p x) then k else A5 p (k + 1) t
theorem Cs {α : Type} [Inhabited α] {p : α → Prop} {xs : List α} {i : Nat} (h : i < xs.length) (ha : p (xs.getD i default)) : A5 p i (xs.drop i) = i := by
 rw [Ae h, A5, Ak ha]; rfl
theorem Du {α : Type} [Inhabited α] {p : α → Prop} {xs : List α} {i : Nat} (h : i < xs.length) (ha : ¬ p (xs.getD i default)) : A5 p i (xs.drop i) = A5 p (i + 1) (xs.drop (i + 1)) := by
 rw [Ae h, A5, AO ha]; rfl
theorem Cr {α : Type} {p : α → Prop} {xs : List α} {i : Nat} (h : xs.length ≤ i) : A5 p i (xs.drop i) = -1 := by
 rw [List.drop_eq_nil_of_le h, A5]
theorem EF {α : Type} {p : α → Prop} : ∀ (xs : List α) (k : Nat), 0 ≤ A5 p k xs ↔ ∃ x ∈ xs, p x
 | [], k => by simp [A5]
 | x :: t, k => by
   rw [A5]
   by_cases h : p x
   ·rw [Ak h, cond_true]
    exact ⟨fun _ => ⟨x, by simp, h⟩, fun _ => by omega⟩
   ·rw [AO h, cond_false, EF t (k + 1)]
    simp [h]
inductive D3 where
 | line
 | dom
def D3.enc : D3 → AV
 | .line  => .t (.fn 97 [])
 | .dom  => .t (.fn 91 [])
def D3.dec : AV → Option D3
 | .t (.fn 97 []) => some (.line )
 | .t (.fn 91 []) => some (.dom )
 | _ => none
def D3.sem : D3 → ByteArray → Prop
 | .line , x => ¬ Ib x
 | .dom , x => ¬ Cc x
def D3.pre : D3 → ByteArray → Prop
 | .line , x => x.size ≤ 2000000
 | .dom , x => x.size ≤ 2000000
def LR : AD D3 where
 enc := D3.enc
 dec := D3.dec
 ed := fun f => by cases f <;> rfl
 de := fun x f h => by
  unfold D3.dec at h
  split at h <;> cases h <;> rfl
theorem Df  : LR.dec (.t (.fn 97 [])) = some (.line ) := rfl
theorem Dh  : LR.enc (.line ) = .t (.fn 97 []) := rfl
theorem Dg  : LR.dec (.t (.fn 91 [])) = some (.dom ) := rfl
theorem Di  : LR.enc (.dom ) = .t (.fn 91 []) := rfl
def vg : Ct := Aq (lc Ap l0) (fun p => p.1.size ≤ 2000000) (fun p => .t (.v (.bool (BL (¬ Ib p.1)))))
section
attribute [local go_sem] vh BN BM Bool.not_true Bool.not_false Br DM
theorem pV {G : Gt} (hG : Ah G) (hh : G.e 98 = AA 0 vh) : Gd G 97 (AA 0 vg) := by
 refine gr (fn := Tryz.f97) (n := 1) rfl rfl hG ?_
 rintro ⟨x, ⟨⟩⟩ hpre
 simp -implicitDefEqProofs only [Tryz.f97, go_sem, hh, seval] at hpre ⊢
 with_reducible repeat' (first | apply ai | intro _ | ((first | apply s1 | apply s3 | apply s4) <;> intro hb <;> simp -implicitDefEqProofs only [hb, go_sem, hh, seval] <;> try simp only [qz] at hb))
 all_goals first | rfl | omega | exact hpre | skip
 all_goals (try (simp only [ED]; done))
 all_goals first | rfl | (rw [BF]; done) | (rw [BF, decide_eq_decide.2]; simp [B5]; done) | (rw [BF]; simp [B5]; done)
end
def vb : Ct := Aq (lc Ap l0) (fun p => p.1.size ≤ 2000000) (fun p => .t (.v (.bool (BL (¬ Cc p.1)))))
section
attribute [local go_sem] P8 BN BM Bool.not_true Bool.not_false Br DM
theorem pP {G : Gt} (hG : Ah G) (hh : G.e 34 = AA 0 P8) : Gd G 91 (AA 0 vb) := by
 refine gr (fn := Tryz.f91) (n := 1) rfl rfl hG ?_
 rintro ⟨x, ⟨⟩⟩ hpre
 simp -implicitDefEqProofs only [Tryz.f91, go_sem, hh, seval] at hpre ⊢
 with_reducible repeat' (first | apply ai | intro _ | ((first | apply s1 | apply s3 | apply s4) <;> intro hb <;> simp -implicitDefEqProofs only [hb, go_sem, hh, seval] <;> try simp only [qz] at hb))
 all_goals first | rfl | omega | exact hpre | skip
 all_goals (try (simp only [ED]; done))
 all_goals first | rfl | (rw [BF]; done) | (rw [BF, decide_eq_decide.2]; simp [B5]; done) | (rw [BF]; simp [B5]; done)
end
def lP : Ct := Aq (lc An.asl (lc LR l0)) (fun p => ∀ x ∈ p.1, p.2.1.pre x) (fun p => .t (.v (.int .i64 (A5 p.2.1.sem 0 p.1))))
section
attribute [local go_sem] vg vb BN BM Bool.not_true Bool.not_false Br DM Df Dh Dg Di
theorem dc {G : Gt} (hG : Ah G) (hh : G.e 97 = AA 0 vg ∧ G.e 91 = AA 0 vb) : Gd G 136 (AA 0 lP) := by
 refine gr (fn := Tryz.f136) (n := 2) rfl rfl hG ?_
 rintro ⟨xs, f, ⟨⟩⟩ hpre
 have hs := hpre
 dsimp only at hs ⊢
 cases f with
 | line  =>
   simp -implicitDefEqProofs only [Tryz.f136, go_sem, hh, seval]
   with_reducible repeat' (first | apply ai | intro _ | ((first | apply s1 | apply s3 | apply s4) <;> intro hb <;> simp -implicitDefEqProofs only [hb, go_sem, hh, seval] <;> try simp only [qz] at hb))
   all_goals first | rfl | omega | skip
   refine AF [] (ι := {i : Nat // i ≤ xs.length ∧ A5 (D3.sem (.line )) 0 xs = A5 (D3.sem (.line )) i (xs.drop i)}) (fun p => ⟨[(0, .t (.sl 1 (xs.map AH))), (1, .t (.fn 97 [])), (7, .t (.v (.int .i64 xs.length))), (8, .t (.v (.int .i64 p.1)))], []⟩) (fun p => xs.length - p.1) ⟨0, Nat.zero_le _, rfl⟩ rfl ?_ ?_
   ·simp -implicitDefEqProofs only [go_sem, hh, seval]
    try simp
   ·rintro ⟨i, hi, hix⟩
    by_cases hlt : (i : Int) < xs.length
    ·have hm : xs.getD (i : Int).toNat default ∈ xs := AE (by omega)
     have hsz := hs _ hm
     cases hb : BL (¬ Ib (xs.getD (i : Int).toNat default))
     ·have hq := hb
      simp -implicitDefEqProofs only [hlt, hq, go_sem, hh, seval]
      with_reducible repeat' (first | apply ai | intro _ | ((first | apply s1 | apply s3 | apply s4) <;> intro hb <;> simp -implicitDefEqProofs only [hb, go_sem, hh, seval] <;> try simp only [qz] at hb))
      all_goals (try simp only [maxLen] at *)
      all_goals first | rfl | omega | with_reducible assumption | exact hsz | exact hsz.1 | exact hsz.2 | exact hsz.2 _ (by assumption) | exact hsz.2.1 | exact hsz.2.2.1 | exact hsz.2.2.2 | trivial | skip
      rw [AT, tn] at hb
      refine ⟨⟨i + 1, by omega, ?_⟩, by dsimp only; omega, ?_⟩
      ·rw [hix, Du (p := D3.sem (.line )) (by omega) hb]
      ·simp -implicitDefEqProofs only [go_sem, hh, seval]
       try simp
     ·have hq := hb
      simp -implicitDefEqProofs only [hlt, hq, go_sem, hh, seval]
      with_reducible repeat' (first | apply ai | intro _ | ((first | apply s1 | apply s3 | apply s4) <;> intro hb <;> simp -implicitDefEqProofs only [hb, go_sem, hh, seval] <;> try simp only [qz] at hb))
      all_goals (try simp only [maxLen] at *)
      all_goals first | rfl | omega | with_reducible assumption | exact hsz | exact hsz.1 | exact hsz.2 | exact hsz.2 _ (by assumption) | exact hsz.2.1 | exact hsz.2.2.1 | exact hsz.2.2.2 | trivial | skip
      rw [AU, tn] at hb
      rw [hix, Cs (p := D3.sem (.line )) (by omega) hb]
    ·simp -implicitDefEqProofs only [hlt, go_sem, hh, seval]
     with_reducible repeat' (first | apply ai | intro _ | ((first | apply s1 | apply s3 | apply s4) <;> intro hb <;> simp -implicitDefEqProofs only [hb, go_sem, hh, seval] <;> try simp only [qz] at hb))
     all_goals first | rfl | omega | skip
     all_goals (rw [hix, Cr (by omega)])
 | dom  =>
   simp -implicitDefEqProofs only [Tryz.f136, go_sem, hh, seval]
   with_reducible repeat' (first | apply ai | intro _ | ((first | apply s1 | apply s3 | apply s4) <;> intro hb <;> simp -implicitDefEqProofs only [hb, go_sem, hh, seval] <;> try simp only [qz] at hb))
   all_goals first | rfl | omega | skip
   refine AF [] (ι := {i : Nat // i ≤ xs.length ∧ A5 (D3.sem (.dom )) 0 xs = A5 (D3.sem (.dom )) i (xs.drop i)}) (fun p => ⟨[(0, .t (.sl 1 (xs.map AH))), (1, .t (.fn 91 [])), (7, .t (.v (.int .i64 xs.length))), (8, .t (.v (.int .i64 p.1)))], []⟩) (fun p => xs.length - p.1) ⟨0, Nat.zero_le _, rfl⟩ rfl ?_ ?_
   ·simp -implicitDefEqProofs only [go_sem, hh, seval]
    try simp
   ·rintro ⟨i, hi, hix⟩
    by_cases hlt : (i : Int) < xs.length
    ·have hm : xs.getD (i : Int).toNat default ∈ xs := AE (by omega)
     have hsz := hs _ hm
     cases hb : BL (¬ Cc (xs.getD (i : Int).toNat default))
     ·have hq := hb
      simp -implicitDefEqProofs only [hlt, hq, go_sem, hh, seval]
      with_reducible repeat' (first | apply ai | intro _ | ((first | apply s1 | apply s3 | apply s4) <;> intro hb <;> simp -implicitDefEqProofs only [hb, go_sem, hh, seval] <;> try simp only [qz] at hb))
      all_goals (try simp only [maxLen] at *)
      all_goals first | rfl | omega | with_reducible assumption | exact hsz | exact hsz.1 | exact hsz.2 | exact hsz.2 _ (by assumption) | exact hsz.2.1 | exact hsz.2.2.1 | exact hsz.2.2.2 | trivial | skip
      rw [AT, tn] at hb
      refine ⟨⟨i + 1, by omega, ?_⟩, by dsimp only; omega, ?_⟩
      ·rw [hix, Du (p := D3.sem (.dom )) (by omega) hb]
      ·simp -implicitDefEqProofs only [go_sem, hh, seval]
       try simp
     ·have hq := hb
      simp -implicitDefEqProofs only [hlt, hq, go_sem, hh, seval]
      with_reducible repeat' (first | apply ai | intro _ | ((first | apply s1 | apply s3 | apply s4) <;> intro hb <;> simp -implicitDefEqProofs only [hb, go_sem, hh, seval] <;> try simp only [qz] at hb))
      all_goals (try simp only [maxLen] at *)
      all_goals first | rfl | omega | with_reducible assumption | exact hsz | exact hsz.1 | exact hsz.2 | exact hsz.2 _ (by assumption) | exact hsz.2.1 | exact hsz.2.2.1 | exact hsz.2.2.2 | trivial | skip
      rw [AU, tn] at hb
      rw [hix, Cs (p := D3.sem (.dom )) (by omega) hb]
    ·simp -implicitDefEqProofs only [hlt, go_sem, hh, seval]
     with_reducible repeat' (first | apply ai | intro _ | ((first | apply s1 | apply s3 | apply s4) <;> intro hb <;> simp -implicitDefEqProofs only [hb, go_sem, hh, seval] <;> try simp only [qz] at hb))
     all_goals first | rfl | omega | skip
     all_goals (rw [hix, Cr (by omega)])
end
def sB : Ct := Aq (lc An.asl (lc LR l0)) (fun p => ∀ x ∈ p.1, p.2.1.pre x) (fun p => .t (.v (.bool (BL (∃ x ∈ p.1, p.2.1.sem x)))))
section
attribute [local go_sem] lP BN BM Bool.not_true Bool.not_false Br DM Df Dh Dg Di
theorem pR {G : Gt} (hG : Ah G) (hh : G.e 136 = AA 0 lP) : Gd G 93 (AA 0 sB) := by
 refine gr (fn := Tryz.f93) (n := 2) rfl rfl hG ?_
 rintro ⟨xs, f, ⟨⟩⟩ hpre
 dsimp only at hpre ⊢
 cases f
 all_goals
  simp -implicitDefEqProofs only [Tryz.f93, go_sem, hh, seval]
  with_reducible repeat' (first | apply ai | intro _ | ((first | apply s1 | apply s3 | apply s4) <;> intro hb <;> simp -implicitDefEqProofs only [hb, go_sem, hh, seval] <;> try simp only [qz] at hb))
  all_goals first | rfl | omega | exact hpre | exact hpre _ (by assumption) | skip
  all_goals (rw [← AW (EF _ 0)]; rw [BF])
end
inductive Nu where
 | part (n : Int)
def Nu.enc : Nu → AV
 | .part n => .t (.fn 33 [.rop [.v (.int .i64 n)]])
def Nu.dec : AV → Option Nu
 | .t (.fn 33 [.rop [.v (.int .i64 n)]]) => some (.part n)
 | _ => none
def Nu.sem : Nu → Im → Prop
 | .part n, x => x.id = n
def Nu.pre : Nu → Im → Prop
 | .part _, x => True
def bX : AD Nu where
 enc := Nu.enc
 dec := Nu.dec
 ed := fun f => by cases f <;> rfl
 de := fun x f h => by
  unfold Nu.dec at h
  split at h <;> cases h <;> rfl
theorem Ru {n : Int} : bX.dec (.t (.fn 33 [.rop [.v (.int .i64 n)]])) = some (.part n) := rfl
theorem Rv {n : Int} : bX.enc (.part n) = .t (.fn 33 [.rop [.v (.int .i64 n)]]) := rfl
def vO : Ct := Aq (lc Ia.ag (lc Dj.ap l0)) (fun p => True) (fun p => .t (.v (.bool (BL (p.1.id = p.2.1)))))
section
attribute [local go_sem] BN BM Bool.not_true Bool.not_false Br DM
theorem oJ {G : Gt} (hG : Ah G) : Gd G 33 (AA 0 vO) := by
 refine gr (fn := Tryz.f33) (n := 2) rfl rfl hG ?_
 rintro ⟨x, n, ⟨⟩⟩ hpre
 simp -implicitDefEqProofs only [Tryz.f33, go_sem, seval] at hpre ⊢
 with_reducible repeat' (first | apply ai | intro _ | ((first | apply s1 | apply s3 | apply s4) <;> intro hb <;> simp -implicitDefEqProofs only [hb, go_sem, seval] <;> try simp only [qz] at hb))
 all_goals first | rfl | omega | exact hpre | skip
 all_goals (try (simp only [ED]; done))
 all_goals first | rfl | (rw [BF]; done) | (rw [BF, decide_eq_decide.2]; simp [B5]; done) | (rw [BF]; simp [B5]; done)
end
def vN : Ct := Aq (lc Ia.asl (lc bX l0)) (fun p => ∀ x ∈ p.1, p.2.1.pre x) (fun p => .t (.v (.int .i64 (A5 p.2.1.sem 0 p.1))))
section
attribute [local go_sem] vO BN BM Bool.not_true Bool.not_false Br DM Ru Rv
theorem oI {G : Gt} (hG : Ah G) (hh : G.e 33 = AA 0 vO) : Gd G 32 (AA 0 vN) := by
 refine gr (fn := Tryz.f32) (n := 2) rfl rfl hG ?_
 rintro ⟨xs, f, ⟨⟩⟩ hpre
 have hs := hpre
 dsimp only at hs ⊢
 cases f with
 | part n =>
   simp -implicitDefEqProofs only [Tryz.f32, go_sem, hh, seval]
   with_reducible repeat' (first | apply ai | intro _ | ((first | apply s1 | apply s3 | apply s4) <;> intro hb <;> simp -implicitDefEqProofs only [hb, go_sem, hh, seval] <;> try simp only [qz] at hb))
   all_goals first | rfl | omega | skip
   refine AF [] (ι := {i : Nat // i ≤ xs.length ∧ A5 (Nu.sem (.part n)) 0 xs = A5 (Nu.sem (.part n)) i (xs.drop i)}) (fun p => ⟨[(0, .t (.sl 5 (xs.map Az))), (1, bX.enc (.part n)), (7, .t (.v (.int .i64 xs.length))), (8, .t (.v (.int .i64 p.1)))], []⟩) (fun p => xs.length - p.1) ⟨0, Nat.zero_le _, rfl⟩ rfl ?_ ?_
   ·simp -implicitDefEqProofs only [go_sem, hh, seval]
    try simp
   ·rintro ⟨i, hi, hix⟩
    by_cases hlt : (i : Int) < xs.length
    ·have hm : xs.getD (i : Int).toNat default ∈ xs := AE (by omega)
     have hsz := hs _ hm
     cases hb : BL ((xs.getD (i : Int).toNat default).id = n)
     ·have hq := hb
      simp -implicitDefEqProofs only [hlt, hq, go_sem, hh, seval]
      with_reducible repeat' (first | apply ai | intro _ | ((first | apply s1 | apply s3 | apply s4) <;> intro hb <;> simp -implicitDefEqProofs only [hb, go_sem, hh, seval] <;> try simp only [qz] at hb))
      all_goals (try simp only [maxLen] at *)
      all_goals first | rfl | omega | with_reducible assumption | exact hsz | exact hsz.1 | exact hsz.2 | exact hsz.2 _ (by assumption) | exact hsz.2.1 | exact hsz.2.2.1 | exact hsz.2.2.2 | trivial | skip
      rw [AT, tn] at hb
      refine ⟨⟨i + 1, by omega, ?_⟩, by dsimp only; omega, ?_⟩
      ·rw [hix, Du (p := Nu.sem (.part n)) (by omega) hb]
      ·simp -implicitDefEqProofs only [go_sem, hh, seval]
       try simp
     ·have hq := hb
      simp -implicitDefEqProofs only [hlt, hq, go_sem, hh, seval]
      with_reducible repeat' (first | apply ai | intro _ | ((first | apply s1 | apply s3 | apply s4) <;> intro hb <;> simp -implicitDefEqProofs only [hb, go_sem, hh, seval] <;> try simp only [qz] at hb))
      all_goals (try simp only [maxLen] at *)
      all_goals first | rfl | omega | with_reducible assumption | exact hsz | exact hsz.1 | exact hsz.2 | exact hsz.2 _ (by assumption) | exact hsz.2.1 | exact hsz.2.2.1 | exact hsz.2.2.2 | trivial | skip
      rw [AU, tn] at hb
      rw [hix, Cs (p := Nu.sem (.part n)) (by omega) hb]
    ·simp -implicitDefEqProofs only [hlt, go_sem, hh, seval]
     with_reducible repeat' (first | apply ai | intro _ | ((first | apply s1 | apply s3 | apply s4) <;> intro hb <;> simp -implicitDefEqProofs only [hb, go_sem, hh, seval] <;> try simp only [qz] at hb))
     all_goals first | rfl | omega | skip
     all_goals (rw [hix, Cr (by omega)])
end
def cQ : Ct := Aq (lc An.asl l0) (fun p => ∀ s ∈ p.1, s.size ≤ 2000000) (fun p => .t (.v (.bool (BL (DW p.1)))))
section
attribute [local go_sem] sB BN BM Bool.not_true Bool.not_false Br DM Df Dh Dg Di
theorem od {G : Gt} (hG : Ah G) (hh : G.e 93 = AA 0 sB) : Gd G 51 (AA 0 cQ) := by
 refine gr (fn := Tryz.f51) (n := 1) rfl rfl hG ?_
 rintro ⟨xs, ⟨⟩⟩ hpre
 simp -implicitDefEqProofs only [Tryz.f51, go_sem, hh, seval] at hpre ⊢
 with_reducible repeat' (first | apply ai | intro _ | ((first | apply s1 | apply s3 | apply s4) <;> intro hb <;> simp -implicitDefEqProofs only [hb, go_sem, hh, seval] <;> try simp only [qz] at hb))
 all_goals first | rfl | omega | exact hpre | exact hpre _ (by assumption) | exact trivial | skip
 ·rw [ED]
  refine congrArg (fun b => T.v (.bool b)) (AW ?_)
  constructor
  ·intro h
   exact ⟨fun s hs => Classical.byContradiction fun q => h ⟨s, hs, q⟩, by omega⟩
  ·rintro h ⟨s, hs, q⟩
   exact q (h.1 s hs)
 ·rw [AO (fun h => by have := h.2; omega)]
end
theorem wX : Maps.Keyed Tryz.prog 37 := Maps.Keyed.of_law (deep_law_laid (m := 5) (by kernel_rfl) (by decide) (Nat.lt_of_lt_of_le (Nat.lt_succ_self 37) (Nat.le_of_ble_eq_true (by kernel_rfl))) (by kernel_rfl) (by kernel_rfl))
noncomputable def Vu : Array Field := match Tryz.prog.underlying 37 with | some (.struct fs) => fs | _ => #[]
theorem wF : Tryz.prog.underlying 37 = some (.struct Vu) := by kernel_rfl
theorem u9 : Tryz.prog.underlying 9 = some .string := by kernel_rfl
theorem nv : (Vu.toList.map fun f => (f.type, f.offset)) = [(9, 0), (9, 1)] := by kernel_rfl
theorem nw : Vu.all (·.name != "_") = true := by kernel_rfl
theorem wa : Tryz.prog.cellsOf 9 = 1 := by kernel_rfl
theorem sD : Tryz.prog.cellsOf 37 = 2 := by kernel_rfl
theorem vv : Tryz.prog.keyType 37 = true := by kernel_rfl
theorem wE : ∃ n, Tryz.prog.types.size + 1 = n + 2 := ⟨Tryz.prog.types.size - 1, by
 have : 37 < Tryz.prog.types.size := Nat.lt_of_lt_of_le (Nat.lt_succ_self 37) (Nat.le_of_ble_eq_true (by kernel_rfl))
 omega⟩
theorem wP (d : Nat) {s : ByteArray} (h : s.size ≤ maxLen) : Tryz.prog.keyLits (d + 1) 9 [.string s] = some [.string s.data.toList] := by
 simp only [Program.keyLits, u9, if_pos h]
theorem sx {k : MK} (h : k.ok (some 2)) : ∃ l, keyOf Tryz.prog 37 k.val = some l := by
 cases k with
 | i n => exact h.elim
 | s b => exact absurd h.1 (by decide)
 | ss l =>
   obtain ⟨h1, h2, _⟩ := h
   obtain ⟨u, d, rfl⟩ : ∃ u d, l = [u, d] := by
    rcases l with _ | ⟨u, _ | ⟨d, _ | ⟨z, t⟩⟩⟩
    ·cases h1
    ·cases h1
    ·exact ⟨u, d, rfl⟩
    ·simp at h1
   obtain ⟨n, hn⟩ := wE
   have hl : Vu.toList.map (fun f => (f.type, f.offset)) = [(9, 0), (9, 1)] := nv
   rcases hf : Vu.toList with _ | ⟨f, _ | ⟨g, _ | ⟨z, t⟩⟩⟩
   ·rw [hf] at hl; cases hl
   ·rw [hf] at hl; simp at hl
   ·rw [hf] at hl
    ·simp only [List.map_cons, List.map_nil, List.cons.injEq, Prod.mk.injEq, and_true] at hl
     obtain ⟨⟨a1, a2⟩, b1, b2⟩ := hl
     refine ⟨.string (keyBytes [.string u.data.toList, .string d.data.toList]), ?_⟩
     have hform : (MK.val (.ss [u, d])).formed Tryz.prog 37 = true := by
      simp only [Value.formed, MK.val, wF, sD]
      rfl
     unfold keyOf
     rw [wF]
     show (if (Tryz.prog.keyType 37 && (MK.val (.ss [u, d])).formed Tryz.prog 37) = true then _ else none) = _
     rw [vv, hform]
     refine (if_pos rfl).trans ?_
     rw [hn]
     have : Tryz.prog.keyLits (n + 2) 37 (MK.val (.ss [u, d])).cells.toList = some [.string u.data.toList, .string d.data.toList] := by
      show Tryz.prog.keyLits (n + 2) 37 [.string u, .string d] = _
      have e1 : [Value.string u, Value.string d].length = Tryz.prog.cellsOf 37 ∧ Vu.all (·.name != "_") = true := ⟨by rw [sD]; rfl, nw⟩
      rw [Program.keyLits.eq_def]
      simp only [wF]
      refine (if_pos e1).trans ?_
      rw [hf]
      simp only [List.mapM_cons, List.mapM_nil, a1, a2, b1, b2, wa, List.drop_zero, List.take_succ_cons, List.take_zero, List.drop_succ_cons, wP n (h2 u (by simp)), wP n (h2 d (by simp))]
      rfl
     rw [this]; rfl
   ·rw [hf] at hl
    simp only [List.map_cons, List.cons.injEq] at hl
    exact absurd hl.2.2 (by simp)
theorem vu : Nw Tryz.prog 37 (some 2) := Nw.ss wX sx
def jV (a : Ad) : MK := .ss [a.user, a.domain]
theorem fd {a b : Ad} (h : jV a = jV b) : a = b := by
 cases a; cases b
 simp only [jV, MK.ss.injEq, List.cons.injEq, and_true] at h
 rw [h.1, h.2]
def dis (xs : List Ad) : List (MK × Bool) := xs.foldl (fun es a => Nl (jV a) true es) []
theorem KA (xs : List Ad) (a : Ad) : dis (xs ++ [a]) = Nl (jV a) true (dis xs) := by simp [dis]
theorem K6 {k : MK} {b : Bool} : ∀ {es : List (MK × Bool)}, (Nl k b es).map Prod.fst = if k ∈ es.map Prod.fst then es.map Prod.fst else es.map Prod.fst ++ [k]
 | [] => by simp [Nl]
 | p :: r => by
   rw [Nl]
   by_cases h : p.1 = k
   ·simp [h]
   ·have hk : ¬ k = p.1 := fun e => h e.symm
    rw [if_neg h, List.map_cons, K6]
    by_cases h2 : k ∈ r.map Prod.fst
    ·rw [if_pos h2, if_pos (by simp only [List.map_cons, List.mem_cons]; exact .inr h2)]; rfl
    ·rw [if_neg h2, if_neg (by simp only [List.map_cons, List.mem_cons]; exact fun e => e.elim hk h2)]; rfl
theorem cn (xs : List Ad) (a : Ad) : jV a ∈ (dis xs).map Prod.fst ↔ a ∈ xs := by
 generalize hr : xs.reverse = r
 have hx : xs = r.reverse := by rw [← hr, List.reverse_reverse]
 subst hx
 clear hr
 induction r with
 | nil => simp [dis]
 | cons b r ih =>
   rw [List.reverse_cons, KA, K6, List.mem_append, ← propext ih]
   by_cases h : jV b ∈ (dis r.reverse).map Prod.fst
   ·rw [if_pos h]
    constructor
    ·exact .inl
    ·rintro (h1 | h1)
     ·exact h1
     ·rw [List.mem_singleton.1 h1]; exact h
   ·rw [if_neg h, List.mem_append, List.mem_singleton, List.mem_singleton]
    exact or_congr_right ⟨fd, fun e => by rw [e]⟩
theorem cm (xs : List Ad) : (dis xs).length ≤ xs.length ∧ ((dis xs).length = xs.length ↔ xs.Nodup) := by
 generalize hr : xs.reverse = r
 have hx : xs = r.reverse := by rw [← hr, List.reverse_reverse]
 subst hx
 clear hr
 induction r with
 | nil => simp [dis]
 | cons b r ih =>
   have hl : ∀ es : List (MK × Bool), es.length = (es.map Prod.fst).length := fun es => by rw [lm]
   have hn : (r.reverse ++ [b]).Nodup ↔ r.reverse.Nodup ∧ b ∉ r.reverse := by
    rw [List.nodup_append]
    constructor
    ·rintro ⟨h1, _, h3⟩
     exact ⟨h1, fun hb => h3 b hb b (by simp) rfl⟩
    ·rintro ⟨h1, h2⟩
     refine ⟨h1, by simp, fun x hx y hy e => ?_⟩
     rw [List.mem_singleton] at hy
     subst hy; subst e; exact h2 hx
   rw [List.reverse_cons, KA, hl, K6, List.length_append, hn, ← cn]
   obtain ⟨i1, i2⟩ := ih
   by_cases h : jV b ∈ (dis r.reverse).map Prod.fst
   ·rw [if_pos h, ← hl]
    refine ⟨by omega, ⟨fun e => ?_, fun e => absurd h e.2⟩⟩
    simp at e i1; omega
   ·rw [if_neg h, List.length_append, ← hl]
    refine ⟨by simp at *; omega, ⟨fun e => ⟨i2.1 (by simp at *; omega), h⟩, fun e => ?_⟩⟩
    have := i2.2 e.1
    simp at *; omega
theorem Rq {xs : List Ad} {i : Nat} (h : i < xs.length) : xs.take (i + 1) = xs.take i ++ [xs.getD i default] := by
 rw [List.take_succ_eq_append_getElem h]
 simp [h]
theorem YY {xs : List Ad} {i : Nat} (h : i < xs.length) : Nl (.ss [(xs.getD i default).user, (xs.getD i default).domain]) true (dis (xs.take i)) = dis (xs.take (i + 1)) := by
 rw [Rq h, KA]; rfl
def rt : Ct := Aq (lc C3.asl l0) (fun p => True) (fun p => .t (.v (.bool (BL p.1.Nodup))))
section
attribute [local go_sem] BN BM Bool.not_true Bool.not_false Br DM Df Dh Dg Di
theorem oc {G : Gt} (hG : Ah G) : Gd G 50 (AA 0 rt) := by
 refine gr (fn := Tryz.f50) (n := 1) rfl rfl hG ?_
 rintro ⟨xs, ⟨⟩⟩ hpre
 simp -implicitDefEqProofs only [Tryz.f50, go_sem, seval] at hpre ⊢
 with_reducible repeat' (first | apply ai | intro _ | ((first | apply s1 | apply s3 | apply s4) <;> intro hb <;> simp -implicitDefEqProofs only [hb, go_sem, seval] <;> try simp only [qz] at hb))
 all_goals first | rfl | omega | skip
 refine AF [] (ι := {i : Nat // i ≤ xs.length}) (fun p => ⟨[(0, .t (.sl 2 (xs.map Ao))), (3, .h 1006), (7, .t (.sl 2 (xs.map Ao))), (8, .t (.v (.int .i64 xs.length))), (9, .t (.v (.int .i64 p.1)))], [(1006, some (.mp (some 2) (dis (xs.take p.1))))]⟩) (fun p => xs.length - p.1) ⟨0, Nat.zero_le _⟩ rfl ?_ ?_
 ·simp -implicitDefEqProofs only [go_sem, seval]
  try simp
  rfl
 ·rintro ⟨i, hi⟩
  by_cases hlt : (i : Int) < xs.length
  ·simp -implicitDefEqProofs only [hlt, go_sem, seval]
   with_reducible repeat' (first | apply ai | intro _ | ((first | apply s1 | apply s3 | apply s4) <;> intro hb <;> simp -implicitDefEqProofs only [hb, go_sem, seval] <;> try simp only [qz] at hb))
   all_goals (try simp only [maxLen] at *)
   all_goals first | rfl | omega | exact vu | skip
   refine ⟨⟨i + 1, by omega⟩, by dsimp only; omega, ?_⟩
   simp -implicitDefEqProofs only [go_sem, seval]
   simp only [tn, YY (show i < xs.length by omega)]
   try simp
  ·simp -implicitDefEqProofs only [hlt, go_sem, seval]
   with_reducible repeat' (first | apply ai | intro _ | ((first | apply s1 | apply s3 | apply s4) <;> intro hb <;> simp -implicitDefEqProofs only [hb, go_sem, seval] <;> try simp only [qz] at hb))
   all_goals first | rfl | omega | skip
   rw [List.take_of_length_le (by omega), ← AW (cm xs).2, BF]
   refine congrArg (fun b => T.v (.bool b)) (decide_eq_decide.2 ?_)
   omega
end
theorem B2 {α : Type} [Inhabited α] (enc : α → List T) {xs : List α} {i : Nat} (h : i < xs.length) : (xs.take (i + 1)).map enc = (xs.take i).map enc ++ [enc (xs.getD i default)] := by
 rw [List.take_succ_eq_append_getElem h, List.map_append, List.map_cons, List.map_nil]
 simp only [List.getD_eq_getElem?_getD, List.getElem?_eq_getElem h, Option.getD_some]
theorem JC {α : Type} {enc : α → List T} {xs : List α} {k : Nat} : (xs.map enc).take k = (xs.take k).map enc := List.map_take.symm
theorem I4 {α : Type} {enc : α → List T} {xs : List α} {k : Nat} : (xs.map enc).drop k = (xs.drop k).map enc := List.map_drop.symm
def N2 (r : Rc) : Prop := BJ r.addr ∧ (0 ≤ r.tries ∧ r.tries ≤ 3) ∧ (0 ≤ r.next ∧ r.next ≤ 9999)
def DX (x : Im) : Prop := (∀ r ∈ x.to, N2 r) ∧ (x.to.map Rc.addr).Nodup ∧ 0 < x.id ∧ (BJ x.frm ∨ AZ x.frm) ∧ (1 ≤ x.to.length ∧ x.to.length ≤ 4) ∧ DW x.body
def ux (xs : List Im) : Prop := ∀ j, 0 < j → j < xs.length → (xs.getD (j - 1) default).id < (xs.getD j default).id
def CO (s : Sp) : Prop := (∀ x ∈ s.items, DX x ∧ x.id ≤ s.last) ∧ ux s.items ∧ (0 ≤ s.last ∧ s.last ≤ 999) ∧ s.items.length ≤ 10
theorem RL {xs : List Rc} (h : ∀ j, j < xs.length → ∀ k, k < j → ¬ (xs.getD k default).addr = (xs.getD j default).addr) : (xs.map Rc.addr).Nodup := by
 rw [List.nodup_iff_pairwise_ne, List.pairwise_iff_getElem]
 intro k j hk hj hkj
 rw [lm] at hk hj
 have := h j hj k hkj
 simpa [hk, hj] using this
theorem QV {xs : List Rc} (h : (xs.map Rc.addr).Nodup) {k i : Nat} (hk : k < i) (hi : i < xs.length) : ¬ (xs.getD k default).addr = (xs.getD i default).addr := fun e => by
 have q1 : k < xs.length := by omega
 simp only [List.getD_eq_getElem?_getD, List.getElem?_eq_getElem q1, List.getElem?_eq_getElem hi, Option.getD_some] at e
 exact List.pairwise_iff_getElem.1 (List.nodup_iff_pairwise_ne.1 h) k i (by simpa using q1) (by simpa using hi) hk (by simpa using e)
def li : Ct := Aq (lc Wu.ag l0) (fun p => True) (fun p => .t (.v (.bool (BL (N2 p.1)))))
section
attribute [local go_sem] IE J5
theorem d5 {G : Gt} (hG : Ah G) (hh : G.e 106 = AA 0 IE ∧ G.e 69 = AA 0 J5) : Gd G 163 (AA 0 li) := by
 refine gr (fn := Tryz.f163) (n := 1) rfl rfl hG ?_
 rintro ⟨r, ⟨⟩⟩ hpre
 simp -implicitDefEqProofs only [Tryz.f163, go_sem, hh, seval] at hpre ⊢
 with_reducible repeat' (first | apply ai | intro _ | ((first | apply s1 | apply s3 | apply s4) <;> intro hb <;> simp -implicitDefEqProofs only [hb, go_sem, hh, seval] <;> try simp only [qz] at hb))
 all_goals first
  | rfl
  | omega
  | exact congrArg (fun b => T.v (Value.bool b)) (AW ⟨fun h => ⟨by assumption, by assumption, h⟩, fun h => h.2.2⟩)
  | (rw [AO (fun h => absurd h.1 (by assumption))]; done)
  | (rw [AO (fun h => absurd h.2.1 (by assumption))]; done)
end
def lO : Ct := Aq (lc Ia.ag l0) (fun p => True) (fun p => .t (.v (.bool (BL (DX p.1)))))
section
attribute [local go_sem] IE J5 li IF Mj lm
set_option maxHeartbeats 800000 in
theorem db {G : Gt} (hG : Ah G) (hh : G.e 106 = AA 0 IE ∧ G.e 69 = AA 0 J5 ∧ G.e 163 = AA 0 li ∧ G.e 119 = AA 0 IF ∧ G.e 120 = AA 0 Mj) : Gd G 135 (AA 0 lO) := by
 refine gr (fn := Tryz.f135) (n := 1) rfl rfl hG ?_
 rintro ⟨x, ⟨⟩⟩ hpre
 simp -implicitDefEqProofs only [Tryz.f135, go_sem, hh, seval] at hpre ⊢
 have hbox : ∀ y : Im, Ob.box [AV.t (T.v (Value.int IntKind.i64 y.id)), AV.t (T.v (Value.string y.frm.user)), AV.t (T.v (Value.string y.frm.domain)), AV.t (T.sl 4 (List.map BO y.to)), AV.t (T.sl 1 (List.map AH y.body))] = Ob.box ((Az y).map .t) := fun _ => rfl
 refine AF [] (ι := {i : Nat // i ≤ x.to.length ∧ (∀ j, j < i → N2 (x.to.getD j default)) ∧ ∀ j, j < i → ∀ k, k < j → ¬ (x.to.getD k default).addr = (x.to.getD j default).addr}) (fun p => ⟨[(1, .pb 1001 0), (3, .t (.v (.int .i64 p.1)))], [(1001, some (.box ((Az x).map .t)))]⟩) (fun p => x.to.length - p.1) ⟨0, by simp, by simp, by simp⟩ rfl ?_ ?_
 ·simp -implicitDefEqProofs only [go_sem, hh, seval]
  try simp
 ·rintro ⟨i, hi, hall, hno⟩
  simp -implicitDefEqProofs only [go_sem, hh, seval]
  with_reducible repeat' (first | apply ai | intro _ | ((first | apply s1 | apply s3 | apply s4) <;> intro hb <;> simp -implicitDefEqProofs only [hb, go_sem, hh, seval] <;> try simp only [qz] at hb))
  all_goals (try simp only [maxLen, tn, lm] at *)
  all_goals first | rfl | omega | skip
  ·rw [AO (fun h => hb (h.1 _ (AE (by omega))))]
  ·refine AF [] (ι := {k : Nat // k ≤ i ∧ ∀ j, j < k → ¬ (x.to.getD j default).addr = (x.to.getD i default).addr}) (fun p => ⟨[(1, .pb 1001 0), (3, .t (.v (.int .i64 i))), (4, .t (.v (.int .i64 p.1)))], [(1001, some (.box ((Az x).map .t)))]⟩) (fun p => i - p.1) ⟨0, by simp, by simp⟩ rfl ?_ ?_
   ·simp -implicitDefEqProofs only [go_sem, hh, seval]
    try simp
   ·rintro ⟨k, hk, hk2⟩
    simp -implicitDefEqProofs only [go_sem, hh, seval]
    with_reducible repeat' (first | apply ai | intro _ | ((first | apply s1 | apply s3 | apply s4) <;> intro hb <;> simp -implicitDefEqProofs only [hb, go_sem, hh, seval] <;> try simp only [qz] at hb))
    all_goals (try simp only [maxLen, tn, lm] at *)
    all_goals first | rfl | omega | skip
    ·have e : (x.to.getD k default).addr = (x.to.getD i default).addr := B5.2 (by simpa using hb)
     rw [AO (fun h => QV h.2.1 (by omega) (by omega) e)]
    ·refine ⟨⟨k + 1, by omega, fun j hj => ?_⟩, by dsimp only; omega, ?_⟩
     ·by_cases e : j = k
      ·subst e; exact pq hb
      ·exact hk2 j (by omega)
     ·simp -implicitDefEqProofs only [go_sem, hh, seval]
      try simp
    ·refine ⟨⟨i + 1, by omega, DI hall (by assumption), fun j hj q hq => ?_⟩, by dsimp only; omega, ?_⟩
     ·by_cases e : j = i
      ·subst e; exact hk2 q (by omega)
      ·exact hno j (by omega) q hq
     ·simp -implicitDefEqProofs only [go_sem, hh, seval]
      try simp
  all_goals have hA : ∀ r ∈ x.to, N2 r := BR fun j hj => hall j (by omega)
  all_goals have hN : (x.to.map Rc.addr).Nodup := RL fun j hj q hq => hno j (by omega) q hq
  all_goals first
   | (rw [AW]
      exact ⟨fun h => ⟨hA, hN, by first | assumption | omega, by first | exact .inl (by assumption) | exact .inr (by assumption), by omega, h⟩, fun h => h.2.2.2.2.2⟩)
   | (rw [AO]
      intro h
      first
       | (have := h.2.2.1; omega)
       | (have := h.2.2.2.2.1; omega)
       | (rcases h.2.2.2.1 with h | h <;> contradiction))
end
def va : Ct := Aq (lc We.ag l0) (fun p => True) (fun p => .t (.v (.bool (BL (CO p.1)))))
section
attribute [local go_sem] lO J5 lm Bool.not_true Bool.not_false
set_option maxHeartbeats 1600000 in
theorem pL {G : Gt} (hG : Ah G) (hh : G.e 135 = AA 0 lO ∧ G.e 69 = AA 0 J5) : Gd G 87 (AA 0 va) := by
 refine gr (fn := Tryz.f87) (n := 1) rfl rfl hG ?_
 rintro ⟨s, ⟨⟩⟩ hpre
 simp -implicitDefEqProofs only [Tryz.f87, go_sem, hh, seval] at hpre ⊢
 refine AF [] (ι := {i : Nat // i ≤ s.items.length ∧ (∀ j, j < i → DX (s.items.getD j default) ∧ (s.items.getD j default).id ≤ s.last) ∧ ∀ j, 0 < j → j < i → (s.items.getD (j - 1) default).id < (s.items.getD j default).id}) (fun p => ⟨[(1, .pb 1001 0), (3, .t (.v (.int .i64 p.1)))], [(1001, some (.box ((FU s).map .t)))]⟩) (fun p => s.items.length - p.1) ⟨0, by simp, by simp, by simp⟩ rfl ?_ ?_
 ·simp -implicitDefEqProofs only [go_sem, hh, seval]
  try simp
 ·rintro ⟨i, hi, hall, hasc⟩
  by_cases hlt : (i : Int) < s.items.length
  ·simp -implicitDefEqProofs only [hlt, decide_true, go_sem, hh, seval]
   with_reducible repeat' (first | apply ai | intro _ | ((first | apply s1 | apply s3 | apply s4) <;> intro hb <;> simp -implicitDefEqProofs only [hb, go_sem, hh, seval] <;> try simp only [qz] at hb))
   all_goals (try simp only [maxLen, tn, lm] at *)
   all_goals first | rfl | omega | skip
   all_goals (try rw [show ((i : Int) - 1).toNat = i - 1 from by omega] at hb)
   all_goals first
    | (rw [AO (fun h => by have h1 := h.1 _ (AE (xs := s.items) (j := i) (by omega)); first | exact hb h1.1 | omega)]; done)
    | (rw [AO (fun h => by have h1 := h.2.1 i (by omega) (by omega); omega)]; done)
    | skip
   all_goals
    refine ⟨⟨i + 1, by omega, DI (P := fun x : Im => DX x ∧ x.id ≤ s.last) hall ⟨by assumption, by omega⟩, fun j h0 hj => ?_⟩, by dsimp only; omega, ?_⟩
    ·by_cases e : j = i
     ·subst e; omega
     ·exact hasc j h0 (by omega)
    ·simp -implicitDefEqProofs only [go_sem, hh, seval]
     try simp
  ·simp -implicitDefEqProofs only [hlt, decide_false, go_sem, hh, seval]
   with_reducible repeat' (first | apply ai | intro _ | ((first | apply s1 | apply s3 | apply s4) <;> intro hb <;> simp -implicitDefEqProofs only [hb, go_sem, hh, seval] <;> try simp only [qz] at hb))
   all_goals (try simp only [maxLen, tn, lm] at *)
   all_goals first | rfl | omega | skip
   ·refine congrArg (fun b => T.v (Value.bool b)) ?_
    rw [← BF, AW]
    exact ⟨fun h => ⟨BR fun j hj => hall j (by omega), fun j h0 hj => hasc j h0 (by omega), hb, by omega⟩, fun h => by have := h.2.2.2; omega⟩
   ·rw [AO (fun h => hb h.2.2.1)]
end
def cP : Ct := Aq (lc We.ag (lc BI l0)) (fun p => True) (fun p => .t (.v (.int .i64 (A5 (fun x : Im => x.id = p.2.1) 0 p.1.items))))
section
attribute [local go_sem] lm
theorem oO {G : Gt} (hG : Ah G) : Gd G 38 (AA 0 cP) := by
 refine gr (fn := Tryz.f38) (n := 2) rfl rfl hG ?_
 rintro ⟨s, n, ⟨⟩⟩ hpre
 simp -implicitDefEqProofs only [Tryz.f38, go_sem, seval] at hpre ⊢
 refine AF [] (ι := {i : Nat // i ≤ s.items.length ∧ A5 (fun x : Im => x.id = n) 0 s.items = A5 (fun x : Im => x.id = n) i (s.items.drop i)}) (fun p => ⟨[(1, .t (.v (.int .i64 n))), (2, .pb 1002 0), (5, .t (.v (.int .i64 p.1)))], [(1002, some (.box ((FU s).map .t)))]⟩) (fun p => s.items.length - p.1) ⟨0, by simp, rfl⟩ rfl ?_ ?_
 ·simp -implicitDefEqProofs only [go_sem, seval]
  try simp
 ·rintro ⟨i, hi, hix⟩
  simp -implicitDefEqProofs only [go_sem, seval]
  with_reducible repeat' (first | apply ai | intro _ | ((first | apply s1 | apply s3 | apply s4) <;> intro hb <;> simp -implicitDefEqProofs only [hb, go_sem, seval] <;> try simp only [qz] at hb))
  all_goals (try simp only [maxLen, tn, lm] at *)
  all_goals first | rfl | omega | skip
  ·rw [hix, Cs (p := fun x : Im => x.id = n) (by omega) hb]
  ·refine ⟨⟨i + 1, by omega, by rw [hix, Du (p := fun x : Im => x.id = n) (by omega) hb]⟩, by dsimp only; omega, ?_⟩
   simp -implicitDefEqProofs only [go_sem, seval]
   try simp
  ·rw [hix, Cr (by omega)]
end
def mF : Ct := Aq (lc Ia.ag (lc C3.ag l0)) (fun p => True) (fun p => .t (.v (.int .i64 (A5 (fun r : Rc => r.addr = p.2.1) 0 p.1.to))))
section
attribute [local go_sem] lm
theorem ea {G : Gt} (hG : Ah G) : Gd G 201 (AA 0 mF) := by
 refine gr (fn := Tryz.f201) (n := 2) rfl rfl hG ?_
 rintro ⟨x, a, ⟨⟩⟩ hpre
 simp -implicitDefEqProofs only [Tryz.f201, go_sem, seval] at hpre ⊢
 refine AF [] (ι := {i : Nat // i ≤ x.to.length ∧ A5 (fun r : Rc => r.addr = a) 0 x.to = A5 (fun r : Rc => r.addr = a) i (x.to.drop i)}) (fun p => ⟨[(2, .pb 1002 0), (3, .pb 1003 0), (5, .t (.v (.int .i64 p.1)))], [(1002, some (.box ((Az x).map .t))), (1003, some (.box ((Ao a).map .t)))]⟩) (fun p => x.to.length - p.1) ⟨0, by simp, rfl⟩ rfl ?_ ?_
 ·simp -implicitDefEqProofs only [go_sem, seval]
  try simp
 ·rintro ⟨i, hi, hix⟩
  simp -implicitDefEqProofs only [go_sem, seval]
  with_reducible repeat' (first | apply ai | intro _ | ((first | apply s1 | apply s3 | apply s4) <;> intro hb <;> simp -implicitDefEqProofs only [hb, go_sem, seval] <;> try simp only [qz] at hb))
  all_goals (try simp only [maxLen, tn, lm] at *)
  all_goals first | rfl | omega | skip
  ·rw [hix, Cs (p := fun r : Rc => r.addr = a) (by omega) (B5.2 (by simpa using hb))]
  ·refine ⟨⟨i + 1, by omega, by rw [hix, Du (p := fun r : Rc => r.addr = a) (by omega) (pq hb)]⟩, by dsimp only; omega, ?_⟩
   simp -implicitDefEqProofs only [go_sem, seval]
   try simp
  ·rw [hix, Cr (by omega)]
end
def Qf : Ct := Aq (lc Ia.ag l0) (fun p => GH p.1) (fun p => qI p.1)
section
attribute [local go_sem] lm List.map_nil List.length_nil List.nil_append Nat.zero_add
theorem dr {G : Gt} (hG : Ah G) : Gd G 149 (AA 0 Qf) := by
 refine gr (fn := Tryz.f149) (n := 1) rfl rfl hG ?_ (hs := fun _ p => RY _)
 rintro ⟨x, ⟨⟩⟩ hpre
 simp -implicitDefEqProofs only [Tryz.f149, go_sem, seval] at hpre ⊢
 obtain ⟨_, ⟨h1, _⟩, ⟨h2, _⟩⟩ := hpre
 with_reducible repeat' (first | apply ai | intro _ | ((first | apply s1 | apply s3 | apply s4) <;> intro hb <;> simp -implicitDefEqProofs only [hb, go_sem, seval] <;> try simp only [qz] at hb))
 all_goals (try simp only [maxLen, lm, List.length_nil] at *)
 all_goals first | rfl | omega | (simp_all; done) | skip
end
def Xk : Ct := Aq (lc We.ag l0) (fun p => GI p.1) (fun p => aD p.1)
section
attribute [local go_sem] Qf lm List.length_append List.length_cons List.length_nil List.map_append List.mem_singleton forall_eq AS.nilb AS.renb Bool.not_false Bool.not_true List.set_cons_zero List.set_cons_succ List.set_nil
set_option maxHeartbeats 1600000 in
theorem dL {G : Gt} (hG : Ah G) (hh : G.e 149 = AA 0 Qf) : Gd G 118 (AA 0 Xk) := by
 refine Nh (dp := fun n => !(Nat.beq n 100002 || Nat.beq n 100004)) (fn := Tryz.f118) (n := 1) rfl rfl hG ?_ (hs := fun _ p => Ra _)
 rintro ⟨s, ⟨⟩⟩ hpre
 simp -implicitDefEqProofs only [Tryz.f118, go_sem, hh, seval] at hpre ⊢
 have hpre' : HG GH s.items := hpre
 with_reducible repeat' (first | apply ai | intro _ | ((first | apply s1 | apply s3 | apply s4) <;> intro hb <;> simp -implicitDefEqProofs only [hb, go_sem, hh, seval] <;> try simp only [qz] at hb))
 all_goals first | rfl | skip
 refine Ag (Le.nilb 1003 1 1901 true 5 rfl rfl rfl) (Ab ?_)
 simp -implicitDefEqProofs only [go_sem, hh, seval]
 refine AF [] (ι := {i : Nat // i ≤ s.items.length}) (fun p => ⟨[(1, .pb 1001 0), (2, .pb 1002 0), (3, .pb 1003 0), (4, .t (.v (.int .i64 p.1)))], [(1001, some (.box ((FU s).map .t))), (1002, some (.box [.t (.v (.int .i64 0)), .nil])), (1003, some (.box [.t (.v (.int .i64 s.last)), .h 1901])), (1901, some (.arr true 5 ((s.items.take p.1).map Az)))]⟩) (fun p => s.items.length - p.1) ⟨0, by simp⟩ rfl ?_ ?_
 ·simp -implicitDefEqProofs only [go_sem, hh, seval]
  try simp
 ·rintro ⟨i, hi⟩
  by_cases hlt : (i : Int) < s.items.length
  ·have hok := hpre'.at (i := i) (by omega)
   have hlen : (s.items.take i).length = i := by simp; omega
   have hmax := hpre'.1
   simp -implicitDefEqProofs only [hlt, decide_true, tn, go_sem, hh, seval]
   with_reducible repeat' (first | apply ai | intro _ | ((first | apply s1 | apply s3 | apply s4) <;> intro hb <;> simp -implicitDefEqProofs only [hb, go_sem, hh, seval] <;> try simp only [qz] at hb))
   all_goals (try simp only [maxLen] at *)
   all_goals first | rfl | omega | assumption | decide | skip
   refine Ag (Le.renb 1003 1 1024 1901 rfl rfl rfl rfl) (Ab ?_)
   simp -implicitDefEqProofs only [go_sem, hh, seval]
   with_reducible repeat' (first | apply ai | intro _ | ((first | apply s1 | apply s3 | apply s4) <;> intro hb <;> simp -implicitDefEqProofs only [hb, go_sem, hh, seval] <;> try simp only [qz] at hb))
   all_goals first | rfl | omega | decide | skip
   refine ⟨⟨i + 1, by omega⟩, by dsimp only; omega, ?_⟩
   simp -implicitDefEqProofs only [go_sem, hh, seval]
   simp only [B2 Az (show i < s.items.length by omega)]
   with_reducible repeat' (first | apply ai | intro _ | ((first | apply s1 | apply s3 | apply s4) <;> intro hb <;> simp -implicitDefEqProofs only [hb, go_sem, hh, seval] <;> try simp only [qz] at hb))
   all_goals first | rfl | (simp; done)
  ·simp -implicitDefEqProofs only [hlt, decide_false, go_sem, hh, seval]
   with_reducible repeat' (first | apply ai | intro _ | ((first | apply s1 | apply s3 | apply s4) <;> intro hb <;> simp -implicitDefEqProofs only [hb, go_sem, hh, seval] <;> try simp only [qz] at hb))
   all_goals first | rfl | omega | skip
   rw [List.take_of_length_le (by omega)]
end
def IJ (x : Im) (k : Nat) : Im := ⟨x.id, x.frm, x.to.take k ++ x.to.drop (k + 1), x.body⟩
def Wk (xs : List Im) (i k : Nat) : List Im := if (IJ (xs.getD i default) k).to = [] then xs.take i ++ xs.drop (i + 1) else xs.take i ++ (IJ (xs.getD i default) k :: xs.drop (i + 1))
def DJ (s : Sp) (i k : Nat) : Sp := ⟨s.last, Wk s.items i k⟩
def Qg : Ct := Aq (lc We.ag (lc BI (lc BI l0))) (fun p => GI p.1 ∧ 0 ≤ p.2.1 ∧ p.2.1 < p.1.items.length ∧ 0 ≤ p.2.2.1 ∧ p.2.2.1 < (p.1.items.getD p.2.1.toNat default).to.length) (fun p => .agg ((FU (DJ p.1 p.2.1.toNat p.2.2.1.toNat)).map .t))
section
attribute [local go_sem] Qf JC I4 List.take_length List.drop_zero List.length_take List.length_drop lm List.length_append List.length_cons List.length_nil List.map_append List.map_nil List.map_cons List.nil_append Nat.zero_add List.mem_singleton forall_eq Bool.not_true Bool.not_false
set_option maxHeartbeats 1600000 in
theorem d8 {G : Gt} (hG : Ah G) (hh : G.e 149 = AA 0 Qf) : Gd G 166 (AA 1 Qg) := by
 refine Nh (dp := fun n => Nat.ble 100000 n && !(Nat.beq n 100002)) (fn := Tryz.f166) (n := 3) rfl rfl hG ?_
 rintro ⟨s, i, k, ⟨⟩⟩ hpre
 obtain ⟨hok, hi0, hi1, hk0, hk1⟩ := hpre
 dsimp only at hi0 hi1 hk0 hk1 ⊢
 obtain ⟨ni, rfl⟩ := Int.eq_ofNat_of_zero_le hi0
 obtain ⟨nk, rfl⟩ := Int.eq_ofNat_of_zero_le hk0
 have hok' : HG GH s.items := hok
 simp only [tn] at hk1 ⊢
 have hx := hok'.at (i := ni) (by omega)
 have hmax := hok'.1
 have hmx : ((s.items.getD ni default).to.length : Int) ≤ 1048576 := hx.2.1.1
 have hi2 : ni < s.items.length := by omega
 have hk2 : nk < (s.items.getD ni default).to.length := by omega
 have e1 : ((ni : Int) + 1).toNat = ni + 1 := by omega
 have e2 : ((nk : Int) + 1).toNat = nk + 1 := by omega
 simp -implicitDefEqProofs only [Tryz.f166, tn, go_sem, hh, seval]
 with_reducible repeat' (first | apply ai | intro _ | ((first | apply s1 | apply s3 | apply s4) <;> intro hb <;> simp -implicitDefEqProofs only [hb, go_sem, hh, seval] <;> try simp only [qz] at hb))
 all_goals first | rfl | omega | assumption | decide | skip
 refine Ag (Le.frzL [1014]) (Ab ?_)
 simp -implicitDefEqProofs only [go_sem, hh, seval]
 with_reducible repeat' (first | apply ai | intro _ | ((first | apply s1 | apply s3 | apply s4) <;> intro hb <;> simp -implicitDefEqProofs only [hb, go_sem, hh, seval] <;> try simp only [qz] at hb))
 all_goals (try simp only [maxLen, e1, e2, tn, List.take_length, List.drop_zero] at *)
 all_goals first | rfl | omega | assumption | decide | skip
 all_goals
  refine congrArg (T.sl 5) ?_
  simp only [DJ, Wk]
  first
   | (rw [if_neg (fun e => by have := congrArg List.length e; simp only [IJ, List.length_append, List.length_take, List.length_drop, List.length_nil] at this; omega)]; simp [IJ, Az]; done)
   | (rw [if_pos (List.eq_nil_of_length_eq_zero (by simp only [IJ, List.length_append, List.length_take, List.length_drop]; omega))]; simp; done)
   | skip
end
theorem F6 {α : Type} (p : α → Prop) : ∀ (xs : List α) (k : Nat), A5 p k xs = -1 ∨ ((k : Int) ≤ A5 p k xs ∧ A5 p k xs < k + xs.length)
 | [], _ => .inl rfl
 | x :: t, k => by
   rw [A5]
   cases BL (p x)
   ·rcases F6 p t (k + 1) with h | h
    ·exact .inl h
    ·simp only [cond_false, List.length_cons]; right; omega
   ·simp only [cond_true, List.length_cons]; right; omega
noncomputable def Ax (s : Sp) (n : Int) : Int := A5 (fun x : Im => x.id = n) 0 s.items
noncomputable def B3 (x : Im) (a : Ad) : Int := A5 (fun r : Rc => r.addr = a) 0 x.to
noncomputable def Ai (s : Sp) (n : Int) : Im := s.items.getD (Ax s n).toNat default
open Classical in
noncomputable def Se (s : Sp) (n : Int) (a : Ad) : Sp × Bool :=
 if CO s then (if Ax s n < 0 then (s, false) else if B3 (Ai s n) a < 0 then (s, false) else (DJ s (Ax s n).toNat (B3 (Ai s n) a).toNat, true)) else (⟨0, []⟩, false)
def fz (p : Sp × Bool) : AV := .tup [.agg ((FU p.1).map .t), .t (.v (.bool p.2))]
theorem bm {s : Sp} {n : Int} {a : Ad} (h : CO s) (hi : ¬ Ax s n < 0) (hk : ¬ B3 (Ai s n) a < 0) : Se s n a = (DJ s (Ax s n).toNat (B3 (Ai s n) a).toNat, true) := by unfold Se; rw [if_pos h, if_neg hi, if_neg hk]
theorem Bg {s : Sp} {n : Int} (h : ¬ Ax s n < 0) : 0 ≤ Ax s n ∧ Ax s n < s.items.length := by
 rcases F6 (fun x : Im => x.id = n) s.items 0 with h1 | h1
 ·have : Ax s n = -1 := h1
  omega
 ·have : Ax s n < (0 : Nat) + s.items.length := h1.2
  omega
theorem HR {x : Im} {a : Ad} (h : ¬ B3 x a < 0) : 0 ≤ B3 x a ∧ B3 x a < x.to.length := by
 rcases F6 (fun r : Rc => r.addr = a) x.to 0 with h1 | h1
 ·have : B3 x a = -1 := h1
  omega
 ·have : B3 x a < (0 : Nat) + x.to.length := h1.2
  omega
def bT (t : Int) : Int := 2 * 2 ^ (t - 1).toNat
theorem NQ {a b : Nat} (h : a ≤ b) : (2 : Int) ^ a ≤ 2 ^ b := by
 have h1 := Nat.pow_le_pow_right (n := 2) (by omega) h
 have e : ∀ k : Nat, ((2 ^ k : Nat) : Int) = 2 ^ k := fun k => by simp
 rw [← e, ← e]
 omega
theorem aI {t : Int} {m : Nat} (h : t ≤ m + 1) : 2 ≤ bT t ∧ bT t ≤ 2 * 2 ^ m := by
 unfold bT
 have h1 : (2 : Int) ^ (t - 1).toNat ≤ 2 ^ m := NQ (by omega)
 have h2 : (2 : Int) ^ 0 ≤ 2 ^ (t - 1).toNat := NQ (by omega)
 simp only [Int.pow_zero] at h2
 omega
def V1 (r : Rc) (w : Int) : Rc := ⟨r.addr, r.tries + 1, w + bT (r.tries + 1)⟩
def RH (x : Im) (k : Nat) (w : Int) : Im := ⟨x.id, x.frm, x.to.set k (V1 (x.to.getD k default) w), x.body⟩
def PN (s : Sp) (i k : Nat) (w : Int) : Sp := ⟨s.last, s.items.set i (RH (s.items.getD i default) k w)⟩
def NB (r : Rc) (w : Int) : Prop := r.tries + 1 ≥ 4 ∨ w + bT (r.tries + 1) > 9999
instance (r : Rc) (w : Int) : Decidable (NB r w) := by unfold NB; infer_instance
def Jo (s : Sp) (i k : Nat) (w : Int) : Sp × Bool := if NB ((s.items.getD i default).to.getD k default) w then (s, false) else (PN s i k w, true)
def lx : Ct := Aq (lc BI l0) (fun p => p.1 ≤ 40) (fun p => .t (.v (.int .i64 (bT p.1))))
theorem eK {G : Gt} (hG : Ah G) : Gd G 183 (AA 0 lx) := by
 refine gr (fn := Tryz.f183) (n := 1) rfl rfl hG ?_
 rintro ⟨t, ⟨⟩⟩ hpre
 simp -implicitDefEqProofs only [Tryz.f183, go_sem, seval] at hpre ⊢
 refine AF [] (ι := {j : Nat // j ≤ (t - 1).toNat}) (fun p => ⟨[(0, .t (.v (.int .i64 t))), (3, .t (.v (.int .i64 (2 * 2 ^ p.1)))), (4, .t (.v (.int .i64 (p.1 + 1))))], []⟩) (fun p => (t - 1).toNat - p.1) ⟨0, by simp⟩ rfl ?_ ?_
 ·simp -implicitDefEqProofs only [go_sem, seval]
  try simp
 ·rintro ⟨j, hj⟩
  have hb : (2 : Int) ^ j ≤ 2 ^ 40 := NQ (by omega)
  have hp : (0 : Int) ≤ 2 ^ j := Int.le_of_lt (Int.pow_pos (by omega))
  have h40 : (2 : Int) ^ 40 = 1099511627776 := by decide
  simp -implicitDefEqProofs only [go_sem, seval]
  with_reducible repeat' (first | apply ai | intro _ | ((first | apply s1 | apply s3 | apply s4) <;> intro hb <;> simp -implicitDefEqProofs only [hb, go_sem, seval] <;> try simp only [qz] at hb))
  all_goals first | rfl | omega | skip
  ·refine ⟨⟨j + 1, by omega⟩, by dsimp only; omega, ?_⟩
   simp -implicitDefEqProofs only [go_sem, seval]
   with_reducible repeat' (first | apply ai | intro _ | ((first | apply s1 | apply s3 | apply s4) <;> intro hb <;> simp -implicitDefEqProofs only [hb, go_sem, seval] <;> try simp only [qz] at hb))
   all_goals first | rfl | (simp; omega) | (refine congrArg (fun z => AV.t (T.v (Value.int .i64 z))) ?_; rw [Int.pow_succ]; omega) | (refine congrArg (fun z => AV.t (T.v (Value.int .i64 z))) ?_; simp; done)
  ·rw [show bT t = 2 * 2 ^ j from by unfold bT; rw [show (t - 1).toNat = j from by omega]]
def Xo : Ct := Aq (lc We.ag (lc BI (lc BI (lc BI l0)))) (fun p => GI p.1 ∧ CO p.1 ∧ (0 ≤ p.2.1 ∧ p.2.1 < p.1.items.length) ∧ (0 ≤ p.2.2.1 ∧ p.2.2.1 < (p.1.items.getD p.2.1.toNat default).to.length) ∧ 0 ≤ p.2.2.2.1 ∧ p.2.2.2.1 ≤ 9999) (fun p => fz (Jo p.1 p.2.1.toNat p.2.2.1.toNat p.2.2.2.1))
section
attribute [local go_sem] Qf lx JC I4 List.take_length List.drop_zero List.length_take List.length_drop lm List.length_append List.length_cons List.length_nil List.map_append List.map_nil List.map_cons List.nil_append Nat.zero_add List.mem_singleton forall_eq Bool.not_true Bool.not_false fz PN AY BZ List.length_set
set_option maxHeartbeats 1600000 in
theorem d9 {G : Gt} (hG : Ah G) (hh : G.e 149 = AA 0 Qf ∧ G.e 183 = AA 0 lx) : Gd G 167 (AA 1 Xo) := by
 refine Nh (dp := fun n => Nat.ble 100000 n) (fn := Tryz.f167) (n := 4) rfl rfl hG ?_
 rintro ⟨s, i, k, w, ⟨⟩⟩ hpre
 dsimp only at hpre ⊢
 obtain ⟨hok, hsp, ⟨hi0, hi1⟩, ⟨hk0, hk1⟩, hw0, hw1⟩ := hpre
 obtain ⟨ni, rfl⟩ := Int.eq_ofNat_of_zero_le hi0
 obtain ⟨nk, rfl⟩ := Int.eq_ofNat_of_zero_le hk0
 have hok' : HG GH s.items := hok
 simp only [tn] at hk1 ⊢
 have hx := hok'.at (i := ni) (by omega)
 have hmax := hok'.1
 have hmx : ((s.items.getD ni default).to.length : Int) ≤ 1048576 := hx.2.1.1
 have hi2 : ni < s.items.length := by omega
 have hk2 : nk < (s.items.getD ni default).to.length := by omega
 have hk3 : nk < ((s.items.getD ni default).to.map BO).length := by rw [lm]; exact hk2
 have hr := (hsp.1 _ (AE hi2)).1.1 _ (AE hk2)
 obtain ⟨_, ⟨ht0, ht1⟩, _⟩ := hr
 obtain ⟨hp0, hp1⟩ := aI (t := ((s.items.getD ni default).to.getD nk default).tries + 1) (m := 3) (by omega)
 have h8 : (2 : Int) * 2 ^ 3 = 16 := by decide
 by_cases hno : NB ((s.items.getD ni default).to.getD nk default) w
 ·unfold Jo
  rw [if_pos hno]
  rcases hno with hno | hno
  ·simp -implicitDefEqProofs only [Tryz.f167, tn, hno, decide_true, go_sem, hh, seval]
   with_reducible repeat' (first | apply ai | intro _ | ((first | apply s1 | apply s3 | apply s4) <;> intro hb <;> simp -implicitDefEqProofs only [hb, go_sem, hh, seval] <;> try simp only [qz] at hb))
   all_goals first | rfl | omega | assumption | decide | skip
   all_goals trace_state
  ·simp -implicitDefEqProofs only [Tryz.f167, tn, hno, decide_true, go_sem, hh, seval]
   with_reducible repeat' (first | apply ai | intro _ | ((first | apply s1 | apply s3 | apply s4) <;> intro hb <;> simp -implicitDefEqProofs only [hb, go_sem, hh, seval] <;> try simp only [qz] at hb))
   all_goals first | rfl | omega | assumption | decide | skip
   all_goals trace_state
 ·unfold Jo
  rw [if_neg hno]
  have hno1 : ¬ ((s.items.getD ni default).to.getD nk default).tries + 1 ≥ 4 := fun h => hno (.inl h)
  have hno2 : ¬ w + bT (((s.items.getD ni default).to.getD nk default).tries + 1) > 9999 := fun h => hno (.inr h)
  simp -implicitDefEqProofs only [Tryz.f167, tn, OC hk3, hno1, hno2, decide_false, go_sem, hh, seval]
  with_reducible repeat' (first | apply ai | intro _ | ((first | apply s1 | apply s3 | apply s4) <;> intro hb <;> simp -implicitDefEqProofs only [hb, go_sem, hh, seval] <;> try simp only [qz] at hb))
  all_goals first | rfl | omega | assumption | decide | skip
  refine congrArg (T.sl 5) ?_
  rw [qQ, qP]
  rfl
end
section
variable {s : Sp} {n : Int} {a : Ad} {w : Int}
end
theorem Mb {s : AS} {K : Kt} : Sz [] false s K = (K (.t (.v (.bool true))) s ∧ K (.t (.v (.bool false))) s) := propext ⟨fun h => ⟨h.1 rfl, h.2⟩, fun h => ⟨fun _ => h.1, h.2⟩⟩
theorem Ma {e : List T} {es : List (List T)} {s : AS} {K : Kt} : Sz (e :: es) false s K = K (.t (.v (.bool false))) s := propext ⟨fun h => h.2, fun h => ⟨fun e => (by cases e), h⟩⟩
theorem WW {xs : List Rc} {i : Nat} (h : i < xs.length) : ((xs.map Rc.addr).take (i + 1)).map Ao = ((xs.map Rc.addr).take i).map Ao ++ [[.v (.string (xs.getD i default).addr.user), .v (.string (xs.getD i default).addr.domain)]] := by
 have e : (xs.map Rc.addr).getD i default = (xs.getD i default).addr := by
  simp only [List.getD_eq_getElem?_getD, List.getElem?_map, List.getElem?_eq_getElem h, Option.map_some, Option.getD_some]
 rw [B2 Ao (by rw [lm]; exact h), e]
 rfl
def ru : Ct := Aq (lc BI l0) (fun p => True) (fun p => .t (.v (.bool (BL (0 ≤ p.1 ∧ p.1 ≤ 9999)))))
section
attribute [local go_sem] Wj
theorem oo {G : Gt} (hG : Ah G) (hh : G.e 48 = AA 0 Wj) : Gd G 60 (AA 0 ru) := by
 refine gr (fn := Tryz.f60) (n := 1) rfl rfl hG ?_
 rintro ⟨n, ⟨⟩⟩ hpre
 simp -implicitDefEqProofs only [Tryz.f60, go_sem, hh, seval] at hpre ⊢
 with_reducible repeat' (first | apply ai | intro _ | ((first | apply s1 | apply s3 | apply s4) <;> intro hb <;> simp -implicitDefEqProofs only [hb, go_sem, hh, seval] <;> try simp only [qz] at hb))
 all_goals first | rfl | skip
end
def lF : Ct := Aq (lc Ia.ag l0) (fun p => GH p.1) (fun p => .t (.v (.bool (BL (DX p.1)))))
section
attribute [local go_sem] Wi Wj ru md rt cQ JC I4 List.take_length List.drop_zero List.length_take List.length_drop lm List.length_append List.length_cons List.length_nil List.map_append List.map_nil List.map_cons List.nil_append Nat.zero_add List.mem_singleton forall_eq Bool.not_true Bool.not_false AU AT
set_option maxHeartbeats 1600000 in
theorem dS {G : Gt} (hG : Ah G) (hh : G.e 44 = AA 0 Wi ∧ G.e 48 = AA 0 Wj ∧ G.e 60 = AA 0 ru ∧ G.e 47 = AA 0 md ∧ G.e 50 = AA 0 rt ∧ G.e 51 = AA 0 cQ) : Gd G 126 (AA 0 lF) := by
 refine gr (fn := Tryz.f126) (n := 1) rfl rfl hG ?_
 rintro ⟨x, ⟨⟩⟩ hpre
 simp -implicitDefEqProofs only [Tryz.f126, go_sem, hh, seval] at hpre ⊢
 obtain ⟨⟨_, hfd⟩, ⟨hl1, hto⟩, ⟨hl2, hbd⟩⟩ := hpre
 have hfd' : x.frm.domain.size ≤ 2000000 := by have : x.frm.domain.size ≤ 1048576 := hfd; omega
 have hbd' : ∀ s ∈ x.body, s.size ≤ 2000000 := fun s hs => by have : s.size ≤ 1048576 := hbd s hs; omega
 have hto' : ∀ j, j < x.to.length → (x.to.getD j default).addr.domain.size ≤ 2000000 := fun j hj => by have : (x.to.getD j default).addr.domain.size ≤ 1048576 := (hto _ (AE hj)).2; omega
 with_reducible repeat' (first | apply ai | intro _ | ((first | apply s1 | apply s3 | apply s4) <;> intro hb <;> simp -implicitDefEqProofs only [hb, go_sem, hh, seval] <;> try simp only [qz] at hb))
 all_goals first | rfl | skip
 refine AF [(3, 1903, true, 2)] (ι := {i : Nat // i ≤ x.to.length ∧ ∀ j, j < i → N2 (x.to.getD j default)}) (fun p => ⟨[(1, .pb 1001 0), (3, .h 1903), (7, .t (.sl 4 (x.to.map BO))), (8, .t (.v (.int .i64 x.to.length))), (9, .t (.v (.int .i64 p.1)))], [(1001, some (.box ((Az x).map .t))), (1903, some (.arr true 2 (((x.to.map Rc.addr).take p.1).map Ao)))]⟩) (fun p => x.to.length - p.1) ⟨0, by simp, by simp⟩ rfl ?_ ?_
 ·simp -implicitDefEqProofs only [go_sem, hh, seval]
  try simp
 ·rintro ⟨i, hi, hall⟩
  by_cases hlt : (i : Int) < x.to.length
  ·have hd := hto' i (by omega)
   have hlen : ((x.to.map Rc.addr).take i).length = i := by simp; omega
   simp -implicitDefEqProofs only [hlt, decide_true, tn, go_sem, hh, seval]
   with_reducible repeat' (first | apply ai | intro _ | ((first | apply s1 | apply s3 | apply s4) <;> intro hb <;> simp -implicitDefEqProofs only [hb, go_sem, hh, seval] <;> try simp only [qz] at hb))
   all_goals (try simp only [maxLen] at *)
   all_goals first | rfl | omega | assumption | decide | skip
   all_goals first
    | (rw [AO (fun h => by have h1 := h.1 _ (AE (xs := x.to) (j := i) (by omega)); first | exact hb h1.1 | exact hb h1.2.1 | exact hb h1.2.2)]; done)
    | skip
   refine ⟨⟨i + 1, by omega, DI (P := N2) hall ⟨by assumption, by assumption, by assumption⟩⟩, by dsimp only; omega, ?_⟩
   simp -implicitDefEqProofs only [go_sem, hh, seval]
   simp only [WW (show i < x.to.length by omega)]
   with_reducible repeat' (first | apply ai | intro _ | ((first | apply s1 | apply s3 | apply s4) <;> intro hb <;> simp -implicitDefEqProofs only [hb, go_sem, hh, seval] <;> try simp only [qz] at hb))
   all_goals first | rfl | (simp; done) | (simp; omega)
  ·have hA : ∀ r ∈ x.to, N2 r := BR fun j hj => hall j (by omega)
   simp -implicitDefEqProofs only [hlt, decide_false, go_sem, hh, seval]
   with_reducible repeat' (first | apply ai | intro _ | ((first | apply s1 | apply s3 | apply s4) <;> intro hb <;> simp -implicitDefEqProofs only [hb, go_sem, hh, seval] <;> try simp only [qz] at hb))
   all_goals (try simp only [maxLen] at *)
   all_goals first | rfl | omega | assumption | decide | exact hbd' _ (by assumption) | skip
   all_goals (try rw [List.take_of_length_le (by rw [lm]; omega)] at hb)
   all_goals first
    | (rw [AW]
       exact ⟨fun h => ⟨hA, hb, by assumption, by assumption, by omega, h⟩, fun h => h.2.2.2.2.2⟩)
    | (rw [AO]
       intro h
       first
        | exact hb h.2.1
        | exact hb h.2.2.1
        | exact hb h.2.2.2.1
        | exact hb (by have := h.2.2.2.2.1; omega))
    | skip
end
def rv : Ct := Aq (lc We.ag l0) (fun p => GI p.1) (fun p => .t (.v (.bool (BL (CO p.1)))))
section
attribute [local go_sem] lF Wj JC I4 List.take_length List.drop_zero List.length_take List.length_drop lm List.length_append List.length_cons List.length_nil List.map_append List.map_nil List.map_cons List.nil_append Nat.zero_add List.mem_singleton forall_eq Bool.not_true Bool.not_false AU AT
set_option maxHeartbeats 1600000 in
theorem o0 {G : Gt} (hG : Ah G) (hh : G.e 126 = AA 0 lF ∧ G.e 48 = AA 0 Wj) : Gd G 74 (AA 0 rv) := by
 refine gr (fn := Tryz.f74) (n := 1) rfl rfl hG ?_
 rintro ⟨s, ⟨⟩⟩ hpre
 simp -implicitDefEqProofs only [Tryz.f74, go_sem, hh, seval] at hpre ⊢
 have hok' : HG GH s.items := hpre
 have hmx := hok'.1
 with_reducible repeat' (first | apply ai | intro _ | ((first | apply s1 | apply s3 | apply s4) <;> intro hb <;> simp -implicitDefEqProofs only [hb, go_sem, hh, seval] <;> try simp only [qz] at hb))
 all_goals first | rfl | skip
 refine AF [] (ι := {i : Nat // i ≤ s.items.length ∧ (∀ j, j < i → DX (s.items.getD j default) ∧ (s.items.getD j default).id ≤ s.last) ∧ ∀ j, 0 < j → j < i → (s.items.getD (j - 1) default).id < (s.items.getD j default).id}) (fun p => ⟨[(1, .pb 1001 0), (3, .t (.v (.int .i64 (if p.1 = 0 then 0 else (s.items.getD (p.1 - 1) default).id)))), (7, .t (.sl 5 (s.items.map Az))), (8, .t (.v (.int .i64 s.items.length))), (9, .t (.v (.int .i64 p.1)))], [(1001, some (.box ((FU s).map .t)))]⟩) (fun p => s.items.length - p.1) ⟨0, by simp, by simp, by simp⟩ rfl ?_ ?_
 ·simp -implicitDefEqProofs only [go_sem, hh, seval]
  try simp
 ·rintro ⟨i, hi, hall, hasc⟩
  have hgen : ∀ L : Int, L = (if i = 0 then 0 else (s.items.getD (i - 1) default).id) → True := fun _ _ => trivial
  obtain ⟨L, hL⟩ : ∃ L : Int, L = (if i = 0 then 0 else (s.items.getD (i - 1) default).id) := ⟨_, rfl⟩
  by_cases hlt : (i : Int) < s.items.length
  ·have hok := hok'.at (i := i) (by omega)
   dsimp only
   rw [← hL]
   simp -implicitDefEqProofs only [hlt, decide_true, tn, go_sem, hh, seval]
   with_reducible repeat' (first | apply ai | intro _ | ((first | apply s1 | apply s3 | apply s4) <;> intro hb <;> simp -implicitDefEqProofs only [hb, go_sem, hh, seval] <;> try simp only [qz] at hb))
   all_goals (try simp only [maxLen] at *)
   all_goals first | rfl | omega | assumption | decide | skip
   all_goals (try have h0 := (show DX (s.items.getD i default) from by assumption).2.2.1)
   all_goals first
    | (rw [AO]
       intro h
       have h1 := h.1 _ (AE (xs := s.items) (j := i) (by omega))
       first
        | exact hb h1.1
        | omega
        | (by_cases e : i = 0
           ·rw [if_pos e] at hL; omega
           ·rw [if_neg e] at hL
            have h2 := h.2.1 i (by omega) (by omega)
            omega))
    | skip
   refine ⟨⟨i + 1, by omega, DI (P := fun x : Im => DX x ∧ x.id ≤ s.last) hall ⟨by assumption, by omega⟩, fun j h0 hj => ?_⟩, by dsimp only; omega, ?_⟩
   ·by_cases e : j = i
    ·subst e
     rw [if_neg (by omega)] at hL
     omega
    ·exact hasc j h0 (by omega)
   ·simp -implicitDefEqProofs only [go_sem, hh, seval]
    try simp
  ·dsimp only
   rw [← hL]
   simp -implicitDefEqProofs only [hlt, decide_false, go_sem, hh, seval]
   with_reducible repeat' (first | apply ai | intro _ | ((first | apply s1 | apply s3 | apply s4) <;> intro hb <;> simp -implicitDefEqProofs only [hb, go_sem, hh, seval] <;> try simp only [qz] at hb))
   all_goals (try simp only [maxLen] at *)
   all_goals first | rfl | omega | assumption | decide | skip
   ·refine congrArg (fun b => T.v (Value.bool b)) ?_
    rw [← BF, AW]
    exact ⟨fun h => ⟨BR fun j hj => hall j (by omega), fun j h0 hj => hasc j h0 (by omega), hb, by omega⟩, fun h => by have := h.2.2.2; omega⟩
   ·rw [AO (fun h => hb h.2.2.1)]
end
section
attribute [local go_sem] Mb Ma lm List.nil_append List.map_nil List.map_cons List.length_cons List.length_nil
end
def mZ : Ct := Aq (lc An.asl l0) (fun p => (p.1.length : Int) ≤ 1048576) (fun p => .o true 1 (p.1.map AH))
section
attribute [local go_sem] Mb Ma lm List.nil_append List.map_nil List.map_cons List.length_cons List.length_nil
theorem oL {G : Gt} (hG : Ah G) : Gd G 35 (AA 0 mZ) := by
 refine gr (fn := Tryz.f35) (n := 1) rfl rfl hG ?_ (hs := fun _ _ => .deep _ _)
 rintro ⟨xs, ⟨⟩⟩ hpre
 dsimp only at hpre ⊢
 cases xs with
 | nil =>
   simp -implicitDefEqProofs only [Tryz.f35, go_sem, seval]
   with_reducible repeat' (first | apply ai | intro _ | ((first | apply s1 | apply s3 | apply s4) <;> intro hb <;> simp -implicitDefEqProofs only [hb, go_sem, seval] <;> try simp only [qz] at hb))
   all_goals (try simp only [maxLen, lm] at *)
   all_goals first | rfl | omega | exact of_eq_true (HA []) | (simp; done) | skip
 | cons x xs =>
   simp only [List.length_cons] at hpre
   simp -implicitDefEqProofs only [Tryz.f35, go_sem, seval]
   with_reducible repeat' (first | apply ai | intro _ | ((first | apply s1 | apply s3 | apply s4) <;> intro hb <;> simp -implicitDefEqProofs only [hb, go_sem, seval] <;> try simp only [qz] at hb))
   all_goals (try simp only [maxLen, lm] at *)
   all_goals first | rfl | omega | exact of_eq_true (HA (x :: xs)) | exact of_eq_true (NA (x :: xs)) _ (by assumption) | (simp; done) | skip
end
section
attribute [local go_sem] mZ lm List.length_append List.length_cons List.length_nil List.map_append List.mem_singleton forall_eq AS.nilb AS.renb Bool.not_false Bool.not_true List.set_cons_zero List.set_cons_succ List.set_nil
end
theorem uT {p : Prop} (h : p) : T.v (Value.bool true) = T.v (Value.bool (BL p)) := by rw [Ak h]
theorem uF {p : Prop} (h : ¬ p) : T.v (Value.bool false) = T.v (Value.bool (BL p)) := by rw [AO h]
theorem uE {p q : Prop} (h : p ↔ q) : T.v (Value.bool (BL p)) = T.v (Value.bool (BL q)) := by rw [AW h]
theorem uN {p q : Prop} (h : ¬ p ↔ q) : T.v (Value.bool (!BL p)) = T.v (Value.bool (BL q)) := by rw [ED, AW h]
theorem uB {b : Bool} {q : Prop} (h : b = true ↔ q) : T.v (Value.bool b) = T.v (Value.bool (BL q)) := by
 cases b
 ·exact uF (fun q => by have := h.2 q; simp at this)
 ·exact uT (h.1 rfl)
theorem uD {p q : Prop} [Decidable p] (h : p ↔ q) : T.v (Value.bool (decide p)) = T.v (Value.bool (BL q)) := by rw [← BF, AW h]
def Ed (a b : ByteArray) : Int := Lib.compareBytes (bl a) (bl b)
theorem Xw : ∀ a b : List UInt8, (Lib.compareBytes a b < 0) ↔ Op.bytesLess a b = true
 | [], [] => by simp [Lib.compareBytes, Op.bytesLess]
 | [], _ :: _ => by simp [Lib.compareBytes, Op.bytesLess]
 | _ :: _, [] => by simp [Lib.compareBytes, Op.bytesLess]
 | a :: x, b :: y => by
   have ih := Xw x y
   simp only [Lib.compareBytes, Op.bytesLess, Bool.or_eq_true, Bool.and_eq_true, decide_eq_true_eq, beq_iff_eq]
   by_cases h1 : a < b
   ·simp [h1]
   ·by_cases h2 : b < a
    ·have h3 : ¬ a = b := fun e => by subst e; exact absurd h2 (UInt8.lt_irrefl _)
     simp [h1, h2, h3]
    ·have h3 : a = b := UInt8.le_antisymm (UInt8.not_lt.1 h2) (UInt8.not_lt.1 h1)
     have hir := UInt8.lt_irrefl b
     simp only [h3, hir, if_false, false_or, true_and]
     exact ih
theorem iT : ∀ a b : List UInt8, (Lib.compareBytes a b = 0) ↔ a = b
 | [], [] => by simp [Lib.compareBytes]
 | [], _ :: _ => by simp [Lib.compareBytes]
 | _ :: _, [] => by simp [Lib.compareBytes]
 | a :: x, b :: y => by
   have ih := iT x y
   simp only [Lib.compareBytes, List.cons.injEq]
   by_cases h1 : a < b
   ·have h3 : ¬ a = b := fun e => by subst e; exact absurd h1 (UInt8.lt_irrefl _)
    simp [h1, h3]
   ·by_cases h2 : b < a
    ·have h3 : ¬ a = b := fun e => by subst e; exact absurd h2 (UInt8.lt_irrefl _)
     simp [h1, h2, h3]
    ·have h3 : a = b := UInt8.le_antisymm (UInt8.not_lt.1 h2) (UInt8.not_lt.1 h1)
     simp only [h3, true_and]
     rw [if_neg (UInt8.lt_irrefl b), if_neg (UInt8.lt_irrefl b)]
     exact ih
theorem Mn (a b : ByteArray) : Ed a b < 0 ↔ En a b = true := by
 unfold Ed En
 rw [Xw, GD, GD]
theorem Gr (a b : ByteArray) : Ed a b = 0 ↔ a = b := by
 unfold Ed
 rw [iT]
 exact ⟨E0, fun e => by rw [e]⟩
def XO (a b : Ad) : Prop := En a.domain b.domain = true ∨ (a.domain = b.domain ∧ En a.user b.user = true)
def JS (a b : Ad) : Int := if Ed a.domain b.domain = 0 then Ed a.user b.user else Ed a.domain b.domain
theorem IC (a b : Ad) : JS a b < 0 ↔ XO a b := by
 unfold JS XO
 by_cases h : Ed a.domain b.domain = 0
 ·rw [if_pos h, Mn]
  have h2 : ¬ En a.domain b.domain = true := fun q => by have := (Mn _ _).2 q; omega
  exact ⟨fun q => .inr ⟨(Gr _ _).1 h, q⟩, fun q => q.elim (fun q => absurd q h2) fun q => q.2⟩
 ·rw [if_neg h, Mn]
  exact ⟨.inl, fun q => q.elim id fun q => absurd ((Gr _ _).2 q.1) h⟩
def qE : List Int → Int
 | [] => 0
 | x :: r => if x = 0 then qE r else x
theorem sE {x y : Int} : Dj.decL [[.v (.int .i64 x)], [.v (.int .i64 y)]] = some [x, y] := Dj.decL_map [x, y]
theorem Z7 {xs : List Int} {i : Nat} (h : i < xs.length) : qE (xs.drop i) = if xs.getD i default = 0 then qE (xs.drop (i + 1)) else xs.getD i default := by
 rw [Ae h]; rfl
def lp : Ct := Aq (lc Ap (lc Ap l0)) (fun _ => True) (fun p => .t (.v (.int .i64 (Ed p.1 p.2.1))))
theorem eF (m : Int) : FM Tryz.prog m 174 lp := FM.of (r := fun (p : ByteArray × ByteArray × Unit) => .int .i64 (Ed p.1 p.2.1)) (fun _ => trivial) fun p _ => by
 obtain ⟨s, c, ⟨⟩⟩ := p
 intro w pr vs hgl hv
 have := Hu hv
 subst this
 have he : Extern.find Tryz.f174 = some Extern.BytealgCompare.compare := by kernel_rfl
 rw [run_callFunc_extern (fn := Tryz.f174) (by kernel_rfl) (by kernel_rfl) rfl (by kernel_rfl) he]
 have h := Lib.run_compareString (P := Tryz.prog) s c w
 rw [show ([Value.string s, Value.string c].toArray) = #[.string s, .string c] from rfl, h]
 rfl
def GF (c : Cf) : Prop := (∀ s ∈ c.own, Cc s) ∧ (∀ w ∈ c.ways, Cc w.ends ∧ Cc w.to) ∧ Cc c.name ∧ (c.own.length : Int) ≤ 3 ∧ (c.ways.length : Int) ≤ 4
def lV : Ct := Aq (lc Ap (lc Ap l0)) (fun p => True) (fun p => .t (.v (.int .i64 (Ed p.1 p.2.1))))
section
attribute [local go_sem] lp
theorem dt {G : Gt} (hG : Ah G) (hh : G.e 174 = AA 3 lp) : Gd G 150 (AA 0 lV) := by
 refine gr (fn := Tryz.f150) (n := 2) rfl rfl hG ?_
 rintro ⟨a, b, ⟨⟩⟩ hpre
 simp -implicitDefEqProofs only [Tryz.f150, go_sem, hh, seval] at hpre ⊢
 with_reducible repeat' (first | apply ai | intro _ | ((first | apply s1 | apply s3 | apply s4) <;> intro hb <;> simp -implicitDefEqProofs only [hb, go_sem, hh, seval] <;> try simp only [qz] at hb))
 all_goals first | rfl | omega | skip
end
def lI : Ct := Aq (lc Ap (lc Ap l0)) (fun p => True) (fun p => .t (.v (.int .i64 (Ed p.1 p.2.1))))
section
attribute [local go_sem] lV
theorem dV {G : Gt} (hG : Ah G) (hh : G.e 150 = AA 0 lV) : Gd G 129 (AA 0 lI) := by
 refine gr (fn := Tryz.f129) (n := 2) rfl rfl hG ?_
 rintro ⟨a, b, ⟨⟩⟩ hpre
 simp -implicitDefEqProofs only [Tryz.f129, go_sem, hh, seval] at hpre ⊢
 with_reducible repeat' (first | apply ai | intro _ | ((first | apply s1 | apply s3 | apply s4) <;> intro hb <;> simp -implicitDefEqProofs only [hb, go_sem, hh, seval] <;> try simp only [qz] at hb))
 all_goals first | rfl | omega | skip
end
def lH : Ct := Aq (lc Dj.asl l0) (fun p => True) (fun p => .t (.v (.int .i64 (qE p.1))))
section
attribute [local go_sem] lm
theorem dU {G : Gt} (hG : Ah G) : Gd G 128 (AA 0 lH) := by
 refine gr (fn := Tryz.f128) (n := 1) rfl rfl hG ?_
 rintro ⟨xs, ⟨⟩⟩ hpre
 simp -implicitDefEqProofs only [Tryz.f128, go_sem, seval] at hpre ⊢
 with_reducible repeat' (first | apply ai | intro _ | ((first | apply s1 | apply s3 | apply s4) <;> intro hb <;> simp -implicitDefEqProofs only [hb, go_sem, seval] <;> try simp only [qz] at hb))
 all_goals first | rfl | omega | skip
 refine AF [] (ι := {i : Nat // i ≤ xs.length ∧ qE xs = qE (xs.drop i)}) (fun p => ⟨[(3, .t (.v (.int .i64 0))), (6, .t (.sl 1 (xs.map A7))), (7, .t (.v (.int .i64 xs.length))), (8, .t (.v (.int .i64 p.1)))], []⟩) (fun p => xs.length - p.1) ⟨0, by simp, rfl⟩ rfl ?_ ?_
 ·simp -implicitDefEqProofs only [go_sem, seval]
  try simp
 ·rintro ⟨i, hi, hor⟩
  by_cases hlt : (i : Int) < xs.length
  ·have hs := Z7 (xs := xs) (i := i) (by omega)
   simp -implicitDefEqProofs only [hlt, decide_true, tn, go_sem, seval]
   with_reducible repeat' (first | apply ai | intro _ | ((first | apply s1 | apply s3 | apply s4) <;> intro hb <;> simp -implicitDefEqProofs only [hb, go_sem, seval] <;> try simp only [qz] at hb))
   all_goals (try simp only [maxLen] at *)
   all_goals first | rfl | omega | skip
   ·rw [hor, hs, if_neg (by assumption)]
   ·refine ⟨⟨i + 1, by omega, by rw [hor, hs, if_pos (by simpa using hb)]⟩, by dsimp only; omega, ?_⟩
    simp -implicitDefEqProofs only [go_sem, seval]
    try simp
  ·simp -implicitDefEqProofs only [hlt, decide_false, go_sem, seval]
   with_reducible repeat' (first | apply ai | intro _ | ((first | apply s1 | apply s3 | apply s4) <;> intro hb <;> simp -implicitDefEqProofs only [hb, go_sem, seval] <;> try simp only [qz] at hb))
   all_goals first | rfl | omega | skip
   rw [hor, List.drop_eq_nil_of_le (by omega)]
   rfl
end
def vV : Ct := Aq (lc C3.ag (lc C3.ag l0)) (fun p => True) (fun p => .t (.v (.int .i64 (JS p.1 p.2.1))))
section
attribute [local go_sem] lI lH sE
theorem pB {G : Gt} (hG : Ah G) (hh : G.e 129 = AA 0 lI ∧ G.e 128 = AA 0 lH) : Gd G 77 (AA 0 vV) := by
 refine gr (fn := Tryz.f77) (n := 2) rfl rfl hG ?_
 rintro ⟨a, b, ⟨⟩⟩ hpre
 simp -implicitDefEqProofs only [Tryz.f77, go_sem, hh, seval] at hpre ⊢
 with_reducible repeat' (first | apply ai | intro _ | ((first | apply s1 | apply s3 | apply s4) <;> intro hb <;> simp -implicitDefEqProofs only [hb, go_sem, hh, seval] <;> try simp only [qz] at hb))
 all_goals first | rfl | omega | skip
 all_goals
  refine congrArg (fun z => T.v (Value.int .i64 z)) ?_
  simp only [qE, JS]
  by_cases h : Ed a.domain b.domain = 0
  ·rw [if_pos h, if_pos h]
   by_cases h2 : Ed a.user b.user = 0
   ·rw [if_pos h2, h2]
   ·rw [if_neg h2]
  ·rw [if_neg h, if_neg h]
end
def rz : Ct := Aq (lc C3.ag (lc C3.ag l0)) (fun p => True) (fun p => .t (.v (.bool (BL (XO p.1 p.2.1)))))
theorem pI {G : Gt} (hG : Ah G) : Gd G 84 (AA 0 rz) := by
 refine gr (fn := Tryz.f84) (n := 2) rfl rfl hG ?_
 rintro ⟨a, b, ⟨⟩⟩ hpre
 simp -implicitDefEqProofs only [Tryz.f84, go_sem, seval] at hpre ⊢
 with_reducible repeat' (first | apply ai | intro _ | ((first | apply s1 | apply s3 | apply s4) <;> intro hb <;> simp -implicitDefEqProofs only [hb, go_sem, seval] <;> try simp only [qz] at hb))
 all_goals first | rfl | omega | skip
 all_goals first
  | exact uT (.inl (by assumption))
  | exact uB ⟨fun q => .inr ⟨by assumption, q⟩, fun q => q.elim (fun q => by simp_all) fun q => q.2⟩
  | exact uF (fun q => q.elim (fun q => by simp_all) fun q => by simp_all)
  | skip
def ka (b : Bx) : Prop := (∀ g ∈ b.mails, (BJ g.frm ∨ AZ g.frm) ∧ DW g.body) ∧ BJ b.addr
def Wo (h : Hs) (j : Nat) : Prop := ka (h.boxes.getD j default) ∧ (0 < j → XO (h.boxes.getD (j - 1) default).addr (h.boxes.getD j default).addr) ∧ (h.boxes.getD j default).addr.domain ∈ h.conf.own
def EL (h : Hs) : Prop := (∀ j, j < h.boxes.length → Wo h j) ∧ GF h.conf ∧ CO h.spool
theorem DD {P : Nat → Prop} {i : Nat} (h : ∀ j, j < i → P j) (hi : P i) : ∀ j, j < i + 1 → P j := fun j hj => by
 by_cases e : j = i
 ·rw [e]; exact hi
 ·exact h j (by omega)
theorem fh {xs : List ByteArray} {a : ByteArray} (h : ∀ j, j < xs.length → ¬ xs.getD j default = a) : ¬ a ∈ xs := fun hm => by
 obtain ⟨j, hj, e⟩ := List.getElem_of_mem hm
 exact h j hj (by simp [hj, e])
def r7 : Ct := Aq (lc H3.ag l0) (fun p => True) (fun p => .t (.v (.bool (BL (GF p.1)))))
section
attribute [local go_sem] Xt AU AT lm
set_option maxHeartbeats 1600000 in
theorem pK {G : Gt} (hG : Ah G) (hh : G.e 40 = AA 0 Xt) : Gd G 86 (AA 0 r7) := by
 refine gr (fn := Tryz.f86) (n := 1) rfl rfl hG ?_
 rintro ⟨c, ⟨⟩⟩ hpre
 simp -implicitDefEqProofs only [Tryz.f86, go_sem, hh, seval] at hpre ⊢
 refine AF [] (ι := {i : Nat // i ≤ c.own.length ∧ ∀ j, j < i → Cc (c.own.getD j default)}) (fun p => ⟨[(1, .pb 1001 0), (3, .t (.v (.int .i64 p.1)))], [(1001, some (.box ((DK c).map .t)))]⟩) (fun p => c.own.length - p.1) ⟨0, by simp, by simp⟩ rfl ?_ ?_
 ·simp -implicitDefEqProofs only [go_sem, hh, seval]
  try simp
 ·rintro ⟨i, hi, hall⟩
  by_cases hlt : (i : Int) < c.own.length
  ·simp -implicitDefEqProofs only [hlt, decide_true, tn, go_sem, hh, seval]
   with_reducible repeat' (first | apply ai | intro _ | ((first | apply s1 | apply s3 | apply s4) <;> intro hb <;> simp -implicitDefEqProofs only [hb, go_sem, hh, seval] <;> try simp only [qz] at hb))
   all_goals (try simp only [maxLen] at *)
   all_goals first | rfl | omega | skip
   ·exact uF (fun h => hb (h.1 _ (AE (by omega))))
   ·refine ⟨⟨i + 1, by omega, DD hall hb⟩, by dsimp only; omega, ?_⟩
    simp -implicitDefEqProofs only [go_sem, hh, seval]
    try simp
  ·have hA : ∀ s ∈ c.own, Cc s := BR fun j hj => hall j (by omega)
   simp -implicitDefEqProofs only [hlt, decide_false, go_sem, hh, seval]
   with_reducible repeat' (first | apply ai | intro _ | ((first | apply s1 | apply s3 | apply s4) <;> intro hb <;> simp -implicitDefEqProofs only [hb, go_sem, hh, seval] <;> try simp only [qz] at hb))
   all_goals first | rfl | omega | skip
   refine AF [] (ι := {i : Nat // i ≤ c.ways.length ∧ ∀ j, j < i → Cc (c.ways.getD j default).ends ∧ Cc (c.ways.getD j default).to}) (fun p => ⟨[(1, .pb 1001 0), (4, .t (.v (.int .i64 p.1)))], [(1001, some (.box ((DK c).map .t)))]⟩) (fun p => c.ways.length - p.1) ⟨0, by simp, by simp⟩ rfl ?_ ?_
   ·simp -implicitDefEqProofs only [go_sem, hh, seval]
    try simp
   ·rintro ⟨k, hk, hall2⟩
    by_cases hlt2 : (k : Int) < c.ways.length
    ·simp -implicitDefEqProofs only [hlt2, decide_true, tn, go_sem, hh, seval]
     with_reducible repeat' (first | apply ai | intro _ | ((first | apply s1 | apply s3 | apply s4) <;> intro hb <;> simp -implicitDefEqProofs only [hb, go_sem, hh, seval] <;> try simp only [qz] at hb))
     all_goals (try simp only [maxLen] at *)
     all_goals first
      | rfl
      | omega
      | exact uF (fun h => hb (h.2.1 _ (AE (by omega))).1)
      | exact uF (fun h => hb (h.2.1 _ (AE (by omega))).2)
      | skip
     refine ⟨⟨k + 1, by omega, DD (P := fun j => Cc (c.ways.getD j default).ends ∧ Cc (c.ways.getD j default).to) hall2 ⟨by assumption, by assumption⟩⟩, by dsimp only; omega, ?_⟩
     simp -implicitDefEqProofs only [go_sem, hh, seval]
     try simp
    ·have hB : ∀ w ∈ c.ways, Cc w.ends ∧ Cc w.to := BR fun j hj => hall2 j (by omega)
     simp -implicitDefEqProofs only [hlt2, decide_false, go_sem, hh, seval]
     with_reducible repeat' (first | apply ai | intro _ | ((first | apply s1 | apply s3 | apply s4) <;> intro hb <;> simp -implicitDefEqProofs only [hb, go_sem, hh, seval] <;> try simp only [qz] at hb))
     all_goals first
      | rfl
      | omega
      | exact uD ⟨fun q => ⟨hA, hB, by assumption, by omega, q⟩, fun q => q.2.2.2.2⟩
      | exact uF (fun q => absurd q.2.2.1 (by assumption))
      | exact uF (fun q => by have h1 := q.2.2.2.1; have h2 := q.2.2.2.2; omega)
      | skip
end
def cR : Ct := Aq (lc H3.ag (lc C3.ag l0)) (fun p => True) (fun p => .t (.v (.bool (BL (p.2.1.domain ∈ p.1.own)))))
section
attribute [local go_sem] lm
theorem pJ {G : Gt} (hG : Ah G) : Gd G 85 (AA 0 cR) := by
 refine gr (fn := Tryz.f85) (n := 2) rfl rfl hG ?_
 rintro ⟨c, a, ⟨⟩⟩ hpre
 simp -implicitDefEqProofs only [Tryz.f85, go_sem, seval] at hpre ⊢
 refine AF [] (ι := {i : Nat // i ≤ c.own.length ∧ ∀ j, j < i → ¬ c.own.getD j default = a.domain}) (fun p => ⟨[(2, .pb 1002 0), (3, .pb 1003 0), (5, .t (.v (.int .i64 p.1)))], [(1002, some (.box ((DK c).map .t))), (1003, some (.box ((Ao a).map .t)))]⟩) (fun p => c.own.length - p.1) ⟨0, by simp, by simp⟩ rfl ?_ ?_
 ·simp -implicitDefEqProofs only [go_sem, seval]
  try simp
 ·rintro ⟨i, hi, hall⟩
  by_cases hlt : (i : Int) < c.own.length
  ·simp -implicitDefEqProofs only [hlt, decide_true, tn, go_sem, seval]
   with_reducible repeat' (first | apply ai | intro _ | ((first | apply s1 | apply s3 | apply s4) <;> intro hb <;> simp -implicitDefEqProofs only [hb, go_sem, seval] <;> try simp only [qz] at hb))
   all_goals (try simp only [maxLen] at *)
   all_goals first | rfl | omega | skip
   ·exact uT (by rw [← hb]; exact AE (by omega))
   ·refine ⟨⟨i + 1, by omega, DD hall hb⟩, by dsimp only; omega, ?_⟩
    simp -implicitDefEqProofs only [go_sem, seval]
    try simp
  ·simp -implicitDefEqProofs only [hlt, decide_false, go_sem, seval]
   with_reducible repeat' (first | apply ai | intro _ | ((first | apply s1 | apply s3 | apply s4) <;> intro hb <;> simp -implicitDefEqProofs only [hb, go_sem, seval] <;> try simp only [qz] at hb))
   all_goals first | rfl | omega | skip
   exact uF (fh fun j hj => hall j (by omega))
end
def vZ : Ct := Aq (lc Ws.ag l0) (fun p => True) (fun p => .t (.v (.bool (BL (ka p.1)))))
section
attribute [local go_sem] Mj IE IF AU AT lm
set_option maxHeartbeats 1600000 in
theorem pH {G : Gt} (hG : Ah G) (hh : G.e 120 = AA 0 Mj ∧ G.e 106 = AA 0 IE ∧ G.e 119 = AA 0 IF) : Gd G 83 (AA 0 vZ) := by
 refine gr (fn := Tryz.f83) (n := 1) rfl rfl hG ?_
 rintro ⟨b, ⟨⟩⟩ hpre
 simp -implicitDefEqProofs only [Tryz.f83, go_sem, hh, seval] at hpre ⊢
 refine AF [] (ι := {i : Nat // i ≤ b.mails.length ∧ ∀ j, j < i → (BJ (b.mails.getD j default).frm ∨ AZ (b.mails.getD j default).frm) ∧ DW (b.mails.getD j default).body}) (fun p => ⟨[(1, .pb 1001 0), (3, .t (.v (.int .i64 p.1)))], [(1001, some (.box ((CZ b).map .t)))]⟩) (fun p => b.mails.length - p.1) ⟨0, by simp, by simp⟩ rfl ?_ ?_
 ·simp -implicitDefEqProofs only [go_sem, hh, seval]
  try simp
 ·rintro ⟨i, hi, hall⟩
  by_cases hlt : (i : Int) < b.mails.length
  ·simp -implicitDefEqProofs only [hlt, decide_true, tn, go_sem, hh, seval]
   with_reducible repeat' (first | apply ai | intro _ | ((first | apply s1 | apply s3 | apply s4) <;> intro hb <;> simp -implicitDefEqProofs only [hb, go_sem, hh, seval] <;> try simp only [qz] at hb))
   all_goals (try simp only [maxLen, tn] at *)
   all_goals first
    | rfl
    | omega
    | exact uF (fun h => absurd (h.1 (b.mails.getD i default) (AE (by omega))).2 (by assumption))
    | exact uF (fun h => (h.1 (b.mails.getD i default) (AE (by omega))).1.elim (fun q => absurd q (by assumption)) fun q => absurd q (by assumption))
    | skip
   all_goals
    refine ⟨⟨i + 1, by omega, DD (P := fun j => (BJ (b.mails.getD j default).frm ∨ AZ (b.mails.getD j default).frm) ∧ DW (b.mails.getD j default).body) hall ⟨by first | exact .inl (by assumption) | exact .inr (by assumption), by assumption⟩⟩, by dsimp only; omega, ?_⟩
    simp -implicitDefEqProofs only [go_sem, hh, seval]
    try simp
  ·have hA : ∀ g ∈ b.mails, (BJ g.frm ∨ AZ g.frm) ∧ DW g.body := BR (P := fun g : Gm => (BJ g.frm ∨ AZ g.frm) ∧ DW g.body) fun j hj => hall j (by omega)
   simp -implicitDefEqProofs only [hlt, decide_false, go_sem, hh, seval]
   with_reducible repeat' (first | apply ai | intro _ | ((first | apply s1 | apply s3 | apply s4) <;> intro hb <;> simp -implicitDefEqProofs only [hb, go_sem, hh, seval] <;> try simp only [qz] at hb))
   all_goals first | rfl | omega | exact uE ⟨fun q => ⟨hA, q⟩, fun q => q.2⟩ | skip
end
def mb : Ct := Aq (lc Ep.ag l0) (fun p => True) (fun p => .t (.v (.bool (BL (EL p.1)))))
section
attribute [local go_sem] vZ rz cR r7 va AU AT lm
set_option maxHeartbeats 6400000 in
theorem oP {G : Gt} (hG : Ah G) (hh : G.e 83 = AA 0 vZ ∧ G.e 84 = AA 0 rz ∧ G.e 85 = AA 0 cR ∧ G.e 86 = AA 0 r7 ∧ G.e 87 = AA 0 va) : Gd G 39 (AA 0 mb) := by
 refine gr (fn := Tryz.f39) (n := 1) rfl rfl hG ?_
 rintro ⟨h, ⟨⟩⟩ hpre
 simp -implicitDefEqProofs only [Tryz.f39, go_sem, hh, seval] at hpre ⊢
 refine AF [] (ι := {i : Nat // i ≤ h.boxes.length ∧ ∀ j, j < i → Wo h j}) (fun p => ⟨[(1, .pb 1001 0), (3, .t (.v (.int .i64 p.1)))], [(1001, some (.box ((Al h).map .t)))]⟩) (fun p => h.boxes.length - p.1) ⟨0, by simp, by simp⟩ rfl ?_ ?_
 ·simp -implicitDefEqProofs only [go_sem, hh, seval]
  try simp
 ·rintro ⟨i, hi, hall⟩
  by_cases hlt : (i : Int) < h.boxes.length
  ·simp -implicitDefEqProofs only [hlt, decide_true, tn, go_sem, hh, seval]
   with_reducible repeat' (first | apply ai | intro _ | ((first | apply s1 | apply s3 | apply s4) <;> intro hb <;> simp -implicitDefEqProofs only [hb, go_sem, hh, seval] <;> try simp only [qz] at hb))
   all_goals (try simp only [maxLen, tn] at *)
   all_goals have hnat : ((i : Int) - 1).toNat = i - 1 := by omega
   all_goals first
    | rfl
    | omega
    | exact uF (fun q => absurd (q.1 i (by omega)).1 (by assumption))
    | exact uF (fun q => absurd (q.1 i (by omega)).2.2 (by assumption))
    | exact uF (fun q => absurd ((q.1 i (by omega)).2.1 (by omega)) (by rw [← hnat]; assumption))
    | skip
   all_goals
    refine ⟨⟨i + 1, by omega, DD hall ⟨by assumption, fun _ => by first | (rw [← hnat]; assumption) | (exfalso; omega), by assumption⟩⟩, by dsimp only; omega, ?_⟩
    simp -implicitDefEqProofs only [go_sem, hh, seval]
    try simp
  ·simp -implicitDefEqProofs only [hlt, decide_false, go_sem, hh, seval]
   with_reducible repeat' (first | apply ai | intro _ | ((first | apply s1 | apply s3 | apply s4) <;> intro hb <;> simp -implicitDefEqProofs only [hb, go_sem, hh, seval] <;> try simp only [qz] at hb))
   all_goals first
    | rfl
    | omega
    | exact uE ⟨fun q => ⟨fun j hj => hall j (by omega), by assumption, q⟩, fun q => q.2.2⟩
    | exact uF (fun q => absurd q.2.1 (by assumption))
    | skip
end
section
attribute [local go_sem] mb
end
inductive Nb where
 | bad
def Nb.enc : Nb → AV
 | .bad  => .t (.fn 75 [])
def Nb.dec : AV → Option Nb
 | .t (.fn 75 []) => some (.bad )
 | _ => none
def Nb.sem : Nb → Gm → Prop
 | .bad , x => ¬ ((BJ x.frm ∨ AZ x.frm) ∧ DW x.body)
def Nb.pre : Nb → Gm → Prop
 | .bad , x => x.frm.domain.size ≤ 2000000 ∧ ∀ s ∈ x.body, s.size ≤ 2000000
def bW : AD Nb where
 enc := Nb.enc
 dec := Nb.dec
 ed := fun f => by cases f <;> rfl
 de := fun x f h => by
  unfold Nb.dec at h
  split at h <;> cases h <;> rfl
theorem JL  : bW.dec (.t (.fn 75 [])) = some (.bad ) := rfl
theorem JM  : bW.enc (.bad ) = .t (.fn 75 []) := rfl
def vT : Ct := Aq (lc SG.ag l0) (fun p => p.1.frm.domain.size ≤ 2000000 ∧ ∀ s ∈ p.1.body, s.size ≤ 2000000) (fun p => .t (.v (.bool (BL (¬ ((BJ p.1.frm ∨ AZ p.1.frm) ∧ DW p.1.body))))))
section
attribute [local go_sem] md cQ BN BM Bool.not_true Bool.not_false Br DM
theorem o9 {G : Gt} (hG : Ah G) (hh : G.e 47 = AA 0 md ∧ G.e 51 = AA 0 cQ) : Gd G 75 (AA 0 vT) := by
 refine gr (fn := Tryz.f75) (n := 1) rfl rfl hG ?_
 rintro ⟨x, ⟨⟩⟩ hpre
 simp -implicitDefEqProofs only [Tryz.f75, go_sem, hh, seval] at hpre ⊢
 with_reducible repeat' (first | apply ai | intro _ | ((first | apply s1 | apply s3 | apply s4) <;> intro hb <;> simp -implicitDefEqProofs only [hb, go_sem, hh, seval] <;> try simp only [qz] at hb))
 all_goals first | rfl | omega | exact hpre.1 | exact hpre.2 | exact hpre.2 _ (by assumption) | skip
 all_goals first
  | exact uT (fun h => absurd h.1 (by assumption))
  | exact uN ⟨fun h q => h q.2, fun h q => h ⟨by assumption, q⟩⟩
  | skip
end
def lG : Ct := Aq (lc SG.asl (lc bW l0)) (fun p => ∀ x ∈ p.1, p.2.1.pre x) (fun p => .t (.v (.int .i64 (A5 p.2.1.sem 0 p.1))))
section
attribute [local go_sem] vT BN BM Bool.not_true Bool.not_false Br DM JL JM
theorem dT {G : Gt} (hG : Ah G) (hh : G.e 75 = AA 0 vT) : Gd G 127 (AA 0 lG) := by
 refine gr (fn := Tryz.f127) (n := 2) rfl rfl hG ?_
 rintro ⟨xs, f, ⟨⟩⟩ hpre
 have hs := hpre
 dsimp only at hs ⊢
 cases f with
 | bad  =>
   simp -implicitDefEqProofs only [Tryz.f127, go_sem, hh, seval]
   with_reducible repeat' (first | apply ai | intro _ | ((first | apply s1 | apply s3 | apply s4) <;> intro hb <;> simp -implicitDefEqProofs only [hb, go_sem, hh, seval] <;> try simp only [qz] at hb))
   all_goals first | rfl | omega | skip
   refine AF [] (ι := {i : Nat // i ≤ xs.length ∧ A5 (Nb.sem (.bad )) 0 xs = A5 (Nb.sem (.bad )) i (xs.drop i)}) (fun p => ⟨[(0, .t (.sl 3 (xs.map Dq))), (1, .t (.fn 75 [])), (7, .t (.v (.int .i64 xs.length))), (8, .t (.v (.int .i64 p.1)))], []⟩) (fun p => xs.length - p.1) ⟨0, Nat.zero_le _, rfl⟩ rfl ?_ ?_
   ·simp -implicitDefEqProofs only [go_sem, hh, seval]
    try simp
   ·rintro ⟨i, hi, hix⟩
    by_cases hlt : (i : Int) < xs.length
    ·have hm : xs.getD (i : Int).toNat default ∈ xs := AE (by omega)
     have hsz := hs _ hm
     cases hb : BL (¬ ((BJ (xs.getD (i : Int).toNat default).frm ∨ AZ (xs.getD (i : Int).toNat default).frm) ∧ DW (xs.getD (i : Int).toNat default).body))
     ·have hq := hb
      simp -implicitDefEqProofs only [hlt, hq, go_sem, hh, seval]
      with_reducible repeat' (first | apply ai | intro _ | ((first | apply s1 | apply s3 | apply s4) <;> intro hb <;> simp -implicitDefEqProofs only [hb, go_sem, hh, seval] <;> try simp only [qz] at hb))
      all_goals (try simp only [maxLen] at *)
      all_goals first | rfl | omega | with_reducible assumption | exact hsz | exact hsz.1 | exact hsz.2 | exact hsz.2 _ (by assumption) | exact hsz.2.1 | exact hsz.2.2.1 | exact hsz.2.2.2 | trivial | skip
      rw [AT, tn] at hb
      refine ⟨⟨i + 1, by omega, ?_⟩, by dsimp only; omega, ?_⟩
      ·rw [hix, Du (p := Nb.sem (.bad )) (by omega) hb]
      ·simp -implicitDefEqProofs only [go_sem, hh, seval]
       try simp
     ·have hq := hb
      simp -implicitDefEqProofs only [hlt, hq, go_sem, hh, seval]
      with_reducible repeat' (first | apply ai | intro _ | ((first | apply s1 | apply s3 | apply s4) <;> intro hb <;> simp -implicitDefEqProofs only [hb, go_sem, hh, seval] <;> try simp only [qz] at hb))
      all_goals (try simp only [maxLen] at *)
      all_goals first | rfl | omega | with_reducible assumption | exact hsz | exact hsz.1 | exact hsz.2 | exact hsz.2 _ (by assumption) | exact hsz.2.1 | exact hsz.2.2.1 | exact hsz.2.2.2 | trivial | skip
      rw [AU, tn] at hb
      rw [hix, Cs (p := Nb.sem (.bad )) (by omega) hb]
    ·simp -implicitDefEqProofs only [hlt, go_sem, hh, seval]
     with_reducible repeat' (first | apply ai | intro _ | ((first | apply s1 | apply s3 | apply s4) <;> intro hb <;> simp -implicitDefEqProofs only [hb, go_sem, hh, seval] <;> try simp only [qz] at hb))
     all_goals first | rfl | omega | skip
     all_goals (rw [hix, Cr (by omega)])
end
def vU : Ct := Aq (lc SG.asl (lc bW l0)) (fun p => ∀ x ∈ p.1, p.2.1.pre x) (fun p => .t (.v (.bool (BL (∃ x ∈ p.1, p.2.1.sem x)))))
section
attribute [local go_sem] lG BN BM Bool.not_true Bool.not_false Br DM JL JM
theorem pA {G : Gt} (hG : Ah G) (hh : G.e 127 = AA 0 lG) : Gd G 76 (AA 0 vU) := by
 refine gr (fn := Tryz.f76) (n := 2) rfl rfl hG ?_
 rintro ⟨xs, f, ⟨⟩⟩ hpre
 dsimp only at hpre ⊢
 cases f
 all_goals
  simp -implicitDefEqProofs only [Tryz.f76, go_sem, hh, seval]
  with_reducible repeat' (first | apply ai | intro _ | ((first | apply s1 | apply s3 | apply s4) <;> intro hb <;> simp -implicitDefEqProofs only [hb, go_sem, hh, seval] <;> try simp only [qz] at hb))
  all_goals first | rfl | omega | exact hpre | exact hpre _ (by assumption) | skip
  all_goals (rw [← AW (EF _ 0)]; rw [BF])
end
inductive Nc where
 | way
def Nc.enc : Nc → AV
 | .way  => .t (.fn 92 [])
def Nc.dec : AV → Option Nc
 | .t (.fn 92 []) => some (.way )
 | _ => none
def Nc.sem : Nc → Wy → Prop
 | .way , x => ¬ (Cc x.ends ∧ Cc x.to)
def Nc.pre : Nc → Wy → Prop
 | .way , x => x.ends.size ≤ 2000000 ∧ x.to.size ≤ 2000000
def bY : AD Nc where
 enc := Nc.enc
 dec := Nc.dec
 ed := fun f => by cases f <;> rfl
 de := fun x f h => by
  unfold Nc.dec at h
  split at h <;> cases h <;> rfl
theorem JN  : bY.dec (.t (.fn 92 [])) = some (.way ) := rfl
theorem JO  : bY.enc (.way ) = .t (.fn 92 []) := rfl
def vc : Ct := Aq (lc LS.ag l0) (fun p => p.1.ends.size ≤ 2000000 ∧ p.1.to.size ≤ 2000000) (fun p => .t (.v (.bool (BL (¬ (Cc p.1.ends ∧ Cc p.1.to))))))
section
attribute [local go_sem] P8 BN BM Bool.not_true Bool.not_false Br DM
theorem pQ {G : Gt} (hG : Ah G) (hh : G.e 34 = AA 0 P8) : Gd G 92 (AA 0 vc) := by
 refine gr (fn := Tryz.f92) (n := 1) rfl rfl hG ?_
 rintro ⟨x, ⟨⟩⟩ hpre
 simp -implicitDefEqProofs only [Tryz.f92, go_sem, hh, seval] at hpre ⊢
 with_reducible repeat' (first | apply ai | intro _ | ((first | apply s1 | apply s3 | apply s4) <;> intro hb <;> simp -implicitDefEqProofs only [hb, go_sem, hh, seval] <;> try simp only [qz] at hb))
 all_goals first | rfl | omega | exact hpre.1 | exact hpre.2 | exact hpre.2 _ (by assumption) | skip
 all_goals first
  | exact uT (fun h => absurd h.1 (by assumption))
  | exact uN ⟨fun h q => h q.2, fun h q => h ⟨by assumption, q⟩⟩
  | skip
end
def lQ : Ct := Aq (lc LS.asl (lc bY l0)) (fun p => ∀ x ∈ p.1, p.2.1.pre x) (fun p => .t (.v (.int .i64 (A5 p.2.1.sem 0 p.1))))
section
attribute [local go_sem] vc BN BM Bool.not_true Bool.not_false Br DM JN JO
theorem df {G : Gt} (hG : Ah G) (hh : G.e 92 = AA 0 vc) : Gd G 137 (AA 0 lQ) := by
 refine gr (fn := Tryz.f137) (n := 2) rfl rfl hG ?_
 rintro ⟨xs, f, ⟨⟩⟩ hpre
 have hs := hpre
 dsimp only at hs ⊢
 cases f with
 | way  =>
   simp -implicitDefEqProofs only [Tryz.f137, go_sem, hh, seval]
   with_reducible repeat' (first | apply ai | intro _ | ((first | apply s1 | apply s3 | apply s4) <;> intro hb <;> simp -implicitDefEqProofs only [hb, go_sem, hh, seval] <;> try simp only [qz] at hb))
   all_goals first | rfl | omega | skip
   refine AF [] (ι := {i : Nat // i ≤ xs.length ∧ A5 (Nc.sem (.way )) 0 xs = A5 (Nc.sem (.way )) i (xs.drop i)}) (fun p => ⟨[(0, .t (.sl 2 (xs.map Bw))), (1, .t (.fn 92 [])), (7, .t (.v (.int .i64 xs.length))), (8, .t (.v (.int .i64 p.1)))], []⟩) (fun p => xs.length - p.1) ⟨0, Nat.zero_le _, rfl⟩ rfl ?_ ?_
   ·simp -implicitDefEqProofs only [go_sem, hh, seval]
    try simp
   ·rintro ⟨i, hi, hix⟩
    by_cases hlt : (i : Int) < xs.length
    ·have hm : xs.getD (i : Int).toNat default ∈ xs := AE (by omega)
     have hsz := hs _ hm
     cases hb : BL (¬ (Cc (xs.getD (i : Int).toNat default).ends ∧ Cc (xs.getD (i : Int).toNat default).to))
     ·have hq := hb
      simp -implicitDefEqProofs only [hlt, hq, go_sem, hh, seval]
      with_reducible repeat' (first | apply ai | intro _ | ((first | apply s1 | apply s3 | apply s4) <;> intro hb <;> simp -implicitDefEqProofs only [hb, go_sem, hh, seval] <;> try simp only [qz] at hb))
      all_goals (try simp only [maxLen] at *)
      all_goals first | rfl | omega | with_reducible assumption | exact hsz | exact hsz.1 | exact hsz.2 | exact hsz.2 _ (by assumption) | exact hsz.2.1 | exact hsz.2.2.1 | exact hsz.2.2.2 | trivial | skip
      rw [AT, tn] at hb
      refine ⟨⟨i + 1, by omega, ?_⟩, by dsimp only; omega, ?_⟩
      ·rw [hix, Du (p := Nc.sem (.way )) (by omega) hb]
      ·simp -implicitDefEqProofs only [go_sem, hh, seval]
       try simp
     ·have hq := hb
      simp -implicitDefEqProofs only [hlt, hq, go_sem, hh, seval]
      with_reducible repeat' (first | apply ai | intro _ | ((first | apply s1 | apply s3 | apply s4) <;> intro hb <;> simp -implicitDefEqProofs only [hb, go_sem, hh, seval] <;> try simp only [qz] at hb))
      all_goals (try simp only [maxLen] at *)
      all_goals first | rfl | omega | with_reducible assumption | exact hsz | exact hsz.1 | exact hsz.2 | exact hsz.2 _ (by assumption) | exact hsz.2.1 | exact hsz.2.2.1 | exact hsz.2.2.2 | trivial | skip
      rw [AU, tn] at hb
      rw [hix, Cs (p := Nc.sem (.way )) (by omega) hb]
    ·simp -implicitDefEqProofs only [hlt, go_sem, hh, seval]
     with_reducible repeat' (first | apply ai | intro _ | ((first | apply s1 | apply s3 | apply s4) <;> intro hb <;> simp -implicitDefEqProofs only [hb, go_sem, hh, seval] <;> try simp only [qz] at hb))
     all_goals first | rfl | omega | skip
     all_goals (rw [hix, Cr (by omega)])
end
def vd : Ct := Aq (lc LS.asl (lc bY l0)) (fun p => ∀ x ∈ p.1, p.2.1.pre x) (fun p => .t (.v (.bool (BL (∃ x ∈ p.1, p.2.1.sem x)))))
section
attribute [local go_sem] lQ BN BM Bool.not_true Bool.not_false Br DM JN JO
theorem pS {G : Gt} (hG : Ah G) (hh : G.e 137 = AA 0 lQ) : Gd G 94 (AA 0 vd) := by
 refine gr (fn := Tryz.f94) (n := 2) rfl rfl hG ?_
 rintro ⟨xs, f, ⟨⟩⟩ hpre
 dsimp only at hpre ⊢
 cases f
 all_goals
  simp -implicitDefEqProofs only [Tryz.f94, go_sem, hh, seval]
  with_reducible repeat' (first | apply ai | intro _ | ((first | apply s1 | apply s3 | apply s4) <;> intro hb <;> simp -implicitDefEqProofs only [hb, go_sem, hh, seval] <;> try simp only [qz] at hb))
  all_goals first | rfl | omega | exact hpre | exact hpre _ (by assumption) | skip
  all_goals (rw [← AW (EF _ 0)]; rw [BF])
end
def lM : Ct := Aq (lc An.asl (lc Ap l0)) (fun p => True) (fun p => .t (.v (.int .i64 (A5 (fun s : ByteArray => s = p.2.1) 0 p.1))))
section
attribute [local go_sem] lm
theorem dZ {G : Gt} (hG : Ah G) : Gd G 133 (AA 0 lM) := by
 refine gr (fn := Tryz.f133) (n := 2) rfl rfl hG ?_
 rintro ⟨xs, a, ⟨⟩⟩ hpre
 simp -implicitDefEqProofs only [Tryz.f133, go_sem, seval] at hpre ⊢
 with_reducible repeat' (first | apply ai | intro _ | ((first | apply s1 | apply s3 | apply s4) <;> intro hb <;> simp -implicitDefEqProofs only [hb, go_sem, seval] <;> try simp only [qz] at hb))
 all_goals first | rfl | omega | skip
 refine AF [] (ι := {i : Nat // i ≤ xs.length ∧ A5 (fun s : ByteArray => s = a) 0 xs = A5 (fun s : ByteArray => s = a) i (xs.drop i)}) (fun p => ⟨[(0, .t (.sl 1 (xs.map AH))), (1, .t (.v (.string a))), (7, .t (.v (.int .i64 xs.length))), (8, .t (.v (.int .i64 p.1)))], []⟩) (fun p => xs.length - p.1) ⟨0, by simp, rfl⟩ rfl ?_ ?_
 ·simp -implicitDefEqProofs only [go_sem, seval]
  try simp
 ·rintro ⟨i, hi, hix⟩
  by_cases hlt : (i : Int) < xs.length
  ·simp -implicitDefEqProofs only [hlt, decide_true, tn, go_sem, seval]
   with_reducible repeat' (first | apply ai | intro _ | ((first | apply s1 | apply s3 | apply s4) <;> intro hb <;> simp -implicitDefEqProofs only [hb, go_sem, seval] <;> try simp only [qz] at hb))
   all_goals (try simp only [maxLen] at *)
   all_goals first | rfl | omega | skip
   ·rw [hix, Cs (p := fun s : ByteArray => s = a) (by omega) hb.symm]
   ·refine ⟨⟨i + 1, by omega, by rw [hix, Du (p := fun s : ByteArray => s = a) (by omega) (fun e => hb e.symm)]⟩, by dsimp only; omega, ?_⟩
    simp -implicitDefEqProofs only [go_sem, seval]
    try simp
  ·simp -implicitDefEqProofs only [hlt, decide_false, go_sem, seval]
   with_reducible repeat' (first | apply ai | intro _ | ((first | apply s1 | apply s3 | apply s4) <;> intro hb <;> simp -implicitDefEqProofs only [hb, go_sem, seval] <;> try simp only [qz] at hb))
   all_goals first | rfl | omega | skip
   rw [hix, Cr (by omega)]
end
def vX : Ct := Aq (lc An.asl (lc Ap l0)) (fun p => True) (fun p => .t (.v (.bool (BL (p.2.1 ∈ p.1)))))
section
attribute [local go_sem] lM
theorem pF {G : Gt} (hG : Ah G) (hh : G.e 133 = AA 0 lM) : Gd G 81 (AA 0 vX) := by
 refine gr (fn := Tryz.f81) (n := 2) rfl rfl hG ?_
 rintro ⟨xs, a, ⟨⟩⟩ hpre
 simp -implicitDefEqProofs only [Tryz.f81, go_sem, hh, seval] at hpre ⊢
 with_reducible repeat' (first | apply ai | intro _ | ((first | apply s1 | apply s3 | apply s4) <;> intro hb <;> simp -implicitDefEqProofs only [hb, go_sem, hh, seval] <;> try simp only [qz] at hb))
 all_goals first | rfl | omega | skip
 refine uD ?_
 rw [ge_iff_le, EF]
 exact ⟨fun ⟨x, hx, e⟩ => e ▸ hx, fun h => ⟨a, h, rfl⟩⟩
end
def cO : Ct := Aq (lc H3.ag (lc Ap l0)) (fun p => True) (fun p => .t (.v (.bool (BL (p.2.1 ∈ p.1.own)))))
section
attribute [local go_sem] vX
theorem oM {G : Gt} (hG : Ah G) (hh : G.e 81 = AA 0 vX) : Gd G 36 (AA 0 cO) := by
 refine gr (fn := Tryz.f36) (n := 2) rfl rfl hG ?_
 rintro ⟨c, a, ⟨⟩⟩ hpre
 simp -implicitDefEqProofs only [Tryz.f36, go_sem, hh, seval] at hpre ⊢
 with_reducible repeat' (first | apply ai | intro _ | ((first | apply s1 | apply s3 | apply s4) <;> intro hb <;> simp -implicitDefEqProofs only [hb, go_sem, hh, seval] <;> try simp only [qz] at hb))
 all_goals first | rfl | omega | skip
end
def mc : Ct := Aq (lc H3.ag l0) (fun p => Gf p.1) (fun p => .t (.v (.bool (BL (GF p.1)))))
section
attribute [local go_sem] P8 sB vd BN BM Bool.not_true Bool.not_false Br DM JL JM JN JO Df Dh Dg Di AU AT lm
set_option maxHeartbeats 1600000 in
theorem oT {G : Gt} (hG : Ah G) (hh : G.e 34 = AA 0 P8 ∧ G.e 93 = AA 0 sB ∧ G.e 94 = AA 0 vd) : Gd G 43 (AA 0 mc) := by
 refine gr (fn := Tryz.f43) (n := 1) rfl rfl hG ?_
 rintro ⟨c, ⟨⟩⟩ hpre
 simp -implicitDefEqProofs only [Tryz.f43, go_sem, hh, seval] at hpre ⊢
 obtain ⟨z1, ⟨l1, z2⟩, ⟨l2, z3⟩⟩ := hpre
 have y1 : c.name.size ≤ 2000000 := by have : c.name.size ≤ 1048576 := z1; omega
 have y2 : ∀ x ∈ c.own, D3.pre .dom x := fun x hx => by have : x.size ≤ 1048576 := z2 x hx; show x.size ≤ 2000000; omega
 have y3 : ∀ x ∈ c.ways, Nc.pre .way x := fun x hx => by
  have h1 : x.ends.size ≤ 1048576 := (z3 x hx).1
  have h2 : x.to.size ≤ 1048576 := (z3 x hx).2
  exact ⟨by omega, by omega⟩
 have e1 : (¬ ∃ x ∈ c.own, D3.sem .dom x) ↔ ∀ s ∈ c.own, Cc s := ⟨fun h s hs => Classical.byContradiction fun q => h ⟨s, hs, q⟩, fun h ⟨s, hs, q⟩ => q (h s hs)⟩
 have e2 : (¬ ∃ x ∈ c.ways, Nc.sem .way x) ↔ ∀ w ∈ c.ways, Cc w.ends ∧ Cc w.to := ⟨fun h s hs => Classical.byContradiction fun q => h ⟨s, hs, q⟩, fun h ⟨s, hs, q⟩ => q (h s hs)⟩
 with_reducible repeat' (first | apply ai | intro _ | ((first | apply s1 | apply s3 | apply s4) <;> intro hb <;> simp -implicitDefEqProofs only [hb, go_sem, hh, seval] <;> try simp only [qz] at hb))
 all_goals first | rfl | omega | assumption | exact y2 _ (by assumption) | exact y3 _ (by assumption) | skip
 all_goals first
  | exact uN (e2.trans ⟨fun q => ⟨e1.1 (by assumption), q, by assumption, by omega, by omega⟩, fun q => q.2.1⟩)
  | exact uF (fun q => absurd q.2.2.1 (by assumption))
  | exact uF (fun q => by have h1 := q.2.2.2.1; have h2 := q.2.2.2.2; omega)
  | exact uF (fun q => absurd hb (e1.2 q.1))
  | skip
end
def rp : Ct := Aq (lc Ep.ag l0) (fun p => GG p.1) (fun p => .t (.v (.bool (BL (EL p.1)))))
section
attribute [local go_sem] mc rv Wi cO vU vV BN BM Bool.not_true Bool.not_false Br DM JL JM JN JO Df Dh Dg Di AU AT lm
set_option maxHeartbeats 6400000 in
theorem oB {G : Gt} (hG : Ah G) (hh : G.e 43 = AA 0 mc ∧ G.e 74 = AA 0 rv ∧ G.e 44 = AA 0 Wi ∧ G.e 36 = AA 0 cO ∧ G.e 76 = AA 0 vU ∧ G.e 77 = AA 0 vV) : Gd G 23 (AA 0 rp) := by
 refine gr (fn := Tryz.f23) (n := 1) rfl rfl hG ?_
 rintro ⟨h, ⟨⟩⟩ hpre
 simp -implicitDefEqProofs only [Tryz.f23, go_sem, hh, seval] at hpre ⊢
 obtain ⟨zc, zs, ⟨lb, zb⟩, zl⟩ := hpre
 have e1 : ∀ j, j < h.boxes.length → ((∃ x ∈ (h.boxes.getD j default).mails, Nb.sem .bad x) ↔ ¬ ∀ g ∈ (h.boxes.getD j default).mails, (BJ g.frm ∨ AZ g.frm) ∧ DW g.body) := fun j _ => ⟨fun ⟨s, hs, q⟩ f => q (f s hs), fun f => Classical.byContradiction fun q => f fun s hs => Classical.byContradiction fun r => q ⟨s, hs, r⟩⟩
 with_reducible repeat' (first | apply ai | intro _ | ((first | apply s1 | apply s3 | apply s4) <;> intro hb <;> simp -implicitDefEqProofs only [hb, go_sem, hh, seval] <;> try simp only [qz] at hb))
 all_goals first
  | rfl
  | omega
  | assumption
  | exact uF (fun q => absurd q.2.1 (by assumption))
  | exact uF (fun q => absurd q.2.2 (by assumption))
  | skip
 all_goals
  refine AF [] (ι := {i : Nat // i ≤ h.boxes.length ∧ ∀ j, j < i → Wo h j}) (fun p => ⟨[(1, .pb 1001 0), (3, .fn 75 []), (17, .t (.sl 3 (h.boxes.map CZ))), (18, .t (.v (.int .i64 h.boxes.length))), (19, .t (.v (.int .i64 p.1)))], [(1001, some (.box ((Al h).map .t)))]⟩) (fun p => h.boxes.length - p.1) ⟨0, by simp, by simp⟩ rfl ?_ ?_
  ·simp -implicitDefEqProofs only [go_sem, hh, seval]
   try simp
  ·rintro ⟨i, hi, hall⟩
   by_cases hlt : (i : Int) < h.boxes.length
   ·have hbx := zb _ (AE (xs := h.boxes) (j := i) (by omega))
    obtain ⟨za, zm⟩ := hbx
    have y1 : (h.boxes.getD i default).addr.domain.size ≤ 2000000 := by have : (h.boxes.getD i default).addr.domain.size ≤ 1048576 := za.2; omega
    have y2 : ∀ x ∈ (h.boxes.getD i default).mails, Nb.pre .bad x := fun x hx => by
     obtain ⟨⟨_, g1⟩, ⟨_, g2⟩⟩ := zm.2 x hx
     refine ⟨by have : x.frm.domain.size ≤ 1048576 := g1; omega, fun s hs => ?_⟩
     have : s.size ≤ 1048576 := g2 s hs
     omega
    have e2 := e1 i (by omega)
    simp -implicitDefEqProofs only [hlt, decide_true, tn, go_sem, hh, seval]
    with_reducible repeat' (first | apply ai | intro _ | ((first | apply s1 | apply s3 | apply s4) <;> intro hb <;> simp -implicitDefEqProofs only [hb, go_sem, hh, seval] <;> try simp only [qz] at hb))
    all_goals (try simp only [maxLen, tn] at *)
    all_goals have hnat : ((i : Int) - 1).toNat = i - 1 := by omega
    all_goals first
     | rfl
     | omega
     | assumption
     | exact y2 _ (by assumption)
     | exact uF (fun q => absurd (q.1 i (by omega)).1.2 (by assumption))
     | exact uF (fun q => absurd (q.1 i (by omega)).2.2 (by assumption))
     | exact uF (fun q => absurd hb (fun f => e2.1 f (q.1 i (by omega)).1.1))
     | exact uF (fun q => by have h9 := (IC _ _).2 ((q.1 i (by omega)).2.1 (by omega)); rw [← hnat] at h9; omega)
     | skip
    all_goals
     refine ⟨⟨i + 1, by omega, DD hall ⟨⟨Classical.byContradiction fun f => absurd (e2.2 f) (by assumption), by assumption⟩, fun _ => by first | (exact (IC _ _).1 (by rw [← hnat]; omega)) | (exfalso; omega), by assumption⟩⟩, by dsimp only; omega, ?_⟩
     simp -implicitDefEqProofs only [go_sem, hh, seval]
     try simp
   ·simp -implicitDefEqProofs only [hlt, decide_false, go_sem, hh, seval]
    with_reducible repeat' (first | apply ai | intro _ | ((first | apply s1 | apply s3 | apply s4) <;> intro hb <;> simp -implicitDefEqProofs only [hb, go_sem, hh, seval] <;> try simp only [qz] at hb))
    all_goals first | rfl | omega | exact uT ⟨fun j hj => hall j (by omega), by assumption, by assumption⟩ | skip
end
def wh : ByteArray := ⟨#[73, 100, 58, 32]⟩
def MS (s : ByteArray) : Prop := 4 < s.size ∧ s.extract 0 4 = wh
noncomputable def B4 : List ByteArray → ByteArray
 | [] => ⟨#[]⟩
 | x :: r => bif BL (MS x) then x else B4 r
theorem Zd {xs : List ByteArray} {i : Nat} (h : i < xs.length) (ha : MS (xs.getD i default)) : B4 (xs.drop i) = xs.getD i default := by
 rw [Ae h, B4, Ak ha]; rfl
theorem ff {xs : List ByteArray} {i : Nat} (h : i < xs.length) (ha : ¬ MS (xs.getD i default)) : B4 (xs.drop i) = B4 (xs.drop (i + 1)) := by
 rw [Ae h, B4, AO ha]; rfl
theorem Zb {xs : List ByteArray} {i : Nat} (h : xs.length ≤ i) : B4 (xs.drop i) = ⟨#[]⟩ := by
 rw [List.drop_eq_nil_of_le h, B4]
def wH (s p : ByteArray) : Prop := p.size ≤ s.size ∧ s.extract 0 p.size = p
section
end
def Mi : Ct := Aq (lc An.asl l0) (fun p => True) (fun p => .t (.v (.string (B4 p.1))))
section
attribute [local go_sem] lm
theorem dG {G : Gt} (hG : Ah G) : Gd G 107 (AA 0 Mi) := by
 refine gr (fn := Tryz.f107) (n := 1) rfl rfl hG ?_
 rintro ⟨xs, ⟨⟩⟩ hpre
 simp -implicitDefEqProofs only [Tryz.f107, go_sem, seval] at hpre ⊢
 refine AF [] (ι := {i : Nat // i ≤ xs.length ∧ B4 xs = B4 (xs.drop i)}) (fun p => ⟨[(0, .t (.sl 1 (xs.map AH))), (3, .t (.v (.int .i64 p.1)))], []⟩) (fun p => xs.length - p.1) ⟨0, by simp, rfl⟩ rfl ?_ ?_
 ·simp -implicitDefEqProofs only [go_sem, seval]
  try simp
 ·rintro ⟨i, hi, hix⟩
  by_cases hlt : (i : Int) < xs.length
  ·simp -implicitDefEqProofs only [hlt, decide_true, tn, go_sem, seval]
   with_reducible repeat' (first | apply ai | intro _ | ((first | apply s1 | apply s3 | apply s4) <;> intro hb <;> simp -implicitDefEqProofs only [hb, go_sem, seval] <;> try simp only [qz] at hb))
   all_goals (try simp only [maxLen, tn] at *)
   all_goals first
    | rfl
    | omega
    | (rw [hix, Zd (by omega) ⟨by omega, by assumption⟩]; done)
    | skip
   all_goals
    refine ⟨⟨i + 1, by omega, by rw [hix, ff (by omega) (fun h => by first | exact absurd h.2 (by assumption) | (have := h.1; omega))]⟩, by dsimp only; omega, ?_⟩
    simp -implicitDefEqProofs only [go_sem, seval]
    try simp
  ·simp -implicitDefEqProofs only [hlt, decide_false, go_sem, seval]
   with_reducible repeat' (first | apply ai | intro _ | ((first | apply s1 | apply s3 | apply s4) <;> intro hb <;> simp -implicitDefEqProofs only [hb, go_sem, seval] <;> try simp only [qz] at hb))
   all_goals first | rfl | omega | skip
   rw [hix, Zb (by omega)]
end
section
attribute [local go_sem] lm AU AT
end
theorem il {x : ByteArray} : An.decL [[.v (.string x)]] = some [x] := An.decL_map [x]
def ke (l : Ls) : Prop := ¬ l.mark = ⟨#[]⟩ ∧ B4 [l.mark] = l.mark ∧ BJ l.addr ∧ Ib l.mark
def T5 (h : Hs) : ByteArray := h.conf.name
def kh (w : Wd) : Prop := (∀ h ∈ w.hosts, EL h) ∧ (w.hosts.map T5).Nodup ∧ (∀ l ∈ w.given, ke l) ∧ (1 ≤ (w.hosts.length : Int) ∧ (w.hosts.length : Int) ≤ 4) ∧ (0 ≤ w.now ∧ w.now ≤ 9999) ∧ (0 ≤ w.marks ∧ w.marks ≤ 60)
theorem WE {xs : List Hs} (h : ∀ j, j < xs.length → ∀ k, k < j → ¬ (xs.getD k default).conf.name = (xs.getD j default).conf.name) : (xs.map T5).Nodup := by
 rw [List.nodup_iff_pairwise_ne, List.pairwise_iff_getElem]
 intro k j hk hj hkj
 rw [lm] at hk hj
 have := h j hj k hkj
 simpa [hk, hj, T5] using this
theorem Vw {xs : List Hs} (h : (xs.map T5).Nodup) {k i : Nat} (hk : k < i) (hi : i < xs.length) : ¬ (xs.getD k default).conf.name = (xs.getD i default).conf.name := fun e => by
 have q1 : k < xs.length := by omega
 simp only [List.getD_eq_getElem?_getD, List.getElem?_eq_getElem q1, List.getElem?_eq_getElem hi, Option.getD_some] at e
 exact List.pairwise_iff_getElem.1 (List.nodup_iff_pairwise_ne.1 h) k i (by simpa using q1) (by simpa using hi) hk (by simpa [T5] using e)
section
attribute [local go_sem] BN BM Bool.not_true Bool.not_false Br DM
end
section
attribute [local go_sem] cQ AU AT
end
def ug : Ct := Aq (lc gh.ag l0) (fun p => True) (fun p => .t (.v (.bool (BL (kh p.1)))))
section
attribute [local go_sem] mb IE Mi Qc J5 AU AT lm il
set_option maxHeartbeats 6400000 in
theorem ol {G : Gt} (hG : Ah G) (hh : G.e 39 = AA 0 mb ∧ G.e 106 = AA 0 IE ∧ G.e 107 = AA 0 Mi ∧ G.e 108 = AA 0 Qc ∧ G.e 69 = AA 0 J5) : Gd G 57 (AA 0 ug) := by
 refine gr (fn := Tryz.f57) (n := 1) rfl rfl hG ?_
 rintro ⟨w, ⟨⟩⟩ hpre
 simp -implicitDefEqProofs only [Tryz.f57, go_sem, hh, seval] at hpre ⊢
 refine AF [] (ι := {i : Nat // i ≤ w.hosts.length ∧ (∀ j, j < i → EL (w.hosts.getD j default)) ∧ ∀ j, j < i → ∀ k, k < j → ¬ (w.hosts.getD k default).conf.name = (w.hosts.getD j default).conf.name}) (fun p => ⟨[(1, .pb 1001 0), (3, .t (.v (.int .i64 p.1)))], [(1001, some (.box ((Ih w).map .t)))]⟩) (fun p => w.hosts.length - p.1) ⟨0, by simp, by simp, by simp⟩ rfl ?_ ?_
 ·simp -implicitDefEqProofs only [go_sem, hh, seval]
  try simp
 ·rintro ⟨i, hi, hall, hno⟩
  by_cases hlt : (i : Int) < w.hosts.length
  ·simp -implicitDefEqProofs only [hlt, decide_true, tn, go_sem, hh, seval]
   with_reducible repeat' (first | apply ai | intro _ | ((first | apply s1 | apply s3 | apply s4) <;> intro hb <;> simp -implicitDefEqProofs only [hb, go_sem, hh, seval] <;> try simp only [qz] at hb))
   all_goals (try simp only [maxLen, tn] at *)
   all_goals first
    | rfl
    | omega
    | exact uF (fun q => absurd (q.1 (w.hosts.getD i default) (AE (by omega))) (by assumption))
    | skip
   refine AF [] (ι := {k : Nat // k ≤ i ∧ ∀ j, j < k → ¬ (w.hosts.getD j default).conf.name = (w.hosts.getD i default).conf.name}) (fun p => ⟨[(1, .pb 1001 0), (3, .t (.v (.int .i64 i))), (4, .t (.v (.int .i64 p.1)))], [(1001, some (.box ((Ih w).map .t)))]⟩) (fun p => i - p.1) ⟨0, by simp, by simp⟩ rfl ?_ ?_
   ·simp -implicitDefEqProofs only [go_sem, hh, seval]
    try simp
   ·rintro ⟨k, hk, hk2⟩
    by_cases hlt2 : (k : Int) < i
    ·simp -implicitDefEqProofs only [hlt2, decide_true, tn, go_sem, hh, seval]
     with_reducible repeat' (first | apply ai | intro _ | ((first | apply s1 | apply s3 | apply s4) <;> intro hb <;> simp -implicitDefEqProofs only [hb, go_sem, hh, seval] <;> try simp only [qz] at hb))
     all_goals (try simp only [maxLen, tn] at *)
     all_goals first
      | rfl
      | omega
      | exact uF (fun q => Vw q.2.1 (k := k) (i := i) (by omega) (by omega) (by assumption))
      | skip
     all_goals
      refine ⟨⟨k + 1, by omega, DD hk2 (by assumption)⟩, by dsimp only; omega, ?_⟩
      simp -implicitDefEqProofs only [go_sem, hh, seval]
      try simp
    ·simp -implicitDefEqProofs only [hlt2, decide_false, go_sem, hh, seval]
     with_reducible repeat' (first | apply ai | intro _ | ((first | apply s1 | apply s3 | apply s4) <;> intro hb <;> simp -implicitDefEqProofs only [hb, go_sem, hh, seval] <;> try simp only [qz] at hb))
     all_goals first | rfl | omega | skip
     refine ⟨⟨i + 1, by omega, DD hall (by assumption), DD (P := fun j => ∀ k, k < j → ¬ (w.hosts.getD k default).conf.name = (w.hosts.getD j default).conf.name) hno (fun q hq => hk2 q (by omega))⟩, by dsimp only; omega, ?_⟩
     simp -implicitDefEqProofs only [go_sem, hh, seval]
     try simp
  ·have hA : ∀ h ∈ w.hosts, EL h := BR fun j hj => hall j (by omega)
   have hN : (w.hosts.map T5).Nodup := WE fun j hj q hq => hno j (by omega) q hq
   simp -implicitDefEqProofs only [hlt, decide_false, go_sem, hh, seval]
   with_reducible repeat' (first | apply ai | intro _ | ((first | apply s1 | apply s3 | apply s4) <;> intro hb <;> simp -implicitDefEqProofs only [hb, go_sem, hh, seval] <;> try simp only [qz] at hb))
   all_goals first | rfl | omega | skip
   refine AF [] (ι := {i : Nat // i ≤ w.given.length ∧ ∀ j, j < i → ke (w.given.getD j default)}) (fun p => ⟨[(1, .pb 1001 0), (5, .t (.v (.int .i64 p.1)))], [(1001, some (.box ((Ih w).map .t)))]⟩) (fun p => w.given.length - p.1) ⟨0, by simp, by simp⟩ rfl ?_ ?_
   ·simp -implicitDefEqProofs only [go_sem, hh, seval]
    try simp
   ·rintro ⟨k, hk, hall2⟩
    by_cases hlt2 : (k : Int) < w.given.length
    ·simp -implicitDefEqProofs only [hlt2, decide_true, tn, go_sem, hh, seval]
     with_reducible repeat' (first | apply ai | intro _ | ((first | apply s1 | apply s3 | apply s4) <;> intro hb <;> simp -implicitDefEqProofs only [hb, go_sem, hh, seval] <;> try simp only [qz] at hb))
     all_goals (try simp only [maxLen, tn] at *)
     all_goals first
      | rfl
      | omega
      | decide
      | exact uF (fun q => absurd (q.2.2.1 (w.given.getD k default) (AE (by omega))).1 (by simpa using hb))
      | exact uF (fun q => absurd (q.2.2.1 (w.given.getD k default) (AE (by omega))).2.1 (by assumption))
      | exact uF (fun q => absurd (q.2.2.1 (w.given.getD k default) (AE (by omega))).2.2.1 (by assumption))
      | exact uF (fun q => absurd (q.2.2.1 (w.given.getD k default) (AE (by omega))).2.2.2 (by assumption))
      | skip
     all_goals
      refine ⟨⟨k + 1, by omega, DD hall2 ⟨by first | assumption | (simpa using hb), by assumption, by assumption, by assumption⟩⟩, by dsimp only; omega, ?_⟩
      simp -implicitDefEqProofs only [go_sem, hh, seval]
      try simp
    ·have hB : ∀ l ∈ w.given, ke l := BR fun j hj => hall2 j (by omega)
     simp -implicitDefEqProofs only [hlt2, decide_false, go_sem, hh, seval]
     with_reducible repeat' (first | apply ai | intro _ | ((first | apply s1 | apply s3 | apply s4) <;> intro hb <;> simp -implicitDefEqProofs only [hb, go_sem, hh, seval] <;> try simp only [qz] at hb))
     all_goals first
      | rfl
      | omega
      | exact uE ⟨fun q => ⟨hA, hN, hB, by assumption, by assumption, q⟩, fun q => q.2.2.2.2.2⟩
      | exact uF (fun q => absurd q.2.2.2.1 (by assumption))
      | exact uF (fun q => absurd q.2.2.2.2.1 (by assumption))
      | skip
end
section
attribute [local go_sem] rp Wi Wj ru AU AT lm il List.mem_singleton forall_eq List.length_cons List.length_nil List.length_append List.nil_append Nat.zero_add Bool.not_false Bool.not_true
end
section
attribute [local go_sem] rv AU AT lm
end
section
variable {a b c d x : Int}
end
section
attribute [local go_sem] AU AT lm List.map_nil AY BZ Jc
end
open Classical in
noncomputable def JE (d : ByteArray) : Wy → List Wy → Wy
 | b, [] => b
 | b, w :: r => JE d (if QF d w.ends ∧ b.ends.size < w.ends.size then w else b) r
noncomputable def I0 (c : Cf) (d : ByteArray) : ByteArray := (JE d ⟨⟨#[]⟩, ⟨#[]⟩⟩ c.ways).to
theorem bH {d : ByteArray} {b : Wy} {xs : List Wy} {i : Nat} (h : i < xs.length) (h1 : QF d (xs.getD i default).ends) (h2 : b.ends.size < (xs.getD i default).ends.size) : JE d b (xs.drop i) = JE d (xs.getD i default) (xs.drop (i + 1)) := by
 rw [Ae h, JE, if_pos ⟨h1, h2⟩]
theorem bG {d : ByteArray} {b : Wy} {xs : List Wy} {i : Nat} (h : i < xs.length) (h1 : ¬ (QF d (xs.getD i default).ends ∧ b.ends.size < (xs.getD i default).ends.size)) : JE d b (xs.drop i) = JE d b (xs.drop (i + 1)) := by
 rw [Ae h, JE, if_neg h1]
theorem P3 {d : ByteArray} {b : Wy} {xs : List Wy} {i : Nat} (h : xs.length ≤ i) : JE d b (xs.drop i) = b := by
 rw [List.drop_eq_nil_of_le h, JE]
open Classical in
noncomputable def K7 (c : Cf) (d : ByteArray) : ByteArray := if d ∈ c.own then ⟨#[]⟩ else I0 c d
theorem VI {c : Cf} {d : ByteArray} (h : d ∈ c.own) : K7 c d = ⟨#[]⟩ := if_pos h
theorem Hy {c : Cf} {d : ByteArray} (h : ¬ d ∈ c.own) : K7 c d = I0 c d := if_neg h
def Qd : Ct := Aq (lc H3.ag (lc Ap l0)) (fun p => True) (fun p => .t (.v (.string (I0 p.1 p.2.1))))
section
attribute [local go_sem] lU AU AT lm
theorem dJ {G : Gt} (hG : Ah G) (hh : G.e 145 = AA 0 lU) : Gd G 112 (AA 0 Qd) := by
 refine gr (fn := Tryz.f112) (n := 2) rfl rfl hG ?_
 rintro ⟨c, d, ⟨⟩⟩ hpre
 simp -implicitDefEqProofs only [Tryz.f112, go_sem, hh, seval] at hpre ⊢
 refine AF [] (ι := {p : Nat × Wy // p.1 ≤ c.ways.length ∧ I0 c d = (JE d p.2 (c.ways.drop p.1)).to}) (fun p => ⟨[(1, .t (.v (.string d))), (2, .pb 1002 0), (5, .t (.v (.string p.1.2.ends))), (6, .t (.v (.string p.1.2.to))), (7, .t (.v (.int .i64 p.1.1)))], [(1002, some (.box ((DK c).map .t)))]⟩) (fun p => c.ways.length - p.1.1) ⟨(0, ⟨⟨#[]⟩, ⟨#[]⟩⟩), by simp, rfl⟩ rfl ?_ ?_
 ·simp -implicitDefEqProofs only [go_sem, hh, seval]
  try simp
 ·rintro ⟨⟨i, b⟩, hi, hw⟩
  dsimp only at hi hw ⊢
  by_cases hlt : (i : Int) < c.ways.length
  ·simp -implicitDefEqProofs only [hlt, decide_true, tn, go_sem, hh, seval]
   with_reducible repeat' (first | apply ai | intro _ | ((first | apply s1 | apply s3 | apply s4) <;> intro hb <;> simp -implicitDefEqProofs only [hb, go_sem, hh, seval] <;> try simp only [qz] at hb))
   all_goals (try simp only [maxLen, tn] at *)
   all_goals first | rfl | omega | skip
   all_goals first
    | (refine ⟨⟨(i + 1, c.ways.getD i default), by dsimp only; omega, by dsimp only; rw [hw, bH (by omega) (by assumption) (by omega)]⟩, by dsimp only; omega, ?_⟩
       simp -implicitDefEqProofs only [go_sem, hh, seval]
       simp; done)
    | (refine ⟨⟨(i + 1, b), by dsimp only; omega, by dsimp only; rw [hw, bG (by omega) (fun q => by first | exact absurd q.1 (by assumption) | (have := q.2; omega))]⟩, by dsimp only; omega, ?_⟩
       simp -implicitDefEqProofs only [go_sem, hh, seval]
       simp; done)
    | skip
  ·simp -implicitDefEqProofs only [hlt, decide_false, go_sem, hh, seval]
   with_reducible repeat' (first | apply ai | intro _ | ((first | apply s1 | apply s3 | apply s4) <;> intro hb <;> simp -implicitDefEqProofs only [hb, go_sem, hh, seval] <;> try simp only [qz] at hb))
   all_goals first | rfl | omega | (rw [hw, P3 (by omega)]; done) | skip
end
def ma : Ct := Aq (lc H3.ag (lc Ap l0)) (fun p => Gf p.1 ∧ GF p.1 ∧ p.2.1.size ≤ 2000000 ∧ Cc p.2.1) (fun p => .t (.v (.string (K7 p.1 p.2.1))))
section
attribute [local go_sem] cO vY AU AT lm
set_option maxHeartbeats 800000 in
theorem oN {G : Gt} (hG : Ah G) (hh : G.e 36 = AA 0 cO ∧ G.e 82 = AA 0 vY) : Gd G 37 (AA 0 ma) := by
 refine gr (fn := Tryz.f37) (n := 2) rfl rfl hG ?_
 rintro ⟨c, d, ⟨⟩⟩ hpre
 simp -implicitDefEqProofs only [Tryz.f37, go_sem, hh, seval] at hpre ⊢
 obtain ⟨⟨_, _, ⟨lw, zw⟩⟩, hc, hd, hdd⟩ := hpre
 with_reducible repeat' (first | apply ai | intro _ | ((first | apply s1 | apply s3 | apply s4) <;> intro hb <;> simp -implicitDefEqProofs only [hb, go_sem, hh, seval] <;> try simp only [qz] at hb))
 all_goals first | rfl | omega | (rw [VI hb]; done) | skip
 refine AF [] (ι := {p : Nat × Wy // p.1 ≤ c.ways.length ∧ I0 c d = (JE d p.2 (c.ways.drop p.1)).to}) (fun p => ⟨[(1, .t (.v (.string d))), (2, .pb 1002 0), (5, .pb 1005 0), (13, .t (.sl 2 (c.ways.map Bw))), (14, .t (.v (.int .i64 c.ways.length))), (15, .t (.v (.int .i64 p.1.1)))], [(1002, some (.box ((DK c).map .t))), (1005, some (.box ((Bw p.1.2).map .t)))]⟩) (fun p => c.ways.length - p.1.1) ⟨(0, ⟨⟨#[]⟩, ⟨#[]⟩⟩), by simp, rfl⟩ rfl ?_ ?_
 ·simp -implicitDefEqProofs only [go_sem, hh, seval]
  try simp
 ·rintro ⟨⟨i, b⟩, hi, hw⟩
  dsimp only at hi hw ⊢
  by_cases hlt : (i : Int) < c.ways.length
  ·have hm := AE (xs := c.ways) (j := i) (by omega)
   have hz : (c.ways.getD i default).ends.size ≤ 1500000 := by have : (c.ways.getD i default).ends.size ≤ 1048576 := (zw _ hm).1; omega
   have hde := (hc.2.1 _ hm).1
   simp -implicitDefEqProofs only [hlt, decide_true, tn, go_sem, hh, seval]
   with_reducible repeat' (first | apply ai | intro _ | ((first | apply s1 | apply s3 | apply s4) <;> intro hb <;> simp -implicitDefEqProofs only [hb, go_sem, hh, seval] <;> try simp only [qz] at hb))
   all_goals (try simp only [maxLen, tn] at *)
   all_goals first | rfl | omega | skip
   all_goals first
    | (refine ⟨⟨(i + 1, c.ways.getD i default), by dsimp only; omega, by dsimp only; rw [hw, bH (by omega) (And.right (And.right (by assumption))) (by omega)]⟩, by dsimp only; omega, ?_⟩
       simp -implicitDefEqProofs only [go_sem, hh, seval]
       simp; done)
    | (refine ⟨⟨(i + 1, b), by dsimp only; omega, by dsimp only; rw [hw, bG (by omega) (fun q => by first | exact absurd (And.intro hdd (And.intro hde q.1)) (by assumption) | (have := q.2; omega))]⟩, by dsimp only; omega, ?_⟩
       simp -implicitDefEqProofs only [go_sem, hh, seval]
       simp; done)
    | skip
  ·simp -implicitDefEqProofs only [hlt, decide_false, go_sem, hh, seval]
   with_reducible repeat' (first | apply ai | intro _ | ((first | apply s1 | apply s3 | apply s4) <;> intro hb <;> simp -implicitDefEqProofs only [hb, go_sem, hh, seval] <;> try simp only [qz] at hb))
   all_goals first | rfl | omega | (rw [Hy (by assumption), hw, P3 (by omega)]; done) | skip
end
def HF (c : Cf) (to : ByteArray) (w : Int) (r : Rc) : Prop := r.next ≤ w ∧ ((r.addr.domain ∈ c.own ∧ to = ⟨#[]⟩) ∨ (¬ r.addr.domain ∈ c.own ∧ ¬ to = ⟨#[]⟩ ∧ I0 c r.addr.domain = to))
noncomputable def Af (c : Cf) (to : ByteArray) (w : Int) : List Rc → List Ad
 | [] => []
 | r :: t => bif BL (HF c to w r) then r.addr :: Af c to w t else Af c to w t
section
variable {c : Cf} {to : ByteArray} {w : Int} {xs : List Rc} {i : Nat}
theorem Kh (h : i < xs.length) (hn : HF c to w (xs.getD i default)) : Af c to w (xs.drop i) = (xs.getD i default).addr :: Af c to w (xs.drop (i + 1)) := by
 rw [Ae h, Af, Ak hn]; rfl
theorem NP (h : i < xs.length) (hn : ¬ HF c to w (xs.getD i default)) : Af c to w (xs.drop i) = Af c to w (xs.drop (i + 1)) := by
 rw [Ae h, Af, AO hn]; rfl
theorem Hk (h : xs.length ≤ i) : Af c to w (xs.drop i) = [] := by
 rw [List.drop_eq_nil_of_le h, Af]
end
theorem El (c : Cf) (to : ByteArray) (w : Int) : ∀ xs : List Rc, (Af c to w xs).length ≤ xs.length
 | [] => Nat.le_refl _
 | r :: t => by
   rw [Af]
   have := El c to w t
   cases BL (HF c to w r) <;> simp only [cond_true, cond_false, List.length_cons] <;> omega
theorem DO (c : Cf) (to : ByteArray) (w : Int) : ∀ xs : List Rc, ∀ a ∈ Af c to w xs, ∃ r ∈ xs, r.addr = a ∧ HF c to w r
 | [], a, h => by cases h
 | r :: t, a, h => by
   rw [Af] at h
   by_cases hn : HF c to w r
   ·rw [Ak hn] at h
    rcases List.mem_cons.1 h with e | h
    ·exact ⟨r, by simp, e.symm, hn⟩
    ·obtain ⟨q, hq, he⟩ := DO c to w t a h
     exact ⟨q, by simp [hq], he⟩
   ·rw [AO hn] at h
    obtain ⟨q, hq, he⟩ := DO c to w t a h
    exact ⟨q, by simp [hq], he⟩
noncomputable def Fg (c : Cf) (x : Im) (to : ByteArray) (w : Int) : Ml := ⟨x.frm, Af c to w x.to, x.body⟩
def WM (p : Ml × Bool) : AV := .tup [RZ p.1, .t (.v (.bool p.2))]
theorem Kf (p : Ml × Bool) : BW (WM p) := .tup _ fun c hc => by
 simp only [List.mem_cons, List.not_mem_nil, or_false] at hc
 rcases hc with rfl | rfl
 ·exact G5 _
 ·exact .v _
def RJ : Ml := ⟨⟨⟨#[]⟩, ⟨#[]⟩⟩, [], []⟩
open Classical in
noncomputable def Jk (h : Hs) (n : Int) (to : ByteArray) (w : Int) : Ml × Bool :=
 if EL h ∧ ¬ Ax h.spool n < 0 ∧ (to = ⟨#[]⟩ ∨ Cc to) ∧ ¬ Af h.conf to w (Ai h.spool n).to = [] then (Fg h.conf (Ai h.spool n) to w, true) else (RJ, false)
theorem MR {h : Hs} {n : Int} {to : ByteArray} {w : Int} (q : EL h ∧ ¬ Ax h.spool n < 0 ∧ (to = ⟨#[]⟩ ∨ Cc to) ∧ ¬ Af h.conf to w (Ai h.spool n).to = []) : Jk h n to w = (Fg h.conf (Ai h.spool n) to w, true) := if_pos q
theorem Fo {h : Hs} {n : Int} {to : ByteArray} {w : Int} (q : ¬ (EL h ∧ ¬ Ax h.spool n < 0 ∧ (to = ⟨#[]⟩ ∨ Cc to) ∧ ¬ Af h.conf to w (Ai h.spool n).to = [])) : Jk h n to w = (RJ, false) := if_neg q
theorem G8 {xs : List Ad} {a : Ad} : (xs ++ [a]).map Ao = xs.map Ao ++ [[.v (.string a.user), .v (.string a.domain)]] := by
 rw [List.map_append]; rfl
def sA : Ct := Aq (lc Ep.ag (lc Ia.ag (lc BI (lc Ap (lc BI l0))))) (fun p => 0 ≤ p.2.2.1 ∧ p.2.2.1 < p.2.1.to.length) (fun p => .t (.v (.bool (BL (HF p.1.conf p.2.2.2.1 p.2.2.2.2.1 (p.2.1.to.getD p.2.2.1.toNat default))))))
section
attribute [local go_sem] cR Qd AU AT lm
set_option maxHeartbeats 800000 in
theorem pO {G : Gt} (hG : Ah G) (hh : G.e 85 = AA 0 cR ∧ G.e 112 = AA 0 Qd) : Gd G 90 (AA 0 sA) := by
 refine gr (fn := Tryz.f90) (n := 5) rfl rfl hG ?_
 rintro ⟨h, x, k, to, w, ⟨⟩⟩ hpre
 simp -implicitDefEqProofs only [Tryz.f90, go_sem, hh, seval] at hpre ⊢
 obtain ⟨hk0, hk1⟩ := hpre
 with_reducible repeat' (first | apply ai | intro _ | ((first | apply s1 | apply s3 | apply s4) <;> intro hb <;> simp -implicitDefEqProofs only [hb, go_sem, hh, seval] <;> try simp only [qz] at hb))
 all_goals (try simp only [maxLen] at *)
 all_goals first
  | rfl
  | omega
  | exact uF (fun q => by have := q.1; omega)
  | exact uD ⟨fun q => ⟨by omega, .inl ⟨by assumption, q⟩⟩, fun q => q.2.elim (fun z => z.2) fun z => absurd (by assumption) z.1⟩
  | exact uD ⟨fun q => ⟨by omega, .inr ⟨by assumption, by simpa using hb, q⟩⟩, fun q => q.2.elim (fun z => absurd z.1 (by assumption)) fun z => z.2.2⟩
  | exact uF (fun q => q.2.elim (fun z => absurd z.1 (by assumption)) fun z => z.2.1 (by simpa using hb))
  | skip
end
def rq : Ct := Aq (lc Ep.ag (lc BI (lc Ap (lc BI l0)))) (fun p => GG p.1 ∧ 0 ≤ p.2.1 ∧ p.2.1 < p.1.spool.items.length) (fun p => RZ (Fg p.1.conf (p.1.spool.items.getD p.2.1.toNat default) p.2.2.1 p.2.2.2.1))
section
attribute [local go_sem] sA AU AT lm List.length_append List.length_cons List.length_nil List.map_nil Nat.zero_add List.nil_append AS.opn AS.cls AS.nilb AS.renb AS.up Bool.not_false Bool.not_true List.set_set List.set_cons_zero List.set_cons_succ List.set_nil List.mem_singleton forall_eq
set_option maxHeartbeats 1600000 in
theorem oR {G : Gt} (hG : Ah G) (hh : G.e 90 = AA 0 sA) : Gd G 41 (AA 0 rq) := by
 refine Nh (dp := fun n => !(Nat.beq n 100003 || Nat.beq n 100005)) (fn := Tryz.f41) (n := 4) rfl rfl hG ?_ (hs := fun _ p => G5 _)
 rintro ⟨h, n, to, w, ⟨⟩⟩ hpre
 simp -implicitDefEqProofs only [Tryz.f41, go_sem, hh, seval] at hpre ⊢
 obtain ⟨⟨_, ⟨_, hsz⟩, _⟩, hn0, hn1⟩ := hpre
 try dsimp only at hn0 hn1
 obtain ⟨ni, rfl⟩ := Int.eq_ofNat_of_zero_le hn0
 have hx := hsz _ (AE (xs := h.spool.items) (j := ni) (by omega))
 obtain ⟨_, ⟨hl1, _⟩, ⟨hl2, _⟩⟩ := hx
 simp only [tn] at *
 with_reducible repeat' (first | apply ai | intro _ | ((first | apply s1 | apply s3 | apply s4) <;> intro hb <;> simp -implicitDefEqProofs only [hb, go_sem, hh, seval] <;> try simp only [qz] at hb))
 all_goals (try simp only [maxLen] at *)
 all_goals first | rfl | omega | assumption | decide | skip
 all_goals
  refine Ag (Le.nilb 1010 2 1901 true 2 rfl rfl rfl) (Ab ?_)
  simp -implicitDefEqProofs only [go_sem, hh, seval]
  refine AF [] (ι := {p : Nat × List Ad // p.1 ≤ (h.spool.items.getD ni default).to.length ∧ p.2.length ≤ p.1 ∧ Af h.conf to w (h.spool.items.getD ni default).to = p.2 ++ Af h.conf to w ((h.spool.items.getD ni default).to.drop p.1)}) (fun p => ⟨[(2, .t (.v (.string to))), (3, .t (.v (.int .i64 w))), (4, .pb 1004 0), (8, .pb 1008 0), (9, .pb 1009 0), (10, .pb 1010 0), (11, .t (.v (.int .i64 p.1.1)))], [(1008, some (.box [.t (.v (.string ⟨#[]⟩)), .t (.v (.string ⟨#[]⟩)), .nil, .nil])), (1004, some (.box ((Al h).map .t))), (1009, some (.box ((Az (h.spool.items.getD ni default)).map .t))), (1010, some (.box [.t (.v (.string (h.spool.items.getD ni default).frm.user)), .t (.v (.string (h.spool.items.getD ni default).frm.domain)), .h 1901, .h 1023])), (1023, some (.arr true 1 ((h.spool.items.getD ni default).body.map AH))), (1901, some (.arr true 2 (p.1.2.map Ao)))]⟩) (fun p => (h.spool.items.getD ni default).to.length - p.1.1) ⟨(0, []), by simp, by simp, rfl⟩ rfl ?_ ?_
  ·simp -implicitDefEqProofs only [go_sem, hh, seval]
   try simp
  ·rintro ⟨⟨i, L⟩, hi, hL, hq⟩
   dsimp only at hi hL hq ⊢
   by_cases hlt : (i : Int) < (h.spool.items.getD ni default).to.length
   ·simp -implicitDefEqProofs only [hlt, decide_true, tn, go_sem, hh, seval]
    with_reducible repeat' (first | apply ai | intro _ | ((first | apply s1 | apply s3 | apply s4) <;> intro hb <;> simp -implicitDefEqProofs only [hb, go_sem, hh, seval] <;> try simp only [qz] at hb))
    all_goals (try simp only [maxLen, tn] at *)
    all_goals first | rfl | omega | assumption | decide | skip
    ·refine Ag (Le.renb 1010 2 1047 1901 rfl rfl rfl rfl) (Ab ?_)
     simp -implicitDefEqProofs only [go_sem, hh, seval]
     with_reducible repeat' (first | apply ai | intro _ | ((first | apply s1 | apply s3 | apply s4) <;> intro hb <;> simp -implicitDefEqProofs only [hb, go_sem, hh, seval] <;> try simp only [qz] at hb))
     all_goals first | rfl | omega | decide | skip
     refine ⟨⟨(i + 1, L ++ [((h.spool.items.getD ni default).to.getD i default).addr]), by dsimp only; omega, by simp; omega, by dsimp only; rw [hq, Kh (by omega) (by assumption)]; simp⟩, by dsimp only; omega, ?_⟩
     simp -implicitDefEqProofs only [go_sem, hh, seval]
     simp only [G8]
     with_reducible repeat' (first | apply ai | intro _ | ((first | apply s1 | apply s3 | apply s4) <;> intro hb <;> simp -implicitDefEqProofs only [hb, go_sem, hh, seval] <;> try simp only [qz] at hb))
     all_goals first | rfl | (simp; done) | skip
    ·refine Ab ?_
     simp -implicitDefEqProofs only [go_sem, hh, seval]
     with_reducible repeat' (first | apply ai | intro _ | ((first | apply s1 | apply s3 | apply s4) <;> intro hb <;> simp -implicitDefEqProofs only [hb, go_sem, hh, seval] <;> try simp only [qz] at hb))
     all_goals first | rfl | omega | decide | skip
     refine ⟨⟨(i + 1, L), by dsimp only; omega, by dsimp only; omega, by dsimp only; rw [hq, NP (by omega) (by assumption)]⟩, by dsimp only; omega, ?_⟩
     simp -implicitDefEqProofs only [go_sem, hh, seval]
     try simp
   ·have hend : Af h.conf to w (h.spool.items.getD ni default).to = L := by rw [hq, Hk (by omega), List.append_nil]
    simp -implicitDefEqProofs only [hlt, decide_false, Fg, hend, go_sem, hh, seval]
    with_reducible repeat' (first | apply ai | intro _ | ((first | apply s1 | apply s3 | apply s4) <;> intro hb <;> simp -implicitDefEqProofs only [hb, go_sem, hh, seval] <;> try simp only [qz] at hb))
    all_goals first | rfl | omega | decide | skip
end
def c8 : Ct := Aq (lc Ep.ag (lc BI (lc Ap (lc BI l0)))) (fun p => GG p.1) (fun p => WM (Jk p.1 p.2.1 p.2.2.1 p.2.2.2.1))
section
attribute [local go_sem] cP mb Xt rq AU AT lm WM RJ Fg List.map_nil List.length_nil
set_option maxHeartbeats 1600000 in
theorem sk {G : Gt} (hG : Ah G) (hh : G.e 38 = AA 0 cP ∧ G.e 39 = AA 0 mb ∧ G.e 40 = AA 0 Xt ∧ G.e 41 = AA 0 rq) : Gd G 8 (AA 0 c8) := by
 refine gr (fn := Tryz.f8) (n := 4) rfl rfl hG ?_ (hs := fun _ p => Kf _)
 rintro ⟨h, n, to, w, ⟨⟩⟩ hpre
 have hok : GG h := hpre
 dsimp only
 by_cases q : EL h ∧ ¬ Ax h.spool n < 0 ∧ (to = ⟨#[]⟩ ∨ Cc to) ∧ ¬ Af h.conf to w (Ai h.spool n).to = []
 ·rw [MR q]
  obtain ⟨q1, q2, q3, q4⟩ := q
  have b1 := Ak q1
  have q2' : ¬ A5 (fun x : Im => x.id = n) 0 h.spool.items < 0 := q2
  obtain ⟨a0, a1⟩ := Bg q2
  have a0' : 0 ≤ A5 (fun x : Im => x.id = n) 0 h.spool.items := a0
  have a1' : A5 (fun x : Im => x.id = n) 0 h.spool.items < h.spool.items.length := a1
  have q4' : ¬ ((Af h.conf to w (h.spool.items.getD (A5 (fun x : Im => x.id = n) 0 h.spool.items).toNat default).to).length : Int) = 0 := fun e => q4 (List.eq_nil_of_length_eq_zero (by unfold Ai Ax; omega))
  simp -implicitDefEqProofs only [Tryz.f8, b1, q2', q4', decide_false, go_sem, hh, seval]
  with_reducible repeat' (first | apply ai | intro _ | ((first | apply s1 | apply s3 | apply s4) <;> intro hb <;> simp -implicitDefEqProofs only [hb, go_sem, hh, seval] <;> try simp only [qz] at hb))
  all_goals first | rfl | omega | assumption | decide | (exfalso; rcases q3 with q3 | q3 <;> simp_all; done) | skip
  all_goals trace_state
 ·rw [Fo q]
  by_cases q1 : EL h
  ·have b1 := Ak q1
   by_cases q2 : Ax h.spool n < 0
   ·have q2' : A5 (fun x : Im => x.id = n) 0 h.spool.items < 0 := q2
    simp -implicitDefEqProofs only [Tryz.f8, b1, q2', decide_true, go_sem, hh, seval]
    with_reducible repeat' (first | apply ai | intro _ | ((first | apply s1 | apply s3 | apply s4) <;> intro hb <;> simp -implicitDefEqProofs only [hb, go_sem, hh, seval] <;> try simp only [qz] at hb))
    all_goals first | rfl | omega | assumption | decide | skip
   ·have q2' : ¬ A5 (fun x : Im => x.id = n) 0 h.spool.items < 0 := q2
    obtain ⟨a0, a1⟩ := Bg q2
    have a0' : 0 ≤ A5 (fun x : Im => x.id = n) 0 h.spool.items := a0
    have a1' : A5 (fun x : Im => x.id = n) 0 h.spool.items < h.spool.items.length := a1
    by_cases q3 : to = ⟨#[]⟩ ∨ Cc to
    ·have q4 : ((Af h.conf to w (h.spool.items.getD (A5 (fun x : Im => x.id = n) 0 h.spool.items).toNat default).to).length : Int) = 0 := by
       have : Af h.conf to w (Ai h.spool n).to = [] := Classical.byContradiction fun z => q ⟨q1, q2, q3, z⟩
       unfold Ai Ax at this
       rw [this]; rfl
     simp -implicitDefEqProofs only [Tryz.f8, b1, q2', q4, decide_true, decide_false, go_sem, hh, seval]
     with_reducible repeat' (first | apply ai | intro _ | ((first | apply s1 | apply s3 | apply s4) <;> intro hb <;> simp -implicitDefEqProofs only [hb, go_sem, hh, seval] <;> try simp only [qz] at hb))
     all_goals first | rfl | omega | assumption | decide | skip
    ·have q5 : ¬ to = ⟨#[]⟩ := fun e => q3 (.inl e)
     have b5 := AO (fun e => q3 (.inr e))
     simp -implicitDefEqProofs only [Tryz.f8, b1, b5, q2', q5, decide_true, decide_false, go_sem, hh, seval]
     with_reducible repeat' (first | apply ai | intro _ | ((first | apply s1 | apply s3 | apply s4) <;> intro hb <;> simp -implicitDefEqProofs only [hb, go_sem, hh, seval] <;> try simp only [qz] at hb))
     all_goals first | rfl | omega | assumption | decide | exact absurd (Or.inr (by assumption)) q3 | exact absurd (Or.inl (by assumption)) q3 | skip
  ·have b1 := AO q1
   simp -implicitDefEqProofs only [Tryz.f8, b1, go_sem, hh, seval]
   with_reducible repeat' (first | apply ai | intro _ | ((first | apply s1 | apply s3 | apply s4) <;> intro hb <;> simp -implicitDefEqProofs only [hb, go_sem, hh, seval] <;> try simp only [qz] at hb))
   all_goals first | rfl | omega | assumption | decide | contradiction | skip
end
theorem Wz {n : Int} : Nu.sem (.part n) = fun x : Im => x.id = n := rfl
theorem bd {h : Hs} (hh : EL h) {i k : Nat} (hi : i < h.spool.items.length) (hk : k < (h.spool.items.getD i default).to.length) : Cc ((h.spool.items.getD i default).to.getD k default).addr.domain :=
 ((hh.2.2.1 _ (AE hi)).1.1 _ (AE hk)).1.2
end Go.V
