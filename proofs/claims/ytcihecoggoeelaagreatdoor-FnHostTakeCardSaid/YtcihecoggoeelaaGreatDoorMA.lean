/- The row. No condition. -/
import Derived.Test.YtcihecoggoeelaaGreatDoorZB
import Derived.Test.YtcihecoggoeelaaGreatDoorProg
import Derived.KernelRfl
import Derived.Lib.IndexMore
import Derived.Lib.IndexEntry
import Derived.Lib.RabinKarpLaws
import Derived.Lib.Split
import Derived.DeepKeys4
import Derived.Lib.Bytealg
namespace Go.V
open Go Go.Proofs
theorem zW : AK Tryz.prog 3 = some ⟨.int .i64, 1, 8, [.int .i64 0]⟩ := by kernel_rfl
theorem zX : AK Tryz.prog 4 = some ⟨.bool, 1, 1, [.bool false]⟩ := by kernel_rfl
theorem zY : AK Tryz.prog 5 = some ⟨.int .u8, 1, 1, [.int .u8 0]⟩ := by kernel_rfl
theorem zZ : AK Tryz.prog 9 = some ⟨.str, 1, 16, [.string ⟨#[]⟩]⟩ := by kernel_rfl
theorem wk : AK Tryz.prog 22 = some ⟨.slice 5, 1, 24, [.slice none 0 0]⟩ := by kernel_rfl
theorem wl : AK Tryz.prog 23 = some ⟨.slice 9, 1, 24, [.slice none 0 0]⟩ := by kernel_rfl
theorem wm : AK Tryz.prog 24 = some ⟨.slice 126, 1, 24, [.slice none 0 0]⟩ := by kernel_rfl
theorem wn : AK Tryz.prog 26 = some ⟨.struct [(0, 1, false), (1, 1, false), (2, 1, false)], 3, 64, [.string ⟨#[]⟩, .slice none 0 0, .slice none 0 0]⟩ := by kernel_rfl
theorem wo : AK Tryz.prog 27 = some ⟨.slice 48, 1, 24, [.slice none 0 0]⟩ := by kernel_rfl
theorem wq : AK Tryz.prog 29 = some ⟨.struct [(0, 1, false), (1, 1, false)], 2, 32, [.int .i64 0, .slice none 0 0]⟩ := by kernel_rfl
theorem wr : AK Tryz.prog 30 = some ⟨.slice 63, 1, 24, [.slice none 0 0]⟩ := by kernel_rfl
theorem wt : AK Tryz.prog 31 = some ⟨.slice 100, 1, 24, [.slice none 0 0]⟩ := by kernel_rfl
theorem wu : AK Tryz.prog 33 = some ⟨.struct [(0, 3, true), (3, 2, true), (5, 1, false), (6, 1, false)], 7, 144, [.string ⟨#[]⟩, .slice none 0 0, .slice none 0 0, .int .i64 0, .slice none 0 0, .slice none 0 0, .slice none 0 0]⟩ := by kernel_rfl
theorem wv : AK Tryz.prog 37 = some ⟨.struct [(0, 1, false), (1, 1, false)], 2, 32, [.string ⟨#[]⟩, .string ⟨#[]⟩]⟩ := by kernel_rfl
theorem ww : AK Tryz.prog 38 = some ⟨.slice 37, 1, 24, [.slice none 0 0]⟩ := by kernel_rfl
theorem wx : AK Tryz.prog 40 = some ⟨.struct [(0, 2, true), (2, 1, false), (3, 1, false)], 4, 80, [.string ⟨#[]⟩, .string ⟨#[]⟩, .slice none 0 0, .slice none 0 0]⟩ := by kernel_rfl
theorem wy : AK Tryz.prog 46 = some ⟨.slice 50, 1, 24, [.slice none 0 0]⟩ := by kernel_rfl
theorem wz : AK Tryz.prog 48 = some ⟨.struct [(0, 1, false), (1, 2, true), (3, 1, false), (4, 1, false)], 5, 88, [.int .i64 0, .string ⟨#[]⟩, .string ⟨#[]⟩, .slice none 0 0, .slice none 0 0]⟩ := by kernel_rfl
theorem w3 : AK Tryz.prog 50 = some ⟨.struct [(0, 2, true), (2, 1, false), (3, 1, false)], 4, 48, [.string ⟨#[]⟩, .string ⟨#[]⟩, .int .i64 0, .int .i64 0]⟩ := by kernel_rfl
theorem w4 : AK Tryz.prog 53 = some ⟨.slice 33, 1, 24, [.slice none 0 0]⟩ := by kernel_rfl
theorem w6 : AK Tryz.prog 55 = some ⟨.struct [(0, 1, false), (1, 1, false), (2, 1, false), (3, 1, false)], 4, 64, [.slice none 0 0, .int .i64 0, .int .i64 0, .slice none 0 0]⟩ := by kernel_rfl
theorem w7 : AK Tryz.prog 58 = some ⟨.slice 104, 1, 24, [.slice none 0 0]⟩ := by kernel_rfl
theorem w8 : AK Tryz.prog 63 = some ⟨.struct [(0, 2, true), (2, 1, false)], 3, 56, [.string ⟨#[]⟩, .string ⟨#[]⟩, .slice none 0 0]⟩ := by kernel_rfl
theorem w9 : AK Tryz.prog 64 = some ⟨.slice 3, 1, 24, [.slice none 0 0]⟩ := by kernel_rfl
theorem mP : AK Tryz.prog 100 = some ⟨.struct [(0, 1, false), (1, 2, true)], 3, 48, [.string ⟨#[]⟩, .string ⟨#[]⟩, .string ⟨#[]⟩]⟩ := by kernel_rfl
theorem mQ : AK Tryz.prog 104 = some ⟨.struct [(0, 2, true), (2, 1, false)], 3, 56, [.string ⟨#[]⟩, .string ⟨#[]⟩, .slice none 0 0]⟩ := by kernel_rfl
theorem mR : AK Tryz.prog 121 = some ⟨.struct [(0, 1, false), (1, 1, false)], 2, 32, [.slice none 0 0, .int .i64 0]⟩ := by kernel_rfl
theorem mS : AK Tryz.prog 126 = some ⟨.struct [(0, 1, false), (1, 1, false)], 2, 32, [.string ⟨#[]⟩, .string ⟨#[]⟩]⟩ := by kernel_rfl
theorem By : AK Tryz.prog 136 = some ⟨.map 37 4, 1, 8, [.map none]⟩ := by kernel_rfl
theorem mT : AK Tryz.prog 159 = some ⟨.slice 26, 1, 24, [.slice none 0 0]⟩ := by kernel_rfl
theorem mU : AK Tryz.prog 160 = some ⟨.slice 167, 1, 24, [.slice none 0 0]⟩ := by kernel_rfl
theorem mV : AK Tryz.prog 167 = some ⟨.struct [(0, 1, false), (1, 1, false), (2, 1, false), (3, 1, false), (4, 1, false), (5, 1, false), (6, 4, true)], 10, 128, [.int .i64 0, .int .i64 0, .int .i64 0, .int .i64 0, .int .i64 0, .bool false, .string ⟨#[]⟩, .string ⟨#[]⟩, .slice none 0 0, .slice none 0 0]⟩ := by kernel_rfl
theorem mW : AK Tryz.prog 172 = some ⟨.slice 23, 1, 24, [.slice none 0 0]⟩ := by kernel_rfl
theorem wj : AK Tryz.prog 179 = some ⟨.arr 256 4, 256, 256, List.replicate 256 (.bool false)⟩ := by kernel_rfl
theorem mX : AK Tryz.prog 198 = some ⟨.slice 40, 1, 24, [.slice none 0 0]⟩ := by kernel_rfl
theorem mY : AK Tryz.prog 208 = some ⟨.struct [(0, 1, false), (1, 4, true), (5, 1, false), (6, 1, false), (7, 1, false)], 8, 136, [.string ⟨#[]⟩, .string ⟨#[]⟩, .string ⟨#[]⟩, .slice none 0 0, .slice none 0 0, .int .i64 0, .int .i64 0, .slice none 0 0]⟩ := by kernel_rfl
theorem mZ : AK Tryz.prog 211 = some ⟨.struct [(0, 1, false), (1, 4, true), (5, 1, false), (6, 1, false)], 7, 112, [.int .i64 0, .string ⟨#[]⟩, .string ⟨#[]⟩, .slice none 0 0, .slice none 0 0, .bool false, .string ⟨#[]⟩]⟩ := by kernel_rfl
theorem ma : AK Tryz.prog 223 = some ⟨.int .u32, 1, 4, [.int .u32 0]⟩ := by kernel_rfl
theorem DO : it Tryz.prog 37 = some [.s, .s] := by kernel_rfl
theorem va : it Tryz.prog 50 = some [.s, .s, .i .i64, .i .i64] := by kernel_rfl
theorem lN : it Tryz.prog 100 = some [.s, .s, .s] := by kernel_rfl
theorem lO : it Tryz.prog 126 = some [.s, .s] := by kernel_rfl
theorem vO : Tryz.prog.follows .mixedOrders = true := by kernel_rfl
instance : Inhabited ByteArray := ⟨⟨#[]⟩⟩
def A6 (a : Int) : List T := [.v (.int .i64 a)]
def ZP : List T → Option Int
 | [.v (.int .i64 x)] => some x
 | _ => none
def D8 : Ee Int where
 enc := A6
 dec := ZP
 n := 1
 ed := fun _ => rfl
 de := fun c a h => by unfold ZP at h; split at h <;> cases h; rfl
 len := fun _ => rfl
theorem MM (a : Int) : A6 a = [.v (.int .i64 a)] := rfl
theorem Of (xs : List Int) (n : Int) (s : AS) (K : Kt) : Ei 1 (xs.map A6) n s K = (0 ≤ n ∧ n < xs.length ∧ K (.t (.rop (A6 (xs.getD n.toNat default)))) s) := BW A6 xs 1 n s K fun _ => rfl
theorem J8 {b : Int} : D8.dec [.v (.int .i64 b)] = some b := rfl
theorem Ud (xs : List Int) : D8.decL (xs.map A6) = some xs := D8.decL_map xs
theorem O5 : D8.decL [] = some [] := rfl
theorem OM : D8.enc = A6 := rfl
theorem Xw : D8.n = 1 := rfl
theorem OJ (xs : List Int) : Ec (xs.map A6) = True := eq_true (Ed A6 (by intro a t ht; simp [A6] at ht; exact ⟨_, ht⟩) xs)
theorem VC (xs : List Int) : (∀ c ∈ xs.map A6, c.length = 1) = True := eq_true fun c hc => by
 obtain ⟨a, _, rfl⟩ := List.mem_map.1 hc; rfl
theorem J3 (xs : List Int) (i : Nat) (s : Int) : (xs.map A6).set i [.v (.int .i64 s)] = (xs.set i s).map A6 := J4 A6 xs i s rfl
theorem MN (a : ByteArray) : AG a = [.v (.string a)] := rfl
theorem Og (xs : List ByteArray) (n : Int) (s : AS) (K : Kt) : Ei 1 (xs.map AG) n s K = (0 ≤ n ∧ n < xs.length ∧ K (.t (.rop (AG (xs.getD n.toNat default)))) s) := BW AG xs 1 n s K fun _ => rfl
theorem J9 {b : ByteArray} : Al.dec [.v (.string b)] = some b := rfl
theorem NP (xs : List ByteArray) : Al.decL (xs.map AG) = some xs := Al.decL_map xs
theorem O6 : Al.decL [] = some [] := rfl
theorem ON : Al.enc = AG := rfl
theorem Xx : Al.n = 1 := rfl
theorem HP (xs : List ByteArray) : Ec (xs.map AG) = True := eq_true (Ed AG (by intro a t ht; simp [AG] at ht; exact ⟨_, ht⟩) xs)
theorem Nf (xs : List ByteArray) : (∀ c ∈ xs.map AG, c.length = 1) = True := eq_true fun c hc => by
 obtain ⟨a, _, rfl⟩ := List.mem_map.1 hc; rfl
theorem an {α β : Type} {A : AD α} {L : AL β} {a : α} {b : β} : (lc A L).enc (a, b) = A.enc a :: L.enc b := rfl
theorem al {a : Unit} : l0.enc a = [] := rfl
theorem UB {α : Type} {E : Ee α} {xs : List α} : E.asl.enc xs = .t (.sl E.n (xs.map E.enc)) := rfl
theorem YV {α : Type} {E : Ee α} {a : α} : E.ag.enc a = .agg ((E.enc a).map .t) := rfl
theorem T8 {α : Type} {E : Ee α} {d : Bool} {n : Nat} {xs : List α} : (E.aow d n).enc xs = .o d n (xs.map E.enc) := rfl
theorem OG {b : Int} : BF.enc b = .t (.v (.int .i64 b)) := rfl
theorem Sq {b : Int} : md.enc b = .t (.v (.int .u8 b)) := rfl
theorem OI {b : ByteArray} : Aq.enc b = .t (.v (.string b)) := rfl
theorem AZ {α : Type} [Inhabited α] {xs : List α} {i : Nat} (h : i < xs.length) : xs.drop i = xs.getD i default :: xs.drop (i + 1) := Wt h
theorem lr {k : Nat} {c : Ct} : (AA k c).kd = k := rfl
theorem lu {k : Nat} {c : Ct} : (AA k c).ro = c := rfl
theorem lS {c : Mt} : (AM c).kd = 2 := rfl
theorem lT {c : Mt} : (AM c).mu = c := rfl
open Classical in
noncomputable def BM (p : Prop) : Bool := decide p
theorem AX {p : Prop} : (BM p = true) = p := by unfold BM; simp
theorem AW {p : Prop} : (BM p = false) = ¬ p := by unfold BM; simp
theorem Ae {p : Prop} (h : p) : BM p = true := by rw [AX]; exact h
theorem AN {p : Prop} (h : ¬ p) : BM p = false := by rw [AW]; exact h
theorem BR {p : Prop} [Decidable p] : BM p = decide p := by
 by_cases h : p
 ·rw [Ae h, decide_eq_true h]
 ·rw [AN h, decide_eq_false h]
theorem E8 {p : Prop} : (!BM p) = BM (¬ p) := by
 by_cases h : p
 ·rw [Ae h, AN (fun q => q h)]; rfl
 ·rw [AN h, Ae h]; rfl
theorem AR {p q : Prop} (h : p ↔ q) : BM p = BM q := by rw [propext h]
theorem qa {p : Prop} [Decidable p] : (decide p = true) = p := by simp
theorem qb {p : Prop} [Decidable p] : (decide p = false) = ¬ p := by simp
theorem qc {b : Bool} : ((!b) = true) = (b = false) := by simp
theorem qd {b : Bool} : ((!b) = false) = (b = true) := by simp
theorem qe {b : Bool} : (¬ b = true) = (b = false) := by simp
theorem qf {b : Bool} : (¬ b = false) = (b = true) := by simp
theorem qg {p : Prop} : (¬ ¬ p) = p := by simp
theorem qz : (∀ (p : Prop) [Decidable p], (decide p = true) = p) ∧ (∀ (p : Prop) [Decidable p], (decide p = false) = ¬ p) ∧ (∀ b : Bool, ((!b) = true) = (b = false)) ∧ (∀ b : Bool, ((!b) = false) = (b = true)) ∧ (∀ b : Bool, (¬ b = true) = (b = false)) ∧ (∀ b : Bool, (¬ b = false) = (b = true)) ∧ (∀ p : Prop, (¬ ¬ p) = p) ∧ (∀ p : Prop, (BM p = true) = p) ∧ (∀ p : Prop, (BM p = false) = ¬ p) := ⟨fun _ _ => qa, fun _ _ => qb, fun _ => qc, fun _ => qd, fun _ => qe, fun _ => qf, fun _ => qg, fun _ => AX, fun _ => AW⟩
abbrev Ah (G : Gt) : Prop := La Tryz.prog G ∧ Eg G
abbrev Gd (G : Gt) (f : FuncId) (e : Qq) : Prop := Gx Tryz.prog G.m f e
theorem gR {G : Gt} {dp : Nat → Bool} {f : FuncId} {fn : Func} {c : Code} {α : Type} {L : AL α} {pre : α → Prop} {r : α → AV} {kd n : Nat} (hn : ∀ a, (L.enc a).length = n) (hf : Tryz.prog.funcs[f]? = some fn) (hb : fn.body = some c) (hok : Nj fn c = true) (hG : Ah G)
    (hlen : n ≤ fn.ntmps) (ok : A9 Tryz.prog f = true) (hk : ¬ kd = 3) (hs : kd = 0 → ∀ a, BV (r a)) (h : ∀ a, pre a → run Tryz.prog G dp (OA Tryz.prog fn.results.toList (AT 900 0 (L.enc a) ⟨[], []⟩).avs (L.enc a) (r a)) [.c c] (s0 (L.enc a))) : Gd G f (AA kd (Ak L pre r)) := aR hn hf hb hok vO hG hlen ok hk hs h
theorem gM {G : Gt} {dp : Nat → Bool} {f : FuncId} {fn : Func} {c : Code} {α : Type} {L : AL α} {pre : α → Prop} {r : α → List AV × AV} {n : Nat} (hn : ∀ a, (L.enc a).length = n) (hf : Tryz.prog.funcs[f]? = some fn) (hb : fn.body = some c) (hok : Nj fn c = true) (hG : Ah G)
    (hlen : n ≤ fn.ntmps) (ok : A9 Tryz.prog f = true) (h : ∀ a, pre a → run Tryz.prog G dp (OA Tryz.prog fn.results.toList (AT 900 0 (L.enc a) ⟨[], []⟩).avs (r a).1 (r a).2) [.c c] (s0 (L.enc a))) : Gd G f (AM (GN L pre r)) := Wx hn hf hb hok vO hG hlen ok h
structure Ad where
 user : ByteArray
 domain : ByteArray
 deriving DecidableEq
instance : Inhabited Ad := ⟨⟨default, default⟩⟩
def Am (a : Ad) : List T := [.v (.string a.user), .v (.string a.domain)]
def kO : List T → Option Ad
 | [.v (.string x0), .v (.string x1)] => some ⟨x0, x1⟩
 | _ => none
def DQ : Ee Ad where
 enc := Am
 dec := kO
 n := 2
 ed := fun _ => rfl
 de := fun c a h => by unfold kO at h; split at h <;> cases h; rfl
 len := fun _ => rfl
theorem Fk (a : Ad) : Am a = [.v (.string a.user), .v (.string a.domain)] := rfl
theorem Tc (xs : List Ad) (n : Int) (s : AS) (K : Kt) : Ei 2 (xs.map Am) n s K = (0 ≤ n ∧ n < xs.length ∧ K (.t (.rop (Am (xs.getD n.toNat default)))) s) := BW Am xs 2 n s K fun _ => rfl
theorem Sv {x0 : ByteArray} {x1 : ByteArray} : DQ.dec [.v (.string x0), .v (.string x1)] = some ⟨x0, x1⟩ := rfl
theorem ZI (xs : List Ad) : DQ.decL (xs.map Am) = some xs := DQ.decL_map xs
theorem Sw : DQ.enc = Am := rfl
theorem jh : DQ.n = 2 := rfl
theorem aq (xs : List Ad) : (∀ c ∈ xs.map Am, c.length = 2) = True := eq_true fun c hc => by
 obtain ⟨a, _, rfl⟩ := List.mem_map.1 hc; rfl
theorem Sr (xs : List Ad) : Ec (xs.map Am) = True := eq_true (Ed Am (by intro a t ht; simp only [Am, List.mem_cons, List.not_mem_nil, or_false] at ht; rcases ht with rfl | rfl <;> exact ⟨_, rfl⟩) xs)
theorem Xr (a : Ad) : (⟨a.user, a.domain⟩ : Ad) = a := rfl
theorem CA {a b : Ad} : a = b ↔ a.user = b.user ∧ a.domain = b.domain := by
 cases a; cases b; simp
structure Ml where
 frm : Ad
 to : List Ad
 body : List ByteArray
 deriving DecidableEq
instance : Inhabited Ml := ⟨⟨default, default, default⟩⟩
def C6 (a : Ml) : List T := [.v (.string a.frm.user), .v (.string a.frm.domain), .sl 2 (a.to.map Am), .sl 1 (a.body.map AG)]
def XD (x0 : ByteArray) (x1 : ByteArray) : Option (List Ad) → Option (List ByteArray) → Option Ml
 | some x2, some x3 => some ⟨⟨x0, x1⟩, x2, x3⟩
 | _, _ => none
def ka : List T → Option Ml
 | [.v (.string x0), .v (.string x1), .sl 2 x2, .sl 1 x3] => XD x0 x1 (DQ.decL x2) (Al.decL x3)
 | _ => none
def TF : Ee Ml where
 enc := C6
 dec := ka
 n := 4
 ed := fun a => by
  show XD a.frm.user a.frm.domain (DQ.decL (a.to.map DQ.enc)) (Al.decL (a.body.map Al.enc)) = _
  rw [DQ.decL_map, Al.decL_map]
  rfl
 de := fun c a h => by
  unfold ka at h
  split at h
  ·unfold XD at h
   split at h
   ·rename_i e0 e1
    cases h
    rw [DQ.decL_inv e0, Al.decL_inv e1]; rfl
   ·cases h
  ·cases h
 len := fun _ => rfl
theorem PW (a : Ml) : C6 a = [.v (.string a.frm.user), .v (.string a.frm.domain), .sl 2 (a.to.map Am), .sl 1 (a.body.map AG)] := rfl
theorem Tk (xs : List Ml) (n : Int) (s : AS) (K : Kt) : Ei 4 (xs.map C6) n s K = (0 ≤ n ∧ n < xs.length ∧ K (.t (.rop (C6 (xs.getD n.toNat default)))) s) := BW C6 xs 4 n s K fun _ => rfl
theorem TG {x0 : ByteArray} {x1 : ByteArray} {x2 : List (List T)} {x3 : List (List T)} : TF.dec [.v (.string x0), .v (.string x1), .sl 2 x2, .sl 1 x3] = XD x0 x1 (DQ.decL x2) (Al.decL x3) := rfl
theorem TH : TF.enc = C6 := rfl
theorem ay (xs : List Ml) : (∀ c ∈ xs.map C6, c.length = 4) = True := eq_true fun c hc => by
 obtain ⟨a, _, rfl⟩ := List.mem_map.1 hc; rfl
theorem X6 (a : Ml) : (⟨a.frm, a.to, a.body⟩ : Ml) = a := rfl
structure Rc where
 addr : Ad
 tries : Int
 next : Int
 deriving DecidableEq
instance : Inhabited Rc := ⟨⟨default, default, default⟩⟩
def BN (a : Rc) : List T := [.v (.string a.addr.user), .v (.string a.addr.domain), .v (.int .i64 a.tries), .v (.int .i64 a.next)]
def kb : List T → Option Rc
 | [.v (.string x0), .v (.string x1), .v (.int .i64 x2), .v (.int .i64 x3)] => some ⟨⟨x0, x1⟩, x2, x3⟩
 | _ => none
def WF : Ee Rc where
 enc := BN
 dec := kb
 n := 4
 ed := fun _ => rfl
 de := fun c a h => by unfold kb at h; split at h <;> cases h; rfl
 len := fun _ => rfl
theorem PX (a : Rc) : BN a = [.v (.string a.addr.user), .v (.string a.addr.domain), .v (.int .i64 a.tries), .v (.int .i64 a.next)] := rfl
theorem Tl (xs : List Rc) (n : Int) (s : AS) (K : Kt) : Ei 4 (xs.map BN) n s K = (0 ≤ n ∧ n < xs.length ∧ K (.t (.rop (BN (xs.getD n.toNat default)))) s) := BW BN xs 4 n s K fun _ => rfl
theorem TI {x0 : ByteArray} {x1 : ByteArray} {x2 : Int} {x3 : Int} : WF.dec [.v (.string x0), .v (.string x1), .v (.int .i64 x2), .v (.int .i64 x3)] = some ⟨⟨x0, x1⟩, x2, x3⟩ := rfl
theorem ZR (xs : List Rc) : WF.decL (xs.map BN) = some xs := WF.decL_map xs
theorem TJ : WF.enc = BN := rfl
theorem jm : WF.n = 4 := rfl
theorem R3 (xs : List Rc) : (∀ c ∈ xs.map BN, c.length = 4) = True := eq_true fun c hc => by
 obtain ⟨a, _, rfl⟩ := List.mem_map.1 hc; rfl
theorem Jo (xs : List Rc) : Ec (xs.map BN) = True := eq_true (Ed BN (by intro a t ht; simp only [BN, List.mem_cons, List.not_mem_nil, or_false] at ht; rcases ht with rfl | rfl | rfl | rfl <;> exact ⟨_, rfl⟩) xs)
theorem X7 (a : Rc) : (⟨a.addr, a.tries, a.next⟩ : Rc) = a := rfl
theorem mt {a b : Rc} : a = b ↔ a.addr = b.addr ∧ a.tries = b.tries ∧ a.next = b.next := by
 cases a; cases b; simp
theorem sn (xs : List Rc) (i : Nat) (x0 : ByteArray) (x1 : ByteArray) (x2 : Int) (x3 : Int) : (xs.map BN).set i [.v (.string x0), .v (.string x1), .v (.int .i64 x2), .v (.int .i64 x3)] = (xs.set i ⟨⟨x0, x1⟩, x2, x3⟩).map BN := J4 BN xs i ⟨⟨x0, x1⟩, x2, x3⟩ rfl
structure Im where
 id : Int
 frm : Ad
 to : List Rc
 body : List ByteArray
 deriving DecidableEq
instance : Inhabited Im := ⟨⟨default, default, default, default⟩⟩
def An (a : Im) : List T := [.v (.int .i64 a.id), .v (.string a.frm.user), .v (.string a.frm.domain), .sl 4 (a.to.map BN), .sl 1 (a.body.map AG)]
def XC (x0 : Int) (x1 : ByteArray) (x2 : ByteArray) : Option (List Rc) → Option (List ByteArray) → Option Im
 | some x3, some x4 => some ⟨x0, ⟨x1, x2⟩, x3, x4⟩
 | _, _ => none
def kX : List T → Option Im
 | [.v (.int .i64 x0), .v (.string x1), .v (.string x2), .sl 4 x3, .sl 1 x4] => XC x0 x1 x2 (WF.decL x3) (Al.decL x4)
 | _ => none
def Iz : Ee Im where
 enc := An
 dec := kX
 n := 5
 ed := fun a => by
  show XC a.id a.frm.user a.frm.domain (WF.decL (a.to.map WF.enc)) (Al.decL (a.body.map Al.enc)) = _
  rw [WF.decL_map, Al.decL_map]
  rfl
 de := fun c a h => by
  unfold kX at h
  split at h
  ·unfold XC at h
   split at h
   ·rename_i e0 e1
    cases h
    rw [WF.decL_inv e0, Al.decL_inv e1]; rfl
   ·cases h
  ·cases h
 len := fun _ => rfl
theorem PU (a : Im) : An a = [.v (.int .i64 a.id), .v (.string a.frm.user), .v (.string a.frm.domain), .sl 4 (a.to.map BN), .sl 1 (a.body.map AG)] := rfl
theorem Ti (xs : List Im) (n : Int) (s : AS) (K : Kt) : Ei 5 (xs.map An) n s K = (0 ≤ n ∧ n < xs.length ∧ K (.t (.rop (An (xs.getD n.toNat default)))) s) := BW An xs 5 n s K fun _ => rfl
theorem TC {x0 : Int} {x1 : ByteArray} {x2 : ByteArray} {x3 : List (List T)} {x4 : List (List T)} : Iz.dec [.v (.int .i64 x0), .v (.string x1), .v (.string x2), .sl 4 x3, .sl 1 x4] = XC x0 x1 x2 (WF.decL x3) (Al.decL x4) := rfl
theorem ZO (xs : List Im) : Iz.decL (xs.map An) = some xs := Iz.decL_map xs
theorem Uc : Iz.decL [] = some [] := rfl
theorem TD : Iz.enc = An := rfl
theorem ax (xs : List Im) : (∀ c ∈ xs.map An, c.length = 5) = True := eq_true fun c hc => by
 obtain ⟨a, _, rfl⟩ := List.mem_map.1 hc; rfl
theorem X4 (a : Im) : (⟨a.id, a.frm, a.to, a.body⟩ : Im) = a := rfl
theorem mn {a b : Im} : a = b ↔ a.id = b.id ∧ a.frm = b.frm ∧ a.to = b.to ∧ a.body = b.body := by
 cases a; cases b; simp
theorem sm (xs : List Im) (i : Nat) (x0 : Int) (x1 : ByteArray) (x2 : ByteArray) (x3 : List Rc) (x4 : List ByteArray) : (xs.map An).set i [.v (.int .i64 x0), .v (.string x1), .v (.string x2), .sl 4 (x3.map BN), .sl 1 (x4.map AG)] = (xs.set i ⟨x0, ⟨x1, x2⟩, x3, x4⟩).map An := J4 An xs i ⟨x0, ⟨x1, x2⟩, x3, x4⟩ rfl
structure Sp where
 last : Int
 items : List Im
 deriving DecidableEq
instance : Inhabited Sp := ⟨⟨default, default⟩⟩
def Dx (a : Sp) : List T := [.v (.int .i64 a.last), .sl 5 (a.items.map An)]
def XE (x0 : Int) : Option (List Im) → Option Sp
 | some x1 => some ⟨x0, x1⟩
 | _ => none
def ke : List T → Option Sp
 | [.v (.int .i64 x0), .sl 5 x1] => XE x0 (Iz.decL x1)
 | _ => none
def N4 : Ee Sp where
 enc := Dx
 dec := ke
 n := 2
 ed := fun a => by
  show XE a.last (Iz.decL (a.items.map Iz.enc)) = _
  rw [Iz.decL_map]
  rfl
 de := fun c a h => by
  unfold ke at h
  split at h
  ·unfold XE at h
   split at h
   ·rename_i e0
    cases h
    rw [Iz.decL_inv e0]; rfl
   ·cases h
  ·cases h
 len := fun _ => rfl
theorem PY (a : Sp) : Dx a = [.v (.int .i64 a.last), .sl 5 (a.items.map An)] := rfl
theorem TK {x0 : Int} {x1 : List (List T)} : N4.dec [.v (.int .i64 x0), .sl 5 x1] = XE x0 (Iz.decL x1) := rfl
theorem TL : N4.enc = Dx := rfl
theorem YB (a : Sp) : (⟨a.last, a.items⟩ : Sp) = a := rfl
theorem mw {a b : Sp} : a = b ↔ a.last = b.last ∧ a.items = b.items := by
 cases a; cases b; simp
structure Wy where
 ends : ByteArray
 to : ByteArray
 deriving DecidableEq
instance : Inhabited Wy := ⟨⟨default, default⟩⟩
def Bp (a : Wy) : List T := [.v (.string a.ends), .v (.string a.to)]
def kh : List T → Option Wy
 | [.v (.string x0), .v (.string x1)] => some ⟨x0, x1⟩
 | _ => none
def LY : Ee Wy where
 enc := Bp
 dec := kh
 n := 2
 ed := fun _ => rfl
 de := fun c a h => by unfold kh at h; split at h <;> cases h; rfl
 len := fun _ => rfl
theorem Pb (a : Wy) : Bp a = [.v (.string a.ends), .v (.string a.to)] := rfl
theorem Tm (xs : List Wy) (n : Int) (s : AS) (K : Kt) : Ei 2 (xs.map Bp) n s K = (0 ≤ n ∧ n < xs.length ∧ K (.t (.rop (Bp (xs.getD n.toNat default)))) s) := BW Bp xs 2 n s K fun _ => rfl
theorem TR {x0 : ByteArray} {x1 : ByteArray} : LY.dec [.v (.string x0), .v (.string x1)] = some ⟨x0, x1⟩ := rfl
theorem ZT (xs : List Wy) : LY.decL (xs.map Bp) = some xs := LY.decL_map xs
theorem Uf : LY.decL [] = some [] := rfl
theorem TS : LY.enc = Bp := rfl
theorem jo : LY.n = 2 := rfl
theorem R4 (xs : List Wy) : (∀ c ∈ xs.map Bp, c.length = 2) = True := eq_true fun c hc => by
 obtain ⟨a, _, rfl⟩ := List.mem_map.1 hc; rfl
theorem Jp (xs : List Wy) : Ec (xs.map Bp) = True := eq_true (Ed Bp (by intro a t ht; simp only [Bp, List.mem_cons, List.not_mem_nil, or_false] at ht; rcases ht with rfl | rfl <;> exact ⟨_, rfl⟩) xs)
theorem YE (a : Wy) : (⟨a.ends, a.to⟩ : Wy) = a := rfl
theorem m0 {a b : Wy} : a = b ↔ a.ends = b.ends ∧ a.to = b.to := by
 cases a; cases b; simp
structure Cf where
 name : ByteArray
 own : List ByteArray
 ways : List Wy
 deriving DecidableEq
instance : Inhabited Cf := ⟨⟨default, default, default⟩⟩
def Cu (a : Cf) : List T := [.v (.string a.name), .sl 1 (a.own.map AG), .sl 2 (a.ways.map Bp)]
def W7 (x0 : ByteArray) : Option (List ByteArray) → Option (List Wy) → Option Cf
 | some x1, some x2 => some ⟨x0, x1, x2⟩
 | _, _ => none
def kR : List T → Option Cf
 | [.v (.string x0), .sl 1 x1, .sl 2 x2] => W7 x0 (Al.decL x1) (LY.decL x2)
 | _ => none
def IH : Ee Cf where
 enc := Cu
 dec := kR
 n := 3
 ed := fun a => by
  show W7 a.name (Al.decL (a.own.map Al.enc)) (LY.decL (a.ways.map LY.enc)) = _
  rw [Al.decL_map, LY.decL_map]
  rfl
 de := fun c a h => by
  unfold kR at h
  split at h
  ·unfold W7 at h
   split at h
   ·rename_i e0 e1
    cases h
    rw [Al.decL_inv e0, LY.decL_inv e1]; rfl
   ·cases h
  ·cases h
 len := fun _ => rfl
theorem PP (a : Cf) : Cu a = [.v (.string a.name), .sl 1 (a.own.map AG), .sl 2 (a.ways.map Bp)] := rfl
theorem Te (xs : List Cf) (n : Int) (s : AS) (K : Kt) : Ei 3 (xs.map Cu) n s K = (0 ≤ n ∧ n < xs.length ∧ K (.t (.rop (Cu (xs.getD n.toNat default)))) s) := BW Cu xs 3 n s K fun _ => rfl
theorem S2 {x0 : ByteArray} {x1 : List (List T)} {x2 : List (List T)} : IH.dec [.v (.string x0), .sl 1 x1, .sl 2 x2] = W7 x0 (Al.decL x1) (LY.decL x2) := rfl
theorem ZK (xs : List Cf) : IH.decL (xs.map Cu) = some xs := IH.decL_map xs
theorem S3 : IH.enc = Cu := rfl
theorem ji : IH.n = 3 := rfl
theorem Xu (a : Cf) : (⟨a.name, a.own, a.ways⟩ : Cf) = a := rfl
theorem mh {a b : Cf} : a = b ↔ a.name = b.name ∧ a.own = b.own ∧ a.ways = b.ways := by
 cases a; cases b; simp
structure Gm where
 frm : Ad
 body : List ByteArray
 deriving DecidableEq
instance : Inhabited Gm := ⟨⟨default, default⟩⟩
def Cg (a : Gm) : List T := [.v (.string a.frm.user), .v (.string a.frm.domain), .sl 1 (a.body.map AG)]
def XA (x0 : ByteArray) (x1 : ByteArray) : Option (List ByteArray) → Option Gm
 | some x2 => some ⟨⟨x0, x1⟩, x2⟩
 | _ => none
def kV : List T → Option Gm
 | [.v (.string x0), .v (.string x1), .sl 1 x2] => XA x0 x1 (Al.decL x2)
 | _ => none
def Qf : Ee Gm where
 enc := Cg
 dec := kV
 n := 3
 ed := fun a => by
  show XA a.frm.user a.frm.domain (Al.decL (a.body.map Al.enc)) = _
  rw [Al.decL_map]
  rfl
 de := fun c a h => by
  unfold kV at h
  split at h
  ·unfold XA at h
   split at h
   ·rename_i e0
    cases h
    rw [Al.decL_inv e0]; rfl
   ·cases h
  ·cases h
 len := fun _ => rfl
theorem PS (a : Gm) : Cg a = [.v (.string a.frm.user), .v (.string a.frm.domain), .sl 1 (a.body.map AG)] := rfl
theorem Tg (xs : List Gm) (n : Int) (s : AS) (K : Kt) : Ei 3 (xs.map Cg) n s K = (0 ≤ n ∧ n < xs.length ∧ K (.t (.rop (Cg (xs.getD n.toNat default)))) s) := BW Cg xs 3 n s K fun _ => rfl
theorem S8 {x0 : ByteArray} {x1 : ByteArray} {x2 : List (List T)} : Qf.dec [.v (.string x0), .v (.string x1), .sl 1 x2] = XA x0 x1 (Al.decL x2) := rfl
theorem ZM (xs : List Gm) : Qf.decL (xs.map Cg) = some xs := Qf.decL_map xs
theorem S9 : Qf.enc = Cg := rfl
theorem jk : Qf.n = 3 := rfl
theorem au (xs : List Gm) : (∀ c ∈ xs.map Cg, c.length = 3) = True := eq_true fun c hc => by
 obtain ⟨a, _, rfl⟩ := List.mem_map.1 hc; rfl
theorem X0 (a : Gm) : (⟨a.frm, a.body⟩ : Gm) = a := rfl
theorem ml {a b : Gm} : a = b ↔ a.frm = b.frm ∧ a.body = b.body := by
 cases a; cases b; simp
structure Bx where
 addr : Ad
 mails : List Gm
 deriving DecidableEq
instance : Inhabited Bx := ⟨⟨default, default⟩⟩
def Bo (a : Bx) : List T := [.v (.string a.addr.user), .v (.string a.addr.domain), .sl 3 (a.mails.map Cg)]
def W6 (x0 : ByteArray) (x1 : ByteArray) : Option (List Gm) → Option Bx
 | some x2 => some ⟨⟨x0, x1⟩, x2⟩
 | _ => none
def kP : List T → Option Bx
 | [.v (.string x0), .v (.string x1), .sl 3 x2] => W6 x0 x1 (Qf.decL x2)
 | _ => none
def Xh : Ee Bx where
 enc := Bo
 dec := kP
 n := 3
 ed := fun a => by
  show W6 a.addr.user a.addr.domain (Qf.decL (a.mails.map Qf.enc)) = _
  rw [Qf.decL_map]
  rfl
 de := fun c a h => by
  unfold kP at h
  split at h
  ·unfold W6 at h
   split at h
   ·rename_i e0
    cases h
    rw [Qf.decL_inv e0]; rfl
   ·cases h
  ·cases h
 len := fun _ => rfl
theorem PO (a : Bx) : Bo a = [.v (.string a.addr.user), .v (.string a.addr.domain), .sl 3 (a.mails.map Cg)] := rfl
theorem Td (xs : List Bx) (n : Int) (s : AS) (K : Kt) : Ei 3 (xs.map Bo) n s K = (0 ≤ n ∧ n < xs.length ∧ K (.t (.rop (Bo (xs.getD n.toNat default)))) s) := BW Bo xs 3 n s K fun _ => rfl
theorem Sy {x0 : ByteArray} {x1 : ByteArray} {x2 : List (List T)} : Xh.dec [.v (.string x0), .v (.string x1), .sl 3 x2] = W6 x0 x1 (Qf.decL x2) := rfl
theorem ZJ (xs : List Bx) : Xh.decL (xs.map Bo) = some xs := Xh.decL_map xs
theorem Ub : Xh.decL [] = some [] := rfl
theorem Sz : Xh.enc = Bo := rfl
theorem ar (xs : List Bx) : (∀ c ∈ xs.map Bo, c.length = 3) = True := eq_true fun c hc => by
 obtain ⟨a, _, rfl⟩ := List.mem_map.1 hc; rfl
theorem Xt (a : Bx) : (⟨a.addr, a.mails⟩ : Bx) = a := rfl
theorem mg {a b : Bx} : a = b ↔ a.addr = b.addr ∧ a.mails = b.mails := by
 cases a; cases b; simp
structure Ls where
 mark : ByteArray
 addr : Ad
 deriving DecidableEq
instance : Inhabited Ls := ⟨⟨default, default⟩⟩
def Av (a : Ls) : List T := [.v (.string a.mark), .v (.string a.addr.user), .v (.string a.addr.domain)]
def kZ : List T → Option Ls
 | [.v (.string x0), .v (.string x1), .v (.string x2)] => some ⟨x0, ⟨x1, x2⟩⟩
 | _ => none
def II : Ee Ls where
 enc := Av
 dec := kZ
 n := 3
 ed := fun _ => rfl
 de := fun c a h => by unfold kZ at h; split at h <;> cases h; rfl
 len := fun _ => rfl
theorem PV (a : Ls) : Av a = [.v (.string a.mark), .v (.string a.addr.user), .v (.string a.addr.domain)] := rfl
theorem Tj (xs : List Ls) (n : Int) (s : AS) (K : Kt) : Ei 3 (xs.map Av) n s K = (0 ≤ n ∧ n < xs.length ∧ K (.t (.rop (Av (xs.getD n.toNat default)))) s) := BW Av xs 3 n s K fun _ => rfl
theorem ZQ (xs : List Ls) : II.decL (xs.map Av) = some xs := II.decL_map xs
theorem Ue : II.decL [] = some [] := rfl
theorem TE : II.enc = Av := rfl
theorem jl : II.n = 3 := rfl
theorem R2 (xs : List Ls) : (∀ c ∈ xs.map Av, c.length = 3) = True := eq_true fun c hc => by
 obtain ⟨a, _, rfl⟩ := List.mem_map.1 hc; rfl
theorem Jn (xs : List Ls) : Ec (xs.map Av) = True := eq_true (Ed Av (by intro a t ht; simp only [Av, List.mem_cons, List.not_mem_nil, or_false] at ht; rcases ht with rfl | rfl | rfl <;> exact ⟨_, rfl⟩) xs)
theorem mq {a b : Ls} : a = b ↔ a.mark = b.mark ∧ a.addr = b.addr := by
 cases a; cases b; simp
structure Hs where
 conf : Cf
 spool : Sp
 boxes : List Bx
 lost : List Ls
 deriving DecidableEq
instance : Inhabited Hs := ⟨⟨default, default, default, default⟩⟩
def Ai (a : Hs) : List T := [.v (.string a.conf.name), .sl 1 (a.conf.own.map AG), .sl 2 (a.conf.ways.map Bp), .v (.int .i64 a.spool.last), .sl 5 (a.spool.items.map An), .sl 3 (a.boxes.map Bo), .sl 3 (a.lost.map Av)]
def XB (x0 : ByteArray) (x3 : Int) : Option (List ByteArray) → Option (List Wy) → Option (List Im) → Option (List Bx) → Option (List Ls) → Option Hs
 | some x1, some x2, some x4, some x5, some x6 => some ⟨⟨x0, x1, x2⟩, ⟨x3, x4⟩, x5, x6⟩
 | _, _, _, _, _ => none
def kW : List T → Option Hs
 | [.v (.string x0), .sl 1 x1, .sl 2 x2, .v (.int .i64 x3), .sl 5 x4, .sl 3 x5, .sl 3 x6] => XB x0 x3 (Al.decL x1) (LY.decL x2) (Iz.decL x4) (Xh.decL x5) (II.decL x6)
 | _ => none
def D7 : Ee Hs where
 enc := Ai
 dec := kW
 n := 7
 ed := fun a => by
  show XB a.conf.name a.spool.last (Al.decL (a.conf.own.map Al.enc)) (LY.decL (a.conf.ways.map LY.enc)) (Iz.decL (a.spool.items.map Iz.enc)) (Xh.decL (a.boxes.map Xh.enc)) (II.decL (a.lost.map II.enc)) = _
  rw [Al.decL_map, LY.decL_map, Iz.decL_map, Xh.decL_map, II.decL_map]
  rfl
 de := fun c a h => by
  unfold kW at h
  split at h
  ·unfold XB at h
   split at h
   ·rename_i e0 e1 e2 e3 e4
    cases h
    rw [Al.decL_inv e0, LY.decL_inv e1, Iz.decL_inv e2, Xh.decL_inv e3, II.decL_inv e4]; rfl
   ·cases h
  ·cases h
 len := fun _ => rfl
theorem PT (a : Hs) : Ai a = [.v (.string a.conf.name), .sl 1 (a.conf.own.map AG), .sl 2 (a.conf.ways.map Bp), .v (.int .i64 a.spool.last), .sl 5 (a.spool.items.map An), .sl 3 (a.boxes.map Bo), .sl 3 (a.lost.map Av)] := rfl
theorem Th (xs : List Hs) (n : Int) (s : AS) (K : Kt) : Ei 7 (xs.map Ai) n s K = (0 ≤ n ∧ n < xs.length ∧ K (.t (.rop (Ai (xs.getD n.toNat default)))) s) := BW Ai xs 7 n s K fun _ => rfl
theorem TA {x0 : ByteArray} {x1 : List (List T)} {x2 : List (List T)} {x3 : Int} {x4 : List (List T)} {x5 : List (List T)} {x6 : List (List T)} : D7.dec [.v (.string x0), .sl 1 x1, .sl 2 x2, .v (.int .i64 x3), .sl 5 x4, .sl 3 x5, .sl 3 x6] = XB x0 x3 (Al.decL x1) (LY.decL x2) (Iz.decL x4) (Xh.decL x5) (II.decL x6) := rfl
theorem ZN (xs : List Hs) : D7.decL (xs.map Ai) = some xs := D7.decL_map xs
theorem TB : D7.enc = Ai := rfl
theorem X3 (a : Hs) : (⟨a.conf, a.spool, a.boxes, a.lost⟩ : Hs) = a := rfl
theorem mm {a b : Hs} : a = b ↔ a.conf = b.conf ∧ a.spool = b.spool ∧ a.boxes = b.boxes ∧ a.lost = b.lost := by
 cases a; cases b; simp
theorem LK (xs : List Hs) (i : Nat) (x0 : ByteArray) (x1 : List ByteArray) (x2 : List Wy) (x3 : Int) (x4 : List Im) (x5 : List Bx) (x6 : List Ls) : (xs.map Ai).set i [.v (.string x0), .sl 1 (x1.map AG), .sl 2 (x2.map Bp), .v (.int .i64 x3), .sl 5 (x4.map An), .sl 3 (x5.map Bo), .sl 3 (x6.map Av)] = (xs.set i ⟨⟨x0, x1, x2⟩, ⟨x3, x4⟩, x5, x6⟩).map Ai := J4 Ai xs i ⟨⟨x0, x1, x2⟩, ⟨x3, x4⟩, x5, x6⟩ rfl
structure Ss where
 state : Int
 mail : Ml
 bad : Bool
 buf : ByteArray
 deriving DecidableEq
instance : Inhabited Ss := ⟨⟨default, default, default, default⟩⟩
def Er (a : Ss) : List T := [.v (.int .i64 a.state), .v (.string a.mail.frm.user), .v (.string a.mail.frm.domain), .sl 2 (a.mail.to.map Am), .sl 1 (a.mail.body.map AG), .v (.bool a.bad), .v (.string a.buf)]
def XF (x0 : Int) (x1 : ByteArray) (x2 : ByteArray) (x5 : Bool) (x6 : ByteArray) : Option (List Ad) → Option (List ByteArray) → Option Ss
 | some x3, some x4 => some ⟨x0, ⟨⟨x1, x2⟩, x3, x4⟩, x5, x6⟩
 | _, _ => none
def kf : List T → Option Ss
 | [.v (.int .i64 x0), .v (.string x1), .v (.string x2), .sl 2 x3, .sl 1 x4, .v (.bool x5), .v (.string x6)] => XF x0 x1 x2 x5 x6 (DQ.decL x3) (Al.decL x4)
 | _ => none
def dL : Ee Ss where
 enc := Er
 dec := kf
 n := 7
 ed := fun a => by
  show XF a.state a.mail.frm.user a.mail.frm.domain a.bad a.buf (DQ.decL (a.mail.to.map DQ.enc)) (Al.decL (a.mail.body.map Al.enc)) = _
  rw [DQ.decL_map, Al.decL_map]
  rfl
 de := fun c a h => by
  unfold kf at h
  split at h
  ·unfold XF at h
   split at h
   ·rename_i e0 e1
    cases h
    rw [DQ.decL_inv e0, Al.decL_inv e1]; rfl
   ·cases h
  ·cases h
 len := fun _ => rfl
theorem PZ (a : Ss) : Er a = [.v (.int .i64 a.state), .v (.string a.mail.frm.user), .v (.string a.mail.frm.domain), .sl 2 (a.mail.to.map Am), .sl 1 (a.mail.body.map AG), .v (.bool a.bad), .v (.string a.buf)] := rfl
theorem TM {x0 : Int} {x1 : ByteArray} {x2 : ByteArray} {x3 : List (List T)} {x4 : List (List T)} {x5 : Bool} {x6 : ByteArray} : dL.dec [.v (.int .i64 x0), .v (.string x1), .v (.string x2), .sl 2 x3, .sl 1 x4, .v (.bool x5), .v (.string x6)] = XF x0 x1 x2 x5 x6 (DQ.decL x3) (Al.decL x4) := rfl
theorem TN : dL.enc = Er := rfl
theorem YC (a : Ss) : (⟨a.state, a.mail, a.bad, a.buf⟩ : Ss) = a := rfl
structure Cl where
 name : ByteArray
 mail : Ml
 state : Int
 pos : Int
 outs : List Int
 deriving DecidableEq
instance : Inhabited Cl := ⟨⟨default, default, default, default, default⟩⟩
def Dw (a : Cl) : List T := [.v (.string a.name), .v (.string a.mail.frm.user), .v (.string a.mail.frm.domain), .sl 2 (a.mail.to.map Am), .sl 1 (a.mail.body.map AG), .v (.int .i64 a.state), .v (.int .i64 a.pos), .sl 1 (a.outs.map A6)]
def W8 (x0 : ByteArray) (x1 : ByteArray) (x2 : ByteArray) (x5 : Int) (x6 : Int) : Option (List Ad) → Option (List ByteArray) → Option (List Int) → Option Cl
 | some x3, some x4, some x7 => some ⟨x0, ⟨⟨x1, x2⟩, x3, x4⟩, x5, x6, x7⟩
 | _, _, _ => none
def kT : List T → Option Cl
 | [.v (.string x0), .v (.string x1), .v (.string x2), .sl 2 x3, .sl 1 x4, .v (.int .i64 x5), .v (.int .i64 x6), .sl 1 x7] => W8 x0 x1 x2 x5 x6 (DQ.decL x3) (Al.decL x4) (D8.decL x7)
 | _ => none
def dK : Ee Cl where
 enc := Dw
 dec := kT
 n := 8
 ed := fun a => by
  show W8 a.name a.mail.frm.user a.mail.frm.domain a.state a.pos (DQ.decL (a.mail.to.map DQ.enc)) (Al.decL (a.mail.body.map Al.enc)) (D8.decL (a.outs.map D8.enc)) = _
  rw [DQ.decL_map, Al.decL_map, D8.decL_map]
  rfl
 de := fun c a h => by
  unfold kT at h
  split at h
  ·unfold W8 at h
   split at h
   ·rename_i e0 e1 e2
    cases h
    rw [DQ.decL_inv e0, Al.decL_inv e1, D8.decL_inv e2]; rfl
   ·cases h
  ·cases h
 len := fun _ => rfl
theorem PQ (a : Cl) : Dw a = [.v (.string a.name), .v (.string a.mail.frm.user), .v (.string a.mail.frm.domain), .sl 2 (a.mail.to.map Am), .sl 1 (a.mail.body.map AG), .v (.int .i64 a.state), .v (.int .i64 a.pos), .sl 1 (a.outs.map A6)] := rfl
theorem S4 {x0 : ByteArray} {x1 : ByteArray} {x2 : ByteArray} {x3 : List (List T)} {x4 : List (List T)} {x5 : Int} {x6 : Int} {x7 : List (List T)} : dK.dec [.v (.string x0), .v (.string x1), .v (.string x2), .sl 2 x3, .sl 1 x4, .v (.int .i64 x5), .v (.int .i64 x6), .sl 1 x7] = W8 x0 x1 x2 x5 x6 (DQ.decL x3) (Al.decL x4) (D8.decL x7) := rfl
theorem S5 : dK.enc = Dw := rfl
theorem Xv (a : Cl) : (⟨a.name, a.mail, a.state, a.pos, a.outs⟩ : Cl) = a := rfl
structure Ev where
 kind : Int
 host : Int
 to : Int
 id : Int
 cut : Int
 lose : Bool
 mail : Ml
 deriving DecidableEq
instance : Inhabited Ev := ⟨⟨default, default, default, default, default, default, default⟩⟩
def C5 (a : Ev) : List T := [.v (.int .i64 a.kind), .v (.int .i64 a.host), .v (.int .i64 a.to), .v (.int .i64 a.id), .v (.int .i64 a.cut), .v (.bool a.lose), .v (.string a.mail.frm.user), .v (.string a.mail.frm.domain), .sl 2 (a.mail.to.map Am), .sl 1 (a.mail.body.map AG)]
def W9 (x0 : Int) (x1 : Int) (x2 : Int) (x3 : Int) (x4 : Int) (x5 : Bool) (x6 : ByteArray) (x7 : ByteArray) : Option (List Ad) → Option (List ByteArray) → Option Ev
 | some x8, some x9 => some ⟨x0, x1, x2, x3, x4, x5, ⟨⟨x6, x7⟩, x8, x9⟩⟩
 | _, _ => none
def kU : List T → Option Ev
 | [.v (.int .i64 x0), .v (.int .i64 x1), .v (.int .i64 x2), .v (.int .i64 x3), .v (.int .i64 x4), .v (.bool x5), .v (.string x6), .v (.string x7), .sl 2 x8, .sl 1 x9] => W9 x0 x1 x2 x3 x4 x5 x6 x7 (DQ.decL x8) (Al.decL x9)
 | _ => none
def OL : Ee Ev where
 enc := C5
 dec := kU
 n := 10
 ed := fun a => by
  show W9 a.kind a.host a.to a.id a.cut a.lose a.mail.frm.user a.mail.frm.domain (DQ.decL (a.mail.to.map DQ.enc)) (Al.decL (a.mail.body.map Al.enc)) = _
  rw [DQ.decL_map, Al.decL_map]
  rfl
 de := fun c a h => by
  unfold kU at h
  split at h
  ·unfold W9 at h
   split at h
   ·rename_i e0 e1
    cases h
    rw [DQ.decL_inv e0, Al.decL_inv e1]; rfl
   ·cases h
  ·cases h
 len := fun _ => rfl
theorem PR (a : Ev) : C5 a = [.v (.int .i64 a.kind), .v (.int .i64 a.host), .v (.int .i64 a.to), .v (.int .i64 a.id), .v (.int .i64 a.cut), .v (.bool a.lose), .v (.string a.mail.frm.user), .v (.string a.mail.frm.domain), .sl 2 (a.mail.to.map Am), .sl 1 (a.mail.body.map AG)] := rfl
theorem Tf (xs : List Ev) (n : Int) (s : AS) (K : Kt) : Ei 10 (xs.map C5) n s K = (0 ≤ n ∧ n < xs.length ∧ K (.t (.rop (C5 (xs.getD n.toNat default)))) s) := BW C5 xs 10 n s K fun _ => rfl
theorem S6 {x0 : Int} {x1 : Int} {x2 : Int} {x3 : Int} {x4 : Int} {x5 : Bool} {x6 : ByteArray} {x7 : ByteArray} {x8 : List (List T)} {x9 : List (List T)} : OL.dec [.v (.int .i64 x0), .v (.int .i64 x1), .v (.int .i64 x2), .v (.int .i64 x3), .v (.int .i64 x4), .v (.bool x5), .v (.string x6), .v (.string x7), .sl 2 x8, .sl 1 x9] = W9 x0 x1 x2 x3 x4 x5 x6 x7 (DQ.decL x8) (Al.decL x9) := rfl
theorem ZL (xs : List Ev) : OL.decL (xs.map C5) = some xs := OL.decL_map xs
theorem S7 : OL.enc = C5 := rfl
theorem jj : OL.n = 10 := rfl
theorem Xz (a : Ev) : (⟨a.kind, a.host, a.to, a.id, a.cut, a.lose, a.mail⟩ : Ev) = a := rfl
structure Wd where
 hosts : List Hs
 now : Int
 marks : Int
 given : List Ls
 deriving DecidableEq
instance : Inhabited Wd := ⟨⟨default, default, default, default⟩⟩
def I6 (a : Wd) : List T := [.sl 7 (a.hosts.map Ai), .v (.int .i64 a.now), .v (.int .i64 a.marks), .sl 3 (a.given.map Av)]
def Gc (x1 : Int) (x2 : Int) : Option (List Hs) → Option (List Ls) → Option Wd
 | some x0, some x3 => some ⟨x0, x1, x2, x3⟩
 | _, _ => none
def kg : List T → Option Wd
 | [.sl 7 x0, .v (.int .i64 x1), .v (.int .i64 x2), .sl 3 x3] => Gc x1 x2 (D7.decL x0) (II.decL x3)
 | _ => none
def jn : Ee Wd where
 enc := I6
 dec := kg
 n := 4
 ed := fun a => by
  show Gc a.now a.marks (D7.decL (a.hosts.map D7.enc)) (II.decL (a.given.map II.enc)) = _
  rw [D7.decL_map, II.decL_map]
  rfl
 de := fun c a h => by
  unfold kg at h
  split at h
  ·unfold Gc at h
   split at h
   ·rename_i e0 e1
    cases h
    rw [D7.decL_inv e0, II.decL_inv e1]; rfl
   ·cases h
  ·cases h
 len := fun _ => rfl
theorem Pa (a : Wd) : I6 a = [.sl 7 (a.hosts.map Ai), .v (.int .i64 a.now), .v (.int .i64 a.marks), .sl 3 (a.given.map Av)] := rfl
theorem TP {x0 : List (List T)} {x1 : Int} {x2 : Int} {x3 : List (List T)} : jn.dec [.sl 7 x0, .v (.int .i64 x1), .v (.int .i64 x2), .sl 3 x3] = Gc x1 x2 (D7.decL x0) (II.decL x3) := rfl
theorem TQ : jn.enc = I6 := rfl
theorem YD (a : Wd) : (⟨a.hosts, a.now, a.marks, a.given⟩ : Wd) = a := rfl
def QJ (a : Ml) : AV := .agg [.t (.v (.string a.frm.user)), .t (.v (.string a.frm.domain)), .o true 2 (a.to.map Am), .o true 1 (a.body.map AG)]
theorem Ve (a : Ml) : QJ a = .agg [.t (.v (.string a.frm.user)), .t (.v (.string a.frm.domain)), .o true 2 (a.to.map Am), .o true 1 (a.body.map AG)] := rfl
theorem K7 (a : Ml) : BV (QJ a) := .agg _ fun c hc => by
 simp only [List.mem_cons, List.not_mem_nil, or_false] at hc
 rcases hc with rfl | rfl | rfl | rfl
 ·exact .v _
 ·exact .v _
 ·exact .deep _ _
 ·exact .deep _ _
def sd (a : Im) : AV := .agg [.t (.v (.int .i64 a.id)), .t (.v (.string a.frm.user)), .t (.v (.string a.frm.domain)), .o true 4 (a.to.map BN), .o true 1 (a.body.map AG)]
theorem Vd (a : Im) : sd a = .agg [.t (.v (.int .i64 a.id)), .t (.v (.string a.frm.user)), .t (.v (.string a.frm.domain)), .o true 4 (a.to.map BN), .o true 1 (a.body.map AG)] := rfl
theorem SM (a : Im) : BV (sd a) := .agg _ fun c hc => by
 simp only [List.mem_cons, List.not_mem_nil, or_false] at hc
 rcases hc with rfl | rfl | rfl | rfl | rfl
 ·exact .v _
 ·exact .v _
 ·exact .v _
 ·exact .deep _ _
 ·exact .deep _ _
def SO (a : Sp) : AV := .agg [.t (.v (.int .i64 a.last)), .o true 5 (a.items.map An)]
theorem Vf (a : Sp) : SO a = .agg [.t (.v (.int .i64 a.last)), .o true 5 (a.items.map An)] := rfl
theorem HL (a : Sp) : BV (SO a) := .agg _ fun c hc => by
 simp only [List.mem_cons, List.not_mem_nil, or_false] at hc
 rcases hc with rfl | rfl
 ·exact .v _
 ·exact .deep _ _
def jF (a : Cf) : AV := .agg [.t (.v (.string a.name)), .o true 1 (a.own.map AG), .o true 2 (a.ways.map Bp)]
theorem Vb (a : Cf) : jF a = .agg [.t (.v (.string a.name)), .o true 1 (a.own.map AG), .o true 2 (a.ways.map Bp)] := rfl
theorem K6 (a : Cf) : BV (jF a) := .agg _ fun c hc => by
 simp only [List.mem_cons, List.not_mem_nil, or_false] at hc
 rcases hc with rfl | rfl | rfl
 ·exact .v _
 ·exact .deep _ _
 ·exact .deep _ _
def bo (a : Hs) : AV := .agg [.t (.v (.string a.conf.name)), .o true 1 (a.conf.own.map AG), .o true 2 (a.conf.ways.map Bp), .t (.v (.int .i64 a.spool.last)), .o true 5 (a.spool.items.map An), .o true 3 (a.boxes.map Bo), .o true 3 (a.lost.map Av)]
theorem Vc (a : Hs) : bo a = .agg [.t (.v (.string a.conf.name)), .o true 1 (a.conf.own.map AG), .o true 2 (a.conf.ways.map Bp), .t (.v (.int .i64 a.spool.last)), .o true 5 (a.spool.items.map An), .o true 3 (a.boxes.map Bo), .o true 3 (a.lost.map Av)] := rfl
theorem HK (a : Hs) : BV (bo a) := .agg _ fun c hc => by
 simp only [List.mem_cons, List.not_mem_nil, or_false] at hc
 rcases hc with rfl | rfl | rfl | rfl | rfl | rfl | rfl
 ·exact .v _
 ·exact .deep _ _
 ·exact .deep _ _
 ·exact .v _
 ·exact .deep _ _
 ·exact .deep _ _
 ·exact .deep _ _
end Go.V
namespace Go.V
open Go Go.Proofs
set_option maxRecDepth 100000
set_option linter.unusedSimpArgs false
set_option linter.unusedVariables false
theorem ai {a b : Prop} (x : a) (y : b) : a ∧ b := ⟨x, y⟩
theorem s1 {P G dp R k s t e b} (h1 : b = true → run P G dp R (.c t :: k) s) (h2 : b = false → run P G dp R (.c e :: k) s) : uR P G dp R t e k s b := WW h1 h2
theorem s2 {s : AS} {x y : AV} {K : Kt} {b : Bool} (h1 : b = true → K x s) (h2 : b = false → K y s) : EQ x y s K b := M9 h1 h2
theorem s3 {P G dp R k s d all r op b want} (h1 : b = true → gB P G dp R d all r k s op true want) (h2 : b = false → gB P G dp R d all r k s op false want) : gB P G dp R d all r k s op b want := aJ h1 h2
theorem s4 {P G dp all ns K i l acc s pre t d op b want} (h1 : b = true → Xk P G dp all ns K i l acc s pre t d op true want) (h2 : b = false → Xk P G dp all ns K i l acc s pre t d op false want) : Xk P G dp all ns K i l acc s pre t d op b want := WO h1 h2
theorem tv : True := trivial
theorem tn (n : Nat) : Int.toNat (n : Int) = n := rfl
theorem lm {α β : Type} {xs : List α} (f : α → β) : (xs.map f).length = xs.length := List.length_map f
theorem Lo {dp : Nat → Bool} {G : Gt} {f : FuncId} {fn : Func} {c : Code} {rs} {α : Type} {L : AL α} {pre : α → Prop} {r : α → AV} {kd n : Nat} (hb : fn.body = some c) (hr : fn.results = ⟨rs⟩) (hG : Ah G) (h : ∀ a, pre a → run Tryz.prog G dp (OA Tryz.prog rs (AT 900 0 (L.enc a) ⟨[], []⟩).avs (L.enc a) (r a)) [.c c] (s0 (L.enc a)))
    (hn : ∀ a, (L.enc a).length = n := by exact fun _ => rfl) (hf : Tryz.prog.funcs[f]? = some fn := by kernel_rfl) (hok : Nj fn c = true := by kernel_rfl) (hlen : n ≤ fn.ntmps := by exact Nat.le_of_ble_eq_true rfl) (ok : A9 Tryz.prog f = true := by kernel_rfl) (hk : ¬ kd = 3 := by decide) (hs : kd = 0 → ∀ a, BV (r a) := by first | exact fun _ _ => .v _ | exact fun h => by cases h) : Gd G f (AA kd (Ak L pre r)) := gR hn hf hb hok hG hlen ok hk hs (by rw [hr]; exact h)
theorem gr {G : Gt} {f : FuncId} {fn : Func} {c : Code} {rs} {α : Type} {L : AL α} {pre : α → Prop} {r : α → AV} {kd n : Nat} (hb : fn.body = some c) (hr : fn.results = ⟨rs⟩) (hG : Ah G) (h : ∀ a, pre a → run Tryz.prog G (fun _ => true) (OA Tryz.prog rs (AT 900 0 (L.enc a) ⟨[], []⟩).avs (L.enc a) (r a)) [.c c] (s0 (L.enc a)))
    (hn : ∀ a, (L.enc a).length = n := by exact fun _ => rfl) (hf : Tryz.prog.funcs[f]? = some fn := by kernel_rfl) (hok : Nj fn c = true := by kernel_rfl) (hlen : n ≤ fn.ntmps := by exact Nat.le_of_ble_eq_true rfl) (ok : A9 Tryz.prog f = true := by kernel_rfl) (hk : ¬ kd = 3 := by decide) (hs : kd = 0 → ∀ a, BV (r a) := by first | exact fun _ _ => .v _ | exact fun h => by cases h) : Gd G f (AA kd (Ak L pre r)) := gR hn hf hb hok hG hlen ok hk hs (by rw [hr]; exact h)
theorem If {dp : Nat → Bool} {G : Gt} {f : FuncId} {fn : Func} {c : Code} {rs} {α : Type} {L : AL α} {pre : α → Prop} {r : α → List AV × AV} {n : Nat} (hb : fn.body = some c) (hr : fn.results = ⟨rs⟩) (hG : Ah G) (h : ∀ a, pre a → run Tryz.prog G dp (OA Tryz.prog rs (AT 900 0 (L.enc a) ⟨[], []⟩).avs (r a).1 (r a).2) [.c c] (s0 (L.enc a)))
    (hn : ∀ a, (L.enc a).length = n := by exact fun _ => rfl) (hf : Tryz.prog.funcs[f]? = some fn := by kernel_rfl) (hok : Nj fn c = true := by kernel_rfl) (hlen : n ≤ fn.ntmps := by exact Nat.le_of_ble_eq_true rfl) (ok : A9 Tryz.prog f = true := by kernel_rfl) : Gd G f (AM (GN L pre r)) := gM hn hf hb hok hG hlen ok (by rw [hr]; exact h)
attribute [go_sem] EQ.eq_1 EQ.eq_2 I4.eq_1 Oc.eq_1 Oc.eq_2 Fc.eq_1 Fc.eq_2 Co.eq_1 Co.eq_2 Co.eq_3 Co.eq_4 Co.eq_5 Cn.eq_1 Cn.eq_2 Cn.eq_3 Cn.eq_4 Cn.eq_5 DS.eq_1 DS.eq_2 DS.eq_3 Gj.eq_1 Gj.eq_2 Li.eq_1 Li.eq_2 Li.eq_3 dc.eq_1 dc.eq_2 tZ.eq_1 aF.eq_1 aF.eq_2 dA.eq_1 Kj.eq_1 EF.eq_1 EF.eq_2 EF.eq_3 EF.eq_4 EF.eq_5 HY.eq_1 HY.eq_2 BJ.eq_1 BJ.eq_2 BJ.eq_3 Hq.eq_1 Fe.eq_1 Gy.eq_1 KJ.eq_1 NA.eq_1 NA.eq_2 DT.eq_1 DT.eq_2 DT.eq_3 Lb.eq_1 Lb.eq_2 Dd.eq_1 Dd.eq_2 Fd.eq_1 EH.eq_1 EH.eq_2 da.eq_1 da.eq_2 Bc.eq_1 Bc.eq_2 CE.eq_1 He.eq_1 KG.eq_1 Dc.eq_1 Dc.eq_2 E6.eq_1 E5.eq_1 K2.eq_1 DE.eq_1 DE.eq_2 DF.eq_1 DF.eq_2 ER.eq_1 ER.eq_2 Cw.eq_1 Cw.eq_2 HG.eq_1 HX.eq_1 HX.eq_2 I1.eq_1 I1.eq_2 Lh.eq_1 Lh.eq_2 Lh.eq_3 Lh.eq_4 M4.eq_1 M4.eq_2 HW.eq_1 HW.eq_2 HW.eq_3 HW.eq_4 ct.eq_1 ct.eq_2 L5.eq_1 FM.eq_1 FM.eq_2 FM.eq_3 L6.eq_1 Ff.eq_1 Ff.eq_2 Ff.eq_3 GL.eq_1 GL.eq_2 GM.eq_1 GM.eq_2 Ha.eq_1 Ha.eq_2 W2.eq_1 Qv.eq_1 Qw.eq_1 M3.eq_1 M3.eq_2 Qx.eq_1 EE.eq_1 EE.eq_2 EE.eq_3 EE.eq_4 M5.eq_1 M5.eq_2 DK.eq_1 JQ.eq_1 JQ.eq_2 JQ.eq_3 Cc.eq_1 Cc.eq_2 E4.eq_1 E4.eq_2 Cb.eq_1 Cb.eq_2 Cb.eq_3 Gh.eq_1 Gh.eq_2 cV.eq_1 AS.takeV.eq_1 AS.takeV.eq_2 AS.takeV.eq_3 AS.takeV.eq_4 AS.takeV.eq_5 AS.takeV.eq_6 AS.takeV.eq_7 AV.oldM.eq_1 AV.oldM.eq_2 AV.oldM.eq_3 AV.oldM.eq_4 AV.oldM.eq_5 AV.oldM.eq_6 AV.oldM.eq_7 AV.oldM.eq_8 AV.oldM.eq_9 AV.oldM.eq_10 AV.oldM.eq_11 AV.oldML.eq_1 AV.oldML.eq_2 subL.eq_1 subL.eq_2 Df.eq_1 Df.eq_2 Df.eq_3 Df.eq_4 C4.eq_1 BH.eq_1 BH.eq_2 BH.eq_3 BH.eq_4 Bz.eq_1 CD.eq_1 CD.eq_2 CD.eq_3 ED.eq_1 ED.eq_2 ED.eq_3 BG.eq_1 BG.eq_2 BG.eq_3 BG.eq_4 BG.eq_5 BG.eq_6 BG.eq_7 BG.eq_8 BG.eq_9 BG.eq_10 BG.eq_11 BG.eq_12 BG.eq_13 BG.eq_14 BG.eq_15 BG.eq_17 BG.eq_18 BG.eq_19 BG.eq_20 BG.eq_21 BG.eq_22 BG.eq_23 AS.ev.eq_1 AS.ev.eq_2 AS.ev.eq_3 AS.ev.eq_4 AS.evs.eq_1 AS.evs.eq_2 AS.evp.eq_1 AS.evp.eq_2 AS.put.eq_1 AS.put.eq_2 AS.remL.eq_1 AS.remL.eq_2 AV.has.eq_1 AV.has.eq_2 AV.has.eq_3 AV.has.eq_4 AV.has.eq_5 AV.has.eq_6 AV.has.eq_7 AV.has.eq_8 AV.has.eq_9 AV.has.eq_10 AV.has.eq_11 AV.hasL.eq_1 AV.hasL.eq_2 Ob.drop.eq_1 Ob.drop.eq_2 Ob.drop.eq_3 Ob.drop.eq_4 AV.cells.eq_1 AV.cells.eq_2 AV.cells.eq_3 AV.cells.eq_4 AV.cells.eq_5 AS.snapT.eq_1 AS.snapT.eq_2 AS.snapT.eq_3 AS.snapT.eq_4 AS.snapT.eq_5 AS.snapT.eq_6 AS.snapT.eq_7 AS.snap.eq_1 AS.snap.eq_2 A7.eq_1 A7.eq_2 AO.eq_1 AO.eq_2 AO.eq_3 AO.eq_4 AO.eq_5 AO.eq_6 AO.eq_7 AO.eq_8 AO.eq_9 AO.eq_10 AO.eq_11 AT.eq_1 AT.eq_2 IG.eq_1 IG.eq_2 AV.ids.eq_1 AV.ids.eq_2 AV.ids.eq_3 AV.ids.eq_4 AV.ids.eq_5 AV.ids.eq_6 AV.ids.eq_7 AV.ids.eq_8 AV.ids.eq_9 AV.ids.eq_10 AV.ids.eq_11 AV.idsL.eq_1 AV.idsL.eq_2 AV.sub.eq_1 AV.sub.eq_2 AV.sub.eq_3 AV.sub.eq_4 AV.sub.eq_5 AV.sub.eq_6 AV.sub.eq_7 AV.sub.eq_8 AV.sub.eq_9 AV.sub.eq_10 AV.sub.eq_11 AV.subL.eq_1 AV.subL.eq_2 AS.frzL.eq_1 AS.frzL.eq_2 AS.absT.eq_1 AS.absT.eq_2 AS.absT.eq_4 AS.absL.eq_1 AS.absL.eq_2 AS.absOk.eq_1 AS.absOkL.eq_1 AS.absOkL.eq_2 B1.eq_1 BZ.eq_1 BZ.eq_2 AS.appBase.eq_1 AS.appBase.eq_2 AS.appSrc.eq_1 CX.eq_1 CX.eq_2 CX.eq_3 CR.eq_1 CR.eq_2 cu.eq_1 cu.eq_2 DU.eq_1 Kd.agg.eq_1 Kd.agg.eq_2 Ik.eq_1 Ik.eq_2 Ik.eq_3 Ik.eq_4 Ik.eq_5 Ik.eq_6 Ik.eq_7 Ik.eq_8 zt.eq_1 xR.eq_1 xS.eq_1 XW.eq_1 XW.eq_2 cH.eq_1 VX.eq_1 K5.eq_1 K5.eq_2 K5.eq_3 VY.eq_1 VW.eq_1 QG.eq_1 QG.eq_2 Hj.eq_1 DP.eq_1 DP.eq_2 DP.eq_3 DP.eq_4 DP.eq_5 DP.eq_6 DP.eq_7 DP.eq_8 DX.eq_1 DX.eq_2 Cj.eq_1 Cj.eq_2 Cj.eq_3 Cj.eq_4 Cj.eq_5 Bw.eq_1 C0.eq_1 C0.eq_2 C0.eq_3 C0.eq_4 C0.eq_5 CQ.eq_1 Rp.eq_1 Rp.eq_2 OA.eq_1 OA.eq_2 OA.eq_3 cellAV.eq_1 cellAV.eq_2 DW.eq_1 DW.eq_2 B4.eq_1 B4.eq_2 B4.eq_3 B4.eq_4 B4.eq_5 B4.eq_6 B4.eq_7 B4.eq_8 B4.eq_9 B4.eq_10 B4.eq_11 B4.eq_12 B4.eq_13 B4.eq_14 B4.eq_15 B4.eq_16 B4.eq_17 B4.eq_18 B4.eq_19 B4.eq_20 B4.eq_21 B4.eq_22 B4.eq_23 B4.eq_24 B4.eq_25 B4.eq_26 Bs.eq_1 Bs.eq_2 Bs.eq_3 Bs.eq_4 Bs.eq_5 AV.refs.eq_1 AV.refs.eq_2 AV.refs.eq_3 AV.refs.eq_4 AV.refs.eq_5 AV.refs.eq_6 AV.refs.eq_7 AV.refs.eq_8 AV.refs.eq_9 AV.refs.eq_10 AV.refs.eq_11 AV.refsL.eq_1 AV.refsL.eq_2 LE.eq_1 LE.eq_2 Ex.eq_1 Ex.eq_2 Ex.eq_3 Ex.eq_4 Ex.eq_5 Ex.eq_6 Mi.eq_1 Mi.eq_2 WZ.eq_1 WZ.eq_2 Gu.eq_1 Gu.eq_2 AV.hasM.eq_1 AV.hasM.eq_2 AV.hasM.eq_3 AV.hasM.eq_4 AV.hasM.eq_5 AV.hasM.eq_6 AV.hasM.eq_7 AV.hasM.eq_8 AV.hasM.eq_9 AV.hasM.eq_10 AV.hasM.eq_11 AV.hasML.eq_1 AV.hasML.eq_2 Ob.dropM.eq_1 Ob.dropM.eq_2 Ob.dropM.eq_3 Ob.dropM.eq_4 lY.eq_1 lY.eq_2 AS.purges.eq_1 AS.purges.eq_2 Kf.eq_1 Kf.eq_2 XH.eq_1 XH.eq_2 wI.eq_1 wI.eq_2 FO.eq_1 FO.eq_2 FN.eq_1 FN.eq_2 dC.eq_1 dC.eq_2 dD.eq_1 dD.eq_2 AS.mvs.eq_1 AS.mvs.eq_2 AS.mvA.eq_1 AS.mvA.eq_2 AS.mvB.eq_1 L8.eq_1 L8.eq_2 jv.eq_1 jv.eq_2 Ye.eq_1 Gi.eq_1 Gi.eq_2 j3.eq_1 Hb.eq_1 Hb.eq_2 KH.eq_1 Hc.eq_1 Hc.eq_2 I9.eq_1 C9.eq_1 To.eq_1 Gk.eq_1 Gk.eq_2 Gk.eq_3 L7.eq_1 L7.eq_2 I2.eq_1 I2.eq_2 Oh.eq_1 qD.eq_1 qD.eq_2 qD.eq_3 xO.eq_1 EP.eq_1 EP.eq_2 XZ.eq_1 Gv.eq_1 Gv.eq_2 Gv.eq_3 iw.eq_1 iw.eq_2 iw.eq_3 Q3.eq_1 Q2.eq_1 Q1.eq_1 HZ.eq_1 M6.eq_1 M6.eq_2 Q0.eq_1 Qz.eq_1 EG.eq_1 IQ.eq_1 L4.eq_1 vK.eq_1 vK.eq_2 Xn.eq_1 Xn.eq_2 Xn.eq_3 Xn.eq_4 FF.eq_1 FF.eq_2 FF.eq_3 FF.eq_4 Pu.eq_1 Pu.eq_2 vW.eq_1 vW.eq_2 HI.eq_1 HI.eq_2 Xo.eq_1 Xo.eq_2 Xo.eq_3 Xo.eq_4 Xo.eq_5 AS.lkO.eq_1 AS.lkO.eq_2 AS.lkOf.eq_1 H2.eq_1 H2.eq_2 H2.eq_3 H2.eq_4 H2.eq_5 H2.eq_6 Bi.eq_1 Bi.eq_2 Bi.eq_3 Bi.eq_4 Bi.eq_5 Bi.eq_6 Bi.eq_7 Bi.eq_8 Bi.eq_9 Bi.eq_10 Bi.eq_11 YH.eq_1 YH.eq_2 m8.eq_1 m8.eq_2 KL.eq_1 Cy.eq_1 Cy.eq_2 FG.eq_1 FG.eq_2 FG.eq_3 FG.eq_4 Pv.eq_1 Pv.eq_2 vX.eq_1 vX.eq_2 MU.eq_1 MU.eq_2 m9.eq_1 ly lz QU Vm QR kD kC kB Mj QS Vl LH QP cB Vi cA Vh cC Vj ku kr l4 cE Vk vH vI lB k8 lA k9 lx kv KI I3 db Ta GC Sf gv gd s0 Ao B5 FO aI aH PK drop_nil Zw Zv Uj Ui PJ PL Uh FN U6 cL bz re_eq up_eq aK ln Ob.drop xF yd DI AS.frz splice cond_true cond_false List.map_cons List.map_nil List.drop_zero List.drop_succ_cons List.drop_nil List.take_zero List.take_succ_cons List.take_nil List.getElem?_cons_zero List.getElem?_cons_succ List.getElem?_nil List.length_cons List.length_nil Option.map_some Option.map_none Option.bind_some Option.bind_none List.cons_append List.nil_append List.append_nil Option.getD_some Option.getD_none List.all_cons List.all_nil Bool.and_true Bool.true_and Bool.or_false Bool.false_or Bool.or_true Bool.true_or List.flatten_cons List.flatten_nil List.replicate_succ List.replicate_zero and_true true_and Yk Yj On Tt Tu MB Ow UC UD MC Ou Ov co cp MI US UR cN cM V2 V1 Vn bj VV QE QF Va VZ bm QH QI Md Mf ne_eq not_false_eq_true not_true_eq_false List.nodup_nil List.not_mem_nil false_implies implies_true eq_self true_or or_true Option.some.injEq Vo Vz Vv Vx Vy Vp V0 Vq Vw Vu Vt Vs Vr Ot Uo JA Nat.le_refl MZ lm cl ck PI QN JD Kz LC JK MW Px uL uK uM uP uQ uO Mg LB HD sB List.any_cons List.any_nil YR Ts YQ EW Ma NJ Op.operands Call.operands JV jz xg Tr SS SZ List.append_eq lZ la lU lV lW kJ kK kL U2 U3 U4 Hl AS.mv fits KM IP Fv Nc T9 Yf Yg Pp Pm Pn j2 Od UG lE Uv Tp L9 decide_true decide_false Array.toList_append UU UV UW UX Yo Oy ME UF MD KR AS.mvJ P1 b6 b9 a8 Option.isSome_some Option.isSome_none bH Ol Om jy j0 j1 YP YM YO YN YT ik.eq_1 W3.eq_1 W3.eq_2 Lq.eq_1 Lq.eq_2 Lq.eq_3 Lq.eq_4 vw vz Tq zW zX zY zZ wk wl wm wn wo wq wr wt wu wv ww wx wy wz w3 w4 w6 w7 w8 w9 mP mQ mR mS By mT mU mV mW mX mY mZ ma DO va lN lO dC dD AS.mvs MN Og J9 NP O6 ON Xx MM Of J8 Ud O5 OM Xw OJ VC an al UB YV T8 OG OI Sq OF OH So UA YU T7 Ir.eq_1 am VA mb.eq_1 K0.eq_1 M0.eq_1 HP Nf RQ ZF lr lu lS lT Fk Tc Sv ZI Sw jh aq Xr Sr PW Tk TG TH ay X6 XD.eq_1 Ve PX Tl TI ZR TJ jm R3 X7 Jo PU Ti TC ZO Uc TD ax X4 XC.eq_1 Vd PY TK TL YB XE.eq_1 Vf Pb Tm TR ZT Uf TS jo R4 YE Jp PP Te S2 ZK S3 ji Xu W7.eq_1 Vb PS Tg S8 ZM S9 jk au X0 XA.eq_1 PO Td Sy ZJ Ub Sz ar Xt W6.eq_1 PV Tj ZQ Ue TE jl R2 Jn PT Th TA ZN TB X3 XB.eq_1 Vc PZ TM TN YC XF.eq_1 PQ S4 S5 Xv W8.eq_1 PR Tf S6 ZL S7 jj Xz W9.eq_1 Pa TP TQ YD Gc.eq_1
def Bb (b : ByteArray) : Prop := b.size ≤ 1048576
def GY {α : Type} (p : α → Prop) (xs : List α) : Prop := (xs.length : Int) ≤ 1048576 ∧ ∀ x ∈ xs, p x
theorem GY.at {α : Type} [Inhabited α] {p : α → Prop} {xs : List α} (h : GY p xs) {i : Nat} (hi : i < xs.length) : p (xs.getD i default) := h.2 _ (by simp [hi])
def IM (a : Ad) : Prop := Bb a.user ∧ Bb a.domain
def E3 (a : Ml) : Prop := IM a.frm ∧ GY IM a.to ∧ GY Bb a.body
def xY (a : Rc) : Prop := IM a.addr
def FY (a : Im) : Prop := IM a.frm ∧ GY xY a.to ∧ GY Bb a.body
def FR (a : Sp) : Prop := GY FY a.items
def xZ (a : Wy) : Prop := Bb a.ends ∧ Bb a.to
def HT (a : Cf) : Prop := Bb a.name ∧ GY Bb a.own ∧ GY xZ a.ways
def xX (a : Gm) : Prop := IM a.frm ∧ GY Bb a.body
def xW (a : Bx) : Prop := IM a.addr ∧ GY xX a.mails
def WI (a : Ls) : Prop := Bb a.mark ∧ IM a.addr
def E0 (a : Hs) : Prop := HT a.conf ∧ FR a.spool ∧ GY xW a.boxes ∧ GY WI a.lost
def dO (a : Wd) : Prop := GY E0 a.hosts ∧ GY WI a.given
def bl (s : ByteArray) : List UInt8 := s.data.toList
def mB (l : List UInt8) : ByteArray := ⟨l.toArray⟩
theorem Yp (l : List UInt8) : bl (mB l) = l := rfl
theorem VG (s : ByteArray) : mB (bl s) = s := rfl
theorem CF (s : ByteArray) : (bl s).length = s.size := rfl
theorem Bm (s : ByteArray) (i : Nat) : AC s i = (((bl s).getD i 0).toNat : Int) := rfl
theorem FA {s t : ByteArray} (h : bl s = bl t) : s = t := by
 rw [← VG s, ← VG t, h]
theorem C7 (s : ByteArray) (i j : Nat) : bl (s.extract i j) = ((bl s).drop i).take (j - i) := by
 unfold bl
 rw [ByteArray.data_extract, Array.toList_extract]
theorem HB (s : ByteArray) (i j : Nat) : s.extract i j = mB (((bl s).drop i).take (j - i)) := FA (by rw [C7, Yp])
theorem A5 (s : ByteArray) (i : Nat) : 0 ≤ AC s i ∧ AC s i ≤ 255 := by
 rw [Bm]
 have := ((bl s).getD i 0).toNat_lt
 omega
def Ko (n : Int) : Prop := (97 ≤ n ∧ n ≤ 122) ∨ (48 ≤ n ∧ n ≤ 57)
def TV (s : ByteArray) : Prop := (∀ j, j < s.size → Ko (AC s j)) ∧ 1 ≤ s.size ∧ s.size ≤ 8
def I0 (s : ByteArray) : Prop := (∀ j, j < s.size → 32 ≤ AC s j ∧ AC s j ≤ 126) ∧ s.size ≤ 40
def Ar (c : UInt8) : Nat → List UInt8 → List (List UInt8)
 | 0, l => [l]
 | _ + 1, [] => [[]]
 | m + 1, x :: r => if x = c then [] :: Ar c m r else match Ar c (m + 1) r with | h :: t => (x :: h) :: t | [] => [[x]]
def LA (p : List UInt8) : List (List UInt8) → List (List UInt8)
 | h :: t => (p ++ h) :: t
 | [] => [p]
theorem QM : ∀ (l : List (List UInt8)), l ≠ [] → LA [] l = l
 | h :: t, _ => rfl
 | [], h => absurd rfl h
theorem Iw (c : UInt8) : ∀ (m : Nat) (l : List UInt8), Ar c m l ≠ []
 | 0, l => by simp [Ar]
 | m + 1, [] => by simp [Ar]
 | m + 1, x :: r => by
   unfold Ar
   split
   ·try simp
   ·split <;> simp
theorem Sc (c : UInt8) (m : Nat) (r : List UInt8) (p : List UInt8) : LA p (Ar c (m + 1) (c :: r)) = p :: Ar c m r := by
 simp [Ar, LA]
theorem QZ {c x : UInt8} (h : x ≠ c) (m : Nat) (r : List UInt8) (p : List UInt8) : LA p (Ar c (m + 1) (x :: r)) = LA (p ++ [x]) (Ar c (m + 1) r) := by
 cases h1 : Ar c (m + 1) r with
 | nil => exact absurd h1 (Iw c (m + 1) r)
 | cons a t => simp only [Ar, if_neg h, h1, LA, List.append_assoc, List.singleton_append]
theorem cQ (c : UInt8) (l : List UInt8) (p : List UInt8) : LA p (Ar c 0 l) = [p ++ l] := by simp [Ar, LA]
theorem Sb (c : UInt8) (m : Nat) (p : List UInt8) : LA p (Ar c m []) = [p] := by
 cases m <;> simp [Ar, LA]
def C2 (s : ByteArray) (c : UInt8) (m : Nat) : List ByteArray := (Ar c m (bl s)).map mB
def Ju : Ct := Ak (lc BF (lc BF (lc BF l0))) (fun p => True) (fun p => .t (.v (.bool (BM (p.2.1 ≤ p.1 ∧ p.1 ≤ p.2.2.1)))))
theorem rR {G : Gt} (hG : Ah G) : Gd G 69 (AA 0 Ju) := by
 refine gr (fn := Tryz.f69) (n := 3) rfl rfl hG ?_
 rintro ⟨n, lo, hi, ⟨⟩⟩ hpre
 simp -implicitDefEqProofs only [Tryz.f69, go_sem, seval] at hpre ⊢
 with_reducible repeat' (first | apply ai | intro _ | ((first | apply s1 | apply s3 | apply s4) <;> intro hb <;> simp -implicitDefEqProofs only [hb, go_sem, seval] <;> try simp only [qz] at hb))
 all_goals first
  | (rw [AN (by omega)]; done)
  | (rw [BR]; simp [*]; done)
  | skip
def uf : Ct := Ak (lc Aq l0) (fun p => True) (fun p => .t (.v (.bool (BM (TV p.1)))))
section
attribute [local go_sem] Ju
theorem rm {G : Gt} (hG : Ah G) (hh : G.e 69 = AA 0 Ju) : Gd G 89 (AA 0 uf) := by
 refine gr (fn := Tryz.f89) (n := 1) rfl rfl hG ?_
 rintro ⟨s, ⟨⟩⟩ hpre
 simp -implicitDefEqProofs only [Tryz.f89, go_sem, hh, seval] at hpre ⊢
 refine AE [] (ι := {i : Nat // i ≤ s.size ∧ ∀ j, j < i → Ko (AC s j)}) (fun p => ⟨[(0, .t (.v (.string s))), (3, .t (.v (.int .i64 p.1)))], []⟩) (fun p => s.size - p.1) ⟨0, by simp, by simp⟩ rfl ?_ ?_
 ·simp -implicitDefEqProofs only [go_sem, hh, seval]
  try simp
 ·rintro ⟨i, hi, hall⟩
  simp -implicitDefEqProofs only [go_sem, hh, seval]
  with_reducible repeat' (first | apply ai | intro _ | ((first | apply s1 | apply s3 | apply s4) <;> intro hb <;> simp -implicitDefEqProofs only [hb, go_sem, hh, seval] <;> try simp only [qz] at hb))
  all_goals (try simp only [maxLen, tn] at *)
  all_goals (try have hbr := A5 s i)
  all_goals first | rfl | omega | skip
  all_goals first
   | (rw [AN (fun hq => by have hq1 := hq.1 i (by omega); simp only [Ko] at *; omega)]; done)
   | (refine ⟨⟨i + 1, by omega, fun j hj => ?_⟩, by dsimp only; omega, ?_⟩
      ·by_cases e : j = i
       ·subst e; simp only [Ko] at *; omega
       ·exact hall j (by omega)
      ·simp -implicitDefEqProofs only [go_sem, hh, seval]
       simp)
   | skip
  ·rw [AR]
   exact ⟨fun h => ⟨fun j hj => hall j (by omega), by omega⟩, fun h => by have := h.2; omega⟩
end
def RD : Ct := Ak (lc Aq l0) (fun p => True) (fun p => .t (.v (.bool (BM (I0 p.1)))))
theorem fK {G : Gt} (hG : Ah G) : Gd G 108 (AA 0 RD) := by
 refine gr (fn := Tryz.f108) (n := 1) rfl rfl hG ?_
 rintro ⟨s, ⟨⟩⟩ hpre
 simp -implicitDefEqProofs only [Tryz.f108, go_sem, seval] at hpre ⊢
 refine AE [] (ι := {i : Nat // i ≤ s.size ∧ ∀ j, j < i → 32 ≤ AC s j ∧ AC s j ≤ 126}) (fun p => ⟨[(0, .t (.v (.string s))), (3, .t (.v (.int .i64 p.1)))], []⟩) (fun p => s.size - p.1) ⟨0, by simp, by simp⟩ rfl ?_ ?_
 ·simp -implicitDefEqProofs only [go_sem, seval]
  try simp
 ·rintro ⟨i, hi, hall⟩
  simp -implicitDefEqProofs only [go_sem, seval]
  with_reducible repeat' (first | apply ai | intro _ | ((first | apply s1 | apply s3 | apply s4) <;> intro hb <;> simp -implicitDefEqProofs only [hb, go_sem, seval] <;> try simp only [qz] at hb))
  all_goals (try simp only [maxLen, tn] at *)
  all_goals (try have hbr := A5 s i)
  all_goals first | rfl | omega | skip
  all_goals first
   | (rw [AN (fun hq => by have hq1 := hq.1 i (by omega); skip; omega)]; done)
   | (refine ⟨⟨i + 1, by omega, fun j hj => ?_⟩, by dsimp only; omega, ?_⟩
      ·by_cases e : j = i
       ·subst e; skip; omega
       ·exact hall j (by omega)
      ·simp -implicitDefEqProofs only [go_sem, seval]
       simp)
   | skip
  ·rw [← BR, AR]
   exact ⟨fun h => ⟨fun j hj => hall j (by omega), by omega⟩, fun h => by have := h.2; omega⟩
structure DJ (s : ByteArray) (c : UInt8) (m : Nat) where
 i : Nat
 fr : Nat
 o : List (List UInt8)
 hi : i ≤ s.size
 hf : fr ≤ i
 ho : o.length ≤ m
 h : o ++ LA (((bl s).drop fr).take (i - fr)) (Ar c (m - o.length) ((bl s).drop i)) = Ar c m (bl s)
theorem Xc {l : List UInt8} {fr i : Nat} (hf : fr ≤ i) (hi : i < l.length) : (l.drop fr).take (i + 1 - fr) = (l.drop fr).take (i - fr) ++ [l.getD i 0] := by
 have e : i + 1 - fr = (i - fr) + 1 := by omega
 rw [e, List.take_add_one]
 have : (l.drop fr)[i - fr]? = some (l.getD i 0) := by
  rw [List.getElem?_drop]
  have : fr + (i - fr) = i := by omega
  rw [this]
  simp [hi]
 rw [this]; rfl
def DJ.start (s : ByteArray) (c : UInt8) (m : Nat) : DJ s c m := ⟨0, 0, [], Nat.zero_le _, Nat.le_refl _, Nat.zero_le _, by
 simp only [Nat.sub_self, List.take_zero, List.nil_append, List.length_nil, Nat.sub_zero, List.drop_zero]
 exact QM _ (Iw c m _)⟩
theorem Eo {s : ByteArray} {i : Nat} (h : i < s.size) : (bl s).drop i = (bl s).getD i 0 :: (bl s).drop (i + 1) := by
 have h' : i < (bl s).length := h
 rw [List.drop_eq_getElem_cons h']
 simp [h']
def DJ.hit {s : ByteArray} {c : UInt8} {m : Nat} (z : DJ s c m) (h1 : z.i < s.size) (h2 : z.o.length < m) (h3 : (bl s).getD z.i 0 = c) : DJ s c m :=
 ⟨z.i + 1, z.i + 1, z.o ++ [((bl s).drop z.fr).take (z.i - z.fr)], h1, Nat.le_refl _, by simp; omega, by
   have h := z.h
   obtain ⟨k, hk⟩ : ∃ k, m - z.o.length = k + 1 := ⟨m - z.o.length - 1, by omega⟩
   rw [hk, Eo h1, h3, Sc] at h
   have e : m - (z.o ++ [((bl s).drop z.fr).take (z.i - z.fr)]).length = k := by simp; omega
   rw [e, Nat.sub_self, List.take_zero, QM _ (Iw _ _ _), List.append_assoc, List.singleton_append]
   exact h⟩
def DJ.miss {s : ByteArray} {c : UInt8} {m : Nat} (z : DJ s c m) (h1 : z.i < s.size) (h2 : z.o.length < m) (h3 : (bl s).getD z.i 0 ≠ c) : DJ s c m :=
 ⟨z.i + 1, z.fr, z.o, h1, Nat.le_succ_of_le z.hf, z.ho, by
   have h := z.h
   obtain ⟨k, hk⟩ : ∃ k, m - z.o.length = k + 1 := ⟨m - z.o.length - 1, by omega⟩
   rw [hk, Eo h1, QZ h3] at h
   rw [hk, Xc (l := bl s) z.hf (by rw [CF]; exact h1)]
   exact h⟩
theorem DJ.done {s : ByteArray} {c : UInt8} {m : Nat} (z : DJ s c m) (h : ¬ z.i < s.size ∨ ¬ z.o.length < m) : z.o.map mB ++ [s.extract z.fr s.size] = C2 s c m := by
 have hz := z.h
 have e0 : s.extract z.fr s.size = mB ((bl s).drop z.fr) := by
  rw [HB]
  congr 1
  rw [List.take_of_length_le (by rw [List.length_drop, CF]; exact Nat.le_refl _)]
 unfold C2
 rw [← hz, List.map_append, e0]
 congr 1
 rcases h with h | h
 ·have hi := z.hi
  have e : (bl s).drop z.i = [] := List.drop_of_length_le (by rw [CF]; omega)
  rw [e, Sb]
  have : ((bl s).drop z.fr).take (z.i - z.fr) = (bl s).drop z.fr := List.take_of_length_le (by rw [List.length_drop, CF]; omega)
  rw [this]; rfl
 ·have hk : m - z.o.length = 0 := by omega
  rw [hk, cQ]
  have hf := z.hf
  have : ((bl s).drop z.fr).take (z.i - z.fr) ++ (bl s).drop z.i = (bl s).drop z.fr := by
   have e : (bl s).drop z.i = ((bl s).drop z.fr).drop (z.i - z.fr) := by rw [List.drop_drop]; congr 1; omega
   rw [e, List.take_append_drop]
  rw [this]; rfl
theorem ew (s : ByteArray) (z : List (List UInt8)) (fr i : Nat) : z.map mB ++ [s.extract fr i] = (z ++ [((bl s).drop fr).take (i - fr)]).map mB := by
 rw [HB, List.map_append]; rfl
theorem NC (l : List ByteArray) (x : ByteArray) : l.map AG ++ [[T.v (.string x)]] = (l ++ [x]).map AG := by simp [AG]
theorem nD (s : ByteArray) (z : List (List UInt8)) (fr i : Nat) : (z.map mB).map AG ++ [[T.v (.string (s.extract fr i))]] = ((z ++ [((bl s).drop fr).take (i - fr)]).map mB).map AG := by
 rw [NC, ew]
theorem GK {s : ByteArray} {i : Nat} {c : UInt8} : AC s i = (c.toNat : Int) ↔ (bl s).getD i 0 = c := by
 rw [Bm]
 constructor
 ·intro h
  have : ((bl s).getD i 0).toNat = c.toNat := by omega
  exact UInt8.toNat_inj.1 this
 ·intro h; rw [h]
def ue : Ct := Ak (lc Aq (lc md (lc BF l0))) (fun p => 0 ≤ p.2.1 ∧ p.2.1 ≤ 255 ∧ 0 ≤ p.2.2.1 ∧ p.2.2.1 ≤ 1000) (fun p => .o true 1 ((C2 p.1 (UInt8.ofNat p.2.1.toNat) p.2.2.1.toNat).map AG))
section
attribute [local go_sem] lm List.map_nil List.length_nil
theorem rl {G : Gt} (hG : Ah G) : Gd G 88 (AA 0 ue) := by
 refine gr (fn := Tryz.f88) (n := 3) rfl rfl hG ?_ (hs := fun _ p => .deep _ _)
 rintro ⟨s, c, m, ⟨⟩⟩ hpre
 simp -implicitDefEqProofs only [Tryz.f88, go_sem, seval] at hpre ⊢
 obtain ⟨c, rfl⟩ : ∃ b : UInt8, c = (b.toNat : Int) := ⟨UInt8.ofNat c.toNat, by simp; omega⟩
 obtain ⟨m, rfl⟩ : ∃ n : Nat, m = (n : Int) := ⟨m.toNat, by omega⟩
 with_reducible repeat' (first | apply ai | intro _ | ((first | apply s1 | apply s3 | apply s4) <;> intro hb <;> simp -implicitDefEqProofs only [hb, go_sem, seval] <;> try simp only [qz] at hb))
 all_goals first | rfl | omega | skip
 refine AE [(7, 1901, true, 1)] (ι := DJ s c m) (fun z => ⟨[(0, .t (.v (.string s))), (1, .t (.v (.int .u8 c.toNat))), (2, .t (.v (.int .i64 m))), (7, .h 1901), (8, .t (.v (.int .i64 z.fr))), (9, .t (.v (.int .i64 z.i)))], [(1901, some (.arr true 1 ((z.o.map mB).map AG)))]⟩) (fun z => s.size - z.i) (DJ.start s c m) rfl ?_ ?_
 ·simp -implicitDefEqProofs only [go_sem, seval]
  simp [DJ.start]
 ·intro z
  have h1 := z.hi
  have h2 := z.hf
  have h3 := z.ho
  simp -implicitDefEqProofs only [go_sem, seval]
  with_reducible repeat' (first | apply ai | intro _ | ((first | apply s1 | apply s3 | apply s4) <;> intro hb <;> simp -implicitDefEqProofs only [hb, go_sem, seval] <;> try simp only [qz] at hb))
  all_goals (try simp only [maxLen, tn, lm] at *)
  all_goals first | rfl | omega | (simp_all; done) | skip
  ·refine ⟨z.hit (by omega) (by omega) (GK.1 hb), by simp only [DJ.hit]; omega, ?_⟩
   rw [nD]
   simp -implicitDefEqProofs only [go_sem, seval]
   simp [DJ.hit]
  ·refine ⟨z.miss (by omega) (by omega) (fun e => hb (GK.2 e)), by simp only [DJ.miss]; omega, ?_⟩
   simp -implicitDefEqProofs only [go_sem, seval]
   simp [DJ.miss]
  ·rw [NC, z.done (.inr (by omega)), UInt8.ofNat_toNat]
  ·rw [NC, z.done (.inl (by omega)), UInt8.ofNat_toNat]
end
def C3 (s : ByteArray) : Prop := (∀ w ∈ C2 s 46 3, TV w) ∧ (C2 s 46 3).length ≤ 3
def BS (a : Ad) : Prop := TV a.user ∧ C3 a.domain
def Ab (a : Ad) : Prop := a.user = ⟨#[]⟩ ∧ a.domain = ⟨#[]⟩
def CZ (b : List ByteArray) : Prop := (∀ s ∈ b, I0 s) ∧ b.length ≤ 12
def B6 (m : Ml) : Prop := (∀ a ∈ m.to, BS a) ∧ m.to.Nodup ∧ (BS m.frm ∨ Ab m.frm) ∧ (1 ≤ m.to.length ∧ m.to.length ≤ 4) ∧ CZ m.body
def Qp (s e : ByteArray) : Prop := s = e ∨ (e.size < s.size ∧ s.extract (s.size - e.size) s.size = e ∧ AC s (s.size - e.size - 1) = 46)
theorem BO {α : Type} [Inhabited α] {xs : List α} {P : α → Prop} (h : ∀ j, j < xs.length → P (xs.getD j default)) : ∀ x ∈ xs, P x := fun x hx => by
 obtain ⟨j, hj, rfl⟩ := List.getElem_of_mem hx
 have := h j hj
 simpa [hj] using this
theorem AF {α : Type} [Inhabited α] {xs : List α} {j : Nat} (h : j < xs.length) : xs.getD j default ∈ xs := by
 simp [h]
theorem bI {α : Type} [Inhabited α] {xs : List α} (h : ∀ j, j < xs.length → ∀ k, k < j → ¬ xs.getD k default = xs.getD j default) : xs.Nodup := by
 rw [List.nodup_iff_pairwise_ne, List.pairwise_iff_getElem]
 intro k j hk hj hkj
 have := h j hj k hkj
 simpa [hk, hj] using this
theorem sJ {a b : Ad} (h : (false != (decide (a.user = b.user) && decide (a.domain = b.domain))) = false) : ¬ a = b := fun e => by
 subst e; simp at h
theorem DL {α : Type} [Inhabited α] {xs : List α} {P : α → Prop} {i : Nat} (hall : ∀ j, j < i → P (xs.getD j default)) (h : P (xs.getD i default)) : ∀ j, j < i + 1 → P (xs.getD j default) := fun j hj => by
 by_cases e : j = i
 ·subst e; exact h
 ·exact hall j (by omega)
def cy : Ct := Ak (lc Aq l0) (fun p => True) (fun p => .t (.v (.bool (BM (C3 p.1)))))
section
attribute [local go_sem] ue uf Aa lm
theorem qs {G : Gt} (hG : Ah G) (hh : G.e 88 = AA 0 ue ∧ G.e 89 = AA 0 uf) : Gd G 40 (AA 0 cy) := by
 refine gr (fn := Tryz.f40) (n := 1) rfl rfl hG ?_
 rintro ⟨s, ⟨⟩⟩ hpre
 simp -implicitDefEqProofs only [Tryz.f40, go_sem, hh, seval] at hpre ⊢
 with_reducible repeat' (first | apply ai | intro _ | ((first | apply s1 | apply s3 | apply s4) <;> intro hb <;> simp -implicitDefEqProofs only [hb, go_sem, hh, seval] <;> try simp only [qz] at hb))
 all_goals first | rfl | omega | skip
 have e46 : UInt8.ofNat (46 : Int).toNat = 46 := rfl
 have e3 : (3 : Int).toNat = 3 := rfl
 rw [e46, e3] at *
 refine AE [] (ι := {i : Nat // i ≤ (C2 s 46 3).length ∧ ∀ j, j < i → TV ((C2 s 46 3).getD j default)}) (fun p => ⟨[(3, .h 1006), (4, .t (.v (.int .i64 p.1)))], [(1006, some (.arr true 1 ((C2 s 46 3).map AG)))]⟩) (fun p => (C2 s 46 3).length - p.1) ⟨0, by simp, by simp⟩ rfl ?_ ?_
 ·simp -implicitDefEqProofs only [go_sem, hh, seval]
  try simp
 ·rintro ⟨i, hi, hall⟩
  simp -implicitDefEqProofs only [go_sem, hh, seval]
  with_reducible repeat' (first | apply ai | intro _ | ((first | apply s1 | apply s3 | apply s4) <;> intro hb <;> simp -implicitDefEqProofs only [hb, go_sem, hh, seval] <;> try simp only [qz] at hb))
  all_goals (try simp only [maxLen, tn, lm] at *)
  all_goals first | rfl | omega | skip
  ·rw [AN (fun h => hb (h.1 _ (AF (by omega))))]
  ·refine ⟨⟨i + 1, by omega, DL hall hb⟩, by dsimp only; omega, ?_⟩
   simp -implicitDefEqProofs only [go_sem, hh, seval]
   try simp
  ·rw [← BR, AR]
   exact ⟨fun h => ⟨BO fun j hj => hall j (by omega), by omega⟩, fun h => by have := h.2; omega⟩
end
def IY : Ct := Ak (lc DQ.ag l0) (fun p => True) (fun p => .t (.v (.bool (BM (BS p.1)))))
section
attribute [local go_sem] uf cy
theorem fI {G : Gt} (hG : Ah G) (hh : G.e 89 = AA 0 uf ∧ G.e 40 = AA 0 cy) : Gd G 106 (AA 0 IY) := by
 refine gr (fn := Tryz.f106) (n := 1) rfl rfl hG ?_
 rintro ⟨a, ⟨⟩⟩ hpre
 simp -implicitDefEqProofs only [Tryz.f106, go_sem, hh, seval] at hpre ⊢
 with_reducible repeat' (first | apply ai | intro _ | ((first | apply s1 | apply s3 | apply s4) <;> intro hb <;> simp -implicitDefEqProofs only [hb, go_sem, hh, seval] <;> try simp only [qz] at hb))
 all_goals first
  | rfl
  | (rw [AN (fun h => hb h.1)]; done)
  | (rw [AR]; exact ⟨fun h => ⟨by assumption, h⟩, fun h => h.2⟩)
  | skip
end
def IZ : Ct := Ak (lc DQ.ag l0) (fun p => True) (fun p => .t (.v (.bool (BM (Ab p.1)))))
theorem fU {G : Gt} (hG : Ah G) : Gd G 119 (AA 0 IZ) := by
 refine gr (fn := Tryz.f119) (n := 1) rfl rfl hG ?_
 rintro ⟨a, ⟨⟩⟩ hpre
 simp -implicitDefEqProofs only [Tryz.f119, go_sem, seval] at hpre ⊢
 with_reducible repeat' (first | apply ai | intro _ | ((first | apply s1 | apply s3 | apply s4) <;> intro hb <;> simp -implicitDefEqProofs only [hb, go_sem, seval] <;> try simp only [qz] at hb))
 all_goals first
  | rfl
  | (rw [AN (fun h => hb h.1)]; done)
  | (rw [← BR, AR]; exact ⟨fun h => ⟨by assumption, h⟩, fun h => h.2⟩)
  | skip
def nq : Ct := Ak (lc Aq (lc Aq l0)) (fun p => True) (fun p => .t (.v (.bool (BM (Qp p.1 p.2.1)))))
theorem fy {G : Gt} (hG : Ah G) : Gd G 145 (AA 0 nq) := by
 refine gr (fn := Tryz.f145) (n := 2) rfl rfl hG ?_
 rintro ⟨s, e, ⟨⟩⟩ hpre
 simp -implicitDefEqProofs only [Tryz.f145, go_sem, seval] at hpre ⊢
 with_reducible repeat' (first | apply ai | intro _ | ((first | apply s1 | apply s3 | apply s4) <;> intro hb <;> simp -implicitDefEqProofs only [hb, go_sem, seval] <;> try simp only [qz] at hb))
 all_goals (try simp only [maxLen] at *)
 all_goals first
  | rfl
  | omega
  | (rw [Ae (.inl hb)]; done)
  | skip
 all_goals have e1 : ((s.size : Int) - e.size).toNat = s.size - e.size := by omega
 all_goals (try rw [e1, tn] at hb)
 ·have e2 : ((s.size : Int) - e.size - 1).toNat = s.size - e.size - 1 := by omega
  rw [e2, ← BR, AR]
  exact ⟨fun h => .inr ⟨by omega, hb, h⟩, fun h => by
   rcases h with h | h
   ·exact absurd h (by assumption)
   ·exact h.2.2⟩
 ·rw [AN]
  rintro (h | h)
  ·exact absurd h (by assumption)
  ·exact hb h.2.1
 ·rw [AN]
  rintro (h | h)
  ·exact absurd h (by assumption)
  ·have := h.1; omega
def NF : Ct := Ak (lc Al.asl l0) (fun p => True) (fun p => .t (.v (.bool (BM (CZ p.1)))))
section
attribute [local go_sem] RD
theorem fV {G : Gt} (hG : Ah G) (hh : G.e 108 = AA 0 RD) : Gd G 120 (AA 0 NF) := by
 refine gr (fn := Tryz.f120) (n := 1) rfl rfl hG ?_
 rintro ⟨xs, ⟨⟩⟩ hpre
 simp -implicitDefEqProofs only [Tryz.f120, go_sem, hh, seval] at hpre ⊢
 refine AE [] (ι := {i : Nat // i ≤ xs.length ∧ ∀ j, j < i → I0 (xs.getD j default)}) (fun p => ⟨[(0, .t (.sl 1 (xs.map AG))), (3, .t (.v (.int .i64 p.1)))], []⟩) (fun p => xs.length - p.1) ⟨0, by simp, by simp⟩ rfl ?_ ?_
 ·simp -implicitDefEqProofs only [go_sem, hh, seval]
  try simp
 ·rintro ⟨i, hi, hall⟩
  simp -implicitDefEqProofs only [go_sem, hh, seval]
  with_reducible repeat' (first | apply ai | intro _ | ((first | apply s1 | apply s3 | apply s4) <;> intro hb <;> simp -implicitDefEqProofs only [hb, go_sem, hh, seval] <;> try simp only [qz] at hb))
  all_goals (try simp only [maxLen, tn, lm] at *)
  all_goals first | rfl | omega | skip
  ·rw [AN (fun h => hb (h.1 _ (AF (by omega))))]
  ·refine ⟨⟨i + 1, by omega, DL hall hb⟩, by dsimp only; omega, ?_⟩
   simp -implicitDefEqProofs only [go_sem, hh, seval]
   try simp
  ·rw [← BR, AR]
   exact ⟨fun h => ⟨BO fun j hj => hall j (by omega), by omega⟩, fun h => by have := h.2; omega⟩
end
def NG : Ct := Ak (lc TF.ag l0) (fun p => (p.1.to.length : Int) ≤ 1048576 ∧ (p.1.body.length : Int) ≤ 1048576) (fun p => QJ p.1)
section
attribute [local go_sem] lm List.map_nil List.length_nil
theorem fX {G : Gt} (hG : Ah G) : Gd G 122 (AA 0 NG) := by
 refine gr (fn := Tryz.f122) (n := 1) rfl rfl hG ?_ (hs := fun _ p => .agg _ (by intro c hc; simp only [List.mem_cons, List.not_mem_nil, or_false] at hc; rcases hc with rfl | rfl | rfl | rfl <;> first | exact .v _ | exact .deep _ _))
 rintro ⟨m, ⟨⟩⟩ hpre
 simp -implicitDefEqProofs only [Tryz.f122, go_sem, seval] at hpre ⊢
 with_reducible repeat' (first | apply ai | intro _ | ((first | apply s1 | apply s3 | apply s4) <;> intro hb <;> simp -implicitDefEqProofs only [hb, go_sem, seval] <;> try simp only [qz] at hb))
 all_goals (try simp only [maxLen, tn, lm] at *)
 all_goals first | rfl | omega | (simp_all; done) | skip
end
def uZ : Ct := Ak (lc TF.ag l0) (fun p => True) (fun p => .t (.v (.bool (BM (B6 p.1)))))
section
attribute [local go_sem] IY IZ Ju NF lm List.map_nil List.length_nil
theorem rQ {G : Gt} (hG : Ah G) (hh : G.e 106 = AA 0 IY ∧ G.e 119 = AA 0 IZ ∧ G.e 69 = AA 0 Ju ∧ G.e 120 = AA 0 NF) : Gd G 68 (AA 0 uZ) := by
 refine gr (fn := Tryz.f68) (n := 1) rfl rfl hG ?_
 rintro ⟨m, ⟨⟩⟩ hpre
 simp -implicitDefEqProofs only [Tryz.f68, go_sem, hh, seval] at hpre ⊢
 refine AE [] (ι := {i : Nat // i ≤ m.to.length ∧ (∀ j, j < i → BS (m.to.getD j default)) ∧ ∀ j, j < i → ∀ k, k < j → ¬ m.to.getD k default = m.to.getD j default}) (fun p => ⟨[(1, .pb 1001 0), (3, .t (.v (.int .i64 p.1)))], [(1001, some (.box [.t (.v (.string m.frm.user)), .t (.v (.string m.frm.domain)), .t (.sl 2 (m.to.map Am)), .t (.sl 1 (m.body.map AG))]))]⟩) (fun p => m.to.length - p.1) ⟨0, by simp, by simp, by simp⟩ rfl ?_ ?_
 ·simp -implicitDefEqProofs only [go_sem, hh, seval]
  try simp
 ·rintro ⟨i, hi, hall, hno⟩
  simp -implicitDefEqProofs only [go_sem, hh, seval]
  with_reducible repeat' (first | apply ai | intro _ | ((first | apply s1 | apply s3 | apply s4) <;> intro hb <;> simp -implicitDefEqProofs only [hb, go_sem, hh, seval] <;> try simp only [qz] at hb))
  all_goals (try simp only [maxLen, tn, lm] at *)
  all_goals first | rfl | omega | skip
  ·rw [AN (fun h => hb (h.1 _ (AF (by omega))))]
  ·refine AE [] (ι := {k : Nat // k ≤ i ∧ ∀ j, j < k → ¬ m.to.getD j default = m.to.getD i default}) (fun p => ⟨[(1, .pb 1001 0), (3, .t (.v (.int .i64 i))), (4, .t (.v (.int .i64 p.1)))], [(1001, some (.box [.t (.v (.string m.frm.user)), .t (.v (.string m.frm.domain)), .t (.sl 2 (m.to.map Am)), .t (.sl 1 (m.body.map AG))]))]⟩) (fun p => i - p.1) ⟨0, by simp, by simp⟩ rfl ?_ ?_
   ·simp -implicitDefEqProofs only [go_sem, hh, seval]
    try simp
   ·rintro ⟨k, hk, hk2⟩
    simp -implicitDefEqProofs only [go_sem, hh, seval]
    with_reducible repeat' (first | apply ai | intro _ | ((first | apply s1 | apply s3 | apply s4) <;> intro hb <;> simp -implicitDefEqProofs only [hb, go_sem, hh, seval] <;> try simp only [qz] at hb))
    all_goals (try simp only [maxLen, tn, lm] at *)
    all_goals first | rfl | omega | skip
    ·have e : m.to.getD k default = m.to.getD i default := CA.2 (by simpa using hb)
     rw [AN]
     intro h
     have hn := h.2.1
     have q1 : k < m.to.length := by omega
     have q2 : i < m.to.length := by omega
     simp only [List.getD_eq_getElem?_getD, List.getElem?_eq_getElem q1, List.getElem?_eq_getElem q2, Option.getD_some] at e
     exact List.pairwise_iff_getElem.1 (List.nodup_iff_pairwise_ne.1 hn) k i q1 q2 (by omega) e
    ·refine ⟨⟨k + 1, by omega, fun j hj => ?_⟩, by dsimp only; omega, ?_⟩
     ·by_cases e : j = k
      ·subst e; exact sJ hb
      ·exact hk2 j (by omega)
     ·simp -implicitDefEqProofs only [go_sem, hh, seval]
      try simp
    ·refine ⟨⟨i + 1, by omega, DL hall (by assumption), fun j hj q hq => ?_⟩, by dsimp only; omega, ?_⟩
     ·by_cases e : j = i
      ·subst e; exact hk2 q (by omega)
      ·exact hno j (by omega) q hq
     ·simp -implicitDefEqProofs only [go_sem, hh, seval]
      try simp
  all_goals have hlen : m.to.length ≤ i := by omega
  all_goals have hA : ∀ a ∈ m.to, BS a := BO fun j hj => hall j (by omega)
  all_goals have hN : m.to.Nodup := bI fun j hj q hq => hno j (by omega) q hq
  all_goals first
   | (rw [AR]
      exact ⟨fun h => ⟨hA, hN, by first | exact .inl (by assumption) | exact .inr (by assumption), by omega, h⟩, fun h => h.2.2.2.2⟩)
   | (rw [AN]
      intro h
      first
       | (have := h.2.2.2.1; omega)
       | (rcases h.2.2.1 with q | q <;> contradiction))
end
theorem IA {w : World} {pr : Nat → Prop} {u v : Value} {vs : List Value} (h : AJ ρ0 w pr [.t (.v u), .t (.v v)] vs []) : vs = [u, v] := by
 obtain ⟨a, l, rfl, h1, h2⟩ := h.one
 obtain ⟨b, l2, rfl, h3, h4⟩ := h2.one
 generalize hF : ([] : List Nat) = F at h4
 cases h4
 rw [h1.val.1, h3.val.1]
theorem Lg.cell {m : Int} {w : World} {pr : Nat → Prop} (h : Lg m w pr) : w.cell? ⟨0, 0, none⟩ = some (.int .i64 m) := by
 unfold Lg at h
 cases h with
 | rop cs a vs hp hv hr =>
   cases hr with
   | cons t v ts vs h1 h2 =>
     cases h1 with
     | v x hx =>
       have := hv 0 (.int .i64 m) rfl
       simpa [Addr.add, te] using this
def oV : Ct := Ak (lc Aq (lc md l0)) (fun _ => True) (fun p => .t (.v (.int .i64 (Lib.indexByte (bl p.1) (UInt8.ofNat p.2.1.toNat)))))
theorem iA (m : Int) : FW Tryz.prog m 203 oV := FW.of (r := fun (p : ByteArray × Int × Unit) => .int .i64 (Lib.indexByte (bl p.1) (UInt8.ofNat p.2.1.toNat))) (fun _ => trivial) fun p _ => by
 obtain ⟨s, c, ⟨⟩⟩ := p
 intro w pr vs hgl hv
 have := IA hv
 subst this
 have he : Extern.find Tryz.f203 = some Extern.BytealgIndexByte.indexByte := by kernel_rfl
 rw [run_callFunc_extern (fn := Tryz.f203) (by kernel_rfl) (by kernel_rfl) rfl (by kernel_rfl) he]
 have h := Lib.run_indexByteString (P := Tryz.prog) s c w
 rw [show ([Value.string s, Value.int .u8 c].toArray) = #[.string s, .int .u8 c] from rfl, h]
 rfl
def oE : Ct := Ak (lc Aq (lc md l0)) (fun _ => True) (fun p => .t (.v (.int .i64 (Lib.countByte (bl p.1) (UInt8.ofNat p.2.1.toNat)))))
theorem gY (m : Int) : FW Tryz.prog m 177 oE := FW.of (r := fun (p : ByteArray × Int × Unit) => .int .i64 (Lib.countByte (bl p.1) (UInt8.ofNat p.2.1.toNat))) (fun _ => trivial) fun p _ => by
 obtain ⟨s, c, ⟨⟩⟩ := p
 intro w pr vs hgl hv
 have := IA hv
 subst this
 have he : Extern.find Tryz.f177 = some Extern.BytealgCount.count := by kernel_rfl
 rw [run_callFunc_extern (fn := Tryz.f177) (by kernel_rfl) (by kernel_rfl) rfl (by kernel_rfl) he]
 have h := Lib.run_countString (P := Tryz.prog) s c w
 rw [show ([Value.string s, Value.int .u8 c].toArray) = #[.string s, .int .u8 c] from rfl, h]
 rfl
def oM (m : Int) : Ct := Ak (lc Aq (lc Aq l0)) (fun p => 2 ≤ p.2.1.size ∧ (p.2.1.size : Int) ≤ m ∧ p.1.size ≤ 2000000) (fun p => .t (.v (.int .i64 (Lib.indexB p.1 p.2.1))))
theorem gn (m : Int) : FW Tryz.prog m 192 (oM m) := FW.of (r := fun (p : ByteArray × ByteArray × Unit) => .int .i64 (Lib.indexB p.1 p.2.1)) (fun _ => trivial) fun p hp => by
 obtain ⟨s, b, ⟨⟩⟩ := p
 intro w pr vs hgl hv
 have := IA hv
 subst this
 have he : Extern.find Tryz.f192 = some Extern.BytealgIndex.index := by kernel_rfl
 rw [run_callFunc_extern (fn := Tryz.f192) (by kernel_rfl) (by kernel_rfl) rfl (by kernel_rfl) he]
 have h := Lib.run_indexString (P := Tryz.prog) s b w 0 m (by kernel_rfl) hgl.cell hp.1 hp.2.1 (by have h3 : s.size ≤ 2000000 := hp.2.2; omega)
 rw [show ([Value.string s, Value.string b].toArray) = #[.string s, .string b] from rfl, h]
 rfl
theorem CG (s : ByteArray) (i : Nat) (h : i < s.size) : AC s i = (s[i].toNat : Int) := by
 rw [Bm]
 have h' : i < (bl s).length := h
 have : (bl s).getD i 0 = s[i] := by
  simp [h']
  rfl
 rw [this]
 rfl
theorem GW (s : ByteArray) : s.toList = bl s := ByteArray.toList_eq s
theorem Ej {s t : ByteArray} (h : s = t) : (s.toList == t.toList) = true := by rw [h]; simp
theorem GI {s t : ByteArray} (h : ¬ s = t) : (s.toList == t.toList) = false := by
 rw [GW, GW]
 simpa using fun e => h (FA e)
def oL : Ct := Ak (lc Aq (lc md l0)) (fun p => True) (fun p => .t (.v (.int .i64 (Lib.indexByte (bl p.1) (UInt8.ofNat p.2.1.toNat)))))
section
attribute [local go_sem] oV
theorem gm {G : Gt} (hG : Ah G) (hh : G.e 203 = AA 3 oV) : Gd G 191 (AA 0 oL) := by
 refine gr (fn := Tryz.f191) (n := 2) rfl rfl hG ?_
 rintro ⟨s, c, ⟨⟩⟩ hpre
 simp -implicitDefEqProofs only [Tryz.f191, go_sem, hh, seval] at hpre ⊢
 repeat' (first | with_reducible apply ai | with_reducible intro _ | ((first | apply s1 | apply s2 | apply s3 | apply s4) <;> intro hb <;> simp -implicitDefEqProofs only [hb, go_sem, hh, seval] <;> try simp only [qz] at hb))
 all_goals first | rfl | skip
end
def oN : Ct := Ak (lc BF l0) (fun p => 0 ≤ p.1 ∧ p.1 ≤ 1000000000000) (fun p => .t (.v (.int .i64 ((p.1 + 16) / 8))))
theorem gp {G : Gt} (hG : Ah G) : Gd G 193 (AA 0 oN) := by
 refine gr (fn := Tryz.f193) (n := 1) rfl rfl hG ?_
 rintro ⟨n, ⟨⟩⟩ hpre
 simp -implicitDefEqProofs only [Tryz.f193, go_sem, seval] at hpre ⊢
 repeat' (first | with_reducible apply ai | with_reducible intro _ | ((first | apply s1 | apply s2 | apply s3 | apply s4) <;> intro hb <;> simp -implicitDefEqProofs only [hb, go_sem, seval] <;> try simp only [qz] at hb))
 all_goals first | rfl | omega | skip
open Go.Lib in
theorem hash_next (s : ByteArray) (k : Nat) (hk : k < s.size) {h : Int} (hh : h = RK.H ((bl s).take k) % 4294967296) : (h * 16777619 % 4294967296 + AC s k) % 4294967296 = RK.H ((bl s).take (k + 1)) % 4294967296 := by
 have := Go.Proofs.hash_step s k hk hh
 rw [CG s k hk]
 have h2 : (s[k].toNat : Int) % 4294967296 = s[k].toNat := by
  have := s[k].toNat_lt
  omega
 rw [h2] at this
 exact this
theorem tT (x : Int) : 0 ≤ x % 4294967296 ∧ x % 4294967296 < 4294967296 := by omega
def yi (s : ByteArray) : AV := .tup [.t (.v (.int .u32 (Lib.RK.H (bl s) % 4294967296))), .t (.v (.int .u32 (16777619 ^ s.size % 4294967296)))]
def oW : Ct := Ak (lc Aq l0) (fun p => p.1.size ≤ 2000000) (fun p => yi p.1)
section
attribute [local go_sem] yi
theorem iB {G : Gt} (hG : Ah G) : Gd G 204 (AA 0 oW) := by
 refine gr (fn := Tryz.f204) (n := 1) rfl rfl hG ?_ (hs := fun _ p => .tup _ (by intro c hc; simp only [List.mem_cons, List.not_mem_nil, or_false] at hc; rcases hc with rfl | rfl <;> exact .v _))
 rintro ⟨s, ⟨⟩⟩ hpre
 simp -implicitDefEqProofs only [Tryz.f204, go_sem, seval] at hpre ⊢
 refine AE [] (ι := {i : Nat // i ≤ s.size}) (fun p => ⟨[(0, .t (.v (.string s))), (4, .t (.v (.int .u32 (Lib.RK.H ((bl s).take p.1) % 4294967296)))), (5, .t (.v (.int .i64 p.1)))], []⟩) (fun p => s.size - p.1) ⟨0, by omega⟩ rfl ?_ ?_
 ·simp -implicitDefEqProofs only [go_sem, seval]
  simp [Lib.RK.H_nil]
 ·rintro ⟨i, hi⟩
  simp -implicitDefEqProofs only [go_sem, seval]
  repeat' (first | with_reducible apply ai | with_reducible intro _ | ((first | apply s1 | apply s2 | apply s3 | apply s4) <;> intro hb <;> simp -implicitDefEqProofs only [hb, go_sem, seval] <;> try simp only [qz] at hb))
  all_goals (try simp only [maxLen, tn] at *)
  all_goals (try have hbr := A5 s i)
  all_goals first | rfl | omega | skip
  ·refine ⟨⟨i + 1, by omega⟩, by dsimp only; omega, ?_⟩
   rw [hash_next s i (by omega) rfl]
   simp -implicitDefEqProofs only [go_sem, seval]
   try simp
  ·have hii : i = s.size := by omega
   have hle : (bl s).length ≤ i := by rw [CF]; omega
   rw [List.take_of_length_le hle]
   refine AE [] (ι := {p : Nat × Int × Int // p.1 ≤ 2000000 ∧ Lib.RK.PowInv s.size p.1 p.2.1 p.2.2 ∧ 0 ≤ p.2.1 ∧ p.2.1 < 4294967296}) (fun p => ⟨[(4, .t (.v (.int .u32 (Lib.RK.H (bl s) % 4294967296)))), (6, .t (.v (.int .u32 p.1.2.1))), (7, .t (.v (.int .u32 p.1.2.2))), (8, .t (.v (.int .i64 p.1.1)))], []⟩) (fun p => p.1.1) ⟨(s.size, 1, 16777619), by simpa using hpre, Lib.RK.pow_start _, by simp, by simp⟩ rfl ?_ ?_
   ·simp -implicitDefEqProofs only [go_sem, seval]
    try simp
   ·rintro ⟨⟨k, pw, sq⟩, hk, hpi, h0, h1⟩
    have hand := Go.Proofs.and_one k (by simp only at hk; omega)
    simp only at hk h0 h1 hpi
    have hpw : ((k : Int) / 2 ^ (1 : Int).toNat) = ((k / 2 : Nat) : Int) := by simp
    simp -implicitDefEqProofs only [go_sem, seval]
    repeat' (first | with_reducible apply ai | with_reducible intro _ | ((first | apply s1 | apply s2 | apply s3 | apply s4) <;> intro hb <;> simp -implicitDefEqProofs only [hb, go_sem, seval] <;> try simp only [qz] at hb))
    all_goals (try simp only [maxLen, tn] at *)
    all_goals first | rfl | omega | skip
    ·have h2 : k % 2 = 1 := by rw [hand] at hb; omega
     have := tT (pw * sq)
     refine ⟨⟨(k / 2, pw * sq % 4294967296, sq * sq % 4294967296), by simp only []; omega, Lib.RK.pow_odd hpi h2, this.1, this.2⟩, by simp only []; omega, ?_⟩
     try rw [hpw]
     simp -implicitDefEqProofs only [go_sem, seval]
     try simp
    ·have h2 : k % 2 = 0 := by rw [hand] at hb; omega
     refine ⟨⟨(k / 2, pw, sq * sq % 4294967296), by simp only []; omega, Lib.RK.pow_even hpi h2, h0, h1⟩, by simp only []; omega, ?_⟩
     try rw [hpw]
     simp -implicitDefEqProofs only [go_sem, seval]
     try simp
    ·have h2 : k = 0 := by omega
     subst h2
     rw [← Lib.RK.pow_end hpi h0 h1]
end
open Go.Lib in
theorem roll_next (s : ByteArray) (n i : Nat) (hn : 1 ≤ n) (hni : n ≤ i) (hi : i < s.size) {h pw : Int} (hh : h = RK.H (RK.win (bl s) (i - n) n) % 4294967296) (hp : pw = 16777619 ^ n % 4294967296) :
    ((h * 16777619 % 4294967296 + AC s i) % 4294967296 - pw * AC s (i - n) % 4294967296) % 4294967296 = RK.H (RK.win (bl s) (i + 1 - n) n) % 4294967296 := by
 have := Go.Proofs.roll_step s n i hn hni hi hh hp
 rw [CG s i hi, CG s (i - n) (by omega)]
 have h2 : (s[i - n].toNat : Int) % 4294967296 = s[i - n].toNat := by
  have := s[i - n].toNat_lt
  omega
 rw [h2] at this
 rw [← show RK.H (RK.win s.data.toList (i + 1 - n) n) % 4294967296 = RK.H (RK.win (bl s) (i + 1 - n) n) % 4294967296 from rfl, ← this]
 generalize pw * (s[i - n].toNat : Int) = X
 omega
def oO : Ct := Ak (lc Aq (lc Aq l0)) (fun p => 1 ≤ p.2.1.size ∧ p.2.1.size ≤ p.1.size ∧ p.1.size ≤ 2000000) (fun p => .t (.v (.int .i64 (Lib.indexB p.1 p.2.1))))
section
attribute [local go_sem] oW yi
theorem gq {G : Gt} (hG : Ah G) (hh : G.e 204 = AA 0 oW) : Gd G 194 (AA 0 oO) := by
 refine gr (fn := Tryz.f194) (n := 2) rfl rfl hG ?_
 rintro ⟨s, sep, ⟨⟩⟩ hpre
 simp -implicitDefEqProofs only [Tryz.f194, go_sem, hh, seval] at hpre ⊢
 repeat' (first | with_reducible apply ai | with_reducible intro _ | ((first | apply s1 | apply s2 | apply s3 | apply s4) <;> intro hb <;> simp -implicitDefEqProofs only [hb, go_sem, hh, seval] <;> try simp only [qz] at hb))
 all_goals first | rfl | omega | skip
 refine AE [] (ι := {i : Nat // i ≤ sep.size}) (fun p => ⟨[(0, .t (.v (.string s))), (1, .t (.v (.string sep))), (5, .t (.v (.int .u32 (Lib.RK.H (bl sep) % 4294967296)))), (6, .t (.v (.int .u32 (16777619 ^ sep.size % 4294967296)))), (7, .t (.v (.int .i64 sep.size))), (8, .t (.v (.int .u32 (Lib.RK.H ((bl s).take p.1) % 4294967296)))), (9, .t (.v (.int .i64 p.1)))], []⟩) (fun p => sep.size - p.1) ⟨0, by omega⟩ rfl ?_ ?_
 ·simp -implicitDefEqProofs only [go_sem, hh, seval]
  simp [Lib.RK.H_nil]
 ·rintro ⟨i, hi⟩
  simp -implicitDefEqProofs only [go_sem, hh, seval]
  repeat' (first | with_reducible apply ai | with_reducible intro _ | ((first | apply s1 | apply s2 | apply s3 | apply s4) <;> intro hb <;> simp -implicitDefEqProofs only [hb, go_sem, hh, seval] <;> try simp only [qz] at hb))
  all_goals (try simp only [maxLen, tn] at *)
  all_goals (try have hbr := A5 s i)
  all_goals first | rfl | omega | skip
  ·refine ⟨⟨i + 1, by omega⟩, by dsimp only; omega, ?_⟩
   rw [hash_next s i (by omega) rfl]
   simp -implicitDefEqProofs only [go_sem, hh, seval]
   try simp
  ·rw [Lib.hit s sep 0 (fun j hj => absurd hj (Nat.not_lt_zero _)) (by omega) (Ej (by rw [Nat.zero_add]; exact hb))]
   rfl
  all_goals
   have hii : i = sep.size := by omega
   have hb0 := hb
   subst hii
   have hno : Lib.NoOccB s sep (sep.size - sep.size + 1) := by
    rw [Nat.sub_self]
    refine Lib.NoOcc.succ (fun j hj => absurd hj (Nat.not_lt_zero _)) ?_
    first
     | exact Go.Proofs.occ_no s sep 0 (by omega) (by rw [Nat.zero_add]; exact GI hb0)
     | exact Go.Proofs.occ_no_hash s sep 0 (by omega) rfl rfl hb0
   refine AE [] (ι := {k : Nat // sep.size ≤ k ∧ k ≤ s.size ∧ Lib.NoOccB s sep (k - sep.size + 1)}) (fun p => ⟨[(0, .t (.v (.string s))), (1, .t (.v (.string sep))), (5, .t (.v (.int .u32 (Lib.RK.H (bl sep) % 4294967296)))), (6, .t (.v (.int .u32 (16777619 ^ sep.size % 4294967296)))), (7, .t (.v (.int .i64 sep.size))), (8, .t (.v (.int .u32 (Lib.RK.H (Lib.RK.win (bl s) (p.1 - sep.size) sep.size) % 4294967296)))), (10, .t (.v (.int .i64 p.1)))], []⟩) (fun p => s.size - p.1) ⟨sep.size, by omega, by omega, hno⟩ rfl ?_ ?_
   ·simp -implicitDefEqProofs only [go_sem, hh, seval]
    try simp [Lib.RK.win_zero]
   ·rintro ⟨k, hk1, hk2, hk3⟩
    have hrn := fun h => roll_next s sep.size k (by omega) hk1 h rfl rfl
    have eks : ((k : Int) - sep.size).toNat = k - sep.size := by omega
    have eks1 : ((k : Int) + 1 - sep.size).toNat = k + 1 - sep.size := by omega
    have ek1 : ((k : Int) + 1).toNat = k + 1 := by omega
    simp -implicitDefEqProofs only [go_sem, hh, seval]
    repeat' (first | with_reducible apply ai | with_reducible intro _ | ((first | apply s1 | apply s2 | apply s3 | apply s4) <;> intro hb <;> simp -implicitDefEqProofs only [hb, go_sem, hh, seval] <;> try simp only [qz] at hb))
    all_goals (try simp only [maxLen, tn] at *)
    all_goals (try have hbr := A5 s k)
    all_goals (try have hbr2 := A5 s (k - sep.size))
    all_goals (try simp only [eks, eks1, ek1] at *)
    all_goals first | rfl | omega | skip
    all_goals (try have hkk := hrn (by omega))
    all_goals have e1 : k - sep.size + 1 = k + 1 - sep.size := by omega
    all_goals rw [e1] at hk3
    ·have e2 : k + 1 - sep.size + sep.size = k + 1 := by omega
     rw [Lib.hit s sep (k + 1 - sep.size) hk3 (by omega) (Ej (by rw [e2]; exact hb))]
     have e3 : ((k + 1 - sep.size : Nat) : Int) = (k : Int) + 1 - sep.size := by omega
     rw [e3]
    ·have e2 : k + 1 - sep.size + sep.size = k + 1 := by omega
     have hocc := Go.Proofs.occ_no s sep (k + 1 - sep.size) (by omega) (by rw [e2]; exact GI hb)
     refine ⟨⟨k + 1, by omega, by omega, Lib.NoOcc.succ hk3 hocc⟩, by dsimp only; omega, ?_⟩
     rw [hkk]
     simp -implicitDefEqProofs only [go_sem, hh, seval]
     try simp
    ·rw [hkk] at hb
     have hocc := Go.Proofs.occ_no_hash s sep (k + 1 - sep.size) (by omega) rfl rfl hb
     refine ⟨⟨k + 1, by omega, by omega, Lib.NoOcc.succ hk3 hocc⟩, by dsimp only; omega, ?_⟩
     rw [hkk]
     simp -implicitDefEqProofs only [go_sem, hh, seval]
     try simp
    ·rw [Lib.past s sep (k + 1 - sep.size) hk3 (by omega) (by omega)]
end
section
open Go.Lib
theorem ac (s : ByteArray) (c : UInt8) : indexByte (bl s) c = -1 ∨ ∃ o : Nat, indexByte (bl s) c = o ∧ o < s.size := by
 have hge := indexByte_ge (bl s) c
 by_cases h : indexByte (bl s) c = -1
 ·exact .inl h
 ·obtain ⟨o, ho⟩ : ∃ o : Nat, indexByte (bl s) c = o := ⟨(indexByte (bl s) c).toNat, by omega⟩
  refine .inr ⟨o, ho, ?_⟩
  obtain ⟨h1, _⟩ := indexByte_some ho
  exact (List.getElem?_eq_some_iff.1 h1).1
theorem G5 (sub : ByteArray) (h : 0 < sub.size) : UInt8.ofNat (AC sub 0).toNat = ((sub[0].toNat : Int)).toNat.toUInt8 := by rw [CG sub 0 h]
theorem lJ {s sub : ByteArray} {k j : Nat} (hk : k < s.size) (hj : j < sub.size) (h : ¬ AC s k = AC sub j) : ((((s[k].toNat : Nat) : Int)) != ((sub[j].toNat : Nat) : Int)) = true := by
 rw [CG s k hk, CG sub j hj] at h
 simpa using h
theorem Na {s sub : ByteArray} {k : Nat} (h2 : 2 ≤ sub.size) (hls : sub.size ≤ s.size) (hk : k < s.size) (hno : NoOccB s sub k) (hne : ¬ AC s k = AC sub 0) (hib : indexByte (bl (s.extract (k + 1) (s.size - sub.size + 1))) (UInt8.ofNat (AC sub 0).toNat) = -1) : indexB s sub = -1 :=
 skip_none s sub k h2 hls hk hno (lJ hk (by omega) hne) (by rw [G5 sub (by omega)] at hib; exact hib)
theorem Nb {s sub : ByteArray} {k o : Nat} (h2 : 2 ≤ sub.size) (hk : k < s.size) (hno : NoOccB s sub k) (hne : ¬ AC s k = AC sub 0) (hib : indexByte (bl (s.extract (k + 1) (s.size - sub.size + 1))) (UInt8.ofNat (AC sub 0).toNat) = o) : NoOccB s sub (k + (o + 1)) :=
 skip_some s sub k o h2 hk hno (lJ hk (by omega) hne) (by rw [G5 sub (by omega)] at hib; exact hib)
theorem MS {s sub : ByteArray} {i : Nat} (hno : NoOccB s sub i) (h2 : 2 ≤ sub.size) (hi : i + 1 < s.size) (hne : ¬ AC s (i + 1) = AC sub 1) : NoOccB s sub (i + 1) :=
 miss_second s sub i hno h2 hi (by rw [CG s _ hi, CG sub 1 (by omega)] at hne; exact hne)
theorem Pq {s sub : ByteArray} {i : Nat} (hno : NoOccB s sub i) (hi : i + sub.size ≤ s.size) (h : ¬ s.extract i (i + sub.size) = sub) : NoOccB s sub (i + 1) := miss_piece s sub i hno hi (GI h)
theorem Kr (s sub : ByteArray) (a : Nat) : -1 ≤ indexB (s.extract a s.size) sub ∧ indexB (s.extract a s.size) sub ≤ s.size := ⟨index_ge _ _, index_tail_le s sub a⟩
theorem Rz {s sub : ByteArray} (h : sub.size = 1) : indexByte (bl s) (UInt8.ofNat (AC sub 0).toNat) = indexB s sub := by
 rw [one s sub h, G5 sub (by omega)]; rfl
theorem Uz {s sub : ByteArray} (h : sub.size = 0 ∨ sub = s) : indexB s sub = 0 := zero s sub (by
 rcases h with h | h
 ·exact .inl (by rw [h]; rfl)
 ·exact .inr (Ej h))
theorem lI {s sub : ByteArray} {k : Nat} (hno : NoOccB s sub k) (hk : k ≤ s.size) : indexB s sub = if indexB (s.extract k s.size) sub < 0 then -1 else indexB (s.extract k s.size) sub + k := by
 split
 ·exact fb_neg s sub k hno hk (r := indexB (s.extract k s.size) sub) rfl (by assumption) (Kr s sub k).1
 ·exact fb_pos s sub k hno hk (r := indexB (s.extract k s.size) sub) rfl (by omega)
theorem zO {k : IntKind} {x y : Int} (h : x = y) : T.v (.int k x) = T.v (.int k y) := by rw [h]
theorem ib {s sub : ByteArray} (h1 : s.size ≤ sub.size) (h2 : ¬ sub = s) : indexB s sub = -1 := long s sub h1 (GI h2)
end
def oF : Ct := Ak (lc Aq (lc Aq l0)) (fun p => p.2.1.size ≤ 2000000 ∧ p.1.size ≤ 2000000) (fun p => .t (.v (.int .i64 (Lib.indexB p.1 p.2.1))))
section
attribute [local go_sem] oL oM oN oO te eq_self decide_true Bool.not_true Bool.not_false
set_option maxHeartbeats 8000000 in
theorem gZ {G : Gt} (hG : Ah G) (hh : G.e 191 = AA 0 oL ∧ G.e 192 = AA 3 (oM G.m) ∧ G.e 193 = AA 0 oN ∧ G.e 194 = AA 0 oO) : Gd G 178 (AA 0 oF) := by
 refine gr (fn := Tryz.f178) (n := 2) rfl rfl hG ?_
 rintro ⟨s, sub, ⟨⟩⟩ hpre
 simp -implicitDefEqProofs only [Tryz.f178, go_sem, hh, Nat.reduceAdd, Nat.reduceMul, Nat.reduceLeDiff, Nat.reduceEqDiff, reduceCtorEq, Nat.reduceSub, Int.reduceNeg, Nat.reduceMod, Nat.reduceBEq, Nat.reduceLT] at hpre ⊢
 with_reducible repeat' (first | apply ai | intro _ | ((first | apply s1 | apply s3 | apply s4) <;> intro hb <;> simp -implicitDefEqProofs only [hb, go_sem, hh, Nat.reduceAdd, Nat.reduceMul, Nat.reduceLeDiff, Nat.reduceEqDiff, reduceCtorEq, Nat.reduceSub, Int.reduceNeg, Nat.reduceMod, Nat.reduceBEq, Nat.reduceLT] <;> try simp only [qz] at hb))
 all_goals (try simp only [maxLen, tn] at *)
 all_goals first | rfl | omega | skip
 ·rw [Uz (.inl (by omega))]
 ·rename_i hb; rw [Uz (.inr hb)]
 ·rw [← Rz (s := s) (sub := sub) (by omega)]; rfl
 ·rw [ib (by omega) (by assumption)]
 all_goals
  have h2 : 2 ≤ sub.size := by omega
  have hls : sub.size < s.size := by omega
  refine AE [] (ι := {p : Nat × Nat // p.1 ≤ s.size - sub.size + 1 ∧ Lib.NoOccB s sub p.1 ∧ p.2 ≤ p.1}) (fun p => ⟨[(0, .t (.v (.string s))), (1, .t (.v (.string sub))), (5, .t (.v (.int .i64 sub.size))), (6, .t (.v (.int .u8 (AC sub 0)))), (7, .t (.v (.int .u8 (AC sub 1)))), (8, .t (.v (.int .i64 p.1.1))), (9, .t (.v (.int .i64 (s.size - sub.size + 1)))), (10, .t (.v (.int .i64 p.1.2)))], []⟩) (fun p => s.size - p.1.1) ⟨(0, 0), by dsimp only; omega, (fun j hj => absurd hj (Nat.not_lt_zero _)), by dsimp only; omega⟩ rfl ?_ ?_
  ·simp -implicitDefEqProofs only [go_sem, hh, Nat.reduceAdd, Nat.reduceMul, Nat.reduceLeDiff, Nat.reduceEqDiff, reduceCtorEq, Nat.reduceSub, Int.reduceNeg, Nat.reduceMod, Nat.reduceBEq, Nat.reduceLT]
   try simp
  ·rintro ⟨⟨i, f⟩, hi, hno, hf⟩
   dsimp only at hi hno hf
   have et : ((s.size : Int) - sub.size + 1).toNat = s.size - sub.size + 1 := by omega
   have ei : ((i : Int) + 1).toNat = i + 1 := by omega
   by_cases ht : (i : Int) < s.size - sub.size + 1
   ·by_cases e0 : AC s (i : Int).toNat = AC sub 0
    ·have e1 : ((i : Int) + sub.size).toNat = i + sub.size := by omega
     simp -implicitDefEqProofs only [ht, e0, go_sem, hh, Nat.reduceAdd, Nat.reduceMul, Nat.reduceLeDiff, Nat.reduceEqDiff, reduceCtorEq, Nat.reduceSub, Int.reduceNeg, Nat.reduceMod, Nat.reduceBEq, Nat.reduceLT]
     with_reducible repeat' (first | apply ai | intro _ | ((first | apply s1 | apply s3 | apply s4) <;> intro hb <;> simp -implicitDefEqProofs only [hb, go_sem, hh, Nat.reduceAdd, Nat.reduceMul, Nat.reduceLeDiff, Nat.reduceEqDiff, reduceCtorEq, Nat.reduceSub, Int.reduceNeg, Nat.reduceMod, Nat.reduceBEq, Nat.reduceLT] <;> try simp only [qz] at hb))
     all_goals (try simp only [maxLen, tn, Int.reduceToNat, ei, et, e1] at *)
     all_goals first | rfl | omega | skip
     all_goals first
      | (rw [Lib.hit s sub i hno (by omega) (Ej (by assumption))]; done)
      | (rw [ByteArray.size_extract]; omega)
      | (have hk2 : Lib.NoOccB s sub (i + 1) := by
           first
            | exact Pq hno (by omega) (by assumption)
            | exact MS hno h2 (by omega) (by assumption)
         have hbd := Kr s sub (i + 1)
         first
          | omega
          | (refine zO ?_
             rw [lI hk2 (by omega)]
             first
              | (rw [if_pos (by omega)]; done)
              | (rw [if_neg (by omega)]; omega))
          | (refine ⟨⟨(i + 1, f + 1), by dsimp only; omega, hk2, by dsimp only; omega⟩, by dsimp only; omega, ?_⟩
             simp -implicitDefEqProofs only [go_sem, hh, Nat.reduceAdd, Nat.reduceMul, Nat.reduceLeDiff, Nat.reduceEqDiff, reduceCtorEq, Nat.reduceSub, Int.reduceNeg, Nat.reduceMod, Nat.reduceBEq, Nat.reduceLT]
             simp))
    ·have hz : True := trivial
     rcases ac (s.extract ((i : Int) + 1).toNat ((s.size : Int) - sub.size + 1).toNat) (UInt8.ofNat (AC sub (Int.toNat 0)).toNat) with h | ⟨o, h, ho⟩
     ·have h' : Lib.indexByte (bl (s.extract ((i : Int) + 1).toNat ((s.size : Int) - sub.size + 1).toNat)) (UInt8.ofNat (AC sub 0).toNat) = -1 := h
      simp -implicitDefEqProofs only [ht, e0, h', go_sem, hh, Nat.reduceAdd, Nat.reduceMul, Nat.reduceLeDiff, Nat.reduceEqDiff, reduceCtorEq, Nat.reduceSub, Int.reduceNeg, Nat.reduceMod, Nat.reduceBEq, Nat.reduceLT]
      with_reducible repeat' (first | apply ai | intro _ | ((first | apply s1 | apply s3 | apply s4) <;> intro hb <;> simp -implicitDefEqProofs only [hb, go_sem, hh, Nat.reduceAdd, Nat.reduceMul, Nat.reduceLeDiff, Nat.reduceEqDiff, reduceCtorEq, Nat.reduceSub, Int.reduceNeg, Nat.reduceMod, Nat.reduceBEq, Nat.reduceLT] <;> try simp only [qz] at hb))
      all_goals (try simp only [maxLen] at *)
      all_goals first | rfl | omega | skip
      rw [ei, et] at h'
      rw [tn] at e0
      rw [Na (k := i) h2 (by omega) (by omega) hno e0 h']
     ·have h' : Lib.indexByte (bl (s.extract ((i : Int) + 1).toNat ((s.size : Int) - sub.size + 1).toNat)) (UInt8.ofNat (AC sub 0).toNat) = o := h
      have ho' : i + (o + 1) < s.size - sub.size + 1 := by
       rw [ei, et, ByteArray.size_extract] at ho; omega
      have hno' : Lib.NoOccB s sub (i + (o + 1)) := by
       rw [ei, et] at h'
       rw [tn] at e0
       exact Nb (k := i) h2 (by omega) hno e0 h'
      have e4 : ((i : Int) + ((o : Int) + 1)) = ((i + (o + 1) : Nat) : Int) := by omega
      simp -implicitDefEqProofs only [ht, e0, h', e4, go_sem, hh, Nat.reduceAdd, Nat.reduceMul, Nat.reduceLeDiff, Nat.reduceEqDiff, reduceCtorEq, Nat.reduceSub, Int.reduceNeg, Nat.reduceMod, Nat.reduceBEq, Nat.reduceLT]
      have hik : i ≤ i + (o + 1) := by omega
      have hob : o ≤ 2000000 := by omega
      clear h h' ho e0
      generalize i + (o + 1) = k at *
      have ek : ((k : Int) + 1).toNat = k + 1 := by omega
      have e1 : ((k : Int) + sub.size).toNat = k + sub.size := by omega
      with_reducible repeat' (first | apply ai | intro _ | ((first | apply s1 | apply s3 | apply s4) <;> intro hb <;> simp -implicitDefEqProofs only [hb, go_sem, hh, Nat.reduceAdd, Nat.reduceMul, Nat.reduceLeDiff, Nat.reduceEqDiff, reduceCtorEq, Nat.reduceSub, Int.reduceNeg, Nat.reduceMod, Nat.reduceBEq, Nat.reduceLT] <;> try simp only [qz] at hb))
      all_goals (try simp only [maxLen, tn, Int.reduceToNat, ei, et, e1, ek, e4] at *)
      all_goals first | rfl | omega | skip
      all_goals first
       | (rw [Lib.hit s sub k hno' (by omega) (Ej (by assumption))]; done)
       | (rw [ByteArray.size_extract]; omega)
       | (have hk2 : Lib.NoOccB s sub (k + 1) := by
            first
             | exact Pq hno' (by omega) (by assumption)
             | exact MS hno' h2 (by omega) (by assumption)
          have hbd := Kr s sub (k + 1)
          first
           | omega
           | (refine zO ?_
              rw [lI hk2 (by omega)]
              first
               | (rw [if_pos (by omega)]; done)
               | (rw [if_neg (by omega)]; omega))
           | (refine ⟨⟨(k + 1, f + 1), by dsimp only; omega, hk2, by dsimp only; omega⟩, by dsimp only; omega, ?_⟩
              simp -implicitDefEqProofs only [go_sem, hh, Nat.reduceAdd, Nat.reduceMul, Nat.reduceLeDiff, Nat.reduceEqDiff, reduceCtorEq, Nat.reduceSub, Int.reduceNeg, Nat.reduceMod, Nat.reduceBEq, Nat.reduceLT]
              simp))

   ·simp -implicitDefEqProofs only [ht, go_sem, hh, Nat.reduceAdd, Nat.reduceMul, Nat.reduceLeDiff, Nat.reduceEqDiff, reduceCtorEq, Nat.reduceSub, Int.reduceNeg, Nat.reduceMod, Nat.reduceBEq, Nat.reduceLT]
    rw [Lib.past s sub i hno (by omega) (by omega)]
end
section
open Go.Lib
def Fy (c : UInt8) : List UInt8 → List (List UInt8)
 | [] => [[]]
 | x :: r => if x = c then [] :: Fy c r else match Fy c r with | h :: t => (x :: h) :: t | [] => [[x]]
def Iv (s : ByteArray) (c : UInt8) : List ByteArray := (Fy c (bl s)).map mB
theorem GT (c : UInt8) : ∀ l : List UInt8, (Fy c l).length = l.count c + 1
 | [] => rfl
 | x :: r => by
   have h := GT c r
   rw [Fy]
   by_cases e : x = c
   ·rw [if_pos e, e, List.count_cons_self]; simp [h]
   ·rw [if_neg e, List.count_cons_of_ne e]
    cases hs : Fy c r with
    | nil => rw [hs] at h; simp at h
    | cons a t => rw [hs] at h; simp at h ⊢; exact h
theorem QW {c : UInt8} : ∀ {l : List UInt8}, (∀ j : Nat, l[j]? ≠ some c) → Fy c l = [l]
 | [], _ => rfl
 | x :: r, h => by
   rw [Fy, if_neg (fun e => h 0 (by rw [e]; rfl)), QW (fun j => h (j + 1))]
theorem Mk {c : UInt8} : ∀ (o : Nat) (l : List UInt8), l[o]? = some c → (∀ k : Nat, k < o → l[k]? ≠ some c) → Fy c l = l.take o :: Fy c (l.drop (o + 1))
 | 0, l, h, _ => by
   cases l with
   | nil => cases h
   | cons x r => simp at h; rw [Fy, if_pos h]; rfl
 | o + 1, l, h, hk => by
   cases l with
   | nil => cases h
   | cons x r =>
     rw [Fy, if_neg (fun e => hk 0 (by omega) (by rw [e]; rfl)), Mk o r h (fun k q => hk (k + 1) (by omega))]
     rfl
theorem FK {c : UInt8} : ∀ (l : List UInt8) (m : Nat), (Ar c m l).length ≤ m ∨ (Fy c l).length ≤ m → Ar c m l = Fy c l
 | l, 0, h => by
   have := GT c l
   rw [Ar] at h
   rcases h with h | h
   ·exact absurd h (by simp)
   ·omega
 | [], m + 1, _ => by rw [Ar, Fy]
 | x :: r, m + 1, h => by
   rw [Ar, Fy] at h ⊢
   by_cases e : x = c
   ·rw [if_pos e, if_pos e] at h ⊢
    rw [FK r m (by simp at h; exact h)]
   ·rw [if_neg e, if_neg e] at h ⊢
    have h2 : (Ar c (m + 1) r).length ≤ m + 1 ∨ (Fy c r).length ≤ m + 1 := by
     rcases h with h | h
     ·cases hs : Ar c (m + 1) r with
      | nil => exact .inl (by simp)
      | cons a t => rw [hs] at h; exact .inl (by simpa using h)
     ·cases hs : Fy c r with
      | nil => exact .inr (by simp)
      | cons a t => rw [hs] at h; exact .inr (by simpa using h)
    rw [FK r (m + 1) h2]
    all_goals (cases Fy c r <;> rfl)
theorem Jq (s : ByteArray) : C3 s ↔ (∀ w ∈ Iv s 46, TV w) ∧ (Iv s 46).length ≤ 3 := by
 unfold C3 C2 Iv
 constructor
 ·rintro ⟨h1, h2⟩
  rw [lm] at h2
  rw [FK _ _ (.inl h2)] at h1 h2
  exact ⟨h1, by rw [lm]; exact h2⟩
 ·rintro ⟨h1, h2⟩
  rw [lm] at h2
  rw [← FK _ _ (.inr h2)] at h1 h2
  exact ⟨h1, by rw [lm]; exact h2⟩
theorem Fn : ∀ {l : List UInt8} {c : UInt8}, indexByte l c = -1 → ∀ j : Nat, l[j]? ≠ some c
 | [], c, _, j => by simp
 | b :: l, c, h, j => by
   have hge := indexByte_ge l c
   unfold indexByte at h
   by_cases e : b = c
   ·rw [if_pos (by simp [e])] at h; cases h
   ·rw [if_neg (by simp [e])] at h
    by_cases e2 : indexByte l c = -1
    ·cases j with
     | zero => simp [e]
     | succ j => exact Fn e2 j
    ·rw [if_neg (by simp [e2])] at h; omega
theorem QY {s sep : ByteArray} (h1 : sep.size = 1) (h : indexB s sep = -1) : Iv s (UInt8.ofNat (AC sep 0).toNat) = [s] := by
 rw [← Rz h1] at h
 unfold Iv
 rw [QW (Fn h)]
 rfl
theorem cP {s sep : ByteArray} (h1 : sep.size = 1) {o : Nat} (h : indexB s sep = o) : o < s.size ∧ Iv s (UInt8.ofNat (AC sep 0).toNat) = s.extract 0 o :: Iv (s.extract (o + 1) s.size) (UInt8.ofNat (AC sep 0).toNat) := by
 rw [← Rz h1] at h
 obtain ⟨ha, hb⟩ := indexByte_some h
 refine ⟨(List.getElem?_eq_some_iff.1 ha).1, ?_⟩
 unfold Iv
 rw [Mk o _ ha hb, List.map_cons, C7 s (o + 1) s.size, List.take_of_length_le (l := (bl s).drop (o + 1)) (by rw [List.length_drop, CF]; exact Nat.le_refl _)]
 rw [HB s 0 o]; rfl
theorem aE {α : Type} (enc : α → List T) (d x : α) (p : List α) (n : Nat) : ((p ++ List.replicate (n + 1) d).map enc).set p.length (enc x) = ((p ++ [x]) ++ List.replicate n d).map enc := by
 rw [← List.map_set, List.set_append_right _ _ (Nat.le_refl _), Nat.sub_self, List.replicate_succ, List.set_cons_zero, List.append_assoc]; rfl
theorem k7 {t : ByteArray} {p : List ByteArray} {n : Nat} : ((p ++ List.replicate (n + 1) (⟨#[]⟩ : ByteArray)).map AG).set p.length [T.v (.string t)] = ((p ++ [t]) ++ List.replicate n (⟨#[]⟩ : ByteArray)).map AG := aE AG _ t p n
theorem GU (s : ByteArray) (c : UInt8) : (Iv s c).length = countByte (bl s) c + 1 := by
 unfold Iv; rw [lm, GT]; rfl
theorem ZD (s : ByteArray) (c : UInt8) : countByte (bl s) c ≤ s.size := by
 have := List.count_le_length (a := c) (l := bl s)
 exact this
theorem Mm {s sep : ByteArray} (h1 : sep.size = 1) : (indexB s sep = -1 ∧ countByte (bl s) (UInt8.ofNat (AC sep 0).toNat) = 0 ∧ Iv s (UInt8.ofNat (AC sep 0).toNat) = [s]) ∨ ∃ o : Nat, indexB s sep = o ∧ o < s.size ∧ Iv s (UInt8.ofNat (AC sep 0).toNat) = s.extract 0 o :: Iv (s.extract (o + 1) s.size) (UInt8.ofNat (AC sep 0).toNat) ∧ countByte (bl s) (UInt8.ofNat (AC sep 0).toNat) = countByte (bl (s.extract (o + 1) s.size)) (UInt8.ofNat (AC sep 0).toNat) + 1 := by
 have hge := index_ge (bl s) (bl sep)
 by_cases h : indexB s sep = -1
 ·refine .inl ⟨h, ?_, QY h1 h⟩
  have := GU s (UInt8.ofNat (AC sep 0).toNat)
  rw [QY h1 h] at this
  simp at this; exact this
 ·have hge' : -1 ≤ indexB s sep := hge
  obtain ⟨o, ho⟩ : ∃ o : Nat, indexB s sep = o := ⟨(indexB s sep).toNat, by omega⟩
  obtain ⟨a, b⟩ := cP h1 ho
  refine .inr ⟨o, ho, a, b, ?_⟩
  have q1 := GU s (UInt8.ofNat (AC sep 0).toNat)
  have q2 := GU (s.extract (o + 1) s.size) (UInt8.ofNat (AC sep 0).toNat)
  rw [b, List.length_cons, q2] at q1
  omega
end
def n5 : Ct := Ak (lc Aq (lc Aq l0)) (fun p => p.2.1.size ≤ 2000000 ∧ p.1.size ≤ 2000000) (fun p => .t (.v (.int .i64 (Lib.indexB p.1 p.2.1))))
section
attribute [local go_sem] oF
theorem gA {G : Gt} (hG : Ah G) (hh : G.e 178 = AA 0 oF) : Gd G 154 (AA 0 n5) := by
 refine gr (fn := Tryz.f154) (n := 2) rfl rfl hG ?_
 rintro ⟨s, sub, ⟨⟩⟩ hpre
 simp -implicitDefEqProofs only [Tryz.f154, go_sem, hh, seval] at hpre ⊢
 with_reducible repeat' (first | apply ai | intro _ | ((first | apply s1 | apply s3 | apply s4) <;> intro hb <;> simp -implicitDefEqProofs only [hb, go_sem, hh, seval] <;> try simp only [qz] at hb))
 all_goals first | rfl | omega | skip
end
def ny : Ct := Ak (lc Aq (lc Aq l0)) (fun p => p.2.1.size = 1 ∧ p.1.size ≤ 2000000) (fun p => .t (.v (.int .i64 (Lib.countByte (bl p.1) (UInt8.ofNat (AC p.2.1 0).toNat)))))
section
attribute [local go_sem] oE
theorem f9 {G : Gt} (hG : Ah G) (hh : G.e 177 = AA 3 oE) : Gd G 153 (AA 0 ny) := by
 refine gr (fn := Tryz.f153) (n := 2) rfl rfl hG ?_
 rintro ⟨s, sub, ⟨⟩⟩ hpre
 simp -implicitDefEqProofs only [Tryz.f153, go_sem, hh, seval] at hpre ⊢
 have h1 : (sub.size : Int) = 1 := by omega
 simp -implicitDefEqProofs only [h1, go_sem, hh, seval]
 with_reducible repeat' (first | apply ai | intro _ | ((first | apply s1 | apply s3 | apply s4) <;> intro hb <;> simp -implicitDefEqProofs only [hb, go_sem, hh, seval] <;> try simp only [qz] at hb))
 all_goals first | rfl | omega | skip
end
def n9 : Ct := Ak (lc Aq (lc Aq l0)) (fun p => p.2.1.size ≤ 2000000 ∧ p.1.size ≤ 2000000) (fun p => .t (.v (.bool (BM (p.2.1.size ≤ p.1.size ∧ p.1.extract (p.1.size - p.2.1.size) p.1.size = p.2.1)))))
theorem gH {G : Gt} (hG : Ah G) : Gd G 162 (AA 0 n9) := by
 refine gr (fn := Tryz.f162) (n := 2) rfl rfl hG ?_
 rintro ⟨s, e, ⟨⟩⟩ hpre
 simp -implicitDefEqProofs only [Tryz.f162, go_sem, seval] at hpre ⊢
 with_reducible repeat' (first | apply ai | intro _ | ((first | apply s1 | apply s3 | apply s4) <;> intro hb <;> simp -implicitDefEqProofs only [hb, go_sem, seval] <;> try simp only [qz] at hb))
 all_goals (try simp only [maxLen] at *)
 all_goals first | rfl | omega | skip
 ·have e1 : (s.size : Int).toNat = s.size := tn _
  have e2 : ((s.size : Int) - e.size).toNat = s.size - e.size := by omega
  rw [e1, e2, ← BR]
  exact congrArg (fun b => T.v (.bool b)) (AR ⟨fun h => ⟨by omega, h⟩, fun h => h.2⟩)
 ·rw [AN (fun h => by omega)]
def nc : Ct := Ak (lc Aq (lc Aq l0)) (fun p => p.2.1.size ≤ 2000000 ∧ p.1.size ≤ 2000000) (fun p => .t (.v (.bool (BM (p.2.1.size ≤ p.1.size ∧ p.1.extract (p.1.size - p.2.1.size) p.1.size = p.2.1)))))
section
attribute [local go_sem] n9
theorem fj {G : Gt} (hG : Ah G) (hh : G.e 162 = AA 0 n9) : Gd G 134 (AA 0 nc) := by
 refine gr (fn := Tryz.f134) (n := 2) rfl rfl hG ?_
 rintro ⟨s, e, ⟨⟩⟩ hpre
 simp -implicitDefEqProofs only [Tryz.f134, go_sem, hh, seval] at hpre ⊢
 with_reducible repeat' (first | apply ai | intro _ | ((first | apply s1 | apply s3 | apply s4) <;> intro hb <;> simp -implicitDefEqProofs only [hb, go_sem, hh, seval] <;> try simp only [qz] at hb))
 all_goals (try simp only [maxLen] at *)
 all_goals first | rfl | omega | skip
end
def nX : Ct := Ak (lc Aq (lc Aq (lc BF (lc BF l0)))) (fun p => p.2.1.size = 1 ∧ p.2.2.1 = 0 ∧ p.2.2.2.1 = -1 ∧ p.1.size ≤ 2000000) (fun p => .o true 1 ((Iv p.1 (UInt8.ofNat (AC p.2.1 0).toNat)).map AG))
section
attribute [local go_sem] ny n5 Bd Aa List.map_replicate
set_option maxHeartbeats 1600000 in
theorem fg {G : Gt} (hG : Ah G) (hh : G.e 153 = AA 0 ny ∧ G.e 154 = AA 0 n5) : Gd G 131 (AA 0 nX) := by
 refine gr (fn := Tryz.f131) (n := 4) rfl rfl hG ?_ (hs := fun _ _ => .deep _ _)
 rintro ⟨s, sep, sv, n, ⟨⟩⟩ hpre
 obtain ⟨h1, h2, h3, h4⟩ := hpre
 dsimp only at h1 h2 h3 h4
 subst h2 h3
 have hse : ¬ sep = ⟨#[]⟩ := by intro e; rw [e] at h1; cases h1
 have hc := ZD s (UInt8.ofNat (AC sep 0).toNat)
 have hl := GU s (UInt8.ofNat (AC sep 0).toNat)
 have hmin : ¬ ((s.size : Int) + 1 < (Lib.countByte (bl s) (UInt8.ofNat (AC sep 0).toNat) : Int) + 1) := by omega
 simp -implicitDefEqProofs only [Tryz.f131, hse, if_neg hmin, go_sem, hh, seval]
 with_reducible repeat' (first | apply ai | intro _ | ((first | apply s1 | apply s3 | apply s4) <;> intro hb <;> simp -implicitDefEqProofs only [hb, go_sem, hh, seval] <;> try simp only [qz] at hb))
 all_goals (try simp only [maxLen, tn] at *)
 all_goals first | rfl | omega | skip
 refine AE [] (ι := {z : List ByteArray × ByteArray // Iv s (UInt8.ofNat (AC sep 0).toNat) = z.1 ++ Iv z.2 (UInt8.ofNat (AC sep 0).toNat) ∧ z.2.size ≤ s.size}) (fun z => ⟨[(0, .t (.v (.string z.1.2))), (1, .t (.v (.string sep))), (2, .t (.v (.int .i64 0))), (3, .t (.v (.int .i64 (Lib.countByte (bl s) (UInt8.ofNat (AC sep 0).toNat))))), (9, .h 1031), (10, .t (.v (.int .i64 z.1.1.length)))], [(1031, some (.arr true 1 ((z.1.1 ++ List.replicate (Lib.countByte (bl s) (UInt8.ofNat (AC sep 0).toNat) + 1 - z.1.1.length) (⟨#[]⟩ : ByteArray)).map AG)))]⟩) (fun z => s.size + 1 - z.1.1.length) ⟨([], s), rfl, Nat.le_refl _⟩ rfl ?_ ?_
 ·simp -implicitDefEqProofs only [go_sem, hh, seval]
  try simp
  constructor <;> split <;> omega
 ·rintro ⟨⟨p, t⟩, hz, ht⟩
  dsimp only at hz ht
  have hcl : (Iv s (UInt8.ofNat (AC sep 0).toNat)).length = p.length + (Iv t (UInt8.ofNat (AC sep 0).toNat)).length := by rw [hz, List.length_append]
  rw [hl, GU] at hcl
  by_cases hlt : (p.length : Int) < Lib.countByte (bl s) (UInt8.ofNat (AC sep 0).toNat)
  ·rcases Mm (s := t) h1 with ⟨_, q, _⟩ | ⟨o, q1, q2, q3, q4⟩
   ·omega
   ·have q0 : ¬ (o : Int) < 0 := by omega
    simp -implicitDefEqProofs only [hlt, q1, q0, go_sem, hh, seval]
    obtain ⟨n, hn⟩ : ∃ n, Lib.countByte (bl s) (UInt8.ofNat (AC sep 0).toNat) + 1 - p.length = n + 1 := ⟨Lib.countByte (bl s) (UInt8.ofNat (AC sep 0).toNat) - p.length, by omega⟩
    have hn2 : n = Lib.countByte (bl s) (UInt8.ofNat (AC sep 0).toNat) - p.length := by omega
    have hs1 : ((o : Int) + sep.size).toNat = o + 1 := by omega
    with_reducible repeat' (first | apply ai | intro _ | ((first | apply s1 | apply s3 | apply s4) <;> intro hb <;> simp -implicitDefEqProofs only [hb, go_sem, hh, seval] <;> try simp only [qz] at hb))
    all_goals (try simp only [maxLen, tn, Int.add_zero, hn, k7, lm, List.length_append, List.length_replicate, hs1] at *)
    all_goals first | rfl | omega | skip
    refine ⟨⟨(p ++ [t.extract 0 o], t.extract (o + 1) t.size), ?_, ?_⟩, ?_, ?_⟩
    ·dsimp only; rw [hz, q3, List.append_assoc]; rfl
    ·dsimp only; rw [ByteArray.size_extract]; omega
    ·dsimp only; rw [List.length_append]; simp; omega
    ·have e2 : Lib.countByte (bl s) (UInt8.ofNat (AC sep 0).toNat) + 1 - (p ++ [t.extract 0 o]).length = n := by rw [List.length_append, hn2]; simp
     simp -implicitDefEqProofs only [e2, go_sem, hh, seval]
     try simp
  ·simp -implicitDefEqProofs only [hlt, go_sem, hh, seval]
   rcases Mm (s := t) h1 with ⟨_, _, q⟩ | ⟨o, q1, q2, q3, q4⟩
   ·have hn : Lib.countByte (bl s) (UInt8.ofNat (AC sep 0).toNat) + 1 - p.length = 0 + 1 := by omega
    rw [q] at hz
    with_reducible repeat' (first | apply ai | intro _ | ((first | apply s1 | apply s3 | apply s4) <;> intro hb <;> simp -implicitDefEqProofs only [hb, go_sem, hh, seval] <;> try simp only [qz] at hb))
    all_goals (try simp only [maxLen, tn, Int.add_zero, hn, k7, lm, List.length_append, List.length_replicate] at *)
    all_goals first | rfl | omega | (simp; done) | skip
    ·rw [hz, List.replicate_zero, List.append_nil, List.take_of_length_le]
     try simp
   ·omega
end
def bx (l : List Bool) : List AV := l.map fun b => .t (.v (.bool b))
def RC (l : List Bool) : List T := l.map fun b => .v (.bool b)
def nI : List T → Option (List Bool)
 | [] => some []
 | .v (.bool b) :: r => (nI r).map (b :: ·)
 | _ => none
theorem RB : ∀ l, nI (RC l) = some l
 | [] => rfl
 | b :: l => by show (nI (RC l)).map (b :: ·) = _; rw [RB l]; rfl
theorem Yt : ∀ {c l}, nI c = some l → RC l = c
 | [], _, h => by cases h; rfl
 | x :: c, l, h => by
   unfold nI at h
   split at h
   ·rename_i e; cases e
   ·rename_i e
    cases e
    cases hq : nI c with
    | none => rw [hq] at h; cases h
    | some l' => rw [hq] at h; cases h; rw [← Yt hq]; rfl
   ·cases h
def zM : AV → Option (List Bool)
 | .t (.rop c) => nI c
 | _ => none
def tj : AD (List Bool) where
 enc l := .t (.rop (RC l))
 dec := zM
 ed := fun l => RB l
 de := fun x l h => by
  unfold zM at h
  split at h
  ·rw [← Yt h]
  ·cases h
theorem Jd {l : List Bool} : tj.dec (.t (.rop (RC l))) = some l := RB l
theorem Je {l : List Bool} : tj.enc l = .t (.rop (RC l)) := rfl
theorem KW {l : List Bool} : (bx l).length = l.length := by simp [bx]
theorem UI {l : List Bool} : (RC l).length = l.length := by simp [RC]
def jf : List Value := List.replicate 256 (.bool false)
def Yn : List Bool := List.replicate 256 false
theorem cj : AK Tryz.prog 179 = some ⟨.arr 256 4, 256, 256, jf⟩ := wj
theorem UO : jf.map DU = bx Yn := by simp [bx, jf, Yn]; rfl
theorem UJ : jf.all CV = true := by decide
theorem Ox : Yn.length = 256 := rfl
theorem O1 : List.drop 256 (bx Yn) = [] := rfl
theorem nJ {l : List Bool} {k : Nat} {b : Bool} (h : k < l.length) : (bx l).take k ++ AV.t (.v (.bool b)) :: (bx l).drop (k + 1) = bx (l.set k b) := by
 unfold bx
 rw [List.set_eq_take_append_cons_drop, if_pos h]
 try simp
theorem d9 {l : List Bool} {n : Nat} (h : l.length = n) : (bx l).take n = bx l := List.take_of_length_le (by rw [KW]; omega)
theorem UN {s : AS} {n : Nat} : ∀ {l : List Bool}, A7 (s.snapT (n + 1)) (bx l) = some (RC l)
 | [] => rfl
 | b :: l => by
   have h := UN (s := s) (n := n) (l := l)
   unfold bx RC at h ⊢
   simp only [List.map_cons, A7, h, AS.snapT]
theorem d8 {l : List Bool} {k : Nat} (h : k < l.length) : (RC l).drop k = T.v (.bool (l.getD k false)) :: (RC l).drop (k + 1) := by
 rw [List.drop_eq_getElem_cons (by rw [UI]; exact h)]
 congr 1
 simp [RC, h]
theorem UL {s : AS} : ∀ {l : List Bool}, DX s (bx l) (bx l)
 | [] => trivial
 | b :: l => ⟨by simp only [DP, K5], UL⟩
theorem UK {s : AS} : ∀ {l : List Bool}, Bw s (bx l) (bx l) = []
 | [] => rfl
 | b :: l => by show Cj s (.t (.v (.bool b))) (.t (.v (.bool b))) ++ Bw s (bx l) (bx l) = []; rw [UK]; rfl
theorem UM {s : AS} : ∀ {l : List Bool}, CQ s (bx l) (bx l) = []
 | [] => rfl
 | b :: l => by show C0 s (.t (.v (.bool b))) (.t (.v (.bool b))) ++ CQ s (bx l) (bx l) = []; rw [UM]; rfl
theorem MG {d k : Nat} {s : AS} : ∀ {l : List Bool}, AT d k (bx l) s = ⟨bx l, s, k⟩
 | [] => rfl
 | b :: l => by
   show zF.mk (AV.t (.v (.bool b)) :: (AT d k (bx l) s).avs) (AT d k (bx l) s).s (AT d k (bx l) s).k = _
   rw [MG]; rfl
theorem Yu {k : Nat} : ∀ {l : List Bool}, AV.hasL k (bx l) = false
 | [] => rfl
 | b :: l => by show (false || AV.hasL k (bx l)) = false; rw [Yu]; rfl
theorem O2 {k : Nat} : ∀ {l : List Bool}, (bx l).map (AV.drop k) = bx l
 | [] => rfl
 | b :: l => by show AV.t (.v (.bool b)) :: (bx l).map (AV.drop k) = _; rw [O2]; rfl
def Gf (cs : ByteArray) : Nat → List Bool
 | 0 => Yn
 | n + 1 => (Gf cs n).set (AC cs n).toNat true
theorem LJ (cs : ByteArray) : ∀ n, (Gf cs n).length = 256
 | 0 => rfl
 | n + 1 => by rw [Gf, List.length_set]; exact LJ cs n
def J7 (l : List Bool) (s : ByteArray) : ByteArray :=
 if h : s.size = 0 then s else bif l.getD (AC s (s.size - 1)).toNat false then J7 l (s.extract 0 (s.size - 1)) else s
termination_by s.size
decreasing_by rw [ByteArray.size_extract]; omega
def OD (l : List Bool) (s : ByteArray) : ByteArray :=
 if h : s.size = 0 then s else bif l.getD (AC s 0).toNat false then OD l (s.extract 1 s.size) else s
termination_by s.size
decreasing_by rw [ByteArray.size_extract]; omega
theorem WB {l : List Bool} : J7 l ⟨#[]⟩ = ⟨#[]⟩ := by rw [J7]; exact dif_pos rfl
theorem V8 {l : List Bool} : OD l ⟨#[]⟩ = ⟨#[]⟩ := by rw [OD]; exact dif_pos rfl
theorem cc (l : List Bool) (s : ByteArray) : (J7 l s).size ≤ s.size := by
 rw [J7]
 split
 ·exact Nat.le_refl _
 ·cases l.getD (AC s (s.size - 1)).toNat false
  ·exact Nat.le_refl _
  ·have := cc l (s.extract 0 (s.size - 1))
   rw [ByteArray.size_extract] at this
   show (J7 l (s.extract 0 (s.size - 1))).size ≤ _
   omega
termination_by s.size
decreasing_by rw [ByteArray.size_extract]; omega
def Y6 : Ct := Ak (lc tj (lc md l0)) (fun p => p.1.length = 256 ∧ 0 ≤ p.2.1 ∧ p.2.1 < 256) (fun p => .t (.v (.bool (p.1.getD p.2.1.toNat false))))
section
attribute [local go_sem] cj Jd Je UI
theorem ga {G : Gt} (hG : Ah G) : Gd G 179 (AA 0 Y6) := by
 refine gr (fn := Tryz.f179) (n := 2) rfl rfl hG ?_
 rintro ⟨l, c, ⟨⟩⟩ hpre
 simp -implicitDefEqProofs only [Tryz.f179, go_sem, Nat.reduceAdd, Nat.reduceMul, Nat.reduceLeDiff, Nat.reduceEqDiff, reduceCtorEq, Nat.reduceSub, Int.reduceNeg, Nat.reduceMod, Nat.reduceBEq, Nat.reduceLT] at hpre ⊢
 have hk : c.toNat < l.length := by omega
 simp -implicitDefEqProofs only [d8 hk, Nat.mul_one, hpre.1, go_sem, Nat.reduceAdd, Nat.reduceMul, Nat.reduceLeDiff, Nat.reduceEqDiff, reduceCtorEq, Nat.reduceSub, Int.reduceNeg, Nat.reduceMod, Nat.reduceBEq, Nat.reduceLT]
 with_reducible repeat' (first | apply ai | intro _ | ((first | apply s1 | apply s3 | apply s4) <;> intro hb <;> simp -implicitDefEqProofs only [hb, go_sem, Nat.reduceAdd, Nat.reduceMul, Nat.reduceLeDiff, Nat.reduceEqDiff, reduceCtorEq, Nat.reduceSub, Int.reduceNeg, Nat.reduceMod, Nat.reduceBEq, Nat.reduceLT] <;> try simp only [qz] at hb))
 all_goals first | rfl | omega | skip
 all_goals trace_state
end
def n8 : Ct := Ak (lc Aq (lc tj l0)) (fun p => p.2.1.length = 256 ∧ p.1.size ≤ 2000000) (fun p => .t (.v (.string (J7 p.2.1 p.1))))
section
attribute [local go_sem] Y6 Jd Je Bool.not_true Bool.not_false
theorem gG {G : Gt} (hG : Ah G) (hh : G.e 179 = AA 0 Y6) : Gd G 159 (AA 0 n8) := by
 refine gr (fn := Tryz.f159) (n := 2) rfl rfl hG ?_
 rintro ⟨s, l, ⟨⟩⟩ hpre
 simp -implicitDefEqProofs only [Tryz.f159, go_sem, hh, Nat.reduceAdd, Nat.reduceMul, Nat.reduceLeDiff, Nat.reduceEqDiff, reduceCtorEq, Nat.reduceSub, Int.reduceNeg, Nat.reduceMod, Nat.reduceBEq, Nat.reduceLT] at hpre ⊢
 refine AE [] (ι := {t : ByteArray // J7 l t = J7 l s ∧ t.size ≤ s.size}) (fun p => ⟨[(0, .t (.v (.string p.1))), (1, .t (.rop (RC l)))], []⟩) (fun p => p.1.size) ⟨s, rfl, Nat.le_refl _⟩ rfl ?_ ?_
 ·simp -implicitDefEqProofs only [go_sem, hh, Nat.reduceAdd, Nat.reduceMul, Nat.reduceLeDiff, Nat.reduceEqDiff, reduceCtorEq, Nat.reduceSub, Int.reduceNeg, Nat.reduceMod, Nat.reduceBEq, Nat.reduceLT]
  try simp
 ·rintro ⟨t, ht, hts⟩
  by_cases h0 : t.size = 0
  ·have h1 : (t.size : Int) = 0 := by omega
   simp -implicitDefEqProofs only [h1, go_sem, hh, Nat.reduceAdd, Nat.reduceMul, Nat.reduceLeDiff, Nat.reduceEqDiff, reduceCtorEq, Nat.reduceSub, Int.reduceNeg, Nat.reduceMod, Nat.reduceBEq, Nat.reduceLT]
   with_reducible repeat' (first | apply ai | intro _ | ((first | apply s1 | apply s3 | apply s4) <;> intro hb <;> simp -implicitDefEqProofs only [hb, go_sem, hh, Nat.reduceAdd, Nat.reduceMul, Nat.reduceLeDiff, Nat.reduceEqDiff, reduceCtorEq, Nat.reduceSub, Int.reduceNeg, Nat.reduceMod, Nat.reduceBEq, Nat.reduceLT] <;> try simp only [qz] at hb))
   all_goals first | rfl | omega | skip
   rw [← ht, J7, dif_pos h0]
  ·have h1 : (t.size : Int) > 0 := by omega
   have hbr := A5 t (t.size - 1)
   have hr : J7 l t = bif l.getD (AC t (t.size - 1)).toNat false then J7 l (t.extract 0 (t.size - 1)) else t := by
    rw [J7, dif_neg h0]
   have e1 : ((t.size : Int) - 1).toNat = (t.size - 1) := by omega
   cases hb : l.getD (AC t (((t.size : Int) - 1).toNat)).toNat false
   ·simp -implicitDefEqProofs only [h1, hb, go_sem, hh, Nat.reduceAdd, Nat.reduceMul, Nat.reduceLeDiff, Nat.reduceEqDiff, reduceCtorEq, Nat.reduceSub, Int.reduceNeg, Nat.reduceMod, Nat.reduceBEq, Nat.reduceLT]
    with_reducible repeat' (first | apply ai | intro _ | ((first | apply s1 | apply s3 | apply s4) <;> intro hb <;> simp -implicitDefEqProofs only [hb, go_sem, hh, Nat.reduceAdd, Nat.reduceMul, Nat.reduceLeDiff, Nat.reduceEqDiff, reduceCtorEq, Nat.reduceSub, Int.reduceNeg, Nat.reduceMod, Nat.reduceBEq, Nat.reduceLT] <;> try simp only [qz] at hb))
    all_goals first | rfl | omega | skip
    all_goals rw [e1] at *
    all_goals first | omega | (rw [← ht, hr, hb]; rfl)
   ·simp -implicitDefEqProofs only [h1, hb, go_sem, hh, Nat.reduceAdd, Nat.reduceMul, Nat.reduceLeDiff, Nat.reduceEqDiff, reduceCtorEq, Nat.reduceSub, Int.reduceNeg, Nat.reduceMod, Nat.reduceBEq, Nat.reduceLT]
    with_reducible repeat' (first | apply ai | intro _ | ((first | apply s1 | apply s3 | apply s4) <;> intro hb <;> simp -implicitDefEqProofs only [hb, go_sem, hh, Nat.reduceAdd, Nat.reduceMul, Nat.reduceLeDiff, Nat.reduceEqDiff, reduceCtorEq, Nat.reduceSub, Int.reduceNeg, Nat.reduceMod, Nat.reduceBEq, Nat.reduceLT] <;> try simp only [qz] at hb))
    all_goals first | rfl | omega | skip
    all_goals rw [e1] at *
    all_goals first | omega | skip
    refine ⟨⟨t.extract 0 (t.size - 1), ?_, ?_⟩, ?_, ?_⟩
    ·rw [← ht, hr, hb]; rfl
    ·rw [ByteArray.size_extract]; omega
    ·show (t.extract 0 (t.size - 1)).size < t.size
     rw [ByteArray.size_extract]; omega
    ·simp -implicitDefEqProofs only [go_sem, hh, Nat.reduceAdd, Nat.reduceMul, Nat.reduceLeDiff, Nat.reduceEqDiff, reduceCtorEq, Nat.reduceSub, Int.reduceNeg, Nat.reduceMod, Nat.reduceBEq, Nat.reduceLT]
     try simp [e1]
end
def n7 : Ct := Ak (lc Aq (lc tj l0)) (fun p => p.2.1.length = 256 ∧ p.1.size ≤ 2000000) (fun p => .t (.v (.string (OD p.2.1 p.1))))
section
attribute [local go_sem] Y6 Jd Je Bool.not_true Bool.not_false
theorem gE {G : Gt} (hG : Ah G) (hh : G.e 179 = AA 0 Y6) : Gd G 158 (AA 0 n7) := by
 refine gr (fn := Tryz.f158) (n := 2) rfl rfl hG ?_
 rintro ⟨s, l, ⟨⟩⟩ hpre
 simp -implicitDefEqProofs only [Tryz.f158, go_sem, hh, Nat.reduceAdd, Nat.reduceMul, Nat.reduceLeDiff, Nat.reduceEqDiff, reduceCtorEq, Nat.reduceSub, Int.reduceNeg, Nat.reduceMod, Nat.reduceBEq, Nat.reduceLT] at hpre ⊢
 refine AE [] (ι := {t : ByteArray // OD l t = OD l s ∧ t.size ≤ s.size}) (fun p => ⟨[(0, .t (.v (.string p.1))), (1, .t (.rop (RC l)))], []⟩) (fun p => p.1.size) ⟨s, rfl, Nat.le_refl _⟩ rfl ?_ ?_
 ·simp -implicitDefEqProofs only [go_sem, hh, Nat.reduceAdd, Nat.reduceMul, Nat.reduceLeDiff, Nat.reduceEqDiff, reduceCtorEq, Nat.reduceSub, Int.reduceNeg, Nat.reduceMod, Nat.reduceBEq, Nat.reduceLT]
  try simp
 ·rintro ⟨t, ht, hts⟩
  by_cases h0 : t.size = 0
  ·have h1 : (t.size : Int) = 0 := by omega
   simp -implicitDefEqProofs only [h1, go_sem, hh, Nat.reduceAdd, Nat.reduceMul, Nat.reduceLeDiff, Nat.reduceEqDiff, reduceCtorEq, Nat.reduceSub, Int.reduceNeg, Nat.reduceMod, Nat.reduceBEq, Nat.reduceLT]
   with_reducible repeat' (first | apply ai | intro _ | ((first | apply s1 | apply s3 | apply s4) <;> intro hb <;> simp -implicitDefEqProofs only [hb, go_sem, hh, Nat.reduceAdd, Nat.reduceMul, Nat.reduceLeDiff, Nat.reduceEqDiff, reduceCtorEq, Nat.reduceSub, Int.reduceNeg, Nat.reduceMod, Nat.reduceBEq, Nat.reduceLT] <;> try simp only [qz] at hb))
   all_goals first | rfl | omega | skip
   rw [← ht, OD, dif_pos h0]
  ·have h1 : (t.size : Int) > 0 := by omega
   have hbr := A5 t 0
   have hr : OD l t = bif l.getD (AC t 0).toNat false then OD l (t.extract 1 t.size) else t := by
    rw [OD, dif_neg h0]
   have e1 : Int.toNat 0 = 0 := by omega
   cases hb : l.getD (AC t (Int.toNat 0)).toNat false
   ·simp -implicitDefEqProofs only [h1, hb, go_sem, hh, Nat.reduceAdd, Nat.reduceMul, Nat.reduceLeDiff, Nat.reduceEqDiff, reduceCtorEq, Nat.reduceSub, Int.reduceNeg, Nat.reduceMod, Nat.reduceBEq, Nat.reduceLT]
    with_reducible repeat' (first | apply ai | intro _ | ((first | apply s1 | apply s3 | apply s4) <;> intro hb <;> simp -implicitDefEqProofs only [hb, go_sem, hh, Nat.reduceAdd, Nat.reduceMul, Nat.reduceLeDiff, Nat.reduceEqDiff, reduceCtorEq, Nat.reduceSub, Int.reduceNeg, Nat.reduceMod, Nat.reduceBEq, Nat.reduceLT] <;> try simp only [qz] at hb))
    all_goals first | rfl | omega | skip
    all_goals rw [e1] at *
    all_goals first | omega | (rw [← ht, hr, hb]; rfl)
   ·simp -implicitDefEqProofs only [h1, hb, go_sem, hh, Nat.reduceAdd, Nat.reduceMul, Nat.reduceLeDiff, Nat.reduceEqDiff, reduceCtorEq, Nat.reduceSub, Int.reduceNeg, Nat.reduceMod, Nat.reduceBEq, Nat.reduceLT]
    with_reducible repeat' (first | apply ai | intro _ | ((first | apply s1 | apply s3 | apply s4) <;> intro hb <;> simp -implicitDefEqProofs only [hb, go_sem, hh, Nat.reduceAdd, Nat.reduceMul, Nat.reduceLeDiff, Nat.reduceEqDiff, reduceCtorEq, Nat.reduceSub, Int.reduceNeg, Nat.reduceMod, Nat.reduceBEq, Nat.reduceLT] <;> try simp only [qz] at hb))
    all_goals first | rfl | omega | skip
    all_goals rw [e1] at *
    all_goals first | omega | skip
    refine ⟨⟨t.extract 1 t.size, ?_, ?_⟩, ?_, ?_⟩
    ·rw [← ht, hr, hb]; rfl
    ·rw [ByteArray.size_extract]; omega
    ·show (t.extract 1 t.size).size < t.size
     rw [ByteArray.size_extract]; omega
    ·simp -implicitDefEqProofs only [go_sem, hh, Nat.reduceAdd, Nat.reduceMul, Nat.reduceLeDiff, Nat.reduceEqDiff, reduceCtorEq, Nat.reduceSub, Int.reduceNeg, Nat.reduceMod, Nat.reduceBEq, Nat.reduceLT]
     try simp [e1]
end
def n6 : Ct := Ak (lc Aq l0) (fun p => p.1.size ≤ 1000 ∧ ∀ j, j < p.1.size → AC p.1 j < 128) (fun p => .tup [.agg (bx (Gf p.1 p.1.size)), .t (.v (.bool true))])
section
attribute [local go_sem] cj UO UJ
theorem gC {G : Gt} (hG : Ah G) : Gd G 157 (AA 0 n6) := by
 refine gr (fn := Tryz.f157) (n := 1) rfl rfl hG ?_ (hs := fun _ _ => .tup _ (by intro c hc; simp only [List.mem_cons, List.not_mem_nil, or_false] at hc; rcases hc with rfl | rfl <;> first | exact .v _ | exact .agg _ (by intro c hc; simp only [bx, List.mem_map] at hc; obtain ⟨b, _, rfl⟩ := hc; exact .v _)))
 rintro ⟨cs, ⟨⟩⟩ hpre
 simp -implicitDefEqProofs only [Tryz.f157, go_sem, Nat.reduceAdd, Nat.reduceMul, Nat.reduceLeDiff, Nat.reduceEqDiff, reduceCtorEq, Nat.reduceSub, Int.reduceNeg, Nat.reduceMod, Nat.reduceBEq, Nat.reduceLT] at hpre ⊢
 with_reducible repeat' (first | apply ai | intro _ | ((first | apply s1 | apply s3 | apply s4) <;> intro hb <;> simp -implicitDefEqProofs only [hb, go_sem, Nat.reduceAdd, Nat.reduceMul, Nat.reduceLeDiff, Nat.reduceEqDiff, reduceCtorEq, Nat.reduceSub, Int.reduceNeg, Nat.reduceMod, Nat.reduceBEq, Nat.reduceLT] <;> try simp only [qz] at hb))
 all_goals first | rfl | omega | skip
 refine AE [] (ι := {i : Nat // i ≤ cs.size}) (fun p => ⟨[(0, .t (.v (.string cs))), (2, .pb 1002 0), (4, .t (.v (.int .i64 p.1)))], [(1002, some (.box (bx (Gf cs p.1))))]⟩) (fun p => cs.size - p.1) ⟨0, Nat.zero_le _⟩ rfl ?_ ?_
 ·simp -implicitDefEqProofs only [go_sem, Nat.reduceAdd, Nat.reduceMul, Nat.reduceLeDiff, Nat.reduceEqDiff, reduceCtorEq, Nat.reduceSub, Int.reduceNeg, Nat.reduceMod, Nat.reduceBEq, Nat.reduceLT]
  exact ⟨rfl, rfl⟩
 ·rintro ⟨i, hi⟩
  have hbr := A5 cs i
  have hlen := LJ cs i
  by_cases hlt : (i : Int) < cs.size
  ·have h128 := hpre.2 i (by omega)
   have h1 : ¬ AC cs (i : Int).toNat ≥ 128 := by rw [tn]; omega
   have h2 : (AC cs (i : Int).toNat).toNat * 1 < (Gf cs i).length := by rw [tn]; omega
   simp -implicitDefEqProofs only [hlt, h1, Nat.zero_add, go_sem, Nat.reduceAdd, Nat.reduceMul, Nat.reduceLeDiff, Nat.reduceEqDiff, reduceCtorEq, Nat.reduceSub, Int.reduceNeg, Nat.reduceMod, Nat.reduceBEq, Nat.reduceLT]
   with_reducible repeat' (first | apply ai | intro _ | ((first | apply s1 | apply s3 | apply s4) <;> intro hb <;> simp -implicitDefEqProofs only [hb, go_sem, Nat.reduceAdd, Nat.reduceMul, Nat.reduceLeDiff, Nat.reduceEqDiff, reduceCtorEq, Nat.reduceSub, Int.reduceNeg, Nat.reduceMod, Nat.reduceBEq, Nat.reduceLT] <;> try simp only [qz] at hb))
   all_goals (try rw [tn])
   all_goals first | rfl | omega | (simp only [KW, hlen]; omega) | skip
   refine ⟨⟨i + 1, by omega⟩, by dsimp only; omega, ?_⟩
   simp -implicitDefEqProofs only [go_sem, Nat.reduceAdd, Nat.reduceMul, Nat.reduceLeDiff, Nat.reduceEqDiff, reduceCtorEq, Nat.reduceSub, Int.reduceNeg, Nat.reduceMod, Nat.reduceBEq, Nat.reduceLT]
   refine ⟨by simp, ?_⟩
   refine congrArg Ob.box ?_
   rw [Gf]
   simp only [tn, Nat.mul_one]
   exact nJ (by omega)
  ·have e1 : i = cs.size := by omega
   have e2 : List.drop 256 (bx (Gf cs i)) = [] := List.drop_eq_nil_of_le (by rw [KW, hlen]; exact Nat.le_refl _)
   have e3 : decide (256 ≤ 256) = true := rfl
   simp -implicitDefEqProofs only [hlt, d9 hlen, KW, hlen, e2, List.append_nil, Nat.zero_add, e3, cond_true, go_sem, Nat.reduceAdd, Nat.reduceMul, Nat.reduceLeDiff, Nat.reduceEqDiff, reduceCtorEq, Nat.reduceSub, Int.reduceNeg, Nat.reduceMod, Nat.reduceBEq, Nat.reduceLT]
   subst e1
   with_reducible repeat' (first | apply ai | intro _ | ((first | apply s1 | apply s3 | apply s4) <;> intro hb <;> simp -implicitDefEqProofs only [hb, go_sem, Nat.reduceAdd, Nat.reduceMul, Nat.reduceLeDiff, Nat.reduceEqDiff, reduceCtorEq, Nat.reduceSub, Int.reduceNeg, Nat.reduceMod, Nat.reduceBEq, Nat.reduceLT] <;> try simp only [qz] at hb))
   all_goals first
    | rfl
    | omega
    | exact UL
    | (rw [UK]; exact .nil)
    | (rw [UM]; simp; done)
    | skip
   all_goals trace_state
end
def nY : Ct := Ak (lc Aq (lc Aq l0)) (fun p => p.2.1.size ≤ 1000 ∧ 2 ≤ p.2.1.size ∧ p.1.size ≤ 2000000 ∧ ∀ j, j < p.2.1.size → AC p.2.1 j < 128) (fun p => .t (.v (.string (OD (Gf p.2.1 p.2.1.size) (J7 (Gf p.2.1 p.2.1.size) p.1)))))
section
attribute [local go_sem] n6 n7 n8 cj UO UJ O1 Ox Jd Je
theorem fh {G : Gt} (hG : Ah G) (hh : G.e 157 = AA 0 n6 ∧ G.e 158 = AA 0 n7 ∧ G.e 159 = AA 0 n8) : Gd G 132 (AA 0 nY) := by
 refine gr (fn := Tryz.f132) (n := 2) rfl rfl hG ?_
 rintro ⟨s, cs, ⟨⟩⟩ hpre
 simp -implicitDefEqProofs only [Tryz.f132, go_sem, hh, Nat.reduceAdd, Nat.reduceMul, Nat.reduceLeDiff, Nat.reduceEqDiff, reduceCtorEq, Nat.reduceSub, Int.reduceNeg, Nat.reduceMod, Nat.reduceBEq, Nat.reduceLT] at hpre ⊢
 have hc : ¬ cs = ⟨#[]⟩ := by intro e; rw [e] at hpre; exact absurd hpre.2.1 (by decide)
 have h1 : ¬ (cs.size : Int) = 1 := by omega
 have hlen := LJ cs cs.size
 have htr : (J7 (Gf cs cs.size) s).size ≤ s.size := cc _ s
 by_cases hs : s = ⟨#[]⟩
 ·simp -implicitDefEqProofs only [hs, go_sem, hh, Nat.reduceAdd, Nat.reduceMul, Nat.reduceLeDiff, Nat.reduceEqDiff, reduceCtorEq, Nat.reduceSub, Int.reduceNeg, Nat.reduceMod, Nat.reduceBEq, Nat.reduceLT]
  with_reducible repeat' (first | apply ai | intro _ | ((first | apply s1 | apply s3 | apply s4) <;> intro hb <;> simp -implicitDefEqProofs only [hb, go_sem, hh, Nat.reduceAdd, Nat.reduceMul, Nat.reduceLeDiff, Nat.reduceEqDiff, reduceCtorEq, Nat.reduceSub, Int.reduceNeg, Nat.reduceMod, Nat.reduceBEq, Nat.reduceLT] <;> try simp only [qz] at hb))
  all_goals first | rfl | omega | skip
  all_goals (rw [WB, V8])
 ·simp -implicitDefEqProofs only [hs, hc, h1, MG, Yu, O2, KW, hlen, Ox, O1, UN, List.append_nil, List.nil_append, Nat.zero_add, go_sem, hh, Nat.reduceAdd, Nat.reduceMul, Nat.reduceLeDiff, Nat.reduceEqDiff, reduceCtorEq, Nat.reduceSub, Int.reduceNeg, Nat.reduceMod, Nat.reduceBEq, Nat.reduceLT]
  with_reducible repeat' (first | apply ai | intro _ | ((first | apply s1 | apply s3 | apply s4) <;> intro hb <;> simp -implicitDefEqProofs only [hb, go_sem, hh, Nat.reduceAdd, Nat.reduceMul, Nat.reduceLeDiff, Nat.reduceEqDiff, reduceCtorEq, Nat.reduceSub, Int.reduceNeg, Nat.reduceMod, Nat.reduceBEq, Nat.reduceLT] <;> try simp only [qz] at hb))
  all_goals first | rfl | omega | exact hpre.2.2.2 | exact hpre.2.2.2 _ (by assumption) | skip
  all_goals trace_state
end
theorem l8 {s : ByteArray} (h : s.size = 0) : s = ⟨#[]⟩ := by
 have : bl s = [] := List.eq_nil_of_length_eq_zero (by rw [CF]; exact h)
 exact FA this
theorem G4 {s : ByteArray} {a b j : Nat} (h : a + j < b) : AC (s.extract a b) j = AC s (a + j) := by
 rw [Bm, Bm, C7]
 congr 2
 simp only [List.getD_eq_getElem?_getD]
 rw [List.getElem?_take_of_lt (by omega), List.getElem?_drop]
section
variable {l : List Bool}
theorem cd {s : ByteArray} (h : s.size ≠ 0) : J7 l s = bif l.getD (AC s (s.size - 1)).toNat false then J7 l (s.extract 0 (s.size - 1)) else s := by rw [J7, dif_neg h]
theorem tQ {s : ByteArray} (h : s.size ≠ 0) : OD l s = bif l.getD (AC s 0).toNat false then OD l (s.extract 1 s.size) else s := by rw [OD, dif_neg h]
theorem V9 {s : ByteArray} (h : ∀ j, j < s.size → l.getD (AC s j).toNat false = true) : J7 l s = ⟨#[]⟩ := by
 by_cases h0 : s.size = 0
 ·rw [l8 h0, WB]
 ·rw [cd h0, h (s.size - 1) (by omega), cond_true]
  refine V9 fun j hj => ?_
  rw [ByteArray.size_extract] at hj
  rw [G4 (by omega), Nat.zero_add]
  exact h j (by omega)
termination_by s.size
decreasing_by rw [ByteArray.size_extract]; omega
theorem V7 {s : ByteArray} (h : OD l s = ⟨#[]⟩) : ∀ j, j < s.size → l.getD (AC s j).toNat false = true := by
 intro j hj
 have h0 : s.size ≠ 0 := by omega
 rw [tQ h0] at h
 cases hb : l.getD (AC s 0).toNat false
 ·rw [hb, cond_false] at h
  rw [h] at hj
  cases hj
 ·rw [hb, cond_true] at h
  by_cases hj0 : j = 0
  ·rw [hj0]; exact hb
  ·have := V7 h (j - 1) (by rw [ByteArray.size_extract]; omega)
   rw [G4 (by omega)] at this
   rw [show 1 + (j - 1) = j by omega] at this
   exact this
termination_by s.size
decreasing_by rw [ByteArray.size_extract]; omega
theorem WA {s : ByteArray} (h : ∀ j, j < (J7 l s).size → l.getD (AC (J7 l s) j).toNat false = true) : ∀ j, j < s.size → l.getD (AC s j).toNat false = true := by
 intro j hj
 have h0 : s.size ≠ 0 := by omega
 rw [cd h0] at h
 cases hb : l.getD (AC s (s.size - 1)).toNat false
 ·rw [hb, cond_false] at h
  exact h j hj
 ·rw [hb, cond_true] at h
  by_cases hj0 : j = s.size - 1
  ·rw [hj0]; exact hb
  ·have := WA h j (by rw [ByteArray.size_extract]; omega)
   rw [G4 (by omega), Nat.zero_add] at this
   exact this
termination_by s.size
decreasing_by rw [ByteArray.size_extract]; omega
theorem tR (s : ByteArray) : OD l (J7 l s) = ⟨#[]⟩ ↔ ∀ j, j < s.size → l.getD (AC s j).toNat false = true :=
 ⟨fun h => WA (V7 h), fun h => by rw [V9 h, V8]⟩
end
def tf : ByteArray := ⟨#[97, 98, 99, 100, 101, 102, 103, 104, 105, 106, 107, 108, 109, 110, 111, 112, 113, 114, 115, 116, 117, 118, 119, 120, 121, 122, 48, 49, 50, 51, 52, 53, 54, 55, 56, 57]⟩
theorem ig : ∀ k : Nat, k < 256 → (Gf tf 36).getD k false = ((Nat.ble 97 k && Nat.ble k 122) || (Nat.ble 48 k && Nat.ble k 57)) := by decide +kernel
theorem ii (s : ByteArray) : OD (Gf tf 36) (J7 (Gf tf 36) s) = ⟨#[]⟩ ↔ ∀ j, j < s.size → Ko (AC s j) := by
 rw [tR]
 refine forall_congr' fun j => imp_congr_right fun _ => ?_
 have h := A5 s j
 rw [ig _ (by omega)]
 simp only [Bool.or_eq_true, Bool.and_eq_true, Nat.ble_eq]
 unfold Ko
 omega
theorem KT (a b : ByteArray) : bl (a ++ b) = bl a ++ bl b := by
 unfold bl; rw [ByteArray.data_append, Array.toList_append]
theorem Zz (s e : ByteArray) : Qp s e ↔ s = e ∨ ((⟨#[46]⟩ : ByteArray).size + e.size ≤ s.size ∧ s.extract (s.size - ((⟨#[46]⟩ : ByteArray).size + e.size)) s.size = ⟨#[46]⟩ ++ e) := by
 unfold Qp
 refine or_congr_right ?_
 have h1 : (⟨#[46]⟩ : ByteArray).size = 1 := rfl
 rw [h1]
 by_cases hs : 1 + e.size ≤ s.size
 ·obtain ⟨n, hn⟩ : ∃ n, s.size - (1 + e.size) = n := ⟨_, rfl⟩
  have e1 : s.size - e.size = n + 1 := by omega
  have e2 : s.size - e.size - 1 = n := by omega
  rw [hn, e1, Nat.add_sub_cancel]
  have q : ∀ k, bl (s.extract k s.size) = (bl s).drop k := fun k => by
   rw [C7, List.take_of_length_le (by rw [List.length_drop, CF]; exact Nat.le_refl _)]
  have d := Eo (s := s) (i := n) (by omega)
  constructor
  ·rintro ⟨_, h2, h3⟩
   refine ⟨hs, FA ?_⟩
   rw [KT, q, d, ← h2, q]
   rw [Bm] at h3
   have : (bl s).getD n 0 = 46 := UInt8.toNat_inj.1 (by show ((bl s).getD n 0).toNat = 46; omega)
   rw [this]; rfl
  ·rintro ⟨_, h2⟩
   have h3 := congrArg bl h2
   rw [KT, q, d] at h3
   have h4 : (bl s).getD n 0 :: (bl s).drop (n + 1) = 46 :: bl e := h3
   injection h4 with h5 h6
   refine ⟨by omega, FA (by rw [q]; exact h6), ?_⟩
   rw [Bm, h5]; rfl
 ·constructor
  ·rintro ⟨h, _⟩; omega
  ·rintro ⟨h, _⟩; omega
theorem yb : UInt8.ofNat (AC ⟨#[46]⟩ 0).toNat = 46 := rfl
theorem ij : ∀ j, j < 36 → AC tf j < 128 := by decide +kernel
def yN : Ct := Ak (lc Aq (lc Aq l0)) (fun p => p.2.1.size = 1 ∧ p.1.size ≤ 2000000) (fun p => .o true 1 ((Iv p.1 (UInt8.ofNat (AC p.2.1 0).toNat)).map AG))
section
attribute [local go_sem] nX
theorem rb {G : Gt} (hG : Ah G) (hh : G.e 131 = AA 0 nX) : Gd G 79 (AA 0 yN) := by
 refine gr (fn := Tryz.f79) (n := 2) rfl rfl hG ?_ (hs := fun _ _ => .deep _ _)
 rintro ⟨s, sep, ⟨⟩⟩ hpre
 simp -implicitDefEqProofs only [Tryz.f79, go_sem, hh, seval] at hpre ⊢
 with_reducible repeat' (first | apply ai | intro _ | ((first | apply s1 | apply s3 | apply s4) <;> intro hb <;> simp -implicitDefEqProofs only [hb, go_sem, hh, seval] <;> try simp only [qz] at hb))
 all_goals first | rfl | omega | (simp; done) | skip
end
def Xl : Ct := Ak (lc BF (lc BF (lc BF l0))) (fun p => True) (fun p => .t (.v (.bool (BM (p.2.1 ≤ p.1 ∧ p.1 ≤ p.2.2.1)))))
theorem rA {G : Gt} (hG : Ah G) : Gd G 48 (AA 0 Xl) := by
 refine gr (fn := Tryz.f48) (n := 3) rfl rfl hG ?_
 rintro ⟨n, a, b, ⟨⟩⟩ hpre
 simp -implicitDefEqProofs only [Tryz.f48, go_sem, seval] at hpre ⊢
 with_reducible repeat' (first | apply ai | intro _ | ((first | apply s1 | apply s3 | apply s4) <;> intro hb <;> simp -implicitDefEqProofs only [hb, go_sem, seval] <;> try simp only [qz] at hb))
 all_goals first | rfl | omega | skip
 all_goals first
  | (rw [BR]; simp only [*]; done)
  | (rw [BR]; simp [*])
def yY : Ct := Ak (lc Aq l0) (fun p => p.1.size ≤ 2000000) (fun p => .t (.v (.bool (BM (I0 p.1)))))
theorem ry {G : Gt} (hG : Ah G) : Gd G 98 (AA 0 yY) := by
 refine gr (fn := Tryz.f98) (n := 1) rfl rfl hG ?_
 rintro ⟨s, ⟨⟩⟩ hpre
 simp -implicitDefEqProofs only [Tryz.f98, go_sem, seval] at hpre ⊢
 with_reducible repeat' (first | apply ai | intro _ | ((first | apply s1 | apply s3 | apply s4) <;> intro hb <;> simp -implicitDefEqProofs only [hb, go_sem, seval] <;> try simp only [qz] at hb))
 all_goals first | rfl | omega | skip
 refine AE [] (ι := {i : Nat // i ≤ s.size ∧ ∀ j, j < i → 32 ≤ AC s j ∧ AC s j ≤ 126}) (fun p => ⟨[(0, .t (.v (.string s))), (5, .t (.v (.int .i64 s.size))), (6, .t (.v (.int .i64 p.1)))], []⟩) (fun p => s.size - p.1) ⟨0, Nat.zero_le _, fun j hj => absurd hj (Nat.not_lt_zero _)⟩ rfl ?_ ?_
 ·simp -implicitDefEqProofs only [go_sem, seval]
  try simp
 ·rintro ⟨i, hi, hall⟩
  by_cases hlt : (i : Int) < s.size
  ·by_cases h1 : AC s (i : Int).toNat < 32
   ·simp -implicitDefEqProofs only [hlt, h1, go_sem, seval]
    with_reducible repeat' (first | apply ai | intro _ | ((first | apply s1 | apply s3 | apply s4) <;> intro hb <;> simp -implicitDefEqProofs only [hb, go_sem, seval] <;> try simp only [qz] at hb))
    all_goals (try simp only [maxLen, tn] at *)
    all_goals first | rfl | omega | skip
    rw [AN (fun h => by have := (h.1 i (by omega)).1; omega)]
   ·by_cases h2 : AC s (i : Int).toNat > 126
    ·simp -implicitDefEqProofs only [hlt, h1, h2, go_sem, seval]
     with_reducible repeat' (first | apply ai | intro _ | ((first | apply s1 | apply s3 | apply s4) <;> intro hb <;> simp -implicitDefEqProofs only [hb, go_sem, seval] <;> try simp only [qz] at hb))
     all_goals (try simp only [maxLen, tn] at *)
     all_goals first | rfl | omega | skip
     rw [AN (fun h => by have := (h.1 i (by omega)).2; omega)]
    ·simp -implicitDefEqProofs only [hlt, h1, h2, go_sem, seval]
     with_reducible repeat' (first | apply ai | intro _ | ((first | apply s1 | apply s3 | apply s4) <;> intro hb <;> simp -implicitDefEqProofs only [hb, go_sem, seval] <;> try simp only [qz] at hb))
     all_goals (try simp only [maxLen, tn] at *)
     all_goals first | rfl | omega | skip
     refine ⟨⟨i + 1, by omega, fun j hj => ?_⟩, by dsimp only; omega, ?_⟩
     ·by_cases e : j = i
      ·subst e; omega
      ·exact hall j (by omega)
     ·simp -implicitDefEqProofs only [go_sem, seval]
      try simp
  ·simp -implicitDefEqProofs only [hlt, go_sem, seval]
   with_reducible repeat' (first | apply ai | intro _ | ((first | apply s1 | apply s3 | apply s4) <;> intro hb <;> simp -implicitDefEqProofs only [hb, go_sem, seval] <;> try simp only [qz] at hb))
   all_goals (try simp only [maxLen, tn] at *)
   all_goals first | rfl | omega | skip
   rw [← BR, AR]
   exact ⟨fun h => ⟨fun j hj => hall j (by omega), by omega⟩, fun h => by have := h.2; omega⟩
def ub : Ct := Ak (lc Aq l0) (fun p => True) (fun p => .t (.v (.bool (BM (TV p.1)))))
section
attribute [local go_sem] Xl nY AX AW
theorem rc {G : Gt} (hG : Ah G) (hh : G.e 48 = AA 0 Xl ∧ G.e 132 = AA 0 nY) : Gd G 80 (AA 0 ub) := by
 refine gr (fn := Tryz.f80) (n := 1) rfl rfl hG ?_
 rintro ⟨s, ⟨⟩⟩ hpre
 simp -implicitDefEqProofs only [Tryz.f80, go_sem, hh, seval] at hpre ⊢
 with_reducible repeat' (first | apply ai | intro _ | ((first | apply s1 | apply s3 | apply s4) <;> intro hb <;> simp -implicitDefEqProofs only [hb, go_sem, hh, seval] <;> try simp only [qz] at hb))
 all_goals first | rfl | omega | exact ij _ (by assumption) | (simp; done) | skip
 ·show T.v (.bool (decide (OD (Gf tf 36) (J7 (Gf tf 36) s) = ⟨#[]⟩))) = _
  rw [← BR]
  refine congrArg (fun b => T.v (.bool b)) (AR ((ii s).trans ?_))
  exact ⟨fun h => ⟨h, by omega, by omega⟩, fun h => h.1⟩
 ·rw [AN (fun h => hb ⟨by have := h.2.1; omega, by have := h.2.2; omega⟩)]
end
def UQ : Ct := Ak (lc Aq l0) (fun p => p.1.size ≤ 2000000) (fun p => .t (.v (.bool (BM (C3 p.1)))))
section
attribute [local go_sem] yN ub yb Bd Aa lm Bool.not_true Bool.not_false
theorem qj {G : Gt} (hG : Ah G) (hh : G.e 79 = AA 0 yN ∧ G.e 80 = AA 0 ub) : Gd G 34 (AA 0 UQ) := by
 refine gr (fn := Tryz.f34) (n := 1) rfl rfl hG ?_
 rintro ⟨s, ⟨⟩⟩ hpre
 simp -implicitDefEqProofs only [Tryz.f34, go_sem, hh, seval] at hpre ⊢
 with_reducible repeat' (first | apply ai | intro _ | ((first | apply s1 | apply s3 | apply s4) <;> intro hb <;> simp -implicitDefEqProofs only [hb, go_sem, hh, seval] <;> try simp only [qz] at hb))
 all_goals first | rfl | omega | skip
 have hlen := GU s 46
 have hcnt := ZD s 46
 refine AE [] (ι := {i : Nat // i ≤ (Iv s 46).length ∧ ∀ j, j < i → TV ((Iv s 46).getD j default)}) (fun p => ⟨[(3, .h 1007), (8, .h 1007), (9, .t (.v (.int .i64 (Iv s 46).length))), (10, .t (.v (.int .i64 p.1)))], [(1007, some (.arr true 1 ((Iv s 46).map AG)))]⟩) (fun p => (Iv s 46).length - p.1) ⟨0, Nat.zero_le _, fun j hj => absurd hj (Nat.not_lt_zero _)⟩ rfl ?_ ?_
 ·simp -implicitDefEqProofs only [go_sem, hh, seval]
  try simp
 ·rintro ⟨i, hi, hall⟩
  by_cases hlt : (i : Int) < (Iv s 46).length
  ·cases hb : BM (TV ((Iv s 46).getD (i : Int).toNat default))
   ·simp -implicitDefEqProofs only [hlt, hb, go_sem, hh, seval]
    with_reducible repeat' (first | apply ai | intro _ | ((first | apply s1 | apply s3 | apply s4) <;> intro hb <;> simp -implicitDefEqProofs only [hb, go_sem, hh, seval] <;> try simp only [qz] at hb))
    all_goals (try simp only [maxLen, tn, AW] at *)
    all_goals first | rfl | omega | skip
    rw [AN (fun h => hb (((Jq s).1 h).1 _ (AF (by omega))))]
   ·simp -implicitDefEqProofs only [hlt, hb, go_sem, hh, seval]
    with_reducible repeat' (first | apply ai | intro _ | ((first | apply s1 | apply s3 | apply s4) <;> intro hb <;> simp -implicitDefEqProofs only [hb, go_sem, hh, seval] <;> try simp only [qz] at hb))
    all_goals (try simp only [maxLen, tn, AX] at *)
    all_goals first | rfl | omega | skip
    refine ⟨⟨i + 1, by omega, DL hall hb⟩, by dsimp only; omega, ?_⟩
    simp -implicitDefEqProofs only [go_sem, hh, seval]
    try simp
  ·simp -implicitDefEqProofs only [hlt, go_sem, hh, seval]
   with_reducible repeat' (first | apply ai | intro _ | ((first | apply s1 | apply s3 | apply s4) <;> intro hb <;> simp -implicitDefEqProofs only [hb, go_sem, hh, seval] <;> try simp only [qz] at hb))
   all_goals first | rfl | omega | skip
   rw [← BR, AR (Jq s)]
   refine congrArg (fun b => T.v (.bool b)) (AR ?_)
   exact ⟨fun h => ⟨BO fun j hj => hall j (by omega), by omega⟩, fun h => by have := h.2; omega⟩
end
def cz : Ct := Ak (lc DQ.ag l0) (fun p => p.1.domain.size ≤ 2000000) (fun p => .t (.v (.bool (BM (BS p.1)))))
section
attribute [local go_sem] ub UQ
theorem qx {G : Gt} (hG : Ah G) (hh : G.e 80 = AA 0 ub ∧ G.e 34 = AA 0 UQ) : Gd G 44 (AA 0 cz) := by
 refine gr (fn := Tryz.f44) (n := 1) rfl rfl hG ?_
 rintro ⟨a, ⟨⟩⟩ hpre
 simp -implicitDefEqProofs only [Tryz.f44, go_sem, hh, seval] at hpre ⊢
 with_reducible repeat' (first | apply ai | intro _ | ((first | apply s1 | apply s3 | apply s4) <;> intro hb <;> simp -implicitDefEqProofs only [hb, go_sem, hh, seval] <;> try simp only [qz] at hb))
 all_goals (try simp only [AX, AW] at *)
 all_goals first | rfl | omega | skip
 ·refine congrArg (fun b => T.v (.bool b)) (AR ⟨fun h => ⟨by assumption, h⟩, fun h => h.2⟩)
 ·rw [AN (fun h => absurd h.1 (by assumption))]
end
def yV : Ct := Ak (lc DQ.ag l0) (fun p => True) (fun p => .t (.v (.bool (BM (Ab p.1)))))
theorem ru {G : Gt} (hG : Ah G) : Gd G 95 (AA 0 yV) := by
 refine gr (fn := Tryz.f95) (n := 1) rfl rfl hG ?_
 rintro ⟨a, ⟨⟩⟩ hpre
 simp -implicitDefEqProofs only [Tryz.f95, go_sem, seval] at hpre ⊢
 with_reducible repeat' (first | apply ai | intro _ | ((first | apply s1 | apply s3 | apply s4) <;> intro hb <;> simp -implicitDefEqProofs only [hb, go_sem, seval] <;> try simp only [qz] at hb))
 all_goals first | rfl | omega | skip
 ·unfold Ab
  rw [BR]
  by_cases h1 : a.user = ⟨#[]⟩ <;> by_cases h2 : a.domain = ⟨#[]⟩ <;> simp [h1, h2]
def o0 : Ct := Ak (lc DQ.ag l0) (fun p => p.1.domain.size ≤ 2000000) (fun p => .t (.v (.bool (BM (BS p.1 ∨ Ab p.1)))))
section
attribute [local go_sem] cz yV
theorem q9 {G : Gt} (hG : Ah G) (hh : G.e 44 = AA 0 cz ∧ G.e 95 = AA 0 yV) : Gd G 47 (AA 0 o0) := by
 refine gr (fn := Tryz.f47) (n := 1) rfl rfl hG ?_
 rintro ⟨a, ⟨⟩⟩ hpre
 simp -implicitDefEqProofs only [Tryz.f47, go_sem, hh, seval] at hpre ⊢
 with_reducible repeat' (first | apply ai | intro _ | ((first | apply s1 | apply s3 | apply s4) <;> intro hb <;> simp -implicitDefEqProofs only [hb, go_sem, hh, seval] <;> try simp only [qz] at hb))
 all_goals (try simp only [AX, AW] at *)
 all_goals first | rfl | omega | skip
 ·rw [Ae (.inr (by assumption))]
 ·refine congrArg (fun b => T.v (.bool b)) (AR ⟨fun h => .inl h, fun h => h.resolve_right (by assumption)⟩)
end
def yP : Ct := Ak (lc Aq (lc Aq l0)) (fun p => p.1.size ≤ 2000000 ∧ p.2.1.size ≤ 1500000) (fun p => .t (.v (.bool (BM (C3 p.1 ∧ C3 p.2.1 ∧ Qp p.1 p.2.1)))))
section
attribute [local go_sem] UQ nc
theorem rf {G : Gt} (hG : Ah G) (hh : G.e 34 = AA 0 UQ ∧ G.e 134 = AA 0 nc) : Gd G 82 (AA 0 yP) := by
 refine gr (fn := Tryz.f82) (n := 2) rfl rfl hG ?_
 rintro ⟨s, e, ⟨⟩⟩ hpre
 simp -implicitDefEqProofs only [Tryz.f82, go_sem, hh, seval] at hpre ⊢
 with_reducible repeat' (first | apply ai | intro _ | ((first | apply s1 | apply s3 | apply s4) <;> intro hb <;> simp -implicitDefEqProofs only [hb, go_sem, hh, seval] <;> try simp only [qz] at hb))
 all_goals (try simp only [AX, AW] at *)
 all_goals first | rfl | omega | skip
 all_goals (try rw [Zz])
 ·rw [Ae ⟨by assumption, by assumption, .inl (by assumption)⟩]
 ·show 1 + e.size ≤ maxLen
  rw [maxLen]; omega
 ·show 1 + e.size ≤ _
  omega
 ·refine congrArg (fun b => T.v (.bool b)) (AR ⟨fun h => ⟨by assumption, by assumption, .inr h⟩, fun h => h.2.2.resolve_left (by assumption)⟩)
 ·rw [AN (fun h => absurd h.2.1 (by assumption))]
 ·rw [AN (fun h => absurd h.1 (by assumption))]
end
namespace Ee
variable {α : Type} (E : Ee α)
def apD : AV → Option α
 | .t (.rop c) => E.dec c
 | _ => none
def ap : AD α where
 enc a := .t (.rop (E.enc a))
 dec := E.apD
 ed := fun a => E.ed a
 de := fun x a h => by
  unfold apD at h
  split at h
  ·rw [E.de _ _ h]
  ·cases h
end Ee
theorem BQ {α : Type} {E : Ee α} {a : α} : E.ap.enc a = .t (.rop (E.enc a)) := rfl
theorem BP {α : Type} {E : Ee α} {c : List T} : E.ap.dec (.t (.rop c)) = E.dec c := rfl
noncomputable def BI {α : Type} (p : α → Prop) : Nat → List α → Int
 | _, [] => -1
 | k, x :: t => bif BM (p x) then k else BI p (k + 1) t
theorem DH {α : Type} [Inhabited α] {p : α → Prop} {xs : List α} {i : Nat} (h : i < xs.length) (ha : p (xs.getD i default)) : BI p i (xs.drop i) = i := by
 rw [AZ h, BI, Ae ha]; rfl
theorem EV {α : Type} [Inhabited α] {p : α → Prop} {xs : List α} {i : Nat} (h : i < xs.length) (ha : ¬ p (xs.getD i default)) : BI p i (xs.drop i) = BI p (i + 1) (xs.drop (i + 1)) := by
 rw [AZ h, BI, AN ha]; rfl
theorem DG {α : Type} {p : α → Prop} {xs : List α} {i : Nat} (h : xs.length ≤ i) : BI p i (xs.drop i) = -1 := by
 rw [List.drop_eq_nil_of_le h, BI]
theorem EK {α : Type} {p : α → Prop} : ∀ (xs : List α) (k : Nat), 0 ≤ BI p k xs ↔ ∃ x ∈ xs, p x
 | [], k => by simp [BI]
 | x :: t, k => by
   rw [BI]
   by_cases h : p x
   ·rw [Ae h, cond_true]
    exact ⟨fun _ => ⟨x, by simp, h⟩, fun _ => by omega⟩
   ·rw [AN h, cond_false, EK t (k + 1)]
    simp [h]
inductive D9 where
 | line
 | dom
def D9.enc : D9 → AV
 | .line  => .t (.fn 97 [])
 | .dom  => .t (.fn 91 [])
def D9.dec : AV → Option D9
 | .t (.fn 97 []) => some (.line )
 | .t (.fn 91 []) => some (.dom )
 | _ => none
def D9.sem : D9 → ByteArray → Prop
 | .line , x => ¬ I0 x
 | .dom , x => ¬ C3 x
def D9.pre : D9 → ByteArray → Prop
 | .line , x => x.size ≤ 2000000
 | .dom , x => x.size ≤ 2000000
def Lx : AD D9 where
 enc := D9.enc
 dec := D9.dec
 ed := fun f => by cases f <;> rfl
 de := fun x f h => by
  unfold D9.dec at h
  split at h <;> cases h <;> rfl
theorem Dl  : Lx.dec (.t (.fn 97 [])) = some (.line ) := rfl
theorem Dn  : Lx.enc (.line ) = .t (.fn 97 []) := rfl
theorem Dm  : Lx.dec (.t (.fn 91 [])) = some (.dom ) := rfl
theorem Do  : Lx.enc (.dom ) = .t (.fn 91 []) := rfl
def yX : Ct := Ak (lc Aq l0) (fun p => p.1.size ≤ 2000000) (fun p => .t (.v (.bool (BM (¬ I0 p.1)))))
section
attribute [local go_sem] yY BQ BP Bool.not_true Bool.not_false By DO
theorem rx {G : Gt} (hG : Ah G) (hh : G.e 98 = AA 0 yY) : Gd G 97 (AA 0 yX) := by
 refine gr (fn := Tryz.f97) (n := 1) rfl rfl hG ?_
 rintro ⟨x, ⟨⟩⟩ hpre
 simp -implicitDefEqProofs only [Tryz.f97, go_sem, hh, seval] at hpre ⊢
 with_reducible repeat' (first | apply ai | intro _ | ((first | apply s1 | apply s3 | apply s4) <;> intro hb <;> simp -implicitDefEqProofs only [hb, go_sem, hh, seval] <;> try simp only [qz] at hb))
 all_goals first | rfl | omega | exact hpre | skip
 all_goals (try (simp only [E8]; done))
 all_goals first | rfl | (rw [BR]; done) | (rw [BR, decide_eq_decide.2]; simp [CA]; done) | (rw [BR]; simp [CA]; done)
end
def yS : Ct := Ak (lc Aq l0) (fun p => p.1.size ≤ 2000000) (fun p => .t (.v (.bool (BM (¬ C3 p.1)))))
section
attribute [local go_sem] UQ BQ BP Bool.not_true Bool.not_false By DO
theorem rp {G : Gt} (hG : Ah G) (hh : G.e 34 = AA 0 UQ) : Gd G 91 (AA 0 yS) := by
 refine gr (fn := Tryz.f91) (n := 1) rfl rfl hG ?_
 rintro ⟨x, ⟨⟩⟩ hpre
 simp -implicitDefEqProofs only [Tryz.f91, go_sem, hh, seval] at hpre ⊢
 with_reducible repeat' (first | apply ai | intro _ | ((first | apply s1 | apply s3 | apply s4) <;> intro hb <;> simp -implicitDefEqProofs only [hb, go_sem, hh, seval] <;> try simp only [qz] at hb))
 all_goals first | rfl | omega | exact hpre | skip
 all_goals (try (simp only [E8]; done))
 all_goals first | rfl | (rw [BR]; done) | (rw [BR, decide_eq_decide.2]; simp [CA]; done) | (rw [BR]; simp [CA]; done)
end
def nh : Ct := Ak (lc Al.asl (lc Lx l0)) (fun p => ∀ x ∈ p.1, p.2.1.pre x) (fun p => .t (.v (.int .i64 (BI p.2.1.sem 0 p.1))))
section
attribute [local go_sem] yX yS BQ BP Bool.not_true Bool.not_false By DO Dl Dn Dm Do
theorem fm {G : Gt} (hG : Ah G) (hh : G.e 97 = AA 0 yX ∧ G.e 91 = AA 0 yS) : Gd G 136 (AA 0 nh) := by
 refine gr (fn := Tryz.f136) (n := 2) rfl rfl hG ?_
 rintro ⟨xs, f, ⟨⟩⟩ hpre
 have hs := hpre
 dsimp only at hs ⊢
 cases f with
 | line  =>
   simp -implicitDefEqProofs only [Tryz.f136, go_sem, hh, seval]
   with_reducible repeat' (first | apply ai | intro _ | ((first | apply s1 | apply s3 | apply s4) <;> intro hb <;> simp -implicitDefEqProofs only [hb, go_sem, hh, seval] <;> try simp only [qz] at hb))
   all_goals first | rfl | omega | skip
   refine AE [] (ι := {i : Nat // i ≤ xs.length ∧ BI (D9.sem (.line )) 0 xs = BI (D9.sem (.line )) i (xs.drop i)}) (fun p => ⟨[(0, .t (.sl 1 (xs.map AG))), (1, .t (.fn 97 [])), (7, .t (.v (.int .i64 xs.length))), (8, .t (.v (.int .i64 p.1)))], []⟩) (fun p => xs.length - p.1) ⟨0, Nat.zero_le _, rfl⟩ rfl ?_ ?_
   ·simp -implicitDefEqProofs only [go_sem, hh, seval]
    try simp
   ·rintro ⟨i, hi, hix⟩
    by_cases hlt : (i : Int) < xs.length
    ·have hm : xs.getD (i : Int).toNat default ∈ xs := AF (by omega)
     have hsz := hs _ hm
     cases hb : BM (¬ I0 (xs.getD (i : Int).toNat default))
     ·have hq := hb
      simp -implicitDefEqProofs only [hlt, hq, go_sem, hh, seval]
      with_reducible repeat' (first | apply ai | intro _ | ((first | apply s1 | apply s3 | apply s4) <;> intro hb <;> simp -implicitDefEqProofs only [hb, go_sem, hh, seval] <;> try simp only [qz] at hb))
      all_goals (try simp only [maxLen] at *)
      all_goals first | rfl | omega | with_reducible assumption | exact hsz | exact hsz.1 | exact hsz.2 | exact hsz.2 _ (by assumption) | exact hsz.2.1 | exact hsz.2.2.1 | exact hsz.2.2.2 | trivial | skip
      rw [AW, tn] at hb
      refine ⟨⟨i + 1, by omega, ?_⟩, by dsimp only; omega, ?_⟩
      ·rw [hix, EV (p := D9.sem (.line )) (by omega) hb]
      ·simp -implicitDefEqProofs only [go_sem, hh, seval]
       try simp
     ·have hq := hb
      simp -implicitDefEqProofs only [hlt, hq, go_sem, hh, seval]
      with_reducible repeat' (first | apply ai | intro _ | ((first | apply s1 | apply s3 | apply s4) <;> intro hb <;> simp -implicitDefEqProofs only [hb, go_sem, hh, seval] <;> try simp only [qz] at hb))
      all_goals (try simp only [maxLen] at *)
      all_goals first | rfl | omega | with_reducible assumption | exact hsz | exact hsz.1 | exact hsz.2 | exact hsz.2 _ (by assumption) | exact hsz.2.1 | exact hsz.2.2.1 | exact hsz.2.2.2 | trivial | skip
      rw [AX, tn] at hb
      rw [hix, DH (p := D9.sem (.line )) (by omega) hb]
    ·simp -implicitDefEqProofs only [hlt, go_sem, hh, seval]
     with_reducible repeat' (first | apply ai | intro _ | ((first | apply s1 | apply s3 | apply s4) <;> intro hb <;> simp -implicitDefEqProofs only [hb, go_sem, hh, seval] <;> try simp only [qz] at hb))
     all_goals first | rfl | omega | skip
     all_goals (rw [hix, DG (by omega)])
 | dom  =>
   simp -implicitDefEqProofs only [Tryz.f136, go_sem, hh, seval]
   with_reducible repeat' (first | apply ai | intro _ | ((first | apply s1 | apply s3 | apply s4) <;> intro hb <;> simp -implicitDefEqProofs only [hb, go_sem, hh, seval] <;> try simp only [qz] at hb))
   all_goals first | rfl | omega | skip
   refine AE [] (ι := {i : Nat // i ≤ xs.length ∧ BI (D9.sem (.dom )) 0 xs = BI (D9.sem (.dom )) i (xs.drop i)}) (fun p => ⟨[(0, .t (.sl 1 (xs.map AG))), (1, .t (.fn 91 [])), (7, .t (.v (.int .i64 xs.length))), (8, .t (.v (.int .i64 p.1)))], []⟩) (fun p => xs.length - p.1) ⟨0, Nat.zero_le _, rfl⟩ rfl ?_ ?_
   ·simp -implicitDefEqProofs only [go_sem, hh, seval]
    try simp
   ·rintro ⟨i, hi, hix⟩
    by_cases hlt : (i : Int) < xs.length
    ·have hm : xs.getD (i : Int).toNat default ∈ xs := AF (by omega)
     have hsz := hs _ hm
     cases hb : BM (¬ C3 (xs.getD (i : Int).toNat default))
     ·have hq := hb
      simp -implicitDefEqProofs only [hlt, hq, go_sem, hh, seval]
      with_reducible repeat' (first | apply ai | intro _ | ((first | apply s1 | apply s3 | apply s4) <;> intro hb <;> simp -implicitDefEqProofs only [hb, go_sem, hh, seval] <;> try simp only [qz] at hb))
      all_goals (try simp only [maxLen] at *)
      all_goals first | rfl | omega | with_reducible assumption | exact hsz | exact hsz.1 | exact hsz.2 | exact hsz.2 _ (by assumption) | exact hsz.2.1 | exact hsz.2.2.1 | exact hsz.2.2.2 | trivial | skip
      rw [AW, tn] at hb
      refine ⟨⟨i + 1, by omega, ?_⟩, by dsimp only; omega, ?_⟩
      ·rw [hix, EV (p := D9.sem (.dom )) (by omega) hb]
      ·simp -implicitDefEqProofs only [go_sem, hh, seval]
       try simp
     ·have hq := hb
      simp -implicitDefEqProofs only [hlt, hq, go_sem, hh, seval]
      with_reducible repeat' (first | apply ai | intro _ | ((first | apply s1 | apply s3 | apply s4) <;> intro hb <;> simp -implicitDefEqProofs only [hb, go_sem, hh, seval] <;> try simp only [qz] at hb))
      all_goals (try simp only [maxLen] at *)
      all_goals first | rfl | omega | with_reducible assumption | exact hsz | exact hsz.1 | exact hsz.2 | exact hsz.2 _ (by assumption) | exact hsz.2.1 | exact hsz.2.2.1 | exact hsz.2.2.2 | trivial | skip
      rw [AX, tn] at hb
      rw [hix, DH (p := D9.sem (.dom )) (by omega) hb]
    ·simp -implicitDefEqProofs only [hlt, go_sem, hh, seval]
     with_reducible repeat' (first | apply ai | intro _ | ((first | apply s1 | apply s3 | apply s4) <;> intro hb <;> simp -implicitDefEqProofs only [hb, go_sem, hh, seval] <;> try simp only [qz] at hb))
     all_goals first | rfl | omega | skip
     all_goals (rw [hix, DG (by omega)])
end
def uh : Ct := Ak (lc Al.asl (lc Lx l0)) (fun p => ∀ x ∈ p.1, p.2.1.pre x) (fun p => .t (.v (.bool (BM (∃ x ∈ p.1, p.2.1.sem x)))))
section
attribute [local go_sem] nh BQ BP Bool.not_true Bool.not_false By DO Dl Dn Dm Do
theorem rr {G : Gt} (hG : Ah G) (hh : G.e 136 = AA 0 nh) : Gd G 93 (AA 0 uh) := by
 refine gr (fn := Tryz.f93) (n := 2) rfl rfl hG ?_
 rintro ⟨xs, f, ⟨⟩⟩ hpre
 dsimp only at hpre ⊢
 cases f
 all_goals
  simp -implicitDefEqProofs only [Tryz.f93, go_sem, hh, seval]
  with_reducible repeat' (first | apply ai | intro _ | ((first | apply s1 | apply s3 | apply s4) <;> intro hb <;> simp -implicitDefEqProofs only [hb, go_sem, hh, seval] <;> try simp only [qz] at hb))
  all_goals first | rfl | omega | exact hpre | exact hpre _ (by assumption) | skip
  all_goals (rw [← AR (EK _ 0)]; rw [BR])
end
section
attribute [local go_sem] BQ BP Bool.not_true Bool.not_false By DO
end
section
attribute [local go_sem] BQ BP Bool.not_true Bool.not_false By DO
end
def c8 : Ct := Ak (lc Al.asl l0) (fun p => ∀ s ∈ p.1, s.size ≤ 2000000) (fun p => .t (.v (.bool (BM (CZ p.1)))))
section
attribute [local go_sem] uh BQ BP Bool.not_true Bool.not_false By DO Dl Dn Dm Do
theorem rD {G : Gt} (hG : Ah G) (hh : G.e 93 = AA 0 uh) : Gd G 51 (AA 0 c8) := by
 refine gr (fn := Tryz.f51) (n := 1) rfl rfl hG ?_
 rintro ⟨xs, ⟨⟩⟩ hpre
 simp -implicitDefEqProofs only [Tryz.f51, go_sem, hh, seval] at hpre ⊢
 with_reducible repeat' (first | apply ai | intro _ | ((first | apply s1 | apply s3 | apply s4) <;> intro hb <;> simp -implicitDefEqProofs only [hb, go_sem, hh, seval] <;> try simp only [qz] at hb))
 all_goals first | rfl | omega | exact hpre | exact hpre _ (by assumption) | exact trivial | skip
 ·rw [E8]
  refine congrArg (fun b => T.v (.bool b)) (AR ?_)
  constructor
  ·intro h
   exact ⟨fun s hs => Classical.byContradiction fun q => h ⟨s, hs, q⟩, by omega⟩
  ·rintro h ⟨s, hs, q⟩
   exact q (h.1 s hs)
 ·rw [AN (fun h => by have := h.2; omega)]
end
theorem zf : Maps.Keyed Tryz.prog 37 := Maps.Keyed.of_law (deep_law_laid (m := 5) (by kernel_rfl) (by decide) (Nat.lt_of_lt_of_le (Nat.lt_succ_self 37) (Nat.le_of_ble_eq_true (by kernel_rfl))) (by kernel_rfl) (by kernel_rfl))
noncomputable def Ww : Array Field := match Tryz.prog.underlying 37 with | some (.struct fs) => fs | _ => #[]
theorem zB : Tryz.prog.underlying 37 = some (.struct Ww) := by kernel_rfl
theorem u9 : Tryz.prog.underlying 9 = some .string := by kernel_rfl
theorem qI : (Ww.toList.map fun f => (f.type, f.offset)) = [(9, 0), (9, 1)] := by kernel_rfl
theorem qJ : Ww.all (·.name != "_") = true := by kernel_rfl
theorem zi : Tryz.prog.cellsOf 9 = 1 := by kernel_rfl
theorem uj : Tryz.prog.cellsOf 37 = 2 := by kernel_rfl
theorem ym : Tryz.prog.keyType 37 = true := by kernel_rfl
theorem zA : ∃ n, Tryz.prog.types.size + 1 = n + 2 := ⟨Tryz.prog.types.size - 1, by
 have : 37 < Tryz.prog.types.size := Nat.lt_of_lt_of_le (Nat.lt_succ_self 37) (Nat.le_of_ble_eq_true (by kernel_rfl))
 omega⟩
theorem zQ (d : Nat) {s : ByteArray} (h : s.size ≤ maxLen) : Tryz.prog.keyLits (d + 1) 9 [.string s] = some [.string s.data.toList] := by
 simp only [Program.keyLits, u9, if_pos h]
theorem vU {k : MK} (h : k.ok (some 2)) : ∃ l, keyOf Tryz.prog 37 k.val = some l := by
 cases k with
 | i n => exact h.elim
 | s b => exact absurd h.1 (by decide)
 | ss l =>
   obtain ⟨h1, h2, _⟩ := h
   obtain ⟨u, d, rfl⟩ : ∃ u d, l = [u, d] := by
    rcases l with _ | ⟨u, _ | ⟨d, _ | ⟨z, t⟩⟩⟩
    ·cases h1
    ·cases h1
    ·exact ⟨u, d, rfl⟩
    ·simp at h1
   obtain ⟨n, hn⟩ := zA
   have hl : Ww.toList.map (fun f => (f.type, f.offset)) = [(9, 0), (9, 1)] := qI
   rcases hf : Ww.toList with _ | ⟨f, _ | ⟨g, _ | ⟨z, t⟩⟩⟩
   ·rw [hf] at hl; cases hl
   ·rw [hf] at hl; simp at hl
   ·rw [hf] at hl
    ·simp only [List.map_cons, List.map_nil, List.cons.injEq, Prod.mk.injEq, and_true] at hl
     obtain ⟨⟨a1, a2⟩, b1, b2⟩ := hl
     refine ⟨.string (keyBytes [.string u.data.toList, .string d.data.toList]), ?_⟩
     have hform : (MK.val (.ss [u, d])).formed Tryz.prog 37 = true := by
      simp only [Value.formed, MK.val, zB, uj]
      rfl
     unfold keyOf
     rw [zB]
     show (if (Tryz.prog.keyType 37 && (MK.val (.ss [u, d])).formed Tryz.prog 37) = true then _ else none) = _
     rw [ym, hform]
     refine (if_pos rfl).trans ?_
     rw [hn]
     have : Tryz.prog.keyLits (n + 2) 37 (MK.val (.ss [u, d])).cells.toList = some [.string u.data.toList, .string d.data.toList] := by
      show Tryz.prog.keyLits (n + 2) 37 [.string u, .string d] = _
      have e1 : [Value.string u, Value.string d].length = Tryz.prog.cellsOf 37 ∧ Ww.all (·.name != "_") = true := ⟨by rw [uj]; rfl, qJ⟩
      rw [Program.keyLits.eq_def]
      simp only [zB]
      refine (if_pos e1).trans ?_
      rw [hf]
      simp only [List.mapM_cons, List.mapM_nil, a1, a2, b1, b2, zi, List.drop_zero, List.take_succ_cons, List.take_zero, List.drop_succ_cons, zQ n (h2 u (by simp)), zQ n (h2 d (by simp))]
      rfl
     rw [this]; rfl
   ·rw [hf] at hl
    simp only [List.map_cons, List.cons.injEq] at hl
    exact absurd hl.2.2 (by simp)
theorem yl : OR Tryz.prog 37 (some 2) := OR.ss zf vU
def lP (a : Ad) : MK := .ss [a.user, a.domain]
theorem iv {a b : Ad} (h : lP a = lP b) : a = b := by
 cases a; cases b
 simp only [lP, MK.ss.injEq, List.cons.injEq, and_true] at h
 rw [h.1, h.2]
def dis (xs : List Ad) : List (MK × Bool) := xs.foldl (fun es a => OE (lP a) true es) []
theorem Kc (xs : List Ad) (a : Ad) : dis (xs ++ [a]) = OE (lP a) true (dis xs) := by simp [dis]
theorem LW {k : MK} {b : Bool} : ∀ {es : List (MK × Bool)}, (OE k b es).map Prod.fst = if k ∈ es.map Prod.fst then es.map Prod.fst else es.map Prod.fst ++ [k]
 | [] => by simp [OE]
 | p :: r => by
   rw [OE]
   by_cases h : p.1 = k
   ·simp [h]
   ·have hk : ¬ k = p.1 := fun e => h e.symm
    rw [if_neg h, List.map_cons, LW]
    by_cases h2 : k ∈ r.map Prod.fst
    ·rw [if_pos h2, if_pos (by simp only [List.map_cons, List.mem_cons]; exact .inr h2)]; rfl
    ·rw [if_neg h2, if_neg (by simp only [List.map_cons, List.mem_cons]; exact fun e => e.elim hk h2)]; rfl
theorem ef (xs : List Ad) (a : Ad) : lP a ∈ (dis xs).map Prod.fst ↔ a ∈ xs := by
 generalize hr : xs.reverse = r
 have hx : xs = r.reverse := by rw [← hr, List.reverse_reverse]
 subst hx
 clear hr
 induction r with
 | nil => simp [dis]
 | cons b r ih =>
   rw [List.reverse_cons, Kc, LW, List.mem_append, ← propext ih]
   by_cases h : lP b ∈ (dis r.reverse).map Prod.fst
   ·rw [if_pos h]
    constructor
    ·exact .inl
    ·rintro (h1 | h1)
     ·exact h1
     ·rw [List.mem_singleton.1 h1]; exact h
   ·rw [if_neg h, List.mem_append, List.mem_singleton, List.mem_singleton]
    exact or_congr_right ⟨iv, fun e => by rw [e]⟩
theorem ec (xs : List Ad) : (dis xs).length ≤ xs.length ∧ ((dis xs).length = xs.length ↔ xs.Nodup) := by
 generalize hr : xs.reverse = r
 have hx : xs = r.reverse := by rw [← hr, List.reverse_reverse]
 subst hx
 clear hr
 induction r with
 | nil => simp [dis]
 | cons b r ih =>
   have hl : ∀ es : List (MK × Bool), es.length = (es.map Prod.fst).length := fun es => by rw [lm]
   have hn : (r.reverse ++ [b]).Nodup ↔ r.reverse.Nodup ∧ b ∉ r.reverse := by
    rw [List.nodup_append]
    constructor
    ·rintro ⟨h1, _, h3⟩
     exact ⟨h1, fun hb => h3 b hb b (by simp) rfl⟩
    ·rintro ⟨h1, h2⟩
     refine ⟨h1, by simp, fun x hx y hy e => ?_⟩
     rw [List.mem_singleton] at hy
     subst hy; subst e; exact h2 hx
   rw [List.reverse_cons, Kc, hl, LW, List.length_append, hn, ← ef]
   obtain ⟨i1, i2⟩ := ih
   by_cases h : lP b ∈ (dis r.reverse).map Prod.fst
   ·rw [if_pos h, ← hl]
    refine ⟨by omega, ⟨fun e => ?_, fun e => absurd h e.2⟩⟩
    simp at e i1; omega
   ·rw [if_neg h, List.length_append, ← hl]
    refine ⟨by simp at *; omega, ⟨fun e => ⟨i2.1 (by simp at *; omega), h⟩, fun e => ?_⟩⟩
    have := i2.2 e.1
    simp at *; omega
theorem Sh {xs : List Ad} {i : Nat} (h : i < xs.length) : xs.take (i + 1) = xs.take i ++ [xs.getD i default] := by
 rw [List.take_succ_eq_append_getElem h]
 simp [h]
theorem Zp {xs : List Ad} {i : Nat} (h : i < xs.length) : OE (.ss [(xs.getD i default).user, (xs.getD i default).domain]) true (dis (xs.take i)) = dis (xs.take (i + 1)) := by
 rw [Sh h, Kc]; rfl
def uX : Ct := Ak (lc DQ.asl l0) (fun p => True) (fun p => .t (.v (.bool (BM p.1.Nodup))))
section
attribute [local go_sem] BQ BP Bool.not_true Bool.not_false By DO Dl Dn Dm Do
theorem rC {G : Gt} (hG : Ah G) : Gd G 50 (AA 0 uX) := by
 refine gr (fn := Tryz.f50) (n := 1) rfl rfl hG ?_
 rintro ⟨xs, ⟨⟩⟩ hpre
 simp -implicitDefEqProofs only [Tryz.f50, go_sem, seval] at hpre ⊢
 with_reducible repeat' (first | apply ai | intro _ | ((first | apply s1 | apply s3 | apply s4) <;> intro hb <;> simp -implicitDefEqProofs only [hb, go_sem, seval] <;> try simp only [qz] at hb))
 all_goals first | rfl | omega | skip
 refine AE [] (ι := {i : Nat // i ≤ xs.length}) (fun p => ⟨[(0, .t (.sl 2 (xs.map Am))), (3, .h 1006), (7, .t (.sl 2 (xs.map Am))), (8, .t (.v (.int .i64 xs.length))), (9, .t (.v (.int .i64 p.1)))], [(1006, some (.mp (some 2) (dis (xs.take p.1))))]⟩) (fun p => xs.length - p.1) ⟨0, Nat.zero_le _⟩ rfl ?_ ?_
 ·simp -implicitDefEqProofs only [go_sem, seval]
  try simp
  rfl
 ·rintro ⟨i, hi⟩
  by_cases hlt : (i : Int) < xs.length
  ·simp -implicitDefEqProofs only [hlt, go_sem, seval]
   with_reducible repeat' (first | apply ai | intro _ | ((first | apply s1 | apply s3 | apply s4) <;> intro hb <;> simp -implicitDefEqProofs only [hb, go_sem, seval] <;> try simp only [qz] at hb))
   all_goals (try simp only [maxLen] at *)
   all_goals first | rfl | omega | exact yl | skip
   refine ⟨⟨i + 1, by omega⟩, by dsimp only; omega, ?_⟩
   simp -implicitDefEqProofs only [go_sem, seval]
   simp only [tn, Zp (show i < xs.length by omega)]
   try simp
  ·simp -implicitDefEqProofs only [hlt, go_sem, seval]
   with_reducible repeat' (first | apply ai | intro _ | ((first | apply s1 | apply s3 | apply s4) <;> intro hb <;> simp -implicitDefEqProofs only [hb, go_sem, seval] <;> try simp only [qz] at hb))
   all_goals first | rfl | omega | skip
   rw [List.take_of_length_le (by omega), ← AR (ec xs).2, BR]
   refine congrArg (fun b => T.v (.bool b)) (decide_eq_decide.2 ?_)
   omega
end
theorem BE {α : Type} [Inhabited α] (enc : α → List T) {xs : List α} {i : Nat} (h : i < xs.length) : (xs.take (i + 1)).map enc = (xs.take i).map enc ++ [enc (xs.getD i default)] := by
 rw [List.take_succ_eq_append_getElem h, List.map_append, List.map_cons, List.map_nil]
 simp only [List.getD_eq_getElem?_getD, List.getElem?_eq_getElem h, Option.getD_some]
theorem Ja {α : Type} {enc : α → List T} {xs : List α} {k : Nat} : (xs.map enc).take k = (xs.take k).map enc := List.map_take.symm
theorem JT {α : Type} {enc : α → List T} {xs : List α} {k : Nat} : (xs.map enc).drop k = (xs.drop k).map enc := List.map_drop.symm
def OX (r : Rc) : Prop := BS r.addr ∧ (0 ≤ r.tries ∧ r.tries ≤ 3) ∧ (0 ≤ r.next ∧ r.next ≤ 9999)
def Dr (x : Im) : Prop := (∀ r ∈ x.to, OX r) ∧ (x.to.map Rc.addr).Nodup ∧ 0 < x.id ∧ (BS x.frm ∨ Ab x.frm) ∧ (1 ≤ x.to.length ∧ x.to.length ≤ 4) ∧ CZ x.body
def xV (xs : List Im) : Prop := ∀ j, 0 < j → j < xs.length → (xs.getD (j - 1) default).id < (xs.getD j default).id
def Bg (s : Sp) : Prop := (∀ x ∈ s.items, Dr x ∧ x.id ≤ s.last) ∧ xV s.items ∧ (0 ≤ s.last ∧ s.last ≤ 999) ∧ s.items.length ≤ 10
theorem R8 {xs : List Rc} (h : ∀ j, j < xs.length → ∀ k, k < j → ¬ (xs.getD k default).addr = (xs.getD j default).addr) : (xs.map Rc.addr).Nodup := by
 rw [List.nodup_iff_pairwise_ne, List.pairwise_iff_getElem]
 intro k j hk hj hkj
 rw [lm] at hk hj
 have := h j hj k hkj
 simpa [hk, hj] using this
theorem Q6 {xs : List Rc} (h : (xs.map Rc.addr).Nodup) {k i : Nat} (hk : k < i) (hi : i < xs.length) : ¬ (xs.getD k default).addr = (xs.getD i default).addr := fun e => by
 have q1 : k < xs.length := by omega
 simp only [List.getD_eq_getElem?_getD, List.getElem?_eq_getElem q1, List.getElem?_eq_getElem hi, Option.getD_some] at e
 exact List.pairwise_iff_getElem.1 (List.nodup_iff_pairwise_ne.1 h) k i (by simpa using q1) (by simpa using hi) hk (by simpa using e)
def oA : Ct := Ak (lc WF.ag l0) (fun p => True) (fun p => .t (.v (.bool (BM (OX p.1)))))
section
attribute [local go_sem] IY Ju
theorem gI {G : Gt} (hG : Ah G) (hh : G.e 106 = AA 0 IY ∧ G.e 69 = AA 0 Ju) : Gd G 163 (AA 0 oA) := by
 refine gr (fn := Tryz.f163) (n := 1) rfl rfl hG ?_
 rintro ⟨r, ⟨⟩⟩ hpre
 simp -implicitDefEqProofs only [Tryz.f163, go_sem, hh, seval] at hpre ⊢
 with_reducible repeat' (first | apply ai | intro _ | ((first | apply s1 | apply s3 | apply s4) <;> intro hb <;> simp -implicitDefEqProofs only [hb, go_sem, hh, seval] <;> try simp only [qz] at hb))
 all_goals first
  | rfl
  | omega
  | exact congrArg (fun b => T.v (Value.bool b)) (AR ⟨fun h => ⟨by assumption, by assumption, h⟩, fun h => h.2.2⟩)
  | (rw [AN (fun h => absurd h.1 (by assumption))]; done)
  | (rw [AN (fun h => absurd h.2.1 (by assumption))]; done)
end
def nf : Ct := Ak (lc Iz.ag l0) (fun p => True) (fun p => .t (.v (.bool (BM (Dr p.1)))))
section
attribute [local go_sem] IY Ju oA IZ NF lm
set_option maxHeartbeats 800000 in
theorem fk {G : Gt} (hG : Ah G) (hh : G.e 106 = AA 0 IY ∧ G.e 69 = AA 0 Ju ∧ G.e 163 = AA 0 oA ∧ G.e 119 = AA 0 IZ ∧ G.e 120 = AA 0 NF) : Gd G 135 (AA 0 nf) := by
 refine gr (fn := Tryz.f135) (n := 1) rfl rfl hG ?_
 rintro ⟨x, ⟨⟩⟩ hpre
 simp -implicitDefEqProofs only [Tryz.f135, go_sem, hh, seval] at hpre ⊢
 have hbox : ∀ y : Im, Ob.box [AV.t (T.v (Value.int IntKind.i64 y.id)), AV.t (T.v (Value.string y.frm.user)), AV.t (T.v (Value.string y.frm.domain)), AV.t (T.sl 4 (List.map BN y.to)), AV.t (T.sl 1 (List.map AG y.body))] = Ob.box ((An y).map .t) := fun _ => rfl
 refine AE [] (ι := {i : Nat // i ≤ x.to.length ∧ (∀ j, j < i → OX (x.to.getD j default)) ∧ ∀ j, j < i → ∀ k, k < j → ¬ (x.to.getD k default).addr = (x.to.getD j default).addr}) (fun p => ⟨[(1, .pb 1001 0), (3, .t (.v (.int .i64 p.1)))], [(1001, some (.box ((An x).map .t)))]⟩) (fun p => x.to.length - p.1) ⟨0, by simp, by simp, by simp⟩ rfl ?_ ?_
 ·simp -implicitDefEqProofs only [go_sem, hh, seval]
  try simp
 ·rintro ⟨i, hi, hall, hno⟩
  simp -implicitDefEqProofs only [go_sem, hh, seval]
  with_reducible repeat' (first | apply ai | intro _ | ((first | apply s1 | apply s3 | apply s4) <;> intro hb <;> simp -implicitDefEqProofs only [hb, go_sem, hh, seval] <;> try simp only [qz] at hb))
  all_goals (try simp only [maxLen, tn, lm] at *)
  all_goals first | rfl | omega | skip
  ·rw [AN (fun h => hb (h.1 _ (AF (by omega))))]
  ·refine AE [] (ι := {k : Nat // k ≤ i ∧ ∀ j, j < k → ¬ (x.to.getD j default).addr = (x.to.getD i default).addr}) (fun p => ⟨[(1, .pb 1001 0), (3, .t (.v (.int .i64 i))), (4, .t (.v (.int .i64 p.1)))], [(1001, some (.box ((An x).map .t)))]⟩) (fun p => i - p.1) ⟨0, by simp, by simp⟩ rfl ?_ ?_
   ·simp -implicitDefEqProofs only [go_sem, hh, seval]
    try simp
   ·rintro ⟨k, hk, hk2⟩
    simp -implicitDefEqProofs only [go_sem, hh, seval]
    with_reducible repeat' (first | apply ai | intro _ | ((first | apply s1 | apply s3 | apply s4) <;> intro hb <;> simp -implicitDefEqProofs only [hb, go_sem, hh, seval] <;> try simp only [qz] at hb))
    all_goals (try simp only [maxLen, tn, lm] at *)
    all_goals first | rfl | omega | skip
    ·have e : (x.to.getD k default).addr = (x.to.getD i default).addr := CA.2 (by simpa using hb)
     rw [AN (fun h => Q6 h.2.1 (by omega) (by omega) e)]
    ·refine ⟨⟨k + 1, by omega, fun j hj => ?_⟩, by dsimp only; omega, ?_⟩
     ·by_cases e : j = k
      ·subst e; exact sJ hb
      ·exact hk2 j (by omega)
     ·simp -implicitDefEqProofs only [go_sem, hh, seval]
      try simp
    ·refine ⟨⟨i + 1, by omega, DL hall (by assumption), fun j hj q hq => ?_⟩, by dsimp only; omega, ?_⟩
     ·by_cases e : j = i
      ·subst e; exact hk2 q (by omega)
      ·exact hno j (by omega) q hq
     ·simp -implicitDefEqProofs only [go_sem, hh, seval]
      try simp
  all_goals have hA : ∀ r ∈ x.to, OX r := BO fun j hj => hall j (by omega)
  all_goals have hN : (x.to.map Rc.addr).Nodup := R8 fun j hj q hq => hno j (by omega) q hq
  all_goals first
   | (rw [AR]
      exact ⟨fun h => ⟨hA, hN, by first | assumption | omega, by first | exact .inl (by assumption) | exact .inr (by assumption), by omega, h⟩, fun h => h.2.2.2.2.2⟩)
   | (rw [AN]
      intro h
      first
       | (have := h.2.2.1; omega)
       | (have := h.2.2.2.2.1; omega)
       | (rcases h.2.2.2.1 with h | h <;> contradiction))
end
def yR : Ct := Ak (lc N4.ag l0) (fun p => True) (fun p => .t (.v (.bool (BM (Bg p.1)))))
section
attribute [local go_sem] nf Ju lm Bool.not_true Bool.not_false
set_option maxHeartbeats 1600000 in
theorem rk {G : Gt} (hG : Ah G) (hh : G.e 135 = AA 0 nf ∧ G.e 69 = AA 0 Ju) : Gd G 87 (AA 0 yR) := by
 refine gr (fn := Tryz.f87) (n := 1) rfl rfl hG ?_
 rintro ⟨s, ⟨⟩⟩ hpre
 simp -implicitDefEqProofs only [Tryz.f87, go_sem, hh, seval] at hpre ⊢
 refine AE [] (ι := {i : Nat // i ≤ s.items.length ∧ (∀ j, j < i → Dr (s.items.getD j default) ∧ (s.items.getD j default).id ≤ s.last) ∧ ∀ j, 0 < j → j < i → (s.items.getD (j - 1) default).id < (s.items.getD j default).id}) (fun p => ⟨[(1, .pb 1001 0), (3, .t (.v (.int .i64 p.1)))], [(1001, some (.box ((Dx s).map .t)))]⟩) (fun p => s.items.length - p.1) ⟨0, by simp, by simp, by simp⟩ rfl ?_ ?_
 ·simp -implicitDefEqProofs only [go_sem, hh, seval]
  try simp
 ·rintro ⟨i, hi, hall, hasc⟩
  by_cases hlt : (i : Int) < s.items.length
  ·simp -implicitDefEqProofs only [hlt, decide_true, go_sem, hh, seval]
   with_reducible repeat' (first | apply ai | intro _ | ((first | apply s1 | apply s3 | apply s4) <;> intro hb <;> simp -implicitDefEqProofs only [hb, go_sem, hh, seval] <;> try simp only [qz] at hb))
   all_goals (try simp only [maxLen, tn, lm] at *)
   all_goals first | rfl | omega | skip
   all_goals (try rw [show ((i : Int) - 1).toNat = i - 1 from by omega] at hb)
   all_goals first
    | (rw [AN (fun h => by have h1 := h.1 _ (AF (xs := s.items) (j := i) (by omega)); first | exact hb h1.1 | omega)]; done)
    | (rw [AN (fun h => by have h1 := h.2.1 i (by omega) (by omega); omega)]; done)
    | skip
   all_goals
    refine ⟨⟨i + 1, by omega, DL (P := fun x : Im => Dr x ∧ x.id ≤ s.last) hall ⟨by assumption, by omega⟩, fun j h0 hj => ?_⟩, by dsimp only; omega, ?_⟩
    ·by_cases e : j = i
     ·subst e; omega
     ·exact hasc j h0 (by omega)
    ·simp -implicitDefEqProofs only [go_sem, hh, seval]
     try simp
  ·simp -implicitDefEqProofs only [hlt, decide_false, go_sem, hh, seval]
   with_reducible repeat' (first | apply ai | intro _ | ((first | apply s1 | apply s3 | apply s4) <;> intro hb <;> simp -implicitDefEqProofs only [hb, go_sem, hh, seval] <;> try simp only [qz] at hb))
   all_goals (try simp only [maxLen, tn, lm] at *)
   all_goals first | rfl | omega | skip
   ·refine congrArg (fun b => T.v (Value.bool b)) ?_
    rw [← BR, AR]
    exact ⟨fun h => ⟨BO fun j hj => hall j (by omega), fun j h0 hj => hasc j h0 (by omega), hb, by omega⟩, fun h => by have := h.2.2.2; omega⟩
   ·rw [AN (fun h => hb h.2.2.1)]
end
def kF : Ct := Ak (lc N4.ag (lc BF l0)) (fun p => True) (fun p => .t (.v (.int .i64 (BI (fun x : Im => x.id = p.2.1) 0 p.1.items))))
section
attribute [local go_sem] lm
theorem qq {G : Gt} (hG : Ah G) : Gd G 38 (AA 0 kF) := by
 refine gr (fn := Tryz.f38) (n := 2) rfl rfl hG ?_
 rintro ⟨s, n, ⟨⟩⟩ hpre
 simp -implicitDefEqProofs only [Tryz.f38, go_sem, seval] at hpre ⊢
 refine AE [] (ι := {i : Nat // i ≤ s.items.length ∧ BI (fun x : Im => x.id = n) 0 s.items = BI (fun x : Im => x.id = n) i (s.items.drop i)}) (fun p => ⟨[(1, .t (.v (.int .i64 n))), (2, .pb 1002 0), (5, .t (.v (.int .i64 p.1)))], [(1002, some (.box ((Dx s).map .t)))]⟩) (fun p => s.items.length - p.1) ⟨0, by simp, rfl⟩ rfl ?_ ?_
 ·simp -implicitDefEqProofs only [go_sem, seval]
  try simp
 ·rintro ⟨i, hi, hix⟩
  simp -implicitDefEqProofs only [go_sem, seval]
  with_reducible repeat' (first | apply ai | intro _ | ((first | apply s1 | apply s3 | apply s4) <;> intro hb <;> simp -implicitDefEqProofs only [hb, go_sem, seval] <;> try simp only [qz] at hb))
  all_goals (try simp only [maxLen, tn, lm] at *)
  all_goals first | rfl | omega | skip
  ·rw [hix, DH (p := fun x : Im => x.id = n) (by omega) hb]
  ·refine ⟨⟨i + 1, by omega, by rw [hix, EV (p := fun x : Im => x.id = n) (by omega) hb]⟩, by dsimp only; omega, ?_⟩
   simp -implicitDefEqProofs only [go_sem, seval]
   try simp
  ·rw [hix, DG (by omega)]
end
def oT : Ct := Ak (lc Iz.ag (lc DQ.ag l0)) (fun p => True) (fun p => .t (.v (.int .i64 (BI (fun r : Rc => r.addr = p.2.1) 0 p.1.to))))
section
attribute [local go_sem] lm
theorem hP {G : Gt} (hG : Ah G) : Gd G 201 (AA 0 oT) := by
 refine gr (fn := Tryz.f201) (n := 2) rfl rfl hG ?_
 rintro ⟨x, a, ⟨⟩⟩ hpre
 simp -implicitDefEqProofs only [Tryz.f201, go_sem, seval] at hpre ⊢
 refine AE [] (ι := {i : Nat // i ≤ x.to.length ∧ BI (fun r : Rc => r.addr = a) 0 x.to = BI (fun r : Rc => r.addr = a) i (x.to.drop i)}) (fun p => ⟨[(2, .pb 1002 0), (3, .pb 1003 0), (5, .t (.v (.int .i64 p.1)))], [(1002, some (.box ((An x).map .t))), (1003, some (.box ((Am a).map .t)))]⟩) (fun p => x.to.length - p.1) ⟨0, by simp, rfl⟩ rfl ?_ ?_
 ·simp -implicitDefEqProofs only [go_sem, seval]
  try simp
 ·rintro ⟨i, hi, hix⟩
  simp -implicitDefEqProofs only [go_sem, seval]
  with_reducible repeat' (first | apply ai | intro _ | ((first | apply s1 | apply s3 | apply s4) <;> intro hb <;> simp -implicitDefEqProofs only [hb, go_sem, seval] <;> try simp only [qz] at hb))
  all_goals (try simp only [maxLen, tn, lm] at *)
  all_goals first | rfl | omega | skip
  ·rw [hix, DH (p := fun r : Rc => r.addr = a) (by omega) (CA.2 (by simpa using hb))]
  ·refine ⟨⟨i + 1, by omega, by rw [hix, EV (p := fun r : Rc => r.addr = a) (by omega) (sJ hb)]⟩, by dsimp only; omega, ?_⟩
   simp -implicitDefEqProofs only [go_sem, seval]
   try simp
  ·rw [hix, DG (by omega)]
end
def RH : Ct := Ak (lc Iz.ag l0) (fun p => FY p.1) (fun p => sd p.1)
section
attribute [local go_sem] lm List.map_nil List.length_nil List.nil_append Nat.zero_add
theorem f6 {G : Gt} (hG : Ah G) : Gd G 149 (AA 0 RH) := by
 refine gr (fn := Tryz.f149) (n := 1) rfl rfl hG ?_ (hs := fun _ p => SM _)
 rintro ⟨x, ⟨⟩⟩ hpre
 simp -implicitDefEqProofs only [Tryz.f149, go_sem, seval] at hpre ⊢
 obtain ⟨_, ⟨h1, _⟩, ⟨h2, _⟩⟩ := hpre
 with_reducible repeat' (first | apply ai | intro _ | ((first | apply s1 | apply s3 | apply s4) <;> intro hb <;> simp -implicitDefEqProofs only [hb, go_sem, seval] <;> try simp only [qz] at hb))
 all_goals (try simp only [maxLen, lm, List.length_nil] at *)
 all_goals first | rfl | omega | (simp_all; done) | skip
end
def Y0 : Ct := Ak (lc N4.ag l0) (fun p => FR p.1) (fun p => SO p.1)
section
attribute [local go_sem] RH lm List.length_append List.length_cons List.length_nil List.map_append List.mem_singleton forall_eq AS.nilb AS.renb Bool.not_false Bool.not_true List.set_cons_zero List.set_cons_succ List.set_nil
set_option maxHeartbeats 1600000 in
theorem fT {G : Gt} (hG : Ah G) (hh : G.e 149 = AA 0 RH) : Gd G 118 (AA 0 Y0) := by
 refine Lo (dp := fun n => !(Nat.beq n 100002 || Nat.beq n 100004)) (fn := Tryz.f118) (n := 1) rfl rfl hG ?_ (hs := fun _ p => HL _)
 rintro ⟨s, ⟨⟩⟩ hpre
 simp -implicitDefEqProofs only [Tryz.f118, go_sem, hh, seval] at hpre ⊢
 have hpre' : GY FY s.items := hpre
 with_reducible repeat' (first | apply ai | intro _ | ((first | apply s1 | apply s3 | apply s4) <;> intro hb <;> simp -implicitDefEqProofs only [hb, go_sem, hh, seval] <;> try simp only [qz] at hb))
 all_goals first | rfl | skip
 refine Ag (Le.nilb 1003 1 1901 true 5 rfl rfl rfl) (AY ?_)
 simp -implicitDefEqProofs only [go_sem, hh, seval]
 refine AE [] (ι := {i : Nat // i ≤ s.items.length}) (fun p => ⟨[(1, .pb 1001 0), (2, .pb 1002 0), (3, .pb 1003 0), (4, .t (.v (.int .i64 p.1)))], [(1001, some (.box ((Dx s).map .t))), (1002, some (.box [.t (.v (.int .i64 0)), .nil])), (1003, some (.box [.t (.v (.int .i64 s.last)), .h 1901])), (1901, some (.arr true 5 ((s.items.take p.1).map An)))]⟩) (fun p => s.items.length - p.1) ⟨0, by simp⟩ rfl ?_ ?_
 ·simp -implicitDefEqProofs only [go_sem, hh, seval]
  try simp
 ·rintro ⟨i, hi⟩
  by_cases hlt : (i : Int) < s.items.length
  ·have hok := hpre'.at (i := i) (by omega)
   have hlen : (s.items.take i).length = i := by simp; omega
   have hmax := hpre'.1
   simp -implicitDefEqProofs only [hlt, decide_true, tn, go_sem, hh, seval]
   with_reducible repeat' (first | apply ai | intro _ | ((first | apply s1 | apply s3 | apply s4) <;> intro hb <;> simp -implicitDefEqProofs only [hb, go_sem, hh, seval] <;> try simp only [qz] at hb))
   all_goals (try simp only [maxLen] at *)
   all_goals first | rfl | omega | assumption | decide | skip
   refine Ag (Le.renb 1003 1 1024 1901 rfl rfl rfl rfl) (AY ?_)
   simp -implicitDefEqProofs only [go_sem, hh, seval]
   with_reducible repeat' (first | apply ai | intro _ | ((first | apply s1 | apply s3 | apply s4) <;> intro hb <;> simp -implicitDefEqProofs only [hb, go_sem, hh, seval] <;> try simp only [qz] at hb))
   all_goals first | rfl | omega | decide | skip
   refine ⟨⟨i + 1, by omega⟩, by dsimp only; omega, ?_⟩
   simp -implicitDefEqProofs only [go_sem, hh, seval]
   simp only [BE An (show i < s.items.length by omega)]
   with_reducible repeat' (first | apply ai | intro _ | ((first | apply s1 | apply s3 | apply s4) <;> intro hb <;> simp -implicitDefEqProofs only [hb, go_sem, hh, seval] <;> try simp only [qz] at hb))
   all_goals first | rfl | (simp; done)
  ·simp -implicitDefEqProofs only [hlt, decide_false, go_sem, hh, seval]
   with_reducible repeat' (first | apply ai | intro _ | ((first | apply s1 | apply s3 | apply s4) <;> intro hb <;> simp -implicitDefEqProofs only [hb, go_sem, hh, seval] <;> try simp only [qz] at hb))
   all_goals first | rfl | omega | skip
   rw [List.take_of_length_le (by omega)]
end
def Id (x : Im) (k : Nat) : Im := ⟨x.id, x.frm, x.to.take k ++ x.to.drop (k + 1), x.body⟩
def Xm (xs : List Im) (i k : Nat) : List Im := if (Id (xs.getD i default) k).to = [] then xs.take i ++ xs.drop (i + 1) else xs.take i ++ (Id (xs.getD i default) k :: xs.drop (i + 1))
def DM (s : Sp) (i k : Nat) : Sp := ⟨s.last, Xm s.items i k⟩
def RI : Ct := Ak (lc N4.ag (lc BF (lc BF l0))) (fun p => FR p.1 ∧ 0 ≤ p.2.1 ∧ p.2.1 < p.1.items.length ∧ 0 ≤ p.2.2.1 ∧ p.2.2.1 < (p.1.items.getD p.2.1.toNat default).to.length) (fun p => .agg ((Dx (DM p.1 p.2.1.toNat p.2.2.1.toNat)).map .t))
section
attribute [local go_sem] RH Ja JT List.take_length List.drop_zero List.length_take List.length_drop lm List.length_append List.length_cons List.length_nil List.map_append List.map_nil List.map_cons List.nil_append Nat.zero_add List.mem_singleton forall_eq Bool.not_true Bool.not_false
set_option maxHeartbeats 1600000 in
theorem gL {G : Gt} (hG : Ah G) (hh : G.e 149 = AA 0 RH) : Gd G 166 (AA 1 RI) := by
 refine Lo (dp := fun n => Nat.ble 100000 n && !(Nat.beq n 100002)) (fn := Tryz.f166) (n := 3) rfl rfl hG ?_
 rintro ⟨s, i, k, ⟨⟩⟩ hpre
 obtain ⟨hok, hi0, hi1, hk0, hk1⟩ := hpre
 dsimp only at hi0 hi1 hk0 hk1 ⊢
 obtain ⟨ni, rfl⟩ := Int.eq_ofNat_of_zero_le hi0
 obtain ⟨nk, rfl⟩ := Int.eq_ofNat_of_zero_le hk0
 have hok' : GY FY s.items := hok
 simp only [tn] at hk1 ⊢
 have hx := hok'.at (i := ni) (by omega)
 have hmax := hok'.1
 have hmx : ((s.items.getD ni default).to.length : Int) ≤ 1048576 := hx.2.1.1
 have hi2 : ni < s.items.length := by omega
 have hk2 : nk < (s.items.getD ni default).to.length := by omega
 have e1 : ((ni : Int) + 1).toNat = ni + 1 := by omega
 have e2 : ((nk : Int) + 1).toNat = nk + 1 := by omega
 simp -implicitDefEqProofs only [Tryz.f166, tn, go_sem, hh, seval]
 with_reducible repeat' (first | apply ai | intro _ | ((first | apply s1 | apply s3 | apply s4) <;> intro hb <;> simp -implicitDefEqProofs only [hb, go_sem, hh, seval] <;> try simp only [qz] at hb))
 all_goals first | rfl | omega | assumption | decide | skip
 refine Ag (Le.frzL [1014]) (AY ?_)
 simp -implicitDefEqProofs only [go_sem, hh, seval]
 with_reducible repeat' (first | apply ai | intro _ | ((first | apply s1 | apply s3 | apply s4) <;> intro hb <;> simp -implicitDefEqProofs only [hb, go_sem, hh, seval] <;> try simp only [qz] at hb))
 all_goals (try simp only [maxLen, e1, e2, tn, List.take_length, List.drop_zero] at *)
 all_goals first | rfl | omega | assumption | decide | skip
 all_goals
  refine congrArg (T.sl 5) ?_
  simp only [DM, Xm]
  first
   | (rw [if_neg (fun e => by have := congrArg List.length e; simp only [Id, List.length_append, List.length_take, List.length_drop, List.length_nil] at this; omega)]; simp [Id, An]; done)
   | (rw [if_pos (List.eq_nil_of_length_eq_zero (by simp only [Id, List.length_append, List.length_take, List.length_drop]; omega))]; simp; done)
   | skip
end
theorem GP {α : Type} (p : α → Prop) : ∀ (xs : List α) (k : Nat), BI p k xs = -1 ∨ ((k : Int) ≤ BI p k xs ∧ BI p k xs < k + xs.length)
 | [], _ => .inl rfl
 | x :: t, k => by
   rw [BI]
   cases BM (p x)
   ·rcases GP p t (k + 1) with h | h
    ·exact .inl h
    ·simp only [cond_false, List.length_cons]; right; omega
   ·simp only [cond_true, List.length_cons]; right; omega
noncomputable def A4 (s : Sp) (n : Int) : Int := BI (fun x : Im => x.id = n) 0 s.items
noncomputable def B8 (x : Im) (a : Ad) : Int := BI (fun r : Rc => r.addr = a) 0 x.to
noncomputable def Az (s : Sp) (n : Int) : Im := s.items.getD (A4 s n).toNat default
open Classical in
noncomputable def TY (s : Sp) (n : Int) (a : Ad) : Sp × Bool :=
 if Bg s then (if A4 s n < 0 then (s, false) else if B8 (Az s n) a < 0 then (s, false) else (DM s (A4 s n).toNat (B8 (Az s n) a).toNat, true)) else (⟨0, []⟩, false)
def jK (p : Sp × Bool) : AV := .tup [.agg ((Dx p.1).map .t), .t (.v (.bool p.2))]
def jH (p : Sp × Bool) : AV := .tup [SO p.1, .t (.v (.bool p.2))]
theorem SN (p : Sp × Bool) : BV (jH p) := .tup _ fun c hc => by
 simp only [List.mem_cons, List.not_mem_nil, or_false] at hc
 rcases hc with rfl | rfl
 ·exact HL _
 ·exact .v _
theorem dT {s : Sp} {n : Int} {a : Ad} (h : Bg s) (hi : ¬ A4 s n < 0) (hk : ¬ B8 (Az s n) a < 0) : TY s n a = (DM s (A4 s n).toNat (B8 (Az s n) a).toNat, true) := by unfold TY; rw [if_pos h, if_neg hi, if_neg hk]
theorem CY {s : Sp} {n : Int} (h : ¬ A4 s n < 0) : 0 ≤ A4 s n ∧ A4 s n < s.items.length := by
 rcases GP (fun x : Im => x.id = n) s.items 0 with h1 | h1
 ·have : A4 s n = -1 := h1
  omega
 ·have : A4 s n < (0 : Nat) + s.items.length := h1.2
  omega
theorem Hf {x : Im} {a : Ad} (h : ¬ B8 x a < 0) : 0 ≤ B8 x a ∧ B8 x a < x.to.length := by
 rcases GP (fun r : Rc => r.addr = a) x.to 0 with h1 | h1
 ·have : B8 x a = -1 := h1
  omega
 ·have : B8 x a < (0 : Nat) + x.to.length := h1.2
  omega
def dE (t : Int) : Int := 2 * 2 ^ (t - 1).toNat
theorem Nt {a b : Nat} (h : a ≤ b) : (2 : Int) ^ a ≤ 2 ^ b := by
 have h1 := Nat.pow_le_pow_right (n := 2) (by omega) h
 have e : ∀ k : Nat, ((2 ^ k : Nat) : Int) = 2 ^ k := fun k => by simp
 rw [← e, ← e]
 omega
theorem bq {t : Int} {m : Nat} (h : t ≤ m + 1) : 2 ≤ dE t ∧ dE t ≤ 2 * 2 ^ m := by
 unfold dE
 have h1 : (2 : Int) ^ (t - 1).toNat ≤ 2 ^ m := Nt (by omega)
 have h2 : (2 : Int) ^ 0 ≤ 2 ^ (t - 1).toNat := Nt (by omega)
 simp only [Int.pow_zero] at h2
 omega
def W5 (r : Rc) (w : Int) : Rc := ⟨r.addr, r.tries + 1, w + dE (r.tries + 1)⟩
def R6 (x : Im) (k : Nat) (w : Int) : Im := ⟨x.id, x.frm, x.to.set k (W5 (x.to.getD k default) w), x.body⟩
def Pw (s : Sp) (i k : Nat) (w : Int) : Sp := ⟨s.last, s.items.set i (R6 (s.items.getD i default) k w)⟩
def Ng (r : Rc) (w : Int) : Prop := r.tries + 1 ≥ 4 ∨ w + dE (r.tries + 1) > 9999
instance (r : Rc) (w : Int) : Decidable (Ng r w) := by unfold Ng; infer_instance
def KD (s : Sp) (i k : Nat) (w : Int) : Sp × Bool := if Ng ((s.items.getD i default).to.getD k default) w then (s, false) else (Pw s i k w, true)
def oH : Ct := Ak (lc BF l0) (fun p => p.1 ≤ 40) (fun p => .t (.v (.int .i64 (dE p.1))))
theorem gc {G : Gt} (hG : Ah G) : Gd G 183 (AA 0 oH) := by
 refine gr (fn := Tryz.f183) (n := 1) rfl rfl hG ?_
 rintro ⟨t, ⟨⟩⟩ hpre
 simp -implicitDefEqProofs only [Tryz.f183, go_sem, seval] at hpre ⊢
 refine AE [] (ι := {j : Nat // j ≤ (t - 1).toNat}) (fun p => ⟨[(0, .t (.v (.int .i64 t))), (3, .t (.v (.int .i64 (2 * 2 ^ p.1)))), (4, .t (.v (.int .i64 (p.1 + 1))))], []⟩) (fun p => (t - 1).toNat - p.1) ⟨0, by simp⟩ rfl ?_ ?_
 ·simp -implicitDefEqProofs only [go_sem, seval]
  try simp
 ·rintro ⟨j, hj⟩
  have hb : (2 : Int) ^ j ≤ 2 ^ 40 := Nt (by omega)
  have hp : (0 : Int) ≤ 2 ^ j := Int.le_of_lt (Int.pow_pos (by omega))
  have h40 : (2 : Int) ^ 40 = 1099511627776 := by decide
  simp -implicitDefEqProofs only [go_sem, seval]
  with_reducible repeat' (first | apply ai | intro _ | ((first | apply s1 | apply s3 | apply s4) <;> intro hb <;> simp -implicitDefEqProofs only [hb, go_sem, seval] <;> try simp only [qz] at hb))
  all_goals first | rfl | omega | skip
  ·refine ⟨⟨j + 1, by omega⟩, by dsimp only; omega, ?_⟩
   simp -implicitDefEqProofs only [go_sem, seval]
   with_reducible repeat' (first | apply ai | intro _ | ((first | apply s1 | apply s3 | apply s4) <;> intro hb <;> simp -implicitDefEqProofs only [hb, go_sem, seval] <;> try simp only [qz] at hb))
   all_goals first | rfl | (simp; omega) | (refine congrArg (fun z => AV.t (T.v (Value.int .i64 z))) ?_; rw [Int.pow_succ]; omega) | (refine congrArg (fun z => AV.t (T.v (Value.int .i64 z))) ?_; simp; done)
  ·rw [show dE t = 2 * 2 ^ j from by unfold dE; rw [show (t - 1).toNat = j from by omega]]
def Y5 : Ct := Ak (lc N4.ag (lc BF (lc BF (lc BF l0)))) (fun p => FR p.1 ∧ Bg p.1 ∧ (0 ≤ p.2.1 ∧ p.2.1 < p.1.items.length) ∧ (0 ≤ p.2.2.1 ∧ p.2.2.1 < (p.1.items.getD p.2.1.toNat default).to.length) ∧ 0 ≤ p.2.2.2.1 ∧ p.2.2.2.1 ≤ 9999) (fun p => jK (KD p.1 p.2.1.toNat p.2.2.1.toNat p.2.2.2.1))
section
attribute [local go_sem] RH oH Ja JT List.take_length List.drop_zero List.length_take List.length_drop lm List.length_append List.length_cons List.length_nil List.map_append List.map_nil List.map_cons List.nil_append Nat.zero_add List.mem_singleton forall_eq Bool.not_true Bool.not_false jK Pw Aa Bd List.length_set
set_option maxHeartbeats 1600000 in
theorem gN {G : Gt} (hG : Ah G) (hh : G.e 149 = AA 0 RH ∧ G.e 183 = AA 0 oH) : Gd G 167 (AA 1 Y5) := by
 refine Lo (dp := fun n => Nat.ble 100000 n) (fn := Tryz.f167) (n := 4) rfl rfl hG ?_
 rintro ⟨s, i, k, w, ⟨⟩⟩ hpre
 dsimp only at hpre ⊢
 obtain ⟨hok, hsp, ⟨hi0, hi1⟩, ⟨hk0, hk1⟩, hw0, hw1⟩ := hpre
 obtain ⟨ni, rfl⟩ := Int.eq_ofNat_of_zero_le hi0
 obtain ⟨nk, rfl⟩ := Int.eq_ofNat_of_zero_le hk0
 have hok' : GY FY s.items := hok
 simp only [tn] at hk1 ⊢
 have hx := hok'.at (i := ni) (by omega)
 have hmax := hok'.1
 have hmx : ((s.items.getD ni default).to.length : Int) ≤ 1048576 := hx.2.1.1
 have hi2 : ni < s.items.length := by omega
 have hk2 : nk < (s.items.getD ni default).to.length := by omega
 have hk3 : nk < ((s.items.getD ni default).to.map BN).length := by rw [lm]; exact hk2
 have hr := (hsp.1 _ (AF hi2)).1.1 _ (AF hk2)
 obtain ⟨_, ⟨ht0, ht1⟩, _⟩ := hr
 obtain ⟨hp0, hp1⟩ := bq (t := ((s.items.getD ni default).to.getD nk default).tries + 1) (m := 3) (by omega)
 have h8 : (2 : Int) * 2 ^ 3 = 16 := by decide
 by_cases hno : Ng ((s.items.getD ni default).to.getD nk default) w
 ·unfold KD
  rw [if_pos hno]
  rcases hno with hno | hno
  ·simp -implicitDefEqProofs only [Tryz.f167, tn, hno, decide_true, go_sem, hh, seval]
   with_reducible repeat' (first | apply ai | intro _ | ((first | apply s1 | apply s3 | apply s4) <;> intro hb <;> simp -implicitDefEqProofs only [hb, go_sem, hh, seval] <;> try simp only [qz] at hb))
   all_goals first | rfl | omega | assumption | decide | skip
   all_goals trace_state
  ·simp -implicitDefEqProofs only [Tryz.f167, tn, hno, decide_true, go_sem, hh, seval]
   with_reducible repeat' (first | apply ai | intro _ | ((first | apply s1 | apply s3 | apply s4) <;> intro hb <;> simp -implicitDefEqProofs only [hb, go_sem, hh, seval] <;> try simp only [qz] at hb))
   all_goals first | rfl | omega | assumption | decide | skip
   all_goals trace_state
 ·unfold KD
  rw [if_neg hno]
  have hno1 : ¬ ((s.items.getD ni default).to.getD nk default).tries + 1 ≥ 4 := fun h => hno (.inl h)
  have hno2 : ¬ w + dE (((s.items.getD ni default).to.getD nk default).tries + 1) > 9999 := fun h => hno (.inr h)
  simp -implicitDefEqProofs only [Tryz.f167, tn, Oi hk3, hno1, hno2, decide_false, go_sem, hh, seval]
  with_reducible repeat' (first | apply ai | intro _ | ((first | apply s1 | apply s3 | apply s4) <;> intro hb <;> simp -implicitDefEqProofs only [hb, go_sem, hh, seval] <;> try simp only [qz] at hb))
  all_goals first | rfl | omega | assumption | decide | skip
  refine congrArg (T.sl 5) ?_
  rw [sn, sm]
  rfl
end
section
variable {s : Sp} {n : Int} {a : Ad} {w : Int}
end
theorem M8 {s : AS} {K : Kt} : Tn [] false s K = (K (.t (.v (.bool true))) s ∧ K (.t (.v (.bool false))) s) := propext ⟨fun h => ⟨h.1 rfl, h.2⟩, fun h => ⟨fun _ => h.1, h.2⟩⟩
theorem M7 {e : List T} {es : List (List T)} {s : AS} {K : Kt} : Tn (e :: es) false s K = K (.t (.v (.bool false))) s := propext ⟨fun h => h.2, fun h => ⟨fun e => (by cases e), h⟩⟩
theorem Xb {xs : List Rc} {i : Nat} (h : i < xs.length) : ((xs.map Rc.addr).take (i + 1)).map Am = ((xs.map Rc.addr).take i).map Am ++ [[.v (.string (xs.getD i default).addr.user), .v (.string (xs.getD i default).addr.domain)]] := by
 have e : (xs.map Rc.addr).getD i default = (xs.getD i default).addr := by
  simp only [List.getD_eq_getElem?_getD, List.getElem?_map, List.getElem?_eq_getElem h, Option.map_some, Option.getD_some]
 rw [BE Am (by rw [lm]; exact h), e]
 rfl
def tc : Ct := Ak (lc BF l0) (fun p => True) (fun p => .t (.v (.bool (BM (0 ≤ p.1 ∧ p.1 ≤ 9999)))))
section
attribute [local go_sem] Xl
theorem rI {G : Gt} (hG : Ah G) (hh : G.e 48 = AA 0 Xl) : Gd G 60 (AA 0 tc) := by
 refine gr (fn := Tryz.f60) (n := 1) rfl rfl hG ?_
 rintro ⟨n, ⟨⟩⟩ hpre
 simp -implicitDefEqProofs only [Tryz.f60, go_sem, hh, seval] at hpre ⊢
 with_reducible repeat' (first | apply ai | intro _ | ((first | apply s1 | apply s3 | apply s4) <;> intro hb <;> simp -implicitDefEqProofs only [hb, go_sem, hh, seval] <;> try simp only [qz] at hb))
 all_goals first | rfl | skip
end
def nS : Ct := Ak (lc Iz.ag l0) (fun p => FY p.1) (fun p => .t (.v (.bool (BM (Dr p.1)))))
section
attribute [local go_sem] cz Xl tc o0 uX c8 Ja JT List.take_length List.drop_zero List.length_take List.length_drop lm List.length_append List.length_cons List.length_nil List.map_append List.map_nil List.map_cons List.nil_append Nat.zero_add List.mem_singleton forall_eq Bool.not_true Bool.not_false AX AW
set_option maxHeartbeats 1600000 in
theorem fb {G : Gt} (hG : Ah G) (hh : G.e 44 = AA 0 cz ∧ G.e 48 = AA 0 Xl ∧ G.e 60 = AA 0 tc ∧ G.e 47 = AA 0 o0 ∧ G.e 50 = AA 0 uX ∧ G.e 51 = AA 0 c8) : Gd G 126 (AA 0 nS) := by
 refine gr (fn := Tryz.f126) (n := 1) rfl rfl hG ?_
 rintro ⟨x, ⟨⟩⟩ hpre
 simp -implicitDefEqProofs only [Tryz.f126, go_sem, hh, seval] at hpre ⊢
 obtain ⟨⟨_, hfd⟩, ⟨hl1, hto⟩, ⟨hl2, hbd⟩⟩ := hpre
 have hfd' : x.frm.domain.size ≤ 2000000 := by have : x.frm.domain.size ≤ 1048576 := hfd; omega
 have hbd' : ∀ s ∈ x.body, s.size ≤ 2000000 := fun s hs => by have : s.size ≤ 1048576 := hbd s hs; omega
 have hto' : ∀ j, j < x.to.length → (x.to.getD j default).addr.domain.size ≤ 2000000 := fun j hj => by have : (x.to.getD j default).addr.domain.size ≤ 1048576 := (hto _ (AF hj)).2; omega
 with_reducible repeat' (first | apply ai | intro _ | ((first | apply s1 | apply s3 | apply s4) <;> intro hb <;> simp -implicitDefEqProofs only [hb, go_sem, hh, seval] <;> try simp only [qz] at hb))
 all_goals first | rfl | skip
 refine AE [(3, 1903, true, 2)] (ι := {i : Nat // i ≤ x.to.length ∧ ∀ j, j < i → OX (x.to.getD j default)}) (fun p => ⟨[(1, .pb 1001 0), (3, .h 1903), (7, .t (.sl 4 (x.to.map BN))), (8, .t (.v (.int .i64 x.to.length))), (9, .t (.v (.int .i64 p.1)))], [(1001, some (.box ((An x).map .t))), (1903, some (.arr true 2 (((x.to.map Rc.addr).take p.1).map Am)))]⟩) (fun p => x.to.length - p.1) ⟨0, by simp, by simp⟩ rfl ?_ ?_
 ·simp -implicitDefEqProofs only [go_sem, hh, seval]
  try simp
 ·rintro ⟨i, hi, hall⟩
  by_cases hlt : (i : Int) < x.to.length
  ·have hd := hto' i (by omega)
   have hlen : ((x.to.map Rc.addr).take i).length = i := by simp; omega
   simp -implicitDefEqProofs only [hlt, decide_true, tn, go_sem, hh, seval]
   with_reducible repeat' (first | apply ai | intro _ | ((first | apply s1 | apply s3 | apply s4) <;> intro hb <;> simp -implicitDefEqProofs only [hb, go_sem, hh, seval] <;> try simp only [qz] at hb))
   all_goals (try simp only [maxLen] at *)
   all_goals first | rfl | omega | assumption | decide | skip
   all_goals first
    | (rw [AN (fun h => by have h1 := h.1 _ (AF (xs := x.to) (j := i) (by omega)); first | exact hb h1.1 | exact hb h1.2.1 | exact hb h1.2.2)]; done)
    | skip
   refine ⟨⟨i + 1, by omega, DL (P := OX) hall ⟨by assumption, by assumption, by assumption⟩⟩, by dsimp only; omega, ?_⟩
   simp -implicitDefEqProofs only [go_sem, hh, seval]
   simp only [Xb (show i < x.to.length by omega)]
   with_reducible repeat' (first | apply ai | intro _ | ((first | apply s1 | apply s3 | apply s4) <;> intro hb <;> simp -implicitDefEqProofs only [hb, go_sem, hh, seval] <;> try simp only [qz] at hb))
   all_goals first | rfl | (simp; done) | (simp; omega)
  ·have hA : ∀ r ∈ x.to, OX r := BO fun j hj => hall j (by omega)
   simp -implicitDefEqProofs only [hlt, decide_false, go_sem, hh, seval]
   with_reducible repeat' (first | apply ai | intro _ | ((first | apply s1 | apply s3 | apply s4) <;> intro hb <;> simp -implicitDefEqProofs only [hb, go_sem, hh, seval] <;> try simp only [qz] at hb))
   all_goals (try simp only [maxLen] at *)
   all_goals first | rfl | omega | assumption | decide | exact hbd' _ (by assumption) | skip
   all_goals (try rw [List.take_of_length_le (by rw [lm]; omega)] at hb)
   all_goals first
    | (rw [AR]
       exact ⟨fun h => ⟨hA, hb, by assumption, by assumption, by omega, h⟩, fun h => h.2.2.2.2.2⟩)
    | (rw [AN]
       intro h
       first
        | exact hb h.2.1
        | exact hb h.2.2.1
        | exact hb h.2.2.2.1
        | exact hb (by have := h.2.2.2.2.1; omega))
    | skip
end
def pC : Ct := Ak (lc N4.ag l0) (fun p => FR p.1) (fun p => .t (.v (.bool (BM (Bg p.1)))))
section
attribute [local go_sem] nS Xl Ja JT List.take_length List.drop_zero List.length_take List.length_drop lm List.length_append List.length_cons List.length_nil List.map_append List.map_nil List.map_cons List.nil_append Nat.zero_add List.mem_singleton forall_eq Bool.not_true Bool.not_false AX AW
set_option maxHeartbeats 1600000 in
theorem rW {G : Gt} (hG : Ah G) (hh : G.e 126 = AA 0 nS ∧ G.e 48 = AA 0 Xl) : Gd G 74 (AA 0 pC) := by
 refine gr (fn := Tryz.f74) (n := 1) rfl rfl hG ?_
 rintro ⟨s, ⟨⟩⟩ hpre
 simp -implicitDefEqProofs only [Tryz.f74, go_sem, hh, seval] at hpre ⊢
 have hok' : GY FY s.items := hpre
 have hmx := hok'.1
 with_reducible repeat' (first | apply ai | intro _ | ((first | apply s1 | apply s3 | apply s4) <;> intro hb <;> simp -implicitDefEqProofs only [hb, go_sem, hh, seval] <;> try simp only [qz] at hb))
 all_goals first | rfl | skip
 refine AE [] (ι := {i : Nat // i ≤ s.items.length ∧ (∀ j, j < i → Dr (s.items.getD j default) ∧ (s.items.getD j default).id ≤ s.last) ∧ ∀ j, 0 < j → j < i → (s.items.getD (j - 1) default).id < (s.items.getD j default).id}) (fun p => ⟨[(1, .pb 1001 0), (3, .t (.v (.int .i64 (if p.1 = 0 then 0 else (s.items.getD (p.1 - 1) default).id)))), (7, .t (.sl 5 (s.items.map An))), (8, .t (.v (.int .i64 s.items.length))), (9, .t (.v (.int .i64 p.1)))], [(1001, some (.box ((Dx s).map .t)))]⟩) (fun p => s.items.length - p.1) ⟨0, by simp, by simp, by simp⟩ rfl ?_ ?_
 ·simp -implicitDefEqProofs only [go_sem, hh, seval]
  try simp
 ·rintro ⟨i, hi, hall, hasc⟩
  have hgen : ∀ L : Int, L = (if i = 0 then 0 else (s.items.getD (i - 1) default).id) → True := fun _ _ => trivial
  obtain ⟨L, hL⟩ : ∃ L : Int, L = (if i = 0 then 0 else (s.items.getD (i - 1) default).id) := ⟨_, rfl⟩
  by_cases hlt : (i : Int) < s.items.length
  ·have hok := hok'.at (i := i) (by omega)
   dsimp only
   rw [← hL]
   simp -implicitDefEqProofs only [hlt, decide_true, tn, go_sem, hh, seval]
   with_reducible repeat' (first | apply ai | intro _ | ((first | apply s1 | apply s3 | apply s4) <;> intro hb <;> simp -implicitDefEqProofs only [hb, go_sem, hh, seval] <;> try simp only [qz] at hb))
   all_goals (try simp only [maxLen] at *)
   all_goals first | rfl | omega | assumption | decide | skip
   all_goals (try have h0 := (show Dr (s.items.getD i default) from by assumption).2.2.1)
   all_goals first
    | (rw [AN]
       intro h
       have h1 := h.1 _ (AF (xs := s.items) (j := i) (by omega))
       first
        | exact hb h1.1
        | omega
        | (by_cases e : i = 0
           ·rw [if_pos e] at hL; omega
           ·rw [if_neg e] at hL
            have h2 := h.2.1 i (by omega) (by omega)
            omega))
    | skip
   refine ⟨⟨i + 1, by omega, DL (P := fun x : Im => Dr x ∧ x.id ≤ s.last) hall ⟨by assumption, by omega⟩, fun j h0 hj => ?_⟩, by dsimp only; omega, ?_⟩
   ·by_cases e : j = i
    ·subst e
     rw [if_neg (by omega)] at hL
     omega
    ·exact hasc j h0 (by omega)
   ·simp -implicitDefEqProofs only [go_sem, hh, seval]
    try simp
  ·dsimp only
   rw [← hL]
   simp -implicitDefEqProofs only [hlt, decide_false, go_sem, hh, seval]
   with_reducible repeat' (first | apply ai | intro _ | ((first | apply s1 | apply s3 | apply s4) <;> intro hb <;> simp -implicitDefEqProofs only [hb, go_sem, hh, seval] <;> try simp only [qz] at hb))
   all_goals (try simp only [maxLen] at *)
   all_goals first | rfl | omega | assumption | decide | skip
   ·refine congrArg (fun b => T.v (Value.bool b)) ?_
    rw [← BR, AR]
    exact ⟨fun h => ⟨BO fun j hj => hall j (by omega), fun j h0 hj => hasc j h0 (by omega), hb, by omega⟩, fun h => by have := h.2.2.2; omega⟩
   ·rw [AN (fun h => hb h.2.2.1)]
end
def nu : Ct := Ak (lc WF.asl l0) (fun p => (p.1.length : Int) ≤ 1048576) (fun p => .o true 4 (p.1.map BN))
section
attribute [local go_sem] M8 M7 lm List.nil_append List.map_nil List.map_cons List.length_cons List.length_nil
theorem f0 {G : Gt} (hG : Ah G) : Gd G 147 (AA 0 nu) := by
 refine gr (fn := Tryz.f147) (n := 1) rfl rfl hG ?_ (hs := fun _ _ => .deep _ _)
 rintro ⟨xs, ⟨⟩⟩ hpre
 dsimp only at hpre ⊢
 cases xs with
 | nil =>
   simp -implicitDefEqProofs only [Tryz.f147, go_sem, seval]
   with_reducible repeat' (first | apply ai | intro _ | ((first | apply s1 | apply s3 | apply s4) <;> intro hb <;> simp -implicitDefEqProofs only [hb, go_sem, seval] <;> try simp only [qz] at hb))
   all_goals (try simp only [maxLen, lm] at *)
   all_goals first | rfl | omega | exact of_eq_true (Jo []) | (simp; done) | skip
 | cons x xs =>
   simp only [List.length_cons] at hpre
   simp -implicitDefEqProofs only [Tryz.f147, go_sem, seval]
   with_reducible repeat' (first | apply ai | intro _ | ((first | apply s1 | apply s3 | apply s4) <;> intro hb <;> simp -implicitDefEqProofs only [hb, go_sem, seval] <;> try simp only [qz] at hb))
   all_goals (try simp only [maxLen, lm] at *)
   all_goals first | rfl | omega | exact of_eq_true (Jo (x :: xs)) | exact of_eq_true (R3 (x :: xs)) _ (by assumption) | (simp; done) | skip
end
def cx : Ct := Ak (lc Al.asl l0) (fun p => (p.1.length : Int) ≤ 1048576) (fun p => .o true 1 (p.1.map AG))
section
attribute [local go_sem] M8 M7 lm List.nil_append List.map_nil List.map_cons List.length_cons List.length_nil
theorem qn {G : Gt} (hG : Ah G) : Gd G 35 (AA 0 cx) := by
 refine gr (fn := Tryz.f35) (n := 1) rfl rfl hG ?_ (hs := fun _ _ => .deep _ _)
 rintro ⟨xs, ⟨⟩⟩ hpre
 dsimp only at hpre ⊢
 cases xs with
 | nil =>
   simp -implicitDefEqProofs only [Tryz.f35, go_sem, seval]
   with_reducible repeat' (first | apply ai | intro _ | ((first | apply s1 | apply s3 | apply s4) <;> intro hb <;> simp -implicitDefEqProofs only [hb, go_sem, seval] <;> try simp only [qz] at hb))
   all_goals (try simp only [maxLen, lm] at *)
   all_goals first | rfl | omega | exact of_eq_true (HP []) | (simp; done) | skip
 | cons x xs =>
   simp only [List.length_cons] at hpre
   simp -implicitDefEqProofs only [Tryz.f35, go_sem, seval]
   with_reducible repeat' (first | apply ai | intro _ | ((first | apply s1 | apply s3 | apply s4) <;> intro hb <;> simp -implicitDefEqProofs only [hb, go_sem, seval] <;> try simp only [qz] at hb))
   all_goals (try simp only [maxLen, lm] at *)
   all_goals first | rfl | omega | exact of_eq_true (HP (x :: xs)) | exact of_eq_true (Nf (x :: xs)) _ (by assumption) | (simp; done) | skip
end
def Yy : Ct := Ak (lc N4.ag l0) (fun p => FR p.1) (fun p => SO p.1)
section
attribute [local go_sem] nu cx lm List.length_append List.length_cons List.length_nil List.map_append List.mem_singleton forall_eq AS.nilb AS.renb Bool.not_false Bool.not_true List.set_cons_zero List.set_cons_succ List.set_nil
set_option maxHeartbeats 1600000 in
theorem fP {G : Gt} (hG : Ah G) (hh : G.e 147 = AA 0 nu ∧ G.e 35 = AA 0 cx) : Gd G 114 (AA 0 Yy) := by
 refine gr (fn := Tryz.f114) (n := 1) rfl rfl hG ?_ (hs := fun _ p => HL _)
 rintro ⟨s, ⟨⟩⟩ hpre
 simp -implicitDefEqProofs only [Tryz.f114, go_sem, hh, seval] at hpre ⊢
 have hok' : GY FY s.items := hpre
 have hmx := hok'.1
 with_reducible repeat' (first | apply ai | intro _ | ((first | apply s1 | apply s3 | apply s4) <;> intro hb <;> simp -implicitDefEqProofs only [hb, go_sem, hh, seval] <;> try simp only [qz] at hb))
 all_goals first | rfl | skip
 refine AE [(3, 1903, true, 5)] (ι := {i : Nat // i ≤ s.items.length}) (fun p => ⟨[(1, .pb 1001 0), (2, .pb 1002 0), (3, .h 1903), (7, .t (.sl 5 (s.items.map An))), (8, .t (.v (.int .i64 s.items.length))), (9, .t (.v (.int .i64 p.1)))], [(1001, some (.box ((Dx s).map .t))), (1002, some (.box [.t (.v (.int .i64 0)), .nil])), (1903, some (.arr true 5 ((s.items.take p.1).map An)))]⟩) (fun p => s.items.length - p.1) ⟨0, by simp⟩ rfl ?_ ?_
 ·simp -implicitDefEqProofs only [go_sem, hh, seval]
  try simp
 ·rintro ⟨i, hi⟩
  by_cases hlt : (i : Int) < s.items.length
  ·have hok := hok'.at (i := i) (by omega)
   obtain ⟨_, ⟨hl1, _⟩, ⟨hl2, _⟩⟩ := hok
   have hlen : (s.items.take i).length = i := by simp; omega
   simp -implicitDefEqProofs only [hlt, decide_true, tn, go_sem, hh, seval]
   with_reducible repeat' (first | apply ai | intro _ | ((first | apply s1 | apply s3 | apply s4) <;> intro hb <;> simp -implicitDefEqProofs only [hb, go_sem, hh, seval] <;> try simp only [qz] at hb))
   all_goals (try simp only [maxLen] at *)
   all_goals first | rfl | omega | assumption | decide | skip
   refine ⟨⟨i + 1, by omega⟩, by dsimp only; omega, ?_⟩
   simp -implicitDefEqProofs only [go_sem, hh, seval]
   simp only [BE An (show i < s.items.length by omega)]
   with_reducible repeat' (first | apply ai | intro _ | ((first | apply s1 | apply s3 | apply s4) <;> intro hb <;> simp -implicitDefEqProofs only [hb, go_sem, hh, seval] <;> try simp only [qz] at hb))
   all_goals first | rfl | (simp; done) | skip
  ·simp -implicitDefEqProofs only [hlt, decide_false, go_sem, hh, seval]
   with_reducible repeat' (first | apply ai | intro _ | ((first | apply s1 | apply s3 | apply s4) <;> intro hb <;> simp -implicitDefEqProofs only [hb, go_sem, hh, seval] <;> try simp only [qz] at hb))
   all_goals (try simp only [maxLen] at *)
   all_goals first | rfl | omega | assumption | decide | skip
   rw [List.take_of_length_le (by omega)]
end
theorem uT {p : Prop} (h : p) : T.v (Value.bool true) = T.v (Value.bool (BM p)) := by rw [Ae h]
theorem uF {p : Prop} (h : ¬ p) : T.v (Value.bool false) = T.v (Value.bool (BM p)) := by rw [AN h]
theorem uE {p q : Prop} (h : p ↔ q) : T.v (Value.bool (BM p)) = T.v (Value.bool (BM q)) := by rw [AR h]
theorem uN {p q : Prop} (h : ¬ p ↔ q) : T.v (Value.bool (!BM p)) = T.v (Value.bool (BM q)) := by rw [E8, AR h]
theorem uB {b : Bool} {q : Prop} (h : b = true ↔ q) : T.v (Value.bool b) = T.v (Value.bool (BM q)) := by
 cases b
 ·exact uF (fun q => by have := h.2 q; simp at this)
 ·exact uT (h.1 rfl)
theorem uD {p q : Prop} [Decidable p] (h : p ↔ q) : T.v (Value.bool (decide p)) = T.v (Value.bool (BM q)) := by rw [← BR, AR h]
def Em (a b : ByteArray) : Int := Lib.compareBytes (bl a) (bl b)
theorem ZC : ∀ a b : List UInt8, (Lib.compareBytes a b < 0) ↔ Op.bytesLess a b = true
 | [], [] => by simp [Lib.compareBytes, Op.bytesLess]
 | [], _ :: _ => by simp [Lib.compareBytes, Op.bytesLess]
 | _ :: _, [] => by simp [Lib.compareBytes, Op.bytesLess]
 | a :: x, b :: y => by
   have ih := ZC x y
   simp only [Lib.compareBytes, Op.bytesLess, Bool.or_eq_true, Bool.and_eq_true, decide_eq_true_eq, beq_iff_eq]
   by_cases h1 : a < b
   ·simp [h1]
   ·by_cases h2 : b < a
    ·have h3 : ¬ a = b := fun e => by subst e; exact absurd h2 (UInt8.lt_irrefl _)
     simp [h1, h2, h3]
    ·have h3 : a = b := UInt8.le_antisymm (UInt8.not_lt.1 h2) (UInt8.not_lt.1 h1)
     have hir := UInt8.lt_irrefl b
     simp only [h3, hir, if_false, false_or, true_and]
     exact ih
theorem kM : ∀ a b : List UInt8, (Lib.compareBytes a b = 0) ↔ a = b
 | [], [] => by simp [Lib.compareBytes]
 | [], _ :: _ => by simp [Lib.compareBytes]
 | _ :: _, [] => by simp [Lib.compareBytes]
 | a :: x, b :: y => by
   have ih := kM x y
   simp only [Lib.compareBytes, List.cons.injEq]
   by_cases h1 : a < b
   ·have h3 : ¬ a = b := fun e => by subst e; exact absurd h1 (UInt8.lt_irrefl _)
    simp [h1, h3]
   ·by_cases h2 : b < a
    ·have h3 : ¬ a = b := fun e => by subst e; exact absurd h2 (UInt8.lt_irrefl _)
     simp [h1, h2, h3]
    ·have h3 : a = b := UInt8.le_antisymm (UInt8.not_lt.1 h2) (UInt8.not_lt.1 h1)
     simp only [h3, true_and]
     rw [if_neg (UInt8.lt_irrefl b), if_neg (UInt8.lt_irrefl b)]
     exact ih
theorem NI (a b : ByteArray) : Em a b < 0 ↔ Ey a b = true := by
 unfold Em Ey
 rw [ZC, GW, GW]
theorem G9 (a b : ByteArray) : Em a b = 0 ↔ a = b := by
 unfold Em
 rw [kM]
 exact ⟨FA, fun e => by rw [e]⟩
def YS (a b : Ad) : Prop := Ey a.domain b.domain = true ∨ (a.domain = b.domain ∧ Ey a.user b.user = true)
def Jt (a b : Ad) : Int := if Em a.domain b.domain = 0 then Em a.user b.user else Em a.domain b.domain
theorem IW (a b : Ad) : Jt a b < 0 ↔ YS a b := by
 unfold Jt YS
 by_cases h : Em a.domain b.domain = 0
 ·rw [if_pos h, NI]
  have h2 : ¬ Ey a.domain b.domain = true := fun q => by have := (NI _ _).2 q; omega
  exact ⟨fun q => .inr ⟨(G9 _ _).1 h, q⟩, fun q => q.elim (fun q => absurd q h2) fun q => q.2⟩
 ·rw [if_neg h, NI]
  exact ⟨.inl, fun q => q.elim id fun q => absurd ((G9 _ _).2 q.1) h⟩
def sb : List Int → Int
 | [] => 0
 | x :: r => if x = 0 then sb r else x
theorem uk {x y : Int} : D8.decL [[.v (.int .i64 x)], [.v (.int .i64 y)]] = some [x, y] := D8.decL_map [x, y]
theorem bg {xs : List Int} {i : Nat} (h : i < xs.length) : sb (xs.drop i) = if xs.getD i default = 0 then sb (xs.drop (i + 1)) else xs.getD i default := by
 rw [AZ h]; rfl
def oD : Ct := Ak (lc Aq (lc Aq l0)) (fun _ => True) (fun p => .t (.v (.int .i64 (Em p.1 p.2.1))))
theorem gX (m : Int) : FW Tryz.prog m 174 oD := FW.of (r := fun (p : ByteArray × ByteArray × Unit) => .int .i64 (Em p.1 p.2.1)) (fun _ => trivial) fun p _ => by
 obtain ⟨s, c, ⟨⟩⟩ := p
 intro w pr vs hgl hv
 have := IA hv
 subst this
 have he : Extern.find Tryz.f174 = some Extern.BytealgCompare.compare := by kernel_rfl
 rw [run_callFunc_extern (fn := Tryz.f174) (by kernel_rfl) (by kernel_rfl) rfl (by kernel_rfl) he]
 have h := Lib.run_compareString (P := Tryz.prog) s c w
 rw [show ([Value.string s, Value.string c].toArray) = #[.string s, .string c] from rfl, h]
 rfl
def HQ (c : Cf) : Prop := (∀ s ∈ c.own, C3 s) ∧ (∀ w ∈ c.ways, C3 w.ends ∧ C3 w.to) ∧ C3 c.name ∧ (c.own.length : Int) ≤ 3 ∧ (c.ways.length : Int) ≤ 4
def nw : Ct := Ak (lc Aq (lc Aq l0)) (fun p => True) (fun p => .t (.v (.int .i64 (Em p.1 p.2.1))))
section
attribute [local go_sem] oD
theorem f7 {G : Gt} (hG : Ah G) (hh : G.e 174 = AA 3 oD) : Gd G 150 (AA 0 nw) := by
 refine gr (fn := Tryz.f150) (n := 2) rfl rfl hG ?_
 rintro ⟨a, b, ⟨⟩⟩ hpre
 simp -implicitDefEqProofs only [Tryz.f150, go_sem, hh, seval] at hpre ⊢
 with_reducible repeat' (first | apply ai | intro _ | ((first | apply s1 | apply s3 | apply s4) <;> intro hb <;> simp -implicitDefEqProofs only [hb, go_sem, hh, seval] <;> try simp only [qz] at hb))
 all_goals first | rfl | omega | skip
end
def nV : Ct := Ak (lc Aq (lc Aq l0)) (fun p => True) (fun p => .t (.v (.int .i64 (Em p.1 p.2.1))))
section
attribute [local go_sem] nw
theorem fe {G : Gt} (hG : Ah G) (hh : G.e 150 = AA 0 nw) : Gd G 129 (AA 0 nV) := by
 refine gr (fn := Tryz.f129) (n := 2) rfl rfl hG ?_
 rintro ⟨a, b, ⟨⟩⟩ hpre
 simp -implicitDefEqProofs only [Tryz.f129, go_sem, hh, seval] at hpre ⊢
 with_reducible repeat' (first | apply ai | intro _ | ((first | apply s1 | apply s3 | apply s4) <;> intro hb <;> simp -implicitDefEqProofs only [hb, go_sem, hh, seval] <;> try simp only [qz] at hb))
 all_goals first | rfl | omega | skip
end
def nU : Ct := Ak (lc D8.asl l0) (fun p => True) (fun p => .t (.v (.int .i64 (sb p.1))))
section
attribute [local go_sem] lm
theorem fd {G : Gt} (hG : Ah G) : Gd G 128 (AA 0 nU) := by
 refine gr (fn := Tryz.f128) (n := 1) rfl rfl hG ?_
 rintro ⟨xs, ⟨⟩⟩ hpre
 simp -implicitDefEqProofs only [Tryz.f128, go_sem, seval] at hpre ⊢
 with_reducible repeat' (first | apply ai | intro _ | ((first | apply s1 | apply s3 | apply s4) <;> intro hb <;> simp -implicitDefEqProofs only [hb, go_sem, seval] <;> try simp only [qz] at hb))
 all_goals first | rfl | omega | skip
 refine AE [] (ι := {i : Nat // i ≤ xs.length ∧ sb xs = sb (xs.drop i)}) (fun p => ⟨[(3, .t (.v (.int .i64 0))), (6, .t (.sl 1 (xs.map A6))), (7, .t (.v (.int .i64 xs.length))), (8, .t (.v (.int .i64 p.1)))], []⟩) (fun p => xs.length - p.1) ⟨0, by simp, rfl⟩ rfl ?_ ?_
 ·simp -implicitDefEqProofs only [go_sem, seval]
  try simp
 ·rintro ⟨i, hi, hor⟩
  by_cases hlt : (i : Int) < xs.length
  ·have hs := bg (xs := xs) (i := i) (by omega)
   simp -implicitDefEqProofs only [hlt, decide_true, tn, go_sem, seval]
   with_reducible repeat' (first | apply ai | intro _ | ((first | apply s1 | apply s3 | apply s4) <;> intro hb <;> simp -implicitDefEqProofs only [hb, go_sem, seval] <;> try simp only [qz] at hb))
   all_goals (try simp only [maxLen] at *)
   all_goals first | rfl | omega | skip
   ·rw [hor, hs, if_neg (by assumption)]
   ·refine ⟨⟨i + 1, by omega, by rw [hor, hs, if_pos (by simpa using hb)]⟩, by dsimp only; omega, ?_⟩
    simp -implicitDefEqProofs only [go_sem, seval]
    try simp
  ·simp -implicitDefEqProofs only [hlt, decide_false, go_sem, seval]
   with_reducible repeat' (first | apply ai | intro _ | ((first | apply s1 | apply s3 | apply s4) <;> intro hb <;> simp -implicitDefEqProofs only [hb, go_sem, seval] <;> try simp only [qz] at hb))
   all_goals first | rfl | omega | skip
   rw [hor, List.drop_eq_nil_of_le (by omega)]
   rfl
end
def yM : Ct := Ak (lc DQ.ag (lc DQ.ag l0)) (fun p => True) (fun p => .t (.v (.int .i64 (Jt p.1 p.2.1))))
section
attribute [local go_sem] nV nU uk
theorem rZ {G : Gt} (hG : Ah G) (hh : G.e 129 = AA 0 nV ∧ G.e 128 = AA 0 nU) : Gd G 77 (AA 0 yM) := by
 refine gr (fn := Tryz.f77) (n := 2) rfl rfl hG ?_
 rintro ⟨a, b, ⟨⟩⟩ hpre
 simp -implicitDefEqProofs only [Tryz.f77, go_sem, hh, seval] at hpre ⊢
 with_reducible repeat' (first | apply ai | intro _ | ((first | apply s1 | apply s3 | apply s4) <;> intro hb <;> simp -implicitDefEqProofs only [hb, go_sem, hh, seval] <;> try simp only [qz] at hb))
 all_goals first | rfl | omega | skip
 all_goals
  refine congrArg (fun z => T.v (Value.int .i64 z)) ?_
  simp only [sb, Jt]
  by_cases h : Em a.domain b.domain = 0
  ·rw [if_pos h, if_pos h]
   by_cases h2 : Em a.user b.user = 0
   ·rw [if_pos h2, h2]
   ·rw [if_neg h2]
  ·rw [if_neg h, if_neg h]
end
def uc : Ct := Ak (lc DQ.ag (lc DQ.ag l0)) (fun p => True) (fun p => .t (.v (.bool (BM (YS p.1 p.2.1)))))
theorem rh {G : Gt} (hG : Ah G) : Gd G 84 (AA 0 uc) := by
 refine gr (fn := Tryz.f84) (n := 2) rfl rfl hG ?_
 rintro ⟨a, b, ⟨⟩⟩ hpre
 simp -implicitDefEqProofs only [Tryz.f84, go_sem, seval] at hpre ⊢
 with_reducible repeat' (first | apply ai | intro _ | ((first | apply s1 | apply s3 | apply s4) <;> intro hb <;> simp -implicitDefEqProofs only [hb, go_sem, seval] <;> try simp only [qz] at hb))
 all_goals first | rfl | omega | skip
 all_goals first
  | exact uT (.inl (by assumption))
  | exact uB ⟨fun q => .inr ⟨by assumption, q⟩, fun q => q.elim (fun q => by simp_all) fun q => q.2⟩
  | exact uF (fun q => q.elim (fun q => by simp_all) fun q => by simp_all)
  | skip
def mf (b : Bx) : Prop := (∀ g ∈ b.mails, (BS g.frm ∨ Ab g.frm) ∧ CZ g.body) ∧ BS b.addr
def Xs (h : Hs) (j : Nat) : Prop := mf (h.boxes.getD j default) ∧ (0 < j → YS (h.boxes.getD (j - 1) default).addr (h.boxes.getD j default).addr) ∧ (h.boxes.getD j default).addr.domain ∈ h.conf.own
def DR (h : Hs) : Prop := (∀ j, j < h.boxes.length → Xs h j) ∧ HQ h.conf ∧ Bg h.spool
theorem Cr {P : Nat → Prop} {i : Nat} (h : ∀ j, j < i → P j) (hi : P i) : ∀ j, j < i + 1 → P j := fun j hj => by
 by_cases e : j = i
 ·rw [e]; exact hi
 ·exact h j (by omega)
theorem i4 {xs : List ByteArray} {a : ByteArray} (h : ∀ j, j < xs.length → ¬ xs.getD j default = a) : ¬ a ∈ xs := fun hm => by
 obtain ⟨j, hj, e⟩ := List.getElem_of_mem hm
 exact h j hj (by simp [hj, e])
def ud : Ct := Ak (lc IH.ag l0) (fun p => True) (fun p => .t (.v (.bool (BM (HQ p.1)))))
section
attribute [local go_sem] cy AX AW lm
set_option maxHeartbeats 1600000 in
theorem rj {G : Gt} (hG : Ah G) (hh : G.e 40 = AA 0 cy) : Gd G 86 (AA 0 ud) := by
 refine gr (fn := Tryz.f86) (n := 1) rfl rfl hG ?_
 rintro ⟨c, ⟨⟩⟩ hpre
 simp -implicitDefEqProofs only [Tryz.f86, go_sem, hh, seval] at hpre ⊢
 refine AE [] (ι := {i : Nat // i ≤ c.own.length ∧ ∀ j, j < i → C3 (c.own.getD j default)}) (fun p => ⟨[(1, .pb 1001 0), (3, .t (.v (.int .i64 p.1)))], [(1001, some (.box ((Cu c).map .t)))]⟩) (fun p => c.own.length - p.1) ⟨0, by simp, by simp⟩ rfl ?_ ?_
 ·simp -implicitDefEqProofs only [go_sem, hh, seval]
  try simp
 ·rintro ⟨i, hi, hall⟩
  by_cases hlt : (i : Int) < c.own.length
  ·simp -implicitDefEqProofs only [hlt, decide_true, tn, go_sem, hh, seval]
   with_reducible repeat' (first | apply ai | intro _ | ((first | apply s1 | apply s3 | apply s4) <;> intro hb <;> simp -implicitDefEqProofs only [hb, go_sem, hh, seval] <;> try simp only [qz] at hb))
   all_goals (try simp only [maxLen] at *)
   all_goals first | rfl | omega | skip
   ·exact uF (fun h => hb (h.1 _ (AF (by omega))))
   ·refine ⟨⟨i + 1, by omega, Cr hall hb⟩, by dsimp only; omega, ?_⟩
    simp -implicitDefEqProofs only [go_sem, hh, seval]
    try simp
  ·have hA : ∀ s ∈ c.own, C3 s := BO fun j hj => hall j (by omega)
   simp -implicitDefEqProofs only [hlt, decide_false, go_sem, hh, seval]
   with_reducible repeat' (first | apply ai | intro _ | ((first | apply s1 | apply s3 | apply s4) <;> intro hb <;> simp -implicitDefEqProofs only [hb, go_sem, hh, seval] <;> try simp only [qz] at hb))
   all_goals first | rfl | omega | skip
   refine AE [] (ι := {i : Nat // i ≤ c.ways.length ∧ ∀ j, j < i → C3 (c.ways.getD j default).ends ∧ C3 (c.ways.getD j default).to}) (fun p => ⟨[(1, .pb 1001 0), (4, .t (.v (.int .i64 p.1)))], [(1001, some (.box ((Cu c).map .t)))]⟩) (fun p => c.ways.length - p.1) ⟨0, by simp, by simp⟩ rfl ?_ ?_
   ·simp -implicitDefEqProofs only [go_sem, hh, seval]
    try simp
   ·rintro ⟨k, hk, hall2⟩
    by_cases hlt2 : (k : Int) < c.ways.length
    ·simp -implicitDefEqProofs only [hlt2, decide_true, tn, go_sem, hh, seval]
     with_reducible repeat' (first | apply ai | intro _ | ((first | apply s1 | apply s3 | apply s4) <;> intro hb <;> simp -implicitDefEqProofs only [hb, go_sem, hh, seval] <;> try simp only [qz] at hb))
     all_goals (try simp only [maxLen] at *)
     all_goals first
      | rfl
      | omega
      | exact uF (fun h => hb (h.2.1 _ (AF (by omega))).1)
      | exact uF (fun h => hb (h.2.1 _ (AF (by omega))).2)
      | skip
     refine ⟨⟨k + 1, by omega, Cr (P := fun j => C3 (c.ways.getD j default).ends ∧ C3 (c.ways.getD j default).to) hall2 ⟨by assumption, by assumption⟩⟩, by dsimp only; omega, ?_⟩
     simp -implicitDefEqProofs only [go_sem, hh, seval]
     try simp
    ·have hB : ∀ w ∈ c.ways, C3 w.ends ∧ C3 w.to := BO fun j hj => hall2 j (by omega)
     simp -implicitDefEqProofs only [hlt2, decide_false, go_sem, hh, seval]
     with_reducible repeat' (first | apply ai | intro _ | ((first | apply s1 | apply s3 | apply s4) <;> intro hb <;> simp -implicitDefEqProofs only [hb, go_sem, hh, seval] <;> try simp only [qz] at hb))
     all_goals first
      | rfl
      | omega
      | exact uD ⟨fun q => ⟨hA, hB, by assumption, by omega, q⟩, fun q => q.2.2.2.2⟩
      | exact uF (fun q => absurd q.2.2.1 (by assumption))
      | exact uF (fun q => by have h1 := q.2.2.2.1; have h2 := q.2.2.2.2; omega)
      | skip
end
def eI : Ct := Ak (lc IH.ag (lc DQ.ag l0)) (fun p => True) (fun p => .t (.v (.bool (BM (p.2.1.domain ∈ p.1.own)))))
section
attribute [local go_sem] lm
theorem ri {G : Gt} (hG : Ah G) : Gd G 85 (AA 0 eI) := by
 refine gr (fn := Tryz.f85) (n := 2) rfl rfl hG ?_
 rintro ⟨c, a, ⟨⟩⟩ hpre
 simp -implicitDefEqProofs only [Tryz.f85, go_sem, seval] at hpre ⊢
 refine AE [] (ι := {i : Nat // i ≤ c.own.length ∧ ∀ j, j < i → ¬ c.own.getD j default = a.domain}) (fun p => ⟨[(2, .pb 1002 0), (3, .pb 1003 0), (5, .t (.v (.int .i64 p.1)))], [(1002, some (.box ((Cu c).map .t))), (1003, some (.box ((Am a).map .t)))]⟩) (fun p => c.own.length - p.1) ⟨0, by simp, by simp⟩ rfl ?_ ?_
 ·simp -implicitDefEqProofs only [go_sem, seval]
  try simp
 ·rintro ⟨i, hi, hall⟩
  by_cases hlt : (i : Int) < c.own.length
  ·simp -implicitDefEqProofs only [hlt, decide_true, tn, go_sem, seval]
   with_reducible repeat' (first | apply ai | intro _ | ((first | apply s1 | apply s3 | apply s4) <;> intro hb <;> simp -implicitDefEqProofs only [hb, go_sem, seval] <;> try simp only [qz] at hb))
   all_goals (try simp only [maxLen] at *)
   all_goals first | rfl | omega | skip
   ·exact uT (by rw [← hb]; exact AF (by omega))
   ·refine ⟨⟨i + 1, by omega, Cr hall hb⟩, by dsimp only; omega, ?_⟩
    simp -implicitDefEqProofs only [go_sem, seval]
    try simp
  ·simp -implicitDefEqProofs only [hlt, decide_false, go_sem, seval]
   with_reducible repeat' (first | apply ai | intro _ | ((first | apply s1 | apply s3 | apply s4) <;> intro hb <;> simp -implicitDefEqProofs only [hb, go_sem, seval] <;> try simp only [qz] at hb))
   all_goals first | rfl | omega | skip
   exact uF (i4 fun j hj => hall j (by omega))
end
def yQ : Ct := Ak (lc Xh.ag l0) (fun p => True) (fun p => .t (.v (.bool (BM (mf p.1)))))
section
attribute [local go_sem] NF IY IZ AX AW lm
set_option maxHeartbeats 1600000 in
theorem rg {G : Gt} (hG : Ah G) (hh : G.e 120 = AA 0 NF ∧ G.e 106 = AA 0 IY ∧ G.e 119 = AA 0 IZ) : Gd G 83 (AA 0 yQ) := by
 refine gr (fn := Tryz.f83) (n := 1) rfl rfl hG ?_
 rintro ⟨b, ⟨⟩⟩ hpre
 simp -implicitDefEqProofs only [Tryz.f83, go_sem, hh, seval] at hpre ⊢
 refine AE [] (ι := {i : Nat // i ≤ b.mails.length ∧ ∀ j, j < i → (BS (b.mails.getD j default).frm ∨ Ab (b.mails.getD j default).frm) ∧ CZ (b.mails.getD j default).body}) (fun p => ⟨[(1, .pb 1001 0), (3, .t (.v (.int .i64 p.1)))], [(1001, some (.box ((Bo b).map .t)))]⟩) (fun p => b.mails.length - p.1) ⟨0, by simp, by simp⟩ rfl ?_ ?_
 ·simp -implicitDefEqProofs only [go_sem, hh, seval]
  try simp
 ·rintro ⟨i, hi, hall⟩
  by_cases hlt : (i : Int) < b.mails.length
  ·simp -implicitDefEqProofs only [hlt, decide_true, tn, go_sem, hh, seval]
   with_reducible repeat' (first | apply ai | intro _ | ((first | apply s1 | apply s3 | apply s4) <;> intro hb <;> simp -implicitDefEqProofs only [hb, go_sem, hh, seval] <;> try simp only [qz] at hb))
   all_goals (try simp only [maxLen, tn] at *)
   all_goals first
    | rfl
    | omega
    | exact uF (fun h => absurd (h.1 (b.mails.getD i default) (AF (by omega))).2 (by assumption))
    | exact uF (fun h => (h.1 (b.mails.getD i default) (AF (by omega))).1.elim (fun q => absurd q (by assumption)) fun q => absurd q (by assumption))
    | skip
   all_goals
    refine ⟨⟨i + 1, by omega, Cr (P := fun j => (BS (b.mails.getD j default).frm ∨ Ab (b.mails.getD j default).frm) ∧ CZ (b.mails.getD j default).body) hall ⟨by first | exact .inl (by assumption) | exact .inr (by assumption), by assumption⟩⟩, by dsimp only; omega, ?_⟩
    simp -implicitDefEqProofs only [go_sem, hh, seval]
    try simp
  ·have hA : ∀ g ∈ b.mails, (BS g.frm ∨ Ab g.frm) ∧ CZ g.body := BO (P := fun g : Gm => (BS g.frm ∨ Ab g.frm) ∧ CZ g.body) fun j hj => hall j (by omega)
   simp -implicitDefEqProofs only [hlt, decide_false, go_sem, hh, seval]
   with_reducible repeat' (first | apply ai | intro _ | ((first | apply s1 | apply s3 | apply s4) <;> intro hb <;> simp -implicitDefEqProofs only [hb, go_sem, hh, seval] <;> try simp only [qz] at hb))
   all_goals first | rfl | omega | exact uE ⟨fun q => ⟨hA, q⟩, fun q => q.2⟩ | skip
end
def kG : Ct := Ak (lc D7.ag l0) (fun p => True) (fun p => .t (.v (.bool (BM (DR p.1)))))
section
attribute [local go_sem] yQ uc eI ud yR AX AW lm
set_option maxHeartbeats 6400000 in
theorem qr {G : Gt} (hG : Ah G) (hh : G.e 83 = AA 0 yQ ∧ G.e 84 = AA 0 uc ∧ G.e 85 = AA 0 eI ∧ G.e 86 = AA 0 ud ∧ G.e 87 = AA 0 yR) : Gd G 39 (AA 0 kG) := by
 refine gr (fn := Tryz.f39) (n := 1) rfl rfl hG ?_
 rintro ⟨h, ⟨⟩⟩ hpre
 simp -implicitDefEqProofs only [Tryz.f39, go_sem, hh, seval] at hpre ⊢
 refine AE [] (ι := {i : Nat // i ≤ h.boxes.length ∧ ∀ j, j < i → Xs h j}) (fun p => ⟨[(1, .pb 1001 0), (3, .t (.v (.int .i64 p.1)))], [(1001, some (.box ((Ai h).map .t)))]⟩) (fun p => h.boxes.length - p.1) ⟨0, by simp, by simp⟩ rfl ?_ ?_
 ·simp -implicitDefEqProofs only [go_sem, hh, seval]
  try simp
 ·rintro ⟨i, hi, hall⟩
  by_cases hlt : (i : Int) < h.boxes.length
  ·simp -implicitDefEqProofs only [hlt, decide_true, tn, go_sem, hh, seval]
   with_reducible repeat' (first | apply ai | intro _ | ((first | apply s1 | apply s3 | apply s4) <;> intro hb <;> simp -implicitDefEqProofs only [hb, go_sem, hh, seval] <;> try simp only [qz] at hb))
   all_goals (try simp only [maxLen, tn] at *)
   all_goals have hnat : ((i : Int) - 1).toNat = i - 1 := by omega
   all_goals first
    | rfl
    | omega
    | exact uF (fun q => absurd (q.1 i (by omega)).1 (by assumption))
    | exact uF (fun q => absurd (q.1 i (by omega)).2.2 (by assumption))
    | exact uF (fun q => absurd ((q.1 i (by omega)).2.1 (by omega)) (by rw [← hnat]; assumption))
    | skip
   all_goals
    refine ⟨⟨i + 1, by omega, Cr hall ⟨by assumption, fun _ => by first | (rw [← hnat]; assumption) | (exfalso; omega), by assumption⟩⟩, by dsimp only; omega, ?_⟩
    simp -implicitDefEqProofs only [go_sem, hh, seval]
    try simp
  ·simp -implicitDefEqProofs only [hlt, decide_false, go_sem, hh, seval]
   with_reducible repeat' (first | apply ai | intro _ | ((first | apply s1 | apply s3 | apply s4) <;> intro hb <;> simp -implicitDefEqProofs only [hb, go_sem, hh, seval] <;> try simp only [qz] at hb))
   all_goals first
    | rfl
    | omega
    | exact uE ⟨fun q => ⟨fun j hj => hall j (by omega), by assumption, q⟩, fun q => q.2.2⟩
    | exact uF (fun q => absurd q.2.1 (by assumption))
    | skip
end
def xw : Ct := Ak (lc D7.ag l0) (fun p => True) (fun p => .t (.v (.bool (BM (DR p.1)))))
section
attribute [local go_sem] kG
theorem qV {G : Gt} (hG : Ah G) (hh : G.e 39 = AA 0 kG) : Gd G 24 (AA 0 xw) := by
 refine gr (fn := Tryz.f24) (n := 1) rfl rfl hG ?_
 rintro ⟨h, ⟨⟩⟩ hpre
 simp -implicitDefEqProofs only [Tryz.f24, go_sem, hh, seval] at hpre ⊢
 with_reducible repeat' (first | apply ai | intro _ | ((first | apply s1 | apply s3 | apply s4) <;> intro hb <;> simp -implicitDefEqProofs only [hb, go_sem, hh, seval] <;> try simp only [qz] at hb))
 all_goals first | rfl | skip
end
inductive N5 where
 | bad
def N5.enc : N5 → AV
 | .bad  => .t (.fn 75 [])
def N5.dec : AV → Option N5
 | .t (.fn 75 []) => some (.bad )
 | _ => none
def N5.sem : N5 → Gm → Prop
 | .bad , x => ¬ ((BS x.frm ∨ Ab x.frm) ∧ CZ x.body)
def N5.pre : N5 → Gm → Prop
 | .bad , x => x.frm.domain.size ≤ 2000000 ∧ ∀ s ∈ x.body, s.size ≤ 2000000
def dH : AD N5 where
 enc := N5.enc
 dec := N5.dec
 ed := fun f => by cases f <;> rfl
 de := fun x f h => by
  unfold N5.dec at h
  split at h <;> cases h <;> rfl
theorem Jj  : dH.dec (.t (.fn 75 [])) = some (.bad ) := rfl
theorem Jk  : dH.enc (.bad ) = .t (.fn 75 []) := rfl
def yK : Ct := Ak (lc Qf.ag l0) (fun p => p.1.frm.domain.size ≤ 2000000 ∧ ∀ s ∈ p.1.body, s.size ≤ 2000000) (fun p => .t (.v (.bool (BM (¬ ((BS p.1.frm ∨ Ab p.1.frm) ∧ CZ p.1.body))))))
section
attribute [local go_sem] o0 c8 BQ BP Bool.not_true Bool.not_false By DO
theorem rX {G : Gt} (hG : Ah G) (hh : G.e 47 = AA 0 o0 ∧ G.e 51 = AA 0 c8) : Gd G 75 (AA 0 yK) := by
 refine gr (fn := Tryz.f75) (n := 1) rfl rfl hG ?_
 rintro ⟨x, ⟨⟩⟩ hpre
 simp -implicitDefEqProofs only [Tryz.f75, go_sem, hh, seval] at hpre ⊢
 with_reducible repeat' (first | apply ai | intro _ | ((first | apply s1 | apply s3 | apply s4) <;> intro hb <;> simp -implicitDefEqProofs only [hb, go_sem, hh, seval] <;> try simp only [qz] at hb))
 all_goals first | rfl | omega | exact hpre.1 | exact hpre.2 | exact hpre.2 _ (by assumption) | skip
 all_goals first
  | exact uT (fun h => absurd h.1 (by assumption))
  | exact uN ⟨fun h q => h q.2, fun h q => h ⟨by assumption, q⟩⟩
  | skip
end
def nT : Ct := Ak (lc Qf.asl (lc dH l0)) (fun p => ∀ x ∈ p.1, p.2.1.pre x) (fun p => .t (.v (.int .i64 (BI p.2.1.sem 0 p.1))))
section
attribute [local go_sem] yK BQ BP Bool.not_true Bool.not_false By DO Jj Jk
theorem fc {G : Gt} (hG : Ah G) (hh : G.e 75 = AA 0 yK) : Gd G 127 (AA 0 nT) := by
 refine gr (fn := Tryz.f127) (n := 2) rfl rfl hG ?_
 rintro ⟨xs, f, ⟨⟩⟩ hpre
 have hs := hpre
 dsimp only at hs ⊢
 cases f with
 | bad  =>
   simp -implicitDefEqProofs only [Tryz.f127, go_sem, hh, seval]
   with_reducible repeat' (first | apply ai | intro _ | ((first | apply s1 | apply s3 | apply s4) <;> intro hb <;> simp -implicitDefEqProofs only [hb, go_sem, hh, seval] <;> try simp only [qz] at hb))
   all_goals first | rfl | omega | skip
   refine AE [] (ι := {i : Nat // i ≤ xs.length ∧ BI (N5.sem (.bad )) 0 xs = BI (N5.sem (.bad )) i (xs.drop i)}) (fun p => ⟨[(0, .t (.sl 3 (xs.map Cg))), (1, .t (.fn 75 [])), (7, .t (.v (.int .i64 xs.length))), (8, .t (.v (.int .i64 p.1)))], []⟩) (fun p => xs.length - p.1) ⟨0, Nat.zero_le _, rfl⟩ rfl ?_ ?_
   ·simp -implicitDefEqProofs only [go_sem, hh, seval]
    try simp
   ·rintro ⟨i, hi, hix⟩
    by_cases hlt : (i : Int) < xs.length
    ·have hm : xs.getD (i : Int).toNat default ∈ xs := AF (by omega)
     have hsz := hs _ hm
     cases hb : BM (¬ ((BS (xs.getD (i : Int).toNat default).frm ∨ Ab (xs.getD (i : Int).toNat default).frm) ∧ CZ (xs.getD (i : Int).toNat default).body))
     ·have hq := hb
      simp -implicitDefEqProofs only [hlt, hq, go_sem, hh, seval]
      with_reducible repeat' (first | apply ai | intro _ | ((first | apply s1 | apply s3 | apply s4) <;> intro hb <;> simp -implicitDefEqProofs only [hb, go_sem, hh, seval] <;> try simp only [qz] at hb))
      all_goals (try simp only [maxLen] at *)
      all_goals first | rfl | omega | with_reducible assumption | exact hsz | exact hsz.1 | exact hsz.2 | exact hsz.2 _ (by assumption) | exact hsz.2.1 | exact hsz.2.2.1 | exact hsz.2.2.2 | trivial | skip
      rw [AW, tn] at hb
      refine ⟨⟨i + 1, by omega, ?_⟩, by dsimp only; omega, ?_⟩
      ·rw [hix, EV (p := N5.sem (.bad )) (by omega) hb]
      ·simp -implicitDefEqProofs only [go_sem, hh, seval]
       try simp
     ·have hq := hb
      simp -implicitDefEqProofs only [hlt, hq, go_sem, hh, seval]
      with_reducible repeat' (first | apply ai | intro _ | ((first | apply s1 | apply s3 | apply s4) <;> intro hb <;> simp -implicitDefEqProofs only [hb, go_sem, hh, seval] <;> try simp only [qz] at hb))
      all_goals (try simp only [maxLen] at *)
      all_goals first | rfl | omega | with_reducible assumption | exact hsz | exact hsz.1 | exact hsz.2 | exact hsz.2 _ (by assumption) | exact hsz.2.1 | exact hsz.2.2.1 | exact hsz.2.2.2 | trivial | skip
      rw [AX, tn] at hb
      rw [hix, DH (p := N5.sem (.bad )) (by omega) hb]
    ·simp -implicitDefEqProofs only [hlt, go_sem, hh, seval]
     with_reducible repeat' (first | apply ai | intro _ | ((first | apply s1 | apply s3 | apply s4) <;> intro hb <;> simp -implicitDefEqProofs only [hb, go_sem, hh, seval] <;> try simp only [qz] at hb))
     all_goals first | rfl | omega | skip
     all_goals (rw [hix, DG (by omega)])
end
def yL : Ct := Ak (lc Qf.asl (lc dH l0)) (fun p => ∀ x ∈ p.1, p.2.1.pre x) (fun p => .t (.v (.bool (BM (∃ x ∈ p.1, p.2.1.sem x)))))
section
attribute [local go_sem] nT BQ BP Bool.not_true Bool.not_false By DO Jj Jk
theorem rY {G : Gt} (hG : Ah G) (hh : G.e 127 = AA 0 nT) : Gd G 76 (AA 0 yL) := by
 refine gr (fn := Tryz.f76) (n := 2) rfl rfl hG ?_
 rintro ⟨xs, f, ⟨⟩⟩ hpre
 dsimp only at hpre ⊢
 cases f
 all_goals
  simp -implicitDefEqProofs only [Tryz.f76, go_sem, hh, seval]
  with_reducible repeat' (first | apply ai | intro _ | ((first | apply s1 | apply s3 | apply s4) <;> intro hb <;> simp -implicitDefEqProofs only [hb, go_sem, hh, seval] <;> try simp only [qz] at hb))
  all_goals first | rfl | omega | exact hpre | exact hpre _ (by assumption) | skip
  all_goals (rw [← AR (EK _ 0)]; rw [BR])
end
inductive N6 where
 | way
def N6.enc : N6 → AV
 | .way  => .t (.fn 92 [])
def N6.dec : AV → Option N6
 | .t (.fn 92 []) => some (.way )
 | _ => none
def N6.sem : N6 → Wy → Prop
 | .way , x => ¬ (C3 x.ends ∧ C3 x.to)
def N6.pre : N6 → Wy → Prop
 | .way , x => x.ends.size ≤ 2000000 ∧ x.to.size ≤ 2000000
def dI : AD N6 where
 enc := N6.enc
 dec := N6.dec
 ed := fun f => by cases f <;> rfl
 de := fun x f h => by
  unfold N6.dec at h
  split at h <;> cases h <;> rfl
theorem Jl  : dI.dec (.t (.fn 92 [])) = some (.way ) := rfl
theorem Jm  : dI.enc (.way ) = .t (.fn 92 []) := rfl
def yT : Ct := Ak (lc LY.ag l0) (fun p => p.1.ends.size ≤ 2000000 ∧ p.1.to.size ≤ 2000000) (fun p => .t (.v (.bool (BM (¬ (C3 p.1.ends ∧ C3 p.1.to))))))
section
attribute [local go_sem] UQ BQ BP Bool.not_true Bool.not_false By DO
theorem rq {G : Gt} (hG : Ah G) (hh : G.e 34 = AA 0 UQ) : Gd G 92 (AA 0 yT) := by
 refine gr (fn := Tryz.f92) (n := 1) rfl rfl hG ?_
 rintro ⟨x, ⟨⟩⟩ hpre
 simp -implicitDefEqProofs only [Tryz.f92, go_sem, hh, seval] at hpre ⊢
 with_reducible repeat' (first | apply ai | intro _ | ((first | apply s1 | apply s3 | apply s4) <;> intro hb <;> simp -implicitDefEqProofs only [hb, go_sem, hh, seval] <;> try simp only [qz] at hb))
 all_goals first | rfl | omega | exact hpre.1 | exact hpre.2 | exact hpre.2 _ (by assumption) | skip
 all_goals first
  | exact uT (fun h => absurd h.1 (by assumption))
  | exact uN ⟨fun h q => h q.2, fun h q => h ⟨by assumption, q⟩⟩
  | skip
end
def nj : Ct := Ak (lc LY.asl (lc dI l0)) (fun p => ∀ x ∈ p.1, p.2.1.pre x) (fun p => .t (.v (.int .i64 (BI p.2.1.sem 0 p.1))))
section
attribute [local go_sem] yT BQ BP Bool.not_true Bool.not_false By DO Jl Jm
theorem fp {G : Gt} (hG : Ah G) (hh : G.e 92 = AA 0 yT) : Gd G 137 (AA 0 nj) := by
 refine gr (fn := Tryz.f137) (n := 2) rfl rfl hG ?_
 rintro ⟨xs, f, ⟨⟩⟩ hpre
 have hs := hpre
 dsimp only at hs ⊢
 cases f with
 | way  =>
   simp -implicitDefEqProofs only [Tryz.f137, go_sem, hh, seval]
   with_reducible repeat' (first | apply ai | intro _ | ((first | apply s1 | apply s3 | apply s4) <;> intro hb <;> simp -implicitDefEqProofs only [hb, go_sem, hh, seval] <;> try simp only [qz] at hb))
   all_goals first | rfl | omega | skip
   refine AE [] (ι := {i : Nat // i ≤ xs.length ∧ BI (N6.sem (.way )) 0 xs = BI (N6.sem (.way )) i (xs.drop i)}) (fun p => ⟨[(0, .t (.sl 2 (xs.map Bp))), (1, .t (.fn 92 [])), (7, .t (.v (.int .i64 xs.length))), (8, .t (.v (.int .i64 p.1)))], []⟩) (fun p => xs.length - p.1) ⟨0, Nat.zero_le _, rfl⟩ rfl ?_ ?_
   ·simp -implicitDefEqProofs only [go_sem, hh, seval]
    try simp
   ·rintro ⟨i, hi, hix⟩
    by_cases hlt : (i : Int) < xs.length
    ·have hm : xs.getD (i : Int).toNat default ∈ xs := AF (by omega)
     have hsz := hs _ hm
     cases hb : BM (¬ (C3 (xs.getD (i : Int).toNat default).ends ∧ C3 (xs.getD (i : Int).toNat default).to))
     ·have hq := hb
      simp -implicitDefEqProofs only [hlt, hq, go_sem, hh, seval]
      with_reducible repeat' (first | apply ai | intro _ | ((first | apply s1 | apply s3 | apply s4) <;> intro hb <;> simp -implicitDefEqProofs only [hb, go_sem, hh, seval] <;> try simp only [qz] at hb))
      all_goals (try simp only [maxLen] at *)
      all_goals first | rfl | omega | with_reducible assumption | exact hsz | exact hsz.1 | exact hsz.2 | exact hsz.2 _ (by assumption) | exact hsz.2.1 | exact hsz.2.2.1 | exact hsz.2.2.2 | trivial | skip
      rw [AW, tn] at hb
      refine ⟨⟨i + 1, by omega, ?_⟩, by dsimp only; omega, ?_⟩
      ·rw [hix, EV (p := N6.sem (.way )) (by omega) hb]
      ·simp -implicitDefEqProofs only [go_sem, hh, seval]
       try simp
     ·have hq := hb
      simp -implicitDefEqProofs only [hlt, hq, go_sem, hh, seval]
      with_reducible repeat' (first | apply ai | intro _ | ((first | apply s1 | apply s3 | apply s4) <;> intro hb <;> simp -implicitDefEqProofs only [hb, go_sem, hh, seval] <;> try simp only [qz] at hb))
      all_goals (try simp only [maxLen] at *)
      all_goals first | rfl | omega | with_reducible assumption | exact hsz | exact hsz.1 | exact hsz.2 | exact hsz.2 _ (by assumption) | exact hsz.2.1 | exact hsz.2.2.1 | exact hsz.2.2.2 | trivial | skip
      rw [AX, tn] at hb
      rw [hix, DH (p := N6.sem (.way )) (by omega) hb]
    ·simp -implicitDefEqProofs only [hlt, go_sem, hh, seval]
     with_reducible repeat' (first | apply ai | intro _ | ((first | apply s1 | apply s3 | apply s4) <;> intro hb <;> simp -implicitDefEqProofs only [hb, go_sem, hh, seval] <;> try simp only [qz] at hb))
     all_goals first | rfl | omega | skip
     all_goals (rw [hix, DG (by omega)])
end
def yU : Ct := Ak (lc LY.asl (lc dI l0)) (fun p => ∀ x ∈ p.1, p.2.1.pre x) (fun p => .t (.v (.bool (BM (∃ x ∈ p.1, p.2.1.sem x)))))
section
attribute [local go_sem] nj BQ BP Bool.not_true Bool.not_false By DO Jl Jm
theorem rt {G : Gt} (hG : Ah G) (hh : G.e 137 = AA 0 nj) : Gd G 94 (AA 0 yU) := by
 refine gr (fn := Tryz.f94) (n := 2) rfl rfl hG ?_
 rintro ⟨xs, f, ⟨⟩⟩ hpre
 dsimp only at hpre ⊢
 cases f
 all_goals
  simp -implicitDefEqProofs only [Tryz.f94, go_sem, hh, seval]
  with_reducible repeat' (first | apply ai | intro _ | ((first | apply s1 | apply s3 | apply s4) <;> intro hb <;> simp -implicitDefEqProofs only [hb, go_sem, hh, seval] <;> try simp only [qz] at hb))
  all_goals first | rfl | omega | exact hpre | exact hpre _ (by assumption) | skip
  all_goals (rw [← AR (EK _ 0)]; rw [BR])
end
def nZ : Ct := Ak (lc Al.asl (lc Aq l0)) (fun p => True) (fun p => .t (.v (.int .i64 (BI (fun s : ByteArray => s = p.2.1) 0 p.1))))
section
attribute [local go_sem] lm
theorem fi {G : Gt} (hG : Ah G) : Gd G 133 (AA 0 nZ) := by
 refine gr (fn := Tryz.f133) (n := 2) rfl rfl hG ?_
 rintro ⟨xs, a, ⟨⟩⟩ hpre
 simp -implicitDefEqProofs only [Tryz.f133, go_sem, seval] at hpre ⊢
 with_reducible repeat' (first | apply ai | intro _ | ((first | apply s1 | apply s3 | apply s4) <;> intro hb <;> simp -implicitDefEqProofs only [hb, go_sem, seval] <;> try simp only [qz] at hb))
 all_goals first | rfl | omega | skip
 refine AE [] (ι := {i : Nat // i ≤ xs.length ∧ BI (fun s : ByteArray => s = a) 0 xs = BI (fun s : ByteArray => s = a) i (xs.drop i)}) (fun p => ⟨[(0, .t (.sl 1 (xs.map AG))), (1, .t (.v (.string a))), (7, .t (.v (.int .i64 xs.length))), (8, .t (.v (.int .i64 p.1)))], []⟩) (fun p => xs.length - p.1) ⟨0, by simp, rfl⟩ rfl ?_ ?_
 ·simp -implicitDefEqProofs only [go_sem, seval]
  try simp
 ·rintro ⟨i, hi, hix⟩
  by_cases hlt : (i : Int) < xs.length
  ·simp -implicitDefEqProofs only [hlt, decide_true, tn, go_sem, seval]
   with_reducible repeat' (first | apply ai | intro _ | ((first | apply s1 | apply s3 | apply s4) <;> intro hb <;> simp -implicitDefEqProofs only [hb, go_sem, seval] <;> try simp only [qz] at hb))
   all_goals (try simp only [maxLen] at *)
   all_goals first | rfl | omega | skip
   ·rw [hix, DH (p := fun s : ByteArray => s = a) (by omega) hb.symm]
   ·refine ⟨⟨i + 1, by omega, by rw [hix, EV (p := fun s : ByteArray => s = a) (by omega) (fun e => hb e.symm)]⟩, by dsimp only; omega, ?_⟩
    simp -implicitDefEqProofs only [go_sem, seval]
    try simp
  ·simp -implicitDefEqProofs only [hlt, decide_false, go_sem, seval]
   with_reducible repeat' (first | apply ai | intro _ | ((first | apply s1 | apply s3 | apply s4) <;> intro hb <;> simp -implicitDefEqProofs only [hb, go_sem, seval] <;> try simp only [qz] at hb))
   all_goals first | rfl | omega | skip
   rw [hix, DG (by omega)]
end
def yO : Ct := Ak (lc Al.asl (lc Aq l0)) (fun p => True) (fun p => .t (.v (.bool (BM (p.2.1 ∈ p.1)))))
section
attribute [local go_sem] nZ
theorem rd {G : Gt} (hG : Ah G) (hh : G.e 133 = AA 0 nZ) : Gd G 81 (AA 0 yO) := by
 refine gr (fn := Tryz.f81) (n := 2) rfl rfl hG ?_
 rintro ⟨xs, a, ⟨⟩⟩ hpre
 simp -implicitDefEqProofs only [Tryz.f81, go_sem, hh, seval] at hpre ⊢
 with_reducible repeat' (first | apply ai | intro _ | ((first | apply s1 | apply s3 | apply s4) <;> intro hb <;> simp -implicitDefEqProofs only [hb, go_sem, hh, seval] <;> try simp only [qz] at hb))
 all_goals first | rfl | omega | skip
 refine uD ?_
 rw [ge_iff_le, EK]
 exact ⟨fun ⟨x, hx, e⟩ => e ▸ hx, fun h => ⟨a, h, rfl⟩⟩
end
def kE : Ct := Ak (lc IH.ag (lc Aq l0)) (fun p => True) (fun p => .t (.v (.bool (BM (p.2.1 ∈ p.1.own)))))
section
attribute [local go_sem] yO
theorem qo {G : Gt} (hG : Ah G) (hh : G.e 81 = AA 0 yO) : Gd G 36 (AA 0 kE) := by
 refine gr (fn := Tryz.f36) (n := 2) rfl rfl hG ?_
 rintro ⟨c, a, ⟨⟩⟩ hpre
 simp -implicitDefEqProofs only [Tryz.f36, go_sem, hh, seval] at hpre ⊢
 with_reducible repeat' (first | apply ai | intro _ | ((first | apply s1 | apply s3 | apply s4) <;> intro hb <;> simp -implicitDefEqProofs only [hb, go_sem, hh, seval] <;> try simp only [qz] at hb))
 all_goals first | rfl | omega | skip
end
def xz : Ct := Ak (lc IH.ag l0) (fun p => HT p.1) (fun p => .t (.v (.bool (BM (HQ p.1)))))
section
attribute [local go_sem] UQ uh yU BQ BP Bool.not_true Bool.not_false By DO Jj Jk Jl Jm Dl Dn Dm Do AX AW lm
set_option maxHeartbeats 1600000 in
theorem qv {G : Gt} (hG : Ah G) (hh : G.e 34 = AA 0 UQ ∧ G.e 93 = AA 0 uh ∧ G.e 94 = AA 0 yU) : Gd G 43 (AA 0 xz) := by
 refine gr (fn := Tryz.f43) (n := 1) rfl rfl hG ?_
 rintro ⟨c, ⟨⟩⟩ hpre
 simp -implicitDefEqProofs only [Tryz.f43, go_sem, hh, seval] at hpre ⊢
 obtain ⟨z1, ⟨l1, z2⟩, ⟨l2, z3⟩⟩ := hpre
 have y1 : c.name.size ≤ 2000000 := by have : c.name.size ≤ 1048576 := z1; omega
 have y2 : ∀ x ∈ c.own, D9.pre .dom x := fun x hx => by have : x.size ≤ 1048576 := z2 x hx; show x.size ≤ 2000000; omega
 have y3 : ∀ x ∈ c.ways, N6.pre .way x := fun x hx => by
  have h1 : x.ends.size ≤ 1048576 := (z3 x hx).1
  have h2 : x.to.size ≤ 1048576 := (z3 x hx).2
  exact ⟨by omega, by omega⟩
 have e1 : (¬ ∃ x ∈ c.own, D9.sem .dom x) ↔ ∀ s ∈ c.own, C3 s := ⟨fun h s hs => Classical.byContradiction fun q => h ⟨s, hs, q⟩, fun h ⟨s, hs, q⟩ => q (h s hs)⟩
 have e2 : (¬ ∃ x ∈ c.ways, N6.sem .way x) ↔ ∀ w ∈ c.ways, C3 w.ends ∧ C3 w.to := ⟨fun h s hs => Classical.byContradiction fun q => h ⟨s, hs, q⟩, fun h ⟨s, hs, q⟩ => q (h s hs)⟩
 with_reducible repeat' (first | apply ai | intro _ | ((first | apply s1 | apply s3 | apply s4) <;> intro hb <;> simp -implicitDefEqProofs only [hb, go_sem, hh, seval] <;> try simp only [qz] at hb))
 all_goals first | rfl | omega | assumption | exact y2 _ (by assumption) | exact y3 _ (by assumption) | skip
 all_goals first
  | exact uN (e2.trans ⟨fun q => ⟨e1.1 (by assumption), q, by assumption, by omega, by omega⟩, fun q => q.2.1⟩)
  | exact uF (fun q => absurd q.2.2.1 (by assumption))
  | exact uF (fun q => by have h1 := q.2.2.2.1; have h2 := q.2.2.2.2; omega)
  | exact uF (fun q => absurd hb (e1.2 q.1))
  | skip
end
def oz : Ct := Ak (lc D7.ag l0) (fun p => E0 p.1) (fun p => .t (.v (.bool (BM (DR p.1)))))
section
attribute [local go_sem] xz pC cz kE yL yM BQ BP Bool.not_true Bool.not_false By DO Jj Jk Jl Jm Dl Dn Dm Do AX AW lm
set_option maxHeartbeats 6400000 in
theorem qU {G : Gt} (hG : Ah G) (hh : G.e 43 = AA 0 xz ∧ G.e 74 = AA 0 pC ∧ G.e 44 = AA 0 cz ∧ G.e 36 = AA 0 kE ∧ G.e 76 = AA 0 yL ∧ G.e 77 = AA 0 yM) : Gd G 23 (AA 0 oz) := by
 refine gr (fn := Tryz.f23) (n := 1) rfl rfl hG ?_
 rintro ⟨h, ⟨⟩⟩ hpre
 simp -implicitDefEqProofs only [Tryz.f23, go_sem, hh, seval] at hpre ⊢
 obtain ⟨zc, zs, ⟨lb, zb⟩, zl⟩ := hpre
 have e1 : ∀ j, j < h.boxes.length → ((∃ x ∈ (h.boxes.getD j default).mails, N5.sem .bad x) ↔ ¬ ∀ g ∈ (h.boxes.getD j default).mails, (BS g.frm ∨ Ab g.frm) ∧ CZ g.body) := fun j _ => ⟨fun ⟨s, hs, q⟩ f => q (f s hs), fun f => Classical.byContradiction fun q => f fun s hs => Classical.byContradiction fun r => q ⟨s, hs, r⟩⟩
 with_reducible repeat' (first | apply ai | intro _ | ((first | apply s1 | apply s3 | apply s4) <;> intro hb <;> simp -implicitDefEqProofs only [hb, go_sem, hh, seval] <;> try simp only [qz] at hb))
 all_goals first
  | rfl
  | omega
  | assumption
  | exact uF (fun q => absurd q.2.1 (by assumption))
  | exact uF (fun q => absurd q.2.2 (by assumption))
  | skip
 all_goals
  refine AE [] (ι := {i : Nat // i ≤ h.boxes.length ∧ ∀ j, j < i → Xs h j}) (fun p => ⟨[(1, .pb 1001 0), (3, .fn 75 []), (17, .t (.sl 3 (h.boxes.map Bo))), (18, .t (.v (.int .i64 h.boxes.length))), (19, .t (.v (.int .i64 p.1)))], [(1001, some (.box ((Ai h).map .t)))]⟩) (fun p => h.boxes.length - p.1) ⟨0, by simp, by simp⟩ rfl ?_ ?_
  ·simp -implicitDefEqProofs only [go_sem, hh, seval]
   try simp
  ·rintro ⟨i, hi, hall⟩
   by_cases hlt : (i : Int) < h.boxes.length
   ·have hbx := zb _ (AF (xs := h.boxes) (j := i) (by omega))
    obtain ⟨za, zm⟩ := hbx
    have y1 : (h.boxes.getD i default).addr.domain.size ≤ 2000000 := by have : (h.boxes.getD i default).addr.domain.size ≤ 1048576 := za.2; omega
    have y2 : ∀ x ∈ (h.boxes.getD i default).mails, N5.pre .bad x := fun x hx => by
     obtain ⟨⟨_, g1⟩, ⟨_, g2⟩⟩ := zm.2 x hx
     refine ⟨by have : x.frm.domain.size ≤ 1048576 := g1; omega, fun s hs => ?_⟩
     have : s.size ≤ 1048576 := g2 s hs
     omega
    have e2 := e1 i (by omega)
    simp -implicitDefEqProofs only [hlt, decide_true, tn, go_sem, hh, seval]
    with_reducible repeat' (first | apply ai | intro _ | ((first | apply s1 | apply s3 | apply s4) <;> intro hb <;> simp -implicitDefEqProofs only [hb, go_sem, hh, seval] <;> try simp only [qz] at hb))
    all_goals (try simp only [maxLen, tn] at *)
    all_goals have hnat : ((i : Int) - 1).toNat = i - 1 := by omega
    all_goals first
     | rfl
     | omega
     | assumption
     | exact y2 _ (by assumption)
     | exact uF (fun q => absurd (q.1 i (by omega)).1.2 (by assumption))
     | exact uF (fun q => absurd (q.1 i (by omega)).2.2 (by assumption))
     | exact uF (fun q => absurd hb (fun f => e2.1 f (q.1 i (by omega)).1.1))
     | exact uF (fun q => by have h9 := (IW _ _).2 ((q.1 i (by omega)).2.1 (by omega)); rw [← hnat] at h9; omega)
     | skip
    all_goals
     refine ⟨⟨i + 1, by omega, Cr hall ⟨⟨Classical.byContradiction fun f => absurd (e2.2 f) (by assumption), by assumption⟩, fun _ => by first | (exact (IW _ _).1 (by rw [← hnat]; omega)) | (exfalso; omega), by assumption⟩⟩, by dsimp only; omega, ?_⟩
     simp -implicitDefEqProofs only [go_sem, hh, seval]
     try simp
   ·simp -implicitDefEqProofs only [hlt, decide_false, go_sem, hh, seval]
    with_reducible repeat' (first | apply ai | intro _ | ((first | apply s1 | apply s3 | apply s4) <;> intro hb <;> simp -implicitDefEqProofs only [hb, go_sem, hh, seval] <;> try simp only [qz] at hb))
    all_goals first | rfl | omega | exact uT ⟨fun j hj => hall j (by omega), by assumption, by assumption⟩ | skip
end
def zx : ByteArray := ⟨#[73, 100, 58, 32]⟩
def Mw (s : ByteArray) : Prop := 4 < s.size ∧ s.extract 0 4 = zx
noncomputable def B9 : List ByteArray → ByteArray
 | [] => ⟨#[]⟩
 | x :: r => bif BM (Mw x) then x else B9 r
theorem bC {xs : List ByteArray} {i : Nat} (h : i < xs.length) (ha : Mw (xs.getD i default)) : B9 (xs.drop i) = xs.getD i default := by
 rw [AZ h, B9, Ae ha]; rfl
theorem iy {xs : List ByteArray} {i : Nat} (h : i < xs.length) (ha : ¬ Mw (xs.getD i default)) : B9 (xs.drop i) = B9 (xs.drop (i + 1)) := by
 rw [AZ h, B9, AN ha]; rfl
theorem bA {xs : List ByteArray} {i : Nat} (h : xs.length ≤ i) : B9 (xs.drop i) = ⟨#[]⟩ := by
 rw [List.drop_eq_nil_of_le h, B9]
def zG (s p : ByteArray) : Prop := p.size ≤ s.size ∧ s.extract 0 p.size = p
section
end
def NE : Ct := Ak (lc Al.asl l0) (fun p => True) (fun p => .t (.v (.string (B9 p.1))))
section
attribute [local go_sem] lm
theorem fJ {G : Gt} (hG : Ah G) : Gd G 107 (AA 0 NE) := by
 refine gr (fn := Tryz.f107) (n := 1) rfl rfl hG ?_
 rintro ⟨xs, ⟨⟩⟩ hpre
 simp -implicitDefEqProofs only [Tryz.f107, go_sem, seval] at hpre ⊢
 refine AE [] (ι := {i : Nat // i ≤ xs.length ∧ B9 xs = B9 (xs.drop i)}) (fun p => ⟨[(0, .t (.sl 1 (xs.map AG))), (3, .t (.v (.int .i64 p.1)))], []⟩) (fun p => xs.length - p.1) ⟨0, by simp, rfl⟩ rfl ?_ ?_
 ·simp -implicitDefEqProofs only [go_sem, seval]
  try simp
 ·rintro ⟨i, hi, hix⟩
  by_cases hlt : (i : Int) < xs.length
  ·simp -implicitDefEqProofs only [hlt, decide_true, tn, go_sem, seval]
   with_reducible repeat' (first | apply ai | intro _ | ((first | apply s1 | apply s3 | apply s4) <;> intro hb <;> simp -implicitDefEqProofs only [hb, go_sem, seval] <;> try simp only [qz] at hb))
   all_goals (try simp only [maxLen, tn] at *)
   all_goals first
    | rfl
    | omega
    | (rw [hix, bC (by omega) ⟨by omega, by assumption⟩]; done)
    | skip
   all_goals
    refine ⟨⟨i + 1, by omega, by rw [hix, iy (by omega) (fun h => by first | exact absurd h.2 (by assumption) | (have := h.1; omega))]⟩, by dsimp only; omega, ?_⟩
    simp -implicitDefEqProofs only [go_sem, seval]
    try simp
  ·simp -implicitDefEqProofs only [hlt, decide_false, go_sem, seval]
   with_reducible repeat' (first | apply ai | intro _ | ((first | apply s1 | apply s3 | apply s4) <;> intro hb <;> simp -implicitDefEqProofs only [hb, go_sem, seval] <;> try simp only [qz] at hb))
   all_goals first | rfl | omega | skip
   rw [hix, bA (by omega)]
end
section
attribute [local go_sem] lm AX AW
end
theorem kc {x : ByteArray} : Al.decL [[.v (.string x)]] = some [x] := Al.decL_map [x]
def mo (l : Ls) : Prop := ¬ l.mark = ⟨#[]⟩ ∧ B9 [l.mark] = l.mark ∧ BS l.addr ∧ I0 l.mark
def Qj (h : Hs) : ByteArray := h.conf.name
def mz (w : Wd) : Prop := (∀ h ∈ w.hosts, DR h) ∧ (w.hosts.map Qj).Nodup ∧ (∀ l ∈ w.given, mo l) ∧ (1 ≤ (w.hosts.length : Int) ∧ (w.hosts.length : Int) ≤ 4) ∧ (0 ≤ w.now ∧ w.now ≤ 9999) ∧ (0 ≤ w.marks ∧ w.marks ≤ 60)
theorem XI {xs : List Hs} (h : ∀ j, j < xs.length → ∀ k, k < j → ¬ (xs.getD k default).conf.name = (xs.getD j default).conf.name) : (xs.map Qj).Nodup := by
 rw [List.nodup_iff_pairwise_ne, List.pairwise_iff_getElem]
 intro k j hk hj hkj
 rw [lm] at hk hj
 have := h j hj k hkj
 simpa [hk, hj, Qj] using this
theorem Wz {xs : List Hs} (h : (xs.map Qj).Nodup) {k i : Nat} (hk : k < i) (hi : i < xs.length) : ¬ (xs.getD k default).conf.name = (xs.getD i default).conf.name := fun e => by
 have q1 : k < xs.length := by omega
 simp only [List.getD_eq_getElem?_getD, List.getElem?_eq_getElem q1, List.getElem?_eq_getElem hi, Option.getD_some] at e
 exact List.pairwise_iff_getElem.1 (List.nodup_iff_pairwise_ne.1 h) k i (by simpa using q1) (by simpa using hi) hk (by simpa [Qj] using e)
section
attribute [local go_sem] BQ BP Bool.not_true Bool.not_false By DO
end
section
attribute [local go_sem] c8 AX AW
end
def xJ : Ct := Ak (lc jn.ag l0) (fun p => True) (fun p => .t (.v (.bool (BM (mz p.1)))))
section
attribute [local go_sem] kG IY NE RD Ju AX AW lm kc
set_option maxHeartbeats 6400000 in
theorem rH {G : Gt} (hG : Ah G) (hh : G.e 39 = AA 0 kG ∧ G.e 106 = AA 0 IY ∧ G.e 107 = AA 0 NE ∧ G.e 108 = AA 0 RD ∧ G.e 69 = AA 0 Ju) : Gd G 57 (AA 0 xJ) := by
 refine gr (fn := Tryz.f57) (n := 1) rfl rfl hG ?_
 rintro ⟨w, ⟨⟩⟩ hpre
 simp -implicitDefEqProofs only [Tryz.f57, go_sem, hh, seval] at hpre ⊢
 refine AE [] (ι := {i : Nat // i ≤ w.hosts.length ∧ (∀ j, j < i → DR (w.hosts.getD j default)) ∧ ∀ j, j < i → ∀ k, k < j → ¬ (w.hosts.getD k default).conf.name = (w.hosts.getD j default).conf.name}) (fun p => ⟨[(1, .pb 1001 0), (3, .t (.v (.int .i64 p.1)))], [(1001, some (.box ((I6 w).map .t)))]⟩) (fun p => w.hosts.length - p.1) ⟨0, by simp, by simp, by simp⟩ rfl ?_ ?_
 ·simp -implicitDefEqProofs only [go_sem, hh, seval]
  try simp
 ·rintro ⟨i, hi, hall, hno⟩
  by_cases hlt : (i : Int) < w.hosts.length
  ·simp -implicitDefEqProofs only [hlt, decide_true, tn, go_sem, hh, seval]
   with_reducible repeat' (first | apply ai | intro _ | ((first | apply s1 | apply s3 | apply s4) <;> intro hb <;> simp -implicitDefEqProofs only [hb, go_sem, hh, seval] <;> try simp only [qz] at hb))
   all_goals (try simp only [maxLen, tn] at *)
   all_goals first
    | rfl
    | omega
    | exact uF (fun q => absurd (q.1 (w.hosts.getD i default) (AF (by omega))) (by assumption))
    | skip
   refine AE [] (ι := {k : Nat // k ≤ i ∧ ∀ j, j < k → ¬ (w.hosts.getD j default).conf.name = (w.hosts.getD i default).conf.name}) (fun p => ⟨[(1, .pb 1001 0), (3, .t (.v (.int .i64 i))), (4, .t (.v (.int .i64 p.1)))], [(1001, some (.box ((I6 w).map .t)))]⟩) (fun p => i - p.1) ⟨0, by simp, by simp⟩ rfl ?_ ?_
   ·simp -implicitDefEqProofs only [go_sem, hh, seval]
    try simp
   ·rintro ⟨k, hk, hk2⟩
    by_cases hlt2 : (k : Int) < i
    ·simp -implicitDefEqProofs only [hlt2, decide_true, tn, go_sem, hh, seval]
     with_reducible repeat' (first | apply ai | intro _ | ((first | apply s1 | apply s3 | apply s4) <;> intro hb <;> simp -implicitDefEqProofs only [hb, go_sem, hh, seval] <;> try simp only [qz] at hb))
     all_goals (try simp only [maxLen, tn] at *)
     all_goals first
      | rfl
      | omega
      | exact uF (fun q => Wz q.2.1 (k := k) (i := i) (by omega) (by omega) (by assumption))
      | skip
     all_goals
      refine ⟨⟨k + 1, by omega, Cr hk2 (by assumption)⟩, by dsimp only; omega, ?_⟩
      simp -implicitDefEqProofs only [go_sem, hh, seval]
      try simp
    ·simp -implicitDefEqProofs only [hlt2, decide_false, go_sem, hh, seval]
     with_reducible repeat' (first | apply ai | intro _ | ((first | apply s1 | apply s3 | apply s4) <;> intro hb <;> simp -implicitDefEqProofs only [hb, go_sem, hh, seval] <;> try simp only [qz] at hb))
     all_goals first | rfl | omega | skip
     refine ⟨⟨i + 1, by omega, Cr hall (by assumption), Cr (P := fun j => ∀ k, k < j → ¬ (w.hosts.getD k default).conf.name = (w.hosts.getD j default).conf.name) hno (fun q hq => hk2 q (by omega))⟩, by dsimp only; omega, ?_⟩
     simp -implicitDefEqProofs only [go_sem, hh, seval]
     try simp
  ·have hA : ∀ h ∈ w.hosts, DR h := BO fun j hj => hall j (by omega)
   have hN : (w.hosts.map Qj).Nodup := XI fun j hj q hq => hno j (by omega) q hq
   simp -implicitDefEqProofs only [hlt, decide_false, go_sem, hh, seval]
   with_reducible repeat' (first | apply ai | intro _ | ((first | apply s1 | apply s3 | apply s4) <;> intro hb <;> simp -implicitDefEqProofs only [hb, go_sem, hh, seval] <;> try simp only [qz] at hb))
   all_goals first | rfl | omega | skip
   refine AE [] (ι := {i : Nat // i ≤ w.given.length ∧ ∀ j, j < i → mo (w.given.getD j default)}) (fun p => ⟨[(1, .pb 1001 0), (5, .t (.v (.int .i64 p.1)))], [(1001, some (.box ((I6 w).map .t)))]⟩) (fun p => w.given.length - p.1) ⟨0, by simp, by simp⟩ rfl ?_ ?_
   ·simp -implicitDefEqProofs only [go_sem, hh, seval]
    try simp
   ·rintro ⟨k, hk, hall2⟩
    by_cases hlt2 : (k : Int) < w.given.length
    ·simp -implicitDefEqProofs only [hlt2, decide_true, tn, go_sem, hh, seval]
     with_reducible repeat' (first | apply ai | intro _ | ((first | apply s1 | apply s3 | apply s4) <;> intro hb <;> simp -implicitDefEqProofs only [hb, go_sem, hh, seval] <;> try simp only [qz] at hb))
     all_goals (try simp only [maxLen, tn] at *)
     all_goals first
      | rfl
      | omega
      | decide
      | exact uF (fun q => absurd (q.2.2.1 (w.given.getD k default) (AF (by omega))).1 (by simpa using hb))
      | exact uF (fun q => absurd (q.2.2.1 (w.given.getD k default) (AF (by omega))).2.1 (by assumption))
      | exact uF (fun q => absurd (q.2.2.1 (w.given.getD k default) (AF (by omega))).2.2.1 (by assumption))
      | exact uF (fun q => absurd (q.2.2.1 (w.given.getD k default) (AF (by omega))).2.2.2 (by assumption))
      | skip
     all_goals
      refine ⟨⟨k + 1, by omega, Cr hall2 ⟨by first | assumption | (simpa using hb), by assumption, by assumption, by assumption⟩⟩, by dsimp only; omega, ?_⟩
      simp -implicitDefEqProofs only [go_sem, hh, seval]
      try simp
    ·have hB : ∀ l ∈ w.given, mo l := BO fun j hj => hall2 j (by omega)
     simp -implicitDefEqProofs only [hlt2, decide_false, go_sem, hh, seval]
     with_reducible repeat' (first | apply ai | intro _ | ((first | apply s1 | apply s3 | apply s4) <;> intro hb <;> simp -implicitDefEqProofs only [hb, go_sem, hh, seval] <;> try simp only [qz] at hb))
     all_goals first
      | rfl
      | omega
      | exact uE ⟨fun q => ⟨hA, hN, hB, by assumption, by assumption, q⟩, fun q => q.2.2.2.2.2⟩
      | exact uF (fun q => absurd q.2.2.2.1 (by assumption))
      | exact uF (fun q => absurd q.2.2.2.2.1 (by assumption))
      | skip
end
section
attribute [local go_sem] oz cz Xl tc AX AW lm kc List.mem_singleton forall_eq List.length_cons List.length_nil List.length_append List.nil_append Nat.zero_add Bool.not_false Bool.not_true
end
def DD {α : Type} (f : α → Int) : List α → Int
 | [] => 0
 | x :: r => f x + DD f r
theorem cU {α : Type} [Inhabited α] {f : α → Int} {xs : List α} {i : Nat} (h : i < xs.length) : DD f (xs.drop i) = f (xs.getD i default) + DD f (xs.drop (i + 1)) := by
 rw [AZ h]; rfl
theorem jT {α : Type} {f : α → Int} {xs : List α} {i : Nat} (h : xs.length ≤ i) : DD f (xs.drop i) = 0 := by
 rw [List.drop_eq_nil_of_le h]; rfl
theorem Se {α : Type} {f : α → Int} {B : Int} : ∀ {xs : List α}, (∀ x ∈ xs, 0 ≤ f x ∧ f x ≤ B) → 0 ≤ DD f xs ∧ DD f xs ≤ B * xs.length
 | [], _ => by simp [DD]
 | x :: r, h => by
   have h1 := h x (by simp)
   have h2 := Se (xs := r) fun y hy => h y (by simp [hy])
   have e1 : B * ((r.length + 1 : Nat) : Int) = B * r.length + B := by rw [Int.natCast_add, Int.mul_add]; simp
   simp only [DD, List.length_cons]
   omega
theorem cT {α : Type} {f : α → Int} {xs : List α} (h : ∀ x ∈ xs, 0 ≤ f x) (i : Nat) : 0 ≤ DD f (xs.drop i) := by
 have h2 : ∀ {ys : List α}, (∀ x ∈ ys, 0 ≤ f x) → 0 ≤ DD f ys := fun {ys} => by
  induction ys with
  | nil => intro _; exact Int.le_refl _
  | cons y r ih =>
    intro h
    have h1 := h y (by simp)
    have h3 := ih fun z hz => h z (by simp [hz])
    show 0 ≤ f y + DD f r
    omega
 exact h2 fun x hx => h x (List.mem_of_mem_drop hx)
def OC (x : Im) : Int := x.to.length
open Classical in
noncomputable def Fb (s : Sp) : Int := if Bg s then DD OC s.items else -1
theorem M2 {s : Sp} (h : Bg s) : Fb s = DD OC s.items := if_pos h
theorem dV {s : Sp} (h : ¬ Bg s) : Fb s = -1 := if_neg h
theorem VE {s : Sp} (h : Bg s) : 0 ≤ DD OC s.items ∧ DD OC s.items ≤ 40 := by
 have h1 := Se (f := OC) (B := 4) (xs := s.items) fun x hx => by
  have := (h.1 x hx).1.2.2.2.2.1
  unfold OC; omega
 have h2 := h.2.2.2
 omega
def xG : Ct := Ak (lc N4.ag l0) (fun p => FR p.1) (fun p => .t (.v (.int .i64 (Fb p.1))))
section
attribute [local go_sem] pC AX AW lm
theorem qX {G : Gt} (hG : Ah G) (hh : G.e 74 = AA 0 pC) : Gd G 26 (AA 0 xG) := by
 refine gr (fn := Tryz.f26) (n := 1) rfl rfl hG ?_
 rintro ⟨s, ⟨⟩⟩ hpre
 simp -implicitDefEqProofs only [Tryz.f26, go_sem, hh, seval] at hpre ⊢
 by_cases h : Bg s
 ·have b1 := Ae h
  have hm := VE h
  rw [M2 h]
  simp -implicitDefEqProofs only [b1, go_sem, hh, seval]
  with_reducible repeat' (first | apply ai | intro _ | ((first | apply s1 | apply s3 | apply s4) <;> intro hb <;> simp -implicitDefEqProofs only [hb, go_sem, hh, seval] <;> try simp only [qz] at hb))
  all_goals first | rfl | omega | assumption | contradiction | skip
  all_goals
   refine AE [] (ι := {p : Nat × Int // p.1 ≤ s.items.length ∧ 0 ≤ p.2 ∧ p.2 + DD OC (s.items.drop p.1) = DD OC s.items}) (fun p => ⟨[(1, .pb 1001 0), (3, .t (.v (.int .i64 p.1.2))), (10, .t (.sl 5 (s.items.map An))), (11, .t (.v (.int .i64 s.items.length))), (12, .t (.v (.int .i64 p.1.1)))], [(1001, some (.box ((Dx s).map .t)))]⟩) (fun p => s.items.length - p.1.1) ⟨(0, 0), by simp, by simp, by simp⟩ rfl ?_ ?_
   ·simp -implicitDefEqProofs only [go_sem, hh, seval]
    try simp
   ·rintro ⟨⟨i, v⟩, hi, h0, hv⟩
    dsimp only at hi h0 hv ⊢
    by_cases hlt : (i : Int) < s.items.length
    ·have Ap := cU (f := OC) (xs := s.items) (i := i) (by omega)
     have hrest := cT (f := OC) (xs := s.items) (fun x _ => by unfold OC; omega) (i + 1)
     have hr : OC (s.items.getD i default) = (s.items.getD i default).to.length := rfl
     simp -implicitDefEqProofs only [hlt, decide_true, tn, go_sem, hh, seval]
     with_reducible repeat' (first | apply ai | intro _ | ((first | apply s1 | apply s3 | apply s4) <;> intro hb <;> simp -implicitDefEqProofs only [hb, go_sem, hh, seval] <;> try simp only [qz] at hb))
     all_goals (try simp only [maxLen, tn] at *)
     all_goals first | rfl | omega | skip
     refine ⟨⟨(i + 1, v + (s.items.getD i default).to.length), by dsimp only; omega, by dsimp only; omega, by dsimp only; omega⟩, by dsimp only; omega, ?_⟩
     simp -implicitDefEqProofs only [go_sem, hh, seval]
     try simp
    ·have Ap := jT (f := OC) (xs := s.items) (i := i) (by omega)
     simp -implicitDefEqProofs only [hlt, decide_false, go_sem, hh, seval]
     with_reducible repeat' (first | apply ai | intro _ | ((first | apply s1 | apply s3 | apply s4) <;> intro hb <;> simp -implicitDefEqProofs only [hb, go_sem, hh, seval] <;> try simp only [qz] at hb))
     all_goals first | rfl | omega | (rw [← hv, Ap, Int.add_zero]; done) | skip
 ·have b1 := AN h
  rw [dV h]
  simp -implicitDefEqProofs only [b1, go_sem, hh, seval]
  with_reducible repeat' (first | apply ai | intro _ | ((first | apply s1 | apply s3 | apply s4) <;> intro hb <;> simp -implicitDefEqProofs only [hb, go_sem, hh, seval] <;> try simp only [qz] at hb))
  all_goals first | rfl | omega | assumption | contradiction | skip
end
def yk (h : Hs) : Int := h.spool.items.length
noncomputable def yu (h : Hs) : Int := Fb h.spool
def yr (b : Bx) : Int := b.mails.length
def xp (h : Hs) : Int := DD yr h.boxes
def yn (h : Hs) : Int := h.lost.length
theorem Ux {h : Hs} (hh : DR h) (ho : E0 h) : (0 ≤ yk h ∧ yk h ≤ 10) ∧ (0 ≤ yu h ∧ yu h ≤ 40) ∧ (0 ≤ xp h ∧ xp h ≤ 1099511627776) ∧ (0 ≤ yn h ∧ yn h ≤ 1048576) := by
 obtain ⟨_, _, ⟨lb, zb⟩, ⟨ll, _⟩⟩ := ho
 have hs := hh.2.2
 have h1 := hs.2.2.2
 have h2 := VE hs
 have h3 := Se (f := yr) (B := 1048576) (xs := h.boxes) fun b hb => by
  have := (zb b hb).2.1
  unfold yr; omega
 refine ⟨by unfold yk; omega, by unfold yu; rw [M2 hs]; exact h2, ?_, by unfold yn; omega⟩
 unfold xp
 have h4 : (1048576 : Int) * h.boxes.length ≤ 1048576 * 1048576 := Int.mul_le_mul_of_nonneg_left lb (by decide)
 omega
section
variable {a b c d x : Int}
end
section
attribute [local go_sem] xG AX AW lm List.map_nil Aa Bd J3
end
open Classical in
noncomputable def Jc (d : ByteArray) : Wy → List Wy → Wy
 | b, [] => b
 | b, w :: r => Jc d (if Qp d w.ends ∧ b.ends.size < w.ends.size then w else b) r
noncomputable def JO (c : Cf) (d : ByteArray) : ByteArray := (Jc d ⟨⟨#[]⟩, ⟨#[]⟩⟩ c.ways).to
theorem cn {d : ByteArray} {b : Wy} {xs : List Wy} {i : Nat} (h : i < xs.length) (h1 : Qp d (xs.getD i default).ends) (h2 : b.ends.size < (xs.getD i default).ends.size) : Jc d b (xs.drop i) = Jc d (xs.getD i default) (xs.drop (i + 1)) := by
 rw [AZ h, Jc, if_pos ⟨h1, h2⟩]
theorem cm {d : ByteArray} {b : Wy} {xs : List Wy} {i : Nat} (h : i < xs.length) (h1 : ¬ (Qp d (xs.getD i default).ends ∧ b.ends.size < (xs.getD i default).ends.size)) : Jc d b (xs.drop i) = Jc d b (xs.drop (i + 1)) := by
 rw [AZ h, Jc, if_neg h1]
theorem Qd {d : ByteArray} {b : Wy} {xs : List Wy} {i : Nat} (h : xs.length ≤ i) : Jc d b (xs.drop i) = b := by
 rw [List.drop_eq_nil_of_le h, Jc]
open Classical in
noncomputable def WC (c : Cf) (d : ByteArray) : ByteArray := if d ∈ c.own then ⟨#[]⟩ else JO c d
theorem jd {c : Cf} {d : ByteArray} (h : d ∈ c.own) : WC c d = ⟨#[]⟩ := if_pos h
theorem WD {c : Cf} {d : ByteArray} (h : ¬ d ∈ c.own) : WC c d = JO c d := if_neg h
def RF : Ct := Ak (lc IH.ag (lc Aq l0)) (fun p => True) (fun p => .t (.v (.string (JO p.1 p.2.1))))
section
attribute [local go_sem] nq AX AW lm
theorem fN {G : Gt} (hG : Ah G) (hh : G.e 145 = AA 0 nq) : Gd G 112 (AA 0 RF) := by
 refine gr (fn := Tryz.f112) (n := 2) rfl rfl hG ?_
 rintro ⟨c, d, ⟨⟩⟩ hpre
 simp -implicitDefEqProofs only [Tryz.f112, go_sem, hh, seval] at hpre ⊢
 refine AE [] (ι := {p : Nat × Wy // p.1 ≤ c.ways.length ∧ JO c d = (Jc d p.2 (c.ways.drop p.1)).to}) (fun p => ⟨[(1, .t (.v (.string d))), (2, .pb 1002 0), (5, .t (.v (.string p.1.2.ends))), (6, .t (.v (.string p.1.2.to))), (7, .t (.v (.int .i64 p.1.1)))], [(1002, some (.box ((Cu c).map .t)))]⟩) (fun p => c.ways.length - p.1.1) ⟨(0, ⟨⟨#[]⟩, ⟨#[]⟩⟩), by simp, rfl⟩ rfl ?_ ?_
 ·simp -implicitDefEqProofs only [go_sem, hh, seval]
  try simp
 ·rintro ⟨⟨i, b⟩, hi, hw⟩
  dsimp only at hi hw ⊢
  by_cases hlt : (i : Int) < c.ways.length
  ·simp -implicitDefEqProofs only [hlt, decide_true, tn, go_sem, hh, seval]
   with_reducible repeat' (first | apply ai | intro _ | ((first | apply s1 | apply s3 | apply s4) <;> intro hb <;> simp -implicitDefEqProofs only [hb, go_sem, hh, seval] <;> try simp only [qz] at hb))
   all_goals (try simp only [maxLen, tn] at *)
   all_goals first | rfl | omega | skip
   all_goals first
    | (refine ⟨⟨(i + 1, c.ways.getD i default), by dsimp only; omega, by dsimp only; rw [hw, cn (by omega) (by assumption) (by omega)]⟩, by dsimp only; omega, ?_⟩
       simp -implicitDefEqProofs only [go_sem, hh, seval]
       simp; done)
    | (refine ⟨⟨(i + 1, b), by dsimp only; omega, by dsimp only; rw [hw, cm (by omega) (fun q => by first | exact absurd q.1 (by assumption) | (have := q.2; omega))]⟩, by dsimp only; omega, ?_⟩
       simp -implicitDefEqProofs only [go_sem, hh, seval]
       simp; done)
    | skip
  ·simp -implicitDefEqProofs only [hlt, decide_false, go_sem, hh, seval]
   with_reducible repeat' (first | apply ai | intro _ | ((first | apply s1 | apply s3 | apply s4) <;> intro hb <;> simp -implicitDefEqProofs only [hb, go_sem, hh, seval] <;> try simp only [qz] at hb))
   all_goals first | rfl | omega | (rw [hw, Qd (by omega)]; done) | skip
end
def xH : Ct := Ak (lc IH.ag (lc Aq l0)) (fun p => HT p.1 ∧ HQ p.1 ∧ p.2.1.size ≤ 2000000 ∧ C3 p.2.1) (fun p => .t (.v (.string (WC p.1 p.2.1))))
section
attribute [local go_sem] kE yP AX AW lm
set_option maxHeartbeats 800000 in
theorem qp {G : Gt} (hG : Ah G) (hh : G.e 36 = AA 0 kE ∧ G.e 82 = AA 0 yP) : Gd G 37 (AA 0 xH) := by
 refine gr (fn := Tryz.f37) (n := 2) rfl rfl hG ?_
 rintro ⟨c, d, ⟨⟩⟩ hpre
 simp -implicitDefEqProofs only [Tryz.f37, go_sem, hh, seval] at hpre ⊢
 obtain ⟨⟨_, _, ⟨lw, zw⟩⟩, hc, hd, hdd⟩ := hpre
 with_reducible repeat' (first | apply ai | intro _ | ((first | apply s1 | apply s3 | apply s4) <;> intro hb <;> simp -implicitDefEqProofs only [hb, go_sem, hh, seval] <;> try simp only [qz] at hb))
 all_goals first | rfl | omega | (rw [jd hb]; done) | skip
 refine AE [] (ι := {p : Nat × Wy // p.1 ≤ c.ways.length ∧ JO c d = (Jc d p.2 (c.ways.drop p.1)).to}) (fun p => ⟨[(1, .t (.v (.string d))), (2, .pb 1002 0), (5, .pb 1005 0), (13, .t (.sl 2 (c.ways.map Bp))), (14, .t (.v (.int .i64 c.ways.length))), (15, .t (.v (.int .i64 p.1.1)))], [(1002, some (.box ((Cu c).map .t))), (1005, some (.box ((Bp p.1.2).map .t)))]⟩) (fun p => c.ways.length - p.1.1) ⟨(0, ⟨⟨#[]⟩, ⟨#[]⟩⟩), by simp, rfl⟩ rfl ?_ ?_
 ·simp -implicitDefEqProofs only [go_sem, hh, seval]
  try simp
 ·rintro ⟨⟨i, b⟩, hi, hw⟩
  dsimp only at hi hw ⊢
  by_cases hlt : (i : Int) < c.ways.length
  ·have hm := AF (xs := c.ways) (j := i) (by omega)
   have hz : (c.ways.getD i default).ends.size ≤ 1500000 := by have : (c.ways.getD i default).ends.size ≤ 1048576 := (zw _ hm).1; omega
   have hde := (hc.2.1 _ hm).1
   simp -implicitDefEqProofs only [hlt, decide_true, tn, go_sem, hh, seval]
   with_reducible repeat' (first | apply ai | intro _ | ((first | apply s1 | apply s3 | apply s4) <;> intro hb <;> simp -implicitDefEqProofs only [hb, go_sem, hh, seval] <;> try simp only [qz] at hb))
   all_goals (try simp only [maxLen, tn] at *)
   all_goals first | rfl | omega | skip
   all_goals first
    | (refine ⟨⟨(i + 1, c.ways.getD i default), by dsimp only; omega, by dsimp only; rw [hw, cn (by omega) (And.right (And.right (by assumption))) (by omega)]⟩, by dsimp only; omega, ?_⟩
       simp -implicitDefEqProofs only [go_sem, hh, seval]
       simp; done)
    | (refine ⟨⟨(i + 1, b), by dsimp only; omega, by dsimp only; rw [hw, cm (by omega) (fun q => by first | exact absurd (And.intro hdd (And.intro hde q.1)) (by assumption) | (have := q.2; omega))]⟩, by dsimp only; omega, ?_⟩
       simp -implicitDefEqProofs only [go_sem, hh, seval]
       simp; done)
    | skip
  ·simp -implicitDefEqProofs only [hlt, decide_false, go_sem, hh, seval]
   with_reducible repeat' (first | apply ai | intro _ | ((first | apply s1 | apply s3 | apply s4) <;> intro hb <;> simp -implicitDefEqProofs only [hb, go_sem, hh, seval] <;> try simp only [qz] at hb))
   all_goals first | rfl | omega | (rw [WD (by assumption), hw, Qd (by omega)]; done) | skip
end
def JP (c : Cf) (to : ByteArray) (w : Int) (r : Rc) : Prop := r.next ≤ w ∧ ((r.addr.domain ∈ c.own ∧ to = ⟨#[]⟩) ∨ (¬ r.addr.domain ∈ c.own ∧ ¬ to = ⟨#[]⟩ ∧ JO c r.addr.domain = to))
noncomputable def A3 (c : Cf) (to : ByteArray) (w : Int) : List Rc → List Ad
 | [] => []
 | r :: t => bif BM (JP c to w r) then r.addr :: A3 c to w t else A3 c to w t
section
variable {c : Cf} {to : ByteArray} {w : Int} {xs : List Rc} {i : Nat}
theorem SR (h : i < xs.length) (hn : JP c to w (xs.getD i default)) : A3 c to w (xs.drop i) = (xs.getD i default).addr :: A3 c to w (xs.drop (i + 1)) := by
 rw [AZ h, A3, Ae hn]; rfl
theorem SQ (h : i < xs.length) (hn : ¬ JP c to w (xs.getD i default)) : A3 c to w (xs.drop i) = A3 c to w (xs.drop (i + 1)) := by
 rw [AZ h, A3, AN hn]; rfl
theorem K8 (h : xs.length ≤ i) : A3 c to w (xs.drop i) = [] := by
 rw [List.drop_eq_nil_of_le h, A3]
end
theorem Fx (c : Cf) (to : ByteArray) (w : Int) : ∀ xs : List Rc, (A3 c to w xs).length ≤ xs.length
 | [] => Nat.le_refl _
 | r :: t => by
   rw [A3]
   have := Fx c to w t
   cases BM (JP c to w r) <;> simp only [cond_true, cond_false, List.length_cons] <;> omega
theorem Ew (c : Cf) (to : ByteArray) (w : Int) : ∀ xs : List Rc, ∀ a ∈ A3 c to w xs, ∃ r ∈ xs, r.addr = a ∧ JP c to w r
 | [], a, h => by cases h
 | r :: t, a, h => by
   rw [A3] at h
   by_cases hn : JP c to w r
   ·rw [Ae hn] at h
    rcases List.mem_cons.1 h with e | h
    ·exact ⟨r, by simp, e.symm, hn⟩
    ·obtain ⟨q, hq, he⟩ := Ew c to w t a h
     exact ⟨q, by simp [hq], he⟩
   ·rw [AN hn] at h
    obtain ⟨q, hq, he⟩ := Ew c to w t a h
    exact ⟨q, by simp [hq], he⟩
noncomputable def JJ (c : Cf) (x : Im) (to : ByteArray) (w : Int) : Ml := ⟨x.frm, A3 c to w x.to, x.body⟩
def se (p : Ml × Bool) : AV := .tup [QJ p.1, .t (.v (.bool p.2))]
def sL : Ml := ⟨⟨⟨#[]⟩, ⟨#[]⟩⟩, [], []⟩
open Classical in
noncomputable def tl (h : Hs) (n : Int) (to : ByteArray) (w : Int) : Ml × Bool :=
 if DR h ∧ ¬ A4 h.spool n < 0 ∧ (to = ⟨#[]⟩ ∨ C3 to) ∧ ¬ A3 h.conf to w (Az h.spool n).to = [] then (JJ h.conf (Az h.spool n) to w, true) else (sL, false)
theorem Sg {xs : List Ad} {a : Ad} : (xs ++ [a]).map Am = xs.map Am ++ [[.v (.string a.user), .v (.string a.domain)]] := by
 rw [List.map_append]; rfl
def ug : Ct := Ak (lc D7.ag (lc Iz.ag (lc BF (lc Aq (lc BF l0))))) (fun p => 0 ≤ p.2.2.1 ∧ p.2.2.1 < p.2.1.to.length) (fun p => .t (.v (.bool (BM (JP p.1.conf p.2.2.2.1 p.2.2.2.2.1 (p.2.1.to.getD p.2.2.1.toNat default))))))
section
attribute [local go_sem] eI RF AX AW lm
set_option maxHeartbeats 800000 in
theorem rn {G : Gt} (hG : Ah G) (hh : G.e 85 = AA 0 eI ∧ G.e 112 = AA 0 RF) : Gd G 90 (AA 0 ug) := by
 refine gr (fn := Tryz.f90) (n := 5) rfl rfl hG ?_
 rintro ⟨h, x, k, to, w, ⟨⟩⟩ hpre
 simp -implicitDefEqProofs only [Tryz.f90, go_sem, hh, seval] at hpre ⊢
 obtain ⟨hk0, hk1⟩ := hpre
 with_reducible repeat' (first | apply ai | intro _ | ((first | apply s1 | apply s3 | apply s4) <;> intro hb <;> simp -implicitDefEqProofs only [hb, go_sem, hh, seval] <;> try simp only [qz] at hb))
 all_goals (try simp only [maxLen] at *)
 all_goals first
  | rfl
  | omega
  | exact uF (fun q => by have := q.1; omega)
  | exact uD ⟨fun q => ⟨by omega, .inl ⟨by assumption, q⟩⟩, fun q => q.2.elim (fun z => z.2) fun z => absurd (by assumption) z.1⟩
  | exact uD ⟨fun q => ⟨by omega, .inr ⟨by assumption, by simpa using hb, q⟩⟩, fun q => q.2.elim (fun z => absurd z.1 (by assumption)) fun z => z.2.2⟩
  | exact uF (fun q => q.2.elim (fun z => absurd z.1 (by assumption)) fun z => z.2.1 (by simpa using hb))
  | skip
end
def xI : Ct := Ak (lc D7.ag (lc BF (lc Aq (lc BF l0)))) (fun p => E0 p.1 ∧ 0 ≤ p.2.1 ∧ p.2.1 < p.1.spool.items.length) (fun p => QJ (JJ p.1.conf (p.1.spool.items.getD p.2.1.toNat default) p.2.2.1 p.2.2.2.1))
section
attribute [local go_sem] ug AX AW lm List.length_append List.length_cons List.length_nil List.map_nil Nat.zero_add List.nil_append AS.opn AS.cls AS.nilb AS.renb AS.up Bool.not_false Bool.not_true List.set_set List.set_cons_zero List.set_cons_succ List.set_nil List.mem_singleton forall_eq
set_option maxHeartbeats 1600000 in
theorem qu {G : Gt} (hG : Ah G) (hh : G.e 90 = AA 0 ug) : Gd G 41 (AA 0 xI) := by
 refine Lo (dp := fun n => !(Nat.beq n 100003 || Nat.beq n 100005)) (fn := Tryz.f41) (n := 4) rfl rfl hG ?_ (hs := fun _ p => K7 _)
 rintro ⟨h, n, to, w, ⟨⟩⟩ hpre
 simp -implicitDefEqProofs only [Tryz.f41, go_sem, hh, seval] at hpre ⊢
 obtain ⟨⟨_, ⟨_, hsz⟩, _⟩, hn0, hn1⟩ := hpre
 try dsimp only at hn0 hn1
 obtain ⟨ni, rfl⟩ := Int.eq_ofNat_of_zero_le hn0
 have hx := hsz _ (AF (xs := h.spool.items) (j := ni) (by omega))
 obtain ⟨_, ⟨hl1, _⟩, ⟨hl2, _⟩⟩ := hx
 simp only [tn] at *
 with_reducible repeat' (first | apply ai | intro _ | ((first | apply s1 | apply s3 | apply s4) <;> intro hb <;> simp -implicitDefEqProofs only [hb, go_sem, hh, seval] <;> try simp only [qz] at hb))
 all_goals (try simp only [maxLen] at *)
 all_goals first | rfl | omega | assumption | decide | skip
 all_goals
  refine Ag (Le.nilb 1010 2 1901 true 2 rfl rfl rfl) (AY ?_)
  simp -implicitDefEqProofs only [go_sem, hh, seval]
  refine AE [] (ι := {p : Nat × List Ad // p.1 ≤ (h.spool.items.getD ni default).to.length ∧ p.2.length ≤ p.1 ∧ A3 h.conf to w (h.spool.items.getD ni default).to = p.2 ++ A3 h.conf to w ((h.spool.items.getD ni default).to.drop p.1)}) (fun p => ⟨[(2, .t (.v (.string to))), (3, .t (.v (.int .i64 w))), (4, .pb 1004 0), (8, .pb 1008 0), (9, .pb 1009 0), (10, .pb 1010 0), (11, .t (.v (.int .i64 p.1.1)))], [(1008, some (.box [.t (.v (.string ⟨#[]⟩)), .t (.v (.string ⟨#[]⟩)), .nil, .nil])), (1004, some (.box ((Ai h).map .t))), (1009, some (.box ((An (h.spool.items.getD ni default)).map .t))), (1010, some (.box [.t (.v (.string (h.spool.items.getD ni default).frm.user)), .t (.v (.string (h.spool.items.getD ni default).frm.domain)), .h 1901, .h 1023])), (1023, some (.arr true 1 ((h.spool.items.getD ni default).body.map AG))), (1901, some (.arr true 2 (p.1.2.map Am)))]⟩) (fun p => (h.spool.items.getD ni default).to.length - p.1.1) ⟨(0, []), by simp, by simp, rfl⟩ rfl ?_ ?_
  ·simp -implicitDefEqProofs only [go_sem, hh, seval]
   try simp
  ·rintro ⟨⟨i, L⟩, hi, hL, hq⟩
   dsimp only at hi hL hq ⊢
   by_cases hlt : (i : Int) < (h.spool.items.getD ni default).to.length
   ·simp -implicitDefEqProofs only [hlt, decide_true, tn, go_sem, hh, seval]
    with_reducible repeat' (first | apply ai | intro _ | ((first | apply s1 | apply s3 | apply s4) <;> intro hb <;> simp -implicitDefEqProofs only [hb, go_sem, hh, seval] <;> try simp only [qz] at hb))
    all_goals (try simp only [maxLen, tn] at *)
    all_goals first | rfl | omega | assumption | decide | skip
    ·refine Ag (Le.renb 1010 2 1047 1901 rfl rfl rfl rfl) (AY ?_)
     simp -implicitDefEqProofs only [go_sem, hh, seval]
     with_reducible repeat' (first | apply ai | intro _ | ((first | apply s1 | apply s3 | apply s4) <;> intro hb <;> simp -implicitDefEqProofs only [hb, go_sem, hh, seval] <;> try simp only [qz] at hb))
     all_goals first | rfl | omega | decide | skip
     refine ⟨⟨(i + 1, L ++ [((h.spool.items.getD ni default).to.getD i default).addr]), by dsimp only; omega, by simp; omega, by dsimp only; rw [hq, SR (by omega) (by assumption)]; simp⟩, by dsimp only; omega, ?_⟩
     simp -implicitDefEqProofs only [go_sem, hh, seval]
     simp only [Sg]
     with_reducible repeat' (first | apply ai | intro _ | ((first | apply s1 | apply s3 | apply s4) <;> intro hb <;> simp -implicitDefEqProofs only [hb, go_sem, hh, seval] <;> try simp only [qz] at hb))
     all_goals first | rfl | (simp; done) | skip
    ·refine AY ?_
     simp -implicitDefEqProofs only [go_sem, hh, seval]
     with_reducible repeat' (first | apply ai | intro _ | ((first | apply s1 | apply s3 | apply s4) <;> intro hb <;> simp -implicitDefEqProofs only [hb, go_sem, hh, seval] <;> try simp only [qz] at hb))
     all_goals first | rfl | omega | decide | skip
     refine ⟨⟨(i + 1, L), by dsimp only; omega, by dsimp only; omega, by dsimp only; rw [hq, SQ (by omega) (by assumption)]⟩, by dsimp only; omega, ?_⟩
     simp -implicitDefEqProofs only [go_sem, hh, seval]
     try simp
   ·have hend : A3 h.conf to w (h.spool.items.getD ni default).to = L := by rw [hq, K8 (by omega), List.append_nil]
    simp -implicitDefEqProofs only [hlt, decide_false, JJ, hend, go_sem, hh, seval]
    with_reducible repeat' (first | apply ai | intro _ | ((first | apply s1 | apply s3 | apply s4) <;> intro hb <;> simp -implicitDefEqProofs only [hb, go_sem, hh, seval] <;> try simp only [qz] at hb))
    all_goals first | rfl | omega | decide | skip
end
section
attribute [local go_sem] kF kG cy xI AX AW lm se sL JJ List.map_nil List.length_nil
end
def c7 : Ct := Ak (lc D7.ag (lc BF (lc Aq (lc BF l0)))) (fun p => E0 p.1 ∧ p.2.2.1.size ≤ 2000000) (fun p => se (tl p.1 p.2.1 p.2.2.1 p.2.2.2.1))
section
attribute [local go_sem] oz UQ cx kE xH BQ BP Bool.not_true Bool.not_false By DO AX AW lm List.length_append List.length_cons List.length_nil List.map_nil Nat.zero_add List.nil_append se sL JJ AS.opn AS.cls AS.nilb AS.renb AS.up List.set_set List.set_cons_zero List.set_cons_succ List.set_nil List.mem_singleton forall_eq
end
end Go.V
