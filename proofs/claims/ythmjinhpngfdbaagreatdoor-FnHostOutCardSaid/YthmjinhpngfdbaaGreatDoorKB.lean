/- The row. No condition. -/
import Derived.Test.YthmjinhpngfdbaaGreatDoorKA
import Derived.Lib.Bytealg
import Derived.Shelf.Abstract
import Derived.Shelf.RegionOpenPlain
import Derived.WalkKit
import Derived.Deep.LoopGhost
import Derived.Deep.RegionLaw
import Derived.Lib.Walk
import Derived.Sort.WalkB12
import Derived.Lib.SliceRun
import Derived.Lib.AppendZerosOnto
import Derived.Lib.Overlaps
import Derived.Test.YthmjinhpngfdbaaGreatDoorXB
namespace Go.V
open Go Go.Proofs
set_option maxRecDepth 100000
set_option linter.unusedSimpArgs false
set_option linter.unusedVariables false
theorem uT {p : Prop} (h : p) : T.v (Value.bool true) = T.v (Value.bool (BU p)) := by rw [Ag h]
theorem uF {p : Prop} (h : ¬ p) : T.v (Value.bool false) = T.v (Value.bool (BU p)) := by rw [AO h]
theorem uE {p q : Prop} (h : p ↔ q) : T.v (Value.bool (BU p)) = T.v (Value.bool (BU q)) := by rw [AY h]
theorem uN {p q : Prop} (h : ¬ p ↔ q) : T.v (Value.bool (!BU p)) = T.v (Value.bool (BU q)) := by rw [DW, AY h]
theorem uB {b : Bool} {q : Prop} (h : b = true ↔ q) : T.v (Value.bool b) = T.v (Value.bool (BU q)) := by
 cases b
 ·exact uF (fun q => by have := h.2 q; simp at this)
 ·exact uT (h.1 rfl)
theorem uD {p q : Prop} [Decidable p] (h : p ↔ q) : T.v (Value.bool (decide p)) = T.v (Value.bool (BU q)) := by rw [← A8, AY h]
def Ea (a b : ByteArray) : Int := Lib.compareBytes (bl a) (bl b)
theorem Vm : ∀ a b : List UInt8, (Lib.compareBytes a b < 0) ↔ Op.bytesLess a b = true
 | [], [] => by simp [Lib.compareBytes, Op.bytesLess]
 | [], _ :: _ => by simp [Lib.compareBytes, Op.bytesLess]
 | _ :: _, [] => by simp [Lib.compareBytes, Op.bytesLess]
 | a :: x, b :: y => by
   have ih := Vm x y
   simp only [Lib.compareBytes, Op.bytesLess, Bool.or_eq_true, Bool.and_eq_true, decide_eq_true_eq, beq_iff_eq]
   by_cases h1 : a < b
   ·simp [h1]
   ·by_cases h2 : b < a
    ·have h3 : ¬ a = b := fun e => by subst e; exact absurd h2 (UInt8.lt_irrefl _)
     simp [h1, h2, h3]
    ·have h3 : a = b := UInt8.le_antisymm (UInt8.not_lt.1 h2) (UInt8.not_lt.1 h1)
     have hir := UInt8.lt_irrefl b
     simp only [h3, hir, if_false, false_or, true_and]
     exact ih
theorem iJ : ∀ a b : List UInt8, (Lib.compareBytes a b = 0) ↔ a = b
 | [], [] => by simp [Lib.compareBytes]
 | [], _ :: _ => by simp [Lib.compareBytes]
 | _ :: _, [] => by simp [Lib.compareBytes]
 | a :: x, b :: y => by
   have ih := iJ x y
   simp only [Lib.compareBytes, List.cons.injEq]
   by_cases h1 : a < b
   ·have h3 : ¬ a = b := fun e => by subst e; exact absurd h1 (UInt8.lt_irrefl _)
    simp [h1, h3]
   ·by_cases h2 : b < a
    ·have h3 : ¬ a = b := fun e => by subst e; exact absurd h2 (UInt8.lt_irrefl _)
     simp [h1, h2, h3]
    ·have h3 : a = b := UInt8.le_antisymm (UInt8.not_lt.1 h2) (UInt8.not_lt.1 h1)
     simp only [h3, true_and]
     rw [if_neg (UInt8.lt_irrefl b), if_neg (UInt8.lt_irrefl b)]
     exact ih
theorem Mo (a b : ByteArray) : Ea a b < 0 ↔ Ek a b = true := by
 unfold Ea Ek
 rw [Vm, GF, GF]
theorem Gk (a b : ByteArray) : Ea a b = 0 ↔ a = b := by
 unfold Ea
 rw [iJ]
 exact ⟨Gg, fun e => by rw [e]⟩
def U7 (a b : Ad) : Prop := Ek a.domain b.domain = true ∨ (a.domain = b.domain ∧ Ek a.user b.user = true)
def JP (a b : Ad) : Int := if Ea a.domain b.domain = 0 then Ea a.user b.user else Ea a.domain b.domain
theorem H7 (a b : Ad) : JP a b < 0 ↔ U7 a b := by
 unfold JP U7
 by_cases h : Ea a.domain b.domain = 0
 ·rw [if_pos h, Mo]
  have h2 : ¬ Ek a.domain b.domain = true := fun q => by have := (Mo _ _).2 q; omega
  exact ⟨fun q => .inr ⟨(Gk _ _).1 h, q⟩, fun q => q.elim (fun q => absurd q h2) fun q => q.2⟩
 ·rw [if_neg h, Mo]
  exact ⟨.inl, fun q => q.elim id fun q => absurd ((Gk _ _).2 q.1) h⟩
def qu : List Int → Int
 | [] => 0
 | x :: r => if x = 0 then qu r else x
theorem tT {x y : Int} : DR.decL [[.v (.int .i64 x)], [.v (.int .i64 y)]] = some [x, y] := DR.decL_map [x, y]
theorem X8 {xs : List Int} {i : Nat} (h : i < xs.length) : qu (xs.drop i) = if xs.getD i default = 0 then qu (xs.drop (i + 1)) else xs.getD i default := by
 rw [Ac h]; rfl
def lq : Ct := An (lc A0 (lc A0 l0)) (fun _ => True) (fun p => .t (.v (.int .i64 (Ea p.1 p.2.1))))
theorem dN (m : Int) : FL Tryz.prog m 185 lq := FL.of (r := fun (p : ByteArray × ByteArray × Unit) => .int .i64 (Ea p.1 p.2.1)) (fun _ => trivial) fun p _ => by
 obtain ⟨s, c, ⟨⟩⟩ := p
 intro w pr vs hgl hv
 have := Hp hv
 subst this
 have he : Extern.find Tryz.f185 = some Extern.BytealgCompare.compare := by kernel_rfl
 rw [run_callFunc_extern (fn := Tryz.f185) (by kernel_rfl) (by kernel_rfl) rfl (by kernel_rfl) he]
 have h := Lib.run_compareString (P := Tryz.prog) s c w
 rw [show ([Value.string s, Value.string c].toArray) = #[.string s, .string c] from rfl, h]
 rfl
def LE (c : Cf) : Prop := (∀ s ∈ c.own, D4 s) ∧ (∀ w ∈ c.ways, D4 w.ends ∧ D4 w.to) ∧ D4 c.name ∧ (c.own.length : Int) ≤ 3 ∧ (c.ways.length : Int) ≤ 4
def lU : Ct := An (lc A0 (lc A0 l0)) (fun p => True) (fun p => .t (.v (.int .i64 (Ea p.1 p.2.1))))
section
attribute [local go_sem] lq
theorem ct {G : Gt} (hG : Aj G) (hh : G.e 185 = AA 3 lq) : Gd G 156 (AA 0 lU) := by
 refine gr (fn := Tryz.f156) (n := 2) rfl hG ?_
 rintro ⟨a, b, ⟨⟩⟩ hpre
 simp -implicitDefEqProofs only [Tryz.f156, go_sem, hh, seval] at hpre ⊢
 with_reducible repeat' (first | apply ai | intro _ | ((first | apply s1 | apply s3 | apply s4) <;> intro hb <;> simp -implicitDefEqProofs only [hb, go_sem, hh, seval] <;> try simp only [qz] at hb))
 all_goals first | rfl | omega | skip
end
def k8 : Ct := An (lc A0 (lc A0 l0)) (fun p => True) (fun p => .t (.v (.int .i64 (Ea p.1 p.2.1))))
section
attribute [local go_sem] lU
theorem cJ {G : Gt} (hG : Aj G) (hh : G.e 156 = AA 0 lU) : Gd G 110 (AA 0 k8) := by
 refine gr (fn := Tryz.f110) (n := 2) rfl hG ?_
 rintro ⟨a, b, ⟨⟩⟩ hpre
 simp -implicitDefEqProofs only [Tryz.f110, go_sem, hh, seval] at hpre ⊢
 with_reducible repeat' (first | apply ai | intro _ | ((first | apply s1 | apply s3 | apply s4) <;> intro hb <;> simp -implicitDefEqProofs only [hb, go_sem, hh, seval] <;> try simp only [qz] at hb))
 all_goals first | rfl | omega | skip
end
def k7 : Ct := An (lc DR.asl l0) (fun p => True) (fun p => .t (.v (.int .i64 (qu p.1))))
section
attribute [local go_sem] lm
theorem cI {G : Gt} (hG : Aj G) : Gd G 109 (AA 0 k7) := by
 refine gr (fn := Tryz.f109) (n := 1) rfl hG ?_
 rintro ⟨xs, ⟨⟩⟩ hpre
 simp -implicitDefEqProofs only [Tryz.f109, go_sem, seval] at hpre ⊢
 with_reducible repeat' (first | apply ai | intro _ | ((first | apply s1 | apply s3 | apply s4) <;> intro hb <;> simp -implicitDefEqProofs only [hb, go_sem, seval] <;> try simp only [qz] at hb))
 all_goals first | rfl | omega | skip
 refine AF [] (ι := {i : Nat // i ≤ xs.length ∧ qu xs = qu (xs.drop i)}) (fun p => ⟨[(3, .t (.v (.int .i64 0))), (6, .t (.sl 1 (xs.map BB))), (7, .t (.v (.int .i64 xs.length))), (8, .t (.v (.int .i64 p.1)))], []⟩) (fun p => xs.length - p.1) ⟨0, by simp, rfl⟩ rfl ?_ ?_
 ·simp -implicitDefEqProofs only [go_sem, seval]
  try simp
 ·rintro ⟨i, hi, hor⟩
  by_cases hlt : (i : Int) < xs.length
  ·have hs := X8 (xs := xs) (i := i) (by omega)
   simp -implicitDefEqProofs only [hlt, decide_true, tn, go_sem, seval]
   with_reducible repeat' (first | apply ai | intro _ | ((first | apply s1 | apply s3 | apply s4) <;> intro hb <;> simp -implicitDefEqProofs only [hb, go_sem, seval] <;> try simp only [qz] at hb))
   all_goals (try simp only [maxLen] at *)
   all_goals first | rfl | omega | skip
   ·rw [hor, hs, if_neg (by assumption)]
   ·refine ⟨⟨i + 1, by omega, by rw [hor, hs, if_pos (by simpa using hb)]⟩, by dsimp only; omega, ?_⟩
    simp -implicitDefEqProofs only [go_sem, seval]
    try simp
  ·simp -implicitDefEqProofs only [hlt, decide_false, go_sem, seval]
   with_reducible repeat' (first | apply ai | intro _ | ((first | apply s1 | apply s3 | apply s4) <;> intro hb <;> simp -implicitDefEqProofs only [hb, go_sem, seval] <;> try simp only [qz] at hb))
   all_goals first | rfl | omega | skip
   rw [hor, List.drop_eq_nil_of_le (by omega)]
   rfl
end
def wD : Ct := An (lc Ce.ag (lc Ce.ag l0)) (fun p => True) (fun p => .t (.v (.int .i64 (JP p.1 p.2.1))))
section
attribute [local go_sem] k8 k7 tT
theorem pK {G : Gt} (hG : Aj G) (hh : G.e 110 = AA 0 k8 ∧ G.e 109 = AA 0 k7) : Gd G 50 (AA 0 wD) := by
 refine gr (fn := Tryz.f50) (n := 2) rfl hG ?_
 rintro ⟨a, b, ⟨⟩⟩ hpre
 simp -implicitDefEqProofs only [Tryz.f50, go_sem, hh, seval] at hpre ⊢
 with_reducible repeat' (first | apply ai | intro _ | ((first | apply s1 | apply s3 | apply s4) <;> intro hb <;> simp -implicitDefEqProofs only [hb, go_sem, hh, seval] <;> try simp only [qz] at hb))
 all_goals first | rfl | omega | skip
 all_goals
  refine congrArg (fun z => T.v (Value.int .i64 z)) ?_
  simp only [qu, JP]
  by_cases h : Ea a.domain b.domain = 0
  ·rw [if_pos h, if_pos h]
   by_cases h2 : Ea a.user b.user = 0
   ·rw [if_pos h2, h2]
   ·rw [if_neg h2]
  ·rw [if_neg h, if_neg h]
end
def tH : Ct := An (lc Ce.ag (lc Ce.ag l0)) (fun p => True) (fun p => .t (.v (.bool (BU (U7 p.1 p.2.1)))))
theorem pm {G : Gt} (hG : Aj G) : Gd G 86 (AA 0 tH) := by
 refine gr (fn := Tryz.f86) (n := 2) rfl hG ?_
 rintro ⟨a, b, ⟨⟩⟩ hpre
 simp -implicitDefEqProofs only [Tryz.f86, go_sem, seval] at hpre ⊢
 with_reducible repeat' (first | apply ai | intro _ | ((first | apply s1 | apply s3 | apply s4) <;> intro hb <;> simp -implicitDefEqProofs only [hb, go_sem, seval] <;> try simp only [qz] at hb))
 all_goals first | rfl | omega | skip
 all_goals first
  | exact uT (.inl (by assumption))
  | exact uB ⟨fun q => .inr ⟨by assumption, q⟩, fun q => q.elim (fun q => by simp_all) fun q => q.2⟩
  | exact uF (fun q => q.elim (fun q => by simp_all) fun q => by simp_all)
  | skip
def jn (b : Bx) : Prop := (∀ g ∈ b.mails, (BL g.frm ∨ AU g.frm) ∧ DQ g.body) ∧ BL b.addr
def Uk (h : Hs) (j : Nat) : Prop := jn (h.boxes.getD j default) ∧ (0 < j → U7 (h.boxes.getD (j - 1) default).addr (h.boxes.getD j default).addr) ∧ (h.boxes.getD j default).addr.domain ∈ h.conf.own
def Dz (h : Hs) : Prop := (∀ j, j < h.boxes.length → Uk h j) ∧ LE h.conf ∧ BI h.spool
theorem C4 {P : Nat → Prop} {i : Nat} (h : ∀ j, j < i → P j) (hi : P i) : ∀ j, j < i + 1 → P j := fun j hj => by
 by_cases e : j = i
 ·rw [e]; exact hi
 ·exact h j (by omega)
theorem fI {xs : List ByteArray} {a : ByteArray} (h : ∀ j, j < xs.length → ¬ xs.getD j default = a) : ¬ a ∈ xs := fun hm => by
 obtain ⟨j, hj, e⟩ := List.getElem_of_mem hm
 exact h j hj (by simp [hj, e])
def tI : Ct := An (lc IZ.ag l0) (fun p => True) (fun p => .t (.v (.bool (BU (LE p.1)))))
section
attribute [local go_sem] Mk Aa AZ lm
set_option maxHeartbeats 1600000 in
theorem po {G : Gt} (hG : Aj G) (hh : G.e 143 = AA 0 Mk) : Gd G 88 (AA 0 tI) := by
 refine gr (fn := Tryz.f88) (n := 1) rfl hG ?_
 rintro ⟨c, ⟨⟩⟩ hpre
 simp -implicitDefEqProofs only [Tryz.f88, go_sem, hh, seval] at hpre ⊢
 refine AF [] (ι := {i : Nat // i ≤ c.own.length ∧ ∀ j, j < i → D4 (c.own.getD j default)}) (fun p => ⟨[(1, .pb 1001 0), (3, .t (.v (.int .i64 p.1)))], [(1001, some (.box ((Cr c).map .t)))]⟩) (fun p => c.own.length - p.1) ⟨0, by simp, by simp⟩ rfl ?_ ?_
 ·simp -implicitDefEqProofs only [go_sem, hh, seval]
  try simp
 ·rintro ⟨i, hi, hall⟩
  by_cases hlt : (i : Int) < c.own.length
  ·simp -implicitDefEqProofs only [hlt, decide_true, tn, go_sem, hh, seval]
   with_reducible repeat' (first | apply ai | intro _ | ((first | apply s1 | apply s3 | apply s4) <;> intro hb <;> simp -implicitDefEqProofs only [hb, go_sem, hh, seval] <;> try simp only [qz] at hb))
   all_goals (try simp only [maxLen] at *)
   all_goals first | rfl | omega | skip
   ·exact uF (fun h => hb (h.1 _ (AE (by omega))))
   ·refine ⟨⟨i + 1, by omega, C4 hall hb⟩, by dsimp only; omega, ?_⟩
    simp -implicitDefEqProofs only [go_sem, hh, seval]
    try simp
  ·have hA : ∀ s ∈ c.own, D4 s := BX fun j hj => hall j (by omega)
   simp -implicitDefEqProofs only [hlt, decide_false, go_sem, hh, seval]
   with_reducible repeat' (first | apply ai | intro _ | ((first | apply s1 | apply s3 | apply s4) <;> intro hb <;> simp -implicitDefEqProofs only [hb, go_sem, hh, seval] <;> try simp only [qz] at hb))
   all_goals first | rfl | omega | skip
   refine AF [] (ι := {i : Nat // i ≤ c.ways.length ∧ ∀ j, j < i → D4 (c.ways.getD j default).ends ∧ D4 (c.ways.getD j default).to}) (fun p => ⟨[(1, .pb 1001 0), (4, .t (.v (.int .i64 p.1)))], [(1001, some (.box ((Cr c).map .t)))]⟩) (fun p => c.ways.length - p.1) ⟨0, by simp, by simp⟩ rfl ?_ ?_
   ·simp -implicitDefEqProofs only [go_sem, hh, seval]
    try simp
   ·rintro ⟨k, hk, hall2⟩
    by_cases hlt2 : (k : Int) < c.ways.length
    ·simp -implicitDefEqProofs only [hlt2, decide_true, tn, go_sem, hh, seval]
     with_reducible repeat' (first | apply ai | intro _ | ((first | apply s1 | apply s3 | apply s4) <;> intro hb <;> simp -implicitDefEqProofs only [hb, go_sem, hh, seval] <;> try simp only [qz] at hb))
     all_goals (try simp only [maxLen] at *)
     all_goals first
      | rfl
      | omega
      | exact uF (fun h => hb (h.2.1 _ (AE (by omega))).1)
      | exact uF (fun h => hb (h.2.1 _ (AE (by omega))).2)
      | skip
     refine ⟨⟨k + 1, by omega, C4 (P := fun j => D4 (c.ways.getD j default).ends ∧ D4 (c.ways.getD j default).to) hall2 ⟨by assumption, by assumption⟩⟩, by dsimp only; omega, ?_⟩
     simp -implicitDefEqProofs only [go_sem, hh, seval]
     try simp
    ·have hB : ∀ w ∈ c.ways, D4 w.ends ∧ D4 w.to := BX fun j hj => hall2 j (by omega)
     simp -implicitDefEqProofs only [hlt2, decide_false, go_sem, hh, seval]
     with_reducible repeat' (first | apply ai | intro _ | ((first | apply s1 | apply s3 | apply s4) <;> intro hb <;> simp -implicitDefEqProofs only [hb, go_sem, hh, seval] <;> try simp only [qz] at hb))
     all_goals first
      | rfl
      | omega
      | exact uD ⟨fun q => ⟨hA, hB, by assumption, by omega, q⟩, fun q => q.2.2.2.2⟩
      | exact uF (fun q => absurd q.2.2.1 (by assumption))
      | exact uF (fun q => by have h1 := q.2.2.2.1; have h2 := q.2.2.2.2; omega)
      | skip
end
def ay : Ct := An (lc IZ.ag (lc Ce.ag l0)) (fun p => True) (fun p => .t (.v (.bool (BU (p.2.1.domain ∈ p.1.own)))))
section
attribute [local go_sem] lm
theorem pn {G : Gt} (hG : Aj G) : Gd G 87 (AA 0 ay) := by
 refine gr (fn := Tryz.f87) (n := 2) rfl hG ?_
 rintro ⟨c, a, ⟨⟩⟩ hpre
 simp -implicitDefEqProofs only [Tryz.f87, go_sem, seval] at hpre ⊢
 refine AF [] (ι := {i : Nat // i ≤ c.own.length ∧ ∀ j, j < i → ¬ c.own.getD j default = a.domain}) (fun p => ⟨[(2, .pb 1002 0), (3, .pb 1003 0), (5, .t (.v (.int .i64 p.1)))], [(1002, some (.box ((Cr c).map .t))), (1003, some (.box ((At a).map .t)))]⟩) (fun p => c.own.length - p.1) ⟨0, by simp, by simp⟩ rfl ?_ ?_
 ·simp -implicitDefEqProofs only [go_sem, seval]
  try simp
 ·rintro ⟨i, hi, hall⟩
  by_cases hlt : (i : Int) < c.own.length
  ·simp -implicitDefEqProofs only [hlt, decide_true, tn, go_sem, seval]
   with_reducible repeat' (first | apply ai | intro _ | ((first | apply s1 | apply s3 | apply s4) <;> intro hb <;> simp -implicitDefEqProofs only [hb, go_sem, seval] <;> try simp only [qz] at hb))
   all_goals (try simp only [maxLen] at *)
   all_goals first | rfl | omega | skip
   ·exact uT (by rw [← hb]; exact AE (by omega))
   ·refine ⟨⟨i + 1, by omega, C4 hall hb⟩, by dsimp only; omega, ?_⟩
    simp -implicitDefEqProofs only [go_sem, seval]
    try simp
  ·simp -implicitDefEqProofs only [hlt, decide_false, go_sem, seval]
   with_reducible repeat' (first | apply ai | intro _ | ((first | apply s1 | apply s3 | apply s4) <;> intro hb <;> simp -implicitDefEqProofs only [hb, go_sem, seval] <;> try simp only [qz] at hb))
   all_goals first | rfl | omega | skip
   exact uF (fI fun j hj => hall j (by omega))
end
def xH : Ct := An (lc LZ.ag l0) (fun p => True) (fun p => .t (.v (.bool (BU (jn p.1)))))
section
attribute [local go_sem] Mj IA Tc Aa AZ lm
set_option maxHeartbeats 1600000 in
theorem pk {G : Gt} (hG : Aj G) (hh : G.e 142 = AA 0 Mj ∧ G.e 123 = AA 0 IA ∧ G.e 62 = AA 0 Tc) : Gd G 85 (AA 0 xH) := by
 refine gr (fn := Tryz.f85) (n := 1) rfl hG ?_
 rintro ⟨b, ⟨⟩⟩ hpre
 simp -implicitDefEqProofs only [Tryz.f85, go_sem, hh, seval] at hpre ⊢
 refine AF [] (ι := {i : Nat // i ≤ b.mails.length ∧ ∀ j, j < i → (BL (b.mails.getD j default).frm ∨ AU (b.mails.getD j default).frm) ∧ DQ (b.mails.getD j default).body}) (fun p => ⟨[(1, .pb 1001 0), (3, .t (.v (.int .i64 p.1)))], [(1001, some (.box ((Bn b).map .t)))]⟩) (fun p => b.mails.length - p.1) ⟨0, by simp, by simp⟩ rfl ?_ ?_
 ·simp -implicitDefEqProofs only [go_sem, hh, seval]
  try simp
 ·rintro ⟨i, hi, hall⟩
  by_cases hlt : (i : Int) < b.mails.length
  ·simp -implicitDefEqProofs only [hlt, decide_true, tn, go_sem, hh, seval]
   with_reducible repeat' (first | apply ai | intro _ | ((first | apply s1 | apply s3 | apply s4) <;> intro hb <;> simp -implicitDefEqProofs only [hb, go_sem, hh, seval] <;> try simp only [qz] at hb))
   all_goals (try simp only [maxLen, tn] at *)
   all_goals first
    | rfl
    | omega
    | exact uF (fun h => absurd (h.1 (b.mails.getD i default) (AE (by omega))).2 (by assumption))
    | exact uF (fun h => (h.1 (b.mails.getD i default) (AE (by omega))).1.elim (fun q => absurd q (by assumption)) fun q => absurd q (by assumption))
    | skip
   all_goals
    refine ⟨⟨i + 1, by omega, C4 (P := fun j => (BL (b.mails.getD j default).frm ∨ AU (b.mails.getD j default).frm) ∧ DQ (b.mails.getD j default).body) hall ⟨by first | exact .inl (by assumption) | exact .inr (by assumption), by assumption⟩⟩, by dsimp only; omega, ?_⟩
    simp -implicitDefEqProofs only [go_sem, hh, seval]
    try simp
  ·have hA : ∀ g ∈ b.mails, (BL g.frm ∨ AU g.frm) ∧ DQ g.body := BX (P := fun g : Gm => (BL g.frm ∨ AU g.frm) ∧ DQ g.body) fun j hj => hall j (by omega)
   simp -implicitDefEqProofs only [hlt, decide_false, go_sem, hh, seval]
   with_reducible repeat' (first | apply ai | intro _ | ((first | apply s1 | apply s3 | apply s4) <;> intro hb <;> simp -implicitDefEqProofs only [hb, go_sem, hh, seval] <;> try simp only [qz] at hb))
   all_goals first | rfl | omega | exact uE ⟨fun q => ⟨hA, q⟩, fun q => q.2⟩ | skip
end
def sI : Ct := An (lc FH.ag l0) (fun p => True) (fun p => .t (.v (.bool (BU (Dz p.1)))))
section
attribute [local go_sem] xH tH ay tI xI Aa AZ lm
set_option maxHeartbeats 6400000 in
theorem ou {G : Gt} (hG : Aj G) (hh : G.e 85 = AA 0 xH ∧ G.e 86 = AA 0 tH ∧ G.e 87 = AA 0 ay ∧ G.e 88 = AA 0 tI ∧ G.e 89 = AA 0 xI) : Gd G 32 (AA 0 sI) := by
 refine gr (fn := Tryz.f32) (n := 1) rfl hG ?_
 rintro ⟨h, ⟨⟩⟩ hpre
 simp -implicitDefEqProofs only [Tryz.f32, go_sem, hh, seval] at hpre ⊢
 refine AF [] (ι := {i : Nat // i ≤ h.boxes.length ∧ ∀ j, j < i → Uk h j}) (fun p => ⟨[(1, .pb 1001 0), (3, .t (.v (.int .i64 p.1)))], [(1001, some (.box ((Ao h).map .t)))]⟩) (fun p => h.boxes.length - p.1) ⟨0, by simp, by simp⟩ rfl ?_ ?_
 ·simp -implicitDefEqProofs only [go_sem, hh, seval]
  try simp
 ·rintro ⟨i, hi, hall⟩
  by_cases hlt : (i : Int) < h.boxes.length
  ·simp -implicitDefEqProofs only [hlt, decide_true, tn, go_sem, hh, seval]
   with_reducible repeat' (first | apply ai | intro _ | ((first | apply s1 | apply s3 | apply s4) <;> intro hb <;> simp -implicitDefEqProofs only [hb, go_sem, hh, seval] <;> try simp only [qz] at hb))
   all_goals (try simp only [maxLen, tn] at *)
   all_goals have hnat : ((i : Int) - 1).toNat = i - 1 := by omega
   all_goals first
    | rfl
    | omega
    | exact uF (fun q => absurd (q.1 i (by omega)).1 (by assumption))
    | exact uF (fun q => absurd (q.1 i (by omega)).2.2 (by assumption))
    | exact uF (fun q => absurd ((q.1 i (by omega)).2.1 (by omega)) (by rw [← hnat]; assumption))
    | skip
   all_goals
    refine ⟨⟨i + 1, by omega, C4 hall ⟨by assumption, fun _ => by first | (rw [← hnat]; assumption) | (exfalso; omega), by assumption⟩⟩, by dsimp only; omega, ?_⟩
    simp -implicitDefEqProofs only [go_sem, hh, seval]
    try simp
  ·simp -implicitDefEqProofs only [hlt, decide_false, go_sem, hh, seval]
   with_reducible repeat' (first | apply ai | intro _ | ((first | apply s1 | apply s3 | apply s4) <;> intro hb <;> simp -implicitDefEqProofs only [hb, go_sem, hh, seval] <;> try simp only [qz] at hb))
   all_goals first
    | rfl
    | omega
    | exact uE ⟨fun q => ⟨fun j hj => hall j (by omega), by assumption, q⟩, fun q => q.2.2⟩
    | exact uF (fun q => absurd q.2.1 (by assumption))
    | skip
end
inductive Nj where
 | bad
def Nj.enc : Nj → AV
 | .bad  => .t (.fn 44 [])
def Nj.dec : AV → Option Nj
 | .t (.fn 44 []) => some (.bad )
 | _ => none
def Nj.sem : Nj → Gm → Prop
 | .bad , x => ¬ ((BL x.frm ∨ AU x.frm) ∧ DQ x.body)
def Nj.pre : Nj → Gm → Prop
 | .bad , x => x.frm.domain.size ≤ 2000000 ∧ ∀ s ∈ x.body, s.size ≤ 2000000
def Y4 : AD Nj where
 enc := Nj.enc
 dec := Nj.dec
 ed := fun f => by cases f <;> rfl
 de := fun x f h => by
  unfold Nj.dec at h
  split at h <;> cases h <;> rfl
theorem JF  : Y4.dec (.t (.fn 44 [])) = some (.bad ) := rfl
theorem JG  : Y4.enc (.bad ) = .t (.fn 44 []) := rfl
def wz : Ct := An (lc Pd.ag l0) (fun p => p.1.frm.domain.size ≤ 2000000 ∧ ∀ s ∈ p.1.body, s.size ≤ 2000000) (fun p => .t (.v (.bool (BU (¬ ((BL p.1.frm ∨ AU p.1.frm) ∧ DQ p.1.body))))))
section
attribute [local go_sem] mg mh BO BN Bool.not_true Bool.not_false Bw DH
theorem pE {G : Gt} (hG : Aj G) (hh : G.e 45 = AA 0 mg ∧ G.e 46 = AA 0 mh) : Gd G 44 (AA 0 wz) := by
 refine gr (fn := Tryz.f44) (n := 1) rfl hG ?_
 rintro ⟨x, ⟨⟩⟩ hpre
 simp -implicitDefEqProofs only [Tryz.f44, go_sem, hh, seval] at hpre ⊢
 with_reducible repeat' (first | apply ai | intro _ | ((first | apply s1 | apply s3 | apply s4) <;> intro hb <;> simp -implicitDefEqProofs only [hb, go_sem, hh, seval] <;> try simp only [qz] at hb))
 all_goals first | rfl | omega | exact hpre.1 | exact hpre.2 | exact hpre.2 _ (by assumption) | skip
 all_goals first
  | exact uT (fun h => absurd h.1 (by assumption))
  | exact uN ⟨fun h q => h q.2, fun h q => h ⟨by assumption, q⟩⟩
  | skip
end
def k6 : Ct := An (lc Pd.asl (lc Y4 l0)) (fun p => ∀ x ∈ p.1, p.2.1.pre x) (fun p => .t (.v (.int .i64 (A4 p.2.1.sem 0 p.1))))
section
attribute [local go_sem] wz BO BN Bool.not_true Bool.not_false Bw DH JF JG
theorem cH {G : Gt} (hG : Aj G) (hh : G.e 44 = AA 0 wz) : Gd G 108 (AA 0 k6) := by
 refine gr (fn := Tryz.f108) (n := 2) rfl hG ?_
 rintro ⟨xs, f, ⟨⟩⟩ hpre
 have hs := hpre
 dsimp only at hs ⊢
 cases f with
 | bad  =>
   simp -implicitDefEqProofs only [Tryz.f108, go_sem, hh, seval]
   with_reducible repeat' (first | apply ai | intro _ | ((first | apply s1 | apply s3 | apply s4) <;> intro hb <;> simp -implicitDefEqProofs only [hb, go_sem, hh, seval] <;> try simp only [qz] at hb))
   all_goals first | rfl | omega | skip
   refine AF [] (ι := {i : Nat // i ≤ xs.length ∧ A4 (Nj.sem (.bad )) 0 xs = A4 (Nj.sem (.bad )) i (xs.drop i)}) (fun p => ⟨[(0, .t (.sl 3 (xs.map Ca))), (1, .t (.fn 44 [])), (7, .t (.v (.int .i64 xs.length))), (8, .t (.v (.int .i64 p.1)))], []⟩) (fun p => xs.length - p.1) ⟨0, Nat.zero_le _, rfl⟩ rfl ?_ ?_
   ·simp -implicitDefEqProofs only [go_sem, hh, seval]
    try simp
   ·rintro ⟨i, hi, hix⟩
    by_cases hlt : (i : Int) < xs.length
    ·have hm : xs.getD (i : Int).toNat default ∈ xs := AE (by omega)
     have hsz := hs _ hm
     cases hb : BU (¬ ((BL (xs.getD (i : Int).toNat default).frm ∨ AU (xs.getD (i : Int).toNat default).frm) ∧ DQ (xs.getD (i : Int).toNat default).body))
     ·have hq := hb
      simp -implicitDefEqProofs only [hlt, hq, go_sem, hh, seval]
      with_reducible repeat' (first | apply ai | intro _ | ((first | apply s1 | apply s3 | apply s4) <;> intro hb <;> simp -implicitDefEqProofs only [hb, go_sem, hh, seval] <;> try simp only [qz] at hb))
      all_goals (try simp only [maxLen] at *)
      all_goals first | rfl | omega | with_reducible assumption | exact hsz | exact hsz.1 | exact hsz.2 | exact hsz.2 _ (by assumption) | exact hsz.2.1 | exact hsz.2.2.1 | exact hsz.2.2.2 | trivial | skip
      rw [AZ, tn] at hb
      refine ⟨⟨i + 1, by omega, ?_⟩, by dsimp only; omega, ?_⟩
      ·rw [hix, DM (p := Nj.sem (.bad )) (by omega) hb]
      ·simp -implicitDefEqProofs only [go_sem, hh, seval]
       try simp
     ·have hq := hb
      simp -implicitDefEqProofs only [hlt, hq, go_sem, hh, seval]
      with_reducible repeat' (first | apply ai | intro _ | ((first | apply s1 | apply s3 | apply s4) <;> intro hb <;> simp -implicitDefEqProofs only [hb, go_sem, hh, seval] <;> try simp only [qz] at hb))
      all_goals (try simp only [maxLen] at *)
      all_goals first | rfl | omega | with_reducible assumption | exact hsz | exact hsz.1 | exact hsz.2 | exact hsz.2 _ (by assumption) | exact hsz.2.1 | exact hsz.2.2.1 | exact hsz.2.2.2 | trivial | skip
      rw [Aa, tn] at hb
      rw [hix, CT (p := Nj.sem (.bad )) (by omega) hb]
    ·simp -implicitDefEqProofs only [hlt, go_sem, hh, seval]
     with_reducible repeat' (first | apply ai | intro _ | ((first | apply s1 | apply s3 | apply s4) <;> intro hb <;> simp -implicitDefEqProofs only [hb, go_sem, hh, seval] <;> try simp only [qz] at hb))
     all_goals first | rfl | omega | skip
     all_goals (rw [hix, CS (by omega)])
end
def w3 : Ct := An (lc Pd.asl (lc Y4 l0)) (fun p => ∀ x ∈ p.1, p.2.1.pre x) (fun p => .t (.v (.bool (BU (∃ x ∈ p.1, p.2.1.sem x)))))
section
attribute [local go_sem] k6 BO BN Bool.not_true Bool.not_false Bw DH JF JG
theorem pJ {G : Gt} (hG : Aj G) (hh : G.e 108 = AA 0 k6) : Gd G 49 (AA 0 w3) := by
 refine gr (fn := Tryz.f49) (n := 2) rfl hG ?_
 rintro ⟨xs, f, ⟨⟩⟩ hpre
 dsimp only at hpre ⊢
 cases f
 all_goals
  simp -implicitDefEqProofs only [Tryz.f49, go_sem, hh, seval]
  with_reducible repeat' (first | apply ai | intro _ | ((first | apply s1 | apply s3 | apply s4) <;> intro hb <;> simp -implicitDefEqProofs only [hb, go_sem, hh, seval] <;> try simp only [qz] at hb))
  all_goals first | rfl | omega | exact hpre | exact hpre _ (by assumption) | skip
  all_goals (rw [← AY (D9 _ 0)]; rw [A8])
end
inductive Nk where
 | way
def Nk.enc : Nk → AV
 | .way  => .t (.fn 99 [])
def Nk.dec : AV → Option Nk
 | .t (.fn 99 []) => some (.way )
 | _ => none
def Nk.sem : Nk → Wy → Prop
 | .way , x => ¬ (D4 x.ends ∧ D4 x.to)
def Nk.pre : Nk → Wy → Prop
 | .way , x => x.ends.size ≤ 2000000 ∧ x.to.size ≤ 2000000
def Y6 : AD Nk where
 enc := Nk.enc
 dec := Nk.dec
 ed := fun f => by cases f <;> rfl
 de := fun x f h => by
  unfold Nk.dec at h
  split at h <;> cases h <;> rfl
theorem JH  : Y6.dec (.t (.fn 99 [])) = some (.way ) := rfl
theorem JI  : Y6.enc (.way ) = .t (.fn 99 []) := rfl
def xM : Ct := An (lc G7.ag l0) (fun p => p.1.ends.size ≤ 2000000 ∧ p.1.to.size ≤ 2000000) (fun p => .t (.v (.bool (BU (¬ (D4 p.1.ends ∧ D4 p.1.to))))))
section
attribute [local go_sem] Vi BO BN Bool.not_true Bool.not_false Bw DH
theorem p7 {G : Gt} (hG : Aj G) (hh : G.e 98 = AA 0 Vi) : Gd G 99 (AA 0 xM) := by
 refine gr (fn := Tryz.f99) (n := 1) rfl hG ?_
 rintro ⟨x, ⟨⟩⟩ hpre
 simp -implicitDefEqProofs only [Tryz.f99, go_sem, hh, seval] at hpre ⊢
 with_reducible repeat' (first | apply ai | intro _ | ((first | apply s1 | apply s3 | apply s4) <;> intro hb <;> simp -implicitDefEqProofs only [hb, go_sem, hh, seval] <;> try simp only [qz] at hb))
 all_goals first | rfl | omega | exact hpre.1 | exact hpre.2 | exact hpre.2 _ (by assumption) | skip
 all_goals first
  | exact uT (fun h => absurd h.1 (by assumption))
  | exact uN ⟨fun h q => h q.2, fun h q => h ⟨by assumption, q⟩⟩
  | skip
end
def lR : Ct := An (lc G7.asl (lc Y6 l0)) (fun p => ∀ x ∈ p.1, p.2.1.pre x) (fun p => .t (.v (.int .i64 (A4 p.2.1.sem 0 p.1))))
section
attribute [local go_sem] xM BO BN Bool.not_true Bool.not_false Bw DH JH JI
theorem co {G : Gt} (hG : Aj G) (hh : G.e 99 = AA 0 xM) : Gd G 152 (AA 0 lR) := by
 refine gr (fn := Tryz.f152) (n := 2) rfl hG ?_
 rintro ⟨xs, f, ⟨⟩⟩ hpre
 have hs := hpre
 dsimp only at hs ⊢
 cases f with
 | way  =>
   simp -implicitDefEqProofs only [Tryz.f152, go_sem, hh, seval]
   with_reducible repeat' (first | apply ai | intro _ | ((first | apply s1 | apply s3 | apply s4) <;> intro hb <;> simp -implicitDefEqProofs only [hb, go_sem, hh, seval] <;> try simp only [qz] at hb))
   all_goals first | rfl | omega | skip
   refine AF [] (ι := {i : Nat // i ≤ xs.length ∧ A4 (Nk.sem (.way )) 0 xs = A4 (Nk.sem (.way )) i (xs.drop i)}) (fun p => ⟨[(0, .t (.sl 2 (xs.map B2))), (1, .t (.fn 99 [])), (7, .t (.v (.int .i64 xs.length))), (8, .t (.v (.int .i64 p.1)))], []⟩) (fun p => xs.length - p.1) ⟨0, Nat.zero_le _, rfl⟩ rfl ?_ ?_
   ·simp -implicitDefEqProofs only [go_sem, hh, seval]
    try simp
   ·rintro ⟨i, hi, hix⟩
    by_cases hlt : (i : Int) < xs.length
    ·have hm : xs.getD (i : Int).toNat default ∈ xs := AE (by omega)
     have hsz := hs _ hm
     cases hb : BU (¬ (D4 (xs.getD (i : Int).toNat default).ends ∧ D4 (xs.getD (i : Int).toNat default).to))
     ·have hq := hb
      simp -implicitDefEqProofs only [hlt, hq, go_sem, hh, seval]
      with_reducible repeat' (first | apply ai | intro _ | ((first | apply s1 | apply s3 | apply s4) <;> intro hb <;> simp -implicitDefEqProofs only [hb, go_sem, hh, seval] <;> try simp only [qz] at hb))
      all_goals (try simp only [maxLen] at *)
      all_goals first | rfl | omega | with_reducible assumption | exact hsz | exact hsz.1 | exact hsz.2 | exact hsz.2 _ (by assumption) | exact hsz.2.1 | exact hsz.2.2.1 | exact hsz.2.2.2 | trivial | skip
      rw [AZ, tn] at hb
      refine ⟨⟨i + 1, by omega, ?_⟩, by dsimp only; omega, ?_⟩
      ·rw [hix, DM (p := Nk.sem (.way )) (by omega) hb]
      ·simp -implicitDefEqProofs only [go_sem, hh, seval]
       try simp
     ·have hq := hb
      simp -implicitDefEqProofs only [hlt, hq, go_sem, hh, seval]
      with_reducible repeat' (first | apply ai | intro _ | ((first | apply s1 | apply s3 | apply s4) <;> intro hb <;> simp -implicitDefEqProofs only [hb, go_sem, hh, seval] <;> try simp only [qz] at hb))
      all_goals (try simp only [maxLen] at *)
      all_goals first | rfl | omega | with_reducible assumption | exact hsz | exact hsz.1 | exact hsz.2 | exact hsz.2 _ (by assumption) | exact hsz.2.1 | exact hsz.2.2.1 | exact hsz.2.2.2 | trivial | skip
      rw [Aa, tn] at hb
      rw [hix, CT (p := Nk.sem (.way )) (by omega) hb]
    ·simp -implicitDefEqProofs only [hlt, go_sem, hh, seval]
     with_reducible repeat' (first | apply ai | intro _ | ((first | apply s1 | apply s3 | apply s4) <;> intro hb <;> simp -implicitDefEqProofs only [hb, go_sem, hh, seval] <;> try simp only [qz] at hb))
     all_goals first | rfl | omega | skip
     all_goals (rw [hix, CS (by omega)])
end
def kw : Ct := An (lc G7.asl (lc Y6 l0)) (fun p => ∀ x ∈ p.1, p.2.1.pre x) (fun p => .t (.v (.bool (BU (∃ x ∈ p.1, p.2.1.sem x)))))
section
attribute [local go_sem] lR BO BN Bool.not_true Bool.not_false Bw DH JH JI
theorem cA {G : Gt} (hG : Aj G) (hh : G.e 152 = AA 0 lR) : Gd G 101 (AA 0 kw) := by
 refine gr (fn := Tryz.f101) (n := 2) rfl hG ?_
 rintro ⟨xs, f, ⟨⟩⟩ hpre
 dsimp only at hpre ⊢
 cases f
 all_goals
  simp -implicitDefEqProofs only [Tryz.f101, go_sem, hh, seval]
  with_reducible repeat' (first | apply ai | intro _ | ((first | apply s1 | apply s3 | apply s4) <;> intro hb <;> simp -implicitDefEqProofs only [hb, go_sem, hh, seval] <;> try simp only [qz] at hb))
  all_goals first | rfl | omega | exact hpre | exact hpre _ (by assumption) | skip
  all_goals (rw [← AY (D9 _ 0)]; rw [A8])
end
def lT : Ct := An (lc Al.asl (lc A0 l0)) (fun p => True) (fun p => .t (.v (.int .i64 (A4 (fun s : ByteArray => s = p.2.1) 0 p.1))))
section
attribute [local go_sem] lm
theorem cr {G : Gt} (hG : Aj G) : Gd G 155 (AA 0 lT) := by
 refine gr (fn := Tryz.f155) (n := 2) rfl hG ?_
 rintro ⟨xs, a, ⟨⟩⟩ hpre
 simp -implicitDefEqProofs only [Tryz.f155, go_sem, seval] at hpre ⊢
 with_reducible repeat' (first | apply ai | intro _ | ((first | apply s1 | apply s3 | apply s4) <;> intro hb <;> simp -implicitDefEqProofs only [hb, go_sem, seval] <;> try simp only [qz] at hb))
 all_goals first | rfl | omega | skip
 refine AF [] (ι := {i : Nat // i ≤ xs.length ∧ A4 (fun s : ByteArray => s = a) 0 xs = A4 (fun s : ByteArray => s = a) i (xs.drop i)}) (fun p => ⟨[(0, .t (.sl 1 (xs.map AH))), (1, .t (.v (.string a))), (7, .t (.v (.int .i64 xs.length))), (8, .t (.v (.int .i64 p.1)))], []⟩) (fun p => xs.length - p.1) ⟨0, by simp, rfl⟩ rfl ?_ ?_
 ·simp -implicitDefEqProofs only [go_sem, seval]
  try simp
 ·rintro ⟨i, hi, hix⟩
  by_cases hlt : (i : Int) < xs.length
  ·simp -implicitDefEqProofs only [hlt, decide_true, tn, go_sem, seval]
   with_reducible repeat' (first | apply ai | intro _ | ((first | apply s1 | apply s3 | apply s4) <;> intro hb <;> simp -implicitDefEqProofs only [hb, go_sem, seval] <;> try simp only [qz] at hb))
   all_goals (try simp only [maxLen] at *)
   all_goals first | rfl | omega | skip
   ·rw [hix, CT (p := fun s : ByteArray => s = a) (by omega) hb.symm]
   ·refine ⟨⟨i + 1, by omega, by rw [hix, DM (p := fun s : ByteArray => s = a) (by omega) (fun e => hb e.symm)]⟩, by dsimp only; omega, ?_⟩
    simp -implicitDefEqProofs only [go_sem, seval]
    try simp
  ·simp -implicitDefEqProofs only [hlt, decide_false, go_sem, seval]
   with_reducible repeat' (first | apply ai | intro _ | ((first | apply s1 | apply s3 | apply s4) <;> intro hb <;> simp -implicitDefEqProofs only [hb, go_sem, seval] <;> try simp only [qz] at hb))
   all_goals first | rfl | omega | skip
   rw [hix, CS (by omega)]
end
def kz : Ct := An (lc Al.asl (lc A0 l0)) (fun p => True) (fun p => .t (.v (.bool (BU (p.2.1 ∈ p.1)))))
section
attribute [local go_sem] lT
theorem cG {G : Gt} (hG : Aj G) (hh : G.e 155 = AA 0 lT) : Gd G 107 (AA 0 kz) := by
 refine gr (fn := Tryz.f107) (n := 2) rfl hG ?_
 rintro ⟨xs, a, ⟨⟩⟩ hpre
 simp -implicitDefEqProofs only [Tryz.f107, go_sem, hh, seval] at hpre ⊢
 with_reducible repeat' (first | apply ai | intro _ | ((first | apply s1 | apply s3 | apply s4) <;> intro hb <;> simp -implicitDefEqProofs only [hb, go_sem, hh, seval] <;> try simp only [qz] at hb))
 all_goals first | rfl | omega | skip
 refine uD ?_
 rw [ge_iff_le, D9]
 exact ⟨fun ⟨x, hx, e⟩ => e ▸ hx, fun h => ⟨a, h, rfl⟩⟩
end
def tE : Ct := An (lc IZ.ag (lc A0 l0)) (fun p => True) (fun p => .t (.v (.bool (BU (p.2.1 ∈ p.1.own)))))
section
attribute [local go_sem] kz
theorem pI {G : Gt} (hG : Aj G) (hh : G.e 107 = AA 0 kz) : Gd G 48 (AA 0 tE) := by
 refine gr (fn := Tryz.f48) (n := 2) rfl hG ?_
 rintro ⟨c, a, ⟨⟩⟩ hpre
 simp -implicitDefEqProofs only [Tryz.f48, go_sem, hh, seval] at hpre ⊢
 with_reducible repeat' (first | apply ai | intro _ | ((first | apply s1 | apply s3 | apply s4) <;> intro hb <;> simp -implicitDefEqProofs only [hb, go_sem, hh, seval] <;> try simp only [qz] at hb))
 all_goals first | rfl | omega | skip
end
def wy : Ct := An (lc IZ.ag l0) (fun p => LK p.1) (fun p => .t (.v (.bool (BU (LE p.1)))))
section
attribute [local go_sem] Vi VO kw BO BN Bool.not_true Bool.not_false Bw DH JF JG JH JI C5 C7 C6 C8 Aa AZ lm
set_option maxHeartbeats 1600000 in
theorem pC {G : Gt} (hG : Aj G) (hh : G.e 98 = AA 0 Vi ∧ G.e 100 = AA 0 VO ∧ G.e 101 = AA 0 kw) : Gd G 42 (AA 0 wy) := by
 refine gr (fn := Tryz.f42) (n := 1) rfl hG ?_
 rintro ⟨c, ⟨⟩⟩ hpre
 simp -implicitDefEqProofs only [Tryz.f42, go_sem, hh, seval] at hpre ⊢
 obtain ⟨z1, ⟨l1, z2⟩, ⟨l2, z3⟩⟩ := hpre
 have y1 : c.name.size ≤ 2000000 := by have : c.name.size ≤ 1048576 := z1; omega
 have y2 : ∀ x ∈ c.own, Dy.pre .dom x := fun x hx => by have : x.size ≤ 1048576 := z2 x hx; show x.size ≤ 2000000; omega
 have y3 : ∀ x ∈ c.ways, Nk.pre .way x := fun x hx => by
  have h1 : x.ends.size ≤ 1048576 := (z3 x hx).1
  have h2 : x.to.size ≤ 1048576 := (z3 x hx).2
  exact ⟨by omega, by omega⟩
 have e1 : (¬ ∃ x ∈ c.own, Dy.sem .dom x) ↔ ∀ s ∈ c.own, D4 s := ⟨fun h s hs => Classical.byContradiction fun q => h ⟨s, hs, q⟩, fun h ⟨s, hs, q⟩ => q (h s hs)⟩
 have e2 : (¬ ∃ x ∈ c.ways, Nk.sem .way x) ↔ ∀ w ∈ c.ways, D4 w.ends ∧ D4 w.to := ⟨fun h s hs => Classical.byContradiction fun q => h ⟨s, hs, q⟩, fun h ⟨s, hs, q⟩ => q (h s hs)⟩
 with_reducible repeat' (first | apply ai | intro _ | ((first | apply s1 | apply s3 | apply s4) <;> intro hb <;> simp -implicitDefEqProofs only [hb, go_sem, hh, seval] <;> try simp only [qz] at hb))
 all_goals first | rfl | omega | assumption | exact y2 _ (by assumption) | exact y3 _ (by assumption) | skip
 all_goals first
  | exact uN (e2.trans ⟨fun q => ⟨e1.1 (by assumption), q, by assumption, by omega, by omega⟩, fun q => q.2.1⟩)
  | exact uF (fun q => absurd q.2.2.1 (by assumption))
  | exact uF (fun q => by have h1 := q.2.2.2.1; have h2 := q.2.2.2.2; omega)
  | exact uF (fun q => absurd hb (e1.2 q.1))
  | skip
end
def ku : Ct := An (lc FH.ag l0) (fun p => ET p.1) (fun p => .t (.v (.bool (BU (Dz p.1)))))
section
attribute [local go_sem] wy Vf Vg tE w3 wD BO BN Bool.not_true Bool.not_false Bw DH JF JG JH JI C5 C7 C6 C8 Aa AZ lm
set_option maxHeartbeats 6400000 in
theorem oV {G : Gt} (hG : Aj G) (hh : G.e 42 = AA 0 wy ∧ G.e 43 = AA 0 Vf ∧ G.e 47 = AA 0 Vg ∧ G.e 48 = AA 0 tE ∧ G.e 49 = AA 0 w3 ∧ G.e 50 = AA 0 wD) : Gd G 10 (AA 0 ku) := by
 refine gr (fn := Tryz.f10) (n := 1) rfl hG ?_
 rintro ⟨h, ⟨⟩⟩ hpre
 simp -implicitDefEqProofs only [Tryz.f10, go_sem, hh, seval] at hpre ⊢
 obtain ⟨zc, zs, ⟨lb, zb⟩, zl⟩ := hpre
 have e1 : ∀ j, j < h.boxes.length → ((∃ x ∈ (h.boxes.getD j default).mails, Nj.sem .bad x) ↔ ¬ ∀ g ∈ (h.boxes.getD j default).mails, (BL g.frm ∨ AU g.frm) ∧ DQ g.body) := fun j _ => ⟨fun ⟨s, hs, q⟩ f => q (f s hs), fun f => Classical.byContradiction fun q => f fun s hs => Classical.byContradiction fun r => q ⟨s, hs, r⟩⟩
 with_reducible repeat' (first | apply ai | intro _ | ((first | apply s1 | apply s3 | apply s4) <;> intro hb <;> simp -implicitDefEqProofs only [hb, go_sem, hh, seval] <;> try simp only [qz] at hb))
 all_goals first
  | rfl
  | omega
  | assumption
  | exact uF (fun q => absurd q.2.1 (by assumption))
  | exact uF (fun q => absurd q.2.2 (by assumption))
  | skip
 all_goals
  refine AF [] (ι := {i : Nat // i ≤ h.boxes.length ∧ ∀ j, j < i → Uk h j}) (fun p => ⟨[(1, .pb 1001 0), (3, .fn 44 []), (17, .t (.sl 3 (h.boxes.map Bn))), (18, .t (.v (.int .i64 h.boxes.length))), (19, .t (.v (.int .i64 p.1)))], [(1001, some (.box ((Ao h).map .t)))]⟩) (fun p => h.boxes.length - p.1) ⟨0, by simp, by simp⟩ rfl ?_ ?_
  ·simp -implicitDefEqProofs only [go_sem, hh, seval]
   try simp
  ·rintro ⟨i, hi, hall⟩
   by_cases hlt : (i : Int) < h.boxes.length
   ·have hbx := zb _ (AE (xs := h.boxes) (j := i) (by omega))
    obtain ⟨za, zm⟩ := hbx
    have y1 : (h.boxes.getD i default).addr.domain.size ≤ 2000000 := by have : (h.boxes.getD i default).addr.domain.size ≤ 1048576 := za.2; omega
    have y2 : ∀ x ∈ (h.boxes.getD i default).mails, Nj.pre .bad x := fun x hx => by
     obtain ⟨⟨_, g1⟩, ⟨_, g2⟩⟩ := zm.2 x hx
     refine ⟨by have : x.frm.domain.size ≤ 1048576 := g1; omega, fun s hs => ?_⟩
     have : s.size ≤ 1048576 := g2 s hs
     omega
    have e2 := e1 i (by omega)
    simp -implicitDefEqProofs only [hlt, decide_true, tn, go_sem, hh, seval]
    with_reducible repeat' (first | apply ai | intro _ | ((first | apply s1 | apply s3 | apply s4) <;> intro hb <;> simp -implicitDefEqProofs only [hb, go_sem, hh, seval] <;> try simp only [qz] at hb))
    all_goals (try simp only [maxLen, tn] at *)
    all_goals have hnat : ((i : Int) - 1).toNat = i - 1 := by omega
    all_goals first
     | rfl
     | omega
     | assumption
     | exact y2 _ (by assumption)
     | exact uF (fun q => absurd (q.1 i (by omega)).1.2 (by assumption))
     | exact uF (fun q => absurd (q.1 i (by omega)).2.2 (by assumption))
     | exact uF (fun q => absurd hb (fun f => e2.1 f (q.1 i (by omega)).1.1))
     | exact uF (fun q => by have h9 := (H7 _ _).2 ((q.1 i (by omega)).2.1 (by omega)); rw [← hnat] at h9; omega)
     | skip
    all_goals
     refine ⟨⟨i + 1, by omega, C4 hall ⟨⟨Classical.byContradiction fun f => absurd (e2.2 f) (by assumption), by assumption⟩, fun _ => by first | (exact (H7 _ _).1 (by rw [← hnat]; omega)) | (exfalso; omega), by assumption⟩⟩, by dsimp only; omega, ?_⟩
     simp -implicitDefEqProofs only [go_sem, hh, seval]
     try simp
   ·simp -implicitDefEqProofs only [hlt, decide_false, go_sem, hh, seval]
    with_reducible repeat' (first | apply ai | intro _ | ((first | apply s1 | apply s3 | apply s4) <;> intro hb <;> simp -implicitDefEqProofs only [hb, go_sem, hh, seval] <;> try simp only [qz] at hb))
    all_goals first | rfl | omega | exact uT ⟨fun j hj => hall j (by omega), by assumption, by assumption⟩ | skip
end
def ux : ByteArray := ⟨#[73, 100, 58, 32]⟩
def Hy (s : ByteArray) : Prop := 4 < s.size ∧ s.extract 0 4 = ux
noncomputable def Br : List ByteArray → ByteArray
 | [] => ⟨#[]⟩
 | x :: r => bif BU (Hy x) then x else Br r
theorem Ox {xs : List ByteArray} {i : Nat} (h : i < xs.length) (ha : Hy (xs.getD i default)) : Br (xs.drop i) = xs.getD i default := by
 rw [Ac h, Br, Ag ha]; rfl
theorem SY {xs : List ByteArray} {i : Nat} (h : i < xs.length) (ha : ¬ Hy (xs.getD i default)) : Br (xs.drop i) = Br (xs.drop (i + 1)) := by
 rw [Ac h, Br, AO ha]; rfl
theorem Ow {xs : List ByteArray} {i : Nat} (h : xs.length ≤ i) : Br (xs.drop i) = ⟨#[]⟩ := by
 rw [List.drop_eq_nil_of_le h, Br]
def sD (s p : ByteArray) : Prop := p.size ≤ s.size ∧ s.extract 0 p.size = p
theorem Xl (s : ByteArray) : (sD s ux ∧ ¬ s = ux) ↔ Hy s := by
 unfold sD Hy
 have h4 : ux.size = 4 := rfl
 rw [h4]
 constructor
 ·rintro ⟨⟨h1, h2⟩, h3⟩
  refine ⟨?_, h2⟩
  by_cases e : s.size = 4
  ·exfalso
   apply h3
   rw [← h2, ← e]
   exact (ByteArray.extract_zero_size).symm
  ·omega
 ·rintro ⟨h1, h2⟩
  exact ⟨⟨by omega, h2⟩, fun e => by rw [e] at h1; have : ux.size = 4 := rfl; omega⟩
def lY : Ct := An (lc A0 (lc A0 l0)) (fun p => p.1.size ≤ 2000000 ∧ p.2.1.size ≤ 2000000) (fun p => .t (.v (.bool (BU (sD p.1 p.2.1)))))
theorem cz {G : Gt} (hG : Aj G) : Gd G 164 (AA 0 lY) := by
 refine gr (fn := Tryz.f164) (n := 2) rfl hG ?_
 rintro ⟨s, q, ⟨⟩⟩ hpre
 simp -implicitDefEqProofs only [Tryz.f164, go_sem, seval] at hpre ⊢
 obtain ⟨z1, z2⟩ := hpre
 with_reducible repeat' (first | apply ai | intro _ | ((first | apply s1 | apply s3 | apply s4) <;> intro hb <;> simp -implicitDefEqProofs only [hb, go_sem, seval] <;> try simp only [qz] at hb))
 all_goals (try simp only [maxLen, tn] at *)
 all_goals first
  | rfl
  | omega
  | exact uD ⟨fun h => ⟨by omega, h⟩, fun h => h.2⟩
  | exact uF (fun h => by have := h.1; omega)
  | skip
def lC : Ct := An (lc A0 (lc A0 l0)) (fun p => p.1.size ≤ 2000000 ∧ p.2.1.size ≤ 2000000) (fun p => .t (.v (.bool (BU (sD p.1 p.2.1)))))
section
attribute [local go_sem] lY
theorem cO {G : Gt} (hG : Aj G) (hh : G.e 164 = AA 0 lY) : Gd G 122 (AA 0 lC) := by
 refine gr (fn := Tryz.f122) (n := 2) rfl hG ?_
 rintro ⟨s, q, ⟨⟩⟩ hpre
 simp -implicitDefEqProofs only [Tryz.f122, go_sem, hh, seval] at hpre ⊢
 obtain ⟨z1, z2⟩ := hpre
 with_reducible repeat' (first | apply ai | intro _ | ((first | apply s1 | apply s3 | apply s4) <;> intro hb <;> simp -implicitDefEqProofs only [hb, go_sem, hh, seval] <;> try simp only [qz] at hb))
 all_goals (try simp only [maxLen, tn] at *)
 all_goals first
  | rfl
  | omega
  | exact uD ⟨fun h => ⟨by omega, h⟩, fun h => h.2⟩
  | exact uF (fun h => by have := h.1; omega)
  | skip
end
def au : Ct := An (lc Al.asl l0) (fun p => True) (fun p => .t (.v (.string (Br p.1))))
section
attribute [local go_sem] lm
theorem pO {G : Gt} (hG : Aj G) : Gd G 61 (AA 0 au) := by
 refine gr (fn := Tryz.f61) (n := 1) rfl hG ?_
 rintro ⟨xs, ⟨⟩⟩ hpre
 simp -implicitDefEqProofs only [Tryz.f61, go_sem, seval] at hpre ⊢
 refine AF [] (ι := {i : Nat // i ≤ xs.length ∧ Br xs = Br (xs.drop i)}) (fun p => ⟨[(0, .t (.sl 1 (xs.map AH))), (3, .t (.v (.int .i64 p.1)))], []⟩) (fun p => xs.length - p.1) ⟨0, by simp, rfl⟩ rfl ?_ ?_
 ·simp -implicitDefEqProofs only [go_sem, seval]
  try simp
 ·rintro ⟨i, hi, hix⟩
  by_cases hlt : (i : Int) < xs.length
  ·simp -implicitDefEqProofs only [hlt, decide_true, tn, go_sem, seval]
   with_reducible repeat' (first | apply ai | intro _ | ((first | apply s1 | apply s3 | apply s4) <;> intro hb <;> simp -implicitDefEqProofs only [hb, go_sem, seval] <;> try simp only [qz] at hb))
   all_goals (try simp only [maxLen, tn] at *)
   all_goals first
    | rfl
    | omega
    | (rw [hix, Ox (by omega) ⟨by omega, by assumption⟩]; done)
    | skip
   all_goals
    refine ⟨⟨i + 1, by omega, by rw [hix, SY (by omega) (fun h => by first | exact absurd h.2 (by assumption) | (have := h.1; omega))]⟩, by dsimp only; omega, ?_⟩
    simp -implicitDefEqProofs only [go_sem, seval]
    try simp
  ·simp -implicitDefEqProofs only [hlt, decide_false, go_sem, seval]
   with_reducible repeat' (first | apply ai | intro _ | ((first | apply s1 | apply s3 | apply s4) <;> intro hb <;> simp -implicitDefEqProofs only [hb, go_sem, seval] <;> try simp only [qz] at hb))
   all_goals first | rfl | omega | skip
   rw [hix, Ow (by omega)]
end
def tF : Ct := An (lc Al.asl l0) (fun p => ∀ s ∈ p.1, s.size ≤ 2000000) (fun p => .t (.v (.string (Br p.1))))
section
attribute [local go_sem] lC lm Aa AZ
theorem pM {G : Gt} (hG : Aj G) (hh : G.e 122 = AA 0 lC) : Gd G 56 (AA 0 tF) := by
 refine gr (fn := Tryz.f56) (n := 1) rfl hG ?_
 rintro ⟨xs, ⟨⟩⟩ hpre
 simp -implicitDefEqProofs only [Tryz.f56, go_sem, hh, seval] at hpre ⊢
 try dsimp only at hpre
 with_reducible repeat' (first | apply ai | intro _ | ((first | apply s1 | apply s3 | apply s4) <;> intro hb <;> simp -implicitDefEqProofs only [hb, go_sem, hh, seval] <;> try simp only [qz] at hb))
 all_goals first | rfl | omega | skip
 refine AF [] (ι := {i : Nat // i ≤ xs.length ∧ Br xs = Br (xs.drop i)}) (fun p => ⟨[(5, .t (.sl 1 (xs.map AH))), (6, .t (.v (.int .i64 xs.length))), (7, .t (.v (.int .i64 p.1)))], []⟩) (fun p => xs.length - p.1) ⟨0, by simp, rfl⟩ rfl ?_ ?_
 ·simp -implicitDefEqProofs only [go_sem, hh, seval]
  try simp
 ·rintro ⟨i, hi, hix⟩
  by_cases hlt : (i : Int) < xs.length
  ·have hm := hpre _ (AE (xs := xs) (j := i) (by omega))
   simp -implicitDefEqProofs only [hlt, decide_true, tn, go_sem, hh, seval]
   with_reducible repeat' (first | apply ai | intro _ | ((first | apply s1 | apply s3 | apply s4) <;> intro hb <;> simp -implicitDefEqProofs only [hb, go_sem, hh, seval] <;> try simp only [qz] at hb))
   all_goals (try simp only [maxLen, tn] at *)
   all_goals first
    | rfl
    | omega
    | assumption
    | decide
    | (rw [hix, Ox (by omega) ((Xl _).1 ⟨by assumption, by assumption⟩)]; done)
    | skip
   all_goals
    refine ⟨⟨i + 1, by omega, by rw [hix, SY (by omega) (fun h => by have h2 := (Xl _).2 h; first | exact absurd h2.1 (by assumption) | exact absurd (by assumption) h2.2)]⟩, by dsimp only; omega, ?_⟩
    simp -implicitDefEqProofs only [go_sem, hh, seval]
    try simp
  ·simp -implicitDefEqProofs only [hlt, decide_false, go_sem, hh, seval]
   with_reducible repeat' (first | apply ai | intro _ | ((first | apply s1 | apply s3 | apply s4) <;> intro hb <;> simp -implicitDefEqProofs only [hb, go_sem, hh, seval] <;> try simp only [qz] at hb))
   all_goals first | rfl | omega | skip
   rw [hix, Ow (by omega)]
end
theorem tV {x : ByteArray} : Al.decL [[.v (.string x)]] = some [x] := Al.decL_map [x]
def j4 (l : Ls) : Prop := ¬ l.mark = ⟨#[]⟩ ∧ Br [l.mark] = l.mark ∧ BL l.addr ∧ Ia l.mark
def SK (h : Hs) : ByteArray := h.conf.name
def kE (w : Wd) : Prop := (∀ h ∈ w.hosts, Dz h) ∧ (w.hosts.map SK).Nodup ∧ (∀ l ∈ w.given, j4 l) ∧ (1 ≤ (w.hosts.length : Int) ∧ (w.hosts.length : Int) ≤ 4) ∧ (0 ≤ w.now ∧ w.now ≤ 9999) ∧ (0 ≤ w.marks ∧ w.marks ≤ 60)
theorem UB {xs : List Hs} (h : ∀ j, j < xs.length → ∀ k, k < j → ¬ (xs.getD k default).conf.name = (xs.getD j default).conf.name) : (xs.map SK).Nodup := by
 rw [List.nodup_iff_pairwise_ne, List.pairwise_iff_getElem]
 intro k j hk hj hkj
 rw [lm] at hk hj
 have := h j hj k hkj
 simpa [hk, hj, SK] using this
theorem T4 {xs : List Hs} (h : (xs.map SK).Nodup) {k i : Nat} (hk : k < i) (hi : i < xs.length) : ¬ (xs.getD k default).conf.name = (xs.getD i default).conf.name := fun e => by
 have q1 : k < xs.length := by omega
 simp only [List.getD_eq_getElem?_getD, List.getElem?_eq_getElem q1, List.getElem?_eq_getElem hi, Option.getD_some] at e
 exact List.pairwise_iff_getElem.1 (List.nodup_iff_pairwise_ne.1 h) k i (by simpa using q1) (by simpa using hi) hk (by simpa [SK] using e)
def w6 : Ct := An (lc gk.ag l0) (fun p => True) (fun p => .t (.v (.bool (BU (kE p.1)))))
section
attribute [local go_sem] sI IA au QD J6 Aa AZ lm tV
set_option maxHeartbeats 6400000 in
theorem pN {G : Gt} (hG : Aj G) (hh : G.e 32 = AA 0 sI ∧ G.e 123 = AA 0 IA ∧ G.e 61 = AA 0 au ∧ G.e 124 = AA 0 QD ∧ G.e 36 = AA 0 J6) : Gd G 58 (AA 0 w6) := by
 refine gr (fn := Tryz.f58) (n := 1) rfl hG ?_
 rintro ⟨w, ⟨⟩⟩ hpre
 simp -implicitDefEqProofs only [Tryz.f58, go_sem, hh, seval] at hpre ⊢
 refine AF [] (ι := {i : Nat // i ≤ w.hosts.length ∧ (∀ j, j < i → Dz (w.hosts.getD j default)) ∧ ∀ j, j < i → ∀ k, k < j → ¬ (w.hosts.getD k default).conf.name = (w.hosts.getD j default).conf.name}) (fun p => ⟨[(1, .pb 1001 0), (3, .t (.v (.int .i64 p.1)))], [(1001, some (.box ((Ii w).map .t)))]⟩) (fun p => w.hosts.length - p.1) ⟨0, by simp, by simp, by simp⟩ rfl ?_ ?_
 ·simp -implicitDefEqProofs only [go_sem, hh, seval]
  try simp
 ·rintro ⟨i, hi, hall, hno⟩
  by_cases hlt : (i : Int) < w.hosts.length
  ·simp -implicitDefEqProofs only [hlt, decide_true, tn, go_sem, hh, seval]
   with_reducible repeat' (first | apply ai | intro _ | ((first | apply s1 | apply s3 | apply s4) <;> intro hb <;> simp -implicitDefEqProofs only [hb, go_sem, hh, seval] <;> try simp only [qz] at hb))
   all_goals (try simp only [maxLen, tn] at *)
   all_goals first
    | rfl
    | omega
    | exact uF (fun q => absurd (q.1 (w.hosts.getD i default) (AE (by omega))) (by assumption))
    | skip
   refine AF [] (ι := {k : Nat // k ≤ i ∧ ∀ j, j < k → ¬ (w.hosts.getD j default).conf.name = (w.hosts.getD i default).conf.name}) (fun p => ⟨[(1, .pb 1001 0), (3, .t (.v (.int .i64 i))), (4, .t (.v (.int .i64 p.1)))], [(1001, some (.box ((Ii w).map .t)))]⟩) (fun p => i - p.1) ⟨0, by simp, by simp⟩ rfl ?_ ?_
   ·simp -implicitDefEqProofs only [go_sem, hh, seval]
    try simp
   ·rintro ⟨k, hk, hk2⟩
    by_cases hlt2 : (k : Int) < i
    ·simp -implicitDefEqProofs only [hlt2, decide_true, tn, go_sem, hh, seval]
     with_reducible repeat' (first | apply ai | intro _ | ((first | apply s1 | apply s3 | apply s4) <;> intro hb <;> simp -implicitDefEqProofs only [hb, go_sem, hh, seval] <;> try simp only [qz] at hb))
     all_goals (try simp only [maxLen, tn] at *)
     all_goals first
      | rfl
      | omega
      | exact uF (fun q => T4 q.2.1 (k := k) (i := i) (by omega) (by omega) (by assumption))
      | skip
     all_goals
      refine ⟨⟨k + 1, by omega, C4 hk2 (by assumption)⟩, by dsimp only; omega, ?_⟩
      simp -implicitDefEqProofs only [go_sem, hh, seval]
      try simp
    ·simp -implicitDefEqProofs only [hlt2, decide_false, go_sem, hh, seval]
     with_reducible repeat' (first | apply ai | intro _ | ((first | apply s1 | apply s3 | apply s4) <;> intro hb <;> simp -implicitDefEqProofs only [hb, go_sem, hh, seval] <;> try simp only [qz] at hb))
     all_goals first | rfl | omega | skip
     refine ⟨⟨i + 1, by omega, C4 hall (by assumption), C4 (P := fun j => ∀ k, k < j → ¬ (w.hosts.getD k default).conf.name = (w.hosts.getD j default).conf.name) hno (fun q hq => hk2 q (by omega))⟩, by dsimp only; omega, ?_⟩
     simp -implicitDefEqProofs only [go_sem, hh, seval]
     try simp
  ·have hA : ∀ h ∈ w.hosts, Dz h := BX fun j hj => hall j (by omega)
   have hN : (w.hosts.map SK).Nodup := UB fun j hj q hq => hno j (by omega) q hq
   simp -implicitDefEqProofs only [hlt, decide_false, go_sem, hh, seval]
   with_reducible repeat' (first | apply ai | intro _ | ((first | apply s1 | apply s3 | apply s4) <;> intro hb <;> simp -implicitDefEqProofs only [hb, go_sem, hh, seval] <;> try simp only [qz] at hb))
   all_goals first | rfl | omega | skip
   refine AF [] (ι := {i : Nat // i ≤ w.given.length ∧ ∀ j, j < i → j4 (w.given.getD j default)}) (fun p => ⟨[(1, .pb 1001 0), (5, .t (.v (.int .i64 p.1)))], [(1001, some (.box ((Ii w).map .t)))]⟩) (fun p => w.given.length - p.1) ⟨0, by simp, by simp⟩ rfl ?_ ?_
   ·simp -implicitDefEqProofs only [go_sem, hh, seval]
    try simp
   ·rintro ⟨k, hk, hall2⟩
    by_cases hlt2 : (k : Int) < w.given.length
    ·simp -implicitDefEqProofs only [hlt2, decide_true, tn, go_sem, hh, seval]
     with_reducible repeat' (first | apply ai | intro _ | ((first | apply s1 | apply s3 | apply s4) <;> intro hb <;> simp -implicitDefEqProofs only [hb, go_sem, hh, seval] <;> try simp only [qz] at hb))
     all_goals (try simp only [maxLen, tn] at *)
     all_goals first
      | rfl
      | omega
      | decide
      | exact uF (fun q => absurd (q.2.2.1 (w.given.getD k default) (AE (by omega))).1 (by simpa using hb))
      | exact uF (fun q => absurd (q.2.2.1 (w.given.getD k default) (AE (by omega))).2.1 (by assumption))
      | exact uF (fun q => absurd (q.2.2.1 (w.given.getD k default) (AE (by omega))).2.2.1 (by assumption))
      | exact uF (fun q => absurd (q.2.2.1 (w.given.getD k default) (AE (by omega))).2.2.2 (by assumption))
      | skip
     all_goals
      refine ⟨⟨k + 1, by omega, C4 hall2 ⟨by first | assumption | (simpa using hb), by assumption, by assumption, by assumption⟩⟩, by dsimp only; omega, ?_⟩
      simp -implicitDefEqProofs only [go_sem, hh, seval]
      try simp
    ·have hB : ∀ l ∈ w.given, j4 l := BX fun j hj => hall2 j (by omega)
     simp -implicitDefEqProofs only [hlt2, decide_false, go_sem, hh, seval]
     with_reducible repeat' (first | apply ai | intro _ | ((first | apply s1 | apply s3 | apply s4) <;> intro hb <;> simp -implicitDefEqProofs only [hb, go_sem, hh, seval] <;> try simp only [qz] at hb))
     all_goals first
      | rfl
      | omega
      | exact uE ⟨fun q => ⟨hA, hN, hB, by assumption, by assumption, q⟩, fun q => q.2.2.2.2.2⟩
      | exact uF (fun q => absurd q.2.2.2.1 (by assumption))
      | exact uF (fun q => absurd q.2.2.2.2.1 (by assumption))
      | skip
end
def Bt {α : Type} (f : α → Int) : List α → Int
 | [] => 0
 | x :: r => f x + Bt f r
theorem Yj {α : Type} [Inhabited α] {f : α → Int} {xs : List α} {i : Nat} (h : i < xs.length) : Bt f (xs.drop i) = f (xs.getD i default) + Bt f (xs.drop (i + 1)) := by
 rw [Ac h]; rfl
theorem gS {α : Type} {f : α → Int} {xs : List α} {i : Nat} (h : xs.length ≤ i) : Bt f (xs.drop i) = 0 := by
 rw [List.drop_eq_nil_of_le h]; rfl
theorem RO {α : Type} {f : α → Int} {B : Int} : ∀ {xs : List α}, (∀ x ∈ xs, 0 ≤ f x ∧ f x ≤ B) → 0 ≤ Bt f xs ∧ Bt f xs ≤ B * xs.length
 | [], _ => by simp [Bt]
 | x :: r, h => by
   have h1 := h x (by simp)
   have h2 := RO (xs := r) fun y hy => h y (by simp [hy])
   have e1 : B * ((r.length + 1 : Nat) : Int) = B * r.length + B := by rw [Int.natCast_add, Int.mul_add]; simp
   simp only [Bt, List.length_cons]
   omega
theorem Yi {α : Type} {f : α → Int} {xs : List α} (h : ∀ x ∈ xs, 0 ≤ f x) (i : Nat) : 0 ≤ Bt f (xs.drop i) := by
 have h2 : ∀ {ys : List α}, (∀ x ∈ ys, 0 ≤ f x) → 0 ≤ Bt f ys := fun {ys} => by
  induction ys with
  | nil => intro _; exact Int.le_refl _
  | cons y r ih =>
    intro h
    have h1 := h y (by simp)
    have h3 := ih fun z hz => h z (by simp [hz])
    show 0 ≤ f y + Bt f r
    omega
 exact h2 fun x hx => h x (List.mem_of_mem_drop hx)
def GO (x : Im) : Int := x.to.length
open Classical in
noncomputable def DA (s : Sp) : Int := if BI s then Bt GO s.items else -1
theorem MY {s : Sp} (h : BI s) : DA s = Bt GO s.items := if_pos h
theorem Zv {s : Sp} (h : ¬ BI s) : DA s = -1 := if_neg h
theorem SW {s : Sp} (h : BI s) : 0 ≤ Bt GO s.items ∧ Bt GO s.items ≤ 40 := by
 have h1 := RO (f := GO) (B := 4) (xs := s.items) fun x hx => by
  have := (h.1 x hx).1.2.2.2.2.1
  unfold GO; omega
 have h2 := h.2.2.2
 omega
def wm : Ct := An (lc LG.ag l0) (fun p => EF p.1) (fun p => .t (.v (.int .i64 (DA p.1))))
section
attribute [local go_sem] Vf Aa AZ lm
theorem oW {G : Gt} (hG : Aj G) (hh : G.e 43 = AA 0 Vf) : Gd G 11 (AA 0 wm) := by
 refine gr (fn := Tryz.f11) (n := 1) rfl hG ?_
 rintro ⟨s, ⟨⟩⟩ hpre
 simp -implicitDefEqProofs only [Tryz.f11, go_sem, hh, seval] at hpre ⊢
 by_cases h : BI s
 ·have b1 := Ag h
  have hm := SW h
  rw [MY h]
  simp -implicitDefEqProofs only [b1, go_sem, hh, seval]
  with_reducible repeat' (first | apply ai | intro _ | ((first | apply s1 | apply s3 | apply s4) <;> intro hb <;> simp -implicitDefEqProofs only [hb, go_sem, hh, seval] <;> try simp only [qz] at hb))
  all_goals first | rfl | omega | assumption | contradiction | skip
  all_goals
   refine AF [] (ι := {p : Nat × Int // p.1 ≤ s.items.length ∧ 0 ≤ p.2 ∧ p.2 + Bt GO (s.items.drop p.1) = Bt GO s.items}) (fun p => ⟨[(1, .pb 1001 0), (3, .t (.v (.int .i64 p.1.2))), (10, .t (.sl 5 (s.items.map Ah))), (11, .t (.v (.int .i64 s.items.length))), (12, .t (.v (.int .i64 p.1.1)))], [(1001, some (.box ((Dk s).map .t)))]⟩) (fun p => s.items.length - p.1.1) ⟨(0, 0), by simp, by simp, by simp⟩ rfl ?_ ?_
   ·simp -implicitDefEqProofs only [go_sem, hh, seval]
    try simp
   ·rintro ⟨⟨i, v⟩, hi, h0, hv⟩
    dsimp only at hi h0 hv ⊢
    by_cases hlt : (i : Int) < s.items.length
    ·have Ap := Yj (f := GO) (xs := s.items) (i := i) (by omega)
     have hrest := Yi (f := GO) (xs := s.items) (fun x _ => by unfold GO; omega) (i + 1)
     have hr : GO (s.items.getD i default) = (s.items.getD i default).to.length := rfl
     simp -implicitDefEqProofs only [hlt, decide_true, tn, go_sem, hh, seval]
     with_reducible repeat' (first | apply ai | intro _ | ((first | apply s1 | apply s3 | apply s4) <;> intro hb <;> simp -implicitDefEqProofs only [hb, go_sem, hh, seval] <;> try simp only [qz] at hb))
     all_goals (try simp only [maxLen, tn] at *)
     all_goals first | rfl | omega | skip
     refine ⟨⟨(i + 1, v + (s.items.getD i default).to.length), by dsimp only; omega, by dsimp only; omega, by dsimp only; omega⟩, by dsimp only; omega, ?_⟩
     simp -implicitDefEqProofs only [go_sem, hh, seval]
     try simp
    ·have Ap := gS (f := GO) (xs := s.items) (i := i) (by omega)
     simp -implicitDefEqProofs only [hlt, decide_false, go_sem, hh, seval]
     with_reducible repeat' (first | apply ai | intro _ | ((first | apply s1 | apply s3 | apply s4) <;> intro hb <;> simp -implicitDefEqProofs only [hb, go_sem, hh, seval] <;> try simp only [qz] at hb))
     all_goals first | rfl | omega | (rw [← hv, Ap, Int.add_zero]; done) | skip
 ·have b1 := AO h
  rw [Zv h]
  simp -implicitDefEqProofs only [b1, go_sem, hh, seval]
  with_reducible repeat' (first | apply ai | intro _ | ((first | apply s1 | apply s3 | apply s4) <;> intro hb <;> simp -implicitDefEqProofs only [hb, go_sem, hh, seval] <;> try simp only [qz] at hb))
  all_goals first | rfl | omega | assumption | contradiction | skip
end
def xY (h : Hs) : Int := h.spool.items.length
noncomputable def xi (h : Hs) : Int := DA h.spool
def xh (b : Bx) : Int := b.mails.length
def wl (h : Hs) : Int := Bt xh h.boxes
def xd (h : Hs) : Int := h.lost.length
theorem SM {h : Hs} (hh : Dz h) (ho : ET h) : (0 ≤ xY h ∧ xY h ≤ 10) ∧ (0 ≤ xi h ∧ xi h ≤ 40) ∧ (0 ≤ wl h ∧ wl h ≤ 1099511627776) ∧ (0 ≤ xd h ∧ xd h ≤ 1048576) := by
 obtain ⟨_, _, ⟨lb, zb⟩, ⟨ll, _⟩⟩ := ho
 have hs := hh.2.2
 have h1 := hs.2.2.2
 have h2 := SW hs
 have h3 := RO (f := xh) (B := 1048576) (xs := h.boxes) fun b hb => by
  have := (zb b hb).2.1
  unfold xh; omega
 refine ⟨by unfold xY; omega, by unfold xi; rw [MY hs]; exact h2, ?_, by unfold xd; omega⟩
 unfold wl
 have h4 : (1048576 : Int) * h.boxes.length ≤ 1048576 * 1048576 := Int.mul_le_mul_of_nonneg_left lb (by decide)
 omega
section
variable {a b c d x : Int}
end
open Classical in
noncomputable def K8 (d : ByteArray) : Wy → List Wy → Wy
 | b, [] => b
 | b, w :: r => K8 d (if Zh d w.ends ∧ b.ends.size < w.ends.size then w else b) r
noncomputable def Pb (c : Cf) (d : ByteArray) : ByteArray := (K8 d ⟨⟨#[]⟩, ⟨#[]⟩⟩ c.ways).to
theorem rz {d : ByteArray} {b : Wy} {xs : List Wy} {i : Nat} (h : i < xs.length) (h1 : Zh d (xs.getD i default).ends) (h2 : b.ends.size < (xs.getD i default).ends.size) : K8 d b (xs.drop i) = K8 d (xs.getD i default) (xs.drop (i + 1)) := by
 rw [Ac h, K8, if_pos ⟨h1, h2⟩]
theorem ry {d : ByteArray} {b : Wy} {xs : List Wy} {i : Nat} (h : i < xs.length) (h1 : ¬ (Zh d (xs.getD i default).ends ∧ b.ends.size < (xs.getD i default).ends.size)) : K8 d b (xs.drop i) = K8 d b (xs.drop (i + 1)) := by
 rw [Ac h, K8, if_neg h1]
theorem Yw {d : ByteArray} {b : Wy} {xs : List Wy} {i : Nat} (h : xs.length ≤ i) : K8 d b (xs.drop i) = b := by
 rw [List.drop_eq_nil_of_le h, K8]
def QH : Ct := An (lc IZ.ag (lc A0 l0)) (fun p => True) (fun p => .t (.v (.string (Pb p.1 p.2.1))))
section
attribute [local go_sem] lu Aa AZ lm
theorem dD {G : Gt} (hG : Aj G) (hh : G.e 196 = AA 0 lu) : Gd G 171 (AA 0 QH) := by
 refine gr (fn := Tryz.f171) (n := 2) rfl hG ?_
 rintro ⟨c, d, ⟨⟩⟩ hpre
 simp -implicitDefEqProofs only [Tryz.f171, go_sem, hh, seval] at hpre ⊢
 refine AF [] (ι := {p : Nat × Wy // p.1 ≤ c.ways.length ∧ Pb c d = (K8 d p.2 (c.ways.drop p.1)).to}) (fun p => ⟨[(1, .t (.v (.string d))), (2, .pb 1002 0), (5, .t (.v (.string p.1.2.ends))), (6, .t (.v (.string p.1.2.to))), (7, .t (.v (.int .i64 p.1.1)))], [(1002, some (.box ((Cr c).map .t)))]⟩) (fun p => c.ways.length - p.1.1) ⟨(0, ⟨⟨#[]⟩, ⟨#[]⟩⟩), by simp, rfl⟩ rfl ?_ ?_
 ·simp -implicitDefEqProofs only [go_sem, hh, seval]
  try simp
 ·rintro ⟨⟨i, b⟩, hi, hw⟩
  dsimp only at hi hw ⊢
  by_cases hlt : (i : Int) < c.ways.length
  ·simp -implicitDefEqProofs only [hlt, decide_true, tn, go_sem, hh, seval]
   with_reducible repeat' (first | apply ai | intro _ | ((first | apply s1 | apply s3 | apply s4) <;> intro hb <;> simp -implicitDefEqProofs only [hb, go_sem, hh, seval] <;> try simp only [qz] at hb))
   all_goals (try simp only [maxLen, tn] at *)
   all_goals first | rfl | omega | skip
   all_goals first
    | (refine ⟨⟨(i + 1, c.ways.getD i default), by dsimp only; omega, by dsimp only; rw [hw, rz (by omega) (by assumption) (by omega)]⟩, by dsimp only; omega, ?_⟩
       simp -implicitDefEqProofs only [go_sem, hh, seval]
       simp; done)
    | (refine ⟨⟨(i + 1, b), by dsimp only; omega, by dsimp only; rw [hw, ry (by omega) (fun q => by first | exact absurd q.1 (by assumption) | (have := q.2; omega))]⟩, by dsimp only; omega, ?_⟩
       simp -implicitDefEqProofs only [go_sem, hh, seval]
       simp; done)
    | skip
  ·simp -implicitDefEqProofs only [hlt, decide_false, go_sem, hh, seval]
   with_reducible repeat' (first | apply ai | intro _ | ((first | apply s1 | apply s3 | apply s4) <;> intro hb <;> simp -implicitDefEqProofs only [hb, go_sem, hh, seval] <;> try simp only [qz] at hb))
   all_goals first | rfl | omega | (rw [hw, Yw (by omega)]; done) | skip
end
section
attribute [local go_sem] tE Aa AZ lm
end
def I4 (c : Cf) (to : ByteArray) (w : Int) (r : Rc) : Prop := r.next ≤ w ∧ ((r.addr.domain ∈ c.own ∧ to = ⟨#[]⟩) ∨ (¬ r.addr.domain ∈ c.own ∧ ¬ to = ⟨#[]⟩ ∧ Pb c r.addr.domain = to))
noncomputable def BC (c : Cf) (to : ByteArray) (w : Int) : List Rc → List Ad
 | [] => []
 | r :: t => bif BU (I4 c to w r) then r.addr :: BC c to w t else BC c to w t
section
variable {c : Cf} {to : ByteArray} {w : Int} {xs : List Rc} {i : Nat}
theorem RB (h : i < xs.length) (hn : I4 c to w (xs.getD i default)) : BC c to w (xs.drop i) = (xs.getD i default).addr :: BC c to w (xs.drop (i + 1)) := by
 rw [Ac h, BC, Ag hn]; rfl
theorem RA (h : i < xs.length) (hn : ¬ I4 c to w (xs.getD i default)) : BC c to w (xs.drop i) = BC c to w (xs.drop (i + 1)) := by
 rw [Ac h, BC, AO hn]; rfl
theorem Kk (h : xs.length ≤ i) : BC c to w (xs.drop i) = [] := by
 rw [List.drop_eq_nil_of_le h, BC]
end
theorem Ff (c : Cf) (to : ByteArray) (w : Int) : ∀ xs : List Rc, (BC c to w xs).length ≤ xs.length
 | [] => Nat.le_refl _
 | r :: t => by
   rw [BC]
   have := Ff c to w t
   cases BU (I4 c to w r) <;> simp only [cond_true, cond_false, List.length_cons] <;> omega
theorem Ei (c : Cf) (to : ByteArray) (w : Int) : ∀ xs : List Rc, ∀ a ∈ BC c to w xs, ∃ r ∈ xs, r.addr = a ∧ I4 c to w r
 | [], a, h => by cases h
 | r :: t, a, h => by
   rw [BC] at h
   by_cases hn : I4 c to w r
   ·rw [Ag hn] at h
    rcases List.mem_cons.1 h with e | h
    ·exact ⟨r, by simp, e.symm, hn⟩
    ·obtain ⟨q, hq, he⟩ := Ei c to w t a h
     exact ⟨q, by simp [hq], he⟩
   ·rw [AO hn] at h
    obtain ⟨q, hq, he⟩ := Ei c to w t a h
    exact ⟨q, by simp [hq], he⟩
noncomputable def L9 (c : Cf) (x : Im) (to : ByteArray) (w : Int) : Ml := ⟨x.frm, BC c to w x.to, x.body⟩
theorem RP {xs : List Ad} {a : Ad} : (xs ++ [a]).map At = xs.map At ++ [[.v (.string a.user), .v (.string a.domain)]] := by
 rw [List.map_append]; rfl
def VR : Ct := An (lc FH.ag (lc EL.ag (lc A6 (lc A0 (lc A6 l0))))) (fun p => 0 ≤ p.2.2.1 ∧ p.2.2.1 < p.2.1.to.length) (fun p => .t (.v (.bool (BU (I4 p.1.conf p.2.2.2.1 p.2.2.2.2.1 (p.2.1.to.getD p.2.2.1.toNat default))))))
section
attribute [local go_sem] ay QH Aa AZ lm
set_option maxHeartbeats 800000 in
theorem cT {G : Gt} (hG : Aj G) (hh : G.e 87 = AA 0 ay ∧ G.e 171 = AA 0 QH) : Gd G 133 (AA 0 VR) := by
 refine gr (fn := Tryz.f133) (n := 5) rfl hG ?_
 rintro ⟨h, x, k, to, w, ⟨⟩⟩ hpre
 simp -implicitDefEqProofs only [Tryz.f133, go_sem, hh, seval] at hpre ⊢
 obtain ⟨hk0, hk1⟩ := hpre
 with_reducible repeat' (first | apply ai | intro _ | ((first | apply s1 | apply s3 | apply s4) <;> intro hb <;> simp -implicitDefEqProofs only [hb, go_sem, hh, seval] <;> try simp only [qz] at hb))
 all_goals (try simp only [maxLen] at *)
 all_goals first
  | rfl
  | omega
  | exact uF (fun q => by have := q.1; omega)
  | exact uD ⟨fun q => ⟨by omega, .inl ⟨by assumption, q⟩⟩, fun q => q.2.elim (fun z => z.2) fun z => absurd (by assumption) z.1⟩
  | exact uD ⟨fun q => ⟨by omega, .inr ⟨by assumption, by simpa using hb, q⟩⟩, fun q => q.2.elim (fun z => absurd z.1 (by assumption)) fun z => z.2.2⟩
  | exact uF (fun q => q.2.elim (fun z => absurd z.1 (by assumption)) fun z => z.2.1 (by simpa using hb))
  | skip
end
def mA : Ct := An (lc FH.ag (lc A6 (lc A0 (lc A6 l0)))) (fun p => ET p.1 ∧ 0 ≤ p.2.1 ∧ p.2.1 < p.1.spool.items.length) (fun p => Q7 (L9 p.1.conf (p.1.spool.items.getD p.2.1.toNat default) p.2.2.1 p.2.2.2.1))
section
attribute [local go_sem] VR Aa AZ lm List.length_append List.length_cons List.length_nil List.map_nil Nat.zero_add List.nil_append AS.opn AS.cls AS.nilb AS.renb AS.up Bool.not_false Bool.not_true List.set_set List.set_cons_zero List.set_cons_succ List.set_nil List.mem_singleton forall_eq
set_option maxHeartbeats 1600000 in
theorem dq {G : Gt} (hG : Aj G) (hh : G.e 133 = AA 0 VR) : Gd G 226 (AA 0 mA) := by
 refine LQ (dp := fun n => !(Nat.beq n 100003 || Nat.beq n 100005)) (fn := Tryz.f226) (n := 4) rfl hG ?_ (hs := fun _ p => Gz _)
 rintro ⟨h, n, to, w, ⟨⟩⟩ hpre
 simp -implicitDefEqProofs only [Tryz.f226, go_sem, hh, seval] at hpre ⊢
 obtain ⟨⟨_, ⟨_, hsz⟩, _⟩, hn0, hn1⟩ := hpre
 try dsimp only at hn0 hn1
 obtain ⟨ni, rfl⟩ := Int.eq_ofNat_of_zero_le hn0
 have hx := hsz _ (AE (xs := h.spool.items) (j := ni) (by omega))
 obtain ⟨_, ⟨hl1, _⟩, ⟨hl2, _⟩⟩ := hx
 simp only [tn] at *
 with_reducible repeat' (first | apply ai | intro _ | ((first | apply s1 | apply s3 | apply s4) <;> intro hb <;> simp -implicitDefEqProofs only [hb, go_sem, hh, seval] <;> try simp only [qz] at hb))
 all_goals (try simp only [maxLen] at *)
 all_goals first | rfl | omega | assumption | decide | skip
 all_goals
  refine Ak (Le.nilb 1010 2 1901 true 2 rfl rfl rfl) (AW ?_)
  simp -implicitDefEqProofs only [go_sem, hh, seval]
  refine AF [] (ι := {p : Nat × List Ad // p.1 ≤ (h.spool.items.getD ni default).to.length ∧ p.2.length ≤ p.1 ∧ BC h.conf to w (h.spool.items.getD ni default).to = p.2 ++ BC h.conf to w ((h.spool.items.getD ni default).to.drop p.1)}) (fun p => ⟨[(2, .t (.v (.string to))), (3, .t (.v (.int .i64 w))), (4, .pb 1004 0), (8, .pb 1008 0), (9, .pb 1009 0), (10, .pb 1010 0), (11, .t (.v (.int .i64 p.1.1)))], [(1008, some (.box [.t (.v (.string ⟨#[]⟩)), .t (.v (.string ⟨#[]⟩)), .nil, .nil])), (1004, some (.box ((Ao h).map .t))), (1009, some (.box ((Ah (h.spool.items.getD ni default)).map .t))), (1010, some (.box [.t (.v (.string (h.spool.items.getD ni default).frm.user)), .t (.v (.string (h.spool.items.getD ni default).frm.domain)), .h 1901, .h 1023])), (1023, some (.arr true 1 ((h.spool.items.getD ni default).body.map AH))), (1901, some (.arr true 2 (p.1.2.map At)))]⟩) (fun p => (h.spool.items.getD ni default).to.length - p.1.1) ⟨(0, []), by simp, by simp, rfl⟩ rfl ?_ ?_
  ·simp -implicitDefEqProofs only [go_sem, hh, seval]
   try simp
  ·rintro ⟨⟨i, L⟩, hi, hL, hq⟩
   dsimp only at hi hL hq ⊢
   by_cases hlt : (i : Int) < (h.spool.items.getD ni default).to.length
   ·simp -implicitDefEqProofs only [hlt, decide_true, tn, go_sem, hh, seval]
    with_reducible repeat' (first | apply ai | intro _ | ((first | apply s1 | apply s3 | apply s4) <;> intro hb <;> simp -implicitDefEqProofs only [hb, go_sem, hh, seval] <;> try simp only [qz] at hb))
    all_goals (try simp only [maxLen, tn] at *)
    all_goals first | rfl | omega | assumption | decide | skip
    ·refine Ak (Le.renb 1010 2 1047 1901 rfl rfl rfl rfl) (AW ?_)
     simp -implicitDefEqProofs only [go_sem, hh, seval]
     with_reducible repeat' (first | apply ai | intro _ | ((first | apply s1 | apply s3 | apply s4) <;> intro hb <;> simp -implicitDefEqProofs only [hb, go_sem, hh, seval] <;> try simp only [qz] at hb))
     all_goals first | rfl | omega | decide | skip
     refine ⟨⟨(i + 1, L ++ [((h.spool.items.getD ni default).to.getD i default).addr]), by dsimp only; omega, by simp; omega, by dsimp only; rw [hq, RB (by omega) (by assumption)]; simp⟩, by dsimp only; omega, ?_⟩
     simp -implicitDefEqProofs only [go_sem, hh, seval]
     simp only [RP]
     with_reducible repeat' (first | apply ai | intro _ | ((first | apply s1 | apply s3 | apply s4) <;> intro hb <;> simp -implicitDefEqProofs only [hb, go_sem, hh, seval] <;> try simp only [qz] at hb))
     all_goals first | rfl | (simp; done) | skip
    ·refine AW ?_
     simp -implicitDefEqProofs only [go_sem, hh, seval]
     with_reducible repeat' (first | apply ai | intro _ | ((first | apply s1 | apply s3 | apply s4) <;> intro hb <;> simp -implicitDefEqProofs only [hb, go_sem, hh, seval] <;> try simp only [qz] at hb))
     all_goals first | rfl | omega | decide | skip
     refine ⟨⟨(i + 1, L), by dsimp only; omega, by dsimp only; omega, by dsimp only; rw [hq, RA (by omega) (by assumption)]⟩, by dsimp only; omega, ?_⟩
     simp -implicitDefEqProofs only [go_sem, hh, seval]
     try simp
   ·have hend : BC h.conf to w (h.spool.items.getD ni default).to = L := by rw [hq, Kk (by omega), List.append_nil]
    simp -implicitDefEqProofs only [hlt, decide_false, L9, hend, go_sem, hh, seval]
    with_reducible repeat' (first | apply ai | intro _ | ((first | apply s1 | apply s3 | apply s4) <;> intro hb <;> simp -implicitDefEqProofs only [hb, go_sem, hh, seval] <;> try simp only [qz] at hb))
    all_goals first | rfl | omega | decide | skip
end
section
attribute [local go_sem] wF ku Vi Vh tE BO BN Bool.not_true Bool.not_false Bw DH MI MJ ML Aa AZ lm List.length_append List.length_cons List.length_nil List.map_nil Nat.zero_add List.nil_append L9 AS.opn AS.cls AS.nilb AS.renb AS.up List.set_set List.set_cons_zero List.set_cons_succ List.set_nil List.mem_singleton forall_eq
end
def Jm (c : Cf) (a : Ad) : Prop := a.domain ∈ c.own ∨ ¬ Pb c a.domain = ⟨#[]⟩
def me : Ct := An (lc IZ.ag (lc Ce.ag l0)) (fun p => True) (fun p => .t (.v (.bool (BU (Jm p.1 p.2.1)))))
section
attribute [local go_sem] ay QH Aa AZ
theorem eQ {G : Gt} (hG : Aj G) (hh : G.e 87 = AA 0 ay ∧ G.e 171 = AA 0 QH) : Gd G 259 (AA 0 me) := by
 refine gr (fn := Tryz.f259) (n := 2) rfl hG ?_
 rintro ⟨c, a, ⟨⟩⟩ hpre
 simp -implicitDefEqProofs only [Tryz.f259, go_sem, hh, seval] at hpre ⊢
 with_reducible repeat' (first | apply ai | intro _ | ((first | apply s1 | apply s3 | apply s4) <;> intro hb <;> simp -implicitDefEqProofs only [hb, go_sem, hh, seval] <;> try simp only [qz] at hb))
 all_goals first | rfl | omega | skip
 all_goals (try simp only [Aa, AZ] at *)
 all_goals first
  | exact uT (.inl (by assumption))
  | exact uB (by simp only [qc, qb]; exact ⟨fun z => .inr z, fun q => q.elim (fun z => absurd z (by assumption)) id⟩)
  | skip
end
def H2 (w : Int) (a : Ad) : Rc := ⟨a, 0, w⟩
def Md (s : Sp) (m : Ml) (w : Int) : Im := ⟨s.last + 1, m.frm, m.to.map (H2 w), m.body⟩
def GJ (s : Sp) (m : Ml) (w : Int) : Sp := ⟨s.last + 1, s.items ++ [Md s m w]⟩
def Bm (s : Sp) : Prop := (s.items.length : Int) < 10 ∧ s.last < 999
open Classical in
noncomputable def MW (s : Sp) (m : Ml) (w : Int) : Sp × Bool := if BI s then (if CM m ∧ (0 ≤ w ∧ w ≤ 9999) ∧ Bm s then (GJ s m w, true) else (s, false)) else (⟨0, []⟩, false)
theorem Zq {s : Sp} {m : Ml} {w : Int} (h : ¬ BI s) : MW s m w = (⟨0, []⟩, false) := by unfold MW; rw [if_neg h]
theorem Ut {s : Sp} {m : Ml} {w : Int} (h : BI s) (h2 : ¬ (CM m ∧ (0 ≤ w ∧ w ≤ 9999) ∧ Bm s)) : MW s m w = (s, false) := by unfold MW; rw [if_pos h, if_neg h2]
theorem Uu {s : Sp} {m : Ml} {w : Int} (h : BI s) (h2 : CM m ∧ (0 ≤ w ∧ w ≤ 9999) ∧ Bm s) : MW s m w = (GJ s m w, true) := by unfold MW; rw [if_pos h, if_pos h2]
theorem S2 {xs : List Ad} {w : Int} {i : Nat} (h : i < xs.length) : ((xs.map (H2 w)).take (i + 1)).map BD = ((xs.map (H2 w)).take i).map BD ++ [[.v (.string (xs.getD i default).user), .v (.string (xs.getD i default).domain), .v (.int .i64 0), .v (.int .i64 w)]] := by
 have e : (xs.map (H2 w)).getD i default = H2 w (xs.getD i default) := by
  simp only [List.getD_eq_getElem?_getD, List.getElem?_map, List.getElem?_eq_getElem h, Option.map_some, Option.getD_some]
 rw [BM BD (by rw [lm]; exact h), e]
 rfl
def J5 : Ct := An (lc LG.ag l0) (fun p => True) (fun p => .t (.v (.bool (BU (Bm p.1)))))
section
attribute [local go_sem] lm
theorem cj {G : Gt} (hG : Aj G) : Gd G 147 (AA 0 J5) := by
 refine gr (fn := Tryz.f147) (n := 1) rfl hG ?_
 rintro ⟨s, ⟨⟩⟩ hpre
 simp -implicitDefEqProofs only [Tryz.f147, go_sem, seval] at hpre ⊢
 with_reducible repeat' (first | apply ai | intro _ | ((first | apply s1 | apply s3 | apply s4) <;> intro hb <;> simp -implicitDefEqProofs only [hb, go_sem, seval] <;> try simp only [qz] at hb))
 all_goals first
  | rfl
  | omega
  | (rw [← A8, AY]; exact ⟨fun h => ⟨by assumption, h⟩, fun h => h.2⟩)
  | (rw [AO]; rintro ⟨h1, h2⟩; contradiction)
  | (rw [Ag]; exact ⟨by assumption, by assumption⟩)
  | skip
end
def lL : Ct := An (lc LG.ag l0) (fun p => True) (fun p => .t (.v (.bool (BU (Bm p.1)))))
section
attribute [local go_sem] lm
theorem cb {G : Gt} (hG : Aj G) : Gd G 141 (AA 0 lL) := by
 refine gr (fn := Tryz.f141) (n := 1) rfl hG ?_
 rintro ⟨s, ⟨⟩⟩ hpre
 simp -implicitDefEqProofs only [Tryz.f141, go_sem, seval] at hpre ⊢
 with_reducible repeat' (first | apply ai | intro _ | ((first | apply s1 | apply s3 | apply s4) <;> intro hb <;> simp -implicitDefEqProofs only [hb, go_sem, seval] <;> try simp only [qz] at hb))
 all_goals first
  | rfl
  | omega
  | (rw [← A8, AY]; exact ⟨fun h => ⟨by assumption, h⟩, fun h => h.2⟩)
  | (rw [AO]; rintro ⟨h1, h2⟩; contradiction)
  | (rw [Ag]; exact ⟨by assumption, by assumption⟩)
  | skip
end
def QG : Ct := An (lc LG.ag (lc Um.ag (lc A6 l0))) (fun p => EF p.1 ∧ Ji p.2.1 ∧ BI p.1) (fun p => .agg ((Dk (GJ p.1 p.2.1 p.2.2.1)).map .t))
section
attribute [local go_sem] IX IH List.take_length List.drop_zero List.length_take List.length_drop lm List.length_append List.length_cons List.length_nil List.map_append List.map_nil List.map_cons List.nil_append Nat.zero_add List.mem_singleton forall_eq Bool.not_true Bool.not_false AS.opn AS.cls AS.nilb AS.renb List.set_set List.set_cons_zero List.set_cons_succ List.set_nil
set_option maxHeartbeats 1600000 in
theorem ck {G : Gt} (hG : Aj G) : Gd G 148 (AA 1 QG) := by
 refine LQ (dp := fun n => Nat.ble 100000 n && !(Nat.beq n 100002 || Nat.beq n 100004 || Nat.beq n 100007)) (fn := Tryz.f148) (n := 3) rfl hG ?_
 rintro ⟨s, m, w, ⟨⟩⟩ hpre
 simp -implicitDefEqProofs only [Tryz.f148, go_sem, seval] at hpre ⊢
 obtain ⟨hok, hml, hsp⟩ := hpre
 have hok' : GH D0 s.items := hok
 obtain ⟨_, ⟨hl1, _⟩, ⟨hl2, _⟩⟩ := hml
 obtain ⟨_, _, ⟨hs0, hs1⟩, hs2⟩ := hsp
 with_reducible repeat' (first | apply ai | intro _ | ((first | apply s1 | apply s3 | apply s4) <;> intro hb <;> simp -implicitDefEqProofs only [hb, go_sem, seval] <;> try simp only [qz] at hb))
 all_goals (try simp only [maxLen] at *)
 all_goals first | rfl | omega | assumption | decide | skip
 all_goals
  refine Ak (Le.nilb 1007 3 1901 true 4 rfl rfl rfl) (AW ?_)
  simp -implicitDefEqProofs only [go_sem, seval]
  refine AF [] (ι := {i : Nat // i ≤ m.to.length}) (fun p => ⟨[(2, .t (.v (.int .i64 w))), (3, .pb 1003 0), (4, .pb 1004 0), (6, .pb 1006 0), (7, .pb 1007 0), (8, .t (.v (.int .i64 p.1)))], [(1003, some (.box [.t (.v (.int .i64 s.last)), .t (.sl 5 (s.items.map Ah))])), (1004, some (.box ((DE m).map .t))), (1006, some (.box [.t (.v (.int .i64 0)), .nil])), (1007, some (.box [.t (.v (.int .i64 (s.last + 1))), .t (.v (.string m.frm.user)), .t (.v (.string m.frm.domain)), .h 1901, .h 1017])), (1017, some (.arr true 1 (m.body.map AH))), (1901, some (.arr true 4 (((m.to.map (H2 w)).take p.1).map BD)))]⟩) (fun p => m.to.length - p.1) ⟨0, by simp⟩ rfl ?_ ?_
  ·simp -implicitDefEqProofs only [go_sem, seval]
   try simp
  ·rintro ⟨i, hi⟩
   have hlen : ((m.to.map (H2 w)).take i).length = i := by simp; omega
   by_cases hlt : (i : Int) < m.to.length
   ·simp -implicitDefEqProofs only [hlt, decide_true, tn, go_sem, seval]
    with_reducible repeat' (first | apply ai | intro _ | ((first | apply s1 | apply s3 | apply s4) <;> intro hb <;> simp -implicitDefEqProofs only [hb, go_sem, seval] <;> try simp only [qz] at hb))
    all_goals (try simp only [maxLen] at *)
    all_goals first | rfl | omega | assumption | decide | skip
    refine Ak (Le.renb 1007 3 1036 1901 rfl rfl rfl rfl) (AW ?_)
    simp -implicitDefEqProofs only [go_sem, seval]
    with_reducible repeat' (first | apply ai | intro _ | ((first | apply s1 | apply s3 | apply s4) <;> intro hb <;> simp -implicitDefEqProofs only [hb, go_sem, seval] <;> try simp only [qz] at hb))
    all_goals first | rfl | omega | decide | skip
    refine ⟨⟨i + 1, by omega⟩, by dsimp only; omega, ?_⟩
    simp -implicitDefEqProofs only [go_sem, seval]
    simp only [S2 (show i < m.to.length by omega)]
    with_reducible repeat' (first | apply ai | intro _ | ((first | apply s1 | apply s3 | apply s4) <;> intro hb <;> simp -implicitDefEqProofs only [hb, go_sem, seval] <;> try simp only [qz] at hb))
    all_goals first | rfl | (simp; done) | skip
   ·simp -implicitDefEqProofs only [hlt, decide_false, go_sem, seval]
    with_reducible repeat' (first | apply ai | intro _ | ((first | apply s1 | apply s3 | apply s4) <;> intro hb <;> simp -implicitDefEqProofs only [hb, go_sem, seval] <;> try simp only [qz] at hb))
    all_goals first | rfl | omega | skip
    rw [List.take_of_length_le (by rw [lm]; omega)]
    refine Ak (Le.frzL [1901, 1017]) (AW ?_)
    simp -implicitDefEqProofs only [go_sem, seval]
    with_reducible repeat' (first | apply ai | intro _ | ((first | apply s1 | apply s3 | apply s4) <;> intro hb <;> simp -implicitDefEqProofs only [hb, go_sem, seval] <;> try simp only [qz] at hb))
    all_goals (try simp only [maxLen, List.take_length, List.drop_zero] at *)
    all_goals first | rfl | omega | assumption | decide | skip
    all_goals
     refine congrArg (T.sl 5) ?_
     simp only [GJ, Md, List.map_append, List.map_cons, List.map_nil]
     rfl
end
def xG : Ct := An (lc LG.ag (lc Um.ag (lc A6 l0))) (fun p => EF p.1 ∧ Ji p.2.1) (fun p => LX (MW p.1 p.2.1 p.2.2.1))
section
attribute [local go_sem] Vf ax lK ao lL Vh lm List.length_append List.length_cons List.length_nil List.map_append List.map_cons List.map_nil LX AS.opn AS.cls AS.nilb AS.renb Bool.not_false Bool.not_true List.set_set List.set_cons_zero List.set_cons_succ List.set_nil List.mem_singleton forall_eq
set_option maxHeartbeats 3200000 in
theorem pj {G : Gt} (hG : Aj G) (hh : G.e 43 = AA 0 Vf ∧ G.e 74 = AA 0 ax ∧ G.e 140 = AA 0 lK ∧ G.e 28 = AA 0 ao ∧ G.e 141 = AA 0 lL ∧ G.e 68 = AA 0 Vh) : Gd G 84 (AA 0 xG) := by
 refine LQ (dp := fun n => !(Nat.beq n 100008 || Nat.beq n 100012)) (fn := Tryz.f84) (n := 3) rfl hG ?_ (hs := fun _ p => G0 _)
 rintro ⟨s, m, w, ⟨⟩⟩ hpre
 obtain ⟨hok, hml⟩ := hpre
 dsimp only at hok hml ⊢
 have hok' : GH D0 s.items := hok
 have hmx := hok'.1
 obtain ⟨⟨_, hfd⟩, ⟨hl1, hto⟩, ⟨hl2, hbd⟩⟩ := hml
 have z1 : m.frm.domain.size ≤ 2000000 := by have : m.frm.domain.size ≤ 1048576 := hfd; omega
 have z2 : ∀ s ∈ m.body, s.size ≤ 2000000 := fun s hs => by have : s.size ≤ 1048576 := hbd s hs; omega
 have z3 : ∀ a ∈ m.to, a.domain.size ≤ 2000000 := fun a ha => by have : a.domain.size ≤ 1048576 := (hto a ha).2; omega
 by_cases h : BI s
 ·have b1 := Ag h
  by_cases h2 : CM m ∧ (0 ≤ w ∧ w ≤ 9999) ∧ Bm s
  ·rw [Uu h h2]
   obtain ⟨_, _, ⟨hs0, hs1⟩, hs2⟩ := h
   have b2 := Ag h2.1
   have b3 := Ag h2.2.1
   have b4 := Ag h2.2.2
   simp -implicitDefEqProofs only [Tryz.f84, b1, b2, b3, b4, go_sem, hh, seval]
   with_reducible repeat' (first | apply ai | intro _ | ((first | apply s1 | apply s3 | apply s4) <;> intro hb <;> simp -implicitDefEqProofs only [hb, go_sem, hh, seval] <;> try simp only [qz] at hb))
   all_goals first | rfl | omega | assumption | decide | exact z2 _ (by assumption) | exact z3 _ (by assumption) | skip
   all_goals
    refine Ak (Le.nilb 1009 3 1901 true 4 rfl rfl rfl) (AW ?_)
    simp -implicitDefEqProofs only [go_sem, hh, seval]
    with_reducible repeat' (first | apply ai | intro _ | ((first | apply s1 | apply s3 | apply s4) <;> intro hb <;> simp -implicitDefEqProofs only [hb, go_sem, hh, seval] <;> try simp only [qz] at hb))
    all_goals first | rfl | omega | skip
    refine AF [] (ι := {i : Nat // i ≤ m.to.length}) (fun p => ⟨[(2, .t (.v (.int .i64 w))), (6, .pb 1006 0), (7, .t (.v (.bool false))), (8, .pb 1008 0), (9, .pb 1009 0), (45, .t (.sl 2 (m.to.map At))), (46, .t (.v (.int .i64 m.to.length))), (47, .t (.v (.int .i64 p.1)))], [(1006, some (.box [.t (.v (.int .i64 0)), .nil])), (1008, some (.box [.t (.v (.int .i64 (s.last + 1))), .h 1017])), (1017, some (.arr true 5 (s.items.map Ah))), (1009, some (.box [.t (.v (.int .i64 (s.last + 1))), .t (.v (.string m.frm.user)), .t (.v (.string m.frm.domain)), .h 1901, .h 1042])), (1042, some (.arr true 1 (m.body.map AH))), (1901, some (.arr true 4 (((m.to.map (H2 w)).take p.1).map BD)))]⟩) (fun p => m.to.length - p.1) ⟨0, by simp⟩ rfl ?_ ?_
    ·simp -implicitDefEqProofs only [go_sem, hh, seval]
     try simp
    ·rintro ⟨i, hi⟩
     have hlen : ((m.to.map (H2 w)).take i).length = i := by simp; omega
     by_cases hlt : (i : Int) < m.to.length
     ·simp -implicitDefEqProofs only [hlt, decide_true, tn, go_sem, hh, seval]
      with_reducible repeat' (first | apply ai | intro _ | ((first | apply s1 | apply s3 | apply s4) <;> intro hb <;> simp -implicitDefEqProofs only [hb, go_sem, hh, seval] <;> try simp only [qz] at hb))
      all_goals (try simp only [maxLen] at *)
      all_goals first | rfl | omega | assumption | decide | skip
      refine Ak (Le.renb 1009 3 1057 1901 rfl rfl rfl rfl) (AW ?_)
      simp -implicitDefEqProofs only [go_sem, hh, seval]
      with_reducible repeat' (first | apply ai | intro _ | ((first | apply s1 | apply s3 | apply s4) <;> intro hb <;> simp -implicitDefEqProofs only [hb, go_sem, hh, seval] <;> try simp only [qz] at hb))
      all_goals first | rfl | omega | decide | skip
      refine ⟨⟨i + 1, by omega⟩, by dsimp only; omega, ?_⟩
      simp -implicitDefEqProofs only [go_sem, hh, seval]
      simp only [S2 (show i < m.to.length by omega)]
      with_reducible repeat' (first | apply ai | intro _ | ((first | apply s1 | apply s3 | apply s4) <;> intro hb <;> simp -implicitDefEqProofs only [hb, go_sem, hh, seval] <;> try simp only [qz] at hb))
      all_goals first | rfl | (simp; done) | skip
     ·simp -implicitDefEqProofs only [hlt, decide_false, go_sem, hh, seval]
      with_reducible repeat' (first | apply ai | intro _ | ((first | apply s1 | apply s3 | apply s4) <;> intro hb <;> simp -implicitDefEqProofs only [hb, go_sem, hh, seval] <;> try simp only [qz] at hb))
      all_goals (try simp only [maxLen] at *)
      all_goals first | rfl | omega | assumption | decide | skip
      rw [List.take_of_length_le (by rw [lm]; omega)]
      simp only [GJ, Md, List.map_append, List.map_cons, List.map_nil]
      rfl
  ·rw [Ut h h2]
   by_cases hm : CM m
   ·have b2 := Ag hm
    by_cases hw : 0 ≤ w ∧ w ≤ 9999
    ·have b3 := Ag hw
     have b4 := AO (fun q => h2 ⟨hm, hw, q⟩)
     simp -implicitDefEqProofs only [Tryz.f84, b1, b2, b3, b4, go_sem, hh, seval]
     with_reducible repeat' (first | apply ai | intro _ | ((first | apply s1 | apply s3 | apply s4) <;> intro hb <;> simp -implicitDefEqProofs only [hb, go_sem, hh, seval] <;> try simp only [qz] at hb))
     all_goals first | rfl | omega | assumption | decide | exact z2 _ (by assumption) | exact z3 _ (by assumption) | skip
    ·have b3 := AO hw
     simp -implicitDefEqProofs only [Tryz.f84, b1, b2, b3, go_sem, hh, seval]
     with_reducible repeat' (first | apply ai | intro _ | ((first | apply s1 | apply s3 | apply s4) <;> intro hb <;> simp -implicitDefEqProofs only [hb, go_sem, hh, seval] <;> try simp only [qz] at hb))
     all_goals first | rfl | omega | assumption | decide | exact z2 _ (by assumption) | exact z3 _ (by assumption) | skip
   ·have b2 := AO hm
    simp -implicitDefEqProofs only [Tryz.f84, b1, b2, go_sem, hh, seval]
    with_reducible repeat' (first | apply ai | intro _ | ((first | apply s1 | apply s3 | apply s4) <;> intro hb <;> simp -implicitDefEqProofs only [hb, go_sem, hh, seval] <;> try simp only [qz] at hb))
    all_goals first | rfl | omega | assumption | decide | exact z2 _ (by assumption) | exact z3 _ (by assumption) | skip
 ·have b1 := AO h
  rw [Zq h]
  simp -implicitDefEqProofs only [Tryz.f84, b1, go_sem, hh, seval]
  with_reducible repeat' (first | apply ai | intro _ | ((first | apply s1 | apply s3 | apply s4) <;> intro hb <;> simp -implicitDefEqProofs only [hb, go_sem, hh, seval] <;> try simp only [qz] at hb))
  all_goals first | rfl | omega | assumption | decide | skip
end
theorem Hl {c x : UInt8} : ∀ {l : List UInt8}, x ∈ l → x = c ∨ ∃ w ∈ Fg c l, x ∈ w
 | y :: r, h => by
   rw [Fg]
   by_cases e : y = c
   ·rw [if_pos e]
    rcases List.mem_cons.1 h with h | h
    ·exact .inl (h.trans e)
    ·rcases Hl h with q | ⟨w, hw, q⟩
     ·exact .inl q
     ·exact .inr ⟨w, by simp [hw], q⟩
   ·rw [if_neg e]
    cases hs : Fg c r with
    | nil => have := GC c r; rw [hs] at this; simp at this
    | cons a t =>
      rcases List.mem_cons.1 h with h | h
      ·exact .inr ⟨y :: a, by simp, by simp [h]⟩
      ·rcases Hl h with q | ⟨w, hw, q⟩
       ·exact .inl q
       ·rw [hs] at hw
        rcases List.mem_cons.1 hw with e2 | hw
        ·exact .inr ⟨y :: a, by simp, by rw [e2] at q; simp [q]⟩
        ·exact .inr ⟨w, by simp [hw], q⟩
theorem PU {c : UInt8} {B : Nat} : ∀ {l : List UInt8}, (∀ w ∈ Fg c l, w.length ≤ B) → l.length + 1 ≤ (B + 1) * (Fg c l).length
 | [], _ => by simp [Fg]
 | y :: r, h => by
   rw [Fg] at h ⊢
   by_cases e : y = c
   ·rw [if_pos e] at h ⊢
    have := PU (c := c) (l := r) fun w hw => h w (by simp [hw])
    rw [List.length_cons, List.length_cons, Nat.mul_succ]
    omega
   ·rw [if_neg e] at h ⊢
    cases hs : Fg c r with
    | nil => have := GC c r; rw [hs] at this; simp at this
    | cons a t =>
      rw [hs] at h
      have h1 := h (y :: a) (by simp)
      have h3 : (∀ w ∈ Fg c r, w.length ≤ B) ∨ True := .inr trivial
      have key : ∀ (l : List UInt8), l.length + 1 = ((Fg c l).map fun w => w.length + 1).sum := fun l => by
       induction l with
       | nil => rfl
       | cons z q ih =>
         rw [Fg]
         by_cases ez : z = c
         ·rw [if_pos ez, List.map_cons, List.sum_cons, ← ih, List.length_cons, List.length_nil]; omega
         ·rw [if_neg ez]
          cases hq : Fg c q with
          | nil => have := GC c q; rw [hq] at this; simp at this
          | cons a' t' => rw [hq] at ih; simp only [List.map_cons, List.sum_cons, List.length_cons] at ih ⊢; omega
      have h2 := key r
      rw [hs] at h2
      have h4 : ∀ t : List (List UInt8), (∀ w ∈ t, w.length ≤ B) → (t.map fun w => w.length + 1).sum ≤ (B + 1) * t.length := fun t => by
       induction t with
       | nil => intro _; simp
       | cons w t ih =>
         intro hw
         have q1 := ih fun x hx => hw x (by simp [hx])
         have q2 := hw w (by simp)
         rw [List.map_cons, List.sum_cons, List.length_cons, Nat.mul_succ]; omega
      have h5 := h4 t fun w hw => h w (by simp [hw])
      simp only [List.map_cons, List.sum_cons, List.length_cons] at h1 h2 ⊢
      rw [Nat.mul_succ]
      omega
def Nz (l : List UInt8) : Prop := ∀ b ∈ l, 32 ≤ (b.toNat : Int) ∧ (b.toNat : Int) ≤ 126
instance (l : List UInt8) : Decidable (Nz l) := by unfold Nz; infer_instance
theorem HO {s : ByteArray} {b : UInt8} (h : b ∈ bl s) : ∃ j, j < s.size ∧ AC s j = b.toNat := by
 obtain ⟨j, hj, e⟩ := List.getElem_of_mem h
 exact ⟨j, hj, by rw [CE]; simp [hj, e]⟩
theorem Ov {s : ByteArray} {j : Nat} (h : j < s.size) : ∃ b ∈ bl s, AC s j = b.toNat := by
 have h' : j < (bl s).length := h
 exact ⟨(bl s)[j], List.getElem_mem h', by rw [CE]; simp [h']⟩
theorem HD (s : ByteArray) : Ia s ↔ Nz (bl s) ∧ s.size ≤ 40 :=
 ⟨fun h => ⟨fun b hb => by
   obtain ⟨j, hj, e⟩ := HO hb
   rw [← e]; exact h.1 j hj, h.2⟩, fun h => ⟨fun j hj => by
   obtain ⟨b, hb, e⟩ := Ov hj
   rw [e]; exact h.1 b hb, h.2⟩⟩
theorem N0 {a b : List UInt8} : Nz (a ++ b) ↔ Nz a ∧ Nz b :=
 ⟨fun h => ⟨fun x hx => h x (by simp [hx]), fun x hx => h x (by simp [hx])⟩, fun h x hx => (List.mem_append.1 hx).elim (h.1 x) (h.2 x)⟩
theorem JL {s : ByteArray} (h : Rb s) : Nz (bl s) ∧ s.size ≤ 8 := ⟨fun b hb => by
 obtain ⟨j, hj, e⟩ := HO hb
 have := h.1 j hj
 rw [← e]; unfold KP at this; omega, h.2.2⟩
theorem C2 {s : ByteArray} (h : D4 s) : Nz (bl s) ∧ s.size ≤ 26 := by
 obtain ⟨h1, h2⟩ := (JJ s).1 h
 have h3 : ∀ w ∈ Fg 46 (bl s), Rb (mB w) := fun w hw => h1 _ (List.mem_map_of_mem hw)
 refine ⟨fun b hb => ?_, ?_⟩
 ·rcases Hl (c := 46) hb with e | ⟨w, hw, q⟩
  ·rw [e]; decide
  ·exact (JL (h3 w hw)).1 b q
 ·have h4 := PU (c := 46) (B := 8) (l := bl s) fun w hw => (h3 w hw).2.2
  have h5 : (Fg 46 (bl s)).length ≤ 3 := by
   have : (IU s 46).length = (Fg 46 (bl s)).length := lm ..
   omega
  have h6 : (bl s).length = s.size := rfl
  have h7 : 9 * (Fg 46 (bl s)).length ≤ 9 * 3 := Nat.mul_le_mul_left 9 h5
  omega
def xW : ByteArray := ⟨#[72, 111, 112, 58, 32]⟩
def Cm (n : ByteArray) : ByteArray := xW ++ n
theorem eV {n : ByteArray} (h : D4 n) : Ia (Cm n) := by
 obtain ⟨h1, h2⟩ := C2 h
 rw [HD]
 have e : bl (Cm n) = [72, 111, 112, 58, 32] ++ bl n := P8 _ _
 refine ⟨?_, ?_⟩
 ·rw [e, N0]
  exact ⟨by decide, h1⟩
 ·have : (Cm n).size = 5 + n.size := by rw [← CJ, e, List.length_append, CJ]; rfl
  omega
noncomputable def Cd (a : Ad) : ByteArray := bif BU (AU a) then ⟨#[60, 62]⟩ else ⟨#[60]⟩ ++ a.user ++ ⟨#[64]⟩ ++ a.domain ++ ⟨#[62]⟩
theorem G5 {a : Ad} (h : AU a) : Cd a = ⟨#[60, 62]⟩ := by unfold Cd; rw [Ag h]; rfl
theorem NV {a : Ad} (h : ¬ AU a) : Cd a = ⟨#[60]⟩ ++ a.user ++ ⟨#[64]⟩ ++ a.domain ++ ⟨#[62]⟩ := by unfold Cd; rw [AO h]; rfl
theorem NU {a : Ad} (h : ¬ AU a) : bl (Cd a) = [60] ++ bl a.user ++ [64] ++ bl a.domain ++ [62] := by
 rw [NV h]
 simp only [P8]
 rfl
theorem ZA {a : Ad} (h : BL a) : ¬ AU a := fun q => by
 have := h.1.2.1
 rw [q.1] at this
 exact absurd this (by decide)
theorem PN {a : Ad} (h : BL a ∨ AU a) : Ia (Cd a) := by
 by_cases hn : AU a
 ·rw [G5 hn, HD]
  exact ⟨by decide, by decide⟩
 ·have ha := h.resolve_right hn
  obtain ⟨u1, u2⟩ := JL ha.1
  obtain ⟨d1, d2⟩ := C2 ha.2
  rw [HD, NU hn]
  refine ⟨by simp only [N0]; exact ⟨⟨⟨⟨by decide, u1⟩, by decide⟩, d1⟩, by decide⟩, ?_⟩
  have : (Cd a).size = 3 + a.user.size + a.domain.size := by
   rw [← CJ, NU hn]
   simp only [List.length_append, List.length_cons, List.length_nil, CJ]; omega
  omega
def iz (n : ByteArray) (m : Ml) : Ml := ⟨m.frm, m.to, Cm n :: m.body⟩
def Pa (h : Hs) (m : Ml) (w : Int) : Hs := ⟨h.conf, GJ h.spool (iz h.conf.name m) w, h.boxes, h.lost⟩
def Qu : Hs := ⟨⟨⟨#[]⟩, [], []⟩, ⟨0, []⟩, [], []⟩
section
variable {h : Hs} {m : Ml} {w : Int}
theorem qA (q : D4 h.conf.name) (hm : CM m) (hl : m.body.length < 12) : CM (iz h.conf.name m) :=
 ⟨hm.1, hm.2.1, hm.2.2.1, hm.2.2.2.1, ⟨fun s hs => (List.mem_cons.1 hs).elim (fun e => by rw [e]; exact eV q) (hm.2.2.2.2.1 s), by show (Cm h.conf.name :: m.body).length ≤ 12; simp; omega⟩⟩
end
def RI (p : Hs × Bool) : AV := .tup [.agg ((Ao p.1).map .t), .t (.v (.bool p.2))]
def fY (p : Hs × Bool) : AV := .tup [NQ p.1, .t (.v (.bool p.2))]
theorem Q5 (p : Hs × Bool) : BT (fY p) := .tup _ fun c hc => by
 simp only [List.mem_cons, List.not_mem_nil, or_false] at hc
 rcases hc with rfl | rfl
 ·exact Gy _
 ·exact .v _
theorem M6 {α : Type} [Inhabited α] {p : α → Prop} : ∀ (xs : List α) (k : Nat), 0 ≤ A4 p k xs → p (xs.getD ((A4 p k xs).toNat - k) default)
 | [], k, h => absurd h (by rw [A4]; omega)
 | x :: t, k, h => by
   rw [A4] at h ⊢
   by_cases hx : p x
   ·rw [Ag hx, cond_true, tn, Nat.sub_self]
    exact hx
   ·rw [AO hx, cond_false] at h ⊢
    have h1 := M6 t (k + 1) h
    have h2 : (A4 p (k + 1) t).toNat - k = ((A4 p (k + 1) t).toNat - (k + 1)) + 1 := by
     rcases F8 p t (k + 1) with q | q <;> omega
    rw [h2]
    exact h1
section
variable {h : Hs} {m : Ml} {w : Int}
end
theorem Ch {xs : List Im} : wN xs ↔ (xs.map Im.id).Pairwise (· < ·) := by
 rw [List.pairwise_iff_getElem]
 constructor
 ·intro h i j hi hj hij
  rw [lm] at hi hj
  simp only [List.getElem_map]
  induction j with
  | zero => omega
  | succ j ih =>
    have h1 := h (j + 1) (by omega) hj
    simp only [Nat.add_sub_cancel, List.getD_eq_getElem?_getD, List.getElem?_eq_getElem hj, List.getElem?_eq_getElem (show j < xs.length by omega), Option.getD_some] at h1
    by_cases e : i = j
    ·subst e; exact h1
    ·have := ih (by omega) (by omega)
     omega
 ·intro h j h0 hj
  have := h (j - 1) j (by rw [lm]; omega) (by rw [lm]; exact hj) (by omega)
  simp only [List.getElem_map] at this
  simp only [List.getD_eq_getElem?_getD, List.getElem?_eq_getElem hj, List.getElem?_eq_getElem (show j - 1 < xs.length by omega), Option.getD_some]
  exact this
theorem R9 {α : Type} (xs : List α) (i : Nat) : List.Sublist (xs.take i ++ xs.drop (i + 1)) xs := by
 have h : List.Sublist (xs.take i ++ xs.drop (i + 1)) (xs.take i ++ xs.drop i) := List.Sublist.append (List.Sublist.refl _) (by
  rw [← List.drop_drop]; exact List.drop_sublist 1 _)
 rwa [List.take_append_drop] at h
theorem QL {α : Type} [Inhabited α] {xs : List α} {i : Nat} (h : i < xs.length) : xs = xs.take i ++ xs.getD i default :: xs.drop (i + 1) := by
 rw [← Ac h, List.take_append_drop]
theorem be {x : Im} {k : Nat} (h : Co x) (hk : k < x.to.length) (h2 : ¬ (GM x k).to = []) : Co (GM x k) := by
 have hs := R9 x.to k
 refine ⟨fun r hr => h.1 r (hs.subset hr), (hs.map Rc.addr).nodup h.2.1, h.2.2.1, h.2.2.2.1, ⟨?_, Nat.le_trans hs.length_le h.2.2.2.2.1.2⟩, h.2.2.2.2.2⟩
 exact Nat.pos_of_ne_zero fun e => h2 (List.eq_nil_of_length_eq_zero e)
theorem De {s : Sp} {i k : Nat} (h : BI s) (hi : i < s.items.length) (hk : k < (s.items.getD i default).to.length) : BI (B7 s i k) := by
 have hx := h.1 _ (AE hi)
 have hs := R9 s.items i
 have ha := Ch.1 h.2.1
 have hq := QL hi
 show (∀ x ∈ Nn s.items i k, Co x ∧ x.id ≤ s.last) ∧ wN (Nn s.items i k) ∧ (0 ≤ s.last ∧ s.last ≤ 999) ∧ (Nn s.items i k).length ≤ 10
 unfold Nn
 split
 ·exact ⟨fun x hx => h.1 x (hs.subset hx), Ch.2 (ha.sublist (hs.map Im.id)), h.2.2.1, Nat.le_trans hs.length_le h.2.2.2⟩
 ·rename_i hne
  refine ⟨fun x hm => ?_, Ch.2 ?_, h.2.2.1, ?_⟩
  ·rcases List.mem_append.1 hm with hm | hm
   ·exact h.1 x (List.mem_of_mem_take hm)
   ·rcases List.mem_cons.1 hm with e | hm
    ·rw [e]; exact ⟨be hx.1 hk hne, hx.2⟩
    ·exact h.1 x (List.mem_of_mem_drop hm)
  ·have e : (s.items.take i ++ GM (s.items.getD i default) k :: s.items.drop (i + 1)).map Im.id = s.items.map Im.id := by
     conv => rhs; rw [hq]
     simp only [List.map_append, List.map_cons]
     rfl
   rw [e]; exact ha
  ·have e : (s.items.take i ++ GM (s.items.getD i default) k :: s.items.drop (i + 1)).length = s.items.length := by
     conv => rhs; rw [hq]
     simp only [List.length_append, List.length_cons]
   rw [e]; exact h.2.2.2
theorem uC (l : List Rc) (k : Nat) (h : k < l.length) : l.getD k default = l[k] := by simp [h]
theorem L4 {s : Sp} {i k : Nat} {w : Int} (h : BI s) (hi : i < s.items.length) (hk : k < (s.items.getD i default).to.length) (hn : ¬ LT ((s.items.getD i default).to.getD k default) w) (hw : 0 ≤ w) : BI (KZ s i k w) := by
 have hx := h.1 _ (AE hi)
 have hr := hx.1.1 _ (AE hk)
 have hn1 : ((s.items.getD i default).to.getD k default).tries + 1 < 4 := by unfold LT at hn; omega
 have hn2 : w + PK (((s.items.getD i default).to.getD k default).tries + 1) ≤ 9999 := by unfold LT at hn; omega
 have hp := (NS (t := ((s.items.getD i default).to.getD k default).tries + 1) (m := 3) (by omega)).1
 have hrc : N4 (T7 ((s.items.getD i default).to.getD k default) w) := ⟨hr.1, ⟨by have := hr.2.1.1; show 0 ≤ _ + 1; omega, by show _ + 1 ≤ 3; omega⟩, ⟨by show 0 ≤ w + _; omega, hn2⟩⟩
 have hadr : ((s.items.getD i default).to.set k (T7 ((s.items.getD i default).to.getD k default) w)).map Rc.addr = (s.items.getD i default).to.map Rc.addr := by
  rw [List.map_set]
  have : (T7 ((s.items.getD i default).to.getD k default) w).addr = ((s.items.getD i default).to.map Rc.addr)[k]'(by rw [lm]; exact hk) := by
   rw [List.getElem_map]
   show ((s.items.getD i default).to.getD k default).addr = _
   rw [uC _ _ hk]
  rw [this, List.set_getElem_self]
 have hx2 : Co (LS (s.items.getD i default) k w) := by
  refine ⟨fun r hm => ?_, ?_, hx.1.2.2.1, hx.1.2.2.2.1, ?_, hx.1.2.2.2.2.2⟩
  ·rcases List.mem_or_eq_of_mem_set hm with hm | rfl
   ·exact hx.1.1 r hm
   ·exact hrc
  ·show (((s.items.getD i default).to.set k _).map Rc.addr).Nodup
   rw [hadr]; exact hx.1.2.1
  ·show 1 ≤ ((s.items.getD i default).to.set k _).length ∧ ((s.items.getD i default).to.set k _).length ≤ 4
   rw [List.length_set]; exact hx.1.2.2.2.2.1
 refine ⟨fun x hm => ?_, Ch.2 ?_, h.2.2.1, by show (s.items.set i _).length ≤ 10; rw [List.length_set]; exact h.2.2.2⟩
 ·rcases List.mem_or_eq_of_mem_set hm with hm | rfl
  ·exact h.1 x hm
  ·exact ⟨hx2, hx.2⟩
 ·have e : (s.items.set i (LS (s.items.getD i default) k w)).map Im.id = s.items.map Im.id := by
    rw [List.map_set]
    have : (LS (s.items.getD i default) k w).id = (s.items.map Im.id)[i]'(by rw [lm]; exact hi) := by
     simp [LS, hi]
    rw [this, List.set_getElem_self]
  show ((s.items.set i _).map Im.id).Pairwise (· < ·)
  rw [e]; exact Ch.1 h.2.1
theorem H3 {s : Sp} {m : Ml} {w : Int} (h : BI s) (hm : CM m) (hw : 0 ≤ w ∧ w ≤ 9999) (hr : Bm s) : BI (GJ s m w) := by
 have hx : Co (Md s m w) := by
  refine ⟨fun r hr => ?_, ?_, ?_, hm.2.2.1, ?_, hm.2.2.2.2⟩
  ·obtain ⟨a, ha, rfl⟩ := List.mem_map.1 hr
   exact ⟨hm.1 a ha, by show 0 ≤ (0 : Int) ∧ (0 : Int) ≤ 3; decide, hw⟩
  ·show ((m.to.map (H2 w)).map Rc.addr).Nodup
   have e : (m.to.map (H2 w)).map Rc.addr = m.to := by
    rw [List.map_map]; exact List.map_id'' (fun _ => rfl) _
   rw [e]; exact hm.2.1
  ·have := h.2.2.1.1
   show 0 < s.last + 1; omega
  ·show 1 ≤ (m.to.map (H2 w)).length ∧ (m.to.map (H2 w)).length ≤ 4
   rw [lm]; exact hm.2.2.2.1
 have h1 := hr.1; have h2 := hr.2
 refine ⟨fun x hm => ?_, Ch.2 ?_, ?_, ?_⟩
 ·rcases List.mem_append.1 hm with hm | hm
  ·have := h.1 x hm
   exact ⟨this.1, by have := this.2; show x.id ≤ s.last + 1; omega⟩
  ·rw [List.mem_singleton.1 hm]
   exact ⟨hx, Int.le_refl _⟩
 ·show ((s.items ++ [Md s m w]).map Im.id).Pairwise (· < ·)
  rw [List.map_append, List.pairwise_append]
  refine ⟨Ch.1 h.2.1, by simp, fun a ha b hb => ?_⟩
  obtain ⟨x, hx, rfl⟩ := List.mem_map.1 ha
  rw [List.map_cons, List.map_nil, List.mem_singleton] at hb
  rw [hb]
  have := (h.1 x hx).2
  show x.id < s.last + 1; omega
 ·have := h.2.2.1.1
  show 0 ≤ s.last + 1 ∧ s.last + 1 ≤ 999; omega
 ·show (s.items ++ [Md s m w]).length ≤ 10
  rw [List.length_append]; simp; omega
theorem Fd : ∀ xs : List ByteArray, Br xs = ⟨#[]⟩ ∨ Br xs ∈ xs
 | [] => .inl rfl
 | x :: r => by
   rw [Br]
   cases BU (Hy x)
   ·rw [cond_false]
    rcases Fd r with h | h
    ·exact .inl h
    ·exact .inr (by simp [h])
   ·exact .inr (by simp)
def wJ : ByteArray := ⟨#[110, 111, 116, 32, 100, 101, 108, 105, 118, 101, 114, 101, 100, 58]⟩
noncomputable def A3 (x : Im) (a : Ad) : Ml := ⟨⟨⟨#[]⟩, ⟨#[]⟩⟩, [x.frm], wJ :: Cd a :: (if Br x.body = ⟨#[]⟩ then [] else [Br x.body])⟩
theorem Lm {x : Im} {a : Ad} (h : Co x) (ha : BL a) (hn : ¬ AU x.frm) : CM (A3 x a) := by
 refine ⟨fun b hb => ?_, by show [x.frm].Nodup; simp, .inr ⟨rfl, rfl⟩, by show 1 ≤ 1 ∧ 1 ≤ 4; decide, fun s hs => ?_, ?_⟩
 ·rw [List.mem_singleton.1 hb]; exact h.2.2.2.1.resolve_right hn
 ·rcases List.mem_cons.1 hs with e | hs
  ·rw [e, HD]; exact ⟨by decide, by decide⟩
  ·rcases List.mem_cons.1 hs with e | hs
   ·rw [e]; exact PN (.inl ha)
   ·split at hs
    ·cases hs
    ·rename_i q
     rw [List.mem_singleton.1 hs]
     exact h.2.2.2.2.2.1 _ ((Fd x.body).resolve_left q)
 ·show (wJ :: Cd a :: _).length ≤ 12
  split <;> simp
open Classical in
noncomputable def EH (h : Hs) (x : Im) (a : Ad) (i k : Nat) (w : Int) : Hs :=
 if AU x.frm ∨ ¬ Bm (B7 h.spool i k) then ⟨h.conf, B7 h.spool i k, h.boxes, h.lost ++ [⟨Br x.body, a⟩]⟩ else ⟨h.conf, GJ (B7 h.spool i k) (A3 x a) w, h.boxes, h.lost⟩
def N1 (h : Hs) (n : Int) (a : Ad) (out w : Int) : Prop := ¬ Ai h.spool n < 0 ∧ ¬ Aw (AM h.spool n) a < 0 ∧ (2 ≤ out ∧ out ≤ 4) ∧ (0 ≤ w ∧ w ≤ 9999)
noncomputable def Bk (h : Hs) (i k : Nat) (a : Ad) (out w : Int) : Hs :=
 if out = 2 then ⟨h.conf, B7 h.spool i k, h.boxes, h.lost⟩
 else if out = 3 ∧ ¬ LT ((h.spool.items.getD i default).to.getD k default) w then ⟨h.conf, KZ h.spool i k w, h.boxes, h.lost⟩
 else EH h (h.spool.items.getD i default) a i k w
open Classical in
noncomputable def MS (h : Hs) (n : Int) (a : Ad) (out w : Int) : Hs × Bool :=
 if Dz h then (if N1 h n a out w then (Bk h (Ai h.spool n).toNat (Aw (AM h.spool n) a).toNat a out w, true) else (h, false)) else (Qu, false)
section
variable {h : Hs} {x : Im} {n : Int} {a : Ad} {out w : Int} {i k : Nat}
theorem KH (q : AU x.frm ∨ ¬ Bm (B7 h.spool i k)) : EH h x a i k w = ⟨h.conf, B7 h.spool i k, h.boxes, h.lost ++ [⟨Br x.body, a⟩]⟩ := if_pos q
theorem M5 (q : ¬ (AU x.frm ∨ ¬ Bm (B7 h.spool i k))) : EH h x a i k w = ⟨h.conf, GJ (B7 h.spool i k) (A3 x a) w, h.boxes, h.lost⟩ := if_neg q
theorem MT (q : ¬ Dz h) : MS h n a out w = (Qu, false) := if_neg q
theorem Hx (q : Dz h) (z : ¬ N1 h n a out w) : MS h n a out w = (h, false) := by unfold MS; rw [if_pos q, if_neg z]
theorem Pp (q : Dz h) (z : N1 h n a out w) : MS h n a out w = (Bk h (Ai h.spool n).toNat (Aw (AM h.spool n) a).toNat a out w, true) := by unfold MS; rw [if_pos q, if_pos z]
theorem Dc {x : Im} {a : Ad} (q : ¬ Aw x a < 0) : (x.to.getD (Aw x a).toNat default).addr = a := by
 have h1 := M6 (p := fun r : Rc => r.addr = a) x.to 0 (by unfold Aw at q; omega)
 exact h1
theorem Ey {s : Sp} {n : Int} (q : ¬ Ai s n < 0) : (AM s n).id = n := by
 have h1 := M6 (p := fun x : Im => x.id = n) s.items 0 (by unfold Ai at q; omega)
 exact h1
end
def lH : Ct := An (lc G7.asl l0) (fun p => (p.1.length : Int) ≤ 1048576) (fun p => .o true 2 (p.1.map B2))
section
attribute [local go_sem] Mb Ma lm List.nil_append List.map_nil List.map_cons List.length_cons List.length_nil
theorem cX {G : Gt} (hG : Aj G) : Gd G 137 (AA 0 lH) := by
 refine gr (fn := Tryz.f137) (n := 1) rfl hG ?_ (hs := fun _ _ => .deep _ _)
 rintro ⟨xs, ⟨⟩⟩ hpre
 dsimp only at hpre ⊢
 cases xs with
 | nil =>
   simp -implicitDefEqProofs only [Tryz.f137, go_sem, seval]
   with_reducible repeat' (first | apply ai | intro _ | ((first | apply s1 | apply s3 | apply s4) <;> intro hb <;> simp -implicitDefEqProofs only [hb, go_sem, seval] <;> try simp only [qz] at hb))
   all_goals (try simp only [maxLen, lm] at *)
   all_goals first | rfl | omega | exact of_eq_true (MO []) | (simp; done) | skip
 | cons x xs =>
   simp only [List.length_cons] at hpre
   simp -implicitDefEqProofs only [Tryz.f137, go_sem, seval]
   with_reducible repeat' (first | apply ai | intro _ | ((first | apply s1 | apply s3 | apply s4) <;> intro hb <;> simp -implicitDefEqProofs only [hb, go_sem, seval] <;> try simp only [qz] at hb))
   all_goals (try simp only [maxLen, lm] at *)
   all_goals first | rfl | omega | exact of_eq_true (MO (x :: xs)) | exact of_eq_true (XV (x :: xs)) _ (by assumption) | (simp; done) | skip
end
def w8 : Ct := An (lc FI.asl l0) (fun p => (p.1.length : Int) ≤ 1048576) (fun p => .o true 3 (p.1.map Ay))
section
attribute [local go_sem] Mb Ma lm List.nil_append List.map_nil List.map_cons List.length_cons List.length_nil
theorem pY {G : Gt} (hG : Aj G) : Gd G 75 (AA 0 w8) := by
 refine gr (fn := Tryz.f75) (n := 1) rfl hG ?_ (hs := fun _ _ => .deep _ _)
 rintro ⟨xs, ⟨⟩⟩ hpre
 dsimp only at hpre ⊢
 cases xs with
 | nil =>
   simp -implicitDefEqProofs only [Tryz.f75, go_sem, seval]
   with_reducible repeat' (first | apply ai | intro _ | ((first | apply s1 | apply s3 | apply s4) <;> intro hb <;> simp -implicitDefEqProofs only [hb, go_sem, seval] <;> try simp only [qz] at hb))
   all_goals (try simp only [maxLen, lm] at *)
   all_goals first | rfl | omega | exact of_eq_true (MM []) | (simp; done) | skip
 | cons x xs =>
   simp only [List.length_cons] at hpre
   simp -implicitDefEqProofs only [Tryz.f75, go_sem, seval]
   with_reducible repeat' (first | apply ai | intro _ | ((first | apply s1 | apply s3 | apply s4) <;> intro hb <;> simp -implicitDefEqProofs only [hb, go_sem, seval] <;> try simp only [qz] at hb))
   all_goals (try simp only [maxLen, lm] at *)
   all_goals first | rfl | omega | exact of_eq_true (MM (x :: xs)) | exact of_eq_true (XT (x :: xs)) _ (by assumption) | (simp; done) | skip
end
def tJ : Ct := An (lc IZ.ag l0) (fun p => LK p.1) (fun p => fW p.1)
section
attribute [local go_sem] lm List.map_nil List.length_nil List.nil_append Nat.zero_add
theorem pt {G : Gt} (hG : Aj G) : Gd G 90 (AA 0 tJ) := by
 refine gr (fn := Tryz.f90) (n := 1) rfl hG ?_ (hs := fun _ p => Kj _)
 rintro ⟨x, ⟨⟩⟩ hpre
 simp -implicitDefEqProofs only [Tryz.f90, go_sem, seval] at hpre ⊢
 obtain ⟨_, ⟨h1, _⟩, ⟨h2, _⟩⟩ := hpre
 with_reducible repeat' (first | apply ai | intro _ | ((first | apply s1 | apply s3 | apply s4) <;> intro hb <;> simp -implicitDefEqProofs only [hb, go_sem, seval] <;> try simp only [qz] at hb))
 all_goals (try simp only [maxLen, lm, List.length_nil] at *)
 all_goals first | rfl | omega | (simp_all; done) | skip
end
def w7 : Ct := An (lc IZ.ag l0) (fun p => LK p.1) (fun p => fW p.1)
section
attribute [local go_sem] Vh lH lm
theorem pV {G : Gt} (hG : Aj G) (hh : G.e 68 = AA 0 Vh ∧ G.e 137 = AA 0 lH) : Gd G 73 (AA 0 w7) := by
 refine gr (fn := Tryz.f73) (n := 1) rfl hG ?_ (hs := fun _ p => Kj _)
 rintro ⟨x, ⟨⟩⟩ hpre
 simp -implicitDefEqProofs only [Tryz.f73, go_sem, hh, seval] at hpre ⊢
 obtain ⟨_, ⟨h1, _⟩, ⟨h2, _⟩⟩ := hpre
 with_reducible repeat' (first | apply ai | intro _ | ((first | apply s1 | apply s3 | apply s4) <;> intro hb <;> simp -implicitDefEqProofs only [hb, go_sem, hh, seval] <;> try simp only [qz] at hb))
 all_goals (try simp only [maxLen, lm] at *)
 all_goals first | rfl | omega | (simp_all; done) | skip
end
def wC : Ct := An (lc FH.ag l0) (fun p => ET p.1) (fun p => NQ p.1)
section
attribute [local go_sem] Vh w7 ax w8 lm List.length_append List.length_cons List.length_nil List.map_append List.map_nil Nat.zero_add List.nil_append AS.opn AS.cls AS.nilb AS.renb AS.up Bool.not_false Bool.not_true List.set_set List.set_cons_zero List.set_cons_succ List.set_nil List.mem_singleton forall_eq
set_option maxHeartbeats 3200000 in
theorem od {G : Gt} (hG : Aj G) (hh : G.e 68 = AA 0 Vh ∧ G.e 73 = AA 0 w7 ∧ G.e 74 = AA 0 ax ∧ G.e 75 = AA 0 w8) : Gd G 25 (AA 0 wC) := by
 refine gr (fn := Tryz.f25) (n := 1) rfl hG ?_ (hs := fun _ p => Gy _)
 rintro ⟨h, ⟨⟩⟩ hpre
 simp -implicitDefEqProofs only [Tryz.f25, go_sem, hh, seval] at hpre ⊢
 obtain ⟨zc, zs, ⟨lb, zb⟩, ⟨ll, zl⟩⟩ := hpre
 with_reducible repeat' (first | apply ai | intro _ | ((first | apply s1 | apply s3 | apply s4) <;> intro hb <;> simp -implicitDefEqProofs only [hb, go_sem, hh, seval] <;> try simp only [qz] at hb))
 all_goals first | rfl | omega | decide | skip
 refine AF [(3, 1903, true, 3)] (ι := {i : Nat // i ≤ h.boxes.length}) (fun p => ⟨[(1, .pb 1001 0), (2, .pb 1002 0), (3, .h 1903), (10, .t (.sl 3 (h.boxes.map Bn))), (11, .t (.v (.int .i64 h.boxes.length))), (12, .t (.v (.int .i64 p.1)))], [(1001, some (.box ((Ao h).map .t))), (1002, some (.box [.t (.v (.string ⟨#[]⟩)), .nil, .nil, .t (.v (.int .i64 0)), .nil, .nil, .nil])), (1903, some (.arr true 3 ((h.boxes.take p.1).map Bn)))]⟩) (fun p => h.boxes.length - p.1) ⟨0, by simp⟩ rfl ?_ ?_
 ·simp -implicitDefEqProofs only [go_sem, hh, seval]
  try simp
 ·rintro ⟨i, hi⟩
  have hlen : (h.boxes.take i).length = i := by simp; omega
  by_cases hlt : (i : Int) < h.boxes.length
  ·skip
   have hbx := zb _ (AE (xs := h.boxes) (j := i) (by omega))
   obtain ⟨_, ⟨lm, zm⟩⟩ := hbx
   simp -implicitDefEqProofs only [hlt, decide_true, tn, go_sem, hh, seval]
   with_reducible repeat' (first | apply ai | intro _ | ((first | apply s1 | apply s3 | apply s4) <;> intro hb <;> simp -implicitDefEqProofs only [hb, go_sem, hh, seval] <;> try simp only [qz] at hb))
   all_goals (try simp only [maxLen] at *)
   all_goals first | rfl | omega | assumption | decide | skip
   refine AF [(6, 1906, true, 3)] (ι := {k : Nat // k ≤ (h.boxes.getD i default).mails.length}) (fun p => ⟨[(1, .pb 1001 0), (2, .pb 1002 0), (3, .h 1903), (5, .pb 1005 0), (6, .h 1906), (10, .t (.sl 3 (h.boxes.map Bn))), (11, .t (.v (.int .i64 h.boxes.length))), (12, .t (.v (.int .i64 i))), (17, .t (.sl 3 ((h.boxes.getD i default).mails.map Ca))), (18, .t (.v (.int .i64 (h.boxes.getD i default).mails.length))), (19, .t (.v (.int .i64 p.1)))], [(1001, some (.box ((Ao h).map .t))), (1002, some (.box [.t (.v (.string ⟨#[]⟩)), .nil, .nil, .t (.v (.int .i64 0)), .nil, .nil, .nil])), (1903, some (.arr true 3 ((h.boxes.take i).map Bn))), (1005, some (.box ((Bn (h.boxes.getD i default)).map .t))), (1906, some (.arr true 3 (((h.boxes.getD i default).mails.take p.1).map Ca)))]⟩) (fun p => (h.boxes.getD i default).mails.length - p.1) ⟨0, by simp⟩ rfl ?_ ?_
   ·simp -implicitDefEqProofs only [go_sem, hh, seval]
    try simp
   ·rintro ⟨k, hk⟩
    have hlen2 : ((h.boxes.getD i default).mails.take k).length = k := by rw [List.length_take]; omega
    by_cases hlt2 : (k : Int) < (h.boxes.getD i default).mails.length
    ·obtain ⟨_, ⟨lg, _⟩⟩ := zm _ (AE (xs := (h.boxes.getD i default).mails) (j := k) (by omega))
     simp -implicitDefEqProofs only [hlt2, decide_true, tn, go_sem, hh, seval]
     with_reducible repeat' (first | apply ai | intro _ | ((first | apply s1 | apply s3 | apply s4) <;> intro hb <;> simp -implicitDefEqProofs only [hb, go_sem, hh, seval] <;> try simp only [qz] at hb))
     all_goals (try simp only [maxLen] at *)
     all_goals first | rfl | omega | assumption | decide | skip
     refine ⟨⟨k + 1, by omega⟩, by dsimp only; omega, ?_⟩
     simp -implicitDefEqProofs only [go_sem, hh, seval]
     simp only [BM Ca (show k < (h.boxes.getD i default).mails.length by omega)]
     with_reducible repeat' (first | apply ai | intro _ | ((first | apply s1 | apply s3 | apply s4) <;> intro hb <;> simp -implicitDefEqProofs only [hb, go_sem, hh, seval] <;> try simp only [qz] at hb))
     all_goals first | rfl | (simp; done) | skip
    ·have htk : (h.boxes.getD i default).mails.take k = (h.boxes.getD i default).mails := List.take_of_length_le (by omega)
     simp -implicitDefEqProofs only [hlt2, htk, decide_false, tn, go_sem, hh, seval]
     with_reducible repeat' (first | apply ai | intro _ | ((first | apply s1 | apply s3 | apply s4) <;> intro hb <;> simp -implicitDefEqProofs only [hb, go_sem, hh, seval] <;> try simp only [qz] at hb))
     all_goals (try simp only [maxLen] at *)
     all_goals first | rfl | omega | assumption | decide | skip
     refine ⟨⟨i + 1, by omega⟩, by dsimp only; omega, ?_⟩
     simp -implicitDefEqProofs only [go_sem, hh, seval]
     simp only [BM Bn (show i < h.boxes.length by omega)]
     with_reducible repeat' (first | apply ai | intro _ | ((first | apply s1 | apply s3 | apply s4) <;> intro hb <;> simp -implicitDefEqProofs only [hb, go_sem, hh, seval] <;> try simp only [qz] at hb))
     all_goals first | rfl | (simp; done) | skip
  ·have htk : h.boxes.take i = h.boxes := List.take_of_length_le (by omega)
   simp -implicitDefEqProofs only [hlt, htk, decide_false, go_sem, hh, seval]
   with_reducible repeat' (first | apply ai | intro _ | ((first | apply s1 | apply s3 | apply s4) <;> intro hb <;> simp -implicitDefEqProofs only [hb, go_sem, hh, seval] <;> try simp only [qz] at hb))
   all_goals (try simp only [maxLen] at *)
   all_goals first | rfl | omega | assumption | decide | exact ⟨zc, zs, ⟨lb, zb⟩, ⟨ll, zl⟩⟩ | rfl | skip
end
def sJ : Ct := An (lc FH.ag l0) (fun p => ET p.1) (fun p => NQ p.1)
section
attribute [local go_sem] tJ tK lm List.length_append List.length_cons List.length_nil List.map_append List.map_nil Nat.zero_add List.nil_append AS.opn AS.cls AS.nilb AS.renb AS.up Bool.not_false Bool.not_true List.set_set List.set_cons_zero List.set_cons_succ List.set_nil List.mem_singleton forall_eq
set_option maxHeartbeats 6400000 in
theorem ov {G : Gt} (hG : Aj G) (hh : G.e 90 = AA 0 tJ ∧ G.e 91 = AA 0 tK) : Gd G 33 (AA 0 sJ) := by
 refine LQ (dp := fun n => !(Nat.beq n 100002 || Nat.beq n 100004 || Nat.beq n 100006 || Nat.beq n 100008)) (fn := Tryz.f33) (n := 1) rfl hG ?_ (hs := fun _ p => Gy _)
 rintro ⟨h, ⟨⟩⟩ hpre
 simp -implicitDefEqProofs only [Tryz.f33, go_sem, hh, seval] at hpre ⊢
 obtain ⟨zc, zs, ⟨lb, zb⟩, ⟨ll, zl⟩⟩ := hpre
 with_reducible repeat' (first | apply ai | intro _ | ((first | apply s1 | apply s3 | apply s4) <;> intro hb <;> simp -implicitDefEqProofs only [hb, go_sem, hh, seval] <;> try simp only [qz] at hb))
 all_goals (try simp only [maxLen] at *)
 all_goals first | rfl | omega | assumption | decide | skip
 refine Ak (Le.nilb 1003 5 1905 true 3 rfl rfl rfl) (AW ?_)
 simp -implicitDefEqProofs only [go_sem, hh, seval]
 refine AF [] (ι := {i : Nat // i ≤ h.boxes.length}) (fun p => ⟨[(1, .pb 1001 0), (2, .pb 1002 0), (3, .pb 1003 0), (4, .t (.v (.int .i64 p.1)))], [(1001, some (.box ((Ao h).map .t))), (1002, some (.box [.t (.v (.string ⟨#[]⟩)), .nil, .nil, .t (.v (.int .i64 0)), .nil, .nil, .nil])), (1003, some (.box [.t (.v (.string h.conf.name)), .h 1009, .h 2009, .t (.v (.int .i64 h.spool.last)), .h 1012, .h 1905, .h 1016])), (1009, some (.arr true 1 (h.conf.own.map AH))), (2009, some (.arr true 2 (h.conf.ways.map B2))), (1012, some (.arr true 5 (h.spool.items.map Ah))), (1016, some (.arr true 3 (h.lost.map Ay))), (1905, some (.arr true 3 ((h.boxes.take p.1).map Bn)))]⟩) (fun p => h.boxes.length - p.1) ⟨0, by simp⟩ rfl ?_ ?_
 ·simp -implicitDefEqProofs only [go_sem, hh, seval]
  try simp
 ·rintro ⟨i, hi⟩
  have hlen : (h.boxes.take i).length = i := by simp; omega
  by_cases hlt : (i : Int) < h.boxes.length
  ·skip
   have hbx := zb _ (AE (xs := h.boxes) (j := i) (by omega))
   obtain ⟨_, ⟨lm, zm⟩⟩ := hbx
   simp -implicitDefEqProofs only [hlt, decide_true, tn, go_sem, hh, seval]
   with_reducible repeat' (first | apply ai | intro _ | ((first | apply s1 | apply s3 | apply s4) <;> intro hb <;> simp -implicitDefEqProofs only [hb, go_sem, hh, seval] <;> try simp only [qz] at hb))
   all_goals (try simp only [maxLen] at *)
   all_goals first | rfl | omega | assumption | decide | skip
   refine Ak (Le.nilb 1005 2 1906 true 3 rfl rfl rfl) (AW ?_)
   simp -implicitDefEqProofs only [go_sem, hh, seval]
   with_reducible repeat' (first | apply ai | intro _ | ((first | apply s1 | apply s3 | apply s4) <;> intro hb <;> simp -implicitDefEqProofs only [hb, go_sem, hh, seval] <;> try simp only [qz] at hb))
   all_goals first | rfl | omega | decide | skip
   refine AF [] (ι := {k : Nat // k ≤ (h.boxes.getD i default).mails.length}) (fun p => ⟨[(1, .pb 1001 0), (2, .pb 1002 0), (3, .pb 1003 0), (4, .t (.v (.int .i64 i))), (5, .pb 1005 0), (6, .t (.v (.int .i64 p.1)))], [(1001, some (.box ((Ao h).map .t))), (1002, some (.box [.t (.v (.string ⟨#[]⟩)), .nil, .nil, .t (.v (.int .i64 0)), .nil, .nil, .nil])), (1003, some (.box [.t (.v (.string h.conf.name)), .h 1009, .h 2009, .t (.v (.int .i64 h.spool.last)), .h 1012, .h 1905, .h 1016])), (1009, some (.arr true 1 (h.conf.own.map AH))), (2009, some (.arr true 2 (h.conf.ways.map B2))), (1012, some (.arr true 5 (h.spool.items.map Ah))), (1016, some (.arr true 3 (h.lost.map Ay))), (1905, some (.arr true 3 ((h.boxes.take i).map Bn))), (1005, some (.box [.t (.v (.string (h.boxes.getD i default).addr.user)), .t (.v (.string (h.boxes.getD i default).addr.domain)), .h 1906])), (1906, some (.arr true 3 (((h.boxes.getD i default).mails.take p.1).map Ca)))]⟩) (fun p => (h.boxes.getD i default).mails.length - p.1) ⟨0, by simp⟩ rfl ?_ ?_
   ·simp -implicitDefEqProofs only [go_sem, hh, seval]
    try simp
   ·rintro ⟨k, hk⟩
    have hlen2 : ((h.boxes.getD i default).mails.take k).length = k := by rw [List.length_take]; omega
    by_cases hlt2 : (k : Int) < (h.boxes.getD i default).mails.length
    ·obtain ⟨_, ⟨lg, _⟩⟩ := zm _ (AE (xs := (h.boxes.getD i default).mails) (j := k) (by omega))
     simp -implicitDefEqProofs only [hlt2, decide_true, tn, go_sem, hh, seval]
     with_reducible repeat' (first | apply ai | intro _ | ((first | apply s1 | apply s3 | apply s4) <;> intro hb <;> simp -implicitDefEqProofs only [hb, go_sem, hh, seval] <;> try simp only [qz] at hb))
     all_goals (try simp only [maxLen, tn] at *)
     all_goals first | rfl | omega | assumption | decide | skip
     refine Ak (Le.renb 1005 2 1069 1906 rfl rfl rfl rfl) (AW ?_)
     simp -implicitDefEqProofs only [go_sem, hh, seval]
     with_reducible repeat' (first | apply ai | intro _ | ((first | apply s1 | apply s3 | apply s4) <;> intro hb <;> simp -implicitDefEqProofs only [hb, go_sem, hh, seval] <;> try simp only [qz] at hb))
     all_goals first | rfl | omega | decide | skip
     refine ⟨⟨k + 1, by omega⟩, by dsimp only; omega, ?_⟩
     simp -implicitDefEqProofs only [go_sem, hh, seval]
     simp only [BM Ca (show k < (h.boxes.getD i default).mails.length by omega)]
     with_reducible repeat' (first | apply ai | intro _ | ((first | apply s1 | apply s3 | apply s4) <;> intro hb <;> simp -implicitDefEqProofs only [hb, go_sem, hh, seval] <;> try simp only [qz] at hb))
     all_goals first | rfl | (simp; done) | skip
    ·have htk : (h.boxes.getD i default).mails.take k = (h.boxes.getD i default).mails := List.take_of_length_le (by omega)
     simp -implicitDefEqProofs only [hlt2, htk, decide_false, tn, go_sem, hh, seval]
     with_reducible repeat' (first | apply ai | intro _ | ((first | apply s1 | apply s3 | apply s4) <;> intro hb <;> simp -implicitDefEqProofs only [hb, go_sem, hh, seval] <;> try simp only [qz] at hb))
     all_goals (try simp only [maxLen] at *)
     all_goals first | rfl | omega | assumption | decide | skip
     refine Ak (Le.renb 1003 5 1075 1905 rfl rfl rfl rfl) (AW ?_)
     simp -implicitDefEqProofs only [go_sem, hh, seval]
     with_reducible repeat' (first | apply ai | intro _ | ((first | apply s1 | apply s3 | apply s4) <;> intro hb <;> simp -implicitDefEqProofs only [hb, go_sem, hh, seval] <;> try simp only [qz] at hb))
     all_goals first | rfl | omega | decide | skip
     refine ⟨⟨i + 1, by omega⟩, by dsimp only; omega, ?_⟩
     simp -implicitDefEqProofs only [go_sem, hh, seval]
     simp only [BM Bn (show i < h.boxes.length by omega)]
     with_reducible repeat' (first | apply ai | intro _ | ((first | apply s1 | apply s3 | apply s4) <;> intro hb <;> simp -implicitDefEqProofs only [hb, go_sem, hh, seval] <;> try simp only [qz] at hb))
     all_goals first | rfl | (simp; done) | skip
  ·have htk : h.boxes.take i = h.boxes := List.take_of_length_le (by omega)
   simp -implicitDefEqProofs only [hlt, htk, decide_false, go_sem, hh, seval]
   with_reducible repeat' (first | apply ai | intro _ | ((first | apply s1 | apply s3 | apply s4) <;> intro hb <;> simp -implicitDefEqProofs only [hb, go_sem, hh, seval] <;> try simp only [qz] at hb))
   all_goals (try simp only [maxLen] at *)
   all_goals first | rfl | omega | assumption | decide | rfl | skip
end
def mN : Ct := An (lc A0 l0) (fun p => p.1.size ≤ 2000000) (fun p => .t (.v (.string (Cm p.1))))
theorem d7 {G : Gt} (hG : Aj G) : Gd G 240 (AA 0 mN) := by
 refine gr (fn := Tryz.f240) (n := 1) rfl hG ?_
 rintro ⟨n, ⟨⟩⟩ hpre
 simp -implicitDefEqProofs only [Tryz.f240, go_sem, seval] at hpre ⊢
 with_reducible repeat' (first | apply ai | intro _ | ((first | apply s1 | apply s3 | apply s4) <;> intro hb <;> simp -implicitDefEqProofs only [hb, go_sem, seval] <;> try simp only [qz] at hb))
 all_goals (try simp only [maxLen] at *)
 all_goals first | rfl | omega | (show 5 + n.size ≤ _; omega) | skip
theorem SB {a : ByteArray} {xs : List ByteArray} : Al.decL ([.v (.string a)] :: xs.map AH) = some (a :: xs) := Al.decL_map (a :: xs)
theorem XF (n : ByteArray) : (Cm n).size = 5 + n.size := by
 have e : bl (Cm n) = [72, 111, 112, 58, 32] ++ bl n := P8 _ _
 rw [← CJ, e, List.length_append, CJ]; rfl
open Classical in
noncomputable def LJ (h : Hs) (m : Ml) (w : Int) : Hs × Bool := if m.body.length < 12 ∧ Bm h.spool then (Pa h m w, true) else (h, false)
theorem Jh {h : Hs} {m : Ml} {w : Int} (q : m.body.length < 12 ∧ Bm h.spool) : LJ h m w = (Pa h m w, true) := if_pos q
theorem Jg {h : Hs} {m : Ml} {w : Int} (q : ¬ (m.body.length < 12 ∧ Bm h.spool)) : LJ h m w = (h, false) := if_neg q
def Vd : Ct := An (lc FH.ag (lc Um.ag (lc A6 l0))) (fun p => ET p.1 ∧ Ji p.2.1 ∧ BI p.1.spool ∧ p.1.conf.name.size ≤ 1000000) (fun p => RI (LJ p.1 p.2.1 p.2.2.1))
section
attribute [local go_sem] J5 Mm mN QG IX IH List.take_length List.drop_zero List.length_take List.length_drop lm List.length_append List.length_cons List.length_nil List.map_append List.map_nil List.map_cons List.nil_append Nat.zero_add List.mem_singleton forall_eq Bool.not_true Bool.not_false SB List.cons_append RI AS.opn AS.cls AS.nilb AS.renb AS.up List.set_set List.set_cons_zero List.set_cons_succ List.set_nil
set_option maxHeartbeats 3200000 in
theorem dl {G : Gt} (hG : Aj G) (hh : G.e 147 = AA 0 J5 ∧ G.e 222 = AA 0 Mm ∧ G.e 240 = AA 0 mN ∧ G.e 148 = AA 1 QG) : Gd G 225 (AA 1 Vd) := by
 refine LQ (dp := fun n => Nat.ble 100000 n) (fn := Tryz.f225) (n := 3) rfl hG ?_
 rintro ⟨h, m, w, ⟨⟩⟩ hpre
 obtain ⟨hok, hml, hsp, hnm2⟩ := hpre
 dsimp only at hok hml hsp hnm2 ⊢
 have hml2 := hml
 obtain ⟨⟨_, _⟩, ⟨hl1, zt⟩, ⟨hl2, zb⟩⟩ := hml2
 have SK : h.conf.name.size ≤ 2000000 := by have : h.conf.name.size ≤ 1048576 := hok.1.1; omega
 by_cases q : m.body.length < 12 ∧ Bm h.spool
 ·rw [Jh q]
  obtain ⟨q1, q2⟩ := q
  have b2 := Ag q2
  have q3 : ¬ (m.body.length : Int) ≥ 12 := by omega
  have hos := hok.2.1
  have hml3 : Ji ⟨m.frm, m.to, Cm h.conf.name :: m.body⟩ := by
   refine ⟨hml.1, hml.2.1, ⟨by show ((Cm h.conf.name :: m.body).length : Int) ≤ _; rw [List.length_cons]; omega, fun s hs => ?_⟩⟩
   rcases List.mem_cons.1 hs with e | hs
   ·rw [e]
    have h5 := XF h.conf.name
    have h6 : h.conf.name.size ≤ 1000000 := hnm2
    show (Cm h.conf.name).size ≤ 1048576
    omega
   ·exact zb s hs
  simp -implicitDefEqProofs only [Tryz.f225, b2, q3, decide_false, go_sem, hh, seval]
  with_reducible repeat' (first | apply ai | intro _ | ((first | apply s1 | apply s3 | apply s4) <;> intro hb <;> simp -implicitDefEqProofs only [hb, go_sem, hh, seval] <;> try simp only [qz] at hb))
  all_goals (try simp only [maxLen] at *)
  all_goals first | with_reducible assumption | rfl | omega | contradiction | skip
 ·rw [Jg q]
  by_cases q1 : m.body.length < 12
  ·have b2 := AO (fun z => q ⟨q1, z⟩)
   have q3 : ¬ (m.body.length : Int) ≥ 12 := by omega
   simp -implicitDefEqProofs only [Tryz.f225, b2, q3, decide_false, go_sem, hh, seval]
   with_reducible repeat' (first | apply ai | intro _ | ((first | apply s1 | apply s3 | apply s4) <;> intro hb <;> simp -implicitDefEqProofs only [hb, go_sem, hh, seval] <;> try simp only [qz] at hb))
   all_goals (try simp only [maxLen] at *)
   all_goals first | rfl | omega | assumption | decide | contradiction | skip
  ·have q3 : (m.body.length : Int) ≥ 12 := by omega
   simp -implicitDefEqProofs only [Tryz.f225, q3, decide_true, go_sem, hh, seval]
   with_reducible repeat' (first | apply ai | intro _ | ((first | apply s1 | apply s3 | apply s4) <;> intro hb <;> simp -implicitDefEqProofs only [hb, go_sem, hh, seval] <;> try simp only [qz] at hb))
   all_goals (try simp only [maxLen] at *)
   all_goals first | rfl | omega | assumption | decide | contradiction | skip
end
section
open Go.Lib
theorem Mg {s : ByteArray} (h : Rb s) : ¬ (64 : UInt8) ∈ bl s := fun q => by
 obtain ⟨j, hj, e⟩ := HO q
 have := h.1 j hj
 rw [e] at this
 exact absurd this (by unfold KP; decide)
theorem P6 {s : ByteArray} (h : D4 s) : ¬ (64 : UInt8) ∈ bl s := fun q => by
 obtain ⟨h1, _⟩ := (JJ s).1 h
 rcases Hl (c := 46) q with e | ⟨w, hw, q⟩
 ·exact absurd e (by decide)
 ·exact Mg (h1 _ (List.mem_map_of_mem hw)) q
theorem IW {c : UInt8} : ∀ {l : List UInt8} (m : Nat), ¬ c ∈ l → Ar c m l = [l]
 | _, 0, _ => by simp [Ar]
 | [], m + 1, _ => by simp [Ar]
 | x :: r, m + 1, h => by
   simp only [List.mem_cons, not_or] at h
   rw [Ar, if_neg (fun e => h.1 e.symm), IW (m + 1) h.2]
theorem GE {c : UInt8} : ∀ {u d : List UInt8} (m : Nat), ¬ c ∈ u → Ar c (m + 1) (u ++ c :: d) = u :: Ar c m d
 | [], d, m, _ => by simp [Ar]
 | x :: r, d, m, h => by
   simp only [List.mem_cons, not_or] at h
   rw [List.cons_append, Ar, if_neg (fun e => h.1 e.symm), GE m h.2]
theorem Mq {u d : List UInt8} (hu : ¬ (64 : UInt8) ∈ u) (hd : ¬ (64 : UInt8) ∈ d) : Cp (mB (u ++ 64 :: d)) 64 2 = [mB u, mB d] := by
 unfold Cp
 rw [VK, GE 1 hu, IW 1 hd]; rfl
theorem bJ {s : ByteArray} (h : (Cp s 64 2).length = 2) : s = mB (bl ((Cp s 64 2).getD 0 default) ++ 64 :: bl ((Cp s 64 2).getD 1 default)) := by
 by_cases h1 : (64 : UInt8) ∈ bl s
 ·obtain ⟨u, r, e, hu⟩ := List.eq_append_cons_of_mem h1
  by_cases h2 : (64 : UInt8) ∈ r
  ·obtain ⟨v, t, e2, hv⟩ := List.eq_append_cons_of_mem h2
   unfold Cp at h
   rw [e, GE 1 hu, e2, GE 0 hv] at h
   simp [Ar] at h
  ·have : Cp s 64 2 = [mB u, mB r] := by rw [← SZ s, e]; exact Mq hu h2
   rw [this]
   refine Gg ?_
   rw [e]; rfl
 ·unfold Cp at h
  rw [IW 2 h1] at h
  cases h
theorem Kn {a : Ad} (h : BL a) : bl (Cd a) = 60 :: ((bl a.user ++ 64 :: bl a.domain) ++ [62]) := by
 rw [NU (ZA h)]; simp
def GI (s : ByteArray) : Prop := ∃ a, (BL a ∨ AU a) ∧ Cd a = s
open Classical in
noncomputable def BK (s : ByteArray) : Ad := if h : GI s then h.choose else ⟨⟨#[]⟩, ⟨#[]⟩⟩
theorem Qk (s : ByteArray) {l : List UInt8} (h : bl s = 60 :: (l ++ [62])) : s.extract 1 (s.size - 1) = mB l := by
 refine Gg ?_
 have e : s.size = l.length + 2 := by rw [← CJ, h]; simp
 rw [Di, h, e, VK]
 try simp
theorem YM {a b : Ad} (ha : BL a ∨ AU a) (hb : BL b ∨ AU b) (h : Cd a = Cd b) : a = b := by
 have key : ∀ {x y : Ad}, BL x → AU y → Cd x = Cd y → False := fun {x y} hx hy e => by
  have := congrArg bl e
  rw [Kn hx, G5 hy] at this
  have := congrArg List.length this
  have e2 : (bl (⟨#[60, 62]⟩ : ByteArray)).length = 2 := rfl
  rw [e2] at this
  simp at this
  omega
 rcases ha with ha | ha
 ·rcases hb with hb | hb
  ·have e1 := Qk (Cd a) (Kn ha)
   have e2 := Qk (Cd b) (Kn hb)
   rw [h, e2] at e1
   have e3 := Mq (Mg ha.1) (P6 ha.2)
   rw [← e1, Mq (Mg hb.1) (P6 hb.2)] at e3
   simp only [List.cons.injEq, and_true, SZ] at e3
   obtain ⟨u, d⟩ := a
   obtain ⟨v, w⟩ := b
   rw [show v = u from e3.1, show w = d from e3.2]
  ·exact (key ha hb h).elim
 ·rcases hb with hb | hb
  ·exact (key hb ha h.symm).elim
  ·obtain ⟨u, d⟩ := a
   obtain ⟨v, w⟩ := b
   rw [show u = _ from ha.1, show d = _ from ha.2, show v = _ from hb.1, show w = _ from hb.2]
theorem SH {s : ByteArray} {a : Ad} (ha : BL a ∨ AU a) (h : Cd a = s) : GI s ∧ BK s = a := by
 have hr : GI s := ⟨a, ha, h⟩
 refine ⟨hr, ?_⟩
 unfold BK
 rw [dif_pos hr]
 exact YM hr.choose_spec.1 ha (hr.choose_spec.2.trans h.symm)
theorem M4 {s : ByteArray} (h : ¬ GI s) : BK s = ⟨⟨#[]⟩, ⟨#[]⟩⟩ := dif_neg h
theorem JX {s : ByteArray} (h : GI s) : (BL (BK s) ∨ AU (BK s)) ∧ Cd (BK s) = s := by
 unfold BK
 rw [dif_pos h]
 exact h.choose_spec
theorem NY : GI ⟨#[60, 62]⟩ ∧ BK ⟨#[60, 62]⟩ = ⟨⟨#[]⟩, ⟨#[]⟩⟩ := SH (.inr ⟨rfl, rfl⟩) (G5 ⟨rfl, rfl⟩)
theorem rA {s : ByteArray} (h : GI s) (h0 : ¬ s = ⟨#[60, 62]⟩) : 2 ≤ s.size ∧ AC s 0 = 60 ∧ AC s (s.size - 1) = 62 ∧ Cp (s.extract 1 (s.size - 1)) 64 2 = [(BK s).user, (BK s).domain] ∧ BL (BK s) := by
 obtain ⟨h1, h2⟩ := JX h
 have hk := h1.resolve_right fun q => h0 (by rw [← h2, G5 q])
 have hb := Kn hk
 rw [h2] at hb
 have hs : s.size = ((bl (BK s).user ++ 64 :: bl (BK s).domain)).length + 2 := by rw [← CJ, hb]; simp; omega
 refine ⟨by omega, ?_, ?_, ?_, hk⟩
 ·rw [CE, hb]; rfl
 ·rw [CE, hb, hs]
  simp only [List.getD_eq_getElem?_getD]
  rw [show ∀ n : Nat, n + 2 - 1 = n + 1 from fun n => rfl, List.getElem?_cons_succ, List.getElem?_append_right (Nat.le_refl _), Nat.sub_self]
  rfl
 ·rw [Qk s hb, Mq (Mg hk.1) (P6 hk.2)]; rfl
theorem kn {s : ByteArray} (h : 2 ≤ s.size) (h1 : AC s 0 = 60) (h2 : AC s (s.size - 1) = 62) : bl s = 60 :: (bl (s.extract 1 (s.size - 1)) ++ [62]) := by
 have e1 : (bl s).getD 0 0 = 60 := (Fz (c := 60)).1 h1
 have e2 : (bl s).getD (s.size - 1) 0 = 62 := (Fz (c := 62)).1 h2
 have d0 := F4 (s := s) (i := 0) (by omega)
 have d1 := F4 (s := s) (i := s.size - 1) (by omega)
 rw [e1] at d0
 rw [e2] at d1
 have e3 : (bl s).drop (s.size - 1 + 1) = [] := List.drop_of_length_le (by rw [CJ]; omega)
 rw [e3] at d1
 rw [Di]
 have : (bl s).drop 1 = ((bl s).drop 1).take (s.size - 1 - 1) ++ ((bl s).drop 1).drop (s.size - 1 - 1) := (List.take_append_drop _ _).symm
 rw [List.drop_drop, show 1 + (s.size - 1 - 1) = s.size - 1 by omega, d1] at this
 rw [← this]
 exact d0
theorem YN {s : ByteArray} (h : 2 ≤ s.size) (h1 : AC s 0 = 60) (h2 : AC s (s.size - 1) = 62) (h3 : (Cp (s.extract 1 (s.size - 1)) 64 2).length = 2)
    (h4 : BL ⟨(Cp (s.extract 1 (s.size - 1)) 64 2).getD 0 default, (Cp (s.extract 1 (s.size - 1)) 64 2).getD 1 default⟩) :
    GI s ∧ BK s = ⟨(Cp (s.extract 1 (s.size - 1)) 64 2).getD 0 default, (Cp (s.extract 1 (s.size - 1)) 64 2).getD 1 default⟩ := by
 refine SH (.inl h4) (Gg ?_)
 rw [Kn h4, kn h h1 h2]
 have := congrArg bl (bJ h3)
 rw [this]; rfl
theorem YO {s : ByteArray} (h0 : ¬ s = ⟨#[60, 62]⟩) (h : (s.size : Int) < 2 ∨ ¬ AC s 0 = 60 ∨ ¬ AC s (s.size - 1) = 62 ∨ ¬ ((Cp (s.extract 1 (s.size - 1)) 64 2).length : Int) = 2 ∨
    ¬ BL ⟨(Cp (s.extract 1 (s.size - 1)) 64 2).getD 0 default, (Cp (s.extract 1 (s.size - 1)) 64 2).getD 1 default⟩) : ¬ GI s := fun q => by
 obtain ⟨h1, h2, h3, h4, h5⟩ := rA q h0
 rw [h4] at h
 rcases h with h | h | h | h | h
 ·omega
 ·exact h h2
 ·exact h h3
 ·exact h rfl
 ·exact h h5
theorem zI : (0 : Int).toNat = 0 := rfl
theorem zJ : (1 : Int).toNat = 1 := rfl
theorem zL : (2 : Int).toNat = 2 := rfl
theorem u64 : UInt8.ofNat (64 : Int).toNat = 64 := rfl
theorem zM (n : Nat) : ((n : Int) - 1).toNat = n - 1 := by omega
end
noncomputable def xv (s : ByteArray) : AV := .tup [.agg [.t (.v (.string (BK s).user)), .t (.v (.string (BK s).domain))], .t (.v (.bool (BU (GI s))))]
theorem RG (s : ByteArray) : xv s = .tup [.agg [.t (.v (.string (BK s).user)), .t (.v (.string (BK s).domain))], .t (.v (.bool (BU (GI s))))] := rfl
theorem gU {s : ByteArray} {a : Ad} (h : GI s ∧ BK s = a) : T.v (.string a.user) = T.v (.string (BK s).user) := by rw [h.2]
theorem gD {s : ByteArray} {a : Ad} (h : GI s ∧ BK s = a) : T.v (.string a.domain) = T.v (.string (BK s).domain) := by rw [h.2]
theorem gT {s : ByteArray} {a : Ad} (h : GI s ∧ BK s = a) : T.v (.bool true) = T.v (.bool (BU (GI s))) := by rw [Ag h.1]
theorem zA {s : ByteArray} (h : ¬ GI s) : T.v (.string ⟨#[]⟩) = T.v (.string (BK s).user) := by rw [M4 h]
theorem y9 {s : ByteArray} (h : ¬ GI s) : T.v (.string ⟨#[]⟩) = T.v (.string (BK s).domain) := by rw [M4 h]
theorem gF {s : ByteArray} (h : ¬ GI s) : T.v (.bool false) = T.v (.bool (BU (GI s))) := by rw [AO h]
theorem UO (s : ByteArray) : BT (xv s) := .tup _ fun c hc => by
 simp only [List.mem_cons, List.not_mem_nil, or_false] at hc
 rcases hc with rfl | rfl
 ·refine .agg _ fun c hc => ?_
  simp only [List.mem_cons, List.not_mem_nil, or_false] at hc
  rcases hc with rfl | rfl <;> exact .v _
 ·exact .v _
def QE : Ct := An (lc Ce.ag l0) (fun p => p.1.user.size ≤ 2000000 ∧ p.1.domain.size ≤ 2000000) (fun p => .t (.v (.string (Cd p.1))))
section
attribute [local go_sem] Tc
theorem cR {G : Gt} (hG : Aj G) (hh : G.e 62 = AA 0 Tc) : Gd G 126 (AA 0 QE) := by
 refine gr (fn := Tryz.f126) (n := 1) rfl hG ?_
 rintro ⟨a, ⟨⟩⟩ hpre
 simp -implicitDefEqProofs only [Tryz.f126, go_sem, hh, seval] at hpre ⊢
 obtain ⟨h1, h2⟩ := hpre
 have e1 : (#[60] : Array UInt8).size = 1 := rfl
 have e2 : (#[64] : Array UInt8).size = 1 := rfl
 have e3 : (#[62] : Array UInt8).size = 1 := rfl
 with_reducible repeat' (first | apply ai | intro _ | ((first | apply s1 | apply s3 | apply s4) <;> intro hb <;> simp -implicitDefEqProofs only [hb, go_sem, hh, seval] <;> try simp only [qz] at hb))
 all_goals (try simp only [maxLen] at *)
 all_goals first
  | rfl
  | omega
  | (rw [G5 (by assumption)]; done)
  | (rw [NV hb]; done)
  | skip
end
def lJ : Ct := An (lc Ce.ag l0) (fun p => p.1.user.size ≤ 2000000 ∧ p.1.domain.size ≤ 2000000) (fun p => .t (.v (.string (Cd p.1))))
section
attribute [local go_sem] QC
theorem cZ {G : Gt} (hG : Aj G) (hh : G.e 103 = AA 0 QC) : Gd G 139 (AA 0 lJ) := by
 refine gr (fn := Tryz.f139) (n := 1) rfl hG ?_
 rintro ⟨a, ⟨⟩⟩ hpre
 simp -implicitDefEqProofs only [Tryz.f139, go_sem, hh, seval] at hpre ⊢
 obtain ⟨h1, h2⟩ := hpre
 have e1 : (#[60] : Array UInt8).size = 1 := rfl
 have e2 : (#[64] : Array UInt8).size = 1 := rfl
 have e3 : (#[62] : Array UInt8).size = 1 := rfl
 with_reducible repeat' (first | apply ai | intro _ | ((first | apply s1 | apply s3 | apply s4) <;> intro hb <;> simp -implicitDefEqProofs only [hb, go_sem, hh, seval] <;> try simp only [qz] at hb))
 all_goals (try simp only [maxLen] at *)
 all_goals first
  | rfl
  | omega
  | (rw [G5 (by assumption)]; done)
  | (rw [NV hb]; done)
  | skip
end
def VV : Ct := An (lc A0 l0) (fun p => p.1.size ≤ 2000000) (fun p => xv p.1)
section
attribute [local go_sem] VX IA Aa AZ Ab lm RG
set_option maxHeartbeats 2000000 in
theorem dC {G : Gt} (hG : Aj G) (hh : G.e 175 = AA 0 VX ∧ G.e 123 = AA 0 IA) : Gd G 167 (AA 0 VV) := by
 refine gr (fn := Tryz.f167) (n := 1) rfl hG ?_ (hs := fun _ _ => UO _)
 rintro ⟨s, ⟨⟩⟩ hpre
 simp -implicitDefEqProofs only [Tryz.f167, go_sem, hh, seval] at hpre ⊢
 with_reducible repeat' (first | apply ai | intro _ | ((first | apply s1 | apply s3 | apply s4) <;> intro hb <;> simp -implicitDefEqProofs only [hb, go_sem, hh, seval] <;> try simp only [qz] at hb))
 all_goals (try simp only [maxLen, u64, zI, zJ, zL, zM, tn] at *)
 all_goals first
  | with_reducible rfl
  | omega
  | decide
  | (show AT _ = true; rfl)
  | with_reducible assumption
  | with_reducible exact zA (YO (by with_reducible assumption) (by first | exact .inl (by with_reducible assumption) | exact .inr (.inl (by with_reducible assumption)) | exact .inr (.inr (.inl (by with_reducible assumption))) | exact .inr (.inr (.inr (.inl (by with_reducible assumption)))) | exact .inr (.inr (.inr (.inr (by with_reducible assumption))))))
  | with_reducible exact y9 (YO (by with_reducible assumption) (by first | exact .inl (by with_reducible assumption) | exact .inr (.inl (by with_reducible assumption)) | exact .inr (.inr (.inl (by with_reducible assumption))) | exact .inr (.inr (.inr (.inl (by with_reducible assumption)))) | exact .inr (.inr (.inr (.inr (by with_reducible assumption))))))
  | with_reducible exact gF (YO (by with_reducible assumption) (by first | exact .inl (by with_reducible assumption) | exact .inr (.inl (by with_reducible assumption)) | exact .inr (.inr (.inl (by with_reducible assumption))) | exact .inr (.inr (.inr (.inl (by with_reducible assumption)))) | exact .inr (.inr (.inr (.inr (by with_reducible assumption))))))
  | with_reducible exact gU (YN (by omega) (by with_reducible assumption) (by with_reducible assumption) (by omega) (by with_reducible assumption))
  | with_reducible exact gD (YN (by omega) (by with_reducible assumption) (by with_reducible assumption) (by omega) (by with_reducible assumption))
  | with_reducible exact gT (YN (by omega) (by with_reducible assumption) (by with_reducible assumption) (by omega) (by with_reducible assumption))
  | (subst hb; with_reducible exact gU NY)
  | (subst hb; with_reducible exact gD NY)
  | (subst hb; with_reducible exact gT NY)
  | skip
end
def p9 : ByteArray := ⟨#[72, 111, 112, 58, 32]⟩
def Ur (s : ByteArray) : Prop := sD s p9 ∧ D4 (s.extract 5 s.size)
theorem jt {s : ByteArray} (h : D4 s) : ¬ s.size = 0 := fun q => by
 rw [jT q] at h
 have := (h.1 ⟨#[]⟩ (by simp [Cp, Ar, bl, mB])).2.1
 exact absurd this (by decide)
theorem sa {s : ByteArray} : Ur s ↔ 5 < s.size ∧ s.extract 0 5 = p9 ∧ D4 (s.extract 5 s.size) := by
 have e : p9.size = 5 := rfl
 unfold Ur sD
 rw [e]
 constructor
 ·rintro ⟨⟨h1, h2⟩, h3⟩
  refine ⟨?_, h2, h3⟩
  have := jt h3
  rw [ByteArray.size_extract] at this
  omega
 ·rintro ⟨h1, h2, h3⟩
  exact ⟨⟨by omega, h2⟩, h3⟩
noncomputable def D2 : List ByteArray → Nat
 | [] => 0
 | x :: r => bif BU (Ur x) then D2 r + 1 else 0
theorem XE {xs : List ByteArray} {i : Nat} (h : i < xs.length) (ha : Ur (xs.getD i default)) : D2 (xs.drop i) = D2 (xs.drop (i + 1)) + 1 := by
 rw [Ac h, D2, Ag ha]; rfl
theorem eU {xs : List ByteArray} {i : Nat} (h : i < xs.length) (ha : ¬ Ur (xs.getD i default)) : D2 (xs.drop i) = 0 := by
 rw [Ac h, D2, AO ha]; rfl
theorem XD {xs : List ByteArray} {i : Nat} (h : xs.length ≤ i) : D2 (xs.drop i) = 0 := by
 rw [List.drop_eq_nil_of_le h, D2]
abbrev zB : ByteArray := ⟨#[110, 111, 116, 32, 100, 101, 108, 105, 118, 101, 114, 101, 100, 58]⟩
def wT (xs : List ByteArray) : Prop := D2 xs + 1 < xs.length ∧ xs.getD (D2 xs) default = zB
def wS (xs : List ByteArray) : Prop := wT xs ∧ GI (xs.getD (D2 xs + 1) default) ∧ ¬ AU (BK (xs.getD (D2 xs + 1) default))
open Classical in
noncomputable def vz (xs : List ByteArray) : ByteArray := if wS xs then xs.getD (D2 xs + 1) default else ⟨#[]⟩
theorem r7 {xs : List ByteArray} (h : wS xs) : vz xs = xs.getD (D2 xs + 1) default := if_pos h
theorem hW {xs : List ByteArray} (h : wS xs) : T.v (.string (xs.getD (D2 xs + 1) default)) = T.v (.string (vz xs)) := by rw [r7 h]
def lZ : Ct := An (lc Al.asl l0) (fun p => True) (fun p => .t (.v (.int .i64 (D2 p.1))))
section
attribute [local go_sem] Mk lm Aa AZ
theorem dB {G : Gt} (hG : Aj G) (hh : G.e 143 = AA 0 Mk) : Gd G 166 (AA 0 lZ) := by
 refine gr (fn := Tryz.f166) (n := 1) rfl hG ?_
 rintro ⟨xs, ⟨⟩⟩ hpre
 simp -implicitDefEqProofs only [Tryz.f166, go_sem, hh, seval] at hpre ⊢
 refine AF [] (ι := {i : Nat // i ≤ xs.length ∧ D2 xs = i + D2 (xs.drop i)}) (fun p => ⟨[(0, .t (.sl 1 (xs.map AH))), (3, .t (.v (.int .i64 p.1)))], []⟩) (fun p => xs.length - p.1) ⟨0, by simp, by simp⟩ rfl ?_ ?_
 ·simp -implicitDefEqProofs only [go_sem, hh, seval]
  try simp
 ·rintro ⟨i, hi, hix⟩
  by_cases hlt : (i : Int) < xs.length
  ·simp -implicitDefEqProofs only [hlt, decide_true, tn, go_sem, hh, seval]
   with_reducible repeat' (first | apply ai | intro _ | ((first | apply s1 | apply s3 | apply s4) <;> intro hb <;> simp -implicitDefEqProofs only [hb, go_sem, hh, seval] <;> try simp only [qz] at hb))
   all_goals (try simp only [maxLen, tn] at *)
   all_goals first
    | rfl
    | omega
    | (rw [hix, eU (by omega) (fun h => by have h := sa.1 h; first | exact absurd h.2.2 (by assumption) | exact absurd h.2.1 (by assumption) | omega)]; simp; done)
    | (refine ⟨⟨i + 1, by omega, by rw [hix, XE (by omega) (sa.2 ⟨by omega, by assumption, by assumption⟩)]; omega⟩, by dsimp only; omega, ?_⟩
       simp -implicitDefEqProofs only [go_sem, hh, seval]
       try simp
       done)
    | skip
  ·simp -implicitDefEqProofs only [hlt, decide_false, go_sem, hh, seval]
   with_reducible repeat' (first | apply ai | intro _ | ((first | apply s1 | apply s3 | apply s4) <;> intro hb <;> simp -implicitDefEqProofs only [hb, go_sem, hh, seval] <;> try simp only [qz] at hb))
   all_goals first | rfl | omega | (rw [hix, XD (by omega)]; simp; done) | skip
end
theorem OK {x : Im} {a : Ad} (h : Br x.body = ⟨#[]⟩) : A3 x a = ⟨⟨⟨#[]⟩, ⟨#[]⟩⟩, [x.frm], [wJ, Cd a]⟩ := by unfold A3; rw [if_pos h]
theorem OL {x : Im} {a : Ad} (h : ¬ Br x.body = ⟨#[]⟩) : A3 x a = ⟨⟨⟨#[]⟩, ⟨#[]⟩⟩, [x.frm], [wJ, Cd a, Br x.body]⟩ := by unfold A3; rw [if_neg h]
theorem P9 {x : Im} {a : Ad} : (A3 x a).body.length ≤ 3 := by
 unfold A3
 split <;> simp
theorem If {x : Im} {a : Ad} (hox : D0 x) (ha : BL a) : Ji (A3 x a) := by
 refine ⟨⟨by show 0 ≤ 1048576; decide, by show 0 ≤ 1048576; decide⟩, ⟨by show ((1 : Nat) : Int) ≤ 1048576; decide, fun b hb => by rw [List.mem_singleton.1 hb]; exact hox.1⟩, ⟨by have := P9 (x := x) (a := a); omega, fun s hs => ?_⟩⟩
 unfold A3 at hs
 rcases List.mem_cons.1 hs with e | hs
 ·rw [e]; show 14 ≤ 1048576; decide
 ·rcases List.mem_cons.1 hs with e | hs
  ·rw [e]
   have := (PN (.inl ha)).2
   show (Cd a).size ≤ 1048576
   omega
  ·split at hs
   ·cases hs
   ·rename_i q
    rw [List.mem_singleton.1 hs]
    exact hox.2.2.2 _ ((Fd x.body).resolve_left q)
theorem SX {α : Type} {xs : List α} {i j : Nat} {y : α} (h : y ∈ xs.take i ++ xs.drop j) : y ∈ xs := by
 rcases List.mem_append.1 h with h | h
 ·exact List.mem_of_mem_take h
 ·exact List.mem_of_mem_drop h
theorem MU {α : Type} {p : α → Prop} {xs ys : List α} (h : GH p xs) (hl : ys.length ≤ xs.length) (hs : ∀ y ∈ ys, p y) : GH p ys := ⟨by have := h.1; omega, hs⟩
theorem Mx {s : Sp} {i k : Nat} (h : EF s) (hi : i < s.items.length) : EF (B7 s i k) := by
 have h' : GH D0 s.items := h
 show GH D0 (Nn s.items i k)
 have hx := h'.at hi
 have hx2 : D0 (GM (s.items.getD i default) k) := ⟨hx.1, MU hx.2.1 (by simp [GM]; omega) (fun y hy => hx.2.1.2 y (SX hy)), hx.2.2⟩
 unfold Nn
 split
 ·exact MU h' (by simp; omega) fun y hy => h'.2 y (SX hy)
 ·refine MU h' (by simp; omega) fun y hy => ?_
  rcases List.mem_append.1 hy with hy | hy
  ·exact h'.2 y (List.mem_of_mem_take hy)
  ·rcases List.mem_cons.1 hy with e | hy
   ·rw [e]; exact hx2
   ·exact h'.2 y (List.mem_of_mem_drop hy)
def lO : Ct := An (lc EL.ag (lc Ce.ag l0)) (fun p => p.2.1.user.size ≤ 2000000 ∧ p.2.1.domain.size ≤ 2000000) (fun p => Q7 (A3 p.1 p.2.1))
section
attribute [local go_sem] QE au lm List.length_append List.length_cons List.length_nil List.map_append List.map_nil Nat.zero_add List.nil_append AS.opn AS.cls AS.nilb AS.renb AS.up Bool.not_false Bool.not_true List.set_set List.set_cons_zero List.set_cons_succ List.set_nil List.mem_singleton forall_eq
set_option maxHeartbeats 800000 in
theorem cl {G : Gt} (hG : Aj G) (hh : G.e 126 = AA 0 QE ∧ G.e 61 = AA 0 au) : Gd G 149 (AA 0 lO) := by
 refine gr (fn := Tryz.f149) (n := 2) rfl hG ?_ (hs := fun _ p => Gz _)
 rintro ⟨x, a, ⟨⟩⟩ hpre
 obtain ⟨h1, h2'⟩ := hpre
 dsimp only at h1 h2' ⊢
 by_cases hm : Br x.body = ⟨#[]⟩
 ·rw [OK hm]
  have dm := decide_eq_true hm
  simp -implicitDefEqProofs only [Tryz.f149, dm, go_sem, hh, seval]
  with_reducible repeat' (first | apply ai | intro _ | ((first | apply s1 | apply s3 | apply s4) <;> intro hb <;> simp -implicitDefEqProofs only [hb, go_sem, hh, seval] <;> try simp only [qz] at hb))
  all_goals (try simp only [maxLen] at *)
  all_goals first | with_reducible assumption | rfl | omega | contradiction | decide | (simp; done) | skip
 ·rw [OL hm]
  have dm := decide_eq_false hm
  simp -implicitDefEqProofs only [Tryz.f149, dm, go_sem, hh, seval]
  with_reducible repeat' (first | apply ai | intro _ | ((first | apply s1 | apply s3 | apply s4) <;> intro hb <;> simp -implicitDefEqProofs only [hb, go_sem, hh, seval] <;> try simp only [qz] at hb))
  all_goals (try simp only [maxLen] at *)
  all_goals first | with_reducible assumption | rfl | omega | contradiction | decide | (simp; done) | skip
end
open Classical in
noncomputable def Uj (x : Im) (a : Ad) : Ml × Bool := if ¬ AU x.frm ∧ BL a ∧ Co x then (A3 x a, true) else (⟨⟨⟨#[]⟩, ⟨#[]⟩⟩, [], []⟩, false)
theorem RX {x : Im} {a : Ad} (h : ¬ AU x.frm ∧ BL a ∧ Co x) : Uj x a = (A3 x a, true) := if_pos h
theorem RW {x : Im} {a : Ad} (h : ¬ (¬ AU x.frm ∧ BL a ∧ Co x)) : Uj x a = (⟨⟨⟨#[]⟩, ⟨#[]⟩⟩, [], []⟩, false) := if_neg h
def So (p : Ml × Bool) : AV := .tup [Q7 p.1, .t (.v (.bool p.2))]
theorem PH (p : Ml × Bool) : BT (So p) := .tup _ fun c hc => by
 simp only [List.mem_cons, List.not_mem_nil, or_false] at hc
 rcases hc with rfl | rfl
 ·exact Gz _
 ·exact .v _
def xF : Ct := An (lc EL.ag (lc Ce.ag l0)) (fun p => D0 p.1 ∧ FM p.2.1) (fun p => So (Uj p.1 p.2.1))
section
attribute [local go_sem] QC Vg VP lJ tF lm List.length_append List.length_cons List.length_nil List.map_append List.map_nil Nat.zero_add List.nil_append AS.opn AS.cls AS.nilb AS.renb AS.up Bool.not_false Bool.not_true List.set_set List.set_cons_zero List.set_cons_succ List.set_nil List.mem_singleton forall_eq So.eq_1 Aa AZ
set_option maxHeartbeats 1600000 in
theorem pi {G : Gt} (hG : Aj G) (hh : G.e 103 = AA 0 QC ∧ G.e 47 = AA 0 Vg ∧ G.e 102 = AA 0 VP ∧ G.e 139 = AA 0 lJ ∧ G.e 56 = AA 0 tF) : Gd G 83 (AA 0 xF) := by
 refine gr (fn := Tryz.f83) (n := 2) rfl hG ?_ (hs := fun _ p => PH _)
 rintro ⟨x, a, ⟨⟩⟩ hpre
 obtain ⟨hx, ha⟩ := hpre
 dsimp only at hx ha ⊢
 have h1 : a.user.size ≤ 2000000 := by have : a.user.size ≤ 1048576 := ha.1; omega
 have h1' : a.domain.size ≤ 2000000 := by have : a.domain.size ≤ 1048576 := ha.2; omega
 have h2 : ∀ s ∈ x.body, s.size ≤ 2000000 := fun s hs => by have : s.size ≤ 1048576 := hx.2.2.2 s hs; omega
 by_cases q : ¬ AU x.frm ∧ BL a ∧ Co x
 ·rw [RX q]
  obtain ⟨q1, q2, q3⟩ := q
  have b1 := AO q1
  have b2 := Ag q2
  have b3 := Ag q3
  by_cases hm : Br x.body = ⟨#[]⟩
  ·rw [OK hm]
   have dm := decide_eq_true hm
   simp -implicitDefEqProofs only [Tryz.f83, dm, b1, b2, b3, go_sem, hh, seval]
   with_reducible repeat' (first | apply ai | intro _ | ((first | apply s1 | apply s3 | apply s4) <;> intro hb <;> simp -implicitDefEqProofs only [hb, go_sem, hh, seval] <;> try simp only [qz] at hb))
   all_goals (try simp only [maxLen] at *)
   all_goals first | with_reducible assumption | rfl | omega | contradiction | decide | exact h2 _ (by assumption) | (simp; done) | skip
  ·rw [OL hm]
   have dm := decide_eq_false hm
   simp -implicitDefEqProofs only [Tryz.f83, dm, b1, b2, b3, go_sem, hh, seval]
   with_reducible repeat' (first | apply ai | intro _ | ((first | apply s1 | apply s3 | apply s4) <;> intro hb <;> simp -implicitDefEqProofs only [hb, go_sem, hh, seval] <;> try simp only [qz] at hb))
   all_goals (try simp only [maxLen] at *)
   all_goals first | with_reducible assumption | rfl | omega | contradiction | decide | exact h2 _ (by assumption) | (simp; done) | skip
 ·rw [RW q]
  simp -implicitDefEqProofs only [Tryz.f83, go_sem, hh, seval]
  with_reducible repeat' (first | apply ai | intro _ | ((first | apply s1 | apply s3 | apply s4) <;> intro hb <;> simp -implicitDefEqProofs only [hb, go_sem, hh, seval] <;> try simp only [qz] at hb))
  all_goals (try simp only [maxLen, Aa, AZ] at *)
  all_goals first | with_reducible assumption | omega | contradiction | decide | exact h2 _ (by assumption) | exact absurd ⟨by assumption, by assumption, by assumption⟩ q | rfl | (simp; done) | skip
end
def xJ : Ct := An (lc FH.ag (lc A6 (lc A6 (lc A6 l0)))) (fun p => ET p.1 ∧ BI p.1.spool ∧ (0 ≤ p.2.1 ∧ p.2.1 < p.1.spool.items.length) ∧ (0 ≤ p.2.2.1 ∧ p.2.2.1 < (p.1.spool.items.getD p.2.1.toNat default).to.length)) (fun p => .agg ((Ao (EH p.1 (p.1.spool.items.getD p.2.1.toNat default) ((p.1.spool.items.getD p.2.1.toNat default).to.getD p.2.2.1.toNat default).addr p.2.1.toNat p.2.2.1.toNat p.2.2.2.1)).map .t))
section
attribute [local go_sem] mj Tc J5 au lO QG IX IH List.take_length List.drop_zero List.length_take List.length_drop lm List.length_append List.length_cons List.length_nil List.map_append List.map_nil List.map_cons List.nil_append Nat.zero_add List.mem_singleton forall_eq Bool.not_true Bool.not_false Aa AZ AS.opn AS.cls AS.nilb AS.renb AS.up List.set_set List.set_cons_zero List.set_cons_succ List.set_nil
set_option maxHeartbeats 3200000 in
theorem py {G : Gt} (hG : Aj G) (hh : G.e 92 = AA 1 mj ∧ G.e 62 = AA 0 Tc ∧ G.e 147 = AA 0 J5 ∧ G.e 61 = AA 0 au ∧ G.e 149 = AA 0 lO ∧ G.e 148 = AA 1 QG) : Gd G 94 (AA 1 xJ) := by
 refine LQ (dp := fun n => Nat.ble 100000 n) (fn := Tryz.f94) (n := 4) rfl hG ?_
 rintro ⟨h, i, k, w, ⟨⟩⟩ hpre
 obtain ⟨hok, hsp, ⟨hi0, hi1⟩, ⟨hk0, hk1⟩⟩ := hpre
 dsimp only at hok hsp hi0 hi1 hk0 hk1 ⊢
 obtain ⟨ni, rfl⟩ := Int.eq_ofNat_of_zero_le hi0
 obtain ⟨nk, rfl⟩ := Int.eq_ofNat_of_zero_le hk0
 simp only [tn] at *
 have hi2 : ni < h.spool.items.length := by omega
 have hk2 : nk < (h.spool.items.getD ni default).to.length := by omega
 have hsd := De hsp hi2 hk2
 have hos := hok.2.1
 have hod := Mx (k := nk) hos hi2
 have hll := hok.2.2.2.1
 have hx := hsp.1 _ (AE hi2)
 have hox := hos.2 _ (AE hi2)
 have hoa := hox.2.1.2 _ (AE hk2)
 have hau : ((h.spool.items.getD ni default).to.getD nk default).addr.user.size ≤ 2000000 := by have : ((h.spool.items.getD ni default).to.getD nk default).addr.user.size ≤ 1048576 := hoa.1; omega
 have had : ((h.spool.items.getD ni default).to.getD nk default).addr.domain.size ≤ 2000000 := by have : ((h.spool.items.getD ni default).to.getD nk default).addr.domain.size ≤ 1048576 := hoa.2; omega
 have hob : Ji (A3 (h.spool.items.getD ni default) ((h.spool.items.getD ni default).to.getD nk default).addr) := If hox (hx.1.1 _ (AE hk2)).1
 by_cases q : AU (h.spool.items.getD ni default).frm ∨ ¬ Bm (B7 h.spool ni nk)
 ·rw [KH q]
  by_cases q1 : AU (h.spool.items.getD ni default).frm
  ·have b1 := Ag q1
   simp -implicitDefEqProofs only [Tryz.f94, b1, tn, go_sem, hh, seval]
   with_reducible repeat' (first | apply ai | intro _ | ((first | apply s1 | apply s3 | apply s4) <;> intro hb <;> simp -implicitDefEqProofs only [hb, go_sem, hh, seval] <;> try simp only [qz] at hb))
   all_goals (try simp only [maxLen] at *)
   all_goals first | with_reducible assumption | rfl | omega | contradiction | decide | (simp; done) | skip
  ·have b1 := AO q1
   have b2 := AO (q.resolve_left q1)
   simp -implicitDefEqProofs only [Tryz.f94, b1, b2, tn, go_sem, hh, seval]
   with_reducible repeat' (first | apply ai | intro _ | ((first | apply s1 | apply s3 | apply s4) <;> intro hb <;> simp -implicitDefEqProofs only [hb, go_sem, hh, seval] <;> try simp only [qz] at hb))
   all_goals (try simp only [maxLen] at *)
   all_goals first | with_reducible assumption | rfl | omega | contradiction | decide | (simp; done) | skip
 ·rw [M5 q]
  have q1 : ¬ AU (h.spool.items.getD ni default).frm := fun z => q (.inl z)
  have q2 : Bm (B7 h.spool ni nk) := Classical.byContradiction fun z => q (.inr z)
  have b1 := AO q1
  have b2 := Ag q2
  simp -implicitDefEqProofs only [Tryz.f94, b1, b2, tn, go_sem, hh, seval]
  with_reducible repeat' (first | apply ai | intro _ | ((first | apply s1 | apply s3 | apply s4) <;> intro hb <;> simp -implicitDefEqProofs only [hb, go_sem, hh, seval] <;> try simp only [qz] at hb))
  all_goals (try simp only [maxLen] at *)
  all_goals first | with_reducible assumption | rfl | omega | contradiction | decide | skip
end
def ar : Ct := An (lc FH.ag (lc A6 (lc Ce.ag (lc A6 (lc A6 l0))))) (fun p => EF p.1.spool ∧ BI p.1.spool ∧ ¬ Ai p.1.spool p.2.1 < 0 ∧ ¬ Aw (AM p.1.spool p.2.1) p.2.2.1 < 0 ∧ (p.2.2.2.1 = 2 ∨ (ET p.1 ∧ 0 ≤ p.2.2.2.2.1 ∧ p.2.2.2.2.1 ≤ 9999))) (fun p => .agg ((Ao (Bk p.1 (Ai p.1.spool p.2.1).toNat (Aw (AM p.1.spool p.2.1) p.2.2.1).toNat p.2.2.1 p.2.2.2.1 p.2.2.2.2.1)).map .t))
section
attribute [local go_sem] aq tD mj tL xJ IX IH List.take_length List.drop_zero List.length_take List.length_drop lm List.length_append List.length_cons List.length_nil List.map_append List.map_nil List.map_cons List.nil_append Nat.zero_add List.mem_singleton forall_eq Bool.not_true Bool.not_false ff AS.opn AS.cls AS.nilb AS.renb AS.up List.set_set List.set_cons_zero List.set_cons_succ List.set_nil
set_option maxHeartbeats 3200000 in
theorem oz {G : Gt} (hG : Aj G) (hh : G.e 34 = AA 0 aq ∧ G.e 35 = AA 0 tD ∧ G.e 92 = AA 1 mj ∧ G.e 93 = AA 1 tL ∧ G.e 94 = AA 1 xJ) : Gd G 37 (AA 1 ar) := by
 refine LQ (dp := fun n => Nat.ble 100000 n) (fn := Tryz.f37) (n := 5) rfl hG ?_
 rintro ⟨h, n, a, out, w, ⟨⟩⟩ hpre
 obtain ⟨hos, hsp, hi, hk, hw'⟩ := hpre
 dsimp only at hos hsp hi hk hw' ⊢
 have hi' : ¬ (A4 (fun x : Im => x.id = n) 0 h.spool.items) < 0 := hi
 obtain ⟨i0, i1⟩ := BS hi
 have i0' : 0 ≤ (A4 (fun x : Im => x.id = n) 0 h.spool.items) := i0
 have i1' : (A4 (fun x : Im => x.id = n) 0 h.spool.items) < h.spool.items.length := i1
 have hk' : ¬ (A4 (fun r : Rc => r.addr = a) 0 (h.spool.items.getD (A4 (fun x : Im => x.id = n) 0 h.spool.items).toNat default).to) < 0 := hk
 obtain ⟨k0, k1⟩ := C3 hk
 have k0' : 0 ≤ (A4 (fun r : Rc => r.addr = a) 0 (h.spool.items.getD (A4 (fun x : Im => x.id = n) 0 h.spool.items).toNat default).to) := k0
 have k1' : (A4 (fun r : Rc => r.addr = a) 0 (h.spool.items.getD (A4 (fun x : Im => x.id = n) 0 h.spool.items).toNat default).to) < (h.spool.items.getD (A4 (fun x : Im => x.id = n) 0 h.spool.items).toNat default).to.length := k1
 have hadr : ((h.spool.items.getD (A4 (fun x : Im => x.id = n) 0 h.spool.items).toNat default).to.getD (A4 (fun r : Rc => r.addr = a) 0 (h.spool.items.getD (A4 (fun x : Im => x.id = n) 0 h.spool.items).toNat default).to).toNat default).addr = a := Dc hk
 obtain ⟨R, hR⟩ : ∃ x, x = Bk h (Ai h.spool n).toNat (Aw (AM h.spool n) a).toNat a out w := ⟨_, rfl⟩
 rw [← hR]
 by_cases o2 : out = 2
 ·have hR2 : R = ⟨h.conf, B7 h.spool (A4 (fun x : Im => x.id = n) 0 h.spool.items).toNat (A4 (fun r : Rc => r.addr = a) 0 (h.spool.items.getD (A4 (fun x : Im => x.id = n) 0 h.spool.items).toNat default).to).toNat, h.boxes, h.lost⟩ := by rw [hR]; unfold Bk; rw [if_pos o2]; rfl
  rw [hR2]
  have d2 := decide_eq_true o2
  simp -implicitDefEqProofs only [Tryz.f37, d2, go_sem, hh, seval]
  with_reducible repeat' (first | apply ai | intro _ | ((first | apply s1 | apply s3 | apply s4) <;> intro hb <;> simp -implicitDefEqProofs only [hb, go_sem, hh, seval] <;> try simp only [qz] at hb))
  all_goals first | with_reducible assumption | rfl | omega | contradiction | decide | skip
 ·have d2 := decide_eq_false o2
  obtain ⟨hok, hw⟩ := hw'.resolve_left o2
  by_cases o3 : out = 3
  ·have d3 := decide_eq_true o3
   by_cases hl : LT ((h.spool.items.getD (A4 (fun x : Im => x.id = n) 0 h.spool.items).toNat default).to.getD (A4 (fun r : Rc => r.addr = a) 0 (h.spool.items.getD (A4 (fun x : Im => x.id = n) 0 h.spool.items).toNat default).to).toNat default) w
   ·have hR2 : R = EH h (h.spool.items.getD (A4 (fun x : Im => x.id = n) 0 h.spool.items).toNat default) ((h.spool.items.getD (A4 (fun x : Im => x.id = n) 0 h.spool.items).toNat default).to.getD (A4 (fun r : Rc => r.addr = a) 0 (h.spool.items.getD (A4 (fun x : Im => x.id = n) 0 h.spool.items).toNat default).to).toNat default).addr (A4 (fun x : Im => x.id = n) 0 h.spool.items).toNat (A4 (fun r : Rc => r.addr = a) 0 (h.spool.items.getD (A4 (fun x : Im => x.id = n) 0 h.spool.items).toNat default).to).toNat w := by
      rw [hR, hadr]; unfold Bk
      rw [if_neg o2, if_neg (fun z => z.2 hl)]; rfl
    have hS : FE h.spool (A4 (fun x : Im => x.id = n) 0 h.spool.items).toNat (A4 (fun r : Rc => r.addr = a) 0 (h.spool.items.getD (A4 (fun x : Im => x.id = n) 0 h.spool.items).toNat default).to).toNat w = (h.spool, false) := by unfold FE; rw [if_pos hl]
    rw [hR2]
    simp -implicitDefEqProofs only [Tryz.f37, d2, d3, hS, go_sem, hh, seval]
    with_reducible repeat' (first | apply ai | intro _ | ((first | apply s1 | apply s3 | apply s4) <;> intro hb <;> simp -implicitDefEqProofs only [hb, go_sem, hh, seval] <;> try simp only [qz] at hb))
    all_goals first | with_reducible assumption | rfl | omega | contradiction | decide | skip
   ·have hR2 : R = ⟨h.conf, KZ h.spool (A4 (fun x : Im => x.id = n) 0 h.spool.items).toNat (A4 (fun r : Rc => r.addr = a) 0 (h.spool.items.getD (A4 (fun x : Im => x.id = n) 0 h.spool.items).toNat default).to).toNat w, h.boxes, h.lost⟩ := by
      rw [hR]; unfold Bk
      rw [if_neg o2, if_pos ⟨o3, hl⟩]; rfl
    have hS : FE h.spool (A4 (fun x : Im => x.id = n) 0 h.spool.items).toNat (A4 (fun r : Rc => r.addr = a) 0 (h.spool.items.getD (A4 (fun x : Im => x.id = n) 0 h.spool.items).toNat default).to).toNat w = (KZ h.spool (A4 (fun x : Im => x.id = n) 0 h.spool.items).toNat (A4 (fun r : Rc => r.addr = a) 0 (h.spool.items.getD (A4 (fun x : Im => x.id = n) 0 h.spool.items).toNat default).to).toNat w, true) := by unfold FE; rw [if_neg hl]
    rw [hR2]
    simp -implicitDefEqProofs only [Tryz.f37, d2, d3, hS, go_sem, hh, seval]
    with_reducible repeat' (first | apply ai | intro _ | ((first | apply s1 | apply s3 | apply s4) <;> intro hb <;> simp -implicitDefEqProofs only [hb, go_sem, hh, seval] <;> try simp only [qz] at hb))
    all_goals first | with_reducible assumption | rfl | omega | contradiction | decide | skip
  ·have d3 := decide_eq_false o3
   have hR2 : R = EH h (h.spool.items.getD (A4 (fun x : Im => x.id = n) 0 h.spool.items).toNat default) ((h.spool.items.getD (A4 (fun x : Im => x.id = n) 0 h.spool.items).toNat default).to.getD (A4 (fun r : Rc => r.addr = a) 0 (h.spool.items.getD (A4 (fun x : Im => x.id = n) 0 h.spool.items).toNat default).to).toNat default).addr (A4 (fun x : Im => x.id = n) 0 h.spool.items).toNat (A4 (fun r : Rc => r.addr = a) 0 (h.spool.items.getD (A4 (fun x : Im => x.id = n) 0 h.spool.items).toNat default).to).toNat w := by
    rw [hR, hadr]; unfold Bk
    rw [if_neg o2, if_neg (fun z => o3 z.1)]; rfl
   rw [hR2]
   simp -implicitDefEqProofs only [Tryz.f37, d2, d3, go_sem, hh, seval]
   with_reducible repeat' (first | apply ai | intro _ | ((first | apply s1 | apply s3 | apply s4) <;> intro hb <;> simp -implicitDefEqProofs only [hb, go_sem, hh, seval] <;> try simp only [qz] at hb))
   all_goals first | with_reducible assumption | rfl | omega | contradiction | decide | skip
end
def c8 : Ct := An (lc FH.ag (lc A6 (lc Ce.ag (lc A6 (lc A6 l0))))) (fun p => ET p.1) (fun p => RI (MS p.1 p.2.1 p.2.2.1 p.2.2.2.1 p.2.2.2.2.1))
section
attribute [local go_sem] sI sJ aq tD J6 ar IX IH List.take_length List.drop_zero List.length_take List.length_drop lm List.length_append List.length_cons List.length_nil List.map_append List.map_nil List.map_cons List.nil_append Nat.zero_add List.mem_singleton forall_eq Bool.not_true Bool.not_false RI Qu Aa AZ AS.opn AS.cls AS.nilb AS.renb AS.up List.set_set List.set_cons_zero List.set_cons_succ List.set_nil
set_option maxHeartbeats 3200000 in
theorem uL {G : Gt} (hG : Aj G) (hh : G.e 32 = AA 0 sI ∧ G.e 33 = AA 0 sJ ∧ G.e 34 = AA 0 aq ∧ G.e 35 = AA 0 tD ∧ G.e 36 = AA 0 J6 ∧ G.e 37 = AA 1 ar) : Gd G 8 (AA 1 c8) := by
 refine LQ (dp := fun n => Nat.ble 100000 n) (fn := Tryz.f8) (n := 5) rfl hG ?_
 rintro ⟨h, n, a, out, w, ⟨⟩⟩ hpre
 have hok : ET h := hpre
 dsimp only
 by_cases q : Dz h
 ·have b1 := Ag q
  have hsp := q.2.2
  by_cases z : N1 h n a out w
  ·rw [Pp q z]
   obtain ⟨hi, hk, zo, zw⟩ := z
   have hi' : ¬ (A4 (fun x : Im => x.id = n) 0 h.spool.items) < 0 := hi
   obtain ⟨i0, i1⟩ := BS hi
   have i0' : 0 ≤ (A4 (fun x : Im => x.id = n) 0 h.spool.items) := i0
   have i1' : (A4 (fun x : Im => x.id = n) 0 h.spool.items) < h.spool.items.length := i1
   have hk' : ¬ (A4 (fun r : Rc => r.addr = a) 0 (h.spool.items.getD (A4 (fun x : Im => x.id = n) 0 h.spool.items).toNat default).to) < 0 := hk
   obtain ⟨k0, k1⟩ := C3 hk
   have k0' : 0 ≤ (A4 (fun r : Rc => r.addr = a) 0 (h.spool.items.getD (A4 (fun x : Im => x.id = n) 0 h.spool.items).toNat default).to) := k0
   have k1' : (A4 (fun r : Rc => r.addr = a) 0 (h.spool.items.getD (A4 (fun x : Im => x.id = n) 0 h.spool.items).toNat default).to) < (h.spool.items.getD (A4 (fun x : Im => x.id = n) 0 h.spool.items).toNat default).to.length := k1
   have hadr : ((h.spool.items.getD (A4 (fun x : Im => x.id = n) 0 h.spool.items).toNat default).to.getD (A4 (fun r : Rc => r.addr = a) 0 (h.spool.items.getD (A4 (fun x : Im => x.id = n) 0 h.spool.items).toNat default).to).toNat default).addr = a := Dc hk
   have b2 := Ag zo
   have b3 := Ag zw
   simp -implicitDefEqProofs only [Tryz.f8, b1, b2, b3, hi', hk', decide_false, go_sem, hh, seval]
   with_reducible repeat' (first | apply ai | intro _ | ((first | apply s1 | apply s3 | apply s4) <;> intro hb <;> simp -implicitDefEqProofs only [hb, go_sem, hh, seval] <;> try simp only [qz] at hb))
   all_goals first | with_reducible assumption | rfl | omega | contradiction | decide | exact hok.2.1 | exact .inr ⟨hok, by assumption⟩ | skip
  ·rw [Hx q z]
   by_cases hi : Ai h.spool n < 0
   ·have hi' : (A4 (fun x : Im => x.id = n) 0 h.spool.items) < 0 := hi
    simp -implicitDefEqProofs only [Tryz.f8, b1, hi', decide_true, go_sem, hh, seval]
    with_reducible repeat' (first | apply ai | intro _ | ((first | apply s1 | apply s3 | apply s4) <;> intro hb <;> simp -implicitDefEqProofs only [hb, go_sem, hh, seval] <;> try simp only [qz] at hb))
    all_goals first | with_reducible assumption | rfl | omega | contradiction | decide | exact hok.2.1 | exact .inr ⟨hok, by assumption⟩ | skip
   ·have hi' : ¬ (A4 (fun x : Im => x.id = n) 0 h.spool.items) < 0 := hi
    obtain ⟨i0, i1⟩ := BS hi
    have i0' : 0 ≤ (A4 (fun x : Im => x.id = n) 0 h.spool.items) := i0
    have i1' : (A4 (fun x : Im => x.id = n) 0 h.spool.items) < h.spool.items.length := i1
    by_cases hk : Aw (AM h.spool n) a < 0
    ·have hk' : (A4 (fun r : Rc => r.addr = a) 0 (h.spool.items.getD (A4 (fun x : Im => x.id = n) 0 h.spool.items).toNat default).to) < 0 := hk
     simp -implicitDefEqProofs only [Tryz.f8, b1, hi', hk', decide_true, decide_false, go_sem, hh, seval]
     with_reducible repeat' (first | apply ai | intro _ | ((first | apply s1 | apply s3 | apply s4) <;> intro hb <;> simp -implicitDefEqProofs only [hb, go_sem, hh, seval] <;> try simp only [qz] at hb))
     all_goals first | with_reducible assumption | rfl | omega | contradiction | decide | exact hok.2.1 | exact .inr ⟨hok, by assumption⟩ | skip
    ·have hk' : ¬ (A4 (fun r : Rc => r.addr = a) 0 (h.spool.items.getD (A4 (fun x : Im => x.id = n) 0 h.spool.items).toNat default).to) < 0 := hk
     by_cases zo : 2 ≤ out ∧ out ≤ 4
     ·have b2 := Ag zo
      have b3 := AO (fun zw => z ⟨hi, hk, zo, zw⟩)
      simp -implicitDefEqProofs only [Tryz.f8, b1, b2, b3, hi', hk', decide_false, go_sem, hh, seval]
      with_reducible repeat' (first | apply ai | intro _ | ((first | apply s1 | apply s3 | apply s4) <;> intro hb <;> simp -implicitDefEqProofs only [hb, go_sem, hh, seval] <;> try simp only [qz] at hb))
      all_goals first | with_reducible assumption | rfl | omega | contradiction | decide | exact hok.2.1 | exact .inr ⟨hok, by assumption⟩ | skip
     ·have b2 := AO zo
      simp -implicitDefEqProofs only [Tryz.f8, b1, b2, hi', hk', decide_false, go_sem, hh, seval]
      with_reducible repeat' (first | apply ai | intro _ | ((first | apply s1 | apply s3 | apply s4) <;> intro hb <;> simp -implicitDefEqProofs only [hb, go_sem, hh, seval] <;> try simp only [qz] at hb))
      all_goals first | with_reducible assumption | rfl | omega | contradiction | decide | exact hok.2.1 | exact .inr ⟨hok, by assumption⟩ | skip
 ·have b1 := AO q
  rw [MT q]
  simp -implicitDefEqProofs only [Tryz.f8, b1, go_sem, hh, seval]
  with_reducible repeat' (first | apply ai | intro _ | ((first | apply s1 | apply s3 | apply s4) <;> intro hb <;> simp -implicitDefEqProofs only [hb, go_sem, hh, seval] <;> try simp only [qz] at hb))
  all_goals first | with_reducible assumption | rfl | omega | contradiction | decide | exact hok.2.1 | exact .inr ⟨hok, by assumption⟩ | skip
end
end Go.V
namespace Go.V
open Go Go.Proofs Go.Shelf Go.RowKit Go.Lib Go.Sort
set_option maxRecDepth 1000000
set_option linter.unusedSimpArgs false
set_option linter.unusedVariables false
end Go.V
namespace Go.V
open Go Go.Proofs
set_option maxRecDepth 100000
set_option linter.unusedSimpArgs false
set_option linter.unusedVariables false
def kS (bs : List Bx) (a : Ad) : Nat := (bs.takeWhile fun b => decide (JP b.addr a < 0)).length
def sc (bs : List Bx) (a : Ad) : Prop := ∀ j, kS bs a ≤ j → j < bs.length → ¬ JP (bs.getD j default).addr a < 0
theorem XQ (a : Ad) : ∀ (bs : List Bx), kS bs a ≤ bs.length
 | [] => by simp [kS]
 | b :: t => by
   have := XQ a t
   unfold kS at this ⊢
   rw [List.takeWhile_cons]
   split
   ·simpa using this
   ·try simp
theorem XR (a : Ad) : ∀ (bs : List Bx) {j : Nat}, j < kS bs a → JP (bs.getD j default).addr a < 0
 | [], j, h => by simp [kS] at h
 | b :: t, j, h => by
   unfold kS at h
   rw [List.takeWhile_cons] at h
   split at h
   ·rename_i hb
    cases j with
    | zero => simpa using hb
    | succ j =>
      have := XR a t (j := j) (by unfold kS; simpa using h)
      simpa using this
   ·simp at h
theorem SP (a : Ad) : ∀ (bs : List Bx), kS bs a < bs.length → ¬ JP (bs.getD (kS bs a) default).addr a < 0
 | [], h => by simp at h
 | b :: t, h => by
   by_cases hb : JP b.addr a < 0
   ·have e : kS (b :: t) a = kS t a + 1 := by unfold kS; rw [List.takeWhile_cons, if_pos (decide_eq_true hb), List.length_cons]
    rw [e] at h ⊢
    have := SP a t (by simpa using h)
    simpa using this
   ·have e : kS (b :: t) a = 0 := by unfold kS; rw [List.takeWhile_cons, if_neg (by simpa using hb)]; rfl
    rw [e]
    simpa using hb
def GN (bs : List Bx) (a : Ad) : Bool := decide (kS bs a < bs.length) && decide (JP (bs.getD (kS bs a) default).addr a = 0)
section
attribute [local go_sem] wD
end
section
attribute [local go_sem] lm
end
def Vj : AV → List AV
 | .agg cs => cs
 | _ => []
def jH : AV → Option Hs
 | .ob cs => YH (.agg cs)
 | _ => none
def Y7 : AD Hs where
 enc a := .ob (Vj (NQ a))
 dec := jH
 ed := fun a => yc.ed a
 de := fun x a h => by
  unfold jH at h
  split at h
  ·rename_i cs
   have h1 : AV.agg cs = NQ a := yc.de _ _ h
   show AV.ob cs = .ob (Vj (NQ a))
   rw [← h1]; rfl
  ·cases h
theorem HB (a : Hs) : Y7.enc a = .ob [.t (.v (.string a.conf.name)), .o true 1 (a.conf.own.map AH), .o true 2 (a.conf.ways.map B2), .t (.v (.int .i64 a.spool.last)), .o true 5 (a.spool.items.map Ah), .o true 3 (a.boxes.map Bn), .o true 3 (a.lost.map Ay)] := rfl
theorem HA {x0 : ByteArray} {x1 : List (List T)} {x2 : List (List T)} {x3 : Int} {x4 : List (List T)} {x5 : List (List T)} {x6 : List (List T)} : Y7.dec (.ob [.t (.v (.string x0)), .o true 1 x1, .o true 2 x2, .t (.v (.int .i64 x3)), .o true 5 x4, .o true 3 x5, .o true 3 x6]) = NB x0 x3 (Al.decL x1) (G7.decL x2) (EL.decL x4) (LZ.decL x5) (FI.decL x6) := rfl
theorem VN (a b : Ad) : JP a b = 0 ↔ a = b := by
 unfold JP
 obtain ⟨u, d⟩ := a
 obtain ⟨v, e⟩ := b
 by_cases h : Ea d e = 0
 ·rw [if_pos h, Gk]
  have := (Gk _ _).1 h
  exact ⟨fun q => by have q : u = v := q; rw [q, this], fun q => by injection q⟩
 ·rw [if_neg h]
  exact ⟨fun q => absurd q h, fun q => by injection q with _ q; exact absurd ((Gk _ _).2 q) h⟩
def EW (bs : List Bx) (a : Ad) (g : Gm) : List Bx :=
 if GN bs a = true then bs.set (kS bs a) ⟨(bs.getD (kS bs a) default).addr, (bs.getD (kS bs a) default).mails ++ [g]⟩
 else bs.take (kS bs a) ++ (⟨a, [g]⟩ :: bs.drop (kS bs a))
theorem HN {bs : List Bx} {a : Ad} {g : Gm} (h : GN bs a = true) : EW bs a g = bs.set (kS bs a) ⟨(bs.getD (kS bs a) default).addr, (bs.getD (kS bs a) default).mails ++ [g]⟩ := if_pos h
theorem Fy {bs : List Bx} {a : Ad} {g : Gm} (h : GN bs a = false) : EW bs a g = bs.take (kS bs a) ++ (⟨a, [g]⟩ :: bs.drop (kS bs a)) := if_neg (by rw [h]; decide)
theorem M3 {bs : List Bx} {a : Ad} (h : GN bs a = true) : kS bs a < bs.length := by
 unfold GN at h
 simp only [Bool.and_eq_true, decide_eq_true_eq] at h
 exact h.1
section
attribute [local go_sem] HB HA Mh J1 A1 lm List.length_append List.length_cons List.length_nil List.map_append List.map_nil Nat.zero_add List.nil_append AS.opn AS.cls AS.nilb AS.renb AS.up Bool.not_false Bool.not_true List.set_set List.set_cons_zero List.set_cons_succ List.set_nil List.mem_singleton forall_eq
end
def Cb (s : Sp) (n : Int) (a : Ad) : Prop := ¬ Ai s n < 0 ∧ ¬ Aw (AM s n) a < 0
theorem HF {s : Sp} {n : Int} {a : Ad} (q : Cb s n a) : ∃ x ∈ s.items, x.id = n ∧ ∃ r ∈ x.to, r.addr = a := by
 have h1 := BS q.1
 have h2 := C3 q.2
 exact ⟨AM s n, AE (by omega), Ey q.1, _, AE (by omega), Dc q.2⟩
theorem SN : ∀ {xs : List Im}, (xs.map Im.id).Pairwise (· < ·) → ∀ {x y : Im}, x ∈ xs → y ∈ xs → x.id = y.id → x = y
 | z :: t, h, x, y, hx, hy, e => by
   rw [List.map_cons, List.pairwise_cons] at h
   rcases List.mem_cons.1 hx with q | q
   ·rcases List.mem_cons.1 hy with r | r
    ·rw [q, r]
    ·have := h.1 _ (List.mem_map_of_mem (f := Im.id) r); rw [q] at e; omega
   ·rcases List.mem_cons.1 hy with r | r
    ·have := h.1 _ (List.mem_map_of_mem (f := Im.id) q); rw [r] at e; omega
    ·exact SN h.2 q r e
theorem Fp {s : Sp} (h : BI s) {x : Im} (hx : x ∈ s.items) {r : Rc} (hr : r ∈ x.to) : Cb s x.id r.addr ∧ AM s x.id = x := by
 have h1 : ¬ Ai s x.id < 0 := by
  have : 0 ≤ Ai s x.id := (D9 s.items 0).2 ⟨x, hx, rfl⟩
  omega
 have h2 := BS h1
 have h3 : AM s x.id = x := SN (Ch.1 h.2.1) (AE (by omega)) hx (Ey h1)
 refine ⟨⟨h1, ?_⟩, h3⟩
 rw [h3]
 have : 0 ≤ Aw x r.addr := (D9 x.to 0).2 ⟨r, hr, rfl⟩
 omega
theorem Rg {s : Sp} {n n' : Int} {a a' : Ad} (h : BI s) (q : Cb s n a) (q' : Cb s n' a') (ne : ¬ (n = n' ∧ a = a')) : Cb (B7 s (Ai s n).toNat (Aw (AM s n) a).toNat) n' a' := by
 obtain ⟨x, hx, e1, r, hr, e2⟩ := HF q'
 have i1 := BS q.1
 have k1 := C3 q.2
 have ei := Ey q.1
 have ek := Dc q.2
 obtain ⟨i, hi⟩ : ∃ i, i = (Ai s n).toNat := ⟨_, rfl⟩
 obtain ⟨k, hk⟩ : ∃ k, k = (Aw (AM s n) a).toNat := ⟨_, rfl⟩
 have hX : s.items.getD i default = AM s n := by rw [hi]; rfl
 have hil : i < s.items.length := by omega
 have hkl : k < (s.items.getD i default).to.length := by rw [hX]; omega
 rw [← hi, ← hk]
 rw [← hk] at ek
 have hok := De h hil hkl
 suffices hs : ∃ y ∈ (B7 s i k).items, y.id = n' ∧ ∃ r ∈ y.to, r.addr = a' by
  obtain ⟨y, hy, f1, r, hr, f2⟩ := hs
  rw [← f1, ← f2]
  exact (Fp hok hy hr).1
 show ∃ y ∈ Nn s.items i k, y.id = n' ∧ ∃ r ∈ y.to, r.addr = a'
 have hx2 := hx
 rw [QL hil] at hx2
 have hout : x ∈ s.items.take i ++ s.items.drop (i + 1) → ∃ y ∈ Nn s.items i k, y.id = n' ∧ ∃ r ∈ y.to, r.addr = a' := fun hm => by
  refine ⟨x, ?_, e1, r, hr, e2⟩
  unfold Nn
  split
  ·exact hm
  ·rcases List.mem_append.1 hm with hm | hm
   ·exact List.mem_append_left _ hm
   ·exact List.mem_append_right _ (List.mem_cons_of_mem _ hm)
 rcases List.mem_append.1 hx2 with hm | hm
 ·exact hout (List.mem_append_left _ hm)
 ·rcases List.mem_cons.1 hm with hm | hm
  ·rw [hX] at hm
   subst hm
   have hr2 := hr
   rw [QL (xs := (AM s n).to) (i := k) (by rw [← hX]; exact hkl)] at hr2
   have hin : r ∈ (GM (AM s n) k).to := by
    show r ∈ (AM s n).to.take k ++ (AM s n).to.drop (k + 1)
    rcases List.mem_append.1 hr2 with hm | hm
    ·exact List.mem_append_left _ hm
    ·rcases List.mem_cons.1 hm with hm | hm
     ·exact absurd ⟨ei.symm.trans e1, by rw [← e2, hm]; exact ek.symm⟩ ne
     ·exact List.mem_append_right _ hm
   refine ⟨GM (AM s n) k, ?_, e1, r, hin, e2⟩
   unfold Nn
   rw [hX, if_neg (fun e => by rw [e] at hin; cases hin)]
   exact List.mem_append_right _ (by simp)
  ·exact hout (List.mem_append_right _ hm)
theorem JT : ∀ a b : List UInt8, Lib.compareBytes b a = - Lib.compareBytes a b
 | [], [] => by simp [Lib.compareBytes]
 | [], _ :: _ => by simp [Lib.compareBytes]
 | _ :: _, [] => by simp [Lib.compareBytes]
 | a :: x, b :: y => by
   have ih := JT x y
   simp only [Lib.compareBytes]
   by_cases h1 : a < b
   ·have h2 : ¬ b < a := fun h => absurd (UInt8.lt_trans h1 h) (UInt8.lt_irrefl _)
    simp [h1, h2]
   ·by_cases h2 : b < a
    ·simp [h1, h2]
    ·simp [h1, h2, ih]
theorem IF : ∀ a b c : List UInt8, Lib.compareBytes a b < 0 → Lib.compareBytes b c < 0 → Lib.compareBytes a c < 0
 | [], b, [], h1, h2 => by
   have := JT [] b
   rw [this] at h2; omega
 | [], _, _ :: _, _, _ => by simp [Lib.compareBytes]
 | _ :: _, [], _, h1, _ => by simp [Lib.compareBytes] at h1
 | _ :: _, _ :: _, [], _, h2 => by simp [Lib.compareBytes] at h2
 | a :: x, b :: y, c :: z, h1, h2 => by
   have ih := IF x y z
   simp only [Lib.compareBytes] at h1 h2 ⊢
   by_cases e1 : a < b
   ·by_cases e2 : b < c
    ·rw [if_pos (UInt8.lt_trans e1 e2)]; decide
    ·rw [if_neg e2] at h2
     split at h2
     ·omega
     ·have : b = c := UInt8.le_antisymm (UInt8.not_lt.1 (by assumption)) (UInt8.not_lt.1 e2)
      rw [← this, if_pos e1]; decide
   ·rw [if_neg e1] at h1
    split at h1
    ·omega
    ·have e3 : a = b := UInt8.le_antisymm (UInt8.not_lt.1 (by assumption)) (UInt8.not_lt.1 e1)
     subst e3
     split
     ·decide
     ·rename_i q
      rw [if_neg q] at h2
      split at h2
      ·omega
      ·rename_i q2
       rw [if_neg q2]
       exact ih h1 h2
theorem am (a b : Ad) : JP b a = - JP a b := by
 unfold JP Ea
 rw [JT (bl a.domain) (bl b.domain), JT (bl a.user) (bl b.user)]
 by_cases h : Lib.compareBytes (bl a.domain) (bl b.domain) = 0
 ·rw [if_pos h, if_pos (by omega)]
 ·rw [if_neg h, if_neg (by omega)]
theorem Lq {a b c : Ad} (h1 : JP a b < 0) (h2 : JP b c < 0) : JP a c < 0 := by
 unfold JP at *
 by_cases e1 : Ea a.domain b.domain = 0
 ·have f1 := (Gk _ _).1 e1
  rw [if_pos e1] at h1
  rw [f1]
  by_cases e2 : Ea b.domain c.domain = 0
  ·rw [if_pos e2] at h2 ⊢
   exact IF _ _ _ h1 h2
  ·rw [if_neg e2] at h2 ⊢
   exact h2
 ·rw [if_neg e1] at h1
  by_cases e2 : Ea b.domain c.domain = 0
  ·have f2 := (Gk _ _).1 e2
   rw [← f2, if_neg e1]
   exact h1
  ·rw [if_neg e2] at h2
   have h3 : Ea a.domain c.domain < 0 := IF _ _ _ h1 h2
   rw [if_neg (by omega)]
   exact h3
def Jl (bs : List Bx) : Prop := bs.Pairwise fun b c => JP b.addr c.addr < 0
theorem Pr {bs : List Bx} (h : Jl bs) (a : Ad) : sc bs a := fun j h1 h2 hb => by
 have h3 : kS bs a < bs.length := by omega
 have h4 := SP a bs h3
 by_cases e : j = kS bs a
 ·rw [e] at hb; exact h4 hb
 ·have h5 := List.pairwise_iff_getElem.1 h (kS bs a) j h3 h2 (by omega)
  have g1 : bs.getD (kS bs a) default = bs[kS bs a] := by simp [h3]
  have g2 : bs.getD j default = bs[j] := by simp [h2]
  rw [g1] at h4
  rw [g2] at hb
  exact h4 (Lq h5 hb)
theorem J3 {bs : List Bx} {a : Ad} {g : Gm} (h : Jl bs) : Jl (EW bs a g) := by
 cases hf : GN bs a
 ·rw [Fy hf]
  have hp := Pr h a
  have hb : Jl (bs.take (kS bs a) ++ bs.drop (kS bs a)) := by rw [List.take_append_drop]; exact h
  obtain ⟨p1, p2, p3⟩ := List.pairwise_append.1 hb
  have lo : ∀ b ∈ bs.take (kS bs a), JP b.addr a < 0 := fun b hm => by
   obtain ⟨j, hj, rfl⟩ := List.getElem_of_mem hm
   rw [List.length_take] at hj
   have := XR a bs (j := j) (by omega)
   rw [List.getElem_take]
   simpa [show j < bs.length by omega] using this
  have hi : ∀ b ∈ bs.drop (kS bs a), JP a b.addr < 0 := fun b hm => by
   obtain ⟨j, hj, rfl⟩ := List.getElem_of_mem hm
   rw [List.length_drop] at hj
   have hk : kS bs a < bs.length := by omega
   have n1 := hp (kS bs a + j) (by omega) (by omega)
   have g2 : bs.getD (kS bs a + j) default = bs[kS bs a + j] := by simp [show kS bs a + j < bs.length by omega]
   rw [g2] at n1
   rw [List.getElem_drop]
   have n2 := am a (bs[kS bs a + j]).addr
   by_cases z : JP (bs[kS bs a + j]).addr a = 0
   ·exfalso
    by_cases hj0 : j = 0
    ·subst hj0
     unfold GN at hf
     simp only [Bool.and_eq_false_iff, decide_eq_false_iff_not] at hf
     rcases hf with hf | hf
     ·exact hf hk
     ·exact hf (by rw [← z]; simp [hk])
    ·have h5 := List.pairwise_iff_getElem.1 h (kS bs a) (kS bs a + j) hk (by omega) (by omega)
     have e := (VN _ _).1 z
     rw [e] at h5
     have n3 := SP a bs hk
     have g1 : bs.getD (kS bs a) default = bs[kS bs a] := by simp [hk]
     rw [g1] at n3
     exact n3 h5
   ·omega
  exact List.pairwise_append.2 ⟨p1, List.pairwise_cons.2 ⟨hi, p2⟩, fun b hb c hc => by
   rcases List.mem_cons.1 hc with rfl | hc
   ·exact lo b hb
   ·exact p3 b hb c hc⟩
 ·rw [HN hf]
  have hlt := M3 hf
  have h' : (bs.map Bx.addr).Pairwise fun x y => JP x y < 0 := List.pairwise_map.2 h
  have e : (bs.set (kS bs a) ⟨(bs.getD (kS bs a) default).addr, (bs.getD (kS bs a) default).mails ++ [g]⟩).map Bx.addr = bs.map Bx.addr := by
   rw [List.map_set]
   have : (⟨(bs.getD (kS bs a) default).addr, (bs.getD (kS bs a) default).mails ++ [g]⟩ : Bx).addr = (bs.map Bx.addr)[kS bs a]'(by rw [lm]; exact hlt) := by
    rw [List.getElem_map]
    show (bs.getD (kS bs a) default).addr = _
    simp [hlt]
   rw [this, List.set_getElem_self]
  exact List.pairwise_map.1 (e ▸ h')
theorem OE {bs : List Bx} (h : ∀ j, 0 < j → j < bs.length → U7 (bs.getD (j - 1) default).addr (bs.getD j default).addr) : Jl bs := by
 refine List.pairwise_iff_getElem.2 fun i j hi hj hij => ?_
 induction j with
 | zero => omega
 | succ j ih =>
   have h1 := (H7 _ _).2 (h (j + 1) (by omega) hj)
   simp only [Nat.add_sub_cancel, List.getD_eq_getElem?_getD, List.getElem?_eq_getElem hj, List.getElem?_eq_getElem (show j < bs.length by omega), Option.getD_some] at h1
   by_cases e : i = j
   ·subst e; exact h1
   ·exact Lq (ih (by omega) (by omega)) h1
theorem Ln (bs : List Bx) (a : Ad) (g : Gm) : (EW bs a g).length ≤ bs.length + 1 := by
 have := XQ a bs
 cases hf : GN bs a
 ·rw [Fy hf]; simp only [List.length_append, List.length_take, List.length_cons, List.length_drop]; omega
 ·rw [HN hf, List.length_set]; omega
theorem Ig {bs : List Bx} {a : Ad} {g : Gm} {M : Nat} (h : ∀ b ∈ bs, b.mails.length ≤ M) : ∀ b ∈ EW bs a g, b.mails.length ≤ M + 1 := fun b hb => by
 cases hf : GN bs a
 ·rw [Fy hf] at hb
  rcases List.mem_append.1 hb with hb | hb
  ·have := h b (List.mem_of_mem_take hb); omega
  ·rcases List.mem_cons.1 hb with hb | hb
   ·rw [hb]; show 1 ≤ M + 1; omega
   ·have := h b (List.mem_of_mem_drop hb); omega
 ·rw [HN hf] at hb
  rcases List.mem_or_eq_of_mem_set hb with hb | hb
  ·have := h b hb; omega
  ·rw [hb]
   have := h _ (AE (M3 hf))
   show (_ ++ [g]).length ≤ _
   rw [List.length_append, List.length_singleton]; omega
noncomputable def HT (h : Hs) (x : Im) (a : Ad) : Hs := ⟨h.conf, (FB h.spool x.id a).1, EW h.boxes a ⟨x.frm, x.body⟩, h.lost⟩
noncomputable def KT (x : Im) : List Ad → Hs → Hs
 | [], h => h
 | a :: r, h => KT x r (HT h x a)
noncomputable def EA (c : Cf) (w : Int) : List Im → Hs → Hs
 | [], h => h
 | x :: t, h => EA c w t (KT x (BC c ⟨#[]⟩ w x.to) h)
noncomputable def RD (c : Cf) (w : Int) (x : Im) (rs : List Rc) : List (Int × Ad) := (BC c ⟨#[]⟩ w rs).map fun a => (x.id, a)
noncomputable def Ge (c : Cf) (w : Int) : List Im → List (Int × Ad)
 | [] => []
 | x :: t => RD c w x x.to ++ Ge c w t
structure Kp (c : Cf) (g : Hs) (R : List (Int × Ad)) : Prop where
 cf : g.conf = c
 sp : BI g.spool
 os : EF g.spool
 so : Jl g.boxes
 td : ∀ p ∈ R, Cb g.spool p.1 p.2
 nd : R.Nodup
 b1 : g.boxes.length + R.length ≤ 3000000
 b2 : ∀ b ∈ g.boxes, b.mails.length + R.length ≤ 3000000
theorem Kp.done {c : Cf} {g : Hs} {x : Im} {a : Ad} {R : List (Int × Ad)} (h : Kp c g ((x.id, a) :: R)) : FB g.spool x.id a = (B7 g.spool (Ai g.spool x.id).toNat (Aw (AM g.spool x.id) a).toNat, true) :=
 JN h.sp (h.td (x.id, a) (by simp)).1 (h.td (x.id, a) (by simp)).2
theorem Kp.step {c : Cf} {g : Hs} {x : Im} {a : Ad} {R : List (Int × Ad)} (h : Kp c g ((x.id, a) :: R)) : Kp c (HT g x a) R := by
 have q : Cb g.spool x.id a := h.td (x.id, a) (by simp)
 have i1 := BS q.1
 have k1 := C3 q.2
 have hD := h.done
 have hil : (Ai g.spool x.id).toNat < g.spool.items.length := by omega
 have hkl : (Aw (AM g.spool x.id) a).toNat < (g.spool.items.getD (Ai g.spool x.id).toNat default).to.length := by
  show _ < (AM g.spool x.id).to.length
  omega
 have hs : (HT g x a).spool = B7 g.spool (Ai g.spool x.id).toNat (Aw (AM g.spool x.id) a).toNat := by unfold HT; rw [hD]
 have hb1 := h.b1
 rw [List.length_cons] at hb1
 refine ⟨h.cf, by rw [hs]; exact De h.sp hil hkl, by rw [hs]; exact Mx h.os hil, J3 h.so, fun p hp => ?_, (List.nodup_cons.1 h.nd).2, ?_, fun b hb => ?_⟩
 ·rw [hs]
  refine Rg h.sp q (h.td p (List.mem_cons_of_mem _ hp)) fun e => (List.nodup_cons.1 h.nd).1 ?_
  obtain ⟨p1, p2⟩ := p
  rw [e.1, e.2]; exact hp
 ·have := Ln g.boxes a ⟨x.frm, x.body⟩
  show (EW _ _ _).length + _ ≤ _
  omega
 ·have := Ig (M := 3000000 - (R.length + 1)) (g := ⟨x.frm, x.body⟩) (a := a) (fun b hb => by have := h.b2 b hb; rw [List.length_cons] at this; omega) b hb
  omega
theorem vA {c : Cf} {w : Int} {x : Im} {rs : List Rc} {i : Nat} (h : i < rs.length) (hn : I4 c ⟨#[]⟩ w (rs.getD i default)) : RD c w x (rs.drop i) = (x.id, (rs.getD i default).addr) :: RD c w x (rs.drop (i + 1)) := by
 unfold RD; rw [RB h hn]; rfl
theorem u7 {c : Cf} {w : Int} {x : Im} {rs : List Rc} {i : Nat} (h : i < rs.length) (hn : ¬ I4 c ⟨#[]⟩ w (rs.getD i default)) : RD c w x (rs.drop i) = RD c w x (rs.drop (i + 1)) := by
 unfold RD; rw [RA h hn]
theorem fd {c : Cf} {w : Int} {x : Im} {rs : List Rc} {i : Nat} (h : rs.length ≤ i) : RD c w x (rs.drop i) = [] := by
 unfold RD; rw [Kk h]; rfl
theorem TU {c : Cf} {w : Int} {xs : List Im} {i : Nat} (h : i < xs.length) : Ge c w (xs.drop i) = RD c w (xs.getD i default) (xs.getD i default).to ++ Ge c w (xs.drop (i + 1)) := by
 rw [Ac h]; rfl
theorem Qp {c : Cf} {w : Int} {xs : List Im} {i : Nat} {g : Hs} (h : i < xs.length) : EA c w (xs.drop i) g = EA c w (xs.drop (i + 1)) (KT (xs.getD i default) (BC c ⟨#[]⟩ w (xs.getD i default).to) g) := by
 rw [Ac h]; rfl
theorem Kl (c : Cf) (w : Int) : ∀ rs : List Rc, List.Sublist (BC c ⟨#[]⟩ w rs) (rs.map Rc.addr)
 | [] => .slnil
 | r :: t => by
   rw [BC]
   cases BU (I4 c ⟨#[]⟩ w r)
   ·exact .cons _ (Kl c w t)
   ·exact .cons_cons _ (Kl c w t)
theorem Jx {c : Cf} {w : Int} : ∀ {xs : List Im} {p : Int × Ad}, p ∈ Ge c w xs → ∃ x ∈ xs, p.1 = x.id ∧ ∃ r ∈ x.to, r.addr = p.2
 | x :: t, p, h => by
   rw [Ge] at h
   rcases List.mem_append.1 h with h | h
   ·unfold RD at h
    obtain ⟨a, ha, rfl⟩ := List.mem_map.1 h
    obtain ⟨r, hr, e, _⟩ := Ei c ⟨#[]⟩ w _ a ha
    exact ⟨x, by simp, rfl, r, hr, e⟩
   ·obtain ⟨y, hy, q⟩ := Jx h
    exact ⟨y, by simp [hy], q⟩
theorem Jy {c : Cf} {w : Int} : ∀ {xs : List Im}, (xs.map Im.id).Pairwise (· < ·) → (∀ x ∈ xs, (x.to.map Rc.addr).Nodup) → (Ge c w xs).Nodup
 | [], _, _ => List.nodup_nil
 | x :: t, h1, h2 => by
   rw [List.map_cons, List.pairwise_cons] at h1
   rw [Ge]
   refine List.nodup_append.2 ⟨?_, Jy h1.2 fun y hy => h2 y (by simp [hy]), fun p hp q hq e => ?_⟩
   ·unfold RD
    have h3 := (Kl c w x.to).nodup (h2 x (by simp))
    exact List.pairwise_map.2 (h3.imp fun {a b} ne e => ne (by injection e))
   ·subst e
    unfold RD at hp
    obtain ⟨a, _, rfl⟩ := List.mem_map.1 hp
    obtain ⟨y, hy, e, _⟩ := Jx hq
    have := h1.1 y.id (List.mem_map_of_mem hy)
    have e : x.id = y.id := e
    omega
theorem OF {c : Cf} {w : Int} : ∀ {xs : List Im}, (∀ x ∈ xs, x.to.length ≤ 4) → (Ge c w xs).length ≤ 4 * xs.length
 | [], _ => by simp [Ge]
 | x :: t, h => by
   rw [Ge, List.length_append, List.length_cons]
   have h1 := OF (c := c) (w := w) fun y hy => h y (List.mem_cons_of_mem x hy)
   have h2 := Ff c ⟨#[]⟩ w x.to
   have h3 := h x (by simp)
   have h4 : (RD c w x x.to).length = (BC c ⟨#[]⟩ w x.to).length := lm _
   omega
theorem Ny {h : Hs} {w : Int} (q : Dz h) (ok : ET h) : Kp h.conf h (Ge h.conf w h.spool.items) := by
 obtain ⟨q1, q2, q3⟩ := q
 have hl := OF (c := h.conf) (w := w) (xs := h.spool.items) fun x hx => (q3.1 x hx).1.2.2.2.2.1.2
 have h10 := q3.2.2.2
 have hb := ok.2.2.1
 refine ⟨rfl, q3, ok.2.1, OE fun j h0 hj => (q1 j hj).2.1 h0, fun p hp => ?_, Jy (Ch.1 q3.2.1) fun x hx => (q3.1 x hx).1.2.1, ?_, fun b hbm => ?_⟩
 ·obtain ⟨x, hx, e, r, hr, e2⟩ := Jx hp
  rw [e, ← e2]
  exact (Fp q3 hx hr).1
 ·have : (h.boxes.length : Int) ≤ 1048576 := hb.1
  omega
 ·have : (b.mails.length : Int) ≤ 1048576 := (hb.2 b hbm).2.1
  omega
def lE : Ct := An (lc FH.ag (lc Ce.ag (lc EL.ag l0))) (fun p => p.1.boxes.length ≤ 3000000 ∧ (∀ b ∈ p.1.boxes, b.mails.length ≤ 3000000) ∧ p.2.2.1.body.length ≤ 3000000) (fun p => .agg ((Ao ⟨p.1.conf, p.1.spool, EW p.1.boxes p.2.1 ⟨p.2.2.1.frm, p.2.2.1.body⟩, p.1.lost⟩).map .t))
section
attribute [local go_sem] tH IX IH List.take_length List.drop_zero List.length_take List.length_drop lm List.length_append List.length_cons List.length_nil List.map_append List.map_nil List.map_cons List.nil_append Nat.zero_add List.mem_singleton forall_eq Bool.not_true Bool.not_false Aa AZ AS.opn AS.cls AS.nilb AS.renb AS.up List.set_set List.set_cons_zero List.set_cons_succ List.set_nil
set_option maxHeartbeats 3200000 in
theorem cU {G : Gt} (hG : Aj G) (hh : G.e 86 = AA 0 tH) : Gd G 134 (AA 1 lE) := by
 refine LQ (dp := fun n => Nat.ble 100000 n) (fn := Tryz.f134) (n := 3) rfl hG ?_
 rintro ⟨h, a, x, ⟨⟩⟩ hpre
 obtain ⟨hl1, hl2, hl3⟩ := hpre
 dsimp only at hl1 hl2 hl3 ⊢
 have hkl := XQ a h.boxes
 simp -implicitDefEqProofs only [Tryz.f134, go_sem, hh, seval]
 with_reducible repeat' (first | apply ai | intro _ | ((first | apply s1 | apply s3 | apply s4) <;> intro hb <;> simp -implicitDefEqProofs only [hb, go_sem, hh, seval] <;> try simp only [qz] at hb))
 all_goals (try simp only [maxLen] at *)
 all_goals first | with_reducible assumption | rfl | omega | contradiction | decide | skip
 refine AF [] (ι := {i : Nat // i ≤ kS h.boxes a}) (fun p => ⟨[(3, .pb 1003 0), (4, .pb 1004 0), (5, .pb 1005 0), (6, .pb 1006 0), (7, .t (.v (.int .i64 p.1)))], [(1003, some (.box ((Ao h).map .t))), (1004, some (.box ((At a).map .t))), (1005, some (.box ((Ah x).map .t))), (1006, some (.box [.t (.v (.string ⟨#[]⟩)), .nil, .nil, .t (.v (.int .i64 0)), .nil, .nil, .nil]))]⟩) (fun p => kS h.boxes a - p.1) ⟨0, Nat.zero_le _⟩ rfl ?_ ?_
 ·simp -implicitDefEqProofs only [go_sem, hh, seval]
  try simp
 ·rintro ⟨i, hi⟩
  dsimp only at hi ⊢
  by_cases hlt : i < kS h.boxes a
  ·have hil : (i : Int) < h.boxes.length := by omega
   have b1 := Ag ((H7 _ _).1 (XR a h.boxes hlt))
   simp -implicitDefEqProofs only [hil, b1, decide_true, tn, go_sem, hh, seval]
   with_reducible repeat' (first | apply ai | intro _ | ((first | apply s1 | apply s3 | apply s4) <;> intro hb <;> simp -implicitDefEqProofs only [hb, go_sem, hh, seval] <;> try simp only [qz] at hb))
   all_goals (try simp only [maxLen] at *)
   all_goals first | with_reducible assumption | rfl | omega | contradiction | decide | skip
   refine ⟨⟨i + 1, by omega⟩, by dsimp only; omega, ?_⟩
   simp -implicitDefEqProofs only [go_sem, hh, seval]
   try simp
  ·have hk : i = kS h.boxes a := by omega
   have e1 : ((i : Int) + 1).toNat = i + 1 := by omega
   by_cases hil : (i : Int) < h.boxes.length
   ·have hkb : kS h.boxes a < h.boxes.length := by omega
    have b1 := AO (fun z => SP a h.boxes hkb ((H7 _ _).2 z))
    rw [← hk] at b1
    have hml := hl2 _ (AE (xs := h.boxes) (j := i) (by omega))
    by_cases hf : (h.boxes.getD i default).addr = a
    ·have hF : GN h.boxes a = true := by
       unfold GN
       rw [decide_eq_true hkb, ← hk, decide_eq_true ((VN _ _).2 hf)]; rfl
     have hB : EW h.boxes a ⟨x.frm, x.body⟩ = h.boxes.set i ⟨(h.boxes.getD i default).addr, (h.boxes.getD i default).mails ++ [⟨x.frm, x.body⟩]⟩ := by rw [HN hF, ← hk]
     rw [hB]
     have he : (false != (decide ((h.boxes.getD i default).addr.user = a.user) && decide ((h.boxes.getD i default).addr.domain = a.domain))) = true := by rw [hf]; simp
     rw [hf]
     simp -implicitDefEqProofs only [hil, b1, he, decide_true, tn, e1, go_sem, hh, seval]
     with_reducible repeat' (first | apply ai | intro _ | ((first | apply s1 | apply s3 | apply s4) <;> intro hb <;> simp -implicitDefEqProofs only [hb, go_sem, hh, seval] <;> try simp only [qz] at hb))
     all_goals (try simp only [maxLen, e1, tn, List.take_length, List.drop_zero] at *)
     all_goals first | with_reducible assumption | rfl | omega | contradiction | decide | (refine congrArg (T.sl 3) ?_; first | (simp; done) | (rw [List.set_eq_take_append_cons_drop, if_pos (by omega)]; simp [Bn, Ca]; done)) | skip
    ·have he : (false != (decide ((h.boxes.getD i default).addr.user = a.user) && decide ((h.boxes.getD i default).addr.domain = a.domain))) = false := by
       cases hq : (decide ((h.boxes.getD i default).addr.user = a.user) && decide ((h.boxes.getD i default).addr.domain = a.domain))
       ·rfl
       ·simp only [Bool.and_eq_true, decide_eq_true_eq] at hq
        exact absurd (show (⟨(h.boxes.getD i default).addr.user, (h.boxes.getD i default).addr.domain⟩ : Ad) = a by rw [hq.1, hq.2]) hf
     have hF : GN h.boxes a = false := by
      unfold GN
      rw [decide_eq_true hkb, ← hk, decide_eq_false (fun z => hf ((VN _ _).1 z))]; rfl
     have hB : EW h.boxes a ⟨x.frm, x.body⟩ = h.boxes.take i ++ (⟨a, [⟨x.frm, x.body⟩]⟩ :: h.boxes.drop i) := by rw [Fy hF, ← hk]
     rw [hB]
     simp -implicitDefEqProofs only [hil, b1, he, decide_true, tn, e1, go_sem, hh, seval]
     with_reducible repeat' (first | apply ai | intro _ | ((first | apply s1 | apply s3 | apply s4) <;> intro hb <;> simp -implicitDefEqProofs only [hb, go_sem, hh, seval] <;> try simp only [qz] at hb))
     all_goals (try simp only [maxLen, e1, tn, List.take_length, List.drop_zero] at *)
     all_goals first | with_reducible assumption | rfl | omega | contradiction | decide | (refine congrArg (T.sl 3) ?_; first | (simp; done) | (rw [List.set_eq_take_append_cons_drop, if_pos (by omega)]; simp [Bn, Ca]; done)) | skip
   ·have hF : GN h.boxes a = false := by
      unfold GN
      rw [decide_eq_false (by omega)]; rfl
    have hB : EW h.boxes a ⟨x.frm, x.body⟩ = h.boxes.take i ++ (⟨a, [⟨x.frm, x.body⟩]⟩ :: h.boxes.drop i) := by rw [Fy hF, ← hk]
    rw [hB]
    simp -implicitDefEqProofs only [hil, decide_false, tn, e1, go_sem, hh, seval]
    with_reducible repeat' (first | apply ai | intro _ | ((first | apply s1 | apply s3 | apply s4) <;> intro hb <;> simp -implicitDefEqProofs only [hb, go_sem, hh, seval] <;> try simp only [qz] at hb))
    all_goals (try simp only [maxLen, e1, tn, List.take_length, List.drop_zero] at *)
    all_goals first | with_reducible assumption | rfl | omega | contradiction | decide | (refine congrArg (T.sl 3) ?_; simp; done) | skip
end
theorem YG {g : Hs} {x : Im} {a : Ad} {w : Int} {R : List (Int × Ad)} (h : Kp g.conf g ((x.id, a) :: R)) : Bk ⟨g.conf, g.spool, EW g.boxes a ⟨x.frm, x.body⟩, g.lost⟩ (Ai g.spool x.id).toNat (Aw (AM g.spool x.id) a).toNat a 2 w = HT g x a := by
 unfold Bk
 rw [if_pos rfl]
 unfold HT
 rw [h.done]
def wE : Ct := An (lc FH.ag (lc A6 l0)) (fun p => Dz p.1 ∧ ET p.1) (fun p => .agg ((Ao (EA p.1.conf p.2.1 p.1.spool.items p.1)).map .t))
section
attribute [local go_sem] VR lE ar IX IH List.take_length List.drop_zero List.length_take List.length_drop lm List.length_append List.length_cons List.length_nil List.map_append List.map_nil List.map_cons List.nil_append Nat.zero_add List.mem_singleton forall_eq Bool.not_true Bool.not_false Aa AZ AS.opn AS.cls AS.nilb AS.renb AS.up List.set_set List.set_cons_zero List.set_cons_succ List.set_nil
set_option maxHeartbeats 6400000 in
theorem pR {G : Gt} (hG : Aj G) (hh : G.e 133 = AA 0 VR ∧ G.e 134 = AA 1 lE ∧ G.e 37 = AA 1 ar) : Gd G 69 (AA 1 wE) := by
 refine LQ (dp := fun n => Nat.ble 100000 n) (fn := Tryz.f69) (n := 2) rfl hG ?_
 rintro ⟨h, w, ⟨⟩⟩ hpre
 obtain ⟨hq, hok⟩ := hpre
 dsimp only at hq hok ⊢
 have hmx : (h.spool.items.length : Int) ≤ 1048576 := hok.2.1.1
 simp -implicitDefEqProofs only [Tryz.f69, go_sem, hh, seval]
 with_reducible repeat' (first | apply ai | intro _ | ((first | apply s1 | apply s3 | apply s4) <;> intro hb <;> simp -implicitDefEqProofs only [hb, go_sem, hh, seval] <;> try simp only [qz] at hb))
 all_goals (try simp only [maxLen] at *)
 all_goals first | with_reducible assumption | rfl | omega | contradiction | decide | skip
 refine AF [] (ι := {p : Nat × Hs // p.1 ≤ h.spool.items.length ∧ Kp h.conf p.2 (Ge h.conf w (h.spool.items.drop p.1)) ∧ EA h.conf w h.spool.items h = EA h.conf w (h.spool.items.drop p.1) p.2}) (fun p => ⟨[(1, .t (.v (.int .i64 w))), (2, .pb 1002 0), (4, .pb 1004 0), (5, .t (.sl 5 (h.spool.items.map Ah))), (6, .t (.v (.int .i64 p.1.1)))], [(1002, some (.box ((Ao p.1.2).map .t))), (1004, some (.box [.t (.v (.string ⟨#[]⟩)), .nil, .nil, .t (.v (.int .i64 0)), .nil, .nil, .nil]))]⟩) (fun p => h.spool.items.length - p.1.1) ⟨(0, h), Nat.zero_le _, Ny hq hok, rfl⟩ rfl ?_ ?_
 ·simp -implicitDefEqProofs only [go_sem, hh, seval]
  try simp
 ·rintro ⟨⟨i, g⟩, hi, hK, he⟩
  dsimp only at hi hK he ⊢
  by_cases hlt : (i : Int) < h.spool.items.length
  ·have hil : i < h.spool.items.length := by omega
   obtain ⟨x, hx⟩ : ∃ x, x = h.spool.items.getD i default := ⟨_, rfl⟩
   have hxo := hok.2.1.2 _ (AE hil)
   rw [← hx] at hxo
   have hxl : (x.to.length : Int) ≤ 1048576 := hxo.2.1.1
   have hxb : (x.body.length : Int) ≤ 1048576 := hxo.2.2.1
   rw [TU hil, ← hx] at hK
   rw [Qp hil, ← hx] at he
   simp -implicitDefEqProofs only [hlt, decide_true, tn, ← hx, go_sem, hh, seval]
   with_reducible repeat' (first | apply ai | intro _ | ((first | apply s1 | apply s3 | apply s4) <;> intro hb <;> simp -implicitDefEqProofs only [hb, go_sem, hh, seval] <;> try simp only [qz] at hb))
   all_goals (try simp only [maxLen] at *)
   all_goals first | with_reducible assumption | rfl | omega | contradiction | decide | skip
   refine AF [] (ι := {p : Nat × Hs // p.1 ≤ x.to.length ∧ Kp h.conf p.2 (RD h.conf w x (x.to.drop p.1) ++ Ge h.conf w (h.spool.items.drop (i + 1))) ∧ EA h.conf w h.spool.items h = EA h.conf w (h.spool.items.drop (i + 1)) (KT x (BC h.conf ⟨#[]⟩ w (x.to.drop p.1)) p.2)}) (fun p => ⟨[(1, .t (.v (.int .i64 w))), (2, .pb 1002 0), (4, .pb 1004 0), (5, .t (.sl 5 (h.spool.items.map Ah))), (6, .t (.v (.int .i64 i))), (7, .t (.v (.int .i64 p.1.1)))], [(1002, some (.box ((Ao p.1.2).map .t))), (1004, some (.box [.t (.v (.string ⟨#[]⟩)), .nil, .nil, .t (.v (.int .i64 0)), .nil, .nil, .nil]))]⟩) (fun p => x.to.length - p.1.1) ⟨(0, g), Nat.zero_le _, hK, he⟩ rfl ?_ ?_
   ·simp -implicitDefEqProofs only [go_sem, hh, seval]
    try simp
   ·rintro ⟨⟨k, g⟩, hk, hK, he⟩
    dsimp only at hk hK he ⊢
    by_cases hlk : (k : Int) < x.to.length
    ·have hkl : k < x.to.length := by omega
     have hcf := hK.cf
     by_cases hn : I4 h.conf ⟨#[]⟩ w (x.to.getD k default)
     ·have b1 := Ag hn
      rw [← hcf] at b1
      rw [vA hkl hn, List.cons_append] at hK
      rw [RB hkl hn] at he
      have Ap := hK.step
      have hbb := hK.b1
      have hbm := hK.b2
      have hos := hK.os
      have hsp := hK.sp
      have htd := hK.td (x.id, (x.to.getD k default).addr) (by simp)
      have hout := YG (w := w) (hcf ▸ hK)
      simp -implicitDefEqProofs only [hlt, hlk, b1, hout, decide_true, tn, ← hx, go_sem, hh, seval]
      with_reducible repeat' (first | apply ai | intro _ | ((first | apply s1 | apply s3 | apply s4) <;> intro hb <;> simp -implicitDefEqProofs only [hb, go_sem, hh, seval] <;> try simp only [qz] at hb))
      all_goals (try simp only [maxLen] at *)
      all_goals first | with_reducible assumption | rfl | omega | contradiction | decide | exact htd.1 | exact htd.2 | (have := hbm _ (by assumption); omega) | skip
      all_goals first | (refine ⟨⟨(k + 1, HT g x (x.to.getD k default).addr), by dsimp only; omega, Ap, he⟩, by dsimp only; omega, ?_⟩) | skip
      all_goals simp -implicitDefEqProofs only [go_sem, hh, seval]
      all_goals (try simp)
     ·have b1 := AO hn
      rw [← hcf] at b1
      rw [u7 hkl hn] at hK
      rw [RA hkl hn] at he
      simp -implicitDefEqProofs only [hlt, hlk, b1, decide_true, tn, ← hx, go_sem, hh, seval]
      with_reducible repeat' (first | apply ai | intro _ | ((first | apply s1 | apply s3 | apply s4) <;> intro hb <;> simp -implicitDefEqProofs only [hb, go_sem, hh, seval] <;> try simp only [qz] at hb))
      all_goals (try simp only [maxLen] at *)
      all_goals first | with_reducible assumption | rfl | omega | contradiction | decide | skip
      refine ⟨⟨(k + 1, g), by dsimp only; omega, hK, he⟩, by dsimp only; omega, ?_⟩
      simp -implicitDefEqProofs only [go_sem, hh, seval]
      try simp
    ·rw [fd (by omega), List.nil_append] at hK
     rw [Kk (by omega)] at he
     simp -implicitDefEqProofs only [hlt, hlk, decide_true, decide_false, tn, ← hx, go_sem, hh, seval]
     with_reducible repeat' (first | apply ai | intro _ | ((first | apply s1 | apply s3 | apply s4) <;> intro hb <;> simp -implicitDefEqProofs only [hb, go_sem, hh, seval] <;> try simp only [qz] at hb))
     all_goals (try simp only [maxLen] at *)
     all_goals first | with_reducible assumption | rfl | omega | contradiction | decide | skip
     refine ⟨⟨(i + 1, g), by dsimp only; omega, hK, he⟩, by dsimp only; omega, ?_⟩
     simp -implicitDefEqProofs only [go_sem, hh, seval]
     try simp
  ·have he2 : EA h.conf w h.spool.items h = g := by rw [he, List.drop_eq_nil_of_le (by omega)]; rfl
   simp -implicitDefEqProofs only [hlt, decide_false, he2, go_sem, hh, seval]
   with_reducible repeat' (first | apply ai | intro _ | ((first | apply s1 | apply s3 | apply s4) <;> intro hb <;> simp -implicitDefEqProofs only [hb, go_sem, hh, seval] <;> try simp only [qz] at hb))
   all_goals (try simp only [maxLen] at *)
   all_goals first | with_reducible assumption | rfl | omega | contradiction | decide | skip
end
section
attribute [local go_sem] sI sJ wE IX IH List.take_length List.drop_zero List.length_take List.length_drop lm List.length_append List.length_cons List.length_nil List.map_append List.map_nil List.map_cons List.nil_append Nat.zero_add List.mem_singleton forall_eq Bool.not_true Bool.not_false Qu Aa AZ AS.opn AS.cls AS.nilb AS.renb AS.up List.set_set List.set_cons_zero List.set_cons_succ List.set_nil
end
section
attribute [local go_sem] ku wC Vh sH HB HA LX Qu Aa AZ Mh J1 Ab BR A1 lm List.length_append List.length_cons List.length_nil List.map_append List.map_nil Nat.zero_add List.nil_append AS.opn AS.cls AS.nilb AS.renb AS.up Bool.not_false Bool.not_true List.set_set List.set_cons_zero List.set_cons_succ List.set_nil List.mem_singleton forall_eq
end
def wt : Mt := GL (lc Y7 (lc EL.ag (lc Ce.ag (lc A6 l0)))) (fun p => ET p.1 ∧ BI p.1.spool ∧ D0 p.2.1 ∧ FM p.2.2.1 ∧ BL p.2.2.1 ∧ ¬ Ai p.1.spool p.2.1.id < 0 ∧ AM p.1.spool p.2.1.id = p.2.1 ∧ ¬ Aw p.2.1 p.2.2.1 < 0 ∧ (0 ≤ p.2.2.2.1 ∧ p.2.2.2.1 ≤ 9999)) (fun p => ([Y7.enc (EH p.1 p.2.1 p.2.2.1 (Ai p.1.spool p.2.1.id).toNat (Aw p.2.1 p.2.2.1).toNat p.2.2.2.1), EL.ag.enc p.2.1, Ce.ag.enc p.2.2.1, .t (.v (.int .i64 p.2.2.2.1))], .tup []))
section
attribute [local go_sem] sH xF xG tF HB HA So.eq_1 LX A1 lm List.length_append List.length_cons List.length_nil List.map_append List.map_nil Nat.zero_add List.nil_append AS.opn AS.cls AS.nilb AS.renb AS.up Bool.not_false Bool.not_true List.set_set List.set_cons_zero List.set_cons_succ List.set_nil List.mem_singleton forall_eq
set_option maxHeartbeats 3200000 in
theorem ot {G : Gt} (hG : Aj G) (hh : G.e 29 = AA 0 sH ∧ G.e 83 = AA 0 xF ∧ G.e 84 = AA 0 xG ∧ G.e 56 = AA 0 tF) : Gd G 31 (AN wt) := by
 refine Ik (dp := fun _ => true) (fn := Tryz.f31) (n := 4) rfl hG ?_
 rintro ⟨h, x, a, w, ⟨⟩⟩ hpre
 obtain ⟨hok, hsp, hox, hoa, ha, hi, hth, hk, hw⟩ := hpre
 dsimp only at hok hsp hox hoa ha hi hth hk hw ⊢
 have hi1 := BS hi
 have hk1 := C3 hk
 have hk2 : ¬ Aw (AM h.spool x.id) a < 0 := by rw [hth]; exact hk
 have hx : Co x := by
  have := (hsp.1 (AM h.spool x.id) (AE (by omega))).1
  rwa [hth] at this
 obtain ⟨i, hin⟩ : ∃ i, i = (Ai h.spool x.id).toNat := ⟨_, rfl⟩
 obtain ⟨k, hkn⟩ : ∃ k, k = (Aw x a).toNat := ⟨_, rfl⟩
 rw [← hin, ← hkn]
 have hD : FB h.spool x.id a = (B7 h.spool i k, true) := by rw [JN hsp hi hk2, hth, ← hin, ← hkn]
 have hil : i < h.spool.items.length := by omega
 have hxi : h.spool.items.getD i default = x := by rw [hin]; exact hth
 have hkl : k < (h.spool.items.getD i default).to.length := by rw [hxi]; omega
 have hsd := De hsp hil hkl
 have hos := hok.2.1
 have hod := Mx (k := k) hos hil
 have hll := hok.2.2.2.1
 have hob := If hox ha
 have hbd : ∀ s ∈ x.body, s.size ≤ 2000000 := fun s hs => by have : s.size ≤ 1048576 := hox.2.2.2 s hs; omega
 by_cases q1 : AU x.frm
 ·rw [KH (.inl q1)]
  have hB := RW (x := x) (a := a) (fun z => z.1 q1)
  simp -implicitDefEqProofs only [Tryz.f31, hD, hB, go_sem, hh, seval]
  with_reducible repeat' (first | apply ai | intro _ | ((first | apply s1 | apply s3 | apply s4) <;> intro hb <;> simp -implicitDefEqProofs only [hb, go_sem, hh, seval] <;> try simp only [qz] at hb))
  all_goals (try simp only [maxLen] at *)
  all_goals first | with_reducible assumption | rfl | omega | contradiction | decide | exact hbd _ (by assumption) | (simp; done) | skip
 ·have hB := RX (x := x) (a := a) ⟨q1, ha, hx⟩
  by_cases q2 : Bm (B7 h.spool i k)
  ·rw [M5 (fun z => z.elim q1 fun z => z q2)]
   have hA : MW (B7 h.spool i k) (A3 x a) w = (GJ (B7 h.spool i k) (A3 x a) w, true) := Uu hsd ⟨Lm hx ha q1, hw, q2⟩
   simp -implicitDefEqProofs only [Tryz.f31, hD, hB, hA, go_sem, hh, seval]
   with_reducible repeat' (first | apply ai | intro _ | ((first | apply s1 | apply s3 | apply s4) <;> intro hb <;> simp -implicitDefEqProofs only [hb, go_sem, hh, seval] <;> try simp only [qz] at hb))
   all_goals (try simp only [maxLen] at *)
   all_goals first | with_reducible assumption | rfl | omega | contradiction | decide | exact hbd _ (by assumption) | (simp; done) | skip
  ·rw [KH (.inr q2)]
   have hA : MW (B7 h.spool i k) (A3 x a) w = (B7 h.spool i k, false) := Ut hsd (fun z => q2 z.2.2)
   simp -implicitDefEqProofs only [Tryz.f31, hD, hB, hA, go_sem, hh, seval]
   with_reducible repeat' (first | apply ai | intro _ | ((first | apply s1 | apply s3 | apply s4) <;> intro hb <;> simp -implicitDefEqProofs only [hb, go_sem, hh, seval] <;> try simp only [qz] at hb))
   all_goals (try simp only [maxLen] at *)
   all_goals first | with_reducible assumption | rfl | omega | contradiction | decide | exact hbd _ (by assumption) | (simp; done) | skip
end
def c7 : Ct := An (lc FH.ag (lc A6 (lc Ce.ag (lc A6 (lc A6 l0))))) (fun p => ET p.1 ∧ FM p.2.2.1) (fun p => fY (MS p.1 p.2.1 p.2.2.1 p.2.2.2.1 p.2.2.2.2.1))
section
attribute [local go_sem] ku wC mf QJ ao sH wr wt HB HA LX fY Qu Aa AZ A1 lm List.length_append List.length_cons List.length_nil List.map_append List.map_nil Nat.zero_add List.nil_append AS.opn AS.cls AS.nilb AS.renb AS.up Bool.not_false Bool.not_true List.set_set List.set_cons_zero List.set_cons_succ List.set_nil List.mem_singleton forall_eq
set_option maxHeartbeats 6400000 in
theorem uK {G : Gt} (hG : Aj G) (hh : G.e 10 = AA 0 ku ∧ G.e 25 = AA 0 wC ∧ G.e 26 = AA 0 mf ∧ G.e 27 = AA 0 QJ ∧ G.e 28 = AA 0 ao ∧ G.e 29 = AA 0 sH ∧ G.e 30 = AA 0 wr ∧ G.e 31 = AN wt) : Gd G 7 (AA 0 c7) := by
 refine gr (fn := Tryz.f7) (n := 5) rfl hG ?_ (hs := fun _ p => Q5 _)
 rintro ⟨h, n, a, out, w, ⟨⟩⟩ hpre
 obtain ⟨hok, hoa⟩ := hpre
 dsimp only at hok hoa ⊢
 by_cases q : Dz h
 ·have b1 := Ag q
  have hsp := q.2.2
  have hos := hok.2.1
  by_cases hi : Ai h.spool n < 0
  ·have hF := JW (a := a) hi
   rw [Hx q (fun z => z.1 hi)]
   simp -implicitDefEqProofs only [Tryz.f7, b1, hF, go_sem, hh, seval]
   with_reducible repeat' (first | apply ai | intro _ | ((first | apply s1 | apply s3 | apply s4) <;> intro hb <;> simp -implicitDefEqProofs only [hb, go_sem, hh, seval] <;> try simp only [qz] at hb))
   all_goals first | with_reducible assumption | rfl | omega | contradiction | decide | skip
  ·have hF := F5 (a := a) hi
   obtain ⟨i0, i1⟩ := BS hi
   by_cases hk : Aw (AM h.spool n) a < 0
   ·have hk' : ¬ Aw (AM h.spool n) a ≥ 0 := by omega
    rw [Hx q (fun z => z.2.1 hk)]
    simp -implicitDefEqProofs only [Tryz.f7, b1, hF, hk', decide_false, go_sem, hh, seval]
    with_reducible repeat' (first | apply ai | intro _ | ((first | apply s1 | apply s3 | apply s4) <;> intro hb <;> simp -implicitDefEqProofs only [hb, go_sem, hh, seval] <;> try simp only [qz] at hb))
    all_goals first | with_reducible assumption | rfl | omega | contradiction | decide | skip
   ·have hk' : Aw (AM h.spool n) a ≥ 0 := by omega
    have hk1 := C3 hk
    by_cases zo : 2 ≤ out ∧ out ≤ 4
    ·have b2 := Ag zo
     by_cases zw : 0 ≤ w ∧ w ≤ 9999
     ·have b3 := Ag zw
      rw [Pp q ⟨hi, hk, zo, zw⟩]
      have hix : ((Ai h.spool n).toNat : Int) = Ai h.spool n := Int.toNat_of_nonneg i0
      have hit : h.spool.items.getD (Ai h.spool n).toNat default = AM h.spool n := rfl
      have hmm : AM h.spool n ∈ h.spool.items := AE (by omega)
      have Bq := Ey hi
      have hadr := Dc hk
      have haok : BL a := by
       have := ((hsp.1 _ hmm).1.1 _ (AE (xs := (AM h.spool n).to) (j := (Aw (AM h.spool n) a).toNat) (by omega))).1
       rwa [hadr] at this
      have hox := hos.2 _ hmm
      obtain ⟨R, hR⟩ : ∃ x, x = Bk h (Ai h.spool n).toNat (Aw (AM h.spool n) a).toNat a out w := ⟨_, rfl⟩
      rw [← hR]
      have hpg : (¬ Ai h.spool (AM h.spool n).id < 0) ∧ AM h.spool (AM h.spool n).id = AM h.spool n := by rw [Bq]; exact ⟨hi, rfl⟩
      by_cases o2 : out = 2
      ·have d2 := decide_eq_true o2
       have hD := JN hsp hi hk
       have hR2 : R = ⟨h.conf, B7 h.spool (Ai h.spool n).toNat (Aw (AM h.spool n) a).toNat, h.boxes, h.lost⟩ := by rw [hR]; unfold Bk; rw [if_pos o2]
       rw [hR2]
       simp -implicitDefEqProofs only [Tryz.f7, b1, b2, b3, hF, hk', d2, hD, decide_true, go_sem, hh, seval]
       with_reducible repeat' (first | apply ai | intro _ | ((first | apply s1 | apply s3 | apply s4) <;> intro hb <;> simp -implicitDefEqProofs only [hb, go_sem, hh, seval] <;> try simp only [qz] at hb))
       all_goals first | with_reducible assumption | rfl | omega | contradiction | decide | skip
      ·have d2 := decide_eq_false o2
       by_cases o3 : out = 3
       ·have d3 := decide_eq_true o3
        by_cases hl : LT ((h.spool.items.getD (Ai h.spool n).toNat default).to.getD (Aw (AM h.spool n) a).toNat default) w
        ·have hS : Cu h.spool n a w = (h.spool, false) := by
           rw [Jk hsp hi zw hk]; unfold FE; rw [if_pos hl]
         have hR2 : R = EH h (AM h.spool n) a (Ai h.spool (AM h.spool n).id).toNat (Aw (AM h.spool n) a).toNat w := by
          rw [hR]; unfold Bk; rw [if_neg o2, if_neg (fun z => z.2 hl), Bq]; rfl
         rw [hR2]
         simp -implicitDefEqProofs only [Tryz.f7, b1, b2, b3, hF, hk', d2, d3, hS, hit, decide_true, go_sem, hh, seval]
         with_reducible repeat' (first | apply ai | intro _ | ((first | apply s1 | apply s3 | apply s4) <;> intro hb <;> simp -implicitDefEqProofs only [hb, go_sem, hh, seval] <;> try simp only [qz] at hb))
         all_goals first | with_reducible assumption | rfl | omega | contradiction | decide | exact hpg.1 | exact hpg.2 | skip
        ·have hS : Cu h.spool n a w = (KZ h.spool (Ai h.spool n).toNat (Aw (AM h.spool n) a).toNat w, true) := by
           rw [Jk hsp hi zw hk]; unfold FE; rw [if_neg hl]
         have hR2 : R = ⟨h.conf, KZ h.spool (Ai h.spool n).toNat (Aw (AM h.spool n) a).toNat w, h.boxes, h.lost⟩ := by
          rw [hR]; unfold Bk; rw [if_neg o2, if_pos ⟨o3, hl⟩]
         rw [hR2]
         simp -implicitDefEqProofs only [Tryz.f7, b1, b2, b3, hF, hk', d2, d3, hS, decide_true, go_sem, hh, seval]
         with_reducible repeat' (first | apply ai | intro _ | ((first | apply s1 | apply s3 | apply s4) <;> intro hb <;> simp -implicitDefEqProofs only [hb, go_sem, hh, seval] <;> try simp only [qz] at hb))
         all_goals first | with_reducible assumption | rfl | omega | contradiction | decide | skip
       ·have d3 := decide_eq_false o3
        have hR2 : R = EH h (AM h.spool n) a (Ai h.spool (AM h.spool n).id).toNat (Aw (AM h.spool n) a).toNat w := by
         rw [hR]; unfold Bk; rw [if_neg o2, if_neg (fun z => o3 z.1), Bq]; rfl
        rw [hR2]
        simp -implicitDefEqProofs only [Tryz.f7, b1, b2, b3, hF, hk', d2, d3, hit, decide_true, go_sem, hh, seval]
        with_reducible repeat' (first | apply ai | intro _ | ((first | apply s1 | apply s3 | apply s4) <;> intro hb <;> simp -implicitDefEqProofs only [hb, go_sem, hh, seval] <;> try simp only [qz] at hb))
        all_goals first | with_reducible assumption | rfl | omega | contradiction | decide | exact hpg.1 | exact hpg.2 | skip
     ·have b3 := AO zw
      rw [Hx q (fun z => zw z.2.2.2)]
      simp -implicitDefEqProofs only [Tryz.f7, b1, b2, b3, hF, hk', decide_true, go_sem, hh, seval]
      with_reducible repeat' (first | apply ai | intro _ | ((first | apply s1 | apply s3 | apply s4) <;> intro hb <;> simp -implicitDefEqProofs only [hb, go_sem, hh, seval] <;> try simp only [qz] at hb))
      all_goals first | with_reducible assumption | rfl | omega | contradiction | decide | skip
    ·have b2 := AO zo
     rw [Hx q (fun z => zo z.2.2.1)]
     simp -implicitDefEqProofs only [Tryz.f7, b1, b2, hF, hk', decide_true, go_sem, hh, seval]
     with_reducible repeat' (first | apply ai | intro _ | ((first | apply s1 | apply s3 | apply s4) <;> intro hb <;> simp -implicitDefEqProofs only [hb, go_sem, hh, seval] <;> try simp only [qz] at hb))
     all_goals first | with_reducible assumption | rfl | omega | contradiction | decide | skip
 ·have b1 := AO q
  rw [MT q]
  simp -implicitDefEqProofs only [Tryz.f7, b1, go_sem, hh, seval]
  with_reducible repeat' (first | apply ai | intro _ | ((first | apply s1 | apply s3 | apply s4) <;> intro hb <;> simp -implicitDefEqProofs only [hb, go_sem, hh, seval] <;> try simp only [qz] at hb))
  all_goals first | with_reducible assumption | rfl | omega | contradiction | decide | skip
end
def EB (c : Cf) : Hs := ⟨c, ⟨0, []⟩, [], []⟩
def FC (cs : List Cf) : Wd := ⟨cs.map EB, 0, 0, []⟩
theorem Xq {c : Cf} (h : LK c) : ET (EB c) := ⟨h, ⟨by show ((0 : Nat) : Int) ≤ _; decide, fun _ q => by cases q⟩, ⟨by show ((0 : Nat) : Int) ≤ _; decide, fun _ q => by cases q⟩, ⟨by show ((0 : Nat) : Int) ≤ _; decide, fun _ q => by cases q⟩⟩
theorem Yk {xs : List Cf} {f : Cf → Hs} {i : Nat} (h : i < xs.length) : ((xs.map f).take (i + 1)).map Ao = ((xs.map f).take i).map Ao ++ [Ao (f (xs.getD i default))] := by
 have e : (xs.map f).getD i default = f (xs.getD i default) := by
  simp only [List.getD_eq_getElem?_getD, List.getElem?_map, List.getElem?_eq_getElem h, Option.map_some, Option.getD_some]
 rw [BM Ao (by rw [lm]; exact h), e]
def CO (b : UInt8) : List T := [.v (.int .u8 b.toNat)]
def iN : List T → Option UInt8
 | [.v (.int .u8 x)] => if 0 ≤ x ∧ x < 256 then some (UInt8.ofNat x.toNat) else none
 | _ => none
def LF : Em UInt8 where
 enc := CO
 dec := iN
 n := 1
 ed := fun b => by
  have := b.toNat_lt
  show (if 0 ≤ ((b.toNat : Nat) : Int) ∧ ((b.toNat : Nat) : Int) < 256 then some (UInt8.ofNat ((b.toNat : Nat) : Int).toNat) else none) = some b
  rw [if_pos (by omega), tn, UInt8.ofNat_toNat]
 de := fun c a h => by
  unfold iN at h
  split at h
  ·rename_i x
   split at h
   ·rename_i q
    cases h
    show [T.v (.int .u8 x)] = [T.v (.int .u8 (((UInt8.ofNat x.toNat).toNat : Nat) : Int))]
    have : (UInt8.ofNat x.toNat).toNat = x.toNat := by simp; omega
    rw [this]
    congr 3
    omega
   ·cases h
  ·cases h
 len := fun _ => rfl
theorem WT (b : UInt8) : CO b = [.v (.int .u8 b.toNat)] := rfl
theorem Z1 (xs : List UInt8) (n : Int) (s : AS) (K : Kt) : Ep 1 (xs.map CO) n s K = (0 ≤ n ∧ n < xs.length ∧ K (.t (.rop (CO (xs.getD n.toNat default)))) s) := Ba CO xs 1 n s K fun _ => rfl
theorem JK : LF.enc = CO := rfl
theorem RZ : LF.n = 1 := rfl
theorem BP (xs : List UInt8) : LF.decL (xs.map CO) = some xs := LF.decL_map xs
theorem M9 (xs : List UInt8) : (∀ c ∈ xs.map CO, c.length = 1) = True := eq_true fun c hc => by
 obtain ⟨a, _, rfl⟩ := List.mem_map.1 hc; rfl
structure Rd where
 b : List UInt8
 p : Int
def jI : AV → Option Rd
 | .ob [.t (.sl 1 es), .t (.v (.int .i64 p))] => (LF.decL es).map fun b => ⟨b, p⟩
 | _ => none
def Dx : AD Rd where
 enc r := .ob [.t (.sl 1 (r.b.map CO)), .t (.v (.int .i64 r.p))]
 dec := jI
 ed := fun r => by
  show (LF.decL (r.b.map CO)).map _ = some r
  rw [BP]; rfl
 de := fun x r h => by
  unfold jI at h
  split at h
  ·rename_i es p
   cases hd : LF.decL es with
   | none => rw [hd] at h; cases h
   | some b =>
     rw [hd] at h; cases h
     rw [show es = b.map CO from LF.decL_inv hd]
  ·cases h
theorem A9 (r : Rd) : Dx.enc r = .ob [.t (.sl 1 (r.b.map CO)), .t (.v (.int .i64 r.p))] := rfl
theorem BF {es : List (List T)} {p : Int} : Dx.dec (.ob [.t (.sl 1 es), .t (.v (.int .i64 p))]) = (LF.decL es).map fun b => ⟨b, p⟩ := rfl
theorem gh {n : Int} (h : 0 ≤ n) (h1 : n < 9223372036854775808) : IntKind.wrap .i64 n = n := by
 have e : IntKind.wrap .i64 n = if ((true && decide (n % 18446744073709551616 ≥ 9223372036854775808)) = true) then n % 18446744073709551616 - 18446744073709551616 else n % 18446744073709551616 := rfl
 rw [e, if_neg (by simp; omega)]
 omega
theorem r8 {x y : Int} (h : 0 ≤ x) (h1 : x < 9223372036854775808) (k : 0 ≤ y) (k1 : y < 9223372036854775808) : 0 ≤ bits .xor .i64 x y := by
 have e : bits .xor .i64 x y = IntKind.wrap .i64 (((BitVec.ofInt 64 x ^^^ BitVec.ofInt 64 y).toNat : Nat) : Int) := rfl
 rw [e, BitVec.toNat_xor, BitVec.toNat_ofInt, BitVec.toNat_ofInt]
 have q : ((x % ((2 ^ 64 : Nat) : Int)).toNat ^^^ (y % ((2 ^ 64 : Nat) : Int)).toNat) < 2 ^ 63 := Nat.xor_lt_two_pow (by omega) (by omega)
 have q2 := Int.ofNat_lt.2 q
 rw [gh (Int.natCast_nonneg _) q2]
 exact Int.natCast_nonneg _
def Yz (b : List UInt8) (k : Int) : Int := (((b.getD k.toNat default).toNat : Nat) : Int)
theorem OO (b : List UInt8) (k : Int) : 0 ≤ Yz b k ∧ Yz b k ≤ 255 := by
 have := (b.getD k.toNat default).toNat_lt
 unfold Yz; omega
theorem tC (b : List UInt8) (k : Int) : (((b.getD k.toNat default).toNat : Nat) : Int) = Yz b k := rfl
def LU (b : List UInt8) (k : Int) : Int := Yz b (k % b.length) * 131 + Yz b ((k * 7 + 3) % b.length) * 1117 + k * 29 + k / b.length * 53
theorem qT (b : List UInt8) (k : Int) : Yz b (k % b.length) * 131 + Yz b ((k * 7 + 3) % b.length) * 1117 + k * 29 + k / b.length * 53 = LU b k := rfl
def Af (r : Rd) (n : Int) : Int := if n < 1 ∨ (r.b.length : Int) = 0 then 0 else if r.p < r.b.length then Yz r.b r.p % n else bits .xor .i64 (LU r.b r.p) (LU r.b r.p / 64) % n
theorem WH {k l : Int} (h : 0 ≤ k) (hl : 0 < l) : 0 ≤ k / l ∧ k / l ≤ k := ⟨Int.ediv_nonneg h (by omega), Int.ediv_le_self _ h⟩
theorem qS {b : List UInt8} {k : Int} (h : 0 ≤ k) (h1 : k ≤ 1000000000) (h2 : ¬ (b.length : Int) = 0) : 0 ≤ LU b k ∧ LU b k ≤ 1000000000000 := by
 have q1 := OO b (k % b.length)
 have q2 := OO b ((k * 7 + 3) % b.length)
 have q3 := WH (l := b.length) h (by omega)
 unfold LU
 omega
theorem Bd {r : Rd} {n : Int} (h : 0 ≤ r.p) (h1 : r.p ≤ 1000000000) : 0 ≤ Af r n ∧ (1 ≤ n → Af r n < n) := by
 unfold Af
 split
 ·omega
 ·rename_i q
  split
  ·exact ⟨Int.emod_nonneg _ (by omega), fun _ => Int.emod_lt_of_pos _ (by omega)⟩
  ·exact ⟨Int.emod_nonneg _ (by omega), fun _ => Int.emod_lt_of_pos _ (by omega)⟩
theorem jO {r : Rd} {n : Int} (h : n < 1 ∨ (r.b.length : Int) = 0) : Af r n = 0 := if_pos h
theorem uy {r : Rd} {n : Int} (h0 : ¬ n < 1) (h : ¬ (r.b.length : Int) = 0) (h1 : r.p < r.b.length) : Yz r.b r.p % n = Af r n := by
 unfold Af; rw [if_neg (by omega), if_pos h1]
theorem uz {r : Rd} {n : Int} (h0 : ¬ n < 1) (h : ¬ (r.b.length : Int) = 0) (h1 : ¬ r.p < r.b.length) : bits .xor .i64 (LU r.b r.p) (LU r.b r.p / 64) % n = Af r n := by
 unfold Af; rw [if_neg (by omega), if_neg h1]
def Rd.nx (r : Rd) (k : Int) : Rd := ⟨r.b, r.p + k⟩
theorem AJ (r : Rd) (k : Int) : (r.nx k).p = r.p + k := rfl
theorem Bs (r : Rd) (k : Int) : (r.nx k).b = r.b := rfl
theorem CQ (r : Rd) (k : Int) : (⟨r.b, r.p + k⟩ : Rd) = r.nx k := rfl
theorem yn {x y : Int} (h : x = y) : T.v (.int .i64 x) = T.v (.int .i64 y) := by rw [h]
def Gj : Mt := GL (lc Dx (lc A6 l0)) (fun p => 0 ≤ p.1.p ∧ p.1.p ≤ 1000000000) (fun p => ([Dx.enc (p.1.nx 1), A6.enc p.2.1], .t (.v (.int .i64 (Af p.1 p.2.1)))))
section
attribute [local go_sem] AJ Bs A9 BF BP WT Z1 JK RZ M9 lm Int.add_sub_cancel tC qT A1 AS.opn AS.cls AS.nilb AS.renb AS.up Bool.not_false Bool.not_true List.set_set List.set_cons_zero List.set_cons_succ List.set_nil List.mem_singleton forall_eq
set_option maxHeartbeats 1600000 in
theorem pT {G : Gt} (hG : Aj G) : Gd G 71 (AN Gj) := by
 refine Ik (dp := fun _ => true) (fn := Tryz.f71) (n := 2) rfl hG ?_
 rintro ⟨r, n, ⟨⟩⟩ hpre
 simp -implicitDefEqProofs only [Tryz.f71, go_sem, seval] at hpre ⊢
 obtain ⟨h1, h2⟩ := hpre
 try dsimp only at h1 h2
 have g1 := OO r.b r.p
 have g2 := OO r.b (r.p % r.b.length)
 have g3 := OO r.b ((r.p * 7 + 3) % r.b.length)
 by_cases h0 : (r.b.length : Int) = 0
 ·with_reducible repeat' (first | apply ai | intro _ | ((first | apply s1 | apply s3 | apply s4) <;> intro hb <;> simp -implicitDefEqProofs only [hb, go_sem, seval] <;> try simp only [qz] at hb))
  all_goals (try simp only [maxLen, tn] at *)
  all_goals first | rfl | omega | (rw [jO (by omega)]; done) | contradiction
 ·have g4 := WH (l := r.b.length) h1 (by omega)
  have g5 := qS h1 h2 h0
  have g6 := Int.emod_nonneg r.p h0
  have g7 := Int.emod_lt_of_pos r.p (b := r.b.length) (by omega)
  have g8 := Int.emod_nonneg (r.p * 7 + 3) h0
  have g9 := Int.emod_lt_of_pos (r.p * 7 + 3) (b := r.b.length) (by omega)
  have gx := WH (l := 64) g5.1 (by decide)
  have gy := r8 (x := LU r.b r.p) (y := LU r.b r.p / 64) g5.1 (by omega) gx.1 (by omega)
  with_reducible repeat' (first | apply ai | intro _ | ((first | apply s1 | apply s3 | apply s4) <;> intro hb <;> simp -implicitDefEqProofs only [hb, go_sem, seval] <;> try simp only [qz] at hb))
  all_goals (try simp only [maxLen, tn] at *)
  all_goals first | rfl | omega | (rw [jO (by omega)]; done) | with_reducible exact yn (uy (by assumption) (by assumption) (by assumption)) | with_reducible exact yn (uz (by assumption) (by assumption) (by assumption)) | contradiction
end
theorem IC {x0 x1 x2 x3 : T} : Bj 1 4 [x0, x1, x2, x3] = [[x0], [x1], [x2], [x3]] := rfl
theorem ID {x0 x1 x2 x3 x4 : T} : Bj 1 5 [x0, x1, x2, x3, x4] = [[x0], [x1], [x2], [x3], [x4]] := rfl
theorem IE {x0 x1 x2 x3 x4 x5 x6 : T} : Bj 1 7 [x0, x1, x2, x3, x4, x5, x6] = [[x0], [x1], [x2], [x3], [x4], [x5], [x6]] := rfl
theorem EY {x0 x1 x2 x3 x4 x5 x6 x7 x8 x9 x10 : T} : Bj 1 11 [x0, x1, x2, x3, x4, x5, x6, x7, x8, x9, x10] = [[x0], [x1], [x2], [x3], [x4], [x5], [x6], [x7], [x8], [x9], [x10]] := rfl
theorem EZ {x0 x1 x2 x3 x4 x5 x6 x7 x8 x9 x10 x11 : T} : Bj 1 12 [x0, x1, x2, x3, x4, x5, x6, x7, x8, x9, x10, x11] = [[x0], [x1], [x2], [x3], [x4], [x5], [x6], [x7], [x8], [x9], [x10], [x11]] := rfl
theorem Bc (r : Rd) (a b : Int) : (r.nx a).nx b = r.nx (a + b) := by unfold Rd.nx; simp only [Int.add_assoc]
theorem Bf (r : Rd) : (⟨r.b, r.p⟩ : Rd) = r := rfl
theorem Bh (r : Rd) (a b : Int) : r.p + a + b = r.p + (a + b) := Int.add_assoc _ _ _
theorem Gl {a : ByteArray} {t : List (List T)} : Al.decL ([.v (.string a)] :: t) = (Al.decL t).map (a :: ·) := by
 show BE Al.dec _ = (BE Al.dec t).map _
 simp only [BE, Nu]
 cases BE Al.dec t <;> rfl
theorem FU {a : Int} {t : List (List T)} : DR.decL ([.v (.int .i64 a)] :: t) = (DR.decL t).map (a :: ·) := by
 show BE DR.dec _ = (BE DR.dec t).map _
 simp only [BE, Nt]
 cases BE DR.dec t <;> rfl
def Nq (r : Rd) (l : List ByteArray) : ByteArray := l.getD (Af r l.length).toNat default
def F9 (r : Rd) (l : List Int) : Int := l.getD (Af r l.length).toNat default
theorem HY {r : Rd} {l : List ByteArray} (h : 0 ≤ r.p) (h1 : r.p ≤ 1000000000) (hl : 1 ≤ l.length) : Nq r l ∈ l := by
 have := Bd (n := l.length) h h1
 exact AE (by omega)
theorem JZ {r : Rd} {l : List Int} (h : 0 ≤ r.p) (h1 : r.p ≤ 1000000000) (hl : 1 ≤ l.length) : F9 r l ∈ l := by
 have := Bd (n := l.length) h h1
 exact AE (by omega)
def H9 : Mt := GL (lc Dx (lc (Al.aow true 1) l0)) (fun p => 0 ≤ p.1.p ∧ p.1.p ≤ 1000000000 ∧ 1 ≤ p.2.1.length ∧ p.2.1.length ≤ 1000) (fun p => ([Dx.enc (p.1.nx 1), (Al.aow true 1).enc p.2.1], .t (.v (.string (Nq p.1 p.2.1)))))
section
attribute [local go_sem] Gj AJ Bs A9 BF BP Bc CQ Bf Bh A1 lm List.length_append List.length_cons List.length_nil List.map_append List.map_nil Nat.zero_add List.nil_append AS.opn AS.cls AS.nilb AS.renb AS.up Bool.not_false Bool.not_true List.set_set List.set_cons_zero List.set_cons_succ List.set_nil List.mem_singleton forall_eq Ab
set_option maxHeartbeats 800000 in
theorem cM {G : Gt} (hG : Aj G) (hh : G.e 71 = AN Gj) : Gd G 113 (AN H9) := by
 refine Ik (dp := fun _ => true) (fn := Tryz.f113) (n := 2) rfl hG ?_
 rintro ⟨r, l, ⟨⟩⟩ hpre
 simp -implicitDefEqProofs only [Tryz.f113, go_sem, hh, Int.reduceAdd, seval] at hpre ⊢
 obtain ⟨h1, h2, h3, h4⟩ := hpre
 try dsimp only at h1 h2 h3 h4
 have hb := Bd (n := l.length) h1 h2
 with_reducible repeat' (first | apply ai | intro _ | ((first | apply s1 | apply s3 | apply s4) <;> intro hb <;> simp -implicitDefEqProofs only [hb, go_sem, hh, Int.reduceAdd, seval] <;> try simp only [qz] at hb))
 all_goals (try simp only [maxLen, tn] at *)
 all_goals first | rfl | omega | decide | assumption | skip
end
def Tb : Mt := GL (lc Dx (lc (DR.aow true 1) l0)) (fun p => 0 ≤ p.1.p ∧ p.1.p ≤ 1000000000 ∧ 1 ≤ p.2.1.length ∧ p.2.1.length ≤ 1000) (fun p => ([Dx.enc (p.1.nx 1), (DR.aow true 1).enc p.2.1], .t (.v (.int .i64 (F9 p.1 p.2.1)))))
section
attribute [local go_sem] Gj AJ Bs A9 BF BP Bc CQ Bf Bh A1 lm List.length_append List.length_cons List.length_nil List.map_append List.map_nil Nat.zero_add List.nil_append AS.opn AS.cls AS.nilb AS.renb AS.up Bool.not_false Bool.not_true List.set_set List.set_cons_zero List.set_cons_succ List.set_nil List.mem_singleton forall_eq Ab
set_option maxHeartbeats 800000 in
theorem oc {G : Gt} (hG : Aj G) (hh : G.e 71 = AN Gj) : Gd G 24 (AN Tb) := by
 refine Ik (dp := fun _ => true) (fn := Tryz.f24) (n := 2) rfl hG ?_
 rintro ⟨r, l, ⟨⟩⟩ hpre
 simp -implicitDefEqProofs only [Tryz.f24, go_sem, hh, Int.reduceAdd, seval] at hpre ⊢
 obtain ⟨h1, h2, h3, h4⟩ := hpre
 try dsimp only at h1 h2 h3 h4
 have hb := Bd (n := l.length) h1 h2
 with_reducible repeat' (first | apply ai | intro _ | ((first | apply s1 | apply s3 | apply s4) <;> intro hb <;> simp -implicitDefEqProofs only [hb, go_sem, hh, Int.reduceAdd, seval] <;> try simp only [qz] at hb))
 all_goals (try simp only [maxLen, tn] at *)
 all_goals first | rfl | omega | decide | assumption | skip
end
def tg : List ByteArray := [⟨#[111, 110, 101, 46, 111, 114, 103]⟩, ⟨#[116, 119, 111, 46, 111, 114, 103]⟩, ⟨#[104, 117, 98, 46, 110, 101, 116]⟩, ⟨#[120, 46, 99, 111, 109]⟩, ⟨#[102, 97, 114, 46, 99, 111, 109]⟩, ⟨#[111, 116, 104, 101, 114, 46, 99, 111, 109]⟩, ⟨#[97, 46, 111, 110, 101, 46, 111, 114, 103]⟩]
def vv : List ByteArray := [⟨#[97]⟩, ⟨#[98]⟩, ⟨#[97, 110, 110]⟩, ⟨#[98, 111, 98, 55]⟩]
def uY : List ByteArray := [⟨#[104, 101, 108, 108, 111]⟩, ⟨#[]⟩, ⟨#[46]⟩, ⟨#[46, 46]⟩, ⟨#[46, 100, 111, 116]⟩, ⟨#[97, 32, 108, 111, 110, 103, 101, 114, 32, 108, 105, 110, 101, 32, 111, 102, 32, 116, 101, 120, 116]⟩, ⟨#[72, 111, 112, 58, 32, 111, 110, 101, 46, 111, 114, 103]⟩, ⟨#[72, 111, 112, 58, 32]⟩, ⟨#[73, 100, 58, 32, 55]⟩, ⟨#[110, 111, 116, 32, 100, 101, 108, 105, 118, 101, 114, 101, 100, 58]⟩, ⟨#[60, 97, 64, 111, 110, 101, 46, 111, 114, 103, 62]⟩, ⟨#[108, 105, 110, 101, 32, 116, 104, 97, 116, 32, 105, 115, 32, 101, 120, 97, 99, 116, 108, 121, 32, 102, 111, 114, 116, 121, 32, 98, 121, 116, 101, 115, 32, 108, 111, 110, 103, 46, 46, 33]⟩]
def th (r : Rd) : ByteArray := Nq r tg
def ey (r : Rd) : ByteArray := Nq r uY
def D1 (r : Rd) : Ad := ⟨Nq r vv, th (r.nx 1)⟩
def CZ (r : Rd) : Ad × Rd :=
 if Af (r.nx 2) 10 = 0 then (⟨Nq (r.nx 3) [⟨#[]⟩, ⟨#[65]⟩, ⟨#[116, 111, 111, 108, 111, 110, 103, 110, 97, 109, 101]⟩, ⟨#[97, 64, 98]⟩], (D1 r).domain⟩, r.nx 4)
 else if Af (r.nx 2) 10 = 1 then (⟨(D1 r).user, Nq (r.nx 3) [⟨#[]⟩, ⟨#[97, 46, 46, 98]⟩, ⟨#[46, 97]⟩, ⟨#[97, 46, 98, 46, 99, 46, 100]⟩, ⟨#[85, 112, 46, 111, 114, 103]⟩]⟩, r.nx 4)
 else if Af (r.nx 2) 10 = 2 then (⟨⟨#[]⟩, ⟨#[]⟩⟩, r.nx 3)
 else (D1 r, r.nx 3)
def lG : Mt := GL (lc Dx l0) (fun p => 0 ≤ p.1.p ∧ p.1.p ≤ 999999990) (fun p => ([Dx.enc (p.1.nx 1)], .t (.v (.string (th p.1)))))
section
attribute [local go_sem] H9 AJ Bs A9 BF BP Bc CQ Bf Bh A1 lm List.length_append List.length_cons List.length_nil List.map_append List.map_nil Nat.zero_add List.nil_append AS.opn AS.cls AS.nilb AS.renb AS.up Bool.not_false Bool.not_true List.set_set List.set_cons_zero List.set_cons_succ List.set_nil List.mem_singleton forall_eq Gl IC ID IE EY EZ
set_option maxHeartbeats 800000 in
theorem cW {G : Gt} (hG : Aj G) (hh : G.e 113 = AN H9) : Gd G 136 (AN lG) := by
 refine Ik (dp := fun _ => true) (fn := Tryz.f136) (n := 1) rfl hG ?_
 rintro ⟨r, ⟨⟩⟩ hpre
 simp -implicitDefEqProofs only [Tryz.f136, go_sem, hh, Int.reduceAdd, seval] at hpre ⊢
 obtain ⟨h1, h2⟩ := hpre
 try dsimp only at h1 h2
 with_reducible repeat' (first | apply ai | intro _ | ((first | apply s1 | apply s3 | apply s4) <;> intro hb <;> simp -implicitDefEqProofs only [hb, go_sem, hh, Int.reduceAdd, seval] <;> try simp only [qz] at hb))
 all_goals (try simp only [maxLen, tn] at *)
 all_goals first | rfl | omega | decide | assumption | skip
end
def mE : Mt := GL (lc Dx l0) (fun p => 0 ≤ p.1.p ∧ p.1.p ≤ 999999990) (fun p => ([Dx.enc (p.1.nx 1)], .t (.v (.string (ey p.1)))))
section
attribute [local go_sem] H9 AJ Bs A9 BF BP Bc CQ Bf Bh A1 lm List.length_append List.length_cons List.length_nil List.map_append List.map_nil Nat.zero_add List.nil_append AS.opn AS.cls AS.nilb AS.renb AS.up Bool.not_false Bool.not_true List.set_set List.set_cons_zero List.set_cons_succ List.set_nil List.mem_singleton forall_eq Gl IC ID IE EY EZ
set_option maxHeartbeats 800000 in
theorem du {G : Gt} (hG : Aj G) (hh : G.e 113 = AN H9) : Gd G 229 (AN mE) := by
 refine Ik (dp := fun _ => true) (fn := Tryz.f229) (n := 1) rfl hG ?_
 rintro ⟨r, ⟨⟩⟩ hpre
 simp -implicitDefEqProofs only [Tryz.f229, go_sem, hh, Int.reduceAdd, seval] at hpre ⊢
 obtain ⟨h1, h2⟩ := hpre
 try dsimp only at h1 h2
 with_reducible repeat' (first | apply ai | intro _ | ((first | apply s1 | apply s3 | apply s4) <;> intro hb <;> simp -implicitDefEqProofs only [hb, go_sem, hh, Int.reduceAdd, seval] <;> try simp only [qz] at hb))
 all_goals (try simp only [maxLen, tn] at *)
 all_goals first | rfl | omega | decide | assumption | skip
end
def mi : Mt := GL (lc Dx l0) (fun p => 0 ≤ p.1.p ∧ p.1.p ≤ 999999980) (fun p => ([Dx.enc (p.1.nx 2)], .agg [.t (.v (.string (D1 p.1).user)), .t (.v (.string (D1 p.1).domain))]))
section
attribute [local go_sem] H9 lG AJ Bs A9 BF BP Bc CQ Bf Bh A1 lm List.length_append List.length_cons List.length_nil List.map_append List.map_nil Nat.zero_add List.nil_append AS.opn AS.cls AS.nilb AS.renb AS.up Bool.not_false Bool.not_true List.set_set List.set_cons_zero List.set_cons_succ List.set_nil List.mem_singleton forall_eq Gl IC ID IE EY EZ
set_option maxHeartbeats 800000 in
theorem pU {G : Gt} (hG : Aj G) (hh : G.e 113 = AN H9 ∧ G.e 136 = AN lG) : Gd G 72 (AN mi) := by
 refine Ik (dp := fun _ => true) (fn := Tryz.f72) (n := 1) rfl hG ?_
 rintro ⟨r, ⟨⟩⟩ hpre
 simp -implicitDefEqProofs only [Tryz.f72, go_sem, hh, Int.reduceAdd, seval] at hpre ⊢
 obtain ⟨h1, h2⟩ := hpre
 try dsimp only at h1 h2
 with_reducible repeat' (first | apply ai | intro _ | ((first | apply s1 | apply s3 | apply s4) <;> intro hb <;> simp -implicitDefEqProofs only [hb, go_sem, hh, Int.reduceAdd, seval] <;> try simp only [qz] at hb))
 all_goals (try simp only [maxLen, tn] at *)
 all_goals first | rfl | omega | decide | assumption | skip
end
theorem Rl {r : Rd} (h : Af (r.nx 2) 10 = 0) : CZ r = (⟨Nq (r.nx 3) [⟨#[]⟩, ⟨#[65]⟩, ⟨#[116, 111, 111, 108, 111, 110, 103, 110, 97, 109, 101]⟩, ⟨#[97, 64, 98]⟩], (D1 r).domain⟩, r.nx 4) := if_pos h
theorem Rm {r : Rd} (h0 : ¬ Af (r.nx 2) 10 = 0) (h : Af (r.nx 2) 10 = 1) : CZ r = (⟨(D1 r).user, Nq (r.nx 3) [⟨#[]⟩, ⟨#[97, 46, 46, 98]⟩, ⟨#[46, 97]⟩, ⟨#[97, 46, 98, 46, 99, 46, 100]⟩, ⟨#[85, 112, 46, 111, 114, 103]⟩]⟩, r.nx 4) := by unfold CZ; rw [if_neg h0, if_pos h]
theorem Rn {r : Rd} (h0 : ¬ Af (r.nx 2) 10 = 0) (h1 : ¬ Af (r.nx 2) 10 = 1) (h : Af (r.nx 2) 10 = 2) : CZ r = (⟨⟨#[]⟩, ⟨#[]⟩⟩, r.nx 3) := by unfold CZ; rw [if_neg h0, if_neg h1, if_pos h]
theorem Rp {r : Rd} (h0 : ¬ Af (r.nx 2) 10 = 0) (h1 : ¬ Af (r.nx 2) 10 = 1) (h : ¬ Af (r.nx 2) 10 = 2) : CZ r = (D1 r, r.nx 3) := by unfold CZ; rw [if_neg h0, if_neg h1, if_neg h]
def lB : Mt := GL (lc Dx l0) (fun p => 0 ≤ p.1.p ∧ p.1.p ≤ 999999950) (fun p => ([Dx.enc (CZ p.1).2], .agg [.t (.v (.string (CZ p.1).1.user)), .t (.v (.string (CZ p.1).1.domain))]))
section
attribute [local go_sem] mi Gj H9 AJ Bs A9 BF BP Bc CQ Bf Bh A1 lm List.length_append List.length_cons List.length_nil List.map_append List.map_nil Nat.zero_add List.nil_append AS.opn AS.cls AS.nilb AS.renb AS.up Bool.not_false Bool.not_true List.set_set List.set_cons_zero List.set_cons_succ List.set_nil List.mem_singleton forall_eq Gl IC ID IE EY EZ
set_option maxHeartbeats 1600000 in
theorem cN {G : Gt} (hG : Aj G) (hh : G.e 72 = AN mi ∧ G.e 71 = AN Gj ∧ G.e 113 = AN H9) : Gd G 114 (AN lB) := by
 refine Ik (dp := fun _ => true) (fn := Tryz.f114) (n := 1) rfl hG ?_
 rintro ⟨r, ⟨⟩⟩ hpre
 obtain ⟨h1, h2⟩ := hpre
 try dsimp only at h1 h2 ⊢
 by_cases q0 : Af (r.nx 2) 10 = 0
 ·rw [Rl q0]
  simp -implicitDefEqProofs only [Tryz.f114, q0, eq_self, decide_true, decide_false, go_sem, hh, Int.reduceAdd, seval]
  with_reducible repeat' (first | apply ai | intro _ | ((first | apply s1 | apply s3 | apply s4) <;> intro hb <;> simp -implicitDefEqProofs only [hb, go_sem, hh, Int.reduceAdd, seval] <;> try simp only [qz] at hb))
  all_goals (try simp only [maxLen, tn] at *)
  all_goals first | rfl | omega | decide | assumption | skip
 ·by_cases q1 : Af (r.nx 2) 10 = 1
  ·rw [Rm q0 q1]
   simp -implicitDefEqProofs only [Tryz.f114, q1, Int.reduceEq, eq_self, decide_true, decide_false, go_sem, hh, Int.reduceAdd, seval]
   with_reducible repeat' (first | apply ai | intro _ | ((first | apply s1 | apply s3 | apply s4) <;> intro hb <;> simp -implicitDefEqProofs only [hb, go_sem, hh, Int.reduceAdd, seval] <;> try simp only [qz] at hb))
   all_goals (try simp only [maxLen, tn] at *)
   all_goals first | rfl | omega | decide | assumption | skip
  ·by_cases q2 : Af (r.nx 2) 10 = 2
   ·rw [Rn q0 q1 q2]
    simp -implicitDefEqProofs only [Tryz.f114, q2, Int.reduceEq, eq_self, decide_true, decide_false, go_sem, hh, Int.reduceAdd, seval]
    with_reducible repeat' (first | apply ai | intro _ | ((first | apply s1 | apply s3 | apply s4) <;> intro hb <;> simp -implicitDefEqProofs only [hb, go_sem, hh, Int.reduceAdd, seval] <;> try simp only [qz] at hb))
    all_goals (try simp only [maxLen, tn] at *)
    all_goals first | rfl | omega | decide | assumption | skip
   ·rw [Rp q0 q1 q2]
    simp -implicitDefEqProofs only [Tryz.f114, q0, q1, q2, eq_self, decide_true, decide_false, go_sem, hh, Int.reduceAdd, seval]
    with_reducible repeat' (first | apply ai | intro _ | ((first | apply s1 | apply s3 | apply s4) <;> intro hb <;> simp -implicitDefEqProofs only [hb, go_sem, hh, Int.reduceAdd, seval] <;> try simp only [qz] at hb))
    all_goals (try simp only [maxLen, tn] at *)
    all_goals first | rfl | omega | decide | assumption | skip
end
def LN (r : Rd) (n : Nat) : List ByteArray := (List.range n).map fun (j : Nat) => ey (r.nx (j : Int))
theorem ko (r : Rd) (n : Nat) : LN r (n + 1) = LN r n ++ [ey (r.nx n)] := by
 unfold LN; rw [List.range_succ, List.map_append]; rfl
theorem OJ (r : Rd) (n : Nat) : (LN r n).length = n := by unfold LN; simp
def I5 (r : Rd) (m : Int) : List ByteArray := LN (r.nx 1) (Af r (m + 1)).toNat
def Mi (r : Rd) (m : Int) : Rd := r.nx (1 + Af r (m + 1))
def l6 : Mt := GL (lc Dx (lc A6 l0)) (fun p => 0 ≤ p.1.p ∧ p.1.p ≤ 999999000 ∧ 0 ≤ p.2.1 ∧ p.2.1 ≤ 100) (fun p => ([Dx.enc (Mi p.1 p.2.1), A6.enc p.2.1], .o true 1 ((I5 p.1 p.2.1).map AH)))
section
attribute [local go_sem] Gj mE AJ Bs A9 BF BP Bc CQ Bf Bh A1 lm List.length_append List.length_cons List.length_nil List.map_append List.map_nil Nat.zero_add List.nil_append AS.opn AS.cls AS.nilb AS.renb AS.up Bool.not_false Bool.not_true List.set_set List.set_cons_zero List.set_cons_succ List.set_nil List.mem_singleton forall_eq
set_option maxHeartbeats 1600000 in
theorem db {G : Gt} (hG : Aj G) (hh : G.e 71 = AN Gj ∧ G.e 229 = AN mE) : Gd G 209 (AN l6) := by
 refine Ik (dp := fun _ => true) (fn := Tryz.f209) (n := 2) rfl hG ?_
 rintro ⟨r, m, ⟨⟩⟩ hpre
 simp -implicitDefEqProofs only [Tryz.f209, go_sem, hh, Int.reduceAdd, seval] at hpre ⊢
 obtain ⟨h1, h2, h3, h4⟩ := hpre
 try dsimp only at h1 h2 h3 h4
 have hb := Bd (n := m + 1) h1 (by omega)
 obtain ⟨n, hn⟩ : ∃ n : Nat, n = (Af r (m + 1)).toNat := ⟨_, rfl⟩
 have hn2 : Af r (m + 1) = n := by omega
 have e1 : Mi r m = r.nx (1 + n) := by unfold Mi; rw [hn2]
 have e2 : I5 r m = LN (r.nx 1) n := by unfold I5; rw [← hn]
 rw [e1, e2]
 simp -implicitDefEqProofs only [hn2, go_sem, hh, Int.reduceAdd, seval]
 with_reducible repeat' (first | apply ai | intro _ | ((first | apply s1 | apply s3 | apply s4) <;> intro hb <;> simp -implicitDefEqProofs only [hb, go_sem, hh, Int.reduceAdd, seval] <;> try simp only [qz] at hb))
 all_goals (try simp only [maxLen, tn] at *)
 all_goals first | rfl | omega | decide | assumption | skip
 refine AF [(5, 1905, true, 1)] (ι := {i : Nat // i ≤ n}) (fun p => ⟨[(0, .pb 1900 0), (5, .h 1905), (6, .t (.v (.int .i64 (n - p.1))))], [(1900, some (.box [.t (.sl 1 (r.b.map CO)), .t (.v (.int .i64 (r.p + (1 + p.1))))])), (1905, some (.arr true 1 ((LN (r.nx 1) p.1).map AH)))]⟩) (fun p => n - p.1) ⟨0, by simp⟩ rfl ?_ ?_
 ·simp -implicitDefEqProofs only [go_sem, hh, Int.reduceAdd, seval]
  simp [LN]
 ·rintro ⟨i, hi⟩
  have hlen := OJ (r.nx 1) i
  by_cases hlt : (n : Int) - i > 0
  ·simp -implicitDefEqProofs only [hlt, decide_true, tn, go_sem, hh, Int.reduceAdd, seval]
   with_reducible repeat' (first | apply ai | intro _ | ((first | apply s1 | apply s3 | apply s4) <;> intro hb <;> simp -implicitDefEqProofs only [hb, go_sem, hh, Int.reduceAdd, seval] <;> try simp only [qz] at hb))
   all_goals (try simp only [maxLen, tn] at *)
   all_goals first | rfl | omega | decide | assumption | skip
   refine ⟨⟨i + 1, by omega⟩, by dsimp only; omega, ?_⟩
   simp -implicitDefEqProofs only [ko, go_sem, hh, Int.reduceAdd, seval]
   try simp
   omega
  ·have hz : i = n := by omega
   subst hz
   simp -implicitDefEqProofs only [hlt, decide_false, go_sem, hh, Int.reduceAdd, seval]
   with_reducible repeat' (first | apply ai | intro _ | ((first | apply s1 | apply s3 | apply s4) <;> intro hb <;> simp -implicitDefEqProofs only [hb, go_sem, hh, Int.reduceAdd, seval] <;> try simp only [qz] at hb))
   all_goals (try simp only [maxLen, tn] at *)
   all_goals first | rfl | omega | decide | assumption | skip
end
def qY : Ad := ⟨⟨#[]⟩, ⟨#[]⟩⟩
def DP (r : Rd) : Nat → List Ad
 | 0 => []
 | k + 1 => if D1 (r.nx (2 * (k : Int))) ∈ DP r k then DP r k else DP r k ++ [D1 (r.nx (2 * (k : Int)))]
theorem jb {r : Rd} {k : Nat} (h : D1 (r.nx (2 * (k : Int))) ∈ DP r k) : DP r (k + 1) = DP r k := if_pos h
theorem ja {r : Rd} {k : Nat} (h : ¬ D1 (r.nx (2 * (k : Int))) ∈ DP r k) : DP r (k + 1) = DP r k ++ [D1 (r.nx (2 * (k : Int)))] := if_neg h
theorem Jd (r : Rd) : ∀ k, (DP r k).length ≤ k
 | 0 => Nat.le_refl _
 | k + 1 => by
   have := Jd r k
   unfold DP; split
   ·omega
   ·rw [List.length_append]; simp; omega
theorem IY (r : Rd) : ∀ k, (DP r k).Nodup
 | 0 => List.nodup_nil
 | k + 1 => by
   unfold DP; split
   ·exact IY r k
   ·rename_i h
    rw [List.nodup_append]
    exact ⟨IY r k, by simp, fun a ha b hb e => h (by rw [List.mem_singleton.1 hb] at e; rw [← e]; exact ha)⟩
theorem Nh {r : Rd} {a : Ad} : ∀ {k : Nat}, a ∈ DP r k → ∃ j, j < k ∧ a = D1 (r.nx (2 * (j : Int)))
 | k + 1, h => by
   unfold DP at h; split at h
   ·obtain ⟨j, hj, e⟩ := Nh h
    exact ⟨j, by omega, e⟩
   ·rcases List.mem_append.1 h with h | h
    ·obtain ⟨j, hj, e⟩ := Nh h
     exact ⟨j, by omega, e⟩
    ·exact ⟨k, by omega, List.mem_singleton.1 h⟩
theorem rk (r : Rd) (k : Nat) : 1 ≤ (DP r (k + 1)).length := by
 unfold DP; split
 ·rename_i h
  have := List.length_pos_of_mem h
  omega
 ·try simp
def Sa (r : Rd) : Int := F9 (r.nx 2) [1, 4, 9]
def Az (r : Rd) : Rd := Mi (r.nx 3) (Sa r)
def I7 (r : Rd) : Int := 1 + Af ((Az r).nx 1) 4
def L5 (r : Rd) : Ad := if Af (Az r) 5 = 0 then qY else D1 r
def Xn (r : Rd) : Ml := ⟨L5 r, DP ((Az r).nx 2) (I7 r).toNat, I5 (r.nx 3) (Sa r)⟩
def Oy (r : Rd) : Rd := (Az r).nx (2 + 2 * I7 r)
theorem Xo {r : Rd} (h : 0 ≤ r.p) (h1 : r.p ≤ 999999900) : 1 ≤ Sa r ∧ Sa r ≤ 9 := by
 have := JZ (r := r.nx 2) (l := [1, 4, 9]) (by rw [AJ]; omega) (by rw [AJ]; omega) (by decide)
 unfold Sa
 simp only [List.mem_cons, List.not_mem_nil, or_false] at this
 omega
theorem kp {r : Rd} {m : Int} (h : 0 ≤ r.p) (h1 : r.p ≤ 999999950) (h2 : 0 ≤ m) : (Mi r m).b = r.b ∧ r.p + 1 ≤ (Mi r m).p ∧ (Mi r m).p ≤ r.p + 1 + m := by
 have := Bd (r := r) (n := m + 1) h (by omega)
 unfold Mi
 rw [AJ, Bs]
 exact ⟨rfl, by omega, by omega⟩
theorem ND {r : Rd} (h : 0 ≤ r.p) (h1 : r.p ≤ 999999900) : (Az r).b = r.b ∧ r.p + 4 ≤ (Az r).p ∧ (Az r).p ≤ r.p + 13 := by
 have h2 := Xo h h1
 have h3 := kp (r := r.nx 3) (m := Sa r) (by rw [AJ]; omega) (by rw [AJ]; omega) (by omega)
 rw [AJ, Bs] at h3
 unfold Az
 exact ⟨h3.1, by omega, by omega⟩
theorem Xm {r : Rd} (h : 0 ≤ r.p) (h1 : r.p ≤ 999999900) : 1 ≤ I7 r ∧ I7 r ≤ 4 := by
 have h2 := ND h h1
 have h3 := Bd (r := (Az r).nx 1) (n := 4) (by rw [AJ]; omega) (by rw [AJ]; omega)
 unfold I7
 omega
theorem jD {r : Rd} (h : 0 ≤ r.p) (h1 : r.p ≤ 999999900) : (Oy r).b = r.b ∧ r.p + 4 ≤ (Oy r).p ∧ (Oy r).p ≤ r.p + 23 := by
 have h2 := ND h h1
 have h3 := Xm h h1
 unfold Oy
 rw [AJ, Bs]
 exact ⟨h2.1, by omega, by omega⟩
theorem yg {a b : Ad} : ((decide (a.user = b.user) && decide (a.domain = b.domain)) = true) = (a = b) := by
 rw [BW]; simp
theorem yh {a b : Ad} : ((decide (a.user = b.user) && decide (a.domain = b.domain)) = false) = ¬ a = b := by
 rw [BW]; simp
theorem ue {r : Rd} : F9 (r.nx 2) [1, 4, 9] = Sa r := rfl
theorem qU {r : Rd} : Mi (r.nx 3) (Sa r) = Az r := rfl
theorem ud {r : Rd} : 1 + Af ((Az r).nx 1) 4 = I7 r := rfl
def Va : Mt := GL (lc Dx l0) (fun p => 0 ≤ p.1.p ∧ p.1.p ≤ 999998000) (fun p => ([Dx.enc (Oy p.1)], Q7 (Xn p.1)))
section
attribute [local go_sem] mi Tb l6 Gj AJ Bs A9 BF BP Bc CQ Bf Bh A1 lm List.length_append List.length_cons List.length_nil List.map_append List.map_nil Nat.zero_add List.nil_append AS.opn AS.cls AS.nilb AS.renb AS.up Bool.not_false Bool.not_true List.set_set List.set_cons_zero List.set_cons_succ List.set_nil List.mem_singleton forall_eq FU ue qU ud Ab IC ID IE EY EZ
set_option maxHeartbeats 3200000 in
theorem dR {G : Gt} (hG : Aj G) (hh : G.e 72 = AN mi ∧ G.e 24 = AN Tb ∧ G.e 209 = AN l6 ∧ G.e 71 = AN Gj) : Gd G 189 (AN Va) := by
 refine Ik (dp := fun n => !(Nat.beq n 100004 || Nat.beq n 100006)) (fn := Tryz.f189) (n := 1) rfl hG ?_
 rintro ⟨r, ⟨⟩⟩ hpre
 obtain ⟨h1, h2⟩ := hpre
 try dsimp only at h1 h2 ⊢
 have f1 := Xo h1 (by omega)
 have f2 := ND h1 (by omega)
 have f3 := Xm h1 (by omega)
 by_cases q : Af (Az r) 5 = 0
 ·have hf : L5 r = qY := if_pos q
  simp -implicitDefEqProofs only [Tryz.f189, q, eq_self, decide_true, go_sem, hh, Int.reduceAdd, seval]
  with_reducible repeat' (first | apply ai | intro _ | ((first | apply s1 | apply s3 | apply s4) <;> intro hb <;> simp -implicitDefEqProofs only [hb, go_sem, hh, Int.reduceAdd, seval] <;> try simp only [qz] at hb))
  all_goals (try simp only [maxLen, tn] at *)
  all_goals first | rfl | omega | decide | assumption | skip
  refine Ak (Le.nilb 1003 2 1907 true 2 rfl rfl rfl) (AW ?_)
  simp -implicitDefEqProofs only [go_sem, hh, Int.reduceAdd, seval]
  with_reducible repeat' (first | apply ai | intro _ | ((first | apply s1 | apply s3 | apply s4) <;> intro hb <;> simp -implicitDefEqProofs only [hb, go_sem, hh, Int.reduceAdd, seval] <;> try simp only [qz] at hb))
  all_goals (try simp only [maxLen, tn] at *)
  all_goals first | rfl | omega | decide | assumption | skip
  refine AF [] (ι := {i : Nat // (i : Int) ≤ I7 r}) (fun ⟨i, _⟩ => ⟨[(0, .pb 1900 0), (2, .pb 1002 0), (3, .pb 1003 0), (4, .t (.v (.int .i64 (I7 r - i))))], [(1900, some (.box [.t (.sl 1 ((Az r).b.map CO)), .t (.v (.int .i64 ((Az r).p + (2 + 2 * i))))])), (1002, some (.box [.t (.v (.string ⟨#[]⟩)), .t (.v (.string ⟨#[]⟩)), .nil, .nil])), (1003, some (.box [.t (.v (.string ⟨#[]⟩)), .t (.v (.string ⟨#[]⟩)), .h 1907, .h 1014])), (1014, some (.arr true 1 ((I5 (r.nx 3) (Sa r)).map AH))), (1907, some (.arr true 2 ((DP ((Az r).nx 2) i).map At)))]⟩) (fun p => (I7 r).toNat - p.1) ⟨0, by omega⟩ rfl ?_ ?_
  ·simp -implicitDefEqProofs only [go_sem, hh, Int.reduceAdd, seval]
   simp [DP]
  ·rintro ⟨i, hi⟩
   dsimp only
   have hlen := Jd ((Az r).nx 2) i
   by_cases hlt : I7 r - (i : Int) > 0
   ·simp -implicitDefEqProofs only [hlt, decide_true, tn, go_sem, hh, Int.reduceAdd, seval]
    with_reducible repeat' (first | apply ai | intro _ | ((first | apply s1 | apply s3 | apply s4) <;> intro hb <;> simp -implicitDefEqProofs only [hb, go_sem, hh, Int.reduceAdd, seval] <;> try simp only [qz] at hb))
    all_goals (try simp only [maxLen, tn] at *)
    all_goals first | rfl | omega | decide | assumption | skip
    refine AF [] (ι := {p : Nat × Bool // p.1 ≤ (DP ((Az r).nx 2) i).length ∧ (p.2 = true ↔ ∃ j, j < p.1 ∧ (DP ((Az r).nx 2) i).getD j default = (D1 ((Az r).nx (2 + 2 * (i : Int)))))}) (fun ⟨⟨k, b⟩, _⟩ => ⟨[(0, .pb 1900 0), (2, .pb 1002 0), (3, .pb 1003 0), (4, .t (.v (.int .i64 (I7 r - i)))), (5, .pb 1005 0), (6, .t (.v (.bool b))), (7, .t (.v (.int .i64 k)))], [(1900, some (.box [.t (.sl 1 ((Az r).b.map CO)), .t (.v (.int .i64 ((Az r).p + (4 + 2 * i))))])), (1002, some (.box [.t (.v (.string ⟨#[]⟩)), .t (.v (.string ⟨#[]⟩)), .nil, .nil])), (1003, some (.box [.t (.v (.string ⟨#[]⟩)), .t (.v (.string ⟨#[]⟩)), .h 1907, .h 1014])), (1005, some (.box ((At (D1 ((Az r).nx (2 + 2 * (i : Int))))).map .t))), (1014, some (.arr true 1 ((I5 (r.nx 3) (Sa r)).map AH))), (1907, some (.arr true 2 ((DP ((Az r).nx 2) i).map At)))]⟩) (fun p => (DP ((Az r).nx 2) i).length - p.1.1) ⟨(0, false), by simp, by simp⟩ rfl ?_ ?_
    ·simp -implicitDefEqProofs only [go_sem, hh, Int.reduceAdd, seval]
     try simp
     try omega
    ·rintro ⟨⟨k, b⟩, hk, hb2⟩
     dsimp only at hk hb2 ⊢
     by_cases hlt2 : (k : Int) < (DP ((Az r).nx 2) i).length
     ·cases b
      ·have hn : ¬ ∃ j, j < k ∧ (DP ((Az r).nx 2) i).getD j default = (D1 ((Az r).nx (2 + 2 * (i : Int)))) := fun z => by have := hb2.2 z; cases this
       simp -implicitDefEqProofs only [hlt2, decide_true, tn, go_sem, hh, Int.reduceAdd, seval]
       with_reducible repeat' (first | apply ai | intro _ | ((first | apply s1 | apply s3 | apply s4) <;> intro hb <;> simp -implicitDefEqProofs only [hb, go_sem, hh, Int.reduceAdd, seval] <;> try simp only [qz] at hb))
       all_goals (try simp only [maxLen, tn, yg, yh] at *)
       all_goals first | rfl | omega | decide | assumption | skip
       refine ⟨⟨(k + 1, decide ((DP ((Az r).nx 2) i).getD k default = (D1 ((Az r).nx (2 + 2 * (i : Int)))))), by dsimp only; omega, by dsimp only; rw [decide_eq_true_eq]; exact ⟨fun z => ⟨k, by omega, z⟩, fun ⟨j, hj, z⟩ => by by_cases e : j = k; (rw [← e]; exact z); (exact absurd ⟨j, by omega, z⟩ hn)⟩⟩, by dsimp only; omega, ?_⟩
       simp -implicitDefEqProofs only [go_sem, hh, Int.reduceAdd, seval]
       simp [BW]
      ·have hn : ∃ j, j < k ∧ (DP ((Az r).nx 2) i).getD j default = (D1 ((Az r).nx (2 + 2 * (i : Int)))) := hb2.1 rfl
       simp -implicitDefEqProofs only [hlt2, decide_true, tn, go_sem, hh, Int.reduceAdd, seval]
       with_reducible repeat' (first | apply ai | intro _ | ((first | apply s1 | apply s3 | apply s4) <;> intro hb <;> simp -implicitDefEqProofs only [hb, go_sem, hh, Int.reduceAdd, seval] <;> try simp only [qz] at hb))
       all_goals (try simp only [maxLen, tn] at *)
       all_goals first | rfl | omega | decide | assumption | skip
       refine ⟨⟨(k + 1, true), by dsimp only; omega, by dsimp only; exact ⟨fun _ => hn.elim fun j z => ⟨j, by omega, z.2⟩, fun _ => rfl⟩⟩, by dsimp only; omega, ?_⟩
       simp -implicitDefEqProofs only [go_sem, hh, Int.reduceAdd, seval]
       try simp
     ·have hE : b = true ↔ (D1 ((Az r).nx (2 + 2 * (i : Int)))) ∈ DP ((Az r).nx 2) i := hb2.trans ⟨fun ⟨j, hj, z⟩ => z ▸ AE (by omega), fun z => Classical.byContradiction fun f => by
        have := BX (P := fun x : Ad => ¬ x = (D1 ((Az r).nx (2 + 2 * (i : Int))))) (xs := DP ((Az r).nx 2) i) (fun j hj e => f ⟨j, by omega, e⟩) _ z
        exact this rfl⟩
      cases b
      ·have hm : ¬ D1 (((Az r).nx 2).nx (2 * (i : Int))) ∈ DP ((Az r).nx 2) i := fun z => by rw [Bc] at z; have := hE.2 z; cases this
       have hs := ja hm
       simp -implicitDefEqProofs only [hlt2, decide_false, go_sem, hh, Int.reduceAdd, seval]
       with_reducible repeat' (first | apply ai | intro _ | ((first | apply s1 | apply s3 | apply s4) <;> intro hb <;> simp -implicitDefEqProofs only [hb, go_sem, hh, Int.reduceAdd, seval] <;> try simp only [qz] at hb))
       all_goals (try simp only [maxLen, tn] at *)
       all_goals first | rfl | omega | decide | assumption | skip
       refine Ak (Le.renb 1003 2 1053 1907 rfl rfl rfl rfl) (AW ?_)
       simp -implicitDefEqProofs only [go_sem, hh, Int.reduceAdd, seval]
       with_reducible repeat' (first | apply ai | intro _ | ((first | apply s1 | apply s3 | apply s4) <;> intro hb <;> simp -implicitDefEqProofs only [hb, go_sem, hh, Int.reduceAdd, seval] <;> try simp only [qz] at hb))
       all_goals (try simp only [maxLen, tn] at *)
       all_goals first | rfl | omega | decide | assumption | skip
       refine ⟨⟨i + 1, by omega⟩, by dsimp only; omega, ?_⟩
       simp -implicitDefEqProofs only [hs, go_sem, hh, Int.reduceAdd, seval]
       simp [KG, Bc]
       try omega
      ·have hm : D1 (((Az r).nx 2).nx (2 * (i : Int))) ∈ DP ((Az r).nx 2) i := by rw [Bc]; exact hE.1 rfl
       have hs := jb hm
       simp -implicitDefEqProofs only [hlt2, decide_false, go_sem, hh, Int.reduceAdd, seval]
       with_reducible repeat' (first | apply ai | intro _ | ((first | apply s1 | apply s3 | apply s4) <;> intro hb <;> simp -implicitDefEqProofs only [hb, go_sem, hh, Int.reduceAdd, seval] <;> try simp only [qz] at hb))
       all_goals (try simp only [maxLen, tn] at *)
       all_goals first | rfl | omega | decide | assumption | skip
       refine AW ?_
       simp -implicitDefEqProofs only [go_sem, hh, Int.reduceAdd, seval]
       with_reducible repeat' (first | apply ai | intro _ | ((first | apply s1 | apply s3 | apply s4) <;> intro hb <;> simp -implicitDefEqProofs only [hb, go_sem, hh, Int.reduceAdd, seval] <;> try simp only [qz] at hb))
       all_goals (try simp only [maxLen, tn] at *)
       all_goals first | rfl | omega | decide | assumption | skip
       refine ⟨⟨i + 1, by omega⟩, by dsimp only; omega, ?_⟩
       simp -implicitDefEqProofs only [hs, go_sem, hh, Int.reduceAdd, seval]
       try simp
       try omega
   ·have hz : (i : Int) = I7 r := by omega
    have hz2 : (I7 r).toNat = i := by omega
    have e1 : Oy r = (Az r).nx (2 + 2 * (i : Int)) := by unfold Oy; rw [hz]
    have e2 : Xn r = ⟨qY, DP ((Az r).nx 2) i, I5 (r.nx 3) (Sa r)⟩ := by unfold Xn; rw [hf, hz2]
    rw [e1, e2]
    simp -implicitDefEqProofs only [hlt, decide_false, go_sem, hh, Int.reduceAdd, seval]
    with_reducible repeat' (first | apply ai | intro _ | ((first | apply s1 | apply s3 | apply s4) <;> intro hb <;> simp -implicitDefEqProofs only [hb, go_sem, hh, Int.reduceAdd, seval] <;> try simp only [qz] at hb))
    all_goals (try simp only [maxLen, tn] at *)
    all_goals first | rfl | omega | decide | assumption | skip
 ·have hf : L5 r = D1 r := if_neg q
  simp -implicitDefEqProofs only [Tryz.f189, q, decide_false, go_sem, hh, Int.reduceAdd, seval]
  with_reducible repeat' (first | apply ai | intro _ | ((first | apply s1 | apply s3 | apply s4) <;> intro hb <;> simp -implicitDefEqProofs only [hb, go_sem, hh, Int.reduceAdd, seval] <;> try simp only [qz] at hb))
  all_goals (try simp only [maxLen, tn] at *)
  all_goals first | rfl | omega | decide | assumption | skip
  refine Ak (Le.nilb 1003 2 1907 true 2 rfl rfl rfl) (AW ?_)
  simp -implicitDefEqProofs only [go_sem, hh, Int.reduceAdd, seval]
  with_reducible repeat' (first | apply ai | intro _ | ((first | apply s1 | apply s3 | apply s4) <;> intro hb <;> simp -implicitDefEqProofs only [hb, go_sem, hh, Int.reduceAdd, seval] <;> try simp only [qz] at hb))
  all_goals (try simp only [maxLen, tn] at *)
  all_goals first | rfl | omega | decide | assumption | skip
  refine AF [] (ι := {i : Nat // (i : Int) ≤ I7 r}) (fun ⟨i, _⟩ => ⟨[(0, .pb 1900 0), (2, .pb 1002 0), (3, .pb 1003 0), (4, .t (.v (.int .i64 (I7 r - i))))], [(1900, some (.box [.t (.sl 1 ((Az r).b.map CO)), .t (.v (.int .i64 ((Az r).p + (2 + 2 * i))))])), (1002, some (.box [.t (.v (.string ⟨#[]⟩)), .t (.v (.string ⟨#[]⟩)), .nil, .nil])), (1003, some (.box [.t (.v (.string (D1 r).user)), .t (.v (.string (D1 r).domain)), .h 1907, .h 1014])), (1014, some (.arr true 1 ((I5 (r.nx 3) (Sa r)).map AH))), (1907, some (.arr true 2 ((DP ((Az r).nx 2) i).map At)))]⟩) (fun p => (I7 r).toNat - p.1) ⟨0, by omega⟩ rfl ?_ ?_
  ·simp -implicitDefEqProofs only [go_sem, hh, Int.reduceAdd, seval]
   simp [DP]
  ·rintro ⟨i, hi⟩
   dsimp only
   have hlen := Jd ((Az r).nx 2) i
   by_cases hlt : I7 r - (i : Int) > 0
   ·simp -implicitDefEqProofs only [hlt, decide_true, tn, go_sem, hh, Int.reduceAdd, seval]
    with_reducible repeat' (first | apply ai | intro _ | ((first | apply s1 | apply s3 | apply s4) <;> intro hb <;> simp -implicitDefEqProofs only [hb, go_sem, hh, Int.reduceAdd, seval] <;> try simp only [qz] at hb))
    all_goals (try simp only [maxLen, tn] at *)
    all_goals first | rfl | omega | decide | assumption | skip
    refine AF [] (ι := {p : Nat × Bool // p.1 ≤ (DP ((Az r).nx 2) i).length ∧ (p.2 = true ↔ ∃ j, j < p.1 ∧ (DP ((Az r).nx 2) i).getD j default = (D1 ((Az r).nx (2 + 2 * (i : Int)))))}) (fun ⟨⟨k, b⟩, _⟩ => ⟨[(0, .pb 1900 0), (2, .pb 1002 0), (3, .pb 1003 0), (4, .t (.v (.int .i64 (I7 r - i)))), (5, .pb 1005 0), (6, .t (.v (.bool b))), (7, .t (.v (.int .i64 k)))], [(1900, some (.box [.t (.sl 1 ((Az r).b.map CO)), .t (.v (.int .i64 ((Az r).p + (4 + 2 * i))))])), (1002, some (.box [.t (.v (.string ⟨#[]⟩)), .t (.v (.string ⟨#[]⟩)), .nil, .nil])), (1003, some (.box [.t (.v (.string (D1 r).user)), .t (.v (.string (D1 r).domain)), .h 1907, .h 1014])), (1005, some (.box ((At (D1 ((Az r).nx (2 + 2 * (i : Int))))).map .t))), (1014, some (.arr true 1 ((I5 (r.nx 3) (Sa r)).map AH))), (1907, some (.arr true 2 ((DP ((Az r).nx 2) i).map At)))]⟩) (fun p => (DP ((Az r).nx 2) i).length - p.1.1) ⟨(0, false), by simp, by simp⟩ rfl ?_ ?_
    ·simp -implicitDefEqProofs only [go_sem, hh, Int.reduceAdd, seval]
     try simp
     try omega
    ·rintro ⟨⟨k, b⟩, hk, hb2⟩
     dsimp only at hk hb2 ⊢
     by_cases hlt2 : (k : Int) < (DP ((Az r).nx 2) i).length
     ·cases b
      ·have hn : ¬ ∃ j, j < k ∧ (DP ((Az r).nx 2) i).getD j default = (D1 ((Az r).nx (2 + 2 * (i : Int)))) := fun z => by have := hb2.2 z; cases this
       simp -implicitDefEqProofs only [hlt2, decide_true, tn, go_sem, hh, Int.reduceAdd, seval]
       with_reducible repeat' (first | apply ai | intro _ | ((first | apply s1 | apply s3 | apply s4) <;> intro hb <;> simp -implicitDefEqProofs only [hb, go_sem, hh, Int.reduceAdd, seval] <;> try simp only [qz] at hb))
       all_goals (try simp only [maxLen, tn, yg, yh] at *)
       all_goals first | rfl | omega | decide | assumption | skip
       refine ⟨⟨(k + 1, decide ((DP ((Az r).nx 2) i).getD k default = (D1 ((Az r).nx (2 + 2 * (i : Int)))))), by dsimp only; omega, by dsimp only; rw [decide_eq_true_eq]; exact ⟨fun z => ⟨k, by omega, z⟩, fun ⟨j, hj, z⟩ => by by_cases e : j = k; (rw [← e]; exact z); (exact absurd ⟨j, by omega, z⟩ hn)⟩⟩, by dsimp only; omega, ?_⟩
       simp -implicitDefEqProofs only [go_sem, hh, Int.reduceAdd, seval]
       simp [BW]
      ·have hn : ∃ j, j < k ∧ (DP ((Az r).nx 2) i).getD j default = (D1 ((Az r).nx (2 + 2 * (i : Int)))) := hb2.1 rfl
       simp -implicitDefEqProofs only [hlt2, decide_true, tn, go_sem, hh, Int.reduceAdd, seval]
       with_reducible repeat' (first | apply ai | intro _ | ((first | apply s1 | apply s3 | apply s4) <;> intro hb <;> simp -implicitDefEqProofs only [hb, go_sem, hh, Int.reduceAdd, seval] <;> try simp only [qz] at hb))
       all_goals (try simp only [maxLen, tn] at *)
       all_goals first | rfl | omega | decide | assumption | skip
       refine ⟨⟨(k + 1, true), by dsimp only; omega, by dsimp only; exact ⟨fun _ => hn.elim fun j z => ⟨j, by omega, z.2⟩, fun _ => rfl⟩⟩, by dsimp only; omega, ?_⟩
       simp -implicitDefEqProofs only [go_sem, hh, Int.reduceAdd, seval]
       try simp
     ·have hE : b = true ↔ (D1 ((Az r).nx (2 + 2 * (i : Int)))) ∈ DP ((Az r).nx 2) i := hb2.trans ⟨fun ⟨j, hj, z⟩ => z ▸ AE (by omega), fun z => Classical.byContradiction fun f => by
        have := BX (P := fun x : Ad => ¬ x = (D1 ((Az r).nx (2 + 2 * (i : Int))))) (xs := DP ((Az r).nx 2) i) (fun j hj e => f ⟨j, by omega, e⟩) _ z
        exact this rfl⟩
      cases b
      ·have hm : ¬ D1 (((Az r).nx 2).nx (2 * (i : Int))) ∈ DP ((Az r).nx 2) i := fun z => by rw [Bc] at z; have := hE.2 z; cases this
       have hs := ja hm
       simp -implicitDefEqProofs only [hlt2, decide_false, go_sem, hh, Int.reduceAdd, seval]
       with_reducible repeat' (first | apply ai | intro _ | ((first | apply s1 | apply s3 | apply s4) <;> intro hb <;> simp -implicitDefEqProofs only [hb, go_sem, hh, Int.reduceAdd, seval] <;> try simp only [qz] at hb))
       all_goals (try simp only [maxLen, tn] at *)
       all_goals first | rfl | omega | decide | assumption | skip
       refine Ak (Le.renb 1003 2 1053 1907 rfl rfl rfl rfl) (AW ?_)
       simp -implicitDefEqProofs only [go_sem, hh, Int.reduceAdd, seval]
       with_reducible repeat' (first | apply ai | intro _ | ((first | apply s1 | apply s3 | apply s4) <;> intro hb <;> simp -implicitDefEqProofs only [hb, go_sem, hh, Int.reduceAdd, seval] <;> try simp only [qz] at hb))
       all_goals (try simp only [maxLen, tn] at *)
       all_goals first | rfl | omega | decide | assumption | skip
       refine ⟨⟨i + 1, by omega⟩, by dsimp only; omega, ?_⟩
       simp -implicitDefEqProofs only [hs, go_sem, hh, Int.reduceAdd, seval]
       simp [KG, Bc]
       try omega
      ·have hm : D1 (((Az r).nx 2).nx (2 * (i : Int))) ∈ DP ((Az r).nx 2) i := by rw [Bc]; exact hE.1 rfl
       have hs := jb hm
       simp -implicitDefEqProofs only [hlt2, decide_false, go_sem, hh, Int.reduceAdd, seval]
       with_reducible repeat' (first | apply ai | intro _ | ((first | apply s1 | apply s3 | apply s4) <;> intro hb <;> simp -implicitDefEqProofs only [hb, go_sem, hh, Int.reduceAdd, seval] <;> try simp only [qz] at hb))
       all_goals (try simp only [maxLen, tn] at *)
       all_goals first | rfl | omega | decide | assumption | skip
       refine AW ?_
       simp -implicitDefEqProofs only [go_sem, hh, Int.reduceAdd, seval]
       with_reducible repeat' (first | apply ai | intro _ | ((first | apply s1 | apply s3 | apply s4) <;> intro hb <;> simp -implicitDefEqProofs only [hb, go_sem, hh, Int.reduceAdd, seval] <;> try simp only [qz] at hb))
       all_goals (try simp only [maxLen, tn] at *)
       all_goals first | rfl | omega | decide | assumption | skip
       refine ⟨⟨i + 1, by omega⟩, by dsimp only; omega, ?_⟩
       simp -implicitDefEqProofs only [hs, go_sem, hh, Int.reduceAdd, seval]
       try simp
       try omega
   ·have hz : (i : Int) = I7 r := by omega
    have hz2 : (I7 r).toNat = i := by omega
    have e1 : Oy r = (Az r).nx (2 + 2 * (i : Int)) := by unfold Oy; rw [hz]
    have e2 : Xn r = ⟨D1 r, DP ((Az r).nx 2) i, I5 (r.nx 3) (Sa r)⟩ := by unfold Xn; rw [hf, hz2]
    rw [e1, e2]
    simp -implicitDefEqProofs only [hlt, decide_false, go_sem, hh, Int.reduceAdd, seval]
    with_reducible repeat' (first | apply ai | intro _ | ((first | apply s1 | apply s3 | apply s4) <;> intro hb <;> simp -implicitDefEqProofs only [hb, go_sem, hh, Int.reduceAdd, seval] <;> try simp only [qz] at hb))
    all_goals (try simp only [maxLen, tn] at *)
    all_goals first | rfl | omega | decide | assumption | skip
end
instance (n : Int) : Decidable (KP n) := by unfold KP; infer_instance
theorem Zm (s : ByteArray) : Rb s ↔ (∀ b ∈ bl s, KP (b.toNat : Int)) ∧ 1 ≤ s.size ∧ s.size ≤ 8 :=
 ⟨fun h => ⟨fun b hb => by
   obtain ⟨j, hj, e⟩ := HO hb
   rw [← e]; exact h.1 j hj, h.2⟩, fun h => ⟨fun j hj => by
   obtain ⟨b, hb, e⟩ := Ov hj
   rw [e]; exact h.1 b hb, h.2⟩⟩
instance (s : ByteArray) : Decidable (Rb s) := decidable_of_iff _ (Zm s).symm
instance (s : ByteArray) : Decidable (D4 s) := by unfold D4; infer_instance
instance (s : ByteArray) : Decidable (Ia s) := decidable_of_iff _ (HD s).symm
theorem bg : ∀ s ∈ tg, D4 s := by decide +kernel
theorem gg : ∀ s ∈ vv, Rb s := by decide +kernel
theorem ex : ∀ s ∈ uY, Ia s := by decide +kernel
theorem H1 {r : Rd} (h : 0 ≤ r.p) (h1 : r.p ≤ 999999990) : BL (D1 r) :=
 ⟨gg _ (HY h (by omega) (by decide)), bg _ (HY (r := r.nx 1) (by rw [AJ]; omega) (by rw [AJ]; omega) (by decide))⟩
theorem e9 {r : Rd} (h : 0 ≤ r.p) (h1 : r.p ≤ 999999990) : Ia (ey r) := ex _ (HY h (by omega) (by decide))
theorem aj {r : Rd} {m : Int} (h : 0 ≤ r.p) (h1 : r.p ≤ 999999900) (h2 : 0 ≤ m) (h3 : m ≤ 12) : DQ (I5 r m) := by
 have hb := Bd (r := r) (n := m + 1) h (by omega)
 unfold I5
 refine ⟨fun s hs => ?_, by rw [OJ]; omega⟩
 unfold LN at hs
 obtain ⟨j, hj, rfl⟩ := List.mem_map.1 hs
 rw [List.mem_range] at hj
 exact e9 (by rw [AJ, AJ]; omega) (by rw [AJ, AJ]; omega)
theorem NC {r : Rd} (h : 0 ≤ r.p) (h1 : r.p ≤ 999999800) : CM (Xn r) := by
 have h2 := Xo h (by omega)
 have h3 := ND h (by omega)
 have h4 := Xm h (by omega)
 obtain ⟨k, hk⟩ : ∃ k, (I7 r).toNat = k + 1 := ⟨(I7 r).toNat - 1, by omega⟩
 refine ⟨fun a ha => ?_, IY _ _, ?_, ⟨?_, ?_⟩, aj (by rw [AJ]; omega) (by rw [AJ]; omega) (by omega) (by omega)⟩
 ·obtain ⟨j, hj, rfl⟩ := Nh ha
  exact H1 (by rw [AJ, AJ]; omega) (by rw [AJ, AJ]; omega)
 ·show BL (L5 r) ∨ AU (L5 r)
  unfold L5; split
  ·exact .inr ⟨rfl, rfl⟩
  ·exact .inl (H1 h (by omega))
 ·show 1 ≤ (DP _ (I7 r).toNat).length
  rw [hk]; exact rk _ _
 ·have := Jd ((Az r).nx 2) (I7 r).toNat
  show (DP _ (I7 r).toNat).length ≤ 4
  omega
theorem By {a : Ad} (h : BL a ∨ AU a) : FM a := by
 rcases h with h | h
 ·have h1 := (JL h.1).2
  have h2 := (C2 h.2).2
  exact ⟨by show a.user.size ≤ 1048576; omega, by show a.domain.size ≤ 1048576; omega⟩
 ·obtain ⟨u, d⟩ := a
  obtain ⟨h1, h2⟩ := h
  dsimp only at h1 h2
  subst h1; subst h2
  exact ⟨by show 0 ≤ 1048576; decide, by show 0 ≤ 1048576; decide⟩
theorem HC {b : List ByteArray} (h : DQ b) : GH Bl b := ⟨by have := h.2; omega, fun s hs => by
 have := (h.1 s hs).2
 show s.size ≤ 1048576; omega⟩
theorem JM {m : Ml} (h : CM m) : Ji m := ⟨By h.2.2.1, ⟨by have := h.2.2.2.1.2; omega, fun a ha => By (.inl (h.1 a ha))⟩, HC h.2.2.2.2⟩
theorem Zl {x : Im} (h : Co x) : D0 x := ⟨By h.2.2.2.1, ⟨by have := h.2.2.2.2.1.2; omega, fun r hr => By (.inl (h.1 r hr).1)⟩, HC h.2.2.2.2.2⟩
theorem HE {s : Sp} (h : BI s) : EF s := ⟨by have := h.2.2.2; omega, fun x hx => Zl (h.1 x hx).1⟩
structure Ds where
 s : Sp
 w : Int
 r : Rd
def JV (z : Ds) : Int := z.w + Af z.r 5
def GT (z : Ds) : Prop := (z.s.items.length : Int) = 0 ∨ Af (z.r.nx 1) 2 = 0
def Qc (z : Ds) : Rd := if (z.s.items.length : Int) = 0 then z.r.nx 1 else z.r.nx 2
def Qb (z : Ds) : Int := Af (z.r.nx 2) z.s.items.length
def bn (z : Ds) : Int := Af (z.r.nx 3) (z.s.items.getD (Qb z).toNat default).to.length
open Classical in
noncomputable def CK (z : Ds) : Ds :=
 if GT z then (if Bm z.s then ⟨GJ z.s (Xn (Qc z)) (JV z), JV z, Oy (Qc z)⟩ else ⟨z.s, JV z, Qc z⟩)
 else if Af (z.r.nx 4) 2 = 0 then ⟨B7 z.s (Qb z).toNat (bn z).toNat, JV z, z.r.nx 5⟩
 else ⟨(FE z.s (Qb z).toNat (bn z).toNat (JV z)).1, JV z, z.r.nx 5⟩
noncomputable def JU (z : Ds) : Nat → Ds
 | 0 => z
 | n + 1 => CK (JU z n)
theorem KE {z : Ds} (h : GT z) (h2 : Bm z.s) : CK z = ⟨GJ z.s (Xn (Qc z)) (JV z), JV z, Oy (Qc z)⟩ := by unfold CK; rw [if_pos h, if_pos h2]
theorem KF {z : Ds} (h : GT z) (h2 : ¬ Bm z.s) : CK z = ⟨z.s, JV z, Qc z⟩ := by unfold CK; rw [if_pos h, if_neg h2]
theorem Oa {z : Ds} (h : ¬ GT z) (h2 : Af (z.r.nx 4) 2 = 0) : CK z = ⟨B7 z.s (Qb z).toNat (bn z).toNat, JV z, z.r.nx 5⟩ := by unfold CK; rw [if_neg h, if_pos h2]
theorem Oc {z : Ds} (h : ¬ GT z) (h2 : ¬ Af (z.r.nx 4) 2 = 0) : CK z = ⟨(FE z.s (Qb z).toNat (bn z).toNat (JV z)).1, JV z, z.r.nx 5⟩ := by unfold CK; rw [if_neg h, if_neg h2]
structure Pm (r : Rd) (i : Nat) (z : Ds) : Prop where
 sp : BI z.s
 w0 : 0 ≤ z.w
 w1 : z.w ≤ 4 * i
 p0 : r.p ≤ z.r.p
 p1 : z.r.p ≤ r.p + 1 + 30 * i
 b : z.r.b = r.b
theorem Zu {s : Sp} {i k : Nat} {w : Int} (h : BI s) (hi : i < s.items.length) (hk : k < (s.items.getD i default).to.length) (hw : 0 ≤ w) : BI (FE s i k w).1 := by
 unfold FE; split
 ·exact h
 ·exact L4 h hi hk (by assumption) hw
theorem ii {r : Rd} {i : Nat} {z : Ds} (h : Pm r i z) (h0 : 0 ≤ r.p) (h1 : r.p ≤ 999990000) (hi : i ≤ 9) (ha : ¬ GT z) : (0 ≤ Qb z ∧ Qb z < z.s.items.length) ∧ 0 ≤ bn z ∧ bn z < (z.s.items.getD (Qb z).toNat default).to.length := by
 have a1 := h.p0; have a2 := h.p1
 have hb := Bd (r := z.r.nx 2) (n := z.s.items.length) (by rw [AJ]; omega) (by rw [AJ]; omega)
 have hc := Bd (r := z.r.nx 3) (n := (z.s.items.getD (Qb z).toNat default).to.length) (by rw [AJ]; omega) (by rw [AJ]; omega)
 have hl : ¬ (z.s.items.length : Int) = 0 := fun e => ha (.inl e)
 have q1 : 0 ≤ Qb z ∧ Qb z < z.s.items.length := by unfold Qb; omega
 have hx := (h.sp.1 _ (AE (xs := z.s.items) (j := (Qb z).toNat) (by omega))).1.2.2.2.2.1.1
 exact ⟨q1, by unfold bn; omega, by unfold bn; omega⟩
theorem ie {r : Rd} {i : Nat} {z : Ds} (h : Pm r i z) : (Qc z).b = r.b ∧ z.r.p + 1 ≤ (Qc z).p ∧ (Qc z).p ≤ z.r.p + 2 := by
 unfold Qc; split
 ·exact ⟨h.b, by rw [AJ]; omega, by rw [AJ]; omega⟩
 ·exact ⟨h.b, by rw [AJ]; omega, by rw [AJ]; omega⟩
theorem ig {r : Rd} {i : Nat} {z : Ds} (h : Pm r i z) (h0 : 0 ≤ r.p) (h1 : r.p ≤ 999990000) (hi : i ≤ 9) : z.w ≤ JV z ∧ JV z ≤ z.w + 4 := by
 have a1 := h.p0; have a2 := h.p1
 have hb := Bd (r := z.r) (n := 5) (by omega) (by omega)
 unfold JV; omega
theorem bo {r : Rd} {i : Nat} {z : Ds} (h : Pm r i z) (h0 : 0 ≤ r.p) (h1 : r.p ≤ 999990000) (hi : i ≤ 9) : Pm r (i + 1) (CK z) := by
 have a1 := h.p0; have a2 := h.p1; have a3 := h.w0; have a4 := h.w1
 have hw := ig h h0 h1 hi
 have hR := ie h
 by_cases ha : GT z
 ·by_cases hr : Bm z.s
  ·rw [KE ha hr]
   have hm := jD (r := Qc z) (by omega) (by omega)
   exact ⟨H3 h.sp (NC (by omega) (by omega)) ⟨by omega, by omega⟩ hr, by show 0 ≤ JV z; omega, by show JV z ≤ _; omega, by show r.p ≤ (Oy _).p; omega, by show (Oy _).p ≤ _; omega, by show (Oy _).b = _; rw [hm.1, hR.1]⟩
  ·rw [KF ha hr]
   exact ⟨h.sp, by show 0 ≤ JV z; omega, by show JV z ≤ _; omega, by show r.p ≤ (Qc z).p; omega, by show (Qc z).p ≤ _; omega, hR.1⟩
 ·obtain ⟨⟨i0, i1⟩, k0, k1⟩ := ii h h0 h1 hi ha
  by_cases hd : Af (z.r.nx 4) 2 = 0
  ·rw [Oa ha hd]
   exact ⟨De h.sp (by omega) (by omega), by show 0 ≤ JV z; omega, by show JV z ≤ _; omega, by show r.p ≤ z.r.p + 5; omega, by show z.r.p + 5 ≤ _; omega, h.b⟩
  ·rw [Oc ha hd]
   exact ⟨Zu h.sp (by omega) (by omega) (by omega), by show 0 ≤ JV z; omega, by show JV z ≤ _; omega, by show r.p ≤ z.r.p + 5; omega, by show z.r.p + 5 ≤ _; omega, h.b⟩
def KD (r : Rd) : Ds := ⟨⟨0, []⟩, 0, r.nx 1⟩
theorem Uz : BI ⟨0, []⟩ := ⟨fun x hx => (by cases hx), fun j _ hj => absurd hj (Nat.not_lt_zero _), ⟨by decide, by decide⟩, Nat.zero_le _⟩
theorem My {r : Rd} (h0 : 0 ≤ r.p) (h1 : r.p ≤ 999990000) : ∀ i : Nat, i ≤ 9 → Pm r i (JU (KD r) i)
 | 0, _ => ⟨Uz, Int.le_refl 0, Int.le_refl 0, by show r.p ≤ r.p + 1; omega, by show r.p + 1 ≤ _; omega, rfl⟩
 | i + 1, h => bo (My h0 h1 i (by omega)) h0 h1 (by omega)
noncomputable def EM (r : Rd) : Sp := (JU (KD r) (Af r 9).toNat).s
noncomputable def GX (r : Rd) : Rd := (JU (KD r) (Af r 9).toNat).r
theorem Yd {r : Rd} (h0 : 0 ≤ r.p) (h1 : r.p ≤ 999990000) : BI (EM r) ∧ (GX r).b = r.b ∧ r.p ≤ (GX r).p ∧ (GX r).p ≤ r.p + 300 := by
 have hb := Bd (r := r) (n := 9) h0 (by omega)
 have h := My h0 h1 (Af r 9).toNat (by omega)
 exact ⟨h.sp, h.b, h.p0, by have := h.p1; unfold GX; omega⟩
theorem tk {z : Ds} : z.w + Af z.r 5 = JV z := rfl
theorem ti {z : Ds} : Af (z.r.nx 2) (z.s.items.length : Int) = Qb z := rfl
theorem tj {z : Ds} : Af (z.r.nx 3) ((z.s.items.getD (Qb z).toNat default).to.length : Int) = bn z := rfl
def lX : Mt := GL (lc Dx l0) (fun p => 0 ≤ p.1.p ∧ p.1.p ≤ 999980000) (fun p => ([Dx.enc (GX p.1)], Q8 (EM p.1)))
section
attribute [local go_sem] Gj J5 Va QG mj tL tK AJ Bs A9 BF BP Bc CQ Bf Bh A1 lm List.length_append List.length_cons List.length_nil List.map_append List.map_nil Nat.zero_add List.nil_append AS.opn AS.cls AS.nilb AS.renb AS.up Bool.not_false Bool.not_true List.set_set List.set_cons_zero List.set_cons_succ List.set_nil List.mem_singleton forall_eq tk ti tj ff Aa AZ IX IH List.take_length List.drop_zero List.length_take List.length_drop List.map_cons
set_option maxHeartbeats 6400000 in
theorem cy {G : Gt} (hG : Aj G) (hh : G.e 71 = AN Gj ∧ G.e 147 = AA 0 J5 ∧ G.e 189 = AN Va ∧ G.e 148 = AA 1 QG ∧ G.e 92 = AA 1 mj ∧ G.e 93 = AA 1 tL ∧ G.e 91 = AA 0 tK) : Gd G 160 (AN lX) := by
 refine Ik (dp := fun n => !(Nat.beq n 100003)) (fn := Tryz.f160) (n := 1) rfl hG ?_
 rintro ⟨r, ⟨⟩⟩ hpre
 obtain ⟨h1, h2⟩ := hpre
 try dsimp only at h1 h2 ⊢
 have hb := Bd (r := r) (n := 9) h1 (by omega)
 obtain ⟨n, hn⟩ : ∃ n : Nat, n = (Af r 9).toNat := ⟨_, rfl⟩
 have hn2 : Af r 9 = n := by omega
 have e1 : GX r = (JU (KD r) n).r := by unfold GX; rw [← hn]
 have e2 : EM r = (JU (KD r) n).s := by unfold EM; rw [← hn]
 rw [e1, e2]
 simp -implicitDefEqProofs only [Tryz.f160, hn2, go_sem, hh, Int.reduceAdd, seval]
 with_reducible repeat' (first | apply ai | intro _ | ((first | apply s1 | apply s3 | apply s4) <;> intro hb <;> simp -implicitDefEqProofs only [hb, go_sem, hh, Int.reduceAdd, seval] <;> try simp only [qz] at hb))
 all_goals (try simp only [maxLen, tn] at *)
 all_goals first | rfl | omega | decide | assumption | skip
 refine Ak (Le.nilb 1003 1 1907 true 5 rfl rfl rfl) (Ak (Le.frzL [1907]) (AW ?_))
 simp -implicitDefEqProofs only [hn2, go_sem, hh, Int.reduceAdd, seval]
 with_reducible repeat' (first | apply ai | intro _ | ((first | apply s1 | apply s3 | apply s4) <;> intro hb <;> simp -implicitDefEqProofs only [hb, go_sem, hh, Int.reduceAdd, seval] <;> try simp only [qz] at hb))
 all_goals (try simp only [maxLen, tn] at *)
 all_goals first | rfl | omega | decide | assumption | skip
 refine AF [] (ι := {i : Nat // i ≤ n}) (fun ⟨i, _⟩ => ⟨[(0, .pb 1900 0), (2, .pb 1002 0), (3, .pb 1003 0), (4, .t (.v (.int .i64 (JU (KD r) i).w))), (5, .t (.v (.int .i64 (n - i))))], [(1900, some (.box [.t (.sl 1 ((JU (KD r) i).r.b.map CO)), .t (.v (.int .i64 (JU (KD r) i).r.p))])), (1002, some (.box [.t (.v (.int .i64 0)), .nil])), (1003, some (.box ((Dk (JU (KD r) i).s).map .t)))]⟩) (fun p => n - p.1) ⟨0, by omega⟩ rfl ?_ ?_
 ·simp -implicitDefEqProofs only [go_sem, hh, Int.reduceAdd, seval]
  simp [JU, KD, Bs, AJ]
  try rfl
 ·rintro ⟨i, hi⟩
  dsimp only
  by_cases hlt : (n : Int) - i > 0
  ·obtain ⟨z, hz⟩ : ∃ z, z = JU (KD r) i := ⟨_, rfl⟩
   have hok : Pm r i z := by rw [hz]; exact My h1 (by omega) i (by omega)
   have a1 := hok.p0; have a2 := hok.p1; have a3 := hok.w0; have a4 := hok.w1
   have hw := ig hok h1 (by omega) (by omega)
   have hR := ie hok
   have zs := HE hok.sp
   have zo := hok.sp
   rw [← hz]
   by_cases L : (z.s.items.length : Int) = 0
   ·have ha : GT z := .inl L
    have eR : Qc z = z.r.nx 1 := if_pos L
    by_cases hr : Bm z.s
    ·have b1 := Ag hr
     have zm := JM (NC (r := z.r.nx 1) (by rw [AJ]; omega) (by rw [AJ]; omega))
     have hs : JU (KD r) (i + 1) = _ := (show JU (KD r) (i + 1) = CK z by rw [hz]; rfl).trans (eR ▸ KE ha hr)
     simp -implicitDefEqProofs only [hlt, L, b1, eq_self, decide_true, decide_false, tn, go_sem, hh, Int.reduceAdd, seval]
     with_reducible repeat' (first | apply ai | intro _ | ((first | apply s1 | apply s3 | apply s4) <;> intro hb <;> simp -implicitDefEqProofs only [hb, go_sem, hh, Int.reduceAdd, seval] <;> try simp only [qz] at hb))
     all_goals (try simp only [maxLen, tn] at *)
     all_goals first | rfl | omega | decide | assumption | skip
     refine ⟨⟨i + 1, by omega⟩, by dsimp only; omega, ?_⟩
     simp -implicitDefEqProofs only [hs, go_sem, hh, Int.reduceAdd, seval]
     try simp
     try omega
    ·have b1 := AO hr
     have hs : JU (KD r) (i + 1) = _ := (show JU (KD r) (i + 1) = CK z by rw [hz]; rfl).trans (eR ▸ KF ha hr)
     simp -implicitDefEqProofs only [hlt, L, b1, eq_self, decide_true, decide_false, tn, go_sem, hh, Int.reduceAdd, seval]
     with_reducible repeat' (first | apply ai | intro _ | ((first | apply s1 | apply s3 | apply s4) <;> intro hb <;> simp -implicitDefEqProofs only [hb, go_sem, hh, Int.reduceAdd, seval] <;> try simp only [qz] at hb))
     all_goals (try simp only [maxLen, tn] at *)
     all_goals first | rfl | omega | decide | assumption | skip
     refine ⟨⟨i + 1, by omega⟩, by dsimp only; omega, ?_⟩
     simp -implicitDefEqProofs only [hs, go_sem, hh, Int.reduceAdd, seval]
     try simp
     try omega
   ·by_cases Q : Af (z.r.nx 1) 2 = 0
    ·have ha : GT z := .inr Q
     have eR : Qc z = z.r.nx 2 := if_neg L
     by_cases hr : Bm z.s
     ·have b1 := Ag hr
      have zm := JM (NC (r := z.r.nx 2) (by rw [AJ]; omega) (by rw [AJ]; omega))
      have hs : JU (KD r) (i + 1) = _ := (show JU (KD r) (i + 1) = CK z by rw [hz]; rfl).trans (eR ▸ KE ha hr)
      simp -implicitDefEqProofs only [hlt, L, Q, b1, eq_self, decide_true, decide_false, tn, go_sem, hh, Int.reduceAdd, seval]
      with_reducible repeat' (first | apply ai | intro _ | ((first | apply s1 | apply s3 | apply s4) <;> intro hb <;> simp -implicitDefEqProofs only [hb, go_sem, hh, Int.reduceAdd, seval] <;> try simp only [qz] at hb))
      all_goals (try simp only [maxLen, tn] at *)
      all_goals first | rfl | omega | decide | assumption | skip
      refine ⟨⟨i + 1, by omega⟩, by dsimp only; omega, ?_⟩
      simp -implicitDefEqProofs only [hs, go_sem, hh, Int.reduceAdd, seval]
      try simp
      try omega
     ·have b1 := AO hr
      have hs : JU (KD r) (i + 1) = _ := (show JU (KD r) (i + 1) = CK z by rw [hz]; rfl).trans (eR ▸ KF ha hr)
      simp -implicitDefEqProofs only [hlt, L, Q, b1, eq_self, decide_true, decide_false, tn, go_sem, hh, Int.reduceAdd, seval]
      with_reducible repeat' (first | apply ai | intro _ | ((first | apply s1 | apply s3 | apply s4) <;> intro hb <;> simp -implicitDefEqProofs only [hb, go_sem, hh, Int.reduceAdd, seval] <;> try simp only [qz] at hb))
      all_goals (try simp only [maxLen, tn] at *)
      all_goals first | rfl | omega | decide | assumption | skip
      refine ⟨⟨i + 1, by omega⟩, by dsimp only; omega, ?_⟩
      simp -implicitDefEqProofs only [hs, go_sem, hh, Int.reduceAdd, seval]
      try simp
      try omega
    ·have ha : ¬ GT z := fun f => f.elim L Q
     obtain ⟨⟨i0, i1⟩, k0, k1⟩ := ii hok h1 (by omega) (by omega) ha
     by_cases D : Af (z.r.nx 4) 2 = 0
     ·skip
      have hs : JU (KD r) (i + 1) = _ := (show JU (KD r) (i + 1) = CK z by rw [hz]; rfl).trans (Oa ha D)
      simp -implicitDefEqProofs only [hlt, L, Q, D, eq_self, decide_true, decide_false, tn, go_sem, hh, Int.reduceAdd, seval]
      with_reducible repeat' (first | apply ai | intro _ | ((first | apply s1 | apply s3 | apply s4) <;> intro hb <;> simp -implicitDefEqProofs only [hb, go_sem, hh, Int.reduceAdd, seval] <;> try simp only [qz] at hb))
      all_goals (try simp only [maxLen, tn] at *)
      all_goals first | rfl | omega | decide | assumption | skip
      refine ⟨⟨i + 1, by omega⟩, by dsimp only; omega, ?_⟩
      simp -implicitDefEqProofs only [hs, go_sem, hh, Int.reduceAdd, seval]
      try simp
      try omega
     ·skip
      have hs : JU (KD r) (i + 1) = _ := (show JU (KD r) (i + 1) = CK z by rw [hz]; rfl).trans (Oc ha D)
      simp -implicitDefEqProofs only [hlt, L, Q, D, eq_self, decide_true, decide_false, tn, go_sem, hh, Int.reduceAdd, seval]
      with_reducible repeat' (first | apply ai | intro _ | ((first | apply s1 | apply s3 | apply s4) <;> intro hb <;> simp -implicitDefEqProofs only [hb, go_sem, hh, Int.reduceAdd, seval] <;> try simp only [qz] at hb))
      all_goals (try simp only [maxLen, tn] at *)
      all_goals first | rfl | omega | decide | assumption | skip
      refine ⟨⟨i + 1, by omega⟩, by dsimp only; omega, ?_⟩
      simp -implicitDefEqProofs only [hs, go_sem, hh, Int.reduceAdd, seval]
      try simp
      try omega
  ·have hz : i = n := by omega
   subst hz
   have hok := My h1 (show r.p ≤ 999990000 by omega) i (by omega)
   have zs := HE hok.sp
   simp -implicitDefEqProofs only [hlt, decide_false, go_sem, hh, Int.reduceAdd, seval]
   with_reducible repeat' (first | apply ai | intro _ | ((first | apply s1 | apply s3 | apply s4) <;> intro hb <;> simp -implicitDefEqProofs only [hb, go_sem, hh, Int.reduceAdd, seval] <;> try simp only [qz] at hb))
   all_goals (try simp only [maxLen, tn] at *)
   all_goals first | rfl | omega | decide | assumption | skip
end
end Go.V
