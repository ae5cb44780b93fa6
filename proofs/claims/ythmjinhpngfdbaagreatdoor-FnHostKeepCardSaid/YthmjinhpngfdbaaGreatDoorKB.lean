/- The row. No condition. -/
import Derived.Test.YthmjinhpngfdbaaGreatDoorKA
import Derived.Lib.Bytealg
import Derived.Shelf.Abstract
import Derived.Shelf.RegionOpenPlain
import Derived.WalkKit
import Derived.Deep.LoopGhost
import Derived.Deep.RegionLaw
import Derived.Lib.Walk
import Derived.Sort.WalkB12
import Derived.Lib.SliceRun
import Derived.Lib.AppendZerosOnto
import Derived.Lib.Overlaps
import Derived.Test.YthmjinhpngfdbaaGreatDoorXB
namespace Go.V
open Go Go.Proofs
set_option maxRecDepth 100000
set_option linter.unusedSimpArgs false
set_option linter.unusedVariables false
theorem uT {p : Prop} (h : p) : T.v (Value.bool true) = T.v (Value.bool (BV p)) := by rw [Ap h]
theorem uF {p : Prop} (h : ¬ p) : T.v (Value.bool false) = T.v (Value.bool (BV p)) := by rw [AN h]
theorem uE {p q : Prop} (h : p ↔ q) : T.v (Value.bool (BV p)) = T.v (Value.bool (BV q)) := by rw [AW h]
theorem uN {p q : Prop} (h : ¬ p ↔ q) : T.v (Value.bool (!BV p)) = T.v (Value.bool (BV q)) := by rw [FC, AW h]
theorem uB {b : Bool} {q : Prop} (h : b = true ↔ q) : T.v (Value.bool b) = T.v (Value.bool (BV q)) := by
 cases b
 ·exact uF (fun q => by have := h.2 q; simp at this)
 ·exact uT (h.1 rfl)
theorem uD {p q : Prop} [Decidable p] (h : p ↔ q) : T.v (Value.bool (decide p)) = T.v (Value.bool (BV q)) := by rw [← BI, AW h]
def Eg (a b : ByteArray) : Int := Lib.compareBytes (bl a) (bl b)
theorem V7 : ∀ a b : List UInt8, (Lib.compareBytes a b < 0) ↔ Op.bytesLess a b = true
 | [], [] => by simp [Lib.compareBytes, Op.bytesLess]
 | [], _ :: _ => by simp [Lib.compareBytes, Op.bytesLess]
 | _ :: _, [] => by simp [Lib.compareBytes, Op.bytesLess]
 | a :: x, b :: y => by
   have ih := V7 x y
   simp only [Lib.compareBytes, Op.bytesLess, Bool.or_eq_true, Bool.and_eq_true, decide_eq_true_eq, beq_iff_eq]
   by_cases h1 : a < b
   ·simp [h1]
   ·by_cases h2 : b < a
    ·have h3 : ¬ a = b := fun e => by subst e; exact absurd h2 (UInt8.lt_irrefl _)
     simp [h1, h2, h3]
    ·have h3 : a = b := UInt8.le_antisymm (UInt8.not_lt.1 h2) (UInt8.not_lt.1 h1)
     have hir := UInt8.lt_irrefl b
     simp only [h3, hir, if_false, false_or, true_and]
     exact ih
theorem i4 : ∀ a b : List UInt8, (Lib.compareBytes a b = 0) ↔ a = b
 | [], [] => by simp [Lib.compareBytes]
 | [], _ :: _ => by simp [Lib.compareBytes]
 | _ :: _, [] => by simp [Lib.compareBytes]
 | a :: x, b :: y => by
   have ih := i4 x y
   simp only [Lib.compareBytes, List.cons.injEq]
   by_cases h1 : a < b
   ·have h3 : ¬ a = b := fun e => by subst e; exact absurd h1 (UInt8.lt_irrefl _)
    simp [h1, h3]
   ·by_cases h2 : b < a
    ·have h3 : ¬ a = b := fun e => by subst e; exact absurd h2 (UInt8.lt_irrefl _)
     simp [h1, h2, h3]
    ·have h3 : a = b := UInt8.le_antisymm (UInt8.not_lt.1 h2) (UInt8.not_lt.1 h1)
     simp only [h3, true_and]
     rw [if_neg (UInt8.lt_irrefl b), if_neg (UInt8.lt_irrefl b)]
     exact ih
theorem NB (a b : ByteArray) : Eg a b < 0 ↔ Et a b = true := by
 unfold Eg Et
 rw [V7, GS, GS]
theorem Gx (a b : ByteArray) : Eg a b = 0 ↔ a = b := by
 unfold Eg
 rw [i4]
 exact ⟨FE, fun e => by rw [e]⟩
def VS (a b : Ad) : Prop := Et a.domain b.domain = true ∨ (a.domain = b.domain ∧ Et a.user b.user = true)
def ID (a b : Ad) : Int := if Eg a.domain b.domain = 0 then Eg a.user b.user else Eg a.domain b.domain
theorem IE (a b : Ad) : ID a b < 0 ↔ VS a b := by
 unfold ID VS
 by_cases h : Eg a.domain b.domain = 0
 ·rw [if_pos h, NB]
  have h2 : ¬ Et a.domain b.domain = true := fun q => by have := (NB _ _).2 q; omega
  exact ⟨fun q => .inr ⟨(Gx _ _).1 h, q⟩, fun q => q.elim (fun q => absurd q h2) fun q => q.2⟩
 ·rw [if_neg h, NB]
  exact ⟨.inl, fun q => q.elim id fun q => absurd ((Gx _ _).2 q.1) h⟩
def rX : List Int → Int
 | [] => 0
 | x :: r => if x = 0 then rX r else x
theorem uI {x y : Int} : Da.decL [[.v (.int .i64 x)], [.v (.int .i64 y)]] = some [x, y] := Da.decL_map [x, y]
theorem YY {xs : List Int} {i : Nat} (h : i < xs.length) : rX (xs.drop i) = if xs.getD i default = 0 then rX (xs.drop (i + 1)) else xs.getD i default := by
 rw [AX h]; rfl
def mU : Ct := Aq (lc Aw (lc Aw l0)) (fun _ => True) (fun p => .t (.v (.int .i64 (Eg p.1 p.2.1))))
theorem d6 (m : Int) : Fe Tryz.prog m 185 mU := Fe.of (r := fun (p : ByteArray × ByteArray × Unit) => .int .i64 (Eg p.1 p.2.1)) (fun _ => trivial) fun p _ => by
 obtain ⟨s, c, ⟨⟩⟩ := p
 intro w pr vs hgl hv
 have := Hx hv
 subst this
 have he : Extern.find Tryz.f185 = some Extern.BytealgCompare.compare := by kernel_rfl
 rw [run_callFunc_extern (fn := Tryz.f185) (by kernel_rfl) (by kernel_rfl) rfl (by kernel_rfl) he]
 have h := Lib.run_compareString (P := Tryz.prog) s c w
 rw [show ([Value.string s, Value.string c].toArray) = #[.string s, .string c] from rfl, h]
 rfl
def Jw (c : Cf) : Prop := (∀ s ∈ c.own, DG s) ∧ (∀ w ∈ c.ways, DG w.ends ∧ DG w.to) ∧ DG c.name ∧ (c.own.length : Int) ≤ 3 ∧ (c.ways.length : Int) ≤ 4
def mJ : Ct := Aq (lc Aw (lc Aw l0)) (fun p => True) (fun p => .t (.v (.int .i64 (Eg p.1 p.2.1))))
section
attribute [local go_sem] mU
theorem df {G : Gt} (hG : Ai G) (hh : G.e 185 = AA 3 mU) : Gd G 156 (AA 0 mJ) := by
 refine gr (fn := Tryz.f156) (n := 2) rfl hG ?_
 rintro ⟨a, b, ⟨⟩⟩ hpre
 simp -implicitDefEqProofs only [Tryz.f156, go_sem, hh, seval] at hpre ⊢
 with_reducible repeat' (first | apply ai | intro _ | ((first | apply s1 | apply s3 | apply s4) <;> intro hb <;> simp -implicitDefEqProofs only [hb, go_sem, hh, seval] <;> try simp only [qz] at hb))
 all_goals first | rfl | omega | skip
end
def lp : Ct := Aq (lc Aw (lc Aw l0)) (fun p => True) (fun p => .t (.v (.int .i64 (Eg p.1 p.2.1))))
section
attribute [local go_sem] mJ
theorem cw {G : Gt} (hG : Ai G) (hh : G.e 156 = AA 0 mJ) : Gd G 110 (AA 0 lp) := by
 refine gr (fn := Tryz.f110) (n := 2) rfl hG ?_
 rintro ⟨a, b, ⟨⟩⟩ hpre
 simp -implicitDefEqProofs only [Tryz.f110, go_sem, hh, seval] at hpre ⊢
 with_reducible repeat' (first | apply ai | intro _ | ((first | apply s1 | apply s3 | apply s4) <;> intro hb <;> simp -implicitDefEqProofs only [hb, go_sem, hh, seval] <;> try simp only [qz] at hb))
 all_goals first | rfl | omega | skip
end
def ln : Ct := Aq (lc Da.asl l0) (fun p => True) (fun p => .t (.v (.int .i64 (rX p.1))))
section
attribute [local go_sem] lm
theorem cu {G : Gt} (hG : Ai G) : Gd G 109 (AA 0 ln) := by
 refine gr (fn := Tryz.f109) (n := 1) rfl hG ?_
 rintro ⟨xs, ⟨⟩⟩ hpre
 simp -implicitDefEqProofs only [Tryz.f109, go_sem, seval] at hpre ⊢
 with_reducible repeat' (first | apply ai | intro _ | ((first | apply s1 | apply s3 | apply s4) <;> intro hb <;> simp -implicitDefEqProofs only [hb, go_sem, seval] <;> try simp only [qz] at hb))
 all_goals first | rfl | omega | skip
 refine AF [] (ι := {i : Nat // i ≤ xs.length ∧ rX xs = rX (xs.drop i)}) (fun p => ⟨[(3, .t (.v (.int .i64 0))), (6, .t (.sl 1 (xs.map A9))), (7, .t (.v (.int .i64 xs.length))), (8, .t (.v (.int .i64 p.1)))], []⟩) (fun p => xs.length - p.1) ⟨0, by simp, rfl⟩ rfl ?_ ?_
 ·simp -implicitDefEqProofs only [go_sem, seval]
  try simp
 ·rintro ⟨i, hi, hor⟩
  by_cases hlt : (i : Int) < xs.length
  ·have hs := YY (xs := xs) (i := i) (by omega)
   simp -implicitDefEqProofs only [hlt, decide_true, tn, go_sem, seval]
   with_reducible repeat' (first | apply ai | intro _ | ((first | apply s1 | apply s3 | apply s4) <;> intro hb <;> simp -implicitDefEqProofs only [hb, go_sem, seval] <;> try simp only [qz] at hb))
   all_goals (try simp only [maxLen] at *)
   all_goals first | rfl | omega | skip
   ·rw [hor, hs, if_neg (by assumption)]
   ·refine ⟨⟨i + 1, by omega, by rw [hor, hs, if_pos (by simpa using hb)]⟩, by dsimp only; omega, ?_⟩
    simp -implicitDefEqProofs only [go_sem, seval]
    try simp
  ·simp -implicitDefEqProofs only [hlt, decide_false, go_sem, seval]
   with_reducible repeat' (first | apply ai | intro _ | ((first | apply s1 | apply s3 | apply s4) <;> intro hb <;> simp -implicitDefEqProofs only [hb, go_sem, seval] <;> try simp only [qz] at hb))
   all_goals first | rfl | omega | skip
   rw [hor, List.drop_eq_nil_of_le (by omega)]
   rfl
end
def tp : Ct := Aq (lc DH.ag (lc DH.ag l0)) (fun p => True) (fun p => .t (.v (.int .i64 (ID p.1 p.2.1))))
section
attribute [local go_sem] lp ln uI
theorem p4 {G : Gt} (hG : Ai G) (hh : G.e 110 = AA 0 lp ∧ G.e 109 = AA 0 ln) : Gd G 50 (AA 0 tp) := by
 refine gr (fn := Tryz.f50) (n := 2) rfl hG ?_
 rintro ⟨a, b, ⟨⟩⟩ hpre
 simp -implicitDefEqProofs only [Tryz.f50, go_sem, hh, seval] at hpre ⊢
 with_reducible repeat' (first | apply ai | intro _ | ((first | apply s1 | apply s3 | apply s4) <;> intro hb <;> simp -implicitDefEqProofs only [hb, go_sem, hh, seval] <;> try simp only [qz] at hb))
 all_goals first | rfl | omega | skip
 all_goals
  refine congrArg (fun z => T.v (Value.int .i64 z)) ?_
  simp only [rX, ID]
  by_cases h : Eg a.domain b.domain = 0
  ·rw [if_pos h, if_pos h]
   by_cases h2 : Eg a.user b.user = 0
   ·rw [if_pos h2, h2]
   ·rw [if_neg h2]
  ·rw [if_neg h, if_neg h]
end
def tw : Ct := Aq (lc DH.ag (lc DH.ag l0)) (fun p => True) (fun p => .t (.v (.bool (BV (VS p.1 p.2.1)))))
theorem qQ {G : Gt} (hG : Ai G) : Gd G 86 (AA 0 tw) := by
 refine gr (fn := Tryz.f86) (n := 2) rfl hG ?_
 rintro ⟨a, b, ⟨⟩⟩ hpre
 simp -implicitDefEqProofs only [Tryz.f86, go_sem, seval] at hpre ⊢
 with_reducible repeat' (first | apply ai | intro _ | ((first | apply s1 | apply s3 | apply s4) <;> intro hb <;> simp -implicitDefEqProofs only [hb, go_sem, seval] <;> try simp only [qz] at hb))
 all_goals first | rfl | omega | skip
 all_goals first
  | exact uT (.inl (by assumption))
  | exact uB ⟨fun q => .inr ⟨by assumption, q⟩, fun q => q.elim (fun q => by simp_all) fun q => q.2⟩
  | exact uF (fun q => q.elim (fun q => by simp_all) fun q => by simp_all)
  | skip
def kM (b : Bx) : Prop := (∀ g ∈ b.mails, (Bb g.frm ∨ Ab g.frm) ∧ DZ g.body) ∧ Bb b.addr
def U8 (h : Hs) (j : Nat) : Prop := kM (h.boxes.getD j default) ∧ (0 < j → VS (h.boxes.getD (j - 1) default).addr (h.boxes.getD j default).addr) ∧ (h.boxes.getD j default).addr.domain ∈ h.conf.own
def DI (h : Hs) : Prop := (∀ j, j < h.boxes.length → U8 h j) ∧ Jw h.conf ∧ Bk h.spool
theorem DA {P : Nat → Prop} {i : Nat} (h : ∀ j, j < i → P j) (hi : P i) : ∀ j, j < i + 1 → P j := fun j hj => by
 by_cases e : j = i
 ·rw [e]; exact hi
 ·exact h j (by omega)
theorem fx {xs : List ByteArray} {a : ByteArray} (h : ∀ j, j < xs.length → ¬ xs.getD j default = a) : ¬ a ∈ xs := fun hm => by
 obtain ⟨j, hj, e⟩ := List.getElem_of_mem hm
 exact h j hj (by simp [hj, e])
def tx : Ct := Aq (lc H4.ag l0) (fun p => True) (fun p => .t (.v (.bool (BV (Jw p.1)))))
section
attribute [local go_sem] M8 Ae Ac lm
set_option maxHeartbeats 1600000 in
theorem qS {G : Gt} (hG : Ai G) (hh : G.e 143 = AA 0 M8) : Gd G 88 (AA 0 tx) := by
 refine gr (fn := Tryz.f88) (n := 1) rfl hG ?_
 rintro ⟨c, ⟨⟩⟩ hpre
 simp -implicitDefEqProofs only [Tryz.f88, go_sem, hh, seval] at hpre ⊢
 refine AF [] (ι := {i : Nat // i ≤ c.own.length ∧ ∀ j, j < i → DG (c.own.getD j default)}) (fun p => ⟨[(1, .pb 1001 0), (3, .t (.v (.int .i64 p.1)))], [(1001, some (.box ((Co c).map .t)))]⟩) (fun p => c.own.length - p.1) ⟨0, by simp, by simp⟩ rfl ?_ ?_
 ·simp -implicitDefEqProofs only [go_sem, hh, seval]
  try simp
 ·rintro ⟨i, hi, hall⟩
  by_cases hlt : (i : Int) < c.own.length
  ·simp -implicitDefEqProofs only [hlt, decide_true, tn, go_sem, hh, seval]
   with_reducible repeat' (first | apply ai | intro _ | ((first | apply s1 | apply s3 | apply s4) <;> intro hb <;> simp -implicitDefEqProofs only [hb, go_sem, hh, seval] <;> try simp only [qz] at hb))
   all_goals (try simp only [maxLen] at *)
   all_goals first | rfl | omega | skip
   ·exact uF (fun h => hb (h.1 _ (AE (by omega))))
   ·refine ⟨⟨i + 1, by omega, DA hall hb⟩, by dsimp only; omega, ?_⟩
    simp -implicitDefEqProofs only [go_sem, hh, seval]
    try simp
  ·have hA : ∀ s ∈ c.own, DG s := BX fun j hj => hall j (by omega)
   simp -implicitDefEqProofs only [hlt, decide_false, go_sem, hh, seval]
   with_reducible repeat' (first | apply ai | intro _ | ((first | apply s1 | apply s3 | apply s4) <;> intro hb <;> simp -implicitDefEqProofs only [hb, go_sem, hh, seval] <;> try simp only [qz] at hb))
   all_goals first | rfl | omega | skip
   refine AF [] (ι := {i : Nat // i ≤ c.ways.length ∧ ∀ j, j < i → DG (c.ways.getD j default).ends ∧ DG (c.ways.getD j default).to}) (fun p => ⟨[(1, .pb 1001 0), (4, .t (.v (.int .i64 p.1)))], [(1001, some (.box ((Co c).map .t)))]⟩) (fun p => c.ways.length - p.1) ⟨0, by simp, by simp⟩ rfl ?_ ?_
   ·simp -implicitDefEqProofs only [go_sem, hh, seval]
    try simp
   ·rintro ⟨k, hk, hall2⟩
    by_cases hlt2 : (k : Int) < c.ways.length
    ·simp -implicitDefEqProofs only [hlt2, decide_true, tn, go_sem, hh, seval]
     with_reducible repeat' (first | apply ai | intro _ | ((first | apply s1 | apply s3 | apply s4) <;> intro hb <;> simp -implicitDefEqProofs only [hb, go_sem, hh, seval] <;> try simp only [qz] at hb))
     all_goals (try simp only [maxLen] at *)
     all_goals first
      | rfl
      | omega
      | exact uF (fun h => hb (h.2.1 _ (AE (by omega))).1)
      | exact uF (fun h => hb (h.2.1 _ (AE (by omega))).2)
      | skip
     refine ⟨⟨k + 1, by omega, DA (P := fun j => DG (c.ways.getD j default).ends ∧ DG (c.ways.getD j default).to) hall2 ⟨by assumption, by assumption⟩⟩, by dsimp only; omega, ?_⟩
     simp -implicitDefEqProofs only [go_sem, hh, seval]
     try simp
    ·have hB : ∀ w ∈ c.ways, DG w.ends ∧ DG w.to := BX fun j hj => hall2 j (by omega)
     simp -implicitDefEqProofs only [hlt2, decide_false, go_sem, hh, seval]
     with_reducible repeat' (first | apply ai | intro _ | ((first | apply s1 | apply s3 | apply s4) <;> intro hb <;> simp -implicitDefEqProofs only [hb, go_sem, hh, seval] <;> try simp only [qz] at hb))
     all_goals first
      | rfl
      | omega
      | exact uD ⟨fun q => ⟨hA, hB, by assumption, by omega, q⟩, fun q => q.2.2.2.2⟩
      | exact uF (fun q => absurd q.2.2.1 (by assumption))
      | exact uF (fun q => by have h1 := q.2.2.2.1; have h2 := q.2.2.2.2; omega)
      | skip
end
def bb : Ct := Aq (lc H4.ag (lc DH.ag l0)) (fun p => True) (fun p => .t (.v (.bool (BV (p.2.1.domain ∈ p.1.own)))))
section
attribute [local go_sem] lm
theorem qR {G : Gt} (hG : Ai G) : Gd G 87 (AA 0 bb) := by
 refine gr (fn := Tryz.f87) (n := 2) rfl hG ?_
 rintro ⟨c, a, ⟨⟩⟩ hpre
 simp -implicitDefEqProofs only [Tryz.f87, go_sem, seval] at hpre ⊢
 refine AF [] (ι := {i : Nat // i ≤ c.own.length ∧ ∀ j, j < i → ¬ c.own.getD j default = a.domain}) (fun p => ⟨[(2, .pb 1002 0), (3, .pb 1003 0), (5, .t (.v (.int .i64 p.1)))], [(1002, some (.box ((Co c).map .t))), (1003, some (.box ((Az a).map .t)))]⟩) (fun p => c.own.length - p.1) ⟨0, by simp, by simp⟩ rfl ?_ ?_
 ·simp -implicitDefEqProofs only [go_sem, seval]
  try simp
 ·rintro ⟨i, hi, hall⟩
  by_cases hlt : (i : Int) < c.own.length
  ·simp -implicitDefEqProofs only [hlt, decide_true, tn, go_sem, seval]
   with_reducible repeat' (first | apply ai | intro _ | ((first | apply s1 | apply s3 | apply s4) <;> intro hb <;> simp -implicitDefEqProofs only [hb, go_sem, seval] <;> try simp only [qz] at hb))
   all_goals (try simp only [maxLen] at *)
   all_goals first | rfl | omega | skip
   ·exact uT (by rw [← hb]; exact AE (by omega))
   ·refine ⟨⟨i + 1, by omega, DA hall hb⟩, by dsimp only; omega, ?_⟩
    simp -implicitDefEqProofs only [go_sem, seval]
    try simp
  ·simp -implicitDefEqProofs only [hlt, decide_false, go_sem, seval]
   with_reducible repeat' (first | apply ai | intro _ | ((first | apply s1 | apply s3 | apply s4) <;> intro hb <;> simp -implicitDefEqProofs only [hb, go_sem, seval] <;> try simp only [qz] at hb))
   all_goals first | rfl | omega | skip
   exact uF (fx fun j hj => hall j (by omega))
end
def xu : Ct := Aq (lc JU.ag l0) (fun p => True) (fun p => .t (.v (.bool (BV (kM p.1)))))
section
attribute [local go_sem] M7 IH Tt Ae Ac lm
set_option maxHeartbeats 1600000 in
theorem qP {G : Gt} (hG : Ai G) (hh : G.e 142 = AA 0 M7 ∧ G.e 123 = AA 0 IH ∧ G.e 62 = AA 0 Tt) : Gd G 85 (AA 0 xu) := by
 refine gr (fn := Tryz.f85) (n := 1) rfl hG ?_
 rintro ⟨b, ⟨⟩⟩ hpre
 simp -implicitDefEqProofs only [Tryz.f85, go_sem, hh, seval] at hpre ⊢
 refine AF [] (ι := {i : Nat // i ≤ b.mails.length ∧ ∀ j, j < i → (Bb (b.mails.getD j default).frm ∨ Ab (b.mails.getD j default).frm) ∧ DZ (b.mails.getD j default).body}) (fun p => ⟨[(1, .pb 1001 0), (3, .t (.v (.int .i64 p.1)))], [(1001, some (.box ((A5 b).map .t)))]⟩) (fun p => b.mails.length - p.1) ⟨0, by simp, by simp⟩ rfl ?_ ?_
 ·simp -implicitDefEqProofs only [go_sem, hh, seval]
  try simp
 ·rintro ⟨i, hi, hall⟩
  by_cases hlt : (i : Int) < b.mails.length
  ·simp -implicitDefEqProofs only [hlt, decide_true, tn, go_sem, hh, seval]
   with_reducible repeat' (first | apply ai | intro _ | ((first | apply s1 | apply s3 | apply s4) <;> intro hb <;> simp -implicitDefEqProofs only [hb, go_sem, hh, seval] <;> try simp only [qz] at hb))
   all_goals (try simp only [maxLen, tn] at *)
   all_goals first
    | rfl
    | omega
    | exact uF (fun h => absurd (h.1 (b.mails.getD i default) (AE (by omega))).2 (by assumption))
    | exact uF (fun h => (h.1 (b.mails.getD i default) (AE (by omega))).1.elim (fun q => absurd q (by assumption)) fun q => absurd q (by assumption))
    | skip
   all_goals
    refine ⟨⟨i + 1, by omega, DA (P := fun j => (Bb (b.mails.getD j default).frm ∨ Ab (b.mails.getD j default).frm) ∧ DZ (b.mails.getD j default).body) hall ⟨by first | exact .inl (by assumption) | exact .inr (by assumption), by assumption⟩⟩, by dsimp only; omega, ?_⟩
    simp -implicitDefEqProofs only [go_sem, hh, seval]
    try simp
  ·have hA : ∀ g ∈ b.mails, (Bb g.frm ∨ Ab g.frm) ∧ DZ g.body := BX (P := fun g : Gm => (Bb g.frm ∨ Ab g.frm) ∧ DZ g.body) fun j hj => hall j (by omega)
   simp -implicitDefEqProofs only [hlt, decide_false, go_sem, hh, seval]
   with_reducible repeat' (first | apply ai | intro _ | ((first | apply s1 | apply s3 | apply s4) <;> intro hb <;> simp -implicitDefEqProofs only [hb, go_sem, hh, seval] <;> try simp only [qz] at hb))
   all_goals first | rfl | omega | exact uE ⟨fun q => ⟨hA, q⟩, fun q => q.2⟩ | skip
end
def sn : Ct := Aq (lc FX.ag l0) (fun p => True) (fun p => .t (.v (.bool (BV (DI p.1)))))
section
attribute [local go_sem] xu tw bb tx xw Ae Ac lm
set_option maxHeartbeats 6400000 in
theorem pd {G : Gt} (hG : Ai G) (hh : G.e 85 = AA 0 xu ∧ G.e 86 = AA 0 tw ∧ G.e 87 = AA 0 bb ∧ G.e 88 = AA 0 tx ∧ G.e 89 = AA 0 xw) : Gd G 32 (AA 0 sn) := by
 refine gr (fn := Tryz.f32) (n := 1) rfl hG ?_
 rintro ⟨h, ⟨⟩⟩ hpre
 simp -implicitDefEqProofs only [Tryz.f32, go_sem, hh, seval] at hpre ⊢
 refine AF [] (ι := {i : Nat // i ≤ h.boxes.length ∧ ∀ j, j < i → U8 h j}) (fun p => ⟨[(1, .pb 1001 0), (3, .t (.v (.int .i64 p.1)))], [(1001, some (.box ((Ak h).map .t)))]⟩) (fun p => h.boxes.length - p.1) ⟨0, by simp, by simp⟩ rfl ?_ ?_
 ·simp -implicitDefEqProofs only [go_sem, hh, seval]
  try simp
 ·rintro ⟨i, hi, hall⟩
  by_cases hlt : (i : Int) < h.boxes.length
  ·simp -implicitDefEqProofs only [hlt, decide_true, tn, go_sem, hh, seval]
   with_reducible repeat' (first | apply ai | intro _ | ((first | apply s1 | apply s3 | apply s4) <;> intro hb <;> simp -implicitDefEqProofs only [hb, go_sem, hh, seval] <;> try simp only [qz] at hb))
   all_goals (try simp only [maxLen, tn] at *)
   all_goals have hnat : ((i : Int) - 1).toNat = i - 1 := by omega
   all_goals first
    | rfl
    | omega
    | exact uF (fun q => absurd (q.1 i (by omega)).1 (by assumption))
    | exact uF (fun q => absurd (q.1 i (by omega)).2.2 (by assumption))
    | exact uF (fun q => absurd ((q.1 i (by omega)).2.1 (by omega)) (by rw [← hnat]; assumption))
    | skip
   all_goals
    refine ⟨⟨i + 1, by omega, DA hall ⟨by assumption, fun _ => by first | (rw [← hnat]; assumption) | (exfalso; omega), by assumption⟩⟩, by dsimp only; omega, ?_⟩
    simp -implicitDefEqProofs only [go_sem, hh, seval]
    try simp
  ·simp -implicitDefEqProofs only [hlt, decide_false, go_sem, hh, seval]
   with_reducible repeat' (first | apply ai | intro _ | ((first | apply s1 | apply s3 | apply s4) <;> intro hb <;> simp -implicitDefEqProofs only [hb, go_sem, hh, seval] <;> try simp only [qz] at hb))
   all_goals first
    | rfl
    | omega
    | exact uE ⟨fun q => ⟨fun j hj => hall j (by omega), by assumption, q⟩, fun q => q.2.2⟩
    | exact uF (fun q => absurd q.2.1 (by assumption))
    | skip
end
inductive N6 where
 | bad
def N6.enc : N6 → AV
 | .bad  => .t (.fn 44 [])
def N6.dec : AV → Option N6
 | .t (.fn 44 []) => some (.bad )
 | _ => none
def N6.sem : N6 → Gm → Prop
 | .bad , x => ¬ ((Bb x.frm ∨ Ab x.frm) ∧ DZ x.body)
def N6.pre : N6 → Gm → Prop
 | .bad , x => x.frm.domain.size ≤ 2000000 ∧ ∀ s ∈ x.body, s.size ≤ 2000000
def ZU : AD N6 where
 enc := N6.enc
 dec := N6.dec
 ed := fun f => by cases f <;> rfl
 de := fun x f h => by
  unfold N6.dec at h
  split at h <;> cases h <;> rfl
theorem JP  : ZU.dec (.t (.fn 44 [])) = some (.bad ) := rfl
theorem JQ  : ZU.enc (.bad ) = .t (.fn 44 []) := rfl
def xe : Ct := Aq (lc Pv.ag l0) (fun p => p.1.frm.domain.size ≤ 2000000 ∧ ∀ s ∈ p.1.body, s.size ≤ 2000000) (fun p => .t (.v (.bool (BV (¬ ((Bb p.1.frm ∨ Ab p.1.frm) ∧ DZ p.1.body))))))
section
attribute [local go_sem] su sw BO BN An Ao Bool.not_true Bool.not_false Bz DQ
theorem pt {G : Gt} (hG : Ai G) (hh : G.e 45 = AA 0 su ∧ G.e 46 = AA 0 sw) : Gd G 44 (AA 0 xe) := by
 refine gr (fn := Tryz.f44) (n := 1) rfl hG ?_
 rintro ⟨x, ⟨⟩⟩ hpre
 simp -implicitDefEqProofs only [Tryz.f44, go_sem, hh, seval] at hpre ⊢
 with_reducible repeat' (first | apply ai | intro _ | ((first | apply s1 | apply s3 | apply s4) <;> intro hb <;> simp -implicitDefEqProofs only [hb, go_sem, hh, seval] <;> try simp only [qz] at hb))
 all_goals first | rfl | omega | exact hpre.1 | exact hpre.2 | exact hpre.2 _ (by assumption) | skip
 all_goals first
  | exact uT (fun h => absurd h.1 (by assumption))
  | exact uN ⟨fun h q => h q.2, fun h q => h ⟨by assumption, q⟩⟩
  | skip
end
def lj : Ct := Aq (lc Pv.asl (lc ZU l0)) (fun p => ∀ x ∈ p.1, p.2.1.pre x) (fun p => .t (.v (.int .i64 (BB p.2.1.sem 0 p.1))))
section
attribute [local go_sem] xe BO BN An Ao Bool.not_true Bool.not_false Bz DQ JP JQ
theorem ct {G : Gt} (hG : Ai G) (hh : G.e 44 = AA 0 xe) : Gd G 108 (AA 0 lj) := by
 refine gr (fn := Tryz.f108) (n := 2) rfl hG ?_
 rintro ⟨xs, f, ⟨⟩⟩ hpre
 have hs := hpre
 dsimp only at hs ⊢
 cases f with
 | bad  =>
   simp -implicitDefEqProofs only [Tryz.f108, go_sem, hh, seval]
   with_reducible repeat' (first | apply ai | intro _ | ((first | apply s1 | apply s3 | apply s4) <;> intro hb <;> simp -implicitDefEqProofs only [hb, go_sem, hh, seval] <;> try simp only [qz] at hb))
   all_goals first | rfl | omega | skip
   refine AF [] (ι := {i : Nat // i ≤ xs.length ∧ BB (N6.sem (.bad )) 0 xs = BB (N6.sem (.bad )) i (xs.drop i)}) (fun p => ⟨[(0, .t (.sl 3 (xs.map CF))), (1, .t (.fn 44 [])), (7, .t (.v (.int .i64 xs.length))), (8, .t (.v (.int .i64 p.1)))], []⟩) (fun p => xs.length - p.1) ⟨0, Nat.zero_le _, rfl⟩ rfl ?_ ?_
   ·simp -implicitDefEqProofs only [go_sem, hh, seval]
    try simp
   ·rintro ⟨i, hi, hix⟩
    by_cases hlt : (i : Int) < xs.length
    ·have hm : xs.getD (i : Int).toNat default ∈ xs := AE (by omega)
     have hsz := hs _ hm
     cases hb : BV (¬ ((Bb (xs.getD (i : Int).toNat default).frm ∨ Ab (xs.getD (i : Int).toNat default).frm) ∧ DZ (xs.getD (i : Int).toNat default).body))
     ·have hq := hb
      simp -implicitDefEqProofs only [hlt, hq, go_sem, hh, seval]
      with_reducible repeat' (first | apply ai | intro _ | ((first | apply s1 | apply s3 | apply s4) <;> intro hb <;> simp -implicitDefEqProofs only [hb, go_sem, hh, seval] <;> try simp only [qz] at hb))
      all_goals (try simp only [maxLen] at *)
      all_goals first | rfl | omega | with_reducible assumption | exact hsz | exact hsz.1 | exact hsz.2 | exact hsz.2 _ (by assumption) | exact hsz.2.1 | exact hsz.2.2.1 | exact hsz.2.2.2 | trivial | skip
      rw [Ac, tn] at hb
      refine ⟨⟨i + 1, by omega, ?_⟩, by dsimp only; omega, ?_⟩
      ·rw [hix, Dx (p := N6.sem (.bad )) (by omega) hb]
      ·simp -implicitDefEqProofs only [go_sem, hh, seval]
       try simp
     ·have hq := hb
      simp -implicitDefEqProofs only [hlt, hq, go_sem, hh, seval]
      with_reducible repeat' (first | apply ai | intro _ | ((first | apply s1 | apply s3 | apply s4) <;> intro hb <;> simp -implicitDefEqProofs only [hb, go_sem, hh, seval] <;> try simp only [qz] at hb))
      all_goals (try simp only [maxLen] at *)
      all_goals first | rfl | omega | with_reducible assumption | exact hsz | exact hsz.1 | exact hsz.2 | exact hsz.2 _ (by assumption) | exact hsz.2.1 | exact hsz.2.2.1 | exact hsz.2.2.2 | trivial | skip
      rw [Ae, tn] at hb
      rw [hix, Cv (p := N6.sem (.bad )) (by omega) hb]
    ·simp -implicitDefEqProofs only [hlt, go_sem, hh, seval]
     with_reducible repeat' (first | apply ai | intro _ | ((first | apply s1 | apply s3 | apply s4) <;> intro hb <;> simp -implicitDefEqProofs only [hb, go_sem, hh, seval] <;> try simp only [qz] at hb))
     all_goals first | rfl | omega | skip
     all_goals (rw [hix, Cu (by omega)])
end
def xf : Ct := Aq (lc Pv.asl (lc ZU l0)) (fun p => ∀ x ∈ p.1, p.2.1.pre x) (fun p => .t (.v (.bool (BV (∃ x ∈ p.1, p.2.1.sem x)))))
section
attribute [local go_sem] lj BO BN An Ao Bool.not_true Bool.not_false Bz DQ JP JQ
theorem pz {G : Gt} (hG : Ai G) (hh : G.e 108 = AA 0 lj) : Gd G 49 (AA 0 xf) := by
 refine gr (fn := Tryz.f49) (n := 2) rfl hG ?_
 rintro ⟨xs, f, ⟨⟩⟩ hpre
 dsimp only at hpre ⊢
 cases f
 all_goals
  simp -implicitDefEqProofs only [Tryz.f49, go_sem, hh, seval]
  with_reducible repeat' (first | apply ai | intro _ | ((first | apply s1 | apply s3 | apply s4) <;> intro hb <;> simp -implicitDefEqProofs only [hb, go_sem, hh, seval] <;> try simp only [qz] at hb))
  all_goals first | rfl | omega | exact hpre | exact hpre _ (by assumption) | skip
  all_goals (rw [← AW (FJ _ 0)]; rw [BI])
end
inductive N7 where
 | way
def N7.enc : N7 → AV
 | .way  => .t (.fn 99 [])
def N7.dec : AV → Option N7
 | .t (.fn 99 []) => some (.way )
 | _ => none
def N7.sem : N7 → Wy → Prop
 | .way , x => ¬ (DG x.ends ∧ DG x.to)
def N7.pre : N7 → Wy → Prop
 | .way , x => x.ends.size ≤ 2000000 ∧ x.to.size ≤ 2000000
def ZW : AD N7 where
 enc := N7.enc
 dec := N7.dec
 ed := fun f => by cases f <;> rfl
 de := fun x f h => by
  unfold N7.dec at h
  split at h <;> cases h <;> rfl
theorem JR  : ZW.dec (.t (.fn 99 [])) = some (.way ) := rfl
theorem JS  : ZW.enc (.way ) = .t (.fn 99 []) := rfl
def yA : Ct := Aq (lc HG.ag l0) (fun p => p.1.ends.size ≤ 2000000 ∧ p.1.to.size ≤ 2000000) (fun p => .t (.v (.bool (BV (¬ (DG p.1.ends ∧ DG p.1.to))))))
section
attribute [local go_sem] Tu BO BN An Ao Bool.not_true Bool.not_false Bz DQ
theorem ql {G : Gt} (hG : Ai G) (hh : G.e 98 = AA 0 Tu) : Gd G 99 (AA 0 yA) := by
 refine gr (fn := Tryz.f99) (n := 1) rfl hG ?_
 rintro ⟨x, ⟨⟩⟩ hpre
 simp -implicitDefEqProofs only [Tryz.f99, go_sem, hh, seval] at hpre ⊢
 with_reducible repeat' (first | apply ai | intro _ | ((first | apply s1 | apply s3 | apply s4) <;> intro hb <;> simp -implicitDefEqProofs only [hb, go_sem, hh, seval] <;> try simp only [qz] at hb))
 all_goals first | rfl | omega | exact hpre.1 | exact hpre.2 | exact hpre.2 _ (by assumption) | skip
 all_goals first
  | exact uT (fun h => absurd h.1 (by assumption))
  | exact uN ⟨fun h q => h q.2, fun h q => h ⟨by assumption, q⟩⟩
  | skip
end
def mG : Ct := Aq (lc HG.asl (lc ZW l0)) (fun p => ∀ x ∈ p.1, p.2.1.pre x) (fun p => .t (.v (.int .i64 (BB p.2.1.sem 0 p.1))))
section
attribute [local go_sem] yA BO BN An Ao Bool.not_true Bool.not_false Bz DQ JR JS
theorem dY {G : Gt} (hG : Ai G) (hh : G.e 99 = AA 0 yA) : Gd G 152 (AA 0 mG) := by
 refine gr (fn := Tryz.f152) (n := 2) rfl hG ?_
 rintro ⟨xs, f, ⟨⟩⟩ hpre
 have hs := hpre
 dsimp only at hs ⊢
 cases f with
 | way  =>
   simp -implicitDefEqProofs only [Tryz.f152, go_sem, hh, seval]
   with_reducible repeat' (first | apply ai | intro _ | ((first | apply s1 | apply s3 | apply s4) <;> intro hb <;> simp -implicitDefEqProofs only [hb, go_sem, hh, seval] <;> try simp only [qz] at hb))
   all_goals first | rfl | omega | skip
   refine AF [] (ι := {i : Nat // i ≤ xs.length ∧ BB (N7.sem (.way )) 0 xs = BB (N7.sem (.way )) i (xs.drop i)}) (fun p => ⟨[(0, .t (.sl 2 (xs.map Bh))), (1, .t (.fn 99 [])), (7, .t (.v (.int .i64 xs.length))), (8, .t (.v (.int .i64 p.1)))], []⟩) (fun p => xs.length - p.1) ⟨0, Nat.zero_le _, rfl⟩ rfl ?_ ?_
   ·simp -implicitDefEqProofs only [go_sem, hh, seval]
    try simp
   ·rintro ⟨i, hi, hix⟩
    by_cases hlt : (i : Int) < xs.length
    ·have hm : xs.getD (i : Int).toNat default ∈ xs := AE (by omega)
     have hsz := hs _ hm
     cases hb : BV (¬ (DG (xs.getD (i : Int).toNat default).ends ∧ DG (xs.getD (i : Int).toNat default).to))
     ·have hq := hb
      simp -implicitDefEqProofs only [hlt, hq, go_sem, hh, seval]
      with_reducible repeat' (first | apply ai | intro _ | ((first | apply s1 | apply s3 | apply s4) <;> intro hb <;> simp -implicitDefEqProofs only [hb, go_sem, hh, seval] <;> try simp only [qz] at hb))
      all_goals (try simp only [maxLen] at *)
      all_goals first | rfl | omega | with_reducible assumption | exact hsz | exact hsz.1 | exact hsz.2 | exact hsz.2 _ (by assumption) | exact hsz.2.1 | exact hsz.2.2.1 | exact hsz.2.2.2 | trivial | skip
      rw [Ac, tn] at hb
      refine ⟨⟨i + 1, by omega, ?_⟩, by dsimp only; omega, ?_⟩
      ·rw [hix, Dx (p := N7.sem (.way )) (by omega) hb]
      ·simp -implicitDefEqProofs only [go_sem, hh, seval]
       try simp
     ·have hq := hb
      simp -implicitDefEqProofs only [hlt, hq, go_sem, hh, seval]
      with_reducible repeat' (first | apply ai | intro _ | ((first | apply s1 | apply s3 | apply s4) <;> intro hb <;> simp -implicitDefEqProofs only [hb, go_sem, hh, seval] <;> try simp only [qz] at hb))
      all_goals (try simp only [maxLen] at *)
      all_goals first | rfl | omega | with_reducible assumption | exact hsz | exact hsz.1 | exact hsz.2 | exact hsz.2 _ (by assumption) | exact hsz.2.1 | exact hsz.2.2.1 | exact hsz.2.2.2 | trivial | skip
      rw [Ae, tn] at hb
      rw [hix, Cv (p := N7.sem (.way )) (by omega) hb]
    ·simp -implicitDefEqProofs only [hlt, go_sem, hh, seval]
     with_reducible repeat' (first | apply ai | intro _ | ((first | apply s1 | apply s3 | apply s4) <;> intro hb <;> simp -implicitDefEqProofs only [hb, go_sem, hh, seval] <;> try simp only [qz] at hb))
     all_goals first | rfl | omega | skip
     all_goals (rw [hix, Cu (by omega)])
end
def la : Ct := Aq (lc HG.asl (lc ZW l0)) (fun p => ∀ x ∈ p.1, p.2.1.pre x) (fun p => .t (.v (.bool (BV (∃ x ∈ p.1, p.2.1.sem x)))))
section
attribute [local go_sem] mG BO BN An Ao Bool.not_true Bool.not_false Bz DQ JR JS
theorem ck {G : Gt} (hG : Ai G) (hh : G.e 152 = AA 0 mG) : Gd G 101 (AA 0 la) := by
 refine gr (fn := Tryz.f101) (n := 2) rfl hG ?_
 rintro ⟨xs, f, ⟨⟩⟩ hpre
 dsimp only at hpre ⊢
 cases f
 all_goals
  simp -implicitDefEqProofs only [Tryz.f101, go_sem, hh, seval]
  with_reducible repeat' (first | apply ai | intro _ | ((first | apply s1 | apply s3 | apply s4) <;> intro hb <;> simp -implicitDefEqProofs only [hb, go_sem, hh, seval] <;> try simp only [qz] at hb))
  all_goals first | rfl | omega | exact hpre | exact hpre _ (by assumption) | skip
  all_goals (rw [← AW (FJ _ 0)]; rw [BI])
end
def mI : Ct := Aq (lc Ah.asl (lc Aw l0)) (fun p => True) (fun p => .t (.v (.int .i64 (BB (fun s : ByteArray => s = p.2.1) 0 p.1))))
section
attribute [local go_sem] lm
theorem db {G : Gt} (hG : Ai G) : Gd G 155 (AA 0 mI) := by
 refine gr (fn := Tryz.f155) (n := 2) rfl hG ?_
 rintro ⟨xs, a, ⟨⟩⟩ hpre
 simp -implicitDefEqProofs only [Tryz.f155, go_sem, seval] at hpre ⊢
 with_reducible repeat' (first | apply ai | intro _ | ((first | apply s1 | apply s3 | apply s4) <;> intro hb <;> simp -implicitDefEqProofs only [hb, go_sem, seval] <;> try simp only [qz] at hb))
 all_goals first | rfl | omega | skip
 refine AF [] (ι := {i : Nat // i ≤ xs.length ∧ BB (fun s : ByteArray => s = a) 0 xs = BB (fun s : ByteArray => s = a) i (xs.drop i)}) (fun p => ⟨[(0, .t (.sl 1 (xs.map AH))), (1, .t (.v (.string a))), (7, .t (.v (.int .i64 xs.length))), (8, .t (.v (.int .i64 p.1)))], []⟩) (fun p => xs.length - p.1) ⟨0, by simp, rfl⟩ rfl ?_ ?_
 ·simp -implicitDefEqProofs only [go_sem, seval]
  try simp
 ·rintro ⟨i, hi, hix⟩
  by_cases hlt : (i : Int) < xs.length
  ·simp -implicitDefEqProofs only [hlt, decide_true, tn, go_sem, seval]
   with_reducible repeat' (first | apply ai | intro _ | ((first | apply s1 | apply s3 | apply s4) <;> intro hb <;> simp -implicitDefEqProofs only [hb, go_sem, seval] <;> try simp only [qz] at hb))
   all_goals (try simp only [maxLen] at *)
   all_goals first | rfl | omega | skip
   ·rw [hix, Cv (p := fun s : ByteArray => s = a) (by omega) hb.symm]
   ·refine ⟨⟨i + 1, by omega, by rw [hix, Dx (p := fun s : ByteArray => s = a) (by omega) (fun e => hb e.symm)]⟩, by dsimp only; omega, ?_⟩
    simp -implicitDefEqProofs only [go_sem, seval]
    try simp
  ·simp -implicitDefEqProofs only [hlt, decide_false, go_sem, seval]
   with_reducible repeat' (first | apply ai | intro _ | ((first | apply s1 | apply s3 | apply s4) <;> intro hb <;> simp -implicitDefEqProofs only [hb, go_sem, seval] <;> try simp only [qz] at hb))
   all_goals first | rfl | omega | skip
   rw [hix, Cu (by omega)]
end
def li : Ct := Aq (lc Ah.asl (lc Aw l0)) (fun p => True) (fun p => .t (.v (.bool (BV (p.2.1 ∈ p.1)))))
section
attribute [local go_sem] mI
theorem cr {G : Gt} (hG : Ai G) (hh : G.e 155 = AA 0 mI) : Gd G 107 (AA 0 li) := by
 refine gr (fn := Tryz.f107) (n := 2) rfl hG ?_
 rintro ⟨xs, a, ⟨⟩⟩ hpre
 simp -implicitDefEqProofs only [Tryz.f107, go_sem, hh, seval] at hpre ⊢
 with_reducible repeat' (first | apply ai | intro _ | ((first | apply s1 | apply s3 | apply s4) <;> intro hb <;> simp -implicitDefEqProofs only [hb, go_sem, hh, seval] <;> try simp only [qz] at hb))
 all_goals first | rfl | omega | skip
 refine uD ?_
 rw [ge_iff_le, FJ]
 exact ⟨fun ⟨x, hx, e⟩ => e ▸ hx, fun h => ⟨a, h, rfl⟩⟩
end
def nP : Ct := Aq (lc H4.ag (lc Aw l0)) (fun p => True) (fun p => .t (.v (.bool (BV (p.2.1 ∈ p.1.own)))))
section
attribute [local go_sem] li
theorem py {G : Gt} (hG : Ai G) (hh : G.e 107 = AA 0 li) : Gd G 48 (AA 0 nP) := by
 refine gr (fn := Tryz.f48) (n := 2) rfl hG ?_
 rintro ⟨c, a, ⟨⟩⟩ hpre
 simp -implicitDefEqProofs only [Tryz.f48, go_sem, hh, seval] at hpre ⊢
 with_reducible repeat' (first | apply ai | intro _ | ((first | apply s1 | apply s3 | apply s4) <;> intro hb <;> simp -implicitDefEqProofs only [hb, go_sem, hh, seval] <;> try simp only [qz] at hb))
 all_goals first | rfl | omega | skip
end
def xd : Ct := Aq (lc H4.ag l0) (fun p => J1 p.1) (fun p => .t (.v (.bool (BV (Jw p.1)))))
section
attribute [local go_sem] Tu Vn la BO BN An Ao Bool.not_true Bool.not_false Bz DQ JP JQ JR JS DB DD DC DE Ae Ac lm
set_option maxHeartbeats 1600000 in
theorem po {G : Gt} (hG : Ai G) (hh : G.e 98 = AA 0 Tu ∧ G.e 100 = AA 0 Vn ∧ G.e 101 = AA 0 la) : Gd G 42 (AA 0 xd) := by
 refine gr (fn := Tryz.f42) (n := 1) rfl hG ?_
 rintro ⟨c, ⟨⟩⟩ hpre
 simp -implicitDefEqProofs only [Tryz.f42, go_sem, hh, seval] at hpre ⊢
 obtain ⟨z1, ⟨l1, z2⟩, ⟨l2, z3⟩⟩ := hpre
 have y1 : c.name.size ≤ 2000000 := by have : c.name.size ≤ 1048576 := z1; omega
 have y2 : ∀ x ∈ c.own, D7.pre .dom x := fun x hx => by have : x.size ≤ 1048576 := z2 x hx; show x.size ≤ 2000000; omega
 have y3 : ∀ x ∈ c.ways, N7.pre .way x := fun x hx => by
  have h1 : x.ends.size ≤ 1048576 := (z3 x hx).1
  have h2 : x.to.size ≤ 1048576 := (z3 x hx).2
  exact ⟨by omega, by omega⟩
 have e1 : (¬ ∃ x ∈ c.own, D7.sem .dom x) ↔ ∀ s ∈ c.own, DG s := ⟨fun h s hs => Classical.byContradiction fun q => h ⟨s, hs, q⟩, fun h ⟨s, hs, q⟩ => q (h s hs)⟩
 have e2 : (¬ ∃ x ∈ c.ways, N7.sem .way x) ↔ ∀ w ∈ c.ways, DG w.ends ∧ DG w.to := ⟨fun h s hs => Classical.byContradiction fun q => h ⟨s, hs, q⟩, fun h ⟨s, hs, q⟩ => q (h s hs)⟩
 with_reducible repeat' (first | apply ai | intro _ | ((first | apply s1 | apply s3 | apply s4) <;> intro hb <;> simp -implicitDefEqProofs only [hb, go_sem, hh, seval] <;> try simp only [qz] at hb))
 all_goals first | rfl | omega | assumption | exact y2 _ (by assumption) | exact y3 _ (by assumption) | skip
 all_goals first
  | exact uN (e2.trans ⟨fun q => ⟨e1.1 (by assumption), q, by assumption, by omega, by omega⟩, fun q => q.2.1⟩)
  | exact uF (fun q => absurd q.2.2.1 (by assumption))
  | exact uF (fun q => by have h1 := q.2.2.2.1; have h2 := q.2.2.2.2; omega)
  | exact uF (fun q => absurd hb (e1.2 q.1))
  | skip
end
def lZ : Ct := Aq (lc FX.ag l0) (fun p => EM p.1) (fun p => .t (.v (.bool (BV (DI p.1)))))
section
attribute [local go_sem] xd bY bZ nP xf tp BO BN An Ao Bool.not_true Bool.not_false Bz DQ JP JQ JR JS DB DD DC DE Ae Ac lm
set_option maxHeartbeats 6400000 in
theorem pN {G : Gt} (hG : Ai G) (hh : G.e 42 = AA 0 xd ∧ G.e 43 = AA 0 bY ∧ G.e 47 = AA 0 bZ ∧ G.e 48 = AA 0 nP ∧ G.e 49 = AA 0 xf ∧ G.e 50 = AA 0 tp) : Gd G 10 (AA 0 lZ) := by
 refine gr (fn := Tryz.f10) (n := 1) rfl hG ?_
 rintro ⟨h, ⟨⟩⟩ hpre
 simp -implicitDefEqProofs only [Tryz.f10, go_sem, hh, seval] at hpre ⊢
 obtain ⟨zc, zs, ⟨lb, zb⟩, zl⟩ := hpre
 have e1 : ∀ j, j < h.boxes.length → ((∃ x ∈ (h.boxes.getD j default).mails, N6.sem .bad x) ↔ ¬ ∀ g ∈ (h.boxes.getD j default).mails, (Bb g.frm ∨ Ab g.frm) ∧ DZ g.body) := fun j _ => ⟨fun ⟨s, hs, q⟩ f => q (f s hs), fun f => Classical.byContradiction fun q => f fun s hs => Classical.byContradiction fun r => q ⟨s, hs, r⟩⟩
 with_reducible repeat' (first | apply ai | intro _ | ((first | apply s1 | apply s3 | apply s4) <;> intro hb <;> simp -implicitDefEqProofs only [hb, go_sem, hh, seval] <;> try simp only [qz] at hb))
 all_goals first
  | rfl
  | omega
  | assumption
  | exact uF (fun q => absurd q.2.1 (by assumption))
  | exact uF (fun q => absurd q.2.2 (by assumption))
  | skip
 all_goals
  refine AF [] (ι := {i : Nat // i ≤ h.boxes.length ∧ ∀ j, j < i → U8 h j}) (fun p => ⟨[(1, .pb 1001 0), (3, .fn 44 []), (17, .t (.sl 3 (h.boxes.map A5))), (18, .t (.v (.int .i64 h.boxes.length))), (19, .t (.v (.int .i64 p.1)))], [(1001, some (.box ((Ak h).map .t)))]⟩) (fun p => h.boxes.length - p.1) ⟨0, by simp, by simp⟩ rfl ?_ ?_
  ·simp -implicitDefEqProofs only [go_sem, hh, seval]
   try simp
  ·rintro ⟨i, hi, hall⟩
   by_cases hlt : (i : Int) < h.boxes.length
   ·have hbx := zb _ (AE (xs := h.boxes) (j := i) (by omega))
    obtain ⟨za, zm⟩ := hbx
    have y1 : (h.boxes.getD i default).addr.domain.size ≤ 2000000 := by have : (h.boxes.getD i default).addr.domain.size ≤ 1048576 := za.2; omega
    have y2 : ∀ x ∈ (h.boxes.getD i default).mails, N6.pre .bad x := fun x hx => by
     obtain ⟨⟨_, g1⟩, ⟨_, g2⟩⟩ := zm.2 x hx
     refine ⟨by have : x.frm.domain.size ≤ 1048576 := g1; omega, fun s hs => ?_⟩
     have : s.size ≤ 1048576 := g2 s hs
     omega
    have e2 := e1 i (by omega)
    simp -implicitDefEqProofs only [hlt, decide_true, tn, go_sem, hh, seval]
    with_reducible repeat' (first | apply ai | intro _ | ((first | apply s1 | apply s3 | apply s4) <;> intro hb <;> simp -implicitDefEqProofs only [hb, go_sem, hh, seval] <;> try simp only [qz] at hb))
    all_goals (try simp only [maxLen, tn] at *)
    all_goals have hnat : ((i : Int) - 1).toNat = i - 1 := by omega
    all_goals first
     | rfl
     | omega
     | assumption
     | exact y2 _ (by assumption)
     | exact uF (fun q => absurd (q.1 i (by omega)).1.2 (by assumption))
     | exact uF (fun q => absurd (q.1 i (by omega)).2.2 (by assumption))
     | exact uF (fun q => absurd hb (fun f => e2.1 f (q.1 i (by omega)).1.1))
     | exact uF (fun q => by have h9 := (IE _ _).2 ((q.1 i (by omega)).2.1 (by omega)); rw [← hnat] at h9; omega)
     | skip
    all_goals
     refine ⟨⟨i + 1, by omega, DA hall ⟨⟨Classical.byContradiction fun f => absurd (e2.2 f) (by assumption), by assumption⟩, fun _ => by first | (exact (IE _ _).1 (by rw [← hnat]; omega)) | (exfalso; omega), by assumption⟩⟩, by dsimp only; omega, ?_⟩
     simp -implicitDefEqProofs only [go_sem, hh, seval]
     try simp
   ·simp -implicitDefEqProofs only [hlt, decide_false, go_sem, hh, seval]
    with_reducible repeat' (first | apply ai | intro _ | ((first | apply s1 | apply s3 | apply s4) <;> intro hb <;> simp -implicitDefEqProofs only [hb, go_sem, hh, seval] <;> try simp only [qz] at hb))
    all_goals first | rfl | omega | exact uT ⟨fun j hj => hall j (by omega), by assumption, by assumption⟩ | skip
end
def z7 : ByteArray := ⟨#[73, 100, 58, 32]⟩
def Mr (s : ByteArray) : Prop := 4 < s.size ∧ s.extract 0 4 = z7
noncomputable def CA : List ByteArray → ByteArray
 | [] => ⟨#[]⟩
 | x :: r => bif BV (Mr x) then x else CA r
theorem X9 {xs : List ByteArray} {i : Nat} (h : i < xs.length) (ha : Mr (xs.getD i default)) : CA (xs.drop i) = xs.getD i default := by
 rw [AX h, CA, Ap ha]; rfl
theorem fq {xs : List ByteArray} {i : Nat} (h : i < xs.length) (ha : ¬ Mr (xs.getD i default)) : CA (xs.drop i) = CA (xs.drop (i + 1)) := by
 rw [AX h, CA, AN ha]; rfl
theorem X7 {xs : List ByteArray} {i : Nat} (h : xs.length ≤ i) : CA (xs.drop i) = ⟨#[]⟩ := by
 rw [List.drop_eq_nil_of_le h, CA]
def zR (s p : ByteArray) : Prop := p.size ≤ s.size ∧ s.extract 0 p.size = p
section
end
def ba : Ct := Aq (lc Ah.asl l0) (fun p => True) (fun p => .t (.v (.string (CA p.1))))
section
attribute [local go_sem] lm
theorem p7 {G : Gt} (hG : Ai G) : Gd G 61 (AA 0 ba) := by
 refine gr (fn := Tryz.f61) (n := 1) rfl hG ?_
 rintro ⟨xs, ⟨⟩⟩ hpre
 simp -implicitDefEqProofs only [Tryz.f61, go_sem, seval] at hpre ⊢
 refine AF [] (ι := {i : Nat // i ≤ xs.length ∧ CA xs = CA (xs.drop i)}) (fun p => ⟨[(0, .t (.sl 1 (xs.map AH))), (3, .t (.v (.int .i64 p.1)))], []⟩) (fun p => xs.length - p.1) ⟨0, by simp, rfl⟩ rfl ?_ ?_
 ·simp -implicitDefEqProofs only [go_sem, seval]
  try simp
 ·rintro ⟨i, hi, hix⟩
  by_cases hlt : (i : Int) < xs.length
  ·simp -implicitDefEqProofs only [hlt, decide_true, tn, go_sem, seval]
   with_reducible repeat' (first | apply ai | intro _ | ((first | apply s1 | apply s3 | apply s4) <;> intro hb <;> simp -implicitDefEqProofs only [hb, go_sem, seval] <;> try simp only [qz] at hb))
   all_goals (try simp only [maxLen, tn] at *)
   all_goals first
    | rfl
    | omega
    | (rw [hix, X9 (by omega) ⟨by omega, by assumption⟩]; done)
    | skip
   all_goals
    refine ⟨⟨i + 1, by omega, by rw [hix, fq (by omega) (fun h => by first | exact absurd h.2 (by assumption) | (have := h.1; omega))]⟩, by dsimp only; omega, ?_⟩
    simp -implicitDefEqProofs only [go_sem, seval]
    try simp
  ·simp -implicitDefEqProofs only [hlt, decide_false, go_sem, seval]
   with_reducible repeat' (first | apply ai | intro _ | ((first | apply s1 | apply s3 | apply s4) <;> intro hb <;> simp -implicitDefEqProofs only [hb, go_sem, seval] <;> try simp only [qz] at hb))
   all_goals first | rfl | omega | skip
   rw [hix, X7 (by omega)]
end
section
attribute [local go_sem] lm Ae Ac
end
theorem uK {x : ByteArray} : Ah.decL [[.v (.string x)]] = some [x] := Ah.decL_map [x]
def kf (l : Ls) : Prop := ¬ l.mark = ⟨#[]⟩ ∧ CA [l.mark] = l.mark ∧ Bb l.addr ∧ Ie l.mark
def Se (h : Hs) : ByteArray := h.conf.name
def kq (w : Wd) : Prop := (∀ h ∈ w.hosts, DI h) ∧ (w.hosts.map Se).Nodup ∧ (∀ l ∈ w.given, kf l) ∧ (1 ≤ (w.hosts.length : Int) ∧ (w.hosts.length : Int) ≤ 4) ∧ (0 ≤ w.now ∧ w.now ≤ 9999) ∧ (0 ≤ w.marks ∧ w.marks ≤ 60)
theorem UU {xs : List Hs} (h : ∀ j, j < xs.length → ∀ k, k < j → ¬ (xs.getD k default).conf.name = (xs.getD j default).conf.name) : (xs.map Se).Nodup := by
 rw [List.nodup_iff_pairwise_ne, List.pairwise_iff_getElem]
 intro k j hk hj hkj
 rw [lm] at hk hj
 have := h j hj k hkj
 simpa [hk, hj, Se] using this
theorem UM {xs : List Hs} (h : (xs.map Se).Nodup) {k i : Nat} (hk : k < i) (hi : i < xs.length) : ¬ (xs.getD k default).conf.name = (xs.getD i default).conf.name := fun e => by
 have q1 : k < xs.length := by omega
 simp only [List.getD_eq_getElem?_getD, List.getElem?_eq_getElem q1, List.getElem?_eq_getElem hi, Option.getD_some] at e
 exact List.pairwise_iff_getElem.1 (List.nodup_iff_pairwise_ne.1 h) k i (by simpa using q1) (by simpa using hi) hk (by simpa [Se] using e)
def xh : Ct := Aq (lc iZ.ag l0) (fun p => True) (fun p => .t (.v (.bool (BV (kq p.1)))))
section
attribute [local go_sem] sn IH ba QW Lb Ae Ac lm uK
set_option maxHeartbeats 6400000 in
theorem p6 {G : Gt} (hG : Ai G) (hh : G.e 32 = AA 0 sn ∧ G.e 123 = AA 0 IH ∧ G.e 61 = AA 0 ba ∧ G.e 124 = AA 0 QW ∧ G.e 36 = AA 0 Lb) : Gd G 58 (AA 0 xh) := by
 refine gr (fn := Tryz.f58) (n := 1) rfl hG ?_
 rintro ⟨w, ⟨⟩⟩ hpre
 simp -implicitDefEqProofs only [Tryz.f58, go_sem, hh, seval] at hpre ⊢
 refine AF [] (ι := {i : Nat // i ≤ w.hosts.length ∧ (∀ j, j < i → DI (w.hosts.getD j default)) ∧ ∀ j, j < i → ∀ k, k < j → ¬ (w.hosts.getD k default).conf.name = (w.hosts.getD j default).conf.name}) (fun p => ⟨[(1, .pb 1001 0), (3, .t (.v (.int .i64 p.1)))], [(1001, some (.box ((Il w).map .t)))]⟩) (fun p => w.hosts.length - p.1) ⟨0, by simp, by simp, by simp⟩ rfl ?_ ?_
 ·simp -implicitDefEqProofs only [go_sem, hh, seval]
  try simp
 ·rintro ⟨i, hi, hall, hno⟩
  by_cases hlt : (i : Int) < w.hosts.length
  ·simp -implicitDefEqProofs only [hlt, decide_true, tn, go_sem, hh, seval]
   with_reducible repeat' (first | apply ai | intro _ | ((first | apply s1 | apply s3 | apply s4) <;> intro hb <;> simp -implicitDefEqProofs only [hb, go_sem, hh, seval] <;> try simp only [qz] at hb))
   all_goals (try simp only [maxLen, tn] at *)
   all_goals first
    | rfl
    | omega
    | exact uF (fun q => absurd (q.1 (w.hosts.getD i default) (AE (by omega))) (by assumption))
    | skip
   refine AF [] (ι := {k : Nat // k ≤ i ∧ ∀ j, j < k → ¬ (w.hosts.getD j default).conf.name = (w.hosts.getD i default).conf.name}) (fun p => ⟨[(1, .pb 1001 0), (3, .t (.v (.int .i64 i))), (4, .t (.v (.int .i64 p.1)))], [(1001, some (.box ((Il w).map .t)))]⟩) (fun p => i - p.1) ⟨0, by simp, by simp⟩ rfl ?_ ?_
   ·simp -implicitDefEqProofs only [go_sem, hh, seval]
    try simp
   ·rintro ⟨k, hk, hk2⟩
    by_cases hlt2 : (k : Int) < i
    ·simp -implicitDefEqProofs only [hlt2, decide_true, tn, go_sem, hh, seval]
     with_reducible repeat' (first | apply ai | intro _ | ((first | apply s1 | apply s3 | apply s4) <;> intro hb <;> simp -implicitDefEqProofs only [hb, go_sem, hh, seval] <;> try simp only [qz] at hb))
     all_goals (try simp only [maxLen, tn] at *)
     all_goals first
      | rfl
      | omega
      | exact uF (fun q => UM q.2.1 (k := k) (i := i) (by omega) (by omega) (by assumption))
      | skip
     all_goals
      refine ⟨⟨k + 1, by omega, DA hk2 (by assumption)⟩, by dsimp only; omega, ?_⟩
      simp -implicitDefEqProofs only [go_sem, hh, seval]
      try simp
    ·simp -implicitDefEqProofs only [hlt2, decide_false, go_sem, hh, seval]
     with_reducible repeat' (first | apply ai | intro _ | ((first | apply s1 | apply s3 | apply s4) <;> intro hb <;> simp -implicitDefEqProofs only [hb, go_sem, hh, seval] <;> try simp only [qz] at hb))
     all_goals first | rfl | omega | skip
     refine ⟨⟨i + 1, by omega, DA hall (by assumption), DA (P := fun j => ∀ k, k < j → ¬ (w.hosts.getD k default).conf.name = (w.hosts.getD j default).conf.name) hno (fun q hq => hk2 q (by omega))⟩, by dsimp only; omega, ?_⟩
     simp -implicitDefEqProofs only [go_sem, hh, seval]
     try simp
  ·have hA : ∀ h ∈ w.hosts, DI h := BX fun j hj => hall j (by omega)
   have hN : (w.hosts.map Se).Nodup := UU fun j hj q hq => hno j (by omega) q hq
   simp -implicitDefEqProofs only [hlt, decide_false, go_sem, hh, seval]
   with_reducible repeat' (first | apply ai | intro _ | ((first | apply s1 | apply s3 | apply s4) <;> intro hb <;> simp -implicitDefEqProofs only [hb, go_sem, hh, seval] <;> try simp only [qz] at hb))
   all_goals first | rfl | omega | skip
   refine AF [] (ι := {i : Nat // i ≤ w.given.length ∧ ∀ j, j < i → kf (w.given.getD j default)}) (fun p => ⟨[(1, .pb 1001 0), (5, .t (.v (.int .i64 p.1)))], [(1001, some (.box ((Il w).map .t)))]⟩) (fun p => w.given.length - p.1) ⟨0, by simp, by simp⟩ rfl ?_ ?_
   ·simp -implicitDefEqProofs only [go_sem, hh, seval]
    try simp
   ·rintro ⟨k, hk, hall2⟩
    by_cases hlt2 : (k : Int) < w.given.length
    ·simp -implicitDefEqProofs only [hlt2, decide_true, tn, go_sem, hh, seval]
     with_reducible repeat' (first | apply ai | intro _ | ((first | apply s1 | apply s3 | apply s4) <;> intro hb <;> simp -implicitDefEqProofs only [hb, go_sem, hh, seval] <;> try simp only [qz] at hb))
     all_goals (try simp only [maxLen, tn] at *)
     all_goals first
      | rfl
      | omega
      | decide
      | exact uF (fun q => absurd (q.2.2.1 (w.given.getD k default) (AE (by omega))).1 (by simpa using hb))
      | exact uF (fun q => absurd (q.2.2.1 (w.given.getD k default) (AE (by omega))).2.1 (by assumption))
      | exact uF (fun q => absurd (q.2.2.1 (w.given.getD k default) (AE (by omega))).2.2.1 (by assumption))
      | exact uF (fun q => absurd (q.2.2.1 (w.given.getD k default) (AE (by omega))).2.2.2 (by assumption))
      | skip
     all_goals
      refine ⟨⟨k + 1, by omega, DA hall2 ⟨by first | assumption | (simpa using hb), by assumption, by assumption, by assumption⟩⟩, by dsimp only; omega, ?_⟩
      simp -implicitDefEqProofs only [go_sem, hh, seval]
      try simp
    ·have hB : ∀ l ∈ w.given, kf l := BX fun j hj => hall2 j (by omega)
     simp -implicitDefEqProofs only [hlt2, decide_false, go_sem, hh, seval]
     with_reducible repeat' (first | apply ai | intro _ | ((first | apply s1 | apply s3 | apply s4) <;> intro hb <;> simp -implicitDefEqProofs only [hb, go_sem, hh, seval] <;> try simp only [qz] at hb))
     all_goals first
      | rfl
      | omega
      | exact uE ⟨fun q => ⟨hA, hN, hB, by assumption, by assumption, q⟩, fun q => q.2.2.2.2.2⟩
      | exact uF (fun q => absurd q.2.2.2.1 (by assumption))
      | exact uF (fun q => absurd q.2.2.2.2.1 (by assumption))
      | skip
end
def BZ {α : Type} (f : α → Int) : List α → Int
 | [] => 0
 | x :: r => f x + BZ f r
theorem LP {α : Type} [Inhabited α] {f : α → Int} {xs : List α} {i : Nat} (h : i < xs.length) : BZ f (xs.drop i) = f (xs.getD i default) + BZ f (xs.drop (i + 1)) := by
 rw [AX h]; rfl
theorem Nz {α : Type} {f : α → Int} {xs : List α} {i : Nat} (h : xs.length ≤ i) : BZ f (xs.drop i) = 0 := by
 rw [List.drop_eq_nil_of_le h]; rfl
theorem Rf {α : Type} {f : α → Int} {B : Int} : ∀ {xs : List α}, (∀ x ∈ xs, 0 ≤ f x ∧ f x ≤ B) → 0 ≤ BZ f xs ∧ BZ f xs ≤ B * xs.length
 | [], _ => by simp [BZ]
 | x :: r, h => by
   have h1 := h x (by simp)
   have h2 := Rf (xs := r) fun y hy => h y (by simp [hy])
   have e1 : B * ((r.length + 1 : Nat) : Int) = B * r.length + B := by rw [Int.natCast_add, Int.mul_add]; simp
   simp only [BZ, List.length_cons]
   omega
theorem F7 {α : Type} {f : α → Int} {xs : List α} (h : ∀ x ∈ xs, 0 ≤ f x) (i : Nat) : 0 ≤ BZ f (xs.drop i) := by
 have h2 : ∀ {ys : List α}, (∀ x ∈ ys, 0 ≤ f x) → 0 ≤ BZ f ys := fun {ys} => by
  induction ys with
  | nil => intro _; exact Int.le_refl _
  | cons y r ih =>
    intro h
    have h1 := h y (by simp)
    have h3 := ih fun z hz => h z (by simp [hz])
    show 0 ≤ f y + BZ f r
    omega
 exact h2 fun x hx => h x (List.mem_of_mem_drop hx)
def Jp (x : Im) : Int := x.to.length
open Classical in
noncomputable def EZ (s : Sp) : Int := if Bk s then BZ Jp s.items else -1
theorem Mw {s : Sp} (h : Bk s) : EZ s = BZ Jp s.items := if_pos h
theorem aO {s : Sp} (h : ¬ Bk s) : EZ s = -1 := if_neg h
theorem Sw {s : Sp} (h : Bk s) : 0 ≤ BZ Jp s.items ∧ BZ Jp s.items ≤ 40 := by
 have h1 := Rf (f := Jp) (B := 4) (xs := s.items) fun x hx => by
  have := (h.1 x hx).1.2.2.2.2.1
  unfold Jp; omega
 have h2 := h.2.2.2
 omega
def xR : Ct := Aq (lc Px.ag l0) (fun p => Fg p.1) (fun p => .t (.v (.int .i64 (EZ p.1))))
section
attribute [local go_sem] bY Ae Ac lm
theorem pO {G : Gt} (hG : Ai G) (hh : G.e 43 = AA 0 bY) : Gd G 11 (AA 0 xR) := by
 refine gr (fn := Tryz.f11) (n := 1) rfl hG ?_
 rintro ⟨s, ⟨⟩⟩ hpre
 simp -implicitDefEqProofs only [Tryz.f11, go_sem, hh, seval] at hpre ⊢
 by_cases h : Bk s
 ·have b1 := Ap h
  have hm := Sw h
  rw [Mw h]
  simp -implicitDefEqProofs only [b1, go_sem, hh, seval]
  with_reducible repeat' (first | apply ai | intro _ | ((first | apply s1 | apply s3 | apply s4) <;> intro hb <;> simp -implicitDefEqProofs only [hb, go_sem, hh, seval] <;> try simp only [qz] at hb))
  all_goals first | rfl | omega | assumption | contradiction | skip
  all_goals
   refine AF [] (ι := {p : Nat × Int // p.1 ≤ s.items.length ∧ 0 ≤ p.2 ∧ p.2 + BZ Jp (s.items.drop p.1) = BZ Jp s.items}) (fun p => ⟨[(1, .pb 1001 0), (3, .t (.v (.int .i64 p.1.2))), (10, .t (.sl 5 (s.items.map Ag))), (11, .t (.v (.int .i64 s.items.length))), (12, .t (.v (.int .i64 p.1.1)))], [(1001, some (.box ((Dt s).map .t)))]⟩) (fun p => s.items.length - p.1.1) ⟨(0, 0), by simp, by simp, by simp⟩ rfl ?_ ?_
   ·simp -implicitDefEqProofs only [go_sem, hh, seval]
    try simp
   ·rintro ⟨⟨i, v⟩, hi, h0, hv⟩
    dsimp only at hi h0 hv ⊢
    by_cases hlt : (i : Int) < s.items.length
    ·have Ar := LP (f := Jp) (xs := s.items) (i := i) (by omega)
     have hrest := F7 (f := Jp) (xs := s.items) (fun x _ => by unfold Jp; omega) (i + 1)
     have hr : Jp (s.items.getD i default) = (s.items.getD i default).to.length := rfl
     simp -implicitDefEqProofs only [hlt, decide_true, tn, go_sem, hh, seval]
     with_reducible repeat' (first | apply ai | intro _ | ((first | apply s1 | apply s3 | apply s4) <;> intro hb <;> simp -implicitDefEqProofs only [hb, go_sem, hh, seval] <;> try simp only [qz] at hb))
     all_goals (try simp only [maxLen, tn] at *)
     all_goals first | rfl | omega | skip
     refine ⟨⟨(i + 1, v + (s.items.getD i default).to.length), by dsimp only; omega, by dsimp only; omega, by dsimp only; omega⟩, by dsimp only; omega, ?_⟩
     simp -implicitDefEqProofs only [go_sem, hh, seval]
     try simp
    ·have Ar := Nz (f := Jp) (xs := s.items) (i := i) (by omega)
     simp -implicitDefEqProofs only [hlt, decide_false, go_sem, hh, seval]
     with_reducible repeat' (first | apply ai | intro _ | ((first | apply s1 | apply s3 | apply s4) <;> intro hb <;> simp -implicitDefEqProofs only [hb, go_sem, hh, seval] <;> try simp only [qz] at hb))
     all_goals first | rfl | omega | (rw [← hv, Ar, Int.add_zero]; done) | skip
 ·have b1 := AN h
  rw [aO h]
  simp -implicitDefEqProofs only [b1, go_sem, hh, seval]
  with_reducible repeat' (first | apply ai | intro _ | ((first | apply s1 | apply s3 | apply s4) <;> intro hb <;> simp -implicitDefEqProofs only [hb, go_sem, hh, seval] <;> try simp only [qz] at hb))
  all_goals first | rfl | omega | assumption | contradiction | skip
end
def yM (h : Hs) : Int := h.spool.items.length
noncomputable def yV (h : Hs) : Int := EZ h.spool
def GX (b : Bx) : Int := b.mails.length
def KT (h : Hs) : Int := BZ GX h.boxes
def yR (h : Hs) : Int := h.lost.length
theorem Jk {h : Hs} (hh : DI h) (ho : EM h) : (0 ≤ yM h ∧ yM h ≤ 10) ∧ (0 ≤ yV h ∧ yV h ≤ 40) ∧ (0 ≤ KT h ∧ KT h ≤ 1099511627776) ∧ (0 ≤ yR h ∧ yR h ≤ 1048576) := by
 obtain ⟨_, _, ⟨lb, zb⟩, ⟨ll, _⟩⟩ := ho
 have hs := hh.2.2
 have h1 := hs.2.2.2
 have h2 := Sw hs
 have h3 := Rf (f := GX) (B := 1048576) (xs := h.boxes) fun b hb => by
  have := (zb b hb).2.1
  unfold GX; omega
 refine ⟨by unfold yM; omega, by unfold yV; rw [Mw hs]; exact h2, ?_, by unfold yR; omega⟩
 unfold KT
 have h4 : (1048576 : Int) * h.boxes.length ≤ 1048576 * 1048576 := Int.mul_le_mul_of_nonneg_left lb (by decide)
 omega
section
variable {a b c d x : Int}
end
open Classical in
noncomputable def JM (d : ByteArray) : Wy → List Wy → Wy
 | b, [] => b
 | b, w :: r => JM d (if P7 d w.ends ∧ b.ends.size < w.ends.size then w else b) r
noncomputable def I9 (c : Cf) (d : ByteArray) : ByteArray := (JM d ⟨⟨#[]⟩, ⟨#[]⟩⟩ c.ways).to
theorem ZM {d : ByteArray} {b : Wy} {xs : List Wy} {i : Nat} (h : i < xs.length) (h1 : P7 d (xs.getD i default).ends) (h2 : b.ends.size < (xs.getD i default).ends.size) : JM d b (xs.drop i) = JM d (xs.getD i default) (xs.drop (i + 1)) := by
 rw [AX h, JM, if_pos ⟨h1, h2⟩]
theorem ZL {d : ByteArray} {b : Wy} {xs : List Wy} {i : Nat} (h : i < xs.length) (h1 : ¬ (P7 d (xs.getD i default).ends ∧ b.ends.size < (xs.getD i default).ends.size)) : JM d b (xs.drop i) = JM d b (xs.drop (i + 1)) := by
 rw [AX h, JM, if_neg h1]
theorem Pt {d : ByteArray} {b : Wy} {xs : List Wy} {i : Nat} (h : xs.length ≤ i) : JM d b (xs.drop i) = b := by
 rw [List.drop_eq_nil_of_le h, JM]
open Classical in
noncomputable def TQ (c : Cf) (d : ByteArray) : ByteArray := if d ∈ c.own then ⟨#[]⟩ else I9 c d
theorem iT {c : Cf} {d : ByteArray} (h : d ∈ c.own) : TQ c d = ⟨#[]⟩ := if_pos h
theorem N4 {c : Cf} {d : ByteArray} (h : ¬ d ∈ c.own) : TQ c d = I9 c d := if_neg h
def Qa : Ct := Aq (lc H4.ag (lc Aw l0)) (fun p => True) (fun p => .t (.v (.string (I9 p.1 p.2.1))))
section
attribute [local go_sem] mX Ae Ac lm
theorem du {G : Gt} (hG : Ai G) (hh : G.e 196 = AA 0 mX) : Gd G 171 (AA 0 Qa) := by
 refine gr (fn := Tryz.f171) (n := 2) rfl hG ?_
 rintro ⟨c, d, ⟨⟩⟩ hpre
 simp -implicitDefEqProofs only [Tryz.f171, go_sem, hh, seval] at hpre ⊢
 refine AF [] (ι := {p : Nat × Wy // p.1 ≤ c.ways.length ∧ I9 c d = (JM d p.2 (c.ways.drop p.1)).to}) (fun p => ⟨[(1, .t (.v (.string d))), (2, .pb 1002 0), (5, .t (.v (.string p.1.2.ends))), (6, .t (.v (.string p.1.2.to))), (7, .t (.v (.int .i64 p.1.1)))], [(1002, some (.box ((Co c).map .t)))]⟩) (fun p => c.ways.length - p.1.1) ⟨(0, ⟨⟨#[]⟩, ⟨#[]⟩⟩), by simp, rfl⟩ rfl ?_ ?_
 ·simp -implicitDefEqProofs only [go_sem, hh, seval]
  try simp
 ·rintro ⟨⟨i, b⟩, hi, hw⟩
  dsimp only at hi hw ⊢
  by_cases hlt : (i : Int) < c.ways.length
  ·simp -implicitDefEqProofs only [hlt, decide_true, tn, go_sem, hh, seval]
   with_reducible repeat' (first | apply ai | intro _ | ((first | apply s1 | apply s3 | apply s4) <;> intro hb <;> simp -implicitDefEqProofs only [hb, go_sem, hh, seval] <;> try simp only [qz] at hb))
   all_goals (try simp only [maxLen, tn] at *)
   all_goals first | rfl | omega | skip
   all_goals first
    | (refine ⟨⟨(i + 1, c.ways.getD i default), by dsimp only; omega, by dsimp only; rw [hw, ZM (by omega) (by assumption) (by omega)]⟩, by dsimp only; omega, ?_⟩
       simp -implicitDefEqProofs only [go_sem, hh, seval]
       simp; done)
    | (refine ⟨⟨(i + 1, b), by dsimp only; omega, by dsimp only; rw [hw, ZL (by omega) (fun q => by first | exact absurd q.1 (by assumption) | (have := q.2; omega))]⟩, by dsimp only; omega, ?_⟩
       simp -implicitDefEqProofs only [go_sem, hh, seval]
       simp; done)
    | skip
  ·simp -implicitDefEqProofs only [hlt, decide_false, go_sem, hh, seval]
   with_reducible repeat' (first | apply ai | intro _ | ((first | apply s1 | apply s3 | apply s4) <;> intro hb <;> simp -implicitDefEqProofs only [hb, go_sem, hh, seval] <;> try simp only [qz] at hb))
   all_goals first | rfl | omega | (rw [hw, Pt (by omega)]; done) | skip
end
def ly : Ct := Aq (lc H4.ag (lc Aw l0)) (fun p => J1 p.1 ∧ Jw p.1 ∧ p.2.1.size ≤ 2000000 ∧ DG p.2.1) (fun p => .t (.v (.string (TQ p.1 p.2.1))))
section
attribute [local go_sem] nP mO Ae Ac lm
set_option maxHeartbeats 800000 in
theorem dE {G : Gt} (hG : Ai G) (hh : G.e 48 = AA 0 nP ∧ G.e 168 = AA 0 mO) : Gd G 129 (AA 0 ly) := by
 refine gr (fn := Tryz.f129) (n := 2) rfl hG ?_
 rintro ⟨c, d, ⟨⟩⟩ hpre
 simp -implicitDefEqProofs only [Tryz.f129, go_sem, hh, seval] at hpre ⊢
 obtain ⟨⟨_, _, ⟨lw, zw⟩⟩, hc, hd, hdd⟩ := hpre
 with_reducible repeat' (first | apply ai | intro _ | ((first | apply s1 | apply s3 | apply s4) <;> intro hb <;> simp -implicitDefEqProofs only [hb, go_sem, hh, seval] <;> try simp only [qz] at hb))
 all_goals first | rfl | omega | (rw [iT hb]; done) | skip
 refine AF [] (ι := {p : Nat × Wy // p.1 ≤ c.ways.length ∧ I9 c d = (JM d p.2 (c.ways.drop p.1)).to}) (fun p => ⟨[(1, .t (.v (.string d))), (2, .pb 1002 0), (5, .pb 1005 0), (13, .t (.sl 2 (c.ways.map Bh))), (14, .t (.v (.int .i64 c.ways.length))), (15, .t (.v (.int .i64 p.1.1)))], [(1002, some (.box ((Co c).map .t))), (1005, some (.box ((Bh p.1.2).map .t)))]⟩) (fun p => c.ways.length - p.1.1) ⟨(0, ⟨⟨#[]⟩, ⟨#[]⟩⟩), by simp, rfl⟩ rfl ?_ ?_
 ·simp -implicitDefEqProofs only [go_sem, hh, seval]
  try simp
 ·rintro ⟨⟨i, b⟩, hi, hw⟩
  dsimp only at hi hw ⊢
  by_cases hlt : (i : Int) < c.ways.length
  ·have hm := AE (xs := c.ways) (j := i) (by omega)
   have hz : (c.ways.getD i default).ends.size ≤ 1500000 := by have : (c.ways.getD i default).ends.size ≤ 1048576 := (zw _ hm).1; omega
   have hde := (hc.2.1 _ hm).1
   simp -implicitDefEqProofs only [hlt, decide_true, tn, go_sem, hh, seval]
   with_reducible repeat' (first | apply ai | intro _ | ((first | apply s1 | apply s3 | apply s4) <;> intro hb <;> simp -implicitDefEqProofs only [hb, go_sem, hh, seval] <;> try simp only [qz] at hb))
   all_goals (try simp only [maxLen, tn] at *)
   all_goals first | rfl | omega | skip
   all_goals first
    | (refine ⟨⟨(i + 1, c.ways.getD i default), by dsimp only; omega, by dsimp only; rw [hw, ZM (by omega) (And.right (And.right (by assumption))) (by omega)]⟩, by dsimp only; omega, ?_⟩
       simp -implicitDefEqProofs only [go_sem, hh, seval]
       simp; done)
    | (refine ⟨⟨(i + 1, b), by dsimp only; omega, by dsimp only; rw [hw, ZL (by omega) (fun q => by first | exact absurd (And.intro hdd (And.intro hde q.1)) (by assumption) | (have := q.2; omega))]⟩, by dsimp only; omega, ?_⟩
       simp -implicitDefEqProofs only [go_sem, hh, seval]
       simp; done)
    | skip
  ·simp -implicitDefEqProofs only [hlt, decide_false, go_sem, hh, seval]
   with_reducible repeat' (first | apply ai | intro _ | ((first | apply s1 | apply s3 | apply s4) <;> intro hb <;> simp -implicitDefEqProofs only [hb, go_sem, hh, seval] <;> try simp only [qz] at hb))
   all_goals first | rfl | omega | (rw [N4 (by assumption), hw, Pt (by omega)]; done) | skip
end
def EY (c : Cf) (to : ByteArray) (w : Int) (r : Rc) : Prop := r.next ≤ w ∧ ((r.addr.domain ∈ c.own ∧ to = ⟨#[]⟩) ∨ (¬ r.addr.domain ∈ c.own ∧ ¬ to = ⟨#[]⟩ ∧ I9 c r.addr.domain = to))
noncomputable def Aj (c : Cf) (to : ByteArray) (w : Int) : List Rc → List Ad
 | [] => []
 | r :: t => bif BV (EY c to w r) then r.addr :: Aj c to w t else Aj c to w t
section
variable {c : Cf} {to : ByteArray} {w : Int} {xs : List Rc} {i : Nat}
theorem LC (h : i < xs.length) (hn : EY c to w (xs.getD i default)) : Aj c to w (xs.drop i) = (xs.getD i default).addr :: Aj c to w (xs.drop (i + 1)) := by
 rw [AX h, Aj, Ap hn]; rfl
theorem No (h : i < xs.length) (hn : ¬ EY c to w (xs.getD i default)) : Aj c to w (xs.drop i) = Aj c to w (xs.drop (i + 1)) := by
 rw [AX h, Aj, AN hn]; rfl
theorem Hm (h : xs.length ≤ i) : Aj c to w (xs.drop i) = [] := by
 rw [List.drop_eq_nil_of_le h, Aj]
end
theorem Er (c : Cf) (to : ByteArray) (w : Int) : ∀ xs : List Rc, (Aj c to w xs).length ≤ xs.length
 | [] => Nat.le_refl _
 | r :: t => by
   rw [Aj]
   have := Er c to w t
   cases BV (EY c to w r) <;> simp only [cond_true, cond_false, List.length_cons] <;> omega
theorem Es (c : Cf) (to : ByteArray) (w : Int) : ∀ xs : List Rc, ∀ a ∈ Aj c to w xs, ∃ r ∈ xs, r.addr = a ∧ EY c to w r
 | [], a, h => by cases h
 | r :: t, a, h => by
   rw [Aj] at h
   by_cases hn : EY c to w r
   ·rw [Ap hn] at h
    rcases List.mem_cons.1 h with e | h
    ·exact ⟨r, by simp, e.symm, hn⟩
    ·obtain ⟨q, hq, he⟩ := Es c to w t a h
     exact ⟨q, by simp [hq], he⟩
   ·rw [AN hn] at h
    obtain ⟨q, hq, he⟩ := Es c to w t a h
    exact ⟨q, by simp [hq], he⟩
noncomputable def Hl (c : Cf) (x : Im) (to : ByteArray) (w : Int) : Ml := ⟨x.frm, Aj c to w x.to, x.body⟩
def gN (p : Ml × Bool) : AV := .tup [RP p.1, .t (.v (.bool p.2))]
theorem RO (p : Ml × Bool) : BT (gN p) := .tup _ fun c hc => by
 simp only [List.mem_cons, List.not_mem_nil, or_false] at hc
 rcases hc with rfl | rfl
 ·exact HC _
 ·exact .v _
def YH : Ml := ⟨⟨⟨#[]⟩, ⟨#[]⟩⟩, [], []⟩
open Classical in
noncomputable def Ly (h : Hs) (n : Int) (to : ByteArray) (w : Int) : Ml × Bool :=
 if DI h ∧ ¬ At h.spool n < 0 ∧ (to = ⟨#[]⟩ ∨ DG to) ∧ ¬ Aj h.conf to w (Aa h.spool n).to = [] then (Hl h.conf (Aa h.spool n) to w, true) else (YH, false)
theorem Rr {h : Hs} {n : Int} {to : ByteArray} {w : Int} (q : DI h ∧ ¬ At h.spool n < 0 ∧ (to = ⟨#[]⟩ ∨ DG to) ∧ ¬ Aj h.conf to w (Aa h.spool n).to = []) : Ly h n to w = (Hl h.conf (Aa h.spool n) to w, true) := if_pos q
theorem HI {h : Hs} {n : Int} {to : ByteArray} {w : Int} (q : ¬ (DI h ∧ ¬ At h.spool n < 0 ∧ (to = ⟨#[]⟩ ∨ DG to) ∧ ¬ Aj h.conf to w (Aa h.spool n).to = [])) : Ly h n to w = (YH, false) := if_neg q
theorem HF {xs : List Ad} {a : Ad} : (xs ++ [a]).map Az = xs.map Az ++ [[.v (.string a.user), .v (.string a.domain)]] := by
 rw [List.map_append]; rfl
def Vq : Ct := Aq (lc FX.ag (lc Ey.ag (lc BA (lc Aw (lc BA l0))))) (fun p => 0 ≤ p.2.2.1 ∧ p.2.2.1 < p.2.1.to.length) (fun p => .t (.v (.bool (BV (EY p.1.conf p.2.2.2.1 p.2.2.2.2.1 (p.2.1.to.getD p.2.2.1.toNat default))))))
section
attribute [local go_sem] bb Qa Ae Ac lm
set_option maxHeartbeats 800000 in
theorem dI {G : Gt} (hG : Ai G) (hh : G.e 87 = AA 0 bb ∧ G.e 171 = AA 0 Qa) : Gd G 133 (AA 0 Vq) := by
 refine gr (fn := Tryz.f133) (n := 5) rfl hG ?_
 rintro ⟨h, x, k, to, w, ⟨⟩⟩ hpre
 simp -implicitDefEqProofs only [Tryz.f133, go_sem, hh, seval] at hpre ⊢
 obtain ⟨hk0, hk1⟩ := hpre
 with_reducible repeat' (first | apply ai | intro _ | ((first | apply s1 | apply s3 | apply s4) <;> intro hb <;> simp -implicitDefEqProofs only [hb, go_sem, hh, seval] <;> try simp only [qz] at hb))
 all_goals (try simp only [maxLen] at *)
 all_goals first
  | rfl
  | omega
  | exact uF (fun q => by have := q.1; omega)
  | exact uD ⟨fun q => ⟨by omega, .inl ⟨by assumption, q⟩⟩, fun q => q.2.elim (fun z => z.2) fun z => absurd (by assumption) z.1⟩
  | exact uD ⟨fun q => ⟨by omega, .inr ⟨by assumption, by simpa using hb, q⟩⟩, fun q => q.2.elim (fun z => absurd z.1 (by assumption)) fun z => z.2.2⟩
  | exact uF (fun q => q.2.elim (fun z => absurd z.1 (by assumption)) fun z => z.2.1 (by simpa using hb))
  | skip
end
def mj : Ct := Aq (lc FX.ag (lc BA (lc Aw (lc BA l0)))) (fun p => EM p.1 ∧ 0 ≤ p.2.1 ∧ p.2.1 < p.1.spool.items.length) (fun p => RP (Hl p.1.conf (p.1.spool.items.getD p.2.1.toNat default) p.2.2.1 p.2.2.2.1))
section
attribute [local go_sem] Vq Ae Ac lm List.length_append List.length_cons List.length_nil List.map_nil Nat.zero_add List.nil_append AS.opn AS.cls AS.nilb AS.renb AS.up Bool.not_false Bool.not_true List.set_set List.set_cons_zero List.set_cons_succ List.set_nil List.mem_singleton forall_eq
set_option maxHeartbeats 1600000 in
theorem eU {G : Gt} (hG : Ai G) (hh : G.e 133 = AA 0 Vq) : Gd G 226 (AA 0 mj) := by
 refine Lr (dp := fun n => !(Nat.beq n 100003 || Nat.beq n 100005)) (fn := Tryz.f226) (n := 4) rfl hG ?_ (hs := fun _ p => HC _)
 rintro ⟨h, n, to, w, ⟨⟩⟩ hpre
 simp -implicitDefEqProofs only [Tryz.f226, go_sem, hh, seval] at hpre ⊢
 obtain ⟨⟨_, ⟨_, hsz⟩, _⟩, hn0, hn1⟩ := hpre
 try dsimp only at hn0 hn1
 obtain ⟨ni, rfl⟩ := Int.eq_ofNat_of_zero_le hn0
 have hx := hsz _ (AE (xs := h.spool.items) (j := ni) (by omega))
 obtain ⟨_, ⟨hl1, _⟩, ⟨hl2, _⟩⟩ := hx
 simp only [tn] at *
 with_reducible repeat' (first | apply ai | intro _ | ((first | apply s1 | apply s3 | apply s4) <;> intro hb <;> simp -implicitDefEqProofs only [hb, go_sem, hh, seval] <;> try simp only [qz] at hb))
 all_goals (try simp only [maxLen] at *)
 all_goals first | rfl | omega | assumption | decide | skip
 all_goals
  refine AU (Le.nilb 1010 2 1901 true 2 rfl rfl rfl) (AR ?_)
  simp -implicitDefEqProofs only [go_sem, hh, seval]
  refine AF [] (ι := {p : Nat × List Ad // p.1 ≤ (h.spool.items.getD ni default).to.length ∧ p.2.length ≤ p.1 ∧ Aj h.conf to w (h.spool.items.getD ni default).to = p.2 ++ Aj h.conf to w ((h.spool.items.getD ni default).to.drop p.1)}) (fun p => ⟨[(2, .t (.v (.string to))), (3, .t (.v (.int .i64 w))), (4, .pb 1004 0), (8, .pb 1008 0), (9, .pb 1009 0), (10, .pb 1010 0), (11, .t (.v (.int .i64 p.1.1)))], [(1008, some (.box [.t (.v (.string ⟨#[]⟩)), .t (.v (.string ⟨#[]⟩)), .nil, .nil])), (1004, some (.box ((Ak h).map .t))), (1009, some (.box ((Ag (h.spool.items.getD ni default)).map .t))), (1010, some (.box [.t (.v (.string (h.spool.items.getD ni default).frm.user)), .t (.v (.string (h.spool.items.getD ni default).frm.domain)), .h 1901, .h 1023])), (1023, some (.arr true 1 ((h.spool.items.getD ni default).body.map AH))), (1901, some (.arr true 2 (p.1.2.map Az)))]⟩) (fun p => (h.spool.items.getD ni default).to.length - p.1.1) ⟨(0, []), by simp, by simp, rfl⟩ rfl ?_ ?_
  ·simp -implicitDefEqProofs only [go_sem, hh, seval]
   try simp
  ·rintro ⟨⟨i, L⟩, hi, hL, hq⟩
   dsimp only at hi hL hq ⊢
   by_cases hlt : (i : Int) < (h.spool.items.getD ni default).to.length
   ·simp -implicitDefEqProofs only [hlt, decide_true, tn, go_sem, hh, seval]
    with_reducible repeat' (first | apply ai | intro _ | ((first | apply s1 | apply s3 | apply s4) <;> intro hb <;> simp -implicitDefEqProofs only [hb, go_sem, hh, seval] <;> try simp only [qz] at hb))
    all_goals (try simp only [maxLen, tn] at *)
    all_goals first | rfl | omega | assumption | decide | skip
    ·refine AU (Le.renb 1010 2 1047 1901 rfl rfl rfl rfl) (AR ?_)
     simp -implicitDefEqProofs only [go_sem, hh, seval]
     with_reducible repeat' (first | apply ai | intro _ | ((first | apply s1 | apply s3 | apply s4) <;> intro hb <;> simp -implicitDefEqProofs only [hb, go_sem, hh, seval] <;> try simp only [qz] at hb))
     all_goals first | rfl | omega | decide | skip
     refine ⟨⟨(i + 1, L ++ [((h.spool.items.getD ni default).to.getD i default).addr]), by dsimp only; omega, by simp; omega, by dsimp only; rw [hq, LC (by omega) (by assumption)]; simp⟩, by dsimp only; omega, ?_⟩
     simp -implicitDefEqProofs only [go_sem, hh, seval]
     simp only [HF]
     with_reducible repeat' (first | apply ai | intro _ | ((first | apply s1 | apply s3 | apply s4) <;> intro hb <;> simp -implicitDefEqProofs only [hb, go_sem, hh, seval] <;> try simp only [qz] at hb))
     all_goals first | rfl | (simp; done) | skip
    ·refine AR ?_
     simp -implicitDefEqProofs only [go_sem, hh, seval]
     with_reducible repeat' (first | apply ai | intro _ | ((first | apply s1 | apply s3 | apply s4) <;> intro hb <;> simp -implicitDefEqProofs only [hb, go_sem, hh, seval] <;> try simp only [qz] at hb))
     all_goals first | rfl | omega | decide | skip
     refine ⟨⟨(i + 1, L), by dsimp only; omega, by dsimp only; omega, by dsimp only; rw [hq, No (by omega) (by assumption)]⟩, by dsimp only; omega, ?_⟩
     simp -implicitDefEqProofs only [go_sem, hh, seval]
     try simp
   ·have hend : Aj h.conf to w (h.spool.items.getD ni default).to = L := by rw [hq, Hm (by omega), List.append_nil]
    simp -implicitDefEqProofs only [hlt, decide_false, Hl, hend, go_sem, hh, seval]
    with_reducible repeat' (first | apply ai | intro _ | ((first | apply s1 | apply s3 | apply s4) <;> intro hb <;> simp -implicitDefEqProofs only [hb, go_sem, hh, seval] <;> try simp only [qz] at hb))
    all_goals first | rfl | omega | decide | skip
end
theorem VC {n : Int} : LZ.sem (.part n) = fun x : Im => x.id = n := rfl
theorem aD {h : Hs} (hh : DI h) {i k : Nat} (hi : i < h.spool.items.length) (hk : k < (h.spool.items.getD i default).to.length) : DG ((h.spool.items.getD i default).to.getD k default).addr.domain :=
 ((hh.2.2.1 _ (AE hi)).1.1 _ (AE hk)).1.2
def xj : Ct := Aq (lc FX.ag (lc BA (lc Aw (lc BA l0)))) (fun p => EM p.1 ∧ p.2.2.1.size ≤ 2000000) (fun p => gN (Ly p.1 p.2.1 p.2.2.1 p.2.2.2.1))
section
attribute [local go_sem] tu lZ Tu U0 nP ly BO BN An Ao Bool.not_true Bool.not_false Bz DQ Mg Mi Mh Mj VC Ae Ac lm List.length_append List.length_cons List.length_nil List.map_nil Nat.zero_add List.nil_append gN YH Hl AS.opn AS.cls AS.nilb AS.renb AS.up List.set_set List.set_cons_zero List.set_cons_succ List.set_nil List.mem_singleton forall_eq
set_option maxHeartbeats 3200000 in
theorem p9 {G : Gt} (hG : Ai G) (hh : G.e 76 = AA 0 tu ∧ G.e 10 = AA 0 lZ ∧ G.e 98 = AA 0 Tu ∧ G.e 68 = AA 0 U0 ∧ G.e 48 = AA 0 nP ∧ G.e 129 = AA 0 ly) : Gd G 66 (AA 0 xj) := by
 refine Lr (dp := fun n => !(Nat.beq n 100006 || Nat.beq n 100012)) (fn := Tryz.f66) (n := 4) rfl hG ?_ (hs := fun _ p => RO _)
 rintro ⟨h, n, to, w, ⟨⟩⟩ hpre
 obtain ⟨hok, hto⟩ := hpre
 dsimp only at hok hto ⊢
 have hok2 := hok
 obtain ⟨hcf, ⟨_, hsz⟩, _⟩ := hok2
 by_cases q1 : DI h
 ·have b1 := Ap q1
  by_cases q2 : At h.spool n < 0
  ·have q2' : BB (fun x : Im => x.id = n) 0 h.spool.items < 0 := q2
   rw [HI (fun q => q.2.1 q2)]
   simp -implicitDefEqProofs only [Tryz.f66, b1, q2', decide_true, go_sem, hh, seval]
   with_reducible repeat' (first | apply ai | intro _ | ((first | apply s1 | apply s3 | apply s4) <;> intro hb <;> simp -implicitDefEqProofs only [hb, go_sem, hh, seval] <;> try simp only [qz] at hb))
   all_goals first | rfl | omega | assumption | decide | exact trivial | contradiction | exact absurd (Or.inr (by assumption)) q3 | exact absurd (Or.inl (by assumption)) q3 | skip
  ·have q2' : ¬ BB (fun x : Im => x.id = n) 0 h.spool.items < 0 := q2
   obtain ⟨a0, a1⟩ := Bf q2
   have a0' : 0 ≤ BB (fun x : Im => x.id = n) 0 h.spool.items := a0
   have a1' : BB (fun x : Im => x.id = n) 0 h.spool.items < h.spool.items.length := a1
   obtain ⟨ni, hni⟩ := Int.eq_ofNat_of_zero_le a0'
   have hT : Aa h.spool n = h.spool.items.getD ni default := by unfold Aa At; rw [hni]; rfl
   rw [hni] at q2' a0' a1'
   by_cases q3 : to = ⟨#[]⟩ ∨ DG to
   ·have hx := hsz _ (AE (xs := h.spool.items) (j := ni) (by omega))
    obtain ⟨_, ⟨hl1, hzr⟩, ⟨hl2, _⟩⟩ := hx
    obtain ⟨R, hR⟩ : ∃ x, x = Ly h n to w := ⟨_, rfl⟩
    rw [← hR]
    have hRy : ¬ Aj h.conf to w (h.spool.items.getD ni default).to = [] → R = (Hl h.conf (h.spool.items.getD ni default) to w, true) := fun q => by rw [hR, Rr ⟨q1, q2, q3, by rw [hT]; exact q⟩, hT]
    have hRn : Aj h.conf to w (h.spool.items.getD ni default).to = [] → R = (YH, false) := fun q => by rw [hR, HI (fun z => z.2.2.2 (by rw [hT]; exact q))]
    have hdm : (decide (to = ⟨#[]⟩) || BV (DG to)) = true := by
     rcases q3 with q | q
     ·simp [q]
     ·simp [Ap q]
    simp -implicitDefEqProofs only [Tryz.f66, b1, hni, q2', decide_false, tn, go_sem, hh, seval]
    with_reducible repeat' (first | apply ai | intro _ | ((first | apply s1 | apply s3 | apply s4) <;> intro hb <;> simp -implicitDefEqProofs only [hb, go_sem, hh, seval] <;> try simp only [qz] at hb))
    all_goals (try simp only [maxLen, tn] at *)
    all_goals first | rfl | omega | assumption | decide | exact trivial | contradiction | (exfalso; rcases q3 with q3 | q3 <;> contradiction) | skip
    all_goals
     refine AU (Le.nilb 1012 2 1901 true 2 rfl rfl rfl) (AR ?_)
     simp -implicitDefEqProofs only [go_sem, hh, seval]
     with_reducible repeat' (first | apply ai | intro _ | ((first | apply s1 | apply s3 | apply s4) <;> intro hb <;> simp -implicitDefEqProofs only [hb, go_sem, hh, seval] <;> try simp only [qz] at hb))
     all_goals first | rfl | omega | skip
     refine AF [] (ι := {p : Nat × List Ad // p.1 ≤ (h.spool.items.getD ni default).to.length ∧ p.2.length ≤ p.1 ∧ Aj h.conf to w (h.spool.items.getD ni default).to = p.2 ++ Aj h.conf to w ((h.spool.items.getD ni default).to.drop p.1)}) (fun p => ⟨[(2, .t (.v (.string to))), (3, .t (.v (.int .i64 w))), (4, .pb 1004 0), (8, .pb 1008 0), (12, .pb 1012 0), (51, .t (.sl 4 ((h.spool.items.getD ni default).to.map BJ))), (52, .t (.v (.int .i64 (h.spool.items.getD ni default).to.length))), (53, .t (.v (.int .i64 p.1.1)))], [(1004, some (.box ((Ak h).map .t))), (1008, some (.box [.t (.v (.string ⟨#[]⟩)), .t (.v (.string ⟨#[]⟩)), .nil, .nil])), (1012, some (.box [.t (.v (.string (h.spool.items.getD ni default).frm.user)), .t (.v (.string (h.spool.items.getD ni default).frm.domain)), .h 1901, .h 1048])), (1048, some (.arr true 1 ((h.spool.items.getD ni default).body.map AH))), (1901, some (.arr true 2 (p.1.2.map Az)))]⟩) (fun p => (h.spool.items.getD ni default).to.length - p.1.1) ⟨(0, []), by simp, by simp, rfl⟩ rfl ?_ ?_
     ·simp -implicitDefEqProofs only [go_sem, hh, seval]
      try simp
     ·rintro ⟨⟨i, L⟩, hi, hL, hq⟩
      dsimp only at hi hL hq ⊢
      by_cases hlt : (i : Int) < (h.spool.items.getD ni default).to.length
      ·have hd := aD q1 (i := ni) (k := i) (by omega) (by omega)
       have hd2 : ((h.spool.items.getD ni default).to.getD i default).addr.domain.size ≤ 2000000 := by have : ((h.spool.items.getD ni default).to.getD i default).addr.domain.size ≤ 1048576 := (hzr _ (AE (by omega))).2; omega
       have hcf2 := q1.2.1
       by_cases hN : EY h.conf to w ((h.spool.items.getD ni default).to.getD i default)
       ·have hN2 := hN
        obtain ⟨n1, n2⟩ := hN2
        rcases n2 with ⟨m1, m2⟩ | ⟨m1, m2, m3⟩
        ·have c1 := Ap m1
         have m2d := decide_eq_true m2
         simp -implicitDefEqProofs only [hlt, c1, n1, m2d, decide_true, tn, go_sem, hh, seval]
         with_reducible repeat' (first | apply ai | intro _ | ((first | apply s1 | apply s3 | apply s4) <;> intro hb <;> simp -implicitDefEqProofs only [hb, go_sem, hh, seval] <;> try simp only [qz] at hb))
         all_goals (try simp only [maxLen, tn] at *)
         all_goals first | rfl | omega | assumption | decide | skip
         all_goals
          refine AU (Le.renb 1012 2 1097 1901 rfl rfl rfl rfl) (AR ?_)
          simp -implicitDefEqProofs only [go_sem, hh, seval]
          with_reducible repeat' (first | apply ai | intro _ | ((first | apply s1 | apply s3 | apply s4) <;> intro hb <;> simp -implicitDefEqProofs only [hb, go_sem, hh, seval] <;> try simp only [qz] at hb))
          all_goals first | rfl | omega | decide | skip
          refine ⟨⟨(i + 1, L ++ [((h.spool.items.getD ni default).to.getD i default).addr]), by dsimp only; omega, by simp; omega, by dsimp only; rw [hq, LC (by omega) (by assumption)]; simp⟩, by dsimp only; omega, ?_⟩
          simp -implicitDefEqProofs only [go_sem, hh, seval]
          simp only [HF]
          with_reducible repeat' (first | apply ai | intro _ | ((first | apply s1 | apply s3 | apply s4) <;> intro hb <;> simp -implicitDefEqProofs only [hb, go_sem, hh, seval] <;> try simp only [qz] at hb))
          all_goals first | rfl | (simp; done) | skip
        ·have c1 := AN m1
         have c3 : TQ h.conf ((h.spool.items.getD ni default).to.getD i default).addr.domain = to := by rw [N4 m1]; exact m3
         simp -implicitDefEqProofs only [hlt, c1, c3, n1, m2, decide_true, decide_false, tn, go_sem, hh, seval]
         with_reducible repeat' (first | apply ai | intro _ | ((first | apply s1 | apply s3 | apply s4) <;> intro hb <;> simp -implicitDefEqProofs only [hb, go_sem, hh, seval] <;> try simp only [qz] at hb))
         all_goals (try simp only [maxLen, tn] at *)
         all_goals first | rfl | omega | assumption | decide | skip
         all_goals
          refine AU (Le.renb 1012 2 1097 1901 rfl rfl rfl rfl) (AR ?_)
          simp -implicitDefEqProofs only [go_sem, hh, seval]
          with_reducible repeat' (first | apply ai | intro _ | ((first | apply s1 | apply s3 | apply s4) <;> intro hb <;> simp -implicitDefEqProofs only [hb, go_sem, hh, seval] <;> try simp only [qz] at hb))
          all_goals first | rfl | omega | decide | skip
          refine ⟨⟨(i + 1, L ++ [((h.spool.items.getD ni default).to.getD i default).addr]), by dsimp only; omega, by simp; omega, by dsimp only; rw [hq, LC (by omega) (by assumption)]; simp⟩, by dsimp only; omega, ?_⟩
          simp -implicitDefEqProofs only [go_sem, hh, seval]
          simp only [HF]
          with_reducible repeat' (first | apply ai | intro _ | ((first | apply s1 | apply s3 | apply s4) <;> intro hb <;> simp -implicitDefEqProofs only [hb, go_sem, hh, seval] <;> try simp only [qz] at hb))
          all_goals first | rfl | (simp; done) | skip
       ·have hN2 : ∀ b : Bool, (b = true → EY h.conf to w ((h.spool.items.getD ni default).to.getD i default)) → b = false := fun b hb => by
          cases b
          ·rfl
          ·exact absurd (hb rfl) hN
        simp -implicitDefEqProofs only [hlt, decide_true, tn, go_sem, hh, seval]
        with_reducible repeat' (first | apply ai | intro _ | ((first | apply s1 | apply s3 | apply s4) <;> intro hb <;> simp -implicitDefEqProofs only [hb, go_sem, hh, seval] <;> try simp only [qz] at hb))
        all_goals (try simp only [maxLen, tn] at *)
        all_goals first
         | rfl
         | omega
         | assumption
         | decide
         | (exfalso; exact hN ⟨by omega, .inl ⟨by assumption, by assumption⟩⟩)
         | (exfalso; exact hN ⟨by omega, .inr ⟨by assumption, by assumption, by rw [← N4 (by assumption)]; assumption⟩⟩)
         | skip
        all_goals
         refine AR ?_
         simp -implicitDefEqProofs only [go_sem, hh, seval]
         with_reducible repeat' (first | apply ai | intro _ | ((first | apply s1 | apply s3 | apply s4) <;> intro hb <;> simp -implicitDefEqProofs only [hb, go_sem, hh, seval] <;> try simp only [qz] at hb))
         all_goals first | rfl | omega | decide | skip
         refine ⟨⟨(i + 1, L), by dsimp only; omega, by dsimp only; omega, by dsimp only; rw [hq, No (by omega) (by assumption)]⟩, by dsimp only; omega, ?_⟩
         simp -implicitDefEqProofs only [go_sem, hh, seval]
         try simp
      ·have hend : Aj h.conf to w (h.spool.items.getD ni default).to = L := by rw [hq, Hm (by omega), List.append_nil]
       rw [hend] at hRy hRn
       by_cases hL0 : L = []
       ·rw [hRn hL0]
        subst hL0
        simp -implicitDefEqProofs only [hlt, decide_false, go_sem, hh, seval]
        with_reducible repeat' (first | apply ai | intro _ | ((first | apply s1 | apply s3 | apply s4) <;> intro hb <;> simp -implicitDefEqProofs only [hb, go_sem, hh, seval] <;> try simp only [qz] at hb))
        all_goals first | with_reducible rfl | omega | decide | exact absurd rfl (by assumption) | rfl | skip
       ·rw [hRy hL0]
        have hL1 : ¬ (L.length : Int) = 0 := fun e => hL0 (List.eq_nil_of_length_eq_zero (by omega))
        simp -implicitDefEqProofs only [hlt, hL1, hend, decide_false, go_sem, hh, seval]
        with_reducible repeat' (first | apply ai | intro _ | ((first | apply s1 | apply s3 | apply s4) <;> intro hb <;> simp -implicitDefEqProofs only [hb, go_sem, hh, seval] <;> try simp only [qz] at hb))
        all_goals first | with_reducible rfl | omega | decide | exact absurd rfl (by assumption) | rfl | skip
   ·have q5 : ¬ to = ⟨#[]⟩ := fun e => q3 (.inl e)
    have b5 := AN (fun e => q3 (.inr e))
    rw [HI (fun q => q3 q.2.2.1)]
    simp -implicitDefEqProofs only [Tryz.f66, b1, b5, hni, q5, decide_true, decide_false, go_sem, hh, seval]
    with_reducible repeat' (first | apply ai | intro _ | ((first | apply s1 | apply s3 | apply s4) <;> intro hb <;> simp -implicitDefEqProofs only [hb, go_sem, hh, seval] <;> try simp only [qz] at hb))
    all_goals first | rfl | omega | assumption | decide | exact trivial | contradiction | exact absurd (Or.inr (by assumption)) q3 | exact absurd (Or.inl (by assumption)) q3 | skip
 ·have b1 := AN q1
  rw [HI (fun q => q1 q.1)]
  simp -implicitDefEqProofs only [Tryz.f66, b1, go_sem, hh, seval]
  with_reducible repeat' (first | apply ai | intro _ | ((first | apply s1 | apply s3 | apply s4) <;> intro hb <;> simp -implicitDefEqProofs only [hb, go_sem, hh, seval] <;> try simp only [qz] at hb))
  all_goals first | rfl | omega | assumption | decide | exact trivial | contradiction | exact absurd (Or.inr (by assumption)) q3 | exact absurd (Or.inl (by assumption)) q3 | skip
end
def J6 (c : Cf) (a : Ad) : Prop := a.domain ∈ c.own ∨ ¬ I9 c a.domain = ⟨#[]⟩
def nO : Ct := Aq (lc H4.ag (lc DH.ag l0)) (fun p => True) (fun p => .t (.v (.bool (BV (J6 p.1 p.2.1)))))
section
attribute [local go_sem] bb Qa Ae Ac
theorem fM {G : Gt} (hG : Ai G) (hh : G.e 87 = AA 0 bb ∧ G.e 171 = AA 0 Qa) : Gd G 259 (AA 0 nO) := by
 refine gr (fn := Tryz.f259) (n := 2) rfl hG ?_
 rintro ⟨c, a, ⟨⟩⟩ hpre
 simp -implicitDefEqProofs only [Tryz.f259, go_sem, hh, seval] at hpre ⊢
 with_reducible repeat' (first | apply ai | intro _ | ((first | apply s1 | apply s3 | apply s4) <;> intro hb <;> simp -implicitDefEqProofs only [hb, go_sem, hh, seval] <;> try simp only [qz] at hb))
 all_goals first | rfl | omega | skip
 all_goals (try simp only [Ae, Ac] at *)
 all_goals first
  | exact uT (.inl (by assumption))
  | exact uB (by simp only [qc, qb]; exact ⟨fun z => .inr z, fun q => q.elim (fun z => absurd z (by assumption)) id⟩)
  | skip
end
def KJ (w : Int) (a : Ad) : Rc := ⟨a, 0, w⟩
def VR (s : Sp) (m : Ml) (w : Int) : Im := ⟨s.last + 1, m.frm, m.to.map (KJ w), m.body⟩
def Ll (s : Sp) (m : Ml) (w : Int) : Sp := ⟨s.last + 1, s.items ++ [VR s m w]⟩
def CJ (s : Sp) : Prop := (s.items.length : Int) < 10 ∧ s.last < 999
theorem iM {xs : List Ad} {w : Int} {i : Nat} (h : i < xs.length) : ((xs.map (KJ w)).take (i + 1)).map BJ = ((xs.map (KJ w)).take i).map BJ ++ [[.v (.string (xs.getD i default).user), .v (.string (xs.getD i default).domain), .v (.int .i64 0), .v (.int .i64 w)]] := by
 have e : (xs.map (KJ w)).getD i default = KJ w (xs.getD i default) := by
  simp only [List.getD_eq_getElem?_getD, List.getElem?_map, List.getElem?_eq_getElem h, Option.map_some, Option.getD_some]
 rw [BL BJ (by rw [lm]; exact h), e]
 rfl
def KV : Ct := Aq (lc Px.ag l0) (fun p => True) (fun p => .t (.v (.bool (BV (CJ p.1)))))
section
attribute [local go_sem] lm
theorem dT {G : Gt} (hG : Ai G) : Gd G 147 (AA 0 KV) := by
 refine gr (fn := Tryz.f147) (n := 1) rfl hG ?_
 rintro ⟨s, ⟨⟩⟩ hpre
 simp -implicitDefEqProofs only [Tryz.f147, go_sem, seval] at hpre ⊢
 with_reducible repeat' (first | apply ai | intro _ | ((first | apply s1 | apply s3 | apply s4) <;> intro hb <;> simp -implicitDefEqProofs only [hb, go_sem, seval] <;> try simp only [qz] at hb))
 all_goals first
  | rfl
  | omega
  | (rw [← BI, AW]; exact ⟨fun h => ⟨by assumption, h⟩, fun h => h.2⟩)
  | (rw [AN]; rintro ⟨h1, h2⟩; contradiction)
  | (rw [Ap]; exact ⟨by assumption, by assumption⟩)
  | skip
end
section
attribute [local go_sem] lm
end
def QZ : Ct := Aq (lc Px.ag (lc Zw.ag (lc BA l0))) (fun p => Fg p.1 ∧ Lj p.2.1 ∧ Bk p.1) (fun p => .agg ((Dt (Ll p.1 p.2.1 p.2.2.1)).map .t))
section
attribute [local go_sem] Ic IL List.take_length List.drop_zero List.length_take List.length_drop lm List.length_append List.length_cons List.length_nil List.map_append List.map_nil List.map_cons List.nil_append Nat.zero_add List.mem_singleton forall_eq Bool.not_true Bool.not_false AS.opn AS.cls AS.nilb AS.renb List.set_set List.set_cons_zero List.set_cons_succ List.set_nil
set_option maxHeartbeats 1600000 in
theorem dU {G : Gt} (hG : Ai G) : Gd G 148 (AA 1 QZ) := by
 refine Lr (dp := fun n => Nat.ble 100000 n && !(Nat.beq n 100002 || Nat.beq n 100004 || Nat.beq n 100007)) (fn := Tryz.f148) (n := 3) rfl hG ?_
 rintro ⟨s, m, w, ⟨⟩⟩ hpre
 simp -implicitDefEqProofs only [Tryz.f148, go_sem, seval] at hpre ⊢
 obtain ⟨hok, hml, hsp⟩ := hpre
 have hok' : Gl Ff s.items := hok
 obtain ⟨_, ⟨hl1, _⟩, ⟨hl2, _⟩⟩ := hml
 obtain ⟨_, _, ⟨hs0, hs1⟩, hs2⟩ := hsp
 with_reducible repeat' (first | apply ai | intro _ | ((first | apply s1 | apply s3 | apply s4) <;> intro hb <;> simp -implicitDefEqProofs only [hb, go_sem, seval] <;> try simp only [qz] at hb))
 all_goals (try simp only [maxLen] at *)
 all_goals first | rfl | omega | assumption | decide | skip
 all_goals
  refine AU (Le.nilb 1007 3 1901 true 4 rfl rfl rfl) (AR ?_)
  simp -implicitDefEqProofs only [go_sem, seval]
  refine AF [] (ι := {i : Nat // i ≤ m.to.length}) (fun p => ⟨[(2, .t (.v (.int .i64 w))), (3, .pb 1003 0), (4, .pb 1004 0), (6, .pb 1006 0), (7, .pb 1007 0), (8, .t (.v (.int .i64 p.1)))], [(1003, some (.box [.t (.v (.int .i64 s.last)), .t (.sl 5 (s.items.map Ag))])), (1004, some (.box ((DN m).map .t))), (1006, some (.box [.t (.v (.int .i64 0)), .nil])), (1007, some (.box [.t (.v (.int .i64 (s.last + 1))), .t (.v (.string m.frm.user)), .t (.v (.string m.frm.domain)), .h 1901, .h 1017])), (1017, some (.arr true 1 (m.body.map AH))), (1901, some (.arr true 4 (((m.to.map (KJ w)).take p.1).map BJ)))]⟩) (fun p => m.to.length - p.1) ⟨0, by simp⟩ rfl ?_ ?_
  ·simp -implicitDefEqProofs only [go_sem, seval]
   try simp
  ·rintro ⟨i, hi⟩
   have hlen : ((m.to.map (KJ w)).take i).length = i := by simp; omega
   by_cases hlt : (i : Int) < m.to.length
   ·simp -implicitDefEqProofs only [hlt, decide_true, tn, go_sem, seval]
    with_reducible repeat' (first | apply ai | intro _ | ((first | apply s1 | apply s3 | apply s4) <;> intro hb <;> simp -implicitDefEqProofs only [hb, go_sem, seval] <;> try simp only [qz] at hb))
    all_goals (try simp only [maxLen] at *)
    all_goals first | rfl | omega | assumption | decide | skip
    refine AU (Le.renb 1007 3 1036 1901 rfl rfl rfl rfl) (AR ?_)
    simp -implicitDefEqProofs only [go_sem, seval]
    with_reducible repeat' (first | apply ai | intro _ | ((first | apply s1 | apply s3 | apply s4) <;> intro hb <;> simp -implicitDefEqProofs only [hb, go_sem, seval] <;> try simp only [qz] at hb))
    all_goals first | rfl | omega | decide | skip
    refine ⟨⟨i + 1, by omega⟩, by dsimp only; omega, ?_⟩
    simp -implicitDefEqProofs only [go_sem, seval]
    simp only [iM (show i < m.to.length by omega)]
    with_reducible repeat' (first | apply ai | intro _ | ((first | apply s1 | apply s3 | apply s4) <;> intro hb <;> simp -implicitDefEqProofs only [hb, go_sem, seval] <;> try simp only [qz] at hb))
    all_goals first | rfl | (simp; done) | skip
   ·simp -implicitDefEqProofs only [hlt, decide_false, go_sem, seval]
    with_reducible repeat' (first | apply ai | intro _ | ((first | apply s1 | apply s3 | apply s4) <;> intro hb <;> simp -implicitDefEqProofs only [hb, go_sem, seval] <;> try simp only [qz] at hb))
    all_goals first | rfl | omega | skip
    rw [List.take_of_length_le (by rw [lm]; omega)]
    refine AU (Le.frzL [1901, 1017]) (AR ?_)
    simp -implicitDefEqProofs only [go_sem, seval]
    with_reducible repeat' (first | apply ai | intro _ | ((first | apply s1 | apply s3 | apply s4) <;> intro hb <;> simp -implicitDefEqProofs only [hb, go_sem, seval] <;> try simp only [qz] at hb))
    all_goals (try simp only [maxLen, List.take_length, List.drop_zero] at *)
    all_goals first | rfl | omega | assumption | decide | skip
    all_goals
     refine congrArg (T.sl 5) ?_
     simp only [Ll, VR, List.map_append, List.map_cons, List.map_nil]
     rfl
end
section
attribute [local go_sem] bY nQ tm U0 lm List.length_append List.length_cons List.length_nil List.map_append List.map_cons List.map_nil Uf AS.opn AS.cls AS.nilb AS.renb Bool.not_false Bool.not_true List.set_set List.set_cons_zero List.set_cons_succ List.set_nil List.mem_singleton forall_eq
end
theorem Hr {c x : UInt8} : ∀ {l : List UInt8}, x ∈ l → x = c ∨ ∃ w ∈ F5 c l, x ∈ w
 | y :: r, h => by
   rw [F5]
   by_cases e : y = c
   ·rw [if_pos e]
    rcases List.mem_cons.1 h with h | h
    ·exact .inl (h.trans e)
    ·rcases Hr h with q | ⟨w, hw, q⟩
     ·exact .inl q
     ·exact .inr ⟨w, by simp [hw], q⟩
   ·rw [if_neg e]
    cases hs : F5 c r with
    | nil => have := GP c r; rw [hs] at this; simp at this
    | cons a t =>
      rcases List.mem_cons.1 h with h | h
      ·exact .inr ⟨y :: a, by simp, by simp [h]⟩
      ·rcases Hr h with q | ⟨w, hw, q⟩
       ·exact .inl q
       ·rw [hs] at hw
        rcases List.mem_cons.1 hw with e2 | hw
        ·exact .inr ⟨y :: a, by simp, by rw [e2] at q; simp [q]⟩
        ·exact .inr ⟨w, by simp [hw], q⟩
theorem Pm {c : UInt8} {B : Nat} : ∀ {l : List UInt8}, (∀ w ∈ F5 c l, w.length ≤ B) → l.length + 1 ≤ (B + 1) * (F5 c l).length
 | [], _ => by simp [F5]
 | y :: r, h => by
   rw [F5] at h ⊢
   by_cases e : y = c
   ·rw [if_pos e] at h ⊢
    have := Pm (c := c) (l := r) fun w hw => h w (by simp [hw])
    rw [List.length_cons, List.length_cons, Nat.mul_succ]
    omega
   ·rw [if_neg e] at h ⊢
    cases hs : F5 c r with
    | nil => have := GP c r; rw [hs] at this; simp at this
    | cons a t =>
      rw [hs] at h
      have h1 := h (y :: a) (by simp)
      have h3 : (∀ w ∈ F5 c r, w.length ≤ B) ∨ True := .inr trivial
      have key : ∀ (l : List UInt8), l.length + 1 = ((F5 c l).map fun w => w.length + 1).sum := fun l => by
       induction l with
       | nil => rfl
       | cons z q ih =>
         rw [F5]
         by_cases ez : z = c
         ·rw [if_pos ez, List.map_cons, List.sum_cons, ← ih, List.length_cons, List.length_nil]; omega
         ·rw [if_neg ez]
          cases hq : F5 c q with
          | nil => have := GP c q; rw [hq] at this; simp at this
          | cons a' t' => rw [hq] at ih; simp only [List.map_cons, List.sum_cons, List.length_cons] at ih ⊢; omega
      have h2 := key r
      rw [hs] at h2
      have h4 : ∀ t : List (List UInt8), (∀ w ∈ t, w.length ≤ B) → (t.map fun w => w.length + 1).sum ≤ (B + 1) * t.length := fun t => by
       induction t with
       | nil => intro _; simp
       | cons w t ih =>
         intro hw
         have q1 := ih fun x hx => hw x (by simp [hx])
         have q2 := hw w (by simp)
         rw [List.map_cons, List.sum_cons, List.length_cons, Nat.mul_succ]; omega
      have h5 := h4 t fun w hw => h w (by simp [hw])
      simp only [List.map_cons, List.sum_cons, List.length_cons] at h1 h2 ⊢
      rw [Nat.mul_succ]
      omega
def OM (l : List UInt8) : Prop := ∀ b ∈ l, 32 ≤ (b.toNat : Int) ∧ (b.toNat : Int) ≤ 126
instance (l : List UInt8) : Decidable (OM l) := by unfold OM; infer_instance
theorem HU {s : ByteArray} {b : UInt8} (h : b ∈ bl s) : ∃ j, j < s.size ∧ AC s j = b.toNat := by
 obtain ⟨j, hj, e⟩ := List.getElem_of_mem h
 exact ⟨j, hj, by rw [Bq]; simp [hj, e]⟩
theorem PI {s : ByteArray} {j : Nat} (h : j < s.size) : ∃ b ∈ bl s, AC s j = b.toNat := by
 have h' : j < (bl s).length := h
 exact ⟨(bl s)[j], List.getElem_mem h', by rw [Bq]; simp [h']⟩
theorem HK (s : ByteArray) : Ie s ↔ OM (bl s) ∧ s.size ≤ 40 :=
 ⟨fun h => ⟨fun b hb => by
   obtain ⟨j, hj, e⟩ := HU hb
   rw [← e]; exact h.1 j hj, h.2⟩, fun h => ⟨fun j hj => by
   obtain ⟨b, hb, e⟩ := PI hj
   rw [e]; exact h.1 b hb, h.2⟩⟩
theorem ON {a b : List UInt8} : OM (a ++ b) ↔ OM a ∧ OM b :=
 ⟨fun h => ⟨fun x hx => h x (by simp [hx]), fun x hx => h x (by simp [hx])⟩, fun h x hx => (List.mem_append.1 hx).elim (h.1 x) (h.2 x)⟩
theorem JY {s : ByteArray} (h : Rs s) : OM (bl s) ∧ s.size ≤ 8 := ⟨fun b hb => by
 obtain ⟨j, hj, e⟩ := HU hb
 have := h.1 j hj
 rw [← e]; unfold Ko at this; omega, h.2.2⟩
theorem C9 {s : ByteArray} (h : DG s) : OM (bl s) ∧ s.size ≤ 26 := by
 obtain ⟨h1, h2⟩ := (JT s).1 h
 have h3 : ∀ w ∈ F5 46 (bl s), Rs (mB w) := fun w hw => h1 _ (List.mem_map_of_mem hw)
 refine ⟨fun b hb => ?_, ?_⟩
 ·rcases Hr (c := 46) hb with e | ⟨w, hw, q⟩
  ·rw [e]; decide
  ·exact (JY (h3 w hw)).1 b q
 ·have h4 := Pm (c := 46) (B := 8) (l := bl s) fun w hw => (h3 w hw).2.2
  have h5 : (F5 46 (bl s)).length ≤ 3 := by
   have : (IZ s 46).length = (F5 46 (bl s)).length := lm ..
   omega
  have h6 : (bl s).length = s.size := rfl
  have h7 : 9 * (F5 46 (bl s)).length ≤ 9 * 3 := Nat.mul_le_mul_left 9 h5
  omega
def yK : ByteArray := ⟨#[72, 111, 112, 58, 32]⟩
def Cr (n : ByteArray) : ByteArray := yK ++ n
theorem fP {n : ByteArray} (h : DG n) : Ie (Cr n) := by
 obtain ⟨h1, h2⟩ := C9 h
 rw [HK]
 have e : bl (Cr n) = [72, 111, 112, 58, 32] ++ bl n := KR _ _
 refine ⟨?_, ?_⟩
 ·rw [e, ON]
  exact ⟨by decide, h1⟩
 ·have : (Cr n).size = 5 + n.size := by rw [← CD, e, List.length_append, CD]; rfl
  omega
noncomputable def Cy (a : Ad) : ByteArray := bif BV (Ab a) then ⟨#[60, 62]⟩ else ⟨#[60]⟩ ++ a.user ++ ⟨#[64]⟩ ++ a.domain ++ ⟨#[62]⟩
theorem IY {a : Ad} (h : Ab a) : Cy a = ⟨#[60, 62]⟩ := by unfold Cy; rw [Ap h]; rfl
theorem RV {a : Ad} (h : ¬ Ab a) : Cy a = ⟨#[60]⟩ ++ a.user ++ ⟨#[64]⟩ ++ a.domain ++ ⟨#[62]⟩ := by unfold Cy; rw [AN h]; rfl
theorem Nq {a : Ad} (h : ¬ Ab a) : bl (Cy a) = [60] ++ bl a.user ++ [64] ++ bl a.domain ++ [62] := by
 rw [RV h]
 simp only [KR]
 rfl
theorem Zc {a : Ad} (h : Bb a) : ¬ Ab a := fun q => by
 have := h.1.2.1
 rw [q.1] at this
 exact absurd this (by decide)
theorem Pf {a : Ad} (h : Bb a ∨ Ab a) : Ie (Cy a) := by
 by_cases hn : Ab a
 ·rw [IY hn, HK]
  exact ⟨by decide, by decide⟩
 ·have ha := h.resolve_right hn
  obtain ⟨u1, u2⟩ := JY ha.1
  obtain ⟨d1, d2⟩ := C9 ha.2
  rw [HK, Nq hn]
  refine ⟨by simp only [ON]; exact ⟨⟨⟨⟨by decide, u1⟩, by decide⟩, d1⟩, by decide⟩, ?_⟩
  have : (Cy a).size = 3 + a.user.size + a.domain.size := by
   rw [← CD, Nq hn]
   simp only [List.length_append, List.length_cons, List.length_nil, CD]; omega
  omega
def jg (n : ByteArray) (m : Ml) : Ml := ⟨m.frm, m.to, Cr n :: m.body⟩
def Ps (h : Hs) (m : Ml) (w : Int) : Hs := ⟨h.conf, Ll h.spool (jg h.conf.name m) w, h.boxes, h.lost⟩
def UT : Hs := ⟨⟨⟨#[]⟩, [], []⟩, ⟨0, []⟩, [], []⟩
section
variable {h : Hs} {m : Ml} {w : Int}
theorem qn (q : DG h.conf.name) (hm : DJ m) (hl : m.body.length < 12) : DJ (jg h.conf.name m) :=
 ⟨hm.1, hm.2.1, hm.2.2.1, hm.2.2.2.1, ⟨fun s hs => (List.mem_cons.1 hs).elim (fun e => by rw [e]; exact fP q) (hm.2.2.2.2.1 s), by show (Cr h.conf.name :: m.body).length ≤ 12; simp; omega⟩⟩
end
def Yq (p : Hs × Bool) : AV := .tup [.agg ((Ak p.1).map .t), .t (.v (.bool p.2))]
theorem NQ {α : Type} [Inhabited α] {p : α → Prop} : ∀ (xs : List α) (k : Nat), 0 ≤ BB p k xs → p (xs.getD ((BB p k xs).toNat - k) default)
 | [], k, h => absurd h (by rw [BB]; omega)
 | x :: t, k, h => by
   rw [BB] at h ⊢
   by_cases hx : p x
   ·rw [Ap hx, cond_true, tn, Nat.sub_self]
    exact hx
   ·rw [AN hx, cond_false] at h ⊢
    have h1 := NQ t (k + 1) h
    have h2 : (BB p (k + 1) t).toNat - k = ((BB p (k + 1) t).toNat - (k + 1)) + 1 := by
     rcases GN p t (k + 1) with q | q <;> omega
    rw [h2]
    exact h1
section
variable {h : Hs} {m : Ml} {w : Int}
end
theorem CR {xs : List Im} : w6 xs ↔ (xs.map Im.id).Pairwise (· < ·) := by
 rw [List.pairwise_iff_getElem]
 constructor
 ·intro h i j hi hj hij
  rw [lm] at hi hj
  simp only [List.getElem_map]
  induction j with
  | zero => omega
  | succ j ih =>
    have h1 := h (j + 1) (by omega) hj
    simp only [Nat.add_sub_cancel, List.getD_eq_getElem?_getD, List.getElem?_eq_getElem hj, List.getElem?_eq_getElem (show j < xs.length by omega), Option.getD_some] at h1
    by_cases e : i = j
    ·subst e; exact h1
    ·have := ih (by omega) (by omega)
     omega
 ·intro h j h0 hj
  have := h (j - 1) j (by rw [lm]; omega) (by rw [lm]; exact hj) (by omega)
  simp only [List.getElem_map] at this
  simp only [List.getD_eq_getElem?_getD, List.getElem?_eq_getElem hj, List.getElem?_eq_getElem (show j - 1 < xs.length by omega), Option.getD_some]
  exact this
theorem SS {α : Type} (xs : List α) (i : Nat) : List.Sublist (xs.take i ++ xs.drop (i + 1)) xs := by
 have h : List.Sublist (xs.take i ++ xs.drop (i + 1)) (xs.take i ++ xs.drop i) := List.Sublist.append (List.Sublist.refl _) (by
  rw [← List.drop_drop]; exact List.drop_sublist 1 _)
 rwa [List.take_append_drop] at h
theorem KY {α : Type} [Inhabited α] {xs : List α} {i : Nat} (h : i < xs.length) : xs = xs.take i ++ xs.getD i default :: xs.drop (i + 1) := by
 rw [← AX h, List.take_append_drop]
theorem cN {x : Im} {k : Nat} (h : Dm x) (hk : k < x.to.length) (h2 : ¬ (Fp x k).to = []) : Dm (Fp x k) := by
 have hs := SS x.to k
 refine ⟨fun r hr => h.1 r (hs.subset hr), (hs.map Rc.addr).nodup h.2.1, h.2.2.1, h.2.2.2.1, ⟨?_, Nat.le_trans hs.length_le h.2.2.2.2.1.2⟩, h.2.2.2.2.2⟩
 exact Nat.pos_of_ne_zero fun e => h2 (List.eq_nil_of_length_eq_zero e)
theorem Eh {s : Sp} {i k : Nat} (h : Bk s) (hi : i < s.items.length) (hk : k < (s.items.getD i default).to.length) : Bk (Cj s i k) := by
 have hx := h.1 _ (AE hi)
 have hs := SS s.items i
 have ha := CR.1 h.2.1
 have hq := KY hi
 show (∀ x ∈ MH s.items i k, Dm x ∧ x.id ≤ s.last) ∧ w6 (MH s.items i k) ∧ (0 ≤ s.last ∧ s.last ≤ 999) ∧ (MH s.items i k).length ≤ 10
 unfold MH
 split
 ·exact ⟨fun x hx => h.1 x (hs.subset hx), CR.2 (ha.sublist (hs.map Im.id)), h.2.2.1, Nat.le_trans hs.length_le h.2.2.2⟩
 ·rename_i hne
  refine ⟨fun x hm => ?_, CR.2 ?_, h.2.2.1, ?_⟩
  ·rcases List.mem_append.1 hm with hm | hm
   ·exact h.1 x (List.mem_of_mem_take hm)
   ·rcases List.mem_cons.1 hm with e | hm
    ·rw [e]; exact ⟨cN hx.1 hk hne, hx.2⟩
    ·exact h.1 x (List.mem_of_mem_drop hm)
  ·have e : (s.items.take i ++ Fp (s.items.getD i default) k :: s.items.drop (i + 1)).map Im.id = s.items.map Im.id := by
     conv => rhs; rw [hq]
     simp only [List.map_append, List.map_cons]
     rfl
   rw [e]; exact ha
  ·have e : (s.items.take i ++ Fp (s.items.getD i default) k :: s.items.drop (i + 1)).length = s.items.length := by
     conv => rhs; rw [hq]
     simp only [List.length_append, List.length_cons]
   rw [e]; exact h.2.2.2
theorem ut (l : List Rc) (k : Nat) (h : k < l.length) : l.getD k default = l[k] := by simp [h]
theorem MR {s : Sp} {i k : Nat} {w : Int} (h : Bk s) (hi : i < s.items.length) (hk : k < (s.items.getD i default).to.length) (hn : ¬ NU ((s.items.getD i default).to.getD k default) w) (hw : 0 ≤ w) : Bk (PH s i k w) := by
 have hx := h.1 _ (AE hi)
 have hr := hx.1.1 _ (AE hk)
 have hn1 : ((s.items.getD i default).to.getD k default).tries + 1 < 4 := by unfold NU at hn; omega
 have hn2 : w + ZR (((s.items.getD i default).to.getD k default).tries + 1) ≤ 9999 := by unfold NU at hn; omega
 have hp := (Yj (t := ((s.items.getD i default).to.getD k default).tries + 1) (m := 3) (by omega)).1
 have hrc : OQ (UP ((s.items.getD i default).to.getD k default) w) := ⟨hr.1, ⟨by have := hr.2.1.1; show 0 ≤ _ + 1; omega, by show _ + 1 ≤ 3; omega⟩, ⟨by show 0 ≤ w + _; omega, hn2⟩⟩
 have hadr : ((s.items.getD i default).to.set k (UP ((s.items.getD i default).to.getD k default) w)).map Rc.addr = (s.items.getD i default).to.map Rc.addr := by
  rw [List.map_set]
  have : (UP ((s.items.getD i default).to.getD k default) w).addr = ((s.items.getD i default).to.map Rc.addr)[k]'(by rw [lm]; exact hk) := by
   rw [List.getElem_map]
   show ((s.items.getD i default).to.getD k default).addr = _
   rw [ut _ _ hk]
  rw [this, List.set_getElem_self]
 have hx2 : Dm (Q9 (s.items.getD i default) k w) := by
  refine ⟨fun r hm => ?_, ?_, hx.1.2.2.1, hx.1.2.2.2.1, ?_, hx.1.2.2.2.2.2⟩
  ·rcases List.mem_or_eq_of_mem_set hm with hm | rfl
   ·exact hx.1.1 r hm
   ·exact hrc
  ·show (((s.items.getD i default).to.set k _).map Rc.addr).Nodup
   rw [hadr]; exact hx.1.2.1
  ·show 1 ≤ ((s.items.getD i default).to.set k _).length ∧ ((s.items.getD i default).to.set k _).length ≤ 4
   rw [List.length_set]; exact hx.1.2.2.2.2.1
 refine ⟨fun x hm => ?_, CR.2 ?_, h.2.2.1, by show (s.items.set i _).length ≤ 10; rw [List.length_set]; exact h.2.2.2⟩
 ·rcases List.mem_or_eq_of_mem_set hm with hm | rfl
  ·exact h.1 x hm
  ·exact ⟨hx2, hx.2⟩
 ·have e : (s.items.set i (Q9 (s.items.getD i default) k w)).map Im.id = s.items.map Im.id := by
    rw [List.map_set]
    have : (Q9 (s.items.getD i default) k w).id = (s.items.map Im.id)[i]'(by rw [lm]; exact hi) := by
     simp [Q9, hi]
    rw [this, List.set_getElem_self]
  show ((s.items.set i _).map Im.id).Pairwise (· < ·)
  rw [e]; exact CR.1 h.2.1
theorem H9 {s : Sp} {m : Ml} {w : Int} (h : Bk s) (hm : DJ m) (hw : 0 ≤ w ∧ w ≤ 9999) (hr : CJ s) : Bk (Ll s m w) := by
 have hx : Dm (VR s m w) := by
  refine ⟨fun r hr => ?_, ?_, ?_, hm.2.2.1, ?_, hm.2.2.2.2⟩
  ·obtain ⟨a, ha, rfl⟩ := List.mem_map.1 hr
   exact ⟨hm.1 a ha, by show 0 ≤ (0 : Int) ∧ (0 : Int) ≤ 3; decide, hw⟩
  ·show ((m.to.map (KJ w)).map Rc.addr).Nodup
   have e : (m.to.map (KJ w)).map Rc.addr = m.to := by
    rw [List.map_map]; exact List.map_id'' (fun _ => rfl) _
   rw [e]; exact hm.2.1
  ·have := h.2.2.1.1
   show 0 < s.last + 1; omega
  ·show 1 ≤ (m.to.map (KJ w)).length ∧ (m.to.map (KJ w)).length ≤ 4
   rw [lm]; exact hm.2.2.2.1
 have h1 := hr.1; have h2 := hr.2
 refine ⟨fun x hm => ?_, CR.2 ?_, ?_, ?_⟩
 ·rcases List.mem_append.1 hm with hm | hm
  ·have := h.1 x hm
   exact ⟨this.1, by have := this.2; show x.id ≤ s.last + 1; omega⟩
  ·rw [List.mem_singleton.1 hm]
   exact ⟨hx, Int.le_refl _⟩
 ·show ((s.items ++ [VR s m w]).map Im.id).Pairwise (· < ·)
  rw [List.map_append, List.pairwise_append]
  refine ⟨CR.1 h.2.1, by simp, fun a ha b hb => ?_⟩
  obtain ⟨x, hx, rfl⟩ := List.mem_map.1 ha
  rw [List.map_cons, List.map_nil, List.mem_singleton] at hb
  rw [hb]
  have := (h.1 x hx).2
  show x.id < s.last + 1; omega
 ·have := h.2.2.1.1
  show 0 ≤ s.last + 1 ∧ s.last + 1 ≤ 999; omega
 ·show (s.items ++ [VR s m w]).length ≤ 10
  rw [List.length_append]; simp; omega
theorem Fy : ∀ xs : List ByteArray, CA xs = ⟨#[]⟩ ∨ CA xs ∈ xs
 | [] => .inl rfl
 | x :: r => by
   rw [CA]
   cases BV (Mr x)
   ·rw [cond_false]
    rcases Fy r with h | h
    ·exact .inl h
    ·exact .inr (by simp [h])
   ·exact .inr (by simp)
def ww : ByteArray := ⟨#[110, 111, 116, 32, 100, 101, 108, 105, 118, 101, 114, 101, 100, 58]⟩
noncomputable def Bp (x : Im) (a : Ad) : Ml := ⟨⟨⟨#[]⟩, ⟨#[]⟩⟩, [x.frm], ww :: Cy a :: (if CA x.body = ⟨#[]⟩ then [] else [CA x.body])⟩
theorem To {x : Im} {a : Ad} (h : Dm x) (ha : Bb a) (hn : ¬ Ab x.frm) : DJ (Bp x a) := by
 refine ⟨fun b hb => ?_, by show [x.frm].Nodup; simp, .inr ⟨rfl, rfl⟩, by show 1 ≤ 1 ∧ 1 ≤ 4; decide, fun s hs => ?_, ?_⟩
 ·rw [List.mem_singleton.1 hb]; exact h.2.2.2.1.resolve_right hn
 ·rcases List.mem_cons.1 hs with e | hs
  ·rw [e, HK]; exact ⟨by decide, by decide⟩
  ·rcases List.mem_cons.1 hs with e | hs
   ·rw [e]; exact Pf (.inl ha)
   ·split at hs
    ·cases hs
    ·rename_i q
     rw [List.mem_singleton.1 hs]
     exact h.2.2.2.2.2.1 _ ((Fy x.body).resolve_left q)
 ·show (ww :: Cy a :: _).length ≤ 12
  split <;> simp
open Classical in
noncomputable def G4 (h : Hs) (x : Im) (a : Ad) (i k : Nat) (w : Int) : Hs :=
 if Ab x.frm ∨ ¬ CJ (Cj h.spool i k) then ⟨h.conf, Cj h.spool i k, h.boxes, h.lost ++ [⟨CA x.body, a⟩]⟩ else ⟨h.conf, Ll (Cj h.spool i k) (Bp x a) w, h.boxes, h.lost⟩
noncomputable def Ch (h : Hs) (i k : Nat) (a : Ad) (out w : Int) : Hs :=
 if out = 2 then ⟨h.conf, Cj h.spool i k, h.boxes, h.lost⟩
 else if out = 3 ∧ ¬ NU ((h.spool.items.getD i default).to.getD k default) w then ⟨h.conf, PH h.spool i k w, h.boxes, h.lost⟩
 else G4 h (h.spool.items.getD i default) a i k w
section
variable {h : Hs} {x : Im} {n : Int} {a : Ad} {out w : Int} {i k : Nat}
theorem XS (q : Ab x.frm ∨ ¬ CJ (Cj h.spool i k)) : G4 h x a i k w = ⟨h.conf, Cj h.spool i k, h.boxes, h.lost ++ [⟨CA x.body, a⟩]⟩ := if_pos q
theorem XR (q : ¬ (Ab x.frm ∨ ¬ CJ (Cj h.spool i k))) : G4 h x a i k w = ⟨h.conf, Ll (Cj h.spool i k) (Bp x a) w, h.boxes, h.lost⟩ := if_neg q
theorem Ec {x : Im} {a : Ad} (q : ¬ BR x a < 0) : (x.to.getD (BR x a).toNat default).addr = a := by
 have h1 := NQ (p := fun r : Rc => r.addr = a) x.to 0 (by unfold BR at q; omega)
 exact h1
theorem FB {s : Sp} {n : Int} (q : ¬ At s n < 0) : (Aa s n).id = n := by
 have h1 := NQ (p := fun x : Im => x.id = n) s.items 0 (by unfold At at q; omega)
 exact h1
end
def l8 : Ct := Aq (lc HG.asl l0) (fun p => (p.1.length : Int) ≤ 1048576) (fun p => .o true 2 (p.1.map Bh))
section
attribute [local go_sem] Mz My lm List.nil_append List.map_nil List.map_cons List.length_cons List.length_nil
theorem dM {G : Gt} (hG : Ai G) : Gd G 137 (AA 0 l8) := by
 refine gr (fn := Tryz.f137) (n := 1) rfl hG ?_ (hs := fun _ _ => .deep _ _)
 rintro ⟨xs, ⟨⟩⟩ hpre
 dsimp only at hpre ⊢
 cases xs with
 | nil =>
   simp -implicitDefEqProofs only [Tryz.f137, go_sem, seval]
   with_reducible repeat' (first | apply ai | intro _ | ((first | apply s1 | apply s3 | apply s4) <;> intro hb <;> simp -implicitDefEqProofs only [hb, go_sem, seval] <;> try simp only [qz] at hb))
   all_goals (try simp only [maxLen, lm] at *)
   all_goals first | rfl | omega | exact of_eq_true (Mn []) | (simp; done) | skip
 | cons x xs =>
   simp only [List.length_cons] at hpre
   simp -implicitDefEqProofs only [Tryz.f137, go_sem, seval]
   with_reducible repeat' (first | apply ai | intro _ | ((first | apply s1 | apply s3 | apply s4) <;> intro hb <;> simp -implicitDefEqProofs only [hb, go_sem, seval] <;> try simp only [qz] at hb))
   all_goals (try simp only [maxLen, lm] at *)
   all_goals first | rfl | omega | exact of_eq_true (Mn (x :: xs)) | exact of_eq_true (Xv (x :: xs)) _ (by assumption) | (simp; done) | skip
end
def xm : Ct := Aq (lc Fb.asl l0) (fun p => (p.1.length : Int) ≤ 1048576) (fun p => .o true 3 (p.1.map Ax))
section
attribute [local go_sem] Mz My lm List.nil_append List.map_nil List.map_cons List.length_cons List.length_nil
theorem qI {G : Gt} (hG : Ai G) : Gd G 75 (AA 0 xm) := by
 refine gr (fn := Tryz.f75) (n := 1) rfl hG ?_ (hs := fun _ _ => .deep _ _)
 rintro ⟨xs, ⟨⟩⟩ hpre
 dsimp only at hpre ⊢
 cases xs with
 | nil =>
   simp -implicitDefEqProofs only [Tryz.f75, go_sem, seval]
   with_reducible repeat' (first | apply ai | intro _ | ((first | apply s1 | apply s3 | apply s4) <;> intro hb <;> simp -implicitDefEqProofs only [hb, go_sem, seval] <;> try simp only [qz] at hb))
   all_goals (try simp only [maxLen, lm] at *)
   all_goals first | rfl | omega | exact of_eq_true (Mk []) | (simp; done) | skip
 | cons x xs =>
   simp only [List.length_cons] at hpre
   simp -implicitDefEqProofs only [Tryz.f75, go_sem, seval]
   with_reducible repeat' (first | apply ai | intro _ | ((first | apply s1 | apply s3 | apply s4) <;> intro hb <;> simp -implicitDefEqProofs only [hb, go_sem, seval] <;> try simp only [qz] at hb))
   all_goals (try simp only [maxLen, lm] at *)
   all_goals first | rfl | omega | exact of_eq_true (Mk (x :: xs)) | exact of_eq_true (Xt (x :: xs)) _ (by assumption) | (simp; done) | skip
end
def tz : Ct := Aq (lc H4.ag l0) (fun p => J1 p.1) (fun p => gI p.1)
section
attribute [local go_sem] lm List.map_nil List.length_nil List.nil_append Nat.zero_add
theorem qU {G : Gt} (hG : Ai G) : Gd G 90 (AA 0 tz) := by
 refine gr (fn := Tryz.f90) (n := 1) rfl hG ?_ (hs := fun _ p => LA _)
 rintro ⟨x, ⟨⟩⟩ hpre
 simp -implicitDefEqProofs only [Tryz.f90, go_sem, seval] at hpre ⊢
 obtain ⟨_, ⟨h1, _⟩, ⟨h2, _⟩⟩ := hpre
 with_reducible repeat' (first | apply ai | intro _ | ((first | apply s1 | apply s3 | apply s4) <;> intro hb <;> simp -implicitDefEqProofs only [hb, go_sem, seval] <;> try simp only [qz] at hb))
 all_goals (try simp only [maxLen, lm, List.length_nil] at *)
 all_goals first | rfl | omega | (simp_all; done) | skip
end
def xl : Ct := Aq (lc H4.ag l0) (fun p => J1 p.1) (fun p => gI p.1)
section
attribute [local go_sem] U0 l8 lm
theorem qG {G : Gt} (hG : Ai G) (hh : G.e 68 = AA 0 U0 ∧ G.e 137 = AA 0 l8) : Gd G 73 (AA 0 xl) := by
 refine gr (fn := Tryz.f73) (n := 1) rfl hG ?_ (hs := fun _ p => LA _)
 rintro ⟨x, ⟨⟩⟩ hpre
 simp -implicitDefEqProofs only [Tryz.f73, go_sem, hh, seval] at hpre ⊢
 obtain ⟨_, ⟨h1, _⟩, ⟨h2, _⟩⟩ := hpre
 with_reducible repeat' (first | apply ai | intro _ | ((first | apply s1 | apply s3 | apply s4) <;> intro hb <;> simp -implicitDefEqProofs only [hb, go_sem, hh, seval] <;> try simp only [qz] at hb))
 all_goals (try simp only [maxLen, lm] at *)
 all_goals first | rfl | omega | (simp_all; done) | skip
end
def xX : Ct := Aq (lc FX.ag l0) (fun p => EM p.1) (fun p => Nm p.1)
section
attribute [local go_sem] U0 xl nQ xm lm List.length_append List.length_cons List.length_nil List.map_append List.map_nil Nat.zero_add List.nil_append AS.opn AS.cls AS.nilb AS.renb AS.up Bool.not_false Bool.not_true List.set_set List.set_cons_zero List.set_cons_succ List.set_nil List.mem_singleton forall_eq
set_option maxHeartbeats 3200000 in
theorem pV {G : Gt} (hG : Ai G) (hh : G.e 68 = AA 0 U0 ∧ G.e 73 = AA 0 xl ∧ G.e 74 = AA 0 nQ ∧ G.e 75 = AA 0 xm) : Gd G 25 (AA 0 xX) := by
 refine gr (fn := Tryz.f25) (n := 1) rfl hG ?_ (hs := fun _ p => HB _)
 rintro ⟨h, ⟨⟩⟩ hpre
 simp -implicitDefEqProofs only [Tryz.f25, go_sem, hh, seval] at hpre ⊢
 obtain ⟨zc, zs, ⟨lb, zb⟩, ⟨ll, zl⟩⟩ := hpre
 with_reducible repeat' (first | apply ai | intro _ | ((first | apply s1 | apply s3 | apply s4) <;> intro hb <;> simp -implicitDefEqProofs only [hb, go_sem, hh, seval] <;> try simp only [qz] at hb))
 all_goals first | rfl | omega | decide | skip
 refine AF [(3, 1903, true, 3)] (ι := {i : Nat // i ≤ h.boxes.length}) (fun p => ⟨[(1, .pb 1001 0), (2, .pb 1002 0), (3, .h 1903), (10, .t (.sl 3 (h.boxes.map A5))), (11, .t (.v (.int .i64 h.boxes.length))), (12, .t (.v (.int .i64 p.1)))], [(1001, some (.box ((Ak h).map .t))), (1002, some (.box [.t (.v (.string ⟨#[]⟩)), .nil, .nil, .t (.v (.int .i64 0)), .nil, .nil, .nil])), (1903, some (.arr true 3 ((h.boxes.take p.1).map A5)))]⟩) (fun p => h.boxes.length - p.1) ⟨0, by simp⟩ rfl ?_ ?_
 ·simp -implicitDefEqProofs only [go_sem, hh, seval]
  try simp
 ·rintro ⟨i, hi⟩
  have hlen : (h.boxes.take i).length = i := by simp; omega
  by_cases hlt : (i : Int) < h.boxes.length
  ·skip
   have hbx := zb _ (AE (xs := h.boxes) (j := i) (by omega))
   obtain ⟨_, ⟨lm, zm⟩⟩ := hbx
   simp -implicitDefEqProofs only [hlt, decide_true, tn, go_sem, hh, seval]
   with_reducible repeat' (first | apply ai | intro _ | ((first | apply s1 | apply s3 | apply s4) <;> intro hb <;> simp -implicitDefEqProofs only [hb, go_sem, hh, seval] <;> try simp only [qz] at hb))
   all_goals (try simp only [maxLen] at *)
   all_goals first | rfl | omega | assumption | decide | skip
   refine AF [(6, 1906, true, 3)] (ι := {k : Nat // k ≤ (h.boxes.getD i default).mails.length}) (fun p => ⟨[(1, .pb 1001 0), (2, .pb 1002 0), (3, .h 1903), (5, .pb 1005 0), (6, .h 1906), (10, .t (.sl 3 (h.boxes.map A5))), (11, .t (.v (.int .i64 h.boxes.length))), (12, .t (.v (.int .i64 i))), (17, .t (.sl 3 ((h.boxes.getD i default).mails.map CF))), (18, .t (.v (.int .i64 (h.boxes.getD i default).mails.length))), (19, .t (.v (.int .i64 p.1)))], [(1001, some (.box ((Ak h).map .t))), (1002, some (.box [.t (.v (.string ⟨#[]⟩)), .nil, .nil, .t (.v (.int .i64 0)), .nil, .nil, .nil])), (1903, some (.arr true 3 ((h.boxes.take i).map A5))), (1005, some (.box ((A5 (h.boxes.getD i default)).map .t))), (1906, some (.arr true 3 (((h.boxes.getD i default).mails.take p.1).map CF)))]⟩) (fun p => (h.boxes.getD i default).mails.length - p.1) ⟨0, by simp⟩ rfl ?_ ?_
   ·simp -implicitDefEqProofs only [go_sem, hh, seval]
    try simp
   ·rintro ⟨k, hk⟩
    have hlen2 : ((h.boxes.getD i default).mails.take k).length = k := by rw [List.length_take]; omega
    by_cases hlt2 : (k : Int) < (h.boxes.getD i default).mails.length
    ·obtain ⟨_, ⟨lg, _⟩⟩ := zm _ (AE (xs := (h.boxes.getD i default).mails) (j := k) (by omega))
     simp -implicitDefEqProofs only [hlt2, decide_true, tn, go_sem, hh, seval]
     with_reducible repeat' (first | apply ai | intro _ | ((first | apply s1 | apply s3 | apply s4) <;> intro hb <;> simp -implicitDefEqProofs only [hb, go_sem, hh, seval] <;> try simp only [qz] at hb))
     all_goals (try simp only [maxLen] at *)
     all_goals first | rfl | omega | assumption | decide | skip
     refine ⟨⟨k + 1, by omega⟩, by dsimp only; omega, ?_⟩
     simp -implicitDefEqProofs only [go_sem, hh, seval]
     simp only [BL CF (show k < (h.boxes.getD i default).mails.length by omega)]
     with_reducible repeat' (first | apply ai | intro _ | ((first | apply s1 | apply s3 | apply s4) <;> intro hb <;> simp -implicitDefEqProofs only [hb, go_sem, hh, seval] <;> try simp only [qz] at hb))
     all_goals first | rfl | (simp; done) | skip
    ·have htk : (h.boxes.getD i default).mails.take k = (h.boxes.getD i default).mails := List.take_of_length_le (by omega)
     simp -implicitDefEqProofs only [hlt2, htk, decide_false, tn, go_sem, hh, seval]
     with_reducible repeat' (first | apply ai | intro _ | ((first | apply s1 | apply s3 | apply s4) <;> intro hb <;> simp -implicitDefEqProofs only [hb, go_sem, hh, seval] <;> try simp only [qz] at hb))
     all_goals (try simp only [maxLen] at *)
     all_goals first | rfl | omega | assumption | decide | skip
     refine ⟨⟨i + 1, by omega⟩, by dsimp only; omega, ?_⟩
     simp -implicitDefEqProofs only [go_sem, hh, seval]
     simp only [BL A5 (show i < h.boxes.length by omega)]
     with_reducible repeat' (first | apply ai | intro _ | ((first | apply s1 | apply s3 | apply s4) <;> intro hb <;> simp -implicitDefEqProofs only [hb, go_sem, hh, seval] <;> try simp only [qz] at hb))
     all_goals first | rfl | (simp; done) | skip
  ·have htk : h.boxes.take i = h.boxes := List.take_of_length_le (by omega)
   simp -implicitDefEqProofs only [hlt, htk, decide_false, go_sem, hh, seval]
   with_reducible repeat' (first | apply ai | intro _ | ((first | apply s1 | apply s3 | apply s4) <;> intro hb <;> simp -implicitDefEqProofs only [hb, go_sem, hh, seval] <;> try simp only [qz] at hb))
   all_goals (try simp only [maxLen] at *)
   all_goals first | rfl | omega | assumption | decide | exact ⟨zc, zs, ⟨lb, zb⟩, ⟨ll, zl⟩⟩ | rfl | skip
end
def sr : Ct := Aq (lc FX.ag l0) (fun p => EM p.1) (fun p => Nm p.1)
section
attribute [local go_sem] tz t5 lm List.length_append List.length_cons List.length_nil List.map_append List.map_nil Nat.zero_add List.nil_append AS.opn AS.cls AS.nilb AS.renb AS.up Bool.not_false Bool.not_true List.set_set List.set_cons_zero List.set_cons_succ List.set_nil List.mem_singleton forall_eq
set_option maxHeartbeats 6400000 in
theorem pe {G : Gt} (hG : Ai G) (hh : G.e 90 = AA 0 tz ∧ G.e 91 = AA 0 t5) : Gd G 33 (AA 0 sr) := by
 refine Lr (dp := fun n => !(Nat.beq n 100002 || Nat.beq n 100004 || Nat.beq n 100006 || Nat.beq n 100008)) (fn := Tryz.f33) (n := 1) rfl hG ?_ (hs := fun _ p => HB _)
 rintro ⟨h, ⟨⟩⟩ hpre
 simp -implicitDefEqProofs only [Tryz.f33, go_sem, hh, seval] at hpre ⊢
 obtain ⟨zc, zs, ⟨lb, zb⟩, ⟨ll, zl⟩⟩ := hpre
 with_reducible repeat' (first | apply ai | intro _ | ((first | apply s1 | apply s3 | apply s4) <;> intro hb <;> simp -implicitDefEqProofs only [hb, go_sem, hh, seval] <;> try simp only [qz] at hb))
 all_goals (try simp only [maxLen] at *)
 all_goals first | rfl | omega | assumption | decide | skip
 refine AU (Le.nilb 1003 5 1905 true 3 rfl rfl rfl) (AR ?_)
 simp -implicitDefEqProofs only [go_sem, hh, seval]
 refine AF [] (ι := {i : Nat // i ≤ h.boxes.length}) (fun p => ⟨[(1, .pb 1001 0), (2, .pb 1002 0), (3, .pb 1003 0), (4, .t (.v (.int .i64 p.1)))], [(1001, some (.box ((Ak h).map .t))), (1002, some (.box [.t (.v (.string ⟨#[]⟩)), .nil, .nil, .t (.v (.int .i64 0)), .nil, .nil, .nil])), (1003, some (.box [.t (.v (.string h.conf.name)), .h 1009, .h 2009, .t (.v (.int .i64 h.spool.last)), .h 1012, .h 1905, .h 1016])), (1009, some (.arr true 1 (h.conf.own.map AH))), (2009, some (.arr true 2 (h.conf.ways.map Bh))), (1012, some (.arr true 5 (h.spool.items.map Ag))), (1016, some (.arr true 3 (h.lost.map Ax))), (1905, some (.arr true 3 ((h.boxes.take p.1).map A5)))]⟩) (fun p => h.boxes.length - p.1) ⟨0, by simp⟩ rfl ?_ ?_
 ·simp -implicitDefEqProofs only [go_sem, hh, seval]
  try simp
 ·rintro ⟨i, hi⟩
  have hlen : (h.boxes.take i).length = i := by simp; omega
  by_cases hlt : (i : Int) < h.boxes.length
  ·skip
   have hbx := zb _ (AE (xs := h.boxes) (j := i) (by omega))
   obtain ⟨_, ⟨lm, zm⟩⟩ := hbx
   simp -implicitDefEqProofs only [hlt, decide_true, tn, go_sem, hh, seval]
   with_reducible repeat' (first | apply ai | intro _ | ((first | apply s1 | apply s3 | apply s4) <;> intro hb <;> simp -implicitDefEqProofs only [hb, go_sem, hh, seval] <;> try simp only [qz] at hb))
   all_goals (try simp only [maxLen] at *)
   all_goals first | rfl | omega | assumption | decide | skip
   refine AU (Le.nilb 1005 2 1906 true 3 rfl rfl rfl) (AR ?_)
   simp -implicitDefEqProofs only [go_sem, hh, seval]
   with_reducible repeat' (first | apply ai | intro _ | ((first | apply s1 | apply s3 | apply s4) <;> intro hb <;> simp -implicitDefEqProofs only [hb, go_sem, hh, seval] <;> try simp only [qz] at hb))
   all_goals first | rfl | omega | decide | skip
   refine AF [] (ι := {k : Nat // k ≤ (h.boxes.getD i default).mails.length}) (fun p => ⟨[(1, .pb 1001 0), (2, .pb 1002 0), (3, .pb 1003 0), (4, .t (.v (.int .i64 i))), (5, .pb 1005 0), (6, .t (.v (.int .i64 p.1)))], [(1001, some (.box ((Ak h).map .t))), (1002, some (.box [.t (.v (.string ⟨#[]⟩)), .nil, .nil, .t (.v (.int .i64 0)), .nil, .nil, .nil])), (1003, some (.box [.t (.v (.string h.conf.name)), .h 1009, .h 2009, .t (.v (.int .i64 h.spool.last)), .h 1012, .h 1905, .h 1016])), (1009, some (.arr true 1 (h.conf.own.map AH))), (2009, some (.arr true 2 (h.conf.ways.map Bh))), (1012, some (.arr true 5 (h.spool.items.map Ag))), (1016, some (.arr true 3 (h.lost.map Ax))), (1905, some (.arr true 3 ((h.boxes.take i).map A5))), (1005, some (.box [.t (.v (.string (h.boxes.getD i default).addr.user)), .t (.v (.string (h.boxes.getD i default).addr.domain)), .h 1906])), (1906, some (.arr true 3 (((h.boxes.getD i default).mails.take p.1).map CF)))]⟩) (fun p => (h.boxes.getD i default).mails.length - p.1) ⟨0, by simp⟩ rfl ?_ ?_
   ·simp -implicitDefEqProofs only [go_sem, hh, seval]
    try simp
   ·rintro ⟨k, hk⟩
    have hlen2 : ((h.boxes.getD i default).mails.take k).length = k := by rw [List.length_take]; omega
    by_cases hlt2 : (k : Int) < (h.boxes.getD i default).mails.length
    ·obtain ⟨_, ⟨lg, _⟩⟩ := zm _ (AE (xs := (h.boxes.getD i default).mails) (j := k) (by omega))
     simp -implicitDefEqProofs only [hlt2, decide_true, tn, go_sem, hh, seval]
     with_reducible repeat' (first | apply ai | intro _ | ((first | apply s1 | apply s3 | apply s4) <;> intro hb <;> simp -implicitDefEqProofs only [hb, go_sem, hh, seval] <;> try simp only [qz] at hb))
     all_goals (try simp only [maxLen, tn] at *)
     all_goals first | rfl | omega | assumption | decide | skip
     refine AU (Le.renb 1005 2 1069 1906 rfl rfl rfl rfl) (AR ?_)
     simp -implicitDefEqProofs only [go_sem, hh, seval]
     with_reducible repeat' (first | apply ai | intro _ | ((first | apply s1 | apply s3 | apply s4) <;> intro hb <;> simp -implicitDefEqProofs only [hb, go_sem, hh, seval] <;> try simp only [qz] at hb))
     all_goals first | rfl | omega | decide | skip
     refine ⟨⟨k + 1, by omega⟩, by dsimp only; omega, ?_⟩
     simp -implicitDefEqProofs only [go_sem, hh, seval]
     simp only [BL CF (show k < (h.boxes.getD i default).mails.length by omega)]
     with_reducible repeat' (first | apply ai | intro _ | ((first | apply s1 | apply s3 | apply s4) <;> intro hb <;> simp -implicitDefEqProofs only [hb, go_sem, hh, seval] <;> try simp only [qz] at hb))
     all_goals first | rfl | (simp; done) | skip
    ·have htk : (h.boxes.getD i default).mails.take k = (h.boxes.getD i default).mails := List.take_of_length_le (by omega)
     simp -implicitDefEqProofs only [hlt2, htk, decide_false, tn, go_sem, hh, seval]
     with_reducible repeat' (first | apply ai | intro _ | ((first | apply s1 | apply s3 | apply s4) <;> intro hb <;> simp -implicitDefEqProofs only [hb, go_sem, hh, seval] <;> try simp only [qz] at hb))
     all_goals (try simp only [maxLen] at *)
     all_goals first | rfl | omega | assumption | decide | skip
     refine AU (Le.renb 1003 5 1075 1905 rfl rfl rfl rfl) (AR ?_)
     simp -implicitDefEqProofs only [go_sem, hh, seval]
     with_reducible repeat' (first | apply ai | intro _ | ((first | apply s1 | apply s3 | apply s4) <;> intro hb <;> simp -implicitDefEqProofs only [hb, go_sem, hh, seval] <;> try simp only [qz] at hb))
     all_goals first | rfl | omega | decide | skip
     refine ⟨⟨i + 1, by omega⟩, by dsimp only; omega, ?_⟩
     simp -implicitDefEqProofs only [go_sem, hh, seval]
     simp only [BL A5 (show i < h.boxes.length by omega)]
     with_reducible repeat' (first | apply ai | intro _ | ((first | apply s1 | apply s3 | apply s4) <;> intro hb <;> simp -implicitDefEqProofs only [hb, go_sem, hh, seval] <;> try simp only [qz] at hb))
     all_goals first | rfl | (simp; done) | skip
  ·have htk : h.boxes.take i = h.boxes := List.take_of_length_le (by omega)
   simp -implicitDefEqProofs only [hlt, htk, decide_false, go_sem, hh, seval]
   with_reducible repeat' (first | apply ai | intro _ | ((first | apply s1 | apply s3 | apply s4) <;> intro hb <;> simp -implicitDefEqProofs only [hb, go_sem, hh, seval] <;> try simp only [qz] at hb))
   all_goals (try simp only [maxLen] at *)
   all_goals first | rfl | omega | assumption | decide | rfl | skip
end
def m7 : Ct := Aq (lc Aw l0) (fun p => p.1.size ≤ 2000000) (fun p => .t (.v (.string (Cr p.1))))
theorem ej {G : Gt} (hG : Ai G) : Gd G 240 (AA 0 m7) := by
 refine gr (fn := Tryz.f240) (n := 1) rfl hG ?_
 rintro ⟨n, ⟨⟩⟩ hpre
 simp -implicitDefEqProofs only [Tryz.f240, go_sem, seval] at hpre ⊢
 with_reducible repeat' (first | apply ai | intro _ | ((first | apply s1 | apply s3 | apply s4) <;> intro hb <;> simp -implicitDefEqProofs only [hb, go_sem, seval] <;> try simp only [qz] at hb))
 all_goals (try simp only [maxLen] at *)
 all_goals first | rfl | omega | (show 5 + n.size ≤ _; omega) | skip
theorem ST {a : ByteArray} {xs : List ByteArray} : Ah.decL ([.v (.string a)] :: xs.map AH) = some (a :: xs) := Ah.decL_map (a :: xs)
theorem Xe (n : ByteArray) : (Cr n).size = 5 + n.size := by
 have e : bl (Cr n) = [72, 111, 112, 58, 32] ++ bl n := KR _ _
 rw [← CD, e, List.length_append, CD]; rfl
open Classical in
noncomputable def Li (h : Hs) (m : Ml) (w : Int) : Hs × Bool := if m.body.length < 12 ∧ CJ h.spool then (Ps h m w, true) else (h, false)
theorem Jz {h : Hs} {m : Ml} {w : Int} (q : m.body.length < 12 ∧ CJ h.spool) : Li h m w = (Ps h m w, true) := if_pos q
theorem Jy {h : Hs} {m : Ml} {w : Int} (q : ¬ (m.body.length < 12 ∧ CJ h.spool)) : Li h m w = (h, false) := if_neg q
def V1 : Ct := Aq (lc FX.ag (lc Zw.ag (lc BA l0))) (fun p => EM p.1 ∧ Lj p.2.1 ∧ Bk p.1.spool ∧ p.1.conf.name.size ≤ 1000000) (fun p => Yq (Li p.1 p.2.1 p.2.2.1))
section
attribute [local go_sem] KV M9 m7 QZ Ic IL List.take_length List.drop_zero List.length_take List.length_drop lm List.length_append List.length_cons List.length_nil List.map_append List.map_nil List.map_cons List.nil_append Nat.zero_add List.mem_singleton forall_eq Bool.not_true Bool.not_false ST List.cons_append Yq AS.opn AS.cls AS.nilb AS.renb AS.up List.set_set List.set_cons_zero List.set_cons_succ List.set_nil
set_option maxHeartbeats 3200000 in
theorem eT {G : Gt} (hG : Ai G) (hh : G.e 147 = AA 0 KV ∧ G.e 222 = AA 0 M9 ∧ G.e 240 = AA 0 m7 ∧ G.e 148 = AA 1 QZ) : Gd G 225 (AA 1 V1) := by
 refine Lr (dp := fun n => Nat.ble 100000 n) (fn := Tryz.f225) (n := 3) rfl hG ?_
 rintro ⟨h, m, w, ⟨⟩⟩ hpre
 obtain ⟨hok, hml, hsp, hnm2⟩ := hpre
 dsimp only at hok hml hsp hnm2 ⊢
 have hml2 := hml
 obtain ⟨⟨_, _⟩, ⟨hl1, zt⟩, ⟨hl2, zb⟩⟩ := hml2
 have Se : h.conf.name.size ≤ 2000000 := by have : h.conf.name.size ≤ 1048576 := hok.1.1; omega
 by_cases q : m.body.length < 12 ∧ CJ h.spool
 ·rw [Jz q]
  obtain ⟨q1, q2⟩ := q
  have b2 := Ap q2
  have q3 : ¬ (m.body.length : Int) ≥ 12 := by omega
  have hos := hok.2.1
  have hml3 : Lj ⟨m.frm, m.to, Cr h.conf.name :: m.body⟩ := by
   refine ⟨hml.1, hml.2.1, ⟨by show ((Cr h.conf.name :: m.body).length : Int) ≤ _; rw [List.length_cons]; omega, fun s hs => ?_⟩⟩
   rcases List.mem_cons.1 hs with e | hs
   ·rw [e]
    have h5 := Xe h.conf.name
    have h6 : h.conf.name.size ≤ 1000000 := hnm2
    show (Cr h.conf.name).size ≤ 1048576
    omega
   ·exact zb s hs
  simp -implicitDefEqProofs only [Tryz.f225, b2, q3, decide_false, go_sem, hh, seval]
  with_reducible repeat' (first | apply ai | intro _ | ((first | apply s1 | apply s3 | apply s4) <;> intro hb <;> simp -implicitDefEqProofs only [hb, go_sem, hh, seval] <;> try simp only [qz] at hb))
  all_goals (try simp only [maxLen] at *)
  all_goals first | with_reducible assumption | rfl | omega | contradiction | skip
 ·rw [Jy q]
  by_cases q1 : m.body.length < 12
  ·have b2 := AN (fun z => q ⟨q1, z⟩)
   have q3 : ¬ (m.body.length : Int) ≥ 12 := by omega
   simp -implicitDefEqProofs only [Tryz.f225, b2, q3, decide_false, go_sem, hh, seval]
   with_reducible repeat' (first | apply ai | intro _ | ((first | apply s1 | apply s3 | apply s4) <;> intro hb <;> simp -implicitDefEqProofs only [hb, go_sem, hh, seval] <;> try simp only [qz] at hb))
   all_goals (try simp only [maxLen] at *)
   all_goals first | rfl | omega | assumption | decide | contradiction | skip
  ·have q3 : (m.body.length : Int) ≥ 12 := by omega
   simp -implicitDefEqProofs only [Tryz.f225, q3, decide_true, go_sem, hh, seval]
   with_reducible repeat' (first | apply ai | intro _ | ((first | apply s1 | apply s3 | apply s4) <;> intro hb <;> simp -implicitDefEqProofs only [hb, go_sem, hh, seval] <;> try simp only [qz] at hb))
   all_goals (try simp only [maxLen] at *)
   all_goals first | rfl | omega | assumption | decide | contradiction | skip
end
section
open Go.Lib
theorem M4 {s : ByteArray} (h : Rs s) : ¬ (64 : UInt8) ∈ bl s := fun q => by
 obtain ⟨j, hj, e⟩ := HU q
 have := h.1 j hj
 rw [e] at this
 exact absurd this (by unfold Ko; decide)
theorem QP {s : ByteArray} (h : DG s) : ¬ (64 : UInt8) ∈ bl s := fun q => by
 obtain ⟨h1, _⟩ := (JT s).1 h
 rcases Hr (c := 46) q with e | ⟨w, hw, q⟩
 ·exact absurd e (by decide)
 ·exact M4 (h1 _ (List.mem_map_of_mem hw)) q
theorem Ib {c : UInt8} : ∀ {l : List UInt8} (m : Nat), ¬ c ∈ l → Av c m l = [l]
 | _, 0, _ => by simp [Av]
 | [], m + 1, _ => by simp [Av]
 | x :: r, m + 1, h => by
   simp only [List.mem_cons, not_or] at h
   rw [Av, if_neg (fun e => h.1 e.symm), Ib (m + 1) h.2]
theorem GR {c : UInt8} : ∀ {u d : List UInt8} (m : Nat), ¬ c ∈ u → Av c (m + 1) (u ++ c :: d) = u :: Av c m d
 | [], d, m, _ => by simp [Av]
 | x :: r, d, m, h => by
   simp only [List.mem_cons, not_or] at h
   rw [List.cons_append, Av, if_neg (fun e => h.1 e.symm), GR m h.2]
theorem ND {u d : List UInt8} (hu : ¬ (64 : UInt8) ∈ u) (hd : ¬ (64 : UInt8) ∈ d) : Cz (mB (u ++ 64 :: d)) 64 2 = [mB u, mB d] := by
 unfold Cz
 rw [Vf, GR 1 hu, Ib 1 hd]; rfl
theorem br {s : ByteArray} (h : (Cz s 64 2).length = 2) : s = mB (bl ((Cz s 64 2).getD 0 default) ++ 64 :: bl ((Cz s 64 2).getD 1 default)) := by
 by_cases h1 : (64 : UInt8) ∈ bl s
 ·obtain ⟨u, r, e, hu⟩ := List.eq_append_cons_of_mem h1
  by_cases h2 : (64 : UInt8) ∈ r
  ·obtain ⟨v, t, e2, hv⟩ := List.eq_append_cons_of_mem h2
   unfold Cz at h
   rw [e, GR 1 hu, e2, GR 0 hv] at h
   simp [Av] at h
  ·have : Cz s 64 2 = [mB u, mB r] := by rw [← Sz s, e]; exact ND hu h2
   rw [this]
   refine FE ?_
   rw [e]; rfl
 ·unfold Cz at h
  rw [Ib 2 h1] at h
  cases h
theorem LE {a : Ad} (h : Bb a) : bl (Cy a) = 60 :: ((bl a.user ++ 64 :: bl a.domain) ++ [62]) := by
 rw [Nq (Zc h)]; simp
def GU (s : ByteArray) : Prop := ∃ a, (Bb a ∨ Ab a) ∧ Cy a = s
open Classical in
noncomputable def BH (s : ByteArray) : Ad := if h : GU s then h.choose else ⟨⟨#[]⟩, ⟨#[]⟩⟩
theorem Q1 (s : ByteArray) {l : List UInt8} (h : bl s = 60 :: (l ++ [62])) : s.extract 1 (s.size - 1) = mB l := by
 refine FE ?_
 have e : s.size = l.length + 2 := by rw [← CD, h]; simp
 rw [C3, h, e, Vf]
 try simp
theorem Yn {a b : Ad} (ha : Bb a ∨ Ab a) (hb : Bb b ∨ Ab b) (h : Cy a = Cy b) : a = b := by
 have key : ∀ {x y : Ad}, Bb x → Ab y → Cy x = Cy y → False := fun {x y} hx hy e => by
  have := congrArg bl e
  rw [LE hx, IY hy] at this
  have := congrArg List.length this
  have e2 : (bl (⟨#[60, 62]⟩ : ByteArray)).length = 2 := rfl
  rw [e2] at this
  simp at this
  omega
 rcases ha with ha | ha
 ·rcases hb with hb | hb
  ·have e1 := Q1 (Cy a) (LE ha)
   have e2 := Q1 (Cy b) (LE hb)
   rw [h, e2] at e1
   have e3 := ND (M4 ha.1) (QP ha.2)
   rw [← e1, ND (M4 hb.1) (QP hb.2)] at e3
   simp only [List.cons.injEq, and_true, Sz] at e3
   obtain ⟨u, d⟩ := a
   obtain ⟨v, w⟩ := b
   rw [show v = u from e3.1, show w = d from e3.2]
  ·exact (key ha hb h).elim
 ·rcases hb with hb | hb
  ·exact (key hb ha h.symm).elim
  ·obtain ⟨u, d⟩ := a
   obtain ⟨v, w⟩ := b
   rw [show u = _ from ha.1, show d = _ from ha.2, show v = _ from hb.1, show w = _ from hb.2]
theorem Sa {s : ByteArray} {a : Ad} (ha : Bb a ∨ Ab a) (h : Cy a = s) : GU s ∧ BH s = a := by
 have hr : GU s := ⟨a, ha, h⟩
 refine ⟨hr, ?_⟩
 unfold BH
 rw [dif_pos hr]
 exact Yn hr.choose_spec.1 ha (hr.choose_spec.2.trans h.symm)
theorem NO {s : ByteArray} (h : ¬ GU s) : BH s = ⟨⟨#[]⟩, ⟨#[]⟩⟩ := dif_neg h
theorem Jj {s : ByteArray} (h : GU s) : (Bb (BH s) ∨ Ab (BH s)) ∧ Cy (BH s) = s := by
 unfold BH
 rw [dif_pos h]
 exact h.choose_spec
theorem Nu : GU ⟨#[60, 62]⟩ ∧ BH ⟨#[60, 62]⟩ = ⟨⟨#[]⟩, ⟨#[]⟩⟩ := Sa (.inr ⟨rfl, rfl⟩) (IY ⟨rfl, rfl⟩)
theorem rf {s : ByteArray} (h : GU s) (h0 : ¬ s = ⟨#[60, 62]⟩) : 2 ≤ s.size ∧ AC s 0 = 60 ∧ AC s (s.size - 1) = 62 ∧ Cz (s.extract 1 (s.size - 1)) 64 2 = [(BH s).user, (BH s).domain] ∧ Bb (BH s) := by
 obtain ⟨h1, h2⟩ := Jj h
 have hk := h1.resolve_right fun q => h0 (by rw [← h2, IY q])
 have hb := LE hk
 rw [h2] at hb
 have hs : s.size = ((bl (BH s).user ++ 64 :: bl (BH s).domain)).length + 2 := by rw [← CD, hb]; simp; omega
 refine ⟨by omega, ?_, ?_, ?_, hk⟩
 ·rw [Bq, hb]; rfl
 ·rw [Bq, hb, hs]
  simp only [List.getD_eq_getElem?_getD]
  rw [show ∀ n : Nat, n + 2 - 1 = n + 1 from fun n => rfl, List.getElem?_cons_succ, List.getElem?_append_right (Nat.le_refl _), Nat.sub_self]
  rfl
 ·rw [Q1 s hb, ND (M4 hk.1) (QP hk.2)]; rfl
theorem lU {s : ByteArray} (h : 2 ≤ s.size) (h1 : AC s 0 = 60) (h2 : AC s (s.size - 1) = 62) : bl s = 60 :: (bl (s.extract 1 (s.size - 1)) ++ [62]) := by
 have e1 : (bl s).getD 0 0 = 60 := (GL (c := 60)).1 h1
 have e2 : (bl s).getD (s.size - 1) 0 = 62 := (GL (c := 62)).1 h2
 have d0 := Ej (s := s) (i := 0) (by omega)
 have d1 := Ej (s := s) (i := s.size - 1) (by omega)
 rw [e1] at d0
 rw [e2] at d1
 have e3 : (bl s).drop (s.size - 1 + 1) = [] := List.drop_of_length_le (by rw [CD]; omega)
 rw [e3] at d1
 rw [C3]
 have : (bl s).drop 1 = ((bl s).drop 1).take (s.size - 1 - 1) ++ ((bl s).drop 1).drop (s.size - 1 - 1) := (List.take_append_drop _ _).symm
 rw [List.drop_drop, show 1 + (s.size - 1 - 1) = s.size - 1 by omega, d1] at this
 rw [← this]
 exact d0
theorem Yo {s : ByteArray} (h : 2 ≤ s.size) (h1 : AC s 0 = 60) (h2 : AC s (s.size - 1) = 62) (h3 : (Cz (s.extract 1 (s.size - 1)) 64 2).length = 2)
    (h4 : Bb ⟨(Cz (s.extract 1 (s.size - 1)) 64 2).getD 0 default, (Cz (s.extract 1 (s.size - 1)) 64 2).getD 1 default⟩) :
    GU s ∧ BH s = ⟨(Cz (s.extract 1 (s.size - 1)) 64 2).getD 0 default, (Cz (s.extract 1 (s.size - 1)) 64 2).getD 1 default⟩ := by
 refine Sa (.inl h4) (FE ?_)
 rw [LE h4, lU h h1 h2]
 have := congrArg bl (br h3)
 rw [this]; rfl
theorem Yp {s : ByteArray} (h0 : ¬ s = ⟨#[60, 62]⟩) (h : (s.size : Int) < 2 ∨ ¬ AC s 0 = 60 ∨ ¬ AC s (s.size - 1) = 62 ∨ ¬ ((Cz (s.extract 1 (s.size - 1)) 64 2).length : Int) = 2 ∨
    ¬ Bb ⟨(Cz (s.extract 1 (s.size - 1)) 64 2).getD 0 default, (Cz (s.extract 1 (s.size - 1)) 64 2).getD 1 default⟩) : ¬ GU s := fun q => by
 obtain ⟨h1, h2, h3, h4, h5⟩ := rf q h0
 rw [h4] at h
 rcases h with h | h | h | h | h
 ·omega
 ·exact h h2
 ·exact h h3
 ·exact h rfl
 ·exact h h5
theorem QAD : (0 : Int).toNat = 0 := rfl
theorem QAE : (1 : Int).toNat = 1 := rfl
theorem QAF : (2 : Int).toNat = 2 := rfl
theorem u64 : UInt8.ofNat (64 : Int).toNat = 64 := rfl
theorem QAG (n : Nat) : ((n : Int) - 1).toNat = n - 1 := by omega
end
noncomputable def yi (s : ByteArray) : AV := .tup [.agg [.t (.v (.string (BH s).user)), .t (.v (.string (BH s).domain))], .t (.v (.bool (BV (GU s))))]
theorem RX (s : ByteArray) : yi s = .tup [.agg [.t (.v (.string (BH s).user)), .t (.v (.string (BH s).domain))], .t (.v (.bool (BV (GU s))))] := rfl
theorem gU {s : ByteArray} {a : Ad} (h : GU s ∧ BH s = a) : T.v (.string a.user) = T.v (.string (BH s).user) := by rw [h.2]
theorem gD {s : ByteArray} {a : Ad} (h : GU s ∧ BH s = a) : T.v (.string a.domain) = T.v (.string (BH s).domain) := by rw [h.2]
theorem gT {s : ByteArray} {a : Ad} (h : GU s ∧ BH s = a) : T.v (.bool true) = T.v (.bool (BV (GU s))) := by rw [Ap h.1]
theorem z0 {s : ByteArray} (h : ¬ GU s) : T.v (.string ⟨#[]⟩) = T.v (.string (BH s).user) := by rw [NO h]
theorem zy {s : ByteArray} (h : ¬ GU s) : T.v (.string ⟨#[]⟩) = T.v (.string (BH s).domain) := by rw [NO h]
theorem gF {s : ByteArray} (h : ¬ GU s) : T.v (.bool false) = T.v (.bool (BV (GU s))) := by rw [AN h]
theorem Uj (s : ByteArray) : BT (yi s) := .tup _ fun c hc => by
 simp only [List.mem_cons, List.not_mem_nil, or_false] at hc
 rcases hc with rfl | rfl
 ·refine .agg _ fun c hc => ?_
  simp only [List.mem_cons, List.not_mem_nil, or_false] at hc
  rcases hc with rfl | rfl <;> exact .v _
 ·exact .v _
def QX : Ct := Aq (lc DH.ag l0) (fun p => p.1.user.size ≤ 2000000 ∧ p.1.domain.size ≤ 2000000) (fun p => .t (.v (.string (Cy p.1))))
section
attribute [local go_sem] Tt
theorem dC {G : Gt} (hG : Ai G) (hh : G.e 62 = AA 0 Tt) : Gd G 126 (AA 0 QX) := by
 refine gr (fn := Tryz.f126) (n := 1) rfl hG ?_
 rintro ⟨a, ⟨⟩⟩ hpre
 simp -implicitDefEqProofs only [Tryz.f126, go_sem, hh, seval] at hpre ⊢
 obtain ⟨h1, h2⟩ := hpre
 have e1 : (#[60] : Array UInt8).size = 1 := rfl
 have e2 : (#[64] : Array UInt8).size = 1 := rfl
 have e3 : (#[62] : Array UInt8).size = 1 := rfl
 with_reducible repeat' (first | apply ai | intro _ | ((first | apply s1 | apply s3 | apply s4) <;> intro hb <;> simp -implicitDefEqProofs only [hb, go_sem, hh, seval] <;> try simp only [qz] at hb))
 all_goals (try simp only [maxLen] at *)
 all_goals first
  | rfl
  | omega
  | (rw [IY (by assumption)]; done)
  | (rw [RV hb]; done)
  | skip
end
section
attribute [local go_sem] Vo
end
def Vt : Ct := Aq (lc Aw l0) (fun p => p.1.size ≤ 2000000) (fun p => yi p.1)
section
attribute [local go_sem] Vv IH Ae Ac AZ lm RX
set_option maxHeartbeats 2000000 in
theorem dr {G : Gt} (hG : Ai G) (hh : G.e 175 = AA 0 Vv ∧ G.e 123 = AA 0 IH) : Gd G 167 (AA 0 Vt) := by
 refine gr (fn := Tryz.f167) (n := 1) rfl hG ?_ (hs := fun _ _ => Uj _)
 rintro ⟨s, ⟨⟩⟩ hpre
 simp -implicitDefEqProofs only [Tryz.f167, go_sem, hh, seval] at hpre ⊢
 with_reducible repeat' (first | apply ai | intro _ | ((first | apply s1 | apply s3 | apply s4) <;> intro hb <;> simp -implicitDefEqProofs only [hb, go_sem, hh, seval] <;> try simp only [qz] at hb))
 all_goals (try simp only [maxLen, u64, QAD, QAE, QAF, QAG, tn] at *)
 all_goals first
  | with_reducible rfl
  | omega
  | decide
  | (show AY _ = true; rfl)
  | with_reducible assumption
  | with_reducible exact z0 (Yp (by with_reducible assumption) (by first | exact .inl (by with_reducible assumption) | exact .inr (.inl (by with_reducible assumption)) | exact .inr (.inr (.inl (by with_reducible assumption))) | exact .inr (.inr (.inr (.inl (by with_reducible assumption)))) | exact .inr (.inr (.inr (.inr (by with_reducible assumption))))))
  | with_reducible exact zy (Yp (by with_reducible assumption) (by first | exact .inl (by with_reducible assumption) | exact .inr (.inl (by with_reducible assumption)) | exact .inr (.inr (.inl (by with_reducible assumption))) | exact .inr (.inr (.inr (.inl (by with_reducible assumption)))) | exact .inr (.inr (.inr (.inr (by with_reducible assumption))))))
  | with_reducible exact gF (Yp (by with_reducible assumption) (by first | exact .inl (by with_reducible assumption) | exact .inr (.inl (by with_reducible assumption)) | exact .inr (.inr (.inl (by with_reducible assumption))) | exact .inr (.inr (.inr (.inl (by with_reducible assumption)))) | exact .inr (.inr (.inr (.inr (by with_reducible assumption))))))
  | with_reducible exact gU (Yo (by omega) (by with_reducible assumption) (by with_reducible assumption) (by omega) (by with_reducible assumption))
  | with_reducible exact gD (Yo (by omega) (by with_reducible assumption) (by with_reducible assumption) (by omega) (by with_reducible assumption))
  | with_reducible exact gT (Yo (by omega) (by with_reducible assumption) (by with_reducible assumption) (by omega) (by with_reducible assumption))
  | (subst hb; with_reducible exact gU Nu)
  | (subst hb; with_reducible exact gD Nu)
  | (subst hb; with_reducible exact gT Nu)
  | skip
end
def qm : ByteArray := ⟨#[72, 111, 112, 58, 32]⟩
def VE (s : ByteArray) : Prop := zR s qm ∧ DG (s.extract 5 s.size)
theorem kT {s : ByteArray} (h : DG s) : ¬ s.size = 0 := fun q => by
 rw [j1 q] at h
 have := (h.1 ⟨#[]⟩ (by simp [Cz, Av, bl, mB])).2.1
 exact absurd this (by decide)
theorem tL {s : ByteArray} : VE s ↔ 5 < s.size ∧ s.extract 0 5 = qm ∧ DG (s.extract 5 s.size) := by
 have e : qm.size = 5 := rfl
 unfold VE zR
 rw [e]
 constructor
 ·rintro ⟨⟨h1, h2⟩, h3⟩
  refine ⟨?_, h2, h3⟩
  have := kT h3
  rw [ByteArray.size_extract] at this
  omega
 ·rintro ⟨h1, h2, h3⟩
  exact ⟨⟨by omega, h2⟩, h3⟩
noncomputable def D9 : List ByteArray → Nat
 | [] => 0
 | x :: r => bif BV (VE x) then D9 r + 1 else 0
theorem Xd {xs : List ByteArray} {i : Nat} (h : i < xs.length) (ha : VE (xs.getD i default)) : D9 (xs.drop i) = D9 (xs.drop (i + 1)) + 1 := by
 rw [AX h, D9, Ap ha]; rfl
theorem fO {xs : List ByteArray} {i : Nat} (h : i < xs.length) (ha : ¬ VE (xs.getD i default)) : D9 (xs.drop i) = 0 := by
 rw [AX h, D9, AN ha]; rfl
theorem Xc {xs : List ByteArray} {i : Nat} (h : xs.length ≤ i) : D9 (xs.drop i) = 0 := by
 rw [List.drop_eq_nil_of_le h, D9]
abbrev z6 : ByteArray := ⟨#[110, 111, 116, 32, 100, 101, 108, 105, 118, 101, 114, 101, 100, 58]⟩
def xB (xs : List ByteArray) : Prop := D9 xs + 1 < xs.length ∧ xs.getD (D9 xs) default = z6
def tO (xs : List ByteArray) : Prop := xB xs ∧ GU (xs.getD (D9 xs + 1) default) ∧ ¬ Ab (BH (xs.getD (D9 xs + 1) default))
open Classical in
noncomputable def iU (xs : List ByteArray) : ByteArray := if tO xs then xs.getD (D9 xs + 1) default else ⟨#[]⟩
theorem sd {xs : List ByteArray} (h : tO xs) : iU xs = xs.getD (D9 xs + 1) default := if_pos h
theorem sb {xs : List ByteArray} (h : ¬ tO xs) : iU xs = ⟨#[]⟩ := if_neg h
theorem hW {xs : List ByteArray} (h : tO xs) : T.v (.string (xs.getD (D9 xs + 1) default)) = T.v (.string (iU xs)) := by rw [sd h]
theorem XY {xs : List ByteArray} (h : ¬ tO xs) : T.v (.string ⟨#[]⟩) = T.v (.string (iU xs)) := by rw [sb h]
def mN : Ct := Aq (lc Ah.asl l0) (fun p => True) (fun p => .t (.v (.int .i64 (D9 p.1))))
section
attribute [local go_sem] M8 lm Ae Ac
theorem dq {G : Gt} (hG : Ai G) (hh : G.e 143 = AA 0 M8) : Gd G 166 (AA 0 mN) := by
 refine gr (fn := Tryz.f166) (n := 1) rfl hG ?_
 rintro ⟨xs, ⟨⟩⟩ hpre
 simp -implicitDefEqProofs only [Tryz.f166, go_sem, hh, seval] at hpre ⊢
 refine AF [] (ι := {i : Nat // i ≤ xs.length ∧ D9 xs = i + D9 (xs.drop i)}) (fun p => ⟨[(0, .t (.sl 1 (xs.map AH))), (3, .t (.v (.int .i64 p.1)))], []⟩) (fun p => xs.length - p.1) ⟨0, by simp, by simp⟩ rfl ?_ ?_
 ·simp -implicitDefEqProofs only [go_sem, hh, seval]
  try simp
 ·rintro ⟨i, hi, hix⟩
  by_cases hlt : (i : Int) < xs.length
  ·simp -implicitDefEqProofs only [hlt, decide_true, tn, go_sem, hh, seval]
   with_reducible repeat' (first | apply ai | intro _ | ((first | apply s1 | apply s3 | apply s4) <;> intro hb <;> simp -implicitDefEqProofs only [hb, go_sem, hh, seval] <;> try simp only [qz] at hb))
   all_goals (try simp only [maxLen, tn] at *)
   all_goals first
    | rfl
    | omega
    | (rw [hix, fO (by omega) (fun h => by have h := tL.1 h; first | exact absurd h.2.2 (by assumption) | exact absurd h.2.1 (by assumption) | omega)]; simp; done)
    | (refine ⟨⟨i + 1, by omega, by rw [hix, Xd (by omega) (tL.2 ⟨by omega, by assumption, by assumption⟩)]; omega⟩, by dsimp only; omega, ?_⟩
       simp -implicitDefEqProofs only [go_sem, hh, seval]
       try simp
       done)
    | skip
  ·simp -implicitDefEqProofs only [hlt, decide_false, go_sem, hh, seval]
   with_reducible repeat' (first | apply ai | intro _ | ((first | apply s1 | apply s3 | apply s4) <;> intro hb <;> simp -implicitDefEqProofs only [hb, go_sem, hh, seval] <;> try simp only [qz] at hb))
   all_goals first | rfl | omega | (rw [hix, Xc (by omega)]; simp; done) | skip
end
theorem Vg {x : Im} {a : Ad} (h : CA x.body = ⟨#[]⟩) : Bp x a = ⟨⟨⟨#[]⟩, ⟨#[]⟩⟩, [x.frm], [ww, Cy a]⟩ := by unfold Bp; rw [if_pos h]
theorem Vh {x : Im} {a : Ad} (h : ¬ CA x.body = ⟨#[]⟩) : Bp x a = ⟨⟨⟨#[]⟩, ⟨#[]⟩⟩, [x.frm], [ww, Cy a, CA x.body]⟩ := by unfold Bp; rw [if_neg h]
theorem QR {x : Im} {a : Ad} : (Bp x a).body.length ≤ 3 := by
 unfold Bp
 split <;> simp
theorem Oh {x : Im} {a : Ad} (hox : Ff x) (ha : Bb a) : Lj (Bp x a) := by
 refine ⟨⟨by show 0 ≤ 1048576; decide, by show 0 ≤ 1048576; decide⟩, ⟨by show ((1 : Nat) : Int) ≤ 1048576; decide, fun b hb => by rw [List.mem_singleton.1 hb]; exact hox.1⟩, ⟨by have := QR (x := x) (a := a); omega, fun s hs => ?_⟩⟩
 unfold Bp at hs
 rcases List.mem_cons.1 hs with e | hs
 ·rw [e]; show 14 ≤ 1048576; decide
 ·rcases List.mem_cons.1 hs with e | hs
  ·rw [e]
   have := (Pf (.inl ha)).2
   show (Cy a).size ≤ 1048576
   omega
  ·split at hs
   ·cases hs
   ·rename_i q
    rw [List.mem_singleton.1 hs]
    exact hox.2.2.2 _ ((Fy x.body).resolve_left q)
theorem Sy {α : Type} {xs : List α} {i j : Nat} {y : α} (h : y ∈ xs.take i ++ xs.drop j) : y ∈ xs := by
 rcases List.mem_append.1 h with h | h
 ·exact List.mem_of_mem_take h
 ·exact List.mem_of_mem_drop h
theorem Ms {α : Type} {p : α → Prop} {xs ys : List α} (h : Gl p xs) (hl : ys.length ≤ xs.length) (hs : ∀ y ∈ ys, p y) : Gl p ys := ⟨by have := h.1; omega, hs⟩
theorem SU {s : Sp} {i k : Nat} (h : Fg s) (hi : i < s.items.length) : Fg (Cj s i k) := by
 have h' : Gl Ff s.items := h
 show Gl Ff (MH s.items i k)
 have hx := h'.at hi
 have hx2 : Ff (Fp (s.items.getD i default) k) := ⟨hx.1, Ms hx.2.1 (by simp [Fp]; omega) (fun y hy => hx.2.1.2 y (Sy hy)), hx.2.2⟩
 unfold MH
 split
 ·exact Ms h' (by simp; omega) fun y hy => h'.2 y (Sy hy)
 ·refine Ms h' (by simp; omega) fun y hy => ?_
  rcases List.mem_append.1 hy with hy | hy
  ·exact h'.2 y (List.mem_of_mem_take hy)
  ·rcases List.mem_cons.1 hy with e | hy
   ·rw [e]; exact hx2
   ·exact h'.2 y (List.mem_of_mem_drop hy)
def mD : Ct := Aq (lc Ey.ag (lc DH.ag l0)) (fun p => p.2.1.user.size ≤ 2000000 ∧ p.2.1.domain.size ≤ 2000000) (fun p => RP (Bp p.1 p.2.1))
section
attribute [local go_sem] QX ba lm List.length_append List.length_cons List.length_nil List.map_append List.map_nil Nat.zero_add List.nil_append AS.opn AS.cls AS.nilb AS.renb AS.up Bool.not_false Bool.not_true List.set_set List.set_cons_zero List.set_cons_succ List.set_nil List.mem_singleton forall_eq
set_option maxHeartbeats 800000 in
theorem dV {G : Gt} (hG : Ai G) (hh : G.e 126 = AA 0 QX ∧ G.e 61 = AA 0 ba) : Gd G 149 (AA 0 mD) := by
 refine gr (fn := Tryz.f149) (n := 2) rfl hG ?_ (hs := fun _ p => HC _)
 rintro ⟨x, a, ⟨⟩⟩ hpre
 obtain ⟨h1, h2'⟩ := hpre
 dsimp only at h1 h2' ⊢
 by_cases hm : CA x.body = ⟨#[]⟩
 ·rw [Vg hm]
  have dm := decide_eq_true hm
  simp -implicitDefEqProofs only [Tryz.f149, dm, go_sem, hh, seval]
  with_reducible repeat' (first | apply ai | intro _ | ((first | apply s1 | apply s3 | apply s4) <;> intro hb <;> simp -implicitDefEqProofs only [hb, go_sem, hh, seval] <;> try simp only [qz] at hb))
  all_goals (try simp only [maxLen] at *)
  all_goals first | with_reducible assumption | rfl | omega | contradiction | decide | (simp; done) | skip
 ·rw [Vh hm]
  have dm := decide_eq_false hm
  simp -implicitDefEqProofs only [Tryz.f149, dm, go_sem, hh, seval]
  with_reducible repeat' (first | apply ai | intro _ | ((first | apply s1 | apply s3 | apply s4) <;> intro hb <;> simp -implicitDefEqProofs only [hb, go_sem, hh, seval] <;> try simp only [qz] at hb))
  all_goals (try simp only [maxLen] at *)
  all_goals first | with_reducible assumption | rfl | omega | contradiction | decide | (simp; done) | skip
end
section
attribute [local go_sem] Vo bZ bV lm List.length_append List.length_cons List.length_nil List.map_append List.map_nil Nat.zero_add List.nil_append AS.opn AS.cls AS.nilb AS.renb AS.up Bool.not_false Bool.not_true List.set_set List.set_cons_zero List.set_cons_succ List.set_nil List.mem_singleton forall_eq Ae Ac
end
def xx : Ct := Aq (lc FX.ag (lc BA (lc BA (lc BA l0)))) (fun p => EM p.1 ∧ Bk p.1.spool ∧ (0 ≤ p.2.1 ∧ p.2.1 < p.1.spool.items.length) ∧ (0 ≤ p.2.2.1 ∧ p.2.2.1 < (p.1.spool.items.getD p.2.1.toNat default).to.length)) (fun p => .agg ((Ak (G4 p.1 (p.1.spool.items.getD p.2.1.toNat default) ((p.1.spool.items.getD p.2.1.toNat default).to.getD p.2.2.1.toNat default).addr p.2.1.toNat p.2.2.1.toNat p.2.2.2.1)).map .t))
section
attribute [local go_sem] nR Tt KV ba mD QZ Ic IL List.take_length List.drop_zero List.length_take List.length_drop lm List.length_append List.length_cons List.length_nil List.map_append List.map_nil List.map_cons List.nil_append Nat.zero_add List.mem_singleton forall_eq Bool.not_true Bool.not_false Ae Ac AS.opn AS.cls AS.nilb AS.renb AS.up List.set_set List.set_cons_zero List.set_cons_succ List.set_nil
set_option maxHeartbeats 3200000 in
theorem qY {G : Gt} (hG : Ai G) (hh : G.e 92 = AA 1 nR ∧ G.e 62 = AA 0 Tt ∧ G.e 147 = AA 0 KV ∧ G.e 61 = AA 0 ba ∧ G.e 149 = AA 0 mD ∧ G.e 148 = AA 1 QZ) : Gd G 94 (AA 1 xx) := by
 refine Lr (dp := fun n => Nat.ble 100000 n) (fn := Tryz.f94) (n := 4) rfl hG ?_
 rintro ⟨h, i, k, w, ⟨⟩⟩ hpre
 obtain ⟨hok, hsp, ⟨hi0, hi1⟩, ⟨hk0, hk1⟩⟩ := hpre
 dsimp only at hok hsp hi0 hi1 hk0 hk1 ⊢
 obtain ⟨ni, rfl⟩ := Int.eq_ofNat_of_zero_le hi0
 obtain ⟨nk, rfl⟩ := Int.eq_ofNat_of_zero_le hk0
 simp only [tn] at *
 have hi2 : ni < h.spool.items.length := by omega
 have hk2 : nk < (h.spool.items.getD ni default).to.length := by omega
 have hsd := Eh hsp hi2 hk2
 have hos := hok.2.1
 have hod := SU (k := nk) hos hi2
 have hll := hok.2.2.2.1
 have hx := hsp.1 _ (AE hi2)
 have hox := hos.2 _ (AE hi2)
 have hoa := hox.2.1.2 _ (AE hk2)
 have hau : ((h.spool.items.getD ni default).to.getD nk default).addr.user.size ≤ 2000000 := by have : ((h.spool.items.getD ni default).to.getD nk default).addr.user.size ≤ 1048576 := hoa.1; omega
 have had : ((h.spool.items.getD ni default).to.getD nk default).addr.domain.size ≤ 2000000 := by have : ((h.spool.items.getD ni default).to.getD nk default).addr.domain.size ≤ 1048576 := hoa.2; omega
 have hob : Lj (Bp (h.spool.items.getD ni default) ((h.spool.items.getD ni default).to.getD nk default).addr) := Oh hox (hx.1.1 _ (AE hk2)).1
 by_cases q : Ab (h.spool.items.getD ni default).frm ∨ ¬ CJ (Cj h.spool ni nk)
 ·rw [XS q]
  by_cases q1 : Ab (h.spool.items.getD ni default).frm
  ·have b1 := Ap q1
   simp -implicitDefEqProofs only [Tryz.f94, b1, tn, go_sem, hh, seval]
   with_reducible repeat' (first | apply ai | intro _ | ((first | apply s1 | apply s3 | apply s4) <;> intro hb <;> simp -implicitDefEqProofs only [hb, go_sem, hh, seval] <;> try simp only [qz] at hb))
   all_goals (try simp only [maxLen] at *)
   all_goals first | with_reducible assumption | rfl | omega | contradiction | decide | (simp; done) | skip
  ·have b1 := AN q1
   have b2 := AN (q.resolve_left q1)
   simp -implicitDefEqProofs only [Tryz.f94, b1, b2, tn, go_sem, hh, seval]
   with_reducible repeat' (first | apply ai | intro _ | ((first | apply s1 | apply s3 | apply s4) <;> intro hb <;> simp -implicitDefEqProofs only [hb, go_sem, hh, seval] <;> try simp only [qz] at hb))
   all_goals (try simp only [maxLen] at *)
   all_goals first | with_reducible assumption | rfl | omega | contradiction | decide | (simp; done) | skip
 ·rw [XR q]
  have q1 : ¬ Ab (h.spool.items.getD ni default).frm := fun z => q (.inl z)
  have q2 : CJ (Cj h.spool ni nk) := Classical.byContradiction fun z => q (.inr z)
  have b1 := AN q1
  have b2 := Ap q2
  simp -implicitDefEqProofs only [Tryz.f94, b1, b2, tn, go_sem, hh, seval]
  with_reducible repeat' (first | apply ai | intro _ | ((first | apply s1 | apply s3 | apply s4) <;> intro hb <;> simp -implicitDefEqProofs only [hb, go_sem, hh, seval] <;> try simp only [qz] at hb))
  all_goals (try simp only [maxLen] at *)
  all_goals first | with_reducible assumption | rfl | omega | contradiction | decide | skip
end
def iw : Ct := Aq (lc FX.ag (lc BA (lc DH.ag (lc BA (lc BA l0))))) (fun p => Fg p.1.spool ∧ Bk p.1.spool ∧ ¬ At p.1.spool p.2.1 < 0 ∧ ¬ BR (Aa p.1.spool p.2.1) p.2.2.1 < 0 ∧ (p.2.2.2.1 = 2 ∨ (EM p.1 ∧ 0 ≤ p.2.2.2.2.1 ∧ p.2.2.2.2.1 ≤ 9999))) (fun p => .agg ((Ak (Ch p.1 (At p.1.spool p.2.1).toNat (BR (Aa p.1.spool p.2.1) p.2.2.1).toNat p.2.2.1 p.2.2.2.1 p.2.2.2.2.1)).map .t))
section
attribute [local go_sem] iv wr nR t6 xx Ic IL List.take_length List.drop_zero List.length_take List.length_drop lm List.length_append List.length_cons List.length_nil List.map_append List.map_nil List.map_cons List.nil_append Nat.zero_add List.mem_singleton forall_eq Bool.not_true Bool.not_false gW AS.opn AS.cls AS.nilb AS.renb AS.up List.set_set List.set_cons_zero List.set_cons_succ List.set_nil
set_option maxHeartbeats 3200000 in
theorem pi {G : Gt} (hG : Ai G) (hh : G.e 34 = AA 0 iv ∧ G.e 35 = AA 0 wr ∧ G.e 92 = AA 1 nR ∧ G.e 93 = AA 1 t6 ∧ G.e 94 = AA 1 xx) : Gd G 37 (AA 1 iw) := by
 refine Lr (dp := fun n => Nat.ble 100000 n) (fn := Tryz.f37) (n := 5) rfl hG ?_
 rintro ⟨h, n, a, out, w, ⟨⟩⟩ hpre
 obtain ⟨hos, hsp, hi, hk, hw'⟩ := hpre
 dsimp only at hos hsp hi hk hw' ⊢
 have hi' : ¬ (BB (fun x : Im => x.id = n) 0 h.spool.items) < 0 := hi
 obtain ⟨i0, i1⟩ := Bf hi
 have i0' : 0 ≤ (BB (fun x : Im => x.id = n) 0 h.spool.items) := i0
 have i1' : (BB (fun x : Im => x.id = n) 0 h.spool.items) < h.spool.items.length := i1
 have hk' : ¬ (BB (fun r : Rc => r.addr = a) 0 (h.spool.items.getD (BB (fun x : Im => x.id = n) 0 h.spool.items).toNat default).to) < 0 := hk
 obtain ⟨k0, k1⟩ := ED hk
 have k0' : 0 ≤ (BB (fun r : Rc => r.addr = a) 0 (h.spool.items.getD (BB (fun x : Im => x.id = n) 0 h.spool.items).toNat default).to) := k0
 have k1' : (BB (fun r : Rc => r.addr = a) 0 (h.spool.items.getD (BB (fun x : Im => x.id = n) 0 h.spool.items).toNat default).to) < (h.spool.items.getD (BB (fun x : Im => x.id = n) 0 h.spool.items).toNat default).to.length := k1
 have hadr : ((h.spool.items.getD (BB (fun x : Im => x.id = n) 0 h.spool.items).toNat default).to.getD (BB (fun r : Rc => r.addr = a) 0 (h.spool.items.getD (BB (fun x : Im => x.id = n) 0 h.spool.items).toNat default).to).toNat default).addr = a := Ec hk
 obtain ⟨R, hR⟩ : ∃ x, x = Ch h (At h.spool n).toNat (BR (Aa h.spool n) a).toNat a out w := ⟨_, rfl⟩
 rw [← hR]
 by_cases o2 : out = 2
 ·have hR2 : R = ⟨h.conf, Cj h.spool (BB (fun x : Im => x.id = n) 0 h.spool.items).toNat (BB (fun r : Rc => r.addr = a) 0 (h.spool.items.getD (BB (fun x : Im => x.id = n) 0 h.spool.items).toNat default).to).toNat, h.boxes, h.lost⟩ := by rw [hR]; unfold Ch; rw [if_pos o2]; rfl
  rw [hR2]
  have d2 := decide_eq_true o2
  simp -implicitDefEqProofs only [Tryz.f37, d2, go_sem, hh, seval]
  with_reducible repeat' (first | apply ai | intro _ | ((first | apply s1 | apply s3 | apply s4) <;> intro hb <;> simp -implicitDefEqProofs only [hb, go_sem, hh, seval] <;> try simp only [qz] at hb))
  all_goals first | with_reducible assumption | rfl | omega | contradiction | decide | skip
 ·have d2 := decide_eq_false o2
  obtain ⟨hok, hw⟩ := hw'.resolve_left o2
  by_cases o3 : out = 3
  ·have d3 := decide_eq_true o3
   by_cases hl : NU ((h.spool.items.getD (BB (fun x : Im => x.id = n) 0 h.spool.items).toNat default).to.getD (BB (fun r : Rc => r.addr = a) 0 (h.spool.items.getD (BB (fun x : Im => x.id = n) 0 h.spool.items).toNat default).to).toNat default) w
   ·have hR2 : R = G4 h (h.spool.items.getD (BB (fun x : Im => x.id = n) 0 h.spool.items).toNat default) ((h.spool.items.getD (BB (fun x : Im => x.id = n) 0 h.spool.items).toNat default).to.getD (BB (fun r : Rc => r.addr = a) 0 (h.spool.items.getD (BB (fun x : Im => x.id = n) 0 h.spool.items).toNat default).to).toNat default).addr (BB (fun x : Im => x.id = n) 0 h.spool.items).toNat (BB (fun r : Rc => r.addr = a) 0 (h.spool.items.getD (BB (fun x : Im => x.id = n) 0 h.spool.items).toNat default).to).toNat w := by
      rw [hR, hadr]; unfold Ch
      rw [if_neg o2, if_neg (fun z => z.2 hl)]; rfl
    have hS : J3 h.spool (BB (fun x : Im => x.id = n) 0 h.spool.items).toNat (BB (fun r : Rc => r.addr = a) 0 (h.spool.items.getD (BB (fun x : Im => x.id = n) 0 h.spool.items).toNat default).to).toNat w = (h.spool, false) := by unfold J3; rw [if_pos hl]
    rw [hR2]
    simp -implicitDefEqProofs only [Tryz.f37, d2, d3, hS, go_sem, hh, seval]
    with_reducible repeat' (first | apply ai | intro _ | ((first | apply s1 | apply s3 | apply s4) <;> intro hb <;> simp -implicitDefEqProofs only [hb, go_sem, hh, seval] <;> try simp only [qz] at hb))
    all_goals first | with_reducible assumption | rfl | omega | contradiction | decide | skip
   ·have hR2 : R = ⟨h.conf, PH h.spool (BB (fun x : Im => x.id = n) 0 h.spool.items).toNat (BB (fun r : Rc => r.addr = a) 0 (h.spool.items.getD (BB (fun x : Im => x.id = n) 0 h.spool.items).toNat default).to).toNat w, h.boxes, h.lost⟩ := by
      rw [hR]; unfold Ch
      rw [if_neg o2, if_pos ⟨o3, hl⟩]; rfl
    have hS : J3 h.spool (BB (fun x : Im => x.id = n) 0 h.spool.items).toNat (BB (fun r : Rc => r.addr = a) 0 (h.spool.items.getD (BB (fun x : Im => x.id = n) 0 h.spool.items).toNat default).to).toNat w = (PH h.spool (BB (fun x : Im => x.id = n) 0 h.spool.items).toNat (BB (fun r : Rc => r.addr = a) 0 (h.spool.items.getD (BB (fun x : Im => x.id = n) 0 h.spool.items).toNat default).to).toNat w, true) := by unfold J3; rw [if_neg hl]
    rw [hR2]
    simp -implicitDefEqProofs only [Tryz.f37, d2, d3, hS, go_sem, hh, seval]
    with_reducible repeat' (first | apply ai | intro _ | ((first | apply s1 | apply s3 | apply s4) <;> intro hb <;> simp -implicitDefEqProofs only [hb, go_sem, hh, seval] <;> try simp only [qz] at hb))
    all_goals first | with_reducible assumption | rfl | omega | contradiction | decide | skip
  ·have d3 := decide_eq_false o3
   have hR2 : R = G4 h (h.spool.items.getD (BB (fun x : Im => x.id = n) 0 h.spool.items).toNat default) ((h.spool.items.getD (BB (fun x : Im => x.id = n) 0 h.spool.items).toNat default).to.getD (BB (fun r : Rc => r.addr = a) 0 (h.spool.items.getD (BB (fun x : Im => x.id = n) 0 h.spool.items).toNat default).to).toNat default).addr (BB (fun x : Im => x.id = n) 0 h.spool.items).toNat (BB (fun r : Rc => r.addr = a) 0 (h.spool.items.getD (BB (fun x : Im => x.id = n) 0 h.spool.items).toNat default).to).toNat w := by
    rw [hR, hadr]; unfold Ch
    rw [if_neg o2, if_neg (fun z => o3 z.1)]; rfl
   rw [hR2]
   simp -implicitDefEqProofs only [Tryz.f37, d2, d3, go_sem, hh, seval]
   with_reducible repeat' (first | apply ai | intro _ | ((first | apply s1 | apply s3 | apply s4) <;> intro hb <;> simp -implicitDefEqProofs only [hb, go_sem, hh, seval] <;> try simp only [qz] at hb))
   all_goals first | with_reducible assumption | rfl | omega | contradiction | decide | skip
end
section
attribute [local go_sem] sn sr iv wr Lb iw Ic IL List.take_length List.drop_zero List.length_take List.length_drop lm List.length_append List.length_cons List.length_nil List.map_append List.map_nil List.map_cons List.nil_append Nat.zero_add List.mem_singleton forall_eq Bool.not_true Bool.not_false Yq UT Ae Ac AS.opn AS.cls AS.nilb AS.renb AS.up List.set_set List.set_cons_zero List.set_cons_succ List.set_nil
end
end Go.V
namespace Go.V
open Go Go.Proofs Go.Shelf Go.RowKit Go.Lib Go.Sort
set_option maxRecDepth 1000000
set_option linter.unusedSimpArgs false
set_option linter.unusedVariables false
theorem FO {P : Program} (w : World) (t ty e : TypeId) (i : TypeInfo) (ht : P.underlying t = some (.slice e)) (hi : P.info? e = some i) (g o dLen dCap : Nat) (cur : Array Value) (et : TypeId) (hg : w.heap[g]? = some (.cells cur et (0, 0)))
    (a : Addr) (sLen sCap : Nat) (As : List Value) (hl : As.length = Nat.min sLen dLen * i.size) (hnews : ∀ j u, As[j]? = some u → w.cell? (a.add j) = some u) (h1 : ∀ u ∈ As, u.oneCell' = true) (hfit : o + As.length ≤ cur.size) :
    (Builtin.copy_ #[t, t] ty #[.slice (some ⟨g, o, none⟩) dLen dCap, .slice (some a) sLen sCap]).run P w = .ok (goInt (Nat.min sLen dLen)) (w.setRow g (Go.V.splice cur.toList o As).toArray) := by
 have hfc := run_firstCells_some (P := P) w i.size (Nat.min sLen dLen) a sLen sCap As hl hnews
 have Ar := run_storeCells_at P g o et As 0 cur w hg (by simpa using hfit) h1
 simp only [Nat.add_zero, List.append_assoc] at Ar
 simp [Builtin.copy_, run_underlying ht, sizeOf, typeInfo, hi, Builtin.lenOf, hfc, Ar, Go.V.splice]
theorem Pp {P : Program} {ops : Array Oper} {o : Oper} {a : Act} {w : World} {K : Act → World → Prop} {Q : Exit → Act → World → Prop} {E : Prop}
    (hg : o.guard = none) (s x : Operand) (t : TypeId) (hop : o.op = Op.call { callee := Callee.builtin Builtin.copy, args := #[s, x], argTypes := #[t, t] })
    (r : Value) (W' : World) (hrun : (Builtin.copy_ #[t, t] o.type #[a.eval s, a.eval x]).run P w = .ok r W')
    (hK : K (a.put o.dst r) W') :
    if Region.wanted o (yielded ops a.tmps) = true then Oper.wp P o a w K Q else E := by
 have hw : Region.wanted o (yielded ops a.tmps) = true := by simp [Region.wanted, hg]
 rw [if_pos hw]
 unfold Oper.wp
 simp [execOp, hop, resolve, invoke, builtin, hrun, Result.andThen]
 exact hK
theorem Hu {P : Program} {ops : Array Oper} {o : Oper} {a : Act} {w : World} {K : Act → World → Prop} {Q : Exit → Act → World → Prop} {E : Prop}
    (hg : o.guard = none) (s x : Operand) (t : TypeId) (hop : o.op = Op.call { callee := Callee.builtin Builtin.copy, args := #[s, x], argTypes := #[t, t] }) (v u : Value) (hd : a.eval s = v) (hs : a.eval x = u)
    {r : Value} {W' : World} (hrun : (Builtin.copy_ #[t, t] o.type #[v, u]).run P w = .ok r W')
    (hK : K (a.put o.dst r) W') :
    if Region.wanted o (yielded ops a.tmps) = true then Oper.wp P o a w K Q else E := by
 subst hd hs
 exact Pp hg s x t hop r W' hrun hK
theorem Gk {P : Program} {w : World} {ops : Array Oper} {rest : List Oper} {o : Oper} {a : Act} {Q : Exit → Act → World → Prop} (hgd : o.guard = none) (d s : Operand) (t : TypeId)
    (ho : o.op = .call { callee := .builtin .copy, args := #[d, s], argTypes := #[t, t] }) (v u : Value) (hd : a.eval d = v) (hs : a.eval s = u) {r : Value} {W' : World}
    (hr : (Builtin.copy_ #[t, t] o.type #[v, u]).run P w = .ok r W') (h : wpList P ops Q rest (a.put o.dst r) W') : wpList P ops Q (o :: rest) a w :=
 wpList_plain hgd fun _ hK => by
  unfold Oper.wp execOp
  simp only [ho, resolve, invoke, builtin, Sem.run_bind, Sem.run_pure, Result.andThen_ok, List.map_toArray, List.map_cons, List.map_nil, hd, hs, hr]
  exact hK _ _ h
def C1 (n i len : Nat) (old vs : List Value) (b : Option Nat) (w : World) (e : Ending) (w' : World) : Prop :=
 ∃ (B cap : Nat) (cur : Array Value) (et : TypeId), e = .returned (.slice (some ⟨B, 0, none⟩) (len + 1) cap) ∧ len + 1 ≤ cap ∧ cap ≤ maxLen ∧ w'.heap[B]? = some (.cells cur et (0, 0)) ∧ cur.size = cap * n ∧
  cur.toList.take ((len + 1) * n) = old.take (i * n) ++ (vs ++ old.drop (i * n)) ∧ w'.os = w.os ∧ w'.tape = w.tape ∧ w'.output = w.output ∧ w.heap.size ≤ w'.heap.size ∧ B < w'.heap.size ∧ (b = some B ∨ w.heap.size ≤ B) ∧
  ∀ c, c < w.heap.size → b ≠ some c → w'.heap[c]? = w.heap[c]?
structure J0 (n : Nat) (w : World) (vb vcap : Nat) (vs : List Value) (len cap : Nat) (old : List Value) : Prop where
 hv : ∃ vcur vet, w.heap[vb]? = some (.cells vcur vet (0, 0)) ∧ vcur.size = vcap * n ∧ vcur.toList.take n = vs
 vc : 1 ≤ vcap
 vl : vs.length = n
 v1 : ∀ u ∈ vs, u.oneCell' = true
 lc : len ≤ cap
 cm : cap ≤ maxLen
 lm : len ≤ 4000000
 ol : old.length = len * n
 o1 : ∀ u ∈ old, u.oneCell' = true
def VF (P : Program) (f : FuncId) (n : Nat) : Prop :=
 (∀ (w : World) (vb vcap : Nat) (vs : List Value), J0 n w vb vcap vs 0 0 [] → Calls P f #[.slice none 0 0, .int .i64 0, .slice (some ⟨vb, 0, none⟩) 1 vcap] w (C1 n 0 0 [] vs none w)) ∧
 ∀ (w : World) (b len cap i : Nat) (cur : Array Value) (et : TypeId) (old : List Value) (vb vcap : Nat) (vs : List Value), w.heap[b]? = some (.cells cur et (0, 0)) → cur.size = cap * n → cur.toList.take (len * n) = old → vb ≠ b → i ≤ len → J0 n w vb vcap vs len cap old →
  Calls P f #[.slice (some ⟨b, 0, none⟩) len cap, .int .i64 i, .slice (some ⟨vb, 0, none⟩) 1 vcap] w (C1 n i len old vs (some b) w)
theorem N5 (z : Array Value) (k : Nat) : (Builtin.zeroCells z k).size = k * z.size := by simp [Builtin.zeroCells]
theorem Q2 {n i len cap : Nat} {old vs : List Value} {b : Option Nat} {w : World} {cur : Array Value} {et : TypeId} (h1 : len + 1 ≤ cap) (h2 : cap ≤ maxLen) (h3 : cur.size = cap * n) (h4 : cur.toList.take ((len + 1) * n) = old.take (i * n) ++ (vs ++ old.drop (i * n))) :
    C1 n i len old vs b w (.returned (.slice (some ⟨w.heap.size, 0, none⟩) (len + 1) cap)) (w.drew.alloc (.cells cur et)) := by
 have hs : (w.drew.alloc (.cells cur et)).heap.size = w.heap.size + 1 := by show (w.heap.push _).size = _; rw [Array.size_push]
 refine ⟨w.heap.size, cap, cur, et, rfl, h1, h2, ?_, h3, h4, rfl, rfl, rfl, by omega, by omega, .inr (Nat.le_refl _), fun c hc _ => ?_⟩
 ·show (w.heap.push _)[w.heap.size]? = _
  rw [Array.getElem?_push_size]
 ·show (w.heap.push _)[c]? = _
  rw [Array.getElem?_push_lt hc]
  simp [hc]
theorem Km {n i len cap b : Nat} {old vs : List Value} {w w' : World} {cur : Array Value} {et : TypeId} (hb : b < w.heap.size) (h1 : len + 1 ≤ cap) (h2 : cap ≤ maxLen) (h3 : cur.size = cap * n) (h4 : cur.toList.take ((len + 1) * n) = old.take (i * n) ++ (vs ++ old.drop (i * n)))
    (o1 : w'.os = w.os) (o2 : w'.tape = w.tape) (o3 : w'.output = w.output) (o4 : w'.heap.size = w.heap.size) (o5 : w'.heap[b]? = some (.cells cur et (0, 0))) (o6 : ∀ c, c ≠ b → w'.heap[c]? = w.heap[c]?) :
    C1 n i len old vs (some b) w (.returned (.slice (some ⟨b, 0, none⟩) (len + 1) cap)) w' :=
 ⟨b, cap, cur, et, rfl, h1, h2, o5, h3, h4, o1, o2, o3, by omega, by omega, .inl rfl, fun c _ hc => o6 c fun e => hc (by rw [e])⟩
theorem Bd.ones {w : World} {ts : List T} {vs : List Value} {G : List Nat} (hr : Bd w ts vs G) : ∀ u ∈ vs, u.oneCell' = true := fun u hu => by
 obtain ⟨k, hk, rfl⟩ := List.getElem_of_mem hu
 have hk2 : k < ts.length := by rw [hr.len]; exact hk
 obtain ⟨v, _, _, _, q1, q2, _⟩ := hr.at (List.getElem?_eq_getElem hk2)
 rw [List.getElem?_eq_getElem hk, Option.some.injEq] at q1
 rw [q1]; exact q2.one
theorem bp {P : Program} {m : Int} {f : FuncId} {n : Nat} (hraw : VF P f n) (es : List (List T)) (x x' : List T) (hx : ∀ (w : World) (v : List Value) (F : List Nat), Bd w x v F → Bd w x' v F) (hx' : x'.length = x.length) (i : Nat) (hi : i ≤ es.length) (hlm : es.length ≤ 4000000) :
    Rn P m f [.o true n es, .t (.v (.int .i64 i)), .o true n [x]] [.any, .t (.v (.int .i64 i)), .any] (.o true n (es.take i ++ (x' :: es.drop i))) := by
 intro w pr vs F hgl hA hnd hF hpr
 cases hA with
 | cons _ v0 _ _ F0 _ h0 hA =>
 cases hA with
 | cons _ v1 _ _ F1 _ h1 hA =>
 cases hA with
 | cons _ v2 _ _ F2 _ h2 hA =>
 cases hA with
 | nil =>
 cases h1 with
 | t _ _ h1 =>
 cases h1 with
 | v _ g1 =>
 cases h0 with
 | o _ _ _ _ _ ha =>
 cases h2 with
 | o _ _ _ _ _ hb =>
 simp only [List.append_nil, List.nil_append] at hnd hF ⊢
 rcases hb with ⟨hb, _, _⟩ | ⟨vb, vlen, vcap, vcur, vet, vv, Gv, rfl, vl, vc, vm, vn, vg, vs', vt, rfl, vr⟩
 ·cases hb
 obtain rfl : vlen = 1 := by simp at vl; omega
 have vr : Bd w [x].flatten vv Gv := vr
 have vvl : vv.length = n := by rw [← vr.len, Cd vn]; simp
 have hin : ∀ {len cap : Nat} {old : List Value}, len ≤ cap → cap ≤ maxLen → len ≤ 4000000 → old.length = len * n → (∀ u ∈ old, u.oneCell' = true) → J0 n w vb vcap vv len cap old := fun {len cap old} a1 a2 a3 a4 a5 =>
  ⟨⟨vcur, vet, vg, vs', by rw [Nat.one_mul] at vt; exact vt⟩, vc, vvl, vr.ones, a1, a2, a3, a4, a5⟩
 obtain ⟨hn0, hn2, hdis⟩ := List.nodup_append.1 hnd
 obtain ⟨ob, G, ov, hr, hGF, hGn, hob, hn, hcall⟩ : ∃ (ob : Option Nat) (G : List Nat) (ov : List Value), Bd w es.flatten ov G ∧ (∀ c ∈ G, c ∈ F0) ∧ G.Nodup ∧ (∀ b, ob = some b → b ∈ F0 ∧ b ∉ G) ∧ (∀ y ∈ es, y.length = n) ∧ Calls P f #[v0, .int .i64 i, .slice (some ⟨vb, 0, none⟩) 1 vcap] w (C1 n i es.length ov vv ob w) := by
  rcases ha with ⟨rfl, rfl, rfl⟩ | ⟨b, len, cap, cur, et, ov, G, rfl, hl, hc, hm, hn, hg, hs, hv, rfl, hr⟩
  ·obtain rfl : i = 0 := by simpa using hi
   exact ⟨none, [], [], .nil, fun _ h => h, List.nodup_nil, (fun b h => by cases h), (fun y h => by cases h), hraw.1 w vb vcap vv (hin (Nat.le_refl _) (by unfold maxLen; omega) (by omega) (by simp) (fun u h => by cases h))⟩
  ·have hr : Bd w es.flatten ov G := hr
   have hvl : ov.length = len * n := by rw [← hr.len, Cd hn, hl]
   refine ⟨some b, G, ov, hr, fun c h => List.mem_cons_of_mem _ h, (List.nodup_cons.1 hn0).2, fun b' h => by cases h; exact ⟨by simp, (List.nodup_cons.1 hn0).1⟩, hn, ?_⟩
   subst hl
   exact hraw.2 w b _ cap i cur et ov vb vcap vv hg hs hv (fun e => hdis b (by simp) vb (by simp) e.symm) (by omega) (hin hc hm (by omega) hvl hr.ones)
 refine Calls.mono hcall fun e w' hq => ?_
 obtain ⟨B, cap', cur', et', he, c1, c2, c3, c4, c5, o1, o2, o3, o4, o6, o7, o8⟩ := hq
 have hovl : ov.length = es.length * n := by rw [← hr.len, Cd hn]
 have e1 : i * n ≤ es.length * n := Nat.mul_le_mul_right n hi
 have l1 : (es.take i).flatten.length = i * n := by rw [Cd fun x hx => hn x (List.mem_of_mem_take hx), List.length_take]; congr 1; omega
 have hr2 : Bd w ((es.take i).flatten ++ (es.drop i).flatten) (ov.take (i * n) ++ ov.drop (i * n)) G := by
  rw [← List.flatten_append, List.take_append_drop, List.take_append_drop]; exact hr
 obtain ⟨G1, G3, rfl, d1, d3⟩ := Bd.split hr2 (by rw [l1, List.length_take]; omega)
 have hlt : ∀ c ∈ G1 ++ (Gv ++ G3), c ∈ F0 ++ vb :: Gv ∧ c < w.heap.size ∧ ob ≠ some c := fun c hc => by
  have h3 : c ∈ G1 ++ G3 ∨ c ∈ Gv := by
   simp only [List.mem_append] at hc ⊢
   exact hc.elim (fun h => .inl (.inl h)) fun h => h.elim .inr fun h => .inl (.inr h)
  have h1 : c ∈ F0 ++ vb :: Gv := h3.elim (fun h => List.mem_append_left _ (hGF c h)) fun h => List.mem_append_right _ (List.mem_cons_of_mem _ h)
  refine ⟨h1, (hF c h1).1, fun e => ?_⟩
  obtain ⟨q1, q2⟩ := hob c e
  exact h3.elim q2 fun h => hdis c q1 c (List.mem_cons_of_mem _ h) rfl
 have hd : Bd w' (es.take i ++ (x' :: es.drop i)).flatten (ov.take (i * n) ++ (vv ++ ov.drop (i * n))) (G1 ++ (Gv ++ G3)) := by
  rw [List.flatten_append, List.flatten_cons]
  have vr' : Bd w x' vv Gv := hx _ _ _ (by simpa using vr)
  exact (d1.append (vr'.append d3)).keep fun c hc => o8 c (hlt c hc).2.1 (hlt c hc).2.2
 have hBn : B ∉ G1 ++ (Gv ++ G3) := fun h => by
  have := hlt B h
  rcases o7 with q | q
  ·exact this.2.2 q
  ·omega
 have hndG : (G1 ++ (Gv ++ G3)).Nodup := by
  have h1 : (G1 ++ G3 ++ Gv).Nodup := List.nodup_append.2 ⟨hGn, (List.nodup_cons.1 hn2).2, fun a ha b hb => hdis a (hGF a ha) b (List.mem_cons_of_mem _ hb)⟩
  rw [List.append_assoc] at h1
  exact (List.Perm.append_left G1 List.perm_append_comm).nodup_iff.1 h1
 refine ⟨_, pr, [], B :: (G1 ++ (Gv ++ G3)), he, ⟨o1, o2, o3, o4, fun k hk hk2 => o8 k hk fun e => hk2 (List.mem_append_left _ (hob k e).1)⟩, fun _ h => h, fun _ h => .inl h, fun c hc => Nat.lt_of_lt_of_le (hpr c hc) o4, .cons _ _ _ _ [] [] (.any _) (.cons _ _ _ _ [] [] (.t _ _ (.v _ g1)) (.cons _ _ _ _ [] [] (.any _) .nil)), .o _ _ _ _ _ (.inr ⟨B, es.length + 1, cap', cur', et', _, G1 ++ (Gv ++ G3), rfl, ?_, c1, c2, ?_, c3, c4, c5, rfl, hd⟩), List.nodup_cons.2 ⟨hBn, hndG⟩, fun c hc => ?_⟩
 ·simp; omega
 ·intro y hy
  rcases List.mem_append.1 hy with hy | hy
  ·exact hn y (List.mem_of_mem_take hy)
  ·rcases List.mem_cons.1 hy with rfl | hy
   ·rw [hx']; exact vn _ (by simp)
   ·exact hn y (List.mem_of_mem_drop hy)
 ·simp only [List.nil_append] at hc
  rcases List.mem_cons.1 hc with rfl | hc
  ·rcases o7 with q | q
   ·have h1 := List.mem_append_left (vb :: Gv) (hob c q).1
    exact ⟨o6, (hF c h1).2, .inr h1⟩
   ·exact ⟨o6, fun h => by have := hpr c h; omega, .inl q⟩
  ·have h1 := (hlt c hc).1
   exact ⟨by have := (hF c h1).1; omega, (hF c h1).2, .inr h1⟩
theorem Ji : Tryz.prog.funcs[132]? = some Tryz.f132 := by kernel_rfl
theorem S7 : Tryz.f132.ntmps = 95 := rfl
theorem ci : Tryz.prog.funcs[169]? = some Tryz.f169 := by kernel_rfl
noncomputable def Cs : TypeInfo := (Tryz.prog.info? 57).get (by kernel_rfl)
theorem C5 : Tryz.prog.info? 57 = some Cs := by kernel_rfl
theorem BM : Cs.size = 3 := by kernel_rfl
theorem FI : Cs.bytes = 56 := by kernel_rfl
theorem Iq : Cs.zero = some (.agg #[.string ⟨#[]⟩, .string ⟨#[]⟩, .slice none 0 0]) := by kernel_rfl
set_option maxHeartbeats 4000000 in
theorem Kl : ∀ (w : World) (base : Option Addr) (len cap : Nat) (old : List Value) (vb vcap : Nat) (vs : List Value) (b : Option Nat), J0 3 w vb vcap vs len cap old → cap < len + 1 → (base = none → len = 0 ∧ cap = 0) → (∀ a, base = some a → ∀ j v, old[j]? = some v → w.cell? (a.add j) = some v) →
    Calls Tryz.prog 132 #[.slice base len cap, .int .i64 len, .slice (some ⟨vb, 0, none⟩) 1 vcap] w (C1 3 len len old vs b w) := by
 intro w base len cap old vb vcap vs b H hroom hnil hcs
 have t0 : Tryz.prog.underlying 0 = some (TypeDesc.tuple #[]) := by kernel_rfl
 have a0 : ∀ w, (isAgg 0).run Tryz.prog w = .ok false w := run_isAgg_plain t0 rfl
 have t3 : Tryz.prog.underlying 3 = some (.int .i64) := by kernel_rfl
 have a3 : ∀ w, (isAgg 3).run Tryz.prog w = .ok false w := run_isAgg_plain t3 rfl
 have t4 : Tryz.prog.underlying 4 = some .bool := by kernel_rfl
 have a4 : ∀ w, (isAgg 4).run Tryz.prog w = .ok false w := run_isAgg_plain t4 rfl
 have tS : Tryz.prog.underlying 30 = some (.slice 57) := by kernel_rfl
 have aS : ∀ w, (isAgg 30).run Tryz.prog w = .ok false w := run_isAgg_plain tS rfl
 have zE : ∀ w, (Go.sizeOf 57).run Tryz.prog w = .ok 3 w := fun w => by kernel_rfl
 have mixed : Tryz.prog.follows .mixedOrders = true := by kernel_rfl
 obtain ⟨⟨vcur, vet, hvb, hvs, hvt⟩, vc, vl, v1, lc, cm, lm, ol, o1⟩ := H
 have hz1 : ¬ ((1 : Int) = 0) := by omega
 have hsrc : Src Tryz.prog Cs.size 30 (.slice (some ⟨vb, 0, none⟩) 1 vcap) 1 vs w := by
  rw [BM]
  exact Src.ofSlice w tS ⟨vb, 0, none⟩ 1 vcap vs (by omega) (fun j u hj => by
   rw [Addr.add_lit]
   simp only [World.cell?, hvb, Nat.zero_add]
   rw [← hvt] at hj
   exact BY hj) v1
 have hold : (Builtin.firstCells Cs.size len (.slice base len cap)).run Tryz.prog w.drew = .ok old.toArray w.drew := by
  rw [BM]
  cases base with
  | none =>
    obtain ⟨rfl, rfl⟩ := hnil rfl
    rw [List.length_eq_zero_iff.1 (by omega : old.length = 0)]
    exact run_firstCells_none w.drew 3 0 0 0
  | some a => exact run_firstCells_some w.drew 3 len a len cap old (by omega) (fun j v hj => hcs a rfl j v hj)
 have hrun : Hid (∀ ty, (Builtin.append_ #[30, 30] ty #[.slice base len cap, .slice (some ⟨vb, 0, none⟩) 1 vcap]).run Tryz.prog w = _) := fun ty =>
  run_append_grow_src w 30 30 ty 57 Cs _ tS C5 Iq base len cap old hold _ 1 vs hsrc hroom (by omega) (by rw [FI]; exact growslice_fits hroom (by omega))
 obtain ⟨G, hG⟩ : ∃ G, G = grownCap w (len + 1) cap 57 := ⟨_, rfl⟩
 have hGn : len + 1 ≤ G := by rw [hG]; exact grownCap_ge w _ _ _
 have hGm : G ≤ maxLen := by rw [hG]; exact grownCap_le_maxLen w (len + 1) cap 57 (by unfold maxLen; omega)
 rw [← hG] at hrun
 obtain ⟨cur, hcur⟩ : ∃ cur, cur = (old ++ vs).toArray ++ Builtin.zeroCells (Value.cells (.agg #[.string ⟨#[]⟩, .string ⟨#[]⟩, .slice none 0 0])) (G - (len + 1)) := ⟨_, rfl⟩
 rw [← hcur] at hrun
 have hcs1 : cur.size = G * 3 := by
  rw [hcur, Array.size_append, List.size_toArray, List.length_append, ol, vl, N5]
  show len * 3 + 3 + (G - (len + 1)) * 3 = G * 3
  omega
 have hct : cur.toList.take ((len + 1) * 3) = old.take (len * 3) ++ (vs ++ old.drop (len * 3)) := by
  rw [hcur, Array.toList_append, List.toList_toArray, List.take_append_of_le_length (by rw [List.length_append, ol, vl]; omega), List.take_of_length_le (by rw [List.length_append, ol, vl]; omega), List.take_of_length_le (by omega), List.drop_of_length_le (by omega), List.append_nil]
 have X : Hid (C1 3 len len old vs b w (.returned (.slice (some ⟨w.heap.size, 0, none⟩) (len + 1) G)) (w.drew.alloc (.cells cur 57))) := Q2 hGn hGm hcs1 hct
 clear hct hcs1 hcur hG hold hsrc hvb hvs hvt ol o1 v1 vl
 go_enter Ji, S7
 cases base with
 | none =>
   obtain ⟨rfl, rfl⟩ := hnil rfl
   go_wp2_with (at_builtin; refine Lib.wpList_append_run _ rfl _ _ _ _ rfl _ _ rfl rfl _ _ (hrun.out _) ?_)
   go_ret
   exact X.out
 | some a =>
   obtain ⟨ab, ao, Jb⟩ := a
   go_wp2_with (at_builtin; refine Lib.wpList_append_run _ rfl _ _ _ _ rfl _ _ rfl rfl _ _ (hrun.out _) ?_)
   all_goals (go_ret; exact X.out)
set_option maxHeartbeats 4000000 in
theorem O8 : ∀ (w : World) (b len cap : Nat) (cur : Array Value) (et : TypeId) (old : List Value) (vb vcap : Nat) (vs : List Value), w.heap[b]? = some (.cells cur et (0, 0)) → cur.size = cap * 3 → cur.toList.take (len * 3) = old → vb ≠ b → J0 3 w vb vcap vs len cap old → len + 1 ≤ cap →
    Calls Tryz.prog 132 #[.slice (some ⟨b, 0, none⟩) len cap, .int .i64 len, .slice (some ⟨vb, 0, none⟩) 1 vcap] w (C1 3 len len old vs (some b) w) := by
 intro w b len cap cur et old vb vcap vs hb hs hold hne H hroom
 have t0 : Tryz.prog.underlying 0 = some (TypeDesc.tuple #[]) := by kernel_rfl
 have a0 : ∀ w, (isAgg 0).run Tryz.prog w = .ok false w := run_isAgg_plain t0 rfl
 have t3 : Tryz.prog.underlying 3 = some (.int .i64) := by kernel_rfl
 have a3 : ∀ w, (isAgg 3).run Tryz.prog w = .ok false w := run_isAgg_plain t3 rfl
 have t4 : Tryz.prog.underlying 4 = some .bool := by kernel_rfl
 have a4 : ∀ w, (isAgg 4).run Tryz.prog w = .ok false w := run_isAgg_plain t4 rfl
 have tS : Tryz.prog.underlying 30 = some (.slice 57) := by kernel_rfl
 have aS : ∀ w, (isAgg 30).run Tryz.prog w = .ok false w := run_isAgg_plain tS rfl
 have zE : ∀ w, (Go.sizeOf 57).run Tryz.prog w = .ok 3 w := fun w => by kernel_rfl
 have mixed : Tryz.prog.follows .mixedOrders = true := by kernel_rfl
 obtain ⟨⟨vcur, vet, hvb, hvs, hvt⟩, vc, vl, v1, lc, cm, lm, ol, o1⟩ := H
 have hz1 : ¬ ((1 : Int) = 0) := by omega
 have hcl : cur.toList.length = cap * 3 := by simp [hs]
 have hbw : b < w.heap.size := by
  rcases Nat.lt_or_ge b w.heap.size with h | h
  ·exact h
  ·rw [Array.getElem?_eq_none h] at hb; cases hb
 obtain ⟨W1, hW1⟩ : ∃ W1, W1 = w.setRow b (Go.V.splice cur.toList (len * 3) vs).toArray := ⟨_, rfl⟩
 have hap : Hid (∀ ty, (Builtin.append_ #[30, 30] ty #[.slice (some ⟨b, 0, none⟩) len cap, .slice (some ⟨vb, 0, none⟩) 1 vcap]).run Tryz.prog w = .ok (.slice (some ⟨b, 0, none⟩) (len + 1) cap) W1) := fun ty => by
  have := FN (P := Tryz.prog) w 30 ty 57 Cs tS C5 b len cap cur et hb ⟨vb, 0, none⟩ 1 vcap vs (by rw [BM]; omega) (fun j u hj => by
   rw [Addr.add_lit]
   simp only [World.cell?, hvb, Nat.zero_add]
   rw [← hvt] at hj
   exact BY hj) v1 hroom (by rw [BM, vl, hs]; omega)
  rw [BM] at this
  rw [hW1]; exact this
 have hl1 : (Go.V.splice cur.toList (len * 3) vs).length = cap * 3 := by rw [B3 (by omega), hcl]
 have hct : (Go.V.splice cur.toList (len * 3) vs).toArray.toList.take ((len + 1) * 3) = old.take (len * 3) ++ (vs ++ old.drop (len * 3)) := by
  rw [List.toList_toArray, show (len + 1) * 3 = len * 3 + vs.length by omega, Dk (by omega), hold, List.take_of_length_le (by omega), List.drop_of_length_le (by omega), List.append_nil]
 have X : Hid (C1 3 len len old vs (some b) w (.returned (.slice (some ⟨b, 0, none⟩) (len + 1) cap)) W1) := Km hbw hroom cm (by rw [List.size_toArray, hl1]) hct (by rw [hW1]; rfl) (by rw [hW1]; rfl) (by rw [hW1]; rfl) (by rw [hW1]; simp [World.setRow]) (by rw [hW1]; exact setRow_heap w b _ _ et _ hb) (fun c hc => by rw [hW1]; exact setRow_other w b c _ hc)
 clear hct hl1 hW1 hb hvb hvs hvt hcl hs hold ol o1 v1 vl
 go_enter Ji, S7
 go_wp2_with (at_builtin; refine Lib.wpList_append_run _ rfl _ _ _ _ rfl _ _ rfl rfl _ _ (hap.out _) ?_)
 go_ret
 exact X.out
set_option maxHeartbeats 4000000 in
theorem NP : ∀ (w : World) (b len cap i : Nat) (cur : Array Value) (et : TypeId) (old : List Value) (vb vcap : Nat) (vs : List Value), w.heap[b]? = some (.cells cur et (0, 0)) → cur.size = cap * 3 → cur.toList.take (len * 3) = old → vb ≠ b → J0 3 w vb vcap vs len cap old → len + 1 ≤ cap → i < len →
    Calls Tryz.prog 132 #[.slice (some ⟨b, 0, none⟩) len cap, .int .i64 i, .slice (some ⟨vb, 0, none⟩) 1 vcap] w (C1 3 i len old vs (some b) w) := by
 intro w b len cap i cur et old vb vcap vs hb hs hold hne H hroom hil
 have t0 : Tryz.prog.underlying 0 = some (TypeDesc.tuple #[]) := by kernel_rfl
 have a0 : ∀ w, (isAgg 0).run Tryz.prog w = .ok false w := run_isAgg_plain t0 rfl
 have t3 : Tryz.prog.underlying 3 = some (.int .i64) := by kernel_rfl
 have a3 : ∀ w, (isAgg 3).run Tryz.prog w = .ok false w := run_isAgg_plain t3 rfl
 have t4 : Tryz.prog.underlying 4 = some .bool := by kernel_rfl
 have a4 : ∀ w, (isAgg 4).run Tryz.prog w = .ok false w := run_isAgg_plain t4 rfl
 have tS : Tryz.prog.underlying 30 = some (.slice 57) := by kernel_rfl
 have aS : ∀ w, (isAgg 30).run Tryz.prog w = .ok false w := run_isAgg_plain tS rfl
 have zE : ∀ w, (Go.sizeOf 57).run Tryz.prog w = .ok 3 w := fun w => by kernel_rfl
 have mixed : Tryz.prog.follows .mixedOrders = true := by kernel_rfl
 obtain ⟨⟨vcur, vet, hvb, hvs, hvt⟩, vc, vl, v1, lc, cm, lm, ol, o1⟩ := H
 have hz1 : ¬ ((1 : Int) = 0) := by omega
 have hcl : cur.toList.length = cap * 3 := by simp [hs]
 have hbw : b < w.heap.size := by
  rcases Nat.lt_or_ge b w.heap.size with h | h
  ·exact h
  ·rw [Array.getElem?_eq_none h] at hb; cases hb
 have hov : ∀ lb cb, (callFunc 169 #[.slice (some ⟨vb, 0, none⟩) 1 vcap, .slice (some ⟨b, (i + 1) * 3, none⟩) lb cb]).run Tryz.prog w = .ok (.value (.bool false)) w := fun lb cb => by
  have hsa : w.shape? vb = some (vet, vcur.size) := by simp [World.shape?, hvb]
  have hsb : w.shape? b = some (et, cur.size) := by simp [World.shape?, hb]
  rw [run_callFunc_extern ci (by kernel_rfl) (by kernel_rfl) (by kernel_rfl) (e := Extern.SlicesOverlaps.overlaps #[30, 30] #[4]) (by kernel_rfl),
   Lib.run_overlaps_apart w 30 4 57 tS 3 zE ⟨vb, 0, none⟩ ⟨b, (i + 1) * 3, none⟩ 1 vcap lb cb hne vet et vcur.size cur.size hsa hsb (by omega) (by simp [World.frozen?, hvb]) (by simp [World.frozen?, hvb])]
  rfl
 obtain ⟨L1, hL1⟩ : ∃ L1, L1 = Go.V.splice cur.toList ((i + 1) * 3) (old.drop (i * 3)) := ⟨_, rfl⟩
 obtain ⟨W1, hW1⟩ : ∃ W1, W1 = w.drew.setRow b L1.toArray := ⟨_, rfl⟩
 have hod : (old.drop (i * 3)).length = (len - i) * 3 := by rw [List.length_drop, ol]; omega
 have hl1 : L1.length = cap * 3 := by rw [hL1, B3 (by omega), hcl]
 have hb1 : W1.heap[b]? = some (.cells L1.toArray et (0, 0)) := by rw [hW1]; exact setRow_heap w.drew b _ _ et _ hb
 have hv1 : W1.heap[vb]? = some (.cells vcur vet (0, 0)) := by rw [hW1, setRow_other w.drew b vb _ hne]; exact hvb
 have hcp1 : Hid (∀ ty dc sc, (Builtin.copy_ #[30, 30] ty #[.slice (some ⟨b, (i + 1) * 3, none⟩) (len - i) dc, .slice (some ⟨b, i * 3, none⟩) (len + 1 - i) sc]).run Tryz.prog w.drew = .ok (goInt (Nat.min (len + 1 - i) (len - i))) W1) := fun ty dc sc => by
  rw [hW1, hL1]
  refine FO w.drew 30 ty 57 Cs tS C5 b ((i + 1) * 3) (len - i) dc cur et hb ⟨b, i * 3, none⟩ (len + 1 - i) sc (old.drop (i * 3)) (by rw [BM, hod, show Nat.min (len + 1 - i) (len - i) = len - i by simp only [Nat.min_def]; split <;> omega]) (fun j u hj => ?_) (fun u hu => o1 u (List.mem_of_mem_drop hu)) (by omega)
  rw [List.getElem?_drop, ← hold] at hj
  rw [Addr.add_lit]
  show w.cell? _ = _
  simp only [World.cell?, hb]
  exact BY hj
 obtain ⟨W2, hW2⟩ : ∃ W2, W2 = W1.setRow b (Go.V.splice L1 (i * 3) vs).toArray := ⟨_, rfl⟩
 have hcp2 : Hid (∀ ty dc, (Builtin.copy_ #[30, 30] ty #[.slice (some ⟨b, i * 3, none⟩) (len + 1 - i) dc, .slice (some ⟨vb, 0, none⟩) 1 vcap]).run Tryz.prog W1 = .ok (goInt (Nat.min 1 (len + 1 - i))) W2) := fun ty dc => by
  have := FO W1 30 ty 57 Cs tS C5 b (i * 3) (len + 1 - i) dc L1.toArray et hb1 ⟨vb, 0, none⟩ 1 vcap vs (by rw [BM, vl, show Nat.min 1 (len + 1 - i) = 1 by simp only [Nat.min_def]; split <;> omega]) (fun j u hj => by
   rw [Addr.add_lit]
   simp only [World.cell?, hv1, Nat.zero_add]
   rw [← hvt] at hj
   exact BY hj) v1 (by rw [List.size_toArray, hl1]; omega)
  rw [List.toList_toArray] at this
  rw [hW2]; exact this
 have hl2 : (Go.V.splice L1 (i * 3) vs).length = cap * 3 := by rw [B3 (by omega), hl1]
 have hct : (Go.V.splice L1 (i * 3) vs).toArray.toList.take ((len + 1) * 3) = old.take (i * 3) ++ (vs ++ old.drop (i * 3)) := by
  rw [List.toList_toArray]
  have e1 : Go.V.splice L1 (i * 3) vs = L1.take (i * 3) ++ (vs ++ L1.drop ((i + 1) * 3)) := by
   unfold Go.V.splice
   rw [vl, show i * 3 + 3 = (i + 1) * 3 by omega]
  have e2 : L1.take (i * 3) = old.take (i * 3) := by
   rw [hL1, I6 (by omega) (by omega), ← hold, List.take_take, Nat.min_eq_left (by omega)]
  have e3 : L1.drop ((i + 1) * 3) = old.drop (i * 3) ++ cur.toList.drop ((len + 1) * 3) := by
   rw [hL1]
   unfold Go.V.splice
   rw [List.drop_append_of_le_length (by rw [List.length_take]; omega), List.drop_of_length_le (by rw [List.length_take]; omega), List.nil_append, hod, show (i + 1) * 3 + (len - i) * 3 = (len + 1) * 3 by omega]
  rw [e1, e2, e3, ← List.append_assoc vs, ← List.append_assoc, List.take_append_of_le_length (by simp only [List.length_append, List.length_take, hod, vl, ol]; omega), List.take_of_length_le (by simp only [List.length_append, List.length_take, hod, vl, ol]; omega)]
 have X : Hid (C1 3 i len old vs (some b) w (.returned (.slice (some ⟨b, 0, none⟩) (len + 1) cap)) W2) := Km hbw hroom cm (by rw [List.size_toArray, hl2]) hct (by rw [hW2, hW1]; rfl) (by rw [hW2, hW1]; rfl) (by rw [hW2, hW1]; rfl) (by rw [hW2, hW1]; simp [World.setRow]) (by rw [hW2]; exact setRow_heap W1 b _ _ et _ hb1) (fun c hc => by rw [hW2, setRow_other W1 b c _ hc, hW1, setRow_other w.drew b c _ hc]; rfl)
 have hz2 : ¬ ((i : Int) = (len : Int)) := by omega
 have hw1 : IntKind.i64.wrap ((i : Int) + 1) = (i : Int) + 1 := by rw [IntKind.wrap_i64]; omega
 have hw2 : IntKind.i64.wrap ((len : Int) + 1) = (len : Int) + 1 := by rw [IntKind.wrap_i64]; omega
 have hc1 : ¬ (cap = i) := by omega
 have hc2 : ¬ (cap = i + 1) := by omega
 have hcc : ¬ ((len : Int) + 1 > (cap : Int)) := by omega
 have hb1 : (0 : Int) ≤ (i : Int) + 1 := by omega
 have hin : i ≤ len := by omega
 have hb3 : i ≤ len + 1 := by omega
 clear hct hl1 hl2 hL1 hW1 hW2 hb hb1 hv1 hvb hvs hvt hcl hs hold ol o1 v1 vl hod
 go_enter Ji, S7
 go_wp2_with (simp only [hov])
 have hb1 : (0 : Int) ≤ (i : Int) + 1 := by omega
 have hb2 : (i : Int) ≤ (len : Int) + 1 := by omega
 have htn : ((i : Int) + 1).toNat = i + 1 := by omega
 go_region_law_o (refine Hu rfl (.tmp 73) (.tmp 76) 30 rfl (.slice (some ⟨b, (i + 1) * 3, none⟩) (len - i) (cap - (i + 1))) (.slice (some ⟨b, i * 3, none⟩) (len + 1 - i) (cap - i)) (by simp [Act.eval, Act.put]) (by simp [Act.eval, Act.put]) (hcp1.out _ _ _) ?_)
 go_wp2_with (refine Gk rfl _ _ 30 rfl _ _ rfl rfl (hcp2.out _ _) ?_)
 go_ret
 exact X.out
set_option maxHeartbeats 4000000 in
theorem O7 : ∀ (w : World) (b len cap i : Nat) (cur : Array Value) (et : TypeId) (old : List Value) (vb vcap : Nat) (vs : List Value), w.heap[b]? = some (.cells cur et (0, 0)) → cur.toList.take (len * 3) = old → J0 3 w vb vcap vs len cap old → cap < len + 1 → i < len →
    Calls Tryz.prog 132 #[.slice (some ⟨b, 0, none⟩) len cap, .int .i64 i, .slice (some ⟨vb, 0, none⟩) 1 vcap] w (C1 3 i len old vs (some b) w) := by
 intro w b len cap i cur et old vb vcap vs hb hold H hroom hil
 have t0 : Tryz.prog.underlying 0 = some (TypeDesc.tuple #[]) := by kernel_rfl
 have a0 : ∀ w, (isAgg 0).run Tryz.prog w = .ok false w := run_isAgg_plain t0 rfl
 have t3 : Tryz.prog.underlying 3 = some (.int .i64) := by kernel_rfl
 have a3 : ∀ w, (isAgg 3).run Tryz.prog w = .ok false w := run_isAgg_plain t3 rfl
 have t4 : Tryz.prog.underlying 4 = some .bool := by kernel_rfl
 have a4 : ∀ w, (isAgg 4).run Tryz.prog w = .ok false w := run_isAgg_plain t4 rfl
 have tS : Tryz.prog.underlying 30 = some (.slice 57) := by kernel_rfl
 have aS : ∀ w, (isAgg 30).run Tryz.prog w = .ok false w := run_isAgg_plain tS rfl
 have zE : ∀ w, (Go.sizeOf 57).run Tryz.prog w = .ok 3 w := fun w => by kernel_rfl
 have mixed : Tryz.prog.follows .mixedOrders = true := by kernel_rfl
 obtain ⟨⟨vcur, vet, hvb, hvs, hvt⟩, vc, vl, v1, lc, cm, lm, ol, o1⟩ := H
 have hz1 : ¬ ((1 : Int) = 0) := by omega
 have hlt : ∀ (c : Nat) (o : _), w.heap[c]? = some o → c < w.heap.size := fun c o h => by
  rcases Nat.lt_or_ge c w.heap.size with h' | h'
  ·exact h'
  ·rw [Array.getElem?_eq_none h'] at h; cases h
 have hbw := hlt _ _ hb
 have hvw := hlt _ _ hvb
 have hik : i + (len + 1 - i) = len + 1 := by omega
 have hot : (old.take (i * 3)).length = i * 3 := by rw [List.length_take]; omega
 have hod : (old.drop (i * 3)).length = (len - i) * 3 := by rw [List.length_drop, ol]; omega
 have hold' : (Builtin.firstCells Cs.size i (.slice (some ⟨b, 0, none⟩) i cap)).run Tryz.prog w.drew = .ok (old.take (i * 3)).toArray w.drew := by
  rw [BM]
  exact run_firstCells_some w.drew 3 i ⟨b, 0, none⟩ i cap (old.take (i * 3)) hot (fun j v hj => by
   rw [← hold, List.take_take, Nat.min_eq_left (by omega)] at hj
   rw [Addr.add_lit]
   show w.cell? _ = _
   simp only [World.cell?, hb, Nat.zero_add]
   exact BY hj)
 have hrz : Hid (∀ ty, (Builtin.append_ #[30, 3] ty #[.slice (some ⟨b, 0, none⟩) i cap, .int .i64 ((len : Int) + 1 - (i : Int))]).run Tryz.prog w = .ok (.slice (some ⟨w.heap.size, 0, none⟩) (len + 1) (grownCap w (len + 1) cap 57)) (w.drew.alloc (.cells ((old.take (i * 3)).toArray ++ Builtin.zeroCells (Value.cells (.agg #[.string ⟨#[]⟩, .string ⟨#[]⟩, .slice none 0 0])) (len + 1 - i) ++ Builtin.zeroCells (Value.cells (.agg #[.string ⟨#[]⟩, .string ⟨#[]⟩, .slice none 0 0])) (grownCap w (len + 1) cap 57 - (len + 1))) 57))) := fun ty => by
  have h := Lib.run_append_grow_zeros w 30 3 ty 57 Cs _ .i64 .i64 tS t3 C5 Iq (some ⟨b, 0, none⟩) i cap (old.take (i * 3)) hold' (len + 1 - i) (by omega) (by rw [BM]; omega) (by omega) (by omega) (by rw [FI]; omega) (by rw [FI, hik]; exact growslice_fits hroom (by omega))
  rw [hik] at h
  rw [show (len : Int) + 1 - (i : Int) = ((len + 1 - i : Nat) : Int) by omega]
  exact h
 obtain ⟨G, hG⟩ : ∃ G, G = grownCap w (len + 1) cap 57 := ⟨_, rfl⟩
 have hGn : len + 1 ≤ G := by rw [hG]; exact grownCap_ge w _ _ _
 have hGm : G ≤ maxLen := by rw [hG]; exact grownCap_le_maxLen w (len + 1) cap 57 (by unfold maxLen; omega)
 rw [← hG] at hrz
 obtain ⟨row, hrow⟩ : ∃ row, row = (old.take (i * 3)).toArray ++ Builtin.zeroCells (Value.cells (.agg #[.string ⟨#[]⟩, .string ⟨#[]⟩, .slice none 0 0])) (len + 1 - i) ++ Builtin.zeroCells (Value.cells (.agg #[.string ⟨#[]⟩, .string ⟨#[]⟩, .slice none 0 0])) (G - (len + 1)) := ⟨_, rfl⟩
 rw [← hrow] at hrz
 have hrs : row.size = G * 3 := by
  rw [hrow, Array.size_append, Array.size_append, List.size_toArray, hot, N5, N5]
  show i * 3 + (len + 1 - i) * 3 + (G - (len + 1)) * 3 = G * 3
  omega
 have hrl : row.toList.length = G * 3 := by simp [hrs]
 have hrt : row.toList.take (i * 3) = old.take (i * 3) := by
  rw [hrow, Array.toList_append, Array.toList_append, List.toList_toArray, List.append_assoc, List.take_append_of_le_length (by omega), List.take_of_length_le (by omega)]
 clear hrow
 obtain ⟨W0, XY⟩ : ∃ W0, W0 = w.drew.alloc (.cells row 57) := ⟨_, rfl⟩
 rw [← XY] at hrz
 have hs0 : W0.heap.size = w.heap.size + 1 := by rw [XY]; show (w.heap.push _).size = _; rw [Array.size_push]
 have hn0 : W0.heap[w.heap.size]? = some (.cells row 57 (0, 0)) := by
  rw [XY]; show (w.heap.push _)[w.heap.size]? = _
  rw [Array.getElem?_push_size]
 have hp0 : ∀ c, c < w.heap.size → W0.heap[c]? = w.heap[c]? := fun c hc => by
  rw [XY]; show (w.heap.push _)[c]? = _
  rw [Array.getElem?_push_lt hc]
  simp [hc]
 obtain ⟨L1, hL1⟩ : ∃ L1, L1 = Go.V.splice row.toList (i * 3) vs := ⟨_, rfl⟩
 have hl1 : L1.length = G * 3 := by rw [hL1, B3 (by omega), hrl]
 obtain ⟨W1, hW1⟩ : ∃ W1, W1 = W0.setRow w.heap.size L1.toArray := ⟨_, rfl⟩
 have hn1 : W1.heap[w.heap.size]? = some (.cells L1.toArray 57 (0, 0)) := by rw [hW1]; exact setRow_heap W0 _ _ _ _ _ hn0
 have hp1 : ∀ c, c < w.heap.size → W1.heap[c]? = w.heap[c]? := fun c hc => by rw [hW1, setRow_other W0 _ c _ (by omega)]; exact hp0 c hc
 have hcpA : Hid (∀ ty dc, (Builtin.copy_ #[30, 30] ty #[.slice (some ⟨w.heap.size, i * 3, none⟩) (len + 1 - i) dc, .slice (some ⟨vb, 0, none⟩) 1 vcap]).run Tryz.prog W0 = .ok (goInt (Nat.min 1 (len + 1 - i))) W1) := fun ty dc => by
  have := FO W0 30 ty 57 Cs tS C5 w.heap.size (i * 3) (len + 1 - i) dc row _ hn0 ⟨vb, 0, none⟩ 1 vcap vs (by rw [BM, vl, show Nat.min 1 (len + 1 - i) = 1 by simp only [Nat.min_def]; split <;> omega]) (fun j u hj => by
   rw [Addr.add_lit]
   simp only [World.cell?, hp0 vb hvw, hvb, Nat.zero_add]
   rw [← hvt] at hj
   exact BY hj) v1 (by omega)
  rw [hW1, hL1]; exact this
 obtain ⟨L2, hL2⟩ : ∃ L2, L2 = Go.V.splice L1 ((i + 1) * 3) (old.drop (i * 3)) := ⟨_, rfl⟩
 have hl2 : L2.length = G * 3 := by rw [hL2, B3 (by omega), hl1]
 obtain ⟨W2, hW2⟩ : ∃ W2, W2 = W1.drew.setRow w.heap.size L2.toArray := ⟨_, rfl⟩
 have hcpB : Hid (∀ ty dc sc, (Builtin.copy_ #[30, 30] ty #[.slice (some ⟨w.heap.size, (i + 1) * 3, none⟩) (len - i) dc, .slice (some ⟨b, i * 3, none⟩) (len - i) sc]).run Tryz.prog W1.drew = .ok (goInt (Nat.min (len - i) (len - i))) W2) := fun ty dc sc => by
  have := FO W1.drew 30 ty 57 Cs tS C5 w.heap.size ((i + 1) * 3) (len - i) dc L1.toArray _ hn1 ⟨b, i * 3, none⟩ (len - i) sc (old.drop (i * 3)) (by rw [BM, hod, show Nat.min (len - i) (len - i) = len - i by simp only [Nat.min_def]; split <;> omega]) (fun j u hj => by
   rw [List.getElem?_drop, ← hold] at hj
   rw [Addr.add_lit]
   show W1.cell? _ = _
   simp only [World.cell?, hp1 b hbw, hb]
   exact BY hj) (fun u hu => o1 u (List.mem_of_mem_drop hu)) (by rw [List.size_toArray]; omega)
  rw [List.toList_toArray, ← hL2] at this
  rw [hW2]; exact this
 have hct : L2.toArray.toList.take ((len + 1) * 3) = old.take (i * 3) ++ (vs ++ old.drop (i * 3)) := by
  rw [List.toList_toArray, hL2, show (len + 1) * 3 = (i + 1) * 3 + (old.drop (i * 3)).length by omega, Dk (by omega), hL1, show (i + 1) * 3 = i * 3 + vs.length by omega, Dk (by omega), hrt, List.append_assoc]
 have X : Hid (C1 3 i len old vs (some b) w (.returned (.slice (some ⟨w.heap.size, 0, none⟩) (len + 1) G)) W2) :=
  ⟨w.heap.size, G, L2.toArray, 57, rfl, hGn, hGm, by rw [hW2]; exact setRow_heap W1.drew _ _ _ _ _ hn1, by rw [List.size_toArray, hl2], hct, by rw [hW2, hW1, XY]; rfl, by rw [hW2, hW1, XY]; rfl, by rw [hW2, hW1, XY]; rfl,
    by rw [hW2, hW1, XY]; simp [World.setRow], by rw [hW2, hW1, XY]; simp [World.setRow], .inr (Nat.le_refl _), fun c hc _ => by rw [hW2, setRow_other W1.drew _ c _ (by omega)]; exact hp1 c hc⟩
 have hz2 : ¬ ((i : Int) = (len : Int)) := by omega
 have hz3 : (cap : Int) < (len : Int) + 1 := by omega
 have hw1 : IntKind.i64.wrap ((i : Int) + 1) = (i : Int) + 1 := by rw [IntKind.wrap_i64]; omega
 have hw2 : IntKind.i64.wrap ((len : Int) + 1) = (len : Int) + 1 := by rw [IntKind.wrap_i64]; omega
 have hw3 : IntKind.i64.wrap ((len : Int) + 1 - (i : Int)) = (len : Int) + 1 - (i : Int) := by rw [IntKind.wrap_i64]; omega
 have hGi : ¬ (G = i) := by omega
 have hGim : ¬ (G = i + 1) := by omega
 have hci : ¬ (cap = i) := by omega
 have hb1 : (0 : Int) ≤ (i : Int) + 1 := by omega
 have hin : i ≤ len := by omega
 have htn : ((i : Int) + 1).toNat = i + 1 := by omega
 have hb3 : (i : Int) ≤ (len : Int) := by omega
 have hb4 : (i : Int) ≤ (len : Int) + 1 := by omega
 clear hct hl2 hL2 hW2 hL1 hl1 hW1 XY hn1 hp1 hn0 hp0 hs0 hrt hrl hrs hG hold' hod hot hb hvb hvs hvt hold ol o1 v1 vl hlt hik
 go_enter Ji, S7
 go_wp2_with (first
  | (at_builtin; refine Lib.wpList_append_run _ rfl _ _ _ _ rfl _ _ rfl rfl _ _ (hrz.out _) ?_)
  | (refine Gk rfl _ _ 30 rfl _ _ rfl rfl (hcpA.out _ _) ?_))
 have hb1 : (0 : Int) ≤ (i : Int) + 1 := by omega
 have hb3 : (i : Int) ≤ (len : Int) := by omega
 have htn : ((i : Int) + 1).toNat = i + 1 := by omega
 go_region_law_o (refine Hu rfl (.tmp 50) (.tmp 53) 30 rfl (.slice (some ⟨w.heap.size, (i + 1) * 3, none⟩) (len - i) (G - (i + 1))) (.slice (some ⟨b, i * 3, none⟩) (len - i) (cap - i)) (by simp [Act.eval, Act.put]) (by simp [Act.eval, Act.put]) (hcpB.out _ _ _) ?_)
 go_wp2
 go_ret
 exact X.out
theorem qo : VF Tryz.prog 132 3 := by
 refine ⟨fun w vb vcap vs H => Kl w none 0 0 [] vb vcap vs none H (by omega) (fun _ => ⟨rfl, rfl⟩) (fun a h => by cases h), fun w b len cap i cur et old vb vcap vs hb hs hold hne hi H => ?_⟩
 rcases Nat.lt_or_ge i len with h | h
 ·rcases Nat.lt_or_ge cap (len + 1) with h2 | h2
  ·exact O7 w b len cap i cur et old vb vcap vs hb hold H h2 h
  ·exact NP w b len cap i cur et old vb vcap vs hb hs hold hne H h2 h
 ·obtain rfl : i = len := by omega
  rcases Nat.lt_or_ge cap (i + 1) with h2 | h2
  ·exact Kl w (some ⟨b, 0, none⟩) i cap old vb vcap vs (some b) H h2 (fun h => by cases h) (fun a ha j v hj => by
     cases ha
     rw [← hold] at hj
     rw [Addr.add_lit]
     simp only [World.cell?, hb, Nat.zero_add]
     exact BY hj)
  ·exact O8 w b i cap cur et old vb vcap vs hb hs hold hne H h2
theorem vP (a : Ad) (w : World) (v : List Value) (F : List Nat) (h : Bd w [.v (.string a.user), .v (.string a.domain), .sl 0 []] v F) : Bd w (A5 ⟨a, []⟩) v F := by
 cases h with
 | cons _ _ _ _ _ _ h1 h =>
 cases h with
 | cons _ _ _ _ _ _ h2 h =>
 cases h with
 | cons _ _ _ _ _ _ h3 h =>
 cases h with
 | nil =>
 cases h3 with
 | sl _ _ _ _ _ _ _ _ _ _ _ _ _ _ _ _ _ h0 => exact absurd rfl h0
 | nil => exact .cons _ _ _ _ _ _ h1 (.cons _ _ _ _ _ _ h2 (.cons _ _ _ _ _ _ (.nil 3) .nil))
def iX : AV → Option Ad
 | .o true 3 [[.v (.string u), .v (.string d), .sl 0 []]] => some ⟨u, d⟩
 | _ => none
def tB : AD Ad where
 enc a := .o true 3 [[.v (.string a.user), .v (.string a.domain), .sl 0 []]]
 dec := iX
 ed := fun a => rfl
 de := fun x a h => by
  unfold iX at h
  split at h <;> cases h
  rfl
theorem U2 (u d : ByteArray) : tB.dec (.o true 3 [[.v (.string u), .v (.string d), .sl 0 []]]) = some ⟨u, d⟩ := rfl
def Hb (xs : List Bx) (i : Nat) (a : Ad) : List Bx := xs.take i ++ ([⟨a, []⟩] ++ xs.drop i)
def l4 : Mt := GW (lc (JU.aow true 3) (lc BA (lc tB l0))) (fun p => 0 ≤ p.2.1 ∧ p.2.1 ≤ p.1.length ∧ p.1.length ≤ 4000000) (fun p => ([.any, .t (.v (.int .i64 p.2.1)), .any], .o true 3 ((Hb p.1 p.2.1.toNat p.2.2.1).map A5)))
theorem dH {G : Gt} (hG : Ai G) : Gd G 132 (AM l4) := H5.ofM (by kernel_rfl) fun ⟨xs, i, v, _⟩ h => by
 obtain ⟨h0, h1, h2⟩ := h
 dsimp only at h0 h1 h2 ⊢
 obtain ⟨a, rfl⟩ := Int.eq_ofNat_of_zero_le h0
 have := bp (m := G.m) qo (xs.map A5) _ (A5 ⟨v, []⟩) (vP v) rfl a (by rw [lm]; omega) (by rw [lm]; omega)
 rw [← List.map_take, ← List.map_drop, ← List.map_cons, ← List.map_append] at this
 exact this
end Go.V
namespace Go.V
open Go Go.Proofs
set_option maxRecDepth 100000
set_option linter.unusedSimpArgs false
set_option linter.unusedVariables false
def kS (bs : List Bx) (a : Ad) : Nat := (bs.takeWhile fun b => decide (ID b.addr a < 0)).length
def VH (bs : List Bx) (a : Ad) : Prop := ∀ j, kS bs a ≤ j → j < bs.length → ¬ ID (bs.getD j default).addr a < 0
theorem Is (a : Ad) : ∀ (bs : List Bx), kS bs a ≤ bs.length
 | [] => by simp [kS]
 | b :: t => by
   have := Is a t
   unfold kS at this ⊢
   rw [List.takeWhile_cons]
   split
   ·simpa using this
   ·try simp
theorem Si (a : Ad) : ∀ (bs : List Bx) {j : Nat}, j < kS bs a → ID (bs.getD j default).addr a < 0
 | [], j, h => by simp [kS] at h
 | b :: t, j, h => by
   unfold kS at h
   rw [List.takeWhile_cons] at h
   split at h
   ·rename_i hb
    cases j with
    | zero => simpa using hb
    | succ j =>
      have := Si a t (j := j) (by unfold kS; simpa using h)
      simpa using this
   ·simp at h
theorem Sh (a : Ad) : ∀ (bs : List Bx), kS bs a < bs.length → ¬ ID (bs.getD (kS bs a) default).addr a < 0
 | [], h => by simp at h
 | b :: t, h => by
   by_cases hb : ID b.addr a < 0
   ·have e : kS (b :: t) a = kS t a + 1 := by unfold kS; rw [List.takeWhile_cons, if_pos (decide_eq_true hb), List.length_cons]
    rw [e] at h ⊢
    have := Sh a t (by simpa using h)
    simpa using this
   ·have e : kS (b :: t) a = 0 := by unfold kS; rw [List.takeWhile_cons, if_neg (by simpa using hb)]; rfl
    rw [e]
    simpa using hb
def Dv (bs : List Bx) (a : Ad) : Bool := decide (kS bs a < bs.length) && decide (ID (bs.getD (kS bs a) default).addr a = 0)
def wy (p : Int × Bool) : AV := .tup [.t (.v (.int .i64 p.1)), .t (.v (.bool p.2))]
theorem Ui (p : Int × Bool) : BT (wy p) := .tup _ fun c hc => by
 simp only [List.mem_cons, List.not_mem_nil, or_false] at hc
 rcases hc with rfl | rfl
 ·exact .v _
 ·exact .v _
def l3 : Ct := Aq (lc JU.ag (lc DH.ag l0)) (fun p => True) (fun p => .t (.v (.int .i64 (ID p.1.addr p.2.1))))
section
attribute [local go_sem] tp
theorem dG {G : Gt} (hG : Ai G) (hh : G.e 50 = AA 0 tp) : Gd G 131 (AA 0 l3) := by
 refine gr (fn := Tryz.f131) (n := 2) rfl hG ?_
 rintro ⟨b, a, ⟨⟩⟩ hpre
 simp -implicitDefEqProofs only [Tryz.f131, go_sem, hh, seval] at hpre ⊢
 with_reducible repeat' (first | apply ai | intro _ | ((first | apply s1 | apply s3 | apply s4) <;> intro hb <;> simp -implicitDefEqProofs only [hb, go_sem, hh, seval] <;> try simp only [qz] at hb))
 all_goals first | rfl | omega | skip
end
def lz : Ct := Aq (lc JU.asl (lc DH.ag (lc (kJ 131) l0))) (fun p => VH p.1 p.2.1 ∧ p.1.length ≤ 4000000) (fun p => wy (kS p.1 p.2.1, Dv p.1 p.2.1))
section
attribute [local go_sem] l3 An Ao wy.eq_1 lm
set_option maxHeartbeats 1600000 in
theorem dF {G : Gt} (hG : Ai G) (hh : G.e 131 = AA 0 l3) : Gd G 130 (AA 0 lz) := by
 refine gr (fn := Tryz.f130) (n := 3) rfl hG ?_ (hs := fun _ p => Ui _)
 rintro ⟨xs, a, u, ⟨⟩⟩ hpre
 obtain ⟨hpt, hlen⟩ := hpre
 dsimp only at hpt hlen ⊢
 have hkl := Is a xs
 simp -implicitDefEqProofs only [Tryz.f130, go_sem, hh, seval]
 with_reducible repeat' (first | apply ai | intro _ | ((first | apply s1 | apply s3 | apply s4) <;> intro hb <;> simp -implicitDefEqProofs only [hb, go_sem, hh, seval] <;> try simp only [qz] at hb))
 all_goals first | rfl | omega | skip
 refine AF [] (ι := {p : Nat × Nat // p.1 ≤ kS xs a ∧ kS xs a ≤ p.2 ∧ p.2 ≤ xs.length}) (fun p => ⟨[(0, .t (.sl 3 (xs.map A5))), (2, .t (.fn 131 [])), (4, .pb 1004 0), (8, .t (.v (.int .i64 xs.length))), (9, .t (.v (.int .i64 p.1.1))), (10, .t (.v (.int .i64 p.1.2)))], [(1004, some (.box [.t (.v (.string a.user)), .t (.v (.string a.domain))]))]⟩) (fun p => p.1.2 - p.1.1) ⟨(0, xs.length), Nat.zero_le _, hkl, Nat.le_refl _⟩ rfl ?_ ?_
 ·simp -implicitDefEqProofs only [go_sem, hh, seval]
  try simp
 ·rintro ⟨⟨i, j⟩, hi, hj, hn⟩
  dsimp only at hi hj hn ⊢
  by_cases hlt : (i : Int) < (j : Int)
  ·obtain ⟨m, hm⟩ : ∃ m, m = (i + j) / 2 := ⟨_, rfl⟩
   have hmi : i ≤ m := by omega
   have hmj : m < j := by omega
   have he2 : ((i : Int) + (j : Int)) / 2 = (m : Int) := by omega
   have he : ((i : Int) + (j : Int)) / 2 ^ Int.toNat 1 = (m : Int) := by
    rw [show (2 : Int) ^ Int.toNat 1 = 2 from rfl]
    omega
   have hp0 : (0 : Int) ≤ (i : Int) + (j : Int) := by omega
   by_cases hb : ID (xs.getD m default).addr a < 0
   ·have hkm : m < kS xs a := Classical.byContradiction fun z => hpt m (by omega) (by omega) hb
    simp -implicitDefEqProofs only [hlt, hb, he, he2, decide_true, tn, go_sem, hh, seval]
    with_reducible repeat' (first | apply ai | intro _ | ((first | apply s1 | apply s3 | apply s4) <;> intro hb <;> simp -implicitDefEqProofs only [hb, go_sem, hh, seval] <;> try simp only [qz] at hb))
    all_goals (try simp only [maxLen] at *)
    all_goals first | rfl | omega | contradiction | skip
    refine ⟨⟨(m + 1, j), by dsimp only; omega⟩, by dsimp only; omega, ?_⟩
    simp -implicitDefEqProofs only [go_sem, hh, seval]
    try simp
   ·have hkm : kS xs a ≤ m := Classical.byContradiction fun z => hb (Si a xs (by omega))
    simp -implicitDefEqProofs only [hlt, hb, he, he2, decide_true, decide_false, tn, go_sem, hh, seval]
    with_reducible repeat' (first | apply ai | intro _ | ((first | apply s1 | apply s3 | apply s4) <;> intro hb <;> simp -implicitDefEqProofs only [hb, go_sem, hh, seval] <;> try simp only [qz] at hb))
    all_goals (try simp only [maxLen] at *)
    all_goals first | rfl | omega | contradiction | skip
    refine ⟨⟨(i, m), by dsimp only; omega⟩, by dsimp only; omega, ?_⟩
    simp -implicitDefEqProofs only [go_sem, hh, seval]
    try simp
  ·obtain rfl : j = i := by omega
   obtain rfl : j = kS xs a := by omega
   by_cases hl : ((kS xs a : Nat) : Int) < (xs.length : Int)
   ·have hf : Dv xs a = decide (ID (xs.getD (kS xs a) default).addr a = 0) := by
      unfold Dv
      rw [decide_eq_true (show kS xs a < xs.length by omega)]; rfl
    rw [hf]
    simp -implicitDefEqProofs only [hlt, hl, decide_true, decide_false, tn, go_sem, hh, seval]
    with_reducible repeat' (first | apply ai | intro _ | ((first | apply s1 | apply s3 | apply s4) <;> intro hb <;> simp -implicitDefEqProofs only [hb, go_sem, hh, seval] <;> try simp only [qz] at hb))
    all_goals (try simp only [maxLen] at *)
    all_goals first | rfl | omega | contradiction | skip
   ·have hf : Dv xs a = false := by
      unfold Dv
      rw [decide_eq_false (show ¬ kS xs a < xs.length by omega)]; rfl
    rw [hf]
    simp -implicitDefEqProofs only [hlt, hl, decide_true, decide_false, tn, go_sem, hh, seval]
    with_reducible repeat' (first | apply ai | intro _ | ((first | apply s1 | apply s3 | apply s4) <;> intro hb <;> simp -implicitDefEqProofs only [hb, go_sem, hh, seval] <;> try simp only [qz] at hb))
    all_goals (try simp only [maxLen] at *)
    all_goals first | rfl | omega | contradiction | skip
end
def V4 : AV → List AV
 | .agg cs => cs
 | _ => []
def jt : AV → Option Hs
 | .ob cs => Yh (.agg cs)
 | _ => none
def ZZ : AD Hs where
 enc a := .ob (V4 (Nm a))
 dec := jt
 ed := fun a => zP.ed a
 de := fun x a h => by
  unfold jt at h
  split at h
  ·rename_i cs
   have h1 : AV.agg cs = Nm a := zP.de _ _ h
   show AV.ob cs = .ob (V4 (Nm a))
   rw [← h1]; rfl
  ·cases h
theorem OG (a : Hs) : ZZ.enc a = .ob [.t (.v (.string a.conf.name)), .o true 1 (a.conf.own.map AH), .o true 2 (a.conf.ways.map Bh), .t (.v (.int .i64 a.spool.last)), .o true 5 (a.spool.items.map Ag), .o true 3 (a.boxes.map A5), .o true 3 (a.lost.map Ax)] := rfl
theorem OF {x0 : ByteArray} {x1 : List (List T)} {x2 : List (List T)} {x3 : Int} {x4 : List (List T)} {x5 : List (List T)} {x6 : List (List T)} : ZZ.dec (.ob [.t (.v (.string x0)), .o true 1 x1, .o true 2 x2, .t (.v (.int .i64 x3)), .o true 5 x4, .o true 3 x5, .o true 3 x6]) = NW x0 x3 (Ah.decL x1) (HG.decL x2) (Ey.decL x4) (JU.decL x5) (Fb.decL x6) := rfl
theorem Vm (a b : Ad) : ID a b = 0 ↔ a = b := by
 unfold ID
 obtain ⟨u, d⟩ := a
 obtain ⟨v, e⟩ := b
 by_cases h : Eg d e = 0
 ·rw [if_pos h, Gx]
  have := (Gx _ _).1 h
  exact ⟨fun q => by have q : u = v := q; rw [q, this], fun q => by injection q⟩
 ·rw [if_neg h]
  exact ⟨fun q => absurd q h, fun q => by injection q with _ q; exact absurd ((Gx _ _).2 q) h⟩
def Dq (bs : List Bx) (a : Ad) (g : Gm) : List Bx :=
 if Dv bs a = true then bs.set (kS bs a) ⟨(bs.getD (kS bs a) default).addr, (bs.getD (kS bs a) default).mails ++ [g]⟩
 else bs.take (kS bs a) ++ (⟨a, [g]⟩ :: bs.drop (kS bs a))
theorem FF {bs : List Bx} {a : Ad} {g : Gm} (h : Dv bs a = true) : Dq bs a g = bs.set (kS bs a) ⟨(bs.getD (kS bs a) default).addr, (bs.getD (kS bs a) default).mails ++ [g]⟩ := if_pos h
theorem EF {bs : List Bx} {a : Ad} {g : Gm} (h : Dv bs a = false) : Dq bs a g = bs.take (kS bs a) ++ (⟨a, [g]⟩ :: bs.drop (kS bs a)) := if_neg (by rw [h]; decide)
theorem HZ {bs : List Bx} {a : Ad} (h : Dv bs a = true) : kS bs a < bs.length := by
 unfold Dv at h
 simp only [Bool.and_eq_true, decide_eq_true_eq] at h
 exact h.1
theorem QV {bs : List Bx} {k : Nat} {u d : ByteArray} {ms : List Gm} {g : Gm} : (bs.map A5).set k [.v (.string u), .v (.string d), .sl 3 (ms.map CF ++ [[.v (.string g.frm.user), .v (.string g.frm.domain), .sl 1 (g.body.map AH)]])] = (bs.set k ⟨⟨u, d⟩, ms ++ [g]⟩).map A5 := by
 have h : A5 ⟨⟨u, d⟩, ms ++ [g]⟩ = [.v (.string u), .v (.string d), .sl 3 (ms.map CF ++ [[.v (.string g.frm.user), .v (.string g.frm.domain), .sl 1 (g.body.map AH)]])] := by
  show [_, _, T.sl 3 ((ms ++ [g]).map CF)] = _
  rw [List.map_append]; rfl
 rw [← h, List.map_set]
theorem SK {bs : List Bx} {k : Nat} {u d : ByteArray} {g : Gm} : (bs.map A5).set k [.v (.string u), .v (.string d), .sl 3 [[.v (.string g.frm.user), .v (.string g.frm.domain), .sl 1 (g.body.map AH)]]] = (bs.set k ⟨⟨u, d⟩, [g]⟩).map A5 := QV (ms := [])
def QS (bs : List Bx) (a : Ad) : List Bx := Hb bs (kS bs a) a
theorem Vi (bs : List Bx) (a : Ad) : (QS bs a).length = bs.length + 1 := by
 have := Is a bs
 unfold QS Hb
 simp only [List.length_append, List.length_take, List.length_drop, List.length_cons, List.length_nil]; omega
theorem bR (bs : List Bx) (a : Ad) : (QS bs a).getD (kS bs a) default = ⟨a, []⟩ := by
 have := Is a bs
 unfold QS Hb
 rw [List.getD_eq_getElem?_getD, List.getElem?_append_right (by rw [List.length_take]; omega), List.length_take, Nat.min_eq_left this, Nat.sub_self]
 rfl
theorem Vj (bs : List Bx) (a : Ad) (y : Bx) : (QS bs a).set (kS bs a) y = bs.take (kS bs a) ++ (y :: bs.drop (kS bs a)) := by
 have := Is a bs
 unfold QS Hb
 rw [List.set_append_right _ _ (by rw [List.length_take]; omega), List.length_take, Nat.min_eq_left this, Nat.sub_self]
 rfl
def xk : Mt := GW (lc ZZ (lc DH.ag (lc w4 l0))) (fun p => VH p.1.boxes p.2.1 ∧ p.1.boxes.length ≤ 3000000 ∧ ∀ b ∈ p.1.boxes, b.mails.length ≤ 3000000) (fun p => ([ZZ.enc ⟨p.1.conf, p.1.spool, Dq p.1.boxes p.2.1 p.2.2.1, p.1.lost⟩, DH.ag.enc p.2.1, .agg [.t (.v (.string p.2.2.1.frm.user)), .t (.v (.string p.2.2.1.frm.domain)), .any]], .tup []))
section
attribute [local go_sem] lz l4 OG OF An Ao wy.eq_1 U2 M5 KP A7 lm List.length_append List.length_cons List.length_nil List.map_append List.map_nil Nat.zero_add List.nil_append AS.opn AS.cls AS.nilb AS.renb AS.up Bool.not_false Bool.not_true List.set_set List.set_cons_zero List.set_cons_succ List.set_nil List.mem_singleton forall_eq
set_option maxHeartbeats 3200000 in
theorem qA {G : Gt} (hG : Ai G) (hh : G.e 130 = AA 0 lz ∧ G.e 132 = AM l4) : Gd G 67 (AM xk) := by
 refine JF (dp := fun n => !(Nat.beq n 100004)) (fn := Tryz.f67) (n := 3) rfl hG ?_
 rintro ⟨h, a, g, ⟨⟩⟩ hpre
 obtain ⟨hpt, hl1, hl2⟩ := hpre
 dsimp only at hpt hl1 hl2 ⊢
 have hkl := Is a h.boxes
 obtain ⟨k, hk⟩ : ∃ k, k = kS h.boxes a := ⟨_, rfl⟩
 cases hf : Dv h.boxes a
 ·have hk2 : k < (Hb h.boxes k a).length := by have := Vi h.boxes a; unfold QS at this; rw [← hk] at this; omega
  have hat : (Hb h.boxes k a).getD k default = ⟨a, []⟩ := by rw [hk]; exact bR h.boxes a
  have Ar : ∀ y, (Hb h.boxes k a).set k y = h.boxes.take k ++ (y :: h.boxes.drop k) := fun y => by rw [hk]; exact Vj h.boxes a y
  have hk3 : k < ((Hb h.boxes k a).map A5).length := by rw [lm]; exact hk2
  rw [EF hf, ← hk, ← Ar]
  simp -implicitDefEqProofs only [Tryz.f67, hf, ← hk, tn, go_sem, hh, seval]
  with_reducible repeat' (first | apply ai | intro _ | ((first | apply s1 | apply s3 | apply s4) <;> intro hb <;> simp -implicitDefEqProofs only [hb, go_sem, hh, seval] <;> try simp only [qz] at hb))
  all_goals (try simp only [maxLen] at *)
  all_goals first | with_reducible assumption | rfl | omega | contradiction | decide | skip
  refine F4 1028 1901 2901 k 2 rfl (Jm A5 hk2) rfl rfl fun x => AR ?_
  simp -implicitDefEqProofs only [Ea hk3, Eb hk3, hat, tn, go_sem, hh, seval]
  with_reducible repeat' (first | apply ai | intro _ | ((first | apply s1 | apply s3 | apply s4) <;> intro hb <;> simp -implicitDefEqProofs only [hb, go_sem, hh, seval] <;> try simp only [qz] at hb))
  all_goals (try simp only [maxLen] at *)
  all_goals first | with_reducible assumption | rfl | omega | contradiction | decide | (simp; omega) | exact QV | exact SK | skip
 ·have hlt := HZ hf
  rw [← hk] at hlt
  have hk3 : k < (h.boxes.map A5).length := by rw [lm]; exact hlt
  have hml := hl2 _ (AE hlt)
  rw [FF hf, ← hk]
  simp -implicitDefEqProofs only [Tryz.f67, hf, ← hk, tn, go_sem, hh, seval]
  with_reducible repeat' (first | apply ai | intro _ | ((first | apply s1 | apply s3 | apply s4) <;> intro hb <;> simp -implicitDefEqProofs only [hb, go_sem, hh, seval] <;> try simp only [qz] at hb))
  all_goals (try simp only [maxLen] at *)
  all_goals first | with_reducible assumption | rfl | omega | contradiction | decide | skip
  refine F4 5900 1901 2901 k 2 rfl (Jm A5 hlt) rfl rfl fun x => AR ?_
  simp -implicitDefEqProofs only [Ea hk3, Eb hk3, tn, go_sem, hh, seval]
  with_reducible repeat' (first | apply ai | intro _ | ((first | apply s1 | apply s3 | apply s4) <;> intro hb <;> simp -implicitDefEqProofs only [hb, go_sem, hh, seval] <;> try simp only [qz] at hb))
  all_goals (try simp only [maxLen] at *)
  all_goals first | with_reducible assumption | rfl | omega | contradiction | decide | (simp; omega) | exact QV | exact SK | skip
end
def CQ (s : Sp) (n : Int) (a : Ad) : Prop := ¬ At s n < 0 ∧ ¬ BR (Aa s n) a < 0
theorem HM {s : Sp} {n : Int} {a : Ad} (q : CQ s n a) : ∃ x ∈ s.items, x.id = n ∧ ∃ r ∈ x.to, r.addr = a := by
 have h1 := Bf q.1
 have h2 := ED q.2
 exact ⟨Aa s n, AE (by omega), FB q.1, _, AE (by omega), Ec q.2⟩
theorem Sf : ∀ {xs : List Im}, (xs.map Im.id).Pairwise (· < ·) → ∀ {x y : Im}, x ∈ xs → y ∈ xs → x.id = y.id → x = y
 | z :: t, h, x, y, hx, hy, e => by
   rw [List.map_cons, List.pairwise_cons] at h
   rcases List.mem_cons.1 hx with q | q
   ·rcases List.mem_cons.1 hy with r | r
    ·rw [q, r]
    ·have := h.1 _ (List.mem_map_of_mem (f := Im.id) r); rw [q] at e; omega
   ·rcases List.mem_cons.1 hy with r | r
    ·have := h.1 _ (List.mem_map_of_mem (f := Im.id) q); rw [r] at e; omega
    ·exact Sf h.2 q r e
theorem Ez {s : Sp} (h : Bk s) {x : Im} (hx : x ∈ s.items) {r : Rc} (hr : r ∈ x.to) : CQ s x.id r.addr ∧ Aa s x.id = x := by
 have h1 : ¬ At s x.id < 0 := by
  have : 0 ≤ At s x.id := (FJ s.items 0).2 ⟨x, hx, rfl⟩
  omega
 have h2 := Bf h1
 have h3 : Aa s x.id = x := Sf (CR.1 h.2.1) (AE (by omega)) hx (FB h1)
 refine ⟨⟨h1, ?_⟩, h3⟩
 rw [h3]
 have : 0 ≤ BR x r.addr := (FJ x.to 0).2 ⟨r, hr, rfl⟩
 omega
theorem Rw {s : Sp} {n n' : Int} {a a' : Ad} (h : Bk s) (q : CQ s n a) (q' : CQ s n' a') (ne : ¬ (n = n' ∧ a = a')) : CQ (Cj s (At s n).toNat (BR (Aa s n) a).toNat) n' a' := by
 obtain ⟨x, hx, e1, r, hr, e2⟩ := HM q'
 have i1 := Bf q.1
 have k1 := ED q.2
 have ei := FB q.1
 have ek := Ec q.2
 obtain ⟨i, hi⟩ : ∃ i, i = (At s n).toNat := ⟨_, rfl⟩
 obtain ⟨k, hk⟩ : ∃ k, k = (BR (Aa s n) a).toNat := ⟨_, rfl⟩
 have hX : s.items.getD i default = Aa s n := by rw [hi]; rfl
 have hil : i < s.items.length := by omega
 have hkl : k < (s.items.getD i default).to.length := by rw [hX]; omega
 rw [← hi, ← hk]
 rw [← hk] at ek
 have hok := Eh h hil hkl
 suffices hs : ∃ y ∈ (Cj s i k).items, y.id = n' ∧ ∃ r ∈ y.to, r.addr = a' by
  obtain ⟨y, hy, f1, r, hr, f2⟩ := hs
  rw [← f1, ← f2]
  exact (Ez hok hy hr).1
 show ∃ y ∈ MH s.items i k, y.id = n' ∧ ∃ r ∈ y.to, r.addr = a'
 have hx2 := hx
 rw [KY hil] at hx2
 have hout : x ∈ s.items.take i ++ s.items.drop (i + 1) → ∃ y ∈ MH s.items i k, y.id = n' ∧ ∃ r ∈ y.to, r.addr = a' := fun hm => by
  refine ⟨x, ?_, e1, r, hr, e2⟩
  unfold MH
  split
  ·exact hm
  ·rcases List.mem_append.1 hm with hm | hm
   ·exact List.mem_append_left _ hm
   ·exact List.mem_append_right _ (List.mem_cons_of_mem _ hm)
 rcases List.mem_append.1 hx2 with hm | hm
 ·exact hout (List.mem_append_left _ hm)
 ·rcases List.mem_cons.1 hm with hm | hm
  ·rw [hX] at hm
   subst hm
   have hr2 := hr
   rw [KY (xs := (Aa s n).to) (i := k) (by rw [← hX]; exact hkl)] at hr2
   have hin : r ∈ (Fp (Aa s n) k).to := by
    show r ∈ (Aa s n).to.take k ++ (Aa s n).to.drop (k + 1)
    rcases List.mem_append.1 hr2 with hm | hm
    ·exact List.mem_append_left _ hm
    ·rcases List.mem_cons.1 hm with hm | hm
     ·exact absurd ⟨ei.symm.trans e1, by rw [← e2, hm]; exact ek.symm⟩ ne
     ·exact List.mem_append_right _ hm
   refine ⟨Fp (Aa s n) k, ?_, e1, r, hin, e2⟩
   unfold MH
   rw [hX, if_neg (fun e => by rw [e] at hin; cases hin)]
   exact List.mem_append_right _ (by simp)
  ·exact hout (List.mem_append_right _ hm)
theorem Jf : ∀ a b : List UInt8, Lib.compareBytes b a = - Lib.compareBytes a b
 | [], [] => by simp [Lib.compareBytes]
 | [], _ :: _ => by simp [Lib.compareBytes]
 | _ :: _, [] => by simp [Lib.compareBytes]
 | a :: x, b :: y => by
   have ih := Jf x y
   simp only [Lib.compareBytes]
   by_cases h1 : a < b
   ·have h2 : ¬ b < a := fun h => absurd (UInt8.lt_trans h1 h) (UInt8.lt_irrefl _)
    simp [h1, h2]
   ·by_cases h2 : b < a
    ·simp [h1, h2]
    ·simp [h1, h2, ih]
theorem IJ : ∀ a b c : List UInt8, Lib.compareBytes a b < 0 → Lib.compareBytes b c < 0 → Lib.compareBytes a c < 0
 | [], b, [], h1, h2 => by
   have := Jf [] b
   rw [this] at h2; omega
 | [], _, _ :: _, _, _ => by simp [Lib.compareBytes]
 | _ :: _, [], _, h1, _ => by simp [Lib.compareBytes] at h1
 | _ :: _, _ :: _, [], _, h2 => by simp [Lib.compareBytes] at h2
 | a :: x, b :: y, c :: z, h1, h2 => by
   have ih := IJ x y z
   simp only [Lib.compareBytes] at h1 h2 ⊢
   by_cases e1 : a < b
   ·by_cases e2 : b < c
    ·rw [if_pos (UInt8.lt_trans e1 e2)]; decide
    ·rw [if_neg e2] at h2
     split at h2
     ·omega
     ·have : b = c := UInt8.le_antisymm (UInt8.not_lt.1 (by assumption)) (UInt8.not_lt.1 e2)
      rw [← this, if_pos e1]; decide
   ·rw [if_neg e1] at h1
    split at h1
    ·omega
    ·have e3 : a = b := UInt8.le_antisymm (UInt8.not_lt.1 (by assumption)) (UInt8.not_lt.1 e1)
     subst e3
     split
     ·decide
     ·rename_i q
      rw [if_neg q] at h2
      split at h2
      ·omega
      ·rename_i q2
       rw [if_neg q2]
       exact ih h1 h2
theorem bU (a b : Ad) : ID b a = - ID a b := by
 unfold ID Eg
 rw [Jf (bl a.domain) (bl b.domain), Jf (bl a.user) (bl b.user)]
 by_cases h : Lib.compareBytes (bl a.domain) (bl b.domain) = 0
 ·rw [if_pos h, if_pos (by omega)]
 ·rw [if_neg h, if_neg (by omega)]
theorem ME {a b c : Ad} (h1 : ID a b < 0) (h2 : ID b c < 0) : ID a c < 0 := by
 unfold ID at *
 by_cases e1 : Eg a.domain b.domain = 0
 ·have f1 := (Gx _ _).1 e1
  rw [if_pos e1] at h1
  rw [f1]
  by_cases e2 : Eg b.domain c.domain = 0
  ·rw [if_pos e2] at h2 ⊢
   exact IJ _ _ _ h1 h2
  ·rw [if_neg e2] at h2 ⊢
   exact h2
 ·rw [if_neg e1] at h1
  by_cases e2 : Eg b.domain c.domain = 0
  ·have f2 := (Gx _ _).1 e2
   rw [← f2, if_neg e1]
   exact h1
  ·rw [if_neg e2] at h2
   have h3 : Eg a.domain c.domain < 0 := IJ _ _ _ h1 h2
   rw [if_neg (by omega)]
   exact h3
def J4 (bs : List Bx) : Prop := bs.Pairwise fun b c => ID b.addr c.addr < 0
theorem J5 {bs : List Bx} (h : J4 bs) (a : Ad) : VH bs a := fun j h1 h2 hb => by
 have h3 : kS bs a < bs.length := by omega
 have h4 := Sh a bs h3
 by_cases e : j = kS bs a
 ·rw [e] at hb; exact h4 hb
 ·have h5 := List.pairwise_iff_getElem.1 h (kS bs a) j h3 h2 (by omega)
  have g1 : bs.getD (kS bs a) default = bs[kS bs a] := by simp [h3]
  have g2 : bs.getD j default = bs[j] := by simp [h2]
  rw [g1] at h4
  rw [g2] at hb
  exact h4 (ME h5 hb)
theorem KS {bs : List Bx} {a : Ad} {g : Gm} (h : J4 bs) : J4 (Dq bs a g) := by
 cases hf : Dv bs a
 ·rw [EF hf]
  have hp := J5 h a
  have hb : J4 (bs.take (kS bs a) ++ bs.drop (kS bs a)) := by rw [List.take_append_drop]; exact h
  obtain ⟨p1, p2, p3⟩ := List.pairwise_append.1 hb
  have lo : ∀ b ∈ bs.take (kS bs a), ID b.addr a < 0 := fun b hm => by
   obtain ⟨j, hj, rfl⟩ := List.getElem_of_mem hm
   rw [List.length_take] at hj
   have := Si a bs (j := j) (by omega)
   rw [List.getElem_take]
   simpa [show j < bs.length by omega] using this
  have hi : ∀ b ∈ bs.drop (kS bs a), ID a b.addr < 0 := fun b hm => by
   obtain ⟨j, hj, rfl⟩ := List.getElem_of_mem hm
   rw [List.length_drop] at hj
   have hk : kS bs a < bs.length := by omega
   have n1 := hp (kS bs a + j) (by omega) (by omega)
   have g2 : bs.getD (kS bs a + j) default = bs[kS bs a + j] := by simp [show kS bs a + j < bs.length by omega]
   rw [g2] at n1
   rw [List.getElem_drop]
   have n2 := bU a (bs[kS bs a + j]).addr
   by_cases z : ID (bs[kS bs a + j]).addr a = 0
   ·exfalso
    by_cases hj0 : j = 0
    ·subst hj0
     unfold Dv at hf
     simp only [Bool.and_eq_false_iff, decide_eq_false_iff_not] at hf
     rcases hf with hf | hf
     ·exact hf hk
     ·exact hf (by rw [← z]; simp [hk])
    ·have h5 := List.pairwise_iff_getElem.1 h (kS bs a) (kS bs a + j) hk (by omega) (by omega)
     have e := (Vm _ _).1 z
     rw [e] at h5
     have n3 := Sh a bs hk
     have g1 : bs.getD (kS bs a) default = bs[kS bs a] := by simp [hk]
     rw [g1] at n3
     exact n3 h5
   ·omega
  exact List.pairwise_append.2 ⟨p1, List.pairwise_cons.2 ⟨hi, p2⟩, fun b hb c hc => by
   rcases List.mem_cons.1 hc with rfl | hc
   ·exact lo b hb
   ·exact p3 b hb c hc⟩
 ·rw [FF hf]
  have hlt := HZ hf
  have h' : (bs.map Bx.addr).Pairwise fun x y => ID x y < 0 := List.pairwise_map.2 h
  have e : (bs.set (kS bs a) ⟨(bs.getD (kS bs a) default).addr, (bs.getD (kS bs a) default).mails ++ [g]⟩).map Bx.addr = bs.map Bx.addr := by
   rw [List.map_set]
   have : (⟨(bs.getD (kS bs a) default).addr, (bs.getD (kS bs a) default).mails ++ [g]⟩ : Bx).addr = (bs.map Bx.addr)[kS bs a]'(by rw [lm]; exact hlt) := by
    rw [List.getElem_map]
    show (bs.getD (kS bs a) default).addr = _
    simp [hlt]
   rw [this, List.set_getElem_self]
  exact List.pairwise_map.1 (e ▸ h')
theorem Oa {bs : List Bx} (h : ∀ j, 0 < j → j < bs.length → VS (bs.getD (j - 1) default).addr (bs.getD j default).addr) : J4 bs := by
 refine List.pairwise_iff_getElem.2 fun i j hi hj hij => ?_
 induction j with
 | zero => omega
 | succ j ih =>
   have h1 := (IE _ _).2 (h (j + 1) (by omega) hj)
   simp only [Nat.add_sub_cancel, List.getD_eq_getElem?_getD, List.getElem?_eq_getElem hj, List.getElem?_eq_getElem (show j < bs.length by omega), Option.getD_some] at h1
   by_cases e : i = j
   ·subst e; exact h1
   ·exact ME (ih (by omega) (by omega)) h1
theorem MC (bs : List Bx) (a : Ad) (g : Gm) : (Dq bs a g).length ≤ bs.length + 1 := by
 have := Is a bs
 cases hf : Dv bs a
 ·rw [EF hf]; simp only [List.length_append, List.length_take, List.length_cons, List.length_drop]; omega
 ·rw [FF hf, List.length_set]; omega
theorem Ij {bs : List Bx} {a : Ad} {g : Gm} {M : Nat} (h : ∀ b ∈ bs, b.mails.length ≤ M) : ∀ b ∈ Dq bs a g, b.mails.length ≤ M + 1 := fun b hb => by
 cases hf : Dv bs a
 ·rw [EF hf] at hb
  rcases List.mem_append.1 hb with hb | hb
  ·have := h b (List.mem_of_mem_take hb); omega
  ·rcases List.mem_cons.1 hb with hb | hb
   ·rw [hb]; show 1 ≤ M + 1; omega
   ·have := h b (List.mem_of_mem_drop hb); omega
 ·rw [FF hf] at hb
  rcases List.mem_or_eq_of_mem_set hb with hb | hb
  ·have := h b hb; omega
  ·rw [hb]
   have := h _ (AE (HZ hf))
   show (_ ++ [g]).length ≤ _
   rw [List.length_append, List.length_singleton]; omega
noncomputable def Ce (h : Hs) (x : Im) (a : Ad) : Hs := ⟨h.conf, (Fi h.spool x.id a).1, Dq h.boxes a ⟨x.frm, x.body⟩, h.lost⟩
noncomputable def Dy (x : Im) : List Ad → Hs → Hs
 | [], h => h
 | a :: r, h => Dy x r (Ce h x a)
noncomputable def BW (c : Cf) (w : Int) : List Im → Hs → Hs
 | [], h => h
 | x :: t, h => BW c w t (Dy x (Aj c ⟨#[]⟩ w x.to) h)
noncomputable def OC (c : Cf) (w : Int) (x : Im) (rs : List Rc) : List (Int × Ad) := (Aj c ⟨#[]⟩ w rs).map fun a => (x.id, a)
noncomputable def D8 (c : Cf) (w : Int) : List Im → List (Int × Ad)
 | [] => []
 | x :: t => OC c w x x.to ++ D8 c w t
structure Kp (c : Cf) (g : Hs) (R : List (Int × Ad)) : Prop where
 cf : g.conf = c
 sp : Bk g.spool
 os : Fg g.spool
 so : J4 g.boxes
 td : ∀ p ∈ R, CQ g.spool p.1 p.2
 nd : R.Nodup
 b1 : g.boxes.length + R.length ≤ 3000000
 b2 : ∀ b ∈ g.boxes, b.mails.length + R.length ≤ 3000000
theorem Kp.done {c : Cf} {g : Hs} {x : Im} {a : Ad} {R : List (Int × Ad)} (h : Kp c g ((x.id, a) :: R)) : Fi g.spool x.id a = (Cj g.spool (At g.spool x.id).toNat (BR (Aa g.spool x.id) a).toNat, true) :=
 Rv h.sp (h.td (x.id, a) (by simp)).1 (h.td (x.id, a) (by simp)).2
theorem Kp.step {c : Cf} {g : Hs} {x : Im} {a : Ad} {R : List (Int × Ad)} (h : Kp c g ((x.id, a) :: R)) : Kp c (Ce g x a) R := by
 have q : CQ g.spool x.id a := h.td (x.id, a) (by simp)
 have i1 := Bf q.1
 have k1 := ED q.2
 have hD := h.done
 have hil : (At g.spool x.id).toNat < g.spool.items.length := by omega
 have hkl : (BR (Aa g.spool x.id) a).toNat < (g.spool.items.getD (At g.spool x.id).toNat default).to.length := by
  show _ < (Aa g.spool x.id).to.length
  omega
 have hs : (Ce g x a).spool = Cj g.spool (At g.spool x.id).toNat (BR (Aa g.spool x.id) a).toNat := by unfold Ce; rw [hD]
 have hb1 := h.b1
 rw [List.length_cons] at hb1
 refine ⟨h.cf, by rw [hs]; exact Eh h.sp hil hkl, by rw [hs]; exact SU h.os hil, KS h.so, fun p hp => ?_, (List.nodup_cons.1 h.nd).2, ?_, fun b hb => ?_⟩
 ·rw [hs]
  refine Rw h.sp q (h.td p (List.mem_cons_of_mem _ hp)) fun e => (List.nodup_cons.1 h.nd).1 ?_
  obtain ⟨p1, p2⟩ := p
  rw [e.1, e.2]; exact hp
 ·have := MC g.boxes a ⟨x.frm, x.body⟩
  show (Dq _ _ _).length + _ ≤ _
  omega
 ·have := Ij (M := 3000000 - (R.length + 1)) (g := ⟨x.frm, x.body⟩) (a := a) (fun b hb => by have := h.b2 b hb; rw [List.length_cons] at this; omega) b hb
  omega
theorem vh {c : Cf} {w : Int} {x : Im} {rs : List Rc} {i : Nat} (h : i < rs.length) (hn : EY c ⟨#[]⟩ w (rs.getD i default)) : OC c w x (rs.drop i) = (x.id, (rs.getD i default).addr) :: OC c w x (rs.drop (i + 1)) := by
 unfold OC; rw [LC h hn]; rfl
theorem vf {c : Cf} {w : Int} {x : Im} {rs : List Rc} {i : Nat} (h : i < rs.length) (hn : ¬ EY c ⟨#[]⟩ w (rs.getD i default)) : OC c w x (rs.drop i) = OC c w x (rs.drop (i + 1)) := by
 unfold OC; rw [No h hn]
theorem gQ {c : Cf} {w : Int} {x : Im} {rs : List Rc} {i : Nat} (h : rs.length ≤ i) : OC c w x (rs.drop i) = [] := by
 unfold OC; rw [Hm h]; rfl
theorem MA {c : Cf} {w : Int} {xs : List Im} {i : Nat} (h : i < xs.length) : D8 c w (xs.drop i) = OC c w (xs.getD i default) (xs.getD i default).to ++ D8 c w (xs.drop (i + 1)) := by
 rw [AX h]; rfl
theorem Ku {c : Cf} {w : Int} {xs : List Im} {i : Nat} {g : Hs} (h : i < xs.length) : BW c w (xs.drop i) g = BW c w (xs.drop (i + 1)) (Dy (xs.getD i default) (Aj c ⟨#[]⟩ w (xs.getD i default).to) g) := by
 rw [AX h]; rfl
theorem LB (c : Cf) (w : Int) : ∀ rs : List Rc, List.Sublist (Aj c ⟨#[]⟩ w rs) (rs.map Rc.addr)
 | [] => .slnil
 | r :: t => by
   rw [Aj]
   cases BV (EY c ⟨#[]⟩ w r)
   ·exact .cons _ (LB c w t)
   ·exact .cons_cons _ (LB c w t)
theorem KK {c : Cf} {w : Int} : ∀ {xs : List Im} {p : Int × Ad}, p ∈ D8 c w xs → ∃ x ∈ xs, p.1 = x.id ∧ ∃ r ∈ x.to, r.addr = p.2
 | x :: t, p, h => by
   rw [D8] at h
   rcases List.mem_append.1 h with h | h
   ·unfold OC at h
    obtain ⟨a, ha, rfl⟩ := List.mem_map.1 h
    obtain ⟨r, hr, e, _⟩ := Es c ⟨#[]⟩ w _ a ha
    exact ⟨x, by simp, rfl, r, hr, e⟩
   ·obtain ⟨y, hy, q⟩ := KK h
    exact ⟨y, by simp [hy], q⟩
theorem KN {c : Cf} {w : Int} : ∀ {xs : List Im}, (xs.map Im.id).Pairwise (· < ·) → (∀ x ∈ xs, (x.to.map Rc.addr).Nodup) → (D8 c w xs).Nodup
 | [], _, _ => List.nodup_nil
 | x :: t, h1, h2 => by
   rw [List.map_cons, List.pairwise_cons] at h1
   rw [D8]
   refine List.nodup_append.2 ⟨?_, KN h1.2 fun y hy => h2 y (by simp [hy]), fun p hp q hq e => ?_⟩
   ·unfold OC
    have h3 := (LB c w x.to).nodup (h2 x (by simp))
    exact List.pairwise_map.2 (h3.imp fun {a b} ne e => ne (by injection e))
   ·subst e
    unfold OC at hp
    obtain ⟨a, _, rfl⟩ := List.mem_map.1 hp
    obtain ⟨y, hy, e, _⟩ := KK hq
    have := h1.1 y.id (List.mem_map_of_mem hy)
    have e : x.id = y.id := e
    omega
theorem Oc {c : Cf} {w : Int} : ∀ {xs : List Im}, (∀ x ∈ xs, x.to.length ≤ 4) → (D8 c w xs).length ≤ 4 * xs.length
 | [], _ => by simp [D8]
 | x :: t, h => by
   rw [D8, List.length_append, List.length_cons]
   have h1 := Oc (c := c) (w := w) fun y hy => h y (List.mem_cons_of_mem x hy)
   have h2 := Er c ⟨#[]⟩ w x.to
   have h3 := h x (by simp)
   have h4 : (OC c w x x.to).length = (Aj c ⟨#[]⟩ w x.to).length := lm _
   omega
theorem HJ {h : Hs} {w : Int} (q : DI h) (ok : EM h) : Kp h.conf h (D8 h.conf w h.spool.items) := by
 obtain ⟨q1, q2, q3⟩ := q
 have hl := Oc (c := h.conf) (w := w) (xs := h.spool.items) fun x hx => (q3.1 x hx).1.2.2.2.2.1.2
 have h10 := q3.2.2.2
 have hb := ok.2.2.1
 refine ⟨rfl, q3, ok.2.1, Oa fun j h0 hj => (q1 j hj).2.1 h0, fun p hp => ?_, KN (CR.1 q3.2.1) fun x hx => (q3.1 x hx).1.2.1, ?_, fun b hbm => ?_⟩
 ·obtain ⟨x, hx, e, r, hr, e2⟩ := KK hp
  rw [e, ← e2]
  exact (Ez q3 hx hr).1
 ·have : (h.boxes.length : Int) ≤ 1048576 := hb.1
  omega
 ·have : (b.mails.length : Int) ≤ 1048576 := (hb.2 b hbm).2.1
  omega
open Classical in
noncomputable def FS (h : Hs) (w : Int) : Hs := if DI h then BW h.conf w h.spool.items h else UT
theorem JX {h : Hs} {w : Int} (q : DI h) : FS h w = BW h.conf w h.spool.items h := if_pos q
theorem JW {h : Hs} {w : Int} (q : ¬ DI h) : FS h w = UT := if_neg q
def l5 : Ct := Aq (lc FX.ag (lc DH.ag (lc Ey.ag l0))) (fun p => p.1.boxes.length ≤ 3000000 ∧ (∀ b ∈ p.1.boxes, b.mails.length ≤ 3000000) ∧ p.2.2.1.body.length ≤ 3000000) (fun p => .agg ((Ak ⟨p.1.conf, p.1.spool, Dq p.1.boxes p.2.1 ⟨p.2.2.1.frm, p.2.2.1.body⟩, p.1.lost⟩).map .t))
section
attribute [local go_sem] tw Ic IL List.take_length List.drop_zero List.length_take List.length_drop lm List.length_append List.length_cons List.length_nil List.map_append List.map_nil List.map_cons List.nil_append Nat.zero_add List.mem_singleton forall_eq Bool.not_true Bool.not_false Ae Ac AS.opn AS.cls AS.nilb AS.renb AS.up List.set_set List.set_cons_zero List.set_cons_succ List.set_nil
set_option maxHeartbeats 3200000 in
theorem dJ {G : Gt} (hG : Ai G) (hh : G.e 86 = AA 0 tw) : Gd G 134 (AA 1 l5) := by
 refine Lr (dp := fun n => Nat.ble 100000 n) (fn := Tryz.f134) (n := 3) rfl hG ?_
 rintro ⟨h, a, x, ⟨⟩⟩ hpre
 obtain ⟨hl1, hl2, hl3⟩ := hpre
 dsimp only at hl1 hl2 hl3 ⊢
 have hkl := Is a h.boxes
 simp -implicitDefEqProofs only [Tryz.f134, go_sem, hh, seval]
 with_reducible repeat' (first | apply ai | intro _ | ((first | apply s1 | apply s3 | apply s4) <;> intro hb <;> simp -implicitDefEqProofs only [hb, go_sem, hh, seval] <;> try simp only [qz] at hb))
 all_goals (try simp only [maxLen] at *)
 all_goals first | with_reducible assumption | rfl | omega | contradiction | decide | skip
 refine AF [] (ι := {i : Nat // i ≤ kS h.boxes a}) (fun p => ⟨[(3, .pb 1003 0), (4, .pb 1004 0), (5, .pb 1005 0), (6, .pb 1006 0), (7, .t (.v (.int .i64 p.1)))], [(1003, some (.box ((Ak h).map .t))), (1004, some (.box ((Az a).map .t))), (1005, some (.box ((Ag x).map .t))), (1006, some (.box [.t (.v (.string ⟨#[]⟩)), .nil, .nil, .t (.v (.int .i64 0)), .nil, .nil, .nil]))]⟩) (fun p => kS h.boxes a - p.1) ⟨0, Nat.zero_le _⟩ rfl ?_ ?_
 ·simp -implicitDefEqProofs only [go_sem, hh, seval]
  try simp
 ·rintro ⟨i, hi⟩
  dsimp only at hi ⊢
  by_cases hlt : i < kS h.boxes a
  ·have hil : (i : Int) < h.boxes.length := by omega
   have b1 := Ap ((IE _ _).1 (Si a h.boxes hlt))
   simp -implicitDefEqProofs only [hil, b1, decide_true, tn, go_sem, hh, seval]
   with_reducible repeat' (first | apply ai | intro _ | ((first | apply s1 | apply s3 | apply s4) <;> intro hb <;> simp -implicitDefEqProofs only [hb, go_sem, hh, seval] <;> try simp only [qz] at hb))
   all_goals (try simp only [maxLen] at *)
   all_goals first | with_reducible assumption | rfl | omega | contradiction | decide | skip
   refine ⟨⟨i + 1, by omega⟩, by dsimp only; omega, ?_⟩
   simp -implicitDefEqProofs only [go_sem, hh, seval]
   try simp
  ·have hk : i = kS h.boxes a := by omega
   have e1 : ((i : Int) + 1).toNat = i + 1 := by omega
   by_cases hil : (i : Int) < h.boxes.length
   ·have hkb : kS h.boxes a < h.boxes.length := by omega
    have b1 := AN (fun z => Sh a h.boxes hkb ((IE _ _).2 z))
    rw [← hk] at b1
    have hml := hl2 _ (AE (xs := h.boxes) (j := i) (by omega))
    by_cases hf : (h.boxes.getD i default).addr = a
    ·have hF : Dv h.boxes a = true := by
       unfold Dv
       rw [decide_eq_true hkb, ← hk, decide_eq_true ((Vm _ _).2 hf)]; rfl
     have hB : Dq h.boxes a ⟨x.frm, x.body⟩ = h.boxes.set i ⟨(h.boxes.getD i default).addr, (h.boxes.getD i default).mails ++ [⟨x.frm, x.body⟩]⟩ := by rw [FF hF, ← hk]
     rw [hB]
     have he : (false != (decide ((h.boxes.getD i default).addr.user = a.user) && decide ((h.boxes.getD i default).addr.domain = a.domain))) = true := by rw [hf]; simp
     rw [hf]
     simp -implicitDefEqProofs only [hil, b1, he, decide_true, tn, e1, go_sem, hh, seval]
     with_reducible repeat' (first | apply ai | intro _ | ((first | apply s1 | apply s3 | apply s4) <;> intro hb <;> simp -implicitDefEqProofs only [hb, go_sem, hh, seval] <;> try simp only [qz] at hb))
     all_goals (try simp only [maxLen, e1, tn, List.take_length, List.drop_zero] at *)
     all_goals first | with_reducible assumption | rfl | omega | contradiction | decide | (refine congrArg (T.sl 3) ?_; first | (simp; done) | (rw [List.set_eq_take_append_cons_drop, if_pos (by omega)]; simp [A5, CF]; done)) | skip
    ·have he : (false != (decide ((h.boxes.getD i default).addr.user = a.user) && decide ((h.boxes.getD i default).addr.domain = a.domain))) = false := by
       cases hq : (decide ((h.boxes.getD i default).addr.user = a.user) && decide ((h.boxes.getD i default).addr.domain = a.domain))
       ·rfl
       ·simp only [Bool.and_eq_true, decide_eq_true_eq] at hq
        exact absurd (show (⟨(h.boxes.getD i default).addr.user, (h.boxes.getD i default).addr.domain⟩ : Ad) = a by rw [hq.1, hq.2]) hf
     have hF : Dv h.boxes a = false := by
      unfold Dv
      rw [decide_eq_true hkb, ← hk, decide_eq_false (fun z => hf ((Vm _ _).1 z))]; rfl
     have hB : Dq h.boxes a ⟨x.frm, x.body⟩ = h.boxes.take i ++ (⟨a, [⟨x.frm, x.body⟩]⟩ :: h.boxes.drop i) := by rw [EF hF, ← hk]
     rw [hB]
     simp -implicitDefEqProofs only [hil, b1, he, decide_true, tn, e1, go_sem, hh, seval]
     with_reducible repeat' (first | apply ai | intro _ | ((first | apply s1 | apply s3 | apply s4) <;> intro hb <;> simp -implicitDefEqProofs only [hb, go_sem, hh, seval] <;> try simp only [qz] at hb))
     all_goals (try simp only [maxLen, e1, tn, List.take_length, List.drop_zero] at *)
     all_goals first | with_reducible assumption | rfl | omega | contradiction | decide | (refine congrArg (T.sl 3) ?_; first | (simp; done) | (rw [List.set_eq_take_append_cons_drop, if_pos (by omega)]; simp [A5, CF]; done)) | skip
   ·have hF : Dv h.boxes a = false := by
      unfold Dv
      rw [decide_eq_false (by omega)]; rfl
    have hB : Dq h.boxes a ⟨x.frm, x.body⟩ = h.boxes.take i ++ (⟨a, [⟨x.frm, x.body⟩]⟩ :: h.boxes.drop i) := by rw [EF hF, ← hk]
    rw [hB]
    simp -implicitDefEqProofs only [hil, decide_false, tn, e1, go_sem, hh, seval]
    with_reducible repeat' (first | apply ai | intro _ | ((first | apply s1 | apply s3 | apply s4) <;> intro hb <;> simp -implicitDefEqProofs only [hb, go_sem, hh, seval] <;> try simp only [qz] at hb))
    all_goals (try simp only [maxLen, e1, tn, List.take_length, List.drop_zero] at *)
    all_goals first | with_reducible assumption | rfl | omega | contradiction | decide | (refine congrArg (T.sl 3) ?_; simp; done) | skip
end
theorem Yg {g : Hs} {x : Im} {a : Ad} {w : Int} {R : List (Int × Ad)} (h : Kp g.conf g ((x.id, a) :: R)) : Ch ⟨g.conf, g.spool, Dq g.boxes a ⟨x.frm, x.body⟩, g.lost⟩ (At g.spool x.id).toNat (BR (Aa g.spool x.id) a).toNat a 2 w = Ce g x a := by
 unfold Ch
 rw [if_pos rfl]
 unfold Ce
 rw [h.done]
def tq : Ct := Aq (lc FX.ag (lc BA l0)) (fun p => DI p.1 ∧ EM p.1) (fun p => .agg ((Ak (BW p.1.conf p.2.1 p.1.spool.items p.1)).map .t))
section
attribute [local go_sem] Vq l5 iw Ic IL List.take_length List.drop_zero List.length_take List.length_drop lm List.length_append List.length_cons List.length_nil List.map_append List.map_nil List.map_cons List.nil_append Nat.zero_add List.mem_singleton forall_eq Bool.not_true Bool.not_false Ae Ac AS.opn AS.cls AS.nilb AS.renb AS.up List.set_set List.set_cons_zero List.set_cons_succ List.set_nil
set_option maxHeartbeats 6400000 in
theorem qC {G : Gt} (hG : Ai G) (hh : G.e 133 = AA 0 Vq ∧ G.e 134 = AA 1 l5 ∧ G.e 37 = AA 1 iw) : Gd G 69 (AA 1 tq) := by
 refine Lr (dp := fun n => Nat.ble 100000 n) (fn := Tryz.f69) (n := 2) rfl hG ?_
 rintro ⟨h, w, ⟨⟩⟩ hpre
 obtain ⟨hq, hok⟩ := hpre
 dsimp only at hq hok ⊢
 have hmx : (h.spool.items.length : Int) ≤ 1048576 := hok.2.1.1
 simp -implicitDefEqProofs only [Tryz.f69, go_sem, hh, seval]
 with_reducible repeat' (first | apply ai | intro _ | ((first | apply s1 | apply s3 | apply s4) <;> intro hb <;> simp -implicitDefEqProofs only [hb, go_sem, hh, seval] <;> try simp only [qz] at hb))
 all_goals (try simp only [maxLen] at *)
 all_goals first | with_reducible assumption | rfl | omega | contradiction | decide | skip
 refine AF [] (ι := {p : Nat × Hs // p.1 ≤ h.spool.items.length ∧ Kp h.conf p.2 (D8 h.conf w (h.spool.items.drop p.1)) ∧ BW h.conf w h.spool.items h = BW h.conf w (h.spool.items.drop p.1) p.2}) (fun p => ⟨[(1, .t (.v (.int .i64 w))), (2, .pb 1002 0), (4, .pb 1004 0), (5, .t (.sl 5 (h.spool.items.map Ag))), (6, .t (.v (.int .i64 p.1.1)))], [(1002, some (.box ((Ak p.1.2).map .t))), (1004, some (.box [.t (.v (.string ⟨#[]⟩)), .nil, .nil, .t (.v (.int .i64 0)), .nil, .nil, .nil]))]⟩) (fun p => h.spool.items.length - p.1.1) ⟨(0, h), Nat.zero_le _, HJ hq hok, rfl⟩ rfl ?_ ?_
 ·simp -implicitDefEqProofs only [go_sem, hh, seval]
  try simp
 ·rintro ⟨⟨i, g⟩, hi, hK, he⟩
  dsimp only at hi hK he ⊢
  by_cases hlt : (i : Int) < h.spool.items.length
  ·have hil : i < h.spool.items.length := by omega
   obtain ⟨x, hx⟩ : ∃ x, x = h.spool.items.getD i default := ⟨_, rfl⟩
   have hxo := hok.2.1.2 _ (AE hil)
   rw [← hx] at hxo
   have hxl : (x.to.length : Int) ≤ 1048576 := hxo.2.1.1
   have hxb : (x.body.length : Int) ≤ 1048576 := hxo.2.2.1
   rw [MA hil, ← hx] at hK
   rw [Ku hil, ← hx] at he
   simp -implicitDefEqProofs only [hlt, decide_true, tn, ← hx, go_sem, hh, seval]
   with_reducible repeat' (first | apply ai | intro _ | ((first | apply s1 | apply s3 | apply s4) <;> intro hb <;> simp -implicitDefEqProofs only [hb, go_sem, hh, seval] <;> try simp only [qz] at hb))
   all_goals (try simp only [maxLen] at *)
   all_goals first | with_reducible assumption | rfl | omega | contradiction | decide | skip
   refine AF [] (ι := {p : Nat × Hs // p.1 ≤ x.to.length ∧ Kp h.conf p.2 (OC h.conf w x (x.to.drop p.1) ++ D8 h.conf w (h.spool.items.drop (i + 1))) ∧ BW h.conf w h.spool.items h = BW h.conf w (h.spool.items.drop (i + 1)) (Dy x (Aj h.conf ⟨#[]⟩ w (x.to.drop p.1)) p.2)}) (fun p => ⟨[(1, .t (.v (.int .i64 w))), (2, .pb 1002 0), (4, .pb 1004 0), (5, .t (.sl 5 (h.spool.items.map Ag))), (6, .t (.v (.int .i64 i))), (7, .t (.v (.int .i64 p.1.1)))], [(1002, some (.box ((Ak p.1.2).map .t))), (1004, some (.box [.t (.v (.string ⟨#[]⟩)), .nil, .nil, .t (.v (.int .i64 0)), .nil, .nil, .nil]))]⟩) (fun p => x.to.length - p.1.1) ⟨(0, g), Nat.zero_le _, hK, he⟩ rfl ?_ ?_
   ·simp -implicitDefEqProofs only [go_sem, hh, seval]
    try simp
   ·rintro ⟨⟨k, g⟩, hk, hK, he⟩
    dsimp only at hk hK he ⊢
    by_cases hlk : (k : Int) < x.to.length
    ·have hkl : k < x.to.length := by omega
     have hcf := hK.cf
     by_cases hn : EY h.conf ⟨#[]⟩ w (x.to.getD k default)
     ·have b1 := Ap hn
      rw [← hcf] at b1
      rw [vh hkl hn, List.cons_append] at hK
      rw [LC hkl hn] at he
      have Ar := hK.step
      have hbb := hK.b1
      have hbm := hK.b2
      have hos := hK.os
      have hsp := hK.sp
      have htd := hK.td (x.id, (x.to.getD k default).addr) (by simp)
      have hout := Yg (w := w) (hcf ▸ hK)
      simp -implicitDefEqProofs only [hlt, hlk, b1, hout, decide_true, tn, ← hx, go_sem, hh, seval]
      with_reducible repeat' (first | apply ai | intro _ | ((first | apply s1 | apply s3 | apply s4) <;> intro hb <;> simp -implicitDefEqProofs only [hb, go_sem, hh, seval] <;> try simp only [qz] at hb))
      all_goals (try simp only [maxLen] at *)
      all_goals first | with_reducible assumption | rfl | omega | contradiction | decide | exact htd.1 | exact htd.2 | (have := hbm _ (by assumption); omega) | skip
      all_goals first | (refine ⟨⟨(k + 1, Ce g x (x.to.getD k default).addr), by dsimp only; omega, Ar, he⟩, by dsimp only; omega, ?_⟩) | skip
      all_goals simp -implicitDefEqProofs only [go_sem, hh, seval]
      all_goals (try simp)
     ·have b1 := AN hn
      rw [← hcf] at b1
      rw [vf hkl hn] at hK
      rw [No hkl hn] at he
      simp -implicitDefEqProofs only [hlt, hlk, b1, decide_true, tn, ← hx, go_sem, hh, seval]
      with_reducible repeat' (first | apply ai | intro _ | ((first | apply s1 | apply s3 | apply s4) <;> intro hb <;> simp -implicitDefEqProofs only [hb, go_sem, hh, seval] <;> try simp only [qz] at hb))
      all_goals (try simp only [maxLen] at *)
      all_goals first | with_reducible assumption | rfl | omega | contradiction | decide | skip
      refine ⟨⟨(k + 1, g), by dsimp only; omega, hK, he⟩, by dsimp only; omega, ?_⟩
      simp -implicitDefEqProofs only [go_sem, hh, seval]
      try simp
    ·rw [gQ (by omega), List.nil_append] at hK
     rw [Hm (by omega)] at he
     simp -implicitDefEqProofs only [hlt, hlk, decide_true, decide_false, tn, ← hx, go_sem, hh, seval]
     with_reducible repeat' (first | apply ai | intro _ | ((first | apply s1 | apply s3 | apply s4) <;> intro hb <;> simp -implicitDefEqProofs only [hb, go_sem, hh, seval] <;> try simp only [qz] at hb))
     all_goals (try simp only [maxLen] at *)
     all_goals first | with_reducible assumption | rfl | omega | contradiction | decide | skip
     refine ⟨⟨(i + 1, g), by dsimp only; omega, hK, he⟩, by dsimp only; omega, ?_⟩
     simp -implicitDefEqProofs only [go_sem, hh, seval]
     try simp
  ·have he2 : BW h.conf w h.spool.items h = g := by rw [he, List.drop_eq_nil_of_le (by omega)]; rfl
   simp -implicitDefEqProofs only [hlt, decide_false, he2, go_sem, hh, seval]
   with_reducible repeat' (first | apply ai | intro _ | ((first | apply s1 | apply s3 | apply s4) <;> intro hb <;> simp -implicitDefEqProofs only [hb, go_sem, hh, seval] <;> try simp only [qz] at hb))
   all_goals (try simp only [maxLen] at *)
   all_goals first | with_reducible assumption | rfl | omega | contradiction | decide | skip
end
def xU : Ct := Aq (lc FX.ag (lc BA l0)) (fun p => EM p.1) (fun p => .agg ((Ak (FS p.1 p.2.1)).map .t))
section
attribute [local go_sem] sn sr tq Ic IL List.take_length List.drop_zero List.length_take List.length_drop lm List.length_append List.length_cons List.length_nil List.map_append List.map_nil List.map_cons List.nil_append Nat.zero_add List.mem_singleton forall_eq Bool.not_true Bool.not_false UT Ae Ac AS.opn AS.cls AS.nilb AS.renb AS.up List.set_set List.set_cons_zero List.set_cons_succ List.set_nil
set_option maxHeartbeats 3200000 in
theorem pR {G : Gt} (hG : Ai G) (hh : G.e 32 = AA 0 sn ∧ G.e 33 = AA 0 sr ∧ G.e 69 = AA 1 tq) : Gd G 20 (AA 1 xU) := by
 refine Lr (dp := fun n => Nat.ble 100000 n) (fn := Tryz.f20) (n := 2) rfl hG ?_
 rintro ⟨h, w, ⟨⟩⟩ hpre
 have hok : EM h := hpre
 dsimp only
 by_cases q : DI h
 ·have b1 := Ap q
  rw [JX q]
  simp -implicitDefEqProofs only [Tryz.f20, b1, go_sem, hh, seval]
  with_reducible repeat' (first | apply ai | intro _ | ((first | apply s1 | apply s3 | apply s4) <;> intro hb <;> simp -implicitDefEqProofs only [hb, go_sem, hh, seval] <;> try simp only [qz] at hb))
  all_goals (try simp only [maxLen] at *)
  all_goals first | with_reducible assumption | rfl | omega | contradiction | decide | exact ⟨q, hok⟩ | skip
 ·have b1 := AN q
  rw [JW q]
  simp -implicitDefEqProofs only [Tryz.f20, b1, go_sem, hh, seval]
  with_reducible repeat' (first | apply ai | intro _ | ((first | apply s1 | apply s3 | apply s4) <;> intro hb <;> simp -implicitDefEqProofs only [hb, go_sem, hh, seval] <;> try simp only [qz] at hb))
  all_goals (try simp only [maxLen] at *)
  all_goals first | with_reducible assumption | rfl | omega | contradiction | decide | skip
end
def xT : Ct := Aq (lc FX.ag (lc BA l0)) (fun p => EM p.1) (fun p => Nm (FS p.1 p.2.1))
section
attribute [local go_sem] lZ xX xj U0 xk xY OG OF Uf gN.eq_1 UT Ae Ac M5 KP AZ BQ A7 lm List.length_append List.length_cons List.length_nil List.map_append List.map_nil Nat.zero_add List.nil_append AS.opn AS.cls AS.nilb AS.renb AS.up Bool.not_false Bool.not_true List.set_set List.set_cons_zero List.set_cons_succ List.set_nil List.mem_singleton forall_eq
set_option maxHeartbeats 6400000 in
theorem pQ {G : Gt} (hG : Ai G) (hh : G.e 10 = AA 0 lZ ∧ G.e 25 = AA 0 xX ∧ G.e 66 = AA 0 xj ∧ G.e 68 = AA 0 U0 ∧ G.e 67 = AM xk ∧ G.e 29 = AA 0 xY) : Gd G 19 (AA 0 xT) := by
 refine Lr (dp := fun n => !(Nat.beq n 100004 || Nat.beq n 100014)) (fn := Tryz.f19) (n := 2) rfl hG ?_ (hs := fun _ p => HB _)
 rintro ⟨h, w, ⟨⟩⟩ hpre
 have hok : EM h := hpre
 have hmx : (h.spool.items.length : Int) ≤ 1048576 := hok.2.1.1
 dsimp only
 by_cases q : DI h
 ·have b1 := Ap q
  have he2 := JX (w := w) q
  simp -implicitDefEqProofs only [Tryz.f19, b1, go_sem, hh, seval]
  with_reducible repeat' (first | apply ai | intro _ | ((first | apply s1 | apply s3 | apply s4) <;> intro hb <;> simp -implicitDefEqProofs only [hb, go_sem, hh, seval] <;> try simp only [qz] at hb))
  all_goals (try simp only [maxLen] at *)
  all_goals first | with_reducible assumption | rfl | omega | contradiction | decide | skip
  refine AU (Le.renb 1005 1 1017 1901 rfl rfl rfl rfl) ?_
  refine AU (Le.renb 1005 2 2017 1902 rfl rfl rfl rfl) ?_
  refine AU (Le.renb 1005 4 3017 1903 rfl rfl rfl rfl) ?_
  refine AU (Le.renb 1005 5 4017 1904 rfl rfl rfl rfl) ?_
  refine AU (Le.renb 1005 6 5017 1905 rfl rfl rfl rfl) ?_
  refine AR ?_
  simp -implicitDefEqProofs only [go_sem, hh, seval]
  intro _
  refine AF [] (ι := {p : Nat × Hs // p.1 ≤ h.spool.items.length ∧ Kp h.conf p.2 (D8 h.conf w (h.spool.items.drop p.1)) ∧ BW h.conf w h.spool.items h = BW h.conf w (h.spool.items.drop p.1) p.2}) (fun p => ⟨[(1, .t (.v (.int .i64 w))), (2, .pb 1002 0), (4, .pb 1004 0), (5, .pb 1005 0), (20, .t (.sl 5 (h.spool.items.map Ag))), (21, .t (.v (.int .i64 h.spool.items.length))), (22, .t (.v (.int .i64 p.1.1)))], [(1002, some (.box ((Ak h).map .t))), (1004, some (.box [.t (.v (.string ⟨#[]⟩)), .nil, .nil, .t (.v (.int .i64 0)), .nil, .nil, .nil])), (1005, some (.box [.t (.v (.string p.1.2.conf.name)), .h 1901, .h 1902, .t (.v (.int .i64 p.1.2.spool.last)), .h 1903, .h 1904, .h 1905])), (1901, some (.arr true 1 (p.1.2.conf.own.map AH))), (1902, some (.arr true 2 (p.1.2.conf.ways.map Bh))), (1903, some (.arr true 5 (p.1.2.spool.items.map Ag))), (1904, some (.arr true 3 (p.1.2.boxes.map A5))), (1905, some (.arr true 3 (p.1.2.lost.map Ax)))]⟩) (fun p => h.spool.items.length - p.1.1) ⟨(0, h), Nat.zero_le _, HJ q hok, rfl⟩ rfl ?_ ?_
  ·simp -implicitDefEqProofs only [go_sem, hh, seval]
   try simp
  ·rintro ⟨⟨i, g⟩, hi, hK, he⟩
   dsimp only at hi hK he ⊢
   by_cases hlt : (i : Int) < h.spool.items.length
   ·have hil : i < h.spool.items.length := by omega
    obtain ⟨x, hx⟩ : ∃ x, x = h.spool.items.getD i default := ⟨_, rfl⟩
    have hxm := AE hil
    rw [← hx] at hxm
    have hxo := hok.2.1.2 _ hxm
    have hxi := (q.2.2.1 _ hxm).1
    rw [MA hil, ← hx] at hK
    rw [Ku hil, ← hx] at he
    have hat : ¬ At h.spool x.id < 0 ∧ Aa h.spool x.id = x := by
     obtain ⟨r, hr⟩ : ∃ r, r ∈ x.to := ⟨_, AE (xs := x.to) (j := 0) (by have := hxi.2.2.2.2.1.1; omega)⟩
     have := Ez q.2.2 hxm hr
     exact ⟨this.1.1, this.2⟩
    by_cases hp : Aj h.conf ⟨#[]⟩ w x.to = []
    ·have hP : Ly h x.id ⟨#[]⟩ w = (YH, false) := HI (fun z => z.2.2.2 (by rw [hat.2]; exact hp))
     simp -implicitDefEqProofs only [hlt, hP, decide_true, tn, ← hx, go_sem, hh, seval]
     with_reducible repeat' (first | apply ai | intro _ | ((first | apply s1 | apply s3 | apply s4) <;> intro hb <;> simp -implicitDefEqProofs only [hb, go_sem, hh, seval] <;> try simp only [qz] at hb))
     all_goals (try simp only [maxLen] at *)
     all_goals first | with_reducible assumption | rfl | omega | contradiction | decide | skip
     have he3 : BW h.conf w h.spool.items h = BW h.conf w (h.spool.items.drop (i + 1)) g := by rw [he, hp]; rfl
     have hK3 : Kp h.conf g (D8 h.conf w (h.spool.items.drop (i + 1))) := by
      have : OC h.conf w x x.to = [] := by unfold OC; rw [hp]; rfl
      rw [this] at hK; exact hK
     refine ⟨⟨(i + 1, g), by dsimp only; omega, hK3, he3⟩, by dsimp only; omega, ?_⟩
     simp -implicitDefEqProofs only [go_sem, hh, seval]
     try simp
    ·obtain ⟨ads, has⟩ : ∃ ads, ads = Aj h.conf ⟨#[]⟩ w x.to := ⟨_, rfl⟩
     have hP : Ly h x.id ⟨#[]⟩ w = (⟨x.frm, ads, x.body⟩, true) := by rw [Rr ⟨q, hat.1, .inl rfl, by rw [hat.2]; exact hp⟩, hat.2, has]; rfl
     have hal : ads.length ≤ 4 := by rw [has]; exact Nat.le_trans (Er _ _ _ _) hxi.2.2.2.2.1.2
     unfold OC at hK
     rw [← has] at he hK
     simp -implicitDefEqProofs only [hlt, hP, decide_true, tn, ← hx, go_sem, hh, seval]
     with_reducible repeat' (first | apply ai | intro _ | ((first | apply s1 | apply s3 | apply s4) <;> intro hb <;> simp -implicitDefEqProofs only [hb, go_sem, hh, seval] <;> try simp only [qz] at hb))
     all_goals (try simp only [maxLen] at *)
     all_goals first | with_reducible assumption | rfl | omega | contradiction | decide | skip
     refine AF [] (ι := {p : Nat × Hs // p.1 ≤ ads.length ∧ Kp h.conf p.2 ((ads.drop p.1).map (fun a => (x.id, a)) ++ D8 h.conf w (h.spool.items.drop (i + 1))) ∧ BW h.conf w h.spool.items h = BW h.conf w (h.spool.items.drop (i + 1)) (Dy x (ads.drop p.1) p.2)}) (fun p => ⟨[(1, .t (.v (.int .i64 w))), (2, .pb 1002 0), (4, .pb 1004 0), (5, .pb 1005 0), (20, .t (.sl 5 (h.spool.items.map Ag))), (21, .t (.v (.int .i64 h.spool.items.length))), (22, .t (.v (.int .i64 i))), (7, .pb 1007 0), (8, .pb 1008 0), (37, .h 1031), (38, .t (.v (.int .i64 ads.length))), (39, .t (.v (.int .i64 p.1.1)))], [(1002, some (.box ((Ak h).map .t))), (1004, some (.box [.t (.v (.string ⟨#[]⟩)), .nil, .nil, .t (.v (.int .i64 0)), .nil, .nil, .nil])), (1005, some (.box [.t (.v (.string p.1.2.conf.name)), .h 1901, .h 1902, .t (.v (.int .i64 p.1.2.spool.last)), .h 1903, .h 1904, .h 1905])), (1901, some (.arr true 1 (p.1.2.conf.own.map AH))), (1902, some (.arr true 2 (p.1.2.conf.ways.map Bh))), (1903, some (.arr true 5 (p.1.2.spool.items.map Ag))), (1904, some (.arr true 3 (p.1.2.boxes.map A5))), (1905, some (.arr true 3 (p.1.2.lost.map Ax))), (1007, some (.box ((Ag x).map .t))), (1008, some (.box [.t (.v (.string x.frm.user)), .t (.v (.string x.frm.domain)), .h 1031, .h 2031])), (1031, some (.arr true 2 (ads.map Az))), (2031, some (.arr true 1 (x.body.map AH)))]⟩) (fun p => ads.length - p.1.1) ⟨(0, g), Nat.zero_le _, hK, he⟩ rfl ?_ ?_
     ·simp -implicitDefEqProofs only [go_sem, hh, seval]
      try simp
     ·rintro ⟨⟨k, g⟩, hk, hK, he⟩
      dsimp only at hk hK he ⊢
      by_cases hlk : (k : Int) < ads.length
      ·have hkl : k < ads.length := by omega
       have hcf := hK.cf
       rw [AX hkl] at hK he
       rw [List.map_cons, List.cons_append] at hK
       have Ar := hK.step
       have hbb := hK.b1
       have hbm := hK.b2
       have hos := hK.os
       have hsb := J5 hK.so (ads.getD k default)
       have hD := hK.done
       simp -implicitDefEqProofs only [hlt, hlk, decide_true, tn, ← hx, go_sem, hh, seval]
       with_reducible repeat' (first | apply ai | intro _ | ((first | apply s1 | apply s3 | apply s4) <;> intro hb <;> simp -implicitDefEqProofs only [hb, go_sem, hh, seval] <;> try simp only [qz] at hb))
       all_goals (try simp only [maxLen] at *)
       all_goals first | with_reducible assumption | rfl | omega | contradiction | decide | exact hxo.2.2.1 | exact hxo.2.2.2 | (have := hbm _ (by assumption); omega) | skip
       refine AU (Le.renb 1005 1 1050 1901 rfl rfl rfl rfl) ?_
       refine AU (Le.renb 1005 2 2050 1902 rfl rfl rfl rfl) ?_
       refine AU (Le.renb 1005 4 1057 1903 rfl rfl rfl rfl) ?_
       refine AU (Le.renb 1005 5 4050 1904 rfl rfl rfl rfl) ?_
       refine AU (Le.renb 1005 6 5050 1905 rfl rfl rfl rfl) ?_
       refine AR ?_
       simp -implicitDefEqProofs only [go_sem, hh, seval]
       with_reducible repeat' (first | apply ai | intro _ | ((first | apply s1 | apply s3 | apply s4) <;> intro hb <;> simp -implicitDefEqProofs only [hb, go_sem, hh, seval] <;> try simp only [qz] at hb))
       all_goals (try simp only [maxLen] at *)
       all_goals first | omega | skip
       refine ⟨⟨(k + 1, Ce g x (ads.getD k default)), by dsimp only; omega, Ar, he⟩, by dsimp only; omega, ?_⟩
       simp -implicitDefEqProofs only [go_sem, hh, seval]
       simp only [Ce]
       try simp
      ·rw [List.drop_eq_nil_of_le (show ads.length ≤ k by omega)] at hK he
       simp -implicitDefEqProofs only [hlk, decide_false, go_sem, hh, seval]
       with_reducible repeat' (first | apply ai | intro _ | ((first | apply s1 | apply s3 | apply s4) <;> intro hb <;> simp -implicitDefEqProofs only [hb, go_sem, hh, seval] <;> try simp only [qz] at hb))
       all_goals (try simp only [maxLen] at *)
       all_goals first | with_reducible assumption | rfl | omega | contradiction | decide | skip
       refine ⟨⟨(i + 1, g), by dsimp only; omega, hK, he⟩, by dsimp only; omega, ?_⟩
       simp -implicitDefEqProofs only [go_sem, hh, seval]
       try simp
   ·have he2' : BW h.conf w h.spool.items h = g := by rw [he, List.drop_eq_nil_of_le (by omega)]; rfl
    rw [he2'] at he2
    simp -implicitDefEqProofs only [hlt, decide_false, he2, go_sem, hh, seval]
    with_reducible repeat' (first | apply ai | intro _ | ((first | apply s1 | apply s3 | apply s4) <;> intro hb <;> simp -implicitDefEqProofs only [hb, go_sem, hh, seval] <;> try simp only [qz] at hb))
    all_goals (try simp only [maxLen] at *)
    all_goals first | with_reducible assumption | rfl | omega | contradiction | decide | skip
 ·have b1 := AN q
  rw [JW q]
  simp -implicitDefEqProofs only [Tryz.f19, b1, go_sem, hh, seval]
  with_reducible repeat' (first | apply ai | intro _ | ((first | apply s1 | apply s3 | apply s4) <;> intro hb <;> simp -implicitDefEqProofs only [hb, go_sem, hh, seval] <;> try simp only [qz] at hb))
  all_goals (try simp only [maxLen] at *)
  all_goals first | with_reducible assumption | rfl | omega | contradiction | decide | skip
end
def EH (c : Cf) : Hs := ⟨c, ⟨0, []⟩, [], []⟩
def FV (cs : List Cf) : Wd := ⟨cs.map EH, 0, 0, []⟩
theorem YG {c : Cf} (h : J1 c) : EM (EH c) := ⟨h, ⟨by show ((0 : Nat) : Int) ≤ _; decide, fun _ q => by cases q⟩, ⟨by show ((0 : Nat) : Int) ≤ _; decide, fun _ q => by cases q⟩, ⟨by show ((0 : Nat) : Int) ≤ _; decide, fun _ q => by cases q⟩⟩
theorem Y9 {xs : List Cf} {f : Cf → Hs} {i : Nat} (h : i < xs.length) : ((xs.map f).take (i + 1)).map Ak = ((xs.map f).take i).map Ak ++ [Ak (f (xs.getD i default))] := by
 have e : (xs.map f).getD i default = f (xs.getD i default) := by
  simp only [List.getD_eq_getElem?_getD, List.getElem?_map, List.getElem?_eq_getElem h, Option.map_some, Option.getD_some]
 rw [BL Ak (by rw [lm]; exact h), e]
def CT (b : UInt8) : List T := [.v (.int .u8 b.toNat)]
def i9 : List T → Option UInt8
 | [.v (.int .u8 x)] => if 0 ≤ x ∧ x < 256 then some (UInt8.ofNat x.toNat) else none
 | _ => none
def Lg : Ew UInt8 where
 enc := CT
 dec := i9
 n := 1
 ed := fun b => by
  have := b.toNat_lt
  show (if 0 ≤ ((b.toNat : Nat) : Int) ∧ ((b.toNat : Nat) : Int) < 256 then some (UInt8.ofNat ((b.toNat : Nat) : Int).toNat) else none) = some b
  rw [if_pos (by omega), tn, UInt8.ofNat_toNat]
 de := fun c a h => by
  unfold i9 at h
  split at h
  ·rename_i x
   split at h
   ·rename_i q
    cases h
    show [T.v (.int .u8 x)] = [T.v (.int .u8 (((UInt8.ofNat x.toNat).toNat : Nat) : Int))]
    have : (UInt8.ofNat x.toNat).toNat = x.toNat := by simp; omega
    rw [this]
    congr 3
    omega
   ·cases h
  ·cases h
 len := fun _ => rfl
theorem Wp (b : UInt8) : CT b = [.v (.int .u8 b.toNat)] := rfl
theorem aV (xs : List UInt8) (n : Int) (s : AS) (K : Kt) : E4 1 (xs.map CT) n s K = (0 ≤ n ∧ n < xs.length ∧ K (.t (.rop (CT (xs.getD n.toNat default)))) s) := Be CT xs 1 n s K fun _ => rfl
theorem JV : Lg.enc = CT := rfl
theorem Rp : Lg.n = 1 := rfl
theorem BS (xs : List UInt8) : Lg.decL (xs.map CT) = some xs := Lg.decL_map xs
theorem NT (xs : List UInt8) : (∀ c ∈ xs.map CT, c.length = 1) = True := eq_true fun c hc => by
 obtain ⟨a, _, rfl⟩ := List.mem_map.1 hc; rfl
structure Rd where
 b : List UInt8
 p : Int
def ju : AV → Option Rd
 | .ob [.t (.sl 1 es), .t (.v (.int .i64 p))] => (Lg.decL es).map fun b => ⟨b, p⟩
 | _ => none
def EL : AD Rd where
 enc r := .ob [.t (.sl 1 (r.b.map CT)), .t (.v (.int .i64 r.p))]
 dec := ju
 ed := fun r => by
  show (Lg.decL (r.b.map CT)).map _ = some r
  rw [BS]; rfl
 de := fun x r h => by
  unfold ju at h
  split at h
  ·rename_i es p
   cases hd : Lg.decL es with
   | none => rw [hd] at h; cases h
   | some b =>
     rw [hd] at h; cases h
     rw [show es = b.map CT from Lg.decL_inv hd]
  ·cases h
theorem BD (r : Rd) : EL.enc r = .ob [.t (.sl 1 (r.b.map CT)), .t (.v (.int .i64 r.p))] := rfl
theorem BK {es : List (List T)} {p : Int} : EL.dec (.ob [.t (.sl 1 es), .t (.v (.int .i64 p))]) = (Lg.decL es).map fun b => ⟨b, p⟩ := rfl
theorem iV {n : Int} (h : 0 ≤ n) (h1 : n < 9223372036854775808) : IntKind.wrap .i64 n = n := by
 have e : IntKind.wrap .i64 n = if ((true && decide (n % 18446744073709551616 ≥ 9223372036854775808)) = true) then n % 18446744073709551616 - 18446744073709551616 else n % 18446744073709551616 := rfl
 rw [e, if_neg (by simp; omega)]
 omega
theorem se {x y : Int} (h : 0 ≤ x) (h1 : x < 9223372036854775808) (k : 0 ≤ y) (k1 : y < 9223372036854775808) : 0 ≤ bits .xor .i64 x y := by
 have e : bits .xor .i64 x y = IntKind.wrap .i64 (((BitVec.ofInt 64 x ^^^ BitVec.ofInt 64 y).toNat : Nat) : Int) := rfl
 rw [e, BitVec.toNat_xor, BitVec.toNat_ofInt, BitVec.toNat_ofInt]
 have q : ((x % ((2 ^ 64 : Nat) : Int)).toNat ^^^ (y % ((2 ^ 64 : Nat) : Int)).toNat) < 2 ^ 63 := Nat.xor_lt_two_pow (by omega) (by omega)
 have q2 := Int.ofNat_lt.2 q
 rw [iV (Int.natCast_nonneg _) q2]
 exact Int.natCast_nonneg _
def ZP (b : List UInt8) (k : Int) : Int := (((b.getD k.toNat default).toNat : Nat) : Int)
theorem Ok (b : List UInt8) (k : Int) : 0 ≤ ZP b k ∧ ZP b k ≤ 255 := by
 have := (b.getD k.toNat default).toNat_lt
 unfold ZP; omega
theorem tl (b : List UInt8) (k : Int) : (((b.getD k.toNat default).toNat : Nat) : Int) = ZP b k := rfl
def Lu (b : List UInt8) (k : Int) : Int := ZP b (k % b.length) * 131 + ZP b ((k * 7 + 3) % b.length) * 1117 + k * 29 + k / b.length * 53
theorem rE (b : List UInt8) (k : Int) : ZP b (k % b.length) * 131 + ZP b ((k * 7 + 3) % b.length) * 1117 + k * 29 + k / b.length * 53 = Lu b k := rfl
def Al (r : Rd) (n : Int) : Int := if n < 1 ∨ (r.b.length : Int) = 0 then 0 else if r.p < r.b.length then ZP r.b r.p % n else bits .xor .i64 (Lu r.b r.p) (Lu r.b r.p / 64) % n
theorem Wc {k l : Int} (h : 0 ≤ k) (hl : 0 < l) : 0 ≤ k / l ∧ k / l ≤ k := ⟨Int.ediv_nonneg h (by omega), Int.ediv_le_self _ h⟩
theorem rD {b : List UInt8} {k : Int} (h : 0 ≤ k) (h1 : k ≤ 1000000000) (h2 : ¬ (b.length : Int) = 0) : 0 ≤ Lu b k ∧ Lu b k ≤ 1000000000000 := by
 have q1 := Ok b (k % b.length)
 have q2 := Ok b ((k * 7 + 3) % b.length)
 have q3 := Wc (l := b.length) h (by omega)
 unfold Lu
 omega
theorem B7 {r : Rd} {n : Int} (h : 0 ≤ r.p) (h1 : r.p ≤ 1000000000) : 0 ≤ Al r n ∧ (1 ≤ n → Al r n < n) := by
 unfold Al
 split
 ·omega
 ·rename_i q
  split
  ·exact ⟨Int.emod_nonneg _ (by omega), fun _ => Int.emod_lt_of_pos _ (by omega)⟩
  ·exact ⟨Int.emod_nonneg _ (by omega), fun _ => Int.emod_lt_of_pos _ (by omega)⟩
theorem jw {r : Rd} {n : Int} (h : n < 1 ∨ (r.b.length : Int) = 0) : Al r n = 0 := if_pos h
theorem vX {r : Rd} {n : Int} (h0 : ¬ n < 1) (h : ¬ (r.b.length : Int) = 0) (h1 : r.p < r.b.length) : ZP r.b r.p % n = Al r n := by
 unfold Al; rw [if_neg (by omega), if_pos h1]
theorem vY {r : Rd} {n : Int} (h0 : ¬ n < 1) (h : ¬ (r.b.length : Int) = 0) (h1 : ¬ r.p < r.b.length) : bits .xor .i64 (Lu r.b r.p) (Lu r.b r.p / 64) % n = Al r n := by
 unfold Al; rw [if_neg (by omega), if_neg h1]
def Rd.nx (r : Rd) (k : Int) : Rd := ⟨r.b, r.p + k⟩
theorem AK (r : Rd) (k : Int) : (r.nx k).p = r.p + k := rfl
theorem B2 (r : Rd) (k : Int) : (r.nx k).b = r.b := rfl
theorem Cg (r : Rd) (k : Int) : (⟨r.b, r.p + k⟩ : Rd) = r.nx k := rfl
theorem ze {x y : Int} (h : x = y) : T.v (.int .i64 x) = T.v (.int .i64 y) := by rw [h]
def HV : Mt := GW (lc EL (lc BA l0)) (fun p => 0 ≤ p.1.p ∧ p.1.p ≤ 1000000000) (fun p => ([EL.enc (p.1.nx 1), BA.enc p.2.1], .t (.v (.int .i64 (Al p.1 p.2.1)))))
section
attribute [local go_sem] AK B2 BD BK BS Wp aV JV Rp NT lm Int.add_sub_cancel tl rE A7 AS.opn AS.cls AS.nilb AS.renb AS.up Bool.not_false Bool.not_true List.set_set List.set_cons_zero List.set_cons_succ List.set_nil List.mem_singleton forall_eq
set_option maxHeartbeats 1600000 in
theorem qE {G : Gt} (hG : Ai G) : Gd G 71 (AM HV) := by
 refine JF (dp := fun _ => true) (fn := Tryz.f71) (n := 2) rfl hG ?_
 rintro ⟨r, n, ⟨⟩⟩ hpre
 simp -implicitDefEqProofs only [Tryz.f71, go_sem, seval] at hpre ⊢
 obtain ⟨h1, h2⟩ := hpre
 try dsimp only at h1 h2
 have g1 := Ok r.b r.p
 have g2 := Ok r.b (r.p % r.b.length)
 have g3 := Ok r.b ((r.p * 7 + 3) % r.b.length)
 by_cases h0 : (r.b.length : Int) = 0
 ·with_reducible repeat' (first | apply ai | intro _ | ((first | apply s1 | apply s3 | apply s4) <;> intro hb <;> simp -implicitDefEqProofs only [hb, go_sem, seval] <;> try simp only [qz] at hb))
  all_goals (try simp only [maxLen, tn] at *)
  all_goals first | rfl | omega | (rw [jw (by omega)]; done) | contradiction
 ·have g4 := Wc (l := r.b.length) h1 (by omega)
  have g5 := rD h1 h2 h0
  have g6 := Int.emod_nonneg r.p h0
  have g7 := Int.emod_lt_of_pos r.p (b := r.b.length) (by omega)
  have g8 := Int.emod_nonneg (r.p * 7 + 3) h0
  have g9 := Int.emod_lt_of_pos (r.p * 7 + 3) (b := r.b.length) (by omega)
  have gx := Wc (l := 64) g5.1 (by decide)
  have gy := se (x := Lu r.b r.p) (y := Lu r.b r.p / 64) g5.1 (by omega) gx.1 (by omega)
  with_reducible repeat' (first | apply ai | intro _ | ((first | apply s1 | apply s3 | apply s4) <;> intro hb <;> simp -implicitDefEqProofs only [hb, go_sem, seval] <;> try simp only [qz] at hb))
  all_goals (try simp only [maxLen, tn] at *)
  all_goals first | rfl | omega | (rw [jw (by omega)]; done) | with_reducible exact ze (vX (by assumption) (by assumption) (by assumption)) | with_reducible exact ze (vY (by assumption) (by assumption) (by assumption)) | contradiction
end
theorem JB {x0 x1 x2 x3 : T} : Bv 1 4 [x0, x1, x2, x3] = [[x0], [x1], [x2], [x3]] := rfl
theorem JC {x0 x1 x2 x3 x4 : T} : Bv 1 5 [x0, x1, x2, x3, x4] = [[x0], [x1], [x2], [x3], [x4]] := rfl
theorem JD {x0 x1 x2 x3 x4 x5 x6 : T} : Bv 1 7 [x0, x1, x2, x3, x4, x5, x6] = [[x0], [x1], [x2], [x3], [x4], [x5], [x6]] := rfl
theorem FT {x0 x1 x2 x3 x4 x5 x6 x7 x8 x9 x10 : T} : Bv 1 11 [x0, x1, x2, x3, x4, x5, x6, x7, x8, x9, x10] = [[x0], [x1], [x2], [x3], [x4], [x5], [x6], [x7], [x8], [x9], [x10]] := rfl
theorem FU {x0 x1 x2 x3 x4 x5 x6 x7 x8 x9 x10 x11 : T} : Bv 1 12 [x0, x1, x2, x3, x4, x5, x6, x7, x8, x9, x10, x11] = [[x0], [x1], [x2], [x3], [x4], [x5], [x6], [x7], [x8], [x9], [x10], [x11]] := rfl
theorem By (r : Rd) (a b : Int) : (r.nx a).nx b = r.nx (a + b) := by unfold Rd.nx; simp only [Int.add_assoc]
theorem Bo (r : Rd) : (⟨r.b, r.p⟩ : Rd) = r := rfl
theorem Br (r : Rd) (a b : Int) : r.p + a + b = r.p + (a + b) := Int.add_assoc _ _ _
theorem Gy {a : ByteArray} {t : List (List T)} : Ah.decL ([.v (.string a)] :: t) = (Ah.decL t).map (a :: ·) := by
 show BC Ah.dec _ = (BC Ah.dec t).map _
 simp only [BC, OI]
 cases BC Ah.dec t <;> rfl
theorem Fo {a : Int} {t : List (List T)} : Da.decL ([.v (.int .i64 a)] :: t) = (Da.decL t).map (a :: ·) := by
 show BC Da.dec _ = (BC Da.dec t).map _
 simp only [BC, OH]
 cases BC Da.dec t <;> rfl
def OB (r : Rd) (l : List ByteArray) : ByteArray := l.getD (Al r l.length).toNat default
def Gh (r : Rd) (l : List Int) : Int := l.getD (Al r l.length).toNat default
theorem Hg {r : Rd} {l : List ByteArray} (h : 0 ≤ r.p) (h1 : r.p ≤ 1000000000) (hl : 1 ≤ l.length) : OB r l ∈ l := by
 have := B7 (n := l.length) h h1
 exact AE (by omega)
theorem Jn {r : Rd} {l : List Int} (h : 0 ≤ r.p) (h1 : r.p ≤ 1000000000) (hl : 1 ≤ l.length) : Gh r l ∈ l := by
 have := B7 (n := l.length) h h1
 exact AE (by omega)
def IG : Mt := GW (lc EL (lc (Ah.aow true 1) l0)) (fun p => 0 ≤ p.1.p ∧ p.1.p ≤ 1000000000 ∧ 1 ≤ p.2.1.length ∧ p.2.1.length ≤ 1000) (fun p => ([EL.enc (p.1.nx 1), (Ah.aow true 1).enc p.2.1], .t (.v (.string (OB p.1 p.2.1)))))
section
attribute [local go_sem] HV AK B2 BD BK BS By Cg Bo Br A7 lm List.length_append List.length_cons List.length_nil List.map_append List.map_nil Nat.zero_add List.nil_append AS.opn AS.cls AS.nilb AS.renb AS.up Bool.not_false Bool.not_true List.set_set List.set_cons_zero List.set_cons_succ List.set_nil List.mem_singleton forall_eq AZ
set_option maxHeartbeats 800000 in
theorem cz {G : Gt} (hG : Ai G) (hh : G.e 71 = AM HV) : Gd G 113 (AM IG) := by
 refine JF (dp := fun _ => true) (fn := Tryz.f113) (n := 2) rfl hG ?_
 rintro ⟨r, l, ⟨⟩⟩ hpre
 simp -implicitDefEqProofs only [Tryz.f113, go_sem, hh, Int.reduceAdd, seval] at hpre ⊢
 obtain ⟨h1, h2, h3, h4⟩ := hpre
 try dsimp only at h1 h2 h3 h4
 have hb := B7 (n := l.length) h1 h2
 with_reducible repeat' (first | apply ai | intro _ | ((first | apply s1 | apply s3 | apply s4) <;> intro hb <;> simp -implicitDefEqProofs only [hb, go_sem, hh, Int.reduceAdd, seval] <;> try simp only [qz] at hb))
 all_goals (try simp only [maxLen, tn] at *)
 all_goals first | rfl | omega | decide | assumption | skip
end
def Ts : Mt := GW (lc EL (lc (Da.aow true 1) l0)) (fun p => 0 ≤ p.1.p ∧ p.1.p ≤ 1000000000 ∧ 1 ≤ p.2.1.length ∧ p.2.1.length ≤ 1000) (fun p => ([EL.enc (p.1.nx 1), (Da.aow true 1).enc p.2.1], .t (.v (.int .i64 (Gh p.1 p.2.1)))))
section
attribute [local go_sem] HV AK B2 BD BK BS By Cg Bo Br A7 lm List.length_append List.length_cons List.length_nil List.map_append List.map_nil Nat.zero_add List.nil_append AS.opn AS.cls AS.nilb AS.renb AS.up Bool.not_false Bool.not_true List.set_set List.set_cons_zero List.set_cons_succ List.set_nil List.mem_singleton forall_eq AZ
set_option maxHeartbeats 800000 in
theorem pU {G : Gt} (hG : Ai G) (hh : G.e 71 = AM HV) : Gd G 24 (AM Ts) := by
 refine JF (dp := fun _ => true) (fn := Tryz.f24) (n := 2) rfl hG ?_
 rintro ⟨r, l, ⟨⟩⟩ hpre
 simp -implicitDefEqProofs only [Tryz.f24, go_sem, hh, Int.reduceAdd, seval] at hpre ⊢
 obtain ⟨h1, h2, h3, h4⟩ := hpre
 try dsimp only at h1 h2 h3 h4
 have hb := B7 (n := l.length) h1 h2
 with_reducible repeat' (first | apply ai | intro _ | ((first | apply s1 | apply s3 | apply s4) <;> intro hb <;> simp -implicitDefEqProofs only [hb, go_sem, hh, Int.reduceAdd, seval] <;> try simp only [qz] at hb))
 all_goals (try simp only [maxLen, tn] at *)
 all_goals first | rfl | omega | decide | assumption | skip
end
def uV : List ByteArray := [⟨#[111, 110, 101, 46, 111, 114, 103]⟩, ⟨#[116, 119, 111, 46, 111, 114, 103]⟩, ⟨#[104, 117, 98, 46, 110, 101, 116]⟩, ⟨#[120, 46, 99, 111, 109]⟩, ⟨#[102, 97, 114, 46, 99, 111, 109]⟩, ⟨#[111, 116, 104, 101, 114, 46, 99, 111, 109]⟩, ⟨#[97, 46, 111, 110, 101, 46, 111, 114, 103]⟩]
def wl : List ByteArray := [⟨#[97]⟩, ⟨#[98]⟩, ⟨#[97, 110, 110]⟩, ⟨#[98, 111, 98, 55]⟩]
def vB : List ByteArray := [⟨#[104, 101, 108, 108, 111]⟩, ⟨#[]⟩, ⟨#[46]⟩, ⟨#[46, 46]⟩, ⟨#[46, 100, 111, 116]⟩, ⟨#[97, 32, 108, 111, 110, 103, 101, 114, 32, 108, 105, 110, 101, 32, 111, 102, 32, 116, 101, 120, 116]⟩, ⟨#[72, 111, 112, 58, 32, 111, 110, 101, 46, 111, 114, 103]⟩, ⟨#[72, 111, 112, 58, 32]⟩, ⟨#[73, 100, 58, 32, 55]⟩, ⟨#[110, 111, 116, 32, 100, 101, 108, 105, 118, 101, 114, 101, 100, 58]⟩, ⟨#[60, 97, 64, 111, 110, 101, 46, 111, 114, 103, 62]⟩, ⟨#[108, 105, 110, 101, 32, 116, 104, 97, 116, 32, 105, 115, 32, 101, 120, 97, 99, 116, 108, 121, 32, 102, 111, 114, 116, 121, 32, 98, 121, 116, 101, 115, 32, 108, 111, 110, 103, 46, 46, 33]⟩]
def uW (r : Rd) : ByteArray := OB r uV
def fg (r : Rd) : ByteArray := OB r vB
def Ex (r : Rd) : Ad := ⟨OB r wl, uW (r.nx 1)⟩
def Cc (r : Rd) : Ad × Rd :=
 if Al (r.nx 2) 10 = 0 then (⟨OB (r.nx 3) [⟨#[]⟩, ⟨#[65]⟩, ⟨#[116, 111, 111, 108, 111, 110, 103, 110, 97, 109, 101]⟩, ⟨#[97, 64, 98]⟩], (Ex r).domain⟩, r.nx 4)
 else if Al (r.nx 2) 10 = 1 then (⟨(Ex r).user, OB (r.nx 3) [⟨#[]⟩, ⟨#[97, 46, 46, 98]⟩, ⟨#[46, 97]⟩, ⟨#[97, 46, 98, 46, 99, 46, 100]⟩, ⟨#[85, 112, 46, 111, 114, 103]⟩]⟩, r.nx 4)
 else if Al (r.nx 2) 10 = 2 then (⟨⟨#[]⟩, ⟨#[]⟩⟩, r.nx 3)
 else (Ex r, r.nx 3)
def l7 : Mt := GW (lc EL l0) (fun p => 0 ≤ p.1.p ∧ p.1.p ≤ 999999990) (fun p => ([EL.enc (p.1.nx 1)], .t (.v (.string (uW p.1)))))
section
attribute [local go_sem] IG AK B2 BD BK BS By Cg Bo Br A7 lm List.length_append List.length_cons List.length_nil List.map_append List.map_nil Nat.zero_add List.nil_append AS.opn AS.cls AS.nilb AS.renb AS.up Bool.not_false Bool.not_true List.set_set List.set_cons_zero List.set_cons_succ List.set_nil List.mem_singleton forall_eq Gy JB JC JD FT FU
set_option maxHeartbeats 800000 in
theorem dL {G : Gt} (hG : Ai G) (hh : G.e 113 = AM IG) : Gd G 136 (AM l7) := by
 refine JF (dp := fun _ => true) (fn := Tryz.f136) (n := 1) rfl hG ?_
 rintro ⟨r, ⟨⟩⟩ hpre
 simp -implicitDefEqProofs only [Tryz.f136, go_sem, hh, Int.reduceAdd, seval] at hpre ⊢
 obtain ⟨h1, h2⟩ := hpre
 try dsimp only at h1 h2
 with_reducible repeat' (first | apply ai | intro _ | ((first | apply s1 | apply s3 | apply s4) <;> intro hb <;> simp -implicitDefEqProofs only [hb, go_sem, hh, Int.reduceAdd, seval] <;> try simp only [qz] at hb))
 all_goals (try simp only [maxLen, tn] at *)
 all_goals first | rfl | omega | decide | assumption | skip
end
def mn : Mt := GW (lc EL l0) (fun p => 0 ≤ p.1.p ∧ p.1.p ≤ 999999990) (fun p => ([EL.enc (p.1.nx 1)], .t (.v (.string (fg p.1)))))
section
attribute [local go_sem] IG AK B2 BD BK BS By Cg Bo Br A7 lm List.length_append List.length_cons List.length_nil List.map_append List.map_nil Nat.zero_add List.nil_append AS.opn AS.cls AS.nilb AS.renb AS.up Bool.not_false Bool.not_true List.set_set List.set_cons_zero List.set_cons_succ List.set_nil List.mem_singleton forall_eq Gy JB JC JD FT FU
set_option maxHeartbeats 800000 in
theorem eX {G : Gt} (hG : Ai G) (hh : G.e 113 = AM IG) : Gd G 229 (AM mn) := by
 refine JF (dp := fun _ => true) (fn := Tryz.f229) (n := 1) rfl hG ?_
 rintro ⟨r, ⟨⟩⟩ hpre
 simp -implicitDefEqProofs only [Tryz.f229, go_sem, hh, Int.reduceAdd, seval] at hpre ⊢
 obtain ⟨h1, h2⟩ := hpre
 try dsimp only at h1 h2
 with_reducible repeat' (first | apply ai | intro _ | ((first | apply s1 | apply s3 | apply s4) <;> intro hb <;> simp -implicitDefEqProofs only [hb, go_sem, hh, Int.reduceAdd, seval] <;> try simp only [qz] at hb))
 all_goals (try simp only [maxLen, tn] at *)
 all_goals first | rfl | omega | decide | assumption | skip
end
def tt : Mt := GW (lc EL l0) (fun p => 0 ≤ p.1.p ∧ p.1.p ≤ 999999980) (fun p => ([EL.enc (p.1.nx 2)], .agg [.t (.v (.string (Ex p.1).user)), .t (.v (.string (Ex p.1).domain))]))
section
attribute [local go_sem] IG l7 AK B2 BD BK BS By Cg Bo Br A7 lm List.length_append List.length_cons List.length_nil List.map_append List.map_nil Nat.zero_add List.nil_append AS.opn AS.cls AS.nilb AS.renb AS.up Bool.not_false Bool.not_true List.set_set List.set_cons_zero List.set_cons_succ List.set_nil List.mem_singleton forall_eq Gy JB JC JD FT FU
set_option maxHeartbeats 800000 in
theorem qF {G : Gt} (hG : Ai G) (hh : G.e 113 = AM IG ∧ G.e 136 = AM l7) : Gd G 72 (AM tt) := by
 refine JF (dp := fun _ => true) (fn := Tryz.f72) (n := 1) rfl hG ?_
 rintro ⟨r, ⟨⟩⟩ hpre
 simp -implicitDefEqProofs only [Tryz.f72, go_sem, hh, Int.reduceAdd, seval] at hpre ⊢
 obtain ⟨h1, h2⟩ := hpre
 try dsimp only at h1 h2
 with_reducible repeat' (first | apply ai | intro _ | ((first | apply s1 | apply s3 | apply s4) <;> intro hb <;> simp -implicitDefEqProofs only [hb, go_sem, hh, Int.reduceAdd, seval] <;> try simp only [qz] at hb))
 all_goals (try simp only [maxLen, tn] at *)
 all_goals first | rfl | omega | decide | assumption | skip
end
theorem R2 {r : Rd} (h : Al (r.nx 2) 10 = 0) : Cc r = (⟨OB (r.nx 3) [⟨#[]⟩, ⟨#[65]⟩, ⟨#[116, 111, 111, 108, 111, 110, 103, 110, 97, 109, 101]⟩, ⟨#[97, 64, 98]⟩], (Ex r).domain⟩, r.nx 4) := if_pos h
theorem R3 {r : Rd} (h0 : ¬ Al (r.nx 2) 10 = 0) (h : Al (r.nx 2) 10 = 1) : Cc r = (⟨(Ex r).user, OB (r.nx 3) [⟨#[]⟩, ⟨#[97, 46, 46, 98]⟩, ⟨#[46, 97]⟩, ⟨#[97, 46, 98, 46, 99, 46, 100]⟩, ⟨#[85, 112, 46, 111, 114, 103]⟩]⟩, r.nx 4) := by unfold Cc; rw [if_neg h0, if_pos h]
theorem R4 {r : Rd} (h0 : ¬ Al (r.nx 2) 10 = 0) (h1 : ¬ Al (r.nx 2) 10 = 1) (h : Al (r.nx 2) 10 = 2) : Cc r = (⟨⟨#[]⟩, ⟨#[]⟩⟩, r.nx 3) := by unfold Cc; rw [if_neg h0, if_neg h1, if_pos h]
theorem R5 {r : Rd} (h0 : ¬ Al (r.nx 2) 10 = 0) (h1 : ¬ Al (r.nx 2) 10 = 1) (h : ¬ Al (r.nx 2) 10 = 2) : Cc r = (Ex r, r.nx 3) := by unfold Cc; rw [if_neg h0, if_neg h1, if_neg h]
def lu : Mt := GW (lc EL l0) (fun p => 0 ≤ p.1.p ∧ p.1.p ≤ 999999950) (fun p => ([EL.enc (Cc p.1).2], .agg [.t (.v (.string (Cc p.1).1.user)), .t (.v (.string (Cc p.1).1.domain))]))
section
attribute [local go_sem] tt HV IG AK B2 BD BK BS By Cg Bo Br A7 lm List.length_append List.length_cons List.length_nil List.map_append List.map_nil Nat.zero_add List.nil_append AS.opn AS.cls AS.nilb AS.renb AS.up Bool.not_false Bool.not_true List.set_set List.set_cons_zero List.set_cons_succ List.set_nil List.mem_singleton forall_eq Gy JB JC JD FT FU
set_option maxHeartbeats 1600000 in
theorem c8 {G : Gt} (hG : Ai G) (hh : G.e 72 = AM tt ∧ G.e 71 = AM HV ∧ G.e 113 = AM IG) : Gd G 114 (AM lu) := by
 refine JF (dp := fun _ => true) (fn := Tryz.f114) (n := 1) rfl hG ?_
 rintro ⟨r, ⟨⟩⟩ hpre
 obtain ⟨h1, h2⟩ := hpre
 try dsimp only at h1 h2 ⊢
 by_cases q0 : Al (r.nx 2) 10 = 0
 ·rw [R2 q0]
  simp -implicitDefEqProofs only [Tryz.f114, q0, eq_self, decide_true, decide_false, go_sem, hh, Int.reduceAdd, seval]
  with_reducible repeat' (first | apply ai | intro _ | ((first | apply s1 | apply s3 | apply s4) <;> intro hb <;> simp -implicitDefEqProofs only [hb, go_sem, hh, Int.reduceAdd, seval] <;> try simp only [qz] at hb))
  all_goals (try simp only [maxLen, tn] at *)
  all_goals first | rfl | omega | decide | assumption | skip
 ·by_cases q1 : Al (r.nx 2) 10 = 1
  ·rw [R3 q0 q1]
   simp -implicitDefEqProofs only [Tryz.f114, q1, Int.reduceEq, eq_self, decide_true, decide_false, go_sem, hh, Int.reduceAdd, seval]
   with_reducible repeat' (first | apply ai | intro _ | ((first | apply s1 | apply s3 | apply s4) <;> intro hb <;> simp -implicitDefEqProofs only [hb, go_sem, hh, Int.reduceAdd, seval] <;> try simp only [qz] at hb))
   all_goals (try simp only [maxLen, tn] at *)
   all_goals first | rfl | omega | decide | assumption | skip
  ·by_cases q2 : Al (r.nx 2) 10 = 2
   ·rw [R4 q0 q1 q2]
    simp -implicitDefEqProofs only [Tryz.f114, q2, Int.reduceEq, eq_self, decide_true, decide_false, go_sem, hh, Int.reduceAdd, seval]
    with_reducible repeat' (first | apply ai | intro _ | ((first | apply s1 | apply s3 | apply s4) <;> intro hb <;> simp -implicitDefEqProofs only [hb, go_sem, hh, Int.reduceAdd, seval] <;> try simp only [qz] at hb))
    all_goals (try simp only [maxLen, tn] at *)
    all_goals first | rfl | omega | decide | assumption | skip
   ·rw [R5 q0 q1 q2]
    simp -implicitDefEqProofs only [Tryz.f114, q0, q1, q2, eq_self, decide_true, decide_false, go_sem, hh, Int.reduceAdd, seval]
    with_reducible repeat' (first | apply ai | intro _ | ((first | apply s1 | apply s3 | apply s4) <;> intro hb <;> simp -implicitDefEqProofs only [hb, go_sem, hh, Int.reduceAdd, seval] <;> try simp only [qz] at hb))
    all_goals (try simp only [maxLen, tn] at *)
    all_goals first | rfl | omega | decide | assumption | skip
end
def Ln (r : Rd) (n : Nat) : List ByteArray := (List.range n).map fun (j : Nat) => fg (r.nx (j : Int))
theorem lV (r : Rd) (n : Nat) : Ln r (n + 1) = Ln r n ++ [fg (r.nx n)] := by
 unfold Ln; rw [List.range_succ, List.map_append]; rfl
theorem Og (r : Rd) (n : Nat) : (Ln r n).length = n := by unfold Ln; simp
def JA (r : Rd) (m : Int) : List ByteArray := Ln (r.nx 1) (Al r (m + 1)).toNat
def M6 (r : Rd) (m : Int) : Rd := r.nx (1 + Al r (m + 1))
def me : Mt := GW (lc EL (lc BA l0)) (fun p => 0 ≤ p.1.p ∧ p.1.p ≤ 999999000 ∧ 0 ≤ p.2.1 ∧ p.2.1 ≤ 100) (fun p => ([EL.enc (M6 p.1 p.2.1), BA.enc p.2.1], .o true 1 ((JA p.1 p.2.1).map AH)))
section
attribute [local go_sem] HV mn AK B2 BD BK BS By Cg Bo Br A7 lm List.length_append List.length_cons List.length_nil List.map_append List.map_nil Nat.zero_add List.nil_append AS.opn AS.cls AS.nilb AS.renb AS.up Bool.not_false Bool.not_true List.set_set List.set_cons_zero List.set_cons_succ List.set_nil List.mem_singleton forall_eq
set_option maxHeartbeats 1600000 in
theorem eK {G : Gt} (hG : Ai G) (hh : G.e 71 = AM HV ∧ G.e 229 = AM mn) : Gd G 209 (AM me) := by
 refine JF (dp := fun _ => true) (fn := Tryz.f209) (n := 2) rfl hG ?_
 rintro ⟨r, m, ⟨⟩⟩ hpre
 simp -implicitDefEqProofs only [Tryz.f209, go_sem, hh, Int.reduceAdd, seval] at hpre ⊢
 obtain ⟨h1, h2, h3, h4⟩ := hpre
 try dsimp only at h1 h2 h3 h4
 have hb := B7 (n := m + 1) h1 (by omega)
 obtain ⟨n, hn⟩ : ∃ n : Nat, n = (Al r (m + 1)).toNat := ⟨_, rfl⟩
 have hn2 : Al r (m + 1) = n := by omega
 have e1 : M6 r m = r.nx (1 + n) := by unfold M6; rw [hn2]
 have e2 : JA r m = Ln (r.nx 1) n := by unfold JA; rw [← hn]
 rw [e1, e2]
 simp -implicitDefEqProofs only [hn2, go_sem, hh, Int.reduceAdd, seval]
 with_reducible repeat' (first | apply ai | intro _ | ((first | apply s1 | apply s3 | apply s4) <;> intro hb <;> simp -implicitDefEqProofs only [hb, go_sem, hh, Int.reduceAdd, seval] <;> try simp only [qz] at hb))
 all_goals (try simp only [maxLen, tn] at *)
 all_goals first | rfl | omega | decide | assumption | skip
 refine AF [(5, 1905, true, 1)] (ι := {i : Nat // i ≤ n}) (fun p => ⟨[(0, .pb 1900 0), (5, .h 1905), (6, .t (.v (.int .i64 (n - p.1))))], [(1900, some (.box [.t (.sl 1 (r.b.map CT)), .t (.v (.int .i64 (r.p + (1 + p.1))))])), (1905, some (.arr true 1 ((Ln (r.nx 1) p.1).map AH)))]⟩) (fun p => n - p.1) ⟨0, by simp⟩ rfl ?_ ?_
 ·simp -implicitDefEqProofs only [go_sem, hh, Int.reduceAdd, seval]
  simp [Ln]
 ·rintro ⟨i, hi⟩
  have hlen := Og (r.nx 1) i
  by_cases hlt : (n : Int) - i > 0
  ·simp -implicitDefEqProofs only [hlt, decide_true, tn, go_sem, hh, Int.reduceAdd, seval]
   with_reducible repeat' (first | apply ai | intro _ | ((first | apply s1 | apply s3 | apply s4) <;> intro hb <;> simp -implicitDefEqProofs only [hb, go_sem, hh, Int.reduceAdd, seval] <;> try simp only [qz] at hb))
   all_goals (try simp only [maxLen, tn] at *)
   all_goals first | rfl | omega | decide | assumption | skip
   refine ⟨⟨i + 1, by omega⟩, by dsimp only; omega, ?_⟩
   simp -implicitDefEqProofs only [lV, go_sem, hh, Int.reduceAdd, seval]
   try simp
   omega
  ·have hz : i = n := by omega
   subst hz
   simp -implicitDefEqProofs only [hlt, decide_false, go_sem, hh, Int.reduceAdd, seval]
   with_reducible repeat' (first | apply ai | intro _ | ((first | apply s1 | apply s3 | apply s4) <;> intro hb <;> simp -implicitDefEqProofs only [hb, go_sem, hh, Int.reduceAdd, seval] <;> try simp only [qz] at hb))
   all_goals (try simp only [maxLen, tn] at *)
   all_goals first | rfl | omega | decide | assumption | skip
end
end Go.V
