/- The row. No condition. -/
import Derived.Test.YtcihecoggoeelaaGreatDoorMA
import Derived.Shelf.Abstract
import Derived.Shelf.RegionOpenPlain
import Derived.WalkKit
import Derived.Lib.Walk
import Derived.Lib.SliceRun
import Derived.Lib.AppendZerosOnto
import Derived.Test.YtcihecoggoeelaaGreatDoorZB
namespace Go.V
open Go Go.Proofs
set_option maxRecDepth 100000
set_option linter.unusedSimpArgs false
set_option linter.unusedVariables false
def Bk (c : Cf) (a : Ad) : Prop := a.domain ∈ c.own ∨ ¬ JO c a.domain = ⟨#[]⟩
theorem IN {c : Cf} {a : Ad} : (a.domain ∈ c.own ∨ ¬ WC c a.domain = ⟨#[]⟩) ↔ Bk c a := by
 unfold Bk
 by_cases h : a.domain ∈ c.own
 ·exact ⟨fun _ => .inl h, fun _ => .inl h⟩
 ·rw [WD h]
def pA : Ct := Ak (lc IH.ag (lc DQ.ag l0)) (fun p => True) (fun p => .t (.v (.bool (BM (Bk p.1 p.2.1)))))
section
attribute [local go_sem] eI RF AX AW
theorem rK {G : Gt} (hG : Ah G) (hh : G.e 85 = AA 0 eI ∧ G.e 112 = AA 0 RF) : Gd G 62 (AA 0 pA) := by
 refine gr (fn := Tryz.f62) (n := 2) rfl rfl hG ?_
 rintro ⟨c, a, ⟨⟩⟩ hpre
 simp -implicitDefEqProofs only [Tryz.f62, go_sem, hh, seval] at hpre ⊢
 with_reducible repeat' (first | apply ai | intro _ | ((first | apply s1 | apply s3 | apply s4) <;> intro hb <;> simp -implicitDefEqProofs only [hb, go_sem, hh, seval] <;> try simp only [qz] at hb))
 all_goals first | rfl | omega | skip
 all_goals (try simp only [AX, AW] at *)
 all_goals first
  | exact uT (.inl (by assumption))
  | exact uB (by simp only [qc, qb]; exact ⟨fun z => .inr z, fun q => q.elim (fun z => absurd z (by assumption)) id⟩)
  | skip
end
def yA : Ct := Ak (lc IH.ag (lc DQ.ag l0)) (fun p => HT p.1 ∧ HQ p.1 ∧ p.2.1.domain.size ≤ 2000000 ∧ C3 p.2.1.domain) (fun p => .t (.v (.bool (BM (Bk p.1 p.2.1)))))
section
attribute [local go_sem] kE xH AX AW
theorem qy {G : Gt} (hG : Ah G) (hh : G.e 36 = AA 0 kE ∧ G.e 37 = AA 0 xH) : Gd G 45 (AA 0 yA) := by
 refine gr (fn := Tryz.f45) (n := 2) rfl rfl hG ?_
 rintro ⟨c, a, ⟨⟩⟩ hpre
 simp -implicitDefEqProofs only [Tryz.f45, go_sem, hh, seval] at hpre ⊢
 obtain ⟨h1, h2, h3, h4⟩ := hpre
 with_reducible repeat' (first | apply ai | intro _ | ((first | apply s1 | apply s3 | apply s4) <;> intro hb <;> simp -implicitDefEqProofs only [hb, go_sem, hh, seval] <;> try simp only [qz] at hb))
 all_goals first | rfl | omega | assumption | skip
 all_goals (try simp only [AX, AW] at *)
 all_goals first
  | exact uT (IN.1 (.inl (by assumption)))
  | exact uB (by simp only [qc, qb]; exact ⟨fun z => IN.1 (.inr z), fun q => (IN.2 q).elim (fun z => absurd z (by assumption)) id⟩)
  | skip
end
inductive LZ where
 | wrong
 | refused (h : Hs)
def LZ.enc : LZ → AV
 | .wrong  => .t (.fn 46 [])
 | .refused h => .t (.fn 64 [.rop (Ai h)])
def LZ.dec : AV → Option LZ
 | .t (.fn 46 []) => some (.wrong )
 | .t (.fn 64 [.rop c0]) => (D7.dec c0).map .refused
 | _ => none
def LZ.sem : LZ → Ad → Prop
 | .wrong , x => ¬ BS x
 | .refused h, x => ¬ Bk h.conf x
def LZ.pre : LZ → Ad → Prop
 | .wrong , x => x.domain.size ≤ 2000000
 | .refused h, x => HT h.conf ∧ HQ h.conf ∧ x.domain.size ≤ 2000000 ∧ C3 x.domain
def Ql : AD LZ where
 enc := LZ.enc
 dec := LZ.dec
 ed := fun f => by
  cases f
  all_goals first | rfl | (show (D7.dec (D7.enc _)).map _ = _; rw [D7.ed]; rfl)
 de := fun x f h => by
  unfold LZ.dec at h
  split at h
  all_goals first | (cases h; rfl; done) | (obtain ⟨v, hv, rfl⟩ := Option.map_eq_some_iff.1 h; rw [D7.de _ _ hv]; rfl) | cases h
theorem Jf  : Ql.dec (.t (.fn 46 [])) = some (.wrong ) := rfl
theorem Jh  : Ql.enc (.wrong ) = .t (.fn 46 []) := rfl
theorem Jg {c0 : List T} : Ql.dec (.t (.fn 64 [.rop c0])) = (D7.dec c0).map .refused := rfl
theorem Ji {v : Hs} : Ql.enc (.refused v) = .t (.fn 64 [.rop (Ai v)]) := rfl
def yB : Ct := Ak (lc DQ.ag l0) (fun p => p.1.domain.size ≤ 2000000) (fun p => .t (.v (.bool (BM (¬ BS p.1)))))
section
attribute [local go_sem] cz BQ BP Bool.not_true Bool.not_false By DO
theorem q8 {G : Gt} (hG : Ah G) (hh : G.e 44 = AA 0 cz) : Gd G 46 (AA 0 yB) := by
 refine gr (fn := Tryz.f46) (n := 1) rfl rfl hG ?_
 rintro ⟨x, ⟨⟩⟩ hpre
 simp -implicitDefEqProofs only [Tryz.f46, go_sem, hh, seval] at hpre ⊢
 with_reducible repeat' (first | apply ai | intro _ | ((first | apply s1 | apply s3 | apply s4) <;> intro hb <;> simp -implicitDefEqProofs only [hb, go_sem, hh, seval] <;> try simp only [qz] at hb))
 all_goals first | rfl | omega | exact hpre | skip
 all_goals (try (simp only [E8]; done))
 all_goals first | rfl | (rw [BR]; done) | (rw [BR, decide_eq_decide.2]; simp [CA]; done) | (rw [BR]; simp [CA]; done)
end
def yE : Ct := Ak (lc DQ.ag (lc D7.ap l0)) (fun p => HT p.2.1.conf ∧ HQ p.2.1.conf ∧ p.1.domain.size ≤ 2000000 ∧ C3 p.1.domain) (fun p => .t (.v (.bool (BM (¬ Bk p.2.1.conf p.1)))))
section
attribute [local go_sem] yA BQ BP Bool.not_true Bool.not_false By DO
theorem rM {G : Gt} (hG : Ah G) (hh : G.e 45 = AA 0 yA) : Gd G 64 (AA 0 yE) := by
 refine gr (fn := Tryz.f64) (n := 2) rfl rfl hG ?_
 rintro ⟨x, h, ⟨⟩⟩ hpre
 simp -implicitDefEqProofs only [Tryz.f64, go_sem, hh, seval] at hpre ⊢
 with_reducible repeat' (first | apply ai | intro _ | ((first | apply s1 | apply s3 | apply s4) <;> intro hb <;> simp -implicitDefEqProofs only [hb, go_sem, hh, seval] <;> try simp only [qz] at hb))
 all_goals first | rfl | omega | exact hpre.1 | exact hpre.2.1 | exact hpre.2.2.1 | exact hpre.2.2.2 | skip
 all_goals (try (simp only [E8]; done))
 all_goals trace_state
end
def yW : Ct := Ak (lc DQ.asl (lc Ql l0)) (fun p => ∀ x ∈ p.1, p.2.1.pre x) (fun p => .t (.v (.int .i64 (BI p.2.1.sem 0 p.1))))
section
attribute [local go_sem] yB yE BQ BP Bool.not_true Bool.not_false By DO Jf Jh Jg Ji Option.map_some
theorem rv {G : Gt} (hG : Ah G) (hh : G.e 46 = AA 0 yB ∧ G.e 64 = AA 0 yE) : Gd G 96 (AA 0 yW) := by
 refine gr (fn := Tryz.f96) (n := 2) rfl rfl hG ?_
 rintro ⟨xs, f, ⟨⟩⟩ hpre
 have hs := hpre
 dsimp only at hs ⊢
 cases f with
 | wrong  =>
   simp -implicitDefEqProofs only [Tryz.f96, go_sem, hh, seval]
   with_reducible repeat' (first | apply ai | intro _ | ((first | apply s1 | apply s3 | apply s4) <;> intro hb <;> simp -implicitDefEqProofs only [hb, go_sem, hh, seval] <;> try simp only [qz] at hb))
   all_goals first | rfl | omega | skip
   refine AE [] (ι := {i : Nat // i ≤ xs.length ∧ BI (LZ.sem (.wrong )) 0 xs = BI (LZ.sem (.wrong )) i (xs.drop i)}) (fun p => ⟨[(0, .t (.sl 2 (xs.map Am))), (1, .t (.fn 46 [])), (7, .t (.v (.int .i64 xs.length))), (8, .t (.v (.int .i64 p.1)))], []⟩) (fun p => xs.length - p.1) ⟨0, Nat.zero_le _, rfl⟩ rfl ?_ ?_
   ·simp -implicitDefEqProofs only [go_sem, hh, seval]
    try simp
   ·rintro ⟨i, hi, hix⟩
    by_cases hlt : (i : Int) < xs.length
    ·have hm : xs.getD (i : Int).toNat default ∈ xs := AF (by omega)
     have hsz := hs _ hm
     cases hb : BM (¬ BS (xs.getD (i : Int).toNat default))
     ·have hq := hb
      simp -implicitDefEqProofs only [hlt, hq, go_sem, hh, seval]
      with_reducible repeat' (first | apply ai | intro _ | ((first | apply s1 | apply s3 | apply s4) <;> intro hb <;> simp -implicitDefEqProofs only [hb, go_sem, hh, seval] <;> try simp only [qz] at hb))
      all_goals (try simp only [maxLen] at *)
      all_goals first | rfl | omega | with_reducible assumption | exact hsz | exact hsz.1 | exact hsz.2 | exact hsz.2 _ (by assumption) | exact hsz.2.1 | exact hsz.2.2.1 | exact hsz.2.2.2 | trivial | skip
      rw [AW, tn] at hb
      refine ⟨⟨i + 1, by omega, ?_⟩, by dsimp only; omega, ?_⟩
      ·rw [hix, EV (p := LZ.sem (.wrong )) (by omega) hb]
      ·simp -implicitDefEqProofs only [go_sem, hh, seval]
       try simp
     ·have hq := hb
      simp -implicitDefEqProofs only [hlt, hq, go_sem, hh, seval]
      with_reducible repeat' (first | apply ai | intro _ | ((first | apply s1 | apply s3 | apply s4) <;> intro hb <;> simp -implicitDefEqProofs only [hb, go_sem, hh, seval] <;> try simp only [qz] at hb))
      all_goals (try simp only [maxLen] at *)
      all_goals first | rfl | omega | with_reducible assumption | exact hsz | exact hsz.1 | exact hsz.2 | exact hsz.2 _ (by assumption) | exact hsz.2.1 | exact hsz.2.2.1 | exact hsz.2.2.2 | trivial | skip
      rw [AX, tn] at hb
      rw [hix, DH (p := LZ.sem (.wrong )) (by omega) hb]
    ·simp -implicitDefEqProofs only [hlt, go_sem, hh, seval]
     with_reducible repeat' (first | apply ai | intro _ | ((first | apply s1 | apply s3 | apply s4) <;> intro hb <;> simp -implicitDefEqProofs only [hb, go_sem, hh, seval] <;> try simp only [qz] at hb))
     all_goals first | rfl | omega | skip
     all_goals (rw [hix, DG (by omega)])
 | refused h =>
   simp -implicitDefEqProofs only [Tryz.f96, go_sem, hh, seval]
   with_reducible repeat' (first | apply ai | intro _ | ((first | apply s1 | apply s3 | apply s4) <;> intro hb <;> simp -implicitDefEqProofs only [hb, go_sem, hh, seval] <;> try simp only [qz] at hb))
   all_goals first | rfl | omega | skip
   refine AE [] (ι := {i : Nat // i ≤ xs.length ∧ BI (LZ.sem (.refused h)) 0 xs = BI (LZ.sem (.refused h)) i (xs.drop i)}) (fun p => ⟨[(0, .t (.sl 2 (xs.map Am))), (1, Ql.enc (.refused h)), (7, .t (.v (.int .i64 xs.length))), (8, .t (.v (.int .i64 p.1)))], []⟩) (fun p => xs.length - p.1) ⟨0, Nat.zero_le _, rfl⟩ rfl ?_ ?_
   ·simp -implicitDefEqProofs only [go_sem, hh, seval]
    try simp
   ·rintro ⟨i, hi, hix⟩
    by_cases hlt : (i : Int) < xs.length
    ·have hm : xs.getD (i : Int).toNat default ∈ xs := AF (by omega)
     have hsz := hs _ hm
     cases hb : BM (¬ Bk h.conf (xs.getD (i : Int).toNat default))
     ·have hq := hb
      simp -implicitDefEqProofs only [hlt, hq, go_sem, hh, seval]
      with_reducible repeat' (first | apply ai | intro _ | ((first | apply s1 | apply s3 | apply s4) <;> intro hb <;> simp -implicitDefEqProofs only [hb, go_sem, hh, seval] <;> try simp only [qz] at hb))
      all_goals (try simp only [maxLen] at *)
      all_goals first | rfl | omega | with_reducible assumption | exact hsz | exact hsz.1 | exact hsz.2 | exact hsz.2 _ (by assumption) | exact hsz.2.1 | exact hsz.2.2.1 | exact hsz.2.2.2 | trivial | skip
      rw [AW, tn] at hb
      refine ⟨⟨i + 1, by omega, ?_⟩, by dsimp only; omega, ?_⟩
      ·rw [hix, EV (p := LZ.sem (.refused h)) (by omega) hb]
      ·simp -implicitDefEqProofs only [go_sem, hh, seval]
       try simp
     ·have hq := hb
      simp -implicitDefEqProofs only [hlt, hq, go_sem, hh, seval]
      with_reducible repeat' (first | apply ai | intro _ | ((first | apply s1 | apply s3 | apply s4) <;> intro hb <;> simp -implicitDefEqProofs only [hb, go_sem, hh, seval] <;> try simp only [qz] at hb))
      all_goals (try simp only [maxLen] at *)
      all_goals first | rfl | omega | with_reducible assumption | exact hsz | exact hsz.1 | exact hsz.2 | exact hsz.2 _ (by assumption) | exact hsz.2.1 | exact hsz.2.2.1 | exact hsz.2.2.2 | trivial | skip
      rw [AX, tn] at hb
      rw [hix, DH (p := LZ.sem (.refused h)) (by omega) hb]
    ·simp -implicitDefEqProofs only [hlt, go_sem, hh, seval]
     with_reducible repeat' (first | apply ai | intro _ | ((first | apply s1 | apply s3 | apply s4) <;> intro hb <;> simp -implicitDefEqProofs only [hb, go_sem, hh, seval] <;> try simp only [qz] at hb))
     all_goals first | rfl | omega | skip
     all_goals (rw [hix, DG (by omega)])
end
def uW : Ct := Ak (lc DQ.asl (lc Ql l0)) (fun p => ∀ x ∈ p.1, p.2.1.pre x) (fun p => .t (.v (.bool (BM (∃ x ∈ p.1, p.2.1.sem x)))))
section
attribute [local go_sem] yW BQ BP Bool.not_true Bool.not_false By DO Jf Jh Jg Ji Option.map_some
theorem rB {G : Gt} (hG : Ah G) (hh : G.e 96 = AA 0 yW) : Gd G 49 (AA 0 uW) := by
 refine gr (fn := Tryz.f49) (n := 2) rfl rfl hG ?_
 rintro ⟨xs, f, ⟨⟩⟩ hpre
 dsimp only at hpre ⊢
 cases f
 all_goals
  simp -implicitDefEqProofs only [Tryz.f49, go_sem, hh, seval]
  with_reducible repeat' (first | apply ai | intro _ | ((first | apply s1 | apply s3 | apply s4) <;> intro hb <;> simp -implicitDefEqProofs only [hb, go_sem, hh, seval] <;> try simp only [qz] at hb))
  all_goals first | rfl | omega | exact hpre | exact hpre _ (by assumption) | skip
  all_goals (rw [← AR (EK _ 0)]; rw [BR])
end
def uU : Ct := Ak (lc TF.ag l0) (fun p => (∀ a ∈ p.1.to, a.domain.size ≤ 2000000) ∧ p.1.frm.domain.size ≤ 2000000 ∧ ∀ s ∈ p.1.body, s.size ≤ 2000000) (fun p => .t (.v (.bool (BM (B6 p.1)))))
section
attribute [local go_sem] o0 Xl uW uX c8 BQ BP Bool.not_true Bool.not_false By DO Jf Jh Jg Ji Dl Dn Dm Do AX AW
set_option maxHeartbeats 800000 in
theorem qO {G : Gt} (hG : Ah G) (hh : G.e 47 = AA 0 o0 ∧ G.e 48 = AA 0 Xl ∧ G.e 49 = AA 0 uW ∧ G.e 50 = AA 0 uX ∧ G.e 51 = AA 0 c8) : Gd G 12 (AA 0 uU) := by
 refine gr (fn := Tryz.f12) (n := 1) rfl rfl hG ?_
 rintro ⟨m, ⟨⟩⟩ hpre
 simp -implicitDefEqProofs only [Tryz.f12, go_sem, hh, seval] at hpre ⊢
 with_reducible repeat' (first | apply ai | intro _ | ((first | apply s1 | apply s3 | apply s4) <;> intro hb <;> simp -implicitDefEqProofs only [hb, go_sem, hh, seval] <;> try simp only [qz] at hb))
 all_goals (try simp only [AX, AW, E8, Decidable.not_not, Classical.not_not] at *)
 all_goals first | rfl | omega | exact hpre.1 | exact hpre.2.1 | exact hpre.2.2 | exact hpre.1 _ (by assumption) | exact hpre.2.2 _ (by assumption) | skip
 ·refine congrArg (fun b => T.v (.bool b)) (AR ⟨fun h => ?_, fun h => h.2.2.2.2⟩)
  rename_i q1 q2 q3 q4
  exact ⟨fun a ha => Classical.byContradiction fun q => q4 ⟨a, ha, q⟩, hb, q1, by omega, h⟩
 ·rw [AN (fun h => absurd h.2.1 (by assumption))]
 ·rw [AN (fun h => by obtain ⟨a, ha, q⟩ := hb; exact q (h.1 a ha))]
 ·rw [AN (fun h => by have := h.2.2.2.1; omega)]
 ·rw [AN (fun h => absurd h.2.2.1 (by assumption))]
end
def IR (w : Int) (a : Ad) : Rc := ⟨a, 0, w⟩
def JR (s : Sp) (m : Ml) (w : Int) : Im := ⟨s.last + 1, m.frm, m.to.map (IR w), m.body⟩
def Hd (s : Sp) (m : Ml) (w : Int) : Sp := ⟨s.last + 1, s.items ++ [JR s m w]⟩
def Bj (s : Sp) : Prop := (s.items.length : Int) < 10 ∧ s.last < 999
open Classical in
noncomputable def Mz (s : Sp) (m : Ml) (w : Int) : Sp × Bool := if Bg s then (if B6 m ∧ (0 ≤ w ∧ w ≤ 9999) ∧ Bj s then (Hd s m w, true) else (s, false)) else (⟨0, []⟩, false)
theorem dR {s : Sp} {m : Ml} {w : Int} (h : ¬ Bg s) : Mz s m w = (⟨0, []⟩, false) := by unfold Mz; rw [if_neg h]
theorem X8 {s : Sp} {m : Ml} {w : Int} (h : Bg s) (h2 : ¬ (B6 m ∧ (0 ≤ w ∧ w ≤ 9999) ∧ Bj s)) : Mz s m w = (s, false) := by unfold Mz; rw [if_pos h, if_neg h2]
theorem X9 {s : Sp} {m : Ml} {w : Int} (h : Bg s) (h2 : B6 m ∧ (0 ≤ w ∧ w ≤ 9999) ∧ Bj s) : Mz s m w = (Hd s m w, true) := by unfold Mz; rw [if_pos h, if_pos h2]
theorem V6 {xs : List Ad} {w : Int} {i : Nat} (h : i < xs.length) : ((xs.map (IR w)).take (i + 1)).map BN = ((xs.map (IR w)).take i).map BN ++ [[.v (.string (xs.getD i default).user), .v (.string (xs.getD i default).domain), .v (.int .i64 0), .v (.int .i64 w)]] := by
 have e : (xs.map (IR w)).getD i default = IR w (xs.getD i default) := by
  simp only [List.getD_eq_getElem?_getD, List.getElem?_map, List.getElem?_eq_getElem h, Option.map_some, Option.getD_some]
 rw [BE BN (by rw [lm]; exact h), e]
 rfl
def KX : Ct := Ak (lc N4.ag l0) (fun p => True) (fun p => .t (.v (.bool (BM (Bj p.1)))))
section
attribute [local go_sem] lm
theorem fW {G : Gt} (hG : Ah G) : Gd G 121 (AA 0 KX) := by
 refine gr (fn := Tryz.f121) (n := 1) rfl rfl hG ?_
 rintro ⟨s, ⟨⟩⟩ hpre
 simp -implicitDefEqProofs only [Tryz.f121, go_sem, seval] at hpre ⊢
 with_reducible repeat' (first | apply ai | intro _ | ((first | apply s1 | apply s3 | apply s4) <;> intro hb <;> simp -implicitDefEqProofs only [hb, go_sem, seval] <;> try simp only [qz] at hb))
 all_goals first
  | rfl
  | omega
  | (rw [← BR, AR]; exact ⟨fun h => ⟨by assumption, h⟩, fun h => h.2⟩)
  | (rw [AN]; rintro ⟨h1, h2⟩; contradiction)
  | (rw [Ae]; exact ⟨by assumption, by assumption⟩)
  | skip
end
def nP : Ct := Ak (lc N4.ag l0) (fun p => True) (fun p => .t (.v (.bool (BM (Bj p.1)))))
section
attribute [local go_sem] lm
theorem fR {G : Gt} (hG : Ah G) : Gd G 116 (AA 0 nP) := by
 refine gr (fn := Tryz.f116) (n := 1) rfl rfl hG ?_
 rintro ⟨s, ⟨⟩⟩ hpre
 simp -implicitDefEqProofs only [Tryz.f116, go_sem, seval] at hpre ⊢
 with_reducible repeat' (first | apply ai | intro _ | ((first | apply s1 | apply s3 | apply s4) <;> intro hb <;> simp -implicitDefEqProofs only [hb, go_sem, seval] <;> try simp only [qz] at hb))
 all_goals first
  | rfl
  | omega
  | (rw [← BR, AR]; exact ⟨fun h => ⟨by assumption, h⟩, fun h => h.2⟩)
  | (rw [AN]; rintro ⟨h1, h2⟩; contradiction)
  | (rw [Ae]; exact ⟨by assumption, by assumption⟩)
  | skip
end
def RG : Ct := Ak (lc N4.ag (lc TF.ag (lc BF l0))) (fun p => FR p.1 ∧ E3 p.2.1 ∧ Bg p.1) (fun p => .agg ((Dx (Hd p.1 p.2.1 p.2.2.1)).map .t))
section
attribute [local go_sem] Ja JT List.take_length List.drop_zero List.length_take List.length_drop lm List.length_append List.length_cons List.length_nil List.map_append List.map_nil List.map_cons List.nil_append Nat.zero_add List.mem_singleton forall_eq Bool.not_true Bool.not_false AS.opn AS.cls AS.nilb AS.renb List.set_set List.set_cons_zero List.set_cons_succ List.set_nil
set_option maxHeartbeats 1600000 in
theorem fZ {G : Gt} (hG : Ah G) : Gd G 124 (AA 1 RG) := by
 refine Lo (dp := fun n => Nat.ble 100000 n && !(Nat.beq n 100002 || Nat.beq n 100004 || Nat.beq n 100007)) (fn := Tryz.f124) (n := 3) rfl rfl hG ?_
 rintro ⟨s, m, w, ⟨⟩⟩ hpre
 simp -implicitDefEqProofs only [Tryz.f124, go_sem, seval] at hpre ⊢
 obtain ⟨hok, hml, hsp⟩ := hpre
 have hok' : GY FY s.items := hok
 obtain ⟨_, ⟨hl1, _⟩, ⟨hl2, _⟩⟩ := hml
 obtain ⟨_, _, ⟨hs0, hs1⟩, hs2⟩ := hsp
 with_reducible repeat' (first | apply ai | intro _ | ((first | apply s1 | apply s3 | apply s4) <;> intro hb <;> simp -implicitDefEqProofs only [hb, go_sem, seval] <;> try simp only [qz] at hb))
 all_goals (try simp only [maxLen] at *)
 all_goals first | rfl | omega | assumption | decide | skip
 all_goals
  refine Ag (Le.nilb 1007 3 1901 true 4 rfl rfl rfl) (AY ?_)
  simp -implicitDefEqProofs only [go_sem, seval]
  refine AE [] (ι := {i : Nat // i ≤ m.to.length}) (fun p => ⟨[(2, .t (.v (.int .i64 w))), (3, .pb 1003 0), (4, .pb 1004 0), (6, .pb 1006 0), (7, .pb 1007 0), (8, .t (.v (.int .i64 p.1)))], [(1003, some (.box [.t (.v (.int .i64 s.last)), .t (.sl 5 (s.items.map An))])), (1004, some (.box ((C6 m).map .t))), (1006, some (.box [.t (.v (.int .i64 0)), .nil])), (1007, some (.box [.t (.v (.int .i64 (s.last + 1))), .t (.v (.string m.frm.user)), .t (.v (.string m.frm.domain)), .h 1901, .h 1017])), (1017, some (.arr true 1 (m.body.map AG))), (1901, some (.arr true 4 (((m.to.map (IR w)).take p.1).map BN)))]⟩) (fun p => m.to.length - p.1) ⟨0, by simp⟩ rfl ?_ ?_
  ·simp -implicitDefEqProofs only [go_sem, seval]
   try simp
  ·rintro ⟨i, hi⟩
   have hlen : ((m.to.map (IR w)).take i).length = i := by simp; omega
   by_cases hlt : (i : Int) < m.to.length
   ·simp -implicitDefEqProofs only [hlt, decide_true, tn, go_sem, seval]
    with_reducible repeat' (first | apply ai | intro _ | ((first | apply s1 | apply s3 | apply s4) <;> intro hb <;> simp -implicitDefEqProofs only [hb, go_sem, seval] <;> try simp only [qz] at hb))
    all_goals (try simp only [maxLen] at *)
    all_goals first | rfl | omega | assumption | decide | skip
    refine Ag (Le.renb 1007 3 1036 1901 rfl rfl rfl rfl) (AY ?_)
    simp -implicitDefEqProofs only [go_sem, seval]
    with_reducible repeat' (first | apply ai | intro _ | ((first | apply s1 | apply s3 | apply s4) <;> intro hb <;> simp -implicitDefEqProofs only [hb, go_sem, seval] <;> try simp only [qz] at hb))
    all_goals first | rfl | omega | decide | skip
    refine ⟨⟨i + 1, by omega⟩, by dsimp only; omega, ?_⟩
    simp -implicitDefEqProofs only [go_sem, seval]
    simp only [V6 (show i < m.to.length by omega)]
    with_reducible repeat' (first | apply ai | intro _ | ((first | apply s1 | apply s3 | apply s4) <;> intro hb <;> simp -implicitDefEqProofs only [hb, go_sem, seval] <;> try simp only [qz] at hb))
    all_goals first | rfl | (simp; done) | skip
   ·simp -implicitDefEqProofs only [hlt, decide_false, go_sem, seval]
    with_reducible repeat' (first | apply ai | intro _ | ((first | apply s1 | apply s3 | apply s4) <;> intro hb <;> simp -implicitDefEqProofs only [hb, go_sem, seval] <;> try simp only [qz] at hb))
    all_goals first | rfl | omega | skip
    rw [List.take_of_length_le (by rw [lm]; omega)]
    refine Ag (Le.frzL [1901, 1017]) (AY ?_)
    simp -implicitDefEqProofs only [go_sem, seval]
    with_reducible repeat' (first | apply ai | intro _ | ((first | apply s1 | apply s3 | apply s4) <;> intro hb <;> simp -implicitDefEqProofs only [hb, go_sem, seval] <;> try simp only [qz] at hb))
    all_goals (try simp only [maxLen, List.take_length, List.drop_zero] at *)
    all_goals first | rfl | omega | assumption | decide | skip
    all_goals
     refine congrArg (T.sl 5) ?_
     simp only [Hd, JR, List.map_append, List.map_cons, List.map_nil]
     rfl
end
def yG : Ct := Ak (lc N4.ag (lc TF.ag (lc BF l0))) (fun p => FR p.1 ∧ E3 p.2.1) (fun p => jH (Mz p.1 p.2.1 p.2.2.1))
section
attribute [local go_sem] pC Yy uU tc nP cx lm List.length_append List.length_cons List.length_nil List.map_append List.map_cons List.map_nil jH AS.opn AS.cls AS.nilb AS.renb Bool.not_false Bool.not_true List.set_set List.set_cons_zero List.set_cons_succ List.set_nil List.mem_singleton forall_eq
set_option maxHeartbeats 3200000 in
theorem rO {G : Gt} (hG : Ah G) (hh : G.e 74 = AA 0 pC ∧ G.e 114 = AA 0 Yy ∧ G.e 12 = AA 0 uU ∧ G.e 60 = AA 0 tc ∧ G.e 116 = AA 0 nP ∧ G.e 35 = AA 0 cx) : Gd G 66 (AA 0 yG) := by
 refine Lo (dp := fun n => !(Nat.beq n 100008 || Nat.beq n 100012)) (fn := Tryz.f66) (n := 3) rfl rfl hG ?_ (hs := fun _ p => SN _)
 rintro ⟨s, m, w, ⟨⟩⟩ hpre
 obtain ⟨hok, hml⟩ := hpre
 dsimp only at hok hml ⊢
 have hok' : GY FY s.items := hok
 have hmx := hok'.1
 obtain ⟨⟨_, hfd⟩, ⟨hl1, hto⟩, ⟨hl2, hbd⟩⟩ := hml
 have z1 : m.frm.domain.size ≤ 2000000 := by have : m.frm.domain.size ≤ 1048576 := hfd; omega
 have z2 : ∀ s ∈ m.body, s.size ≤ 2000000 := fun s hs => by have : s.size ≤ 1048576 := hbd s hs; omega
 have z3 : ∀ a ∈ m.to, a.domain.size ≤ 2000000 := fun a ha => by have : a.domain.size ≤ 1048576 := (hto a ha).2; omega
 by_cases h : Bg s
 ·have b1 := Ae h
  by_cases h2 : B6 m ∧ (0 ≤ w ∧ w ≤ 9999) ∧ Bj s
  ·rw [X9 h h2]
   obtain ⟨_, _, ⟨hs0, hs1⟩, hs2⟩ := h
   have b2 := Ae h2.1
   have b3 := Ae h2.2.1
   have b4 := Ae h2.2.2
   simp -implicitDefEqProofs only [Tryz.f66, b1, b2, b3, b4, go_sem, hh, seval]
   with_reducible repeat' (first | apply ai | intro _ | ((first | apply s1 | apply s3 | apply s4) <;> intro hb <;> simp -implicitDefEqProofs only [hb, go_sem, hh, seval] <;> try simp only [qz] at hb))
   all_goals first | rfl | omega | assumption | decide | exact z2 _ (by assumption) | exact z3 _ (by assumption) | skip
   all_goals
    refine Ag (Le.nilb 1009 3 1901 true 4 rfl rfl rfl) (AY ?_)
    simp -implicitDefEqProofs only [go_sem, hh, seval]
    with_reducible repeat' (first | apply ai | intro _ | ((first | apply s1 | apply s3 | apply s4) <;> intro hb <;> simp -implicitDefEqProofs only [hb, go_sem, hh, seval] <;> try simp only [qz] at hb))
    all_goals first | rfl | omega | skip
    refine AE [] (ι := {i : Nat // i ≤ m.to.length}) (fun p => ⟨[(2, .t (.v (.int .i64 w))), (6, .pb 1006 0), (7, .t (.v (.bool false))), (8, .pb 1008 0), (9, .pb 1009 0), (45, .t (.sl 2 (m.to.map Am))), (46, .t (.v (.int .i64 m.to.length))), (47, .t (.v (.int .i64 p.1)))], [(1006, some (.box [.t (.v (.int .i64 0)), .nil])), (1008, some (.box [.t (.v (.int .i64 (s.last + 1))), .h 1017])), (1017, some (.arr true 5 (s.items.map An))), (1009, some (.box [.t (.v (.int .i64 (s.last + 1))), .t (.v (.string m.frm.user)), .t (.v (.string m.frm.domain)), .h 1901, .h 1042])), (1042, some (.arr true 1 (m.body.map AG))), (1901, some (.arr true 4 (((m.to.map (IR w)).take p.1).map BN)))]⟩) (fun p => m.to.length - p.1) ⟨0, by simp⟩ rfl ?_ ?_
    ·simp -implicitDefEqProofs only [go_sem, hh, seval]
     try simp
    ·rintro ⟨i, hi⟩
     have hlen : ((m.to.map (IR w)).take i).length = i := by simp; omega
     by_cases hlt : (i : Int) < m.to.length
     ·simp -implicitDefEqProofs only [hlt, decide_true, tn, go_sem, hh, seval]
      with_reducible repeat' (first | apply ai | intro _ | ((first | apply s1 | apply s3 | apply s4) <;> intro hb <;> simp -implicitDefEqProofs only [hb, go_sem, hh, seval] <;> try simp only [qz] at hb))
      all_goals (try simp only [maxLen] at *)
      all_goals first | rfl | omega | assumption | decide | skip
      refine Ag (Le.renb 1009 3 1057 1901 rfl rfl rfl rfl) (AY ?_)
      simp -implicitDefEqProofs only [go_sem, hh, seval]
      with_reducible repeat' (first | apply ai | intro _ | ((first | apply s1 | apply s3 | apply s4) <;> intro hb <;> simp -implicitDefEqProofs only [hb, go_sem, hh, seval] <;> try simp only [qz] at hb))
      all_goals first | rfl | omega | decide | skip
      refine ⟨⟨i + 1, by omega⟩, by dsimp only; omega, ?_⟩
      simp -implicitDefEqProofs only [go_sem, hh, seval]
      simp only [V6 (show i < m.to.length by omega)]
      with_reducible repeat' (first | apply ai | intro _ | ((first | apply s1 | apply s3 | apply s4) <;> intro hb <;> simp -implicitDefEqProofs only [hb, go_sem, hh, seval] <;> try simp only [qz] at hb))
      all_goals first | rfl | (simp; done) | skip
     ·simp -implicitDefEqProofs only [hlt, decide_false, go_sem, hh, seval]
      with_reducible repeat' (first | apply ai | intro _ | ((first | apply s1 | apply s3 | apply s4) <;> intro hb <;> simp -implicitDefEqProofs only [hb, go_sem, hh, seval] <;> try simp only [qz] at hb))
      all_goals (try simp only [maxLen] at *)
      all_goals first | rfl | omega | assumption | decide | skip
      rw [List.take_of_length_le (by rw [lm]; omega)]
      simp only [Hd, JR, List.map_append, List.map_cons, List.map_nil]
      rfl
  ·rw [X8 h h2]
   by_cases hm : B6 m
   ·have b2 := Ae hm
    by_cases hw : 0 ≤ w ∧ w ≤ 9999
    ·have b3 := Ae hw
     have b4 := AN (fun q => h2 ⟨hm, hw, q⟩)
     simp -implicitDefEqProofs only [Tryz.f66, b1, b2, b3, b4, go_sem, hh, seval]
     with_reducible repeat' (first | apply ai | intro _ | ((first | apply s1 | apply s3 | apply s4) <;> intro hb <;> simp -implicitDefEqProofs only [hb, go_sem, hh, seval] <;> try simp only [qz] at hb))
     all_goals first | rfl | omega | assumption | decide | exact z2 _ (by assumption) | exact z3 _ (by assumption) | skip
    ·have b3 := AN hw
     simp -implicitDefEqProofs only [Tryz.f66, b1, b2, b3, go_sem, hh, seval]
     with_reducible repeat' (first | apply ai | intro _ | ((first | apply s1 | apply s3 | apply s4) <;> intro hb <;> simp -implicitDefEqProofs only [hb, go_sem, hh, seval] <;> try simp only [qz] at hb))
     all_goals first | rfl | omega | assumption | decide | exact z2 _ (by assumption) | exact z3 _ (by assumption) | skip
   ·have b2 := AN hm
    simp -implicitDefEqProofs only [Tryz.f66, b1, b2, go_sem, hh, seval]
    with_reducible repeat' (first | apply ai | intro _ | ((first | apply s1 | apply s3 | apply s4) <;> intro hb <;> simp -implicitDefEqProofs only [hb, go_sem, hh, seval] <;> try simp only [qz] at hb))
    all_goals first | rfl | omega | assumption | decide | exact z2 _ (by assumption) | exact z3 _ (by assumption) | skip
 ·have b1 := AN h
  rw [dR h]
  simp -implicitDefEqProofs only [Tryz.f66, b1, go_sem, hh, seval]
  with_reducible repeat' (first | apply ai | intro _ | ((first | apply s1 | apply s3 | apply s4) <;> intro hb <;> simp -implicitDefEqProofs only [hb, go_sem, hh, seval] <;> try simp only [qz] at hb))
  all_goals first | rfl | omega | assumption | decide | skip
end
theorem H6 {c x : UInt8} : ∀ {l : List UInt8}, x ∈ l → x = c ∨ ∃ w ∈ Fy c l, x ∈ w
 | y :: r, h => by
   rw [Fy]
   by_cases e : y = c
   ·rw [if_pos e]
    rcases List.mem_cons.1 h with h | h
    ·exact .inl (h.trans e)
    ·rcases H6 h with q | ⟨w, hw, q⟩
     ·exact .inl q
     ·exact .inr ⟨w, by simp [hw], q⟩
   ·rw [if_neg e]
    cases hs : Fy c r with
    | nil => have := GT c r; rw [hs] at this; simp at this
    | cons a t =>
      rcases List.mem_cons.1 h with h | h
      ·exact .inr ⟨y :: a, by simp, by simp [h]⟩
      ·rcases H6 h with q | ⟨w, hw, q⟩
       ·exact .inl q
       ·rw [hs] at hw
        rcases List.mem_cons.1 hw with e2 | hw
        ·exact .inr ⟨y :: a, by simp, by rw [e2] at q; simp [q]⟩
        ·exact .inr ⟨w, by simp [hw], q⟩
theorem QX {c : UInt8} {B : Nat} : ∀ {l : List UInt8}, (∀ w ∈ Fy c l, w.length ≤ B) → l.length + 1 ≤ (B + 1) * (Fy c l).length
 | [], _ => by simp [Fy]
 | y :: r, h => by
   rw [Fy] at h ⊢
   by_cases e : y = c
   ·rw [if_pos e] at h ⊢
    have := QX (c := c) (l := r) fun w hw => h w (by simp [hw])
    rw [List.length_cons, List.length_cons, Nat.mul_succ]
    omega
   ·rw [if_neg e] at h ⊢
    cases hs : Fy c r with
    | nil => have := GT c r; rw [hs] at this; simp at this
    | cons a t =>
      rw [hs] at h
      have h1 := h (y :: a) (by simp)
      have h3 : (∀ w ∈ Fy c r, w.length ≤ B) ∨ True := .inr trivial
      have key : ∀ (l : List UInt8), l.length + 1 = ((Fy c l).map fun w => w.length + 1).sum := fun l => by
       induction l with
       | nil => rfl
       | cons z q ih =>
         rw [Fy]
         by_cases ez : z = c
         ·rw [if_pos ez, List.map_cons, List.sum_cons, ← ih, List.length_cons, List.length_nil]; omega
         ·rw [if_neg ez]
          cases hq : Fy c q with
          | nil => have := GT c q; rw [hq] at this; simp at this
          | cons a' t' => rw [hq] at ih; simp only [List.map_cons, List.sum_cons, List.length_cons] at ih ⊢; omega
      have h2 := key r
      rw [hs] at h2
      have h4 : ∀ t : List (List UInt8), (∀ w ∈ t, w.length ≤ B) → (t.map fun w => w.length + 1).sum ≤ (B + 1) * t.length := fun t => by
       induction t with
       | nil => intro _; simp
       | cons w t ih =>
         intro hw
         have q1 := ih fun x hx => hw x (by simp [hx])
         have q2 := hw w (by simp)
         rw [List.map_cons, List.sum_cons, List.length_cons, Nat.mul_succ]; omega
      have h5 := h4 t fun w hw => h w (by simp [hw])
      simp only [List.map_cons, List.sum_cons, List.length_cons] at h1 h2 ⊢
      rw [Nat.mul_succ]
      omega
def OT (l : List UInt8) : Prop := ∀ b ∈ l, 32 ≤ (b.toNat : Int) ∧ (b.toNat : Int) ≤ 126
instance (l : List UInt8) : Decidable (OT l) := by unfold OT; infer_instance
theorem Hk {s : ByteArray} {b : UInt8} (h : b ∈ bl s) : ∃ j, j < s.size ∧ AC s j = b.toNat := by
 obtain ⟨j, hj, e⟩ := List.getElem_of_mem h
 exact ⟨j, hj, by rw [Bm]; simp [hj, e]⟩
theorem Py {s : ByteArray} {j : Nat} (h : j < s.size) : ∃ b ∈ bl s, AC s j = b.toNat := by
 have h' : j < (bl s).length := h
 exact ⟨(bl s)[j], List.getElem_mem h', by rw [Bm]; simp [h']⟩
theorem HR (s : ByteArray) : I0 s ↔ OT (bl s) ∧ s.size ≤ 40 :=
 ⟨fun h => ⟨fun b hb => by
   obtain ⟨j, hj, e⟩ := Hk hb
   rw [← e]; exact h.1 j hj, h.2⟩, fun h => ⟨fun j hj => by
   obtain ⟨b, hb, e⟩ := Py hj
   rw [e]; exact h.1 b hb, h.2⟩⟩
theorem OU {a b : List UInt8} : OT (a ++ b) ↔ OT a ∧ OT b :=
 ⟨fun h => ⟨fun x hx => h x (by simp [hx]), fun x hx => h x (by simp [hx])⟩, fun h x hx => (List.mem_append.1 hx).elim (h.1 x) (h.2 x)⟩
theorem Js {s : ByteArray} (h : TV s) : OT (bl s) ∧ s.size ≤ 8 := ⟨fun b hb => by
 obtain ⟨j, hj, e⟩ := Hk hb
 have := h.1 j hj
 rw [← e]; unfold Ko at this; omega, h.2.2⟩
theorem CM {s : ByteArray} (h : C3 s) : OT (bl s) ∧ s.size ≤ 26 := by
 obtain ⟨h1, h2⟩ := (Jq s).1 h
 have h3 : ∀ w ∈ Fy 46 (bl s), TV (mB w) := fun w hw => h1 _ (List.mem_map_of_mem hw)
 refine ⟨fun b hb => ?_, ?_⟩
 ·rcases H6 (c := 46) hb with e | ⟨w, hw, q⟩
  ·rw [e]; decide
  ·exact (Js (h3 w hw)).1 b q
 ·have h4 := QX (c := 46) (B := 8) (l := bl s) fun w hw => (h3 w hw).2.2
  have h5 : (Fy 46 (bl s)).length ≤ 3 := by
   have : (Iv s 46).length = (Fy 46 (bl s)).length := lm ..
   omega
  have h6 : (bl s).length = s.size := rfl
  have h7 : 9 * (Fy 46 (bl s)).length ≤ 9 * 3 := Nat.mul_le_mul_left 9 h5
  omega
def yh : ByteArray := ⟨#[72, 111, 112, 58, 32]⟩
def BD (n : ByteArray) : ByteArray := yh ++ n
theorem iZ {n : ByteArray} (h : C3 n) : I0 (BD n) := by
 obtain ⟨h1, h2⟩ := CM h
 rw [HR]
 have e : bl (BD n) = [72, 111, 112, 58, 32] ++ bl n := KT _ _
 refine ⟨?_, ?_⟩
 ·rw [e, OU]
  exact ⟨by decide, h1⟩
 ·have : (BD n).size = 5 + n.size := by rw [← CF, e, List.length_append, CF]; rfl
  omega
noncomputable def C1 (a : Ad) : ByteArray := bif BM (Ab a) then ⟨#[60, 62]⟩ else ⟨#[60]⟩ ++ a.user ++ ⟨#[64]⟩ ++ a.domain ++ ⟨#[62]⟩
theorem Iu {a : Ad} (h : Ab a) : C1 a = ⟨#[60, 62]⟩ := by unfold C1; rw [Ae h]; rfl
theorem SU {a : Ad} (h : ¬ Ab a) : C1 a = ⟨#[60]⟩ ++ a.user ++ ⟨#[64]⟩ ++ a.domain ++ ⟨#[62]⟩ := by unfold C1; rw [AN h]; rfl
theorem Nu {a : Ad} (h : ¬ Ab a) : bl (C1 a) = [60] ++ bl a.user ++ [64] ++ bl a.domain ++ [62] := by
 rw [SU h]
 simp only [KT]
 rfl
theorem dJ {a : Ad} (h : BS a) : ¬ Ab a := fun q => by
 have := h.1.2.1
 rw [q.1] at this
 exact absurd this (by decide)
theorem QO {a : Ad} (h : BS a ∨ Ab a) : I0 (C1 a) := by
 by_cases hn : Ab a
 ·rw [Iu hn, HR]
  exact ⟨by decide, by decide⟩
 ·have ha := h.resolve_right hn
  obtain ⟨u1, u2⟩ := Js ha.1
  obtain ⟨d1, d2⟩ := CM ha.2
  rw [HR, Nu hn]
  refine ⟨by simp only [OU]; exact ⟨⟨⟨⟨by decide, u1⟩, by decide⟩, d1⟩, by decide⟩, ?_⟩
  have : (C1 a).size = 3 + a.user.size + a.domain.size := by
   rw [← CF, Nu hn]
   simp only [List.length_append, List.length_cons, List.length_nil, CF]; omega
  omega
def I8 (n : ByteArray) (m : Ml) : Ml := ⟨m.frm, m.to, BD n :: m.body⟩
def Lw (h : Hs) (m : Ml) (w : Int) : Hs := ⟨h.conf, Hd h.spool (I8 h.conf.name m) w, h.boxes, h.lost⟩
def bG : Hs := ⟨⟨⟨#[]⟩, [], []⟩, ⟨0, []⟩, [], []⟩
section
variable {h : Hs} {m : Ml} {w : Int}
theorem aY (q : C3 h.conf.name) (hm : B6 m) (hl : m.body.length < 12) : B6 (I8 h.conf.name m) :=
 ⟨hm.1, hm.2.1, hm.2.2.1, hm.2.2.2.1, ⟨fun s hs => (List.mem_cons.1 hs).elim (fun e => by rw [e]; exact iZ q) (hm.2.2.2.2.1 s), by show (BD h.conf.name :: m.body).length ≤ 12; simp; omega⟩⟩
end
def SY (p : Hs × Bool) : AV := .tup [.agg ((Ai p.1).map .t), .t (.v (.bool p.2))]
def jG (p : Hs × Bool) : AV := .tup [bo p.1, .t (.v (.bool p.2))]
theorem SL (p : Hs × Bool) : BV (jG p) := .tup _ fun c hc => by
 simp only [List.mem_cons, List.not_mem_nil, or_false] at hc
 rcases hc with rfl | rfl
 ·exact HK _
 ·exact .v _
theorem NZ {α : Type} [Inhabited α] {p : α → Prop} : ∀ (xs : List α) (k : Nat), 0 ≤ BI p k xs → p (xs.getD ((BI p k xs).toNat - k) default)
 | [], k, h => absurd h (by rw [BI]; omega)
 | x :: t, k, h => by
   rw [BI] at h ⊢
   by_cases hx : p x
   ·rw [Ae hx, cond_true, tn, Nat.sub_self]
    exact hx
   ·rw [AN hx, cond_false] at h ⊢
    have h1 := NZ t (k + 1) h
    have h2 : (BI p (k + 1) t).toNat - k = ((BI p (k + 1) t).toNat - (k + 1)) + 1 := by
     rcases GP p t (k + 1) with q | q <;> omega
    rw [h2]
    exact h1
def dX (h : Hs) (m : Ml) (w : Int) : Prop := B6 m ∧ (0 ≤ w ∧ w ≤ 9999) ∧ (∀ a ∈ m.to, Bk h.conf a) ∧ m.body.length < 12 ∧ Bj h.spool
open Classical in
noncomputable def FX (h : Hs) (m : Ml) (w : Int) : Hs × Bool := if DR h then (if dX h m w then (Lw h m w, true) else (h, false)) else (bG, false)
section
variable {h : Hs} {m : Ml} {w : Int}
theorem KA (q : ¬ DR h) : FX h m w = (bG, false) := if_neg q
theorem Da (q : DR h) (z : ¬ dX h m w) : FX h m w = (h, false) := by unfold FX; rw [if_pos q, if_neg z]
theorem Mv (q : DR h) (z : dX h m w) : FX h m w = (Lw h m w, true) := by unfold FX; rw [if_pos q, if_pos z]
end
theorem Cp {xs : List Im} : xV xs ↔ (xs.map Im.id).Pairwise (· < ·) := by
 rw [List.pairwise_iff_getElem]
 constructor
 ·intro h i j hi hj hij
  rw [lm] at hi hj
  simp only [List.getElem_map]
  induction j with
  | zero => omega
  | succ j ih =>
    have h1 := h (j + 1) (by omega) hj
    simp only [Nat.add_sub_cancel, List.getD_eq_getElem?_getD, List.getElem?_eq_getElem hj, List.getElem?_eq_getElem (show j < xs.length by omega), Option.getD_some] at h1
    by_cases e : i = j
    ·subst e; exact h1
    ·have := ih (by omega) (by omega)
     omega
 ·intro h j h0 hj
  have := h (j - 1) j (by rw [lm]; omega) (by rw [lm]; exact hj) (by omega)
  simp only [List.getElem_map] at this
  simp only [List.getD_eq_getElem?_getD, List.getElem?_eq_getElem hj, List.getElem?_eq_getElem (show j - 1 < xs.length by omega), Option.getD_some]
  exact this
theorem Ua {α : Type} (xs : List α) (i : Nat) : List.Sublist (xs.take i ++ xs.drop (i + 1)) xs := by
 have h : List.Sublist (xs.take i ++ xs.drop (i + 1)) (xs.take i ++ xs.drop i) := List.Sublist.append (List.Sublist.refl _) (by
  rw [← List.drop_drop]; exact List.drop_sublist 1 _)
 rwa [List.take_append_drop] at h
theorem RR {α : Type} [Inhabited α] {xs : List α} {i : Nat} (h : i < xs.length) : xs = xs.take i ++ xs.getD i default :: xs.drop (i + 1) := by
 rw [← AZ h, List.take_append_drop]
theorem eg {x : Im} {k : Nat} (h : Dr x) (hk : k < x.to.length) (h2 : ¬ (Id x k).to = []) : Dr (Id x k) := by
 have hs := Ua x.to k
 refine ⟨fun r hr => h.1 r (hs.subset hr), (hs.map Rc.addr).nodup h.2.1, h.2.2.1, h.2.2.2.1, ⟨?_, Nat.le_trans hs.length_le h.2.2.2.2.1.2⟩, h.2.2.2.2.2⟩
 exact Nat.pos_of_ne_zero fun e => h2 (List.eq_nil_of_length_eq_zero e)
theorem En {s : Sp} {i k : Nat} (h : Bg s) (hi : i < s.items.length) (hk : k < (s.items.getD i default).to.length) : Bg (DM s i k) := by
 have hx := h.1 _ (AF hi)
 have hs := Ua s.items i
 have ha := Cp.1 h.2.1
 have hq := RR hi
 show (∀ x ∈ Xm s.items i k, Dr x ∧ x.id ≤ s.last) ∧ xV (Xm s.items i k) ∧ (0 ≤ s.last ∧ s.last ≤ 999) ∧ (Xm s.items i k).length ≤ 10
 unfold Xm
 split
 ·exact ⟨fun x hx => h.1 x (hs.subset hx), Cp.2 (ha.sublist (hs.map Im.id)), h.2.2.1, Nat.le_trans hs.length_le h.2.2.2⟩
 ·rename_i hne
  refine ⟨fun x hm => ?_, Cp.2 ?_, h.2.2.1, ?_⟩
  ·rcases List.mem_append.1 hm with hm | hm
   ·exact h.1 x (List.mem_of_mem_take hm)
   ·rcases List.mem_cons.1 hm with e | hm
    ·rw [e]; exact ⟨eg hx.1 hk hne, hx.2⟩
    ·exact h.1 x (List.mem_of_mem_drop hm)
  ·have e : (s.items.take i ++ Id (s.items.getD i default) k :: s.items.drop (i + 1)).map Im.id = s.items.map Im.id := by
     conv => rhs; rw [hq]
     simp only [List.map_append, List.map_cons]
     rfl
   rw [e]; exact ha
  ·have e : (s.items.take i ++ Id (s.items.getD i default) k :: s.items.drop (i + 1)).length = s.items.length := by
     conv => rhs; rw [hq]
     simp only [List.length_append, List.length_cons]
   rw [e]; exact h.2.2.2
theorem vJ (l : List Rc) (k : Nat) (h : k < l.length) : l.getD k default = l[k] := by simp [h]
theorem MV {s : Sp} {i k : Nat} {w : Int} (h : Bg s) (hi : i < s.items.length) (hk : k < (s.items.getD i default).to.length) (hn : ¬ Ng ((s.items.getD i default).to.getD k default) w) (hw : 0 ≤ w) : Bg (Pw s i k w) := by
 have hx := h.1 _ (AF hi)
 have hr := hx.1.1 _ (AF hk)
 have hn1 : ((s.items.getD i default).to.getD k default).tries + 1 < 4 := by unfold Ng at hn; omega
 have hn2 : w + dE (((s.items.getD i default).to.getD k default).tries + 1) ≤ 9999 := by unfold Ng at hn; omega
 have hp := (bq (t := ((s.items.getD i default).to.getD k default).tries + 1) (m := 3) (by omega)).1
 have hrc : OX (W5 ((s.items.getD i default).to.getD k default) w) := ⟨hr.1, ⟨by have := hr.2.1.1; show 0 ≤ _ + 1; omega, by show _ + 1 ≤ 3; omega⟩, ⟨by show 0 ≤ w + _; omega, hn2⟩⟩
 have hadr : ((s.items.getD i default).to.set k (W5 ((s.items.getD i default).to.getD k default) w)).map Rc.addr = (s.items.getD i default).to.map Rc.addr := by
  rw [List.map_set]
  have : (W5 ((s.items.getD i default).to.getD k default) w).addr = ((s.items.getD i default).to.map Rc.addr)[k]'(by rw [lm]; exact hk) := by
   rw [List.getElem_map]
   show ((s.items.getD i default).to.getD k default).addr = _
   rw [vJ _ _ hk]
  rw [this, List.set_getElem_self]
 have hx2 : Dr (R6 (s.items.getD i default) k w) := by
  refine ⟨fun r hm => ?_, ?_, hx.1.2.2.1, hx.1.2.2.2.1, ?_, hx.1.2.2.2.2.2⟩
  ·rcases List.mem_or_eq_of_mem_set hm with hm | rfl
   ·exact hx.1.1 r hm
   ·exact hrc
  ·show (((s.items.getD i default).to.set k _).map Rc.addr).Nodup
   rw [hadr]; exact hx.1.2.1
  ·show 1 ≤ ((s.items.getD i default).to.set k _).length ∧ ((s.items.getD i default).to.set k _).length ≤ 4
   rw [List.length_set]; exact hx.1.2.2.2.2.1
 refine ⟨fun x hm => ?_, Cp.2 ?_, h.2.2.1, by show (s.items.set i _).length ≤ 10; rw [List.length_set]; exact h.2.2.2⟩
 ·rcases List.mem_or_eq_of_mem_set hm with hm | rfl
  ·exact h.1 x hm
  ·exact ⟨hx2, hx.2⟩
 ·have e : (s.items.set i (R6 (s.items.getD i default) k w)).map Im.id = s.items.map Im.id := by
    rw [List.map_set]
    have : (R6 (s.items.getD i default) k w).id = (s.items.map Im.id)[i]'(by rw [lm]; exact hi) := by
     simp [R6, hi]
    rw [this, List.set_getElem_self]
  show ((s.items.set i _).map Im.id).Pairwise (· < ·)
  rw [e]; exact Cp.1 h.2.1
theorem IS {s : Sp} {m : Ml} {w : Int} (h : Bg s) (hm : B6 m) (hw : 0 ≤ w ∧ w ≤ 9999) (hr : Bj s) : Bg (Hd s m w) := by
 have hx : Dr (JR s m w) := by
  refine ⟨fun r hr => ?_, ?_, ?_, hm.2.2.1, ?_, hm.2.2.2.2⟩
  ·obtain ⟨a, ha, rfl⟩ := List.mem_map.1 hr
   exact ⟨hm.1 a ha, by show 0 ≤ (0 : Int) ∧ (0 : Int) ≤ 3; decide, hw⟩
  ·show ((m.to.map (IR w)).map Rc.addr).Nodup
   have e : (m.to.map (IR w)).map Rc.addr = m.to := by
    rw [List.map_map]; exact List.map_id'' (fun _ => rfl) _
   rw [e]; exact hm.2.1
  ·have := h.2.2.1.1
   show 0 < s.last + 1; omega
  ·show 1 ≤ (m.to.map (IR w)).length ∧ (m.to.map (IR w)).length ≤ 4
   rw [lm]; exact hm.2.2.2.1
 have h1 := hr.1; have h2 := hr.2
 refine ⟨fun x hm => ?_, Cp.2 ?_, ?_, ?_⟩
 ·rcases List.mem_append.1 hm with hm | hm
  ·have := h.1 x hm
   exact ⟨this.1, by have := this.2; show x.id ≤ s.last + 1; omega⟩
  ·rw [List.mem_singleton.1 hm]
   exact ⟨hx, Int.le_refl _⟩
 ·show ((s.items ++ [JR s m w]).map Im.id).Pairwise (· < ·)
  rw [List.map_append, List.pairwise_append]
  refine ⟨Cp.1 h.2.1, by simp, fun a ha b hb => ?_⟩
  obtain ⟨x, hx, rfl⟩ := List.mem_map.1 ha
  rw [List.map_cons, List.map_nil, List.mem_singleton] at hb
  rw [hb]
  have := (h.1 x hx).2
  show x.id < s.last + 1; omega
 ·have := h.2.2.1.1
  show 0 ≤ s.last + 1 ∧ s.last + 1 ≤ 999; omega
 ·show (s.items ++ [JR s m w]).length ≤ 10
  rw [List.length_append]; simp; omega
theorem Ft : ∀ xs : List ByteArray, B9 xs = ⟨#[]⟩ ∨ B9 xs ∈ xs
 | [] => .inl rfl
 | x :: r => by
   rw [B9]
   cases BM (Mw x)
   ·rw [cond_false]
    rcases Ft r with h | h
    ·exact .inl h
    ·exact .inr (by simp [h])
   ·exact .inr (by simp)
def xP : ByteArray := ⟨#[110, 111, 116, 32, 100, 101, 108, 105, 118, 101, 114, 101, 100, 58]⟩
noncomputable def Bl (x : Im) (a : Ad) : Ml := ⟨⟨⟨#[]⟩, ⟨#[]⟩⟩, [x.frm], xP :: C1 a :: (if B9 x.body = ⟨#[]⟩ then [] else [B9 x.body])⟩
theorem WU {x : Im} {a : Ad} (h : Dr x) (ha : BS a) (hn : ¬ Ab x.frm) : B6 (Bl x a) := by
 refine ⟨fun b hb => ?_, by show [x.frm].Nodup; simp, .inr ⟨rfl, rfl⟩, by show 1 ≤ 1 ∧ 1 ≤ 4; decide, fun s hs => ?_, ?_⟩
 ·rw [List.mem_singleton.1 hb]; exact h.2.2.2.1.resolve_right hn
 ·rcases List.mem_cons.1 hs with e | hs
  ·rw [e, HR]; exact ⟨by decide, by decide⟩
  ·rcases List.mem_cons.1 hs with e | hs
   ·rw [e]; exact QO (.inl ha)
   ·split at hs
    ·cases hs
    ·rename_i q
     rw [List.mem_singleton.1 hs]
     exact h.2.2.2.2.2.1 _ ((Ft x.body).resolve_left q)
 ·show (xP :: C1 a :: _).length ≤ 12
  split <;> simp
open Classical in
noncomputable def HC (h : Hs) (x : Im) (a : Ad) (i k : Nat) (w : Int) : Hs :=
 if Ab x.frm ∨ ¬ Bj (DM h.spool i k) then ⟨h.conf, DM h.spool i k, h.boxes, h.lost ++ [⟨B9 x.body, a⟩]⟩ else ⟨h.conf, Hd (DM h.spool i k) (Bl x a) w, h.boxes, h.lost⟩
noncomputable def Ch (h : Hs) (i k : Nat) (a : Ad) (out w : Int) : Hs :=
 if out = 2 then ⟨h.conf, DM h.spool i k, h.boxes, h.lost⟩
 else if out = 3 ∧ ¬ Ng ((h.spool.items.getD i default).to.getD k default) w then ⟨h.conf, Pw h.spool i k w, h.boxes, h.lost⟩
 else HC h (h.spool.items.getD i default) a i k w
section
variable {h : Hs} {x : Im} {n : Int} {a : Ad} {out w : Int} {i k : Nat}
theorem aM (q : Ab x.frm ∨ ¬ Bj (DM h.spool i k)) : HC h x a i k w = ⟨h.conf, DM h.spool i k, h.boxes, h.lost ++ [⟨B9 x.body, a⟩]⟩ := if_pos q
theorem aL (q : ¬ (Ab x.frm ∨ ¬ Bj (DM h.spool i k))) : HC h x a i k w = ⟨h.conf, Hd (DM h.spool i k) (Bl x a) w, h.boxes, h.lost⟩ := if_neg q
theorem GH {x : Im} {a : Ad} (q : ¬ B8 x a < 0) : (x.to.getD (B8 x a).toNat default).addr = a := by
 have h1 := NZ (p := fun r : Rc => r.addr = a) x.to 0 (by unfold B8 at q; omega)
 exact h1
theorem GG {s : Sp} {n : Int} (q : ¬ A4 s n < 0) : (Az s n).id = n := by
 have h1 := NZ (p := fun x : Im => x.id = n) s.items 0 (by unfold A4 at q; omega)
 exact h1
end
end Go.V
namespace Go.V
open Go Go.Proofs Go.Shelf Go.RowKit Go.Lib
set_option maxRecDepth 1000000
set_option linter.unusedSimpArgs false
set_option linter.unusedVariables false
def TU (P : Program) (f : FuncId) (n : Nat) : Prop := ∀ (w : World) (k : Nat), k ≤ 4000000 → Calls P f #[.slice none 0 0, .int .i64 k] w fun e w' =>
 (k = 0 ∧ e = .returned (.slice none 0 0) ∧ w' = w) ∨ ∃ cap cur et, e = .returned (.slice (some ⟨w.heap.size, 0, none⟩) 0 cap) ∧ cap ≤ maxLen ∧ cur.size = cap * n ∧ w' = w.drew.alloc (.cells cur et)
theorem WQ (w : World) (cur : Array Value) (et : TypeId) : (w.drew.alloc (.cells cur et)).heap[w.heap.size]? = some (.cells cur et (0, 0)) := by
 show (w.heap.push _)[w.heap.size]? = _
 rw [Array.getElem?_push_size]
theorem WR (w : World) (cur : Array Value) (et : TypeId) {k : Nat} (h : k < w.heap.size) : (w.drew.alloc (.cells cur et)).heap[k]? = w.heap[k]? := by
 show (w.heap.push _)[k]? = _
 rw [Array.getElem?_push_lt h]
 simp [h]
theorem ZE {P : Program} {m : Int} {f : FuncId} {n : Nat} (hraw : TU P f n) (k : Nat) (hk : k ≤ 4000000) :
    OK P m f [.nil, .t (.v (.int .i64 k))] [.nil, .t (.v (.int .i64 k))] (.o true n []) := by
 intro w pr vs F hgl hA hnd hF hpr
 cases hA with
 | cons _ v0 _ _ F0 _ h0 hA =>
 cases hA with
 | cons _ v1 _ _ F1 _ h1 hA =>
 cases hA with
 | nil =>
 cases h1 with
 | t _ _ h1 =>
 cases h1 with
 | v _ g1 =>
 cases h0 with
 | nil =>
 refine Calls.mono (hraw w k hk) fun e w' hq => ?_
 rcases hq with ⟨_, he, hw⟩ | ⟨cap, cur, et, he, hc, hs, hw⟩
 ·rw [hw]
  exact ⟨_, pr, [], [], he, Fr.refl _ _, fun _ h => h, fun _ h => .inl h, hpr, .cons _ _ _ _ [] [] .nil (.cons _ _ _ _ [] [] (.t _ _ (.v _ g1)) .nil), .o _ _ _ _ _ (.inl ⟨rfl, rfl, rfl⟩), .nil, fun c hc => by cases hc⟩
 ·have hsz : w'.heap.size = w.heap.size + 1 := by rw [hw]; show (w.heap.push _).size = _; rw [Array.size_push]
  refine ⟨_, pr, [], [w.heap.size], he, ⟨by rw [hw]; rfl, by rw [hw]; rfl, by rw [hw]; rfl, by omega, fun c hc _ => by rw [hw]; exact WR w cur et hc⟩, fun _ h => h, fun _ h => .inl h, fun c hc => by have := hpr c hc; omega,
   .cons _ _ _ _ [] [] .nil (.cons _ _ _ _ [] [] (.t _ _ (.v _ g1)) .nil), .o _ _ _ _ _ (.inr ⟨w.heap.size, 0, cap, cur, et, [], [], rfl, rfl, Nat.zero_le _, hc, (fun x hx => by cases hx), by rw [hw]; exact WQ w cur et, hs, by simp, rfl, .nil⟩), by simp, fun c hc => ?_⟩
  have e : c = w.heap.size := by simpa using hc
  rw [e]
  exact ⟨by omega, fun h => Nat.lt_irrefl _ (hpr _ h), .inl (Nat.le_refl _)⟩
def vf : AV → Option Unit
 | .nil => some ()
 | _ => none
def tk : AD Unit where
 enc _ := .nil
 dec := vf
 ed := fun _ => rfl
 de := fun x a h => by unfold vf at h; split at h <;> cases h; rfl
theorem Ur : Tryz.prog.funcs[148]? = some Tryz.f148 := by kernel_rfl
theorem ld : Tryz.f148.ntmps = 27 := rfl
noncomputable def HF : TypeInfo := (Tryz.prog.info? 9).get (by kernel_rfl)
theorem W1 : Tryz.prog.info? 9 = some HF := by kernel_rfl
theorem Pi : HF.size = 1 := by kernel_rfl
theorem Hp : HF.bytes = 16 := by kernel_rfl
theorem Pj : HF.zero = some (.string ⟨#[]⟩) := by kernel_rfl
set_option maxHeartbeats 4000000 in
theorem iW : TU Tryz.prog 148 1 := by
 intro w n hn
 have t0 : Tryz.prog.underlying 0 = some (TypeDesc.tuple #[]) := by kernel_rfl
 have a0 : ∀ w, (isAgg 0).run Tryz.prog w = .ok false w := run_isAgg_plain t0 rfl
 have t3 : Tryz.prog.underlying 3 = some (.int .i64) := by kernel_rfl
 have a3 : ∀ w, (isAgg 3).run Tryz.prog w = .ok false w := run_isAgg_plain t3 rfl
 have t4 : Tryz.prog.underlying 4 = some .bool := by kernel_rfl
 have a4 : ∀ w, (isAgg 4).run Tryz.prog w = .ok false w := run_isAgg_plain t4 rfl
 have tS : Tryz.prog.underlying 23 = some (.slice 9) := by kernel_rfl
 have aS : ∀ w, (isAgg 23).run Tryz.prog w = .ok false w := run_isAgg_plain tS rfl
 have zE : ∀ w, (Go.sizeOf 9).run Tryz.prog w = .ok 1 w := fun w => by kernel_rfl
 have mixed : Tryz.prog.follows .mixedOrders = true := by kernel_rfl
 have h1 : ¬ ((n : Int) < 0) := by omega
 have h2 : wrap64 ((n : Int) - ((0 : Int) - 0)) = (n : Int) := by unfold wrap64; omega
 by_cases h0 : n = 0
 ·subst h0
  go_enter Ur, ld
  go_wp2
  go_ret
  exact .inl ⟨rfl, rfl⟩
 ·have h4 : (n : Int) > 0 := by omega
  have hold : (Builtin.firstCells HF.size 0 (.slice none 0 0)).run Tryz.prog w.drew = .ok #[] w.drew := run_firstCells_none w.drew HF.size 0 0 0
  have hrz : Hid (∀ ty, (Builtin.append_ #[23, 3] ty #[.slice none 0 0, .int .i64 (n : Int)]).run Tryz.prog w =
   .ok (.slice (some ⟨w.heap.size, 0, none⟩) n (grownCap w n 0 9)) (w.drew.alloc (.cells (#[] ++ Builtin.zeroCells (Value.cells (.string ⟨#[]⟩)) n ++ Builtin.zeroCells (Value.cells (.string ⟨#[]⟩)) (grownCap w n 0 9 - n)) 9))) := fun ty => by
   have h := Lib.run_append_grow_zeros w 23 3 ty 9 HF (.string ⟨#[]⟩) .i64 .i64 tS t3 W1 Pj none 0 0 [] hold n (by omega) (by rw [Pi]; decide) (by omega) (by omega)
    (by rw [Hp]; omega) (growslice_fits (by omega) (by rw [Hp]; omega))
   rw [Nat.zero_add] at h
   exact h
  obtain ⟨G, hG⟩ : ∃ G, G = grownCap w n 0 9 := ⟨_, rfl⟩
  have hGn : n ≤ G := by rw [hG]; exact grownCap_ge w _ _ _
  have hGm : G ≤ maxLen := by rw [hG]; exact grownCap_le_maxLen w n 0 9 (by unfold maxLen; omega)
  rw [← hG] at hrz
  obtain ⟨cur, hcur⟩ : ∃ cur, cur = #[] ++ Builtin.zeroCells (Value.cells (.string ⟨#[]⟩)) n ++ Builtin.zeroCells (Value.cells (.string ⟨#[]⟩)) (G - n) := ⟨_, rfl⟩
  rw [← hcur] at hrz
  have hcs : cur.size = G * 1 := by
   rw [hcur]
   simp [Builtin.zeroCells, Value.cells]
   omega
  clear hcur hG hold
  go_enter Ur, ld
  go_wp2_with (at_builtin; refine Lib.wpList_append_run _ rfl _ _ _ _ rfl _ _ rfl rfl _ _ (hrz.out _) ?_)
  all_goals (go_ret; exact ⟨G, rfl, hGm, cur, by omega, 9, rfl⟩)
def nv : Mt := GN (lc tk (lc BF l0)) (fun p => 0 ≤ p.2.1 ∧ p.2.1 ≤ 4000000) (fun p => ([.nil, .t (.v (.int .i64 p.2.1))], .o true 1 []))
theorem f4 {G : Gt} (hG : Ah G) : Gd G 148 (AM nv) := Gx.ofM (by kernel_rfl) fun ⟨_, k, _⟩ h => by
 obtain ⟨h0, h1⟩ := h
 dsimp only at h0 h1 ⊢
 obtain ⟨a, rfl⟩ := Int.eq_ofNat_of_zero_le h0
 exact ZE (m := G.m) iW a (by omega)
end Go.V
namespace Go.V
open Go Go.Proofs
set_option maxRecDepth 100000
set_option linter.unusedSimpArgs false
set_option linter.unusedVariables false
attribute [local go_sem] EQ.eq_1 EQ.eq_2 I4.eq_1 Oc.eq_1 Oc.eq_2 Fc.eq_1 Fc.eq_2 Co.eq_1 Co.eq_2 Co.eq_3 Co.eq_4 Co.eq_5 Cn.eq_1 Cn.eq_2 Cn.eq_3 Cn.eq_4 Cn.eq_5 DS.eq_1 DS.eq_2 DS.eq_3 Gj.eq_1 Gj.eq_2 Li.eq_1 Li.eq_2 Li.eq_3 dc.eq_1 dc.eq_2 tZ.eq_1 aF.eq_1 aF.eq_2 dA.eq_1 Kj.eq_1 EF.eq_1 EF.eq_2 EF.eq_3 EF.eq_4 EF.eq_5 HY.eq_1 HY.eq_2 BJ.eq_1 BJ.eq_2 BJ.eq_3 Hq.eq_1 Fe.eq_1 Gy.eq_1 KJ.eq_1 NA.eq_1 NA.eq_2 DT.eq_1 DT.eq_2 DT.eq_3 Lb.eq_1 Lb.eq_2 Dd.eq_1 Dd.eq_2 Fd.eq_1 EH.eq_1 EH.eq_2 da.eq_1 da.eq_2 Bc.eq_1 Bc.eq_2 CE.eq_1 He.eq_1 KG.eq_1 Dc.eq_1 Dc.eq_2 E6.eq_1 E5.eq_1 K2.eq_1 DE.eq_1 DE.eq_2 DF.eq_1 DF.eq_2 ER.eq_1 ER.eq_2 Cw.eq_1 Cw.eq_2 HG.eq_1 HX.eq_1 HX.eq_2 I1.eq_1 I1.eq_2 Lh.eq_1 Lh.eq_2 Lh.eq_3 Lh.eq_4 M4.eq_1 M4.eq_2 HW.eq_1 HW.eq_2 HW.eq_3 HW.eq_4 ct.eq_1 ct.eq_2 L5.eq_1 FM.eq_1 FM.eq_2 FM.eq_3 L6.eq_1 Ff.eq_1 Ff.eq_2 Ff.eq_3 GL.eq_1 GL.eq_2 GM.eq_1 GM.eq_2 Ha.eq_1 Ha.eq_2 W2.eq_1 Qv.eq_1 Qw.eq_1 M3.eq_1 M3.eq_2 Qx.eq_1 EE.eq_1 EE.eq_2 EE.eq_3 EE.eq_4 M5.eq_1 M5.eq_2 DK.eq_1 JQ.eq_1 JQ.eq_2 JQ.eq_3 Cc.eq_1 Cc.eq_2 E4.eq_1 E4.eq_2 Cb.eq_1 Cb.eq_2 Cb.eq_3 Gh.eq_1 Gh.eq_2 cV.eq_1 AS.takeV.eq_1 AS.takeV.eq_2 AS.takeV.eq_3 AS.takeV.eq_4 AS.takeV.eq_5 AS.takeV.eq_6 AS.takeV.eq_7 AV.oldM.eq_1 AV.oldM.eq_2 AV.oldM.eq_3 AV.oldM.eq_4 AV.oldM.eq_5 AV.oldM.eq_6 AV.oldM.eq_7 AV.oldM.eq_8 AV.oldM.eq_9 AV.oldM.eq_10 AV.oldM.eq_11 AV.oldML.eq_1 AV.oldML.eq_2 subL.eq_1 subL.eq_2 Df.eq_1 Df.eq_2 Df.eq_3 Df.eq_4 C4.eq_1 BH.eq_1 BH.eq_2 BH.eq_3 BH.eq_4 Bz.eq_1 CD.eq_1 CD.eq_2 CD.eq_3 ED.eq_1 ED.eq_2 ED.eq_3 BG.eq_1 BG.eq_2 BG.eq_3 BG.eq_4 BG.eq_5 BG.eq_6 BG.eq_7 BG.eq_8 BG.eq_9 BG.eq_10 BG.eq_11 BG.eq_12 BG.eq_13 BG.eq_14 BG.eq_15 BG.eq_17 BG.eq_18 BG.eq_19 BG.eq_20 BG.eq_21 BG.eq_22 BG.eq_23 AS.ev.eq_1 AS.ev.eq_2 AS.ev.eq_3 AS.ev.eq_4 AS.evs.eq_1 AS.evs.eq_2 AS.evp.eq_1 AS.evp.eq_2 AS.put.eq_1 AS.put.eq_2 AS.remL.eq_1 AS.remL.eq_2 AV.has.eq_1 AV.has.eq_2 AV.has.eq_3 AV.has.eq_4 AV.has.eq_5 AV.has.eq_6 AV.has.eq_7 AV.has.eq_8 AV.has.eq_9 AV.has.eq_10 AV.has.eq_11 AV.hasL.eq_1 AV.hasL.eq_2 Ob.drop.eq_1 Ob.drop.eq_2 Ob.drop.eq_3 Ob.drop.eq_4 AV.cells.eq_1 AV.cells.eq_2 AV.cells.eq_3 AV.cells.eq_4 AV.cells.eq_5 AS.snapT.eq_1 AS.snapT.eq_2 AS.snapT.eq_3 AS.snapT.eq_4 AS.snapT.eq_5 AS.snapT.eq_6 AS.snapT.eq_7 AS.snap.eq_1 AS.snap.eq_2 A7.eq_1 A7.eq_2 AO.eq_1 AO.eq_2 AO.eq_3 AO.eq_4 AO.eq_5 AO.eq_6 AO.eq_7 AO.eq_8 AO.eq_9 AO.eq_10 AO.eq_11 AT.eq_1 AT.eq_2 IG.eq_1 IG.eq_2 AV.ids.eq_1 AV.ids.eq_2 AV.ids.eq_3 AV.ids.eq_4 AV.ids.eq_5 AV.ids.eq_6 AV.ids.eq_7 AV.ids.eq_8 AV.ids.eq_9 AV.ids.eq_10 AV.ids.eq_11 AV.idsL.eq_1 AV.idsL.eq_2 AV.sub.eq_1 AV.sub.eq_2 AV.sub.eq_3 AV.sub.eq_4 AV.sub.eq_5 AV.sub.eq_6 AV.sub.eq_7 AV.sub.eq_8 AV.sub.eq_9 AV.sub.eq_10 AV.sub.eq_11 AV.subL.eq_1 AV.subL.eq_2 AS.frzL.eq_1 AS.frzL.eq_2 AS.absT.eq_1 AS.absT.eq_2 AS.absT.eq_4 AS.absL.eq_1 AS.absL.eq_2 AS.absOk.eq_1 AS.absOkL.eq_1 AS.absOkL.eq_2 B1.eq_1 BZ.eq_1 BZ.eq_2 AS.appBase.eq_1 AS.appBase.eq_2 AS.appSrc.eq_1 CX.eq_1 CX.eq_2 CX.eq_3 CR.eq_1 CR.eq_2 cu.eq_1 cu.eq_2 DU.eq_1 Kd.agg.eq_1 Kd.agg.eq_2 Ik.eq_1 Ik.eq_2 Ik.eq_3 Ik.eq_4 Ik.eq_5 Ik.eq_6 Ik.eq_7 Ik.eq_8 zt.eq_1 xR.eq_1 xS.eq_1 XW.eq_1 XW.eq_2 cH.eq_1 VX.eq_1 K5.eq_1 K5.eq_2 K5.eq_3 VY.eq_1 VW.eq_1 QG.eq_1 QG.eq_2 Hj.eq_1 DP.eq_1 DP.eq_2 DP.eq_3 DP.eq_4 DP.eq_5 DP.eq_6 DP.eq_7 DP.eq_8 DX.eq_1 DX.eq_2 Cj.eq_1 Cj.eq_2 Cj.eq_3 Cj.eq_4 Cj.eq_5 Bw.eq_1 C0.eq_1 C0.eq_2 C0.eq_3 C0.eq_4 C0.eq_5 CQ.eq_1 Rp.eq_1 Rp.eq_2 OA.eq_1 OA.eq_2 OA.eq_3 cellAV.eq_1 cellAV.eq_2 DW.eq_1 DW.eq_2 B4.eq_1 B4.eq_2 B4.eq_3 B4.eq_4 B4.eq_5 B4.eq_6 B4.eq_7 B4.eq_8 B4.eq_9 B4.eq_10 B4.eq_11 B4.eq_12 B4.eq_13 B4.eq_14 B4.eq_15 B4.eq_16 B4.eq_17 B4.eq_18 B4.eq_19 B4.eq_20 B4.eq_21 B4.eq_22 B4.eq_23 B4.eq_24 B4.eq_25 B4.eq_26 Bs.eq_1 Bs.eq_2 Bs.eq_3 Bs.eq_4 Bs.eq_5 AV.refs.eq_1 AV.refs.eq_2 AV.refs.eq_3 AV.refs.eq_4 AV.refs.eq_5 AV.refs.eq_6 AV.refs.eq_7 AV.refs.eq_8 AV.refs.eq_9 AV.refs.eq_10 AV.refs.eq_11 AV.refsL.eq_1 AV.refsL.eq_2 LE.eq_1 LE.eq_2 Ex.eq_1 Ex.eq_2 Ex.eq_3 Ex.eq_4 Ex.eq_5 Ex.eq_6 Mi.eq_1 Mi.eq_2 WZ.eq_1 WZ.eq_2 Gu.eq_1 Gu.eq_2 AV.hasM.eq_1 AV.hasM.eq_2 AV.hasM.eq_3 AV.hasM.eq_4 AV.hasM.eq_5 AV.hasM.eq_6 AV.hasM.eq_7 AV.hasM.eq_8 AV.hasM.eq_9 AV.hasM.eq_10 AV.hasM.eq_11 AV.hasML.eq_1 AV.hasML.eq_2 Ob.dropM.eq_1 Ob.dropM.eq_2 Ob.dropM.eq_3 Ob.dropM.eq_4 lY.eq_1 lY.eq_2 AS.purges.eq_1 AS.purges.eq_2 Kf.eq_1 Kf.eq_2 XH.eq_1 XH.eq_2 wI.eq_1 wI.eq_2 FO.eq_1 FO.eq_2 FN.eq_1 FN.eq_2 dC.eq_1 dC.eq_2 dD.eq_1 dD.eq_2 AS.mvs.eq_1 AS.mvs.eq_2 AS.mvA.eq_1 AS.mvA.eq_2 AS.mvB.eq_1 L8.eq_1 L8.eq_2 jv.eq_1 jv.eq_2 Ye.eq_1 Gi.eq_1 Gi.eq_2 j3.eq_1 Hb.eq_1 Hb.eq_2 KH.eq_1 Hc.eq_1 Hc.eq_2 I9.eq_1 C9.eq_1 To.eq_1 Gk.eq_1 Gk.eq_2 Gk.eq_3 L7.eq_1 L7.eq_2 I2.eq_1 I2.eq_2 Oh.eq_1 qD.eq_1 qD.eq_2 qD.eq_3 xO.eq_1 EP.eq_1 EP.eq_2 XZ.eq_1 Gv.eq_1 Gv.eq_2 Gv.eq_3 iw.eq_1 iw.eq_2 iw.eq_3 Q3.eq_1 Q2.eq_1 Q1.eq_1 HZ.eq_1 M6.eq_1 M6.eq_2 Q0.eq_1 Qz.eq_1 EG.eq_1 IQ.eq_1 L4.eq_1 vK.eq_1 vK.eq_2 Xn.eq_1 Xn.eq_2 Xn.eq_3 Xn.eq_4 FF.eq_1 FF.eq_2 FF.eq_3 FF.eq_4 Pu.eq_1 Pu.eq_2 vW.eq_1 vW.eq_2 HI.eq_1 HI.eq_2 Xo.eq_1 Xo.eq_2 Xo.eq_3 Xo.eq_4 Xo.eq_5 AS.lkO.eq_1 AS.lkO.eq_2 AS.lkOf.eq_1 H2.eq_1 H2.eq_2 H2.eq_3 H2.eq_4 H2.eq_5 H2.eq_6 Bi.eq_1 Bi.eq_2 Bi.eq_3 Bi.eq_4 Bi.eq_5 Bi.eq_6 Bi.eq_7 Bi.eq_8 Bi.eq_9 Bi.eq_10 Bi.eq_11 YH.eq_1 YH.eq_2 m8.eq_1 m8.eq_2 KL.eq_1 Cy.eq_1 Cy.eq_2 FG.eq_1 FG.eq_2 FG.eq_3 FG.eq_4 Pv.eq_1 Pv.eq_2 vX.eq_1 vX.eq_2 MU.eq_1 MU.eq_2 m9.eq_1 ly lz QU Vm QR kD kC kB Mj QS Vl LH QP cB Vi cA Vh cC Vj ku kr l4 cE Vk vH vI lB k8 lA k9 lx kv KI I3 db Ta GC Sf gv gd s0 Ao B5 FO aI aH PK drop_nil Zw Zv Uj Ui PJ PL Uh FN U6 cL bz re_eq up_eq aK ln Ob.drop xF yd DI AS.frz splice cond_true cond_false List.map_cons List.map_nil List.drop_zero List.drop_succ_cons List.drop_nil List.take_zero List.take_succ_cons List.take_nil List.getElem?_cons_zero List.getElem?_cons_succ List.getElem?_nil List.length_cons List.length_nil Option.map_some Option.map_none Option.bind_some Option.bind_none List.cons_append List.nil_append List.append_nil Option.getD_some Option.getD_none List.all_cons List.all_nil Bool.and_true Bool.true_and Bool.or_false Bool.false_or Bool.or_true Bool.true_or List.flatten_cons List.flatten_nil List.replicate_succ List.replicate_zero and_true true_and Yk Yj On Tt Tu MB Ow UC UD MC Ou Ov co cp MI US UR cN cM V2 V1 Vn bj VV QE QF Va VZ bm QH QI Md Mf ne_eq not_false_eq_true not_true_eq_false List.nodup_nil List.not_mem_nil false_implies implies_true eq_self true_or or_true Option.some.injEq Vo Vz Vv Vx Vy Vp V0 Vq Vw Vu Vt Vs Vr Ot Uo JA Nat.le_refl MZ lm cl ck PI QN JD Kz LC JK MW Px uL uK uM uP uQ uO Mg LB HD sB List.any_cons List.any_nil YR Ts YQ EW Ma NJ Op.operands Call.operands JV jz xg Tr SS SZ List.append_eq lZ la lU lV lW kJ kK kL U2 U3 U4 Hl AS.mv fits KM IP Fv Nc T9 Yf Yg Pp Pm Pn j2 Od UG lE Uv Tp L9 decide_true decide_false Array.toList_append UU UV UW UX Yo Oy ME UF MD KR AS.mvJ P1 b6 b9 a8 Option.isSome_some Option.isSome_none bH Ol Om jy j0 j1 YP YM YO YN YT ik.eq_1 W3.eq_1 W3.eq_2 Lq.eq_1 Lq.eq_2 Lq.eq_3 Lq.eq_4 vw vz Tq
attribute [local go_sem] zW zX zY zZ wk wl wm wn wo wq wr wt wu wv ww wx wy wz w3 w4 w6 w7 w8 w9 mP mQ mR mS By mT mU mV mW mX mY mZ ma DO va lN lO dC dD fits AS.mvs MN Og J9 NP O6 ON Xx MM Of J8 Ud O5 OM Xw OJ VC an al UB YV T8 OG OI Sq OF OH So UA YU T7 Ir.eq_1 am VA mb.eq_1 K0.eq_1 M0.eq_1 KI HP Nf RQ ZF lr lu lS lT Fk Tc Sv ZI Sw jh aq Xr Sr PW Tk TG TH ay X6 XD.eq_1 Ve PX Tl TI ZR TJ jm R3 X7 Jo PU Ti TC ZO Uc TD ax X4 XC.eq_1 Vd PY TK TL YB XE.eq_1 Vf Pb Tm TR ZT Uf TS jo R4 YE Jp PP Te S2 ZK S3 ji Xu W7.eq_1 Vb PS Tg S8 ZM S9 jk au X0 XA.eq_1 PO Td Sy ZJ Ub Sz ar Xt W6.eq_1 PV Tj ZQ Ue TE jl R2 Jn PT Th TA ZN TB X3 XB.eq_1 Vc PZ TM TN YC XF.eq_1 PQ S4 S5 Xv W8.eq_1 PR Tf S6 ZL S7 jj Xz W9.eq_1 Pa TP TQ YD Gc.eq_1
def Dh (a : List ByteArray) : List T := [.sl 1 (a.map AG)]
def O7 : List T → Option (List ByteArray)
 | [.sl 1 c] => Al.decL c
 | _ => none
def OO : Ee (List ByteArray) where
 enc := Dh
 dec := O7
 n := 1
 ed := fun a => Al.decL_map a
 de := fun c a h => by
  unfold O7 at h
  split at h
  ·rw [Al.decL_inv h]; rfl
  ·cases h
 len := fun _ => rfl
theorem Ly : OO.enc = Dh := rfl
theorem TO : OO.n = 1 := rfl
theorem Rk (a : List ByteArray) : Dh a = [.sl 1 (a.map AG)] := rfl
theorem WM (xs : List (List ByteArray)) (n : Int) (s : AS) (K : Kt) : Ei 1 (xs.map Dh) n s K = (0 ≤ n ∧ n < xs.length ∧ K (.t (.rop (Dh (xs.getD n.toNat default)))) s) := BW Dh xs 1 n s K fun _ => rfl
theorem Wa {a : ByteArray} {y : List ByteArray} : OO.decL [[.sl 1 [[.v (.string a)]]], [.sl 1 (y.map AG)]] = some [[a], y] := OO.decL_map [[a], y]
theorem Xq : tk.dec .nil = some () := rfl
def EY : List (List ByteArray) → Nat
 | [] => 0
 | x :: r => x.length + EY r
theorem Xa {xs : List (List ByteArray)} {i : Nat} (h : i < xs.length) : EY (xs.drop i) = (xs.getD i default).length + EY (xs.drop (i + 1)) := by
 rw [AZ h]; rfl
theorem cS {xs : List (List ByteArray)} {i : Nat} (h : xs.length ≤ i) : EY (xs.drop i) = 0 := by
 rw [List.drop_eq_nil_of_le h]; rfl
theorem Wv {xs : List (List ByteArray)} {i : Nat} (h : i < xs.length) : (xs.take (i + 1)).flatten = (xs.take i).flatten ++ xs.getD i default := by
 rw [List.take_succ_eq_append_getElem h, List.flatten_append]
 simp [h]
theorem LP : ∀ (xs : List (List ByteArray)) (i : Nat), (xs.take i).flatten.length ≤ EY xs
 | [], i => by simp
 | x :: r, 0 => by simp
 | x :: r, i + 1 => by
   have := LP r i
   rw [List.take_succ_cons, List.flatten_cons, List.length_append, EY]
   omega
def nO : Ct := Ak (lc OO.asl l0) (fun p => EY p.1 ≤ 2000000) (fun p => .o true 1 (p.1.flatten.map AG))
section
attribute [local go_sem] nv Ly TO Rk WM Xq lm List.length_append List.length_nil List.map_nil List.nil_append Nat.zero_add
set_option maxHeartbeats 1600000 in
theorem fQ {G : Gt} (hG : Ah G) (hh : G.e 148 = AM nv) : Gd G 115 (AA 0 nO) := by
 refine gr (fn := Tryz.f115) (n := 1) rfl rfl hG ?_ (hs := fun _ _ => .deep _ _)
 rintro ⟨xs, ⟨⟩⟩ hpre
 simp -implicitDefEqProofs only [Tryz.f115, go_sem, hh, seval] at hpre ⊢
 have hs : EY xs ≤ 2000000 := hpre
 with_reducible repeat' (first | apply ai | intro _ | ((first | apply s1 | apply s3 | apply s4) <;> intro hb <;> simp -implicitDefEqProofs only [hb, go_sem, hh, seval] <;> try simp only [qz] at hb))
 all_goals first | with_reducible rfl | omega | skip
 refine AE [] (ι := {i : Nat // i ≤ xs.length}) (fun p => ⟨[(0, .t (.sl 1 (xs.map Dh))), (3, .t (.v (.int .i64 ((EY xs : Int) - EY (xs.drop p.1))))), (9, .t (.sl 1 (xs.map Dh))), (10, .t (.v (.int .i64 xs.length))), (11, .t (.v (.int .i64 p.1)))], []⟩) (fun p => xs.length - p.1) ⟨0, by simp⟩ rfl ?_ ?_
 ·simp -implicitDefEqProofs only [go_sem, hh, seval]
  try simp
 ·rintro ⟨i, hi⟩
  have hle : (EY (xs.drop i) : Int) ≤ EY xs := by
   have h1 : ∀ (ys : List (List ByteArray)) (k : Nat), EY (ys.drop k) ≤ EY ys := fun ys => by
    induction ys with
    | nil => intro k; simp
    | cons y r ih =>
      intro k
      cases k with
      | zero => exact Nat.le_refl _
      | succ k =>
        have := ih k
        rw [List.drop_succ_cons, EY]
        omega
   have := h1 xs i
   omega
  by_cases hlt : (i : Int) < xs.length
  ·have Ap := Xa (xs := xs) (i := i) (by omega)
   simp -implicitDefEqProofs only [hlt, decide_true, tn, go_sem, hh, seval]
   with_reducible repeat' (first | apply ai | intro _ | ((first | apply s1 | apply s3 | apply s4) <;> intro hb <;> simp -implicitDefEqProofs only [hb, go_sem, hh, seval] <;> try simp only [qz] at hb))
   all_goals (try simp only [maxLen, tn] at *)
   all_goals first | with_reducible rfl | omega | skip
   refine ⟨⟨i + 1, by omega⟩, by dsimp only; omega, ?_⟩
   have e : (EY xs : Int) - EY (xs.drop i) + (xs.getD i default).length = (EY xs : Int) - EY (xs.drop (i + 1)) := by omega
   simp -implicitDefEqProofs only [go_sem, hh, seval]
   simp only [e]
   with_reducible repeat' (first | apply ai | intro _ | ((first | apply s1 | apply s3 | apply s4) <;> intro hb <;> simp -implicitDefEqProofs only [hb, go_sem, hh, seval] <;> try simp only [qz] at hb))
   all_goals first | rfl | (simp; done) | skip
  ·have Ap := cS (xs := xs) (i := i) (by omega)
   simp -implicitDefEqProofs only [hlt, decide_false, go_sem, hh, seval]
   with_reducible repeat' (first | apply ai | intro _ | ((first | apply s1 | apply s3 | apply s4) <;> intro hb <;> simp -implicitDefEqProofs only [hb, go_sem, hh, seval] <;> try simp only [qz] at hb))
   all_goals first | with_reducible rfl | omega | skip
   refine AE [(6, 1906, true, 1)] (ι := {i : Nat // i ≤ xs.length}) (fun p => ⟨[(6, .h 1906), (25, .t (.sl 1 (xs.map Dh))), (26, .t (.v (.int .i64 xs.length))), (27, .t (.v (.int .i64 p.1)))], [(1906, some (.arr true 1 ((xs.take p.1).flatten.map AG)))]⟩) (fun p => xs.length - p.1) ⟨0, by simp⟩ rfl ?_ ?_
   ·simp -implicitDefEqProofs only [go_sem, hh, seval]
    try simp
   ·rintro ⟨k, hk⟩
    have hf := LP xs k
    by_cases hlt2 : (k : Int) < xs.length
    ·have hft := Wv (xs := xs) (i := k) (by omega)
     have hf2 := LP xs (k + 1)
     rw [hft, List.length_append] at hf2
     simp -implicitDefEqProofs only [hlt2, decide_true, tn, go_sem, hh, seval]
     with_reducible repeat' (first | apply ai | intro _ | ((first | apply s1 | apply s3 | apply s4) <;> intro hb <;> simp -implicitDefEqProofs only [hb, go_sem, hh, seval] <;> try simp only [qz] at hb))
     all_goals (try simp only [maxLen, tn] at *)
     all_goals first | with_reducible rfl | omega | decide | skip
     refine ⟨⟨k + 1, by omega⟩, by dsimp only; omega, ?_⟩
     simp -implicitDefEqProofs only [go_sem, hh, seval]
     simp only [hft, List.map_append]
     with_reducible repeat' (first | apply ai | intro _ | ((first | apply s1 | apply s3 | apply s4) <;> intro hb <;> simp -implicitDefEqProofs only [hb, go_sem, hh, seval] <;> try simp only [qz] at hb))
     all_goals first | rfl | (simp; done) | skip
    ·simp -implicitDefEqProofs only [hlt2, decide_false, go_sem, hh, seval]
     with_reducible repeat' (first | apply ai | intro _ | ((first | apply s1 | apply s3 | apply s4) <;> intro hb <;> simp -implicitDefEqProofs only [hb, go_sem, hh, seval] <;> try simp only [qz] at hb))
     all_goals first | with_reducible rfl | omega | skip
     rw [List.take_of_length_le (by omega)]
end
end Go.V
namespace Go.V
open Go Go.Proofs
set_option maxRecDepth 100000
set_option linter.unusedSimpArgs false
set_option linter.unusedVariables false
def nt : Ct := Ak (lc LY.asl l0) (fun p => (p.1.length : Int) ≤ 1048576) (fun p => .o true 2 (p.1.map Bp))
section
attribute [local go_sem] M8 M7 lm List.nil_append List.map_nil List.map_cons List.length_cons List.length_nil
theorem fz {G : Gt} (hG : Ah G) : Gd G 146 (AA 0 nt) := by
 refine gr (fn := Tryz.f146) (n := 1) rfl rfl hG ?_ (hs := fun _ _ => .deep _ _)
 rintro ⟨xs, ⟨⟩⟩ hpre
 dsimp only at hpre ⊢
 cases xs with
 | nil =>
   simp -implicitDefEqProofs only [Tryz.f146, go_sem, seval]
   with_reducible repeat' (first | apply ai | intro _ | ((first | apply s1 | apply s3 | apply s4) <;> intro hb <;> simp -implicitDefEqProofs only [hb, go_sem, seval] <;> try simp only [qz] at hb))
   all_goals (try simp only [maxLen, lm] at *)
   all_goals first | rfl | omega | exact of_eq_true (Jp []) | (simp; done) | skip
 | cons x xs =>
   simp only [List.length_cons] at hpre
   simp -implicitDefEqProofs only [Tryz.f146, go_sem, seval]
   with_reducible repeat' (first | apply ai | intro _ | ((first | apply s1 | apply s3 | apply s4) <;> intro hb <;> simp -implicitDefEqProofs only [hb, go_sem, seval] <;> try simp only [qz] at hb))
   all_goals (try simp only [maxLen, lm] at *)
   all_goals first | rfl | omega | exact of_eq_true (Jp (x :: xs)) | exact of_eq_true (R4 (x :: xs)) _ (by assumption) | (simp; done) | skip
end
def eB : Ct := Ak (lc II.asl l0) (fun p => (p.1.length : Int) ≤ 1048576) (fun p => .o true 3 (p.1.map Av))
section
attribute [local go_sem] M8 M7 lm List.nil_append List.map_nil List.map_cons List.length_cons List.length_nil
theorem fH {G : Gt} (hG : Ah G) : Gd G 105 (AA 0 eB) := by
 refine gr (fn := Tryz.f105) (n := 1) rfl rfl hG ?_ (hs := fun _ _ => .deep _ _)
 rintro ⟨xs, ⟨⟩⟩ hpre
 dsimp only at hpre ⊢
 cases xs with
 | nil =>
   simp -implicitDefEqProofs only [Tryz.f105, go_sem, seval]
   with_reducible repeat' (first | apply ai | intro _ | ((first | apply s1 | apply s3 | apply s4) <;> intro hb <;> simp -implicitDefEqProofs only [hb, go_sem, seval] <;> try simp only [qz] at hb))
   all_goals (try simp only [maxLen, lm] at *)
   all_goals first | rfl | omega | exact of_eq_true (Jn []) | (simp; done) | skip
 | cons x xs =>
   simp only [List.length_cons] at hpre
   simp -implicitDefEqProofs only [Tryz.f105, go_sem, seval]
   with_reducible repeat' (first | apply ai | intro _ | ((first | apply s1 | apply s3 | apply s4) <;> intro hb <;> simp -implicitDefEqProofs only [hb, go_sem, seval] <;> try simp only [qz] at hb))
   all_goals (try simp only [maxLen, lm] at *)
   all_goals first | rfl | omega | exact of_eq_true (Jn (x :: xs)) | exact of_eq_true (R2 (x :: xs)) _ (by assumption) | (simp; done) | skip
end
def Yz : Ct := Ak (lc IH.ag l0) (fun p => HT p.1) (fun p => jF p.1)
section
attribute [local go_sem] lm List.map_nil List.length_nil List.nil_append Nat.zero_add
theorem fS {G : Gt} (hG : Ah G) : Gd G 117 (AA 0 Yz) := by
 refine gr (fn := Tryz.f117) (n := 1) rfl rfl hG ?_ (hs := fun _ p => K6 _)
 rintro ⟨x, ⟨⟩⟩ hpre
 simp -implicitDefEqProofs only [Tryz.f117, go_sem, seval] at hpre ⊢
 obtain ⟨_, ⟨h1, _⟩, ⟨h2, _⟩⟩ := hpre
 with_reducible repeat' (first | apply ai | intro _ | ((first | apply s1 | apply s3 | apply s4) <;> intro hb <;> simp -implicitDefEqProofs only [hb, go_sem, seval] <;> try simp only [qz] at hb))
 all_goals (try simp only [maxLen, lm, List.length_nil] at *)
 all_goals first | rfl | omega | (simp_all; done) | skip
end
def nN : Ct := Ak (lc IH.ag l0) (fun p => HT p.1) (fun p => jF p.1)
section
attribute [local go_sem] cx nt lm
theorem fO {G : Gt} (hG : Ah G) (hh : G.e 35 = AA 0 cx ∧ G.e 146 = AA 0 nt) : Gd G 113 (AA 0 nN) := by
 refine gr (fn := Tryz.f113) (n := 1) rfl rfl hG ?_ (hs := fun _ p => K6 _)
 rintro ⟨x, ⟨⟩⟩ hpre
 simp -implicitDefEqProofs only [Tryz.f113, go_sem, hh, seval] at hpre ⊢
 obtain ⟨_, ⟨h1, _⟩, ⟨h2, _⟩⟩ := hpre
 with_reducible repeat' (first | apply ai | intro _ | ((first | apply s1 | apply s3 | apply s4) <;> intro hb <;> simp -implicitDefEqProofs only [hb, go_sem, hh, seval] <;> try simp only [qz] at hb))
 all_goals (try simp only [maxLen, lm] at *)
 all_goals first | rfl | omega | (simp_all; done) | skip
end
def xK : Ct := Ak (lc D7.ag l0) (fun p => E0 p.1) (fun p => bo p.1)
section
attribute [local go_sem] cx nN Yy eB lm List.length_append List.length_cons List.length_nil List.map_append List.map_nil Nat.zero_add List.nil_append AS.opn AS.cls AS.nilb AS.renb AS.up Bool.not_false Bool.not_true List.set_set List.set_cons_zero List.set_cons_succ List.set_nil List.mem_singleton forall_eq
set_option maxHeartbeats 3200000 in
theorem rL {G : Gt} (hG : Ah G) (hh : G.e 35 = AA 0 cx ∧ G.e 113 = AA 0 nN ∧ G.e 114 = AA 0 Yy ∧ G.e 105 = AA 0 eB) : Gd G 63 (AA 0 xK) := by
 refine gr (fn := Tryz.f63) (n := 1) rfl rfl hG ?_ (hs := fun _ p => HK _)
 rintro ⟨h, ⟨⟩⟩ hpre
 simp -implicitDefEqProofs only [Tryz.f63, go_sem, hh, seval] at hpre ⊢
 obtain ⟨zc, zs, ⟨lb, zb⟩, ⟨ll, zl⟩⟩ := hpre
 with_reducible repeat' (first | apply ai | intro _ | ((first | apply s1 | apply s3 | apply s4) <;> intro hb <;> simp -implicitDefEqProofs only [hb, go_sem, hh, seval] <;> try simp only [qz] at hb))
 all_goals first | rfl | omega | decide | skip
 refine AE [(3, 1903, true, 3)] (ι := {i : Nat // i ≤ h.boxes.length}) (fun p => ⟨[(1, .pb 1001 0), (2, .pb 1002 0), (3, .h 1903), (10, .t (.sl 3 (h.boxes.map Bo))), (11, .t (.v (.int .i64 h.boxes.length))), (12, .t (.v (.int .i64 p.1)))], [(1001, some (.box ((Ai h).map .t))), (1002, some (.box [.t (.v (.string ⟨#[]⟩)), .nil, .nil, .t (.v (.int .i64 0)), .nil, .nil, .nil])), (1903, some (.arr true 3 ((h.boxes.take p.1).map Bo)))]⟩) (fun p => h.boxes.length - p.1) ⟨0, by simp⟩ rfl ?_ ?_
 ·simp -implicitDefEqProofs only [go_sem, hh, seval]
  try simp
 ·rintro ⟨i, hi⟩
  have hlen : (h.boxes.take i).length = i := by simp; omega
  by_cases hlt : (i : Int) < h.boxes.length
  ·skip
   have hbx := zb _ (AF (xs := h.boxes) (j := i) (by omega))
   obtain ⟨_, ⟨lm, zm⟩⟩ := hbx
   simp -implicitDefEqProofs only [hlt, decide_true, tn, go_sem, hh, seval]
   with_reducible repeat' (first | apply ai | intro _ | ((first | apply s1 | apply s3 | apply s4) <;> intro hb <;> simp -implicitDefEqProofs only [hb, go_sem, hh, seval] <;> try simp only [qz] at hb))
   all_goals (try simp only [maxLen] at *)
   all_goals first | rfl | omega | assumption | decide | skip
   refine AE [(6, 1906, true, 3)] (ι := {k : Nat // k ≤ (h.boxes.getD i default).mails.length}) (fun p => ⟨[(1, .pb 1001 0), (2, .pb 1002 0), (3, .h 1903), (5, .pb 1005 0), (6, .h 1906), (10, .t (.sl 3 (h.boxes.map Bo))), (11, .t (.v (.int .i64 h.boxes.length))), (12, .t (.v (.int .i64 i))), (17, .t (.sl 3 ((h.boxes.getD i default).mails.map Cg))), (18, .t (.v (.int .i64 (h.boxes.getD i default).mails.length))), (19, .t (.v (.int .i64 p.1)))], [(1001, some (.box ((Ai h).map .t))), (1002, some (.box [.t (.v (.string ⟨#[]⟩)), .nil, .nil, .t (.v (.int .i64 0)), .nil, .nil, .nil])), (1903, some (.arr true 3 ((h.boxes.take i).map Bo))), (1005, some (.box ((Bo (h.boxes.getD i default)).map .t))), (1906, some (.arr true 3 (((h.boxes.getD i default).mails.take p.1).map Cg)))]⟩) (fun p => (h.boxes.getD i default).mails.length - p.1) ⟨0, by simp⟩ rfl ?_ ?_
   ·simp -implicitDefEqProofs only [go_sem, hh, seval]
    try simp
   ·rintro ⟨k, hk⟩
    have hlen2 : ((h.boxes.getD i default).mails.take k).length = k := by rw [List.length_take]; omega
    by_cases hlt2 : (k : Int) < (h.boxes.getD i default).mails.length
    ·obtain ⟨_, ⟨lg, _⟩⟩ := zm _ (AF (xs := (h.boxes.getD i default).mails) (j := k) (by omega))
     simp -implicitDefEqProofs only [hlt2, decide_true, tn, go_sem, hh, seval]
     with_reducible repeat' (first | apply ai | intro _ | ((first | apply s1 | apply s3 | apply s4) <;> intro hb <;> simp -implicitDefEqProofs only [hb, go_sem, hh, seval] <;> try simp only [qz] at hb))
     all_goals (try simp only [maxLen] at *)
     all_goals first | rfl | omega | assumption | decide | skip
     refine ⟨⟨k + 1, by omega⟩, by dsimp only; omega, ?_⟩
     simp -implicitDefEqProofs only [go_sem, hh, seval]
     simp only [BE Cg (show k < (h.boxes.getD i default).mails.length by omega)]
     with_reducible repeat' (first | apply ai | intro _ | ((first | apply s1 | apply s3 | apply s4) <;> intro hb <;> simp -implicitDefEqProofs only [hb, go_sem, hh, seval] <;> try simp only [qz] at hb))
     all_goals first | rfl | (simp; done) | skip
    ·have htk : (h.boxes.getD i default).mails.take k = (h.boxes.getD i default).mails := List.take_of_length_le (by omega)
     simp -implicitDefEqProofs only [hlt2, htk, decide_false, tn, go_sem, hh, seval]
     with_reducible repeat' (first | apply ai | intro _ | ((first | apply s1 | apply s3 | apply s4) <;> intro hb <;> simp -implicitDefEqProofs only [hb, go_sem, hh, seval] <;> try simp only [qz] at hb))
     all_goals (try simp only [maxLen] at *)
     all_goals first | rfl | omega | assumption | decide | skip
     refine ⟨⟨i + 1, by omega⟩, by dsimp only; omega, ?_⟩
     simp -implicitDefEqProofs only [go_sem, hh, seval]
     simp only [BE Bo (show i < h.boxes.length by omega)]
     with_reducible repeat' (first | apply ai | intro _ | ((first | apply s1 | apply s3 | apply s4) <;> intro hb <;> simp -implicitDefEqProofs only [hb, go_sem, hh, seval] <;> try simp only [qz] at hb))
     all_goals first | rfl | (simp; done) | skip
  ·have htk : h.boxes.take i = h.boxes := List.take_of_length_le (by omega)
   simp -implicitDefEqProofs only [hlt, htk, decide_false, go_sem, hh, seval]
   with_reducible repeat' (first | apply ai | intro _ | ((first | apply s1 | apply s3 | apply s4) <;> intro hb <;> simp -implicitDefEqProofs only [hb, go_sem, hh, seval] <;> try simp only [qz] at hb))
   all_goals (try simp only [maxLen] at *)
   all_goals first | rfl | omega | assumption | decide | exact ⟨zc, zs, ⟨lb, zb⟩, ⟨ll, zl⟩⟩ | rfl | skip
end
def uY : Ct := Ak (lc D7.ag l0) (fun p => E0 p.1) (fun p => bo p.1)
section
attribute [local go_sem] Yz Y0 lm List.length_append List.length_cons List.length_nil List.map_append List.map_nil Nat.zero_add List.nil_append AS.opn AS.cls AS.nilb AS.renb AS.up Bool.not_false Bool.not_true List.set_set List.set_cons_zero List.set_cons_succ List.set_nil List.mem_singleton forall_eq
set_option maxHeartbeats 6400000 in
theorem rP {G : Gt} (hG : Ah G) (hh : G.e 117 = AA 0 Yz ∧ G.e 118 = AA 0 Y0) : Gd G 67 (AA 0 uY) := by
 refine Lo (dp := fun n => !(Nat.beq n 100002 || Nat.beq n 100004 || Nat.beq n 100006 || Nat.beq n 100008)) (fn := Tryz.f67) (n := 1) rfl rfl hG ?_ (hs := fun _ p => HK _)
 rintro ⟨h, ⟨⟩⟩ hpre
 simp -implicitDefEqProofs only [Tryz.f67, go_sem, hh, seval] at hpre ⊢
 obtain ⟨zc, zs, ⟨lb, zb⟩, ⟨ll, zl⟩⟩ := hpre
 with_reducible repeat' (first | apply ai | intro _ | ((first | apply s1 | apply s3 | apply s4) <;> intro hb <;> simp -implicitDefEqProofs only [hb, go_sem, hh, seval] <;> try simp only [qz] at hb))
 all_goals (try simp only [maxLen] at *)
 all_goals first | rfl | omega | assumption | decide | skip
 refine Ag (Le.nilb 1003 5 1905 true 3 rfl rfl rfl) (AY ?_)
 simp -implicitDefEqProofs only [go_sem, hh, seval]
 refine AE [] (ι := {i : Nat // i ≤ h.boxes.length}) (fun p => ⟨[(1, .pb 1001 0), (2, .pb 1002 0), (3, .pb 1003 0), (4, .t (.v (.int .i64 p.1)))], [(1001, some (.box ((Ai h).map .t))), (1002, some (.box [.t (.v (.string ⟨#[]⟩)), .nil, .nil, .t (.v (.int .i64 0)), .nil, .nil, .nil])), (1003, some (.box [.t (.v (.string h.conf.name)), .h 1009, .h 2009, .t (.v (.int .i64 h.spool.last)), .h 1012, .h 1905, .h 1016])), (1009, some (.arr true 1 (h.conf.own.map AG))), (2009, some (.arr true 2 (h.conf.ways.map Bp))), (1012, some (.arr true 5 (h.spool.items.map An))), (1016, some (.arr true 3 (h.lost.map Av))), (1905, some (.arr true 3 ((h.boxes.take p.1).map Bo)))]⟩) (fun p => h.boxes.length - p.1) ⟨0, by simp⟩ rfl ?_ ?_
 ·simp -implicitDefEqProofs only [go_sem, hh, seval]
  try simp
 ·rintro ⟨i, hi⟩
  have hlen : (h.boxes.take i).length = i := by simp; omega
  by_cases hlt : (i : Int) < h.boxes.length
  ·skip
   have hbx := zb _ (AF (xs := h.boxes) (j := i) (by omega))
   obtain ⟨_, ⟨lm, zm⟩⟩ := hbx
   simp -implicitDefEqProofs only [hlt, decide_true, tn, go_sem, hh, seval]
   with_reducible repeat' (first | apply ai | intro _ | ((first | apply s1 | apply s3 | apply s4) <;> intro hb <;> simp -implicitDefEqProofs only [hb, go_sem, hh, seval] <;> try simp only [qz] at hb))
   all_goals (try simp only [maxLen] at *)
   all_goals first | rfl | omega | assumption | decide | skip
   refine Ag (Le.nilb 1005 2 1906 true 3 rfl rfl rfl) (AY ?_)
   simp -implicitDefEqProofs only [go_sem, hh, seval]
   with_reducible repeat' (first | apply ai | intro _ | ((first | apply s1 | apply s3 | apply s4) <;> intro hb <;> simp -implicitDefEqProofs only [hb, go_sem, hh, seval] <;> try simp only [qz] at hb))
   all_goals first | rfl | omega | decide | skip
   refine AE [] (ι := {k : Nat // k ≤ (h.boxes.getD i default).mails.length}) (fun p => ⟨[(1, .pb 1001 0), (2, .pb 1002 0), (3, .pb 1003 0), (4, .t (.v (.int .i64 i))), (5, .pb 1005 0), (6, .t (.v (.int .i64 p.1)))], [(1001, some (.box ((Ai h).map .t))), (1002, some (.box [.t (.v (.string ⟨#[]⟩)), .nil, .nil, .t (.v (.int .i64 0)), .nil, .nil, .nil])), (1003, some (.box [.t (.v (.string h.conf.name)), .h 1009, .h 2009, .t (.v (.int .i64 h.spool.last)), .h 1012, .h 1905, .h 1016])), (1009, some (.arr true 1 (h.conf.own.map AG))), (2009, some (.arr true 2 (h.conf.ways.map Bp))), (1012, some (.arr true 5 (h.spool.items.map An))), (1016, some (.arr true 3 (h.lost.map Av))), (1905, some (.arr true 3 ((h.boxes.take i).map Bo))), (1005, some (.box [.t (.v (.string (h.boxes.getD i default).addr.user)), .t (.v (.string (h.boxes.getD i default).addr.domain)), .h 1906])), (1906, some (.arr true 3 (((h.boxes.getD i default).mails.take p.1).map Cg)))]⟩) (fun p => (h.boxes.getD i default).mails.length - p.1) ⟨0, by simp⟩ rfl ?_ ?_
   ·simp -implicitDefEqProofs only [go_sem, hh, seval]
    try simp
   ·rintro ⟨k, hk⟩
    have hlen2 : ((h.boxes.getD i default).mails.take k).length = k := by rw [List.length_take]; omega
    by_cases hlt2 : (k : Int) < (h.boxes.getD i default).mails.length
    ·obtain ⟨_, ⟨lg, _⟩⟩ := zm _ (AF (xs := (h.boxes.getD i default).mails) (j := k) (by omega))
     simp -implicitDefEqProofs only [hlt2, decide_true, tn, go_sem, hh, seval]
     with_reducible repeat' (first | apply ai | intro _ | ((first | apply s1 | apply s3 | apply s4) <;> intro hb <;> simp -implicitDefEqProofs only [hb, go_sem, hh, seval] <;> try simp only [qz] at hb))
     all_goals (try simp only [maxLen, tn] at *)
     all_goals first | rfl | omega | assumption | decide | skip
     refine Ag (Le.renb 1005 2 1069 1906 rfl rfl rfl rfl) (AY ?_)
     simp -implicitDefEqProofs only [go_sem, hh, seval]
     with_reducible repeat' (first | apply ai | intro _ | ((first | apply s1 | apply s3 | apply s4) <;> intro hb <;> simp -implicitDefEqProofs only [hb, go_sem, hh, seval] <;> try simp only [qz] at hb))
     all_goals first | rfl | omega | decide | skip
     refine ⟨⟨k + 1, by omega⟩, by dsimp only; omega, ?_⟩
     simp -implicitDefEqProofs only [go_sem, hh, seval]
     simp only [BE Cg (show k < (h.boxes.getD i default).mails.length by omega)]
     with_reducible repeat' (first | apply ai | intro _ | ((first | apply s1 | apply s3 | apply s4) <;> intro hb <;> simp -implicitDefEqProofs only [hb, go_sem, hh, seval] <;> try simp only [qz] at hb))
     all_goals first | rfl | (simp; done) | skip
    ·have htk : (h.boxes.getD i default).mails.take k = (h.boxes.getD i default).mails := List.take_of_length_le (by omega)
     simp -implicitDefEqProofs only [hlt2, htk, decide_false, tn, go_sem, hh, seval]
     with_reducible repeat' (first | apply ai | intro _ | ((first | apply s1 | apply s3 | apply s4) <;> intro hb <;> simp -implicitDefEqProofs only [hb, go_sem, hh, seval] <;> try simp only [qz] at hb))
     all_goals (try simp only [maxLen] at *)
     all_goals first | rfl | omega | assumption | decide | skip
     refine Ag (Le.renb 1003 5 1075 1905 rfl rfl rfl rfl) (AY ?_)
     simp -implicitDefEqProofs only [go_sem, hh, seval]
     with_reducible repeat' (first | apply ai | intro _ | ((first | apply s1 | apply s3 | apply s4) <;> intro hb <;> simp -implicitDefEqProofs only [hb, go_sem, hh, seval] <;> try simp only [qz] at hb))
     all_goals first | rfl | omega | decide | skip
     refine ⟨⟨i + 1, by omega⟩, by dsimp only; omega, ?_⟩
     simp -implicitDefEqProofs only [go_sem, hh, seval]
     simp only [BE Bo (show i < h.boxes.length by omega)]
     with_reducible repeat' (first | apply ai | intro _ | ((first | apply s1 | apply s3 | apply s4) <;> intro hb <;> simp -implicitDefEqProofs only [hb, go_sem, hh, seval] <;> try simp only [qz] at hb))
     all_goals first | rfl | (simp; done) | skip
  ·have htk : h.boxes.take i = h.boxes := List.take_of_length_le (by omega)
   simp -implicitDefEqProofs only [hlt, htk, decide_false, go_sem, hh, seval]
   with_reducible repeat' (first | apply ai | intro _ | ((first | apply s1 | apply s3 | apply s4) <;> intro hb <;> simp -implicitDefEqProofs only [hb, go_sem, hh, seval] <;> try simp only [qz] at hb))
   all_goals (try simp only [maxLen] at *)
   all_goals first | rfl | omega | assumption | decide | rfl | skip
end
def nQ : Ct := Ak (lc Aq l0) (fun p => p.1.size ≤ 2000000) (fun p => .t (.v (.string (BD p.1))))
theorem fY {G : Gt} (hG : Ah G) : Gd G 123 (AA 0 nQ) := by
 refine gr (fn := Tryz.f123) (n := 1) rfl rfl hG ?_
 rintro ⟨n, ⟨⟩⟩ hpre
 simp -implicitDefEqProofs only [Tryz.f123, go_sem, seval] at hpre ⊢
 with_reducible repeat' (first | apply ai | intro _ | ((first | apply s1 | apply s3 | apply s4) <;> intro hb <;> simp -implicitDefEqProofs only [hb, go_sem, seval] <;> try simp only [qz] at hb))
 all_goals (try simp only [maxLen] at *)
 all_goals first | rfl | omega | (show 5 + n.size ≤ _; omega) | skip
noncomputable def W0 (n : ByteArray) (xs : List ByteArray) : AV := bif BM (C3 n ∧ CZ xs ∧ xs.length < 12) then .tup [.o true 1 ((BD n :: xs).map AG), .t (.v (.bool true))] else .tup [.o true 1 ([].map AG), .t (.v (.bool false))]
theorem Ru {n : ByteArray} {xs : List ByteArray} (h : C3 n ∧ CZ xs ∧ xs.length < 12) : W0 n xs = .tup [.o true 1 ((BD n :: xs).map AG), .t (.v (.bool true))] := by unfold W0; rw [Ae h]; rfl
theorem Rs {n : ByteArray} {xs : List ByteArray} (h : ¬ (C3 n ∧ CZ xs ∧ xs.length < 12)) : W0 n xs = .tup [.o true 1 ([].map AG), .t (.v (.bool false))] := by unfold W0; rw [AN h]; rfl
theorem Rt (n : ByteArray) (xs : List ByteArray) : BV (W0 n xs) := by
 by_cases h : C3 n ∧ CZ xs ∧ xs.length < 12
 ·rw [Ru h]
  refine .tup _ fun c hc => ?_
  simp only [List.mem_cons, List.not_mem_nil, or_false] at hc
  rcases hc with rfl | rfl
  ·exact .deep _ _
  ·exact .v _
 ·rw [Rs h]
  refine .tup _ fun c hc => ?_
  simp only [List.mem_cons, List.not_mem_nil, or_false] at hc
  rcases hc with rfl | rfl
  ·exact .deep _ _
  ·exact .v _
theorem wP {a : ByteArray} {xs : List ByteArray} : EY [[a], xs] = 1 + xs.length := by simp [EY]
theorem NM {a : ByteArray} {xs : List ByteArray} : Al.decL ([.v (.string a)] :: xs.map AG) = some (a :: xs) := Al.decL_map (a :: xs)
theorem Pg (n : ByteArray) : (BD n).size = 5 + n.size := by
 have e : bl (BD n) = [72, 111, 112, 58, 32] ++ bl n := KT _ _
 rw [← CF, e, List.length_append, CF]; rfl
theorem r9 {n : ByteArray} : (⟨#[72, 111, 112, 58, 32]⟩ : ByteArray) ++ n = BD n := rfl
def yF : Ct := Ak (lc Aq (lc Al.asl l0)) (fun p => p.1.size ≤ 2000000 ∧ ∀ s ∈ p.2.1, s.size ≤ 2000000) (fun p => W0 p.1 p.2.1)
section
attribute [local go_sem] UQ c8 nO AX AW Wa TO Ly wP r9 lm Bool.not_false Bool.not_true
set_option maxHeartbeats 800000 in
theorem rN {G : Gt} (hG : Ah G) (hh : G.e 34 = AA 0 UQ ∧ G.e 51 = AA 0 c8 ∧ G.e 115 = AA 0 nO) : Gd G 65 (AA 0 yF) := by
 refine Lo (dp := fun n => !(Nat.beq n 23)) (fn := Tryz.f65) (n := 2) rfl rfl hG ?_ (hs := fun _ p => Rt _ _)
 rintro ⟨n, xs, ⟨⟩⟩ hpre
 obtain ⟨h1, h2⟩ := hpre
 dsimp only at h1 h2 ⊢
 have hlen : CZ xs → xs.length ≤ 12 := fun q => q.2
 by_cases q : C3 n ∧ CZ xs ∧ xs.length < 12
 ·rw [Ru q]
  obtain ⟨q1, q2, q3⟩ := q
  have b1 := Ae q1
  have b2 := Ae q2
  have q4 : ¬ (xs.length : Int) = 12 := by omega
  simp -implicitDefEqProofs only [Tryz.f65, b1, b2, q4, decide_false, go_sem, hh, seval]
  with_reducible repeat' (first | apply ai | intro _ | ((first | apply s1 | apply s3 | apply s4) <;> intro hb <;> simp -implicitDefEqProofs only [hb, go_sem, hh, seval] <;> try simp only [qz] at hb))
  all_goals (try simp only [maxLen] at *)
  all_goals first | rfl | omega | assumption | decide | exact h2 _ (by assumption) | (show 5 + n.size ≤ _; omega) | contradiction | (simp; done) | skip
 ·rw [Rs q]
  simp -implicitDefEqProofs only [Tryz.f65, go_sem, hh, seval]
  with_reducible repeat' (first | apply ai | intro _ | ((first | apply s1 | apply s3 | apply s4) <;> intro hb <;> simp -implicitDefEqProofs only [hb, go_sem, hh, seval] <;> try simp only [qz] at hb))
  all_goals (try simp only [maxLen, AX, AW] at *)
  all_goals first | rfl | omega | assumption | decide | exact h2 _ (by assumption) | contradiction | (exfalso; exact q ⟨by assumption, by assumption, by have := hlen (by assumption); omega⟩) | (show 5 + n.size ≤ _; omega) | skip
end
open Classical in
noncomputable def KB (h : Hs) (m : Ml) (w : Int) : Hs × Bool := if m.body.length < 12 ∧ Bj h.spool then (Lw h m w, true) else (h, false)
theorem IL {h : Hs} {m : Ml} {w : Int} (q : m.body.length < 12 ∧ Bj h.spool) : KB h m w = (Lw h m w, true) := if_pos q
theorem IK {h : Hs} {m : Ml} {w : Int} (q : ¬ (m.body.length < 12 ∧ Bj h.spool)) : KB h m w = (h, false) := if_neg q
def pB : Ct := Ak (lc D7.ag (lc TF.ag (lc BF l0))) (fun p => E0 p.1 ∧ E3 p.2.1 ∧ Bg p.1.spool ∧ p.1.conf.name.size ≤ 1000000) (fun p => SY (KB p.1 p.2.1 p.2.2.1))
section
attribute [local go_sem] KX NG nQ RG Ja JT List.take_length List.drop_zero List.length_take List.length_drop lm List.length_append List.length_cons List.length_nil List.map_append List.map_nil List.map_cons List.nil_append Nat.zero_add List.mem_singleton forall_eq Bool.not_true Bool.not_false NM List.cons_append SY AS.opn AS.cls AS.nilb AS.renb AS.up List.set_set List.set_cons_zero List.set_cons_succ List.set_nil
set_option maxHeartbeats 3200000 in
theorem rS {G : Gt} (hG : Ah G) (hh : G.e 121 = AA 0 KX ∧ G.e 122 = AA 0 NG ∧ G.e 123 = AA 0 nQ ∧ G.e 124 = AA 1 RG) : Gd G 70 (AA 1 pB) := by
 refine Lo (dp := fun n => Nat.ble 100000 n) (fn := Tryz.f70) (n := 3) rfl rfl hG ?_
 rintro ⟨h, m, w, ⟨⟩⟩ hpre
 obtain ⟨hok, hml, hsp, hnm2⟩ := hpre
 dsimp only at hok hml hsp hnm2 ⊢
 have hml2 := hml
 obtain ⟨⟨_, _⟩, ⟨hl1, zt⟩, ⟨hl2, zb⟩⟩ := hml2
 have Qj : h.conf.name.size ≤ 2000000 := by have : h.conf.name.size ≤ 1048576 := hok.1.1; omega
 by_cases q : m.body.length < 12 ∧ Bj h.spool
 ·rw [IL q]
  obtain ⟨q1, q2⟩ := q
  have b2 := Ae q2
  have q3 : ¬ (m.body.length : Int) ≥ 12 := by omega
  have hos := hok.2.1
  have hml3 : E3 ⟨m.frm, m.to, BD h.conf.name :: m.body⟩ := by
   refine ⟨hml.1, hml.2.1, ⟨by show ((BD h.conf.name :: m.body).length : Int) ≤ _; rw [List.length_cons]; omega, fun s hs => ?_⟩⟩
   rcases List.mem_cons.1 hs with e | hs
   ·rw [e]
    have h5 := Pg h.conf.name
    have h6 : h.conf.name.size ≤ 1000000 := hnm2
    show (BD h.conf.name).size ≤ 1048576
    omega
   ·exact zb s hs
  simp -implicitDefEqProofs only [Tryz.f70, b2, q3, decide_false, go_sem, hh, seval]
  with_reducible repeat' (first | apply ai | intro _ | ((first | apply s1 | apply s3 | apply s4) <;> intro hb <;> simp -implicitDefEqProofs only [hb, go_sem, hh, seval] <;> try simp only [qz] at hb))
  all_goals (try simp only [maxLen] at *)
  all_goals first | with_reducible assumption | rfl | omega | contradiction | skip
 ·rw [IK q]
  by_cases q1 : m.body.length < 12
  ·have b2 := AN (fun z => q ⟨q1, z⟩)
   have q3 : ¬ (m.body.length : Int) ≥ 12 := by omega
   simp -implicitDefEqProofs only [Tryz.f70, b2, q3, decide_false, go_sem, hh, seval]
   with_reducible repeat' (first | apply ai | intro _ | ((first | apply s1 | apply s3 | apply s4) <;> intro hb <;> simp -implicitDefEqProofs only [hb, go_sem, hh, seval] <;> try simp only [qz] at hb))
   all_goals (try simp only [maxLen] at *)
   all_goals first | rfl | omega | assumption | decide | contradiction | skip
  ·have q3 : (m.body.length : Int) ≥ 12 := by omega
   simp -implicitDefEqProofs only [Tryz.f70, q3, decide_true, go_sem, hh, seval]
   with_reducible repeat' (first | apply ai | intro _ | ((first | apply s1 | apply s3 | apply s4) <;> intro hb <;> simp -implicitDefEqProofs only [hb, go_sem, hh, seval] <;> try simp only [qz] at hb))
   all_goals (try simp only [maxLen] at *)
   all_goals first | rfl | omega | assumption | decide | contradiction | skip
end
def xu : Ct := Ak (lc D7.ag (lc TF.ag (lc BF l0))) (fun p => E0 p.1 ∧ E3 p.2.1) (fun p => SY (FX p.1 p.2.1 p.2.2.1))
section
attribute [local go_sem] kG uY uZ Ju pA pB Ja JT List.take_length List.drop_zero List.length_take List.length_drop lm List.length_append List.length_cons List.length_nil List.map_append List.map_nil List.map_cons List.nil_append Nat.zero_add List.mem_singleton forall_eq Bool.not_true Bool.not_false SY bG AX AW AS.opn AS.cls AS.nilb AS.renb AS.up List.set_set List.set_cons_zero List.set_cons_succ List.set_nil
set_option maxHeartbeats 3200000 in
theorem qS {G : Gt} (hG : Ah G) (hh : G.e 39 = AA 0 kG ∧ G.e 67 = AA 0 uY ∧ G.e 68 = AA 0 uZ ∧ G.e 69 = AA 0 Ju ∧ G.e 62 = AA 0 pA ∧ G.e 70 = AA 1 pB) : Gd G 21 (AA 1 xu) := by
 refine Lo (dp := fun n => Nat.ble 100000 n) (fn := Tryz.f21) (n := 3) rfl rfl hG ?_
 rintro ⟨h, m, w, ⟨⟩⟩ hpre
 obtain ⟨hok, hml⟩ := hpre
 dsimp only at hok hml ⊢
 by_cases q : DR h
 ·have b1 := Ae q
  have hsp := q.2.2
  have Qj : h.conf.name.size ≤ 1000000 := by have := (CM q.2.1.2.2.1).2; omega
  obtain ⟨R, hR⟩ : ∃ x, x = FX h m w := ⟨_, rfl⟩
  rw [← hR]
  by_cases qm : B6 m
  ·have b2 := Ae qm
   by_cases qw : 0 ≤ w ∧ w ≤ 9999
   ·have b3 := Ae qw
    simp -implicitDefEqProofs only [Tryz.f21, b1, b2, b3, go_sem, hh, seval]
    with_reducible repeat' (first | apply ai | intro _ | ((first | apply s1 | apply s3 | apply s4) <;> intro hb <;> simp -implicitDefEqProofs only [hb, go_sem, hh, seval] <;> try simp only [qz] at hb))
    all_goals first | with_reducible assumption | rfl | omega | contradiction | skip
    refine AE [] (ι := {i : Nat // i ≤ m.to.length ∧ ∀ j, j < i → Bk h.conf (m.to.getD j default)}) (fun p => ⟨[(2, .t (.v (.int .i64 w))), (3, .pb 1003 0), (4, .pb 1004 0), (6, .pb 1006 0), (8, .pb 1008 0), (9, .t (.v (.int .i64 p.1)))], [(1003, some (.box ((Ai h).map .t))), (1004, some (.box ((C6 m).map .t))), (1006, some (.box [.t (.v (.string ⟨#[]⟩)), .nil, .nil, .t (.v (.int .i64 0)), .nil, .nil, .nil])), (1008, some (.box [.t (.v (.string h.conf.name)), .h 1015, .h 2015, .t (.v (.int .i64 h.spool.last)), .h 3015, .h 4015, .h 5015])), (1015, some (.arr true 1 (h.conf.own.map AG))), (2015, some (.arr true 2 (h.conf.ways.map Bp))), (3015, some (.arr true 5 (h.spool.items.map An))), (4015, some (.arr true 3 (h.boxes.map Bo))), (5015, some (.arr true 3 (h.lost.map Av)))]⟩) (fun p => m.to.length - p.1) ⟨0, by simp, by simp⟩ rfl ?_ ?_
    ·simp -implicitDefEqProofs only [go_sem, hh, seval]
     try simp
    ·rintro ⟨i, hi, hall⟩
     by_cases hlt : (i : Int) < m.to.length
     ·by_cases ht : Bk h.conf (m.to.getD i default)
      ·have b4 := Ae ht
       simp -implicitDefEqProofs only [hlt, b4, decide_true, tn, go_sem, hh, seval]
       with_reducible repeat' (first | apply ai | intro _ | ((first | apply s1 | apply s3 | apply s4) <;> intro hb <;> simp -implicitDefEqProofs only [hb, go_sem, hh, seval] <;> try simp only [qz] at hb))
       all_goals (try simp only [maxLen, tn] at *)
       all_goals first | with_reducible assumption | rfl | omega | contradiction | skip
       refine ⟨⟨i + 1, by omega, Cr hall ht⟩, by dsimp only; omega, ?_⟩
       simp -implicitDefEqProofs only [go_sem, hh, seval]
       try simp
      ·have b4 := AN ht
       have hRn : R = (h, false) := by rw [hR, Da q (fun z => ht (z.2.2.1 _ (AF (by omega))))]
       rw [hRn]
       simp -implicitDefEqProofs only [hlt, b4, decide_true, tn, go_sem, hh, seval]
       with_reducible repeat' (first | apply ai | intro _ | ((first | apply s1 | apply s3 | apply s4) <;> intro hb <;> simp -implicitDefEqProofs only [hb, go_sem, hh, seval] <;> try simp only [qz] at hb))
       all_goals first | with_reducible assumption | rfl | omega | contradiction | skip
     ·have hA : ∀ a ∈ m.to, Bk h.conf a := BO fun j hj => hall j (by omega)
      have hRy : R = KB h m w := by
       rw [hR]
       by_cases z : m.body.length < 12 ∧ Bj h.spool
       ·rw [IL z, Mv q ⟨qm, qw, hA, z.1, z.2⟩]
       ·rw [IK z, Da q (fun y => z ⟨y.2.2.2.1, y.2.2.2.2⟩)]
      rw [hRy]
      simp -implicitDefEqProofs only [hlt, decide_false, go_sem, hh, seval]
      with_reducible repeat' (first | apply ai | intro _ | ((first | apply s1 | apply s3 | apply s4) <;> intro hb <;> simp -implicitDefEqProofs only [hb, go_sem, hh, seval] <;> try simp only [qz] at hb))
      all_goals first | with_reducible assumption | rfl | omega | contradiction | skip
   ·have b3 := AN qw
    have hRn : R = (h, false) := by rw [hR, Da q (fun z => qw z.2.1)]
    rw [hRn]
    simp -implicitDefEqProofs only [Tryz.f21, b1, b2, b3, go_sem, hh, seval]
    with_reducible repeat' (first | apply ai | intro _ | ((first | apply s1 | apply s3 | apply s4) <;> intro hb <;> simp -implicitDefEqProofs only [hb, go_sem, hh, seval] <;> try simp only [qz] at hb))
    all_goals first | with_reducible assumption | rfl | omega | contradiction | skip
  ·have b2 := AN qm
   have hRn : R = (h, false) := by rw [hR, Da q (fun z => qm z.1)]
   rw [hRn]
   simp -implicitDefEqProofs only [Tryz.f21, b1, b2, go_sem, hh, seval]
   with_reducible repeat' (first | apply ai | intro _ | ((first | apply s1 | apply s3 | apply s4) <;> intro hb <;> simp -implicitDefEqProofs only [hb, go_sem, hh, seval] <;> try simp only [qz] at hb))
   all_goals first | with_reducible assumption | rfl | omega | contradiction | skip
 ·have b1 := AN q
  rw [KA q]
  simp -implicitDefEqProofs only [Tryz.f21, b1, go_sem, hh, seval]
  with_reducible repeat' (first | apply ai | intro _ | ((first | apply s1 | apply s3 | apply s4) <;> intro hb <;> simp -implicitDefEqProofs only [hb, go_sem, hh, seval] <;> try simp only [qz] at hb))
  all_goals first | with_reducible assumption | rfl | omega | contradiction | skip
end
theorem OP {h : Hs} : LZ.sem (.refused h) = fun x : Ad => ¬ Bk h.conf x := rfl
theorem WH {h : Hs} {m : Ml} {w : Int} (q : DR h) (qm : B6 m) (qt : ∀ a ∈ m.to, Bk h.conf a) (ql : m.body.length < 12) : FX h m w = (⟨h.conf, (Mz h.spool (I8 h.conf.name m) w).1, h.boxes, h.lost⟩, (Mz h.spool (I8 h.conf.name m) w).2) := by
 by_cases z : (0 ≤ w ∧ w ≤ 9999) ∧ Bj h.spool
 ·rw [Mv q ⟨qm, z.1, qt, ql, z.2⟩, X9 q.2.2 ⟨aY q.2.1.2.2.1 qm ql, z.1, z.2⟩]; rfl
 ·rw [Da q (fun y => z ⟨y.2.1, y.2.2.2.2⟩), X8 q.2.2 (fun y => z ⟨y.2.1, y.2.2⟩)]
def xt : Ct := Ak (lc D7.ag (lc TF.ag (lc BF l0))) (fun p => E0 p.1 ∧ E3 p.2.1) (fun p => jG (FX p.1 p.2.1 p.2.2.1))
section
attribute [local go_sem] oz xK uU uW yF yG BQ BP Bool.not_true Bool.not_false By DO Jf Jh Jg Ji OP AX AW jG jH bG I8 NM AS.opn AS.cls AS.nilb AS.renb AS.up List.set_set List.set_cons_zero List.set_cons_succ List.set_nil List.mem_singleton forall_eq lm List.map_nil
set_option maxHeartbeats 3200000 in
theorem qR {G : Gt} (hG : Ah G) (hh : G.e 23 = AA 0 oz ∧ G.e 63 = AA 0 xK ∧ G.e 12 = AA 0 uU ∧ G.e 49 = AA 0 uW ∧ G.e 65 = AA 0 yF ∧ G.e 66 = AA 0 yG) : Gd G 20 (AA 0 xt) := by
 refine gr (fn := Tryz.f20) (n := 3) rfl rfl hG ?_ (hs := fun _ p => SL _)
 rintro ⟨h, m, w, ⟨⟩⟩ hpre
 obtain ⟨hok, hml⟩ := hpre
 dsimp only at hok hml ⊢
 have hml2 := hml
 obtain ⟨⟨zu, zd⟩, ⟨hl1, zt⟩, ⟨hl2, zb⟩⟩ := hml2
 have zd' : m.frm.domain.size ≤ 2000000 := by have : m.frm.domain.size ≤ 1048576 := zd; omega
 have zt' : ∀ a ∈ m.to, a.domain.size ≤ 2000000 := fun a ha => by have : a.domain.size ≤ 1048576 := (zt a ha).2; omega
 have zb' : ∀ s ∈ m.body, s.size ≤ 2000000 := fun s hs => by have : s.size ≤ 1048576 := zb s hs; omega
 by_cases q : DR h
 ·have b1 := Ae q
  have hos := hok.2.1
  have Qj : h.conf.name.size ≤ 1000000 := by have := (CM q.2.1.2.2.1).2; omega
  by_cases qm : B6 m
  ·have b2 := Ae qm
   have hpre2 : ∀ x ∈ m.to, LZ.pre (.refused h) x := fun x hx => ⟨hok.1, q.2.1, zt' x hx, (qm.1 x hx).2⟩
   by_cases qt : ∀ a ∈ m.to, Bk h.conf a
   ·have b3 : BM (∃ x ∈ m.to, ¬ Bk h.conf x) = false := AN (fun ⟨x, hx, z⟩ => z (qt x hx))
    by_cases ql : m.body.length < 12
    ·have hb4 := Ru ⟨q.2.1.2.2.1, qm.2.2.2.2, ql⟩
     have hml3 : E3 ⟨m.frm, m.to, BD h.conf.name :: m.body⟩ := by
      refine ⟨hml.1, hml.2.1, ⟨by show ((BD h.conf.name :: m.body).length : Int) ≤ _; rw [List.length_cons]; omega, fun s hs => ?_⟩⟩
      rcases List.mem_cons.1 hs with e | hs
      ·rw [e]
       have h5 := Pg h.conf.name
       show (BD h.conf.name).size ≤ 1048576
       omega
      ·exact zb s hs
     rw [WH q qm qt ql]
     simp -implicitDefEqProofs only [Tryz.f20, b1, b2, b3, hb4, go_sem, hh, seval]
     with_reducible repeat' (first | apply ai | intro _ | ((first | apply s1 | apply s3 | apply s4) <;> intro hb <;> simp -implicitDefEqProofs only [hb, go_sem, hh, seval] <;> try simp only [qz] at hb))
     all_goals first | with_reducible assumption | rfl | omega | contradiction | decide | exact hpre2 _ (by assumption) | exact zt' _ (by assumption) | exact zb' _ (by assumption) | skip
    ·have hb4 := Rs (n := h.conf.name) (xs := m.body) (fun z => ql z.2.2)
     rw [Da q (fun z => ql z.2.2.2.1)]
     simp -implicitDefEqProofs only [Tryz.f20, b1, b2, b3, hb4, go_sem, hh, seval]
     with_reducible repeat' (first | apply ai | intro _ | ((first | apply s1 | apply s3 | apply s4) <;> intro hb <;> simp -implicitDefEqProofs only [hb, go_sem, hh, seval] <;> try simp only [qz] at hb))
     all_goals first | with_reducible assumption | rfl | omega | contradiction | decide | exact hpre2 _ (by assumption) | exact zt' _ (by assumption) | exact zb' _ (by assumption) | skip
   ·have b3 : BM (∃ x ∈ m.to, ¬ Bk h.conf x) = true := Ae (Classical.byContradiction fun z => qt fun a ha => Classical.byContradiction fun y => z ⟨a, ha, y⟩)
    rw [Da q (fun z => qt z.2.2.1)]
    simp -implicitDefEqProofs only [Tryz.f20, b1, b2, b3, go_sem, hh, seval]
    with_reducible repeat' (first | apply ai | intro _ | ((first | apply s1 | apply s3 | apply s4) <;> intro hb <;> simp -implicitDefEqProofs only [hb, go_sem, hh, seval] <;> try simp only [qz] at hb))
    all_goals first | with_reducible assumption | rfl | omega | contradiction | decide | exact hpre2 _ (by assumption) | exact zt' _ (by assumption) | exact zb' _ (by assumption) | skip
  ·have b2 := AN qm
   rw [Da q (fun z => qm z.1)]
   simp -implicitDefEqProofs only [Tryz.f20, b1, b2, go_sem, hh, seval]
   with_reducible repeat' (first | apply ai | intro _ | ((first | apply s1 | apply s3 | apply s4) <;> intro hb <;> simp -implicitDefEqProofs only [hb, go_sem, hh, seval] <;> try simp only [qz] at hb))
   all_goals first | with_reducible assumption | rfl | omega | contradiction | decide | exact zt' _ (by assumption) | exact zb' _ (by assumption) | skip
 ·have b1 := AN q
  rw [KA q]
  simp -implicitDefEqProofs only [Tryz.f20, b1, go_sem, hh, seval]
  with_reducible repeat' (first | apply ai | intro _ | ((first | apply s1 | apply s3 | apply s4) <;> intro hb <;> simp -implicitDefEqProofs only [hb, go_sem, hh, seval] <;> try simp only [qz] at hb))
  all_goals first | with_reducible assumption | rfl | omega | contradiction | decide | skip
end
section
open Go.Lib
theorem ND {s : ByteArray} (h : TV s) : ¬ (64 : UInt8) ∈ bl s := fun q => by
 obtain ⟨j, hj, e⟩ := Hk q
 have := h.1 j hj
 rw [e] at this
 exact absurd this (by unfold Ko; decide)
theorem Q9 {s : ByteArray} (h : C3 s) : ¬ (64 : UInt8) ∈ bl s := fun q => by
 obtain ⟨h1, _⟩ := (Jq s).1 h
 rcases H6 (c := 46) q with e | ⟨w, hw, q⟩
 ·exact absurd e (by decide)
 ·exact ND (h1 _ (List.mem_map_of_mem hw)) q
theorem Ix {c : UInt8} : ∀ {l : List UInt8} (m : Nat), ¬ c ∈ l → Ar c m l = [l]
 | _, 0, _ => by simp [Ar]
 | [], m + 1, _ => by simp [Ar]
 | x :: r, m + 1, h => by
   simp only [List.mem_cons, not_or] at h
   rw [Ar, if_neg (fun e => h.1 e.symm), Ix (m + 1) h.2]
theorem GV {c : UInt8} : ∀ {u d : List UInt8} (m : Nat), ¬ c ∈ u → Ar c (m + 1) (u ++ c :: d) = u :: Ar c m d
 | [], d, m, _ => by simp [Ar]
 | x :: r, d, m, h => by
   simp only [List.mem_cons, not_or] at h
   rw [List.cons_append, Ar, if_neg (fun e => h.1 e.symm), GV m h.2]
theorem NL {u d : List UInt8} (hu : ¬ (64 : UInt8) ∈ u) (hd : ¬ (64 : UInt8) ∈ d) : C2 (mB (u ++ 64 :: d)) 64 2 = [mB u, mB d] := by
 unfold C2
 rw [Yp, GV 1 hu, Ix 1 hd]; rfl
theorem eO {s : ByteArray} (h : (C2 s 64 2).length = 2) : s = mB (bl ((C2 s 64 2).getD 0 default) ++ 64 :: bl ((C2 s 64 2).getD 1 default)) := by
 by_cases h1 : (64 : UInt8) ∈ bl s
 ·obtain ⟨u, r, e, hu⟩ := List.eq_append_cons_of_mem h1
  by_cases h2 : (64 : UInt8) ∈ r
  ·obtain ⟨v, t, e2, hv⟩ := List.eq_append_cons_of_mem h2
   unfold C2 at h
   rw [e, GV 1 hu, e2, GV 0 hv] at h
   simp [Ar] at h
  ·have : C2 s 64 2 = [mB u, mB r] := by rw [← VG s, e]; exact NL hu h2
   rw [this]
   refine FA ?_
   rw [e]; rfl
 ·unfold C2 at h
  rw [Ix 2 h1] at h
  cases h
theorem LD {a : Ad} (h : BS a) : bl (C1 a) = 60 :: ((bl a.user ++ 64 :: bl a.domain) ++ [62]) := by
 rw [Nu (dJ h)]; simp
def GZ (s : ByteArray) : Prop := ∃ a, (BS a ∨ Ab a) ∧ C1 a = s
open Classical in
noncomputable def BC (s : ByteArray) : Ad := if h : GZ s then h.choose else ⟨⟨#[]⟩, ⟨#[]⟩⟩
theorem Rw (s : ByteArray) {l : List UInt8} (h : bl s = 60 :: (l ++ [62])) : s.extract 1 (s.size - 1) = mB l := by
 refine FA ?_
 have e : s.size = l.length + 2 := by rw [← CF, h]; simp
 rw [C7, h, e, Yp]
 try simp
theorem bt {a b : Ad} (ha : BS a ∨ Ab a) (hb : BS b ∨ Ab b) (h : C1 a = C1 b) : a = b := by
 have key : ∀ {x y : Ad}, BS x → Ab y → C1 x = C1 y → False := fun {x y} hx hy e => by
  have := congrArg bl e
  rw [LD hx, Iu hy] at this
  have := congrArg List.length this
  have e2 : (bl (⟨#[60, 62]⟩ : ByteArray)).length = 2 := rfl
  rw [e2] at this
  simp at this
  omega
 rcases ha with ha | ha
 ·rcases hb with hb | hb
  ·have e1 := Rw (C1 a) (LD ha)
   have e2 := Rw (C1 b) (LD hb)
   rw [h, e2] at e1
   have e3 := NL (ND ha.1) (Q9 ha.2)
   rw [← e1, NL (ND hb.1) (Q9 hb.2)] at e3
   simp only [List.cons.injEq, and_true, VG] at e3
   obtain ⟨u, d⟩ := a
   obtain ⟨v, w⟩ := b
   rw [show v = u from e3.1, show w = d from e3.2]
  ·exact (key ha hb h).elim
 ·rcases hb with hb | hb
  ·exact (key hb ha h.symm).elim
  ·obtain ⟨u, d⟩ := a
   obtain ⟨v, w⟩ := b
   rw [show u = _ from ha.1, show d = _ from ha.2, show v = _ from hb.1, show w = _ from hb.2]
theorem Us {s : ByteArray} {a : Ad} (ha : BS a ∨ Ab a) (h : C1 a = s) : GZ s ∧ BC s = a := by
 have hr : GZ s := ⟨a, ha, h⟩
 refine ⟨hr, ?_⟩
 unfold BC
 rw [dif_pos hr]
 exact bt hr.choose_spec.1 ha (hr.choose_spec.2.trans h.symm)
theorem NY {s : ByteArray} (h : ¬ GZ s) : BC s = ⟨⟨#[]⟩, ⟨#[]⟩⟩ := dif_neg h
theorem Jz {s : ByteArray} (h : GZ s) : (BS (BC s) ∨ Ab (BC s)) ∧ C1 (BC s) = s := by
 unfold BC
 rw [dif_pos h]
 exact h.choose_spec
theorem Nx : GZ ⟨#[60, 62]⟩ ∧ BC ⟨#[60, 62]⟩ = ⟨⟨#[]⟩, ⟨#[]⟩⟩ := Us (.inr ⟨rfl, rfl⟩) (Iu ⟨rfl, rfl⟩)
theorem sh {s : ByteArray} (h : GZ s) (h0 : ¬ s = ⟨#[60, 62]⟩) : 2 ≤ s.size ∧ AC s 0 = 60 ∧ AC s (s.size - 1) = 62 ∧ C2 (s.extract 1 (s.size - 1)) 64 2 = [(BC s).user, (BC s).domain] ∧ BS (BC s) := by
 obtain ⟨h1, h2⟩ := Jz h
 have hk := h1.resolve_right fun q => h0 (by rw [← h2, Iu q])
 have hb := LD hk
 rw [h2] at hb
 have hs : s.size = ((bl (BC s).user ++ 64 :: bl (BC s).domain)).length + 2 := by rw [← CF, hb]; simp; omega
 refine ⟨by omega, ?_, ?_, ?_, hk⟩
 ·rw [Bm, hb]; rfl
 ·rw [Bm, hb, hs]
  simp only [List.getD_eq_getElem?_getD]
  rw [show ∀ n : Nat, n + 2 - 1 = n + 1 from fun n => rfl, List.getElem?_cons_succ, List.getElem?_append_right (Nat.le_refl _), Nat.sub_self]
  rfl
 ·rw [Rw s hb, NL (ND hk.1) (Q9 hk.2)]; rfl
theorem nG {s : ByteArray} (h : 2 ≤ s.size) (h1 : AC s 0 = 60) (h2 : AC s (s.size - 1) = 62) : bl s = 60 :: (bl (s.extract 1 (s.size - 1)) ++ [62]) := by
 have e1 : (bl s).getD 0 0 = 60 := (GK (c := 60)).1 h1
 have e2 : (bl s).getD (s.size - 1) 0 = 62 := (GK (c := 62)).1 h2
 have d0 := Eo (s := s) (i := 0) (by omega)
 have d1 := Eo (s := s) (i := s.size - 1) (by omega)
 rw [e1] at d0
 rw [e2] at d1
 have e3 : (bl s).drop (s.size - 1 + 1) = [] := List.drop_of_length_le (by rw [CF]; omega)
 rw [e3] at d1
 rw [C7]
 have : (bl s).drop 1 = ((bl s).drop 1).take (s.size - 1 - 1) ++ ((bl s).drop 1).drop (s.size - 1 - 1) := (List.take_append_drop _ _).symm
 rw [List.drop_drop, show 1 + (s.size - 1 - 1) = s.size - 1 by omega, d1] at this
 rw [← this]
 exact d0
theorem bu {s : ByteArray} (h : 2 ≤ s.size) (h1 : AC s 0 = 60) (h2 : AC s (s.size - 1) = 62) (h3 : (C2 (s.extract 1 (s.size - 1)) 64 2).length = 2)
    (h4 : BS ⟨(C2 (s.extract 1 (s.size - 1)) 64 2).getD 0 default, (C2 (s.extract 1 (s.size - 1)) 64 2).getD 1 default⟩) :
    GZ s ∧ BC s = ⟨(C2 (s.extract 1 (s.size - 1)) 64 2).getD 0 default, (C2 (s.extract 1 (s.size - 1)) 64 2).getD 1 default⟩ := by
 refine Us (.inl h4) (FA ?_)
 rw [LD h4, nG h h1 h2]
 have := congrArg bl (eO h3)
 rw [this]; rfl
theorem bw {s : ByteArray} (h0 : ¬ s = ⟨#[60, 62]⟩) (h : (s.size : Int) < 2 ∨ ¬ AC s 0 = 60 ∨ ¬ AC s (s.size - 1) = 62 ∨ ¬ ((C2 (s.extract 1 (s.size - 1)) 64 2).length : Int) = 2 ∨
    ¬ BS ⟨(C2 (s.extract 1 (s.size - 1)) 64 2).getD 0 default, (C2 (s.extract 1 (s.size - 1)) 64 2).getD 1 default⟩) : ¬ GZ s := fun q => by
 obtain ⟨h1, h2, h3, h4, h5⟩ := sh q h0
 rw [h4] at h
 rcases h with h | h | h | h | h
 ·omega
 ·exact h h2
 ·exact h h3
 ·exact h rfl
 ·exact h h5
theorem z9 : (0 : Int).toNat = 0 := rfl
theorem QAA : (1 : Int).toNat = 1 := rfl
theorem QAB : (2 : Int).toNat = 2 := rfl
theorem u64 : UInt8.ofNat (64 : Int).toNat = 64 := rfl
theorem QAC (n : Nat) : ((n : Int) - 1).toNat = n - 1 := by omega
end
noncomputable def y0 (s : ByteArray) : AV := .tup [.agg [.t (.v (.string (BC s).user)), .t (.v (.string (BC s).domain))], .t (.v (.bool (BM (GZ s))))]
theorem SW (s : ByteArray) : y0 s = .tup [.agg [.t (.v (.string (BC s).user)), .t (.v (.string (BC s).domain))], .t (.v (.bool (BM (GZ s))))] := rfl
theorem gU {s : ByteArray} {a : Ad} (h : GZ s ∧ BC s = a) : T.v (.string a.user) = T.v (.string (BC s).user) := by rw [h.2]
theorem gD {s : ByteArray} {a : Ad} (h : GZ s ∧ BC s = a) : T.v (.string a.domain) = T.v (.string (BC s).domain) := by rw [h.2]
theorem gT {s : ByteArray} {a : Ad} (h : GZ s ∧ BC s = a) : T.v (.bool true) = T.v (.bool (BM (GZ s))) := by rw [Ae h.1]
theorem zr {s : ByteArray} (h : ¬ GZ s) : T.v (.string ⟨#[]⟩) = T.v (.string (BC s).user) := by rw [NY h]
theorem zq {s : ByteArray} (h : ¬ GZ s) : T.v (.string ⟨#[]⟩) = T.v (.string (BC s).domain) := by rw [NY h]
theorem gF {s : ByteArray} (h : ¬ GZ s) : T.v (.bool false) = T.v (.bool (BM (GZ s))) := by rw [AN h]
theorem XS (s : ByteArray) : BV (y0 s) := .tup _ fun c hc => by
 simp only [List.mem_cons, List.not_mem_nil, or_false] at hc
 rcases hc with rfl | rfl
 ·refine .agg _ fun c hc => ?_
  simp only [List.mem_cons, List.not_mem_nil, or_false] at hc
  rcases hc with rfl | rfl <;> exact .v _
 ·exact .v _
def RL : Ct := Ak (lc DQ.ag l0) (fun p => p.1.user.size ≤ 2000000 ∧ p.1.domain.size ≤ 2000000) (fun p => .t (.v (.string (C1 p.1))))
section
attribute [local go_sem] IZ
theorem iE {G : Gt} (hG : Ah G) (hh : G.e 119 = AA 0 IZ) : Gd G 209 (AA 0 RL) := by
 refine gr (fn := Tryz.f209) (n := 1) rfl rfl hG ?_
 rintro ⟨a, ⟨⟩⟩ hpre
 simp -implicitDefEqProofs only [Tryz.f209, go_sem, hh, seval] at hpre ⊢
 obtain ⟨h1, h2⟩ := hpre
 have e1 : (#[60] : Array UInt8).size = 1 := rfl
 have e2 : (#[64] : Array UInt8).size = 1 := rfl
 have e3 : (#[62] : Array UInt8).size = 1 := rfl
 with_reducible repeat' (first | apply ai | intro _ | ((first | apply s1 | apply s3 | apply s4) <;> intro hb <;> simp -implicitDefEqProofs only [hb, go_sem, hh, seval] <;> try simp only [qz] at hb))
 all_goals (try simp only [maxLen] at *)
 all_goals first
  | rfl
  | omega
  | (rw [Iu (by assumption)]; done)
  | (rw [SU hb]; done)
  | skip
end
def Y9 : Ct := Ak (lc Aq l0) (fun p => p.1.size ≤ 2000000) (fun p => y0 p.1)
section
attribute [local go_sem] ue IY AX AW Aa lm SW
set_option maxHeartbeats 2000000 in
theorem iV {G : Gt} (hG : Ah G) (hh : G.e 88 = AA 0 ue ∧ G.e 106 = AA 0 IY) : Gd G 226 (AA 0 Y9) := by
 refine gr (fn := Tryz.f226) (n := 1) rfl rfl hG ?_ (hs := fun _ _ => XS _)
 rintro ⟨s, ⟨⟩⟩ hpre
 simp -implicitDefEqProofs only [Tryz.f226, go_sem, hh, seval] at hpre ⊢
 with_reducible repeat' (first | apply ai | intro _ | ((first | apply s1 | apply s3 | apply s4) <;> intro hb <;> simp -implicitDefEqProofs only [hb, go_sem, hh, seval] <;> try simp only [qz] at hb))
 all_goals (try simp only [maxLen, u64, z9, QAA, QAB, QAC, tn] at *)
 all_goals first
  | with_reducible rfl
  | omega
  | decide
  | (show AU _ = true; rfl)
  | with_reducible assumption
  | with_reducible exact zr (bw (by with_reducible assumption) (by first | exact .inl (by with_reducible assumption) | exact .inr (.inl (by with_reducible assumption)) | exact .inr (.inr (.inl (by with_reducible assumption))) | exact .inr (.inr (.inr (.inl (by with_reducible assumption)))) | exact .inr (.inr (.inr (.inr (by with_reducible assumption))))))
  | with_reducible exact zq (bw (by with_reducible assumption) (by first | exact .inl (by with_reducible assumption) | exact .inr (.inl (by with_reducible assumption)) | exact .inr (.inr (.inl (by with_reducible assumption))) | exact .inr (.inr (.inr (.inl (by with_reducible assumption)))) | exact .inr (.inr (.inr (.inr (by with_reducible assumption))))))
  | with_reducible exact gF (bw (by with_reducible assumption) (by first | exact .inl (by with_reducible assumption) | exact .inr (.inl (by with_reducible assumption)) | exact .inr (.inr (.inl (by with_reducible assumption))) | exact .inr (.inr (.inr (.inl (by with_reducible assumption)))) | exact .inr (.inr (.inr (.inr (by with_reducible assumption))))))
  | with_reducible exact gU (bu (by omega) (by with_reducible assumption) (by with_reducible assumption) (by omega) (by with_reducible assumption))
  | with_reducible exact gD (bu (by omega) (by with_reducible assumption) (by with_reducible assumption) (by omega) (by with_reducible assumption))
  | with_reducible exact gT (bu (by omega) (by with_reducible assumption) (by with_reducible assumption) (by omega) (by with_reducible assumption))
  | (subst hb; with_reducible exact gU Nx)
  | (subst hb; with_reducible exact gD Nx)
  | (subst hb; with_reducible exact gT Nx)
  | skip
end
def r8 : ByteArray := ⟨#[72, 111, 112, 58, 32]⟩
def X2 (s : ByteArray) : Prop := zG s r8 ∧ C3 (s.extract 5 s.size)
theorem mi {s : ByteArray} (h : C3 s) : ¬ s.size = 0 := fun q => by
 rw [l8 q] at h
 have := (h.1 ⟨#[]⟩ (by simp [C2, Ar, bl, mB])).2.1
 exact absurd this (by decide)
theorem tm {s : ByteArray} : X2 s ↔ 5 < s.size ∧ s.extract 0 5 = r8 ∧ C3 (s.extract 5 s.size) := by
 have e : r8.size = 5 := rfl
 unfold X2 zG
 rw [e]
 constructor
 ·rintro ⟨⟨h1, h2⟩, h3⟩
  refine ⟨?_, h2, h3⟩
  have := mi h3
  rw [ByteArray.size_extract] at this
  omega
 ·rintro ⟨h1, h2, h3⟩
  exact ⟨⟨by omega, h2⟩, h3⟩
noncomputable def EB : List ByteArray → Nat
 | [] => 0
 | x :: r => bif BM (X2 x) then EB r + 1 else 0
theorem aX {xs : List ByteArray} {i : Nat} (h : i < xs.length) (ha : X2 (xs.getD i default)) : EB (xs.drop i) = EB (xs.drop (i + 1)) + 1 := by
 rw [AZ h, EB, Ae ha]; rfl
theorem iX {xs : List ByteArray} {i : Nat} (h : i < xs.length) (ha : ¬ X2 (xs.getD i default)) : EB (xs.drop i) = 0 := by
 rw [AZ h, EB, AN ha]; rfl
theorem aW {xs : List ByteArray} {i : Nat} (h : xs.length ≤ i) : EB (xs.drop i) = 0 := by
 rw [List.drop_eq_nil_of_le h, EB]
abbrev zv : ByteArray := ⟨#[110, 111, 116, 32, 100, 101, 108, 105, 118, 101, 114, 101, 100, 58]⟩
def xc (xs : List ByteArray) : Prop := EB xs + 1 < xs.length ∧ xs.getD (EB xs) default = zv
def xa (xs : List ByteArray) : Prop := xc xs ∧ GZ (xs.getD (EB xs + 1) default) ∧ ¬ Ab (BC (xs.getD (EB xs + 1) default))
open Classical in
noncomputable def xC (xs : List ByteArray) : ByteArray := if xa xs then xs.getD (EB xs + 1) default else ⟨#[]⟩
theorem tU {xs : List ByteArray} (h : xa xs) : xC xs = xs.getD (EB xs + 1) default := if_pos h
theorem hW {xs : List ByteArray} (h : xa xs) : T.v (.string (xs.getD (EB xs + 1) default)) = T.v (.string (xC xs)) := by rw [tU h]
def oy : Ct := Ak (lc Al.asl l0) (fun p => True) (fun p => .t (.v (.int .i64 (EB p.1))))
section
attribute [local go_sem] cy lm AX AW
theorem iU {G : Gt} (hG : Ah G) (hh : G.e 40 = AA 0 cy) : Gd G 225 (AA 0 oy) := by
 refine gr (fn := Tryz.f225) (n := 1) rfl rfl hG ?_
 rintro ⟨xs, ⟨⟩⟩ hpre
 simp -implicitDefEqProofs only [Tryz.f225, go_sem, hh, seval] at hpre ⊢
 refine AE [] (ι := {i : Nat // i ≤ xs.length ∧ EB xs = i + EB (xs.drop i)}) (fun p => ⟨[(0, .t (.sl 1 (xs.map AG))), (3, .t (.v (.int .i64 p.1)))], []⟩) (fun p => xs.length - p.1) ⟨0, by simp, by simp⟩ rfl ?_ ?_
 ·simp -implicitDefEqProofs only [go_sem, hh, seval]
  try simp
 ·rintro ⟨i, hi, hix⟩
  by_cases hlt : (i : Int) < xs.length
  ·simp -implicitDefEqProofs only [hlt, decide_true, tn, go_sem, hh, seval]
   with_reducible repeat' (first | apply ai | intro _ | ((first | apply s1 | apply s3 | apply s4) <;> intro hb <;> simp -implicitDefEqProofs only [hb, go_sem, hh, seval] <;> try simp only [qz] at hb))
   all_goals (try simp only [maxLen, tn] at *)
   all_goals first
    | rfl
    | omega
    | (rw [hix, iX (by omega) (fun h => by have h := tm.1 h; first | exact absurd h.2.2 (by assumption) | exact absurd h.2.1 (by assumption) | omega)]; simp; done)
    | (refine ⟨⟨i + 1, by omega, by rw [hix, aX (by omega) (tm.2 ⟨by omega, by assumption, by assumption⟩)]; omega⟩, by dsimp only; omega, ?_⟩
       simp -implicitDefEqProofs only [go_sem, hh, seval]
       try simp
       done)
    | skip
  ·simp -implicitDefEqProofs only [hlt, decide_false, go_sem, hh, seval]
   with_reducible repeat' (first | apply ai | intro _ | ((first | apply s1 | apply s3 | apply s4) <;> intro hb <;> simp -implicitDefEqProofs only [hb, go_sem, hh, seval] <;> try simp only [qz] at hb))
   all_goals first | rfl | omega | (rw [hix, aW (by omega)]; simp; done) | skip
end
theorem Yr {x : Im} {a : Ad} (h : B9 x.body = ⟨#[]⟩) : Bl x a = ⟨⟨⟨#[]⟩, ⟨#[]⟩⟩, [x.frm], [xP, C1 a]⟩ := by unfold Bl; rw [if_pos h]
theorem Ys {x : Im} {a : Ad} (h : ¬ B9 x.body = ⟨#[]⟩) : Bl x a = ⟨⟨⟨#[]⟩, ⟨#[]⟩⟩, [x.frm], [xP, C1 a, B9 x.body]⟩ := by unfold Bl; rw [if_neg h]
theorem RA {x : Im} {a : Ad} : (Bl x a).body.length ≤ 3 := by
 unfold Bl
 split <;> simp
theorem O0 {x : Im} {a : Ad} (hox : FY x) (ha : BS a) : E3 (Bl x a) := by
 refine ⟨⟨by show 0 ≤ 1048576; decide, by show 0 ≤ 1048576; decide⟩, ⟨by show ((1 : Nat) : Int) ≤ 1048576; decide, fun b hb => by rw [List.mem_singleton.1 hb]; exact hox.1⟩, ⟨by have := RA (x := x) (a := a); omega, fun s hs => ?_⟩⟩
 unfold Bl at hs
 rcases List.mem_cons.1 hs with e | hs
 ·rw [e]; show 14 ≤ 1048576; decide
 ·rcases List.mem_cons.1 hs with e | hs
  ·rw [e]
   have := (QO (.inl ha)).2
   show (C1 a).size ≤ 1048576
   omega
  ·split at hs
   ·cases hs
   ·rename_i q
    rw [List.mem_singleton.1 hs]
    exact hox.2.2.2 _ ((Ft x.body).resolve_left q)
theorem VF {α : Type} {xs : List α} {i j : Nat} {y : α} (h : y ∈ xs.take i ++ xs.drop j) : y ∈ xs := by
 rcases List.mem_append.1 h with h | h
 ·exact List.mem_of_mem_take h
 ·exact List.mem_of_mem_drop h
theorem Mx {α : Type} {p : α → Prop} {xs ys : List α} (h : GY p xs) (hl : ys.length ≤ xs.length) (hs : ∀ y ∈ ys, p y) : GY p ys := ⟨by have := h.1; omega, hs⟩
theorem Ug {s : Sp} {i k : Nat} (h : FR s) (hi : i < s.items.length) : FR (DM s i k) := by
 have h' : GY FY s.items := h
 show GY FY (Xm s.items i k)
 have hx := h'.at hi
 have hx2 : FY (Id (s.items.getD i default) k) := ⟨hx.1, Mx hx.2.1 (by simp [Id]; omega) (fun y hy => hx.2.1.2 y (VF hy)), hx.2.2⟩
 unfold Xm
 split
 ·exact Mx h' (by simp; omega) fun y hy => h'.2 y (VF hy)
 ·refine Mx h' (by simp; omega) fun y hy => ?_
  rcases List.mem_append.1 hy with hy | hy
  ·exact h'.2 y (List.mem_of_mem_take hy)
  ·rcases List.mem_cons.1 hy with e | hy
   ·rw [e]; exact hx2
   ·exact h'.2 y (List.mem_of_mem_drop hy)
def oh : Ct := Ak (lc Iz.ag (lc DQ.ag l0)) (fun p => p.2.1.user.size ≤ 2000000 ∧ p.2.1.domain.size ≤ 2000000) (fun p => QJ (Bl p.1 p.2.1))
section
attribute [local go_sem] RL NE lm List.length_append List.length_cons List.length_nil List.map_append List.map_nil Nat.zero_add List.nil_append AS.opn AS.cls AS.nilb AS.renb AS.up Bool.not_false Bool.not_true List.set_set List.set_cons_zero List.set_cons_succ List.set_nil List.mem_singleton forall_eq
set_option maxHeartbeats 800000 in
theorem iM {G : Gt} (hG : Ah G) (hh : G.e 209 = AA 0 RL ∧ G.e 107 = AA 0 NE) : Gd G 217 (AA 0 oh) := by
 refine gr (fn := Tryz.f217) (n := 2) rfl rfl hG ?_ (hs := fun _ p => K7 _)
 rintro ⟨x, a, ⟨⟩⟩ hpre
 obtain ⟨h1, h2'⟩ := hpre
 dsimp only at h1 h2' ⊢
 by_cases hm : B9 x.body = ⟨#[]⟩
 ·rw [Yr hm]
  have dm := decide_eq_true hm
  simp -implicitDefEqProofs only [Tryz.f217, dm, go_sem, hh, seval]
  with_reducible repeat' (first | apply ai | intro _ | ((first | apply s1 | apply s3 | apply s4) <;> intro hb <;> simp -implicitDefEqProofs only [hb, go_sem, hh, seval] <;> try simp only [qz] at hb))
  all_goals (try simp only [maxLen] at *)
  all_goals first | with_reducible assumption | rfl | omega | contradiction | decide | (simp; done) | skip
 ·rw [Ys hm]
  have dm := decide_eq_false hm
  simp -implicitDefEqProofs only [Tryz.f217, dm, go_sem, hh, seval]
  with_reducible repeat' (first | apply ai | intro _ | ((first | apply s1 | apply s3 | apply s4) <;> intro hb <;> simp -implicitDefEqProofs only [hb, go_sem, hh, seval] <;> try simp only [qz] at hb))
  all_goals (try simp only [maxLen] at *)
  all_goals first | with_reducible assumption | rfl | omega | contradiction | decide | (simp; done) | skip
end
def oU : Ct := Ak (lc D7.ag (lc BF (lc BF (lc BF l0)))) (fun p => E0 p.1 ∧ Bg p.1.spool ∧ (0 ≤ p.2.1 ∧ p.2.1 < p.1.spool.items.length) ∧ (0 ≤ p.2.2.1 ∧ p.2.2.1 < (p.1.spool.items.getD p.2.1.toNat default).to.length)) (fun p => .agg ((Ai (HC p.1 (p.1.spool.items.getD p.2.1.toNat default) ((p.1.spool.items.getD p.2.1.toNat default).to.getD p.2.2.1.toNat default).addr p.2.1.toNat p.2.2.1.toNat p.2.2.2.1)).map .t))
section
attribute [local go_sem] RI IZ KX NE oh RG Ja JT List.take_length List.drop_zero List.length_take List.length_drop lm List.length_append List.length_cons List.length_nil List.map_append List.map_nil List.map_cons List.nil_append Nat.zero_add List.mem_singleton forall_eq Bool.not_true Bool.not_false AX AW AS.opn AS.cls AS.nilb AS.renb AS.up List.set_set List.set_cons_zero List.set_cons_succ List.set_nil
set_option maxHeartbeats 3200000 in
theorem hY {G : Gt} (hG : Ah G) (hh : G.e 166 = AA 1 RI ∧ G.e 119 = AA 0 IZ ∧ G.e 121 = AA 0 KX ∧ G.e 107 = AA 0 NE ∧ G.e 217 = AA 0 oh ∧ G.e 124 = AA 1 RG) : Gd G 202 (AA 1 oU) := by
 refine Lo (dp := fun n => Nat.ble 100000 n) (fn := Tryz.f202) (n := 4) rfl rfl hG ?_
 rintro ⟨h, i, k, w, ⟨⟩⟩ hpre
 obtain ⟨hok, hsp, ⟨hi0, hi1⟩, ⟨hk0, hk1⟩⟩ := hpre
 dsimp only at hok hsp hi0 hi1 hk0 hk1 ⊢
 obtain ⟨ni, rfl⟩ := Int.eq_ofNat_of_zero_le hi0
 obtain ⟨nk, rfl⟩ := Int.eq_ofNat_of_zero_le hk0
 simp only [tn] at *
 have hi2 : ni < h.spool.items.length := by omega
 have hk2 : nk < (h.spool.items.getD ni default).to.length := by omega
 have hsd := En hsp hi2 hk2
 have hos := hok.2.1
 have hod := Ug (k := nk) hos hi2
 have hll := hok.2.2.2.1
 have hx := hsp.1 _ (AF hi2)
 have hox := hos.2 _ (AF hi2)
 have hoa := hox.2.1.2 _ (AF hk2)
 have hau : ((h.spool.items.getD ni default).to.getD nk default).addr.user.size ≤ 2000000 := by have : ((h.spool.items.getD ni default).to.getD nk default).addr.user.size ≤ 1048576 := hoa.1; omega
 have had : ((h.spool.items.getD ni default).to.getD nk default).addr.domain.size ≤ 2000000 := by have : ((h.spool.items.getD ni default).to.getD nk default).addr.domain.size ≤ 1048576 := hoa.2; omega
 have hob : E3 (Bl (h.spool.items.getD ni default) ((h.spool.items.getD ni default).to.getD nk default).addr) := O0 hox (hx.1.1 _ (AF hk2)).1
 by_cases q : Ab (h.spool.items.getD ni default).frm ∨ ¬ Bj (DM h.spool ni nk)
 ·rw [aM q]
  by_cases q1 : Ab (h.spool.items.getD ni default).frm
  ·have b1 := Ae q1
   simp -implicitDefEqProofs only [Tryz.f202, b1, tn, go_sem, hh, seval]
   with_reducible repeat' (first | apply ai | intro _ | ((first | apply s1 | apply s3 | apply s4) <;> intro hb <;> simp -implicitDefEqProofs only [hb, go_sem, hh, seval] <;> try simp only [qz] at hb))
   all_goals (try simp only [maxLen] at *)
   all_goals first | with_reducible assumption | rfl | omega | contradiction | decide | (simp; done) | skip
  ·have b1 := AN q1
   have b2 := AN (q.resolve_left q1)
   simp -implicitDefEqProofs only [Tryz.f202, b1, b2, tn, go_sem, hh, seval]
   with_reducible repeat' (first | apply ai | intro _ | ((first | apply s1 | apply s3 | apply s4) <;> intro hb <;> simp -implicitDefEqProofs only [hb, go_sem, hh, seval] <;> try simp only [qz] at hb))
   all_goals (try simp only [maxLen] at *)
   all_goals first | with_reducible assumption | rfl | omega | contradiction | decide | (simp; done) | skip
 ·rw [aL q]
  have q1 : ¬ Ab (h.spool.items.getD ni default).frm := fun z => q (.inl z)
  have q2 : Bj (DM h.spool ni nk) := Classical.byContradiction fun z => q (.inr z)
  have b1 := AN q1
  have b2 := Ae q2
  simp -implicitDefEqProofs only [Tryz.f202, b1, b2, tn, go_sem, hh, seval]
  with_reducible repeat' (first | apply ai | intro _ | ((first | apply s1 | apply s3 | apply s4) <;> intro hb <;> simp -implicitDefEqProofs only [hb, go_sem, hh, seval] <;> try simp only [qz] at hb))
  all_goals (try simp only [maxLen] at *)
  all_goals first | with_reducible assumption | rfl | omega | contradiction | decide | skip
end
def RJ : Ct := Ak (lc D7.ag (lc BF (lc DQ.ag (lc BF (lc BF l0))))) (fun p => FR p.1.spool ∧ Bg p.1.spool ∧ ¬ A4 p.1.spool p.2.1 < 0 ∧ ¬ B8 (Az p.1.spool p.2.1) p.2.2.1 < 0 ∧ (p.2.2.2.1 = 2 ∨ (E0 p.1 ∧ 0 ≤ p.2.2.2.2.1 ∧ p.2.2.2.2.1 ≤ 9999))) (fun p => .agg ((Ai (Ch p.1 (A4 p.1.spool p.2.1).toNat (B8 (Az p.1.spool p.2.1) p.2.2.1).toNat p.2.2.1 p.2.2.2.1 p.2.2.2.2.1)).map .t))
section
attribute [local go_sem] kF oT RI Y5 oU Ja JT List.take_length List.drop_zero List.length_take List.length_drop lm List.length_append List.length_cons List.length_nil List.map_append List.map_nil List.map_cons List.nil_append Nat.zero_add List.mem_singleton forall_eq Bool.not_true Bool.not_false jK AS.opn AS.cls AS.nilb AS.renb AS.up List.set_set List.set_cons_zero List.set_cons_succ List.set_nil
set_option maxHeartbeats 3200000 in
theorem gi {G : Gt} (hG : Ah G) (hh : G.e 38 = AA 0 kF ∧ G.e 201 = AA 0 oT ∧ G.e 166 = AA 1 RI ∧ G.e 167 = AA 1 Y5 ∧ G.e 202 = AA 1 oU) : Gd G 187 (AA 1 RJ) := by
 refine Lo (dp := fun n => Nat.ble 100000 n) (fn := Tryz.f187) (n := 5) rfl rfl hG ?_
 rintro ⟨h, n, a, out, w, ⟨⟩⟩ hpre
 obtain ⟨hos, hsp, hi, hk, hw'⟩ := hpre
 dsimp only at hos hsp hi hk hw' ⊢
 have hi' : ¬ (BI (fun x : Im => x.id = n) 0 h.spool.items) < 0 := hi
 obtain ⟨i0, i1⟩ := CY hi
 have i0' : 0 ≤ (BI (fun x : Im => x.id = n) 0 h.spool.items) := i0
 have i1' : (BI (fun x : Im => x.id = n) 0 h.spool.items) < h.spool.items.length := i1
 have hk' : ¬ (BI (fun r : Rc => r.addr = a) 0 (h.spool.items.getD (BI (fun x : Im => x.id = n) 0 h.spool.items).toNat default).to) < 0 := hk
 obtain ⟨k0, k1⟩ := Hf hk
 have k0' : 0 ≤ (BI (fun r : Rc => r.addr = a) 0 (h.spool.items.getD (BI (fun x : Im => x.id = n) 0 h.spool.items).toNat default).to) := k0
 have k1' : (BI (fun r : Rc => r.addr = a) 0 (h.spool.items.getD (BI (fun x : Im => x.id = n) 0 h.spool.items).toNat default).to) < (h.spool.items.getD (BI (fun x : Im => x.id = n) 0 h.spool.items).toNat default).to.length := k1
 have hadr : ((h.spool.items.getD (BI (fun x : Im => x.id = n) 0 h.spool.items).toNat default).to.getD (BI (fun r : Rc => r.addr = a) 0 (h.spool.items.getD (BI (fun x : Im => x.id = n) 0 h.spool.items).toNat default).to).toNat default).addr = a := GH hk
 obtain ⟨R, hR⟩ : ∃ x, x = Ch h (A4 h.spool n).toNat (B8 (Az h.spool n) a).toNat a out w := ⟨_, rfl⟩
 rw [← hR]
 by_cases o2 : out = 2
 ·have hR2 : R = ⟨h.conf, DM h.spool (BI (fun x : Im => x.id = n) 0 h.spool.items).toNat (BI (fun r : Rc => r.addr = a) 0 (h.spool.items.getD (BI (fun x : Im => x.id = n) 0 h.spool.items).toNat default).to).toNat, h.boxes, h.lost⟩ := by rw [hR]; unfold Ch; rw [if_pos o2]; rfl
  rw [hR2]
  have d2 := decide_eq_true o2
  simp -implicitDefEqProofs only [Tryz.f187, d2, go_sem, hh, seval]
  with_reducible repeat' (first | apply ai | intro _ | ((first | apply s1 | apply s3 | apply s4) <;> intro hb <;> simp -implicitDefEqProofs only [hb, go_sem, hh, seval] <;> try simp only [qz] at hb))
  all_goals first | with_reducible assumption | rfl | omega | contradiction | decide | skip
 ·have d2 := decide_eq_false o2
  obtain ⟨hok, hw⟩ := hw'.resolve_left o2
  by_cases o3 : out = 3
  ·have d3 := decide_eq_true o3
   by_cases hl : Ng ((h.spool.items.getD (BI (fun x : Im => x.id = n) 0 h.spool.items).toNat default).to.getD (BI (fun r : Rc => r.addr = a) 0 (h.spool.items.getD (BI (fun x : Im => x.id = n) 0 h.spool.items).toNat default).to).toNat default) w
   ·have hR2 : R = HC h (h.spool.items.getD (BI (fun x : Im => x.id = n) 0 h.spool.items).toNat default) ((h.spool.items.getD (BI (fun x : Im => x.id = n) 0 h.spool.items).toNat default).to.getD (BI (fun r : Rc => r.addr = a) 0 (h.spool.items.getD (BI (fun x : Im => x.id = n) 0 h.spool.items).toNat default).to).toNat default).addr (BI (fun x : Im => x.id = n) 0 h.spool.items).toNat (BI (fun r : Rc => r.addr = a) 0 (h.spool.items.getD (BI (fun x : Im => x.id = n) 0 h.spool.items).toNat default).to).toNat w := by
      rw [hR, hadr]; unfold Ch
      rw [if_neg o2, if_neg (fun z => z.2 hl)]; rfl
    have hS : KD h.spool (BI (fun x : Im => x.id = n) 0 h.spool.items).toNat (BI (fun r : Rc => r.addr = a) 0 (h.spool.items.getD (BI (fun x : Im => x.id = n) 0 h.spool.items).toNat default).to).toNat w = (h.spool, false) := by unfold KD; rw [if_pos hl]
    rw [hR2]
    simp -implicitDefEqProofs only [Tryz.f187, d2, d3, hS, go_sem, hh, seval]
    with_reducible repeat' (first | apply ai | intro _ | ((first | apply s1 | apply s3 | apply s4) <;> intro hb <;> simp -implicitDefEqProofs only [hb, go_sem, hh, seval] <;> try simp only [qz] at hb))
    all_goals first | with_reducible assumption | rfl | omega | contradiction | decide | skip
   ·have hR2 : R = ⟨h.conf, Pw h.spool (BI (fun x : Im => x.id = n) 0 h.spool.items).toNat (BI (fun r : Rc => r.addr = a) 0 (h.spool.items.getD (BI (fun x : Im => x.id = n) 0 h.spool.items).toNat default).to).toNat w, h.boxes, h.lost⟩ := by
      rw [hR]; unfold Ch
      rw [if_neg o2, if_pos ⟨o3, hl⟩]; rfl
    have hS : KD h.spool (BI (fun x : Im => x.id = n) 0 h.spool.items).toNat (BI (fun r : Rc => r.addr = a) 0 (h.spool.items.getD (BI (fun x : Im => x.id = n) 0 h.spool.items).toNat default).to).toNat w = (Pw h.spool (BI (fun x : Im => x.id = n) 0 h.spool.items).toNat (BI (fun r : Rc => r.addr = a) 0 (h.spool.items.getD (BI (fun x : Im => x.id = n) 0 h.spool.items).toNat default).to).toNat w, true) := by unfold KD; rw [if_neg hl]
    rw [hR2]
    simp -implicitDefEqProofs only [Tryz.f187, d2, d3, hS, go_sem, hh, seval]
    with_reducible repeat' (first | apply ai | intro _ | ((first | apply s1 | apply s3 | apply s4) <;> intro hb <;> simp -implicitDefEqProofs only [hb, go_sem, hh, seval] <;> try simp only [qz] at hb))
    all_goals first | with_reducible assumption | rfl | omega | contradiction | decide | skip
  ·have d3 := decide_eq_false o3
   have hR2 : R = HC h (h.spool.items.getD (BI (fun x : Im => x.id = n) 0 h.spool.items).toNat default) ((h.spool.items.getD (BI (fun x : Im => x.id = n) 0 h.spool.items).toNat default).to.getD (BI (fun r : Rc => r.addr = a) 0 (h.spool.items.getD (BI (fun x : Im => x.id = n) 0 h.spool.items).toNat default).to).toNat default).addr (BI (fun x : Im => x.id = n) 0 h.spool.items).toNat (BI (fun r : Rc => r.addr = a) 0 (h.spool.items.getD (BI (fun x : Im => x.id = n) 0 h.spool.items).toNat default).to).toNat w := by
    rw [hR, hadr]; unfold Ch
    rw [if_neg o2, if_neg (fun z => o3 z.1)]; rfl
   rw [hR2]
   simp -implicitDefEqProofs only [Tryz.f187, d2, d3, go_sem, hh, seval]
   with_reducible repeat' (first | apply ai | intro _ | ((first | apply s1 | apply s3 | apply s4) <;> intro hb <;> simp -implicitDefEqProofs only [hb, go_sem, hh, seval] <;> try simp only [qz] at hb))
   all_goals first | with_reducible assumption | rfl | omega | contradiction | decide | skip
end
def kS (bs : List Bx) (a : Ad) : Nat := (bs.takeWhile fun b => decide (Jt b.addr a < 0)).length
def tq (bs : List Bx) (a : Ad) : Prop := ∀ j, kS bs a ≤ j → j < bs.length → ¬ Jt (bs.getD j default).addr a < 0
theorem ah (a : Ad) : ∀ (bs : List Bx), kS bs a ≤ bs.length
 | [] => by simp [kS]
 | b :: t => by
   have := ah a t
   unfold kS at this ⊢
   rw [List.takeWhile_cons]
   split
   ·simpa using this
   ·try simp
theorem aj (a : Ad) : ∀ (bs : List Bx) {j : Nat}, j < kS bs a → Jt (bs.getD j default).addr a < 0
 | [], j, h => by simp [kS] at h
 | b :: t, j, h => by
   unfold kS at h
   rw [List.takeWhile_cons] at h
   split at h
   ·rename_i hb
    cases j with
    | zero => simpa using hb
    | succ j =>
      have := aj a t (j := j) (by unfold kS; simpa using h)
      simpa using this
   ·simp at h
theorem U0 (a : Ad) : ∀ (bs : List Bx), kS bs a < bs.length → ¬ Jt (bs.getD (kS bs a) default).addr a < 0
 | [], h => by simp at h
 | b :: t, h => by
   by_cases hb : Jt b.addr a < 0
   ·have e : kS (b :: t) a = kS t a + 1 := by unfold kS; rw [List.takeWhile_cons, if_pos (decide_eq_true hb), List.length_cons]
    rw [e] at h ⊢
    have := U0 a t (by simpa using h)
    simpa using this
   ·have e : kS (b :: t) a = 0 := by unfold kS; rw [List.takeWhile_cons, if_neg (by simpa using hb)]; rfl
    rw [e]
    simpa using hb
def Gb (bs : List Bx) (a : Ad) : Bool := decide (kS bs a < bs.length) && decide (Jt (bs.getD (kS bs a) default).addr a = 0)
theorem Yv (a b : Ad) : Jt a b = 0 ↔ a = b := by
 unfold Jt
 obtain ⟨u, d⟩ := a
 obtain ⟨v, e⟩ := b
 by_cases h : Em d e = 0
 ·rw [if_pos h, G9]
  have := (G9 _ _).1 h
  exact ⟨fun q => by have q : u = v := q; rw [q, this], fun q => by injection q⟩
 ·rw [if_neg h]
  exact ⟨fun q => absurd q h, fun q => by injection q with _ q; exact absurd ((G9 _ _).2 q) h⟩
def Ek (bs : List Bx) (a : Ad) (g : Gm) : List Bx :=
 if Gb bs a = true then bs.set (kS bs a) ⟨(bs.getD (kS bs a) default).addr, (bs.getD (kS bs a) default).mails ++ [g]⟩
 else bs.take (kS bs a) ++ (⟨a, [g]⟩ :: bs.drop (kS bs a))
theorem Hi {bs : List Bx} {a : Ad} {g : Gm} (h : Gb bs a = true) : Ek bs a g = bs.set (kS bs a) ⟨(bs.getD (kS bs a) default).addr, (bs.getD (kS bs a) default).mails ++ [g]⟩ := if_pos h
theorem GJ {bs : List Bx} {a : Ad} {g : Gm} (h : Gb bs a = false) : Ek bs a g = bs.take (kS bs a) ++ (⟨a, [g]⟩ :: bs.drop (kS bs a)) := if_neg (by rw [h]; decide)
theorem NX {bs : List Bx} {a : Ad} (h : Gb bs a = true) : kS bs a < bs.length := by
 unfold Gb at h
 simp only [Bool.and_eq_true, decide_eq_true_eq] at h
 exact h.1
def Cm (s : Sp) (n : Int) (a : Ad) : Prop := ¬ A4 s n < 0 ∧ ¬ B8 (Az s n) a < 0
theorem HV {s : Sp} {n : Int} {a : Ad} (q : Cm s n a) : ∃ x ∈ s.items, x.id = n ∧ ∃ r ∈ x.to, r.addr = a := by
 have h1 := CY q.1
 have h2 := Hf q.2
 exact ⟨Az s n, AF (by omega), GG q.1, _, AF (by omega), GH q.2⟩
theorem Uy : ∀ {xs : List Im}, (xs.map Im.id).Pairwise (· < ·) → ∀ {x y : Im}, x ∈ xs → y ∈ xs → x.id = y.id → x = y
 | z :: t, h, x, y, hx, hy, e => by
   rw [List.map_cons, List.pairwise_cons] at h
   rcases List.mem_cons.1 hx with q | q
   ·rcases List.mem_cons.1 hy with r | r
    ·rw [q, r]
    ·have := h.1 _ (List.mem_map_of_mem (f := Im.id) r); rw [q] at e; omega
   ·rcases List.mem_cons.1 hy with r | r
    ·have := h.1 _ (List.mem_map_of_mem (f := Im.id) q); rw [r] at e; omega
    ·exact Uy h.2 q r e
theorem GB {s : Sp} (h : Bg s) {x : Im} (hx : x ∈ s.items) {r : Rc} (hr : r ∈ x.to) : Cm s x.id r.addr ∧ Az s x.id = x := by
 have h1 : ¬ A4 s x.id < 0 := by
  have : 0 ≤ A4 s x.id := (EK s.items 0).2 ⟨x, hx, rfl⟩
  omega
 have h2 := CY h1
 have h3 : Az s x.id = x := Uy (Cp.1 h.2.1) (AF (by omega)) hx (GG h1)
 refine ⟨⟨h1, ?_⟩, h3⟩
 rw [h3]
 have : 0 ≤ B8 x r.addr := (EK x.to 0).2 ⟨r, hr, rfl⟩
 omega
theorem TZ {s : Sp} {n n' : Int} {a a' : Ad} (h : Bg s) (q : Cm s n a) (q' : Cm s n' a') (ne : ¬ (n = n' ∧ a = a')) : Cm (DM s (A4 s n).toNat (B8 (Az s n) a).toNat) n' a' := by
 obtain ⟨x, hx, e1, r, hr, e2⟩ := HV q'
 have i1 := CY q.1
 have k1 := Hf q.2
 have ei := GG q.1
 have ek := GH q.2
 obtain ⟨i, hi⟩ : ∃ i, i = (A4 s n).toNat := ⟨_, rfl⟩
 obtain ⟨k, hk⟩ : ∃ k, k = (B8 (Az s n) a).toNat := ⟨_, rfl⟩
 have hX : s.items.getD i default = Az s n := by rw [hi]; rfl
 have hil : i < s.items.length := by omega
 have hkl : k < (s.items.getD i default).to.length := by rw [hX]; omega
 rw [← hi, ← hk]
 rw [← hk] at ek
 have hok := En h hil hkl
 suffices hs : ∃ y ∈ (DM s i k).items, y.id = n' ∧ ∃ r ∈ y.to, r.addr = a' by
  obtain ⟨y, hy, f1, r, hr, f2⟩ := hs
  rw [← f1, ← f2]
  exact (GB hok hy hr).1
 show ∃ y ∈ Xm s.items i k, y.id = n' ∧ ∃ r ∈ y.to, r.addr = a'
 have hx2 := hx
 rw [RR hil] at hx2
 have hout : x ∈ s.items.take i ++ s.items.drop (i + 1) → ∃ y ∈ Xm s.items i k, y.id = n' ∧ ∃ r ∈ y.to, r.addr = a' := fun hm => by
  refine ⟨x, ?_, e1, r, hr, e2⟩
  unfold Xm
  split
  ·exact hm
  ·rcases List.mem_append.1 hm with hm | hm
   ·exact List.mem_append_left _ hm
   ·exact List.mem_append_right _ (List.mem_cons_of_mem _ hm)
 rcases List.mem_append.1 hx2 with hm | hm
 ·exact hout (List.mem_append_left _ hm)
 ·rcases List.mem_cons.1 hm with hm | hm
  ·rw [hX] at hm
   subst hm
   have hr2 := hr
   rw [RR (xs := (Az s n).to) (i := k) (by rw [← hX]; exact hkl)] at hr2
   have hin : r ∈ (Id (Az s n) k).to := by
    show r ∈ (Az s n).to.take k ++ (Az s n).to.drop (k + 1)
    rcases List.mem_append.1 hr2 with hm | hm
    ·exact List.mem_append_left _ hm
    ·rcases List.mem_cons.1 hm with hm | hm
     ·exact absurd ⟨ei.symm.trans e1, by rw [← e2, hm]; exact ek.symm⟩ ne
     ·exact List.mem_append_right _ hm
   refine ⟨Id (Az s n) k, ?_, e1, r, hin, e2⟩
   unfold Xm
   rw [hX, if_neg (fun e => by rw [e] at hin; cases hin)]
   exact List.mem_append_right _ (by simp)
  ·exact hout (List.mem_append_right _ hm)
theorem Jw : ∀ a b : List UInt8, Lib.compareBytes b a = - Lib.compareBytes a b
 | [], [] => by simp [Lib.compareBytes]
 | [], _ :: _ => by simp [Lib.compareBytes]
 | _ :: _, [] => by simp [Lib.compareBytes]
 | a :: x, b :: y => by
   have ih := Jw x y
   simp only [Lib.compareBytes]
   by_cases h1 : a < b
   ·have h2 : ¬ b < a := fun h => absurd (UInt8.lt_trans h1 h) (UInt8.lt_irrefl _)
    simp [h1, h2]
   ·by_cases h2 : b < a
    ·simp [h1, h2]
    ·simp [h1, h2, ih]
theorem Ib : ∀ a b c : List UInt8, Lib.compareBytes a b < 0 → Lib.compareBytes b c < 0 → Lib.compareBytes a c < 0
 | [], b, [], h1, h2 => by
   have := Jw [] b
   rw [this] at h2; omega
 | [], _, _ :: _, _, _ => by simp [Lib.compareBytes]
 | _ :: _, [], _, h1, _ => by simp [Lib.compareBytes] at h1
 | _ :: _, _ :: _, [], _, h2 => by simp [Lib.compareBytes] at h2
 | a :: x, b :: y, c :: z, h1, h2 => by
   have ih := Ib x y z
   simp only [Lib.compareBytes] at h1 h2 ⊢
   by_cases e1 : a < b
   ·by_cases e2 : b < c
    ·rw [if_pos (UInt8.lt_trans e1 e2)]; decide
    ·rw [if_neg e2] at h2
     split at h2
     ·omega
     ·have : b = c := UInt8.le_antisymm (UInt8.not_lt.1 (by assumption)) (UInt8.not_lt.1 e2)
      rw [← this, if_pos e1]; decide
   ·rw [if_neg e1] at h1
    split at h1
    ·omega
    ·have e3 : a = b := UInt8.le_antisymm (UInt8.not_lt.1 (by assumption)) (UInt8.not_lt.1 e1)
     subst e3
     split
     ·decide
     ·rename_i q
      rw [if_neg q] at h2
      split at h2
      ·omega
      ·rename_i q2
       rw [if_neg q2]
       exact ih h1 h2
theorem eA (a b : Ad) : Jt b a = - Jt a b := by
 unfold Jt Em
 rw [Jw (bl a.domain) (bl b.domain), Jw (bl a.user) (bl b.user)]
 by_cases h : Lib.compareBytes (bl a.domain) (bl b.domain) = 0
 ·rw [if_pos h, if_pos (by omega)]
 ·rw [if_neg h, if_neg (by omega)]
theorem MH {a b c : Ad} (h1 : Jt a b < 0) (h2 : Jt b c < 0) : Jt a c < 0 := by
 unfold Jt at *
 by_cases e1 : Em a.domain b.domain = 0
 ·have f1 := (G9 _ _).1 e1
  rw [if_pos e1] at h1
  rw [f1]
  by_cases e2 : Em b.domain c.domain = 0
  ·rw [if_pos e2] at h2 ⊢
   exact Ib _ _ _ h1 h2
  ·rw [if_neg e2] at h2 ⊢
   exact h2
 ·rw [if_neg e1] at h1
  by_cases e2 : Em b.domain c.domain = 0
  ·have f2 := (G9 _ _).1 e2
   rw [← f2, if_neg e1]
   exact h1
  ·rw [if_neg e2] at h2
   have h3 : Em a.domain c.domain < 0 := Ib _ _ _ h1 h2
   rw [if_neg (by omega)]
   exact h3
def KE (bs : List Bx) : Prop := bs.Pairwise fun b c => Jt b.addr c.addr < 0
theorem Qs {bs : List Bx} (h : KE bs) (a : Ad) : tq bs a := fun j h1 h2 hb => by
 have h3 : kS bs a < bs.length := by omega
 have h4 := U0 a bs h3
 by_cases e : j = kS bs a
 ·rw [e] at hb; exact h4 hb
 ·have h5 := List.pairwise_iff_getElem.1 h (kS bs a) j h3 h2 (by omega)
  have g1 : bs.getD (kS bs a) default = bs[kS bs a] := by simp [h3]
  have g2 : bs.getD j default = bs[j] := by simp [h2]
  rw [g1] at h4
  rw [g2] at hb
  exact h4 (MH h5 hb)
theorem KV {bs : List Bx} {a : Ad} {g : Gm} (h : KE bs) : KE (Ek bs a g) := by
 cases hf : Gb bs a
 ·rw [GJ hf]
  have hp := Qs h a
  have hb : KE (bs.take (kS bs a) ++ bs.drop (kS bs a)) := by rw [List.take_append_drop]; exact h
  obtain ⟨p1, p2, p3⟩ := List.pairwise_append.1 hb
  have lo : ∀ b ∈ bs.take (kS bs a), Jt b.addr a < 0 := fun b hm => by
   obtain ⟨j, hj, rfl⟩ := List.getElem_of_mem hm
   rw [List.length_take] at hj
   have := aj a bs (j := j) (by omega)
   rw [List.getElem_take]
   simpa [show j < bs.length by omega] using this
  have hi : ∀ b ∈ bs.drop (kS bs a), Jt a b.addr < 0 := fun b hm => by
   obtain ⟨j, hj, rfl⟩ := List.getElem_of_mem hm
   rw [List.length_drop] at hj
   have hk : kS bs a < bs.length := by omega
   have n1 := hp (kS bs a + j) (by omega) (by omega)
   have g2 : bs.getD (kS bs a + j) default = bs[kS bs a + j] := by simp [show kS bs a + j < bs.length by omega]
   rw [g2] at n1
   rw [List.getElem_drop]
   have n2 := eA a (bs[kS bs a + j]).addr
   by_cases z : Jt (bs[kS bs a + j]).addr a = 0
   ·exfalso
    by_cases hj0 : j = 0
    ·subst hj0
     unfold Gb at hf
     simp only [Bool.and_eq_false_iff, decide_eq_false_iff_not] at hf
     rcases hf with hf | hf
     ·exact hf hk
     ·exact hf (by rw [← z]; simp [hk])
    ·have h5 := List.pairwise_iff_getElem.1 h (kS bs a) (kS bs a + j) hk (by omega) (by omega)
     have e := (Yv _ _).1 z
     rw [e] at h5
     have n3 := U0 a bs hk
     have g1 : bs.getD (kS bs a) default = bs[kS bs a] := by simp [hk]
     rw [g1] at n3
     exact n3 h5
   ·omega
  exact List.pairwise_append.2 ⟨p1, List.pairwise_cons.2 ⟨hi, p2⟩, fun b hb c hc => by
   rcases List.mem_cons.1 hc with rfl | hc
   ·exact lo b hb
   ·exact p3 b hb c hc⟩
 ·rw [Hi hf]
  have hlt := NX hf
  have h' : (bs.map Bx.addr).Pairwise fun x y => Jt x y < 0 := List.pairwise_map.2 h
  have e : (bs.set (kS bs a) ⟨(bs.getD (kS bs a) default).addr, (bs.getD (kS bs a) default).mails ++ [g]⟩).map Bx.addr = bs.map Bx.addr := by
   rw [List.map_set]
   have : (⟨(bs.getD (kS bs a) default).addr, (bs.getD (kS bs a) default).mails ++ [g]⟩ : Bx).addr = (bs.map Bx.addr)[kS bs a]'(by rw [lm]; exact hlt) := by
    rw [List.getElem_map]
    show (bs.getD (kS bs a) default).addr = _
    simp [hlt]
   rw [this, List.set_getElem_self]
  exact List.pairwise_map.1 (e ▸ h')
theorem Ok {bs : List Bx} (h : ∀ j, 0 < j → j < bs.length → YS (bs.getD (j - 1) default).addr (bs.getD j default).addr) : KE bs := by
 refine List.pairwise_iff_getElem.2 fun i j hi hj hij => ?_
 induction j with
 | zero => omega
 | succ j ih =>
   have h1 := (IW _ _).2 (h (j + 1) (by omega) hj)
   simp only [Nat.add_sub_cancel, List.getD_eq_getElem?_getD, List.getElem?_eq_getElem hj, List.getElem?_eq_getElem (show j < bs.length by omega), Option.getD_some] at h1
   by_cases e : i = j
   ·subst e; exact h1
   ·exact MH (ih (by omega) (by omega)) h1
theorem MF (bs : List Bx) (a : Ad) (g : Gm) : (Ek bs a g).length ≤ bs.length + 1 := by
 have := ah a bs
 cases hf : Gb bs a
 ·rw [GJ hf]; simp only [List.length_append, List.length_take, List.length_cons, List.length_drop]; omega
 ·rw [Hi hf, List.length_set]; omega
theorem I5 {bs : List Bx} {a : Ad} {g : Gm} {M : Nat} (h : ∀ b ∈ bs, b.mails.length ≤ M) : ∀ b ∈ Ek bs a g, b.mails.length ≤ M + 1 := fun b hb => by
 cases hf : Gb bs a
 ·rw [GJ hf] at hb
  rcases List.mem_append.1 hb with hb | hb
  ·have := h b (List.mem_of_mem_take hb); omega
  ·rcases List.mem_cons.1 hb with hb | hb
   ·rw [hb]; show 1 ≤ M + 1; omega
   ·have := h b (List.mem_of_mem_drop hb); omega
 ·rw [Hi hf] at hb
  rcases List.mem_or_eq_of_mem_set hb with hb | hb
  ·have := h b hb; omega
  ·rw [hb]
   have := h _ (AF (NX hf))
   show (_ ++ [g]).length ≤ _
   rw [List.length_append, List.length_singleton]; omega
noncomputable def Hr (h : Hs) (x : Im) (a : Ad) : Hs := ⟨h.conf, (TY h.spool x.id a).1, Ek h.boxes a ⟨x.frm, x.body⟩, h.lost⟩
noncomputable def Ks (x : Im) : List Ad → Hs → Hs
 | [], h => h
 | a :: r, h => Ks x r (Hr h x a)
noncomputable def EL (c : Cf) (w : Int) : List Im → Hs → Hs
 | [], h => h
 | x :: t, h => EL c w t (Ks x (A3 c ⟨#[]⟩ w x.to) h)
noncomputable def ST (c : Cf) (w : Int) (x : Im) (rs : List Rc) : List (Int × Ad) := (A3 c ⟨#[]⟩ w rs).map fun a => (x.id, a)
noncomputable def Gz (c : Cf) (w : Int) : List Im → List (Int × Ad)
 | [] => []
 | x :: t => ST c w x x.to ++ Gz c w t
structure Kp (c : Cf) (g : Hs) (R : List (Int × Ad)) : Prop where
 cf : g.conf = c
 sp : Bg g.spool
 os : FR g.spool
 so : KE g.boxes
 td : ∀ p ∈ R, Cm g.spool p.1 p.2
 nd : R.Nodup
 b1 : g.boxes.length + R.length ≤ 3000000
 b2 : ∀ b ∈ g.boxes, b.mails.length + R.length ≤ 3000000
theorem Kp.done {c : Cf} {g : Hs} {x : Im} {a : Ad} {R : List (Int × Ad)} (h : Kp c g ((x.id, a) :: R)) : TY g.spool x.id a = (DM g.spool (A4 g.spool x.id).toNat (B8 (Az g.spool x.id) a).toNat, true) :=
 dT h.sp (h.td (x.id, a) (by simp)).1 (h.td (x.id, a) (by simp)).2
theorem Kp.step {c : Cf} {g : Hs} {x : Im} {a : Ad} {R : List (Int × Ad)} (h : Kp c g ((x.id, a) :: R)) : Kp c (Hr g x a) R := by
 have q : Cm g.spool x.id a := h.td (x.id, a) (by simp)
 have i1 := CY q.1
 have k1 := Hf q.2
 have hD := h.done
 have hil : (A4 g.spool x.id).toNat < g.spool.items.length := by omega
 have hkl : (B8 (Az g.spool x.id) a).toNat < (g.spool.items.getD (A4 g.spool x.id).toNat default).to.length := by
  show _ < (Az g.spool x.id).to.length
  omega
 have hs : (Hr g x a).spool = DM g.spool (A4 g.spool x.id).toNat (B8 (Az g.spool x.id) a).toNat := by unfold Hr; rw [hD]
 have hb1 := h.b1
 rw [List.length_cons] at hb1
 refine ⟨h.cf, by rw [hs]; exact En h.sp hil hkl, by rw [hs]; exact Ug h.os hil, KV h.so, fun p hp => ?_, (List.nodup_cons.1 h.nd).2, ?_, fun b hb => ?_⟩
 ·rw [hs]
  refine TZ h.sp q (h.td p (List.mem_cons_of_mem _ hp)) fun e => (List.nodup_cons.1 h.nd).1 ?_
  obtain ⟨p1, p2⟩ := p
  rw [e.1, e.2]; exact hp
 ·have := MF g.boxes a ⟨x.frm, x.body⟩
  show (Ek _ _ _).length + _ ≤ _
  omega
 ·have := I5 (M := 3000000 - (R.length + 1)) (g := ⟨x.frm, x.body⟩) (a := a) (fun b hb => by have := h.b2 b hb; rw [List.length_cons] at this; omega) b hb
  omega
theorem wH {c : Cf} {w : Int} {x : Im} {rs : List Rc} {i : Nat} (h : i < rs.length) (hn : JP c ⟨#[]⟩ w (rs.getD i default)) : ST c w x (rs.drop i) = (x.id, (rs.getD i default).addr) :: ST c w x (rs.drop (i + 1)) := by
 unfold ST; rw [SR h hn]; rfl
theorem wG {c : Cf} {w : Int} {x : Im} {rs : List Rc} {i : Nat} (h : i < rs.length) (hn : ¬ JP c ⟨#[]⟩ w (rs.getD i default)) : ST c w x (rs.drop i) = ST c w x (rs.drop (i + 1)) := by
 unfold ST; rw [SQ h hn]
theorem jI {c : Cf} {w : Int} {x : Im} {rs : List Rc} {i : Nat} (h : rs.length ≤ i) : ST c w x (rs.drop i) = [] := by
 unfold ST; rw [K8 h]; rfl
theorem WP {c : Cf} {w : Int} {xs : List Im} {i : Nat} (h : i < xs.length) : Gz c w (xs.drop i) = ST c w (xs.getD i default) (xs.getD i default).to ++ Gz c w (xs.drop (i + 1)) := by
 rw [AZ h]; rfl
theorem R0 {c : Cf} {w : Int} {xs : List Im} {i : Nat} {g : Hs} (h : i < xs.length) : EL c w (xs.drop i) g = EL c w (xs.drop (i + 1)) (Ks (xs.getD i default) (A3 c ⟨#[]⟩ w (xs.getD i default).to) g) := by
 rw [AZ h]; rfl
theorem K9 (c : Cf) (w : Int) : ∀ rs : List Rc, List.Sublist (A3 c ⟨#[]⟩ w rs) (rs.map Rc.addr)
 | [] => .slnil
 | r :: t => by
   rw [A3]
   cases BM (JP c ⟨#[]⟩ w r)
   ·exact .cons _ (K9 c w t)
   ·exact .cons_cons _ (K9 c w t)
theorem KK {c : Cf} {w : Int} : ∀ {xs : List Im} {p : Int × Ad}, p ∈ Gz c w xs → ∃ x ∈ xs, p.1 = x.id ∧ ∃ r ∈ x.to, r.addr = p.2
 | x :: t, p, h => by
   rw [Gz] at h
   rcases List.mem_append.1 h with h | h
   ·unfold ST at h
    obtain ⟨a, ha, rfl⟩ := List.mem_map.1 h
    obtain ⟨r, hr, e, _⟩ := Ew c ⟨#[]⟩ w _ a ha
    exact ⟨x, by simp, rfl, r, hr, e⟩
   ·obtain ⟨y, hy, q⟩ := KK h
    exact ⟨y, by simp [hy], q⟩
theorem KN {c : Cf} {w : Int} : ∀ {xs : List Im}, (xs.map Im.id).Pairwise (· < ·) → (∀ x ∈ xs, (x.to.map Rc.addr).Nodup) → (Gz c w xs).Nodup
 | [], _, _ => List.nodup_nil
 | x :: t, h1, h2 => by
   rw [List.map_cons, List.pairwise_cons] at h1
   rw [Gz]
   refine List.nodup_append.2 ⟨?_, KN h1.2 fun y hy => h2 y (by simp [hy]), fun p hp q hq e => ?_⟩
   ·unfold ST
    have h3 := (K9 c w x.to).nodup (h2 x (by simp))
    exact List.pairwise_map.2 (h3.imp fun {a b} ne e => ne (by injection e))
   ·subst e
    unfold ST at hp
    obtain ⟨a, _, rfl⟩ := List.mem_map.1 hp
    obtain ⟨y, hy, e, _⟩ := KK hq
    have := h1.1 y.id (List.mem_map_of_mem hy)
    have e : x.id = y.id := e
    omega
theorem Oo {c : Cf} {w : Int} : ∀ {xs : List Im}, (∀ x ∈ xs, x.to.length ≤ 4) → (Gz c w xs).length ≤ 4 * xs.length
 | [], _ => by simp [Gz]
 | x :: t, h => by
   rw [Gz, List.length_append, List.length_cons]
   have h1 := Oo (c := c) (w := w) fun y hy => h y (List.mem_cons_of_mem x hy)
   have h2 := Fx c ⟨#[]⟩ w x.to
   have h3 := h x (by simp)
   have h4 : (ST c w x x.to).length = (A3 c ⟨#[]⟩ w x.to).length := lm _
   omega
theorem OS {h : Hs} {w : Int} (q : DR h) (ok : E0 h) : Kp h.conf h (Gz h.conf w h.spool.items) := by
 obtain ⟨q1, q2, q3⟩ := q
 have hl := Oo (c := h.conf) (w := w) (xs := h.spool.items) fun x hx => (q3.1 x hx).1.2.2.2.2.1.2
 have h10 := q3.2.2.2
 have hb := ok.2.2.1
 refine ⟨rfl, q3, ok.2.1, Ok fun j h0 hj => (q1 j hj).2.1 h0, fun p hp => ?_, KN (Cp.1 q3.2.1) fun x hx => (q3.1 x hx).1.2.1, ?_, fun b hbm => ?_⟩
 ·obtain ⟨x, hx, e, r, hr, e2⟩ := KK hp
  rw [e, ← e2]
  exact (GB q3 hx hr).1
 ·have : (h.boxes.length : Int) ≤ 1048576 := hb.1
  omega
 ·have : (b.mails.length : Int) ≤ 1048576 := (hb.2 b hbm).2.1
  omega
def oK : Ct := Ak (lc D7.ag (lc DQ.ag (lc Iz.ag l0))) (fun p => p.1.boxes.length ≤ 3000000 ∧ (∀ b ∈ p.1.boxes, b.mails.length ≤ 3000000) ∧ p.2.2.1.body.length ≤ 3000000) (fun p => .agg ((Ai ⟨p.1.conf, p.1.spool, Ek p.1.boxes p.2.1 ⟨p.2.2.1.frm, p.2.2.1.body⟩, p.1.lost⟩).map .t))
section
attribute [local go_sem] uc Ja JT List.take_length List.drop_zero List.length_take List.length_drop lm List.length_append List.length_cons List.length_nil List.map_append List.map_nil List.map_cons List.nil_append Nat.zero_add List.mem_singleton forall_eq Bool.not_true Bool.not_false AX AW AS.opn AS.cls AS.nilb AS.renb AS.up List.set_set List.set_cons_zero List.set_cons_succ List.set_nil
set_option maxHeartbeats 3200000 in
theorem gk {G : Gt} (hG : Ah G) (hh : G.e 84 = AA 0 uc) : Gd G 189 (AA 1 oK) := by
 refine Lo (dp := fun n => Nat.ble 100000 n) (fn := Tryz.f189) (n := 3) rfl rfl hG ?_
 rintro ⟨h, a, x, ⟨⟩⟩ hpre
 obtain ⟨hl1, hl2, hl3⟩ := hpre
 dsimp only at hl1 hl2 hl3 ⊢
 have hkl := ah a h.boxes
 simp -implicitDefEqProofs only [Tryz.f189, go_sem, hh, seval]
 with_reducible repeat' (first | apply ai | intro _ | ((first | apply s1 | apply s3 | apply s4) <;> intro hb <;> simp -implicitDefEqProofs only [hb, go_sem, hh, seval] <;> try simp only [qz] at hb))
 all_goals (try simp only [maxLen] at *)
 all_goals first | with_reducible assumption | rfl | omega | contradiction | decide | skip
 refine AE [] (ι := {i : Nat // i ≤ kS h.boxes a}) (fun p => ⟨[(3, .pb 1003 0), (4, .pb 1004 0), (5, .pb 1005 0), (6, .pb 1006 0), (7, .t (.v (.int .i64 p.1)))], [(1003, some (.box ((Ai h).map .t))), (1004, some (.box ((Am a).map .t))), (1005, some (.box ((An x).map .t))), (1006, some (.box [.t (.v (.string ⟨#[]⟩)), .nil, .nil, .t (.v (.int .i64 0)), .nil, .nil, .nil]))]⟩) (fun p => kS h.boxes a - p.1) ⟨0, Nat.zero_le _⟩ rfl ?_ ?_
 ·simp -implicitDefEqProofs only [go_sem, hh, seval]
  try simp
 ·rintro ⟨i, hi⟩
  dsimp only at hi ⊢
  by_cases hlt : i < kS h.boxes a
  ·have hil : (i : Int) < h.boxes.length := by omega
   have b1 := Ae ((IW _ _).1 (aj a h.boxes hlt))
   simp -implicitDefEqProofs only [hil, b1, decide_true, tn, go_sem, hh, seval]
   with_reducible repeat' (first | apply ai | intro _ | ((first | apply s1 | apply s3 | apply s4) <;> intro hb <;> simp -implicitDefEqProofs only [hb, go_sem, hh, seval] <;> try simp only [qz] at hb))
   all_goals (try simp only [maxLen] at *)
   all_goals first | with_reducible assumption | rfl | omega | contradiction | decide | skip
   refine ⟨⟨i + 1, by omega⟩, by dsimp only; omega, ?_⟩
   simp -implicitDefEqProofs only [go_sem, hh, seval]
   try simp
  ·have hk : i = kS h.boxes a := by omega
   have e1 : ((i : Int) + 1).toNat = i + 1 := by omega
   by_cases hil : (i : Int) < h.boxes.length
   ·have hkb : kS h.boxes a < h.boxes.length := by omega
    have b1 := AN (fun z => U0 a h.boxes hkb ((IW _ _).2 z))
    rw [← hk] at b1
    have hml := hl2 _ (AF (xs := h.boxes) (j := i) (by omega))
    by_cases hf : (h.boxes.getD i default).addr = a
    ·have hF : Gb h.boxes a = true := by
       unfold Gb
       rw [decide_eq_true hkb, ← hk, decide_eq_true ((Yv _ _).2 hf)]; rfl
     have hB : Ek h.boxes a ⟨x.frm, x.body⟩ = h.boxes.set i ⟨(h.boxes.getD i default).addr, (h.boxes.getD i default).mails ++ [⟨x.frm, x.body⟩]⟩ := by rw [Hi hF, ← hk]
     rw [hB]
     have he : (false != (decide ((h.boxes.getD i default).addr.user = a.user) && decide ((h.boxes.getD i default).addr.domain = a.domain))) = true := by rw [hf]; simp
     rw [hf]
     simp -implicitDefEqProofs only [hil, b1, he, decide_true, tn, e1, go_sem, hh, seval]
     with_reducible repeat' (first | apply ai | intro _ | ((first | apply s1 | apply s3 | apply s4) <;> intro hb <;> simp -implicitDefEqProofs only [hb, go_sem, hh, seval] <;> try simp only [qz] at hb))
     all_goals (try simp only [maxLen, e1, tn, List.take_length, List.drop_zero] at *)
     all_goals first | with_reducible assumption | rfl | omega | contradiction | decide | (refine congrArg (T.sl 3) ?_; first | (simp; done) | (rw [List.set_eq_take_append_cons_drop, if_pos (by omega)]; simp [Bo, Cg]; done)) | skip
    ·have he : (false != (decide ((h.boxes.getD i default).addr.user = a.user) && decide ((h.boxes.getD i default).addr.domain = a.domain))) = false := by
       cases hq : (decide ((h.boxes.getD i default).addr.user = a.user) && decide ((h.boxes.getD i default).addr.domain = a.domain))
       ·rfl
       ·simp only [Bool.and_eq_true, decide_eq_true_eq] at hq
        exact absurd (show (⟨(h.boxes.getD i default).addr.user, (h.boxes.getD i default).addr.domain⟩ : Ad) = a by rw [hq.1, hq.2]) hf
     have hF : Gb h.boxes a = false := by
      unfold Gb
      rw [decide_eq_true hkb, ← hk, decide_eq_false (fun z => hf ((Yv _ _).1 z))]; rfl
     have hB : Ek h.boxes a ⟨x.frm, x.body⟩ = h.boxes.take i ++ (⟨a, [⟨x.frm, x.body⟩]⟩ :: h.boxes.drop i) := by rw [GJ hF, ← hk]
     rw [hB]
     simp -implicitDefEqProofs only [hil, b1, he, decide_true, tn, e1, go_sem, hh, seval]
     with_reducible repeat' (first | apply ai | intro _ | ((first | apply s1 | apply s3 | apply s4) <;> intro hb <;> simp -implicitDefEqProofs only [hb, go_sem, hh, seval] <;> try simp only [qz] at hb))
     all_goals (try simp only [maxLen, e1, tn, List.take_length, List.drop_zero] at *)
     all_goals first | with_reducible assumption | rfl | omega | contradiction | decide | (refine congrArg (T.sl 3) ?_; first | (simp; done) | (rw [List.set_eq_take_append_cons_drop, if_pos (by omega)]; simp [Bo, Cg]; done)) | skip
   ·have hF : Gb h.boxes a = false := by
      unfold Gb
      rw [decide_eq_false (by omega)]; rfl
    have hB : Ek h.boxes a ⟨x.frm, x.body⟩ = h.boxes.take i ++ (⟨a, [⟨x.frm, x.body⟩]⟩ :: h.boxes.drop i) := by rw [GJ hF, ← hk]
    rw [hB]
    simp -implicitDefEqProofs only [hil, decide_false, tn, e1, go_sem, hh, seval]
    with_reducible repeat' (first | apply ai | intro _ | ((first | apply s1 | apply s3 | apply s4) <;> intro hb <;> simp -implicitDefEqProofs only [hb, go_sem, hh, seval] <;> try simp only [qz] at hb))
    all_goals (try simp only [maxLen, e1, tn, List.take_length, List.drop_zero] at *)
    all_goals first | with_reducible assumption | rfl | omega | contradiction | decide | (refine congrArg (T.sl 3) ?_; simp; done) | skip
end
theorem bn {g : Hs} {x : Im} {a : Ad} {w : Int} {R : List (Int × Ad)} (h : Kp g.conf g ((x.id, a) :: R)) : Ch ⟨g.conf, g.spool, Ek g.boxes a ⟨x.frm, x.body⟩, g.lost⟩ (A4 g.spool x.id).toNat (B8 (Az g.spool x.id) a).toNat a 2 w = Hr g x a := by
 unfold Ch
 rw [if_pos rfl]
 unfold Hr
 rw [h.done]
def eF : Ct := Ak (lc D7.ag (lc BF l0)) (fun p => DR p.1 ∧ E0 p.1) (fun p => .agg ((Ai (EL p.1.conf p.2.1 p.1.spool.items p.1)).map .t))
section
attribute [local go_sem] ug oK RJ Ja JT List.take_length List.drop_zero List.length_take List.length_drop lm List.length_append List.length_cons List.length_nil List.map_append List.map_nil List.map_cons List.nil_append Nat.zero_add List.mem_singleton forall_eq Bool.not_true Bool.not_false AX AW AS.opn AS.cls AS.nilb AS.renb AS.up List.set_set List.set_cons_zero List.set_cons_succ List.set_nil
set_option maxHeartbeats 6400000 in
theorem gS {G : Gt} (hG : Ah G) (hh : G.e 90 = AA 0 ug ∧ G.e 189 = AA 1 oK ∧ G.e 187 = AA 1 RJ) : Gd G 171 (AA 1 eF) := by
 refine Lo (dp := fun n => Nat.ble 100000 n) (fn := Tryz.f171) (n := 2) rfl rfl hG ?_
 rintro ⟨h, w, ⟨⟩⟩ hpre
 obtain ⟨hq, hok⟩ := hpre
 dsimp only at hq hok ⊢
 have hmx : (h.spool.items.length : Int) ≤ 1048576 := hok.2.1.1
 simp -implicitDefEqProofs only [Tryz.f171, go_sem, hh, seval]
 with_reducible repeat' (first | apply ai | intro _ | ((first | apply s1 | apply s3 | apply s4) <;> intro hb <;> simp -implicitDefEqProofs only [hb, go_sem, hh, seval] <;> try simp only [qz] at hb))
 all_goals (try simp only [maxLen] at *)
 all_goals first | with_reducible assumption | rfl | omega | contradiction | decide | skip
 refine AE [] (ι := {p : Nat × Hs // p.1 ≤ h.spool.items.length ∧ Kp h.conf p.2 (Gz h.conf w (h.spool.items.drop p.1)) ∧ EL h.conf w h.spool.items h = EL h.conf w (h.spool.items.drop p.1) p.2}) (fun p => ⟨[(1, .t (.v (.int .i64 w))), (2, .pb 1002 0), (4, .pb 1004 0), (5, .t (.sl 5 (h.spool.items.map An))), (6, .t (.v (.int .i64 p.1.1)))], [(1002, some (.box ((Ai p.1.2).map .t))), (1004, some (.box [.t (.v (.string ⟨#[]⟩)), .nil, .nil, .t (.v (.int .i64 0)), .nil, .nil, .nil]))]⟩) (fun p => h.spool.items.length - p.1.1) ⟨(0, h), Nat.zero_le _, OS hq hok, rfl⟩ rfl ?_ ?_
 ·simp -implicitDefEqProofs only [go_sem, hh, seval]
  try simp
 ·rintro ⟨⟨i, g⟩, hi, hK, he⟩
  dsimp only at hi hK he ⊢
  by_cases hlt : (i : Int) < h.spool.items.length
  ·have hil : i < h.spool.items.length := by omega
   obtain ⟨x, hx⟩ : ∃ x, x = h.spool.items.getD i default := ⟨_, rfl⟩
   have hxo := hok.2.1.2 _ (AF hil)
   rw [← hx] at hxo
   have hxl : (x.to.length : Int) ≤ 1048576 := hxo.2.1.1
   have hxb : (x.body.length : Int) ≤ 1048576 := hxo.2.2.1
   rw [WP hil, ← hx] at hK
   rw [R0 hil, ← hx] at he
   simp -implicitDefEqProofs only [hlt, decide_true, tn, ← hx, go_sem, hh, seval]
   with_reducible repeat' (first | apply ai | intro _ | ((first | apply s1 | apply s3 | apply s4) <;> intro hb <;> simp -implicitDefEqProofs only [hb, go_sem, hh, seval] <;> try simp only [qz] at hb))
   all_goals (try simp only [maxLen] at *)
   all_goals first | with_reducible assumption | rfl | omega | contradiction | decide | skip
   refine AE [] (ι := {p : Nat × Hs // p.1 ≤ x.to.length ∧ Kp h.conf p.2 (ST h.conf w x (x.to.drop p.1) ++ Gz h.conf w (h.spool.items.drop (i + 1))) ∧ EL h.conf w h.spool.items h = EL h.conf w (h.spool.items.drop (i + 1)) (Ks x (A3 h.conf ⟨#[]⟩ w (x.to.drop p.1)) p.2)}) (fun p => ⟨[(1, .t (.v (.int .i64 w))), (2, .pb 1002 0), (4, .pb 1004 0), (5, .t (.sl 5 (h.spool.items.map An))), (6, .t (.v (.int .i64 i))), (7, .t (.v (.int .i64 p.1.1)))], [(1002, some (.box ((Ai p.1.2).map .t))), (1004, some (.box [.t (.v (.string ⟨#[]⟩)), .nil, .nil, .t (.v (.int .i64 0)), .nil, .nil, .nil]))]⟩) (fun p => x.to.length - p.1.1) ⟨(0, g), Nat.zero_le _, hK, he⟩ rfl ?_ ?_
   ·simp -implicitDefEqProofs only [go_sem, hh, seval]
    try simp
   ·rintro ⟨⟨k, g⟩, hk, hK, he⟩
    dsimp only at hk hK he ⊢
    by_cases hlk : (k : Int) < x.to.length
    ·have hkl : k < x.to.length := by omega
     have hcf := hK.cf
     by_cases hn : JP h.conf ⟨#[]⟩ w (x.to.getD k default)
     ·have b1 := Ae hn
      rw [← hcf] at b1
      rw [wH hkl hn, List.cons_append] at hK
      rw [SR hkl hn] at he
      have Ap := hK.step
      have hbb := hK.b1
      have hbm := hK.b2
      have hos := hK.os
      have hsp := hK.sp
      have htd := hK.td (x.id, (x.to.getD k default).addr) (by simp)
      have hout := bn (w := w) (hcf ▸ hK)
      simp -implicitDefEqProofs only [hlt, hlk, b1, hout, decide_true, tn, ← hx, go_sem, hh, seval]
      with_reducible repeat' (first | apply ai | intro _ | ((first | apply s1 | apply s3 | apply s4) <;> intro hb <;> simp -implicitDefEqProofs only [hb, go_sem, hh, seval] <;> try simp only [qz] at hb))
      all_goals (try simp only [maxLen] at *)
      all_goals first | with_reducible assumption | rfl | omega | contradiction | decide | exact htd.1 | exact htd.2 | (have := hbm _ (by assumption); omega) | skip
      all_goals first | (refine ⟨⟨(k + 1, Hr g x (x.to.getD k default).addr), by dsimp only; omega, Ap, he⟩, by dsimp only; omega, ?_⟩) | skip
      all_goals simp -implicitDefEqProofs only [go_sem, hh, seval]
      all_goals (try simp)
     ·have b1 := AN hn
      rw [← hcf] at b1
      rw [wG hkl hn] at hK
      rw [SQ hkl hn] at he
      simp -implicitDefEqProofs only [hlt, hlk, b1, decide_true, tn, ← hx, go_sem, hh, seval]
      with_reducible repeat' (first | apply ai | intro _ | ((first | apply s1 | apply s3 | apply s4) <;> intro hb <;> simp -implicitDefEqProofs only [hb, go_sem, hh, seval] <;> try simp only [qz] at hb))
      all_goals (try simp only [maxLen] at *)
      all_goals first | with_reducible assumption | rfl | omega | contradiction | decide | skip
      refine ⟨⟨(k + 1, g), by dsimp only; omega, hK, he⟩, by dsimp only; omega, ?_⟩
      simp -implicitDefEqProofs only [go_sem, hh, seval]
      try simp
    ·rw [jI (by omega), List.nil_append] at hK
     rw [K8 (by omega)] at he
     simp -implicitDefEqProofs only [hlt, hlk, decide_true, decide_false, tn, ← hx, go_sem, hh, seval]
     with_reducible repeat' (first | apply ai | intro _ | ((first | apply s1 | apply s3 | apply s4) <;> intro hb <;> simp -implicitDefEqProofs only [hb, go_sem, hh, seval] <;> try simp only [qz] at hb))
     all_goals (try simp only [maxLen] at *)
     all_goals first | with_reducible assumption | rfl | omega | contradiction | decide | skip
     refine ⟨⟨(i + 1, g), by dsimp only; omega, hK, he⟩, by dsimp only; omega, ?_⟩
     simp -implicitDefEqProofs only [go_sem, hh, seval]
     try simp
  ·have he2 : EL h.conf w h.spool.items h = g := by rw [he, List.drop_eq_nil_of_le (by omega)]; rfl
   simp -implicitDefEqProofs only [hlt, decide_false, he2, go_sem, hh, seval]
   with_reducible repeat' (first | apply ai | intro _ | ((first | apply s1 | apply s3 | apply s4) <;> intro hb <;> simp -implicitDefEqProofs only [hb, go_sem, hh, seval] <;> try simp only [qz] at hb))
   all_goals (try simp only [maxLen] at *)
   all_goals first | with_reducible assumption | rfl | omega | contradiction | decide | skip
end
def EM (c : Cf) : Hs := ⟨c, ⟨0, []⟩, [], []⟩
def FP (cs : List Cf) : Wd := ⟨cs.map EM, 0, 0, []⟩
theorem bF {c : Cf} (h : HT c) : E0 (EM c) := ⟨h, ⟨by show ((0 : Nat) : Int) ≤ _; decide, fun _ q => by cases q⟩, ⟨by show ((0 : Nat) : Int) ≤ _; decide, fun _ q => by cases q⟩, ⟨by show ((0 : Nat) : Int) ≤ _; decide, fun _ q => by cases q⟩⟩
theorem cX {xs : List Cf} {f : Cf → Hs} {i : Nat} (h : i < xs.length) : ((xs.map f).take (i + 1)).map Ai = ((xs.map f).take i).map Ai ++ [Ai (f (xs.getD i default))] := by
 have e : (xs.map f).getD i default = f (xs.getD i default) := by
  simp only [List.getD_eq_getElem?_getD, List.getElem?_map, List.getElem?_eq_getElem h, Option.map_some, Option.getD_some]
 rw [BE Ai (by rw [lm]; exact h), e]
def CH (b : UInt8) : List T := [.v (.int .u8 b.toNat)]
def kQ : List T → Option UInt8
 | [.v (.int .u8 x)] => if 0 ≤ x ∧ x < 256 then some (UInt8.ofNat x.toNat) else none
 | _ => none
def Ld : Ee UInt8 where
 enc := CH
 dec := kQ
 n := 1
 ed := fun b => by
  have := b.toNat_lt
  show (if 0 ≤ ((b.toNat : Nat) : Int) ∧ ((b.toNat : Nat) : Int) < 256 then some (UInt8.ofNat ((b.toNat : Nat) : Int).toNat) else none) = some b
  rw [if_pos (by omega), tn, UInt8.ofNat_toNat]
 de := fun c a h => by
  unfold kQ at h
  split at h
  ·rename_i x
   split at h
   ·rename_i q
    cases h
    show [T.v (.int .u8 x)] = [T.v (.int .u8 (((UInt8.ofNat x.toNat).toNat : Nat) : Int))]
    have : (UInt8.ofNat x.toNat).toNat = x.toNat := by simp; omega
    rw [this]
    congr 3
    omega
   ·cases h
  ·cases h
 len := fun _ => rfl
theorem Zy (b : UInt8) : CH b = [.v (.int .u8 b.toNat)] := rfl
theorem df (xs : List UInt8) (n : Int) (s : AS) (K : Kt) : Ei 1 (xs.map CH) n s K = (0 ≤ n ∧ n < xs.length ∧ K (.t (.rop (CH (xs.getD n.toNat default)))) s) := BW CH xs 1 n s K fun _ => rfl
theorem Jr : Ld.enc = CH := rfl
theorem S1 : Ld.n = 1 := rfl
theorem BB (xs : List UInt8) : Ld.decL (xs.map CH) = some xs := Ld.decL_map xs
theorem Nd (xs : List UInt8) : (∀ c ∈ xs.map CH, c.length = 1) = True := eq_true fun c hc => by
 obtain ⟨a, _, rfl⟩ := List.mem_map.1 hc; rfl
structure Rd where
 b : List UInt8
 p : Int
def lj : AV → Option Rd
 | .ob [.t (.sl 1 es), .t (.v (.int .i64 p))] => (Ld.decL es).map fun b => ⟨b, p⟩
 | _ => none
def DZ : AD Rd where
 enc r := .ob [.t (.sl 1 (r.b.map CH)), .t (.v (.int .i64 r.p))]
 dec := lj
 ed := fun r => by
  show (Ld.decL (r.b.map CH)).map _ = some r
  rw [BB]; rfl
 de := fun x r h => by
  unfold lj at h
  split at h
  ·rename_i es p
   cases hd : Ld.decL es with
   | none => rw [hd] at h; cases h
   | some b =>
     rw [hd] at h; cases h
     rw [show es = b.map CH from Ld.decL_inv hd]
  ·cases h
theorem A0 (r : Rd) : DZ.enc r = .ob [.t (.sl 1 (r.b.map CH)), .t (.v (.int .i64 r.p))] := rfl
theorem A2 {es : List (List T)} {p : Int} : DZ.dec (.ob [.t (.sl 1 es), .t (.v (.int .i64 p))]) = (Ld.decL es).map fun b => ⟨b, p⟩ := rfl
theorem je {n : Int} (h : 0 ≤ n) (h1 : n < 9223372036854775808) : IntKind.wrap .i64 n = n := by
 have e : IntKind.wrap .i64 n = if ((true && decide (n % 18446744073709551616 ≥ 9223372036854775808)) = true) then n % 18446744073709551616 - 18446744073709551616 else n % 18446744073709551616 := rfl
 rw [e, if_neg (by simp; omega)]
 omega
theorem tV {x y : Int} (h : 0 ≤ x) (h1 : x < 9223372036854775808) (k : 0 ≤ y) (k1 : y < 9223372036854775808) : 0 ≤ bits .xor .i64 x y := by
 have e : bits .xor .i64 x y = IntKind.wrap .i64 (((BitVec.ofInt 64 x ^^^ BitVec.ofInt 64 y).toNat : Nat) : Int) := rfl
 rw [e, BitVec.toNat_xor, BitVec.toNat_ofInt, BitVec.toNat_ofInt]
 have q : ((x % ((2 ^ 64 : Nat) : Int)).toNat ^^^ (y % ((2 ^ 64 : Nat) : Int)).toNat) < 2 ^ 63 := Nat.xor_lt_two_pow (by omega) (by omega)
 have q2 := Int.ofNat_lt.2 q
 rw [je (Int.natCast_nonneg _) q2]
 exact Int.natCast_nonneg _
def cw (b : List UInt8) (k : Int) : Int := (((b.getD k.toNat default).toNat : Nat) : Int)
theorem O3 (b : List UInt8) (k : Int) : 0 ≤ cw b k ∧ cw b k ≤ 255 := by
 have := (b.getD k.toNat default).toNat_lt
 unfold cw; omega
theorem uS (b : List UInt8) (k : Int) : (((b.getD k.toNat default).toNat : Nat) : Int) = cw b k := rfl
def Lt (b : List UInt8) (k : Int) : Int := cw b (k % b.length) * 131 + cw b ((k * 7 + 3) % b.length) * 1117 + k * 29 + k / b.length * 53
theorem sH (b : List UInt8) (k : Int) : cw b (k % b.length) * 131 + cw b ((k * 7 + 3) % b.length) * 1117 + k * 29 + k / b.length * 53 = Lt b k := rfl
def Ac (r : Rd) (n : Int) : Int := if n < 1 ∨ (r.b.length : Int) = 0 then 0 else if r.p < r.b.length then cw r.b r.p % n else bits .xor .i64 (Lt r.b r.p) (Lt r.b r.p / 64) % n
theorem Zq {k l : Int} (h : 0 ≤ k) (hl : 0 < l) : 0 ≤ k / l ∧ k / l ≤ k := ⟨Int.ediv_nonneg h (by omega), Int.ediv_le_self _ h⟩
theorem sG {b : List UInt8} {k : Int} (h : 0 ≤ k) (h1 : k ≤ 1000000000) (h2 : ¬ (b.length : Int) = 0) : 0 ≤ Lt b k ∧ Lt b k ≤ 1000000000000 := by
 have q1 := O3 b (k % b.length)
 have q2 := O3 b ((k * 7 + 3) % b.length)
 have q3 := Zq (l := b.length) h (by omega)
 unfold Lt
 omega
theorem Bq {r : Rd} {n : Int} (h : 0 ≤ r.p) (h1 : r.p ≤ 1000000000) : 0 ≤ Ac r n ∧ (1 ≤ n → Ac r n < n) := by
 unfold Ac
 split
 ·omega
 ·rename_i q
  split
  ·exact ⟨Int.emod_nonneg _ (by omega), fun _ => Int.emod_lt_of_pos _ (by omega)⟩
  ·exact ⟨Int.emod_nonneg _ (by omega), fun _ => Int.emod_lt_of_pos _ (by omega)⟩
theorem lp {r : Rd} {n : Int} (h : n < 1 ∨ (r.b.length : Int) = 0) : Ac r n = 0 := if_pos h
theorem wA {r : Rd} {n : Int} (h0 : ¬ n < 1) (h : ¬ (r.b.length : Int) = 0) (h1 : r.p < r.b.length) : cw r.b r.p % n = Ac r n := by
 unfold Ac; rw [if_neg (by omega), if_pos h1]
theorem wB {r : Rd} {n : Int} (h0 : ¬ n < 1) (h : ¬ (r.b.length : Int) = 0) (h1 : ¬ r.p < r.b.length) : bits .xor .i64 (Lt r.b r.p) (Lt r.b r.p / 64) % n = Ac r n := by
 unfold Ac; rw [if_neg (by omega), if_neg h1]
def Rd.nx (r : Rd) (k : Int) : Rd := ⟨r.b, r.p + k⟩
theorem AI (r : Rd) (k : Int) : (r.nx k).p = r.p + k := rfl
theorem BK (r : Rd) (k : Int) : (r.nx k).b = r.b := rfl
theorem CJ (r : Rd) (k : Int) : (⟨r.b, r.p + k⟩ : Rd) = r.nx k := rfl
theorem zP {x y : Int} (h : x = y) : T.v (.int .i64 x) = T.v (.int .i64 y) := by rw [h]
def FS : Mt := GN (lc DZ (lc BF l0)) (fun p => 0 ≤ p.1.p ∧ p.1.p ≤ 1000000000) (fun p => ([DZ.enc (p.1.nx 1), BF.enc p.2.1], .t (.v (.int .i64 (Ac p.1 p.2.1)))))
section
attribute [local go_sem] AI BK A0 A2 BB Zy df Jr S1 Nd lm Int.add_sub_cancel uS sH AS.opn AS.cls AS.nilb AS.renb AS.up Bool.not_false Bool.not_true List.set_set List.set_cons_zero List.set_cons_succ List.set_nil List.mem_singleton forall_eq
set_option maxHeartbeats 1600000 in
theorem rF {G : Gt} (hG : Ah G) : Gd G 53 (AM FS) := by
 refine If (dp := fun _ => true) (fn := Tryz.f53) (n := 2) rfl rfl hG ?_
 rintro ⟨r, n, ⟨⟩⟩ hpre
 simp -implicitDefEqProofs only [Tryz.f53, go_sem, seval] at hpre ⊢
 obtain ⟨h1, h2⟩ := hpre
 try dsimp only at h1 h2
 have g1 := O3 r.b r.p
 have g2 := O3 r.b (r.p % r.b.length)
 have g3 := O3 r.b ((r.p * 7 + 3) % r.b.length)
 by_cases h0 : (r.b.length : Int) = 0
 ·with_reducible repeat' (first | apply ai | intro _ | ((first | apply s1 | apply s3 | apply s4) <;> intro hb <;> simp -implicitDefEqProofs only [hb, go_sem, seval] <;> try simp only [qz] at hb))
  all_goals (try simp only [maxLen, tn] at *)
  all_goals first | rfl | omega | (rw [lp (by omega)]; done) | contradiction
 ·have g4 := Zq (l := r.b.length) h1 (by omega)
  have g5 := sG h1 h2 h0
  have g6 := Int.emod_nonneg r.p h0
  have g7 := Int.emod_lt_of_pos r.p (b := r.b.length) (by omega)
  have g8 := Int.emod_nonneg (r.p * 7 + 3) h0
  have g9 := Int.emod_lt_of_pos (r.p * 7 + 3) (b := r.b.length) (by omega)
  have gx := Zq (l := 64) g5.1 (by decide)
  have gy := tV (x := Lt r.b r.p) (y := Lt r.b r.p / 64) g5.1 (by omega) gx.1 (by omega)
  with_reducible repeat' (first | apply ai | intro _ | ((first | apply s1 | apply s3 | apply s4) <;> intro hb <;> simp -implicitDefEqProofs only [hb, go_sem, seval] <;> try simp only [qz] at hb))
  all_goals (try simp only [maxLen, tn] at *)
  all_goals first | rfl | omega | (rw [lp (by omega)]; done) | with_reducible exact zP (wA (by assumption) (by assumption) (by assumption)) | with_reducible exact zP (wB (by assumption) (by assumption) (by assumption)) | contradiction
end
theorem G6 {x0 x1 x2 x3 : T} : Bn 1 4 [x0, x1, x2, x3] = [[x0], [x1], [x2], [x3]] := rfl
theorem G7 {x0 x1 x2 x3 x4 : T} : Bn 1 5 [x0, x1, x2, x3, x4] = [[x0], [x1], [x2], [x3], [x4]] := rfl
theorem G8 {x0 x1 x2 x3 x4 x5 x6 : T} : Bn 1 7 [x0, x1, x2, x3, x4, x5, x6] = [[x0], [x1], [x2], [x3], [x4], [x5], [x6]] := rfl
theorem Du {x0 x1 x2 x3 x4 x5 x6 x7 x8 x9 x10 : T} : Bn 1 11 [x0, x1, x2, x3, x4, x5, x6, x7, x8, x9, x10] = [[x0], [x1], [x2], [x3], [x4], [x5], [x6], [x7], [x8], [x9], [x10]] := rfl
theorem Dv {x0 x1 x2 x3 x4 x5 x6 x7 x8 x9 x10 x11 : T} : Bn 1 12 [x0, x1, x2, x3, x4, x5, x6, x7, x8, x9, x10, x11] = [[x0], [x1], [x2], [x3], [x4], [x5], [x6], [x7], [x8], [x9], [x10], [x11]] := rfl
theorem BX (r : Rd) (a b : Int) : (r.nx a).nx b = r.nx (a + b) := by unfold Rd.nx; simp only [Int.add_assoc]
theorem BU (r : Rd) : (⟨r.b, r.p⟩ : Rd) = r := rfl
theorem BY (r : Rd) (a b : Int) : r.p + a + b = r.p + (a + b) := Int.add_assoc _ _ _
theorem Fj {a : ByteArray} {t : List (List T)} : Al.decL ([.v (.string a)] :: t) = (Al.decL t).map (a :: ·) := by
 show A7 Al.dec _ = (A7 Al.dec t).map _
 simp only [A7, J9]
 cases A7 Al.dec t <;> rfl
theorem FC {a : Int} {t : List (List T)} : D8.decL ([.v (.int .i64 a)] :: t) = (D8.decL t).map (a :: ·) := by
 show A7 D8.dec _ = (A7 D8.dec t).map _
 simp only [A7, J8]
 cases A7 D8.dec t <;> rfl
def Mb (r : Rd) (l : List ByteArray) : ByteArray := l.getD (Ac r l.length).toNat default
def GQ (r : Rd) (l : List Int) : Int := l.getD (Ac r l.length).toNat default
theorem GR {r : Rd} {l : List ByteArray} (h : 0 ≤ r.p) (h1 : r.p ≤ 1000000000) (hl : 1 ≤ l.length) : Mb r l ∈ l := by
 have := Bq (n := l.length) h h1
 exact AF (by omega)
theorem Hw {r : Rd} {l : List Int} (h : 0 ≤ r.p) (h1 : r.p ≤ 1000000000) (hl : 1 ≤ l.length) : GQ r l ∈ l := by
 have := Bq (n := l.length) h h1
 exact AF (by omega)
def RN : Mt := GN (lc DZ (lc (Al.aow true 1) l0)) (fun p => 0 ≤ p.1.p ∧ p.1.p ≤ 1000000000 ∧ 1 ≤ p.2.1.length ∧ p.2.1.length ≤ 1000) (fun p => ([DZ.enc (p.1.nx 1), (Al.aow true 1).enc p.2.1], .t (.v (.string (Mb p.1 p.2.1)))))
section
attribute [local go_sem] FS AI BK A0 A2 BB BX CJ BU BY lm List.length_append List.length_cons List.length_nil List.map_append List.map_nil Nat.zero_add List.nil_append AS.opn AS.cls AS.nilb AS.renb AS.up Bool.not_false Bool.not_true List.set_set List.set_cons_zero List.set_cons_succ List.set_nil List.mem_singleton forall_eq Aa
set_option maxHeartbeats 800000 in
theorem qh {G : Gt} (hG : Ah G) (hh : G.e 53 = AM FS) : Gd G 30 (AM RN) := by
 refine If (dp := fun _ => true) (fn := Tryz.f30) (n := 2) rfl rfl hG ?_
 rintro ⟨r, l, ⟨⟩⟩ hpre
 simp -implicitDefEqProofs only [Tryz.f30, go_sem, hh, Int.reduceAdd, seval] at hpre ⊢
 obtain ⟨h1, h2, h3, h4⟩ := hpre
 try dsimp only at h1 h2 h3 h4
 have hb := Bq (n := l.length) h1 h2
 with_reducible repeat' (first | apply ai | intro _ | ((first | apply s1 | apply s3 | apply s4) <;> intro hb <;> simp -implicitDefEqProofs only [hb, go_sem, hh, Int.reduceAdd, seval] <;> try simp only [qz] at hb))
 all_goals (try simp only [maxLen, tn] at *)
 all_goals first | rfl | omega | decide | assumption | skip
end
def RO : Mt := GN (lc DZ (lc (D8.aow true 1) l0)) (fun p => 0 ≤ p.1.p ∧ p.1.p ≤ 1000000000 ∧ 1 ≤ p.2.1.length ∧ p.2.1.length ≤ 1000) (fun p => ([DZ.enc (p.1.nx 1), (D8.aow true 1).enc p.2.1], .t (.v (.int .i64 (GQ p.1 p.2.1)))))
section
attribute [local go_sem] FS AI BK A0 A2 BB BX CJ BU BY lm List.length_append List.length_cons List.length_nil List.map_append List.map_nil Nat.zero_add List.nil_append AS.opn AS.cls AS.nilb AS.renb AS.up Bool.not_false Bool.not_true List.set_set List.set_cons_zero List.set_cons_succ List.set_nil List.mem_singleton forall_eq Aa
set_option maxHeartbeats 800000 in
theorem qi {G : Gt} (hG : Ah G) (hh : G.e 53 = AM FS) : Gd G 31 (AM RO) := by
 refine If (dp := fun _ => true) (fn := Tryz.f31) (n := 2) rfl rfl hG ?_
 rintro ⟨r, l, ⟨⟩⟩ hpre
 simp -implicitDefEqProofs only [Tryz.f31, go_sem, hh, Int.reduceAdd, seval] at hpre ⊢
 obtain ⟨h1, h2, h3, h4⟩ := hpre
 try dsimp only at h1 h2 h3 h4
 have hb := Bq (n := l.length) h1 h2
 with_reducible repeat' (first | apply ai | intro _ | ((first | apply s1 | apply s3 | apply s4) <;> intro hb <;> simp -implicitDefEqProofs only [hb, go_sem, hh, Int.reduceAdd, seval] <;> try simp only [qz] at hb))
 all_goals (try simp only [maxLen, tn] at *)
 all_goals first | rfl | omega | decide | assumption | skip
end
def uv : List ByteArray := [⟨#[111, 110, 101, 46, 111, 114, 103]⟩, ⟨#[116, 119, 111, 46, 111, 114, 103]⟩, ⟨#[104, 117, 98, 46, 110, 101, 116]⟩, ⟨#[120, 46, 99, 111, 109]⟩, ⟨#[102, 97, 114, 46, 99, 111, 109]⟩, ⟨#[111, 116, 104, 101, 114, 46, 99, 111, 109]⟩, ⟨#[97, 46, 111, 110, 101, 46, 111, 114, 103]⟩]
def xA : List ByteArray := [⟨#[97]⟩, ⟨#[98]⟩, ⟨#[97, 110, 110]⟩, ⟨#[98, 111, 98, 55]⟩]
def vV : List ByteArray := [⟨#[104, 101, 108, 108, 111]⟩, ⟨#[]⟩, ⟨#[46]⟩, ⟨#[46, 46]⟩, ⟨#[46, 100, 111, 116]⟩, ⟨#[97, 32, 108, 111, 110, 103, 101, 114, 32, 108, 105, 110, 101, 32, 111, 102, 32, 116, 101, 120, 116]⟩, ⟨#[72, 111, 112, 58, 32, 111, 110, 101, 46, 111, 114, 103]⟩, ⟨#[72, 111, 112, 58, 32]⟩, ⟨#[73, 100, 58, 32, 55]⟩, ⟨#[110, 111, 116, 32, 100, 101, 108, 105, 118, 101, 114, 101, 100, 58]⟩, ⟨#[60, 97, 64, 111, 110, 101, 46, 111, 114, 103, 62]⟩, ⟨#[108, 105, 110, 101, 32, 116, 104, 97, 116, 32, 105, 115, 32, 101, 120, 97, 99, 116, 108, 121, 32, 102, 111, 114, 116, 121, 32, 98, 121, 116, 101, 115, 32, 108, 111, 110, 103, 46, 46, 33]⟩]
def uw (r : Rd) : ByteArray := Mb r uv
def im (r : Rd) : ByteArray := Mb r vV
def EA (r : Rd) : Ad := ⟨Mb r xA, uw (r.nx 1)⟩
def B7 (r : Rd) : Ad × Rd :=
 if Ac (r.nx 2) 10 = 0 then (⟨Mb (r.nx 3) [⟨#[]⟩, ⟨#[65]⟩, ⟨#[116, 111, 111, 108, 111, 110, 103, 110, 97, 109, 101]⟩, ⟨#[97, 64, 98]⟩], (EA r).domain⟩, r.nx 4)
 else if Ac (r.nx 2) 10 = 1 then (⟨(EA r).user, Mb (r.nx 3) [⟨#[]⟩, ⟨#[97, 46, 46, 98]⟩, ⟨#[46, 97]⟩, ⟨#[97, 46, 98, 46, 99, 46, 100]⟩, ⟨#[85, 112, 46, 111, 114, 103]⟩]⟩, r.nx 4)
 else if Ac (r.nx 2) 10 = 2 then (⟨⟨#[]⟩, ⟨#[]⟩⟩, r.nx 3)
 else (EA r, r.nx 3)
def nL : Mt := GN (lc DZ l0) (fun p => 0 ≤ p.1.p ∧ p.1.p ≤ 999999990) (fun p => ([DZ.enc (p.1.nx 1)], .t (.v (.string (uw p.1)))))
section
attribute [local go_sem] RN AI BK A0 A2 BB BX CJ BU BY lm List.length_append List.length_cons List.length_nil List.map_append List.map_nil Nat.zero_add List.nil_append AS.opn AS.cls AS.nilb AS.renb AS.up Bool.not_false Bool.not_true List.set_set List.set_cons_zero List.set_cons_succ List.set_nil List.mem_singleton forall_eq Fj G6 G7 G8 Du Dv
set_option maxHeartbeats 800000 in
theorem fG {G : Gt} (hG : Ah G) (hh : G.e 30 = AM RN) : Gd G 104 (AM nL) := by
 refine If (dp := fun _ => true) (fn := Tryz.f104) (n := 1) rfl rfl hG ?_
 rintro ⟨r, ⟨⟩⟩ hpre
 simp -implicitDefEqProofs only [Tryz.f104, go_sem, hh, Int.reduceAdd, seval] at hpre ⊢
 obtain ⟨h1, h2⟩ := hpre
 try dsimp only at h1 h2
 with_reducible repeat' (first | apply ai | intro _ | ((first | apply s1 | apply s3 | apply s4) <;> intro hb <;> simp -implicitDefEqProofs only [hb, go_sem, hh, Int.reduceAdd, seval] <;> try simp only [qz] at hb))
 all_goals (try simp only [maxLen, tn] at *)
 all_goals first | rfl | omega | decide | assumption | skip
end
def oC : Mt := GN (lc DZ l0) (fun p => 0 ≤ p.1.p ∧ p.1.p ≤ 999999990) (fun p => ([DZ.enc (p.1.nx 1)], .t (.v (.string (im p.1)))))
section
attribute [local go_sem] RN AI BK A0 A2 BB BX CJ BU BY lm List.length_append List.length_cons List.length_nil List.map_append List.map_nil Nat.zero_add List.nil_append AS.opn AS.cls AS.nilb AS.renb AS.up Bool.not_false Bool.not_true List.set_set List.set_cons_zero List.set_cons_succ List.set_nil List.mem_singleton forall_eq Fj G6 G7 G8 Du Dv
set_option maxHeartbeats 800000 in
theorem gW {G : Gt} (hG : Ah G) (hh : G.e 30 = AM RN) : Gd G 173 (AM oC) := by
 refine If (dp := fun _ => true) (fn := Tryz.f173) (n := 1) rfl rfl hG ?_
 rintro ⟨r, ⟨⟩⟩ hpre
 simp -implicitDefEqProofs only [Tryz.f173, go_sem, hh, Int.reduceAdd, seval] at hpre ⊢
 obtain ⟨h1, h2⟩ := hpre
 try dsimp only at h1 h2
 with_reducible repeat' (first | apply ai | intro _ | ((first | apply s1 | apply s3 | apply s4) <;> intro hb <;> simp -implicitDefEqProofs only [hb, go_sem, hh, Int.reduceAdd, seval] <;> try simp only [qz] at hb))
 all_goals (try simp only [maxLen, tn] at *)
 all_goals first | rfl | omega | decide | assumption | skip
end
def o9 : Mt := GN (lc DZ l0) (fun p => 0 ≤ p.1.p ∧ p.1.p ≤ 999999980) (fun p => ([DZ.enc (p.1.nx 2)], .agg [.t (.v (.string (EA p.1).user)), .t (.v (.string (EA p.1).domain))]))
section
attribute [local go_sem] RN nL AI BK A0 A2 BB BX CJ BU BY lm List.length_append List.length_cons List.length_nil List.map_append List.map_nil Nat.zero_add List.nil_append AS.opn AS.cls AS.nilb AS.renb AS.up Bool.not_false Bool.not_true List.set_set List.set_cons_zero List.set_cons_succ List.set_nil List.mem_singleton forall_eq Fj G6 G7 G8 Du Dv
set_option maxHeartbeats 800000 in
theorem rG {G : Gt} (hG : Ah G) (hh : G.e 30 = AM RN ∧ G.e 104 = AM nL) : Gd G 55 (AM o9) := by
 refine If (dp := fun _ => true) (fn := Tryz.f55) (n := 1) rfl rfl hG ?_
 rintro ⟨r, ⟨⟩⟩ hpre
 simp -implicitDefEqProofs only [Tryz.f55, go_sem, hh, Int.reduceAdd, seval] at hpre ⊢
 obtain ⟨h1, h2⟩ := hpre
 try dsimp only at h1 h2
 with_reducible repeat' (first | apply ai | intro _ | ((first | apply s1 | apply s3 | apply s4) <;> intro hb <;> simp -implicitDefEqProofs only [hb, go_sem, hh, Int.reduceAdd, seval] <;> try simp only [qz] at hb))
 all_goals (try simp only [maxLen, tn] at *)
 all_goals first | rfl | omega | decide | assumption | skip
end
theorem Tv {r : Rd} (h : Ac (r.nx 2) 10 = 0) : B7 r = (⟨Mb (r.nx 3) [⟨#[]⟩, ⟨#[65]⟩, ⟨#[116, 111, 111, 108, 111, 110, 103, 110, 97, 109, 101]⟩, ⟨#[97, 64, 98]⟩], (EA r).domain⟩, r.nx 4) := if_pos h
theorem Tw {r : Rd} (h0 : ¬ Ac (r.nx 2) 10 = 0) (h : Ac (r.nx 2) 10 = 1) : B7 r = (⟨(EA r).user, Mb (r.nx 3) [⟨#[]⟩, ⟨#[97, 46, 46, 98]⟩, ⟨#[46, 97]⟩, ⟨#[97, 46, 98, 46, 99, 46, 100]⟩, ⟨#[85, 112, 46, 111, 114, 103]⟩]⟩, r.nx 4) := by unfold B7; rw [if_neg h0, if_pos h]
theorem Tx {r : Rd} (h0 : ¬ Ac (r.nx 2) 10 = 0) (h1 : ¬ Ac (r.nx 2) 10 = 1) (h : Ac (r.nx 2) 10 = 2) : B7 r = (⟨⟨#[]⟩, ⟨#[]⟩⟩, r.nx 3) := by unfold B7; rw [if_neg h0, if_neg h1, if_pos h]
theorem Tz {r : Rd} (h0 : ¬ Ac (r.nx 2) 10 = 0) (h1 : ¬ Ac (r.nx 2) 10 = 1) (h : ¬ Ac (r.nx 2) 10 = 2) : B7 r = (EA r, r.nx 3) := by unfold B7; rw [if_neg h0, if_neg h1, if_neg h]
def Yw : Mt := GN (lc DZ l0) (fun p => 0 ≤ p.1.p ∧ p.1.p ≤ 999999950) (fun p => ([DZ.enc (B7 p.1).2], .agg [.t (.v (.string (B7 p.1).1.user)), .t (.v (.string (B7 p.1).1.domain))]))
section
attribute [local go_sem] o9 FS RN AI BK A0 A2 BB BX CJ BU BY lm List.length_append List.length_cons List.length_nil List.map_append List.map_nil Nat.zero_add List.nil_append AS.opn AS.cls AS.nilb AS.renb AS.up Bool.not_false Bool.not_true List.set_set List.set_cons_zero List.set_cons_succ List.set_nil List.mem_singleton forall_eq Fj G6 G7 G8 Du Dv
set_option maxHeartbeats 1600000 in
theorem fE {G : Gt} (hG : Ah G) (hh : G.e 55 = AM o9 ∧ G.e 53 = AM FS ∧ G.e 30 = AM RN) : Gd G 101 (AM Yw) := by
 refine If (dp := fun _ => true) (fn := Tryz.f101) (n := 1) rfl rfl hG ?_
 rintro ⟨r, ⟨⟩⟩ hpre
 obtain ⟨h1, h2⟩ := hpre
 try dsimp only at h1 h2 ⊢
 by_cases q0 : Ac (r.nx 2) 10 = 0
 ·rw [Tv q0]
  simp -implicitDefEqProofs only [Tryz.f101, q0, eq_self, decide_true, decide_false, go_sem, hh, Int.reduceAdd, seval]
  with_reducible repeat' (first | apply ai | intro _ | ((first | apply s1 | apply s3 | apply s4) <;> intro hb <;> simp -implicitDefEqProofs only [hb, go_sem, hh, Int.reduceAdd, seval] <;> try simp only [qz] at hb))
  all_goals (try simp only [maxLen, tn] at *)
  all_goals first | rfl | omega | decide | assumption | skip
 ·by_cases q1 : Ac (r.nx 2) 10 = 1
  ·rw [Tw q0 q1]
   simp -implicitDefEqProofs only [Tryz.f101, q1, Int.reduceEq, eq_self, decide_true, decide_false, go_sem, hh, Int.reduceAdd, seval]
   with_reducible repeat' (first | apply ai | intro _ | ((first | apply s1 | apply s3 | apply s4) <;> intro hb <;> simp -implicitDefEqProofs only [hb, go_sem, hh, Int.reduceAdd, seval] <;> try simp only [qz] at hb))
   all_goals (try simp only [maxLen, tn] at *)
   all_goals first | rfl | omega | decide | assumption | skip
  ·by_cases q2 : Ac (r.nx 2) 10 = 2
   ·rw [Tx q0 q1 q2]
    simp -implicitDefEqProofs only [Tryz.f101, q2, Int.reduceEq, eq_self, decide_true, decide_false, go_sem, hh, Int.reduceAdd, seval]
    with_reducible repeat' (first | apply ai | intro _ | ((first | apply s1 | apply s3 | apply s4) <;> intro hb <;> simp -implicitDefEqProofs only [hb, go_sem, hh, Int.reduceAdd, seval] <;> try simp only [qz] at hb))
    all_goals (try simp only [maxLen, tn] at *)
    all_goals first | rfl | omega | decide | assumption | skip
   ·rw [Tz q0 q1 q2]
    simp -implicitDefEqProofs only [Tryz.f101, q0, q1, q2, eq_self, decide_true, decide_false, go_sem, hh, Int.reduceAdd, seval]
    with_reducible repeat' (first | apply ai | intro _ | ((first | apply s1 | apply s3 | apply s4) <;> intro hb <;> simp -implicitDefEqProofs only [hb, go_sem, hh, Int.reduceAdd, seval] <;> try simp only [qz] at hb))
    all_goals (try simp only [maxLen, tn] at *)
    all_goals first | rfl | omega | decide | assumption | skip
end
def Ll (r : Rd) (n : Nat) : List ByteArray := (List.range n).map fun (j : Nat) => im (r.nx (j : Int))
theorem nH (r : Rd) (n : Nat) : Ll r (n + 1) = Ll r n ++ [im (r.nx n)] := by
 unfold Ll; rw [List.range_succ, List.map_append]; rfl
theorem Oz (r : Rd) (n : Nat) : (Ll r n).length = n := by unfold Ll; simp
def Hh (r : Rd) (m : Int) : List ByteArray := Ll (r.nx 1) (Ac r (m + 1)).toNat
def KU (r : Rd) (m : Int) : Rd := r.nx (1 + Ac r (m + 1))
def Y2 : Mt := GN (lc DZ (lc BF l0)) (fun p => 0 ≤ p.1.p ∧ p.1.p ≤ 999999000 ∧ 0 ≤ p.2.1 ∧ p.2.1 ≤ 100) (fun p => ([DZ.enc (KU p.1 p.2.1), BF.enc p.2.1], .o true 1 ((Hh p.1 p.2.1).map AG)))
section
attribute [local go_sem] FS oC AI BK A0 A2 BB BX CJ BU BY lm List.length_append List.length_cons List.length_nil List.map_append List.map_nil Nat.zero_add List.nil_append AS.opn AS.cls AS.nilb AS.renb AS.up Bool.not_false Bool.not_true List.set_set List.set_cons_zero List.set_cons_succ List.set_nil List.mem_singleton forall_eq
set_option maxHeartbeats 1600000 in
theorem fx {G : Gt} (hG : Ah G) (hh : G.e 53 = AM FS ∧ G.e 173 = AM oC) : Gd G 144 (AM Y2) := by
 refine If (dp := fun _ => true) (fn := Tryz.f144) (n := 2) rfl rfl hG ?_
 rintro ⟨r, m, ⟨⟩⟩ hpre
 simp -implicitDefEqProofs only [Tryz.f144, go_sem, hh, Int.reduceAdd, seval] at hpre ⊢
 obtain ⟨h1, h2, h3, h4⟩ := hpre
 try dsimp only at h1 h2 h3 h4
 have hb := Bq (n := m + 1) h1 (by omega)
 obtain ⟨n, hn⟩ : ∃ n : Nat, n = (Ac r (m + 1)).toNat := ⟨_, rfl⟩
 have hn2 : Ac r (m + 1) = n := by omega
 have e1 : KU r m = r.nx (1 + n) := by unfold KU; rw [hn2]
 have e2 : Hh r m = Ll (r.nx 1) n := by unfold Hh; rw [← hn]
 rw [e1, e2]
 simp -implicitDefEqProofs only [hn2, go_sem, hh, Int.reduceAdd, seval]
 with_reducible repeat' (first | apply ai | intro _ | ((first | apply s1 | apply s3 | apply s4) <;> intro hb <;> simp -implicitDefEqProofs only [hb, go_sem, hh, Int.reduceAdd, seval] <;> try simp only [qz] at hb))
 all_goals (try simp only [maxLen, tn] at *)
 all_goals first | rfl | omega | decide | assumption | skip
 refine AE [(5, 1905, true, 1)] (ι := {i : Nat // i ≤ n}) (fun p => ⟨[(0, .pb 1900 0), (5, .h 1905), (6, .t (.v (.int .i64 (n - p.1))))], [(1900, some (.box [.t (.sl 1 (r.b.map CH)), .t (.v (.int .i64 (r.p + (1 + p.1))))])), (1905, some (.arr true 1 ((Ll (r.nx 1) p.1).map AG)))]⟩) (fun p => n - p.1) ⟨0, by simp⟩ rfl ?_ ?_
 ·simp -implicitDefEqProofs only [go_sem, hh, Int.reduceAdd, seval]
  simp [Ll]
 ·rintro ⟨i, hi⟩
  have hlen := Oz (r.nx 1) i
  by_cases hlt : (n : Int) - i > 0
  ·simp -implicitDefEqProofs only [hlt, decide_true, tn, go_sem, hh, Int.reduceAdd, seval]
   with_reducible repeat' (first | apply ai | intro _ | ((first | apply s1 | apply s3 | apply s4) <;> intro hb <;> simp -implicitDefEqProofs only [hb, go_sem, hh, Int.reduceAdd, seval] <;> try simp only [qz] at hb))
   all_goals (try simp only [maxLen, tn] at *)
   all_goals first | rfl | omega | decide | assumption | skip
   refine ⟨⟨i + 1, by omega⟩, by dsimp only; omega, ?_⟩
   simp -implicitDefEqProofs only [nH, go_sem, hh, Int.reduceAdd, seval]
   try simp
   omega
  ·have hz : i = n := by omega
   subst hz
   simp -implicitDefEqProofs only [hlt, decide_false, go_sem, hh, Int.reduceAdd, seval]
   with_reducible repeat' (first | apply ai | intro _ | ((first | apply s1 | apply s3 | apply s4) <;> intro hb <;> simp -implicitDefEqProofs only [hb, go_sem, hh, Int.reduceAdd, seval] <;> try simp only [qz] at hb))
   all_goals (try simp only [maxLen, tn] at *)
   all_goals first | rfl | omega | decide | assumption | skip
end
def sM : Ad := ⟨⟨#[]⟩, ⟨#[]⟩⟩
def DY (r : Rd) : Nat → List Ad
 | 0 => []
 | k + 1 => if EA (r.nx (2 * (k : Int))) ∈ DY r k then DY r k else DY r k ++ [EA (r.nx (2 * (k : Int)))]
theorem mG {r : Rd} {k : Nat} (h : EA (r.nx (2 * (k : Int))) ∈ DY r k) : DY r (k + 1) = DY r k := if_pos h
theorem mF {r : Rd} {k : Nat} (h : ¬ EA (r.nx (2 * (k : Int))) ∈ DY r k) : DY r (k + 1) = DY r k ++ [EA (r.nx (2 * (k : Int)))] := if_neg h
theorem J6 (r : Rd) : ∀ k, (DY r k).length ≤ k
 | 0 => Nat.le_refl _
 | k + 1 => by
   have := J6 r k
   unfold DY; split
   ·omega
   ·rw [List.length_append]; simp; omega
theorem Iy (r : Rd) : ∀ k, (DY r k).Nodup
 | 0 => List.nodup_nil
 | k + 1 => by
   unfold DY; split
   ·exact Iy r k
   ·rename_i h
    rw [List.nodup_append]
    exact ⟨Iy r k, by simp, fun a ha b hb e => h (by rw [List.mem_singleton.1 hb] at e; rw [← e]; exact ha)⟩
theorem N2 {r : Rd} {a : Ad} : ∀ {k : Nat}, a ∈ DY r k → ∃ j, j < k ∧ a = EA (r.nx (2 * (j : Int)))
 | k + 1, h => by
   unfold DY at h; split at h
   ·obtain ⟨j, hj, e⟩ := N2 h
    exact ⟨j, by omega, e⟩
   ·rcases List.mem_append.1 h with h | h
    ·obtain ⟨j, hj, e⟩ := N2 h
     exact ⟨j, by omega, e⟩
    ·exact ⟨k, by omega, List.mem_singleton.1 h⟩
theorem tL (r : Rd) (k : Nat) : 1 ≤ (DY r (k + 1)).length := by
 unfold DY; split
 ·rename_i h
  have := List.length_pos_of_mem h
  omega
 ·try simp
def VH (r : Rd) : Int := GQ (r.nx 2) [1, 4, 9]
def Aw (r : Rd) : Rd := KU (r.nx 3) (VH r)
def JU (r : Rd) : Int := 1 + Ac ((Aw r).nx 1) 4
def MX (r : Rd) : Ad := if Ac (Aw r) 5 = 0 then sM else EA r
def Ge (r : Rd) : Ml := ⟨MX r, DY ((Aw r).nx 2) (JU r).toNat, Hh (r.nx 3) (VH r)⟩
def Fu (r : Rd) : Rd := (Aw r).nx (2 + 2 * JU r)
theorem bE {r : Rd} (h : 0 ≤ r.p) (h1 : r.p ≤ 999999900) : 1 ≤ VH r ∧ VH r ≤ 9 := by
 have := Hw (r := r.nx 2) (l := [1, 4, 9]) (by rw [AI]; omega) (by rw [AI]; omega) (by decide)
 unfold VH
 simp only [List.mem_cons, List.not_mem_nil, or_false] at this
 omega
theorem Yq {r : Rd} {m : Int} (h : 0 ≤ r.p) (h1 : r.p ≤ 999999950) (h2 : 0 ≤ m) : (KU r m).b = r.b ∧ r.p + 1 ≤ (KU r m).p ∧ (KU r m).p ≤ r.p + 1 + m := by
 have := Bq (r := r) (n := m + 1) h (by omega)
 unfold KU
 rw [AI, BK]
 exact ⟨rfl, by omega, by omega⟩
theorem Nh {r : Rd} (h : 0 ≤ r.p) (h1 : r.p ≤ 999999900) : (Aw r).b = r.b ∧ r.p + 4 ≤ (Aw r).p ∧ (Aw r).p ≤ r.p + 13 := by
 have h2 := bE h h1
 have h3 := Yq (r := r.nx 3) (m := VH r) (by rw [AI]; omega) (by rw [AI]; omega) (by omega)
 rw [AI, BK] at h3
 unfold Aw
 exact ⟨h3.1, by omega, by omega⟩
theorem bD {r : Rd} (h : 0 ≤ r.p) (h1 : r.p ≤ 999999900) : 1 ≤ JU r ∧ JU r ≤ 4 := by
 have h2 := Nh h h1
 have h3 := Bq (r := (Aw r).nx 1) (n := 4) (by rw [AI]; omega) (by rw [AI]; omega)
 unfold JU
 omega
theorem VI {r : Rd} (h : 0 ≤ r.p) (h1 : r.p ≤ 999999900) : (Fu r).b = r.b ∧ r.p + 4 ≤ (Fu r).p ∧ (Fu r).p ≤ r.p + 23 := by
 have h2 := Nh h h1
 have h3 := bD h h1
 unfold Fu
 rw [AI, BK]
 exact ⟨h2.1, by omega, by omega⟩
theorem zI {a b : Ad} : ((decide (a.user = b.user) && decide (a.domain = b.domain)) = true) = (a = b) := by
 rw [CA]; simp
theorem zJ {a b : Ad} : ((decide (a.user = b.user) && decide (a.domain = b.domain)) = false) = ¬ a = b := by
 rw [CA]; simp
theorem vc {r : Rd} : GQ (r.nx 2) [1, 4, 9] = VH r := rfl
theorem sI {r : Rd} : KU (r.nx 3) (VH r) = Aw r := rfl
theorem vb {r : Rd} : 1 + Ac ((Aw r).nx 1) 4 = JU r := rfl
def RE : Mt := GN (lc DZ l0) (fun p => 0 ≤ p.1.p ∧ p.1.p ≤ 999998000) (fun p => ([DZ.enc (Fu p.1)], QJ (Ge p.1)))
section
attribute [local go_sem] o9 RO Y2 FS AI BK A0 A2 BB BX CJ BU BY lm List.length_append List.length_cons List.length_nil List.map_append List.map_nil Nat.zero_add List.nil_append AS.opn AS.cls AS.nilb AS.renb AS.up Bool.not_false Bool.not_true List.set_set List.set_cons_zero List.set_cons_succ List.set_nil List.mem_singleton forall_eq FC vc sI vb Aa G6 G7 G8 Du Dv
set_option maxHeartbeats 3200000 in
theorem fL {G : Gt} (hG : Ah G) (hh : G.e 55 = AM o9 ∧ G.e 31 = AM RO ∧ G.e 144 = AM Y2 ∧ G.e 53 = AM FS) : Gd G 110 (AM RE) := by
 refine If (dp := fun n => !(Nat.beq n 100004 || Nat.beq n 100006)) (fn := Tryz.f110) (n := 1) rfl rfl hG ?_
 rintro ⟨r, ⟨⟩⟩ hpre
 obtain ⟨h1, h2⟩ := hpre
 try dsimp only at h1 h2 ⊢
 have f1 := bE h1 (by omega)
 have f2 := Nh h1 (by omega)
 have f3 := bD h1 (by omega)
 by_cases q : Ac (Aw r) 5 = 0
 ·have hf : MX r = sM := if_pos q
  simp -implicitDefEqProofs only [Tryz.f110, q, eq_self, decide_true, go_sem, hh, Int.reduceAdd, seval]
  with_reducible repeat' (first | apply ai | intro _ | ((first | apply s1 | apply s3 | apply s4) <;> intro hb <;> simp -implicitDefEqProofs only [hb, go_sem, hh, Int.reduceAdd, seval] <;> try simp only [qz] at hb))
  all_goals (try simp only [maxLen, tn] at *)
  all_goals first | rfl | omega | decide | assumption | skip
  refine Ag (Le.nilb 1003 2 1907 true 2 rfl rfl rfl) (AY ?_)
  simp -implicitDefEqProofs only [go_sem, hh, Int.reduceAdd, seval]
  with_reducible repeat' (first | apply ai | intro _ | ((first | apply s1 | apply s3 | apply s4) <;> intro hb <;> simp -implicitDefEqProofs only [hb, go_sem, hh, Int.reduceAdd, seval] <;> try simp only [qz] at hb))
  all_goals (try simp only [maxLen, tn] at *)
  all_goals first | rfl | omega | decide | assumption | skip
  refine AE [] (ι := {i : Nat // (i : Int) ≤ JU r}) (fun ⟨i, _⟩ => ⟨[(0, .pb 1900 0), (2, .pb 1002 0), (3, .pb 1003 0), (4, .t (.v (.int .i64 (JU r - i))))], [(1900, some (.box [.t (.sl 1 ((Aw r).b.map CH)), .t (.v (.int .i64 ((Aw r).p + (2 + 2 * i))))])), (1002, some (.box [.t (.v (.string ⟨#[]⟩)), .t (.v (.string ⟨#[]⟩)), .nil, .nil])), (1003, some (.box [.t (.v (.string ⟨#[]⟩)), .t (.v (.string ⟨#[]⟩)), .h 1907, .h 1014])), (1014, some (.arr true 1 ((Hh (r.nx 3) (VH r)).map AG))), (1907, some (.arr true 2 ((DY ((Aw r).nx 2) i).map Am)))]⟩) (fun p => (JU r).toNat - p.1) ⟨0, by omega⟩ rfl ?_ ?_
  ·simp -implicitDefEqProofs only [go_sem, hh, Int.reduceAdd, seval]
   simp [DY]
  ·rintro ⟨i, hi⟩
   dsimp only
   have hlen := J6 ((Aw r).nx 2) i
   by_cases hlt : JU r - (i : Int) > 0
   ·simp -implicitDefEqProofs only [hlt, decide_true, tn, go_sem, hh, Int.reduceAdd, seval]
    with_reducible repeat' (first | apply ai | intro _ | ((first | apply s1 | apply s3 | apply s4) <;> intro hb <;> simp -implicitDefEqProofs only [hb, go_sem, hh, Int.reduceAdd, seval] <;> try simp only [qz] at hb))
    all_goals (try simp only [maxLen, tn] at *)
    all_goals first | rfl | omega | decide | assumption | skip
    refine AE [] (ι := {p : Nat × Bool // p.1 ≤ (DY ((Aw r).nx 2) i).length ∧ (p.2 = true ↔ ∃ j, j < p.1 ∧ (DY ((Aw r).nx 2) i).getD j default = (EA ((Aw r).nx (2 + 2 * (i : Int)))))}) (fun ⟨⟨k, b⟩, _⟩ => ⟨[(0, .pb 1900 0), (2, .pb 1002 0), (3, .pb 1003 0), (4, .t (.v (.int .i64 (JU r - i)))), (5, .pb 1005 0), (6, .t (.v (.bool b))), (7, .t (.v (.int .i64 k)))], [(1900, some (.box [.t (.sl 1 ((Aw r).b.map CH)), .t (.v (.int .i64 ((Aw r).p + (4 + 2 * i))))])), (1002, some (.box [.t (.v (.string ⟨#[]⟩)), .t (.v (.string ⟨#[]⟩)), .nil, .nil])), (1003, some (.box [.t (.v (.string ⟨#[]⟩)), .t (.v (.string ⟨#[]⟩)), .h 1907, .h 1014])), (1005, some (.box ((Am (EA ((Aw r).nx (2 + 2 * (i : Int))))).map .t))), (1014, some (.arr true 1 ((Hh (r.nx 3) (VH r)).map AG))), (1907, some (.arr true 2 ((DY ((Aw r).nx 2) i).map Am)))]⟩) (fun p => (DY ((Aw r).nx 2) i).length - p.1.1) ⟨(0, false), by simp, by simp⟩ rfl ?_ ?_
    ·simp -implicitDefEqProofs only [go_sem, hh, Int.reduceAdd, seval]
     try simp
     try omega
    ·rintro ⟨⟨k, b⟩, hk, hb2⟩
     dsimp only at hk hb2 ⊢
     by_cases hlt2 : (k : Int) < (DY ((Aw r).nx 2) i).length
     ·cases b
      ·have hn : ¬ ∃ j, j < k ∧ (DY ((Aw r).nx 2) i).getD j default = (EA ((Aw r).nx (2 + 2 * (i : Int)))) := fun z => by have := hb2.2 z; cases this
       simp -implicitDefEqProofs only [hlt2, decide_true, tn, go_sem, hh, Int.reduceAdd, seval]
       with_reducible repeat' (first | apply ai | intro _ | ((first | apply s1 | apply s3 | apply s4) <;> intro hb <;> simp -implicitDefEqProofs only [hb, go_sem, hh, Int.reduceAdd, seval] <;> try simp only [qz] at hb))
       all_goals (try simp only [maxLen, tn, zI, zJ] at *)
       all_goals first | rfl | omega | decide | assumption | skip
       refine ⟨⟨(k + 1, decide ((DY ((Aw r).nx 2) i).getD k default = (EA ((Aw r).nx (2 + 2 * (i : Int)))))), by dsimp only; omega, by dsimp only; rw [decide_eq_true_eq]; exact ⟨fun z => ⟨k, by omega, z⟩, fun ⟨j, hj, z⟩ => by by_cases e : j = k; (rw [← e]; exact z); (exact absurd ⟨j, by omega, z⟩ hn)⟩⟩, by dsimp only; omega, ?_⟩
       simp -implicitDefEqProofs only [go_sem, hh, Int.reduceAdd, seval]
       simp [CA]
      ·have hn : ∃ j, j < k ∧ (DY ((Aw r).nx 2) i).getD j default = (EA ((Aw r).nx (2 + 2 * (i : Int)))) := hb2.1 rfl
       simp -implicitDefEqProofs only [hlt2, decide_true, tn, go_sem, hh, Int.reduceAdd, seval]
       with_reducible repeat' (first | apply ai | intro _ | ((first | apply s1 | apply s3 | apply s4) <;> intro hb <;> simp -implicitDefEqProofs only [hb, go_sem, hh, Int.reduceAdd, seval] <;> try simp only [qz] at hb))
       all_goals (try simp only [maxLen, tn] at *)
       all_goals first | rfl | omega | decide | assumption | skip
       refine ⟨⟨(k + 1, true), by dsimp only; omega, by dsimp only; exact ⟨fun _ => hn.elim fun j z => ⟨j, by omega, z.2⟩, fun _ => rfl⟩⟩, by dsimp only; omega, ?_⟩
       simp -implicitDefEqProofs only [go_sem, hh, Int.reduceAdd, seval]
       try simp
     ·have hE : b = true ↔ (EA ((Aw r).nx (2 + 2 * (i : Int)))) ∈ DY ((Aw r).nx 2) i := hb2.trans ⟨fun ⟨j, hj, z⟩ => z ▸ AF (by omega), fun z => Classical.byContradiction fun f => by
        have := BO (P := fun x : Ad => ¬ x = (EA ((Aw r).nx (2 + 2 * (i : Int))))) (xs := DY ((Aw r).nx 2) i) (fun j hj e => f ⟨j, by omega, e⟩) _ z
        exact this rfl⟩
      cases b
      ·have hm : ¬ EA (((Aw r).nx 2).nx (2 * (i : Int))) ∈ DY ((Aw r).nx 2) i := fun z => by rw [BX] at z; have := hE.2 z; cases this
       have hs := mF hm
       simp -implicitDefEqProofs only [hlt2, decide_false, go_sem, hh, Int.reduceAdd, seval]
       with_reducible repeat' (first | apply ai | intro _ | ((first | apply s1 | apply s3 | apply s4) <;> intro hb <;> simp -implicitDefEqProofs only [hb, go_sem, hh, Int.reduceAdd, seval] <;> try simp only [qz] at hb))
       all_goals (try simp only [maxLen, tn] at *)
       all_goals first | rfl | omega | decide | assumption | skip
       refine Ag (Le.renb 1003 2 1053 1907 rfl rfl rfl rfl) (AY ?_)
       simp -implicitDefEqProofs only [go_sem, hh, Int.reduceAdd, seval]
       with_reducible repeat' (first | apply ai | intro _ | ((first | apply s1 | apply s3 | apply s4) <;> intro hb <;> simp -implicitDefEqProofs only [hb, go_sem, hh, Int.reduceAdd, seval] <;> try simp only [qz] at hb))
       all_goals (try simp only [maxLen, tn] at *)
       all_goals first | rfl | omega | decide | assumption | skip
       refine ⟨⟨i + 1, by omega⟩, by dsimp only; omega, ?_⟩
       simp -implicitDefEqProofs only [hs, go_sem, hh, Int.reduceAdd, seval]
       simp [Fk, BX]
       try omega
      ·have hm : EA (((Aw r).nx 2).nx (2 * (i : Int))) ∈ DY ((Aw r).nx 2) i := by rw [BX]; exact hE.1 rfl
       have hs := mG hm
       simp -implicitDefEqProofs only [hlt2, decide_false, go_sem, hh, Int.reduceAdd, seval]
       with_reducible repeat' (first | apply ai | intro _ | ((first | apply s1 | apply s3 | apply s4) <;> intro hb <;> simp -implicitDefEqProofs only [hb, go_sem, hh, Int.reduceAdd, seval] <;> try simp only [qz] at hb))
       all_goals (try simp only [maxLen, tn] at *)
       all_goals first | rfl | omega | decide | assumption | skip
       refine AY ?_
       simp -implicitDefEqProofs only [go_sem, hh, Int.reduceAdd, seval]
       with_reducible repeat' (first | apply ai | intro _ | ((first | apply s1 | apply s3 | apply s4) <;> intro hb <;> simp -implicitDefEqProofs only [hb, go_sem, hh, Int.reduceAdd, seval] <;> try simp only [qz] at hb))
       all_goals (try simp only [maxLen, tn] at *)
       all_goals first | rfl | omega | decide | assumption | skip
       refine ⟨⟨i + 1, by omega⟩, by dsimp only; omega, ?_⟩
       simp -implicitDefEqProofs only [hs, go_sem, hh, Int.reduceAdd, seval]
       try simp
       try omega
   ·have hz : (i : Int) = JU r := by omega
    have hz2 : (JU r).toNat = i := by omega
    have e1 : Fu r = (Aw r).nx (2 + 2 * (i : Int)) := by unfold Fu; rw [hz]
    have e2 : Ge r = ⟨sM, DY ((Aw r).nx 2) i, Hh (r.nx 3) (VH r)⟩ := by unfold Ge; rw [hf, hz2]
    rw [e1, e2]
    simp -implicitDefEqProofs only [hlt, decide_false, go_sem, hh, Int.reduceAdd, seval]
    with_reducible repeat' (first | apply ai | intro _ | ((first | apply s1 | apply s3 | apply s4) <;> intro hb <;> simp -implicitDefEqProofs only [hb, go_sem, hh, Int.reduceAdd, seval] <;> try simp only [qz] at hb))
    all_goals (try simp only [maxLen, tn] at *)
    all_goals first | rfl | omega | decide | assumption | skip
 ·have hf : MX r = EA r := if_neg q
  simp -implicitDefEqProofs only [Tryz.f110, q, decide_false, go_sem, hh, Int.reduceAdd, seval]
  with_reducible repeat' (first | apply ai | intro _ | ((first | apply s1 | apply s3 | apply s4) <;> intro hb <;> simp -implicitDefEqProofs only [hb, go_sem, hh, Int.reduceAdd, seval] <;> try simp only [qz] at hb))
  all_goals (try simp only [maxLen, tn] at *)
  all_goals first | rfl | omega | decide | assumption | skip
  refine Ag (Le.nilb 1003 2 1907 true 2 rfl rfl rfl) (AY ?_)
  simp -implicitDefEqProofs only [go_sem, hh, Int.reduceAdd, seval]
  with_reducible repeat' (first | apply ai | intro _ | ((first | apply s1 | apply s3 | apply s4) <;> intro hb <;> simp -implicitDefEqProofs only [hb, go_sem, hh, Int.reduceAdd, seval] <;> try simp only [qz] at hb))
  all_goals (try simp only [maxLen, tn] at *)
  all_goals first | rfl | omega | decide | assumption | skip
  refine AE [] (ι := {i : Nat // (i : Int) ≤ JU r}) (fun ⟨i, _⟩ => ⟨[(0, .pb 1900 0), (2, .pb 1002 0), (3, .pb 1003 0), (4, .t (.v (.int .i64 (JU r - i))))], [(1900, some (.box [.t (.sl 1 ((Aw r).b.map CH)), .t (.v (.int .i64 ((Aw r).p + (2 + 2 * i))))])), (1002, some (.box [.t (.v (.string ⟨#[]⟩)), .t (.v (.string ⟨#[]⟩)), .nil, .nil])), (1003, some (.box [.t (.v (.string (EA r).user)), .t (.v (.string (EA r).domain)), .h 1907, .h 1014])), (1014, some (.arr true 1 ((Hh (r.nx 3) (VH r)).map AG))), (1907, some (.arr true 2 ((DY ((Aw r).nx 2) i).map Am)))]⟩) (fun p => (JU r).toNat - p.1) ⟨0, by omega⟩ rfl ?_ ?_
  ·simp -implicitDefEqProofs only [go_sem, hh, Int.reduceAdd, seval]
   simp [DY]
  ·rintro ⟨i, hi⟩
   dsimp only
   have hlen := J6 ((Aw r).nx 2) i
   by_cases hlt : JU r - (i : Int) > 0
   ·simp -implicitDefEqProofs only [hlt, decide_true, tn, go_sem, hh, Int.reduceAdd, seval]
    with_reducible repeat' (first | apply ai | intro _ | ((first | apply s1 | apply s3 | apply s4) <;> intro hb <;> simp -implicitDefEqProofs only [hb, go_sem, hh, Int.reduceAdd, seval] <;> try simp only [qz] at hb))
    all_goals (try simp only [maxLen, tn] at *)
    all_goals first | rfl | omega | decide | assumption | skip
    refine AE [] (ι := {p : Nat × Bool // p.1 ≤ (DY ((Aw r).nx 2) i).length ∧ (p.2 = true ↔ ∃ j, j < p.1 ∧ (DY ((Aw r).nx 2) i).getD j default = (EA ((Aw r).nx (2 + 2 * (i : Int)))))}) (fun ⟨⟨k, b⟩, _⟩ => ⟨[(0, .pb 1900 0), (2, .pb 1002 0), (3, .pb 1003 0), (4, .t (.v (.int .i64 (JU r - i)))), (5, .pb 1005 0), (6, .t (.v (.bool b))), (7, .t (.v (.int .i64 k)))], [(1900, some (.box [.t (.sl 1 ((Aw r).b.map CH)), .t (.v (.int .i64 ((Aw r).p + (4 + 2 * i))))])), (1002, some (.box [.t (.v (.string ⟨#[]⟩)), .t (.v (.string ⟨#[]⟩)), .nil, .nil])), (1003, some (.box [.t (.v (.string (EA r).user)), .t (.v (.string (EA r).domain)), .h 1907, .h 1014])), (1005, some (.box ((Am (EA ((Aw r).nx (2 + 2 * (i : Int))))).map .t))), (1014, some (.arr true 1 ((Hh (r.nx 3) (VH r)).map AG))), (1907, some (.arr true 2 ((DY ((Aw r).nx 2) i).map Am)))]⟩) (fun p => (DY ((Aw r).nx 2) i).length - p.1.1) ⟨(0, false), by simp, by simp⟩ rfl ?_ ?_
    ·simp -implicitDefEqProofs only [go_sem, hh, Int.reduceAdd, seval]
     try simp
     try omega
    ·rintro ⟨⟨k, b⟩, hk, hb2⟩
     dsimp only at hk hb2 ⊢
     by_cases hlt2 : (k : Int) < (DY ((Aw r).nx 2) i).length
     ·cases b
      ·have hn : ¬ ∃ j, j < k ∧ (DY ((Aw r).nx 2) i).getD j default = (EA ((Aw r).nx (2 + 2 * (i : Int)))) := fun z => by have := hb2.2 z; cases this
       simp -implicitDefEqProofs only [hlt2, decide_true, tn, go_sem, hh, Int.reduceAdd, seval]
       with_reducible repeat' (first | apply ai | intro _ | ((first | apply s1 | apply s3 | apply s4) <;> intro hb <;> simp -implicitDefEqProofs only [hb, go_sem, hh, Int.reduceAdd, seval] <;> try simp only [qz] at hb))
       all_goals (try simp only [maxLen, tn, zI, zJ] at *)
       all_goals first | rfl | omega | decide | assumption | skip
       refine ⟨⟨(k + 1, decide ((DY ((Aw r).nx 2) i).getD k default = (EA ((Aw r).nx (2 + 2 * (i : Int)))))), by dsimp only; omega, by dsimp only; rw [decide_eq_true_eq]; exact ⟨fun z => ⟨k, by omega, z⟩, fun ⟨j, hj, z⟩ => by by_cases e : j = k; (rw [← e]; exact z); (exact absurd ⟨j, by omega, z⟩ hn)⟩⟩, by dsimp only; omega, ?_⟩
       simp -implicitDefEqProofs only [go_sem, hh, Int.reduceAdd, seval]
       simp [CA]
      ·have hn : ∃ j, j < k ∧ (DY ((Aw r).nx 2) i).getD j default = (EA ((Aw r).nx (2 + 2 * (i : Int)))) := hb2.1 rfl
       simp -implicitDefEqProofs only [hlt2, decide_true, tn, go_sem, hh, Int.reduceAdd, seval]
       with_reducible repeat' (first | apply ai | intro _ | ((first | apply s1 | apply s3 | apply s4) <;> intro hb <;> simp -implicitDefEqProofs only [hb, go_sem, hh, Int.reduceAdd, seval] <;> try simp only [qz] at hb))
       all_goals (try simp only [maxLen, tn] at *)
       all_goals first | rfl | omega | decide | assumption | skip
       refine ⟨⟨(k + 1, true), by dsimp only; omega, by dsimp only; exact ⟨fun _ => hn.elim fun j z => ⟨j, by omega, z.2⟩, fun _ => rfl⟩⟩, by dsimp only; omega, ?_⟩
       simp -implicitDefEqProofs only [go_sem, hh, Int.reduceAdd, seval]
       try simp
     ·have hE : b = true ↔ (EA ((Aw r).nx (2 + 2 * (i : Int)))) ∈ DY ((Aw r).nx 2) i := hb2.trans ⟨fun ⟨j, hj, z⟩ => z ▸ AF (by omega), fun z => Classical.byContradiction fun f => by
        have := BO (P := fun x : Ad => ¬ x = (EA ((Aw r).nx (2 + 2 * (i : Int))))) (xs := DY ((Aw r).nx 2) i) (fun j hj e => f ⟨j, by omega, e⟩) _ z
        exact this rfl⟩
      cases b
      ·have hm : ¬ EA (((Aw r).nx 2).nx (2 * (i : Int))) ∈ DY ((Aw r).nx 2) i := fun z => by rw [BX] at z; have := hE.2 z; cases this
       have hs := mF hm
       simp -implicitDefEqProofs only [hlt2, decide_false, go_sem, hh, Int.reduceAdd, seval]
       with_reducible repeat' (first | apply ai | intro _ | ((first | apply s1 | apply s3 | apply s4) <;> intro hb <;> simp -implicitDefEqProofs only [hb, go_sem, hh, Int.reduceAdd, seval] <;> try simp only [qz] at hb))
       all_goals (try simp only [maxLen, tn] at *)
       all_goals first | rfl | omega | decide | assumption | skip
       refine Ag (Le.renb 1003 2 1053 1907 rfl rfl rfl rfl) (AY ?_)
       simp -implicitDefEqProofs only [go_sem, hh, Int.reduceAdd, seval]
       with_reducible repeat' (first | apply ai | intro _ | ((first | apply s1 | apply s3 | apply s4) <;> intro hb <;> simp -implicitDefEqProofs only [hb, go_sem, hh, Int.reduceAdd, seval] <;> try simp only [qz] at hb))
       all_goals (try simp only [maxLen, tn] at *)
       all_goals first | rfl | omega | decide | assumption | skip
       refine ⟨⟨i + 1, by omega⟩, by dsimp only; omega, ?_⟩
       simp -implicitDefEqProofs only [hs, go_sem, hh, Int.reduceAdd, seval]
       simp [Fk, BX]
       try omega
      ·have hm : EA (((Aw r).nx 2).nx (2 * (i : Int))) ∈ DY ((Aw r).nx 2) i := by rw [BX]; exact hE.1 rfl
       have hs := mG hm
       simp -implicitDefEqProofs only [hlt2, decide_false, go_sem, hh, Int.reduceAdd, seval]
       with_reducible repeat' (first | apply ai | intro _ | ((first | apply s1 | apply s3 | apply s4) <;> intro hb <;> simp -implicitDefEqProofs only [hb, go_sem, hh, Int.reduceAdd, seval] <;> try simp only [qz] at hb))
       all_goals (try simp only [maxLen, tn] at *)
       all_goals first | rfl | omega | decide | assumption | skip
       refine AY ?_
       simp -implicitDefEqProofs only [go_sem, hh, Int.reduceAdd, seval]
       with_reducible repeat' (first | apply ai | intro _ | ((first | apply s1 | apply s3 | apply s4) <;> intro hb <;> simp -implicitDefEqProofs only [hb, go_sem, hh, Int.reduceAdd, seval] <;> try simp only [qz] at hb))
       all_goals (try simp only [maxLen, tn] at *)
       all_goals first | rfl | omega | decide | assumption | skip
       refine ⟨⟨i + 1, by omega⟩, by dsimp only; omega, ?_⟩
       simp -implicitDefEqProofs only [hs, go_sem, hh, Int.reduceAdd, seval]
       try simp
       try omega
   ·have hz : (i : Int) = JU r := by omega
    have hz2 : (JU r).toNat = i := by omega
    have e1 : Fu r = (Aw r).nx (2 + 2 * (i : Int)) := by unfold Fu; rw [hz]
    have e2 : Ge r = ⟨EA r, DY ((Aw r).nx 2) i, Hh (r.nx 3) (VH r)⟩ := by unfold Ge; rw [hf, hz2]
    rw [e1, e2]
    simp -implicitDefEqProofs only [hlt, decide_false, go_sem, hh, Int.reduceAdd, seval]
    with_reducible repeat' (first | apply ai | intro _ | ((first | apply s1 | apply s3 | apply s4) <;> intro hb <;> simp -implicitDefEqProofs only [hb, go_sem, hh, Int.reduceAdd, seval] <;> try simp only [qz] at hb))
    all_goals (try simp only [maxLen, tn] at *)
    all_goals first | rfl | omega | decide | assumption | skip
end
instance (n : Int) : Decidable (Ko n) := by unfold Ko; infer_instance
theorem dN (s : ByteArray) : TV s ↔ (∀ b ∈ bl s, Ko (b.toNat : Int)) ∧ 1 ≤ s.size ∧ s.size ≤ 8 :=
 ⟨fun h => ⟨fun b hb => by
   obtain ⟨j, hj, e⟩ := Hk hb
   rw [← e]; exact h.1 j hj, h.2⟩, fun h => ⟨fun j hj => by
   obtain ⟨b, hb, e⟩ := Py hj
   rw [e]; exact h.1 b hb, h.2⟩⟩
instance (s : ByteArray) : Decidable (TV s) := decidable_of_iff _ (dN s).symm
instance (s : ByteArray) : Decidable (C3 s) := by unfold C3; infer_instance
instance (s : ByteArray) : Decidable (I0 s) := decidable_of_iff _ (HR s).symm
theorem eh : ∀ s ∈ uv, C3 s := by decide +kernel
theorem jc : ∀ s ∈ xA, TV s := by decide +kernel
theorem il : ∀ s ∈ vV, I0 s := by decide +kernel
theorem Q5 {r : Rd} (h : 0 ≤ r.p) (h1 : r.p ≤ 999999990) : BS (EA r) :=
 ⟨jc _ (GR h (by omega) (by decide)), eh _ (GR (r := r.nx 1) (by rw [AI]; omega) (by rw [AI]; omega) (by decide))⟩
theorem io {r : Rd} (h : 0 ≤ r.p) (h1 : r.p ≤ 999999990) : I0 (im r) := il _ (GR h (by omega) (by decide))
theorem UH {r : Rd} {m : Int} (h : 0 ≤ r.p) (h1 : r.p ≤ 999999900) (h2 : 0 ≤ m) (h3 : m ≤ 12) : CZ (Hh r m) := by
 have hb := Bq (r := r) (n := m + 1) h (by omega)
 unfold Hh
 refine ⟨fun s hs => ?_, by rw [Oz]; omega⟩
 unfold Ll at hs
 obtain ⟨j, hj, rfl⟩ := List.mem_map.1 hs
 rw [List.mem_range] at hj
 exact io (by rw [AI, AI]; omega) (by rw [AI, AI]; omega)
theorem Ij {r : Rd} (h : 0 ≤ r.p) (h1 : r.p ≤ 999999800) : B6 (Ge r) := by
 have h2 := bE h (by omega)
 have h3 := Nh h (by omega)
 have h4 := bD h (by omega)
 obtain ⟨k, hk⟩ : ∃ k, (JU r).toNat = k + 1 := ⟨(JU r).toNat - 1, by omega⟩
 refine ⟨fun a ha => ?_, Iy _ _, ?_, ⟨?_, ?_⟩, UH (by rw [AI]; omega) (by rw [AI]; omega) (by omega) (by omega)⟩
 ·obtain ⟨j, hj, rfl⟩ := N2 ha
  exact Q5 (by rw [AI, AI]; omega) (by rw [AI, AI]; omega)
 ·show BS (MX r) ∨ Ab (MX r)
  unfold MX; split
  ·exact .inr ⟨rfl, rfl⟩
  ·exact .inl (Q5 h (by omega))
 ·show 1 ≤ (DY _ (JU r).toNat).length
  rw [hk]; exact tL _ _
 ·have := J6 ((Aw r).nx 2) (JU r).toNat
  show (DY _ (JU r).toNat).length ≤ 4
  omega
theorem CW {a : Ad} (h : BS a ∨ Ab a) : IM a := by
 rcases h with h | h
 ·have h1 := (Js h.1).2
  have h2 := (CM h.2).2
  exact ⟨by show a.user.size ≤ 1048576; omega, by show a.domain.size ≤ 1048576; omega⟩
 ·obtain ⟨u, d⟩ := a
  obtain ⟨h1, h2⟩ := h
  dsimp only at h1 h2
  subst h1; subst h2
  exact ⟨by show 0 ≤ 1048576; decide, by show 0 ≤ 1048576; decide⟩
theorem F7 {b : List ByteArray} (h : CZ b) : GY Bb b := ⟨by have := h.2; omega, fun s hs => by
 have := (h.1 s hs).2
 show s.size ≤ 1048576; omega⟩
theorem HS {m : Ml} (h : B6 m) : E3 m := ⟨CW h.2.2.1, ⟨by have := h.2.2.2.1.2; omega, fun a ha => CW (.inl (h.1 a ha))⟩, F7 h.2.2.2.2⟩
theorem dM {x : Im} (h : Dr x) : FY x := ⟨CW h.2.2.2.1, ⟨by have := h.2.2.2.2.1.2; omega, fun r hr => CW (.inl (h.1 r hr).1)⟩, F7 h.2.2.2.2.2⟩
theorem HU {s : Sp} (h : Bg s) : FR s := ⟨by have := h.2.2.2; omega, fun x hx => dM (h.1 x hx).1⟩
structure Ds where
 s : Sp
 w : Int
 r : Rd
def Jy (z : Ds) : Int := z.w + Ac z.r 5
def Gn (z : Ds) : Prop := (z.s.items.length : Int) = 0 ∨ Ac (z.r.nx 1) 2 = 0
def Rj (z : Ds) : Rd := if (z.s.items.length : Int) = 0 then z.r.nx 1 else z.r.nx 2
def Ri (z : Ds) : Int := Ac (z.r.nx 2) z.s.items.length
def en (z : Ds) : Int := Ac (z.r.nx 3) (z.s.items.getD (Ri z).toNat default).to.length
open Classical in
noncomputable def CS (z : Ds) : Ds :=
 if Gn z then (if Bj z.s then ⟨Hd z.s (Ge (Rj z)) (Jy z), Jy z, Fu (Rj z)⟩ else ⟨z.s, Jy z, Rj z⟩)
 else if Ac (z.r.nx 4) 2 = 0 then ⟨DM z.s (Ri z).toNat (en z).toNat, Jy z, z.r.nx 5⟩
 else ⟨(KD z.s (Ri z).toNat (en z).toNat (Jy z)).1, Jy z, z.r.nx 5⟩
noncomputable def Jx (z : Ds) : Nat → Ds
 | 0 => z
 | n + 1 => CS (Jx z n)
theorem Kh {z : Ds} (h : Gn z) (h2 : Bj z.s) : CS z = ⟨Hd z.s (Ge (Rj z)) (Jy z), Jy z, Fu (Rj z)⟩ := by unfold CS; rw [if_pos h, if_pos h2]
theorem Ki {z : Ds} (h : Gn z) (h2 : ¬ Bj z.s) : CS z = ⟨z.s, Jy z, Rj z⟩ := by unfold CS; rw [if_pos h, if_neg h2]
theorem PM {z : Ds} (h : ¬ Gn z) (h2 : Ac (z.r.nx 4) 2 = 0) : CS z = ⟨DM z.s (Ri z).toNat (en z).toNat, Jy z, z.r.nx 5⟩ := by unfold CS; rw [if_neg h, if_pos h2]
theorem PN {z : Ds} (h : ¬ Gn z) (h2 : ¬ Ac (z.r.nx 4) 2 = 0) : CS z = ⟨(KD z.s (Ri z).toNat (en z).toNat (Jy z)).1, Jy z, z.r.nx 5⟩ := by unfold CS; rw [if_neg h, if_neg h2]
structure Qo (r : Rd) (i : Nat) (z : Ds) : Prop where
 sp : Bg z.s
 w0 : 0 ≤ z.w
 w1 : z.w ≤ 4 * i
 p0 : r.p ≤ z.r.p
 p1 : z.r.p ≤ r.p + 1 + 30 * i
 b : z.r.b = r.b
theorem dU {s : Sp} {i k : Nat} {w : Int} (h : Bg s) (hi : i < s.items.length) (hk : k < (s.items.getD i default).to.length) (hw : 0 ≤ w) : Bg (KD s i k w).1 := by
 unfold KD; split
 ·exact h
 ·exact MV h hi hk (by assumption) hw
theorem km {r : Rd} {i : Nat} {z : Ds} (h : Qo r i z) (h0 : 0 ≤ r.p) (h1 : r.p ≤ 999990000) (hi : i ≤ 9) (ha : ¬ Gn z) : (0 ≤ Ri z ∧ Ri z < z.s.items.length) ∧ 0 ≤ en z ∧ en z < (z.s.items.getD (Ri z).toNat default).to.length := by
 have a1 := h.p0; have a2 := h.p1
 have hb := Bq (r := z.r.nx 2) (n := z.s.items.length) (by rw [AI]; omega) (by rw [AI]; omega)
 have hc := Bq (r := z.r.nx 3) (n := (z.s.items.getD (Ri z).toNat default).to.length) (by rw [AI]; omega) (by rw [AI]; omega)
 have hl : ¬ (z.s.items.length : Int) = 0 := fun e => ha (.inl e)
 have q1 : 0 ≤ Ri z ∧ Ri z < z.s.items.length := by unfold Ri; omega
 have hx := (h.sp.1 _ (AF (xs := z.s.items) (j := (Ri z).toNat) (by omega))).1.2.2.2.2.1.1
 exact ⟨q1, by unfold en; omega, by unfold en; omega⟩
theorem kj {r : Rd} {i : Nat} {z : Ds} (h : Qo r i z) : (Rj z).b = r.b ∧ z.r.p + 1 ≤ (Rj z).p ∧ (Rj z).p ≤ z.r.p + 2 := by
 unfold Rj; split
 ·exact ⟨h.b, by rw [AI]; omega, by rw [AI]; omega⟩
 ·exact ⟨h.b, by rw [AI]; omega, by rw [AI]; omega⟩
theorem kk {r : Rd} {i : Nat} {z : Ds} (h : Qo r i z) (h0 : 0 ≤ r.p) (h1 : r.p ≤ 999990000) (hi : i ≤ 9) : z.w ≤ Jy z ∧ Jy z ≤ z.w + 4 := by
 have a1 := h.p0; have a2 := h.p1
 have hb := Bq (r := z.r) (n := 5) (by omega) (by omega)
 unfold Jy; omega
theorem ep {r : Rd} {i : Nat} {z : Ds} (h : Qo r i z) (h0 : 0 ≤ r.p) (h1 : r.p ≤ 999990000) (hi : i ≤ 9) : Qo r (i + 1) (CS z) := by
 have a1 := h.p0; have a2 := h.p1; have a3 := h.w0; have a4 := h.w1
 have hw := kk h h0 h1 hi
 have hR := kj h
 by_cases ha : Gn z
 ·by_cases hr : Bj z.s
  ·rw [Kh ha hr]
   have hm := VI (r := Rj z) (by omega) (by omega)
   exact ⟨IS h.sp (Ij (by omega) (by omega)) ⟨by omega, by omega⟩ hr, by show 0 ≤ Jy z; omega, by show Jy z ≤ _; omega, by show r.p ≤ (Fu _).p; omega, by show (Fu _).p ≤ _; omega, by show (Fu _).b = _; rw [hm.1, hR.1]⟩
  ·rw [Ki ha hr]
   exact ⟨h.sp, by show 0 ≤ Jy z; omega, by show Jy z ≤ _; omega, by show r.p ≤ (Rj z).p; omega, by show (Rj z).p ≤ _; omega, hR.1⟩
 ·obtain ⟨⟨i0, i1⟩, k0, k1⟩ := km h h0 h1 hi ha
  by_cases hd : Ac (z.r.nx 4) 2 = 0
  ·rw [PM ha hd]
   exact ⟨En h.sp (by omega) (by omega), by show 0 ≤ Jy z; omega, by show Jy z ≤ _; omega, by show r.p ≤ z.r.p + 5; omega, by show z.r.p + 5 ≤ _; omega, h.b⟩
  ·rw [PN ha hd]
   exact ⟨dU h.sp (by omega) (by omega) (by omega), by show 0 ≤ Jy z; omega, by show Jy z ≤ _; omega, by show r.p ≤ z.r.p + 5; omega, by show z.r.p + 5 ≤ _; omega, h.b⟩
def Kg (r : Rd) : Ds := ⟨⟨0, []⟩, 0, r.nx 1⟩
theorem YA : Bg ⟨0, []⟩ := ⟨fun x hx => (by cases hx), fun j _ hj => absurd hj (Nat.not_lt_zero _), ⟨by decide, by decide⟩, Nat.zero_le _⟩
theorem NT {r : Rd} (h0 : 0 ≤ r.p) (h1 : r.p ≤ 999990000) : ∀ i : Nat, i ≤ 9 → Qo r i (Jx (Kg r) i)
 | 0, _ => ⟨YA, Int.le_refl 0, Int.le_refl 0, by show r.p ≤ r.p + 1; omega, by show r.p + 1 ≤ _; omega, rfl⟩
 | i + 1, h => ep (NT h0 h1 i (by omega)) h0 h1 (by omega)
noncomputable def Ea (r : Rd) : Sp := (Jx (Kg r) (Ac r 9).toNat).s
noncomputable def Gw (r : Rd) : Rd := (Jx (Kg r) (Ac r 9).toNat).r
theorem cO {r : Rd} (h0 : 0 ≤ r.p) (h1 : r.p ≤ 999990000) : Bg (Ea r) ∧ (Gw r).b = r.b ∧ r.p ≤ (Gw r).p ∧ (Gw r).p ≤ r.p + 300 := by
 have hb := Bq (r := r) (n := 9) h0 (by omega)
 have h := NT h0 h1 (Ac r 9).toNat (by omega)
 exact ⟨h.sp, h.b, h.p0, by have := h.p1; unfold Gw; omega⟩
theorem uz {z : Ds} : z.w + Ac z.r 5 = Jy z := rfl
theorem ux {z : Ds} : Ac (z.r.nx 2) (z.s.items.length : Int) = Ri z := rfl
theorem uy {z : Ds} : Ac (z.r.nx 3) ((z.s.items.getD (Ri z).toNat default).to.length : Int) = en z := rfl
def np : Mt := GN (lc DZ l0) (fun p => 0 ≤ p.1.p ∧ p.1.p ≤ 999980000) (fun p => ([DZ.enc (Gw p.1)], SO (Ea p.1)))
section
attribute [local go_sem] FS KX RE RG RI Y5 Y0 AI BK A0 A2 BB BX CJ BU BY lm List.length_append List.length_cons List.length_nil List.map_append List.map_nil Nat.zero_add List.nil_append AS.opn AS.cls AS.nilb AS.renb AS.up Bool.not_false Bool.not_true List.set_set List.set_cons_zero List.set_cons_succ List.set_nil List.mem_singleton forall_eq uz ux uy jK AX AW Ja JT List.take_length List.drop_zero List.length_take List.length_drop List.map_cons
set_option maxHeartbeats 6400000 in
theorem fu {G : Gt} (hG : Ah G) (hh : G.e 53 = AM FS ∧ G.e 121 = AA 0 KX ∧ G.e 110 = AM RE ∧ G.e 124 = AA 1 RG ∧ G.e 166 = AA 1 RI ∧ G.e 167 = AA 1 Y5 ∧ G.e 118 = AA 0 Y0) : Gd G 140 (AM np) := by
 refine If (dp := fun n => !(Nat.beq n 100003)) (fn := Tryz.f140) (n := 1) rfl rfl hG ?_
 rintro ⟨r, ⟨⟩⟩ hpre
 obtain ⟨h1, h2⟩ := hpre
 try dsimp only at h1 h2 ⊢
 have hb := Bq (r := r) (n := 9) h1 (by omega)
 obtain ⟨n, hn⟩ : ∃ n : Nat, n = (Ac r 9).toNat := ⟨_, rfl⟩
 have hn2 : Ac r 9 = n := by omega
 have e1 : Gw r = (Jx (Kg r) n).r := by unfold Gw; rw [← hn]
 have e2 : Ea r = (Jx (Kg r) n).s := by unfold Ea; rw [← hn]
 rw [e1, e2]
 simp -implicitDefEqProofs only [Tryz.f140, hn2, go_sem, hh, Int.reduceAdd, seval]
 with_reducible repeat' (first | apply ai | intro _ | ((first | apply s1 | apply s3 | apply s4) <;> intro hb <;> simp -implicitDefEqProofs only [hb, go_sem, hh, Int.reduceAdd, seval] <;> try simp only [qz] at hb))
 all_goals (try simp only [maxLen, tn] at *)
 all_goals first | rfl | omega | decide | assumption | skip
 refine Ag (Le.nilb 1003 1 1907 true 5 rfl rfl rfl) (Ag (Le.frzL [1907]) (AY ?_))
 simp -implicitDefEqProofs only [hn2, go_sem, hh, Int.reduceAdd, seval]
 with_reducible repeat' (first | apply ai | intro _ | ((first | apply s1 | apply s3 | apply s4) <;> intro hb <;> simp -implicitDefEqProofs only [hb, go_sem, hh, Int.reduceAdd, seval] <;> try simp only [qz] at hb))
 all_goals (try simp only [maxLen, tn] at *)
 all_goals first | rfl | omega | decide | assumption | skip
 refine AE [] (ι := {i : Nat // i ≤ n}) (fun ⟨i, _⟩ => ⟨[(0, .pb 1900 0), (2, .pb 1002 0), (3, .pb 1003 0), (4, .t (.v (.int .i64 (Jx (Kg r) i).w))), (5, .t (.v (.int .i64 (n - i))))], [(1900, some (.box [.t (.sl 1 ((Jx (Kg r) i).r.b.map CH)), .t (.v (.int .i64 (Jx (Kg r) i).r.p))])), (1002, some (.box [.t (.v (.int .i64 0)), .nil])), (1003, some (.box ((Dx (Jx (Kg r) i).s).map .t)))]⟩) (fun p => n - p.1) ⟨0, by omega⟩ rfl ?_ ?_
 ·simp -implicitDefEqProofs only [go_sem, hh, Int.reduceAdd, seval]
  simp [Jx, Kg, BK, AI]
  try rfl
 ·rintro ⟨i, hi⟩
  dsimp only
  by_cases hlt : (n : Int) - i > 0
  ·obtain ⟨z, hz⟩ : ∃ z, z = Jx (Kg r) i := ⟨_, rfl⟩
   have hok : Qo r i z := by rw [hz]; exact NT h1 (by omega) i (by omega)
   have a1 := hok.p0; have a2 := hok.p1; have a3 := hok.w0; have a4 := hok.w1
   have hw := kk hok h1 (by omega) (by omega)
   have hR := kj hok
   have zs := HU hok.sp
   have zo := hok.sp
   rw [← hz]
   by_cases L : (z.s.items.length : Int) = 0
   ·have ha : Gn z := .inl L
    have eR : Rj z = z.r.nx 1 := if_pos L
    by_cases hr : Bj z.s
    ·have b1 := Ae hr
     have zm := HS (Ij (r := z.r.nx 1) (by rw [AI]; omega) (by rw [AI]; omega))
     have hs : Jx (Kg r) (i + 1) = _ := (show Jx (Kg r) (i + 1) = CS z by rw [hz]; rfl).trans (eR ▸ Kh ha hr)
     simp -implicitDefEqProofs only [hlt, L, b1, eq_self, decide_true, decide_false, tn, go_sem, hh, Int.reduceAdd, seval]
     with_reducible repeat' (first | apply ai | intro _ | ((first | apply s1 | apply s3 | apply s4) <;> intro hb <;> simp -implicitDefEqProofs only [hb, go_sem, hh, Int.reduceAdd, seval] <;> try simp only [qz] at hb))
     all_goals (try simp only [maxLen, tn] at *)
     all_goals first | rfl | omega | decide | assumption | skip
     refine ⟨⟨i + 1, by omega⟩, by dsimp only; omega, ?_⟩
     simp -implicitDefEqProofs only [hs, go_sem, hh, Int.reduceAdd, seval]
     try simp
     try omega
    ·have b1 := AN hr
     have hs : Jx (Kg r) (i + 1) = _ := (show Jx (Kg r) (i + 1) = CS z by rw [hz]; rfl).trans (eR ▸ Ki ha hr)
     simp -implicitDefEqProofs only [hlt, L, b1, eq_self, decide_true, decide_false, tn, go_sem, hh, Int.reduceAdd, seval]
     with_reducible repeat' (first | apply ai | intro _ | ((first | apply s1 | apply s3 | apply s4) <;> intro hb <;> simp -implicitDefEqProofs only [hb, go_sem, hh, Int.reduceAdd, seval] <;> try simp only [qz] at hb))
     all_goals (try simp only [maxLen, tn] at *)
     all_goals first | rfl | omega | decide | assumption | skip
     refine ⟨⟨i + 1, by omega⟩, by dsimp only; omega, ?_⟩
     simp -implicitDefEqProofs only [hs, go_sem, hh, Int.reduceAdd, seval]
     try simp
     try omega
   ·by_cases Q : Ac (z.r.nx 1) 2 = 0
    ·have ha : Gn z := .inr Q
     have eR : Rj z = z.r.nx 2 := if_neg L
     by_cases hr : Bj z.s
     ·have b1 := Ae hr
      have zm := HS (Ij (r := z.r.nx 2) (by rw [AI]; omega) (by rw [AI]; omega))
      have hs : Jx (Kg r) (i + 1) = _ := (show Jx (Kg r) (i + 1) = CS z by rw [hz]; rfl).trans (eR ▸ Kh ha hr)
      simp -implicitDefEqProofs only [hlt, L, Q, b1, eq_self, decide_true, decide_false, tn, go_sem, hh, Int.reduceAdd, seval]
      with_reducible repeat' (first | apply ai | intro _ | ((first | apply s1 | apply s3 | apply s4) <;> intro hb <;> simp -implicitDefEqProofs only [hb, go_sem, hh, Int.reduceAdd, seval] <;> try simp only [qz] at hb))
      all_goals (try simp only [maxLen, tn] at *)
      all_goals first | rfl | omega | decide | assumption | skip
      refine ⟨⟨i + 1, by omega⟩, by dsimp only; omega, ?_⟩
      simp -implicitDefEqProofs only [hs, go_sem, hh, Int.reduceAdd, seval]
      try simp
      try omega
     ·have b1 := AN hr
      have hs : Jx (Kg r) (i + 1) = _ := (show Jx (Kg r) (i + 1) = CS z by rw [hz]; rfl).trans (eR ▸ Ki ha hr)
      simp -implicitDefEqProofs only [hlt, L, Q, b1, eq_self, decide_true, decide_false, tn, go_sem, hh, Int.reduceAdd, seval]
      with_reducible repeat' (first | apply ai | intro _ | ((first | apply s1 | apply s3 | apply s4) <;> intro hb <;> simp -implicitDefEqProofs only [hb, go_sem, hh, Int.reduceAdd, seval] <;> try simp only [qz] at hb))
      all_goals (try simp only [maxLen, tn] at *)
      all_goals first | rfl | omega | decide | assumption | skip
      refine ⟨⟨i + 1, by omega⟩, by dsimp only; omega, ?_⟩
      simp -implicitDefEqProofs only [hs, go_sem, hh, Int.reduceAdd, seval]
      try simp
      try omega
    ·have ha : ¬ Gn z := fun f => f.elim L Q
     obtain ⟨⟨i0, i1⟩, k0, k1⟩ := km hok h1 (by omega) (by omega) ha
     by_cases D : Ac (z.r.nx 4) 2 = 0
     ·skip
      have hs : Jx (Kg r) (i + 1) = _ := (show Jx (Kg r) (i + 1) = CS z by rw [hz]; rfl).trans (PM ha D)
      simp -implicitDefEqProofs only [hlt, L, Q, D, eq_self, decide_true, decide_false, tn, go_sem, hh, Int.reduceAdd, seval]
      with_reducible repeat' (first | apply ai | intro _ | ((first | apply s1 | apply s3 | apply s4) <;> intro hb <;> simp -implicitDefEqProofs only [hb, go_sem, hh, Int.reduceAdd, seval] <;> try simp only [qz] at hb))
      all_goals (try simp only [maxLen, tn] at *)
      all_goals first | rfl | omega | decide | assumption | skip
      refine ⟨⟨i + 1, by omega⟩, by dsimp only; omega, ?_⟩
      simp -implicitDefEqProofs only [hs, go_sem, hh, Int.reduceAdd, seval]
      try simp
      try omega
     ·skip
      have hs : Jx (Kg r) (i + 1) = _ := (show Jx (Kg r) (i + 1) = CS z by rw [hz]; rfl).trans (PN ha D)
      simp -implicitDefEqProofs only [hlt, L, Q, D, eq_self, decide_true, decide_false, tn, go_sem, hh, Int.reduceAdd, seval]
      with_reducible repeat' (first | apply ai | intro _ | ((first | apply s1 | apply s3 | apply s4) <;> intro hb <;> simp -implicitDefEqProofs only [hb, go_sem, hh, Int.reduceAdd, seval] <;> try simp only [qz] at hb))
      all_goals (try simp only [maxLen, tn] at *)
      all_goals first | rfl | omega | decide | assumption | skip
      refine ⟨⟨i + 1, by omega⟩, by dsimp only; omega, ?_⟩
      simp -implicitDefEqProofs only [hs, go_sem, hh, Int.reduceAdd, seval]
      try simp
      try omega
  ·have hz : i = n := by omega
   subst hz
   have hok := NT h1 (show r.p ≤ 999990000 by omega) i (by omega)
   have zs := HU hok.sp
   simp -implicitDefEqProofs only [hlt, decide_false, go_sem, hh, Int.reduceAdd, seval]
   with_reducible repeat' (first | apply ai | intro _ | ((first | apply s1 | apply s3 | apply s4) <;> intro hb <;> simp -implicitDefEqProofs only [hb, go_sem, hh, Int.reduceAdd, seval] <;> try simp only [qz] at hb))
   all_goals (try simp only [maxLen, tn] at *)
   all_goals first | rfl | omega | decide | assumption | skip
end
def cK (s : Sp) (k : Nat) (n : Int) : Sp := ⟨s.last, s.items.set k ⟨n, (s.items.getD k default).frm, (s.items.getD k default).to, (s.items.getD k default).body⟩⟩
def QV (s : Sp) (k : Nat) (l : List Rc) : Sp := ⟨s.last, s.items.set k ⟨(s.items.getD k default).id, (s.items.getD k default).frm, l, (s.items.getD k default).body⟩⟩
def F4 (l : List Rc) (n : Int) : List Rc := l.set 0 ⟨(l.getD 0 default).addr, n, (l.getD 0 default).next⟩
noncomputable def IT (r : Rd) : Int := Ac (Gw r) (Ea r).items.length
noncomputable def Lk (r : Rd) : Int := Ac ((Gw r).nx 1) 14
noncomputable def KQ (r : Rd) : Sp × Rd :=
 if ((Ea r).items.length : Int) > 0 then
  (if Lk r = 0 then (cK (Ea r) (IT r).toNat (GQ ((Gw r).nx 2) [0, 1, 99]), (Gw r).nx 3)
   else if Lk r = 1 then (QV (Ea r) (IT r).toNat [], (Gw r).nx 2)
   else if Lk r = 2 then (QV (Ea r) (IT r).toNat (F4 ((Ea r).items.getD (IT r).toNat default).to (GQ ((Gw r).nx 2) [-1, 4])), (Gw r).nx 3)
   else if Lk r = 3 then (⟨GQ ((Gw r).nx 2) [-1, 0, 1000, 999], (Ea r).items⟩, (Gw r).nx 3)
   else (Ea r, (Gw r).nx 2))
 else (Ea r, Gw r)
theorem j9 {r : Rd} (h : ¬ ((Ea r).items.length : Int) > 0) : KQ r = (Ea r, Gw r) := if_neg h
theorem j4 {r : Rd} (h : ((Ea r).items.length : Int) > 0) (c : Lk r = 0) : KQ r = (cK (Ea r) (IT r).toNat (GQ ((Gw r).nx 2) [0, 1, 99]), (Gw r).nx 3) := by unfold KQ; rw [if_pos h, if_pos c]
theorem j5 {r : Rd} (h : ((Ea r).items.length : Int) > 0) (c : Lk r = 1) : KQ r = (QV (Ea r) (IT r).toNat [], (Gw r).nx 2) := by unfold KQ; rw [if_pos h, if_neg (by omega), if_pos c]
theorem j6 {r : Rd} (h : ((Ea r).items.length : Int) > 0) (c : Lk r = 2) : KQ r = (QV (Ea r) (IT r).toNat (F4 ((Ea r).items.getD (IT r).toNat default).to (GQ ((Gw r).nx 2) [-1, 4])), (Gw r).nx 3) := by unfold KQ; rw [if_pos h, if_neg (by omega), if_neg (by omega), if_pos c]
theorem j7 {r : Rd} (h : ((Ea r).items.length : Int) > 0) (c : Lk r = 3) : KQ r = (⟨GQ ((Gw r).nx 2) [-1, 0, 1000, 999], (Ea r).items⟩, (Gw r).nx 3) := by unfold KQ; rw [if_pos h, if_neg (by omega), if_neg (by omega), if_neg (by omega), if_pos c]
theorem j8 {r : Rd} (h : ((Ea r).items.length : Int) > 0) (c : ¬ Lk r = 0 ∧ ¬ Lk r = 1 ∧ ¬ Lk r = 2 ∧ ¬ Lk r = 3) : KQ r = (Ea r, (Gw r).nx 2) := by unfold KQ; rw [if_pos h, if_neg c.1, if_neg c.2.1, if_neg c.2.2.1, if_neg c.2.2.2]
theorem CP {s : Sp} {k : Nat} {n : Int} : (s.items.map An).set k [.v (.int .i64 n), .v (.string (s.items.getD k default).frm.user), .v (.string (s.items.getD k default).frm.domain), .sl 4 ((s.items.getD k default).to.map BN), .sl 1 ((s.items.getD k default).body.map AG)] = (cK s k n).items.map An := by
 show _ = (s.items.set k _).map An
 rw [List.map_set]; rfl
theorem Ay {s : Sp} {k : Nat} {l : List Rc} : (s.items.map An).set k [.v (.int .i64 (s.items.getD k default).id), .v (.string (s.items.getD k default).frm.user), .v (.string (s.items.getD k default).frm.domain), .sl 4 (l.map BN), .sl 1 ((s.items.getD k default).body.map AG)] = (QV s k l).items.map An := by
 show _ = (s.items.set k _).map An
 rw [List.map_set]; rfl
theorem cg {l : List Rc} {n : Int} : (l.map BN).set 0 [.v (.string (l.getD 0 default).addr.user), .v (.string (l.getD 0 default).addr.domain), .v (.int .i64 n), .v (.int .i64 (l.getD 0 default).next)] = (F4 l n).map BN := by
 unfold F4
 rw [List.map_set]; rfl
theorem zy : (0 : Int).toNat = 0 := rfl
theorem uG {r : Rd} : Ac (Gw r) ((Ea r).items.length : Int) = IT r := rfl
theorem uC {r : Rd} : Ac ((Gw r).nx 1) 14 = Lk r := rfl
theorem KC {s : Sp} (h : FR s) {k : Nat} {x : Im} (hx : FY x) : FR ⟨s.last, s.items.set k x⟩ := ⟨by show ((s.items.set k x).length : Int) ≤ 1048576; rw [List.length_set]; exact h.1, fun y hy => by
 rcases List.mem_or_eq_of_mem_set hy with hy | rfl
 ·exact h.2 y hy
 ·exact hx⟩
theorem Yi {r : Rd} (h0 : 0 ≤ r.p) (h1 : r.p ≤ 999980000) : FR (KQ r).1 ∧ (KQ r).2.b = r.b ∧ r.p ≤ (KQ r).2.p ∧ (KQ r).2.p ≤ r.p + 303 := by
 obtain ⟨a1, a2, a3, a4⟩ := cO h0 (show r.p ≤ 999990000 by omega)
 have zs := HU a1
 by_cases h : ((Ea r).items.length : Int) > 0
 ·have hb := Bq (r := Gw r) (n := (Ea r).items.length) (by omega) (by omega)
  have hx : FY ((Ea r).items.getD (IT r).toNat default) := zs.2 _ (AF (by unfold IT; omega))
  by_cases c0 : Lk r = 0
  ·rw [j4 h c0]; exact ⟨KC zs ⟨hx.1, hx.2.1, hx.2.2⟩, a2, by rw [AI]; omega, by rw [AI]; omega⟩
  ·by_cases c1 : Lk r = 1
   ·rw [j5 h c1]; exact ⟨KC zs ⟨hx.1, ⟨by show ((0 : Nat) : Int) ≤ 1048576; decide, fun _ q => by cases q⟩, hx.2.2⟩, a2, by rw [AI]; omega, by rw [AI]; omega⟩
   ·by_cases c2 : Lk r = 2
    ·rw [j6 h c2]
     refine ⟨KC zs ⟨hx.1, ⟨?_, fun y hy => ?_⟩, hx.2.2⟩, a2, by rw [AI]; omega, by rw [AI]; omega⟩
     ·show ((F4 _ _).length : Int) ≤ _
      unfold F4; rw [List.length_set]; exact hx.2.1.1
     ·have hy : y ∈ F4 _ _ := hy
      unfold F4 at hy
      have hl : 0 < ((Ea r).items.getD (IT r).toNat default).to.length := (a1.1 _ (AF (xs := (Ea r).items) (j := (IT r).toNat) (by unfold IT; omega))).1.2.2.2.2.1.1
      rcases List.mem_or_eq_of_mem_set hy with hy | rfl
      ·exact hx.2.1.2 y hy
      ·have := hx.2.1.2 _ (AF hl)
       exact this
    ·by_cases c3 : Lk r = 3
     ·rw [j7 h c3]; exact ⟨zs, a2, by rw [AI]; omega, by rw [AI]; omega⟩
     ·rw [j8 h ⟨c0, c1, c2, c3⟩]; exact ⟨zs, a2, by rw [AI]; omega, by rw [AI]; omega⟩
 ·rw [j9 h]; exact ⟨zs, a2, a3, by show (Gw r).p ≤ _; omega⟩
def bU (r : Rd) (s : Sp) : Rd := if (s.items.length : Int) = 0 then r else r.nx 1
def XK (r : Rd) (s : Sp) : Im := s.items.getD (Ac (r.nx 1) s.items.length).toNat default
def Xp (r : Rd) (s : Sp) : (Int × Ad) × Rd :=
 if (s.items.length : Int) = 0 ∨ Ac r 6 = 0 then ((Ac (bU r s) 4, EA ((bU r s).nx 1)), (bU r s).nx 3)
 else if ((XK r s).to.length : Int) = 0 then (((XK r s).id, EA (r.nx 2)), r.nx 4)
 else (((XK r s).id, ((XK r s).to.getD (Ac (r.nx 2) (XK r s).to.length).toNat default).addr), r.nx 3)
theorem vl {r : Rd} {s : Sp} (h : (s.items.length : Int) = 0) : Xp r s = ((Ac r 4, EA (r.nx 1)), r.nx 3) := by
 have e : bU r s = r := if_pos h
 unfold Xp; rw [if_pos (.inl h), e]
theorem vn {r : Rd} {s : Sp} (h : ¬ (s.items.length : Int) = 0) (h2 : Ac r 6 = 0) : Xp r s = ((Ac (r.nx 1) 4, EA (r.nx 2)), r.nx 4) := by
 have e : bU r s = r.nx 1 := if_neg h
 unfold Xp; rw [if_pos (.inr h2), e, BX, BX]; rfl
theorem vo {r : Rd} {s : Sp} (h : ¬ (s.items.length : Int) = 0) (h2 : ¬ Ac r 6 = 0) (h3 : ((XK r s).to.length : Int) = 0) : Xp r s = (((XK r s).id, EA (r.nx 2)), r.nx 4) := by
 unfold Xp; rw [if_neg (fun q => q.elim h h2), if_pos h3]
theorem vq {r : Rd} {s : Sp} (h : ¬ (s.items.length : Int) = 0) (h2 : ¬ Ac r 6 = 0) (h3 : ¬ ((XK r s).to.length : Int) = 0) : Xp r s = (((XK r s).id, ((XK r s).to.getD (Ac (r.nx 2) (XK r s).to.length).toNat default).addr), r.nx 3) := by
 unfold Xp; rw [if_neg (fun q => q.elim h h2), if_neg h3]
def nK : Mt := GN (lc DZ l0) (fun p => 0 ≤ p.1.p ∧ p.1.p ≤ 999980000) (fun p => ([DZ.enc (KQ p.1).2], SO (KQ p.1).1))
section
attribute [local go_sem] np FS RO AI BK A0 A2 BB BX CJ BU BY lm List.length_append List.length_cons List.length_nil List.map_append List.map_nil Nat.zero_add List.nil_append AS.opn AS.cls AS.nilb AS.renb AS.up Bool.not_false Bool.not_true List.set_set List.set_cons_zero List.set_cons_succ List.set_nil List.mem_singleton forall_eq uG uC FC Aa Bd G6 G7 G8 Du Dv
set_option maxHeartbeats 6400000 in
theorem fD {G : Gt} (hG : Ah G) (hh : G.e 140 = AM np ∧ G.e 53 = AM FS ∧ G.e 31 = AM RO) : Gd G 100 (AM nK) := by
 refine If (dp := fun n => !(Nat.beq n 100010 || Nat.beq n 100013)) (fn := Tryz.f100) (n := 1) rfl rfl hG ?_
 rintro ⟨r, ⟨⟩⟩ hpre
 obtain ⟨h1, h2⟩ := hpre
 try dsimp only at h1 h2 ⊢
 obtain ⟨a1, a2, a3, a4⟩ := cO h1 (show r.p ≤ 999990000 by omega)
 have zs := HU a1
 by_cases h : ((Ea r).items.length : Int) > 0
 ·have hb := Bq (r := Gw r) (n := (Ea r).items.length) (by omega) (by omega)
  have hk : 0 ≤ IT r ∧ IT r < (Ea r).items.length := by unfold IT; omega
  by_cases c0 : Lk r = 0
  ·skip
   rw [j4 h c0]
   simp -implicitDefEqProofs only [Tryz.f100, h, c0, eq_self, decide_true, decide_false, Int.reduceEq, go_sem, hh, Int.reduceAdd, seval]
   with_reducible repeat' (first | apply ai | intro _ | ((first | apply s1 | apply s3 | apply s4) <;> intro hb <;> simp -implicitDefEqProofs only [hb, go_sem, hh, Int.reduceAdd, seval] <;> try simp only [qz] at hb))
   all_goals (try simp only [maxLen, tn] at *)
   all_goals first | rfl | omega | decide | assumption | exact CP | exact Ay | exact Ay (l := []) | skip
   all_goals first | (refine AY ?_) | skip
   simp -implicitDefEqProofs only [go_sem, hh, Int.reduceAdd, seval]
   with_reducible repeat' (first | apply ai | intro _ | ((first | apply s1 | apply s3 | apply s4) <;> intro hb <;> simp -implicitDefEqProofs only [hb, go_sem, hh, Int.reduceAdd, seval] <;> try simp only [qz] at hb))
   all_goals (try simp only [maxLen, tn] at *)
   all_goals first | rfl | omega | decide | assumption | exact CP | exact Ay | exact Ay (l := []) | skip
   trace_state
  ·by_cases c1 : Lk r = 1
   ·skip
    rw [j5 h c1]
    simp -implicitDefEqProofs only [Tryz.f100, h, c1, eq_self, decide_true, decide_false, Int.reduceEq, go_sem, hh, Int.reduceAdd, seval]
    with_reducible repeat' (first | apply ai | intro _ | ((first | apply s1 | apply s3 | apply s4) <;> intro hb <;> simp -implicitDefEqProofs only [hb, go_sem, hh, Int.reduceAdd, seval] <;> try simp only [qz] at hb))
    all_goals (try simp only [maxLen, tn] at *)
    all_goals first | rfl | omega | decide | assumption | exact CP | exact Ay | exact Ay (l := []) | skip
    refine Ag (Le.setn 1006 (IT r).toNat (e' := [.v (.int .i64 ((Ea r).items.getD (IT r).toNat default).id), .v (.string ((Ea r).items.getD (IT r).toNat default).frm.user), .v (.string ((Ea r).items.getD (IT r).toNat default).frm.domain), .sl 4 [], .sl 1 (((Ea r).items.getD (IT r).toNat default).body.map AG)]) rfl (.cons (.same _) (.cons (.same _) (.cons (.same _) (.cons (.nil _) (.cons (.same _) .nil)))))) (AY ?_)
    simp -implicitDefEqProofs only [go_sem, hh, Int.reduceAdd, seval]
    with_reducible repeat' (first | apply ai | intro _ | ((first | apply s1 | apply s3 | apply s4) <;> intro hb <;> simp -implicitDefEqProofs only [hb, go_sem, hh, Int.reduceAdd, seval] <;> try simp only [qz] at hb))
    all_goals (try simp only [maxLen, tn] at *)
    all_goals first | rfl | omega | decide | assumption | exact CP | exact Ay | exact Ay (l := []) | skip
    trace_state
   ·by_cases c2 : Lk r = 2
    ·skip
     rw [j6 h c2]
     simp -implicitDefEqProofs only [Tryz.f100, h, c2, eq_self, decide_true, decide_false, Int.reduceEq, go_sem, hh, Int.reduceAdd, seval]
     with_reducible repeat' (first | apply ai | intro _ | ((first | apply s1 | apply s3 | apply s4) <;> intro hb <;> simp -implicitDefEqProofs only [hb, go_sem, hh, Int.reduceAdd, seval] <;> try simp only [qz] at hb))
     all_goals (try simp only [maxLen, tn] at *)
     all_goals first | rfl | omega | decide | assumption | exact CP | exact Ay | exact Ay (l := []) | skip
     have hkl : (IT r).toNat < ((Ea r).items.map An).length := by rw [lm]; omega
     have hto : 0 < ((Ea r).items.getD (IT r).toNat default).to.length := (a1.1 _ (AF (xs := (Ea r).items) (j := (IT r).toNat) (by omega))).1.2.2.2.2.1.1
     refine cF 1006 1910 2910 (IT r).toNat 3 rfl (iu An (by omega)) rfl rfl fun x => AY ?_
     simp -implicitDefEqProofs only [WK hkl, Oi hkl, List.length_set, zy, go_sem, hh, Int.reduceAdd, seval]
     with_reducible repeat' (first | apply ai | intro _ | ((first | apply s1 | apply s3 | apply s4) <;> intro hb <;> simp -implicitDefEqProofs only [hb, go_sem, hh, Int.reduceAdd, seval] <;> try simp only [qz] at hb))
     all_goals (try simp only [maxLen, tn] at *)
     all_goals first | rfl | omega | decide | assumption | exact CP | exact Ay | exact Ay (l := []) | (show AU _ = true; rfl) | skip
     refine XU 1006 1910 2910 (IT r).toNat 3 rfl (jM hkl _) rfl rfl rfl rfl (AY ?_)
     simp -implicitDefEqProofs only [cg, go_sem, hh, Int.reduceAdd, seval]
     with_reducible repeat' (first | apply ai | intro _ | ((first | apply s1 | apply s3 | apply s4) <;> intro hb <;> simp -implicitDefEqProofs only [hb, go_sem, hh, Int.reduceAdd, seval] <;> try simp only [qz] at hb))
     all_goals (try simp only [maxLen, tn] at *)
     all_goals first | rfl | omega | decide | assumption | exact CP | exact Ay | exact Ay (l := []) | skip
     trace_state
    ·by_cases c3 : Lk r = 3
     ·skip
      rw [j7 h c3]
      simp -implicitDefEqProofs only [Tryz.f100, h, c3, eq_self, decide_true, decide_false, Int.reduceEq, go_sem, hh, Int.reduceAdd, seval]
      with_reducible repeat' (first | apply ai | intro _ | ((first | apply s1 | apply s3 | apply s4) <;> intro hb <;> simp -implicitDefEqProofs only [hb, go_sem, hh, Int.reduceAdd, seval] <;> try simp only [qz] at hb))
      all_goals (try simp only [maxLen, tn] at *)
      all_goals first | rfl | omega | decide | assumption | exact CP | exact Ay | exact Ay (l := []) | skip
      all_goals first | (refine AY ?_) | skip
      simp -implicitDefEqProofs only [go_sem, hh, Int.reduceAdd, seval]
      with_reducible repeat' (first | apply ai | intro _ | ((first | apply s1 | apply s3 | apply s4) <;> intro hb <;> simp -implicitDefEqProofs only [hb, go_sem, hh, Int.reduceAdd, seval] <;> try simp only [qz] at hb))
      all_goals (try simp only [maxLen, tn] at *)
      all_goals first | rfl | omega | decide | assumption | exact CP | exact Ay | exact Ay (l := []) | skip
      trace_state
     ·skip
      rw [j8 h ⟨c0, c1, c2, c3⟩]
      simp -implicitDefEqProofs only [Tryz.f100, h, c0, c1, c2, c3, eq_self, decide_true, decide_false, Int.reduceEq, go_sem, hh, Int.reduceAdd, seval]
      with_reducible repeat' (first | apply ai | intro _ | ((first | apply s1 | apply s3 | apply s4) <;> intro hb <;> simp -implicitDefEqProofs only [hb, go_sem, hh, Int.reduceAdd, seval] <;> try simp only [qz] at hb))
      all_goals (try simp only [maxLen, tn] at *)
      all_goals first | rfl | omega | decide | assumption | exact CP | exact Ay | exact Ay (l := []) | skip
      all_goals first | (refine AY ?_) | skip
      simp -implicitDefEqProofs only [go_sem, hh, Int.reduceAdd, seval]
      with_reducible repeat' (first | apply ai | intro _ | ((first | apply s1 | apply s3 | apply s4) <;> intro hb <;> simp -implicitDefEqProofs only [hb, go_sem, hh, Int.reduceAdd, seval] <;> try simp only [qz] at hb))
      all_goals (try simp only [maxLen, tn] at *)
      all_goals first | rfl | omega | decide | assumption | exact CP | exact Ay | exact Ay (l := []) | skip
      trace_state
 ·skip
  rw [j9 h]
  simp -implicitDefEqProofs only [Tryz.f100, h, eq_self, decide_true, decide_false, Int.reduceEq, go_sem, hh, Int.reduceAdd, seval]
  with_reducible repeat' (first | apply ai | intro _ | ((first | apply s1 | apply s3 | apply s4) <;> intro hb <;> simp -implicitDefEqProofs only [hb, go_sem, hh, Int.reduceAdd, seval] <;> try simp only [qz] at hb))
  all_goals (try simp only [maxLen, tn] at *)
  all_goals first | rfl | omega | decide | assumption | exact CP | exact Ay | exact Ay (l := []) | skip
  all_goals first | (refine AY ?_) | skip
  simp -implicitDefEqProofs only [go_sem, hh, Int.reduceAdd, seval]
  with_reducible repeat' (first | apply ai | intro _ | ((first | apply s1 | apply s3 | apply s4) <;> intro hb <;> simp -implicitDefEqProofs only [hb, go_sem, hh, Int.reduceAdd, seval] <;> try simp only [qz] at hb))
  all_goals (try simp only [maxLen, tn] at *)
  all_goals first | rfl | omega | decide | assumption | exact CP | exact Ay | exact Ay (l := []) | skip
  trace_state
end
def zh : Mt := GN (lc DZ (lc N4.ag l0)) (fun p => (0 ≤ p.1.p ∧ p.1.p ≤ 999980000) ∧ FR p.2.1) (fun p => ([DZ.enc (Xp p.1 p.2.1).2, N4.ag.enc p.2.1], .tup [.t (.v (.int .i64 (Xp p.1 p.2.1).1.1)), .agg [.t (.v (.string (Xp p.1 p.2.1).1.2.user)), .t (.v (.string (Xp p.1 p.2.1).1.2.domain))]]))
theorem oxf {r : Rd} {s : Sp} : s.items.getD (Ac (r.nx 1) (s.items.length : Int)).toNat default = XK r s := rfl
section
attribute [local go_sem] FS o9 AI BK A0 A2 BB BX CJ BU BY lm List.length_append List.length_cons List.length_nil List.map_append List.map_nil Nat.zero_add List.nil_append AS.opn AS.cls AS.nilb AS.renb AS.up Bool.not_false Bool.not_true List.set_set List.set_cons_zero List.set_cons_succ List.set_nil List.mem_singleton forall_eq G6 G7 G8 Du Dv oxf
set_option maxHeartbeats 3200000 in
theorem yg {G : Gt} (hG : Ah G) (hh : G.e 53 = AM FS ∧ G.e 55 = AM o9) : Gd G 29 (AM zh) := by
 refine If (dp := fun _ => true) (fn := Tryz.f29) (n := 2) rfl rfl hG ?_
 rintro ⟨r, s, ⟨⟩⟩ hpre
 obtain ⟨⟨h1, h2⟩, zs⟩ := hpre
 try dsimp only at h1 h2 zs ⊢
 by_cases L : (s.items.length : Int) = 0
 ·skip
  rw [vl L]
  simp -implicitDefEqProofs only [Tryz.f29, L, eq_self, decide_true, decide_false, Int.reduceEq, go_sem, hh, Int.reduceAdd, seval]
  with_reducible repeat' (first | apply ai | intro _ | ((first | apply s1 | apply s3 | apply s4) <;> intro hb <;> simp -implicitDefEqProofs only [hb, go_sem, hh, Int.reduceAdd, seval] <;> try simp only [qz] at hb))
  all_goals (try simp only [maxLen, tn] at *)
  all_goals first | rfl | omega | decide | assumption | (show AU _ = true; rfl) | skip
 ·have hb := Bq (r := r.nx 1) (n := s.items.length) (by rw [AI]; omega) (by rw [AI]; omega)
  by_cases P : Ac r 6 = 0
  ·skip
   rw [vn L P]
   simp -implicitDefEqProofs only [Tryz.f29, L, P, eq_self, decide_true, decide_false, Int.reduceEq, go_sem, hh, Int.reduceAdd, seval]
   with_reducible repeat' (first | apply ai | intro _ | ((first | apply s1 | apply s3 | apply s4) <;> intro hb <;> simp -implicitDefEqProofs only [hb, go_sem, hh, Int.reduceAdd, seval] <;> try simp only [qz] at hb))
   all_goals (try simp only [maxLen, tn] at *)
   all_goals first | rfl | omega | decide | assumption | (show AU _ = true; rfl) | skip
  ·have hc := Bq (r := r.nx 2) (n := (XK r s).to.length) (by rw [AI]; omega) (by rw [AI]; omega)
   by_cases Q : ((XK r s).to.length : Int) = 0
   ·skip
    rw [vo L P Q]
    simp -implicitDefEqProofs only [Tryz.f29, L, P, Q, eq_self, decide_true, decide_false, Int.reduceEq, go_sem, hh, Int.reduceAdd, seval]
    with_reducible repeat' (first | apply ai | intro _ | ((first | apply s1 | apply s3 | apply s4) <;> intro hb <;> simp -implicitDefEqProofs only [hb, go_sem, hh, Int.reduceAdd, seval] <;> try simp only [qz] at hb))
    all_goals (try simp only [maxLen, tn] at *)
    all_goals first | rfl | omega | decide | assumption | (show AU _ = true; rfl) | skip
   ·skip
    rw [vq L P Q]
    simp -implicitDefEqProofs only [Tryz.f29, L, P, Q, eq_self, decide_true, decide_false, Int.reduceEq, go_sem, hh, Int.reduceAdd, seval]
    with_reducible repeat' (first | apply ai | intro _ | ((first | apply s1 | apply s3 | apply s4) <;> intro hb <;> simp -implicitDefEqProofs only [hb, go_sem, hh, Int.reduceAdd, seval] <;> try simp only [qz] at hb))
    all_goals (try simp only [maxLen, tn] at *)
    all_goals first | rfl | omega | decide | assumption | (show AU _ = true; rfl) | skip
end
def opn (b : List UInt8) : Rd := ⟨if (b.length : Int) > 2000 then b.take 2000 else b, 0⟩
theorem vv {b : List UInt8} (h : (b.length : Int) > 2000) : opn b = ⟨b.take 2000, 0⟩ := by unfold opn; rw [if_pos h]
theorem vu {b : List UInt8} (h : ¬ (b.length : Int) > 2000) : opn b = ⟨b, 0⟩ := by unfold opn; rw [if_neg h]
theorem H0 (b : List UInt8) : (opn b).p = 0 := rfl
theorem vt (b : List UInt8) : (⟨(opn b).b, 0⟩ : Rd) = opn b := rfl
theorem y7 {b : List UInt8} {k : Nat} : List.take k (b.map CH) = (b.take k).map CH := by rw [List.map_take]
theorem z6 : (2000 : Int).toNat = 2000 := rfl
def xx : Ct := Ak (lc Ld.asl l0) (fun p => True) (fun p => DZ.enc (opn p.1))
section
attribute [local go_sem] Jr S1 BB Nd y7 z6 A0 lm List.drop_zero AS.opn AS.cls AS.nilb AS.renb AS.up Bool.not_false Bool.not_true List.set_set List.set_cons_zero List.set_cons_succ List.set_nil List.mem_singleton forall_eq
set_option maxHeartbeats 800000 in
theorem qY {G : Gt} (hG : Ah G) : Gd G 27 (AA 1 xx) := by
 refine gr (fn := Tryz.f27) (n := 1) rfl rfl hG ?_
 rintro ⟨b, ⟨⟩⟩ hpre
 dsimp only
 by_cases L : (b.length : Int) > 2000
 ·rw [vv L]
  simp -implicitDefEqProofs only [Tryz.f27, L, decide_true, go_sem, seval]
  with_reducible repeat' (first | apply ai | intro _ | ((first | apply s1 | apply s3 | apply s4) <;> intro hb <;> simp -implicitDefEqProofs only [hb, go_sem, seval] <;> try simp only [qz] at hb))
  all_goals (try simp only [maxLen, tn] at *)
  all_goals first | rfl | omega | decide | assumption | (show AU _ = true; rfl) | skip
 ·rw [vu L]
  simp -implicitDefEqProofs only [Tryz.f27, L, decide_false, go_sem, seval]
  with_reducible repeat' (first | apply ai | intro _ | ((first | apply s1 | apply s3 | apply s4) <;> intro hb <;> simp -implicitDefEqProofs only [hb, go_sem, seval] <;> try simp only [qz] at hb))
  all_goals (try simp only [maxLen, tn] at *)
  all_goals first | rfl | omega | decide | assumption | (show AU _ = true; rfl) | skip
end
theorem E7 {α : Type} [Inhabited α] {xs ys : List α} (i : Nat) (hl : xs.length = ys.length) (h : ∀ j, j < i → xs.getD j default = ys.getD j default) (hi : xs.length ≤ i) : xs = ys := by
 refine List.ext_getElem hl fun j h1 h2 => ?_
 have := h j (by omega)
 simpa [h1, h2] using this
theorem FD {α : Type} [Inhabited α] {xs ys : List α} {i : Nat} (hall : ∀ j, j < i → xs.getD j default = ys.getD j default) (h : xs.getD i default = ys.getD i default) : ∀ j, j < i + 1 → xs.getD j default = ys.getD j default := fun j hj => by
 by_cases e : j = i
 ·subst e; exact h
 ·exact hall j (by omega)
def eH : Ct := Ak (lc Al.asl (lc Al.asl l0)) (fun p => True) (fun p => .t (.v (.bool (decide (p.1 = p.2.1)))))
section
attribute [local go_sem] lm
set_option maxHeartbeats 800000 in
theorem qW {G : Gt} (hG : Ah G) : Gd G 25 (AA 0 eH) := by
 refine gr (fn := Tryz.f25) (n := 2) rfl rfl hG ?_
 rintro ⟨xs, ys, ⟨⟩⟩ hpre
 simp -implicitDefEqProofs only [Tryz.f25, go_sem, seval] at hpre ⊢
 with_reducible repeat' (first | apply ai | intro _ | ((first | apply s1 | apply s3 | apply s4) <;> intro hb <;> simp -implicitDefEqProofs only [hb, go_sem, seval] <;> try simp only [qz] at hb))
 all_goals (try simp only [maxLen] at *)
 all_goals first | rfl | omega | skip
 ·have : ¬ xs = ys := fun e => hb (by rw [e])
  simp [this]
 ·have hl : xs.length = ys.length := by omega
  refine AE [] (ι := {i : Nat // i ≤ xs.length ∧ ∀ j, j < i → xs.getD j default = ys.getD j default}) (fun p => ⟨[(0, .t (.sl 1 (xs.map AG))), (1, .t (.sl 1 (ys.map AG))), (5, .t (.v (.int .i64 p.1)))], []⟩) (fun p => xs.length - p.1) ⟨0, by simp, by simp⟩ rfl ?_ ?_
  ·simp -implicitDefEqProofs only [go_sem, seval]
   try simp
  ·rintro ⟨i, hi, hall⟩
   simp -implicitDefEqProofs only [go_sem, seval]
   with_reducible repeat' (first | apply ai | intro _ | ((first | apply s1 | apply s3 | apply s4) <;> intro hb <;> simp -implicitDefEqProofs only [hb, go_sem, seval] <;> try simp only [qz] at hb))
   all_goals (try simp only [maxLen, tn] at *)
   all_goals first
    | rfl
    | omega
    | decide
    | (show AU _ = true; rfl)
    | ((have hne : ¬ xs = ys := fun e => by subst e; first | exact hb rfl | (simp at hb; done)); simp [hne]; done)
    | (refine ⟨⟨i + 1, by omega, FD hall (by first | assumption | (simp [*] at *; done))⟩, by dsimp only; omega, ?_⟩
       simp -implicitDefEqProofs only [go_sem, seval]
       try simp
       done)
    | (have hxy := E7 i hl hall (by omega)
       simp [hxy]
       done)
    | skip
end
theorem zH {a b : Ad} : (decide (a.user = b.user) && decide (a.domain = b.domain)) = decide (a = b) := by
 rw [← Bool.decide_and]; exact decide_eq_decide.2 CA.symm
theorem xj {a b : Ad} : ((true != (decide (a.user = b.user) && decide (a.domain = b.domain))) = true) = ¬ a = b := by
 rw [zH]; by_cases h : a = b <;> simp [h]
theorem nA {a b : Ad} : ((true != (decide (a.user = b.user) && decide (a.domain = b.domain))) = false) = (a = b) := by
 rw [zH]; by_cases h : a = b <;> simp [h]
theorem zU {a b : Rc} : (decide (a.addr.user = b.addr.user) && decide (a.addr.domain = b.addr.domain) && decide (a.tries = b.tries) && decide (a.next = b.next)) = decide (a = b) := by
 rw [← Bool.decide_and, ← Bool.decide_and, ← Bool.decide_and]
 exact decide_eq_decide.2 (by rw [mt, CA]; simp [and_assoc])
theorem yz {a b : Rc} : ((true != (decide (a.addr.user = b.addr.user) && decide (a.addr.domain = b.addr.domain) && decide (a.tries = b.tries) && decide (a.next = b.next))) = true) = ¬ a = b := by
 rw [zU]; by_cases h : a = b <;> simp [h]
theorem yy {a b : Rc} : ((true != (decide (a.addr.user = b.addr.user) && decide (a.addr.domain = b.addr.domain) && decide (a.tries = b.tries) && decide (a.next = b.next))) = false) = (a = b) := by
 rw [zU]; by_cases h : a = b <;> simp [h]
def nR : Ct := Ak (lc Iz.ag (lc Iz.ag l0)) (fun p => True) (fun p => .t (.v (.bool (decide (p.1 = p.2.1)))))
section
attribute [local go_sem] eH lm
set_option maxHeartbeats 1600000 in
theorem fa {G : Gt} (hG : Ah G) (hh : G.e 25 = AA 0 eH) : Gd G 125 (AA 0 nR) := by
 refine gr (fn := Tryz.f125) (n := 2) rfl rfl hG ?_
 rintro ⟨a, b, ⟨⟩⟩ hpre
 simp -implicitDefEqProofs only [Tryz.f125, go_sem, hh, seval] at hpre ⊢
 with_reducible repeat' (first | apply ai | intro _ | ((first | apply s1 | apply s3 | apply s4) <;> intro hb <;> simp -implicitDefEqProofs only [hb, go_sem, hh, seval] <;> try simp only [qz] at hb))
 all_goals (try simp only [maxLen, xj, nA] at *)
 all_goals first
  | rfl
  | omega
  | ((have hne : ¬ a = b := fun e => by subst e; simp_all); simp [hne]; done)
  | skip
 have B1 : a.id = b.id := by assumption
 have hbod : a.body = b.body := by assumption
 have hfr : a.frm = b.frm := by assumption
 have hl : a.to.length = b.to.length := by omega
 refine AE [] (ι := {i : Nat // i ≤ a.to.length ∧ ∀ j, j < i → a.to.getD j default = b.to.getD j default}) (fun p => ⟨[(2, .pb 1002 0), (3, .pb 1003 0), (5, .t (.v (.int .i64 p.1)))], [(1002, some (.box ((An a).map .t))), (1003, some (.box ((An b).map .t)))]⟩) (fun p => a.to.length - p.1) ⟨0, by simp, by simp⟩ rfl ?_ ?_
 ·simp -implicitDefEqProofs only [go_sem, hh, seval]
  try simp
 ·rintro ⟨i, hi, hall⟩
  simp -implicitDefEqProofs only [go_sem, hh, seval]
  with_reducible repeat' (first | apply ai | intro _ | ((first | apply s1 | apply s3 | apply s4) <;> intro hb <;> simp -implicitDefEqProofs only [hb, go_sem, hh, seval] <;> try simp only [qz] at hb))
  all_goals (try simp only [maxLen, tn, yz, yy] at *)
  all_goals first
   | rfl
   | omega
   | decide
   | (show AU _ = true; rfl)
   | ((have hne : ¬ a = b := fun e => by subst e; exact hb rfl); simp [hne]; done)
   | (refine ⟨⟨i + 1, by omega, FD hall (by assumption)⟩, by dsimp only; omega, ?_⟩
      simp -implicitDefEqProofs only [go_sem, hh, seval]
      try simp
      done)
   | (have hxy := E7 i hl hall (by omega)
      (have hab : a = b := by rw [mn]; exact ⟨B1, hfr, hxy, hbod⟩); simp [hab]
      done)
   | skip
end
def yI : Ct := Ak (lc N4.ag (lc N4.ag l0)) (fun p => True) (fun p => .t (.v (.bool (decide (p.1 = p.2.1)))))
section
attribute [local go_sem] nR lm qa qb
set_option maxHeartbeats 1600000 in
theorem rU {G : Gt} (hG : Ah G) (hh : G.e 125 = AA 0 nR) : Gd G 72 (AA 0 yI) := by
 refine gr (fn := Tryz.f72) (n := 2) rfl rfl hG ?_
 rintro ⟨a, b, ⟨⟩⟩ hpre
 simp -implicitDefEqProofs only [Tryz.f72, go_sem, hh, seval] at hpre ⊢
 with_reducible repeat' (first | apply ai | intro _ | ((first | apply s1 | apply s3 | apply s4) <;> intro hb <;> simp -implicitDefEqProofs only [hb, go_sem, hh, seval] <;> try simp only [qz] at hb))
 all_goals (try simp only [maxLen] at *)
 all_goals first
  | rfl
  | omega
  | ((have hne : ¬ a = b := fun e => by subst e; simp_all); simp [hne]; done)
  | skip
 have B1 : a.last = b.last := by assumption
 have hl : a.items.length = b.items.length := by omega
 refine AE [] (ι := {i : Nat // i ≤ a.items.length ∧ ∀ j, j < i → a.items.getD j default = b.items.getD j default}) (fun p => ⟨[(2, .pb 1002 0), (3, .pb 1003 0), (5, .t (.v (.int .i64 p.1)))], [(1002, some (.box ((Dx a).map .t))), (1003, some (.box ((Dx b).map .t)))]⟩) (fun p => a.items.length - p.1) ⟨0, by simp, by simp⟩ rfl ?_ ?_
 ·simp -implicitDefEqProofs only [go_sem, hh, seval]
  try simp
 ·rintro ⟨i, hi, hall⟩
  simp -implicitDefEqProofs only [go_sem, hh, seval]
  with_reducible repeat' (first | apply ai | intro _ | ((first | apply s1 | apply s3 | apply s4) <;> intro hb <;> simp -implicitDefEqProofs only [hb, go_sem, hh, seval] <;> try simp only [qz] at hb))
  all_goals (try simp only [maxLen, tn] at *)
  all_goals first
   | rfl
   | omega
   | decide
   | (show AU _ = true; rfl)
   | ((have hne : ¬ a = b := fun e => by subst e; exact hb rfl); simp [hne]; done)
   | (refine ⟨⟨i + 1, by omega, FD hall (by assumption)⟩, by dsimp only; omega, ?_⟩
      simp -implicitDefEqProofs only [go_sem, hh, seval]
      try simp
      done)
   | (have hxy := E7 i hl hall (by omega)
      (have hab : a = b := by rw [mw]; exact ⟨B1, hxy⟩); simp [hab]
      done)
   | skip
end
theorem UY {x0 x1 x2 x3 x4 x5 x6 x7 : T} : Bn 2 4 [x0, x1, x2, x3, x4, x5, x6, x7] = [[x0, x1], [x2, x3], [x4, x5], [x6, x7]] := rfl
def FB (k : Int) : List Cf :=
 if k = 0 then [⟨⟨#[111, 110, 101, 46, 111, 114, 103]⟩, [⟨#[111, 110, 101, 46, 111, 114, 103]⟩, ⟨#[97, 46, 111, 110, 101, 46, 111, 114, 103]⟩], [⟨⟨#[116, 119, 111, 46, 111, 114, 103]⟩, ⟨#[116, 119, 111, 46, 111, 114, 103]⟩⟩, ⟨⟨#[110, 101, 116]⟩, ⟨#[104, 117, 98, 46, 110, 101, 116]⟩⟩, ⟨⟨#[99, 111, 109]⟩, ⟨#[104, 117, 98, 46, 110, 101, 116]⟩⟩]⟩, ⟨⟨#[116, 119, 111, 46, 111, 114, 103]⟩, [⟨#[116, 119, 111, 46, 111, 114, 103]⟩], [⟨⟨#[120, 46, 99, 111, 109]⟩, ⟨#[111, 110, 101, 46, 111, 114, 103]⟩⟩, ⟨⟨#[111, 110, 101, 46, 111, 114, 103]⟩, ⟨#[111, 110, 101, 46, 111, 114, 103]⟩⟩]⟩, ⟨⟨#[104, 117, 98, 46, 110, 101, 116]⟩, [⟨#[104, 117, 98, 46, 110, 101, 116]⟩, ⟨#[111, 116, 104, 101, 114, 46, 99, 111, 109]⟩], [⟨⟨#[111, 110, 101, 46, 111, 114, 103]⟩, ⟨#[111, 110, 101, 46, 111, 114, 103]⟩⟩, ⟨⟨#[116, 119, 111, 46, 111, 114, 103]⟩, ⟨#[116, 119, 111, 46, 111, 114, 103]⟩⟩, ⟨⟨#[102, 97, 114, 46, 99, 111, 109]⟩, ⟨#[103, 111, 110, 101, 46, 99, 111, 109]⟩⟩, ⟨⟨#[120, 46, 99, 111, 109]⟩, ⟨#[116, 119, 111, 46, 111, 114, 103]⟩⟩]⟩]
 else if k = 1 then [⟨⟨#[111, 110, 101, 46, 111, 114, 103]⟩, [⟨#[111, 110, 101, 46, 111, 114, 103]⟩, ⟨#[97, 46, 111, 110, 101, 46, 111, 114, 103]⟩], [⟨⟨#[116, 119, 111, 46, 111, 114, 103]⟩, ⟨#[116, 119, 111, 46, 111, 114, 103]⟩⟩, ⟨⟨#[110, 101, 116]⟩, ⟨#[104, 117, 98, 46, 110, 101, 116]⟩⟩, ⟨⟨#[99, 111, 109]⟩, ⟨#[104, 117, 98, 46, 110, 101, 116]⟩⟩]⟩, ⟨⟨#[116, 119, 111, 46, 111, 114, 103]⟩, [⟨#[116, 119, 111, 46, 111, 114, 103]⟩], [⟨⟨#[111, 114, 103]⟩, ⟨#[111, 110, 101, 46, 111, 114, 103]⟩⟩, ⟨⟨#[104, 117, 98, 46, 110, 101, 116]⟩, ⟨#[104, 117, 98, 46, 110, 101, 116]⟩⟩]⟩]
 else if k = 2 then [⟨⟨#[111, 110, 101, 46, 111, 114, 103]⟩, [⟨#[111, 110, 101, 46, 111, 114, 103]⟩, ⟨#[97, 46, 111, 110, 101, 46, 111, 114, 103]⟩], [⟨⟨#[116, 119, 111, 46, 111, 114, 103]⟩, ⟨#[116, 119, 111, 46, 111, 114, 103]⟩⟩, ⟨⟨#[110, 101, 116]⟩, ⟨#[104, 117, 98, 46, 110, 101, 116]⟩⟩]⟩, ⟨⟨#[116, 119, 111, 46, 111, 114, 103]⟩, [⟨#[116, 119, 111, 46, 111, 114, 103]⟩], [⟨⟨#[111, 114, 103]⟩, ⟨#[111, 110, 101, 46, 111, 114, 103]⟩⟩, ⟨⟨#[104, 117, 98, 46, 110, 101, 116]⟩, ⟨#[104, 117, 98, 46, 110, 101, 116]⟩⟩, ⟨⟨#[99, 111, 109]⟩, ⟨#[104, 117, 98, 46, 110, 101, 116]⟩⟩]⟩, ⟨⟨#[104, 117, 98, 46, 110, 101, 116]⟩, [⟨#[104, 117, 98, 46, 110, 101, 116]⟩, ⟨#[111, 116, 104, 101, 114, 46, 99, 111, 109]⟩], [⟨⟨#[111, 110, 101, 46, 111, 114, 103]⟩, ⟨#[111, 110, 101, 46, 111, 114, 103]⟩⟩, ⟨⟨#[116, 119, 111, 46, 111, 114, 103]⟩, ⟨#[116, 119, 111, 46, 111, 114, 103]⟩⟩, ⟨⟨#[102, 97, 114, 46, 99, 111, 109]⟩, ⟨#[103, 111, 110, 101, 46, 99, 111, 109]⟩⟩, ⟨⟨#[120, 46, 99, 111, 109]⟩, ⟨#[116, 119, 111, 46, 111, 114, 103]⟩⟩]⟩]
 else [⟨⟨#[111, 110, 101, 46, 111, 114, 103]⟩, [⟨#[111, 110, 101, 46, 111, 114, 103]⟩, ⟨#[97, 46, 111, 110, 101, 46, 111, 114, 103]⟩], [⟨⟨#[116, 119, 111, 46, 111, 114, 103]⟩, ⟨#[116, 119, 111, 46, 111, 114, 103]⟩⟩, ⟨⟨#[110, 101, 116]⟩, ⟨#[104, 117, 98, 46, 110, 101, 116]⟩⟩, ⟨⟨#[99, 111, 109]⟩, ⟨#[104, 117, 98, 46, 110, 101, 116]⟩⟩]⟩, ⟨⟨#[116, 119, 111, 46, 111, 114, 103]⟩, [⟨#[116, 119, 111, 46, 111, 114, 103]⟩], [⟨⟨#[111, 114, 103]⟩, ⟨#[111, 110, 101, 46, 111, 114, 103]⟩⟩, ⟨⟨#[104, 117, 98, 46, 110, 101, 116]⟩, ⟨#[104, 117, 98, 46, 110, 101, 116]⟩⟩]⟩, ⟨⟨#[104, 117, 98, 46, 110, 101, 116]⟩, [⟨#[104, 117, 98, 46, 110, 101, 116]⟩, ⟨#[111, 116, 104, 101, 114, 46, 99, 111, 109]⟩], [⟨⟨#[111, 110, 101, 46, 111, 114, 103]⟩, ⟨#[111, 110, 101, 46, 111, 114, 103]⟩⟩, ⟨⟨#[116, 119, 111, 46, 111, 114, 103]⟩, ⟨#[116, 119, 111, 46, 111, 114, 103]⟩⟩, ⟨⟨#[102, 97, 114, 46, 99, 111, 109]⟩, ⟨#[103, 111, 110, 101, 46, 99, 111, 109]⟩⟩, ⟨⟨#[120, 46, 99, 111, 109]⟩, ⟨#[116, 119, 111, 46, 111, 114, 103]⟩⟩]⟩]
def Dg (r : Rd) : List Cf := FB (Ac r 5)
theorem pD {r : Rd} (h : Ac r 5 = 0) : Dg r = [⟨⟨#[111, 110, 101, 46, 111, 114, 103]⟩, [⟨#[111, 110, 101, 46, 111, 114, 103]⟩, ⟨#[97, 46, 111, 110, 101, 46, 111, 114, 103]⟩], [⟨⟨#[116, 119, 111, 46, 111, 114, 103]⟩, ⟨#[116, 119, 111, 46, 111, 114, 103]⟩⟩, ⟨⟨#[110, 101, 116]⟩, ⟨#[104, 117, 98, 46, 110, 101, 116]⟩⟩, ⟨⟨#[99, 111, 109]⟩, ⟨#[104, 117, 98, 46, 110, 101, 116]⟩⟩]⟩, ⟨⟨#[116, 119, 111, 46, 111, 114, 103]⟩, [⟨#[116, 119, 111, 46, 111, 114, 103]⟩], [⟨⟨#[120, 46, 99, 111, 109]⟩, ⟨#[111, 110, 101, 46, 111, 114, 103]⟩⟩, ⟨⟨#[111, 110, 101, 46, 111, 114, 103]⟩, ⟨#[111, 110, 101, 46, 111, 114, 103]⟩⟩]⟩, ⟨⟨#[104, 117, 98, 46, 110, 101, 116]⟩, [⟨#[104, 117, 98, 46, 110, 101, 116]⟩, ⟨#[111, 116, 104, 101, 114, 46, 99, 111, 109]⟩], [⟨⟨#[111, 110, 101, 46, 111, 114, 103]⟩, ⟨#[111, 110, 101, 46, 111, 114, 103]⟩⟩, ⟨⟨#[116, 119, 111, 46, 111, 114, 103]⟩, ⟨#[116, 119, 111, 46, 111, 114, 103]⟩⟩, ⟨⟨#[102, 97, 114, 46, 99, 111, 109]⟩, ⟨#[103, 111, 110, 101, 46, 99, 111, 109]⟩⟩, ⟨⟨#[120, 46, 99, 111, 109]⟩, ⟨#[116, 119, 111, 46, 111, 114, 103]⟩⟩]⟩] := by unfold Dg FB; rw [if_pos h]
theorem pE {r : Rd} (h : Ac r 5 = 1) : Dg r = [⟨⟨#[111, 110, 101, 46, 111, 114, 103]⟩, [⟨#[111, 110, 101, 46, 111, 114, 103]⟩, ⟨#[97, 46, 111, 110, 101, 46, 111, 114, 103]⟩], [⟨⟨#[116, 119, 111, 46, 111, 114, 103]⟩, ⟨#[116, 119, 111, 46, 111, 114, 103]⟩⟩, ⟨⟨#[110, 101, 116]⟩, ⟨#[104, 117, 98, 46, 110, 101, 116]⟩⟩, ⟨⟨#[99, 111, 109]⟩, ⟨#[104, 117, 98, 46, 110, 101, 116]⟩⟩]⟩, ⟨⟨#[116, 119, 111, 46, 111, 114, 103]⟩, [⟨#[116, 119, 111, 46, 111, 114, 103]⟩], [⟨⟨#[111, 114, 103]⟩, ⟨#[111, 110, 101, 46, 111, 114, 103]⟩⟩, ⟨⟨#[104, 117, 98, 46, 110, 101, 116]⟩, ⟨#[104, 117, 98, 46, 110, 101, 116]⟩⟩]⟩] := by unfold Dg FB; rw [if_neg (by omega), if_pos h]
theorem pF {r : Rd} (h : Ac r 5 = 2) : Dg r = [⟨⟨#[111, 110, 101, 46, 111, 114, 103]⟩, [⟨#[111, 110, 101, 46, 111, 114, 103]⟩, ⟨#[97, 46, 111, 110, 101, 46, 111, 114, 103]⟩], [⟨⟨#[116, 119, 111, 46, 111, 114, 103]⟩, ⟨#[116, 119, 111, 46, 111, 114, 103]⟩⟩, ⟨⟨#[110, 101, 116]⟩, ⟨#[104, 117, 98, 46, 110, 101, 116]⟩⟩]⟩, ⟨⟨#[116, 119, 111, 46, 111, 114, 103]⟩, [⟨#[116, 119, 111, 46, 111, 114, 103]⟩], [⟨⟨#[111, 114, 103]⟩, ⟨#[111, 110, 101, 46, 111, 114, 103]⟩⟩, ⟨⟨#[104, 117, 98, 46, 110, 101, 116]⟩, ⟨#[104, 117, 98, 46, 110, 101, 116]⟩⟩, ⟨⟨#[99, 111, 109]⟩, ⟨#[104, 117, 98, 46, 110, 101, 116]⟩⟩]⟩, ⟨⟨#[104, 117, 98, 46, 110, 101, 116]⟩, [⟨#[104, 117, 98, 46, 110, 101, 116]⟩, ⟨#[111, 116, 104, 101, 114, 46, 99, 111, 109]⟩], [⟨⟨#[111, 110, 101, 46, 111, 114, 103]⟩, ⟨#[111, 110, 101, 46, 111, 114, 103]⟩⟩, ⟨⟨#[116, 119, 111, 46, 111, 114, 103]⟩, ⟨#[116, 119, 111, 46, 111, 114, 103]⟩⟩, ⟨⟨#[102, 97, 114, 46, 99, 111, 109]⟩, ⟨#[103, 111, 110, 101, 46, 99, 111, 109]⟩⟩, ⟨⟨#[120, 46, 99, 111, 109]⟩, ⟨#[116, 119, 111, 46, 111, 114, 103]⟩⟩]⟩] := by unfold Dg FB; rw [if_neg (by omega), if_neg (by omega), if_pos h]
theorem pG {r : Rd} (h : ¬ Ac r 5 = 0 ∧ ¬ Ac r 5 = 1 ∧ ¬ Ac r 5 = 2) : Dg r = [⟨⟨#[111, 110, 101, 46, 111, 114, 103]⟩, [⟨#[111, 110, 101, 46, 111, 114, 103]⟩, ⟨#[97, 46, 111, 110, 101, 46, 111, 114, 103]⟩], [⟨⟨#[116, 119, 111, 46, 111, 114, 103]⟩, ⟨#[116, 119, 111, 46, 111, 114, 103]⟩⟩, ⟨⟨#[110, 101, 116]⟩, ⟨#[104, 117, 98, 46, 110, 101, 116]⟩⟩, ⟨⟨#[99, 111, 109]⟩, ⟨#[104, 117, 98, 46, 110, 101, 116]⟩⟩]⟩, ⟨⟨#[116, 119, 111, 46, 111, 114, 103]⟩, [⟨#[116, 119, 111, 46, 111, 114, 103]⟩], [⟨⟨#[111, 114, 103]⟩, ⟨#[111, 110, 101, 46, 111, 114, 103]⟩⟩, ⟨⟨#[104, 117, 98, 46, 110, 101, 116]⟩, ⟨#[104, 117, 98, 46, 110, 101, 116]⟩⟩]⟩, ⟨⟨#[104, 117, 98, 46, 110, 101, 116]⟩, [⟨#[104, 117, 98, 46, 110, 101, 116]⟩, ⟨#[111, 116, 104, 101, 114, 46, 99, 111, 109]⟩], [⟨⟨#[111, 110, 101, 46, 111, 114, 103]⟩, ⟨#[111, 110, 101, 46, 111, 114, 103]⟩⟩, ⟨⟨#[116, 119, 111, 46, 111, 114, 103]⟩, ⟨#[116, 119, 111, 46, 111, 114, 103]⟩⟩, ⟨⟨#[102, 97, 114, 46, 99, 111, 109]⟩, ⟨#[103, 111, 110, 101, 46, 99, 111, 109]⟩⟩, ⟨⟨#[120, 46, 99, 111, 109]⟩, ⟨#[116, 119, 111, 46, 111, 114, 103]⟩⟩]⟩] := by unfold Dg FB; rw [if_neg h.1, if_neg h.2.1, if_neg h.2.2]
def O4 (c : Cf) : Bool := Nat.ble c.name.size 100 && (Nat.ble c.own.length 10 && (c.own.all (fun s => Nat.ble s.size 100) && (Nat.ble c.ways.length 10 && c.ways.all fun w => Nat.ble w.ends.size 100 && Nat.ble w.to.size 100)))
theorem NH (k : Int) : (FB k).all O4 = true ∧ 2 ≤ (FB k).length ∧ (FB k).length ≤ 3 := by
 unfold FB
 split
 ·exact ⟨by decide +kernel, by decide, by decide⟩
 ·split
  ·exact ⟨by decide +kernel, by decide, by decide⟩
  ·split
   ·exact ⟨by decide +kernel, by decide, by decide⟩
   ·exact ⟨by decide +kernel, by decide, by decide⟩
def WX (r : Rd) : Cf := (Dg r).getD (Ac (r.nx 1) (Dg r).length).toNat default
theorem kH {r : Rd} (h : 0 ≤ r.p) (h1 : r.p ≤ 999999000) : O4 (WX r) = true := by
 have hb := Bq (r := r.nx 1) (n := (Dg r).length) (by rw [AI]; omega) (by rw [AI]; omega)
 obtain ⟨h2, h3, h4⟩ := NH (Ac r 5)
 have e : FB (Ac r 5) = Dg r := rfl
 rw [e] at h2 h3
 exact List.all_eq_true.1 h2 _ (AF (by omega))
def B2 (r : Rd) : Cf × Rd :=
 let c := WX r
 let k := Ac (r.nx 2) 10
 if k = 0 then (⟨Mb (r.nx 3) [⟨#[]⟩, ⟨#[65]⟩, ⟨#[97, 46, 46, 98]⟩], c.own, c.ways⟩, r.nx 4)
 else if k = 1 then (⟨c.name, c.own ++ [⟨#[98, 46, 111, 114, 103]⟩, ⟨#[99, 46, 111, 114, 103]⟩], c.ways⟩, r.nx 3)
 else if k = 2 then (⟨c.name, c.own, c.ways ++ [⟨Mb (r.nx 3) [⟨#[]⟩, ⟨#[98, 46, 111, 114, 103]⟩, ⟨#[111, 110, 101, 46, 111, 114, 103]⟩], ⟨#[116, 119, 111, 46, 111, 114, 103]⟩⟩]⟩, r.nx 4)
 else (c, r.nx 3)
theorem T0 {r : Rd} (h : Ac (r.nx 2) 10 = 0) : B2 r = (⟨Mb (r.nx 3) [⟨#[]⟩, ⟨#[65]⟩, ⟨#[97, 46, 46, 98]⟩], (WX r).own, (WX r).ways⟩, r.nx 4) := by unfold B2; dsimp only; rw [if_pos h]
theorem T1 {r : Rd} (h : Ac (r.nx 2) 10 = 1) : B2 r = (⟨(WX r).name, (WX r).own ++ [⟨#[98, 46, 111, 114, 103]⟩, ⟨#[99, 46, 111, 114, 103]⟩], (WX r).ways⟩, r.nx 3) := by unfold B2; dsimp only; rw [if_neg (by omega), if_pos h]
theorem T2 {r : Rd} (h : Ac (r.nx 2) 10 = 2) : B2 r = (⟨(WX r).name, (WX r).own, (WX r).ways ++ [⟨Mb (r.nx 3) [⟨#[]⟩, ⟨#[98, 46, 111, 114, 103]⟩, ⟨#[111, 110, 101, 46, 111, 114, 103]⟩], ⟨#[116, 119, 111, 46, 111, 114, 103]⟩⟩]⟩, r.nx 4) := by unfold B2; dsimp only; rw [if_neg (by omega), if_neg (by omega), if_pos h]
theorem T3 {r : Rd} (h : ¬ Ac (r.nx 2) 10 = 0 ∧ ¬ Ac (r.nx 2) 10 = 1 ∧ ¬ Ac (r.nx 2) 10 = 2) : B2 r = (WX r, r.nx 3) := by unfold B2; dsimp only; rw [if_neg h.1, if_neg h.2.1, if_neg h.2.2]
theorem CU {n : Nat} {es : List (List T)} : cellAV false (.sl n es) = .t (.sl n es) := rfl
theorem kI {r : Rd} : (Dg r).getD (Ac (r.nx 1) (Dg r).length).toNat default = WX r := rfl
def Y3 : Mt := GN (lc DZ l0) (fun p => 0 ≤ p.1.p ∧ p.1.p ≤ 999990000) (fun p => ([DZ.enc (p.1.nx 1)], .o false 3 ((Dg p.1).map Cu)))
section
attribute [local go_sem] FS AI BK A0 A2 BB BX CJ BU BY lm List.length_append List.length_cons List.length_nil List.map_append List.map_nil Nat.zero_add List.nil_append AS.opn AS.cls AS.nilb AS.renb AS.up Bool.not_false Bool.not_true List.set_set List.set_cons_zero List.set_cons_succ List.set_nil List.mem_singleton forall_eq FC Aa Bd G6 G7 G8 Du Dv UY
set_option maxHeartbeats 6400000 in
theorem f8 {G : Gt} (hG : Ah G) (hh : G.e 53 = AM FS) : Gd G 151 (AM Y3) := by
 refine If (dp := fun n => !(Nat.beq n 36 || Nat.beq n 52)) (fn := Tryz.f151) (n := 1) rfl rfl hG ?_
 rintro ⟨r, ⟨⟩⟩ hpre
 obtain ⟨h1, h2⟩ := hpre
 try dsimp only at h1 h2 ⊢
 by_cases c0 : Ac r 5 = 0
 ·skip
  rw [pD c0]
  simp -implicitDefEqProofs only [Tryz.f151, c0, eq_self, decide_true, decide_false, Int.reduceEq, go_sem, hh, Int.reduceAdd, seval]
  with_reducible repeat' (first | apply ai | intro _ | ((first | apply s1 | apply s3 | apply s4) <;> intro hb <;> simp -implicitDefEqProofs only [hb, go_sem, hh, Int.reduceAdd, seval] <;> try simp only [qz] at hb))
  all_goals (try simp only [maxLen, tn] at *)
  all_goals first | rfl | omega | decide | assumption | (show AU _ = true; rfl) | skip
 ·by_cases c1 : Ac r 5 = 1
  ·skip
   rw [pE c1]
   simp -implicitDefEqProofs only [Tryz.f151, c1, eq_self, decide_true, decide_false, Int.reduceEq, go_sem, hh, Int.reduceAdd, seval]
   with_reducible repeat' (first | apply ai | intro _ | ((first | apply s1 | apply s3 | apply s4) <;> intro hb <;> simp -implicitDefEqProofs only [hb, go_sem, hh, Int.reduceAdd, seval] <;> try simp only [qz] at hb))
   all_goals (try simp only [maxLen, tn] at *)
   all_goals first | rfl | omega | decide | assumption | (show AU _ = true; rfl) | skip
  ·by_cases c2 : Ac r 5 = 2
   ·skip
    rw [pF c2]
    simp -implicitDefEqProofs only [Tryz.f151, c2, eq_self, decide_true, decide_false, Int.reduceEq, go_sem, hh, Int.reduceAdd, seval]
    with_reducible repeat' (first | apply ai | intro _ | ((first | apply s1 | apply s3 | apply s4) <;> intro hb <;> simp -implicitDefEqProofs only [hb, go_sem, hh, Int.reduceAdd, seval] <;> try simp only [qz] at hb))
    all_goals (try simp only [maxLen, tn] at *)
    all_goals first | rfl | omega | decide | assumption | (show AU _ = true; rfl) | skip
   ·skip
    rw [pG ⟨c0, c1, c2⟩]
    simp -implicitDefEqProofs only [Tryz.f151, c0, c1, c2, eq_self, decide_true, decide_false, Int.reduceEq, go_sem, hh, Int.reduceAdd, seval]
    with_reducible repeat' (first | apply ai | intro _ | ((first | apply s1 | apply s3 | apply s4) <;> intro hb <;> simp -implicitDefEqProofs only [hb, go_sem, hh, Int.reduceAdd, seval] <;> try simp only [qz] at hb))
    all_goals (try simp only [maxLen, tn] at *)
    all_goals first | rfl | omega | decide | assumption | (show AU _ = true; rfl) | skip
end
def nW : Mt := GN (lc DZ l0) (fun p => 0 ≤ p.1.p ∧ p.1.p ≤ 999990000) (fun p => ([DZ.enc (p.1.nx 2)], IH.ag.enc (WX p.1)))
section
attribute [local go_sem] FS Y3 AI BK A0 A2 BB BX CJ BU BY lm List.length_append List.length_cons List.length_nil List.map_append List.map_nil Nat.zero_add List.nil_append AS.opn AS.cls AS.nilb AS.renb AS.up Bool.not_false Bool.not_true List.set_set List.set_cons_zero List.set_cons_succ List.set_nil List.mem_singleton forall_eq kI CU Aa
set_option maxHeartbeats 1600000 in
theorem ff {G : Gt} (hG : Ah G) (hh : G.e 53 = AM FS ∧ G.e 151 = AM Y3) : Gd G 130 (AM nW) := by
 refine If (dp := fun _ => true) (fn := Tryz.f130) (n := 1) rfl rfl hG ?_
 rintro ⟨r, ⟨⟩⟩ hpre
 obtain ⟨h1, h2⟩ := hpre
 try dsimp only at h1 h2 ⊢
 obtain ⟨q2, q3, q4⟩ := NH (Ac r 5)
 have e : FB (Ac r 5) = Dg r := rfl
 rw [e] at q3 q4
 have hb := Bq (r := r.nx 1) (n := (Dg r).length) (by rw [AI]; omega) (by rw [AI]; omega)
 simp -implicitDefEqProofs only [Tryz.f130, go_sem, hh, Int.reduceAdd, seval]
 with_reducible repeat' (first | apply ai | intro _ | ((first | apply s1 | apply s3 | apply s4) <;> intro hb <;> simp -implicitDefEqProofs only [hb, go_sem, hh, Int.reduceAdd, seval] <;> try simp only [qz] at hb))
 all_goals (try simp only [maxLen, tn] at *)
 all_goals first | rfl | omega | decide | assumption | (show AU _ = true; rfl) | skip
end
def ua : Mt := GN (lc DZ l0) (fun p => 0 ≤ p.1.p ∧ p.1.p ≤ 999980000) (fun p => ([DZ.enc (B2 p.1).2], IH.ag.enc (B2 p.1).1))
section
attribute [local go_sem] FS RN nW AI BK A0 A2 BB BX CJ BU BY lm List.length_append List.length_cons List.length_nil List.map_append List.map_nil Nat.zero_add List.nil_append AS.opn AS.cls AS.nilb AS.renb AS.up Bool.not_false Bool.not_true List.set_set List.set_cons_zero List.set_cons_succ List.set_nil List.mem_singleton forall_eq kI Aa FC Fj G6 G7 G8 Du Dv UY
set_option maxHeartbeats 6400000 in
theorem ra {G : Gt} (hG : Ah G) (hh : G.e 53 = AM FS ∧ G.e 30 = AM RN ∧ G.e 130 = AM nW) : Gd G 78 (AM ua) := by
 refine If (dp := fun _ => true) (fn := Tryz.f78) (n := 1) rfl rfl hG ?_
 rintro ⟨r, ⟨⟩⟩ hpre
 obtain ⟨h1, h2⟩ := hpre
 try dsimp only at h1 h2 ⊢
 have hc := kH h1 (show r.p ≤ 999999000 by omega)
 unfold O4 at hc
 simp only [Bool.and_eq_true, Nat.ble_eq] at hc
 obtain ⟨z1, z2, z3, z4, z5⟩ := hc
 by_cases c0 : Ac (r.nx 2) 10 = 0
 ·rw [T0 c0]
  simp -implicitDefEqProofs only [Tryz.f78, c0, eq_self, decide_true, decide_false, Int.reduceEq, go_sem, hh, Int.reduceAdd, seval]
  with_reducible repeat' (first | apply ai | intro _ | ((first | apply s1 | apply s3 | apply s4) <;> intro hb <;> simp -implicitDefEqProofs only [hb, go_sem, hh, Int.reduceAdd, seval] <;> try simp only [qz] at hb))
  all_goals (try simp only [maxLen, tn] at *)
  all_goals first | rfl | omega | decide | assumption | (show AU _ = true; rfl) | skip
 ·by_cases c1 : Ac (r.nx 2) 10 = 1
  ·rw [T1 c1]
   simp -implicitDefEqProofs only [Tryz.f78, c1, eq_self, decide_true, decide_false, Int.reduceEq, go_sem, hh, Int.reduceAdd, seval]
   with_reducible repeat' (first | apply ai | intro _ | ((first | apply s1 | apply s3 | apply s4) <;> intro hb <;> simp -implicitDefEqProofs only [hb, go_sem, hh, Int.reduceAdd, seval] <;> try simp only [qz] at hb))
   all_goals (try simp only [maxLen, tn] at *)
   all_goals first | rfl | omega | decide | assumption | (show AU _ = true; rfl) | (rename_i q; simp only [List.mem_cons, List.not_mem_nil, or_false] at q; rcases q with rfl | rfl <;> rfl) | skip
  ·by_cases c2 : Ac (r.nx 2) 10 = 2
   ·rw [T2 c2]
    simp -implicitDefEqProofs only [Tryz.f78, c2, eq_self, decide_true, decide_false, Int.reduceEq, go_sem, hh, Int.reduceAdd, seval]
    with_reducible repeat' (first | apply ai | intro _ | ((first | apply s1 | apply s3 | apply s4) <;> intro hb <;> simp -implicitDefEqProofs only [hb, go_sem, hh, Int.reduceAdd, seval] <;> try simp only [qz] at hb))
    all_goals (try simp only [maxLen, tn] at *)
    all_goals first | rfl | omega | decide | assumption | (show AU _ = true; rfl) | skip
   ·rw [T3 ⟨c0, c1, c2⟩]
    simp -implicitDefEqProofs only [Tryz.f78, c0, c1, c2, eq_self, decide_true, decide_false, Int.reduceEq, go_sem, hh, Int.reduceAdd, seval]
    with_reducible repeat' (first | apply ai | intro _ | ((first | apply s1 | apply s3 | apply s4) <;> intro hb <;> simp -implicitDefEqProofs only [hb, go_sem, hh, Int.reduceAdd, seval] <;> try simp only [qz] at hb))
    all_goals (try simp only [maxLen, tn] at *)
    all_goals first | rfl | omega | decide | assumption | (show AU _ = true; rfl) | skip
end
theorem zT {a b : Ls} : (decide (a.mark = b.mark) && decide (a.addr.user = b.addr.user) && decide (a.addr.domain = b.addr.domain)) = decide (a = b) := by
 rw [← Bool.decide_and, ← Bool.decide_and]
 exact decide_eq_decide.2 (by rw [mq, CA]; simp [and_assoc])
theorem yq {a b : Ls} : ((true != (decide (a.mark = b.mark) && decide (a.addr.user = b.addr.user) && decide (a.addr.domain = b.addr.domain))) = true) = ¬ a = b := by
 rw [zT]; by_cases h : a = b <;> simp [h]
theorem yp {a b : Ls} : ((true != (decide (a.mark = b.mark) && decide (a.addr.user = b.addr.user) && decide (a.addr.domain = b.addr.domain))) = false) = (a = b) := by
 rw [zT]; by_cases h : a = b <;> simp [h]
theorem ze {a b : Wy} : (decide (a.ends = b.ends) && decide (a.to = b.to)) = decide (a = b) := by
 rw [← Bool.decide_and]
 exact decide_eq_decide.2 (by rw [m0])
theorem zD {a b : Wy} : ((true != (decide (a.ends = b.ends) && decide (a.to = b.to))) = true) = ¬ a = b := by
 rw [ze]; by_cases h : a = b <;> simp [h]
theorem zC {a b : Wy} : ((true != (decide (a.ends = b.ends) && decide (a.to = b.to))) = false) = (a = b) := by
 rw [ze]; by_cases h : a = b <;> simp [h]
def yJ : Ct := Ak (lc II.asl (lc II.asl l0)) (fun p => True) (fun p => .t (.v (.bool (decide (p.1 = p.2.1)))))
section
attribute [local go_sem] lm
set_option maxHeartbeats 1600000 in
theorem rV {G : Gt} (hG : Ah G) : Gd G 73 (AA 0 yJ) := by
 refine gr (fn := Tryz.f73) (n := 2) rfl rfl hG ?_
 rintro ⟨xs, ys, ⟨⟩⟩ hpre
 simp -implicitDefEqProofs only [Tryz.f73, go_sem, seval] at hpre ⊢
 with_reducible repeat' (first | apply ai | intro _ | ((first | apply s1 | apply s3 | apply s4) <;> intro hb <;> simp -implicitDefEqProofs only [hb, go_sem, seval] <;> try simp only [qz] at hb))
 all_goals (try simp only [maxLen] at *)
 all_goals first | rfl | omega | skip
 ·have : ¬ xs = ys := fun e => hb (by rw [e])
  simp [this]
 ·have hl : xs.length = ys.length := by omega
  refine AE [] (ι := {i : Nat // i ≤ xs.length ∧ ∀ j, j < i → xs.getD j default = ys.getD j default}) (fun p => ⟨[(0, .t (.sl 3 (xs.map Av))), (1, .t (.sl 3 (ys.map Av))), (5, .t (.v (.int .i64 p.1)))], []⟩) (fun p => xs.length - p.1) ⟨0, by simp, by simp⟩ rfl ?_ ?_
  ·simp -implicitDefEqProofs only [go_sem, seval]
   try simp
  ·rintro ⟨i, hi, hall⟩
   simp -implicitDefEqProofs only [go_sem, seval]
   with_reducible repeat' (first | apply ai | intro _ | ((first | apply s1 | apply s3 | apply s4) <;> intro hb <;> simp -implicitDefEqProofs only [hb, go_sem, seval] <;> try simp only [qz] at hb))
   all_goals (try simp only [maxLen, tn, yq, yp] at *)
   all_goals first
    | rfl
    | omega
    | decide
    | (show AU _ = true; rfl)
    | ((have hne : ¬ xs = ys := fun e => by subst e; first | exact hb rfl | (simp at hb; done) | (simp_all; done)); simp [hne]; done)
    | (refine ⟨⟨i + 1, by omega, FD hall (by first | assumption | (simp [*] at *; done))⟩, by dsimp only; omega, ?_⟩
       simp -implicitDefEqProofs only [go_sem, seval]
       try simp
       done)
    | (have hxy := E7 i hl hall (by omega)
       simp [hxy]
       done)
    | skip
end
def xq : Ct := Ak (lc Qf.asl (lc Qf.asl l0)) (fun p => True) (fun p => .t (.v (.bool (decide (p.1 = p.2.1)))))
section
attribute [local go_sem] eH lm
set_option maxHeartbeats 1600000 in
theorem qP {G : Gt} (hG : Ah G) (hh : G.e 25 = AA 0 eH) : Gd G 15 (AA 0 xq) := by
 refine gr (fn := Tryz.f15) (n := 2) rfl rfl hG ?_
 rintro ⟨xs, ys, ⟨⟩⟩ hpre
 simp -implicitDefEqProofs only [Tryz.f15, go_sem, hh, seval] at hpre ⊢
 with_reducible repeat' (first | apply ai | intro _ | ((first | apply s1 | apply s3 | apply s4) <;> intro hb <;> simp -implicitDefEqProofs only [hb, go_sem, hh, seval] <;> try simp only [qz] at hb))
 all_goals (try simp only [maxLen] at *)
 all_goals first | rfl | omega | skip
 ·have : ¬ xs = ys := fun e => hb (by rw [e])
  simp [this]
 ·have hl : xs.length = ys.length := by omega
  refine AE [] (ι := {i : Nat // i ≤ xs.length ∧ ∀ j, j < i → xs.getD j default = ys.getD j default}) (fun p => ⟨[(0, .t (.sl 3 (xs.map Cg))), (1, .t (.sl 3 (ys.map Cg))), (5, .t (.v (.int .i64 p.1)))], []⟩) (fun p => xs.length - p.1) ⟨0, by simp, by simp⟩ rfl ?_ ?_
  ·simp -implicitDefEqProofs only [go_sem, hh, seval]
   try simp
  ·rintro ⟨i, hi, hall⟩
   simp -implicitDefEqProofs only [go_sem, hh, seval]
   with_reducible repeat' (first | apply ai | intro _ | ((first | apply s1 | apply s3 | apply s4) <;> intro hb <;> simp -implicitDefEqProofs only [hb, go_sem, hh, seval] <;> try simp only [qz] at hb))
   all_goals (try simp only [maxLen, tn, xj, nA] at *)
   all_goals first
    | rfl
    | omega
    | decide
    | (show AU _ = true; rfl)
    | ((have hne : ¬ xs = ys := fun e => by subst e; first | exact hb rfl | (simp at hb; done) | (simp_all; done)); simp [hne]; done)
    | (refine ⟨⟨i + 1, by omega, FD hall (by rw [ml]; exact ⟨by assumption, by assumption⟩)⟩, by dsimp only; omega, ?_⟩
       simp -implicitDefEqProofs only [go_sem, hh, seval]
       try simp
       done)
    | (have hxy := E7 i hl hall (by omega)
       simp [hxy]
       done)
    | skip
end
def yH : Ct := Ak (lc IH.ag (lc IH.ag l0)) (fun p => True) (fun p => .t (.v (.bool (decide (p.1 = p.2.1)))))
section
attribute [local go_sem] eH lm
set_option maxHeartbeats 3200000 in
theorem rT {G : Gt} (hG : Ah G) (hh : G.e 25 = AA 0 eH) : Gd G 71 (AA 0 yH) := by
 refine gr (fn := Tryz.f71) (n := 2) rfl rfl hG ?_
 rintro ⟨a, b, ⟨⟩⟩ hpre
 simp -implicitDefEqProofs only [Tryz.f71, go_sem, hh, seval] at hpre ⊢
 with_reducible repeat' (first | apply ai | intro _ | ((first | apply s1 | apply s3 | apply s4) <;> intro hb <;> simp -implicitDefEqProofs only [hb, go_sem, hh, seval] <;> try simp only [qz] at hb))
 all_goals (try simp only [maxLen] at *)
 all_goals first
  | rfl
  | omega
  | ((have hne : ¬ a = b := fun e => by subst e; simp_all); simp [hne]; done)
  | skip
 have h0 : a.name = b.name := by assumption
 have h1 : a.own = b.own := by assumption
 have hl : a.ways.length = b.ways.length := by omega
 refine AE [] (ι := {i : Nat // i ≤ a.ways.length ∧ ∀ j, j < i → a.ways.getD j default = b.ways.getD j default}) (fun p => ⟨[(2, .pb 1002 0), (3, .pb 1003 0), (5, .t (.v (.int .i64 p.1)))], [(1002, some (.box ((Cu a).map .t))), (1003, some (.box ((Cu b).map .t)))]⟩) (fun p => a.ways.length - p.1) ⟨0, by simp, by simp⟩ rfl ?_ ?_
 ·simp -implicitDefEqProofs only [go_sem, hh, seval]
  try simp
 ·rintro ⟨i, hi, hall⟩
  simp -implicitDefEqProofs only [go_sem, hh, seval]
  with_reducible repeat' (first | apply ai | intro _ | ((first | apply s1 | apply s3 | apply s4) <;> intro hb <;> simp -implicitDefEqProofs only [hb, go_sem, hh, seval] <;> try simp only [qz] at hb))
  all_goals (try simp only [maxLen, tn, zD, zC] at *)
  all_goals first
   | rfl
   | omega
   | decide
   | (show AU _ = true; rfl)
   | ((have hne : ¬ a = b := fun e => by subst e; first | exact hb rfl | simp_all); simp [hne]; done)
   | (refine ⟨⟨i + 1, by omega, FD hall (by assumption)⟩, by dsimp only; omega, ?_⟩
      simp -implicitDefEqProofs only [go_sem, hh, seval]
      try simp
      done)
   | (have hxy := E7 i hl hall (by omega)
      (have hab : a = b := by rw [mh]; exact ⟨h0, h1, hxy⟩); simp [hab]
      done)
   | skip
end
def xv : Ct := Ak (lc D7.ag (lc D7.ag l0)) (fun p => True) (fun p => .t (.v (.bool (decide (p.1 = p.2.1)))))
section
attribute [local go_sem] yH yI yJ xq lm
set_option maxHeartbeats 3200000 in
theorem qT {G : Gt} (hG : Ah G) (hh : G.e 71 = AA 0 yH ∧ G.e 72 = AA 0 yI ∧ G.e 73 = AA 0 yJ ∧ G.e 15 = AA 0 xq) : Gd G 22 (AA 0 xv) := by
 refine gr (fn := Tryz.f22) (n := 2) rfl rfl hG ?_
 rintro ⟨a, b, ⟨⟩⟩ hpre
 simp -implicitDefEqProofs only [Tryz.f22, go_sem, hh, seval] at hpre ⊢
 with_reducible repeat' (first | apply ai | intro _ | ((first | apply s1 | apply s3 | apply s4) <;> intro hb <;> simp -implicitDefEqProofs only [hb, go_sem, hh, seval] <;> try simp only [qz] at hb))
 all_goals (try simp only [maxLen] at *)
 all_goals first
  | rfl
  | omega
  | ((have hne : ¬ a = b := fun e => by subst e; simp_all); simp [hne]; done)
  | skip
 have h0 : a.conf = b.conf := by assumption
 have h1 : a.spool = b.spool := by assumption
 have h2 : a.lost = b.lost := by assumption
 have hl : a.boxes.length = b.boxes.length := by omega
 refine AE [] (ι := {i : Nat // i ≤ a.boxes.length ∧ ∀ j, j < i → a.boxes.getD j default = b.boxes.getD j default}) (fun p => ⟨[(2, .pb 1002 0), (3, .pb 1003 0), (5, .t (.v (.int .i64 p.1)))], [(1002, some (.box ((Ai a).map .t))), (1003, some (.box ((Ai b).map .t)))]⟩) (fun p => a.boxes.length - p.1) ⟨0, by simp, by simp⟩ rfl ?_ ?_
 ·simp -implicitDefEqProofs only [go_sem, hh, seval]
  try simp
 ·rintro ⟨i, hi, hall⟩
  simp -implicitDefEqProofs only [go_sem, hh, seval]
  with_reducible repeat' (first | apply ai | intro _ | ((first | apply s1 | apply s3 | apply s4) <;> intro hb <;> simp -implicitDefEqProofs only [hb, go_sem, hh, seval] <;> try simp only [qz] at hb))
  all_goals (try simp only [maxLen, tn, xj, nA] at *)
  all_goals first
   | rfl
   | omega
   | decide
   | (show AU _ = true; rfl)
   | ((have hne : ¬ a = b := fun e => by subst e; first | exact hb rfl | simp_all); simp [hne]; done)
   | (refine ⟨⟨i + 1, by omega, FD hall (by rw [mg]; exact ⟨by assumption, by assumption⟩)⟩, by dsimp only; omega, ?_⟩
      simp -implicitDefEqProofs only [go_sem, hh, seval]
      try simp
      done)
   | (have hxy := E7 i hl hall (by omega)
      (have hab : a = b := by rw [mm]; exact ⟨h0, h1, hxy, h2⟩); simp [hab]
      done)
   | skip
end
end Go.V
