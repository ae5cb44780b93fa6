/- The row. No condition. -/
import Derived.Test.YthmjinhpngfdbaaGreatDoorKC
import Derived.Test.YthmjinhpngfdbaaGreatDoorKB
import Derived.Test.YthmjinhpngfdbaaGreatDoorXB
import Derived.Test.YthmjinhpngfdbaaGreatDoorKA
import Derived.ProofKit
import Derived.Carry
import Derived.WalkKit
import Derived.Test.YthmjinhpngfdbaaGreatDoorCards
import Derived.Test.YthmjinhpngfdbaaGreatDoorTie
import Derived.OpenShut
import Derived.Deep.DeepHandedRow
namespace Go.V
open Go Go.Proofs
set_option maxRecDepth 100000
set_option linter.unusedSimpArgs false
set_option linter.unusedVariables false
open Classical in
noncomputable def Cu (hs : List Hs) (g : Ls) : Int := if ∃ h ∈ hs, DR h g then 0 else 1
theorem Na {hs : List Hs} {g : Ls} (h : ∃ h ∈ hs, DR h g) : Cu hs g = 0 := if_pos h
theorem TA {hs : List Hs} {g : Ls} (h : ¬ ∃ h ∈ hs, DR h g) : Cu hs g = 1 := if_neg h
theorem Jh (hs : List Hs) (g : Ls) : 0 ≤ Cu hs g ∧ Cu hs g ≤ 1 := by unfold Cu; split <;> omega
open Classical in
noncomputable def OT (w : Wd) : Int := if EJ w then At (Cu w.hosts) w.given else -1
theorem JT {w : Wd} (h : EJ w) : OT w = At (Cu w.hosts) w.given := if_pos h
theorem Mr {w : Wd} (h : ¬ EJ w) : OT w = -1 := if_neg h
theorem NY (w : Wd) : 0 ≤ At (Cu w.hosts) w.given ∧ At (Cu w.hosts) w.given ≤ 1 * w.given.length := LM fun g _ => Jh _ g
inductive ON where
 | keeps (g : Ls)
def ON.enc : ON → AV
 | .keeps g => .t (.fn 53 [.rop [.v (.string g.mark), .v (.string g.addr.user), .v (.string g.addr.domain)]])
def ON.dec : AV → Option ON
 | .t (.fn 53 [.rop [.v (.string g0), .v (.string g1), .v (.string g2)]]) => some (.keeps ⟨g0, ⟨g1, g2⟩⟩)
 | _ => none
def ON.sem : ON → Hs → Prop
 | .keeps g, x => DR x g
def ON.pre : ON → Hs → Prop
 | .keeps _, x => FN x
def VP : AD ON where
 enc := ON.enc
 dec := ON.dec
 ed := fun f => by cases f <;> rfl
 de := fun x f h => by
  unfold ON.dec at h
  split at h <;> cases h <;> rfl
theorem Mf {g0 : ByteArray} {g1 : ByteArray} {g2 : ByteArray} : VP.dec (.t (.fn 53 [.rop [.v (.string g0), .v (.string g1), .v (.string g2)]])) = some (.keeps ⟨g0, ⟨g1, g2⟩⟩) := rfl
theorem Mg {g : Ls} : VP.enc (.keeps g) = .t (.fn 53 [.rop [.v (.string g.mark), .v (.string g.addr.user), .v (.string g.addr.domain)]]) := rfl
def xb : Ct := Aj (lc FM.ag (lc FR.ap l0)) (fun p => FN p.1) (fun p => .t (.v (.bool (BA (DR p.1 p.2.1)))))
section
attribute [local go_sem] xc BC BB Bool.not_true Bool.not_false Bc Cv
theorem uI {G : Gt} (hG : Ac G) (hh : G.e 54 = AA 0 xc) : Gd G 53 (AA 0 xb) := by
 refine gr (fn := Tryz.f53) (n := 2) rfl hG ?_
 rintro ⟨x, g, ⟨⟩⟩ hpre
 simp -implicitDefEqProofs only [Tryz.f53, go_sem, hh, seval] at hpre ⊢
 with_reducible repeat' (first | apply ai | intro _ | ((first | apply s1 | apply s2 | apply s3 | apply s4) <;> intro hb <;> simp -implicitDefEqProofs only [hb, go_sem, hh, seval] <;> try simp only [qz] at hb))
 all_goals first | rfl | omega | exact hpre | skip
 all_goals (try (simp only [D8]; done))
 all_goals first | rfl | (rw [A4]; done) | (rw [A4, decide_eq_decide.2]; simp [BV]; done) | (rw [A4]; simp [BV]; done)
end
def ja : Ct := Aj (lc FM.asl (lc VP l0)) (fun p => ∀ x ∈ p.1, p.2.1.pre x) (fun p => .t (.v (.int .i64 (BD p.2.1.sem 0 p.1))))
section
attribute [local go_sem] xb BC BB Bool.not_true Bool.not_false Bc Cv Mf Mg
theorem pO {G : Gt} (hG : Ac G) (hh : G.e 53 = AA 0 xb) : Gd G 115 (AA 0 ja) := by
 refine gr (fn := Tryz.f115) (n := 2) rfl hG ?_
 rintro ⟨xs, f, ⟨⟩⟩ hpre
 have hs := hpre
 dsimp only at hs ⊢
 cases f with
 | keeps g =>
   simp -implicitDefEqProofs only [Tryz.f115, go_sem, hh, seval]
   with_reducible repeat' (first | apply ai | intro _ | ((first | apply s1 | apply s2 | apply s3 | apply s4) <;> intro hb <;> simp -implicitDefEqProofs only [hb, go_sem, hh, seval] <;> try simp only [qz] at hb))
   all_goals first | rfl | omega | skip
   refine AC [] (ι := {i : Nat // i ≤ xs.length ∧ BD (ON.sem (.keeps g)) 0 xs = BD (ON.sem (.keeps g)) i (xs.drop i)}) (fun p => ⟨[(0, .t (.sl 7 (xs.map AY))), (1, VP.enc (.keeps g)), (7, .t (.v (.int .i64 xs.length))), (8, .t (.v (.int .i64 p.1)))], []⟩) (fun p => xs.length - p.1) ⟨0, Nat.zero_le _, rfl⟩ rfl ?_ ?_
   ·simp -implicitDefEqProofs only [go_sem, hh, seval]
    try simp
   ·rintro ⟨i, hi, hix⟩
    by_cases hlt : (i : Int) < xs.length
    ·have hm : xs.getD (i : Int).toNat default ∈ xs := AB (by omega)
     have hsz := hs _ hm
     cases hb : BA (DR (xs.getD (i : Int).toNat default) g)
     ·have hq := hb
      simp -implicitDefEqProofs only [hlt, hq, go_sem, hh, seval]
      with_reducible repeat' (first | apply ai | intro _ | ((first | apply s1 | apply s2 | apply s3 | apply s4) <;> intro hb <;> simp -implicitDefEqProofs only [hb, go_sem, hh, seval] <;> try simp only [qz] at hb))
      all_goals (try simp only [maxLen] at *)
      all_goals first | rfl | omega | with_reducible assumption | exact hsz | exact hsz.1 | exact hsz.2 | exact hsz.2 _ (by assumption) | exact hsz.2.1 | exact hsz.2.2.1 | exact hsz.2.2.2 | trivial | skip
      rw [AM, tn] at hb
      refine ⟨⟨i + 1, by omega, ?_⟩, by dsimp only; omega, ?_⟩
      ·rw [hix, DP (p := ON.sem (.keeps g)) (by omega) hb]
      ·simp -implicitDefEqProofs only [go_sem, hh, seval]
       try simp
     ·have hq := hb
      simp -implicitDefEqProofs only [hlt, hq, go_sem, hh, seval]
      with_reducible repeat' (first | apply ai | intro _ | ((first | apply s1 | apply s2 | apply s3 | apply s4) <;> intro hb <;> simp -implicitDefEqProofs only [hb, go_sem, hh, seval] <;> try simp only [qz] at hb))
      all_goals (try simp only [maxLen] at *)
      all_goals first | rfl | omega | with_reducible assumption | exact hsz | exact hsz.1 | exact hsz.2 | exact hsz.2 _ (by assumption) | exact hsz.2.1 | exact hsz.2.2.1 | exact hsz.2.2.2 | trivial | skip
      rw [AK, tn] at hb
      rw [hix, CX (p := ON.sem (.keeps g)) (by omega) hb]
    ·simp -implicitDefEqProofs only [hlt, go_sem, hh, seval]
     with_reducible repeat' (first | apply ai | intro _ | ((first | apply s1 | apply s2 | apply s3 | apply s4) <;> intro hb <;> simp -implicitDefEqProofs only [hb, go_sem, hh, seval] <;> try simp only [qz] at hb))
     all_goals first | rfl | omega | skip
     all_goals (rw [hix, CV (by omega)])
end
def xa : Ct := Aj (lc FM.asl (lc VP l0)) (fun p => ∀ x ∈ p.1, p.2.1.pre x) (fun p => .t (.v (.bool (BA (∃ x ∈ p.1, p.2.1.sem x)))))
section
attribute [local go_sem] ja BC BB Bool.not_true Bool.not_false Bc Cv Mf Mg
theorem uH {G : Gt} (hG : Ac G) (hh : G.e 115 = AA 0 ja) : Gd G 52 (AA 0 xa) := by
 refine gr (fn := Tryz.f52) (n := 2) rfl hG ?_
 rintro ⟨xs, f, ⟨⟩⟩ hpre
 dsimp only at hpre ⊢
 cases f
 all_goals
  simp -implicitDefEqProofs only [Tryz.f52, go_sem, hh, seval]
  with_reducible repeat' (first | apply ai | intro _ | ((first | apply s1 | apply s2 | apply s3 | apply s4) <;> intro hb <;> simp -implicitDefEqProofs only [hb, go_sem, hh, seval] <;> try simp only [qz] at hb))
  all_goals first | rfl | omega | exact hpre | exact hpre _ (by assumption) | skip
  all_goals (rw [← AP (CW _ 0)]; rw [A4])
end
def xN : Ct := Aj (lc OM.ag l0) (fun p => Gg p.1) (fun p => .t (.v (.int .i64 (OT p.1))))
section
attribute [local go_sem] bi xe AK AM lm
set_option maxHeartbeats 3200000 in
theorem th {G : Gt} (hG : Ac G) (hh : G.e 58 = AA 0 bi ∧ G.e 59 = AA 0 xe) : Gd G 15 (AA 0 xN) := by
 refine gr (fn := Tryz.f15) (n := 1) rfl hG ?_
 rintro ⟨w, ⟨⟩⟩ hpre
 simp -implicitDefEqProofs only [Tryz.f15, go_sem, hh, seval] at hpre ⊢
 obtain ⟨zh, ⟨lg, zg⟩⟩ := hpre
 have zw : Gg w := ⟨zh, ⟨lg, zg⟩⟩
 have hk := NY w
 by_cases h : EJ w
 ·have b1 := An h
  rw [JT h]
  simp -implicitDefEqProofs only [b1, go_sem, hh, seval]
  with_reducible repeat' (first | apply ai | intro _ | ((first | apply s1 | apply s2 | apply s3 | apply s4) <;> intro hb <;> simp -implicitDefEqProofs only [hb, go_sem, hh, seval] <;> try simp only [qz] at hb))
  all_goals first | rfl | omega | assumption | contradiction | skip
  refine AC [] (ι := {p : Nat × Int // p.1 ≤ w.given.length ∧ 0 ≤ p.2 ∧ p.2 + At (Cu w.hosts) (w.given.drop p.1) = At (Cu w.hosts) w.given}) (fun p => ⟨[(1, .pb 1001 0), (3, .t (.v (.int .i64 p.1.2))), (4, .t (.v (.int .i64 p.1.1)))], [(1001, some (.box ((CP w).map .t)))]⟩) (fun p => w.given.length - p.1.1) ⟨(0, 0), by simp, by simp, by simp⟩ rfl ?_ ?_
  ·simp -implicitDefEqProofs only [go_sem, hh, seval]
   try simp
  ·rintro ⟨⟨i, v⟩, hi, h0, hv⟩
   dsimp only at hi h0 hv ⊢
   by_cases hlt : (i : Int) < w.given.length
   ·have Ag := Dz (f := Cu w.hosts) (xs := w.given) (i := i) (by omega)
    have hrest := Dy (f := Cu w.hosts) (xs := w.given) (fun x _ => (Jh _ x).1) (i + 1)
    have had : BL (w.given.getD i default).addr := (h.2.2.1 _ (AB (by omega))).2.2.1
    simp -implicitDefEqProofs only [hlt, decide_true, tn, go_sem, hh, seval]
    with_reducible repeat' (first | apply ai | intro _ | ((first | apply s1 | apply s2 | apply s3 | apply s4) <;> intro hb <;> simp -implicitDefEqProofs only [hb, go_sem, hh, seval] <;> try simp only [qz] at hb))
    all_goals (try simp only [maxLen, tn] at *)
    all_goals first | rfl | omega | skip
    refine AC [] (ι := {p : Nat × Bool // p.1 ≤ w.hosts.length ∧ (p.2 = true ↔ ∃ j, j < p.1 ∧ DR (w.hosts.getD j default) (w.given.getD i default))}) (fun p => ⟨[(1, .pb 1001 0), (3, .t (.v (.int .i64 v))), (4, .t (.v (.int .i64 i))), (5, .t (.v (.bool p.1.2))), (6, .t (.v (.int .i64 p.1.1)))], [(1001, some (.box ((CP w).map .t)))]⟩) (fun p => w.hosts.length - p.1.1) ⟨(0, false), by simp, by simp⟩ rfl ?_ ?_
    ·simp -implicitDefEqProofs only [go_sem, hh, seval]
     try simp
    ·rintro ⟨⟨k, b⟩, hk', hb'⟩
     dsimp only at hk' hb' ⊢
     by_cases hlt2 : (k : Int) < w.hosts.length
     ·have zo := zh.2 _ (AB (xs := w.hosts) (j := k) (by omega))
      cases b
      ·have hn : ¬ ∃ j, j < k ∧ DR (w.hosts.getD j default) (w.given.getD i default) := fun q => by have := hb'.2 q; cases this
       simp -implicitDefEqProofs only [hlt2, decide_true, tn, go_sem, hh, seval]
       with_reducible repeat' (first | apply ai | intro _ | ((first | apply s1 | apply s2 | apply s3 | apply s4) <;> intro hb <;> simp -implicitDefEqProofs only [hb, go_sem, hh, seval] <;> try simp only [qz] at hb))
       all_goals (try simp only [maxLen, tn, AK, AM] at *)
       all_goals first
        | rfl
        | omega
        | decide
        | with_reducible assumption
        | exact ⟨zo, had⟩
        | skip
       refine ⟨⟨(k + 1, BA (DR (w.hosts.getD k default) (w.given.getD i default))), by dsimp only; omega, by dsimp only; rw [AK]; exact ⟨fun q => ⟨k, by omega, q⟩, fun ⟨j, hj, q⟩ => by by_cases e : j = k; (rw [← e]; exact q); (exact absurd ⟨j, by omega, q⟩ hn)⟩⟩, by dsimp only; omega, ?_⟩
       simp -implicitDefEqProofs only [go_sem, hh, seval]
       try simp
      ·have hn : ∃ j, j < k ∧ DR (w.hosts.getD j default) (w.given.getD i default) := hb'.1 rfl
       simp -implicitDefEqProofs only [hlt2, decide_true, tn, go_sem, hh, seval]
       with_reducible repeat' (first | apply ai | intro _ | ((first | apply s1 | apply s2 | apply s3 | apply s4) <;> intro hb <;> simp -implicitDefEqProofs only [hb, go_sem, hh, seval] <;> try simp only [qz] at hb))
       all_goals (try simp only [maxLen, tn, AK, AM] at *)
       all_goals first
        | rfl
        | omega
        | decide
        | with_reducible assumption
        | exact ⟨zo, had⟩
        | skip
       refine ⟨⟨(k + 1, true), by dsimp only; omega, by dsimp only; exact ⟨fun _ => hn.elim fun j q => ⟨j, by omega, q.2⟩, fun _ => rfl⟩⟩, by dsimp only; omega, ?_⟩
       simp -implicitDefEqProofs only [go_sem, hh, seval]
       try simp
     ·have hE : b = true ↔ ∃ x ∈ w.hosts, DR x (w.given.getD i default) := hb'.trans ⟨fun ⟨j, hj, q⟩ => ⟨_, AB (by omega), q⟩, fun q => Classical.byContradiction fun f => Gb (P := fun x : Hs => DR x (w.given.getD i default)) (xs := w.hosts) (fun j hj q' => f ⟨j, by omega, q'⟩) q⟩
      cases b
      ·have hl := TA (hs := w.hosts) (g := (w.given.getD i default)) (fun q => by have := hE.2 q; cases this)
       rw [hl] at Ag
       simp -implicitDefEqProofs only [hlt2, decide_false, Bool.not_false, Bool.not_true, go_sem, hh, seval]
       with_reducible repeat' (first | apply ai | intro _ | ((first | apply s1 | apply s2 | apply s3 | apply s4) <;> intro hb <;> simp -implicitDefEqProofs only [hb, go_sem, hh, seval] <;> try simp only [qz] at hb))
       all_goals (try simp only [maxLen, tn] at *)
       all_goals first | rfl | omega | skip
       refine ⟨⟨(i + 1, v + 1), by dsimp only; omega, by dsimp only; omega, by dsimp only; omega⟩, by dsimp only; omega, ?_⟩
       simp -implicitDefEqProofs only [go_sem, hh, seval]
       try simp
      ·have hl := Na (hs := w.hosts) (g := (w.given.getD i default)) (hE.1 rfl)
       rw [hl] at Ag
       simp -implicitDefEqProofs only [hlt2, decide_false, Bool.not_false, Bool.not_true, go_sem, hh, seval]
       with_reducible repeat' (first | apply ai | intro _ | ((first | apply s1 | apply s2 | apply s3 | apply s4) <;> intro hb <;> simp -implicitDefEqProofs only [hb, go_sem, hh, seval] <;> try simp only [qz] at hb))
       all_goals (try simp only [maxLen, tn] at *)
       all_goals first | rfl | omega | skip
       refine ⟨⟨(i + 1, v), by dsimp only; omega, by dsimp only; omega, by dsimp only; omega⟩, by dsimp only; omega, ?_⟩
       simp -implicitDefEqProofs only [go_sem, hh, seval]
       try simp
   ·have Ag := GN (f := Cu w.hosts) (xs := w.given) (i := i) (by omega)
    simp -implicitDefEqProofs only [hlt, decide_false, go_sem, hh, seval]
    with_reducible repeat' (first | apply ai | intro _ | ((first | apply s1 | apply s2 | apply s3 | apply s4) <;> intro hb <;> simp -implicitDefEqProofs only [hb, go_sem, hh, seval] <;> try simp only [qz] at hb))
    all_goals first | rfl | omega | (rw [← hv, Ag, Int.add_zero]; done)
 ·have b1 := AQ h
  rw [Mr h]
  simp -implicitDefEqProofs only [b1, go_sem, hh, seval]
  with_reducible repeat' (first | apply ai | intro _ | ((first | apply s1 | apply s2 | apply s3 | apply s4) <;> intro hb <;> simp -implicitDefEqProofs only [hb, go_sem, hh, seval] <;> try simp only [qz] at hb))
  all_goals first | rfl | omega | assumption | contradiction
end
def xL : Ct := Aj (lc OM.ag l0) (fun p => Gg p.1) (fun p => .t (.v (.int .i64 (OT p.1))))
section
attribute [local go_sem] bf xa AK AM lm BC BB Bool.not_true Bool.not_false Bc Cv Mf Mg
set_option maxHeartbeats 3200000 in
theorem tf {G : Gt} (hG : Ac G) (hh : G.e 17 = AA 0 bf ∧ G.e 52 = AA 0 xa) : Gd G 13 (AA 0 xL) := by
 refine gr (fn := Tryz.f13) (n := 1) rfl hG ?_
 rintro ⟨w, ⟨⟩⟩ hpre
 simp -implicitDefEqProofs only [Tryz.f13, go_sem, hh, seval] at hpre ⊢
 obtain ⟨zh, ⟨lg, zg⟩⟩ := hpre
 have zw : Gg w := ⟨zh, ⟨lg, zg⟩⟩
 have hk := NY w
 by_cases h : EJ w
 ·have b1 := An h
  rw [JT h]
  simp -implicitDefEqProofs only [b1, go_sem, hh, seval]
  with_reducible repeat' (first | apply ai | intro _ | ((first | apply s1 | apply s2 | apply s3 | apply s4) <;> intro hb <;> simp -implicitDefEqProofs only [hb, go_sem, hh, seval] <;> try simp only [qz] at hb))
  all_goals first | rfl | omega | assumption | contradiction | skip
  refine AC [] (ι := {p : Nat × Int // p.1 ≤ w.given.length ∧ 0 ≤ p.2 ∧ p.2 + At (Cu w.hosts) (w.given.drop p.1) = At (Cu w.hosts) w.given}) (fun p => ⟨[(1, .pb 1001 0), (3, .t (.v (.int .i64 p.1.2))), (10, .t (.sl 3 (w.given.map Ae))), (11, .t (.v (.int .i64 w.given.length))), (12, .t (.v (.int .i64 p.1.1)))], [(1001, some (.box ((CP w).map .t)))]⟩) (fun p => w.given.length - p.1.1) ⟨(0, 0), by simp, by simp, by simp⟩ rfl ?_ ?_
  ·simp -implicitDefEqProofs only [go_sem, hh, seval]
   try simp
  ·rintro ⟨⟨i, v⟩, hi, h0, hv⟩
   dsimp only at hi h0 hv ⊢
   by_cases hlt : (i : Int) < w.given.length
   ·have Ag := Dz (f := Cu w.hosts) (xs := w.given) (i := i) (by omega)
    have hrest := Dy (f := Cu w.hosts) (xs := w.given) (fun x _ => (Jh _ x).1) (i + 1)
    simp -implicitDefEqProofs only [hlt, decide_true, tn, go_sem, hh, seval]
    with_reducible repeat' (first | apply ai | intro _ | ((first | apply s1 | apply s2 | apply s3 | apply s4) <;> intro hb <;> simp -implicitDefEqProofs only [hb, go_sem, hh, seval] <;> try simp only [qz] at hb))
    all_goals (try simp only [maxLen, tn, ON.sem, AK, AM] at *)
    all_goals (try rw [Na (by assumption)] at Ag)
    all_goals (try rw [TA (by assumption)] at Ag)
    all_goals first
     | rfl
     | omega
     | exact zh.2 _ (by assumption)
     | (refine ⟨⟨(i + 1, v), by dsimp only; omega, by dsimp only; omega, by dsimp only; omega⟩, by dsimp only; omega, ?_⟩
        simp -implicitDefEqProofs only [go_sem, hh, seval]
        try simp
        done)
     | (refine ⟨⟨(i + 1, v + 1), by dsimp only; omega, by dsimp only; omega, by dsimp only; omega⟩, by dsimp only; omega, ?_⟩
        simp -implicitDefEqProofs only [go_sem, hh, seval]
        try simp
        done)
   ·have Ag := GN (f := Cu w.hosts) (xs := w.given) (i := i) (by omega)
    simp -implicitDefEqProofs only [hlt, decide_false, go_sem, hh, seval]
    with_reducible repeat' (first | apply ai | intro _ | ((first | apply s1 | apply s2 | apply s3 | apply s4) <;> intro hb <;> simp -implicitDefEqProofs only [hb, go_sem, hh, seval] <;> try simp only [qz] at hb))
    all_goals first | rfl | omega | (rw [← hv, Ag, Int.add_zero]; done)
 ·have b1 := AQ h
  rw [Mr h]
  simp -implicitDefEqProofs only [b1, go_sem, hh, seval]
  with_reducible repeat' (first | apply ai | intro _ | ((first | apply s1 | apply s2 | apply s3 | apply s4) <;> intro hb <;> simp -implicitDefEqProofs only [hb, go_sem, hh, seval] <;> try simp only [qz] at hb))
  all_goals first | rfl | omega | assumption | contradiction
end
def Ca {α β : Type} (f : α → List β) : List α → List β
 | [] => []
 | x :: r => f x ++ Ca f r
section
variable {α β : Type} {f : α → List β}
theorem Ov (f : α → List β) : ∀ xs ys : List α, Ca f (xs ++ ys) = Ca f xs ++ Ca f ys
 | [], _ => rfl
 | x :: r, ys => by show f x ++ Ca f (r ++ ys) = _; rw [Ov f r ys, ← List.append_assoc]; rfl
theorem EW [Inhabited α] (f : α → List β) {xs : List α} {i : Nat} (h : i < xs.length) : Ca f (xs.take (i + 1)) = Ca f (xs.take i) ++ f (xs.getD i default) := by
 rw [List.take_succ_eq_append_getElem h, Ov]
 show _ ++ (f xs[i] ++ []) = _
 rw [List.append_nil]
 simp [h]
theorem HQ (f : α → List β) {xs : List α} {i : Nat} (h : xs.length ≤ i) : Ca f (xs.take i) = Ca f xs := by rw [List.take_of_length_le h]
theorem Fb {y : β} : ∀ {xs : List α}, y ∈ Ca f xs → ∃ x ∈ xs, y ∈ f x
 | x :: r, h => by
   rcases List.mem_append.1 h with h | h
   ·exact ⟨x, by simp, h⟩
   ·obtain ⟨z, hz, q⟩ := Fb (xs := r) h
    exact ⟨z, by simp [hz], q⟩
end
def C1 (a : Ad) (b : Bx) : List Gm := if b.addr = a then b.mails else []
theorem SW {a : Ad} {b : Bx} (h : b.addr = a) : C1 a b = b.mails := if_pos h
theorem SV {a : Ad} {b : Bx} (h : ¬ b.addr = a) : C1 a b = [] := if_neg h
def B7 (a : Ad) (h : Hs) : List Gm := Ca (C1 a) h.boxes
open Classical in
noncomputable def Bz (w : Wd) (a : Ad) : List Gm := if EJ w then Ca (B7 a) w.hosts else []
theorem QL {w : Wd} {a : Ad} (h : EJ w) : Bz w a = Ca (B7 a) w.hosts := if_pos h
theorem Vf {w : Wd} {a : Ad} (h : ¬ EJ w) : Bz w a = [] := if_neg h
theorem Fc {α β : Type} {f : α → List β} {N : α → Int} (h : ∀ x, ((f x).length : Int) ≤ N x) : ∀ xs : List α, ((Ca f xs).length : Int) ≤ At N xs
 | [] => Int.le_refl _
 | x :: r => by
   have h1 := h x
   have h2 := Fc h r
   show ((f x ++ Ca f r).length : Int) ≤ N x + At N r
   rw [List.length_append]; omega
theorem Tf {α : Type} (N : α → Int) : ∀ xs ys : List α, At N (xs ++ ys) = At N xs + At N ys
 | [], ys => by show _ = 0 + _; rw [Int.zero_add]; rfl
 | x :: r, ys => by show N x + At N (r ++ ys) = N x + At N r + At N ys; rw [Tf N r ys]; omega
theorem ZW {α : Type} {N : α → Int} (h : ∀ x, 0 ≤ N x) (xs : List α) : 0 ≤ At N xs := by
 have := Dy (f := N) (xs := xs) (fun x _ => h x) 0
 exact this
theorem ZV {α : Type} [Inhabited α] {N : α → Int} (h : ∀ x, 0 ≤ N x) {xs : List α} {i : Nat} (hi : i < xs.length) : At N (xs.take i) + N (xs.getD i default) ≤ At N xs := by
 have h1 := Tf N (xs.take i) (xs.drop i)
 rw [List.take_append_drop] at h1
 have h2 := Dz (f := N) hi
 have h3 := ZW h (xs.drop (i + 1))
 omega
theorem Ya (b : Bx) : 0 ≤ PT b := by unfold PT; omega
theorem jN (h : Hs) : 0 ≤ Df h := ZW Ya _
theorem MB (a : Ad) (b : Bx) : ((C1 a b).length : Int) ≤ PT b := by
 unfold C1 PT; split
 ·omega
 ·show ((0 : Nat) : Int) ≤ _; omega
theorem KN (a : Ad) (h : Hs) : ((B7 a h).length : Int) ≤ Df h := Fc (MB a) _
def FL (w : Wd) : Int := At Df w.hosts
theorem TV {w : Wd} {a : Ad} {i k n : Nat} (hi : i < w.hosts.length) (hk : k < (w.hosts.getD i default).boxes.length) (hn : n ≤ ((w.hosts.getD i default).boxes.getD k default).mails.length) :
    ((Ca (B7 a) (w.hosts.take i)).length : Int) + (Ca (C1 a) ((w.hosts.getD i default).boxes.take k)).length + n ≤ FL w := by
 have h1 := Fc (KN a) (w.hosts.take i)
 have h2 := Fc (MB a) ((w.hosts.getD i default).boxes.take k)
 have h3 := ZV jN hi
 have h4 := ZV Ya hk
 have h5 : Df (w.hosts.getD i default) = At PT (w.hosts.getD i default).boxes := rfl
 have h6 : PT ((w.hosts.getD i default).boxes.getD k default) = ((w.hosts.getD i default).boxes.getD k default).mails.length := rfl
 unfold FL
 omega
def jf : Ct := Aj (lc OM.ag l0) (fun p => Gg p.1) (fun p => nj p.1)
section
attribute [local go_sem] xQ sh lm List.length_append List.length_cons List.length_nil List.map_append List.map_nil Nat.zero_add List.nil_append AS.opn AS.cls AS.nilb AS.renb AS.up Bool.not_false Bool.not_true List.set_set List.set_cons_zero List.set_cons_succ List.set_nil List.mem_singleton forall_eq
set_option maxHeartbeats 3200000 in
theorem pU {G : Gt} (hG : Ac G) (hh : G.e 25 = AA 0 xQ ∧ G.e 75 = AA 0 sh) : Gd G 121 (AA 0 jf) := by
 refine gr (fn := Tryz.f121) (n := 1) rfl hG ?_ (hs := fun _ p => Rk _)
 rintro ⟨w, ⟨⟩⟩ hpre
 simp -implicitDefEqProofs only [Tryz.f121, go_sem, hh, seval] at hpre ⊢
 obtain ⟨⟨lh, zh⟩, ⟨lg, zg⟩⟩ := hpre
 with_reducible repeat' (first | apply ai | intro _ | ((first | apply s1 | apply s2 | apply s3 | apply s4) <;> intro hb <;> simp -implicitDefEqProofs only [hb, go_sem, hh, seval] <;> try simp only [qz] at hb))
 all_goals first | rfl | omega | decide | skip
 refine AC [(3, 1903, true, 7)] (ι := {i : Nat // i ≤ w.hosts.length}) (fun p => ⟨[(1, .pb 1001 0), (2, .pb 1002 0), (3, .h 1903), (7, .t (.sl 7 (w.hosts.map AY))), (8, .t (.v (.int .i64 w.hosts.length))), (9, .t (.v (.int .i64 p.1)))], [(1001, some (.box ((CP w).map .t))), (1002, some (.box [.nil, .t (.v (.int .i64 0)), .t (.v (.int .i64 0)), .nil])), (1903, some (.arr true 7 ((w.hosts.take p.1).map AY)))]⟩) (fun p => w.hosts.length - p.1) ⟨0, by simp⟩ rfl ?_ ?_
 ·simp -implicitDefEqProofs only [go_sem, hh, seval]
  try simp
 ·rintro ⟨i, hi⟩
  have hlen : (w.hosts.take i).length = i := by simp; omega
  by_cases hlt : (i : Int) < w.hosts.length
  ·have zo := zh _ (AB (xs := w.hosts) (j := i) (by omega))
   simp -implicitDefEqProofs only [hlt, decide_true, tn, go_sem, hh, seval]
   with_reducible repeat' (first | apply ai | intro _ | ((first | apply s1 | apply s2 | apply s3 | apply s4) <;> intro hb <;> simp -implicitDefEqProofs only [hb, go_sem, hh, seval] <;> try simp only [qz] at hb))
   all_goals (try simp only [maxLen] at *)
   all_goals first | rfl | omega | assumption | decide | skip
   refine ⟨⟨i + 1, by omega⟩, by dsimp only; omega, ?_⟩
   simp -implicitDefEqProofs only [go_sem, hh, seval]
   simp only [Ay AY (show i < w.hosts.length by omega)]
   with_reducible repeat' (first | apply ai | intro _ | ((first | apply s1 | apply s2 | apply s3 | apply s4) <;> intro hb <;> simp -implicitDefEqProofs only [hb, go_sem, hh, seval] <;> try simp only [qz] at hb))
   all_goals first | rfl | (simp; done) | skip
  ·have htk : w.hosts.take i = w.hosts := List.take_of_length_le (by omega)
   simp -implicitDefEqProofs only [hlt, htk, decide_false, go_sem, hh, seval]
   with_reducible repeat' (first | apply ai | intro _ | ((first | apply s1 | apply s2 | apply s3 | apply s4) <;> intro hb <;> simp -implicitDefEqProofs only [hb, go_sem, hh, seval] <;> try simp only [qz] at hb))
   all_goals (try simp only [maxLen] at *)
   all_goals first | rfl | omega | assumption | decide
end
def xf : Ct := Aj (lc OM.ag (lc DV.ag l0)) (fun p => Gg p.1 ∧ FL p.1 ≤ 1048576) (fun p => .o true 3 ((Bz p.1 p.2.1).map Ba))
section
attribute [local go_sem] bi lm List.length_append List.length_cons List.length_nil List.map_append List.map_nil Nat.zero_add List.nil_append AS.opn AS.cls AS.nilb AS.renb AS.up Bool.not_false Bool.not_true List.set_set List.set_cons_zero List.set_cons_succ List.set_nil List.mem_singleton forall_eq AK AM
set_option maxHeartbeats 6400000 in
theorem uQ {G : Gt} (hG : Ac G) (hh : G.e 58 = AA 0 bi) : Gd G 60 (AA 0 xf) := by
 refine gr (fn := Tryz.f60) (n := 2) rfl hG ?_ (hs := fun _ p => .deep _ _)
 rintro ⟨w, a, ⟨⟩⟩ hpre
 simp -implicitDefEqProofs only [Tryz.f60, go_sem, hh, seval] at hpre ⊢
 obtain ⟨zw, zn⟩ := hpre
 by_cases h : EJ w
 ·have b1 := An h
  rw [QL h]
  simp -implicitDefEqProofs only [b1, go_sem, hh, seval]
  with_reducible repeat' (first | apply ai | intro _ | ((first | apply s1 | apply s2 | apply s3 | apply s4) <;> intro hb <;> simp -implicitDefEqProofs only [hb, go_sem, hh, seval] <;> try simp only [qz] at hb))
  all_goals first | rfl | omega | assumption | contradiction | skip
  refine AC [(5, 1905, true, 3)] (ι := {i : Nat // i ≤ w.hosts.length}) (fun ⟨i, _⟩ => ⟨[(2, .pb 1002 0), (3, .pb 1003 0), (5, .h 1905), (6, .t (.v (.int .i64 i)))], [(1002, some (.box ((CP w).map .t))), (1003, some (.box ((Ap a).map .t))), (1905, some (.arr true 3 ((Ca (B7 a) (w.hosts.take i)).map Ba)))]⟩) (fun p => w.hosts.length - p.1) ⟨0, by simp⟩ rfl ?_ ?_
  ·simp -implicitDefEqProofs only [go_sem, hh, seval]
   try simp
   try rfl
  ·rintro ⟨i, hi⟩
   dsimp only
   by_cases hlt : (i : Int) < w.hosts.length
   ·have zo := zw.1.2 _ (AB (xs := w.hosts) (j := i) (by omega))
    obtain ⟨_, _, ⟨lb, zb⟩, _⟩ := zo
    simp -implicitDefEqProofs only [hlt, decide_true, tn, go_sem, hh, seval]
    with_reducible repeat' (first | apply ai | intro _ | ((first | apply s1 | apply s2 | apply s3 | apply s4) <;> intro hb <;> simp -implicitDefEqProofs only [hb, go_sem, hh, seval] <;> try simp only [qz] at hb))
    all_goals (try simp only [maxLen] at *)
    all_goals first | rfl | omega | assumption | decide | skip
    refine AC [(5, 1905, true, 3)] (ι := {k : Nat // k ≤ (w.hosts.getD i default).boxes.length}) (fun ⟨k, _⟩ => ⟨[(2, .pb 1002 0), (3, .pb 1003 0), (5, .h 1905), (6, .t (.v (.int .i64 i))), (7, .t (.v (.int .i64 k)))], [(1002, some (.box ((CP w).map .t))), (1003, some (.box ((Ap a).map .t))), (1905, some (.arr true 3 ((Ca (B7 a) (w.hosts.take i) ++ Ca (C1 a) ((w.hosts.getD i default).boxes.take k)).map Ba)))]⟩) (fun p => (w.hosts.getD i default).boxes.length - p.1) ⟨0, by simp⟩ rfl ?_ ?_
    ·simp -implicitDefEqProofs only [go_sem, hh, seval]
     try simp
     try rfl
    ·rintro ⟨k, hk⟩
     dsimp only
     by_cases hlt2 : (k : Int) < (w.hosts.getD i default).boxes.length
     ·obtain ⟨_, ⟨lm, zm⟩⟩ := zb _ (AB (xs := (w.hosts.getD i default).boxes) (j := k) (by omega))
      simp -implicitDefEqProofs only [hlt2, decide_true, tn, go_sem, hh, seval]
      with_reducible repeat' (first | apply ai | intro _ | ((first | apply s1 | apply s2 | apply s3 | apply s4) <;> intro hb <;> simp -implicitDefEqProofs only [hb, go_sem, hh, seval] <;> try simp only [qz] at hb))
      all_goals (try simp only [maxLen] at *)
      all_goals first | rfl | omega | assumption | decide | skip
      refine AC [(5, 1905, true, 3)] (ι := {n : Nat // n ≤ ((w.hosts.getD i default).boxes.getD k default).mails.length ∧ (0 < n → ((w.hosts.getD i default).boxes.getD k default).addr = a)}) (fun ⟨n, _⟩ => ⟨[(2, .pb 1002 0), (3, .pb 1003 0), (5, .h 1905), (6, .t (.v (.int .i64 i))), (7, .t (.v (.int .i64 k))), (8, .pb 1008 0), (9, .t (.v (.int .i64 n)))], [(1002, some (.box ((CP w).map .t))), (1003, some (.box ((Ap a).map .t))), (1008, some (.box ((BQ ((w.hosts.getD i default).boxes.getD k default)).map .t))), (1905, some (.arr true 3 ((Ca (B7 a) (w.hosts.take i) ++ Ca (C1 a) ((w.hosts.getD i default).boxes.take k) ++ ((w.hosts.getD i default).boxes.getD k default).mails.take n).map Ba)))]⟩) (fun p => ((w.hosts.getD i default).boxes.getD k default).mails.length - p.1) ⟨0, by simp, by simp⟩ rfl ?_ ?_
      ·simp -implicitDefEqProofs only [go_sem, hh, seval]
       try simp
       try rfl
      ·rintro ⟨n, hn, hn2⟩
       dsimp only
       by_cases hlt3 : (n : Int) < ((w.hosts.getD i default).boxes.getD k default).mails.length
       ·obtain ⟨_, ⟨lg, zg⟩⟩ := zm _ (AB (xs := ((w.hosts.getD i default).boxes.getD k default).mails) (j := n) (by omega))
        have q1 := TV (a := a) (w := w) (i := i) (k := k) (n := n) (by omega) (by omega) (by omega)
        simp -implicitDefEqProofs only [hlt3, decide_true, tn, go_sem, hh, seval]
        with_reducible repeat' (first | apply ai | intro _ | ((first | apply s1 | apply s2 | apply s3 | apply s4) <;> intro hb <;> simp -implicitDefEqProofs only [hb, go_sem, hh, seval] <;> try simp only [qz] at hb))
        all_goals (try simp only [maxLen, im, io, T5, T6, tn, List.length_append, List.length_take, lm] at *)
        all_goals first
         | rfl
         | omega
         | assumption
         | decide
         | (refine ⟨⟨n + 1, by omega, fun _ => by with_reducible assumption⟩, by dsimp only; omega, ?_⟩
            simp -implicitDefEqProofs only [go_sem, hh, seval]
            simp only [Ay Ba (show n < ((w.hosts.getD i default).boxes.getD k default).mails.length by omega)]
            with_reducible repeat' (first | apply ai | intro _ | ((first | apply s1 | apply s2 | apply s3 | apply s4) <;> intro hb <;> simp -implicitDefEqProofs only [hb, go_sem, hh, seval] <;> try simp only [qz] at hb))
            all_goals first | rfl | (simp [O9]; done) | skip)
         | (refine ⟨⟨k + 1, by omega⟩, by dsimp only; omega, ?_⟩
            have hz : n = 0 := by
             by_cases e : n = 0
             ·exact e
             ·exact absurd (hn2 (by omega)) (by with_reducible assumption)
            subst hz
            have e1 := EW (C1 a) (show k < (w.hosts.getD i default).boxes.length by omega)
            rw [SV (by with_reducible assumption), List.append_nil] at e1
            simp -implicitDefEqProofs only [e1, List.take_zero, List.append_nil, go_sem, hh, seval]
            try simp
            done)
         | skip
       ·have e1 := EW (C1 a) (show k < (w.hosts.getD i default).boxes.length by omega)
        have e2 : ((w.hosts.getD i default).boxes.getD k default).mails.take n = C1 a ((w.hosts.getD i default).boxes.getD k default) := by
         by_cases e : n = 0
         ·have h0 : ((w.hosts.getD i default).boxes.getD k default).mails.length = 0 := by omega
          rw [e, List.take_zero]
          unfold C1; split
          ·exact (List.eq_nil_of_length_eq_zero h0).symm
          ·rfl
         ·rw [SW (hn2 (by omega)), List.take_of_length_le (by omega)]
        simp -implicitDefEqProofs only [hlt3, decide_false, go_sem, hh, seval]
        with_reducible repeat' (first | apply ai | intro _ | ((first | apply s1 | apply s2 | apply s3 | apply s4) <;> intro hb <;> simp -implicitDefEqProofs only [hb, go_sem, hh, seval] <;> try simp only [qz] at hb))
        all_goals first | rfl | omega | skip
        refine ⟨⟨k + 1, by omega⟩, by dsimp only; omega, ?_⟩
        simp -implicitDefEqProofs only [e1, e2, go_sem, hh, seval]
        try simp
     ·have e1 := EW (B7 a) (show i < w.hosts.length by omega)
      have e2 : Ca (C1 a) ((w.hosts.getD i default).boxes.take k) = B7 a (w.hosts.getD i default) := HQ _ (by omega)
      simp -implicitDefEqProofs only [hlt2, decide_false, tn, go_sem, hh, seval]
      with_reducible repeat' (first | apply ai | intro _ | ((first | apply s1 | apply s2 | apply s3 | apply s4) <;> intro hb <;> simp -implicitDefEqProofs only [hb, go_sem, hh, seval] <;> try simp only [qz] at hb))
      all_goals (try simp only [maxLen] at *)
      all_goals first | rfl | omega | assumption | decide | skip
      refine ⟨⟨i + 1, by omega⟩, by dsimp only; omega, ?_⟩
      simp -implicitDefEqProofs only [e1, e2, go_sem, hh, seval]
      try simp
   ·have e1 : Ca (B7 a) (w.hosts.take i) = Ca (B7 a) w.hosts := HQ _ (by omega)
    rw [e1]
    simp -implicitDefEqProofs only [hlt, decide_false, go_sem, hh, seval]
    with_reducible repeat' (first | apply ai | intro _ | ((first | apply s1 | apply s2 | apply s3 | apply s4) <;> intro hb <;> simp -implicitDefEqProofs only [hb, go_sem, hh, seval] <;> try simp only [qz] at hb))
    all_goals (try simp only [maxLen] at *)
    all_goals first | rfl | omega | assumption | decide | skip
 ·have b1 := AQ h
  rw [Vf h]
  simp -implicitDefEqProofs only [b1, go_sem, hh, seval]
  with_reducible repeat' (first | apply ai | intro _ | ((first | apply s1 | apply s2 | apply s3 | apply s4) <;> intro hb <;> simp -implicitDefEqProofs only [hb, go_sem, hh, seval] <;> try simp only [qz] at hb))
  all_goals first | rfl | omega | assumption | contradiction | skip
end
def Ms {α : Type} [Inhabited α] (enc : α → List T) (xs : List α) (i : Nat) (es : List (List T)) : Prop := es.length = xs.length ∧ ∀ j, i ≤ j → j < xs.length → es[j]? = some (enc (xs.getD j default))
theorem Ms.start {α : Type} [Inhabited α] (enc : α → List T) (xs : List α) : Ms enc xs 0 (xs.map enc) := ⟨by simp, fun j _ hj => TB enc hj⟩
theorem Ms.next {α : Type} [Inhabited α] {enc : α → List T} {xs : List α} {i : Nat} {es : List (List T)} (h : Ms enc xs i es) (e : List T) : Ms enc xs (i + 1) (es.set i e) := ⟨by rw [List.length_set]; exact h.1, fun j hj hl => by
 rw [List.getElem?_set_ne (by omega)]
 exact h.2 j (by omega) hl⟩
def xd : Ct := Aj (lc OM.ag (lc DV.ag l0)) (fun p => Gg p.1 ∧ FL p.1 ≤ 1048576) (fun p => .o true 3 ((Bz p.1 p.2.1).map Ba))
section
attribute [local go_sem] bf jf lm List.length_append List.length_cons List.length_nil List.map_append List.map_nil Nat.zero_add List.nil_append AS.opn AS.cls AS.nilb AS.renb AS.up Bool.not_false Bool.not_true List.set_set List.set_cons_zero List.set_cons_succ List.set_nil List.mem_singleton forall_eq AS.rawh bm AK AM TW
set_option maxHeartbeats 6400000 in
theorem uK {G : Gt} (hG : Ac G) (hh : G.e 17 = AA 0 bf ∧ G.e 121 = AA 0 jf) : Gd G 55 (AA 0 xd) := by
 refine PF (dp := fun n => !(Nat.beq n 100006 || Nat.beq n 100007 || Nat.beq n 100009 || Nat.beq n 100011)) (fn := Tryz.f55) (n := 2) rfl hG ?_ (hs := fun _ p => .deep _ _)
 rintro ⟨w, a, ⟨⟩⟩ hpre
 simp -implicitDefEqProofs only [Tryz.f55, go_sem, hh, seval] at hpre ⊢
 obtain ⟨zw, zn⟩ := hpre
 by_cases h : EJ w
 ·have b1 := An h
  rw [QL h]
  simp -implicitDefEqProofs only [b1, go_sem, hh, seval]
  with_reducible repeat' (first | apply ai | intro _ | ((first | apply s1 | apply s2 | apply s3 | apply s4) <;> intro hb <;> simp -implicitDefEqProofs only [hb, go_sem, hh, seval] <;> try simp only [qz] at hb))
  all_goals first | rfl | omega | assumption | contradiction | skip
  refine AC [(5, 1905, true, 3)] (ι := {p : Nat × List (List T) // p.1 ≤ w.hosts.length ∧ Ms AY w.hosts p.1 p.2}) (fun ⟨⟨i, es⟩, _⟩ => ⟨[(3, .pb 1003 0), (5, .h 1905), (15, .h 1014), (16, .t (.v (.int .i64 w.hosts.length))), (17, .t (.v (.int .i64 i)))], [(1003, some (.box ((Ap a).map .t))), (1905, some (.arr true 3 ((Ca (B7 a) (w.hosts.take i)).map Ba))), (1014, some (.arr true 7 es))]⟩) (fun p => w.hosts.length - p.1.1) ⟨(0, w.hosts.map AY), by simp, Ms.start _ _⟩ rfl ?_ ?_
  ·simp -implicitDefEqProofs only [go_sem, hh, seval]
   try simp
   try rfl
  ·rintro ⟨⟨i, es⟩, hi, hl⟩
   dsimp only at hi hl ⊢
   by_cases hlt : (i : Int) < w.hosts.length
   ·have zo := zw.1.2 _ (AB (xs := w.hosts) (j := i) (by omega))
    obtain ⟨_, _, ⟨lb, zb⟩, _⟩ := zo
    have hes := hl.2 i (Nat.le_refl _) (by omega)
    have hle := hl.1
    have hlt' : i < es.length := by omega
    simp -implicitDefEqProofs only [hlt, decide_true, tn, go_sem, hh, seval]
    with_reducible repeat' (first | apply ai | intro _ | ((first | apply s1 | apply s2 | apply s3 | apply s4) <;> intro hb <;> simp -implicitDefEqProofs only [hb, go_sem, hh, seval] <;> try simp only [qz] at hb))
    all_goals (try simp only [maxLen] at *)
    all_goals first | rfl | omega | assumption | decide | skip
    refine LD 1014 1906 2906 i 5 rfl hes rfl rfl fun x => Af ?_
    simp -implicitDefEqProofs only [H9 hlt', hle, List.length_set, tn, go_sem, hh, seval]
    with_reducible repeat' (first | apply ai | intro _ | ((first | apply s1 | apply s2 | apply s3 | apply s4) <;> intro hb <;> simp -implicitDefEqProofs only [hb, go_sem, hh, seval] <;> try simp only [qz] at hb))
    all_goals (try simp only [maxLen] at *)
    all_goals first | rfl | omega | assumption | decide | skip
    refine Am (Le.rawh 1007 5 1906 2906 rfl rfl rfl) (Af ?_)
    simp -implicitDefEqProofs only [go_sem, hh, seval]
    with_reducible repeat' (first | apply ai | intro _ | ((first | apply s1 | apply s2 | apply s3 | apply s4) <;> intro hb <;> simp -implicitDefEqProofs only [hb, go_sem, hh, seval] <;> try simp only [qz] at hb))
    all_goals (try simp only [maxLen] at *)
    all_goals first | rfl | omega | assumption | decide | skip
    refine AC [(5, 1905, true, 3)] (ι := {p : Nat × List (List T) // p.1 ≤ (w.hosts.getD i default).boxes.length ∧ Ms BQ (w.hosts.getD i default).boxes p.1 p.2}) (fun ⟨⟨k, bs⟩, _⟩ => ⟨[(3, .pb 1003 0), (5, .h 1905), (15, .h 1014), (16, .t (.v (.int .i64 w.hosts.length))), (17, .t (.v (.int .i64 i))), (22, .h 1906), (23, .t (.v (.int .i64 (w.hosts.getD i default).boxes.length))), (24, .t (.v (.int .i64 k)))], [(1003, some (.box ((Ap a).map .t))), (1905, some (.arr true 3 ((Ca (B7 a) (w.hosts.take i) ++ Ca (C1 a) ((w.hosts.getD i default).boxes.take k)).map Ba))), (1906, some (.arr true 3 bs)), (1014, some (.arr true 7 (es.set i [.v (.string (w.hosts.getD i default).conf.name), .sl 1 ((w.hosts.getD i default).conf.own.map AG), .sl 2 ((w.hosts.getD i default).conf.ways.map Bn), .v (.int .i64 (w.hosts.getD i default).spool.last), .sl 5 ((w.hosts.getD i default).spool.items.map Ar), .raw x, .sl 3 ((w.hosts.getD i default).lost.map Ae)])))]⟩) (fun p => (w.hosts.getD i default).boxes.length - p.1.1) ⟨(0, (w.hosts.getD i default).boxes.map BQ), by simp, Ms.start _ _⟩ rfl ?_ ?_
    ·simp -implicitDefEqProofs only [go_sem, hh, seval]
     try simp
     try rfl
    ·rintro ⟨⟨k, bs⟩, hk, hm⟩
     dsimp only at hk hm ⊢
     by_cases hlt2 : (k : Int) < (w.hosts.getD i default).boxes.length
     ·obtain ⟨_, ⟨lm, zm⟩⟩ := zb _ (AB (xs := (w.hosts.getD i default).boxes) (j := k) (by omega))
      have hbs := hm.2 k (Nat.le_refl _) (by omega)
      have hbl := hm.1
      have hlt2' : k < bs.length := by omega
      have q1 := TV (a := a) (w := w) (i := i) (k := k) (n := ((w.hosts.getD i default).boxes.getD k default).mails.length) (by omega) (by omega) (by omega)
      have e1 := EW (C1 a) (show k < (w.hosts.getD i default).boxes.length by omega)
      simp -implicitDefEqProofs only [hlt2, decide_true, tn, go_sem, hh, seval]
      with_reducible repeat' (first | apply ai | intro _ | ((first | apply s1 | apply s2 | apply s3 | apply s4) <;> intro hb <;> simp -implicitDefEqProofs only [hb, go_sem, hh, seval] <;> try simp only [qz] at hb))
      all_goals (try simp only [maxLen] at *)
      all_goals first | rfl | omega | assumption | decide | skip
      refine LD 1906 1908 2908 k 2 rfl hbs rfl rfl fun y => Af ?_
      simp -implicitDefEqProofs only [H9 hlt2', hbl, List.length_set, tn, go_sem, hh, seval]
      with_reducible repeat' (first | apply ai | intro _ | ((first | apply s1 | apply s2 | apply s3 | apply s4) <;> intro hb <;> simp -implicitDefEqProofs only [hb, go_sem, hh, seval] <;> try simp only [qz] at hb))
      all_goals (try simp only [maxLen, im, io, T5, T6] at *)
      all_goals first | rfl | omega | assumption | decide | skip
      ·refine Am (Le.rawh 1009 2 1908 2908 rfl rfl rfl) (Af ?_)
       simp -implicitDefEqProofs only [go_sem, hh, seval]
       with_reducible repeat' (first | apply ai | intro _ | ((first | apply s1 | apply s2 | apply s3 | apply s4) <;> intro hb <;> simp -implicitDefEqProofs only [hb, go_sem, hh, seval] <;> try simp only [qz] at hb))
       all_goals (try simp only [maxLen] at *)
       all_goals first | rfl | omega | assumption | decide | skip
       refine ⟨⟨(k + 1, bs.set k [.v (.string ((w.hosts.getD i default).boxes.getD k default).addr.user), .v (.string ((w.hosts.getD i default).boxes.getD k default).addr.domain), .raw y]), by dsimp only; omega, hm.next _⟩, by dsimp only; omega, ?_⟩
       simp -implicitDefEqProofs only [e1, SW hb, List.append_assoc, go_sem, hh, seval]
       try simp
      ·refine ⟨⟨(k + 1, bs.set k [.v (.string ((w.hosts.getD i default).boxes.getD k default).addr.user), .v (.string ((w.hosts.getD i default).boxes.getD k default).addr.domain), .raw y]), by dsimp only; omega, hm.next _⟩, by dsimp only; omega, ?_⟩
       simp -implicitDefEqProofs only [e1, SV hb, List.append_nil, go_sem, hh, seval]
       try simp
     ·have e1 := EW (B7 a) (show i < w.hosts.length by omega)
      have e2 : Ca (C1 a) ((w.hosts.getD i default).boxes.take k) = B7 a (w.hosts.getD i default) := HQ _ (by omega)
      simp -implicitDefEqProofs only [hlt2, decide_false, go_sem, hh, seval]
      with_reducible repeat' (first | apply ai | intro _ | ((first | apply s1 | apply s2 | apply s3 | apply s4) <;> intro hb <;> simp -implicitDefEqProofs only [hb, go_sem, hh, seval] <;> try simp only [qz] at hb))
      all_goals (try simp only [maxLen] at *)
      all_goals first | rfl | omega | assumption | decide | skip
      refine ⟨⟨(i + 1, es.set i [.v (.string (w.hosts.getD i default).conf.name), .sl 1 ((w.hosts.getD i default).conf.own.map AG), .sl 2 ((w.hosts.getD i default).conf.ways.map Bn), .v (.int .i64 (w.hosts.getD i default).spool.last), .sl 5 ((w.hosts.getD i default).spool.items.map Ar), .raw x, .sl 3 ((w.hosts.getD i default).lost.map Ae)]), by dsimp only; omega, hl.next _⟩, by dsimp only; omega, ?_⟩
      simp -implicitDefEqProofs only [e1, e2, go_sem, hh, seval]
      try simp
   ·have e1 : Ca (B7 a) (w.hosts.take i) = Ca (B7 a) w.hosts := HQ _ (by omega)
    rw [e1]
    simp -implicitDefEqProofs only [hlt, decide_false, go_sem, hh, seval]
    with_reducible repeat' (first | apply ai | intro _ | ((first | apply s1 | apply s2 | apply s3 | apply s4) <;> intro hb <;> simp -implicitDefEqProofs only [hb, go_sem, hh, seval] <;> try simp only [qz] at hb))
    all_goals (try simp only [maxLen] at *)
    all_goals first | rfl | omega | assumption | decide | skip
 ·have b1 := AQ h
  rw [Vf h]
  simp -implicitDefEqProofs only [b1, go_sem, hh, seval]
  with_reducible repeat' (first | apply ai | intro _ | ((first | apply s1 | apply s2 | apply s3 | apply s4) <;> intro hb <;> simp -implicitDefEqProofs only [hb, go_sem, hh, seval] <;> try simp only [qz] at hb))
  all_goals first | rfl | omega | assumption | contradiction | skip
end
def OP (g : Ls) (m : Gm) : Prop := A6 m.body = g.mark ∧ (¬ AN m.frm ∨ ¬ Er m.body)
open Classical in
noncomputable def EL (g : Ls) (m : Gm) : Int := if OP g m then 1 else 0
theorem Xp {g : Ls} {m : Gm} (h : OP g m) : EL g m = 1 := if_pos h
theorem RI {g : Ls} {m : Gm} (h : ¬ OP g m) : EL g m = 0 := if_neg h
theorem NS (g : Ls) (m : Gm) : 0 ≤ EL g m ∧ EL g m ≤ 1 := by unfold EL; split <;> omega
noncomputable def Fj (w : Wd) (g : Ls) : Int := At (EL g) (Bz w g.addr)
open Classical in
noncomputable def Bu (w : Wd) (g : Ls) : Int := if 1 < Fj w g then 1 else 0
theorem P5 {w : Wd} {g : Ls} (h : 1 < Fj w g) : Bu w g = 1 := if_pos h
theorem LT {w : Wd} {g : Ls} (h : ¬ 1 < Fj w g) : Bu w g = 0 := if_neg h
theorem Ht (w : Wd) (g : Ls) : 0 ≤ Bu w g ∧ Bu w g ≤ 1 := by unfold Bu; split <;> omega
open Classical in
noncomputable def Jv (w : Wd) : Int := if EJ w then At (Bu w) w.given else -1
theorem HE {w : Wd} (h : EJ w) : Jv w = At (Bu w) w.given := if_pos h
theorem Jw {w : Wd} (h : ¬ EJ w) : Jv w = -1 := if_neg h
theorem LU (w : Wd) : 0 ≤ At (Bu w) w.given ∧ At (Bu w) w.given ≤ 1 * w.given.length := LM fun g _ => Ht w g
theorem SB {w : Wd} (z : Gg w) (a : Ad) : ∀ m ∈ Bz w a, sF m := fun m hm => by
 unfold Bz at hm
 split at hm
 ·obtain ⟨h, hh, q⟩ := Fb hm
  obtain ⟨b, hb, q⟩ := Fb q
  unfold C1 at q
  split at q
  ·exact ((z.1.2 h hh).2.2.1.2 b hb).2.2 m q
  ·cases q
 ·cases hm
theorem OS {w : Wd} (a : Ad) (h : FL w ≤ 1048576) : ((Bz w a).length : Int) ≤ 1048576 := by
 unfold Bz
 split
 ·have := Fc (KN a) w.hosts
  unfold FL at h
  omega
 ·show ((0 : Nat) : Int) ≤ _; omega
theorem Xq {g : Ls} {m : Gm} (h : A6 m.body = g.mark) (h2 : ¬ AN m.frm ∨ ¬ Er m.body) : OP g m := ⟨h, h2⟩
theorem NT {g : Ls} {m : Gm} (h : ¬ A6 m.body = g.mark ∨ ¬ (¬ AN m.frm ∨ ¬ Er m.body)) : ¬ OP g m := fun q => h.elim (fun f => f q.1) fun f => f q.2
theorem Sy {g : Ls} {m : Gm} (h : AN m.frm) (h2 : Er m.body) : ¬ OP g m := fun q => q.2.elim (fun f => f h) fun f => f h2
def xO : Ct := Aj (lc OM.ag l0) (fun p => Gg p.1 ∧ FL p.1 ≤ 1048576) (fun p => .t (.v (.int .i64 (Jv p.1))))
section
attribute [local go_sem] bi xf Qr NB lC AK AM lm ww Jg
set_option maxHeartbeats 6400000 in
theorem ti {G : Gt} (hG : Ac G) (hh : G.e 58 = AA 0 bi ∧ G.e 60 = AA 0 xf ∧ G.e 61 = AA 0 Qr ∧ G.e 62 = AA 0 NB ∧ G.e 63 = AA 0 lC) : Gd G 16 (AA 0 xO) := by
 refine gr (fn := Tryz.f16) (n := 1) rfl hG ?_
 rintro ⟨w, ⟨⟩⟩ hpre
 simp -implicitDefEqProofs only [Tryz.f16, go_sem, hh, seval] at hpre ⊢
 obtain ⟨zw, zn⟩ := hpre
 have hk := LU w
 have hg := zw.2.1
 by_cases h : EJ w
 ·have b1 := An h
  rw [HE h]
  simp -implicitDefEqProofs only [b1, go_sem, hh, seval]
  with_reducible repeat' (first | apply ai | intro _ | ((first | apply s1 | apply s2 | apply s3 | apply s4) <;> intro hb <;> simp -implicitDefEqProofs only [hb, go_sem, hh, seval] <;> try simp only [qz] at hb))
  all_goals first | rfl | omega | assumption | contradiction | skip
  refine AC [] (ι := {p : Nat × Int // p.1 ≤ w.given.length ∧ 0 ≤ p.2 ∧ p.2 + At (Bu w) (w.given.drop p.1) = At (Bu w) w.given}) (fun p => ⟨[(1, .pb 1001 0), (3, .t (.v (.int .i64 p.1.2))), (4, .t (.v (.int .i64 p.1.1)))], [(1001, some (.box ((CP w).map .t)))]⟩) (fun p => w.given.length - p.1.1) ⟨(0, 0), by simp, by simp, by simp⟩ rfl ?_ ?_
  ·simp -implicitDefEqProofs only [go_sem, hh, seval]
   try simp
  ·rintro ⟨⟨i, v⟩, hi, h0, hv⟩
   dsimp only at hi h0 hv ⊢
   by_cases hlt : (i : Int) < w.given.length
   ·skip
    have Ag := Dz (f := Bu w) (xs := w.given) (i := i) (by omega)
    have hrest := Dy (f := Bu w) (xs := w.given) (fun x _ => (Ht w x).1) (i + 1)
    simp -implicitDefEqProofs only [hlt, decide_true, tn, go_sem, hh, seval]
    with_reducible repeat' (first | apply ai | intro _ | ((first | apply s1 | apply s2 | apply s3 | apply s4) <;> intro hb <;> simp -implicitDefEqProofs only [hb, go_sem, hh, seval] <;> try simp only [qz] at hb))
    all_goals (try simp only [maxLen, tn] at *)
    all_goals first | rfl | omega | with_reducible assumption | decide | skip
    refine Id [1025] [] (ι := {p : Nat × Int // p.1 ≤ (Bz w (w.given.getD i default).addr).length ∧ 0 ≤ p.2 ∧ p.2 + At (EL (w.given.getD i default)) ((Bz w (w.given.getD i default).addr).drop p.1) = Fj w (w.given.getD i default)}) (fun p => ⟨[(1, .pb 1001 0), (3, .t (.v (.int .i64 v))), (4, .t (.v (.int .i64 i))), (5, .t (.v (.int .i64 p.1.2))), (6, .t (.sl 3 ((Bz w (w.given.getD i default).addr).map Ba))), (7, .t (.v (.int .i64 p.1.1)))], [(1001, some (.box ((CP w).map .t)))]⟩) (fun p => (Bz w (w.given.getD i default).addr).length - p.1.1) ⟨(0, 0), by simp, by simp, by simp [Fj]⟩ rfl ?_ ?_
    ·simp -implicitDefEqProofs only [go_sem, hh, seval]
     try simp
    ·rintro ⟨⟨k, v2⟩, hk', h1, hv2⟩
     dsimp only at hk' h1 hv2 ⊢
     by_cases hlt2 : (k : Int) < (Bz w (w.given.getD i default).addr).length
     ·skip
      obtain ⟨_, ⟨lg, zg⟩⟩ := SB zw (w.given.getD i default).addr _ (AB (xs := (Bz w (w.given.getD i default).addr)) (j := k) (by omega))
      have y1 : ∀ s ∈ ((Bz w (w.given.getD i default).addr).getD k default).body, s.size ≤ 2000000 := fun s hs => by have : s.size ≤ 1048576 := zg s hs; omega
      have y2 : ((Bz w (w.given.getD i default).addr).getD k default).body.length ≤ 2000000 := by omega
      have hst2 := Dz (f := EL (w.given.getD i default)) (xs := (Bz w (w.given.getD i default).addr)) (i := k) (by omega)
      have hrest2 := Dy (f := EL (w.given.getD i default)) (xs := (Bz w (w.given.getD i default).addr)) (fun x _ => (NS _ x).1) (k + 1)
      have hb2 := LM (f := EL (w.given.getD i default)) (B := 1) (xs := (Bz w (w.given.getD i default).addr)) fun m _ => NS _ m
      have hb3 : Fj w (w.given.getD i default) = At (EL (w.given.getD i default)) (Bz w (w.given.getD i default).addr) := rfl
      have hb4 := OS (w.given.getD i default).addr zn
      simp -implicitDefEqProofs only [hlt2, decide_true, tn, go_sem, hh, seval]
      with_reducible repeat' (first | apply ai | intro _ | ((first | apply s1 | apply s2 | apply s3 | apply s4) <;> intro hb <;> simp -implicitDefEqProofs only [hb, go_sem, hh, seval] <;> try simp only [qz] at hb))
      all_goals (try simp only [maxLen, tn, AK, AM] at *)
      all_goals (try rw [Xp (Xq (by with_reducible assumption) (by first | with_reducible assumption | exact .inl (by with_reducible assumption) | exact .inr (by with_reducible assumption)))] at hst2)
      all_goals (try rw [RI (by first | exact Sy (by with_reducible assumption) (by with_reducible assumption) | exact NT (.inl (by with_reducible assumption)) | exact NT (.inr (by with_reducible assumption)))] at hst2)
      all_goals first
       | rfl
       | omega
       | decide
       | with_reducible assumption
       | exact y1 _ (by assumption)
       | contradiction
       | (refine ⟨⟨(k + 1, v2 + 1), by dsimp only; omega, by dsimp only; omega, by dsimp only; omega⟩, by dsimp only; omega, ?_⟩
          simp -implicitDefEqProofs only [go_sem, hh, seval]
          try simp
          done)
       | (refine ⟨⟨(k + 1, v2), by dsimp only; omega, by dsimp only; omega, by dsimp only; omega⟩, by dsimp only; omega, ?_⟩
          simp -implicitDefEqProofs only [go_sem, hh, seval]
          try simp
          done)
     ·have hst2 := GN (f := EL (w.given.getD i default)) (xs := (Bz w (w.given.getD i default).addr)) (i := k) (by omega)
      simp -implicitDefEqProofs only [hlt2, decide_false, go_sem, hh, seval]
      with_reducible repeat' (first | apply ai | intro _ | ((first | apply s1 | apply s2 | apply s3 | apply s4) <;> intro hb <;> simp -implicitDefEqProofs only [hb, go_sem, hh, seval] <;> try simp only [qz] at hb))
      all_goals (try simp only [maxLen, tn] at *)
      all_goals (try rw [P5 (by omega)] at Ag)
      all_goals (try rw [LT (by omega)] at Ag)
      all_goals first
       | rfl
       | omega
       | (refine ⟨⟨(i + 1, v + 1), by dsimp only; omega, by dsimp only; omega, by dsimp only; omega⟩, by dsimp only; omega, ?_⟩
          simp -implicitDefEqProofs only [go_sem, hh, seval]
          try simp
          done)
       | (refine ⟨⟨(i + 1, v), by dsimp only; omega, by dsimp only; omega, by dsimp only; omega⟩, by dsimp only; omega, ?_⟩
          simp -implicitDefEqProofs only [go_sem, hh, seval]
          try simp
          done)
   ·have Ag := GN (f := Bu w) (xs := w.given) (i := i) (by omega)
    simp -implicitDefEqProofs only [hlt, decide_false, go_sem, hh, seval]
    with_reducible repeat' (first | apply ai | intro _ | ((first | apply s1 | apply s2 | apply s3 | apply s4) <;> intro hb <;> simp -implicitDefEqProofs only [hb, go_sem, hh, seval] <;> try simp only [qz] at hb))
    all_goals first | rfl | omega | (rw [← hv, Ag, Int.add_zero]; done)
 ·have b1 := AQ h
  rw [Jw h]
  simp -implicitDefEqProofs only [b1, go_sem, hh, seval]
  with_reducible repeat' (first | apply ai | intro _ | ((first | apply s1 | apply s2 | apply s3 | apply s4) <;> intro hb <;> simp -implicitDefEqProofs only [hb, go_sem, hh, seval] <;> try simp only [qz] at hb))
  all_goals first | rfl | omega | assumption | contradiction
end
def xM : Ct := Aj (lc OM.ag l0) (fun p => Gg p.1 ∧ FL p.1 ≤ 1048576) (fun p => .t (.v (.int .i64 (Jv p.1))))
section
attribute [local go_sem] bf xd lB sf AK AM lm ww Jg
set_option maxHeartbeats 6400000 in
theorem tg {G : Gt} (hG : Ac G) (hh : G.e 17 = AA 0 bf ∧ G.e 55 = AA 0 xd ∧ G.e 56 = AA 0 lB ∧ G.e 57 = AA 0 sf) : Gd G 14 (AA 0 xM) := by
 refine gr (fn := Tryz.f14) (n := 1) rfl hG ?_
 rintro ⟨w, ⟨⟩⟩ hpre
 simp -implicitDefEqProofs only [Tryz.f14, go_sem, hh, seval] at hpre ⊢
 obtain ⟨zw, zn⟩ := hpre
 have hk := LU w
 have hg := zw.2.1
 by_cases h : EJ w
 ·have b1 := An h
  rw [HE h]
  simp -implicitDefEqProofs only [b1, go_sem, hh, seval]
  with_reducible repeat' (first | apply ai | intro _ | ((first | apply s1 | apply s2 | apply s3 | apply s4) <;> intro hb <;> simp -implicitDefEqProofs only [hb, go_sem, hh, seval] <;> try simp only [qz] at hb))
  all_goals first | rfl | omega | assumption | contradiction | skip
  refine AC [] (ι := {p : Nat × Int // p.1 ≤ w.given.length ∧ 0 ≤ p.2 ∧ p.2 + At (Bu w) (w.given.drop p.1) = At (Bu w) w.given}) (fun p => ⟨[(1, .pb 1001 0), (3, .t (.v (.int .i64 p.1.2))), (13, .t (.sl 3 (w.given.map Ae))), (14, .t (.v (.int .i64 w.given.length))), (15, .t (.v (.int .i64 p.1.1)))], [(1001, some (.box ((CP w).map .t)))]⟩) (fun p => w.given.length - p.1.1) ⟨(0, 0), by simp, by simp, by simp⟩ rfl ?_ ?_
  ·simp -implicitDefEqProofs only [go_sem, hh, seval]
   try simp
  ·rintro ⟨⟨i, v⟩, hi, h0, hv⟩
   dsimp only at hi h0 hv ⊢
   by_cases hlt : (i : Int) < w.given.length
   ·skip
    have Ag := Dz (f := Bu w) (xs := w.given) (i := i) (by omega)
    have hrest := Dy (f := Bu w) (xs := w.given) (fun x _ => (Ht w x).1) (i + 1)
    simp -implicitDefEqProofs only [hlt, decide_true, tn, go_sem, hh, seval]
    with_reducible repeat' (first | apply ai | intro _ | ((first | apply s1 | apply s2 | apply s3 | apply s4) <;> intro hb <;> simp -implicitDefEqProofs only [hb, go_sem, hh, seval] <;> try simp only [qz] at hb))
    all_goals (try simp only [maxLen, tn] at *)
    all_goals first | rfl | omega | with_reducible assumption | decide | skip
    refine Id [1022] [] (ι := {p : Nat × Int // p.1 ≤ (Bz w (w.given.getD i default).addr).length ∧ 0 ≤ p.2 ∧ p.2 + At (EL (w.given.getD i default)) ((Bz w (w.given.getD i default).addr).drop p.1) = Fj w (w.given.getD i default)}) (fun p => ⟨[(1, .pb 1001 0), (3, .t (.v (.int .i64 v))), (5, .pb 1005 0), (13, .t (.sl 3 (w.given.map Ae))), (14, .t (.v (.int .i64 w.given.length))), (15, .t (.v (.int .i64 i))), (6, .t (.v (.int .i64 p.1.2))), (22, .t (.sl 3 ((Bz w (w.given.getD i default).addr).map Ba))), (23, .t (.v (.int .i64 (Bz w (w.given.getD i default).addr).length))), (24, .t (.v (.int .i64 p.1.1)))], [(1001, some (.box ((CP w).map .t))), (1005, some (.box ((Ae (w.given.getD i default)).map .t)))]⟩) (fun p => (Bz w (w.given.getD i default).addr).length - p.1.1) ⟨(0, 0), by simp, by simp, by simp [Fj]⟩ rfl ?_ ?_
    ·simp -implicitDefEqProofs only [go_sem, hh, seval]
     try simp
    ·rintro ⟨⟨k, v2⟩, hk', h1, hv2⟩
     dsimp only at hk' h1 hv2 ⊢
     by_cases hlt2 : (k : Int) < (Bz w (w.given.getD i default).addr).length
     ·skip
      obtain ⟨_, ⟨lg, zg⟩⟩ := SB zw (w.given.getD i default).addr _ (AB (xs := (Bz w (w.given.getD i default).addr)) (j := k) (by omega))
      have y1 : ∀ s ∈ ((Bz w (w.given.getD i default).addr).getD k default).body, s.size ≤ 2000000 := fun s hs => by have : s.size ≤ 1048576 := zg s hs; omega
      have y2 : ((Bz w (w.given.getD i default).addr).getD k default).body.length ≤ 2000000 := by omega
      have hst2 := Dz (f := EL (w.given.getD i default)) (xs := (Bz w (w.given.getD i default).addr)) (i := k) (by omega)
      have hrest2 := Dy (f := EL (w.given.getD i default)) (xs := (Bz w (w.given.getD i default).addr)) (fun x _ => (NS _ x).1) (k + 1)
      have hb2 := LM (f := EL (w.given.getD i default)) (B := 1) (xs := (Bz w (w.given.getD i default).addr)) fun m _ => NS _ m
      have hb3 : Fj w (w.given.getD i default) = At (EL (w.given.getD i default)) (Bz w (w.given.getD i default).addr) := rfl
      have hb4 := OS (w.given.getD i default).addr zn
      simp -implicitDefEqProofs only [hlt2, decide_true, tn, go_sem, hh, seval]
      with_reducible repeat' (first | apply ai | intro _ | ((first | apply s1 | apply s2 | apply s3 | apply s4) <;> intro hb <;> simp -implicitDefEqProofs only [hb, go_sem, hh, seval] <;> try simp only [qz] at hb))
      all_goals (try simp only [maxLen, tn, AK, AM] at *)
      all_goals (try rw [Xp (Xq (by with_reducible assumption) (by first | with_reducible assumption | exact .inl (by with_reducible assumption) | exact .inr (by with_reducible assumption)))] at hst2)
      all_goals (try rw [RI (by first | exact Sy (by with_reducible assumption) (by with_reducible assumption) | exact NT (.inl (by with_reducible assumption)) | exact NT (.inr (by with_reducible assumption)))] at hst2)
      all_goals first
       | rfl
       | omega
       | decide
       | with_reducible assumption
       | exact y1 _ (by assumption)
       | contradiction
       | (refine ⟨⟨(k + 1, v2 + 1), by dsimp only; omega, by dsimp only; omega, by dsimp only; omega⟩, by dsimp only; omega, ?_⟩
          simp -implicitDefEqProofs only [go_sem, hh, seval]
          try simp
          done)
       | (refine ⟨⟨(k + 1, v2), by dsimp only; omega, by dsimp only; omega, by dsimp only; omega⟩, by dsimp only; omega, ?_⟩
          simp -implicitDefEqProofs only [go_sem, hh, seval]
          try simp
          done)
     ·have hst2 := GN (f := EL (w.given.getD i default)) (xs := (Bz w (w.given.getD i default).addr)) (i := k) (by omega)
      simp -implicitDefEqProofs only [hlt2, decide_false, go_sem, hh, seval]
      with_reducible repeat' (first | apply ai | intro _ | ((first | apply s1 | apply s2 | apply s3 | apply s4) <;> intro hb <;> simp -implicitDefEqProofs only [hb, go_sem, hh, seval] <;> try simp only [qz] at hb))
      all_goals (try simp only [maxLen, tn] at *)
      all_goals (try rw [P5 (by omega)] at Ag)
      all_goals (try rw [LT (by omega)] at Ag)
      all_goals first
       | rfl
       | omega
       | (refine ⟨⟨(i + 1, v + 1), by dsimp only; omega, by dsimp only; omega, by dsimp only; omega⟩, by dsimp only; omega, ?_⟩
          simp -implicitDefEqProofs only [go_sem, hh, seval]
          try simp
          done)
       | (refine ⟨⟨(i + 1, v), by dsimp only; omega, by dsimp only; omega, by dsimp only; omega⟩, by dsimp only; omega, ?_⟩
          simp -implicitDefEqProofs only [go_sem, hh, seval]
          try simp
          done)
   ·have Ag := GN (f := Bu w) (xs := w.given) (i := i) (by omega)
    simp -implicitDefEqProofs only [hlt, decide_false, go_sem, hh, seval]
    with_reducible repeat' (first | apply ai | intro _ | ((first | apply s1 | apply s2 | apply s3 | apply s4) <;> intro hb <;> simp -implicitDefEqProofs only [hb, go_sem, hh, seval] <;> try simp only [qz] at hb))
    all_goals first | rfl | omega | (rw [← hv, Ag, Int.add_zero]; done)
 ·have b1 := AQ h
  rw [Jw h]
  simp -implicitDefEqProofs only [b1, go_sem, hh, seval]
  with_reducible repeat' (first | apply ai | intro _ | ((first | apply s1 | apply s2 | apply s3 | apply s4) <;> intro hb <;> simp -implicitDefEqProofs only [hb, go_sem, hh, seval] <;> try simp only [qz] at hb))
  all_goals first | rfl | omega | assumption | contradiction
end
theorem Hq {α : Type} [Inhabited α] {f : α → Int} {y : α} : ∀ {xs : List α} {i : Nat}, i < xs.length → At f (xs.set i y) + f (xs.getD i default) = At f xs + f y
 | [], i, h => absurd h (Nat.not_lt_zero _)
 | x :: r, 0, _ => by show f y + At f r + f x = f x + At f r + f y; omega
 | x :: r, i + 1, h => by
   have z := Hq (f := f) (y := y) (xs := r) (i := i) (Nat.lt_of_succ_lt_succ h)
   show f x + At f (r.set i y) + f (r.getD i default) = f x + At f r + f y
   omega
theorem LL {α : Type} (N : α → Int) : ∀ xs ys : List α, At N (xs ++ ys) = At N xs + At N ys
 | [], ys => by show _ = 0 + _; rw [Int.zero_add]; rfl
 | x :: r, ys => by show N x + At N (r ++ ys) = N x + At N r + At N ys; rw [LL N r ys]; omega
theorem UG (bs : List Bx) (a : Ad) (g : Gm) : At PT (D9 bs a g) = At PT bs + 1 := by
 cases hf : Fi bs a
 ·rw [E5 hf, LL]
  have e := LL PT (bs.take (kS bs a)) (bs.drop (kS bs a))
  rw [List.take_append_drop] at e
  show At PT (bs.take (kS bs a)) + (1 + At PT (bs.drop (kS bs a))) = _
  omega
 ·rw [GE hf]
  have z := Hq (f := PT) (y := ⟨(bs.getD (kS bs a) default).addr, (bs.getD (kS bs a) default).mails ++ [g]⟩) (Jd hf)
  have e : PT ⟨(bs.getD (kS bs a) default).addr, (bs.getD (kS bs a) default).mails ++ [g]⟩ = PT (bs.getD (kS bs a) default) + 1 := by
   unfold PT; rw [List.length_append]; rfl
  omega
theorem MP (x : Im) : ∀ (ads : List Ad) (g : Hs), Df (FI x ads g) = Df g + ads.length
 | [], g => by show Df g = Df g + 0; omega
 | a :: r, g => by
   have z := MP x r (FH g x a)
   have e : Df (FH g x a) = Df g + 1 := UG _ _ _
   have e2 : Df (FI x (a :: r) g) = Df (FI x r (FH g x a)) := rfl
   rw [List.length_cons]
   omega
theorem MO {c : Cf} {w : Int} : ∀ (xs : List Im) (g : Hs), (∀ x ∈ xs, x.to.length ≤ 4) → Df (Cs c w xs g) ≤ Df g + 4 * xs.length
 | [], g, _ => by show Df g ≤ Df g + 0; omega
 | x :: t, g, h => by
   have z := MO (c := c) (w := w) t (FI x (A2 c ⟨#[]⟩ w x.to) g) fun y hy => h y (List.mem_cons_of_mem _ hy)
   have e := MP x (A2 c ⟨#[]⟩ w x.to) g
   have l := Eg c ⟨#[]⟩ w x.to
   have h4 := h x (List.mem_cons_self ..)
   have e2 : Df (Cs c w (x :: t) g) = Df (Cs c w t (FI x (A2 c ⟨#[]⟩ w x.to) g)) := rfl
   rw [List.length_cons]
   omega
theorem Nx {w : Wd} {k : Int} {h : Hs} (q : 0 ≤ k ∧ k ≤ (w.hosts.length : Int) - 1) : FL (Hi w k h) + Df (Ag w k) = FL w + Df h := Hq (xs := w.hosts) (i := k.toNat) (by omega)
theorem Yu (h : Hs) (n : Int) (a : Ad) (out w : Int) : Df (Hf h n a out w) = Df h := by
 have e := (Dv h (A7 h.spool n).toNat (B0 (A3 h.spool n) a).toNat a out w).2.1
 show At PT (CR h _ _ a out w).boxes = _
 rw [e]; rfl
theorem iO (h : Hs) (m : Ml) (w : Int) : Df (I9 h m w).1 = Df h := by
 unfold I9; split <;> rfl
theorem gw (now : Int) : ∀ (ys : List Ml) (t : Hs), Df (ea now ys t) = Df t
 | [], _ => rfl
 | y :: r, t => (gw now r _).trans (iO t y now)
theorem hO (n now : Int) : ∀ (ds : List Ad) (os : List Int) (x : Hs), Df (Zw n now ds os x) = Df x
 | [], os, x => by cases os <;> rfl
 | _ :: _, [], x => rfl
 | a :: r, o :: s, x => (hO n now r s _).trans (Yu x n a o now)
theorem Xu (w : Wd) (c : Cf) (ls : Bool) (n : Int) : ∀ (rs : List Rc) (x : Hs × Bool), Df (QD w c ls n rs x).1 = Df x.1
 | [], _ => rfl
 | r :: t, x => by
   rw [QD]
   split
   ·exact (Xu w c ls n t _).trans (Yu _ _ _ _ _)
   ·exact Xu w c ls n t x
theorem ZM (k : Int) (mk : ByteArray) : ∀ (ys : List Ml) (w : Wd), 0 ≤ k ∧ k ≤ (w.hosts.length : Int) - 1 → FL (QE k mk ys w) = FL w
 | [], _, _ => rfl
 | y :: t, w, h => by
   rw [QE]
   split
   ·have e : (w.hosts.set k.toNat (JI (Ag w k) y w.now)).length = w.hosts.length := List.length_set
    have z := ZM k mk t (VN w k mk y) (by show 0 ≤ k ∧ k ≤ ((w.hosts.set k.toNat _).length : Int) - 1; rw [e]; exact h)
    have z2 := Hq (f := Df) (xs := w.hosts) (i := k.toNat) (y := JI (Ag w k) y w.now) (by omega)
    have e2 : Df (JI (Ag w k) y w.now) = Df (w.hosts.getD k.toNat default) := rfl
    have e3 : FL (VN w k mk y) = At Df (w.hosts.set k.toNat (JI (Ag w k) y w.now)) := rfl
    have e4 : FL w = At Df w.hosts := rfl
    omega
   ·exact ZM k mk t w h
theorem tC {N : Nat} {w : Wd} {e : Ev} (q : Gh N w) : FL (EA w e).1 ≤ FL w + 40 := by
 have h0 : FL w ≤ FL w + 40 := by omega
 unfold EA
 split
 ·by_cases h : rv w e
  ·rw [ZN h]
   have z := ZM e.host (A6 (OI w e).body) (I6 w e) ⟨w.hosts, w.now, w.marks + 1, w.given⟩ h.1
   have e1 : FL (⟨w.hosts, w.now, w.marks + 1, w.given⟩ : Wd) = FL w := rfl
   have e2 : FL (vq w e) = FL (QE e.host (A6 (OI w e).body) (I6 w e) ⟨w.hosts, w.now, w.marks + 1, w.given⟩) := rfl
   show FL (vq w e) ≤ _
   omega
  ·rw [I5 h]; exact h0
 ·split
  ·by_cases h : oh w e
   ·rw [Zh h]
    have hl : (Hi w e.to (Zv w e)).hosts.length = w.hosts.length := List.length_set
    have z1 := Nx (w := w) (k := e.to) (h := Zv w e) h.2.1
    have z2 := Nx (w := Hi w e.to (Zv w e)) (k := e.host) (h := Zu w e) (by rw [hl]; exact h.1)
    have hne : ¬ e.to.toNat = e.host.toNat := fun u => h.2.2.1 (by have := h.1; have := h.2.1; omega)
    have e1 : Ag (Hi w e.to (Zv w e)) e.host = Ag w e.host := by
     show (w.hosts.set e.to.toNat _).getD e.host.toNat default = w.hosts.getD e.host.toNat default
     rw [List.getD_eq_getElem?_getD, List.getElem?_set_ne hne, ← List.getD_eq_getElem?_getD]
    rw [e1] at z2
    have b1 : Df (Zv w e) = Df (Ag w e.to) := gw _ _ _
    have b2 : Df (Zu w e) = Df (Ag w e.host) := by
     unfold Zu
     cases e.lose
     ·exact hO _ _ _ _ _
     ·rfl
    show FL (Hi (Hi w e.to (Zv w e)) e.host (Zu w e)) ≤ _
    omega
   ·rw [LS h]; exact h0
  ·split
   ·unfold JD
    split
    ·rename_i h
     split
     ·exact h0
     ·have z := Nx (w := w) (k := e.host) (h := (PE w e).1) h
      have b : Df (PE w e).1 = Df (Ag w e.host) := Xu _ _ _ _ _ _
      show FL (Hi w e.host (PE w e).1) ≤ _
      omega
    ·exact h0
   ·split
    ·split
     ·rename_i h
      have hH := q.1 _ (AB (xs := w.hosts) (j := e.host.toNat) (by omega))
      have z := Nx (w := w) (k := e.host) (h := Cs (Ag w e.host).conf w.now (Ag w e.host).spool.items (Ag w e.host)) h
      have b := MO (c := (Ag w e.host).conf) (w := w.now) (Ag w e.host).spool.items (Ag w e.host) fun x hx => (hH.1.2.2.2.1 x hx).1.2.2.2.2.1.2
      have l := hH.1.2.2.2.2.2.2
      show FL (Hi w e.host (Cs (Ag w e.host).conf w.now (Ag w e.host).spool.items (Ag w e.host))) ≤ _
      have l2 : (Ag w e.host).spool.items.length ≤ 10 := l
      omega
     ·exact h0
    ·split
     ·split
      ·exact h0
      ·exact h0
     ·exact h0
theorem gZ : ∀ (es : List Ev) {w : Wd} {N : Nat}, Gh N w → N + 40 * es.length ≤ 1000000 → FL (Y4 es w) ≤ FL w + 40 * es.length
 | [], w, N, q, _ => by show FL w ≤ FL w + 0; omega
 | e :: t, w, N, q, h => by
   rw [List.length_cons] at h ⊢
   have z := gZ t (So (e := e) q (by omega)) (by omega)
   have z2 := tC (e := e) q
   have e2 : FL (Y4 (e :: t) w) = FL (Y4 t (EA w e).1) := rfl
   omega
theorem TP : ∀ cs : List Cf, At Df (cs.map FJ) = 0
 | [] => rfl
 | c :: r => by
   have z := TP r
   show 0 + At Df (r.map FJ) = 0
   omega
theorem we (r : Rd) : FL (DK r) ≤ 1600 := by
 have hl : ((G6 r).2.2.take 40).length ≤ 40 := by rw [List.length_take]; omega
 have z := gZ ((G6 r).2.2.take 40) (Mp (HR r)) (by omega)
 have e : FL (EC (DE r)) = 0 := TP _
 show FL (Y4 ((G6 r).2.2.take 40) (EC (DE r))) ≤ _
 omega
theorem xC {r : Rd} (h : 0 ≤ r.p) (h1 : r.p ≤ 999500000) : FL (aw r).1 ≤ 1600 := by
 have hk := V2 h (by omega)
 have z := we r
 have key : ∀ y : Hs, Df y = Df ((DK r).hosts.getD (V1 r).toNat default) → At Df ((DK r).hosts.set (V1 r).toNat y) ≤ 1600 := fun y e => by
  have q := Hq (f := Df) (xs := (DK r).hosts) (i := (V1 r).toNat) (y := y) (by omega)
  have e2 : FL (DK r) = At Df (DK r).hosts := rfl
  omega
 by_cases c0 : Gp r = 0
 ·rw [jB c0]; exact key _ rfl
 ·by_cases c1 : Gp r = 1
  ·rw [jC c1]; exact key _ rfl
  ·by_cases c2 : Gp r = 2
   ·rw [jD c2]; exact z
   ·by_cases c3 : Gp r = 3
    ·rw [jE c3]; exact z
    ·by_cases c4 : Gp r = 4
     ·rw [jF c4]; show (0 : Int) ≤ 1600; decide
     ·rw [jG ⟨c0, c1, c2, c3, c4⟩]; exact z
theorem Sw {g : Ls} : ∀ {ms : List Gm}, 0 < At (EL g) ms → ∃ m ∈ ms, OP g m
 | [], h => absurd h (by show ¬ (0 : Int) < 0; decide)
 | x :: r, h => by
   by_cases q : OP g x
   ·exact ⟨x, by simp, q⟩
   ·have e := RI q
    have h' : 0 < EL g x + At (EL g) r := h
    obtain ⟨m, hm, z⟩ := Sw (g := g) (ms := r) (by omega)
    exact ⟨m, by simp [hm], z⟩
theorem Tg {α : Type} {f g : α → Int} : ∀ {xs : List α}, (∀ x ∈ xs, f x + g x ≤ 1) → At f xs + At g xs ≤ xs.length
 | [], _ => Int.le_refl _
 | x :: r, h => by
   have h1 := h x (by simp)
   have h2 := Tg (xs := r) fun y hy => h y (by simp [hy])
   show f x + At f r + (g x + At g r) ≤ ((r.length + 1 : Nat) : Int)
   omega
theorem YB {w : Wd} (h : EJ w) : OT w + Jv w ≤ w.given.length := by
 rw [JT h, HE h]
 refine Tg fun g _ => ?_
 have b1 := Jh w.hosts g
 have b2 := Ht w g
 by_cases q : ∃ x ∈ w.hosts, DR x g
 ·have := Na q; omega
 ·by_cases t : 1 < Fj w g
  ·exfalso
   apply q
   obtain ⟨m, hm, z⟩ := Sw (g := g) (ms := Bz w g.addr) (by unfold Fj at t; omega)
   rw [QL h] at hm
   obtain ⟨x, hx, hm⟩ := Fb hm
   obtain ⟨b, hb, hm⟩ := Fb hm
   unfold C1 at hm
   split at hm
   ·rename_i e
    exact ⟨x, hx, .inr (.inl ⟨b, hb, m, hm, z.1, .inr ⟨e, z.2⟩⟩)⟩
   ·cases hm
  ·have := LT t; omega
def xK : Ct := Aj (lc P8.asl l0) (fun p => True) (fun p => OM.ag.enc (aw (opn p.1)).1)
section
attribute [local go_sem] xP xZ JR R7 NZ Pl vS lm List.length_append List.length_cons List.length_nil List.map_append List.map_nil Nat.zero_add List.nil_append AO B2 BK BM BT Bv Cy Bp Bt AS.opn AS.cls AS.nilb AS.renb AS.up Bool.not_false Bool.not_true List.set_set List.set_cons_zero List.set_cons_succ List.set_nil List.mem_singleton forall_eq
set_option maxHeartbeats 1600000 in
theorem te {G : Gt} (hG : Ac G) (hh : G.e 21 = AA 1 xP ∧ G.e 51 = AW xZ) : Gd G 12 (AA 1 xK) := by
 refine gr (fn := Tryz.f12) (n := 1) rfl hG ?_
 rintro ⟨b, ⟨⟩⟩ hpre
 dsimp only
 simp -implicitDefEqProofs only [Tryz.f12, go_sem, hh, Int.reduceAdd, seval]
 with_reducible repeat' (first | apply ai | intro _ | ((first | apply s1 | apply s2 | apply s3 | apply s4) <;> intro hb <;> simp -implicitDefEqProofs only [hb, go_sem, hh, Int.reduceAdd, seval] <;> try simp only [qz] at hb))
 all_goals (try simp only [maxLen, tn] at *)
 all_goals first | with_reducible rfl | omega | with_reducible assumption | (show _ = true; rfl) | contradiction | decide | skip
end
def c4 : Ct := Aj (lc P8.asl l0) (fun p => True) (fun p => .t (.v (.bool true)))
section
attribute [local go_sem] xK xL xM xN xO bf JR R7 BT NZ AK AM lm decide_true
set_option maxHeartbeats 6400000 in
theorem wt {G : Gt} (hG : Ac G) (hh : G.e 12 = AA 1 xK ∧ G.e 13 = AA 0 xL ∧ G.e 14 = AA 0 xM ∧ G.e 15 = AA 0 xN ∧ G.e 16 = AA 0 xO ∧ G.e 17 = AA 0 bf) : Gd G 4 (AA 0 c4) := by
 refine gr (fn := Tryz.f4) (n := 1) rfl hG ?_
 rintro ⟨b, ⟨⟩⟩ hpre
 try dsimp only
 have zw := sX (r := opn b) (by rw [Pl]; decide) (by rw [Pl]; decide)
 have zn := xC (r := opn b) (by rw [Pl]; decide) (by rw [Pl]; decide)
 obtain ⟨W, hr⟩ : ∃ W, (aw (opn b)).1 = W := ⟨_, rfl⟩
 rw [hr] at zw zn
 have zn2 : FL W ≤ 1048576 := by omega
 have zg := zw.2.1
 by_cases L : (b.length : Int) > 1048576
 ·simp -implicitDefEqProofs only [Tryz.f4, L, decide_true, go_sem, hh, seval]
  with_reducible repeat' (first | apply ai | intro _ | ((first | apply s1 | apply s2 | apply s3 | apply s4) <;> intro hb <;> simp -implicitDefEqProofs only [hb, go_sem, hh, seval] <;> try simp only [qz] at hb))
  all_goals first | with_reducible rfl | omega | with_reducible assumption | (show _ = true; rfl) | contradiction | decide | skip
 ·by_cases hok : EJ W
  ·have b1 := An hok
   have k1 := NY W
   have k2 := LU W
   have k3 := YB hok
   rw [← JT hok] at k1
   rw [← HE hok] at k2
   simp -implicitDefEqProofs only [Tryz.f4, L, hr, b1, eq_self, decide_true, decide_false, go_sem, hh, seval]
   with_reducible repeat' (first | apply ai | intro _ | ((first | apply s1 | apply s2 | apply s3 | apply s4) <;> intro hb <;> simp -implicitDefEqProofs only [hb, go_sem, hh, seval] <;> try simp only [qz] at hb))
   all_goals (try simp only [maxLen, tn] at *)
   all_goals first | with_reducible rfl | omega | with_reducible assumption | (show _ = true; rfl) | contradiction | decide | exact ⟨zw, zn2⟩ | (rw [decide_eq_true (by omega)]; done) | skip
  ·have b1 := AQ hok
   have e0 := Mr hok
   have e1 := Jw hok
   simp -implicitDefEqProofs only [Tryz.f4, L, hr, b1, e0, e1, eq_self, decide_true, decide_false, go_sem, hh, seval]
   with_reducible repeat' (first | apply ai | intro _ | ((first | apply s1 | apply s2 | apply s3 | apply s4) <;> intro hb <;> simp -implicitDefEqProofs only [hb, go_sem, hh, seval] <;> try simp only [qz] at hb))
   all_goals (try simp only [maxLen, tn] at *)
   all_goals first | with_reducible rfl | omega | with_reducible assumption | (show _ = true; rfl) | contradiction | decide | exact ⟨zw, zn2⟩ | skip
end
end Go.V
namespace Go.V
open Go Go.Proofs Go.ChangeShapes Go.WideShapes Go.ChangeAt Go.RowKit
set_option maxRecDepth 100000
section
variable {H : Type} {enc : TypeId × Value → H} {W : World} {P : Program}
def pW (W : World) : Nat → Prop := fun b => b < W.heap.size
def yy (P : Program) (W : World) (enc : TypeId × Value → H) (t : TypeId) (q : List T → Prop) : Prop :=
 ∀ (n : Nat) (cs : List Value) (x : DataW H × List MemPlace), DataW.trod enc P W 0 (fun _ => true) true n t cs = some x → ∃ ts, q ts ∧ CC W (pW W) ts cs
theorem yy.slice {α : Type} (E : En α) {t e : TypeId} (u : P.underlying t = some (.slice e)) (hn : P.cellsOf e = E.n) (h0 : 0 < E.n) (he : yy P W enc e fun ts => ∃ a, ts = E.enc a) :
    yy P W enc t fun ts => ∃ xs : List α, ts = [.sl E.n (xs.map E.enc)] := fun n cs x h => by
 rcases DataW.trod_slice u h with ⟨rfl, _⟩ | ⟨a, len, cap, elems, rest, m, rfl, rfl, _, _, hlc, hcm, hel, hes, _⟩
 ·exact ⟨_, ⟨[], rfl⟩, .cons _ _ _ _ (.nil _) .nil⟩
 ·rw [hn] at hes
  have key : ∀ k, k ≤ len → ∃ (xs : List α) (vs : List Value), xs.length = k ∧ vs.length = k * E.n ∧ CC W (pW W) (xs.map E.enc).flatten vs ∧ (0 < k → a.block < W.heap.size) ∧ ∀ j v, vs[j]? = some v → W.cell? (a.add j) = some v := fun k => by
   induction k with
   | zero => exact fun _ => ⟨[], [], rfl, by simp, .nil, fun h => absurd h (Nat.lt_irrefl _), fun j v hj => by simp at hj⟩
   | succ k ih =>
     intro hk
     obtain ⟨xs, vs, h1, h2, h3, h4, h5⟩ := ih (by omega)
     have h6 := hes k (by omega)
     rw [List.getElem?_eq_getElem (by omega)] at h6
     obtain ⟨cs, h7, h8⟩ := Option.bind_eq_some_iff.1 h6
     obtain ⟨ts, ⟨y, rfl⟩, h9⟩ := he _ _ _ h8
     obtain ⟨q1, q2, q3⟩ := World.cells?_some h7
     have hb : a.block < W.heap.size := by
      have := World.cells?_block h7 h0
      rwa [DL] at this
     refine ⟨xs ++ [y], vs ++ cs, by simp [h1], ?_, ?_, fun _ => hb, fun j v hj => ?_⟩
     ·have : cs.length = E.n := by rw [← h9.len, E.len]
      rw [List.length_append, h2, this, Nat.succ_mul]
     ·rw [List.map_append, List.flatten_append]
      exact h3.append (by simpa using h9)
     ·by_cases hj2 : j < vs.length
      ·rw [List.getElem?_append_left hj2] at hj
       exact h5 j v hj
      ·rw [List.getElem?_append_right (by omega)] at hj
       have hjl : j - vs.length < E.n := by
        have := (List.getElem?_eq_some_iff.1 hj).1
        have h10 : cs.length = E.n := by rw [← h9.len, E.len]
        omega
       have := q3 (j - vs.length) hjl
       rw [GV] at this
       rw [show j = k * E.n + (j - vs.length) from by omega, this]
       exact hj
  obtain ⟨xs, vs, h1, h2, h3, h4, h5⟩ := key len (Nat.le_refl _)
  refine ⟨_, ⟨xs, rfl⟩, .cons _ _ _ _ (.sl E.n _ a len cap vs (by simp [h1]) hlc hcm (fun hne => ?_) (fun c hc => ?_) h5 h3) .nil⟩
  ·refine h4 ?_
   rcases Nat.eq_zero_or_pos len with h | h
   ·exact absurd (by rw [List.eq_nil_of_length_eq_zero (h1.trans h)]; rfl) hne
   ·exact h
  ·obtain ⟨y, _, rfl⟩ := List.mem_map.1 hc
   exact E.len y
end
end Go.V
namespace Go.Proofs.YthmjinhpngfdbaaGreatDoor
open Go Go.Proofs Go.ChangeShapes Go.WideShapes Go.ChangeAt Go.RowKit
set_option maxRecDepth 100000
theorem own : ownKnob Tryz.prog.godebug = none := by kernel_rfl
def flatD : Nat → DataW Unit → List Value
 | 0, _ => []
 | _ + 1, .lit (.int k v) => [.int k v]
 | n + 1, .agg xs => xs.flatMap (flatD n)
 | _ + 1, _ => []
noncomputable def gOf (n : String) : Nat := (Tryz.prog.globalNamed n).getD 0
noncomputable def layAt (n : String) (d : DataW Unit) (h : Array Obj) : Array Obj := h.modify (gOf n) fun
 | .cells _ t frozen => .cells (flatD 5 d).toArray t frozen
 | o => o
noncomputable def laidWorld (os : Os) : World :=
 { World.holding Tryz.prog os ⟨#[], #[], []⟩ with heap := layAt "unicode/utf8.first" Rows.laid_unicode_utf8_first (layAt "unicode/utf8.acceptRanges" Rows.laid_unicode_utf8_acceptRanges (World.holding Tryz.prog os ⟨#[], #[], []⟩).heap) }
noncomputable def args0 : Array Value := #[.slice none 0 0]
theorem laid_met (os : Os) : laidMet Tryz.prog Rows.fnKeptLookRow.laid ((laidWorld os).forCall (fun _ _ => 0) ⟨#[], args0, []⟩).memory :=
 laidMet_of_run' 8 (by kernel_rfl) (by kernel_rfl)
theorem reads (os : Os) {H : Type} (enc : TypeId × Value → H) : ∃ places, DataW.whole enc Tryz.prog ((laidWorld os).forCall (fun _ _ => 0) ⟨#[], args0, []⟩).memory Tryz.f4.params.toList Rows.fnKeptLookSpec.vars false args0.toList 8 = some ([.nil], [], places) :=
 ⟨[], by kernel_rfl⟩
theorem func4 : Tryz.prog.funcs[4]? = some Tryz.f4 := by kernel_rfl
def Every : Prop := ∀ (H : Type) (enc : TypeId × Value → H) (W : World) (base : Nat) (args : Array Value) (ds gs : List (DataW H)) (before : List MemPlace)
    (_ : ∀ (j : Nat) t v, Tryz.f4.params[j]? = some t → args[j]? = some v → Value.okWide Tryz.prog W .any base t v)
    (_ : DataW.Whole enc Tryz.prog Tryz.f4.params.toList Rows.fnKeptLookSpec.vars false W args.toList ds gs before) (_ : W.ShapedOpen Tryz.prog),
    Calls Tryz.prog 4 args W fun e W' => ∃ v, e = .returned v ∧ Rows.fnKeptLookSpec.post enc Tryz.prog Tryz.f4 false true false false W args v W'
theorem lifted (hE : Every) (os : Os) (started : os.Started) (H : Type) (enc : TypeId × Value → H) (F : Stop.Interp) :
    ReturnsInHanded {} Tryz.checked os 4 .any ((OpenSpec.ofChange Rows.fnKeptLookSpec).preRow enc Tryz.prog Tryz.f4 Rows.fnKeptLookRow.domain false Rows.fnKeptLookRow.laid) (((OpenSpec.ofChange Rows.fnKeptLookSpec).at F).post enc Tryz.prog Tryz.f4 false true false false) := by
 obtain ⟨places, hx⟩ := reads os enc
 refine returnsInHanded_of_row (C := Tryz.checked) (s := OpenSpec.ofChange Rows.fnKeptLookSpec) own started (by kernel_rfl) func4
  (witness_row_at (enc := enc) (C := Tryz.checked) false (laidWorld os) args0 rfl (by kernel_rfl) (by kernel_rfl) (by kernel_rfl)
    (OpenSpec.preRow_of_cond 8 hx (by kernel_rfl) (fun k hk => by cases hk) (by kernel_rfl) (laid_met os))) ?_
 intro W base args ds gs before hval hW _ _ _ _ hS _
 exact hE H enc W base args ds gs before hval hW hS
theorem said (hE : Every) : Rows.FnKeptLookSaid :=
 OpenClaim.holds_of_cond 4 Tryz.f4 rfl rfl rfl rfl rfl rfl rfl ⟨rfl, rfl, rfl, rfl, rfl⟩ rfl rfl rfl rfl rfl (by kernel_rfl) func4 (by kernel_rfl)
  (of_decide_eq_true (by kernel_rfl)) (by unfold Func.isWrapper; first | (rw [if_pos (by decide +kernel)]; kernel_rfl) | (rw [if_neg (by decide +kernel)]; exact ⟨rfl, rfl⟩))
  (fun os started H enc _ F => by rw [OpenClaim.pre_eq_preRow]; exact lifted hE os started H enc F)
theorem params4 : Tryz.f4.params = #[22] := rfl
theorem plain (f : FuncId) (fn : Func) (hf : Tryz.pinned.checked.prog.funcNamed "loop.example/satchel/laws.FnKeptLook" = some f) (hfn : Tryz.pinned.checked.prog.funcs[f]? = some fn) :
    false = Tryz.pinned.checked.prog.looks [] ∧ ∀ (j : Nat) t, fn.params[j]? = some t → Tryz.pinned.checked.prog.wantsStandIn t = false := by
 obtain rfl : f = 4 := Option.some.inj ((show Tryz.prog.funcNamed "loop.example/satchel/laws.FnKeptLook" = some 4 by kernel_rfl).symm.trans hf) |>.symm
 obtain rfl : fn = Tryz.f4 := (Option.some.inj (func4.symm.trans hfn)).symm
 refine ⟨by kernel_rfl, fun j t ht => ?_⟩
 rw [params4] at ht
 have hm : t ∈ [22] := by simpa using Array.mem_of_getElem? ht
 have hall : ([22].all fun u => !Tryz.prog.wantsStandIn u) = true := by kernel_rfl
 exact (show Tryz.prog.wantsStandIn t = false by simpa using List.all_eq_true.1 hall t hm)
theorem card_of (hE : Every) : Rows.FnKeptLookCardSaid :=
 Claim7.holds_tied_plain_at .later [] _ _ _ _ (said hE) (fun _ h => by cases h) (by kernel_rfl) (fun _ h => by cases h) fnKeptLook_row_tie rfl ⟨rfl, rfl⟩ (by kernel_rfl) rfl plain (by kernel_rfl)
end Go.Proofs.YthmjinhpngfdbaaGreatDoor
namespace Go.V
open Go Go.Proofs Go.ChangeShapes Go.WideShapes Go.ChangeAt Go.RowKit
set_option maxRecDepth 100000
set_option linter.unusedVariables false
set_option maxHeartbeats 4000000 in
theorem con4 (m : Int) (b : List UInt8) : VO Tryz.prog m 4 ((lc P8.asl l0).enc (b, ())) ((lc P8.asl l0).enc (b, ())) (.t (.v (.bool true))) := by
 have g0 : Lb Tryz.prog (QK m []) ∧ El (QK m []) := P9
 have g1 := AF g0 (tk g0)
 have g2 := AF g1 (uc g1)
 have g3 := AF g2 (tl g2 rfl)
 have g4 := AF g3 (pM g3 rfl)
 have g5 := AF g4 (qL g4 rfl)
 have g6 := AF g5 (qM g5)
 have g7 := AF g6 (tw g6)
 have g8 := AF g7 (qH g7 rfl)
 have g9 := AF g8 (pn g8 ⟨rfl, rfl⟩)
 have g10 := AF g9 (ul g9 rfl)
 have g11 := AF g10 (uo g10)
 have g12 := AF g11 (pY g11)
 have g13 := AF g12 (pm g12 rfl)
 have g14 := AF g13 (pX g13 ⟨rfl, rfl⟩)
 have g15 := AF g14 (uS g14)
 have g16 := AF g15 (ui g15 ⟨rfl, rfl, rfl⟩)
 have g17 := AF g16 (uj g16)
 have g18 := AF g17 (uk g17)
 have g19 := AF g18 (qN g18 ⟨rfl, rfl⟩)
 have g20 := AF g19 (po g19 ⟨rfl, rfl, rfl, rfl, rfl⟩)
 have g21 := AF g20 (um g20 ⟨rfl, rfl⟩)
 have g22 := AF g21 (tr g21 ⟨rfl, rfl, rfl, rfl, rfl⟩)
 have g23 := AF g22 (uR g22)
 have g24 := AF g23 (uO g23 ⟨rfl, rfl, rfl, rfl, rfl⟩)
 have g25 := AF g24 (qU g24 ⟨rfl, rfl, rfl⟩)
 have g26 := AF g25 (ph g25 rfl)
 have g27 := AF g26 (ud g26 ⟨rfl, rfl⟩)
 have g28 := AF g27 (rF g27 rfl)
 have g29 := AF g28 (qr g28 ⟨rfl, rfl⟩)
 have g30 := AF g29 (qW g29 ⟨rfl, rfl, rfl, rfl⟩)
 have g31 := AF g30 (qn g30 ⟨rfl, rfl, rfl⟩)
 have g32 := AF g31 (pq g31)
 have g33 := AF g32 (uq g32 rfl)
 have g34 := AF g33 (tt g33 ⟨rfl, rfl⟩)
 have g35 := AF g34 (qA g34 rfl)
 have g36 := AF g35 (qy g35 ⟨rfl, rfl, rfl, rfl⟩)
 have g37 := AF g36 (pu g36)
 have g38 := AF g37 (q8 g37)
 have g39 := AF g38 (q9 g38)
 have g40 := AF g39 (rK g39 rfl)
 have g41 := AF g40 (ra g40)
 have g42 := AF g41 (rR g41 rfl)
 have g43 := AF g42 (pc g42 rfl)
 have g44 := AF g43 (rT g43 rfl)
 have g45 := AF g44 (rS g44 rfl)
 have g46 := AF g45 (rU g45)
 have g47 := AF g46 (rV g46)
 have g48 := AF g47 (rb g47)
 have g49 := AF g48 (rW g48 rfl)
 have g50 := AF g49 (rL g49 ⟨rfl, rfl, rfl, rfl, rfl, rfl, rfl⟩)
 have g51 := AF g50 (rX g50)
 have g52 := AF g51 (rY g51)
 have g53 := AF g52 (rf g52)
 have g54 := AF g53 (qJ g53 ⟨rfl, rfl⟩)
 have g55 := AF g54 (rg g54 rfl)
 have g56 := AF g55 (qi g55)
 have g57 := AF g56 (qK g56 rfl)
 have g58 := AF g57 (ri g57 ⟨rfl, rfl⟩)
 have g59 := AF g58 (rh g58 ⟨rfl, rfl, rfl⟩)
 have g60 := AF g59 (rc g59 ⟨rfl, rfl, rfl, rfl, rfl⟩)
 have g61 := AF g60 (qI g60 rfl)
 have g62 := AF g61 (rd g61 ⟨rfl, rfl, rfl⟩)
 have g63 := AF g62 (rZ g62 ⟨rfl, rfl, rfl, rfl⟩)
 have g64 := AF g63 (rM g63 ⟨rfl, rfl, rfl⟩)
 have g65 := AF g64 (rN g64)
 have g66 := AF g65 (rA g65 ⟨rfl, rfl, rfl, rfl⟩)
 have g67 := AF g66 (rO g66)
 have g68 := AF g67 (pv g67)
 have g69 := AF g68 (rB g68 ⟨rfl, rfl, rfl, rfl⟩)
 have g70 := AF g69 (qo g69 ⟨rfl, rfl, rfl, rfl, rfl, rfl, rfl, rfl⟩)
 have g71 := AF g70 (tu g70)
 have g72 := AF g71 (pe g71 ⟨rfl, rfl⟩)
 have g73 := AF g72 (rC g72 rfl)
 have g74 := AF g73 (rD g73 ⟨rfl, rfl⟩)
 have g75 := AF g74 (tv g74)
 have g76 := AF g75 (ur g75 rfl)
 have g77 := AF g76 (pt g76)
 have g78 := AF g77 (ut g77 ⟨rfl, rfl⟩)
 have g79 := AF g78 (px g78 ⟨rfl, rfl⟩)
 have g80 := AF g79 (uu g79 ⟨rfl, rfl, rfl, rfl, rfl, rfl⟩)
 have g81 := AF g80 (tx g80 ⟨rfl, rfl, rfl, rfl, rfl⟩)
 have g82 := AF g81 (qp g81 ⟨rfl, rfl, rfl, rfl, rfl, rfl⟩)
 have g83 := AF g82 (rE g82)
 have g84 := AF g83 (qq g83 ⟨rfl, rfl, rfl, rfl, rfl, rfl⟩)
 have g85 := AF g84 (pf g84 rfl)
 have g86 := AF g85 (uY g85 ⟨rfl, rfl, rfl⟩)
 have g87 := AF g86 (qV g86 ⟨rfl, rfl, rfl, rfl, rfl⟩)
 have g88 := AF g87 (qT g87 ⟨rfl, rfl, rfl, rfl, rfl⟩)
 have g89 := AF g88 (p9 g88 ⟨rfl, rfl, rfl⟩)
 have g90 := AF g89 (qB g89 ⟨rfl, rfl⟩)
 have g91 := AF g90 (pK g90 ⟨rfl, rfl, rfl⟩)
 have g92 := AF g91 (qC g91 ⟨rfl, rfl, rfl, rfl, rfl, rfl, rfl⟩)
 have g93 := AF g92 (pL g92 ⟨rfl, rfl, rfl⟩)
 have g94 := AF g93 (pg g93 ⟨rfl, rfl⟩)
 have g95 := AF g94 (uZ g94 ⟨rfl, rfl, rfl⟩)
 have g96 := AF g95 (pN g95 ⟨rfl, rfl, rfl⟩)
 have g97 := AF g96 (uG g96 ⟨rfl, rfl, rfl, rfl, rfl, rfl, rfl⟩)
 have g98 := AF g97 (te g97 ⟨rfl, rfl⟩)
 have g99 := Lx g98 (qw m)
 have g100 := AF g99 (qj g99 rfl)
 have g101 := Lx g100 (rP m)
 have g102 := AF g101 (rG g101 rfl)
 have g103 := Lx g102 (rH m)
 have g104 := AF g103 (rI g103)
 have g105 := AF g104 (rQ g104)
 have g106 := AF g105 (rJ g105 rfl)
 have g107 := AF g106 (qx g106 ⟨rfl, rfl, rfl, rfl⟩)
 have g108 := AF g107 (ql g107 rfl)
 have g109 := AF g108 (qO g108 ⟨rfl, rfl⟩)
 have g110 := AF g109 (py g109 rfl)
 have g111 := AF g110 (tp g110)
 have g112 := AF g111 (qP g111)
 have g113 := AF g112 (qm g112)
 have g114 := AF g113 (qQ g113 rfl)
 have g115 := AF g114 (qR g114 rfl)
 have g116 := AF g115 (p6 g115 ⟨rfl, rfl, rfl⟩)
 have g117 := AF g116 (pF g116 ⟨rfl, rfl⟩)
 have g118 := AF g117 (uw g117 ⟨rfl, rfl⟩)
 have g119 := AF g118 (pE g118)
 have g120 := AF g119 (pD g119 rfl)
 have g121 := AF g120 (uv g120 rfl)
 have g122 := AF g121 (qG g121)
 have g123 := AF g122 (qs g122 rfl)
 have g124 := AF g123 (qY g123 rfl)
 have g125 := AF g124 (qX g124 ⟨rfl, rfl⟩)
 have g126 := AF g125 (pz g125 ⟨rfl, rfl, rfl⟩)
 have g127 := AF g126 (o9 g126 rfl)
 have g128 := AF g127 (ux g127 rfl)
 have g129 := AF g128 (p4 g128 rfl)
 have g130 := AF g129 (pA g129 rfl)
 have g131 := AF g130 (tz g130 ⟨rfl, rfl, rfl⟩)
 have g132 := AF g131 (t8 g131 ⟨rfl, rfl⟩)
 have g133 := AF g132 (tq g132 rfl)
 have g134 := AF g133 (pC g133)
 have g135 := AF g134 (t6 g134 ⟨rfl, rfl⟩)
 have g136 := AF g135 (p5 g135)
 have g137 := AF g136 (t7 g136 rfl)
 have g138 := AF g137 (pB g137 ⟨rfl, rfl, rfl, rfl, rfl, rfl⟩)
 have g139 := AF g138 (t4 g138 ⟨rfl, rfl⟩)
 have g140 := AF g139 (p7 g139)
 have g141 := AF g140 (pG g140 rfl)
 have g142 := AF g141 (t9 g141 rfl)
 have g143 := AF g142 (t5 g142 ⟨rfl, rfl⟩)
 have g144 := AF g143 (pH g143 rfl)
 have g145 := AF g144 (uA g144 rfl)
 have g146 := Lx g145 (qS m)
 have g147 := AF g146 (p8 g146 rfl)
 have g148 := AF g147 (pJ g147 rfl)
 have g149 := AF g148 (pI g148)
 have g150 := AF g149 (uC g149 ⟨rfl, rfl⟩)
 have g151 := AF g150 (tc g150 ⟨rfl, rfl, rfl, rfl, rfl, rfl⟩)
 have g152 := AF g151 (pV g151 rfl)
 have g153 := AF g152 (uL g152 rfl)
 have g154 := AF g153 (uV g153 ⟨rfl, rfl⟩)
 have g155 := AF g154 (uW g154)
 have g156 := AF g155 (tj g155 ⟨rfl, rfl, rfl, rfl, rfl, rfl⟩)
 have g157 := AF g156 (qD g156 rfl)
 have g158 := AF g157 (qv g157)
 have g159 := AF g158 (qu g158 rfl)
 have g160 := AF g159 (qh g159 rfl)
 have g161 := AF g160 (qt g160 rfl)
 have g162 := AF g161 (qZ g161 rfl)
 have g163 := AF g162 (pk g162 rfl)
 have g164 := AF g163 (qE g163 ⟨rfl, rfl, rfl, rfl, rfl⟩)
 have g165 := AF g164 (pP g164 ⟨rfl, rfl, rfl⟩)
 have g166 := AF g165 (pR g165)
 have g167 := AF g166 (uh g166 rfl)
 have g168 := AF g167 (pQ g167 rfl)
 have g169 := AF g168 (uM g168 ⟨rfl, rfl⟩)
 have g170 := AF g169 (pT g169)
 have g171 := AF g170 (qF g170 rfl)
 have g172 := AF g171 (pS g171 rfl)
 have g173 := AF g172 (uJ g172 ⟨rfl, rfl, rfl, rfl, rfl⟩)
 have g174 := AF g173 (uI g173 rfl)
 have g175 := AF g174 (pO g174 rfl)
 have g176 := AF g175 (uH g175 rfl)
 have g177 := AF g176 (tf g176 ⟨rfl, rfl⟩)
 have g178 := AF g177 (uX g177)
 have g179 := AF g178 (pi g178)
 have g180 := AF g179 (ue g179 ⟨rfl, rfl⟩)
 have g181 := AF g180 (pj g180)
 have g182 := AF g181 (uf g181 ⟨rfl, rfl⟩)
 have g183 := AF g182 (ug g182)
 have g184 := AF g183 (tm g183 ⟨rfl, rfl, rfl, rfl⟩)
 have g185 := AF g184 (pU g184 ⟨rfl, rfl⟩)
 have g186 := AF g185 (uK g185 ⟨rfl, rfl⟩)
 have g187 := AF g186 (tg g186 ⟨rfl, rfl, rfl, rfl⟩)
 have g188 := AF g187 (pZ g187 ⟨rfl, rfl, rfl⟩)
 have g189 := AF g188 (uU g188 rfl)
 have g190 := AF g189 (pd g189 ⟨rfl, rfl, rfl⟩)
 have g191 := AF g190 (uP g190 ⟨rfl, rfl, rfl, rfl, rfl, rfl⟩)
 have g192 := AF g191 (th g191 ⟨rfl, rfl⟩)
 have g193 := AF g192 (uQ g192 rfl)
 have g194 := AF g193 (ti g193 ⟨rfl, rfl, rfl, rfl, rfl⟩)
 have hg := wt g194 ⟨rfl, rfl, rfl, rfl, rfl, rfl⟩
 obtain ⟨res, h1, _, h3, _⟩ := hg.ro ((lc P8.asl l0).enc (b, ())) (fun r => r = .t (.v (.bool true))) (by
  show c4 _ _
  rw [c4, b9, (lc P8.asl l0).ed]
  exact ⟨trivial, rfl⟩)
 rw [h1] at h3
 exact h3
section
variable {H : Type} {enc : TypeId × Value → H} {W : World}
theorem v3 : Tryz.prog.underlying 3 = some (.int .i64) := by kernel_rfl
theorem v5 : Tryz.prog.underlying 5 = some (.int .u8) := by kernel_rfl
theorem w5 : Tryz.prog.cellsOf 5 = 1 := by kernel_rfl
theorem rdBy : yy Tryz.prog W enc 5 fun ts => ∃ a, ts = P8.enc a := fun n cs x h => by
 obtain ⟨k, rfl, _, hs⟩ := DataW.trod_int v5 h
 have hb : 0 ≤ k ∧ k < 256 := by
  have e : (Lit.int .u8 k).wf = (decide ((0 : Int) ≤ k) && decide (k ≤ 255)) := rfl
  rw [e] at hs
  simp at hs
  omega
 refine ⟨_, ⟨UInt8.ofNat k.toNat, rfl⟩, .cons _ _ _ _ ?_ .nil⟩
 have e4 : (((UInt8.ofNat k.toNat).toNat : Nat) : Int) = k := by
  have : (UInt8.ofNat k.toNat).toNat = k.toNat := by simp; omega
  omega
 rw [e4]
 exact .v _ trivial
theorem v22 : Tryz.prog.underlying 22 = some (.slice 5) := by kernel_rfl
theorem glOk_of (h : W.ShapedOpen Tryz.prog) : ∃ m, Ly m W (pW W) := by
 obtain ⟨cs, h1, h2, h3⟩ := h.1 0 #[.int .i64 0] 3 (Nat.lt_of_lt_of_le (Nat.lt_succ_self 0) (Nat.le_of_ble_eq_true (by kernel_rfl))) (by kernel_rfl)
 obtain ⟨ts, t1, _, t3⟩ := h3 (by kernel_rfl)
 have hts : ts = [3] := Option.some.inj (t1.symm.trans (by kernel_rfl))
 subst hts
 have hsz : cs.size = 1 := h2
 have h0 : cs[0]? = some cs[0] := Array.getElem?_eq_getElem (by omega)
 obtain ⟨u, hu, hok⟩ := t3 0 _ h0
 simp at hu
 subst hu
 unfold Cell.ok at hok
 rw [v3] at hok
 generalize cs[0] = v at h0 hok
 have hb : (0 : Nat) < W.heap.size := (Array.getElem?_eq_some_iff.1 h1).1
 cases v with
 | int k n =>
   have hk : k = .i64 := hok.1
   subst hk
   refine ⟨n, .rop _ _ [.int .i64 n] (fun _ => hb) (fun j u hj => ?_) (.cons _ _ _ _ (.v _ trivial) .nil)⟩
   cases j with
   | zero =>
     simp at hj
     subst hj
     simp [World.cell?, Addr.add, rx, h1, h0]
   | succ j => simp at hj
 | _ => exact hok.elim
end
theorem every : YthmjinhpngfdbaaGreatDoor.Every := by
 intro H enc W base args ds gs before hval0 hW hS
 have hval : ∀ (j : Nat) t v, Tryz.f4.params[j]? = some t → args[j]? = some v → Value.okWide Tryz.prog W .any base t v := hval0
 have hW' := hW
 obtain ⟨p, q, hA0, hV, rfl, hfz, hnd⟩ := hW
 have hA : DataW.TrodAll enc Tryz.prog W 0 (fun _ => true) true [22] args.toList ds p := hA0
 rw [YthmjinhpngfdbaaGreatDoor.params4] at hval
 obtain ⟨u0, d0, rfl, rfl, h0⟩ := trodAll_one hA
 obtain ⟨rfl, rfl⟩ := trodVars_none hV
 have hlt : ∀ x ∈ (p) ++ [], x.block < W.heap.size := fun x hx => hW'.lt x hx
 have k0 := h0
 obtain ⟨n0, t0⟩ := h0
 obtain ⟨_, ⟨b, rfl⟩, r0⟩ := (yy.slice P8 v22 w5 (by decide) rdBy) _ _ _ t0
 have e0 : u0.cells.toList = [u0] := by
  have := hval 0 22 u0 rfl rfl
  unfold Value.okWide at this
  rw [v22] at this
  cases u0 with
  | agg cs => simp only [Cell.okWide, v22, Cell.ok] at this
  | _ => rfl
 rw [e0] at r0
 have r0' : Ro W (pW W) (.sl 1 (b.map P8.enc)) u0 := by
  cases r0 with | cons _ _ _ _ h _ => exact h
 have a0 : AH ρ0 W (pW W) (.t (.sl 1 (b.map P8.enc))) u0 [] := .t _ _ r0'
 obtain ⟨m, hgl⟩ := glOk_of hS
 have hargs : AJ ρ0 W (pW W) ((lc P8.asl l0).enc (b, ())) [u0] [] := .cons _ _ _ _ [] [] a0 .nil
 have hcall := con4 m b W (pW W) [u0] [] hgl hargs .nil (fun b hb => by cases hb) (fun b hb => hb)
 refine Calls.mono hcall fun e W' hq => ?_
 obtain ⟨v, pr', G, F, he, hfr, _, _, _, _, hv, _, _⟩ := hq
 obtain ⟨rfl, _⟩ := hv.val
 have hb : Below W.heap.size W W' := ⟨hfr.os, hfr.tape, hfr.output, hfr.size, fun k hk => hfr.block k hk (by simp)⟩
 refine ⟨_, he, _, _, _, [], p, [], hW', ?_, ?_, rfl, hb.frame _, fun h => by cases h⟩
 ·exact trodAll_mk1 (shut_bool (show Tryz.prog.underlying 4 = some .bool by kernel_rfl) _)
 ·have := trodAll_mk1 (Below.trod (by kernel_rfl) (by kernel_rfl) (of_decide_eq_true (by kernel_rfl)) k0 hb fun x hx => hlt x (by simp [hx]))
  exact this
end Go.V
namespace Go.Proofs.YthmjinhpngfdbaaGreatDoor
theorem fnKeptLook_card : Rows.FnKeptLookCardSaid := card_of Go.V.every
end Go.Proofs.YthmjinhpngfdbaaGreatDoor
