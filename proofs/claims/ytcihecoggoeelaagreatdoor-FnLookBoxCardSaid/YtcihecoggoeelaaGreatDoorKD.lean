/- The row. No condition. -/
import Derived.Test.YtcihecoggoeelaaGreatDoorKC
import Derived.Test.YtcihecoggoeelaaGreatDoorXB
import Derived.Test.YtcihecoggoeelaaGreatDoorKA
import Derived.ProofKit
import Derived.Carry
import Derived.WalkKit
import Derived.Test.YtcihecoggoeelaaGreatDoorCards
import Derived.Test.YtcihecoggoeelaaGreatDoorTie
import Derived.OpenShut
import Derived.Deep.DeepHandedRow
namespace Go.V
open Go Go.Proofs
set_option maxRecDepth 100000
set_option linter.unusedSimpArgs false
set_option linter.unusedVariables false
noncomputable def FU (w : Int) : List Im → List Int
 | [] => []
 | x :: t => bif BW (∃ r ∈ x.to, r.next ≤ w) then x.id :: FU w t else FU w t
theorem ub {w : Int} {xs : List Im} {i : Nat} (h : i < xs.length) (q : ∃ r ∈ (xs.getD i default).to, r.next ≤ w) : FU w (xs.drop i) = (xs.getD i default).id :: FU w (xs.drop (i + 1)) := by rw [AW h, FU, Ap q]; rfl
theorem uZ {w : Int} {xs : List Im} {i : Nat} (h : i < xs.length) (q : ¬ ∃ r ∈ (xs.getD i default).to, r.next ≤ w) : FU w (xs.drop i) = FU w (xs.drop (i + 1)) := by rw [AW h, FU, AQ q]; rfl
theorem ey {w : Int} {xs : List Im} {i : Nat} (h : xs.length ≤ i) : FU w (xs.drop i) = [] := by rw [List.drop_of_length_le h]; rfl
theorem Us (w : Int) : ∀ xs : List Im, (FU w xs).length ≤ xs.length
 | [] => Nat.le_refl _
 | x :: t => by
   have ih := Us w t
   rw [FU]
   cases BW (∃ r ∈ x.to, r.next ≤ w)
   ·show (FU w t).length ≤ t.length + 1; omega
   ·show (FU w t).length + 1 ≤ t.length + 1; omega
open Classical in
noncomputable def WX (s : Sp) (w : Int) : List Int := if Bh s then FU w s.items else []
theorem YN {s : Sp} {w : Int} (h : Bh s) : WX s w = FU w s.items := if_pos h
theorem YM {s : Sp} {w : Int} (h : ¬ Bh s) : WX s w = [] := if_neg h
theorem YL {s : Sp} {w : Int} : (WX s w).length ≤ 10 := by
 by_cases h : Bh s
 ·rw [YN h]
  have := Us w s.items
  have := h.2.2.2
  omega
 ·rw [YM h]; exact Nat.zero_le _
def nP : Ct := Ar (lc Q2.ag (lc BK l0)) (fun p => E7 p.1) (fun p => .o true 1 ((WX p.1 p.2.1).map Ao))
section
attribute [local go_sem] t7 AZ AY AT lm List.length_append List.length_cons List.length_nil List.map_append List.map_nil Nat.zero_add List.nil_append AS.opn AS.cls AS.nilb AS.renb AS.up Bool.not_false Bool.not_true List.set_set List.set_cons_zero List.set_cons_succ List.set_nil List.mem_singleton forall_eq tn
set_option maxHeartbeats 3200000 in
theorem fx {G : Gt} (hG : Ah G) (hh : G.e 87 = AA 0 t7) : Gd G 142 (AA 0 nP) := by
 refine gr (fn := Tryz.f142) (n := 2) rfl rfl hG ?_ (hs := fun _ p => .deep _ _)
 rintro ⟨s, w, ⟨⟩⟩ hpre
 have hok : E7 s := hpre
 have hmx := hok.1
 dsimp only
 by_cases q : Bh s
 ·have b1 := Ap q
  rw [YN q]
  simp -implicitDefEqProofs only [Tryz.f142, b1, Bool.not_true, go_sem, hh, seval]
  with_reducible repeat' (first | apply ai | intro _ | ((first | apply s1 | apply s3 | apply s4) <;> intro hb <;> simp -implicitDefEqProofs only [hb, go_sem, hh, seval] <;> try simp only [qz] at hb))
  all_goals (try simp only [maxLen] at *)
  all_goals first | with_reducible rfl | omega | with_reducible assumption | ((with_reducible show _ = true); rfl) | (exfalso; with_reducible contradiction) | rfl | decide | skip
  refine AE [(5, 905, true, 1)] (ι := {p : Nat × List Int // p.1 ≤ s.items.length ∧ p.2.length ≤ p.1 ∧ p.2 ++ FU w (s.items.drop p.1) = FU w s.items}) (fun p => ⟨[(1, .t (.v (.int .i64 w))), (2, .pb 1002 0), (5, .h 905), (6, .t (.v (.int .i64 p.1.1)))], [(1002, some (.box ((Dx s).map .t))), (905, some (.arr true 1 (p.1.2.map Ao)))]⟩) (fun p => s.items.length - p.1.1) ⟨(0, []), Nat.zero_le _, Nat.le_refl _, rfl⟩ rfl ?_ ?_
  ·simp -implicitDefEqProofs only [go_sem, hh, seval]
   first | (simp; done) | skip
  ·rintro ⟨⟨i, L⟩, hi, hL, hv⟩
   dsimp only at hi hL hv ⊢
   by_cases hlt : (i : Int) < s.items.length
   ·have hx := hok.2 _ (AC (xs := s.items) (j := i) (by omega))
    have hxl := hx.2.1.1
    simp -implicitDefEqProofs only [hlt, decide_true, tn, go_sem, hh, seval]
    with_reducible repeat' (first | apply ai | intro _ | ((first | apply s1 | apply s3 | apply s4) <;> intro hb <;> simp -implicitDefEqProofs only [hb, go_sem, hh, seval] <;> try simp only [qz] at hb))
    all_goals (try simp only [maxLen, tn] at *)
    all_goals first | with_reducible rfl | omega | with_reducible assumption | ((with_reducible show _ = true); rfl) | (exfalso; with_reducible contradiction) | rfl | decide | skip
    refine AE [] (ι := {p : Nat × Bool // p.1 ≤ (s.items.getD i default).to.length ∧ (p.2 = true ↔ ∃ j, j < p.1 ∧ ((s.items.getD i default).to.getD j default).next ≤ w)}) (fun p => ⟨[(1, .t (.v (.int .i64 w))), (2, .pb 1002 0), (5, .h 905), (6, .t (.v (.int .i64 i))), (7, .t (.v (.bool p.1.2))), (8, .t (.v (.int .i64 p.1.1)))], [(1002, some (.box ((Dx s).map .t))), (905, some (.arr true 1 (L.map Ao)))]⟩) (fun p => (s.items.getD i default).to.length - p.1.1) ⟨(0, false), Nat.zero_le _, by simp⟩ rfl ?_ ?_
    ·simp -implicitDefEqProofs only [go_sem, hh, seval]
     first | (simp; done) | skip
    ·rintro ⟨⟨k, d⟩, hk, hd⟩
     dsimp only at hk hd ⊢
     by_cases hkt : (k : Int) < (s.items.getD i default).to.length
     ·cases d
      ·have hn : ¬ ∃ j, j < k ∧ ((s.items.getD i default).to.getD j default).next ≤ w := fun z => by have := hd.2 z; cases this
       simp -implicitDefEqProofs only [hlt, hkt, decide_true, tn, go_sem, hh, seval]
       with_reducible repeat' (first | apply ai | intro _ | ((first | apply s1 | apply s3 | apply s4) <;> intro hb <;> simp -implicitDefEqProofs only [hb, go_sem, hh, seval] <;> try simp only [qz] at hb))
       all_goals (try simp only [maxLen, tn] at *)
       all_goals first | with_reducible rfl | omega | with_reducible assumption | ((with_reducible show _ = true); rfl) | (exfalso; with_reducible contradiction) | rfl | decide | skip
       refine ⟨⟨(k + 1, decide (((s.items.getD i default).to.getD k default).next ≤ w)), by dsimp only; omega, by dsimp only; rw [decide_eq_true_eq]; exact ⟨fun z => ⟨k, by omega, z⟩, fun ⟨j, hj, z⟩ => by by_cases e : j = k; (rw [← e]; exact z); (exact absurd ⟨j, by omega, z⟩ hn)⟩⟩, by dsimp only; omega, ?_⟩
       simp -implicitDefEqProofs only [go_sem, hh, seval]
       first | (simp; done) | skip
      ·have hn := hd.1 rfl
       simp -implicitDefEqProofs only [hlt, hkt, decide_true, tn, go_sem, hh, seval]
       with_reducible repeat' (first | apply ai | intro _ | ((first | apply s1 | apply s3 | apply s4) <;> intro hb <;> simp -implicitDefEqProofs only [hb, go_sem, hh, seval] <;> try simp only [qz] at hb))
       all_goals (try simp only [maxLen, tn] at *)
       all_goals first | with_reducible rfl | omega | with_reducible assumption | ((with_reducible show _ = true); rfl) | (exfalso; with_reducible contradiction) | rfl | decide | skip
       refine ⟨⟨(k + 1, true), by dsimp only; omega, by dsimp only; exact ⟨fun _ => hn.elim fun j z => ⟨j, by omega, z.2⟩, fun _ => rfl⟩⟩, by dsimp only; omega, ?_⟩
       simp -implicitDefEqProofs only [go_sem, hh, seval]
       first | (simp; done) | skip
     ·cases d
      ·have hn : ¬ ∃ r ∈ (s.items.getD i default).to, r.next ≤ w := fun ⟨r, hr, z⟩ => by
         obtain ⟨j, hj, e⟩ := List.mem_iff_getElem.1 hr
         have := hd.2 ⟨j, by omega, by rw [List.getD_eq_getElem?_getD, List.getElem?_eq_getElem hj]; show ((s.items.getD i default).to[j]).next ≤ w; rw [e]; exact z⟩
         cases this
       simp -implicitDefEqProofs only [hlt, hkt, decide_false, tn, go_sem, hh, seval]
       with_reducible repeat' (first | apply ai | intro _ | ((first | apply s1 | apply s3 | apply s4) <;> intro hb <;> simp -implicitDefEqProofs only [hb, go_sem, hh, seval] <;> try simp only [qz] at hb))
       all_goals (try simp only [maxLen, tn] at *)
       all_goals first | with_reducible rfl | omega | with_reducible assumption | ((with_reducible show _ = true); rfl) | (exfalso; with_reducible contradiction) | rfl | decide | skip
       refine ⟨⟨(i + 1, L), by dsimp only; omega, by dsimp only; omega, by dsimp only; rw [← hv, uZ (by omega) hn]⟩, by dsimp only; omega, ?_⟩
       simp -implicitDefEqProofs only [go_sem, hh, seval]
       first | (simp; done) | skip
      ·have hn : ∃ r ∈ (s.items.getD i default).to, r.next ≤ w := (hd.1 rfl).elim fun j z => ⟨_, AC (by omega), z.2⟩
       simp -implicitDefEqProofs only [hlt, hkt, decide_false, tn, go_sem, hh, seval]
       with_reducible repeat' (first | apply ai | intro _ | ((first | apply s1 | apply s3 | apply s4) <;> intro hb <;> simp -implicitDefEqProofs only [hb, go_sem, hh, seval] <;> try simp only [qz] at hb))
       all_goals (try simp only [maxLen, tn] at *)
       all_goals first | with_reducible rfl | omega | with_reducible assumption | ((with_reducible show _ = true); rfl) | (exfalso; with_reducible contradiction) | rfl | decide | skip
       refine ⟨⟨(i + 1, L ++ [(s.items.getD i default).id]), by dsimp only; omega, by dsimp only; rw [List.length_append]; show L.length + 1 ≤ _; omega, by dsimp only; rw [← hv, ub (by omega) hn, List.append_assoc]; rfl⟩, by dsimp only; omega, ?_⟩
       simp -implicitDefEqProofs only [go_sem, hh, seval]
       first | (simp [Ao]; done) | skip
   ·have e1 : L = FU w s.items := by rw [← hv, ey (by omega), List.append_nil]
    subst e1
    simp -implicitDefEqProofs only [hlt, decide_false, go_sem, hh, seval]
    with_reducible repeat' (first | apply ai | intro _ | ((first | apply s1 | apply s3 | apply s4) <;> intro hb <;> simp -implicitDefEqProofs only [hb, go_sem, hh, seval] <;> try simp only [qz] at hb))
    all_goals (try simp only [maxLen, tn] at *)
    all_goals first | with_reducible rfl | omega | with_reducible assumption | ((with_reducible show _ = true); rfl) | (exfalso; with_reducible contradiction) | rfl | decide | skip
 ·have b1 := AQ q
  rw [YM q]
  simp -implicitDefEqProofs only [Tryz.f142, b1, Bool.not_false, go_sem, hh, seval]
  with_reducible repeat' (first | apply ai | intro _ | ((first | apply s1 | apply s3 | apply s4) <;> intro hb <;> simp -implicitDefEqProofs only [hb, go_sem, hh, seval] <;> try simp only [qz] at hb))
  all_goals (try simp only [maxLen] at *)
  all_goals first | with_reducible rfl | omega | with_reducible assumption | ((with_reducible show _ = true); rfl) | (exfalso; with_reducible contradiction) | rfl | decide | skip
end
def tC (i : Int) : Ev := ⟨4, i, 0, 0, 0, false, ⟨⟨⟨#[]⟩, ⟨#[]⟩⟩, [], []⟩⟩
def tH (i j id : Int) : Ev := ⟨2, i, j, id, 40, false, ⟨⟨⟨#[]⟩, ⟨#[]⟩⟩, [], []⟩⟩
def tB (i id : Int) : Ev := ⟨3, i, 0, id, 0, false, ⟨⟨⟨#[]⟩, ⟨#[]⟩⟩, [], []⟩⟩
def wA : Ev := ⟨5, 0, 0, 40, 0, false, ⟨⟨⟨#[]⟩, ⟨#[]⟩⟩, [], []⟩⟩
theorem u6 (i : Int) : (⟨4, i, 0, 0, 0, false, ⟨⟨⟨#[]⟩, ⟨#[]⟩⟩, [], []⟩⟩ : Ev) = tC i := rfl
theorem wv (i j id : Int) : (⟨2, i, j, id, 40, false, ⟨⟨⟨#[]⟩, ⟨#[]⟩⟩, [], []⟩⟩ : Ev) = tH i j id := rfl
theorem uu (i id : Int) : (⟨3, i, 0, id, 0, false, ⟨⟨⟨#[]⟩, ⟨#[]⟩⟩, [], []⟩⟩ : Ev) = tB i id := rfl
theorem wC : (⟨5, 0, 0, 40, 0, false, ⟨⟨⟨#[]⟩, ⟨#[]⟩⟩, [], []⟩⟩ : Ev) = wA := rfl
theorem VS : KB ⟨⟨⟨#[]⟩, ⟨#[]⟩⟩, [], []⟩ := ⟨⟨by show (0 : Nat) ≤ 1048576; decide, by show (0 : Nat) ≤ 1048576; decide⟩, ⟨by show (0 : Int) ≤ _; decide, fun _ q => (by cases q)⟩, ⟨by show (0 : Int) ≤ _; decide, fun _ q => (by cases q)⟩⟩
theorem u5 (i : Int) : Ta (tC i) := ⟨VS, by show (0 : Int) ≤ 0; decide, by show (0 : Int) ≤ 1000; decide⟩
theorem wu (i j id : Int) : Ta (tH i j id) := ⟨VS, by show (0 : Int) ≤ 40; decide, by show (40 : Int) ≤ 1000; decide⟩
theorem ut (i id : Int) : Ta (tB i id) := ⟨VS, by show (0 : Int) ≤ 0; decide, by show (0 : Int) ≤ 1000; decide⟩
theorem wB : Ta wA := ⟨VS, by show (0 : Int) ≤ 0; decide, by show (0 : Int) ≤ 1000; decide⟩
def JM (N : Nat) (w : Wd) : Prop := Ga N w ∧ E5 w ≤ N
theorem Bk {N M : Nat} {w : Wd} (q : JM N w) (h : N ≤ M) : JM M w := ⟨A1 q.1 h, by have := q.2; omega⟩
theorem MT {N : Nat} {w : Wd} {e : Ev} (q : JM N w) (h : N ≤ 1000000) : JM (N + 40) (C5 w e).1 := ⟨PS q.1 h, by have := kf (e := e) q.1; have := q.2; omega⟩
noncomputable def LY (i id : Int) : Nat → Nat → Wd → Wd
 | 0, _, w => w
 | k + 1, j, w => if j < w.hosts.length then LY i id k (j + 1) (C5 w (tH i j id)).1 else w
noncomputable def Lw (i : Int) : List Int → Wd → Wd
 | [], w => w
 | id :: t, w => Lw i t (C5 (LY i id 5 0 w) (tB i id)).1
noncomputable def VD (i : Nat) (w : Wd) : Wd := (C5 w (tC i)).1
noncomputable def Lv (i : Nat) (w : Wd) : List Int := WX ((VD i w).hosts.getD i default).spool (VD i w).now
noncomputable def Gr : Nat → Nat → Wd → Wd
 | 0, _, w => w
 | k + 1, i, w => if i < w.hosts.length then Gr k (i + 1) (Lw i (Lv i w) (VD i w)) else w
noncomputable def vo (w : Wd) : Wd := (C5 (Gr 5 0 w) wA).1
theorem wV {i id : Int} {k j : Nat} {w : Wd} (h : j < w.hosts.length) : LY i id (k + 1) j w = LY i id k (j + 1) (C5 w (tH i j id)).1 := if_pos h
theorem wU {i id : Int} {k j : Nat} {w : Wd} (h : ¬ j < w.hosts.length) : LY i id k j w = w := by
 cases k
 ·rfl
 ·exact if_neg h
theorem rQ {k i : Nat} {w : Wd} (h : i < w.hosts.length) : Gr (k + 1) i w = Gr k (i + 1) (Lw i (Lv i w) (VD i w)) := if_pos h
theorem rP {k i : Nat} {w : Wd} (h : ¬ i < w.hosts.length) : Gr k i w = w := by
 cases k
 ·rfl
 ·exact if_neg h
theorem ua {i : Int} {l : List Int} {k : Nat} {w : Wd} (h : k < l.length) : Lw i (l.drop k) w = Lw i (l.drop (k + 1)) (C5 (LY i (l.getD k default) 5 0 w) (tB i (l.getD k default))).1 := by rw [AW h]; rfl
theorem uY {i : Int} {l : List Int} {k : Nat} {w : Wd} (h : l.length ≤ k) : Lw i (l.drop k) w = w := by rw [List.drop_of_length_le h]; rfl
theorem cn {i id : Int} : ∀ (k j : Nat) {w : Wd} {N : Nat}, JM N w → N + 40 * k ≤ 1000000 → JM (N + 40 * k) (LY i id k j w)
 | 0, _, w, N, q, _ => q
 | k + 1, j, w, N, q, h => by
   rw [LY]
   split
   ·have z := cn (i := i) (id := id) k (j + 1) (MT (e := tH i j id) q (by omega)) (by omega)
    exact Bk z (by omega)
   ·exact Bk q (by omega)
theorem Z6 {i : Int} : ∀ (l : List Int) {w : Wd} {N : Nat}, JM N w → N + 240 * l.length ≤ 1000000 → JM (N + 240 * l.length) (Lw i l w)
 | [], w, N, q, _ => q
 | id :: t, w, N, q, h => by
   rw [List.length_cons] at h ⊢
   have z1 := cn (i := i) (id := id) 5 0 q (by omega)
   have z2 := MT (e := tB i id) z1 (by omega)
   exact Bk (Z6 t z2 (by omega)) (by omega)
theorem lH {N : Nat} {w : Wd} (i : Nat) (q : JM N w) (h : N ≤ 1000000) : JM (N + 40) (VD i w) := MT q h
theorem Ur (i : Nat) (w : Wd) : (Lv i w).length ≤ 10 := YL
theorem U2 : ∀ (k i : Nat) {w : Wd} {N : Nat}, JM N w → N + 2440 * k ≤ 1000000 → JM (N + 2440 * k) (Gr k i w)
 | 0, _, w, N, q, _ => q
 | k + 1, i, w, N, q, h => by
   rw [Gr]
   have hl := Ur i w
   split
   ·have z1 := Z6 (i := i) (Lv i w) (lH i q (by omega)) (by omega)
    exact Bk (U2 k (i + 1) (Bk z1 (show _ ≤ N + 2440 by omega)) (by omega)) (by omega)
   ·exact Bk q (by omega)
theorem vq {N : Nat} {w : Wd} (q : JM N w) (h : N ≤ 900000) : JM (N + 12300) (vo w) :=
 Bk (MT (e := wA) (U2 5 0 q (by omega)) (by omega)) (by omega)
theorem rT (i : Nat) (w : Wd) : (VD i w).hosts.length = w.hosts.length := by
 unfold VD
 by_cases q : 0 ≤ (tC i).host ∧ (tC i).host ≤ (w.hosts.length : Int) - 1
 ·rw [ke rfl q]; exact List.length_set
 ·rw [Zz rfl q]
theorem u7 (i : Nat) (w : Wd) : (C5 w (tC i)).1 = VD i w := rfl
theorem uU (i : Nat) (w : Wd) : WX ((VD i w).hosts.getD i default).spool (VD i w).now = Lv i w := rfl
noncomputable def bw : Nat → Wd → Wd
 | 0, w => w
 | k + 1, w => vo (bw k w)
theorem bz {w : Wd} {N : Nat} (q : JM N w) : ∀ k : Nat, N + 12300 * k ≤ 900000 → JM (N + 12300 * k) (bw k w)
 | 0, _ => q
 | k + 1, h => Bk (vq (bz q k (by omega)) (by omega)) (by omega)
def m0 : Mt := HB (lc jd l0) (fun p => JM 900000 p.1) (fun p => ([.any], Ge (vo p.1)))
section
attribute [local go_sem] RW nP NY QI Vg Vd Vf Ve QH Nw bT P1 P2 am u6 wv uu wC u7 uU Iq Fg Ek EF EE B2 lm AT FV.eq_1 AS.set AS.opn AS.cls AS.nilb AS.renb AS.up Bool.not_false Bool.not_true List.set_set List.set_cons_zero List.set_cons_succ List.set_nil List.mem_singleton forall_eq tn List.map_nil List.nil_append
set_option maxHeartbeats 6400000 in
theorem fJ {G : Gt} (hG : Ah G) (hh : G.e 141 = AN RW ∧ G.e 142 = AA 0 nP) : Gd G 103 (AN m0) := by
 refine JS (dp := fun n => !(Nat.beq n 100001 || Nat.beq n 100006 || Nat.beq n 100009 || Nat.beq n 100012)) (fn := Tryz.f103) (n := 1) rfl rfl hG ?_
 rintro ⟨w, ⟨⟩⟩ hpre
 have hw : JM 900000 w := hpre
 dsimp only
 simp -implicitDefEqProofs only [Tryz.f103, go_sem, hh, seval]
 with_reducible repeat' (first | apply ai | intro _ | ((first | apply s1 | apply s3 | apply s4) <;> intro hb <;> simp -implicitDefEqProofs only [hb, go_sem, hh, seval] <;> try simp only [qz] at hb))
 all_goals first | with_reducible rfl | omega | with_reducible assumption | ((with_reducible show _ = true); rfl) | (exfalso; with_reducible contradiction) | rfl | decide | skip
 refine AO (Le.renb 1001 0 1900 1901 rfl rfl rfl rfl) ?_
 simp -implicitDefEqProofs only [go_sem, hh, seval]
 refine AO (Le.renb 1001 3 2900 1902 rfl rfl rfl rfl) (AX ?_)
 simp -implicitDefEqProofs only [go_sem, hh, seval]
 with_reducible repeat' (first | apply ai | intro _ | ((first | apply s1 | apply s3 | apply s4) <;> intro hb <;> simp -implicitDefEqProofs only [hb, go_sem, hh, seval] <;> try simp only [qz] at hb))
 all_goals first | with_reducible rfl | omega | with_reducible assumption | ((with_reducible show _ = true); rfl) | (exfalso; with_reducible contradiction) | rfl | decide | skip
 refine AE [] (ι := {p : Nat × Wd // p.1 ≤ 4 ∧ JM (900000 + 2440 * p.1) p.2 ∧ Gr (5 - p.1) p.1 p.2 = Gr 5 0 w}) (fun p => ⟨[(1, .pb 1001 0), (2, .pb 1002 0), (3, .t (.v (.int .i64 p.1.1)))], [(1001, some (.box [.h 1901, .t (.v (.int .i64 p.1.2.now)), .t (.v (.int .i64 p.1.2.marks)), .h 1902])), (1002, some (.box [.nil, .t (.v (.int .i64 0)), .t (.v (.int .i64 0)), .nil])), (1901, some (.arr false 7 (p.1.2.hosts.map Af))), (1902, some (.arr true 3 (p.1.2.given.map An)))]⟩) (fun p => 4 - p.1.1) ⟨(0, w), by dsimp only; omega, hw, rfl⟩ rfl ?_ ?_
 ·simp -implicitDefEqProofs only [go_sem, hh, seval]
  first | (simp; done) | skip
 ·rintro ⟨⟨i, x⟩, hi, hx, hv⟩
  dsimp only at hi hx hv ⊢
  have hxl := hx.1.2.1
  have hxk := A1 (M := 1000000) hx.1 (by omega)
  by_cases hlt : i < x.hosts.length
  ·have hlt' : (i : Int) < x.hosts.length := by omega
   have hy := lH i hx (by omega)
   have hyl := rT i x
   have hyo := KJ (A1 hy.1 (show _ ≤ 1000000 by omega)) (by decide)
   have hys := (hyo.1.2 _ (AC (xs := (VD i x).hosts) (j := i) (by omega))).2.1
   have hdl := Ur i x
   have hv2 := rQ (k := 4 - i) hlt
   rw [show 4 - i + 1 = 5 - i by omega, hv] at hv2
   simp -implicitDefEqProofs only [hlt', decide_true, decide_false, eq_self, go_sem, hh, seval]
   with_reducible repeat' (first | apply ai | intro _ | ((first | apply s1 | apply s3 | apply s4) <;> intro hb <;> simp -implicitDefEqProofs only [hb, go_sem, hh, seval] <;> try simp only [qz] at hb))
   all_goals (try simp only [maxLen, tn, lm] at *)
   all_goals first | with_reducible rfl | omega | with_reducible assumption | ((with_reducible show _ = true); rfl) | (exfalso; with_reducible contradiction) | rfl | decide | (with_reducible exact u5 _) | skip
   refine AO (Le.renb 1001 0 1022 1901 rfl rfl rfl rfl) ?_
   simp -implicitDefEqProofs only [go_sem, hh, seval]
   refine AO (Le.renb 1001 3 2022 1902 rfl rfl rfl rfl) ?_
   simp -implicitDefEqProofs only [go_sem, hh, seval]
   refine AO (Le.anyb 1004 0 rfl rfl) ?_
   simp -implicitDefEqProofs only [go_sem, hh, seval]
   refine AO (Le.anyb 1004 3 rfl rfl) (AX ?_)
   simp -implicitDefEqProofs only [go_sem, hh, seval]
   with_reducible repeat' (first | apply ai | intro _ | ((first | apply s1 | apply s3 | apply s4) <;> intro hb <;> simp -implicitDefEqProofs only [hb, go_sem, hh, seval] <;> try simp only [qz] at hb))
   all_goals (try simp only [maxLen, tn] at *)
   all_goals first | with_reducible rfl | omega | with_reducible assumption | ((with_reducible show _ = true); rfl) | (exfalso; with_reducible contradiction) | rfl | decide | skip
   refine AE [] (ι := {p : Nat × Wd // p.1 ≤ (Lv i x).length ∧ JM (900000 + 2440 * i + 40 + 240 * p.1) p.2 ∧ Lw i ((Lv i x).drop p.1) p.2 = Lw i (Lv i x) (VD i x)}) (fun p => ⟨[(1, .pb 1001 0), (2, .pb 1002 0), (3, .t (.v (.int .i64 i))), (4, .pb 1004 0), (6, .h 1034), (7, .t (.v (.int .i64 p.1.1)))], [(1001, some (.box [.h 1901, .t (.v (.int .i64 p.1.2.now)), .t (.v (.int .i64 p.1.2.marks)), .h 1902])), (1002, some (.box [.nil, .t (.v (.int .i64 0)), .t (.v (.int .i64 0)), .nil])), (1004, some (.box [.any, .t (.v (.int .i64 p.1.2.now)), .t (.v (.int .i64 p.1.2.marks)), .any])), (1901, some (.arr false 7 (p.1.2.hosts.map Af))), (1902, some (.arr true 3 (p.1.2.given.map An))), (1034, some (.arr true 1 ((Lv i x).map Ao)))]⟩) (fun p => (Lv i x).length - p.1.1) ⟨(0, VD i x), Nat.zero_le _, hy, rfl⟩ rfl ?_ ?_
   ·simp -implicitDefEqProofs only [go_sem, hh, seval]
    first | (simp; done) | skip
   ·rintro ⟨⟨k, y⟩, hk, hz, hq⟩
    dsimp only at hk hz hq ⊢
    by_cases hkt : k < (Lv i x).length
    ·have hkt' : (k : Int) < (Lv i x).length := by omega
     simp -implicitDefEqProofs only [hkt', decide_true, decide_false, eq_self, go_sem, hh, seval]
     with_reducible repeat' (first | apply ai | intro _ | ((first | apply s1 | apply s3 | apply s4) <;> intro hb <;> simp -implicitDefEqProofs only [hb, go_sem, hh, seval] <;> try simp only [qz] at hb))
     all_goals (try simp only [maxLen, tn, lm] at *)
     all_goals first | with_reducible rfl | omega | with_reducible assumption | ((with_reducible show _ = true); rfl) | (exfalso; with_reducible contradiction) | rfl | decide | skip
     refine AE [] (ι := {p : Nat × Wd // p.1 ≤ 4 ∧ JM (900000 + 2440 * i + 40 + 240 * k + 40 * p.1) p.2 ∧ LY i ((Lv i x).getD k default) (5 - p.1) p.1 p.2 = LY i ((Lv i x).getD k default) 5 0 y}) (fun p => ⟨[(1, .pb 1001 0), (2, .pb 1002 0), (3, .t (.v (.int .i64 i))), (4, .pb 1004 0), (6, .h 1034), (7, .t (.v (.int .i64 k))), (8, .t (.v (.int .i64 p.1.1)))], [(1001, some (.box [.h 1901, .t (.v (.int .i64 p.1.2.now)), .t (.v (.int .i64 p.1.2.marks)), .h 1902])), (1002, some (.box [.nil, .t (.v (.int .i64 0)), .t (.v (.int .i64 0)), .nil])), (1004, some (.box [.any, .t (.v (.int .i64 p.1.2.now)), .t (.v (.int .i64 p.1.2.marks)), .any])), (1901, some (.arr false 7 (p.1.2.hosts.map Af))), (1902, some (.arr true 3 (p.1.2.given.map An))), (1034, some (.arr true 1 ((Lv i x).map Ao)))]⟩) (fun p => 4 - p.1.1) ⟨(0, y), by dsimp only; omega, hz, rfl⟩ rfl ?_ ?_
     ·simp -implicitDefEqProofs only [go_sem, hh, seval]
      first | (simp; done) | skip
     ·rintro ⟨⟨j, u⟩, hj, hu, ht⟩
      dsimp only at hj hu ht ⊢
      have hul := hu.1.2.1
      have huk := A1 (M := 1000000) hu.1 (by omega)
      by_cases hjt : j < u.hosts.length
      ·have hjt' : (j : Int) < u.hosts.length := by omega
       have ht2 := wV (i := i) (id := (Lv i x).getD k default) (k := 4 - j) hjt
       rw [show 4 - j + 1 = 5 - j by omega, ht] at ht2
       simp -implicitDefEqProofs only [hjt', hkt', decide_true, decide_false, eq_self, go_sem, hh, seval]
       with_reducible repeat' (first | apply ai | intro _ | ((first | apply s1 | apply s3 | apply s4) <;> intro hb <;> simp -implicitDefEqProofs only [hb, go_sem, hh, seval] <;> try simp only [qz] at hb))
       all_goals (try simp only [maxLen, tn, lm] at *)
       all_goals first | with_reducible rfl | omega | with_reducible assumption | ((with_reducible show _ = true); rfl) | (exfalso; with_reducible contradiction) | rfl | decide | (with_reducible exact wu _ _ _) | skip
       refine AO (Le.renb 1001 0 1057 1901 rfl rfl rfl rfl) ?_
       simp -implicitDefEqProofs only [go_sem, hh, seval]
       refine AO (Le.renb 1001 3 2057 1902 rfl rfl rfl rfl) ?_
       simp -implicitDefEqProofs only [go_sem, hh, seval]
       refine AO (Le.anyb 1004 0 rfl rfl) ?_
       simp -implicitDefEqProofs only [go_sem, hh, seval]
       refine AO (Le.anyb 1004 3 rfl rfl) (AX ?_)
       simp -implicitDefEqProofs only [go_sem, hh, seval]
       with_reducible repeat' (first | apply ai | intro _ | ((first | apply s1 | apply s3 | apply s4) <;> intro hb <;> simp -implicitDefEqProofs only [hb, go_sem, hh, seval] <;> try simp only [qz] at hb))
       all_goals (try simp only [maxLen, tn] at *)
       all_goals first | with_reducible rfl | omega | with_reducible assumption | ((with_reducible show _ = true); rfl) | (exfalso; with_reducible contradiction) | rfl | decide | skip
       refine ⟨⟨(j + 1, (C5 u (tH i j ((Lv i x).getD k default))).1), by dsimp only; omega, Bk (MT hu (by omega)) (by dsimp only; omega), by dsimp only; rw [show 5 - (j + 1) = 4 - j by omega]; exact ht2.symm⟩, by dsimp only; omega, ?_⟩
       simp -implicitDefEqProofs only [go_sem, hh, seval]
       first | (simp; done) | skip
      ·have hjt' : ¬ (j : Int) < u.hosts.length := by omega
       rw [wU hjt] at ht
       subst ht
       have hq2 := ua (i := i) (w := y) hkt
       rw [hq] at hq2
       simp -implicitDefEqProofs only [hjt', hkt', decide_true, decide_false, eq_self, go_sem, hh, seval]
       with_reducible repeat' (first | apply ai | intro _ | ((first | apply s1 | apply s3 | apply s4) <;> intro hb <;> simp -implicitDefEqProofs only [hb, go_sem, hh, seval] <;> try simp only [qz] at hb))
       all_goals (try simp only [maxLen, tn, lm] at *)
       all_goals first | with_reducible rfl | omega | with_reducible assumption | ((with_reducible show _ = true); rfl) | (exfalso; with_reducible contradiction) | rfl | decide | (with_reducible exact ut _ _) | skip
       refine AO (Le.renb 1001 0 1069 1901 rfl rfl rfl rfl) ?_
       simp -implicitDefEqProofs only [go_sem, hh, seval]
       refine AO (Le.renb 1001 3 2069 1902 rfl rfl rfl rfl) ?_
       simp -implicitDefEqProofs only [go_sem, hh, seval]
       refine AO (Le.anyb 1004 0 rfl rfl) ?_
       simp -implicitDefEqProofs only [go_sem, hh, seval]
       refine AO (Le.anyb 1004 3 rfl rfl) (AX ?_)
       simp -implicitDefEqProofs only [go_sem, hh, seval]
       with_reducible repeat' (first | apply ai | intro _ | ((first | apply s1 | apply s3 | apply s4) <;> intro hb <;> simp -implicitDefEqProofs only [hb, go_sem, hh, seval] <;> try simp only [qz] at hb))
       all_goals (try simp only [maxLen, tn] at *)
       all_goals first | with_reducible rfl | omega | with_reducible assumption | ((with_reducible show _ = true); rfl) | (exfalso; with_reducible contradiction) | rfl | decide | skip
       refine ⟨⟨(k + 1, (C5 (LY i ((Lv i x).getD k default) 5 0 y) (tB i ((Lv i x).getD k default))).1), by dsimp only; omega, Bk (MT hu (by omega)) (by dsimp only; omega), hq2.symm⟩, by dsimp only; omega, ?_⟩
       simp -implicitDefEqProofs only [go_sem, hh, seval]
       first | (simp; done) | skip
    ·have hkt' : ¬ (k : Int) < (Lv i x).length := by omega
     rw [uY (by omega)] at hq
     subst hq
     simp -implicitDefEqProofs only [hkt', decide_true, decide_false, eq_self, go_sem, hh, seval]
     with_reducible repeat' (first | apply ai | intro _ | ((first | apply s1 | apply s3 | apply s4) <;> intro hb <;> simp -implicitDefEqProofs only [hb, go_sem, hh, seval] <;> try simp only [qz] at hb))
     all_goals (try simp only [maxLen, tn, lm] at *)
     all_goals first | with_reducible rfl | omega | with_reducible assumption | ((with_reducible show _ = true); rfl) | (exfalso; with_reducible contradiction) | rfl | decide | skip
     refine ⟨⟨(i + 1, Lw i (Lv i x) (VD i x)), by dsimp only; omega, Bk hz (by dsimp only; omega), by dsimp only; rw [show 5 - (i + 1) = 4 - i by omega]; exact hv2.symm⟩, by dsimp only; omega, ?_⟩
     simp -implicitDefEqProofs only [go_sem, hh, seval]
     first | (simp; done) | skip
  ·have hlt' : ¬ (i : Int) < x.hosts.length := by omega
   rw [rP hlt] at hv
   subst hv
   have e9 : (C5 (Gr 5 0 w) wA).1 = vo w := rfl
   simp -implicitDefEqProofs only [hlt', e9, decide_true, decide_false, eq_self, go_sem, hh, seval]
   with_reducible repeat' (first | apply ai | intro _ | ((first | apply s1 | apply s3 | apply s4) <;> intro hb <;> simp -implicitDefEqProofs only [hb, go_sem, hh, seval] <;> try simp only [qz] at hb))
   all_goals (try simp only [maxLen, tn, lm] at *)
   all_goals first | with_reducible rfl | omega | with_reducible assumption | ((with_reducible show _ = true); rfl) | (exfalso; with_reducible contradiction) | rfl | decide | (with_reducible exact wB) | skip
end
def bJ : Wd := ⟨[], 0, 0, []⟩
open Classical in
noncomputable def KZ (w : Wd) (n : Int) : Wd := if Dc w ∧ 0 ≤ n ∧ n ≤ 40 then bw n.toNat w else bJ
theorem ZE {w : Wd} {n : Int} (h : Dc w ∧ 0 ≤ n ∧ n ≤ 40) : KZ w n = bw n.toNat w := if_pos h
theorem Re {w : Wd} {n : Int} (h : ¬ (Dc w ∧ 0 ≤ n ∧ n ≤ 40)) : KZ w n = bJ := if_neg h
theorem iy : GY bJ ∧ E5 bJ ≤ 1048576 := ⟨⟨⟨by show ((0 : Nat) : Int) ≤ 1048576; decide, fun x hx => (by cases hx)⟩, ⟨by show ((0 : Nat) : Int) ≤ 1048576; decide, fun x hx => (by cases hx)⟩⟩, by show (0 : Int) ≤ 1048576; decide⟩
theorem eI {w : Wd} {n : Int} (h : Dc w → JM 400000 w) : GY (KZ w n) ∧ E5 (KZ w n) ≤ 1048576 := by
 by_cases q : Dc w ∧ 0 ≤ n ∧ n ≤ 40
 ·rw [ZE q]
  have z := Bk (bz (h q.1) n.toNat (by omega)) (show _ ≤ 900000 by omega)
  exact ⟨KJ z.1 (by decide), by have := z.2; omega⟩
 ·rw [Re q]; exact iy
def xp : Ct := Ar (lc Qv.ag (lc BK l0)) (fun p => GY p.1 ∧ (Dc p.1 → JM 400000 p.1)) (fun p => Qv.ag.enc (KZ p.1 p.2.1))
section
attribute [local go_sem] oX JP RS m0 AZ AY Iq Fg Ek EF EE B2 lm AT FV.eq_1 bJ AS.opn AS.cls AS.nilb AS.renb AS.up Bool.not_false Bool.not_true List.set_set List.set_cons_zero List.set_cons_succ List.set_nil List.mem_singleton forall_eq
set_option maxHeartbeats 3200000 in
theorem qT {G : Gt} (hG : Ah G) (hh : G.e 57 = AA 0 oX ∧ G.e 69 = AA 0 JP ∧ G.e 102 = AA 1 RS ∧ G.e 103 = AN m0) : Gd G 54 (AA 1 xp) := by
 refine OP (dp := fun n => !(Nat.beq n 100004 || Nat.beq n 100006 || Nat.beq n 100008)) (fn := Tryz.f54) (n := 2) rfl rfl hG ?_
 rintro ⟨w, n, ⟨⟩⟩ hpre
 obtain ⟨ho, hk⟩ := hpre
 try dsimp only at ho hk ⊢
 by_cases q : Dc w
 ·have b1 := Ap q
  by_cases qn : 0 ≤ n ∧ n ≤ 40
  ·have b2 := Ap qn
   rw [ZE ⟨q, qn⟩]
   obtain ⟨m, hm⟩ : ∃ m : Nat, n = m := ⟨n.toNat, by omega⟩
   have hq := hk q
   simp -implicitDefEqProofs only [Tryz.f54, b1, b2, decide_true, decide_false, eq_self, Bool.not_true, Bool.not_false, go_sem, hh, seval]
   with_reducible repeat' (first | apply ai | intro _ | ((first | apply s1 | apply s3 | apply s4) <;> intro hb <;> simp -implicitDefEqProofs only [hb, go_sem, hh, seval] <;> try simp only [qz] at hb))
   all_goals (try simp only [maxLen, tn, lm] at *)
   all_goals first | with_reducible rfl | omega | with_reducible assumption | ((with_reducible show _ = true); rfl) | (exfalso; with_reducible contradiction) | rfl | decide | skip
   refine AO (Le.renb 1005 0 1017 1901 rfl rfl rfl rfl) ?_
   simp -implicitDefEqProofs only [go_sem, hh, seval]
   refine AO (Le.renb 1005 3 2017 1902 rfl rfl rfl rfl) (AX ?_)
   simp -implicitDefEqProofs only [go_sem, hh, seval]
   with_reducible repeat' (first | apply ai | intro _ | ((first | apply s1 | apply s3 | apply s4) <;> intro hb <;> simp -implicitDefEqProofs only [hb, go_sem, hh, seval] <;> try simp only [qz] at hb))
   all_goals (try simp only [maxLen, tn] at *)
   all_goals first | with_reducible rfl | omega | with_reducible assumption | ((with_reducible show _ = true); rfl) | (exfalso; with_reducible contradiction) | rfl | decide | skip
   refine AE [] (ι := {k : Nat // k ≤ m}) (fun p => ⟨[(1, .t (.v (.int .i64 n))), (4, .pb 1004 0), (5, .pb 1005 0), (6, .t (.v (.int .i64 p.1)))], [(1004, some (.box [.nil, .t (.v (.int .i64 0)), .t (.v (.int .i64 0)), .nil])), (1005, some (.box [.h 1901, .t (.v (.int .i64 (bw p.1 w).now)), .t (.v (.int .i64 (bw p.1 w).marks)), .h 1902])), (1901, some (.arr false 7 ((bw p.1 w).hosts.map Af))), (1902, some (.arr true 3 ((bw p.1 w).given.map An)))]⟩) (fun p => m - p.1) ⟨0, Nat.zero_le _⟩ rfl ?_ ?_
   ·simp -implicitDefEqProofs only [go_sem, hh, seval]
    first | (simp [bw]; done) | skip
   ·rintro ⟨k, hkm⟩
    dsimp only
    have hx := bz hq k (by omega)
    by_cases hlt : (k : Int) < n
    ·have e9 : vo (bw k w) = bw (k + 1) w := rfl
     simp -implicitDefEqProofs only [hlt, e9, decide_true, decide_false, eq_self, Bool.not_true, Bool.not_false, go_sem, hh, seval]
     with_reducible repeat' (first | apply ai | intro _ | ((first | apply s1 | apply s3 | apply s4) <;> intro hb <;> simp -implicitDefEqProofs only [hb, go_sem, hh, seval] <;> try simp only [qz] at hb))
     all_goals (try simp only [maxLen, tn, lm] at *)
     all_goals first | with_reducible rfl | omega | with_reducible assumption | ((with_reducible show _ = true); rfl) | (exfalso; with_reducible contradiction) | rfl | decide | (with_reducible exact Bk hx (by omega)) | skip
     refine AO (Le.renb 1005 0 1024 1901 rfl rfl rfl rfl) ?_
     simp -implicitDefEqProofs only [go_sem, hh, seval]
     refine AO (Le.renb 1005 3 2024 1902 rfl rfl rfl rfl) (AX ?_)
     simp -implicitDefEqProofs only [go_sem, hh, seval]
     with_reducible repeat' (first | apply ai | intro _ | ((first | apply s1 | apply s3 | apply s4) <;> intro hb <;> simp -implicitDefEqProofs only [hb, go_sem, hh, seval] <;> try simp only [qz] at hb))
     all_goals (try simp only [maxLen, tn] at *)
     all_goals first | with_reducible rfl | omega | with_reducible assumption | ((with_reducible show _ = true); rfl) | (exfalso; with_reducible contradiction) | rfl | decide | skip
     refine ⟨⟨k + 1, by omega⟩, by dsimp only; omega, ?_⟩
     simp -implicitDefEqProofs only [go_sem, hh, seval]
     first | (simp; done) | skip
    ·have e9 : n.toNat = k := by omega
     rw [e9]
     simp -implicitDefEqProofs only [hlt, decide_true, decide_false, eq_self, Bool.not_true, Bool.not_false, go_sem, hh, seval]
     with_reducible repeat' (first | apply ai | intro _ | ((first | apply s1 | apply s3 | apply s4) <;> intro hb <;> simp -implicitDefEqProofs only [hb, go_sem, hh, seval] <;> try simp only [qz] at hb))
     all_goals (try simp only [maxLen, tn, lm] at *)
     all_goals first | with_reducible rfl | omega | with_reducible assumption | ((with_reducible show _ = true); rfl) | (exfalso; with_reducible contradiction) | rfl | decide | skip
     refine AO (Le.frzL [1901, 1902]) (AX ?_)
     simp -implicitDefEqProofs only [hlt, decide_true, decide_false, eq_self, Bool.not_true, Bool.not_false, go_sem, hh, seval]
     with_reducible repeat' (first | apply ai | intro _ | ((first | apply s1 | apply s3 | apply s4) <;> intro hb <;> simp -implicitDefEqProofs only [hb, go_sem, hh, seval] <;> try simp only [qz] at hb))
     all_goals (try simp only [maxLen, tn, lm] at *)
     all_goals first | with_reducible rfl | omega | with_reducible assumption | ((with_reducible show _ = true); rfl) | (exfalso; with_reducible contradiction) | rfl | decide | skip
  ·have b2 := AQ qn
   rw [Re (fun z => qn z.2)]
   simp -implicitDefEqProofs only [Tryz.f54, b1, b2, decide_true, decide_false, eq_self, Bool.not_true, Bool.not_false, go_sem, hh, seval]
   with_reducible repeat' (first | apply ai | intro _ | ((first | apply s1 | apply s3 | apply s4) <;> intro hb <;> simp -implicitDefEqProofs only [hb, go_sem, hh, seval] <;> try simp only [qz] at hb))
   all_goals (try simp only [maxLen, tn, lm] at *)
   all_goals first | with_reducible rfl | omega | with_reducible assumption | ((with_reducible show _ = true); rfl) | (exfalso; with_reducible contradiction) | rfl | decide | skip
 ·have b1 := AQ q
  rw [Re (fun z => q z.1)]
  simp -implicitDefEqProofs only [Tryz.f54, b1, decide_true, decide_false, eq_self, Bool.not_true, Bool.not_false, go_sem, hh, seval]
  with_reducible repeat' (first | apply ai | intro _ | ((first | apply s1 | apply s3 | apply s4) <;> intro hb <;> simp -implicitDefEqProofs only [hb, go_sem, hh, seval] <;> try simp only [qz] at hb))
  all_goals (try simp only [maxLen, tn, lm] at *)
  all_goals first | with_reducible rfl | omega | with_reducible assumption | ((with_reducible show _ = true); rfl) | (exfalso; with_reducible contradiction) | rfl | decide | skip
end
theorem xf {r : Rd} (h : 0 ≤ r.p) (h1 : r.p ≤ 999400000) (q : Dc (aw r).1) : JM 400000 (aw r).1 := by
 have hk := UM h (by omega)
 have z := Lc r
 have hH := (z.1 _ (AC (xs := (C3 r).hosts) (j := (Xs r).toNat) (by omega))).2
 have zg := z.2.2.2.2.1
 have zo := j6 h (by omega)
 have key : (∀ x ∈ (aw r).1.hosts, E6 1600 x) ∧ (aw r).1.given.length ≤ 1601 := by
  by_cases c0 : Ej r = 0
  ·rw [Yp c0]
   refine ⟨fun x hx => ?_, by show (C3 r).given.length ≤ 1601; omega⟩
   rcases List.mem_or_eq_of_mem_set hx with hx | rfl
   ·exact (z.1 x hx).2
   ·exact hH
  ·by_cases c1 : Ej r = 1
   ·rw [Yq c1]
    refine ⟨fun x hx => ?_, by show (C3 r).given.length ≤ 1601; omega⟩
    rcases List.mem_or_eq_of_mem_set hx with hx | rfl
    ·exact (z.1 x hx).2
    ·exact hH
   ·by_cases c2 : Ej r = 2
    ·rw [Yr c2]; exact ⟨fun x hx => (z.1 x hx).2, by show (C3 r).given.length ≤ 1601; omega⟩
    ·by_cases c3 : Ej r = 3
     ·rw [Ys c3]; exact ⟨fun x hx => (z.1 x hx).2, by show ((C3 r).given ++ [_]).length ≤ 1601; rw [List.length_append, List.length_singleton]; omega⟩
     ·by_cases c4 : Ej r = 4
      ·rw [Yt c4]; exact ⟨fun x hx => (by cases hx), by show (C3 r).given.length ≤ 1601; omega⟩
      ·rw [Yu ⟨c0, c1, c2, c3, c4⟩]; exact ⟨fun x hx => (z.1 x hx).2, by show (C3 r).given.length ≤ 1601; omega⟩
 have hl := q.2.2.2.1
 exact ⟨⟨fun x hx => ⟨EG.1 (q.1 x hx), B1 (key.1 x hx) (by decide)⟩, ⟨by omega, by omega⟩, q.2.2.2.2.1, q.2.2.2.2.2, by have := key.2; omega, zo.2.2⟩, by have := ti h (show r.p ≤ 999500000 by omega); omega⟩
noncomputable def Jt (b : List UInt8) : Wd × Rd := aw (opn b)
noncomputable def Lu (b : List UInt8) : Wd := if Ae (Jt b).2 2 = 0 then KZ (Jt b).1 6 else (Jt b).1
noncomputable def uK (b : List UInt8) : Ad := if ((Lu b).given.length : Int) > 0 then ((Lu b).given.getD (Ae ((Jt b).2.nx 1) (Lu b).given.length).toNat default).addr else Dq ((Jt b).2.nx 1)
theorem uJ (b : List UInt8) : aw (opn b) = Jt b := rfl
theorem kc {b : List UInt8} (h : Ae (Jt b).2 2 = 0) : Lu b = KZ (Jt b).1 6 := if_pos h
theorem kb {b : List UInt8} (h : ¬ Ae (Jt b).2 2 = 0) : Lu b = (Jt b).1 := if_neg h
theorem Zy {b : List UInt8} (h : ((Lu b).given.length : Int) > 0) : uK b = ((Lu b).given.getD (Ae ((Jt b).2.nx 1) (Lu b).given.length).toNat default).addr := if_pos h
theorem Zx {b : List UInt8} (h : ¬ ((Lu b).given.length : Int) > 0) : uK b = Dq ((Jt b).2.nx 1) := if_neg h
theorem Rx (b : List UInt8) : GY (Jt b).1 ∧ (Dc (Jt b).1 → JM 400000 (Jt b).1) ∧ E5 (Jt b).1 ≤ 1600 ∧ 0 ≤ (Jt b).2.p ∧ (Jt b).2.p ≤ 999000000 := by
 have p := xg (r := opn b) (by rw [Gw]; decide) (by rw [Gw]; decide)
 rw [Gw] at p
 exact ⟨j6 (by rw [Gw]; decide) (by rw [Gw]; decide), xf (by rw [Gw]; decide) (by rw [Gw]; decide), ti (by rw [Gw]; decide) (by rw [Gw]; decide), by show 0 ≤ (aw (opn b)).2.p; omega, by show (aw (opn b)).2.p ≤ _; omega⟩
theorem Ry (b : List UInt8) : GY (Lu b) ∧ E5 (Lu b) ≤ 1048576 := by
 have z := Rx b
 by_cases q : Ae (Jt b).2 2 = 0
 ·rw [kc q]; exact eI z.2.1
 ·rw [kb q]; exact ⟨z.1, by omega⟩
theorem pU (b : List UInt8) : HT (uK b) := by
 have z := Rx b
 by_cases q : ((Lu b).given.length : Int) > 0
 ·rw [Zy q]
  have p := Bn (r := (Jt b).2.nx 1) (n := (Lu b).given.length) (by rw [AK]; omega) (by rw [AK]; omega)
  exact ((Ry b).1.2.2 _ (AC (xs := (Lu b).given) (j := (Ae ((Jt b).2.nx 1) (Lu b).given.length).toNat) (by omega))).2
 ·rw [Zx q]
  exact CH (.inl (NK (by rw [AK]; omega) (by rw [AK]; omega)))
def xh : Ct := Ar (lc Lj.asl l0) (fun p => True) (fun p => .tup [Qv.ag.enc (Lu p.1), DY.ag.enc (uK p.1)])
section
attribute [local go_sem] xm xA GK xp eG Jm TA Nq Gw vT uJ lm List.length_append List.length_cons List.length_nil List.map_append List.map_nil Nat.zero_add List.nil_append AK Bi A5 A7 BD BQ CE BP BR AS.opn AS.cls AS.nilb AS.renb AS.up Bool.not_false Bool.not_true List.set_set List.set_cons_zero List.set_cons_succ List.set_nil List.mem_singleton forall_eq
set_option maxHeartbeats 3200000 in
theorem py {G : Gt} (hG : Ah G) (hh : G.e 27 = AA 1 xm ∧ G.e 52 = AN xA ∧ G.e 53 = AN GK ∧ G.e 54 = AA 1 xp ∧ G.e 55 = AN eG) : Gd G 13 (AA 1 xh) := by
 refine gr (fn := Tryz.f13) (n := 1) rfl rfl hG ?_
 rintro ⟨b, ⟨⟩⟩ hpre
 dsimp only
 have z := Rx b
 have zl := (Ry b).1.2.1
 by_cases q : Ae (Jt b).2 2 = 0
 ·have e := (kc q).symm
  by_cases c : ((Lu b).given.length : Int) > 0
  ·have p := Bn (r := (Jt b).2.nx 1) (n := (Lu b).given.length) (by rw [AK]; omega) (by rw [AK]; omega)
   rw [Zy c]
   simp -implicitDefEqProofs only [Tryz.f13, q, e, c, decide_true, decide_false, eq_self, go_sem, hh, Int.reduceAdd, seval]
   with_reducible repeat' (first | apply ai | intro _ | ((first | apply s1 | apply s3 | apply s4) <;> intro hb <;> simp -implicitDefEqProofs only [hb, go_sem, hh, Int.reduceAdd, seval] <;> try simp only [qz] at hb))
   all_goals (try simp only [maxLen, tn, lm, AK] at *)
   all_goals first | with_reducible rfl | omega | with_reducible assumption | ((with_reducible show _ = true); rfl) | (exfalso; with_reducible contradiction) | rfl | decide | (with_reducible exact ⟨z.1, z.2.1⟩) | (with_reducible exact z.1) | (with_reducible exact z.2.1) | (with_reducible exact z.2.1 (by assumption)) | skip
  ·rw [Zx c]
   simp -implicitDefEqProofs only [Tryz.f13, q, e, c, decide_true, decide_false, eq_self, go_sem, hh, Int.reduceAdd, seval]
   with_reducible repeat' (first | apply ai | intro _ | ((first | apply s1 | apply s3 | apply s4) <;> intro hb <;> simp -implicitDefEqProofs only [hb, go_sem, hh, Int.reduceAdd, seval] <;> try simp only [qz] at hb))
   all_goals (try simp only [maxLen, tn, lm, AK] at *)
   all_goals first | with_reducible rfl | omega | with_reducible assumption | ((with_reducible show _ = true); rfl) | (exfalso; with_reducible contradiction) | rfl | decide | (with_reducible exact ⟨z.1, z.2.1⟩) | (with_reducible exact z.1) | (with_reducible exact z.2.1) | (with_reducible exact z.2.1 (by assumption)) | skip
 ·have e := (kb q).symm
  by_cases c : ((Lu b).given.length : Int) > 0
  ·have p := Bn (r := (Jt b).2.nx 1) (n := (Lu b).given.length) (by rw [AK]; omega) (by rw [AK]; omega)
   rw [Zy c]
   simp -implicitDefEqProofs only [Tryz.f13, q, e, c, decide_true, decide_false, eq_self, go_sem, hh, Int.reduceAdd, seval]
   with_reducible repeat' (first | apply ai | intro _ | ((first | apply s1 | apply s3 | apply s4) <;> intro hb <;> simp -implicitDefEqProofs only [hb, go_sem, hh, Int.reduceAdd, seval] <;> try simp only [qz] at hb))
   all_goals (try simp only [maxLen, tn, lm, AK] at *)
   all_goals first | with_reducible rfl | omega | with_reducible assumption | ((with_reducible show _ = true); rfl) | (exfalso; with_reducible contradiction) | rfl | decide | (with_reducible exact ⟨z.1, z.2.1⟩) | (with_reducible exact z.1) | (with_reducible exact z.2.1) | (with_reducible exact z.2.1 (by assumption)) | skip
  ·rw [Zx c]
   simp -implicitDefEqProofs only [Tryz.f13, q, e, c, decide_true, decide_false, eq_self, go_sem, hh, Int.reduceAdd, seval]
   with_reducible repeat' (first | apply ai | intro _ | ((first | apply s1 | apply s3 | apply s4) <;> intro hb <;> simp -implicitDefEqProofs only [hb, go_sem, hh, Int.reduceAdd, seval] <;> try simp only [qz] at hb))
   all_goals (try simp only [maxLen, tn, lm, AK] at *)
   all_goals first | with_reducible rfl | omega | with_reducible assumption | ((with_reducible show _ = true); rfl) | (exfalso; with_reducible contradiction) | rfl | decide | (with_reducible exact ⟨z.1, z.2.1⟩) | (with_reducible exact z.1) | (with_reducible exact z.2.1) | (with_reducible exact z.2.1 (by assumption)) | skip
end
theorem eJ {a : Ad} {w : Wd} : ((Bz (BL a) w.hosts).length : Int) ≤ E5 w := Fh (KX a) _
def c4 : Ct := Ar (lc Lj.asl l0) (fun p => True) (fun p => .t (.v (.bool true)))
section
attribute [local go_sem] xh xi xj w7 nh xk Jm TA BD Nq AZ AY xc lm decide_true AT AS.opn AS.cls AS.nilb AS.renb AS.up Bool.not_false Bool.not_true List.set_set List.set_cons_zero List.set_cons_succ List.set_nil List.mem_singleton forall_eq
set_option maxHeartbeats 6400000 in
theorem ux {G : Gt} (hG : Ah G) (hh : G.e 13 = AA 1 xh ∧ G.e 14 = AA 0 xi ∧ G.e 16 = AA 0 xj ∧ G.e 15 = AA 0 w7 ∧ G.e 17 = AA 0 nh ∧ G.e 18 = AA 0 xk) : Gd G 4 (AA 0 c4) := by
 refine gr (fn := Tryz.f4) (n := 1) rfl rfl hG ?_
 rintro ⟨b, ⟨⟩⟩ hpre
 try dsimp only
 have z := Ry b
 have za := pU b
 obtain ⟨W, hW⟩ : ∃ W, Lu b = W := ⟨_, rfl⟩
 obtain ⟨A, hA⟩ : ∃ A, uK b = A := ⟨_, rfl⟩
 rw [hW] at z
 rw [hA] at za
 obtain ⟨zw, zn⟩ := z
 by_cases L : (b.length : Int) > 1048576
 ·simp -implicitDefEqProofs only [Tryz.f4, L, decide_true, go_sem, hh, seval]
  with_reducible repeat' (first | apply ai | intro _ | ((first | apply s1 | apply s3 | apply s4) <;> intro hb <;> simp -implicitDefEqProofs only [hb, go_sem, hh, seval] <;> try simp only [qz] at hb))
  all_goals first | with_reducible rfl | omega | with_reducible assumption | ((with_reducible show _ = true); rfl) | ((with_reducible show List.Nodup _); decide) | (exfalso; with_reducible contradiction) | skip
 ·by_cases hok : Dc W
  ·have b1 := Ap hok
   have e1 := Tc hok
   have e2 := Q4 (a := A) hok
   have hc := eJ (a := A) (w := W)
   have hl := hok.2.2.2.1
   simp -implicitDefEqProofs only [Tryz.f4, L, hW, hA, b1, eq_self, decide_true, decide_false, go_sem, hh, seval]
   with_reducible repeat' (first | apply ai | intro _ | ((first | apply s1 | apply s3 | apply s4) <;> intro hb <;> simp -implicitDefEqProofs only [hb, go_sem, hh, seval] <;> try simp only [qz] at hb))
   all_goals (try simp only [maxLen, tn] at *)
   all_goals first | with_reducible rfl | omega | with_reducible assumption | ((with_reducible show _ = true); rfl) | ((with_reducible show List.Nodup _); decide) | (exfalso; with_reducible contradiction) | exact ⟨zw, zn⟩ | skip
   refine AE [] (ι := {i : Nat // i ≤ W.hosts.length}) (fun p => ⟨[(3, .pb 1003 0), (4, .pb 1004 0), (5, .h 1019), (6, .t (.v (.int .i64 (Bz (BL A) (W.hosts.take p.1)).length))), (7, .t (.v (.int .i64 p.1)))], [(1003, some (.box ((C8 W).map .t))), (1004, some (.box ((Am A).map .t))), (1019, some (.arr true 3 ((WU W A).map BU)))]⟩) (fun p => W.hosts.length - p.1) ⟨0, Nat.zero_le _⟩ rfl ?_ ?_
   ·simp -implicitDefEqProofs only [go_sem, hh, seval]
    first | (simp [Bz]; done) | skip
   ·rintro ⟨i, hi⟩
    dsimp only
    by_cases hlt : i < W.hosts.length
    ·have hlt' : (i : Int) < W.hosts.length := by omega
     have hx := zw.1.2 _ (AC (xs := W.hosts) (j := i) hlt)
     have hbl := hx.2.2.1.1
     simp -implicitDefEqProofs only [hlt', eq_self, decide_true, decide_false, tn, go_sem, hh, seval]
     with_reducible repeat' (first | apply ai | intro _ | ((first | apply s1 | apply s3 | apply s4) <;> intro hb <;> simp -implicitDefEqProofs only [hb, go_sem, hh, seval] <;> try simp only [qz] at hb))
     all_goals (try simp only [maxLen, tn] at *)
     all_goals first | with_reducible rfl | omega | with_reducible assumption | ((with_reducible show _ = true); rfl) | ((with_reducible show List.Nodup _); decide) | (exfalso; with_reducible contradiction) | skip
     refine AE [] (ι := {k : Nat // k ≤ (W.hosts.getD i default).boxes.length}) (fun p => ⟨[(3, .pb 1003 0), (4, .pb 1004 0), (5, .h 1019), (6, .t (.v (.int .i64 ((Bz (BL A) (W.hosts.take i)).length + (Bz (Cg A) ((W.hosts.getD i default).boxes.take p.1)).length)))), (7, .t (.v (.int .i64 i))), (8, .t (.v (.int .i64 p.1)))], [(1003, some (.box ((C8 W).map .t))), (1004, some (.box ((Am A).map .t))), (1019, some (.arr true 3 ((WU W A).map BU)))]⟩) (fun p => (W.hosts.getD i default).boxes.length - p.1) ⟨0, Nat.zero_le _⟩ rfl ?_ ?_
     ·simp -implicitDefEqProofs only [go_sem, hh, seval]
      first | (simp [Bz]; done) | skip
     ·rintro ⟨k, hk⟩
      dsimp only
      by_cases hkt : k < (W.hosts.getD i default).boxes.length
      ·have hkt' : (k : Int) < (W.hosts.getD i default).boxes.length := by omega
       have hml := (hx.2.2.1.2 _ (AC (xs := (W.hosts.getD i default).boxes) (j := k) hkt)).2.1
       have ho := N6 (a := A) hlt hkt (Nat.le_refl _)
       have hs := DA (Cg A) hkt
       by_cases ha : ((W.hosts.getD i default).boxes.getD k default).addr = A
       ·rw [NQ ha] at hs
        simp -implicitDefEqProofs only [hlt', hkt', ha, eq_self, decide_true, decide_false, tn, go_sem, hh, seval]
        with_reducible repeat' (first | apply ai | intro _ | ((first | apply s1 | apply s3 | apply s4) <;> intro hb <;> simp -implicitDefEqProofs only [hb, go_sem, hh, seval] <;> try simp only [qz] at hb))
        all_goals (try simp only [maxLen, tn] at *)
        all_goals first | with_reducible rfl | omega | with_reducible assumption | ((with_reducible show _ = true); rfl) | ((with_reducible show List.Nodup _); decide) | (exfalso; with_reducible contradiction) | contradiction | skip
        refine ⟨⟨k + 1, by omega⟩, by dsimp only; omega, ?_⟩
        simp -implicitDefEqProofs only [hs, List.length_append, go_sem, hh, seval]
        first | (simp; omega) | skip
       ·rw [NP ha, List.append_nil] at hs
        simp -implicitDefEqProofs only [hlt', hkt', ha, eq_self, decide_true, decide_false, tn, go_sem, hh, seval]
        with_reducible repeat' (first | apply ai | intro _ | ((first | apply s1 | apply s3 | apply s4) <;> intro hb <;> simp -implicitDefEqProofs only [hb, go_sem, hh, seval] <;> try simp only [qz] at hb))
        all_goals (try simp only [maxLen, tn] at *)
        all_goals first | with_reducible rfl | omega | with_reducible assumption | ((with_reducible show _ = true); rfl) | ((with_reducible show List.Nodup _); decide) | (exfalso; with_reducible contradiction) | contradiction | skip
        refine ⟨⟨k + 1, by omega⟩, by dsimp only; omega, ?_⟩
        simp -implicitDefEqProofs only [hs, go_sem, hh, seval]
        first | (simp; done) | skip
      ·have hkt' : ¬ (k : Int) < (W.hosts.getD i default).boxes.length := by omega
       have hs : Bz (BL A) (W.hosts.take (i + 1)) = Bz (BL A) (W.hosts.take i) ++ Bz (Cg A) ((W.hosts.getD i default).boxes.take k) := by rw [DA (BL A) hlt, Em (Cg A) (by omega)]; rfl
       simp -implicitDefEqProofs only [hlt', hkt', eq_self, decide_true, decide_false, tn, go_sem, hh, seval]
       with_reducible repeat' (first | apply ai | intro _ | ((first | apply s1 | apply s3 | apply s4) <;> intro hb <;> simp -implicitDefEqProofs only [hb, go_sem, hh, seval] <;> try simp only [qz] at hb))
       all_goals (try simp only [maxLen, tn] at *)
       all_goals first | with_reducible rfl | omega | with_reducible assumption | ((with_reducible show _ = true); rfl) | ((with_reducible show List.Nodup _); decide) | (exfalso; with_reducible contradiction) | skip
       refine ⟨⟨i + 1, by omega⟩, by dsimp only; omega, ?_⟩
       simp -implicitDefEqProofs only [hs, List.length_append, go_sem, hh, seval]
       first | (simp; done) | skip
    ·have hlt' : ¬ (i : Int) < W.hosts.length := by omega
     have hs := Em (BL A) (xs := W.hosts) (i := i) (by omega)
     have g1 : (L8 W).length = 4 := by rw [e1]; rfl
     have g2 : (L8 W).getD 2 default = E5 W := by rw [e1]; rfl
     have g3 : (L8 W).getD (Int.toNat 2) default = E5 W := g2
     have hh := And.intro hh (And.intro g1 (And.intro g2 g3))
     simp -implicitDefEqProofs only [hlt', hs, e2, eq_self, decide_true, decide_false, tn, go_sem, hh, seval]
     with_reducible repeat' (first | apply ai | intro _ | ((first | apply s1 | apply s3 | apply s4) <;> intro hb <;> simp -implicitDefEqProofs only [hb, go_sem, hh, seval] <;> try simp only [qz] at hb))
     all_goals (try simp only [maxLen, tn] at *)
     all_goals first | with_reducible rfl | omega | with_reducible assumption | ((with_reducible show _ = true); rfl) | ((with_reducible show List.Nodup _); decide) | (exfalso; with_reducible contradiction) | (rw [decide_eq_true (by omega)]; done) | (simp; omega) | skip
  ·have b1 := AQ hok
   simp -implicitDefEqProofs only [Tryz.f4, L, hW, hA, b1, eq_self, decide_true, decide_false, go_sem, hh, seval]
   with_reducible repeat' (first | apply ai | intro _ | ((first | apply s1 | apply s3 | apply s4) <;> intro hb <;> simp -implicitDefEqProofs only [hb, go_sem, hh, seval] <;> try simp only [qz] at hb))
   all_goals (try simp only [maxLen, tn] at *)
   all_goals first | with_reducible rfl | omega | with_reducible assumption | ((with_reducible show _ = true); rfl) | ((with_reducible show List.Nodup _); decide) | (exfalso; with_reducible contradiction) | exact ⟨zw, zn⟩ | skip
end
end Go.V
namespace Go.V
open Go Go.Proofs Go.ChangeShapes Go.WideShapes Go.ChangeAt Go.RowKit
set_option maxRecDepth 100000
section
variable {H : Type} {enc : TypeId × Value → H} {W : World} {P : Program}
def pW (W : World) : Nat → Prop := fun b => b < W.heap.size
def tV (P : Program) (W : World) (enc : TypeId × Value → H) (t : TypeId) (q : List T → Prop) : Prop :=
 ∀ (n : Nat) (cs : List Value) (x : DataW H × List MemPlace), DataW.trod enc P W 0 (fun _ => true) true n t cs = some x → ∃ ts, q ts ∧ CG W (pW W) ts cs
theorem tV.slice {α : Type} (E : FN α) {t e : TypeId} (u : P.underlying t = some (.slice e)) (hn : P.cellsOf e = E.n) (h0 : 0 < E.n) (he : tV P W enc e fun ts => ∃ a, ts = E.enc a) :
    tV P W enc t fun ts => ∃ xs : List α, ts = [.sl E.n (xs.map E.enc)] := fun n cs x h => by
 rcases DataW.trod_slice u h with ⟨rfl, _⟩ | ⟨a, len, cap, elems, rest, m, rfl, rfl, _, _, hlc, hcm, hel, hes, _⟩
 ·exact ⟨_, ⟨[], rfl⟩, .cons _ _ _ _ (.nil _) .nil⟩
 ·rw [hn] at hes
  have key : ∀ k, k ≤ len → ∃ (xs : List α) (vs : List Value), xs.length = k ∧ vs.length = k * E.n ∧ CG W (pW W) (xs.map E.enc).flatten vs ∧ (0 < k → a.block < W.heap.size) ∧ ∀ j v, vs[j]? = some v → W.cell? (a.add j) = some v := fun k => by
   induction k with
   | zero => exact fun _ => ⟨[], [], rfl, by simp, .nil, fun h => absurd h (Nat.lt_irrefl _), fun j v hj => by simp at hj⟩
   | succ k ih =>
     intro hk
     obtain ⟨xs, vs, h1, h2, h3, h4, h5⟩ := ih (by omega)
     have h6 := hes k (by omega)
     rw [List.getElem?_eq_getElem (by omega)] at h6
     obtain ⟨cs, h7, h8⟩ := Option.bind_eq_some_iff.1 h6
     obtain ⟨ts, ⟨y, rfl⟩, h9⟩ := he _ _ _ h8
     obtain ⟨q1, q2, q3⟩ := World.cells?_some h7
     have hb : a.block < W.heap.size := by
      have := World.cells?_block h7 h0
      rwa [C9] at this
     refine ⟨xs ++ [y], vs ++ cs, by simp [h1], ?_, ?_, fun _ => hb, fun j v hj => ?_⟩
     ·have : cs.length = E.n := by rw [← h9.len, E.len]
      rw [List.length_append, h2, this, Nat.succ_mul]
     ·rw [List.map_append, List.flatten_append]
      exact h3.append (by simpa using h9)
     ·by_cases hj2 : j < vs.length
      ·rw [List.getElem?_append_left hj2] at hj
       exact h5 j v hj
      ·rw [List.getElem?_append_right (by omega)] at hj
       have hjl : j - vs.length < E.n := by
        have := (List.getElem?_eq_some_iff.1 hj).1
        have h10 : cs.length = E.n := by rw [← h9.len, E.len]
        omega
       have := q3 (j - vs.length) hjl
       rw [Ff] at this
       rw [show j = k * E.n + (j - vs.length) from by omega, this]
       exact hj
  obtain ⟨xs, vs, h1, h2, h3, h4, h5⟩ := key len (Nat.le_refl _)
  refine ⟨_, ⟨xs, rfl⟩, .cons _ _ _ _ (.sl E.n _ a len cap vs (by simp [h1]) hlc hcm (fun hne => ?_) (fun c hc => ?_) h5 h3) .nil⟩
  ·refine h4 ?_
   rcases Nat.eq_zero_or_pos len with h | h
   ·exact absurd (by rw [List.eq_nil_of_length_eq_zero (h1.trans h)]; rfl) hne
   ·exact h
  ·obtain ⟨y, _, rfl⟩ := List.mem_map.1 hc
   exact E.len y
end
end Go.V
namespace Go.Proofs.YtcihecoggoeelaaGreatDoor
open Go Go.Proofs Go.ChangeShapes Go.WideShapes Go.ChangeAt Go.RowKit
set_option maxRecDepth 100000
theorem own : ownKnob Tryz.prog.godebug = none := by kernel_rfl
def flatD : Nat → DataW Unit → List Value
 | 0, _ => []
 | _ + 1, .lit (.int k v) => [.int k v]
 | n + 1, .agg xs => xs.flatMap (flatD n)
 | _ + 1, _ => []
noncomputable def gOf (n : String) : Nat := (Tryz.prog.globalNamed n).getD 0
noncomputable def layAt (n : String) (d : DataW Unit) (h : Array Obj) : Array Obj := h.modify (gOf n) fun
 | .cells _ t frozen => .cells (flatD 5 d).toArray t frozen
 | o => o
noncomputable def laidWorld (os : Os) : World :=
 { World.holding Tryz.prog os ⟨#[], #[], []⟩ with heap := layAt "unicode/utf8.first" Rows.laid_unicode_utf8_first (layAt "unicode/utf8.acceptRanges" Rows.laid_unicode_utf8_acceptRanges (World.holding Tryz.prog os ⟨#[], #[], []⟩).heap) }
noncomputable def args0 : Array Value := #[.slice none 0 0]
theorem laid_met (os : Os) : laidMet Tryz.prog Rows.fnLookBoxRow.laid ((laidWorld os).forCall (fun _ _ => 0) ⟨#[], args0, []⟩).memory :=
 laidMet_of_run' 8 (by kernel_rfl) (by kernel_rfl)
theorem reads (os : Os) {H : Type} (enc : TypeId × Value → H) : ∃ places, DataW.whole enc Tryz.prog ((laidWorld os).forCall (fun _ _ => 0) ⟨#[], args0, []⟩).memory Tryz.f4.params.toList Rows.fnLookBoxSpec.vars false args0.toList 8 = some ([.nil], [], places) :=
 ⟨[], by kernel_rfl⟩
theorem func4 : Tryz.prog.funcs[4]? = some Tryz.f4 := by kernel_rfl
def Every : Prop := ∀ (H : Type) (enc : TypeId × Value → H) (W : World) (base : Nat) (args : Array Value) (ds gs : List (DataW H)) (before : List MemPlace)
    (_ : ∀ (j : Nat) t v, Tryz.f4.params[j]? = some t → args[j]? = some v → Value.okWide Tryz.prog W .any base t v)
    (_ : DataW.Whole enc Tryz.prog Tryz.f4.params.toList Rows.fnLookBoxSpec.vars false W args.toList ds gs before) (_ : W.ShapedOpen Tryz.prog),
    Calls Tryz.prog 4 args W fun e W' => ∃ v, e = .returned v ∧ Rows.fnLookBoxSpec.post enc Tryz.prog Tryz.f4 false true false false W args v W'
theorem lifted (hE : Every) (os : Os) (started : os.Started) (H : Type) (enc : TypeId × Value → H) (F : Stop.Interp) :
    ReturnsInHanded {} Tryz.checked os 4 .any ((OpenSpec.ofChange Rows.fnLookBoxSpec).preRow enc Tryz.prog Tryz.f4 Rows.fnLookBoxRow.domain false Rows.fnLookBoxRow.laid) (((OpenSpec.ofChange Rows.fnLookBoxSpec).at F).post enc Tryz.prog Tryz.f4 false true false false) := by
 obtain ⟨places, hx⟩ := reads os enc
 refine returnsInHanded_of_row (C := Tryz.checked) (s := OpenSpec.ofChange Rows.fnLookBoxSpec) own started (by kernel_rfl) func4
  (witness_row_at (enc := enc) (C := Tryz.checked) false (laidWorld os) args0 rfl (by kernel_rfl) (by kernel_rfl) (by kernel_rfl)
    (OpenSpec.preRow_of_cond 8 hx (by kernel_rfl) (fun k hk => by cases hk) (by kernel_rfl) (laid_met os))) ?_
 intro W base args ds gs before hval hW _ _ _ _ hS _
 exact hE H enc W base args ds gs before hval hW hS
theorem said (hE : Every) : Rows.FnLookBoxSaid :=
 OpenClaim.holds_of_cond 4 Tryz.f4 rfl rfl rfl rfl rfl rfl rfl ⟨rfl, rfl, rfl, rfl, rfl⟩ rfl rfl rfl rfl rfl (by kernel_rfl) func4 (by kernel_rfl)
  (of_decide_eq_true (by kernel_rfl)) (by unfold Func.isWrapper; first | (rw [if_pos (by decide +kernel)]; kernel_rfl) | (rw [if_neg (by decide +kernel)]; exact ⟨rfl, rfl⟩))
  (fun os started H enc _ F => by rw [OpenClaim.pre_eq_preRow]; exact lifted hE os started H enc F)
theorem params4 : Tryz.f4.params = #[22] := rfl
theorem plain (f : FuncId) (fn : Func) (hf : Tryz.pinned.checked.prog.funcNamed "loop.example/satchel/laws.FnLookBox" = some f) (hfn : Tryz.pinned.checked.prog.funcs[f]? = some fn) :
    false = Tryz.pinned.checked.prog.looks [] ∧ ∀ (j : Nat) t, fn.params[j]? = some t → Tryz.pinned.checked.prog.wantsStandIn t = false := by
 obtain rfl : f = 4 := Option.some.inj ((show Tryz.prog.funcNamed "loop.example/satchel/laws.FnLookBox" = some 4 by kernel_rfl).symm.trans hf) |>.symm
 obtain rfl : fn = Tryz.f4 := (Option.some.inj (func4.symm.trans hfn)).symm
 refine ⟨by kernel_rfl, fun j t ht => ?_⟩
 rw [params4] at ht
 have hm : t ∈ [22] := by simpa using Array.mem_of_getElem? ht
 have hall : ([22].all fun u => !Tryz.prog.wantsStandIn u) = true := by kernel_rfl
 exact (show Tryz.prog.wantsStandIn t = false by simpa using List.all_eq_true.1 hall t hm)
theorem card_of (hE : Every) : Rows.FnLookBoxCardSaid :=
 Claim7.holds_tied_plain_at .later [] _ _ _ _ (said hE) (fun _ h => by cases h) (by kernel_rfl) (fun _ h => by cases h) fnLookBox_row_tie rfl ⟨rfl, rfl⟩ (by kernel_rfl) rfl plain (by kernel_rfl)
end Go.Proofs.YtcihecoggoeelaaGreatDoor
namespace Go.V
open Go Go.Proofs Go.ChangeShapes Go.WideShapes Go.ChangeAt Go.RowKit
set_option maxRecDepth 100000
set_option linter.unusedVariables false
set_option maxHeartbeats 4000000 in
theorem con4 (m : Int) (b : List UInt8) : Qt Tryz.prog m 4 ((lc Lj.asl l0).enc (b, ())) ((lc Lj.asl l0).enc (b, ())) (.t (.v (.bool true))) := by
 have g0 : Ld Tryz.prog (Qw m []) ∧ Ei (Qw m []) := M6
 have g1 := AB g0 (qB g0)
 have g2 := AB g1 (qS g1)
 have g3 := AB g2 (qD g2 rfl)
 have g4 := AB g3 (qC g3 rfl)
 have g5 := AB g4 (f9 g4 rfl)
 have g6 := AB g5 (rB g5)
 have g7 := AB g6 (qm g6)
 have g8 := AB g7 (rC g7 rfl)
 have g9 := AB g8 (qJ g8 ⟨rfl, rfl⟩)
 have g10 := AB g9 (q9 g9 rfl)
 have g11 := AB g10 (fU g10)
 have g12 := AB g11 (fO g11)
 have g13 := AB g12 (fX g12 rfl)
 have g14 := AB g13 (fM g13 ⟨rfl, rfl⟩)
 have g15 := AB g14 (fW g14)
 have g16 := AB g15 (qx g15 ⟨rfl, rfl, rfl⟩)
 have g17 := AB g16 (qy g16)
 have g18 := AB g17 (q8 g17)
 have g19 := AB g18 (gI g18 ⟨rfl, rfl⟩)
 have g20 := AB g19 (fk g19 ⟨rfl, rfl, rfl, rfl, rfl⟩)
 have g21 := AB g20 (rA g20 ⟨rfl, rfl⟩)
 have g22 := AB g21 (qI g21 ⟨rfl, rfl, rfl, rfl, rfl⟩)
 have g23 := AB g22 (fN g22)
 have g24 := AB g23 (qW g23 ⟨rfl, rfl, rfl, rfl, rfl⟩)
 have g25 := AB g24 (gK g24 ⟨rfl, rfl, rfl⟩)
 have g26 := AB g25 (fK g25 rfl)
 have g27 := AB g26 (qU g26 ⟨rfl, rfl⟩)
 have g28 := AB g27 (gX g27 rfl)
 have g29 := AB g28 (fz g28 ⟨rfl, rfl⟩)
 have g30 := AB g29 (fQ g29 ⟨rfl, rfl, rfl, rfl⟩)
 have g31 := AB g30 (gc g30 ⟨rfl, rfl, rfl⟩)
 have g32 := AB g31 (f7 g31)
 have g33 := AB g32 (fV g32 rfl)
 have g34 := AB g33 (qj g33 ⟨rfl, rfl⟩)
 have g35 := AB g34 (fI g34 rfl)
 have g36 := AB g35 (ql g35 ⟨rfl, rfl, rfl, rfl⟩)
 have g37 := AB g36 (fY g36)
 have g38 := AB g37 (fZ g37)
 have g39 := AB g38 (gg g38)
 have g40 := AB g39 (gw g39 rfl)
 have g41 := AB g40 (iO g40)
 have g42 := AB g41 (iD g41 rfl)
 have g43 := AB g42 (iF g42 rfl)
 have g44 := AB g43 (iG g43 rfl)
 have g45 := AB g44 (iE g44 rfl)
 have g46 := AB g45 (iH g45)
 have g47 := AB g46 (iI g46)
 have g48 := AB g47 (iP g47)
 have g49 := AB g48 (iJ g48 rfl)
 have g50 := AB g49 (gz g49 ⟨rfl, rfl, rfl, rfl, rfl, rfl, rfl⟩)
 have g51 := AB g50 (iK g50)
 have g52 := AB g51 (iL g51)
 have g53 := AB g52 (iS g52)
 have g54 := AB g53 (iW g53 ⟨rfl, rfl⟩)
 have g55 := AB g54 (iT g54 rfl)
 have g56 := AB g55 (f0 g55)
 have g57 := AB g56 (fR g56 rfl)
 have g58 := AB g57 (qh g57 ⟨rfl, rfl⟩)
 have g59 := AB g58 (iU g58 ⟨rfl, rfl, rfl⟩)
 have g60 := AB g59 (iQ g59 ⟨rfl, rfl, rfl, rfl, rfl⟩)
 have g61 := AB g60 (iV g60 rfl)
 have g62 := AB g61 (iR g61 ⟨rfl, rfl, rfl⟩)
 have g63 := AB g62 (iM g62 ⟨rfl, rfl, rfl, rfl⟩)
 have g64 := AB g63 (hO g63 ⟨rfl, rfl, rfl⟩)
 have g65 := AB g64 (hP g64)
 have g66 := AB g65 (gh g65 ⟨rfl, rfl, rfl, rfl⟩)
 have g67 := AB g66 (fa g66)
 have g68 := AB g67 (fb g67)
 have g69 := AB g68 (qo g68 ⟨rfl, rfl, rfl, rfl⟩)
 have g70 := AB g69 (gO g69 ⟨rfl, rfl, rfl, rfl, rfl, rfl, rfl, rfl⟩)
 have g71 := AB g70 (qH g70)
 have g72 := AB g71 (rD g71 ⟨rfl, rfl⟩)
 have g73 := AB g72 (qK g72 rfl)
 have g74 := AB g73 (gi g73 ⟨rfl, rfl⟩)
 have g75 := AB g74 (hY g74)
 have g76 := AB g75 (gL g75 rfl)
 have g77 := AB g76 (gf g76)
 have g78 := AB g77 (gN g77 ⟨rfl, rfl⟩)
 have g79 := AB g78 (iN g78 ⟨rfl, rfl⟩)
 have g80 := AB g79 (iA g79 ⟨rfl, rfl, rfl, rfl, rfl, rfl⟩)
 have g81 := AB g80 (gj g80 ⟨rfl, rfl, rfl, rfl, rfl⟩)
 have g82 := AB g81 (gP g81 ⟨rfl, rfl, rfl, rfl, rfl, rfl⟩)
 have g83 := AB g82 (gk g82)
 have g84 := AB g83 (gQ g83 ⟨rfl, rfl, rfl, rfl, rfl, rfl⟩)
 have g85 := AB g84 (gm g84 rfl)
 have g86 := AB g85 (gS g85 ⟨rfl, rfl, rfl⟩)
 have g87 := AB g86 (fw g86 ⟨rfl, rfl, rfl, rfl, rfl⟩)
 have g88 := AB g87 (gJ g87 ⟨rfl, rfl, rfl, rfl, rfl⟩)
 have g89 := AB g88 (fq g88 ⟨rfl, rfl, rfl⟩)
 have g90 := AB g89 (ft g89 ⟨rfl, rfl⟩)
 have g91 := AB g90 (rL g90 ⟨rfl, rfl, rfl⟩)
 have g92 := AB g91 (fu g91 ⟨rfl, rfl, rfl, rfl, rfl, rfl, rfl⟩)
 have g93 := AB g92 (fG g92 ⟨rfl, rfl, rfl⟩)
 have g94 := AB g93 (fg g93 ⟨rfl, rfl⟩)
 have g95 := AB g94 (qt g94 ⟨rfl, rfl, rfl⟩)
 have g96 := AB g95 (fH g95 ⟨rfl, rfl, rfl⟩)
 have g97 := AB g96 (qR g96 ⟨rfl, rfl, rfl, rfl, rfl, rfl, rfl⟩)
 have g98 := AB g97 (fx g97 rfl)
 have g99 := AB g98 (fJ g98 ⟨rfl, rfl⟩)
 have g100 := AB g99 (qT g99 ⟨rfl, rfl, rfl, rfl⟩)
 have g101 := AB g100 (py g100 ⟨rfl, rfl, rfl, rfl, rfl⟩)
 have g102 := F6 g101 (gZ m)
 have g103 := AB g102 (gA g102 rfl)
 have g104 := F6 g103 (iB m)
 have g105 := AB g104 (gn g104 rfl)
 have g106 := F6 g105 (gp m)
 have g107 := AB g106 (gq g106)
 have g108 := AB g107 (iC g107)
 have g109 := AB g108 (gu g108 rfl)
 have g110 := AB g109 (ga g109 ⟨rfl, rfl, rfl, rfl⟩)
 have g111 := AB g110 (gC g110 rfl)
 have g112 := AB g111 (fh g111 ⟨rfl, rfl⟩)
 have g113 := AB g112 (qu g112 rfl)
 have g114 := AB g113 (qO g113)
 have g115 := AB g114 (gE g114)
 have g116 := AB g115 (gb g115)
 have g117 := AB g116 (gG g116 rfl)
 have g118 := AB g117 (gH g117 rfl)
 have g119 := AB g118 (fi g118 ⟨rfl, rfl, rfl⟩)
 have g120 := AB g119 (qv g119 ⟨rfl, rfl⟩)
 have g121 := AB g120 (qE g120 ⟨rfl, rfl⟩)
 have g122 := AB g121 (rK g121)
 have g123 := AB g122 (rJ g122 rfl)
 have g124 := AB g123 (rE g123 rfl)
 have g125 := AB g124 (fm g124 ⟨rfl, rfl⟩)
 have g126 := AB g125 (rG g125 rfl)
 have g127 := AB g126 (rF g126 rfl)
 have g128 := AB g127 (fp g127 rfl)
 have g129 := AB g128 (rH g128 rfl)
 have g130 := AB g129 (qL g129 ⟨rfl, rfl, rfl⟩)
 have g131 := AB g130 (qM g130 ⟨rfl, rfl⟩)
 have g132 := AB g131 (qZ g131 rfl)
 have g133 := AB g132 (rI g132)
 have g134 := AB g133 (qN g133 ⟨rfl, rfl⟩)
 have g135 := AB g134 (qP g134)
 have g136 := AB g135 (qQ g135 rfl)
 have g137 := AB g136 (fc g136 ⟨rfl, rfl, rfl, rfl, rfl, rfl⟩)
 have g138 := AB g137 (qp g137 ⟨rfl, rfl⟩)
 have g139 := AB g138 (fj g138)
 have g140 := AB g139 (qw g139 rfl)
 have g141 := AB g140 (qG g140 rfl)
 have g142 := AB g141 (qq g141 ⟨rfl, rfl⟩)
 have g143 := AB g142 (fd g142 rfl)
 have g144 := AB g143 (qr g143 rfl)
 have g145 := F6 g144 (gY m)
 have g146 := AB g145 (f8 g145 rfl)
 have g147 := AB g146 (ff g146 rfl)
 have g148 := AB g147 (fe g147)
 have g149 := AB g148 (qs g148 ⟨rfl, rfl⟩)
 have g150 := AB g149 (p8 g149 ⟨rfl, rfl, rfl, rfl, rfl, rfl⟩)
 have g151 := AB g150 (gW g150)
 have g152 := AB g151 (fy g151 rfl)
 have g153 := AB g152 (fP g152 rfl)
 have g154 := AB g153 (qX g153 ⟨rfl, rfl⟩)
 have g155 := AB g154 (qY g154)
 have g156 := AB g155 (p6 g155 ⟨rfl, rfl, rfl, rfl, rfl, rfl⟩)
 have g157 := AB g156 (qF g156)
 have g158 := AB g157 (f5 g157)
 have g159 := AB g158 (fS g158 ⟨rfl, rfl⟩)
 have g160 := AB g159 (f6 g159)
 have g161 := AB g160 (fT g160 ⟨rfl, rfl⟩)
 have g162 := AB g161 (fL g161)
 have g163 := AB g162 (qi g162 ⟨rfl, rfl, rfl, rfl⟩)
 have g164 := AB g163 (qV g163 ⟨rfl, rfl⟩)
 have g165 := AB g164 (pz g164 ⟨rfl, rfl⟩)
 have g166 := AB g165 (p5 g165 rfl)
 have g167 := AB g166 (p9 g166)
 have g168 := AB g167 (p4 g167 rfl)
 have g169 := AB g168 (qA g168 rfl)
 have g170 := AB g169 (p7 g169 ⟨rfl, rfl⟩)
 have hg := ux g170 ⟨rfl, rfl, rfl, rfl, rfl, rfl⟩
 obtain ⟨res, h1, _, h3, _⟩ := hg.ro ((lc Lj.asl l0).enc (b, ())) (fun r => r = .t (.v (.bool true))) (by
  show c4 _ _
  rw [c4, Rg, (lc Lj.asl l0).ed]
  exact ⟨trivial, rfl⟩)
 rw [h1] at h3
 exact h3
section
variable {H : Type} {enc : TypeId × Value → H} {W : World}
theorem v3 : Tryz.prog.underlying 3 = some (.int .i64) := by kernel_rfl
theorem v5 : Tryz.prog.underlying 5 = some (.int .u8) := by kernel_rfl
theorem w5 : Tryz.prog.cellsOf 5 = 1 := by kernel_rfl
theorem rdBy : tV Tryz.prog W enc 5 fun ts => ∃ a, ts = Lj.enc a := fun n cs x h => by
 obtain ⟨k, rfl, _, hs⟩ := DataW.trod_int v5 h
 have hb : 0 ≤ k ∧ k < 256 := by
  have e : (Lit.int .u8 k).wf = (decide ((0 : Int) ≤ k) && decide (k ≤ 255)) := rfl
  rw [e] at hs
  simp at hs
  omega
 refine ⟨_, ⟨UInt8.ofNat k.toNat, rfl⟩, .cons _ _ _ _ ?_ .nil⟩
 have e4 : (((UInt8.ofNat k.toNat).toNat : Nat) : Int) = k := by
  have : (UInt8.ofNat k.toNat).toNat = k.toNat := by simp; omega
  omega
 rw [e4]
 exact .v _ trivial
theorem v22 : Tryz.prog.underlying 22 = some (.slice 5) := by kernel_rfl
theorem glOk_of (h : W.ShapedOpen Tryz.prog) : ∃ m, Ll m W (pW W) := by
 obtain ⟨cs, h1, h2, h3⟩ := h.1 0 #[.int .i64 0] 3 (Nat.lt_of_lt_of_le (Nat.lt_succ_self 0) (Nat.le_of_ble_eq_true (by kernel_rfl))) (by kernel_rfl)
 obtain ⟨ts, t1, _, t3⟩ := h3 (by kernel_rfl)
 have hts : ts = [3] := Option.some.inj (t1.symm.trans (by kernel_rfl))
 subst hts
 have hsz : cs.size = 1 := h2
 have h0 : cs[0]? = some cs[0] := Array.getElem?_eq_getElem (by omega)
 obtain ⟨u, hu, hok⟩ := t3 0 _ h0
 simp at hu
 subst hu
 unfold Cell.ok at hok
 rw [v3] at hok
 generalize cs[0] = v at h0 hok
 have hb : (0 : Nat) < W.heap.size := (Array.getElem?_eq_some_iff.1 h1).1
 cases v with
 | int k n =>
   have hk : k = .i64 := hok.1
   subst hk
   refine ⟨n, .rop _ _ [.int .i64 n] (fun _ => hb) (fun j u hj => ?_) (.cons _ _ _ _ (.v _ trivial) .nil)⟩
   cases j with
   | zero =>
     simp at hj
     subst hj
     simp [World.cell?, Addr.add, tA, h1, h0]
   | succ j => simp at hj
 | _ => exact hok.elim
end
theorem every : YtcihecoggoeelaaGreatDoor.Every := by
 intro H enc W base args ds gs before hval0 hW hS
 have hval : ∀ (j : Nat) t v, Tryz.f4.params[j]? = some t → args[j]? = some v → Value.okWide Tryz.prog W .any base t v := hval0
 have hW' := hW
 obtain ⟨p, q, hA0, hV, rfl, hfz, hnd⟩ := hW
 have hA : DataW.TrodAll enc Tryz.prog W 0 (fun _ => true) true [22] args.toList ds p := hA0
 rw [YtcihecoggoeelaaGreatDoor.params4] at hval
 obtain ⟨u0, d0, rfl, rfl, h0⟩ := trodAll_one hA
 obtain ⟨rfl, rfl⟩ := trodVars_none hV
 have hlt : ∀ x ∈ (p) ++ [], x.block < W.heap.size := fun x hx => hW'.lt x hx
 have k0 := h0
 obtain ⟨n0, t0⟩ := h0
 obtain ⟨_, ⟨b, rfl⟩, r0⟩ := (tV.slice Lj v22 w5 (by decide) rdBy) _ _ _ t0
 have e0 : u0.cells.toList = [u0] := by
  have := hval 0 22 u0 rfl rfl
  unfold Value.okWide at this
  rw [v22] at this
  cases u0 with
  | agg cs => simp only [Cell.okWide, v22, Cell.ok] at this
  | _ => rfl
 rw [e0] at r0
 have r0' : Ro W (pW W) (.sl 1 (b.map Lj.enc)) u0 := by
  cases r0 with | cons _ _ _ _ h _ => exact h
 have a0 : AG ρ0 W (pW W) (.t (.sl 1 (b.map Lj.enc))) u0 [] := .t _ _ r0'
 obtain ⟨m, hgl⟩ := glOk_of hS
 have hargs : AI ρ0 W (pW W) ((lc Lj.asl l0).enc (b, ())) [u0] [] := .cons _ _ _ _ [] [] a0 .nil
 have hcall := con4 m b W (pW W) [u0] [] hgl hargs .nil (fun b hb => by cases hb) (fun b hb => hb)
 refine Calls.mono hcall fun e W' hq => ?_
 obtain ⟨v, pr', G, F, he, hfr, _, _, _, _, hv, _, _⟩ := hq
 obtain ⟨rfl, _⟩ := hv.val
 have hb : Below W.heap.size W W' := ⟨hfr.os, hfr.tape, hfr.output, hfr.size, fun k hk => hfr.block k hk (by simp)⟩
 refine ⟨_, he, _, _, _, [], p, [], hW', ?_, ?_, rfl, hb.frame _, fun h => by cases h⟩
 ·exact trodAll_mk1 (shut_bool (show Tryz.prog.underlying 4 = some .bool by kernel_rfl) _)
 ·have := trodAll_mk1 (Below.trod (by kernel_rfl) (by kernel_rfl) (of_decide_eq_true (by kernel_rfl)) k0 hb fun x hx => hlt x (by simp [hx]))
  exact this
end Go.V
namespace Go.Proofs.YtcihecoggoeelaaGreatDoor
theorem fnLookBox_card : Rows.FnLookBoxCardSaid := card_of Go.V.every
end Go.Proofs.YtcihecoggoeelaaGreatDoor
