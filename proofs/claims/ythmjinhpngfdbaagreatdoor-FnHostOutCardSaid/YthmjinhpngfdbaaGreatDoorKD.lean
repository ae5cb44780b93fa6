/- The row. No condition. -/
import Derived.Test.YthmjinhpngfdbaaGreatDoorKC
import Derived.Test.YthmjinhpngfdbaaGreatDoorXB
import Derived.Test.YthmjinhpngfdbaaGreatDoorKB
import Derived.Test.YthmjinhpngfdbaaGreatDoorKA
import Derived.ProofKit
import Derived.Carry
import Derived.WalkKit
import Derived.Test.YthmjinhpngfdbaaGreatDoorCards
import Derived.Test.YthmjinhpngfdbaaGreatDoorTie
import Derived.OpenShut
import Derived.Deep.DeepHandedRow
namespace Go.V
open Go Go.Proofs
set_option maxRecDepth 100000
set_option linter.unusedSimpArgs false
set_option linter.unusedVariables false
def LP (w : Wd) (h n : Int) (q : Rd) : Ev × Rd :=
 if Af q 9 = 0 ∨ Af q 9 = 1 then (⟨1, h, 0, 0, F9 (q.nx 1) [40, 40, 12, 17, 18], false, Xn (q.nx 2)⟩, Oy (q.nx 2))
 else if Af q 9 = 2 ∨ Af q 9 = 3 ∨ Af q 9 = 4 then (⟨2, h, Af (q.nx 1) w.hosts.length, n, F9 (q.nx 2) [40, 40, 40, 3, 9, 13, 14, 15, 16, 17, 18], decide (Af (q.nx 3) 6 = 0), T9⟩, q.nx 4)
 else if Af q 9 = 5 then (⟨3, h, 0, n, 0, decide (Af (q.nx 1) 2 = 0), T9⟩, q.nx 2)
 else if Af q 9 = 6 then (⟨4, h, 0, 0, 0, false, T9⟩, q.nx 1)
 else if Af q 9 = 7 then (⟨F9 (q.nx 1) [0, 6, 5], 0, 0, F9 (q.nx 2) [1, 40, 0, 41], 0, false, T9⟩, q.nx 3)
 else (⟨5, 0, 0, 1 + Af (q.nx 1) 12, 0, false, T9⟩, q.nx 2)
def tl (r : Rd) (xs : List Im) : Int × Rd :=
 if (xs.length : Int) > 0 then (if Af (r.nx 2) 6 > 0 then ((xs.getD (Af (r.nx 3) xs.length).toNat default).id, r.nx 4) else (Af (r.nx 1) 4 + 1, r.nx 3)) else (Af (r.nx 1) 4 + 1, r.nx 2)
abbrev Ph (r : Rd) (w : Wd) : List Im := (w.hosts.getD (Af r w.hosts.length).toNat default).spool.items
def CF (r : Rd) (w : Wd) : Ev × Rd := LP w (Af r w.hosts.length) (tl r (Ph r w)).1 (tl r (Ph r w)).2
section
variable {r q : Rd} {w : Wd} {h n : Int}
theorem Wj (c : Af q 9 = 0) : LP w h n q = (⟨1, h, 0, 0, F9 (q.nx 1) [40, 40, 12, 17, 18], false, Xn (q.nx 2)⟩, Oy (q.nx 2)) := if_pos (.inl c)
theorem Wk (c : Af q 9 = 1) : LP w h n q = (⟨1, h, 0, 0, F9 (q.nx 1) [40, 40, 12, 17, 18], false, Xn (q.nx 2)⟩, Oy (q.nx 2)) := if_pos (.inr c)
theorem HQ (c : Af q 9 = 2 ∨ Af q 9 = 3 ∨ Af q 9 = 4) : LP w h n q = (⟨2, h, Af (q.nx 1) w.hosts.length, n, F9 (q.nx 2) [40, 40, 40, 3, 9, 13, 14, 15, 16, 17, 18], decide (Af (q.nx 3) 6 = 0), T9⟩, q.nx 4) := by unfold LP; rw [if_neg (by omega), if_pos c]
theorem Wl (c : Af q 9 = 5) : LP w h n q = (⟨3, h, 0, n, 0, decide (Af (q.nx 1) 2 = 0), T9⟩, q.nx 2) := by unfold LP; rw [if_neg (by omega), if_neg (by omega), if_pos c]
theorem Wm (c : Af q 9 = 6) : LP w h n q = (⟨4, h, 0, 0, 0, false, T9⟩, q.nx 1) := by unfold LP; rw [if_neg (by omega), if_neg (by omega), if_neg (by omega), if_pos c]
theorem Wn (c : Af q 9 = 7) : LP w h n q = (⟨F9 (q.nx 1) [0, 6, 5], 0, 0, F9 (q.nx 2) [1, 40, 0, 41], 0, false, T9⟩, q.nx 3) := by unfold LP; rw [if_neg (by omega), if_neg (by omega), if_neg (by omega), if_neg (by omega), if_pos c]
theorem Wo (c : ¬ Af q 9 = 0 ∧ ¬ Af q 9 = 1 ∧ ¬ Af q 9 = 2 ∧ ¬ Af q 9 = 3 ∧ ¬ Af q 9 = 4 ∧ ¬ Af q 9 = 5 ∧ ¬ Af q 9 = 6 ∧ ¬ Af q 9 = 7) : LP w h n q = (⟨5, 0, 0, 1 + Af (q.nx 1) 12, 0, false, T9⟩, q.nx 2) := by unfold LP; rw [if_neg (by omega), if_neg (by omega), if_neg (by omega), if_neg (by omega), if_neg (by omega)]
theorem GU (a : ((Ph r w).length : Int) > 0) (b : Af (r.nx 2) 6 > 0) : CF r w = LP w (Af r w.hosts.length) ((Ph r w).getD (Af (r.nx 3) (Ph r w).length).toNat default).id (r.nx 4) := by unfold CF tl; rw [if_pos a, if_pos b]
theorem GV (a : ((Ph r w).length : Int) > 0) (b : ¬ Af (r.nx 2) 6 > 0) : CF r w = LP w (Af r w.hosts.length) (Af (r.nx 1) 4 + 1) (r.nx 3) := by unfold CF tl; rw [if_pos a, if_neg b]
theorem GW (a : ¬ ((Ph r w).length : Int) > 0) : CF r w = LP w (Af r w.hosts.length) (Af (r.nx 1) 4 + 1) (r.nx 2) := by unfold CF tl; rw [if_neg a]
end
theorem Ke : Ji T9 := ⟨⟨by show (0 : Nat) ≤ 1048576; decide, by show (0 : Nat) ≤ 1048576; decide⟩, ⟨by show ((0 : Nat) : Int) ≤ 1048576; decide, fun _ q => by cases q⟩, ⟨by show ((0 : Nat) : Int) ≤ 1048576; decide, fun _ q => by cases q⟩⟩
theorem Qd {w : Wd} {h n : Int} {q : Rd} (h0 : 0 ≤ q.p) (h1 : q.p ≤ 999990000) : Zi (LP w h n q).1 ∧ (LP w h n q).2.b = q.b ∧ q.p ≤ (LP w h n q).2.p ∧ (LP w h n q).2.p ≤ q.p + 30 := by
 have hm := jD (r := q.nx 2) (by rw [AJ]; omega) (by rw [AJ]; omega)
 rw [AJ, Bs] at hm
 have hk := NC (r := q.nx 2) (by rw [AJ]; omega) (by rw [AJ]; omega)
 have g1 : 0 ≤ F9 (q.nx 1) [40, 40, 12, 17, 18] ∧ F9 (q.nx 1) [40, 40, 12, 17, 18] ≤ 1000 := by
  have z := JZ (r := q.nx 1) (l := [40, 40, 12, 17, 18]) (by rw [AJ]; omega) (by rw [AJ]; omega) (by decide)
  simp only [List.mem_cons, List.not_mem_nil, or_false] at z
  omega
 have g2 : 0 ≤ F9 (q.nx 2) [40, 40, 40, 3, 9, 13, 14, 15, 16, 17, 18] ∧ F9 (q.nx 2) [40, 40, 40, 3, 9, 13, 14, 15, 16, 17, 18] ≤ 1000 := by
  have z := JZ (r := q.nx 2) (l := [40, 40, 40, 3, 9, 13, 14, 15, 16, 17, 18]) (by rw [AJ]; omega) (by rw [AJ]; omega) (by decide)
  simp only [List.mem_cons, List.not_mem_nil, or_false] at z
  omega
 unfold LP
 split
 ·exact ⟨⟨JM hk, g1⟩, hm.1, by dsimp only; omega, by dsimp only; omega⟩
 ·split
  ·exact ⟨⟨Ke, g2⟩, Bs .., by dsimp only; rw [AJ]; omega, by dsimp only; rw [AJ]; omega⟩
  ·split
   ·exact ⟨⟨Ke, by show (0 : Int) ≤ 0; decide, by show (0 : Int) ≤ 1000; decide⟩, Bs .., by dsimp only; rw [AJ]; omega, by dsimp only; rw [AJ]; omega⟩
   ·split
    ·exact ⟨⟨Ke, by show (0 : Int) ≤ 0; decide, by show (0 : Int) ≤ 1000; decide⟩, Bs .., by dsimp only; rw [AJ]; omega, by dsimp only; rw [AJ]; omega⟩
    ·split
     ·exact ⟨⟨Ke, by show (0 : Int) ≤ 0; decide, by show (0 : Int) ≤ 1000; decide⟩, Bs .., by dsimp only; rw [AJ]; omega, by dsimp only; rw [AJ]; omega⟩
     ·exact ⟨⟨Ke, by show (0 : Int) ≤ 0; decide, by show (0 : Int) ≤ 1000; decide⟩, Bs .., by dsimp only; rw [AJ]; omega, by dsimp only; rw [AJ]; omega⟩
theorem Wi {r : Rd} {w : Wd} (h0 : 0 ≤ r.p) (h1 : r.p ≤ 999980000) : Zi (CF r w).1 ∧ (CF r w).2.b = r.b ∧ r.p ≤ (CF r w).2.p ∧ (CF r w).2.p ≤ r.p + 34 := by
 by_cases a0 : ((Ph r w).length : Int) > 0
 ·by_cases a1 : Af (r.nx 2) 6 > 0
  ·rw [GU a0 a1]
   have z := Qd (w := w) (h := Af r w.hosts.length) (n := ((Ph r w).getD (Af (r.nx 3) (Ph r w).length).toNat default).id) (q := r.nx 4) (by rw [AJ]; omega) (by rw [AJ]; omega)
   rw [AJ, Bs] at z
   exact ⟨z.1, z.2.1, by omega, by omega⟩
  ·rw [GV a0 a1]
   have z := Qd (w := w) (h := Af r w.hosts.length) (n := Af (r.nx 1) 4 + 1) (q := r.nx 3) (by rw [AJ]; omega) (by rw [AJ]; omega)
   rw [AJ, Bs] at z
   exact ⟨z.1, z.2.1, by omega, by omega⟩
 ·rw [GW a0]
  have z := Qd (w := w) (h := Af r w.hosts.length) (n := Af (r.nx 1) 4 + 1) (q := r.nx 2) (by rw [AJ]; omega) (by rw [AJ]; omega)
  rw [AJ, Bs] at z
  exact ⟨z.1, z.2.1, by omega, by omega⟩
def lz : Mt := GL (lc Dx (lc gk.ag l0)) (fun p => (0 ≤ p.1.p ∧ p.1.p ≤ 999970000) ∧ 1 ≤ p.2.1.hosts.length ∧ p.2.1.hosts.length ≤ 1000) (fun p => ([Dx.enc (CF p.1 p.2.1).2, gk.ag.enc p.2.1], Pn.ag.enc (CF p.1 p.2.1).1))
section
attribute [local go_sem] Gj Tb Va AJ Bs A9 BF BP Bc CQ Bf Bh A1 lm List.length_append List.length_cons List.length_nil List.map_append List.map_nil Nat.zero_add List.nil_append AS.opn AS.cls AS.nilb AS.renb AS.up Bool.not_false Bool.not_true List.set_set List.set_cons_zero List.set_cons_succ List.set_nil List.mem_singleton forall_eq FU IC ID IE EY EZ
set_option maxHeartbeats 6400000 in
theorem dX {G : Gt} (hG : Aj G) (hh : G.e 71 = AN Gj ∧ G.e 24 = AN Tb ∧ G.e 189 = AN Va) : Gd G 205 (AN lz) := by
 refine Ik (dp := fun _ => true) (fn := Tryz.f205) (n := 2) rfl hG ?_
 rintro ⟨r, w, ⟨⟩⟩ hpre
 obtain ⟨⟨h1, h2⟩, hl1, hl2⟩ := hpre
 try dsimp only at h1 h2 hl1 hl2 ⊢
 have hb := Bd (r := r) (n := w.hosts.length) h1 (by omega)
 have hb3 : ((Ph r w).length : Int) > 0 → 0 ≤ Af (r.nx 3) (Ph r w).length ∧ Af (r.nx 3) (Ph r w).length < (Ph r w).length := fun q => by
  have z := Bd (r := r.nx 3) (n := (Ph r w).length) (by rw [AJ]; omega) (by rw [AJ]; omega)
  exact ⟨z.1, z.2 (by omega)⟩
 have ht : ∀ k : Int, 0 ≤ k → k ≤ 9 → 0 ≤ Af (r.nx k) 12 ∧ Af (r.nx k) 12 < 12 := fun k a b => by
  have z := Bd (r := r.nx k) (n := 12) (by rw [AJ]; omega) (by rw [AJ]; omega)
  exact ⟨z.1, z.2 (by decide)⟩
 have ht3 := ht 3 (by decide) (by decide)
 have ht4 := ht 4 (by decide) (by decide)
 have ht5 := ht 5 (by decide) (by decide)
 have hb1 := Bd (r := r.nx 1) (n := 4) (by rw [AJ]; omega) (by rw [AJ]; omega)
 refine BQ (((Ph r w).length : Int) > 0) (fun a0 => BQ (Af (r.nx 2) 6 > 0) (fun a1 => BQ (Af (r.nx 4) 9 = 0) (fun c0 => have e_ : CF r w = _ := (GU a0 a1).trans (Wj c0); have c1 := tv; have c2 := tv; have c3 := tv; have c4 := tv; have c5 := tv; have c6 := tv; have c7 := tv; ?_) (fun c0 => BQ (Af (r.nx 4) 9 = 1) (fun c1 => have e_ : CF r w = _ := (GU a0 a1).trans (Wk c1); have c2 := tv; have c3 := tv; have c4 := tv; have c5 := tv; have c6 := tv; have c7 := tv; ?_) (fun c1 => BQ (Af (r.nx 4) 9 = 2) (fun c2 => have e_ : CF r w = _ := (GU a0 a1).trans (HQ (.inl c2)); have c3 := tv; have c4 := tv; have c5 := tv; have c6 := tv; have c7 := tv; ?_) (fun c2 => BQ (Af (r.nx 4) 9 = 3) (fun c3 => have e_ : CF r w = _ := (GU a0 a1).trans (HQ (.inr (.inl c3))); have c4 := tv; have c5 := tv; have c6 := tv; have c7 := tv; ?_) (fun c3 => BQ (Af (r.nx 4) 9 = 4) (fun c4 => have e_ : CF r w = _ := (GU a0 a1).trans (HQ (.inr (.inr c4))); have c5 := tv; have c6 := tv; have c7 := tv; ?_) (fun c4 => BQ (Af (r.nx 4) 9 = 5) (fun c5 => have e_ : CF r w = _ := (GU a0 a1).trans (Wl c5); have c6 := tv; have c7 := tv; ?_) (fun c5 => BQ (Af (r.nx 4) 9 = 6) (fun c6 => have e_ : CF r w = _ := (GU a0 a1).trans (Wm c6); have c7 := tv; ?_) (fun c6 => BQ (Af (r.nx 4) 9 = 7) (fun c7 => have e_ : CF r w = _ := (GU a0 a1).trans (Wn c7); ?_) (fun c7 => have e_ : CF r w = _ := (GU a0 a1).trans (Wo ⟨c0, c1, c2, c3, c4, c5, c6, c7⟩); ?_))))))))) (fun a1 => BQ (Af (r.nx 3) 9 = 0) (fun c0 => have e_ : CF r w = _ := (GV a0 a1).trans (Wj c0); have c1 := tv; have c2 := tv; have c3 := tv; have c4 := tv; have c5 := tv; have c6 := tv; have c7 := tv; ?_) (fun c0 => BQ (Af (r.nx 3) 9 = 1) (fun c1 => have e_ : CF r w = _ := (GV a0 a1).trans (Wk c1); have c2 := tv; have c3 := tv; have c4 := tv; have c5 := tv; have c6 := tv; have c7 := tv; ?_) (fun c1 => BQ (Af (r.nx 3) 9 = 2) (fun c2 => have e_ : CF r w = _ := (GV a0 a1).trans (HQ (.inl c2)); have c3 := tv; have c4 := tv; have c5 := tv; have c6 := tv; have c7 := tv; ?_) (fun c2 => BQ (Af (r.nx 3) 9 = 3) (fun c3 => have e_ : CF r w = _ := (GV a0 a1).trans (HQ (.inr (.inl c3))); have c4 := tv; have c5 := tv; have c6 := tv; have c7 := tv; ?_) (fun c3 => BQ (Af (r.nx 3) 9 = 4) (fun c4 => have e_ : CF r w = _ := (GV a0 a1).trans (HQ (.inr (.inr c4))); have c5 := tv; have c6 := tv; have c7 := tv; ?_) (fun c4 => BQ (Af (r.nx 3) 9 = 5) (fun c5 => have e_ : CF r w = _ := (GV a0 a1).trans (Wl c5); have c6 := tv; have c7 := tv; ?_) (fun c5 => BQ (Af (r.nx 3) 9 = 6) (fun c6 => have e_ : CF r w = _ := (GV a0 a1).trans (Wm c6); have c7 := tv; ?_) (fun c6 => BQ (Af (r.nx 3) 9 = 7) (fun c7 => have e_ : CF r w = _ := (GV a0 a1).trans (Wn c7); ?_) (fun c7 => have e_ : CF r w = _ := (GV a0 a1).trans (Wo ⟨c0, c1, c2, c3, c4, c5, c6, c7⟩); ?_)))))))))) (fun a0 => BQ (Af (r.nx 2) 9 = 0) (fun c0 => have e_ : CF r w = _ := (GW a0).trans (Wj c0); have a1 := tv; have c1 := tv; have c2 := tv; have c3 := tv; have c4 := tv; have c5 := tv; have c6 := tv; have c7 := tv; ?_) (fun c0 => BQ (Af (r.nx 2) 9 = 1) (fun c1 => have e_ : CF r w = _ := (GW a0).trans (Wk c1); have a1 := tv; have c2 := tv; have c3 := tv; have c4 := tv; have c5 := tv; have c6 := tv; have c7 := tv; ?_) (fun c1 => BQ (Af (r.nx 2) 9 = 2) (fun c2 => have e_ : CF r w = _ := (GW a0).trans (HQ (.inl c2)); have a1 := tv; have c3 := tv; have c4 := tv; have c5 := tv; have c6 := tv; have c7 := tv; ?_) (fun c2 => BQ (Af (r.nx 2) 9 = 3) (fun c3 => have e_ : CF r w = _ := (GW a0).trans (HQ (.inr (.inl c3))); have a1 := tv; have c4 := tv; have c5 := tv; have c6 := tv; have c7 := tv; ?_) (fun c3 => BQ (Af (r.nx 2) 9 = 4) (fun c4 => have e_ : CF r w = _ := (GW a0).trans (HQ (.inr (.inr c4))); have a1 := tv; have c5 := tv; have c6 := tv; have c7 := tv; ?_) (fun c4 => BQ (Af (r.nx 2) 9 = 5) (fun c5 => have e_ : CF r w = _ := (GW a0).trans (Wl c5); have a1 := tv; have c6 := tv; have c7 := tv; ?_) (fun c5 => BQ (Af (r.nx 2) 9 = 6) (fun c6 => have e_ : CF r w = _ := (GW a0).trans (Wm c6); have a1 := tv; have c7 := tv; ?_) (fun c6 => BQ (Af (r.nx 2) 9 = 7) (fun c7 => have e_ : CF r w = _ := (GW a0).trans (Wn c7); have a1 := tv; ?_) (fun c7 => have e_ : CF r w = _ := (GW a0).trans (Wo ⟨c0, c1, c2, c3, c4, c5, c6, c7⟩); have a1 := tv; ?_)))))))))
 all_goals
  try rw [e_]
  simp -implicitDefEqProofs only [Tryz.f205, a0, a1, c0, c1, c2, c3, c4, c5, c6, c7, T9, eq_self, decide_true, decide_false, Int.reduceEq, go_sem, hh, Int.reduceAdd, seval]
  with_reducible repeat' (first | apply ai | intro _ | ((first | apply s1 | apply s3 | apply s4) <;> intro hb <;> simp -implicitDefEqProofs only [hb, go_sem, hh, Int.reduceAdd, seval] <;> try simp only [qz] at hb))
  all_goals (try simp only [maxLen, tn, AJ, Bs] at *)
  all_goals first | rfl | omega | decide | with_reducible assumption | (show AT _ = true; rfl) | exact HX (by assumption) | contradiction | exact (hb3 a0).1 | exact (hb3 a0).2 | (rename_i q; simp only [List.mem_cons, List.not_mem_nil, or_false] at q ⊢; omega) | skip
end
theorem Pt {N : Nat} {w : Wd} (q : HG N w) (h : N ≤ 1048576) : Zn w := ⟨⟨by have := q.2.1.2; omega, fun x hx => Df (q.1 x hx).1 (q.1 x hx).2 h⟩, ⟨by have := q.2.2.2.2.1; omega, q.2.2.2.2.2⟩⟩
abbrev Uo := Rd × Wd × List Ev
open Classical in
noncomputable def Wp (x : Uo) : Uo :=
 if (Eb x.2.1 (CF x.1 x.2.1).1).2 = true then ((CF x.1 x.2.1).2, (Eb x.2.1 (CF x.1 x.2.1).1).1, x.2.2 ++ [(CF x.1 x.2.1).1])
 else if Af (CF x.1 x.2.1).2 6 > 0 then ((CF x.1 x.2.1).2.nx 1, x.2.1, x.2.2)
 else ((CF x.1 x.2.1).2.nx 1, (Eb x.2.1 (CF x.1 x.2.1).1).1, x.2.2 ++ [(CF x.1 x.2.1).1])
theorem io {r : Rd} {w : Wd} {l : List Ev} (h : (Eb w (CF r w).1).2 = true) : Wp (r, w, l) = ((CF r w).2, (Eb w (CF r w).1).1, l ++ [(CF r w).1]) := if_pos h
theorem im {r : Rd} {w : Wd} {l : List Ev} (h : (Eb w (CF r w).1).2 = false) (c : Af (CF r w).2 6 > 0) : Wp (r, w, l) = ((CF r w).2.nx 1, w, l) := by
 unfold Wp; rw [if_neg (by show ¬ (Eb w (CF r w).1).2 = true; rw [h]; exact Bool.false_ne_true), if_pos c]
theorem il {r : Rd} {w : Wd} {l : List Ev} (h : (Eb w (CF r w).1).2 = false) (c : ¬ Af (CF r w).2 6 > 0) : Wp (r, w, l) = ((CF r w).2.nx 1, (Eb w (CF r w).1).1, l ++ [(CF r w).1]) := by
 unfold Wp; rw [if_neg (by show ¬ (Eb w (CF r w).1).2 = true; rw [h]; exact Bool.false_ne_true), if_neg c]
noncomputable def Mz : Nat → Uo → Uo
 | 0, x => x
 | n + 1, x => Mz n (Wp x)
def sC (k : Nat) (p : Int) (x : Uo) : Prop := HG (40 * k) x.2.1 ∧ p ≤ x.1.p ∧ x.1.p ≤ p + 40 * k ∧ x.2.2.length ≤ k ∧ ∀ e ∈ x.2.2, Zi e
theorem SE {k : Nat} {p : Int} {x : Uo} (q : sC k p x) (hk : k ≤ 1000) (h0 : 0 ≤ p) (h1 : p ≤ 999900000) : sC (k + 1) p (Wp x) := by
 obtain ⟨r, w, l⟩ := x
 obtain ⟨q1, q2, q3, q4, q5⟩ := q
 dsimp only at q1 q2 q3 q4 q5
 obtain ⟨z1, z2, z3, z4⟩ := Wi (r := r) (w := w) (by omega) (by omega)
 have zw : HG (40 * (k + 1)) (Eb w (CF r w).1).1 := by rw [Nat.mul_succ]; exact WK q1 (by omega)
 have zl : ∀ e ∈ l ++ [(CF r w).1], Zi e := fun e he => by
  rcases List.mem_append.1 he with he | he
  ·exact q5 e he
  ·rw [List.mem_singleton] at he; subst he; exact z1
 have zn : (l ++ [(CF r w).1]).length ≤ k + 1 := by rw [List.length_append]; show l.length + 1 ≤ k + 1; omega
 cases hd : (Eb w (CF r w).1).2
 ·by_cases c : Af (CF r w).2 6 > 0
  ·rw [im hd c]; exact ⟨BG q1 (by omega), by dsimp only; rw [AJ]; omega, by dsimp only; rw [AJ]; omega, by dsimp only; omega, q5⟩
  ·rw [il hd c]; exact ⟨zw, by dsimp only; rw [AJ]; omega, by dsimp only; rw [AJ]; omega, zn, zl⟩
 ·rw [io hd]; exact ⟨zw, by dsimp only; omega, by dsimp only; omega, zn, zl⟩
theorem Wq {p : Int} (h0 : 0 ≤ p) (h1 : p ≤ 999900000) : ∀ (n : Nat) {k : Nat} {x : Uo}, sC k p x → k + n ≤ 1000 → sC (k + n) p (Mz n x)
 | 0, k, x, q, _ => q
 | n + 1, k, x, q, h => by
   have e : k + (n + 1) = k + 1 + n := by omega
   rw [e]
   exact Wq h0 h1 n (SE q (by omega) h0 h1) (by omega)
theorem Qf {n i : Nat} {x : Uo} (h : i < n) : Mz (n - i) x = Mz (n - (i + 1)) (Wp x) := by
 have e : n - i = (n - (i + 1)) + 1 := by omega
 rw [e]; rfl
theorem ik {r : Rd} {cs : List Cf} (h : Pj cs) : sC 0 r.p (r, FC cs, []) := ⟨Pk h, Int.le_refl _, by dsimp only; omega, Nat.le_refl _, fun _ q => by cases q⟩
noncomputable def Od (r : Rd) (cs : List Cf) (m : Int) : Uo := Mz m.toNat (r, FC cs, [])
theorem JS (r : Rd) : Pj (DX r) := by
 have e : E0 (Af r 5) = DX r := rfl
 obtain ⟨h1, h2⟩ := R5 (Af r 5)
 obtain ⟨_, h3, h4⟩ := Mn (Af r 5)
 have h5 := a9 (Af r 5)
 rw [e] at h1 h4 h5
 exact ⟨⟨by omega, fun c hc => RY (h1 c hc)⟩, h1, h5⟩
def lr : Mt := GL (lc Dx (lc IZ.asl (lc A6 l0))) (fun p => (0 ≤ p.1.p ∧ p.1.p ≤ 999800000) ∧ Pj p.2.1 ∧ 0 ≤ p.2.2.1 ∧ p.2.2.1 ≤ 1000) (fun p => ([Dx.enc (Od p.1 p.2.1 p.2.2.1).1, IZ.asl.enc p.2.1, A6.enc p.2.2.1], .o false 10 ((Od p.1 p.2.1 p.2.2.1).2.2.map Cs)))
section
attribute [local go_sem] Gj VY lz VT VZ AJ Bs A9 BF BP Bc CQ Bf Bh A1 lm List.length_append List.length_cons List.length_nil List.map_append List.map_nil Nat.zero_add List.nil_append AS.opn AS.cls AS.nilb AS.renb AS.up Bool.not_false Bool.not_true List.set_set List.set_cons_zero List.set_cons_succ List.set_nil List.mem_singleton forall_eq Nc J2 H6 Fl Fk Gv.eq_1 CN Ab
set_option maxHeartbeats 6400000 in
theorem dO {G : Gt} (hG : Aj G) (hh : G.e 71 = AN Gj ∧ G.e 187 = AA 1 VY ∧ G.e 205 = AN lz ∧ G.e 158 = AA 1 VT ∧ G.e 188 = AN VZ) : Gd G 186 (AN lr) := by
 refine Ik (dp := fun n => !(Nat.beq n 100002 || Nat.beq n 100005 || Nat.beq n 15 || Nat.beq n 41 || Nat.beq n 42)) (fn := Tryz.f186) (n := 3) rfl hG ?_
 rintro ⟨r, cs, m, ⟨⟩⟩ hpre
 obtain ⟨⟨h1, h2⟩, hc, hm0, hm1⟩ := hpre
 try dsimp only at h1 h2 hc hm0 hm1 ⊢
 simp -implicitDefEqProofs only [Tryz.f186, go_sem, hh, Int.reduceAdd, seval]
 with_reducible repeat' (first | apply ai | intro _ | ((first | apply s1 | apply s3 | apply s4) <;> intro hb <;> simp -implicitDefEqProofs only [hb, go_sem, hh, Int.reduceAdd, seval] <;> try simp only [qz] at hb))
 all_goals first | with_reducible rfl | omega | with_reducible assumption | (show _ = true; rfl) | contradiction | decide | skip
 refine Ak (Le.frzL [1014, 2014]) (AW ?_)
 simp -implicitDefEqProofs only [go_sem, hh, Int.reduceAdd, seval]
 with_reducible repeat' (first | apply ai | intro _ | ((first | apply s1 | apply s3 | apply s4) <;> intro hb <;> simp -implicitDefEqProofs only [hb, go_sem, hh, Int.reduceAdd, seval] <;> try simp only [qz] at hb))
 all_goals first | with_reducible rfl | omega | with_reducible assumption | (show _ = true; rfl) | contradiction | decide | skip
 refine AF [(8, 908, false, 10)] (ι := {p : Nat × Uo // p.1 ≤ m.toNat ∧ sC p.1 r.p p.2 ∧ Mz (m.toNat - p.1) p.2 = Od r cs m}) (fun p => ⟨[(0, .pb 1900 0), (2, .t (.v (.int .i64 m))), (7, .pb 1007 0), (8, .h 908), (9, .t (.v (.int .i64 p.1.1)))], [(1900, some (.box [.t (.sl 1 (p.1.2.1.b.map CO)), .t (.v (.int .i64 p.1.2.1.p))])), (1007, some (.box [.t (.sl 7 (p.1.2.2.1.hosts.map Ao)), .t (.v (.int .i64 p.1.2.2.1.now)), .t (.v (.int .i64 p.1.2.2.1.marks)), .t (.sl 3 (p.1.2.2.1.given.map Ay))])), (908, some (.arr false 10 (p.1.2.2.2.map Cs)))]⟩) (fun p => m.toNat - p.1.1) ⟨(0, (r, FC cs, [])), Nat.zero_le _, ik hc, rfl⟩ rfl ?_ ?_
 ·simp -implicitDefEqProofs only [go_sem, hh, Int.reduceAdd, seval]
  first | (simp; done) | skip
 ·rintro ⟨⟨i, q, w, l⟩, hi, hx, hv⟩
  dsimp only at hi hx hv
  have hxw := BG (M := 1000000) hx.1 (by omega)
  have hxl : 1 ≤ w.hosts.length ∧ w.hosts.length ≤ 4 := hx.1.2.1
  have hxo := Pt hx.1 (by omega)
  have hxp : r.p ≤ q.p ∧ q.p ≤ r.p + 40 * i := ⟨hx.2.1, hx.2.2.1⟩
  have hxn : l.length ≤ i := hx.2.2.2.1
  obtain ⟨z1, z2, z3, z4⟩ := Wi (r := q) (w := w) (by omega) (by omega)
  by_cases hlt : i < m.toNat
  ·have hlt2 : (i : Int) < m := by omega
   cases hd : (Eb w (CF q w).1).2
   ·by_cases hp : Af (CF q w).2 6 > 0
    ·simp -implicitDefEqProofs only [hlt2, hd, hp, Bool.not_false, Bool.not_true, eq_self, decide_true, decide_false, go_sem, hh, Int.reduceAdd, seval]
     with_reducible repeat' (first | apply ai | intro _ | ((first | apply s1 | apply s3 | apply s4) <;> intro hb <;> simp -implicitDefEqProofs only [hb, go_sem, hh, Int.reduceAdd, seval] <;> try simp only [qz] at hb))
     all_goals (try simp only [maxLen, tn, lm] at *)
     all_goals first | with_reducible rfl | omega | with_reducible assumption | (show _ = true; rfl) | contradiction | decide | exact ⟨hxw, z1⟩ | skip
     refine AW ?_
     simp -implicitDefEqProofs only [go_sem, hh, Int.reduceAdd, seval]
     with_reducible repeat' (first | apply ai | intro _ | ((first | apply s1 | apply s3 | apply s4) <;> intro hb <;> simp -implicitDefEqProofs only [hb, go_sem, hh, Int.reduceAdd, seval] <;> try simp only [qz] at hb))
     all_goals first | with_reducible rfl | omega | with_reducible assumption | (show _ = true; rfl) | contradiction | decide | skip
     refine ⟨⟨(i + 1, Wp (q, w, l)), by dsimp only; omega, SE hx (by omega) h1 (by omega), (Qf hlt).symm.trans hv⟩, by dsimp only; omega, ?_⟩
     simp -implicitDefEqProofs only [go_sem, hh, Int.reduceAdd, seval]
     simp only [im hd hp, AJ, Bs]
     first | (simp; done) | skip
    ·simp -implicitDefEqProofs only [hlt2, hd, hp, Bool.not_false, Bool.not_true, eq_self, decide_true, decide_false, go_sem, hh, Int.reduceAdd, seval]
     with_reducible repeat' (first | apply ai | intro _ | ((first | apply s1 | apply s3 | apply s4) <;> intro hb <;> simp -implicitDefEqProofs only [hb, go_sem, hh, Int.reduceAdd, seval] <;> try simp only [qz] at hb))
     all_goals (try simp only [maxLen, tn, lm] at *)
     all_goals first | with_reducible rfl | omega | with_reducible assumption | (show _ = true; rfl) | contradiction | decide | exact ⟨hxw, z1⟩ | skip
     refine Ak (Le.frzL [1028, 2028]) (AW ?_)
     simp -implicitDefEqProofs only [go_sem, hh, Int.reduceAdd, seval]
     with_reducible repeat' (first | apply ai | intro _ | ((first | apply s1 | apply s3 | apply s4) <;> intro hb <;> simp -implicitDefEqProofs only [hb, go_sem, hh, Int.reduceAdd, seval] <;> try simp only [qz] at hb))
     all_goals first | with_reducible rfl | omega | with_reducible assumption | (show _ = true; rfl) | contradiction | decide | skip
     refine ⟨⟨(i + 1, Wp (q, w, l)), by dsimp only; omega, SE hx (by omega) h1 (by omega), (Qf hlt).symm.trans hv⟩, by dsimp only; omega, ?_⟩
     simp -implicitDefEqProofs only [go_sem, hh, Int.reduceAdd, seval]
     simp only [il hd hp, AJ, Bs]
     first | (simp [Cs]; done) | skip
   ·simp -implicitDefEqProofs only [hlt2, hd, Bool.not_false, Bool.not_true, eq_self, decide_true, decide_false, go_sem, hh, Int.reduceAdd, seval]
    with_reducible repeat' (first | apply ai | intro _ | ((first | apply s1 | apply s3 | apply s4) <;> intro hb <;> simp -implicitDefEqProofs only [hb, go_sem, hh, Int.reduceAdd, seval] <;> try simp only [qz] at hb))
    all_goals (try simp only [maxLen, tn, lm] at *)
    all_goals first | with_reducible rfl | omega | with_reducible assumption | (show _ = true; rfl) | contradiction | decide | exact ⟨hxw, z1⟩ | skip
    refine Ak (Le.frzL [1028, 2028]) (AW ?_)
    simp -implicitDefEqProofs only [go_sem, hh, Int.reduceAdd, seval]
    with_reducible repeat' (first | apply ai | intro _ | ((first | apply s1 | apply s3 | apply s4) <;> intro hb <;> simp -implicitDefEqProofs only [hb, go_sem, hh, Int.reduceAdd, seval] <;> try simp only [qz] at hb))
    all_goals first | with_reducible rfl | omega | with_reducible assumption | (show _ = true; rfl) | contradiction | decide | skip
    refine ⟨⟨(i + 1, Wp (q, w, l)), by dsimp only; omega, SE hx (by omega) h1 (by omega), (Qf hlt).symm.trans hv⟩, by dsimp only; omega, ?_⟩
    simp -implicitDefEqProofs only [go_sem, hh, Int.reduceAdd, seval]
    simp only [io hd, AJ, Bs]
    first | (simp [Cs]; done) | skip
  ·have hlt2 : ¬ (i : Int) < m := by omega
   have e0 : m.toNat - i = 0 := by omega
   rw [e0, Mz] at hv
   obtain ⟨rfl, rfl, rfl⟩ : q = (Od r cs m).1 ∧ w = (Od r cs m).2.1 ∧ l = (Od r cs m).2.2 := by rw [← hv]; exact ⟨rfl, rfl, rfl⟩
   simp -implicitDefEqProofs only [hlt2, eq_self, decide_true, decide_false, go_sem, hh, Int.reduceAdd, seval]
   with_reducible repeat' (first | apply ai | intro _ | ((first | apply s1 | apply s3 | apply s4) <;> intro hb <;> simp -implicitDefEqProofs only [hb, go_sem, hh, Int.reduceAdd, seval] <;> try simp only [qz] at hb))
   all_goals (try simp only [maxLen, tn] at *)
   all_goals first | with_reducible rfl | omega | with_reducible assumption | (show _ = true; rfl) | contradiction | decide | skip
end
noncomputable def JB (r : Rd) : Uo := Od (r.nx 2) (DX r) (F9 (r.nx 1) [0, 12, 30, 60])
theorem u6 {r : Rd} (h : 0 ≤ r.p) (h1 : r.p ≤ 999999900) : 0 ≤ F9 (r.nx 1) [0, 12, 30, 60] ∧ F9 (r.nx 1) [0, 12, 30, 60] ≤ 60 := by
 have z := JZ (r := r.nx 1) (l := [0, 12, 30, 60]) (by rw [AJ]; omega) (by rw [AJ]; omega) (by decide)
 simp only [List.mem_cons, List.not_mem_nil, or_false] at z
 omega
theorem Sq {r : Rd} (h : 0 ≤ r.p) (h1 : r.p ≤ 999800000) : (∀ e ∈ (JB r).2.2, Zi e) ∧ (JB r).2.2.length ≤ 60 ∧ r.p ≤ (JB r).1.p ∧ (JB r).1.p ≤ r.p + 2500 := by
 have hm := u6 h (by omega)
 have z := Wq (p := (r.nx 2).p) (by rw [AJ]; omega) (by rw [AJ]; omega) (F9 (r.nx 1) [0, 12, 30, 60]).toNat (ik (r := r.nx 2) (JS r)) (by omega)
 obtain ⟨_, z2, z3, z4, z5⟩ := z
 rw [AJ] at z2 z3
 exact ⟨z5, Nat.le_trans z4 (by omega), by show r.p ≤ (Mz _ _).1.p; omega, by show (Mz _ _).1.p ≤ _; omega⟩
theorem oD (r : Rd) : Od (r.nx 2) (DX r) (F9 (r.nx 1) [0, 12, 30, 60]) = JB r := rfl
noncomputable def Dw (r : Rd) : Wd := u4 (DX r) (JB r).2.2
theorem vw (r : Rd) : u4 (DX r) (JB r).2.2 = Dw r := rfl
theorem K9 (r : Rd) : HG 1600 (Dw r) := u5 (JS r) _
def lV : Mt := GL (lc Dx l0) (fun p => 0 ≤ p.1.p ∧ p.1.p ≤ 999700000) (fun p => ([Dx.enc (JB p.1).1], .tup [.t (.sl 3 ((DX p.1).map Cr)), .o false 10 ((JB p.1).2.2.map Cs)]))
section
attribute [local go_sem] Tb VW lr AJ Bs A9 BF BP Bc CQ Bf Bh A1 lm List.length_append List.length_cons List.length_nil List.map_append List.map_nil Nat.zero_add List.nil_append AS.opn AS.cls AS.nilb AS.renb AS.up Bool.not_false Bool.not_true List.set_set List.set_cons_zero List.set_cons_succ List.set_nil List.mem_singleton forall_eq CN FU oD IC ID IE EY EZ
set_option maxHeartbeats 1600000 in
theorem cu {G : Gt} (hG : Aj G) (hh : G.e 24 = AN Tb ∧ G.e 172 = AN VW ∧ G.e 186 = AN lr) : Gd G 157 (AN lV) := by
 refine Ik (dp := fun n => !(Nat.beq n 100002)) (fn := Tryz.f157) (n := 1) rfl hG ?_
 rintro ⟨r, ⟨⟩⟩ hpre
 obtain ⟨h1, h2⟩ := hpre
 try dsimp only at h1 h2 ⊢
 have hm := u6 h1 (by omega)
 have hc := JS r
 simp -implicitDefEqProofs only [Tryz.f157, go_sem, hh, Int.reduceAdd, seval]
 with_reducible repeat' (first | apply ai | intro _ | ((first | apply s1 | apply s3 | apply s4) <;> intro hb <;> simp -implicitDefEqProofs only [hb, go_sem, hh, Int.reduceAdd, seval] <;> try simp only [qz] at hb))
 all_goals first | with_reducible rfl | omega | with_reducible assumption | (show _ = true; rfl) | contradiction | decide | skip
 refine Ak (Le.frzL [1006]) (AW ?_)
 simp -implicitDefEqProofs only [go_sem, hh, Int.reduceAdd, seval]
 with_reducible repeat' (first | apply ai | intro _ | ((first | apply s1 | apply s3 | apply s4) <;> intro hb <;> simp -implicitDefEqProofs only [hb, go_sem, hh, Int.reduceAdd, seval] <;> try simp only [qz] at hb))
 all_goals (try simp only [maxLen, tn] at *)
 all_goals first | with_reducible rfl | omega | with_reducible assumption | (show _ = true; rfl) | contradiction | decide | skip
end
def k9 : Mt := GL (lc Dx l0) (fun p => 0 ≤ p.1.p ∧ p.1.p ≤ 999600000) (fun p => ([Dx.enc (JB p.1).1], Hi (Dw p.1)))
section
attribute [local go_sem] lV lW VT AJ Bs A9 BF BP Bc CQ Bf Bh A1 lm List.length_append List.length_cons List.length_nil List.map_append List.map_nil Nat.zero_add List.nil_append AS.opn AS.cls AS.nilb AS.renb AS.up Bool.not_false Bool.not_true List.set_set List.set_cons_zero List.set_cons_succ List.set_nil List.mem_singleton forall_eq CN Nc vw
set_option maxHeartbeats 1600000 in
theorem cK {G : Gt} (hG : Aj G) (hh : G.e 157 = AN lV ∧ G.e 159 = AA 1 lW ∧ G.e 158 = AA 1 VT) : Gd G 111 (AN k9) := by
 refine Ik (dp := fun _ => true) (fn := Tryz.f111) (n := 1) rfl hG ?_
 rintro ⟨r, ⟨⟩⟩ hpre
 obtain ⟨h1, h2⟩ := hpre
 try dsimp only at h1 h2 ⊢
 have hc := JS r
 obtain ⟨he, hl, _, _⟩ := Sq h1 (by omega)
 have hw := Pt (K9 r) (by decide)
 simp -implicitDefEqProofs only [Tryz.f111, go_sem, hh, Int.reduceAdd, seval]
 with_reducible repeat' (first | apply ai | intro _ | ((first | apply s1 | apply s3 | apply s4) <;> intro hb <;> simp -implicitDefEqProofs only [hb, go_sem, hh, Int.reduceAdd, seval] <;> try simp only [qz] at hb))
 all_goals (try simp only [maxLen, tn] at *)
 all_goals first | with_reducible rfl | omega | with_reducible assumption | (show _ = true; rfl) | contradiction | decide | exact ⟨hc, he, by omega⟩ | exact he _ (by assumption) | skip
end
noncomputable def D7 (r : Rd) : Rd := (JB r).1
noncomputable def aU (r : Rd) : Int := Af (D7 r) (Dw r).hosts.length
noncomputable def FK (r : Rd) : Int := Af ((D7 r).nx 1) 14
noncomputable abbrev TW (r : Rd) : Hs := (Dw r).hosts.getD (aU r).toNat default
noncomputable def aw (r : Rd) : Wd × Rd :=
 if FK r = 0 then (⟨(Dw r).hosts.set (aU r).toNat ⟨(TW r).conf, (J0 ((D7 r).nx 2)).1, (TW r).boxes, (TW r).lost⟩, (Dw r).now, (Dw r).marks, (Dw r).given⟩, (J0 ((D7 r).nx 2)).2)
 else if FK r = 1 then (⟨(Dw r).hosts.set (aU r).toNat ⟨(B1 ((D7 r).nx 2)).1, (TW r).spool, (TW r).boxes, (TW r).lost⟩, (Dw r).now, (Dw r).marks, (Dw r).given⟩, (B1 ((D7 r).nx 2)).2)
 else if FK r = 2 then (⟨(Dw r).hosts, F9 ((D7 r).nx 2) [-1, 10000, 9990], (Dw r).marks, (Dw r).given⟩, (D7 r).nx 3)
 else if FK r = 3 then (⟨(Dw r).hosts, (Dw r).now, (Dw r).marks, (Dw r).given ++ [⟨Nq ((D7 r).nx 2) [⟨#[]⟩, ⟨#[73, 100, 58, 32, 57]⟩, ⟨#[73, 100, 58, 32]⟩], (CZ ((D7 r).nx 3)).1⟩]⟩, (CZ ((D7 r).nx 3)).2)
 else if FK r = 4 then (⟨[], (Dw r).now, (Dw r).marks, (Dw r).given⟩, (D7 r).nx 2)
 else (Dw r, (D7 r).nx 2)
section
variable {r : Rd}
theorem aV (c : FK r = 0) : aw r = (⟨(Dw r).hosts.set (aU r).toNat ⟨(TW r).conf, (J0 ((D7 r).nx 2)).1, (TW r).boxes, (TW r).lost⟩, (Dw r).now, (Dw r).marks, (Dw r).given⟩, (J0 ((D7 r).nx 2)).2) := if_pos c
theorem aW (c : FK r = 1) : aw r = (⟨(Dw r).hosts.set (aU r).toNat ⟨(B1 ((D7 r).nx 2)).1, (TW r).spool, (TW r).boxes, (TW r).lost⟩, (Dw r).now, (Dw r).marks, (Dw r).given⟩, (B1 ((D7 r).nx 2)).2) := by unfold aw; rw [if_neg (by omega), if_pos c]
theorem aX (c : FK r = 2) : aw r = (⟨(Dw r).hosts, F9 ((D7 r).nx 2) [-1, 10000, 9990], (Dw r).marks, (Dw r).given⟩, (D7 r).nx 3) := by unfold aw; rw [if_neg (by omega), if_neg (by omega), if_pos c]
theorem aY (c : FK r = 3) : aw r = (⟨(Dw r).hosts, (Dw r).now, (Dw r).marks, (Dw r).given ++ [⟨Nq ((D7 r).nx 2) [⟨#[]⟩, ⟨#[73, 100, 58, 32, 57]⟩, ⟨#[73, 100, 58, 32]⟩], (CZ ((D7 r).nx 3)).1⟩]⟩, (CZ ((D7 r).nx 3)).2) := by unfold aw; rw [if_neg (by omega), if_neg (by omega), if_neg (by omega), if_pos c]
theorem aZ (c : FK r = 4) : aw r = (⟨[], (Dw r).now, (Dw r).marks, (Dw r).given⟩, (D7 r).nx 2) := by unfold aw; rw [if_neg (by omega), if_neg (by omega), if_neg (by omega), if_neg (by omega), if_pos c]
theorem aa (c : ¬ FK r = 0 ∧ ¬ FK r = 1 ∧ ¬ FK r = 2 ∧ ¬ FK r = 3 ∧ ¬ FK r = 4) : aw r = (Dw r, (D7 r).nx 2) := by unfold aw; rw [if_neg (by omega), if_neg (by omega), if_neg (by omega), if_neg (by omega), if_neg (by omega)]
end
theorem s7 (r : Rd) : (JB r).1 = D7 r := rfl
theorem s6 (r : Rd) : Af (D7 r) (Dw r).hosts.length = aU r := rfl
theorem s5 (r : Rd) : Af ((D7 r).nx 1) 14 = FK r := rfl
theorem Rw {r : Rd} (h : 0 ≤ r.p) (h1 : r.p ≤ 999500000) : r.p ≤ (D7 r).p ∧ (D7 r).p ≤ r.p + 2500 := (Sq h (by omega)).2.2
theorem VH {r : Rd} (h : 0 ≤ r.p) (h1 : r.p ≤ 999500000) : 0 ≤ aU r ∧ aU r < (Dw r).hosts.length := by
 have hq := Rw h h1
 have hl := (K9 r).2.1
 have z := Bd (r := D7 r) (n := (Dw r).hosts.length) (by omega) (by omega)
 exact ⟨z.1, z.2 (by omega)⟩
def w4 : Mt := GL (lc Dx l0) (fun p => 0 ≤ p.1.p ∧ p.1.p ≤ 999500000) (fun p => ([Dx.enc (aw p.1).2], gk.ag.enc (aw p.1).1))
section
attribute [local go_sem] Gj Tb H9 k9 lA tG lB AJ Bs A9 BF BP Bc CQ Bf Bh A1 lm List.length_append List.length_cons List.length_nil List.map_append List.map_nil Nat.zero_add List.nil_append AS.opn AS.cls AS.nilb AS.renb AS.up Bool.not_false Bool.not_true List.set_set List.set_cons_zero List.set_cons_succ List.set_nil List.mem_singleton forall_eq s7 s6 s5 Nc FU Gl Ab BR Kv IC ID IE EY EZ
set_option maxHeartbeats 6400000 in
theorem pL {G : Gt} (hG : Aj G) (hh : G.e 71 = AN Gj ∧ G.e 24 = AN Tb ∧ G.e 113 = AN H9 ∧ G.e 111 = AN k9 ∧ G.e 112 = AN lA ∧ G.e 70 = AN tG ∧ G.e 114 = AN lB) : Gd G 51 (AN w4) := by
 refine Ik (dp := fun _ => true) (fn := Tryz.f51) (n := 1) rfl hG ?_
 rintro ⟨r, ⟨⟩⟩ hpre
 obtain ⟨h1, h2⟩ := hpre
 try dsimp only at h1 h2 ⊢
 have hq := Rw h1 (by omega)
 have hk := VH h1 (by omega)
 have hl := (K9 r).2.1
 have hg := (K9 r).2.2.2.2.1
 by_cases c0 : FK r = 0
 ·skip
  rw [aV c0]
  simp -implicitDefEqProofs only [Tryz.f51, c0, eq_self, decide_true, decide_false, Int.reduceEq, go_sem, hh, Int.reduceAdd, seval]
  with_reducible repeat' (first | apply ai | intro _ | ((first | apply s1 | apply s3 | apply s4) <;> intro hb <;> simp -implicitDefEqProofs only [hb, go_sem, hh, Int.reduceAdd, seval] <;> try simp only [qz] at hb))
  all_goals (try simp only [maxLen, tn] at *)
  all_goals first | with_reducible rfl | omega | with_reducible assumption | (show _ = true; rfl) | contradiction | decide | exact hk.1 | exact hk.2 | skip
 ·by_cases c1 : FK r = 1
  ·skip
   rw [aW c1]
   simp -implicitDefEqProofs only [Tryz.f51, c0, c1, eq_self, decide_true, decide_false, Int.reduceEq, go_sem, hh, Int.reduceAdd, seval]
   with_reducible repeat' (first | apply ai | intro _ | ((first | apply s1 | apply s3 | apply s4) <;> intro hb <;> simp -implicitDefEqProofs only [hb, go_sem, hh, Int.reduceAdd, seval] <;> try simp only [qz] at hb))
   all_goals (try simp only [maxLen, tn] at *)
   all_goals first | with_reducible rfl | omega | with_reducible assumption | (show _ = true; rfl) | contradiction | decide | exact hk.1 | exact hk.2 | skip
  ·by_cases c2 : FK r = 2
   ·skip
    rw [aX c2]
    simp -implicitDefEqProofs only [Tryz.f51, c0, c1, c2, eq_self, decide_true, decide_false, Int.reduceEq, go_sem, hh, Int.reduceAdd, seval]
    with_reducible repeat' (first | apply ai | intro _ | ((first | apply s1 | apply s3 | apply s4) <;> intro hb <;> simp -implicitDefEqProofs only [hb, go_sem, hh, Int.reduceAdd, seval] <;> try simp only [qz] at hb))
    all_goals (try simp only [maxLen, tn] at *)
    all_goals first | with_reducible rfl | omega | with_reducible assumption | (show _ = true; rfl) | contradiction | decide | exact hk.1 | exact hk.2 | skip
   ·by_cases c3 : FK r = 3
    ·skip
     rw [aY c3]
     simp -implicitDefEqProofs only [Tryz.f51, c0, c1, c2, c3, eq_self, decide_true, decide_false, Int.reduceEq, go_sem, hh, Int.reduceAdd, seval]
     with_reducible repeat' (first | apply ai | intro _ | ((first | apply s1 | apply s3 | apply s4) <;> intro hb <;> simp -implicitDefEqProofs only [hb, go_sem, hh, Int.reduceAdd, seval] <;> try simp only [qz] at hb))
     all_goals (try simp only [maxLen, tn] at *)
     all_goals first | with_reducible rfl | omega | with_reducible assumption | (show _ = true; rfl) | contradiction | decide | exact hk.1 | exact hk.2 | skip
    ·by_cases c4 : FK r = 4
     ·skip
      rw [aZ c4]
      simp -implicitDefEqProofs only [Tryz.f51, c0, c1, c2, c3, c4, eq_self, decide_true, decide_false, Int.reduceEq, go_sem, hh, Int.reduceAdd, seval]
      with_reducible repeat' (first | apply ai | intro _ | ((first | apply s1 | apply s3 | apply s4) <;> intro hb <;> simp -implicitDefEqProofs only [hb, go_sem, hh, Int.reduceAdd, seval] <;> try simp only [qz] at hb))
      all_goals (try simp only [maxLen, tn] at *)
      all_goals first | with_reducible rfl | omega | with_reducible assumption | (show _ = true; rfl) | contradiction | decide | exact hk.1 | exact hk.2 | skip
     ·skip
      rw [aa ⟨c0, c1, c2, c3, c4⟩]
      simp -implicitDefEqProofs only [Tryz.f51, c0, c1, c2, c3, c4, eq_self, decide_true, decide_false, Int.reduceEq, go_sem, hh, Int.reduceAdd, seval]
      with_reducible repeat' (first | apply ai | intro _ | ((first | apply s1 | apply s3 | apply s4) <;> intro hb <;> simp -implicitDefEqProofs only [hb, go_sem, hh, Int.reduceAdd, seval] <;> try simp only [qz] at hb))
      all_goals (try simp only [maxLen, tn] at *)
      all_goals first | with_reducible rfl | omega | with_reducible assumption | (show _ = true; rfl) | contradiction | decide | exact hk.1 | exact hk.2 | skip
end
theorem OG {r : Rd} (h : 0 ≤ r.p) (h1 : r.p ≤ 999999900) : FM (CZ r).1 ∧ (CZ r).2.b = r.b ∧ r.p + 3 ≤ (CZ r).2.p ∧ (CZ r).2.p ≤ r.p + 4 := by
 have z := By (.inl (H1 (r := r) h (by omega)))
 have key : ∀ (l : List ByteArray), 1 ≤ l.length → (∀ x ∈ l, x.size ≤ 1048576) → Bl (Nq (r.nx 3) l) := fun l hl q => q _ (HY (by rw [AJ]; omega) (by rw [AJ]; omega) hl)
 by_cases q0 : Af (r.nx 2) 10 = 0
 ·rw [Rl q0]
  exact ⟨⟨key _ (by decide) (by decide), z.2⟩, rfl, by rw [AJ]; omega, by rw [AJ]; omega⟩
 ·by_cases q1 : Af (r.nx 2) 10 = 1
  ·rw [Rm q0 q1]
   exact ⟨⟨z.1, key _ (by decide) (by decide)⟩, rfl, by rw [AJ]; omega, by rw [AJ]; omega⟩
  ·by_cases q2 : Af (r.nx 2) 10 = 2
   ·rw [Rn q0 q1 q2]
    exact ⟨By (.inr ⟨rfl, rfl⟩), rfl, by rw [AJ]; omega, by rw [AJ]; omega⟩
   ·rw [Rp q0 q1 q2]
    exact ⟨z, rfl, by rw [AJ]; omega, by rw [AJ]; omega⟩
theorem Vk {c : Cf} (h : OP c = true) : LK c ∧ c.own.length ≤ 10 ∧ c.ways.length ≤ 10 := by
 unfold OP at h
 simp only [Bool.and_eq_true, Nat.ble_eq, List.all_eq_true] at h
 obtain ⟨z1, z2, z3, z4, z5⟩ := h
 exact ⟨⟨by show c.name.size ≤ 1048576; omega, ⟨by omega, fun s hs => by have := z3 s hs; show s.size ≤ 1048576; omega⟩, ⟨by omega, fun w hw => ⟨by have := (z5 w hw).1; show w.ends.size ≤ 1048576; omega, by have := (z5 w hw).2; show w.to.size ≤ 1048576; omega⟩⟩⟩, z2, z4⟩
theorem xm {r : Rd} {l : List ByteArray} (h0 : 0 ≤ r.p) (h1 : r.p ≤ 1000000000) (hl : l.all (fun s => Nat.ble s.size 100) = true) (hn : 1 ≤ l.length) : Bl (Nq r l) := by
 have := List.all_eq_true.1 hl _ (HY h0 h1 hn)
 simp only [Nat.ble_eq] at this
 show (Nq r l).size ≤ 1048576
 omega
theorem OH {r : Rd} (h : 0 ≤ r.p) (h1 : r.p ≤ 999980000) : LK (B1 r).1 := by
 obtain ⟨z, z1, z2⟩ := Vk (iH h (show r.p ≤ 999999000 by omega))
 by_cases c0 : Af (r.nx 2) 10 = 0
 ·rw [Rq c0]; exact ⟨xm (by rw [AJ]; omega) (by rw [AJ]; omega) (by decide +kernel) (by decide), z.2.1, z.2.2⟩
 ·by_cases c1 : Af (r.nx 2) 10 = 1
  ·rw [Rr c1]
   refine ⟨z.1, ⟨by show ((_ ++ _ : List ByteArray).length : Int) ≤ _; rw [List.length_append]; simp; omega, fun s hs => ?_⟩, z.2.2⟩
   rcases List.mem_append.1 hs with hs | hs
   ·exact z.2.1.2 s hs
   ·simp only [List.mem_cons, List.not_mem_nil, or_false] at hs
    rcases hs with rfl | rfl <;> (show ByteArray.size _ ≤ 1048576; decide)
  ·by_cases c2 : Af (r.nx 2) 10 = 2
   ·rw [Rs c2]
    refine ⟨z.1, z.2.1, ⟨by show ((_ ++ _ : List Wy).length : Int) ≤ _; rw [List.length_append]; simp; omega, fun s hs => ?_⟩⟩
    rcases List.mem_append.1 hs with hs | hs
    ·exact z.2.2.2 s hs
    ·simp only [List.mem_singleton] at hs
     subst hs
     exact ⟨xm (by rw [AJ]; omega) (by rw [AJ]; omega) (by decide +kernel) (by decide), by show (⟨#[116, 119, 111, 46, 111, 114, 103]⟩ : ByteArray).size ≤ 1048576; decide⟩
   ·rw [Rt ⟨c0, c1, c2⟩]; exact z
theorem Re {α : Type} {P : α → Prop} {xs : List α} {i : Nat} {x : α} (h : GH P xs) (hx : P x) : GH P (xs.set i x) := ⟨by rw [List.length_set]; exact h.1, fun y hy => by
 rcases List.mem_or_eq_of_mem_set hy with hy | rfl
 ·exact h.2 y hy
 ·exact hx⟩
theorem iG {r : Rd} (h : 0 ≤ r.p) (h1 : r.p ≤ 999500000) : Zn (aw r).1 := by
 have hq := Rw h (by omega)
 have hk := VH h (by omega)
 have z := Pt (K9 r) (by decide)
 have hH : ET (TW r) := z.1.2 _ (AE (by omega))
 have p2 : ((D7 r).nx 2).p = (D7 r).p + 2 := AJ _ _
 have p3 : ((D7 r).nx 3).p = (D7 r).p + 3 := AJ _ _
 by_cases c0 : FK r = 0
 ·rw [aV c0]
  have q := (VD (r := (D7 r).nx 2) (by omega) (by omega)).1
  exact ⟨Re z.1 ⟨hH.1, q, hH.2.2⟩, z.2⟩
 ·by_cases c1 : FK r = 1
  ·rw [aW c1]
   have q := OH (r := (D7 r).nx 2) (by omega) (by omega)
   exact ⟨Re z.1 ⟨q, hH.2⟩, z.2⟩
  ·by_cases c2 : FK r = 2
   ·rw [aX c2]; exact z
   ·by_cases c3 : FK r = 3
    ·rw [aY c3]
     have hg := (K9 r).2.2.2.2.1
     have q := (OG (r := (D7 r).nx 3) (by omega) (by omega)).1
     refine ⟨z.1, ⟨by show ((_ ++ _ : List Ls).length : Int) ≤ _; rw [List.length_append]; simp; omega, fun l hl => ?_⟩⟩
     rcases List.mem_append.1 hl with hl | hl
     ·exact z.2.2 l hl
     ·simp only [List.mem_singleton] at hl
      subst hl
      exact ⟨xm (by omega) (by omega) (by decide +kernel) (by decide), q⟩
    ·by_cases c4 : FK r = 4
     ·rw [aZ c4]; exact ⟨⟨by show ((0 : Nat) : Int) ≤ _; decide, fun _ q => by cases q⟩, z.2⟩
     ·rw [aa ⟨c0, c1, c2, c3, c4⟩]; exact z
theorem Ru {r : Rd} : (B1 r).2.b = r.b ∧ r.p ≤ (B1 r).2.p ∧ (B1 r).2.p ≤ r.p + 4 := by
 unfold B1
 dsimp only
 repeat' split
 all_goals exact ⟨Bs .., by dsimp only; rw [AJ]; omega, by dsimp only; rw [AJ]; omega⟩
theorem kj {r : Rd} (h : 0 ≤ r.p) (h1 : r.p ≤ 999400000) : r.p ≤ (aw r).2.p ∧ (aw r).2.p ≤ r.p + 3000 := by
 have hq := Rw h (by omega)
 have p2 : ((D7 r).nx 2).p = (D7 r).p + 2 := AJ _ _
 have p3 : ((D7 r).nx 3).p = (D7 r).p + 3 := AJ _ _
 by_cases c0 : FK r = 0
 ·rw [aV c0]
  have q := (VD (r := (D7 r).nx 2) (by omega) (by omega)).2.2
  exact ⟨by show _ ≤ (J0 _).2.p; omega, by show (J0 _).2.p ≤ _; omega⟩
 ·by_cases c1 : FK r = 1
  ·rw [aW c1]
   have q := (Ru (r := (D7 r).nx 2)).2
   exact ⟨by show _ ≤ (B1 _).2.p; omega, by show (B1 _).2.p ≤ _; omega⟩
  ·by_cases c2 : FK r = 2
   ·rw [aX c2]; exact ⟨by dsimp only; omega, by dsimp only; omega⟩
   ·by_cases c3 : FK r = 3
    ·rw [aY c3]
     have q := (OG (r := (D7 r).nx 3) (by omega) (by omega)).2.2
     exact ⟨by show _ ≤ (CZ _).2.p; omega, by show (CZ _).2.p ≤ _; omega⟩
    ·by_cases c4 : FK r = 4
     ·rw [aZ c4]; exact ⟨by dsimp only; omega, by dsimp only; omega⟩
     ·rw [aa ⟨c0, c1, c2, c3, c4⟩]; exact ⟨by dsimp only; omega, by dsimp only; omega⟩
noncomputable def SL (r : Rd) : Hs × Rd :=
 if ((aw r).1.hosts.length : Int) = 0 then (EB (B1 (aw r).2).1, (B1 (aw r).2).2)
 else ((aw r).1.hosts.getD (Af (aw r).2 (aw r).1.hosts.length).toNat default, (aw r).2.nx 1)
theorem XC {r : Rd} (h : ((aw r).1.hosts.length : Int) = 0) : SL r = (EB (B1 (aw r).2).1, (B1 (aw r).2).2) := if_pos h
theorem XA {r : Rd} (h : ¬ ((aw r).1.hosts.length : Int) = 0) : SL r = ((aw r).1.hosts.getD (Af (aw r).2 (aw r).1.hosts.length).toNat default, (aw r).2.nx 1) := if_neg h
theorem XB {r : Rd} (h : 0 ≤ r.p) (h1 : r.p ≤ 999400000) : ET (SL r).1 ∧ r.p ≤ (SL r).2.p ∧ (SL r).2.p ≤ r.p + 3010 := by
 have z := iG h (by omega)
 have p := kj h h1
 by_cases c : ((aw r).1.hosts.length : Int) = 0
 ·rw [XC c]
  have q := OH (r := (aw r).2) (by omega) (by omega)
  have q2 := (Ru (r := (aw r).2)).2
  exact ⟨Xq q, by dsimp only; omega, by dsimp only; omega⟩
 ·rw [XA c]
  have b := Bd (r := (aw r).2) (n := (aw r).1.hosts.length) (by omega) (by omega)
  exact ⟨z.1.2 _ (AE (by have := b.2 (by omega); omega)), by dsimp only; rw [AJ]; omega, by dsimp only; rw [AJ]; omega⟩
def wo : Mt := GL (lc Dx l0) (fun p => 0 ≤ p.1.p ∧ p.1.p ≤ 999400000) (fun p => ([Dx.enc (SL p.1).2], FH.ag.enc (SL p.1).1))
section
attribute [local go_sem] Gj w4 tG AJ Bs A9 BF BP Bc CQ Bf Bh A1 lm List.length_append List.length_cons List.length_nil List.map_append List.map_nil Nat.zero_add List.nil_append AS.opn AS.cls AS.nilb AS.renb AS.up Bool.not_false Bool.not_true List.set_set List.set_cons_zero List.set_cons_succ List.set_nil List.mem_singleton forall_eq EB Ab IC ID IE EY EZ
set_option maxHeartbeats 1600000 in
theorem oY {G : Gt} (hG : Aj G) (hh : G.e 71 = AN Gj ∧ G.e 51 = AN w4 ∧ G.e 70 = AN tG) : Gd G 22 (AN wo) := by
 refine Ik (dp := fun _ => true) (fn := Tryz.f22) (n := 1) rfl hG ?_
 rintro ⟨r, ⟨⟩⟩ hpre
 obtain ⟨h1, h2⟩ := hpre
 try dsimp only at h1 h2 ⊢
 have p := kj h1 (by omega)
 have z := (iG h1 (by omega)).1.1
 by_cases c : ((aw r).1.hosts.length : Int) = 0
 ·rw [XC c]
  simp -implicitDefEqProofs only [Tryz.f22, c, eq_self, decide_true, decide_false, go_sem, hh, Int.reduceAdd, seval]
  with_reducible repeat' (first | apply ai | intro _ | ((first | apply s1 | apply s3 | apply s4) <;> intro hb <;> simp -implicitDefEqProofs only [hb, go_sem, hh, Int.reduceAdd, seval] <;> try simp only [qz] at hb))
  all_goals (try simp only [maxLen, tn] at *)
  all_goals first | with_reducible rfl | omega | with_reducible assumption | (show _ = true; rfl) | contradiction | decide | skip
 ·rw [XA c]
  have b := Bd (r := (aw r).2) (n := (aw r).1.hosts.length) (by omega) (by omega)
  simp -implicitDefEqProofs only [Tryz.f22, c, eq_self, decide_true, decide_false, go_sem, hh, Int.reduceAdd, seval]
  with_reducible repeat' (first | apply ai | intro _ | ((first | apply s1 | apply s3 | apply s4) <;> intro hb <;> simp -implicitDefEqProofs only [hb, go_sem, hh, Int.reduceAdd, seval] <;> try simp only [qz] at hb))
  all_goals (try simp only [maxLen, tn] at *)
  all_goals first | with_reducible rfl | omega | with_reducible assumption | (show _ = true; rfl) | contradiction | decide | exact b.1 | exact b.2 (by omega) | skip
end
theorem S1 {α : Type} [Inhabited α] {f : α → Int} {y : α} : ∀ {xs : List α} {i : Nat}, i < xs.length → Bt f (xs.set i y) + f (xs.getD i default) = Bt f xs + f y
 | [], i, h => absurd h (Nat.not_lt_zero _)
 | x :: r, 0, _ => by show f y + Bt f r + f x = f x + Bt f r + f y; omega
 | x :: r, i + 1, h => by
   have z := S1 (f := f) (y := y) (xs := r) (i := i) (Nat.lt_of_succ_lt_succ h)
   show f x + Bt f (r.set i y) + f (r.getD i default) = f x + Bt f r + f y
   omega
theorem Fi {α : Type} (N : α → Int) : ∀ xs ys : List α, Bt N (xs ++ ys) = Bt N xs + Bt N ys
 | [], ys => by show _ = 0 + _; rw [Int.zero_add]; rfl
 | x :: r, ys => by show N x + Bt N (r ++ ys) = N x + Bt N r + Bt N ys; rw [Fi N r ys]; omega
theorem uR {r : Rd} (h : 0 ≤ r.p) (h1 : r.p ≤ 999400000) : ES 1600 (SL r).1 := by
 have hk := VH h (by omega)
 have z := K9 r
 have hH := (z.1 _ (AE (xs := (Dw r).hosts) (j := (aU r).toNat) (by omega))).2
 have key : ∀ x ∈ (aw r).1.hosts, ES 1600 x := by
  by_cases c0 : FK r = 0
  ·rw [aV c0]
   intro x hx
   rcases List.mem_or_eq_of_mem_set hx with hx | rfl
   ·exact (z.1 x hx).2
   ·exact hH
  ·by_cases c1 : FK r = 1
   ·rw [aW c1]
    intro x hx
    rcases List.mem_or_eq_of_mem_set hx with hx | rfl
    ·exact (z.1 x hx).2
    ·exact hH
   ·by_cases c2 : FK r = 2
    ·rw [aX c2]; exact fun x hx => (z.1 x hx).2
    ·by_cases c3 : FK r = 3
     ·rw [aY c3]; exact fun x hx => (z.1 x hx).2
     ·by_cases c4 : FK r = 4
      ·rw [aZ c4]; intro x hx; cases hx
      ·rw [aa ⟨c0, c1, c2, c3, c4⟩]; exact fun x hx => (z.1 x hx).2
 by_cases c : ((aw r).1.hosts.length : Int) = 0
 ·rw [XC c]; exact ⟨Nat.zero_le _, fun _ q => (by cases q), Nat.zero_le _, fun _ q => by cases q⟩
 ·rw [XA c]
  have p := kj h h1
  have b := Bd (r := (aw r).2) (n := (aw r).1.hosts.length) (by omega) (by omega)
  exact key _ (AE (by have := b.2 (by omega); omega))
def fF (s : Sp) : Int := Bt GO s.items
theorem bf {xs : List Im} {i k : Nat} (hi : i < xs.length) (hk : k < (xs.getD i default).to.length) : Bt GO (Nn xs i k) = Bt GO xs - 1 := by
 have e : Bt GO xs = Bt GO (xs.take i) + (GO (xs.getD i default) + Bt GO (xs.drop (i + 1))) := by
  have z := Fi GO (xs.take i) (xs.drop i)
  rw [List.take_append_drop, Ac hi] at z
  exact z
 have l := WI hk
 have er : GO (xs.getD i default) = (xs.getD i default).to.length := rfl
 have ed : GO (GM (xs.getD i default) k) = ((xs.getD i default).to.take k ++ (xs.getD i default).to.drop (k + 1)).length := rfl
 unfold Nn
 split
 ·rename_i q
  have q' : (xs.getD i default).to.take k ++ (xs.getD i default).to.drop (k + 1) = [] := q
  rw [q'] at l
  rw [Fi]
  have : ([] : List Rc).length = 0 := rfl
  omega
 ·rw [Fi]
  show _ + (GO (GM (xs.getD i default) k) + _) = _
  omega
theorem nu {s : Sp} {i k : Nat} (hi : i < s.items.length) (hk : k < (s.items.getD i default).to.length) : fF (B7 s i k) = fF s - 1 := bf hi hk
theorem La {s : Sp} (h : BI s) : DA s = fF s := MY h
noncomputable def p8 (b : List UInt8) : Hs := (SL (opn b)).1
noncomputable def eT (b : List UInt8) : (Int × Ad) × Rd := Np (SL (opn b)).2 (p8 b).spool
noncomputable def xU (b : List UInt8) : Int := F9 (eT b).2 [2, 3, 4, 3, 4, 1, 5]
noncomputable def xV (b : List UInt8) : Int := F9 ((eT b).2.nx 1) [10, 200, 9999, -1]
theorem W8 (b : List UInt8) : (SL (opn b)).1 = p8 b := rfl
theorem W9 (b : List UInt8) : Np (SL (opn b)).2 (p8 b).spool = eT b := rfl
theorem uQ (b : List UInt8) : F9 (eT b).2 [2, 3, 4, 3, 4, 1, 5] = xU b := rfl
theorem uS (b : List UInt8) : F9 ((eT b).2.nx 1) [10, 200, 9999, -1] = xV b := rfl
theorem qR {s : Sp} {i k : Nat} {w : Int} (hi : i < s.items.length) : fF (KZ s i k w) = fF s := by
 have z := S1 (f := GO) (xs := s.items) (i := i) (y := LS (s.items.getD i default) k w) hi
 have e : GO (LS (s.items.getD i default) k w) = GO (s.items.getD i default) := by
  show (((s.items.getD i default).to.set k _).length : Int) = (s.items.getD i default).to.length
  rw [List.length_set]
 show Bt GO (s.items.set i (LS (s.items.getD i default) k w)) = Bt GO s.items
 omega
theorem kY (s : Sp) (x : Im) (a : Ad) (w : Int) : fF (GJ s (A3 x a) w) = fF s + 1 := by
 show Bt GO (s.items ++ [Md s (A3 x a) w]) = Bt GO s.items + 1
 rw [Fi]
 show _ + (GO (Md s (A3 x a) w) + 0) = _
 have e : GO (Md s (A3 x a) w) = 1 := rfl
 omega
theorem fV {h : Hs} {n : Int} {a : Ad} {out w : Int} {N : Nat} (q : Dz h) (hn : ES N h) (hN : N ≤ 1000000) : (MS h n a out w = (h, false)) ∨ ∃ x, MS h n a out w = (x, true) ∧ Dz x ∧ ET x ∧ (out = 2 → DA x.spool - DA h.spool = -1 ∧ x.lost.length = h.lost.length) ∧ (¬ out = 2 → (DA x.spool = DA h.spool ∧ x.lost.length = h.lost.length) ∨ (DA x.spool = DA h.spool - 1 ∧ x.lost.length = h.lost.length + 1 ∧ (x.lost.getD h.lost.length default).addr = a)) := by
 by_cases z : N1 h n a out w
 ·right
  have hK := DS.1 q
  have t : Cb h.spool n a := ⟨z.1, z.2.1⟩
  have hw := z.2.2.2
  have k := Hd (out := out) hK hn t hw
  obtain ⟨_, _, hi, hk⟩ := GZ q.2.2 t
  have q2 := DS.2 k.1
  refine ⟨_, Pp q z, q2, Df k.1 k.2 (by omega), ?_⟩
  have sx := La q2.2.2
  have sh := La q.2.2
  rw [sx, sh]
  have hd := nu hi hk
  unfold Bk
  split
  ·rename_i o2
   exact ⟨fun _ => ⟨by show fF (B7 _ _ _) - _ = _; omega, rfl⟩, fun u => absurd o2 u⟩
  ·rename_i o2
   refine ⟨fun u => absurd u o2, fun _ => ?_⟩
   split
   ·exact .inl ⟨qR hi, rfl⟩
   ·by_cases g : AU (h.spool.items.getD (Ai h.spool n).toNat default).frm ∨ ¬ Bm (B7 h.spool (Ai h.spool n).toNat (Aw (AM h.spool n) a).toNat)
    ·rw [KH g]
     refine .inr ⟨hd, by show (_ ++ [_]).length = _; rw [List.length_append]; rfl, ?_⟩
     show ((h.lost ++ [_]).getD h.lost.length default).addr = a
     try simp
    ·rw [M5 g]
     exact .inl ⟨by show fF (GJ _ _ _) = _; rw [kY, hd]; omega, rfl⟩
 ·exact .inl (Hx q z)
theorem tP {x0 x1 x2 x3 : T} : Bj 1 4 [x0, x1, x2, x3] = [[x0], [x1], [x2], [x3]] := rfl
theorem tQ {x0 x1 x2 x3 x4 x5 x6 : T} : Bj 1 7 [x0, x1, x2, x3, x4, x5, x6] = [[x0], [x1], [x2], [x3], [x4], [x5], [x6]] := rfl
def c6 : Ct := An (lc LF.asl l0) (fun p => True) (fun p => .tup [FH.ag.enc (p8 p.1), .t (.v (.int .i64 (eT p.1).1.1)), Ce.ag.enc (eT p.1).1.2, .t (.v (.int .i64 (xU p.1))), .t (.v (.int .i64 (xV p.1)))])
section
attribute [local go_sem] wn wo Tb wq JK RZ M9 Hc uu W8 W9 uQ uS tP tQ FU lm List.length_append List.length_cons List.length_nil List.map_append List.map_nil Nat.zero_add List.nil_append AJ Bs A9 BF BP Bc CQ Bf Bh A1 AS.opn AS.cls AS.nilb AS.renb AS.up Bool.not_false Bool.not_true List.set_set List.set_cons_zero List.set_cons_succ List.set_nil List.mem_singleton forall_eq
set_option maxHeartbeats 1600000 in
theorem uJ {G : Gt} (hG : Aj G) (hh : G.e 21 = AA 1 wn ∧ G.e 22 = AN wo ∧ G.e 24 = AN Tb ∧ G.e 23 = AN wq) : Gd G 6 (AA 1 c6) := by
 refine gr (fn := Tryz.f6) (n := 1) rfl hG ?_
 rintro ⟨b, ⟨⟩⟩ hpre
 dsimp only
 have z := XB (r := opn b) (by rw [Hc]; decide) (by rw [Hc]; decide)
 rw [Hc, W8] at z
 have z2 := jN (r := (SL (opn b)).2) (s := (p8 b).spool) (by omega) (by omega) z.1.2.1
 rw [W9] at z2
 have os := z.1.2.1
 simp -implicitDefEqProofs only [Tryz.f6, go_sem, hh, Int.reduceAdd, seval]
 with_reducible repeat' (first | apply ai | intro _ | ((first | apply s1 | apply s3 | apply s4) <;> intro hb <;> simp -implicitDefEqProofs only [hb, go_sem, hh, Int.reduceAdd, seval] <;> try simp only [qz] at hb))
 all_goals (try simp only [maxLen, tn, AJ] at *)
 all_goals first | with_reducible rfl | omega | with_reducible assumption | ((with_reducible show _ = true); rfl) | ((with_reducible show List.Nodup _); decide) | (exfalso; with_reducible contradiction) | skip
end
def c3 : Ct := An (lc LF.asl l0) (fun p => True) (fun p => .t (.v (.bool true)))
section
attribute [local go_sem] c6 c7 c8 c9 ku wm JK RZ BP M9 Aa AZ Qu fY RI wa lm decide_true AS.opn AS.cls AS.nilb AS.renb AS.up Bool.not_false Bool.not_true List.set_set List.set_cons_zero List.set_cons_succ List.set_nil List.mem_singleton forall_eq
set_option maxHeartbeats 6400000 in
theorem uI {G : Gt} (hG : Aj G) (hh : G.e 6 = AA 1 c6 ∧ G.e 7 = AA 0 c7 ∧ G.e 8 = AA 1 c8 ∧ G.e 9 = AA 0 c9 ∧ G.e 10 = AA 0 ku ∧ G.e 11 = AA 0 wm) : Gd G 3 (AA 0 c3) := by
 refine LQ (dp := fun n => !(Nat.beq n 100005)) (fn := Tryz.f3) (n := 1) rfl hG ?_
 rintro ⟨b, ⟨⟩⟩ hpre
 try dsimp only
 have z := XB (r := opn b) (by rw [Hc]; decide) (by rw [Hc]; decide)
 have zn := uR (r := opn b) (by rw [Hc]; decide) (by rw [Hc]; decide)
 rw [Hc] at z
 rw [W8] at z zn
 have za := (jN (r := (SL (opn b)).2) (s := (p8 b).spool) (by omega) (by omega) z.1.2.1).2.2.2
 rw [W9] at za
 have zw := z.1
 obtain ⟨H, hH⟩ : ∃ H, p8 b = H := ⟨_, rfl⟩
 obtain ⟨i, hi⟩ : ∃ i, (eT b).1.1 = i := ⟨_, rfl⟩
 obtain ⟨a, ha⟩ : ∃ a, (eT b).1.2 = a := ⟨_, rfl⟩
 obtain ⟨O, hO⟩ : ∃ O, xU b = O := ⟨_, rfl⟩
 obtain ⟨W, hW⟩ : ∃ W, xV b = W := ⟨_, rfl⟩
 rw [hH] at zw zn
 rw [ha] at za
 have os1 := zw.2.1
 by_cases L : (b.length : Int) > 1048576
 ·simp -implicitDefEqProofs only [Tryz.f3, L, decide_true, go_sem, hh, seval]
  with_reducible repeat' (first | apply ai | intro _ | ((first | apply s1 | apply s3 | apply s4) <;> intro hb <;> simp -implicitDefEqProofs only [hb, go_sem, hh, seval] <;> try simp only [qz] at hb))
  all_goals first | with_reducible rfl | omega | with_reducible assumption | ((with_reducible show _ = true); rfl) | ((with_reducible show List.Nodup _); decide) | (exfalso; with_reducible contradiction) | skip
 ·by_cases hok : Dz H
  ·have b1 := Ag hok
   rcases fV (n := i) (a := a) (out := O) (w := W) hok zn (by decide) with e | ⟨X, e, xok, xsz, x2, x3⟩
   ·simp -implicitDefEqProofs only [Tryz.f3, L, hH, hi, ha, hO, hW, e, b1, eq_self, decide_true, decide_false, go_sem, hh, seval]
    with_reducible repeat' (first | apply ai | intro _ | ((first | apply s1 | apply s3 | apply s4) <;> intro hb <;> simp -implicitDefEqProofs only [hb, go_sem, hh, seval] <;> try simp only [qz] at hb))
    all_goals (try simp only [maxLen, tn] at *)
    all_goals first | with_reducible rfl | omega | with_reducible assumption | ((with_reducible show _ = true); rfl) | ((with_reducible show List.Nodup _); decide) | (exfalso; with_reducible contradiction) | skip
    refine Ak (Le.frzL [1031, 2031, 3031, 4031, 5031]) (AW ?_)
    simp -implicitDefEqProofs only [e, b1, eq_self, decide_true, decide_false, go_sem, hh, seval]
    with_reducible repeat' (first | apply ai | intro _ | ((first | apply s1 | apply s3 | apply s4) <;> intro hb <;> simp -implicitDefEqProofs only [hb, go_sem, hh, seval] <;> try simp only [qz] at hb))
    all_goals (try simp only [maxLen, tn] at *)
    all_goals first | with_reducible rfl | omega | with_reducible assumption | ((with_reducible show _ = true); rfl) | ((with_reducible show List.Nodup _); decide) | (exfalso; with_reducible contradiction) | skip
   ·have b2 := Ag xok
    have os2 := xsz.2.1
    obtain ⟨_, c3, _, c5⟩ := SM hok zw
    obtain ⟨_, c4, _, c6⟩ := SM xok xsz
    have c3' : 0 ≤ DA H.spool ∧ DA H.spool ≤ 40 := c3
    have c4' : 0 ≤ DA X.spool ∧ DA X.spool ≤ 40 := c4
    have c5' : 0 ≤ (H.lost.length : Int) ∧ (H.lost.length : Int) ≤ 1048576 := c5
    have c6' : 0 ≤ (X.lost.length : Int) ∧ (X.lost.length : Int) ≤ 1048576 := c6
    simp -implicitDefEqProofs only [Tryz.f3, L, hH, hi, ha, hO, hW, e, b1, eq_self, decide_true, decide_false, go_sem, hh, seval]
    with_reducible repeat' (first | apply ai | intro _ | ((first | apply s1 | apply s3 | apply s4) <;> intro hb <;> simp -implicitDefEqProofs only [hb, go_sem, hh, seval] <;> try simp only [qz] at hb))
    all_goals (try simp only [maxLen, tn] at *)
    all_goals first | with_reducible rfl | omega | with_reducible assumption | ((with_reducible show _ = true); rfl) | ((with_reducible show List.Nodup _); decide) | (exfalso; with_reducible contradiction) | skip
    refine Ak (Le.frzL [1031, 2031, 3031, 4031, 5031]) (AW ?_)
    by_cases o2 : O = 2
    ·obtain ⟨y1, y2⟩ := x2 o2
     have d2 := decide_eq_true o2
     have y3 : ((X.lost.length : Nat) : Int) - (H.lost.length : Nat) = 0 := by omega
     simp -implicitDefEqProofs only [e, b1, b2, d2, eq_self, decide_true, decide_false, go_sem, hh, seval]
     with_reducible repeat' (first | apply ai | intro _ | ((first | apply s1 | apply s3 | apply s4) <;> intro hb <;> simp -implicitDefEqProofs only [hb, go_sem, hh, seval] <;> try simp only [qz] at hb))
     all_goals (try simp only [maxLen, tn] at *)
     all_goals first | with_reducible rfl | omega | with_reducible assumption | ((with_reducible show _ = true); rfl) | ((with_reducible show List.Nodup _); decide) | (exfalso; with_reducible contradiction) | (rw [decide_eq_true (by omega)]; done) | skip
    ·have d2 := decide_eq_false o2
     have y := x3 o2
     have y0 : DA X.spool - DA H.spool + ((X.lost.length : Int) - H.lost.length) = 0 ∧ 0 ≤ (X.lost.length : Int) - H.lost.length := by omega
     have ya : ¬ (X.lost.length : Int) - H.lost.length = 0 → (X.lost.getD ((X.lost.length : Int) - 1).toNat default).addr = a := fun u => by
      rcases y with y | y
      ·exact absurd (by omega) u
      ·have e5 : ((X.lost.length : Int) - 1).toNat = H.lost.length := by omega
       rw [e5]; exact y.2.2
     simp -implicitDefEqProofs only [e, b1, b2, d2, eq_self, decide_true, decide_false, go_sem, hh, seval]
     with_reducible repeat' (first | apply ai | intro _ | ((first | apply s1 | apply s3 | apply s4) <;> intro hb <;> simp -implicitDefEqProofs only [hb, go_sem, hh, seval] <;> try simp only [qz] at hb))
     all_goals (try simp only [maxLen, tn] at *)
     all_goals first | with_reducible rfl | omega | with_reducible assumption | ((with_reducible show _ = true); rfl) | ((with_reducible show List.Nodup _); decide) | (exfalso; with_reducible contradiction) | (rw [decide_eq_true (by omega)]; done) | (rw [ya (by with_reducible assumption)]; simp; done) | skip
  ·have b1 := AO hok
   have e0 := MT (n := i) (a := a) (out := O) (w := W) hok
   simp -implicitDefEqProofs only [Tryz.f3, L, hH, hi, ha, hO, hW, e0, b1, eq_self, decide_true, decide_false, go_sem, hh, seval]
   with_reducible repeat' (first | apply ai | intro _ | ((first | apply s1 | apply s3 | apply s4) <;> intro hb <;> simp -implicitDefEqProofs only [hb, go_sem, hh, seval] <;> try simp only [qz] at hb))
   all_goals (try simp only [maxLen, tn] at *)
   all_goals first | with_reducible rfl | omega | with_reducible assumption | ((with_reducible show _ = true); rfl) | ((with_reducible show List.Nodup _); decide) | (exfalso; with_reducible contradiction) | skip
   refine Ak (Le.frzL [1031, 2031, 3031, 4031, 5031]) (AW ?_)
   simp -implicitDefEqProofs only [e0, b1, eq_self, decide_true, decide_false, go_sem, hh, seval]
   with_reducible repeat' (first | apply ai | intro _ | ((first | apply s1 | apply s3 | apply s4) <;> intro hb <;> simp -implicitDefEqProofs only [hb, go_sem, hh, seval] <;> try simp only [qz] at hb))
   all_goals (try simp only [maxLen, tn] at *)
   all_goals first | with_reducible rfl | omega | with_reducible assumption | ((with_reducible show _ = true); rfl) | ((with_reducible show List.Nodup _); decide) | (exfalso; with_reducible contradiction) | skip
end
end Go.V
namespace Go.V
open Go Go.Proofs Go.ChangeShapes Go.WideShapes Go.ChangeAt Go.RowKit
set_option maxRecDepth 100000
section
variable {H : Type} {enc : TypeId × Value → H} {W : World} {P : Program}
def pW (W : World) : Nat → Prop := fun b => b < W.heap.size
def sd (P : Program) (W : World) (enc : TypeId × Value → H) (t : TypeId) (q : List T → Prop) : Prop :=
 ∀ (n : Nat) (cs : List Value) (x : DataW H × List MemPlace), DataW.trod enc P W 0 (fun _ => true) true n t cs = some x → ∃ ts, q ts ∧ CD W (pW W) ts cs
theorem sd.slice {α : Type} (E : Em α) {t e : TypeId} (u : P.underlying t = some (.slice e)) (hn : P.cellsOf e = E.n) (h0 : 0 < E.n) (he : sd P W enc e fun ts => ∃ a, ts = E.enc a) :
    sd P W enc t fun ts => ∃ xs : List α, ts = [.sl E.n (xs.map E.enc)] := fun n cs x h => by
 rcases DataW.trod_slice u h with ⟨rfl, _⟩ | ⟨a, len, cap, elems, rest, m, rfl, rfl, _, _, hlc, hcm, hel, hes, _⟩
 ·exact ⟨_, ⟨[], rfl⟩, .cons _ _ _ _ (.nil _) .nil⟩
 ·rw [hn] at hes
  have key : ∀ k, k ≤ len → ∃ (xs : List α) (vs : List Value), xs.length = k ∧ vs.length = k * E.n ∧ CD W (pW W) (xs.map E.enc).flatten vs ∧ (0 < k → a.block < W.heap.size) ∧ ∀ j v, vs[j]? = some v → W.cell? (a.add j) = some v := fun k => by
   induction k with
   | zero => exact fun _ => ⟨[], [], rfl, by simp, .nil, fun h => absurd h (Nat.lt_irrefl _), fun j v hj => by simp at hj⟩
   | succ k ih =>
     intro hk
     obtain ⟨xs, vs, h1, h2, h3, h4, h5⟩ := ih (by omega)
     have h6 := hes k (by omega)
     rw [List.getElem?_eq_getElem (by omega)] at h6
     obtain ⟨cs, h7, h8⟩ := Option.bind_eq_some_iff.1 h6
     obtain ⟨ts, ⟨y, rfl⟩, h9⟩ := he _ _ _ h8
     obtain ⟨q1, q2, q3⟩ := World.cells?_some h7
     have hb : a.block < W.heap.size := by
      have := World.cells?_block h7 h0
      rwa [Cy] at this
     refine ⟨xs ++ [y], vs ++ cs, by simp [h1], ?_, ?_, fun _ => hb, fun j v hj => ?_⟩
     ·have : cs.length = E.n := by rw [← h9.len, E.len]
      rw [List.length_append, h2, this, Nat.succ_mul]
     ·rw [List.map_append, List.flatten_append]
      exact h3.append (by simpa using h9)
     ·by_cases hj2 : j < vs.length
      ·rw [List.getElem?_append_left hj2] at hj
       exact h5 j v hj
      ·rw [List.getElem?_append_right (by omega)] at hj
       have hjl : j - vs.length < E.n := by
        have := (List.getElem?_eq_some_iff.1 hj).1
        have h10 : cs.length = E.n := by rw [← h9.len, E.len]
        omega
       have := q3 (j - vs.length) hjl
       rw [FS] at this
       rw [show j = k * E.n + (j - vs.length) from by omega, this]
       exact hj
  obtain ⟨xs, vs, h1, h2, h3, h4, h5⟩ := key len (Nat.le_refl _)
  refine ⟨_, ⟨xs, rfl⟩, .cons _ _ _ _ (.sl E.n _ a len cap vs (by simp [h1]) hlc hcm (fun hne => ?_) (fun c hc => ?_) h5 h3) .nil⟩
  ·refine h4 ?_
   rcases Nat.eq_zero_or_pos len with h | h
   ·exact absurd (by rw [List.eq_nil_of_length_eq_zero (h1.trans h)]; rfl) hne
   ·exact h
  ·obtain ⟨y, _, rfl⟩ := List.mem_map.1 hc
   exact E.len y
end
end Go.V
namespace Go.Proofs.YthmjinhpngfdbaaGreatDoor
open Go Go.Proofs Go.ChangeShapes Go.WideShapes Go.ChangeAt Go.RowKit
set_option maxRecDepth 100000
theorem own : ownKnob Tryz.prog.godebug = none := by kernel_rfl
def flatD : Nat → DataW Unit → List Value
 | 0, _ => []
 | _ + 1, .lit (.int k v) => [.int k v]
 | n + 1, .agg xs => xs.flatMap (flatD n)
 | _ + 1, _ => []
noncomputable def gOf (n : String) : Nat := (Tryz.prog.globalNamed n).getD 0
noncomputable def layAt (n : String) (d : DataW Unit) (h : Array Obj) : Array Obj := h.modify (gOf n) fun
 | .cells _ t frozen => .cells (flatD 5 d).toArray t frozen
 | o => o
noncomputable def laidWorld (os : Os) : World :=
 { World.holding Tryz.prog os ⟨#[], #[], []⟩ with heap := layAt "unicode/utf8.first" Rows.laid_unicode_utf8_first (layAt "unicode/utf8.acceptRanges" Rows.laid_unicode_utf8_acceptRanges (World.holding Tryz.prog os ⟨#[], #[], []⟩).heap) }
noncomputable def args0 : Array Value := #[.slice none 0 0]
theorem laid_met (os : Os) : laidMet Tryz.prog Rows.fnHostOutRow.laid ((laidWorld os).forCall (fun _ _ => 0) ⟨#[], args0, []⟩).memory :=
 laidMet_of_run' 8 (by kernel_rfl) (by kernel_rfl)
theorem reads (os : Os) {H : Type} (enc : TypeId × Value → H) : ∃ places, DataW.whole enc Tryz.prog ((laidWorld os).forCall (fun _ _ => 0) ⟨#[], args0, []⟩).memory Tryz.f3.params.toList Rows.fnHostOutSpec.vars false args0.toList 8 = some ([.nil], [], places) :=
 ⟨[], by kernel_rfl⟩
theorem func3 : Tryz.prog.funcs[3]? = some Tryz.f3 := by kernel_rfl
def Every : Prop := ∀ (H : Type) (enc : TypeId × Value → H) (W : World) (base : Nat) (args : Array Value) (ds gs : List (DataW H)) (before : List MemPlace)
    (_ : ∀ (j : Nat) t v, Tryz.f3.params[j]? = some t → args[j]? = some v → Value.okWide Tryz.prog W .any base t v)
    (_ : DataW.Whole enc Tryz.prog Tryz.f3.params.toList Rows.fnHostOutSpec.vars false W args.toList ds gs before) (_ : W.ShapedOpen Tryz.prog),
    Calls Tryz.prog 3 args W fun e W' => ∃ v, e = .returned v ∧ Rows.fnHostOutSpec.post enc Tryz.prog Tryz.f3 false true false false W args v W'
theorem lifted (hE : Every) (os : Os) (started : os.Started) (H : Type) (enc : TypeId × Value → H) (F : Stop.Interp) :
    ReturnsInHanded {} Tryz.checked os 3 .any ((OpenSpec.ofChange Rows.fnHostOutSpec).preRow enc Tryz.prog Tryz.f3 Rows.fnHostOutRow.domain false Rows.fnHostOutRow.laid) (((OpenSpec.ofChange Rows.fnHostOutSpec).at F).post enc Tryz.prog Tryz.f3 false true false false) := by
 obtain ⟨places, hx⟩ := reads os enc
 refine returnsInHanded_of_row (C := Tryz.checked) (s := OpenSpec.ofChange Rows.fnHostOutSpec) own started (by kernel_rfl) func3
  (witness_row_at (enc := enc) (C := Tryz.checked) false (laidWorld os) args0 rfl (by kernel_rfl) (by kernel_rfl) (by kernel_rfl)
    (OpenSpec.preRow_of_cond 8 hx (by kernel_rfl) (fun k hk => by cases hk) (by kernel_rfl) (laid_met os))) ?_
 intro W base args ds gs before hval hW _ _ _ _ hS _
 exact hE H enc W base args ds gs before hval hW hS
theorem said (hE : Every) : Rows.FnHostOutSaid :=
 OpenClaim.holds_of_cond 3 Tryz.f3 rfl rfl rfl rfl rfl rfl rfl ⟨rfl, rfl, rfl, rfl, rfl⟩ rfl rfl rfl rfl rfl (by kernel_rfl) func3 (by kernel_rfl)
  (of_decide_eq_true (by kernel_rfl)) (by unfold Func.isWrapper; first | (rw [if_pos (by decide +kernel)]; kernel_rfl) | (rw [if_neg (by decide +kernel)]; exact ⟨rfl, rfl⟩))
  (fun os started H enc _ F => by rw [OpenClaim.pre_eq_preRow]; exact lifted hE os started H enc F)
theorem params3 : Tryz.f3.params = #[22] := rfl
theorem plain (f : FuncId) (fn : Func) (hf : Tryz.pinned.checked.prog.funcNamed "loop.example/satchel/laws.FnHostOut" = some f) (hfn : Tryz.pinned.checked.prog.funcs[f]? = some fn) :
    false = Tryz.pinned.checked.prog.looks [] ∧ ∀ (j : Nat) t, fn.params[j]? = some t → Tryz.pinned.checked.prog.wantsStandIn t = false := by
 obtain rfl : f = 3 := Option.some.inj ((show Tryz.prog.funcNamed "loop.example/satchel/laws.FnHostOut" = some 3 by kernel_rfl).symm.trans hf) |>.symm
 obtain rfl : fn = Tryz.f3 := (Option.some.inj (func3.symm.trans hfn)).symm
 refine ⟨by kernel_rfl, fun j t ht => ?_⟩
 rw [params3] at ht
 have hm : t ∈ [22] := by simpa using Array.mem_of_getElem? ht
 have hall : ([22].all fun u => !Tryz.prog.wantsStandIn u) = true := by kernel_rfl
 exact (show Tryz.prog.wantsStandIn t = false by simpa using List.all_eq_true.1 hall t hm)
theorem card_of (hE : Every) : Rows.FnHostOutCardSaid :=
 Claim7.holds_tied_plain_at .later [] _ _ _ _ (said hE) (fun _ h => by cases h) (by kernel_rfl) (fun _ h => by cases h) fnHostOut_row_tie rfl ⟨rfl, rfl⟩ (by kernel_rfl) rfl plain (by kernel_rfl)
end Go.Proofs.YthmjinhpngfdbaaGreatDoor
namespace Go.V
open Go Go.Proofs Go.ChangeShapes Go.WideShapes Go.ChangeAt Go.RowKit
set_option maxRecDepth 100000
set_option linter.unusedVariables false
set_option maxHeartbeats 4000000 in
theorem con3 (m : Int) (b : List UInt8) : TA Tryz.prog m 3 ((lc LF.asl l0).enc (b, ())) ((lc LF.asl l0).enc (b, ())) (.t (.v (.bool true))) := by
 have g0 : LB Tryz.prog (Pg m []) ∧ ER (Pg m []) := MR
 have g1 := AB g0 (oX g0)
 have g2 := AB g1 (pT g1)
 have g3 := AB g2 (oc g2 rfl)
 have g4 := AB g3 (cM g3 rfl)
 have g5 := AB g4 (dE g4 rfl)
 have g6 := AB g5 (dH g5)
 have g7 := AB g6 (oy g6)
 have g8 := AB g7 (dA g7 rfl)
 have g9 := AB g8 (cd g8 ⟨rfl, rfl⟩)
 have g10 := AB g9 (po g9 rfl)
 have g11 := AB g10 (pt g10)
 have g12 := AB g11 (cQ g11)
 have g13 := AB g12 (cc g12 rfl)
 have g14 := AB g13 (cP g13 ⟨rfl, rfl⟩)
 have g15 := AB g14 (pP g14)
 have g16 := AB g15 (pk g15 ⟨rfl, rfl, rfl⟩)
 have g17 := AB g16 (pm g16)
 have g18 := AB g17 (pn g17)
 have g19 := AB g18 (dI g18 ⟨rfl, rfl⟩)
 have g20 := AB g19 (ce g19 ⟨rfl, rfl, rfl, rfl, rfl⟩)
 have g21 := AB g20 (pq g20 ⟨rfl, rfl⟩)
 have g22 := AB g21 (ou g21 ⟨rfl, rfl, rfl, rfl, rfl⟩)
 have g23 := AB g22 (pO g22)
 have g24 := AB g23 (pN g23 ⟨rfl, rfl, rfl, rfl, rfl⟩)
 have g25 := AB g24 (dP g24 ⟨rfl, rfl, rfl⟩)
 have g26 := AB g25 (cW g25 rfl)
 have g27 := AB g26 (pU g26 ⟨rfl, rfl⟩)
 have g28 := AB g27 (du g27 rfl)
 have g29 := AB g28 (db g28 ⟨rfl, rfl⟩)
 have g30 := AB g29 (dR g29 ⟨rfl, rfl, rfl, rfl⟩)
 have g31 := AB g30 (dX g30 ⟨rfl, rfl, rfl⟩)
 have g32 := AB g31 (cg g31)
 have g33 := AB g32 (pu g32 rfl)
 have g34 := AB g33 (ov g33 ⟨rfl, rfl⟩)
 have g35 := AB g34 (cw g34 rfl)
 have g36 := AB g35 (dh g35 ⟨rfl, rfl, rfl, rfl⟩)
 have g37 := AB g36 (cj g36)
 have g38 := AB g37 (di g37)
 have g39 := AB g38 (dj g38)
 have g40 := AB g39 (dz g39 rfl)
 have g41 := AB g40 (eJ g40)
 have g42 := AB g41 (eA g41 rfl)
 have g43 := AB g42 (cR g42 rfl)
 have g44 := AB g43 (eC g43 rfl)
 have g45 := AB g44 (eB g44 rfl)
 have g46 := AB g45 (eD g45)
 have g47 := AB g46 (eE g46)
 have g48 := AB g47 (eK g47)
 have g49 := AB g48 (eF g48 rfl)
 have g50 := AB g49 (d4 g49 ⟨rfl, rfl, rfl, rfl, rfl, rfl, rfl⟩)
 have g51 := AB g50 (eG g50)
 have g52 := AB g51 (eH g51)
 have g53 := AB g52 (eN g52)
 have g54 := AB g53 (dC g53 ⟨rfl, rfl⟩)
 have g55 := AB g54 (eO g54 rfl)
 have g56 := AB g55 (dS g55)
 have g57 := AB g56 (dD g56 rfl)
 have g58 := AB g57 (eQ g57 ⟨rfl, rfl⟩)
 have g59 := AB g58 (eP g58 ⟨rfl, rfl, rfl⟩)
 have g60 := AB g59 (eL g59 ⟨rfl, rfl, rfl, rfl, rfl⟩)
 have g61 := AB g60 (dB g60 rfl)
 have g62 := AB g61 (eM g61 ⟨rfl, rfl, rfl⟩)
 have g63 := AB g62 (eI g62 ⟨rfl, rfl, rfl, rfl⟩)
 have g64 := AB g63 (d5 g63 ⟨rfl, rfl, rfl⟩)
 have g65 := AB g64 (d6 g64)
 have g66 := AB g65 (dk g65 ⟨rfl, rfl, rfl, rfl⟩)
 have g67 := AB g66 (d7 g66)
 have g68 := AB g67 (ck g67)
 have g69 := AB g68 (dl g68 ⟨rfl, rfl, rfl, rfl⟩)
 have g70 := AB g69 (dY g69 ⟨rfl, rfl, rfl, rfl, rfl, rfl, rfl, rfl⟩)
 have g71 := AB g70 (ow g70)
 have g72 := AB g71 (cT g71 ⟨rfl, rfl⟩)
 have g73 := AB g72 (dq g72 rfl)
 have g74 := AB g73 (dr g73 ⟨rfl, rfl⟩)
 have g75 := AB g74 (ox g74)
 have g76 := AB g75 (pv g75 rfl)
 have g77 := AB g76 (ci g76)
 have g78 := AB g77 (px g77 ⟨rfl, rfl⟩)
 have g79 := AB g78 (cl g78 ⟨rfl, rfl⟩)
 have g80 := AB g79 (py g79 ⟨rfl, rfl, rfl, rfl, rfl, rfl⟩)
 have g81 := AB g80 (oz g80 ⟨rfl, rfl, rfl, rfl, rfl⟩)
 have g82 := AB g81 (dZ g81 ⟨rfl, rfl, rfl, rfl, rfl, rfl⟩)
 have g83 := AB g82 (dt g82)
 have g84 := AB g83 (da g83 ⟨rfl, rfl, rfl, rfl, rfl, rfl⟩)
 have g85 := AB g84 (cU g84 rfl)
 have g86 := AB g85 (pR g85 ⟨rfl, rfl, rfl⟩)
 have g87 := AB g86 (dQ g86 ⟨rfl, rfl, rfl, rfl, rfl⟩)
 have g88 := AB g87 (dO g87 ⟨rfl, rfl, rfl, rfl, rfl⟩)
 have g89 := AB g88 (cu g88 ⟨rfl, rfl, rfl⟩)
 have g90 := AB g89 (cx g89 ⟨rfl, rfl⟩)
 have g91 := AB g90 (cK g90 ⟨rfl, rfl, rfl⟩)
 have g92 := AB g91 (cy g91 ⟨rfl, rfl, rfl, rfl, rfl, rfl, rfl⟩)
 have g93 := AB g92 (cL g92 ⟨rfl, rfl, rfl⟩)
 have g94 := AB g93 (cV g93 ⟨rfl, rfl⟩)
 have g95 := AB g94 (pS g94 ⟨rfl, rfl, rfl⟩)
 have g96 := AB g95 (cN g95 ⟨rfl, rfl, rfl⟩)
 have g97 := AB g96 (pL g96 ⟨rfl, rfl, rfl, rfl, rfl, rfl, rfl⟩)
 have g98 := AB g97 (oY g97 ⟨rfl, rfl, rfl⟩)
 have g99 := AB g98 (oZ g98 ⟨rfl, rfl⟩)
 have g100 := AB g99 (uJ g99 ⟨rfl, rfl, rfl, rfl⟩)
 have g101 := Fn g100 (dc m)
 have g102 := AB g101 (dU g101 rfl)
 have g103 := Fn g102 (d8 m)
 have g104 := AB g103 (dv g103 rfl)
 have g105 := Fn g104 (dw m)
 have g106 := AB g105 (dx g105)
 have g107 := AB g106 (d9 g106)
 have g108 := AB g107 (dy g107 rfl)
 have g109 := AB g108 (df g108 ⟨rfl, rfl, rfl, rfl⟩)
 have g110 := AB g109 (dV g109 rfl)
 have g111 := AB g110 (dJ g110 ⟨rfl, rfl⟩)
 have g112 := AB g111 (cm g111 rfl)
 have g113 := AB g112 (og g112)
 have g114 := AB g113 (dK g113)
 have g115 := AB g114 (dW g114)
 have g116 := AB g115 (dL g115 rfl)
 have g117 := AB g116 (dM g116 rfl)
 have g118 := AB g117 (cq g117 ⟨rfl, rfl, rfl⟩)
 have g119 := AB g118 (cF g118 ⟨rfl, rfl⟩)
 have g120 := AB g119 (p6 g119 ⟨rfl, rfl⟩)
 have g121 := AB g120 (cE g120)
 have g122 := AB g121 (cD g121 rfl)
 have g123 := AB g122 (p5 g122 rfl)
 have g124 := AB g123 (cn g123 ⟨rfl, rfl⟩)
 have g125 := AB g124 (b9 g124 rfl)
 have g126 := AB g125 (p7 g125 rfl)
 have g127 := AB g126 (co g126 rfl)
 have g128 := AB g127 (cA g127 rfl)
 have g129 := AB g128 (pC g128 ⟨rfl, rfl, rfl⟩)
 have g130 := AB g129 (pH g129 ⟨rfl, rfl⟩)
 have g131 := AB g130 (oh g130 rfl)
 have g132 := AB g131 (cC g131)
 have g133 := AB g132 (pF g132 ⟨rfl, rfl⟩)
 have g134 := AB g133 (cp g133)
 have g135 := AB g134 (pG g134 rfl)
 have g136 := AB g135 (cB g135 ⟨rfl, rfl, rfl, rfl, rfl, rfl⟩)
 have g137 := AB g136 (pD g136 ⟨rfl, rfl⟩)
 have g138 := AB g137 (cr g137)
 have g139 := AB g138 (cG g138 rfl)
 have g140 := AB g139 (pI g139 rfl)
 have g141 := AB g140 (pE g140 ⟨rfl, rfl⟩)
 have g142 := AB g141 (cH g141 rfl)
 have g143 := AB g142 (pJ g142 rfl)
 have g144 := Fn g143 (dN m)
 have g145 := AB g144 (ct g144 rfl)
 have g146 := AB g145 (cJ g145 rfl)
 have g147 := AB g146 (cI g146)
 have g148 := AB g147 (pK g147 ⟨rfl, rfl⟩)
 have g149 := AB g148 (oV g148 ⟨rfl, rfl, rfl, rfl, rfl, rfl⟩)
 have g150 := AB g149 (pQ g149)
 have g151 := AB g150 (cX g150)
 have g152 := AB g151 (pV g151 ⟨rfl, rfl⟩)
 have g153 := AB g152 (cY g152)
 have g154 := AB g153 (pX g153 ⟨rfl, rfl⟩)
 have g155 := AB g154 (pY g154)
 have g156 := AB g155 (od g155 ⟨rfl, rfl, rfl, rfl⟩)
 have g157 := AB g156 (pc g156)
 have g158 := AB g157 (cS g157)
 have g159 := AB g158 (pZ g158 ⟨rfl, rfl⟩)
 have g160 := AB g159 (pe g159)
 have g161 := AB g160 (pd g160 rfl)
 have g162 := AB g161 (oe g161 ⟨rfl, rfl⟩)
 have g163 := AB g162 (pf g162)
 have g164 := AB g163 (pg g163)
 have g165 := AB g164 (ol g164 ⟨rfl, rfl, rfl, rfl, rfl⟩)
 have g166 := AB g165 (ph g165 rfl)
 have g167 := AB g166 (oo g166 ⟨rfl, rfl, rfl, rfl, rfl⟩)
 have g168 := AB g167 (cZ g167 rfl)
 have g169 := AB g168 (cz g168)
 have g170 := AB g169 (cO g169 rfl)
 have g171 := AB g170 (pM g170 rfl)
 have g172 := AB g171 (pi g171 ⟨rfl, rfl, rfl, rfl, rfl⟩)
 have g173 := AB g172 (dF g172 rfl)
 have g174 := AB g173 (dT g173 rfl)
 have g175 := AB g174 (dG g174 rfl)
 have g176 := AB g175 (ca g175 ⟨rfl, rfl, rfl, rfl, rfl⟩)
 have g177 := AB g176 (cb g176)
 have g178 := AB g177 (pj g177 ⟨rfl, rfl, rfl, rfl, rfl, rfl⟩)
 have g179 := AB g178 (ot g178 ⟨rfl, rfl, rfl, rfl⟩)
 have g180 := AB g179 (uK g179 ⟨rfl, rfl, rfl, rfl, rfl, rfl, rfl, rfl⟩)
 have g181 := AB g180 (uL g180 ⟨rfl, rfl, rfl, rfl, rfl, rfl⟩)
 have g182 := AB g181 (pz g181)
 have g183 := AB g182 (o0 g182 rfl)
 have g184 := AB g183 (p4 g183 rfl)
 have g185 := AB g184 (o9 g184 rfl)
 have g186 := AB g185 (pA g185)
 have g187 := AB g186 (pB g186 rfl)
 have g188 := AB g187 (uM g187 ⟨rfl, rfl, rfl, rfl⟩)
 have g189 := AB g188 (oW g188 rfl)
 have hg := uI g189 ⟨rfl, rfl, rfl, rfl, rfl, rfl⟩
 obtain ⟨res, h1, _, h3, _⟩ := hg.ro ((lc LF.asl l0).enc (b, ())) (fun r => r = .t (.v (.bool true))) (by
  show c3 _ _
  rw [c3, Vo, (lc LF.asl l0).ed]
  exact ⟨trivial, rfl⟩)
 rw [h1] at h3
 exact h3
section
variable {H : Type} {enc : TypeId × Value → H} {W : World}
theorem v3 : Tryz.prog.underlying 3 = some (.int .i64) := by kernel_rfl
theorem v5 : Tryz.prog.underlying 5 = some (.int .u8) := by kernel_rfl
theorem w5 : Tryz.prog.cellsOf 5 = 1 := by kernel_rfl
theorem rdBy : sd Tryz.prog W enc 5 fun ts => ∃ a, ts = LF.enc a := fun n cs x h => by
 obtain ⟨k, rfl, _, hs⟩ := DataW.trod_int v5 h
 have hb : 0 ≤ k ∧ k < 256 := by
  have e : (Lit.int .u8 k).wf = (decide ((0 : Int) ≤ k) && decide (k ≤ 255)) := rfl
  rw [e] at hs
  simp at hs
  omega
 refine ⟨_, ⟨UInt8.ofNat k.toNat, rfl⟩, .cons _ _ _ _ ?_ .nil⟩
 have e4 : (((UInt8.ofNat k.toNat).toNat : Nat) : Int) = k := by
  have : (UInt8.ofNat k.toNat).toNat = k.toNat := by simp; omega
  omega
 rw [e4]
 exact .v _ trivial
theorem v22 : Tryz.prog.underlying 22 = some (.slice 5) := by kernel_rfl
theorem glOk_of (h : W.ShapedOpen Tryz.prog) : ∃ m, LI m W (pW W) := by
 obtain ⟨cs, h1, h2, h3⟩ := h.1 0 #[.int .i64 0] 3 (Nat.lt_of_lt_of_le (Nat.lt_succ_self 0) (Nat.le_of_ble_eq_true (by kernel_rfl))) (by kernel_rfl)
 obtain ⟨ts, t1, _, t3⟩ := h3 (by kernel_rfl)
 have hts : ts = [3] := Option.some.inj (t1.symm.trans (by kernel_rfl))
 subst hts
 have hsz : cs.size = 1 := h2
 have h0 : cs[0]? = some cs[0] := Array.getElem?_eq_getElem (by omega)
 obtain ⟨u, hu, hok⟩ := t3 0 _ h0
 simp at hu
 subst hu
 unfold Cell.ok at hok
 rw [v3] at hok
 generalize cs[0] = v at h0 hok
 have hb : (0 : Nat) < W.heap.size := (Array.getElem?_eq_some_iff.1 h1).1
 cases v with
 | int k n =>
   have hk : k = .i64 := hok.1
   subst hk
   refine ⟨n, .rop _ _ [.int .i64 n] (fun _ => hb) (fun j u hj => ?_) (.cons _ _ _ _ (.v _ trivial) .nil)⟩
   cases j with
   | zero =>
     simp at hj
     subst hj
     simp [World.cell?, Addr.add, sK, h1, h0]
   | succ j => simp at hj
 | _ => exact hok.elim
end
theorem every : YthmjinhpngfdbaaGreatDoor.Every := by
 intro H enc W base args ds gs before hval0 hW hS
 have hval : ∀ (j : Nat) t v, Tryz.f3.params[j]? = some t → args[j]? = some v → Value.okWide Tryz.prog W .any base t v := hval0
 have hW' := hW
 obtain ⟨p, q, hA0, hV, rfl, hfz, hnd⟩ := hW
 have hA : DataW.TrodAll enc Tryz.prog W 0 (fun _ => true) true [22] args.toList ds p := hA0
 rw [YthmjinhpngfdbaaGreatDoor.params3] at hval
 obtain ⟨u0, d0, rfl, rfl, h0⟩ := trodAll_one hA
 obtain ⟨rfl, rfl⟩ := trodVars_none hV
 have hlt : ∀ x ∈ (p) ++ [], x.block < W.heap.size := fun x hx => hW'.lt x hx
 have k0 := h0
 obtain ⟨n0, t0⟩ := h0
 obtain ⟨_, ⟨b, rfl⟩, r0⟩ := (sd.slice LF v22 w5 (by decide) rdBy) _ _ _ t0
 have e0 : u0.cells.toList = [u0] := by
  have := hval 0 22 u0 rfl rfl
  unfold Value.okWide at this
  rw [v22] at this
  cases u0 with
  | agg cs => simp only [Cell.okWide, v22, Cell.ok] at this
  | _ => rfl
 rw [e0] at r0
 have r0' : Ro W (pW W) (.sl 1 (b.map LF.enc)) u0 := by
  cases r0 with | cons _ _ _ _ h _ => exact h
 have a0 : AG ρ0 W (pW W) (.t (.sl 1 (b.map LF.enc))) u0 [] := .t _ _ r0'
 obtain ⟨m, hgl⟩ := glOk_of hS
 have hargs : AK ρ0 W (pW W) ((lc LF.asl l0).enc (b, ())) [u0] [] := .cons _ _ _ _ [] [] a0 .nil
 have hcall := con3 m b W (pW W) [u0] [] hgl hargs .nil (fun b hb => by cases hb) (fun b hb => hb)
 refine Calls.mono hcall fun e W' hq => ?_
 obtain ⟨v, pr', G, F, he, hfr, _, _, _, _, hv, _, _⟩ := hq
 obtain ⟨rfl, _⟩ := hv.val
 have hb : Below W.heap.size W W' := ⟨hfr.os, hfr.tape, hfr.output, hfr.size, fun k hk => hfr.block k hk (by simp)⟩
 refine ⟨_, he, _, _, _, [], p, [], hW', ?_, ?_, rfl, hb.frame _, fun h => by cases h⟩
 ·exact trodAll_mk1 (shut_bool (show Tryz.prog.underlying 4 = some .bool by kernel_rfl) _)
 ·have := trodAll_mk1 (Below.trod (by kernel_rfl) (by kernel_rfl) (of_decide_eq_true (by kernel_rfl)) k0 hb fun x hx => hlt x (by simp [hx]))
  exact this
end Go.V
namespace Go.Proofs.YthmjinhpngfdbaaGreatDoor
theorem fnHostOut_card : Rows.FnHostOutCardSaid := card_of Go.V.every
end Go.Proofs.YthmjinhpngfdbaaGreatDoor
