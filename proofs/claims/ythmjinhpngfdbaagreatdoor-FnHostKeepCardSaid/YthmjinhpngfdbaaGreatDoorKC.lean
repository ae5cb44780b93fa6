/- The row. No condition. -/
import Derived.Test.YthmjinhpngfdbaaGreatDoorKB
import Derived.Test.YthmjinhpngfdbaaGreatDoorXB
import Derived.Test.YthmjinhpngfdbaaGreatDoorKA
namespace Go.V
open Go Go.Proofs
set_option maxRecDepth 100000
set_option linter.unusedSimpArgs false
set_option linter.unusedVariables false
def rJ : Ad := ⟨⟨#[]⟩, ⟨#[]⟩⟩
def DY (r : Rd) : Nat → List Ad
 | 0 => []
 | k + 1 => if Ex (r.nx (2 * (k : Int))) ∈ DY r k then DY r k else DY r k ++ [Ex (r.nx (2 * (k : Int)))]
theorem j9 {r : Rd} {k : Nat} (h : Ex (r.nx (2 * (k : Int))) ∈ DY r k) : DY r (k + 1) = DY r k := if_pos h
theorem j8 {r : Rd} {k : Nat} (h : ¬ Ex (r.nx (2 * (k : Int))) ∈ DY r k) : DY r (k + 1) = DY r k ++ [Ex (r.nx (2 * (k : Int)))] := if_neg h
theorem Jt (r : Rd) : ∀ k, (DY r k).length ≤ k
 | 0 => Nat.le_refl _
 | k + 1 => by
   have := Jt r k
   unfold DY; split
   ·omega
   ·rw [List.length_append]; simp; omega
theorem Id (r : Rd) : ∀ k, (DY r k).Nodup
 | 0 => List.nodup_nil
 | k + 1 => by
   unfold DY; split
   ·exact Id r k
   ·rename_i h
    rw [List.nodup_append]
    exact ⟨Id r k, by simp, fun a ha b hb e => h (by rw [List.mem_singleton.1 hb] at e; rw [← e]; exact ha)⟩
theorem N2 {r : Rd} {a : Ad} : ∀ {k : Nat}, a ∈ DY r k → ∃ j, j < k ∧ a = Ex (r.nx (2 * (j : Int)))
 | k + 1, h => by
   unfold DY at h; split at h
   ·obtain ⟨j, hj, e⟩ := N2 h
    exact ⟨j, by omega, e⟩
   ·rcases List.mem_append.1 h with h | h
    ·obtain ⟨j, hj, e⟩ := N2 h
     exact ⟨j, by omega, e⟩
    ·exact ⟨k, by omega, List.mem_singleton.1 h⟩
theorem sQ (r : Rd) (k : Nat) : 1 ≤ (DY r (k + 1)).length := by
 unfold DY; split
 ·rename_i h
  have := List.length_pos_of_mem h
  omega
 ·try simp
def S1 (r : Rd) : Int := Gh (r.nx 2) [1, 4, 9]
def A2 (r : Rd) : Rd := M6 (r.nx 3) (S1 r)
def JG (r : Rd) : Int := 1 + Al ((A2 r).nx 1) 4
def MS (r : Rd) : Ad := if Al (A2 r) 5 = 0 then rJ else Ex r
def YD (r : Rd) : Ml := ⟨MS r, DY ((A2 r).nx 2) (JG r).toNat, JA (r.nx 3) (S1 r)⟩
def PJ (r : Rd) : Rd := (A2 r).nx (2 + 2 * JG r)
theorem YE {r : Rd} (h : 0 ≤ r.p) (h1 : r.p ≤ 999999900) : 1 ≤ S1 r ∧ S1 r ≤ 9 := by
 have := Jn (r := r.nx 2) (l := [1, 4, 9]) (by rw [AK]; omega) (by rw [AK]; omega) (by decide)
 unfold S1
 simp only [List.mem_cons, List.not_mem_nil, or_false] at this
 omega
theorem lW {r : Rd} {m : Int} (h : 0 ≤ r.p) (h1 : r.p ≤ 999999950) (h2 : 0 ≤ m) : (M6 r m).b = r.b ∧ r.p + 1 ≤ (M6 r m).p ∧ (M6 r m).p ≤ r.p + 1 + m := by
 have := B7 (r := r) (n := m + 1) h (by omega)
 unfold M6
 rw [AK, B2]
 exact ⟨rfl, by omega, by omega⟩
theorem NY {r : Rd} (h : 0 ≤ r.p) (h1 : r.p ≤ 999999900) : (A2 r).b = r.b ∧ r.p + 4 ≤ (A2 r).p ∧ (A2 r).p ≤ r.p + 13 := by
 have h2 := YE h h1
 have h3 := lW (r := r.nx 3) (m := S1 r) (by rw [AK]; omega) (by rw [AK]; omega) (by omega)
 rw [AK, B2] at h3
 unfold A2
 exact ⟨h3.1, by omega, by omega⟩
theorem YC {r : Rd} (h : 0 ≤ r.p) (h1 : r.p ≤ 999999900) : 1 ≤ JG r ∧ JG r ≤ 4 := by
 have h2 := NY h h1
 have h3 := B7 (r := (A2 r).nx 1) (n := 4) (by rw [AK]; omega) (by rw [AK]; omega)
 unfold JG
 omega
theorem jp {r : Rd} (h : 0 ≤ r.p) (h1 : r.p ≤ 999999900) : (PJ r).b = r.b ∧ r.p + 4 ≤ (PJ r).p ∧ (PJ r).p ≤ r.p + 23 := by
 have h2 := NY h h1
 have h3 := YC h h1
 unfold PJ
 rw [AK, B2]
 exact ⟨h2.1, by omega, by omega⟩
theorem zU {a b : Ad} : ((decide (a.user = b.user) && decide (a.domain = b.domain)) = true) = (a = b) := by
 rw [Bj]; simp
theorem zV {a b : Ad} : ((decide (a.user = b.user) && decide (a.domain = b.domain)) = false) = ¬ a = b := by
 rw [Bj]; simp
theorem vH {r : Rd} : Gh (r.nx 2) [1, 4, 9] = S1 r := rfl
theorem rF {r : Rd} : M6 (r.nx 3) (S1 r) = A2 r := rfl
theorem vG {r : Rd} : 1 + Al ((A2 r).nx 1) 4 = JG r := rfl
def Vy : Mt := GW (lc EL l0) (fun p => 0 ≤ p.1.p ∧ p.1.p ≤ 999998000) (fun p => ([EL.enc (PJ p.1)], RP (YD p.1)))
section
attribute [local go_sem] tt Ts me HV AK B2 BD BK BS By Cg Bo Br A7 lm List.length_append List.length_cons List.length_nil List.map_append List.map_nil Nat.zero_add List.nil_append AS.opn AS.cls AS.nilb AS.renb AS.up Bool.not_false Bool.not_true List.set_set List.set_cons_zero List.set_cons_succ List.set_nil List.mem_singleton forall_eq Fo vH rF vG AZ JB JC JD FT FU
set_option maxHeartbeats 3200000 in
theorem eA {G : Gt} (hG : Ai G) (hh : G.e 72 = AM tt ∧ G.e 24 = AM Ts ∧ G.e 209 = AM me ∧ G.e 71 = AM HV) : Gd G 189 (AM Vy) := by
 refine JF (dp := fun n => !(Nat.beq n 100004 || Nat.beq n 100006)) (fn := Tryz.f189) (n := 1) rfl hG ?_
 rintro ⟨r, ⟨⟩⟩ hpre
 obtain ⟨h1, h2⟩ := hpre
 try dsimp only at h1 h2 ⊢
 have f1 := YE h1 (by omega)
 have f2 := NY h1 (by omega)
 have f3 := YC h1 (by omega)
 by_cases q : Al (A2 r) 5 = 0
 ·have hf : MS r = rJ := if_pos q
  simp -implicitDefEqProofs only [Tryz.f189, q, eq_self, decide_true, go_sem, hh, Int.reduceAdd, seval]
  with_reducible repeat' (first | apply ai | intro _ | ((first | apply s1 | apply s3 | apply s4) <;> intro hb <;> simp -implicitDefEqProofs only [hb, go_sem, hh, Int.reduceAdd, seval] <;> try simp only [qz] at hb))
  all_goals (try simp only [maxLen, tn] at *)
  all_goals first | rfl | omega | decide | assumption | skip
  refine AU (Le.nilb 1003 2 1907 true 2 rfl rfl rfl) (AR ?_)
  simp -implicitDefEqProofs only [go_sem, hh, Int.reduceAdd, seval]
  with_reducible repeat' (first | apply ai | intro _ | ((first | apply s1 | apply s3 | apply s4) <;> intro hb <;> simp -implicitDefEqProofs only [hb, go_sem, hh, Int.reduceAdd, seval] <;> try simp only [qz] at hb))
  all_goals (try simp only [maxLen, tn] at *)
  all_goals first | rfl | omega | decide | assumption | skip
  refine AF [] (ι := {i : Nat // (i : Int) ≤ JG r}) (fun ⟨i, _⟩ => ⟨[(0, .pb 1900 0), (2, .pb 1002 0), (3, .pb 1003 0), (4, .t (.v (.int .i64 (JG r - i))))], [(1900, some (.box [.t (.sl 1 ((A2 r).b.map CT)), .t (.v (.int .i64 ((A2 r).p + (2 + 2 * i))))])), (1002, some (.box [.t (.v (.string ⟨#[]⟩)), .t (.v (.string ⟨#[]⟩)), .nil, .nil])), (1003, some (.box [.t (.v (.string ⟨#[]⟩)), .t (.v (.string ⟨#[]⟩)), .h 1907, .h 1014])), (1014, some (.arr true 1 ((JA (r.nx 3) (S1 r)).map AH))), (1907, some (.arr true 2 ((DY ((A2 r).nx 2) i).map Az)))]⟩) (fun p => (JG r).toNat - p.1) ⟨0, by omega⟩ rfl ?_ ?_
  ·simp -implicitDefEqProofs only [go_sem, hh, Int.reduceAdd, seval]
   simp [DY]
  ·rintro ⟨i, hi⟩
   dsimp only
   have hlen := Jt ((A2 r).nx 2) i
   by_cases hlt : JG r - (i : Int) > 0
   ·simp -implicitDefEqProofs only [hlt, decide_true, tn, go_sem, hh, Int.reduceAdd, seval]
    with_reducible repeat' (first | apply ai | intro _ | ((first | apply s1 | apply s3 | apply s4) <;> intro hb <;> simp -implicitDefEqProofs only [hb, go_sem, hh, Int.reduceAdd, seval] <;> try simp only [qz] at hb))
    all_goals (try simp only [maxLen, tn] at *)
    all_goals first | rfl | omega | decide | assumption | skip
    refine AF [] (ι := {p : Nat × Bool // p.1 ≤ (DY ((A2 r).nx 2) i).length ∧ (p.2 = true ↔ ∃ j, j < p.1 ∧ (DY ((A2 r).nx 2) i).getD j default = (Ex ((A2 r).nx (2 + 2 * (i : Int)))))}) (fun ⟨⟨k, b⟩, _⟩ => ⟨[(0, .pb 1900 0), (2, .pb 1002 0), (3, .pb 1003 0), (4, .t (.v (.int .i64 (JG r - i)))), (5, .pb 1005 0), (6, .t (.v (.bool b))), (7, .t (.v (.int .i64 k)))], [(1900, some (.box [.t (.sl 1 ((A2 r).b.map CT)), .t (.v (.int .i64 ((A2 r).p + (4 + 2 * i))))])), (1002, some (.box [.t (.v (.string ⟨#[]⟩)), .t (.v (.string ⟨#[]⟩)), .nil, .nil])), (1003, some (.box [.t (.v (.string ⟨#[]⟩)), .t (.v (.string ⟨#[]⟩)), .h 1907, .h 1014])), (1005, some (.box ((Az (Ex ((A2 r).nx (2 + 2 * (i : Int))))).map .t))), (1014, some (.arr true 1 ((JA (r.nx 3) (S1 r)).map AH))), (1907, some (.arr true 2 ((DY ((A2 r).nx 2) i).map Az)))]⟩) (fun p => (DY ((A2 r).nx 2) i).length - p.1.1) ⟨(0, false), by simp, by simp⟩ rfl ?_ ?_
    ·simp -implicitDefEqProofs only [go_sem, hh, Int.reduceAdd, seval]
     try simp
     try omega
    ·rintro ⟨⟨k, b⟩, hk, hb2⟩
     dsimp only at hk hb2 ⊢
     by_cases hlt2 : (k : Int) < (DY ((A2 r).nx 2) i).length
     ·cases b
      ·have hn : ¬ ∃ j, j < k ∧ (DY ((A2 r).nx 2) i).getD j default = (Ex ((A2 r).nx (2 + 2 * (i : Int)))) := fun z => by have := hb2.2 z; cases this
       simp -implicitDefEqProofs only [hlt2, decide_true, tn, go_sem, hh, Int.reduceAdd, seval]
       with_reducible repeat' (first | apply ai | intro _ | ((first | apply s1 | apply s3 | apply s4) <;> intro hb <;> simp -implicitDefEqProofs only [hb, go_sem, hh, Int.reduceAdd, seval] <;> try simp only [qz] at hb))
       all_goals (try simp only [maxLen, tn, zU, zV] at *)
       all_goals first | rfl | omega | decide | assumption | skip
       refine ⟨⟨(k + 1, decide ((DY ((A2 r).nx 2) i).getD k default = (Ex ((A2 r).nx (2 + 2 * (i : Int)))))), by dsimp only; omega, by dsimp only; rw [decide_eq_true_eq]; exact ⟨fun z => ⟨k, by omega, z⟩, fun ⟨j, hj, z⟩ => by by_cases e : j = k; (rw [← e]; exact z); (exact absurd ⟨j, by omega, z⟩ hn)⟩⟩, by dsimp only; omega, ?_⟩
       simp -implicitDefEqProofs only [go_sem, hh, Int.reduceAdd, seval]
       simp [Bj]
      ·have hn : ∃ j, j < k ∧ (DY ((A2 r).nx 2) i).getD j default = (Ex ((A2 r).nx (2 + 2 * (i : Int)))) := hb2.1 rfl
       simp -implicitDefEqProofs only [hlt2, decide_true, tn, go_sem, hh, Int.reduceAdd, seval]
       with_reducible repeat' (first | apply ai | intro _ | ((first | apply s1 | apply s3 | apply s4) <;> intro hb <;> simp -implicitDefEqProofs only [hb, go_sem, hh, Int.reduceAdd, seval] <;> try simp only [qz] at hb))
       all_goals (try simp only [maxLen, tn] at *)
       all_goals first | rfl | omega | decide | assumption | skip
       refine ⟨⟨(k + 1, true), by dsimp only; omega, by dsimp only; exact ⟨fun _ => hn.elim fun j z => ⟨j, by omega, z.2⟩, fun _ => rfl⟩⟩, by dsimp only; omega, ?_⟩
       simp -implicitDefEqProofs only [go_sem, hh, Int.reduceAdd, seval]
       try simp
     ·have hE : b = true ↔ (Ex ((A2 r).nx (2 + 2 * (i : Int)))) ∈ DY ((A2 r).nx 2) i := hb2.trans ⟨fun ⟨j, hj, z⟩ => z ▸ AE (by omega), fun z => Classical.byContradiction fun f => by
        have := BX (P := fun x : Ad => ¬ x = (Ex ((A2 r).nx (2 + 2 * (i : Int))))) (xs := DY ((A2 r).nx 2) i) (fun j hj e => f ⟨j, by omega, e⟩) _ z
        exact this rfl⟩
      cases b
      ·have hm : ¬ Ex (((A2 r).nx 2).nx (2 * (i : Int))) ∈ DY ((A2 r).nx 2) i := fun z => by rw [By] at z; have := hE.2 z; cases this
       have hs := j8 hm
       simp -implicitDefEqProofs only [hlt2, decide_false, go_sem, hh, Int.reduceAdd, seval]
       with_reducible repeat' (first | apply ai | intro _ | ((first | apply s1 | apply s3 | apply s4) <;> intro hb <;> simp -implicitDefEqProofs only [hb, go_sem, hh, Int.reduceAdd, seval] <;> try simp only [qz] at hb))
       all_goals (try simp only [maxLen, tn] at *)
       all_goals first | rfl | omega | decide | assumption | skip
       refine AU (Le.renb 1003 2 1053 1907 rfl rfl rfl rfl) (AR ?_)
       simp -implicitDefEqProofs only [go_sem, hh, Int.reduceAdd, seval]
       with_reducible repeat' (first | apply ai | intro _ | ((first | apply s1 | apply s3 | apply s4) <;> intro hb <;> simp -implicitDefEqProofs only [hb, go_sem, hh, Int.reduceAdd, seval] <;> try simp only [qz] at hb))
       all_goals (try simp only [maxLen, tn] at *)
       all_goals first | rfl | omega | decide | assumption | skip
       refine ⟨⟨i + 1, by omega⟩, by dsimp only; omega, ?_⟩
       simp -implicitDefEqProofs only [hs, go_sem, hh, Int.reduceAdd, seval]
       simp [Kh, By]
       try omega
      ·have hm : Ex (((A2 r).nx 2).nx (2 * (i : Int))) ∈ DY ((A2 r).nx 2) i := by rw [By]; exact hE.1 rfl
       have hs := j9 hm
       simp -implicitDefEqProofs only [hlt2, decide_false, go_sem, hh, Int.reduceAdd, seval]
       with_reducible repeat' (first | apply ai | intro _ | ((first | apply s1 | apply s3 | apply s4) <;> intro hb <;> simp -implicitDefEqProofs only [hb, go_sem, hh, Int.reduceAdd, seval] <;> try simp only [qz] at hb))
       all_goals (try simp only [maxLen, tn] at *)
       all_goals first | rfl | omega | decide | assumption | skip
       refine AR ?_
       simp -implicitDefEqProofs only [go_sem, hh, Int.reduceAdd, seval]
       with_reducible repeat' (first | apply ai | intro _ | ((first | apply s1 | apply s3 | apply s4) <;> intro hb <;> simp -implicitDefEqProofs only [hb, go_sem, hh, Int.reduceAdd, seval] <;> try simp only [qz] at hb))
       all_goals (try simp only [maxLen, tn] at *)
       all_goals first | rfl | omega | decide | assumption | skip
       refine ⟨⟨i + 1, by omega⟩, by dsimp only; omega, ?_⟩
       simp -implicitDefEqProofs only [hs, go_sem, hh, Int.reduceAdd, seval]
       try simp
       try omega
   ·have hz : (i : Int) = JG r := by omega
    have hz2 : (JG r).toNat = i := by omega
    have e1 : PJ r = (A2 r).nx (2 + 2 * (i : Int)) := by unfold PJ; rw [hz]
    have e2 : YD r = ⟨rJ, DY ((A2 r).nx 2) i, JA (r.nx 3) (S1 r)⟩ := by unfold YD; rw [hf, hz2]
    rw [e1, e2]
    simp -implicitDefEqProofs only [hlt, decide_false, go_sem, hh, Int.reduceAdd, seval]
    with_reducible repeat' (first | apply ai | intro _ | ((first | apply s1 | apply s3 | apply s4) <;> intro hb <;> simp -implicitDefEqProofs only [hb, go_sem, hh, Int.reduceAdd, seval] <;> try simp only [qz] at hb))
    all_goals (try simp only [maxLen, tn] at *)
    all_goals first | rfl | omega | decide | assumption | skip
 ·have hf : MS r = Ex r := if_neg q
  simp -implicitDefEqProofs only [Tryz.f189, q, decide_false, go_sem, hh, Int.reduceAdd, seval]
  with_reducible repeat' (first | apply ai | intro _ | ((first | apply s1 | apply s3 | apply s4) <;> intro hb <;> simp -implicitDefEqProofs only [hb, go_sem, hh, Int.reduceAdd, seval] <;> try simp only [qz] at hb))
  all_goals (try simp only [maxLen, tn] at *)
  all_goals first | rfl | omega | decide | assumption | skip
  refine AU (Le.nilb 1003 2 1907 true 2 rfl rfl rfl) (AR ?_)
  simp -implicitDefEqProofs only [go_sem, hh, Int.reduceAdd, seval]
  with_reducible repeat' (first | apply ai | intro _ | ((first | apply s1 | apply s3 | apply s4) <;> intro hb <;> simp -implicitDefEqProofs only [hb, go_sem, hh, Int.reduceAdd, seval] <;> try simp only [qz] at hb))
  all_goals (try simp only [maxLen, tn] at *)
  all_goals first | rfl | omega | decide | assumption | skip
  refine AF [] (ι := {i : Nat // (i : Int) ≤ JG r}) (fun ⟨i, _⟩ => ⟨[(0, .pb 1900 0), (2, .pb 1002 0), (3, .pb 1003 0), (4, .t (.v (.int .i64 (JG r - i))))], [(1900, some (.box [.t (.sl 1 ((A2 r).b.map CT)), .t (.v (.int .i64 ((A2 r).p + (2 + 2 * i))))])), (1002, some (.box [.t (.v (.string ⟨#[]⟩)), .t (.v (.string ⟨#[]⟩)), .nil, .nil])), (1003, some (.box [.t (.v (.string (Ex r).user)), .t (.v (.string (Ex r).domain)), .h 1907, .h 1014])), (1014, some (.arr true 1 ((JA (r.nx 3) (S1 r)).map AH))), (1907, some (.arr true 2 ((DY ((A2 r).nx 2) i).map Az)))]⟩) (fun p => (JG r).toNat - p.1) ⟨0, by omega⟩ rfl ?_ ?_
  ·simp -implicitDefEqProofs only [go_sem, hh, Int.reduceAdd, seval]
   simp [DY]
  ·rintro ⟨i, hi⟩
   dsimp only
   have hlen := Jt ((A2 r).nx 2) i
   by_cases hlt : JG r - (i : Int) > 0
   ·simp -implicitDefEqProofs only [hlt, decide_true, tn, go_sem, hh, Int.reduceAdd, seval]
    with_reducible repeat' (first | apply ai | intro _ | ((first | apply s1 | apply s3 | apply s4) <;> intro hb <;> simp -implicitDefEqProofs only [hb, go_sem, hh, Int.reduceAdd, seval] <;> try simp only [qz] at hb))
    all_goals (try simp only [maxLen, tn] at *)
    all_goals first | rfl | omega | decide | assumption | skip
    refine AF [] (ι := {p : Nat × Bool // p.1 ≤ (DY ((A2 r).nx 2) i).length ∧ (p.2 = true ↔ ∃ j, j < p.1 ∧ (DY ((A2 r).nx 2) i).getD j default = (Ex ((A2 r).nx (2 + 2 * (i : Int)))))}) (fun ⟨⟨k, b⟩, _⟩ => ⟨[(0, .pb 1900 0), (2, .pb 1002 0), (3, .pb 1003 0), (4, .t (.v (.int .i64 (JG r - i)))), (5, .pb 1005 0), (6, .t (.v (.bool b))), (7, .t (.v (.int .i64 k)))], [(1900, some (.box [.t (.sl 1 ((A2 r).b.map CT)), .t (.v (.int .i64 ((A2 r).p + (4 + 2 * i))))])), (1002, some (.box [.t (.v (.string ⟨#[]⟩)), .t (.v (.string ⟨#[]⟩)), .nil, .nil])), (1003, some (.box [.t (.v (.string (Ex r).user)), .t (.v (.string (Ex r).domain)), .h 1907, .h 1014])), (1005, some (.box ((Az (Ex ((A2 r).nx (2 + 2 * (i : Int))))).map .t))), (1014, some (.arr true 1 ((JA (r.nx 3) (S1 r)).map AH))), (1907, some (.arr true 2 ((DY ((A2 r).nx 2) i).map Az)))]⟩) (fun p => (DY ((A2 r).nx 2) i).length - p.1.1) ⟨(0, false), by simp, by simp⟩ rfl ?_ ?_
    ·simp -implicitDefEqProofs only [go_sem, hh, Int.reduceAdd, seval]
     try simp
     try omega
    ·rintro ⟨⟨k, b⟩, hk, hb2⟩
     dsimp only at hk hb2 ⊢
     by_cases hlt2 : (k : Int) < (DY ((A2 r).nx 2) i).length
     ·cases b
      ·have hn : ¬ ∃ j, j < k ∧ (DY ((A2 r).nx 2) i).getD j default = (Ex ((A2 r).nx (2 + 2 * (i : Int)))) := fun z => by have := hb2.2 z; cases this
       simp -implicitDefEqProofs only [hlt2, decide_true, tn, go_sem, hh, Int.reduceAdd, seval]
       with_reducible repeat' (first | apply ai | intro _ | ((first | apply s1 | apply s3 | apply s4) <;> intro hb <;> simp -implicitDefEqProofs only [hb, go_sem, hh, Int.reduceAdd, seval] <;> try simp only [qz] at hb))
       all_goals (try simp only [maxLen, tn, zU, zV] at *)
       all_goals first | rfl | omega | decide | assumption | skip
       refine ⟨⟨(k + 1, decide ((DY ((A2 r).nx 2) i).getD k default = (Ex ((A2 r).nx (2 + 2 * (i : Int)))))), by dsimp only; omega, by dsimp only; rw [decide_eq_true_eq]; exact ⟨fun z => ⟨k, by omega, z⟩, fun ⟨j, hj, z⟩ => by by_cases e : j = k; (rw [← e]; exact z); (exact absurd ⟨j, by omega, z⟩ hn)⟩⟩, by dsimp only; omega, ?_⟩
       simp -implicitDefEqProofs only [go_sem, hh, Int.reduceAdd, seval]
       simp [Bj]
      ·have hn : ∃ j, j < k ∧ (DY ((A2 r).nx 2) i).getD j default = (Ex ((A2 r).nx (2 + 2 * (i : Int)))) := hb2.1 rfl
       simp -implicitDefEqProofs only [hlt2, decide_true, tn, go_sem, hh, Int.reduceAdd, seval]
       with_reducible repeat' (first | apply ai | intro _ | ((first | apply s1 | apply s3 | apply s4) <;> intro hb <;> simp -implicitDefEqProofs only [hb, go_sem, hh, Int.reduceAdd, seval] <;> try simp only [qz] at hb))
       all_goals (try simp only [maxLen, tn] at *)
       all_goals first | rfl | omega | decide | assumption | skip
       refine ⟨⟨(k + 1, true), by dsimp only; omega, by dsimp only; exact ⟨fun _ => hn.elim fun j z => ⟨j, by omega, z.2⟩, fun _ => rfl⟩⟩, by dsimp only; omega, ?_⟩
       simp -implicitDefEqProofs only [go_sem, hh, Int.reduceAdd, seval]
       try simp
     ·have hE : b = true ↔ (Ex ((A2 r).nx (2 + 2 * (i : Int)))) ∈ DY ((A2 r).nx 2) i := hb2.trans ⟨fun ⟨j, hj, z⟩ => z ▸ AE (by omega), fun z => Classical.byContradiction fun f => by
        have := BX (P := fun x : Ad => ¬ x = (Ex ((A2 r).nx (2 + 2 * (i : Int))))) (xs := DY ((A2 r).nx 2) i) (fun j hj e => f ⟨j, by omega, e⟩) _ z
        exact this rfl⟩
      cases b
      ·have hm : ¬ Ex (((A2 r).nx 2).nx (2 * (i : Int))) ∈ DY ((A2 r).nx 2) i := fun z => by rw [By] at z; have := hE.2 z; cases this
       have hs := j8 hm
       simp -implicitDefEqProofs only [hlt2, decide_false, go_sem, hh, Int.reduceAdd, seval]
       with_reducible repeat' (first | apply ai | intro _ | ((first | apply s1 | apply s3 | apply s4) <;> intro hb <;> simp -implicitDefEqProofs only [hb, go_sem, hh, Int.reduceAdd, seval] <;> try simp only [qz] at hb))
       all_goals (try simp only [maxLen, tn] at *)
       all_goals first | rfl | omega | decide | assumption | skip
       refine AU (Le.renb 1003 2 1053 1907 rfl rfl rfl rfl) (AR ?_)
       simp -implicitDefEqProofs only [go_sem, hh, Int.reduceAdd, seval]
       with_reducible repeat' (first | apply ai | intro _ | ((first | apply s1 | apply s3 | apply s4) <;> intro hb <;> simp -implicitDefEqProofs only [hb, go_sem, hh, Int.reduceAdd, seval] <;> try simp only [qz] at hb))
       all_goals (try simp only [maxLen, tn] at *)
       all_goals first | rfl | omega | decide | assumption | skip
       refine ⟨⟨i + 1, by omega⟩, by dsimp only; omega, ?_⟩
       simp -implicitDefEqProofs only [hs, go_sem, hh, Int.reduceAdd, seval]
       simp [Kh, By]
       try omega
      ·have hm : Ex (((A2 r).nx 2).nx (2 * (i : Int))) ∈ DY ((A2 r).nx 2) i := by rw [By]; exact hE.1 rfl
       have hs := j9 hm
       simp -implicitDefEqProofs only [hlt2, decide_false, go_sem, hh, Int.reduceAdd, seval]
       with_reducible repeat' (first | apply ai | intro _ | ((first | apply s1 | apply s3 | apply s4) <;> intro hb <;> simp -implicitDefEqProofs only [hb, go_sem, hh, Int.reduceAdd, seval] <;> try simp only [qz] at hb))
       all_goals (try simp only [maxLen, tn] at *)
       all_goals first | rfl | omega | decide | assumption | skip
       refine AR ?_
       simp -implicitDefEqProofs only [go_sem, hh, Int.reduceAdd, seval]
       with_reducible repeat' (first | apply ai | intro _ | ((first | apply s1 | apply s3 | apply s4) <;> intro hb <;> simp -implicitDefEqProofs only [hb, go_sem, hh, Int.reduceAdd, seval] <;> try simp only [qz] at hb))
       all_goals (try simp only [maxLen, tn] at *)
       all_goals first | rfl | omega | decide | assumption | skip
       refine ⟨⟨i + 1, by omega⟩, by dsimp only; omega, ?_⟩
       simp -implicitDefEqProofs only [hs, go_sem, hh, Int.reduceAdd, seval]
       try simp
       try omega
   ·have hz : (i : Int) = JG r := by omega
    have hz2 : (JG r).toNat = i := by omega
    have e1 : PJ r = (A2 r).nx (2 + 2 * (i : Int)) := by unfold PJ; rw [hz]
    have e2 : YD r = ⟨Ex r, DY ((A2 r).nx 2) i, JA (r.nx 3) (S1 r)⟩ := by unfold YD; rw [hf, hz2]
    rw [e1, e2]
    simp -implicitDefEqProofs only [hlt, decide_false, go_sem, hh, Int.reduceAdd, seval]
    with_reducible repeat' (first | apply ai | intro _ | ((first | apply s1 | apply s3 | apply s4) <;> intro hb <;> simp -implicitDefEqProofs only [hb, go_sem, hh, Int.reduceAdd, seval] <;> try simp only [qz] at hb))
    all_goals (try simp only [maxLen, tn] at *)
    all_goals first | rfl | omega | decide | assumption | skip
end
instance (n : Int) : Decidable (Ko n) := by unfold Ko; infer_instance
theorem aG (s : ByteArray) : Rs s ↔ (∀ b ∈ bl s, Ko (b.toNat : Int)) ∧ 1 ≤ s.size ∧ s.size ≤ 8 :=
 ⟨fun h => ⟨fun b hb => by
   obtain ⟨j, hj, e⟩ := HU hb
   rw [← e]; exact h.1 j hj, h.2⟩, fun h => ⟨fun j hj => by
   obtain ⟨b, hb, e⟩ := PI hj
   rw [e]; exact h.1 b hb, h.2⟩⟩
instance (s : ByteArray) : Decidable (Rs s) := decidable_of_iff _ (aG s).symm
instance (s : ByteArray) : Decidable (DG s) := by unfold DG; infer_instance
instance (s : ByteArray) : Decidable (Ie s) := decidable_of_iff _ (HK s).symm
theorem cQ : ∀ s ∈ uV, DG s := by decide +kernel
theorem iS : ∀ s ∈ wl, Rs s := by decide +kernel
theorem ff : ∀ s ∈ vB, Ie s := by decide +kernel
theorem QL {r : Rd} (h : 0 ≤ r.p) (h1 : r.p ≤ 999999990) : Bb (Ex r) :=
 ⟨iS _ (Hg h (by omega) (by decide)), cQ _ (Hg (r := r.nx 1) (by rw [AK]; omega) (by rw [AK]; omega) (by decide))⟩
theorem fh {r : Rd} (h : 0 ≤ r.p) (h1 : r.p ≤ 999999990) : Ie (fg r) := ff _ (Hg h (by omega) (by decide))
theorem bQ {r : Rd} {m : Int} (h : 0 ≤ r.p) (h1 : r.p ≤ 999999900) (h2 : 0 ≤ m) (h3 : m ≤ 12) : DZ (JA r m) := by
 have hb := B7 (r := r) (n := m + 1) h (by omega)
 unfold JA
 refine ⟨fun s hs => ?_, by rw [Og]; omega⟩
 unfold Ln at hs
 obtain ⟨j, hj, rfl⟩ := List.mem_map.1 hs
 rw [List.mem_range] at hj
 exact fh (by rw [AK, AK]; omega) (by rw [AK, AK]; omega)
theorem NX {r : Rd} (h : 0 ≤ r.p) (h1 : r.p ≤ 999999800) : DJ (YD r) := by
 have h2 := YE h (by omega)
 have h3 := NY h (by omega)
 have h4 := YC h (by omega)
 obtain ⟨k, hk⟩ : ∃ k, (JG r).toNat = k + 1 := ⟨(JG r).toNat - 1, by omega⟩
 refine ⟨fun a ha => ?_, Id _ _, ?_, ⟨?_, ?_⟩, bQ (by rw [AK]; omega) (by rw [AK]; omega) (by omega) (by omega)⟩
 ·obtain ⟨j, hj, rfl⟩ := N2 ha
  exact QL (by rw [AK, AK]; omega) (by rw [AK, AK]; omega)
 ·show Bb (MS r) ∨ Ab (MS r)
  unfold MS; split
  ·exact .inr ⟨rfl, rfl⟩
  ·exact .inl (QL h (by omega))
 ·show 1 ≤ (DY _ (JG r).toNat).length
  rw [hk]; exact sQ _ _
 ·have := Jt ((A2 r).nx 2) (JG r).toNat
  show (DY _ (JG r).toNat).length ≤ 4
  omega
theorem CW {a : Ad} (h : Bb a ∨ Ab a) : H6 a := by
 rcases h with h | h
 ·have h1 := (JY h.1).2
  have h2 := (C9 h.2).2
  exact ⟨by show a.user.size ≤ 1048576; omega, by show a.domain.size ≤ 1048576; omega⟩
 ·obtain ⟨u, d⟩ := a
  obtain ⟨h1, h2⟩ := h
  dsimp only at h1 h2
  subst h1; subst h2
  exact ⟨by show 0 ≤ 1048576; decide, by show 0 ≤ 1048576; decide⟩
theorem HH {b : List ByteArray} (h : DZ b) : Gl Bn b := ⟨by have := h.2; omega, fun s hs => by
 have := (h.1 s hs).2
 show s.size ≤ 1048576; omega⟩
theorem JZ {m : Ml} (h : DJ m) : Lj m := ⟨CW h.2.2.1, ⟨by have := h.2.2.2.1.2; omega, fun a ha => CW (.inl (h.1 a ha))⟩, HH h.2.2.2.2⟩
theorem aE {x : Im} (h : Dm x) : Ff x := ⟨CW h.2.2.2.1, ⟨by have := h.2.2.2.2.1.2; omega, fun r hr => CW (.inl (h.1 r hr).1)⟩, HH h.2.2.2.2.2⟩
theorem HL {s : Sp} (h : Bk s) : Fg s := ⟨by have := h.2.2.2; omega, fun x hx => aE (h.1 x hx).1⟩
structure Ds where
 s : Sp
 w : Int
 r : Rd
def Jh (z : Ds) : Int := z.w + Al z.r 5
def Gc (z : Ds) : Prop := (z.s.items.length : Int) = 0 ∨ Al (z.r.nx 1) 2 = 0
def Qt (z : Ds) : Rd := if (z.s.items.length : Int) = 0 then z.r.nx 1 else z.r.nx 2
def Qs (z : Ds) : Int := Al (z.r.nx 2) z.s.items.length
def cV (z : Ds) : Int := Al (z.r.nx 3) (z.s.items.getD (Qs z).toNat default).to.length
open Classical in
noncomputable def CO (z : Ds) : Ds :=
 if Gc z then (if CJ z.s then ⟨Ll z.s (YD (Qt z)) (Jh z), Jh z, PJ (Qt z)⟩ else ⟨z.s, Jh z, Qt z⟩)
 else if Al (z.r.nx 4) 2 = 0 then ⟨Cj z.s (Qs z).toNat (cV z).toNat, Jh z, z.r.nx 5⟩
 else ⟨(J3 z.s (Qs z).toNat (cV z).toNat (Jh z)).1, Jh z, z.r.nx 5⟩
noncomputable def Jg (z : Ds) : Nat → Ds
 | 0 => z
 | n + 1 => CO (Jg z n)
theorem Kf {z : Ds} (h : Gc z) (h2 : CJ z.s) : CO z = ⟨Ll z.s (YD (Qt z)) (Jh z), Jh z, PJ (Qt z)⟩ := by unfold CO; rw [if_pos h, if_pos h2]
theorem Kg {z : Ds} (h : Gc z) (h2 : ¬ CJ z.s) : CO z = ⟨z.s, Jh z, Qt z⟩ := by unfold CO; rw [if_pos h, if_neg h2]
theorem Oz {z : Ds} (h : ¬ Gc z) (h2 : Al (z.r.nx 4) 2 = 0) : CO z = ⟨Cj z.s (Qs z).toNat (cV z).toNat, Jh z, z.r.nx 5⟩ := by unfold CO; rw [if_neg h, if_pos h2]
theorem O0 {z : Ds} (h : ¬ Gc z) (h2 : ¬ Al (z.r.nx 4) 2 = 0) : CO z = ⟨(J3 z.s (Qs z).toNat (cV z).toNat (Jh z)).1, Jh z, z.r.nx 5⟩ := by unfold CO; rw [if_neg h, if_neg h2]
structure P5 (r : Rd) (i : Nat) (z : Ds) : Prop where
 sp : Bk z.s
 w0 : 0 ≤ z.w
 w1 : z.w ≤ 4 * i
 p0 : r.p ≤ z.r.p
 p1 : z.r.p ≤ r.p + 1 + 30 * i
 b : z.r.b = r.b
theorem aN {s : Sp} {i k : Nat} {w : Int} (h : Bk s) (hi : i < s.items.length) (hk : k < (s.items.getD i default).to.length) (hw : 0 ≤ w) : Bk (J3 s i k w).1 := by
 unfold J3; split
 ·exact h
 ·exact MR h hi hk (by assumption) hw
theorem jR {r : Rd} {i : Nat} {z : Ds} (h : P5 r i z) (h0 : 0 ≤ r.p) (h1 : r.p ≤ 999990000) (hi : i ≤ 9) (ha : ¬ Gc z) : (0 ≤ Qs z ∧ Qs z < z.s.items.length) ∧ 0 ≤ cV z ∧ cV z < (z.s.items.getD (Qs z).toNat default).to.length := by
 have a1 := h.p0; have a2 := h.p1
 have hb := B7 (r := z.r.nx 2) (n := z.s.items.length) (by rw [AK]; omega) (by rw [AK]; omega)
 have hc := B7 (r := z.r.nx 3) (n := (z.s.items.getD (Qs z).toNat default).to.length) (by rw [AK]; omega) (by rw [AK]; omega)
 have hl : ¬ (z.s.items.length : Int) = 0 := fun e => ha (.inl e)
 have q1 : 0 ≤ Qs z ∧ Qs z < z.s.items.length := by unfold Qs; omega
 have hx := (h.sp.1 _ (AE (xs := z.s.items) (j := (Qs z).toNat) (by omega))).1.2.2.2.2.1.1
 exact ⟨q1, by unfold cV; omega, by unfold cV; omega⟩
theorem jP {r : Rd} {i : Nat} {z : Ds} (h : P5 r i z) : (Qt z).b = r.b ∧ z.r.p + 1 ≤ (Qt z).p ∧ (Qt z).p ≤ z.r.p + 2 := by
 unfold Qt; split
 ·exact ⟨h.b, by rw [AK]; omega, by rw [AK]; omega⟩
 ·exact ⟨h.b, by rw [AK]; omega, by rw [AK]; omega⟩
theorem jQ {r : Rd} {i : Nat} {z : Ds} (h : P5 r i z) (h0 : 0 ≤ r.p) (h1 : r.p ≤ 999990000) (hi : i ≤ 9) : z.w ≤ Jh z ∧ Jh z ≤ z.w + 4 := by
 have a1 := h.p0; have a2 := h.p1
 have hb := B7 (r := z.r) (n := 5) (by omega) (by omega)
 unfold Jh; omega
theorem cW {r : Rd} {i : Nat} {z : Ds} (h : P5 r i z) (h0 : 0 ≤ r.p) (h1 : r.p ≤ 999990000) (hi : i ≤ 9) : P5 r (i + 1) (CO z) := by
 have a1 := h.p0; have a2 := h.p1; have a3 := h.w0; have a4 := h.w1
 have hw := jQ h h0 h1 hi
 have hR := jP h
 by_cases ha : Gc z
 ·by_cases hr : CJ z.s
  ·rw [Kf ha hr]
   have hm := jp (r := Qt z) (by omega) (by omega)
   exact ⟨H9 h.sp (NX (by omega) (by omega)) ⟨by omega, by omega⟩ hr, by show 0 ≤ Jh z; omega, by show Jh z ≤ _; omega, by show r.p ≤ (PJ _).p; omega, by show (PJ _).p ≤ _; omega, by show (PJ _).b = _; rw [hm.1, hR.1]⟩
  ·rw [Kg ha hr]
   exact ⟨h.sp, by show 0 ≤ Jh z; omega, by show Jh z ≤ _; omega, by show r.p ≤ (Qt z).p; omega, by show (Qt z).p ≤ _; omega, hR.1⟩
 ·obtain ⟨⟨i0, i1⟩, k0, k1⟩ := jR h h0 h1 hi ha
  by_cases hd : Al (z.r.nx 4) 2 = 0
  ·rw [Oz ha hd]
   exact ⟨Eh h.sp (by omega) (by omega), by show 0 ≤ Jh z; omega, by show Jh z ≤ _; omega, by show r.p ≤ z.r.p + 5; omega, by show z.r.p + 5 ≤ _; omega, h.b⟩
  ·rw [O0 ha hd]
   exact ⟨aN h.sp (by omega) (by omega) (by omega), by show 0 ≤ Jh z; omega, by show Jh z ≤ _; omega, by show r.p ≤ z.r.p + 5; omega, by show z.r.p + 5 ≤ _; omega, h.b⟩
def Ke (r : Rd) : Ds := ⟨⟨0, []⟩, 0, r.nx 1⟩
theorem VJ : Bk ⟨0, []⟩ := ⟨fun x hx => (by cases hx), fun j _ hj => absurd hj (Nat.not_lt_zero _), ⟨by decide, by decide⟩, Nat.zero_le _⟩
theorem NJ {r : Rd} (h0 : 0 ≤ r.p) (h1 : r.p ≤ 999990000) : ∀ i : Nat, i ≤ 9 → P5 r i (Jg (Ke r) i)
 | 0, _ => ⟨VJ, Int.le_refl 0, Int.le_refl 0, by show r.p ≤ r.p + 1; omega, by show r.p + 1 ≤ _; omega, rfl⟩
 | i + 1, h => cW (NJ h0 h1 i (by omega)) h0 h1 (by omega)
noncomputable def ER (r : Rd) : Sp := (Jg (Ke r) (Al r 9).toNat).s
noncomputable def Gi (r : Rd) : Rd := (Jg (Ke r) (Al r 9).toNat).r
theorem Y4 {r : Rd} (h0 : 0 ≤ r.p) (h1 : r.p ≤ 999990000) : Bk (ER r) ∧ (Gi r).b = r.b ∧ r.p ≤ (Gi r).p ∧ (Gi r).p ≤ r.p + 300 := by
 have hb := B7 (r := r) (n := 9) h0 (by omega)
 have h := NJ h0 h1 (Al r 9).toNat (by omega)
 exact ⟨h.sp, h.b, h.p0, by have := h.p1; unfold Gi; omega⟩
theorem uZ {z : Ds} : z.w + Al z.r 5 = Jh z := rfl
theorem uX {z : Ds} : Al (z.r.nx 2) (z.s.items.length : Int) = Qs z := rfl
theorem uY {z : Ds} : Al (z.r.nx 3) ((z.s.items.getD (Qs z).toNat default).to.length : Int) = cV z := rfl
def mM : Mt := GW (lc EL l0) (fun p => 0 ≤ p.1.p ∧ p.1.p ≤ 999980000) (fun p => ([EL.enc (Gi p.1)], RR (ER p.1)))
section
attribute [local go_sem] HV KV Vy QZ nR t6 t5 AK B2 BD BK BS By Cg Bo Br A7 lm List.length_append List.length_cons List.length_nil List.map_append List.map_nil Nat.zero_add List.nil_append AS.opn AS.cls AS.nilb AS.renb AS.up Bool.not_false Bool.not_true List.set_set List.set_cons_zero List.set_cons_succ List.set_nil List.mem_singleton forall_eq uZ uX uY gW Ae Ac Ic IL List.take_length List.drop_zero List.length_take List.length_drop List.map_cons
set_option maxHeartbeats 6400000 in
theorem dk {G : Gt} (hG : Ai G) (hh : G.e 71 = AM HV ∧ G.e 147 = AA 0 KV ∧ G.e 189 = AM Vy ∧ G.e 148 = AA 1 QZ ∧ G.e 92 = AA 1 nR ∧ G.e 93 = AA 1 t6 ∧ G.e 91 = AA 0 t5) : Gd G 160 (AM mM) := by
 refine JF (dp := fun n => !(Nat.beq n 100003)) (fn := Tryz.f160) (n := 1) rfl hG ?_
 rintro ⟨r, ⟨⟩⟩ hpre
 obtain ⟨h1, h2⟩ := hpre
 try dsimp only at h1 h2 ⊢
 have hb := B7 (r := r) (n := 9) h1 (by omega)
 obtain ⟨n, hn⟩ : ∃ n : Nat, n = (Al r 9).toNat := ⟨_, rfl⟩
 have hn2 : Al r 9 = n := by omega
 have e1 : Gi r = (Jg (Ke r) n).r := by unfold Gi; rw [← hn]
 have e2 : ER r = (Jg (Ke r) n).s := by unfold ER; rw [← hn]
 rw [e1, e2]
 simp -implicitDefEqProofs only [Tryz.f160, hn2, go_sem, hh, Int.reduceAdd, seval]
 with_reducible repeat' (first | apply ai | intro _ | ((first | apply s1 | apply s3 | apply s4) <;> intro hb <;> simp -implicitDefEqProofs only [hb, go_sem, hh, Int.reduceAdd, seval] <;> try simp only [qz] at hb))
 all_goals (try simp only [maxLen, tn] at *)
 all_goals first | rfl | omega | decide | assumption | skip
 refine AU (Le.nilb 1003 1 1907 true 5 rfl rfl rfl) (AU (Le.frzL [1907]) (AR ?_))
 simp -implicitDefEqProofs only [hn2, go_sem, hh, Int.reduceAdd, seval]
 with_reducible repeat' (first | apply ai | intro _ | ((first | apply s1 | apply s3 | apply s4) <;> intro hb <;> simp -implicitDefEqProofs only [hb, go_sem, hh, Int.reduceAdd, seval] <;> try simp only [qz] at hb))
 all_goals (try simp only [maxLen, tn] at *)
 all_goals first | rfl | omega | decide | assumption | skip
 refine AF [] (ι := {i : Nat // i ≤ n}) (fun ⟨i, _⟩ => ⟨[(0, .pb 1900 0), (2, .pb 1002 0), (3, .pb 1003 0), (4, .t (.v (.int .i64 (Jg (Ke r) i).w))), (5, .t (.v (.int .i64 (n - i))))], [(1900, some (.box [.t (.sl 1 ((Jg (Ke r) i).r.b.map CT)), .t (.v (.int .i64 (Jg (Ke r) i).r.p))])), (1002, some (.box [.t (.v (.int .i64 0)), .nil])), (1003, some (.box ((Dt (Jg (Ke r) i).s).map .t)))]⟩) (fun p => n - p.1) ⟨0, by omega⟩ rfl ?_ ?_
 ·simp -implicitDefEqProofs only [go_sem, hh, Int.reduceAdd, seval]
  simp [Jg, Ke, B2, AK]
  try rfl
 ·rintro ⟨i, hi⟩
  dsimp only
  by_cases hlt : (n : Int) - i > 0
  ·obtain ⟨z, hz⟩ : ∃ z, z = Jg (Ke r) i := ⟨_, rfl⟩
   have hok : P5 r i z := by rw [hz]; exact NJ h1 (by omega) i (by omega)
   have a1 := hok.p0; have a2 := hok.p1; have a3 := hok.w0; have a4 := hok.w1
   have hw := jQ hok h1 (by omega) (by omega)
   have hR := jP hok
   have zs := HL hok.sp
   have zo := hok.sp
   rw [← hz]
   by_cases L : (z.s.items.length : Int) = 0
   ·have ha : Gc z := .inl L
    have eR : Qt z = z.r.nx 1 := if_pos L
    by_cases hr : CJ z.s
    ·have b1 := Ap hr
     have zm := JZ (NX (r := z.r.nx 1) (by rw [AK]; omega) (by rw [AK]; omega))
     have hs : Jg (Ke r) (i + 1) = _ := (show Jg (Ke r) (i + 1) = CO z by rw [hz]; rfl).trans (eR ▸ Kf ha hr)
     simp -implicitDefEqProofs only [hlt, L, b1, eq_self, decide_true, decide_false, tn, go_sem, hh, Int.reduceAdd, seval]
     with_reducible repeat' (first | apply ai | intro _ | ((first | apply s1 | apply s3 | apply s4) <;> intro hb <;> simp -implicitDefEqProofs only [hb, go_sem, hh, Int.reduceAdd, seval] <;> try simp only [qz] at hb))
     all_goals (try simp only [maxLen, tn] at *)
     all_goals first | rfl | omega | decide | assumption | skip
     refine ⟨⟨i + 1, by omega⟩, by dsimp only; omega, ?_⟩
     simp -implicitDefEqProofs only [hs, go_sem, hh, Int.reduceAdd, seval]
     try simp
     try omega
    ·have b1 := AN hr
     have hs : Jg (Ke r) (i + 1) = _ := (show Jg (Ke r) (i + 1) = CO z by rw [hz]; rfl).trans (eR ▸ Kg ha hr)
     simp -implicitDefEqProofs only [hlt, L, b1, eq_self, decide_true, decide_false, tn, go_sem, hh, Int.reduceAdd, seval]
     with_reducible repeat' (first | apply ai | intro _ | ((first | apply s1 | apply s3 | apply s4) <;> intro hb <;> simp -implicitDefEqProofs only [hb, go_sem, hh, Int.reduceAdd, seval] <;> try simp only [qz] at hb))
     all_goals (try simp only [maxLen, tn] at *)
     all_goals first | rfl | omega | decide | assumption | skip
     refine ⟨⟨i + 1, by omega⟩, by dsimp only; omega, ?_⟩
     simp -implicitDefEqProofs only [hs, go_sem, hh, Int.reduceAdd, seval]
     try simp
     try omega
   ·by_cases Q : Al (z.r.nx 1) 2 = 0
    ·have ha : Gc z := .inr Q
     have eR : Qt z = z.r.nx 2 := if_neg L
     by_cases hr : CJ z.s
     ·have b1 := Ap hr
      have zm := JZ (NX (r := z.r.nx 2) (by rw [AK]; omega) (by rw [AK]; omega))
      have hs : Jg (Ke r) (i + 1) = _ := (show Jg (Ke r) (i + 1) = CO z by rw [hz]; rfl).trans (eR ▸ Kf ha hr)
      simp -implicitDefEqProofs only [hlt, L, Q, b1, eq_self, decide_true, decide_false, tn, go_sem, hh, Int.reduceAdd, seval]
      with_reducible repeat' (first | apply ai | intro _ | ((first | apply s1 | apply s3 | apply s4) <;> intro hb <;> simp -implicitDefEqProofs only [hb, go_sem, hh, Int.reduceAdd, seval] <;> try simp only [qz] at hb))
      all_goals (try simp only [maxLen, tn] at *)
      all_goals first | rfl | omega | decide | assumption | skip
      refine ⟨⟨i + 1, by omega⟩, by dsimp only; omega, ?_⟩
      simp -implicitDefEqProofs only [hs, go_sem, hh, Int.reduceAdd, seval]
      try simp
      try omega
     ·have b1 := AN hr
      have hs : Jg (Ke r) (i + 1) = _ := (show Jg (Ke r) (i + 1) = CO z by rw [hz]; rfl).trans (eR ▸ Kg ha hr)
      simp -implicitDefEqProofs only [hlt, L, Q, b1, eq_self, decide_true, decide_false, tn, go_sem, hh, Int.reduceAdd, seval]
      with_reducible repeat' (first | apply ai | intro _ | ((first | apply s1 | apply s3 | apply s4) <;> intro hb <;> simp -implicitDefEqProofs only [hb, go_sem, hh, Int.reduceAdd, seval] <;> try simp only [qz] at hb))
      all_goals (try simp only [maxLen, tn] at *)
      all_goals first | rfl | omega | decide | assumption | skip
      refine ⟨⟨i + 1, by omega⟩, by dsimp only; omega, ?_⟩
      simp -implicitDefEqProofs only [hs, go_sem, hh, Int.reduceAdd, seval]
      try simp
      try omega
    ·have ha : ¬ Gc z := fun f => f.elim L Q
     obtain ⟨⟨i0, i1⟩, k0, k1⟩ := jR hok h1 (by omega) (by omega) ha
     by_cases D : Al (z.r.nx 4) 2 = 0
     ·skip
      have hs : Jg (Ke r) (i + 1) = _ := (show Jg (Ke r) (i + 1) = CO z by rw [hz]; rfl).trans (Oz ha D)
      simp -implicitDefEqProofs only [hlt, L, Q, D, eq_self, decide_true, decide_false, tn, go_sem, hh, Int.reduceAdd, seval]
      with_reducible repeat' (first | apply ai | intro _ | ((first | apply s1 | apply s3 | apply s4) <;> intro hb <;> simp -implicitDefEqProofs only [hb, go_sem, hh, Int.reduceAdd, seval] <;> try simp only [qz] at hb))
      all_goals (try simp only [maxLen, tn] at *)
      all_goals first | rfl | omega | decide | assumption | skip
      refine ⟨⟨i + 1, by omega⟩, by dsimp only; omega, ?_⟩
      simp -implicitDefEqProofs only [hs, go_sem, hh, Int.reduceAdd, seval]
      try simp
      try omega
     ·skip
      have hs : Jg (Ke r) (i + 1) = _ := (show Jg (Ke r) (i + 1) = CO z by rw [hz]; rfl).trans (O0 ha D)
      simp -implicitDefEqProofs only [hlt, L, Q, D, eq_self, decide_true, decide_false, tn, go_sem, hh, Int.reduceAdd, seval]
      with_reducible repeat' (first | apply ai | intro _ | ((first | apply s1 | apply s3 | apply s4) <;> intro hb <;> simp -implicitDefEqProofs only [hb, go_sem, hh, Int.reduceAdd, seval] <;> try simp only [qz] at hb))
      all_goals (try simp only [maxLen, tn] at *)
      all_goals first | rfl | omega | decide | assumption | skip
      refine ⟨⟨i + 1, by omega⟩, by dsimp only; omega, ?_⟩
      simp -implicitDefEqProofs only [hs, go_sem, hh, Int.reduceAdd, seval]
      try simp
      try omega
  ·have hz : i = n := by omega
   subst hz
   have hok := NJ h1 (show r.p ≤ 999990000 by omega) i (by omega)
   have zs := HL hok.sp
   simp -implicitDefEqProofs only [hlt, decide_false, go_sem, hh, Int.reduceAdd, seval]
   with_reducible repeat' (first | apply ai | intro _ | ((first | apply s1 | apply s3 | apply s4) <;> intro hb <;> simp -implicitDefEqProofs only [hb, go_sem, hh, Int.reduceAdd, seval] <;> try simp only [qz] at hb))
   all_goals (try simp only [maxLen, tn] at *)
   all_goals first | rfl | omega | decide | assumption | skip
end
def Y2 (s : Sp) (k : Nat) (n : Int) : Sp := ⟨s.last, s.items.set k ⟨n, (s.items.getD k default).frm, (s.items.getD k default).to, (s.items.getD k default).body⟩⟩
def Pk (s : Sp) (k : Nat) (l : List Rc) : Sp := ⟨s.last, s.items.set k ⟨(s.items.getD k default).id, (s.items.getD k default).frm, l, (s.items.getD k default).body⟩⟩
def F8 (l : List Rc) (n : Int) : List Rc := l.set 0 ⟨(l.getD 0 default).addr, n, (l.getD 0 default).next⟩
noncomputable def IA (r : Rd) : Int := Al (Gi r) (ER r).items.length
noncomputable def Lm (r : Rd) : Int := Al ((Gi r).nx 1) 14
noncomputable def Jb (r : Rd) : Sp × Rd :=
 if ((ER r).items.length : Int) > 0 then
  (if Lm r = 0 then (Y2 (ER r) (IA r).toNat (Gh ((Gi r).nx 2) [0, 1, 99]), (Gi r).nx 3)
   else if Lm r = 1 then (Pk (ER r) (IA r).toNat [], (Gi r).nx 2)
   else if Lm r = 2 then (Pk (ER r) (IA r).toNat (F8 ((ER r).items.getD (IA r).toNat default).to (Gh ((Gi r).nx 2) [-1, 4])), (Gi r).nx 3)
   else if Lm r = 3 then (⟨Gh ((Gi r).nx 2) [-1, 0, 1000, 999], (ER r).items⟩, (Gi r).nx 3)
   else (ER r, (Gi r).nx 2))
 else (ER r, Gi r)
theorem ir {r : Rd} (h : ¬ ((ER r).items.length : Int) > 0) : Jb r = (ER r, Gi r) := if_neg h
theorem il {r : Rd} (h : ((ER r).items.length : Int) > 0) (c : Lm r = 0) : Jb r = (Y2 (ER r) (IA r).toNat (Gh ((Gi r).nx 2) [0, 1, 99]), (Gi r).nx 3) := by unfold Jb; rw [if_pos h, if_pos c]
theorem im {r : Rd} (h : ((ER r).items.length : Int) > 0) (c : Lm r = 1) : Jb r = (Pk (ER r) (IA r).toNat [], (Gi r).nx 2) := by unfold Jb; rw [if_pos h, if_neg (by omega), if_pos c]
theorem io {r : Rd} (h : ((ER r).items.length : Int) > 0) (c : Lm r = 2) : Jb r = (Pk (ER r) (IA r).toNat (F8 ((ER r).items.getD (IA r).toNat default).to (Gh ((Gi r).nx 2) [-1, 4])), (Gi r).nx 3) := by unfold Jb; rw [if_pos h, if_neg (by omega), if_neg (by omega), if_pos c]
theorem ip {r : Rd} (h : ((ER r).items.length : Int) > 0) (c : Lm r = 3) : Jb r = (⟨Gh ((Gi r).nx 2) [-1, 0, 1000, 999], (ER r).items⟩, (Gi r).nx 3) := by unfold Jb; rw [if_pos h, if_neg (by omega), if_neg (by omega), if_neg (by omega), if_pos c]
theorem iq {r : Rd} (h : ((ER r).items.length : Int) > 0) (c : ¬ Lm r = 0 ∧ ¬ Lm r = 1 ∧ ¬ Lm r = 2 ∧ ¬ Lm r = 3) : Jb r = (ER r, (Gi r).nx 2) := by unfold Jb; rw [if_pos h, if_neg c.1, if_neg c.2.1, if_neg c.2.2.1, if_neg c.2.2.2]
theorem CN {s : Sp} {k : Nat} {n : Int} : (s.items.map Ag).set k [.v (.int .i64 n), .v (.string (s.items.getD k default).frm.user), .v (.string (s.items.getD k default).frm.domain), .sl 4 ((s.items.getD k default).to.map BJ), .sl 1 ((s.items.getD k default).body.map AH)] = (Y2 s k n).items.map Ag := by
 show _ = (s.items.set k _).map Ag
 rw [List.map_set]; rfl
theorem A4 {s : Sp} {k : Nat} {l : List Rc} : (s.items.map Ag).set k [.v (.int .i64 (s.items.getD k default).id), .v (.string (s.items.getD k default).frm.user), .v (.string (s.items.getD k default).frm.domain), .sl 4 (l.map BJ), .sl 1 ((s.items.getD k default).body.map AH)] = (Pk s k l).items.map Ag := by
 show _ = (s.items.set k _).map Ag
 rw [List.map_set]; rfl
theorem ZI {l : List Rc} {n : Int} : (l.map BJ).set 0 [.v (.string (l.getD 0 default).addr.user), .v (.string (l.getD 0 default).addr.domain), .v (.int .i64 n), .v (.int .i64 (l.getD 0 default).next)] = (F8 l n).map BJ := by
 unfold F8
 rw [List.map_set]; rfl
theorem z8 : (0 : Int).toNat = 0 := rfl
theorem tc {r : Rd} : Al (Gi r) ((ER r).items.length : Int) = IA r := rfl
theorem ta {r : Rd} : Al ((Gi r).nx 1) 14 = Lm r := rfl
theorem J2 {s : Sp} (h : Fg s) {k : Nat} {x : Im} (hx : Ff x) : Fg ⟨s.last, s.items.set k x⟩ := ⟨by show ((s.items.set k x).length : Int) ≤ 1048576; rw [List.length_set]; exact h.1, fun y hy => by
 rcases List.mem_or_eq_of_mem_set hy with hy | rfl
 ·exact h.2 y hy
 ·exact hx⟩
theorem VY {r : Rd} (h0 : 0 ≤ r.p) (h1 : r.p ≤ 999980000) : Fg (Jb r).1 ∧ (Jb r).2.b = r.b ∧ r.p ≤ (Jb r).2.p ∧ (Jb r).2.p ≤ r.p + 303 := by
 obtain ⟨a1, a2, a3, a4⟩ := Y4 h0 (show r.p ≤ 999990000 by omega)
 have zs := HL a1
 by_cases h : ((ER r).items.length : Int) > 0
 ·have hb := B7 (r := Gi r) (n := (ER r).items.length) (by omega) (by omega)
  have hx : Ff ((ER r).items.getD (IA r).toNat default) := zs.2 _ (AE (by unfold IA; omega))
  by_cases c0 : Lm r = 0
  ·rw [il h c0]; exact ⟨J2 zs ⟨hx.1, hx.2.1, hx.2.2⟩, a2, by rw [AK]; omega, by rw [AK]; omega⟩
  ·by_cases c1 : Lm r = 1
   ·rw [im h c1]; exact ⟨J2 zs ⟨hx.1, ⟨by show ((0 : Nat) : Int) ≤ 1048576; decide, fun _ q => by cases q⟩, hx.2.2⟩, a2, by rw [AK]; omega, by rw [AK]; omega⟩
   ·by_cases c2 : Lm r = 2
    ·rw [io h c2]
     refine ⟨J2 zs ⟨hx.1, ⟨?_, fun y hy => ?_⟩, hx.2.2⟩, a2, by rw [AK]; omega, by rw [AK]; omega⟩
     ·show ((F8 _ _).length : Int) ≤ _
      unfold F8; rw [List.length_set]; exact hx.2.1.1
     ·have hy : y ∈ F8 _ _ := hy
      unfold F8 at hy
      have hl : 0 < ((ER r).items.getD (IA r).toNat default).to.length := (a1.1 _ (AE (xs := (ER r).items) (j := (IA r).toNat) (by unfold IA; omega))).1.2.2.2.2.1.1
      rcases List.mem_or_eq_of_mem_set hy with hy | rfl
      ·exact hx.2.1.2 y hy
      ·have := hx.2.1.2 _ (AE hl)
       exact this
    ·by_cases c3 : Lm r = 3
     ·rw [ip h c3]; exact ⟨zs, a2, by rw [AK]; omega, by rw [AK]; omega⟩
     ·rw [iq h ⟨c0, c1, c2, c3⟩]; exact ⟨zs, a2, by rw [AK]; omega, by rw [AK]; omega⟩
 ·rw [ir h]; exact ⟨zs, a2, a3, by show (Gi r).p ≤ _; omega⟩
def lr : Mt := GW (lc EL l0) (fun p => 0 ≤ p.1.p ∧ p.1.p ≤ 999980000) (fun p => ([EL.enc (Jb p.1).2], RR (Jb p.1).1))
section
attribute [local go_sem] mM HV Ts AK B2 BD BK BS By Cg Bo Br A7 lm List.length_append List.length_cons List.length_nil List.map_append List.map_nil Nat.zero_add List.nil_append AS.opn AS.cls AS.nilb AS.renb AS.up Bool.not_false Bool.not_true List.set_set List.set_cons_zero List.set_cons_succ List.set_nil List.mem_singleton forall_eq tc ta Fo AZ BQ JB JC JD FT FU
set_option maxHeartbeats 6400000 in
theorem cy {G : Gt} (hG : Ai G) (hh : G.e 160 = AM mM ∧ G.e 71 = AM HV ∧ G.e 24 = AM Ts) : Gd G 112 (AM lr) := by
 refine JF (dp := fun n => !(Nat.beq n 100010 || Nat.beq n 100013)) (fn := Tryz.f112) (n := 1) rfl hG ?_
 rintro ⟨r, ⟨⟩⟩ hpre
 obtain ⟨h1, h2⟩ := hpre
 try dsimp only at h1 h2 ⊢
 obtain ⟨a1, a2, a3, a4⟩ := Y4 h1 (show r.p ≤ 999990000 by omega)
 have zs := HL a1
 by_cases h : ((ER r).items.length : Int) > 0
 ·have hb := B7 (r := Gi r) (n := (ER r).items.length) (by omega) (by omega)
  have hk : 0 ≤ IA r ∧ IA r < (ER r).items.length := by unfold IA; omega
  by_cases c0 : Lm r = 0
  ·skip
   rw [il h c0]
   simp -implicitDefEqProofs only [Tryz.f112, h, c0, eq_self, decide_true, decide_false, Int.reduceEq, go_sem, hh, Int.reduceAdd, seval]
   with_reducible repeat' (first | apply ai | intro _ | ((first | apply s1 | apply s3 | apply s4) <;> intro hb <;> simp -implicitDefEqProofs only [hb, go_sem, hh, Int.reduceAdd, seval] <;> try simp only [qz] at hb))
   all_goals (try simp only [maxLen, tn] at *)
   all_goals first | rfl | omega | decide | assumption | exact CN | exact A4 | exact A4 (l := []) | skip
   all_goals first | (refine AR ?_) | skip
   simp -implicitDefEqProofs only [go_sem, hh, Int.reduceAdd, seval]
   with_reducible repeat' (first | apply ai | intro _ | ((first | apply s1 | apply s3 | apply s4) <;> intro hb <;> simp -implicitDefEqProofs only [hb, go_sem, hh, Int.reduceAdd, seval] <;> try simp only [qz] at hb))
   all_goals (try simp only [maxLen, tn] at *)
   all_goals first | rfl | omega | decide | assumption | exact CN | exact A4 | exact A4 (l := []) | skip
   trace_state
  ·by_cases c1 : Lm r = 1
   ·skip
    rw [im h c1]
    simp -implicitDefEqProofs only [Tryz.f112, h, c1, eq_self, decide_true, decide_false, Int.reduceEq, go_sem, hh, Int.reduceAdd, seval]
    with_reducible repeat' (first | apply ai | intro _ | ((first | apply s1 | apply s3 | apply s4) <;> intro hb <;> simp -implicitDefEqProofs only [hb, go_sem, hh, Int.reduceAdd, seval] <;> try simp only [qz] at hb))
    all_goals (try simp only [maxLen, tn] at *)
    all_goals first | rfl | omega | decide | assumption | exact CN | exact A4 | exact A4 (l := []) | skip
    refine AU (Le.setn 1006 (IA r).toNat (e' := [.v (.int .i64 ((ER r).items.getD (IA r).toNat default).id), .v (.string ((ER r).items.getD (IA r).toNat default).frm.user), .v (.string ((ER r).items.getD (IA r).toNat default).frm.domain), .sl 4 [], .sl 1 (((ER r).items.getD (IA r).toNat default).body.map AH)]) rfl (.cons (.same _) (.cons (.same _) (.cons (.same _) (.cons (.nil _) (.cons (.same _) .nil)))))) (AR ?_)
    simp -implicitDefEqProofs only [go_sem, hh, Int.reduceAdd, seval]
    with_reducible repeat' (first | apply ai | intro _ | ((first | apply s1 | apply s3 | apply s4) <;> intro hb <;> simp -implicitDefEqProofs only [hb, go_sem, hh, Int.reduceAdd, seval] <;> try simp only [qz] at hb))
    all_goals (try simp only [maxLen, tn] at *)
    all_goals first | rfl | omega | decide | assumption | exact CN | exact A4 | exact A4 (l := []) | skip
    trace_state
   ·by_cases c2 : Lm r = 2
    ·skip
     rw [io h c2]
     simp -implicitDefEqProofs only [Tryz.f112, h, c2, eq_self, decide_true, decide_false, Int.reduceEq, go_sem, hh, Int.reduceAdd, seval]
     with_reducible repeat' (first | apply ai | intro _ | ((first | apply s1 | apply s3 | apply s4) <;> intro hb <;> simp -implicitDefEqProofs only [hb, go_sem, hh, Int.reduceAdd, seval] <;> try simp only [qz] at hb))
     all_goals (try simp only [maxLen, tn] at *)
     all_goals first | rfl | omega | decide | assumption | exact CN | exact A4 | exact A4 (l := []) | skip
     have hkl : (IA r).toNat < ((ER r).items.map Ag).length := by rw [lm]; omega
     have hto : 0 < ((ER r).items.getD (IA r).toNat default).to.length := (a1.1 _ (AE (xs := (ER r).items) (j := (IA r).toNat) (by omega))).1.2.2.2.2.1.1
     refine F4 1006 1910 2910 (IA r).toNat 3 rfl (Jm Ag (by omega)) rfl rfl fun x => AR ?_
     simp -implicitDefEqProofs only [Ea hkl, Eb hkl, List.length_set, z8, go_sem, hh, Int.reduceAdd, seval]
     with_reducible repeat' (first | apply ai | intro _ | ((first | apply s1 | apply s3 | apply s4) <;> intro hb <;> simp -implicitDefEqProofs only [hb, go_sem, hh, Int.reduceAdd, seval] <;> try simp only [qz] at hb))
     all_goals (try simp only [maxLen, tn] at *)
     all_goals first | rfl | omega | decide | assumption | exact CN | exact A4 | exact A4 (l := []) | (show AY _ = true; rfl) | skip
     refine MY 1006 1910 2910 (IA r).toNat 3 rfl (Nx hkl _) rfl rfl rfl rfl (AR ?_)
     simp -implicitDefEqProofs only [ZI, go_sem, hh, Int.reduceAdd, seval]
     with_reducible repeat' (first | apply ai | intro _ | ((first | apply s1 | apply s3 | apply s4) <;> intro hb <;> simp -implicitDefEqProofs only [hb, go_sem, hh, Int.reduceAdd, seval] <;> try simp only [qz] at hb))
     all_goals (try simp only [maxLen, tn] at *)
     all_goals first | rfl | omega | decide | assumption | exact CN | exact A4 | exact A4 (l := []) | skip
     trace_state
    ·by_cases c3 : Lm r = 3
     ·skip
      rw [ip h c3]
      simp -implicitDefEqProofs only [Tryz.f112, h, c3, eq_self, decide_true, decide_false, Int.reduceEq, go_sem, hh, Int.reduceAdd, seval]
      with_reducible repeat' (first | apply ai | intro _ | ((first | apply s1 | apply s3 | apply s4) <;> intro hb <;> simp -implicitDefEqProofs only [hb, go_sem, hh, Int.reduceAdd, seval] <;> try simp only [qz] at hb))
      all_goals (try simp only [maxLen, tn] at *)
      all_goals first | rfl | omega | decide | assumption | exact CN | exact A4 | exact A4 (l := []) | skip
      all_goals first | (refine AR ?_) | skip
      simp -implicitDefEqProofs only [go_sem, hh, Int.reduceAdd, seval]
      with_reducible repeat' (first | apply ai | intro _ | ((first | apply s1 | apply s3 | apply s4) <;> intro hb <;> simp -implicitDefEqProofs only [hb, go_sem, hh, Int.reduceAdd, seval] <;> try simp only [qz] at hb))
      all_goals (try simp only [maxLen, tn] at *)
      all_goals first | rfl | omega | decide | assumption | exact CN | exact A4 | exact A4 (l := []) | skip
      trace_state
     ·skip
      rw [iq h ⟨c0, c1, c2, c3⟩]
      simp -implicitDefEqProofs only [Tryz.f112, h, c0, c1, c2, c3, eq_self, decide_true, decide_false, Int.reduceEq, go_sem, hh, Int.reduceAdd, seval]
      with_reducible repeat' (first | apply ai | intro _ | ((first | apply s1 | apply s3 | apply s4) <;> intro hb <;> simp -implicitDefEqProofs only [hb, go_sem, hh, Int.reduceAdd, seval] <;> try simp only [qz] at hb))
      all_goals (try simp only [maxLen, tn] at *)
      all_goals first | rfl | omega | decide | assumption | exact CN | exact A4 | exact A4 (l := []) | skip
      all_goals first | (refine AR ?_) | skip
      simp -implicitDefEqProofs only [go_sem, hh, Int.reduceAdd, seval]
      with_reducible repeat' (first | apply ai | intro _ | ((first | apply s1 | apply s3 | apply s4) <;> intro hb <;> simp -implicitDefEqProofs only [hb, go_sem, hh, Int.reduceAdd, seval] <;> try simp only [qz] at hb))
      all_goals (try simp only [maxLen, tn] at *)
      all_goals first | rfl | omega | decide | assumption | exact CN | exact A4 | exact A4 (l := []) | skip
      trace_state
 ·skip
  rw [ir h]
  simp -implicitDefEqProofs only [Tryz.f112, h, eq_self, decide_true, decide_false, Int.reduceEq, go_sem, hh, Int.reduceAdd, seval]
  with_reducible repeat' (first | apply ai | intro _ | ((first | apply s1 | apply s3 | apply s4) <;> intro hb <;> simp -implicitDefEqProofs only [hb, go_sem, hh, Int.reduceAdd, seval] <;> try simp only [qz] at hb))
  all_goals (try simp only [maxLen, tn] at *)
  all_goals first | rfl | omega | decide | assumption | exact CN | exact A4 | exact A4 (l := []) | skip
  all_goals first | (refine AR ?_) | skip
  simp -implicitDefEqProofs only [go_sem, hh, Int.reduceAdd, seval]
  with_reducible repeat' (first | apply ai | intro _ | ((first | apply s1 | apply s3 | apply s4) <;> intro hb <;> simp -implicitDefEqProofs only [hb, go_sem, hh, Int.reduceAdd, seval] <;> try simp only [qz] at hb))
  all_goals (try simp only [maxLen, tn] at *)
  all_goals first | rfl | omega | decide | assumption | exact CN | exact A4 | exact A4 (l := []) | skip
  trace_state
end
def opn (b : List UInt8) : Rd := ⟨if (b.length : Int) > 2000 then b.take 2000 else b, 0⟩
theorem vW {b : List UInt8} (h : (b.length : Int) > 2000) : opn b = ⟨b.take 2000, 0⟩ := by unfold opn; rw [if_pos h]
theorem vV {b : List UInt8} (h : ¬ (b.length : Int) > 2000) : opn b = ⟨b, 0⟩ := by unfold opn; rw [if_neg h]
theorem I1 (b : List UInt8) : (opn b).p = 0 := rfl
theorem vU (b : List UInt8) : (⟨(opn b).b, 0⟩ : Rd) = opn b := rfl
theorem ym {b : List UInt8} {k : Nat} : List.take k (b.map CT) = (b.take k).map CT := by rw [List.map_take]
theorem QAA : (2000 : Int).toNat = 2000 := rfl
def xV : Ct := Aq (lc Lg.asl l0) (fun p => True) (fun p => EL.enc (opn p.1))
section
attribute [local go_sem] JV Rp BS NT ym QAA BD lm List.drop_zero A7 AS.opn AS.cls AS.nilb AS.renb AS.up Bool.not_false Bool.not_true List.set_set List.set_cons_zero List.set_cons_succ List.set_nil List.mem_singleton forall_eq
set_option maxHeartbeats 800000 in
theorem pS {G : Gt} (hG : Ai G) : Gd G 21 (AA 1 xV) := by
 refine gr (fn := Tryz.f21) (n := 1) rfl hG ?_
 rintro ⟨b, ⟨⟩⟩ hpre
 dsimp only
 by_cases L : (b.length : Int) > 2000
 ·rw [vW L]
  simp -implicitDefEqProofs only [Tryz.f21, L, decide_true, go_sem, seval]
  with_reducible repeat' (first | apply ai | intro _ | ((first | apply s1 | apply s3 | apply s4) <;> intro hb <;> simp -implicitDefEqProofs only [hb, go_sem, seval] <;> try simp only [qz] at hb))
  all_goals (try simp only [maxLen, tn] at *)
  all_goals first | rfl | omega | decide | assumption | (show AY _ = true; rfl) | skip
 ·rw [vV L]
  simp -implicitDefEqProofs only [Tryz.f21, L, decide_false, go_sem, seval]
  with_reducible repeat' (first | apply ai | intro _ | ((first | apply s1 | apply s3 | apply s4) <;> intro hb <;> simp -implicitDefEqProofs only [hb, go_sem, seval] <;> try simp only [qz] at hb))
  all_goals (try simp only [maxLen, tn] at *)
  all_goals first | rfl | omega | decide | assumption | (show AY _ = true; rfl) | skip
end
theorem FA {α : Type} [Inhabited α] {xs ys : List α} (i : Nat) (hl : xs.length = ys.length) (h : ∀ j, j < i → xs.getD j default = ys.getD j default) (hi : xs.length ≤ i) : xs = ys := by
 refine List.ext_getElem hl fun j h1 h2 => ?_
 have := h j (by omega)
 simpa [h1, h2] using this
theorem FH {α : Type} [Inhabited α] {xs ys : List α} {i : Nat} (hall : ∀ j, j < i → xs.getD j default = ys.getD j default) (h : xs.getD i default = ys.getD i default) : ∀ j, j < i + 1 → xs.getD j default = ys.getD j default := fun j hj => by
 by_cases e : j = i
 ·subst e; exact h
 ·exact hall j (by omega)
def nS : Ct := Aq (lc Ah.asl (lc Ah.asl l0)) (fun p => True) (fun p => .t (.v (.bool (decide (p.1 = p.2.1)))))
section
attribute [local go_sem] lm
set_option maxHeartbeats 800000 in
theorem qZ {G : Gt} (hG : Ai G) : Gd G 95 (AA 0 nS) := by
 refine gr (fn := Tryz.f95) (n := 2) rfl hG ?_
 rintro ⟨xs, ys, ⟨⟩⟩ hpre
 simp -implicitDefEqProofs only [Tryz.f95, go_sem, seval] at hpre ⊢
 with_reducible repeat' (first | apply ai | intro _ | ((first | apply s1 | apply s3 | apply s4) <;> intro hb <;> simp -implicitDefEqProofs only [hb, go_sem, seval] <;> try simp only [qz] at hb))
 all_goals (try simp only [maxLen] at *)
 all_goals first | rfl | omega | skip
 ·have : ¬ xs = ys := fun e => hb (by rw [e])
  simp [this]
 ·have hl : xs.length = ys.length := by omega
  refine AF [] (ι := {i : Nat // i ≤ xs.length ∧ ∀ j, j < i → xs.getD j default = ys.getD j default}) (fun p => ⟨[(0, .t (.sl 1 (xs.map AH))), (1, .t (.sl 1 (ys.map AH))), (5, .t (.v (.int .i64 p.1)))], []⟩) (fun p => xs.length - p.1) ⟨0, by simp, by simp⟩ rfl ?_ ?_
  ·simp -implicitDefEqProofs only [go_sem, seval]
   try simp
  ·rintro ⟨i, hi, hall⟩
   simp -implicitDefEqProofs only [go_sem, seval]
   with_reducible repeat' (first | apply ai | intro _ | ((first | apply s1 | apply s3 | apply s4) <;> intro hb <;> simp -implicitDefEqProofs only [hb, go_sem, seval] <;> try simp only [qz] at hb))
   all_goals (try simp only [maxLen, tn] at *)
   all_goals first
    | rfl
    | omega
    | decide
    | (show AY _ = true; rfl)
    | ((have hne : ¬ xs = ys := fun e => by subst e; first | exact hb rfl | (simp at hb; done)); simp [hne]; done)
    | (refine ⟨⟨i + 1, by omega, FH hall (by first | assumption | (simp [*] at *; done))⟩, by dsimp only; omega, ?_⟩
       simp -implicitDefEqProofs only [go_sem, seval]
       try simp
       done)
    | (have hxy := FA i hl hall (by omega)
       simp [hxy]
       done)
    | skip
end
theorem zT {a b : Ad} : (decide (a.user = b.user) && decide (a.domain = b.domain)) = decide (a = b) := by
 rw [← Bool.decide_and]; exact decide_eq_decide.2 Bj.symm
theorem xG {a b : Ad} : ((true != (decide (a.user = b.user) && decide (a.domain = b.domain))) = true) = ¬ a = b := by
 rw [zT]; by_cases h : a = b <;> simp [h]
theorem lE {a b : Ad} : ((true != (decide (a.user = b.user) && decide (a.domain = b.domain))) = false) = (a = b) := by
 rw [zT]; by_cases h : a = b <;> simp [h]
theorem zj {a b : Rc} : (decide (a.addr.user = b.addr.user) && decide (a.addr.domain = b.addr.domain) && decide (a.tries = b.tries) && decide (a.next = b.next)) = decide (a = b) := by
 rw [← Bool.decide_and, ← Bool.decide_and, ← Bool.decide_and]
 exact decide_eq_decide.2 (by rw [kk, Bj]; simp [and_assoc])
theorem yh {a b : Rc} : ((true != (decide (a.addr.user = b.addr.user) && decide (a.addr.domain = b.addr.domain) && decide (a.tries = b.tries) && decide (a.next = b.next))) = true) = ¬ a = b := by
 rw [zj]; by_cases h : a = b <;> simp [h]
theorem yg {a b : Rc} : ((true != (decide (a.addr.user = b.addr.user) && decide (a.addr.domain = b.addr.domain) && decide (a.tries = b.tries) && decide (a.next = b.next))) = false) = (a = b) := by
 rw [zj]; by_cases h : a = b <;> simp [h]
def xy : Ct := Aq (lc Ey.ag (lc Ey.ag l0)) (fun p => True) (fun p => .t (.v (.bool (decide (p.1 = p.2.1)))))
section
attribute [local go_sem] nS lm
set_option maxHeartbeats 1600000 in
theorem qh {G : Gt} (hG : Ai G) (hh : G.e 95 = AA 0 nS) : Gd G 96 (AA 0 xy) := by
 refine gr (fn := Tryz.f96) (n := 2) rfl hG ?_
 rintro ⟨a, b, ⟨⟩⟩ hpre
 simp -implicitDefEqProofs only [Tryz.f96, go_sem, hh, seval] at hpre ⊢
 with_reducible repeat' (first | apply ai | intro _ | ((first | apply s1 | apply s3 | apply s4) <;> intro hb <;> simp -implicitDefEqProofs only [hb, go_sem, hh, seval] <;> try simp only [qz] at hb))
 all_goals (try simp only [maxLen, xG, lE] at *)
 all_goals first
  | rfl
  | omega
  | ((have hne : ¬ a = b := fun e => by subst e; simp_all); simp [hne]; done)
  | skip
 have B5 : a.id = b.id := by assumption
 have hbod : a.body = b.body := by assumption
 have hfr : a.frm = b.frm := by assumption
 have hl : a.to.length = b.to.length := by omega
 refine AF [] (ι := {i : Nat // i ≤ a.to.length ∧ ∀ j, j < i → a.to.getD j default = b.to.getD j default}) (fun p => ⟨[(2, .pb 1002 0), (3, .pb 1003 0), (5, .t (.v (.int .i64 p.1)))], [(1002, some (.box ((Ag a).map .t))), (1003, some (.box ((Ag b).map .t)))]⟩) (fun p => a.to.length - p.1) ⟨0, by simp, by simp⟩ rfl ?_ ?_
 ·simp -implicitDefEqProofs only [go_sem, hh, seval]
  try simp
 ·rintro ⟨i, hi, hall⟩
  simp -implicitDefEqProofs only [go_sem, hh, seval]
  with_reducible repeat' (first | apply ai | intro _ | ((first | apply s1 | apply s3 | apply s4) <;> intro hb <;> simp -implicitDefEqProofs only [hb, go_sem, hh, seval] <;> try simp only [qz] at hb))
  all_goals (try simp only [maxLen, tn, yh, yg] at *)
  all_goals first
   | rfl
   | omega
   | decide
   | (show AY _ = true; rfl)
   | ((have hne : ¬ a = b := fun e => by subst e; exact hb rfl); simp [hne]; done)
   | (refine ⟨⟨i + 1, by omega, FH hall (by assumption)⟩, by dsimp only; omega, ?_⟩
      simp -implicitDefEqProofs only [go_sem, hh, seval]
      try simp
      done)
   | (have hxy := FA i hl hall (by omega)
      (have hab : a = b := by rw [ke]; exact ⟨B5, hfr, hxy, hbod⟩); simp [hab]
      done)
   | skip
end
def xa : Ct := Aq (lc Px.ag (lc Px.ag l0)) (fun p => True) (fun p => .t (.v (.bool (decide (p.1 = p.2.1)))))
section
attribute [local go_sem] xy lm qa qb
set_option maxHeartbeats 1600000 in
theorem pk {G : Gt} (hG : Ai G) (hh : G.e 96 = AA 0 xy) : Gd G 39 (AA 0 xa) := by
 refine gr (fn := Tryz.f39) (n := 2) rfl hG ?_
 rintro ⟨a, b, ⟨⟩⟩ hpre
 simp -implicitDefEqProofs only [Tryz.f39, go_sem, hh, seval] at hpre ⊢
 with_reducible repeat' (first | apply ai | intro _ | ((first | apply s1 | apply s3 | apply s4) <;> intro hb <;> simp -implicitDefEqProofs only [hb, go_sem, hh, seval] <;> try simp only [qz] at hb))
 all_goals (try simp only [maxLen] at *)
 all_goals first
  | rfl
  | omega
  | ((have hne : ¬ a = b := fun e => by subst e; simp_all); simp [hne]; done)
  | skip
 have B5 : a.last = b.last := by assumption
 have hl : a.items.length = b.items.length := by omega
 refine AF [] (ι := {i : Nat // i ≤ a.items.length ∧ ∀ j, j < i → a.items.getD j default = b.items.getD j default}) (fun p => ⟨[(2, .pb 1002 0), (3, .pb 1003 0), (5, .t (.v (.int .i64 p.1)))], [(1002, some (.box ((Dt a).map .t))), (1003, some (.box ((Dt b).map .t)))]⟩) (fun p => a.items.length - p.1) ⟨0, by simp, by simp⟩ rfl ?_ ?_
 ·simp -implicitDefEqProofs only [go_sem, hh, seval]
  try simp
 ·rintro ⟨i, hi, hall⟩
  simp -implicitDefEqProofs only [go_sem, hh, seval]
  with_reducible repeat' (first | apply ai | intro _ | ((first | apply s1 | apply s3 | apply s4) <;> intro hb <;> simp -implicitDefEqProofs only [hb, go_sem, hh, seval] <;> try simp only [qz] at hb))
  all_goals (try simp only [maxLen, tn] at *)
  all_goals first
   | rfl
   | omega
   | decide
   | (show AY _ = true; rfl)
   | ((have hne : ¬ a = b := fun e => by subst e; exact hb rfl); simp [hne]; done)
   | (refine ⟨⟨i + 1, by omega, FH hall (by assumption)⟩, by dsimp only; omega, ?_⟩
      simp -implicitDefEqProofs only [go_sem, hh, seval]
      try simp
      done)
   | (have hxy := FA i hl hall (by omega)
      (have hab : a = b := by rw [kn]; exact ⟨B5, hxy⟩); simp [hab]
      done)
   | skip
end
theorem SP {x0 x1 x2 x3 x4 x5 x6 x7 : T} : Bv 2 4 [x0, x1, x2, x3, x4, x5, x6, x7] = [[x0, x1], [x2, x3], [x4, x5], [x6, x7]] := rfl
def FG (k : Int) : List Cf :=
 if k = 0 then [⟨⟨#[111, 110, 101, 46, 111, 114, 103]⟩, [⟨#[111, 110, 101, 46, 111, 114, 103]⟩, ⟨#[97, 46, 111, 110, 101, 46, 111, 114, 103]⟩], [⟨⟨#[116, 119, 111, 46, 111, 114, 103]⟩, ⟨#[116, 119, 111, 46, 111, 114, 103]⟩⟩, ⟨⟨#[110, 101, 116]⟩, ⟨#[104, 117, 98, 46, 110, 101, 116]⟩⟩, ⟨⟨#[99, 111, 109]⟩, ⟨#[104, 117, 98, 46, 110, 101, 116]⟩⟩]⟩, ⟨⟨#[116, 119, 111, 46, 111, 114, 103]⟩, [⟨#[116, 119, 111, 46, 111, 114, 103]⟩], [⟨⟨#[120, 46, 99, 111, 109]⟩, ⟨#[111, 110, 101, 46, 111, 114, 103]⟩⟩, ⟨⟨#[111, 110, 101, 46, 111, 114, 103]⟩, ⟨#[111, 110, 101, 46, 111, 114, 103]⟩⟩]⟩, ⟨⟨#[104, 117, 98, 46, 110, 101, 116]⟩, [⟨#[104, 117, 98, 46, 110, 101, 116]⟩, ⟨#[111, 116, 104, 101, 114, 46, 99, 111, 109]⟩], [⟨⟨#[111, 110, 101, 46, 111, 114, 103]⟩, ⟨#[111, 110, 101, 46, 111, 114, 103]⟩⟩, ⟨⟨#[116, 119, 111, 46, 111, 114, 103]⟩, ⟨#[116, 119, 111, 46, 111, 114, 103]⟩⟩, ⟨⟨#[102, 97, 114, 46, 99, 111, 109]⟩, ⟨#[103, 111, 110, 101, 46, 99, 111, 109]⟩⟩, ⟨⟨#[120, 46, 99, 111, 109]⟩, ⟨#[116, 119, 111, 46, 111, 114, 103]⟩⟩]⟩]
 else if k = 1 then [⟨⟨#[111, 110, 101, 46, 111, 114, 103]⟩, [⟨#[111, 110, 101, 46, 111, 114, 103]⟩, ⟨#[97, 46, 111, 110, 101, 46, 111, 114, 103]⟩], [⟨⟨#[116, 119, 111, 46, 111, 114, 103]⟩, ⟨#[116, 119, 111, 46, 111, 114, 103]⟩⟩, ⟨⟨#[110, 101, 116]⟩, ⟨#[104, 117, 98, 46, 110, 101, 116]⟩⟩, ⟨⟨#[99, 111, 109]⟩, ⟨#[104, 117, 98, 46, 110, 101, 116]⟩⟩]⟩, ⟨⟨#[116, 119, 111, 46, 111, 114, 103]⟩, [⟨#[116, 119, 111, 46, 111, 114, 103]⟩], [⟨⟨#[111, 114, 103]⟩, ⟨#[111, 110, 101, 46, 111, 114, 103]⟩⟩, ⟨⟨#[104, 117, 98, 46, 110, 101, 116]⟩, ⟨#[104, 117, 98, 46, 110, 101, 116]⟩⟩]⟩]
 else if k = 2 then [⟨⟨#[111, 110, 101, 46, 111, 114, 103]⟩, [⟨#[111, 110, 101, 46, 111, 114, 103]⟩, ⟨#[97, 46, 111, 110, 101, 46, 111, 114, 103]⟩], [⟨⟨#[116, 119, 111, 46, 111, 114, 103]⟩, ⟨#[116, 119, 111, 46, 111, 114, 103]⟩⟩, ⟨⟨#[110, 101, 116]⟩, ⟨#[104, 117, 98, 46, 110, 101, 116]⟩⟩]⟩, ⟨⟨#[116, 119, 111, 46, 111, 114, 103]⟩, [⟨#[116, 119, 111, 46, 111, 114, 103]⟩], [⟨⟨#[111, 114, 103]⟩, ⟨#[111, 110, 101, 46, 111, 114, 103]⟩⟩, ⟨⟨#[104, 117, 98, 46, 110, 101, 116]⟩, ⟨#[104, 117, 98, 46, 110, 101, 116]⟩⟩, ⟨⟨#[99, 111, 109]⟩, ⟨#[104, 117, 98, 46, 110, 101, 116]⟩⟩]⟩, ⟨⟨#[104, 117, 98, 46, 110, 101, 116]⟩, [⟨#[104, 117, 98, 46, 110, 101, 116]⟩, ⟨#[111, 116, 104, 101, 114, 46, 99, 111, 109]⟩], [⟨⟨#[111, 110, 101, 46, 111, 114, 103]⟩, ⟨#[111, 110, 101, 46, 111, 114, 103]⟩⟩, ⟨⟨#[116, 119, 111, 46, 111, 114, 103]⟩, ⟨#[116, 119, 111, 46, 111, 114, 103]⟩⟩, ⟨⟨#[102, 97, 114, 46, 99, 111, 109]⟩, ⟨#[103, 111, 110, 101, 46, 99, 111, 109]⟩⟩, ⟨⟨#[120, 46, 99, 111, 109]⟩, ⟨#[116, 119, 111, 46, 111, 114, 103]⟩⟩]⟩]
 else [⟨⟨#[111, 110, 101, 46, 111, 114, 103]⟩, [⟨#[111, 110, 101, 46, 111, 114, 103]⟩, ⟨#[97, 46, 111, 110, 101, 46, 111, 114, 103]⟩], [⟨⟨#[116, 119, 111, 46, 111, 114, 103]⟩, ⟨#[116, 119, 111, 46, 111, 114, 103]⟩⟩, ⟨⟨#[110, 101, 116]⟩, ⟨#[104, 117, 98, 46, 110, 101, 116]⟩⟩, ⟨⟨#[99, 111, 109]⟩, ⟨#[104, 117, 98, 46, 110, 101, 116]⟩⟩]⟩, ⟨⟨#[116, 119, 111, 46, 111, 114, 103]⟩, [⟨#[116, 119, 111, 46, 111, 114, 103]⟩], [⟨⟨#[111, 114, 103]⟩, ⟨#[111, 110, 101, 46, 111, 114, 103]⟩⟩, ⟨⟨#[104, 117, 98, 46, 110, 101, 116]⟩, ⟨#[104, 117, 98, 46, 110, 101, 116]⟩⟩]⟩, ⟨⟨#[104, 117, 98, 46, 110, 101, 116]⟩, [⟨#[104, 117, 98, 46, 110, 101, 116]⟩, ⟨#[111, 116, 104, 101, 114, 46, 99, 111, 109]⟩], [⟨⟨#[111, 110, 101, 46, 111, 114, 103]⟩, ⟨#[111, 110, 101, 46, 111, 114, 103]⟩⟩, ⟨⟨#[116, 119, 111, 46, 111, 114, 103]⟩, ⟨#[116, 119, 111, 46, 111, 114, 103]⟩⟩, ⟨⟨#[102, 97, 114, 46, 99, 111, 109]⟩, ⟨#[103, 111, 110, 101, 46, 99, 111, 109]⟩⟩, ⟨⟨#[120, 46, 99, 111, 109]⟩, ⟨#[116, 119, 111, 46, 111, 114, 103]⟩⟩]⟩]
def Df (r : Rd) : List Cf := FG (Al r 5)
theorem nT {r : Rd} (h : Al r 5 = 0) : Df r = [⟨⟨#[111, 110, 101, 46, 111, 114, 103]⟩, [⟨#[111, 110, 101, 46, 111, 114, 103]⟩, ⟨#[97, 46, 111, 110, 101, 46, 111, 114, 103]⟩], [⟨⟨#[116, 119, 111, 46, 111, 114, 103]⟩, ⟨#[116, 119, 111, 46, 111, 114, 103]⟩⟩, ⟨⟨#[110, 101, 116]⟩, ⟨#[104, 117, 98, 46, 110, 101, 116]⟩⟩, ⟨⟨#[99, 111, 109]⟩, ⟨#[104, 117, 98, 46, 110, 101, 116]⟩⟩]⟩, ⟨⟨#[116, 119, 111, 46, 111, 114, 103]⟩, [⟨#[116, 119, 111, 46, 111, 114, 103]⟩], [⟨⟨#[120, 46, 99, 111, 109]⟩, ⟨#[111, 110, 101, 46, 111, 114, 103]⟩⟩, ⟨⟨#[111, 110, 101, 46, 111, 114, 103]⟩, ⟨#[111, 110, 101, 46, 111, 114, 103]⟩⟩]⟩, ⟨⟨#[104, 117, 98, 46, 110, 101, 116]⟩, [⟨#[104, 117, 98, 46, 110, 101, 116]⟩, ⟨#[111, 116, 104, 101, 114, 46, 99, 111, 109]⟩], [⟨⟨#[111, 110, 101, 46, 111, 114, 103]⟩, ⟨#[111, 110, 101, 46, 111, 114, 103]⟩⟩, ⟨⟨#[116, 119, 111, 46, 111, 114, 103]⟩, ⟨#[116, 119, 111, 46, 111, 114, 103]⟩⟩, ⟨⟨#[102, 97, 114, 46, 99, 111, 109]⟩, ⟨#[103, 111, 110, 101, 46, 99, 111, 109]⟩⟩, ⟨⟨#[120, 46, 99, 111, 109]⟩, ⟨#[116, 119, 111, 46, 111, 114, 103]⟩⟩]⟩] := by unfold Df FG; rw [if_pos h]
theorem nU {r : Rd} (h : Al r 5 = 1) : Df r = [⟨⟨#[111, 110, 101, 46, 111, 114, 103]⟩, [⟨#[111, 110, 101, 46, 111, 114, 103]⟩, ⟨#[97, 46, 111, 110, 101, 46, 111, 114, 103]⟩], [⟨⟨#[116, 119, 111, 46, 111, 114, 103]⟩, ⟨#[116, 119, 111, 46, 111, 114, 103]⟩⟩, ⟨⟨#[110, 101, 116]⟩, ⟨#[104, 117, 98, 46, 110, 101, 116]⟩⟩, ⟨⟨#[99, 111, 109]⟩, ⟨#[104, 117, 98, 46, 110, 101, 116]⟩⟩]⟩, ⟨⟨#[116, 119, 111, 46, 111, 114, 103]⟩, [⟨#[116, 119, 111, 46, 111, 114, 103]⟩], [⟨⟨#[111, 114, 103]⟩, ⟨#[111, 110, 101, 46, 111, 114, 103]⟩⟩, ⟨⟨#[104, 117, 98, 46, 110, 101, 116]⟩, ⟨#[104, 117, 98, 46, 110, 101, 116]⟩⟩]⟩] := by unfold Df FG; rw [if_neg (by omega), if_pos h]
theorem nV {r : Rd} (h : Al r 5 = 2) : Df r = [⟨⟨#[111, 110, 101, 46, 111, 114, 103]⟩, [⟨#[111, 110, 101, 46, 111, 114, 103]⟩, ⟨#[97, 46, 111, 110, 101, 46, 111, 114, 103]⟩], [⟨⟨#[116, 119, 111, 46, 111, 114, 103]⟩, ⟨#[116, 119, 111, 46, 111, 114, 103]⟩⟩, ⟨⟨#[110, 101, 116]⟩, ⟨#[104, 117, 98, 46, 110, 101, 116]⟩⟩]⟩, ⟨⟨#[116, 119, 111, 46, 111, 114, 103]⟩, [⟨#[116, 119, 111, 46, 111, 114, 103]⟩], [⟨⟨#[111, 114, 103]⟩, ⟨#[111, 110, 101, 46, 111, 114, 103]⟩⟩, ⟨⟨#[104, 117, 98, 46, 110, 101, 116]⟩, ⟨#[104, 117, 98, 46, 110, 101, 116]⟩⟩, ⟨⟨#[99, 111, 109]⟩, ⟨#[104, 117, 98, 46, 110, 101, 116]⟩⟩]⟩, ⟨⟨#[104, 117, 98, 46, 110, 101, 116]⟩, [⟨#[104, 117, 98, 46, 110, 101, 116]⟩, ⟨#[111, 116, 104, 101, 114, 46, 99, 111, 109]⟩], [⟨⟨#[111, 110, 101, 46, 111, 114, 103]⟩, ⟨#[111, 110, 101, 46, 111, 114, 103]⟩⟩, ⟨⟨#[116, 119, 111, 46, 111, 114, 103]⟩, ⟨#[116, 119, 111, 46, 111, 114, 103]⟩⟩, ⟨⟨#[102, 97, 114, 46, 99, 111, 109]⟩, ⟨#[103, 111, 110, 101, 46, 99, 111, 109]⟩⟩, ⟨⟨#[120, 46, 99, 111, 109]⟩, ⟨#[116, 119, 111, 46, 111, 114, 103]⟩⟩]⟩] := by unfold Df FG; rw [if_neg (by omega), if_neg (by omega), if_pos h]
theorem nW {r : Rd} (h : ¬ Al r 5 = 0 ∧ ¬ Al r 5 = 1 ∧ ¬ Al r 5 = 2) : Df r = [⟨⟨#[111, 110, 101, 46, 111, 114, 103]⟩, [⟨#[111, 110, 101, 46, 111, 114, 103]⟩, ⟨#[97, 46, 111, 110, 101, 46, 111, 114, 103]⟩], [⟨⟨#[116, 119, 111, 46, 111, 114, 103]⟩, ⟨#[116, 119, 111, 46, 111, 114, 103]⟩⟩, ⟨⟨#[110, 101, 116]⟩, ⟨#[104, 117, 98, 46, 110, 101, 116]⟩⟩, ⟨⟨#[99, 111, 109]⟩, ⟨#[104, 117, 98, 46, 110, 101, 116]⟩⟩]⟩, ⟨⟨#[116, 119, 111, 46, 111, 114, 103]⟩, [⟨#[116, 119, 111, 46, 111, 114, 103]⟩], [⟨⟨#[111, 114, 103]⟩, ⟨#[111, 110, 101, 46, 111, 114, 103]⟩⟩, ⟨⟨#[104, 117, 98, 46, 110, 101, 116]⟩, ⟨#[104, 117, 98, 46, 110, 101, 116]⟩⟩]⟩, ⟨⟨#[104, 117, 98, 46, 110, 101, 116]⟩, [⟨#[104, 117, 98, 46, 110, 101, 116]⟩, ⟨#[111, 116, 104, 101, 114, 46, 99, 111, 109]⟩], [⟨⟨#[111, 110, 101, 46, 111, 114, 103]⟩, ⟨#[111, 110, 101, 46, 111, 114, 103]⟩⟩, ⟨⟨#[116, 119, 111, 46, 111, 114, 103]⟩, ⟨#[116, 119, 111, 46, 111, 114, 103]⟩⟩, ⟨⟨#[102, 97, 114, 46, 99, 111, 109]⟩, ⟨#[103, 111, 110, 101, 46, 99, 111, 109]⟩⟩, ⟨⟨#[120, 46, 99, 111, 109]⟩, ⟨#[116, 119, 111, 46, 111, 114, 103]⟩⟩]⟩] := by unfold Df FG; rw [if_neg h.1, if_neg h.2.1, if_neg h.2.2]
def Ol (c : Cf) : Bool := Nat.ble c.name.size 100 && (Nat.ble c.own.length 10 && (c.own.all (fun s => Nat.ble s.size 100) && (Nat.ble c.ways.length 10 && c.ways.all fun w => Nat.ble w.ends.size 100 && Nat.ble w.to.size 100)))
theorem NA (k : Int) : (FG k).all Ol = true ∧ 2 ≤ (FG k).length ∧ (FG k).length ≤ 3 := by
 unfold FG
 split
 ·exact ⟨by decide +kernel, by decide, by decide⟩
 ·split
  ·exact ⟨by decide +kernel, by decide, by decide⟩
  ·split
   ·exact ⟨by decide +kernel, by decide, by decide⟩
   ·exact ⟨by decide +kernel, by decide, by decide⟩
def Tw (r : Rd) : Cf := (Df r).getD (Al (r.nx 1) (Df r).length).toNat default
theorem iy {r : Rd} (h : 0 ≤ r.p) (h1 : r.p ≤ 999999000) : Ol (Tw r) = true := by
 have hb := B7 (r := r.nx 1) (n := (Df r).length) (by rw [AK]; omega) (by rw [AK]; omega)
 obtain ⟨h2, h3, h4⟩ := NA (Al r 5)
 have e : FG (Al r 5) = Df r := rfl
 rw [e] at h2 h3
 exact List.all_eq_true.1 h2 _ (AE (by omega))
def B4 (r : Rd) : Cf × Rd :=
 let c := Tw r
 let k := Al (r.nx 2) 10
 if k = 0 then (⟨OB (r.nx 3) [⟨#[]⟩, ⟨#[65]⟩, ⟨#[97, 46, 46, 98]⟩], c.own, c.ways⟩, r.nx 4)
 else if k = 1 then (⟨c.name, c.own ++ [⟨#[98, 46, 111, 114, 103]⟩, ⟨#[99, 46, 111, 114, 103]⟩], c.ways⟩, r.nx 3)
 else if k = 2 then (⟨c.name, c.own, c.ways ++ [⟨OB (r.nx 3) [⟨#[]⟩, ⟨#[98, 46, 111, 114, 103]⟩, ⟨#[111, 110, 101, 46, 111, 114, 103]⟩], ⟨#[116, 119, 111, 46, 111, 114, 103]⟩⟩]⟩, r.nx 4)
 else (c, r.nx 3)
theorem R6 {r : Rd} (h : Al (r.nx 2) 10 = 0) : B4 r = (⟨OB (r.nx 3) [⟨#[]⟩, ⟨#[65]⟩, ⟨#[97, 46, 46, 98]⟩], (Tw r).own, (Tw r).ways⟩, r.nx 4) := by unfold B4; dsimp only; rw [if_pos h]
theorem R7 {r : Rd} (h : Al (r.nx 2) 10 = 1) : B4 r = (⟨(Tw r).name, (Tw r).own ++ [⟨#[98, 46, 111, 114, 103]⟩, ⟨#[99, 46, 111, 114, 103]⟩], (Tw r).ways⟩, r.nx 3) := by unfold B4; dsimp only; rw [if_neg (by omega), if_pos h]
theorem R8 {r : Rd} (h : Al (r.nx 2) 10 = 2) : B4 r = (⟨(Tw r).name, (Tw r).own, (Tw r).ways ++ [⟨OB (r.nx 3) [⟨#[]⟩, ⟨#[98, 46, 111, 114, 103]⟩, ⟨#[111, 110, 101, 46, 111, 114, 103]⟩], ⟨#[116, 119, 111, 46, 111, 114, 103]⟩⟩]⟩, r.nx 4) := by unfold B4; dsimp only; rw [if_neg (by omega), if_neg (by omega), if_pos h]
theorem R9 {r : Rd} (h : ¬ Al (r.nx 2) 10 = 0 ∧ ¬ Al (r.nx 2) 10 = 1 ∧ ¬ Al (r.nx 2) 10 = 2) : B4 r = (Tw r, r.nx 3) := by unfold B4; dsimp only; rw [if_neg h.1, if_neg h.2.1, if_neg h.2.2]
theorem CS {n : Nat} {es : List (List T)} : cellAV false (.sl n es) = .t (.sl n es) := rfl
theorem iz {r : Rd} : (Df r).getD (Al (r.nx 1) (Df r).length).toNat default = Tw r := rfl
def Vu : Mt := GW (lc EL l0) (fun p => 0 ≤ p.1.p ∧ p.1.p ≤ 999990000) (fun p => ([EL.enc (p.1.nx 1)], .o false 3 ((Df p.1).map Co)))
section
attribute [local go_sem] HV AK B2 BD BK BS By Cg Bo Br A7 lm List.length_append List.length_cons List.length_nil List.map_append List.map_nil Nat.zero_add List.nil_append AS.opn AS.cls AS.nilb AS.renb AS.up Bool.not_false Bool.not_true List.set_set List.set_cons_zero List.set_cons_succ List.set_nil List.mem_singleton forall_eq Fo AZ BQ JB JC JD FT FU SP
set_option maxHeartbeats 6400000 in
theorem dv {G : Gt} (hG : Ai G) (hh : G.e 71 = AM HV) : Gd G 172 (AM Vu) := by
 refine JF (dp := fun n => !(Nat.beq n 36 || Nat.beq n 52)) (fn := Tryz.f172) (n := 1) rfl hG ?_
 rintro ⟨r, ⟨⟩⟩ hpre
 obtain ⟨h1, h2⟩ := hpre
 try dsimp only at h1 h2 ⊢
 by_cases c0 : Al r 5 = 0
 ·skip
  rw [nT c0]
  simp -implicitDefEqProofs only [Tryz.f172, c0, eq_self, decide_true, decide_false, Int.reduceEq, go_sem, hh, Int.reduceAdd, seval]
  with_reducible repeat' (first | apply ai | intro _ | ((first | apply s1 | apply s3 | apply s4) <;> intro hb <;> simp -implicitDefEqProofs only [hb, go_sem, hh, Int.reduceAdd, seval] <;> try simp only [qz] at hb))
  all_goals (try simp only [maxLen, tn] at *)
  all_goals first | rfl | omega | decide | assumption | (show AY _ = true; rfl) | skip
 ·by_cases c1 : Al r 5 = 1
  ·skip
   rw [nU c1]
   simp -implicitDefEqProofs only [Tryz.f172, c1, eq_self, decide_true, decide_false, Int.reduceEq, go_sem, hh, Int.reduceAdd, seval]
   with_reducible repeat' (first | apply ai | intro _ | ((first | apply s1 | apply s3 | apply s4) <;> intro hb <;> simp -implicitDefEqProofs only [hb, go_sem, hh, Int.reduceAdd, seval] <;> try simp only [qz] at hb))
   all_goals (try simp only [maxLen, tn] at *)
   all_goals first | rfl | omega | decide | assumption | (show AY _ = true; rfl) | skip
  ·by_cases c2 : Al r 5 = 2
   ·skip
    rw [nV c2]
    simp -implicitDefEqProofs only [Tryz.f172, c2, eq_self, decide_true, decide_false, Int.reduceEq, go_sem, hh, Int.reduceAdd, seval]
    with_reducible repeat' (first | apply ai | intro _ | ((first | apply s1 | apply s3 | apply s4) <;> intro hb <;> simp -implicitDefEqProofs only [hb, go_sem, hh, Int.reduceAdd, seval] <;> try simp only [qz] at hb))
    all_goals (try simp only [maxLen, tn] at *)
    all_goals first | rfl | omega | decide | assumption | (show AY _ = true; rfl) | skip
   ·skip
    rw [nW ⟨c0, c1, c2⟩]
    simp -implicitDefEqProofs only [Tryz.f172, c0, c1, c2, eq_self, decide_true, decide_false, Int.reduceEq, go_sem, hh, Int.reduceAdd, seval]
    with_reducible repeat' (first | apply ai | intro _ | ((first | apply s1 | apply s3 | apply s4) <;> intro hb <;> simp -implicitDefEqProofs only [hb, go_sem, hh, Int.reduceAdd, seval] <;> try simp only [qz] at hb))
    all_goals (try simp only [maxLen, tn] at *)
    all_goals first | rfl | omega | decide | assumption | (show AY _ = true; rfl) | skip
end
def l6 : Mt := GW (lc EL l0) (fun p => 0 ≤ p.1.p ∧ p.1.p ≤ 999990000) (fun p => ([EL.enc (p.1.nx 2)], H4.ag.enc (Tw p.1)))
section
attribute [local go_sem] HV Vu AK B2 BD BK BS By Cg Bo Br A7 lm List.length_append List.length_cons List.length_nil List.map_append List.map_nil Nat.zero_add List.nil_append AS.opn AS.cls AS.nilb AS.renb AS.up Bool.not_false Bool.not_true List.set_set List.set_cons_zero List.set_cons_succ List.set_nil List.mem_singleton forall_eq iz CS AZ
set_option maxHeartbeats 1600000 in
theorem dK {G : Gt} (hG : Ai G) (hh : G.e 71 = AM HV ∧ G.e 172 = AM Vu) : Gd G 135 (AM l6) := by
 refine JF (dp := fun _ => true) (fn := Tryz.f135) (n := 1) rfl hG ?_
 rintro ⟨r, ⟨⟩⟩ hpre
 obtain ⟨h1, h2⟩ := hpre
 try dsimp only at h1 h2 ⊢
 obtain ⟨q2, q3, q4⟩ := NA (Al r 5)
 have e : FG (Al r 5) = Df r := rfl
 rw [e] at q3 q4
 have hb := B7 (r := r.nx 1) (n := (Df r).length) (by rw [AK]; omega) (by rw [AK]; omega)
 simp -implicitDefEqProofs only [Tryz.f135, go_sem, hh, Int.reduceAdd, seval]
 with_reducible repeat' (first | apply ai | intro _ | ((first | apply s1 | apply s3 | apply s4) <;> intro hb <;> simp -implicitDefEqProofs only [hb, go_sem, hh, Int.reduceAdd, seval] <;> try simp only [qz] at hb))
 all_goals (try simp only [maxLen, tn] at *)
 all_goals first | rfl | omega | decide | assumption | (show AY _ = true; rfl) | skip
end
def tr : Mt := GW (lc EL l0) (fun p => 0 ≤ p.1.p ∧ p.1.p ≤ 999980000) (fun p => ([EL.enc (B4 p.1).2], H4.ag.enc (B4 p.1).1))
section
attribute [local go_sem] HV IG l6 AK B2 BD BK BS By Cg Bo Br A7 lm List.length_append List.length_cons List.length_nil List.map_append List.map_nil Nat.zero_add List.nil_append AS.opn AS.cls AS.nilb AS.renb AS.up Bool.not_false Bool.not_true List.set_set List.set_cons_zero List.set_cons_succ List.set_nil List.mem_singleton forall_eq iz AZ Fo Gy JB JC JD FT FU SP
set_option maxHeartbeats 6400000 in
theorem qD {G : Gt} (hG : Ai G) (hh : G.e 71 = AM HV ∧ G.e 113 = AM IG ∧ G.e 135 = AM l6) : Gd G 70 (AM tr) := by
 refine JF (dp := fun _ => true) (fn := Tryz.f70) (n := 1) rfl hG ?_
 rintro ⟨r, ⟨⟩⟩ hpre
 obtain ⟨h1, h2⟩ := hpre
 try dsimp only at h1 h2 ⊢
 have hc := iy h1 (show r.p ≤ 999999000 by omega)
 unfold Ol at hc
 simp only [Bool.and_eq_true, Nat.ble_eq] at hc
 obtain ⟨z1, z2, z3, z4, z5⟩ := hc
 by_cases c0 : Al (r.nx 2) 10 = 0
 ·rw [R6 c0]
  simp -implicitDefEqProofs only [Tryz.f70, c0, eq_self, decide_true, decide_false, Int.reduceEq, go_sem, hh, Int.reduceAdd, seval]
  with_reducible repeat' (first | apply ai | intro _ | ((first | apply s1 | apply s3 | apply s4) <;> intro hb <;> simp -implicitDefEqProofs only [hb, go_sem, hh, Int.reduceAdd, seval] <;> try simp only [qz] at hb))
  all_goals (try simp only [maxLen, tn] at *)
  all_goals first | rfl | omega | decide | assumption | (show AY _ = true; rfl) | skip
 ·by_cases c1 : Al (r.nx 2) 10 = 1
  ·rw [R7 c1]
   simp -implicitDefEqProofs only [Tryz.f70, c1, eq_self, decide_true, decide_false, Int.reduceEq, go_sem, hh, Int.reduceAdd, seval]
   with_reducible repeat' (first | apply ai | intro _ | ((first | apply s1 | apply s3 | apply s4) <;> intro hb <;> simp -implicitDefEqProofs only [hb, go_sem, hh, Int.reduceAdd, seval] <;> try simp only [qz] at hb))
   all_goals (try simp only [maxLen, tn] at *)
   all_goals first | rfl | omega | decide | assumption | (show AY _ = true; rfl) | (rename_i q; simp only [List.mem_cons, List.not_mem_nil, or_false] at q; rcases q with rfl | rfl <;> rfl) | skip
  ·by_cases c2 : Al (r.nx 2) 10 = 2
   ·rw [R8 c2]
    simp -implicitDefEqProofs only [Tryz.f70, c2, eq_self, decide_true, decide_false, Int.reduceEq, go_sem, hh, Int.reduceAdd, seval]
    with_reducible repeat' (first | apply ai | intro _ | ((first | apply s1 | apply s3 | apply s4) <;> intro hb <;> simp -implicitDefEqProofs only [hb, go_sem, hh, Int.reduceAdd, seval] <;> try simp only [qz] at hb))
    all_goals (try simp only [maxLen, tn] at *)
    all_goals first | rfl | omega | decide | assumption | (show AY _ = true; rfl) | skip
   ·rw [R9 ⟨c0, c1, c2⟩]
    simp -implicitDefEqProofs only [Tryz.f70, c0, c1, c2, eq_self, decide_true, decide_false, Int.reduceEq, go_sem, hh, Int.reduceAdd, seval]
    with_reducible repeat' (first | apply ai | intro _ | ((first | apply s1 | apply s3 | apply s4) <;> intro hb <;> simp -implicitDefEqProofs only [hb, go_sem, hh, Int.reduceAdd, seval] <;> try simp only [qz] at hb))
    all_goals (try simp only [maxLen, tn] at *)
    all_goals first | rfl | omega | decide | assumption | (show AY _ = true; rfl) | skip
end
theorem zi {a b : Ls} : (decide (a.mark = b.mark) && decide (a.addr.user = b.addr.user) && decide (a.addr.domain = b.addr.domain)) = decide (a = b) := by
 rw [← Bool.decide_and, ← Bool.decide_and]
 exact decide_eq_decide.2 (by rw [kg, Bj]; simp [and_assoc])
theorem yT {a b : Ls} : ((true != (decide (a.mark = b.mark) && decide (a.addr.user = b.addr.user) && decide (a.addr.domain = b.addr.domain))) = true) = ¬ a = b := by
 rw [zi]; by_cases h : a = b <;> simp [h]
theorem yS {a b : Ls} : ((true != (decide (a.mark = b.mark) && decide (a.addr.user = b.addr.user) && decide (a.addr.domain = b.addr.domain))) = false) = (a = b) := by
 rw [zi]; by_cases h : a = b <;> simp [h]
theorem zp {a b : Wy} : (decide (a.ends = b.ends) && decide (a.to = b.to)) = decide (a = b) := by
 rw [← Bool.decide_and]
 exact decide_eq_decide.2 (by rw [kw])
theorem zM {a b : Wy} : ((true != (decide (a.ends = b.ends) && decide (a.to = b.to))) = true) = ¬ a = b := by
 rw [zp]; by_cases h : a = b <;> simp [h]
theorem zL {a b : Wy} : ((true != (decide (a.ends = b.ends) && decide (a.to = b.to))) = false) = (a = b) := by
 rw [zp]; by_cases h : a = b <;> simp [h]
def xb : Ct := Aq (lc Fb.asl (lc Fb.asl l0)) (fun p => True) (fun p => .t (.v (.bool (decide (p.1 = p.2.1)))))
section
attribute [local go_sem] lm
set_option maxHeartbeats 1600000 in
theorem pm {G : Gt} (hG : Ai G) : Gd G 40 (AA 0 xb) := by
 refine gr (fn := Tryz.f40) (n := 2) rfl hG ?_
 rintro ⟨xs, ys, ⟨⟩⟩ hpre
 simp -implicitDefEqProofs only [Tryz.f40, go_sem, seval] at hpre ⊢
 with_reducible repeat' (first | apply ai | intro _ | ((first | apply s1 | apply s3 | apply s4) <;> intro hb <;> simp -implicitDefEqProofs only [hb, go_sem, seval] <;> try simp only [qz] at hb))
 all_goals (try simp only [maxLen] at *)
 all_goals first | rfl | omega | skip
 ·have : ¬ xs = ys := fun e => hb (by rw [e])
  simp [this]
 ·have hl : xs.length = ys.length := by omega
  refine AF [] (ι := {i : Nat // i ≤ xs.length ∧ ∀ j, j < i → xs.getD j default = ys.getD j default}) (fun p => ⟨[(0, .t (.sl 3 (xs.map Ax))), (1, .t (.sl 3 (ys.map Ax))), (5, .t (.v (.int .i64 p.1)))], []⟩) (fun p => xs.length - p.1) ⟨0, by simp, by simp⟩ rfl ?_ ?_
  ·simp -implicitDefEqProofs only [go_sem, seval]
   try simp
  ·rintro ⟨i, hi, hall⟩
   simp -implicitDefEqProofs only [go_sem, seval]
   with_reducible repeat' (first | apply ai | intro _ | ((first | apply s1 | apply s3 | apply s4) <;> intro hb <;> simp -implicitDefEqProofs only [hb, go_sem, seval] <;> try simp only [qz] at hb))
   all_goals (try simp only [maxLen, tn, yT, yS] at *)
   all_goals first
    | rfl
    | omega
    | decide
    | (show AY _ = true; rfl)
    | ((have hne : ¬ xs = ys := fun e => by subst e; first | exact hb rfl | (simp at hb; done) | (simp_all; done)); simp [hne]; done)
    | (refine ⟨⟨i + 1, by omega, FH hall (by first | assumption | (simp [*] at *; done))⟩, by dsimp only; omega, ?_⟩
       simp -implicitDefEqProofs only [go_sem, seval]
       try simp
       done)
    | (have hxy := FA i hl hall (by omega)
       simp [hxy]
       done)
    | skip
end
def xc : Ct := Aq (lc Pv.asl (lc Pv.asl l0)) (fun p => True) (fun p => .t (.v (.bool (decide (p.1 = p.2.1)))))
section
attribute [local go_sem] nS lm
set_option maxHeartbeats 1600000 in
theorem pn {G : Gt} (hG : Ai G) (hh : G.e 95 = AA 0 nS) : Gd G 41 (AA 0 xc) := by
 refine gr (fn := Tryz.f41) (n := 2) rfl hG ?_
 rintro ⟨xs, ys, ⟨⟩⟩ hpre
 simp -implicitDefEqProofs only [Tryz.f41, go_sem, hh, seval] at hpre ⊢
 with_reducible repeat' (first | apply ai | intro _ | ((first | apply s1 | apply s3 | apply s4) <;> intro hb <;> simp -implicitDefEqProofs only [hb, go_sem, hh, seval] <;> try simp only [qz] at hb))
 all_goals (try simp only [maxLen] at *)
 all_goals first | rfl | omega | skip
 ·have : ¬ xs = ys := fun e => hb (by rw [e])
  simp [this]
 ·have hl : xs.length = ys.length := by omega
  refine AF [] (ι := {i : Nat // i ≤ xs.length ∧ ∀ j, j < i → xs.getD j default = ys.getD j default}) (fun p => ⟨[(0, .t (.sl 3 (xs.map CF))), (1, .t (.sl 3 (ys.map CF))), (5, .t (.v (.int .i64 p.1)))], []⟩) (fun p => xs.length - p.1) ⟨0, by simp, by simp⟩ rfl ?_ ?_
  ·simp -implicitDefEqProofs only [go_sem, hh, seval]
   try simp
  ·rintro ⟨i, hi, hall⟩
   simp -implicitDefEqProofs only [go_sem, hh, seval]
   with_reducible repeat' (first | apply ai | intro _ | ((first | apply s1 | apply s3 | apply s4) <;> intro hb <;> simp -implicitDefEqProofs only [hb, go_sem, hh, seval] <;> try simp only [qz] at hb))
   all_goals (try simp only [maxLen, tn, xG, lE] at *)
   all_goals first
    | rfl
    | omega
    | decide
    | (show AY _ = true; rfl)
    | ((have hne : ¬ xs = ys := fun e => by subst e; first | exact hb rfl | (simp at hb; done) | (simp_all; done)); simp [hne]; done)
    | (refine ⟨⟨i + 1, by omega, FH hall (by rw [kZ]; exact ⟨by assumption, by assumption⟩)⟩, by dsimp only; omega, ?_⟩
       simp -implicitDefEqProofs only [go_sem, hh, seval]
       try simp
       done)
    | (have hxy := FA i hl hall (by omega)
       simp [hxy]
       done)
    | skip
end
def xZ : Ct := Aq (lc H4.ag (lc H4.ag l0)) (fun p => True) (fun p => .t (.v (.bool (decide (p.1 = p.2.1)))))
section
attribute [local go_sem] nS lm
set_option maxHeartbeats 3200000 in
theorem pj {G : Gt} (hG : Ai G) (hh : G.e 95 = AA 0 nS) : Gd G 38 (AA 0 xZ) := by
 refine gr (fn := Tryz.f38) (n := 2) rfl hG ?_
 rintro ⟨a, b, ⟨⟩⟩ hpre
 simp -implicitDefEqProofs only [Tryz.f38, go_sem, hh, seval] at hpre ⊢
 with_reducible repeat' (first | apply ai | intro _ | ((first | apply s1 | apply s3 | apply s4) <;> intro hb <;> simp -implicitDefEqProofs only [hb, go_sem, hh, seval] <;> try simp only [qz] at hb))
 all_goals (try simp only [maxLen] at *)
 all_goals first
  | rfl
  | omega
  | ((have hne : ¬ a = b := fun e => by subst e; simp_all); simp [hne]; done)
  | skip
 have h0 : a.name = b.name := by assumption
 have h1 : a.own = b.own := by assumption
 have hl : a.ways.length = b.ways.length := by omega
 refine AF [] (ι := {i : Nat // i ≤ a.ways.length ∧ ∀ j, j < i → a.ways.getD j default = b.ways.getD j default}) (fun p => ⟨[(2, .pb 1002 0), (3, .pb 1003 0), (5, .t (.v (.int .i64 p.1)))], [(1002, some (.box ((Co a).map .t))), (1003, some (.box ((Co b).map .t)))]⟩) (fun p => a.ways.length - p.1) ⟨0, by simp, by simp⟩ rfl ?_ ?_
 ·simp -implicitDefEqProofs only [go_sem, hh, seval]
  try simp
 ·rintro ⟨i, hi, hall⟩
  simp -implicitDefEqProofs only [go_sem, hh, seval]
  with_reducible repeat' (first | apply ai | intro _ | ((first | apply s1 | apply s3 | apply s4) <;> intro hb <;> simp -implicitDefEqProofs only [hb, go_sem, hh, seval] <;> try simp only [qz] at hb))
  all_goals (try simp only [maxLen, tn, zM, zL] at *)
  all_goals first
   | rfl
   | omega
   | decide
   | (show AY _ = true; rfl)
   | ((have hne : ¬ a = b := fun e => by subst e; first | exact hb rfl | simp_all); simp [hne]; done)
   | (refine ⟨⟨i + 1, by omega, FH hall (by assumption)⟩, by dsimp only; omega, ?_⟩
      simp -implicitDefEqProofs only [go_sem, hh, seval]
      try simp
      done)
   | (have hxy := FA i hl hall (by omega)
      (have hab : a = b := by rw [kQ]; exact ⟨h0, h1, hxy⟩); simp [hab]
      done)
   | skip
end
def c9 : Ct := Aq (lc FX.ag (lc FX.ag l0)) (fun p => True) (fun p => .t (.v (.bool (decide (p.1 = p.2.1)))))
section
attribute [local go_sem] xZ xa xb xc lm
set_option maxHeartbeats 3200000 in
theorem ux {G : Gt} (hG : Ai G) (hh : G.e 38 = AA 0 xZ ∧ G.e 39 = AA 0 xa ∧ G.e 40 = AA 0 xb ∧ G.e 41 = AA 0 xc) : Gd G 9 (AA 0 c9) := by
 refine gr (fn := Tryz.f9) (n := 2) rfl hG ?_
 rintro ⟨a, b, ⟨⟩⟩ hpre
 simp -implicitDefEqProofs only [Tryz.f9, go_sem, hh, seval] at hpre ⊢
 with_reducible repeat' (first | apply ai | intro _ | ((first | apply s1 | apply s3 | apply s4) <;> intro hb <;> simp -implicitDefEqProofs only [hb, go_sem, hh, seval] <;> try simp only [qz] at hb))
 all_goals (try simp only [maxLen] at *)
 all_goals first
  | rfl
  | omega
  | ((have hne : ¬ a = b := fun e => by subst e; simp_all); simp [hne]; done)
  | skip
 have h0 : a.conf = b.conf := by assumption
 have h1 : a.spool = b.spool := by assumption
 have h2 : a.lost = b.lost := by assumption
 have hl : a.boxes.length = b.boxes.length := by omega
 refine AF [] (ι := {i : Nat // i ≤ a.boxes.length ∧ ∀ j, j < i → a.boxes.getD j default = b.boxes.getD j default}) (fun p => ⟨[(2, .pb 1002 0), (3, .pb 1003 0), (5, .t (.v (.int .i64 p.1)))], [(1002, some (.box ((Ak a).map .t))), (1003, some (.box ((Ak b).map .t)))]⟩) (fun p => a.boxes.length - p.1) ⟨0, by simp, by simp⟩ rfl ?_ ?_
 ·simp -implicitDefEqProofs only [go_sem, hh, seval]
  try simp
 ·rintro ⟨i, hi, hall⟩
  simp -implicitDefEqProofs only [go_sem, hh, seval]
  with_reducible repeat' (first | apply ai | intro _ | ((first | apply s1 | apply s3 | apply s4) <;> intro hb <;> simp -implicitDefEqProofs only [hb, go_sem, hh, seval] <;> try simp only [qz] at hb))
  all_goals (try simp only [maxLen, tn, xG, lE] at *)
  all_goals first
   | rfl
   | omega
   | decide
   | (show AY _ = true; rfl)
   | ((have hne : ¬ a = b := fun e => by subst e; first | exact hb rfl | simp_all); simp [hne]; done)
   | (refine ⟨⟨i + 1, by omega, FH hall (by rw [kO]; exact ⟨by assumption, by assumption⟩)⟩, by dsimp only; omega, ?_⟩
      simp -implicitDefEqProofs only [go_sem, hh, seval]
      try simp
      done)
   | (have hxy := FA i hl hall (by omega)
      (have hab : a = b := by rw [kb]; exact ⟨h0, h1, hxy, h2⟩); simp [hab]
      done)
   | skip
end
def UV (s : ByteArray) : Nat → Nat → Int → Int
 | 0, _, n => if s.size = 0 ∨ (1 < s.size ∧ AC s 0 = 48) then -1 else n
 | k + 1, i, n => if 48 ≤ AC s i ∧ AC s i ≤ 57 ∧ i < 9 then UV s k (i + 1) (n * 10 + (AC s i - 48)) else -1
def PO (s : ByteArray) : Int := UV s s.size 0 0
theorem YM {s : ByteArray} {i : Nat} {n : Int} (h : i < s.size) : UV s (s.size - i) i n = if 48 ≤ AC s i ∧ AC s i ≤ 57 ∧ i < 9 then UV s (s.size - (i + 1)) (i + 1) (n * 10 + (AC s i - 48)) else -1 := by
 have e : s.size - i = (s.size - (i + 1)) + 1 := by omega
 rw [e]; rfl
theorem YL {s : ByteArray} {i : Nat} {n : Int} (h : s.size ≤ i) : UV s (s.size - i) i n = if s.size = 0 ∨ (1 < s.size ∧ AC s 0 = 48) then -1 else n := by
 have e : s.size - i = 0 := by omega
 rw [e]; rfl
def nH : Ct := Aq (lc Aw l0) (fun p => p.1.size ≤ 3) (fun p => .t (.v (.int .i64 (PO p.1))))
set_option maxHeartbeats 1600000 in
theorem fF {G : Gt} (hG : Ai G) : Gd G 252 (AA 0 nH) := by
 refine gr (fn := Tryz.f252) (n := 1) rfl hG ?_
 rintro ⟨s, ⟨⟩⟩ hpre
 simp -implicitDefEqProofs only [Tryz.f252, go_sem, seval] at hpre ⊢
 refine AF [] (ι := {p : Nat × Int // p.1 ≤ s.size ∧ 0 ≤ p.2 ∧ (p.1 = 0 → p.2 = 0) ∧ (p.1 ≤ 1 → p.2 ≤ 9) ∧ (p.1 ≤ 2 → p.2 ≤ 99) ∧ p.2 ≤ 999 ∧ UV s (s.size - p.1) p.1 p.2 = PO s}) (fun p => ⟨[(0, .t (.v (.string s))), (3, .t (.v (.int .i64 p.1.2))), (4, .t (.v (.int .i64 p.1.1)))], []⟩) (fun p => s.size - p.1.1) ⟨(0, 0), by simp, by simp, by simp, by simp, by simp, by simp, rfl⟩ rfl ?_ ?_
 ·simp -implicitDefEqProofs only [go_sem, seval]
  try simp
 ·rintro ⟨⟨i, n⟩, hi, h0, h1, h2, h3, h4, hv⟩
  dsimp only at hi h0 h1 h2 h3 h4 hv
  simp -implicitDefEqProofs only [go_sem, seval]
  with_reducible repeat' (first | apply ai | intro _ | ((first | apply s1 | apply s3 | apply s4) <;> intro hb <;> simp -implicitDefEqProofs only [hb, go_sem, seval] <;> try simp only [qz] at hb))
  all_goals (try simp only [maxLen, tn, Int.toNat_zero] at *)
  all_goals (try have hbr := A8 s i)
  all_goals first | rfl | omega | skip
  all_goals (by_cases hlt : i < s.size)
  all_goals first
   | omega
   | (rw [YM hlt, if_neg (by omega)] at hv; rw [← hv]; done)
   | (rw [YL (by omega), if_pos (by omega)] at hv; rw [← hv]; done)
   | (rw [YL (by omega), if_neg (by omega)] at hv; rw [← hv]; done)
   | (rw [YM hlt, if_pos (by omega)] at hv
      refine ⟨⟨(i + 1, n * 10 + (AC s i - 48)), by dsimp only; omega, by dsimp only; omega, by dsimp only; omega, by dsimp only; omega, by dsimp only; omega, by dsimp only; omega, hv⟩, by dsimp only; omega, ?_⟩
      simp -implicitDefEqProofs only [go_sem, seval]
      try simp
      done)
   | skip
theorem QAC (i : Nat) : ((i : Int) + 1).toNat = i + 1 := by omega
def Lt (s : ByteArray) : Nat → Nat → Nat → List ByteArray × Nat
 | 0, _, fr => ([], fr)
 | k + 1, i, fr => if i + 1 < s.size then (if AC s i = 13 ∧ AC s (i + 1) = 10 then (s.extract fr i :: (Lt s k (i + 2) (i + 2)).1, (Lt s k (i + 2) (i + 2)).2) else Lt s k (i + 1) fr) else ([], fr)
def OA (s : ByteArray) : List ByteArray := (Lt s s.size 0 0).1
def rA (s : ByteArray) : ByteArray := s.extract (Lt s s.size 0 0).2 s.size
theorem vD {s : ByteArray} {k i fr : Nat} (h : i + 1 < s.size) (c : AC s i = 13 ∧ AC s (i + 1) = 10) : Lt s (k + 1) i fr = (s.extract fr i :: (Lt s k (i + 2) (i + 2)).1, (Lt s k (i + 2) (i + 2)).2) := by
 rw [Lt, if_pos h, if_pos c]
theorem vC {s : ByteArray} {k i fr : Nat} (h : i + 1 < s.size) (c : ¬ (AC s i = 13 ∧ AC s (i + 1) = 10)) : Lt s (k + 1) i fr = Lt s k (i + 1) fr := by
 rw [Lt, if_pos h, if_neg c]
theorem jl {s : ByteArray} {k i fr : Nat} (h : ¬ i + 1 < s.size) : Lt s k i fr = ([], fr) := by
 cases k with
 | zero => rfl
 | succ k => rw [Lt, if_neg h]
theorem Xy (s : ByteArray) : ∀ k i fr, fr ≤ i → i ≤ s.size → (Lt s k i fr).2 ≤ s.size ∧ ((Lt s k i fr).1.length + i ≤ s.size) ∧ ∀ x ∈ (Lt s k i fr).1, x.size ≤ s.size
 | 0, i, fr, h, hi => ⟨by show fr ≤ s.size; omega, by show 0 + i ≤ s.size; omega, fun x hx => by cases hx⟩
 | k + 1, i, fr, h, hi => by
   rw [Lt]
   split
   ·split
    ·have q := Xy s k (i + 2) (i + 2) (Nat.le_refl _) (by omega)
     refine ⟨q.1, by show (Lt s k (i + 2) (i + 2)).1.length + 1 + i ≤ s.size; omega, fun x hx => ?_⟩
     rcases List.mem_cons.1 hx with rfl | hx
     ·rw [ByteArray.size_extract]; omega
     ·exact q.2.2 x hx
    ·have q := Xy s k (i + 1) fr (by omega) (by omega)
     exact ⟨q.1, by omega, q.2.2⟩
   ·exact ⟨by show fr ≤ s.size; omega, by show 0 + i ≤ s.size; omega, fun x hx => by cases hx⟩
theorem jm (s : ByteArray) : (OA s).length ≤ s.size ∧ (∀ x ∈ OA s, x.size ≤ s.size) ∧ (rA s).size ≤ s.size := by
 have q := Xy s s.size 0 0 (Nat.le_refl _) (by omega)
 unfold OA rA
 exact ⟨by omega, q.2.2, by rw [ByteArray.size_extract]; omega⟩
def nF : Ct := Aq (lc Aw l0) (fun p => p.1.size ≤ 2000000) (fun p => .tup [.o true 1 ((OA p.1).map AH), .t (.v (.string (rA p.1)))])
section
attribute [local go_sem] lm List.map_nil List.length_append List.length_cons List.length_nil
set_option maxHeartbeats 1600000 in
theorem fC {G : Gt} (hG : Ai G) : Gd G 249 (AA 0 nF) := by
 refine gr (fn := Tryz.f249) (n := 1) rfl hG ?_ (hs := fun _ _ => .tup _ fun c hc => by
  simp only [List.mem_cons, List.not_mem_nil, or_false] at hc
  rcases hc with rfl | rfl
  ·exact .deep _ _
  ·exact .v _)
 rintro ⟨s, ⟨⟩⟩ hpre
 simp -implicitDefEqProofs only [Tryz.f249, go_sem, seval] at hpre ⊢
 with_reducible repeat' (first | apply ai | intro _ | ((first | apply s1 | apply s3 | apply s4) <;> intro hb <;> simp -implicitDefEqProofs only [hb, go_sem, seval] <;> try simp only [qz] at hb))
 all_goals first | rfl | omega | skip
 refine AF [(4, 901, true, 1)] (ι := {p : Nat × Nat × Nat × List ByteArray // p.2.2.1 ≤ p.2.1 ∧ (p.2.1 ≤ s.size ∧ p.2.2.2.length ≤ p.2.1 ∧ s.size ≤ p.1 + p.2.1) ∧ p.2.2.2 ++ (Lt s p.1 p.2.1 p.2.2.1).1 = OA s ∧ s.extract (Lt s p.1 p.2.1 p.2.2.1).2 s.size = rA s}) (fun p => ⟨[(0, .t (.v (.string s))), (4, .h 901), (5, .t (.v (.int .i64 p.1.2.2.1))), (6, .t (.v (.int .i64 p.1.2.1)))], [(901, some (.arr true 1 (p.1.2.2.2.map AH)))]⟩) (fun p => s.size - p.1.2.1) ⟨(s.size, 0, 0, []), by simp, by simp, rfl, rfl⟩ rfl ?_ ?_
 ·simp -implicitDefEqProofs only [go_sem, seval]
  try simp
 ·rintro ⟨⟨k, i, fr, out⟩, hf, ⟨hi, ho, hk⟩, h1, h2⟩
  dsimp only at hf hi ho hk h1 h2
  simp -implicitDefEqProofs only [go_sem, seval]
  with_reducible repeat' (first | apply ai | intro _ | ((first | apply s1 | apply s3 | apply s4) <;> intro hb <;> simp -implicitDefEqProofs only [hb, go_sem, seval] <;> try simp only [qz] at hb))
  all_goals (try simp only [maxLen, tn, QAC] at *)
  all_goals first
   | rfl
   | omega
   | (rename_i q; simp only [List.mem_singleton] at q; subst q; rfl)
   | (simp only [List.mem_singleton] at *; omega)
   | (rw [jl (by omega), List.append_nil] at h1; rw [h1]; done)
   | (rw [jl (by omega)] at h2; rw [← h2]; done)
   | (obtain ⟨k, rfl⟩ : ∃ j, k = j + 1 := ⟨k - 1, by omega⟩
      rw [vD (by omega) ⟨by assumption, by assumption⟩] at h1 h2
      refine ⟨⟨(k, i + 2, i + 2, out ++ [s.extract fr i]), by dsimp only; omega, ⟨by dsimp only; omega, by simp; omega, by dsimp only; omega⟩, by simpa using h1, h2⟩, by dsimp only; omega, ?_⟩
      simp -implicitDefEqProofs only [go_sem, seval]
      simp [AH]
      try omega
      done)
   | (obtain ⟨k, rfl⟩ : ∃ j, k = j + 1 := ⟨k - 1, by omega⟩
      rw [vC (by omega) (by omega)] at h1 h2
      refine ⟨⟨(k, i + 1, fr, out), by dsimp only; omega, ⟨by dsimp only; omega, by dsimp only; omega, by dsimp only; omega⟩, h1, h2⟩, by dsimp only; omega, ?_⟩
      simp -implicitDefEqProofs only [go_sem, seval]
      try simp
      done)
   | skip
end
def dg (n : Int) : ByteArray := F6 [48 + n]
theorem NI (n : Int) : (dg n).size = 1 := rfl
def NE (n : Int) : ByteArray := if n < 10 then dg n else dg (n / 10) ++ dg (n % 10)
theorem NF {n : Int} (h : n < 10) : NE n = dg n := if_pos h
theorem IK (n : Int) : 1 ≤ (NE n).size ∧ (NE n).size ≤ 2 := by
 unfold NE
 split
 ·rw [NI]; omega
 ·rw [ByteArray.size_append, NI, NI]; omega
theorem oS {n : Int} (h : ¬ n < 10) : NE n = dg (n / 10) ++ dg (n % 10) := if_neg h
def SN : Ct := Aq (lc BA l0) (fun p => 0 ≤ p.1 ∧ p.1 < 10) (fun p => .t (.v (.string (NE p.1))))
theorem XV {G : Gt} (hG : Ai G) : Gd G 223 (AA 0 SN) := by
 refine gr (fn := Tryz.f223) (n := 1) rfl hG ?_
 rintro ⟨n, ⟨⟩⟩ hpre
 simp -implicitDefEqProofs only [Tryz.f223, go_sem, seval] at hpre ⊢
 have h1 : 0 ≤ n := hpre.1
 have h2 : n < 10 := hpre.2
 with_reducible repeat' (first | apply ai | intro _ | ((first | apply s1 | apply s3 | apply s4) <;> intro hb <;> simp -implicitDefEqProofs only [hb, go_sem, seval] <;> try simp only [qz] at hb))
 all_goals (try simp only [maxLen, tn] at *)
 all_goals first | rfl | omega | (rw [NF h2]; rfl) | skip
def bX : Ct := Aq (lc BA l0) (fun p => 0 ≤ p.1 ∧ p.1 < 100) (fun p => .t (.v (.string (NE p.1))))
section
attribute [local go_sem] SN
theorem XW {G : Gt} (hG : Ai G) (hh : G.e 223 = AA 0 SN) : Gd G 223 (AA 0 bX) := by
 refine gr (fn := Tryz.f223) (n := 1) rfl hG ?_
 rintro ⟨n, ⟨⟩⟩ hpre
 simp -implicitDefEqProofs only [Tryz.f223, go_sem, hh, seval] at hpre ⊢
 have h1 : 0 ≤ n := hpre.1
 have h2 : n < 100 := hpre.2
 with_reducible repeat' (first | apply ai | intro _ | ((first | apply s1 | apply s3 | apply s4) <;> intro hb <;> simp -implicitDefEqProofs only [hb, go_sem, hh, seval] <;> try simp only [qz] at hb))
 all_goals (try simp only [maxLen, tn] at *)
 all_goals first | rfl | omega | (rw [NF (by omega)]; rfl) | (rw [oS (n := n) (by omega), NF (n := n / 10) (by omega)]; rfl) | (rw [NF (n := n / 10) (by omega)]; rfl) | (have := (IK (n / 10)).2; have e : (F6 [48 + n % 10]).size = 1 := rfl; omega) | skip
end
theorem eQ {G : Gt} (hG : Ai G) : Gd G 223 (AA 0 bX) := XW (G := Py G.m [(223, AA 0 SN)]) (AB Mq (XV (G := Py G.m []) Mq)) rfl
theorem BP {g : Prop} (c : Prop) (h1 : c → g) (h2 : ¬ c → g) : g := (Classical.em c).elim h1 h2
theorem z9 : (1 : Int).toNat = 1 := rfl
theorem Hf {l : ByteArray} (h : ¬ l = ⟨#[]⟩) : (0 : Int) < l.size := by
 have : ¬ l.size = 0 := fun e => h (ByteArray.size_eq_zero_iff.1 e)
 omega
def UR : Ml := ⟨⟨⟨#[]⟩, ⟨#[]⟩⟩, [], []⟩
def Fn (s : Ss) : Ss := ⟨s.state, UR, false, s.buf⟩
theorem nX (s : Ss) : Fn s = ⟨s.state, ⟨⟨⟨#[]⟩, ⟨#[]⟩⟩, [], []⟩, false, s.buf⟩ := rfl
open Classical in
noncomputable def Ay (l : ByteArray) (w : ByteArray) : ByteArray × Bool := (if (l.size : Int) < w.size then (⟨#[]⟩, false) else (if l.extract 0 w.size = w then (l.extract w.size l.size, true) else (⟨#[]⟩, false)))
theorem iJ {l : ByteArray} {w : ByteArray} (h0 : (l.size : Int) < w.size) : Ay l w = (⟨#[]⟩, false) := by unfold Ay; rw [if_pos h0]
theorem iK {l : ByteArray} {w : ByteArray} (h0 : ¬ ((l.size : Int) < w.size)) (h1 : l.extract 0 w.size = w) : Ay l w = (l.extract w.size l.size, true) := by unfold Ay; rw [if_neg h0, if_pos h1]
theorem iL {l : ByteArray} {w : ByteArray} (h0 : ¬ ((l.size : Int) < w.size)) (h1 : ¬ (l.extract 0 w.size = w)) : Ay l w = (⟨#[]⟩, false) := by unfold Ay; rw [if_neg h0, if_neg h1]
theorem N0 (l w : ByteArray) : (Ay l w).1.size ≤ l.size := by
 unfold Ay
 split
 ·exact Nat.zero_le _
 ·split
  ·show (l.extract w.size l.size).size ≤ _; rw [ByteArray.size_extract]; omega
  ·exact Nat.zero_le _
def nL : Ct := Aq (lc Aw (lc Aw l0)) (fun p => True) (fun p => .tup [.t (.v (.string (Ay p.1 p.2.1).1)), .t (.v (.bool (Ay p.1 p.2.1).2))])
section
attribute [local go_sem] tn
theorem fJ {G : Gt} (hG : Ai G) : Gd G 256 (AA 0 nL) := by
 refine gr (fn := Tryz.f256) (n := 2) rfl hG ?_ (hs := fun _ _ => .tup _ fun c hc => by
  simp only [List.mem_cons, List.not_mem_nil, or_false] at hc
  rcases hc with rfl | rfl <;> exact .v _)
 rintro ⟨l, w, ⟨⟩⟩ hpre
 try dsimp only
 refine BP ((l.size : Int) < w.size) (fun h0 => have e_ : Ay l w = _ := iJ h0; have h1 := tv; ?_) (fun h0 => BP (l.extract 0 w.size = w) (fun h1 => have e_ : Ay l w = _ := iK h0 h1; ?_) (fun h1 => have e_ : Ay l w = _ := iL h0 h1; ?_))
 all_goals
  try rw [e_]
  simp -implicitDefEqProofs only [Tryz.f256, h0, h1, eq_self, decide_true, decide_false, Int.reduceEq, go_sem, seval]
  with_reducible repeat' (first | apply ai | intro _ | ((first | apply s1 | apply s3 | apply s4) <;> intro hb <;> simp -implicitDefEqProofs only [hb, go_sem, seval] <;> try simp only [qz] at hb))
  all_goals (try simp only [maxLen, tn, lm] at *)
  all_goals first | rfl | omega | decide | with_reducible assumption | (show AY _ = true; rfl) | exact Hf (by assumption) | contradiction | skip
end
def Qb : Ct := Aq (lc Z3.ag l0) (fun p => True) (fun p => .agg ((El (Fn p.1)).map .t))
section
attribute [local go_sem] nX AS.opn AS.cls AS.nilb AS.renb AS.up Bool.not_false Bool.not_true List.set_set List.set_cons_zero List.set_cons_succ List.set_nil List.mem_singleton forall_eq tn List.map_nil List.nil_append
theorem fD {G : Gt} (hG : Ai G) : Gd G 250 (AA 1 Qb) := by
 refine gr (fn := Tryz.f250) (n := 1) rfl hG ?_
 rintro ⟨s, ⟨⟩⟩ hpre
 simp -implicitDefEqProofs only [Tryz.f250, go_sem, seval] at hpre ⊢
 with_reducible repeat' (first | apply ai | intro _ | ((first | apply s1 | apply s3 | apply s4) <;> intro hb <;> simp -implicitDefEqProofs only [hb, go_sem, seval] <;> try simp only [qz] at hb))
 all_goals first | rfl | omega | decide | with_reducible assumption | (show AY _ = true; rfl) | exact Hf (by assumption) | contradiction | skip
end
open Classical in
noncomputable def Em (s : Ss) (t : ByteArray) : Ss × ByteArray := (if s.state = 1 then (if GU t then (⟨2, ⟨BH t, [], []⟩, s.bad, s.buf⟩, ⟨#[50, 53, 48, 32, 102, 114, 111, 109]⟩) else (s, ⟨#[53, 48, 49, 32, 102, 111, 114, 109]⟩)) else (s, ⟨#[53, 48, 51, 32, 111, 114, 100, 101, 114]⟩))
theorem o0 {s : Ss} {t : ByteArray} (h0 : s.state = 1) (h1 : GU t) : Em s t = (⟨2, ⟨BH t, [], []⟩, s.bad, s.buf⟩, ⟨#[50, 53, 48, 32, 102, 114, 111, 109]⟩) := by unfold Em; rw [if_pos h0, if_pos h1]
theorem o9 {s : Ss} {t : ByteArray} (h0 : s.state = 1) (h1 : ¬ (GU t)) : Em s t = (s, ⟨#[53, 48, 49, 32, 102, 111, 114, 109]⟩) := by unfold Em; rw [if_pos h0, if_neg h1]
theorem pA {s : Ss} {t : ByteArray} (h0 : ¬ (s.state = 1)) : Em s t = (s, ⟨#[53, 48, 51, 32, 111, 114, 100, 101, 114]⟩) := by unfold Em; rw [if_neg h0]
def nM : Ct := Aq (lc Z3.ag (lc Aw l0)) (fun p => p.2.1.size ≤ 2000000) (fun p => .tup [.agg ((El (Em p.1 p.2.1).1).map .t), .t (.v (.string (Em p.1 p.2.1).2))])
section
attribute [local go_sem] Vt RX AS.opn AS.cls AS.nilb AS.renb AS.up Bool.not_false Bool.not_true List.set_set List.set_cons_zero List.set_cons_succ List.set_nil List.mem_singleton forall_eq tn List.map_nil List.nil_append
theorem fK {G : Gt} (hG : Ai G) (hh : G.e 167 = AA 0 Vt) : Gd G 257 (AA 1 nM) := by
 refine gr (fn := Tryz.f257) (n := 2) rfl hG ?_
 rintro ⟨s, t, ⟨⟩⟩ hpre
 have hz : t.size ≤ 2000000 := hpre
 try dsimp only
 refine BP (s.state = 1) (fun h0 => BP (GU t) (fun h1 => have h1' := Ap h1; have e_ : Em s t = _ := o0 h0 h1; ?_) (fun h1 => have h1' := AN h1; have e_ : Em s t = _ := o9 h0 h1; ?_)) (fun h0 => have e_ : Em s t = _ := pA h0; have h1' := tv; ?_)
 all_goals
  try rw [e_]
  simp -implicitDefEqProofs only [Tryz.f257, h0, h1', eq_self, decide_true, decide_false, Int.reduceEq, go_sem, hh, seval]
  with_reducible repeat' (first | apply ai | intro _ | ((first | apply s1 | apply s3 | apply s4) <;> intro hb <;> simp -implicitDefEqProofs only [hb, go_sem, hh, seval] <;> try simp only [qz] at hb))
  all_goals (try simp only [maxLen, tn, lm] at *)
  all_goals first | rfl | omega | decide | with_reducible assumption | (show AY _ = true; rfl) | exact Hf (by assumption) | contradiction | skip
end
theorem xI {a b : Ad} : (decide (a.user = b.user) && decide (a.domain = b.domain)) = decide (a = b) := by
 rw [← Bool.decide_and]; exact decide_eq_decide.2 Bj.symm
theorem zx {b : Bool} : ((false != b) = true) = (b = true) := by cases b <;> rfl
theorem zv {b : Bool} : ((false != b) = false) = (b = false) := by cases b <;> rfl
theorem X0 {α : Type} [Inhabited α] {xs : List α} {i : Nat} {a : α} (h : i < xs.length) (e : xs.getD i default = a) : a ∈ xs := e ▸ AE h
theorem YJ {α : Type} [Inhabited α] {xs : List α} {i : Nat} {a : α} (h : xs.length ≤ i) (hall : ∀ j, j < i → ¬ xs.getD j default = a) : ¬ a ∈ xs := fun q => by
 obtain ⟨k, hk, e⟩ := List.getElem_of_mem q
 exact hall k (by omega) (by simpa [hk] using e)
open Classical in
noncomputable def Hw (c : Cf) (s : Ss) (t : ByteArray) : Ss × ByteArray := (if s.state = 2 ∨ s.state = 3 then (if GU t then (if Ab (BH t) then (s, ⟨#[53, 48, 49, 32, 102, 111, 114, 109]⟩) else (if J6 c (BH t) then (if BH t ∈ s.mail.to then (s, ⟨#[50, 53, 48, 32, 116, 111]⟩) else (if (s.mail.to.length : Int) ≥ 4 then (s, ⟨#[52, 53, 50, 32, 109, 97, 110, 121]⟩) else (⟨3, ⟨s.mail.frm, s.mail.to ++ [BH t], s.mail.body⟩, s.bad, s.buf⟩, ⟨#[50, 53, 48, 32, 116, 111]⟩))) else (s, ⟨#[53, 53, 48, 32, 110, 111, 98, 111, 100, 121]⟩))) else (s, ⟨#[53, 48, 49, 32, 102, 111, 114, 109]⟩)) else (s, ⟨#[53, 48, 51, 32, 111, 114, 100, 101, 114]⟩))
theorem wJ {c : Cf} {s : Ss} {t : ByteArray} (h0 : s.state = 2 ∨ s.state = 3) (h1 : GU t) (h2 : Ab (BH t)) : Hw c s t = (s, ⟨#[53, 48, 49, 32, 102, 111, 114, 109]⟩) := by unfold Hw; rw [if_pos h0, if_pos h1, if_pos h2]
theorem wK {c : Cf} {s : Ss} {t : ByteArray} (h0 : s.state = 2 ∨ s.state = 3) (h1 : GU t) (h2 : ¬ (Ab (BH t))) (h3 : J6 c (BH t)) (h4 : BH t ∈ s.mail.to) : Hw c s t = (s, ⟨#[50, 53, 48, 32, 116, 111]⟩) := by unfold Hw; rw [if_pos h0, if_pos h1, if_neg h2, if_pos h3, if_pos h4]
theorem wL {c : Cf} {s : Ss} {t : ByteArray} (h0 : s.state = 2 ∨ s.state = 3) (h1 : GU t) (h2 : ¬ (Ab (BH t))) (h3 : J6 c (BH t)) (h4 : ¬ (BH t ∈ s.mail.to)) (h5 : (s.mail.to.length : Int) ≥ 4) : Hw c s t = (s, ⟨#[52, 53, 50, 32, 109, 97, 110, 121]⟩) := by unfold Hw; rw [if_pos h0, if_pos h1, if_neg h2, if_pos h3, if_neg h4, if_pos h5]
theorem wM {c : Cf} {s : Ss} {t : ByteArray} (h0 : s.state = 2 ∨ s.state = 3) (h1 : GU t) (h2 : ¬ (Ab (BH t))) (h3 : J6 c (BH t)) (h4 : ¬ (BH t ∈ s.mail.to)) (h5 : ¬ ((s.mail.to.length : Int) ≥ 4)) : Hw c s t = (⟨3, ⟨s.mail.frm, s.mail.to ++ [BH t], s.mail.body⟩, s.bad, s.buf⟩, ⟨#[50, 53, 48, 32, 116, 111]⟩) := by unfold Hw; rw [if_pos h0, if_pos h1, if_neg h2, if_pos h3, if_neg h4, if_neg h5]
theorem wN {c : Cf} {s : Ss} {t : ByteArray} (h0 : s.state = 2 ∨ s.state = 3) (h1 : GU t) (h2 : ¬ (Ab (BH t))) (h3 : ¬ (J6 c (BH t))) : Hw c s t = (s, ⟨#[53, 53, 48, 32, 110, 111, 98, 111, 100, 121]⟩) := by unfold Hw; rw [if_pos h0, if_pos h1, if_neg h2, if_neg h3]
theorem wO {c : Cf} {s : Ss} {t : ByteArray} (h0 : s.state = 2 ∨ s.state = 3) (h1 : ¬ (GU t)) : Hw c s t = (s, ⟨#[53, 48, 49, 32, 102, 111, 114, 109]⟩) := by unfold Hw; rw [if_pos h0, if_neg h1]
theorem wP {c : Cf} {s : Ss} {t : ByteArray} (h0 : ¬ (s.state = 2 ∨ s.state = 3)) : Hw c s t = (s, ⟨#[53, 48, 51, 32, 111, 114, 100, 101, 114]⟩) := by unfold Hw; rw [if_neg h0]
def nN : Ct := Aq (lc H4.ag (lc Z3.ag (lc Aw l0))) (fun p => p.2.2.1.size ≤ 2000000 ∧ p.2.1.mail.to.length ≤ 1000) (fun p => .tup [.agg ((El (Hw p.1 p.2.1 p.2.2.1).1).map .t), .t (.v (.string (Hw p.1 p.2.1 p.2.2.1).2))])
section
attribute [local go_sem] Vt Tt nO RX AS.opn AS.cls AS.nilb AS.renb AS.up Bool.not_false Bool.not_true List.set_set List.set_cons_zero List.set_cons_succ List.set_nil List.mem_singleton forall_eq tn List.map_nil List.nil_append
set_option maxHeartbeats 3200000 in
theorem fL {G : Gt} (hG : Ai G) (hh : G.e 167 = AA 0 Vt ∧ G.e 62 = AA 0 Tt ∧ G.e 259 = AA 0 nO) : Gd G 258 (AA 1 nN) := by
 refine gr (fn := Tryz.f258) (n := 3) rfl hG ?_
 rintro ⟨c, s, t, ⟨⟩⟩ hpre
 obtain ⟨hz, hn⟩ := hpre
 try dsimp only at hz hn ⊢
 refine BP (s.state = 2 ∨ s.state = 3) (fun h0 => BP (GU t) (fun h1 => have h1' := Ap h1; BP (Ab (BH t)) (fun h2 => have h2' := Ap h2; have e_ : Hw c s t = _ := wJ h0 h1 h2; have h3' := tv; ?_) (fun h2 => have h2' := AN h2; BP (J6 c (BH t)) (fun h3 => have h3' := Ap h3; ?w1) (fun h3 => have h3' := AN h3; have e_ : Hw c s t = _ := wN h0 h1 h2 h3; ?_))) (fun h1 => have h1' := AN h1; have e_ : Hw c s t = _ := wO h0 h1; have h2' := tv; have h3' := tv; ?_)) (fun h0 => have e_ : Hw c s t = _ := wP h0; have h1' := tv; have h2' := tv; have h3' := tv; ?_)
 case w1 =>
  simp -implicitDefEqProofs only [Tryz.f258, h0, h1', h2', h3', eq_self, decide_true, decide_false, go_sem, hh, seval]
  with_reducible repeat' (first | apply ai | intro _ | ((first | apply s1 | apply s3 | apply s4) <;> intro hb <;> simp -implicitDefEqProofs only [hb, go_sem, hh, seval] <;> try simp only [qz] at hb))
  all_goals (try simp only [maxLen, tn, lm] at *)
  all_goals first | rfl | omega | decide | with_reducible assumption | (show AY _ = true; rfl) | exact Hf (by assumption) | contradiction | skip
  all_goals
   refine AF [] (ι := {i : Nat // i ≤ s.mail.to.length ∧ ∀ j, j < i → ¬ s.mail.to.getD j default = BH t}) (fun p => ⟨[(4, .pb 1004 0), (6, .pb 1006 0), (8, .pb 1008 0), (10, .t (.v (.int .i64 p.1)))], [(1004, some (.box ((El s).map .t))), (1006, some (.box [.t (.v (.int .i64 0)), .t (.v (.string ⟨#[]⟩)), .t (.v (.string ⟨#[]⟩)), .nil, .nil, .t (.v (.bool false)), .t (.v (.string ⟨#[]⟩))])), (1008, some (.box [.t (.v (.string (BH t).user)), .t (.v (.string (BH t).domain))]))]⟩) (fun p => s.mail.to.length - p.1) ⟨0, by simp, by simp⟩ rfl ?_ ?_
   ·simp -implicitDefEqProofs only [go_sem, hh, seval]
    try simp
   ·rintro ⟨i, hi, hall⟩
    simp -implicitDefEqProofs only [go_sem, hh, seval]
    with_reducible repeat' (first | apply ai | intro _ | ((first | apply s1 | apply s3 | apply s4) <;> intro hb <;> simp -implicitDefEqProofs only [hb, go_sem, hh, seval] <;> try simp only [qz] at hb))
    all_goals (try simp only [maxLen, tn, lm, xI, zx, zv, qa, qb] at *)
    all_goals first
     | rfl | omega | decide | with_reducible assumption | (show AY _ = true; rfl) | exact Hf (by assumption) | contradiction
     | (rw [wK h0 h1 h2 h3 (X0 (xs := s.mail.to) (i := i) (by omega) (by assumption))]; first | done | rfl)
     | (rw [wL h0 h1 h2 h3 (YJ (by omega) hall) (by omega)]; first | done | rfl)
     | (rw [wM h0 h1 h2 h3 (YJ (by omega) hall) (by omega)]; first | done | rfl | (simp [Az]; done))
     | (refine ⟨⟨i + 1, by omega, fun j hj => ?_⟩, by dsimp only; omega, ?_⟩
        ·by_cases e : j = i
         ·subst e; assumption
         ·exact hall j (by omega)
        ·simp -implicitDefEqProofs only [go_sem, hh, seval]
         simp)
     | skip
 all_goals
  try rw [e_]
  simp -implicitDefEqProofs only [Tryz.f258, h0, h1', h2', h3', eq_self, decide_true, decide_false, Int.reduceEq, go_sem, hh, seval]
  with_reducible repeat' (first | apply ai | intro _ | ((first | apply s1 | apply s3 | apply s4) <;> intro hb <;> simp -implicitDefEqProofs only [hb, go_sem, hh, seval] <;> try simp only [qz] at hb))
  all_goals (try simp only [maxLen, tn, lm] at *)
  all_goals first | rfl | omega | decide | with_reducible assumption | (show AY _ = true; rfl) | exact Hf (by assumption) | contradiction | skip
end
open Classical in
noncomputable def Am (s : Ss) (l : ByteArray) : (Ss × ByteArray) × Bool := (if l = ⟨#[46]⟩ then (if s.bad = true then ((⟨1, s.mail, s.bad, s.buf⟩, ⟨#[53, 53, 52, 32, 110, 111]⟩), false) else (if DZ s.mail.body then (if (s.mail.body.length : Int) ≥ 12 then ((⟨1, s.mail, s.bad, s.buf⟩, ⟨#[53, 53, 52, 32, 110, 111]⟩), false) else (if (D9 s.mail.body : Int) ≥ 4 then ((⟨1, s.mail, s.bad, s.buf⟩, ⟨#[53, 53, 52, 32, 114, 111, 117, 110, 100]⟩), false) else ((⟨1, s.mail, s.bad, s.buf⟩, ⟨#[50, 53, 48, 32, 116, 97, 107, 101, 110]⟩), true))) else ((⟨1, s.mail, s.bad, s.buf⟩, ⟨#[53, 53, 52, 32, 110, 111]⟩), false))) else (if l = ⟨#[]⟩ then (if (s.mail.body.length : Int) ≥ 12 then ((⟨s.state, s.mail, true, s.buf⟩, ⟨#[]⟩), false) else (if Ie l then ((⟨s.state, ⟨s.mail.frm, s.mail.to, s.mail.body ++ [l]⟩, s.bad, s.buf⟩, ⟨#[]⟩), false) else ((⟨s.state, s.mail, true, s.buf⟩, ⟨#[]⟩), false))) else (if AC l 0 = 46 then (if (s.mail.body.length : Int) ≥ 12 then ((⟨s.state, s.mail, true, s.buf⟩, ⟨#[]⟩), false) else (if Ie (l.extract 1 l.size) then ((⟨s.state, ⟨s.mail.frm, s.mail.to, s.mail.body ++ [l.extract 1 l.size]⟩, s.bad, s.buf⟩, ⟨#[]⟩), false) else ((⟨s.state, s.mail, true, s.buf⟩, ⟨#[]⟩), false))) else (if (s.mail.body.length : Int) ≥ 12 then ((⟨s.state, s.mail, true, s.buf⟩, ⟨#[]⟩), false) else (if Ie l then ((⟨s.state, ⟨s.mail.frm, s.mail.to, s.mail.body ++ [l]⟩, s.bad, s.buf⟩, ⟨#[]⟩), false) else ((⟨s.state, s.mail, true, s.buf⟩, ⟨#[]⟩), false))))))
theorem n7 {s : Ss} {l : ByteArray} (h0 : l = ⟨#[46]⟩) (h1 : s.bad = true) : Am s l = ((⟨1, s.mail, s.bad, s.buf⟩, ⟨#[53, 53, 52, 32, 110, 111]⟩), false) := by unfold Am; rw [if_pos h0, if_pos h1]
theorem n8 {s : Ss} {l : ByteArray} (h0 : l = ⟨#[46]⟩) (h1 : ¬ (s.bad = true)) (h2 : DZ s.mail.body) (h3 : (s.mail.body.length : Int) ≥ 12) : Am s l = ((⟨1, s.mail, s.bad, s.buf⟩, ⟨#[53, 53, 52, 32, 110, 111]⟩), false) := by unfold Am; rw [if_pos h0, if_neg h1, if_pos h2, if_pos h3]
theorem n9 {s : Ss} {l : ByteArray} (h0 : l = ⟨#[46]⟩) (h1 : ¬ (s.bad = true)) (h2 : DZ s.mail.body) (h3 : ¬ ((s.mail.body.length : Int) ≥ 12)) (h4 : (D9 s.mail.body : Int) ≥ 4) : Am s l = ((⟨1, s.mail, s.bad, s.buf⟩, ⟨#[53, 53, 52, 32, 114, 111, 117, 110, 100]⟩), false) := by unfold Am; rw [if_pos h0, if_neg h1, if_pos h2, if_neg h3, if_pos h4]
theorem oA {s : Ss} {l : ByteArray} (h0 : l = ⟨#[46]⟩) (h1 : ¬ (s.bad = true)) (h2 : DZ s.mail.body) (h3 : ¬ ((s.mail.body.length : Int) ≥ 12)) (h4 : ¬ ((D9 s.mail.body : Int) ≥ 4)) : Am s l = ((⟨1, s.mail, s.bad, s.buf⟩, ⟨#[50, 53, 48, 32, 116, 97, 107, 101, 110]⟩), true) := by unfold Am; rw [if_pos h0, if_neg h1, if_pos h2, if_neg h3, if_neg h4]
theorem oB {s : Ss} {l : ByteArray} (h0 : l = ⟨#[46]⟩) (h1 : ¬ (s.bad = true)) (h2 : ¬ (DZ s.mail.body)) : Am s l = ((⟨1, s.mail, s.bad, s.buf⟩, ⟨#[53, 53, 52, 32, 110, 111]⟩), false) := by unfold Am; rw [if_pos h0, if_neg h1, if_neg h2]
theorem oC {s : Ss} {l : ByteArray} (h0 : ¬ (l = ⟨#[46]⟩)) (h1 : l = ⟨#[]⟩) (h2 : (s.mail.body.length : Int) ≥ 12) : Am s l = ((⟨s.state, s.mail, true, s.buf⟩, ⟨#[]⟩), false) := by unfold Am; rw [if_neg h0, if_pos h1, if_pos h2]
theorem oD {s : Ss} {l : ByteArray} (h0 : ¬ (l = ⟨#[46]⟩)) (h1 : l = ⟨#[]⟩) (h2 : ¬ ((s.mail.body.length : Int) ≥ 12)) (h3 : Ie l) : Am s l = ((⟨s.state, ⟨s.mail.frm, s.mail.to, s.mail.body ++ [l]⟩, s.bad, s.buf⟩, ⟨#[]⟩), false) := by unfold Am; rw [if_neg h0, if_pos h1, if_neg h2, if_pos h3]
theorem oE {s : Ss} {l : ByteArray} (h0 : ¬ (l = ⟨#[46]⟩)) (h1 : l = ⟨#[]⟩) (h2 : ¬ ((s.mail.body.length : Int) ≥ 12)) (h3 : ¬ (Ie l)) : Am s l = ((⟨s.state, s.mail, true, s.buf⟩, ⟨#[]⟩), false) := by unfold Am; rw [if_neg h0, if_pos h1, if_neg h2, if_neg h3]
theorem oF {s : Ss} {l : ByteArray} (h0 : ¬ (l = ⟨#[46]⟩)) (h1 : ¬ (l = ⟨#[]⟩)) (h2 : AC l 0 = 46) (h3 : (s.mail.body.length : Int) ≥ 12) : Am s l = ((⟨s.state, s.mail, true, s.buf⟩, ⟨#[]⟩), false) := by unfold Am; rw [if_neg h0, if_neg h1, if_pos h2, if_pos h3]
theorem oG {s : Ss} {l : ByteArray} (h0 : ¬ (l = ⟨#[46]⟩)) (h1 : ¬ (l = ⟨#[]⟩)) (h2 : AC l 0 = 46) (h3 : ¬ ((s.mail.body.length : Int) ≥ 12)) (h4 : Ie (l.extract 1 l.size)) : Am s l = ((⟨s.state, ⟨s.mail.frm, s.mail.to, s.mail.body ++ [l.extract 1 l.size]⟩, s.bad, s.buf⟩, ⟨#[]⟩), false) := by unfold Am; rw [if_neg h0, if_neg h1, if_pos h2, if_neg h3, if_pos h4]
theorem bt {s : Ss} {l : ByteArray} (h0 : ¬ (l = ⟨#[46]⟩)) (h1 : ¬ (l = ⟨#[]⟩)) (h2 : AC l 0 = 46) (h3 : ¬ ((s.mail.body.length : Int) ≥ 12)) (h4 : ¬ (Ie (l.extract 1 l.size))) : Am s l = ((⟨s.state, s.mail, true, s.buf⟩, ⟨#[]⟩), false) := by unfold Am; rw [if_neg h0, if_neg h1, if_pos h2, if_neg h3, if_neg h4]
theorem bu {s : Ss} {l : ByteArray} (h0 : ¬ (l = ⟨#[46]⟩)) (h1 : ¬ (l = ⟨#[]⟩)) (h2 : ¬ (AC l 0 = 46)) (h3 : (s.mail.body.length : Int) ≥ 12) : Am s l = ((⟨s.state, s.mail, true, s.buf⟩, ⟨#[]⟩), false) := by unfold Am; rw [if_neg h0, if_neg h1, if_neg h2, if_pos h3]
theorem bw {s : Ss} {l : ByteArray} (h0 : ¬ (l = ⟨#[46]⟩)) (h1 : ¬ (l = ⟨#[]⟩)) (h2 : ¬ (AC l 0 = 46)) (h3 : ¬ ((s.mail.body.length : Int) ≥ 12)) (h4 : Ie l) : Am s l = ((⟨s.state, ⟨s.mail.frm, s.mail.to, s.mail.body ++ [l]⟩, s.bad, s.buf⟩, ⟨#[]⟩), false) := by unfold Am; rw [if_neg h0, if_neg h1, if_neg h2, if_neg h3, if_pos h4]
theorem bz {s : Ss} {l : ByteArray} (h0 : ¬ (l = ⟨#[46]⟩)) (h1 : ¬ (l = ⟨#[]⟩)) (h2 : ¬ (AC l 0 = 46)) (h3 : ¬ ((s.mail.body.length : Int) ≥ 12)) (h4 : ¬ (Ie l)) : Am s l = ((⟨s.state, s.mail, true, s.buf⟩, ⟨#[]⟩), false) := by unfold Am; rw [if_neg h0, if_neg h1, if_neg h2, if_neg h3, if_neg h4]
def nK : Ct := Aq (lc Z3.ag (lc Aw l0)) (fun p => p.1.mail.body.length ≤ 1000) (fun p => .tup [.agg ((El (Am p.1 p.2.1).1.1).map .t), .t (.v (.string (Am p.1 p.2.1).1.2)), .t (.v (.bool (Am p.1 p.2.1).2))])
section
attribute [local go_sem] M7 mN QW Int.toNat_zero z9 AS.opn AS.cls AS.nilb AS.renb AS.up Bool.not_false Bool.not_true List.set_set List.set_cons_zero List.set_cons_succ List.set_nil List.mem_singleton forall_eq tn List.map_nil List.nil_append
set_option maxHeartbeats 3200000 in
theorem fI {G : Gt} (hG : Ai G) (hh : G.e 142 = AA 0 M7 ∧ G.e 166 = AA 0 mN ∧ G.e 124 = AA 0 QW) : Gd G 255 (AA 1 nK) := by
 refine gr (fn := Tryz.f255) (n := 2) rfl hG ?_
 rintro ⟨s, l, ⟨⟩⟩ hpre
 have hn : s.mail.body.length ≤ 1000 := hpre
 try dsimp only
 refine BP (l = ⟨#[46]⟩) (fun h0 => BP (s.bad = true) (fun h1 => have e_ : Am s l = _ := n7 h0 h1; have h1' := tv; have h2' := tv; have h3 := tv; have h4 := tv; have h2 := tv; have h3' := tv; have h4' := tv; ?_) (fun h1 => have h1' := (Bool.not_eq_true _).mp h1; BP (DZ s.mail.body) (fun h2 => have h2' := Ap h2; BP ((s.mail.body.length : Int) ≥ 12) (fun h3 => have e_ : Am s l = _ := n8 h0 h1 h2 h3; have h1 := tv; have h4 := tv; have h2 := tv; have h3' := tv; have h4' := tv; ?_) (fun h3 => BP ((D9 s.mail.body : Int) ≥ 4) (fun h4 => have e_ : Am s l = _ := n9 h0 h1 h2 h3 h4; have h1 := tv; have h2 := tv; have h3' := tv; have h4' := tv; ?_) (fun h4 => have e_ : Am s l = _ := oA h0 h1 h2 h3 h4; have h1 := tv; have h2 := tv; have h3' := tv; have h4' := tv; ?_))) (fun h2 => have h2' := AN h2; have e_ : Am s l = _ := oB h0 h1 h2; have h1 := tv; have h3 := tv; have h4 := tv; have h2 := tv; have h3' := tv; have h4' := tv; ?_))) (fun h0 => BP (l = ⟨#[]⟩) (fun h1 => BP ((s.mail.body.length : Int) ≥ 12) (fun h2 => have e_ : Am s l = _ := oC h0 h1 h2; have h1' := tv; have h2' := tv; have h3 := tv; have h4 := tv; have h3' := tv; have h4' := tv; ?_) (fun h2 => BP (Ie l) (fun h3 => have h3' := Ap h3; have e_ : Am s l = _ := oD h0 h1 h2 h3; have h1' := tv; have h2' := tv; have h3 := tv; have h4 := tv; have h4' := tv; ?_) (fun h3 => have h3' := AN h3; have e_ : Am s l = _ := oE h0 h1 h2 h3; have h1' := tv; have h2' := tv; have h3 := tv; have h4 := tv; have h4' := tv; ?_))) (fun h1 => BP (AC l 0 = 46) (fun h2 => BP ((s.mail.body.length : Int) ≥ 12) (fun h3 => have e_ : Am s l = _ := oF h0 h1 h2 h3; have h1' := tv; have h2' := tv; have h4 := tv; have h3' := tv; have h4' := tv; ?_) (fun h3 => BP (Ie (l.extract 1 l.size)) (fun h4 => have h4' := Ap h4; have e_ : Am s l = _ := oG h0 h1 h2 h3 h4; have h1' := tv; have h2' := tv; have h4 := tv; have h3' := tv; ?_) (fun h4 => have h4' := AN h4; have e_ : Am s l = _ := bt h0 h1 h2 h3 h4; have h1' := tv; have h2' := tv; have h4 := tv; have h3' := tv; ?_))) (fun h2 => BP ((s.mail.body.length : Int) ≥ 12) (fun h3 => have e_ : Am s l = _ := bu h0 h1 h2 h3; have h1' := tv; have h2' := tv; have h4 := tv; have h3' := tv; have h4' := tv; ?_) (fun h3 => BP (Ie l) (fun h4 => have h4' := Ap h4; have e_ : Am s l = _ := bw h0 h1 h2 h3 h4; have h1' := tv; have h2' := tv; have h4 := tv; have h3' := tv; ?_) (fun h4 => have h4' := AN h4; have e_ : Am s l = _ := bz h0 h1 h2 h3 h4; have h1' := tv; have h2' := tv; have h4 := tv; have h3' := tv; ?_)))))
 all_goals
  try rw [e_]
  simp -implicitDefEqProofs only [Tryz.f255, h0, h1, h1', h2', h3, h4, h2, h3', h4', eq_self, decide_true, decide_false, Int.reduceEq, go_sem, hh, seval]
  with_reducible repeat' (first | apply ai | intro _ | ((first | apply s1 | apply s3 | apply s4) <;> intro hb <;> simp -implicitDefEqProofs only [hb, go_sem, hh, seval] <;> try simp only [qz] at hb))
  all_goals (try simp only [maxLen, tn, lm] at *)
  all_goals first | rfl | omega | decide | with_reducible assumption | (show AY _ = true; rfl) | exact Hf (by assumption) | contradiction | (subst h1; contradiction) | (subst h1; exact absurd rfl (by assumption)) | (simp [AH]; done) | skip
end
open Classical in
noncomputable def Bg (c : Cf) (s : Ss) (l : ByteArray) : Ss × ByteArray := (if (Ay l ⟨#[72, 69, 76, 79, 32]⟩).2 = true then (if DG (Ay l ⟨#[72, 69, 76, 79, 32]⟩).1 then (Fn ⟨1, s.mail, s.bad, s.buf⟩, ⟨#[50, 53, 48, 32]⟩ ++ c.name) else (s, ⟨#[53, 48, 49, 32, 102, 111, 114, 109]⟩)) else (if l = ⟨#[81, 85, 73, 84]⟩ then (Fn ⟨5, s.mail, s.bad, s.buf⟩, ⟨#[50, 50, 49, 32, 98, 121, 101]⟩) else (if l = ⟨#[78, 79, 79, 80]⟩ then (s, ⟨#[50, 53, 48, 32, 111, 107]⟩) else (if l = ⟨#[82, 83, 69, 84]⟩ then (if s.state = 0 then (Fn s, ⟨#[50, 53, 48, 32, 111, 107]⟩) else (Fn ⟨1, s.mail, s.bad, s.buf⟩, ⟨#[50, 53, 48, 32, 111, 107]⟩)) else (if (Ay l ⟨#[77, 65, 73, 76, 32, 70, 82, 79, 77, 58]⟩).2 = true then Em s (Ay l ⟨#[77, 65, 73, 76, 32, 70, 82, 79, 77, 58]⟩).1 else (if (Ay l ⟨#[82, 67, 80, 84, 32, 84, 79, 58]⟩).2 = true then Hw c s (Ay l ⟨#[82, 67, 80, 84, 32, 84, 79, 58]⟩).1 else (if l = ⟨#[68, 65, 84, 65]⟩ then (if s.state = 3 then (⟨4, s.mail, s.bad, s.buf⟩, ⟨#[51, 53, 52, 32, 103, 111, 32, 111, 110]⟩) else (s, ⟨#[53, 48, 51, 32, 111, 114, 100, 101, 114]⟩)) else (s, ⟨#[53, 48, 48, 32, 119, 104, 97, 116]⟩))))))))
theorem nY {c : Cf} {s : Ss} {l : ByteArray} (h0 : (Ay l ⟨#[72, 69, 76, 79, 32]⟩).2 = true) (h1 : DG (Ay l ⟨#[72, 69, 76, 79, 32]⟩).1) : Bg c s l = (Fn ⟨1, s.mail, s.bad, s.buf⟩, ⟨#[50, 53, 48, 32]⟩ ++ c.name) := by unfold Bg; rw [if_pos h0, if_pos h1]
theorem nZ {c : Cf} {s : Ss} {l : ByteArray} (h0 : (Ay l ⟨#[72, 69, 76, 79, 32]⟩).2 = true) (h1 : ¬ (DG (Ay l ⟨#[72, 69, 76, 79, 32]⟩).1)) : Bg c s l = (s, ⟨#[53, 48, 49, 32, 102, 111, 114, 109]⟩) := by unfold Bg; rw [if_pos h0, if_neg h1]
theorem nc {c : Cf} {s : Ss} {l : ByteArray} (h0 : ¬ ((Ay l ⟨#[72, 69, 76, 79, 32]⟩).2 = true)) (h1 : l = ⟨#[81, 85, 73, 84]⟩) : Bg c s l = (Fn ⟨5, s.mail, s.bad, s.buf⟩, ⟨#[50, 50, 49, 32, 98, 121, 101]⟩) := by unfold Bg; rw [if_neg h0, if_pos h1]
theorem nf {c : Cf} {s : Ss} {l : ByteArray} (h0 : ¬ ((Ay l ⟨#[72, 69, 76, 79, 32]⟩).2 = true)) (h1 : ¬ (l = ⟨#[81, 85, 73, 84]⟩)) (h2 : l = ⟨#[78, 79, 79, 80]⟩) : Bg c s l = (s, ⟨#[50, 53, 48, 32, 111, 107]⟩) := by unfold Bg; rw [if_neg h0, if_neg h1, if_pos h2]
theorem nh {c : Cf} {s : Ss} {l : ByteArray} (h0 : ¬ ((Ay l ⟨#[72, 69, 76, 79, 32]⟩).2 = true)) (h1 : ¬ (l = ⟨#[81, 85, 73, 84]⟩)) (h2 : ¬ (l = ⟨#[78, 79, 79, 80]⟩)) (h3 : l = ⟨#[82, 83, 69, 84]⟩) (h4 : s.state = 0) : Bg c s l = (Fn s, ⟨#[50, 53, 48, 32, 111, 107]⟩) := by unfold Bg; rw [if_neg h0, if_neg h1, if_neg h2, if_pos h3, if_pos h4]
theorem nj {c : Cf} {s : Ss} {l : ByteArray} (h0 : ¬ ((Ay l ⟨#[72, 69, 76, 79, 32]⟩).2 = true)) (h1 : ¬ (l = ⟨#[81, 85, 73, 84]⟩)) (h2 : ¬ (l = ⟨#[78, 79, 79, 80]⟩)) (h3 : l = ⟨#[82, 83, 69, 84]⟩) (h4 : ¬ (s.state = 0)) : Bg c s l = (Fn ⟨1, s.mail, s.bad, s.buf⟩, ⟨#[50, 53, 48, 32, 111, 107]⟩) := by unfold Bg; rw [if_neg h0, if_neg h1, if_neg h2, if_pos h3, if_neg h4]
theorem nl {c : Cf} {s : Ss} {l : ByteArray} (h0 : ¬ ((Ay l ⟨#[72, 69, 76, 79, 32]⟩).2 = true)) (h1 : ¬ (l = ⟨#[81, 85, 73, 84]⟩)) (h2 : ¬ (l = ⟨#[78, 79, 79, 80]⟩)) (h3 : ¬ (l = ⟨#[82, 83, 69, 84]⟩)) (h4 : (Ay l ⟨#[77, 65, 73, 76, 32, 70, 82, 79, 77, 58]⟩).2 = true) : Bg c s l = Em s (Ay l ⟨#[77, 65, 73, 76, 32, 70, 82, 79, 77, 58]⟩).1 := by unfold Bg; rw [if_neg h0, if_neg h1, if_neg h2, if_neg h3, if_pos h4]
theorem nn {c : Cf} {s : Ss} {l : ByteArray} (h0 : ¬ ((Ay l ⟨#[72, 69, 76, 79, 32]⟩).2 = true)) (h1 : ¬ (l = ⟨#[81, 85, 73, 84]⟩)) (h2 : ¬ (l = ⟨#[78, 79, 79, 80]⟩)) (h3 : ¬ (l = ⟨#[82, 83, 69, 84]⟩)) (h4 : ¬ ((Ay l ⟨#[77, 65, 73, 76, 32, 70, 82, 79, 77, 58]⟩).2 = true)) (h5 : (Ay l ⟨#[82, 67, 80, 84, 32, 84, 79, 58]⟩).2 = true) : Bg c s l = Hw c s (Ay l ⟨#[82, 67, 80, 84, 32, 84, 79, 58]⟩).1 := by unfold Bg; rw [if_neg h0, if_neg h1, if_neg h2, if_neg h3, if_neg h4, if_pos h5]
theorem np {c : Cf} {s : Ss} {l : ByteArray} (h0 : ¬ ((Ay l ⟨#[72, 69, 76, 79, 32]⟩).2 = true)) (h1 : ¬ (l = ⟨#[81, 85, 73, 84]⟩)) (h2 : ¬ (l = ⟨#[78, 79, 79, 80]⟩)) (h3 : ¬ (l = ⟨#[82, 83, 69, 84]⟩)) (h4 : ¬ ((Ay l ⟨#[77, 65, 73, 76, 32, 70, 82, 79, 77, 58]⟩).2 = true)) (h5 : ¬ ((Ay l ⟨#[82, 67, 80, 84, 32, 84, 79, 58]⟩).2 = true)) (h6 : l = ⟨#[68, 65, 84, 65]⟩) (h7 : s.state = 3) : Bg c s l = (⟨4, s.mail, s.bad, s.buf⟩, ⟨#[51, 53, 52, 32, 103, 111, 32, 111, 110]⟩) := by unfold Bg; rw [if_neg h0, if_neg h1, if_neg h2, if_neg h3, if_neg h4, if_neg h5, if_pos h6, if_pos h7]
theorem nq {c : Cf} {s : Ss} {l : ByteArray} (h0 : ¬ ((Ay l ⟨#[72, 69, 76, 79, 32]⟩).2 = true)) (h1 : ¬ (l = ⟨#[81, 85, 73, 84]⟩)) (h2 : ¬ (l = ⟨#[78, 79, 79, 80]⟩)) (h3 : ¬ (l = ⟨#[82, 83, 69, 84]⟩)) (h4 : ¬ ((Ay l ⟨#[77, 65, 73, 76, 32, 70, 82, 79, 77, 58]⟩).2 = true)) (h5 : ¬ ((Ay l ⟨#[82, 67, 80, 84, 32, 84, 79, 58]⟩).2 = true)) (h6 : l = ⟨#[68, 65, 84, 65]⟩) (h7 : ¬ (s.state = 3)) : Bg c s l = (s, ⟨#[53, 48, 51, 32, 111, 114, 100, 101, 114]⟩) := by unfold Bg; rw [if_neg h0, if_neg h1, if_neg h2, if_neg h3, if_neg h4, if_neg h5, if_pos h6, if_neg h7]
theorem bn {c : Cf} {s : Ss} {l : ByteArray} (h0 : ¬ ((Ay l ⟨#[72, 69, 76, 79, 32]⟩).2 = true)) (h1 : ¬ (l = ⟨#[81, 85, 73, 84]⟩)) (h2 : ¬ (l = ⟨#[78, 79, 79, 80]⟩)) (h3 : ¬ (l = ⟨#[82, 83, 69, 84]⟩)) (h4 : ¬ ((Ay l ⟨#[77, 65, 73, 76, 32, 70, 82, 79, 77, 58]⟩).2 = true)) (h5 : ¬ ((Ay l ⟨#[82, 67, 80, 84, 32, 84, 79, 58]⟩).2 = true)) (h6 : ¬ (l = ⟨#[68, 65, 84, 65]⟩)) : Bg c s l = (s, ⟨#[53, 48, 48, 32, 119, 104, 97, 116]⟩) := by unfold Bg; rw [if_neg h0, if_neg h1, if_neg h2, if_neg h3, if_neg h4, if_neg h5, if_neg h6]
def nJ : Ct := Aq (lc H4.ag (lc Z3.ag (lc Aw l0))) (fun p => p.1.name.size ≤ 1000000 ∧ p.2.1.mail.to.length ≤ 1000 ∧ p.2.2.1.size ≤ 2000000) (fun p => .tup [.agg ((El (Bg p.1 p.2.1 p.2.2.1).1).map .t), .t (.v (.string (Bg p.1 p.2.1 p.2.2.1).2))])
section
attribute [local go_sem] nL M8 Qb nM nN AS.opn AS.cls AS.nilb AS.renb AS.up Bool.not_false Bool.not_true List.set_set List.set_cons_zero List.set_cons_succ List.set_nil List.mem_singleton forall_eq tn List.map_nil List.nil_append
set_option maxHeartbeats 3200000 in
theorem fH {G : Gt} (hG : Ai G) (hh : G.e 256 = AA 0 nL ∧ G.e 143 = AA 0 M8 ∧ G.e 250 = AA 1 Qb ∧ G.e 257 = AA 1 nM ∧ G.e 258 = AA 1 nN) : Gd G 254 (AA 1 nJ) := by
 refine gr (fn := Tryz.f254) (n := 3) rfl hG ?_
 rintro ⟨c, s, l, ⟨⟩⟩ hpre
 obtain ⟨hn, ht, hz⟩ := hpre
 try dsimp only at hn ht hz ⊢
 have z1 := N0 l ⟨#[72, 69, 76, 79, 32]⟩
 have z2 := N0 l ⟨#[77, 65, 73, 76, 32, 70, 82, 79, 77, 58]⟩
 have z3 := N0 l ⟨#[82, 67, 80, 84, 32, 84, 79, 58]⟩
 have z4 : (⟨#[50, 53, 48, 32]⟩ : ByteArray).size = 4 := rfl
 refine BP ((Ay l ⟨#[72, 69, 76, 79, 32]⟩).2 = true) (fun h0 => BP (DG (Ay l ⟨#[72, 69, 76, 79, 32]⟩).1) (fun h1 => have h1' := Ap h1; have e_ : Bg c s l = _ := nY h0 h1; have h0' := tv; have h1 := tv; have h2 := tv; have h3 := tv; have h4' := tv; have h4 := tv; have h5 := tv; have h5' := tv; have h6 := tv; have h7' := tv; ?_) (fun h1 => have h1' := AN h1; have e_ : Bg c s l = _ := nZ h0 h1; have h0' := tv; have h1 := tv; have h2 := tv; have h3 := tv; have h4' := tv; have h4 := tv; have h5 := tv; have h5' := tv; have h6 := tv; have h7' := tv; ?_)) (fun h0 => have h0' := (Bool.not_eq_true _).mp h0; BP (l = ⟨#[81, 85, 73, 84]⟩) (fun h1 => have e_ : Bg c s l = _ := nc h0 h1; have h0 := tv; have h1' := tv; have h2 := tv; have h3 := tv; have h4' := tv; have h4 := tv; have h5 := tv; have h5' := tv; have h6 := tv; have h7' := tv; ?_) (fun h1 => BP (l = ⟨#[78, 79, 79, 80]⟩) (fun h2 => have e_ : Bg c s l = _ := nf h0 h1 h2; have h0 := tv; have h1' := tv; have h3 := tv; have h4' := tv; have h4 := tv; have h5 := tv; have h5' := tv; have h6 := tv; have h7' := tv; ?_) (fun h2 => BP (l = ⟨#[82, 83, 69, 84]⟩) (fun h3 => BP (s.state = 0) (fun h4 => have h4' := decide_eq_true h4; have e_ : Bg c s l = _ := nh h0 h1 h2 h3 h4; have h0 := tv; have h1' := tv; have h4 := tv; have h5 := tv; have h5' := tv; have h6 := tv; have h7' := tv; ?_) (fun h4 => have h4' := decide_eq_false h4; have e_ : Bg c s l = _ := nj h0 h1 h2 h3 h4; have h0 := tv; have h1' := tv; have h4 := tv; have h5 := tv; have h5' := tv; have h6 := tv; have h7' := tv; ?_)) (fun h3 => BP ((Ay l ⟨#[77, 65, 73, 76, 32, 70, 82, 79, 77, 58]⟩).2 = true) (fun h4 => have e_ : Bg c s l = _ := nl h0 h1 h2 h3 h4; have h0 := tv; have h1' := tv; have h4' := tv; have h5 := tv; have h5' := tv; have h6 := tv; have h7' := tv; ?_) (fun h4 => have h4' := (Bool.not_eq_true _).mp h4; BP ((Ay l ⟨#[82, 67, 80, 84, 32, 84, 79, 58]⟩).2 = true) (fun h5 => have e_ : Bg c s l = _ := nn h0 h1 h2 h3 h4 h5; have h0 := tv; have h1' := tv; have h4 := tv; have h5' := tv; have h6 := tv; have h7' := tv; ?_) (fun h5 => have h5' := (Bool.not_eq_true _).mp h5; BP (l = ⟨#[68, 65, 84, 65]⟩) (fun h6 => BP (s.state = 3) (fun h7 => have h7' := decide_eq_true h7; have e_ : Bg c s l = _ := np h0 h1 h2 h3 h4 h5 h6 h7; have h0 := tv; have h1' := tv; have h4 := tv; have h5 := tv; ?_) (fun h7 => have h7' := decide_eq_false h7; have e_ : Bg c s l = _ := nq h0 h1 h2 h3 h4 h5 h6 h7; have h0 := tv; have h1' := tv; have h4 := tv; have h5 := tv; ?_)) (fun h6 => have e_ : Bg c s l = _ := bn h0 h1 h2 h3 h4 h5 h6; have h0 := tv; have h1' := tv; have h4 := tv; have h5 := tv; have h7' := tv; ?_)))))))
 all_goals
  try rw [e_]
  simp -implicitDefEqProofs only [Tryz.f254, h0, h1', h0', h1, h2, h3, h4', h4, h5, h5', h6, h7', eq_self, decide_true, decide_false, Int.reduceEq, go_sem, hh, seval]
  with_reducible repeat' (first | apply ai | intro _ | ((first | apply s1 | apply s3 | apply s4) <;> intro hb <;> simp -implicitDefEqProofs only [hb, go_sem, hh, seval] <;> try simp only [qz] at hb))
  all_goals (try simp only [maxLen, tn, lm] at *)
  all_goals first | rfl | omega | decide | with_reducible assumption | (show AY _ = true; rfl) | exact Hf (by assumption) | contradiction | (show 4 + c.name.size ≤ _; omega) | (subst h3; contradiction) | skip
end
open Classical in
noncomputable def Bs (c : Cf) (s : Ss) (l : ByteArray) : (Ss × ByteArray) × List Ml := (if s.state = 5 then ((s, ⟨#[]⟩), []) else (if s.state = 4 then (if (Am s l).1.2 = ⟨#[]⟩ then ((Am s l).1, []) else (if (Am s l).2 = true then ((Fn (Am s l).1.1, (Am s l).1.2), [(Am s l).1.1.mail]) else ((Fn (Am s l).1.1, (Am s l).1.2), []))) else (Bg c s l, [])))
theorem sG {c : Cf} {s : Ss} {l : ByteArray} (h0 : s.state = 5) : Bs c s l = ((s, ⟨#[]⟩), []) := by unfold Bs; rw [if_pos h0]
theorem sH {c : Cf} {s : Ss} {l : ByteArray} (h0 : ¬ (s.state = 5)) (h1 : s.state = 4) (h2 : (Am s l).1.2 = ⟨#[]⟩) : Bs c s l = ((Am s l).1, []) := by unfold Bs; rw [if_neg h0, if_pos h1, if_pos h2]
theorem sI {c : Cf} {s : Ss} {l : ByteArray} (h0 : ¬ (s.state = 5)) (h1 : s.state = 4) (h2 : ¬ ((Am s l).1.2 = ⟨#[]⟩)) (h3 : (Am s l).2 = true) : Bs c s l = ((Fn (Am s l).1.1, (Am s l).1.2), [(Am s l).1.1.mail]) := by unfold Bs; rw [if_neg h0, if_pos h1, if_neg h2, if_pos h3]
theorem sJ {c : Cf} {s : Ss} {l : ByteArray} (h0 : ¬ (s.state = 5)) (h1 : s.state = 4) (h2 : ¬ ((Am s l).1.2 = ⟨#[]⟩)) (h3 : ¬ ((Am s l).2 = true)) : Bs c s l = ((Fn (Am s l).1.1, (Am s l).1.2), []) := by unfold Bs; rw [if_neg h0, if_pos h1, if_neg h2, if_neg h3]
theorem sK {c : Cf} {s : Ss} {l : ByteArray} (h0 : ¬ (s.state = 5)) (h1 : ¬ (s.state = 4)) : Bs c s l = (Bg c s l, []) := by unfold Bs; rw [if_neg h0, if_neg h1]
theorem oH (s : Ss) (l : ByteArray) : (Am s l).1.1.mail.body.length ≤ s.mail.body.length + 1 ∧ (Am s l).1.1.mail.to = s.mail.to := by
 unfold Am
 repeat' split
 all_goals refine ⟨?_, rfl⟩
 all_goals first | (show (s.mail.body ++ [_]).length ≤ _; rw [List.length_append]; exact Nat.le_refl _) | (show s.mail.body.length ≤ _; omega)
def nG : Ct := Aq (lc H4.ag (lc Z3.ag (lc Aw l0))) (fun p => p.1.name.size ≤ 1000000 ∧ p.2.1.mail.to.length ≤ 1000 ∧ p.2.1.mail.body.length ≤ 1000 ∧ p.2.2.1.size ≤ 2000000) (fun p => .tup [.agg ((El (Bs p.1 p.2.1 p.2.2.1).1.1).map .t), .t (.v (.string (Bs p.1 p.2.1 p.2.2.1).1.2)), .t (.sl 4 ((Bs p.1 p.2.1 p.2.2.1).2.map DN))])
section
attribute [local go_sem] nJ nK M9 Qb AS.opn AS.cls AS.nilb AS.renb AS.up Bool.not_false Bool.not_true List.set_set List.set_cons_zero List.set_cons_succ List.set_nil List.mem_singleton forall_eq tn List.map_nil List.nil_append
set_option maxHeartbeats 3200000 in
theorem fE {G : Gt} (hG : Ai G) (hh : G.e 254 = AA 1 nJ ∧ G.e 255 = AA 1 nK ∧ G.e 222 = AA 0 M9 ∧ G.e 250 = AA 1 Qb) : Gd G 251 (AA 1 nG) := by
 refine gr (fn := Tryz.f251) (n := 3) rfl hG ?_
 rintro ⟨c, s, l, ⟨⟩⟩ hpre
 obtain ⟨hn, ht, hb, hz⟩ := hpre
 try dsimp only at hn ht hb hz ⊢
 obtain ⟨z1, z2⟩ := oH s l
 have z3 : (Am s l).1.1.mail.to.length ≤ 1000 := by rw [z2]; exact ht
 refine BP (s.state = 5) (fun h0 => have h0' := decide_eq_true h0; have e_ : Bs c s l = _ := sG h0; have h1' := tv; have h2 := tv; have h3 := tv; have h3' := tv; ?_) (fun h0 => have h0' := decide_eq_false h0; BP (s.state = 4) (fun h1 => have h1' := decide_eq_true h1; BP ((Am s l).1.2 = ⟨#[]⟩) (fun h2 => have e_ : Bs c s l = _ := sH h0 h1 h2; have h3 := tv; have h3' := tv; ?_) (fun h2 => BP ((Am s l).2 = true) (fun h3 => have e_ : Bs c s l = _ := sI h0 h1 h2 h3; have h3' := tv; ?_) (fun h3 => have h3' := (Bool.not_eq_true _).mp h3; have e_ : Bs c s l = _ := sJ h0 h1 h2 h3; have h3 := tv; ?_))) (fun h1 => have h1' := decide_eq_false h1; have e_ : Bs c s l = _ := sK h0 h1; have h2 := tv; have h3 := tv; have h3' := tv; ?_))
 all_goals
  try rw [e_]
  simp -implicitDefEqProofs only [Tryz.f251, h0', h1', h2, h3, h3', eq_self, decide_true, decide_false, Int.reduceEq, go_sem, hh, seval]
  with_reducible repeat' (first | apply ai | intro _ | ((first | apply s1 | apply s3 | apply s4) <;> intro hb <;> simp -implicitDefEqProofs only [hb, go_sem, hh, seval] <;> try simp only [qz] at hb))
  all_goals (try simp only [maxLen, tn, lm] at *)
  all_goals first | rfl | omega | decide | with_reducible assumption | (show AY _ = true; rfl) | exact Hf (by assumption) | contradiction | skip
end
def OR (s : Ss) : Prop := s.mail.to.length ≤ 4 ∧ s.mail.body.length ≤ 12 ∧ H6 s.mail.frm ∧ (∀ a ∈ s.mail.to, H6 a) ∧ ∀ l ∈ s.mail.body, Bn l
def ia (m : Ml) : Prop := Lj m ∧ m.to.length ≤ 4 ∧ m.body.length ≤ 12
theorem ko {s : Ss} (h : OR s) : ia s.mail := ⟨⟨h.2.2.1, ⟨by have := h.1; omega, h.2.2.2.1⟩, ⟨by have := h.2.1; omega, h.2.2.2.2⟩⟩, h.1, h.2.1⟩
theorem tY : H6 ⟨⟨#[]⟩, ⟨#[]⟩⟩ := CW (.inr ⟨rfl, rfl⟩)
theorem Sb (t : ByteArray) : H6 (BH t) := by
 by_cases h : GU t
 ·exact CW (Jj h).1
 ·rw [NO h]; exact tY
theorem GD (s : Ss) : OR (Fn s) := ⟨by show 0 ≤ 4; omega, by show 0 ≤ 12; omega, tY, fun _ h => (by cases h), fun _ h => (by cases h)⟩
theorem cg {s : Ss} (t : ByteArray) (h : OR s) : OR (Em s t).1 ∧ (Em s t).2.size ≤ 20 := by
 unfold Em
 repeat' split
 all_goals first
  | exact ⟨h, Nat.le_of_ble_eq_true rfl⟩
  | exact ⟨⟨by show 0 ≤ 4; omega, by show 0 ≤ 12; omega, Sb t, fun _ h => (by cases h), fun _ h => (by cases h)⟩, Nat.le_of_ble_eq_true rfl⟩
theorem sR {s : Ss} (c : Cf) (t : ByteArray) (h : OR s) : OR (Hw c s t).1 ∧ (Hw c s t).2.size ≤ 20 := by
 unfold Hw
 repeat' split
 all_goals first
  | exact ⟨h, Nat.le_of_ble_eq_true rfl⟩
  | skip
 refine ⟨⟨?_, h.2.1, h.2.2.1, fun a ha => ?_, h.2.2.2.2⟩, Nat.le_of_ble_eq_true rfl⟩
 ·show (s.mail.to ++ [BH t]).length ≤ 4
  rw [List.length_append]
  show s.mail.to.length + 1 ≤ 4
  omega
 ·rcases List.mem_append.1 ha with ha | ha
  ·exact h.2.2.2.1 a ha
  ·rw [List.mem_singleton] at ha; subst ha; exact Sb t
theorem bo {s : Ss} (c : Cf) (l : ByteArray) (h : OR s) : OR (Bg c s l).1 ∧ (Bg c s l).2.size ≤ c.name.size + 20 := by
 have q := cg (s := s) (Ay l ⟨#[77, 65, 73, 76, 32, 70, 82, 79, 77, 58]⟩).1 h
 have q2 := sR (s := s) c (Ay l ⟨#[82, 67, 80, 84, 32, 84, 79, 58]⟩).1 h
 unfold Bg
 repeat' split
 all_goals first
  | exact ⟨h, by show (ByteArray.size ⟨_⟩) ≤ _; exact Nat.le_trans (Nat.le_of_ble_eq_true rfl : _ ≤ 20) (Nat.le_add_left _ _)⟩
  | exact ⟨GD _, by show (ByteArray.size ⟨_⟩) ≤ _; exact Nat.le_trans (Nat.le_of_ble_eq_true rfl : _ ≤ 20) (Nat.le_add_left _ _)⟩
  | exact ⟨q.1, Nat.le_trans q.2 (Nat.le_add_left _ _)⟩
  | exact ⟨q2.1, Nat.le_trans q2.2 (Nat.le_add_left _ _)⟩
  | exact ⟨GD _, by show (⟨#[50, 53, 48, 32]⟩ ++ c.name).size ≤ _; rw [ByteArray.size_append]; have : (⟨#[50, 53, 48, 32]⟩ : ByteArray).size = 4 := rfl; omega⟩
theorem b4 {s : Ss} {l : ByteArray} (h : OR s) (hl : Bn l) : OR (Am s l).1.1 ∧ (Am s l).1.2.size ≤ 20 := by
 have he : Bn (l.extract 1 l.size) := by have : l.size ≤ 1048576 := hl; show (l.extract 1 l.size).size ≤ 1048576; rw [ByteArray.size_extract]; omega
 have app : ∀ x, Bn x → ¬ ((s.mail.body.length : Int) ≥ 12) → OR ⟨s.state, ⟨s.mail.frm, s.mail.to, s.mail.body ++ [x]⟩, s.bad, s.buf⟩ := fun x hx hn => ⟨h.1, by show (s.mail.body ++ [x]).length ≤ 12; rw [List.length_append]; show s.mail.body.length + 1 ≤ 12; omega, h.2.2.1, h.2.2.2.1, fun y hy => by
  rcases List.mem_append.1 hy with hy | hy
  ·exact h.2.2.2.2 y hy
  ·rw [List.mem_singleton] at hy; subst hy; exact hx⟩
 unfold Am
 repeat' split
 all_goals first
  | exact ⟨h, Nat.le_of_ble_eq_true rfl⟩
  | exact ⟨app _ hl (by assumption), Nat.le_of_ble_eq_true rfl⟩
  | exact ⟨app _ he (by assumption), Nat.le_of_ble_eq_true rfl⟩
theorem TI {s : Ss} {l : ByteArray} (c : Cf) (h : OR s) (hl : Bn l) : OR (Bs c s l).1.1 ∧ (Bs c s l).1.2.size ≤ c.name.size + 20 ∧ (Bs c s l).2.length ≤ 1 ∧ ∀ m ∈ (Bs c s l).2, ia m := by
 have q := b4 h hl
 have q2 := bo c l h
 unfold Bs
 repeat' split
 ·exact ⟨h, Nat.zero_le _, Nat.zero_le _, fun _ z => by cases z⟩
 ·exact ⟨q.1, Nat.le_trans q.2 (Nat.le_add_left _ _), Nat.zero_le _, fun _ z => by cases z⟩
 ·exact ⟨GD _, Nat.le_trans q.2 (Nat.le_add_left _ _), Nat.le_refl _, fun m hm => by rw [List.mem_singleton] at hm; subst hm; exact ko q.1⟩
 ·exact ⟨GD _, Nat.le_trans q.2 (Nat.le_add_left _ _), Nat.zero_le _, fun _ z => by cases z⟩
 ·exact ⟨q2.1, q2.2, Nat.zero_le _, fun _ z => by cases z⟩
abbrev GB := Ss × List ByteArray × List Ml
noncomputable def ca (c : Cf) (x : GB) (l : ByteArray) : GB := ((Bs c x.1 l).1.1, if (Bs c x.1 l).1.2 = ⟨#[]⟩ then x.2.1 else x.2.1 ++ [(Bs c x.1 l).1.2], x.2.2 ++ (Bs c x.1 l).2)
def ZQ (x : GB) : GB := (Fn ⟨5, x.1.mail, x.1.bad, x.1.buf⟩, x.2.1 ++ [⟨#[53, 48, 48, 32, 108, 111, 110, 103]⟩], x.2.2)
noncomputable def NL (c : Cf) : List ByteArray → GB → GB × Bool
 | [], x => (x, false)
 | l :: r, x => if x.1.state = 5 then (x, false) else if (l.size : Int) > 78 then (ZQ x, true) else NL c r (ca c x l)
noncomputable def XH (y : GB × Bool) (lf : ByteArray) : GB := if y.2 = true then y.1 else if y.1.1.state = 5 then y.1 else if (lf.size : Int) > 80 then ZQ y.1 else (⟨y.1.1.state, y.1.1.mail, y.1.1.bad, lf⟩, y.1.2.1, y.1.2.2)
noncomputable def Bw (c : Cf) (s : Ss) (t : ByteArray) : GB := XH (NL c (OA (s.buf ++ t)) (⟨s.state, s.mail, s.bad, ⟨#[]⟩⟩, [], [])) (rA (s.buf ++ t))
theorem uk {c : Cf} {L : List ByteArray} {x : GB} (h : x.1.state = 5) : NL c L x = (x, false) := by
 cases L with
 | nil => rfl
 | cons l r => rw [NL, if_pos h]
theorem ui {c : Cf} {L : List ByteArray} {i : Nat} {x : GB} (hi : i < L.length) (h : ¬ x.1.state = 5) (hl : ((L.getD i default).size : Int) > 78) : NL c (L.drop i) x = (ZQ x, true) := by
 rw [AX hi, NL, if_neg h, if_pos hl]
theorem uj {c : Cf} {L : List ByteArray} {i : Nat} {x : GB} (hi : i < L.length) (h : ¬ x.1.state = 5) (hl : ¬ ((L.getD i default).size : Int) > 78) : NL c (L.drop i) x = NL c (L.drop (i + 1)) (ca c x (L.getD i default)) := by
 rw [AX hi, NL, if_neg h, if_neg hl]
theorem jX {c : Cf} {L : List ByteArray} {i : Nat} {x : GB} (hi : L.length ≤ i) : NL c (L.drop i) x = (x, false) := by
 rw [List.drop_of_length_le hi]; rfl
theorem ue {y : GB × Bool} {x : GB} {lf : ByteArray} (h : (x, true) = y) : XH y lf = x := by subst h; exact if_pos rfl
theorem uf {y : GB × Bool} {x : GB} {lf : ByteArray} (h : (x, false) = y) (h5 : x.1.state = 5) : XH y lf = x := by
 subst h; unfold XH; rw [if_neg (show ¬ (x, false).2 = true from Bool.false_ne_true), if_pos h5]
theorem ug {y : GB × Bool} {x : GB} {lf : ByteArray} (h : (x, false) = y) (h5 : ¬ x.1.state = 5) (hl : (lf.size : Int) > 80) : XH y lf = ZQ x := by
 subst h; unfold XH; rw [if_neg (show ¬ (x, false).2 = true from Bool.false_ne_true), if_neg h5, if_pos hl]
theorem uh {y : GB × Bool} {x : GB} {lf : ByteArray} (h : (x, false) = y) (h5 : ¬ x.1.state = 5) (hl : ¬ (lf.size : Int) > 80) : XH y lf = (⟨x.1.state, x.1.mail, x.1.bad, lf⟩, x.2.1, x.2.2) := by
 subst h; unfold XH; rw [if_neg (show ¬ (x, false).2 = true from Bool.false_ne_true), if_neg h5, if_neg hl]
theorem jb {c : Cf} {x : GB} {l : ByteArray} (h : (Bs c x.1 l).1.2 = ⟨#[]⟩) : ca c x l = ((Bs c x.1 l).1.1, x.2.1, x.2.2 ++ (Bs c x.1 l).2) := by unfold ca; rw [if_pos h]
theorem ja {c : Cf} {x : GB} {l : ByteArray} (h : ¬ (Bs c x.1 l).1.2 = ⟨#[]⟩) : ca c x l = ((Bs c x.1 l).1.1, x.2.1 ++ [(Bs c x.1 l).1.2], x.2.2 ++ (Bs c x.1 l).2) := by unfold ca; rw [if_neg h]
def ZN (c : Cf) (n : Nat) (x : GB) : Prop := OR x.1 ∧ x.2.1.length ≤ n ∧ x.2.2.length ≤ n ∧ (∀ r ∈ x.2.1, r.size ≤ c.name.size + 20) ∧ ∀ m ∈ x.2.2, ia m
theorem XK {c : Cf} {n : Nat} {x : GB} {l : ByteArray} (h : ZN c n x) (hl : Bn l) : ZN c (n + 1) (ca c x l) := by
 obtain ⟨h1, h2, h3, h4, h5⟩ := h
 obtain ⟨q1, q2, q3, q4⟩ := TI c h1 hl
 have hm : ∀ m ∈ x.2.2 ++ (Bs c x.1 l).2, ia m := fun m hm => (List.mem_append.1 hm).elim (h5 m) (q4 m)
 by_cases e : (Bs c x.1 l).1.2 = ⟨#[]⟩
 ·rw [jb e]
  exact ⟨q1, by show x.2.1.length ≤ _; omega, by show (x.2.2 ++ _).length ≤ _; rw [List.length_append]; omega, h4, hm⟩
 ·rw [ja e]
  refine ⟨q1, by show (x.2.1 ++ [_]).length ≤ _; rw [List.length_append]; show x.2.1.length + 1 ≤ _; omega, by show (x.2.2 ++ _).length ≤ _; rw [List.length_append]; omega, fun r hr => ?_, hm⟩
  rcases List.mem_append.1 hr with hr | hr
  ·exact h4 r hr
  ·rw [List.mem_singleton] at hr; subst hr; exact q2
theorem XJ {c : Cf} {n : Nat} {x : GB} (h : ZN c n x) : ZN c (n + 1) (ZQ x) := by
 obtain ⟨h1, h2, h3, h4, h5⟩ := h
 refine ⟨GD _, by show (x.2.1 ++ [_]).length ≤ _; rw [List.length_append]; show x.2.1.length + 1 ≤ _; omega, by show x.2.2.length ≤ _; omega, fun r hr => ?_, h5⟩
 rcases List.mem_append.1 hr with hr | hr
 ·exact h4 r hr
 ·rw [List.mem_singleton] at hr; subst hr; exact Nat.le_trans (Nat.le_of_ble_eq_true rfl : _ ≤ 20) (Nat.le_add_left _ _)
theorem EV {c : Cf} {n m : Nat} {x : GB} (h : ZN c n x) (hn : n ≤ m) : ZN c m x := ⟨h.1, by have := h.2.1; omega, by have := h.2.2.1; omega, h.2.2.2⟩
theorem XI {c : Cf} : ∀ (L : List ByteArray) {n : Nat} {x : GB}, ZN c n x → (∀ l ∈ L, Bn l) → ZN c (n + L.length) (NL c L x).1
 | [], n, x, h, _ => h
 | l :: r, n, x, h, hl => by
   rw [NL]
   split
   ·exact EV h (Nat.le_add_right _ _)
   ·split
    ·exact EV (XJ h) (by rw [List.length_cons]; omega)
    ·exact EV (XI r (XK h (hl l (List.mem_cons_self ..))) fun y hy => hl y (List.mem_cons_of_mem _ hy)) (by rw [List.length_cons]; omega)
theorem XL {c : Cf} {s : Ss} {t : ByteArray} (h : OR s) (hb : s.buf.size + t.size ≤ 1000000) : ZN c (s.buf.size + t.size + 1) (Bw c s t) := by
 obtain ⟨q1, q2, q3⟩ := jm (s.buf ++ t)
 rw [ByteArray.size_append] at q1 q2 q3
 have q := XI (c := c) (OA (s.buf ++ t)) (n := 0) (x := (⟨s.state, s.mail, s.bad, ⟨#[]⟩⟩, [], [])) ⟨h, Nat.le_refl _, Nat.le_refl _, fun _ z => (by cases z), fun _ z => (by cases z)⟩ (fun l hl => by have := q2 l hl; show l.size ≤ 1048576; omega)
 have q' := EV q (show 0 + (OA (s.buf ++ t)).length ≤ s.buf.size + t.size by omega)
 unfold Bw XH
 split
 ·exact EV q' (by omega)
 ·split
  ·exact EV q' (by omega)
  ·split
   ·exact XJ q'
   ·exact ⟨q'.1, Nat.le_succ_of_le q'.2.1, Nat.le_succ_of_le q'.2.2.1, q'.2.2.2⟩
def mz : Ct := Aq (lc H4.ag (lc Z3.ag (lc Aw l0))) (fun p => p.1.name.size ≤ 1000000 ∧ OR p.2.1 ∧ p.2.1.buf.size + p.2.2.1.size ≤ 1000000) (fun p => .tup [.agg ((El (Bw p.1 p.2.1 p.2.2.1).1).map .t), .t (.sl 1 ((Bw p.1 p.2.1 p.2.2.1).2.1.map AH)), .t (.sl 4 ((Bw p.1 p.2.1 p.2.2.1).2.2.map DN))])
section
attribute [local go_sem] nF Qb nG AZ lm List.length_append List.map_append AS.opn AS.cls AS.nilb AS.renb AS.up Bool.not_false Bool.not_true List.set_set List.set_cons_zero List.set_cons_succ List.set_nil List.mem_singleton forall_eq tn List.map_nil List.nil_append
set_option maxHeartbeats 6400000 in
theorem eg {G : Gt} (hG : Ai G) (hh : G.e 249 = AA 0 nF ∧ G.e 250 = AA 1 Qb ∧ G.e 251 = AA 1 nG) : Gd G 238 (AA 1 mz) := by
 refine Lr (dp := fun n => !(Nat.beq n 18 || Nat.beq n 72)) (fn := Tryz.f238) (n := 3) rfl hG ?_
 rintro ⟨c, s, t, ⟨⟩⟩ hpre
 obtain ⟨hn, hs, hz⟩ := hpre
 try dsimp only at hn hs hz ⊢
 obtain ⟨q1, q2, q3⟩ := jm (s.buf ++ t)
 rw [ByteArray.size_append] at q1 q2 q3
 have q2' : ∀ i, i < (OA (s.buf ++ t)).length → Bn ((OA (s.buf ++ t)).getD i default) := fun i hi => by have := q2 _ (AE hi); show ByteArray.size _ ≤ 1048576; omega
 simp -implicitDefEqProofs only [Tryz.f238, go_sem, hh, seval]
 with_reducible repeat' (first | apply ai | intro _ | ((first | apply s1 | apply s3 | apply s4) <;> intro hb <;> simp -implicitDefEqProofs only [hb, go_sem, hh, seval] <;> try simp only [qz] at hb))
 all_goals (try simp only [maxLen, tn, ByteArray.size_append] at *)
 all_goals first | with_reducible rfl | omega | with_reducible assumption | decide | (simp only [List.mem_cons, List.mem_singleton, List.not_mem_nil] at *; omega) | skip
 refine AF [(9, 901, true, 1), (10, 902, false, 4)] (ι := {p : Nat × GB // p.1 ≤ (OA (s.buf ++ t)).length ∧ ZN c p.1 p.2 ∧ NL c ((OA (s.buf ++ t)).drop p.1) p.2 = NL c (OA (s.buf ++ t)) (⟨s.state, s.mail, s.bad, ⟨#[]⟩⟩, [], [])}) (fun p => ⟨[(3, .pb 1003 0), (4, .pb 1004 0), (6, .pb 1006 0), (9, .h 901), (10, .h 902), (11, .h 1024), (12, .t (.v (.string (rA (s.buf ++ t))))), (13, .t (.v (.int .i64 p.1.1)))], [(1003, some (.box ((Co c).map .t))), (1004, some (.box ((El p.1.2.1).map .t))), (1006, some (.box [.t (.v (.int .i64 0)), .t (.v (.string ⟨#[]⟩)), .t (.v (.string ⟨#[]⟩)), .nil, .nil, .t (.v (.bool false)), .t (.v (.string ⟨#[]⟩))])), (901, some (.arr true 1 (p.1.2.2.1.map AH))), (902, some (.arr false 4 (p.1.2.2.2.map DN))), (1024, some (.arr true 1 ((OA (s.buf ++ t)).map AH)))]⟩) (fun p => (OA (s.buf ++ t)).length - p.1.1) ⟨(0, (⟨s.state, s.mail, s.bad, ⟨#[]⟩⟩, [], [])), Nat.zero_le _, ⟨hs, Nat.le_refl _, Nat.le_refl _, fun _ z => (by cases z), fun _ z => (by cases z)⟩, rfl⟩ rfl ?_ ?_
 ·simp -implicitDefEqProofs only [go_sem, hh, seval]
  try simp
 ·rintro ⟨⟨i, x⟩, hi, hx, hv⟩
  obtain ⟨x1, x2, x3⟩ := x
  dsimp only at hi hx hv
  have hb1 := hx.1.1
  have hb2 := hx.1.2.1
  have hb3 := hx.2.1
  have hb4 := hx.2.2.1
  dsimp only at hb1 hb2 hb3 hb4
  simp -implicitDefEqProofs only [go_sem, hh, seval]
  with_reducible repeat' (first | apply ai | intro _ | ((first | apply s1 | apply s3 | apply s4) <;> intro hb <;> simp -implicitDefEqProofs only [hb, go_sem, hh, seval] <;> try simp only [qz] at hb))
  all_goals (try simp only [maxLen, tn] at *)
  all_goals first
   | with_reducible rfl
   | omega
   | (show _ = true; rfl)
   | with_reducible assumption
   | (rw [show Bw c s t = _ from uf ((uk (by with_reducible assumption)).symm.trans hv) (by with_reducible assumption)]; first | done | rfl | (simp [ZQ, AH]; done))
   | (rw [show Bw c s t = _ from ue ((ui (by omega) (by with_reducible assumption) (by with_reducible assumption)).symm.trans hv)]; first | done | rfl | (simp [ZQ, AH]; done))
   | (rw [show Bw c s t = _ from ug ((jX (by omega)).symm.trans hv) (by with_reducible assumption) (by with_reducible assumption)]; first | done | rfl | (simp [ZQ, AH]; done))
   | (rw [show Bw c s t = _ from uh ((jX (by omega)).symm.trans hv) (by with_reducible assumption) (by with_reducible assumption)]; first | done | rfl | (simp [ZQ, AH]; done))
   | exact hx.1
   | exact Nat.le_trans (q2' i (by omega)) (by decide)
   | (refine ⟨⟨(i + 1, ca c (x1, x2, x3) ((OA (s.buf ++ t)).getD i default)), by omega, XK hx (q2' i (by omega)), (uj (by omega) (by with_reducible assumption) (by with_reducible assumption)).symm.trans hv⟩, by dsimp only; omega, ?_⟩
      simp -implicitDefEqProofs only [go_sem, hh, seval]
      first
       | (have ee := jb (c := c) (x := (x1, x2, x3)) (by with_reducible assumption); simp only [ee]; simp [AH]; done)
       | (have ee := ja (c := c) (x := (x1, x2, x3)) (by with_reducible assumption); simp only [ee]; simp [AH]; done))
   | (have q := (TI (s := x1) c hx.1 (q2' i (by omega))).2.2.1; omega)
   | skip
end
def Oy (x : ByteArray) : ByteArray := if ¬ x = ⟨#[]⟩ ∧ AC x 0 = 46 then ⟨#[46]⟩ ++ x else x
theorem oe {x : ByteArray} (h : ¬ x = ⟨#[]⟩) (h2 : AC x 0 = 46) : Oy x = ⟨#[46]⟩ ++ x := if_pos ⟨h, h2⟩
theorem od {x : ByteArray} (h : ¬ x = ⟨#[]⟩) (h2 : ¬ AC x 0 = 46) : Oy x = x := if_neg fun q => h2 q.2
theorem oc {x : ByteArray} (h : x = ⟨#[]⟩) : Oy x = x := if_neg fun q => q.1 h
theorem Wh (x : ByteArray) : (Oy x).size ≤ x.size + 1 := by
 unfold Oy
 split
 ·rw [ByteArray.size_append]; have : (⟨#[46]⟩ : ByteArray).size = 1 := rfl; omega
 ·omega
def Kc : List ByteArray → ByteArray → ByteArray
 | [], o => o
 | x :: r, o => Kc r (o ++ Oy x ++ ⟨#[13, 10]⟩)
def UE (l : List ByteArray) : ByteArray := Kc l ⟨#[]⟩ ++ ⟨#[46, 13, 10]⟩
theorem oh {L : List ByteArray} {i : Nat} {o : ByteArray} (h : i < L.length) : Kc (L.drop i) o = Kc (L.drop (i + 1)) (o ++ Oy (L.getD i default) ++ ⟨#[13, 10]⟩) := by rw [AX h, Kc]
theorem og {L : List ByteArray} {i : Nat} {o : ByteArray} (h : L.length ≤ i) : Kc (L.drop i) o = o := by rw [List.drop_of_length_le h, Kc]
theorem NC : (⟨#[13, 10]⟩ : ByteArray).size = 2 := rfl
theorem i5 : (⟨#[46, 13, 10]⟩ : ByteArray).size = 3 := rfl
theorem Wi : ∀ (L : List ByteArray) (o : ByteArray) (B : Nat), (∀ x ∈ L, x.size ≤ B) → (Kc L o).size ≤ o.size + L.length * (B + 3)
 | [], o, B, _ => by show o.size ≤ _; omega
 | x :: r, o, B, h => by
   have h1 := h x (List.mem_cons_self ..)
   have h2 := Wh x
   have q := Wi r (o ++ Oy x ++ ⟨#[13, 10]⟩) B (fun y hy => h y (List.mem_cons_of_mem _ hy))
   rw [ByteArray.size_append, ByteArray.size_append, NC] at q
   rw [Kc, List.length_cons, Nat.add_mul]
   omega
def nC : Ct := Aq (lc Ah.asl l0) (fun p => p.1.length ≤ 1000 ∧ ∀ x ∈ p.1, x.size ≤ 2000000) (fun p => .t (.v (.string (UE p.1))))
section
attribute [local go_sem] lm Int.toNat_zero
set_option maxHeartbeats 1600000 in
theorem e9 {G : Gt} (hG : Ai G) : Gd G 246 (AA 0 nC) := by
 refine gr (fn := Tryz.f246) (n := 1) rfl hG ?_
 rintro ⟨xs, ⟨⟩⟩ hpre
 simp -implicitDefEqProofs only [Tryz.f246, go_sem, seval] at hpre ⊢
 obtain ⟨hl, hx⟩ := hpre
 try dsimp only at hl hx
 refine AF [] (ι := {p : Nat × ByteArray // p.1 ≤ xs.length ∧ p.2.size ≤ p.1 * 2000003 ∧ Kc (xs.drop p.1) p.2 = Kc xs ⟨#[]⟩}) (fun p => ⟨[(0, .t (.sl 1 (xs.map AH))), (3, .t (.v (.string p.1.2))), (4, .t (.v (.int .i64 p.1.1)))], []⟩) (fun p => xs.length - p.1.1) ⟨(0, ⟨#[]⟩), Nat.zero_le _, Nat.zero_le _, rfl⟩ rfl ?_ ?_
 ·simp -implicitDefEqProofs only [go_sem, seval]
  try simp
 ·rintro ⟨⟨i, out⟩, hi, ho, hv⟩
  dsimp only at hi ho hv
  have hd : ∀ h : i < xs.length, (xs.getD i default).size ≤ 2000000 := fun h => hx _ (AE h)
  have hd1 := Wh (xs.getD i default)
  simp -implicitDefEqProofs only [go_sem, seval]
  with_reducible repeat' (first | apply ai | intro _ | ((first | apply s1 | apply s3 | apply s4) <;> intro hb <;> simp -implicitDefEqProofs only [hb, go_sem, seval] <;> try simp only [qz] at hb))
  all_goals (try simp only [maxLen, tn, ByteArray.size_append, NC, i5] at *)
  all_goals first
   | with_reducible rfl
   | omega
   | exact Hf (by assumption)
   | (have := hd (by omega); have e : (#[46] : Array UInt8).size = 1 := rfl; have e2 : (#[13, 10] : Array UInt8).size = 2 := rfl; have e3 : (#[46, 13, 10] : Array UInt8).size = 3 := rfl; omega)
   | (have e3 : (#[46, 13, 10] : Array UInt8).size = 3 := rfl; omega)
   | (rw [og (by omega)] at hv; unfold UE; rw [← hv]; done)
   | (rw [oh (by omega)] at hv
      refine ⟨⟨(i + 1, _), by dsimp only; omega, ?_, hv⟩, by dsimp only; omega, ?_⟩
      ·have := hd (by omega)
       dsimp only
       rw [ByteArray.size_append, ByteArray.size_append, NC]
       omega
      ·simp -implicitDefEqProofs only [go_sem, seval]
       first
        | (rw [oe (by assumption) (by assumption)]; simp; done)
        | (rw [od (by assumption) (by assumption)]; simp; done)
        | (rw [oc (by assumption)]; simp; done))
   | skip
end
theorem QAB : (3 : Int).toNat = 3 := rfl
open Classical in
noncomputable def BG (s : ByteArray) : Int := (if (s.size : Int) < 4 then 0 else (if AC s 3 = 32 then (if AC s 0 < 50 then 0 else (if AC s 0 > 53 then 0 else (if PO (s.extract 0 3) < 200 then 0 else PO (s.extract 0 3)))) else 0))
theorem nu {s : ByteArray} (h0 : (s.size : Int) < 4) : BG s = 0 := by unfold BG; rw [if_pos h0]
theorem nv {s : ByteArray} (h0 : ¬ ((s.size : Int) < 4)) (h1 : AC s 3 = 32) (h2 : AC s 0 < 50) : BG s = 0 := by unfold BG; rw [if_neg h0, if_pos h1, if_pos h2]
theorem nw {s : ByteArray} (h0 : ¬ ((s.size : Int) < 4)) (h1 : AC s 3 = 32) (h2 : ¬ (AC s 0 < 50)) (h3 : AC s 0 > 53) : BG s = 0 := by unfold BG; rw [if_neg h0, if_pos h1, if_neg h2, if_pos h3]
theorem ny {s : ByteArray} (h0 : ¬ ((s.size : Int) < 4)) (h1 : AC s 3 = 32) (h2 : ¬ (AC s 0 < 50)) (h3 : ¬ (AC s 0 > 53)) (h4 : PO (s.extract 0 3) < 200) : BG s = 0 := by unfold BG; rw [if_neg h0, if_pos h1, if_neg h2, if_neg h3, if_pos h4]
theorem nz {s : ByteArray} (h0 : ¬ ((s.size : Int) < 4)) (h1 : AC s 3 = 32) (h2 : ¬ (AC s 0 < 50)) (h3 : ¬ (AC s 0 > 53)) (h4 : ¬ (PO (s.extract 0 3) < 200)) : BG s = PO (s.extract 0 3) := by unfold BG; rw [if_neg h0, if_pos h1, if_neg h2, if_neg h3, if_neg h4]
theorem n5 {s : ByteArray} (h0 : ¬ ((s.size : Int) < 4)) (h1 : ¬ (AC s 3 = 32)) : BG s = 0 := by unfold BG; rw [if_neg h0, if_neg h1]
theorem ub (s : ByteArray) : (s.extract 0 3).size ≤ 3 := by rw [ByteArray.size_extract]; omega
def nA : Ct := Aq (lc Aw l0) (fun p => True) (fun p => .t (.v (.int .i64 (BG p.1))))
section
attribute [local go_sem] nH Int.toNat_zero QAB
theorem ew {G : Gt} (hG : Ai G) (hh : G.e 252 = AA 0 nH) : Gd G 243 (AA 0 nA) := by
 refine gr (fn := Tryz.f243) (n := 1) rfl hG ?_
 rintro ⟨s, ⟨⟩⟩ hpre
 try dsimp only
 have hz := ub s
 refine BP ((s.size : Int) < 4) (fun h0 => have e_ : BG s = _ := nu h0; have h1 := tv; have h2 := tv; have h3 := tv; have h4 := tv; ?_) (fun h0 => BP (AC s 3 = 32) (fun h1 => BP (AC s 0 < 50) (fun h2 => have e_ : BG s = _ := nv h0 h1 h2; have h3 := tv; have h4 := tv; ?_) (fun h2 => BP (AC s 0 > 53) (fun h3 => have e_ : BG s = _ := nw h0 h1 h2 h3; have h4 := tv; ?_) (fun h3 => BP (PO (s.extract 0 3) < 200) (fun h4 => have e_ : BG s = _ := ny h0 h1 h2 h3 h4; ?_) (fun h4 => have e_ : BG s = _ := nz h0 h1 h2 h3 h4; ?_)))) (fun h1 => have e_ : BG s = _ := n5 h0 h1; have h2 := tv; have h3 := tv; have h4 := tv; ?_))
 all_goals
  try rw [e_]
  simp -implicitDefEqProofs only [Tryz.f243, h0, h1, h2, h3, h4, eq_self, decide_true, decide_false, Int.reduceEq, go_sem, hh, seval]
  with_reducible repeat' (first | apply ai | intro _ | ((first | apply s1 | apply s3 | apply s4) <;> intro hb <;> simp -implicitDefEqProofs only [hb, go_sem, hh, seval] <;> try simp only [qz] at hb))
  all_goals (try simp only [maxLen, tn, lm] at *)
  all_goals first | rfl | omega | decide | with_reducible assumption | (show AY _ = true; rfl) | exact Hf (by assumption) | contradiction | skip
end
def fw (n : ByteArray) (m : Ml) : Cl := ⟨n, m, 0, 0, List.replicate m.to.length 0⟩
def mw : Ct := Aq (lc Aw (lc Zw.ag l0)) (fun p => p.2.1.to.length ≤ 1000 ∧ p.2.1.body.length ≤ 1000) (fun p => .agg ((Dr (fw p.1 p.2.1)).map .t))
section
attribute [local go_sem] M9 lm AS.opn AS.cls AS.nilb AS.renb AS.up Bool.not_false Bool.not_true List.set_set List.set_cons_zero List.set_cons_succ List.set_nil List.mem_singleton forall_eq tn List.map_nil List.nil_append
theorem ec {G : Gt} (hG : Ai G) (hh : G.e 222 = AA 0 M9) : Gd G 236 (AA 1 mw) := by
 refine gr (fn := Tryz.f236) (n := 2) rfl hG ?_
 rintro ⟨n, m, ⟨⟩⟩ hpre
 simp -implicitDefEqProofs only [Tryz.f236, go_sem, hh, seval] at hpre ⊢
 obtain ⟨h1, h2⟩ := hpre
 try dsimp only at h1 h2 ⊢
 with_reducible repeat' (first | apply ai | intro _ | ((first | apply s1 | apply s3 | apply s4) <;> intro hb <;> simp -implicitDefEqProofs only [hb, go_sem, hh, seval] <;> try simp only [qz] at hb))
 all_goals (try simp only [maxLen, tn] at *)
 all_goals first | rfl | omega | decide | with_reducible assumption | (show AY _ = true; rfl) | exact Hf (by assumption) | contradiction | (simp [fw, A9]; done) | skip
end
def NZ (f : Int → Int) (xs : List Int) (i : Nat) : List Int := (xs.take i).map f ++ xs.drop i
theorem jq (f : Int → Int) (xs : List Int) : NZ f xs 0 = xs := rfl
theorem jr {f : Int → Int} {xs : List Int} {i : Nat} (h : xs.length ≤ i) : NZ f xs i = xs.map f := by
 unfold NZ; rw [List.take_of_length_le h, List.drop_of_length_le h, List.append_nil]
theorem S3 (f : Int → Int) (xs : List Int) (i : Nat) : (NZ f xs i).length = xs.length := by
 unfold NZ; rw [List.length_append, lm, List.length_take, List.length_drop]; omega
theorem S2 {f : Int → Int} {xs : List Int} {i : Nat} (h : i < xs.length) : (NZ f xs i).getD i default = xs.getD i default := by
 unfold NZ
 rw [List.getD_eq_getElem?_getD, List.getElem?_append_right (by rw [lm, List.length_take]; omega), lm, List.length_take, Nat.min_eq_left (by omega), Nat.sub_self, List.getElem?_drop, Nat.add_zero, List.getD_eq_getElem?_getD]
theorem PL {f : Int → Int} {xs : List Int} {i : Nat} (h : i < xs.length) : NZ f xs (i + 1) = (xs.take i).map f ++ (f (xs.getD i default) :: xs.drop (i + 1)) := by
 unfold NZ
 rw [List.take_add_one, List.getElem?_eq_getElem h, List.map_append, List.append_assoc]
 congr 1
 simp [h]
theorem S4 {f : Int → Int} {xs : List Int} {i : Nat} {v : Int} (h : i < xs.length) (e : f (xs.getD i default) = v) : (NZ f xs i).set i v = NZ f xs (i + 1) := by
 rw [PL h, e]
 unfold NZ
 rw [List.set_append_right _ _ (by rw [lm, List.length_take]; omega), lm, List.length_take, Nat.min_eq_left (by omega), Nat.sub_self, AX h]
 rfl
theorem PK {f : Int → Int} {xs : List Int} {i : Nat} (h : i < xs.length) (e : f (xs.getD i default) = xs.getD i default) : NZ f xs (i + 1) = NZ f xs i := by
 rw [PL h, e]
 unfold NZ
 rw [AX h]
def GV (k n : Int) : Int := if n = 0 ∨ n = 1 then k else n
def Pc (n : Int) : Int := if n = 1 then 2 else n
def xJ (c : Cl) (k : Int) : Cl := ⟨c.name, c.mail, c.state, c.pos, c.outs.map (GV k)⟩
def yd (c : Cl) : Cl := ⟨c.name, c.mail, c.state, c.pos, c.outs.map Pc⟩
def nI : Ct := Aq (lc Zk.ag (lc BA l0)) (fun p => p.1.outs.length ≤ 1000) (fun p => .agg ((Dr (xJ p.1 p.2.1)).map .t))
section
attribute [local go_sem] lm AZ BQ Nw AS.opn AS.cls AS.nilb AS.renb AS.up Bool.not_false Bool.not_true List.set_set List.set_cons_zero List.set_cons_succ List.set_nil List.mem_singleton forall_eq tn List.map_nil List.nil_append
set_option maxHeartbeats 1600000 in
theorem fG {G : Gt} (hG : Ai G) : Gd G 253 (AA 1 nI) := by
 refine gr (fn := Tryz.f253) (n := 2) rfl hG ?_
 rintro ⟨c, k, ⟨⟩⟩ hpre
 simp -implicitDefEqProofs only [Tryz.f253, go_sem, seval] at hpre ⊢
 have hl : c.outs.length ≤ 1000 := hpre
 with_reducible repeat' (first | apply ai | intro _ | ((first | apply s1 | apply s3 | apply s4) <;> intro hb <;> simp -implicitDefEqProofs only [hb, go_sem, seval] <;> try simp only [qz] at hb))
 all_goals (try simp only [maxLen, tn] at *)
 all_goals first | rfl | omega | decide | with_reducible assumption | (show AY _ = true; rfl) | exact Hf (by assumption) | contradiction | skip
 refine AF [(5, 901, true, 1)] (ι := {i : Nat // i ≤ c.outs.length}) (fun p => ⟨[(1, .t (.v (.int .i64 k))), (2, .pb 1002 0), (4, .pb 1004 0), (5, .h 901), (6, .t (.v (.int .i64 p.1)))], [(1002, some (.box ((Dr c).map .t))), (1004, some (.box [.t (.v (.string ⟨#[]⟩)), .t (.v (.string ⟨#[]⟩)), .t (.v (.string ⟨#[]⟩)), .nil, .nil, .t (.v (.int .i64 0)), .t (.v (.int .i64 0)), .nil])), (901, some (.arr true 1 ((NZ (GV k) c.outs p.1).map A9)))]⟩) (fun p => c.outs.length - p.1) ⟨0, Nat.zero_le _⟩ rfl ?_ ?_
 ·simp -implicitDefEqProofs only [go_sem, seval]
  simp [jq]
 ·rintro ⟨i, hi⟩
  dsimp only at hi ⊢
  have hln := S3 (GV k) c.outs i
  have hg : i < c.outs.length → (NZ (GV k) c.outs i).getD i default = c.outs.getD i default := S2
  simp -implicitDefEqProofs only [go_sem, seval]
  with_reducible repeat' (first | apply ai | intro _ | ((first | apply s1 | apply s3 | apply s4) <;> intro hb <;> simp -implicitDefEqProofs only [hb, go_sem, seval] <;> try simp only [qz] at hb))
  all_goals (try simp only [maxLen, tn] at *)
  all_goals first
   | with_reducible rfl
   | omega
   | (show _ = true; rfl)
   | (rw [jr (by omega)]; first | done | rfl)
   | rfl
   | (refine ⟨⟨i + 1, by omega⟩, by dsimp only; omega, ?_⟩
      have hgi := hg (by omega)
      simp -implicitDefEqProofs only [go_sem, seval]
      first
       | (rw [S4 (by omega) (show GV k _ = k from if_pos (by omega))]; simp; done)
       | (rw [PK (by omega) (show GV k _ = _ from if_neg (by omega))]; simp; done)
       | skip)
   | skip
end
def nD : Ct := Aq (lc Zk.ag l0) (fun p => p.1.outs.length ≤ 1000) (fun p => .agg ((Dr (yd p.1)).map .t))
section
attribute [local go_sem] lm AZ BQ Nw AS.opn AS.cls AS.nilb AS.renb AS.up Bool.not_false Bool.not_true List.set_set List.set_cons_zero List.set_cons_succ List.set_nil List.mem_singleton forall_eq tn List.map_nil List.nil_append
set_option maxHeartbeats 1600000 in
theorem fA {G : Gt} (hG : Ai G) : Gd G 247 (AA 1 nD) := by
 refine gr (fn := Tryz.f247) (n := 1) rfl hG ?_
 rintro ⟨c, ⟨⟩⟩ hpre
 simp -implicitDefEqProofs only [Tryz.f247, go_sem, seval] at hpre ⊢
 have hl : c.outs.length ≤ 1000 := hpre
 with_reducible repeat' (first | apply ai | intro _ | ((first | apply s1 | apply s3 | apply s4) <;> intro hb <;> simp -implicitDefEqProofs only [hb, go_sem, seval] <;> try simp only [qz] at hb))
 all_goals (try simp only [maxLen, tn] at *)
 all_goals first | rfl | omega | decide | with_reducible assumption | (show AY _ = true; rfl) | exact Hf (by assumption) | contradiction | skip
 refine AF [(3, 901, true, 1)] (ι := {i : Nat // i ≤ c.outs.length}) (fun p => ⟨[(1, .pb 1001 0), (2, .pb 1002 0), (3, .h 901), (4, .t (.v (.int .i64 p.1)))], [(1001, some (.box ((Dr c).map .t))), (1002, some (.box [.t (.v (.string ⟨#[]⟩)), .t (.v (.string ⟨#[]⟩)), .t (.v (.string ⟨#[]⟩)), .nil, .nil, .t (.v (.int .i64 0)), .t (.v (.int .i64 0)), .nil])), (901, some (.arr true 1 ((NZ Pc c.outs p.1).map A9)))]⟩) (fun p => c.outs.length - p.1) ⟨0, Nat.zero_le _⟩ rfl ?_ ?_
 ·simp -implicitDefEqProofs only [go_sem, seval]
  simp [jq]
 ·rintro ⟨i, hi⟩
  dsimp only at hi ⊢
  have hln := S3 Pc c.outs i
  have hg : i < c.outs.length → (NZ Pc c.outs i).getD i default = c.outs.getD i default := S2
  simp -implicitDefEqProofs only [go_sem, seval]
  with_reducible repeat' (first | apply ai | intro _ | ((first | apply s1 | apply s3 | apply s4) <;> intro hb <;> simp -implicitDefEqProofs only [hb, go_sem, seval] <;> try simp only [qz] at hb))
  all_goals (try simp only [maxLen, tn] at *)
  all_goals first
   | with_reducible rfl
   | omega
   | (show _ = true; rfl)
   | (rw [jr (by omega)]; first | done | rfl)
   | rfl
   | (refine ⟨⟨i + 1, by omega⟩, by dsimp only; omega, ?_⟩
      have hgi := hg (by omega)
      simp -implicitDefEqProofs only [go_sem, seval]
      first
       | (rw [S4 (by omega) (show Pc _ = 2 from if_pos (by omega))]; simp; done)
       | (rw [PK (by omega) (show Pc _ = _ from if_neg (by omega))]; simp; done)
       | skip)
   | skip
end
def m0 : Ct := Aq (lc Zk.ag l0) (fun p => p.1.outs.length ≤ 1000) (fun p => .o true 1 ((p.1.outs.map (GV 3)).map A9))
section
attribute [local go_sem] lm List.length_append List.map_append AS.opn AS.cls AS.nilb AS.renb AS.up Bool.not_false Bool.not_true List.set_set List.set_cons_zero List.set_cons_succ List.set_nil List.mem_singleton forall_eq tn List.map_nil List.nil_append
set_option maxHeartbeats 1600000 in
theorem eh {G : Gt} (hG : Ai G) : Gd G 239 (AA 0 m0) := by
 refine gr (fn := Tryz.f239) (n := 1) rfl hG ?_ (hs := fun _ _ => .deep _ _)
 rintro ⟨c, ⟨⟩⟩ hpre
 simp -implicitDefEqProofs only [Tryz.f239, go_sem, seval] at hpre ⊢
 have hl : c.outs.length ≤ 1000 := hpre
 with_reducible repeat' (first | apply ai | intro _ | ((first | apply s1 | apply s3 | apply s4) <;> intro hb <;> simp -implicitDefEqProofs only [hb, go_sem, seval] <;> try simp only [qz] at hb))
 all_goals (try simp only [maxLen, tn] at *)
 all_goals first | rfl | omega | decide | with_reducible assumption | (show AY _ = true; rfl) | exact Hf (by assumption) | contradiction | skip
 refine AF [(3, 901, true, 1)] (ι := {i : Nat // i ≤ c.outs.length}) (fun p => ⟨[(1, .pb 1001 0), (3, .h 901), (4, .t (.v (.int .i64 p.1)))], [(1001, some (.box ((Dr c).map .t))), (901, some (.arr true 1 (((c.outs.take p.1).map (GV 3)).map A9)))]⟩) (fun p => c.outs.length - p.1) ⟨0, Nat.zero_le _⟩ rfl ?_ ?_
 ·simp -implicitDefEqProofs only [go_sem, seval]
  try simp
 ·rintro ⟨i, hi⟩
  dsimp only at hi ⊢
  have hln : (c.outs.take i).length = i := by rw [List.length_take]; omega
  simp -implicitDefEqProofs only [go_sem, seval]
  with_reducible repeat' (first | apply ai | intro _ | ((first | apply s1 | apply s3 | apply s4) <;> intro hb <;> simp -implicitDefEqProofs only [hb, go_sem, seval] <;> try simp only [qz] at hb))
  all_goals (try simp only [maxLen, tn] at *)
  all_goals first
   | with_reducible rfl
   | omega
   | (show _ = true; rfl)
   | (rw [List.take_of_length_le (by omega)]; first | done | rfl)
   | rfl
   | (simp only [List.mem_singleton] at *; omega)
   | (rename_i q; simp only [List.mem_singleton] at q; subst q; rfl)
   | (have ht : c.outs.take (i + 1) = c.outs.take i ++ [c.outs.getD i default] := by
        have hh : i < c.outs.length := by omega
        rw [List.take_add_one, List.getElem?_eq_getElem hh]; simp [hh]
      refine ⟨⟨i + 1, by omega⟩, by dsimp only; omega, ?_⟩
      simp -implicitDefEqProofs only [go_sem, seval]
      rw [ht]
      first
       | (have ee : GV 3 (c.outs.getD i default) = 3 := if_pos (by omega); simp only [List.map_append, List.map_cons, List.map_nil, ee]; simp [A9]; done)
       | (have ee : GV 3 (c.outs.getD i default) = c.outs.getD i default := if_neg (by omega); simp only [List.map_append, List.map_cons, List.map_nil, ee]; simp [A9]; done)
       | skip)
   | skip
end
def N8 (m : Ml) : Prop := m.to.length ≤ 1000 ∧ m.body.length ≤ 100 ∧ (m.frm.user.size ≤ 1000 ∧ m.frm.domain.size ≤ 1000) ∧ (∀ a ∈ m.to, a.user.size ≤ 1000 ∧ a.domain.size ≤ 1000) ∧ ∀ l ∈ m.body, l.size ≤ 1000
theorem kA {m : Ml} (h : N8 m) {i : Nat} (hi : i < m.to.length) : (m.to.getD i default).user.size ≤ 1000 ∧ (m.to.getD i default).domain.size ≤ 1000 := h.2.2.2.1 _ (AE hi)
theorem Ns (a : Ad) : (Cy a).size ≤ a.user.size + a.domain.size + 3 := by
 by_cases h : Ab a
 ·rw [IY h]; have : (⟨#[60, 62]⟩ : ByteArray).size = 2 := rfl; omega
 ·rw [RV h]
  simp only [ByteArray.size_append]
  have e1 : (⟨#[60]⟩ : ByteArray).size = 1 := rfl
  have e2 : (⟨#[64]⟩ : ByteArray).size = 1 := rfl
  have e3 : (⟨#[62]⟩ : ByteArray).size = 1 := rfl
  omega
open Classical in
noncomputable def DU (c : Cl) (k : Int) : Cl × ByteArray := (if k ≥ 500 then (⟨c.name, c.mail, 6, c.pos, c.outs.map (GV 4)⟩, ⟨#[81, 85, 73, 84]⟩) else (⟨c.name, c.mail, 6, c.pos, c.outs.map (GV 3)⟩, ⟨#[81, 85, 73, 84]⟩))
theorem oy {c : Cl} {k : Int} (h0 : k ≥ 500) : DU c k = (⟨c.name, c.mail, 6, c.pos, c.outs.map (GV 4)⟩, ⟨#[81, 85, 73, 84]⟩) := by unfold DU; rw [if_pos h0]
theorem oz {c : Cl} {k : Int} (h0 : ¬ (k ≥ 500)) : DU c k = (⟨c.name, c.mail, 6, c.pos, c.outs.map (GV 3)⟩, ⟨#[81, 85, 73, 84]⟩) := by unfold DU; rw [if_neg h0]
def nE : Ct := Aq (lc Zk.ag (lc BA l0)) (fun p => p.1.outs.length ≤ 1000) (fun p => .tup [.agg ((Dr (DU p.1 p.2.1).1).map .t), .t (.v (.string (DU p.1 p.2.1).2))])
section
attribute [local go_sem] nI AS.opn AS.cls AS.nilb AS.renb AS.up Bool.not_false Bool.not_true List.set_set List.set_cons_zero List.set_cons_succ List.set_nil List.mem_singleton forall_eq tn List.map_nil List.nil_append
theorem fB {G : Gt} (hG : Ai G) (hh : G.e 253 = AA 1 nI) : Gd G 248 (AA 1 nE) := by
 refine gr (fn := Tryz.f248) (n := 2) rfl hG ?_
 rintro ⟨c, k, ⟨⟩⟩ hpre
 have hl : c.outs.length ≤ 1000 := hpre
 try dsimp only
 refine BP (k ≥ 500) (fun h0 => have e_ : DU c k = _ := oy h0; ?_) (fun h0 => have e_ : DU c k = _ := oz h0; ?_)
 all_goals
  try rw [e_]
  simp -implicitDefEqProofs only [Tryz.f248, h0, eq_self, decide_true, decide_false, Int.reduceEq, go_sem, hh, seval]
  with_reducible repeat' (first | apply ai | intro _ | ((first | apply s1 | apply s3 | apply s4) <;> intro hb <;> simp -implicitDefEqProofs only [hb, go_sem, hh, seval] <;> try simp only [qz] at hb))
  all_goals (try simp only [maxLen, tn, lm] at *)
  all_goals first | rfl | omega | decide | with_reducible assumption | (show AY _ = true; rfl) | exact Hf (by assumption) | contradiction | skip
end
open Classical in
noncomputable def Dh (c : Cl) : Cl × ByteArray := (if c.pos < c.mail.to.length then (⟨c.name, c.mail, 3, c.pos + 1, c.outs⟩, ⟨#[82, 67, 80, 84, 32, 84, 79, 58]⟩ ++ Cy (c.mail.to.getD c.pos.toNat default)) else (if 1 ∈ c.outs then (⟨c.name, c.mail, 4, c.pos, c.outs⟩, ⟨#[68, 65, 84, 65]⟩) else (⟨c.name, c.mail, 6, c.pos, c.outs⟩, ⟨#[81, 85, 73, 84]⟩)))
theorem rK {c : Cl} (h0 : c.pos < c.mail.to.length) : Dh c = (⟨c.name, c.mail, 3, c.pos + 1, c.outs⟩, ⟨#[82, 67, 80, 84, 32, 84, 79, 58]⟩ ++ Cy (c.mail.to.getD c.pos.toNat default)) := by unfold Dh; rw [if_pos h0]
theorem rL {c : Cl} (h0 : ¬ (c.pos < c.mail.to.length)) (h1 : 1 ∈ c.outs) : Dh c = (⟨c.name, c.mail, 4, c.pos, c.outs⟩, ⟨#[68, 65, 84, 65]⟩) := by unfold Dh; rw [if_neg h0, if_pos h1]
theorem rM {c : Cl} (h0 : ¬ (c.pos < c.mail.to.length)) (h1 : ¬ (1 ∈ c.outs)) : Dh c = (⟨c.name, c.mail, 6, c.pos, c.outs⟩, ⟨#[81, 85, 73, 84]⟩) := by unfold Dh; rw [if_neg h0, if_neg h1]
def V2 : Ct := Aq (lc Zk.ag l0) (fun p => p.1.outs.length ≤ 1000 ∧ N8 p.1.mail ∧ 0 ≤ p.1.pos) (fun p => .tup [.agg ((Dr (Dh p.1).1).map .t), .t (.v (.string (Dh p.1).2))])
section
attribute [local go_sem] QX Int.add_sub_cancel AS.opn AS.cls AS.nilb AS.renb AS.up Bool.not_false Bool.not_true List.set_set List.set_cons_zero List.set_cons_succ List.set_nil List.mem_singleton forall_eq tn List.map_nil List.nil_append
set_option maxHeartbeats 1600000 in
theorem ey {G : Gt} (hG : Ai G) (hh : G.e 126 = AA 0 QX) : Gd G 245 (AA 1 V2) := by
 refine gr (fn := Tryz.f245) (n := 1) rfl hG ?_
 rintro ⟨c, ⟨⟩⟩ hpre
 obtain ⟨hl, hm, hp⟩ := hpre
 try dsimp only at hl hm hp ⊢
 have hml := hm.1
 have hat : c.pos.toNat < c.mail.to.length → (c.mail.to.getD c.pos.toNat default).user.size ≤ 1000 ∧ (c.mail.to.getD c.pos.toNat default).domain.size ≤ 1000 := fun h => kA hm h
 have hps := Ns (c.mail.to.getD c.pos.toNat default)
 have e8 : (#[82, 67, 80, 84, 32, 84, 79, 58] : Array UInt8).size = 8 := rfl
 refine BP (c.pos < c.mail.to.length) (fun h0 => have e_ : Dh c = _ := rK h0; ?_) (fun h0 => ?w1)
 case w1 =>
  simp -implicitDefEqProofs only [Tryz.f245, h0, eq_self, decide_true, decide_false, go_sem, hh, seval]
  with_reducible repeat' (first | apply ai | intro _ | ((first | apply s1 | apply s3 | apply s4) <;> intro hb <;> simp -implicitDefEqProofs only [hb, go_sem, hh, seval] <;> try simp only [qz] at hb))
  all_goals (try simp only [maxLen, tn, lm] at *)
  all_goals first | rfl | omega | decide | with_reducible assumption | (show AY _ = true; rfl) | exact Hf (by assumption) | contradiction | skip
  refine AF [] (ι := {i : Nat // i ≤ c.outs.length ∧ ∀ j, j < i → ¬ c.outs.getD j default = 1}) (fun p => ⟨[(1, .pb 1001 0), (2, .pb 1002 0), (4, .t (.v (.int .i64 p.1)))], [(1001, some (.box ((Dr c).map .t))), (1002, some (.box [.t (.v (.string ⟨#[]⟩)), .t (.v (.string ⟨#[]⟩)), .t (.v (.string ⟨#[]⟩)), .nil, .nil, .t (.v (.int .i64 0)), .t (.v (.int .i64 0)), .nil]))]⟩) (fun p => c.outs.length - p.1) ⟨0, by simp, by simp⟩ rfl ?_ ?_
  ·simp -implicitDefEqProofs only [go_sem, hh, seval]
   try simp
  ·rintro ⟨i, hi, hall⟩
   simp -implicitDefEqProofs only [go_sem, hh, seval]
   with_reducible repeat' (first | apply ai | intro _ | ((first | apply s1 | apply s3 | apply s4) <;> intro hb <;> simp -implicitDefEqProofs only [hb, go_sem, hh, seval] <;> try simp only [qz] at hb))
   all_goals (try simp only [maxLen, tn, lm] at *)
   all_goals first
    | with_reducible rfl
    | omega
    | (show _ = true; rfl)
    | (rw [rL h0 (X0 (xs := c.outs) (i := i) (by omega) (by assumption))]; first | done | rfl)
    | (rw [rM h0 (YJ (by omega) hall)]; first | done | rfl)
    | (refine ⟨⟨i + 1, by omega, fun j hj => ?_⟩, by dsimp only; omega, ?_⟩
       ·by_cases e : j = i
        ·subst e; assumption
        ·exact hall j (by omega)
       ·simp -implicitDefEqProofs only [go_sem, hh, seval]
        simp)
    | skip
 all_goals
  try rw [e_]
  simp -implicitDefEqProofs only [Tryz.f245, h0, eq_self, decide_true, decide_false, Int.reduceEq, go_sem, hh, seval]
  with_reducible repeat' (first | apply ai | intro _ | ((first | apply s1 | apply s3 | apply s4) <;> intro hb <;> simp -implicitDefEqProofs only [hb, go_sem, hh, seval] <;> try simp only [qz] at hb))
  all_goals (try simp only [maxLen, tn, lm] at *)
  all_goals first | rfl | omega | decide | with_reducible assumption | (show AY _ = true; rfl) | exact Hf (by assumption) | contradiction | skip
end
open Classical in
noncomputable def Fa (c : Cl) (k : Int) : Cl × ByteArray := (if k = 250 then Dh ⟨c.name, c.mail, c.state, c.pos, c.outs.set (c.pos - 1).toNat 1⟩ else (if k ≥ 500 then Dh ⟨c.name, c.mail, c.state, c.pos, c.outs.set (c.pos - 1).toNat 4⟩ else Dh ⟨c.name, c.mail, c.state, c.pos, c.outs.set (c.pos - 1).toNat 3⟩))
theorem sS {c : Cl} {k : Int} (h0 : k = 250) : Fa c k = Dh ⟨c.name, c.mail, c.state, c.pos, c.outs.set (c.pos - 1).toNat 1⟩ := by unfold Fa; rw [if_pos h0]
theorem sT {c : Cl} {k : Int} (h0 : ¬ (k = 250)) (h1 : k ≥ 500) : Fa c k = Dh ⟨c.name, c.mail, c.state, c.pos, c.outs.set (c.pos - 1).toNat 4⟩ := by unfold Fa; rw [if_neg h0, if_pos h1]
theorem sU {c : Cl} {k : Int} (h0 : ¬ (k = 250)) (h1 : ¬ (k ≥ 500)) : Fa c k = Dh ⟨c.name, c.mail, c.state, c.pos, c.outs.set (c.pos - 1).toNat 3⟩ := by unfold Fa; rw [if_neg h0, if_neg h1]
def nB : Ct := Aq (lc Zk.ag (lc BA l0)) (fun p => p.1.outs.length ≤ 1000 ∧ N8 p.1.mail ∧ 1 ≤ p.1.pos ∧ p.1.pos ≤ p.1.outs.length) (fun p => .tup [.agg ((Dr (Fa p.1 p.2.1).1).map .t), .t (.v (.string (Fa p.1 p.2.1).2))])
section
attribute [local go_sem] V2 lm List.length_set BQ Nw AS.opn AS.cls AS.nilb AS.renb AS.up Bool.not_false Bool.not_true List.set_set List.set_cons_zero List.set_cons_succ List.set_nil List.mem_singleton forall_eq tn List.map_nil List.nil_append
set_option maxHeartbeats 1600000 in
theorem ex {G : Gt} (hG : Ai G) (hh : G.e 245 = AA 1 V2) : Gd G 244 (AA 1 nB) := by
 refine gr (fn := Tryz.f244) (n := 2) rfl hG ?_
 rintro ⟨c, k, ⟨⟩⟩ hpre
 obtain ⟨hl, hm, hp, hq⟩ := hpre
 try dsimp only at hl hm hp hq ⊢
 refine BP (k = 250) (fun h0 => have h0' := decide_eq_true h0; have e_ : Fa c k = _ := sS h0; have h1 := tv; ?_) (fun h0 => have h0' := decide_eq_false h0; BP (k ≥ 500) (fun h1 => have e_ : Fa c k = _ := sT h0 h1; ?_) (fun h1 => have e_ : Fa c k = _ := sU h0 h1; ?_))
 all_goals
  try rw [e_]
  simp -implicitDefEqProofs only [Tryz.f244, h0', h1, eq_self, decide_true, decide_false, Int.reduceEq, go_sem, hh, seval]
  with_reducible repeat' (first | apply ai | intro _ | ((first | apply s1 | apply s3 | apply s4) <;> intro hb <;> simp -implicitDefEqProofs only [hb, go_sem, hh, seval] <;> try simp only [qz] at hb))
  all_goals (try simp only [maxLen, tn, lm] at *)
  all_goals first | rfl | omega | decide | with_reducible assumption | (show AY _ = true; rfl) | exact Hf (by assumption) | contradiction | skip
end
open Classical in
noncomputable def A3 (c : Cl) (a : ByteArray) : Cl × ByteArray := (if c.state = 7 then (c, ⟨#[]⟩) else (if c.state = 6 then (⟨c.name, c.mail, 7, c.pos, c.outs⟩, ⟨#[]⟩) else (if c.state = 3 then Fa c (BG a) else (if c.state = 0 then (if BG a = 220 then (⟨c.name, c.mail, 1, c.pos, c.outs⟩, ⟨#[72, 69, 76, 79, 32]⟩ ++ c.name) else DU c (BG a)) else (if c.state = 1 then (if BG a = 250 then (⟨c.name, c.mail, 2, c.pos, c.outs⟩, ⟨#[77, 65, 73, 76, 32, 70, 82, 79, 77, 58]⟩ ++ Cy c.mail.frm) else DU c (BG a)) else (if c.state = 2 then (if BG a = 250 then Dh c else DU c (BG a)) else (if c.state = 4 then (if BG a = 354 then (⟨c.name, c.mail, 5, c.pos, c.outs⟩, UE c.mail.body) else DU c (BG a)) else (if c.state = 5 then (if BG a = 250 then (⟨c.name, c.mail, 6, c.pos, c.outs.map Pc⟩, ⟨#[81, 85, 73, 84]⟩) else DU c (BG a)) else DU c (BG a)))))))))
theorem ry {c : Cl} {a : ByteArray} (h0 : c.state = 7) : A3 c a = (c, ⟨#[]⟩) := by unfold A3; rw [if_pos h0]
theorem rz {c : Cl} {a : ByteArray} (h0 : ¬ (c.state = 7)) (h1 : c.state = 6) : A3 c a = (⟨c.name, c.mail, 7, c.pos, c.outs⟩, ⟨#[]⟩) := by unfold A3; rw [if_neg h0, if_pos h1]
theorem r7 {c : Cl} {a : ByteArray} (h0 : ¬ (c.state = 7)) (h1 : ¬ (c.state = 6)) (h2 : c.state = 3) : A3 c a = Fa c (BG a) := by unfold A3; rw [if_neg h0, if_neg h1, if_pos h2]
theorem r8 {c : Cl} {a : ByteArray} (h0 : ¬ (c.state = 7)) (h1 : ¬ (c.state = 6)) (h2 : ¬ (c.state = 3)) (h3 : c.state = 0) (h4 : BG a = 220) : A3 c a = (⟨c.name, c.mail, 1, c.pos, c.outs⟩, ⟨#[72, 69, 76, 79, 32]⟩ ++ c.name) := by unfold A3; rw [if_neg h0, if_neg h1, if_neg h2, if_pos h3, if_pos h4]
theorem sA {c : Cl} {a : ByteArray} (h0 : ¬ (c.state = 7)) (h1 : ¬ (c.state = 6)) (h2 : ¬ (c.state = 3)) (h3 : c.state = 0) (h4 : ¬ (BG a = 220)) : A3 c a = DU c (BG a) := by unfold A3; rw [if_neg h0, if_neg h1, if_neg h2, if_pos h3, if_neg h4]
theorem sB {c : Cl} {a : ByteArray} (h0 : ¬ (c.state = 7)) (h1 : ¬ (c.state = 6)) (h2 : ¬ (c.state = 3)) (h3 : ¬ (c.state = 0)) (h4 : c.state = 1) (h5 : BG a = 250) : A3 c a = (⟨c.name, c.mail, 2, c.pos, c.outs⟩, ⟨#[77, 65, 73, 76, 32, 70, 82, 79, 77, 58]⟩ ++ Cy c.mail.frm) := by unfold A3; rw [if_neg h0, if_neg h1, if_neg h2, if_neg h3, if_pos h4, if_pos h5]
theorem sC {c : Cl} {a : ByteArray} (h0 : ¬ (c.state = 7)) (h1 : ¬ (c.state = 6)) (h2 : ¬ (c.state = 3)) (h3 : ¬ (c.state = 0)) (h4 : c.state = 1) (h5 : ¬ (BG a = 250)) : A3 c a = DU c (BG a) := by unfold A3; rw [if_neg h0, if_neg h1, if_neg h2, if_neg h3, if_pos h4, if_neg h5]
theorem sD {c : Cl} {a : ByteArray} (h0 : ¬ (c.state = 7)) (h1 : ¬ (c.state = 6)) (h2 : ¬ (c.state = 3)) (h3 : ¬ (c.state = 0)) (h4 : ¬ (c.state = 1)) (h5 : c.state = 2) (h6 : BG a = 250) : A3 c a = Dh c := by unfold A3; rw [if_neg h0, if_neg h1, if_neg h2, if_neg h3, if_neg h4, if_pos h5, if_pos h6]
theorem sE {c : Cl} {a : ByteArray} (h0 : ¬ (c.state = 7)) (h1 : ¬ (c.state = 6)) (h2 : ¬ (c.state = 3)) (h3 : ¬ (c.state = 0)) (h4 : ¬ (c.state = 1)) (h5 : c.state = 2) (h6 : ¬ (BG a = 250)) : A3 c a = DU c (BG a) := by unfold A3; rw [if_neg h0, if_neg h1, if_neg h2, if_neg h3, if_neg h4, if_pos h5, if_neg h6]
theorem sF {c : Cl} {a : ByteArray} (h0 : ¬ (c.state = 7)) (h1 : ¬ (c.state = 6)) (h2 : ¬ (c.state = 3)) (h3 : ¬ (c.state = 0)) (h4 : ¬ (c.state = 1)) (h5 : ¬ (c.state = 2)) (h6 : c.state = 4) (h7 : BG a = 354) : A3 c a = (⟨c.name, c.mail, 5, c.pos, c.outs⟩, UE c.mail.body) := by unfold A3; rw [if_neg h0, if_neg h1, if_neg h2, if_neg h3, if_neg h4, if_neg h5, if_pos h6, if_pos h7]
theorem iE {c : Cl} {a : ByteArray} (h0 : ¬ (c.state = 7)) (h1 : ¬ (c.state = 6)) (h2 : ¬ (c.state = 3)) (h3 : ¬ (c.state = 0)) (h4 : ¬ (c.state = 1)) (h5 : ¬ (c.state = 2)) (h6 : c.state = 4) (h7 : ¬ (BG a = 354)) : A3 c a = DU c (BG a) := by unfold A3; rw [if_neg h0, if_neg h1, if_neg h2, if_neg h3, if_neg h4, if_neg h5, if_pos h6, if_neg h7]
theorem iF {c : Cl} {a : ByteArray} (h0 : ¬ (c.state = 7)) (h1 : ¬ (c.state = 6)) (h2 : ¬ (c.state = 3)) (h3 : ¬ (c.state = 0)) (h4 : ¬ (c.state = 1)) (h5 : ¬ (c.state = 2)) (h6 : ¬ (c.state = 4)) (h7 : c.state = 5) (h8 : BG a = 250) : A3 c a = (⟨c.name, c.mail, 6, c.pos, c.outs.map Pc⟩, ⟨#[81, 85, 73, 84]⟩) := by unfold A3; rw [if_neg h0, if_neg h1, if_neg h2, if_neg h3, if_neg h4, if_neg h5, if_neg h6, if_pos h7, if_pos h8]
theorem iG {c : Cl} {a : ByteArray} (h0 : ¬ (c.state = 7)) (h1 : ¬ (c.state = 6)) (h2 : ¬ (c.state = 3)) (h3 : ¬ (c.state = 0)) (h4 : ¬ (c.state = 1)) (h5 : ¬ (c.state = 2)) (h6 : ¬ (c.state = 4)) (h7 : c.state = 5) (h8 : ¬ (BG a = 250)) : A3 c a = DU c (BG a) := by unfold A3; rw [if_neg h0, if_neg h1, if_neg h2, if_neg h3, if_neg h4, if_neg h5, if_neg h6, if_pos h7, if_neg h8]
theorem iH {c : Cl} {a : ByteArray} (h0 : ¬ (c.state = 7)) (h1 : ¬ (c.state = 6)) (h2 : ¬ (c.state = 3)) (h3 : ¬ (c.state = 0)) (h4 : ¬ (c.state = 1)) (h5 : ¬ (c.state = 2)) (h6 : ¬ (c.state = 4)) (h7 : ¬ (c.state = 5)) : A3 c a = DU c (BG a) := by unfold A3; rw [if_neg h0, if_neg h1, if_neg h2, if_neg h3, if_neg h4, if_neg h5, if_neg h6, if_neg h7]
def my : Ct := Aq (lc Zk.ag (lc Aw l0)) (fun p => p.1.outs.length ≤ 1000 ∧ N8 p.1.mail ∧ 0 ≤ p.1.pos ∧ p.1.pos ≤ p.1.outs.length ∧ (p.1.state = 3 → 1 ≤ p.1.pos) ∧ p.1.name.size ≤ 1000000) (fun p => .tup [.agg ((Dr (A3 p.1 p.2.1).1).map .t), .t (.v (.string (A3 p.1 p.2.1).2))])
section
attribute [local go_sem] nA nB QX V2 nC nD nE AS.opn AS.cls AS.nilb AS.renb AS.up Bool.not_false Bool.not_true List.set_set List.set_cons_zero List.set_cons_succ List.set_nil List.mem_singleton forall_eq tn List.map_nil List.nil_append
set_option maxHeartbeats 3200000 in
theorem ef {G : Gt} (hG : Ai G) (hh : G.e 243 = AA 0 nA ∧ G.e 244 = AA 1 nB ∧ G.e 126 = AA 0 QX ∧ G.e 245 = AA 1 V2 ∧ G.e 246 = AA 0 nC ∧ G.e 247 = AA 1 nD ∧ G.e 248 = AA 1 nE) : Gd G 237 (AA 1 my) := by
 refine gr (fn := Tryz.f237) (n := 2) rfl hG ?_
 rintro ⟨c, a, ⟨⟩⟩ hpre
 obtain ⟨hl, hm, hp, hq, h3p, hn⟩ := hpre
 try dsimp only at hl hm hp hq h3p hn ⊢
 have hml := hm.1
 have hmb := hm.2.1
 have hmf := hm.2.2.1
 have hps := Ns c.mail.frm
 have hbo : ∀ x ∈ c.mail.body, x.size ≤ 2000000 := fun x hx => Nat.le_trans (hm.2.2.2.2 x hx) (by decide)
 have e5 : (#[72, 69, 76, 79, 32] : Array UInt8).size = 5 := rfl
 have e10 : (#[77, 65, 73, 76, 32, 70, 82, 79, 77, 58] : Array UInt8).size = 10 := rfl
 refine BP (c.state = 7) (fun h0 => have h0' := decide_eq_true h0; have e_ : A3 c a = _ := ry h0; have h1' := tv; have h2' := tv; have h3' := tv; have h4' := tv; have h5' := tv; have h6' := tv; have h7' := tv; have h8' := tv; ?_) (fun h0 => have h0' := decide_eq_false h0; BP (c.state = 6) (fun h1 => have h1' := decide_eq_true h1; have e_ : A3 c a = _ := rz h0 h1; have h2' := tv; have h3' := tv; have h4' := tv; have h5' := tv; have h6' := tv; have h7' := tv; have h8' := tv; ?_) (fun h1 => have h1' := decide_eq_false h1; BP (c.state = 3) (fun h2 => have h2' := decide_eq_true h2; have e_ : A3 c a = _ := r7 h0 h1 h2; have h3' := tv; have h4' := tv; have h5' := tv; have h6' := tv; have h7' := tv; have h8' := tv; ?_) (fun h2 => have h2' := decide_eq_false h2; BP (c.state = 0) (fun h3 => have h3' := decide_eq_true h3; BP (BG a = 220) (fun h4 => have h4' := decide_eq_true h4; have e_ : A3 c a = _ := r8 h0 h1 h2 h3 h4; have h5' := tv; have h6' := tv; have h7' := tv; have h8' := tv; ?_) (fun h4 => have h4' := decide_eq_false h4; have e_ : A3 c a = _ := sA h0 h1 h2 h3 h4; have h5' := tv; have h6' := tv; have h7' := tv; have h8' := tv; ?_)) (fun h3 => have h3' := decide_eq_false h3; BP (c.state = 1) (fun h4 => have h4' := decide_eq_true h4; BP (BG a = 250) (fun h5 => have h5' := decide_eq_true h5; have e_ : A3 c a = _ := sB h0 h1 h2 h3 h4 h5; have h6' := tv; have h7' := tv; have h8' := tv; ?_) (fun h5 => have h5' := decide_eq_false h5; have e_ : A3 c a = _ := sC h0 h1 h2 h3 h4 h5; have h6' := tv; have h7' := tv; have h8' := tv; ?_)) (fun h4 => have h4' := decide_eq_false h4; BP (c.state = 2) (fun h5 => have h5' := decide_eq_true h5; BP (BG a = 250) (fun h6 => have h6' := decide_eq_true h6; have e_ : A3 c a = _ := sD h0 h1 h2 h3 h4 h5 h6; have h7' := tv; have h8' := tv; ?_) (fun h6 => have h6' := decide_eq_false h6; have e_ : A3 c a = _ := sE h0 h1 h2 h3 h4 h5 h6; have h7' := tv; have h8' := tv; ?_)) (fun h5 => have h5' := decide_eq_false h5; BP (c.state = 4) (fun h6 => have h6' := decide_eq_true h6; BP (BG a = 354) (fun h7 => have h7' := decide_eq_true h7; have e_ : A3 c a = _ := sF h0 h1 h2 h3 h4 h5 h6 h7; have h8' := tv; ?_) (fun h7 => have h7' := decide_eq_false h7; have e_ : A3 c a = _ := iE h0 h1 h2 h3 h4 h5 h6 h7; have h8' := tv; ?_)) (fun h6 => have h6' := decide_eq_false h6; BP (c.state = 5) (fun h7 => have h7' := decide_eq_true h7; BP (BG a = 250) (fun h8 => have h8' := decide_eq_true h8; have e_ : A3 c a = _ := iF h0 h1 h2 h3 h4 h5 h6 h7 h8; ?_) (fun h8 => have h8' := decide_eq_false h8; have e_ : A3 c a = _ := iG h0 h1 h2 h3 h4 h5 h6 h7 h8; ?_)) (fun h7 => have h7' := decide_eq_false h7; have e_ : A3 c a = _ := iH h0 h1 h2 h3 h4 h5 h6 h7; have h8' := tv; ?_))))))))
 all_goals
  try rw [e_]
  simp -implicitDefEqProofs only [Tryz.f237, h0', h1', h2', h3', h4', h5', h6', h7', h8', eq_self, decide_true, decide_false, Int.reduceEq, go_sem, hh, seval]
  with_reducible repeat' (first | apply ai | intro _ | ((first | apply s1 | apply s3 | apply s4) <;> intro hb <;> simp -implicitDefEqProofs only [hb, go_sem, hh, seval] <;> try simp only [qz] at hb))
  all_goals (try simp only [maxLen, tn, lm] at *)
  all_goals first | rfl | omega | decide | with_reducible assumption | (show AY _ = true; rfl) | exact Hf (by assumption) | contradiction | exact hbo _ (by with_reducible assumption) | skip
end
def TR (c : Cl) : Prop := c.outs.length = c.mail.to.length ∧ N8 c.mail ∧ 0 ≤ c.pos ∧ c.pos ≤ c.outs.length ∧ (c.state = 3 → 1 ≤ c.pos) ∧ c.name.size ≤ 1000
theorem cZ {c : Cl} (k : Int) (h : TR c) : TR (DU c k).1 ∧ (DU c k).2.size ≤ 20 := by
 unfold DU
 split
 all_goals exact ⟨⟨by show (c.outs.map _).length = _; rw [lm]; exact h.1, h.2.1, h.2.2.1, by show _ ≤ (((c.outs.map _).length : Nat) : Int); rw [lm]; exact h.2.2.2.1, fun q => by simp at q, h.2.2.2.2.2⟩, Nat.le_of_ble_eq_true rfl⟩
theorem S9 {c : Cl} (h : c.outs.length = c.mail.to.length ∧ N8 c.mail ∧ 0 ≤ c.pos ∧ c.pos ≤ c.outs.length ∧ c.name.size ≤ 1000) : TR (Dh c).1 ∧ (Dh c).2.size ≤ 3000 := by
 obtain ⟨h1, h2, h3, h4, h5⟩ := h
 unfold Dh
 split
 ·rename_i hlt
  refine ⟨⟨h1, h2, by show 0 ≤ c.pos + 1; omega, by show c.pos + 1 ≤ (c.outs.length : Int); omega, fun _ => by show 1 ≤ c.pos + 1; omega, h5⟩, ?_⟩
  show (⟨#[82, 67, 80, 84, 32, 84, 79, 58]⟩ ++ Cy (c.mail.to.getD c.pos.toNat default)).size ≤ 3000
  have hps := Ns (c.mail.to.getD c.pos.toNat default)
  have ht := kA h2 (i := c.pos.toNat) (by omega)
  rw [ByteArray.size_append]
  have e8 : (⟨#[82, 67, 80, 84, 32, 84, 79, 58]⟩ : ByteArray).size = 8 := rfl
  omega
 ·split
  all_goals exact ⟨⟨h1, h2, h3, h4, fun q => by simp at q, h5⟩, Nat.le_of_ble_eq_true rfl⟩
theorem iP {c : Cl} (k : Int) (h : TR c) : TR (Fa c k).1 ∧ (Fa c k).2.size ≤ 3000 := by
 have key : ∀ v : Int, TR (Dh ⟨c.name, c.mail, c.state, c.pos, c.outs.set (c.pos - 1).toNat v⟩).1 ∧ (Dh ⟨c.name, c.mail, c.state, c.pos, c.outs.set (c.pos - 1).toNat v⟩).2.size ≤ 3000 := fun v =>
  S9 ⟨by show (c.outs.set _ _).length = _; rw [List.length_set]; exact h.1, h.2.1, h.2.2.1, by show _ ≤ (((c.outs.set _ _).length : Nat) : Int); rw [List.length_set]; exact h.2.2.2.1, h.2.2.2.2.2⟩
 unfold Fa
 repeat' split
 all_goals exact key _
theorem oo {l : List ByteArray} (h1 : l.length ≤ 100) (h : ∀ x ∈ l, x.size ≤ 1000) : (UE l).size ≤ 100400 := by
 unfold UE
 have q := Wi l ⟨#[]⟩ 1000 h
 rw [ByteArray.size_append, i5]
 have : (⟨#[]⟩ : ByteArray).size = 0 := rfl
 have : l.length * (1000 + 3) ≤ 100 * (1000 + 3) := Nat.mul_le_mul_right _ h1
 omega
theorem iI {c : Cl} (a : ByteArray) (h : TR c) : TR (A3 c a).1 ∧ (A3 c a).2.size ≤ 200000 := by
 have q1 := iP (BG a) h
 have q2 := cZ (BG a) h
 have q3 := S9 ⟨h.1, h.2.1, h.2.2.1, h.2.2.2.1, h.2.2.2.2.2⟩
 have q4 := oo h.2.1.2.1 h.2.1.2.2.2.2
 have q5 := Ns c.mail.frm
 have q6 := h.2.1.2.2.1
 have mk : ∀ st, ¬ st = (3 : Int) → ∀ o : List Int, o.length = c.outs.length → TR ⟨c.name, c.mail, st, c.pos, o⟩ := fun st hs o ho => ⟨by show o.length = _; rw [ho]; exact h.1, h.2.1, h.2.2.1, by show _ ≤ ((o.length : Nat) : Int); rw [ho]; exact h.2.2.2.1, fun q => absurd q hs, h.2.2.2.2.2⟩
 unfold A3
 repeat' split
 all_goals first
  | exact ⟨h, Nat.zero_le _⟩
  | exact ⟨mk _ (by decide) _ rfl, Nat.zero_le _⟩
  | exact ⟨q1.1, by have := q1.2; omega⟩
  | exact ⟨q2.1, by have := q2.2; omega⟩
  | exact ⟨q3.1, by have := q3.2; omega⟩
  | exact ⟨mk _ (by decide) _ (lm _), Nat.le_of_ble_eq_true rfl⟩
  | exact ⟨mk _ (by decide) _ rfl, Nat.le_trans q4 (by decide)⟩
  | (refine ⟨mk _ (by decide) _ rfl, ?_⟩
     show ((⟨_⟩ : ByteArray) ++ _).size ≤ _
     rw [ByteArray.size_append]
     have e5 : (⟨#[72, 69, 76, 79, 32]⟩ : ByteArray).size = 5 := rfl
     have e10 : (⟨#[77, 65, 73, 76, 32, 70, 82, 79, 77, 58]⟩ : ByteArray).size = 10 := rfl
     have := h.2.2.2.2.2
     omega)
theorem V6 (c : Cf) (s : Ss) (l : ByteArray) : (Bg c s l).1.buf = s.buf := by
 have q1 : ∀ t, (Em s t).1.buf = s.buf := fun t => by unfold Em; (repeat' split) <;> rfl
 have q2 : ∀ t, (Hw c s t).1.buf = s.buf := fun t => by unfold Hw; (repeat' split) <;> rfl
 unfold Bg
 repeat' split
 all_goals first | rfl | exact q1 _ | exact q2 _
theorem WA (s : Ss) (l : ByteArray) : (Am s l).1.1.buf = s.buf := by unfold Am; (repeat' split) <;> rfl
theorem Y7 (c : Cf) (s : Ss) (l : ByteArray) : (Bs c s l).1.1.buf = s.buf := by
 unfold Bs
 repeat' split
 all_goals first | rfl | exact WA s l | exact V6 c s l
theorem SX (c : Cf) : ∀ (L : List ByteArray) (x : GB), (NL c L x).1.1.buf = x.1.buf
 | [], x => rfl
 | l :: r, x => by
   rw [NL]
   split
   ·rfl
   ·split
    ·rfl
    ·rw [SX c r]; exact Y7 c x.1 l
theorem UJ (c : Cf) (s : Ss) (t : ByteArray) : (Bw c s t).1.buf.size ≤ 80 := by
 have q := SX c (OA (s.buf ++ t)) (⟨s.state, s.mail, s.bad, ⟨#[]⟩⟩, [], [])
 have e : (⟨#[]⟩ : ByteArray).size = 0 := rfl
 unfold Bw XH
 split
 ·rw [q]; show (⟨#[]⟩ : ByteArray).size ≤ 80; omega
 ·split
  ·rw [q]; show (⟨#[]⟩ : ByteArray).size ≤ 80; omega
  ·split
   ·show (NL c _ _).1.1.buf.size ≤ 80
    rw [q]; show (⟨#[]⟩ : ByteArray).size ≤ 80; omega
   ·show (rA (s.buf ++ t)).size ≤ 80; omega
abbrev OT := Cl × Ss × List Ml × List ByteArray
def ZA (q : Cl × ByteArray) : ByteArray := if q.1.state = 5 then q.2 else q.2 ++ ⟨#[13, 10]⟩
theorem j4 {q : Cl × ByteArray} (h : q.1.state = 5) : ZA q = q.2 := if_pos h
theorem j3 {q : Cl × ByteArray} (h : ¬ q.1.state = 5) : ZA q = q.2 ++ ⟨#[13, 10]⟩ := if_neg h
theorem wE (q : Cl × ByteArray) : (ZA q).size ≤ q.2.size + 2 := by
 unfold ZA
 split
 ·omega
 ·rw [ByteArray.size_append, NC]; omega
noncomputable def Md (x : OT) : Cl × ByteArray := A3 x.1 (x.2.2.2.getD 0 default)
noncomputable def ZT (h : Cf) (x : OT) : OT := ((Md x).1, (Bw h x.2.1 (ZA (Md x))).1, x.2.2.1 ++ (Bw h x.2.1 (ZA (Md x))).2.2, (Bw h x.2.1 (ZA (Md x))).2.1)
noncomputable def Ld (h : Cf) (cut : Int) : Nat → Nat → OT → Cl × List Ml
 | 0, _, x => (x.1, x.2.2.1)
 | k + 1, n, x => if (x.2.2.2.length : Int) > 0 ∧ ¬ x.1.state = 7 then (if 2 * (n : Int) ≥ cut then (x.1, x.2.2.1) else if (Md x).2 = ⟨#[]⟩ ∨ 2 * (n : Int) + 1 ≥ cut then ((Md x).1, x.2.2.1) else Ld h cut k (n + 1) (ZT h x)) else (x.1, x.2.2.1)
theorem ZB {h : Cf} {cut : Int} {k n : Nat} {x : OT} (q : ¬ (x.2.2.2.length : Int) > 0 ∨ x.1.state = 7 ∨ 2 * (n : Int) ≥ cut) : Ld h cut k n x = (x.1, x.2.2.1) := by
 cases k with
 | zero => rfl
 | succ k =>
   rw [Ld]
   split
   ·rename_i z
    rw [if_pos (q.elim (fun a => absurd z.1 a) fun q => q.elim (fun a => absurd a z.2) id)]
   ·rfl
theorem j5 {h : Cf} {cut : Int} {k n : Nat} {x : OT} (hk : cut ≤ 2 * ((n : Int) + k)) (h1 : (x.2.2.2.length : Int) > 0) (h2 : ¬ x.1.state = 7) (h3 : ¬ 2 * (n : Int) ≥ cut) (h4 : (Md x).2 = ⟨#[]⟩ ∨ 2 * (n : Int) + 1 ≥ cut) : Ld h cut k n x = ((Md x).1, x.2.2.1) := by
 obtain ⟨j, rfl⟩ : ∃ j, k = j + 1 := ⟨k - 1, by omega⟩
 rw [Ld, if_pos ⟨h1, h2⟩, if_neg h3, if_pos h4]
theorem wF {h : Cf} {cut : Int} {k n : Nat} {x : OT} (h1 : (x.2.2.2.length : Int) > 0) (h2 : ¬ x.1.state = 7) (h3 : ¬ 2 * (n : Int) ≥ cut) (h4 : ¬ (Md x).2 = ⟨#[]⟩) (h5 : ¬ 2 * (n : Int) + 1 ≥ cut) : Ld h cut (k + 1) n x = Ld h cut k (n + 1) (ZT h x) := by
 rw [Ld, if_pos ⟨h1, h2⟩, if_neg h3, if_neg (fun q => q.elim h4 h5)]
def sj (n : Nat) (x : OT) : Prop := TR x.1 ∧ OR x.2.1 ∧ x.2.1.buf.size ≤ 80 ∧ x.2.2.1.length ≤ n * 300000 ∧ ∀ m ∈ x.2.2.1, ia m
theorem Rh {n : Nat} {x : OT} (q : sj n x) : TR (Md x).1 ∧ (Md x).2.size ≤ 200000 := iI _ q.1
theorem N1 {h : Cf} {n : Nat} {x : OT} (q : sj n x) : sj (n + 1) (ZT h x) ∧ (Bw h x.2.1 (ZA (Md x))).2.2.length ≤ 300000 := by
 obtain ⟨h1, h2⟩ := Rh q
 obtain ⟨q1, q2, q3, q4, q5⟩ := q
 have ha := wE (Md x)
 have f := XL (c := h) (t := ZA (Md x)) q2 (by omega)
 have fl : (Bw h x.2.1 (ZA (Md x))).2.2.length ≤ 300000 := by have := f.2.2.1; omega
 refine ⟨⟨h1, f.1, UJ _ _ _, ?_, fun m hm => ?_⟩, fl⟩
 ·show (x.2.2.1 ++ _).length ≤ _
  rw [List.length_append]
  omega
 ·rcases List.mem_append.1 hm with hm | hm
  ·exact q5 m hm
  ·exact f.2.2.2.2 m hm
theorem LS (h : Cf) (cut : Int) : ∀ (k n : Nat) (x : OT), sj n x → TR (Ld h cut k n x).1 ∧ (Ld h cut k n x).2.length ≤ (n + k) * 300000 ∧ ∀ m ∈ (Ld h cut k n x).2, ia m
 | 0, n, x, q => ⟨q.1, q.2.2.2.1, q.2.2.2.2⟩
 | k + 1, n, x, q => by
   have hl : x.2.2.1.length ≤ (n + (k + 1)) * 300000 := Nat.le_trans q.2.2.2.1 (Nat.mul_le_mul_right _ (Nat.le_add_right _ _))
   rw [Ld]
   split
   ·split
    ·exact ⟨q.1, hl, q.2.2.2.2⟩
    ·split
     ·exact ⟨(Rh q).1, hl, q.2.2.2.2⟩
     ·have z := LS h cut k (n + 1) _ (N1 (h := h) q).1
      rw [show n + (k + 1) = n + 1 + k by omega]
      exact z
   ·exact ⟨q.1, hl, q.2.2.2.2⟩
def yn : Ss := ⟨0, ⟨⟨⟨#[]⟩, ⟨#[]⟩⟩, [], []⟩, false, ⟨#[]⟩⟩
def Uu (h : Cf) (nm : ByteArray) (m : Ml) : OT := (fw nm m, yn, [], [⟨#[50, 50, 48, 32]⟩ ++ h.name])
theorem LR (h : Cf) {nm : ByteArray} {m : Ml} (hn : nm.size ≤ 1000) (hm : N8 m) : sj 0 (Uu h nm m) := ⟨⟨by show (List.replicate _ _).length = _; rw [List.length_replicate]; rfl, hm, Int.le_refl _, by show (0 : Int) ≤ _; omega, fun q => absurd (show (0 : Int) = 3 from q) (by decide), hn⟩, GD yn, Nat.zero_le _, Nat.zero_le _, fun _ z => by cases z⟩
noncomputable def yp (h : Cf) (nm : ByteArray) (m : Ml) (cut : Int) : Cl × List Ml := Ld h cut cut.toNat 0 (Uu h nm m)
noncomputable def Eu (h : Cf) (nm : ByteArray) (m : Ml) (cut : Int) : List Int × List Ml := ((yp h nm m cut).1.outs.map (GV 3), (yp h nm m cut).2)
theorem LT {h : Cf} {nm : ByteArray} {m : Ml} {cut : Int} {c : Cl} {l : List Ml} (q : (c, l) = Ld h cut cut.toNat 0 (Uu h nm m)) : Eu h nm m cut = (c.outs.map (GV 3), l) := by
 unfold Eu yp; rw [← q]
theorem wI {h : Cf} {x1 : Cl} {x2 : Ss} {x3 : List Ml} {x4 : List ByteArray} (e : (A3 x1 (x4.getD 0 default)).1.state = 5) : ZT h (x1, x2, x3, x4) = ((A3 x1 (x4.getD 0 default)).1, (Bw h x2 (A3 x1 (x4.getD 0 default)).2).1, x3 ++ (Bw h x2 (A3 x1 (x4.getD 0 default)).2).2.2, (Bw h x2 (A3 x1 (x4.getD 0 default)).2).2.1) := by
 unfold ZT; rw [j4 (show (Md (x1, x2, x3, x4)).1.state = 5 from e)]; rfl
theorem wG {h : Cf} {x1 : Cl} {x2 : Ss} {x3 : List Ml} {x4 : List ByteArray} (e : ¬ (A3 x1 (x4.getD 0 default)).1.state = 5) : ZT h (x1, x2, x3, x4) = ((A3 x1 (x4.getD 0 default)).1, (Bw h x2 ((A3 x1 (x4.getD 0 default)).2 ++ ⟨#[13, 10]⟩)).1, x3 ++ (Bw h x2 ((A3 x1 (x4.getD 0 default)).2 ++ ⟨#[13, 10]⟩)).2.2, (Bw h x2 ((A3 x1 (x4.getD 0 default)).2 ++ ⟨#[13, 10]⟩)).2.1) := by
 unfold ZT; rw [j3 (show ¬ (Md (x1, x2, x3, x4)).1.state = 5 from e)]; rfl
theorem rH (nm : ByteArray) (m : Ml) : fw nm m = ⟨nm, m, 0, 0, List.replicate m.to.length 0⟩ := rfl
def V0 : Ct := Aq (lc H4.ag (lc Aw (lc Zw.ag (lc BA l0)))) (fun p => p.1.name.size ≤ 1000 ∧ p.2.1.size ≤ 1000 ∧ N8 p.2.2.1 ∧ 0 ≤ p.2.2.2.1 ∧ p.2.2.2.1 ≤ 1000) (fun p => .tup [.t (.sl 1 ((Eu p.1 p.2.1 p.2.2.1 p.2.2.2.1).1.map A9)), .t (.sl 4 ((Eu p.1 p.2.1 p.2.2.1 p.2.2.2.1).2.map DN))])
section
attribute [local go_sem] mw my mz m0 Sv AZ lm List.length_append List.map_append List.map_nil List.nil_append tn Int.toNat_zero Gy AS.opn AS.cls AS.nilb AS.renb AS.up Bool.not_false Bool.not_true List.set_set List.set_cons_zero List.set_cons_succ List.set_nil List.mem_singleton forall_eq
set_option maxHeartbeats 6400000 in
theorem eS {G : Gt} (hG : Ai G) (hh : G.e 236 = AA 1 mw ∧ G.e 237 = AA 1 my ∧ G.e 238 = AA 1 mz ∧ G.e 239 = AA 0 m0) : Gd G 224 (AA 1 V0) := by
 refine Lr (dp := fun n => !(Nat.beq n 24 || Nat.beq n 78 || Nat.beq n 100003)) (fn := Tryz.f224) (n := 4) rfl hG ?_
 rintro ⟨h, nm, m, cut, ⟨⟩⟩ hpre
 obtain ⟨hn, Se, hm, hc0, hc1⟩ := hpre
 try dsimp only at hn Se hm hc0 hc1 ⊢
 have hm1 := hm.1
 have hm2 := hm.2.1
 have e4 : (#[50, 50, 48, 32] : Array UInt8).size = 4 := rfl
 have e2 : (#[13, 10] : Array UInt8).size = 2 := rfl
 simp -implicitDefEqProofs only [Tryz.f224, go_sem, hh, seval]
 with_reducible repeat' (first | apply ai | intro _ | ((first | apply s1 | apply s3 | apply s4) <;> intro hb <;> simp -implicitDefEqProofs only [hb, go_sem, hh, seval] <;> try simp only [qz] at hb))
 all_goals (try simp only [maxLen, tn] at *)
 all_goals first | with_reducible rfl | omega | with_reducible assumption | decide | (simp only [List.mem_cons, List.mem_singleton, List.not_mem_nil] at *; omega) | skip
 refine AU (Le.nilb 1011 3 1901 true 2 rfl rfl rfl) ?_
 simp -implicitDefEqProofs only [go_sem, hh, seval]
 refine AU (Le.nilb 1011 4 1902 true 1 rfl rfl rfl) (AR ?_)
 simp -implicitDefEqProofs only [go_sem, hh, seval]
 with_reducible repeat' (first | apply ai | intro _ | ((first | apply s1 | apply s3 | apply s4) <;> intro hb <;> simp -implicitDefEqProofs only [hb, go_sem, hh, seval] <;> try simp only [qz] at hb))
 all_goals (try simp only [maxLen, tn] at *)
 all_goals first | with_reducible rfl | omega | with_reducible assumption | decide | (simp only [List.mem_cons, List.mem_singleton, List.not_mem_nil] at *; omega) | skip
 refine Um [1028, 1901, 1902] [(12, 902, false, 4)] (ι := {p : Nat × Nat × OT // cut ≤ 2 * ((p.1 : Int) + p.2.1) ∧ p.1 ≤ 1000 ∧ sj p.1 p.2.2 ∧ Ld h cut p.2.1 p.1 p.2.2 = Ld h cut cut.toNat 0 (Uu h nm m)}) (fun p => ⟨[(3, .t (.v (.int .i64 cut))), (4, .pb 1004 0), (10, .pb 1010 0), (11, .pb 1011 0), (12, .h 902), (13, .t (.sl 1 (p.1.2.2.2.2.2.map AH))), (14, .t (.v (.int .i64 p.1.1)))], [(1004, some (.box ((Co h).map .t))), (1010, some (.box ((Dr p.1.2.2.1).map .t))), (1011, some (.box ((El p.1.2.2.2.1).map .t))), (902, some (.arr false 4 (p.1.2.2.2.2.1.map DN)))]⟩) (fun p => p.1.2.1) ⟨(0, cut.toNat, Uu h nm m), by dsimp only; omega, Nat.zero_le _, LR h Se hm, rfl⟩ rfl ?_ ?_
 ·simp -implicitDefEqProofs only [go_sem, hh, seval]
  simp [rH, yn, Uu, A9, AH]
  try trace_state
 ·rintro ⟨⟨n, k, x⟩, hk, hk2, hx, hv⟩
  obtain ⟨x1, x2, x3, x4⟩ := x
  dsimp only at hk hk2 hx hv
  have hc := hx.1
  have hc3 : x1.outs.length ≤ 1000 := by have := hc.1; have := hc.2.1.1; dsimp only at *; omega
  have hl3 := hx.2.2.2.1
  have hbf := hx.2.2.1
  obtain ⟨hq1, hq2⟩ := Rh hx
  obtain ⟨hq1, hq2⟩ : TR (A3 x1 (x4.getD 0 default)).1 ∧ (A3 x1 (x4.getD 0 default)).2.size ≤ 200000 := ⟨hq1, hq2⟩
  have hq3 : (A3 x1 (x4.getD 0 default)).1.outs.length ≤ 1000 := by have := hq1.1; have := hq1.2.1.1; omega
  have hf5 : (A3 x1 (x4.getD 0 default)).1.state = 5 → (Bw h x2 (A3 x1 (x4.getD 0 default)).2).2.2.length ≤ 300000 := fun e => by
   have z := (N1 (h := h) hx).2; rw [j4 (show (Md (x1, x2, x3, x4)).1.state = 5 from e)] at z; exact z
  have hf6 : ¬ (A3 x1 (x4.getD 0 default)).1.state = 5 → (Bw h x2 ((A3 x1 (x4.getD 0 default)).2 ++ ⟨#[13, 10]⟩)).2.2.length ≤ 300000 := fun e => by
   have z := (N1 (h := h) hx).2; rw [j3 (show ¬ (Md (x1, x2, x3, x4)).1.state = 5 from e)] at z; exact z
  dsimp only at hl3 hbf
  simp -implicitDefEqProofs only [go_sem, hh, seval]
  with_reducible repeat' (first | apply ai | intro _ | ((first | apply s1 | apply s3 | apply s4) <;> intro hb <;> simp -implicitDefEqProofs only [hb, go_sem, hh, seval] <;> try simp only [qz] at hb))
  all_goals (try simp only [maxLen, tn] at *)
  all_goals first
   | with_reducible rfl
   | omega
   | (show _ = true; rfl)
   | with_reducible assumption
   | exact hx.1.2.1
   | exact hx.1.2.2.1
   | exact hx.1.2.2.2.1
   | exact hx.1.2.2.2.2.1
   | exact Nat.le_trans hx.1.2.2.2.2.2 (by decide)
   | (rw [LT ((ZB (x := (x1, x2, x3, x4)) (.inl (by dsimp only; omega))).symm.trans hv)]; first | done | rfl)
   | (rw [LT ((ZB (x := (x1, x2, x3, x4)) (.inr (.inl (by with_reducible assumption)))).symm.trans hv)]; first | done | rfl)
   | (rw [LT ((ZB (x := (x1, x2, x3, x4)) (.inr (.inr (by with_reducible assumption)))).symm.trans hv)]; first | done | rfl)
   | (rw [LT ((j5 (x := (x1, x2, x3, x4)) hk (by with_reducible assumption) (by with_reducible assumption) (by with_reducible assumption) (.inl (show (A3 x1 (x4.getD 0 default)).2 = ⟨#[]⟩ by with_reducible assumption))).symm.trans hv)]; first | done | rfl)
   | (rw [LT ((j5 (x := (x1, x2, x3, x4)) hk (by with_reducible assumption) (by with_reducible assumption) (by with_reducible assumption) (.inr (by with_reducible assumption))).symm.trans hv)]; first | done | rfl)
   | exact hc.2.2.2.2.1 (by with_reducible assumption)
   | exact hx.2.1
   | exact hq3
   | (have := hf5 (by with_reducible assumption); omega)
   | (have := hf6 (by with_reducible assumption); omega)
   | (rw [ByteArray.size_append]; show _ + (_ + 2) ≤ _; omega)
   | (obtain ⟨k, rfl⟩ : ∃ j, k = j + 1 := ⟨k - 1, by omega⟩
      refine ⟨⟨(n + 1, k, ZT h (x1, x2, x3, x4)), by dsimp only; omega, by dsimp only; omega, (N1 (h := h) hx).1, (wF (x := (x1, x2, x3, x4)) (by with_reducible assumption) (by with_reducible assumption) (by with_reducible assumption) (show ¬ (A3 x1 (x4.getD 0 default)).2 = ⟨#[]⟩ by with_reducible assumption) (by with_reducible assumption)).symm.trans hv⟩, by dsimp only; omega, ?_⟩
      simp -implicitDefEqProofs only [go_sem, hh, seval]
      first
       | (have ee := wI (h := h) (x1 := x1) (x2 := x2) (x3 := x3) (x4 := x4) (by with_reducible assumption); simp only [ee]; simp; done)
       | (have ee := wG (h := h) (x1 := x1) (x2 := x2) (x3 := x3) (x4 := x4) (by with_reducible assumption); simp only [ee]; simp; done)
       | skip)
   | skip
end
open Classical in
noncomputable def GZ (h : Hs) (nm : ByteArray) (m : Ml) (cut : Int) : List Int × List Ml := (if CJ h.spool then Eu h.conf nm m cut else Eu h.conf nm m 0)
theorem sN {h : Hs} {nm : ByteArray} {m : Ml} {cut : Int} (h0 : CJ h.spool) : GZ h nm m cut = Eu h.conf nm m cut := by unfold GZ; rw [if_pos h0]
theorem sO {h : Hs} {nm : ByteArray} {m : Ml} {cut : Int} (h0 : ¬ (CJ h.spool)) : GZ h nm m cut = Eu h.conf nm m 0 := by unfold GZ; rw [if_neg h0]
def ml : Ct := Aq (lc FX.ag (lc Aw (lc Zw.ag (lc BA l0)))) (fun p => p.1.conf.name.size ≤ 1000 ∧ p.2.1.size ≤ 1000 ∧ N8 p.2.2.1 ∧ 0 ≤ p.2.2.2.1 ∧ p.2.2.2.1 ≤ 1000) (fun p => .tup [.t (.sl 1 ((GZ p.1 p.2.1 p.2.2.1 p.2.2.2.1).1.map A9)), .t (.sl 4 ((GZ p.1 p.2.1 p.2.2.1 p.2.2.2.1).2.map DN))])
section
attribute [local go_sem] KV V0 AS.opn AS.cls AS.nilb AS.renb AS.up Bool.not_false Bool.not_true List.set_set List.set_cons_zero List.set_cons_succ List.set_nil List.mem_singleton forall_eq tn List.map_nil List.nil_append
set_option maxHeartbeats 1600000 in
theorem eV {G : Gt} (hG : Ai G) (hh : G.e 147 = AA 0 KV ∧ G.e 224 = AA 1 V0) : Gd G 227 (AA 1 ml) := by
 refine gr (fn := Tryz.f227) (n := 4) rfl hG ?_
 rintro ⟨h, nm, m, cut, ⟨⟩⟩ hpre
 obtain ⟨hn, Se, hm, hc0, hc1⟩ := hpre
 try dsimp only at hn Se hm hc0 hc1 ⊢
 refine BP (CJ h.spool) (fun h0 => have h0' := Ap h0; have e_ : GZ h nm m cut = _ := sN h0; ?_) (fun h0 => have h0' := AN h0; have e_ : GZ h nm m cut = _ := sO h0; ?_)
 all_goals
  try rw [e_]
  simp -implicitDefEqProofs only [Tryz.f227, h0', eq_self, decide_true, decide_false, Int.reduceEq, go_sem, hh, seval]
  with_reducible repeat' (first | apply ai | intro _ | ((first | apply s1 | apply s3 | apply s4) <;> intro hb <;> simp -implicitDefEqProofs only [hb, go_sem, hh, seval] <;> try simp only [qz] at hb))
  all_goals (try simp only [maxLen, tn, lm] at *)
  all_goals first | rfl | omega | decide | with_reducible assumption | (show AY _ = true; rfl) | exact Hf (by assumption) | contradiction | skip
end
theorem Mc {α β : Type} [Inhabited α] (f : α → β) {xs : List α} {i : Nat} (h : i < xs.length) : (xs.take (i + 1)).map f = (xs.take i).map f ++ [f (xs.getD i default)] := by
 rw [List.take_add_one, List.getElem?_eq_getElem h, List.map_append]; simp [h]
def Vr : Ct := Aq (lc iZ.ag l0) (fun p => aH p.1) (fun p => .agg [.o false 7 ((p.1).hosts.map Ak), .t (.v (.int .i64 (p.1).now)), .t (.v (.int .i64 (p.1).marks)), .o true 3 ((p.1).given.map Ax)])
section
attribute [local go_sem] sr lm List.length_append List.map_append AZ AS.opn AS.cls AS.nilb AS.renb AS.up Bool.not_false Bool.not_true List.set_set List.set_cons_zero List.set_cons_succ List.set_nil List.mem_singleton forall_eq tn List.map_nil List.nil_append
set_option maxHeartbeats 6400000 in
theorem di {G : Gt} (hG : Ai G) (hh : G.e 33 = AA 0 sr) : Gd G 158 (AA 1 Vr) := by
 refine Lr (dp := fun n => !(Nat.beq n 100002 || Nat.beq n 100004 || Nat.beq n 29 || Nat.beq n 30)) (fn := Tryz.f158) (n := 1) rfl hG ?_
 rintro ⟨w, ⟨⟩⟩ hpre
 have hw : aH w := hpre
 have hl1 := hw.1.1
 have hl2 := hw.2.1
 simp -implicitDefEqProofs only [Tryz.f158, go_sem, hh, seval]
 with_reducible repeat' (first | apply ai | intro _ | ((first | apply s1 | apply s3 | apply s4) <;> intro hb <;> simp -implicitDefEqProofs only [hb, go_sem, hh, seval] <;> try simp only [qz] at hb))
 all_goals (try simp only [maxLen, tn] at *)
 all_goals first | with_reducible rfl | omega | with_reducible assumption | (show _ = true; rfl) | skip
 refine AU (Le.nilb 1003 0 1901 false 7 rfl rfl rfl) (AR ?_)
 simp -implicitDefEqProofs only [go_sem, hh, seval]
 with_reducible repeat' (first | apply ai | intro _ | ((first | apply s1 | apply s3 | apply s4) <;> intro hb <;> simp -implicitDefEqProofs only [hb, go_sem, hh, seval] <;> try simp only [qz] at hb))
 all_goals (try simp only [maxLen, tn] at *)
 all_goals first | with_reducible rfl | omega | with_reducible assumption | (show _ = true; rfl) | skip
 refine AF [] (ι := {i : Nat // i ≤ w.hosts.length}) (fun p => ⟨[(1, .pb 1001 0), (2, .pb 1002 0), (3, .pb 1003 0), (4, .t (.v (.int .i64 p.1)))], [(1001, some (.box ((Il w).map .t))), (1002, some (.box [.nil, .t (.v (.int .i64 0)), .t (.v (.int .i64 0)), .nil])), (1003, some (.box [.h 1901, .t (.v (.int .i64 w.now)), .t (.v (.int .i64 w.marks)), .h 1012])), (1901, some (.arr false 7 ((w.hosts.take p.1).map Ak))), (1012, some (.arr true 3 (w.given.map Ax)))]⟩) (fun p => w.hosts.length - p.1) ⟨0, Nat.zero_le _⟩ rfl ?_ ?_
 ·simp -implicitDefEqProofs only [go_sem, hh, seval]
  try simp
 ·rintro ⟨i, hi⟩
  dsimp only at hi ⊢
  have hlen : (w.hosts.take i).length = i := by rw [List.length_take]; omega
  by_cases hlt : (i : Int) < w.hosts.length
  ·have hz := hw.1.at (i := i) (by omega)
   simp -implicitDefEqProofs only [hlt, decide_true, go_sem, hh, seval]
   with_reducible repeat' (first | apply ai | intro _ | ((first | apply s1 | apply s3 | apply s4) <;> intro hb <;> simp -implicitDefEqProofs only [hb, go_sem, hh, seval] <;> try simp only [qz] at hb))
   all_goals (try simp only [maxLen, tn] at *)
   all_goals first | with_reducible rfl | omega | with_reducible assumption | (show _ = true; rfl) | skip
   refine AU (Le.renb 1003 0 1030 1901 rfl rfl rfl rfl) (AR ?_)
   simp -implicitDefEqProofs only [go_sem, hh, seval]
   with_reducible repeat' (first | apply ai | intro _ | ((first | apply s1 | apply s3 | apply s4) <;> intro hb <;> simp -implicitDefEqProofs only [hb, go_sem, hh, seval] <;> try simp only [qz] at hb))
   all_goals first | with_reducible rfl | omega | skip
   refine ⟨⟨i + 1, by omega⟩, by dsimp only; omega, ?_⟩
   simp -implicitDefEqProofs only [go_sem, hh, seval]
   simp only [Mc Ak (show i < w.hosts.length by omega)]
   with_reducible repeat' (first | apply ai | intro _ | ((first | apply s1 | apply s3 | apply s4) <;> intro hb <;> simp -implicitDefEqProofs only [hb, go_sem, hh, seval] <;> try simp only [qz] at hb))
   all_goals first | rfl | (simp; done) | skip
  ·have htk : w.hosts.take i = w.hosts := List.take_of_length_le (by omega)
   simp -implicitDefEqProofs only [hlt, htk, decide_false, go_sem, hh, seval]
   with_reducible repeat' (first | apply ai | intro _ | ((first | apply s1 | apply s3 | apply s4) <;> intro hb <;> simp -implicitDefEqProofs only [hb, go_sem, hh, seval] <;> try simp only [qz] at hb))
   all_goals (try simp only [maxLen] at *)
   all_goals first | with_reducible rfl | omega | with_reducible assumption | (show _ = true; rfl) | decide | skip
end
theorem OS {s : Sp} (h : Bk s) {n : Int} {a : Ad} : CQ s n a ↔ ∃ x ∈ s.items, x.id = n ∧ ∃ r ∈ x.to, r.addr = a :=
 ⟨HM, fun ⟨x, hx, e, r, hr, e2⟩ => by rw [← e, ← e2]; exact (Ez h hx hr).1⟩
theorem aQ {s : Sp} {m : Ml} {w n : Int} {a : Ad} (h : Bk (Ll s m w)) (q : CQ s n a) : CQ (Ll s m w) n a := by
 obtain ⟨x, hx, e⟩ := HM q
 exact (OS h).2 ⟨x, List.mem_append_left _ hx, e⟩
theorem K4 {α : Type} [Inhabited α] {xs : List α} {i : Nat} {x y : α} (hx : x ∈ xs) (hi : i < xs.length) : x ∈ xs.set i y ∨ x = xs.getD i default := by
 obtain ⟨j, hj, rfl⟩ := List.getElem_of_mem hx
 by_cases e : i = j
 ·subst e; exact .inr (by simp [hj])
 ·exact .inl (by rw [List.mem_iff_getElem]; exact ⟨j, by simpa using hj, by rw [List.getElem_set_ne e]⟩)
theorem He {α : Type} {xs : List α} {i : Nat} {y : α} (hi : i < xs.length) : y ∈ xs.set i y := List.mem_set hi y
theorem aR {s : Sp} {i k : Nat} {w n : Int} {a : Ad} (h : Bk (PH s i k w)) (hi : i < s.items.length) (hk : k < (s.items.getD i default).to.length) (q : CQ s n a) : CQ (PH s i k w) n a := by
 obtain ⟨x, hx, e, r, hr, e2⟩ := HM q
 refine (OS h).2 ?_
 show ∃ y ∈ s.items.set i (Q9 (s.items.getD i default) k w), y.id = n ∧ ∃ r ∈ y.to, r.addr = a
 rcases K4 (y := Q9 (s.items.getD i default) k w) hx hi with hm | rfl
 ·exact ⟨x, hm, e, r, hr, e2⟩
 ·refine ⟨_, He hi, e, ?_⟩
  show ∃ r ∈ (s.items.getD i default).to.set k (UP ((s.items.getD i default).to.getD k default) w), r.addr = a
  rcases K4 (y := UP ((s.items.getD i default).to.getD k default) w) hr hk with hm | rfl
  ·exact ⟨r, hm, e2⟩
  ·exact ⟨_, He hk, e2⟩
theorem J7 {s : Sp} (h : Bk s) {n : Int} {a : Ad} (q : CQ s n a) : Bb a ∧ Dm (Aa s n) ∧ (At s n).toNat < s.items.length ∧ (BR (Aa s n) a).toNat < (s.items.getD (At s n).toNat default).to.length := by
 have i1 := Bf q.1
 have k1 := ED q.2
 have hx : Dm (Aa s n) := (h.1 _ (AE (xs := s.items) (j := (At s n).toNat) (by omega))).1
 have hr := (hx.1 _ (AE (xs := (Aa s n).to) (j := (BR (Aa s n) a).toNat) (by omega))).1
 rw [Ec q.2] at hr
 exact ⟨hr, hx, by omega, by show _ < (Aa s n).to.length; omega⟩
theorem Hk {h : Hs} {n : Int} {a : Ad} {out w : Int} (hs : Bk h.spool) (q : CQ h.spool n a) (hw : 0 ≤ w ∧ w ≤ 9999) : Bk (Ch h (At h.spool n).toNat (BR (Aa h.spool n) a).toNat a out w).spool ∧
    ∀ n' a', CQ h.spool n' a' → ¬ (n = n' ∧ a = a') → CQ (Ch h (At h.spool n).toNat (BR (Aa h.spool n) a).toNat a out w).spool n' a' := by
 obtain ⟨ha, hx, hi, hk⟩ := J7 hs q
 have hd := Eh hs hi hk
 have td : ∀ n' a', CQ h.spool n' a' → ¬ (n = n' ∧ a = a') → CQ (Cj h.spool (At h.spool n).toNat (BR (Aa h.spool n) a).toNat) n' a' := fun n' a' q' ne => Rw hs q q' ne
 unfold Ch
 split
 ·exact ⟨hd, td⟩
 ·split
  ·rename_i hl
   have hl2 := MR hs hi hk hl.2 hw.1
   exact ⟨hl2, fun n' a' q' _ => aR hl2 hi hk q'⟩
  ·by_cases z : Ab (h.spool.items.getD (At h.spool n).toNat default).frm ∨ ¬ CJ (Cj h.spool (At h.spool n).toNat (BR (Aa h.spool n) a).toNat)
   ·rw [XS z]; exact ⟨hd, td⟩
   ·rw [XR z]
    have hrm : CJ (Cj h.spool (At h.spool n).toNat (BR (Aa h.spool n) a).toNat) := Classical.byContradiction fun y => z (.inr y)
    have ha2 := H9 hd (To hx ha fun y => z (.inl y)) hw hrm
    exact ⟨ha2, fun n' a' q' ne => aQ ha2 (td n' a' q' ne)⟩
theorem FL (h : Hs) (i k : Nat) (a : Ad) (out w : Int) : (Ch h i k a out w).conf = h.conf ∧ (Ch h i k a out w).boxes = h.boxes ∧ ((Ch h i k a out w).lost = h.lost ∨ (Ch h i k a out w).lost = h.lost ++ [⟨CA (h.spool.items.getD i default).body, a⟩]) := by
 unfold Ch G4
 repeat' split
 all_goals first | exact ⟨rfl, rfl, .inl rfl⟩ | exact ⟨rfl, rfl, .inr rfl⟩
theorem Ya {h : Hs} {n : Int} {a : Ad} {out w : Int} (q : DI h) (t : CQ h.spool n a) (hw : 0 ≤ w ∧ w ≤ 9999) : DI (Ch h (At h.spool n).toNat (BR (Aa h.spool n) a).toNat a out w) := by
 obtain ⟨r1, r2, _⟩ := FL h (At h.spool n).toNat (BR (Aa h.spool n) a).toNat a out w
 refine ⟨fun j hj => ?_, by rw [r1]; exact q.2.1, (Hk q.2.2 t hw).1⟩
 have := q.1 j (by rw [r2] at hj; exact hj)
 unfold U8 at this ⊢
 rw [r1, r2]
 exact this
theorem iN {h : Hs} {m : Ml} {w : Int} (q : DI h) (hm : DJ m) (hl : m.body.length < 12) (hw : 0 ≤ w ∧ w ≤ 9999) (hr : CJ h.spool) : DI (Ps h m w) := ⟨q.1, q.2.1, H9 q.2.2 (qn q.2.1.2.2.1 hm hl) hw hr⟩
def Fc (h : Hs) : Prop := (∀ b ∈ h.boxes, kM b ∧ b.addr.domain ∈ h.conf.own) ∧ J4 h.boxes ∧ Jw h.conf ∧ Bk h.spool
theorem Db {h : Hs} : DI h ↔ Fc h := by
 constructor
 ·intro q
  refine ⟨fun b hb => ?_, Oa fun j h0 hj => (q.1 j hj).2.1 h0, q.2.1, q.2.2⟩
  obtain ⟨j, hj, rfl⟩ := List.getElem_of_mem hb
  have := q.1 j hj
  unfold U8 at this
  have e : h.boxes.getD j default = h.boxes[j] := by simp [hj]
  rw [e] at this
  exact ⟨this.1, this.2.2⟩
 ·intro q
  refine ⟨fun j hj => ⟨(q.1 _ (AE hj)).1, fun h0 => ?_, (q.1 _ (AE hj)).2⟩, q.2.2.1, q.2.2.2⟩
  have := List.pairwise_iff_getElem.1 q.2.1 (j - 1) j (by omega) hj (by omega)
  rw [← IE]
  simpa [hj, show j - 1 < h.boxes.length by omega] using this
theorem Tp {bs : List Bx} {a : Ad} {g : Gm} {b : Bx} (h : b ∈ Dq bs a g) : b ∈ bs ∨ (∃ b0 ∈ bs, b = ⟨b0.addr, b0.mails ++ [g]⟩) ∨ b = ⟨a, [g]⟩ := by
 cases hf : Dv bs a
 ·rw [EF hf] at h
  rcases List.mem_append.1 h with h | h
  ·exact .inl (List.mem_of_mem_take h)
  ·rcases List.mem_cons.1 h with h | h
   ·exact .inr (.inr h)
   ·exact .inl (List.mem_of_mem_drop h)
 ·rw [FF hf] at h
  rcases List.mem_or_eq_of_mem_set h with h | h
  ·exact .inl h
  ·exact .inr (.inl ⟨_, AE (HZ hf), h⟩)
def EX (N : Nat) (h : Hs) : Prop := h.boxes.length ≤ N ∧ (∀ b ∈ h.boxes, b.mails.length ≤ N) ∧ h.lost.length ≤ N ∧ ∀ l ∈ h.lost, TT l
theorem CB {N M : Nat} {h : Hs} (q : EX N h) (l : N ≤ M) : EX M h := ⟨Nat.le_trans q.1 l, fun b hb => Nat.le_trans (q.2.1 b hb) l, Nat.le_trans q.2.2.1 l, q.2.2.2⟩
theorem Rm {c : Cf} (h : Jw c) : J1 c := by
 obtain ⟨h1, h2, h3, h4, h5⟩ := h
 have d : ∀ {s : ByteArray}, DG s → Bn s := fun {s} q => by have := (C9 q).2; show s.size ≤ 1048576; omega
 exact ⟨d h3, ⟨by omega, fun s hs => d (h1 s hs)⟩, ⟨by omega, fun w hw => ⟨d (h2 w hw).1, d (h2 w hw).2⟩⟩⟩
theorem DS {N : Nat} {h : Hs} (q : Fc h) (n : EX N h) (hN : N ≤ 1048576) : EM h := by
 obtain ⟨n1, n2, n3, n4⟩ := n
 refine ⟨Rm q.2.2.1, HL q.2.2.2, ⟨by omega, fun b hb => ?_⟩, ⟨by omega, n4⟩⟩
 have hbo := (q.1 b hb).1
 have := n2 b hb
 exact ⟨CW (.inl hbo.2), ⟨by omega, fun g hg => ⟨CW (hbo.1 g hg).1, HH (hbo.1 g hg).2⟩⟩⟩
theorem fS {g : Hs} {x : Im} {a : Ad} {c : Cf} {R : List (Int × Ad)} (q : Fc g) (k : Kp c g ((x.id, a) :: R)) (hx : Dm x) (ha : Bb a) (hd : a.domain ∈ g.conf.own) : Fc (Ce g x a) := by
 have hk := k.step
 refine ⟨fun b hb => ?_, KS q.2.1, q.2.2.1, hk.sp⟩
 have hg : (Bb x.frm ∨ Ab x.frm) ∧ DZ x.body := ⟨hx.2.2.2.1, hx.2.2.2.2.2⟩
 rcases Tp hb with h | ⟨b0, h0, rfl⟩ | rfl
 ·exact q.1 b h
 ·refine ⟨⟨fun y hy => ?_, (q.1 b0 h0).1.2⟩, (q.1 b0 h0).2⟩
  rcases List.mem_append.1 hy with hy | hy
  ·exact (q.1 b0 h0).1.1 y hy
  ·rw [List.mem_singleton] at hy; subst hy; exact hg
 ·exact ⟨⟨fun y hy => by rw [List.mem_singleton] at hy; subst hy; exact hg, ha⟩, hd⟩
theorem fT {N : Nat} {g : Hs} {x : Im} {a : Ad} (n : EX N g) : EX (N + 1) (Ce g x a) := ⟨Nat.le_trans (MC _ _ _) (Nat.succ_le_succ n.1), Ij n.2.1, Nat.le_succ_of_le n.2.2.1, n.2.2.2⟩
theorem Sm {x : Im} {c : Cf} (hx : Dm x) : ∀ (ads : List Ad) {g : Hs} {N : Nat} {R : List (Int × Ad)}, Fc g → EX N g → Kp c g ((ads.map fun a => (x.id, a)) ++ R) → (∀ a ∈ ads, Bb a ∧ a.domain ∈ c.own) → Fc (Dy x ads g) ∧ EX (N + ads.length) (Dy x ads g) ∧ Kp c (Dy x ads g) R
 | [], g, N, R, q, n, k, _ => ⟨q, n, k⟩
 | a :: r, g, N, R, q, n, k, h => by
   have ha := h a (List.mem_cons_self ..)
   have z := Sm hx r (fS q k hx ha.1 (by rw [k.cf]; exact ha.2)) (fT (x := x) (a := a) n) (k.step (x := x) (a := a)) fun b hb => h b (List.mem_cons_of_mem _ hb)
   refine ⟨z.1, ?_, z.2.2⟩
   have e : N + (a :: r).length = N + 1 + r.length := by rw [List.length_cons]; omega
   rw [e]; exact z.2.1
theorem Sj {c : Cf} {w : Int} : ∀ (xs : List Im) {g : Hs} {N : Nat}, Fc g → EX N g → Kp c g (D8 c w xs) → (∀ x ∈ xs, Dm x) → Fc (BW c w xs g) ∧ EX (N + xs.length * 4) (BW c w xs g)
 | [], g, N, q, n, _, _ => ⟨q, by show EX (N + 0 * 4) g; rw [Nat.zero_mul]; exact n⟩
 | x :: t, g, N, q, n, k, h => by
   have hx := h x (List.mem_cons_self ..)
   have z := Sm (c := c) hx (Aj c ⟨#[]⟩ w x.to) (R := D8 c w t) q n k fun a ha => by
    obtain ⟨r, hr, e, nr⟩ := Es c ⟨#[]⟩ w x.to a ha
    rw [← e]
    refine ⟨(hx.1 r hr).1, ?_⟩
    rcases nr.2 with y | y
    ·exact y.1
    ·exact absurd rfl y.2.1
   have z2 := Sj t z.1 z.2.1 z.2.2 fun y hy => h y (List.mem_cons_of_mem _ hy)
   have hl := Er c ⟨#[]⟩ w x.to
   have h4 := hx.2.2.2.2.1.2
   exact ⟨z2.1, CB z2.2 (by rw [List.length_cons]; omega)⟩
theorem Xq {h : Hs} {w : Int} {N : Nat} (q : Fc h) (n : EX N h) (hN : N ≤ 1048576) : Fc (BW h.conf w h.spool.items h) ∧ EX (N + 40) (BW h.conf w h.spool.items h) := by
 have k := HJ (w := w) (Db.2 q) (DS q n hN)
 have z := Sj h.spool.items q n k fun x hx => (q.2.2.2.1 x hx).1
 have hl := q.2.2.2.2.2.2
 exact ⟨z.1, CB z.2 (by omega)⟩
theorem X8 {b : List ByteArray} (h : DZ b) : Bn (CA b) := by
 rcases Fy b with e | e
 ·rw [e]; show (⟨#[]⟩ : ByteArray).size ≤ 1048576; decide
 ·exact (HH h).2 _ e
theorem Jo {h : Hs} {n : Int} {a : Ad} {out w : Int} {N : Nat} (q : Fc h) (hn : EX N h) (t : CQ h.spool n a) (hw : 0 ≤ w ∧ w ≤ 9999) : Fc (Ch h (At h.spool n).toNat (BR (Aa h.spool n) a).toNat a out w) ∧ EX (N + 1) (Ch h (At h.spool n).toNat (BR (Aa h.spool n) a).toNat a out w) := by
 refine ⟨Db.1 (Ya (Db.2 q) t hw), ?_⟩
 obtain ⟨r1, r2, r3⟩ := FL h (At h.spool n).toNat (BR (Aa h.spool n) a).toNat a out w
 obtain ⟨t1, t2, _⟩ := J7 q.2.2.2 t
 unfold EX
 rw [r2]
 refine ⟨Nat.le_succ_of_le hn.1, fun b hb => Nat.le_succ_of_le (hn.2.1 b hb), ?_⟩
 rcases r3 with e | e
 ·rw [e]; exact ⟨Nat.le_succ_of_le hn.2.2.1, hn.2.2.2⟩
 ·rw [e]
  refine ⟨by rw [List.length_append]; exact Nat.succ_le_succ hn.2.2.1, fun l hl => ?_⟩
  rcases List.mem_append.1 hl with hl | hl
  ·exact hn.2.2.2 l hl
  ·rw [List.mem_singleton] at hl; subst hl
   exact ⟨X8 t2.2.2.2.2.2, CW (.inl t1)⟩
theorem ZD {h : Hs} {m : Ml} {w : Int} {N : Nat} (q : Fc h) (n : EX N h) (hm : DJ m) (hl : m.body.length < 12) (hw : 0 ≤ w ∧ w ≤ 9999) (hr : CJ h.spool) : Fc (Ps h m w) ∧ EX N (Ps h m w) := ⟨Db.1 (iN (Db.2 q) hm hl hw hr), n⟩
def mm : Ct := Aq (lc iZ.ag (lc Aw l0)) (fun p => True) (fun p => .t (.v (.int .i64 (BB (fun h : Hs => h.conf.name = p.2.1) 0 p.1.hosts))))
section
attribute [local go_sem] lm
theorem eW {G : Gt} (hG : Ai G) : Gd G 228 (AA 0 mm) := by
 refine gr (fn := Tryz.f228) (n := 2) rfl hG ?_
 rintro ⟨w, a, ⟨⟩⟩ hpre
 simp -implicitDefEqProofs only [Tryz.f228, go_sem, seval] at hpre ⊢
 refine AF [] (ι := {i : Nat // i ≤ w.hosts.length ∧ BB (fun h : Hs => h.conf.name = a) 0 w.hosts = BB (fun h : Hs => h.conf.name = a) i (w.hosts.drop i)}) (fun p => ⟨[(1, .t (.v (.string a))), (2, .pb 1002 0), (5, .t (.v (.int .i64 p.1)))], [(1002, some (.box ((Il w).map .t)))]⟩) (fun p => w.hosts.length - p.1) ⟨0, by simp, rfl⟩ rfl ?_ ?_
 ·simp -implicitDefEqProofs only [go_sem, seval]
  try simp
 ·rintro ⟨i, hi, hix⟩
  by_cases hlt : (i : Int) < w.hosts.length
  ·simp -implicitDefEqProofs only [hlt, decide_true, tn, go_sem, seval]
   with_reducible repeat' (first | apply ai | intro _ | ((first | apply s1 | apply s3 | apply s4) <;> intro hb <;> simp -implicitDefEqProofs only [hb, go_sem, seval] <;> try simp only [qz] at hb))
   all_goals (try simp only [maxLen, tn] at *)
   all_goals first | rfl | omega | skip
   ·rw [hix, Cv (p := fun h : Hs => h.conf.name = a) (by omega) hb]
   ·refine ⟨⟨i + 1, by omega, by rw [hix, Dx (p := fun h : Hs => h.conf.name = a) (by omega) hb]⟩, by dsimp only; omega, ?_⟩
    simp -implicitDefEqProofs only [go_sem, seval]
    try simp
  ·simp -implicitDefEqProofs only [hlt, decide_false, go_sem, seval]
   with_reducible repeat' (first | apply ai | intro _ | ((first | apply s1 | apply s3 | apply s4) <;> intro hb <;> simp -implicitDefEqProofs only [hb, go_sem, seval] <;> try simp only [qz] at hb))
   all_goals first | rfl | omega | skip
   rw [hix, Cu (by omega)]
end
def Ho (a : Wd) : AV := .agg [.o false 7 (a.hosts.map Ak), .t (.v (.int .i64 a.now)), .t (.v (.int .i64 a.marks)), .o true 3 (a.given.map Ax)]
def j0 : AV → Option Wd
 | .agg [x0, .t (.v (.int .i64 x1)), .t (.v (.int .i64 x2)), x3] => G8 x1 x2 (FX.owD false 7 x0) (Fb.owD true 3 x3)
 | _ => none
def sh : AD Wd where
 enc := Ho
 dec := j0
 ed := fun a => by
  show G8 a.now a.marks (FX.owD false 7 ((FX.aow false 7).enc a.hosts)) (Fb.owD true 3 ((Fb.aow true 3).enc a.given)) = _
  rw [show FX.owD false 7 ((FX.aow false 7).enc a.hosts) = some a.hosts from (FX.aow false 7).ed _, show Fb.owD true 3 ((Fb.aow true 3).enc a.given) = some a.given from (Fb.aow true 3).ed _]
  rfl
 de := fun x m h => by
  unfold j0 at h
  split at h
  ·unfold G8 at h
   split at h
   ·rename_i e0 e1
    cases h
    have q0 := (FX.aow false 7).de _ _ e0
    subst q0
    have q1 := (Fb.aow true 3).de _ _ e1
    subst q1
    rfl
   ·cases h
  ·cases h
theorem GA (a : Wd) : sh.enc a = .agg [.o false 7 (a.hosts.map Ak), .t (.v (.int .i64 a.now)), .t (.v (.int .i64 a.marks)), .o true 3 (a.given.map Ax)] := rfl
theorem F9 {x0 : List (List T)} {x1 : Int} {x2 : Int} {x3 : List (List T)} : sh.dec (.agg [.o false 7 x0, .t (.v (.int .i64 x1)), .t (.v (.int .i64 x2)), .o true 3 x3]) = G8 x1 x2 (FX.decL x0) (Fb.decL x3) := rfl
def HN (N : Nat) (w : Wd) : Prop := (∀ h ∈ w.hosts, Fc h ∧ EX N h) ∧ (1 ≤ w.hosts.length ∧ w.hosts.length ≤ 4) ∧ (0 ≤ w.now ∧ w.now ≤ 9999) ∧ (0 ≤ w.marks ∧ w.marks ≤ 60) ∧ w.given.length ≤ N ∧ ∀ l ∈ w.given, TT l
def yH (w : Wd) (c : Cf) (ls : Bool) (r : Rc) : Prop := r.next ≤ w.now ∧ ¬ r.addr.domain ∈ c.own ∧ (ls = true ∨ BB (fun h : Hs => h.conf.name = I9 c r.addr.domain) 0 w.hosts < 0)
noncomputable def IV (h : Hs) (n : Int) (a : Ad) (out w : Int) : Hs := Ch h (At h.spool n).toNat (BR (Aa h.spool n) a).toNat a out w
open Classical in
noncomputable def Sc (w : Wd) (c : Cf) (ls : Bool) (n : Int) : List Rc → Hs × Bool → Hs × Bool
 | [], x => x
 | r :: t, x => if yH w c ls r then Sc w c ls n t (IV x.1 n r.addr 3 w.now, true) else Sc w c ls n t x
theorem uv {w : Wd} {c : Cf} {ls : Bool} {n : Int} {rs : List Rc} {i : Nat} {x : Hs × Bool} (h : i < rs.length) (q : yH w c ls (rs.getD i default)) : Sc w c ls n (rs.drop i) x = Sc w c ls n (rs.drop (i + 1)) (IV x.1 n (rs.getD i default).addr 3 w.now, true) := by rw [AX h, Sc, if_pos q]
theorem uu {w : Wd} {c : Cf} {ls : Bool} {n : Int} {rs : List Rc} {i : Nat} {x : Hs × Bool} (h : i < rs.length) (q : ¬ yH w c ls (rs.getD i default)) : Sc w c ls n (rs.drop i) x = Sc w c ls n (rs.drop (i + 1)) x := by rw [AX h, Sc, if_neg q]
theorem je {w : Wd} {c : Cf} {ls : Bool} {n : Int} {rs : List Rc} {i : Nat} {x : Hs × Bool} (h : rs.length ≤ i) : Sc w c ls n (rs.drop i) x = x := by rw [List.drop_of_length_le h]; rfl
noncomputable abbrev Ar (w : Wd) (k : Int) : Hs := w.hosts.getD k.toNat default
noncomputable abbrev Jl (h : Hs) (n : Int) : Im := h.spool.items.getD (At h.spool n).toNat default
noncomputable def XU (w : Wd) (e : Ev) : Hs × Bool := Sc w (Ar w e.host).conf e.lose e.id (Jl (Ar w e.host) e.id).to (Ar w e.host, false)
def Uh (w : Wd) (k : Int) (h : Hs) : Wd := ⟨w.hosts.set k.toNat h, w.now, w.marks, w.given⟩
open Classical in
noncomputable def Ki (w : Wd) (e : Ev) : Wd × Bool := if 0 ≤ e.host ∧ e.host ≤ (w.hosts.length : Int) - 1 then (if At (Ar w e.host).spool e.id < 0 then (w, false) else (Uh w e.host (XU w e).1, (XU w e).2)) else (w, false)
theorem pJ {w : Wd} {e : Ev} (h : ¬ (0 ≤ e.host ∧ e.host ≤ (w.hosts.length : Int) - 1)) : Ki w e = (w, false) := if_neg h
theorem pK {w : Wd} {e : Ev} (h : 0 ≤ e.host ∧ e.host ≤ (w.hosts.length : Int) - 1) (h2 : At (Ar w e.host).spool e.id < 0) : Ki w e = (w, false) := by unfold Ki; rw [if_pos h, if_pos h2]
theorem pL {w : Wd} {e : Ev} (h : 0 ≤ e.host ∧ e.host ≤ (w.hosts.length : Int) - 1) (h2 : ¬ At (Ar w e.host).spool e.id < 0) : Ki w e = (Uh w e.host (XU w e).1, (XU w e).2) := by unfold Ki; rw [if_pos h, if_neg h2]
theorem vO {xs : List Rc} {i j : Nat} (h : (xs.map Rc.addr).Nodup) (hi : i < j) (hj : j < xs.length) : ¬ (xs.getD i default).addr = (xs.getD j default).addr := by
 have z := List.pairwise_iff_getElem.1 h i j (by rw [lm]; omega) (by rw [lm]; omega) hi
 simpa [hj, show i < xs.length by omega] using z
def md : Mt := GW (lc sh (lc P6.ag l0)) (fun p => HN 1000000 p.1) (fun p => ([.any, P6.ag.enc p.2.1], .tup [Ho (Ki p.1 p.2.1).1, .t (.v (.bool (Ki p.1 p.2.1).2))]))
section
attribute [local go_sem] Lb iv bb Qa mm iw CS GA F9 Ho.eq_1 G8.eq_1 AZ BQ LK lm AS.opn AS.cls AS.nilb AS.renb AS.up Bool.not_false Bool.not_true List.set_set List.set_cons_zero List.set_cons_succ List.set_nil List.mem_singleton forall_eq tn List.map_nil List.nil_append
set_option maxHeartbeats 6400000 in
theorem eJ {G : Gt} (hG : Ai G) (hh : G.e 36 = AA 0 Lb ∧ G.e 34 = AA 0 iv ∧ G.e 87 = AA 0 bb ∧ G.e 171 = AA 0 Qa ∧ G.e 228 = AA 0 mm ∧ G.e 37 = AA 1 iw) : Gd G 208 (AM md) := by
 refine JF (dp := fun _ => true) (fn := Tryz.f208) (n := 2) rfl hG ?_
 rintro ⟨w, e, ⟨⟩⟩ hpre
 have hw : HN 1000000 w := hpre
 try dsimp only
 have hl := hw.2.1
 by_cases h0 : 0 ≤ e.host ∧ e.host ≤ (w.hosts.length : Int) - 1
 ·have h0' := Ap h0
  by_cases h1 : At (Ar w e.host).spool e.id < 0
  ·skip
   rw [pK h0 h1]
   simp -implicitDefEqProofs only [Tryz.f208, h0', h1, eq_self, decide_true, decide_false, go_sem, hh, seval]
   with_reducible repeat' (first | apply ai | intro _ | ((first | apply s1 | apply s3 | apply s4) <;> intro hb <;> simp -implicitDefEqProofs only [hb, go_sem, hh, seval] <;> try simp only [qz] at hb))
   all_goals (try simp only [maxLen, tn, Ae, Ac] at *)
   all_goals first | with_reducible rfl | omega | with_reducible assumption | (show _ = true; rfl) | contradiction | decide | skip
  ·rw [pL h0 h1]
   have hH := hw.1 _ (AE (xs := w.hosts) (j := e.host.toNat) (by omega))
   have i1 : 0 ≤ BB (fun x : Im => x.id = e.id) 0 (Ar w e.host).spool.items ∧ BB (fun x : Im => x.id = e.id) 0 (Ar w e.host).spool.items < (Ar w e.host).spool.items.length := by have := Bf h1; unfold At at this h1; omega
   have hil : (At (Ar w e.host).spool e.id).toNat < (Ar w e.host).spool.items.length := by have := Bf h1; omega
   have hx := (hH.1.2.2.2.1 _ (AE (xs := (Ar w e.host).spool.items) (j := (At (Ar w e.host).spool e.id).toNat) hil)).1
   have hx4 : (Jl (Ar w e.host) e.id).to.length ≤ 4 := hx.2.2.2.2.1.2
   have hw2 := hw.2.2.1
   simp -implicitDefEqProofs only [Tryz.f208, h0', h1, eq_self, decide_true, decide_false, go_sem, hh, seval]
   with_reducible repeat' (first | apply ai | intro _ | ((first | apply s1 | apply s3 | apply s4) <;> intro hb <;> simp -implicitDefEqProofs only [hb, go_sem, hh, seval] <;> try simp only [qz] at hb))
   all_goals (try simp only [maxLen, tn, Ae, Ac] at *)
   all_goals first | with_reducible rfl | omega | exact i1.2 | with_reducible assumption | (show _ = true; rfl) | contradiction | skip
   refine AF [] (ι := {p : Nat × Hs × Bool // p.1 ≤ (Jl (Ar w e.host) e.id).to.length ∧ (Fc p.2.1 ∧ EX (1000000 + p.1) p.2.1 ∧ p.2.1.conf = (Ar w e.host).conf) ∧ (∀ j, p.1 ≤ j → j < (Jl (Ar w e.host) e.id).to.length → CQ p.2.1.spool e.id ((Jl (Ar w e.host) e.id).to.getD j default).addr) ∧ Sc w (Ar w e.host).conf e.lose e.id ((Jl (Ar w e.host) e.id).to.drop p.1) p.2 = XU w e}) (fun p => ⟨[(2, .pb 1002 0), (3, .pb 1003 0), (4, .pb 1004 0), (6, .pb 1006 0), (8, .t (.sl 4 ((Jl (Ar w e.host) e.id).to.map BJ))), (9, .t (.v (.bool p.1.2.2))), (10, .t (.v (.int .i64 p.1.1)))], [(1002, some (.box [.h 1900, .t (.v (.int .i64 w.now)), .t (.v (.int .i64 w.marks)), .h 2900])), (1003, some (.box ((C0 e).map .t))), (1004, some (.box [.nil, .t (.v (.int .i64 0)), .t (.v (.int .i64 0)), .nil])), (1006, some (.box ((Ak p.1.2.1).map .t))), (1900, some (.arr false 7 (w.hosts.map Ak))), (2900, some (.arr true 3 (w.given.map Ax)))]⟩) (fun p => (Jl (Ar w e.host) e.id).to.length - p.1.1) ⟨(0, (Ar w e.host), false), Nat.zero_le _, ⟨hH.1, hH.2, rfl⟩, fun j _ hj => ?_, rfl⟩ rfl ?_ ?_
   ·have e1 := FB h1
    have z := (Ez hH.1.2.2.2 (x := Jl (Ar w e.host) e.id) (AE hil) (AE hj)).1
    have e2 : (Jl (Ar w e.host) e.id).id = e.id := e1
    rw [e2] at z
    exact z
   ·simp -implicitDefEqProofs only [go_sem, hh, seval]
    first | (simp; done) | ((repeat' (first | with_reducible apply And.intro | rfl)); done)
   ·rintro ⟨⟨k, x, dn⟩, hk, ⟨hxK, hxN, hxc⟩, htd, hv⟩
    dsimp only at hk hxK hxN hxc htd hv
    have hok := DS hxK hxN (by omega)
    have hsp := hxK.2.2.2
    have hxe : (⟨(Ar w e.host).conf, x.spool, x.boxes, x.lost⟩ : Hs) = x := by rw [← hxc]
    simp -implicitDefEqProofs only [hxc, go_sem, hh, seval]
    with_reducible repeat' (first | apply ai | intro _ | ((first | apply s1 | apply s3 | apply s4) <;> intro hb <;> simp -implicitDefEqProofs only [hb, go_sem, hh, seval] <;> try simp only [qz] at hb))
    all_goals (try simp only [maxLen, tn, Ae, Ac] at *)
    all_goals first
     | with_reducible rfl
     | omega
     | with_reducible assumption
     | (show _ = true; rfl)
     | exact hok.2.1
     | exact (htd k (Nat.le_refl _) (by omega)).1
     | exact (htd k (Nat.le_refl _) (by omega)).2
     | exact .inr ⟨hxc ▸ hok, hw2⟩
     | (rw [je (by omega)] at hv; rw [← hv, ← hxc]; first | done | rfl)
     | (rw [je (by omega)] at hv; rw [← hv]; first | done | rfl)
     | (show _ = T.v _; rfl)
     | (show _ = List.map Ax _; rfl)
     | (show List.Nodup _; decide)
     | (have hkl : k < (Jl (Ar w e.host) e.id).to.length := by omega
        have ht := htd k (Nat.le_refl _) hkl
        have z := Jo (out := 3) hxK hxN ht hw2
        refine ⟨⟨(k + 1, IV x e.id ((Jl (Ar w e.host) e.id).to.getD k default).addr 3 w.now, true), by dsimp only; omega, ⟨z.1, z.2, (FL _ _ _ _ _ _).1.trans hxc⟩, fun j hj hj2 => (Hk hsp ht hw2).2 _ _ (htd j (by dsimp only at hj; omega) hj2) (fun y => vO hx.2.1 (by dsimp only at hj; omega) hj2 y.2), (uv hkl ⟨by first | omega | with_reducible assumption, by with_reducible assumption, by first | exact .inl (by with_reducible assumption) | exact .inr (by with_reducible assumption)⟩).symm.trans hv⟩, by dsimp only; omega, ?_⟩
        simp -implicitDefEqProofs only [go_sem, hh, seval]
        first | (simp only [hxe, IV]; simp; done) | skip)
     | (have hkl : k < (Jl (Ar w e.host) e.id).to.length := by omega
        refine ⟨⟨(k + 1, x, dn), by dsimp only; omega, ⟨hxK, CB hxN (by omega), hxc⟩, fun j hj hj2 => htd j (by dsimp only at hj; omega) hj2, (uu hkl (fun q => by first | exact absurd q.1 (by with_reducible assumption) | (have := q.1; omega) | exact q.2.1 (by with_reducible assumption) | (rcases q.2.2 with y | y <;> first | (simp_all; done) | omega))).symm.trans hv⟩, by dsimp only; omega, ?_⟩
        simp -implicitDefEqProofs only [go_sem, hh, seval]
        first | (simp; done) | (simp [hxe, hxc]; done) | skip)
     | skip
 ·have h0' := AN h0
  rw [pJ h0]
  simp -implicitDefEqProofs only [Tryz.f208, h0', eq_self, decide_true, decide_false, go_sem, hh, seval]
  with_reducible repeat' (first | apply ai | intro _ | ((first | apply s1 | apply s3 | apply s4) <;> intro hb <;> simp -implicitDefEqProofs only [hb, go_sem, hh, seval] <;> try simp only [qz] at hb))
  all_goals (try simp only [maxLen, tn, Ae, Ac] at *)
  all_goals first | with_reducible rfl | omega | with_reducible assumption | (show _ = true; rfl) | contradiction | decide | skip
end
instance wt (c : Cf) : Decidable (Jw c) := by unfold Jw; infer_instance
theorem SO (k : Int) : (∀ c ∈ FG k, Jw c) ∧ ((FG k).map Cf.name).Nodup := by
 unfold FG
 split
 ·exact ⟨by decide +kernel, by decide +kernel⟩
 ·split
  ·exact ⟨by decide +kernel, by decide +kernel⟩
  ·split
   ·exact ⟨by decide +kernel, by decide +kernel⟩
   ·exact ⟨by decide +kernel, by decide +kernel⟩
theorem S6 {c : Cf} (h : Jw c) : Fc (EH c) ∧ EX 0 (EH c) := ⟨⟨fun _ q => (by cases q), List.Pairwise.nil, h, VJ⟩, Nat.le_refl _, fun _ q => (by cases q), Nat.le_refl _, fun _ q => by cases q⟩
theorem be (k : Int) : kq (FV (FG k)) := by
 obtain ⟨h1, h2⟩ := SO k
 obtain ⟨_, h3, h4⟩ := NA k
 have hl : (FV (FG k)).hosts.length = (FG k).length := lm _
 refine ⟨fun h hh => ?_, ?_, fun _ q => (by cases q), ⟨by omega, by omega⟩, ⟨Int.le_refl _, by show (0 : Int) ≤ 9999; decide⟩, ⟨Int.le_refl _, by show (0 : Int) ≤ 60; decide⟩⟩
 ·obtain ⟨c, hc, rfl⟩ := List.mem_map.1 hh
  exact Db.2 (S6 (h1 c hc)).1
 ·show (((FG k).map EH).map Se).Nodup
  rw [List.map_map]
  exact h2
def QA (s : Ss) : Prop := (∀ a ∈ s.mail.to, Bb a) ∧ s.mail.to.Nodup ∧ (Bb s.mail.frm ∨ Ab s.mail.frm) ∧ s.mail.to.length ≤ 4 ∧ (s.state = 3 ∨ s.state = 4 → 1 ≤ s.mail.to.length)
theorem L3 {s : Ss} (h : ¬ (s.state = 3 ∨ s.state = 4)) : QA (Fn s) := ⟨fun _ q => (by cases q), List.nodup_nil, .inr ⟨rfl, rfl⟩, Nat.zero_le _, fun q => absurd q h⟩
theorem pB {s : Ss} (t : ByteArray) (h : QA s) : QA (Em s t).1 := by
 unfold Em
 split
 ·split
  ·rename_i q
   refine ⟨fun _ z => (by cases z), List.nodup_nil, (Jj q).1, Nat.zero_le _, fun z => absurd (show (2 : Int) = 3 ∨ (2 : Int) = 4 from z) (by decide)⟩
  ·exact h
 ·exact h
theorem wQ {s : Ss} (c : Cf) (t : ByteArray) (h : QA s) : QA (Hw c s t).1 := by
 unfold Hw
 split
 ·split
  ·rename_i q
   split
   ·exact h
   ·rename_i q2
    split
    ·split
     ·exact h
     ·rename_i q3
      split
      ·exact h
      ·rename_i q4
       refine ⟨fun a ha => ?_, ?_, h.2.2.1, ?_, fun _ => ?_⟩
       ·rcases List.mem_append.1 ha with ha | ha
        ·exact h.1 a ha
        ·rw [List.mem_singleton] at ha; subst ha; exact (Jj q).1.resolve_right q2
       ·show (s.mail.to ++ [BH t]).Nodup
        rw [List.nodup_append]
        exact ⟨h.2.1, by simp, fun a ha b hb e => by rw [List.mem_singleton] at hb; subst hb; subst e; exact q3 ha⟩
       ·show (s.mail.to ++ [BH t]).length ≤ 4
        rw [List.length_append]; show s.mail.to.length + 1 ≤ 4; omega
       ·show 1 ≤ (s.mail.to ++ [BH t]).length
        rw [List.length_append]; show 1 ≤ s.mail.to.length + 1; omega
    ·exact h
  ·exact h
 ·exact h
theorem nt {s : Ss} (c : Cf) (l : ByteArray) (h : QA s) : QA (Bg c s l).1 := by
 unfold Bg
 repeat' split
 all_goals first
  | exact h
  | exact pB _ h
  | exact wQ _ _ h
  | exact L3 (by show ¬ ((1 : Int) = 3 ∨ (1 : Int) = 4); decide)
  | exact L3 (by show ¬ ((5 : Int) = 3 ∨ (5 : Int) = 4); decide)
  | exact L3 (by omega)
  | (rename_i q; exact ⟨h.1, h.2.1, h.2.2.1, h.2.2.2.1, fun _ => h.2.2.2.2 (.inl q)⟩)
theorem oI {s : Ss} {l : ByteArray} (h : QA s) : QA (Am s l).1.1 ∧ ((Am s l).1.2 = ⟨#[]⟩ ∨ (Am s l).1.1.state = 1) ∧ ((Am s l).2 = true → DZ (Am s l).1.1.mail.body ∧ (Am s l).1.1.mail.to = s.mail.to) := by
 have one : ∀ b : Bool, QA ⟨1, s.mail, b, s.buf⟩ := fun b => ⟨h.1, h.2.1, h.2.2.1, h.2.2.2.1, fun q => absurd (show (1 : Int) = 3 ∨ (1 : Int) = 4 from q) (by decide)⟩
 unfold Am
 repeat' split
 all_goals first
  | (refine ⟨one _, .inr rfl, fun _ => ⟨?_, rfl⟩⟩; assumption)
  | exact ⟨one _, .inr rfl, fun q => absurd q Bool.false_ne_true⟩
  | exact ⟨h, .inl rfl, fun q => absurd q Bool.false_ne_true⟩
theorem sL {s : Ss} {l : ByteArray} (c : Cf) (h : QA s) : QA (Bs c s l).1.1 ∧ ∀ m ∈ (Bs c s l).2, DJ m := by
 obtain ⟨q1, q2, q3⟩ := oI (l := l) h
 have q := nt c l h
 have e1 : ¬ (Am s l).1.2 = ⟨#[]⟩ → ¬ ((Am s l).1.1.state = 3 ∨ (Am s l).1.1.state = 4) := fun n => by have := q2.resolve_left n; omega
 unfold Bs
 split
 ·exact ⟨h, fun _ z => by cases z⟩
 ·split
  ·rename_i h4
   split
   ·exact ⟨q1, fun _ z => by cases z⟩
   ·rename_i hn
    split
    ·rename_i ht
     refine ⟨L3 (e1 hn), fun m hm => ?_⟩
     rw [List.mem_singleton] at hm; subst hm
     obtain ⟨b1, b2⟩ := q3 ht
     exact ⟨q1.1, q1.2.1, q1.2.2.1, ⟨by rw [b2]; exact h.2.2.2.2 (.inr h4), q1.2.2.2.1⟩, b1⟩
    ·exact ⟨L3 (e1 hn), fun _ z => by cases z⟩
  ·exact ⟨q, fun _ z => by cases z⟩
def kX (x : GB) : Prop := QA x.1 ∧ ∀ m ∈ x.2.2, DJ m
theorem ul {c : Cf} {x : GB} {l : ByteArray} (h : kX x) : kX (ca c x l) := by
 obtain ⟨q1, q2⟩ := sL (l := l) c h.1
 exact ⟨q1, fun m hm => (List.mem_append.1 hm).elim (h.2 m) (q2 m)⟩
theorem jZ {x : GB} (h : kX x) : kX (ZQ x) := ⟨L3 (by show ¬ ((5 : Int) = 3 ∨ (5 : Int) = 4); decide), h.2⟩
theorem jY {c : Cf} : ∀ (L : List ByteArray) {x : GB}, kX x → kX (NL c L x).1
 | [], x, h => h
 | l :: r, x, h => by
   rw [NL]
   split
   ·exact h
   ·split
    ·exact jZ h
    ·exact jY r (ul h)
theorem cc {c : Cf} {s : Ss} {t : ByteArray} (h : QA s) : kX (Bw c s t) := by
 have q := jY (c := c) (OA (s.buf ++ t)) (x := (⟨s.state, s.mail, s.bad, ⟨#[]⟩⟩, [], [])) ⟨h, fun _ z => by cases z⟩
 unfold Bw XH
 split
 ·exact q
 ·split
  ·exact q
  ·split
   ·exact jZ q
   ·exact q
def xC (x : OT) : Prop := QA x.2.1 ∧ ∀ m ∈ x.2.2.1, DJ m
theorem wH {h : Cf} {x : OT} (q : xC x) : xC (ZT h x) := by
 have f := cc (c := h) (t := ZA (Md x)) q.1
 exact ⟨f.1, fun m hm => (List.mem_append.1 hm).elim (q.2 m) (f.2 m)⟩
theorem j6 (h : Cf) (cut : Int) : ∀ (k n : Nat) (x : OT), xC x → ∀ m ∈ (Ld h cut k n x).2, DJ m
 | 0, n, x, q => q.2
 | k + 1, n, x, q => by
   rw [Ld]
   split
   ·split
    ·exact q.2
    ·split
     ·exact q.2
     ·exact j6 h cut k (n + 1) _ (wH q)
   ·exact q.2
theorem Js (h : Cf) (nm : ByteArray) (m : Ml) (cut : Int) : ∀ y ∈ (Eu h nm m cut).2, DJ y :=
 j6 h cut cut.toNat 0 (Uu h nm m) ⟨⟨fun _ z => (by cases z), List.nodup_nil, .inr ⟨rfl, rfl⟩, Nat.zero_le _, fun z => absurd (show (0 : Int) = 3 ∨ (0 : Int) = 4 from z) (by decide)⟩, fun _ z => by cases z⟩
theorem Ut {h : Cf} {nm : ByteArray} {m : Ml} {cut : Int} (hn : nm.size ≤ 1000) (hm : N8 m) : ∀ y ∈ (Eu h nm m cut).2, ia y :=
 (LS h cut cut.toNat 0 (Uu h nm m) (LR h hn hm)).2.2
theorem S8 (c : Cl) : (Dh c).1.mail = c.mail := by unfold Dh; (repeat' split) <;> rfl
theorem cY (c : Cl) (k : Int) : (DU c k).1.mail = c.mail := by unfold DU; (repeat' split) <;> rfl
theorem iO (c : Cl) (k : Int) : (Fa c k).1.mail = c.mail := by
 unfold Fa
 repeat' split
 all_goals exact S8 _
theorem TH (c : Cl) (a : ByteArray) : (A3 c a).1.mail = c.mail := by
 unfold A3
 repeat' split
 all_goals first | rfl | exact iO _ _ | exact cY _ _ | exact S8 _
theorem ZC (h : Cf) (cut : Int) : ∀ (k n : Nat) (x : OT), (Ld h cut k n x).1.mail = x.1.mail
 | 0, n, x => rfl
 | k + 1, n, x => by
   rw [Ld]
   split
   ·split
    ·rfl
    ·split
     ·exact TH _ _
     ·rw [ZC h cut k (n + 1) (ZT h x)]; exact TH _ _
   ·rfl
theorem LQ {h : Cf} {nm : ByteArray} {m : Ml} {cut : Int} (hn : nm.size ≤ 1000) (hm : N8 m) : (Eu h nm m cut).1.length = m.to.length := by
 have q := (LS h cut cut.toNat 0 (Uu h nm m) (LR h hn hm)).1.1
 rw [ZC] at q
 show (List.map _ _).length = _
 rw [lm]
 exact q
theorem aq {a : Ad} (h : Bb a ∨ Ab a) : a.user.size ≤ 1000 ∧ a.domain.size ≤ 1000 := by
 rcases h with h | h
 ·have h1 := (JY h.1).2
  have h2 := (C9 h.2).2
  exact ⟨by omega, by omega⟩
 ·obtain ⟨u, d⟩ := a
  obtain ⟨h1, h2⟩ := h
  dsimp only at h1 h2
  subst h1; subst h2
  exact ⟨Nat.zero_le _, Nat.zero_le _⟩
theorem kh {m : Ml} (h : DJ m) : N8 m := ⟨by have := h.2.2.2.1.2; omega, by have := h.2.2.2.2.2; omega, aq h.2.2.1, fun a ha => aq (.inl (h.1 a ha)), fun l hl => by have := (h.2.2.2.2.1 l hl).2; omega⟩
theorem VG {m : Ml} {s : ByteArray} (h : DJ m) (hs : s.size ≤ 1000) : N8 ⟨m.frm, m.to, s :: m.body⟩ := by
 have q := kh h
 refine ⟨q.1, ?_, q.2.2.1, q.2.2.2.1, fun l hl => ?_⟩
 ·have := h.2.2.2.2.2
  show (s :: m.body).length ≤ 100
  rw [List.length_cons]; omega
 ·rcases List.mem_cons.1 hl with rfl | hl
  ·exact hs
  ·exact q.2.2.2.2 l hl
theorem rc {c : Cf} {x : Im} {to : ByteArray} {w : Int} (h : Dm x) : N8 (Hl c x to w) := by
 have hl := Er c to w x.to
 refine ⟨?_, by have := h.2.2.2.2.2.2; show x.body.length ≤ 100; omega, aq h.2.2.2.1, fun a ha => ?_, fun l hl => by have := (h.2.2.2.2.2.1 l hl).2; omega⟩
 ·have := h.2.2.2.2.1.2
  show (Aj c to w x.to).length ≤ 1000
  omega
 ·obtain ⟨r, hr, e, _⟩ := Es c to w x.to a ha
  rw [← e]
  exact aq (.inl (h.1 r hr).1)
theorem BE {N M : Nat} {w : Wd} (q : HN N w) (l : N ≤ M) : HN M w := ⟨fun h hh => ⟨(q.1 h hh).1, CB (q.1 h hh).2 l⟩, q.2.1, q.2.2.1, q.2.2.2.1, Nat.le_trans q.2.2.2.2.1 l, q.2.2.2.2.2⟩
theorem Nt {N : Nat} {w : Wd} {k : Int} {h : Hs} (q : HN N w) (hk : Fc h) (hn : EX N h) : HN N (Uh w k h) := by
 have e : (w.hosts.set k.toNat h).length = w.hosts.length := List.length_set
 refine ⟨fun x hx => ?_, ⟨by show 1 ≤ (w.hosts.set k.toNat h).length; rw [e]; exact q.2.1.1, by show (w.hosts.set k.toNat h).length ≤ 4; rw [e]; exact q.2.1.2⟩, q.2.2.1, q.2.2.2.1, q.2.2.2.2⟩
 rcases List.mem_or_eq_of_mem_set hx with hx | rfl
 ·exact q.1 x hx
 ·exact ⟨hk, hn⟩
theorem XT {w : Wd} {c : Cf} {ls : Bool} {n : Int} (hw : 0 ≤ w.now ∧ w.now ≤ 9999) : ∀ (rs : List Rc) {x : Hs × Bool} {N : Nat}, Fc x.1 → EX N x.1 → (rs.map Rc.addr).Nodup → (∀ r ∈ rs, CQ x.1.spool n r.addr) → Fc (Sc w c ls n rs x).1 ∧ EX (N + rs.length) (Sc w c ls n rs x).1
 | [], x, N, q, hn, _, _ => ⟨q, hn⟩
 | r :: t, x, N, q, hn, hd, ht => by
   rw [List.map_cons, List.nodup_cons] at hd
   have ht0 := ht r (List.mem_cons_self ..)
   have e : N + (r :: t).length = N + 1 + t.length := by rw [List.length_cons]; omega
   rw [Sc, e]
   split
   ·have z := Jo (out := 3) q hn ht0 hw
    exact XT hw t z.1 z.2 hd.2 fun y hy => (Hk q.2.2.2 ht0 hw).2 _ _ (ht y (List.mem_cons_of_mem _ hy)) fun z => hd.1 (by rw [z.2]; exact List.mem_map_of_mem hy)
   ·exact XT hw t q (CB hn (Nat.le_succ _)) hd.2 fun y hy => ht y (List.mem_cons_of_mem _ hy)
theorem pM {N : Nat} {w : Wd} {e : Ev} (q : HN N w) : HN (N + 4) (Ki w e).1 := by
 unfold Ki
 split
 ·rename_i h0
  split
  ·exact BE q (Nat.le_add_right _ _)
  ·rename_i h1
   have hl := q.2.1
   have hH := q.1 _ (AE (xs := w.hosts) (j := e.host.toNat) (by omega))
   have hil : (At (Ar w e.host).spool e.id).toNat < (Ar w e.host).spool.items.length := by have := Bf h1; omega
   have hx := (hH.1.2.2.2.1 _ (AE (xs := (Ar w e.host).spool.items) (j := (At (Ar w e.host).spool e.id).toNat) hil)).1
   have z := XT (w := w) (c := (Ar w e.host).conf) (ls := e.lose) (n := e.id) q.2.2.1 (Jl (Ar w e.host) e.id).to (x := (Ar w e.host, false)) hH.1 hH.2 hx.2.1 fun r hr => by
    have y := (Ez hH.1.2.2.2 (x := Jl (Ar w e.host) e.id) (AE hil) hr).1
    have e2 : (Jl (Ar w e.host) e.id).id = e.id := FB h1
    rw [e2] at y
    exact y
   exact Nt (BE q (Nat.le_add_right _ _)) z.1 (CB z.2 (by have := hx.2.2.2.2.1.2; show N + (Jl (Ar w e.host) e.id).to.length ≤ N + 4; have h4 : (Jl (Ar w e.host) e.id).to.length ≤ 4 := this; omega))
 ·exact BE q (Nat.le_add_right _ _)
def aA (e : Ev) : Prop := Lj e.mail ∧ 0 ≤ e.cut ∧ e.cut ≤ 1000
def K1 (mk : ByteArray) (ds : List Ad) : List Ls := ds.map fun a => ⟨mk, a⟩
noncomputable def ZS (w : Wd) (k : Int) (mk : ByteArray) (y : Ml) : Wd := ⟨w.hosts.set k.toNat (Ps (Ar w k) y w.now), w.now, w.marks, w.given ++ K1 mk y.to⟩
open Classical in
noncomputable def Un (k : Int) (mk : ByteArray) : List Ml → Wd → Wd
 | [], w => w
 | y :: t, w => if y.body.length < 12 ∧ CJ (Ar w k).spool then Un k mk t (ZS w k mk y) else Un k mk t w
theorem wA {k : Int} {mk : ByteArray} {ys : List Ml} {i : Nat} {w : Wd} (h : i < ys.length) (q : (ys.getD i default).body.length < 12 ∧ CJ (Ar w k).spool) : Un k mk (ys.drop i) w = Un k mk (ys.drop (i + 1)) (ZS w k mk (ys.getD i default)) := by rw [AX h, Un, if_pos q]
theorem vz {k : Int} {mk : ByteArray} {ys : List Ml} {i : Nat} {w : Wd} (h : i < ys.length) (q : ¬ ((ys.getD i default).body.length < 12 ∧ CJ (Ar w k).spool)) : Un k mk (ys.drop i) w = Un k mk (ys.drop (i + 1)) w := by rw [AX h, Un, if_neg q]
theorem vw {k : Int} {mk : ByteArray} {ys : List Ml} {i : Nat} {w : Wd} (h : ys.length ≤ i) : Un k mk (ys.drop i) w = w := by rw [List.drop_of_length_le h]; rfl
def jh (n : Int) : ByteArray := ⟨#[73, 100, 58, 32]⟩ ++ NE n
theorem ji (n : Int) : (jh n).size ≤ 6 := by
 unfold jh
 rw [ByteArray.size_append]
 have := (IK n).2
 show 4 + _ ≤ 6
 omega
def P0 (w : Wd) (e : Ev) : Ml := ⟨e.mail.frm, e.mail.to, jh (w.marks + 1) :: e.mail.body⟩
def wB (w : Wd) (e : Ev) : Prop := (0 ≤ e.host ∧ e.host ≤ (w.hosts.length : Int) - 1) ∧ DJ e.mail ∧ ¬ w.marks ≥ 60 ∧ ¬ (e.mail.body.length : Int) ≥ 10 ∧ CA e.mail.body = ⟨#[]⟩ ∧ CJ (Ar w e.host).spool
noncomputable abbrev Jq (w : Wd) (e : Ev) : List Ml := (Eu (Ar w e.host).conf ⟨#[99, 108, 105, 101, 110, 116]⟩ (P0 w e) e.cut).2
noncomputable def yl (w : Wd) (e : Ev) : Wd := Un e.host (CA (P0 w e).body) (Jq w e) ⟨w.hosts, w.now, w.marks + 1, w.given⟩
open Classical in
noncomputable def Uo (w : Wd) (e : Ev) : Wd × Bool := if wB w e then (yl w e, true) else (w, false)
theorem jy {w : Wd} {e : Ev} (q : wB w e) : Uo w e = (yl w e, true) := if_pos q
theorem LI {w : Wd} {e : Ev} (q : ¬ wB w e) : Uo w e = (w, false) := if_neg q
def aP (N : Nat) (k : Int) (w : Wd) : Prop := ((∀ h ∈ w.hosts, Fc h ∧ EX N h) ∧ (1 ≤ w.hosts.length ∧ w.hosts.length ≤ 4) ∧ (0 ≤ w.now ∧ w.now ≤ 9999) ∧ (0 ≤ w.marks ∧ w.marks ≤ 60)) ∧ (0 ≤ k ∧ k ≤ (w.hosts.length : Int) - 1) ∧ w.given.length ≤ N + 4 * (Ar w k).spool.items.length ∧ ∀ l ∈ w.given, TT l
theorem L0 {N : Nat} {k : Int} {w : Wd} (q : aP N k w) : Fc (Ar w k) ∧ EX N (Ar w k) := q.1.1 _ (AE (xs := w.hosts) (j := k.toNat) (by have := q.2.1; omega))
theorem ie {N : Nat} {k : Int} {w : Wd} (q : aP N k w) : w.given.length ≤ N + 40 := by
 have h := (L0 q).1.2.2.2.2.2.2
 have := q.2.2.1
 omega
theorem tP {N : Nat} {k : Int} {w : Wd} (q : aP N k w) : HN (N + 40) w := ⟨fun h hh => ⟨(q.1.1 h hh).1, CB (q.1.1 h hh).2 (Nat.le_add_right _ _)⟩, q.1.2.1, q.1.2.2.1, q.1.2.2.2, ie q, q.2.2.2⟩
theorem fk {mk : ByteArray} (hm : Bn mk) {ds : List Ad} (ha : ∀ a ∈ ds, Bb a) : ∀ l ∈ K1 mk ds, TT l := fun l hl => by
 obtain ⟨a, h, rfl⟩ := List.mem_map.1 hl
 exact ⟨hm, CW (.inl (ha a h))⟩
theorem sM {w : Wd} {k : Int} {mk : ByteArray} {y : Ml} (h : 0 ≤ k ∧ k ≤ (w.hosts.length : Int) - 1) : Ar (ZS w k mk y) k = Ps (Ar w k) y w.now := by
 have e : k.toNat < w.hosts.length := by omega
 show (w.hosts.set k.toNat _).getD k.toNat default = _
 simp [e]
theorem j7 {N : Nat} {k : Int} {w : Wd} {mk : ByteArray} {y : Ml} (q : aP N k w) (hm : Bn mk) (hy : DJ y) (hl : y.body.length < 12) (hr : CJ (Ar w k).spool) : aP N k (ZS w k mk y) := by
 have z := ZD (L0 q).1 (L0 q).2 hy hl q.1.2.2.1 hr
 have e : (w.hosts.set k.toNat (Ps (Ar w k) y w.now)).length = w.hosts.length := List.length_set
 refine ⟨⟨fun x hx => ?_, ?_, q.1.2.2.1, q.1.2.2.2⟩, ?_, ?_, fun l hl => ?_⟩
 ·rcases List.mem_or_eq_of_mem_set hx with hx | rfl
  ·exact q.1.1 x hx
  ·exact z
 ·show 1 ≤ (w.hosts.set k.toNat _).length ∧ (w.hosts.set k.toNat _).length ≤ 4
  rw [e]; exact q.1.2.1
 ·show 0 ≤ k ∧ k ≤ ((w.hosts.set k.toNat _).length : Int) - 1
  rw [e]; exact q.2.1
 ·rw [sM q.2.1]
  show (w.given ++ K1 mk y.to).length ≤ N + 4 * ((Ar w k).spool.items ++ [_]).length
  have h1 := q.2.2.1
  have h2 := hy.2.2.2.1.2
  have h3 : (K1 mk y.to).length = y.to.length := lm _
  rw [List.length_append, List.length_append, h3]
  show _ ≤ N + 4 * (_ + 1)
  omega
 ·rcases List.mem_append.1 hl with hl | hl
  ·exact q.2.2.2 l hl
  ·exact fk hm hy.1 l hl
theorem Y1 {N : Nat} {k : Int} {mk : ByteArray} (hm : Bn mk) : ∀ (ys : List Ml) {w : Wd}, aP N k w → (∀ y ∈ ys, DJ y) → aP N k (Un k mk ys w)
 | [], w, q, _ => q
 | y :: t, w, q, h => by
   rw [Un]
   split
   ·rename_i hc
    exact Y1 hm t (j7 q hm (h y (List.mem_cons_self ..)) hc.1 hc.2) fun x hx => h x (List.mem_cons_of_mem _ hx)
   ·exact Y1 hm t q fun x hx => h x (List.mem_cons_of_mem _ hx)
theorem jz {w : Wd} {e : Ev} (h : DJ e.mail) : Bn (CA (P0 w e).body) := by
 rcases Fy (P0 w e).body with z | z
 ·rw [z]; show (0 : Nat) ≤ 1048576; decide
 ·rcases List.mem_cons.1 z with z | z
  ·rw [z]; have := ji (w.marks + 1); show (jh (w.marks + 1)).size ≤ 1048576; omega
  ·exact (HH h.2.2.2.2).2 _ z
theorem wD {N : Nat} {w : Wd} {e : Ev} (q : HN N w) (h : wB w e) : aP N e.host ⟨w.hosts, w.now, w.marks + 1, w.given⟩ := by
 obtain ⟨q1, q2, q3, q4, q5, q6⟩ := q
 have h1 := h.1
 have h2 := h.2.2.1
 exact ⟨⟨q1, q2, q3, by dsimp only; omega⟩, h1, Nat.le_trans q5 (Nat.le_add_right _ _), q6⟩
theorem wC {N : Nat} {w : Wd} {e : Ev} (q : HN N w) : HN (N + 40) (Uo w e).1 := by
 by_cases h : wB w e
 ·rw [jy h]
  exact tP (Y1 (jz h.2.1) _ (wD q h) (Js _ _ _ _))
 ·rw [LI h]; exact BE q (Nat.le_add_right _ _)
noncomputable def kB (now : Int) : List Ml → Hs → Hs
 | [], t => t
 | y :: r, t => kB now r (Li t y now).1
theorem kD {now : Int} {ys : List Ml} {i : Nat} {t : Hs} (h : i < ys.length) : kB now (ys.drop i) t = kB now (ys.drop (i + 1)) (Li t (ys.getD i default) now).1 := by rw [AX h]; rfl
theorem wR {now : Int} {ys : List Ml} {i : Nat} {t : Hs} (h : ys.length ≤ i) : kB now (ys.drop i) t = t := by rw [List.drop_of_length_le h]; rfl
noncomputable def iQ (n now : Int) : List Ad → List Int → Hs → Hs
 | a :: r, o :: s, x => iQ n now r s (IV x n a o now)
 | [], _, x => x
 | _ :: _, [], x => x
theorem wT {n now : Int} {ds : List Ad} {os : List Int} {i : Nat} {x : Hs} (h1 : i < ds.length) (h2 : i < os.length) : iQ n now (ds.drop i) (os.drop i) x = iQ n now (ds.drop (i + 1)) (os.drop (i + 1)) (IV x n (ds.getD i default) (os.getD i default) now) := by rw [AX h1, AX h2]; rfl
theorem wS {n now : Int} {ds : List Ad} {os : List Int} {i : Nat} {x : Hs} (h : os.length ≤ i) : iQ n now (ds.drop i) (os.drop i) x = x := by
 rw [List.drop_of_length_le (l := os) h]
 cases ds.drop i <;> rfl
theorem VD {h : Hs} {m : Ml} {w : Int} {N : Nat} (q : Fc h) (n : EX N h) (hm : DJ m) (hw : 0 ≤ w ∧ w ≤ 9999) : Fc (Li h m w).1 ∧ EX N (Li h m w).1 ∧ (Li h m w).1.conf = h.conf := by
 by_cases z : m.body.length < 12 ∧ CJ h.spool
 ·rw [Jz z]
  have y := ZD q n hm z.1 hw z.2
  exact ⟨y.1, y.2, rfl⟩
 ·rw [Jy z]; exact ⟨q, n, rfl⟩
theorem kC {w : Int} {N : Nat} (hw : 0 ≤ w ∧ w ≤ 9999) : ∀ (ys : List Ml) {h : Hs}, Fc h → EX N h → (∀ y ∈ ys, DJ y) → Fc (kB w ys h) ∧ EX N (kB w ys h)
 | [], h, q, n, _ => ⟨q, n⟩
 | y :: t, h, q, n, hy => by
   have z := VD q n (hy y (List.mem_cons_self ..)) hw
   exact kC hw t z.1 z.2.1 fun x hx => hy x (List.mem_cons_of_mem _ hx)
theorem YZ {h : Hs} {n : Int} {a : Ad} {out w : Int} {N : Nat} (q : Fc h) (hn : EX N h) (t : CQ h.spool n a) (hw : 0 ≤ w ∧ w ≤ 9999) : Fc (IV h n a out w) ∧ EX (N + 1) (IV h n a out w) ∧ (IV h n a out w).conf = h.conf ∧ ∀ a', CQ h.spool n a' → ¬ a = a' → CQ (IV h n a out w).spool n a' :=
 ⟨(Jo q hn t hw).1, (Jo q hn t hw).2, (FL _ _ _ _ _ _).1, fun a' y z => (Hk q.2.2.2 t hw).2 _ _ y fun u => z u.2⟩
theorem kE {n w : Int} (hw : 0 ≤ w ∧ w ≤ 9999) : ∀ (ds : List Ad) (os : List Int) {h : Hs} {N : Nat}, Fc h → EX N h → ds.Nodup → (∀ a ∈ ds, CQ h.spool n a) → Fc (iQ n w ds os h) ∧ EX (N + ds.length) (iQ n w ds os h)
 | [], os, h, N, q, hn, _, _ => by cases os <;> exact ⟨q, hn⟩
 | a :: r, [], h, N, q, hn, _, _ => ⟨q, CB hn (Nat.le_add_right _ _)⟩
 | a :: r, o :: s, h, N, q, hn, hd, ht => by
   rw [List.nodup_cons] at hd
   obtain ⟨z1, z2, _, z4⟩ := YZ (out := o) q hn (ht a (List.mem_cons_self ..)) hw
   have e : N + (a :: r).length = N + 1 + r.length := by rw [List.length_cons]; omega
   rw [e]
   exact kE hw r s z1 z2 hd.2 fun b hb => z4 b (ht b (List.mem_cons_of_mem _ hb)) fun u => hd.1 (by rw [u]; exact hb)
theorem IW (c : Cf) (to : ByteArray) (w : Int) : ∀ rs : List Rc, List.Sublist (Aj c to w rs) (rs.map Rc.addr)
 | [] => .slnil
 | r :: t => by
   rw [Aj]
   cases BV (EY c to w r)
   ·exact .cons _ (IW c to w t)
   ·exact .cons_cons _ (IW c to w t)
noncomputable def JL (w : Wd) (e : Ev) : Ml := Hl (Ar w e.host).conf (Jl (Ar w e.host) e.id) (Ar w e.to).conf.name w.now
noncomputable def H3 (w : Wd) (e : Ev) : List Int × List Ml := GZ (Ar w e.to) (Ar w e.host).conf.name (JL w e) e.cut
noncomputable def w3 (w : Wd) (e : Ev) : Hs := kB w.now (H3 w e).2 (Ar w e.to)
noncomputable def s8 (w : Wd) (e : Ev) : Hs := bif e.lose then Ar w e.host else iQ e.id w.now (JL w e).to (H3 w e).1 (Ar w e.host)
def s9 (w : Wd) (e : Ev) : Prop := (0 ≤ e.host ∧ e.host ≤ (w.hosts.length : Int) - 1) ∧ (0 ≤ e.to ∧ e.to ≤ (w.hosts.length : Int) - 1) ∧ ¬ e.host = e.to ∧ ¬ At (Ar w e.host).spool e.id < 0 ∧ ¬ ((JL w e).to.length : Int) = 0
noncomputable def wz (w : Wd) (e : Ev) : Wd := Uh (Uh w e.to (w3 w e)) e.host (s8 w e)
open Classical in
noncomputable def ZH (w : Wd) (e : Ev) : Wd × Bool := if s9 w e then (wz w e, true) else (w, false)
theorem kF {w : Wd} {e : Ev} (q : s9 w e) : ZH w e = (wz w e, true) := if_pos q
theorem Me {w : Wd} {e : Ev} (q : ¬ s9 w e) : ZH w e = (w, false) := if_neg q
theorem ZE (h : Hs) (nm : ByteArray) (m : Ml) (cut : Int) : ∀ y ∈ (GZ h nm m cut).2, DJ y := by
 unfold GZ
 split
 ·exact Js _ _ _ _
 ·exact Js _ _ _ _
theorem Uv {h : Hs} {nm : ByteArray} {m : Ml} {cut : Int} (hn : nm.size ≤ 1000) (hm : N8 m) : (GZ h nm m cut).1.length = m.to.length := by
 unfold GZ
 split
 ·exact LQ hn hm
 ·exact LQ hn hm
theorem sP {h : Hs} {nm : ByteArray} {m : Ml} {cut : Int} (hn : nm.size ≤ 1000) (hm : N8 m) (hc : cut ≤ 1000) : (GZ h nm m cut).2.length ≤ 300000000 := by
 have key : ∀ c : Int, c ≤ 1000 → (Eu h.conf nm m c).2.length ≤ 300000000 := fun c q => by
  have z := (LS h.conf c c.toNat 0 (Uu h.conf nm m) (LR h.conf hn hm)).2.1
  show (Ld h.conf c c.toNat 0 (Uu h.conf nm m)).2.length ≤ _
  omega
 unfold GZ
 split
 ·exact key _ hc
 ·exact key _ (by decide)
theorem wV {N : Nat} {w : Wd} {h : Hs} {n : Int} (q : Fc h) (h1 : ¬ At h.spool n < 0) : (At h.spool n).toNat < h.spool.items.length ∧ Dm (Jl h n) ∧ ∀ r ∈ (Jl h n).to, CQ h.spool n r.addr := by
 have hil : (At h.spool n).toNat < h.spool.items.length := by have := Bf h1; omega
 refine ⟨hil, (q.2.2.2.1 _ (AE (xs := h.spool.items) (j := (At h.spool n).toNat) hil)).1, fun r hr => ?_⟩
 have y := (Ez q.2.2.2 (x := Jl h n) (AE hil) hr).1
 have e2 : (Jl h n).id = n := FB h1
 rw [e2] at y
 exact y
theorem kH {N : Nat} {w : Wd} {e : Ev} (q : HN N w) (h : s9 w e) : Fc (Ar w e.host) ∧ EX N (Ar w e.host) ∧ Fc (Ar w e.to) ∧ EX N (Ar w e.to) ∧ Dm (Jl (Ar w e.host) e.id) ∧ (JL w e).to.Nodup ∧ (JL w e).to.length ≤ 4 ∧ ∀ a ∈ (JL w e).to, CQ (Ar w e.host).spool e.id a := by
 obtain ⟨h1, h2, h3, h4, h5⟩ := h
 have hl := q.2.1
 have hH := q.1 _ (AE (xs := w.hosts) (j := e.host.toNat) (by omega))
 have hT := q.1 _ (AE (xs := w.hosts) (j := e.to.toNat) (by omega))
 obtain ⟨t1, t2, t3⟩ := wV (N := N) (w := w) hH.1 h4
 refine ⟨hH.1, hH.2, hT.1, hT.2, t2, (IW _ _ _ _).nodup t2.2.1, Nat.le_trans (Er _ _ _ _) t2.2.2.2.2.1.2, fun a ha => ?_⟩
 obtain ⟨r, hr, er, _⟩ := Es _ _ _ _ a ha
 rw [← er]; exact t3 r hr
theorem wU {N : Nat} {w : Wd} {e : Ev} (q : HN N w) : HN (N + 4) (ZH w e).1 := by
 by_cases h : s9 w e
 ·rw [kF h]
  obtain ⟨a1, a2, b1, b2, hi, hd, hl, ht⟩ := kH q h
  have zb := kC q.2.2.1 (H3 w e).2 b1 b2 (ZE _ _ _ _)
  have za : Fc (s8 w e) ∧ EX (N + 4) (s8 w e) := by
   unfold s8
   cases e.lose
   ·have z := kE (n := e.id) q.2.2.1 (JL w e).to (H3 w e).1 a1 a2 hd ht
    exact ⟨z.1, CB z.2 (by omega)⟩
   ·exact ⟨a1, CB a2 (by omega)⟩
  exact Nt (Nt (BE q (by omega)) zb.1 (CB zb.2 (by omega))) za.1 za.2
 ·rw [Me h]; exact BE q (Nat.le_add_right _ _)
theorem rC {mk : ByteArray} {ds : List Ad} {j : Nat} (h : j < ds.length) : (K1 mk (ds.take (j + 1))).map Ax = (K1 mk (ds.take j)).map Ax ++ [[.v (.string mk), .v (.string (ds.getD j default).user), .v (.string (ds.getD j default).domain)]] := by
 unfold K1
 rw [List.map_map, List.map_map, Mc _ h]
 rfl
theorem rB {mk : ByteArray} {ds : List Ad} : (K1 mk ds).length = ds.length := lm _
theorem u5 (n : Int) : (⟨#[73, 100, 58, 32]⟩ : ByteArray) ++ NE n = jh n := rfl
theorem rq (w : Wd) (e : Ev) : (⟨e.mail.frm, e.mail.to, jh (w.marks + 1) :: e.mail.body⟩ : Ml) = P0 w e := rfl
def mb : Mt := GW (lc sh (lc P6.ag l0)) (fun p => HN 1000000 p.1 ∧ aA p.2.1) (fun p => ([.any, P6.ag.enc p.2.1], .tup [Ho (Uo p.1 p.2.1).1, .t (.v (.bool (Uo p.1 p.2.1).2))]))
section
attribute [local go_sem] Lb mi ba KV M9 bX V0 V1 Yq Sv ST u5 rq CS GA F9 Ho.eq_1 G8.eq_1 AZ BQ LK lm AS.opn AS.cls AS.nilb AS.renb AS.up Bool.not_false Bool.not_true List.set_set List.set_cons_zero List.set_cons_succ List.set_nil List.mem_singleton forall_eq tn List.map_nil List.nil_append
set_option maxHeartbeats 6400000 in
theorem eH {G : Gt} (hG : Ai G) (hh : G.e 36 = AA 0 Lb ∧ G.e 221 = AA 0 mi ∧ G.e 61 = AA 0 ba ∧ G.e 147 = AA 0 KV ∧ G.e 222 = AA 0 M9 ∧ G.e 223 = AA 0 bX ∧ G.e 224 = AA 1 V0 ∧ G.e 225 = AA 1 V1) : Gd G 206 (AM mb) := by
 refine JF (dp := fun n => !(Nat.beq n 100006 || Nat.beq n 100007 || Nat.beq n 100015)) (fn := Tryz.f206) (n := 2) rfl hG ?_
 rintro ⟨w, e, ⟨⟩⟩ hpre
 obtain ⟨hw, hE, hc0, hc1⟩ := hpre
 try dsimp only at hw hE hc0 hc1 ⊢
 have hl := hw.2.1
 have hmk0 := hw.2.2.2.1
 have hgl := hw.2.2.2.2.1
 have hml1 := hE.2.1.1
 have hml2 := hE.2.2.1
 refine BP (0 ≤ e.host ∧ e.host ≤ (w.hosts.length : Int) - 1) (fun h0 => have h0' := Ap h0; BP (DJ e.mail) (fun h1 => have h1' := Ap h1; BP (w.marks ≥ 60) (fun h2 => have e_ : Uo w e = _ := LI (fun q => q.2.2.1 h2); have h3 := tv; have h4 := tv; have h5' := tv; ?_) (fun h2 => BP ((e.mail.body.length : Int) ≥ 10) (fun h3 => have e_ : Uo w e = _ := LI (fun q => q.2.2.2.1 h3); have h4 := tv; have h5' := tv; ?_) (fun h3 => BP (CA e.mail.body = ⟨#[]⟩) (fun h4 => BP (CJ (Ar w e.host).spool) (fun h5 => have h5' := Ap h5; ?w1) (fun h5 => have h5' := AN h5; have e_ : Uo w e = _ := LI (fun q => h5 q.2.2.2.2.2); ?_)) (fun h4 => have e_ : Uo w e = _ := LI (fun q => h4 q.2.2.2.2.1); have h5' := tv; ?_)))) (fun h1 => have h1' := AN h1; have e_ : Uo w e = _ := LI (fun q => h1 q.2.1); have h2 := tv; have h3 := tv; have h4 := tv; have h5' := tv; ?_)) (fun h0 => have h0' := AN h0; have e_ : Uo w e = _ := LI (fun q => h0 q.1); have h1' := tv; have h2 := tv; have h3 := tv; have h4 := tv; have h5' := tv; ?_)
 case w1 =>
  rw [jy ⟨h0, h1, h2, h3, h4, h5⟩]
  have hS0 := wD hw ⟨h0, h1, h2, h3, h4, h5⟩
  have hK := hw.1 _ (AE (xs := w.hosts) (j := e.host.toNat) (by omega))
  have Se := (C9 hK.1.2.2.1.2.2.1).2
  have hmk := jz (w := w) h1
  have hds := IK (w.marks + 1)
  have e4 : (#[73, 100, 58, 32] : Array UInt8).size = 4 := rfl
  have hC : N8 (P0 w e) := VG h1 (by have := ji (w.marks + 1); omega)
  have hb12 := h1.2.2.2.2.2
  have hv1 : ∀ y ∈ Jq w e, DJ y := Js _ _ _ _
  have hv2 : ∀ y ∈ Jq w e, ia y := Ut (nm := ⟨#[99, 108, 105, 101, 110, 116]⟩) (by show (6 : Nat) ≤ 1000; decide) hC
  have hvn : (Jq w e).length ≤ 300000000 := by
   have z := (LS (Ar w e.host).conf e.cut e.cut.toNat 0 (Uu (Ar w e.host).conf ⟨#[99, 108, 105, 101, 110, 116]⟩ (P0 w e)) (LR (Ar w e.host).conf (nm := ⟨#[99, 108, 105, 101, 110, 116]⟩) (by show (6 : Nat) ≤ 1000; decide) hC)).2.1
   show (Ld (Ar w e.host).conf e.cut e.cut.toNat 0 (Uu (Ar w e.host).conf ⟨#[99, 108, 105, 101, 110, 116]⟩ (P0 w e))).2.length ≤ _
   omega
  simp -implicitDefEqProofs only [Tryz.f206, h0', h1', h2, h3, h4, h5', eq_self, decide_true, decide_false, go_sem, hh, seval]
  with_reducible repeat' (first | apply ai | intro _ | ((first | apply s1 | apply s3 | apply s4) <;> intro hb <;> simp -implicitDefEqProofs only [hb, go_sem, hh, seval] <;> try simp only [qz] at hb))
  all_goals (try simp only [maxLen, tn, Ae, Ac, lm, List.length_cons] at *)
  all_goals first | with_reducible rfl | omega | with_reducible assumption | (show _ = true; rfl) | contradiction | decide | exact hC | (show (_ : Nat) ≤ _; decide) | skip
  skip
  refine AU (Le.frzL [1064, 1072]) (AR ?_)
  simp -implicitDefEqProofs only [go_sem, hh, seval]
  with_reducible repeat' (first | apply ai | intro _ | ((first | apply s1 | apply s3 | apply s4) <;> intro hb <;> simp -implicitDefEqProofs only [hb, go_sem, hh, seval] <;> try simp only [qz] at hb))
  all_goals (try simp only [maxLen, tn, Ae, Ac, lm, List.length_cons] at *)
  all_goals first | with_reducible rfl | omega | with_reducible assumption | (show _ = true; rfl) | contradiction | decide | exact hC | (show (_ : Nat) ≤ _; decide) | skip
  refine AU (Le.renb 1002 3 2900 1901 rfl rfl rfl rfl) (AR ?_)
  simp -implicitDefEqProofs only [go_sem, hh, seval]
  with_reducible repeat' (first | apply ai | intro _ | ((first | apply s1 | apply s3 | apply s4) <;> intro hb <;> simp -implicitDefEqProofs only [hb, go_sem, hh, seval] <;> try simp only [qz] at hb))
  all_goals first | with_reducible rfl | omega | with_reducible assumption | (show _ = true; rfl) | contradiction | decide | skip
  refine AF [] (ι := {p : Nat × Wd // p.1 ≤ (Jq w e).length ∧ aP 1000000 e.host p.2 ∧ Un e.host (CA (P0 w e).body) ((Jq w e).drop p.1) p.2 = yl w e}) (fun p => ⟨[(2, .pb 1002 0), (3, .pb 1003 0), (4, .pb 1004 0), (6, .pb 1006 0), (8, .t (.sl 4 ((Jq w e).map DN))), (9, .t (.v (.int .i64 p.1.1)))], [(1002, some (.box [.h 1900, .t (.v (.int .i64 p.1.2.now)), .t (.v (.int .i64 p.1.2.marks)), .h 1901])), (1003, some (.box ((C0 e).map .t))), (1004, some (.box [.nil, .t (.v (.int .i64 0)), .t (.v (.int .i64 0)), .nil])), (1006, some (.box [.t (.v (.string e.mail.frm.user)), .t (.v (.string e.mail.frm.domain)), .t (.sl 2 (e.mail.to.map Az)), .t (.sl 1 ((jh (w.marks + 1) :: e.mail.body).map AH))])), (1900, some (.arr false 7 (p.1.2.hosts.map Ak))), (1901, some (.arr true 3 (p.1.2.given.map Ax)))]⟩) (fun p => (Jq w e).length - p.1.1) ⟨(0, ⟨w.hosts, w.now, w.marks + 1, w.given⟩), Nat.zero_le _, hS0, rfl⟩ rfl ?_ ?_
  ·simp -implicitDefEqProofs only [go_sem, hh, seval]
   first | (simp; done) | skip
  ·rintro ⟨⟨i, x⟩, hi, hx, hv⟩
   dsimp only at hi hx hv
   have hxK := (L0 hx).1
   have hxo := DS (L0 hx).1 (L0 hx).2 (by decide)
   have hxn := (C9 hxK.2.2.1.2.2.1).2
   have hxn6 : (Ar x e.host).conf.name.size ≤ 1000000 := by omega
   have hxw := hx.1.2.2.1
   have hxg := ie hx
   have hxl := hx.2.1
   by_cases hlt : (i : Int) < (Jq w e).length
   ·have hym := AE (xs := Jq w e) (j := i) (by omega)
    have hy := hv1 _ hym
    have hyo := (hv2 _ hym).1
    have hyl := hy.2.2.2.1.2
    by_cases q : ((Jq w e).getD i default).body.length < 12 ∧ CJ (Ar x e.host).spool
    ·simp -implicitDefEqProofs only [hlt, Jz q, eq_self, decide_true, decide_false, go_sem, hh, seval]
     with_reducible repeat' (first | apply ai | intro _ | ((first | apply s1 | apply s3 | apply s4) <;> intro hb <;> simp -implicitDefEqProofs only [hb, go_sem, hh, seval] <;> try simp only [qz] at hb))
     all_goals (try simp only [maxLen, tn, Ae, Ac, lm] at *)
     all_goals first | with_reducible rfl | omega | with_reducible assumption | (show _ = true; rfl) | contradiction | decide | exact hxK.2.2.2 | skip
     refine AF [] (ι := {j : Nat // j ≤ ((Jq w e).getD i default).to.length}) (fun p => ⟨[(2, .pb 1002 0), (3, .pb 1003 0), (4, .pb 1004 0), (6, .pb 1006 0), (8, .t (.sl 4 ((Jq w e).map DN))), (9, .t (.v (.int .i64 i))), (12, .t (.v (.int .i64 p.1)))], [(1002, some (.box [.h 1900, .t (.v (.int .i64 (ZS x e.host (CA (P0 w e).body) ((Jq w e).getD i default)).now)), .t (.v (.int .i64 (ZS x e.host (CA (P0 w e).body) ((Jq w e).getD i default)).marks)), .h 1901])), (1003, some (.box ((C0 e).map .t))), (1004, some (.box [.nil, .t (.v (.int .i64 0)), .t (.v (.int .i64 0)), .nil])), (1006, some (.box [.t (.v (.string e.mail.frm.user)), .t (.v (.string e.mail.frm.domain)), .t (.sl 2 (e.mail.to.map Az)), .t (.sl 1 ((jh (w.marks + 1) :: e.mail.body).map AH))])), (1900, some (.arr false 7 ((ZS x e.host (CA (P0 w e).body) ((Jq w e).getD i default)).hosts.map Ak))), (1901, some (.arr true 3 (x.given.map Ax ++ (K1 (CA (P0 w e).body) (((Jq w e).getD i default).to.take p.1)).map Ax)))]⟩) (fun p => ((Jq w e).getD i default).to.length - p.1) ⟨0, Nat.zero_le _⟩ rfl ?_ ?_
     ·simp -implicitDefEqProofs only [go_sem, hh, seval]
      first | (simp [K1, ZS]; done) | skip
     ·rintro ⟨j, hj⟩
      try dsimp only at hj
      have hlj : (K1 (CA (P0 w e).body) (((Jq w e).getD i default).to.take j)).length = j := by rw [rB, List.length_take]; omega
      by_cases hjt : (j : Int) < ((Jq w e).getD i default).to.length
      ·simp -implicitDefEqProofs only [hjt, hlj, List.length_append, lm, eq_self, decide_true, decide_false, go_sem, hh, seval]
       with_reducible repeat' (first | apply ai | intro _ | ((first | apply s1 | apply s3 | apply s4) <;> intro hb <;> simp -implicitDefEqProofs only [hb, go_sem, hh, seval] <;> try simp only [qz] at hb))
       all_goals (try simp only [maxLen, tn, Ae, Ac, lm] at *)
       all_goals first | with_reducible rfl | omega | with_reducible assumption | (show _ = true; rfl) | contradiction | decide | (rename_i hm; rcases List.mem_append.1 hm with hm | hm <;> (obtain ⟨_, _, rfl⟩ := List.mem_map.1 hm; rfl)) | skip
       skip
       refine AU (Le.renb 1002 3 1145 1901 rfl rfl rfl rfl) (AR ?_)
       simp -implicitDefEqProofs only [go_sem, hh, seval]
       with_reducible repeat' (first | apply ai | intro _ | ((first | apply s1 | apply s3 | apply s4) <;> intro hb <;> simp -implicitDefEqProofs only [hb, go_sem, hh, seval] <;> try simp only [qz] at hb))
       all_goals first | with_reducible rfl | omega | with_reducible assumption | (show _ = true; rfl) | contradiction | decide | skip
       refine ⟨⟨j + 1, by omega⟩, by dsimp only; omega, ?_⟩
       simp -implicitDefEqProofs only [go_sem, hh, seval]
       simp only [rC (show j < ((Jq w e).getD i default).to.length by omega), List.append_assoc]
       first | (simp [P0]; done) | skip
      ·have htk : ((Jq w e).getD i default).to.take j = ((Jq w e).getD i default).to := List.take_of_length_le (by omega)
       simp -implicitDefEqProofs only [hjt, htk, eq_self, decide_true, decide_false, go_sem, hh, seval]
       with_reducible repeat' (first | apply ai | intro _ | ((first | apply s1 | apply s3 | apply s4) <;> intro hb <;> simp -implicitDefEqProofs only [hb, go_sem, hh, seval] <;> try simp only [qz] at hb))
       all_goals (try simp only [maxLen, tn, Ae, Ac, lm] at *)
       all_goals first | with_reducible rfl | omega | with_reducible assumption | (show _ = true; rfl) | contradiction | decide | skip
       refine ⟨⟨(i + 1, ZS x e.host (CA (P0 w e).body) ((Jq w e).getD i default)), by dsimp only; omega, j7 hx hmk hy q.1 q.2, (wA (by omega) q).symm.trans hv⟩, by dsimp only; omega, ?_⟩
       simp -implicitDefEqProofs only [go_sem, hh, seval]
       first | (simp [ZS]; done) | skip
    ·simp -implicitDefEqProofs only [hlt, Jy q, eq_self, decide_true, decide_false, go_sem, hh, seval]
     with_reducible repeat' (first | apply ai | intro _ | ((first | apply s1 | apply s3 | apply s4) <;> intro hb <;> simp -implicitDefEqProofs only [hb, go_sem, hh, seval] <;> try simp only [qz] at hb))
     all_goals (try simp only [maxLen, tn, Ae, Ac, lm] at *)
     all_goals first | with_reducible rfl | omega | with_reducible assumption | (show _ = true; rfl) | contradiction | decide | exact hxK.2.2.2 | skip
     refine ⟨⟨(i + 1, x), by dsimp only; omega, hx, (vz (by omega) q).symm.trans hv⟩, by dsimp only; omega, ?_⟩
     simp -implicitDefEqProofs only [go_sem, hh, seval]
     first | (simp; done) | skip
   ·rw [vw (by omega)] at hv
    subst hv
    simp -implicitDefEqProofs only [hlt, eq_self, decide_true, decide_false, go_sem, hh, seval]
    with_reducible repeat' (first | apply ai | intro _ | ((first | apply s1 | apply s3 | apply s4) <;> intro hb <;> simp -implicitDefEqProofs only [hb, go_sem, hh, seval] <;> try simp only [qz] at hb))
    all_goals (try simp only [maxLen, tn, Ae, Ac] at *)
    all_goals first | with_reducible rfl | omega | with_reducible assumption | (show _ = true; rfl) | contradiction | decide | skip
 all_goals
  try rw [e_]
  simp -implicitDefEqProofs only [Tryz.f206, h0', h1', h2, h3, h4, h5', eq_self, decide_true, decide_false, Int.reduceEq, go_sem, hh, seval]
  with_reducible repeat' (first | apply ai | intro _ | ((first | apply s1 | apply s3 | apply s4) <;> intro hb <;> simp -implicitDefEqProofs only [hb, go_sem, hh, seval] <;> try simp only [qz] at hb))
  all_goals (try simp only [maxLen, tn, lm] at *)
  all_goals first | rfl | omega | decide | with_reducible assumption | (show AY _ = true; rfl) | exact Hf (by assumption) | contradiction | (show _ = T.v _; rfl) | (show _ = List.map Ax _; rfl) | skip
end
end Go.V
