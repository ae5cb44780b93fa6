/- The row. No condition. -/
import Derived.Test.YthmjinhpngfdbaaGreatDoorKC
import Derived.Test.YthmjinhpngfdbaaGreatDoorXB
import Derived.Test.YthmjinhpngfdbaaGreatDoorKB
import Derived.Test.YthmjinhpngfdbaaGreatDoorKA
import Derived.ProofKit
import Derived.Carry
import Derived.WalkKit
import Derived.Test.YthmjinhpngfdbaaGreatDoorCards
import Derived.Test.YthmjinhpngfdbaaGreatDoorTie
import Derived.OpenShut
import Derived.Deep.DeepHandedRow
namespace Go.V
open Go Go.Proofs
set_option maxRecDepth 100000
set_option linter.unusedSimpArgs false
set_option linter.unusedVariables false
theorem Ri (w : Wd) (e : Ev) : Hl (w.hosts.getD e.host.toNat default).conf ((w.hosts.getD e.host.toNat default).spool.items.getD (BB (fun x : Im => x.id = e.id) 0 (w.hosts.getD e.host.toNat default).spool.items).toNat default) (w.hosts.getD e.to.toNat default).conf.name w.now = JL w e := rfl
theorem kG (w : Wd) (e : Ev) : GZ (Ar w e.to) (Ar w e.host).conf.name (JL w e) e.cut = H3 w e := rfl
theorem vN {xs : List Ad} {i j : Nat} (h : xs.Nodup) (hi : i < j) (hj : j < xs.length) : ¬ xs.getD i default = xs.getD j default := by
 have z := List.pairwise_iff_getElem.1 h i j (by omega) hj hi
 simpa [hj, show i < xs.length by omega] using z
def mc : Mt := GW (lc sh (lc P6.ag l0)) (fun p => HN 1000000 p.1 ∧ aA p.2.1) (fun p => ([.any, P6.ag.enc p.2.1], .tup [Ho (ZH p.1 p.2.1).1, .t (.v (.bool (ZH p.1 p.2.1).2))]))
section
attribute [local go_sem] Lb iv mj ml V1 iw Ri kG Yq CS GA F9 Ho.eq_1 G8.eq_1 AZ BQ LK lm List.length_set AS.opn AS.cls AS.nilb AS.renb AS.up Bool.not_false Bool.not_true List.set_set List.set_cons_zero List.set_cons_succ List.set_nil List.mem_singleton forall_eq tn List.map_nil List.nil_append
set_option maxHeartbeats 6400000 in
theorem eI {G : Gt} (hG : Ai G) (hh : G.e 36 = AA 0 Lb ∧ G.e 34 = AA 0 iv ∧ G.e 226 = AA 0 mj ∧ G.e 227 = AA 1 ml ∧ G.e 225 = AA 1 V1 ∧ G.e 37 = AA 1 iw) : Gd G 207 (AM mc) := by
 refine JF (dp := fun n => !(Nat.beq n 100011)) (fn := Tryz.f207) (n := 2) rfl hG ?_
 rintro ⟨w, e, ⟨⟩⟩ hpre
 obtain ⟨hw, hE, hc0, hc1⟩ := hpre
 try dsimp only at hw hE hc0 hc1 ⊢
 have hl := hw.2.1
 refine BP (0 ≤ e.host ∧ e.host ≤ (w.hosts.length : Int) - 1) (fun h0 => have h0' := Ap h0; BP (0 ≤ e.to ∧ e.to ≤ (w.hosts.length : Int) - 1) (fun h1 => have h1' := Ap h1; BP (e.host = e.to) (fun h2 => have e_ : ZH w e = _ := Me (fun q => q.2.2.1 h2); have h3 := tv; ?_) (fun h2 => BP (At (Ar w e.host).spool e.id < 0) (fun h3 => have e_ : ZH w e = _ := Me (fun q => q.2.2.2.1 h3); ?_) (fun h3 => BP (((JL w e).to.length : Int) = 0) (fun h4 => ?w1) (fun h4 => ?w2)))) (fun h1 => have h1' := AN h1; have e_ : ZH w e = _ := Me (fun q => h1 q.2.1); have h2 := tv; have h3 := tv; ?_)) (fun h0 => have h0' := AN h0; have e_ : ZH w e = _ := Me (fun q => h0 q.1); have h1' := tv; have h2 := tv; have h3 := tv; ?_)
 case w1 =>
  have hH := hw.1 _ (AE (xs := w.hosts) (j := e.host.toNat) (by omega))
  have i1 : 0 ≤ BB (fun x : Im => x.id = e.id) 0 (Ar w e.host).spool.items ∧ BB (fun x : Im => x.id = e.id) 0 (Ar w e.host).spool.items < (Ar w e.host).spool.items.length := by have := Bf h3; unfold At at this h3; omega
  have oa := DS hH.1 hH.2 (by decide)
  rw [Me (fun q => q.2.2.2.2 h4)]
  simp -implicitDefEqProofs only [Tryz.f207, h0', h1', h2, h3, h4, eq_self, decide_true, decide_false, Ri, go_sem, hh, seval]
  with_reducible repeat' (first | apply ai | intro _ | ((first | apply s1 | apply s3 | apply s4) <;> intro hb <;> simp -implicitDefEqProofs only [hb, go_sem, hh, seval] <;> try simp only [qz] at hb))
  all_goals (try simp only [maxLen, tn, Ae, Ac, lm] at *)
  all_goals first | rfl | omega | decide | with_reducible assumption | (show AY _ = true; rfl) | exact Hf (by assumption) | contradiction | exact i1.2 | exact i1.1 | (show _ = T.v _; rfl) | (show _ = List.map Ax _; rfl) | skip
 case w2 =>
  have hq : s9 w e := ⟨h0, h1, h2, h3, h4⟩
  rw [kF hq]
  obtain ⟨a1, a2, b1, b2, hi, hd, hl4, ht⟩ := kH hw hq
  have i1 : 0 ≤ BB (fun x : Im => x.id = e.id) 0 (Ar w e.host).spool.items ∧ BB (fun x : Im => x.id = e.id) 0 (Ar w e.host).spool.items < (Ar w e.host).spool.items.length := by have := Bf h3; unfold At at this h3; omega
  have hC : N8 (JL w e) := rc hi
  have oa := DS a1 a2 (by decide)
  have ob := DS b1 b2 (by decide)
  have na := (C9 a1.2.2.1.2.2.1).2
  have nb := (C9 b1.2.2.1.2.2.1).2
  have na6 : (Ar w e.host).conf.name.size ≤ 1000 := by omega
  have nb6 : (Ar w e.to).conf.name.size ≤ 1000 := by omega
  have hw2 := hw.2.2.1
  have hno : (H3 w e).1.length = (JL w e).to.length := Uv (by omega) hC
  have hv1 : ∀ y ∈ (H3 w e).2, DJ y := ZE _ _ _ _
  have hvn : (H3 w e).2.length ≤ 300000000 := sP (by omega) hC (by omega)
  simp -implicitDefEqProofs only [Tryz.f207, h0', h1', h2, h3, h4, eq_self, decide_true, decide_false, Ri, kG, go_sem, hh, seval]
  with_reducible repeat' (first | apply ai | intro _ | ((first | apply s1 | apply s3 | apply s4) <;> intro hb <;> simp -implicitDefEqProofs only [hb, go_sem, hh, seval] <;> try simp only [qz] at hb))
  all_goals (try simp only [maxLen, tn, Ae, Ac, lm, List.length_cons] at *)
  all_goals first | with_reducible rfl | omega | with_reducible assumption | (show _ = true; rfl) | contradiction | decide | exact hC | exact i1.2 | exact i1.1 | skip
  refine AU (Le.frzL [1069, 2069]) (AR ?_)
  simp -implicitDefEqProofs only [go_sem, hh, seval]
  with_reducible repeat' (first | apply ai | intro _ | ((first | apply s1 | apply s3 | apply s4) <;> intro hb <;> simp -implicitDefEqProofs only [hb, go_sem, hh, seval] <;> try simp only [qz] at hb))
  all_goals (try simp only [maxLen, tn, Ae, Ac, lm, List.length_cons] at *)
  all_goals first | with_reducible rfl | omega | with_reducible assumption | (show _ = true; rfl) | contradiction | decide | exact hC | exact i1.2 | exact i1.1 | skip
  refine AF [] (ι := {p : Nat × Hs // p.1 ≤ (H3 w e).2.length ∧ Fc p.2 ∧ EX 1000000 p.2 ∧ p.2.conf = (Ar w e.to).conf ∧ kB w.now ((H3 w e).2.drop p.1) p.2 = w3 w e}) (fun p => ⟨[(2, .pb 1002 0), (3, .pb 1003 0), (4, .pb 1004 0), (6, .pb 1006 0), (7, .pb 1007 0), (9, .pb 1009 0), (10, .t (.sl 1 ((H3 w e).1.map A9))), (11, .t (.sl 4 ((H3 w e).2.map DN))), (12, .t (.v (.int .i64 p.1.1)))], [(1002, some (.box [.h 1900, .t (.v (.int .i64 w.now)), .t (.v (.int .i64 w.marks)), .h 2900])), (1003, some (.box ((C0 e).map .t))), (1004, some (.box [.nil, .t (.v (.int .i64 0)), .t (.v (.int .i64 0)), .nil])), (1006, some (.box ((Ak (Ar w e.host)).map .t))), (1007, some (.box ((Ak p.1.2).map .t))), (1009, some (.box [.t (.v (.string (JL w e).frm.user)), .t (.v (.string (JL w e).frm.domain)), .t (.sl 2 ((JL w e).to.map Az)), .t (.sl 1 ((JL w e).body.map AH))])), (1900, some (.arr false 7 (w.hosts.map Ak))), (2900, some (.arr true 3 (w.given.map Ax)))]⟩) (fun p => (H3 w e).2.length - p.1.1) ⟨(0, (Ar w e.to)), Nat.zero_le _, b1, b2, rfl, rfl⟩ rfl ?_ ?_
  ·simp -implicitDefEqProofs only [go_sem, hh, seval]
   first | (simp; done) | skip
  ·rintro ⟨⟨i, x⟩, hi1, hx1, hx2, hx3, hv⟩
   dsimp only at hi1 hx1 hx2 hx3 hv
   have xo := DS hx1 hx2 (by decide)
   have nx := (C9 hx1.2.2.1.2.2.1).2
   have nx6 : x.conf.name.size ≤ 1000000 := by omega
   by_cases hlt : (i : Int) < (H3 w e).2.length
   ·have hy := hv1 _ (AE (xs := (H3 w e).2) (j := i) (by omega))
    have hyo : Lj ((H3 w e).2.getD i default) := JZ hy
    have zK := VD hx1 hx2 hy hw2
    by_cases q : ((H3 w e).2.getD i default).body.length < 12 ∧ CJ x.spool
    ·simp -implicitDefEqProofs only [hlt, Jz q, eq_self, decide_true, decide_false, go_sem, hh, seval]
     with_reducible repeat' (first | apply ai | intro _ | ((first | apply s1 | apply s3 | apply s4) <;> intro hb <;> simp -implicitDefEqProofs only [hb, go_sem, hh, seval] <;> try simp only [qz] at hb))
     all_goals (try simp only [maxLen, tn, Ae, Ac, lm] at *)
     all_goals first | with_reducible rfl | omega | with_reducible assumption | (show _ = true; rfl) | contradiction | decide | exact hx1.2.2.2 | skip
     refine ⟨⟨(i + 1, (Li x ((H3 w e).2.getD i default) w.now).1), by dsimp only; omega, zK.1, zK.2.1, zK.2.2.trans hx3, (kD (by omega)).symm.trans hv⟩, by dsimp only; omega, ?_⟩
     simp -implicitDefEqProofs only [Jz q, go_sem, hh, seval]
     first | (simp; done) | skip
    ·simp -implicitDefEqProofs only [hlt, Jy q, eq_self, decide_true, decide_false, go_sem, hh, seval]
     with_reducible repeat' (first | apply ai | intro _ | ((first | apply s1 | apply s3 | apply s4) <;> intro hb <;> simp -implicitDefEqProofs only [hb, go_sem, hh, seval] <;> try simp only [qz] at hb))
     all_goals (try simp only [maxLen, tn, Ae, Ac, lm] at *)
     all_goals first | with_reducible rfl | omega | with_reducible assumption | (show _ = true; rfl) | contradiction | decide | exact hx1.2.2.2 | skip
     refine ⟨⟨(i + 1, (Li x ((H3 w e).2.getD i default) w.now).1), by dsimp only; omega, zK.1, zK.2.1, zK.2.2.trans hx3, (kD (by omega)).symm.trans hv⟩, by dsimp only; omega, ?_⟩
     simp -implicitDefEqProofs only [Jy q, go_sem, hh, seval]
     first | (simp; done) | skip
   ·rw [wR (by omega)] at hv
    subst hv
    simp -implicitDefEqProofs only [hlt, eq_self, decide_true, decide_false, go_sem, hh, seval]
    with_reducible repeat' (first | apply ai | intro _ | ((first | apply s1 | apply s3 | apply s4) <;> intro hb <;> simp -implicitDefEqProofs only [hb, go_sem, hh, seval] <;> try simp only [qz] at hb))
    all_goals (try simp only [maxLen, tn, Ae, Ac, lm] at *)
    all_goals first | with_reducible rfl | omega | with_reducible assumption | (show _ = true; rfl) | contradiction | decide | skip
    refine AF [] (ι := {p : Nat × Hs // p.1 ≤ (H3 w e).1.length ∧ Fc p.2 ∧ EX (1000000 + p.1) p.2 ∧ p.2.conf = (Ar w e.host).conf ∧ (∀ j, p.1 ≤ j → j < (JL w e).to.length → CQ p.2.spool e.id ((JL w e).to.getD j default)) ∧ (e.lose = true → p.2 = (Ar w e.host)) ∧ iQ e.id w.now ((JL w e).to.drop p.1) ((H3 w e).1.drop p.1) p.2 = iQ e.id w.now (JL w e).to (H3 w e).1 (Ar w e.host)}) (fun p => ⟨[(2, .pb 1002 0), (3, .pb 1003 0), (4, .pb 1004 0), (6, .pb 1006 0), (9, .pb 1009 0), (10, .t (.sl 1 ((H3 w e).1.map A9))), (15, .t (.v (.int .i64 p.1.1)))], [(1002, some (.box [.h 1900, .t (.v (.int .i64 w.now)), .t (.v (.int .i64 w.marks)), .h 2900])), (1003, some (.box ((C0 e).map .t))), (1004, some (.box [.nil, .t (.v (.int .i64 0)), .t (.v (.int .i64 0)), .nil])), (1006, some (.box ((Ak p.1.2).map .t))), (1009, some (.box [.t (.v (.string (JL w e).frm.user)), .t (.v (.string (JL w e).frm.domain)), .t (.sl 2 ((JL w e).to.map Az)), .t (.sl 1 ((JL w e).body.map AH))])), (1900, some (.arr false 7 ((w.hosts.set e.to.toNat (w3 w e)).map Ak))), (2900, some (.arr true 3 (w.given.map Ax)))]⟩) (fun p => (H3 w e).1.length - p.1.1) ⟨(0, (Ar w e.host)), Nat.zero_le _, a1, a2, rfl, fun j _ hj => ht _ (AE hj), fun _ => rfl, rfl⟩ rfl ?_ ?_
    ·simp -implicitDefEqProofs only [go_sem, hh, seval]
     first | (simp; done) | skip
    ·rintro ⟨⟨k, y⟩, hk, y1, y2, y3, y4, y5, hv⟩
     dsimp only at hk y1 y2 y3 y4 y5 hv
     have yo := DS y1 y2 (by omega)
     have ysp := y1.2.2.2
     by_cases hex : k < (H3 w e).1.length ∧ e.lose = false
     ·obtain ⟨hk1, hk2⟩ := hex
      have hk3 : (k : Int) < (H3 w e).1.length := by omega
      have htd := y4 k (Nat.le_refl _) (by omega)
      have z := YZ (out := (H3 w e).1.getD k default) y1 y2 htd hw2
      simp -implicitDefEqProofs only [hk3, hk2, Bool.not_false, eq_self, decide_true, decide_false, go_sem, hh, seval]
      with_reducible repeat' (first | apply ai | intro _ | ((first | apply s1 | apply s3 | apply s4) <;> intro hb <;> simp -implicitDefEqProofs only [hb, go_sem, hh, seval] <;> try simp only [qz] at hb))
      all_goals (try simp only [maxLen, tn, Ae, Ac, lm] at *)
      all_goals first | with_reducible rfl | omega | with_reducible assumption | (show _ = true; rfl) | contradiction | decide | exact yo.2.1 | exact htd.1 | exact htd.2 | exact .inr ⟨yo, hw2⟩ | (rw [hk2]; done) | skip
      refine ⟨⟨(k + 1, IV y e.id ((JL w e).to.getD k default) ((H3 w e).1.getD k default) w.now), by dsimp only; omega, z.1, z.2.1, z.2.2.1.trans y3, fun j hj hj2 => z.2.2.2 _ (y4 j (by dsimp only at hj; omega) hj2) (fun u => vN hd (by dsimp only at hj; omega) hj2 u), fun u => (by rw [hk2] at u; cases u), (wT (by omega) hk1).symm.trans hv⟩, by dsimp only; omega, ?_⟩
      simp -implicitDefEqProofs only [go_sem, hh, seval]
      first | (simp only [IV]; simp [hk2]; done) | (simp only [IV, hk2]; simp; done) | skip
     ·have hA : s8 w e = y := by
        unfold s8
        cases hlo : e.lose
        ·rw [wS (Nat.le_of_not_lt fun u => hex ⟨u, hlo⟩)] at hv
         exact hv.symm
        ·exact (y5 hlo).symm
      have hR : wz w e = ⟨(w.hosts.set e.to.toNat (w3 w e)).set e.host.toNat y, w.now, w.marks, w.given⟩ := by unfold wz; rw [hA]; rfl
      rw [hR]
      simp -implicitDefEqProofs only [List.length_set, eq_self, decide_true, decide_false, go_sem, hh, seval]
      with_reducible repeat' (first | apply ai | intro _ | ((first | apply s1 | apply s3 | apply s4) <;> intro hb <;> simp -implicitDefEqProofs only [hb, go_sem, hh, seval] <;> try simp only [qz] at hb))
      all_goals (try simp only [maxLen, tn, Ae, Ac, lm] at *)
      all_goals first | with_reducible rfl | omega | with_reducible assumption | (show _ = true; rfl) | contradiction | decide | exact absurd ⟨by omega, by assumption⟩ hex | skip
 all_goals
  try rw [e_]
  simp -implicitDefEqProofs only [Tryz.f207, h0', h1', h2, h3, eq_self, decide_true, decide_false, Int.reduceEq, go_sem, hh, seval]
  with_reducible repeat' (first | apply ai | intro _ | ((first | apply s1 | apply s3 | apply s4) <;> intro hb <;> simp -implicitDefEqProofs only [hb, go_sem, hh, seval] <;> try simp only [qz] at hb))
  all_goals (try simp only [maxLen, tn, lm] at *)
  all_goals first | rfl | omega | decide | with_reducible assumption | (show AY _ = true; rfl) | exact Hf (by assumption) | contradiction | (show _ = T.v _; rfl) | (show _ = List.map Ax _; rfl) | skip
end
theorem KQ {d k : Nat} {xs : List AV} {s : AS} : Ed d (.agg xs) .any k s = (s, k) := rfl
theorem IC {xs : List AV} : Ba (.agg xs) .any = [] := rfl
noncomputable def zg (w : Wd) (k : Int) : Wd := Uh w k (BW (Ar w k).conf w.now (Ar w k).spool.items (Ar w k))
def zk (w : Wd) (n : Int) : Wd := ⟨w.hosts, w.now + n, w.marks, w.given⟩
open Classical in
noncomputable def Ei (w : Wd) (e : Ev) : Wd × Bool :=
 if e.kind = 1 then Uo w e
 else if e.kind = 2 then ZH w e
 else if e.kind = 3 then Ki w e
 else if e.kind = 4 then (if 0 ≤ e.host ∧ e.host ≤ (w.hosts.length : Int) - 1 then (zg w e.host, true) else (w, false))
 else if e.kind = 5 then (if (1 ≤ e.id ∧ e.id ≤ 40) ∧ ¬ w.now + e.id > 9999 then (zk w e.id, true) else (w, false))
 else (w, false)
section
variable {w : Wd} {e : Ev}
theorem uP (h : e.kind = 1) : Ei w e = Uo w e := if_pos h
theorem uQ (h : e.kind = 2) : Ei w e = ZH w e := by unfold Ei; rw [if_neg (by omega), if_pos h]
theorem uR (h : e.kind = 3) : Ei w e = Ki w e := by unfold Ei; rw [if_neg (by omega), if_neg (by omega), if_pos h]
theorem uS (h : e.kind = 4) (q : 0 ≤ e.host ∧ e.host ≤ (w.hosts.length : Int) - 1) : Ei w e = (zg w e.host, true) := by unfold Ei; rw [if_neg (by omega), if_neg (by omega), if_neg (by omega), if_pos h, if_pos q]
theorem oZ (h : e.kind = 4) (q : ¬ (0 ≤ e.host ∧ e.host ≤ (w.hosts.length : Int) - 1)) : Ei w e = (w, false) := by unfold Ei; rw [if_neg (by omega), if_neg (by omega), if_neg (by omega), if_pos h, if_neg q]
theorem uU (h : e.kind = 5) (q : (1 ≤ e.id ∧ e.id ≤ 40) ∧ ¬ w.now + e.id > 9999) : Ei w e = (zk w e.id, true) := by unfold Ei; rw [if_neg (by omega), if_neg (by omega), if_neg (by omega), if_neg (by omega), if_pos h, if_pos q]
theorem Wf (h : e.kind = 5) (q : ¬ ((1 ≤ e.id ∧ e.id ≤ 40) ∧ ¬ w.now + e.id > 9999)) : Ei w e = (w, false) := by unfold Ei; rw [if_neg (by omega), if_neg (by omega), if_neg (by omega), if_neg (by omega), if_pos h, if_neg q]
theorem uO (h : ¬ e.kind = 1 ∧ ¬ e.kind = 2 ∧ ¬ e.kind = 3 ∧ ¬ e.kind = 4 ∧ ¬ e.kind = 5) : Ei w e = (w, false) := by unfold Ei; rw [if_neg h.1, if_neg h.2.1, if_neg h.2.2.1, if_neg h.2.2.2.1, if_neg h.2.2.2.2]
end
theorem Wg {N : Nat} {w : Wd} {e : Ev} (q : HN N w) (hN : N ≤ 1000000) : HN (N + 40) (Ei w e).1 := by
 have hl := q.2.1
 unfold Ei
 split
 ·exact wC q
 ·split
  ·exact BE (wU q) (by omega)
  ·split
   ·exact BE (pM q) (by omega)
   ·split
    ·split
     ·rename_i h
      have hH := q.1 _ (AE (xs := w.hosts) (j := e.host.toNat) (by omega))
      have z := Xq (w := w.now) hH.1 hH.2 (by omega)
      exact Nt (BE q (by omega)) z.1 z.2
     ·exact BE q (by omega)
    ·split
     ·split
      ·rename_i h
       refine BE (N := N) ⟨q.1, q.2.1, ?_, q.2.2.2⟩ (by omega)
       have := q.2.2.1
       show 0 ≤ w.now + e.id ∧ w.now + e.id ≤ 9999
       omega
      ·exact BE q (by omega)
     ·exact BE q (by omega)
def Vx : Mt := GW (lc sh (lc P6.ag l0)) (fun p => HN 1000000 p.1 ∧ aA p.2.1) (fun p => ([.any, P6.ag.enc p.2.1], .tup [Ho (Ei p.1 p.2.1).1, .t (.v (.bool (Ei p.1 p.2.1).2))]))
section
attribute [local go_sem] mb mc md tq Lb KQ IC List.append_assoc List.nil_append CS GA F9 Ho.eq_1 G8.eq_1 AZ BQ LK lm AS.opn AS.cls AS.nilb AS.renb AS.up Bool.not_false Bool.not_true List.set_set List.set_cons_zero List.set_cons_succ List.set_nil List.mem_singleton forall_eq tn List.map_nil
set_option maxHeartbeats 6400000 in
theorem d9 {G : Gt} (hG : Ai G) (hh : G.e 206 = AM mb ∧ G.e 207 = AM mc ∧ G.e 208 = AM md ∧ G.e 69 = AA 1 tq ∧ G.e 36 = AA 0 Lb) : Gd G 188 (AM Vx) := by
 refine JF (dp := fun _ => true) (fn := Tryz.f188) (n := 2) rfl hG ?_
 rintro ⟨w, e, ⟨⟩⟩ hpre
 obtain ⟨hw, hE⟩ := hpre
 try dsimp only at hw hE ⊢
 have hl := hw.2.1
 refine BP (e.kind = 1) (fun k1 => have k1' := decide_eq_true k1; have e_ : Ei w e = _ := uP k1; have k2' := tv; have k3' := tv; have k4' := tv; have h2' := tv; have k5' := tv; ?_) (fun k1 => have k1' := decide_eq_false k1; BP (e.kind = 2) (fun k2 => have k2' := decide_eq_true k2; have e_ : Ei w e = _ := uQ k2; have k3' := tv; have k4' := tv; have h2' := tv; have k5' := tv; ?_) (fun k2 => have k2' := decide_eq_false k2; BP (e.kind = 3) (fun k3 => have k3' := decide_eq_true k3; have e_ : Ei w e = _ := uR k3; have k4' := tv; have h2' := tv; have k5' := tv; ?_) (fun k3 => have k3' := decide_eq_false k3; BP (e.kind = 4) (fun k4 => have k4' := decide_eq_true k4; BP (0 ≤ e.host ∧ e.host ≤ (w.hosts.length : Int) - 1) (fun h2 => have h2' := Ap h2; ?w1) (fun h2 => have h2' := AN h2; have e_ : Ei w e = _ := oZ k4 h2; have k5' := tv; ?_)) (fun k4 => have k4' := decide_eq_false k4; BP (e.kind = 5) (fun k5 => have k5' := decide_eq_true k5; BP (1 ≤ e.id ∧ e.id ≤ 40) (fun h2 => have h2' := Ap h2; ?w2) (fun h2 => have h2' := AN h2; have e_ : Ei w e = _ := Wf k5 (fun q => h2 q.1); ?_)) (fun k5 => have k5' := decide_eq_false k5; have e_ : Ei w e = _ := uO ⟨k1, k2, k3, k4, k5⟩; have h2' := tv; ?_)))))
 case w1 =>
  have hH := hw.1 _ (AE (xs := w.hosts) (j := e.host.toNat) (by omega))
  have oa := DS hH.1 hH.2 (by decide)
  have hs := Db.2 hH.1
  rw [uS k4 h2]
  simp -implicitDefEqProofs only [Tryz.f188, k1', k2', k3', k4', h2', eq_self, decide_true, decide_false, Int.reduceEq, go_sem, hh, seval]
  with_reducible repeat' (first | apply ai | intro _ | ((first | apply s1 | apply s3 | apply s4) <;> intro hb <;> simp -implicitDefEqProofs only [hb, go_sem, hh, seval] <;> try simp only [qz] at hb))
  all_goals (try simp only [maxLen, tn, Ae, Ac] at *)
  all_goals first | rfl | omega | decide | with_reducible assumption | (show AY _ = true; rfl) | exact Hf (by assumption) | contradiction | (show _ = T.v _; rfl) | (show _ = List.map Ax _; rfl) | (show _ = List.map Ak _; rfl) | skip
 case w2 =>
  have hnw := hw.2.2.1
  by_cases h3 : w.now + e.id > 9999
  ·rw [Wf k5 (fun q => q.2 h3)]
   simp -implicitDefEqProofs only [Tryz.f188, h3, k1', k2', k3', k4', k5', h2', eq_self, decide_true, decide_false, Int.reduceEq, go_sem, hh, seval]
   with_reducible repeat' (first | apply ai | intro _ | ((first | apply s1 | apply s3 | apply s4) <;> intro hb <;> simp -implicitDefEqProofs only [hb, go_sem, hh, seval] <;> try simp only [qz] at hb))
   all_goals (try simp only [maxLen, tn, Ae, Ac] at *)
   all_goals first | rfl | omega | decide | with_reducible assumption | (show AY _ = true; rfl) | exact Hf (by assumption) | contradiction | (show _ = T.v _; rfl) | (show _ = List.map Ax _; rfl) | skip
  ·rw [uU k5 ⟨h2, h3⟩]
   simp -implicitDefEqProofs only [Tryz.f188, h3, k1', k2', k3', k4', k5', h2', eq_self, decide_true, decide_false, Int.reduceEq, go_sem, hh, seval]
   with_reducible repeat' (first | apply ai | intro _ | ((first | apply s1 | apply s3 | apply s4) <;> intro hb <;> simp -implicitDefEqProofs only [hb, go_sem, hh, seval] <;> try simp only [qz] at hb))
   all_goals (try simp only [maxLen, tn, Ae, Ac] at *)
   all_goals first | rfl | omega | decide | with_reducible assumption | (show AY _ = true; rfl) | exact Hf (by assumption) | contradiction | (show _ = T.v _; rfl) | (show _ = List.map Ax _; rfl) | (show _ = List.map Ak _; rfl) | skip
 all_goals
  try rw [e_]
  simp -implicitDefEqProofs only [Tryz.f188, k1', k2', k3', k4', h2', k5', eq_self, decide_true, decide_false, Int.reduceEq, go_sem, hh, seval]
  with_reducible repeat' (first | apply ai | intro _ | ((first | apply s1 | apply s3 | apply s4) <;> intro hb <;> simp -implicitDefEqProofs only [hb, go_sem, hh, seval] <;> try simp only [qz] at hb))
  all_goals (try simp only [maxLen, tn, lm] at *)
  all_goals first | rfl | omega | decide | with_reducible assumption | (show AY _ = true; rfl) | exact Hf (by assumption) | contradiction | (show _ = T.v _; rfl) | (show _ = List.map Ax _; rfl) | skip
end
def P2 (cs : List Cf) : Prop := Gl J1 cs ∧ (∀ c ∈ cs, Jw c) ∧ kq (FV cs)
theorem P3 {cs : List Cf} (h : P2 cs) : HN 0 (FV cs) := by
 have hl : (FV cs).hosts.length = cs.length := lm _
 have h4 := h.2.2.2.2.2.1
 refine ⟨fun x hx => ?_, ⟨by omega, by omega⟩, ⟨Int.le_refl _, by show (0 : Int) ≤ 9999; decide⟩, ⟨Int.le_refl _, by show (0 : Int) ≤ 60; decide⟩, Nat.le_refl _, fun _ q => by cases q⟩
 obtain ⟨c, hc, rfl⟩ := List.mem_map.1 hx
 exact S6 (h.2.1 c hc)
def Vw : Ct := Aq (lc H4.asl l0) (fun p => P2 p.1) (fun p => Ho (FV p.1))
section
attribute [local go_sem] tx tz xh Ho.eq_1 CS Ae Ac lm List.length_append List.length_cons List.length_nil List.map_append List.map_nil Nat.zero_add AZ AS.opn AS.cls AS.nilb AS.renb AS.up Bool.not_false Bool.not_true List.set_set List.set_cons_zero List.set_cons_succ List.set_nil List.mem_singleton forall_eq tn List.nil_append
set_option maxHeartbeats 3200000 in
theorem d8 {G : Gt} (hG : Ai G) (hh : G.e 88 = AA 0 tx ∧ G.e 90 = AA 0 tz ∧ G.e 58 = AA 0 xh) : Gd G 187 (AA 1 Vw) := by
 refine Lr (dp := fun n => !(Nat.beq n 100002 || Nat.beq n 100004 || Nat.beq n 27 || Nat.beq n 28)) (fn := Tryz.f187) (n := 1) rfl hG ?_
 rintro ⟨cs, ⟨⟩⟩ hpre
 have hok : Gl J1 cs := hpre.1
 have hcs := hpre.2.1
 have hwd := hpre.2.2
 have hmx := hok.1
 have b8 := Ap hwd
 simp -implicitDefEqProofs only [Tryz.f187, go_sem, hh, seval]
 with_reducible repeat' (first | apply ai | intro _ | ((first | apply s1 | apply s3 | apply s4) <;> intro hb <;> simp -implicitDefEqProofs only [hb, go_sem, hh, seval] <;> try simp only [qz] at hb))
 all_goals first | with_reducible rfl | omega | with_reducible assumption | (show _ = true; rfl) | contradiction | decide | skip
 refine AU (Le.nilb 1003 0 1901 false 7 rfl rfl rfl) ?_
 simp -implicitDefEqProofs only [go_sem, hh, seval]
 refine AU (Le.nilb 1003 3 1902 true 3 rfl rfl rfl) (AR ?_)
 simp -implicitDefEqProofs only [go_sem, hh, seval]
 with_reducible repeat' (first | apply ai | intro _ | ((first | apply s1 | apply s3 | apply s4) <;> intro hb <;> simp -implicitDefEqProofs only [hb, go_sem, hh, seval] <;> try simp only [qz] at hb))
 all_goals first | with_reducible rfl | omega | with_reducible assumption | (show _ = true; rfl) | contradiction | decide | skip
 refine AF [] (ι := {i : Nat // i ≤ cs.length}) (fun p => ⟨[(0, .t (.sl 3 (cs.map Co))), (2, .pb 1002 0), (3, .pb 1003 0), (4, .t (.v (.int .i64 p.1)))], [(1002, some (.box [.nil, .t (.v (.int .i64 0)), .t (.v (.int .i64 0)), .nil])), (1003, some (.box [.h 1901, .t (.v (.int .i64 0)), .t (.v (.int .i64 0)), .h 1902])), (1902, some (.arr true 3 [])), (1901, some (.arr false 7 (((cs.map EH).take p.1).map Ak)))]⟩) (fun p => cs.length - p.1) ⟨0, by simp⟩ rfl ?_ ?_
 ·simp -implicitDefEqProofs only [go_sem, hh, seval]
  first | (simp; done) | skip
 ·rintro ⟨i, hi⟩
  try dsimp only at hi
  have hlen : ((cs.map EH).take i).length = i := by simp; omega
  by_cases hlt : (i : Int) < cs.length
  ·have hc := hok.at (i := i) (by omega)
   have b7 := Ap (hcs _ (AE (xs := cs) (j := i) (by omega)))
   simp -implicitDefEqProofs only [hlt, b7, decide_true, tn, go_sem, hh, seval]
   with_reducible repeat' (first | apply ai | intro _ | ((first | apply s1 | apply s3 | apply s4) <;> intro hb <;> simp -implicitDefEqProofs only [hb, go_sem, hh, seval] <;> try simp only [qz] at hb))
   all_goals (try simp only [maxLen, tn] at *)
   all_goals first | with_reducible rfl | omega | with_reducible assumption | (show _ = true; rfl) | contradiction | decide | skip
   refine AU (Le.lastR 1028 rfl (.cons (.same _) (.cons (.same _) (.cons (.same _) (.cons (.same _) (.cons (.nil 5) (.cons (.nil 3) (.cons (.nil 3) .nil)))))))) ?_
   simp -implicitDefEqProofs only [go_sem, hh, seval]
   refine AU (Le.renb 1003 0 1028 1901 rfl rfl rfl rfl) (AR ?_)
   simp -implicitDefEqProofs only [go_sem, hh, seval]
   with_reducible repeat' (first | apply ai | intro _ | ((first | apply s1 | apply s3 | apply s4) <;> intro hb <;> simp -implicitDefEqProofs only [hb, go_sem, hh, seval] <;> try simp only [qz] at hb))
   all_goals first | with_reducible rfl | omega | with_reducible assumption | (show _ = true; rfl) | contradiction | decide | skip
   refine ⟨⟨i + 1, by omega⟩, by dsimp only; omega, ?_⟩
   simp -implicitDefEqProofs only [go_sem, hh, seval]
   simp only [Y9 (f := EH) (show i < cs.length by omega)]
   with_reducible repeat' (first | apply ai | intro _ | ((first | apply s1 | apply s3 | apply s4) <;> intro hb <;> simp -implicitDefEqProofs only [hb, go_sem, hh, seval] <;> try simp only [qz] at hb))
   all_goals first | rfl | (simp; done) | skip
  ·have htk : (cs.map EH).take i = cs.map EH := List.take_of_length_le (by rw [lm]; omega)
   have hnw : (⟨cs.map EH, 0, 0, []⟩ : Wd) = FV cs := rfl
   simp -implicitDefEqProofs only [hlt, decide_false, htk, hnw, b8, go_sem, hh, seval]
   with_reducible repeat' (first | apply ai | intro _ | ((first | apply s1 | apply s3 | apply s4) <;> intro hb <;> simp -implicitDefEqProofs only [hb, go_sem, hh, seval] <;> try simp only [qz] at hb))
   all_goals (try simp only [maxLen, tn] at *)
   all_goals first | with_reducible rfl | omega | with_reducible assumption | (show _ = true; rfl) | contradiction | decide | rfl | exact absurd hwd (by assumption) | skip
end
noncomputable def rd : List Ev → Wd → Wd
 | [], w => w
 | e :: t, w => rd t (Ei w e).1
theorem jx : ∀ (es : List Ev) {w : Wd} {N : Nat}, HN N w → N + 40 * es.length ≤ 1000000 → HN (N + 40 * es.length) (rd es w)
 | [], w, N, q, _ => q
 | e :: t, w, N, q, h => by
   rw [List.length_cons] at h ⊢
   have z := jx t (Wg (e := e) q (by omega)) (by omega)
   have e2 : N + 40 * (t.length + 1) = N + 40 + 40 * t.length := by omega
   rw [e2]; exact z
theorem vZ {es : List Ev} {i : Nat} {w : Wd} (h : i < es.length) : rd (es.drop i) w = rd (es.drop (i + 1)) (Ei w (es.getD i default)).1 := by rw [AX h]; rfl
noncomputable def va (cs : List Cf) (es : List Ev) : Wd := rd (es.take 40) (FV cs)
theorem vd {cs : List Cf} (h : P2 cs) (es : List Ev) : HN 1600 (va cs es) := by
 have hl : (es.take 40).length ≤ 40 := by rw [List.length_take]; omega
 exact BE (jx (es.take 40) (P3 h) (by omega)) (by omega)
theorem Ny (w : Wd) : Ho w = .agg [.o false 7 (w.hosts.map Ak), .t (.v (.int .i64 w.now)), .t (.v (.int .i64 w.marks)), .o true 3 (w.given.map Ax)] := rfl
def mL : Ct := Aq (lc H4.asl (lc P6.asl l0)) (fun p => P2 p.1 ∧ (∀ e ∈ p.2.1, aA e) ∧ p.2.1.length ≤ 1000000) (fun p => Ho (va p.1 p.2.1))
section
attribute [local go_sem] Vw Vx Ny KQ IC GA F9 CS lm AZ G8.eq_1 AS.opn AS.cls AS.nilb AS.renb AS.up Bool.not_false Bool.not_true List.set_set List.set_cons_zero List.set_cons_succ List.set_nil List.mem_singleton forall_eq tn List.map_nil List.nil_append
set_option maxHeartbeats 3200000 in
theorem dj {G : Gt} (hG : Ai G) (hh : G.e 187 = AA 1 Vw ∧ G.e 188 = AM Vx) : Gd G 159 (AA 1 mL) := by
 refine Lr (dp := fun n => !(Nat.beq n 100002 || Nat.beq n 100004)) (fn := Tryz.f159) (n := 2) rfl hG ?_
 rintro ⟨cs, es, ⟨⟩⟩ hpre
 obtain ⟨hc, he, hel⟩ := hpre
 try dsimp only at hc he hel ⊢
 have hl40 : (es.take 40).length ≤ 40 := by rw [List.length_take]; omega
 have hle : (es.take 40).length ≤ es.length := by rw [List.length_take]; omega
 simp -implicitDefEqProofs only [Tryz.f159, go_sem, hh, seval]
 with_reducible repeat' (first | apply ai | intro _ | ((first | apply s1 | apply s3 | apply s4) <;> intro hb <;> simp -implicitDefEqProofs only [hb, go_sem, hh, seval] <;> try simp only [qz] at hb))
 all_goals first | with_reducible rfl | omega | with_reducible assumption | (show _ = true; rfl) | contradiction | decide | skip
 refine AU (Le.renb 1005 0 1010 1901 rfl rfl rfl rfl) ?_
 simp -implicitDefEqProofs only [go_sem, hh, seval]
 refine AU (Le.renb 1005 3 2010 1902 rfl rfl rfl rfl) (AR ?_)
 simp -implicitDefEqProofs only [go_sem, hh, seval]
 with_reducible repeat' (first | apply ai | intro _ | ((first | apply s1 | apply s3 | apply s4) <;> intro hb <;> simp -implicitDefEqProofs only [hb, go_sem, hh, seval] <;> try simp only [qz] at hb))
 all_goals first | with_reducible rfl | omega | with_reducible assumption | (show _ = true; rfl) | contradiction | decide | skip
 refine AF [] (ι := {p : Nat × Wd // p.1 ≤ (es.take 40).length ∧ HN (40 * p.1) p.2 ∧ rd ((es.take 40).drop p.1) p.2 = va cs es}) (fun p => ⟨[(1, .t (.sl 10 (es.map C0))), (4, .pb 1004 0), (5, .pb 1005 0), (6, .t (.v (.int .i64 p.1.1)))], [(1004, some (.box [.nil, .t (.v (.int .i64 0)), .t (.v (.int .i64 0)), .nil])), (1005, some (.box [.h 1901, .t (.v (.int .i64 p.1.2.now)), .t (.v (.int .i64 p.1.2.marks)), .h 1902])), (1901, some (.arr false 7 (p.1.2.hosts.map Ak))), (1902, some (.arr true 3 (p.1.2.given.map Ax)))]⟩) (fun p => (es.take 40).length - p.1.1) ⟨(0, FV cs), Nat.zero_le _, P3 hc, rfl⟩ rfl ?_ ?_
 ·simp -implicitDefEqProofs only [go_sem, hh, seval]
  first | (simp; done) | skip
 ·rintro ⟨⟨i, x⟩, hi, hx, hv⟩
  dsimp only at hi hx hv
  have hxl := hx.2.1
  have hlm : (es.take 40).length = min 40 es.length := List.length_take
  by_cases hlt : i < (es.take 40).length
  ·have hi1 : (i : Int) < es.length := by omega
   have hi2 : (i : Int) < 40 := by omega
   have hi3 : ((x.hosts.length : Nat) : Int) > 0 := by omega
   have hE := he _ (AE (xs := es) (j := i) (by omega))
   have hg : (es.take 40).getD i default = es.getD i default := by simp [List.getD_eq_getElem?_getD, List.getElem?_take, show i < 40 by omega]
   simp -implicitDefEqProofs only [hi1, hi2, hi3, eq_self, decide_true, decide_false, go_sem, hh, seval]
   with_reducible repeat' (first | apply ai | intro _ | ((first | apply s1 | apply s3 | apply s4) <;> intro hb <;> simp -implicitDefEqProofs only [hb, go_sem, hh, seval] <;> try simp only [qz] at hb))
   all_goals (try simp only [maxLen, tn] at *)
   all_goals first | with_reducible rfl | omega | with_reducible assumption | (show _ = true; rfl) | contradiction | decide | exact BE hx (by omega) | exact ⟨BE hx (by omega), hE⟩ | skip
   refine AU (Le.renb 1005 0 1033 1901 rfl rfl rfl rfl) ?_
   simp -implicitDefEqProofs only [go_sem, hh, seval]
   refine AU (Le.renb 1005 3 2033 1902 rfl rfl rfl rfl) (AR ?_)
   simp -implicitDefEqProofs only [go_sem, hh, seval]
   with_reducible repeat' (first | apply ai | intro _ | ((first | apply s1 | apply s3 | apply s4) <;> intro hb <;> simp -implicitDefEqProofs only [hb, go_sem, hh, seval] <;> try simp only [qz] at hb))
   all_goals first | with_reducible rfl | omega | with_reducible assumption | (show _ = true; rfl) | contradiction | decide | skip
   refine ⟨⟨(i + 1, (Ei x (es.getD i default)).1), by dsimp only; omega, by dsimp only; rw [Nat.mul_succ]; exact Wg hx (by omega), by rw [← hg]; exact (vZ hlt).symm.trans hv⟩, by dsimp only; omega, ?_⟩
   simp -implicitDefEqProofs only [go_sem, hh, seval]
   first | (simp; done) | skip
  ·rw [List.drop_of_length_le (by omega), rd] at hv
   subst hv
   simp -implicitDefEqProofs only [go_sem, hh, seval]
   with_reducible repeat' (first | apply ai | intro _ | ((first | apply s1 | apply s3 | apply s4) <;> intro hb <;> simp -implicitDefEqProofs only [hb, go_sem, hh, seval] <;> try simp only [qz] at hb))
   all_goals (try simp only [maxLen, tn] at *)
   all_goals first | with_reducible rfl | omega | with_reducible assumption | (show _ = true; rfl) | contradiction | decide | exact absurd (by omega) hlt | skip
end
def Lq (w : Wd) (h n : Int) (q : Rd) : Ev × Rd :=
 if Al q 9 = 0 ∨ Al q 9 = 1 then (⟨1, h, 0, 0, Gh (q.nx 1) [40, 40, 12, 17, 18], false, YD (q.nx 2)⟩, PJ (q.nx 2))
 else if Al q 9 = 2 ∨ Al q 9 = 3 ∨ Al q 9 = 4 then (⟨2, h, Al (q.nx 1) w.hosts.length, n, Gh (q.nx 2) [40, 40, 40, 3, 9, 13, 14, 15, 16, 17, 18], decide (Al (q.nx 3) 6 = 0), UR⟩, q.nx 4)
 else if Al q 9 = 5 then (⟨3, h, 0, n, 0, decide (Al (q.nx 1) 2 = 0), UR⟩, q.nx 2)
 else if Al q 9 = 6 then (⟨4, h, 0, 0, 0, false, UR⟩, q.nx 1)
 else if Al q 9 = 7 then (⟨Gh (q.nx 1) [0, 6, 5], 0, 0, Gh (q.nx 2) [1, 40, 0, 41], 0, false, UR⟩, q.nx 3)
 else (⟨5, 0, 0, 1 + Al (q.nx 1) 12, 0, false, UR⟩, q.nx 2)
def ua (r : Rd) (xs : List Im) : Int × Rd :=
 if (xs.length : Int) > 0 then (if Al (r.nx 2) 6 > 0 then ((xs.getD (Al (r.nx 3) xs.length).toNat default).id, r.nx 4) else (Al (r.nx 1) 4 + 1, r.nx 3)) else (Al (r.nx 1) 4 + 1, r.nx 2)
abbrev Pz (r : Rd) (w : Wd) : List Im := (w.hosts.getD (Al r w.hosts.length).toNat default).spool.items
def CK (r : Rd) (w : Wd) : Ev × Rd := Lq w (Al r w.hosts.length) (ua r (Pz r w)).1 (ua r (Pz r w)).2
section
variable {r q : Rd} {w : Wd} {h n : Int}
theorem W9 (c : Al q 9 = 0) : Lq w h n q = (⟨1, h, 0, 0, Gh (q.nx 1) [40, 40, 12, 17, 18], false, YD (q.nx 2)⟩, PJ (q.nx 2)) := if_pos (.inl c)
theorem XA (c : Al q 9 = 1) : Lq w h n q = (⟨1, h, 0, 0, Gh (q.nx 1) [40, 40, 12, 17, 18], false, YD (q.nx 2)⟩, PJ (q.nx 2)) := if_pos (.inr c)
theorem HX (c : Al q 9 = 2 ∨ Al q 9 = 3 ∨ Al q 9 = 4) : Lq w h n q = (⟨2, h, Al (q.nx 1) w.hosts.length, n, Gh (q.nx 2) [40, 40, 40, 3, 9, 13, 14, 15, 16, 17, 18], decide (Al (q.nx 3) 6 = 0), UR⟩, q.nx 4) := by unfold Lq; rw [if_neg (by omega), if_pos c]
theorem XB (c : Al q 9 = 5) : Lq w h n q = (⟨3, h, 0, n, 0, decide (Al (q.nx 1) 2 = 0), UR⟩, q.nx 2) := by unfold Lq; rw [if_neg (by omega), if_neg (by omega), if_pos c]
theorem XC (c : Al q 9 = 6) : Lq w h n q = (⟨4, h, 0, 0, 0, false, UR⟩, q.nx 1) := by unfold Lq; rw [if_neg (by omega), if_neg (by omega), if_neg (by omega), if_pos c]
theorem XD (c : Al q 9 = 7) : Lq w h n q = (⟨Gh (q.nx 1) [0, 6, 5], 0, 0, Gh (q.nx 2) [1, 40, 0, 41], 0, false, UR⟩, q.nx 3) := by unfold Lq; rw [if_neg (by omega), if_neg (by omega), if_neg (by omega), if_neg (by omega), if_pos c]
theorem XE (c : ¬ Al q 9 = 0 ∧ ¬ Al q 9 = 1 ∧ ¬ Al q 9 = 2 ∧ ¬ Al q 9 = 3 ∧ ¬ Al q 9 = 4 ∧ ¬ Al q 9 = 5 ∧ ¬ Al q 9 = 6 ∧ ¬ Al q 9 = 7) : Lq w h n q = (⟨5, 0, 0, 1 + Al (q.nx 1) 12, 0, false, UR⟩, q.nx 2) := by unfold Lq; rw [if_neg (by omega), if_neg (by omega), if_neg (by omega), if_neg (by omega), if_neg (by omega)]
theorem Ge (a : ((Pz r w).length : Int) > 0) (b : Al (r.nx 2) 6 > 0) : CK r w = Lq w (Al r w.hosts.length) ((Pz r w).getD (Al (r.nx 3) (Pz r w).length).toNat default).id (r.nx 4) := by unfold CK ua; rw [if_pos a, if_pos b]
theorem Gf (a : ((Pz r w).length : Int) > 0) (b : ¬ Al (r.nx 2) 6 > 0) : CK r w = Lq w (Al r w.hosts.length) (Al (r.nx 1) 4 + 1) (r.nx 3) := by unfold CK ua; rw [if_pos a, if_neg b]
theorem Gg (a : ¬ ((Pz r w).length : Int) > 0) : CK r w = Lq w (Al r w.hosts.length) (Al (r.nx 1) 4 + 1) (r.nx 2) := by unfold CK ua; rw [if_neg a]
end
theorem K5 : Lj UR := ⟨⟨by show (0 : Nat) ≤ 1048576; decide, by show (0 : Nat) ≤ 1048576; decide⟩, ⟨by show ((0 : Nat) : Int) ≤ 1048576; decide, fun _ q => by cases q⟩, ⟨by show ((0 : Nat) : Int) ≤ 1048576; decide, fun _ q => by cases q⟩⟩
theorem Qu {w : Wd} {h n : Int} {q : Rd} (h0 : 0 ≤ q.p) (h1 : q.p ≤ 999990000) : aA (Lq w h n q).1 ∧ (Lq w h n q).2.b = q.b ∧ q.p ≤ (Lq w h n q).2.p ∧ (Lq w h n q).2.p ≤ q.p + 30 := by
 have hm := jp (r := q.nx 2) (by rw [AK]; omega) (by rw [AK]; omega)
 rw [AK, B2] at hm
 have hk := NX (r := q.nx 2) (by rw [AK]; omega) (by rw [AK]; omega)
 have g1 : 0 ≤ Gh (q.nx 1) [40, 40, 12, 17, 18] ∧ Gh (q.nx 1) [40, 40, 12, 17, 18] ≤ 1000 := by
  have z := Jn (r := q.nx 1) (l := [40, 40, 12, 17, 18]) (by rw [AK]; omega) (by rw [AK]; omega) (by decide)
  simp only [List.mem_cons, List.not_mem_nil, or_false] at z
  omega
 have g2 : 0 ≤ Gh (q.nx 2) [40, 40, 40, 3, 9, 13, 14, 15, 16, 17, 18] ∧ Gh (q.nx 2) [40, 40, 40, 3, 9, 13, 14, 15, 16, 17, 18] ≤ 1000 := by
  have z := Jn (r := q.nx 2) (l := [40, 40, 40, 3, 9, 13, 14, 15, 16, 17, 18]) (by rw [AK]; omega) (by rw [AK]; omega) (by decide)
  simp only [List.mem_cons, List.not_mem_nil, or_false] at z
  omega
 unfold Lq
 split
 ·exact ⟨⟨JZ hk, g1⟩, hm.1, by dsimp only; omega, by dsimp only; omega⟩
 ·split
  ·exact ⟨⟨K5, g2⟩, B2 .., by dsimp only; rw [AK]; omega, by dsimp only; rw [AK]; omega⟩
  ·split
   ·exact ⟨⟨K5, by show (0 : Int) ≤ 0; decide, by show (0 : Int) ≤ 1000; decide⟩, B2 .., by dsimp only; rw [AK]; omega, by dsimp only; rw [AK]; omega⟩
   ·split
    ·exact ⟨⟨K5, by show (0 : Int) ≤ 0; decide, by show (0 : Int) ≤ 1000; decide⟩, B2 .., by dsimp only; rw [AK]; omega, by dsimp only; rw [AK]; omega⟩
    ·split
     ·exact ⟨⟨K5, by show (0 : Int) ≤ 0; decide, by show (0 : Int) ≤ 1000; decide⟩, B2 .., by dsimp only; rw [AK]; omega, by dsimp only; rw [AK]; omega⟩
     ·exact ⟨⟨K5, by show (0 : Int) ≤ 0; decide, by show (0 : Int) ≤ 1000; decide⟩, B2 .., by dsimp only; rw [AK]; omega, by dsimp only; rw [AK]; omega⟩
theorem W8 {r : Rd} {w : Wd} (h0 : 0 ≤ r.p) (h1 : r.p ≤ 999980000) : aA (CK r w).1 ∧ (CK r w).2.b = r.b ∧ r.p ≤ (CK r w).2.p ∧ (CK r w).2.p ≤ r.p + 34 := by
 by_cases a0 : ((Pz r w).length : Int) > 0
 ·by_cases a1 : Al (r.nx 2) 6 > 0
  ·rw [Ge a0 a1]
   have z := Qu (w := w) (h := Al r w.hosts.length) (n := ((Pz r w).getD (Al (r.nx 3) (Pz r w).length).toNat default).id) (q := r.nx 4) (by rw [AK]; omega) (by rw [AK]; omega)
   rw [AK, B2] at z
   exact ⟨z.1, z.2.1, by omega, by omega⟩
  ·rw [Gf a0 a1]
   have z := Qu (w := w) (h := Al r w.hosts.length) (n := Al (r.nx 1) 4 + 1) (q := r.nx 3) (by rw [AK]; omega) (by rw [AK]; omega)
   rw [AK, B2] at z
   exact ⟨z.1, z.2.1, by omega, by omega⟩
 ·rw [Gg a0]
  have z := Qu (w := w) (h := Al r w.hosts.length) (n := Al (r.nx 1) 4 + 1) (q := r.nx 2) (by rw [AK]; omega) (by rw [AK]; omega)
  rw [AK, B2] at z
  exact ⟨z.1, z.2.1, by omega, by omega⟩
def ma : Mt := GW (lc EL (lc iZ.ag l0)) (fun p => (0 ≤ p.1.p ∧ p.1.p ≤ 999970000) ∧ 1 ≤ p.2.1.hosts.length ∧ p.2.1.hosts.length ≤ 1000) (fun p => ([EL.enc (CK p.1 p.2.1).2, iZ.ag.enc p.2.1], P6.ag.enc (CK p.1 p.2.1).1))
section
attribute [local go_sem] HV Ts Vy AK B2 BD BK BS By Cg Bo Br A7 lm List.length_append List.length_cons List.length_nil List.map_append List.map_nil Nat.zero_add List.nil_append AS.opn AS.cls AS.nilb AS.renb AS.up Bool.not_false Bool.not_true List.set_set List.set_cons_zero List.set_cons_succ List.set_nil List.mem_singleton forall_eq Fo JB JC JD FT FU
set_option maxHeartbeats 6400000 in
theorem eG {G : Gt} (hG : Ai G) (hh : G.e 71 = AM HV ∧ G.e 24 = AM Ts ∧ G.e 189 = AM Vy) : Gd G 205 (AM ma) := by
 refine JF (dp := fun _ => true) (fn := Tryz.f205) (n := 2) rfl hG ?_
 rintro ⟨r, w, ⟨⟩⟩ hpre
 obtain ⟨⟨h1, h2⟩, hl1, hl2⟩ := hpre
 try dsimp only at h1 h2 hl1 hl2 ⊢
 have hb := B7 (r := r) (n := w.hosts.length) h1 (by omega)
 have hb3 : ((Pz r w).length : Int) > 0 → 0 ≤ Al (r.nx 3) (Pz r w).length ∧ Al (r.nx 3) (Pz r w).length < (Pz r w).length := fun q => by
  have z := B7 (r := r.nx 3) (n := (Pz r w).length) (by rw [AK]; omega) (by rw [AK]; omega)
  exact ⟨z.1, z.2 (by omega)⟩
 have ht : ∀ k : Int, 0 ≤ k → k ≤ 9 → 0 ≤ Al (r.nx k) 12 ∧ Al (r.nx k) 12 < 12 := fun k a b => by
  have z := B7 (r := r.nx k) (n := 12) (by rw [AK]; omega) (by rw [AK]; omega)
  exact ⟨z.1, z.2 (by decide)⟩
 have ht3 := ht 3 (by decide) (by decide)
 have ht4 := ht 4 (by decide) (by decide)
 have ht5 := ht 5 (by decide) (by decide)
 have hb1 := B7 (r := r.nx 1) (n := 4) (by rw [AK]; omega) (by rw [AK]; omega)
 refine BP (((Pz r w).length : Int) > 0) (fun a0 => BP (Al (r.nx 2) 6 > 0) (fun a1 => BP (Al (r.nx 4) 9 = 0) (fun c0 => have e_ : CK r w = _ := (Ge a0 a1).trans (W9 c0); have c1 := tv; have c2 := tv; have c3 := tv; have c4 := tv; have c5 := tv; have c6 := tv; have c7 := tv; ?_) (fun c0 => BP (Al (r.nx 4) 9 = 1) (fun c1 => have e_ : CK r w = _ := (Ge a0 a1).trans (XA c1); have c2 := tv; have c3 := tv; have c4 := tv; have c5 := tv; have c6 := tv; have c7 := tv; ?_) (fun c1 => BP (Al (r.nx 4) 9 = 2) (fun c2 => have e_ : CK r w = _ := (Ge a0 a1).trans (HX (.inl c2)); have c3 := tv; have c4 := tv; have c5 := tv; have c6 := tv; have c7 := tv; ?_) (fun c2 => BP (Al (r.nx 4) 9 = 3) (fun c3 => have e_ : CK r w = _ := (Ge a0 a1).trans (HX (.inr (.inl c3))); have c4 := tv; have c5 := tv; have c6 := tv; have c7 := tv; ?_) (fun c3 => BP (Al (r.nx 4) 9 = 4) (fun c4 => have e_ : CK r w = _ := (Ge a0 a1).trans (HX (.inr (.inr c4))); have c5 := tv; have c6 := tv; have c7 := tv; ?_) (fun c4 => BP (Al (r.nx 4) 9 = 5) (fun c5 => have e_ : CK r w = _ := (Ge a0 a1).trans (XB c5); have c6 := tv; have c7 := tv; ?_) (fun c5 => BP (Al (r.nx 4) 9 = 6) (fun c6 => have e_ : CK r w = _ := (Ge a0 a1).trans (XC c6); have c7 := tv; ?_) (fun c6 => BP (Al (r.nx 4) 9 = 7) (fun c7 => have e_ : CK r w = _ := (Ge a0 a1).trans (XD c7); ?_) (fun c7 => have e_ : CK r w = _ := (Ge a0 a1).trans (XE ⟨c0, c1, c2, c3, c4, c5, c6, c7⟩); ?_))))))))) (fun a1 => BP (Al (r.nx 3) 9 = 0) (fun c0 => have e_ : CK r w = _ := (Gf a0 a1).trans (W9 c0); have c1 := tv; have c2 := tv; have c3 := tv; have c4 := tv; have c5 := tv; have c6 := tv; have c7 := tv; ?_) (fun c0 => BP (Al (r.nx 3) 9 = 1) (fun c1 => have e_ : CK r w = _ := (Gf a0 a1).trans (XA c1); have c2 := tv; have c3 := tv; have c4 := tv; have c5 := tv; have c6 := tv; have c7 := tv; ?_) (fun c1 => BP (Al (r.nx 3) 9 = 2) (fun c2 => have e_ : CK r w = _ := (Gf a0 a1).trans (HX (.inl c2)); have c3 := tv; have c4 := tv; have c5 := tv; have c6 := tv; have c7 := tv; ?_) (fun c2 => BP (Al (r.nx 3) 9 = 3) (fun c3 => have e_ : CK r w = _ := (Gf a0 a1).trans (HX (.inr (.inl c3))); have c4 := tv; have c5 := tv; have c6 := tv; have c7 := tv; ?_) (fun c3 => BP (Al (r.nx 3) 9 = 4) (fun c4 => have e_ : CK r w = _ := (Gf a0 a1).trans (HX (.inr (.inr c4))); have c5 := tv; have c6 := tv; have c7 := tv; ?_) (fun c4 => BP (Al (r.nx 3) 9 = 5) (fun c5 => have e_ : CK r w = _ := (Gf a0 a1).trans (XB c5); have c6 := tv; have c7 := tv; ?_) (fun c5 => BP (Al (r.nx 3) 9 = 6) (fun c6 => have e_ : CK r w = _ := (Gf a0 a1).trans (XC c6); have c7 := tv; ?_) (fun c6 => BP (Al (r.nx 3) 9 = 7) (fun c7 => have e_ : CK r w = _ := (Gf a0 a1).trans (XD c7); ?_) (fun c7 => have e_ : CK r w = _ := (Gf a0 a1).trans (XE ⟨c0, c1, c2, c3, c4, c5, c6, c7⟩); ?_)))))))))) (fun a0 => BP (Al (r.nx 2) 9 = 0) (fun c0 => have e_ : CK r w = _ := (Gg a0).trans (W9 c0); have a1 := tv; have c1 := tv; have c2 := tv; have c3 := tv; have c4 := tv; have c5 := tv; have c6 := tv; have c7 := tv; ?_) (fun c0 => BP (Al (r.nx 2) 9 = 1) (fun c1 => have e_ : CK r w = _ := (Gg a0).trans (XA c1); have a1 := tv; have c2 := tv; have c3 := tv; have c4 := tv; have c5 := tv; have c6 := tv; have c7 := tv; ?_) (fun c1 => BP (Al (r.nx 2) 9 = 2) (fun c2 => have e_ : CK r w = _ := (Gg a0).trans (HX (.inl c2)); have a1 := tv; have c3 := tv; have c4 := tv; have c5 := tv; have c6 := tv; have c7 := tv; ?_) (fun c2 => BP (Al (r.nx 2) 9 = 3) (fun c3 => have e_ : CK r w = _ := (Gg a0).trans (HX (.inr (.inl c3))); have a1 := tv; have c4 := tv; have c5 := tv; have c6 := tv; have c7 := tv; ?_) (fun c3 => BP (Al (r.nx 2) 9 = 4) (fun c4 => have e_ : CK r w = _ := (Gg a0).trans (HX (.inr (.inr c4))); have a1 := tv; have c5 := tv; have c6 := tv; have c7 := tv; ?_) (fun c4 => BP (Al (r.nx 2) 9 = 5) (fun c5 => have e_ : CK r w = _ := (Gg a0).trans (XB c5); have a1 := tv; have c6 := tv; have c7 := tv; ?_) (fun c5 => BP (Al (r.nx 2) 9 = 6) (fun c6 => have e_ : CK r w = _ := (Gg a0).trans (XC c6); have a1 := tv; have c7 := tv; ?_) (fun c6 => BP (Al (r.nx 2) 9 = 7) (fun c7 => have e_ : CK r w = _ := (Gg a0).trans (XD c7); have a1 := tv; ?_) (fun c7 => have e_ : CK r w = _ := (Gg a0).trans (XE ⟨c0, c1, c2, c3, c4, c5, c6, c7⟩); have a1 := tv; ?_)))))))))
 all_goals
  try rw [e_]
  simp -implicitDefEqProofs only [Tryz.f205, a0, a1, c0, c1, c2, c3, c4, c5, c6, c7, UR, eq_self, decide_true, decide_false, Int.reduceEq, go_sem, hh, Int.reduceAdd, seval]
  with_reducible repeat' (first | apply ai | intro _ | ((first | apply s1 | apply s3 | apply s4) <;> intro hb <;> simp -implicitDefEqProofs only [hb, go_sem, hh, Int.reduceAdd, seval] <;> try simp only [qz] at hb))
  all_goals (try simp only [maxLen, tn, AK, B2] at *)
  all_goals first | rfl | omega | decide | with_reducible assumption | (show AY _ = true; rfl) | exact Hf (by assumption) | contradiction | exact (hb3 a0).1 | exact (hb3 a0).2 | (rename_i q; simp only [List.mem_cons, List.not_mem_nil, or_false] at q ⊢; omega) | skip
end
theorem QB {N : Nat} {w : Wd} (q : HN N w) (h : N ≤ 1048576) : aH w := ⟨⟨by have := q.2.1.2; omega, fun x hx => DS (q.1 x hx).1 (q.1 x hx).2 h⟩, ⟨by have := q.2.2.2.2.1; omega, q.2.2.2.2.2⟩⟩
abbrev VB := Rd × Wd × List Ev
open Classical in
noncomputable def XF (x : VB) : VB :=
 if (Ei x.2.1 (CK x.1 x.2.1).1).2 = true then ((CK x.1 x.2.1).2, (Ei x.2.1 (CK x.1 x.2.1).1).1, x.2.2 ++ [(CK x.1 x.2.1).1])
 else if Al (CK x.1 x.2.1).2 6 > 0 then ((CK x.1 x.2.1).2.nx 1, x.2.1, x.2.2)
 else ((CK x.1 x.2.1).2.nx 1, (Ei x.2.1 (CK x.1 x.2.1).1).1, x.2.2 ++ [(CK x.1 x.2.1).1])
theorem jW {r : Rd} {w : Wd} {l : List Ev} (h : (Ei w (CK r w).1).2 = true) : XF (r, w, l) = ((CK r w).2, (Ei w (CK r w).1).1, l ++ [(CK r w).1]) := if_pos h
theorem jV {r : Rd} {w : Wd} {l : List Ev} (h : (Ei w (CK r w).1).2 = false) (c : Al (CK r w).2 6 > 0) : XF (r, w, l) = ((CK r w).2.nx 1, w, l) := by
 unfold XF; rw [if_neg (by show ¬ (Ei w (CK r w).1).2 = true; rw [h]; exact Bool.false_ne_true), if_pos c]
theorem jU {r : Rd} {w : Wd} {l : List Ev} (h : (Ei w (CK r w).1).2 = false) (c : ¬ Al (CK r w).2 6 > 0) : XF (r, w, l) = ((CK r w).2.nx 1, (Ei w (CK r w).1).1, l ++ [(CK r w).1]) := by
 unfold XF; rw [if_neg (by show ¬ (Ei w (CK r w).1).2 = true; rw [h]; exact Bool.false_ne_true), if_neg c]
noncomputable def NK : Nat → VB → VB
 | 0, x => x
 | n + 1, x => NK n (XF x)
def si (k : Nat) (p : Int) (x : VB) : Prop := HN (40 * k) x.2.1 ∧ p ≤ x.1.p ∧ x.1.p ≤ p + 40 * k ∧ x.2.2.length ≤ k ∧ ∀ e ∈ x.2.2, aA e
theorem SW {k : Nat} {p : Int} {x : VB} (q : si k p x) (hk : k ≤ 1000) (h0 : 0 ≤ p) (h1 : p ≤ 999900000) : si (k + 1) p (XF x) := by
 obtain ⟨r, w, l⟩ := x
 obtain ⟨q1, q2, q3, q4, q5⟩ := q
 dsimp only at q1 q2 q3 q4 q5
 obtain ⟨z1, z2, z3, z4⟩ := W8 (r := r) (w := w) (by omega) (by omega)
 have zw : HN (40 * (k + 1)) (Ei w (CK r w).1).1 := by rw [Nat.mul_succ]; exact Wg q1 (by omega)
 have zl : ∀ e ∈ l ++ [(CK r w).1], aA e := fun e he => by
  rcases List.mem_append.1 he with he | he
  ·exact q5 e he
  ·rw [List.mem_singleton] at he; subst he; exact z1
 have zn : (l ++ [(CK r w).1]).length ≤ k + 1 := by rw [List.length_append]; show l.length + 1 ≤ k + 1; omega
 cases hd : (Ei w (CK r w).1).2
 ·by_cases c : Al (CK r w).2 6 > 0
  ·rw [jV hd c]; exact ⟨BE q1 (by omega), by dsimp only; rw [AK]; omega, by dsimp only; rw [AK]; omega, by dsimp only; omega, q5⟩
  ·rw [jU hd c]; exact ⟨zw, by dsimp only; rw [AK]; omega, by dsimp only; rw [AK]; omega, zn, zl⟩
 ·rw [jW hd]; exact ⟨zw, by dsimp only; omega, by dsimp only; omega, zn, zl⟩
theorem XG {p : Int} (h0 : 0 ≤ p) (h1 : p ≤ 999900000) : ∀ (n : Nat) {k : Nat} {x : VB}, si k p x → k + n ≤ 1000 → si (k + n) p (NK n x)
 | 0, k, x, q, _ => q
 | n + 1, k, x, q, h => by
   have e : k + (n + 1) = k + 1 + n := by omega
   rw [e]
   exact XG h0 h1 n (SW q (by omega) h0 h1) (by omega)
theorem Qw {n i : Nat} {x : VB} (h : i < n) : NK (n - i) x = NK (n - (i + 1)) (XF x) := by
 have e : n - i = (n - (i + 1)) + 1 := by omega
 rw [e]; rfl
theorem jT {r : Rd} {cs : List Cf} (h : P2 cs) : si 0 r.p (r, FV cs, []) := ⟨P3 h, Int.le_refl _, by dsimp only; omega, Nat.le_refl _, fun _ q => by cases q⟩
noncomputable def O1 (r : Rd) (cs : List Cf) (m : Int) : VB := NK m.toNat (r, FV cs, [])
theorem Je (r : Rd) : P2 (Df r) := by
 have e : FG (Al r 5) = Df r := rfl
 obtain ⟨h1, h2⟩ := SO (Al r 5)
 obtain ⟨_, h3, h4⟩ := NA (Al r 5)
 have h5 := be (Al r 5)
 rw [e] at h1 h4 h5
 exact ⟨⟨by omega, fun c hc => Rm (h1 c hc)⟩, h1, h5⟩
def mV : Mt := GW (lc EL (lc H4.asl (lc BA l0))) (fun p => (0 ≤ p.1.p ∧ p.1.p ≤ 999800000) ∧ P2 p.2.1 ∧ 0 ≤ p.2.2.1 ∧ p.2.2.1 ≤ 1000) (fun p => ([EL.enc (O1 p.1 p.2.1 p.2.2.1).1, H4.asl.enc p.2.1, BA.enc p.2.2.1], .o false 10 ((O1 p.1 p.2.1 p.2.2.1).2.2.map C0)))
section
attribute [local go_sem] HV Vw ma Vr Vx AK B2 BD BK BS By Cg Bo Br A7 lm List.length_append List.length_cons List.length_nil List.map_append List.map_nil Nat.zero_add List.nil_append AS.opn AS.cls AS.nilb AS.renb AS.up Bool.not_false Bool.not_true List.set_set List.set_cons_zero List.set_cons_succ List.set_nil List.mem_singleton forall_eq Ny KQ IC GA F9 G8.eq_1 CS AZ
set_option maxHeartbeats 6400000 in
theorem d7 {G : Gt} (hG : Ai G) (hh : G.e 71 = AM HV ∧ G.e 187 = AA 1 Vw ∧ G.e 205 = AM ma ∧ G.e 158 = AA 1 Vr ∧ G.e 188 = AM Vx) : Gd G 186 (AM mV) := by
 refine JF (dp := fun n => !(Nat.beq n 100002 || Nat.beq n 100005 || Nat.beq n 15 || Nat.beq n 41 || Nat.beq n 42)) (fn := Tryz.f186) (n := 3) rfl hG ?_
 rintro ⟨r, cs, m, ⟨⟩⟩ hpre
 obtain ⟨⟨h1, h2⟩, hc, hm0, hm1⟩ := hpre
 try dsimp only at h1 h2 hc hm0 hm1 ⊢
 simp -implicitDefEqProofs only [Tryz.f186, go_sem, hh, Int.reduceAdd, seval]
 with_reducible repeat' (first | apply ai | intro _ | ((first | apply s1 | apply s3 | apply s4) <;> intro hb <;> simp -implicitDefEqProofs only [hb, go_sem, hh, Int.reduceAdd, seval] <;> try simp only [qz] at hb))
 all_goals first | with_reducible rfl | omega | with_reducible assumption | (show _ = true; rfl) | contradiction | decide | skip
 refine AU (Le.frzL [1014, 2014]) (AR ?_)
 simp -implicitDefEqProofs only [go_sem, hh, Int.reduceAdd, seval]
 with_reducible repeat' (first | apply ai | intro _ | ((first | apply s1 | apply s3 | apply s4) <;> intro hb <;> simp -implicitDefEqProofs only [hb, go_sem, hh, Int.reduceAdd, seval] <;> try simp only [qz] at hb))
 all_goals first | with_reducible rfl | omega | with_reducible assumption | (show _ = true; rfl) | contradiction | decide | skip
 refine AF [(8, 908, false, 10)] (ι := {p : Nat × VB // p.1 ≤ m.toNat ∧ si p.1 r.p p.2 ∧ NK (m.toNat - p.1) p.2 = O1 r cs m}) (fun p => ⟨[(0, .pb 1900 0), (2, .t (.v (.int .i64 m))), (7, .pb 1007 0), (8, .h 908), (9, .t (.v (.int .i64 p.1.1)))], [(1900, some (.box [.t (.sl 1 (p.1.2.1.b.map CT)), .t (.v (.int .i64 p.1.2.1.p))])), (1007, some (.box [.t (.sl 7 (p.1.2.2.1.hosts.map Ak)), .t (.v (.int .i64 p.1.2.2.1.now)), .t (.v (.int .i64 p.1.2.2.1.marks)), .t (.sl 3 (p.1.2.2.1.given.map Ax))])), (908, some (.arr false 10 (p.1.2.2.2.map C0)))]⟩) (fun p => m.toNat - p.1.1) ⟨(0, (r, FV cs, [])), Nat.zero_le _, jT hc, rfl⟩ rfl ?_ ?_
 ·simp -implicitDefEqProofs only [go_sem, hh, Int.reduceAdd, seval]
  first | (simp; done) | skip
 ·rintro ⟨⟨i, q, w, l⟩, hi, hx, hv⟩
  dsimp only at hi hx hv
  have hxw := BE (M := 1000000) hx.1 (by omega)
  have hxl : 1 ≤ w.hosts.length ∧ w.hosts.length ≤ 4 := hx.1.2.1
  have hxo := QB hx.1 (by omega)
  have hxp : r.p ≤ q.p ∧ q.p ≤ r.p + 40 * i := ⟨hx.2.1, hx.2.2.1⟩
  have hxn : l.length ≤ i := hx.2.2.2.1
  obtain ⟨z1, z2, z3, z4⟩ := W8 (r := q) (w := w) (by omega) (by omega)
  by_cases hlt : i < m.toNat
  ·have hlt2 : (i : Int) < m := by omega
   cases hd : (Ei w (CK q w).1).2
   ·by_cases hp : Al (CK q w).2 6 > 0
    ·simp -implicitDefEqProofs only [hlt2, hd, hp, Bool.not_false, Bool.not_true, eq_self, decide_true, decide_false, go_sem, hh, Int.reduceAdd, seval]
     with_reducible repeat' (first | apply ai | intro _ | ((first | apply s1 | apply s3 | apply s4) <;> intro hb <;> simp -implicitDefEqProofs only [hb, go_sem, hh, Int.reduceAdd, seval] <;> try simp only [qz] at hb))
     all_goals (try simp only [maxLen, tn, lm] at *)
     all_goals first | with_reducible rfl | omega | with_reducible assumption | (show _ = true; rfl) | contradiction | decide | exact ⟨hxw, z1⟩ | skip
     refine AR ?_
     simp -implicitDefEqProofs only [go_sem, hh, Int.reduceAdd, seval]
     with_reducible repeat' (first | apply ai | intro _ | ((first | apply s1 | apply s3 | apply s4) <;> intro hb <;> simp -implicitDefEqProofs only [hb, go_sem, hh, Int.reduceAdd, seval] <;> try simp only [qz] at hb))
     all_goals first | with_reducible rfl | omega | with_reducible assumption | (show _ = true; rfl) | contradiction | decide | skip
     refine ⟨⟨(i + 1, XF (q, w, l)), by dsimp only; omega, SW hx (by omega) h1 (by omega), (Qw hlt).symm.trans hv⟩, by dsimp only; omega, ?_⟩
     simp -implicitDefEqProofs only [go_sem, hh, Int.reduceAdd, seval]
     simp only [jV hd hp, AK, B2]
     first | (simp; done) | skip
    ·simp -implicitDefEqProofs only [hlt2, hd, hp, Bool.not_false, Bool.not_true, eq_self, decide_true, decide_false, go_sem, hh, Int.reduceAdd, seval]
     with_reducible repeat' (first | apply ai | intro _ | ((first | apply s1 | apply s3 | apply s4) <;> intro hb <;> simp -implicitDefEqProofs only [hb, go_sem, hh, Int.reduceAdd, seval] <;> try simp only [qz] at hb))
     all_goals (try simp only [maxLen, tn, lm] at *)
     all_goals first | with_reducible rfl | omega | with_reducible assumption | (show _ = true; rfl) | contradiction | decide | exact ⟨hxw, z1⟩ | skip
     refine AU (Le.frzL [1028, 2028]) (AR ?_)
     simp -implicitDefEqProofs only [go_sem, hh, Int.reduceAdd, seval]
     with_reducible repeat' (first | apply ai | intro _ | ((first | apply s1 | apply s3 | apply s4) <;> intro hb <;> simp -implicitDefEqProofs only [hb, go_sem, hh, Int.reduceAdd, seval] <;> try simp only [qz] at hb))
     all_goals first | with_reducible rfl | omega | with_reducible assumption | (show _ = true; rfl) | contradiction | decide | skip
     refine ⟨⟨(i + 1, XF (q, w, l)), by dsimp only; omega, SW hx (by omega) h1 (by omega), (Qw hlt).symm.trans hv⟩, by dsimp only; omega, ?_⟩
     simp -implicitDefEqProofs only [go_sem, hh, Int.reduceAdd, seval]
     simp only [jU hd hp, AK, B2]
     first | (simp [C0]; done) | skip
   ·simp -implicitDefEqProofs only [hlt2, hd, Bool.not_false, Bool.not_true, eq_self, decide_true, decide_false, go_sem, hh, Int.reduceAdd, seval]
    with_reducible repeat' (first | apply ai | intro _ | ((first | apply s1 | apply s3 | apply s4) <;> intro hb <;> simp -implicitDefEqProofs only [hb, go_sem, hh, Int.reduceAdd, seval] <;> try simp only [qz] at hb))
    all_goals (try simp only [maxLen, tn, lm] at *)
    all_goals first | with_reducible rfl | omega | with_reducible assumption | (show _ = true; rfl) | contradiction | decide | exact ⟨hxw, z1⟩ | skip
    refine AU (Le.frzL [1028, 2028]) (AR ?_)
    simp -implicitDefEqProofs only [go_sem, hh, Int.reduceAdd, seval]
    with_reducible repeat' (first | apply ai | intro _ | ((first | apply s1 | apply s3 | apply s4) <;> intro hb <;> simp -implicitDefEqProofs only [hb, go_sem, hh, Int.reduceAdd, seval] <;> try simp only [qz] at hb))
    all_goals first | with_reducible rfl | omega | with_reducible assumption | (show _ = true; rfl) | contradiction | decide | skip
    refine ⟨⟨(i + 1, XF (q, w, l)), by dsimp only; omega, SW hx (by omega) h1 (by omega), (Qw hlt).symm.trans hv⟩, by dsimp only; omega, ?_⟩
    simp -implicitDefEqProofs only [go_sem, hh, Int.reduceAdd, seval]
    simp only [jW hd, AK, B2]
    first | (simp [C0]; done) | skip
  ·have hlt2 : ¬ (i : Int) < m := by omega
   have e0 : m.toNat - i = 0 := by omega
   rw [e0, NK] at hv
   obtain ⟨rfl, rfl, rfl⟩ : q = (O1 r cs m).1 ∧ w = (O1 r cs m).2.1 ∧ l = (O1 r cs m).2.2 := by rw [← hv]; exact ⟨rfl, rfl, rfl⟩
   simp -implicitDefEqProofs only [hlt2, eq_self, decide_true, decide_false, go_sem, hh, Int.reduceAdd, seval]
   with_reducible repeat' (first | apply ai | intro _ | ((first | apply s1 | apply s3 | apply s4) <;> intro hb <;> simp -implicitDefEqProofs only [hb, go_sem, hh, Int.reduceAdd, seval] <;> try simp only [qz] at hb))
   all_goals (try simp only [maxLen, tn] at *)
   all_goals first | with_reducible rfl | omega | with_reducible assumption | (show _ = true; rfl) | contradiction | decide | skip
end
noncomputable def JK (r : Rd) : VB := O1 (r.nx 2) (Df r) (Gh (r.nx 1) [0, 12, 30, 60])
theorem ve {r : Rd} (h : 0 ≤ r.p) (h1 : r.p ≤ 999999900) : 0 ≤ Gh (r.nx 1) [0, 12, 30, 60] ∧ Gh (r.nx 1) [0, 12, 30, 60] ≤ 60 := by
 have z := Jn (r := r.nx 1) (l := [0, 12, 30, 60]) (by rw [AK]; omega) (by rw [AK]; omega) (by decide)
 simp only [List.mem_cons, List.not_mem_nil, or_false] at z
 omega
theorem TE {r : Rd} (h : 0 ≤ r.p) (h1 : r.p ≤ 999800000) : (∀ e ∈ (JK r).2.2, aA e) ∧ (JK r).2.2.length ≤ 60 ∧ r.p ≤ (JK r).1.p ∧ (JK r).1.p ≤ r.p + 2500 := by
 have hm := ve h (by omega)
 have z := XG (p := (r.nx 2).p) (by rw [AK]; omega) (by rw [AK]; omega) (Gh (r.nx 1) [0, 12, 30, 60]).toNat (jT (r := r.nx 2) (Je r)) (by omega)
 obtain ⟨_, z2, z3, z4, z5⟩ := z
 rw [AK] at z2 z3
 exact ⟨z5, Nat.le_trans z4 (by omega), by show r.p ≤ (NK _ _).1.p; omega, by show (NK _ _).1.p ≤ _; omega⟩
theorem ox (r : Rd) : O1 (r.nx 2) (Df r) (Gh (r.nx 1) [0, 12, 30, 60]) = JK r := rfl
noncomputable def D6 (r : Rd) : Wd := va (Df r) (JK r).2.2
theorem wm (r : Rd) : va (Df r) (JK r).2.2 = D6 r := rfl
theorem LX (r : Rd) : HN 1600 (D6 r) := vd (Je r) _
def mK : Mt := GW (lc EL l0) (fun p => 0 ≤ p.1.p ∧ p.1.p ≤ 999700000) (fun p => ([EL.enc (JK p.1).1], .tup [.t (.sl 3 ((Df p.1).map Co)), .o false 10 ((JK p.1).2.2.map C0)]))
section
attribute [local go_sem] Ts Vu mV AK B2 BD BK BS By Cg Bo Br A7 lm List.length_append List.length_cons List.length_nil List.map_append List.map_nil Nat.zero_add List.nil_append AS.opn AS.cls AS.nilb AS.renb AS.up Bool.not_false Bool.not_true List.set_set List.set_cons_zero List.set_cons_succ List.set_nil List.mem_singleton forall_eq CS Fo ox JB JC JD FT FU
set_option maxHeartbeats 1600000 in
theorem dh {G : Gt} (hG : Ai G) (hh : G.e 24 = AM Ts ∧ G.e 172 = AM Vu ∧ G.e 186 = AM mV) : Gd G 157 (AM mK) := by
 refine JF (dp := fun n => !(Nat.beq n 100002)) (fn := Tryz.f157) (n := 1) rfl hG ?_
 rintro ⟨r, ⟨⟩⟩ hpre
 obtain ⟨h1, h2⟩ := hpre
 try dsimp only at h1 h2 ⊢
 have hm := ve h1 (by omega)
 have hc := Je r
 simp -implicitDefEqProofs only [Tryz.f157, go_sem, hh, Int.reduceAdd, seval]
 with_reducible repeat' (first | apply ai | intro _ | ((first | apply s1 | apply s3 | apply s4) <;> intro hb <;> simp -implicitDefEqProofs only [hb, go_sem, hh, Int.reduceAdd, seval] <;> try simp only [qz] at hb))
 all_goals first | with_reducible rfl | omega | with_reducible assumption | (show _ = true; rfl) | contradiction | decide | skip
 refine AU (Le.frzL [1006]) (AR ?_)
 simp -implicitDefEqProofs only [go_sem, hh, Int.reduceAdd, seval]
 with_reducible repeat' (first | apply ai | intro _ | ((first | apply s1 | apply s3 | apply s4) <;> intro hb <;> simp -implicitDefEqProofs only [hb, go_sem, hh, Int.reduceAdd, seval] <;> try simp only [qz] at hb))
 all_goals (try simp only [maxLen, tn] at *)
 all_goals first | with_reducible rfl | omega | with_reducible assumption | (show _ = true; rfl) | contradiction | decide | skip
end
def lq : Mt := GW (lc EL l0) (fun p => 0 ≤ p.1.p ∧ p.1.p ≤ 999600000) (fun p => ([EL.enc (JK p.1).1], Ho (D6 p.1)))
section
attribute [local go_sem] mK mL Vr AK B2 BD BK BS By Cg Bo Br A7 lm List.length_append List.length_cons List.length_nil List.map_append List.map_nil Nat.zero_add List.nil_append AS.opn AS.cls AS.nilb AS.renb AS.up Bool.not_false Bool.not_true List.set_set List.set_cons_zero List.set_cons_succ List.set_nil List.mem_singleton forall_eq CS Ny wm
set_option maxHeartbeats 1600000 in
theorem cx {G : Gt} (hG : Ai G) (hh : G.e 157 = AM mK ∧ G.e 159 = AA 1 mL ∧ G.e 158 = AA 1 Vr) : Gd G 111 (AM lq) := by
 refine JF (dp := fun _ => true) (fn := Tryz.f111) (n := 1) rfl hG ?_
 rintro ⟨r, ⟨⟩⟩ hpre
 obtain ⟨h1, h2⟩ := hpre
 try dsimp only at h1 h2 ⊢
 have hc := Je r
 obtain ⟨he, hl, _, _⟩ := TE h1 (by omega)
 have hw := QB (LX r) (by decide)
 simp -implicitDefEqProofs only [Tryz.f111, go_sem, hh, Int.reduceAdd, seval]
 with_reducible repeat' (first | apply ai | intro _ | ((first | apply s1 | apply s3 | apply s4) <;> intro hb <;> simp -implicitDefEqProofs only [hb, go_sem, hh, Int.reduceAdd, seval] <;> try simp only [qz] at hb))
 all_goals (try simp only [maxLen, tn] at *)
 all_goals first | with_reducible rfl | omega | with_reducible assumption | (show _ = true; rfl) | contradiction | decide | exact ⟨hc, he, by omega⟩ | exact he _ (by assumption) | skip
end
noncomputable def EE (r : Rd) : Rd := (JK r).1
noncomputable def bF (r : Rd) : Int := Al (EE r) (D6 r).hosts.length
noncomputable def Fd (r : Rd) : Int := Al ((EE r).nx 1) 14
noncomputable abbrev Tl (r : Rd) : Hs := (D6 r).hosts.getD (bF r).toNat default
noncomputable def aw (r : Rd) : Wd × Rd :=
 if Fd r = 0 then (⟨(D6 r).hosts.set (bF r).toNat ⟨(Tl r).conf, (Jb ((EE r).nx 2)).1, (Tl r).boxes, (Tl r).lost⟩, (D6 r).now, (D6 r).marks, (D6 r).given⟩, (Jb ((EE r).nx 2)).2)
 else if Fd r = 1 then (⟨(D6 r).hosts.set (bF r).toNat ⟨(B4 ((EE r).nx 2)).1, (Tl r).spool, (Tl r).boxes, (Tl r).lost⟩, (D6 r).now, (D6 r).marks, (D6 r).given⟩, (B4 ((EE r).nx 2)).2)
 else if Fd r = 2 then (⟨(D6 r).hosts, Gh ((EE r).nx 2) [-1, 10000, 9990], (D6 r).marks, (D6 r).given⟩, (EE r).nx 3)
 else if Fd r = 3 then (⟨(D6 r).hosts, (D6 r).now, (D6 r).marks, (D6 r).given ++ [⟨OB ((EE r).nx 2) [⟨#[]⟩, ⟨#[73, 100, 58, 32, 57]⟩, ⟨#[73, 100, 58, 32]⟩], (Cc ((EE r).nx 3)).1⟩]⟩, (Cc ((EE r).nx 3)).2)
 else if Fd r = 4 then (⟨[], (D6 r).now, (D6 r).marks, (D6 r).given⟩, (EE r).nx 2)
 else (D6 r, (EE r).nx 2)
section
variable {r : Rd}
theorem bG (c : Fd r = 0) : aw r = (⟨(D6 r).hosts.set (bF r).toNat ⟨(Tl r).conf, (Jb ((EE r).nx 2)).1, (Tl r).boxes, (Tl r).lost⟩, (D6 r).now, (D6 r).marks, (D6 r).given⟩, (Jb ((EE r).nx 2)).2) := if_pos c
theorem bH (c : Fd r = 1) : aw r = (⟨(D6 r).hosts.set (bF r).toNat ⟨(B4 ((EE r).nx 2)).1, (Tl r).spool, (Tl r).boxes, (Tl r).lost⟩, (D6 r).now, (D6 r).marks, (D6 r).given⟩, (B4 ((EE r).nx 2)).2) := by unfold aw; rw [if_neg (by omega), if_pos c]
theorem bI (c : Fd r = 2) : aw r = (⟨(D6 r).hosts, Gh ((EE r).nx 2) [-1, 10000, 9990], (D6 r).marks, (D6 r).given⟩, (EE r).nx 3) := by unfold aw; rw [if_neg (by omega), if_neg (by omega), if_pos c]
theorem bJ (c : Fd r = 3) : aw r = (⟨(D6 r).hosts, (D6 r).now, (D6 r).marks, (D6 r).given ++ [⟨OB ((EE r).nx 2) [⟨#[]⟩, ⟨#[73, 100, 58, 32, 57]⟩, ⟨#[73, 100, 58, 32]⟩], (Cc ((EE r).nx 3)).1⟩]⟩, (Cc ((EE r).nx 3)).2) := by unfold aw; rw [if_neg (by omega), if_neg (by omega), if_neg (by omega), if_pos c]
theorem bK (c : Fd r = 4) : aw r = (⟨[], (D6 r).now, (D6 r).marks, (D6 r).given⟩, (EE r).nx 2) := by unfold aw; rw [if_neg (by omega), if_neg (by omega), if_neg (by omega), if_neg (by omega), if_pos c]
theorem bL (c : ¬ Fd r = 0 ∧ ¬ Fd r = 1 ∧ ¬ Fd r = 2 ∧ ¬ Fd r = 3 ∧ ¬ Fd r = 4) : aw r = (D6 r, (EE r).nx 2) := by unfold aw; rw [if_neg (by omega), if_neg (by omega), if_neg (by omega), if_neg (by omega), if_neg (by omega)]
end
theorem tg (r : Rd) : (JK r).1 = EE r := rfl
theorem tf (r : Rd) : Al (EE r) (D6 r).hosts.length = bF r := rfl
theorem te (r : Rd) : Al ((EE r).nx 1) 14 = Fd r := rfl
theorem SE {r : Rd} (h : 0 ≤ r.p) (h1 : r.p ≤ 999500000) : r.p ≤ (EE r).p ∧ (EE r).p ≤ r.p + 2500 := (TE h (by omega)).2.2
theorem Vc {r : Rd} (h : 0 ≤ r.p) (h1 : r.p ≤ 999500000) : 0 ≤ bF r ∧ bF r < (D6 r).hosts.length := by
 have hq := SE h h1
 have hl := (LX r).2.1
 have z := B7 (r := EE r) (n := (D6 r).hosts.length) (by omega) (by omega)
 exact ⟨z.1, z.2 (by omega)⟩
def xg : Mt := GW (lc EL l0) (fun p => 0 ≤ p.1.p ∧ p.1.p ≤ 999500000) (fun p => ([EL.enc (aw p.1).2], iZ.ag.enc (aw p.1).1))
section
attribute [local go_sem] HV Ts IG lq lr tr lu AK B2 BD BK BS By Cg Bo Br A7 lm List.length_append List.length_cons List.length_nil List.map_append List.map_nil Nat.zero_add List.nil_append AS.opn AS.cls AS.nilb AS.renb AS.up Bool.not_false Bool.not_true List.set_set List.set_cons_zero List.set_cons_succ List.set_nil List.mem_singleton forall_eq tg tf te Ny Fo Gy AZ BQ LK JB JC JD FT FU
set_option maxHeartbeats 6400000 in
theorem p5 {G : Gt} (hG : Ai G) (hh : G.e 71 = AM HV ∧ G.e 24 = AM Ts ∧ G.e 113 = AM IG ∧ G.e 111 = AM lq ∧ G.e 112 = AM lr ∧ G.e 70 = AM tr ∧ G.e 114 = AM lu) : Gd G 51 (AM xg) := by
 refine JF (dp := fun _ => true) (fn := Tryz.f51) (n := 1) rfl hG ?_
 rintro ⟨r, ⟨⟩⟩ hpre
 obtain ⟨h1, h2⟩ := hpre
 try dsimp only at h1 h2 ⊢
 have hq := SE h1 (by omega)
 have hk := Vc h1 (by omega)
 have hl := (LX r).2.1
 have hg := (LX r).2.2.2.2.1
 by_cases c0 : Fd r = 0
 ·skip
  rw [bG c0]
  simp -implicitDefEqProofs only [Tryz.f51, c0, eq_self, decide_true, decide_false, Int.reduceEq, go_sem, hh, Int.reduceAdd, seval]
  with_reducible repeat' (first | apply ai | intro _ | ((first | apply s1 | apply s3 | apply s4) <;> intro hb <;> simp -implicitDefEqProofs only [hb, go_sem, hh, Int.reduceAdd, seval] <;> try simp only [qz] at hb))
  all_goals (try simp only [maxLen, tn] at *)
  all_goals first | with_reducible rfl | omega | with_reducible assumption | (show _ = true; rfl) | contradiction | decide | exact hk.1 | exact hk.2 | skip
 ·by_cases c1 : Fd r = 1
  ·skip
   rw [bH c1]
   simp -implicitDefEqProofs only [Tryz.f51, c0, c1, eq_self, decide_true, decide_false, Int.reduceEq, go_sem, hh, Int.reduceAdd, seval]
   with_reducible repeat' (first | apply ai | intro _ | ((first | apply s1 | apply s3 | apply s4) <;> intro hb <;> simp -implicitDefEqProofs only [hb, go_sem, hh, Int.reduceAdd, seval] <;> try simp only [qz] at hb))
   all_goals (try simp only [maxLen, tn] at *)
   all_goals first | with_reducible rfl | omega | with_reducible assumption | (show _ = true; rfl) | contradiction | decide | exact hk.1 | exact hk.2 | skip
  ·by_cases c2 : Fd r = 2
   ·skip
    rw [bI c2]
    simp -implicitDefEqProofs only [Tryz.f51, c0, c1, c2, eq_self, decide_true, decide_false, Int.reduceEq, go_sem, hh, Int.reduceAdd, seval]
    with_reducible repeat' (first | apply ai | intro _ | ((first | apply s1 | apply s3 | apply s4) <;> intro hb <;> simp -implicitDefEqProofs only [hb, go_sem, hh, Int.reduceAdd, seval] <;> try simp only [qz] at hb))
    all_goals (try simp only [maxLen, tn] at *)
    all_goals first | with_reducible rfl | omega | with_reducible assumption | (show _ = true; rfl) | contradiction | decide | exact hk.1 | exact hk.2 | skip
   ·by_cases c3 : Fd r = 3
    ·skip
     rw [bJ c3]
     simp -implicitDefEqProofs only [Tryz.f51, c0, c1, c2, c3, eq_self, decide_true, decide_false, Int.reduceEq, go_sem, hh, Int.reduceAdd, seval]
     with_reducible repeat' (first | apply ai | intro _ | ((first | apply s1 | apply s3 | apply s4) <;> intro hb <;> simp -implicitDefEqProofs only [hb, go_sem, hh, Int.reduceAdd, seval] <;> try simp only [qz] at hb))
     all_goals (try simp only [maxLen, tn] at *)
     all_goals first | with_reducible rfl | omega | with_reducible assumption | (show _ = true; rfl) | contradiction | decide | exact hk.1 | exact hk.2 | skip
    ·by_cases c4 : Fd r = 4
     ·skip
      rw [bK c4]
      simp -implicitDefEqProofs only [Tryz.f51, c0, c1, c2, c3, c4, eq_self, decide_true, decide_false, Int.reduceEq, go_sem, hh, Int.reduceAdd, seval]
      with_reducible repeat' (first | apply ai | intro _ | ((first | apply s1 | apply s3 | apply s4) <;> intro hb <;> simp -implicitDefEqProofs only [hb, go_sem, hh, Int.reduceAdd, seval] <;> try simp only [qz] at hb))
      all_goals (try simp only [maxLen, tn] at *)
      all_goals first | with_reducible rfl | omega | with_reducible assumption | (show _ = true; rfl) | contradiction | decide | exact hk.1 | exact hk.2 | skip
     ·skip
      rw [bL ⟨c0, c1, c2, c3, c4⟩]
      simp -implicitDefEqProofs only [Tryz.f51, c0, c1, c2, c3, c4, eq_self, decide_true, decide_false, Int.reduceEq, go_sem, hh, Int.reduceAdd, seval]
      with_reducible repeat' (first | apply ai | intro _ | ((first | apply s1 | apply s3 | apply s4) <;> intro hb <;> simp -implicitDefEqProofs only [hb, go_sem, hh, Int.reduceAdd, seval] <;> try simp only [qz] at hb))
      all_goals (try simp only [maxLen, tn] at *)
      all_goals first | with_reducible rfl | omega | with_reducible assumption | (show _ = true; rfl) | contradiction | decide | exact hk.1 | exact hk.2 | skip
end
theorem Od {r : Rd} (h : 0 ≤ r.p) (h1 : r.p ≤ 999999900) : H6 (Cc r).1 ∧ (Cc r).2.b = r.b ∧ r.p + 3 ≤ (Cc r).2.p ∧ (Cc r).2.p ≤ r.p + 4 := by
 have z := CW (.inl (QL (r := r) h (by omega)))
 have key : ∀ (l : List ByteArray), 1 ≤ l.length → (∀ x ∈ l, x.size ≤ 1048576) → Bn (OB (r.nx 3) l) := fun l hl q => q _ (Hg (by rw [AK]; omega) (by rw [AK]; omega) hl)
 by_cases q0 : Al (r.nx 2) 10 = 0
 ·rw [R2 q0]
  exact ⟨⟨key _ (by decide) (by decide), z.2⟩, rfl, by rw [AK]; omega, by rw [AK]; omega⟩
 ·by_cases q1 : Al (r.nx 2) 10 = 1
  ·rw [R3 q0 q1]
   exact ⟨⟨z.1, key _ (by decide) (by decide)⟩, rfl, by rw [AK]; omega, by rw [AK]; omega⟩
  ·by_cases q2 : Al (r.nx 2) 10 = 2
   ·rw [R4 q0 q1 q2]
    exact ⟨CW (.inr ⟨rfl, rfl⟩), rfl, by rw [AK]; omega, by rw [AK]; omega⟩
   ·rw [R5 q0 q1 q2]
    exact ⟨z, rfl, by rw [AK]; omega, by rw [AK]; omega⟩
theorem V5 {c : Cf} (h : Ol c = true) : J1 c ∧ c.own.length ≤ 10 ∧ c.ways.length ≤ 10 := by
 unfold Ol at h
 simp only [Bool.and_eq_true, Nat.ble_eq, List.all_eq_true] at h
 obtain ⟨z1, z2, z3, z4, z5⟩ := h
 exact ⟨⟨by show c.name.size ≤ 1048576; omega, ⟨by omega, fun s hs => by have := z3 s hs; show s.size ≤ 1048576; omega⟩, ⟨by omega, fun w hw => ⟨by have := (z5 w hw).1; show w.ends.size ≤ 1048576; omega, by have := (z5 w hw).2; show w.to.size ≤ 1048576; omega⟩⟩⟩, z2, z4⟩
theorem yZ {r : Rd} {l : List ByteArray} (h0 : 0 ≤ r.p) (h1 : r.p ≤ 1000000000) (hl : l.all (fun s => Nat.ble s.size 100) = true) (hn : 1 ≤ l.length) : Bn (OB r l) := by
 have := List.all_eq_true.1 hl _ (Hg h0 h1 hn)
 simp only [Nat.ble_eq] at this
 show (OB r l).size ≤ 1048576
 omega
theorem Oe {r : Rd} (h : 0 ≤ r.p) (h1 : r.p ≤ 999980000) : J1 (B4 r).1 := by
 obtain ⟨z, z1, z2⟩ := V5 (iy h (show r.p ≤ 999999000 by omega))
 by_cases c0 : Al (r.nx 2) 10 = 0
 ·rw [R6 c0]; exact ⟨yZ (by rw [AK]; omega) (by rw [AK]; omega) (by decide +kernel) (by decide), z.2.1, z.2.2⟩
 ·by_cases c1 : Al (r.nx 2) 10 = 1
  ·rw [R7 c1]
   refine ⟨z.1, ⟨by show ((_ ++ _ : List ByteArray).length : Int) ≤ _; rw [List.length_append]; simp; omega, fun s hs => ?_⟩, z.2.2⟩
   rcases List.mem_append.1 hs with hs | hs
   ·exact z.2.1.2 s hs
   ·simp only [List.mem_cons, List.not_mem_nil, or_false] at hs
    rcases hs with rfl | rfl <;> (show ByteArray.size _ ≤ 1048576; decide)
  ·by_cases c2 : Al (r.nx 2) 10 = 2
   ·rw [R8 c2]
    refine ⟨z.1, z.2.1, ⟨by show ((_ ++ _ : List Wy).length : Int) ≤ _; rw [List.length_append]; simp; omega, fun s hs => ?_⟩⟩
    rcases List.mem_append.1 hs with hs | hs
    ·exact z.2.2.2 s hs
    ·simp only [List.mem_singleton] at hs
     subst hs
     exact ⟨yZ (by rw [AK]; omega) (by rw [AK]; omega) (by decide +kernel) (by decide), by show (⟨#[116, 119, 111, 46, 111, 114, 103]⟩ : ByteArray).size ≤ 1048576; decide⟩
   ·rw [R9 ⟨c0, c1, c2⟩]; exact z
theorem Rt {α : Type} {P : α → Prop} {xs : List α} {i : Nat} {x : α} (h : Gl P xs) (hx : P x) : Gl P (xs.set i x) := ⟨by rw [List.length_set]; exact h.1, fun y hy => by
 rcases List.mem_or_eq_of_mem_set hy with hy | rfl
 ·exact h.2 y hy
 ·exact hx⟩
theorem iu {r : Rd} (h : 0 ≤ r.p) (h1 : r.p ≤ 999500000) : aH (aw r).1 := by
 have hq := SE h (by omega)
 have hk := Vc h (by omega)
 have z := QB (LX r) (by decide)
 have hH : EM (Tl r) := z.1.2 _ (AE (by omega))
 have p2 : ((EE r).nx 2).p = (EE r).p + 2 := AK _ _
 have p3 : ((EE r).nx 3).p = (EE r).p + 3 := AK _ _
 by_cases c0 : Fd r = 0
 ·rw [bG c0]
  have q := (VY (r := (EE r).nx 2) (by omega) (by omega)).1
  exact ⟨Rt z.1 ⟨hH.1, q, hH.2.2⟩, z.2⟩
 ·by_cases c1 : Fd r = 1
  ·rw [bH c1]
   have q := Oe (r := (EE r).nx 2) (by omega) (by omega)
   exact ⟨Rt z.1 ⟨q, hH.2⟩, z.2⟩
  ·by_cases c2 : Fd r = 2
   ·rw [bI c2]; exact z
   ·by_cases c3 : Fd r = 3
    ·rw [bJ c3]
     have hg := (LX r).2.2.2.2.1
     have q := (Od (r := (EE r).nx 3) (by omega) (by omega)).1
     refine ⟨z.1, ⟨by show ((_ ++ _ : List Ls).length : Int) ≤ _; rw [List.length_append]; simp; omega, fun l hl => ?_⟩⟩
     rcases List.mem_append.1 hl with hl | hl
     ·exact z.2.2 l hl
     ·simp only [List.mem_singleton] at hl
      subst hl
      exact ⟨yZ (by omega) (by omega) (by decide +kernel) (by decide), q⟩
    ·by_cases c4 : Fd r = 4
     ·rw [bK c4]; exact ⟨⟨by show ((0 : Nat) : Int) ≤ _; decide, fun _ q => by cases q⟩, z.2⟩
     ·rw [bL ⟨c0, c1, c2, c3, c4⟩]; exact z
theorem SB {r : Rd} : (B4 r).2.b = r.b ∧ r.p ≤ (B4 r).2.p ∧ (B4 r).2.p ≤ r.p + 4 := by
 unfold B4
 dsimp only
 repeat' split
 all_goals exact ⟨B2 .., by dsimp only; rw [AK]; omega, by dsimp only; rw [AK]; omega⟩
theorem lR {r : Rd} (h : 0 ≤ r.p) (h1 : r.p ≤ 999400000) : r.p ≤ (aw r).2.p ∧ (aw r).2.p ≤ r.p + 3000 := by
 have hq := SE h (by omega)
 have p2 : ((EE r).nx 2).p = (EE r).p + 2 := AK _ _
 have p3 : ((EE r).nx 3).p = (EE r).p + 3 := AK _ _
 by_cases c0 : Fd r = 0
 ·rw [bG c0]
  have q := (VY (r := (EE r).nx 2) (by omega) (by omega)).2.2
  exact ⟨by show _ ≤ (Jb _).2.p; omega, by show (Jb _).2.p ≤ _; omega⟩
 ·by_cases c1 : Fd r = 1
  ·rw [bH c1]
   have q := (SB (r := (EE r).nx 2)).2
   exact ⟨by show _ ≤ (B4 _).2.p; omega, by show (B4 _).2.p ≤ _; omega⟩
  ·by_cases c2 : Fd r = 2
   ·rw [bI c2]; exact ⟨by dsimp only; omega, by dsimp only; omega⟩
   ·by_cases c3 : Fd r = 3
    ·rw [bJ c3]
     have q := (Od (r := (EE r).nx 3) (by omega) (by omega)).2.2
     exact ⟨by show _ ≤ (Cc _).2.p; omega, by show (Cc _).2.p ≤ _; omega⟩
    ·by_cases c4 : Fd r = 4
     ·rw [bK c4]; exact ⟨by dsimp only; omega, by dsimp only; omega⟩
     ·rw [bL ⟨c0, c1, c2, c3, c4⟩]; exact ⟨by dsimp only; omega, by dsimp only; omega⟩
noncomputable def U1 (r : Rd) : Hs × Rd :=
 if ((aw r).1.hosts.length : Int) = 0 then (EH (B4 (aw r).2).1, (B4 (aw r).2).2)
 else ((aw r).1.hosts.getD (Al (aw r).2 (aw r).1.hosts.length).toNat default, (aw r).2.nx 1)
theorem Xb {r : Rd} (h : ((aw r).1.hosts.length : Int) = 0) : U1 r = (EH (B4 (aw r).2).1, (B4 (aw r).2).2) := if_pos h
theorem XZ {r : Rd} (h : ¬ ((aw r).1.hosts.length : Int) = 0) : U1 r = ((aw r).1.hosts.getD (Al (aw r).2 (aw r).1.hosts.length).toNat default, (aw r).2.nx 1) := if_neg h
theorem Xa {r : Rd} (h : 0 ≤ r.p) (h1 : r.p ≤ 999400000) : EM (U1 r).1 ∧ r.p ≤ (U1 r).2.p ∧ (U1 r).2.p ≤ r.p + 3010 := by
 have z := iu h (by omega)
 have p := lR h h1
 by_cases c : ((aw r).1.hosts.length : Int) = 0
 ·rw [Xb c]
  have q := Oe (r := (aw r).2) (by omega) (by omega)
  have q2 := (SB (r := (aw r).2)).2
  exact ⟨YG q, by dsimp only; omega, by dsimp only; omega⟩
 ·rw [XZ c]
  have b := B7 (r := (aw r).2) (n := (aw r).1.hosts.length) (by omega) (by omega)
  exact ⟨z.1.2 _ (AE (by have := b.2 (by omega); omega)), by dsimp only; rw [AK]; omega, by dsimp only; rw [AK]; omega⟩
def xW : Mt := GW (lc EL l0) (fun p => 0 ≤ p.1.p ∧ p.1.p ≤ 999400000) (fun p => ([EL.enc (U1 p.1).2], FX.ag.enc (U1 p.1).1))
section
attribute [local go_sem] HV xg tr AK B2 BD BK BS By Cg Bo Br A7 lm List.length_append List.length_cons List.length_nil List.map_append List.map_nil Nat.zero_add List.nil_append AS.opn AS.cls AS.nilb AS.renb AS.up Bool.not_false Bool.not_true List.set_set List.set_cons_zero List.set_cons_succ List.set_nil List.mem_singleton forall_eq EH AZ JB JC JD FT FU
set_option maxHeartbeats 1600000 in
theorem pT {G : Gt} (hG : Ai G) (hh : G.e 71 = AM HV ∧ G.e 51 = AM xg ∧ G.e 70 = AM tr) : Gd G 22 (AM xW) := by
 refine JF (dp := fun _ => true) (fn := Tryz.f22) (n := 1) rfl hG ?_
 rintro ⟨r, ⟨⟩⟩ hpre
 obtain ⟨h1, h2⟩ := hpre
 try dsimp only at h1 h2 ⊢
 have p := lR h1 (by omega)
 have z := (iu h1 (by omega)).1.1
 by_cases c : ((aw r).1.hosts.length : Int) = 0
 ·rw [Xb c]
  simp -implicitDefEqProofs only [Tryz.f22, c, eq_self, decide_true, decide_false, go_sem, hh, Int.reduceAdd, seval]
  with_reducible repeat' (first | apply ai | intro _ | ((first | apply s1 | apply s3 | apply s4) <;> intro hb <;> simp -implicitDefEqProofs only [hb, go_sem, hh, Int.reduceAdd, seval] <;> try simp only [qz] at hb))
  all_goals (try simp only [maxLen, tn] at *)
  all_goals first | with_reducible rfl | omega | with_reducible assumption | (show _ = true; rfl) | contradiction | decide | skip
 ·rw [XZ c]
  have b := B7 (r := (aw r).2) (n := (aw r).1.hosts.length) (by omega) (by omega)
  simp -implicitDefEqProofs only [Tryz.f22, c, eq_self, decide_true, decide_false, go_sem, hh, Int.reduceAdd, seval]
  with_reducible repeat' (first | apply ai | intro _ | ((first | apply s1 | apply s3 | apply s4) <;> intro hb <;> simp -implicitDefEqProofs only [hb, go_sem, hh, Int.reduceAdd, seval] <;> try simp only [qz] at hb))
  all_goals (try simp only [maxLen, tn] at *)
  all_goals first | with_reducible rfl | omega | with_reducible assumption | (show _ = true; rfl) | contradiction | decide | exact b.1 | exact b.2 (by omega) | skip
end
theorem TK {α : Type} [Inhabited α] {f : α → Int} {y : α} : ∀ {xs : List α} {i : Nat}, i < xs.length → BZ f (xs.set i y) + f (xs.getD i default) = BZ f xs + f y
 | [], i, h => absurd h (Nat.not_lt_zero _)
 | x :: r, 0, _ => by show f y + BZ f r + f x = f x + BZ f r + f y; omega
 | x :: r, i + 1, h => by
   have z := TK (f := f) (y := y) (xs := r) (i := i) (Nat.lt_of_succ_lt_succ h)
   show f x + BZ f (r.set i y) + f (r.getD i default) = f x + BZ f r + f y
   omega
theorem D3 {α : Type} (N : α → Int) : ∀ xs ys : List α, BZ N (xs ++ ys) = BZ N xs + BZ N ys
 | [], ys => by show _ = 0 + _; rw [Int.zero_add]; rfl
 | x :: r, ys => by show N x + BZ N (r ++ ys) = N x + BZ N r + BZ N ys; rw [D3 N r ys]; omega
theorem Tq (bs : List Bx) (a : Ad) (g : Gm) : BZ GX (Dq bs a g) = BZ GX bs + 1 := by
 cases hf : Dv bs a
 ·rw [EF hf, D3]
  have e := D3 GX (bs.take (kS bs a)) (bs.drop (kS bs a))
  rw [List.take_append_drop] at e
  show BZ GX (bs.take (kS bs a)) + (1 + BZ GX (bs.drop (kS bs a))) = _
  omega
 ·rw [FF hf]
  have z := TK (f := GX) (y := ⟨(bs.getD (kS bs a) default).addr, (bs.getD (kS bs a) default).mails ++ [g]⟩) (HZ hf)
  have e : GX ⟨(bs.getD (kS bs a) default).addr, (bs.getD (kS bs a) default).mails ++ [g]⟩ = GX (bs.getD (kS bs a) default) + 1 := by
   unfold GX; rw [List.length_append]; rfl
  omega
theorem u4 {r : Rd} (h : 0 ≤ r.p) (h1 : r.p ≤ 999400000) : EX 1600 (U1 r).1 := by
 have hk := Vc h (by omega)
 have z := LX r
 have hH := (z.1 _ (AE (xs := (D6 r).hosts) (j := (bF r).toNat) (by omega))).2
 have key : ∀ x ∈ (aw r).1.hosts, EX 1600 x := by
  by_cases c0 : Fd r = 0
  ·rw [bG c0]
   intro x hx
   rcases List.mem_or_eq_of_mem_set hx with hx | rfl
   ·exact (z.1 x hx).2
   ·exact hH
  ·by_cases c1 : Fd r = 1
   ·rw [bH c1]
    intro x hx
    rcases List.mem_or_eq_of_mem_set hx with hx | rfl
    ·exact (z.1 x hx).2
    ·exact hH
   ·by_cases c2 : Fd r = 2
    ·rw [bI c2]; exact fun x hx => (z.1 x hx).2
    ·by_cases c3 : Fd r = 3
     ·rw [bJ c3]; exact fun x hx => (z.1 x hx).2
     ·by_cases c4 : Fd r = 4
      ·rw [bK c4]; intro x hx; cases hx
      ·rw [bL ⟨c0, c1, c2, c3, c4⟩]; exact fun x hx => (z.1 x hx).2
 by_cases c : ((aw r).1.hosts.length : Int) = 0
 ·rw [Xb c]; exact ⟨Nat.zero_le _, fun _ q => (by cases q), Nat.zero_le _, fun _ q => by cases q⟩
 ·rw [XZ c]
  have p := lR h h1
  have b := B7 (r := (aw r).2) (n := (aw r).1.hosts.length) (by omega) (by omega)
  exact key _ (AE (by have := b.2 (by omega); omega))
def ft (s : Sp) : Int := BZ Jp s.items
theorem cO {xs : List Im} {i k : Nat} (hi : i < xs.length) (hk : k < (xs.getD i default).to.length) : BZ Jp (MH xs i k) = BZ Jp xs - 1 := by
 have e : BZ Jp xs = BZ Jp (xs.take i) + (Jp (xs.getD i default) + BZ Jp (xs.drop (i + 1))) := by
  have z := D3 Jp (xs.take i) (xs.drop i)
  rw [List.take_append_drop, AX hi] at z
  exact z
 have l := We hk
 have er : Jp (xs.getD i default) = (xs.getD i default).to.length := rfl
 have ed : Jp (Fp (xs.getD i default) k) = ((xs.getD i default).to.take k ++ (xs.getD i default).to.drop (k + 1)).length := rfl
 unfold MH
 split
 ·rename_i q
  have q' : (xs.getD i default).to.take k ++ (xs.getD i default).to.drop (k + 1) = [] := q
  rw [q'] at l
  rw [D3]
  have : ([] : List Rc).length = 0 := rfl
  omega
 ·rw [D3]
  show _ + (Jp (Fp (xs.getD i default) k) + _) = _
  omega
theorem oW {s : Sp} {i k : Nat} (hi : i < s.items.length) (hk : k < (s.items.getD i default).to.length) : ft (Cj s i k) = ft s - 1 := cO hi hk
theorem Lz {s : Sp} (h : Bk s) : EZ s = ft s := Mw h
theorem fU {c : Cf} {g : Hs} {x : Im} {a : Ad} {R : List (Int × Ad)} (h : Kp c g ((x.id, a) :: R)) : KT (Ce g x a) + ft (Ce g x a).spool = KT g + ft g.spool := by
 have q : CQ g.spool x.id a := h.td (x.id, a) (by simp)
 have i1 := Bf q.1
 have k1 := ED q.2
 have hs : (Ce g x a).spool = Cj g.spool (At g.spool x.id).toNat (BR (Aa g.spool x.id) a).toNat := by unfold Ce; rw [h.done]
 have z := oW (s := g.spool) (i := (At g.spool x.id).toNat) (k := (BR (Aa g.spool x.id) a).toNat) (by omega) (by show _ < (Aa g.spool x.id).to.length; omega)
 have e : KT (Ce g x a) = KT g + 1 := Tq _ _ _
 rw [hs, z, e]
 omega
theorem cP {s : Sp} {n : Int} {a : Ad} (h : Bk s) (q : CQ s n a) : ∀ y ∈ (Cj s (At s n).toNat (BR (Aa s n) a).toNat).items, ∀ r ∈ y.to, ¬ (y.id = n ∧ r.addr = a) ∧ ∃ y0 ∈ s.items, y0.id = y.id ∧ r ∈ y0.to := by
 have i1 := Bf q.1
 have k1 := ED q.2
 have ei := FB q.1
 have ek := Ec q.2
 obtain ⟨i, hi⟩ : ∃ i, i = (At s n).toNat := ⟨_, rfl⟩
 obtain ⟨k, hk⟩ : ∃ k, k = (BR (Aa s n) a).toNat := ⟨_, rfl⟩
 have hX : s.items.getD i default = Aa s n := by rw [hi]; rfl
 have hil : i < s.items.length := by omega
 have hkl : k < (s.items.getD i default).to.length := by rw [hX]; omega
 rw [← hi, ← hk]
 rw [← hk] at ek
 have hXm : s.items.getD i default ∈ s.items := AE hil
 have hXn : (s.items.getD i default).id = n := by rw [hX]; exact ei
 have hnd : ((s.items.getD i default).to.map Rc.addr).Nodup := (h.1 _ hXm).1.2.1
 have hasc : (s.items.map Im.id).Nodup := (CR.1 h.2.1).imp fun q => by omega
 have other : ∀ y, y ∈ s.items.take i ++ s.items.drop (i + 1) → ¬ y.id = n := fun y hy e => by
  have e1 : s.items = s.items.take i ++ (s.items.getD i default :: s.items.drop (i + 1)) := KY hil
  have e2 := hasc
  rw [e1, List.map_append, List.map_cons, List.nodup_append] at e2
  obtain ⟨_, e3, e4⟩ := e2
  rw [List.nodup_cons] at e3
  rcases List.mem_append.1 hy with hy | hy
  ·exact e4 _ (List.mem_map_of_mem hy) _ (List.mem_cons_self ..) (by rw [e, hXn])
  ·exact e3.1 (by rw [hXn, ← e]; exact List.mem_map_of_mem hy)
 have mem : ∀ y, y ∈ s.items.take i ++ s.items.drop (i + 1) → y ∈ s.items := fun y hy => by
  rcases List.mem_append.1 hy with hy | hy
  ·exact List.mem_of_mem_take hy
  ·exact List.mem_of_mem_drop hy
 intro y hy r hr
 have hy' : y ∈ MH s.items i k := hy
 have two : y ∈ s.items.take i ++ s.items.drop (i + 1) ∨ y = Fp (s.items.getD i default) k := by
  unfold MH at hy'
  split at hy'
  ·exact .inl hy'
  ·rcases List.mem_append.1 hy' with hy' | hy'
   ·exact .inl (List.mem_append_left _ hy')
   ·rcases List.mem_cons.1 hy' with hy' | hy'
    ·exact .inr hy'
    ·exact .inl (List.mem_append_right _ hy')
 rcases two with hm | rfl
 ·exact ⟨fun u => other y hm u.1, y, mem y hm, rfl, hr⟩
 ·have hr' : r ∈ (s.items.getD i default).to.take k ++ (s.items.getD i default).to.drop (k + 1) := hr
  have hr2 : r ∈ (s.items.getD i default).to := by
   rcases List.mem_append.1 hr' with hr' | hr'
   ·exact List.mem_of_mem_take hr'
   ·exact List.mem_of_mem_drop hr'
  refine ⟨fun u => ?_, _, hXm, rfl, hr2⟩
  have e1 : (s.items.getD i default).to = (s.items.getD i default).to.take k ++ ((s.items.getD i default).to.getD k default :: (s.items.getD i default).to.drop (k + 1)) := KY hkl
  have ek' : ((s.items.getD i default).to.getD k default).addr = a := by rw [hX]; exact ek
  have e2 := hnd
  rw [e1, List.map_append, List.map_cons, List.nodup_append] at e2
  obtain ⟨_, e3, e4⟩ := e2
  rw [List.nodup_cons] at e3
  rcases List.mem_append.1 hr' with hr' | hr'
  ·exact e4 _ (List.mem_map_of_mem hr') _ (List.mem_cons_self ..) (by rw [u.2, ek'])
  ·exact e3.1 (by rw [ek', ← u.2]; exact List.mem_map_of_mem hr')
def Nr (c : Cf) (w : Int) (g : Hs) (R : List (Int × Ad)) : Prop := ∀ y ∈ g.spool.items, ∀ r ∈ y.to, EY c ⟨#[]⟩ w r → (y.id, r.addr) ∈ R
theorem Xp {c : Cf} {w : Int} {g : Hs} {x : Im} {a : Ad} {R : List (Int × Ad)} (h : Kp c g ((x.id, a) :: R)) (n : Nr c w g ((x.id, a) :: R)) : Nr c w (Ce g x a) R := by
 have q : CQ g.spool x.id a := h.td (x.id, a) (by simp)
 have hs : (Ce g x a).spool = Cj g.spool (At g.spool x.id).toNat (BR (Aa g.spool x.id) a).toNat := by unfold Ce; rw [h.done]
 intro y hy r hr hn
 rw [hs] at hy
 obtain ⟨z1, y0, hy0, e, hr0⟩ := cP h.sp q y hy r hr
 have m := n y0 hy0 r hr0 hn
 rw [e] at m
 rcases List.mem_cons.1 m with m | m
 ·exact absurd (Prod.mk.inj m) z1
 ·exact m
theorem So {x : Im} {c : Cf} {w : Int} : ∀ (ads : List Ad) {g : Hs} {R : List (Int × Ad)}, Kp c g ((ads.map fun a => (x.id, a)) ++ R) → Nr c w g ((ads.map fun a => (x.id, a)) ++ R) → KT (Dy x ads g) + ft (Dy x ads g).spool = KT g + ft g.spool ∧ Kp c (Dy x ads g) R ∧ Nr c w (Dy x ads g) R
 | [], g, R, k, n => ⟨rfl, k, n⟩
 | a :: r, g, R, k, n => by
   have z := So r (k.step (x := x) (a := a)) (Xp k n)
   exact ⟨z.1.trans (fU k), z.2⟩
theorem Sk {c : Cf} {w : Int} : ∀ (xs : List Im) {g : Hs}, Kp c g (D8 c w xs) → Nr c w g (D8 c w xs) → KT (BW c w xs g) + ft (BW c w xs g).spool = KT g + ft g.spool ∧ Kp c (BW c w xs g) [] ∧ Nr c w (BW c w xs g) []
 | [], g, k, n => ⟨rfl, k, n⟩
 | x :: t, g, k, n => by
   have z := So (x := x) (Aj c ⟨#[]⟩ w x.to) (R := D8 c w t) k n
   have z2 := Sk t z.2.1 z.2.2
   exact ⟨z2.1.trans z.1, z2.2⟩
theorem TD {c : Cf} {w : Int} : ∀ {rs : List Rc} {r : Rc}, r ∈ rs → EY c ⟨#[]⟩ w r → r.addr ∈ Aj c ⟨#[]⟩ w rs
 | x :: t, r, h, n => by
   rw [Aj]
   rcases List.mem_cons.1 h with rfl | h
   ·rw [Ap n]; exact List.mem_cons_self ..
   ·have z := TD h n
    cases BV (EY c ⟨#[]⟩ w x)
    ·exact z
    ·exact List.mem_cons_of_mem _ z
theorem R1 {c : Cf} {w : Int} : ∀ {xs : List Im} {y : Im} {r : Rc}, y ∈ xs → r ∈ y.to → EY c ⟨#[]⟩ w r → (y.id, r.addr) ∈ D8 c w xs
 | x :: t, y, r, h, hr, n => by
   rcases List.mem_cons.1 h with rfl | h
   ·exact List.mem_append_left _ (List.mem_map_of_mem (TD hr n))
   ·exact List.mem_append_right _ (R1 h hr n)
theorem MW {c : Cf} {w : Int} : ∀ {rs : List Rc}, (∀ r ∈ rs, ¬ EY c ⟨#[]⟩ w r) → Aj c ⟨#[]⟩ w rs = []
 | [], _ => rfl
 | r :: t, h => by
   rw [Aj, AN (h r (by simp))]
   exact MW fun y hy => h y (by simp [hy])
theorem Kv {c : Cf} {w : Int} : ∀ (xs : List Im) {g : Hs}, (∀ y ∈ xs, ∀ r ∈ y.to, ¬ EY c ⟨#[]⟩ w r) → BW c w xs g = g
 | [], _, _ => rfl
 | x :: t, g, h => by
   have e : BW c w (x :: t) g = BW c w t (Dy x (Aj c ⟨#[]⟩ w x.to) g) := rfl
   rw [e, MW (h x (by simp))]
   exact Kv t fun y hy => h y (by simp [hy])
theorem Jx {c : Cf} {w : Int} : ∀ (xs : List Im) {g : Hs}, (BW c w xs g).conf = g.conf
 | [], _ => rfl
 | x :: t, g => by
   have key : ∀ (ads : List Ad) (g : Hs), (Dy x ads g).conf = g.conf := fun ads => by
    induction ads with
    | nil => intro _; rfl
    | cons a r ih => intro g; exact ih (Ce g x a)
   exact (Jx t (g := Dy x (Aj c ⟨#[]⟩ w x.to) g)).trans (key _ _)
theorem Xr {h : Hs} {w : Int} {N : Nat} (q : DI h) (n : EX N h) (hN : N ≤ 1000000) : DI (FS h w) ∧ EM (FS h w) ∧ KT (FS h w) - KT h = EZ h.spool - EZ (FS h w).spool ∧ FS (FS h w) w = FS h w := by
 have hK := Db.1 q
 have z := Xq (w := w) hK n (by omega)
 have ok := DS hK n (by omega)
 have k := HJ (w := w) q ok
 have v := Sk h.spool.items k fun y hy r hr hn => R1 hy hr hn
 rw [JX q]
 have q2 := Db.2 z.1
 refine ⟨q2, DS z.1 z.2 (by omega), ?_, ?_⟩
 ·rw [Lz hK.2.2.2, Lz z.1.2.2.2]
  omega
 ·rw [JX q2, Jx]
  exact Kv _ fun y hy r hr hn => by cases v.2.2 y hy r hr hn
noncomputable def yI (b : List UInt8) : Hs := (U1 (opn b)).1
noncomputable def yJ (b : List UInt8) : Int := Gh (U1 (opn b)).2 [0, 10, 500]
theorem jf (b : List UInt8) : (U1 (opn b)).1 = yI b := rfl
theorem uz (b : List UInt8) : Gh (U1 (opn b)).2 [0, 10, 500] = yJ b := rfl
def xS : Ct := Aq (lc Lg.asl l0) (fun p => True) (fun p => .tup [FX.ag.enc (yI p.1), .t (.v (.int .i64 (yJ p.1)))])
section
attribute [local go_sem] xV xW Ts JV Rp NT I1 vU jf uz Fo lm List.length_append List.length_cons List.length_nil List.map_append List.map_nil Nat.zero_add List.nil_append AK B2 BD BK BS By Cg Bo Br A7 AS.opn AS.cls AS.nilb AS.renb AS.up Bool.not_false Bool.not_true List.set_set List.set_cons_zero List.set_cons_succ List.set_nil List.mem_singleton forall_eq
set_option maxHeartbeats 1600000 in
theorem pP {G : Gt} (hG : Ai G) (hh : G.e 21 = AA 1 xV ∧ G.e 22 = AM xW ∧ G.e 24 = AM Ts) : Gd G 18 (AA 1 xS) := by
 refine gr (fn := Tryz.f18) (n := 1) rfl hG ?_
 rintro ⟨b, ⟨⟩⟩ hpre
 dsimp only
 have z := Xa (r := opn b) (by rw [I1]; decide) (by rw [I1]; decide)
 rw [I1] at z
 simp -implicitDefEqProofs only [Tryz.f18, go_sem, hh, Int.reduceAdd, seval]
 with_reducible repeat' (first | apply ai | intro _ | ((first | apply s1 | apply s3 | apply s4) <;> intro hb <;> simp -implicitDefEqProofs only [hb, go_sem, hh, Int.reduceAdd, seval] <;> try simp only [qz] at hb))
 all_goals (try simp only [maxLen, tn] at *)
 all_goals first | with_reducible rfl | omega | with_reducible assumption | (show _ = true; rfl) | contradiction | decide | skip
end
def c5 : Ct := Aq (lc Lg.asl l0) (fun p => True) (fun p => .t (.v (.bool true)))
section
attribute [local go_sem] xS xT xU c9 lZ xR JV Rp BS NT Ae Ac UT lm decide_true AS.opn AS.cls AS.nilb AS.renb AS.up Bool.not_false Bool.not_true List.set_set List.set_cons_zero List.set_cons_succ List.set_nil List.mem_singleton forall_eq
set_option maxHeartbeats 6400000 in
theorem uw {G : Gt} (hG : Ai G) (hh : G.e 18 = AA 1 xS ∧ G.e 19 = AA 0 xT ∧ G.e 20 = AA 1 xU ∧ G.e 9 = AA 0 c9 ∧ G.e 10 = AA 0 lZ ∧ G.e 11 = AA 0 xR) : Gd G 5 (AA 0 c5) := by
 refine Lr (dp := fun n => !(Nat.beq n 100005)) (fn := Tryz.f5) (n := 1) rfl hG ?_
 rintro ⟨b, ⟨⟩⟩ hpre
 try dsimp only
 have zw := (Xa (r := opn b) (by rw [I1]; decide) (by rw [I1]; decide)).1
 have zn := u4 (r := opn b) (by rw [I1]; decide) (by rw [I1]; decide)
 rw [jf] at zw zn
 obtain ⟨H, hH⟩ : ∃ H, yI b = H := ⟨_, rfl⟩
 obtain ⟨W, hW⟩ : ∃ W, yJ b = W := ⟨_, rfl⟩
 rw [hH] at zw zn
 by_cases L : (b.length : Int) > 1048576
 ·simp -implicitDefEqProofs only [Tryz.f5, L, decide_true, go_sem, hh, seval]
  with_reducible repeat' (first | apply ai | intro _ | ((first | apply s1 | apply s3 | apply s4) <;> intro hb <;> simp -implicitDefEqProofs only [hb, go_sem, hh, seval] <;> try simp only [qz] at hb))
  all_goals first | with_reducible rfl | omega | with_reducible assumption | (show _ = true; rfl) | contradiction | decide | skip
 ·obtain ⟨X, hX⟩ : ∃ X, FS H W = X := ⟨_, rfl⟩
  by_cases hok : DI H
  ·have b1 := Ap hok
   obtain ⟨xok, xsz, xv, xi⟩ := Xr (w := W) hok zn (by decide)
   rw [hX] at xok xsz xv xi
   have b2 := Ap xok
   obtain ⟨_, _, c1, _⟩ := Jk hok zw
   obtain ⟨_, _, c2, _⟩ := Jk xok xsz
   obtain ⟨_, c3, _, _⟩ := Jk hok zw
   obtain ⟨_, c4, _, _⟩ := Jk xok xsz
   have c3' : 0 ≤ EZ H.spool ∧ EZ H.spool ≤ 40 := c3
   have c4' : 0 ≤ EZ X.spool ∧ EZ X.spool ≤ 40 := c4
   have os1 := zw.2.1
   have os2 := xsz.2.1
   simp -implicitDefEqProofs only [Tryz.f5, L, hH, hW, hX, b1, eq_self, decide_true, decide_false, go_sem, hh, seval]
   with_reducible repeat' (first | apply ai | intro _ | ((first | apply s1 | apply s3 | apply s4) <;> intro hb <;> simp -implicitDefEqProofs only [hb, go_sem, hh, seval] <;> try simp only [qz] at hb))
   all_goals (try simp only [maxLen, tn] at *)
   all_goals first | with_reducible rfl | omega | with_reducible assumption | (show _ = true; rfl) | contradiction | decide | skip
   refine AU (Le.frzL [1019, 2019, 3019, 4019, 5019]) (AR ?_)
   simp -implicitDefEqProofs only [hX, b1, eq_self, decide_true, decide_false, go_sem, hh, seval]
   with_reducible repeat' (first | apply ai | intro _ | ((first | apply s1 | apply s3 | apply s4) <;> intro hb <;> simp -implicitDefEqProofs only [hb, go_sem, hh, seval] <;> try simp only [qz] at hb))
   all_goals (try simp only [maxLen, tn] at *)
   all_goals first | with_reducible rfl | omega | with_reducible assumption | (show _ = true; rfl) | contradiction | decide | skip
   refine AF [] (ι := {p : Nat × Int // p.1 ≤ X.boxes.length ∧ 0 ≤ p.2 ∧ p.2 + BZ GX (X.boxes.drop p.1) = KT X}) (fun p => ⟨[(3, .pb 1003 0), (4, .t (.v (.int .i64 W))), (5, .pb 1005 0), (6, .t (.v (.int .i64 p.1.2))), (7, .t (.v (.int .i64 p.1.1)))], [(1003, some (.box ((Ak H).map .t))), (1005, some (.box ((Ak X).map .t)))]⟩) (fun p => X.boxes.length - p.1.1) ⟨(0, 0), Nat.zero_le _, Int.le_refl _, Int.zero_add _⟩ rfl ?_ ?_
   ·simp -implicitDefEqProofs only [go_sem, hh, seval]
    first | (simp; done) | skip
   ·rintro ⟨⟨i, n⟩, hi, h0, hv⟩
    dsimp only at hi h0 hv
    by_cases hlt : (i : Int) < X.boxes.length
    ·have s1 := LP (f := GX) (xs := X.boxes) (i := i) (by omega)
     have r1 := F7 (f := GX) (xs := X.boxes) (fun x _ => by unfold GX; omega) (i + 1)
     have e1 : GX (X.boxes.getD i default) = (X.boxes.getD i default).mails.length := rfl
     simp -implicitDefEqProofs only [hlt, eq_self, decide_true, decide_false, go_sem, hh, seval]
     with_reducible repeat' (first | apply ai | intro _ | ((first | apply s1 | apply s3 | apply s4) <;> intro hb <;> simp -implicitDefEqProofs only [hb, go_sem, hh, seval] <;> try simp only [qz] at hb))
     all_goals (try simp only [maxLen, tn] at *)
     all_goals first | with_reducible rfl | omega | with_reducible assumption | (show _ = true; rfl) | contradiction | decide | skip
     refine ⟨⟨(i + 1, n + (X.boxes.getD i default).mails.length), by dsimp only; omega, by dsimp only; omega, by dsimp only; omega⟩, by dsimp only; omega, ?_⟩
     simp -implicitDefEqProofs only [go_sem, hh, seval]
     first | (simp; done) | skip
    ·have s1 := Nz (f := GX) (xs := X.boxes) (i := i) (by omega)
     have q1 : n = KT X := by omega
     subst q1
     simp -implicitDefEqProofs only [hlt, eq_self, decide_true, decide_false, go_sem, hh, seval]
     with_reducible repeat' (first | apply ai | intro _ | ((first | apply s1 | apply s3 | apply s4) <;> intro hb <;> simp -implicitDefEqProofs only [hb, go_sem, hh, seval] <;> try simp only [qz] at hb))
     all_goals (try simp only [maxLen, tn] at *)
     all_goals first | with_reducible rfl | omega | with_reducible assumption | (show _ = true; rfl) | contradiction | decide | skip
     refine AF [] (ι := {p : Nat × Int // p.1 ≤ H.boxes.length ∧ p.2 = KT X - KT H + BZ GX (H.boxes.drop p.1)}) (fun p => ⟨[(3, .pb 1003 0), (4, .t (.v (.int .i64 W))), (5, .pb 1005 0), (6, .t (.v (.int .i64 p.1.2))), (8, .t (.v (.int .i64 p.1.1)))], [(1003, some (.box ((Ak H).map .t))), (1005, some (.box ((Ak X).map .t)))]⟩) (fun p => H.boxes.length - p.1.1) ⟨(0, KT X), Nat.zero_le _, by show KT X = KT X - KT H + BZ GX H.boxes; have e : KT H = BZ GX H.boxes := rfl; omega⟩ rfl ?_ ?_
     ·simp -implicitDefEqProofs only [go_sem, hh, seval]
      first | (simp; done) | skip
     ·rintro ⟨⟨k, m⟩, hk, hm⟩
      dsimp only at hk hm
      have r0 := F7 (f := GX) (xs := H.boxes) (fun x _ => by unfold GX; omega) k
      have r9 := F7 (f := GX) (xs := H.boxes) (fun x _ => by unfold GX; omega) (k + 1)
      have t9 := D3 GX (H.boxes.take k) (H.boxes.drop k)
      rw [List.take_append_drop] at t9
      have t8 := F7 (f := GX) (xs := H.boxes.take k) (fun x _ => by unfold GX; omega) 0
      have t8' : 0 ≤ BZ GX (H.boxes.take k) := t8
      have t7 : KT H = BZ GX H.boxes := rfl
      by_cases hkt : (k : Int) < H.boxes.length
      ·have s2 := LP (f := GX) (xs := H.boxes) (i := k) (by omega)
       have e1 : GX (H.boxes.getD k default) = (H.boxes.getD k default).mails.length := rfl
       simp -implicitDefEqProofs only [hkt, eq_self, decide_true, decide_false, go_sem, hh, seval]
       with_reducible repeat' (first | apply ai | intro _ | ((first | apply s1 | apply s3 | apply s4) <;> intro hb <;> simp -implicitDefEqProofs only [hb, go_sem, hh, seval] <;> try simp only [qz] at hb))
       all_goals (try simp only [maxLen, tn] at *)
       all_goals first | with_reducible rfl | omega | with_reducible assumption | (show _ = true; rfl) | contradiction | decide | skip
       refine ⟨⟨(k + 1, m - (H.boxes.getD k default).mails.length), by dsimp only; omega, by dsimp only; omega⟩, by dsimp only; omega, ?_⟩
       simp -implicitDefEqProofs only [go_sem, hh, seval]
       first | (simp; done) | skip
      ·have s2 := Nz (f := GX) (xs := H.boxes) (i := k) (by omega)
       have q2 : m = EZ H.spool - EZ X.spool := by omega
       subst q2
       simp -implicitDefEqProofs only [hkt, b2, xi, eq_self, decide_true, decide_false, go_sem, hh, seval]
       with_reducible repeat' (first | apply ai | intro _ | ((first | apply s1 | apply s3 | apply s4) <;> intro hb <;> simp -implicitDefEqProofs only [hb, go_sem, hh, seval] <;> try simp only [qz] at hb))
       all_goals (try simp only [maxLen, tn] at *)
       all_goals first | with_reducible rfl | omega | with_reducible assumption | (show _ = true; rfl) | contradiction | decide | (rw [decide_eq_true (by with_reducible assumption)]; done) | skip
  ·have b1 := AN hok
   rw [JW hok] at hX
   subst hX
   have e0 := JW (w := W) hok
   simp -implicitDefEqProofs only [Tryz.f5, L, hH, hW, e0, b1, eq_self, decide_true, decide_false, go_sem, hh, seval]
   with_reducible repeat' (first | apply ai | intro _ | ((first | apply s1 | apply s3 | apply s4) <;> intro hb <;> simp -implicitDefEqProofs only [hb, go_sem, hh, seval] <;> try simp only [qz] at hb))
   all_goals (try simp only [maxLen, tn] at *)
   all_goals first | with_reducible rfl | omega | with_reducible assumption | (show _ = true; rfl) | contradiction | decide | skip
   refine AU (Le.frzL [1019, 2019, 3019, 4019, 5019]) (AR ?_)
   simp -implicitDefEqProofs only [e0, b1, eq_self, decide_true, decide_false, go_sem, hh, seval]
   with_reducible repeat' (first | apply ai | intro _ | ((first | apply s1 | apply s3 | apply s4) <;> intro hb <;> simp -implicitDefEqProofs only [hb, go_sem, hh, seval] <;> try simp only [qz] at hb))
   all_goals (try simp only [maxLen, tn] at *)
   all_goals first | with_reducible rfl | omega | with_reducible assumption | (show _ = true; rfl) | contradiction | decide | skip
end
end Go.V
namespace Go.V
open Go Go.Proofs Go.ChangeShapes Go.WideShapes Go.ChangeAt Go.RowKit
set_option maxRecDepth 100000
section
variable {H : Type} {enc : TypeId × Value → H} {W : World} {P : Program}
def pW (W : World) : Nat → Prop := fun b => b < W.heap.size
def tN (P : Program) (W : World) (enc : TypeId × Value → H) (t : TypeId) (q : List T → Prop) : Prop :=
 ∀ (n : Nat) (cs : List Value) (x : DataW H × List MemPlace), DataW.trod enc P W 0 (fun _ => true) true n t cs = some x → ∃ ts, q ts ∧ CI W (pW W) ts cs
theorem tN.slice {α : Type} (E : Ew α) {t e : TypeId} (u : P.underlying t = some (.slice e)) (hn : P.cellsOf e = E.n) (h0 : 0 < E.n) (he : tN P W enc e fun ts => ∃ a, ts = E.enc a) :
    tN P W enc t fun ts => ∃ xs : List α, ts = [.sl E.n (xs.map E.enc)] := fun n cs x h => by
 rcases DataW.trod_slice u h with ⟨rfl, _⟩ | ⟨a, len, cap, elems, rest, m, rfl, rfl, _, _, hlc, hcm, hel, hes, _⟩
 ·exact ⟨_, ⟨[], rfl⟩, .cons _ _ _ _ (.nil _) .nil⟩
 ·rw [hn] at hes
  have key : ∀ k, k ≤ len → ∃ (xs : List α) (vs : List Value), xs.length = k ∧ vs.length = k * E.n ∧ CI W (pW W) (xs.map E.enc).flatten vs ∧ (0 < k → a.block < W.heap.size) ∧ ∀ j v, vs[j]? = some v → W.cell? (a.add j) = some v := fun k => by
   induction k with
   | zero => exact fun _ => ⟨[], [], rfl, by simp, .nil, fun h => absurd h (Nat.lt_irrefl _), fun j v hj => by simp at hj⟩
   | succ k ih =>
     intro hk
     obtain ⟨xs, vs, h1, h2, h3, h4, h5⟩ := ih (by omega)
     have h6 := hes k (by omega)
     rw [List.getElem?_eq_getElem (by omega)] at h6
     obtain ⟨cs, h7, h8⟩ := Option.bind_eq_some_iff.1 h6
     obtain ⟨ts, ⟨y, rfl⟩, h9⟩ := he _ _ _ h8
     obtain ⟨q1, q2, q3⟩ := World.cells?_some h7
     have hb : a.block < W.heap.size := by
      have := World.cells?_block h7 h0
      rwa [C4] at this
     refine ⟨xs ++ [y], vs ++ cs, by simp [h1], ?_, ?_, fun _ => hb, fun j v hj => ?_⟩
     ·have : cs.length = E.n := by rw [← h9.len, E.len]
      rw [List.length_append, h2, this, Nat.succ_mul]
     ·rw [List.map_append, List.flatten_append]
      exact h3.append (by simpa using h9)
     ·by_cases hj2 : j < vs.length
      ·rw [List.getElem?_append_left hj2] at hj
       exact h5 j v hj
      ·rw [List.getElem?_append_right (by omega)] at hj
       have hjl : j - vs.length < E.n := by
        have := (List.getElem?_eq_some_iff.1 hj).1
        have h10 : cs.length = E.n := by rw [← h9.len, E.len]
        omega
       have := q3 (j - vs.length) hjl
       rw [Fm] at this
       rw [show j = k * E.n + (j - vs.length) from by omega, this]
       exact hj
  obtain ⟨xs, vs, h1, h2, h3, h4, h5⟩ := key len (Nat.le_refl _)
  refine ⟨_, ⟨xs, rfl⟩, .cons _ _ _ _ (.sl E.n _ a len cap vs (by simp [h1]) hlc hcm (fun hne => ?_) (fun c hc => ?_) h5 h3) .nil⟩
  ·refine h4 ?_
   rcases Nat.eq_zero_or_pos len with h | h
   ·exact absurd (by rw [List.eq_nil_of_length_eq_zero (h1.trans h)]; rfl) hne
   ·exact h
  ·obtain ⟨y, _, rfl⟩ := List.mem_map.1 hc
   exact E.len y
end
end Go.V
namespace Go.Proofs.YthmjinhpngfdbaaGreatDoor
open Go Go.Proofs Go.ChangeShapes Go.WideShapes Go.ChangeAt Go.RowKit
set_option maxRecDepth 100000
theorem own : ownKnob Tryz.prog.godebug = none := by kernel_rfl
def flatD : Nat → DataW Unit → List Value
 | 0, _ => []
 | _ + 1, .lit (.int k v) => [.int k v]
 | n + 1, .agg xs => xs.flatMap (flatD n)
 | _ + 1, _ => []
noncomputable def gOf (n : String) : Nat := (Tryz.prog.globalNamed n).getD 0
noncomputable def layAt (n : String) (d : DataW Unit) (h : Array Obj) : Array Obj := h.modify (gOf n) fun
 | .cells _ t frozen => .cells (flatD 5 d).toArray t frozen
 | o => o
noncomputable def laidWorld (os : Os) : World :=
 { World.holding Tryz.prog os ⟨#[], #[], []⟩ with heap := layAt "unicode/utf8.first" Rows.laid_unicode_utf8_first (layAt "unicode/utf8.acceptRanges" Rows.laid_unicode_utf8_acceptRanges (World.holding Tryz.prog os ⟨#[], #[], []⟩).heap) }
noncomputable def args0 : Array Value := #[.slice none 0 0]
theorem laid_met (os : Os) : laidMet Tryz.prog Rows.fnHostKeepRow.laid ((laidWorld os).forCall (fun _ _ => 0) ⟨#[], args0, []⟩).memory :=
 laidMet_of_run' 8 (by kernel_rfl) (by kernel_rfl)
theorem reads (os : Os) {H : Type} (enc : TypeId × Value → H) : ∃ places, DataW.whole enc Tryz.prog ((laidWorld os).forCall (fun _ _ => 0) ⟨#[], args0, []⟩).memory Tryz.f5.params.toList Rows.fnHostKeepSpec.vars false args0.toList 8 = some ([.nil], [], places) :=
 ⟨[], by kernel_rfl⟩
theorem func5 : Tryz.prog.funcs[5]? = some Tryz.f5 := by kernel_rfl
def Every : Prop := ∀ (H : Type) (enc : TypeId × Value → H) (W : World) (base : Nat) (args : Array Value) (ds gs : List (DataW H)) (before : List MemPlace)
    (_ : ∀ (j : Nat) t v, Tryz.f5.params[j]? = some t → args[j]? = some v → Value.okWide Tryz.prog W .any base t v)
    (_ : DataW.Whole enc Tryz.prog Tryz.f5.params.toList Rows.fnHostKeepSpec.vars false W args.toList ds gs before) (_ : W.ShapedOpen Tryz.prog),
    Calls Tryz.prog 5 args W fun e W' => ∃ v, e = .returned v ∧ Rows.fnHostKeepSpec.post enc Tryz.prog Tryz.f5 false true false false W args v W'
theorem lifted (hE : Every) (os : Os) (started : os.Started) (H : Type) (enc : TypeId × Value → H) (F : Stop.Interp) :
    ReturnsInHanded {} Tryz.checked os 5 .any ((OpenSpec.ofChange Rows.fnHostKeepSpec).preRow enc Tryz.prog Tryz.f5 Rows.fnHostKeepRow.domain false Rows.fnHostKeepRow.laid) (((OpenSpec.ofChange Rows.fnHostKeepSpec).at F).post enc Tryz.prog Tryz.f5 false true false false) := by
 obtain ⟨places, hx⟩ := reads os enc
 refine returnsInHanded_of_row (C := Tryz.checked) (s := OpenSpec.ofChange Rows.fnHostKeepSpec) own started (by kernel_rfl) func5
  (witness_row_at (enc := enc) (C := Tryz.checked) false (laidWorld os) args0 rfl (by kernel_rfl) (by kernel_rfl) (by kernel_rfl)
    (OpenSpec.preRow_of_cond 8 hx (by kernel_rfl) (fun k hk => by cases hk) (by kernel_rfl) (laid_met os))) ?_
 intro W base args ds gs before hval hW _ _ _ _ hS _
 exact hE H enc W base args ds gs before hval hW hS
theorem said (hE : Every) : Rows.FnHostKeepSaid :=
 OpenClaim.holds_of_cond 5 Tryz.f5 rfl rfl rfl rfl rfl rfl rfl ⟨rfl, rfl, rfl, rfl, rfl⟩ rfl rfl rfl rfl rfl (by kernel_rfl) func5 (by kernel_rfl)
  (of_decide_eq_true (by kernel_rfl)) (by unfold Func.isWrapper; first | (rw [if_pos (by decide +kernel)]; kernel_rfl) | (rw [if_neg (by decide +kernel)]; exact ⟨rfl, rfl⟩))
  (fun os started H enc _ F => by rw [OpenClaim.pre_eq_preRow]; exact lifted hE os started H enc F)
theorem params5 : Tryz.f5.params = #[22] := rfl
theorem plain (f : FuncId) (fn : Func) (hf : Tryz.pinned.checked.prog.funcNamed "loop.example/satchel/laws.FnHostKeep" = some f) (hfn : Tryz.pinned.checked.prog.funcs[f]? = some fn) :
    false = Tryz.pinned.checked.prog.looks [] ∧ ∀ (j : Nat) t, fn.params[j]? = some t → Tryz.pinned.checked.prog.wantsStandIn t = false := by
 obtain rfl : f = 5 := Option.some.inj ((show Tryz.prog.funcNamed "loop.example/satchel/laws.FnHostKeep" = some 5 by kernel_rfl).symm.trans hf) |>.symm
 obtain rfl : fn = Tryz.f5 := (Option.some.inj (func5.symm.trans hfn)).symm
 refine ⟨by kernel_rfl, fun j t ht => ?_⟩
 rw [params5] at ht
 have hm : t ∈ [22] := by simpa using Array.mem_of_getElem? ht
 have hall : ([22].all fun u => !Tryz.prog.wantsStandIn u) = true := by kernel_rfl
 exact (show Tryz.prog.wantsStandIn t = false by simpa using List.all_eq_true.1 hall t hm)
theorem card_of (hE : Every) : Rows.FnHostKeepCardSaid :=
 Claim7.holds_tied_plain_at .later [] _ _ _ _ (said hE) (fun _ h => by cases h) (by kernel_rfl) (fun _ h => by cases h) fnHostKeep_row_tie rfl ⟨rfl, rfl⟩ (by kernel_rfl) rfl plain (by kernel_rfl)
end Go.Proofs.YthmjinhpngfdbaaGreatDoor
namespace Go.V
open Go Go.Proofs Go.ChangeShapes Go.WideShapes Go.ChangeAt Go.RowKit
set_option maxRecDepth 100000
set_option linter.unusedVariables false
set_option maxHeartbeats 4000000 in
theorem con5 (m : Int) (b : List UInt8) : Rn Tryz.prog m 5 ((lc Lg.asl l0).enc (b, ())) ((lc Lg.asl l0).enc (b, ())) (.t (.v (.bool true))) := by
 have g0 : La Tryz.prog (Py m []) ∧ EW (Py m []) := Mq
 have g1 := AB g0 (pS g0)
 have g2 := AB g1 (qE g1)
 have g3 := AB g2 (pU g2 rfl)
 have g4 := AB g3 (cz g3 rfl)
 have g5 := AB g4 (dv g4 rfl)
 have g6 := AB g5 (dw g5)
 have g7 := AB g6 (ph g6)
 have g8 := AB g7 (dl g7 rfl)
 have g9 := AB g8 (dP g8 ⟨rfl, rfl⟩)
 have g10 := AB g9 (qS g9 rfl)
 have g11 := AB g10 (qU g10)
 have g12 := AB g11 (dB g11)
 have g13 := AB g12 (dO g12 rfl)
 have g14 := AB g13 (dA g13 ⟨rfl, rfl⟩)
 have g15 := AB g14 (p8 g14)
 have g16 := AB g15 (qP g15 ⟨rfl, rfl, rfl⟩)
 have g17 := AB g16 (qQ g16)
 have g18 := AB g17 (qR g17)
 have g19 := AB g18 (dx g18 ⟨rfl, rfl⟩)
 have g20 := AB g19 (dQ g19 ⟨rfl, rfl, rfl, rfl, rfl⟩)
 have g21 := AB g20 (qT g20 ⟨rfl, rfl⟩)
 have g22 := AB g21 (pd g21 ⟨rfl, rfl, rfl, rfl, rfl⟩)
 have g23 := AB g22 (p7 g22)
 have g24 := AB g23 (p6 g23 ⟨rfl, rfl, rfl, rfl, rfl⟩)
 have g25 := AB g24 (d8 g24 ⟨rfl, rfl, rfl⟩)
 have g26 := AB g25 (dL g25 rfl)
 have g27 := AB g26 (qF g26 ⟨rfl, rfl⟩)
 have g28 := AB g27 (eX g27 rfl)
 have g29 := AB g28 (eK g28 ⟨rfl, rfl⟩)
 have g30 := AB g29 (eA g29 ⟨rfl, rfl, rfl, rfl⟩)
 have g31 := AB g30 (eG g30 ⟨rfl, rfl, rfl⟩)
 have g32 := AB g31 (dR g31)
 have g33 := AB g32 (qV g32 rfl)
 have g34 := AB g33 (pe g33 ⟨rfl, rfl⟩)
 have g35 := AB g34 (di g34 rfl)
 have g36 := AB g35 (eO g35 ⟨rfl, rfl, rfl, rfl⟩)
 have g37 := AB g36 (dT g36)
 have g38 := AB g37 (eP g37)
 have g39 := AB g38 (eQ g38)
 have g40 := AB g39 (ec g39 rfl)
 have g41 := AB g40 (fF g40)
 have g42 := AB g41 (ew g41 rfl)
 have g43 := AB g42 (dC g42 rfl)
 have g44 := AB g43 (ey g43 rfl)
 have g45 := AB g44 (ex g44 rfl)
 have g46 := AB g45 (e9 g45)
 have g47 := AB g46 (fA g46)
 have g48 := AB g47 (fG g47)
 have g49 := AB g48 (fB g48 rfl)
 have g50 := AB g49 (ef g49 ⟨rfl, rfl, rfl, rfl, rfl, rfl, rfl⟩)
 have g51 := AB g50 (fC g50)
 have g52 := AB g51 (fD g51)
 have g53 := AB g52 (fJ g52)
 have g54 := AB g53 (dr g53 ⟨rfl, rfl⟩)
 have g55 := AB g54 (fK g54 rfl)
 have g56 := AB g55 (eC g55)
 have g57 := AB g56 (du g56 rfl)
 have g58 := AB g57 (fM g57 ⟨rfl, rfl⟩)
 have g59 := AB g58 (fL g58 ⟨rfl, rfl, rfl⟩)
 have g60 := AB g59 (fH g59 ⟨rfl, rfl, rfl, rfl, rfl⟩)
 have g61 := AB g60 (dq g60 rfl)
 have g62 := AB g61 (fI g61 ⟨rfl, rfl, rfl⟩)
 have g63 := AB g62 (fE g62 ⟨rfl, rfl, rfl, rfl⟩)
 have g64 := AB g63 (eg g63 ⟨rfl, rfl, rfl⟩)
 have g65 := AB g64 (eh g64)
 have g66 := AB g65 (eS g65 ⟨rfl, rfl, rfl, rfl⟩)
 have g67 := AB g66 (ej g66)
 have g68 := AB g67 (dU g67)
 have g69 := AB g68 (eT g68 ⟨rfl, rfl, rfl, rfl⟩)
 have g70 := AB g69 (eH g69 ⟨rfl, rfl, rfl, rfl, rfl, rfl, rfl, rfl⟩)
 have g71 := AB g70 (pf g70)
 have g72 := AB g71 (dI g71 ⟨rfl, rfl⟩)
 have g73 := AB g72 (eU g72 rfl)
 have g74 := AB g73 (eV g73 ⟨rfl, rfl⟩)
 have g75 := AB g74 (pg g74)
 have g76 := AB g75 (qW g75 rfl)
 have g77 := AB g76 (dS g76)
 have g78 := AB g77 (qX g77 ⟨rfl, rfl⟩)
 have g79 := AB g78 (dV g78 ⟨rfl, rfl⟩)
 have g80 := AB g79 (qY g79 ⟨rfl, rfl, rfl, rfl, rfl, rfl⟩)
 have g81 := AB g80 (pi g80 ⟨rfl, rfl, rfl, rfl, rfl⟩)
 have g82 := AB g81 (eI g81 ⟨rfl, rfl, rfl, rfl, rfl, rfl⟩)
 have g83 := AB g82 (eW g82)
 have g84 := AB g83 (eJ g83 ⟨rfl, rfl, rfl, rfl, rfl, rfl⟩)
 have g85 := AB g84 (dJ g84 rfl)
 have g86 := AB g85 (qC g85 ⟨rfl, rfl, rfl⟩)
 have g87 := AB g86 (d9 g86 ⟨rfl, rfl, rfl, rfl, rfl⟩)
 have g88 := AB g87 (d7 g87 ⟨rfl, rfl, rfl, rfl, rfl⟩)
 have g89 := AB g88 (dh g88 ⟨rfl, rfl, rfl⟩)
 have g90 := AB g89 (dj g89 ⟨rfl, rfl⟩)
 have g91 := AB g90 (cx g90 ⟨rfl, rfl, rfl⟩)
 have g92 := AB g91 (dk g91 ⟨rfl, rfl, rfl, rfl, rfl, rfl, rfl⟩)
 have g93 := AB g92 (cy g92 ⟨rfl, rfl, rfl⟩)
 have g94 := AB g93 (dK g93 ⟨rfl, rfl⟩)
 have g95 := AB g94 (qD g94 ⟨rfl, rfl, rfl⟩)
 have g96 := AB g95 (c8 g95 ⟨rfl, rfl, rfl⟩)
 have g97 := AB g96 (p5 g96 ⟨rfl, rfl, rfl, rfl, rfl, rfl, rfl⟩)
 have g98 := AB g97 (pT g97 ⟨rfl, rfl, rfl⟩)
 have g99 := AB g98 (pP g98 ⟨rfl, rfl, rfl⟩)
 have g100 := GC g99 (eM m)
 have g101 := AB g100 (eD g100 rfl)
 have g102 := GC g101 (en m)
 have g103 := AB g102 (eY g102 rfl)
 have g104 := GC g103 (eZ m)
 have g105 := AB g104 (ea g104)
 have g106 := AB g105 (ep g105)
 have g107 := AB g106 (eb g106 rfl)
 have g108 := AB g107 (eN g107 ⟨rfl, rfl, rfl, rfl⟩)
 have g109 := AB g108 (eE g108 rfl)
 have g110 := AB g109 (dy g109 ⟨rfl, rfl⟩)
 have g111 := AB g110 (dW g110 rfl)
 have g112 := AB g111 (pY g111)
 have g113 := AB g112 (dz g112)
 have g114 := AB g113 (eF g113)
 have g115 := AB g114 (d4 g114 rfl)
 have g116 := AB g115 (d5 g115 rfl)
 have g117 := AB g116 (da g116 ⟨rfl, rfl, rfl⟩)
 have g118 := AB g117 (cq g117 ⟨rfl, rfl⟩)
 have g119 := AB g118 (qj g118 ⟨rfl, rfl⟩)
 have g120 := AB g119 (cp g119)
 have g121 := AB g120 (co g120 rfl)
 have g122 := AB g121 (qi g121 rfl)
 have g123 := AB g122 (dX g122 ⟨rfl, rfl⟩)
 have g124 := AB g123 (cj g123 rfl)
 have g125 := AB g124 (ql g124 rfl)
 have g126 := AB g125 (dY g125 rfl)
 have g127 := AB g126 (ck g126 rfl)
 have g128 := AB g127 (po g127 ⟨rfl, rfl, rfl⟩)
 have g129 := AB g128 (px g128 ⟨rfl, rfl⟩)
 have g130 := AB g129 (pZ g129 rfl)
 have g131 := AB g130 (cn g130)
 have g132 := AB g131 (pu g131 ⟨rfl, rfl⟩)
 have g133 := AB g132 (dZ g132)
 have g134 := AB g133 (pv g133 rfl)
 have g135 := AB g134 (cl g134 ⟨rfl, rfl, rfl, rfl, rfl, rfl⟩)
 have g136 := AB g135 (pq g135 ⟨rfl, rfl⟩)
 have g137 := AB g136 (db g136)
 have g138 := AB g137 (cr g137 rfl)
 have g139 := AB g138 (py g138 rfl)
 have g140 := AB g139 (pt g139 ⟨rfl, rfl⟩)
 have g141 := AB g140 (ct g140 rfl)
 have g142 := AB g141 (pz g141 rfl)
 have g143 := GC g142 (d6 m)
 have g144 := AB g143 (df g143 rfl)
 have g145 := AB g144 (cw g144 rfl)
 have g146 := AB g145 (cu g145)
 have g147 := AB g146 (p4 g146 ⟨rfl, rfl⟩)
 have g148 := AB g147 (pN g147 ⟨rfl, rfl, rfl, rfl, rfl, rfl⟩)
 have g149 := AB g148 (qB g148)
 have g150 := AB g149 (dM g149)
 have g151 := AB g150 (qG g150 ⟨rfl, rfl⟩)
 have g152 := AB g151 (dN g151)
 have g153 := AB g152 (qH g152 ⟨rfl, rfl⟩)
 have g154 := AB g153 (qI g153)
 have g155 := AB g154 (pV g154 ⟨rfl, rfl, rfl, rfl⟩)
 have g156 := AB g155 (qK g155)
 have g157 := AB g156 (dD g156)
 have g158 := AB g157 (qJ g157 ⟨rfl, rfl⟩)
 have g159 := AB g158 (eL g158)
 have g160 := AB g159 (eB g159 rfl)
 have g161 := AB g160 (dt g160 ⟨rfl, rfl⟩)
 have g162 := AB g161 (dE g161 ⟨rfl, rfl⟩)
 have g163 := AB g162 (p9 g162 ⟨rfl, rfl, rfl, rfl, rfl, rfl⟩)
 have g164 := AB g163 (dG g163 rfl)
 have g165 := AB g164 (dF g164 rfl)
 have g166 := AB g165 (dH g165)
 have g167 := AB g166 (qA g166 ⟨rfl, rfl⟩)
 have g168 := AB g167 (qM g167)
 have g169 := AB g168 (qL g168 rfl)
 have g170 := AB g169 (pX g169 ⟨rfl, rfl⟩)
 have g171 := AB g170 (qN g170)
 have g172 := AB g171 (qO g171)
 have g173 := AB g172 (pc g172 ⟨rfl, rfl, rfl, rfl, rfl⟩)
 have g174 := AB g173 (pQ g173 ⟨rfl, rfl, rfl, rfl, rfl, rfl⟩)
 have g175 := AB g174 (pR g174 ⟨rfl, rfl, rfl⟩)
 have g176 := AB g175 (qZ g175)
 have g177 := AB g176 (pj g176 rfl)
 have g178 := AB g177 (qh g177 rfl)
 have g179 := AB g178 (pk g178 rfl)
 have g180 := AB g179 (pm g179)
 have g181 := AB g180 (pn g180 rfl)
 have g182 := AB g181 (ux g181 ⟨rfl, rfl, rfl, rfl⟩)
 have g183 := AB g182 (pO g182 rfl)
 have hg := uw g183 ⟨rfl, rfl, rfl, rfl, rfl, rfl⟩
 obtain ⟨res, h1, _, h3, _⟩ := hg.ro ((lc Lg.asl l0).enc (b, ())) (fun r => r = .t (.v (.bool true))) (by
  show c5 _ _
  rw [c5, V9, (lc Lg.asl l0).ed]
  exact ⟨trivial, rfl⟩)
 rw [h1] at h3
 exact h3
section
variable {H : Type} {enc : TypeId × Value → H} {W : World}
theorem v3 : Tryz.prog.underlying 3 = some (.int .i64) := by kernel_rfl
theorem v5 : Tryz.prog.underlying 5 = some (.int .u8) := by kernel_rfl
theorem w5 : Tryz.prog.cellsOf 5 = 1 := by kernel_rfl
theorem rdBy : tN Tryz.prog W enc 5 fun ts => ∃ a, ts = Lg.enc a := fun n cs x h => by
 obtain ⟨k, rfl, _, hs⟩ := DataW.trod_int v5 h
 have hb : 0 ≤ k ∧ k < 256 := by
  have e : (Lit.int .u8 k).wf = (decide ((0 : Int) ≤ k) && decide (k ≤ 255)) := rfl
  rw [e] at hs
  simp at hs
  omega
 refine ⟨_, ⟨UInt8.ofNat k.toNat, rfl⟩, .cons _ _ _ _ ?_ .nil⟩
 have e4 : (((UInt8.ofNat k.toNat).toNat : Nat) : Int) = k := by
  have : (UInt8.ofNat k.toNat).toNat = k.toNat := by simp; omega
  omega
 rw [e4]
 exact .v _ trivial
theorem v22 : Tryz.prog.underlying 22 = some (.slice 5) := by kernel_rfl
theorem glOk_of (h : W.ShapedOpen Tryz.prog) : ∃ m, Lh m W (pW W) := by
 obtain ⟨cs, h1, h2, h3⟩ := h.1 0 #[.int .i64 0] 3 (Nat.lt_of_lt_of_le (Nat.lt_succ_self 0) (Nat.le_of_ble_eq_true (by kernel_rfl))) (by kernel_rfl)
 obtain ⟨ts, t1, _, t3⟩ := h3 (by kernel_rfl)
 have hts : ts = [3] := Option.some.inj (t1.symm.trans (by kernel_rfl))
 subst hts
 have hsz : cs.size = 1 := h2
 have h0 : cs[0]? = some cs[0] := Array.getElem?_eq_getElem (by omega)
 obtain ⟨u, hu, hok⟩ := t3 0 _ h0
 simp at hu
 subst hu
 unfold Cell.ok at hok
 rw [v3] at hok
 generalize cs[0] = v at h0 hok
 have hb : (0 : Nat) < W.heap.size := (Array.getElem?_eq_some_iff.1 h1).1
 cases v with
 | int k n =>
   have hk : k = .i64 := hok.1
   subst hk
   refine ⟨n, .rop _ _ [.int .i64 n] (fun _ => hb) (fun j u hj => ?_) (.cons _ _ _ _ (.v _ trivial) .nil)⟩
   cases j with
   | zero =>
     simp at hj
     subst hj
     simp [World.cell?, Addr.add, sx, h1, h0]
   | succ j => simp at hj
 | _ => exact hok.elim
end
theorem every : YthmjinhpngfdbaaGreatDoor.Every := by
 intro H enc W base args ds gs before hval0 hW hS
 have hval : ∀ (j : Nat) t v, Tryz.f5.params[j]? = some t → args[j]? = some v → Value.okWide Tryz.prog W .any base t v := hval0
 have hW' := hW
 obtain ⟨p, q, hA0, hV, rfl, hfz, hnd⟩ := hW
 have hA : DataW.TrodAll enc Tryz.prog W 0 (fun _ => true) true [22] args.toList ds p := hA0
 rw [YthmjinhpngfdbaaGreatDoor.params5] at hval
 obtain ⟨u0, d0, rfl, rfl, h0⟩ := trodAll_one hA
 obtain ⟨rfl, rfl⟩ := trodVars_none hV
 have hlt : ∀ x ∈ (p) ++ [], x.block < W.heap.size := fun x hx => hW'.lt x hx
 have k0 := h0
 obtain ⟨n0, t0⟩ := h0
 obtain ⟨_, ⟨b, rfl⟩, r0⟩ := (tN.slice Lg v22 w5 (by decide) rdBy) _ _ _ t0
 have e0 : u0.cells.toList = [u0] := by
  have := hval 0 22 u0 rfl rfl
  unfold Value.okWide at this
  rw [v22] at this
  cases u0 with
  | agg cs => simp only [Cell.okWide, v22, Cell.ok] at this
  | _ => rfl
 rw [e0] at r0
 have r0' : Ro W (pW W) (.sl 1 (b.map Lg.enc)) u0 := by
  cases r0 with | cons _ _ _ _ h _ => exact h
 have a0 : AG ρ0 W (pW W) (.t (.sl 1 (b.map Lg.enc))) u0 [] := .t _ _ r0'
 obtain ⟨m, hgl⟩ := glOk_of hS
 have hargs : AJ ρ0 W (pW W) ((lc Lg.asl l0).enc (b, ())) [u0] [] := .cons _ _ _ _ [] [] a0 .nil
 have hcall := con5 m b W (pW W) [u0] [] hgl hargs .nil (fun b hb => by cases hb) (fun b hb => hb)
 refine Calls.mono hcall fun e W' hq => ?_
 obtain ⟨v, pr', G, F, he, hfr, _, _, _, _, hv, _, _⟩ := hq
 obtain ⟨rfl, _⟩ := hv.val
 have hb : Below W.heap.size W W' := ⟨hfr.os, hfr.tape, hfr.output, hfr.size, fun k hk => hfr.block k hk (by simp)⟩
 refine ⟨_, he, _, _, _, [], p, [], hW', ?_, ?_, rfl, hb.frame _, fun h => by cases h⟩
 ·exact trodAll_mk1 (shut_bool (show Tryz.prog.underlying 4 = some .bool by kernel_rfl) _)
 ·have := trodAll_mk1 (Below.trod (by kernel_rfl) (by kernel_rfl) (of_decide_eq_true (by kernel_rfl)) k0 hb fun x hx => hlt x (by simp [hx]))
  exact this
end Go.V
namespace Go.Proofs.YthmjinhpngfdbaaGreatDoor
theorem fnHostKeep_card : Rows.FnHostKeepCardSaid := card_of Go.V.every
end Go.Proofs.YthmjinhpngfdbaaGreatDoor
