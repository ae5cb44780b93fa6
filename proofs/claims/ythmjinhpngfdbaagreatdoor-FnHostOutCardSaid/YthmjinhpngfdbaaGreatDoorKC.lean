/- The row. No condition. -/
import Derived.Test.YthmjinhpngfdbaaGreatDoorKB
import Derived.Test.YthmjinhpngfdbaaGreatDoorXB
import Derived.Test.YthmjinhpngfdbaaGreatDoorKA
namespace Go.V
open Go Go.Proofs
set_option maxRecDepth 100000
set_option linter.unusedSimpArgs false
set_option linter.unusedVariables false
def Ya (s : Sp) (k : Nat) (n : Int) : Sp := ⟨s.last, s.items.set k ⟨n, (s.items.getD k default).frm, (s.items.getD k default).to, (s.items.getD k default).body⟩⟩
def PS (s : Sp) (k : Nat) (l : List Rc) : Sp := ⟨s.last, s.items.set k ⟨(s.items.getD k default).id, (s.items.getD k default).frm, l, (s.items.getD k default).body⟩⟩
def Fj (l : List Rc) (n : Int) : List Rc := l.set 0 ⟨(l.getD 0 default).addr, n, (l.getD 0 default).next⟩
noncomputable def H4 (r : Rd) : Int := Af (GX r) (EM r).items.length
noncomputable def LM (r : Rd) : Int := Af ((GX r).nx 1) 14
noncomputable def J0 (r : Rd) : Sp × Rd :=
 if ((EM r).items.length : Int) > 0 then
  (if LM r = 0 then (Ya (EM r) (H4 r).toNat (F9 ((GX r).nx 2) [0, 1, 99]), (GX r).nx 3)
   else if LM r = 1 then (PS (EM r) (H4 r).toNat [], (GX r).nx 2)
   else if LM r = 2 then (PS (EM r) (H4 r).toNat (Fj ((EM r).items.getD (H4 r).toNat default).to (F9 ((GX r).nx 2) [-1, 4])), (GX r).nx 3)
   else if LM r = 3 then (⟨F9 ((GX r).nx 2) [-1, 0, 1000, 999], (EM r).items⟩, (GX r).nx 3)
   else (EM r, (GX r).nx 2))
 else (EM r, GX r)
theorem iE {r : Rd} (h : ¬ ((EM r).items.length : Int) > 0) : J0 r = (EM r, GX r) := if_neg h
theorem hY {r : Rd} (h : ((EM r).items.length : Int) > 0) (c : LM r = 0) : J0 r = (Ya (EM r) (H4 r).toNat (F9 ((GX r).nx 2) [0, 1, 99]), (GX r).nx 3) := by unfold J0; rw [if_pos h, if_pos c]
theorem iA {r : Rd} (h : ((EM r).items.length : Int) > 0) (c : LM r = 1) : J0 r = (PS (EM r) (H4 r).toNat [], (GX r).nx 2) := by unfold J0; rw [if_pos h, if_neg (by omega), if_pos c]
theorem iB {r : Rd} (h : ((EM r).items.length : Int) > 0) (c : LM r = 2) : J0 r = (PS (EM r) (H4 r).toNat (Fj ((EM r).items.getD (H4 r).toNat default).to (F9 ((GX r).nx 2) [-1, 4])), (GX r).nx 3) := by unfold J0; rw [if_pos h, if_neg (by omega), if_neg (by omega), if_pos c]
theorem iC {r : Rd} (h : ((EM r).items.length : Int) > 0) (c : LM r = 3) : J0 r = (⟨F9 ((GX r).nx 2) [-1, 0, 1000, 999], (EM r).items⟩, (GX r).nx 3) := by unfold J0; rw [if_pos h, if_neg (by omega), if_neg (by omega), if_neg (by omega), if_pos c]
theorem iD {r : Rd} (h : ((EM r).items.length : Int) > 0) (c : ¬ LM r = 0 ∧ ¬ LM r = 1 ∧ ¬ LM r = 2 ∧ ¬ LM r = 3) : J0 r = (EM r, (GX r).nx 2) := by unfold J0; rw [if_pos h, if_neg c.1, if_neg c.2.1, if_neg c.2.2.1, if_neg c.2.2.2]
theorem CI {s : Sp} {k : Nat} {n : Int} : (s.items.map Ah).set k [.v (.int .i64 n), .v (.string (s.items.getD k default).frm.user), .v (.string (s.items.getD k default).frm.domain), .sl 4 ((s.items.getD k default).to.map BD), .sl 1 ((s.items.getD k default).body.map AH)] = (Ya s k n).items.map Ah := by
 show _ = (s.items.set k _).map Ah
 rw [List.map_set]; rfl
theorem A5 {s : Sp} {k : Nat} {l : List Rc} : (s.items.map Ah).set k [.v (.int .i64 (s.items.getD k default).id), .v (.string (s.items.getD k default).frm.user), .v (.string (s.items.getD k default).frm.domain), .sl 4 (l.map BD), .sl 1 ((s.items.getD k default).body.map AH)] = (PS s k l).items.map Ah := by
 show _ = (s.items.set k _).map Ah
 rw [List.map_set]; rfl
theorem Yt {l : List Rc} {n : Int} : (l.map BD).set 0 [.v (.string (l.getD 0 default).addr.user), .v (.string (l.getD 0 default).addr.domain), .v (.int .i64 n), .v (.int .i64 (l.getD 0 default).next)] = (Fj l n).map BD := by
 unfold Fj
 rw [List.map_set]; rfl
theorem zC : (0 : Int).toNat = 0 := rfl
theorem sy {r : Rd} : Af (GX r) ((EM r).items.length : Int) = H4 r := rfl
theorem sw {r : Rd} : Af ((GX r).nx 1) 14 = LM r := rfl
theorem Jj {s : Sp} (h : EF s) {k : Nat} {x : Im} (hx : D0 x) : EF ⟨s.last, s.items.set k x⟩ := ⟨by show ((s.items.set k x).length : Int) ≤ 1048576; rw [List.length_set]; exact h.1, fun y hy => by
 rcases List.mem_or_eq_of_mem_set hy with hy | rfl
 ·exact h.2 y hy
 ·exact hx⟩
theorem VD {r : Rd} (h0 : 0 ≤ r.p) (h1 : r.p ≤ 999980000) : EF (J0 r).1 ∧ (J0 r).2.b = r.b ∧ r.p ≤ (J0 r).2.p ∧ (J0 r).2.p ≤ r.p + 303 := by
 obtain ⟨a1, a2, a3, a4⟩ := Yd h0 (show r.p ≤ 999990000 by omega)
 have zs := HE a1
 by_cases h : ((EM r).items.length : Int) > 0
 ·have hb := Bd (r := GX r) (n := (EM r).items.length) (by omega) (by omega)
  have hx : D0 ((EM r).items.getD (H4 r).toNat default) := zs.2 _ (AE (by unfold H4; omega))
  by_cases c0 : LM r = 0
  ·rw [hY h c0]; exact ⟨Jj zs ⟨hx.1, hx.2.1, hx.2.2⟩, a2, by rw [AJ]; omega, by rw [AJ]; omega⟩
  ·by_cases c1 : LM r = 1
   ·rw [iA h c1]; exact ⟨Jj zs ⟨hx.1, ⟨by show ((0 : Nat) : Int) ≤ 1048576; decide, fun _ q => by cases q⟩, hx.2.2⟩, a2, by rw [AJ]; omega, by rw [AJ]; omega⟩
   ·by_cases c2 : LM r = 2
    ·rw [iB h c2]
     refine ⟨Jj zs ⟨hx.1, ⟨?_, fun y hy => ?_⟩, hx.2.2⟩, a2, by rw [AJ]; omega, by rw [AJ]; omega⟩
     ·show ((Fj _ _).length : Int) ≤ _
      unfold Fj; rw [List.length_set]; exact hx.2.1.1
     ·have hy : y ∈ Fj _ _ := hy
      unfold Fj at hy
      have hl : 0 < ((EM r).items.getD (H4 r).toNat default).to.length := (a1.1 _ (AE (xs := (EM r).items) (j := (H4 r).toNat) (by unfold H4; omega))).1.2.2.2.2.1.1
      rcases List.mem_or_eq_of_mem_set hy with hy | rfl
      ·exact hx.2.1.2 y hy
      ·have := hx.2.1.2 _ (AE hl)
       exact this
    ·by_cases c3 : LM r = 3
     ·rw [iC h c3]; exact ⟨zs, a2, by rw [AJ]; omega, by rw [AJ]; omega⟩
     ·rw [iD h ⟨c0, c1, c2, c3⟩]; exact ⟨zs, a2, by rw [AJ]; omega, by rw [AJ]; omega⟩
 ·rw [iE h]; exact ⟨zs, a2, a3, by show (GX r).p ≤ _; omega⟩
def Xw (r : Rd) (s : Sp) : Rd := if (s.items.length : Int) = 0 then r else r.nx 1
def O4 (r : Rd) (s : Sp) : Im := s.items.getD (Af (r.nx 1) s.items.length).toNat default
def Np (r : Rd) (s : Sp) : (Int × Ad) × Rd :=
 if (s.items.length : Int) = 0 ∨ Af r 6 = 0 then ((Af (Xw r s) 4, D1 ((Xw r s).nx 1)), (Xw r s).nx 3)
 else if ((O4 r s).to.length : Int) = 0 then (((O4 r s).id, D1 (r.nx 2)), r.nx 4)
 else (((O4 r s).id, ((O4 r s).to.getD (Af (r.nx 2) (O4 r s).to.length).toNat default).addr), r.nx 3)
theorem jJ {r : Rd} {s : Sp} (h : (s.items.length : Int) = 0) : Np r s = ((Af r 4, D1 (r.nx 1)), r.nx 3) := by
 have e : Xw r s = r := if_pos h
 unfold Np; rw [if_pos (.inl h), e]
theorem jK {r : Rd} {s : Sp} (h : ¬ (s.items.length : Int) = 0) (h2 : Af r 6 = 0) : Np r s = ((Af (r.nx 1) 4, D1 (r.nx 2)), r.nx 4) := by
 have e : Xw r s = r.nx 1 := if_neg h
 unfold Np; rw [if_pos (.inr h2), e, Bc, Bc]; rfl
theorem jL {r : Rd} {s : Sp} (h : ¬ (s.items.length : Int) = 0) (h2 : ¬ Af r 6 = 0) (h3 : ((O4 r s).to.length : Int) = 0) : Np r s = (((O4 r s).id, D1 (r.nx 2)), r.nx 4) := by
 unfold Np; rw [if_neg (fun q => q.elim h h2), if_pos h3]
theorem jM {r : Rd} {s : Sp} (h : ¬ (s.items.length : Int) = 0) (h2 : ¬ Af r 6 = 0) (h3 : ¬ ((O4 r s).to.length : Int) = 0) : Np r s = (((O4 r s).id, ((O4 r s).to.getD (Af (r.nx 2) (O4 r s).to.length).toNat default).addr), r.nx 3) := by
 unfold Np; rw [if_neg (fun q => q.elim h h2), if_neg h3]
theorem ur {r : Rd} {s : Sp} : s.items.getD (Af (r.nx 1) (s.items.length : Int)).toNat default = O4 r s := rfl
theorem jN {r : Rd} {s : Sp} (h0 : 0 ≤ r.p) (h1 : r.p ≤ 999990000) (hs : EF s) : (Np r s).2.b = r.b ∧ r.p ≤ (Np r s).2.p ∧ (Np r s).2.p ≤ r.p + 4 ∧ FM (Np r s).1.2 := by
 by_cases h : (s.items.length : Int) = 0
 ·rw [jJ h]; exact ⟨rfl, by rw [AJ]; omega, by rw [AJ]; omega, By (.inl (H1 (by rw [AJ]; omega) (by rw [AJ]; omega)))⟩
 ·have hb := Bd (r := r.nx 1) (n := s.items.length) (by rw [AJ]; omega) (by rw [AJ]; omega)
  have hx : D0 (O4 r s) := hs.2 _ (AE (by omega))
  by_cases h2 : Af r 6 = 0
  ·rw [jK h h2]; exact ⟨rfl, by rw [AJ]; omega, by rw [AJ]; omega, By (.inl (H1 (by rw [AJ]; omega) (by rw [AJ]; omega)))⟩
  ·by_cases h3 : ((O4 r s).to.length : Int) = 0
   ·rw [jL h h2 h3]; exact ⟨rfl, by rw [AJ]; omega, by rw [AJ]; omega, By (.inl (H1 (by rw [AJ]; omega) (by rw [AJ]; omega)))⟩
   ·have hc := Bd (r := r.nx 2) (n := (O4 r s).to.length) (by rw [AJ]; omega) (by rw [AJ]; omega)
    rw [jM h h2 h3]; exact ⟨rfl, by rw [AJ]; omega, by rw [AJ]; omega, hx.2.1.2 _ (AE (by omega))⟩
def lA : Mt := GL (lc Dx l0) (fun p => 0 ≤ p.1.p ∧ p.1.p ≤ 999980000) (fun p => ([Dx.enc (J0 p.1).2], Q8 (J0 p.1).1))
section
attribute [local go_sem] lX Gj Tb AJ Bs A9 BF BP Bc CQ Bf Bh A1 lm List.length_append List.length_cons List.length_nil List.map_append List.map_nil Nat.zero_add List.nil_append AS.opn AS.cls AS.nilb AS.renb AS.up Bool.not_false Bool.not_true List.set_set List.set_cons_zero List.set_cons_succ List.set_nil List.mem_singleton forall_eq sy sw FU Ab BR IC ID IE EY EZ
set_option maxHeartbeats 6400000 in
theorem cL {G : Gt} (hG : Aj G) (hh : G.e 160 = AN lX ∧ G.e 71 = AN Gj ∧ G.e 24 = AN Tb) : Gd G 112 (AN lA) := by
 refine Ik (dp := fun n => !(Nat.beq n 100010 || Nat.beq n 100013)) (fn := Tryz.f112) (n := 1) rfl hG ?_
 rintro ⟨r, ⟨⟩⟩ hpre
 obtain ⟨h1, h2⟩ := hpre
 try dsimp only at h1 h2 ⊢
 obtain ⟨a1, a2, a3, a4⟩ := Yd h1 (show r.p ≤ 999990000 by omega)
 have zs := HE a1
 by_cases h : ((EM r).items.length : Int) > 0
 ·have hb := Bd (r := GX r) (n := (EM r).items.length) (by omega) (by omega)
  have hk : 0 ≤ H4 r ∧ H4 r < (EM r).items.length := by unfold H4; omega
  by_cases c0 : LM r = 0
  ·skip
   rw [hY h c0]
   simp -implicitDefEqProofs only [Tryz.f112, h, c0, eq_self, decide_true, decide_false, Int.reduceEq, go_sem, hh, Int.reduceAdd, seval]
   with_reducible repeat' (first | apply ai | intro _ | ((first | apply s1 | apply s3 | apply s4) <;> intro hb <;> simp -implicitDefEqProofs only [hb, go_sem, hh, Int.reduceAdd, seval] <;> try simp only [qz] at hb))
   all_goals (try simp only [maxLen, tn] at *)
   all_goals first | rfl | omega | decide | assumption | exact CI | exact A5 | exact A5 (l := []) | skip
   all_goals first | (refine AW ?_) | skip
   simp -implicitDefEqProofs only [go_sem, hh, Int.reduceAdd, seval]
   with_reducible repeat' (first | apply ai | intro _ | ((first | apply s1 | apply s3 | apply s4) <;> intro hb <;> simp -implicitDefEqProofs only [hb, go_sem, hh, Int.reduceAdd, seval] <;> try simp only [qz] at hb))
   all_goals (try simp only [maxLen, tn] at *)
   all_goals first | rfl | omega | decide | assumption | exact CI | exact A5 | exact A5 (l := []) | skip
   trace_state
  ·by_cases c1 : LM r = 1
   ·skip
    rw [iA h c1]
    simp -implicitDefEqProofs only [Tryz.f112, h, c1, eq_self, decide_true, decide_false, Int.reduceEq, go_sem, hh, Int.reduceAdd, seval]
    with_reducible repeat' (first | apply ai | intro _ | ((first | apply s1 | apply s3 | apply s4) <;> intro hb <;> simp -implicitDefEqProofs only [hb, go_sem, hh, Int.reduceAdd, seval] <;> try simp only [qz] at hb))
    all_goals (try simp only [maxLen, tn] at *)
    all_goals first | rfl | omega | decide | assumption | exact CI | exact A5 | exact A5 (l := []) | skip
    refine Ak (Le.setn 1006 (H4 r).toNat (e' := [.v (.int .i64 ((EM r).items.getD (H4 r).toNat default).id), .v (.string ((EM r).items.getD (H4 r).toNat default).frm.user), .v (.string ((EM r).items.getD (H4 r).toNat default).frm.domain), .sl 4 [], .sl 1 (((EM r).items.getD (H4 r).toNat default).body.map AH)]) rfl (.cons (.same _) (.cons (.same _) (.cons (.same _) (.cons (.nil _) (.cons (.same _) .nil)))))) (AW ?_)
    simp -implicitDefEqProofs only [go_sem, hh, Int.reduceAdd, seval]
    with_reducible repeat' (first | apply ai | intro _ | ((first | apply s1 | apply s3 | apply s4) <;> intro hb <;> simp -implicitDefEqProofs only [hb, go_sem, hh, Int.reduceAdd, seval] <;> try simp only [qz] at hb))
    all_goals (try simp only [maxLen, tn] at *)
    all_goals first | rfl | omega | decide | assumption | exact CI | exact A5 | exact A5 (l := []) | skip
    trace_state
   ·by_cases c2 : LM r = 2
    ·skip
     rw [iB h c2]
     simp -implicitDefEqProofs only [Tryz.f112, h, c2, eq_self, decide_true, decide_false, Int.reduceEq, go_sem, hh, Int.reduceAdd, seval]
     with_reducible repeat' (first | apply ai | intro _ | ((first | apply s1 | apply s3 | apply s4) <;> intro hb <;> simp -implicitDefEqProofs only [hb, go_sem, hh, Int.reduceAdd, seval] <;> try simp only [qz] at hb))
     all_goals (try simp only [maxLen, tn] at *)
     all_goals first | rfl | omega | decide | assumption | exact CI | exact A5 | exact A5 (l := []) | skip
     have hkl : (H4 r).toNat < ((EM r).items.map Ah).length := by rw [lm]; omega
     have hto : 0 < ((EM r).items.getD (H4 r).toNat default).to.length := (a1.1 _ (AE (xs := (EM r).items) (j := (H4 r).toNat) (by omega))).1.2.2.2.2.1.1
     refine Hh 1006 1910 2910 (H4 r).toNat 3 rfl (NA Ah (by omega)) rfl rfl fun x => AW ?_
     simp -implicitDefEqProofs only [Cw hkl, FQ hkl, List.length_set, zC, go_sem, hh, Int.reduceAdd, seval]
     with_reducible repeat' (first | apply ai | intro _ | ((first | apply s1 | apply s3 | apply s4) <;> intro hb <;> simp -implicitDefEqProofs only [hb, go_sem, hh, Int.reduceAdd, seval] <;> try simp only [qz] at hb))
     all_goals (try simp only [maxLen, tn] at *)
     all_goals first | rfl | omega | decide | assumption | exact CI | exact A5 | exact A5 (l := []) | (show AT _ = true; rfl) | skip
     refine Ej 1006 1910 2910 (H4 r).toNat 3 rfl (GB hkl _) rfl rfl rfl rfl (AW ?_)
     simp -implicitDefEqProofs only [Yt, go_sem, hh, Int.reduceAdd, seval]
     with_reducible repeat' (first | apply ai | intro _ | ((first | apply s1 | apply s3 | apply s4) <;> intro hb <;> simp -implicitDefEqProofs only [hb, go_sem, hh, Int.reduceAdd, seval] <;> try simp only [qz] at hb))
     all_goals (try simp only [maxLen, tn] at *)
     all_goals first | rfl | omega | decide | assumption | exact CI | exact A5 | exact A5 (l := []) | skip
     trace_state
    ·by_cases c3 : LM r = 3
     ·skip
      rw [iC h c3]
      simp -implicitDefEqProofs only [Tryz.f112, h, c3, eq_self, decide_true, decide_false, Int.reduceEq, go_sem, hh, Int.reduceAdd, seval]
      with_reducible repeat' (first | apply ai | intro _ | ((first | apply s1 | apply s3 | apply s4) <;> intro hb <;> simp -implicitDefEqProofs only [hb, go_sem, hh, Int.reduceAdd, seval] <;> try simp only [qz] at hb))
      all_goals (try simp only [maxLen, tn] at *)
      all_goals first | rfl | omega | decide | assumption | exact CI | exact A5 | exact A5 (l := []) | skip
      all_goals first | (refine AW ?_) | skip
      simp -implicitDefEqProofs only [go_sem, hh, Int.reduceAdd, seval]
      with_reducible repeat' (first | apply ai | intro _ | ((first | apply s1 | apply s3 | apply s4) <;> intro hb <;> simp -implicitDefEqProofs only [hb, go_sem, hh, Int.reduceAdd, seval] <;> try simp only [qz] at hb))
      all_goals (try simp only [maxLen, tn] at *)
      all_goals first | rfl | omega | decide | assumption | exact CI | exact A5 | exact A5 (l := []) | skip
      trace_state
     ·skip
      rw [iD h ⟨c0, c1, c2, c3⟩]
      simp -implicitDefEqProofs only [Tryz.f112, h, c0, c1, c2, c3, eq_self, decide_true, decide_false, Int.reduceEq, go_sem, hh, Int.reduceAdd, seval]
      with_reducible repeat' (first | apply ai | intro _ | ((first | apply s1 | apply s3 | apply s4) <;> intro hb <;> simp -implicitDefEqProofs only [hb, go_sem, hh, Int.reduceAdd, seval] <;> try simp only [qz] at hb))
      all_goals (try simp only [maxLen, tn] at *)
      all_goals first | rfl | omega | decide | assumption | exact CI | exact A5 | exact A5 (l := []) | skip
      all_goals first | (refine AW ?_) | skip
      simp -implicitDefEqProofs only [go_sem, hh, Int.reduceAdd, seval]
      with_reducible repeat' (first | apply ai | intro _ | ((first | apply s1 | apply s3 | apply s4) <;> intro hb <;> simp -implicitDefEqProofs only [hb, go_sem, hh, Int.reduceAdd, seval] <;> try simp only [qz] at hb))
      all_goals (try simp only [maxLen, tn] at *)
      all_goals first | rfl | omega | decide | assumption | exact CI | exact A5 | exact A5 (l := []) | skip
      trace_state
 ·skip
  rw [iE h]
  simp -implicitDefEqProofs only [Tryz.f112, h, eq_self, decide_true, decide_false, Int.reduceEq, go_sem, hh, Int.reduceAdd, seval]
  with_reducible repeat' (first | apply ai | intro _ | ((first | apply s1 | apply s3 | apply s4) <;> intro hb <;> simp -implicitDefEqProofs only [hb, go_sem, hh, Int.reduceAdd, seval] <;> try simp only [qz] at hb))
  all_goals (try simp only [maxLen, tn] at *)
  all_goals first | rfl | omega | decide | assumption | exact CI | exact A5 | exact A5 (l := []) | skip
  all_goals first | (refine AW ?_) | skip
  simp -implicitDefEqProofs only [go_sem, hh, Int.reduceAdd, seval]
  with_reducible repeat' (first | apply ai | intro _ | ((first | apply s1 | apply s3 | apply s4) <;> intro hb <;> simp -implicitDefEqProofs only [hb, go_sem, hh, Int.reduceAdd, seval] <;> try simp only [qz] at hb))
  all_goals (try simp only [maxLen, tn] at *)
  all_goals first | rfl | omega | decide | assumption | exact CI | exact A5 | exact A5 (l := []) | skip
  trace_state
end
def wq : Mt := GL (lc Dx (lc LG.ag l0)) (fun p => (0 ≤ p.1.p ∧ p.1.p ≤ 999980000) ∧ EF p.2.1) (fun p => ([Dx.enc (Np p.1 p.2.1).2, LG.ag.enc p.2.1], .tup [.t (.v (.int .i64 (Np p.1 p.2.1).1.1)), .agg [.t (.v (.string (Np p.1 p.2.1).1.2.user)), .t (.v (.string (Np p.1 p.2.1).1.2.domain))]]))
section
attribute [local go_sem] Gj mi AJ Bs A9 BF BP Bc CQ Bf Bh A1 lm List.length_append List.length_cons List.length_nil List.map_append List.map_nil Nat.zero_add List.nil_append AS.opn AS.cls AS.nilb AS.renb AS.up Bool.not_false Bool.not_true List.set_set List.set_cons_zero List.set_cons_succ List.set_nil List.mem_singleton forall_eq ur IC ID IE EY EZ
set_option maxHeartbeats 3200000 in
theorem oZ {G : Gt} (hG : Aj G) (hh : G.e 71 = AN Gj ∧ G.e 72 = AN mi) : Gd G 23 (AN wq) := by
 refine Ik (dp := fun _ => true) (fn := Tryz.f23) (n := 2) rfl hG ?_
 rintro ⟨r, s, ⟨⟩⟩ hpre
 obtain ⟨⟨h1, h2⟩, zs⟩ := hpre
 try dsimp only at h1 h2 zs ⊢
 by_cases L : (s.items.length : Int) = 0
 ·skip
  rw [jJ L]
  simp -implicitDefEqProofs only [Tryz.f23, L, eq_self, decide_true, decide_false, Int.reduceEq, go_sem, hh, Int.reduceAdd, seval]
  with_reducible repeat' (first | apply ai | intro _ | ((first | apply s1 | apply s3 | apply s4) <;> intro hb <;> simp -implicitDefEqProofs only [hb, go_sem, hh, Int.reduceAdd, seval] <;> try simp only [qz] at hb))
  all_goals (try simp only [maxLen, tn] at *)
  all_goals first | rfl | omega | decide | assumption | (show AT _ = true; rfl) | skip
 ·have hb := Bd (r := r.nx 1) (n := s.items.length) (by rw [AJ]; omega) (by rw [AJ]; omega)
  by_cases P : Af r 6 = 0
  ·skip
   rw [jK L P]
   simp -implicitDefEqProofs only [Tryz.f23, L, P, eq_self, decide_true, decide_false, Int.reduceEq, go_sem, hh, Int.reduceAdd, seval]
   with_reducible repeat' (first | apply ai | intro _ | ((first | apply s1 | apply s3 | apply s4) <;> intro hb <;> simp -implicitDefEqProofs only [hb, go_sem, hh, Int.reduceAdd, seval] <;> try simp only [qz] at hb))
   all_goals (try simp only [maxLen, tn] at *)
   all_goals first | rfl | omega | decide | assumption | (show AT _ = true; rfl) | skip
  ·have hc := Bd (r := r.nx 2) (n := (O4 r s).to.length) (by rw [AJ]; omega) (by rw [AJ]; omega)
   by_cases Q : ((O4 r s).to.length : Int) = 0
   ·skip
    rw [jL L P Q]
    simp -implicitDefEqProofs only [Tryz.f23, L, P, Q, eq_self, decide_true, decide_false, Int.reduceEq, go_sem, hh, Int.reduceAdd, seval]
    with_reducible repeat' (first | apply ai | intro _ | ((first | apply s1 | apply s3 | apply s4) <;> intro hb <;> simp -implicitDefEqProofs only [hb, go_sem, hh, Int.reduceAdd, seval] <;> try simp only [qz] at hb))
    all_goals (try simp only [maxLen, tn] at *)
    all_goals first | rfl | omega | decide | assumption | (show AT _ = true; rfl) | skip
   ·skip
    rw [jM L P Q]
    simp -implicitDefEqProofs only [Tryz.f23, L, P, Q, eq_self, decide_true, decide_false, Int.reduceEq, go_sem, hh, Int.reduceAdd, seval]
    with_reducible repeat' (first | apply ai | intro _ | ((first | apply s1 | apply s3 | apply s4) <;> intro hb <;> simp -implicitDefEqProofs only [hb, go_sem, hh, Int.reduceAdd, seval] <;> try simp only [qz] at hb))
    all_goals (try simp only [maxLen, tn] at *)
    all_goals first | rfl | omega | decide | assumption | (show AT _ = true; rfl) | skip
end
def opn (b : List UInt8) : Rd := ⟨if (b.length : Int) > 2000 then b.take 2000 else b, 0⟩
theorem uw {b : List UInt8} (h : (b.length : Int) > 2000) : opn b = ⟨b.take 2000, 0⟩ := by unfold opn; rw [if_pos h]
theorem uv {b : List UInt8} (h : ¬ (b.length : Int) > 2000) : opn b = ⟨b, 0⟩ := by unfold opn; rw [if_neg h]
theorem Hc (b : List UInt8) : (opn b).p = 0 := rfl
theorem uu (b : List UInt8) : (⟨(opn b).b, 0⟩ : Rd) = opn b := rfl
theorem xz {b : List UInt8} {k : Nat} : List.take k (b.map CO) = (b.take k).map CO := by rw [List.map_take]
theorem zF : (2000 : Int).toNat = 2000 := rfl
def wn : Ct := An (lc LF.asl l0) (fun p => True) (fun p => Dx.enc (opn p.1))
section
attribute [local go_sem] JK RZ BP M9 xz zF A9 lm List.drop_zero A1 AS.opn AS.cls AS.nilb AS.renb AS.up Bool.not_false Bool.not_true List.set_set List.set_cons_zero List.set_cons_succ List.set_nil List.mem_singleton forall_eq
set_option maxHeartbeats 800000 in
theorem oX {G : Gt} (hG : Aj G) : Gd G 21 (AA 1 wn) := by
 refine gr (fn := Tryz.f21) (n := 1) rfl hG ?_
 rintro ⟨b, ⟨⟩⟩ hpre
 dsimp only
 by_cases L : (b.length : Int) > 2000
 ·rw [uw L]
  simp -implicitDefEqProofs only [Tryz.f21, L, decide_true, go_sem, seval]
  with_reducible repeat' (first | apply ai | intro _ | ((first | apply s1 | apply s3 | apply s4) <;> intro hb <;> simp -implicitDefEqProofs only [hb, go_sem, seval] <;> try simp only [qz] at hb))
  all_goals (try simp only [maxLen, tn] at *)
  all_goals first | rfl | omega | decide | assumption | (show AT _ = true; rfl) | skip
 ·rw [uv L]
  simp -implicitDefEqProofs only [Tryz.f21, L, decide_false, go_sem, seval]
  with_reducible repeat' (first | apply ai | intro _ | ((first | apply s1 | apply s3 | apply s4) <;> intro hb <;> simp -implicitDefEqProofs only [hb, go_sem, seval] <;> try simp only [qz] at hb))
  all_goals (try simp only [maxLen, tn] at *)
  all_goals first | rfl | omega | decide | assumption | (show AT _ = true; rfl) | skip
end
theorem Ex {α : Type} [Inhabited α] {xs ys : List α} (i : Nat) (hl : xs.length = ys.length) (h : ∀ j, j < i → xs.getD j default = ys.getD j default) (hi : xs.length ≤ i) : xs = ys := by
 refine List.ext_getElem hl fun j h1 h2 => ?_
 have := h j (by omega)
 simpa [h1, h2] using this
theorem E3 {α : Type} [Inhabited α] {xs ys : List α} {i : Nat} (hall : ∀ j, j < i → xs.getD j default = ys.getD j default) (h : xs.getD i default = ys.getD i default) : ∀ j, j < i + 1 → xs.getD j default = ys.getD j default := fun j hj => by
 by_cases e : j = i
 ·subst e; exact h
 ·exact hall j (by omega)
def ml : Ct := An (lc Al.asl (lc Al.asl l0)) (fun p => True) (fun p => .t (.v (.bool (decide (p.1 = p.2.1)))))
section
attribute [local go_sem] lm
set_option maxHeartbeats 800000 in
theorem pz {G : Gt} (hG : Aj G) : Gd G 95 (AA 0 ml) := by
 refine gr (fn := Tryz.f95) (n := 2) rfl hG ?_
 rintro ⟨xs, ys, ⟨⟩⟩ hpre
 simp -implicitDefEqProofs only [Tryz.f95, go_sem, seval] at hpre ⊢
 with_reducible repeat' (first | apply ai | intro _ | ((first | apply s1 | apply s3 | apply s4) <;> intro hb <;> simp -implicitDefEqProofs only [hb, go_sem, seval] <;> try simp only [qz] at hb))
 all_goals (try simp only [maxLen] at *)
 all_goals first | rfl | omega | skip
 ·have : ¬ xs = ys := fun e => hb (by rw [e])
  simp [this]
 ·have hl : xs.length = ys.length := by omega
  refine AF [] (ι := {i : Nat // i ≤ xs.length ∧ ∀ j, j < i → xs.getD j default = ys.getD j default}) (fun p => ⟨[(0, .t (.sl 1 (xs.map AH))), (1, .t (.sl 1 (ys.map AH))), (5, .t (.v (.int .i64 p.1)))], []⟩) (fun p => xs.length - p.1) ⟨0, by simp, by simp⟩ rfl ?_ ?_
  ·simp -implicitDefEqProofs only [go_sem, seval]
   try simp
  ·rintro ⟨i, hi, hall⟩
   simp -implicitDefEqProofs only [go_sem, seval]
   with_reducible repeat' (first | apply ai | intro _ | ((first | apply s1 | apply s3 | apply s4) <;> intro hb <;> simp -implicitDefEqProofs only [hb, go_sem, seval] <;> try simp only [qz] at hb))
   all_goals (try simp only [maxLen, tn] at *)
   all_goals first
    | rfl
    | omega
    | decide
    | (show AT _ = true; rfl)
    | ((have hne : ¬ xs = ys := fun e => by subst e; first | exact hb rfl | (simp at hb; done)); simp [hne]; done)
    | (refine ⟨⟨i + 1, by omega, E3 hall (by first | assumption | (simp [*] at *; done))⟩, by dsimp only; omega, ?_⟩
       simp -implicitDefEqProofs only [go_sem, seval]
       try simp
       done)
    | (have hxy := Ex i hl hall (by omega)
       simp [hxy]
       done)
    | skip
end
theorem wa {a b : Ad} : (decide (a.user = b.user) && decide (a.domain = b.domain)) = decide (a = b) := by
 rw [← Bool.decide_and]; exact decide_eq_decide.2 BW.symm
theorem wY {a b : Ad} : ((true != (decide (a.user = b.user) && decide (a.domain = b.domain))) = true) = ¬ a = b := by
 rw [wa]; by_cases h : a = b <;> simp [h]
theorem kU {a b : Ad} : ((true != (decide (a.user = b.user) && decide (a.domain = b.domain))) = false) = (a = b) := by
 rw [wa]; by_cases h : a = b <;> simp [h]
theorem yv {a b : Rc} : (decide (a.addr.user = b.addr.user) && decide (a.addr.domain = b.addr.domain) && decide (a.tries = b.tries) && decide (a.next = b.next)) = decide (a = b) := by
 rw [← Bool.decide_and, ← Bool.decide_and, ← Bool.decide_and]
 exact decide_eq_decide.2 (by rw [j9, BW]; simp [and_assoc])
theorem xu {a b : Rc} : ((true != (decide (a.addr.user = b.addr.user) && decide (a.addr.domain = b.addr.domain) && decide (a.tries = b.tries) && decide (a.next = b.next))) = true) = ¬ a = b := by
 rw [yv]; by_cases h : a = b <;> simp [h]
theorem xt {a b : Rc} : ((true != (decide (a.addr.user = b.addr.user) && decide (a.addr.domain = b.addr.domain) && decide (a.tries = b.tries) && decide (a.next = b.next))) = false) = (a = b) := by
 rw [yv]; by_cases h : a = b <;> simp [h]
def xK : Ct := An (lc EL.ag (lc EL.ag l0)) (fun p => True) (fun p => .t (.v (.bool (decide (p.1 = p.2.1)))))
section
attribute [local go_sem] ml lm
set_option maxHeartbeats 1600000 in
theorem p4 {G : Gt} (hG : Aj G) (hh : G.e 95 = AA 0 ml) : Gd G 96 (AA 0 xK) := by
 refine gr (fn := Tryz.f96) (n := 2) rfl hG ?_
 rintro ⟨a, b, ⟨⟩⟩ hpre
 simp -implicitDefEqProofs only [Tryz.f96, go_sem, hh, seval] at hpre ⊢
 with_reducible repeat' (first | apply ai | intro _ | ((first | apply s1 | apply s3 | apply s4) <;> intro hb <;> simp -implicitDefEqProofs only [hb, go_sem, hh, seval] <;> try simp only [qz] at hb))
 all_goals (try simp only [maxLen, wY, kU] at *)
 all_goals first
  | rfl
  | omega
  | ((have hne : ¬ a = b := fun e => by subst e; simp_all); simp [hne]; done)
  | skip
 have Bq : a.id = b.id := by assumption
 have hbod : a.body = b.body := by assumption
 have hfr : a.frm = b.frm := by assumption
 have hl : a.to.length = b.to.length := by omega
 refine AF [] (ι := {i : Nat // i ≤ a.to.length ∧ ∀ j, j < i → a.to.getD j default = b.to.getD j default}) (fun p => ⟨[(2, .pb 1002 0), (3, .pb 1003 0), (5, .t (.v (.int .i64 p.1)))], [(1002, some (.box ((Ah a).map .t))), (1003, some (.box ((Ah b).map .t)))]⟩) (fun p => a.to.length - p.1) ⟨0, by simp, by simp⟩ rfl ?_ ?_
 ·simp -implicitDefEqProofs only [go_sem, hh, seval]
  try simp
 ·rintro ⟨i, hi, hall⟩
  simp -implicitDefEqProofs only [go_sem, hh, seval]
  with_reducible repeat' (first | apply ai | intro _ | ((first | apply s1 | apply s3 | apply s4) <;> intro hb <;> simp -implicitDefEqProofs only [hb, go_sem, hh, seval] <;> try simp only [qz] at hb))
  all_goals (try simp only [maxLen, tn, xu, xt] at *)
  all_goals first
   | rfl
   | omega
   | decide
   | (show AT _ = true; rfl)
   | ((have hne : ¬ a = b := fun e => by subst e; exact hb rfl); simp [hne]; done)
   | (refine ⟨⟨i + 1, by omega, E3 hall (by assumption)⟩, by dsimp only; omega, ?_⟩
      simp -implicitDefEqProofs only [go_sem, hh, seval]
      try simp
      done)
   | (have hxy := Ex i hl hall (by omega)
      (have hab : a = b := by rw [j3]; exact ⟨Bq, hfr, hxy, hbod⟩); simp [hab]
      done)
   | skip
end
def wv : Ct := An (lc LG.ag (lc LG.ag l0)) (fun p => True) (fun p => .t (.v (.bool (decide (p.1 = p.2.1)))))
section
attribute [local go_sem] xK lm qa qb
set_option maxHeartbeats 1600000 in
theorem o9 {G : Gt} (hG : Aj G) (hh : G.e 96 = AA 0 xK) : Gd G 39 (AA 0 wv) := by
 refine gr (fn := Tryz.f39) (n := 2) rfl hG ?_
 rintro ⟨a, b, ⟨⟩⟩ hpre
 simp -implicitDefEqProofs only [Tryz.f39, go_sem, hh, seval] at hpre ⊢
 with_reducible repeat' (first | apply ai | intro _ | ((first | apply s1 | apply s3 | apply s4) <;> intro hb <;> simp -implicitDefEqProofs only [hb, go_sem, hh, seval] <;> try simp only [qz] at hb))
 all_goals (try simp only [maxLen] at *)
 all_goals first
  | rfl
  | omega
  | ((have hne : ¬ a = b := fun e => by subst e; simp_all); simp [hne]; done)
  | skip
 have Bq : a.last = b.last := by assumption
 have hl : a.items.length = b.items.length := by omega
 refine AF [] (ι := {i : Nat // i ≤ a.items.length ∧ ∀ j, j < i → a.items.getD j default = b.items.getD j default}) (fun p => ⟨[(2, .pb 1002 0), (3, .pb 1003 0), (5, .t (.v (.int .i64 p.1)))], [(1002, some (.box ((Dk a).map .t))), (1003, some (.box ((Dk b).map .t)))]⟩) (fun p => a.items.length - p.1) ⟨0, by simp, by simp⟩ rfl ?_ ?_
 ·simp -implicitDefEqProofs only [go_sem, hh, seval]
  try simp
 ·rintro ⟨i, hi, hall⟩
  simp -implicitDefEqProofs only [go_sem, hh, seval]
  with_reducible repeat' (first | apply ai | intro _ | ((first | apply s1 | apply s3 | apply s4) <;> intro hb <;> simp -implicitDefEqProofs only [hb, go_sem, hh, seval] <;> try simp only [qz] at hb))
  all_goals (try simp only [maxLen, tn] at *)
  all_goals first
   | rfl
   | omega
   | decide
   | (show AT _ = true; rfl)
   | ((have hne : ¬ a = b := fun e => by subst e; exact hb rfl); simp [hne]; done)
   | (refine ⟨⟨i + 1, by omega, E3 hall (by assumption)⟩, by dsimp only; omega, ?_⟩
      simp -implicitDefEqProofs only [go_sem, hh, seval]
      try simp
      done)
   | (have hxy := Ex i hl hall (by omega)
      (have hab : a = b := by rw [kB]; exact ⟨Bq, hxy⟩); simp [hab]
      done)
   | skip
end
theorem R6 {x0 x1 x2 x3 x4 x5 x6 x7 : T} : Bj 2 4 [x0, x1, x2, x3, x4, x5, x6, x7] = [[x0, x1], [x2, x3], [x4, x5], [x6, x7]] := rfl
def E0 (k : Int) : List Cf :=
 if k = 0 then [⟨⟨#[111, 110, 101, 46, 111, 114, 103]⟩, [⟨#[111, 110, 101, 46, 111, 114, 103]⟩, ⟨#[97, 46, 111, 110, 101, 46, 111, 114, 103]⟩], [⟨⟨#[116, 119, 111, 46, 111, 114, 103]⟩, ⟨#[116, 119, 111, 46, 111, 114, 103]⟩⟩, ⟨⟨#[110, 101, 116]⟩, ⟨#[104, 117, 98, 46, 110, 101, 116]⟩⟩, ⟨⟨#[99, 111, 109]⟩, ⟨#[104, 117, 98, 46, 110, 101, 116]⟩⟩]⟩, ⟨⟨#[116, 119, 111, 46, 111, 114, 103]⟩, [⟨#[116, 119, 111, 46, 111, 114, 103]⟩], [⟨⟨#[120, 46, 99, 111, 109]⟩, ⟨#[111, 110, 101, 46, 111, 114, 103]⟩⟩, ⟨⟨#[111, 110, 101, 46, 111, 114, 103]⟩, ⟨#[111, 110, 101, 46, 111, 114, 103]⟩⟩]⟩, ⟨⟨#[104, 117, 98, 46, 110, 101, 116]⟩, [⟨#[104, 117, 98, 46, 110, 101, 116]⟩, ⟨#[111, 116, 104, 101, 114, 46, 99, 111, 109]⟩], [⟨⟨#[111, 110, 101, 46, 111, 114, 103]⟩, ⟨#[111, 110, 101, 46, 111, 114, 103]⟩⟩, ⟨⟨#[116, 119, 111, 46, 111, 114, 103]⟩, ⟨#[116, 119, 111, 46, 111, 114, 103]⟩⟩, ⟨⟨#[102, 97, 114, 46, 99, 111, 109]⟩, ⟨#[103, 111, 110, 101, 46, 99, 111, 109]⟩⟩, ⟨⟨#[120, 46, 99, 111, 109]⟩, ⟨#[116, 119, 111, 46, 111, 114, 103]⟩⟩]⟩]
 else if k = 1 then [⟨⟨#[111, 110, 101, 46, 111, 114, 103]⟩, [⟨#[111, 110, 101, 46, 111, 114, 103]⟩, ⟨#[97, 46, 111, 110, 101, 46, 111, 114, 103]⟩], [⟨⟨#[116, 119, 111, 46, 111, 114, 103]⟩, ⟨#[116, 119, 111, 46, 111, 114, 103]⟩⟩, ⟨⟨#[110, 101, 116]⟩, ⟨#[104, 117, 98, 46, 110, 101, 116]⟩⟩, ⟨⟨#[99, 111, 109]⟩, ⟨#[104, 117, 98, 46, 110, 101, 116]⟩⟩]⟩, ⟨⟨#[116, 119, 111, 46, 111, 114, 103]⟩, [⟨#[116, 119, 111, 46, 111, 114, 103]⟩], [⟨⟨#[111, 114, 103]⟩, ⟨#[111, 110, 101, 46, 111, 114, 103]⟩⟩, ⟨⟨#[104, 117, 98, 46, 110, 101, 116]⟩, ⟨#[104, 117, 98, 46, 110, 101, 116]⟩⟩]⟩]
 else if k = 2 then [⟨⟨#[111, 110, 101, 46, 111, 114, 103]⟩, [⟨#[111, 110, 101, 46, 111, 114, 103]⟩, ⟨#[97, 46, 111, 110, 101, 46, 111, 114, 103]⟩], [⟨⟨#[116, 119, 111, 46, 111, 114, 103]⟩, ⟨#[116, 119, 111, 46, 111, 114, 103]⟩⟩, ⟨⟨#[110, 101, 116]⟩, ⟨#[104, 117, 98, 46, 110, 101, 116]⟩⟩]⟩, ⟨⟨#[116, 119, 111, 46, 111, 114, 103]⟩, [⟨#[116, 119, 111, 46, 111, 114, 103]⟩], [⟨⟨#[111, 114, 103]⟩, ⟨#[111, 110, 101, 46, 111, 114, 103]⟩⟩, ⟨⟨#[104, 117, 98, 46, 110, 101, 116]⟩, ⟨#[104, 117, 98, 46, 110, 101, 116]⟩⟩, ⟨⟨#[99, 111, 109]⟩, ⟨#[104, 117, 98, 46, 110, 101, 116]⟩⟩]⟩, ⟨⟨#[104, 117, 98, 46, 110, 101, 116]⟩, [⟨#[104, 117, 98, 46, 110, 101, 116]⟩, ⟨#[111, 116, 104, 101, 114, 46, 99, 111, 109]⟩], [⟨⟨#[111, 110, 101, 46, 111, 114, 103]⟩, ⟨#[111, 110, 101, 46, 111, 114, 103]⟩⟩, ⟨⟨#[116, 119, 111, 46, 111, 114, 103]⟩, ⟨#[116, 119, 111, 46, 111, 114, 103]⟩⟩, ⟨⟨#[102, 97, 114, 46, 99, 111, 109]⟩, ⟨#[103, 111, 110, 101, 46, 99, 111, 109]⟩⟩, ⟨⟨#[120, 46, 99, 111, 109]⟩, ⟨#[116, 119, 111, 46, 111, 114, 103]⟩⟩]⟩]
 else [⟨⟨#[111, 110, 101, 46, 111, 114, 103]⟩, [⟨#[111, 110, 101, 46, 111, 114, 103]⟩, ⟨#[97, 46, 111, 110, 101, 46, 111, 114, 103]⟩], [⟨⟨#[116, 119, 111, 46, 111, 114, 103]⟩, ⟨#[116, 119, 111, 46, 111, 114, 103]⟩⟩, ⟨⟨#[110, 101, 116]⟩, ⟨#[104, 117, 98, 46, 110, 101, 116]⟩⟩, ⟨⟨#[99, 111, 109]⟩, ⟨#[104, 117, 98, 46, 110, 101, 116]⟩⟩]⟩, ⟨⟨#[116, 119, 111, 46, 111, 114, 103]⟩, [⟨#[116, 119, 111, 46, 111, 114, 103]⟩], [⟨⟨#[111, 114, 103]⟩, ⟨#[111, 110, 101, 46, 111, 114, 103]⟩⟩, ⟨⟨#[104, 117, 98, 46, 110, 101, 116]⟩, ⟨#[104, 117, 98, 46, 110, 101, 116]⟩⟩]⟩, ⟨⟨#[104, 117, 98, 46, 110, 101, 116]⟩, [⟨#[104, 117, 98, 46, 110, 101, 116]⟩, ⟨#[111, 116, 104, 101, 114, 46, 99, 111, 109]⟩], [⟨⟨#[111, 110, 101, 46, 111, 114, 103]⟩, ⟨#[111, 110, 101, 46, 111, 114, 103]⟩⟩, ⟨⟨#[116, 119, 111, 46, 111, 114, 103]⟩, ⟨#[116, 119, 111, 46, 111, 114, 103]⟩⟩, ⟨⟨#[102, 97, 114, 46, 99, 111, 109]⟩, ⟨#[103, 111, 110, 101, 46, 99, 111, 109]⟩⟩, ⟨⟨#[120, 46, 99, 111, 109]⟩, ⟨#[116, 119, 111, 46, 111, 114, 103]⟩⟩]⟩]
def DX (r : Rd) : List Cf := E0 (Af r 5)
theorem mm {r : Rd} (h : Af r 5 = 0) : DX r = [⟨⟨#[111, 110, 101, 46, 111, 114, 103]⟩, [⟨#[111, 110, 101, 46, 111, 114, 103]⟩, ⟨#[97, 46, 111, 110, 101, 46, 111, 114, 103]⟩], [⟨⟨#[116, 119, 111, 46, 111, 114, 103]⟩, ⟨#[116, 119, 111, 46, 111, 114, 103]⟩⟩, ⟨⟨#[110, 101, 116]⟩, ⟨#[104, 117, 98, 46, 110, 101, 116]⟩⟩, ⟨⟨#[99, 111, 109]⟩, ⟨#[104, 117, 98, 46, 110, 101, 116]⟩⟩]⟩, ⟨⟨#[116, 119, 111, 46, 111, 114, 103]⟩, [⟨#[116, 119, 111, 46, 111, 114, 103]⟩], [⟨⟨#[120, 46, 99, 111, 109]⟩, ⟨#[111, 110, 101, 46, 111, 114, 103]⟩⟩, ⟨⟨#[111, 110, 101, 46, 111, 114, 103]⟩, ⟨#[111, 110, 101, 46, 111, 114, 103]⟩⟩]⟩, ⟨⟨#[104, 117, 98, 46, 110, 101, 116]⟩, [⟨#[104, 117, 98, 46, 110, 101, 116]⟩, ⟨#[111, 116, 104, 101, 114, 46, 99, 111, 109]⟩], [⟨⟨#[111, 110, 101, 46, 111, 114, 103]⟩, ⟨#[111, 110, 101, 46, 111, 114, 103]⟩⟩, ⟨⟨#[116, 119, 111, 46, 111, 114, 103]⟩, ⟨#[116, 119, 111, 46, 111, 114, 103]⟩⟩, ⟨⟨#[102, 97, 114, 46, 99, 111, 109]⟩, ⟨#[103, 111, 110, 101, 46, 99, 111, 109]⟩⟩, ⟨⟨#[120, 46, 99, 111, 109]⟩, ⟨#[116, 119, 111, 46, 111, 114, 103]⟩⟩]⟩] := by unfold DX E0; rw [if_pos h]
theorem mn {r : Rd} (h : Af r 5 = 1) : DX r = [⟨⟨#[111, 110, 101, 46, 111, 114, 103]⟩, [⟨#[111, 110, 101, 46, 111, 114, 103]⟩, ⟨#[97, 46, 111, 110, 101, 46, 111, 114, 103]⟩], [⟨⟨#[116, 119, 111, 46, 111, 114, 103]⟩, ⟨#[116, 119, 111, 46, 111, 114, 103]⟩⟩, ⟨⟨#[110, 101, 116]⟩, ⟨#[104, 117, 98, 46, 110, 101, 116]⟩⟩, ⟨⟨#[99, 111, 109]⟩, ⟨#[104, 117, 98, 46, 110, 101, 116]⟩⟩]⟩, ⟨⟨#[116, 119, 111, 46, 111, 114, 103]⟩, [⟨#[116, 119, 111, 46, 111, 114, 103]⟩], [⟨⟨#[111, 114, 103]⟩, ⟨#[111, 110, 101, 46, 111, 114, 103]⟩⟩, ⟨⟨#[104, 117, 98, 46, 110, 101, 116]⟩, ⟨#[104, 117, 98, 46, 110, 101, 116]⟩⟩]⟩] := by unfold DX E0; rw [if_neg (by omega), if_pos h]
theorem mo {r : Rd} (h : Af r 5 = 2) : DX r = [⟨⟨#[111, 110, 101, 46, 111, 114, 103]⟩, [⟨#[111, 110, 101, 46, 111, 114, 103]⟩, ⟨#[97, 46, 111, 110, 101, 46, 111, 114, 103]⟩], [⟨⟨#[116, 119, 111, 46, 111, 114, 103]⟩, ⟨#[116, 119, 111, 46, 111, 114, 103]⟩⟩, ⟨⟨#[110, 101, 116]⟩, ⟨#[104, 117, 98, 46, 110, 101, 116]⟩⟩]⟩, ⟨⟨#[116, 119, 111, 46, 111, 114, 103]⟩, [⟨#[116, 119, 111, 46, 111, 114, 103]⟩], [⟨⟨#[111, 114, 103]⟩, ⟨#[111, 110, 101, 46, 111, 114, 103]⟩⟩, ⟨⟨#[104, 117, 98, 46, 110, 101, 116]⟩, ⟨#[104, 117, 98, 46, 110, 101, 116]⟩⟩, ⟨⟨#[99, 111, 109]⟩, ⟨#[104, 117, 98, 46, 110, 101, 116]⟩⟩]⟩, ⟨⟨#[104, 117, 98, 46, 110, 101, 116]⟩, [⟨#[104, 117, 98, 46, 110, 101, 116]⟩, ⟨#[111, 116, 104, 101, 114, 46, 99, 111, 109]⟩], [⟨⟨#[111, 110, 101, 46, 111, 114, 103]⟩, ⟨#[111, 110, 101, 46, 111, 114, 103]⟩⟩, ⟨⟨#[116, 119, 111, 46, 111, 114, 103]⟩, ⟨#[116, 119, 111, 46, 111, 114, 103]⟩⟩, ⟨⟨#[102, 97, 114, 46, 99, 111, 109]⟩, ⟨#[103, 111, 110, 101, 46, 99, 111, 109]⟩⟩, ⟨⟨#[120, 46, 99, 111, 109]⟩, ⟨#[116, 119, 111, 46, 111, 114, 103]⟩⟩]⟩] := by unfold DX E0; rw [if_neg (by omega), if_neg (by omega), if_pos h]
theorem mq {r : Rd} (h : ¬ Af r 5 = 0 ∧ ¬ Af r 5 = 1 ∧ ¬ Af r 5 = 2) : DX r = [⟨⟨#[111, 110, 101, 46, 111, 114, 103]⟩, [⟨#[111, 110, 101, 46, 111, 114, 103]⟩, ⟨#[97, 46, 111, 110, 101, 46, 111, 114, 103]⟩], [⟨⟨#[116, 119, 111, 46, 111, 114, 103]⟩, ⟨#[116, 119, 111, 46, 111, 114, 103]⟩⟩, ⟨⟨#[110, 101, 116]⟩, ⟨#[104, 117, 98, 46, 110, 101, 116]⟩⟩, ⟨⟨#[99, 111, 109]⟩, ⟨#[104, 117, 98, 46, 110, 101, 116]⟩⟩]⟩, ⟨⟨#[116, 119, 111, 46, 111, 114, 103]⟩, [⟨#[116, 119, 111, 46, 111, 114, 103]⟩], [⟨⟨#[111, 114, 103]⟩, ⟨#[111, 110, 101, 46, 111, 114, 103]⟩⟩, ⟨⟨#[104, 117, 98, 46, 110, 101, 116]⟩, ⟨#[104, 117, 98, 46, 110, 101, 116]⟩⟩]⟩, ⟨⟨#[104, 117, 98, 46, 110, 101, 116]⟩, [⟨#[104, 117, 98, 46, 110, 101, 116]⟩, ⟨#[111, 116, 104, 101, 114, 46, 99, 111, 109]⟩], [⟨⟨#[111, 110, 101, 46, 111, 114, 103]⟩, ⟨#[111, 110, 101, 46, 111, 114, 103]⟩⟩, ⟨⟨#[116, 119, 111, 46, 111, 114, 103]⟩, ⟨#[116, 119, 111, 46, 111, 114, 103]⟩⟩, ⟨⟨#[102, 97, 114, 46, 99, 111, 109]⟩, ⟨#[103, 111, 110, 101, 46, 99, 111, 109]⟩⟩, ⟨⟨#[120, 46, 99, 111, 109]⟩, ⟨#[116, 119, 111, 46, 111, 114, 103]⟩⟩]⟩] := by unfold DX E0; rw [if_neg h.1, if_neg h.2.1, if_neg h.2.2]
def OP (c : Cf) : Bool := Nat.ble c.name.size 100 && (Nat.ble c.own.length 10 && (c.own.all (fun s => Nat.ble s.size 100) && (Nat.ble c.ways.length 10 && c.ways.all fun w => Nat.ble w.ends.size 100 && Nat.ble w.to.size 100)))
theorem Mn (k : Int) : (E0 k).all OP = true ∧ 2 ≤ (E0 k).length ∧ (E0 k).length ≤ 3 := by
 unfold E0
 split
 ·exact ⟨by decide +kernel, by decide, by decide⟩
 ·split
  ·exact ⟨by decide +kernel, by decide, by decide⟩
  ·split
   ·exact ⟨by decide +kernel, by decide, by decide⟩
   ·exact ⟨by decide +kernel, by decide, by decide⟩
def Te (r : Rd) : Cf := (DX r).getD (Af (r.nx 1) (DX r).length).toNat default
theorem iH {r : Rd} (h : 0 ≤ r.p) (h1 : r.p ≤ 999999000) : OP (Te r) = true := by
 have hb := Bd (r := r.nx 1) (n := (DX r).length) (by rw [AJ]; omega) (by rw [AJ]; omega)
 obtain ⟨h2, h3, h4⟩ := Mn (Af r 5)
 have e : E0 (Af r 5) = DX r := rfl
 rw [e] at h2 h3
 exact List.all_eq_true.1 h2 _ (AE (by omega))
def B1 (r : Rd) : Cf × Rd :=
 let c := Te r
 let k := Af (r.nx 2) 10
 if k = 0 then (⟨Nq (r.nx 3) [⟨#[]⟩, ⟨#[65]⟩, ⟨#[97, 46, 46, 98]⟩], c.own, c.ways⟩, r.nx 4)
 else if k = 1 then (⟨c.name, c.own ++ [⟨#[98, 46, 111, 114, 103]⟩, ⟨#[99, 46, 111, 114, 103]⟩], c.ways⟩, r.nx 3)
 else if k = 2 then (⟨c.name, c.own, c.ways ++ [⟨Nq (r.nx 3) [⟨#[]⟩, ⟨#[98, 46, 111, 114, 103]⟩, ⟨#[111, 110, 101, 46, 111, 114, 103]⟩], ⟨#[116, 119, 111, 46, 111, 114, 103]⟩⟩]⟩, r.nx 4)
 else (c, r.nx 3)
theorem Rq {r : Rd} (h : Af (r.nx 2) 10 = 0) : B1 r = (⟨Nq (r.nx 3) [⟨#[]⟩, ⟨#[65]⟩, ⟨#[97, 46, 46, 98]⟩], (Te r).own, (Te r).ways⟩, r.nx 4) := by unfold B1; dsimp only; rw [if_pos h]
theorem Rr {r : Rd} (h : Af (r.nx 2) 10 = 1) : B1 r = (⟨(Te r).name, (Te r).own ++ [⟨#[98, 46, 111, 114, 103]⟩, ⟨#[99, 46, 111, 114, 103]⟩], (Te r).ways⟩, r.nx 3) := by unfold B1; dsimp only; rw [if_neg (by omega), if_pos h]
theorem Rs {r : Rd} (h : Af (r.nx 2) 10 = 2) : B1 r = (⟨(Te r).name, (Te r).own, (Te r).ways ++ [⟨Nq (r.nx 3) [⟨#[]⟩, ⟨#[98, 46, 111, 114, 103]⟩, ⟨#[111, 110, 101, 46, 111, 114, 103]⟩], ⟨#[116, 119, 111, 46, 111, 114, 103]⟩⟩]⟩, r.nx 4) := by unfold B1; dsimp only; rw [if_neg (by omega), if_neg (by omega), if_pos h]
theorem Rt {r : Rd} (h : ¬ Af (r.nx 2) 10 = 0 ∧ ¬ Af (r.nx 2) 10 = 1 ∧ ¬ Af (r.nx 2) 10 = 2) : B1 r = (Te r, r.nx 3) := by unfold B1; dsimp only; rw [if_neg h.1, if_neg h.2.1, if_neg h.2.2]
theorem CN {n : Nat} {es : List (List T)} : cellAV false (.sl n es) = .t (.sl n es) := rfl
theorem iI {r : Rd} : (DX r).getD (Af (r.nx 1) (DX r).length).toNat default = Te r := rfl
def VW : Mt := GL (lc Dx l0) (fun p => 0 ≤ p.1.p ∧ p.1.p ≤ 999990000) (fun p => ([Dx.enc (p.1.nx 1)], .o false 3 ((DX p.1).map Cr)))
section
attribute [local go_sem] Gj AJ Bs A9 BF BP Bc CQ Bf Bh A1 lm List.length_append List.length_cons List.length_nil List.map_append List.map_nil Nat.zero_add List.nil_append AS.opn AS.cls AS.nilb AS.renb AS.up Bool.not_false Bool.not_true List.set_set List.set_cons_zero List.set_cons_succ List.set_nil List.mem_singleton forall_eq FU Ab BR IC ID IE EY EZ R6
set_option maxHeartbeats 6400000 in
theorem dE {G : Gt} (hG : Aj G) (hh : G.e 71 = AN Gj) : Gd G 172 (AN VW) := by
 refine Ik (dp := fun n => !(Nat.beq n 36 || Nat.beq n 52)) (fn := Tryz.f172) (n := 1) rfl hG ?_
 rintro ⟨r, ⟨⟩⟩ hpre
 obtain ⟨h1, h2⟩ := hpre
 try dsimp only at h1 h2 ⊢
 by_cases c0 : Af r 5 = 0
 ·skip
  rw [mm c0]
  simp -implicitDefEqProofs only [Tryz.f172, c0, eq_self, decide_true, decide_false, Int.reduceEq, go_sem, hh, Int.reduceAdd, seval]
  with_reducible repeat' (first | apply ai | intro _ | ((first | apply s1 | apply s3 | apply s4) <;> intro hb <;> simp -implicitDefEqProofs only [hb, go_sem, hh, Int.reduceAdd, seval] <;> try simp only [qz] at hb))
  all_goals (try simp only [maxLen, tn] at *)
  all_goals first | rfl | omega | decide | assumption | (show AT _ = true; rfl) | skip
 ·by_cases c1 : Af r 5 = 1
  ·skip
   rw [mn c1]
   simp -implicitDefEqProofs only [Tryz.f172, c1, eq_self, decide_true, decide_false, Int.reduceEq, go_sem, hh, Int.reduceAdd, seval]
   with_reducible repeat' (first | apply ai | intro _ | ((first | apply s1 | apply s3 | apply s4) <;> intro hb <;> simp -implicitDefEqProofs only [hb, go_sem, hh, Int.reduceAdd, seval] <;> try simp only [qz] at hb))
   all_goals (try simp only [maxLen, tn] at *)
   all_goals first | rfl | omega | decide | assumption | (show AT _ = true; rfl) | skip
  ·by_cases c2 : Af r 5 = 2
   ·skip
    rw [mo c2]
    simp -implicitDefEqProofs only [Tryz.f172, c2, eq_self, decide_true, decide_false, Int.reduceEq, go_sem, hh, Int.reduceAdd, seval]
    with_reducible repeat' (first | apply ai | intro _ | ((first | apply s1 | apply s3 | apply s4) <;> intro hb <;> simp -implicitDefEqProofs only [hb, go_sem, hh, Int.reduceAdd, seval] <;> try simp only [qz] at hb))
    all_goals (try simp only [maxLen, tn] at *)
    all_goals first | rfl | omega | decide | assumption | (show AT _ = true; rfl) | skip
   ·skip
    rw [mq ⟨c0, c1, c2⟩]
    simp -implicitDefEqProofs only [Tryz.f172, c0, c1, c2, eq_self, decide_true, decide_false, Int.reduceEq, go_sem, hh, Int.reduceAdd, seval]
    with_reducible repeat' (first | apply ai | intro _ | ((first | apply s1 | apply s3 | apply s4) <;> intro hb <;> simp -implicitDefEqProofs only [hb, go_sem, hh, Int.reduceAdd, seval] <;> try simp only [qz] at hb))
    all_goals (try simp only [maxLen, tn] at *)
    all_goals first | rfl | omega | decide | assumption | (show AT _ = true; rfl) | skip
end
def lF : Mt := GL (lc Dx l0) (fun p => 0 ≤ p.1.p ∧ p.1.p ≤ 999990000) (fun p => ([Dx.enc (p.1.nx 2)], IZ.ag.enc (Te p.1)))
section
attribute [local go_sem] Gj VW AJ Bs A9 BF BP Bc CQ Bf Bh A1 lm List.length_append List.length_cons List.length_nil List.map_append List.map_nil Nat.zero_add List.nil_append AS.opn AS.cls AS.nilb AS.renb AS.up Bool.not_false Bool.not_true List.set_set List.set_cons_zero List.set_cons_succ List.set_nil List.mem_singleton forall_eq iI CN Ab
set_option maxHeartbeats 1600000 in
theorem cV {G : Gt} (hG : Aj G) (hh : G.e 71 = AN Gj ∧ G.e 172 = AN VW) : Gd G 135 (AN lF) := by
 refine Ik (dp := fun _ => true) (fn := Tryz.f135) (n := 1) rfl hG ?_
 rintro ⟨r, ⟨⟩⟩ hpre
 obtain ⟨h1, h2⟩ := hpre
 try dsimp only at h1 h2 ⊢
 obtain ⟨q2, q3, q4⟩ := Mn (Af r 5)
 have e : E0 (Af r 5) = DX r := rfl
 rw [e] at q3 q4
 have hb := Bd (r := r.nx 1) (n := (DX r).length) (by rw [AJ]; omega) (by rw [AJ]; omega)
 simp -implicitDefEqProofs only [Tryz.f135, go_sem, hh, Int.reduceAdd, seval]
 with_reducible repeat' (first | apply ai | intro _ | ((first | apply s1 | apply s3 | apply s4) <;> intro hb <;> simp -implicitDefEqProofs only [hb, go_sem, hh, Int.reduceAdd, seval] <;> try simp only [qz] at hb))
 all_goals (try simp only [maxLen, tn] at *)
 all_goals first | rfl | omega | decide | assumption | (show AT _ = true; rfl) | skip
end
def tG : Mt := GL (lc Dx l0) (fun p => 0 ≤ p.1.p ∧ p.1.p ≤ 999980000) (fun p => ([Dx.enc (B1 p.1).2], IZ.ag.enc (B1 p.1).1))
section
attribute [local go_sem] Gj H9 lF AJ Bs A9 BF BP Bc CQ Bf Bh A1 lm List.length_append List.length_cons List.length_nil List.map_append List.map_nil Nat.zero_add List.nil_append AS.opn AS.cls AS.nilb AS.renb AS.up Bool.not_false Bool.not_true List.set_set List.set_cons_zero List.set_cons_succ List.set_nil List.mem_singleton forall_eq iI Ab FU Gl IC ID IE EY EZ R6
set_option maxHeartbeats 6400000 in
theorem pS {G : Gt} (hG : Aj G) (hh : G.e 71 = AN Gj ∧ G.e 113 = AN H9 ∧ G.e 135 = AN lF) : Gd G 70 (AN tG) := by
 refine Ik (dp := fun _ => true) (fn := Tryz.f70) (n := 1) rfl hG ?_
 rintro ⟨r, ⟨⟩⟩ hpre
 obtain ⟨h1, h2⟩ := hpre
 try dsimp only at h1 h2 ⊢
 have hc := iH h1 (show r.p ≤ 999999000 by omega)
 unfold OP at hc
 simp only [Bool.and_eq_true, Nat.ble_eq] at hc
 obtain ⟨z1, z2, z3, z4, z5⟩ := hc
 by_cases c0 : Af (r.nx 2) 10 = 0
 ·rw [Rq c0]
  simp -implicitDefEqProofs only [Tryz.f70, c0, eq_self, decide_true, decide_false, Int.reduceEq, go_sem, hh, Int.reduceAdd, seval]
  with_reducible repeat' (first | apply ai | intro _ | ((first | apply s1 | apply s3 | apply s4) <;> intro hb <;> simp -implicitDefEqProofs only [hb, go_sem, hh, Int.reduceAdd, seval] <;> try simp only [qz] at hb))
  all_goals (try simp only [maxLen, tn] at *)
  all_goals first | rfl | omega | decide | assumption | (show AT _ = true; rfl) | skip
 ·by_cases c1 : Af (r.nx 2) 10 = 1
  ·rw [Rr c1]
   simp -implicitDefEqProofs only [Tryz.f70, c1, eq_self, decide_true, decide_false, Int.reduceEq, go_sem, hh, Int.reduceAdd, seval]
   with_reducible repeat' (first | apply ai | intro _ | ((first | apply s1 | apply s3 | apply s4) <;> intro hb <;> simp -implicitDefEqProofs only [hb, go_sem, hh, Int.reduceAdd, seval] <;> try simp only [qz] at hb))
   all_goals (try simp only [maxLen, tn] at *)
   all_goals first | rfl | omega | decide | assumption | (show AT _ = true; rfl) | (rename_i q; simp only [List.mem_cons, List.not_mem_nil, or_false] at q; rcases q with rfl | rfl <;> rfl) | skip
  ·by_cases c2 : Af (r.nx 2) 10 = 2
   ·rw [Rs c2]
    simp -implicitDefEqProofs only [Tryz.f70, c2, eq_self, decide_true, decide_false, Int.reduceEq, go_sem, hh, Int.reduceAdd, seval]
    with_reducible repeat' (first | apply ai | intro _ | ((first | apply s1 | apply s3 | apply s4) <;> intro hb <;> simp -implicitDefEqProofs only [hb, go_sem, hh, Int.reduceAdd, seval] <;> try simp only [qz] at hb))
    all_goals (try simp only [maxLen, tn] at *)
    all_goals first | rfl | omega | decide | assumption | (show AT _ = true; rfl) | skip
   ·rw [Rt ⟨c0, c1, c2⟩]
    simp -implicitDefEqProofs only [Tryz.f70, c0, c1, c2, eq_self, decide_true, decide_false, Int.reduceEq, go_sem, hh, Int.reduceAdd, seval]
    with_reducible repeat' (first | apply ai | intro _ | ((first | apply s1 | apply s3 | apply s4) <;> intro hb <;> simp -implicitDefEqProofs only [hb, go_sem, hh, Int.reduceAdd, seval] <;> try simp only [qz] at hb))
    all_goals (try simp only [maxLen, tn] at *)
    all_goals first | rfl | omega | decide | assumption | (show AT _ = true; rfl) | skip
end
theorem yu {a b : Ls} : (decide (a.mark = b.mark) && decide (a.addr.user = b.addr.user) && decide (a.addr.domain = b.addr.domain)) = decide (a = b) := by
 rw [← Bool.decide_and, ← Bool.decide_and]
 exact decide_eq_decide.2 (by rw [j5, BW]; simp [and_assoc])
theorem xf {a b : Ls} : ((true != (decide (a.mark = b.mark) && decide (a.addr.user = b.addr.user) && decide (a.addr.domain = b.addr.domain))) = true) = ¬ a = b := by
 rw [yu]; by_cases h : a = b <;> simp [h]
theorem xe {a b : Ls} : ((true != (decide (a.mark = b.mark) && decide (a.addr.user = b.addr.user) && decide (a.addr.domain = b.addr.domain))) = false) = (a = b) := by
 rw [yu]; by_cases h : a = b <;> simp [h]
theorem yx {a b : Wy} : (decide (a.ends = b.ends) && decide (a.to = b.to)) = decide (a = b) := by
 rw [← Bool.decide_and]
 exact decide_eq_decide.2 (by rw [kH])
theorem yY {a b : Wy} : ((true != (decide (a.ends = b.ends) && decide (a.to = b.to))) = true) = ¬ a = b := by
 rw [yx]; by_cases h : a = b <;> simp [h]
theorem yX {a b : Wy} : ((true != (decide (a.ends = b.ends) && decide (a.to = b.to))) = false) = (a = b) := by
 rw [yx]; by_cases h : a = b <;> simp [h]
def ww : Ct := An (lc FI.asl (lc FI.asl l0)) (fun p => True) (fun p => .t (.v (.bool (decide (p.1 = p.2.1)))))
section
attribute [local go_sem] lm
set_option maxHeartbeats 1600000 in
theorem pA {G : Gt} (hG : Aj G) : Gd G 40 (AA 0 ww) := by
 refine gr (fn := Tryz.f40) (n := 2) rfl hG ?_
 rintro ⟨xs, ys, ⟨⟩⟩ hpre
 simp -implicitDefEqProofs only [Tryz.f40, go_sem, seval] at hpre ⊢
 with_reducible repeat' (first | apply ai | intro _ | ((first | apply s1 | apply s3 | apply s4) <;> intro hb <;> simp -implicitDefEqProofs only [hb, go_sem, seval] <;> try simp only [qz] at hb))
 all_goals (try simp only [maxLen] at *)
 all_goals first | rfl | omega | skip
 ·have : ¬ xs = ys := fun e => hb (by rw [e])
  simp [this]
 ·have hl : xs.length = ys.length := by omega
  refine AF [] (ι := {i : Nat // i ≤ xs.length ∧ ∀ j, j < i → xs.getD j default = ys.getD j default}) (fun p => ⟨[(0, .t (.sl 3 (xs.map Ay))), (1, .t (.sl 3 (ys.map Ay))), (5, .t (.v (.int .i64 p.1)))], []⟩) (fun p => xs.length - p.1) ⟨0, by simp, by simp⟩ rfl ?_ ?_
  ·simp -implicitDefEqProofs only [go_sem, seval]
   try simp
  ·rintro ⟨i, hi, hall⟩
   simp -implicitDefEqProofs only [go_sem, seval]
   with_reducible repeat' (first | apply ai | intro _ | ((first | apply s1 | apply s3 | apply s4) <;> intro hb <;> simp -implicitDefEqProofs only [hb, go_sem, seval] <;> try simp only [qz] at hb))
   all_goals (try simp only [maxLen, tn, xf, xe] at *)
   all_goals first
    | rfl
    | omega
    | decide
    | (show AT _ = true; rfl)
    | ((have hne : ¬ xs = ys := fun e => by subst e; first | exact hb rfl | (simp at hb; done) | (simp_all; done)); simp [hne]; done)
    | (refine ⟨⟨i + 1, by omega, E3 hall (by first | assumption | (simp [*] at *; done))⟩, by dsimp only; omega, ?_⟩
       simp -implicitDefEqProofs only [go_sem, seval]
       try simp
       done)
    | (have hxy := Ex i hl hall (by omega)
       simp [hxy]
       done)
    | skip
end
def wx : Ct := An (lc Pd.asl (lc Pd.asl l0)) (fun p => True) (fun p => .t (.v (.bool (decide (p.1 = p.2.1)))))
section
attribute [local go_sem] ml lm
set_option maxHeartbeats 1600000 in
theorem pB {G : Gt} (hG : Aj G) (hh : G.e 95 = AA 0 ml) : Gd G 41 (AA 0 wx) := by
 refine gr (fn := Tryz.f41) (n := 2) rfl hG ?_
 rintro ⟨xs, ys, ⟨⟩⟩ hpre
 simp -implicitDefEqProofs only [Tryz.f41, go_sem, hh, seval] at hpre ⊢
 with_reducible repeat' (first | apply ai | intro _ | ((first | apply s1 | apply s3 | apply s4) <;> intro hb <;> simp -implicitDefEqProofs only [hb, go_sem, hh, seval] <;> try simp only [qz] at hb))
 all_goals (try simp only [maxLen] at *)
 all_goals first | rfl | omega | skip
 ·have : ¬ xs = ys := fun e => hb (by rw [e])
  simp [this]
 ·have hl : xs.length = ys.length := by omega
  refine AF [] (ι := {i : Nat // i ≤ xs.length ∧ ∀ j, j < i → xs.getD j default = ys.getD j default}) (fun p => ⟨[(0, .t (.sl 3 (xs.map Ca))), (1, .t (.sl 3 (ys.map Ca))), (5, .t (.v (.int .i64 p.1)))], []⟩) (fun p => xs.length - p.1) ⟨0, by simp, by simp⟩ rfl ?_ ?_
  ·simp -implicitDefEqProofs only [go_sem, hh, seval]
   try simp
  ·rintro ⟨i, hi, hall⟩
   simp -implicitDefEqProofs only [go_sem, hh, seval]
   with_reducible repeat' (first | apply ai | intro _ | ((first | apply s1 | apply s3 | apply s4) <;> intro hb <;> simp -implicitDefEqProofs only [hb, go_sem, hh, seval] <;> try simp only [qz] at hb))
   all_goals (try simp only [maxLen, tn, wY, kU] at *)
   all_goals first
    | rfl
    | omega
    | decide
    | (show AT _ = true; rfl)
    | ((have hne : ¬ xs = ys := fun e => by subst e; first | exact hb rfl | (simp at hb; done) | (simp_all; done)); simp [hne]; done)
    | (refine ⟨⟨i + 1, by omega, E3 hall (by rw [jz]; exact ⟨by assumption, by assumption⟩)⟩, by dsimp only; omega, ?_⟩
       simp -implicitDefEqProofs only [go_sem, hh, seval]
       try simp
       done)
    | (have hxy := Ex i hl hall (by omega)
       simp [hxy]
       done)
    | skip
end
def wu : Ct := An (lc IZ.ag (lc IZ.ag l0)) (fun p => True) (fun p => .t (.v (.bool (decide (p.1 = p.2.1)))))
section
attribute [local go_sem] ml lm
set_option maxHeartbeats 3200000 in
theorem o0 {G : Gt} (hG : Aj G) (hh : G.e 95 = AA 0 ml) : Gd G 38 (AA 0 wu) := by
 refine gr (fn := Tryz.f38) (n := 2) rfl hG ?_
 rintro ⟨a, b, ⟨⟩⟩ hpre
 simp -implicitDefEqProofs only [Tryz.f38, go_sem, hh, seval] at hpre ⊢
 with_reducible repeat' (first | apply ai | intro _ | ((first | apply s1 | apply s3 | apply s4) <;> intro hb <;> simp -implicitDefEqProofs only [hb, go_sem, hh, seval] <;> try simp only [qz] at hb))
 all_goals (try simp only [maxLen] at *)
 all_goals first
  | rfl
  | omega
  | ((have hne : ¬ a = b := fun e => by subst e; simp_all); simp [hne]; done)
  | skip
 have h0 : a.name = b.name := by assumption
 have h1 : a.own = b.own := by assumption
 have hl : a.ways.length = b.ways.length := by omega
 refine AF [] (ι := {i : Nat // i ≤ a.ways.length ∧ ∀ j, j < i → a.ways.getD j default = b.ways.getD j default}) (fun p => ⟨[(2, .pb 1002 0), (3, .pb 1003 0), (5, .t (.v (.int .i64 p.1)))], [(1002, some (.box ((Cr a).map .t))), (1003, some (.box ((Cr b).map .t)))]⟩) (fun p => a.ways.length - p.1) ⟨0, by simp, by simp⟩ rfl ?_ ?_
 ·simp -implicitDefEqProofs only [go_sem, hh, seval]
  try simp
 ·rintro ⟨i, hi, hall⟩
  simp -implicitDefEqProofs only [go_sem, hh, seval]
  with_reducible repeat' (first | apply ai | intro _ | ((first | apply s1 | apply s3 | apply s4) <;> intro hb <;> simp -implicitDefEqProofs only [hb, go_sem, hh, seval] <;> try simp only [qz] at hb))
  all_goals (try simp only [maxLen, tn, yY, yX] at *)
  all_goals first
   | rfl
   | omega
   | decide
   | (show AT _ = true; rfl)
   | ((have hne : ¬ a = b := fun e => by subst e; first | exact hb rfl | simp_all); simp [hne]; done)
   | (refine ⟨⟨i + 1, by omega, E3 hall (by assumption)⟩, by dsimp only; omega, ?_⟩
      simp -implicitDefEqProofs only [go_sem, hh, seval]
      try simp
      done)
   | (have hxy := Ex i hl hall (by omega)
      (have hab : a = b := by rw [jr]; exact ⟨h0, h1, hxy⟩); simp [hab]
      done)
   | skip
end
def c9 : Ct := An (lc FH.ag (lc FH.ag l0)) (fun p => True) (fun p => .t (.v (.bool (decide (p.1 = p.2.1)))))
section
attribute [local go_sem] wu wv ww wx lm
set_option maxHeartbeats 3200000 in
theorem uM {G : Gt} (hG : Aj G) (hh : G.e 38 = AA 0 wu ∧ G.e 39 = AA 0 wv ∧ G.e 40 = AA 0 ww ∧ G.e 41 = AA 0 wx) : Gd G 9 (AA 0 c9) := by
 refine gr (fn := Tryz.f9) (n := 2) rfl hG ?_
 rintro ⟨a, b, ⟨⟩⟩ hpre
 simp -implicitDefEqProofs only [Tryz.f9, go_sem, hh, seval] at hpre ⊢
 with_reducible repeat' (first | apply ai | intro _ | ((first | apply s1 | apply s3 | apply s4) <;> intro hb <;> simp -implicitDefEqProofs only [hb, go_sem, hh, seval] <;> try simp only [qz] at hb))
 all_goals (try simp only [maxLen] at *)
 all_goals first
  | rfl
  | omega
  | ((have hne : ¬ a = b := fun e => by subst e; simp_all); simp [hne]; done)
  | skip
 have h0 : a.conf = b.conf := by assumption
 have h1 : a.spool = b.spool := by assumption
 have h2 : a.lost = b.lost := by assumption
 have hl : a.boxes.length = b.boxes.length := by omega
 refine AF [] (ι := {i : Nat // i ≤ a.boxes.length ∧ ∀ j, j < i → a.boxes.getD j default = b.boxes.getD j default}) (fun p => ⟨[(2, .pb 1002 0), (3, .pb 1003 0), (5, .t (.v (.int .i64 p.1)))], [(1002, some (.box ((Ao a).map .t))), (1003, some (.box ((Ao b).map .t)))]⟩) (fun p => a.boxes.length - p.1) ⟨0, by simp, by simp⟩ rfl ?_ ?_
 ·simp -implicitDefEqProofs only [go_sem, hh, seval]
  try simp
 ·rintro ⟨i, hi, hall⟩
  simp -implicitDefEqProofs only [go_sem, hh, seval]
  with_reducible repeat' (first | apply ai | intro _ | ((first | apply s1 | apply s3 | apply s4) <;> intro hb <;> simp -implicitDefEqProofs only [hb, go_sem, hh, seval] <;> try simp only [qz] at hb))
  all_goals (try simp only [maxLen, tn, wY, kU] at *)
  all_goals first
   | rfl
   | omega
   | decide
   | (show AT _ = true; rfl)
   | ((have hne : ¬ a = b := fun e => by subst e; first | exact hb rfl | simp_all); simp [hne]; done)
   | (refine ⟨⟨i + 1, by omega, E3 hall (by rw [jp]; exact ⟨by assumption, by assumption⟩)⟩, by dsimp only; omega, ?_⟩
      simp -implicitDefEqProofs only [go_sem, hh, seval]
      try simp
      done)
   | (have hxy := Ex i hl hall (by omega)
      (have hab : a = b := by rw [j1]; exact ⟨h0, h1, hxy, h2⟩); simp [hab]
      done)
   | skip
end
def UC (s : ByteArray) : Nat → Nat → Int → Int
 | 0, _, n => if s.size = 0 ∨ (1 < s.size ∧ AC s 0 = 48) then -1 else n
 | k + 1, i, n => if 48 ≤ AC s i ∧ AC s i ≤ 57 ∧ i < 9 then UC s k (i + 1) (n * 10 + (AC s i - 48)) else -1
def O3 (s : ByteArray) : Int := UC s s.size 0 0
theorem Xv {s : ByteArray} {i : Nat} {n : Int} (h : i < s.size) : UC s (s.size - i) i n = if 48 ≤ AC s i ∧ AC s i ≤ 57 ∧ i < 9 then UC s (s.size - (i + 1)) (i + 1) (n * 10 + (AC s i - 48)) else -1 := by
 have e : s.size - i = (s.size - (i + 1)) + 1 := by omega
 rw [e]; rfl
theorem Xu {s : ByteArray} {i : Nat} {n : Int} (h : s.size ≤ i) : UC s (s.size - i) i n = if s.size = 0 ∨ (1 < s.size ∧ AC s 0 = 48) then -1 else n := by
 have e : s.size - i = 0 := by omega
 rw [e]; rfl
def mX : Ct := An (lc A0 l0) (fun p => p.1.size ≤ 3) (fun p => .t (.v (.int .i64 (O3 p.1))))
set_option maxHeartbeats 1600000 in
theorem eJ {G : Gt} (hG : Aj G) : Gd G 252 (AA 0 mX) := by
 refine gr (fn := Tryz.f252) (n := 1) rfl hG ?_
 rintro ⟨s, ⟨⟩⟩ hpre
 simp -implicitDefEqProofs only [Tryz.f252, go_sem, seval] at hpre ⊢
 refine AF [] (ι := {p : Nat × Int // p.1 ≤ s.size ∧ 0 ≤ p.2 ∧ (p.1 = 0 → p.2 = 0) ∧ (p.1 ≤ 1 → p.2 ≤ 9) ∧ (p.1 ≤ 2 → p.2 ≤ 99) ∧ p.2 ≤ 999 ∧ UC s (s.size - p.1) p.1 p.2 = O3 s}) (fun p => ⟨[(0, .t (.v (.string s))), (3, .t (.v (.int .i64 p.1.2))), (4, .t (.v (.int .i64 p.1.1)))], []⟩) (fun p => s.size - p.1.1) ⟨(0, 0), by simp, by simp, by simp, by simp, by simp, by simp, rfl⟩ rfl ?_ ?_
 ·simp -implicitDefEqProofs only [go_sem, seval]
  try simp
 ·rintro ⟨⟨i, n⟩, hi, h0, h1, h2, h3, h4, hv⟩
  dsimp only at hi h0 h1 h2 h3 h4 hv
  simp -implicitDefEqProofs only [go_sem, seval]
  with_reducible repeat' (first | apply ai | intro _ | ((first | apply s1 | apply s3 | apply s4) <;> intro hb <;> simp -implicitDefEqProofs only [hb, go_sem, seval] <;> try simp only [qz] at hb))
  all_goals (try simp only [maxLen, tn, Int.toNat_zero] at *)
  all_goals (try have hbr := BA s i)
  all_goals first | rfl | omega | skip
  all_goals (by_cases hlt : i < s.size)
  all_goals first
   | omega
   | (rw [Xv hlt, if_neg (by omega)] at hv; rw [← hv]; done)
   | (rw [Xu (by omega), if_pos (by omega)] at hv; rw [← hv]; done)
   | (rw [Xu (by omega), if_neg (by omega)] at hv; rw [← hv]; done)
   | (rw [Xv hlt, if_pos (by omega)] at hv
      refine ⟨⟨(i + 1, n * 10 + (AC s i - 48)), by dsimp only; omega, by dsimp only; omega, by dsimp only; omega, by dsimp only; omega, by dsimp only; omega, by dsimp only; omega, hv⟩, by dsimp only; omega, ?_⟩
      simp -implicitDefEqProofs only [go_sem, seval]
      try simp
      done)
   | skip
theorem zH (i : Nat) : ((i : Int) + 1).toNat = i + 1 := by omega
def LR (s : ByteArray) : Nat → Nat → Nat → List ByteArray × Nat
 | 0, _, fr => ([], fr)
 | k + 1, i, fr => if i + 1 < s.size then (if AC s i = 13 ∧ AC s (i + 1) = 10 then (s.extract fr i :: (LR s k (i + 2) (i + 2)).1, (LR s k (i + 2) (i + 2)).2) else LR s k (i + 1) fr) else ([], fr)
def No (s : ByteArray) : List ByteArray := (LR s s.size 0 0).1
def qO (s : ByteArray) : ByteArray := s.extract (LR s s.size 0 0).2 s.size
theorem ua {s : ByteArray} {k i fr : Nat} (h : i + 1 < s.size) (c : AC s i = 13 ∧ AC s (i + 1) = 10) : LR s (k + 1) i fr = (s.extract fr i :: (LR s k (i + 2) (i + 2)).1, (LR s k (i + 2) (i + 2)).2) := by
 rw [LR, if_pos h, if_pos c]
theorem uZ {s : ByteArray} {k i fr : Nat} (h : i + 1 < s.size) (c : ¬ (AC s i = 13 ∧ AC s (i + 1) = 10)) : LR s (k + 1) i fr = LR s k (i + 1) fr := by
 rw [LR, if_pos h, if_neg c]
theorem i9 {s : ByteArray} {k i fr : Nat} (h : ¬ i + 1 < s.size) : LR s k i fr = ([], fr) := by
 cases k with
 | zero => rfl
 | succ k => rw [LR, if_neg h]
theorem XY (s : ByteArray) : ∀ k i fr, fr ≤ i → i ≤ s.size → (LR s k i fr).2 ≤ s.size ∧ ((LR s k i fr).1.length + i ≤ s.size) ∧ ∀ x ∈ (LR s k i fr).1, x.size ≤ s.size
 | 0, i, fr, h, hi => ⟨by show fr ≤ s.size; omega, by show 0 + i ≤ s.size; omega, fun x hx => by cases hx⟩
 | k + 1, i, fr, h, hi => by
   rw [LR]
   split
   ·split
    ·have q := XY s k (i + 2) (i + 2) (Nat.le_refl _) (by omega)
     refine ⟨q.1, by show (LR s k (i + 2) (i + 2)).1.length + 1 + i ≤ s.size; omega, fun x hx => ?_⟩
     rcases List.mem_cons.1 hx with rfl | hx
     ·rw [ByteArray.size_extract]; omega
     ·exact q.2.2 x hx
    ·have q := XY s k (i + 1) fr (by omega) (by omega)
     exact ⟨q.1, by omega, q.2.2⟩
   ·exact ⟨by show fr ≤ s.size; omega, by show 0 + i ≤ s.size; omega, fun x hx => by cases hx⟩
theorem jA (s : ByteArray) : (No s).length ≤ s.size ∧ (∀ x ∈ No s, x.size ≤ s.size) ∧ (qO s).size ≤ s.size := by
 have q := XY s s.size 0 0 (Nat.le_refl _) (by omega)
 unfold No qO
 exact ⟨by omega, q.2.2, by rw [ByteArray.size_extract]; omega⟩
def mV : Ct := An (lc A0 l0) (fun p => p.1.size ≤ 2000000) (fun p => .tup [.o true 1 ((No p.1).map AH), .t (.v (.string (qO p.1)))])
section
attribute [local go_sem] lm List.map_nil List.length_append List.length_cons List.length_nil
set_option maxHeartbeats 1600000 in
theorem eG {G : Gt} (hG : Aj G) : Gd G 249 (AA 0 mV) := by
 refine gr (fn := Tryz.f249) (n := 1) rfl hG ?_ (hs := fun _ _ => .tup _ fun c hc => by
  simp only [List.mem_cons, List.not_mem_nil, or_false] at hc
  rcases hc with rfl | rfl
  ·exact .deep _ _
  ·exact .v _)
 rintro ⟨s, ⟨⟩⟩ hpre
 simp -implicitDefEqProofs only [Tryz.f249, go_sem, seval] at hpre ⊢
 with_reducible repeat' (first | apply ai | intro _ | ((first | apply s1 | apply s3 | apply s4) <;> intro hb <;> simp -implicitDefEqProofs only [hb, go_sem, seval] <;> try simp only [qz] at hb))
 all_goals first | rfl | omega | skip
 refine AF [(4, 901, true, 1)] (ι := {p : Nat × Nat × Nat × List ByteArray // p.2.2.1 ≤ p.2.1 ∧ (p.2.1 ≤ s.size ∧ p.2.2.2.length ≤ p.2.1 ∧ s.size ≤ p.1 + p.2.1) ∧ p.2.2.2 ++ (LR s p.1 p.2.1 p.2.2.1).1 = No s ∧ s.extract (LR s p.1 p.2.1 p.2.2.1).2 s.size = qO s}) (fun p => ⟨[(0, .t (.v (.string s))), (4, .h 901), (5, .t (.v (.int .i64 p.1.2.2.1))), (6, .t (.v (.int .i64 p.1.2.1)))], [(901, some (.arr true 1 (p.1.2.2.2.map AH)))]⟩) (fun p => s.size - p.1.2.1) ⟨(s.size, 0, 0, []), by simp, by simp, rfl, rfl⟩ rfl ?_ ?_
 ·simp -implicitDefEqProofs only [go_sem, seval]
  try simp
 ·rintro ⟨⟨k, i, fr, out⟩, hf, ⟨hi, ho, hk⟩, h1, h2⟩
  dsimp only at hf hi ho hk h1 h2
  simp -implicitDefEqProofs only [go_sem, seval]
  with_reducible repeat' (first | apply ai | intro _ | ((first | apply s1 | apply s3 | apply s4) <;> intro hb <;> simp -implicitDefEqProofs only [hb, go_sem, seval] <;> try simp only [qz] at hb))
  all_goals (try simp only [maxLen, tn, zH] at *)
  all_goals first
   | rfl
   | omega
   | (rename_i q; simp only [List.mem_singleton] at q; subst q; rfl)
   | (simp only [List.mem_singleton] at *; omega)
   | (rw [i9 (by omega), List.append_nil] at h1; rw [h1]; done)
   | (rw [i9 (by omega)] at h2; rw [← h2]; done)
   | (obtain ⟨k, rfl⟩ : ∃ j, k = j + 1 := ⟨k - 1, by omega⟩
      rw [ua (by omega) ⟨by assumption, by assumption⟩] at h1 h2
      refine ⟨⟨(k, i + 2, i + 2, out ++ [s.extract fr i]), by dsimp only; omega, ⟨by dsimp only; omega, by simp; omega, by dsimp only; omega⟩, by simpa using h1, h2⟩, by dsimp only; omega, ?_⟩
      simp -implicitDefEqProofs only [go_sem, seval]
      simp [AH]
      try omega
      done)
   | (obtain ⟨k, rfl⟩ : ∃ j, k = j + 1 := ⟨k - 1, by omega⟩
      rw [uZ (by omega) (by omega)] at h1 h2
      refine ⟨⟨(k, i + 1, fr, out), by dsimp only; omega, ⟨by dsimp only; omega, by dsimp only; omega, by dsimp only; omega⟩, h1, h2⟩, by dsimp only; omega, ?_⟩
      simp -implicitDefEqProofs only [go_sem, seval]
      try simp
      done)
   | skip
end
def dg (n : Int) : ByteArray := Fh [48 + n]
theorem Mw (n : Int) : (dg n).size = 1 := rfl
def Mr (n : Int) : ByteArray := if n < 10 then dg n else dg (n / 10) ++ dg (n % 10)
theorem Ms {n : Int} (h : n < 10) : Mr n = dg n := if_pos h
theorem IG (n : Int) : 1 ≤ (Mr n).size ∧ (Mr n).size ≤ 2 := by
 unfold Mr
 split
 ·rw [Mw]; omega
 ·rw [ByteArray.size_append, Mw, Mw]; omega
theorem nn {n : Int} (h : ¬ n < 10) : Mr n = dg (n / 10) ++ dg (n % 10) := if_neg h
def R4 : Ct := An (lc A6 l0) (fun p => 0 ≤ p.1 ∧ p.1 < 10) (fun p => .t (.v (.string (Mr p.1))))
theorem W5 {G : Gt} (hG : Aj G) : Gd G 223 (AA 0 R4) := by
 refine gr (fn := Tryz.f223) (n := 1) rfl hG ?_
 rintro ⟨n, ⟨⟩⟩ hpre
 simp -implicitDefEqProofs only [Tryz.f223, go_sem, seval] at hpre ⊢
 have h1 : 0 ≤ n := hpre.1
 have h2 : n < 10 := hpre.2
 with_reducible repeat' (first | apply ai | intro _ | ((first | apply s1 | apply s3 | apply s4) <;> intro hb <;> simp -implicitDefEqProofs only [hb, go_sem, seval] <;> try simp only [qz] at hb))
 all_goals (try simp only [maxLen, tn] at *)
 all_goals first | rfl | omega | (rw [Ms h2]; rfl) | skip
def an : Ct := An (lc A6 l0) (fun p => 0 ≤ p.1 ∧ p.1 < 100) (fun p => .t (.v (.string (Mr p.1))))
section
attribute [local go_sem] R4
theorem W6 {G : Gt} (hG : Aj G) (hh : G.e 223 = AA 0 R4) : Gd G 223 (AA 0 an) := by
 refine gr (fn := Tryz.f223) (n := 1) rfl hG ?_
 rintro ⟨n, ⟨⟩⟩ hpre
 simp -implicitDefEqProofs only [Tryz.f223, go_sem, hh, seval] at hpre ⊢
 have h1 : 0 ≤ n := hpre.1
 have h2 : n < 100 := hpre.2
 with_reducible repeat' (first | apply ai | intro _ | ((first | apply s1 | apply s3 | apply s4) <;> intro hb <;> simp -implicitDefEqProofs only [hb, go_sem, hh, seval] <;> try simp only [qz] at hb))
 all_goals (try simp only [maxLen, tn] at *)
 all_goals first | rfl | omega | (rw [Ms (by omega)]; rfl) | (rw [nn (n := n) (by omega), Ms (n := n / 10) (by omega)]; rfl) | (rw [Ms (n := n / 10) (by omega)]; rfl) | (have := (IG (n / 10)).2; have e : (Fh [48 + n % 10]).size = 1 := rfl; omega) | skip
end
theorem dj {G : Gt} (hG : Aj G) : Gd G 223 (AA 0 an) := W6 (G := Pg G.m [(223, AA 0 R4)]) (AB MR (W5 (G := Pg G.m []) MR)) rfl
theorem BQ {g : Prop} (c : Prop) (h1 : c → g) (h2 : ¬ c → g) : g := (Classical.em c).elim h1 h2
theorem zD : (1 : Int).toNat = 1 := rfl
theorem HX {l : ByteArray} (h : ¬ l = ⟨#[]⟩) : (0 : Int) < l.size := by
 have : ¬ l.size = 0 := fun e => h (ByteArray.size_eq_zero_iff.1 e)
 omega
def T9 : Ml := ⟨⟨⟨#[]⟩, ⟨#[]⟩⟩, [], []⟩
def FT (s : Ss) : Ss := ⟨s.state, T9, false, s.buf⟩
theorem mr (s : Ss) : FT s = ⟨s.state, ⟨⟨⟨#[]⟩, ⟨#[]⟩⟩, [], []⟩, false, s.buf⟩ := rfl
open Classical in
noncomputable def As (l : ByteArray) (w : ByteArray) : ByteArray × Bool := (if (l.size : Int) < w.size then (⟨#[]⟩, false) else (if l.extract 0 w.size = w then (l.extract w.size l.size, true) else (⟨#[]⟩, false)))
theorem gW {l : ByteArray} {w : ByteArray} (h0 : (l.size : Int) < w.size) : As l w = (⟨#[]⟩, false) := by unfold As; rw [if_pos h0]
theorem gX {l : ByteArray} {w : ByteArray} (h0 : ¬ ((l.size : Int) < w.size)) (h1 : l.extract 0 w.size = w) : As l w = (l.extract w.size l.size, true) := by unfold As; rw [if_neg h0, if_pos h1]
theorem gY {l : ByteArray} {w : ByteArray} (h0 : ¬ ((l.size : Int) < w.size)) (h1 : ¬ (l.extract 0 w.size = w)) : As l w = (⟨#[]⟩, false) := by unfold As; rw [if_neg h0, if_neg h1]
theorem Nd (l w : ByteArray) : (As l w).1.size ≤ l.size := by
 unfold As
 split
 ·exact Nat.zero_le _
 ·split
  ·show (l.extract w.size l.size).size ≤ _; rw [ByteArray.size_extract]; omega
  ·exact Nat.zero_le _
def mb : Ct := An (lc A0 (lc A0 l0)) (fun p => True) (fun p => .tup [.t (.v (.string (As p.1 p.2.1).1)), .t (.v (.bool (As p.1 p.2.1).2))])
section
attribute [local go_sem] tn
theorem eN {G : Gt} (hG : Aj G) : Gd G 256 (AA 0 mb) := by
 refine gr (fn := Tryz.f256) (n := 2) rfl hG ?_ (hs := fun _ _ => .tup _ fun c hc => by
  simp only [List.mem_cons, List.not_mem_nil, or_false] at hc
  rcases hc with rfl | rfl <;> exact .v _)
 rintro ⟨l, w, ⟨⟩⟩ hpre
 try dsimp only
 refine BQ ((l.size : Int) < w.size) (fun h0 => have e_ : As l w = _ := gW h0; have h1 := tv; ?_) (fun h0 => BQ (l.extract 0 w.size = w) (fun h1 => have e_ : As l w = _ := gX h0 h1; ?_) (fun h1 => have e_ : As l w = _ := gY h0 h1; ?_))
 all_goals
  try rw [e_]
  simp -implicitDefEqProofs only [Tryz.f256, h0, h1, eq_self, decide_true, decide_false, Int.reduceEq, go_sem, seval]
  with_reducible repeat' (first | apply ai | intro _ | ((first | apply s1 | apply s3 | apply s4) <;> intro hb <;> simp -implicitDefEqProofs only [hb, go_sem, seval] <;> try simp only [qz] at hb))
  all_goals (try simp only [maxLen, tn, lm] at *)
  all_goals first | rfl | omega | decide | with_reducible assumption | (show AT _ = true; rfl) | exact HX (by assumption) | contradiction | skip
end
def QI : Ct := An (lc Za.ag l0) (fun p => True) (fun p => .agg ((Ed (FT p.1)).map .t))
section
attribute [local go_sem] mr AS.opn AS.cls AS.nilb AS.renb AS.up Bool.not_false Bool.not_true List.set_set List.set_cons_zero List.set_cons_succ List.set_nil List.mem_singleton forall_eq tn List.map_nil List.nil_append
theorem eH {G : Gt} (hG : Aj G) : Gd G 250 (AA 1 QI) := by
 refine gr (fn := Tryz.f250) (n := 1) rfl hG ?_
 rintro ⟨s, ⟨⟩⟩ hpre
 simp -implicitDefEqProofs only [Tryz.f250, go_sem, seval] at hpre ⊢
 with_reducible repeat' (first | apply ai | intro _ | ((first | apply s1 | apply s3 | apply s4) <;> intro hb <;> simp -implicitDefEqProofs only [hb, go_sem, seval] <;> try simp only [qz] at hb))
 all_goals first | rfl | omega | decide | with_reducible assumption | (show AT _ = true; rfl) | exact HX (by assumption) | contradiction | skip
end
open Classical in
noncomputable def Ee (s : Ss) (t : ByteArray) : Ss × ByteArray := (if s.state = 1 then (if GI t then (⟨2, ⟨BK t, [], []⟩, s.bad, s.buf⟩, ⟨#[50, 53, 48, 32, 102, 114, 111, 109]⟩) else (s, ⟨#[53, 48, 49, 32, 102, 111, 114, 109]⟩)) else (s, ⟨#[53, 48, 51, 32, 111, 114, 100, 101, 114]⟩))
theorem oG {s : Ss} {t : ByteArray} (h0 : s.state = 1) (h1 : GI t) : Ee s t = (⟨2, ⟨BK t, [], []⟩, s.bad, s.buf⟩, ⟨#[50, 53, 48, 32, 102, 114, 111, 109]⟩) := by unfold Ee; rw [if_pos h0, if_pos h1]
theorem oH {s : Ss} {t : ByteArray} (h0 : s.state = 1) (h1 : ¬ (GI t)) : Ee s t = (s, ⟨#[53, 48, 49, 32, 102, 111, 114, 109]⟩) := by unfold Ee; rw [if_pos h0, if_neg h1]
theorem oI {s : Ss} {t : ByteArray} (h0 : ¬ (s.state = 1)) : Ee s t = (s, ⟨#[53, 48, 51, 32, 111, 114, 100, 101, 114]⟩) := by unfold Ee; rw [if_neg h0]
def mc : Ct := An (lc Za.ag (lc A0 l0)) (fun p => p.2.1.size ≤ 2000000) (fun p => .tup [.agg ((Ed (Ee p.1 p.2.1).1).map .t), .t (.v (.string (Ee p.1 p.2.1).2))])
section
attribute [local go_sem] VV RG AS.opn AS.cls AS.nilb AS.renb AS.up Bool.not_false Bool.not_true List.set_set List.set_cons_zero List.set_cons_succ List.set_nil List.mem_singleton forall_eq tn List.map_nil List.nil_append
theorem eO {G : Gt} (hG : Aj G) (hh : G.e 167 = AA 0 VV) : Gd G 257 (AA 1 mc) := by
 refine gr (fn := Tryz.f257) (n := 2) rfl hG ?_
 rintro ⟨s, t, ⟨⟩⟩ hpre
 have hz : t.size ≤ 2000000 := hpre
 try dsimp only
 refine BQ (s.state = 1) (fun h0 => BQ (GI t) (fun h1 => have h1' := Ag h1; have e_ : Ee s t = _ := oG h0 h1; ?_) (fun h1 => have h1' := AO h1; have e_ : Ee s t = _ := oH h0 h1; ?_)) (fun h0 => have e_ : Ee s t = _ := oI h0; have h1' := tv; ?_)
 all_goals
  try rw [e_]
  simp -implicitDefEqProofs only [Tryz.f257, h0, h1', eq_self, decide_true, decide_false, Int.reduceEq, go_sem, hh, seval]
  with_reducible repeat' (first | apply ai | intro _ | ((first | apply s1 | apply s3 | apply s4) <;> intro hb <;> simp -implicitDefEqProofs only [hb, go_sem, hh, seval] <;> try simp only [qz] at hb))
  all_goals (try simp only [maxLen, tn, lm] at *)
  all_goals first | rfl | omega | decide | with_reducible assumption | (show AT _ = true; rfl) | exact HX (by assumption) | contradiction | skip
end
theorem wb {a b : Ad} : (decide (a.user = b.user) && decide (a.domain = b.domain)) = decide (a = b) := by
 rw [← Bool.decide_and]; exact decide_eq_decide.2 BW.symm
theorem y8 {b : Bool} : ((false != b) = true) = (b = true) := by cases b <;> rfl
theorem y7 {b : Bool} : ((false != b) = false) = (b = false) := by cases b <;> rfl
theorem Xa {α : Type} [Inhabited α] {xs : List α} {i : Nat} {a : α} (h : i < xs.length) (e : xs.getD i default = a) : a ∈ xs := e ▸ AE h
theorem Xs {α : Type} [Inhabited α] {xs : List α} {i : Nat} {a : α} (h : xs.length ≤ i) (hall : ∀ j, j < i → ¬ xs.getD j default = a) : ¬ a ∈ xs := fun q => by
 obtain ⟨k, hk, e⟩ := List.getElem_of_mem q
 exact hall k (by omega) (by simpa [hk] using e)
open Classical in
noncomputable def Ho (c : Cf) (s : Ss) (t : ByteArray) : Ss × ByteArray := (if s.state = 2 ∨ s.state = 3 then (if GI t then (if AU (BK t) then (s, ⟨#[53, 48, 49, 32, 102, 111, 114, 109]⟩) else (if Jm c (BK t) then (if BK t ∈ s.mail.to then (s, ⟨#[50, 53, 48, 32, 116, 111]⟩) else (if (s.mail.to.length : Int) ≥ 4 then (s, ⟨#[52, 53, 50, 32, 109, 97, 110, 121]⟩) else (⟨3, ⟨s.mail.frm, s.mail.to ++ [BK t], s.mail.body⟩, s.bad, s.buf⟩, ⟨#[50, 53, 48, 32, 116, 111]⟩))) else (s, ⟨#[53, 53, 48, 32, 110, 111, 98, 111, 100, 121]⟩))) else (s, ⟨#[53, 48, 49, 32, 102, 111, 114, 109]⟩)) else (s, ⟨#[53, 48, 51, 32, 111, 114, 100, 101, 114]⟩))
theorem vS {c : Cf} {s : Ss} {t : ByteArray} (h0 : s.state = 2 ∨ s.state = 3) (h1 : GI t) (h2 : AU (BK t)) : Ho c s t = (s, ⟨#[53, 48, 49, 32, 102, 111, 114, 109]⟩) := by unfold Ho; rw [if_pos h0, if_pos h1, if_pos h2]
theorem vT {c : Cf} {s : Ss} {t : ByteArray} (h0 : s.state = 2 ∨ s.state = 3) (h1 : GI t) (h2 : ¬ (AU (BK t))) (h3 : Jm c (BK t)) (h4 : BK t ∈ s.mail.to) : Ho c s t = (s, ⟨#[50, 53, 48, 32, 116, 111]⟩) := by unfold Ho; rw [if_pos h0, if_pos h1, if_neg h2, if_pos h3, if_pos h4]
theorem vU {c : Cf} {s : Ss} {t : ByteArray} (h0 : s.state = 2 ∨ s.state = 3) (h1 : GI t) (h2 : ¬ (AU (BK t))) (h3 : Jm c (BK t)) (h4 : ¬ (BK t ∈ s.mail.to)) (h5 : (s.mail.to.length : Int) ≥ 4) : Ho c s t = (s, ⟨#[52, 53, 50, 32, 109, 97, 110, 121]⟩) := by unfold Ho; rw [if_pos h0, if_pos h1, if_neg h2, if_pos h3, if_neg h4, if_pos h5]
theorem vV {c : Cf} {s : Ss} {t : ByteArray} (h0 : s.state = 2 ∨ s.state = 3) (h1 : GI t) (h2 : ¬ (AU (BK t))) (h3 : Jm c (BK t)) (h4 : ¬ (BK t ∈ s.mail.to)) (h5 : ¬ ((s.mail.to.length : Int) ≥ 4)) : Ho c s t = (⟨3, ⟨s.mail.frm, s.mail.to ++ [BK t], s.mail.body⟩, s.bad, s.buf⟩, ⟨#[50, 53, 48, 32, 116, 111]⟩) := by unfold Ho; rw [if_pos h0, if_pos h1, if_neg h2, if_pos h3, if_neg h4, if_neg h5]
theorem vW {c : Cf} {s : Ss} {t : ByteArray} (h0 : s.state = 2 ∨ s.state = 3) (h1 : GI t) (h2 : ¬ (AU (BK t))) (h3 : ¬ (Jm c (BK t))) : Ho c s t = (s, ⟨#[53, 53, 48, 32, 110, 111, 98, 111, 100, 121]⟩) := by unfold Ho; rw [if_pos h0, if_pos h1, if_neg h2, if_neg h3]
theorem vX {c : Cf} {s : Ss} {t : ByteArray} (h0 : s.state = 2 ∨ s.state = 3) (h1 : ¬ (GI t)) : Ho c s t = (s, ⟨#[53, 48, 49, 32, 102, 111, 114, 109]⟩) := by unfold Ho; rw [if_pos h0, if_neg h1]
theorem vY {c : Cf} {s : Ss} {t : ByteArray} (h0 : ¬ (s.state = 2 ∨ s.state = 3)) : Ho c s t = (s, ⟨#[53, 48, 51, 32, 111, 114, 100, 101, 114]⟩) := by unfold Ho; rw [if_neg h0]
def md : Ct := An (lc IZ.ag (lc Za.ag (lc A0 l0))) (fun p => p.2.2.1.size ≤ 2000000 ∧ p.2.1.mail.to.length ≤ 1000) (fun p => .tup [.agg ((Ed (Ho p.1 p.2.1 p.2.2.1).1).map .t), .t (.v (.string (Ho p.1 p.2.1 p.2.2.1).2))])
section
attribute [local go_sem] VV Tc me RG AS.opn AS.cls AS.nilb AS.renb AS.up Bool.not_false Bool.not_true List.set_set List.set_cons_zero List.set_cons_succ List.set_nil List.mem_singleton forall_eq tn List.map_nil List.nil_append
set_option maxHeartbeats 3200000 in
theorem eP {G : Gt} (hG : Aj G) (hh : G.e 167 = AA 0 VV ∧ G.e 62 = AA 0 Tc ∧ G.e 259 = AA 0 me) : Gd G 258 (AA 1 md) := by
 refine gr (fn := Tryz.f258) (n := 3) rfl hG ?_
 rintro ⟨c, s, t, ⟨⟩⟩ hpre
 obtain ⟨hz, hn⟩ := hpre
 try dsimp only at hz hn ⊢
 refine BQ (s.state = 2 ∨ s.state = 3) (fun h0 => BQ (GI t) (fun h1 => have h1' := Ag h1; BQ (AU (BK t)) (fun h2 => have h2' := Ag h2; have e_ : Ho c s t = _ := vS h0 h1 h2; have h3' := tv; ?_) (fun h2 => have h2' := AO h2; BQ (Jm c (BK t)) (fun h3 => have h3' := Ag h3; ?w1) (fun h3 => have h3' := AO h3; have e_ : Ho c s t = _ := vW h0 h1 h2 h3; ?_))) (fun h1 => have h1' := AO h1; have e_ : Ho c s t = _ := vX h0 h1; have h2' := tv; have h3' := tv; ?_)) (fun h0 => have e_ : Ho c s t = _ := vY h0; have h1' := tv; have h2' := tv; have h3' := tv; ?_)
 case w1 =>
  simp -implicitDefEqProofs only [Tryz.f258, h0, h1', h2', h3', eq_self, decide_true, decide_false, go_sem, hh, seval]
  with_reducible repeat' (first | apply ai | intro _ | ((first | apply s1 | apply s3 | apply s4) <;> intro hb <;> simp -implicitDefEqProofs only [hb, go_sem, hh, seval] <;> try simp only [qz] at hb))
  all_goals (try simp only [maxLen, tn, lm] at *)
  all_goals first | rfl | omega | decide | with_reducible assumption | (show AT _ = true; rfl) | exact HX (by assumption) | contradiction | skip
  all_goals
   refine AF [] (ι := {i : Nat // i ≤ s.mail.to.length ∧ ∀ j, j < i → ¬ s.mail.to.getD j default = BK t}) (fun p => ⟨[(4, .pb 1004 0), (6, .pb 1006 0), (8, .pb 1008 0), (10, .t (.v (.int .i64 p.1)))], [(1004, some (.box ((Ed s).map .t))), (1006, some (.box [.t (.v (.int .i64 0)), .t (.v (.string ⟨#[]⟩)), .t (.v (.string ⟨#[]⟩)), .nil, .nil, .t (.v (.bool false)), .t (.v (.string ⟨#[]⟩))])), (1008, some (.box [.t (.v (.string (BK t).user)), .t (.v (.string (BK t).domain))]))]⟩) (fun p => s.mail.to.length - p.1) ⟨0, by simp, by simp⟩ rfl ?_ ?_
   ·simp -implicitDefEqProofs only [go_sem, hh, seval]
    try simp
   ·rintro ⟨i, hi, hall⟩
    simp -implicitDefEqProofs only [go_sem, hh, seval]
    with_reducible repeat' (first | apply ai | intro _ | ((first | apply s1 | apply s3 | apply s4) <;> intro hb <;> simp -implicitDefEqProofs only [hb, go_sem, hh, seval] <;> try simp only [qz] at hb))
    all_goals (try simp only [maxLen, tn, lm, wb, y8, y7, qa, qb] at *)
    all_goals first
     | rfl | omega | decide | with_reducible assumption | (show AT _ = true; rfl) | exact HX (by assumption) | contradiction
     | (rw [vT h0 h1 h2 h3 (Xa (xs := s.mail.to) (i := i) (by omega) (by assumption))]; first | done | rfl)
     | (rw [vU h0 h1 h2 h3 (Xs (by omega) hall) (by omega)]; first | done | rfl)
     | (rw [vV h0 h1 h2 h3 (Xs (by omega) hall) (by omega)]; first | done | rfl | (simp [At]; done))
     | (refine ⟨⟨i + 1, by omega, fun j hj => ?_⟩, by dsimp only; omega, ?_⟩
        ·by_cases e : j = i
         ·subst e; assumption
         ·exact hall j (by omega)
        ·simp -implicitDefEqProofs only [go_sem, hh, seval]
         simp)
     | skip
 all_goals
  try rw [e_]
  simp -implicitDefEqProofs only [Tryz.f258, h0, h1', h2', h3', eq_self, decide_true, decide_false, Int.reduceEq, go_sem, hh, seval]
  with_reducible repeat' (first | apply ai | intro _ | ((first | apply s1 | apply s3 | apply s4) <;> intro hb <;> simp -implicitDefEqProofs only [hb, go_sem, hh, seval] <;> try simp only [qz] at hb))
  all_goals (try simp only [maxLen, tn, lm] at *)
  all_goals first | rfl | omega | decide | with_reducible assumption | (show AT _ = true; rfl) | exact HX (by assumption) | contradiction | skip
end
open Classical in
noncomputable def Am (s : Ss) (l : ByteArray) : (Ss × ByteArray) × Bool := (if l = ⟨#[46]⟩ then (if s.bad = true then ((⟨1, s.mail, s.bad, s.buf⟩, ⟨#[53, 53, 52, 32, 110, 111]⟩), false) else (if DQ s.mail.body then (if (s.mail.body.length : Int) ≥ 12 then ((⟨1, s.mail, s.bad, s.buf⟩, ⟨#[53, 53, 52, 32, 110, 111]⟩), false) else (if (D2 s.mail.body : Int) ≥ 4 then ((⟨1, s.mail, s.bad, s.buf⟩, ⟨#[53, 53, 52, 32, 114, 111, 117, 110, 100]⟩), false) else ((⟨1, s.mail, s.bad, s.buf⟩, ⟨#[50, 53, 48, 32, 116, 97, 107, 101, 110]⟩), true))) else ((⟨1, s.mail, s.bad, s.buf⟩, ⟨#[53, 53, 52, 32, 110, 111]⟩), false))) else (if l = ⟨#[]⟩ then (if (s.mail.body.length : Int) ≥ 12 then ((⟨s.state, s.mail, true, s.buf⟩, ⟨#[]⟩), false) else (if Ia l then ((⟨s.state, ⟨s.mail.frm, s.mail.to, s.mail.body ++ [l]⟩, s.bad, s.buf⟩, ⟨#[]⟩), false) else ((⟨s.state, s.mail, true, s.buf⟩, ⟨#[]⟩), false))) else (if AC l 0 = 46 then (if (s.mail.body.length : Int) ≥ 12 then ((⟨s.state, s.mail, true, s.buf⟩, ⟨#[]⟩), false) else (if Ia (l.extract 1 l.size) then ((⟨s.state, ⟨s.mail.frm, s.mail.to, s.mail.body ++ [l.extract 1 l.size]⟩, s.bad, s.buf⟩, ⟨#[]⟩), false) else ((⟨s.state, s.mail, true, s.buf⟩, ⟨#[]⟩), false))) else (if (s.mail.body.length : Int) ≥ 12 then ((⟨s.state, s.mail, true, s.buf⟩, ⟨#[]⟩), false) else (if Ia l then ((⟨s.state, ⟨s.mail.frm, s.mail.to, s.mail.body ++ [l]⟩, s.bad, s.buf⟩, ⟨#[]⟩), false) else ((⟨s.state, s.mail, true, s.buf⟩, ⟨#[]⟩), false))))))
theorem nK {s : Ss} {l : ByteArray} (h0 : l = ⟨#[46]⟩) (h1 : s.bad = true) : Am s l = ((⟨1, s.mail, s.bad, s.buf⟩, ⟨#[53, 53, 52, 32, 110, 111]⟩), false) := by unfold Am; rw [if_pos h0, if_pos h1]
theorem nL {s : Ss} {l : ByteArray} (h0 : l = ⟨#[46]⟩) (h1 : ¬ (s.bad = true)) (h2 : DQ s.mail.body) (h3 : (s.mail.body.length : Int) ≥ 12) : Am s l = ((⟨1, s.mail, s.bad, s.buf⟩, ⟨#[53, 53, 52, 32, 110, 111]⟩), false) := by unfold Am; rw [if_pos h0, if_neg h1, if_pos h2, if_pos h3]
theorem nM {s : Ss} {l : ByteArray} (h0 : l = ⟨#[46]⟩) (h1 : ¬ (s.bad = true)) (h2 : DQ s.mail.body) (h3 : ¬ ((s.mail.body.length : Int) ≥ 12)) (h4 : (D2 s.mail.body : Int) ≥ 4) : Am s l = ((⟨1, s.mail, s.bad, s.buf⟩, ⟨#[53, 53, 52, 32, 114, 111, 117, 110, 100]⟩), false) := by unfold Am; rw [if_pos h0, if_neg h1, if_pos h2, if_neg h3, if_pos h4]
theorem nN {s : Ss} {l : ByteArray} (h0 : l = ⟨#[46]⟩) (h1 : ¬ (s.bad = true)) (h2 : DQ s.mail.body) (h3 : ¬ ((s.mail.body.length : Int) ≥ 12)) (h4 : ¬ ((D2 s.mail.body : Int) ≥ 4)) : Am s l = ((⟨1, s.mail, s.bad, s.buf⟩, ⟨#[50, 53, 48, 32, 116, 97, 107, 101, 110]⟩), true) := by unfold Am; rw [if_pos h0, if_neg h1, if_pos h2, if_neg h3, if_neg h4]
theorem nO {s : Ss} {l : ByteArray} (h0 : l = ⟨#[46]⟩) (h1 : ¬ (s.bad = true)) (h2 : ¬ (DQ s.mail.body)) : Am s l = ((⟨1, s.mail, s.bad, s.buf⟩, ⟨#[53, 53, 52, 32, 110, 111]⟩), false) := by unfold Am; rw [if_pos h0, if_neg h1, if_neg h2]
theorem nP {s : Ss} {l : ByteArray} (h0 : ¬ (l = ⟨#[46]⟩)) (h1 : l = ⟨#[]⟩) (h2 : (s.mail.body.length : Int) ≥ 12) : Am s l = ((⟨s.state, s.mail, true, s.buf⟩, ⟨#[]⟩), false) := by unfold Am; rw [if_neg h0, if_pos h1, if_pos h2]
theorem nQ {s : Ss} {l : ByteArray} (h0 : ¬ (l = ⟨#[46]⟩)) (h1 : l = ⟨#[]⟩) (h2 : ¬ ((s.mail.body.length : Int) ≥ 12)) (h3 : Ia l) : Am s l = ((⟨s.state, ⟨s.mail.frm, s.mail.to, s.mail.body ++ [l]⟩, s.bad, s.buf⟩, ⟨#[]⟩), false) := by unfold Am; rw [if_neg h0, if_pos h1, if_neg h2, if_pos h3]
theorem nR {s : Ss} {l : ByteArray} (h0 : ¬ (l = ⟨#[46]⟩)) (h1 : l = ⟨#[]⟩) (h2 : ¬ ((s.mail.body.length : Int) ≥ 12)) (h3 : ¬ (Ia l)) : Am s l = ((⟨s.state, s.mail, true, s.buf⟩, ⟨#[]⟩), false) := by unfold Am; rw [if_neg h0, if_pos h1, if_neg h2, if_neg h3]
theorem nS {s : Ss} {l : ByteArray} (h0 : ¬ (l = ⟨#[46]⟩)) (h1 : ¬ (l = ⟨#[]⟩)) (h2 : AC l 0 = 46) (h3 : (s.mail.body.length : Int) ≥ 12) : Am s l = ((⟨s.state, s.mail, true, s.buf⟩, ⟨#[]⟩), false) := by unfold Am; rw [if_neg h0, if_neg h1, if_pos h2, if_pos h3]
theorem nT {s : Ss} {l : ByteArray} (h0 : ¬ (l = ⟨#[46]⟩)) (h1 : ¬ (l = ⟨#[]⟩)) (h2 : AC l 0 = 46) (h3 : ¬ ((s.mail.body.length : Int) ≥ 12)) (h4 : Ia (l.extract 1 l.size)) : Am s l = ((⟨s.state, ⟨s.mail.frm, s.mail.to, s.mail.body ++ [l.extract 1 l.size]⟩, s.bad, s.buf⟩, ⟨#[]⟩), false) := by unfold Am; rw [if_neg h0, if_neg h1, if_pos h2, if_neg h3, if_pos h4]
theorem bK {s : Ss} {l : ByteArray} (h0 : ¬ (l = ⟨#[46]⟩)) (h1 : ¬ (l = ⟨#[]⟩)) (h2 : AC l 0 = 46) (h3 : ¬ ((s.mail.body.length : Int) ≥ 12)) (h4 : ¬ (Ia (l.extract 1 l.size))) : Am s l = ((⟨s.state, s.mail, true, s.buf⟩, ⟨#[]⟩), false) := by unfold Am; rw [if_neg h0, if_neg h1, if_pos h2, if_neg h3, if_neg h4]
theorem bL {s : Ss} {l : ByteArray} (h0 : ¬ (l = ⟨#[46]⟩)) (h1 : ¬ (l = ⟨#[]⟩)) (h2 : ¬ (AC l 0 = 46)) (h3 : (s.mail.body.length : Int) ≥ 12) : Am s l = ((⟨s.state, s.mail, true, s.buf⟩, ⟨#[]⟩), false) := by unfold Am; rw [if_neg h0, if_neg h1, if_neg h2, if_pos h3]
theorem bM {s : Ss} {l : ByteArray} (h0 : ¬ (l = ⟨#[46]⟩)) (h1 : ¬ (l = ⟨#[]⟩)) (h2 : ¬ (AC l 0 = 46)) (h3 : ¬ ((s.mail.body.length : Int) ≥ 12)) (h4 : Ia l) : Am s l = ((⟨s.state, ⟨s.mail.frm, s.mail.to, s.mail.body ++ [l]⟩, s.bad, s.buf⟩, ⟨#[]⟩), false) := by unfold Am; rw [if_neg h0, if_neg h1, if_neg h2, if_neg h3, if_pos h4]
theorem bN {s : Ss} {l : ByteArray} (h0 : ¬ (l = ⟨#[46]⟩)) (h1 : ¬ (l = ⟨#[]⟩)) (h2 : ¬ (AC l 0 = 46)) (h3 : ¬ ((s.mail.body.length : Int) ≥ 12)) (h4 : ¬ (Ia l)) : Am s l = ((⟨s.state, s.mail, true, s.buf⟩, ⟨#[]⟩), false) := by unfold Am; rw [if_neg h0, if_neg h1, if_neg h2, if_neg h3, if_neg h4]
def ma : Ct := An (lc Za.ag (lc A0 l0)) (fun p => p.1.mail.body.length ≤ 1000) (fun p => .tup [.agg ((Ed (Am p.1 p.2.1).1.1).map .t), .t (.v (.string (Am p.1 p.2.1).1.2)), .t (.v (.bool (Am p.1 p.2.1).2))])
section
attribute [local go_sem] Mj lZ QD Int.toNat_zero zD AS.opn AS.cls AS.nilb AS.renb AS.up Bool.not_false Bool.not_true List.set_set List.set_cons_zero List.set_cons_succ List.set_nil List.mem_singleton forall_eq tn List.map_nil List.nil_append
set_option maxHeartbeats 3200000 in
theorem eM {G : Gt} (hG : Aj G) (hh : G.e 142 = AA 0 Mj ∧ G.e 166 = AA 0 lZ ∧ G.e 124 = AA 0 QD) : Gd G 255 (AA 1 ma) := by
 refine gr (fn := Tryz.f255) (n := 2) rfl hG ?_
 rintro ⟨s, l, ⟨⟩⟩ hpre
 have hn : s.mail.body.length ≤ 1000 := hpre
 try dsimp only
 refine BQ (l = ⟨#[46]⟩) (fun h0 => BQ (s.bad = true) (fun h1 => have e_ : Am s l = _ := nK h0 h1; have h1' := tv; have h2' := tv; have h3 := tv; have h4 := tv; have h2 := tv; have h3' := tv; have h4' := tv; ?_) (fun h1 => have h1' := (Bool.not_eq_true _).mp h1; BQ (DQ s.mail.body) (fun h2 => have h2' := Ag h2; BQ ((s.mail.body.length : Int) ≥ 12) (fun h3 => have e_ : Am s l = _ := nL h0 h1 h2 h3; have h1 := tv; have h4 := tv; have h2 := tv; have h3' := tv; have h4' := tv; ?_) (fun h3 => BQ ((D2 s.mail.body : Int) ≥ 4) (fun h4 => have e_ : Am s l = _ := nM h0 h1 h2 h3 h4; have h1 := tv; have h2 := tv; have h3' := tv; have h4' := tv; ?_) (fun h4 => have e_ : Am s l = _ := nN h0 h1 h2 h3 h4; have h1 := tv; have h2 := tv; have h3' := tv; have h4' := tv; ?_))) (fun h2 => have h2' := AO h2; have e_ : Am s l = _ := nO h0 h1 h2; have h1 := tv; have h3 := tv; have h4 := tv; have h2 := tv; have h3' := tv; have h4' := tv; ?_))) (fun h0 => BQ (l = ⟨#[]⟩) (fun h1 => BQ ((s.mail.body.length : Int) ≥ 12) (fun h2 => have e_ : Am s l = _ := nP h0 h1 h2; have h1' := tv; have h2' := tv; have h3 := tv; have h4 := tv; have h3' := tv; have h4' := tv; ?_) (fun h2 => BQ (Ia l) (fun h3 => have h3' := Ag h3; have e_ : Am s l = _ := nQ h0 h1 h2 h3; have h1' := tv; have h2' := tv; have h3 := tv; have h4 := tv; have h4' := tv; ?_) (fun h3 => have h3' := AO h3; have e_ : Am s l = _ := nR h0 h1 h2 h3; have h1' := tv; have h2' := tv; have h3 := tv; have h4 := tv; have h4' := tv; ?_))) (fun h1 => BQ (AC l 0 = 46) (fun h2 => BQ ((s.mail.body.length : Int) ≥ 12) (fun h3 => have e_ : Am s l = _ := nS h0 h1 h2 h3; have h1' := tv; have h2' := tv; have h4 := tv; have h3' := tv; have h4' := tv; ?_) (fun h3 => BQ (Ia (l.extract 1 l.size)) (fun h4 => have h4' := Ag h4; have e_ : Am s l = _ := nT h0 h1 h2 h3 h4; have h1' := tv; have h2' := tv; have h4 := tv; have h3' := tv; ?_) (fun h4 => have h4' := AO h4; have e_ : Am s l = _ := bK h0 h1 h2 h3 h4; have h1' := tv; have h2' := tv; have h4 := tv; have h3' := tv; ?_))) (fun h2 => BQ ((s.mail.body.length : Int) ≥ 12) (fun h3 => have e_ : Am s l = _ := bL h0 h1 h2 h3; have h1' := tv; have h2' := tv; have h4 := tv; have h3' := tv; have h4' := tv; ?_) (fun h3 => BQ (Ia l) (fun h4 => have h4' := Ag h4; have e_ : Am s l = _ := bM h0 h1 h2 h3 h4; have h1' := tv; have h2' := tv; have h4 := tv; have h3' := tv; ?_) (fun h4 => have h4' := AO h4; have e_ : Am s l = _ := bN h0 h1 h2 h3 h4; have h1' := tv; have h2' := tv; have h4 := tv; have h3' := tv; ?_)))))
 all_goals
  try rw [e_]
  simp -implicitDefEqProofs only [Tryz.f255, h0, h1, h1', h2', h3, h4, h2, h3', h4', eq_self, decide_true, decide_false, Int.reduceEq, go_sem, hh, seval]
  with_reducible repeat' (first | apply ai | intro _ | ((first | apply s1 | apply s3 | apply s4) <;> intro hb <;> simp -implicitDefEqProofs only [hb, go_sem, hh, seval] <;> try simp only [qz] at hb))
  all_goals (try simp only [maxLen, tn, lm] at *)
  all_goals first | rfl | omega | decide | with_reducible assumption | (show AT _ = true; rfl) | exact HX (by assumption) | contradiction | (subst h1; contradiction) | (subst h1; exact absurd rfl (by assumption)) | (simp [AH]; done) | skip
end
open Classical in
noncomputable def Bb (c : Cf) (s : Ss) (l : ByteArray) : Ss × ByteArray := (if (As l ⟨#[72, 69, 76, 79, 32]⟩).2 = true then (if D4 (As l ⟨#[72, 69, 76, 79, 32]⟩).1 then (FT ⟨1, s.mail, s.bad, s.buf⟩, ⟨#[50, 53, 48, 32]⟩ ++ c.name) else (s, ⟨#[53, 48, 49, 32, 102, 111, 114, 109]⟩)) else (if l = ⟨#[81, 85, 73, 84]⟩ then (FT ⟨5, s.mail, s.bad, s.buf⟩, ⟨#[50, 50, 49, 32, 98, 121, 101]⟩) else (if l = ⟨#[78, 79, 79, 80]⟩ then (s, ⟨#[50, 53, 48, 32, 111, 107]⟩) else (if l = ⟨#[82, 83, 69, 84]⟩ then (if s.state = 0 then (FT s, ⟨#[50, 53, 48, 32, 111, 107]⟩) else (FT ⟨1, s.mail, s.bad, s.buf⟩, ⟨#[50, 53, 48, 32, 111, 107]⟩)) else (if (As l ⟨#[77, 65, 73, 76, 32, 70, 82, 79, 77, 58]⟩).2 = true then Ee s (As l ⟨#[77, 65, 73, 76, 32, 70, 82, 79, 77, 58]⟩).1 else (if (As l ⟨#[82, 67, 80, 84, 32, 84, 79, 58]⟩).2 = true then Ho c s (As l ⟨#[82, 67, 80, 84, 32, 84, 79, 58]⟩).1 else (if l = ⟨#[68, 65, 84, 65]⟩ then (if s.state = 3 then (⟨4, s.mail, s.bad, s.buf⟩, ⟨#[51, 53, 52, 32, 103, 111, 32, 111, 110]⟩) else (s, ⟨#[53, 48, 51, 32, 111, 114, 100, 101, 114]⟩)) else (s, ⟨#[53, 48, 48, 32, 119, 104, 97, 116]⟩))))))))
theorem mt {c : Cf} {s : Ss} {l : ByteArray} (h0 : (As l ⟨#[72, 69, 76, 79, 32]⟩).2 = true) (h1 : D4 (As l ⟨#[72, 69, 76, 79, 32]⟩).1) : Bb c s l = (FT ⟨1, s.mail, s.bad, s.buf⟩, ⟨#[50, 53, 48, 32]⟩ ++ c.name) := by unfold Bb; rw [if_pos h0, if_pos h1]
theorem mw {c : Cf} {s : Ss} {l : ByteArray} (h0 : (As l ⟨#[72, 69, 76, 79, 32]⟩).2 = true) (h1 : ¬ (D4 (As l ⟨#[72, 69, 76, 79, 32]⟩).1)) : Bb c s l = (s, ⟨#[53, 48, 49, 32, 102, 111, 114, 109]⟩) := by unfold Bb; rw [if_pos h0, if_neg h1]
theorem my {c : Cf} {s : Ss} {l : ByteArray} (h0 : ¬ ((As l ⟨#[72, 69, 76, 79, 32]⟩).2 = true)) (h1 : l = ⟨#[81, 85, 73, 84]⟩) : Bb c s l = (FT ⟨5, s.mail, s.bad, s.buf⟩, ⟨#[50, 50, 49, 32, 98, 121, 101]⟩) := by unfold Bb; rw [if_neg h0, if_pos h1]
theorem mz {c : Cf} {s : Ss} {l : ByteArray} (h0 : ¬ ((As l ⟨#[72, 69, 76, 79, 32]⟩).2 = true)) (h1 : ¬ (l = ⟨#[81, 85, 73, 84]⟩)) (h2 : l = ⟨#[78, 79, 79, 80]⟩) : Bb c s l = (s, ⟨#[50, 53, 48, 32, 111, 107]⟩) := by unfold Bb; rw [if_neg h0, if_neg h1, if_pos h2]
theorem m0 {c : Cf} {s : Ss} {l : ByteArray} (h0 : ¬ ((As l ⟨#[72, 69, 76, 79, 32]⟩).2 = true)) (h1 : ¬ (l = ⟨#[81, 85, 73, 84]⟩)) (h2 : ¬ (l = ⟨#[78, 79, 79, 80]⟩)) (h3 : l = ⟨#[82, 83, 69, 84]⟩) (h4 : s.state = 0) : Bb c s l = (FT s, ⟨#[50, 53, 48, 32, 111, 107]⟩) := by unfold Bb; rw [if_neg h0, if_neg h1, if_neg h2, if_pos h3, if_pos h4]
theorem m7 {c : Cf} {s : Ss} {l : ByteArray} (h0 : ¬ ((As l ⟨#[72, 69, 76, 79, 32]⟩).2 = true)) (h1 : ¬ (l = ⟨#[81, 85, 73, 84]⟩)) (h2 : ¬ (l = ⟨#[78, 79, 79, 80]⟩)) (h3 : l = ⟨#[82, 83, 69, 84]⟩) (h4 : ¬ (s.state = 0)) : Bb c s l = (FT ⟨1, s.mail, s.bad, s.buf⟩, ⟨#[50, 53, 48, 32, 111, 107]⟩) := by unfold Bb; rw [if_neg h0, if_neg h1, if_neg h2, if_pos h3, if_neg h4]
theorem m8 {c : Cf} {s : Ss} {l : ByteArray} (h0 : ¬ ((As l ⟨#[72, 69, 76, 79, 32]⟩).2 = true)) (h1 : ¬ (l = ⟨#[81, 85, 73, 84]⟩)) (h2 : ¬ (l = ⟨#[78, 79, 79, 80]⟩)) (h3 : ¬ (l = ⟨#[82, 83, 69, 84]⟩)) (h4 : (As l ⟨#[77, 65, 73, 76, 32, 70, 82, 79, 77, 58]⟩).2 = true) : Bb c s l = Ee s (As l ⟨#[77, 65, 73, 76, 32, 70, 82, 79, 77, 58]⟩).1 := by unfold Bb; rw [if_neg h0, if_neg h1, if_neg h2, if_neg h3, if_pos h4]
theorem m9 {c : Cf} {s : Ss} {l : ByteArray} (h0 : ¬ ((As l ⟨#[72, 69, 76, 79, 32]⟩).2 = true)) (h1 : ¬ (l = ⟨#[81, 85, 73, 84]⟩)) (h2 : ¬ (l = ⟨#[78, 79, 79, 80]⟩)) (h3 : ¬ (l = ⟨#[82, 83, 69, 84]⟩)) (h4 : ¬ ((As l ⟨#[77, 65, 73, 76, 32, 70, 82, 79, 77, 58]⟩).2 = true)) (h5 : (As l ⟨#[82, 67, 80, 84, 32, 84, 79, 58]⟩).2 = true) : Bb c s l = Ho c s (As l ⟨#[82, 67, 80, 84, 32, 84, 79, 58]⟩).1 := by unfold Bb; rw [if_neg h0, if_neg h1, if_neg h2, if_neg h3, if_neg h4, if_pos h5]
theorem nA {c : Cf} {s : Ss} {l : ByteArray} (h0 : ¬ ((As l ⟨#[72, 69, 76, 79, 32]⟩).2 = true)) (h1 : ¬ (l = ⟨#[81, 85, 73, 84]⟩)) (h2 : ¬ (l = ⟨#[78, 79, 79, 80]⟩)) (h3 : ¬ (l = ⟨#[82, 83, 69, 84]⟩)) (h4 : ¬ ((As l ⟨#[77, 65, 73, 76, 32, 70, 82, 79, 77, 58]⟩).2 = true)) (h5 : ¬ ((As l ⟨#[82, 67, 80, 84, 32, 84, 79, 58]⟩).2 = true)) (h6 : l = ⟨#[68, 65, 84, 65]⟩) (h7 : s.state = 3) : Bb c s l = (⟨4, s.mail, s.bad, s.buf⟩, ⟨#[51, 53, 52, 32, 103, 111, 32, 111, 110]⟩) := by unfold Bb; rw [if_neg h0, if_neg h1, if_neg h2, if_neg h3, if_neg h4, if_neg h5, if_pos h6, if_pos h7]
theorem nB {c : Cf} {s : Ss} {l : ByteArray} (h0 : ¬ ((As l ⟨#[72, 69, 76, 79, 32]⟩).2 = true)) (h1 : ¬ (l = ⟨#[81, 85, 73, 84]⟩)) (h2 : ¬ (l = ⟨#[78, 79, 79, 80]⟩)) (h3 : ¬ (l = ⟨#[82, 83, 69, 84]⟩)) (h4 : ¬ ((As l ⟨#[77, 65, 73, 76, 32, 70, 82, 79, 77, 58]⟩).2 = true)) (h5 : ¬ ((As l ⟨#[82, 67, 80, 84, 32, 84, 79, 58]⟩).2 = true)) (h6 : l = ⟨#[68, 65, 84, 65]⟩) (h7 : ¬ (s.state = 3)) : Bb c s l = (s, ⟨#[53, 48, 51, 32, 111, 114, 100, 101, 114]⟩) := by unfold Bb; rw [if_neg h0, if_neg h1, if_neg h2, if_neg h3, if_neg h4, if_neg h5, if_pos h6, if_neg h7]
theorem bG {c : Cf} {s : Ss} {l : ByteArray} (h0 : ¬ ((As l ⟨#[72, 69, 76, 79, 32]⟩).2 = true)) (h1 : ¬ (l = ⟨#[81, 85, 73, 84]⟩)) (h2 : ¬ (l = ⟨#[78, 79, 79, 80]⟩)) (h3 : ¬ (l = ⟨#[82, 83, 69, 84]⟩)) (h4 : ¬ ((As l ⟨#[77, 65, 73, 76, 32, 70, 82, 79, 77, 58]⟩).2 = true)) (h5 : ¬ ((As l ⟨#[82, 67, 80, 84, 32, 84, 79, 58]⟩).2 = true)) (h6 : ¬ (l = ⟨#[68, 65, 84, 65]⟩)) : Bb c s l = (s, ⟨#[53, 48, 48, 32, 119, 104, 97, 116]⟩) := by unfold Bb; rw [if_neg h0, if_neg h1, if_neg h2, if_neg h3, if_neg h4, if_neg h5, if_neg h6]
def mZ : Ct := An (lc IZ.ag (lc Za.ag (lc A0 l0))) (fun p => p.1.name.size ≤ 1000000 ∧ p.2.1.mail.to.length ≤ 1000 ∧ p.2.2.1.size ≤ 2000000) (fun p => .tup [.agg ((Ed (Bb p.1 p.2.1 p.2.2.1).1).map .t), .t (.v (.string (Bb p.1 p.2.1 p.2.2.1).2))])
section
attribute [local go_sem] mb Mk QI mc md AS.opn AS.cls AS.nilb AS.renb AS.up Bool.not_false Bool.not_true List.set_set List.set_cons_zero List.set_cons_succ List.set_nil List.mem_singleton forall_eq tn List.map_nil List.nil_append
set_option maxHeartbeats 3200000 in
theorem eL {G : Gt} (hG : Aj G) (hh : G.e 256 = AA 0 mb ∧ G.e 143 = AA 0 Mk ∧ G.e 250 = AA 1 QI ∧ G.e 257 = AA 1 mc ∧ G.e 258 = AA 1 md) : Gd G 254 (AA 1 mZ) := by
 refine gr (fn := Tryz.f254) (n := 3) rfl hG ?_
 rintro ⟨c, s, l, ⟨⟩⟩ hpre
 obtain ⟨hn, ht, hz⟩ := hpre
 try dsimp only at hn ht hz ⊢
 have z1 := Nd l ⟨#[72, 69, 76, 79, 32]⟩
 have z2 := Nd l ⟨#[77, 65, 73, 76, 32, 70, 82, 79, 77, 58]⟩
 have z3 := Nd l ⟨#[82, 67, 80, 84, 32, 84, 79, 58]⟩
 have z4 : (⟨#[50, 53, 48, 32]⟩ : ByteArray).size = 4 := rfl
 refine BQ ((As l ⟨#[72, 69, 76, 79, 32]⟩).2 = true) (fun h0 => BQ (D4 (As l ⟨#[72, 69, 76, 79, 32]⟩).1) (fun h1 => have h1' := Ag h1; have e_ : Bb c s l = _ := mt h0 h1; have h0' := tv; have h1 := tv; have h2 := tv; have h3 := tv; have h4' := tv; have h4 := tv; have h5 := tv; have h5' := tv; have h6 := tv; have h7' := tv; ?_) (fun h1 => have h1' := AO h1; have e_ : Bb c s l = _ := mw h0 h1; have h0' := tv; have h1 := tv; have h2 := tv; have h3 := tv; have h4' := tv; have h4 := tv; have h5 := tv; have h5' := tv; have h6 := tv; have h7' := tv; ?_)) (fun h0 => have h0' := (Bool.not_eq_true _).mp h0; BQ (l = ⟨#[81, 85, 73, 84]⟩) (fun h1 => have e_ : Bb c s l = _ := my h0 h1; have h0 := tv; have h1' := tv; have h2 := tv; have h3 := tv; have h4' := tv; have h4 := tv; have h5 := tv; have h5' := tv; have h6 := tv; have h7' := tv; ?_) (fun h1 => BQ (l = ⟨#[78, 79, 79, 80]⟩) (fun h2 => have e_ : Bb c s l = _ := mz h0 h1 h2; have h0 := tv; have h1' := tv; have h3 := tv; have h4' := tv; have h4 := tv; have h5 := tv; have h5' := tv; have h6 := tv; have h7' := tv; ?_) (fun h2 => BQ (l = ⟨#[82, 83, 69, 84]⟩) (fun h3 => BQ (s.state = 0) (fun h4 => have h4' := decide_eq_true h4; have e_ : Bb c s l = _ := m0 h0 h1 h2 h3 h4; have h0 := tv; have h1' := tv; have h4 := tv; have h5 := tv; have h5' := tv; have h6 := tv; have h7' := tv; ?_) (fun h4 => have h4' := decide_eq_false h4; have e_ : Bb c s l = _ := m7 h0 h1 h2 h3 h4; have h0 := tv; have h1' := tv; have h4 := tv; have h5 := tv; have h5' := tv; have h6 := tv; have h7' := tv; ?_)) (fun h3 => BQ ((As l ⟨#[77, 65, 73, 76, 32, 70, 82, 79, 77, 58]⟩).2 = true) (fun h4 => have e_ : Bb c s l = _ := m8 h0 h1 h2 h3 h4; have h0 := tv; have h1' := tv; have h4' := tv; have h5 := tv; have h5' := tv; have h6 := tv; have h7' := tv; ?_) (fun h4 => have h4' := (Bool.not_eq_true _).mp h4; BQ ((As l ⟨#[82, 67, 80, 84, 32, 84, 79, 58]⟩).2 = true) (fun h5 => have e_ : Bb c s l = _ := m9 h0 h1 h2 h3 h4 h5; have h0 := tv; have h1' := tv; have h4 := tv; have h5' := tv; have h6 := tv; have h7' := tv; ?_) (fun h5 => have h5' := (Bool.not_eq_true _).mp h5; BQ (l = ⟨#[68, 65, 84, 65]⟩) (fun h6 => BQ (s.state = 3) (fun h7 => have h7' := decide_eq_true h7; have e_ : Bb c s l = _ := nA h0 h1 h2 h3 h4 h5 h6 h7; have h0 := tv; have h1' := tv; have h4 := tv; have h5 := tv; ?_) (fun h7 => have h7' := decide_eq_false h7; have e_ : Bb c s l = _ := nB h0 h1 h2 h3 h4 h5 h6 h7; have h0 := tv; have h1' := tv; have h4 := tv; have h5 := tv; ?_)) (fun h6 => have e_ : Bb c s l = _ := bG h0 h1 h2 h3 h4 h5 h6; have h0 := tv; have h1' := tv; have h4 := tv; have h5 := tv; have h7' := tv; ?_)))))))
 all_goals
  try rw [e_]
  simp -implicitDefEqProofs only [Tryz.f254, h0, h1', h0', h1, h2, h3, h4', h4, h5, h5', h6, h7', eq_self, decide_true, decide_false, Int.reduceEq, go_sem, hh, seval]
  with_reducible repeat' (first | apply ai | intro _ | ((first | apply s1 | apply s3 | apply s4) <;> intro hb <;> simp -implicitDefEqProofs only [hb, go_sem, hh, seval] <;> try simp only [qz] at hb))
  all_goals (try simp only [maxLen, tn, lm] at *)
  all_goals first | rfl | omega | decide | with_reducible assumption | (show AT _ = true; rfl) | exact HX (by assumption) | contradiction | (show 4 + c.name.size ≤ _; omega) | (subst h3; contradiction) | skip
end
open Classical in
noncomputable def Bo (c : Cf) (s : Ss) (l : ByteArray) : (Ss × ByteArray) × List Ml := (if s.state = 5 then ((s, ⟨#[]⟩), []) else (if s.state = 4 then (if (Am s l).1.2 = ⟨#[]⟩ then ((Am s l).1, []) else (if (Am s l).2 = true then ((FT (Am s l).1.1, (Am s l).1.2), [(Am s l).1.1.mail]) else ((FT (Am s l).1.1, (Am s l).1.2), []))) else (Bb c s l, [])))
theorem rZ {c : Cf} {s : Ss} {l : ByteArray} (h0 : s.state = 5) : Bo c s l = ((s, ⟨#[]⟩), []) := by unfold Bo; rw [if_pos h0]
theorem ra {c : Cf} {s : Ss} {l : ByteArray} (h0 : ¬ (s.state = 5)) (h1 : s.state = 4) (h2 : (Am s l).1.2 = ⟨#[]⟩) : Bo c s l = ((Am s l).1, []) := by unfold Bo; rw [if_neg h0, if_pos h1, if_pos h2]
theorem rb {c : Cf} {s : Ss} {l : ByteArray} (h0 : ¬ (s.state = 5)) (h1 : s.state = 4) (h2 : ¬ ((Am s l).1.2 = ⟨#[]⟩)) (h3 : (Am s l).2 = true) : Bo c s l = ((FT (Am s l).1.1, (Am s l).1.2), [(Am s l).1.1.mail]) := by unfold Bo; rw [if_neg h0, if_pos h1, if_neg h2, if_pos h3]
theorem rc {c : Cf} {s : Ss} {l : ByteArray} (h0 : ¬ (s.state = 5)) (h1 : s.state = 4) (h2 : ¬ ((Am s l).1.2 = ⟨#[]⟩)) (h3 : ¬ ((Am s l).2 = true)) : Bo c s l = ((FT (Am s l).1.1, (Am s l).1.2), []) := by unfold Bo; rw [if_neg h0, if_pos h1, if_neg h2, if_neg h3]
theorem rd {c : Cf} {s : Ss} {l : ByteArray} (h0 : ¬ (s.state = 5)) (h1 : ¬ (s.state = 4)) : Bo c s l = (Bb c s l, []) := by unfold Bo; rw [if_neg h0, if_neg h1]
theorem nU (s : Ss) (l : ByteArray) : (Am s l).1.1.mail.body.length ≤ s.mail.body.length + 1 ∧ (Am s l).1.1.mail.to = s.mail.to := by
 unfold Am
 repeat' split
 all_goals refine ⟨?_, rfl⟩
 all_goals first | (show (s.mail.body ++ [_]).length ≤ _; rw [List.length_append]; exact Nat.le_refl _) | (show s.mail.body.length ≤ _; omega)
def mW : Ct := An (lc IZ.ag (lc Za.ag (lc A0 l0))) (fun p => p.1.name.size ≤ 1000000 ∧ p.2.1.mail.to.length ≤ 1000 ∧ p.2.1.mail.body.length ≤ 1000 ∧ p.2.2.1.size ≤ 2000000) (fun p => .tup [.agg ((Ed (Bo p.1 p.2.1 p.2.2.1).1.1).map .t), .t (.v (.string (Bo p.1 p.2.1 p.2.2.1).1.2)), .t (.sl 4 ((Bo p.1 p.2.1 p.2.2.1).2.map DE))])
section
attribute [local go_sem] mZ ma Mm QI AS.opn AS.cls AS.nilb AS.renb AS.up Bool.not_false Bool.not_true List.set_set List.set_cons_zero List.set_cons_succ List.set_nil List.mem_singleton forall_eq tn List.map_nil List.nil_append
set_option maxHeartbeats 3200000 in
theorem eI {G : Gt} (hG : Aj G) (hh : G.e 254 = AA 1 mZ ∧ G.e 255 = AA 1 ma ∧ G.e 222 = AA 0 Mm ∧ G.e 250 = AA 1 QI) : Gd G 251 (AA 1 mW) := by
 refine gr (fn := Tryz.f251) (n := 3) rfl hG ?_
 rintro ⟨c, s, l, ⟨⟩⟩ hpre
 obtain ⟨hn, ht, hb, hz⟩ := hpre
 try dsimp only at hn ht hb hz ⊢
 obtain ⟨z1, z2⟩ := nU s l
 have z3 : (Am s l).1.1.mail.to.length ≤ 1000 := by rw [z2]; exact ht
 refine BQ (s.state = 5) (fun h0 => have h0' := decide_eq_true h0; have e_ : Bo c s l = _ := rZ h0; have h1' := tv; have h2 := tv; have h3 := tv; have h3' := tv; ?_) (fun h0 => have h0' := decide_eq_false h0; BQ (s.state = 4) (fun h1 => have h1' := decide_eq_true h1; BQ ((Am s l).1.2 = ⟨#[]⟩) (fun h2 => have e_ : Bo c s l = _ := ra h0 h1 h2; have h3 := tv; have h3' := tv; ?_) (fun h2 => BQ ((Am s l).2 = true) (fun h3 => have e_ : Bo c s l = _ := rb h0 h1 h2 h3; have h3' := tv; ?_) (fun h3 => have h3' := (Bool.not_eq_true _).mp h3; have e_ : Bo c s l = _ := rc h0 h1 h2 h3; have h3 := tv; ?_))) (fun h1 => have h1' := decide_eq_false h1; have e_ : Bo c s l = _ := rd h0 h1; have h2 := tv; have h3 := tv; have h3' := tv; ?_))
 all_goals
  try rw [e_]
  simp -implicitDefEqProofs only [Tryz.f251, h0', h1', h2, h3, h3', eq_self, decide_true, decide_false, Int.reduceEq, go_sem, hh, seval]
  with_reducible repeat' (first | apply ai | intro _ | ((first | apply s1 | apply s3 | apply s4) <;> intro hb <;> simp -implicitDefEqProofs only [hb, go_sem, hh, seval] <;> try simp only [qz] at hb))
  all_goals (try simp only [maxLen, tn, lm] at *)
  all_goals first | rfl | omega | decide | with_reducible assumption | (show AT _ = true; rfl) | exact HX (by assumption) | contradiction | skip
end
def N5 (s : Ss) : Prop := s.mail.to.length ≤ 4 ∧ s.mail.body.length ≤ 12 ∧ FM s.mail.frm ∧ (∀ a ∈ s.mail.to, FM a) ∧ ∀ l ∈ s.mail.body, Bl l
def gm (m : Ml) : Prop := Ji m ∧ m.to.length ≤ 4 ∧ m.body.length ≤ 12
theorem kC {s : Ss} (h : N5 s) : gm s.mail := ⟨⟨h.2.2.1, ⟨by have := h.1; omega, h.2.2.2.1⟩, ⟨by have := h.2.1; omega, h.2.2.2.2⟩⟩, h.1, h.2.1⟩
theorem sr : FM ⟨⟨#[]⟩, ⟨#[]⟩⟩ := By (.inr ⟨rfl, rfl⟩)
theorem SI (t : ByteArray) : FM (BK t) := by
 by_cases h : GI t
 ·exact By (JX h).1
 ·rw [M4 h]; exact sr
theorem Fo (s : Ss) : N5 (FT s) := ⟨by show 0 ≤ 4; omega, by show 0 ≤ 12; omega, sr, fun _ h => (by cases h), fun _ h => (by cases h)⟩
theorem b6 {s : Ss} (t : ByteArray) (h : N5 s) : N5 (Ee s t).1 ∧ (Ee s t).2.size ≤ 20 := by
 unfold Ee
 repeat' split
 all_goals first
  | exact ⟨h, Nat.le_of_ble_eq_true rfl⟩
  | exact ⟨⟨by show 0 ≤ 4; omega, by show 0 ≤ 12; omega, SI t, fun _ h => (by cases h), fun _ h => (by cases h)⟩, Nat.le_of_ble_eq_true rfl⟩
theorem rl {s : Ss} (c : Cf) (t : ByteArray) (h : N5 s) : N5 (Ho c s t).1 ∧ (Ho c s t).2.size ≤ 20 := by
 unfold Ho
 repeat' split
 all_goals first
  | exact ⟨h, Nat.le_of_ble_eq_true rfl⟩
  | skip
 refine ⟨⟨?_, h.2.1, h.2.2.1, fun a ha => ?_, h.2.2.2.2⟩, Nat.le_of_ble_eq_true rfl⟩
 ·show (s.mail.to ++ [BK t]).length ≤ 4
  rw [List.length_append]
  show s.mail.to.length + 1 ≤ 4
  omega
 ·rcases List.mem_append.1 ha with ha | ha
  ·exact h.2.2.2.1 a ha
  ·rw [List.mem_singleton] at ha; subst ha; exact SI t
theorem bH {s : Ss} (c : Cf) (l : ByteArray) (h : N5 s) : N5 (Bb c s l).1 ∧ (Bb c s l).2.size ≤ c.name.size + 20 := by
 have q := b6 (s := s) (As l ⟨#[77, 65, 73, 76, 32, 70, 82, 79, 77, 58]⟩).1 h
 have q2 := rl (s := s) c (As l ⟨#[82, 67, 80, 84, 32, 84, 79, 58]⟩).1 h
 unfold Bb
 repeat' split
 all_goals first
  | exact ⟨h, by show (ByteArray.size ⟨_⟩) ≤ _; exact Nat.le_trans (Nat.le_of_ble_eq_true rfl : _ ≤ 20) (Nat.le_add_left _ _)⟩
  | exact ⟨Fo _, by show (ByteArray.size ⟨_⟩) ≤ _; exact Nat.le_trans (Nat.le_of_ble_eq_true rfl : _ ≤ 20) (Nat.le_add_left _ _)⟩
  | exact ⟨q.1, Nat.le_trans q.2 (Nat.le_add_left _ _)⟩
  | exact ⟨q2.1, Nat.le_trans q2.2 (Nat.le_add_left _ _)⟩
  | exact ⟨Fo _, by show (⟨#[50, 53, 48, 32]⟩ ++ c.name).size ≤ _; rw [ByteArray.size_append]; have : (⟨#[50, 53, 48, 32]⟩ : ByteArray).size = 4 := rfl; omega⟩
theorem bO {s : Ss} {l : ByteArray} (h : N5 s) (hl : Bl l) : N5 (Am s l).1.1 ∧ (Am s l).1.2.size ≤ 20 := by
 have he : Bl (l.extract 1 l.size) := by have : l.size ≤ 1048576 := hl; show (l.extract 1 l.size).size ≤ 1048576; rw [ByteArray.size_extract]; omega
 have app : ∀ x, Bl x → ¬ ((s.mail.body.length : Int) ≥ 12) → N5 ⟨s.state, ⟨s.mail.frm, s.mail.to, s.mail.body ++ [x]⟩, s.bad, s.buf⟩ := fun x hx hn => ⟨h.1, by show (s.mail.body ++ [x]).length ≤ 12; rw [List.length_append]; show s.mail.body.length + 1 ≤ 12; omega, h.2.2.1, h.2.2.2.1, fun y hy => by
  rcases List.mem_append.1 hy with hy | hy
  ·exact h.2.2.2.2 y hy
  ·rw [List.mem_singleton] at hy; subst hy; exact hx⟩
 unfold Am
 repeat' split
 all_goals first
  | exact ⟨h, Nat.le_of_ble_eq_true rfl⟩
  | exact ⟨app _ hl (by assumption), Nat.le_of_ble_eq_true rfl⟩
  | exact ⟨app _ he (by assumption), Nat.le_of_ble_eq_true rfl⟩
theorem Sy {s : Ss} {l : ByteArray} (c : Cf) (h : N5 s) (hl : Bl l) : N5 (Bo c s l).1.1 ∧ (Bo c s l).1.2.size ≤ c.name.size + 20 ∧ (Bo c s l).2.length ≤ 1 ∧ ∀ m ∈ (Bo c s l).2, gm m := by
 have q := bO h hl
 have q2 := bH c l h
 unfold Bo
 repeat' split
 ·exact ⟨h, Nat.zero_le _, Nat.zero_le _, fun _ z => by cases z⟩
 ·exact ⟨q.1, Nat.le_trans q.2 (Nat.le_add_left _ _), Nat.zero_le _, fun _ z => by cases z⟩
 ·exact ⟨Fo _, Nat.le_trans q.2 (Nat.le_add_left _ _), Nat.le_refl _, fun m hm => by rw [List.mem_singleton] at hm; subst hm; exact kC q.1⟩
 ·exact ⟨Fo _, Nat.le_trans q.2 (Nat.le_add_left _ _), Nat.zero_le _, fun _ z => by cases z⟩
 ·exact ⟨q2.1, q2.2, Nat.zero_le _, fun _ z => by cases z⟩
abbrev Fm := Ss × List ByteArray × List Ml
noncomputable def bt (c : Cf) (x : Fm) (l : ByteArray) : Fm := ((Bo c x.1 l).1.1, if (Bo c x.1 l).1.2 = ⟨#[]⟩ then x.2.1 else x.2.1 ++ [(Bo c x.1 l).1.2], x.2.2 ++ (Bo c x.1 l).2)
def Y0 (x : Fm) : Fm := (FT ⟨5, x.1.mail, x.1.bad, x.1.buf⟩, x.2.1 ++ [⟨#[53, 48, 48, 32, 108, 111, 110, 103]⟩], x.2.2)
noncomputable def M1 (c : Cf) : List ByteArray → Fm → Fm × Bool
 | [], x => (x, false)
 | l :: r, x => if x.1.state = 5 then (x, false) else if (l.size : Int) > 78 then (Y0 x, true) else M1 c r (bt c x l)
noncomputable def Wr (y : Fm × Bool) (lf : ByteArray) : Fm := if y.2 = true then y.1 else if y.1.1.state = 5 then y.1 else if (lf.size : Int) > 80 then Y0 y.1 else (⟨y.1.1.state, y.1.1.mail, y.1.1.bad, lf⟩, y.1.2.1, y.1.2.2)
noncomputable def Bv (c : Cf) (s : Ss) (t : ByteArray) : Fm := Wr (M1 c (No (s.buf ++ t)) (⟨s.state, s.mail, s.bad, ⟨#[]⟩⟩, [], [])) (qO (s.buf ++ t))
theorem t5 {c : Cf} {L : List ByteArray} {x : Fm} (h : x.1.state = 5) : M1 c L x = (x, false) := by
 cases L with
 | nil => rfl
 | cons l r => rw [M1, if_pos h]
theorem tx {c : Cf} {L : List ByteArray} {i : Nat} {x : Fm} (hi : i < L.length) (h : ¬ x.1.state = 5) (hl : ((L.getD i default).size : Int) > 78) : M1 c (L.drop i) x = (Y0 x, true) := by
 rw [Ac hi, M1, if_neg h, if_pos hl]
theorem tz {c : Cf} {L : List ByteArray} {i : Nat} {x : Fm} (hi : i < L.length) (h : ¬ x.1.state = 5) (hl : ¬ ((L.getD i default).size : Int) > 78) : M1 c (L.drop i) x = M1 c (L.drop (i + 1)) (bt c x (L.getD i default)) := by
 rw [Ac hi, M1, if_neg h, if_neg hl]
theorem ip {c : Cf} {L : List ByteArray} {i : Nat} {x : Fm} (hi : L.length ≤ i) : M1 c (L.drop i) x = (x, false) := by
 rw [List.drop_of_length_le hi]; rfl
theorem tr {y : Fm × Bool} {x : Fm} {lf : ByteArray} (h : (x, true) = y) : Wr y lf = x := by subst h; exact if_pos rfl
theorem tt {y : Fm × Bool} {x : Fm} {lf : ByteArray} (h : (x, false) = y) (h5 : x.1.state = 5) : Wr y lf = x := by
 subst h; unfold Wr; rw [if_neg (show ¬ (x, false).2 = true from Bool.false_ne_true), if_pos h5]
theorem tu {y : Fm × Bool} {x : Fm} {lf : ByteArray} (h : (x, false) = y) (h5 : ¬ x.1.state = 5) (hl : (lf.size : Int) > 80) : Wr y lf = Y0 x := by
 subst h; unfold Wr; rw [if_neg (show ¬ (x, false).2 = true from Bool.false_ne_true), if_neg h5, if_pos hl]
theorem tw {y : Fm × Bool} {x : Fm} {lf : ByteArray} (h : (x, false) = y) (h5 : ¬ x.1.state = 5) (hl : ¬ (lf.size : Int) > 80) : Wr y lf = (⟨x.1.state, x.1.mail, x.1.bad, lf⟩, x.2.1, x.2.2) := by
 subst h; unfold Wr; rw [if_neg (show ¬ (x, false).2 = true from Bool.false_ne_true), if_neg h5, if_neg hl]
theorem iu {c : Cf} {x : Fm} {l : ByteArray} (h : (Bo c x.1 l).1.2 = ⟨#[]⟩) : bt c x l = ((Bo c x.1 l).1.1, x.2.1, x.2.2 ++ (Bo c x.1 l).2) := by unfold bt; rw [if_pos h]
theorem it {c : Cf} {x : Fm} {l : ByteArray} (h : ¬ (Bo c x.1 l).1.2 = ⟨#[]⟩) : bt c x l = ((Bo c x.1 l).1.1, x.2.1 ++ [(Bo c x.1 l).1.2], x.2.2 ++ (Bo c x.1 l).2) := by unfold bt; rw [if_neg h]
def Yx (c : Cf) (n : Nat) (x : Fm) : Prop := N5 x.1 ∧ x.2.1.length ≤ n ∧ x.2.2.length ≤ n ∧ (∀ r ∈ x.2.1, r.size ≤ c.name.size + 20) ∧ ∀ m ∈ x.2.2, gm m
theorem Wu {c : Cf} {n : Nat} {x : Fm} {l : ByteArray} (h : Yx c n x) (hl : Bl l) : Yx c (n + 1) (bt c x l) := by
 obtain ⟨h1, h2, h3, h4, h5⟩ := h
 obtain ⟨q1, q2, q3, q4⟩ := Sy c h1 hl
 have hm : ∀ m ∈ x.2.2 ++ (Bo c x.1 l).2, gm m := fun m hm => (List.mem_append.1 hm).elim (h5 m) (q4 m)
 by_cases e : (Bo c x.1 l).1.2 = ⟨#[]⟩
 ·rw [iu e]
  exact ⟨q1, by show x.2.1.length ≤ _; omega, by show (x.2.2 ++ _).length ≤ _; rw [List.length_append]; omega, h4, hm⟩
 ·rw [it e]
  refine ⟨q1, by show (x.2.1 ++ [_]).length ≤ _; rw [List.length_append]; show x.2.1.length + 1 ≤ _; omega, by show (x.2.2 ++ _).length ≤ _; rw [List.length_append]; omega, fun r hr => ?_, hm⟩
  rcases List.mem_append.1 hr with hr | hr
  ·exact h4 r hr
  ·rw [List.mem_singleton] at hr; subst hr; exact q2
theorem Wt {c : Cf} {n : Nat} {x : Fm} (h : Yx c n x) : Yx c (n + 1) (Y0 x) := by
 obtain ⟨h1, h2, h3, h4, h5⟩ := h
 refine ⟨Fo _, by show (x.2.1 ++ [_]).length ≤ _; rw [List.length_append]; show x.2.1.length + 1 ≤ _; omega, by show x.2.2.length ≤ _; omega, fun r hr => ?_, h5⟩
 rcases List.mem_append.1 hr with hr | hr
 ·exact h4 r hr
 ·rw [List.mem_singleton] at hr; subst hr; exact Nat.le_trans (Nat.le_of_ble_eq_true rfl : _ ≤ 20) (Nat.le_add_left _ _)
theorem EQ {c : Cf} {n m : Nat} {x : Fm} (h : Yx c n x) (hn : n ≤ m) : Yx c m x := ⟨h.1, by have := h.2.1; omega, by have := h.2.2.1; omega, h.2.2.2⟩
theorem Ws {c : Cf} : ∀ (L : List ByteArray) {n : Nat} {x : Fm}, Yx c n x → (∀ l ∈ L, Bl l) → Yx c (n + L.length) (M1 c L x).1
 | [], n, x, h, _ => h
 | l :: r, n, x, h, hl => by
   rw [M1]
   split
   ·exact EQ h (Nat.le_add_right _ _)
   ·split
    ·exact EQ (Wt h) (by rw [List.length_cons]; omega)
    ·exact EQ (Ws r (Wu h (hl l (List.mem_cons_self ..))) fun y hy => hl y (List.mem_cons_of_mem _ hy)) (by rw [List.length_cons]; omega)
theorem Wv {c : Cf} {s : Ss} {t : ByteArray} (h : N5 s) (hb : s.buf.size + t.size ≤ 1000000) : Yx c (s.buf.size + t.size + 1) (Bv c s t) := by
 obtain ⟨q1, q2, q3⟩ := jA (s.buf ++ t)
 rw [ByteArray.size_append] at q1 q2 q3
 have q := Ws (c := c) (No (s.buf ++ t)) (n := 0) (x := (⟨s.state, s.mail, s.bad, ⟨#[]⟩⟩, [], [])) ⟨h, Nat.le_refl _, Nat.le_refl _, fun _ z => (by cases z), fun _ z => (by cases z)⟩ (fun l hl => by have := q2 l hl; show l.size ≤ 1048576; omega)
 have q' := EQ q (show 0 + (No (s.buf ++ t)).length ≤ s.buf.size + t.size by omega)
 unfold Bv Wr
 split
 ·exact EQ q' (by omega)
 ·split
  ·exact EQ q' (by omega)
  ·split
   ·exact Wt q'
   ·exact ⟨q'.1, Nat.le_succ_of_le q'.2.1, Nat.le_succ_of_le q'.2.2.1, q'.2.2.2⟩
def mL : Ct := An (lc IZ.ag (lc Za.ag (lc A0 l0))) (fun p => p.1.name.size ≤ 1000000 ∧ N5 p.2.1 ∧ p.2.1.buf.size + p.2.2.1.size ≤ 1000000) (fun p => .tup [.agg ((Ed (Bv p.1 p.2.1 p.2.2.1).1).map .t), .t (.sl 1 ((Bv p.1 p.2.1 p.2.2.1).2.1.map AH)), .t (.sl 4 ((Bv p.1 p.2.1 p.2.2.1).2.2.map DE))])
section
attribute [local go_sem] mV QI mW Ab lm List.length_append List.map_append AS.opn AS.cls AS.nilb AS.renb AS.up Bool.not_false Bool.not_true List.set_set List.set_cons_zero List.set_cons_succ List.set_nil List.mem_singleton forall_eq tn List.map_nil List.nil_append
set_option maxHeartbeats 6400000 in
theorem d5 {G : Gt} (hG : Aj G) (hh : G.e 249 = AA 0 mV ∧ G.e 250 = AA 1 QI ∧ G.e 251 = AA 1 mW) : Gd G 238 (AA 1 mL) := by
 refine LQ (dp := fun n => !(Nat.beq n 18 || Nat.beq n 72)) (fn := Tryz.f238) (n := 3) rfl hG ?_
 rintro ⟨c, s, t, ⟨⟩⟩ hpre
 obtain ⟨hn, hs, hz⟩ := hpre
 try dsimp only at hn hs hz ⊢
 obtain ⟨q1, q2, q3⟩ := jA (s.buf ++ t)
 rw [ByteArray.size_append] at q1 q2 q3
 have q2' : ∀ i, i < (No (s.buf ++ t)).length → Bl ((No (s.buf ++ t)).getD i default) := fun i hi => by have := q2 _ (AE hi); show ByteArray.size _ ≤ 1048576; omega
 simp -implicitDefEqProofs only [Tryz.f238, go_sem, hh, seval]
 with_reducible repeat' (first | apply ai | intro _ | ((first | apply s1 | apply s3 | apply s4) <;> intro hb <;> simp -implicitDefEqProofs only [hb, go_sem, hh, seval] <;> try simp only [qz] at hb))
 all_goals (try simp only [maxLen, tn, ByteArray.size_append] at *)
 all_goals first | with_reducible rfl | omega | with_reducible assumption | decide | (simp only [List.mem_cons, List.mem_singleton, List.not_mem_nil] at *; omega) | skip
 refine AF [(9, 901, true, 1), (10, 902, false, 4)] (ι := {p : Nat × Fm // p.1 ≤ (No (s.buf ++ t)).length ∧ Yx c p.1 p.2 ∧ M1 c ((No (s.buf ++ t)).drop p.1) p.2 = M1 c (No (s.buf ++ t)) (⟨s.state, s.mail, s.bad, ⟨#[]⟩⟩, [], [])}) (fun p => ⟨[(3, .pb 1003 0), (4, .pb 1004 0), (6, .pb 1006 0), (9, .h 901), (10, .h 902), (11, .h 1024), (12, .t (.v (.string (qO (s.buf ++ t))))), (13, .t (.v (.int .i64 p.1.1)))], [(1003, some (.box ((Cr c).map .t))), (1004, some (.box ((Ed p.1.2.1).map .t))), (1006, some (.box [.t (.v (.int .i64 0)), .t (.v (.string ⟨#[]⟩)), .t (.v (.string ⟨#[]⟩)), .nil, .nil, .t (.v (.bool false)), .t (.v (.string ⟨#[]⟩))])), (901, some (.arr true 1 (p.1.2.2.1.map AH))), (902, some (.arr false 4 (p.1.2.2.2.map DE))), (1024, some (.arr true 1 ((No (s.buf ++ t)).map AH)))]⟩) (fun p => (No (s.buf ++ t)).length - p.1.1) ⟨(0, (⟨s.state, s.mail, s.bad, ⟨#[]⟩⟩, [], [])), Nat.zero_le _, ⟨hs, Nat.le_refl _, Nat.le_refl _, fun _ z => (by cases z), fun _ z => (by cases z)⟩, rfl⟩ rfl ?_ ?_
 ·simp -implicitDefEqProofs only [go_sem, hh, seval]
  try simp
 ·rintro ⟨⟨i, x⟩, hi, hx, hv⟩
  obtain ⟨x1, x2, x3⟩ := x
  dsimp only at hi hx hv
  have hb1 := hx.1.1
  have hb2 := hx.1.2.1
  have hb3 := hx.2.1
  have hb4 := hx.2.2.1
  dsimp only at hb1 hb2 hb3 hb4
  simp -implicitDefEqProofs only [go_sem, hh, seval]
  with_reducible repeat' (first | apply ai | intro _ | ((first | apply s1 | apply s3 | apply s4) <;> intro hb <;> simp -implicitDefEqProofs only [hb, go_sem, hh, seval] <;> try simp only [qz] at hb))
  all_goals (try simp only [maxLen, tn] at *)
  all_goals first
   | with_reducible rfl
   | omega
   | (show _ = true; rfl)
   | with_reducible assumption
   | (rw [show Bv c s t = _ from tt ((t5 (by with_reducible assumption)).symm.trans hv) (by with_reducible assumption)]; first | done | rfl | (simp [Y0, AH]; done))
   | (rw [show Bv c s t = _ from tr ((tx (by omega) (by with_reducible assumption) (by with_reducible assumption)).symm.trans hv)]; first | done | rfl | (simp [Y0, AH]; done))
   | (rw [show Bv c s t = _ from tu ((ip (by omega)).symm.trans hv) (by with_reducible assumption) (by with_reducible assumption)]; first | done | rfl | (simp [Y0, AH]; done))
   | (rw [show Bv c s t = _ from tw ((ip (by omega)).symm.trans hv) (by with_reducible assumption) (by with_reducible assumption)]; first | done | rfl | (simp [Y0, AH]; done))
   | exact hx.1
   | exact Nat.le_trans (q2' i (by omega)) (by decide)
   | (refine ⟨⟨(i + 1, bt c (x1, x2, x3) ((No (s.buf ++ t)).getD i default)), by omega, Wu hx (q2' i (by omega)), (tz (by omega) (by with_reducible assumption) (by with_reducible assumption)).symm.trans hv⟩, by dsimp only; omega, ?_⟩
      simp -implicitDefEqProofs only [go_sem, hh, seval]
      first
       | (have ee := iu (c := c) (x := (x1, x2, x3)) (by with_reducible assumption); simp only [ee]; simp [AH]; done)
       | (have ee := it (c := c) (x := (x1, x2, x3)) (by with_reducible assumption); simp only [ee]; simp [AH]; done))
   | (have q := (Sy (s := x1) c hx.1 (q2' i (by omega))).2.2.1; omega)
   | skip
end
def OZ (x : ByteArray) : ByteArray := if ¬ x = ⟨#[]⟩ ∧ AC x 0 = 46 then ⟨#[46]⟩ ++ x else x
theorem n6 {x : ByteArray} (h : ¬ x = ⟨#[]⟩) (h2 : AC x 0 = 46) : OZ x = ⟨#[46]⟩ ++ x := if_pos ⟨h, h2⟩
theorem n5 {x : ByteArray} (h : ¬ x = ⟨#[]⟩) (h2 : ¬ AC x 0 = 46) : OZ x = x := if_neg fun q => h2 q.2
theorem nz {x : ByteArray} (h : x = ⟨#[]⟩) : OZ x = x := if_neg fun q => q.1 h
theorem WL (x : ByteArray) : (OZ x).size ≤ x.size + 1 := by
 unfold OZ
 split
 ·rw [ByteArray.size_append]; have : (⟨#[46]⟩ : ByteArray).size = 1 := rfl; omega
 ·omega
def KC : List ByteArray → ByteArray → ByteArray
 | [], o => o
 | x :: r, o => KC r (o ++ OZ x ++ ⟨#[13, 10]⟩)
def Tv (l : List ByteArray) : ByteArray := KC l ⟨#[]⟩ ++ ⟨#[46, 13, 10]⟩
theorem n8 {L : List ByteArray} {i : Nat} {o : ByteArray} (h : i < L.length) : KC (L.drop i) o = KC (L.drop (i + 1)) (o ++ OZ (L.getD i default) ++ ⟨#[13, 10]⟩) := by rw [Ac h, KC]
theorem n7 {L : List ByteArray} {i : Nat} {o : ByteArray} (h : L.length ≤ i) : KC (L.drop i) o = o := by rw [List.drop_of_length_le h, KC]
theorem Mp : (⟨#[13, 10]⟩ : ByteArray).size = 2 := rfl
theorem iK : (⟨#[46, 13, 10]⟩ : ByteArray).size = 3 := rfl
theorem WM : ∀ (L : List ByteArray) (o : ByteArray) (B : Nat), (∀ x ∈ L, x.size ≤ B) → (KC L o).size ≤ o.size + L.length * (B + 3)
 | [], o, B, _ => by show o.size ≤ _; omega
 | x :: r, o, B, h => by
   have h1 := h x (List.mem_cons_self ..)
   have h2 := WL x
   have q := WM r (o ++ OZ x ++ ⟨#[13, 10]⟩) B (fun y hy => h y (List.mem_cons_of_mem _ hy))
   rw [ByteArray.size_append, ByteArray.size_append, Mp] at q
   rw [KC, List.length_cons, Nat.add_mul]
   omega
def mS : Ct := An (lc Al.asl l0) (fun p => p.1.length ≤ 1000 ∧ ∀ x ∈ p.1, x.size ≤ 2000000) (fun p => .t (.v (.string (Tv p.1))))
section
attribute [local go_sem] lm Int.toNat_zero
set_option maxHeartbeats 1600000 in
theorem eD {G : Gt} (hG : Aj G) : Gd G 246 (AA 0 mS) := by
 refine gr (fn := Tryz.f246) (n := 1) rfl hG ?_
 rintro ⟨xs, ⟨⟩⟩ hpre
 simp -implicitDefEqProofs only [Tryz.f246, go_sem, seval] at hpre ⊢
 obtain ⟨hl, hx⟩ := hpre
 try dsimp only at hl hx
 refine AF [] (ι := {p : Nat × ByteArray // p.1 ≤ xs.length ∧ p.2.size ≤ p.1 * 2000003 ∧ KC (xs.drop p.1) p.2 = KC xs ⟨#[]⟩}) (fun p => ⟨[(0, .t (.sl 1 (xs.map AH))), (3, .t (.v (.string p.1.2))), (4, .t (.v (.int .i64 p.1.1)))], []⟩) (fun p => xs.length - p.1.1) ⟨(0, ⟨#[]⟩), Nat.zero_le _, Nat.zero_le _, rfl⟩ rfl ?_ ?_
 ·simp -implicitDefEqProofs only [go_sem, seval]
  try simp
 ·rintro ⟨⟨i, out⟩, hi, ho, hv⟩
  dsimp only at hi ho hv
  have hd : ∀ h : i < xs.length, (xs.getD i default).size ≤ 2000000 := fun h => hx _ (AE h)
  have hd1 := WL (xs.getD i default)
  simp -implicitDefEqProofs only [go_sem, seval]
  with_reducible repeat' (first | apply ai | intro _ | ((first | apply s1 | apply s3 | apply s4) <;> intro hb <;> simp -implicitDefEqProofs only [hb, go_sem, seval] <;> try simp only [qz] at hb))
  all_goals (try simp only [maxLen, tn, ByteArray.size_append, Mp, iK] at *)
  all_goals first
   | with_reducible rfl
   | omega
   | exact HX (by assumption)
   | (have := hd (by omega); have e : (#[46] : Array UInt8).size = 1 := rfl; have e2 : (#[13, 10] : Array UInt8).size = 2 := rfl; have e3 : (#[46, 13, 10] : Array UInt8).size = 3 := rfl; omega)
   | (have e3 : (#[46, 13, 10] : Array UInt8).size = 3 := rfl; omega)
   | (rw [n7 (by omega)] at hv; unfold Tv; rw [← hv]; done)
   | (rw [n8 (by omega)] at hv
      refine ⟨⟨(i + 1, _), by dsimp only; omega, ?_, hv⟩, by dsimp only; omega, ?_⟩
      ·have := hd (by omega)
       dsimp only
       rw [ByteArray.size_append, ByteArray.size_append, Mp]
       omega
      ·simp -implicitDefEqProofs only [go_sem, seval]
       first
        | (rw [n6 (by assumption) (by assumption)]; simp; done)
        | (rw [n5 (by assumption) (by assumption)]; simp; done)
        | (rw [nz (by assumption)]; simp; done))
   | skip
end
theorem zG : (3 : Int).toNat = 3 := rfl
open Classical in
noncomputable def BJ (s : ByteArray) : Int := (if (s.size : Int) < 4 then 0 else (if AC s 3 = 32 then (if AC s 0 < 50 then 0 else (if AC s 0 > 53 then 0 else (if O3 (s.extract 0 3) < 200 then 0 else O3 (s.extract 0 3)))) else 0))
theorem nD {s : ByteArray} (h0 : (s.size : Int) < 4) : BJ s = 0 := by unfold BJ; rw [if_pos h0]
theorem nE {s : ByteArray} (h0 : ¬ ((s.size : Int) < 4)) (h1 : AC s 3 = 32) (h2 : AC s 0 < 50) : BJ s = 0 := by unfold BJ; rw [if_neg h0, if_pos h1, if_pos h2]
theorem nF {s : ByteArray} (h0 : ¬ ((s.size : Int) < 4)) (h1 : AC s 3 = 32) (h2 : ¬ (AC s 0 < 50)) (h3 : AC s 0 > 53) : BJ s = 0 := by unfold BJ; rw [if_neg h0, if_pos h1, if_neg h2, if_pos h3]
theorem nG {s : ByteArray} (h0 : ¬ ((s.size : Int) < 4)) (h1 : AC s 3 = 32) (h2 : ¬ (AC s 0 < 50)) (h3 : ¬ (AC s 0 > 53)) (h4 : O3 (s.extract 0 3) < 200) : BJ s = 0 := by unfold BJ; rw [if_neg h0, if_pos h1, if_neg h2, if_neg h3, if_pos h4]
theorem nH {s : ByteArray} (h0 : ¬ ((s.size : Int) < 4)) (h1 : AC s 3 = 32) (h2 : ¬ (AC s 0 < 50)) (h3 : ¬ (AC s 0 > 53)) (h4 : ¬ (O3 (s.extract 0 3) < 200)) : BJ s = O3 (s.extract 0 3) := by unfold BJ; rw [if_neg h0, if_pos h1, if_neg h2, if_neg h3, if_neg h4]
theorem nI {s : ByteArray} (h0 : ¬ ((s.size : Int) < 4)) (h1 : ¬ (AC s 3 = 32)) : BJ s = 0 := by unfold BJ; rw [if_neg h0, if_neg h1]
theorem tm (s : ByteArray) : (s.extract 0 3).size ≤ 3 := by rw [ByteArray.size_extract]; omega
def mQ : Ct := An (lc A0 l0) (fun p => True) (fun p => .t (.v (.int .i64 (BJ p.1))))
section
attribute [local go_sem] mX Int.toNat_zero zG
theorem eA {G : Gt} (hG : Aj G) (hh : G.e 252 = AA 0 mX) : Gd G 243 (AA 0 mQ) := by
 refine gr (fn := Tryz.f243) (n := 1) rfl hG ?_
 rintro ⟨s, ⟨⟩⟩ hpre
 try dsimp only
 have hz := tm s
 refine BQ ((s.size : Int) < 4) (fun h0 => have e_ : BJ s = _ := nD h0; have h1 := tv; have h2 := tv; have h3 := tv; have h4 := tv; ?_) (fun h0 => BQ (AC s 3 = 32) (fun h1 => BQ (AC s 0 < 50) (fun h2 => have e_ : BJ s = _ := nE h0 h1 h2; have h3 := tv; have h4 := tv; ?_) (fun h2 => BQ (AC s 0 > 53) (fun h3 => have e_ : BJ s = _ := nF h0 h1 h2 h3; have h4 := tv; ?_) (fun h3 => BQ (O3 (s.extract 0 3) < 200) (fun h4 => have e_ : BJ s = _ := nG h0 h1 h2 h3 h4; ?_) (fun h4 => have e_ : BJ s = _ := nH h0 h1 h2 h3 h4; ?_)))) (fun h1 => have e_ : BJ s = _ := nI h0 h1; have h2 := tv; have h3 := tv; have h4 := tv; ?_))
 all_goals
  try rw [e_]
  simp -implicitDefEqProofs only [Tryz.f243, h0, h1, h2, h3, h4, eq_self, decide_true, decide_false, Int.reduceEq, go_sem, hh, seval]
  with_reducible repeat' (first | apply ai | intro _ | ((first | apply s1 | apply s3 | apply s4) <;> intro hb <;> simp -implicitDefEqProofs only [hb, go_sem, hh, seval] <;> try simp only [qz] at hb))
  all_goals (try simp only [maxLen, tn, lm] at *)
  all_goals first | rfl | omega | decide | with_reducible assumption | (show AT _ = true; rfl) | exact HX (by assumption) | contradiction | skip
end
def fH (n : ByteArray) (m : Ml) : Cl := ⟨n, m, 0, 0, List.replicate m.to.length 0⟩
def mJ : Ct := An (lc A0 (lc Um.ag l0)) (fun p => p.2.1.to.length ≤ 1000 ∧ p.2.1.body.length ≤ 1000) (fun p => .agg ((Dj (fH p.1 p.2.1)).map .t))
section
attribute [local go_sem] Mm lm AS.opn AS.cls AS.nilb AS.renb AS.up Bool.not_false Bool.not_true List.set_set List.set_cons_zero List.set_cons_succ List.set_nil List.mem_singleton forall_eq tn List.map_nil List.nil_append
theorem dz {G : Gt} (hG : Aj G) (hh : G.e 222 = AA 0 Mm) : Gd G 236 (AA 1 mJ) := by
 refine gr (fn := Tryz.f236) (n := 2) rfl hG ?_
 rintro ⟨n, m, ⟨⟩⟩ hpre
 simp -implicitDefEqProofs only [Tryz.f236, go_sem, hh, seval] at hpre ⊢
 obtain ⟨h1, h2⟩ := hpre
 try dsimp only at h1 h2 ⊢
 with_reducible repeat' (first | apply ai | intro _ | ((first | apply s1 | apply s3 | apply s4) <;> intro hb <;> simp -implicitDefEqProofs only [hb, go_sem, hh, seval] <;> try simp only [qz] at hb))
 all_goals (try simp only [maxLen, tn] at *)
 all_goals first | rfl | omega | decide | with_reducible assumption | (show AT _ = true; rfl) | exact HX (by assumption) | contradiction | (simp [fH, BB]; done) | skip
end
def NE (f : Int → Int) (xs : List Int) (i : Nat) : List Int := (xs.take i).map f ++ xs.drop i
theorem jE (f : Int → Int) (xs : List Int) : NE f xs 0 = xs := rfl
theorem jF {f : Int → Int} {xs : List Int} {i : Nat} (h : xs.length ≤ i) : NE f xs i = xs.map f := by
 unfold NE; rw [List.take_of_length_le h, List.drop_of_length_le h, List.append_nil]
theorem Sc (f : Int → Int) (xs : List Int) (i : Nat) : (NE f xs i).length = xs.length := by
 unfold NE; rw [List.length_append, lm, List.length_take, List.length_drop]; omega
theorem Sb {f : Int → Int} {xs : List Int} {i : Nat} (h : i < xs.length) : (NE f xs i).getD i default = xs.getD i default := by
 unfold NE
 rw [List.getD_eq_getElem?_getD, List.getElem?_append_right (by rw [lm, List.length_take]; omega), lm, List.length_take, Nat.min_eq_left (by omega), Nat.sub_self, List.getElem?_drop, Nat.add_zero, List.getD_eq_getElem?_getD]
theorem O0 {f : Int → Int} {xs : List Int} {i : Nat} (h : i < xs.length) : NE f xs (i + 1) = (xs.take i).map f ++ (f (xs.getD i default) :: xs.drop (i + 1)) := by
 unfold NE
 rw [List.take_add_one, List.getElem?_eq_getElem h, List.map_append, List.append_assoc]
 congr 1
 simp [h]
theorem Se {f : Int → Int} {xs : List Int} {i : Nat} {v : Int} (h : i < xs.length) (e : f (xs.getD i default) = v) : (NE f xs i).set i v = NE f xs (i + 1) := by
 rw [O0 h, e]
 unfold NE
 rw [List.set_append_right _ _ (by rw [lm, List.length_take]; omega), lm, List.length_take, Nat.min_eq_left (by omega), Nat.sub_self, Ac h]
 rfl
theorem Oz {f : Int → Int} {xs : List Int} {i : Nat} (h : i < xs.length) (e : f (xs.getD i default) = xs.getD i default) : NE f xs (i + 1) = NE f xs i := by
 rw [O0 h, e]
 unfold NE
 rw [Ac h]
def GK (k n : Int) : Int := if n = 0 ∨ n = 1 then k else n
def PJ (n : Int) : Int := if n = 1 then 2 else n
def wc (c : Cl) (k : Int) : Cl := ⟨c.name, c.mail, c.state, c.pos, c.outs.map (GK k)⟩
def xq (c : Cl) : Cl := ⟨c.name, c.mail, c.state, c.pos, c.outs.map PJ⟩
def mY : Ct := An (lc ZI.ag (lc A6 l0)) (fun p => p.1.outs.length ≤ 1000) (fun p => .agg ((Dj (wc p.1 p.2.1)).map .t))
section
attribute [local go_sem] lm Ab BR Nb AS.opn AS.cls AS.nilb AS.renb AS.up Bool.not_false Bool.not_true List.set_set List.set_cons_zero List.set_cons_succ List.set_nil List.mem_singleton forall_eq tn List.map_nil List.nil_append
set_option maxHeartbeats 1600000 in
theorem eK {G : Gt} (hG : Aj G) : Gd G 253 (AA 1 mY) := by
 refine gr (fn := Tryz.f253) (n := 2) rfl hG ?_
 rintro ⟨c, k, ⟨⟩⟩ hpre
 simp -implicitDefEqProofs only [Tryz.f253, go_sem, seval] at hpre ⊢
 have hl : c.outs.length ≤ 1000 := hpre
 with_reducible repeat' (first | apply ai | intro _ | ((first | apply s1 | apply s3 | apply s4) <;> intro hb <;> simp -implicitDefEqProofs only [hb, go_sem, seval] <;> try simp only [qz] at hb))
 all_goals (try simp only [maxLen, tn] at *)
 all_goals first | rfl | omega | decide | with_reducible assumption | (show AT _ = true; rfl) | exact HX (by assumption) | contradiction | skip
 refine AF [(5, 901, true, 1)] (ι := {i : Nat // i ≤ c.outs.length}) (fun p => ⟨[(1, .t (.v (.int .i64 k))), (2, .pb 1002 0), (4, .pb 1004 0), (5, .h 901), (6, .t (.v (.int .i64 p.1)))], [(1002, some (.box ((Dj c).map .t))), (1004, some (.box [.t (.v (.string ⟨#[]⟩)), .t (.v (.string ⟨#[]⟩)), .t (.v (.string ⟨#[]⟩)), .nil, .nil, .t (.v (.int .i64 0)), .t (.v (.int .i64 0)), .nil])), (901, some (.arr true 1 ((NE (GK k) c.outs p.1).map BB)))]⟩) (fun p => c.outs.length - p.1) ⟨0, Nat.zero_le _⟩ rfl ?_ ?_
 ·simp -implicitDefEqProofs only [go_sem, seval]
  simp [jE]
 ·rintro ⟨i, hi⟩
  dsimp only at hi ⊢
  have hln := Sc (GK k) c.outs i
  have hg : i < c.outs.length → (NE (GK k) c.outs i).getD i default = c.outs.getD i default := Sb
  simp -implicitDefEqProofs only [go_sem, seval]
  with_reducible repeat' (first | apply ai | intro _ | ((first | apply s1 | apply s3 | apply s4) <;> intro hb <;> simp -implicitDefEqProofs only [hb, go_sem, seval] <;> try simp only [qz] at hb))
  all_goals (try simp only [maxLen, tn] at *)
  all_goals first
   | with_reducible rfl
   | omega
   | (show _ = true; rfl)
   | (rw [jF (by omega)]; first | done | rfl)
   | rfl
   | (refine ⟨⟨i + 1, by omega⟩, by dsimp only; omega, ?_⟩
      have hgi := hg (by omega)
      simp -implicitDefEqProofs only [go_sem, seval]
      first
       | (rw [Se (by omega) (show GK k _ = k from if_pos (by omega))]; simp; done)
       | (rw [Oz (by omega) (show GK k _ = _ from if_neg (by omega))]; simp; done)
       | skip)
   | skip
end
def mT : Ct := An (lc ZI.ag l0) (fun p => p.1.outs.length ≤ 1000) (fun p => .agg ((Dj (xq p.1)).map .t))
section
attribute [local go_sem] lm Ab BR Nb AS.opn AS.cls AS.nilb AS.renb AS.up Bool.not_false Bool.not_true List.set_set List.set_cons_zero List.set_cons_succ List.set_nil List.mem_singleton forall_eq tn List.map_nil List.nil_append
set_option maxHeartbeats 1600000 in
theorem eE {G : Gt} (hG : Aj G) : Gd G 247 (AA 1 mT) := by
 refine gr (fn := Tryz.f247) (n := 1) rfl hG ?_
 rintro ⟨c, ⟨⟩⟩ hpre
 simp -implicitDefEqProofs only [Tryz.f247, go_sem, seval] at hpre ⊢
 have hl : c.outs.length ≤ 1000 := hpre
 with_reducible repeat' (first | apply ai | intro _ | ((first | apply s1 | apply s3 | apply s4) <;> intro hb <;> simp -implicitDefEqProofs only [hb, go_sem, seval] <;> try simp only [qz] at hb))
 all_goals (try simp only [maxLen, tn] at *)
 all_goals first | rfl | omega | decide | with_reducible assumption | (show AT _ = true; rfl) | exact HX (by assumption) | contradiction | skip
 refine AF [(3, 901, true, 1)] (ι := {i : Nat // i ≤ c.outs.length}) (fun p => ⟨[(1, .pb 1001 0), (2, .pb 1002 0), (3, .h 901), (4, .t (.v (.int .i64 p.1)))], [(1001, some (.box ((Dj c).map .t))), (1002, some (.box [.t (.v (.string ⟨#[]⟩)), .t (.v (.string ⟨#[]⟩)), .t (.v (.string ⟨#[]⟩)), .nil, .nil, .t (.v (.int .i64 0)), .t (.v (.int .i64 0)), .nil])), (901, some (.arr true 1 ((NE PJ c.outs p.1).map BB)))]⟩) (fun p => c.outs.length - p.1) ⟨0, Nat.zero_le _⟩ rfl ?_ ?_
 ·simp -implicitDefEqProofs only [go_sem, seval]
  simp [jE]
 ·rintro ⟨i, hi⟩
  dsimp only at hi ⊢
  have hln := Sc PJ c.outs i
  have hg : i < c.outs.length → (NE PJ c.outs i).getD i default = c.outs.getD i default := Sb
  simp -implicitDefEqProofs only [go_sem, seval]
  with_reducible repeat' (first | apply ai | intro _ | ((first | apply s1 | apply s3 | apply s4) <;> intro hb <;> simp -implicitDefEqProofs only [hb, go_sem, seval] <;> try simp only [qz] at hb))
  all_goals (try simp only [maxLen, tn] at *)
  all_goals first
   | with_reducible rfl
   | omega
   | (show _ = true; rfl)
   | (rw [jF (by omega)]; first | done | rfl)
   | rfl
   | (refine ⟨⟨i + 1, by omega⟩, by dsimp only; omega, ?_⟩
      have hgi := hg (by omega)
      simp -implicitDefEqProofs only [go_sem, seval]
      first
       | (rw [Se (by omega) (show PJ _ = 2 from if_pos (by omega))]; simp; done)
       | (rw [Oz (by omega) (show PJ _ = _ from if_neg (by omega))]; simp; done)
       | skip)
   | skip
end
def mM : Ct := An (lc ZI.ag l0) (fun p => p.1.outs.length ≤ 1000) (fun p => .o true 1 ((p.1.outs.map (GK 3)).map BB))
section
attribute [local go_sem] lm List.length_append List.map_append AS.opn AS.cls AS.nilb AS.renb AS.up Bool.not_false Bool.not_true List.set_set List.set_cons_zero List.set_cons_succ List.set_nil List.mem_singleton forall_eq tn List.map_nil List.nil_append
set_option maxHeartbeats 1600000 in
theorem d6 {G : Gt} (hG : Aj G) : Gd G 239 (AA 0 mM) := by
 refine gr (fn := Tryz.f239) (n := 1) rfl hG ?_ (hs := fun _ _ => .deep _ _)
 rintro ⟨c, ⟨⟩⟩ hpre
 simp -implicitDefEqProofs only [Tryz.f239, go_sem, seval] at hpre ⊢
 have hl : c.outs.length ≤ 1000 := hpre
 with_reducible repeat' (first | apply ai | intro _ | ((first | apply s1 | apply s3 | apply s4) <;> intro hb <;> simp -implicitDefEqProofs only [hb, go_sem, seval] <;> try simp only [qz] at hb))
 all_goals (try simp only [maxLen, tn] at *)
 all_goals first | rfl | omega | decide | with_reducible assumption | (show AT _ = true; rfl) | exact HX (by assumption) | contradiction | skip
 refine AF [(3, 901, true, 1)] (ι := {i : Nat // i ≤ c.outs.length}) (fun p => ⟨[(1, .pb 1001 0), (3, .h 901), (4, .t (.v (.int .i64 p.1)))], [(1001, some (.box ((Dj c).map .t))), (901, some (.arr true 1 (((c.outs.take p.1).map (GK 3)).map BB)))]⟩) (fun p => c.outs.length - p.1) ⟨0, Nat.zero_le _⟩ rfl ?_ ?_
 ·simp -implicitDefEqProofs only [go_sem, seval]
  try simp
 ·rintro ⟨i, hi⟩
  dsimp only at hi ⊢
  have hln : (c.outs.take i).length = i := by rw [List.length_take]; omega
  simp -implicitDefEqProofs only [go_sem, seval]
  with_reducible repeat' (first | apply ai | intro _ | ((first | apply s1 | apply s3 | apply s4) <;> intro hb <;> simp -implicitDefEqProofs only [hb, go_sem, seval] <;> try simp only [qz] at hb))
  all_goals (try simp only [maxLen, tn] at *)
  all_goals first
   | with_reducible rfl
   | omega
   | (show _ = true; rfl)
   | (rw [List.take_of_length_le (by omega)]; first | done | rfl)
   | rfl
   | (simp only [List.mem_singleton] at *; omega)
   | (rename_i q; simp only [List.mem_singleton] at q; subst q; rfl)
   | (have ht : c.outs.take (i + 1) = c.outs.take i ++ [c.outs.getD i default] := by
        have hh : i < c.outs.length := by omega
        rw [List.take_add_one, List.getElem?_eq_getElem hh]; simp [hh]
      refine ⟨⟨i + 1, by omega⟩, by dsimp only; omega, ?_⟩
      simp -implicitDefEqProofs only [go_sem, seval]
      rw [ht]
      first
       | (have ee : GK 3 (c.outs.getD i default) = 3 := if_pos (by omega); simp only [List.map_append, List.map_cons, List.map_nil, ee]; simp [BB]; done)
       | (have ee : GK 3 (c.outs.getD i default) = c.outs.getD i default := if_neg (by omega); simp only [List.map_append, List.map_cons, List.map_nil, ee]; simp [BB]; done)
       | skip)
   | skip
end
def Nl (m : Ml) : Prop := m.to.length ≤ 1000 ∧ m.body.length ≤ 100 ∧ (m.frm.user.size ≤ 1000 ∧ m.frm.domain.size ≤ 1000) ∧ (∀ a ∈ m.to, a.user.size ≤ 1000 ∧ a.domain.size ≤ 1000) ∧ ∀ l ∈ m.body, l.size ≤ 1000
theorem jc {m : Ml} (h : Nl m) {i : Nat} (hi : i < m.to.length) : (m.to.getD i default).user.size ≤ 1000 ∧ (m.to.getD i default).domain.size ≤ 1000 := h.2.2.2.1 _ (AE hi)
theorem NW (a : Ad) : (Cd a).size ≤ a.user.size + a.domain.size + 3 := by
 by_cases h : AU a
 ·rw [G5 h]; have : (⟨#[60, 62]⟩ : ByteArray).size = 2 := rfl; omega
 ·rw [NV h]
  simp only [ByteArray.size_append]
  have e1 : (⟨#[60]⟩ : ByteArray).size = 1 := rfl
  have e2 : (⟨#[64]⟩ : ByteArray).size = 1 := rfl
  have e3 : (⟨#[62]⟩ : ByteArray).size = 1 := rfl
  omega
open Classical in
noncomputable def DK (c : Cl) (k : Int) : Cl × ByteArray := (if k ≥ 500 then (⟨c.name, c.mail, 6, c.pos, c.outs.map (GK 4)⟩, ⟨#[81, 85, 73, 84]⟩) else (⟨c.name, c.mail, 6, c.pos, c.outs.map (GK 3)⟩, ⟨#[81, 85, 73, 84]⟩))
theorem oE {c : Cl} {k : Int} (h0 : k ≥ 500) : DK c k = (⟨c.name, c.mail, 6, c.pos, c.outs.map (GK 4)⟩, ⟨#[81, 85, 73, 84]⟩) := by unfold DK; rw [if_pos h0]
theorem oF {c : Cl} {k : Int} (h0 : ¬ (k ≥ 500)) : DK c k = (⟨c.name, c.mail, 6, c.pos, c.outs.map (GK 3)⟩, ⟨#[81, 85, 73, 84]⟩) := by unfold DK; rw [if_neg h0]
def mU : Ct := An (lc ZI.ag (lc A6 l0)) (fun p => p.1.outs.length ≤ 1000) (fun p => .tup [.agg ((Dj (DK p.1 p.2.1).1).map .t), .t (.v (.string (DK p.1 p.2.1).2))])
section
attribute [local go_sem] mY AS.opn AS.cls AS.nilb AS.renb AS.up Bool.not_false Bool.not_true List.set_set List.set_cons_zero List.set_cons_succ List.set_nil List.mem_singleton forall_eq tn List.map_nil List.nil_append
theorem eF {G : Gt} (hG : Aj G) (hh : G.e 253 = AA 1 mY) : Gd G 248 (AA 1 mU) := by
 refine gr (fn := Tryz.f248) (n := 2) rfl hG ?_
 rintro ⟨c, k, ⟨⟩⟩ hpre
 have hl : c.outs.length ≤ 1000 := hpre
 try dsimp only
 refine BQ (k ≥ 500) (fun h0 => have e_ : DK c k = _ := oE h0; ?_) (fun h0 => have e_ : DK c k = _ := oF h0; ?_)
 all_goals
  try rw [e_]
  simp -implicitDefEqProofs only [Tryz.f248, h0, eq_self, decide_true, decide_false, Int.reduceEq, go_sem, hh, seval]
  with_reducible repeat' (first | apply ai | intro _ | ((first | apply s1 | apply s3 | apply s4) <;> intro hb <;> simp -implicitDefEqProofs only [hb, go_sem, hh, seval] <;> try simp only [qz] at hb))
  all_goals (try simp only [maxLen, tn, lm] at *)
  all_goals first | rfl | omega | decide | with_reducible assumption | (show AT _ = true; rfl) | exact HX (by assumption) | contradiction | skip
end
open Classical in
noncomputable def DZ (c : Cl) : Cl × ByteArray := (if c.pos < c.mail.to.length then (⟨c.name, c.mail, 3, c.pos + 1, c.outs⟩, ⟨#[82, 67, 80, 84, 32, 84, 79, 58]⟩ ++ Cd (c.mail.to.getD c.pos.toNat default)) else (if 1 ∈ c.outs then (⟨c.name, c.mail, 4, c.pos, c.outs⟩, ⟨#[68, 65, 84, 65]⟩) else (⟨c.name, c.mail, 6, c.pos, c.outs⟩, ⟨#[81, 85, 73, 84]⟩)))
theorem qZ {c : Cl} (h0 : c.pos < c.mail.to.length) : DZ c = (⟨c.name, c.mail, 3, c.pos + 1, c.outs⟩, ⟨#[82, 67, 80, 84, 32, 84, 79, 58]⟩ ++ Cd (c.mail.to.getD c.pos.toNat default)) := by unfold DZ; rw [if_pos h0]
theorem qh {c : Cl} (h0 : ¬ (c.pos < c.mail.to.length)) (h1 : 1 ∈ c.outs) : DZ c = (⟨c.name, c.mail, 4, c.pos, c.outs⟩, ⟨#[68, 65, 84, 65]⟩) := by unfold DZ; rw [if_neg h0, if_pos h1]
theorem qi {c : Cl} (h0 : ¬ (c.pos < c.mail.to.length)) (h1 : ¬ (1 ∈ c.outs)) : DZ c = (⟨c.name, c.mail, 6, c.pos, c.outs⟩, ⟨#[81, 85, 73, 84]⟩) := by unfold DZ; rw [if_neg h0, if_neg h1]
def Ve : Ct := An (lc ZI.ag l0) (fun p => p.1.outs.length ≤ 1000 ∧ Nl p.1.mail ∧ 0 ≤ p.1.pos) (fun p => .tup [.agg ((Dj (DZ p.1).1).map .t), .t (.v (.string (DZ p.1).2))])
section
attribute [local go_sem] QE Int.add_sub_cancel AS.opn AS.cls AS.nilb AS.renb AS.up Bool.not_false Bool.not_true List.set_set List.set_cons_zero List.set_cons_succ List.set_nil List.mem_singleton forall_eq tn List.map_nil List.nil_append
set_option maxHeartbeats 1600000 in
theorem eC {G : Gt} (hG : Aj G) (hh : G.e 126 = AA 0 QE) : Gd G 245 (AA 1 Ve) := by
 refine gr (fn := Tryz.f245) (n := 1) rfl hG ?_
 rintro ⟨c, ⟨⟩⟩ hpre
 obtain ⟨hl, hm, hp⟩ := hpre
 try dsimp only at hl hm hp ⊢
 have hml := hm.1
 have hat : c.pos.toNat < c.mail.to.length → (c.mail.to.getD c.pos.toNat default).user.size ≤ 1000 ∧ (c.mail.to.getD c.pos.toNat default).domain.size ≤ 1000 := fun h => jc hm h
 have hps := NW (c.mail.to.getD c.pos.toNat default)
 have e8 : (#[82, 67, 80, 84, 32, 84, 79, 58] : Array UInt8).size = 8 := rfl
 refine BQ (c.pos < c.mail.to.length) (fun h0 => have e_ : DZ c = _ := qZ h0; ?_) (fun h0 => ?w1)
 case w1 =>
  simp -implicitDefEqProofs only [Tryz.f245, h0, eq_self, decide_true, decide_false, go_sem, hh, seval]
  with_reducible repeat' (first | apply ai | intro _ | ((first | apply s1 | apply s3 | apply s4) <;> intro hb <;> simp -implicitDefEqProofs only [hb, go_sem, hh, seval] <;> try simp only [qz] at hb))
  all_goals (try simp only [maxLen, tn, lm] at *)
  all_goals first | rfl | omega | decide | with_reducible assumption | (show AT _ = true; rfl) | exact HX (by assumption) | contradiction | skip
  refine AF [] (ι := {i : Nat // i ≤ c.outs.length ∧ ∀ j, j < i → ¬ c.outs.getD j default = 1}) (fun p => ⟨[(1, .pb 1001 0), (2, .pb 1002 0), (4, .t (.v (.int .i64 p.1)))], [(1001, some (.box ((Dj c).map .t))), (1002, some (.box [.t (.v (.string ⟨#[]⟩)), .t (.v (.string ⟨#[]⟩)), .t (.v (.string ⟨#[]⟩)), .nil, .nil, .t (.v (.int .i64 0)), .t (.v (.int .i64 0)), .nil]))]⟩) (fun p => c.outs.length - p.1) ⟨0, by simp, by simp⟩ rfl ?_ ?_
  ·simp -implicitDefEqProofs only [go_sem, hh, seval]
   try simp
  ·rintro ⟨i, hi, hall⟩
   simp -implicitDefEqProofs only [go_sem, hh, seval]
   with_reducible repeat' (first | apply ai | intro _ | ((first | apply s1 | apply s3 | apply s4) <;> intro hb <;> simp -implicitDefEqProofs only [hb, go_sem, hh, seval] <;> try simp only [qz] at hb))
   all_goals (try simp only [maxLen, tn, lm] at *)
   all_goals first
    | with_reducible rfl
    | omega
    | (show _ = true; rfl)
    | (rw [qh h0 (Xa (xs := c.outs) (i := i) (by omega) (by assumption))]; first | done | rfl)
    | (rw [qi h0 (Xs (by omega) hall)]; first | done | rfl)
    | (refine ⟨⟨i + 1, by omega, fun j hj => ?_⟩, by dsimp only; omega, ?_⟩
       ·by_cases e : j = i
        ·subst e; assumption
        ·exact hall j (by omega)
       ·simp -implicitDefEqProofs only [go_sem, hh, seval]
        simp)
    | skip
 all_goals
  try rw [e_]
  simp -implicitDefEqProofs only [Tryz.f245, h0, eq_self, decide_true, decide_false, Int.reduceEq, go_sem, hh, seval]
  with_reducible repeat' (first | apply ai | intro _ | ((first | apply s1 | apply s3 | apply s4) <;> intro hb <;> simp -implicitDefEqProofs only [hb, go_sem, hh, seval] <;> try simp only [qz] at hb))
  all_goals (try simp only [maxLen, tn, lm] at *)
  all_goals first | rfl | omega | decide | with_reducible assumption | (show AT _ = true; rfl) | exact HX (by assumption) | contradiction | skip
end
open Classical in
noncomputable def FG (c : Cl) (k : Int) : Cl × ByteArray := (if k = 250 then DZ ⟨c.name, c.mail, c.state, c.pos, c.outs.set (c.pos - 1).toNat 1⟩ else (if k ≥ 500 then DZ ⟨c.name, c.mail, c.state, c.pos, c.outs.set (c.pos - 1).toNat 4⟩ else DZ ⟨c.name, c.mail, c.state, c.pos, c.outs.set (c.pos - 1).toNat 3⟩))
theorem rm {c : Cl} {k : Int} (h0 : k = 250) : FG c k = DZ ⟨c.name, c.mail, c.state, c.pos, c.outs.set (c.pos - 1).toNat 1⟩ := by unfold FG; rw [if_pos h0]
theorem rn {c : Cl} {k : Int} (h0 : ¬ (k = 250)) (h1 : k ≥ 500) : FG c k = DZ ⟨c.name, c.mail, c.state, c.pos, c.outs.set (c.pos - 1).toNat 4⟩ := by unfold FG; rw [if_neg h0, if_pos h1]
theorem rp {c : Cl} {k : Int} (h0 : ¬ (k = 250)) (h1 : ¬ (k ≥ 500)) : FG c k = DZ ⟨c.name, c.mail, c.state, c.pos, c.outs.set (c.pos - 1).toNat 3⟩ := by unfold FG; rw [if_neg h0, if_neg h1]
def mR : Ct := An (lc ZI.ag (lc A6 l0)) (fun p => p.1.outs.length ≤ 1000 ∧ Nl p.1.mail ∧ 1 ≤ p.1.pos ∧ p.1.pos ≤ p.1.outs.length) (fun p => .tup [.agg ((Dj (FG p.1 p.2.1).1).map .t), .t (.v (.string (FG p.1 p.2.1).2))])
section
attribute [local go_sem] Ve lm List.length_set BR Nb AS.opn AS.cls AS.nilb AS.renb AS.up Bool.not_false Bool.not_true List.set_set List.set_cons_zero List.set_cons_succ List.set_nil List.mem_singleton forall_eq tn List.map_nil List.nil_append
set_option maxHeartbeats 1600000 in
theorem eB {G : Gt} (hG : Aj G) (hh : G.e 245 = AA 1 Ve) : Gd G 244 (AA 1 mR) := by
 refine gr (fn := Tryz.f244) (n := 2) rfl hG ?_
 rintro ⟨c, k, ⟨⟩⟩ hpre
 obtain ⟨hl, hm, hp, hq⟩ := hpre
 try dsimp only at hl hm hp hq ⊢
 refine BQ (k = 250) (fun h0 => have h0' := decide_eq_true h0; have e_ : FG c k = _ := rm h0; have h1 := tv; ?_) (fun h0 => have h0' := decide_eq_false h0; BQ (k ≥ 500) (fun h1 => have e_ : FG c k = _ := rn h0 h1; ?_) (fun h1 => have e_ : FG c k = _ := rp h0 h1; ?_))
 all_goals
  try rw [e_]
  simp -implicitDefEqProofs only [Tryz.f244, h0', h1, eq_self, decide_true, decide_false, Int.reduceEq, go_sem, hh, seval]
  with_reducible repeat' (first | apply ai | intro _ | ((first | apply s1 | apply s3 | apply s4) <;> intro hb <;> simp -implicitDefEqProofs only [hb, go_sem, hh, seval] <;> try simp only [qz] at hb))
  all_goals (try simp only [maxLen, tn, lm] at *)
  all_goals first | rfl | omega | decide | with_reducible assumption | (show AT _ = true; rfl) | exact HX (by assumption) | contradiction | skip
end
open Classical in
noncomputable def A2 (c : Cl) (a : ByteArray) : Cl × ByteArray := (if c.state = 7 then (c, ⟨#[]⟩) else (if c.state = 6 then (⟨c.name, c.mail, 7, c.pos, c.outs⟩, ⟨#[]⟩) else (if c.state = 3 then FG c (BJ a) else (if c.state = 0 then (if BJ a = 220 then (⟨c.name, c.mail, 1, c.pos, c.outs⟩, ⟨#[72, 69, 76, 79, 32]⟩ ++ c.name) else DK c (BJ a)) else (if c.state = 1 then (if BJ a = 250 then (⟨c.name, c.mail, 2, c.pos, c.outs⟩, ⟨#[77, 65, 73, 76, 32, 70, 82, 79, 77, 58]⟩ ++ Cd c.mail.frm) else DK c (BJ a)) else (if c.state = 2 then (if BJ a = 250 then DZ c else DK c (BJ a)) else (if c.state = 4 then (if BJ a = 354 then (⟨c.name, c.mail, 5, c.pos, c.outs⟩, Tv c.mail.body) else DK c (BJ a)) else (if c.state = 5 then (if BJ a = 250 then (⟨c.name, c.mail, 6, c.pos, c.outs.map PJ⟩, ⟨#[81, 85, 73, 84]⟩) else DK c (BJ a)) else DK c (BJ a)))))))))
theorem rP {c : Cl} {a : ByteArray} (h0 : c.state = 7) : A2 c a = (c, ⟨#[]⟩) := by unfold A2; rw [if_pos h0]
theorem rQ {c : Cl} {a : ByteArray} (h0 : ¬ (c.state = 7)) (h1 : c.state = 6) : A2 c a = (⟨c.name, c.mail, 7, c.pos, c.outs⟩, ⟨#[]⟩) := by unfold A2; rw [if_neg h0, if_pos h1]
theorem rR {c : Cl} {a : ByteArray} (h0 : ¬ (c.state = 7)) (h1 : ¬ (c.state = 6)) (h2 : c.state = 3) : A2 c a = FG c (BJ a) := by unfold A2; rw [if_neg h0, if_neg h1, if_pos h2]
theorem rS {c : Cl} {a : ByteArray} (h0 : ¬ (c.state = 7)) (h1 : ¬ (c.state = 6)) (h2 : ¬ (c.state = 3)) (h3 : c.state = 0) (h4 : BJ a = 220) : A2 c a = (⟨c.name, c.mail, 1, c.pos, c.outs⟩, ⟨#[72, 69, 76, 79, 32]⟩ ++ c.name) := by unfold A2; rw [if_neg h0, if_neg h1, if_neg h2, if_pos h3, if_pos h4]
theorem rT {c : Cl} {a : ByteArray} (h0 : ¬ (c.state = 7)) (h1 : ¬ (c.state = 6)) (h2 : ¬ (c.state = 3)) (h3 : c.state = 0) (h4 : ¬ (BJ a = 220)) : A2 c a = DK c (BJ a) := by unfold A2; rw [if_neg h0, if_neg h1, if_neg h2, if_pos h3, if_neg h4]
theorem rU {c : Cl} {a : ByteArray} (h0 : ¬ (c.state = 7)) (h1 : ¬ (c.state = 6)) (h2 : ¬ (c.state = 3)) (h3 : ¬ (c.state = 0)) (h4 : c.state = 1) (h5 : BJ a = 250) : A2 c a = (⟨c.name, c.mail, 2, c.pos, c.outs⟩, ⟨#[77, 65, 73, 76, 32, 70, 82, 79, 77, 58]⟩ ++ Cd c.mail.frm) := by unfold A2; rw [if_neg h0, if_neg h1, if_neg h2, if_neg h3, if_pos h4, if_pos h5]
theorem rV {c : Cl} {a : ByteArray} (h0 : ¬ (c.state = 7)) (h1 : ¬ (c.state = 6)) (h2 : ¬ (c.state = 3)) (h3 : ¬ (c.state = 0)) (h4 : c.state = 1) (h5 : ¬ (BJ a = 250)) : A2 c a = DK c (BJ a) := by unfold A2; rw [if_neg h0, if_neg h1, if_neg h2, if_neg h3, if_pos h4, if_neg h5]
theorem rW {c : Cl} {a : ByteArray} (h0 : ¬ (c.state = 7)) (h1 : ¬ (c.state = 6)) (h2 : ¬ (c.state = 3)) (h3 : ¬ (c.state = 0)) (h4 : ¬ (c.state = 1)) (h5 : c.state = 2) (h6 : BJ a = 250) : A2 c a = DZ c := by unfold A2; rw [if_neg h0, if_neg h1, if_neg h2, if_neg h3, if_neg h4, if_pos h5, if_pos h6]
theorem rX {c : Cl} {a : ByteArray} (h0 : ¬ (c.state = 7)) (h1 : ¬ (c.state = 6)) (h2 : ¬ (c.state = 3)) (h3 : ¬ (c.state = 0)) (h4 : ¬ (c.state = 1)) (h5 : c.state = 2) (h6 : ¬ (BJ a = 250)) : A2 c a = DK c (BJ a) := by unfold A2; rw [if_neg h0, if_neg h1, if_neg h2, if_neg h3, if_neg h4, if_pos h5, if_neg h6]
theorem rY {c : Cl} {a : ByteArray} (h0 : ¬ (c.state = 7)) (h1 : ¬ (c.state = 6)) (h2 : ¬ (c.state = 3)) (h3 : ¬ (c.state = 0)) (h4 : ¬ (c.state = 1)) (h5 : ¬ (c.state = 2)) (h6 : c.state = 4) (h7 : BJ a = 354) : A2 c a = (⟨c.name, c.mail, 5, c.pos, c.outs⟩, Tv c.mail.body) := by unfold A2; rw [if_neg h0, if_neg h1, if_neg h2, if_neg h3, if_neg h4, if_neg h5, if_pos h6, if_pos h7]
theorem gL {c : Cl} {a : ByteArray} (h0 : ¬ (c.state = 7)) (h1 : ¬ (c.state = 6)) (h2 : ¬ (c.state = 3)) (h3 : ¬ (c.state = 0)) (h4 : ¬ (c.state = 1)) (h5 : ¬ (c.state = 2)) (h6 : c.state = 4) (h7 : ¬ (BJ a = 354)) : A2 c a = DK c (BJ a) := by unfold A2; rw [if_neg h0, if_neg h1, if_neg h2, if_neg h3, if_neg h4, if_neg h5, if_pos h6, if_neg h7]
theorem gN {c : Cl} {a : ByteArray} (h0 : ¬ (c.state = 7)) (h1 : ¬ (c.state = 6)) (h2 : ¬ (c.state = 3)) (h3 : ¬ (c.state = 0)) (h4 : ¬ (c.state = 1)) (h5 : ¬ (c.state = 2)) (h6 : ¬ (c.state = 4)) (h7 : c.state = 5) (h8 : BJ a = 250) : A2 c a = (⟨c.name, c.mail, 6, c.pos, c.outs.map PJ⟩, ⟨#[81, 85, 73, 84]⟩) := by unfold A2; rw [if_neg h0, if_neg h1, if_neg h2, if_neg h3, if_neg h4, if_neg h5, if_neg h6, if_pos h7, if_pos h8]
theorem gO {c : Cl} {a : ByteArray} (h0 : ¬ (c.state = 7)) (h1 : ¬ (c.state = 6)) (h2 : ¬ (c.state = 3)) (h3 : ¬ (c.state = 0)) (h4 : ¬ (c.state = 1)) (h5 : ¬ (c.state = 2)) (h6 : ¬ (c.state = 4)) (h7 : c.state = 5) (h8 : ¬ (BJ a = 250)) : A2 c a = DK c (BJ a) := by unfold A2; rw [if_neg h0, if_neg h1, if_neg h2, if_neg h3, if_neg h4, if_neg h5, if_neg h6, if_pos h7, if_neg h8]
theorem gP {c : Cl} {a : ByteArray} (h0 : ¬ (c.state = 7)) (h1 : ¬ (c.state = 6)) (h2 : ¬ (c.state = 3)) (h3 : ¬ (c.state = 0)) (h4 : ¬ (c.state = 1)) (h5 : ¬ (c.state = 2)) (h6 : ¬ (c.state = 4)) (h7 : ¬ (c.state = 5)) : A2 c a = DK c (BJ a) := by unfold A2; rw [if_neg h0, if_neg h1, if_neg h2, if_neg h3, if_neg h4, if_neg h5, if_neg h6, if_neg h7]
def mK : Ct := An (lc ZI.ag (lc A0 l0)) (fun p => p.1.outs.length ≤ 1000 ∧ Nl p.1.mail ∧ 0 ≤ p.1.pos ∧ p.1.pos ≤ p.1.outs.length ∧ (p.1.state = 3 → 1 ≤ p.1.pos) ∧ p.1.name.size ≤ 1000000) (fun p => .tup [.agg ((Dj (A2 p.1 p.2.1).1).map .t), .t (.v (.string (A2 p.1 p.2.1).2))])
section
attribute [local go_sem] mQ mR QE Ve mS mT mU AS.opn AS.cls AS.nilb AS.renb AS.up Bool.not_false Bool.not_true List.set_set List.set_cons_zero List.set_cons_succ List.set_nil List.mem_singleton forall_eq tn List.map_nil List.nil_append
set_option maxHeartbeats 3200000 in
theorem d4 {G : Gt} (hG : Aj G) (hh : G.e 243 = AA 0 mQ ∧ G.e 244 = AA 1 mR ∧ G.e 126 = AA 0 QE ∧ G.e 245 = AA 1 Ve ∧ G.e 246 = AA 0 mS ∧ G.e 247 = AA 1 mT ∧ G.e 248 = AA 1 mU) : Gd G 237 (AA 1 mK) := by
 refine gr (fn := Tryz.f237) (n := 2) rfl hG ?_
 rintro ⟨c, a, ⟨⟩⟩ hpre
 obtain ⟨hl, hm, hp, hq, h3p, hn⟩ := hpre
 try dsimp only at hl hm hp hq h3p hn ⊢
 have hml := hm.1
 have hmb := hm.2.1
 have hmf := hm.2.2.1
 have hps := NW c.mail.frm
 have hbo : ∀ x ∈ c.mail.body, x.size ≤ 2000000 := fun x hx => Nat.le_trans (hm.2.2.2.2 x hx) (by decide)
 have e5 : (#[72, 69, 76, 79, 32] : Array UInt8).size = 5 := rfl
 have e10 : (#[77, 65, 73, 76, 32, 70, 82, 79, 77, 58] : Array UInt8).size = 10 := rfl
 refine BQ (c.state = 7) (fun h0 => have h0' := decide_eq_true h0; have e_ : A2 c a = _ := rP h0; have h1' := tv; have h2' := tv; have h3' := tv; have h4' := tv; have h5' := tv; have h6' := tv; have h7' := tv; have h8' := tv; ?_) (fun h0 => have h0' := decide_eq_false h0; BQ (c.state = 6) (fun h1 => have h1' := decide_eq_true h1; have e_ : A2 c a = _ := rQ h0 h1; have h2' := tv; have h3' := tv; have h4' := tv; have h5' := tv; have h6' := tv; have h7' := tv; have h8' := tv; ?_) (fun h1 => have h1' := decide_eq_false h1; BQ (c.state = 3) (fun h2 => have h2' := decide_eq_true h2; have e_ : A2 c a = _ := rR h0 h1 h2; have h3' := tv; have h4' := tv; have h5' := tv; have h6' := tv; have h7' := tv; have h8' := tv; ?_) (fun h2 => have h2' := decide_eq_false h2; BQ (c.state = 0) (fun h3 => have h3' := decide_eq_true h3; BQ (BJ a = 220) (fun h4 => have h4' := decide_eq_true h4; have e_ : A2 c a = _ := rS h0 h1 h2 h3 h4; have h5' := tv; have h6' := tv; have h7' := tv; have h8' := tv; ?_) (fun h4 => have h4' := decide_eq_false h4; have e_ : A2 c a = _ := rT h0 h1 h2 h3 h4; have h5' := tv; have h6' := tv; have h7' := tv; have h8' := tv; ?_)) (fun h3 => have h3' := decide_eq_false h3; BQ (c.state = 1) (fun h4 => have h4' := decide_eq_true h4; BQ (BJ a = 250) (fun h5 => have h5' := decide_eq_true h5; have e_ : A2 c a = _ := rU h0 h1 h2 h3 h4 h5; have h6' := tv; have h7' := tv; have h8' := tv; ?_) (fun h5 => have h5' := decide_eq_false h5; have e_ : A2 c a = _ := rV h0 h1 h2 h3 h4 h5; have h6' := tv; have h7' := tv; have h8' := tv; ?_)) (fun h4 => have h4' := decide_eq_false h4; BQ (c.state = 2) (fun h5 => have h5' := decide_eq_true h5; BQ (BJ a = 250) (fun h6 => have h6' := decide_eq_true h6; have e_ : A2 c a = _ := rW h0 h1 h2 h3 h4 h5 h6; have h7' := tv; have h8' := tv; ?_) (fun h6 => have h6' := decide_eq_false h6; have e_ : A2 c a = _ := rX h0 h1 h2 h3 h4 h5 h6; have h7' := tv; have h8' := tv; ?_)) (fun h5 => have h5' := decide_eq_false h5; BQ (c.state = 4) (fun h6 => have h6' := decide_eq_true h6; BQ (BJ a = 354) (fun h7 => have h7' := decide_eq_true h7; have e_ : A2 c a = _ := rY h0 h1 h2 h3 h4 h5 h6 h7; have h8' := tv; ?_) (fun h7 => have h7' := decide_eq_false h7; have e_ : A2 c a = _ := gL h0 h1 h2 h3 h4 h5 h6 h7; have h8' := tv; ?_)) (fun h6 => have h6' := decide_eq_false h6; BQ (c.state = 5) (fun h7 => have h7' := decide_eq_true h7; BQ (BJ a = 250) (fun h8 => have h8' := decide_eq_true h8; have e_ : A2 c a = _ := gN h0 h1 h2 h3 h4 h5 h6 h7 h8; ?_) (fun h8 => have h8' := decide_eq_false h8; have e_ : A2 c a = _ := gO h0 h1 h2 h3 h4 h5 h6 h7 h8; ?_)) (fun h7 => have h7' := decide_eq_false h7; have e_ : A2 c a = _ := gP h0 h1 h2 h3 h4 h5 h6 h7; have h8' := tv; ?_))))))))
 all_goals
  try rw [e_]
  simp -implicitDefEqProofs only [Tryz.f237, h0', h1', h2', h3', h4', h5', h6', h7', h8', eq_self, decide_true, decide_false, Int.reduceEq, go_sem, hh, seval]
  with_reducible repeat' (first | apply ai | intro _ | ((first | apply s1 | apply s3 | apply s4) <;> intro hb <;> simp -implicitDefEqProofs only [hb, go_sem, hh, seval] <;> try simp only [qz] at hb))
  all_goals (try simp only [maxLen, tn, lm] at *)
  all_goals first | rfl | omega | decide | with_reducible assumption | (show AT _ = true; rfl) | exact HX (by assumption) | contradiction | exact hbo _ (by with_reducible assumption) | skip
end
def S9 (c : Cl) : Prop := c.outs.length = c.mail.to.length ∧ Nl c.mail ∧ 0 ≤ c.pos ∧ c.pos ≤ c.outs.length ∧ (c.state = 3 → 1 ≤ c.pos) ∧ c.name.size ≤ 1000
theorem br {c : Cl} (k : Int) (h : S9 c) : S9 (DK c k).1 ∧ (DK c k).2.size ≤ 20 := by
 unfold DK
 split
 all_goals exact ⟨⟨by show (c.outs.map _).length = _; rw [lm]; exact h.1, h.2.1, h.2.2.1, by show _ ≤ (((c.outs.map _).length : Nat) : Int); rw [lm]; exact h.2.2.2.1, fun q => by simp at q, h.2.2.2.2.2⟩, Nat.le_of_ble_eq_true rfl⟩
theorem Si {c : Cl} (h : c.outs.length = c.mail.to.length ∧ Nl c.mail ∧ 0 ≤ c.pos ∧ c.pos ≤ c.outs.length ∧ c.name.size ≤ 1000) : S9 (DZ c).1 ∧ (DZ c).2.size ≤ 3000 := by
 obtain ⟨h1, h2, h3, h4, h5⟩ := h
 unfold DZ
 split
 ·rename_i hlt
  refine ⟨⟨h1, h2, by show 0 ≤ c.pos + 1; omega, by show c.pos + 1 ≤ (c.outs.length : Int); omega, fun _ => by show 1 ≤ c.pos + 1; omega, h5⟩, ?_⟩
  show (⟨#[82, 67, 80, 84, 32, 84, 79, 58]⟩ ++ Cd (c.mail.to.getD c.pos.toNat default)).size ≤ 3000
  have hps := NW (c.mail.to.getD c.pos.toNat default)
  have ht := jc h2 (i := c.pos.toNat) (by omega)
  rw [ByteArray.size_append]
  have e8 : (⟨#[82, 67, 80, 84, 32, 84, 79, 58]⟩ : ByteArray).size = 8 := rfl
  omega
 ·split
  all_goals exact ⟨⟨h1, h2, h3, h4, fun q => by simp at q, h5⟩, Nat.le_of_ble_eq_true rfl⟩
theorem gb {c : Cl} (k : Int) (h : S9 c) : S9 (FG c k).1 ∧ (FG c k).2.size ≤ 3000 := by
 have key : ∀ v : Int, S9 (DZ ⟨c.name, c.mail, c.state, c.pos, c.outs.set (c.pos - 1).toNat v⟩).1 ∧ (DZ ⟨c.name, c.mail, c.state, c.pos, c.outs.set (c.pos - 1).toNat v⟩).2.size ≤ 3000 := fun v =>
  Si ⟨by show (c.outs.set _ _).length = _; rw [List.length_set]; exact h.1, h.2.1, h.2.2.1, by show _ ≤ (((c.outs.set _ _).length : Nat) : Int); rw [List.length_set]; exact h.2.2.2.1, h.2.2.2.2.2⟩
 unfold FG
 repeat' split
 all_goals exact key _
theorem n9 {l : List ByteArray} (h1 : l.length ≤ 100) (h : ∀ x ∈ l, x.size ≤ 1000) : (Tv l).size ≤ 100400 := by
 unfold Tv
 have q := WM l ⟨#[]⟩ 1000 h
 rw [ByteArray.size_append, iK]
 have : (⟨#[]⟩ : ByteArray).size = 0 := rfl
 have : l.length * (1000 + 3) ≤ 100 * (1000 + 3) := Nat.mul_le_mul_right _ h1
 omega
theorem gQ {c : Cl} (a : ByteArray) (h : S9 c) : S9 (A2 c a).1 ∧ (A2 c a).2.size ≤ 200000 := by
 have q1 := gb (BJ a) h
 have q2 := br (BJ a) h
 have q3 := Si ⟨h.1, h.2.1, h.2.2.1, h.2.2.2.1, h.2.2.2.2.2⟩
 have q4 := n9 h.2.1.2.1 h.2.1.2.2.2.2
 have q5 := NW c.mail.frm
 have q6 := h.2.1.2.2.1
 have mk : ∀ st, ¬ st = (3 : Int) → ∀ o : List Int, o.length = c.outs.length → S9 ⟨c.name, c.mail, st, c.pos, o⟩ := fun st hs o ho => ⟨by show o.length = _; rw [ho]; exact h.1, h.2.1, h.2.2.1, by show _ ≤ ((o.length : Nat) : Int); rw [ho]; exact h.2.2.2.1, fun q => absurd q hs, h.2.2.2.2.2⟩
 unfold A2
 repeat' split
 all_goals first
  | exact ⟨h, Nat.zero_le _⟩
  | exact ⟨mk _ (by decide) _ rfl, Nat.zero_le _⟩
  | exact ⟨q1.1, by have := q1.2; omega⟩
  | exact ⟨q2.1, by have := q2.2; omega⟩
  | exact ⟨q3.1, by have := q3.2; omega⟩
  | exact ⟨mk _ (by decide) _ (lm _), Nat.le_of_ble_eq_true rfl⟩
  | exact ⟨mk _ (by decide) _ rfl, Nat.le_trans q4 (by decide)⟩
  | (refine ⟨mk _ (by decide) _ rfl, ?_⟩
     show ((⟨_⟩ : ByteArray) ++ _).size ≤ _
     rw [ByteArray.size_append]
     have e5 : (⟨#[72, 69, 76, 79, 32]⟩ : ByteArray).size = 5 := rfl
     have e10 : (⟨#[77, 65, 73, 76, 32, 70, 82, 79, 77, 58]⟩ : ByteArray).size = 10 := rfl
     have := h.2.2.2.2.2
     omega)
theorem Vl (c : Cf) (s : Ss) (l : ByteArray) : (Bb c s l).1.buf = s.buf := by
 have q1 : ∀ t, (Ee s t).1.buf = s.buf := fun t => by unfold Ee; (repeat' split) <;> rfl
 have q2 : ∀ t, (Ho c s t).1.buf = s.buf := fun t => by unfold Ho; (repeat' split) <;> rfl
 unfold Bb
 repeat' split
 all_goals first | rfl | exact q1 _ | exact q2 _
theorem Vp (s : Ss) (l : ByteArray) : (Am s l).1.1.buf = s.buf := by unfold Am; (repeat' split) <;> rfl
theorem Yg (c : Cf) (s : Ss) (l : ByteArray) : (Bo c s l).1.1.buf = s.buf := by
 unfold Bo
 repeat' split
 all_goals first | rfl | exact Vp s l | exact Vl c s l
theorem SF (c : Cf) : ∀ (L : List ByteArray) (x : Fm), (M1 c L x).1.1.buf = x.1.buf
 | [], x => rfl
 | l :: r, x => by
   rw [M1]
   split
   ·rfl
   ·split
    ·rfl
    ·rw [SF c r]; exact Yg c x.1 l
theorem T1 (c : Cf) (s : Ss) (t : ByteArray) : (Bv c s t).1.buf.size ≤ 80 := by
 have q := SF c (No (s.buf ++ t)) (⟨s.state, s.mail, s.bad, ⟨#[]⟩⟩, [], [])
 have e : (⟨#[]⟩ : ByteArray).size = 0 := rfl
 unfold Bv Wr
 split
 ·rw [q]; show (⟨#[]⟩ : ByteArray).size ≤ 80; omega
 ·split
  ·rw [q]; show (⟨#[]⟩ : ByteArray).size ≤ 80; omega
  ·split
   ·show (M1 c _ _).1.1.buf.size ≤ 80
    rw [q]; show (⟨#[]⟩ : ByteArray).size ≤ 80; omega
   ·show (qO (s.buf ++ t)).size ≤ 80; omega
abbrev N7 := Cl × Ss × List Ml × List ByteArray
def Yl (q : Cl × ByteArray) : ByteArray := if q.1.state = 5 then q.2 else q.2 ++ ⟨#[13, 10]⟩
theorem jW {q : Cl × ByteArray} (h : q.1.state = 5) : Yl q = q.2 := if_pos h
theorem jV {q : Cl × ByteArray} (h : ¬ q.1.state = 5) : Yl q = q.2 ++ ⟨#[13, 10]⟩ := if_neg h
theorem vN (q : Cl × ByteArray) : (Yl q).size ≤ q.2.size + 2 := by
 unfold Yl
 split
 ·omega
 ·rw [ByteArray.size_append, Mp]; omega
noncomputable def MF (x : N7) : Cl × ByteArray := A2 x.1 (x.2.2.2.getD 0 default)
noncomputable def Y2 (h : Cf) (x : N7) : N7 := ((MF x).1, (Bv h x.2.1 (Yl (MF x))).1, x.2.2.1 ++ (Bv h x.2.1 (Yl (MF x))).2.2, (Bv h x.2.1 (Yl (MF x))).2.1)
noncomputable def LD (h : Cf) (cut : Int) : Nat → Nat → N7 → Cl × List Ml
 | 0, _, x => (x.1, x.2.2.1)
 | k + 1, n, x => if (x.2.2.2.length : Int) > 0 ∧ ¬ x.1.state = 7 then (if 2 * (n : Int) ≥ cut then (x.1, x.2.2.1) else if (MF x).2 = ⟨#[]⟩ ∨ 2 * (n : Int) + 1 ≥ cut then ((MF x).1, x.2.2.1) else LD h cut k (n + 1) (Y2 h x)) else (x.1, x.2.2.1)
theorem Ym {h : Cf} {cut : Int} {k n : Nat} {x : N7} (q : ¬ (x.2.2.2.length : Int) > 0 ∨ x.1.state = 7 ∨ 2 * (n : Int) ≥ cut) : LD h cut k n x = (x.1, x.2.2.1) := by
 cases k with
 | zero => rfl
 | succ k =>
   rw [LD]
   split
   ·rename_i z
    rw [if_pos (q.elim (fun a => absurd z.1 a) fun q => q.elim (fun a => absurd a z.2) id)]
   ·rfl
theorem jX {h : Cf} {cut : Int} {k n : Nat} {x : N7} (hk : cut ≤ 2 * ((n : Int) + k)) (h1 : (x.2.2.2.length : Int) > 0) (h2 : ¬ x.1.state = 7) (h3 : ¬ 2 * (n : Int) ≥ cut) (h4 : (MF x).2 = ⟨#[]⟩ ∨ 2 * (n : Int) + 1 ≥ cut) : LD h cut k n x = ((MF x).1, x.2.2.1) := by
 obtain ⟨j, rfl⟩ : ∃ j, k = j + 1 := ⟨k - 1, by omega⟩
 rw [LD, if_pos ⟨h1, h2⟩, if_neg h3, if_pos h4]
theorem vO {h : Cf} {cut : Int} {k n : Nat} {x : N7} (h1 : (x.2.2.2.length : Int) > 0) (h2 : ¬ x.1.state = 7) (h3 : ¬ 2 * (n : Int) ≥ cut) (h4 : ¬ (MF x).2 = ⟨#[]⟩) (h5 : ¬ 2 * (n : Int) + 1 ≥ cut) : LD h cut (k + 1) n x = LD h cut k (n + 1) (Y2 h x) := by
 rw [LD, if_pos ⟨h1, h2⟩, if_neg h3, if_neg (fun q => q.elim h4 h5)]
def sE (n : Nat) (x : N7) : Prop := S9 x.1 ∧ N5 x.2.1 ∧ x.2.1.buf.size ≤ 80 ∧ x.2.2.1.length ≤ n * 300000 ∧ ∀ m ∈ x.2.2.1, gm m
theorem RR {n : Nat} {x : N7} (q : sE n x) : S9 (MF x).1 ∧ (MF x).2.size ≤ 200000 := gQ _ q.1
theorem Ng {h : Cf} {n : Nat} {x : N7} (q : sE n x) : sE (n + 1) (Y2 h x) ∧ (Bv h x.2.1 (Yl (MF x))).2.2.length ≤ 300000 := by
 obtain ⟨h1, h2⟩ := RR q
 obtain ⟨q1, q2, q3, q4, q5⟩ := q
 have ha := vN (MF x)
 have f := Wv (c := h) (t := Yl (MF x)) q2 (by omega)
 have fl : (Bv h x.2.1 (Yl (MF x))).2.2.length ≤ 300000 := by have := f.2.2.1; omega
 refine ⟨⟨h1, f.1, T1 _ _ _, ?_, fun m hm => ?_⟩, fl⟩
 ·show (x.2.2.1 ++ _).length ≤ _
  rw [List.length_append]
  omega
 ·rcases List.mem_append.1 hm with hm | hm
  ·exact q5 m hm
  ·exact f.2.2.2.2 m hm
theorem K3 (h : Cf) (cut : Int) : ∀ (k n : Nat) (x : N7), sE n x → S9 (LD h cut k n x).1 ∧ (LD h cut k n x).2.length ≤ (n + k) * 300000 ∧ ∀ m ∈ (LD h cut k n x).2, gm m
 | 0, n, x, q => ⟨q.1, q.2.2.2.1, q.2.2.2.2⟩
 | k + 1, n, x, q => by
   have hl : x.2.2.1.length ≤ (n + (k + 1)) * 300000 := Nat.le_trans q.2.2.2.1 (Nat.mul_le_mul_right _ (Nat.le_add_right _ _))
   rw [LD]
   split
   ·split
    ·exact ⟨q.1, hl, q.2.2.2.2⟩
    ·split
     ·exact ⟨(RR q).1, hl, q.2.2.2.2⟩
     ·have z := K3 h cut k (n + 1) _ (Ng (h := h) q).1
      rw [show n + (k + 1) = n + 1 + k by omega]
      exact z
   ·exact ⟨q.1, hl, q.2.2.2.2⟩
def yA : Ss := ⟨0, ⟨⟨⟨#[]⟩, ⟨#[]⟩⟩, [], []⟩, false, ⟨#[]⟩⟩
def UY (h : Cf) (nm : ByteArray) (m : Ml) : N7 := (fH nm m, yA, [], [⟨#[50, 50, 48, 32]⟩ ++ h.name])
theorem K2 (h : Cf) {nm : ByteArray} {m : Ml} (hn : nm.size ≤ 1000) (hm : Nl m) : sE 0 (UY h nm m) := ⟨⟨by show (List.replicate _ _).length = _; rw [List.length_replicate]; rfl, hm, Int.le_refl _, by show (0 : Int) ≤ _; omega, fun q => absurd (show (0 : Int) = 3 from q) (by decide), hn⟩, Fo yA, Nat.zero_le _, Nat.zero_le _, fun _ z => by cases z⟩
noncomputable def yB (h : Cf) (nm : ByteArray) (m : Ml) (cut : Int) : Cl × List Ml := LD h cut cut.toNat 0 (UY h nm m)
noncomputable def El (h : Cf) (nm : ByteArray) (m : Ml) (cut : Int) : List Int × List Ml := ((yB h nm m cut).1.outs.map (GK 3), (yB h nm m cut).2)
theorem K4 {h : Cf} {nm : ByteArray} {m : Ml} {cut : Int} {c : Cl} {l : List Ml} (q : (c, l) = LD h cut cut.toNat 0 (UY h nm m)) : El h nm m cut = (c.outs.map (GK 3), l) := by
 unfold El yB; rw [← q]
theorem vR {h : Cf} {x1 : Cl} {x2 : Ss} {x3 : List Ml} {x4 : List ByteArray} (e : (A2 x1 (x4.getD 0 default)).1.state = 5) : Y2 h (x1, x2, x3, x4) = ((A2 x1 (x4.getD 0 default)).1, (Bv h x2 (A2 x1 (x4.getD 0 default)).2).1, x3 ++ (Bv h x2 (A2 x1 (x4.getD 0 default)).2).2.2, (Bv h x2 (A2 x1 (x4.getD 0 default)).2).2.1) := by
 unfold Y2; rw [jW (show (MF (x1, x2, x3, x4)).1.state = 5 from e)]; rfl
theorem vP {h : Cf} {x1 : Cl} {x2 : Ss} {x3 : List Ml} {x4 : List ByteArray} (e : ¬ (A2 x1 (x4.getD 0 default)).1.state = 5) : Y2 h (x1, x2, x3, x4) = ((A2 x1 (x4.getD 0 default)).1, (Bv h x2 ((A2 x1 (x4.getD 0 default)).2 ++ ⟨#[13, 10]⟩)).1, x3 ++ (Bv h x2 ((A2 x1 (x4.getD 0 default)).2 ++ ⟨#[13, 10]⟩)).2.2, (Bv h x2 ((A2 x1 (x4.getD 0 default)).2 ++ ⟨#[13, 10]⟩)).2.1) := by
 unfold Y2; rw [jV (show ¬ (MF (x1, x2, x3, x4)).1.state = 5 from e)]; rfl
theorem qW (nm : ByteArray) (m : Ml) : fH nm m = ⟨nm, m, 0, 0, List.replicate m.to.length 0⟩ := rfl
def Vc : Ct := An (lc IZ.ag (lc A0 (lc Um.ag (lc A6 l0)))) (fun p => p.1.name.size ≤ 1000 ∧ p.2.1.size ≤ 1000 ∧ Nl p.2.2.1 ∧ 0 ≤ p.2.2.2.1 ∧ p.2.2.2.1 ≤ 1000) (fun p => .tup [.t (.sl 1 ((El p.1 p.2.1 p.2.2.1 p.2.2.2.1).1.map BB)), .t (.sl 4 ((El p.1 p.2.1 p.2.2.1 p.2.2.2.1).2.map DE))])
section
attribute [local go_sem] mJ mK mL mM SV Ab lm List.length_append List.map_append List.map_nil List.nil_append tn Int.toNat_zero Gl AS.opn AS.cls AS.nilb AS.renb AS.up Bool.not_false Bool.not_true List.set_set List.set_cons_zero List.set_cons_succ List.set_nil List.mem_singleton forall_eq
set_option maxHeartbeats 6400000 in
theorem dk {G : Gt} (hG : Aj G) (hh : G.e 236 = AA 1 mJ ∧ G.e 237 = AA 1 mK ∧ G.e 238 = AA 1 mL ∧ G.e 239 = AA 0 mM) : Gd G 224 (AA 1 Vc) := by
 refine LQ (dp := fun n => !(Nat.beq n 24 || Nat.beq n 78 || Nat.beq n 100003)) (fn := Tryz.f224) (n := 4) rfl hG ?_
 rintro ⟨h, nm, m, cut, ⟨⟩⟩ hpre
 obtain ⟨hn, SK, hm, hc0, hc1⟩ := hpre
 try dsimp only at hn SK hm hc0 hc1 ⊢
 have hm1 := hm.1
 have hm2 := hm.2.1
 have e4 : (#[50, 50, 48, 32] : Array UInt8).size = 4 := rfl
 have e2 : (#[13, 10] : Array UInt8).size = 2 := rfl
 simp -implicitDefEqProofs only [Tryz.f224, go_sem, hh, seval]
 with_reducible repeat' (first | apply ai | intro _ | ((first | apply s1 | apply s3 | apply s4) <;> intro hb <;> simp -implicitDefEqProofs only [hb, go_sem, hh, seval] <;> try simp only [qz] at hb))
 all_goals (try simp only [maxLen, tn] at *)
 all_goals first | with_reducible rfl | omega | with_reducible assumption | decide | (simp only [List.mem_cons, List.mem_singleton, List.not_mem_nil] at *; omega) | skip
 refine Ak (Le.nilb 1011 3 1901 true 2 rfl rfl rfl) ?_
 simp -implicitDefEqProofs only [go_sem, hh, seval]
 refine Ak (Le.nilb 1011 4 1902 true 1 rfl rfl rfl) (AW ?_)
 simp -implicitDefEqProofs only [go_sem, hh, seval]
 with_reducible repeat' (first | apply ai | intro _ | ((first | apply s1 | apply s3 | apply s4) <;> intro hb <;> simp -implicitDefEqProofs only [hb, go_sem, hh, seval] <;> try simp only [qz] at hb))
 all_goals (try simp only [maxLen, tn] at *)
 all_goals first | with_reducible rfl | omega | with_reducible assumption | decide | (simp only [List.mem_cons, List.mem_singleton, List.not_mem_nil] at *; omega) | skip
 refine UR [1028, 1901, 1902] [(12, 902, false, 4)] (ι := {p : Nat × Nat × N7 // cut ≤ 2 * ((p.1 : Int) + p.2.1) ∧ p.1 ≤ 1000 ∧ sE p.1 p.2.2 ∧ LD h cut p.2.1 p.1 p.2.2 = LD h cut cut.toNat 0 (UY h nm m)}) (fun p => ⟨[(3, .t (.v (.int .i64 cut))), (4, .pb 1004 0), (10, .pb 1010 0), (11, .pb 1011 0), (12, .h 902), (13, .t (.sl 1 (p.1.2.2.2.2.2.map AH))), (14, .t (.v (.int .i64 p.1.1)))], [(1004, some (.box ((Cr h).map .t))), (1010, some (.box ((Dj p.1.2.2.1).map .t))), (1011, some (.box ((Ed p.1.2.2.2.1).map .t))), (902, some (.arr false 4 (p.1.2.2.2.2.1.map DE)))]⟩) (fun p => p.1.2.1) ⟨(0, cut.toNat, UY h nm m), by dsimp only; omega, Nat.zero_le _, K2 h SK hm, rfl⟩ rfl ?_ ?_
 ·simp -implicitDefEqProofs only [go_sem, hh, seval]
  simp [qW, yA, UY, BB, AH]
  try trace_state
 ·rintro ⟨⟨n, k, x⟩, hk, hk2, hx, hv⟩
  obtain ⟨x1, x2, x3, x4⟩ := x
  dsimp only at hk hk2 hx hv
  have hc := hx.1
  have hc3 : x1.outs.length ≤ 1000 := by have := hc.1; have := hc.2.1.1; dsimp only at *; omega
  have hl3 := hx.2.2.2.1
  have hbf := hx.2.2.1
  obtain ⟨hq1, hq2⟩ := RR hx
  obtain ⟨hq1, hq2⟩ : S9 (A2 x1 (x4.getD 0 default)).1 ∧ (A2 x1 (x4.getD 0 default)).2.size ≤ 200000 := ⟨hq1, hq2⟩
  have hq3 : (A2 x1 (x4.getD 0 default)).1.outs.length ≤ 1000 := by have := hq1.1; have := hq1.2.1.1; omega
  have hf5 : (A2 x1 (x4.getD 0 default)).1.state = 5 → (Bv h x2 (A2 x1 (x4.getD 0 default)).2).2.2.length ≤ 300000 := fun e => by
   have z := (Ng (h := h) hx).2; rw [jW (show (MF (x1, x2, x3, x4)).1.state = 5 from e)] at z; exact z
  have hf6 : ¬ (A2 x1 (x4.getD 0 default)).1.state = 5 → (Bv h x2 ((A2 x1 (x4.getD 0 default)).2 ++ ⟨#[13, 10]⟩)).2.2.length ≤ 300000 := fun e => by
   have z := (Ng (h := h) hx).2; rw [jV (show ¬ (MF (x1, x2, x3, x4)).1.state = 5 from e)] at z; exact z
  dsimp only at hl3 hbf
  simp -implicitDefEqProofs only [go_sem, hh, seval]
  with_reducible repeat' (first | apply ai | intro _ | ((first | apply s1 | apply s3 | apply s4) <;> intro hb <;> simp -implicitDefEqProofs only [hb, go_sem, hh, seval] <;> try simp only [qz] at hb))
  all_goals (try simp only [maxLen, tn] at *)
  all_goals first
   | with_reducible rfl
   | omega
   | (show _ = true; rfl)
   | with_reducible assumption
   | exact hx.1.2.1
   | exact hx.1.2.2.1
   | exact hx.1.2.2.2.1
   | exact hx.1.2.2.2.2.1
   | exact Nat.le_trans hx.1.2.2.2.2.2 (by decide)
   | (rw [K4 ((Ym (x := (x1, x2, x3, x4)) (.inl (by dsimp only; omega))).symm.trans hv)]; first | done | rfl)
   | (rw [K4 ((Ym (x := (x1, x2, x3, x4)) (.inr (.inl (by with_reducible assumption)))).symm.trans hv)]; first | done | rfl)
   | (rw [K4 ((Ym (x := (x1, x2, x3, x4)) (.inr (.inr (by with_reducible assumption)))).symm.trans hv)]; first | done | rfl)
   | (rw [K4 ((jX (x := (x1, x2, x3, x4)) hk (by with_reducible assumption) (by with_reducible assumption) (by with_reducible assumption) (.inl (show (A2 x1 (x4.getD 0 default)).2 = ⟨#[]⟩ by with_reducible assumption))).symm.trans hv)]; first | done | rfl)
   | (rw [K4 ((jX (x := (x1, x2, x3, x4)) hk (by with_reducible assumption) (by with_reducible assumption) (by with_reducible assumption) (.inr (by with_reducible assumption))).symm.trans hv)]; first | done | rfl)
   | exact hc.2.2.2.2.1 (by with_reducible assumption)
   | exact hx.2.1
   | exact hq3
   | (have := hf5 (by with_reducible assumption); omega)
   | (have := hf6 (by with_reducible assumption); omega)
   | (rw [ByteArray.size_append]; show _ + (_ + 2) ≤ _; omega)
   | (obtain ⟨k, rfl⟩ : ∃ j, k = j + 1 := ⟨k - 1, by omega⟩
      refine ⟨⟨(n + 1, k, Y2 h (x1, x2, x3, x4)), by dsimp only; omega, by dsimp only; omega, (Ng (h := h) hx).1, (vO (x := (x1, x2, x3, x4)) (by with_reducible assumption) (by with_reducible assumption) (by with_reducible assumption) (show ¬ (A2 x1 (x4.getD 0 default)).2 = ⟨#[]⟩ by with_reducible assumption) (by with_reducible assumption)).symm.trans hv⟩, by dsimp only; omega, ?_⟩
      simp -implicitDefEqProofs only [go_sem, hh, seval]
      first
       | (have ee := vR (h := h) (x1 := x1) (x2 := x2) (x3 := x3) (x4 := x4) (by with_reducible assumption); simp only [ee]; simp; done)
       | (have ee := vP (h := h) (x1 := x1) (x2 := x2) (x3 := x3) (x4 := x4) (by with_reducible assumption); simp only [ee]; simp; done)
       | skip)
   | skip
end
open Classical in
noncomputable def GQ (h : Hs) (nm : ByteArray) (m : Ml) (cut : Int) : List Int × List Ml := (if Bm h.spool then El h.conf nm m cut else El h.conf nm m 0)
theorem rh {h : Hs} {nm : ByteArray} {m : Ml} {cut : Int} (h0 : Bm h.spool) : GQ h nm m cut = El h.conf nm m cut := by unfold GQ; rw [if_pos h0]
theorem ri {h : Hs} {nm : ByteArray} {m : Ml} {cut : Int} (h0 : ¬ (Bm h.spool)) : GQ h nm m cut = El h.conf nm m 0 := by unfold GQ; rw [if_neg h0]
def mC : Ct := An (lc FH.ag (lc A0 (lc Um.ag (lc A6 l0)))) (fun p => p.1.conf.name.size ≤ 1000 ∧ p.2.1.size ≤ 1000 ∧ Nl p.2.2.1 ∧ 0 ≤ p.2.2.2.1 ∧ p.2.2.2.1 ≤ 1000) (fun p => .tup [.t (.sl 1 ((GQ p.1 p.2.1 p.2.2.1 p.2.2.2.1).1.map BB)), .t (.sl 4 ((GQ p.1 p.2.1 p.2.2.1 p.2.2.2.1).2.map DE))])
section
attribute [local go_sem] J5 Vc AS.opn AS.cls AS.nilb AS.renb AS.up Bool.not_false Bool.not_true List.set_set List.set_cons_zero List.set_cons_succ List.set_nil List.mem_singleton forall_eq tn List.map_nil List.nil_append
set_option maxHeartbeats 1600000 in
theorem dr {G : Gt} (hG : Aj G) (hh : G.e 147 = AA 0 J5 ∧ G.e 224 = AA 1 Vc) : Gd G 227 (AA 1 mC) := by
 refine gr (fn := Tryz.f227) (n := 4) rfl hG ?_
 rintro ⟨h, nm, m, cut, ⟨⟩⟩ hpre
 obtain ⟨hn, SK, hm, hc0, hc1⟩ := hpre
 try dsimp only at hn SK hm hc0 hc1 ⊢
 refine BQ (Bm h.spool) (fun h0 => have h0' := Ag h0; have e_ : GQ h nm m cut = _ := rh h0; ?_) (fun h0 => have h0' := AO h0; have e_ : GQ h nm m cut = _ := ri h0; ?_)
 all_goals
  try rw [e_]
  simp -implicitDefEqProofs only [Tryz.f227, h0', eq_self, decide_true, decide_false, Int.reduceEq, go_sem, hh, seval]
  with_reducible repeat' (first | apply ai | intro _ | ((first | apply s1 | apply s3 | apply s4) <;> intro hb <;> simp -implicitDefEqProofs only [hb, go_sem, hh, seval] <;> try simp only [qz] at hb))
  all_goals (try simp only [maxLen, tn, lm] at *)
  all_goals first | rfl | omega | decide | with_reducible assumption | (show AT _ = true; rfl) | exact HX (by assumption) | contradiction | skip
end
theorem ME {α β : Type} [Inhabited α] (f : α → β) {xs : List α} {i : Nat} (h : i < xs.length) : (xs.take (i + 1)).map f = (xs.take i).map f ++ [f (xs.getD i default)] := by
 rw [List.take_add_one, List.getElem?_eq_getElem h, List.map_append]; simp [h]
def VT : Ct := An (lc gk.ag l0) (fun p => Zn p.1) (fun p => .agg [.o false 7 ((p.1).hosts.map Ao), .t (.v (.int .i64 (p.1).now)), .t (.v (.int .i64 (p.1).marks)), .o true 3 ((p.1).given.map Ay)])
section
attribute [local go_sem] sJ lm List.length_append List.map_append Ab AS.opn AS.cls AS.nilb AS.renb AS.up Bool.not_false Bool.not_true List.set_set List.set_cons_zero List.set_cons_succ List.set_nil List.mem_singleton forall_eq tn List.map_nil List.nil_append
set_option maxHeartbeats 6400000 in
theorem cw {G : Gt} (hG : Aj G) (hh : G.e 33 = AA 0 sJ) : Gd G 158 (AA 1 VT) := by
 refine LQ (dp := fun n => !(Nat.beq n 100002 || Nat.beq n 100004 || Nat.beq n 29 || Nat.beq n 30)) (fn := Tryz.f158) (n := 1) rfl hG ?_
 rintro ⟨w, ⟨⟩⟩ hpre
 have hw : Zn w := hpre
 have hl1 := hw.1.1
 have hl2 := hw.2.1
 simp -implicitDefEqProofs only [Tryz.f158, go_sem, hh, seval]
 with_reducible repeat' (first | apply ai | intro _ | ((first | apply s1 | apply s3 | apply s4) <;> intro hb <;> simp -implicitDefEqProofs only [hb, go_sem, hh, seval] <;> try simp only [qz] at hb))
 all_goals (try simp only [maxLen, tn] at *)
 all_goals first | with_reducible rfl | omega | with_reducible assumption | (show _ = true; rfl) | skip
 refine Ak (Le.nilb 1003 0 1901 false 7 rfl rfl rfl) (AW ?_)
 simp -implicitDefEqProofs only [go_sem, hh, seval]
 with_reducible repeat' (first | apply ai | intro _ | ((first | apply s1 | apply s3 | apply s4) <;> intro hb <;> simp -implicitDefEqProofs only [hb, go_sem, hh, seval] <;> try simp only [qz] at hb))
 all_goals (try simp only [maxLen, tn] at *)
 all_goals first | with_reducible rfl | omega | with_reducible assumption | (show _ = true; rfl) | skip
 refine AF [] (ι := {i : Nat // i ≤ w.hosts.length}) (fun p => ⟨[(1, .pb 1001 0), (2, .pb 1002 0), (3, .pb 1003 0), (4, .t (.v (.int .i64 p.1)))], [(1001, some (.box ((Ii w).map .t))), (1002, some (.box [.nil, .t (.v (.int .i64 0)), .t (.v (.int .i64 0)), .nil])), (1003, some (.box [.h 1901, .t (.v (.int .i64 w.now)), .t (.v (.int .i64 w.marks)), .h 1012])), (1901, some (.arr false 7 ((w.hosts.take p.1).map Ao))), (1012, some (.arr true 3 (w.given.map Ay)))]⟩) (fun p => w.hosts.length - p.1) ⟨0, Nat.zero_le _⟩ rfl ?_ ?_
 ·simp -implicitDefEqProofs only [go_sem, hh, seval]
  try simp
 ·rintro ⟨i, hi⟩
  dsimp only at hi ⊢
  have hlen : (w.hosts.take i).length = i := by rw [List.length_take]; omega
  by_cases hlt : (i : Int) < w.hosts.length
  ·have hz := hw.1.at (i := i) (by omega)
   simp -implicitDefEqProofs only [hlt, decide_true, go_sem, hh, seval]
   with_reducible repeat' (first | apply ai | intro _ | ((first | apply s1 | apply s3 | apply s4) <;> intro hb <;> simp -implicitDefEqProofs only [hb, go_sem, hh, seval] <;> try simp only [qz] at hb))
   all_goals (try simp only [maxLen, tn] at *)
   all_goals first | with_reducible rfl | omega | with_reducible assumption | (show _ = true; rfl) | skip
   refine Ak (Le.renb 1003 0 1030 1901 rfl rfl rfl rfl) (AW ?_)
   simp -implicitDefEqProofs only [go_sem, hh, seval]
   with_reducible repeat' (first | apply ai | intro _ | ((first | apply s1 | apply s3 | apply s4) <;> intro hb <;> simp -implicitDefEqProofs only [hb, go_sem, hh, seval] <;> try simp only [qz] at hb))
   all_goals first | with_reducible rfl | omega | skip
   refine ⟨⟨i + 1, by omega⟩, by dsimp only; omega, ?_⟩
   simp -implicitDefEqProofs only [go_sem, hh, seval]
   simp only [ME Ao (show i < w.hosts.length by omega)]
   with_reducible repeat' (first | apply ai | intro _ | ((first | apply s1 | apply s3 | apply s4) <;> intro hb <;> simp -implicitDefEqProofs only [hb, go_sem, hh, seval] <;> try simp only [qz] at hb))
   all_goals first | rfl | (simp; done) | skip
  ·have htk : w.hosts.take i = w.hosts := List.take_of_length_le (by omega)
   simp -implicitDefEqProofs only [hlt, htk, decide_false, go_sem, hh, seval]
   with_reducible repeat' (first | apply ai | intro _ | ((first | apply s1 | apply s3 | apply s4) <;> intro hb <;> simp -implicitDefEqProofs only [hb, go_sem, hh, seval] <;> try simp only [qz] at hb))
   all_goals (try simp only [maxLen] at *)
   all_goals first | with_reducible rfl | omega | with_reducible assumption | (show _ = true; rfl) | decide | skip
end
theorem N6 {s : Sp} (h : BI s) {n : Int} {a : Ad} : Cb s n a ↔ ∃ x ∈ s.items, x.id = n ∧ ∃ r ∈ x.to, r.addr = a :=
 ⟨HF, fun ⟨x, hx, e, r, hr, e2⟩ => by rw [← e, ← e2]; exact (Fp h hx hr).1⟩
theorem Zx {s : Sp} {m : Ml} {w n : Int} {a : Ad} (h : BI (GJ s m w)) (q : Cb s n a) : Cb (GJ s m w) n a := by
 obtain ⟨x, hx, e⟩ := HF q
 exact (N6 h).2 ⟨x, List.mem_append_left _ hx, e⟩
theorem Kc {α : Type} [Inhabited α] {xs : List α} {i : Nat} {x y : α} (hx : x ∈ xs) (hi : i < xs.length) : x ∈ xs.set i y ∨ x = xs.getD i default := by
 obtain ⟨j, hj, rfl⟩ := List.getElem_of_mem hx
 by_cases e : i = j
 ·subst e; exact .inr (by simp [hj])
 ·exact .inl (by rw [List.mem_iff_getElem]; exact ⟨j, by simpa using hj, by rw [List.getElem_set_ne e]⟩)
theorem HW {α : Type} {xs : List α} {i : Nat} {y : α} (hi : i < xs.length) : y ∈ xs.set i y := List.mem_set hi y
theorem Zy {s : Sp} {i k : Nat} {w n : Int} {a : Ad} (h : BI (KZ s i k w)) (hi : i < s.items.length) (hk : k < (s.items.getD i default).to.length) (q : Cb s n a) : Cb (KZ s i k w) n a := by
 obtain ⟨x, hx, e, r, hr, e2⟩ := HF q
 refine (N6 h).2 ?_
 show ∃ y ∈ s.items.set i (LS (s.items.getD i default) k w), y.id = n ∧ ∃ r ∈ y.to, r.addr = a
 rcases Kc (y := LS (s.items.getD i default) k w) hx hi with hm | rfl
 ·exact ⟨x, hm, e, r, hr, e2⟩
 ·refine ⟨_, HW hi, e, ?_⟩
  show ∃ r ∈ (s.items.getD i default).to.set k (T7 ((s.items.getD i default).to.getD k default) w), r.addr = a
  rcases Kc (y := T7 ((s.items.getD i default).to.getD k default) w) hr hk with hm | rfl
  ·exact ⟨r, hm, e2⟩
  ·exact ⟨_, HW hk, e2⟩
theorem GZ {s : Sp} (h : BI s) {n : Int} {a : Ad} (q : Cb s n a) : BL a ∧ Co (AM s n) ∧ (Ai s n).toNat < s.items.length ∧ (Aw (AM s n) a).toNat < (s.items.getD (Ai s n).toNat default).to.length := by
 have i1 := BS q.1
 have k1 := C3 q.2
 have hx : Co (AM s n) := (h.1 _ (AE (xs := s.items) (j := (Ai s n).toNat) (by omega))).1
 have hr := (hx.1 _ (AE (xs := (AM s n).to) (j := (Aw (AM s n) a).toNat) (by omega))).1
 rw [Dc q.2] at hr
 exact ⟨hr, hx, by omega, by show _ < (AM s n).to.length; omega⟩
theorem He {h : Hs} {n : Int} {a : Ad} {out w : Int} (hs : BI h.spool) (q : Cb h.spool n a) (hw : 0 ≤ w ∧ w ≤ 9999) : BI (Bk h (Ai h.spool n).toNat (Aw (AM h.spool n) a).toNat a out w).spool ∧
    ∀ n' a', Cb h.spool n' a' → ¬ (n = n' ∧ a = a') → Cb (Bk h (Ai h.spool n).toNat (Aw (AM h.spool n) a).toNat a out w).spool n' a' := by
 obtain ⟨ha, hx, hi, hk⟩ := GZ hs q
 have hd := De hs hi hk
 have td : ∀ n' a', Cb h.spool n' a' → ¬ (n = n' ∧ a = a') → Cb (B7 h.spool (Ai h.spool n).toNat (Aw (AM h.spool n) a).toNat) n' a' := fun n' a' q' ne => Rg hs q q' ne
 unfold Bk
 split
 ·exact ⟨hd, td⟩
 ·split
  ·rename_i hl
   have hl2 := L4 hs hi hk hl.2 hw.1
   exact ⟨hl2, fun n' a' q' _ => Zy hl2 hi hk q'⟩
  ·by_cases z : AU (h.spool.items.getD (Ai h.spool n).toNat default).frm ∨ ¬ Bm (B7 h.spool (Ai h.spool n).toNat (Aw (AM h.spool n) a).toNat)
   ·rw [KH z]; exact ⟨hd, td⟩
   ·rw [M5 z]
    have hrm : Bm (B7 h.spool (Ai h.spool n).toNat (Aw (AM h.spool n) a).toNat) := Classical.byContradiction fun y => z (.inr y)
    have ha2 := H3 hd (Lm hx ha fun y => z (.inl y)) hw hrm
    exact ⟨ha2, fun n' a' q' ne => Zx ha2 (td n' a' q' ne)⟩
theorem E5 (h : Hs) (i k : Nat) (a : Ad) (out w : Int) : (Bk h i k a out w).conf = h.conf ∧ (Bk h i k a out w).boxes = h.boxes ∧ ((Bk h i k a out w).lost = h.lost ∨ (Bk h i k a out w).lost = h.lost ++ [⟨Br (h.spool.items.getD i default).body, a⟩]) := by
 unfold Bk EH
 repeat' split
 all_goals first | exact ⟨rfl, rfl, .inl rfl⟩ | exact ⟨rfl, rfl, .inr rfl⟩
theorem YA {h : Hs} {n : Int} {a : Ad} {out w : Int} (q : Dz h) (t : Cb h.spool n a) (hw : 0 ≤ w ∧ w ≤ 9999) : Dz (Bk h (Ai h.spool n).toNat (Aw (AM h.spool n) a).toNat a out w) := by
 obtain ⟨r1, r2, _⟩ := E5 h (Ai h.spool n).toNat (Aw (AM h.spool n) a).toNat a out w
 refine ⟨fun j hj => ?_, by rw [r1]; exact q.2.1, (He q.2.2 t hw).1⟩
 have := q.1 j (by rw [r2] at hj; exact hj)
 unfold Uk at this ⊢
 rw [r1, r2]
 exact this
theorem gZ {h : Hs} {m : Ml} {w : Int} (q : Dz h) (hm : CM m) (hl : m.body.length < 12) (hw : 0 ≤ w ∧ w ≤ 9999) (hr : Bm h.spool) : Dz (Pa h m w) := ⟨q.1, q.2.1, H3 q.2.2 (qA q.2.1.2.2.1 hm hl) hw hr⟩
def FJ (h : Hs) : Prop := (∀ b ∈ h.boxes, jn b ∧ b.addr.domain ∈ h.conf.own) ∧ Jl h.boxes ∧ LE h.conf ∧ BI h.spool
theorem DS {h : Hs} : Dz h ↔ FJ h := by
 constructor
 ·intro q
  refine ⟨fun b hb => ?_, OE fun j h0 hj => (q.1 j hj).2.1 h0, q.2.1, q.2.2⟩
  obtain ⟨j, hj, rfl⟩ := List.getElem_of_mem hb
  have := q.1 j hj
  unfold Uk at this
  have e : h.boxes.getD j default = h.boxes[j] := by simp [hj]
  rw [e] at this
  exact ⟨this.1, this.2.2⟩
 ·intro q
  refine ⟨fun j hj => ⟨(q.1 _ (AE hj)).1, fun h0 => ?_, (q.1 _ (AE hj)).2⟩, q.2.2.1, q.2.2.2⟩
  have := List.pairwise_iff_getElem.1 q.2.1 (j - 1) j (by omega) hj (by omega)
  rw [← H7]
  simpa [hj, show j - 1 < h.boxes.length by omega] using this
theorem TZ {bs : List Bx} {a : Ad} {g : Gm} {b : Bx} (h : b ∈ EW bs a g) : b ∈ bs ∨ (∃ b0 ∈ bs, b = ⟨b0.addr, b0.mails ++ [g]⟩) ∨ b = ⟨a, [g]⟩ := by
 cases hf : GN bs a
 ·rw [Fy hf] at h
  rcases List.mem_append.1 h with h | h
  ·exact .inl (List.mem_of_mem_take h)
  ·rcases List.mem_cons.1 h with h | h
   ·exact .inr (.inr h)
   ·exact .inl (List.mem_of_mem_drop h)
 ·rw [HN hf] at h
  rcases List.mem_or_eq_of_mem_set h with h | h
  ·exact .inl h
  ·exact .inr (.inl ⟨_, AE (M3 hf), h⟩)
def ES (N : Nat) (h : Hs) : Prop := h.boxes.length ≤ N ∧ (∀ b ∈ h.boxes, b.mails.length ≤ N) ∧ h.lost.length ≤ N ∧ ∀ l ∈ h.lost, TC l
theorem B8 {N M : Nat} {h : Hs} (q : ES N h) (l : N ≤ M) : ES M h := ⟨Nat.le_trans q.1 l, fun b hb => Nat.le_trans (q.2.1 b hb) l, Nat.le_trans q.2.2.1 l, q.2.2.2⟩
theorem RY {c : Cf} (h : LE c) : LK c := by
 obtain ⟨h1, h2, h3, h4, h5⟩ := h
 have d : ∀ {s : ByteArray}, D4 s → Bl s := fun {s} q => by have := (C2 q).2; show s.size ≤ 1048576; omega
 exact ⟨d h3, ⟨by omega, fun s hs => d (h1 s hs)⟩, ⟨by omega, fun w hw => ⟨d (h2 w hw).1, d (h2 w hw).2⟩⟩⟩
theorem Df {N : Nat} {h : Hs} (q : FJ h) (n : ES N h) (hN : N ≤ 1048576) : ET h := by
 obtain ⟨n1, n2, n3, n4⟩ := n
 refine ⟨RY q.2.2.1, HE q.2.2.2, ⟨by omega, fun b hb => ?_⟩, ⟨by omega, n4⟩⟩
 have hbo := (q.1 b hb).1
 have := n2 b hb
 exact ⟨By (.inl hbo.2), ⟨by omega, fun g hg => ⟨By (hbo.1 g hg).1, HC (hbo.1 g hg).2⟩⟩⟩
theorem eY {g : Hs} {x : Im} {a : Ad} {c : Cf} {R : List (Int × Ad)} (q : FJ g) (k : Kp c g ((x.id, a) :: R)) (hx : Co x) (ha : BL a) (hd : a.domain ∈ g.conf.own) : FJ (HT g x a) := by
 have hk := k.step
 refine ⟨fun b hb => ?_, J3 q.2.1, q.2.2.1, hk.sp⟩
 have hg : (BL x.frm ∨ AU x.frm) ∧ DQ x.body := ⟨hx.2.2.2.1, hx.2.2.2.2.2⟩
 rcases TZ hb with h | ⟨b0, h0, rfl⟩ | rfl
 ·exact q.1 b h
 ·refine ⟨⟨fun y hy => ?_, (q.1 b0 h0).1.2⟩, (q.1 b0 h0).2⟩
  rcases List.mem_append.1 hy with hy | hy
  ·exact (q.1 b0 h0).1.1 y hy
  ·rw [List.mem_singleton] at hy; subst hy; exact hg
 ·exact ⟨⟨fun y hy => by rw [List.mem_singleton] at hy; subst hy; exact hg, ha⟩, hd⟩
theorem eZ {N : Nat} {g : Hs} {x : Im} {a : Ad} (n : ES N g) : ES (N + 1) (HT g x a) := ⟨Nat.le_trans (Ln _ _ _) (Nat.succ_le_succ n.1), Ig n.2.1, Nat.le_succ_of_le n.2.2.1, n.2.2.2⟩
theorem SR {x : Im} {c : Cf} (hx : Co x) : ∀ (ads : List Ad) {g : Hs} {N : Nat} {R : List (Int × Ad)}, FJ g → ES N g → Kp c g ((ads.map fun a => (x.id, a)) ++ R) → (∀ a ∈ ads, BL a ∧ a.domain ∈ c.own) → FJ (KT x ads g) ∧ ES (N + ads.length) (KT x ads g) ∧ Kp c (KT x ads g) R
 | [], g, N, R, q, n, k, _ => ⟨q, n, k⟩
 | a :: r, g, N, R, q, n, k, h => by
   have ha := h a (List.mem_cons_self ..)
   have z := SR hx r (eY q k hx ha.1 (by rw [k.cf]; exact ha.2)) (eZ (x := x) (a := a) n) (k.step (x := x) (a := a)) fun b hb => h b (List.mem_cons_of_mem _ hb)
   refine ⟨z.1, ?_, z.2.2⟩
   have e : N + (a :: r).length = N + 1 + r.length := by rw [List.length_cons]; omega
   rw [e]; exact z.2.1
theorem SQ {c : Cf} {w : Int} : ∀ (xs : List Im) {g : Hs} {N : Nat}, FJ g → ES N g → Kp c g (Ge c w xs) → (∀ x ∈ xs, Co x) → FJ (EA c w xs g) ∧ ES (N + xs.length * 4) (EA c w xs g)
 | [], g, N, q, n, _, _ => ⟨q, by show ES (N + 0 * 4) g; rw [Nat.zero_mul]; exact n⟩
 | x :: t, g, N, q, n, k, h => by
   have hx := h x (List.mem_cons_self ..)
   have z := SR (c := c) hx (BC c ⟨#[]⟩ w x.to) (R := Ge c w t) q n k fun a ha => by
    obtain ⟨r, hr, e, nr⟩ := Ei c ⟨#[]⟩ w x.to a ha
    rw [← e]
    refine ⟨(hx.1 r hr).1, ?_⟩
    rcases nr.2 with y | y
    ·exact y.1
    ·exact absurd rfl y.2.1
   have z2 := SQ t z.1 z.2.1 z.2.2 fun y hy => h y (List.mem_cons_of_mem _ hy)
   have hl := Ff c ⟨#[]⟩ w x.to
   have h4 := hx.2.2.2.2.1.2
   exact ⟨z2.1, B8 z2.2 (by rw [List.length_cons]; omega)⟩
theorem qB {h : Hs} {w : Int} {N : Nat} (q : FJ h) (n : ES N h) (hN : N ≤ 1048576) : FJ (EA h.conf w h.spool.items h) ∧ ES (N + 40) (EA h.conf w h.spool.items h) := by
 have k := Ny (w := w) (DS.2 q) (Df q n hN)
 have z := SQ h.spool.items q n k fun x hx => (q.2.2.2.1 x hx).1
 have hl := q.2.2.2.2.2.2
 exact ⟨z.1, B8 z.2 (by omega)⟩
theorem Xi {b : List ByteArray} (h : DQ b) : Bl (Br b) := by
 rcases Fd b with e | e
 ·rw [e]; show (⟨#[]⟩ : ByteArray).size ≤ 1048576; decide
 ·exact (HC h).2 _ e
theorem Hd {h : Hs} {n : Int} {a : Ad} {out w : Int} {N : Nat} (q : FJ h) (hn : ES N h) (t : Cb h.spool n a) (hw : 0 ≤ w ∧ w ≤ 9999) : FJ (Bk h (Ai h.spool n).toNat (Aw (AM h.spool n) a).toNat a out w) ∧ ES (N + 1) (Bk h (Ai h.spool n).toNat (Aw (AM h.spool n) a).toNat a out w) := by
 refine ⟨DS.1 (YA (DS.2 q) t hw), ?_⟩
 obtain ⟨r1, r2, r3⟩ := E5 h (Ai h.spool n).toNat (Aw (AM h.spool n) a).toNat a out w
 obtain ⟨t1, t2, _⟩ := GZ q.2.2.2 t
 unfold ES
 rw [r2]
 refine ⟨Nat.le_succ_of_le hn.1, fun b hb => Nat.le_succ_of_le (hn.2.1 b hb), ?_⟩
 rcases r3 with e | e
 ·rw [e]; exact ⟨Nat.le_succ_of_le hn.2.2.1, hn.2.2.2⟩
 ·rw [e]
  refine ⟨by rw [List.length_append]; exact Nat.succ_le_succ hn.2.2.1, fun l hl => ?_⟩
  rcases List.mem_append.1 hl with hl | hl
  ·exact hn.2.2.2 l hl
  ·rw [List.mem_singleton] at hl; subst hl
   exact ⟨Xi t2.2.2.2.2.2, By (.inl t1)⟩
theorem Yo {h : Hs} {m : Ml} {w : Int} {N : Nat} (q : FJ h) (n : ES N h) (hm : CM m) (hl : m.body.length < 12) (hw : 0 ≤ w ∧ w ≤ 9999) (hr : Bm h.spool) : FJ (Pa h m w) ∧ ES N (Pa h m w) := ⟨DS.1 (gZ (DS.2 q) hm hl hw hr), n⟩
def mD : Ct := An (lc gk.ag (lc A0 l0)) (fun p => True) (fun p => .t (.v (.int .i64 (A4 (fun h : Hs => h.conf.name = p.2.1) 0 p.1.hosts))))
section
attribute [local go_sem] lm
theorem dt {G : Gt} (hG : Aj G) : Gd G 228 (AA 0 mD) := by
 refine gr (fn := Tryz.f228) (n := 2) rfl hG ?_
 rintro ⟨w, a, ⟨⟩⟩ hpre
 simp -implicitDefEqProofs only [Tryz.f228, go_sem, seval] at hpre ⊢
 refine AF [] (ι := {i : Nat // i ≤ w.hosts.length ∧ A4 (fun h : Hs => h.conf.name = a) 0 w.hosts = A4 (fun h : Hs => h.conf.name = a) i (w.hosts.drop i)}) (fun p => ⟨[(1, .t (.v (.string a))), (2, .pb 1002 0), (5, .t (.v (.int .i64 p.1)))], [(1002, some (.box ((Ii w).map .t)))]⟩) (fun p => w.hosts.length - p.1) ⟨0, by simp, rfl⟩ rfl ?_ ?_
 ·simp -implicitDefEqProofs only [go_sem, seval]
  try simp
 ·rintro ⟨i, hi, hix⟩
  by_cases hlt : (i : Int) < w.hosts.length
  ·simp -implicitDefEqProofs only [hlt, decide_true, tn, go_sem, seval]
   with_reducible repeat' (first | apply ai | intro _ | ((first | apply s1 | apply s3 | apply s4) <;> intro hb <;> simp -implicitDefEqProofs only [hb, go_sem, seval] <;> try simp only [qz] at hb))
   all_goals (try simp only [maxLen, tn] at *)
   all_goals first | rfl | omega | skip
   ·rw [hix, CT (p := fun h : Hs => h.conf.name = a) (by omega) hb]
   ·refine ⟨⟨i + 1, by omega, by rw [hix, DM (p := fun h : Hs => h.conf.name = a) (by omega) hb]⟩, by dsimp only; omega, ?_⟩
    simp -implicitDefEqProofs only [go_sem, seval]
    try simp
  ·simp -implicitDefEqProofs only [hlt, decide_false, go_sem, seval]
   with_reducible repeat' (first | apply ai | intro _ | ((first | apply s1 | apply s3 | apply s4) <;> intro hb <;> simp -implicitDefEqProofs only [hb, go_sem, seval] <;> try simp only [qz] at hb))
   all_goals first | rfl | omega | skip
   rw [hix, CS (by omega)]
end
def Hi (a : Wd) : AV := .agg [.o false 7 (a.hosts.map Ao), .t (.v (.int .i64 a.now)), .t (.v (.int .i64 a.marks)), .o true 3 (a.given.map Ay)]
def jS : AV → Option Wd
 | .agg [x0, .t (.v (.int .i64 x1)), .t (.v (.int .i64 x2)), x3] => Gv x1 x2 (FH.owD false 7 x0) (FI.owD true 3 x3)
 | _ => none
def sB : AD Wd where
 enc := Hi
 dec := jS
 ed := fun a => by
  show Gv a.now a.marks (FH.owD false 7 ((FH.aow false 7).enc a.hosts)) (FI.owD true 3 ((FI.aow true 3).enc a.given)) = _
  rw [show FH.owD false 7 ((FH.aow false 7).enc a.hosts) = some a.hosts from (FH.aow false 7).ed _, show FI.owD true 3 ((FI.aow true 3).enc a.given) = some a.given from (FI.aow true 3).ed _]
  rfl
 de := fun x m h => by
  unfold jS at h
  split at h
  ·unfold Gv at h
   split at h
   ·rename_i e0 e1
    cases h
    have q0 := (FH.aow false 7).de _ _ e0
    subst q0
    have q1 := (FI.aow true 3).de _ _ e1
    subst q1
    rfl
   ·cases h
  ·cases h
theorem Fl (a : Wd) : sB.enc a = .agg [.o false 7 (a.hosts.map Ao), .t (.v (.int .i64 a.now)), .t (.v (.int .i64 a.marks)), .o true 3 (a.given.map Ay)] := rfl
theorem Fk {x0 : List (List T)} {x1 : Int} {x2 : Int} {x3 : List (List T)} : sB.dec (.agg [.o false 7 x0, .t (.v (.int .i64 x1)), .t (.v (.int .i64 x2)), .o true 3 x3]) = Gv x1 x2 (FH.decL x0) (FI.decL x3) := rfl
def HG (N : Nat) (w : Wd) : Prop := (∀ h ∈ w.hosts, FJ h ∧ ES N h) ∧ (1 ≤ w.hosts.length ∧ w.hosts.length ≤ 4) ∧ (0 ≤ w.now ∧ w.now ≤ 9999) ∧ (0 ≤ w.marks ∧ w.marks ≤ 60) ∧ w.given.length ≤ N ∧ ∀ l ∈ w.given, TC l
def xT (w : Wd) (c : Cf) (ls : Bool) (r : Rc) : Prop := r.next ≤ w.now ∧ ¬ r.addr.domain ∈ c.own ∧ (ls = true ∨ A4 (fun h : Hs => h.conf.name = Pb c r.addr.domain) 0 w.hosts < 0)
noncomputable def IR (h : Hs) (n : Int) (a : Ad) (out w : Int) : Hs := Bk h (Ai h.spool n).toNat (Aw (AM h.spool n) a).toNat a out w
open Classical in
noncomputable def SJ (w : Wd) (c : Cf) (ls : Bool) (n : Int) : List Rc → Hs × Bool → Hs × Bool
 | [], x => x
 | r :: t, x => if xT w c ls r then SJ w c ls n t (IR x.1 n r.addr 3 w.now, true) else SJ w c ls n t x
theorem uH {w : Wd} {c : Cf} {ls : Bool} {n : Int} {rs : List Rc} {i : Nat} {x : Hs × Bool} (h : i < rs.length) (q : xT w c ls (rs.getD i default)) : SJ w c ls n (rs.drop i) x = SJ w c ls n (rs.drop (i + 1)) (IR x.1 n (rs.getD i default).addr 3 w.now, true) := by rw [Ac h, SJ, if_pos q]
theorem uG {w : Wd} {c : Cf} {ls : Bool} {n : Int} {rs : List Rc} {i : Nat} {x : Hs × Bool} (h : i < rs.length) (q : ¬ xT w c ls (rs.getD i default)) : SJ w c ls n (rs.drop i) x = SJ w c ls n (rs.drop (i + 1)) x := by rw [Ac h, SJ, if_neg q]
theorem iy {w : Wd} {c : Cf} {ls : Bool} {n : Int} {rs : List Rc} {i : Nat} {x : Hs × Bool} (h : rs.length ≤ i) : SJ w c ls n (rs.drop i) x = x := by rw [List.drop_of_length_le h]; rfl
noncomputable abbrev Ap (w : Wd) (k : Int) : Hs := w.hosts.getD k.toNat default
noncomputable abbrev JY (h : Hs) (n : Int) : Im := h.spool.items.getD (Ai h.spool n).toNat default
noncomputable def W4 (w : Wd) (e : Ev) : Hs × Bool := SJ w (Ap w e.host).conf e.lose e.id (JY (Ap w e.host) e.id).to (Ap w e.host, false)
def UN (w : Wd) (k : Int) (h : Hs) : Wd := ⟨w.hosts.set k.toNat h, w.now, w.marks, w.given⟩
open Classical in
noncomputable def KJ (w : Wd) (e : Ev) : Wd × Bool := if 0 ≤ e.host ∧ e.host ≤ (w.hosts.length : Int) - 1 then (if Ai (Ap w e.host).spool e.id < 0 then (w, false) else (UN w e.host (W4 w e).1, (W4 w e).2)) else (w, false)
theorem oR {w : Wd} {e : Ev} (h : ¬ (0 ≤ e.host ∧ e.host ≤ (w.hosts.length : Int) - 1)) : KJ w e = (w, false) := if_neg h
theorem oS {w : Wd} {e : Ev} (h : 0 ≤ e.host ∧ e.host ≤ (w.hosts.length : Int) - 1) (h2 : Ai (Ap w e.host).spool e.id < 0) : KJ w e = (w, false) := by unfold KJ; rw [if_pos h, if_pos h2]
theorem oT {w : Wd} {e : Ev} (h : 0 ≤ e.host ∧ e.host ≤ (w.hosts.length : Int) - 1) (h2 : ¬ Ai (Ap w e.host).spool e.id < 0) : KJ w e = (UN w e.host (W4 w e).1, (W4 w e).2) := by unfold KJ; rw [if_pos h, if_neg h2]
theorem ul {xs : List Rc} {i j : Nat} (h : (xs.map Rc.addr).Nodup) (hi : i < j) (hj : j < xs.length) : ¬ (xs.getD i default).addr = (xs.getD j default).addr := by
 have z := List.pairwise_iff_getElem.1 h i j (by rw [lm]; omega) (by rw [lm]; omega) hi
 simpa [hj, show i < xs.length by omega] using z
def l5 : Mt := GL (lc sB (lc Pn.ag l0)) (fun p => HG 1000000 p.1) (fun p => ([.any, Pn.ag.enc p.2.1], .tup [Hi (KJ p.1 p.2.1).1, .t (.v (.bool (KJ p.1 p.2.1).2))]))
section
attribute [local go_sem] J6 aq ay QH mD ar CN Fl Fk Hi.eq_1 Gv.eq_1 Ab BR Kv lm AS.opn AS.cls AS.nilb AS.renb AS.up Bool.not_false Bool.not_true List.set_set List.set_cons_zero List.set_cons_succ List.set_nil List.mem_singleton forall_eq tn List.map_nil List.nil_append
set_option maxHeartbeats 6400000 in
theorem da {G : Gt} (hG : Aj G) (hh : G.e 36 = AA 0 J6 ∧ G.e 34 = AA 0 aq ∧ G.e 87 = AA 0 ay ∧ G.e 171 = AA 0 QH ∧ G.e 228 = AA 0 mD ∧ G.e 37 = AA 1 ar) : Gd G 208 (AN l5) := by
 refine Ik (dp := fun _ => true) (fn := Tryz.f208) (n := 2) rfl hG ?_
 rintro ⟨w, e, ⟨⟩⟩ hpre
 have hw : HG 1000000 w := hpre
 try dsimp only
 have hl := hw.2.1
 by_cases h0 : 0 ≤ e.host ∧ e.host ≤ (w.hosts.length : Int) - 1
 ·have h0' := Ag h0
  by_cases h1 : Ai (Ap w e.host).spool e.id < 0
  ·skip
   rw [oS h0 h1]
   simp -implicitDefEqProofs only [Tryz.f208, h0', h1, eq_self, decide_true, decide_false, go_sem, hh, seval]
   with_reducible repeat' (first | apply ai | intro _ | ((first | apply s1 | apply s3 | apply s4) <;> intro hb <;> simp -implicitDefEqProofs only [hb, go_sem, hh, seval] <;> try simp only [qz] at hb))
   all_goals (try simp only [maxLen, tn, Aa, AZ] at *)
   all_goals first | with_reducible rfl | omega | with_reducible assumption | (show _ = true; rfl) | contradiction | decide | skip
  ·rw [oT h0 h1]
   have hH := hw.1 _ (AE (xs := w.hosts) (j := e.host.toNat) (by omega))
   have i1 : 0 ≤ A4 (fun x : Im => x.id = e.id) 0 (Ap w e.host).spool.items ∧ A4 (fun x : Im => x.id = e.id) 0 (Ap w e.host).spool.items < (Ap w e.host).spool.items.length := by have := BS h1; unfold Ai at this h1; omega
   have hil : (Ai (Ap w e.host).spool e.id).toNat < (Ap w e.host).spool.items.length := by have := BS h1; omega
   have hx := (hH.1.2.2.2.1 _ (AE (xs := (Ap w e.host).spool.items) (j := (Ai (Ap w e.host).spool e.id).toNat) hil)).1
   have hx4 : (JY (Ap w e.host) e.id).to.length ≤ 4 := hx.2.2.2.2.1.2
   have hw2 := hw.2.2.1
   simp -implicitDefEqProofs only [Tryz.f208, h0', h1, eq_self, decide_true, decide_false, go_sem, hh, seval]
   with_reducible repeat' (first | apply ai | intro _ | ((first | apply s1 | apply s3 | apply s4) <;> intro hb <;> simp -implicitDefEqProofs only [hb, go_sem, hh, seval] <;> try simp only [qz] at hb))
   all_goals (try simp only [maxLen, tn, Aa, AZ] at *)
   all_goals first | with_reducible rfl | omega | exact i1.2 | with_reducible assumption | (show _ = true; rfl) | contradiction | skip
   refine AF [] (ι := {p : Nat × Hs × Bool // p.1 ≤ (JY (Ap w e.host) e.id).to.length ∧ (FJ p.2.1 ∧ ES (1000000 + p.1) p.2.1 ∧ p.2.1.conf = (Ap w e.host).conf) ∧ (∀ j, p.1 ≤ j → j < (JY (Ap w e.host) e.id).to.length → Cb p.2.1.spool e.id ((JY (Ap w e.host) e.id).to.getD j default).addr) ∧ SJ w (Ap w e.host).conf e.lose e.id ((JY (Ap w e.host) e.id).to.drop p.1) p.2 = W4 w e}) (fun p => ⟨[(2, .pb 1002 0), (3, .pb 1003 0), (4, .pb 1004 0), (6, .pb 1006 0), (8, .t (.sl 4 ((JY (Ap w e.host) e.id).to.map BD))), (9, .t (.v (.bool p.1.2.2))), (10, .t (.v (.int .i64 p.1.1)))], [(1002, some (.box [.h 1900, .t (.v (.int .i64 w.now)), .t (.v (.int .i64 w.marks)), .h 2900])), (1003, some (.box ((Cs e).map .t))), (1004, some (.box [.nil, .t (.v (.int .i64 0)), .t (.v (.int .i64 0)), .nil])), (1006, some (.box ((Ao p.1.2.1).map .t))), (1900, some (.arr false 7 (w.hosts.map Ao))), (2900, some (.arr true 3 (w.given.map Ay)))]⟩) (fun p => (JY (Ap w e.host) e.id).to.length - p.1.1) ⟨(0, (Ap w e.host), false), Nat.zero_le _, ⟨hH.1, hH.2, rfl⟩, fun j _ hj => ?_, rfl⟩ rfl ?_ ?_
   ·have e1 := Ey h1
    have z := (Fp hH.1.2.2.2 (x := JY (Ap w e.host) e.id) (AE hil) (AE hj)).1
    have e2 : (JY (Ap w e.host) e.id).id = e.id := e1
    rw [e2] at z
    exact z
   ·simp -implicitDefEqProofs only [go_sem, hh, seval]
    first | (simp; done) | ((repeat' (first | with_reducible apply And.intro | rfl)); done)
   ·rintro ⟨⟨k, x, dn⟩, hk, ⟨hxK, hxN, hxc⟩, htd, hv⟩
    dsimp only at hk hxK hxN hxc htd hv
    have hok := Df hxK hxN (by omega)
    have hsp := hxK.2.2.2
    have hxe : (⟨(Ap w e.host).conf, x.spool, x.boxes, x.lost⟩ : Hs) = x := by rw [← hxc]
    simp -implicitDefEqProofs only [hxc, go_sem, hh, seval]
    with_reducible repeat' (first | apply ai | intro _ | ((first | apply s1 | apply s3 | apply s4) <;> intro hb <;> simp -implicitDefEqProofs only [hb, go_sem, hh, seval] <;> try simp only [qz] at hb))
    all_goals (try simp only [maxLen, tn, Aa, AZ] at *)
    all_goals first
     | with_reducible rfl
     | omega
     | with_reducible assumption
     | (show _ = true; rfl)
     | exact hok.2.1
     | exact (htd k (Nat.le_refl _) (by omega)).1
     | exact (htd k (Nat.le_refl _) (by omega)).2
     | exact .inr ⟨hxc ▸ hok, hw2⟩
     | (rw [iy (by omega)] at hv; rw [← hv, ← hxc]; first | done | rfl)
     | (rw [iy (by omega)] at hv; rw [← hv]; first | done | rfl)
     | (show _ = T.v _; rfl)
     | (show _ = List.map Ay _; rfl)
     | (show List.Nodup _; decide)
     | (have hkl : k < (JY (Ap w e.host) e.id).to.length := by omega
        have ht := htd k (Nat.le_refl _) hkl
        have z := Hd (out := 3) hxK hxN ht hw2
        refine ⟨⟨(k + 1, IR x e.id ((JY (Ap w e.host) e.id).to.getD k default).addr 3 w.now, true), by dsimp only; omega, ⟨z.1, z.2, (E5 _ _ _ _ _ _).1.trans hxc⟩, fun j hj hj2 => (He hsp ht hw2).2 _ _ (htd j (by dsimp only at hj; omega) hj2) (fun y => ul hx.2.1 (by dsimp only at hj; omega) hj2 y.2), (uH hkl ⟨by first | omega | with_reducible assumption, by with_reducible assumption, by first | exact .inl (by with_reducible assumption) | exact .inr (by with_reducible assumption)⟩).symm.trans hv⟩, by dsimp only; omega, ?_⟩
        simp -implicitDefEqProofs only [go_sem, hh, seval]
        first | (simp only [hxe, IR]; simp; done) | skip)
     | (have hkl : k < (JY (Ap w e.host) e.id).to.length := by omega
        refine ⟨⟨(k + 1, x, dn), by dsimp only; omega, ⟨hxK, B8 hxN (by omega), hxc⟩, fun j hj hj2 => htd j (by dsimp only at hj; omega) hj2, (uG hkl (fun q => by first | exact absurd q.1 (by with_reducible assumption) | (have := q.1; omega) | exact q.2.1 (by with_reducible assumption) | (rcases q.2.2 with y | y <;> first | (simp_all; done) | omega))).symm.trans hv⟩, by dsimp only; omega, ?_⟩
        simp -implicitDefEqProofs only [go_sem, hh, seval]
        first | (simp; done) | (simp [hxe, hxc]; done) | skip)
     | skip
 ·have h0' := AO h0
  rw [oR h0]
  simp -implicitDefEqProofs only [Tryz.f208, h0', eq_self, decide_true, decide_false, go_sem, hh, seval]
  with_reducible repeat' (first | apply ai | intro _ | ((first | apply s1 | apply s3 | apply s4) <;> intro hb <;> simp -implicitDefEqProofs only [hb, go_sem, hh, seval] <;> try simp only [qz] at hb))
  all_goals (try simp only [maxLen, tn, Aa, AZ] at *)
  all_goals first | with_reducible rfl | omega | with_reducible assumption | (show _ = true; rfl) | contradiction | decide | skip
end
instance wG (c : Cf) : Decidable (LE c) := by unfold LE; infer_instance
theorem R5 (k : Int) : (∀ c ∈ E0 k, LE c) ∧ ((E0 k).map Cf.name).Nodup := by
 unfold E0
 split
 ·exact ⟨by decide +kernel, by decide +kernel⟩
 ·split
  ·exact ⟨by decide +kernel, by decide +kernel⟩
  ·split
   ·exact ⟨by decide +kernel, by decide +kernel⟩
   ·exact ⟨by decide +kernel, by decide +kernel⟩
theorem Sg {c : Cf} (h : LE c) : FJ (EB c) ∧ ES 0 (EB c) := ⟨⟨fun _ q => (by cases q), List.Pairwise.nil, h, Uz⟩, Nat.le_refl _, fun _ q => (by cases q), Nat.le_refl _, fun _ q => by cases q⟩
theorem a9 (k : Int) : kE (FC (E0 k)) := by
 obtain ⟨h1, h2⟩ := R5 k
 obtain ⟨_, h3, h4⟩ := Mn k
 have hl : (FC (E0 k)).hosts.length = (E0 k).length := lm _
 refine ⟨fun h hh => ?_, ?_, fun _ q => (by cases q), ⟨by omega, by omega⟩, ⟨Int.le_refl _, by show (0 : Int) ≤ 9999; decide⟩, ⟨Int.le_refl _, by show (0 : Int) ≤ 60; decide⟩⟩
 ·obtain ⟨c, hc, rfl⟩ := List.mem_map.1 hh
  exact DS.2 (Sg (h1 c hc)).1
 ·show (((E0 k).map EB).map SK).Nodup
  rw [List.map_map]
  exact h2
def Ps (s : Ss) : Prop := (∀ a ∈ s.mail.to, BL a) ∧ s.mail.to.Nodup ∧ (BL s.mail.frm ∨ AU s.mail.frm) ∧ s.mail.to.length ≤ 4 ∧ (s.state = 3 ∨ s.state = 4 → 1 ≤ s.mail.to.length)
theorem Lc {s : Ss} (h : ¬ (s.state = 3 ∨ s.state = 4)) : Ps (FT s) := ⟨fun _ q => (by cases q), List.nodup_nil, .inr ⟨rfl, rfl⟩, Nat.zero_le _, fun q => absurd q h⟩
theorem oJ {s : Ss} (t : ByteArray) (h : Ps s) : Ps (Ee s t).1 := by
 unfold Ee
 split
 ·split
  ·rename_i q
   refine ⟨fun _ z => (by cases z), List.nodup_nil, (JX q).1, Nat.zero_le _, fun z => absurd (show (2 : Int) = 3 ∨ (2 : Int) = 4 from z) (by decide)⟩
  ·exact h
 ·exact h
theorem vZ {s : Ss} (c : Cf) (t : ByteArray) (h : Ps s) : Ps (Ho c s t).1 := by
 unfold Ho
 split
 ·split
  ·rename_i q
   split
   ·exact h
   ·rename_i q2
    split
    ·split
     ·exact h
     ·rename_i q3
      split
      ·exact h
      ·rename_i q4
       refine ⟨fun a ha => ?_, ?_, h.2.2.1, ?_, fun _ => ?_⟩
       ·rcases List.mem_append.1 ha with ha | ha
        ·exact h.1 a ha
        ·rw [List.mem_singleton] at ha; subst ha; exact (JX q).1.resolve_right q2
       ·show (s.mail.to ++ [BK t]).Nodup
        rw [List.nodup_append]
        exact ⟨h.2.1, by simp, fun a ha b hb e => by rw [List.mem_singleton] at hb; subst hb; subst e; exact q3 ha⟩
       ·show (s.mail.to ++ [BK t]).length ≤ 4
        rw [List.length_append]; show s.mail.to.length + 1 ≤ 4; omega
       ·show 1 ≤ (s.mail.to ++ [BK t]).length
        rw [List.length_append]; show 1 ≤ s.mail.to.length + 1; omega
    ·exact h
  ·exact h
 ·exact h
theorem nC {s : Ss} (c : Cf) (l : ByteArray) (h : Ps s) : Ps (Bb c s l).1 := by
 unfold Bb
 repeat' split
 all_goals first
  | exact h
  | exact oJ _ h
  | exact vZ _ _ h
  | exact Lc (by show ¬ ((1 : Int) = 3 ∨ (1 : Int) = 4); decide)
  | exact Lc (by show ¬ ((5 : Int) = 3 ∨ (5 : Int) = 4); decide)
  | exact Lc (by omega)
  | (rename_i q; exact ⟨h.1, h.2.1, h.2.2.1, h.2.2.2.1, fun _ => h.2.2.2.2 (.inl q)⟩)
theorem nV {s : Ss} {l : ByteArray} (h : Ps s) : Ps (Am s l).1.1 ∧ ((Am s l).1.2 = ⟨#[]⟩ ∨ (Am s l).1.1.state = 1) ∧ ((Am s l).2 = true → DQ (Am s l).1.1.mail.body ∧ (Am s l).1.1.mail.to = s.mail.to) := by
 have one : ∀ b : Bool, Ps ⟨1, s.mail, b, s.buf⟩ := fun b => ⟨h.1, h.2.1, h.2.2.1, h.2.2.2.1, fun q => absurd (show (1 : Int) = 3 ∨ (1 : Int) = 4 from q) (by decide)⟩
 unfold Am
 repeat' split
 all_goals first
  | (refine ⟨one _, .inr rfl, fun _ => ⟨?_, rfl⟩⟩; assumption)
  | exact ⟨one _, .inr rfl, fun q => absurd q Bool.false_ne_true⟩
  | exact ⟨h, .inl rfl, fun q => absurd q Bool.false_ne_true⟩
theorem rf {s : Ss} {l : ByteArray} (c : Cf) (h : Ps s) : Ps (Bo c s l).1.1 ∧ ∀ m ∈ (Bo c s l).2, CM m := by
 obtain ⟨q1, q2, q3⟩ := nV (l := l) h
 have q := nC c l h
 have e1 : ¬ (Am s l).1.2 = ⟨#[]⟩ → ¬ ((Am s l).1.1.state = 3 ∨ (Am s l).1.1.state = 4) := fun n => by have := q2.resolve_left n; omega
 unfold Bo
 split
 ·exact ⟨h, fun _ z => by cases z⟩
 ·split
  ·rename_i h4
   split
   ·exact ⟨q1, fun _ z => by cases z⟩
   ·rename_i hn
    split
    ·rename_i ht
     refine ⟨Lc (e1 hn), fun m hm => ?_⟩
     rw [List.mem_singleton] at hm; subst hm
     obtain ⟨b1, b2⟩ := q3 ht
     exact ⟨q1.1, q1.2.1, q1.2.2.1, ⟨by rw [b2]; exact h.2.2.2.2 (.inr h4), q1.2.2.2.1⟩, b1⟩
    ·exact ⟨Lc (e1 hn), fun _ z => by cases z⟩
  ·exact ⟨q, fun _ z => by cases z⟩
def jx (x : Fm) : Prop := Ps x.1 ∧ ∀ m ∈ x.2.2, CM m
theorem t6 {c : Cf} {x : Fm} {l : ByteArray} (h : jx x) : jx (bt c x l) := by
 obtain ⟨q1, q2⟩ := rf (l := l) c h.1
 exact ⟨q1, fun m hm => (List.mem_append.1 hm).elim (h.2 m) (q2 m)⟩
theorem ir {x : Fm} (h : jx x) : jx (Y0 x) := ⟨Lc (by show ¬ ((5 : Int) = 3 ∨ (5 : Int) = 4); decide), h.2⟩
theorem iq {c : Cf} : ∀ (L : List ByteArray) {x : Fm}, jx x → jx (M1 c L x).1
 | [], x, h => h
 | l :: r, x, h => by
   rw [M1]
   split
   ·exact h
   ·split
    ·exact ir h
    ·exact iq r (t6 h)
theorem bu {c : Cf} {s : Ss} {t : ByteArray} (h : Ps s) : jx (Bv c s t) := by
 have q := iq (c := c) (No (s.buf ++ t)) (x := (⟨s.state, s.mail, s.bad, ⟨#[]⟩⟩, [], [])) ⟨h, fun _ z => by cases z⟩
 unfold Bv Wr
 split
 ·exact q
 ·split
  ·exact q
  ·split
   ·exact ir q
   ·exact q
def wU (x : N7) : Prop := Ps x.2.1 ∧ ∀ m ∈ x.2.2.1, CM m
theorem vQ {h : Cf} {x : N7} (q : wU x) : wU (Y2 h x) := by
 have f := bu (c := h) (t := Yl (MF x)) q.1
 exact ⟨f.1, fun m hm => (List.mem_append.1 hm).elim (q.2 m) (f.2 m)⟩
theorem jY (h : Cf) (cut : Int) : ∀ (k n : Nat) (x : N7), wU x → ∀ m ∈ (LD h cut k n x).2, CM m
 | 0, n, x, q => q.2
 | k + 1, n, x, q => by
   rw [LD]
   split
   ·split
    ·exact q.2
    ·split
     ·exact q.2
     ·exact jY h cut k (n + 1) _ (vQ q)
   ·exact q.2
theorem Jc (h : Cf) (nm : ByteArray) (m : Ml) (cut : Int) : ∀ y ∈ (El h nm m cut).2, CM y :=
 jY h cut cut.toNat 0 (UY h nm m) ⟨⟨fun _ z => (by cases z), List.nodup_nil, .inr ⟨rfl, rfl⟩, Nat.zero_le _, fun z => absurd (show (0 : Int) = 3 ∨ (0 : Int) = 4 from z) (by decide)⟩, fun _ z => by cases z⟩
theorem UX {h : Cf} {nm : ByteArray} {m : Ml} {cut : Int} (hn : nm.size ≤ 1000) (hm : Nl m) : ∀ y ∈ (El h nm m cut).2, gm y :=
 (K3 h cut cut.toNat 0 (UY h nm m) (K2 h hn hm)).2.2
theorem Sh (c : Cl) : (DZ c).1.mail = c.mail := by unfold DZ; (repeat' split) <;> rfl
theorem bq (c : Cl) (k : Int) : (DK c k).1.mail = c.mail := by unfold DK; (repeat' split) <;> rfl
theorem ga (c : Cl) (k : Int) : (FG c k).1.mail = c.mail := by
 unfold FG
 repeat' split
 all_goals exact Sh _
theorem Sw (c : Cl) (a : ByteArray) : (A2 c a).1.mail = c.mail := by
 unfold A2
 repeat' split
 all_goals first | rfl | exact ga _ _ | exact bq _ _ | exact Sh _
theorem Yn (h : Cf) (cut : Int) : ∀ (k n : Nat) (x : N7), (LD h cut k n x).1.mail = x.1.mail
 | 0, n, x => rfl
 | k + 1, n, x => by
   rw [LD]
   split
   ·split
    ·rfl
    ·split
     ·exact Sw _ _
     ·rw [Yn h cut k (n + 1) (Y2 h x)]; exact Sw _ _
   ·rfl
theorem K1 {h : Cf} {nm : ByteArray} {m : Ml} {cut : Int} (hn : nm.size ≤ 1000) (hm : Nl m) : (El h nm m cut).1.length = m.to.length := by
 have q := (K3 h cut cut.toNat 0 (UY h nm m) (K2 h hn hm)).1.1
 rw [Yn] at q
 show (List.map _ _).length = _
 rw [lm]
 exact q
theorem aG {a : Ad} (h : BL a ∨ AU a) : a.user.size ≤ 1000 ∧ a.domain.size ≤ 1000 := by
 rcases h with h | h
 ·have h1 := (JL h.1).2
  have h2 := (C2 h.2).2
  exact ⟨by omega, by omega⟩
 ·obtain ⟨u, d⟩ := a
  obtain ⟨h1, h2⟩ := h
  dsimp only at h1 h2
  subst h1; subst h2
  exact ⟨Nat.zero_le _, Nat.zero_le _⟩
theorem j6 {m : Ml} (h : CM m) : Nl m := ⟨by have := h.2.2.2.1.2; omega, by have := h.2.2.2.2.2; omega, aG h.2.2.1, fun a ha => aG (.inl (h.1 a ha)), fun l hl => by have := (h.2.2.2.2.1 l hl).2; omega⟩
theorem Us {m : Ml} {s : ByteArray} (h : CM m) (hs : s.size ≤ 1000) : Nl ⟨m.frm, m.to, s :: m.body⟩ := by
 have q := j6 h
 refine ⟨q.1, ?_, q.2.2.1, q.2.2.2.1, fun l hl => ?_⟩
 ·have := h.2.2.2.2.2
  show (s :: m.body).length ≤ 100
  rw [List.length_cons]; omega
 ·rcases List.mem_cons.1 hl with rfl | hl
  ·exact hs
  ·exact q.2.2.2.2 l hl
theorem q8 {c : Cf} {x : Im} {to : ByteArray} {w : Int} (h : Co x) : Nl (L9 c x to w) := by
 have hl := Ff c to w x.to
 refine ⟨?_, by have := h.2.2.2.2.2.2; show x.body.length ≤ 100; omega, aG h.2.2.2.1, fun a ha => ?_, fun l hl => by have := (h.2.2.2.2.2.1 l hl).2; omega⟩
 ·have := h.2.2.2.2.1.2
  show (BC c to w x.to).length ≤ 1000
  omega
 ·obtain ⟨r, hr, e, _⟩ := Ei c to w x.to a ha
  rw [← e]
  exact aG (.inl (h.1 r hr).1)
theorem BG {N M : Nat} {w : Wd} (q : HG N w) (l : N ≤ M) : HG M w := ⟨fun h hh => ⟨(q.1 h hh).1, B8 (q.1 h hh).2 l⟩, q.2.1, q.2.2.1, q.2.2.2.1, Nat.le_trans q.2.2.2.2.1 l, q.2.2.2.2.2⟩
theorem NX {N : Nat} {w : Wd} {k : Int} {h : Hs} (q : HG N w) (hk : FJ h) (hn : ES N h) : HG N (UN w k h) := by
 have e : (w.hosts.set k.toNat h).length = w.hosts.length := List.length_set
 refine ⟨fun x hx => ?_, ⟨by show 1 ≤ (w.hosts.set k.toNat h).length; rw [e]; exact q.2.1.1, by show (w.hosts.set k.toNat h).length ≤ 4; rw [e]; exact q.2.1.2⟩, q.2.2.1, q.2.2.2.1, q.2.2.2.2⟩
 rcases List.mem_or_eq_of_mem_set hx with hx | rfl
 ·exact q.1 x hx
 ·exact ⟨hk, hn⟩
theorem W3 {w : Wd} {c : Cf} {ls : Bool} {n : Int} (hw : 0 ≤ w.now ∧ w.now ≤ 9999) : ∀ (rs : List Rc) {x : Hs × Bool} {N : Nat}, FJ x.1 → ES N x.1 → (rs.map Rc.addr).Nodup → (∀ r ∈ rs, Cb x.1.spool n r.addr) → FJ (SJ w c ls n rs x).1 ∧ ES (N + rs.length) (SJ w c ls n rs x).1
 | [], x, N, q, hn, _, _ => ⟨q, hn⟩
 | r :: t, x, N, q, hn, hd, ht => by
   rw [List.map_cons, List.nodup_cons] at hd
   have ht0 := ht r (List.mem_cons_self ..)
   have e : N + (r :: t).length = N + 1 + t.length := by rw [List.length_cons]; omega
   rw [SJ, e]
   split
   ·have z := Hd (out := 3) q hn ht0 hw
    exact W3 hw t z.1 z.2 hd.2 fun y hy => (He q.2.2.2 ht0 hw).2 _ _ (ht y (List.mem_cons_of_mem _ hy)) fun z => hd.1 (by rw [z.2]; exact List.mem_map_of_mem hy)
   ·exact W3 hw t q (B8 hn (Nat.le_succ _)) hd.2 fun y hy => ht y (List.mem_cons_of_mem _ hy)
theorem oU {N : Nat} {w : Wd} {e : Ev} (q : HG N w) : HG (N + 4) (KJ w e).1 := by
 unfold KJ
 split
 ·rename_i h0
  split
  ·exact BG q (Nat.le_add_right _ _)
  ·rename_i h1
   have hl := q.2.1
   have hH := q.1 _ (AE (xs := w.hosts) (j := e.host.toNat) (by omega))
   have hil : (Ai (Ap w e.host).spool e.id).toNat < (Ap w e.host).spool.items.length := by have := BS h1; omega
   have hx := (hH.1.2.2.2.1 _ (AE (xs := (Ap w e.host).spool.items) (j := (Ai (Ap w e.host).spool e.id).toNat) hil)).1
   have z := W3 (w := w) (c := (Ap w e.host).conf) (ls := e.lose) (n := e.id) q.2.2.1 (JY (Ap w e.host) e.id).to (x := (Ap w e.host, false)) hH.1 hH.2 hx.2.1 fun r hr => by
    have y := (Fp hH.1.2.2.2 (x := JY (Ap w e.host) e.id) (AE hil) hr).1
    have e2 : (JY (Ap w e.host) e.id).id = e.id := Ey h1
    rw [e2] at y
    exact y
   exact NX (BG q (Nat.le_add_right _ _)) z.1 (B8 z.2 (by have := hx.2.2.2.2.1.2; show N + (JY (Ap w e.host) e.id).to.length ≤ N + 4; have h4 : (JY (Ap w e.host) e.id).to.length ≤ 4 := this; omega))
 ·exact BG q (Nat.le_add_right _ _)
def Zi (e : Ev) : Prop := Ji e.mail ∧ 0 ≤ e.cut ∧ e.cut ≤ 1000
def KY (mk : ByteArray) (ds : List Ad) : List Ls := ds.map fun a => ⟨mk, a⟩
noncomputable def Y1 (w : Wd) (k : Int) (mk : ByteArray) (y : Ml) : Wd := ⟨w.hosts.set k.toNat (Pa (Ap w k) y w.now), w.now, w.marks, w.given ++ KY mk y.to⟩
open Classical in
noncomputable def US (k : Int) (mk : ByteArray) : List Ml → Wd → Wd
 | [], w => w
 | y :: t, w => if y.body.length < 12 ∧ Bm (Ap w k).spool then US k mk t (Y1 w k mk y) else US k mk t w
theorem vJ {k : Int} {mk : ByteArray} {ys : List Ml} {i : Nat} {w : Wd} (h : i < ys.length) (q : (ys.getD i default).body.length < 12 ∧ Bm (Ap w k).spool) : US k mk (ys.drop i) w = US k mk (ys.drop (i + 1)) (Y1 w k mk (ys.getD i default)) := by rw [Ac h, US, if_pos q]
theorem vI {k : Int} {mk : ByteArray} {ys : List Ml} {i : Nat} {w : Wd} (h : i < ys.length) (q : ¬ ((ys.getD i default).body.length < 12 ∧ Bm (Ap w k).spool)) : US k mk (ys.drop i) w = US k mk (ys.drop (i + 1)) w := by rw [Ac h, US, if_neg q]
theorem vH {k : Int} {mk : ByteArray} {ys : List Ml} {i : Nat} {w : Wd} (h : ys.length ≤ i) : US k mk (ys.drop i) w = w := by rw [List.drop_of_length_le h]; rfl
def i4 (n : Int) : ByteArray := ⟨#[73, 100, 58, 32]⟩ ++ Mr n
theorem i5 (n : Int) : (i4 n).size ≤ 6 := by
 unfold i4
 rw [ByteArray.size_append]
 have := (IG n).2
 show 4 + _ ≤ 6
 omega
def Pi (w : Wd) (e : Ev) : Ml := ⟨e.mail.frm, e.mail.to, i4 (w.marks + 1) :: e.mail.body⟩
def vK (w : Wd) (e : Ev) : Prop := (0 ≤ e.host ∧ e.host ≤ (w.hosts.length : Int) - 1) ∧ CM e.mail ∧ ¬ w.marks ≥ 60 ∧ ¬ (e.mail.body.length : Int) ≥ 10 ∧ Br e.mail.body = ⟨#[]⟩ ∧ Bm (Ap w e.host).spool
noncomputable abbrev Ja (w : Wd) (e : Ev) : List Ml := (El (Ap w e.host).conf ⟨#[99, 108, 105, 101, 110, 116]⟩ (Pi w e) e.cut).2
noncomputable def xy (w : Wd) (e : Ev) : Wd := US e.host (Br (Pi w e).body) (Ja w e) ⟨w.hosts, w.now, w.marks + 1, w.given⟩
open Classical in
noncomputable def UT (w : Wd) (e : Ev) : Wd × Bool := if vK w e then (xy w e, true) else (w, false)
theorem jQ {w : Wd} {e : Ev} (q : vK w e) : UT w e = (xy w e, true) := if_pos q
theorem Ks {w : Wd} {e : Ev} (q : ¬ vK w e) : UT w e = (w, false) := if_neg q
def Zw (N : Nat) (k : Int) (w : Wd) : Prop := ((∀ h ∈ w.hosts, FJ h ∧ ES N h) ∧ (1 ≤ w.hosts.length ∧ w.hosts.length ≤ 4) ∧ (0 ≤ w.now ∧ w.now ≤ 9999) ∧ (0 ≤ w.marks ∧ w.marks ≤ 60)) ∧ (0 ≤ k ∧ k ≤ (w.hosts.length : Int) - 1) ∧ w.given.length ≤ N + 4 * (Ap w k).spool.items.length ∧ ∀ l ∈ w.given, TC l
theorem Lb {N : Nat} {k : Int} {w : Wd} (q : Zw N k w) : FJ (Ap w k) ∧ ES N (Ap w k) := q.1.1 _ (AE (xs := w.hosts) (j := k.toNat) (by have := q.2.1; omega))
theorem gq {N : Nat} {k : Int} {w : Wd} (q : Zw N k w) : w.given.length ≤ N + 40 := by
 have h := (Lb q).1.2.2.2.2.2.2
 have := q.2.2.1
 omega
theorem se {N : Nat} {k : Int} {w : Wd} (q : Zw N k w) : HG (N + 40) w := ⟨fun h hh => ⟨(q.1.1 h hh).1, B8 (q.1.1 h hh).2 (Nat.le_add_right _ _)⟩, q.1.2.1, q.1.2.2.1, q.1.2.2.2, gq q, q.2.2.2⟩
theorem fC {mk : ByteArray} (hm : Bl mk) {ds : List Ad} (ha : ∀ a ∈ ds, BL a) : ∀ l ∈ KY mk ds, TC l := fun l hl => by
 obtain ⟨a, h, rfl⟩ := List.mem_map.1 hl
 exact ⟨hm, By (.inl (ha a h))⟩
theorem rg {w : Wd} {k : Int} {mk : ByteArray} {y : Ml} (h : 0 ≤ k ∧ k ≤ (w.hosts.length : Int) - 1) : Ap (Y1 w k mk y) k = Pa (Ap w k) y w.now := by
 have e : k.toNat < w.hosts.length := by omega
 show (w.hosts.set k.toNat _).getD k.toNat default = _
 simp [e]
theorem jZ {N : Nat} {k : Int} {w : Wd} {mk : ByteArray} {y : Ml} (q : Zw N k w) (hm : Bl mk) (hy : CM y) (hl : y.body.length < 12) (hr : Bm (Ap w k).spool) : Zw N k (Y1 w k mk y) := by
 have z := Yo (Lb q).1 (Lb q).2 hy hl q.1.2.2.1 hr
 have e : (w.hosts.set k.toNat (Pa (Ap w k) y w.now)).length = w.hosts.length := List.length_set
 refine ⟨⟨fun x hx => ?_, ?_, q.1.2.2.1, q.1.2.2.2⟩, ?_, ?_, fun l hl => ?_⟩
 ·rcases List.mem_or_eq_of_mem_set hx with hx | rfl
  ·exact q.1.1 x hx
  ·exact z
 ·show 1 ≤ (w.hosts.set k.toNat _).length ∧ (w.hosts.set k.toNat _).length ≤ 4
  rw [e]; exact q.1.2.1
 ·show 0 ≤ k ∧ k ≤ ((w.hosts.set k.toNat _).length : Int) - 1
  rw [e]; exact q.2.1
 ·rw [rg q.2.1]
  show (w.given ++ KY mk y.to).length ≤ N + 4 * ((Ap w k).spool.items ++ [_]).length
  have h1 := q.2.2.1
  have h2 := hy.2.2.2.1.2
  have h3 : (KY mk y.to).length = y.to.length := lm _
  rw [List.length_append, List.length_append, h3]
  show _ ≤ N + 4 * (_ + 1)
  omega
 ·rcases List.mem_append.1 hl with hl | hl
  ·exact q.2.2.2 l hl
  ·exact fC hm hy.1 l hl
theorem YZ {N : Nat} {k : Int} {mk : ByteArray} (hm : Bl mk) : ∀ (ys : List Ml) {w : Wd}, Zw N k w → (∀ y ∈ ys, CM y) → Zw N k (US k mk ys w)
 | [], w, q, _ => q
 | y :: t, w, q, h => by
   rw [US]
   split
   ·rename_i hc
    exact YZ hm t (jZ q hm (h y (List.mem_cons_self ..)) hc.1 hc.2) fun x hx => h x (List.mem_cons_of_mem _ hx)
   ·exact YZ hm t q fun x hx => h x (List.mem_cons_of_mem _ hx)
theorem jR {w : Wd} {e : Ev} (h : CM e.mail) : Bl (Br (Pi w e).body) := by
 rcases Fd (Pi w e).body with z | z
 ·rw [z]; show (0 : Nat) ≤ 1048576; decide
 ·rcases List.mem_cons.1 z with z | z
  ·rw [z]; have := i5 (w.marks + 1); show (i4 (w.marks + 1)).size ≤ 1048576; omega
  ·exact (HC h.2.2.2.2).2 _ z
theorem vM {N : Nat} {w : Wd} {e : Ev} (q : HG N w) (h : vK w e) : Zw N e.host ⟨w.hosts, w.now, w.marks + 1, w.given⟩ := by
 obtain ⟨q1, q2, q3, q4, q5, q6⟩ := q
 have h1 := h.1
 have h2 := h.2.2.1
 exact ⟨⟨q1, q2, q3, by dsimp only; omega⟩, h1, Nat.le_trans q5 (Nat.le_add_right _ _), q6⟩
theorem vL {N : Nat} {w : Wd} {e : Ev} (q : HG N w) : HG (N + 40) (UT w e).1 := by
 by_cases h : vK w e
 ·rw [jQ h]
  exact se (YZ (jR h.2.1) _ (vM q h) (Jc _ _ _ _))
 ·rw [Ks h]; exact BG q (Nat.le_add_right _ _)
noncomputable def jd (now : Int) : List Ml → Hs → Hs
 | [], t => t
 | y :: r, t => jd now r (LJ t y now).1
theorem jf {now : Int} {ys : List Ml} {i : Nat} {t : Hs} (h : i < ys.length) : jd now (ys.drop i) t = jd now (ys.drop (i + 1)) (LJ t (ys.getD i default) now).1 := by rw [Ac h]; rfl
theorem va {now : Int} {ys : List Ml} {i : Nat} {t : Hs} (h : ys.length ≤ i) : jd now (ys.drop i) t = t := by rw [List.drop_of_length_le h]; rfl
noncomputable def gc (n now : Int) : List Ad → List Int → Hs → Hs
 | a :: r, o :: s, x => gc n now r s (IR x n a o now)
 | [], _, x => x
 | _ :: _, [], x => x
theorem vc {n now : Int} {ds : List Ad} {os : List Int} {i : Nat} {x : Hs} (h1 : i < ds.length) (h2 : i < os.length) : gc n now (ds.drop i) (os.drop i) x = gc n now (ds.drop (i + 1)) (os.drop (i + 1)) (IR x n (ds.getD i default) (os.getD i default) now) := by rw [Ac h1, Ac h2]; rfl
theorem vb {n now : Int} {ds : List Ad} {os : List Int} {i : Nat} {x : Hs} (h : os.length ≤ i) : gc n now (ds.drop i) (os.drop i) x = x := by
 rw [List.drop_of_length_le (l := os) h]
 cases ds.drop i <;> rfl
theorem Uq {h : Hs} {m : Ml} {w : Int} {N : Nat} (q : FJ h) (n : ES N h) (hm : CM m) (hw : 0 ≤ w ∧ w ≤ 9999) : FJ (LJ h m w).1 ∧ ES N (LJ h m w).1 ∧ (LJ h m w).1.conf = h.conf := by
 by_cases z : m.body.length < 12 ∧ Bm h.spool
 ·rw [Jh z]
  have y := Yo q n hm z.1 hw z.2
  exact ⟨y.1, y.2, rfl⟩
 ·rw [Jg z]; exact ⟨q, n, rfl⟩
theorem je {w : Int} {N : Nat} (hw : 0 ≤ w ∧ w ≤ 9999) : ∀ (ys : List Ml) {h : Hs}, FJ h → ES N h → (∀ y ∈ ys, CM y) → FJ (jd w ys h) ∧ ES N (jd w ys h)
 | [], h, q, n, _ => ⟨q, n⟩
 | y :: t, h, q, n, hy => by
   have z := Uq q n (hy y (List.mem_cons_self ..)) hw
   exact je hw t z.1 z.2.1 fun x hx => hy x (List.mem_cons_of_mem _ hx)
theorem X9 {h : Hs} {n : Int} {a : Ad} {out w : Int} {N : Nat} (q : FJ h) (hn : ES N h) (t : Cb h.spool n a) (hw : 0 ≤ w ∧ w ≤ 9999) : FJ (IR h n a out w) ∧ ES (N + 1) (IR h n a out w) ∧ (IR h n a out w).conf = h.conf ∧ ∀ a', Cb h.spool n a' → ¬ a = a' → Cb (IR h n a out w).spool n a' :=
 ⟨(Hd q hn t hw).1, (Hd q hn t hw).2, (E5 _ _ _ _ _ _).1, fun a' y z => (He q.2.2.2 t hw).2 _ _ y fun u => z u.2⟩
theorem jg {n w : Int} (hw : 0 ≤ w ∧ w ≤ 9999) : ∀ (ds : List Ad) (os : List Int) {h : Hs} {N : Nat}, FJ h → ES N h → ds.Nodup → (∀ a ∈ ds, Cb h.spool n a) → FJ (gc n w ds os h) ∧ ES (N + ds.length) (gc n w ds os h)
 | [], os, h, N, q, hn, _, _ => by cases os <;> exact ⟨q, hn⟩
 | a :: r, [], h, N, q, hn, _, _ => ⟨q, B8 hn (Nat.le_add_right _ _)⟩
 | a :: r, o :: s, h, N, q, hn, hd, ht => by
   rw [List.nodup_cons] at hd
   obtain ⟨z1, z2, _, z4⟩ := X9 (out := o) q hn (ht a (List.mem_cons_self ..)) hw
   have e : N + (a :: r).length = N + 1 + r.length := by rw [List.length_cons]; omega
   rw [e]
   exact jg hw r s z1 z2 hd.2 fun b hb => z4 b (ht b (List.mem_cons_of_mem _ hb)) fun u => hd.1 (by rw [u]; exact hb)
theorem IS (c : Cf) (to : ByteArray) (w : Int) : ∀ rs : List Rc, List.Sublist (BC c to w rs) (rs.map Rc.addr)
 | [] => .slnil
 | r :: t => by
   rw [BC]
   cases BU (I4 c to w r)
   ·exact .cons _ (IS c to w t)
   ·exact .cons_cons _ (IS c to w t)
noncomputable def JC (w : Wd) (e : Ev) : Ml := L9 (Ap w e.host).conf (JY (Ap w e.host) e.id) (Ap w e.to).conf.name w.now
noncomputable def Hw (w : Wd) (e : Ev) : List Int × List Ml := GQ (Ap w e.to) (Ap w e.host).conf.name (JC w e) e.cut
noncomputable def wM (w : Wd) (e : Ev) : Hs := jd w.now (Hw w e).2 (Ap w e.to)
noncomputable def sP (w : Wd) (e : Ev) : Hs := bif e.lose then Ap w e.host else gc e.id w.now (JC w e).to (Hw w e).1 (Ap w e.host)
def sQ (w : Wd) (e : Ev) : Prop := (0 ≤ e.host ∧ e.host ≤ (w.hosts.length : Int) - 1) ∧ (0 ≤ e.to ∧ e.to ≤ (w.hosts.length : Int) - 1) ∧ ¬ e.host = e.to ∧ ¬ Ai (Ap w e.host).spool e.id < 0 ∧ ¬ ((JC w e).to.length : Int) = 0
noncomputable def wL (w : Wd) (e : Ev) : Wd := UN (UN w e.to (wM w e)) e.host (sP w e)
open Classical in
noncomputable def Ys (w : Wd) (e : Ev) : Wd × Bool := if sQ w e then (wL w e, true) else (w, false)
theorem jh {w : Wd} {e : Ev} (q : sQ w e) : Ys w e = (wL w e, true) := if_pos q
theorem MG {w : Wd} {e : Ev} (q : ¬ sQ w e) : Ys w e = (w, false) := if_neg q
theorem Yp (h : Hs) (nm : ByteArray) (m : Ml) (cut : Int) : ∀ y ∈ (GQ h nm m cut).2, CM y := by
 unfold GQ
 split
 ·exact Jc _ _ _ _
 ·exact Jc _ _ _ _
theorem UZ {h : Hs} {nm : ByteArray} {m : Ml} {cut : Int} (hn : nm.size ≤ 1000) (hm : Nl m) : (GQ h nm m cut).1.length = m.to.length := by
 unfold GQ
 split
 ·exact K1 hn hm
 ·exact K1 hn hm
theorem rj {h : Hs} {nm : ByteArray} {m : Ml} {cut : Int} (hn : nm.size ≤ 1000) (hm : Nl m) (hc : cut ≤ 1000) : (GQ h nm m cut).2.length ≤ 300000000 := by
 have key : ∀ c : Int, c ≤ 1000 → (El h.conf nm m c).2.length ≤ 300000000 := fun c q => by
  have z := (K3 h.conf c c.toNat 0 (UY h.conf nm m) (K2 h.conf hn hm)).2.1
  show (LD h.conf c c.toNat 0 (UY h.conf nm m)).2.length ≤ _
  omega
 unfold GQ
 split
 ·exact key _ hc
 ·exact key _ (by decide)
theorem ve {N : Nat} {w : Wd} {h : Hs} {n : Int} (q : FJ h) (h1 : ¬ Ai h.spool n < 0) : (Ai h.spool n).toNat < h.spool.items.length ∧ Co (JY h n) ∧ ∀ r ∈ (JY h n).to, Cb h.spool n r.addr := by
 have hil : (Ai h.spool n).toNat < h.spool.items.length := by have := BS h1; omega
 refine ⟨hil, (q.2.2.2.1 _ (AE (xs := h.spool.items) (j := (Ai h.spool n).toNat) hil)).1, fun r hr => ?_⟩
 have y := (Fp q.2.2.2 (x := JY h n) (AE hil) hr).1
 have e2 : (JY h n).id = n := Ey h1
 rw [e2] at y
 exact y
theorem jj {N : Nat} {w : Wd} {e : Ev} (q : HG N w) (h : sQ w e) : FJ (Ap w e.host) ∧ ES N (Ap w e.host) ∧ FJ (Ap w e.to) ∧ ES N (Ap w e.to) ∧ Co (JY (Ap w e.host) e.id) ∧ (JC w e).to.Nodup ∧ (JC w e).to.length ≤ 4 ∧ ∀ a ∈ (JC w e).to, Cb (Ap w e.host).spool e.id a := by
 obtain ⟨h1, h2, h3, h4, h5⟩ := h
 have hl := q.2.1
 have hH := q.1 _ (AE (xs := w.hosts) (j := e.host.toNat) (by omega))
 have hT := q.1 _ (AE (xs := w.hosts) (j := e.to.toNat) (by omega))
 obtain ⟨t1, t2, t3⟩ := ve (N := N) (w := w) hH.1 h4
 refine ⟨hH.1, hH.2, hT.1, hT.2, t2, (IS _ _ _ _).nodup t2.2.1, Nat.le_trans (Ff _ _ _ _) t2.2.2.2.2.1.2, fun a ha => ?_⟩
 obtain ⟨r, hr, er, _⟩ := Ei _ _ _ _ a ha
 rw [← er]; exact t3 r hr
theorem vd {N : Nat} {w : Wd} {e : Ev} (q : HG N w) : HG (N + 4) (Ys w e).1 := by
 by_cases h : sQ w e
 ·rw [jh h]
  obtain ⟨a1, a2, b1, b2, hi, hd, hl, ht⟩ := jj q h
  have zb := je q.2.2.1 (Hw w e).2 b1 b2 (Yp _ _ _ _)
  have za : FJ (sP w e) ∧ ES (N + 4) (sP w e) := by
   unfold sP
   cases e.lose
   ·have z := jg (n := e.id) q.2.2.1 (JC w e).to (Hw w e).1 a1 a2 hd ht
    exact ⟨z.1, B8 z.2 (by omega)⟩
   ·exact ⟨a1, B8 a2 (by omega)⟩
  exact NX (NX (BG q (by omega)) zb.1 (B8 zb.2 (by omega))) za.1 za.2
 ·rw [MG h]; exact BG q (Nat.le_add_right _ _)
theorem qQ {mk : ByteArray} {ds : List Ad} {j : Nat} (h : j < ds.length) : (KY mk (ds.take (j + 1))).map Ay = (KY mk (ds.take j)).map Ay ++ [[.v (.string mk), .v (.string (ds.getD j default).user), .v (.string (ds.getD j default).domain)]] := by
 unfold KY
 rw [List.map_map, List.map_map, ME _ h]
 rfl
theorem qP {mk : ByteArray} {ds : List Ad} : (KY mk ds).length = ds.length := lm _
theorem uU (n : Int) : (⟨#[73, 100, 58, 32]⟩ : ByteArray) ++ Mr n = i4 n := rfl
theorem rK (w : Wd) (e : Ev) : (⟨e.mail.frm, e.mail.to, i4 (w.marks + 1) :: e.mail.body⟩ : Ml) = Pi w e := rfl
def l3 : Mt := GL (lc sB (lc Pn.ag l0)) (fun p => HG 1000000 p.1 ∧ Zi p.2.1) (fun p => ([.any, Pn.ag.enc p.2.1], .tup [Hi (UT p.1 p.2.1).1, .t (.v (.bool (UT p.1 p.2.1).2))]))
section
attribute [local go_sem] J6 l9 au J5 Mm an Vc Vd RI SV SB uU rK CN Fl Fk Hi.eq_1 Gv.eq_1 Ab BR Kv lm AS.opn AS.cls AS.nilb AS.renb AS.up Bool.not_false Bool.not_true List.set_set List.set_cons_zero List.set_cons_succ List.set_nil List.mem_singleton forall_eq tn List.map_nil List.nil_append
set_option maxHeartbeats 6400000 in
theorem dY {G : Gt} (hG : Aj G) (hh : G.e 36 = AA 0 J6 ∧ G.e 221 = AA 0 l9 ∧ G.e 61 = AA 0 au ∧ G.e 147 = AA 0 J5 ∧ G.e 222 = AA 0 Mm ∧ G.e 223 = AA 0 an ∧ G.e 224 = AA 1 Vc ∧ G.e 225 = AA 1 Vd) : Gd G 206 (AN l3) := by
 refine Ik (dp := fun n => !(Nat.beq n 100006 || Nat.beq n 100007 || Nat.beq n 100015)) (fn := Tryz.f206) (n := 2) rfl hG ?_
 rintro ⟨w, e, ⟨⟩⟩ hpre
 obtain ⟨hw, hE, hc0, hc1⟩ := hpre
 try dsimp only at hw hE hc0 hc1 ⊢
 have hl := hw.2.1
 have hmk0 := hw.2.2.2.1
 have hgl := hw.2.2.2.2.1
 have hml1 := hE.2.1.1
 have hml2 := hE.2.2.1
 refine BQ (0 ≤ e.host ∧ e.host ≤ (w.hosts.length : Int) - 1) (fun h0 => have h0' := Ag h0; BQ (CM e.mail) (fun h1 => have h1' := Ag h1; BQ (w.marks ≥ 60) (fun h2 => have e_ : UT w e = _ := Ks (fun q => q.2.2.1 h2); have h3 := tv; have h4 := tv; have h5' := tv; ?_) (fun h2 => BQ ((e.mail.body.length : Int) ≥ 10) (fun h3 => have e_ : UT w e = _ := Ks (fun q => q.2.2.2.1 h3); have h4 := tv; have h5' := tv; ?_) (fun h3 => BQ (Br e.mail.body = ⟨#[]⟩) (fun h4 => BQ (Bm (Ap w e.host).spool) (fun h5 => have h5' := Ag h5; ?w1) (fun h5 => have h5' := AO h5; have e_ : UT w e = _ := Ks (fun q => h5 q.2.2.2.2.2); ?_)) (fun h4 => have e_ : UT w e = _ := Ks (fun q => h4 q.2.2.2.2.1); have h5' := tv; ?_)))) (fun h1 => have h1' := AO h1; have e_ : UT w e = _ := Ks (fun q => h1 q.2.1); have h2 := tv; have h3 := tv; have h4 := tv; have h5' := tv; ?_)) (fun h0 => have h0' := AO h0; have e_ : UT w e = _ := Ks (fun q => h0 q.1); have h1' := tv; have h2 := tv; have h3 := tv; have h4 := tv; have h5' := tv; ?_)
 case w1 =>
  rw [jQ ⟨h0, h1, h2, h3, h4, h5⟩]
  have hS0 := vM hw ⟨h0, h1, h2, h3, h4, h5⟩
  have hK := hw.1 _ (AE (xs := w.hosts) (j := e.host.toNat) (by omega))
  have SK := (C2 hK.1.2.2.1.2.2.1).2
  have hmk := jR (w := w) h1
  have hds := IG (w.marks + 1)
  have e4 : (#[73, 100, 58, 32] : Array UInt8).size = 4 := rfl
  have hC : Nl (Pi w e) := Us h1 (by have := i5 (w.marks + 1); omega)
  have hb12 := h1.2.2.2.2.2
  have hv1 : ∀ y ∈ Ja w e, CM y := Jc _ _ _ _
  have hv2 : ∀ y ∈ Ja w e, gm y := UX (nm := ⟨#[99, 108, 105, 101, 110, 116]⟩) (by show (6 : Nat) ≤ 1000; decide) hC
  have hvn : (Ja w e).length ≤ 300000000 := by
   have z := (K3 (Ap w e.host).conf e.cut e.cut.toNat 0 (UY (Ap w e.host).conf ⟨#[99, 108, 105, 101, 110, 116]⟩ (Pi w e)) (K2 (Ap w e.host).conf (nm := ⟨#[99, 108, 105, 101, 110, 116]⟩) (by show (6 : Nat) ≤ 1000; decide) hC)).2.1
   show (LD (Ap w e.host).conf e.cut e.cut.toNat 0 (UY (Ap w e.host).conf ⟨#[99, 108, 105, 101, 110, 116]⟩ (Pi w e))).2.length ≤ _
   omega
  simp -implicitDefEqProofs only [Tryz.f206, h0', h1', h2, h3, h4, h5', eq_self, decide_true, decide_false, go_sem, hh, seval]
  with_reducible repeat' (first | apply ai | intro _ | ((first | apply s1 | apply s3 | apply s4) <;> intro hb <;> simp -implicitDefEqProofs only [hb, go_sem, hh, seval] <;> try simp only [qz] at hb))
  all_goals (try simp only [maxLen, tn, Aa, AZ, lm, List.length_cons] at *)
  all_goals first | with_reducible rfl | omega | with_reducible assumption | (show _ = true; rfl) | contradiction | decide | exact hC | (show (_ : Nat) ≤ _; decide) | skip
  skip
  refine Ak (Le.frzL [1064, 1072]) (AW ?_)
  simp -implicitDefEqProofs only [go_sem, hh, seval]
  with_reducible repeat' (first | apply ai | intro _ | ((first | apply s1 | apply s3 | apply s4) <;> intro hb <;> simp -implicitDefEqProofs only [hb, go_sem, hh, seval] <;> try simp only [qz] at hb))
  all_goals (try simp only [maxLen, tn, Aa, AZ, lm, List.length_cons] at *)
  all_goals first | with_reducible rfl | omega | with_reducible assumption | (show _ = true; rfl) | contradiction | decide | exact hC | (show (_ : Nat) ≤ _; decide) | skip
  refine Ak (Le.renb 1002 3 2900 1901 rfl rfl rfl rfl) (AW ?_)
  simp -implicitDefEqProofs only [go_sem, hh, seval]
  with_reducible repeat' (first | apply ai | intro _ | ((first | apply s1 | apply s3 | apply s4) <;> intro hb <;> simp -implicitDefEqProofs only [hb, go_sem, hh, seval] <;> try simp only [qz] at hb))
  all_goals first | with_reducible rfl | omega | with_reducible assumption | (show _ = true; rfl) | contradiction | decide | skip
  refine AF [] (ι := {p : Nat × Wd // p.1 ≤ (Ja w e).length ∧ Zw 1000000 e.host p.2 ∧ US e.host (Br (Pi w e).body) ((Ja w e).drop p.1) p.2 = xy w e}) (fun p => ⟨[(2, .pb 1002 0), (3, .pb 1003 0), (4, .pb 1004 0), (6, .pb 1006 0), (8, .t (.sl 4 ((Ja w e).map DE))), (9, .t (.v (.int .i64 p.1.1)))], [(1002, some (.box [.h 1900, .t (.v (.int .i64 p.1.2.now)), .t (.v (.int .i64 p.1.2.marks)), .h 1901])), (1003, some (.box ((Cs e).map .t))), (1004, some (.box [.nil, .t (.v (.int .i64 0)), .t (.v (.int .i64 0)), .nil])), (1006, some (.box [.t (.v (.string e.mail.frm.user)), .t (.v (.string e.mail.frm.domain)), .t (.sl 2 (e.mail.to.map At)), .t (.sl 1 ((i4 (w.marks + 1) :: e.mail.body).map AH))])), (1900, some (.arr false 7 (p.1.2.hosts.map Ao))), (1901, some (.arr true 3 (p.1.2.given.map Ay)))]⟩) (fun p => (Ja w e).length - p.1.1) ⟨(0, ⟨w.hosts, w.now, w.marks + 1, w.given⟩), Nat.zero_le _, hS0, rfl⟩ rfl ?_ ?_
  ·simp -implicitDefEqProofs only [go_sem, hh, seval]
   first | (simp; done) | skip
  ·rintro ⟨⟨i, x⟩, hi, hx, hv⟩
   dsimp only at hi hx hv
   have hxK := (Lb hx).1
   have hxo := Df (Lb hx).1 (Lb hx).2 (by decide)
   have hxn := (C2 hxK.2.2.1.2.2.1).2
   have hxn6 : (Ap x e.host).conf.name.size ≤ 1000000 := by omega
   have hxw := hx.1.2.2.1
   have hxg := gq hx
   have hxl := hx.2.1
   by_cases hlt : (i : Int) < (Ja w e).length
   ·have hym := AE (xs := Ja w e) (j := i) (by omega)
    have hy := hv1 _ hym
    have hyo := (hv2 _ hym).1
    have hyl := hy.2.2.2.1.2
    by_cases q : ((Ja w e).getD i default).body.length < 12 ∧ Bm (Ap x e.host).spool
    ·simp -implicitDefEqProofs only [hlt, Jh q, eq_self, decide_true, decide_false, go_sem, hh, seval]
     with_reducible repeat' (first | apply ai | intro _ | ((first | apply s1 | apply s3 | apply s4) <;> intro hb <;> simp -implicitDefEqProofs only [hb, go_sem, hh, seval] <;> try simp only [qz] at hb))
     all_goals (try simp only [maxLen, tn, Aa, AZ, lm] at *)
     all_goals first | with_reducible rfl | omega | with_reducible assumption | (show _ = true; rfl) | contradiction | decide | exact hxK.2.2.2 | skip
     refine AF [] (ι := {j : Nat // j ≤ ((Ja w e).getD i default).to.length}) (fun p => ⟨[(2, .pb 1002 0), (3, .pb 1003 0), (4, .pb 1004 0), (6, .pb 1006 0), (8, .t (.sl 4 ((Ja w e).map DE))), (9, .t (.v (.int .i64 i))), (12, .t (.v (.int .i64 p.1)))], [(1002, some (.box [.h 1900, .t (.v (.int .i64 (Y1 x e.host (Br (Pi w e).body) ((Ja w e).getD i default)).now)), .t (.v (.int .i64 (Y1 x e.host (Br (Pi w e).body) ((Ja w e).getD i default)).marks)), .h 1901])), (1003, some (.box ((Cs e).map .t))), (1004, some (.box [.nil, .t (.v (.int .i64 0)), .t (.v (.int .i64 0)), .nil])), (1006, some (.box [.t (.v (.string e.mail.frm.user)), .t (.v (.string e.mail.frm.domain)), .t (.sl 2 (e.mail.to.map At)), .t (.sl 1 ((i4 (w.marks + 1) :: e.mail.body).map AH))])), (1900, some (.arr false 7 ((Y1 x e.host (Br (Pi w e).body) ((Ja w e).getD i default)).hosts.map Ao))), (1901, some (.arr true 3 (x.given.map Ay ++ (KY (Br (Pi w e).body) (((Ja w e).getD i default).to.take p.1)).map Ay)))]⟩) (fun p => ((Ja w e).getD i default).to.length - p.1) ⟨0, Nat.zero_le _⟩ rfl ?_ ?_
     ·simp -implicitDefEqProofs only [go_sem, hh, seval]
      first | (simp [KY, Y1]; done) | skip
     ·rintro ⟨j, hj⟩
      try dsimp only at hj
      have hlj : (KY (Br (Pi w e).body) (((Ja w e).getD i default).to.take j)).length = j := by rw [qP, List.length_take]; omega
      by_cases hjt : (j : Int) < ((Ja w e).getD i default).to.length
      ·simp -implicitDefEqProofs only [hjt, hlj, List.length_append, lm, eq_self, decide_true, decide_false, go_sem, hh, seval]
       with_reducible repeat' (first | apply ai | intro _ | ((first | apply s1 | apply s3 | apply s4) <;> intro hb <;> simp -implicitDefEqProofs only [hb, go_sem, hh, seval] <;> try simp only [qz] at hb))
       all_goals (try simp only [maxLen, tn, Aa, AZ, lm] at *)
       all_goals first | with_reducible rfl | omega | with_reducible assumption | (show _ = true; rfl) | contradiction | decide | (rename_i hm; rcases List.mem_append.1 hm with hm | hm <;> (obtain ⟨_, _, rfl⟩ := List.mem_map.1 hm; rfl)) | skip
       skip
       refine Ak (Le.renb 1002 3 1145 1901 rfl rfl rfl rfl) (AW ?_)
       simp -implicitDefEqProofs only [go_sem, hh, seval]
       with_reducible repeat' (first | apply ai | intro _ | ((first | apply s1 | apply s3 | apply s4) <;> intro hb <;> simp -implicitDefEqProofs only [hb, go_sem, hh, seval] <;> try simp only [qz] at hb))
       all_goals first | with_reducible rfl | omega | with_reducible assumption | (show _ = true; rfl) | contradiction | decide | skip
       refine ⟨⟨j + 1, by omega⟩, by dsimp only; omega, ?_⟩
       simp -implicitDefEqProofs only [go_sem, hh, seval]
       simp only [qQ (show j < ((Ja w e).getD i default).to.length by omega), List.append_assoc]
       first | (simp [Pi]; done) | skip
      ·have htk : ((Ja w e).getD i default).to.take j = ((Ja w e).getD i default).to := List.take_of_length_le (by omega)
       simp -implicitDefEqProofs only [hjt, htk, eq_self, decide_true, decide_false, go_sem, hh, seval]
       with_reducible repeat' (first | apply ai | intro _ | ((first | apply s1 | apply s3 | apply s4) <;> intro hb <;> simp -implicitDefEqProofs only [hb, go_sem, hh, seval] <;> try simp only [qz] at hb))
       all_goals (try simp only [maxLen, tn, Aa, AZ, lm] at *)
       all_goals first | with_reducible rfl | omega | with_reducible assumption | (show _ = true; rfl) | contradiction | decide | skip
       refine ⟨⟨(i + 1, Y1 x e.host (Br (Pi w e).body) ((Ja w e).getD i default)), by dsimp only; omega, jZ hx hmk hy q.1 q.2, (vJ (by omega) q).symm.trans hv⟩, by dsimp only; omega, ?_⟩
       simp -implicitDefEqProofs only [go_sem, hh, seval]
       first | (simp [Y1]; done) | skip
    ·simp -implicitDefEqProofs only [hlt, Jg q, eq_self, decide_true, decide_false, go_sem, hh, seval]
     with_reducible repeat' (first | apply ai | intro _ | ((first | apply s1 | apply s3 | apply s4) <;> intro hb <;> simp -implicitDefEqProofs only [hb, go_sem, hh, seval] <;> try simp only [qz] at hb))
     all_goals (try simp only [maxLen, tn, Aa, AZ, lm] at *)
     all_goals first | with_reducible rfl | omega | with_reducible assumption | (show _ = true; rfl) | contradiction | decide | exact hxK.2.2.2 | skip
     refine ⟨⟨(i + 1, x), by dsimp only; omega, hx, (vI (by omega) q).symm.trans hv⟩, by dsimp only; omega, ?_⟩
     simp -implicitDefEqProofs only [go_sem, hh, seval]
     first | (simp; done) | skip
   ·rw [vH (by omega)] at hv
    subst hv
    simp -implicitDefEqProofs only [hlt, eq_self, decide_true, decide_false, go_sem, hh, seval]
    with_reducible repeat' (first | apply ai | intro _ | ((first | apply s1 | apply s3 | apply s4) <;> intro hb <;> simp -implicitDefEqProofs only [hb, go_sem, hh, seval] <;> try simp only [qz] at hb))
    all_goals (try simp only [maxLen, tn, Aa, AZ] at *)
    all_goals first | with_reducible rfl | omega | with_reducible assumption | (show _ = true; rfl) | contradiction | decide | skip
 all_goals
  try rw [e_]
  simp -implicitDefEqProofs only [Tryz.f206, h0', h1', h2, h3, h4, h5', eq_self, decide_true, decide_false, Int.reduceEq, go_sem, hh, seval]
  with_reducible repeat' (first | apply ai | intro _ | ((first | apply s1 | apply s3 | apply s4) <;> intro hb <;> simp -implicitDefEqProofs only [hb, go_sem, hh, seval] <;> try simp only [qz] at hb))
  all_goals (try simp only [maxLen, tn, lm] at *)
  all_goals first | rfl | omega | decide | with_reducible assumption | (show AT _ = true; rfl) | exact HX (by assumption) | contradiction | (show _ = T.v _; rfl) | (show _ = List.map Ay _; rfl) | skip
end
theorem RS (w : Wd) (e : Ev) : L9 (w.hosts.getD e.host.toNat default).conf ((w.hosts.getD e.host.toNat default).spool.items.getD (A4 (fun x : Im => x.id = e.id) 0 (w.hosts.getD e.host.toNat default).spool.items).toNat default) (w.hosts.getD e.to.toNat default).conf.name w.now = JC w e := rfl
theorem ji (w : Wd) (e : Ev) : GQ (Ap w e.to) (Ap w e.host).conf.name (JC w e) e.cut = Hw w e := rfl
theorem uk {xs : List Ad} {i j : Nat} (h : xs.Nodup) (hi : i < j) (hj : j < xs.length) : ¬ xs.getD i default = xs.getD j default := by
 have z := List.pairwise_iff_getElem.1 h i j (by omega) hj hi
 simpa [hj, show i < xs.length by omega] using z
def l4 : Mt := GL (lc sB (lc Pn.ag l0)) (fun p => HG 1000000 p.1 ∧ Zi p.2.1) (fun p => ([.any, Pn.ag.enc p.2.1], .tup [Hi (Ys p.1 p.2.1).1, .t (.v (.bool (Ys p.1 p.2.1).2))]))
section
attribute [local go_sem] J6 aq mA mC Vd ar RS ji RI CN Fl Fk Hi.eq_1 Gv.eq_1 Ab BR Kv lm List.length_set AS.opn AS.cls AS.nilb AS.renb AS.up Bool.not_false Bool.not_true List.set_set List.set_cons_zero List.set_cons_succ List.set_nil List.mem_singleton forall_eq tn List.map_nil List.nil_append
set_option maxHeartbeats 6400000 in
theorem dZ {G : Gt} (hG : Aj G) (hh : G.e 36 = AA 0 J6 ∧ G.e 34 = AA 0 aq ∧ G.e 226 = AA 0 mA ∧ G.e 227 = AA 1 mC ∧ G.e 225 = AA 1 Vd ∧ G.e 37 = AA 1 ar) : Gd G 207 (AN l4) := by
 refine Ik (dp := fun n => !(Nat.beq n 100011)) (fn := Tryz.f207) (n := 2) rfl hG ?_
 rintro ⟨w, e, ⟨⟩⟩ hpre
 obtain ⟨hw, hE, hc0, hc1⟩ := hpre
 try dsimp only at hw hE hc0 hc1 ⊢
 have hl := hw.2.1
 refine BQ (0 ≤ e.host ∧ e.host ≤ (w.hosts.length : Int) - 1) (fun h0 => have h0' := Ag h0; BQ (0 ≤ e.to ∧ e.to ≤ (w.hosts.length : Int) - 1) (fun h1 => have h1' := Ag h1; BQ (e.host = e.to) (fun h2 => have e_ : Ys w e = _ := MG (fun q => q.2.2.1 h2); have h3 := tv; ?_) (fun h2 => BQ (Ai (Ap w e.host).spool e.id < 0) (fun h3 => have e_ : Ys w e = _ := MG (fun q => q.2.2.2.1 h3); ?_) (fun h3 => BQ (((JC w e).to.length : Int) = 0) (fun h4 => ?w1) (fun h4 => ?w2)))) (fun h1 => have h1' := AO h1; have e_ : Ys w e = _ := MG (fun q => h1 q.2.1); have h2 := tv; have h3 := tv; ?_)) (fun h0 => have h0' := AO h0; have e_ : Ys w e = _ := MG (fun q => h0 q.1); have h1' := tv; have h2 := tv; have h3 := tv; ?_)
 case w1 =>
  have hH := hw.1 _ (AE (xs := w.hosts) (j := e.host.toNat) (by omega))
  have i1 : 0 ≤ A4 (fun x : Im => x.id = e.id) 0 (Ap w e.host).spool.items ∧ A4 (fun x : Im => x.id = e.id) 0 (Ap w e.host).spool.items < (Ap w e.host).spool.items.length := by have := BS h3; unfold Ai at this h3; omega
  have oa := Df hH.1 hH.2 (by decide)
  rw [MG (fun q => q.2.2.2.2 h4)]
  simp -implicitDefEqProofs only [Tryz.f207, h0', h1', h2, h3, h4, eq_self, decide_true, decide_false, RS, go_sem, hh, seval]
  with_reducible repeat' (first | apply ai | intro _ | ((first | apply s1 | apply s3 | apply s4) <;> intro hb <;> simp -implicitDefEqProofs only [hb, go_sem, hh, seval] <;> try simp only [qz] at hb))
  all_goals (try simp only [maxLen, tn, Aa, AZ, lm] at *)
  all_goals first | rfl | omega | decide | with_reducible assumption | (show AT _ = true; rfl) | exact HX (by assumption) | contradiction | exact i1.2 | exact i1.1 | (show _ = T.v _; rfl) | (show _ = List.map Ay _; rfl) | skip
 case w2 =>
  have hq : sQ w e := ⟨h0, h1, h2, h3, h4⟩
  rw [jh hq]
  obtain ⟨a1, a2, b1, b2, hi, hd, hl4, ht⟩ := jj hw hq
  have i1 : 0 ≤ A4 (fun x : Im => x.id = e.id) 0 (Ap w e.host).spool.items ∧ A4 (fun x : Im => x.id = e.id) 0 (Ap w e.host).spool.items < (Ap w e.host).spool.items.length := by have := BS h3; unfold Ai at this h3; omega
  have hC : Nl (JC w e) := q8 hi
  have oa := Df a1 a2 (by decide)
  have ob := Df b1 b2 (by decide)
  have na := (C2 a1.2.2.1.2.2.1).2
  have nb := (C2 b1.2.2.1.2.2.1).2
  have na6 : (Ap w e.host).conf.name.size ≤ 1000 := by omega
  have nb6 : (Ap w e.to).conf.name.size ≤ 1000 := by omega
  have hw2 := hw.2.2.1
  have hno : (Hw w e).1.length = (JC w e).to.length := UZ (by omega) hC
  have hv1 : ∀ y ∈ (Hw w e).2, CM y := Yp _ _ _ _
  have hvn : (Hw w e).2.length ≤ 300000000 := rj (by omega) hC (by omega)
  simp -implicitDefEqProofs only [Tryz.f207, h0', h1', h2, h3, h4, eq_self, decide_true, decide_false, RS, ji, go_sem, hh, seval]
  with_reducible repeat' (first | apply ai | intro _ | ((first | apply s1 | apply s3 | apply s4) <;> intro hb <;> simp -implicitDefEqProofs only [hb, go_sem, hh, seval] <;> try simp only [qz] at hb))
  all_goals (try simp only [maxLen, tn, Aa, AZ, lm, List.length_cons] at *)
  all_goals first | with_reducible rfl | omega | with_reducible assumption | (show _ = true; rfl) | contradiction | decide | exact hC | exact i1.2 | exact i1.1 | skip
  refine Ak (Le.frzL [1069, 2069]) (AW ?_)
  simp -implicitDefEqProofs only [go_sem, hh, seval]
  with_reducible repeat' (first | apply ai | intro _ | ((first | apply s1 | apply s3 | apply s4) <;> intro hb <;> simp -implicitDefEqProofs only [hb, go_sem, hh, seval] <;> try simp only [qz] at hb))
  all_goals (try simp only [maxLen, tn, Aa, AZ, lm, List.length_cons] at *)
  all_goals first | with_reducible rfl | omega | with_reducible assumption | (show _ = true; rfl) | contradiction | decide | exact hC | exact i1.2 | exact i1.1 | skip
  refine AF [] (ι := {p : Nat × Hs // p.1 ≤ (Hw w e).2.length ∧ FJ p.2 ∧ ES 1000000 p.2 ∧ p.2.conf = (Ap w e.to).conf ∧ jd w.now ((Hw w e).2.drop p.1) p.2 = wM w e}) (fun p => ⟨[(2, .pb 1002 0), (3, .pb 1003 0), (4, .pb 1004 0), (6, .pb 1006 0), (7, .pb 1007 0), (9, .pb 1009 0), (10, .t (.sl 1 ((Hw w e).1.map BB))), (11, .t (.sl 4 ((Hw w e).2.map DE))), (12, .t (.v (.int .i64 p.1.1)))], [(1002, some (.box [.h 1900, .t (.v (.int .i64 w.now)), .t (.v (.int .i64 w.marks)), .h 2900])), (1003, some (.box ((Cs e).map .t))), (1004, some (.box [.nil, .t (.v (.int .i64 0)), .t (.v (.int .i64 0)), .nil])), (1006, some (.box ((Ao (Ap w e.host)).map .t))), (1007, some (.box ((Ao p.1.2).map .t))), (1009, some (.box [.t (.v (.string (JC w e).frm.user)), .t (.v (.string (JC w e).frm.domain)), .t (.sl 2 ((JC w e).to.map At)), .t (.sl 1 ((JC w e).body.map AH))])), (1900, some (.arr false 7 (w.hosts.map Ao))), (2900, some (.arr true 3 (w.given.map Ay)))]⟩) (fun p => (Hw w e).2.length - p.1.1) ⟨(0, (Ap w e.to)), Nat.zero_le _, b1, b2, rfl, rfl⟩ rfl ?_ ?_
  ·simp -implicitDefEqProofs only [go_sem, hh, seval]
   first | (simp; done) | skip
  ·rintro ⟨⟨i, x⟩, hi1, hx1, hx2, hx3, hv⟩
   dsimp only at hi1 hx1 hx2 hx3 hv
   have xo := Df hx1 hx2 (by decide)
   have nx := (C2 hx1.2.2.1.2.2.1).2
   have nx6 : x.conf.name.size ≤ 1000000 := by omega
   by_cases hlt : (i : Int) < (Hw w e).2.length
   ·have hy := hv1 _ (AE (xs := (Hw w e).2) (j := i) (by omega))
    have hyo : Ji ((Hw w e).2.getD i default) := JM hy
    have zK := Uq hx1 hx2 hy hw2
    by_cases q : ((Hw w e).2.getD i default).body.length < 12 ∧ Bm x.spool
    ·simp -implicitDefEqProofs only [hlt, Jh q, eq_self, decide_true, decide_false, go_sem, hh, seval]
     with_reducible repeat' (first | apply ai | intro _ | ((first | apply s1 | apply s3 | apply s4) <;> intro hb <;> simp -implicitDefEqProofs only [hb, go_sem, hh, seval] <;> try simp only [qz] at hb))
     all_goals (try simp only [maxLen, tn, Aa, AZ, lm] at *)
     all_goals first | with_reducible rfl | omega | with_reducible assumption | (show _ = true; rfl) | contradiction | decide | exact hx1.2.2.2 | skip
     refine ⟨⟨(i + 1, (LJ x ((Hw w e).2.getD i default) w.now).1), by dsimp only; omega, zK.1, zK.2.1, zK.2.2.trans hx3, (jf (by omega)).symm.trans hv⟩, by dsimp only; omega, ?_⟩
     simp -implicitDefEqProofs only [Jh q, go_sem, hh, seval]
     first | (simp; done) | skip
    ·simp -implicitDefEqProofs only [hlt, Jg q, eq_self, decide_true, decide_false, go_sem, hh, seval]
     with_reducible repeat' (first | apply ai | intro _ | ((first | apply s1 | apply s3 | apply s4) <;> intro hb <;> simp -implicitDefEqProofs only [hb, go_sem, hh, seval] <;> try simp only [qz] at hb))
     all_goals (try simp only [maxLen, tn, Aa, AZ, lm] at *)
     all_goals first | with_reducible rfl | omega | with_reducible assumption | (show _ = true; rfl) | contradiction | decide | exact hx1.2.2.2 | skip
     refine ⟨⟨(i + 1, (LJ x ((Hw w e).2.getD i default) w.now).1), by dsimp only; omega, zK.1, zK.2.1, zK.2.2.trans hx3, (jf (by omega)).symm.trans hv⟩, by dsimp only; omega, ?_⟩
     simp -implicitDefEqProofs only [Jg q, go_sem, hh, seval]
     first | (simp; done) | skip
   ·rw [va (by omega)] at hv
    subst hv
    simp -implicitDefEqProofs only [hlt, eq_self, decide_true, decide_false, go_sem, hh, seval]
    with_reducible repeat' (first | apply ai | intro _ | ((first | apply s1 | apply s3 | apply s4) <;> intro hb <;> simp -implicitDefEqProofs only [hb, go_sem, hh, seval] <;> try simp only [qz] at hb))
    all_goals (try simp only [maxLen, tn, Aa, AZ, lm] at *)
    all_goals first | with_reducible rfl | omega | with_reducible assumption | (show _ = true; rfl) | contradiction | decide | skip
    refine AF [] (ι := {p : Nat × Hs // p.1 ≤ (Hw w e).1.length ∧ FJ p.2 ∧ ES (1000000 + p.1) p.2 ∧ p.2.conf = (Ap w e.host).conf ∧ (∀ j, p.1 ≤ j → j < (JC w e).to.length → Cb p.2.spool e.id ((JC w e).to.getD j default)) ∧ (e.lose = true → p.2 = (Ap w e.host)) ∧ gc e.id w.now ((JC w e).to.drop p.1) ((Hw w e).1.drop p.1) p.2 = gc e.id w.now (JC w e).to (Hw w e).1 (Ap w e.host)}) (fun p => ⟨[(2, .pb 1002 0), (3, .pb 1003 0), (4, .pb 1004 0), (6, .pb 1006 0), (9, .pb 1009 0), (10, .t (.sl 1 ((Hw w e).1.map BB))), (15, .t (.v (.int .i64 p.1.1)))], [(1002, some (.box [.h 1900, .t (.v (.int .i64 w.now)), .t (.v (.int .i64 w.marks)), .h 2900])), (1003, some (.box ((Cs e).map .t))), (1004, some (.box [.nil, .t (.v (.int .i64 0)), .t (.v (.int .i64 0)), .nil])), (1006, some (.box ((Ao p.1.2).map .t))), (1009, some (.box [.t (.v (.string (JC w e).frm.user)), .t (.v (.string (JC w e).frm.domain)), .t (.sl 2 ((JC w e).to.map At)), .t (.sl 1 ((JC w e).body.map AH))])), (1900, some (.arr false 7 ((w.hosts.set e.to.toNat (wM w e)).map Ao))), (2900, some (.arr true 3 (w.given.map Ay)))]⟩) (fun p => (Hw w e).1.length - p.1.1) ⟨(0, (Ap w e.host)), Nat.zero_le _, a1, a2, rfl, fun j _ hj => ht _ (AE hj), fun _ => rfl, rfl⟩ rfl ?_ ?_
    ·simp -implicitDefEqProofs only [go_sem, hh, seval]
     first | (simp; done) | skip
    ·rintro ⟨⟨k, y⟩, hk, y1, y2, y3, y4, y5, hv⟩
     dsimp only at hk y1 y2 y3 y4 y5 hv
     have yo := Df y1 y2 (by omega)
     have ysp := y1.2.2.2
     by_cases hex : k < (Hw w e).1.length ∧ e.lose = false
     ·obtain ⟨hk1, hk2⟩ := hex
      have hk3 : (k : Int) < (Hw w e).1.length := by omega
      have htd := y4 k (Nat.le_refl _) (by omega)
      have z := X9 (out := (Hw w e).1.getD k default) y1 y2 htd hw2
      simp -implicitDefEqProofs only [hk3, hk2, Bool.not_false, eq_self, decide_true, decide_false, go_sem, hh, seval]
      with_reducible repeat' (first | apply ai | intro _ | ((first | apply s1 | apply s3 | apply s4) <;> intro hb <;> simp -implicitDefEqProofs only [hb, go_sem, hh, seval] <;> try simp only [qz] at hb))
      all_goals (try simp only [maxLen, tn, Aa, AZ, lm] at *)
      all_goals first | with_reducible rfl | omega | with_reducible assumption | (show _ = true; rfl) | contradiction | decide | exact yo.2.1 | exact htd.1 | exact htd.2 | exact .inr ⟨yo, hw2⟩ | (rw [hk2]; done) | skip
      refine ⟨⟨(k + 1, IR y e.id ((JC w e).to.getD k default) ((Hw w e).1.getD k default) w.now), by dsimp only; omega, z.1, z.2.1, z.2.2.1.trans y3, fun j hj hj2 => z.2.2.2 _ (y4 j (by dsimp only at hj; omega) hj2) (fun u => uk hd (by dsimp only at hj; omega) hj2 u), fun u => (by rw [hk2] at u; cases u), (vc (by omega) hk1).symm.trans hv⟩, by dsimp only; omega, ?_⟩
      simp -implicitDefEqProofs only [go_sem, hh, seval]
      first | (simp only [IR]; simp [hk2]; done) | (simp only [IR, hk2]; simp; done) | skip
     ·have hA : sP w e = y := by
        unfold sP
        cases hlo : e.lose
        ·rw [vb (Nat.le_of_not_lt fun u => hex ⟨u, hlo⟩)] at hv
         exact hv.symm
        ·exact (y5 hlo).symm
      have hR : wL w e = ⟨(w.hosts.set e.to.toNat (wM w e)).set e.host.toNat y, w.now, w.marks, w.given⟩ := by unfold wL; rw [hA]; rfl
      rw [hR]
      simp -implicitDefEqProofs only [List.length_set, eq_self, decide_true, decide_false, go_sem, hh, seval]
      with_reducible repeat' (first | apply ai | intro _ | ((first | apply s1 | apply s3 | apply s4) <;> intro hb <;> simp -implicitDefEqProofs only [hb, go_sem, hh, seval] <;> try simp only [qz] at hb))
      all_goals (try simp only [maxLen, tn, Aa, AZ, lm] at *)
      all_goals first | with_reducible rfl | omega | with_reducible assumption | (show _ = true; rfl) | contradiction | decide | exact absurd ⟨by omega, by assumption⟩ hex | skip
 all_goals
  try rw [e_]
  simp -implicitDefEqProofs only [Tryz.f207, h0', h1', h2, h3, eq_self, decide_true, decide_false, Int.reduceEq, go_sem, hh, seval]
  with_reducible repeat' (first | apply ai | intro _ | ((first | apply s1 | apply s3 | apply s4) <;> intro hb <;> simp -implicitDefEqProofs only [hb, go_sem, hh, seval] <;> try simp only [qz] at hb))
  all_goals (try simp only [maxLen, tn, lm] at *)
  all_goals first | rfl | omega | decide | with_reducible assumption | (show AT _ = true; rfl) | exact HX (by assumption) | contradiction | (show _ = T.v _; rfl) | (show _ = List.map Ay _; rfl) | skip
end
theorem J2 {d k : Nat} {xs : List AV} {s : AS} : EU d (.agg xs) .any k s = (s, k) := rfl
theorem H6 {xs : List AV} : BY (.agg xs) .any = [] := rfl
noncomputable def yq (w : Wd) (k : Int) : Wd := UN w k (EA (Ap w k).conf w.now (Ap w k).spool.items (Ap w k))
def yw (w : Wd) (n : Int) : Wd := ⟨w.hosts, w.now + n, w.marks, w.given⟩
open Classical in
noncomputable def Eb (w : Wd) (e : Ev) : Wd × Bool :=
 if e.kind = 1 then UT w e
 else if e.kind = 2 then Ys w e
 else if e.kind = 3 then KJ w e
 else if e.kind = 4 then (if 0 ≤ e.host ∧ e.host ≤ (w.hosts.length : Int) - 1 then (yq w e.host, true) else (w, false))
 else if e.kind = 5 then (if (1 ≤ e.id ∧ e.id ≤ 40) ∧ ¬ w.now + e.id > 9999 then (yw w e.id, true) else (w, false))
 else (w, false)
section
variable {w : Wd} {e : Ev}
theorem tZ (h : e.kind = 1) : Eb w e = UT w e := if_pos h
theorem ta (h : e.kind = 2) : Eb w e = Ys w e := by unfold Eb; rw [if_neg (by omega), if_pos h]
theorem tc (h : e.kind = 3) : Eb w e = KJ w e := by unfold Eb; rw [if_neg (by omega), if_neg (by omega), if_pos h]
theorem te (h : e.kind = 4) (q : 0 ≤ e.host ∧ e.host ≤ (w.hosts.length : Int) - 1) : Eb w e = (yq w e.host, true) := by unfold Eb; rw [if_neg (by omega), if_neg (by omega), if_neg (by omega), if_pos h, if_pos q]
theorem ny (h : e.kind = 4) (q : ¬ (0 ≤ e.host ∧ e.host ≤ (w.hosts.length : Int) - 1)) : Eb w e = (w, false) := by unfold Eb; rw [if_neg (by omega), if_neg (by omega), if_neg (by omega), if_pos h, if_neg q]
theorem tf (h : e.kind = 5) (q : (1 ≤ e.id ∧ e.id ≤ 40) ∧ ¬ w.now + e.id > 9999) : Eb w e = (yw w e.id, true) := by unfold Eb; rw [if_neg (by omega), if_neg (by omega), if_neg (by omega), if_neg (by omega), if_pos h, if_pos q]
theorem WJ (h : e.kind = 5) (q : ¬ ((1 ≤ e.id ∧ e.id ≤ 40) ∧ ¬ w.now + e.id > 9999)) : Eb w e = (w, false) := by unfold Eb; rw [if_neg (by omega), if_neg (by omega), if_neg (by omega), if_neg (by omega), if_pos h, if_neg q]
theorem tY (h : ¬ e.kind = 1 ∧ ¬ e.kind = 2 ∧ ¬ e.kind = 3 ∧ ¬ e.kind = 4 ∧ ¬ e.kind = 5) : Eb w e = (w, false) := by unfold Eb; rw [if_neg h.1, if_neg h.2.1, if_neg h.2.2.1, if_neg h.2.2.2.1, if_neg h.2.2.2.2]
end
theorem WK {N : Nat} {w : Wd} {e : Ev} (q : HG N w) (hN : N ≤ 1000000) : HG (N + 40) (Eb w e).1 := by
 have hl := q.2.1
 unfold Eb
 split
 ·exact vL q
 ·split
  ·exact BG (vd q) (by omega)
  ·split
   ·exact BG (oU q) (by omega)
   ·split
    ·split
     ·rename_i h
      have hH := q.1 _ (AE (xs := w.hosts) (j := e.host.toNat) (by omega))
      have z := qB (w := w.now) hH.1 hH.2 (by omega)
      exact NX (BG q (by omega)) z.1 z.2
     ·exact BG q (by omega)
    ·split
     ·split
      ·rename_i h
       refine BG (N := N) ⟨q.1, q.2.1, ?_, q.2.2.2⟩ (by omega)
       have := q.2.2.1
       show 0 ≤ w.now + e.id ∧ w.now + e.id ≤ 9999
       omega
      ·exact BG q (by omega)
     ·exact BG q (by omega)
def VZ : Mt := GL (lc sB (lc Pn.ag l0)) (fun p => HG 1000000 p.1 ∧ Zi p.2.1) (fun p => ([.any, Pn.ag.enc p.2.1], .tup [Hi (Eb p.1 p.2.1).1, .t (.v (.bool (Eb p.1 p.2.1).2))]))
section
attribute [local go_sem] l3 l4 l5 wE J6 J2 H6 List.append_assoc List.nil_append CN Fl Fk Hi.eq_1 Gv.eq_1 Ab BR Kv lm AS.opn AS.cls AS.nilb AS.renb AS.up Bool.not_false Bool.not_true List.set_set List.set_cons_zero List.set_cons_succ List.set_nil List.mem_singleton forall_eq tn List.map_nil
set_option maxHeartbeats 6400000 in
theorem dQ {G : Gt} (hG : Aj G) (hh : G.e 206 = AN l3 ∧ G.e 207 = AN l4 ∧ G.e 208 = AN l5 ∧ G.e 69 = AA 1 wE ∧ G.e 36 = AA 0 J6) : Gd G 188 (AN VZ) := by
 refine Ik (dp := fun _ => true) (fn := Tryz.f188) (n := 2) rfl hG ?_
 rintro ⟨w, e, ⟨⟩⟩ hpre
 obtain ⟨hw, hE⟩ := hpre
 try dsimp only at hw hE ⊢
 have hl := hw.2.1
 refine BQ (e.kind = 1) (fun k1 => have k1' := decide_eq_true k1; have e_ : Eb w e = _ := tZ k1; have k2' := tv; have k3' := tv; have k4' := tv; have h2' := tv; have k5' := tv; ?_) (fun k1 => have k1' := decide_eq_false k1; BQ (e.kind = 2) (fun k2 => have k2' := decide_eq_true k2; have e_ : Eb w e = _ := ta k2; have k3' := tv; have k4' := tv; have h2' := tv; have k5' := tv; ?_) (fun k2 => have k2' := decide_eq_false k2; BQ (e.kind = 3) (fun k3 => have k3' := decide_eq_true k3; have e_ : Eb w e = _ := tc k3; have k4' := tv; have h2' := tv; have k5' := tv; ?_) (fun k3 => have k3' := decide_eq_false k3; BQ (e.kind = 4) (fun k4 => have k4' := decide_eq_true k4; BQ (0 ≤ e.host ∧ e.host ≤ (w.hosts.length : Int) - 1) (fun h2 => have h2' := Ag h2; ?w1) (fun h2 => have h2' := AO h2; have e_ : Eb w e = _ := ny k4 h2; have k5' := tv; ?_)) (fun k4 => have k4' := decide_eq_false k4; BQ (e.kind = 5) (fun k5 => have k5' := decide_eq_true k5; BQ (1 ≤ e.id ∧ e.id ≤ 40) (fun h2 => have h2' := Ag h2; ?w2) (fun h2 => have h2' := AO h2; have e_ : Eb w e = _ := WJ k5 (fun q => h2 q.1); ?_)) (fun k5 => have k5' := decide_eq_false k5; have e_ : Eb w e = _ := tY ⟨k1, k2, k3, k4, k5⟩; have h2' := tv; ?_)))))
 case w1 =>
  have hH := hw.1 _ (AE (xs := w.hosts) (j := e.host.toNat) (by omega))
  have oa := Df hH.1 hH.2 (by decide)
  have hs := DS.2 hH.1
  rw [te k4 h2]
  simp -implicitDefEqProofs only [Tryz.f188, k1', k2', k3', k4', h2', eq_self, decide_true, decide_false, Int.reduceEq, go_sem, hh, seval]
  with_reducible repeat' (first | apply ai | intro _ | ((first | apply s1 | apply s3 | apply s4) <;> intro hb <;> simp -implicitDefEqProofs only [hb, go_sem, hh, seval] <;> try simp only [qz] at hb))
  all_goals (try simp only [maxLen, tn, Aa, AZ] at *)
  all_goals first | rfl | omega | decide | with_reducible assumption | (show AT _ = true; rfl) | exact HX (by assumption) | contradiction | (show _ = T.v _; rfl) | (show _ = List.map Ay _; rfl) | (show _ = List.map Ao _; rfl) | skip
 case w2 =>
  have hnw := hw.2.2.1
  by_cases h3 : w.now + e.id > 9999
  ·rw [WJ k5 (fun q => q.2 h3)]
   simp -implicitDefEqProofs only [Tryz.f188, h3, k1', k2', k3', k4', k5', h2', eq_self, decide_true, decide_false, Int.reduceEq, go_sem, hh, seval]
   with_reducible repeat' (first | apply ai | intro _ | ((first | apply s1 | apply s3 | apply s4) <;> intro hb <;> simp -implicitDefEqProofs only [hb, go_sem, hh, seval] <;> try simp only [qz] at hb))
   all_goals (try simp only [maxLen, tn, Aa, AZ] at *)
   all_goals first | rfl | omega | decide | with_reducible assumption | (show AT _ = true; rfl) | exact HX (by assumption) | contradiction | (show _ = T.v _; rfl) | (show _ = List.map Ay _; rfl) | skip
  ·rw [tf k5 ⟨h2, h3⟩]
   simp -implicitDefEqProofs only [Tryz.f188, h3, k1', k2', k3', k4', k5', h2', eq_self, decide_true, decide_false, Int.reduceEq, go_sem, hh, seval]
   with_reducible repeat' (first | apply ai | intro _ | ((first | apply s1 | apply s3 | apply s4) <;> intro hb <;> simp -implicitDefEqProofs only [hb, go_sem, hh, seval] <;> try simp only [qz] at hb))
   all_goals (try simp only [maxLen, tn, Aa, AZ] at *)
   all_goals first | rfl | omega | decide | with_reducible assumption | (show AT _ = true; rfl) | exact HX (by assumption) | contradiction | (show _ = T.v _; rfl) | (show _ = List.map Ay _; rfl) | (show _ = List.map Ao _; rfl) | skip
 all_goals
  try rw [e_]
  simp -implicitDefEqProofs only [Tryz.f188, k1', k2', k3', k4', h2', k5', eq_self, decide_true, decide_false, Int.reduceEq, go_sem, hh, seval]
  with_reducible repeat' (first | apply ai | intro _ | ((first | apply s1 | apply s3 | apply s4) <;> intro hb <;> simp -implicitDefEqProofs only [hb, go_sem, hh, seval] <;> try simp only [qz] at hb))
  all_goals (try simp only [maxLen, tn, lm] at *)
  all_goals first | rfl | omega | decide | with_reducible assumption | (show AT _ = true; rfl) | exact HX (by assumption) | contradiction | (show _ = T.v _; rfl) | (show _ = List.map Ay _; rfl) | skip
end
def Pj (cs : List Cf) : Prop := GH LK cs ∧ (∀ c ∈ cs, LE c) ∧ kE (FC cs)
theorem Pk {cs : List Cf} (h : Pj cs) : HG 0 (FC cs) := by
 have hl : (FC cs).hosts.length = cs.length := lm _
 have h4 := h.2.2.2.2.2.1
 refine ⟨fun x hx => ?_, ⟨by omega, by omega⟩, ⟨Int.le_refl _, by show (0 : Int) ≤ 9999; decide⟩, ⟨Int.le_refl _, by show (0 : Int) ≤ 60; decide⟩, Nat.le_refl _, fun _ q => by cases q⟩
 obtain ⟨c, hc, rfl⟩ := List.mem_map.1 hx
 exact Sg (h.2.1 c hc)
def VY : Ct := An (lc IZ.asl l0) (fun p => Pj p.1) (fun p => Hi (FC p.1))
section
attribute [local go_sem] tI tJ w6 Hi.eq_1 CN Aa AZ lm List.length_append List.length_cons List.length_nil List.map_append List.map_nil Nat.zero_add Ab AS.opn AS.cls AS.nilb AS.renb AS.up Bool.not_false Bool.not_true List.set_set List.set_cons_zero List.set_cons_succ List.set_nil List.mem_singleton forall_eq tn List.nil_append
set_option maxHeartbeats 3200000 in
theorem dP {G : Gt} (hG : Aj G) (hh : G.e 88 = AA 0 tI ∧ G.e 90 = AA 0 tJ ∧ G.e 58 = AA 0 w6) : Gd G 187 (AA 1 VY) := by
 refine LQ (dp := fun n => !(Nat.beq n 100002 || Nat.beq n 100004 || Nat.beq n 27 || Nat.beq n 28)) (fn := Tryz.f187) (n := 1) rfl hG ?_
 rintro ⟨cs, ⟨⟩⟩ hpre
 have hok : GH LK cs := hpre.1
 have hcs := hpre.2.1
 have hwd := hpre.2.2
 have hmx := hok.1
 have b8 := Ag hwd
 simp -implicitDefEqProofs only [Tryz.f187, go_sem, hh, seval]
 with_reducible repeat' (first | apply ai | intro _ | ((first | apply s1 | apply s3 | apply s4) <;> intro hb <;> simp -implicitDefEqProofs only [hb, go_sem, hh, seval] <;> try simp only [qz] at hb))
 all_goals first | with_reducible rfl | omega | with_reducible assumption | (show _ = true; rfl) | contradiction | decide | skip
 refine Ak (Le.nilb 1003 0 1901 false 7 rfl rfl rfl) ?_
 simp -implicitDefEqProofs only [go_sem, hh, seval]
 refine Ak (Le.nilb 1003 3 1902 true 3 rfl rfl rfl) (AW ?_)
 simp -implicitDefEqProofs only [go_sem, hh, seval]
 with_reducible repeat' (first | apply ai | intro _ | ((first | apply s1 | apply s3 | apply s4) <;> intro hb <;> simp -implicitDefEqProofs only [hb, go_sem, hh, seval] <;> try simp only [qz] at hb))
 all_goals first | with_reducible rfl | omega | with_reducible assumption | (show _ = true; rfl) | contradiction | decide | skip
 refine AF [] (ι := {i : Nat // i ≤ cs.length}) (fun p => ⟨[(0, .t (.sl 3 (cs.map Cr))), (2, .pb 1002 0), (3, .pb 1003 0), (4, .t (.v (.int .i64 p.1)))], [(1002, some (.box [.nil, .t (.v (.int .i64 0)), .t (.v (.int .i64 0)), .nil])), (1003, some (.box [.h 1901, .t (.v (.int .i64 0)), .t (.v (.int .i64 0)), .h 1902])), (1902, some (.arr true 3 [])), (1901, some (.arr false 7 (((cs.map EB).take p.1).map Ao)))]⟩) (fun p => cs.length - p.1) ⟨0, by simp⟩ rfl ?_ ?_
 ·simp -implicitDefEqProofs only [go_sem, hh, seval]
  first | (simp; done) | skip
 ·rintro ⟨i, hi⟩
  try dsimp only at hi
  have hlen : ((cs.map EB).take i).length = i := by simp; omega
  by_cases hlt : (i : Int) < cs.length
  ·have hc := hok.at (i := i) (by omega)
   have b7 := Ag (hcs _ (AE (xs := cs) (j := i) (by omega)))
   simp -implicitDefEqProofs only [hlt, b7, decide_true, tn, go_sem, hh, seval]
   with_reducible repeat' (first | apply ai | intro _ | ((first | apply s1 | apply s3 | apply s4) <;> intro hb <;> simp -implicitDefEqProofs only [hb, go_sem, hh, seval] <;> try simp only [qz] at hb))
   all_goals (try simp only [maxLen, tn] at *)
   all_goals first | with_reducible rfl | omega | with_reducible assumption | (show _ = true; rfl) | contradiction | decide | skip
   refine Ak (Le.lastR 1028 rfl (.cons (.same _) (.cons (.same _) (.cons (.same _) (.cons (.same _) (.cons (.nil 5) (.cons (.nil 3) (.cons (.nil 3) .nil)))))))) ?_
   simp -implicitDefEqProofs only [go_sem, hh, seval]
   refine Ak (Le.renb 1003 0 1028 1901 rfl rfl rfl rfl) (AW ?_)
   simp -implicitDefEqProofs only [go_sem, hh, seval]
   with_reducible repeat' (first | apply ai | intro _ | ((first | apply s1 | apply s3 | apply s4) <;> intro hb <;> simp -implicitDefEqProofs only [hb, go_sem, hh, seval] <;> try simp only [qz] at hb))
   all_goals first | with_reducible rfl | omega | with_reducible assumption | (show _ = true; rfl) | contradiction | decide | skip
   refine ⟨⟨i + 1, by omega⟩, by dsimp only; omega, ?_⟩
   simp -implicitDefEqProofs only [go_sem, hh, seval]
   simp only [Yk (f := EB) (show i < cs.length by omega)]
   with_reducible repeat' (first | apply ai | intro _ | ((first | apply s1 | apply s3 | apply s4) <;> intro hb <;> simp -implicitDefEqProofs only [hb, go_sem, hh, seval] <;> try simp only [qz] at hb))
   all_goals first | rfl | (simp; done) | skip
  ·have htk : (cs.map EB).take i = cs.map EB := List.take_of_length_le (by rw [lm]; omega)
   have hnw : (⟨cs.map EB, 0, 0, []⟩ : Wd) = FC cs := rfl
   simp -implicitDefEqProofs only [hlt, decide_false, htk, hnw, b8, go_sem, hh, seval]
   with_reducible repeat' (first | apply ai | intro _ | ((first | apply s1 | apply s3 | apply s4) <;> intro hb <;> simp -implicitDefEqProofs only [hb, go_sem, hh, seval] <;> try simp only [qz] at hb))
   all_goals (try simp only [maxLen, tn] at *)
   all_goals first | with_reducible rfl | omega | with_reducible assumption | (show _ = true; rfl) | contradiction | decide | rfl | exact absurd hwd (by assumption) | skip
end
noncomputable def q9 : List Ev → Wd → Wd
 | [], w => w
 | e :: t, w => q9 t (Eb w e).1
theorem jP : ∀ (es : List Ev) {w : Wd} {N : Nat}, HG N w → N + 40 * es.length ≤ 1000000 → HG (N + 40 * es.length) (q9 es w)
 | [], w, N, q, _ => q
 | e :: t, w, N, q, h => by
   rw [List.length_cons] at h ⊢
   have z := jP t (WK (e := e) q (by omega)) (by omega)
   have e2 : N + 40 * (t.length + 1) = N + 40 + 40 * t.length := by omega
   rw [e2]; exact z
theorem u3 {es : List Ev} {i : Nat} {w : Wd} (h : i < es.length) : q9 (es.drop i) w = q9 (es.drop (i + 1)) (Eb w (es.getD i default)).1 := by rw [Ac h]; rfl
noncomputable def u4 (cs : List Cf) (es : List Ev) : Wd := q9 (es.take 40) (FC cs)
theorem u5 {cs : List Cf} (h : Pj cs) (es : List Ev) : HG 1600 (u4 cs es) := by
 have hl : (es.take 40).length ≤ 40 := by rw [List.length_take]; omega
 exact BG (jP (es.take 40) (Pk h) (by omega)) (by omega)
theorem Nc (w : Wd) : Hi w = .agg [.o false 7 (w.hosts.map Ao), .t (.v (.int .i64 w.now)), .t (.v (.int .i64 w.marks)), .o true 3 (w.given.map Ay)] := rfl
def lW : Ct := An (lc IZ.asl (lc Pn.asl l0)) (fun p => Pj p.1 ∧ (∀ e ∈ p.2.1, Zi e) ∧ p.2.1.length ≤ 1000000) (fun p => Hi (u4 p.1 p.2.1))
section
attribute [local go_sem] VY VZ Nc J2 H6 Fl Fk CN lm Ab Gv.eq_1 AS.opn AS.cls AS.nilb AS.renb AS.up Bool.not_false Bool.not_true List.set_set List.set_cons_zero List.set_cons_succ List.set_nil List.mem_singleton forall_eq tn List.map_nil List.nil_append
set_option maxHeartbeats 3200000 in
theorem cx {G : Gt} (hG : Aj G) (hh : G.e 187 = AA 1 VY ∧ G.e 188 = AN VZ) : Gd G 159 (AA 1 lW) := by
 refine LQ (dp := fun n => !(Nat.beq n 100002 || Nat.beq n 100004)) (fn := Tryz.f159) (n := 2) rfl hG ?_
 rintro ⟨cs, es, ⟨⟩⟩ hpre
 obtain ⟨hc, he, hel⟩ := hpre
 try dsimp only at hc he hel ⊢
 have hl40 : (es.take 40).length ≤ 40 := by rw [List.length_take]; omega
 have hle : (es.take 40).length ≤ es.length := by rw [List.length_take]; omega
 simp -implicitDefEqProofs only [Tryz.f159, go_sem, hh, seval]
 with_reducible repeat' (first | apply ai | intro _ | ((first | apply s1 | apply s3 | apply s4) <;> intro hb <;> simp -implicitDefEqProofs only [hb, go_sem, hh, seval] <;> try simp only [qz] at hb))
 all_goals first | with_reducible rfl | omega | with_reducible assumption | (show _ = true; rfl) | contradiction | decide | skip
 refine Ak (Le.renb 1005 0 1010 1901 rfl rfl rfl rfl) ?_
 simp -implicitDefEqProofs only [go_sem, hh, seval]
 refine Ak (Le.renb 1005 3 2010 1902 rfl rfl rfl rfl) (AW ?_)
 simp -implicitDefEqProofs only [go_sem, hh, seval]
 with_reducible repeat' (first | apply ai | intro _ | ((first | apply s1 | apply s3 | apply s4) <;> intro hb <;> simp -implicitDefEqProofs only [hb, go_sem, hh, seval] <;> try simp only [qz] at hb))
 all_goals first | with_reducible rfl | omega | with_reducible assumption | (show _ = true; rfl) | contradiction | decide | skip
 refine AF [] (ι := {p : Nat × Wd // p.1 ≤ (es.take 40).length ∧ HG (40 * p.1) p.2 ∧ q9 ((es.take 40).drop p.1) p.2 = u4 cs es}) (fun p => ⟨[(1, .t (.sl 10 (es.map Cs))), (4, .pb 1004 0), (5, .pb 1005 0), (6, .t (.v (.int .i64 p.1.1)))], [(1004, some (.box [.nil, .t (.v (.int .i64 0)), .t (.v (.int .i64 0)), .nil])), (1005, some (.box [.h 1901, .t (.v (.int .i64 p.1.2.now)), .t (.v (.int .i64 p.1.2.marks)), .h 1902])), (1901, some (.arr false 7 (p.1.2.hosts.map Ao))), (1902, some (.arr true 3 (p.1.2.given.map Ay)))]⟩) (fun p => (es.take 40).length - p.1.1) ⟨(0, FC cs), Nat.zero_le _, Pk hc, rfl⟩ rfl ?_ ?_
 ·simp -implicitDefEqProofs only [go_sem, hh, seval]
  first | (simp; done) | skip
 ·rintro ⟨⟨i, x⟩, hi, hx, hv⟩
  dsimp only at hi hx hv
  have hxl := hx.2.1
  have hlm : (es.take 40).length = min 40 es.length := List.length_take
  by_cases hlt : i < (es.take 40).length
  ·have hi1 : (i : Int) < es.length := by omega
   have hi2 : (i : Int) < 40 := by omega
   have hi3 : ((x.hosts.length : Nat) : Int) > 0 := by omega
   have hE := he _ (AE (xs := es) (j := i) (by omega))
   have hg : (es.take 40).getD i default = es.getD i default := by simp [List.getD_eq_getElem?_getD, List.getElem?_take, show i < 40 by omega]
   simp -implicitDefEqProofs only [hi1, hi2, hi3, eq_self, decide_true, decide_false, go_sem, hh, seval]
   with_reducible repeat' (first | apply ai | intro _ | ((first | apply s1 | apply s3 | apply s4) <;> intro hb <;> simp -implicitDefEqProofs only [hb, go_sem, hh, seval] <;> try simp only [qz] at hb))
   all_goals (try simp only [maxLen, tn] at *)
   all_goals first | with_reducible rfl | omega | with_reducible assumption | (show _ = true; rfl) | contradiction | decide | exact BG hx (by omega) | exact ⟨BG hx (by omega), hE⟩ | skip
   refine Ak (Le.renb 1005 0 1033 1901 rfl rfl rfl rfl) ?_
   simp -implicitDefEqProofs only [go_sem, hh, seval]
   refine Ak (Le.renb 1005 3 2033 1902 rfl rfl rfl rfl) (AW ?_)
   simp -implicitDefEqProofs only [go_sem, hh, seval]
   with_reducible repeat' (first | apply ai | intro _ | ((first | apply s1 | apply s3 | apply s4) <;> intro hb <;> simp -implicitDefEqProofs only [hb, go_sem, hh, seval] <;> try simp only [qz] at hb))
   all_goals first | with_reducible rfl | omega | with_reducible assumption | (show _ = true; rfl) | contradiction | decide | skip
   refine ⟨⟨(i + 1, (Eb x (es.getD i default)).1), by dsimp only; omega, by dsimp only; rw [Nat.mul_succ]; exact WK hx (by omega), by rw [← hg]; exact (u3 hlt).symm.trans hv⟩, by dsimp only; omega, ?_⟩
   simp -implicitDefEqProofs only [go_sem, hh, seval]
   first | (simp; done) | skip
  ·rw [List.drop_of_length_le (by omega), q9] at hv
   subst hv
   simp -implicitDefEqProofs only [go_sem, hh, seval]
   with_reducible repeat' (first | apply ai | intro _ | ((first | apply s1 | apply s3 | apply s4) <;> intro hb <;> simp -implicitDefEqProofs only [hb, go_sem, hh, seval] <;> try simp only [qz] at hb))
   all_goals (try simp only [maxLen, tn] at *)
   all_goals first | with_reducible rfl | omega | with_reducible assumption | (show _ = true; rfl) | contradiction | decide | exact absurd (by omega) hlt | skip
end
end Go.V
