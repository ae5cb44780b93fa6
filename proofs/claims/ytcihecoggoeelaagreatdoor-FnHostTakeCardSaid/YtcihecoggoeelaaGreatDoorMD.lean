/- The row. No condition. -/
import Derived.Test.YtcihecoggoeelaaGreatDoorMC
import Derived.Test.YtcihecoggoeelaaGreatDoorMB
import Derived.Test.YtcihecoggoeelaaGreatDoorZB
import Derived.Test.YtcihecoggoeelaaGreatDoorMA
import Derived.ProofKit
import Derived.Carry
import Derived.WalkKit
import Derived.Test.YtcihecoggoeelaaGreatDoorCards
import Derived.Test.YtcihecoggoeelaaGreatDoorTie
import Derived.OpenShut
import Derived.Deep.DeepHandedRow
namespace Go.V
open Go Go.Proofs
set_option maxRecDepth 100000
set_option linter.unusedSimpArgs false
set_option linter.unusedVariables false
noncomputable def EU (c : Cf) : List Ad → List Ad
 | [] => []
 | a :: t => bif BM (Bk c a) then a :: EU c t else EU c t
theorem vG {c : Cf} {xs : List Ad} {i : Nat} (h : i < xs.length) (q : Bk c (xs.getD i default)) : EU c (xs.drop i) = xs.getD i default :: EU c (xs.drop (i + 1)) := by rw [AZ h, EU, Ae q]; rfl
theorem vF {c : Cf} {xs : List Ad} {i : Nat} (h : i < xs.length) (q : ¬ Bk c (xs.getD i default)) : EU c (xs.drop i) = EU c (xs.drop (i + 1)) := by rw [AZ h, EU, AN q]; rfl
theorem fB {c : Cf} {xs : List Ad} {i : Nat} (h : xs.length ≤ i) : EU c (xs.drop i) = [] := by rw [List.drop_of_length_le h]; rfl
theorem Un (c : Cf) : ∀ xs : List Ad, (EU c xs).length ≤ xs.length ∧ ∀ a ∈ EU c xs, a ∈ xs
 | [] => ⟨Nat.le_refl _, fun a h => h⟩
 | x :: t => by
   have ih := Un c t
   rw [EU]
   cases BM (Bk c x)
   ·exact ⟨by show (EU c t).length ≤ t.length + 1; omega, fun a h => List.mem_cons_of_mem _ (ih.2 a h)⟩
   ·refine ⟨by show (EU c t).length + 1 ≤ t.length + 1; omega, fun a h => ?_⟩
    rcases List.mem_cons.1 h with h | h
    ·rw [h]; exact List.mem_cons_self ..
    ·exact List.mem_cons_of_mem _ (ih.2 a h)
noncomputable def dB (b : List UInt8) : Hs := (Uw (opn b)).1
noncomputable def HE (b : List UInt8) : Ml × Rd := Fh (Uw (opn b)).2
def xN (b : List UInt8) : Prop := Ac (HE b).2 3 > 0 ∧ ((HE b).1.to.length : Int) > 0
open Classical in
noncomputable def vQ (b : List UInt8) : Ml := if xN b then ⟨(HE b).1.frm, EU (dB b).conf (HE b).1.to, (HE b).1.body⟩ else (HE b).1
noncomputable def yj (b : List UInt8) : Int := GQ ((HE b).2.nx 1) [0, 5, 9999, 10000]
theorem lF {b : List UInt8} (h : xN b) : vQ b = ⟨(HE b).1.frm, EU (dB b).conf (HE b).1.to, (HE b).1.body⟩ := if_pos h
theorem ab {b : List UInt8} (h : ¬ xN b) : vQ b = (HE b).1 := if_neg h
theorem aa (b : List UInt8) : (Uw (opn b)).1 = dB b := rfl
theorem aZ (b : List UInt8) : Fh (Uw (opn b)).2 = HE b := rfl
theorem vR (b : List UInt8) : GQ ((HE b).2.nx 1) [0, 5, 9999, 10000] = yj b := rfl
theorem qC {c : Cf} {m : Ml} (h : E3 m) : E3 ⟨m.frm, EU c m.to, m.body⟩ := by
 have s := Un c m.to
 obtain ⟨h1, h2, h3⟩ := h
 obtain ⟨h4, h5⟩ := h2
 exact ⟨h1, ⟨by show ((EU c m.to).length : Int) ≤ 1048576; omega, fun a k => h5 a (s.2 a k)⟩, h3⟩
theorem sA {b : List UInt8} (h : E3 (HE b).1) : E3 (vQ b) := by
 by_cases q : xN b
 ·rw [lF q]; exact qC h
 ·rw [ab q]; exact h
theorem ui {x0 x1 x2 x3 : T} : Bn 1 4 [x0, x1, x2, x3] = [[x0], [x1], [x2], [x3]] := rfl
def xr : Ct := Ak (lc Ld.asl l0) (fun p => True) (fun p => .tup [D7.ag.enc (dB p.1), TF.ag.enc (vQ p.1), .t (.v (.int .i64 (yj p.1)))])
section
attribute [local go_sem] xx xy RO FS yD pA Jr S1 Nd H0 vt aa aZ vR ui FC AX AW Aa lm List.length_append List.length_cons List.length_nil List.map_append List.map_nil Nat.zero_add List.nil_append AI BK A0 A2 BB BX CJ BU BY AS.opn AS.cls AS.nilb AS.renb AS.up Bool.not_false Bool.not_true List.set_set List.set_cons_zero List.set_cons_succ List.set_nil List.mem_singleton forall_eq
set_option maxHeartbeats 3200000 in
theorem qQ {G : Gt} (hG : Ah G) (hh : G.e 27 = AA 1 xx ∧ G.e 28 = AM xy ∧ G.e 31 = AM RO ∧ G.e 53 = AM FS ∧ G.e 61 = AM yD ∧ G.e 62 = AA 0 pA) : Gd G 19 (AA 1 xr) := by
 refine Lo (dp := fun n => !(Nat.beq n 100012)) (fn := Tryz.f19) (n := 1) rfl rfl hG ?_
 rintro ⟨b, ⟨⟩⟩ hpre
 dsimp only
 have z := aU (r := opn b) (by rw [H0]; decide) (by rw [H0]; decide)
 rw [H0, aa] at z
 have zm := T5 (r := (Uw (opn b)).2) (by omega) (by omega)
 rw [aZ] at zm
 have zl : ((HE b).1.to.length : Int) ≤ 1048576 := by have := zm.1.2.1.1; omega
 by_cases q : Ac (HE b).2 3 > 0
 ·by_cases l : ((HE b).1.to.length : Int) > 0
  ·rw [lF ⟨q, l⟩]
   simp -implicitDefEqProofs only [Tryz.f19, q, l, eq_self, decide_true, decide_false, go_sem, hh, Int.reduceAdd, seval]
   with_reducible repeat' (first | apply ai | intro _ | ((first | apply s1 | apply s3 | apply s4) <;> intro hb <;> simp -implicitDefEqProofs only [hb, go_sem, hh, Int.reduceAdd, seval] <;> try simp only [qz] at hb))
   all_goals (try simp only [maxLen, tn, AI] at *)
   all_goals first | with_reducible rfl | omega | with_reducible assumption | ((with_reducible show _ = true); rfl) | ((with_reducible show List.Nodup _); decide) | (exfalso; with_reducible contradiction) | skip
   refine AE [(8, 908, true, 2)] (ι := {p : Nat × List Ad // p.1 ≤ (HE b).1.to.length ∧ p.2.length ≤ p.1 ∧ p.2 ++ EU (dB b).conf ((HE b).1.to.drop p.1) = EU (dB b).conf (HE b).1.to}) (fun p => ⟨[(2, .pb 1002 0), (3, .pb 1003 0), (5, .pb 1011 0), (6, .pb 1006 0), (7, .pb 1007 0), (8, .h 908), (9, .t (.v (.int .i64 p.1.1)))], [(1011, some (.box [.t (.sl 1 ((HE b).2.b.map CH)), .t (.v (.int .i64 ((HE b).2.p + 1)))])), (1006, some (.box ((Ai (dB b)).map .t))), (1007, some (.box [.t (.v (.string (HE b).1.frm.user)), .t (.v (.string (HE b).1.frm.domain)), .h 1015, .h 2015])), (1015, some (.arr true 2 ((HE b).1.to.map Am))), (2015, some (.arr true 1 ((HE b).1.body.map AG))), (1002, some (.box [.t (.v (.string ⟨#[]⟩)), .nil, .nil, .t (.v (.int .i64 0)), .nil, .nil, .nil])), (1003, some (.box [.t (.v (.string ⟨#[]⟩)), .t (.v (.string ⟨#[]⟩)), .nil, .nil])), (908, some (.arr true 2 (p.1.2.map Am)))]⟩) (fun p => (HE b).1.to.length - p.1.1) ⟨(0, []), Nat.zero_le _, Nat.le_refl _, rfl⟩ rfl ?_ ?_
   ·simp -implicitDefEqProofs only [go_sem, hh, Int.reduceAdd, seval]
    first | (simp; done) | skip
   ·rintro ⟨⟨i, L⟩, hi, hL, hv⟩
    dsimp only at hi hL hv ⊢
    by_cases hlt : (i : Int) < (HE b).1.to.length
    ·by_cases ht : Bk (dB b).conf ((HE b).1.to.getD i default)
     ·have c1 := Ae ht
      simp -implicitDefEqProofs only [hlt, c1, decide_true, tn, go_sem, hh, Int.reduceAdd, seval]
      with_reducible repeat' (first | apply ai | intro _ | ((first | apply s1 | apply s3 | apply s4) <;> intro hb <;> simp -implicitDefEqProofs only [hb, go_sem, hh, Int.reduceAdd, seval] <;> try simp only [qz] at hb))
      all_goals (try simp only [maxLen, tn] at *)
      all_goals first | with_reducible rfl | omega | with_reducible assumption | ((with_reducible show _ = true); rfl) | ((with_reducible show List.Nodup _); decide) | (exfalso; with_reducible contradiction) | skip
      refine ⟨⟨(i + 1, L ++ [(HE b).1.to.getD i default]), by dsimp only; omega, by dsimp only; rw [List.length_append]; show L.length + 1 ≤ _; omega, by dsimp only; rw [← hv, vG (by omega) ht, List.append_assoc]; rfl⟩, by dsimp only; omega, ?_⟩
      simp -implicitDefEqProofs only [go_sem, hh, Int.reduceAdd, seval]
      first | (simp [Fk]; done) | (simp [Am]; done) | skip
     ·have c1 := AN ht
      simp -implicitDefEqProofs only [hlt, c1, decide_true, tn, go_sem, hh, Int.reduceAdd, seval]
      with_reducible repeat' (first | apply ai | intro _ | ((first | apply s1 | apply s3 | apply s4) <;> intro hb <;> simp -implicitDefEqProofs only [hb, go_sem, hh, Int.reduceAdd, seval] <;> try simp only [qz] at hb))
      all_goals (try simp only [maxLen, tn] at *)
      all_goals first | with_reducible rfl | omega | with_reducible assumption | ((with_reducible show _ = true); rfl) | ((with_reducible show List.Nodup _); decide) | (exfalso; with_reducible contradiction) | skip
      refine ⟨⟨(i + 1, L), by dsimp only; omega, by dsimp only; omega, by dsimp only; rw [← hv, vF (by omega) ht]⟩, by dsimp only; omega, ?_⟩
      simp -implicitDefEqProofs only [go_sem, hh, Int.reduceAdd, seval]
      first | (simp; done) | skip
    ·have e1 : L = EU (dB b).conf (HE b).1.to := by rw [← hv, fB (by omega), List.append_nil]
     subst e1
     simp -implicitDefEqProofs only [hlt, decide_false, go_sem, hh, Int.reduceAdd, seval]
     with_reducible repeat' (first | apply ai | intro _ | ((first | apply s1 | apply s3 | apply s4) <;> intro hb <;> simp -implicitDefEqProofs only [hb, go_sem, hh, Int.reduceAdd, seval] <;> try simp only [qz] at hb))
     all_goals (try simp only [maxLen, tn, AI] at *)
     all_goals first | with_reducible rfl | omega | with_reducible assumption | ((with_reducible show _ = true); rfl) | ((with_reducible show List.Nodup _); decide) | (exfalso; with_reducible contradiction) | skip
     refine Ag (Le.frzL [908, 2015]) (AY ?_)
     simp -implicitDefEqProofs only [go_sem, hh, Int.reduceAdd, seval]
     with_reducible repeat' (first | apply ai | intro _ | ((first | apply s1 | apply s3 | apply s4) <;> intro hb <;> simp -implicitDefEqProofs only [hb, go_sem, hh, Int.reduceAdd, seval] <;> try simp only [qz] at hb))
     all_goals (try simp only [maxLen, tn, AI] at *)
     all_goals first | with_reducible rfl | omega | with_reducible assumption | ((with_reducible show _ = true); rfl) | ((with_reducible show List.Nodup _); decide) | (exfalso; with_reducible contradiction) | skip
  ·rw [ab (fun k => l k.2)]
   simp -implicitDefEqProofs only [Tryz.f19, q, l, eq_self, decide_true, decide_false, go_sem, hh, Int.reduceAdd, seval]
   with_reducible repeat' (first | apply ai | intro _ | ((first | apply s1 | apply s3 | apply s4) <;> intro hb <;> simp -implicitDefEqProofs only [hb, go_sem, hh, Int.reduceAdd, seval] <;> try simp only [qz] at hb))
   all_goals (try simp only [maxLen, tn, AI] at *)
   all_goals first | with_reducible rfl | omega | with_reducible assumption | ((with_reducible show _ = true); rfl) | ((with_reducible show List.Nodup _); decide) | (exfalso; with_reducible contradiction) | skip
   refine Ag (Le.frzL [1015, 2015]) (AY ?_)
   simp -implicitDefEqProofs only [go_sem, hh, Int.reduceAdd, seval]
   with_reducible repeat' (first | apply ai | intro _ | ((first | apply s1 | apply s3 | apply s4) <;> intro hb <;> simp -implicitDefEqProofs only [hb, go_sem, hh, Int.reduceAdd, seval] <;> try simp only [qz] at hb))
   all_goals (try simp only [maxLen, tn, AI] at *)
   all_goals first | with_reducible rfl | omega | with_reducible assumption | ((with_reducible show _ = true); rfl) | ((with_reducible show List.Nodup _); decide) | (exfalso; with_reducible contradiction) | skip
 ·rw [ab (fun k => q k.1)]
  simp -implicitDefEqProofs only [Tryz.f19, q, eq_self, decide_true, decide_false, go_sem, hh, Int.reduceAdd, seval]
  with_reducible repeat' (first | apply ai | intro _ | ((first | apply s1 | apply s3 | apply s4) <;> intro hb <;> simp -implicitDefEqProofs only [hb, go_sem, hh, Int.reduceAdd, seval] <;> try simp only [qz] at hb))
  all_goals (try simp only [maxLen, tn, AI] at *)
  all_goals first | with_reducible rfl | omega | with_reducible assumption | ((with_reducible show _ = true); rfl) | ((with_reducible show List.Nodup _); decide) | (exfalso; with_reducible contradiction) | skip
  refine Ag (Le.frzL [1015, 2015]) (AY ?_)
  simp -implicitDefEqProofs only [go_sem, hh, Int.reduceAdd, seval]
  with_reducible repeat' (first | apply ai | intro _ | ((first | apply s1 | apply s3 | apply s4) <;> intro hb <;> simp -implicitDefEqProofs only [hb, go_sem, hh, Int.reduceAdd, seval] <;> try simp only [qz] at hb))
  all_goals (try simp only [maxLen, tn, AI] at *)
  all_goals first | with_reducible rfl | omega | with_reducible assumption | ((with_reducible show _ = true); rfl) | ((with_reducible show List.Nodup _); decide) | (exfalso; with_reducible contradiction) | skip
end
theorem iY {n : ByteArray} : (⟨#[72, 111, 112, 58, 32]⟩ : ByteArray) ++ n = BD n := rfl
def c5 : Ct := Ak (lc Ld.asl l0) (fun p => True) (fun p => .t (.v (.bool true)))
section
attribute [local go_sem] xr xt xu xv oz xw xG eH Jr S1 BB Nd AX AW bG jG SY iY lm decide_true eq_self beq_self_eq_true AS.opn AS.cls AS.nilb AS.renb AS.up Bool.not_false Bool.not_true List.set_set List.set_cons_zero List.set_cons_succ List.set_nil List.mem_singleton forall_eq
set_option maxHeartbeats 6400000 in
theorem vN {G : Gt} (hG : Ah G) (hh : G.e 19 = AA 1 xr ∧ G.e 20 = AA 0 xt ∧ G.e 21 = AA 1 xu ∧ G.e 22 = AA 0 xv ∧ G.e 23 = AA 0 oz ∧ G.e 24 = AA 0 xw ∧ G.e 26 = AA 0 xG ∧ G.e 25 = AA 0 eH) : Gd G 5 (AA 0 c5) := by
 refine Lo (dp := fun n => !(Nat.beq n 100005)) (fn := Tryz.f5) (n := 1) rfl rfl hG ?_
 rintro ⟨b, ⟨⟩⟩ hpre
 try dsimp only
 have z := aU (r := opn b) (by rw [H0]; decide) (by rw [H0]; decide)
 have zn := vP (r := opn b) (by rw [H0]; decide) (by rw [H0]; decide)
 rw [H0] at z
 have zm := T5 (r := (Uw (opn b)).2) (by omega) (by omega)
 rw [aZ] at zm
 rw [aa] at z zn
 have zw := z.1
 have zk := sA zm.1
 obtain ⟨H, hH⟩ : ∃ H, dB b = H := ⟨_, rfl⟩
 obtain ⟨M, hM⟩ : ∃ M, vQ b = M := ⟨_, rfl⟩
 obtain ⟨W, hW⟩ : ∃ W, yj b = W := ⟨_, rfl⟩
 rw [hH] at zw zn
 rw [hM] at zk
 have os1 := zw.2.1
 by_cases L : (b.length : Int) > 1048576
 ·simp -implicitDefEqProofs only [Tryz.f5, L, decide_true, go_sem, hh, seval]
  with_reducible repeat' (first | apply ai | intro _ | ((first | apply s1 | apply s3 | apply s4) <;> intro hb <;> simp -implicitDefEqProofs only [hb, go_sem, hh, seval] <;> try simp only [qz] at hb))
  all_goals first | with_reducible rfl | omega | with_reducible assumption | ((with_reducible show _ = true); rfl) | ((with_reducible show List.Nodup _); decide) | (exfalso; with_reducible contradiction) | skip
 ·by_cases hok : DR H
  ·have b1 := Ae hok
   rcases cW (m := M) (w := W) hok zn (by decide) with e | ⟨X, e, mok, mlen, xok, xsz, xb, xl, xs⟩
   ·simp -implicitDefEqProofs only [Tryz.f5, L, hH, hM, hW, e, b1, eq_self, decide_true, decide_false, go_sem, hh, seval]
    with_reducible repeat' (first | apply ai | intro _ | ((first | apply s1 | apply s3 | apply s4) <;> intro hb <;> simp -implicitDefEqProofs only [hb, go_sem, hh, seval] <;> try simp only [qz] at hb))
    all_goals (try simp only [maxLen, tn] at *)
    all_goals first | with_reducible rfl | omega | with_reducible assumption | ((with_reducible show _ = true); rfl) | ((with_reducible show List.Nodup _); decide) | (exfalso; with_reducible contradiction) | skip
    refine Ag (Le.frzL [1024, 2024, 3024, 4024, 5024]) (AY ?_)
    simp -implicitDefEqProofs only [e, b1, eq_self, decide_true, decide_false, go_sem, hh, seval]
    with_reducible repeat' (first | apply ai | intro _ | ((first | apply s1 | apply s3 | apply s4) <;> intro hb <;> simp -implicitDefEqProofs only [hb, go_sem, hh, seval] <;> try simp only [qz] at hb))
    all_goals (try simp only [maxLen, tn] at *)
    all_goals first | with_reducible rfl | omega | with_reducible assumption | ((with_reducible show _ = true); rfl) | ((with_reducible show List.Nodup _); decide) | (exfalso; with_reducible contradiction) | skip
   ·have b2 := Ae xok
    have os2 := xsz.2.1
    obtain ⟨_, c3, _, _⟩ := Ux hok zw
    obtain ⟨_, c4, _, _⟩ := Ux xok xsz
    have c3' : 0 ≤ Fb H.spool ∧ Fb H.spool ≤ 40 := c3
    have c4' : 0 ≤ Fb X.spool ∧ Fb X.spool ≤ 40 := c4
    have xi : ((X.spool.items.length : Int) - 1).toNat = X.spool.items.length - 1 := by omega
    have xl2 : (X.spool.items.length : Int) ≤ 1048576 := by have := os2.1; omega
    have nm := (CM hok.2.1.2.2.1).2
    simp -implicitDefEqProofs only [Tryz.f5, L, hH, hM, hW, e, b1, eq_self, decide_true, decide_false, go_sem, hh, seval]
    with_reducible repeat' (first | apply ai | intro _ | ((first | apply s1 | apply s3 | apply s4) <;> intro hb <;> simp -implicitDefEqProofs only [hb, go_sem, hh, seval] <;> try simp only [qz] at hb))
    all_goals (try simp only [maxLen, tn] at *)
    all_goals first | with_reducible rfl | omega | with_reducible assumption | ((with_reducible show _ = true); rfl) | ((with_reducible show List.Nodup _); decide) | (exfalso; with_reducible contradiction) | skip
    refine Ag (Le.frzL [1024, 2024, 3024, 4024, 5024]) (AY ?_)
    obtain ⟨B, hB⟩ : ∃ B, B = (X.spool.items.getD ((X.spool.items.length : Int) - 1).toNat default).body := ⟨_, rfl⟩
    have hB2 : B = BD H.conf.name :: M.body := by rw [hB, xi]; exact xb
    have f1 : B.length = M.body.length + 1 := by rw [hB2]; rfl
    have f2 : B.getD (Int.toNat 0) default = BD H.conf.name := by rw [hB2]; rfl
    have f3 : Al.decL (List.drop (Int.toNat 1) (List.take (M.body.length + 1) (B.map AG))) = some M.body := by
     have q : List.drop (Int.toNat 1) (List.take (M.body.length + 1) (B.map AG)) = M.body.map AG := by
      rw [hB2]
      show List.drop 1 (AG _ :: List.take M.body.length (M.body.map AG)) = _
      rw [List.drop_one, List.tail_cons, List.take_of_length_le (by rw [lm]; omega)]
     rw [q]; exact NP _
    rw [hB] at f1 f2 f3
    rw [show Int.toNat 0 = 0 from rfl] at f2
    rw [show Int.toNat 1 = 1 from rfl] at f3
    have e5 : (#[72, 111, 112, 58, 32] : Array UInt8).size = 5 := rfl
    have hh := And.intro hh (And.intro f1 (And.intro f2 (And.intro f3 (And.intro b2 xs))))
    simp -implicitDefEqProofs only [e, b1, b2, eq_self, decide_true, decide_false, go_sem, hh, seval]
    with_reducible repeat' (first | apply ai | intro _ | ((first | apply s1 | apply s3 | apply s4) <;> intro hb <;> simp -implicitDefEqProofs only [hb, go_sem, hh, seval] <;> try simp only [qz] at hb))
    all_goals (try simp only [maxLen, tn] at *)
    all_goals first | with_reducible rfl | omega | with_reducible assumption | ((with_reducible show _ = true); rfl) | ((with_reducible show List.Nodup _); decide) | (exfalso; with_reducible contradiction) | (simp; done) | skip
    all_goals
     rw [f3]
     simp -implicitDefEqProofs only [go_sem, hh, seval]
     with_reducible repeat' (first | apply ai | intro _ | ((first | apply s1 | apply s3 | apply s4) <;> intro hb <;> simp -implicitDefEqProofs only [hb, go_sem, hh, seval] <;> try simp only [qz] at hb))
     all_goals (try simp only [maxLen, tn] at *)
     all_goals first | with_reducible rfl | omega | with_reducible assumption | ((with_reducible show _ = true); rfl) | ((with_reducible show List.Nodup _); decide) | (exfalso; with_reducible contradiction) | (simp; done) | skip
  ·have b1 := AN hok
   have e0 := KA (m := M) (w := W) hok
   simp -implicitDefEqProofs only [Tryz.f5, L, hH, hM, hW, e0, b1, eq_self, decide_true, decide_false, go_sem, hh, seval]
   with_reducible repeat' (first | apply ai | intro _ | ((first | apply s1 | apply s3 | apply s4) <;> intro hb <;> simp -implicitDefEqProofs only [hb, go_sem, hh, seval] <;> try simp only [qz] at hb))
   all_goals (try simp only [maxLen, tn] at *)
   all_goals first | with_reducible rfl | omega | with_reducible assumption | ((with_reducible show _ = true); rfl) | ((with_reducible show List.Nodup _); decide) | (exfalso; with_reducible contradiction) | skip
   refine Ag (Le.frzL [1024, 2024, 3024, 4024, 5024]) (AY ?_)
   simp -implicitDefEqProofs only [e0, b1, eq_self, decide_true, decide_false, go_sem, hh, seval]
   with_reducible repeat' (first | apply ai | intro _ | ((first | apply s1 | apply s3 | apply s4) <;> intro hb <;> simp -implicitDefEqProofs only [hb, go_sem, hh, seval] <;> try simp only [qz] at hb))
   all_goals (try simp only [maxLen, tn] at *)
   all_goals first | with_reducible rfl | omega | with_reducible assumption | ((with_reducible show _ = true); rfl) | ((with_reducible show List.Nodup _); decide) | (exfalso; with_reducible contradiction) | skip
end
end Go.V
namespace Go.V
open Go Go.Proofs Go.ChangeShapes Go.WideShapes Go.ChangeAt Go.RowKit
set_option maxRecDepth 100000
section
variable {H : Type} {enc : TypeId × Value → H} {W : World} {P : Program}
def pW (W : World) : Nat → Prop := fun b => b < W.heap.size
def tr (P : Program) (W : World) (enc : TypeId × Value → H) (t : TypeId) (q : List T → Prop) : Prop :=
 ∀ (n : Nat) (cs : List Value) (x : DataW H × List MemPlace), DataW.trod enc P W 0 (fun _ => true) true n t cs = some x → ∃ ts, q ts ∧ CL W (pW W) ts cs
theorem tr.slice {α : Type} (E : Ee α) {t e : TypeId} (u : P.underlying t = some (.slice e)) (hn : P.cellsOf e = E.n) (h0 : 0 < E.n) (he : tr P W enc e fun ts => ∃ a, ts = E.enc a) :
    tr P W enc t fun ts => ∃ xs : List α, ts = [.sl E.n (xs.map E.enc)] := fun n cs x h => by
 rcases DataW.trod_slice u h with ⟨rfl, _⟩ | ⟨a, len, cap, elems, rest, m, rfl, rfl, _, _, hlc, hcm, hel, hes, _⟩
 ·exact ⟨_, ⟨[], rfl⟩, .cons _ _ _ _ (.nil _) .nil⟩
 ·rw [hn] at hes
  have key : ∀ k, k ≤ len → ∃ (xs : List α) (vs : List Value), xs.length = k ∧ vs.length = k * E.n ∧ CL W (pW W) (xs.map E.enc).flatten vs ∧ (0 < k → a.block < W.heap.size) ∧ ∀ j v, vs[j]? = some v → W.cell? (a.add j) = some v := fun k => by
   induction k with
   | zero => exact fun _ => ⟨[], [], rfl, by simp, .nil, fun h => absurd h (Nat.lt_irrefl _), fun j v hj => by simp at hj⟩
   | succ k ih =>
     intro hk
     obtain ⟨xs, vs, h1, h2, h3, h4, h5⟩ := ih (by omega)
     have h6 := hes k (by omega)
     rw [List.getElem?_eq_getElem (by omega)] at h6
     obtain ⟨cs, h7, h8⟩ := Option.bind_eq_some_iff.1 h6
     obtain ⟨ts, ⟨y, rfl⟩, h9⟩ := he _ _ _ h8
     obtain ⟨q1, q2, q3⟩ := World.cells?_some h7
     have hb : a.block < W.heap.size := by
      have := World.cells?_block h7 h0
      rwa [C8] at this
     refine ⟨xs ++ [y], vs ++ cs, by simp [h1], ?_, ?_, fun _ => hb, fun j v hj => ?_⟩
     ·have : cs.length = E.n := by rw [← h9.len, E.len]
      rw [List.length_append, h2, this, Nat.succ_mul]
     ·rw [List.map_append, List.flatten_append]
      exact h3.append (by simpa using h9)
     ·by_cases hj2 : j < vs.length
      ·rw [List.getElem?_append_left hj2] at hj
       exact h5 j v hj
      ·rw [List.getElem?_append_right (by omega)] at hj
       have hjl : j - vs.length < E.n := by
        have := (List.getElem?_eq_some_iff.1 hj).1
        have h10 : cs.length = E.n := by rw [← h9.len, E.len]
        omega
       have := q3 (j - vs.length) hjl
       rw [Fg] at this
       rw [show j = k * E.n + (j - vs.length) from by omega, this]
       exact hj
  obtain ⟨xs, vs, h1, h2, h3, h4, h5⟩ := key len (Nat.le_refl _)
  refine ⟨_, ⟨xs, rfl⟩, .cons _ _ _ _ (.sl E.n _ a len cap vs (by simp [h1]) hlc hcm (fun hne => ?_) (fun c hc => ?_) h5 h3) .nil⟩
  ·refine h4 ?_
   rcases Nat.eq_zero_or_pos len with h | h
   ·exact absurd (by rw [List.eq_nil_of_length_eq_zero (h1.trans h)]; rfl) hne
   ·exact h
  ·obtain ⟨y, _, rfl⟩ := List.mem_map.1 hc
   exact E.len y
end
end Go.V
namespace Go.Proofs.YtcihecoggoeelaaGreatDoor
open Go Go.Proofs Go.ChangeShapes Go.WideShapes Go.ChangeAt Go.RowKit
set_option maxRecDepth 100000
theorem own : ownKnob Tryz.prog.godebug = none := by kernel_rfl
def flatD : Nat → DataW Unit → List Value
 | 0, _ => []
 | _ + 1, .lit (.int k v) => [.int k v]
 | n + 1, .agg xs => xs.flatMap (flatD n)
 | _ + 1, _ => []
noncomputable def gOf (n : String) : Nat := (Tryz.prog.globalNamed n).getD 0
noncomputable def layAt (n : String) (d : DataW Unit) (h : Array Obj) : Array Obj := h.modify (gOf n) fun
 | .cells _ t frozen => .cells (flatD 5 d).toArray t frozen
 | o => o
noncomputable def laidWorld (os : Os) : World :=
 { World.holding Tryz.prog os ⟨#[], #[], []⟩ with heap := layAt "unicode/utf8.first" Rows.laid_unicode_utf8_first (layAt "unicode/utf8.acceptRanges" Rows.laid_unicode_utf8_acceptRanges (World.holding Tryz.prog os ⟨#[], #[], []⟩).heap) }
noncomputable def args0 : Array Value := #[.slice none 0 0]
theorem laid_met (os : Os) : laidMet Tryz.prog Rows.fnHostTakeRow.laid ((laidWorld os).forCall (fun _ _ => 0) ⟨#[], args0, []⟩).memory :=
 laidMet_of_run' 8 (by kernel_rfl) (by kernel_rfl)
theorem reads (os : Os) {H : Type} (enc : TypeId × Value → H) : ∃ places, DataW.whole enc Tryz.prog ((laidWorld os).forCall (fun _ _ => 0) ⟨#[], args0, []⟩).memory Tryz.f5.params.toList Rows.fnHostTakeSpec.vars false args0.toList 8 = some ([.nil], [], places) :=
 ⟨[], by kernel_rfl⟩
theorem func5 : Tryz.prog.funcs[5]? = some Tryz.f5 := by kernel_rfl
def Every : Prop := ∀ (H : Type) (enc : TypeId × Value → H) (W : World) (base : Nat) (args : Array Value) (ds gs : List (DataW H)) (before : List MemPlace)
    (_ : ∀ (j : Nat) t v, Tryz.f5.params[j]? = some t → args[j]? = some v → Value.okWide Tryz.prog W .any base t v)
    (_ : DataW.Whole enc Tryz.prog Tryz.f5.params.toList Rows.fnHostTakeSpec.vars false W args.toList ds gs before) (_ : W.ShapedOpen Tryz.prog),
    Calls Tryz.prog 5 args W fun e W' => ∃ v, e = .returned v ∧ Rows.fnHostTakeSpec.post enc Tryz.prog Tryz.f5 false true false false W args v W'
theorem lifted (hE : Every) (os : Os) (started : os.Started) (H : Type) (enc : TypeId × Value → H) (F : Stop.Interp) :
    ReturnsInHanded {} Tryz.checked os 5 .any ((OpenSpec.ofChange Rows.fnHostTakeSpec).preRow enc Tryz.prog Tryz.f5 Rows.fnHostTakeRow.domain false Rows.fnHostTakeRow.laid) (((OpenSpec.ofChange Rows.fnHostTakeSpec).at F).post enc Tryz.prog Tryz.f5 false true false false) := by
 obtain ⟨places, hx⟩ := reads os enc
 refine returnsInHanded_of_row (C := Tryz.checked) (s := OpenSpec.ofChange Rows.fnHostTakeSpec) own started (by kernel_rfl) func5
  (witness_row_at (enc := enc) (C := Tryz.checked) false (laidWorld os) args0 rfl (by kernel_rfl) (by kernel_rfl) (by kernel_rfl)
    (OpenSpec.preRow_of_cond 8 hx (by kernel_rfl) (fun k hk => by cases hk) (by kernel_rfl) (laid_met os))) ?_
 intro W base args ds gs before hval hW _ _ _ _ hS _
 exact hE H enc W base args ds gs before hval hW hS
theorem said (hE : Every) : Rows.FnHostTakeSaid :=
 OpenClaim.holds_of_cond 5 Tryz.f5 rfl rfl rfl rfl rfl rfl rfl ⟨rfl, rfl, rfl, rfl, rfl⟩ rfl rfl rfl rfl rfl (by kernel_rfl) func5 (by kernel_rfl)
  (of_decide_eq_true (by kernel_rfl)) (by unfold Func.isWrapper; first | (rw [if_pos (by decide +kernel)]; kernel_rfl) | (rw [if_neg (by decide +kernel)]; exact ⟨rfl, rfl⟩))
  (fun os started H enc _ F => by rw [OpenClaim.pre_eq_preRow]; exact lifted hE os started H enc F)
theorem params5 : Tryz.f5.params = #[22] := rfl
theorem plain (f : FuncId) (fn : Func) (hf : Tryz.pinned.checked.prog.funcNamed "loop.example/satchel/laws.FnHostTake" = some f) (hfn : Tryz.pinned.checked.prog.funcs[f]? = some fn) :
    false = Tryz.pinned.checked.prog.looks [] ∧ ∀ (j : Nat) t, fn.params[j]? = some t → Tryz.pinned.checked.prog.wantsStandIn t = false := by
 obtain rfl : f = 5 := Option.some.inj ((show Tryz.prog.funcNamed "loop.example/satchel/laws.FnHostTake" = some 5 by kernel_rfl).symm.trans hf) |>.symm
 obtain rfl : fn = Tryz.f5 := (Option.some.inj (func5.symm.trans hfn)).symm
 refine ⟨by kernel_rfl, fun j t ht => ?_⟩
 rw [params5] at ht
 have hm : t ∈ [22] := by simpa using Array.mem_of_getElem? ht
 have hall : ([22].all fun u => !Tryz.prog.wantsStandIn u) = true := by kernel_rfl
 exact (show Tryz.prog.wantsStandIn t = false by simpa using List.all_eq_true.1 hall t hm)
theorem card_of (hE : Every) : Rows.FnHostTakeCardSaid :=
 Claim7.holds_tied_plain_at .later [] _ _ _ _ (said hE) (fun _ h => by cases h) (by kernel_rfl) (fun _ h => by cases h) fnHostTake_row_tie rfl ⟨rfl, rfl⟩ (by kernel_rfl) rfl plain (by kernel_rfl)
end Go.Proofs.YtcihecoggoeelaaGreatDoor
namespace Go.V
open Go Go.Proofs Go.ChangeShapes Go.WideShapes Go.ChangeAt Go.RowKit
set_option maxRecDepth 100000
set_option linter.unusedVariables false
set_option maxHeartbeats 4000000 in
theorem con5 (m : Int) (b : List UInt8) : OK Tryz.prog m 5 ((lc Ld.asl l0).enc (b, ())) ((lc Ld.asl l0).enc (b, ())) (.t (.v (.bool true))) := by
 have g0 : La Tryz.prog (Qg m []) ∧ Eg (Qg m []) := Mu
 have g1 := AB g0 (qY g0)
 have g2 := AB g1 (rF g1)
 have g3 := AB g2 (qi g2 rfl)
 have g4 := AB g3 (qh g3 rfl)
 have g5 := AB g4 (f8 g4 rfl)
 have g6 := AB g5 (rl g5)
 have g7 := AB g6 (rR g6)
 have g8 := AB g7 (rm g7 rfl)
 have g9 := AB g8 (qs g8 ⟨rfl, rfl⟩)
 have g10 := AB g9 (rj g9 rfl)
 have g11 := AB g10 (fS g10)
 have g12 := AB g11 (fK g11)
 have g13 := AB g12 (fV g12 rfl)
 have g14 := AB g13 (fI g13 ⟨rfl, rfl⟩)
 have g15 := AB g14 (fU g14)
 have g16 := AB g15 (rg g15 ⟨rfl, rfl, rfl⟩)
 have g17 := AB g16 (rh g16)
 have g18 := AB g17 (ri g17)
 have g19 := AB g18 (gI g18 ⟨rfl, rfl⟩)
 have g20 := AB g19 (fk g19 ⟨rfl, rfl, rfl, rfl, rfl⟩)
 have g21 := AB g20 (rk g20 ⟨rfl, rfl⟩)
 have g22 := AB g21 (qr g21 ⟨rfl, rfl, rfl, rfl, rfl⟩)
 have g23 := AB g22 (fJ g22)
 have g24 := AB g23 (rH g23 ⟨rfl, rfl, rfl, rfl, rfl⟩)
 have g25 := AB g24 (gK g24 ⟨rfl, rfl, rfl⟩)
 have g26 := AB g25 (fG g25 rfl)
 have g27 := AB g26 (rG g26 ⟨rfl, rfl⟩)
 have g28 := AB g27 (gW g27 rfl)
 have g29 := AB g28 (fx g28 ⟨rfl, rfl⟩)
 have g30 := AB g29 (fL g29 ⟨rfl, rfl, rfl, rfl⟩)
 have g31 := AB g30 (gb g30 ⟨rfl, rfl, rfl⟩)
 have g32 := AB g31 (f6 g31)
 have g33 := AB g32 (fT g32 rfl)
 have g34 := AB g33 (rP g33 ⟨rfl, rfl⟩)
 have g35 := AB g34 (fF g34 rfl)
 have g36 := AB g35 (rQ g35 ⟨rfl, rfl, rfl, rfl⟩)
 have g37 := AB g36 (fW g36)
 have g38 := AB g37 (fX g37)
 have g39 := AB g38 (gf g38)
 have g40 := AB g39 (gu g39 rfl)
 have g41 := AB g40 (iN g40)
 have g42 := AB g41 (iC g41 rfl)
 have g43 := AB g42 (iE g42 rfl)
 have g44 := AB g43 (iF g43 rfl)
 have g45 := AB g44 (iD g44 rfl)
 have g46 := AB g45 (iG g45)
 have g47 := AB g46 (iH g46)
 have g48 := AB g47 (iO g47)
 have g49 := AB g48 (iI g48 rfl)
 have g50 := AB g49 (gw g49 ⟨rfl, rfl, rfl, rfl, rfl, rfl, rfl⟩)
 have g51 := AB g50 (iJ g50)
 have g52 := AB g51 (iK g51)
 have g53 := AB g52 (iR g52)
 have g54 := AB g53 (iV g53 ⟨rfl, rfl⟩)
 have g55 := AB g54 (iS g54 rfl)
 have g56 := AB g55 (fy g55)
 have g57 := AB g56 (fN g56 rfl)
 have g58 := AB g57 (rK g57 ⟨rfl, rfl⟩)
 have g59 := AB g58 (iT g58 ⟨rfl, rfl, rfl⟩)
 have g60 := AB g59 (iP g59 ⟨rfl, rfl, rfl, rfl, rfl⟩)
 have g61 := AB g60 (iU g60 rfl)
 have g62 := AB g61 (iQ g61 ⟨rfl, rfl, rfl⟩)
 have g63 := AB g62 (iL g62 ⟨rfl, rfl, rfl, rfl⟩)
 have g64 := AB g63 (gz g63 ⟨rfl, rfl, rfl⟩)
 have g65 := AB g64 (hO g64)
 have g66 := AB g65 (gg g65 ⟨rfl, rfl, rfl, rfl⟩)
 have g67 := AB g66 (fY g66)
 have g68 := AB g67 (fZ g67)
 have g69 := AB g68 (rS g68 ⟨rfl, rfl, rfl, rfl⟩)
 have g70 := AB g69 (gO g69 ⟨rfl, rfl, rfl, rfl, rfl, rfl, rfl, rfl⟩)
 have g71 := AB g70 (qq g70)
 have g72 := AB g71 (rn g71 ⟨rfl, rfl⟩)
 have g73 := AB g72 (qu g72 rfl)
 have g74 := AB g73 (gh g73 ⟨rfl, rfl⟩)
 have g75 := AB g74 (hP g74)
 have g76 := AB g75 (gL g75 rfl)
 have g77 := AB g76 (gc g76)
 have g78 := AB g77 (gN g77 ⟨rfl, rfl⟩)
 have g79 := AB g78 (iM g78 ⟨rfl, rfl⟩)
 have g80 := AB g79 (hY g79 ⟨rfl, rfl, rfl, rfl, rfl, rfl⟩)
 have g81 := AB g80 (gi g80 ⟨rfl, rfl, rfl, rfl, rfl⟩)
 have g82 := AB g81 (gP g81 ⟨rfl, rfl, rfl, rfl, rfl, rfl⟩)
 have g83 := AB g82 (gj g82)
 have g84 := AB g83 (gQ g83 ⟨rfl, rfl, rfl, rfl, rfl, rfl⟩)
 have g85 := AB g84 (gk g84 rfl)
 have g86 := AB g85 (gS g85 ⟨rfl, rfl, rfl⟩)
 have g87 := AB g86 (fw g86 ⟨rfl, rfl, rfl, rfl, rfl⟩)
 have g88 := AB g87 (gJ g87 ⟨rfl, rfl, rfl, rfl, rfl⟩)
 have g89 := AB g88 (fq g88 ⟨rfl, rfl, rfl⟩)
 have g90 := AB g89 (ft g89 ⟨rfl, rfl⟩)
 have g91 := AB g90 (rz g90 ⟨rfl, rfl, rfl⟩)
 have g92 := AB g91 (fu g91 ⟨rfl, rfl, rfl, rfl, rfl, rfl, rfl⟩)
 have g93 := AB g92 (fD g92 ⟨rfl, rfl, rfl⟩)
 have g94 := AB g93 (ff g93 ⟨rfl, rfl⟩)
 have g95 := AB g94 (ra g94 ⟨rfl, rfl, rfl⟩)
 have g96 := AB g95 (fE g95 ⟨rfl, rfl, rfl⟩)
 have g97 := AB g96 (rE g96 ⟨rfl, rfl, rfl, rfl, rfl, rfl, rfl⟩)
 have g98 := AB g97 (qZ g97 ⟨rfl, rfl, rfl⟩)
 have g99 := AB g98 (fM g98 ⟨rfl, rfl, rfl, rfl⟩)
 have g100 := AB g99 (rJ g99 ⟨rfl, rfl, rfl, rfl⟩)
 have g101 := AB g100 (qQ g100 ⟨rfl, rfl, rfl, rfl, rfl, rfl⟩)
 have g102 := F9 g101 (gY m)
 have g103 := AB g102 (f9 g102 rfl)
 have g104 := F9 g103 (iA m)
 have g105 := AB g104 (gm g104 rfl)
 have g106 := F9 g105 (gn m)
 have g107 := AB g106 (gp g106)
 have g108 := AB g107 (iB g107)
 have g109 := AB g108 (gq g108 rfl)
 have g110 := AB g109 (gZ g109 ⟨rfl, rfl, rfl, rfl⟩)
 have g111 := AB g110 (gA g110 rfl)
 have g112 := AB g111 (fg g111 ⟨rfl, rfl⟩)
 have g113 := AB g112 (rb g112 rfl)
 have g114 := AB g113 (rA g113)
 have g115 := AB g114 (gC g114)
 have g116 := AB g115 (ga g115)
 have g117 := AB g116 (gE g116 rfl)
 have g118 := AB g117 (gG g117 rfl)
 have g119 := AB g118 (fh g118 ⟨rfl, rfl, rfl⟩)
 have g120 := AB g119 (rc g119 ⟨rfl, rfl⟩)
 have g121 := AB g120 (qj g120 ⟨rfl, rfl⟩)
 have g122 := AB g121 (ry g121)
 have g123 := AB g122 (rx g122 rfl)
 have g124 := AB g123 (rp g123 rfl)
 have g125 := AB g124 (fm g124 ⟨rfl, rfl⟩)
 have g126 := AB g125 (rr g125 rfl)
 have g127 := AB g126 (rq g126 rfl)
 have g128 := AB g127 (fp g127 rfl)
 have g129 := AB g128 (rt g128 rfl)
 have g130 := AB g129 (qv g129 ⟨rfl, rfl, rfl⟩)
 have g131 := AB g130 (qx g130 ⟨rfl, rfl⟩)
 have g132 := AB g131 (rI g131 rfl)
 have g133 := AB g132 (ru g132)
 have g134 := AB g133 (q9 g133 ⟨rfl, rfl⟩)
 have g135 := AB g134 (rC g134)
 have g136 := AB g135 (rD g135 rfl)
 have g137 := AB g136 (fb g136 ⟨rfl, rfl, rfl, rfl, rfl, rfl⟩)
 have g138 := AB g137 (rW g137 ⟨rfl, rfl⟩)
 have g139 := AB g138 (fi g138)
 have g140 := AB g139 (rd g139 rfl)
 have g141 := AB g140 (qo g140 rfl)
 have g142 := AB g141 (rX g141 ⟨rfl, rfl⟩)
 have g143 := AB g142 (fc g142 rfl)
 have g144 := AB g143 (rY g143 rfl)
 have g145 := F9 g144 (gX m)
 have g146 := AB g145 (f7 g145 rfl)
 have g147 := AB g146 (fe g146 rfl)
 have g148 := AB g147 (fd g147)
 have g149 := AB g148 (rZ g148 ⟨rfl, rfl⟩)
 have g150 := AB g149 (qU g149 ⟨rfl, rfl, rfl, rfl, rfl, rfl⟩)
 have g151 := AB g150 (qn g150)
 have g152 := AB g151 (fz g151)
 have g153 := AB g152 (fO g152 ⟨rfl, rfl⟩)
 have g154 := AB g153 (f0 g153)
 have g155 := AB g154 (fP g154 ⟨rfl, rfl⟩)
 have g156 := AB g155 (fH g155)
 have g157 := AB g156 (rL g156 ⟨rfl, rfl, rfl, rfl⟩)
 have g158 := AB g157 (q8 g157 rfl)
 have g159 := AB g158 (gH g158)
 have g160 := AB g159 (fj g159 rfl)
 have g161 := AB g160 (rf g160 ⟨rfl, rfl⟩)
 have g162 := AB g161 (qp g161 ⟨rfl, rfl⟩)
 have g163 := AB g162 (qy g162 ⟨rfl, rfl⟩)
 have g164 := AB g163 (rM g163 rfl)
 have g165 := AB g164 (rv g164 ⟨rfl, rfl⟩)
 have g166 := AB g165 (rB g165 rfl)
 have g167 := AB g166 (qO g166 ⟨rfl, rfl, rfl, rfl, rfl⟩)
 have g168 := AB g167 (f4 g167)
 have g169 := AB g168 (fQ g168 rfl)
 have g170 := AB g169 (rN g169 ⟨rfl, rfl, rfl⟩)
 have g171 := AB g170 (fR g170)
 have g172 := AB g171 (rO g171 ⟨rfl, rfl, rfl, rfl, rfl, rfl⟩)
 have g173 := AB g172 (qR g172 ⟨rfl, rfl, rfl, rfl, rfl, rfl⟩)
 have g174 := AB g173 (qS g173 ⟨rfl, rfl, rfl, rfl, rfl, rfl⟩)
 have g175 := AB g174 (qW g174)
 have g176 := AB g175 (rT g175 rfl)
 have g177 := AB g176 (fa g176 rfl)
 have g178 := AB g177 (rU g177 rfl)
 have g179 := AB g178 (rV g178)
 have g180 := AB g179 (qP g179 rfl)
 have g181 := AB g180 (qT g180 ⟨rfl, rfl, rfl, rfl⟩)
 have g182 := AB g181 (qV g181 rfl)
 have g183 := AB g182 (qX g182 rfl)
 have hg := vN g183 ⟨rfl, rfl, rfl, rfl, rfl, rfl, rfl, rfl⟩
 obtain ⟨res, h1, _, h3, _⟩ := hg.ro ((lc Ld.asl l0).enc (b, ())) (fun r => r = .t (.v (.bool true))) (by
  show c5 _ _
  rw [c5, RQ, (lc Ld.asl l0).ed]
  exact ⟨trivial, rfl⟩)
 rw [h1] at h3
 exact h3
section
variable {H : Type} {enc : TypeId × Value → H} {W : World}
theorem v3 : Tryz.prog.underlying 3 = some (.int .i64) := by kernel_rfl
theorem v5 : Tryz.prog.underlying 5 = some (.int .u8) := by kernel_rfl
theorem w5 : Tryz.prog.cellsOf 5 = 1 := by kernel_rfl
theorem rdBy : tr Tryz.prog W enc 5 fun ts => ∃ a, ts = Ld.enc a := fun n cs x h => by
 obtain ⟨k, rfl, _, hs⟩ := DataW.trod_int v5 h
 have hb : 0 ≤ k ∧ k < 256 := by
  have e : (Lit.int .u8 k).wf = (decide ((0 : Int) ≤ k) && decide (k ≤ 255)) := rfl
  rw [e] at hs
  simp at hs
  omega
 refine ⟨_, ⟨UInt8.ofNat k.toNat, rfl⟩, .cons _ _ _ _ ?_ .nil⟩
 have e4 : (((UInt8.ofNat k.toNat).toNat : Nat) : Int) = k := by
  have : (UInt8.ofNat k.toNat).toNat = k.toNat := by simp; omega
  omega
 rw [e4]
 exact .v _ trivial
theorem v22 : Tryz.prog.underlying 22 = some (.slice 5) := by kernel_rfl
theorem glOk_of (h : W.ShapedOpen Tryz.prog) : ∃ m, Lg m W (pW W) := by
 obtain ⟨cs, h1, h2, h3⟩ := h.1 0 #[.int .i64 0] 3 (Nat.lt_of_lt_of_le (Nat.lt_succ_self 0) (Nat.le_of_ble_eq_true (by kernel_rfl))) (by kernel_rfl)
 obtain ⟨ts, t1, _, t3⟩ := h3 (by kernel_rfl)
 have hts : ts = [3] := Option.some.inj (t1.symm.trans (by kernel_rfl))
 subst hts
 have hsz : cs.size = 1 := h2
 have h0 : cs[0]? = some cs[0] := Array.getElem?_eq_getElem (by omega)
 obtain ⟨u, hu, hok⟩ := t3 0 _ h0
 simp at hu
 subst hu
 unfold Cell.ok at hok
 rw [v3] at hok
 generalize cs[0] = v at h0 hok
 have hb : (0 : Nat) < W.heap.size := (Array.getElem?_eq_some_iff.1 h1).1
 cases v with
 | int k n =>
   have hk : k = .i64 := hok.1
   subst hk
   refine ⟨n, .rop _ _ [.int .i64 n] (fun _ => hb) (fun j u hj => ?_) (.cons _ _ _ _ (.v _ trivial) .nil)⟩
   cases j with
   | zero =>
     simp at hj
     subst hj
     simp [World.cell?, Addr.add, te, h1, h0]
   | succ j => simp at hj
 | _ => exact hok.elim
end
theorem every : YtcihecoggoeelaaGreatDoor.Every := by
 intro H enc W base args ds gs before hval0 hW hS
 have hval : ∀ (j : Nat) t v, Tryz.f5.params[j]? = some t → args[j]? = some v → Value.okWide Tryz.prog W .any base t v := hval0
 have hW' := hW
 obtain ⟨p, q, hA0, hV, rfl, hfz, hnd⟩ := hW
 have hA : DataW.TrodAll enc Tryz.prog W 0 (fun _ => true) true [22] args.toList ds p := hA0
 rw [YtcihecoggoeelaaGreatDoor.params5] at hval
 obtain ⟨u0, d0, rfl, rfl, h0⟩ := trodAll_one hA
 obtain ⟨rfl, rfl⟩ := trodVars_none hV
 have hlt : ∀ x ∈ (p) ++ [], x.block < W.heap.size := fun x hx => hW'.lt x hx
 have k0 := h0
 obtain ⟨n0, t0⟩ := h0
 obtain ⟨_, ⟨b, rfl⟩, r0⟩ := (tr.slice Ld v22 w5 (by decide) rdBy) _ _ _ t0
 have e0 : u0.cells.toList = [u0] := by
  have := hval 0 22 u0 rfl rfl
  unfold Value.okWide at this
  rw [v22] at this
  cases u0 with
  | agg cs => simp only [Cell.okWide, v22, Cell.ok] at this
  | _ => rfl
 rw [e0] at r0
 have r0' : Ro W (pW W) (.sl 1 (b.map Ld.enc)) u0 := by
  cases r0 with | cons _ _ _ _ h _ => exact h
 have a0 : AH ρ0 W (pW W) (.t (.sl 1 (b.map Ld.enc))) u0 [] := .t _ _ r0'
 obtain ⟨m, hgl⟩ := glOk_of hS
 have hargs : AJ ρ0 W (pW W) ((lc Ld.asl l0).enc (b, ())) [u0] [] := .cons _ _ _ _ [] [] a0 .nil
 have hcall := con5 m b W (pW W) [u0] [] hgl hargs .nil (fun b hb => by cases hb) (fun b hb => hb)
 refine Calls.mono hcall fun e W' hq => ?_
 obtain ⟨v, pr', G, F, he, hfr, _, _, _, _, hv, _, _⟩ := hq
 obtain ⟨rfl, _⟩ := hv.val
 have hb : Below W.heap.size W W' := ⟨hfr.os, hfr.tape, hfr.output, hfr.size, fun k hk => hfr.block k hk (by simp)⟩
 refine ⟨_, he, _, _, _, [], p, [], hW', ?_, ?_, rfl, hb.frame _, fun h => by cases h⟩
 ·exact trodAll_mk1 (shut_bool (show Tryz.prog.underlying 4 = some .bool by kernel_rfl) _)
 ·have := trodAll_mk1 (Below.trod (by kernel_rfl) (by kernel_rfl) (of_decide_eq_true (by kernel_rfl)) k0 hb fun x hx => hlt x (by simp [hx]))
  exact this
end Go.V
namespace Go.Proofs.YtcihecoggoeelaaGreatDoor
theorem fnHostTake_card : Rows.FnHostTakeCardSaid := card_of Go.V.every
end Go.Proofs.YtcihecoggoeelaaGreatDoor
