/- The row. No condition. -/
import Derived.Test.YtcihecoggoeelaaGreatDoorMA
import Derived.Test.YtcihecoggoeelaaGreatDoorMB
import Derived.Test.YtcihecoggoeelaaGreatDoorZB
namespace Go.V
open Go Go.Proofs
set_option maxRecDepth 100000
set_option linter.unusedSimpArgs false
set_option linter.unusedVariables false
def XJ (s : ByteArray) : Nat → Nat → Int → Int
 | 0, _, n => if s.size = 0 ∨ (1 < s.size ∧ AC s 0 = 48) then -1 else n
 | k + 1, i, n => if 48 ≤ AC s i ∧ AC s i ≤ 57 ∧ i < 9 then XJ s k (i + 1) (n * 10 + (AC s i - 48)) else -1
def P2 (s : ByteArray) : Int := XJ s s.size 0 0
theorem bM {s : ByteArray} {i : Nat} {n : Int} (h : i < s.size) : XJ s (s.size - i) i n = if 48 ≤ AC s i ∧ AC s i ≤ 57 ∧ i < 9 then XJ s (s.size - (i + 1)) (i + 1) (n * 10 + (AC s i - 48)) else -1 := by
 have e : s.size - i = (s.size - (i + 1)) + 1 := by omega
 rw [e]; rfl
theorem bL {s : ByteArray} {i : Nat} {n : Int} (h : s.size ≤ i) : XJ s (s.size - i) i n = if s.size = 0 ∨ (1 < s.size ∧ AC s 0 = 48) then -1 else n := by
 have e : s.size - i = 0 := by omega
 rw [e]; rfl
def ol : Ct := Ak (lc Aq l0) (fun p => p.1.size ≤ 3) (fun p => .t (.v (.int .i64 (P2 p.1))))
set_option maxHeartbeats 1600000 in
theorem iN {G : Gt} (hG : Ah G) : Gd G 218 (AA 0 ol) := by
 refine gr (fn := Tryz.f218) (n := 1) rfl rfl hG ?_
 rintro ⟨s, ⟨⟩⟩ hpre
 simp -implicitDefEqProofs only [Tryz.f218, go_sem, seval] at hpre ⊢
 refine AE [] (ι := {p : Nat × Int // p.1 ≤ s.size ∧ 0 ≤ p.2 ∧ (p.1 = 0 → p.2 = 0) ∧ (p.1 ≤ 1 → p.2 ≤ 9) ∧ (p.1 ≤ 2 → p.2 ≤ 99) ∧ p.2 ≤ 999 ∧ XJ s (s.size - p.1) p.1 p.2 = P2 s}) (fun p => ⟨[(0, .t (.v (.string s))), (3, .t (.v (.int .i64 p.1.2))), (4, .t (.v (.int .i64 p.1.1)))], []⟩) (fun p => s.size - p.1.1) ⟨(0, 0), by simp, by simp, by simp, by simp, by simp, by simp, rfl⟩ rfl ?_ ?_
 ·simp -implicitDefEqProofs only [go_sem, seval]
  try simp
 ·rintro ⟨⟨i, n⟩, hi, h0, h1, h2, h3, h4, hv⟩
  dsimp only at hi h0 h1 h2 h3 h4 hv
  simp -implicitDefEqProofs only [go_sem, seval]
  with_reducible repeat' (first | apply ai | intro _ | ((first | apply s1 | apply s3 | apply s4) <;> intro hb <;> simp -implicitDefEqProofs only [hb, go_sem, seval] <;> try simp only [qz] at hb))
  all_goals (try simp only [maxLen, tn, Int.toNat_zero] at *)
  all_goals (try have hbr := A5 s i)
  all_goals first | rfl | omega | skip
  all_goals (by_cases hlt : i < s.size)
  all_goals first
   | omega
   | (rw [bM hlt, if_neg (by omega)] at hv; rw [← hv]; done)
   | (rw [bL (by omega), if_pos (by omega)] at hv; rw [← hv]; done)
   | (rw [bL (by omega), if_neg (by omega)] at hv; rw [← hv]; done)
   | (rw [bM hlt, if_pos (by omega)] at hv
      refine ⟨⟨(i + 1, n * 10 + (AC s i - 48)), by dsimp only; omega, by dsimp only; omega, by dsimp only; omega, by dsimp only; omega, by dsimp only; omega, by dsimp only; omega, hv⟩, by dsimp only; omega, ?_⟩
      simp -implicitDefEqProofs only [go_sem, seval]
      try simp
      done)
   | skip
theorem z8 (i : Nat) : ((i : Int) + 1).toNat = i + 1 := by omega
def Lr (s : ByteArray) : Nat → Nat → Nat → List ByteArray × Nat
 | 0, _, fr => ([], fr)
 | k + 1, i, fr => if i + 1 < s.size then (if AC s i = 13 ∧ AC s (i + 1) = 10 then (s.extract fr i :: (Lr s k (i + 2) (i + 2)).1, (Lr s k (i + 2) (i + 2)).2) else Lr s k (i + 1) fr) else ([], fr)
def OB (s : ByteArray) : List ByteArray := (Lr s s.size 0 0).1
def sD (s : ByteArray) : ByteArray := s.extract (Lr s s.size 0 0).2 s.size
theorem vZ {s : ByteArray} {k i fr : Nat} (h : i + 1 < s.size) (c : AC s i = 13 ∧ AC s (i + 1) = 10) : Lr s (k + 1) i fr = (s.extract fr i :: (Lr s k (i + 2) (i + 2)).1, (Lr s k (i + 2) (i + 2)).2) := by
 rw [Lr, if_pos h, if_pos c]
theorem vY {s : ByteArray} {k i fr : Nat} (h : i + 1 < s.size) (c : ¬ (AC s i = 13 ∧ AC s (i + 1) = 10)) : Lr s (k + 1) i fr = Lr s k (i + 1) fr := by
 rw [Lr, if_pos h, if_neg c]
theorem lL {s : ByteArray} {k i fr : Nat} (h : ¬ i + 1 < s.size) : Lr s k i fr = ([], fr) := by
 cases k with
 | zero => rfl
 | succ k => rw [Lr, if_neg h]
theorem az (s : ByteArray) : ∀ k i fr, fr ≤ i → i ≤ s.size → (Lr s k i fr).2 ≤ s.size ∧ ((Lr s k i fr).1.length + i ≤ s.size) ∧ ∀ x ∈ (Lr s k i fr).1, x.size ≤ s.size
 | 0, i, fr, h, hi => ⟨by show fr ≤ s.size; omega, by show 0 + i ≤ s.size; omega, fun x hx => by cases hx⟩
 | k + 1, i, fr, h, hi => by
   rw [Lr]
   split
   ·split
    ·have q := az s k (i + 2) (i + 2) (Nat.le_refl _) (by omega)
     refine ⟨q.1, by show (Lr s k (i + 2) (i + 2)).1.length + 1 + i ≤ s.size; omega, fun x hx => ?_⟩
     rcases List.mem_cons.1 hx with rfl | hx
     ·rw [ByteArray.size_extract]; omega
     ·exact q.2.2 x hx
    ·have q := az s k (i + 1) fr (by omega) (by omega)
     exact ⟨q.1, by omega, q.2.2⟩
   ·exact ⟨by show fr ≤ s.size; omega, by show 0 + i ≤ s.size; omega, fun x hx => by cases hx⟩
theorem lM (s : ByteArray) : (OB s).length ≤ s.size ∧ (∀ x ∈ OB s, x.size ≤ s.size) ∧ (sD s).size ≤ s.size := by
 have q := az s s.size 0 0 (Nat.le_refl _) (by omega)
 unfold OB sD
 exact ⟨by omega, q.2.2, by rw [ByteArray.size_extract]; omega⟩
def oe : Ct := Ak (lc Aq l0) (fun p => p.1.size ≤ 2000000) (fun p => .tup [.o true 1 ((OB p.1).map AG), .t (.v (.string (sD p.1)))])
section
attribute [local go_sem] lm List.map_nil List.length_append List.length_cons List.length_nil
set_option maxHeartbeats 1600000 in
theorem iJ {G : Gt} (hG : Ah G) : Gd G 214 (AA 0 oe) := by
 refine gr (fn := Tryz.f214) (n := 1) rfl rfl hG ?_ (hs := fun _ _ => .tup _ fun c hc => by
  simp only [List.mem_cons, List.not_mem_nil, or_false] at hc
  rcases hc with rfl | rfl
  ·exact .deep _ _
  ·exact .v _)
 rintro ⟨s, ⟨⟩⟩ hpre
 simp -implicitDefEqProofs only [Tryz.f214, go_sem, seval] at hpre ⊢
 with_reducible repeat' (first | apply ai | intro _ | ((first | apply s1 | apply s3 | apply s4) <;> intro hb <;> simp -implicitDefEqProofs only [hb, go_sem, seval] <;> try simp only [qz] at hb))
 all_goals first | rfl | omega | skip
 refine AE [(4, 901, true, 1)] (ι := {p : Nat × Nat × Nat × List ByteArray // p.2.2.1 ≤ p.2.1 ∧ (p.2.1 ≤ s.size ∧ p.2.2.2.length ≤ p.2.1 ∧ s.size ≤ p.1 + p.2.1) ∧ p.2.2.2 ++ (Lr s p.1 p.2.1 p.2.2.1).1 = OB s ∧ s.extract (Lr s p.1 p.2.1 p.2.2.1).2 s.size = sD s}) (fun p => ⟨[(0, .t (.v (.string s))), (4, .h 901), (5, .t (.v (.int .i64 p.1.2.2.1))), (6, .t (.v (.int .i64 p.1.2.1)))], [(901, some (.arr true 1 (p.1.2.2.2.map AG)))]⟩) (fun p => s.size - p.1.2.1) ⟨(s.size, 0, 0, []), by simp, by simp, rfl, rfl⟩ rfl ?_ ?_
 ·simp -implicitDefEqProofs only [go_sem, seval]
  try simp
 ·rintro ⟨⟨k, i, fr, out⟩, hf, ⟨hi, ho, hk⟩, h1, h2⟩
  dsimp only at hf hi ho hk h1 h2
  simp -implicitDefEqProofs only [go_sem, seval]
  with_reducible repeat' (first | apply ai | intro _ | ((first | apply s1 | apply s3 | apply s4) <;> intro hb <;> simp -implicitDefEqProofs only [hb, go_sem, seval] <;> try simp only [qz] at hb))
  all_goals (try simp only [maxLen, tn, z8] at *)
  all_goals first
   | rfl
   | omega
   | (rename_i q; simp only [List.mem_singleton] at q; subst q; rfl)
   | (simp only [List.mem_singleton] at *; omega)
   | (rw [lL (by omega), List.append_nil] at h1; rw [h1]; done)
   | (rw [lL (by omega)] at h2; rw [← h2]; done)
   | (obtain ⟨k, rfl⟩ : ∃ j, k = j + 1 := ⟨k - 1, by omega⟩
      rw [vZ (by omega) ⟨by assumption, by assumption⟩] at h1 h2
      refine ⟨⟨(k, i + 2, i + 2, out ++ [s.extract fr i]), by dsimp only; omega, ⟨by dsimp only; omega, by simp; omega, by dsimp only; omega⟩, by simpa using h1, h2⟩, by dsimp only; omega, ?_⟩
      simp -implicitDefEqProofs only [go_sem, seval]
      simp [AG]
      try omega
      done)
   | (obtain ⟨k, rfl⟩ : ∃ j, k = j + 1 := ⟨k - 1, by omega⟩
      rw [vY (by omega) (by omega)] at h1 h2
      refine ⟨⟨(k, i + 1, fr, out), by dsimp only; omega, ⟨by dsimp only; omega, by dsimp only; omega, by dsimp only; omega⟩, h1, h2⟩, by dsimp only; omega, ?_⟩
      simp -implicitDefEqProofs only [go_sem, seval]
      try simp
      done)
   | skip
end
def dg (n : Int) : ByteArray := Fz [48 + n]
theorem NS (n : Int) : (dg n).size = 1 := rfl
def NN (n : Int) : ByteArray := if n < 10 then dg n else dg (n / 10) ++ dg (n % 10)
theorem NO {n : Int} (h : n < 10) : NN n = dg n := if_pos h
theorem Ic (n : Int) : 1 ≤ (NN n).size ∧ (NN n).size ≤ 2 := by
 unfold NN
 split
 ·rw [NS]; omega
 ·rw [ByteArray.size_append, NS, NS]; omega
theorem pt {n : Int} (h : ¬ n < 10) : NN n = dg (n / 10) ++ dg (n % 10) := if_neg h
def UP : Ct := Ak (lc BF l0) (fun p => 0 ≤ p.1 ∧ p.1 < 10) (fun p => .t (.v (.string (NN p.1))))
theorem aP {G : Gt} (hG : Ah G) : Gd G 184 (AA 0 UP) := by
 refine gr (fn := Tryz.f184) (n := 1) rfl rfl hG ?_
 rintro ⟨n, ⟨⟩⟩ hpre
 simp -implicitDefEqProofs only [Tryz.f184, go_sem, seval] at hpre ⊢
 have h1 : 0 ≤ n := hpre.1
 have h2 : n < 10 := hpre.2
 with_reducible repeat' (first | apply ai | intro _ | ((first | apply s1 | apply s3 | apply s4) <;> intro hb <;> simp -implicitDefEqProofs only [hb, go_sem, seval] <;> try simp only [qz] at hb))
 all_goals (try simp only [maxLen, tn] at *)
 all_goals first | rfl | omega | (rw [NO h2]; rfl) | skip
def eG : Ct := Ak (lc BF l0) (fun p => 0 ≤ p.1 ∧ p.1 < 100) (fun p => .t (.v (.string (NN p.1))))
section
attribute [local go_sem] UP
theorem aQ {G : Gt} (hG : Ah G) (hh : G.e 184 = AA 0 UP) : Gd G 184 (AA 0 eG) := by
 refine gr (fn := Tryz.f184) (n := 1) rfl rfl hG ?_
 rintro ⟨n, ⟨⟩⟩ hpre
 simp -implicitDefEqProofs only [Tryz.f184, go_sem, hh, seval] at hpre ⊢
 have h1 : 0 ≤ n := hpre.1
 have h2 : n < 100 := hpre.2
 with_reducible repeat' (first | apply ai | intro _ | ((first | apply s1 | apply s3 | apply s4) <;> intro hb <;> simp -implicitDefEqProofs only [hb, go_sem, hh, seval] <;> try simp only [qz] at hb))
 all_goals (try simp only [maxLen, tn] at *)
 all_goals first | rfl | omega | (rw [NO (by omega)]; rfl) | (rw [pt (n := n) (by omega), NO (n := n / 10) (by omega)]; rfl) | (rw [NO (n := n / 10) (by omega)]; rfl) | (have := (Ic (n / 10)).2; have e : (Fz [48 + n % 10]).size = 1 := rfl; omega) | skip
end
theorem gf {G : Gt} (hG : Ah G) : Gd G 184 (AA 0 eG) := aQ (G := Qg G.m [(184, AA 0 UP)]) (AB Mu (aP (G := Qg G.m []) Mu)) rfl
theorem BL {g : Prop} (c : Prop) (h1 : c → g) (h2 : ¬ c → g) : g := (Classical.em c).elim h1 h2
theorem z0 : (1 : Int).toNat = 1 := rfl
theorem Hv {l : ByteArray} (h : ¬ l = ⟨#[]⟩) : (0 : Int) < l.size := by
 have : ¬ l.size = 0 := fun e => h (ByteArray.size_eq_zero_iff.1 e)
 omega
def XG : Ml := ⟨⟨⟨#[]⟩, ⟨#[]⟩⟩, [], []⟩
def Fi (s : Ss) : Ss := ⟨s.state, XG, false, s.buf⟩
theorem pH (s : Ss) : Fi s = ⟨s.state, ⟨⟨⟨#[]⟩, ⟨#[]⟩⟩, [], []⟩, false, s.buf⟩ := rfl
open Classical in
noncomputable def As (l : ByteArray) (w : ByteArray) : ByteArray × Bool := (if (l.size : Int) < w.size then (⟨#[]⟩, false) else (if l.extract 0 w.size = w then (l.extract w.size l.size, true) else (⟨#[]⟩, false)))
theorem jU {l : ByteArray} {w : ByteArray} (h0 : (l.size : Int) < w.size) : As l w = (⟨#[]⟩, false) := by unfold As; rw [if_pos h0]
theorem jV {l : ByteArray} {w : ByteArray} (h0 : ¬ ((l.size : Int) < w.size)) (h1 : l.extract 0 w.size = w) : As l w = (l.extract w.size l.size, true) := by unfold As; rw [if_neg h0, if_pos h1]
theorem jW {l : ByteArray} {w : ByteArray} (h0 : ¬ ((l.size : Int) < w.size)) (h1 : ¬ (l.extract 0 w.size = w)) : As l w = (⟨#[]⟩, false) := by unfold As; rw [if_neg h0, if_neg h1]
theorem N0 (l w : ByteArray) : (As l w).1.size ≤ l.size := by
 unfold As
 split
 ·exact Nat.zero_le _
 ·split
  ·show (l.extract w.size l.size).size ≤ _; rw [ByteArray.size_extract]; omega
  ·exact Nat.zero_le _
def ov : Ct := Ak (lc Aq (lc Aq l0)) (fun p => True) (fun p => .tup [.t (.v (.string (As p.1 p.2.1).1)), .t (.v (.bool (As p.1 p.2.1).2))])
section
attribute [local go_sem] tn
theorem iR {G : Gt} (hG : Ah G) : Gd G 222 (AA 0 ov) := by
 refine gr (fn := Tryz.f222) (n := 2) rfl rfl hG ?_ (hs := fun _ _ => .tup _ fun c hc => by
  simp only [List.mem_cons, List.not_mem_nil, or_false] at hc
  rcases hc with rfl | rfl <;> exact .v _)
 rintro ⟨l, w, ⟨⟩⟩ hpre
 try dsimp only
 refine BL ((l.size : Int) < w.size) (fun h0 => have hx := And.intro (jU h0 : As l w = _) h0; ?_) (fun h0 => BL (l.extract 0 w.size = w) (fun h1 => have hx := And.intro (jV h0 h1 : As l w = _) (And.intro h0 h1); ?_) (fun h1 => have hx := And.intro (jW h0 h1 : As l w = _) (And.intro h0 h1); ?_))
 all_goals
  try rw [hx.1]
  simp -implicitDefEqProofs only [Tryz.f222, hx, eq_self, decide_true, decide_false, Int.reduceEq, go_sem, seval]
  with_reducible repeat' (first | apply ai | intro _ | ((first | apply s1 | apply s3 | apply s4) <;> intro hb <;> simp -implicitDefEqProofs only [hb, go_sem, seval] <;> try simp only [qz] at hb))
  all_goals (try simp only [maxLen, tn, lm] at *)
  all_goals first | rfl | omega | decide | with_reducible assumption | (show AU _ = true; rfl) | exact Hv (by assumption) | contradiction | skip
end
def RM : Ct := Ak (lc dL.ag l0) (fun p => True) (fun p => .agg ((Er (Fi p.1)).map .t))
section
attribute [local go_sem] pH AS.opn AS.cls AS.nilb AS.renb AS.up Bool.not_false Bool.not_true List.set_set List.set_cons_zero List.set_cons_succ List.set_nil List.mem_singleton forall_eq tn List.map_nil List.nil_append
theorem iK {G : Gt} (hG : Ah G) : Gd G 215 (AA 1 RM) := by
 refine gr (fn := Tryz.f215) (n := 1) rfl rfl hG ?_
 rintro ⟨s, ⟨⟩⟩ hpre
 simp -implicitDefEqProofs only [Tryz.f215, go_sem, seval] at hpre ⊢
 with_reducible repeat' (first | apply ai | intro _ | ((first | apply s1 | apply s3 | apply s4) <;> intro hb <;> simp -implicitDefEqProofs only [hb, go_sem, seval] <;> try simp only [qz] at hb))
 all_goals first | rfl | omega | decide | with_reducible assumption | (show AU _ = true; rfl) | exact Hv (by assumption) | contradiction | skip
end
open Classical in
noncomputable def Es (s : Ss) (t : ByteArray) : Ss × ByteArray := (if s.state = 1 then (if GZ t then (⟨2, ⟨BC t, [], []⟩, s.bad, s.buf⟩, ⟨#[50, 53, 48, 32, 102, 114, 111, 109]⟩) else (s, ⟨#[53, 48, 49, 32, 102, 111, 114, 109]⟩)) else (s, ⟨#[53, 48, 51, 32, 111, 114, 100, 101, 114]⟩))
theorem qE {s : Ss} {t : ByteArray} (h0 : s.state = 1) (h1 : GZ t) : Es s t = (⟨2, ⟨BC t, [], []⟩, s.bad, s.buf⟩, ⟨#[50, 53, 48, 32, 102, 114, 111, 109]⟩) := by unfold Es; rw [if_pos h0, if_pos h1]
theorem qF {s : Ss} {t : ByteArray} (h0 : s.state = 1) (h1 : ¬ (GZ t)) : Es s t = (s, ⟨#[53, 48, 49, 32, 102, 111, 114, 109]⟩) := by unfold Es; rw [if_pos h0, if_neg h1]
theorem qG {s : Ss} {t : ByteArray} (h0 : ¬ (s.state = 1)) : Es s t = (s, ⟨#[53, 48, 51, 32, 111, 114, 100, 101, 114]⟩) := by unfold Es; rw [if_neg h0]
def ow : Ct := Ak (lc dL.ag (lc Aq l0)) (fun p => p.2.1.size ≤ 2000000) (fun p => .tup [.agg ((Er (Es p.1 p.2.1).1).map .t), .t (.v (.string (Es p.1 p.2.1).2))])
section
attribute [local go_sem] Y9 SW AS.opn AS.cls AS.nilb AS.renb AS.up Bool.not_false Bool.not_true List.set_set List.set_cons_zero List.set_cons_succ List.set_nil List.mem_singleton forall_eq tn List.map_nil List.nil_append
theorem iS {G : Gt} (hG : Ah G) (hh : G.e 226 = AA 0 Y9) : Gd G 223 (AA 1 ow) := by
 refine gr (fn := Tryz.f223) (n := 2) rfl rfl hG ?_
 rintro ⟨s, t, ⟨⟩⟩ hpre
 have hz : t.size ≤ 2000000 := hpre
 try dsimp only
 refine BL (s.state = 1) (fun h0 => BL (GZ t) (fun h1 => have h1' := Ae h1; have hx := And.intro (qE h0 h1 : Es s t = _) (And.intro h0 h1'); ?_) (fun h1 => have h1' := AN h1; have hx := And.intro (qF h0 h1 : Es s t = _) (And.intro h0 h1'); ?_)) (fun h0 => have hx := And.intro (qG h0 : Es s t = _) h0; ?_)
 all_goals
  try rw [hx.1]
  simp -implicitDefEqProofs only [Tryz.f223, hx, eq_self, decide_true, decide_false, Int.reduceEq, go_sem, hh, seval]
  with_reducible repeat' (first | apply ai | intro _ | ((first | apply s1 | apply s3 | apply s4) <;> intro hb <;> simp -implicitDefEqProofs only [hb, go_sem, hh, seval] <;> try simp only [qz] at hb))
  all_goals (try simp only [maxLen, tn, lm] at *)
  all_goals first | rfl | omega | decide | with_reducible assumption | (show AU _ = true; rfl) | exact Hv (by assumption) | contradiction | skip
end
theorem xm {a b : Ad} : (decide (a.user = b.user) && decide (a.domain = b.domain)) = decide (a = b) := by
 rw [← Bool.decide_and]; exact decide_eq_decide.2 CA.symm
theorem zp {b : Bool} : ((false != b) = true) = (b = true) := by cases b <;> rfl
theorem zj {b : Bool} : ((false != b) = false) = (b = false) := by cases b <;> rfl
theorem a9 {α : Type} [Inhabited α] {xs : List α} {i : Nat} {a : α} (h : i < xs.length) (e : xs.getD i default = a) : a ∈ xs := e ▸ AF h
theorem bJ {α : Type} [Inhabited α] {xs : List α} {i : Nat} {a : α} (h : xs.length ≤ i) (hall : ∀ j, j < i → ¬ xs.getD j default = a) : ¬ a ∈ xs := fun q => by
 obtain ⟨k, hk, e⟩ := List.getElem_of_mem q
 exact hall k (by omega) (by simpa [hk] using e)
open Classical in
noncomputable def H9 (c : Cf) (s : Ss) (t : ByteArray) : Ss × ByteArray := (if s.state = 2 ∨ s.state = 3 then (if GZ t then (if Ab (BC t) then (s, ⟨#[53, 48, 49, 32, 102, 111, 114, 109]⟩) else (if Bk c (BC t) then (if BC t ∈ s.mail.to then (s, ⟨#[50, 53, 48, 32, 116, 111]⟩) else (if (s.mail.to.length : Int) ≥ 4 then (s, ⟨#[52, 53, 50, 32, 109, 97, 110, 121]⟩) else (⟨3, ⟨s.mail.frm, s.mail.to ++ [BC t], s.mail.body⟩, s.bad, s.buf⟩, ⟨#[50, 53, 48, 32, 116, 111]⟩))) else (s, ⟨#[53, 53, 48, 32, 110, 111, 98, 111, 100, 121]⟩))) else (s, ⟨#[53, 48, 49, 32, 102, 111, 114, 109]⟩)) else (s, ⟨#[53, 48, 51, 32, 111, 114, 100, 101, 114]⟩))
theorem wV {c : Cf} {s : Ss} {t : ByteArray} (h0 : s.state = 2 ∨ s.state = 3) (h1 : GZ t) (h2 : Ab (BC t)) : H9 c s t = (s, ⟨#[53, 48, 49, 32, 102, 111, 114, 109]⟩) := by unfold H9; rw [if_pos h0, if_pos h1, if_pos h2]
theorem wW {c : Cf} {s : Ss} {t : ByteArray} (h0 : s.state = 2 ∨ s.state = 3) (h1 : GZ t) (h2 : ¬ (Ab (BC t))) (h3 : Bk c (BC t)) (h4 : BC t ∈ s.mail.to) : H9 c s t = (s, ⟨#[50, 53, 48, 32, 116, 111]⟩) := by unfold H9; rw [if_pos h0, if_pos h1, if_neg h2, if_pos h3, if_pos h4]
theorem wX {c : Cf} {s : Ss} {t : ByteArray} (h0 : s.state = 2 ∨ s.state = 3) (h1 : GZ t) (h2 : ¬ (Ab (BC t))) (h3 : Bk c (BC t)) (h4 : ¬ (BC t ∈ s.mail.to)) (h5 : (s.mail.to.length : Int) ≥ 4) : H9 c s t = (s, ⟨#[52, 53, 50, 32, 109, 97, 110, 121]⟩) := by unfold H9; rw [if_pos h0, if_pos h1, if_neg h2, if_pos h3, if_neg h4, if_pos h5]
theorem wY {c : Cf} {s : Ss} {t : ByteArray} (h0 : s.state = 2 ∨ s.state = 3) (h1 : GZ t) (h2 : ¬ (Ab (BC t))) (h3 : Bk c (BC t)) (h4 : ¬ (BC t ∈ s.mail.to)) (h5 : ¬ ((s.mail.to.length : Int) ≥ 4)) : H9 c s t = (⟨3, ⟨s.mail.frm, s.mail.to ++ [BC t], s.mail.body⟩, s.bad, s.buf⟩, ⟨#[50, 53, 48, 32, 116, 111]⟩) := by unfold H9; rw [if_pos h0, if_pos h1, if_neg h2, if_pos h3, if_neg h4, if_neg h5]
theorem wZ {c : Cf} {s : Ss} {t : ByteArray} (h0 : s.state = 2 ∨ s.state = 3) (h1 : GZ t) (h2 : ¬ (Ab (BC t))) (h3 : ¬ (Bk c (BC t))) : H9 c s t = (s, ⟨#[53, 53, 48, 32, 110, 111, 98, 111, 100, 121]⟩) := by unfold H9; rw [if_pos h0, if_pos h1, if_neg h2, if_neg h3]
theorem wa {c : Cf} {s : Ss} {t : ByteArray} (h0 : s.state = 2 ∨ s.state = 3) (h1 : ¬ (GZ t)) : H9 c s t = (s, ⟨#[53, 48, 49, 32, 102, 111, 114, 109]⟩) := by unfold H9; rw [if_pos h0, if_neg h1]
theorem wb {c : Cf} {s : Ss} {t : ByteArray} (h0 : ¬ (s.state = 2 ∨ s.state = 3)) : H9 c s t = (s, ⟨#[53, 48, 51, 32, 111, 114, 100, 101, 114]⟩) := by unfold H9; rw [if_neg h0]
def ox : Ct := Ak (lc IH.ag (lc dL.ag (lc Aq l0))) (fun p => p.2.2.1.size ≤ 2000000 ∧ p.2.1.mail.to.length ≤ 1000) (fun p => .tup [.agg ((Er (H9 p.1 p.2.1 p.2.2.1).1).map .t), .t (.v (.string (H9 p.1 p.2.1 p.2.2.1).2))])
section
attribute [local go_sem] Y9 IZ pA SW AS.opn AS.cls AS.nilb AS.renb AS.up Bool.not_false Bool.not_true List.set_set List.set_cons_zero List.set_cons_succ List.set_nil List.mem_singleton forall_eq tn List.map_nil List.nil_append
set_option maxHeartbeats 3200000 in
theorem iT {G : Gt} (hG : Ah G) (hh : G.e 226 = AA 0 Y9 ∧ G.e 119 = AA 0 IZ ∧ G.e 62 = AA 0 pA) : Gd G 224 (AA 1 ox) := by
 refine gr (fn := Tryz.f224) (n := 3) rfl rfl hG ?_
 rintro ⟨c, s, t, ⟨⟩⟩ hpre
 obtain ⟨hz, hn⟩ := hpre
 try dsimp only at hz hn ⊢
 refine BL (s.state = 2 ∨ s.state = 3) (fun h0 => BL (GZ t) (fun h1 => have h1' := Ae h1; BL (Ab (BC t)) (fun h2 => have h2' := Ae h2; have hx := And.intro (wV h0 h1 h2 : H9 c s t = _) (And.intro h0 (And.intro h1' h2')); ?_) (fun h2 => have h2' := AN h2; BL (Bk c (BC t)) (fun h3 => have h3' := Ae h3; ?w1) (fun h3 => have h3' := AN h3; have hx := And.intro (wZ h0 h1 h2 h3 : H9 c s t = _) (And.intro h0 (And.intro h1' (And.intro h2' h3'))); ?_))) (fun h1 => have h1' := AN h1; have hx := And.intro (wa h0 h1 : H9 c s t = _) (And.intro h0 h1'); ?_)) (fun h0 => have hx := And.intro (wb h0 : H9 c s t = _) h0; ?_)
 case w1 =>
  simp -implicitDefEqProofs only [Tryz.f224, h0, h1', h2', h3', eq_self, decide_true, decide_false, go_sem, hh, seval]
  with_reducible repeat' (first | apply ai | intro _ | ((first | apply s1 | apply s3 | apply s4) <;> intro hb <;> simp -implicitDefEqProofs only [hb, go_sem, hh, seval] <;> try simp only [qz] at hb))
  all_goals (try simp only [maxLen, tn, lm] at *)
  all_goals first | rfl | omega | decide | with_reducible assumption | (show AU _ = true; rfl) | exact Hv (by assumption) | contradiction | skip
  all_goals
   refine AE [] (ι := {i : Nat // i ≤ s.mail.to.length ∧ ∀ j, j < i → ¬ s.mail.to.getD j default = BC t}) (fun p => ⟨[(4, .pb 1004 0), (6, .pb 1006 0), (8, .pb 1008 0), (10, .t (.v (.int .i64 p.1)))], [(1004, some (.box ((Er s).map .t))), (1006, some (.box [.t (.v (.int .i64 0)), .t (.v (.string ⟨#[]⟩)), .t (.v (.string ⟨#[]⟩)), .nil, .nil, .t (.v (.bool false)), .t (.v (.string ⟨#[]⟩))])), (1008, some (.box [.t (.v (.string (BC t).user)), .t (.v (.string (BC t).domain))]))]⟩) (fun p => s.mail.to.length - p.1) ⟨0, by simp, by simp⟩ rfl ?_ ?_
   ·simp -implicitDefEqProofs only [go_sem, hh, seval]
    try simp
   ·rintro ⟨i, hi, hall⟩
    simp -implicitDefEqProofs only [go_sem, hh, seval]
    with_reducible repeat' (first | apply ai | intro _ | ((first | apply s1 | apply s3 | apply s4) <;> intro hb <;> simp -implicitDefEqProofs only [hb, go_sem, hh, seval] <;> try simp only [qz] at hb))
    all_goals (try simp only [maxLen, tn, lm, xm, zp, zj, qa, qb] at *)
    all_goals first
     | rfl | omega | decide | with_reducible assumption | (show AU _ = true; rfl) | exact Hv (by assumption) | contradiction
     | (rw [wW h0 h1 h2 h3 (a9 (xs := s.mail.to) (i := i) (by omega) (by assumption))]; first | done | rfl)
     | (rw [wX h0 h1 h2 h3 (bJ (by omega) hall) (by omega)]; first | done | rfl)
     | (rw [wY h0 h1 h2 h3 (bJ (by omega) hall) (by omega)]; first | done | rfl | (simp [Am]; done))
     | (refine ⟨⟨i + 1, by omega, fun j hj => ?_⟩, by dsimp only; omega, ?_⟩
        ·by_cases e : j = i
         ·subst e; assumption
         ·exact hall j (by omega)
        ·simp -implicitDefEqProofs only [go_sem, hh, seval]
         simp)
     | skip
 all_goals
  try rw [hx.1]
  simp -implicitDefEqProofs only [Tryz.f224, hx, eq_self, decide_true, decide_false, Int.reduceEq, go_sem, hh, seval]
  with_reducible repeat' (first | apply ai | intro _ | ((first | apply s1 | apply s3 | apply s4) <;> intro hb <;> simp -implicitDefEqProofs only [hb, go_sem, hh, seval] <;> try simp only [qz] at hb))
  all_goals (try simp only [maxLen, tn, lm] at *)
  all_goals first | rfl | omega | decide | with_reducible assumption | (show AU _ = true; rfl) | exact Hv (by assumption) | contradiction | skip
end
open Classical in
noncomputable def Aj (s : Ss) (l : ByteArray) : (Ss × ByteArray) × Bool := (if l = ⟨#[46]⟩ then (if s.bad = true then ((⟨1, s.mail, s.bad, s.buf⟩, ⟨#[53, 53, 52, 32, 110, 111]⟩), false) else (if CZ s.mail.body then (if (s.mail.body.length : Int) ≥ 12 then ((⟨1, s.mail, s.bad, s.buf⟩, ⟨#[53, 53, 52, 32, 110, 111]⟩), false) else (if (EB s.mail.body : Int) ≥ 4 then ((⟨1, s.mail, s.bad, s.buf⟩, ⟨#[53, 53, 52, 32, 114, 111, 117, 110, 100]⟩), false) else ((⟨1, s.mail, s.bad, s.buf⟩, ⟨#[50, 53, 48, 32, 116, 97, 107, 101, 110]⟩), true))) else ((⟨1, s.mail, s.bad, s.buf⟩, ⟨#[53, 53, 52, 32, 110, 111]⟩), false))) else (if l = ⟨#[]⟩ then (if (s.mail.body.length : Int) ≥ 12 then ((⟨s.state, s.mail, true, s.buf⟩, ⟨#[]⟩), false) else (if I0 l then ((⟨s.state, ⟨s.mail.frm, s.mail.to, s.mail.body ++ [l]⟩, s.bad, s.buf⟩, ⟨#[]⟩), false) else ((⟨s.state, s.mail, true, s.buf⟩, ⟨#[]⟩), false))) else (if AC l 0 = 46 then (if (s.mail.body.length : Int) ≥ 12 then ((⟨s.state, s.mail, true, s.buf⟩, ⟨#[]⟩), false) else (if I0 (l.extract 1 l.size) then ((⟨s.state, ⟨s.mail.frm, s.mail.to, s.mail.body ++ [l.extract 1 l.size]⟩, s.bad, s.buf⟩, ⟨#[]⟩), false) else ((⟨s.state, s.mail, true, s.buf⟩, ⟨#[]⟩), false))) else (if (s.mail.body.length : Int) ≥ 12 then ((⟨s.state, s.mail, true, s.buf⟩, ⟨#[]⟩), false) else (if I0 l then ((⟨s.state, ⟨s.mail.frm, s.mail.to, s.mail.body ++ [l]⟩, s.bad, s.buf⟩, ⟨#[]⟩), false) else ((⟨s.state, s.mail, true, s.buf⟩, ⟨#[]⟩), false))))))
theorem pd {s : Ss} {l : ByteArray} (h0 : l = ⟨#[46]⟩) (h1 : s.bad = true) : Aj s l = ((⟨1, s.mail, s.bad, s.buf⟩, ⟨#[53, 53, 52, 32, 110, 111]⟩), false) := by unfold Aj; rw [if_pos h0, if_pos h1]
theorem pe {s : Ss} {l : ByteArray} (h0 : l = ⟨#[46]⟩) (h1 : ¬ (s.bad = true)) (h2 : CZ s.mail.body) (h3 : (s.mail.body.length : Int) ≥ 12) : Aj s l = ((⟨1, s.mail, s.bad, s.buf⟩, ⟨#[53, 53, 52, 32, 110, 111]⟩), false) := by unfold Aj; rw [if_pos h0, if_neg h1, if_pos h2, if_pos h3]
theorem pf {s : Ss} {l : ByteArray} (h0 : l = ⟨#[46]⟩) (h1 : ¬ (s.bad = true)) (h2 : CZ s.mail.body) (h3 : ¬ ((s.mail.body.length : Int) ≥ 12)) (h4 : (EB s.mail.body : Int) ≥ 4) : Aj s l = ((⟨1, s.mail, s.bad, s.buf⟩, ⟨#[53, 53, 52, 32, 114, 111, 117, 110, 100]⟩), false) := by unfold Aj; rw [if_pos h0, if_neg h1, if_pos h2, if_neg h3, if_pos h4]
theorem pg {s : Ss} {l : ByteArray} (h0 : l = ⟨#[46]⟩) (h1 : ¬ (s.bad = true)) (h2 : CZ s.mail.body) (h3 : ¬ ((s.mail.body.length : Int) ≥ 12)) (h4 : ¬ ((EB s.mail.body : Int) ≥ 4)) : Aj s l = ((⟨1, s.mail, s.bad, s.buf⟩, ⟨#[50, 53, 48, 32, 116, 97, 107, 101, 110]⟩), true) := by unfold Aj; rw [if_pos h0, if_neg h1, if_pos h2, if_neg h3, if_neg h4]
theorem ph {s : Ss} {l : ByteArray} (h0 : l = ⟨#[46]⟩) (h1 : ¬ (s.bad = true)) (h2 : ¬ (CZ s.mail.body)) : Aj s l = ((⟨1, s.mail, s.bad, s.buf⟩, ⟨#[53, 53, 52, 32, 110, 111]⟩), false) := by unfold Aj; rw [if_pos h0, if_neg h1, if_neg h2]
theorem pi {s : Ss} {l : ByteArray} (h0 : ¬ (l = ⟨#[46]⟩)) (h1 : l = ⟨#[]⟩) (h2 : (s.mail.body.length : Int) ≥ 12) : Aj s l = ((⟨s.state, s.mail, true, s.buf⟩, ⟨#[]⟩), false) := by unfold Aj; rw [if_neg h0, if_pos h1, if_pos h2]
theorem pj {s : Ss} {l : ByteArray} (h0 : ¬ (l = ⟨#[46]⟩)) (h1 : l = ⟨#[]⟩) (h2 : ¬ ((s.mail.body.length : Int) ≥ 12)) (h3 : I0 l) : Aj s l = ((⟨s.state, ⟨s.mail.frm, s.mail.to, s.mail.body ++ [l]⟩, s.bad, s.buf⟩, ⟨#[]⟩), false) := by unfold Aj; rw [if_neg h0, if_pos h1, if_neg h2, if_pos h3]
theorem pk {s : Ss} {l : ByteArray} (h0 : ¬ (l = ⟨#[46]⟩)) (h1 : l = ⟨#[]⟩) (h2 : ¬ ((s.mail.body.length : Int) ≥ 12)) (h3 : ¬ (I0 l)) : Aj s l = ((⟨s.state, s.mail, true, s.buf⟩, ⟨#[]⟩), false) := by unfold Aj; rw [if_neg h0, if_pos h1, if_neg h2, if_neg h3]
theorem pm {s : Ss} {l : ByteArray} (h0 : ¬ (l = ⟨#[46]⟩)) (h1 : ¬ (l = ⟨#[]⟩)) (h2 : AC l 0 = 46) (h3 : (s.mail.body.length : Int) ≥ 12) : Aj s l = ((⟨s.state, s.mail, true, s.buf⟩, ⟨#[]⟩), false) := by unfold Aj; rw [if_neg h0, if_neg h1, if_pos h2, if_pos h3]
theorem pn {s : Ss} {l : ByteArray} (h0 : ¬ (l = ⟨#[46]⟩)) (h1 : ¬ (l = ⟨#[]⟩)) (h2 : AC l 0 = 46) (h3 : ¬ ((s.mail.body.length : Int) ≥ 12)) (h4 : I0 (l.extract 1 l.size)) : Aj s l = ((⟨s.state, ⟨s.mail.frm, s.mail.to, s.mail.body ++ [l.extract 1 l.size]⟩, s.bad, s.buf⟩, ⟨#[]⟩), false) := by unfold Aj; rw [if_neg h0, if_neg h1, if_pos h2, if_neg h3, if_pos h4]
theorem eP {s : Ss} {l : ByteArray} (h0 : ¬ (l = ⟨#[46]⟩)) (h1 : ¬ (l = ⟨#[]⟩)) (h2 : AC l 0 = 46) (h3 : ¬ ((s.mail.body.length : Int) ≥ 12)) (h4 : ¬ (I0 (l.extract 1 l.size))) : Aj s l = ((⟨s.state, s.mail, true, s.buf⟩, ⟨#[]⟩), false) := by unfold Aj; rw [if_neg h0, if_neg h1, if_pos h2, if_neg h3, if_neg h4]
theorem eQ {s : Ss} {l : ByteArray} (h0 : ¬ (l = ⟨#[46]⟩)) (h1 : ¬ (l = ⟨#[]⟩)) (h2 : ¬ (AC l 0 = 46)) (h3 : (s.mail.body.length : Int) ≥ 12) : Aj s l = ((⟨s.state, s.mail, true, s.buf⟩, ⟨#[]⟩), false) := by unfold Aj; rw [if_neg h0, if_neg h1, if_neg h2, if_pos h3]
theorem eS {s : Ss} {l : ByteArray} (h0 : ¬ (l = ⟨#[46]⟩)) (h1 : ¬ (l = ⟨#[]⟩)) (h2 : ¬ (AC l 0 = 46)) (h3 : ¬ ((s.mail.body.length : Int) ≥ 12)) (h4 : I0 l) : Aj s l = ((⟨s.state, ⟨s.mail.frm, s.mail.to, s.mail.body ++ [l]⟩, s.bad, s.buf⟩, ⟨#[]⟩), false) := by unfold Aj; rw [if_neg h0, if_neg h1, if_neg h2, if_neg h3, if_pos h4]
theorem eT {s : Ss} {l : ByteArray} (h0 : ¬ (l = ⟨#[46]⟩)) (h1 : ¬ (l = ⟨#[]⟩)) (h2 : ¬ (AC l 0 = 46)) (h3 : ¬ ((s.mail.body.length : Int) ≥ 12)) (h4 : ¬ (I0 l)) : Aj s l = ((⟨s.state, s.mail, true, s.buf⟩, ⟨#[]⟩), false) := by unfold Aj; rw [if_neg h0, if_neg h1, if_neg h2, if_neg h3, if_neg h4]
def ou : Ct := Ak (lc dL.ag (lc Aq l0)) (fun p => p.1.mail.body.length ≤ 1000) (fun p => .tup [.agg ((Er (Aj p.1 p.2.1).1.1).map .t), .t (.v (.string (Aj p.1 p.2.1).1.2)), .t (.v (.bool (Aj p.1 p.2.1).2))])
section
attribute [local go_sem] NF oy RD Int.toNat_zero z0 AS.opn AS.cls AS.nilb AS.renb AS.up Bool.not_false Bool.not_true List.set_set List.set_cons_zero List.set_cons_succ List.set_nil List.mem_singleton forall_eq tn List.map_nil List.nil_append
set_option maxHeartbeats 3200000 in
theorem iQ {G : Gt} (hG : Ah G) (hh : G.e 120 = AA 0 NF ∧ G.e 225 = AA 0 oy ∧ G.e 108 = AA 0 RD) : Gd G 221 (AA 1 ou) := by
 refine gr (fn := Tryz.f221) (n := 2) rfl rfl hG ?_
 rintro ⟨s, l, ⟨⟩⟩ hpre
 have hn : s.mail.body.length ≤ 1000 := hpre
 try dsimp only
 refine BL (l = ⟨#[46]⟩) (fun h0 => BL (s.bad = true) (fun h1 => have hx := And.intro (pd h0 h1 : Aj s l = _) (And.intro h0 h1); ?_) (fun h1 => have h1' := (Bool.not_eq_true _).mp h1; BL (CZ s.mail.body) (fun h2 => have h2' := Ae h2; BL ((s.mail.body.length : Int) ≥ 12) (fun h3 => have hx := And.intro (pe h0 h1 h2 h3 : Aj s l = _) (And.intro h0 (And.intro h1' (And.intro h2' h3))); ?_) (fun h3 => BL ((EB s.mail.body : Int) ≥ 4) (fun h4 => have hx := And.intro (pf h0 h1 h2 h3 h4 : Aj s l = _) (And.intro h0 (And.intro h1' (And.intro h2' (And.intro h3 h4)))); ?_) (fun h4 => have hx := And.intro (pg h0 h1 h2 h3 h4 : Aj s l = _) (And.intro h0 (And.intro h1' (And.intro h2' (And.intro h3 h4)))); ?_))) (fun h2 => have h2' := AN h2; have hx := And.intro (ph h0 h1 h2 : Aj s l = _) (And.intro h0 (And.intro h1' h2')); ?_))) (fun h0 => BL (l = ⟨#[]⟩) (fun h1 => BL ((s.mail.body.length : Int) ≥ 12) (fun h2 => have hx := And.intro (pi h0 h1 h2 : Aj s l = _) (And.intro h0 (And.intro h1 h2)); ?_) (fun h2 => BL (I0 l) (fun h3 => have h3' := Ae h3; have hx := And.intro (pj h0 h1 h2 h3 : Aj s l = _) (And.intro h0 (And.intro h1 (And.intro h2 h3'))); ?_) (fun h3 => have h3' := AN h3; have hx := And.intro (pk h0 h1 h2 h3 : Aj s l = _) (And.intro h0 (And.intro h1 (And.intro h2 h3'))); ?_))) (fun h1 => BL (AC l 0 = 46) (fun h2 => BL ((s.mail.body.length : Int) ≥ 12) (fun h3 => have hx := And.intro (pm h0 h1 h2 h3 : Aj s l = _) (And.intro h0 (And.intro h1 (And.intro h2 h3))); ?_) (fun h3 => BL (I0 (l.extract 1 l.size)) (fun h4 => have h4' := Ae h4; have hx := And.intro (pn h0 h1 h2 h3 h4 : Aj s l = _) (And.intro h0 (And.intro h1 (And.intro h2 (And.intro h3 h4')))); ?_) (fun h4 => have h4' := AN h4; have hx := And.intro (eP h0 h1 h2 h3 h4 : Aj s l = _) (And.intro h0 (And.intro h1 (And.intro h2 (And.intro h3 h4')))); ?_))) (fun h2 => BL ((s.mail.body.length : Int) ≥ 12) (fun h3 => have hx := And.intro (eQ h0 h1 h2 h3 : Aj s l = _) (And.intro h0 (And.intro h1 (And.intro h2 h3))); ?_) (fun h3 => BL (I0 l) (fun h4 => have h4' := Ae h4; have hx := And.intro (eS h0 h1 h2 h3 h4 : Aj s l = _) (And.intro h0 (And.intro h1 (And.intro h2 (And.intro h3 h4')))); ?_) (fun h4 => have h4' := AN h4; have hx := And.intro (eT h0 h1 h2 h3 h4 : Aj s l = _) (And.intro h0 (And.intro h1 (And.intro h2 (And.intro h3 h4')))); ?_)))))
 all_goals
  try rw [hx.1]
  simp -implicitDefEqProofs only [Tryz.f221, hx, eq_self, decide_true, decide_false, Int.reduceEq, go_sem, hh, seval]
  with_reducible repeat' (first | apply ai | intro _ | ((first | apply s1 | apply s3 | apply s4) <;> intro hb <;> simp -implicitDefEqProofs only [hb, go_sem, hh, seval] <;> try simp only [qz] at hb))
  all_goals (try simp only [maxLen, tn, lm] at *)
  all_goals first | rfl | omega | decide | with_reducible assumption | (show AU _ = true; rfl) | exact Hv (by assumption) | contradiction | (subst h1; contradiction) | (subst h1; exact absurd rfl (by assumption)) | (simp [AG]; done) | skip
end
open Classical in
noncomputable def Be (c : Cf) (s : Ss) (l : ByteArray) : Ss × ByteArray := (if (As l ⟨#[72, 69, 76, 79, 32]⟩).2 = true then (if C3 (As l ⟨#[72, 69, 76, 79, 32]⟩).1 then (Fi ⟨1, s.mail, s.bad, s.buf⟩, ⟨#[50, 53, 48, 32]⟩ ++ c.name) else (s, ⟨#[53, 48, 49, 32, 102, 111, 114, 109]⟩)) else (if l = ⟨#[81, 85, 73, 84]⟩ then (Fi ⟨5, s.mail, s.bad, s.buf⟩, ⟨#[50, 50, 49, 32, 98, 121, 101]⟩) else (if l = ⟨#[78, 79, 79, 80]⟩ then (s, ⟨#[50, 53, 48, 32, 111, 107]⟩) else (if l = ⟨#[82, 83, 69, 84]⟩ then (if s.state = 0 then (Fi s, ⟨#[50, 53, 48, 32, 111, 107]⟩) else (Fi ⟨1, s.mail, s.bad, s.buf⟩, ⟨#[50, 53, 48, 32, 111, 107]⟩)) else (if (As l ⟨#[77, 65, 73, 76, 32, 70, 82, 79, 77, 58]⟩).2 = true then Es s (As l ⟨#[77, 65, 73, 76, 32, 70, 82, 79, 77, 58]⟩).1 else (if (As l ⟨#[82, 67, 80, 84, 32, 84, 79, 58]⟩).2 = true then H9 c s (As l ⟨#[82, 67, 80, 84, 32, 84, 79, 58]⟩).1 else (if l = ⟨#[68, 65, 84, 65]⟩ then (if s.state = 3 then (⟨4, s.mail, s.bad, s.buf⟩, ⟨#[51, 53, 52, 32, 103, 111, 32, 111, 110]⟩) else (s, ⟨#[53, 48, 51, 32, 111, 114, 100, 101, 114]⟩)) else (s, ⟨#[53, 48, 48, 32, 119, 104, 97, 116]⟩))))))))
theorem pI {c : Cf} {s : Ss} {l : ByteArray} (h0 : (As l ⟨#[72, 69, 76, 79, 32]⟩).2 = true) (h1 : C3 (As l ⟨#[72, 69, 76, 79, 32]⟩).1) : Be c s l = (Fi ⟨1, s.mail, s.bad, s.buf⟩, ⟨#[50, 53, 48, 32]⟩ ++ c.name) := by unfold Be; rw [if_pos h0, if_pos h1]
theorem pJ {c : Cf} {s : Ss} {l : ByteArray} (h0 : (As l ⟨#[72, 69, 76, 79, 32]⟩).2 = true) (h1 : ¬ (C3 (As l ⟨#[72, 69, 76, 79, 32]⟩).1)) : Be c s l = (s, ⟨#[53, 48, 49, 32, 102, 111, 114, 109]⟩) := by unfold Be; rw [if_pos h0, if_neg h1]
theorem pK {c : Cf} {s : Ss} {l : ByteArray} (h0 : ¬ ((As l ⟨#[72, 69, 76, 79, 32]⟩).2 = true)) (h1 : l = ⟨#[81, 85, 73, 84]⟩) : Be c s l = (Fi ⟨5, s.mail, s.bad, s.buf⟩, ⟨#[50, 50, 49, 32, 98, 121, 101]⟩) := by unfold Be; rw [if_neg h0, if_pos h1]
theorem pL {c : Cf} {s : Ss} {l : ByteArray} (h0 : ¬ ((As l ⟨#[72, 69, 76, 79, 32]⟩).2 = true)) (h1 : ¬ (l = ⟨#[81, 85, 73, 84]⟩)) (h2 : l = ⟨#[78, 79, 79, 80]⟩) : Be c s l = (s, ⟨#[50, 53, 48, 32, 111, 107]⟩) := by unfold Be; rw [if_neg h0, if_neg h1, if_pos h2]
theorem pM {c : Cf} {s : Ss} {l : ByteArray} (h0 : ¬ ((As l ⟨#[72, 69, 76, 79, 32]⟩).2 = true)) (h1 : ¬ (l = ⟨#[81, 85, 73, 84]⟩)) (h2 : ¬ (l = ⟨#[78, 79, 79, 80]⟩)) (h3 : l = ⟨#[82, 83, 69, 84]⟩) (h4 : s.state = 0) : Be c s l = (Fi s, ⟨#[50, 53, 48, 32, 111, 107]⟩) := by unfold Be; rw [if_neg h0, if_neg h1, if_neg h2, if_pos h3, if_pos h4]
theorem pN {c : Cf} {s : Ss} {l : ByteArray} (h0 : ¬ ((As l ⟨#[72, 69, 76, 79, 32]⟩).2 = true)) (h1 : ¬ (l = ⟨#[81, 85, 73, 84]⟩)) (h2 : ¬ (l = ⟨#[78, 79, 79, 80]⟩)) (h3 : l = ⟨#[82, 83, 69, 84]⟩) (h4 : ¬ (s.state = 0)) : Be c s l = (Fi ⟨1, s.mail, s.bad, s.buf⟩, ⟨#[50, 53, 48, 32, 111, 107]⟩) := by unfold Be; rw [if_neg h0, if_neg h1, if_neg h2, if_pos h3, if_neg h4]
theorem pO {c : Cf} {s : Ss} {l : ByteArray} (h0 : ¬ ((As l ⟨#[72, 69, 76, 79, 32]⟩).2 = true)) (h1 : ¬ (l = ⟨#[81, 85, 73, 84]⟩)) (h2 : ¬ (l = ⟨#[78, 79, 79, 80]⟩)) (h3 : ¬ (l = ⟨#[82, 83, 69, 84]⟩)) (h4 : (As l ⟨#[77, 65, 73, 76, 32, 70, 82, 79, 77, 58]⟩).2 = true) : Be c s l = Es s (As l ⟨#[77, 65, 73, 76, 32, 70, 82, 79, 77, 58]⟩).1 := by unfold Be; rw [if_neg h0, if_neg h1, if_neg h2, if_neg h3, if_pos h4]
theorem pP {c : Cf} {s : Ss} {l : ByteArray} (h0 : ¬ ((As l ⟨#[72, 69, 76, 79, 32]⟩).2 = true)) (h1 : ¬ (l = ⟨#[81, 85, 73, 84]⟩)) (h2 : ¬ (l = ⟨#[78, 79, 79, 80]⟩)) (h3 : ¬ (l = ⟨#[82, 83, 69, 84]⟩)) (h4 : ¬ ((As l ⟨#[77, 65, 73, 76, 32, 70, 82, 79, 77, 58]⟩).2 = true)) (h5 : (As l ⟨#[82, 67, 80, 84, 32, 84, 79, 58]⟩).2 = true) : Be c s l = H9 c s (As l ⟨#[82, 67, 80, 84, 32, 84, 79, 58]⟩).1 := by unfold Be; rw [if_neg h0, if_neg h1, if_neg h2, if_neg h3, if_neg h4, if_pos h5]
theorem pQ {c : Cf} {s : Ss} {l : ByteArray} (h0 : ¬ ((As l ⟨#[72, 69, 76, 79, 32]⟩).2 = true)) (h1 : ¬ (l = ⟨#[81, 85, 73, 84]⟩)) (h2 : ¬ (l = ⟨#[78, 79, 79, 80]⟩)) (h3 : ¬ (l = ⟨#[82, 83, 69, 84]⟩)) (h4 : ¬ ((As l ⟨#[77, 65, 73, 76, 32, 70, 82, 79, 77, 58]⟩).2 = true)) (h5 : ¬ ((As l ⟨#[82, 67, 80, 84, 32, 84, 79, 58]⟩).2 = true)) (h6 : l = ⟨#[68, 65, 84, 65]⟩) (h7 : s.state = 3) : Be c s l = (⟨4, s.mail, s.bad, s.buf⟩, ⟨#[51, 53, 52, 32, 103, 111, 32, 111, 110]⟩) := by unfold Be; rw [if_neg h0, if_neg h1, if_neg h2, if_neg h3, if_neg h4, if_neg h5, if_pos h6, if_pos h7]
theorem pR {c : Cf} {s : Ss} {l : ByteArray} (h0 : ¬ ((As l ⟨#[72, 69, 76, 79, 32]⟩).2 = true)) (h1 : ¬ (l = ⟨#[81, 85, 73, 84]⟩)) (h2 : ¬ (l = ⟨#[78, 79, 79, 80]⟩)) (h3 : ¬ (l = ⟨#[82, 83, 69, 84]⟩)) (h4 : ¬ ((As l ⟨#[77, 65, 73, 76, 32, 70, 82, 79, 77, 58]⟩).2 = true)) (h5 : ¬ ((As l ⟨#[82, 67, 80, 84, 32, 84, 79, 58]⟩).2 = true)) (h6 : l = ⟨#[68, 65, 84, 65]⟩) (h7 : ¬ (s.state = 3)) : Be c s l = (s, ⟨#[53, 48, 51, 32, 111, 114, 100, 101, 114]⟩) := by unfold Be; rw [if_neg h0, if_neg h1, if_neg h2, if_neg h3, if_neg h4, if_neg h5, if_pos h6, if_neg h7]
theorem eL {c : Cf} {s : Ss} {l : ByteArray} (h0 : ¬ ((As l ⟨#[72, 69, 76, 79, 32]⟩).2 = true)) (h1 : ¬ (l = ⟨#[81, 85, 73, 84]⟩)) (h2 : ¬ (l = ⟨#[78, 79, 79, 80]⟩)) (h3 : ¬ (l = ⟨#[82, 83, 69, 84]⟩)) (h4 : ¬ ((As l ⟨#[77, 65, 73, 76, 32, 70, 82, 79, 77, 58]⟩).2 = true)) (h5 : ¬ ((As l ⟨#[82, 67, 80, 84, 32, 84, 79, 58]⟩).2 = true)) (h6 : ¬ (l = ⟨#[68, 65, 84, 65]⟩)) : Be c s l = (s, ⟨#[53, 48, 48, 32, 119, 104, 97, 116]⟩) := by unfold Be; rw [if_neg h0, if_neg h1, if_neg h2, if_neg h3, if_neg h4, if_neg h5, if_neg h6]
def ot : Ct := Ak (lc IH.ag (lc dL.ag (lc Aq l0))) (fun p => p.1.name.size ≤ 1000000 ∧ p.2.1.mail.to.length ≤ 1000 ∧ p.2.2.1.size ≤ 2000000) (fun p => .tup [.agg ((Er (Be p.1 p.2.1 p.2.2.1).1).map .t), .t (.v (.string (Be p.1 p.2.1 p.2.2.1).2))])
section
attribute [local go_sem] ov cy RM ow ox AS.opn AS.cls AS.nilb AS.renb AS.up Bool.not_false Bool.not_true List.set_set List.set_cons_zero List.set_cons_succ List.set_nil List.mem_singleton forall_eq tn List.map_nil List.nil_append
set_option maxHeartbeats 3200000 in
theorem iP {G : Gt} (hG : Ah G) (hh : G.e 222 = AA 0 ov ∧ G.e 40 = AA 0 cy ∧ G.e 215 = AA 1 RM ∧ G.e 223 = AA 1 ow ∧ G.e 224 = AA 1 ox) : Gd G 220 (AA 1 ot) := by
 refine gr (fn := Tryz.f220) (n := 3) rfl rfl hG ?_
 rintro ⟨c, s, l, ⟨⟩⟩ hpre
 obtain ⟨hn, ht, hz⟩ := hpre
 try dsimp only at hn ht hz ⊢
 have z1 := N0 l ⟨#[72, 69, 76, 79, 32]⟩
 have z2 := N0 l ⟨#[77, 65, 73, 76, 32, 70, 82, 79, 77, 58]⟩
 have z3 := N0 l ⟨#[82, 67, 80, 84, 32, 84, 79, 58]⟩
 have z4 : (⟨#[50, 53, 48, 32]⟩ : ByteArray).size = 4 := rfl
 refine BL ((As l ⟨#[72, 69, 76, 79, 32]⟩).2 = true) (fun h0 => BL (C3 (As l ⟨#[72, 69, 76, 79, 32]⟩).1) (fun h1 => have h1' := Ae h1; have hx := And.intro (pI h0 h1 : Be c s l = _) (And.intro h0 h1'); ?_) (fun h1 => have h1' := AN h1; have hx := And.intro (pJ h0 h1 : Be c s l = _) (And.intro h0 h1'); ?_)) (fun h0 => have h0' := (Bool.not_eq_true _).mp h0; BL (l = ⟨#[81, 85, 73, 84]⟩) (fun h1 => have hx := And.intro (pK h0 h1 : Be c s l = _) (And.intro h0' h1); ?_) (fun h1 => BL (l = ⟨#[78, 79, 79, 80]⟩) (fun h2 => have hx := And.intro (pL h0 h1 h2 : Be c s l = _) (And.intro h0' (And.intro h1 h2)); ?_) (fun h2 => BL (l = ⟨#[82, 83, 69, 84]⟩) (fun h3 => BL (s.state = 0) (fun h4 => have h4' := decide_eq_true h4; have hx := And.intro (pM h0 h1 h2 h3 h4 : Be c s l = _) (And.intro h0' (And.intro h1 (And.intro h2 (And.intro h3 h4')))); ?_) (fun h4 => have h4' := decide_eq_false h4; have hx := And.intro (pN h0 h1 h2 h3 h4 : Be c s l = _) (And.intro h0' (And.intro h1 (And.intro h2 (And.intro h3 h4')))); ?_)) (fun h3 => BL ((As l ⟨#[77, 65, 73, 76, 32, 70, 82, 79, 77, 58]⟩).2 = true) (fun h4 => have hx := And.intro (pO h0 h1 h2 h3 h4 : Be c s l = _) (And.intro h0' (And.intro h1 (And.intro h2 (And.intro h3 h4)))); ?_) (fun h4 => have h4' := (Bool.not_eq_true _).mp h4; BL ((As l ⟨#[82, 67, 80, 84, 32, 84, 79, 58]⟩).2 = true) (fun h5 => have hx := And.intro (pP h0 h1 h2 h3 h4 h5 : Be c s l = _) (And.intro h0' (And.intro h1 (And.intro h2 (And.intro h3 (And.intro h4' h5))))); ?_) (fun h5 => have h5' := (Bool.not_eq_true _).mp h5; BL (l = ⟨#[68, 65, 84, 65]⟩) (fun h6 => BL (s.state = 3) (fun h7 => have h7' := decide_eq_true h7; have hx := And.intro (pQ h0 h1 h2 h3 h4 h5 h6 h7 : Be c s l = _) (And.intro h0' (And.intro h1 (And.intro h2 (And.intro h3 (And.intro h4' (And.intro h5' (And.intro h6 h7'))))))); ?_) (fun h7 => have h7' := decide_eq_false h7; have hx := And.intro (pR h0 h1 h2 h3 h4 h5 h6 h7 : Be c s l = _) (And.intro h0' (And.intro h1 (And.intro h2 (And.intro h3 (And.intro h4' (And.intro h5' (And.intro h6 h7'))))))); ?_)) (fun h6 => have hx := And.intro (eL h0 h1 h2 h3 h4 h5 h6 : Be c s l = _) (And.intro h0' (And.intro h1 (And.intro h2 (And.intro h3 (And.intro h4' (And.intro h5' h6)))))); ?_)))))))
 all_goals
  try rw [hx.1]
  simp -implicitDefEqProofs only [Tryz.f220, hx, eq_self, decide_true, decide_false, Int.reduceEq, go_sem, hh, seval]
  with_reducible repeat' (first | apply ai | intro _ | ((first | apply s1 | apply s3 | apply s4) <;> intro hb <;> simp -implicitDefEqProofs only [hb, go_sem, hh, seval] <;> try simp only [qz] at hb))
  all_goals (try simp only [maxLen, tn, lm] at *)
  all_goals first | rfl | omega | decide | with_reducible assumption | (show AU _ = true; rfl) | exact Hv (by assumption) | contradiction | (show 4 + c.name.size ≤ _; omega) | (subst h3; contradiction) | skip
end
open Classical in
noncomputable def Br (c : Cf) (s : Ss) (l : ByteArray) : (Ss × ByteArray) × List Ml := (if s.state = 5 then ((s, ⟨#[]⟩), []) else (if s.state = 4 then (if (Aj s l).1.2 = ⟨#[]⟩ then ((Aj s l).1, []) else (if (Aj s l).2 = true then ((Fi (Aj s l).1.1, (Aj s l).1.2), [(Aj s l).1.1.mail]) else ((Fi (Aj s l).1.1, (Aj s l).1.2), []))) else (Be c s l, [])))
theorem tB {c : Cf} {s : Ss} {l : ByteArray} (h0 : s.state = 5) : Br c s l = ((s, ⟨#[]⟩), []) := by unfold Br; rw [if_pos h0]
theorem tC {c : Cf} {s : Ss} {l : ByteArray} (h0 : ¬ (s.state = 5)) (h1 : s.state = 4) (h2 : (Aj s l).1.2 = ⟨#[]⟩) : Br c s l = ((Aj s l).1, []) := by unfold Br; rw [if_neg h0, if_pos h1, if_pos h2]
theorem tD {c : Cf} {s : Ss} {l : ByteArray} (h0 : ¬ (s.state = 5)) (h1 : s.state = 4) (h2 : ¬ ((Aj s l).1.2 = ⟨#[]⟩)) (h3 : (Aj s l).2 = true) : Br c s l = ((Fi (Aj s l).1.1, (Aj s l).1.2), [(Aj s l).1.1.mail]) := by unfold Br; rw [if_neg h0, if_pos h1, if_neg h2, if_pos h3]
theorem tE {c : Cf} {s : Ss} {l : ByteArray} (h0 : ¬ (s.state = 5)) (h1 : s.state = 4) (h2 : ¬ ((Aj s l).1.2 = ⟨#[]⟩)) (h3 : ¬ ((Aj s l).2 = true)) : Br c s l = ((Fi (Aj s l).1.1, (Aj s l).1.2), []) := by unfold Br; rw [if_neg h0, if_pos h1, if_neg h2, if_neg h3]
theorem tF {c : Cf} {s : Ss} {l : ByteArray} (h0 : ¬ (s.state = 5)) (h1 : ¬ (s.state = 4)) : Br c s l = (Be c s l, []) := by unfold Br; rw [if_neg h0, if_neg h1]
theorem po (s : Ss) (l : ByteArray) : (Aj s l).1.1.mail.body.length ≤ s.mail.body.length + 1 ∧ (Aj s l).1.1.mail.to = s.mail.to := by
 unfold Aj
 repeat' split
 all_goals refine ⟨?_, rfl⟩
 all_goals first | (show (s.mail.body ++ [_]).length ≤ _; rw [List.length_append]; exact Nat.le_refl _) | (show s.mail.body.length ≤ _; omega)
def og : Ct := Ak (lc IH.ag (lc dL.ag (lc Aq l0))) (fun p => p.1.name.size ≤ 1000000 ∧ p.2.1.mail.to.length ≤ 1000 ∧ p.2.1.mail.body.length ≤ 1000 ∧ p.2.2.1.size ≤ 2000000) (fun p => .tup [.agg ((Er (Br p.1 p.2.1 p.2.2.1).1.1).map .t), .t (.v (.string (Br p.1 p.2.1 p.2.2.1).1.2)), .t (.sl 4 ((Br p.1 p.2.1 p.2.2.1).2.map C6))])
section
attribute [local go_sem] ot ou NG RM AS.opn AS.cls AS.nilb AS.renb AS.up Bool.not_false Bool.not_true List.set_set List.set_cons_zero List.set_cons_succ List.set_nil List.mem_singleton forall_eq tn List.map_nil List.nil_append
set_option maxHeartbeats 3200000 in
theorem iL {G : Gt} (hG : Ah G) (hh : G.e 220 = AA 1 ot ∧ G.e 221 = AA 1 ou ∧ G.e 122 = AA 0 NG ∧ G.e 215 = AA 1 RM) : Gd G 216 (AA 1 og) := by
 refine gr (fn := Tryz.f216) (n := 3) rfl rfl hG ?_
 rintro ⟨c, s, l, ⟨⟩⟩ hpre
 obtain ⟨hn, ht, hb, hz⟩ := hpre
 try dsimp only at hn ht hb hz ⊢
 obtain ⟨z1, z2⟩ := po s l
 have z3 : (Aj s l).1.1.mail.to.length ≤ 1000 := by rw [z2]; exact ht
 refine BL (s.state = 5) (fun h0 => have h0' := decide_eq_true h0; have hx := And.intro (tB h0 : Br c s l = _) h0'; ?_) (fun h0 => have h0' := decide_eq_false h0; BL (s.state = 4) (fun h1 => have h1' := decide_eq_true h1; BL ((Aj s l).1.2 = ⟨#[]⟩) (fun h2 => have hx := And.intro (tC h0 h1 h2 : Br c s l = _) (And.intro h0' (And.intro h1' h2)); ?_) (fun h2 => BL ((Aj s l).2 = true) (fun h3 => have hx := And.intro (tD h0 h1 h2 h3 : Br c s l = _) (And.intro h0' (And.intro h1' (And.intro h2 h3))); ?_) (fun h3 => have h3' := (Bool.not_eq_true _).mp h3; have hx := And.intro (tE h0 h1 h2 h3 : Br c s l = _) (And.intro h0' (And.intro h1' (And.intro h2 h3'))); ?_))) (fun h1 => have h1' := decide_eq_false h1; have hx := And.intro (tF h0 h1 : Br c s l = _) (And.intro h0' h1'); ?_))
 all_goals
  try rw [hx.1]
  simp -implicitDefEqProofs only [Tryz.f216, hx, eq_self, decide_true, decide_false, Int.reduceEq, go_sem, hh, seval]
  with_reducible repeat' (first | apply ai | intro _ | ((first | apply s1 | apply s3 | apply s4) <;> intro hb <;> simp -implicitDefEqProofs only [hb, go_sem, hh, seval] <;> try simp only [qz] at hb))
  all_goals (try simp only [maxLen, tn, lm] at *)
  all_goals first | rfl | omega | decide | with_reducible assumption | (show AU _ = true; rfl) | exact Hv (by assumption) | contradiction | skip
end
def OY (s : Ss) : Prop := s.mail.to.length ≤ 4 ∧ s.mail.body.length ≤ 12 ∧ IM s.mail.frm ∧ (∀ a ∈ s.mail.to, IM a) ∧ ∀ l ∈ s.mail.body, Bb l
def jp (m : Ml) : Prop := E3 m ∧ m.to.length ≤ 4 ∧ m.body.length ≤ 12
theorem my {s : Ss} (h : OY s) : jp s.mail := ⟨⟨h.2.2.1, ⟨by have := h.1; omega, h.2.2.2.1⟩, ⟨by have := h.2.1; omega, h.2.2.2.2⟩⟩, h.1, h.2.1⟩
theorem t9 : IM ⟨⟨#[]⟩, ⟨#[]⟩⟩ := CW (.inr ⟨rfl, rfl⟩)
theorem Ut (t : ByteArray) : IM (BC t) := by
 by_cases h : GZ t
 ·exact CW (Jz h).1
 ·rw [NY h]; exact t9
theorem GA (s : Ss) : OY (Fi s) := ⟨by show 0 ≤ 4; omega, by show 0 ≤ 12; omega, t9, fun _ h => (by cases h), fun _ h => (by cases h)⟩
theorem fC {s : Ss} (t : ByteArray) (h : OY s) : OY (Es s t).1 ∧ (Es s t).2.size ≤ 20 := by
 unfold Es
 repeat' split
 all_goals first
  | exact ⟨h, Nat.le_of_ble_eq_true rfl⟩
  | exact ⟨⟨by show 0 ≤ 4; omega, by show 0 ≤ 12; omega, Ut t, fun _ h => (by cases h), fun _ h => (by cases h)⟩, Nat.le_of_ble_eq_true rfl⟩
theorem tM {s : Ss} (c : Cf) (t : ByteArray) (h : OY s) : OY (H9 c s t).1 ∧ (H9 c s t).2.size ≤ 20 := by
 unfold H9
 repeat' split
 all_goals first
  | exact ⟨h, Nat.le_of_ble_eq_true rfl⟩
  | skip
 refine ⟨⟨?_, h.2.1, h.2.2.1, fun a ha => ?_, h.2.2.2.2⟩, Nat.le_of_ble_eq_true rfl⟩
 ·show (s.mail.to ++ [BC t]).length ≤ 4
  rw [List.length_append]
  show s.mail.to.length + 1 ≤ 4
  omega
 ·rcases List.mem_append.1 ha with ha | ha
  ·exact h.2.2.2.1 a ha
  ·rw [List.mem_singleton] at ha; subst ha; exact Ut t
theorem eM {s : Ss} (c : Cf) (l : ByteArray) (h : OY s) : OY (Be c s l).1 ∧ (Be c s l).2.size ≤ c.name.size + 20 := by
 have q := fC (s := s) (As l ⟨#[77, 65, 73, 76, 32, 70, 82, 79, 77, 58]⟩).1 h
 have q2 := tM (s := s) c (As l ⟨#[82, 67, 80, 84, 32, 84, 79, 58]⟩).1 h
 unfold Be
 repeat' split
 all_goals first
  | exact ⟨h, by show (ByteArray.size ⟨_⟩) ≤ _; exact Nat.le_trans (Nat.le_of_ble_eq_true rfl : _ ≤ 20) (Nat.le_add_left _ _)⟩
  | exact ⟨GA _, by show (ByteArray.size ⟨_⟩) ≤ _; exact Nat.le_trans (Nat.le_of_ble_eq_true rfl : _ ≤ 20) (Nat.le_add_left _ _)⟩
  | exact ⟨q.1, Nat.le_trans q.2 (Nat.le_add_left _ _)⟩
  | exact ⟨q2.1, Nat.le_trans q2.2 (Nat.le_add_left _ _)⟩
  | exact ⟨GA _, by show (⟨#[50, 53, 48, 32]⟩ ++ c.name).size ≤ _; rw [ByteArray.size_append]; have : (⟨#[50, 53, 48, 32]⟩ : ByteArray).size = 4 := rfl; omega⟩
theorem eU {s : Ss} {l : ByteArray} (h : OY s) (hl : Bb l) : OY (Aj s l).1.1 ∧ (Aj s l).1.2.size ≤ 20 := by
 have he : Bb (l.extract 1 l.size) := by have : l.size ≤ 1048576 := hl; show (l.extract 1 l.size).size ≤ 1048576; rw [ByteArray.size_extract]; omega
 have app : ∀ x, Bb x → ¬ ((s.mail.body.length : Int) ≥ 12) → OY ⟨s.state, ⟨s.mail.frm, s.mail.to, s.mail.body ++ [x]⟩, s.bad, s.buf⟩ := fun x hx hn => ⟨h.1, by show (s.mail.body ++ [x]).length ≤ 12; rw [List.length_append]; show s.mail.body.length + 1 ≤ 12; omega, h.2.2.1, h.2.2.2.1, fun y hy => by
  rcases List.mem_append.1 hy with hy | hy
  ·exact h.2.2.2.2 y hy
  ·rw [List.mem_singleton] at hy; subst hy; exact hx⟩
 unfold Aj
 repeat' split
 all_goals first
  | exact ⟨h, Nat.le_of_ble_eq_true rfl⟩
  | exact ⟨app _ hl (by assumption), Nat.le_of_ble_eq_true rfl⟩
  | exact ⟨app _ he (by assumption), Nat.le_of_ble_eq_true rfl⟩
theorem V4 {s : Ss} {l : ByteArray} (c : Cf) (h : OY s) (hl : Bb l) : OY (Br c s l).1.1 ∧ (Br c s l).1.2.size ≤ c.name.size + 20 ∧ (Br c s l).2.length ≤ 1 ∧ ∀ m ∈ (Br c s l).2, jp m := by
 have q := eU h hl
 have q2 := eM c l h
 unfold Br
 repeat' split
 ·exact ⟨h, Nat.zero_le _, Nat.zero_le _, fun _ z => by cases z⟩
 ·exact ⟨q.1, Nat.le_trans q.2 (Nat.le_add_left _ _), Nat.zero_le _, fun _ z => by cases z⟩
 ·exact ⟨GA _, Nat.le_trans q.2 (Nat.le_add_left _ _), Nat.le_refl _, fun m hm => by rw [List.mem_singleton] at hm; subst hm; exact my q.1⟩
 ·exact ⟨GA _, Nat.le_trans q.2 (Nat.le_add_left _ _), Nat.zero_le _, fun _ z => by cases z⟩
 ·exact ⟨q2.1, q2.2, Nat.zero_le _, fun _ z => by cases z⟩
abbrev F8 := Ss × List ByteArray × List Ml
noncomputable def e9 (c : Cf) (x : F8) (l : ByteArray) : F8 := ((Br c x.1 l).1.1, if (Br c x.1 l).1.2 = ⟨#[]⟩ then x.2.1 else x.2.1 ++ [(Br c x.1 l).1.2], x.2.2 ++ (Br c x.1 l).2)
def c9 (x : F8) : F8 := (Fi ⟨5, x.1.mail, x.1.bad, x.1.buf⟩, x.2.1 ++ [⟨#[53, 48, 48, 32, 108, 111, 110, 103]⟩], x.2.2)
noncomputable def NV (c : Cf) : List ByteArray → F8 → F8 × Bool
 | [], x => (x, false)
 | l :: r, x => if x.1.state = 5 then (x, false) else if (l.size : Int) > 78 then (c9 x, true) else NV c r (e9 c x l)
noncomputable def Z9 (y : F8 × Bool) (lf : ByteArray) : F8 := if y.2 = true then y.1 else if y.1.1.state = 5 then y.1 else if (lf.size : Int) > 80 then c9 y.1 else (⟨y.1.1.state, y.1.1.mail, y.1.1.bad, lf⟩, y.1.2.1, y.1.2.2)
noncomputable def Bv (c : Cf) (s : Ss) (t : ByteArray) : F8 := Z9 (NV c (OB (s.buf ++ t)) (⟨s.state, s.mail, s.bad, ⟨#[]⟩⟩, [], [])) (sD (s.buf ++ t))
theorem vD {c : Cf} {L : List ByteArray} {x : F8} (h : x.1.state = 5) : NV c L x = (x, false) := by
 cases L with
 | nil => rfl
 | cons l r => rw [NV, if_pos h]
theorem vB {c : Cf} {L : List ByteArray} {i : Nat} {x : F8} (hi : i < L.length) (h : ¬ x.1.state = 5) (hl : ((L.getD i default).size : Int) > 78) : NV c (L.drop i) x = (c9 x, true) := by
 rw [AZ hi, NV, if_neg h, if_pos hl]
theorem vC {c : Cf} {L : List ByteArray} {i : Nat} {x : F8} (hi : i < L.length) (h : ¬ x.1.state = 5) (hl : ¬ ((L.getD i default).size : Int) > 78) : NV c (L.drop i) x = NV c (L.drop (i + 1)) (e9 c x (L.getD i default)) := by
 rw [AZ hi, NV, if_neg h, if_neg hl]
theorem kw {c : Cf} {L : List ByteArray} {i : Nat} {x : F8} (hi : L.length ≤ i) : NV c (L.drop i) x = (x, false) := by
 rw [List.drop_of_length_le hi]; rfl
theorem u5 {y : F8 × Bool} {x : F8} {lf : ByteArray} (h : (x, true) = y) : Z9 y lf = x := by subst h; exact if_pos rfl
theorem u6 {y : F8 × Bool} {x : F8} {lf : ByteArray} (h : (x, false) = y) (h5 : x.1.state = 5) : Z9 y lf = x := by
 subst h; unfold Z9; rw [if_neg (show ¬ (x, false).2 = true from Bool.false_ne_true), if_pos h5]
theorem u7 {y : F8 × Bool} {x : F8} {lf : ByteArray} (h : (x, false) = y) (h5 : ¬ x.1.state = 5) (hl : (lf.size : Int) > 80) : Z9 y lf = c9 x := by
 subst h; unfold Z9; rw [if_neg (show ¬ (x, false).2 = true from Bool.false_ne_true), if_neg h5, if_pos hl]
theorem vA {y : F8 × Bool} {x : F8} {lf : ByteArray} (h : (x, false) = y) (h5 : ¬ x.1.state = 5) (hl : ¬ (lf.size : Int) > 80) : Z9 y lf = (⟨x.1.state, x.1.mail, x.1.bad, lf⟩, x.2.1, x.2.2) := by
 subst h; unfold Z9; rw [if_neg (show ¬ (x, false).2 = true from Bool.false_ne_true), if_neg h5, if_neg hl]
theorem k6 {c : Cf} {x : F8} {l : ByteArray} (h : (Br c x.1 l).1.2 = ⟨#[]⟩) : e9 c x l = ((Br c x.1 l).1.1, x.2.1, x.2.2 ++ (Br c x.1 l).2) := by unfold e9; rw [if_pos h]
theorem kz {c : Cf} {x : F8} {l : ByteArray} (h : ¬ (Br c x.1 l).1.2 = ⟨#[]⟩) : e9 c x l = ((Br c x.1 l).1.1, x.2.1 ++ [(Br c x.1 l).1.2], x.2.2 ++ (Br c x.1 l).2) := by unfold e9; rw [if_neg h]
def cr (c : Cf) (n : Nat) (x : F8) : Prop := OY x.1 ∧ x.2.1.length ≤ n ∧ x.2.2.length ≤ n ∧ (∀ r ∈ x.2.1, r.size ≤ c.name.size + 20) ∧ ∀ m ∈ x.2.2, jp m
theorem aC {c : Cf} {n : Nat} {x : F8} {l : ByteArray} (h : cr c n x) (hl : Bb l) : cr c (n + 1) (e9 c x l) := by
 obtain ⟨h1, h2, h3, h4, h5⟩ := h
 obtain ⟨q1, q2, q3, q4⟩ := V4 c h1 hl
 have hm : ∀ m ∈ x.2.2 ++ (Br c x.1 l).2, jp m := fun m hm => (List.mem_append.1 hm).elim (h5 m) (q4 m)
 by_cases e : (Br c x.1 l).1.2 = ⟨#[]⟩
 ·rw [k6 e]
  exact ⟨q1, by show x.2.1.length ≤ _; omega, by show (x.2.2 ++ _).length ≤ _; rw [List.length_append]; omega, h4, hm⟩
 ·rw [kz e]
  refine ⟨q1, by show (x.2.1 ++ [_]).length ≤ _; rw [List.length_append]; show x.2.1.length + 1 ≤ _; omega, by show (x.2.2 ++ _).length ≤ _; rw [List.length_append]; omega, fun r hr => ?_, hm⟩
  rcases List.mem_append.1 hr with hr | hr
  ·exact h4 r hr
  ·rw [List.mem_singleton] at hr; subst hr; exact q2
theorem aB {c : Cf} {n : Nat} {x : F8} (h : cr c n x) : cr c (n + 1) (c9 x) := by
 obtain ⟨h1, h2, h3, h4, h5⟩ := h
 refine ⟨GA _, by show (x.2.1 ++ [_]).length ≤ _; rw [List.length_append]; show x.2.1.length + 1 ≤ _; omega, by show x.2.2.length ≤ _; omega, fun r hr => ?_, h5⟩
 rcases List.mem_append.1 hr with hr | hr
 ·exact h4 r hr
 ·rw [List.mem_singleton] at hr; subst hr; exact Nat.le_trans (Nat.le_of_ble_eq_true rfl : _ ≤ 20) (Nat.le_add_left _ _)
theorem Ef {c : Cf} {n m : Nat} {x : F8} (h : cr c n x) (hn : n ≤ m) : cr c m x := ⟨h.1, by have := h.2.1; omega, by have := h.2.2.1; omega, h.2.2.2⟩
theorem aA {c : Cf} : ∀ (L : List ByteArray) {n : Nat} {x : F8}, cr c n x → (∀ l ∈ L, Bb l) → cr c (n + L.length) (NV c L x).1
 | [], n, x, h, _ => h
 | l :: r, n, x, h, hl => by
   rw [NV]
   split
   ·exact Ef h (Nat.le_add_right _ _)
   ·split
    ·exact Ef (aB h) (by rw [List.length_cons]; omega)
    ·exact Ef (aA r (aC h (hl l (List.mem_cons_self ..))) fun y hy => hl y (List.mem_cons_of_mem _ hy)) (by rw [List.length_cons]; omega)
theorem aD {c : Cf} {s : Ss} {t : ByteArray} (h : OY s) (hb : s.buf.size + t.size ≤ 1000000) : cr c (s.buf.size + t.size + 1) (Bv c s t) := by
 obtain ⟨q1, q2, q3⟩ := lM (s.buf ++ t)
 rw [ByteArray.size_append] at q1 q2 q3
 have q := aA (c := c) (OB (s.buf ++ t)) (n := 0) (x := (⟨s.state, s.mail, s.bad, ⟨#[]⟩⟩, [], [])) ⟨h, Nat.le_refl _, Nat.le_refl _, fun _ z => (by cases z), fun _ z => (by cases z)⟩ (fun l hl => by have := q2 l hl; show l.size ≤ 1048576; omega)
 have q' := Ef q (show 0 + (OB (s.buf ++ t)).length ≤ s.buf.size + t.size by omega)
 unfold Bv Z9
 split
 ·exact Ef q' (by omega)
 ·split
  ·exact Ef q' (by omega)
  ·split
   ·exact aB q'
   ·exact ⟨q'.1, Nat.le_succ_of_le q'.2.1, Nat.le_succ_of_le q'.2.2.1, q'.2.2.2⟩
def oR : Ct := Ak (lc IH.ag (lc dL.ag (lc Aq l0))) (fun p => p.1.name.size ≤ 1000000 ∧ OY p.2.1 ∧ p.2.1.buf.size + p.2.2.1.size ≤ 1000000) (fun p => .tup [.agg ((Er (Bv p.1 p.2.1 p.2.2.1).1).map .t), .t (.sl 1 ((Bv p.1 p.2.1 p.2.2.1).2.1.map AG)), .t (.sl 4 ((Bv p.1 p.2.1 p.2.2.1).2.2.map C6))])
section
attribute [local go_sem] oe RM og Aa lm List.length_append List.map_append AS.opn AS.cls AS.nilb AS.renb AS.up Bool.not_false Bool.not_true List.set_set List.set_cons_zero List.set_cons_succ List.set_nil List.mem_singleton forall_eq tn List.map_nil List.nil_append
set_option maxHeartbeats 6400000 in
theorem gz {G : Gt} (hG : Ah G) (hh : G.e 214 = AA 0 oe ∧ G.e 215 = AA 1 RM ∧ G.e 216 = AA 1 og) : Gd G 199 (AA 1 oR) := by
 refine Lo (dp := fun n => !(Nat.beq n 18 || Nat.beq n 72)) (fn := Tryz.f199) (n := 3) rfl rfl hG ?_
 rintro ⟨c, s, t, ⟨⟩⟩ hpre
 obtain ⟨hn, hs, hz⟩ := hpre
 try dsimp only at hn hs hz ⊢
 obtain ⟨q1, q2, q3⟩ := lM (s.buf ++ t)
 rw [ByteArray.size_append] at q1 q2 q3
 have q2' : ∀ i, i < (OB (s.buf ++ t)).length → Bb ((OB (s.buf ++ t)).getD i default) := fun i hi => by have := q2 _ (AF hi); show ByteArray.size _ ≤ 1048576; omega
 simp -implicitDefEqProofs only [Tryz.f199, go_sem, hh, seval]
 with_reducible repeat' (first | apply ai | intro _ | ((first | apply s1 | apply s3 | apply s4) <;> intro hb <;> simp -implicitDefEqProofs only [hb, go_sem, hh, seval] <;> try simp only [qz] at hb))
 all_goals (try simp only [maxLen, tn, ByteArray.size_append] at *)
 all_goals first | with_reducible rfl | omega | with_reducible assumption | decide | (simp only [List.mem_cons, List.mem_singleton, List.not_mem_nil] at *; omega) | skip
 refine AE [(9, 901, true, 1), (10, 902, false, 4)] (ι := {p : Nat × F8 // p.1 ≤ (OB (s.buf ++ t)).length ∧ cr c p.1 p.2 ∧ NV c ((OB (s.buf ++ t)).drop p.1) p.2 = NV c (OB (s.buf ++ t)) (⟨s.state, s.mail, s.bad, ⟨#[]⟩⟩, [], [])}) (fun p => ⟨[(3, .pb 1003 0), (4, .pb 1004 0), (6, .pb 1006 0), (9, .h 901), (10, .h 902), (11, .h 1024), (12, .t (.v (.string (sD (s.buf ++ t))))), (13, .t (.v (.int .i64 p.1.1)))], [(1003, some (.box ((Cu c).map .t))), (1004, some (.box ((Er p.1.2.1).map .t))), (1006, some (.box [.t (.v (.int .i64 0)), .t (.v (.string ⟨#[]⟩)), .t (.v (.string ⟨#[]⟩)), .nil, .nil, .t (.v (.bool false)), .t (.v (.string ⟨#[]⟩))])), (901, some (.arr true 1 (p.1.2.2.1.map AG))), (902, some (.arr false 4 (p.1.2.2.2.map C6))), (1024, some (.arr true 1 ((OB (s.buf ++ t)).map AG)))]⟩) (fun p => (OB (s.buf ++ t)).length - p.1.1) ⟨(0, (⟨s.state, s.mail, s.bad, ⟨#[]⟩⟩, [], [])), Nat.zero_le _, ⟨hs, Nat.le_refl _, Nat.le_refl _, fun _ z => (by cases z), fun _ z => (by cases z)⟩, rfl⟩ rfl ?_ ?_
 ·simp -implicitDefEqProofs only [go_sem, hh, seval]
  try simp
 ·rintro ⟨⟨i, x⟩, hi, hx, hv⟩
  obtain ⟨x1, x2, x3⟩ := x
  dsimp only at hi hx hv
  have hb1 := hx.1.1
  have hb2 := hx.1.2.1
  have hb3 := hx.2.1
  have hb4 := hx.2.2.1
  dsimp only at hb1 hb2 hb3 hb4
  simp -implicitDefEqProofs only [go_sem, hh, seval]
  with_reducible repeat' (first | apply ai | intro _ | ((first | apply s1 | apply s3 | apply s4) <;> intro hb <;> simp -implicitDefEqProofs only [hb, go_sem, hh, seval] <;> try simp only [qz] at hb))
  all_goals (try simp only [maxLen, tn] at *)
  all_goals first
   | with_reducible rfl
   | omega
   | (show _ = true; rfl)
   | with_reducible assumption
   | (rw [show Bv c s t = _ from u6 ((vD (by with_reducible assumption)).symm.trans hv) (by with_reducible assumption)]; first | done | rfl | (simp [c9, AG]; done))
   | (rw [show Bv c s t = _ from u5 ((vB (by omega) (by with_reducible assumption) (by with_reducible assumption)).symm.trans hv)]; first | done | rfl | (simp [c9, AG]; done))
   | (rw [show Bv c s t = _ from u7 ((kw (by omega)).symm.trans hv) (by with_reducible assumption) (by with_reducible assumption)]; first | done | rfl | (simp [c9, AG]; done))
   | (rw [show Bv c s t = _ from vA ((kw (by omega)).symm.trans hv) (by with_reducible assumption) (by with_reducible assumption)]; first | done | rfl | (simp [c9, AG]; done))
   | exact hx.1
   | exact Nat.le_trans (q2' i (by omega)) (by decide)
   | (refine ⟨⟨(i + 1, e9 c (x1, x2, x3) ((OB (s.buf ++ t)).getD i default)), by omega, aC hx (q2' i (by omega)), (vC (by omega) (by with_reducible assumption) (by with_reducible assumption)).symm.trans hv⟩, by dsimp only; omega, ?_⟩
      simp -implicitDefEqProofs only [go_sem, hh, seval]
      first
       | (have ee := k6 (c := c) (x := (x1, x2, x3)) (by with_reducible assumption); simp only [ee]; simp [AG]; done)
       | (have ee := kz (c := c) (x := (x1, x2, x3)) (by with_reducible assumption); simp only [ee]; simp [AG]; done))
   | (have q := (V4 (s := x1) c hx.1 (q2' i (by omega))).2.2.1; omega)
   | skip
end
def PH (x : ByteArray) : ByteArray := if ¬ x = ⟨#[]⟩ ∧ AC x 0 = 46 then ⟨#[46]⟩ ++ x else x
theorem p4 {x : ByteArray} (h : ¬ x = ⟨#[]⟩) (h2 : AC x 0 = 46) : PH x = ⟨#[46]⟩ ++ x := if_pos ⟨h, h2⟩
theorem pz {x : ByteArray} (h : ¬ x = ⟨#[]⟩) (h2 : ¬ AC x 0 = 46) : PH x = x := if_neg fun q => h2 q.2
theorem py {x : ByteArray} (h : x = ⟨#[]⟩) : PH x = x := if_neg fun q => q.1 h
theorem Zt (x : ByteArray) : (PH x).size ≤ x.size + 1 := by
 unfold PH
 split
 ·rw [ByteArray.size_append]; have : (⟨#[46]⟩ : ByteArray).size = 1 := rfl; omega
 ·omega
def Ke : List ByteArray → ByteArray → ByteArray
 | [], o => o
 | x :: r, o => Ke r (o ++ PH x ++ ⟨#[13, 10]⟩)
def Wr (l : List ByteArray) : ByteArray := Ke l ⟨#[]⟩ ++ ⟨#[46, 13, 10]⟩
theorem p6 {L : List ByteArray} {i : Nat} {o : ByteArray} (h : i < L.length) : Ke (L.drop i) o = Ke (L.drop (i + 1)) (o ++ PH (L.getD i default) ++ ⟨#[13, 10]⟩) := by rw [AZ h, Ke]
theorem p5 {L : List ByteArray} {i : Nat} {o : ByteArray} (h : L.length ≤ i) : Ke (L.drop i) o = o := by rw [List.drop_of_length_le h, Ke]
theorem NK : (⟨#[13, 10]⟩ : ByteArray).size = 2 := rfl
theorem kN : (⟨#[46, 13, 10]⟩ : ByteArray).size = 3 := rfl
theorem Zu : ∀ (L : List ByteArray) (o : ByteArray) (B : Nat), (∀ x ∈ L, x.size ≤ B) → (Ke L o).size ≤ o.size + L.length * (B + 3)
 | [], o, B, _ => by show o.size ≤ _; omega
 | x :: r, o, B, h => by
   have h1 := h x (List.mem_cons_self ..)
   have h2 := Zt x
   have q := Zu r (o ++ PH x ++ ⟨#[13, 10]⟩) B (fun y hy => h y (List.mem_cons_of_mem _ hy))
   rw [ByteArray.size_append, ByteArray.size_append, NK] at q
   rw [Ke, List.length_cons, Nat.add_mul]
   omega
def oZ : Ct := Ak (lc Al.asl l0) (fun p => p.1.length ≤ 1000 ∧ ∀ x ∈ p.1, x.size ≤ 2000000) (fun p => .t (.v (.string (Wr p.1))))
section
attribute [local go_sem] lm Int.toNat_zero
set_option maxHeartbeats 1600000 in
theorem iG {G : Gt} (hG : Ah G) : Gd G 211 (AA 0 oZ) := by
 refine gr (fn := Tryz.f211) (n := 1) rfl rfl hG ?_
 rintro ⟨xs, ⟨⟩⟩ hpre
 simp -implicitDefEqProofs only [Tryz.f211, go_sem, seval] at hpre ⊢
 obtain ⟨hl, hx⟩ := hpre
 try dsimp only at hl hx
 refine AE [] (ι := {p : Nat × ByteArray // p.1 ≤ xs.length ∧ p.2.size ≤ p.1 * 2000003 ∧ Ke (xs.drop p.1) p.2 = Ke xs ⟨#[]⟩}) (fun p => ⟨[(0, .t (.sl 1 (xs.map AG))), (3, .t (.v (.string p.1.2))), (4, .t (.v (.int .i64 p.1.1)))], []⟩) (fun p => xs.length - p.1.1) ⟨(0, ⟨#[]⟩), Nat.zero_le _, Nat.zero_le _, rfl⟩ rfl ?_ ?_
 ·simp -implicitDefEqProofs only [go_sem, seval]
  try simp
 ·rintro ⟨⟨i, out⟩, hi, ho, hv⟩
  dsimp only at hi ho hv
  have hd : ∀ h : i < xs.length, (xs.getD i default).size ≤ 2000000 := fun h => hx _ (AF h)
  have hd1 := Zt (xs.getD i default)
  simp -implicitDefEqProofs only [go_sem, seval]
  with_reducible repeat' (first | apply ai | intro _ | ((first | apply s1 | apply s3 | apply s4) <;> intro hb <;> simp -implicitDefEqProofs only [hb, go_sem, seval] <;> try simp only [qz] at hb))
  all_goals (try simp only [maxLen, tn, ByteArray.size_append, NK, kN] at *)
  all_goals first
   | with_reducible rfl
   | omega
   | exact Hv (by assumption)
   | (have := hd (by omega); have e : (#[46] : Array UInt8).size = 1 := rfl; have e2 : (#[13, 10] : Array UInt8).size = 2 := rfl; have e3 : (#[46, 13, 10] : Array UInt8).size = 3 := rfl; omega)
   | (have e3 : (#[46, 13, 10] : Array UInt8).size = 3 := rfl; omega)
   | (rw [p5 (by omega)] at hv; unfold Wr; rw [← hv]; done)
   | (rw [p6 (by omega)] at hv
      refine ⟨⟨(i + 1, _), by dsimp only; omega, ?_, hv⟩, by dsimp only; omega, ?_⟩
      ·have := hd (by omega)
       dsimp only
       rw [ByteArray.size_append, ByteArray.size_append, NK]
       omega
      ·simp -implicitDefEqProofs only [go_sem, seval]
       first
        | (rw [p4 (by assumption) (by assumption)]; simp; done)
        | (rw [pz (by assumption) (by assumption)]; simp; done)
        | (rw [py (by assumption)]; simp; done))
   | skip
end
theorem z7 : (3 : Int).toNat = 3 := rfl
open Classical in
noncomputable def BA (s : ByteArray) : Int := (if (s.size : Int) < 4 then 0 else (if AC s 3 = 32 then (if AC s 0 < 50 then 0 else (if AC s 0 > 53 then 0 else (if P2 (s.extract 0 3) < 200 then 0 else P2 (s.extract 0 3)))) else 0))
theorem pT {s : ByteArray} (h0 : (s.size : Int) < 4) : BA s = 0 := by unfold BA; rw [if_pos h0]
theorem pU {s : ByteArray} (h0 : ¬ ((s.size : Int) < 4)) (h1 : AC s 3 = 32) (h2 : AC s 0 < 50) : BA s = 0 := by unfold BA; rw [if_neg h0, if_pos h1, if_pos h2]
theorem pV {s : ByteArray} (h0 : ¬ ((s.size : Int) < 4)) (h1 : AC s 3 = 32) (h2 : ¬ (AC s 0 < 50)) (h3 : AC s 0 > 53) : BA s = 0 := by unfold BA; rw [if_neg h0, if_pos h1, if_neg h2, if_pos h3]
theorem pX {s : ByteArray} (h0 : ¬ ((s.size : Int) < 4)) (h1 : AC s 3 = 32) (h2 : ¬ (AC s 0 < 50)) (h3 : ¬ (AC s 0 > 53)) (h4 : P2 (s.extract 0 3) < 200) : BA s = 0 := by unfold BA; rw [if_neg h0, if_pos h1, if_neg h2, if_neg h3, if_pos h4]
theorem pY {s : ByteArray} (h0 : ¬ ((s.size : Int) < 4)) (h1 : AC s 3 = 32) (h2 : ¬ (AC s 0 < 50)) (h3 : ¬ (AC s 0 > 53)) (h4 : ¬ (P2 (s.extract 0 3) < 200)) : BA s = P2 (s.extract 0 3) := by unfold BA; rw [if_neg h0, if_pos h1, if_neg h2, if_neg h3, if_neg h4]
theorem pZ {s : ByteArray} (h0 : ¬ ((s.size : Int) < 4)) (h1 : ¬ (AC s 3 = 32)) : BA s = 0 := by unfold BA; rw [if_neg h0, if_neg h1]
theorem u4 (s : ByteArray) : (s.extract 0 3).size ≤ 3 := by rw [ByteArray.size_extract]; omega
def oX : Ct := Ak (lc Aq l0) (fun p => True) (fun p => .t (.v (.int .i64 (BA p.1))))
section
attribute [local go_sem] ol Int.toNat_zero z7
theorem iC {G : Gt} (hG : Ah G) (hh : G.e 218 = AA 0 ol) : Gd G 207 (AA 0 oX) := by
 refine gr (fn := Tryz.f207) (n := 1) rfl rfl hG ?_
 rintro ⟨s, ⟨⟩⟩ hpre
 try dsimp only
 have hz := u4 s
 refine BL ((s.size : Int) < 4) (fun h0 => have hx := And.intro (pT h0 : BA s = _) h0; ?_) (fun h0 => BL (AC s 3 = 32) (fun h1 => BL (AC s 0 < 50) (fun h2 => have hx := And.intro (pU h0 h1 h2 : BA s = _) (And.intro h0 (And.intro h1 h2)); ?_) (fun h2 => BL (AC s 0 > 53) (fun h3 => have hx := And.intro (pV h0 h1 h2 h3 : BA s = _) (And.intro h0 (And.intro h1 (And.intro h2 h3))); ?_) (fun h3 => BL (P2 (s.extract 0 3) < 200) (fun h4 => have hx := And.intro (pX h0 h1 h2 h3 h4 : BA s = _) (And.intro h0 (And.intro h1 (And.intro h2 (And.intro h3 h4)))); ?_) (fun h4 => have hx := And.intro (pY h0 h1 h2 h3 h4 : BA s = _) (And.intro h0 (And.intro h1 (And.intro h2 (And.intro h3 h4)))); ?_)))) (fun h1 => have hx := And.intro (pZ h0 h1 : BA s = _) (And.intro h0 h1); ?_))
 all_goals
  try rw [hx.1]
  simp -implicitDefEqProofs only [Tryz.f207, hx, eq_self, decide_true, decide_false, Int.reduceEq, go_sem, hh, seval]
  with_reducible repeat' (first | apply ai | intro _ | ((first | apply s1 | apply s3 | apply s4) <;> intro hb <;> simp -implicitDefEqProofs only [hb, go_sem, hh, seval] <;> try simp only [qz] at hb))
  all_goals (try simp only [maxLen, tn, lm] at *)
  all_goals first | rfl | omega | decide | with_reducible assumption | (show AU _ = true; rfl) | exact Hv (by assumption) | contradiction | skip
end
def iz (n : ByteArray) (m : Ml) : Cl := ⟨n, m, 0, 0, List.replicate m.to.length 0⟩
def oP : Ct := Ak (lc Aq (lc TF.ag l0)) (fun p => p.2.1.to.length ≤ 1000 ∧ p.2.1.body.length ≤ 1000) (fun p => .agg ((Dw (iz p.1 p.2.1)).map .t))
section
attribute [local go_sem] NG lm AS.opn AS.cls AS.nilb AS.renb AS.up Bool.not_false Bool.not_true List.set_set List.set_cons_zero List.set_cons_succ List.set_nil List.mem_singleton forall_eq tn List.map_nil List.nil_append
theorem gu {G : Gt} (hG : Ah G) (hh : G.e 122 = AA 0 NG) : Gd G 197 (AA 1 oP) := by
 refine gr (fn := Tryz.f197) (n := 2) rfl rfl hG ?_
 rintro ⟨n, m, ⟨⟩⟩ hpre
 simp -implicitDefEqProofs only [Tryz.f197, go_sem, hh, seval] at hpre ⊢
 obtain ⟨h1, h2⟩ := hpre
 try dsimp only at h1 h2 ⊢
 with_reducible repeat' (first | apply ai | intro _ | ((first | apply s1 | apply s3 | apply s4) <;> intro hb <;> simp -implicitDefEqProofs only [hb, go_sem, hh, seval] <;> try simp only [qz] at hb))
 all_goals (try simp only [maxLen, tn] at *)
 all_goals first | rfl | omega | decide | with_reducible assumption | (show AU _ = true; rfl) | exact Hv (by assumption) | contradiction | (simp [iz, A6]; done) | skip
end
def Ni (f : Int → Int) (xs : List Int) (i : Nat) : List Int := (xs.take i).map f ++ xs.drop i
theorem lQ (f : Int → Int) (xs : List Int) : Ni f xs 0 = xs := rfl
theorem lR {f : Int → Int} {xs : List Int} {i : Nat} (h : xs.length ≤ i) : Ni f xs i = xs.map f := by
 unfold Ni; rw [List.take_of_length_le h, List.drop_of_length_le h, List.append_nil]
theorem VK (f : Int → Int) (xs : List Int) (i : Nat) : (Ni f xs i).length = xs.length := by
 unfold Ni; rw [List.length_append, lm, List.length_take, List.length_drop]; omega
theorem VJ {f : Int → Int} {xs : List Int} {i : Nat} (h : i < xs.length) : (Ni f xs i).getD i default = xs.getD i default := by
 unfold Ni
 rw [List.getD_eq_getElem?_getD, List.getElem?_append_right (by rw [lm, List.length_take]; omega), lm, List.length_take, Nat.min_eq_left (by omega), Nat.sub_self, List.getElem?_drop, Nat.add_zero, List.getD_eq_getElem?_getD]
theorem P0 {f : Int → Int} {xs : List Int} {i : Nat} (h : i < xs.length) : Ni f xs (i + 1) = (xs.take i).map f ++ (f (xs.getD i default) :: xs.drop (i + 1)) := by
 unfold Ni
 rw [List.take_add_one, List.getElem?_eq_getElem h, List.map_append, List.append_assoc]
 congr 1
 simp [h]
theorem VL {f : Int → Int} {xs : List Int} {i : Nat} {v : Int} (h : i < xs.length) (e : f (xs.getD i default) = v) : (Ni f xs i).set i v = Ni f xs (i + 1) := by
 rw [P0 h, e]
 unfold Ni
 rw [List.set_append_right _ _ (by rw [lm, List.length_take]; omega), lm, List.length_take, Nat.min_eq_left (by omega), Nat.sub_self, AZ h]
 rfl
theorem Pz {f : Int → Int} {xs : List Int} {i : Nat} (h : i < xs.length) (e : f (xs.getD i default) = xs.getD i default) : Ni f xs (i + 1) = Ni f xs i := by
 rw [P0 h, e]
 unfold Ni
 rw [AZ h]
def Ga (k n : Int) : Int := if n = 0 ∨ n = 1 then k else n
def QL (n : Int) : Int := if n = 1 then 2 else n
def xn (c : Cl) (k : Int) : Cl := ⟨c.name, c.mail, c.state, c.pos, c.outs.map (Ga k)⟩
def yx (c : Cl) : Cl := ⟨c.name, c.mail, c.state, c.pos, c.outs.map QL⟩
def oo : Ct := Ak (lc dK.ag (lc BF l0)) (fun p => p.1.outs.length ≤ 1000) (fun p => .agg ((Dw (xn p.1 p.2.1)).map .t))
section
attribute [local go_sem] lm Aa Bd J3 AS.opn AS.cls AS.nilb AS.renb AS.up Bool.not_false Bool.not_true List.set_set List.set_cons_zero List.set_cons_succ List.set_nil List.mem_singleton forall_eq tn List.map_nil List.nil_append
set_option maxHeartbeats 1600000 in
theorem iO {G : Gt} (hG : Ah G) : Gd G 219 (AA 1 oo) := by
 refine gr (fn := Tryz.f219) (n := 2) rfl rfl hG ?_
 rintro ⟨c, k, ⟨⟩⟩ hpre
 simp -implicitDefEqProofs only [Tryz.f219, go_sem, seval] at hpre ⊢
 have hl : c.outs.length ≤ 1000 := hpre
 with_reducible repeat' (first | apply ai | intro _ | ((first | apply s1 | apply s3 | apply s4) <;> intro hb <;> simp -implicitDefEqProofs only [hb, go_sem, seval] <;> try simp only [qz] at hb))
 all_goals (try simp only [maxLen, tn] at *)
 all_goals first | rfl | omega | decide | with_reducible assumption | (show AU _ = true; rfl) | exact Hv (by assumption) | contradiction | skip
 refine AE [(5, 901, true, 1)] (ι := {i : Nat // i ≤ c.outs.length}) (fun p => ⟨[(1, .t (.v (.int .i64 k))), (2, .pb 1002 0), (4, .pb 1004 0), (5, .h 901), (6, .t (.v (.int .i64 p.1)))], [(1002, some (.box ((Dw c).map .t))), (1004, some (.box [.t (.v (.string ⟨#[]⟩)), .t (.v (.string ⟨#[]⟩)), .t (.v (.string ⟨#[]⟩)), .nil, .nil, .t (.v (.int .i64 0)), .t (.v (.int .i64 0)), .nil])), (901, some (.arr true 1 ((Ni (Ga k) c.outs p.1).map A6)))]⟩) (fun p => c.outs.length - p.1) ⟨0, Nat.zero_le _⟩ rfl ?_ ?_
 ·simp -implicitDefEqProofs only [go_sem, seval]
  simp [lQ]
 ·rintro ⟨i, hi⟩
  dsimp only at hi ⊢
  have hln := VK (Ga k) c.outs i
  have hg : i < c.outs.length → (Ni (Ga k) c.outs i).getD i default = c.outs.getD i default := VJ
  simp -implicitDefEqProofs only [go_sem, seval]
  with_reducible repeat' (first | apply ai | intro _ | ((first | apply s1 | apply s3 | apply s4) <;> intro hb <;> simp -implicitDefEqProofs only [hb, go_sem, seval] <;> try simp only [qz] at hb))
  all_goals (try simp only [maxLen, tn] at *)
  all_goals first
   | with_reducible rfl
   | omega
   | (show _ = true; rfl)
   | (rw [lR (by omega)]; first | done | rfl)
   | rfl
   | (refine ⟨⟨i + 1, by omega⟩, by dsimp only; omega, ?_⟩
      have hgi := hg (by omega)
      simp -implicitDefEqProofs only [go_sem, seval]
      first
       | (rw [VL (by omega) (show Ga k _ = k from if_pos (by omega))]; simp; done)
       | (rw [Pz (by omega) (show Ga k _ = _ from if_neg (by omega))]; simp; done)
       | skip)
   | skip
end
def oc : Ct := Ak (lc dK.ag l0) (fun p => p.1.outs.length ≤ 1000) (fun p => .agg ((Dw (yx p.1)).map .t))
section
attribute [local go_sem] lm Aa Bd J3 AS.opn AS.cls AS.nilb AS.renb AS.up Bool.not_false Bool.not_true List.set_set List.set_cons_zero List.set_cons_succ List.set_nil List.mem_singleton forall_eq tn List.map_nil List.nil_append
set_option maxHeartbeats 1600000 in
theorem iH {G : Gt} (hG : Ah G) : Gd G 212 (AA 1 oc) := by
 refine gr (fn := Tryz.f212) (n := 1) rfl rfl hG ?_
 rintro ⟨c, ⟨⟩⟩ hpre
 simp -implicitDefEqProofs only [Tryz.f212, go_sem, seval] at hpre ⊢
 have hl : c.outs.length ≤ 1000 := hpre
 with_reducible repeat' (first | apply ai | intro _ | ((first | apply s1 | apply s3 | apply s4) <;> intro hb <;> simp -implicitDefEqProofs only [hb, go_sem, seval] <;> try simp only [qz] at hb))
 all_goals (try simp only [maxLen, tn] at *)
 all_goals first | rfl | omega | decide | with_reducible assumption | (show AU _ = true; rfl) | exact Hv (by assumption) | contradiction | skip
 refine AE [(3, 901, true, 1)] (ι := {i : Nat // i ≤ c.outs.length}) (fun p => ⟨[(1, .pb 1001 0), (2, .pb 1002 0), (3, .h 901), (4, .t (.v (.int .i64 p.1)))], [(1001, some (.box ((Dw c).map .t))), (1002, some (.box [.t (.v (.string ⟨#[]⟩)), .t (.v (.string ⟨#[]⟩)), .t (.v (.string ⟨#[]⟩)), .nil, .nil, .t (.v (.int .i64 0)), .t (.v (.int .i64 0)), .nil])), (901, some (.arr true 1 ((Ni QL c.outs p.1).map A6)))]⟩) (fun p => c.outs.length - p.1) ⟨0, Nat.zero_le _⟩ rfl ?_ ?_
 ·simp -implicitDefEqProofs only [go_sem, seval]
  simp [lQ]
 ·rintro ⟨i, hi⟩
  dsimp only at hi ⊢
  have hln := VK QL c.outs i
  have hg : i < c.outs.length → (Ni QL c.outs i).getD i default = c.outs.getD i default := VJ
  simp -implicitDefEqProofs only [go_sem, seval]
  with_reducible repeat' (first | apply ai | intro _ | ((first | apply s1 | apply s3 | apply s4) <;> intro hb <;> simp -implicitDefEqProofs only [hb, go_sem, seval] <;> try simp only [qz] at hb))
  all_goals (try simp only [maxLen, tn] at *)
  all_goals first
   | with_reducible rfl
   | omega
   | (show _ = true; rfl)
   | (rw [lR (by omega)]; first | done | rfl)
   | rfl
   | (refine ⟨⟨i + 1, by omega⟩, by dsimp only; omega, ?_⟩
      have hgi := hg (by omega)
      simp -implicitDefEqProofs only [go_sem, seval]
      first
       | (rw [VL (by omega) (show QL _ = 2 from if_pos (by omega))]; simp; done)
       | (rw [Pz (by omega) (show QL _ = _ from if_neg (by omega))]; simp; done)
       | skip)
   | skip
end
def oS : Ct := Ak (lc dK.ag l0) (fun p => p.1.outs.length ≤ 1000) (fun p => .o true 1 ((p.1.outs.map (Ga 3)).map A6))
section
attribute [local go_sem] lm List.length_append List.map_append AS.opn AS.cls AS.nilb AS.renb AS.up Bool.not_false Bool.not_true List.set_set List.set_cons_zero List.set_cons_succ List.set_nil List.mem_singleton forall_eq tn List.map_nil List.nil_append
set_option maxHeartbeats 1600000 in
theorem hO {G : Gt} (hG : Ah G) : Gd G 200 (AA 0 oS) := by
 refine gr (fn := Tryz.f200) (n := 1) rfl rfl hG ?_ (hs := fun _ _ => .deep _ _)
 rintro ⟨c, ⟨⟩⟩ hpre
 simp -implicitDefEqProofs only [Tryz.f200, go_sem, seval] at hpre ⊢
 have hl : c.outs.length ≤ 1000 := hpre
 with_reducible repeat' (first | apply ai | intro _ | ((first | apply s1 | apply s3 | apply s4) <;> intro hb <;> simp -implicitDefEqProofs only [hb, go_sem, seval] <;> try simp only [qz] at hb))
 all_goals (try simp only [maxLen, tn] at *)
 all_goals first | rfl | omega | decide | with_reducible assumption | (show AU _ = true; rfl) | exact Hv (by assumption) | contradiction | skip
 refine AE [(3, 901, true, 1)] (ι := {i : Nat // i ≤ c.outs.length}) (fun p => ⟨[(1, .pb 1001 0), (3, .h 901), (4, .t (.v (.int .i64 p.1)))], [(1001, some (.box ((Dw c).map .t))), (901, some (.arr true 1 (((c.outs.take p.1).map (Ga 3)).map A6)))]⟩) (fun p => c.outs.length - p.1) ⟨0, Nat.zero_le _⟩ rfl ?_ ?_
 ·simp -implicitDefEqProofs only [go_sem, seval]
  try simp
 ·rintro ⟨i, hi⟩
  dsimp only at hi ⊢
  have hln : (c.outs.take i).length = i := by rw [List.length_take]; omega
  simp -implicitDefEqProofs only [go_sem, seval]
  with_reducible repeat' (first | apply ai | intro _ | ((first | apply s1 | apply s3 | apply s4) <;> intro hb <;> simp -implicitDefEqProofs only [hb, go_sem, seval] <;> try simp only [qz] at hb))
  all_goals (try simp only [maxLen, tn] at *)
  all_goals first
   | with_reducible rfl
   | omega
   | (show _ = true; rfl)
   | (rw [List.take_of_length_le (by omega)]; first | done | rfl)
   | rfl
   | (simp only [List.mem_singleton] at *; omega)
   | (rename_i q; simp only [List.mem_singleton] at q; subst q; rfl)
   | (have ht : c.outs.take (i + 1) = c.outs.take i ++ [c.outs.getD i default] := by
        have hh : i < c.outs.length := by omega
        rw [List.take_add_one, List.getElem?_eq_getElem hh]; simp [hh]
      refine ⟨⟨i + 1, by omega⟩, by dsimp only; omega, ?_⟩
      simp -implicitDefEqProofs only [go_sem, seval]
      rw [ht]
      first
       | (have ee : Ga 3 (c.outs.getD i default) = 3 := if_pos (by omega); simp only [List.map_append, List.map_cons, List.map_nil, ee]; simp [A6]; done)
       | (have ee : Ga 3 (c.outs.getD i default) = c.outs.getD i default := if_neg (by omega); simp only [List.map_append, List.map_cons, List.map_nil, ee]; simp [A6]; done)
       | skip)
   | skip
end
def N7 (m : Ml) : Prop := m.to.length ≤ 1000 ∧ m.body.length ≤ 100 ∧ (m.frm.user.size ≤ 1000 ∧ m.frm.domain.size ≤ 1000) ∧ (∀ a ∈ m.to, a.user.size ≤ 1000 ∧ a.domain.size ≤ 1000) ∧ ∀ l ∈ m.body, l.size ≤ 1000
theorem mH {m : Ml} (h : N7 m) {i : Nat} (hi : i < m.to.length) : (m.to.getD i default).user.size ≤ 1000 ∧ (m.to.getD i default).domain.size ≤ 1000 := h.2.2.2.1 _ (AF hi)
theorem Nv (a : Ad) : (C1 a).size ≤ a.user.size + a.domain.size + 3 := by
 by_cases h : Ab a
 ·rw [Iu h]; have : (⟨#[60, 62]⟩ : ByteArray).size = 2 := rfl; omega
 ·rw [SU h]
  simp only [ByteArray.size_append]
  have e1 : (⟨#[60]⟩ : ByteArray).size = 1 := rfl
  have e2 : (⟨#[64]⟩ : ByteArray).size = 1 := rfl
  have e3 : (⟨#[62]⟩ : ByteArray).size = 1 := rfl
  omega
open Classical in
noncomputable def DV (c : Cl) (k : Int) : Cl × ByteArray := (if k ≥ 500 then (⟨c.name, c.mail, 6, c.pos, c.outs.map (Ga 4)⟩, ⟨#[81, 85, 73, 84]⟩) else (⟨c.name, c.mail, 6, c.pos, c.outs.map (Ga 3)⟩, ⟨#[81, 85, 73, 84]⟩))
theorem qA {c : Cl} {k : Int} (h0 : k ≥ 500) : DV c k = (⟨c.name, c.mail, 6, c.pos, c.outs.map (Ga 4)⟩, ⟨#[81, 85, 73, 84]⟩) := by unfold DV; rw [if_pos h0]
theorem qB {c : Cl} {k : Int} (h0 : ¬ (k ≥ 500)) : DV c k = (⟨c.name, c.mail, 6, c.pos, c.outs.map (Ga 3)⟩, ⟨#[81, 85, 73, 84]⟩) := by unfold DV; rw [if_neg h0]
def od : Ct := Ak (lc dK.ag (lc BF l0)) (fun p => p.1.outs.length ≤ 1000) (fun p => .tup [.agg ((Dw (DV p.1 p.2.1).1).map .t), .t (.v (.string (DV p.1 p.2.1).2))])
section
attribute [local go_sem] oo AS.opn AS.cls AS.nilb AS.renb AS.up Bool.not_false Bool.not_true List.set_set List.set_cons_zero List.set_cons_succ List.set_nil List.mem_singleton forall_eq tn List.map_nil List.nil_append
theorem iI {G : Gt} (hG : Ah G) (hh : G.e 219 = AA 1 oo) : Gd G 213 (AA 1 od) := by
 refine gr (fn := Tryz.f213) (n := 2) rfl rfl hG ?_
 rintro ⟨c, k, ⟨⟩⟩ hpre
 have hl : c.outs.length ≤ 1000 := hpre
 try dsimp only
 refine BL (k ≥ 500) (fun h0 => have hx := And.intro (qA h0 : DV c k = _) h0; ?_) (fun h0 => have hx := And.intro (qB h0 : DV c k = _) h0; ?_)
 all_goals
  try rw [hx.1]
  simp -implicitDefEqProofs only [Tryz.f213, hx, eq_self, decide_true, decide_false, Int.reduceEq, go_sem, hh, seval]
  with_reducible repeat' (first | apply ai | intro _ | ((first | apply s1 | apply s3 | apply s4) <;> intro hb <;> simp -implicitDefEqProofs only [hb, go_sem, hh, seval] <;> try simp only [qz] at hb))
  all_goals (try simp only [maxLen, tn, lm] at *)
  all_goals first | rfl | omega | decide | with_reducible assumption | (show AU _ = true; rfl) | exact Hv (by assumption) | contradiction | skip
end
open Classical in
noncomputable def Dj (c : Cl) : Cl × ByteArray := (if c.pos < c.mail.to.length then (⟨c.name, c.mail, 3, c.pos + 1, c.outs⟩, ⟨#[82, 67, 80, 84, 32, 84, 79, 58]⟩ ++ C1 (c.mail.to.getD c.pos.toNat default)) else (if 1 ∈ c.outs then (⟨c.name, c.mail, 4, c.pos, c.outs⟩, ⟨#[68, 65, 84, 65]⟩) else (⟨c.name, c.mail, 6, c.pos, c.outs⟩, ⟨#[81, 85, 73, 84]⟩)))
theorem sN {c : Cl} (h0 : c.pos < c.mail.to.length) : Dj c = (⟨c.name, c.mail, 3, c.pos + 1, c.outs⟩, ⟨#[82, 67, 80, 84, 32, 84, 79, 58]⟩ ++ C1 (c.mail.to.getD c.pos.toNat default)) := by unfold Dj; rw [if_pos h0]
theorem sO {c : Cl} (h0 : ¬ (c.pos < c.mail.to.length)) (h1 : 1 ∈ c.outs) : Dj c = (⟨c.name, c.mail, 4, c.pos, c.outs⟩, ⟨#[68, 65, 84, 65]⟩) := by unfold Dj; rw [if_neg h0, if_pos h1]
theorem sP {c : Cl} (h0 : ¬ (c.pos < c.mail.to.length)) (h1 : ¬ (1 ∈ c.outs)) : Dj c = (⟨c.name, c.mail, 6, c.pos, c.outs⟩, ⟨#[81, 85, 73, 84]⟩) := by unfold Dj; rw [if_neg h0, if_neg h1]
def Y8 : Ct := Ak (lc dK.ag l0) (fun p => p.1.outs.length ≤ 1000 ∧ N7 p.1.mail ∧ 0 ≤ p.1.pos) (fun p => .tup [.agg ((Dw (Dj p.1).1).map .t), .t (.v (.string (Dj p.1).2))])
section
attribute [local go_sem] RL Int.add_sub_cancel AS.opn AS.cls AS.nilb AS.renb AS.up Bool.not_false Bool.not_true List.set_set List.set_cons_zero List.set_cons_succ List.set_nil List.mem_singleton forall_eq tn List.map_nil List.nil_append
set_option maxHeartbeats 1600000 in
theorem iF {G : Gt} (hG : Ah G) (hh : G.e 209 = AA 0 RL) : Gd G 210 (AA 1 Y8) := by
 refine gr (fn := Tryz.f210) (n := 1) rfl rfl hG ?_
 rintro ⟨c, ⟨⟩⟩ hpre
 obtain ⟨hl, hm, hp⟩ := hpre
 try dsimp only at hl hm hp ⊢
 have hml := hm.1
 have hat : c.pos.toNat < c.mail.to.length → (c.mail.to.getD c.pos.toNat default).user.size ≤ 1000 ∧ (c.mail.to.getD c.pos.toNat default).domain.size ≤ 1000 := fun h => mH hm h
 have hps := Nv (c.mail.to.getD c.pos.toNat default)
 have e8 : (#[82, 67, 80, 84, 32, 84, 79, 58] : Array UInt8).size = 8 := rfl
 refine BL (c.pos < c.mail.to.length) (fun h0 => have hx := And.intro (sN h0 : Dj c = _) h0; ?_) (fun h0 => ?w1)
 case w1 =>
  simp -implicitDefEqProofs only [Tryz.f210, h0, eq_self, decide_true, decide_false, go_sem, hh, seval]
  with_reducible repeat' (first | apply ai | intro _ | ((first | apply s1 | apply s3 | apply s4) <;> intro hb <;> simp -implicitDefEqProofs only [hb, go_sem, hh, seval] <;> try simp only [qz] at hb))
  all_goals (try simp only [maxLen, tn, lm] at *)
  all_goals first | rfl | omega | decide | with_reducible assumption | (show AU _ = true; rfl) | exact Hv (by assumption) | contradiction | skip
  refine AE [] (ι := {i : Nat // i ≤ c.outs.length ∧ ∀ j, j < i → ¬ c.outs.getD j default = 1}) (fun p => ⟨[(1, .pb 1001 0), (2, .pb 1002 0), (4, .t (.v (.int .i64 p.1)))], [(1001, some (.box ((Dw c).map .t))), (1002, some (.box [.t (.v (.string ⟨#[]⟩)), .t (.v (.string ⟨#[]⟩)), .t (.v (.string ⟨#[]⟩)), .nil, .nil, .t (.v (.int .i64 0)), .t (.v (.int .i64 0)), .nil]))]⟩) (fun p => c.outs.length - p.1) ⟨0, by simp, by simp⟩ rfl ?_ ?_
  ·simp -implicitDefEqProofs only [go_sem, hh, seval]
   try simp
  ·rintro ⟨i, hi, hall⟩
   simp -implicitDefEqProofs only [go_sem, hh, seval]
   with_reducible repeat' (first | apply ai | intro _ | ((first | apply s1 | apply s3 | apply s4) <;> intro hb <;> simp -implicitDefEqProofs only [hb, go_sem, hh, seval] <;> try simp only [qz] at hb))
   all_goals (try simp only [maxLen, tn, lm] at *)
   all_goals first
    | with_reducible rfl
    | omega
    | (show _ = true; rfl)
    | (rw [sO h0 (a9 (xs := c.outs) (i := i) (by omega) (by assumption))]; first | done | rfl)
    | (rw [sP h0 (bJ (by omega) hall)]; first | done | rfl)
    | (refine ⟨⟨i + 1, by omega, fun j hj => ?_⟩, by dsimp only; omega, ?_⟩
       ·by_cases e : j = i
        ·subst e; assumption
        ·exact hall j (by omega)
       ·simp -implicitDefEqProofs only [go_sem, hh, seval]
        simp)
    | skip
 all_goals
  try rw [hx.1]
  simp -implicitDefEqProofs only [Tryz.f210, hx, eq_self, decide_true, decide_false, Int.reduceEq, go_sem, hh, seval]
  with_reducible repeat' (first | apply ai | intro _ | ((first | apply s1 | apply s3 | apply s4) <;> intro hb <;> simp -implicitDefEqProofs only [hb, go_sem, hh, seval] <;> try simp only [qz] at hb))
  all_goals (try simp only [maxLen, tn, lm] at *)
  all_goals first | rfl | omega | decide | with_reducible assumption | (show AU _ = true; rfl) | exact Hv (by assumption) | contradiction | skip
end
open Classical in
noncomputable def FT (c : Cl) (k : Int) : Cl × ByteArray := (if k = 250 then Dj ⟨c.name, c.mail, c.state, c.pos, c.outs.set (c.pos - 1).toNat 1⟩ else (if k ≥ 500 then Dj ⟨c.name, c.mail, c.state, c.pos, c.outs.set (c.pos - 1).toNat 4⟩ else Dj ⟨c.name, c.mail, c.state, c.pos, c.outs.set (c.pos - 1).toNat 3⟩))
theorem tN {c : Cl} {k : Int} (h0 : k = 250) : FT c k = Dj ⟨c.name, c.mail, c.state, c.pos, c.outs.set (c.pos - 1).toNat 1⟩ := by unfold FT; rw [if_pos h0]
theorem tO {c : Cl} {k : Int} (h0 : ¬ (k = 250)) (h1 : k ≥ 500) : FT c k = Dj ⟨c.name, c.mail, c.state, c.pos, c.outs.set (c.pos - 1).toNat 4⟩ := by unfold FT; rw [if_neg h0, if_pos h1]
theorem tP {c : Cl} {k : Int} (h0 : ¬ (k = 250)) (h1 : ¬ (k ≥ 500)) : FT c k = Dj ⟨c.name, c.mail, c.state, c.pos, c.outs.set (c.pos - 1).toNat 3⟩ := by unfold FT; rw [if_neg h0, if_neg h1]
def oY : Ct := Ak (lc dK.ag (lc BF l0)) (fun p => p.1.outs.length ≤ 1000 ∧ N7 p.1.mail ∧ 1 ≤ p.1.pos ∧ p.1.pos ≤ p.1.outs.length) (fun p => .tup [.agg ((Dw (FT p.1 p.2.1).1).map .t), .t (.v (.string (FT p.1 p.2.1).2))])
section
attribute [local go_sem] Y8 lm List.length_set Bd J3 AS.opn AS.cls AS.nilb AS.renb AS.up Bool.not_false Bool.not_true List.set_set List.set_cons_zero List.set_cons_succ List.set_nil List.mem_singleton forall_eq tn List.map_nil List.nil_append
set_option maxHeartbeats 1600000 in
theorem iD {G : Gt} (hG : Ah G) (hh : G.e 210 = AA 1 Y8) : Gd G 208 (AA 1 oY) := by
 refine gr (fn := Tryz.f208) (n := 2) rfl rfl hG ?_
 rintro ⟨c, k, ⟨⟩⟩ hpre
 obtain ⟨hl, hm, hp, hq⟩ := hpre
 try dsimp only at hl hm hp hq ⊢
 refine BL (k = 250) (fun h0 => have h0' := decide_eq_true h0; have hx := And.intro (tN h0 : FT c k = _) h0'; ?_) (fun h0 => have h0' := decide_eq_false h0; BL (k ≥ 500) (fun h1 => have hx := And.intro (tO h0 h1 : FT c k = _) (And.intro h0' h1); ?_) (fun h1 => have hx := And.intro (tP h0 h1 : FT c k = _) (And.intro h0' h1); ?_))
 all_goals
  try rw [hx.1]
  simp -implicitDefEqProofs only [Tryz.f208, hx, eq_self, decide_true, decide_false, Int.reduceEq, go_sem, hh, seval]
  with_reducible repeat' (first | apply ai | intro _ | ((first | apply s1 | apply s3 | apply s4) <;> intro hb <;> simp -implicitDefEqProofs only [hb, go_sem, hh, seval] <;> try simp only [qz] at hb))
  all_goals (try simp only [maxLen, tn, lm] at *)
  all_goals first | rfl | omega | decide | with_reducible assumption | (show AU _ = true; rfl) | exact Hv (by assumption) | contradiction | skip
end
open Classical in
noncomputable def Ax (c : Cl) (a : ByteArray) : Cl × ByteArray := (if c.state = 7 then (c, ⟨#[]⟩) else (if c.state = 6 then (⟨c.name, c.mail, 7, c.pos, c.outs⟩, ⟨#[]⟩) else (if c.state = 3 then FT c (BA a) else (if c.state = 0 then (if BA a = 220 then (⟨c.name, c.mail, 1, c.pos, c.outs⟩, ⟨#[72, 69, 76, 79, 32]⟩ ++ c.name) else DV c (BA a)) else (if c.state = 1 then (if BA a = 250 then (⟨c.name, c.mail, 2, c.pos, c.outs⟩, ⟨#[77, 65, 73, 76, 32, 70, 82, 79, 77, 58]⟩ ++ C1 c.mail.frm) else DV c (BA a)) else (if c.state = 2 then (if BA a = 250 then Dj c else DV c (BA a)) else (if c.state = 4 then (if BA a = 354 then (⟨c.name, c.mail, 5, c.pos, c.outs⟩, Wr c.mail.body) else DV c (BA a)) else (if c.state = 5 then (if BA a = 250 then (⟨c.name, c.mail, 6, c.pos, c.outs.map QL⟩, ⟨#[81, 85, 73, 84]⟩) else DV c (BA a)) else DV c (BA a)))))))))
theorem su {c : Cl} {a : ByteArray} (h0 : c.state = 7) : Ax c a = (c, ⟨#[]⟩) := by unfold Ax; rw [if_pos h0]
theorem sw {c : Cl} {a : ByteArray} (h0 : ¬ (c.state = 7)) (h1 : c.state = 6) : Ax c a = (⟨c.name, c.mail, 7, c.pos, c.outs⟩, ⟨#[]⟩) := by unfold Ax; rw [if_neg h0, if_pos h1]
theorem sx {c : Cl} {a : ByteArray} (h0 : ¬ (c.state = 7)) (h1 : ¬ (c.state = 6)) (h2 : c.state = 3) : Ax c a = FT c (BA a) := by unfold Ax; rw [if_neg h0, if_neg h1, if_pos h2]
theorem sy {c : Cl} {a : ByteArray} (h0 : ¬ (c.state = 7)) (h1 : ¬ (c.state = 6)) (h2 : ¬ (c.state = 3)) (h3 : c.state = 0) (h4 : BA a = 220) : Ax c a = (⟨c.name, c.mail, 1, c.pos, c.outs⟩, ⟨#[72, 69, 76, 79, 32]⟩ ++ c.name) := by unfold Ax; rw [if_neg h0, if_neg h1, if_neg h2, if_pos h3, if_pos h4]
theorem s5 {c : Cl} {a : ByteArray} (h0 : ¬ (c.state = 7)) (h1 : ¬ (c.state = 6)) (h2 : ¬ (c.state = 3)) (h3 : c.state = 0) (h4 : ¬ (BA a = 220)) : Ax c a = DV c (BA a) := by unfold Ax; rw [if_neg h0, if_neg h1, if_neg h2, if_pos h3, if_neg h4]
theorem s6 {c : Cl} {a : ByteArray} (h0 : ¬ (c.state = 7)) (h1 : ¬ (c.state = 6)) (h2 : ¬ (c.state = 3)) (h3 : ¬ (c.state = 0)) (h4 : c.state = 1) (h5 : BA a = 250) : Ax c a = (⟨c.name, c.mail, 2, c.pos, c.outs⟩, ⟨#[77, 65, 73, 76, 32, 70, 82, 79, 77, 58]⟩ ++ C1 c.mail.frm) := by unfold Ax; rw [if_neg h0, if_neg h1, if_neg h2, if_neg h3, if_pos h4, if_pos h5]
theorem s7 {c : Cl} {a : ByteArray} (h0 : ¬ (c.state = 7)) (h1 : ¬ (c.state = 6)) (h2 : ¬ (c.state = 3)) (h3 : ¬ (c.state = 0)) (h4 : c.state = 1) (h5 : ¬ (BA a = 250)) : Ax c a = DV c (BA a) := by unfold Ax; rw [if_neg h0, if_neg h1, if_neg h2, if_neg h3, if_pos h4, if_neg h5]
theorem s8 {c : Cl} {a : ByteArray} (h0 : ¬ (c.state = 7)) (h1 : ¬ (c.state = 6)) (h2 : ¬ (c.state = 3)) (h3 : ¬ (c.state = 0)) (h4 : ¬ (c.state = 1)) (h5 : c.state = 2) (h6 : BA a = 250) : Ax c a = Dj c := by unfold Ax; rw [if_neg h0, if_neg h1, if_neg h2, if_neg h3, if_neg h4, if_pos h5, if_pos h6]
theorem s9 {c : Cl} {a : ByteArray} (h0 : ¬ (c.state = 7)) (h1 : ¬ (c.state = 6)) (h2 : ¬ (c.state = 3)) (h3 : ¬ (c.state = 0)) (h4 : ¬ (c.state = 1)) (h5 : c.state = 2) (h6 : ¬ (BA a = 250)) : Ax c a = DV c (BA a) := by unfold Ax; rw [if_neg h0, if_neg h1, if_neg h2, if_neg h3, if_neg h4, if_pos h5, if_neg h6]
theorem tA {c : Cl} {a : ByteArray} (h0 : ¬ (c.state = 7)) (h1 : ¬ (c.state = 6)) (h2 : ¬ (c.state = 3)) (h3 : ¬ (c.state = 0)) (h4 : ¬ (c.state = 1)) (h5 : ¬ (c.state = 2)) (h6 : c.state = 4) (h7 : BA a = 354) : Ax c a = (⟨c.name, c.mail, 5, c.pos, c.outs⟩, Wr c.mail.body) := by unfold Ax; rw [if_neg h0, if_neg h1, if_neg h2, if_neg h3, if_neg h4, if_neg h5, if_pos h6, if_pos h7]
theorem jO {c : Cl} {a : ByteArray} (h0 : ¬ (c.state = 7)) (h1 : ¬ (c.state = 6)) (h2 : ¬ (c.state = 3)) (h3 : ¬ (c.state = 0)) (h4 : ¬ (c.state = 1)) (h5 : ¬ (c.state = 2)) (h6 : c.state = 4) (h7 : ¬ (BA a = 354)) : Ax c a = DV c (BA a) := by unfold Ax; rw [if_neg h0, if_neg h1, if_neg h2, if_neg h3, if_neg h4, if_neg h5, if_pos h6, if_neg h7]
theorem jP {c : Cl} {a : ByteArray} (h0 : ¬ (c.state = 7)) (h1 : ¬ (c.state = 6)) (h2 : ¬ (c.state = 3)) (h3 : ¬ (c.state = 0)) (h4 : ¬ (c.state = 1)) (h5 : ¬ (c.state = 2)) (h6 : ¬ (c.state = 4)) (h7 : c.state = 5) (h8 : BA a = 250) : Ax c a = (⟨c.name, c.mail, 6, c.pos, c.outs.map QL⟩, ⟨#[81, 85, 73, 84]⟩) := by unfold Ax; rw [if_neg h0, if_neg h1, if_neg h2, if_neg h3, if_neg h4, if_neg h5, if_neg h6, if_pos h7, if_pos h8]
theorem jQ {c : Cl} {a : ByteArray} (h0 : ¬ (c.state = 7)) (h1 : ¬ (c.state = 6)) (h2 : ¬ (c.state = 3)) (h3 : ¬ (c.state = 0)) (h4 : ¬ (c.state = 1)) (h5 : ¬ (c.state = 2)) (h6 : ¬ (c.state = 4)) (h7 : c.state = 5) (h8 : ¬ (BA a = 250)) : Ax c a = DV c (BA a) := by unfold Ax; rw [if_neg h0, if_neg h1, if_neg h2, if_neg h3, if_neg h4, if_neg h5, if_neg h6, if_pos h7, if_neg h8]
theorem jR {c : Cl} {a : ByteArray} (h0 : ¬ (c.state = 7)) (h1 : ¬ (c.state = 6)) (h2 : ¬ (c.state = 3)) (h3 : ¬ (c.state = 0)) (h4 : ¬ (c.state = 1)) (h5 : ¬ (c.state = 2)) (h6 : ¬ (c.state = 4)) (h7 : ¬ (c.state = 5)) : Ax c a = DV c (BA a) := by unfold Ax; rw [if_neg h0, if_neg h1, if_neg h2, if_neg h3, if_neg h4, if_neg h5, if_neg h6, if_neg h7]
def oQ : Ct := Ak (lc dK.ag (lc Aq l0)) (fun p => p.1.outs.length ≤ 1000 ∧ N7 p.1.mail ∧ 0 ≤ p.1.pos ∧ p.1.pos ≤ p.1.outs.length ∧ (p.1.state = 3 → 1 ≤ p.1.pos) ∧ p.1.name.size ≤ 1000000) (fun p => .tup [.agg ((Dw (Ax p.1 p.2.1).1).map .t), .t (.v (.string (Ax p.1 p.2.1).2))])
section
attribute [local go_sem] oX oY RL Y8 oZ oc od AS.opn AS.cls AS.nilb AS.renb AS.up Bool.not_false Bool.not_true List.set_set List.set_cons_zero List.set_cons_succ List.set_nil List.mem_singleton forall_eq tn List.map_nil List.nil_append
set_option maxHeartbeats 3200000 in
theorem gw {G : Gt} (hG : Ah G) (hh : G.e 207 = AA 0 oX ∧ G.e 208 = AA 1 oY ∧ G.e 209 = AA 0 RL ∧ G.e 210 = AA 1 Y8 ∧ G.e 211 = AA 0 oZ ∧ G.e 212 = AA 1 oc ∧ G.e 213 = AA 1 od) : Gd G 198 (AA 1 oQ) := by
 refine gr (fn := Tryz.f198) (n := 2) rfl rfl hG ?_
 rintro ⟨c, a, ⟨⟩⟩ hpre
 obtain ⟨hl, hm, hp, hq, h3p, hn⟩ := hpre
 try dsimp only at hl hm hp hq h3p hn ⊢
 have hml := hm.1
 have hmb := hm.2.1
 have hmf := hm.2.2.1
 have hps := Nv c.mail.frm
 have hbo : ∀ x ∈ c.mail.body, x.size ≤ 2000000 := fun x hx => Nat.le_trans (hm.2.2.2.2 x hx) (by decide)
 have e5 : (#[72, 69, 76, 79, 32] : Array UInt8).size = 5 := rfl
 have e10 : (#[77, 65, 73, 76, 32, 70, 82, 79, 77, 58] : Array UInt8).size = 10 := rfl
 refine BL (c.state = 7) (fun h0 => have h0' := decide_eq_true h0; have hx := And.intro (su h0 : Ax c a = _) h0'; ?_) (fun h0 => have h0' := decide_eq_false h0; BL (c.state = 6) (fun h1 => have h1' := decide_eq_true h1; have hx := And.intro (sw h0 h1 : Ax c a = _) (And.intro h0' h1'); ?_) (fun h1 => have h1' := decide_eq_false h1; BL (c.state = 3) (fun h2 => have h2' := decide_eq_true h2; have hx := And.intro (sx h0 h1 h2 : Ax c a = _) (And.intro h0' (And.intro h1' h2')); ?_) (fun h2 => have h2' := decide_eq_false h2; BL (c.state = 0) (fun h3 => have h3' := decide_eq_true h3; BL (BA a = 220) (fun h4 => have h4' := decide_eq_true h4; have hx := And.intro (sy h0 h1 h2 h3 h4 : Ax c a = _) (And.intro h0' (And.intro h1' (And.intro h2' (And.intro h3' h4')))); ?_) (fun h4 => have h4' := decide_eq_false h4; have hx := And.intro (s5 h0 h1 h2 h3 h4 : Ax c a = _) (And.intro h0' (And.intro h1' (And.intro h2' (And.intro h3' h4')))); ?_)) (fun h3 => have h3' := decide_eq_false h3; BL (c.state = 1) (fun h4 => have h4' := decide_eq_true h4; BL (BA a = 250) (fun h5 => have h5' := decide_eq_true h5; have hx := And.intro (s6 h0 h1 h2 h3 h4 h5 : Ax c a = _) (And.intro h0' (And.intro h1' (And.intro h2' (And.intro h3' (And.intro h4' h5'))))); ?_) (fun h5 => have h5' := decide_eq_false h5; have hx := And.intro (s7 h0 h1 h2 h3 h4 h5 : Ax c a = _) (And.intro h0' (And.intro h1' (And.intro h2' (And.intro h3' (And.intro h4' h5'))))); ?_)) (fun h4 => have h4' := decide_eq_false h4; BL (c.state = 2) (fun h5 => have h5' := decide_eq_true h5; BL (BA a = 250) (fun h6 => have h6' := decide_eq_true h6; have hx := And.intro (s8 h0 h1 h2 h3 h4 h5 h6 : Ax c a = _) (And.intro h0' (And.intro h1' (And.intro h2' (And.intro h3' (And.intro h4' (And.intro h5' h6')))))); ?_) (fun h6 => have h6' := decide_eq_false h6; have hx := And.intro (s9 h0 h1 h2 h3 h4 h5 h6 : Ax c a = _) (And.intro h0' (And.intro h1' (And.intro h2' (And.intro h3' (And.intro h4' (And.intro h5' h6')))))); ?_)) (fun h5 => have h5' := decide_eq_false h5; BL (c.state = 4) (fun h6 => have h6' := decide_eq_true h6; BL (BA a = 354) (fun h7 => have h7' := decide_eq_true h7; have hx := And.intro (tA h0 h1 h2 h3 h4 h5 h6 h7 : Ax c a = _) (And.intro h0' (And.intro h1' (And.intro h2' (And.intro h3' (And.intro h4' (And.intro h5' (And.intro h6' h7'))))))); ?_) (fun h7 => have h7' := decide_eq_false h7; have hx := And.intro (jO h0 h1 h2 h3 h4 h5 h6 h7 : Ax c a = _) (And.intro h0' (And.intro h1' (And.intro h2' (And.intro h3' (And.intro h4' (And.intro h5' (And.intro h6' h7'))))))); ?_)) (fun h6 => have h6' := decide_eq_false h6; BL (c.state = 5) (fun h7 => have h7' := decide_eq_true h7; BL (BA a = 250) (fun h8 => have h8' := decide_eq_true h8; have hx := And.intro (jP h0 h1 h2 h3 h4 h5 h6 h7 h8 : Ax c a = _) (And.intro h0' (And.intro h1' (And.intro h2' (And.intro h3' (And.intro h4' (And.intro h5' (And.intro h6' (And.intro h7' h8')))))))); ?_) (fun h8 => have h8' := decide_eq_false h8; have hx := And.intro (jQ h0 h1 h2 h3 h4 h5 h6 h7 h8 : Ax c a = _) (And.intro h0' (And.intro h1' (And.intro h2' (And.intro h3' (And.intro h4' (And.intro h5' (And.intro h6' (And.intro h7' h8')))))))); ?_)) (fun h7 => have h7' := decide_eq_false h7; have hx := And.intro (jR h0 h1 h2 h3 h4 h5 h6 h7 : Ax c a = _) (And.intro h0' (And.intro h1' (And.intro h2' (And.intro h3' (And.intro h4' (And.intro h5' (And.intro h6' h7'))))))); ?_))))))))
 all_goals
  try rw [hx.1]
  simp -implicitDefEqProofs only [Tryz.f198, hx, eq_self, decide_true, decide_false, Int.reduceEq, go_sem, hh, seval]
  with_reducible repeat' (first | apply ai | intro _ | ((first | apply s1 | apply s3 | apply s4) <;> intro hb <;> simp -implicitDefEqProofs only [hb, go_sem, hh, seval] <;> try simp only [qz] at hb))
  all_goals (try simp only [maxLen, tn, lm] at *)
  all_goals first | rfl | omega | decide | with_reducible assumption | (show AU _ = true; rfl) | exact Hv (by assumption) | contradiction | exact hbo _ (by with_reducible assumption) | skip
end
def WE (c : Cl) : Prop := c.outs.length = c.mail.to.length ∧ N7 c.mail ∧ 0 ≤ c.pos ∧ c.pos ≤ c.outs.length ∧ (c.state = 3 → 1 ≤ c.pos) ∧ c.name.size ≤ 1000
theorem ey {c : Cl} (k : Int) (h : WE c) : WE (DV c k).1 ∧ (DV c k).2.size ≤ 20 := by
 unfold DV
 split
 all_goals exact ⟨⟨by show (c.outs.map _).length = _; rw [lm]; exact h.1, h.2.1, h.2.2.1, by show _ ≤ (((c.outs.map _).length : Nat) : Int); rw [lm]; exact h.2.2.2.1, fun q => by simp at q, h.2.2.2.2.2⟩, Nat.le_of_ble_eq_true rfl⟩
theorem VP {c : Cl} (h : c.outs.length = c.mail.to.length ∧ N7 c.mail ∧ 0 ≤ c.pos ∧ c.pos ≤ c.outs.length ∧ c.name.size ≤ 1000) : WE (Dj c).1 ∧ (Dj c).2.size ≤ 3000 := by
 obtain ⟨h1, h2, h3, h4, h5⟩ := h
 unfold Dj
 split
 ·rename_i hlt
  refine ⟨⟨h1, h2, by show 0 ≤ c.pos + 1; omega, by show c.pos + 1 ≤ (c.outs.length : Int); omega, fun _ => by show 1 ≤ c.pos + 1; omega, h5⟩, ?_⟩
  show (⟨#[82, 67, 80, 84, 32, 84, 79, 58]⟩ ++ C1 (c.mail.to.getD c.pos.toNat default)).size ≤ 3000
  have hps := Nv (c.mail.to.getD c.pos.toNat default)
  have ht := mH h2 (i := c.pos.toNat) (by omega)
  rw [ByteArray.size_append]
  have e8 : (⟨#[82, 67, 80, 84, 32, 84, 79, 58]⟩ : ByteArray).size = 8 := rfl
  omega
 ·split
  all_goals exact ⟨⟨h1, h2, h3, h4, fun q => by simp at q, h5⟩, Nat.le_of_ble_eq_true rfl⟩
theorem jZ {c : Cl} (k : Int) (h : WE c) : WE (FT c k).1 ∧ (FT c k).2.size ≤ 3000 := by
 have key : ∀ v : Int, WE (Dj ⟨c.name, c.mail, c.state, c.pos, c.outs.set (c.pos - 1).toNat v⟩).1 ∧ (Dj ⟨c.name, c.mail, c.state, c.pos, c.outs.set (c.pos - 1).toNat v⟩).2.size ≤ 3000 := fun v =>
  VP ⟨by show (c.outs.set _ _).length = _; rw [List.length_set]; exact h.1, h.2.1, h.2.2.1, by show _ ≤ (((c.outs.set _ _).length : Nat) : Int); rw [List.length_set]; exact h.2.2.2.1, h.2.2.2.2.2⟩
 unfold FT
 repeat' split
 all_goals exact key _
theorem p7 {l : List ByteArray} (h1 : l.length ≤ 100) (h : ∀ x ∈ l, x.size ≤ 1000) : (Wr l).size ≤ 100400 := by
 unfold Wr
 have q := Zu l ⟨#[]⟩ 1000 h
 rw [ByteArray.size_append, kN]
 have : (⟨#[]⟩ : ByteArray).size = 0 := rfl
 have : l.length * (1000 + 3) ≤ 100 * (1000 + 3) := Nat.mul_le_mul_right _ h1
 omega
theorem jS {c : Cl} (a : ByteArray) (h : WE c) : WE (Ax c a).1 ∧ (Ax c a).2.size ≤ 200000 := by
 have q1 := jZ (BA a) h
 have q2 := ey (BA a) h
 have q3 := VP ⟨h.1, h.2.1, h.2.2.1, h.2.2.2.1, h.2.2.2.2.2⟩
 have q4 := p7 h.2.1.2.1 h.2.1.2.2.2.2
 have q5 := Nv c.mail.frm
 have q6 := h.2.1.2.2.1
 have mk : ∀ st, ¬ st = (3 : Int) → ∀ o : List Int, o.length = c.outs.length → WE ⟨c.name, c.mail, st, c.pos, o⟩ := fun st hs o ho => ⟨by show o.length = _; rw [ho]; exact h.1, h.2.1, h.2.2.1, by show _ ≤ ((o.length : Nat) : Int); rw [ho]; exact h.2.2.2.1, fun q => absurd q hs, h.2.2.2.2.2⟩
 unfold Ax
 repeat' split
 all_goals first
  | exact ⟨h, Nat.zero_le _⟩
  | exact ⟨mk _ (by decide) _ rfl, Nat.zero_le _⟩
  | exact ⟨q1.1, by have := q1.2; omega⟩
  | exact ⟨q2.1, by have := q2.2; omega⟩
  | exact ⟨q3.1, by have := q3.2; omega⟩
  | exact ⟨mk _ (by decide) _ (lm _), Nat.le_of_ble_eq_true rfl⟩
  | exact ⟨mk _ (by decide) _ rfl, Nat.le_trans q4 (by decide)⟩
  | (refine ⟨mk _ (by decide) _ rfl, ?_⟩
     show ((⟨_⟩ : ByteArray) ++ _).size ≤ _
     rw [ByteArray.size_append]
     have e5 : (⟨#[72, 69, 76, 79, 32]⟩ : ByteArray).size = 5 := rfl
     have e10 : (⟨#[77, 65, 73, 76, 32, 70, 82, 79, 77, 58]⟩ : ByteArray).size = 10 := rfl
     have := h.2.2.2.2.2
     omega)
theorem ZB (c : Cf) (s : Ss) (l : ByteArray) : (Be c s l).1.buf = s.buf := by
 have q1 : ∀ t, (Es s t).1.buf = s.buf := fun t => by unfold Es; (repeat' split) <;> rfl
 have q2 : ∀ t, (H9 c s t).1.buf = s.buf := fun t => by unfold H9; (repeat' split) <;> rfl
 unfold Be
 repeat' split
 all_goals first | rfl | exact q1 _ | exact q2 _
theorem ZG (s : Ss) (l : ByteArray) : (Aj s l).1.1.buf = s.buf := by unfold Aj; (repeat' split) <;> rfl
theorem cR (c : Cf) (s : Ss) (l : ByteArray) : (Br c s l).1.1.buf = s.buf := by
 unfold Br
 repeat' split
 all_goals first | rfl | exact ZG s l | exact ZB c s l
theorem Um (c : Cf) : ∀ (L : List ByteArray) (x : F8), (NV c L x).1.1.buf = x.1.buf
 | [], x => rfl
 | l :: r, x => by
   rw [NV]
   split
   ·rfl
   ·split
    ·rfl
    ·rw [Um c r]; exact cR c x.1 l
theorem Wu (c : Cf) (s : Ss) (t : ByteArray) : (Bv c s t).1.buf.size ≤ 80 := by
 have q := Um c (OB (s.buf ++ t)) (⟨s.state, s.mail, s.bad, ⟨#[]⟩⟩, [], [])
 have e : (⟨#[]⟩ : ByteArray).size = 0 := rfl
 unfold Bv Z9
 split
 ·rw [q]; show (⟨#[]⟩ : ByteArray).size ≤ 80; omega
 ·split
  ·rw [q]; show (⟨#[]⟩ : ByteArray).size ≤ 80; omega
  ·split
   ·show (NV c _ _).1.1.buf.size ≤ 80
    rw [q]; show (⟨#[]⟩ : ByteArray).size ≤ 80; omega
   ·show (sD (s.buf ++ t)).size ≤ 80; omega
abbrev Oa := Cl × Ss × List Ml × List ByteArray
def cY (q : Cl × ByteArray) : ByteArray := if q.1.state = 5 then q.2 else q.2 ++ ⟨#[13, 10]⟩
theorem mA {q : Cl × ByteArray} (h : q.1.state = 5) : cY q = q.2 := if_pos h
theorem l9 {q : Cl × ByteArray} (h : ¬ q.1.state = 5) : cY q = q.2 ++ ⟨#[13, 10]⟩ := if_neg h
theorem wQ (q : Cl × ByteArray) : (cY q).size ≤ q.2.size + 2 := by
 unfold cY
 split
 ·omega
 ·rw [ByteArray.size_append, NK]; omega
noncomputable def Mp (x : Oa) : Cl × ByteArray := Ax x.1 (x.2.2.2.getD 0 default)
noncomputable def dG (h : Cf) (x : Oa) : Oa := ((Mp x).1, (Bv h x.2.1 (cY (Mp x))).1, x.2.2.1 ++ (Bv h x.2.1 (cY (Mp x))).2.2, (Bv h x.2.1 (cY (Mp x))).2.1)
noncomputable def Lc (h : Cf) (cut : Int) : Nat → Nat → Oa → Cl × List Ml
 | 0, _, x => (x.1, x.2.2.1)
 | k + 1, n, x => if (x.2.2.2.length : Int) > 0 ∧ ¬ x.1.state = 7 then (if 2 * (n : Int) ≥ cut then (x.1, x.2.2.1) else if (Mp x).2 = ⟨#[]⟩ ∨ 2 * (n : Int) + 1 ≥ cut then ((Mp x).1, x.2.2.1) else Lc h cut k (n + 1) (dG h x)) else (x.1, x.2.2.1)
theorem cZ {h : Cf} {cut : Int} {k n : Nat} {x : Oa} (q : ¬ (x.2.2.2.length : Int) > 0 ∨ x.1.state = 7 ∨ 2 * (n : Int) ≥ cut) : Lc h cut k n x = (x.1, x.2.2.1) := by
 cases k with
 | zero => rfl
 | succ k =>
   rw [Lc]
   split
   ·rename_i z
    rw [if_pos (q.elim (fun a => absurd z.1 a) fun q => q.elim (fun a => absurd a z.2) id)]
   ·rfl
theorem mC {h : Cf} {cut : Int} {k n : Nat} {x : Oa} (hk : cut ≤ 2 * ((n : Int) + k)) (h1 : (x.2.2.2.length : Int) > 0) (h2 : ¬ x.1.state = 7) (h3 : ¬ 2 * (n : Int) ≥ cut) (h4 : (Mp x).2 = ⟨#[]⟩ ∨ 2 * (n : Int) + 1 ≥ cut) : Lc h cut k n x = ((Mp x).1, x.2.2.1) := by
 obtain ⟨j, rfl⟩ : ∃ j, k = j + 1 := ⟨k - 1, by omega⟩
 rw [Lc, if_pos ⟨h1, h2⟩, if_neg h3, if_pos h4]
theorem wR {h : Cf} {cut : Int} {k n : Nat} {x : Oa} (h1 : (x.2.2.2.length : Int) > 0) (h2 : ¬ x.1.state = 7) (h3 : ¬ 2 * (n : Int) ≥ cut) (h4 : ¬ (Mp x).2 = ⟨#[]⟩) (h5 : ¬ 2 * (n : Int) + 1 ≥ cut) : Lc h cut (k + 1) n x = Lc h cut k (n + 1) (dG h x) := by
 rw [Lc, if_pos ⟨h1, h2⟩, if_neg h3, if_neg (fun q => q.elim h4 h5)]
def tY (n : Nat) (x : Oa) : Prop := WE x.1 ∧ OY x.2.1 ∧ x.2.1.buf.size ≤ 80 ∧ x.2.2.1.length ≤ n * 300000 ∧ ∀ m ∈ x.2.2.1, jp m
theorem Sj {n : Nat} {x : Oa} (q : tY n x) : WE (Mp x).1 ∧ (Mp x).2.size ≤ 200000 := jS _ q.1
theorem N1 {h : Cf} {n : Nat} {x : Oa} (q : tY n x) : tY (n + 1) (dG h x) ∧ (Bv h x.2.1 (cY (Mp x))).2.2.length ≤ 300000 := by
 obtain ⟨h1, h2⟩ := Sj q
 obtain ⟨q1, q2, q3, q4, q5⟩ := q
 have ha := wQ (Mp x)
 have f := aD (c := h) (t := cY (Mp x)) q2 (by omega)
 have fl : (Bv h x.2.1 (cY (Mp x))).2.2.length ≤ 300000 := by have := f.2.2.1; omega
 refine ⟨⟨h1, f.1, Wu _ _ _, ?_, fun m hm => ?_⟩, fl⟩
 ·show (x.2.2.1 ++ _).length ≤ _
  rw [List.length_append]
  omega
 ·rcases List.mem_append.1 hm with hm | hm
  ·exact q5 m hm
  ·exact f.2.2.2.2 m hm
theorem LS (h : Cf) (cut : Int) : ∀ (k n : Nat) (x : Oa), tY n x → WE (Lc h cut k n x).1 ∧ (Lc h cut k n x).2.length ≤ (n + k) * 300000 ∧ ∀ m ∈ (Lc h cut k n x).2, jp m
 | 0, n, x, q => ⟨q.1, q.2.2.2.1, q.2.2.2.2⟩
 | k + 1, n, x, q => by
   have hl : x.2.2.1.length ≤ (n + (k + 1)) * 300000 := Nat.le_trans q.2.2.2.1 (Nat.mul_le_mul_right _ (Nat.le_add_right _ _))
   rw [Lc]
   split
   ·split
    ·exact ⟨q.1, hl, q.2.2.2.2⟩
    ·split
     ·exact ⟨(Sj q).1, hl, q.2.2.2.2⟩
     ·have z := LS h cut k (n + 1) _ (N1 (h := h) q).1
      rw [show n + (k + 1) = n + 1 + k by omega]
      exact z
   ·exact ⟨q.1, hl, q.2.2.2.2⟩
def y8 : Ss := ⟨0, ⟨⟨⟨#[]⟩, ⟨#[]⟩⟩, [], []⟩, false, ⟨#[]⟩⟩
def Xe (h : Cf) (nm : ByteArray) (m : Ml) : Oa := (iz nm m, y8, [], [⟨#[50, 50, 48, 32]⟩ ++ h.name])
theorem LR (h : Cf) {nm : ByteArray} {m : Ml} (hn : nm.size ≤ 1000) (hm : N7 m) : tY 0 (Xe h nm m) := ⟨⟨by show (List.replicate _ _).length = _; rw [List.length_replicate]; rfl, hm, Int.le_refl _, by show (0 : Int) ≤ _; omega, fun q => absurd (show (0 : Int) = 3 from q) (by decide), hn⟩, GA y8, Nat.zero_le _, Nat.zero_le _, fun _ z => by cases z⟩
noncomputable def y9 (h : Cf) (nm : ByteArray) (m : Ml) (cut : Int) : Cl × List Ml := Lc h cut cut.toNat 0 (Xe h nm m)
noncomputable def Ez (h : Cf) (nm : ByteArray) (m : Ml) (cut : Int) : List Int × List Ml := ((y9 h nm m cut).1.outs.map (Ga 3), (y9 h nm m cut).2)
theorem LT {h : Cf} {nm : ByteArray} {m : Ml} {cut : Int} {c : Cl} {l : List Ml} (q : (c, l) = Lc h cut cut.toNat 0 (Xe h nm m)) : Ez h nm m cut = (c.outs.map (Ga 3), l) := by
 unfold Ez y9; rw [← q]
theorem wU {h : Cf} {x1 : Cl} {x2 : Ss} {x3 : List Ml} {x4 : List ByteArray} (e : (Ax x1 (x4.getD 0 default)).1.state = 5) : dG h (x1, x2, x3, x4) = ((Ax x1 (x4.getD 0 default)).1, (Bv h x2 (Ax x1 (x4.getD 0 default)).2).1, x3 ++ (Bv h x2 (Ax x1 (x4.getD 0 default)).2).2.2, (Bv h x2 (Ax x1 (x4.getD 0 default)).2).2.1) := by
 unfold dG; rw [mA (show (Mp (x1, x2, x3, x4)).1.state = 5 from e)]; rfl
theorem wS {h : Cf} {x1 : Cl} {x2 : Ss} {x3 : List Ml} {x4 : List ByteArray} (e : ¬ (Ax x1 (x4.getD 0 default)).1.state = 5) : dG h (x1, x2, x3, x4) = ((Ax x1 (x4.getD 0 default)).1, (Bv h x2 ((Ax x1 (x4.getD 0 default)).2 ++ ⟨#[13, 10]⟩)).1, x3 ++ (Bv h x2 ((Ax x1 (x4.getD 0 default)).2 ++ ⟨#[13, 10]⟩)).2.2, (Bv h x2 ((Ax x1 (x4.getD 0 default)).2 ++ ⟨#[13, 10]⟩)).2.1) := by
 unfold dG; rw [l9 (show ¬ (Mp (x1, x2, x3, x4)).1.state = 5 from e)]; rfl
theorem sK (nm : ByteArray) (m : Ml) : iz nm m = ⟨nm, m, 0, 0, List.replicate m.to.length 0⟩ := rfl
def Y7 : Ct := Ak (lc IH.ag (lc Aq (lc TF.ag (lc BF l0)))) (fun p => p.1.name.size ≤ 1000 ∧ p.2.1.size ≤ 1000 ∧ N7 p.2.2.1 ∧ 0 ≤ p.2.2.2.1 ∧ p.2.2.2.1 ≤ 1000) (fun p => .tup [.t (.sl 1 ((Ez p.1 p.2.1 p.2.2.1 p.2.2.2.1).1.map A6)), .t (.sl 4 ((Ez p.1 p.2.1 p.2.2.1 p.2.2.2.1).2.map C6))])
section
attribute [local go_sem] oP oQ oR oS VD Aa lm List.length_append List.map_append List.map_nil List.nil_append tn Int.toNat_zero Fj AS.opn AS.cls AS.nilb AS.renb AS.up Bool.not_false Bool.not_true List.set_set List.set_cons_zero List.set_cons_succ List.set_nil List.mem_singleton forall_eq
set_option maxHeartbeats 6400000 in
theorem gg {G : Gt} (hG : Ah G) (hh : G.e 197 = AA 1 oP ∧ G.e 198 = AA 1 oQ ∧ G.e 199 = AA 1 oR ∧ G.e 200 = AA 0 oS) : Gd G 185 (AA 1 Y7) := by
 refine Lo (dp := fun n => !(Nat.beq n 24 || Nat.beq n 78 || Nat.beq n 100003)) (fn := Tryz.f185) (n := 4) rfl rfl hG ?_
 rintro ⟨h, nm, m, cut, ⟨⟩⟩ hpre
 obtain ⟨hn, Qj, hm, hc0, hc1⟩ := hpre
 try dsimp only at hn Qj hm hc0 hc1 ⊢
 have hm1 := hm.1
 have hm2 := hm.2.1
 have e4 : (#[50, 50, 48, 32] : Array UInt8).size = 4 := rfl
 have e2 : (#[13, 10] : Array UInt8).size = 2 := rfl
 simp -implicitDefEqProofs only [Tryz.f185, go_sem, hh, seval]
 with_reducible repeat' (first | apply ai | intro _ | ((first | apply s1 | apply s3 | apply s4) <;> intro hb <;> simp -implicitDefEqProofs only [hb, go_sem, hh, seval] <;> try simp only [qz] at hb))
 all_goals (try simp only [maxLen, tn] at *)
 all_goals first | with_reducible rfl | omega | with_reducible assumption | decide | (simp only [List.mem_cons, List.mem_singleton, List.not_mem_nil] at *; omega) | skip
 refine Ag (Le.nilb 1011 3 1901 true 2 rfl rfl rfl) ?_
 simp -implicitDefEqProofs only [go_sem, hh, seval]
 refine Ag (Le.nilb 1011 4 1902 true 1 rfl rfl rfl) (AY ?_)
 simp -implicitDefEqProofs only [go_sem, hh, seval]
 with_reducible repeat' (first | apply ai | intro _ | ((first | apply s1 | apply s3 | apply s4) <;> intro hb <;> simp -implicitDefEqProofs only [hb, go_sem, hh, seval] <;> try simp only [qz] at hb))
 all_goals (try simp only [maxLen, tn] at *)
 all_goals first | with_reducible rfl | omega | with_reducible assumption | decide | (simp only [List.mem_cons, List.mem_singleton, List.not_mem_nil] at *; omega) | skip
 refine XV [1028, 1901, 1902] [(12, 902, false, 4)] (ι := {p : Nat × Nat × Oa // cut ≤ 2 * ((p.1 : Int) + p.2.1) ∧ p.1 ≤ 1000 ∧ tY p.1 p.2.2 ∧ Lc h cut p.2.1 p.1 p.2.2 = Lc h cut cut.toNat 0 (Xe h nm m)}) (fun p => ⟨[(3, .t (.v (.int .i64 cut))), (4, .pb 1004 0), (10, .pb 1010 0), (11, .pb 1011 0), (12, .h 902), (13, .t (.sl 1 (p.1.2.2.2.2.2.map AG))), (14, .t (.v (.int .i64 p.1.1)))], [(1004, some (.box ((Cu h).map .t))), (1010, some (.box ((Dw p.1.2.2.1).map .t))), (1011, some (.box ((Er p.1.2.2.2.1).map .t))), (902, some (.arr false 4 (p.1.2.2.2.2.1.map C6)))]⟩) (fun p => p.1.2.1) ⟨(0, cut.toNat, Xe h nm m), by dsimp only; omega, Nat.zero_le _, LR h Qj hm, rfl⟩ rfl ?_ ?_
 ·simp -implicitDefEqProofs only [go_sem, hh, seval]
  simp [sK, y8, Xe, A6, AG]
  try trace_state
 ·rintro ⟨⟨n, k, x⟩, hk, hk2, hx, hv⟩
  obtain ⟨x1, x2, x3, x4⟩ := x
  dsimp only at hk hk2 hx hv
  have hc := hx.1
  have hc3 : x1.outs.length ≤ 1000 := by have := hc.1; have := hc.2.1.1; dsimp only at *; omega
  have hl3 := hx.2.2.2.1
  have hbf := hx.2.2.1
  obtain ⟨hq1, hq2⟩ := Sj hx
  obtain ⟨hq1, hq2⟩ : WE (Ax x1 (x4.getD 0 default)).1 ∧ (Ax x1 (x4.getD 0 default)).2.size ≤ 200000 := ⟨hq1, hq2⟩
  have hq3 : (Ax x1 (x4.getD 0 default)).1.outs.length ≤ 1000 := by have := hq1.1; have := hq1.2.1.1; omega
  have hf5 : (Ax x1 (x4.getD 0 default)).1.state = 5 → (Bv h x2 (Ax x1 (x4.getD 0 default)).2).2.2.length ≤ 300000 := fun e => by
   have z := (N1 (h := h) hx).2; rw [mA (show (Mp (x1, x2, x3, x4)).1.state = 5 from e)] at z; exact z
  have hf6 : ¬ (Ax x1 (x4.getD 0 default)).1.state = 5 → (Bv h x2 ((Ax x1 (x4.getD 0 default)).2 ++ ⟨#[13, 10]⟩)).2.2.length ≤ 300000 := fun e => by
   have z := (N1 (h := h) hx).2; rw [l9 (show ¬ (Mp (x1, x2, x3, x4)).1.state = 5 from e)] at z; exact z
  dsimp only at hl3 hbf
  simp -implicitDefEqProofs only [go_sem, hh, seval]
  with_reducible repeat' (first | apply ai | intro _ | ((first | apply s1 | apply s3 | apply s4) <;> intro hb <;> simp -implicitDefEqProofs only [hb, go_sem, hh, seval] <;> try simp only [qz] at hb))
  all_goals (try simp only [maxLen, tn] at *)
  all_goals first
   | with_reducible rfl
   | omega
   | (show _ = true; rfl)
   | with_reducible assumption
   | exact hx.1.2.1
   | exact hx.1.2.2.1
   | exact hx.1.2.2.2.1
   | exact hx.1.2.2.2.2.1
   | exact Nat.le_trans hx.1.2.2.2.2.2 (by decide)
   | (rw [LT ((cZ (x := (x1, x2, x3, x4)) (.inl (by dsimp only; omega))).symm.trans hv)]; first | done | rfl)
   | (rw [LT ((cZ (x := (x1, x2, x3, x4)) (.inr (.inl (by with_reducible assumption)))).symm.trans hv)]; first | done | rfl)
   | (rw [LT ((cZ (x := (x1, x2, x3, x4)) (.inr (.inr (by with_reducible assumption)))).symm.trans hv)]; first | done | rfl)
   | (rw [LT ((mC (x := (x1, x2, x3, x4)) hk (by with_reducible assumption) (by with_reducible assumption) (by with_reducible assumption) (.inl (show (Ax x1 (x4.getD 0 default)).2 = ⟨#[]⟩ by with_reducible assumption))).symm.trans hv)]; first | done | rfl)
   | (rw [LT ((mC (x := (x1, x2, x3, x4)) hk (by with_reducible assumption) (by with_reducible assumption) (by with_reducible assumption) (.inr (by with_reducible assumption))).symm.trans hv)]; first | done | rfl)
   | exact hc.2.2.2.2.1 (by with_reducible assumption)
   | exact hx.2.1
   | exact hq3
   | (have := hf5 (by with_reducible assumption); omega)
   | (have := hf6 (by with_reducible assumption); omega)
   | (rw [ByteArray.size_append]; show _ + (_ + 2) ≤ _; omega)
   | (obtain ⟨k, rfl⟩ : ∃ j, k = j + 1 := ⟨k - 1, by omega⟩
      refine ⟨⟨(n + 1, k, dG h (x1, x2, x3, x4)), by dsimp only; omega, by dsimp only; omega, (N1 (h := h) hx).1, (wR (x := (x1, x2, x3, x4)) (by with_reducible assumption) (by with_reducible assumption) (by with_reducible assumption) (show ¬ (Ax x1 (x4.getD 0 default)).2 = ⟨#[]⟩ by with_reducible assumption) (by with_reducible assumption)).symm.trans hv⟩, by dsimp only; omega, ?_⟩
      simp -implicitDefEqProofs only [go_sem, hh, seval]
      first
       | (have ee := wU (h := h) (x1 := x1) (x2 := x2) (x3 := x3) (x4 := x4) (by with_reducible assumption); simp only [ee]; simp; done)
       | (have ee := wS (h := h) (x1 := x1) (x2 := x2) (x3 := x3) (x4 := x4) (by with_reducible assumption); simp only [ee]; simp; done)
       | skip)
   | skip
end
open Classical in
noncomputable def Gg (h : Hs) (nm : ByteArray) (m : Ml) (cut : Int) : List Int × List Ml := (if Bj h.spool then Ez h.conf nm m cut else Ez h.conf nm m 0)
theorem tI {h : Hs} {nm : ByteArray} {m : Ml} {cut : Int} (h0 : Bj h.spool) : Gg h nm m cut = Ez h.conf nm m cut := by unfold Gg; rw [if_pos h0]
theorem tJ {h : Hs} {nm : ByteArray} {m : Ml} {cut : Int} (h0 : ¬ (Bj h.spool)) : Gg h nm m cut = Ez h.conf nm m 0 := by unfold Gg; rw [if_neg h0]
def oI : Ct := Ak (lc D7.ag (lc Aq (lc TF.ag (lc BF l0)))) (fun p => p.1.conf.name.size ≤ 1000 ∧ p.2.1.size ≤ 1000 ∧ N7 p.2.2.1 ∧ 0 ≤ p.2.2.2.1 ∧ p.2.2.2.1 ≤ 1000) (fun p => .tup [.t (.sl 1 ((Gg p.1 p.2.1 p.2.2.1 p.2.2.2.1).1.map A6)), .t (.sl 4 ((Gg p.1 p.2.1 p.2.2.1 p.2.2.2.1).2.map C6))])
section
attribute [local go_sem] KX Y7 AS.opn AS.cls AS.nilb AS.renb AS.up Bool.not_false Bool.not_true List.set_set List.set_cons_zero List.set_cons_succ List.set_nil List.mem_singleton forall_eq tn List.map_nil List.nil_append
set_option maxHeartbeats 1600000 in
theorem gh {G : Gt} (hG : Ah G) (hh : G.e 121 = AA 0 KX ∧ G.e 185 = AA 1 Y7) : Gd G 186 (AA 1 oI) := by
 refine gr (fn := Tryz.f186) (n := 4) rfl rfl hG ?_
 rintro ⟨h, nm, m, cut, ⟨⟩⟩ hpre
 obtain ⟨hn, Qj, hm, hc0, hc1⟩ := hpre
 try dsimp only at hn Qj hm hc0 hc1 ⊢
 refine BL (Bj h.spool) (fun h0 => have h0' := Ae h0; have hx := And.intro (tI h0 : Gg h nm m cut = _) h0'; ?_) (fun h0 => have h0' := AN h0; have hx := And.intro (tJ h0 : Gg h nm m cut = _) h0'; ?_)
 all_goals
  try rw [hx.1]
  simp -implicitDefEqProofs only [Tryz.f186, hx, eq_self, decide_true, decide_false, Int.reduceEq, go_sem, hh, seval]
  with_reducible repeat' (first | apply ai | intro _ | ((first | apply s1 | apply s3 | apply s4) <;> intro hb <;> simp -implicitDefEqProofs only [hb, go_sem, hh, seval] <;> try simp only [qz] at hb))
  all_goals (try simp only [maxLen, tn, lm] at *)
  all_goals first | rfl | omega | decide | with_reducible assumption | (show AU _ = true; rfl) | exact Hv (by assumption) | contradiction | skip
end
theorem Mo {α β : Type} [Inhabited α] (f : α → β) {xs : List α} {i : Nat} (h : i < xs.length) : (xs.take (i + 1)).map f = (xs.take i).map f ++ [f (xs.getD i default)] := by
 rw [List.take_add_one, List.getElem?_eq_getElem h, List.map_append]; simp [h]
def Yx : Ct := Ak (lc jn.ag l0) (fun p => dO p.1) (fun p => .agg [.o false 7 ((p.1).hosts.map Ai), .t (.v (.int .i64 (p.1).now)), .t (.v (.int .i64 (p.1).marks)), .o true 3 ((p.1).given.map Av)])
section
attribute [local go_sem] uY lm List.length_append List.map_append Aa AS.opn AS.cls AS.nilb AS.renb AS.up Bool.not_false Bool.not_true List.set_set List.set_cons_zero List.set_cons_succ List.set_nil List.mem_singleton forall_eq tn List.map_nil List.nil_append
set_option maxHeartbeats 6400000 in
theorem fF {G : Gt} (hG : Ah G) (hh : G.e 67 = AA 0 uY) : Gd G 102 (AA 1 Yx) := by
 refine Lo (dp := fun n => !(Nat.beq n 100002 || Nat.beq n 100004 || Nat.beq n 29 || Nat.beq n 30)) (fn := Tryz.f102) (n := 1) rfl rfl hG ?_
 rintro ⟨w, ⟨⟩⟩ hpre
 have hw : dO w := hpre
 have hl1 := hw.1.1
 have hl2 := hw.2.1
 simp -implicitDefEqProofs only [Tryz.f102, go_sem, hh, seval]
 with_reducible repeat' (first | apply ai | intro _ | ((first | apply s1 | apply s3 | apply s4) <;> intro hb <;> simp -implicitDefEqProofs only [hb, go_sem, hh, seval] <;> try simp only [qz] at hb))
 all_goals (try simp only [maxLen, tn] at *)
 all_goals first | with_reducible rfl | omega | with_reducible assumption | (show _ = true; rfl) | skip
 refine Ag (Le.nilb 1003 0 1901 false 7 rfl rfl rfl) (AY ?_)
 simp -implicitDefEqProofs only [go_sem, hh, seval]
 with_reducible repeat' (first | apply ai | intro _ | ((first | apply s1 | apply s3 | apply s4) <;> intro hb <;> simp -implicitDefEqProofs only [hb, go_sem, hh, seval] <;> try simp only [qz] at hb))
 all_goals (try simp only [maxLen, tn] at *)
 all_goals first | with_reducible rfl | omega | with_reducible assumption | (show _ = true; rfl) | skip
 refine AE [] (ι := {i : Nat // i ≤ w.hosts.length}) (fun p => ⟨[(1, .pb 1001 0), (2, .pb 1002 0), (3, .pb 1003 0), (4, .t (.v (.int .i64 p.1)))], [(1001, some (.box ((I6 w).map .t))), (1002, some (.box [.nil, .t (.v (.int .i64 0)), .t (.v (.int .i64 0)), .nil])), (1003, some (.box [.h 1901, .t (.v (.int .i64 w.now)), .t (.v (.int .i64 w.marks)), .h 1012])), (1901, some (.arr false 7 ((w.hosts.take p.1).map Ai))), (1012, some (.arr true 3 (w.given.map Av)))]⟩) (fun p => w.hosts.length - p.1) ⟨0, Nat.zero_le _⟩ rfl ?_ ?_
 ·simp -implicitDefEqProofs only [go_sem, hh, seval]
  try simp
 ·rintro ⟨i, hi⟩
  dsimp only at hi ⊢
  have hlen : (w.hosts.take i).length = i := by rw [List.length_take]; omega
  by_cases hlt : (i : Int) < w.hosts.length
  ·have hz := hw.1.at (i := i) (by omega)
   simp -implicitDefEqProofs only [hlt, decide_true, go_sem, hh, seval]
   with_reducible repeat' (first | apply ai | intro _ | ((first | apply s1 | apply s3 | apply s4) <;> intro hb <;> simp -implicitDefEqProofs only [hb, go_sem, hh, seval] <;> try simp only [qz] at hb))
   all_goals (try simp only [maxLen, tn] at *)
   all_goals first | with_reducible rfl | omega | with_reducible assumption | (show _ = true; rfl) | skip
   refine Ag (Le.renb 1003 0 1030 1901 rfl rfl rfl rfl) (AY ?_)
   simp -implicitDefEqProofs only [go_sem, hh, seval]
   with_reducible repeat' (first | apply ai | intro _ | ((first | apply s1 | apply s3 | apply s4) <;> intro hb <;> simp -implicitDefEqProofs only [hb, go_sem, hh, seval] <;> try simp only [qz] at hb))
   all_goals first | with_reducible rfl | omega | skip
   refine ⟨⟨i + 1, by omega⟩, by dsimp only; omega, ?_⟩
   simp -implicitDefEqProofs only [go_sem, hh, seval]
   simp only [Mo Ai (show i < w.hosts.length by omega)]
   with_reducible repeat' (first | apply ai | intro _ | ((first | apply s1 | apply s3 | apply s4) <;> intro hb <;> simp -implicitDefEqProofs only [hb, go_sem, hh, seval] <;> try simp only [qz] at hb))
   all_goals first | rfl | (simp; done) | skip
  ·have htk : w.hosts.take i = w.hosts := List.take_of_length_le (by omega)
   simp -implicitDefEqProofs only [hlt, htk, decide_false, go_sem, hh, seval]
   with_reducible repeat' (first | apply ai | intro _ | ((first | apply s1 | apply s3 | apply s4) <;> intro hb <;> simp -implicitDefEqProofs only [hb, go_sem, hh, seval] <;> try simp only [qz] at hb))
   all_goals (try simp only [maxLen] at *)
   all_goals first | with_reducible rfl | omega | with_reducible assumption | (show _ = true; rfl) | decide | skip
end
theorem OZ {s : Sp} (h : Bg s) {n : Int} {a : Ad} : Cm s n a ↔ ∃ x ∈ s.items, x.id = n ∧ ∃ r ∈ x.to, r.addr = a :=
 ⟨HV, fun ⟨x, hx, e, r, hr, e2⟩ => by rw [← e, ← e2]; exact (GB h hx hr).1⟩
theorem dY {s : Sp} {m : Ml} {w n : Int} {a : Ad} (h : Bg (Hd s m w)) (q : Cm s n a) : Cm (Hd s m w) n a := by
 obtain ⟨x, hx, e⟩ := HV q
 exact (OZ h).2 ⟨x, List.mem_append_left _ hx, e⟩
theorem Kx {α : Type} [Inhabited α] {xs : List α} {i : Nat} {x y : α} (hx : x ∈ xs) (hi : i < xs.length) : x ∈ xs.set i y ∨ x = xs.getD i default := by
 obtain ⟨j, hj, rfl⟩ := List.getElem_of_mem hx
 by_cases e : i = j
 ·subst e; exact .inr (by simp [hj])
 ·exact .inl (by rw [List.mem_iff_getElem]; exact ⟨j, by simpa using hj, by rw [List.getElem_set_ne e]⟩)
theorem Hu {α : Type} {xs : List α} {i : Nat} {y : α} (hi : i < xs.length) : y ∈ xs.set i y := List.mem_set hi y
theorem dZ {s : Sp} {i k : Nat} {w n : Int} {a : Ad} (h : Bg (Pw s i k w)) (hi : i < s.items.length) (hk : k < (s.items.getD i default).to.length) (q : Cm s n a) : Cm (Pw s i k w) n a := by
 obtain ⟨x, hx, e, r, hr, e2⟩ := HV q
 refine (OZ h).2 ?_
 show ∃ y ∈ s.items.set i (R6 (s.items.getD i default) k w), y.id = n ∧ ∃ r ∈ y.to, r.addr = a
 rcases Kx (y := R6 (s.items.getD i default) k w) hx hi with hm | rfl
 ·exact ⟨x, hm, e, r, hr, e2⟩
 ·refine ⟨_, Hu hi, e, ?_⟩
  show ∃ r ∈ (s.items.getD i default).to.set k (W5 ((s.items.getD i default).to.getD k default) w), r.addr = a
  rcases Kx (y := W5 ((s.items.getD i default).to.getD k default) w) hr hk with hm | rfl
  ·exact ⟨r, hm, e2⟩
  ·exact ⟨_, Hu hk, e2⟩
theorem KF {s : Sp} (h : Bg s) {n : Int} {a : Ad} (q : Cm s n a) : BS a ∧ Dr (Az s n) ∧ (A4 s n).toNat < s.items.length ∧ (B8 (Az s n) a).toNat < (s.items.getD (A4 s n).toNat default).to.length := by
 have i1 := CY q.1
 have k1 := Hf q.2
 have hx : Dr (Az s n) := (h.1 _ (AF (xs := s.items) (j := (A4 s n).toNat) (by omega))).1
 have hr := (hx.1 _ (AF (xs := (Az s n).to) (j := (B8 (Az s n) a).toNat) (by omega))).1
 rw [GH q.2] at hr
 exact ⟨hr, hx, by omega, by show _ < (Az s n).to.length; omega⟩
theorem H1 {h : Hs} {n : Int} {a : Ad} {out w : Int} (hs : Bg h.spool) (q : Cm h.spool n a) (hw : 0 ≤ w ∧ w ≤ 9999) : Bg (Ch h (A4 h.spool n).toNat (B8 (Az h.spool n) a).toNat a out w).spool ∧
    ∀ n' a', Cm h.spool n' a' → ¬ (n = n' ∧ a = a') → Cm (Ch h (A4 h.spool n).toNat (B8 (Az h.spool n) a).toNat a out w).spool n' a' := by
 obtain ⟨ha, hx, hi, hk⟩ := KF hs q
 have hd := En hs hi hk
 have td : ∀ n' a', Cm h.spool n' a' → ¬ (n = n' ∧ a = a') → Cm (DM h.spool (A4 h.spool n).toNat (B8 (Az h.spool n) a).toNat) n' a' := fun n' a' q' ne => TZ hs q q' ne
 unfold Ch
 split
 ·exact ⟨hd, td⟩
 ·split
  ·rename_i hl
   have hl2 := MV hs hi hk hl.2 hw.1
   exact ⟨hl2, fun n' a' q' _ => dZ hl2 hi hk q'⟩
  ·by_cases z : Ab (h.spool.items.getD (A4 h.spool n).toNat default).frm ∨ ¬ Bj (DM h.spool (A4 h.spool n).toNat (B8 (Az h.spool n) a).toNat)
   ·rw [aM z]; exact ⟨hd, td⟩
   ·rw [aL z]
    have hrm : Bj (DM h.spool (A4 h.spool n).toNat (B8 (Az h.spool n) a).toNat) := Classical.byContradiction fun y => z (.inr y)
    have ha2 := IS hd (WU hx ha fun y => z (.inl y)) hw hrm
    exact ⟨ha2, fun n' a' q' ne => dY ha2 (td n' a' q' ne)⟩
theorem FH (h : Hs) (i k : Nat) (a : Ad) (out w : Int) : (Ch h i k a out w).conf = h.conf ∧ (Ch h i k a out w).boxes = h.boxes ∧ ((Ch h i k a out w).lost = h.lost ∨ (Ch h i k a out w).lost = h.lost ++ [⟨B9 (h.spool.items.getD i default).body, a⟩]) := by
 unfold Ch HC
 repeat' split
 all_goals first | exact ⟨rfl, rfl, .inl rfl⟩ | exact ⟨rfl, rfl, .inr rfl⟩
theorem bi {h : Hs} {n : Int} {a : Ad} {out w : Int} (q : DR h) (t : Cm h.spool n a) (hw : 0 ≤ w ∧ w ≤ 9999) : DR (Ch h (A4 h.spool n).toNat (B8 (Az h.spool n) a).toNat a out w) := by
 obtain ⟨r1, r2, _⟩ := FH h (A4 h.spool n).toNat (B8 (Az h.spool n) a).toNat a out w
 refine ⟨fun j hj => ?_, by rw [r1]; exact q.2.1, (H1 q.2.2 t hw).1⟩
 have := q.1 j (by rw [r2] at hj; exact hj)
 unfold Xs at this ⊢
 rw [r1, r2]
 exact this
theorem jX {h : Hs} {m : Ml} {w : Int} (q : DR h) (hm : B6 m) (hl : m.body.length < 12) (hw : 0 ≤ w ∧ w ≤ 9999) (hr : Bj h.spool) : DR (Lw h m w) := ⟨q.1, q.2.1, IS q.2.2 (aY q.2.1.2.2.1 hm hl) hw hr⟩
def FU (h : Hs) : Prop := (∀ b ∈ h.boxes, mf b ∧ b.addr.domain ∈ h.conf.own) ∧ KE h.boxes ∧ HQ h.conf ∧ Bg h.spool
theorem Db {h : Hs} : DR h ↔ FU h := by
 constructor
 ·intro q
  refine ⟨fun b hb => ?_, Ok fun j h0 hj => (q.1 j hj).2.1 h0, q.2.1, q.2.2⟩
  obtain ⟨j, hj, rfl⟩ := List.getElem_of_mem hb
  have := q.1 j hj
  unfold Xs at this
  have e : h.boxes.getD j default = h.boxes[j] := by simp [hj]
  rw [e] at this
  exact ⟨this.1, this.2.2⟩
 ·intro q
  refine ⟨fun j hj => ⟨(q.1 _ (AF hj)).1, fun h0 => ?_, (q.1 _ (AF hj)).2⟩, q.2.2.1, q.2.2.2⟩
  have := List.pairwise_iff_getElem.1 q.2.1 (j - 1) j (by omega) hj (by omega)
  rw [← IW]
  simpa [hj, show j - 1 < h.boxes.length by omega] using this
theorem WV {bs : List Bx} {a : Ad} {g : Gm} {b : Bx} (h : b ∈ Ek bs a g) : b ∈ bs ∨ (∃ b0 ∈ bs, b = ⟨b0.addr, b0.mails ++ [g]⟩) ∨ b = ⟨a, [g]⟩ := by
 cases hf : Gb bs a
 ·rw [GJ hf] at h
  rcases List.mem_append.1 h with h | h
  ·exact .inl (List.mem_of_mem_take h)
  ·rcases List.mem_cons.1 h with h | h
   ·exact .inr (.inr h)
   ·exact .inl (List.mem_of_mem_drop h)
 ·rw [Hi hf] at h
  rcases List.mem_or_eq_of_mem_set h with h | h
  ·exact .inl h
  ·exact .inr (.inl ⟨_, AF (NX hf), h⟩)
def Eh (N : Nat) (h : Hs) : Prop := h.boxes.length ≤ N ∧ (∀ b ∈ h.boxes, b.mails.length ≤ N) ∧ h.lost.length ≤ N ∧ ∀ l ∈ h.lost, WI l
theorem CC {N M : Nat} {h : Hs} (q : Eh N h) (l : N ≤ M) : Eh M h := ⟨Nat.le_trans q.1 l, fun b hb => Nat.le_trans (q.2.1 b hb) l, Nat.le_trans q.2.2.1 l, q.2.2.2⟩
theorem Su {c : Cf} (h : HQ c) : HT c := by
 obtain ⟨h1, h2, h3, h4, h5⟩ := h
 have d : ∀ {s : ByteArray}, C3 s → Bb s := fun {s} q => by have := (CM q).2; show s.size ≤ 1048576; omega
 exact ⟨d h3, ⟨by omega, fun s hs => d (h1 s hs)⟩, ⟨by omega, fun w hw => ⟨d (h2 w hw).1, d (h2 w hw).2⟩⟩⟩
theorem Dq {N : Nat} {h : Hs} (q : FU h) (n : Eh N h) (hN : N ≤ 1048576) : E0 h := by
 obtain ⟨n1, n2, n3, n4⟩ := n
 refine ⟨Su q.2.2.1, HU q.2.2.2, ⟨by omega, fun b hb => ?_⟩, ⟨by omega, n4⟩⟩
 have hbo := (q.1 b hb).1
 have := n2 b hb
 exact ⟨CW (.inl hbo.2), ⟨by omega, fun g hg => ⟨CW (hbo.1 g hg).1, F7 (hbo.1 g hg).2⟩⟩⟩
theorem ic {g : Hs} {x : Im} {a : Ad} {c : Cf} {R : List (Int × Ad)} (q : FU g) (k : Kp c g ((x.id, a) :: R)) (hx : Dr x) (ha : BS a) (hd : a.domain ∈ g.conf.own) : FU (Hr g x a) := by
 have hk := k.step
 refine ⟨fun b hb => ?_, KV q.2.1, q.2.2.1, hk.sp⟩
 have hg : (BS x.frm ∨ Ab x.frm) ∧ CZ x.body := ⟨hx.2.2.2.1, hx.2.2.2.2.2⟩
 rcases WV hb with h | ⟨b0, h0, rfl⟩ | rfl
 ·exact q.1 b h
 ·refine ⟨⟨fun y hy => ?_, (q.1 b0 h0).1.2⟩, (q.1 b0 h0).2⟩
  rcases List.mem_append.1 hy with hy | hy
  ·exact (q.1 b0 h0).1.1 y hy
  ·rw [List.mem_singleton] at hy; subst hy; exact hg
 ·exact ⟨⟨fun y hy => by rw [List.mem_singleton] at hy; subst hy; exact hg, ha⟩, hd⟩
theorem ie {N : Nat} {g : Hs} {x : Im} {a : Ad} (n : Eh N g) : Eh (N + 1) (Hr g x a) := ⟨Nat.le_trans (MF _ _ _) (Nat.succ_le_succ n.1), I5 n.2.1, Nat.le_succ_of_le n.2.2.1, n.2.2.2⟩
theorem U5 {x : Im} {c : Cf} (hx : Dr x) : ∀ (ads : List Ad) {g : Hs} {N : Nat} {R : List (Int × Ad)}, FU g → Eh N g → Kp c g ((ads.map fun a => (x.id, a)) ++ R) → (∀ a ∈ ads, BS a ∧ a.domain ∈ c.own) → FU (Ks x ads g) ∧ Eh (N + ads.length) (Ks x ads g) ∧ Kp c (Ks x ads g) R
 | [], g, N, R, q, n, k, _ => ⟨q, n, k⟩
 | a :: r, g, N, R, q, n, k, h => by
   have ha := h a (List.mem_cons_self ..)
   have z := U5 hx r (ic q k hx ha.1 (by rw [k.cf]; exact ha.2)) (ie (x := x) (a := a) n) (k.step (x := x) (a := a)) fun b hb => h b (List.mem_cons_of_mem _ hb)
   refine ⟨z.1, ?_, z.2.2⟩
   have e : N + (a :: r).length = N + 1 + r.length := by rw [List.length_cons]; omega
   rw [e]; exact z.2.1
theorem U1 {c : Cf} {w : Int} : ∀ (xs : List Im) {g : Hs} {N : Nat}, FU g → Eh N g → Kp c g (Gz c w xs) → (∀ x ∈ xs, Dr x) → FU (EL c w xs g) ∧ Eh (N + xs.length * 4) (EL c w xs g)
 | [], g, N, q, n, _, _ => ⟨q, by show Eh (N + 0 * 4) g; rw [Nat.zero_mul]; exact n⟩
 | x :: t, g, N, q, n, k, h => by
   have hx := h x (List.mem_cons_self ..)
   have z := U5 (c := c) hx (A3 c ⟨#[]⟩ w x.to) (R := Gz c w t) q n k fun a ha => by
    obtain ⟨r, hr, e, nr⟩ := Ew c ⟨#[]⟩ w x.to a ha
    rw [← e]
    refine ⟨(hx.1 r hr).1, ?_⟩
    rcases nr.2 with y | y
    ·exact y.1
    ·exact absurd rfl y.2.1
   have z2 := U1 t z.1 z.2.1 z.2.2 fun y hy => h y (List.mem_cons_of_mem _ hy)
   have hl := Fx c ⟨#[]⟩ w x.to
   have h4 := hx.2.2.2.2.1.2
   exact ⟨z2.1, CC z2.2 (by rw [List.length_cons]; omega)⟩
theorem sC {h : Hs} {w : Int} {N : Nat} (q : FU h) (n : Eh N h) (hN : N ≤ 1048576) : FU (EL h.conf w h.spool.items h) ∧ Eh (N + 40) (EL h.conf w h.spool.items h) := by
 have k := OS (w := w) (Db.2 q) (Dq q n hN)
 have z := U1 h.spool.items q n k fun x hx => (q.2.2.2.1 x hx).1
 have hl := q.2.2.2.2.2.2
 exact ⟨z.1, CC z.2 (by omega)⟩
theorem bB {b : List ByteArray} (h : CZ b) : Bb (B9 b) := by
 rcases Ft b with e | e
 ·rw [e]; show (⟨#[]⟩ : ByteArray).size ≤ 1048576; decide
 ·exact (F7 h).2 _ e
theorem J1 {h : Hs} {n : Int} {a : Ad} {out w : Int} {N : Nat} (q : FU h) (hn : Eh N h) (t : Cm h.spool n a) (hw : 0 ≤ w ∧ w ≤ 9999) : FU (Ch h (A4 h.spool n).toNat (B8 (Az h.spool n) a).toNat a out w) ∧ Eh (N + 1) (Ch h (A4 h.spool n).toNat (B8 (Az h.spool n) a).toNat a out w) := by
 refine ⟨Db.1 (bi (Db.2 q) t hw), ?_⟩
 obtain ⟨r1, r2, r3⟩ := FH h (A4 h.spool n).toNat (B8 (Az h.spool n) a).toNat a out w
 obtain ⟨t1, t2, _⟩ := KF q.2.2.2 t
 unfold Eh
 rw [r2]
 refine ⟨Nat.le_succ_of_le hn.1, fun b hb => Nat.le_succ_of_le (hn.2.1 b hb), ?_⟩
 rcases r3 with e | e
 ·rw [e]; exact ⟨Nat.le_succ_of_le hn.2.2.1, hn.2.2.2⟩
 ·rw [e]
  refine ⟨by rw [List.length_append]; exact Nat.succ_le_succ hn.2.2.1, fun l hl => ?_⟩
  rcases List.mem_append.1 hl with hl | hl
  ·exact hn.2.2.2 l hl
  ·rw [List.mem_singleton] at hl; subst hl
   exact ⟨bB t2.2.2.2.2.2, CW (.inl t1)⟩
theorem Si {h : Hs} {m : Ml} {w : Int} {N : Nat} (q : FU h) (n : Eh N h) (hm : B6 m) (hl : m.body.length < 12) (hw : 0 ≤ w ∧ w ≤ 9999) (hr : Bj h.spool) : FU (Lw h m w) ∧ Eh N (Lw h m w) := ⟨Db.1 (jX (Db.2 q) hm hl hw hr), n⟩
def oJ : Ct := Ak (lc jn.ag (lc Aq l0)) (fun p => True) (fun p => .t (.v (.int .i64 (BI (fun h : Hs => h.conf.name = p.2.1) 0 p.1.hosts))))
section
attribute [local go_sem] lm
theorem gj {G : Gt} (hG : Ah G) : Gd G 188 (AA 0 oJ) := by
 refine gr (fn := Tryz.f188) (n := 2) rfl rfl hG ?_
 rintro ⟨w, a, ⟨⟩⟩ hpre
 simp -implicitDefEqProofs only [Tryz.f188, go_sem, seval] at hpre ⊢
 refine AE [] (ι := {i : Nat // i ≤ w.hosts.length ∧ BI (fun h : Hs => h.conf.name = a) 0 w.hosts = BI (fun h : Hs => h.conf.name = a) i (w.hosts.drop i)}) (fun p => ⟨[(1, .t (.v (.string a))), (2, .pb 1002 0), (5, .t (.v (.int .i64 p.1)))], [(1002, some (.box ((I6 w).map .t)))]⟩) (fun p => w.hosts.length - p.1) ⟨0, by simp, rfl⟩ rfl ?_ ?_
 ·simp -implicitDefEqProofs only [go_sem, seval]
  try simp
 ·rintro ⟨i, hi, hix⟩
  by_cases hlt : (i : Int) < w.hosts.length
  ·simp -implicitDefEqProofs only [hlt, decide_true, tn, go_sem, seval]
   with_reducible repeat' (first | apply ai | intro _ | ((first | apply s1 | apply s3 | apply s4) <;> intro hb <;> simp -implicitDefEqProofs only [hb, go_sem, seval] <;> try simp only [qz] at hb))
   all_goals (try simp only [maxLen, tn] at *)
   all_goals first | rfl | omega | skip
   ·rw [hix, DH (p := fun h : Hs => h.conf.name = a) (by omega) hb]
   ·refine ⟨⟨i + 1, by omega, by rw [hix, EV (p := fun h : Hs => h.conf.name = a) (by omega) hb]⟩, by dsimp only; omega, ?_⟩
    simp -implicitDefEqProofs only [go_sem, seval]
    try simp
  ·simp -implicitDefEqProofs only [hlt, decide_false, go_sem, seval]
   with_reducible repeat' (first | apply ai | intro _ | ((first | apply s1 | apply s3 | apply s4) <;> intro hb <;> simp -implicitDefEqProofs only [hb, go_sem, seval] <;> try simp only [qz] at hb))
   all_goals first | rfl | omega | skip
   rw [hix, DG (by omega)]
end
def HN (a : Wd) : AV := .agg [.o false 7 (a.hosts.map Ai), .t (.v (.int .i64 a.now)), .t (.v (.int .i64 a.marks)), .o true 3 (a.given.map Av)]
def l7 : AV → Option Wd
 | .agg [x0, .t (.v (.int .i64 x1)), .t (.v (.int .i64 x2)), x3] => Gc x1 x2 (D7.owD false 7 x0) (II.owD true 3 x3)
 | _ => none
def me : AD Wd where
 enc := HN
 dec := l7
 ed := fun a => by
  show Gc a.now a.marks (D7.owD false 7 ((D7.aow false 7).enc a.hosts)) (II.owD true 3 ((II.aow true 3).enc a.given)) = _
  rw [show D7.owD false 7 ((D7.aow false 7).enc a.hosts) = some a.hosts from (D7.aow false 7).ed _, show II.owD true 3 ((II.aow true 3).enc a.given) = some a.given from (II.aow true 3).ed _]
  rfl
 de := fun x m h => by
  unfold l7 at h
  split at h
  ·unfold Gc at h
   split at h
   ·rename_i e0 e1
    cases h
    have q0 := (D7.aow false 7).de _ _ e0
    subst q0
    have q1 := (II.aow true 3).de _ _ e1
    subst q1
    rfl
   ·cases h
  ·cases h
theorem F6 (a : Wd) : me.enc a = .agg [.o false 7 (a.hosts.map Ai), .t (.v (.int .i64 a.now)), .t (.v (.int .i64 a.marks)), .o true 3 (a.given.map Av)] := rfl
theorem F5 {x0 : List (List T)} {x1 : Int} {x2 : Int} {x3 : List (List T)} : me.dec (.agg [.o false 7 x0, .t (.v (.int .i64 x1)), .t (.v (.int .i64 x2)), .o true 3 x3]) = Gc x1 x2 (D7.decL x0) (II.decL x3) := rfl
def HO (N : Nat) (w : Wd) : Prop := (∀ h ∈ w.hosts, FU h ∧ Eh N h) ∧ (1 ≤ w.hosts.length ∧ w.hosts.length ≤ 4) ∧ (0 ≤ w.now ∧ w.now ≤ 9999) ∧ (0 ≤ w.marks ∧ w.marks ≤ 60) ∧ w.given.length ≤ N ∧ ∀ l ∈ w.given, WI l
def yf (w : Wd) (c : Cf) (ls : Bool) (r : Rc) : Prop := r.next ≤ w.now ∧ ¬ r.addr.domain ∈ c.own ∧ (ls = true ∨ BI (fun h : Hs => h.conf.name = JO c r.addr.domain) 0 w.hosts < 0)
noncomputable def Ip (h : Hs) (n : Int) (a : Ad) (out w : Int) : Hs := Ch h (A4 h.spool n).toNat (B8 (Az h.spool n) a).toNat a out w
open Classical in
noncomputable def Uu (w : Wd) (c : Cf) (ls : Bool) (n : Int) : List Rc → Hs × Bool → Hs × Bool
 | [], x => x
 | r :: t, x => if yf w c ls r then Uu w c ls n t (Ip x.1 n r.addr 3 w.now, true) else Uu w c ls n t x
theorem vM {w : Wd} {c : Cf} {ls : Bool} {n : Int} {rs : List Rc} {i : Nat} {x : Hs × Bool} (h : i < rs.length) (q : yf w c ls (rs.getD i default)) : Uu w c ls n (rs.drop i) x = Uu w c ls n (rs.drop (i + 1)) (Ip x.1 n (rs.getD i default).addr 3 w.now, true) := by rw [AZ h, Uu, if_pos q]
theorem vL {w : Wd} {c : Cf} {ls : Bool} {n : Int} {rs : List Rc} {i : Nat} {x : Hs × Bool} (h : i < rs.length) (q : ¬ yf w c ls (rs.getD i default)) : Uu w c ls n (rs.drop i) x = Uu w c ls n (rs.drop (i + 1)) x := by rw [AZ h, Uu, if_neg q]
theorem lD {w : Wd} {c : Cf} {ls : Bool} {n : Int} {rs : List Rc} {i : Nat} {x : Hs × Bool} (h : rs.length ≤ i) : Uu w c ls n (rs.drop i) x = x := by rw [List.drop_of_length_le h]; rfl
noncomputable abbrev Ap (w : Wd) (k : Int) : Hs := w.hosts.getD k.toNat default
noncomputable abbrev J0 (h : Hs) (n : Int) : Im := h.spool.items.getD (A4 h.spool n).toNat default
noncomputable def aO (w : Wd) (e : Ev) : Hs × Bool := Uu w (Ap w e.host).conf e.lose e.id (J0 (Ap w e.host) e.id).to (Ap w e.host, false)
def XR (w : Wd) (k : Int) (h : Hs) : Wd := ⟨w.hosts.set k.toNat h, w.now, w.marks, w.given⟩
open Classical in
noncomputable def Kk (w : Wd) (e : Ev) : Wd × Bool := if 0 ≤ e.host ∧ e.host ≤ (w.hosts.length : Int) - 1 then (if A4 (Ap w e.host).spool e.id < 0 then (w, false) else (XR w e.host (aO w e).1, (aO w e).2)) else (w, false)
theorem qK {w : Wd} {e : Ev} (h : ¬ (0 ≤ e.host ∧ e.host ≤ (w.hosts.length : Int) - 1)) : Kk w e = (w, false) := if_neg h
theorem qL {w : Wd} {e : Ev} (h : 0 ≤ e.host ∧ e.host ≤ (w.hosts.length : Int) - 1) (h2 : A4 (Ap w e.host).spool e.id < 0) : Kk w e = (w, false) := by unfold Kk; rw [if_pos h, if_pos h2]
theorem qM {w : Wd} {e : Ev} (h : 0 ≤ e.host ∧ e.host ≤ (w.hosts.length : Int) - 1) (h2 : ¬ A4 (Ap w e.host).spool e.id < 0) : Kk w e = (XR w e.host (aO w e).1, (aO w e).2) := by unfold Kk; rw [if_pos h, if_neg h2]
theorem ve {xs : List Rc} {i j : Nat} (h : (xs.map Rc.addr).Nodup) (hi : i < j) (hj : j < xs.length) : ¬ (xs.getD i default).addr = (xs.getD j default).addr := by
 have z := List.pairwise_iff_getElem.1 h i j (by rw [lm]; omega) (by rw [lm]; omega) hi
 simpa [hj, show i < xs.length by omega] using z
def eE : Mt := GN (lc me (lc OL.ag l0)) (fun p => HO 1000000 p.1) (fun p => ([.any, OL.ag.enc p.2.1], .tup [HN (Kk p.1 p.2.1).1, .t (.v (.bool (Kk p.1 p.2.1).2))]))
section
attribute [local go_sem] Ju kF eI RF oJ RJ CU F6 F5 HN.eq_1 Gc.eq_1 Aa Bd LK lm AS.opn AS.cls AS.nilb AS.renb AS.up Bool.not_false Bool.not_true List.set_set List.set_cons_zero List.set_cons_succ List.set_nil List.mem_singleton forall_eq tn List.map_nil List.nil_append
set_option maxHeartbeats 6400000 in
theorem gQ {G : Gt} (hG : Ah G) (hh : G.e 69 = AA 0 Ju ∧ G.e 38 = AA 0 kF ∧ G.e 85 = AA 0 eI ∧ G.e 112 = AA 0 RF ∧ G.e 188 = AA 0 oJ ∧ G.e 187 = AA 1 RJ) : Gd G 170 (AM eE) := by
 refine If (dp := fun _ => true) (fn := Tryz.f170) (n := 2) rfl rfl hG ?_
 rintro ⟨w, e, ⟨⟩⟩ hpre
 have hw : HO 1000000 w := hpre
 try dsimp only
 have hl := hw.2.1
 by_cases h0 : 0 ≤ e.host ∧ e.host ≤ (w.hosts.length : Int) - 1
 ·have h0' := Ae h0
  by_cases h1 : A4 (Ap w e.host).spool e.id < 0
  ·skip
   rw [qL h0 h1]
   simp -implicitDefEqProofs only [Tryz.f170, h0', h1, eq_self, decide_true, decide_false, go_sem, hh, seval]
   with_reducible repeat' (first | apply ai | intro _ | ((first | apply s1 | apply s3 | apply s4) <;> intro hb <;> simp -implicitDefEqProofs only [hb, go_sem, hh, seval] <;> try simp only [qz] at hb))
   all_goals (try simp only [maxLen, tn, AX, AW] at *)
   all_goals first | with_reducible rfl | omega | with_reducible assumption | (show _ = true; rfl) | contradiction | decide | skip
  ·rw [qM h0 h1]
   have hH := hw.1 _ (AF (xs := w.hosts) (j := e.host.toNat) (by omega))
   have i1 : 0 ≤ BI (fun x : Im => x.id = e.id) 0 (Ap w e.host).spool.items ∧ BI (fun x : Im => x.id = e.id) 0 (Ap w e.host).spool.items < (Ap w e.host).spool.items.length := by have := CY h1; unfold A4 at this h1; omega
   have hil : (A4 (Ap w e.host).spool e.id).toNat < (Ap w e.host).spool.items.length := by have := CY h1; omega
   have hx := (hH.1.2.2.2.1 _ (AF (xs := (Ap w e.host).spool.items) (j := (A4 (Ap w e.host).spool e.id).toNat) hil)).1
   have hx4 : (J0 (Ap w e.host) e.id).to.length ≤ 4 := hx.2.2.2.2.1.2
   have hw2 := hw.2.2.1
   simp -implicitDefEqProofs only [Tryz.f170, h0', h1, eq_self, decide_true, decide_false, go_sem, hh, seval]
   with_reducible repeat' (first | apply ai | intro _ | ((first | apply s1 | apply s3 | apply s4) <;> intro hb <;> simp -implicitDefEqProofs only [hb, go_sem, hh, seval] <;> try simp only [qz] at hb))
   all_goals (try simp only [maxLen, tn, AX, AW] at *)
   all_goals first | with_reducible rfl | omega | exact i1.2 | with_reducible assumption | (show _ = true; rfl) | contradiction | skip
   refine AE [] (ι := {p : Nat × Hs × Bool // p.1 ≤ (J0 (Ap w e.host) e.id).to.length ∧ (FU p.2.1 ∧ Eh (1000000 + p.1) p.2.1 ∧ p.2.1.conf = (Ap w e.host).conf) ∧ (∀ j, p.1 ≤ j → j < (J0 (Ap w e.host) e.id).to.length → Cm p.2.1.spool e.id ((J0 (Ap w e.host) e.id).to.getD j default).addr) ∧ Uu w (Ap w e.host).conf e.lose e.id ((J0 (Ap w e.host) e.id).to.drop p.1) p.2 = aO w e}) (fun p => ⟨[(2, .pb 1002 0), (3, .pb 1003 0), (4, .pb 1004 0), (6, .pb 1006 0), (8, .t (.sl 4 ((J0 (Ap w e.host) e.id).to.map BN))), (9, .t (.v (.bool p.1.2.2))), (10, .t (.v (.int .i64 p.1.1)))], [(1002, some (.box [.h 1900, .t (.v (.int .i64 w.now)), .t (.v (.int .i64 w.marks)), .h 2900])), (1003, some (.box ((C5 e).map .t))), (1004, some (.box [.nil, .t (.v (.int .i64 0)), .t (.v (.int .i64 0)), .nil])), (1006, some (.box ((Ai p.1.2.1).map .t))), (1900, some (.arr false 7 (w.hosts.map Ai))), (2900, some (.arr true 3 (w.given.map Av)))]⟩) (fun p => (J0 (Ap w e.host) e.id).to.length - p.1.1) ⟨(0, (Ap w e.host), false), Nat.zero_le _, ⟨hH.1, hH.2, rfl⟩, fun j _ hj => ?_, rfl⟩ rfl ?_ ?_
   ·have e1 := GG h1
    have z := (GB hH.1.2.2.2 (x := J0 (Ap w e.host) e.id) (AF hil) (AF hj)).1
    have e2 : (J0 (Ap w e.host) e.id).id = e.id := e1
    rw [e2] at z
    exact z
   ·simp -implicitDefEqProofs only [go_sem, hh, seval]
    first | (simp; done) | ((repeat' (first | with_reducible apply And.intro | rfl)); done)
   ·rintro ⟨⟨k, x, dn⟩, hk, ⟨hxK, hxN, hxc⟩, htd, hv⟩
    dsimp only at hk hxK hxN hxc htd hv
    have hok := Dq hxK hxN (by omega)
    have hsp := hxK.2.2.2
    have hxe : (⟨(Ap w e.host).conf, x.spool, x.boxes, x.lost⟩ : Hs) = x := by rw [← hxc]
    simp -implicitDefEqProofs only [hxc, go_sem, hh, seval]
    with_reducible repeat' (first | apply ai | intro _ | ((first | apply s1 | apply s3 | apply s4) <;> intro hb <;> simp -implicitDefEqProofs only [hb, go_sem, hh, seval] <;> try simp only [qz] at hb))
    all_goals (try simp only [maxLen, tn, AX, AW] at *)
    all_goals first
     | with_reducible rfl
     | omega
     | with_reducible assumption
     | (show _ = true; rfl)
     | exact hok.2.1
     | exact (htd k (Nat.le_refl _) (by omega)).1
     | exact (htd k (Nat.le_refl _) (by omega)).2
     | exact .inr ⟨hxc ▸ hok, hw2⟩
     | (rw [lD (by omega)] at hv; rw [← hv, ← hxc]; first | done | rfl)
     | (rw [lD (by omega)] at hv; rw [← hv]; first | done | rfl)
     | (show _ = T.v _; rfl)
     | (show _ = List.map Av _; rfl)
     | (show List.Nodup _; decide)
     | (have hkl : k < (J0 (Ap w e.host) e.id).to.length := by omega
        have ht := htd k (Nat.le_refl _) hkl
        have z := J1 (out := 3) hxK hxN ht hw2
        refine ⟨⟨(k + 1, Ip x e.id ((J0 (Ap w e.host) e.id).to.getD k default).addr 3 w.now, true), by dsimp only; omega, ⟨z.1, z.2, (FH _ _ _ _ _ _).1.trans hxc⟩, fun j hj hj2 => (H1 hsp ht hw2).2 _ _ (htd j (by dsimp only at hj; omega) hj2) (fun y => ve hx.2.1 (by dsimp only at hj; omega) hj2 y.2), (vM hkl ⟨by first | omega | with_reducible assumption, by with_reducible assumption, by first | exact .inl (by with_reducible assumption) | exact .inr (by with_reducible assumption)⟩).symm.trans hv⟩, by dsimp only; omega, ?_⟩
        simp -implicitDefEqProofs only [go_sem, hh, seval]
        first | (simp only [hxe, Ip]; simp; done) | skip)
     | (have hkl : k < (J0 (Ap w e.host) e.id).to.length := by omega
        refine ⟨⟨(k + 1, x, dn), by dsimp only; omega, ⟨hxK, CC hxN (by omega), hxc⟩, fun j hj hj2 => htd j (by dsimp only at hj; omega) hj2, (vL hkl (fun q => by first | exact absurd q.1 (by with_reducible assumption) | (have := q.1; omega) | exact q.2.1 (by with_reducible assumption) | (rcases q.2.2 with y | y <;> first | (simp_all; done) | omega))).symm.trans hv⟩, by dsimp only; omega, ?_⟩
        simp -implicitDefEqProofs only [go_sem, hh, seval]
        first | (simp; done) | (simp [hxe, hxc]; done) | skip)
     | skip
 ·have h0' := AN h0
  rw [qK h0]
  simp -implicitDefEqProofs only [Tryz.f170, h0', eq_self, decide_true, decide_false, go_sem, hh, seval]
  with_reducible repeat' (first | apply ai | intro _ | ((first | apply s1 | apply s3 | apply s4) <;> intro hb <;> simp -implicitDefEqProofs only [hb, go_sem, hh, seval] <;> try simp only [qz] at hb))
  all_goals (try simp only [maxLen, tn, AX, AW] at *)
  all_goals first | with_reducible rfl | omega | with_reducible assumption | (show _ = true; rfl) | contradiction | decide | skip
end
instance xL (c : Cf) : Decidable (HQ c) := by unfold HQ; infer_instance
theorem UT (k : Int) : (∀ c ∈ FB k, HQ c) ∧ ((FB k).map Cf.name).Nodup := by
 unfold FB
 split
 ·exact ⟨by decide +kernel, by decide +kernel⟩
 ·split
  ·exact ⟨by decide +kernel, by decide +kernel⟩
  ·split
   ·exact ⟨by decide +kernel, by decide +kernel⟩
   ·exact ⟨by decide +kernel, by decide +kernel⟩
theorem VN {c : Cf} (h : HQ c) : FU (EM c) ∧ Eh 0 (EM c) := ⟨⟨fun _ q => (by cases q), List.Pairwise.nil, h, YA⟩, Nat.le_refl _, fun _ q => (by cases q), Nat.le_refl _, fun _ q => by cases q⟩
theorem eJ (k : Int) : mz (FP (FB k)) := by
 obtain ⟨h1, h2⟩ := UT k
 obtain ⟨_, h3, h4⟩ := NH k
 have hl : (FP (FB k)).hosts.length = (FB k).length := lm _
 refine ⟨fun h hh => ?_, ?_, fun _ q => (by cases q), ⟨by omega, by omega⟩, ⟨Int.le_refl _, by show (0 : Int) ≤ 9999; decide⟩, ⟨Int.le_refl _, by show (0 : Int) ≤ 60; decide⟩⟩
 ·obtain ⟨c, hc, rfl⟩ := List.mem_map.1 hh
  exact Db.2 (VN (h1 c hc)).1
 ·show (((FB k).map EM).map Qj).Nodup
  rw [List.map_map]
  exact h2
def Qt (s : Ss) : Prop := (∀ a ∈ s.mail.to, BS a) ∧ s.mail.to.Nodup ∧ (BS s.mail.frm ∨ Ab s.mail.frm) ∧ s.mail.to.length ≤ 4 ∧ (s.state = 3 ∨ s.state = 4 → 1 ≤ s.mail.to.length)
theorem L3 {s : Ss} (h : ¬ (s.state = 3 ∨ s.state = 4)) : Qt (Fi s) := ⟨fun _ q => (by cases q), List.nodup_nil, .inr ⟨rfl, rfl⟩, Nat.zero_le _, fun q => absurd q h⟩
theorem qH {s : Ss} (t : ByteArray) (h : Qt s) : Qt (Es s t).1 := by
 unfold Es
 split
 ·split
  ·rename_i q
   refine ⟨fun _ z => (by cases z), List.nodup_nil, (Jz q).1, Nat.zero_le _, fun z => absurd (show (2 : Int) = 3 ∨ (2 : Int) = 4 from z) (by decide)⟩
  ·exact h
 ·exact h
theorem wc {s : Ss} (c : Cf) (t : ByteArray) (h : Qt s) : Qt (H9 c s t).1 := by
 unfold H9
 split
 ·split
  ·rename_i q
   split
   ·exact h
   ·rename_i q2
    split
    ·split
     ·exact h
     ·rename_i q3
      split
      ·exact h
      ·rename_i q4
       refine ⟨fun a ha => ?_, ?_, h.2.2.1, ?_, fun _ => ?_⟩
       ·rcases List.mem_append.1 ha with ha | ha
        ·exact h.1 a ha
        ·rw [List.mem_singleton] at ha; subst ha; exact (Jz q).1.resolve_right q2
       ·show (s.mail.to ++ [BC t]).Nodup
        rw [List.nodup_append]
        exact ⟨h.2.1, by simp, fun a ha b hb e => by rw [List.mem_singleton] at hb; subst hb; subst e; exact q3 ha⟩
       ·show (s.mail.to ++ [BC t]).length ≤ 4
        rw [List.length_append]; show s.mail.to.length + 1 ≤ 4; omega
       ·show 1 ≤ (s.mail.to ++ [BC t]).length
        rw [List.length_append]; show 1 ≤ s.mail.to.length + 1; omega
    ·exact h
  ·exact h
 ·exact h
theorem pS {s : Ss} (c : Cf) (l : ByteArray) (h : Qt s) : Qt (Be c s l).1 := by
 unfold Be
 repeat' split
 all_goals first
  | exact h
  | exact qH _ h
  | exact wc _ _ h
  | exact L3 (by show ¬ ((1 : Int) = 3 ∨ (1 : Int) = 4); decide)
  | exact L3 (by show ¬ ((5 : Int) = 3 ∨ (5 : Int) = 4); decide)
  | exact L3 (by omega)
  | (rename_i q; exact ⟨h.1, h.2.1, h.2.2.1, h.2.2.2.1, fun _ => h.2.2.2.2 (.inl q)⟩)
theorem pq {s : Ss} {l : ByteArray} (h : Qt s) : Qt (Aj s l).1.1 ∧ ((Aj s l).1.2 = ⟨#[]⟩ ∨ (Aj s l).1.1.state = 1) ∧ ((Aj s l).2 = true → CZ (Aj s l).1.1.mail.body ∧ (Aj s l).1.1.mail.to = s.mail.to) := by
 have one : ∀ b : Bool, Qt ⟨1, s.mail, b, s.buf⟩ := fun b => ⟨h.1, h.2.1, h.2.2.1, h.2.2.2.1, fun q => absurd (show (1 : Int) = 3 ∨ (1 : Int) = 4 from q) (by decide)⟩
 unfold Aj
 repeat' split
 all_goals first
  | (refine ⟨one _, .inr rfl, fun _ => ⟨?_, rfl⟩⟩; assumption)
  | exact ⟨one _, .inr rfl, fun q => absurd q Bool.false_ne_true⟩
  | exact ⟨h, .inl rfl, fun q => absurd q Bool.false_ne_true⟩
theorem tG {s : Ss} {l : ByteArray} (c : Cf) (h : Qt s) : Qt (Br c s l).1.1 ∧ ∀ m ∈ (Br c s l).2, B6 m := by
 obtain ⟨q1, q2, q3⟩ := pq (l := l) h
 have q := pS c l h
 have e1 : ¬ (Aj s l).1.2 = ⟨#[]⟩ → ¬ ((Aj s l).1.1.state = 3 ∨ (Aj s l).1.1.state = 4) := fun n => by have := q2.resolve_left n; omega
 unfold Br
 split
 ·exact ⟨h, fun _ z => by cases z⟩
 ·split
  ·rename_i h4
   split
   ·exact ⟨q1, fun _ z => by cases z⟩
   ·rename_i hn
    split
    ·rename_i ht
     refine ⟨L3 (e1 hn), fun m hm => ?_⟩
     rw [List.mem_singleton] at hm; subst hm
     obtain ⟨b1, b2⟩ := q3 ht
     exact ⟨q1.1, q1.2.1, q1.2.2.1, ⟨by rw [b2]; exact h.2.2.2.2 (.inr h4), q1.2.2.2.1⟩, b1⟩
    ·exact ⟨L3 (e1 hn), fun _ z => by cases z⟩
  ·exact ⟨q, fun _ z => by cases z⟩
def mj (x : F8) : Prop := Qt x.1 ∧ ∀ m ∈ x.2.2, B6 m
theorem vE {c : Cf} {x : F8} {l : ByteArray} (h : mj x) : mj (e9 c x l) := by
 obtain ⟨q1, q2⟩ := tG (l := l) c h.1
 exact ⟨q1, fun m hm => (List.mem_append.1 hm).elim (h.2 m) (q2 m)⟩
theorem ky {x : F8} (h : mj x) : mj (c9 x) := ⟨L3 (by show ¬ ((5 : Int) = 3 ∨ (5 : Int) = 4); decide), h.2⟩
theorem kx {c : Cf} : ∀ (L : List ByteArray) {x : F8}, mj x → mj (NV c L x).1
 | [], x, h => h
 | l :: r, x, h => by
   rw [NV]
   split
   ·exact h
   ·split
    ·exact ky h
    ·exact kx r (vE h)
theorem fA {c : Cf} {s : Ss} {t : ByteArray} (h : Qt s) : mj (Bv c s t) := by
 have q := kx (c := c) (OB (s.buf ++ t)) (x := (⟨s.state, s.mail, s.bad, ⟨#[]⟩⟩, [], [])) ⟨h, fun _ z => by cases z⟩
 unfold Bv Z9
 split
 ·exact q
 ·split
  ·exact q
  ·split
   ·exact ky q
   ·exact q
def xd (x : Oa) : Prop := Qt x.2.1 ∧ ∀ m ∈ x.2.2.1, B6 m
theorem wT {h : Cf} {x : Oa} (q : xd x) : xd (dG h x) := by
 have f := fA (c := h) (t := cY (Mp x)) q.1
 exact ⟨f.1, fun m hm => (List.mem_append.1 hm).elim (q.2 m) (f.2 m)⟩
theorem mD (h : Cf) (cut : Int) : ∀ (k n : Nat) (x : Oa), xd x → ∀ m ∈ (Lc h cut k n x).2, B6 m
 | 0, n, x, q => q.2
 | k + 1, n, x, q => by
   rw [Lc]
   split
   ·split
    ·exact q.2
    ·split
     ·exact q.2
     ·exact mD h cut k (n + 1) _ (wT q)
   ·exact q.2
theorem J5 (h : Cf) (nm : ByteArray) (m : Ml) (cut : Int) : ∀ y ∈ (Ez h nm m cut).2, B6 y :=
 mD h cut cut.toNat 0 (Xe h nm m) ⟨⟨fun _ z => (by cases z), List.nodup_nil, .inr ⟨rfl, rfl⟩, Nat.zero_le _, fun z => absurd (show (0 : Int) = 3 ∨ (0 : Int) = 4 from z) (by decide)⟩, fun _ z => by cases z⟩
theorem Xd {h : Cf} {nm : ByteArray} {m : Ml} {cut : Int} (hn : nm.size ≤ 1000) (hm : N7 m) : ∀ y ∈ (Ez h nm m cut).2, jp y :=
 (LS h cut cut.toNat 0 (Xe h nm m) (LR h hn hm)).2.2
theorem VO (c : Cl) : (Dj c).1.mail = c.mail := by unfold Dj; (repeat' split) <;> rfl
theorem ex (c : Cl) (k : Int) : (DV c k).1.mail = c.mail := by unfold DV; (repeat' split) <;> rfl
theorem jY (c : Cl) (k : Int) : (FT c k).1.mail = c.mail := by
 unfold FT
 repeat' split
 all_goals exact VO _
theorem V3 (c : Cl) (a : ByteArray) : (Ax c a).1.mail = c.mail := by
 unfold Ax
 repeat' split
 all_goals first | rfl | exact jY _ _ | exact ex _ _ | exact VO _
theorem ca (h : Cf) (cut : Int) : ∀ (k n : Nat) (x : Oa), (Lc h cut k n x).1.mail = x.1.mail
 | 0, n, x => rfl
 | k + 1, n, x => by
   rw [Lc]
   split
   ·split
    ·rfl
    ·split
     ·exact V3 _ _
     ·rw [ca h cut k (n + 1) (dG h x)]; exact V3 _ _
   ·rfl
theorem LQ {h : Cf} {nm : ByteArray} {m : Ml} {cut : Int} (hn : nm.size ≤ 1000) (hm : N7 m) : (Ez h nm m cut).1.length = m.to.length := by
 have q := (LS h cut cut.toNat 0 (Xe h nm m) (LR h hn hm)).1.1
 rw [ca] at q
 show (List.map _ _).length = _
 rw [lm]
 exact q
theorem dl {a : Ad} (h : BS a ∨ Ab a) : a.user.size ≤ 1000 ∧ a.domain.size ≤ 1000 := by
 rcases h with h | h
 ·have h1 := (Js h.1).2
  have h2 := (CM h.2).2
  exact ⟨by omega, by omega⟩
 ·obtain ⟨u, d⟩ := a
  obtain ⟨h1, h2⟩ := h
  dsimp only at h1 h2
  subst h1; subst h2
  exact ⟨Nat.zero_le _, Nat.zero_le _⟩
theorem mr {m : Ml} (h : B6 m) : N7 m := ⟨by have := h.2.2.2.1.2; omega, by have := h.2.2.2.2.2; omega, dl h.2.2.1, fun a ha => dl (.inl (h.1 a ha)), fun l hl => by have := (h.2.2.2.2.1 l hl).2; omega⟩
theorem X5 {m : Ml} {s : ByteArray} (h : B6 m) (hs : s.size ≤ 1000) : N7 ⟨m.frm, m.to, s :: m.body⟩ := by
 have q := mr h
 refine ⟨q.1, ?_, q.2.2.1, q.2.2.2.1, fun l hl => ?_⟩
 ·have := h.2.2.2.2.2
  show (s :: m.body).length ≤ 100
  rw [List.length_cons]; omega
 ·rcases List.mem_cons.1 hl with rfl | hl
  ·exact hs
  ·exact q.2.2.2.2 l hl
theorem sf {c : Cf} {x : Im} {to : ByteArray} {w : Int} (h : Dr x) : N7 (JJ c x to w) := by
 have hl := Fx c to w x.to
 refine ⟨?_, by have := h.2.2.2.2.2.2; show x.body.length ≤ 100; omega, dl h.2.2.2.1, fun a ha => ?_, fun l hl => by have := (h.2.2.2.2.2.1 l hl).2; omega⟩
 ·have := h.2.2.2.2.1.2
  show (A3 c to w x.to).length ≤ 1000
  omega
 ·obtain ⟨r, hr, e, _⟩ := Ew c to w x.to a ha
  rw [← e]
  exact dl (.inl (h.1 r hr).1)
theorem A8 {N M : Nat} {w : Wd} (q : HO N w) (l : N ≤ M) : HO M w := ⟨fun h hh => ⟨(q.1 h hh).1, CC (q.1 h hh).2 l⟩, q.2.1, q.2.2.1, q.2.2.2.1, Nat.le_trans q.2.2.2.2.1 l, q.2.2.2.2.2⟩
theorem Nw {N : Nat} {w : Wd} {k : Int} {h : Hs} (q : HO N w) (hk : FU h) (hn : Eh N h) : HO N (XR w k h) := by
 have e : (w.hosts.set k.toNat h).length = w.hosts.length := List.length_set
 refine ⟨fun x hx => ?_, ⟨by show 1 ≤ (w.hosts.set k.toNat h).length; rw [e]; exact q.2.1.1, by show (w.hosts.set k.toNat h).length ≤ 4; rw [e]; exact q.2.1.2⟩, q.2.2.1, q.2.2.2.1, q.2.2.2.2⟩
 rcases List.mem_or_eq_of_mem_set hx with hx | rfl
 ·exact q.1 x hx
 ·exact ⟨hk, hn⟩
theorem aN {w : Wd} {c : Cf} {ls : Bool} {n : Int} (hw : 0 ≤ w.now ∧ w.now ≤ 9999) : ∀ (rs : List Rc) {x : Hs × Bool} {N : Nat}, FU x.1 → Eh N x.1 → (rs.map Rc.addr).Nodup → (∀ r ∈ rs, Cm x.1.spool n r.addr) → FU (Uu w c ls n rs x).1 ∧ Eh (N + rs.length) (Uu w c ls n rs x).1
 | [], x, N, q, hn, _, _ => ⟨q, hn⟩
 | r :: t, x, N, q, hn, hd, ht => by
   rw [List.map_cons, List.nodup_cons] at hd
   have ht0 := ht r (List.mem_cons_self ..)
   have e : N + (r :: t).length = N + 1 + t.length := by rw [List.length_cons]; omega
   rw [Uu, e]
   split
   ·have z := J1 (out := 3) q hn ht0 hw
    exact aN hw t z.1 z.2 hd.2 fun y hy => (H1 q.2.2.2 ht0 hw).2 _ _ (ht y (List.mem_cons_of_mem _ hy)) fun z => hd.1 (by rw [z.2]; exact List.mem_map_of_mem hy)
   ·exact aN hw t q (CC hn (Nat.le_succ _)) hd.2 fun y hy => ht y (List.mem_cons_of_mem _ hy)
theorem qN {N : Nat} {w : Wd} {e : Ev} (q : HO N w) : HO (N + 4) (Kk w e).1 := by
 unfold Kk
 split
 ·rename_i h0
  split
  ·exact A8 q (Nat.le_add_right _ _)
  ·rename_i h1
   have hl := q.2.1
   have hH := q.1 _ (AF (xs := w.hosts) (j := e.host.toNat) (by omega))
   have hil : (A4 (Ap w e.host).spool e.id).toNat < (Ap w e.host).spool.items.length := by have := CY h1; omega
   have hx := (hH.1.2.2.2.1 _ (AF (xs := (Ap w e.host).spool.items) (j := (A4 (Ap w e.host).spool e.id).toNat) hil)).1
   have z := aN (w := w) (c := (Ap w e.host).conf) (ls := e.lose) (n := e.id) q.2.2.1 (J0 (Ap w e.host) e.id).to (x := (Ap w e.host, false)) hH.1 hH.2 hx.2.1 fun r hr => by
    have y := (GB hH.1.2.2.2 (x := J0 (Ap w e.host) e.id) (AF hil) hr).1
    have e2 : (J0 (Ap w e.host) e.id).id = e.id := GG h1
    rw [e2] at y
    exact y
   exact Nw (A8 q (Nat.le_add_right _ _)) z.1 (CC z.2 (by have := hx.2.2.2.2.1.2; show N + (J0 (Ap w e.host) e.id).to.length ≤ N + 4; have h4 : (J0 (Ap w e.host) e.id).to.length ≤ 4 := this; omega))
 ·exact A8 q (Nat.le_add_right _ _)
def cq (e : Ev) : Prop := E3 e.mail ∧ 0 ≤ e.cut ∧ e.cut ≤ 1000
def Ku (mk : ByteArray) (ds : List Ad) : List Ls := ds.map fun a => ⟨mk, a⟩
noncomputable def dF (w : Wd) (k : Int) (mk : ByteArray) (y : Ml) : Wd := ⟨w.hosts.set k.toNat (Lw (Ap w k) y w.now), w.now, w.marks, w.given ++ Ku mk y.to⟩
open Classical in
noncomputable def XX (k : Int) (mk : ByteArray) : List Ml → Wd → Wd
 | [], w => w
 | y :: t, w => if y.body.length < 12 ∧ Bj (Ap w k).spool then XX k mk t (dF w k mk y) else XX k mk t w
theorem wL {k : Int} {mk : ByteArray} {ys : List Ml} {i : Nat} {w : Wd} (h : i < ys.length) (q : (ys.getD i default).body.length < 12 ∧ Bj (Ap w k).spool) : XX k mk (ys.drop i) w = XX k mk (ys.drop (i + 1)) (dF w k mk (ys.getD i default)) := by rw [AZ h, XX, if_pos q]
theorem wK {k : Int} {mk : ByteArray} {ys : List Ml} {i : Nat} {w : Wd} (h : i < ys.length) (q : ¬ ((ys.getD i default).body.length < 12 ∧ Bj (Ap w k).spool)) : XX k mk (ys.drop i) w = XX k mk (ys.drop (i + 1)) w := by rw [AZ h, XX, if_neg q]
theorem wJ {k : Int} {mk : ByteArray} {ys : List Ml} {i : Nat} {w : Wd} (h : ys.length ≤ i) : XX k mk (ys.drop i) w = w := by rw [List.drop_of_length_le h]; rfl
def lG (n : Int) : ByteArray := ⟨#[73, 100, 58, 32]⟩ ++ NN n
theorem lH (n : Int) : (lG n).size ≤ 6 := by
 unfold lG
 rw [ByteArray.size_append]
 have := (Ic n).2
 show 4 + _ ≤ 6
 omega
def Qk (w : Wd) (e : Ev) : Ml := ⟨e.mail.frm, e.mail.to, lG (w.marks + 1) :: e.mail.body⟩
def wM (w : Wd) (e : Ev) : Prop := (0 ≤ e.host ∧ e.host ≤ (w.hosts.length : Int) - 1) ∧ B6 e.mail ∧ ¬ w.marks ≥ 60 ∧ ¬ (e.mail.body.length : Int) ≥ 10 ∧ B9 e.mail.body = ⟨#[]⟩ ∧ Bj (Ap w e.host).spool
noncomputable abbrev J2 (w : Wd) (e : Ev) : List Ml := (Ez (Ap w e.host).conf ⟨#[99, 108, 105, 101, 110, 116]⟩ (Qk w e) e.cut).2
noncomputable def y6 (w : Wd) (e : Ev) : Wd := XX e.host (B9 (Qk w e).body) (J2 w e) ⟨w.hosts, w.now, w.marks + 1, w.given⟩
open Classical in
noncomputable def XY (w : Wd) (e : Ev) : Wd × Bool := if wM w e then (y6 w e, true) else (w, false)
theorem l5 {w : Wd} {e : Ev} (q : wM w e) : XY w e = (y6 w e, true) := if_pos q
theorem LI {w : Wd} {e : Ev} (q : ¬ wM w e) : XY w e = (w, false) := if_neg q
def dW (N : Nat) (k : Int) (w : Wd) : Prop := ((∀ h ∈ w.hosts, FU h ∧ Eh N h) ∧ (1 ≤ w.hosts.length ∧ w.hosts.length ≤ 4) ∧ (0 ≤ w.now ∧ w.now ≤ 9999) ∧ (0 ≤ w.marks ∧ w.marks ≤ 60)) ∧ (0 ≤ k ∧ k ≤ (w.hosts.length : Int) - 1) ∧ w.given.length ≤ N + 4 * (Ap w k).spool.items.length ∧ ∀ l ∈ w.given, WI l
theorem L0 {N : Nat} {k : Int} {w : Wd} (q : dW N k w) : FU (Ap w k) ∧ Eh N (Ap w k) := q.1.1 _ (AF (xs := w.hosts) (j := k.toNat) (by have := q.2.1; omega))
theorem js {N : Nat} {k : Int} {w : Wd} (q : dW N k w) : w.given.length ≤ N + 40 := by
 have h := (L0 q).1.2.2.2.2.2.2
 have := q.2.2.1
 omega
theorem tt {N : Nat} {k : Int} {w : Wd} (q : dW N k w) : HO (N + 40) w := ⟨fun h hh => ⟨(q.1.1 h hh).1, CC (q.1.1 h hh).2 (Nat.le_add_right _ _)⟩, q.1.2.1, q.1.2.2.1, q.1.2.2.2, js q, q.2.2.2⟩
theorem ir {mk : ByteArray} (hm : Bb mk) {ds : List Ad} (ha : ∀ a ∈ ds, BS a) : ∀ l ∈ Ku mk ds, WI l := fun l hl => by
 obtain ⟨a, h, rfl⟩ := List.mem_map.1 hl
 exact ⟨hm, CW (.inl (ha a h))⟩
theorem tH {w : Wd} {k : Int} {mk : ByteArray} {y : Ml} (h : 0 ≤ k ∧ k ≤ (w.hosts.length : Int) - 1) : Ap (dF w k mk y) k = Lw (Ap w k) y w.now := by
 have e : k.toNat < w.hosts.length := by omega
 show (w.hosts.set k.toNat _).getD k.toNat default = _
 simp [e]
theorem mE {N : Nat} {k : Int} {w : Wd} {mk : ByteArray} {y : Ml} (q : dW N k w) (hm : Bb mk) (hy : B6 y) (hl : y.body.length < 12) (hr : Bj (Ap w k).spool) : dW N k (dF w k mk y) := by
 have z := Si (L0 q).1 (L0 q).2 hy hl q.1.2.2.1 hr
 have e : (w.hosts.set k.toNat (Lw (Ap w k) y w.now)).length = w.hosts.length := List.length_set
 refine ⟨⟨fun x hx => ?_, ?_, q.1.2.2.1, q.1.2.2.2⟩, ?_, ?_, fun l hl => ?_⟩
 ·rcases List.mem_or_eq_of_mem_set hx with hx | rfl
  ·exact q.1.1 x hx
  ·exact z
 ·show 1 ≤ (w.hosts.set k.toNat _).length ∧ (w.hosts.set k.toNat _).length ≤ 4
  rw [e]; exact q.1.2.1
 ·show 0 ≤ k ∧ k ≤ ((w.hosts.set k.toNat _).length : Int) - 1
  rw [e]; exact q.2.1
 ·rw [tH q.2.1]
  show (w.given ++ Ku mk y.to).length ≤ N + 4 * ((Ap w k).spool.items ++ [_]).length
  have h1 := q.2.2.1
  have h2 := hy.2.2.2.1.2
  have h3 : (Ku mk y.to).length = y.to.length := lm _
  rw [List.length_append, List.length_append, h3]
  show _ ≤ N + 4 * (_ + 1)
  omega
 ·rcases List.mem_append.1 hl with hl | hl
  ·exact q.2.2.2 l hl
  ·exact ir hm hy.1 l hl
theorem cJ {N : Nat} {k : Int} {mk : ByteArray} (hm : Bb mk) : ∀ (ys : List Ml) {w : Wd}, dW N k w → (∀ y ∈ ys, B6 y) → dW N k (XX k mk ys w)
 | [], w, q, _ => q
 | y :: t, w, q, h => by
   rw [XX]
   split
   ·rename_i hc
    exact cJ hm t (mE q hm (h y (List.mem_cons_self ..)) hc.1 hc.2) fun x hx => h x (List.mem_cons_of_mem _ hx)
   ·exact cJ hm t q fun x hx => h x (List.mem_cons_of_mem _ hx)
theorem l6 {w : Wd} {e : Ev} (h : B6 e.mail) : Bb (B9 (Qk w e).body) := by
 rcases Ft (Qk w e).body with z | z
 ·rw [z]; show (0 : Nat) ≤ 1048576; decide
 ·rcases List.mem_cons.1 z with z | z
  ·rw [z]; have := lH (w.marks + 1); show (lG (w.marks + 1)).size ≤ 1048576; omega
  ·exact (F7 h.2.2.2.2).2 _ z
theorem wO {N : Nat} {w : Wd} {e : Ev} (q : HO N w) (h : wM w e) : dW N e.host ⟨w.hosts, w.now, w.marks + 1, w.given⟩ := by
 obtain ⟨q1, q2, q3, q4, q5, q6⟩ := q
 have h1 := h.1
 have h2 := h.2.2.1
 exact ⟨⟨q1, q2, q3, by dsimp only; omega⟩, h1, Nat.le_trans q5 (Nat.le_add_right _ _), q6⟩
theorem wN {N : Nat} {w : Wd} {e : Ev} (q : HO N w) : HO (N + 40) (XY w e).1 := by
 by_cases h : wM w e
 ·rw [l5 h]
  exact tt (cJ (l6 h.2.1) _ (wO q h) (J5 _ _ _ _))
 ·rw [LI h]; exact A8 q (Nat.le_add_right _ _)
noncomputable def mI (now : Int) : List Ml → Hs → Hs
 | [], t => t
 | y :: r, t => mI now r (KB t y now).1
theorem mK {now : Int} {ys : List Ml} {i : Nat} {t : Hs} (h : i < ys.length) : mI now (ys.drop i) t = mI now (ys.drop (i + 1)) (KB t (ys.getD i default) now).1 := by rw [AZ h]; rfl
theorem wd {now : Int} {ys : List Ml} {i : Nat} {t : Hs} (h : ys.length ≤ i) : mI now (ys.drop i) t = t := by rw [List.drop_of_length_le h]; rfl
noncomputable def ja (n now : Int) : List Ad → List Int → Hs → Hs
 | a :: r, o :: s, x => ja n now r s (Ip x n a o now)
 | [], _, x => x
 | _ :: _, [], x => x
theorem wg {n now : Int} {ds : List Ad} {os : List Int} {i : Nat} {x : Hs} (h1 : i < ds.length) (h2 : i < os.length) : ja n now (ds.drop i) (os.drop i) x = ja n now (ds.drop (i + 1)) (os.drop (i + 1)) (Ip x n (ds.getD i default) (os.getD i default) now) := by rw [AZ h1, AZ h2]; rfl
theorem we {n now : Int} {ds : List Ad} {os : List Int} {i : Nat} {x : Hs} (h : os.length ≤ i) : ja n now (ds.drop i) (os.drop i) x = x := by
 rw [List.drop_of_length_le (l := os) h]
 cases ds.drop i <;> rfl
theorem X1 {h : Hs} {m : Ml} {w : Int} {N : Nat} (q : FU h) (n : Eh N h) (hm : B6 m) (hw : 0 ≤ w ∧ w ≤ 9999) : FU (KB h m w).1 ∧ Eh N (KB h m w).1 ∧ (KB h m w).1.conf = h.conf := by
 by_cases z : m.body.length < 12 ∧ Bj h.spool
 ·rw [IL z]
  have y := Si q n hm z.1 hw z.2
  exact ⟨y.1, y.2, rfl⟩
 ·rw [IK z]; exact ⟨q, n, rfl⟩
theorem mJ {w : Int} {N : Nat} (hw : 0 ≤ w ∧ w ≤ 9999) : ∀ (ys : List Ml) {h : Hs}, FU h → Eh N h → (∀ y ∈ ys, B6 y) → FU (mI w ys h) ∧ Eh N (mI w ys h)
 | [], h, q, n, _ => ⟨q, n⟩
 | y :: t, h, q, n, hy => by
   have z := X1 q n (hy y (List.mem_cons_self ..)) hw
   exact mJ hw t z.1 z.2.1 fun x hx => hy x (List.mem_cons_of_mem _ hx)
theorem bh {h : Hs} {n : Int} {a : Ad} {out w : Int} {N : Nat} (q : FU h) (hn : Eh N h) (t : Cm h.spool n a) (hw : 0 ≤ w ∧ w ≤ 9999) : FU (Ip h n a out w) ∧ Eh (N + 1) (Ip h n a out w) ∧ (Ip h n a out w).conf = h.conf ∧ ∀ a', Cm h.spool n a' → ¬ a = a' → Cm (Ip h n a out w).spool n a' :=
 ⟨(J1 q hn t hw).1, (J1 q hn t hw).2, (FH _ _ _ _ _ _).1, fun a' y z => (H1 q.2.2.2 t hw).2 _ _ y fun u => z u.2⟩
theorem mL {n w : Int} (hw : 0 ≤ w ∧ w ≤ 9999) : ∀ (ds : List Ad) (os : List Int) {h : Hs} {N : Nat}, FU h → Eh N h → ds.Nodup → (∀ a ∈ ds, Cm h.spool n a) → FU (ja n w ds os h) ∧ Eh (N + ds.length) (ja n w ds os h)
 | [], os, h, N, q, hn, _, _ => by cases os <;> exact ⟨q, hn⟩
 | a :: r, [], h, N, q, hn, _, _ => ⟨q, CC hn (Nat.le_add_right _ _)⟩
 | a :: r, o :: s, h, N, q, hn, hd, ht => by
   rw [List.nodup_cons] at hd
   obtain ⟨z1, z2, _, z4⟩ := bh (out := o) q hn (ht a (List.mem_cons_self ..)) hw
   have e : N + (a :: r).length = N + 1 + r.length := by rw [List.length_cons]; omega
   rw [e]
   exact mL hw r s z1 z2 hd.2 fun b hb => z4 b (ht b (List.mem_cons_of_mem _ hb)) fun u => hd.1 (by rw [u]; exact hb)
theorem Iq (c : Cf) (to : ByteArray) (w : Int) : ∀ rs : List Rc, List.Sublist (A3 c to w rs) (rs.map Rc.addr)
 | [] => .slnil
 | r :: t => by
   rw [A3]
   cases BM (JP c to w r)
   ·exact .cons _ (Iq c to w t)
   ·exact .cons_cons _ (Iq c to w t)
noncomputable def Jb (w : Wd) (e : Ev) : Ml := JJ (Ap w e.host).conf (J0 (Ap w e.host) e.id) (Ap w e.to).conf.name w.now
noncomputable def IJ (w : Wd) (e : Ev) : List Int × List Ml := Gg (Ap w e.to) (Ap w e.host).conf.name (Jb w e) e.cut
noncomputable def xU (w : Wd) (e : Ev) : Hs := mI w.now (IJ w e).2 (Ap w e.to)
noncomputable def th (w : Wd) (e : Ev) : Hs := bif e.lose then Ap w e.host else ja e.id w.now (Jb w e).to (IJ w e).1 (Ap w e.host)
def ti (w : Wd) (e : Ev) : Prop := (0 ≤ e.host ∧ e.host ≤ (w.hosts.length : Int) - 1) ∧ (0 ≤ e.to ∧ e.to ≤ (w.hosts.length : Int) - 1) ∧ ¬ e.host = e.to ∧ ¬ A4 (Ap w e.host).spool e.id < 0 ∧ ¬ ((Jb w e).to.length : Int) = 0
noncomputable def xT (w : Wd) (e : Ev) : Wd := XR (XR w e.to (xU w e)) e.host (th w e)
open Classical in
noncomputable def ce (w : Wd) (e : Ev) : Wd × Bool := if ti w e then (xT w e, true) else (w, false)
theorem mM {w : Wd} {e : Ev} (q : ti w e) : ce w e = (xT w e, true) := if_pos q
theorem Mq {w : Wd} {e : Ev} (q : ¬ ti w e) : ce w e = (w, false) := if_neg q
theorem cb (h : Hs) (nm : ByteArray) (m : Ml) (cut : Int) : ∀ y ∈ (Gg h nm m cut).2, B6 y := by
 unfold Gg
 split
 ·exact J5 _ _ _ _
 ·exact J5 _ _ _ _
theorem Xf {h : Hs} {nm : ByteArray} {m : Ml} {cut : Int} (hn : nm.size ≤ 1000) (hm : N7 m) : (Gg h nm m cut).1.length = m.to.length := by
 unfold Gg
 split
 ·exact LQ hn hm
 ·exact LQ hn hm
theorem tK {h : Hs} {nm : ByteArray} {m : Ml} {cut : Int} (hn : nm.size ≤ 1000) (hm : N7 m) (hc : cut ≤ 1000) : (Gg h nm m cut).2.length ≤ 300000000 := by
 have key : ∀ c : Int, c ≤ 1000 → (Ez h.conf nm m c).2.length ≤ 300000000 := fun c q => by
  have z := (LS h.conf c c.toNat 0 (Xe h.conf nm m) (LR h.conf hn hm)).2.1
  show (Lc h.conf c c.toNat 0 (Xe h.conf nm m)).2.length ≤ _
  omega
 unfold Gg
 split
 ·exact key _ hc
 ·exact key _ (by decide)
theorem wi {N : Nat} {w : Wd} {h : Hs} {n : Int} (q : FU h) (h1 : ¬ A4 h.spool n < 0) : (A4 h.spool n).toNat < h.spool.items.length ∧ Dr (J0 h n) ∧ ∀ r ∈ (J0 h n).to, Cm h.spool n r.addr := by
 have hil : (A4 h.spool n).toNat < h.spool.items.length := by have := CY h1; omega
 refine ⟨hil, (q.2.2.2.1 _ (AF (xs := h.spool.items) (j := (A4 h.spool n).toNat) hil)).1, fun r hr => ?_⟩
 have y := (GB q.2.2.2 (x := J0 h n) (AF hil) hr).1
 have e2 : (J0 h n).id = n := GG h1
 rw [e2] at y
 exact y
theorem mO {N : Nat} {w : Wd} {e : Ev} (q : HO N w) (h : ti w e) : FU (Ap w e.host) ∧ Eh N (Ap w e.host) ∧ FU (Ap w e.to) ∧ Eh N (Ap w e.to) ∧ Dr (J0 (Ap w e.host) e.id) ∧ (Jb w e).to.Nodup ∧ (Jb w e).to.length ≤ 4 ∧ ∀ a ∈ (Jb w e).to, Cm (Ap w e.host).spool e.id a := by
 obtain ⟨h1, h2, h3, h4, h5⟩ := h
 have hl := q.2.1
 have hH := q.1 _ (AF (xs := w.hosts) (j := e.host.toNat) (by omega))
 have hT := q.1 _ (AF (xs := w.hosts) (j := e.to.toNat) (by omega))
 obtain ⟨t1, t2, t3⟩ := wi (N := N) (w := w) hH.1 h4
 refine ⟨hH.1, hH.2, hT.1, hT.2, t2, (Iq _ _ _ _).nodup t2.2.1, Nat.le_trans (Fx _ _ _ _) t2.2.2.2.2.1.2, fun a ha => ?_⟩
 obtain ⟨r, hr, er, _⟩ := Ew _ _ _ _ a ha
 rw [← er]; exact t3 r hr
theorem wh {N : Nat} {w : Wd} {e : Ev} (q : HO N w) : HO (N + 4) (ce w e).1 := by
 by_cases h : ti w e
 ·rw [mM h]
  obtain ⟨a1, a2, b1, b2, hi, hd, hl, ht⟩ := mO q h
  have zb := mJ q.2.2.1 (IJ w e).2 b1 b2 (cb _ _ _ _)
  have za : FU (th w e) ∧ Eh (N + 4) (th w e) := by
   unfold th
   cases e.lose
   ·have z := mL (n := e.id) q.2.2.1 (Jb w e).to (IJ w e).1 a1 a2 hd ht
    exact ⟨z.1, CC z.2 (by omega)⟩
   ·exact ⟨a1, CC a2 (by omega)⟩
  exact Nw (Nw (A8 q (by omega)) zb.1 (CC zb.2 (by omega))) za.1 za.2
 ·rw [Mq h]; exact A8 q (Nat.le_add_right _ _)
theorem sF {mk : ByteArray} {ds : List Ad} {j : Nat} (h : j < ds.length) : (Ku mk (ds.take (j + 1))).map Av = (Ku mk (ds.take j)).map Av ++ [[.v (.string mk), .v (.string (ds.getD j default).user), .v (.string (ds.getD j default).domain)]] := by
 unfold Ku
 rw [List.map_map, List.map_map, Mo _ h]
 rfl
theorem sE {mk : ByteArray} {ds : List Ad} : (Ku mk ds).length = ds.length := lm _
theorem vS (n : Int) : (⟨#[73, 100, 58, 32]⟩ : ByteArray) ++ NN n = lG n := rfl
theorem sk (w : Wd) (e : Ev) : (⟨e.mail.frm, e.mail.to, lG (w.marks + 1) :: e.mail.body⟩ : Ml) = Qk w e := rfl
def eC : Mt := GN (lc me (lc OL.ag l0)) (fun p => HO 1000000 p.1 ∧ cq p.2.1) (fun p => ([.any, OL.ag.enc p.2.1], .tup [HN (XY p.1 p.2.1).1, .t (.v (.bool (XY p.1 p.2.1).2))]))
section
attribute [local go_sem] Ju uZ NE KX NG eG Y7 pB SY VD NM vS sk CU F6 F5 HN.eq_1 Gc.eq_1 Aa Bd LK lm AS.opn AS.cls AS.nilb AS.renb AS.up Bool.not_false Bool.not_true List.set_set List.set_cons_zero List.set_cons_succ List.set_nil List.mem_singleton forall_eq tn List.map_nil List.nil_append
set_option maxHeartbeats 6400000 in
theorem gO {G : Gt} (hG : Ah G) (hh : G.e 69 = AA 0 Ju ∧ G.e 68 = AA 0 uZ ∧ G.e 107 = AA 0 NE ∧ G.e 121 = AA 0 KX ∧ G.e 122 = AA 0 NG ∧ G.e 184 = AA 0 eG ∧ G.e 185 = AA 1 Y7 ∧ G.e 70 = AA 1 pB) : Gd G 168 (AM eC) := by
 refine If (dp := fun n => !(Nat.beq n 100006 || Nat.beq n 100007 || Nat.beq n 100015)) (fn := Tryz.f168) (n := 2) rfl rfl hG ?_
 rintro ⟨w, e, ⟨⟩⟩ hpre
 obtain ⟨hw, hE, hc0, hc1⟩ := hpre
 try dsimp only at hw hE hc0 hc1 ⊢
 have hl := hw.2.1
 have hmk0 := hw.2.2.2.1
 have hgl := hw.2.2.2.2.1
 have hml1 := hE.2.1.1
 have hml2 := hE.2.2.1
 refine BL (0 ≤ e.host ∧ e.host ≤ (w.hosts.length : Int) - 1) (fun h0 => have h0' := Ae h0; BL (B6 e.mail) (fun h1 => have h1' := Ae h1; BL (w.marks ≥ 60) (fun h2 => have hx := And.intro (LI (fun q => q.2.2.1 h2) : XY w e = _) (And.intro h0' (And.intro h1' h2)); ?_) (fun h2 => BL ((e.mail.body.length : Int) ≥ 10) (fun h3 => have hx := And.intro (LI (fun q => q.2.2.2.1 h3) : XY w e = _) (And.intro h0' (And.intro h1' (And.intro h2 h3))); ?_) (fun h3 => BL (B9 e.mail.body = ⟨#[]⟩) (fun h4 => BL (Bj (Ap w e.host).spool) (fun h5 => have h5' := Ae h5; ?w1) (fun h5 => have h5' := AN h5; have hx := And.intro (LI (fun q => h5 q.2.2.2.2.2) : XY w e = _) (And.intro h0' (And.intro h1' (And.intro h2 (And.intro h3 (And.intro h4 h5'))))); ?_)) (fun h4 => have hx := And.intro (LI (fun q => h4 q.2.2.2.2.1) : XY w e = _) (And.intro h0' (And.intro h1' (And.intro h2 (And.intro h3 h4)))); ?_)))) (fun h1 => have h1' := AN h1; have hx := And.intro (LI (fun q => h1 q.2.1) : XY w e = _) (And.intro h0' h1'); ?_)) (fun h0 => have h0' := AN h0; have hx := And.intro (LI (fun q => h0 q.1) : XY w e = _) h0'; ?_)
 case w1 =>
  rw [l5 ⟨h0, h1, h2, h3, h4, h5⟩]
  have hS0 := wO hw ⟨h0, h1, h2, h3, h4, h5⟩
  have hK := hw.1 _ (AF (xs := w.hosts) (j := e.host.toNat) (by omega))
  have Qj := (CM hK.1.2.2.1.2.2.1).2
  have hmk := l6 (w := w) h1
  have hds := Ic (w.marks + 1)
  have e4 : (#[73, 100, 58, 32] : Array UInt8).size = 4 := rfl
  have hC : N7 (Qk w e) := X5 h1 (by have := lH (w.marks + 1); omega)
  have hb12 := h1.2.2.2.2.2
  have hv1 : ∀ y ∈ J2 w e, B6 y := J5 _ _ _ _
  have hv2 : ∀ y ∈ J2 w e, jp y := Xd (nm := ⟨#[99, 108, 105, 101, 110, 116]⟩) (by show (6 : Nat) ≤ 1000; decide) hC
  have hvn : (J2 w e).length ≤ 300000000 := by
   have z := (LS (Ap w e.host).conf e.cut e.cut.toNat 0 (Xe (Ap w e.host).conf ⟨#[99, 108, 105, 101, 110, 116]⟩ (Qk w e)) (LR (Ap w e.host).conf (nm := ⟨#[99, 108, 105, 101, 110, 116]⟩) (by show (6 : Nat) ≤ 1000; decide) hC)).2.1
   show (Lc (Ap w e.host).conf e.cut e.cut.toNat 0 (Xe (Ap w e.host).conf ⟨#[99, 108, 105, 101, 110, 116]⟩ (Qk w e))).2.length ≤ _
   omega
  simp -implicitDefEqProofs only [Tryz.f168, h0', h1', h2, h3, h4, h5', eq_self, decide_true, decide_false, go_sem, hh, seval]
  with_reducible repeat' (first | apply ai | intro _ | ((first | apply s1 | apply s3 | apply s4) <;> intro hb <;> simp -implicitDefEqProofs only [hb, go_sem, hh, seval] <;> try simp only [qz] at hb))
  all_goals (try simp only [maxLen, tn, AX, AW, lm, List.length_cons] at *)
  all_goals first | with_reducible rfl | omega | with_reducible assumption | (show _ = true; rfl) | contradiction | decide | exact hC | (show (_ : Nat) ≤ _; decide) | skip
  skip
  refine Ag (Le.frzL [1064, 1072]) (AY ?_)
  simp -implicitDefEqProofs only [go_sem, hh, seval]
  with_reducible repeat' (first | apply ai | intro _ | ((first | apply s1 | apply s3 | apply s4) <;> intro hb <;> simp -implicitDefEqProofs only [hb, go_sem, hh, seval] <;> try simp only [qz] at hb))
  all_goals (try simp only [maxLen, tn, AX, AW, lm, List.length_cons] at *)
  all_goals first | with_reducible rfl | omega | with_reducible assumption | (show _ = true; rfl) | contradiction | decide | exact hC | (show (_ : Nat) ≤ _; decide) | skip
  refine Ag (Le.renb 1002 3 2900 1901 rfl rfl rfl rfl) (AY ?_)
  simp -implicitDefEqProofs only [go_sem, hh, seval]
  with_reducible repeat' (first | apply ai | intro _ | ((first | apply s1 | apply s3 | apply s4) <;> intro hb <;> simp -implicitDefEqProofs only [hb, go_sem, hh, seval] <;> try simp only [qz] at hb))
  all_goals first | with_reducible rfl | omega | with_reducible assumption | (show _ = true; rfl) | contradiction | decide | skip
  refine AE [] (ι := {p : Nat × Wd // p.1 ≤ (J2 w e).length ∧ dW 1000000 e.host p.2 ∧ XX e.host (B9 (Qk w e).body) ((J2 w e).drop p.1) p.2 = y6 w e}) (fun p => ⟨[(2, .pb 1002 0), (3, .pb 1003 0), (4, .pb 1004 0), (6, .pb 1006 0), (8, .t (.sl 4 ((J2 w e).map C6))), (9, .t (.v (.int .i64 p.1.1)))], [(1002, some (.box [.h 1900, .t (.v (.int .i64 p.1.2.now)), .t (.v (.int .i64 p.1.2.marks)), .h 1901])), (1003, some (.box ((C5 e).map .t))), (1004, some (.box [.nil, .t (.v (.int .i64 0)), .t (.v (.int .i64 0)), .nil])), (1006, some (.box [.t (.v (.string e.mail.frm.user)), .t (.v (.string e.mail.frm.domain)), .t (.sl 2 (e.mail.to.map Am)), .t (.sl 1 ((lG (w.marks + 1) :: e.mail.body).map AG))])), (1900, some (.arr false 7 (p.1.2.hosts.map Ai))), (1901, some (.arr true 3 (p.1.2.given.map Av)))]⟩) (fun p => (J2 w e).length - p.1.1) ⟨(0, ⟨w.hosts, w.now, w.marks + 1, w.given⟩), Nat.zero_le _, hS0, rfl⟩ rfl ?_ ?_
  ·simp -implicitDefEqProofs only [go_sem, hh, seval]
   first | (simp; done) | skip
  ·rintro ⟨⟨i, x⟩, hi, hx, hv⟩
   dsimp only at hi hx hv
   have hxK := (L0 hx).1
   have hxo := Dq (L0 hx).1 (L0 hx).2 (by decide)
   have hxn := (CM hxK.2.2.1.2.2.1).2
   have hxn6 : (Ap x e.host).conf.name.size ≤ 1000000 := by omega
   have hxw := hx.1.2.2.1
   have hxg := js hx
   have hxl := hx.2.1
   by_cases hlt : (i : Int) < (J2 w e).length
   ·have hym := AF (xs := J2 w e) (j := i) (by omega)
    have hy := hv1 _ hym
    have hyo := (hv2 _ hym).1
    have hyl := hy.2.2.2.1.2
    by_cases q : ((J2 w e).getD i default).body.length < 12 ∧ Bj (Ap x e.host).spool
    ·simp -implicitDefEqProofs only [hlt, IL q, eq_self, decide_true, decide_false, go_sem, hh, seval]
     with_reducible repeat' (first | apply ai | intro _ | ((first | apply s1 | apply s3 | apply s4) <;> intro hb <;> simp -implicitDefEqProofs only [hb, go_sem, hh, seval] <;> try simp only [qz] at hb))
     all_goals (try simp only [maxLen, tn, AX, AW, lm] at *)
     all_goals first | with_reducible rfl | omega | with_reducible assumption | (show _ = true; rfl) | contradiction | decide | exact hxK.2.2.2 | skip
     refine AE [] (ι := {j : Nat // j ≤ ((J2 w e).getD i default).to.length}) (fun p => ⟨[(2, .pb 1002 0), (3, .pb 1003 0), (4, .pb 1004 0), (6, .pb 1006 0), (8, .t (.sl 4 ((J2 w e).map C6))), (9, .t (.v (.int .i64 i))), (12, .t (.v (.int .i64 p.1)))], [(1002, some (.box [.h 1900, .t (.v (.int .i64 (dF x e.host (B9 (Qk w e).body) ((J2 w e).getD i default)).now)), .t (.v (.int .i64 (dF x e.host (B9 (Qk w e).body) ((J2 w e).getD i default)).marks)), .h 1901])), (1003, some (.box ((C5 e).map .t))), (1004, some (.box [.nil, .t (.v (.int .i64 0)), .t (.v (.int .i64 0)), .nil])), (1006, some (.box [.t (.v (.string e.mail.frm.user)), .t (.v (.string e.mail.frm.domain)), .t (.sl 2 (e.mail.to.map Am)), .t (.sl 1 ((lG (w.marks + 1) :: e.mail.body).map AG))])), (1900, some (.arr false 7 ((dF x e.host (B9 (Qk w e).body) ((J2 w e).getD i default)).hosts.map Ai))), (1901, some (.arr true 3 (x.given.map Av ++ (Ku (B9 (Qk w e).body) (((J2 w e).getD i default).to.take p.1)).map Av)))]⟩) (fun p => ((J2 w e).getD i default).to.length - p.1) ⟨0, Nat.zero_le _⟩ rfl ?_ ?_
     ·simp -implicitDefEqProofs only [go_sem, hh, seval]
      first | (simp [Ku, dF]; done) | skip
     ·rintro ⟨j, hj⟩
      try dsimp only at hj
      have hlj : (Ku (B9 (Qk w e).body) (((J2 w e).getD i default).to.take j)).length = j := by rw [sE, List.length_take]; omega
      by_cases hjt : (j : Int) < ((J2 w e).getD i default).to.length
      ·simp -implicitDefEqProofs only [hjt, hlj, List.length_append, lm, eq_self, decide_true, decide_false, go_sem, hh, seval]
       with_reducible repeat' (first | apply ai | intro _ | ((first | apply s1 | apply s3 | apply s4) <;> intro hb <;> simp -implicitDefEqProofs only [hb, go_sem, hh, seval] <;> try simp only [qz] at hb))
       all_goals (try simp only [maxLen, tn, AX, AW, lm] at *)
       all_goals first | with_reducible rfl | omega | with_reducible assumption | (show _ = true; rfl) | contradiction | decide | (rename_i hm; rcases List.mem_append.1 hm with hm | hm <;> (obtain ⟨_, _, rfl⟩ := List.mem_map.1 hm; rfl)) | skip
       skip
       refine Ag (Le.renb 1002 3 1145 1901 rfl rfl rfl rfl) (AY ?_)
       simp -implicitDefEqProofs only [go_sem, hh, seval]
       with_reducible repeat' (first | apply ai | intro _ | ((first | apply s1 | apply s3 | apply s4) <;> intro hb <;> simp -implicitDefEqProofs only [hb, go_sem, hh, seval] <;> try simp only [qz] at hb))
       all_goals first | with_reducible rfl | omega | with_reducible assumption | (show _ = true; rfl) | contradiction | decide | skip
       refine ⟨⟨j + 1, by omega⟩, by dsimp only; omega, ?_⟩
       simp -implicitDefEqProofs only [go_sem, hh, seval]
       simp only [sF (show j < ((J2 w e).getD i default).to.length by omega), List.append_assoc]
       first | (simp [Qk]; done) | skip
      ·have htk : ((J2 w e).getD i default).to.take j = ((J2 w e).getD i default).to := List.take_of_length_le (by omega)
       simp -implicitDefEqProofs only [hjt, htk, eq_self, decide_true, decide_false, go_sem, hh, seval]
       with_reducible repeat' (first | apply ai | intro _ | ((first | apply s1 | apply s3 | apply s4) <;> intro hb <;> simp -implicitDefEqProofs only [hb, go_sem, hh, seval] <;> try simp only [qz] at hb))
       all_goals (try simp only [maxLen, tn, AX, AW, lm] at *)
       all_goals first | with_reducible rfl | omega | with_reducible assumption | (show _ = true; rfl) | contradiction | decide | skip
       refine ⟨⟨(i + 1, dF x e.host (B9 (Qk w e).body) ((J2 w e).getD i default)), by dsimp only; omega, mE hx hmk hy q.1 q.2, (wL (by omega) q).symm.trans hv⟩, by dsimp only; omega, ?_⟩
       simp -implicitDefEqProofs only [go_sem, hh, seval]
       first | (simp [dF]; done) | skip
    ·simp -implicitDefEqProofs only [hlt, IK q, eq_self, decide_true, decide_false, go_sem, hh, seval]
     with_reducible repeat' (first | apply ai | intro _ | ((first | apply s1 | apply s3 | apply s4) <;> intro hb <;> simp -implicitDefEqProofs only [hb, go_sem, hh, seval] <;> try simp only [qz] at hb))
     all_goals (try simp only [maxLen, tn, AX, AW, lm] at *)
     all_goals first | with_reducible rfl | omega | with_reducible assumption | (show _ = true; rfl) | contradiction | decide | exact hxK.2.2.2 | skip
     refine ⟨⟨(i + 1, x), by dsimp only; omega, hx, (wK (by omega) q).symm.trans hv⟩, by dsimp only; omega, ?_⟩
     simp -implicitDefEqProofs only [go_sem, hh, seval]
     first | (simp; done) | skip
   ·rw [wJ (by omega)] at hv
    subst hv
    simp -implicitDefEqProofs only [hlt, eq_self, decide_true, decide_false, go_sem, hh, seval]
    with_reducible repeat' (first | apply ai | intro _ | ((first | apply s1 | apply s3 | apply s4) <;> intro hb <;> simp -implicitDefEqProofs only [hb, go_sem, hh, seval] <;> try simp only [qz] at hb))
    all_goals (try simp only [maxLen, tn, AX, AW] at *)
    all_goals first | with_reducible rfl | omega | with_reducible assumption | (show _ = true; rfl) | contradiction | decide | skip
 all_goals
  try rw [hx.1]
  simp -implicitDefEqProofs only [Tryz.f168, hx, eq_self, decide_true, decide_false, Int.reduceEq, go_sem, hh, seval]
  with_reducible repeat' (first | apply ai | intro _ | ((first | apply s1 | apply s3 | apply s4) <;> intro hb <;> simp -implicitDefEqProofs only [hb, go_sem, hh, seval] <;> try simp only [qz] at hb))
  all_goals (try simp only [maxLen, tn, lm] at *)
  all_goals first | rfl | omega | decide | with_reducible assumption | (show AU _ = true; rfl) | exact Hv (by assumption) | contradiction | (show _ = T.v _; rfl) | (show _ = List.map Av _; rfl) | skip
end
theorem Sk (w : Wd) (e : Ev) : JJ (w.hosts.getD e.host.toNat default).conf ((w.hosts.getD e.host.toNat default).spool.items.getD (BI (fun x : Im => x.id = e.id) 0 (w.hosts.getD e.host.toNat default).spool.items).toNat default) (w.hosts.getD e.to.toNat default).conf.name w.now = Jb w e := rfl
theorem mN (w : Wd) (e : Ev) : Gg (Ap w e.to) (Ap w e.host).conf.name (Jb w e) e.cut = IJ w e := rfl
theorem vd {xs : List Ad} {i j : Nat} (h : xs.Nodup) (hi : i < j) (hj : j < xs.length) : ¬ xs.getD i default = xs.getD j default := by
 have z := List.pairwise_iff_getElem.1 h i j (by omega) hj hi
 simpa [hj, show i < xs.length by omega] using z
def eD : Mt := GN (lc me (lc OL.ag l0)) (fun p => HO 1000000 p.1 ∧ cq p.2.1) (fun p => ([.any, OL.ag.enc p.2.1], .tup [HN (ce p.1 p.2.1).1, .t (.v (.bool (ce p.1 p.2.1).2))]))
section
attribute [local go_sem] Ju kF xI oI pB RJ Sk mN SY CU F6 F5 HN.eq_1 Gc.eq_1 Aa Bd LK lm List.length_set AS.opn AS.cls AS.nilb AS.renb AS.up Bool.not_false Bool.not_true List.set_set List.set_cons_zero List.set_cons_succ List.set_nil List.mem_singleton forall_eq tn List.map_nil List.nil_append
set_option maxHeartbeats 6400000 in
theorem gP {G : Gt} (hG : Ah G) (hh : G.e 69 = AA 0 Ju ∧ G.e 38 = AA 0 kF ∧ G.e 41 = AA 0 xI ∧ G.e 186 = AA 1 oI ∧ G.e 70 = AA 1 pB ∧ G.e 187 = AA 1 RJ) : Gd G 169 (AM eD) := by
 refine If (dp := fun n => !(Nat.beq n 100011)) (fn := Tryz.f169) (n := 2) rfl rfl hG ?_
 rintro ⟨w, e, ⟨⟩⟩ hpre
 obtain ⟨hw, hE, hc0, hc1⟩ := hpre
 try dsimp only at hw hE hc0 hc1 ⊢
 have hl := hw.2.1
 refine BL (0 ≤ e.host ∧ e.host ≤ (w.hosts.length : Int) - 1) (fun h0 => have h0' := Ae h0; BL (0 ≤ e.to ∧ e.to ≤ (w.hosts.length : Int) - 1) (fun h1 => have h1' := Ae h1; BL (e.host = e.to) (fun h2 => have hx := And.intro (Mq (fun q => q.2.2.1 h2) : ce w e = _) (And.intro h0' (And.intro h1' h2)); ?_) (fun h2 => BL (A4 (Ap w e.host).spool e.id < 0) (fun h3 => have hx := And.intro (Mq (fun q => q.2.2.2.1 h3) : ce w e = _) (And.intro h0' (And.intro h1' (And.intro h2 h3))); ?_) (fun h3 => BL (((Jb w e).to.length : Int) = 0) (fun h4 => ?w1) (fun h4 => ?w2)))) (fun h1 => have h1' := AN h1; have hx := And.intro (Mq (fun q => h1 q.2.1) : ce w e = _) (And.intro h0' h1'); ?_)) (fun h0 => have h0' := AN h0; have hx := And.intro (Mq (fun q => h0 q.1) : ce w e = _) h0'; ?_)
 case w1 =>
  have hH := hw.1 _ (AF (xs := w.hosts) (j := e.host.toNat) (by omega))
  have i1 : 0 ≤ BI (fun x : Im => x.id = e.id) 0 (Ap w e.host).spool.items ∧ BI (fun x : Im => x.id = e.id) 0 (Ap w e.host).spool.items < (Ap w e.host).spool.items.length := by have := CY h3; unfold A4 at this h3; omega
  have oa := Dq hH.1 hH.2 (by decide)
  rw [Mq (fun q => q.2.2.2.2 h4)]
  simp -implicitDefEqProofs only [Tryz.f169, h0', h1', h2, h3, h4, eq_self, decide_true, decide_false, Sk, go_sem, hh, seval]
  with_reducible repeat' (first | apply ai | intro _ | ((first | apply s1 | apply s3 | apply s4) <;> intro hb <;> simp -implicitDefEqProofs only [hb, go_sem, hh, seval] <;> try simp only [qz] at hb))
  all_goals (try simp only [maxLen, tn, AX, AW, lm] at *)
  all_goals first | rfl | omega | decide | with_reducible assumption | (show AU _ = true; rfl) | exact Hv (by assumption) | contradiction | exact i1.2 | exact i1.1 | (show _ = T.v _; rfl) | (show _ = List.map Av _; rfl) | skip
 case w2 =>
  have hq : ti w e := ⟨h0, h1, h2, h3, h4⟩
  rw [mM hq]
  obtain ⟨a1, a2, b1, b2, hi, hd, hl4, ht⟩ := mO hw hq
  have i1 : 0 ≤ BI (fun x : Im => x.id = e.id) 0 (Ap w e.host).spool.items ∧ BI (fun x : Im => x.id = e.id) 0 (Ap w e.host).spool.items < (Ap w e.host).spool.items.length := by have := CY h3; unfold A4 at this h3; omega
  have hC : N7 (Jb w e) := sf hi
  have oa := Dq a1 a2 (by decide)
  have ob := Dq b1 b2 (by decide)
  have na := (CM a1.2.2.1.2.2.1).2
  have nb := (CM b1.2.2.1.2.2.1).2
  have na6 : (Ap w e.host).conf.name.size ≤ 1000 := by omega
  have nb6 : (Ap w e.to).conf.name.size ≤ 1000 := by omega
  have hw2 := hw.2.2.1
  have hno : (IJ w e).1.length = (Jb w e).to.length := Xf (by omega) hC
  have hv1 : ∀ y ∈ (IJ w e).2, B6 y := cb _ _ _ _
  have hvn : (IJ w e).2.length ≤ 300000000 := tK (by omega) hC (by omega)
  simp -implicitDefEqProofs only [Tryz.f169, h0', h1', h2, h3, h4, eq_self, decide_true, decide_false, Sk, mN, go_sem, hh, seval]
  with_reducible repeat' (first | apply ai | intro _ | ((first | apply s1 | apply s3 | apply s4) <;> intro hb <;> simp -implicitDefEqProofs only [hb, go_sem, hh, seval] <;> try simp only [qz] at hb))
  all_goals (try simp only [maxLen, tn, AX, AW, lm, List.length_cons] at *)
  all_goals first | with_reducible rfl | omega | with_reducible assumption | (show _ = true; rfl) | contradiction | decide | exact hC | exact i1.2 | exact i1.1 | skip
  refine Ag (Le.frzL [1069, 2069]) (AY ?_)
  simp -implicitDefEqProofs only [go_sem, hh, seval]
  with_reducible repeat' (first | apply ai | intro _ | ((first | apply s1 | apply s3 | apply s4) <;> intro hb <;> simp -implicitDefEqProofs only [hb, go_sem, hh, seval] <;> try simp only [qz] at hb))
  all_goals (try simp only [maxLen, tn, AX, AW, lm, List.length_cons] at *)
  all_goals first | with_reducible rfl | omega | with_reducible assumption | (show _ = true; rfl) | contradiction | decide | exact hC | exact i1.2 | exact i1.1 | skip
  refine AE [] (ι := {p : Nat × Hs // p.1 ≤ (IJ w e).2.length ∧ FU p.2 ∧ Eh 1000000 p.2 ∧ p.2.conf = (Ap w e.to).conf ∧ mI w.now ((IJ w e).2.drop p.1) p.2 = xU w e}) (fun p => ⟨[(2, .pb 1002 0), (3, .pb 1003 0), (4, .pb 1004 0), (6, .pb 1006 0), (7, .pb 1007 0), (9, .pb 1009 0), (10, .t (.sl 1 ((IJ w e).1.map A6))), (11, .t (.sl 4 ((IJ w e).2.map C6))), (12, .t (.v (.int .i64 p.1.1)))], [(1002, some (.box [.h 1900, .t (.v (.int .i64 w.now)), .t (.v (.int .i64 w.marks)), .h 2900])), (1003, some (.box ((C5 e).map .t))), (1004, some (.box [.nil, .t (.v (.int .i64 0)), .t (.v (.int .i64 0)), .nil])), (1006, some (.box ((Ai (Ap w e.host)).map .t))), (1007, some (.box ((Ai p.1.2).map .t))), (1009, some (.box [.t (.v (.string (Jb w e).frm.user)), .t (.v (.string (Jb w e).frm.domain)), .t (.sl 2 ((Jb w e).to.map Am)), .t (.sl 1 ((Jb w e).body.map AG))])), (1900, some (.arr false 7 (w.hosts.map Ai))), (2900, some (.arr true 3 (w.given.map Av)))]⟩) (fun p => (IJ w e).2.length - p.1.1) ⟨(0, (Ap w e.to)), Nat.zero_le _, b1, b2, rfl, rfl⟩ rfl ?_ ?_
  ·simp -implicitDefEqProofs only [go_sem, hh, seval]
   first | (simp; done) | skip
  ·rintro ⟨⟨i, x⟩, hi1, hx1, hx2, hx3, hv⟩
   dsimp only at hi1 hx1 hx2 hx3 hv
   have xo := Dq hx1 hx2 (by decide)
   have nx := (CM hx1.2.2.1.2.2.1).2
   have nx6 : x.conf.name.size ≤ 1000000 := by omega
   by_cases hlt : (i : Int) < (IJ w e).2.length
   ·have hy := hv1 _ (AF (xs := (IJ w e).2) (j := i) (by omega))
    have hyo : E3 ((IJ w e).2.getD i default) := HS hy
    have zK := X1 hx1 hx2 hy hw2
    by_cases q : ((IJ w e).2.getD i default).body.length < 12 ∧ Bj x.spool
    ·simp -implicitDefEqProofs only [hlt, IL q, eq_self, decide_true, decide_false, go_sem, hh, seval]
     with_reducible repeat' (first | apply ai | intro _ | ((first | apply s1 | apply s3 | apply s4) <;> intro hb <;> simp -implicitDefEqProofs only [hb, go_sem, hh, seval] <;> try simp only [qz] at hb))
     all_goals (try simp only [maxLen, tn, AX, AW, lm] at *)
     all_goals first | with_reducible rfl | omega | with_reducible assumption | (show _ = true; rfl) | contradiction | decide | exact hx1.2.2.2 | skip
     refine ⟨⟨(i + 1, (KB x ((IJ w e).2.getD i default) w.now).1), by dsimp only; omega, zK.1, zK.2.1, zK.2.2.trans hx3, (mK (by omega)).symm.trans hv⟩, by dsimp only; omega, ?_⟩
     simp -implicitDefEqProofs only [IL q, go_sem, hh, seval]
     first | (simp; done) | skip
    ·simp -implicitDefEqProofs only [hlt, IK q, eq_self, decide_true, decide_false, go_sem, hh, seval]
     with_reducible repeat' (first | apply ai | intro _ | ((first | apply s1 | apply s3 | apply s4) <;> intro hb <;> simp -implicitDefEqProofs only [hb, go_sem, hh, seval] <;> try simp only [qz] at hb))
     all_goals (try simp only [maxLen, tn, AX, AW, lm] at *)
     all_goals first | with_reducible rfl | omega | with_reducible assumption | (show _ = true; rfl) | contradiction | decide | exact hx1.2.2.2 | skip
     refine ⟨⟨(i + 1, (KB x ((IJ w e).2.getD i default) w.now).1), by dsimp only; omega, zK.1, zK.2.1, zK.2.2.trans hx3, (mK (by omega)).symm.trans hv⟩, by dsimp only; omega, ?_⟩
     simp -implicitDefEqProofs only [IK q, go_sem, hh, seval]
     first | (simp; done) | skip
   ·rw [wd (by omega)] at hv
    subst hv
    simp -implicitDefEqProofs only [hlt, eq_self, decide_true, decide_false, go_sem, hh, seval]
    with_reducible repeat' (first | apply ai | intro _ | ((first | apply s1 | apply s3 | apply s4) <;> intro hb <;> simp -implicitDefEqProofs only [hb, go_sem, hh, seval] <;> try simp only [qz] at hb))
    all_goals (try simp only [maxLen, tn, AX, AW, lm] at *)
    all_goals first | with_reducible rfl | omega | with_reducible assumption | (show _ = true; rfl) | contradiction | decide | skip
    refine AE [] (ι := {p : Nat × Hs // p.1 ≤ (IJ w e).1.length ∧ FU p.2 ∧ Eh (1000000 + p.1) p.2 ∧ p.2.conf = (Ap w e.host).conf ∧ (∀ j, p.1 ≤ j → j < (Jb w e).to.length → Cm p.2.spool e.id ((Jb w e).to.getD j default)) ∧ (e.lose = true → p.2 = (Ap w e.host)) ∧ ja e.id w.now ((Jb w e).to.drop p.1) ((IJ w e).1.drop p.1) p.2 = ja e.id w.now (Jb w e).to (IJ w e).1 (Ap w e.host)}) (fun p => ⟨[(2, .pb 1002 0), (3, .pb 1003 0), (4, .pb 1004 0), (6, .pb 1006 0), (9, .pb 1009 0), (10, .t (.sl 1 ((IJ w e).1.map A6))), (15, .t (.v (.int .i64 p.1.1)))], [(1002, some (.box [.h 1900, .t (.v (.int .i64 w.now)), .t (.v (.int .i64 w.marks)), .h 2900])), (1003, some (.box ((C5 e).map .t))), (1004, some (.box [.nil, .t (.v (.int .i64 0)), .t (.v (.int .i64 0)), .nil])), (1006, some (.box ((Ai p.1.2).map .t))), (1009, some (.box [.t (.v (.string (Jb w e).frm.user)), .t (.v (.string (Jb w e).frm.domain)), .t (.sl 2 ((Jb w e).to.map Am)), .t (.sl 1 ((Jb w e).body.map AG))])), (1900, some (.arr false 7 ((w.hosts.set e.to.toNat (xU w e)).map Ai))), (2900, some (.arr true 3 (w.given.map Av)))]⟩) (fun p => (IJ w e).1.length - p.1.1) ⟨(0, (Ap w e.host)), Nat.zero_le _, a1, a2, rfl, fun j _ hj => ht _ (AF hj), fun _ => rfl, rfl⟩ rfl ?_ ?_
    ·simp -implicitDefEqProofs only [go_sem, hh, seval]
     first | (simp; done) | skip
    ·rintro ⟨⟨k, y⟩, hk, y1, y2, y3, y4, y5, hv⟩
     dsimp only at hk y1 y2 y3 y4 y5 hv
     have yo := Dq y1 y2 (by omega)
     have ysp := y1.2.2.2
     by_cases hex : k < (IJ w e).1.length ∧ e.lose = false
     ·obtain ⟨hk1, hk2⟩ := hex
      have hk3 : (k : Int) < (IJ w e).1.length := by omega
      have htd := y4 k (Nat.le_refl _) (by omega)
      have z := bh (out := (IJ w e).1.getD k default) y1 y2 htd hw2
      simp -implicitDefEqProofs only [hk3, hk2, Bool.not_false, eq_self, decide_true, decide_false, go_sem, hh, seval]
      with_reducible repeat' (first | apply ai | intro _ | ((first | apply s1 | apply s3 | apply s4) <;> intro hb <;> simp -implicitDefEqProofs only [hb, go_sem, hh, seval] <;> try simp only [qz] at hb))
      all_goals (try simp only [maxLen, tn, AX, AW, lm] at *)
      all_goals first | with_reducible rfl | omega | with_reducible assumption | (show _ = true; rfl) | contradiction | decide | exact yo.2.1 | exact htd.1 | exact htd.2 | exact .inr ⟨yo, hw2⟩ | (rw [hk2]; done) | skip
      refine ⟨⟨(k + 1, Ip y e.id ((Jb w e).to.getD k default) ((IJ w e).1.getD k default) w.now), by dsimp only; omega, z.1, z.2.1, z.2.2.1.trans y3, fun j hj hj2 => z.2.2.2 _ (y4 j (by dsimp only at hj; omega) hj2) (fun u => vd hd (by dsimp only at hj; omega) hj2 u), fun u => (by rw [hk2] at u; cases u), (wg (by omega) hk1).symm.trans hv⟩, by dsimp only; omega, ?_⟩
      simp -implicitDefEqProofs only [go_sem, hh, seval]
      first | (simp only [Ip]; simp [hk2]; done) | (simp only [Ip, hk2]; simp; done) | skip
     ·have hA : th w e = y := by
        unfold th
        cases hlo : e.lose
        ·rw [we (Nat.le_of_not_lt fun u => hex ⟨u, hlo⟩)] at hv
         exact hv.symm
        ·exact (y5 hlo).symm
      have hR : xT w e = ⟨(w.hosts.set e.to.toNat (xU w e)).set e.host.toNat y, w.now, w.marks, w.given⟩ := by unfold xT; rw [hA]; rfl
      rw [hR]
      simp -implicitDefEqProofs only [List.length_set, eq_self, decide_true, decide_false, go_sem, hh, seval]
      with_reducible repeat' (first | apply ai | intro _ | ((first | apply s1 | apply s3 | apply s4) <;> intro hb <;> simp -implicitDefEqProofs only [hb, go_sem, hh, seval] <;> try simp only [qz] at hb))
      all_goals (try simp only [maxLen, tn, AX, AW, lm] at *)
      all_goals first | with_reducible rfl | omega | with_reducible assumption | (show _ = true; rfl) | contradiction | decide | exact absurd ⟨by omega, by assumption⟩ hex | skip
 all_goals
  try rw [hx.1]
  simp -implicitDefEqProofs only [Tryz.f169, hx, eq_self, decide_true, decide_false, Int.reduceEq, go_sem, hh, seval]
  with_reducible repeat' (first | apply ai | intro _ | ((first | apply s1 | apply s3 | apply s4) <;> intro hb <;> simp -implicitDefEqProofs only [hb, go_sem, hh, seval] <;> try simp only [qz] at hb))
  all_goals (try simp only [maxLen, tn, lm] at *)
  all_goals first | rfl | omega | decide | with_reducible assumption | (show AU _ = true; rfl) | exact Hv (by assumption) | contradiction | (show _ = T.v _; rfl) | (show _ = List.map Av _; rfl) | skip
end
theorem KS {d k : Nat} {xs : List AV} {s : AS} : Df d (.agg xs) .any k s = (s, k) := rfl
theorem IV {xs : List AV} : BH (.agg xs) .any = [] := rfl
noncomputable def zR (w : Wd) (k : Int) : Wd := XR w k (EL (Ap w k).conf w.now (Ap w k).spool.items (Ap w k))
def zV (w : Wd) (n : Int) : Wd := ⟨w.hosts, w.now + n, w.marks, w.given⟩
open Classical in
noncomputable def ET (w : Wd) (e : Ev) : Wd × Bool :=
 if e.kind = 1 then XY w e
 else if e.kind = 2 then ce w e
 else if e.kind = 3 then Kk w e
 else if e.kind = 4 then (if 0 ≤ e.host ∧ e.host ≤ (w.hosts.length : Int) - 1 then (zR w e.host, true) else (w, false))
 else if e.kind = 5 then (if (1 ≤ e.id ∧ e.id ≤ 40) ∧ ¬ w.now + e.id > 9999 then (zV w e.id, true) else (w, false))
 else (w, false)
section
variable {w : Wd} {e : Ev}
theorem uo (h : e.kind = 1) : ET w e = XY w e := if_pos h
theorem uq (h : e.kind = 2) : ET w e = ce w e := by unfold ET; rw [if_neg (by omega), if_pos h]
theorem ur (h : e.kind = 3) : ET w e = Kk w e := by unfold ET; rw [if_neg (by omega), if_neg (by omega), if_pos h]
theorem ut (h : e.kind = 4) (q : 0 ≤ e.host ∧ e.host ≤ (w.hosts.length : Int) - 1) : ET w e = (zR w e.host, true) := by unfold ET; rw [if_neg (by omega), if_neg (by omega), if_neg (by omega), if_pos h, if_pos q]
theorem px (h : e.kind = 4) (q : ¬ (0 ≤ e.host ∧ e.host ≤ (w.hosts.length : Int) - 1)) : ET w e = (w, false) := by unfold ET; rw [if_neg (by omega), if_neg (by omega), if_neg (by omega), if_pos h, if_neg q]
theorem uu (h : e.kind = 5) (q : (1 ≤ e.id ∧ e.id ≤ 40) ∧ ¬ w.now + e.id > 9999) : ET w e = (zV w e.id, true) := by unfold ET; rw [if_neg (by omega), if_neg (by omega), if_neg (by omega), if_neg (by omega), if_pos h, if_pos q]
theorem Zr (h : e.kind = 5) (q : ¬ ((1 ≤ e.id ∧ e.id ≤ 40) ∧ ¬ w.now + e.id > 9999)) : ET w e = (w, false) := by unfold ET; rw [if_neg (by omega), if_neg (by omega), if_neg (by omega), if_neg (by omega), if_pos h, if_neg q]
theorem um (h : ¬ e.kind = 1 ∧ ¬ e.kind = 2 ∧ ¬ e.kind = 3 ∧ ¬ e.kind = 4 ∧ ¬ e.kind = 5) : ET w e = (w, false) := by unfold ET; rw [if_neg h.1, if_neg h.2.1, if_neg h.2.2.1, if_neg h.2.2.2.1, if_neg h.2.2.2.2]
end
theorem Zs {N : Nat} {w : Wd} {e : Ev} (q : HO N w) (hN : N ≤ 1000000) : HO (N + 40) (ET w e).1 := by
 have hl := q.2.1
 unfold ET
 split
 ·exact wN q
 ·split
  ·exact A8 (wh q) (by omega)
  ·split
   ·exact A8 (qN q) (by omega)
   ·split
    ·split
     ·rename_i h
      have hH := q.1 _ (AF (xs := w.hosts) (j := e.host.toNat) (by omega))
      have z := sC (w := w.now) hH.1 hH.2 (by omega)
      exact Nw (A8 q (by omega)) z.1 z.2
     ·exact A8 q (by omega)
    ·split
     ·split
      ·rename_i h
       refine A8 (N := N) ⟨q.1, q.2.1, ?_, q.2.2.2⟩ (by omega)
       have := q.2.2.1
       show 0 ≤ w.now + e.id ∧ w.now + e.id ≤ 9999
       omega
      ·exact A8 q (by omega)
     ·exact A8 q (by omega)
def Y1 : Mt := pc [[], [none, none, none, none, none, none, none, none, some 2, some 1]] (lc me (lc OL.ag l0)) (fun p => HO 1000000 p.1 ∧ cq p.2.1) (fun p => ([.any, OL.ag.enc p.2.1], .tup [HN (ET p.1 p.2.1).1, .t (.v (.bool (ET p.1 p.2.1).2))]))
def uV : Mt := GN (lc me (lc OL.ag l0)) (fun p => HO 1000000 p.1 ∧ cq p.2.1) (fun p => ([.any, OL.ag.enc p.2.1], .tup [HN (ET p.1 p.2.1).1, .t (.v (.bool (ET p.1 p.2.1).2))]))
section
attribute [local go_sem] eC eD eE eF Ju KS IV List.append_assoc List.nil_append CU F6 F5 HN.eq_1 Gc.eq_1 Aa Bd LK lm AS.opn AS.cls AS.nilb AS.renb AS.up Bool.not_false Bool.not_true List.set_set List.set_cons_zero List.set_cons_succ List.set_nil List.mem_singleton forall_eq tn List.map_nil
set_option maxHeartbeats 6400000 in
theorem r7 {G : Gt} (hG : Ah G) (hh : G.e 168 = AM eC ∧ G.e 169 = AM eD ∧ G.e 170 = AM eE ∧ G.e 171 = AA 1 eF ∧ G.e 69 = AA 0 Ju) : Gd G 141 (AM uV) := by
 refine If (dp := fun _ => true) (fn := Tryz.f141) (n := 2) rfl rfl hG ?_
 rintro ⟨w, e, ⟨⟩⟩ hpre
 obtain ⟨hw, hE⟩ := hpre
 try dsimp only at hw hE ⊢
 have hl := hw.2.1
 refine BL (e.kind = 1) (fun k1 => have k1' := decide_eq_true k1; have hx := And.intro (uo k1 : ET w e = _) k1'; ?_) (fun k1 => have k1' := decide_eq_false k1; BL (e.kind = 2) (fun k2 => have k2' := decide_eq_true k2; have hx := And.intro (uq k2 : ET w e = _) (And.intro k1' k2'); ?_) (fun k2 => have k2' := decide_eq_false k2; BL (e.kind = 3) (fun k3 => have k3' := decide_eq_true k3; have hx := And.intro (ur k3 : ET w e = _) (And.intro k1' (And.intro k2' k3')); ?_) (fun k3 => have k3' := decide_eq_false k3; BL (e.kind = 4) (fun k4 => have k4' := decide_eq_true k4; BL (0 ≤ e.host ∧ e.host ≤ (w.hosts.length : Int) - 1) (fun h2 => have h2' := Ae h2; ?w1) (fun h2 => have h2' := AN h2; have hx := And.intro (px k4 h2 : ET w e = _) (And.intro k1' (And.intro k2' (And.intro k3' (And.intro k4' h2')))); ?_)) (fun k4 => have k4' := decide_eq_false k4; BL (e.kind = 5) (fun k5 => have k5' := decide_eq_true k5; BL (1 ≤ e.id ∧ e.id ≤ 40) (fun h2 => have h2' := Ae h2; ?w2) (fun h2 => have h2' := AN h2; have hx := And.intro (Zr k5 (fun q => h2 q.1) : ET w e = _) (And.intro k1' (And.intro k2' (And.intro k3' (And.intro k4' (And.intro k5' h2'))))); ?_)) (fun k5 => have k5' := decide_eq_false k5; have hx := And.intro (um ⟨k1, k2, k3, k4, k5⟩ : ET w e = _) (And.intro k1' (And.intro k2' (And.intro k3' (And.intro k4' k5')))); ?_)))))
 case w1 =>
  have hH := hw.1 _ (AF (xs := w.hosts) (j := e.host.toNat) (by omega))
  have oa := Dq hH.1 hH.2 (by decide)
  have hs := Db.2 hH.1
  rw [ut k4 h2]
  simp -implicitDefEqProofs only [Tryz.f141, k1', k2', k3', k4', h2', eq_self, decide_true, decide_false, Int.reduceEq, go_sem, hh, seval]
  with_reducible repeat' (first | apply ai | intro _ | ((first | apply s1 | apply s3 | apply s4) <;> intro hb <;> simp -implicitDefEqProofs only [hb, go_sem, hh, seval] <;> try simp only [qz] at hb))
  all_goals (try simp only [maxLen, tn, AX, AW] at *)
  all_goals first | rfl | omega | decide | with_reducible assumption | (show AU _ = true; rfl) | exact Hv (by assumption) | contradiction | (show _ = T.v _; rfl) | (show _ = List.map Av _; rfl) | (show _ = List.map Ai _; rfl) | skip
 case w2 =>
  have hnw := hw.2.2.1
  by_cases h3 : w.now + e.id > 9999
  ·rw [Zr k5 (fun q => q.2 h3)]
   simp -implicitDefEqProofs only [Tryz.f141, h3, k1', k2', k3', k4', k5', h2', eq_self, decide_true, decide_false, Int.reduceEq, go_sem, hh, seval]
   with_reducible repeat' (first | apply ai | intro _ | ((first | apply s1 | apply s3 | apply s4) <;> intro hb <;> simp -implicitDefEqProofs only [hb, go_sem, hh, seval] <;> try simp only [qz] at hb))
   all_goals (try simp only [maxLen, tn, AX, AW] at *)
   all_goals first | rfl | omega | decide | with_reducible assumption | (show AU _ = true; rfl) | exact Hv (by assumption) | contradiction | (show _ = T.v _; rfl) | (show _ = List.map Av _; rfl) | skip
  ·rw [uu k5 ⟨h2, h3⟩]
   simp -implicitDefEqProofs only [Tryz.f141, h3, k1', k2', k3', k4', k5', h2', eq_self, decide_true, decide_false, Int.reduceEq, go_sem, hh, seval]
   with_reducible repeat' (first | apply ai | intro _ | ((first | apply s1 | apply s3 | apply s4) <;> intro hb <;> simp -implicitDefEqProofs only [hb, go_sem, hh, seval] <;> try simp only [qz] at hb))
   all_goals (try simp only [maxLen, tn, AX, AW] at *)
   all_goals first | rfl | omega | decide | with_reducible assumption | (show AU _ = true; rfl) | exact Hv (by assumption) | contradiction | (show _ = T.v _; rfl) | (show _ = List.map Av _; rfl) | (show _ = List.map Ai _; rfl) | skip
 all_goals
  try rw [hx.1]
  simp -implicitDefEqProofs only [Tryz.f141, hx, eq_self, decide_true, decide_false, Int.reduceEq, go_sem, hh, seval]
  with_reducible repeat' (first | apply ai | intro _ | ((first | apply s1 | apply s3 | apply s4) <;> intro hb <;> simp -implicitDefEqProofs only [hb, go_sem, hh, seval] <;> try simp only [qz] at hb))
  all_goals (try simp only [maxLen, tn, lm] at *)
  all_goals first | rfl | omega | decide | with_reducible assumption | (show AU _ = true; rfl) | exact Hv (by assumption) | contradiction | (show _ = T.v _; rfl) | (show _ = List.map Av _; rfl) | skip
end
theorem fw {G : Gt} (hG : Ah G) (hh : G.e 168 = AM eC ∧ G.e 169 = AM eD ∧ G.e 170 = AM eE ∧ G.e 171 = AA 1 eF ∧ G.e 69 = AA 0 Ju) : Gd G 141 (AM Y1) := Gx.ofMz (fun _ => rfl) (r7 hG hh)
def Qm (cs : List Cf) : Prop := GY HT cs ∧ (∀ c ∈ cs, HQ c) ∧ mz (FP cs)
theorem Qn {cs : List Cf} (h : Qm cs) : HO 0 (FP cs) := by
 have hl : (FP cs).hosts.length = cs.length := lm _
 have h4 := h.2.2.2.2.2.1
 refine ⟨fun x hx => ?_, ⟨by omega, by omega⟩, ⟨Int.le_refl _, by show (0 : Int) ≤ 9999; decide⟩, ⟨Int.le_refl _, by show (0 : Int) ≤ 60; decide⟩, Nat.le_refl _, fun _ q => by cases q⟩
 obtain ⟨c, hc, rfl⟩ := List.mem_map.1 hx
 exact VN (h.2.1 c hc)
def Y4 : Ct := Ak (lc IH.asl l0) (fun p => Qm p.1) (fun p => HN (FP p.1))
section
attribute [local go_sem] ud Yz xJ HN.eq_1 CU AX AW lm List.length_append List.length_cons List.length_nil List.map_append List.map_nil Nat.zero_add Aa AS.opn AS.cls AS.nilb AS.renb AS.up Bool.not_false Bool.not_true List.set_set List.set_cons_zero List.set_cons_succ List.set_nil List.mem_singleton forall_eq tn List.nil_append
set_option maxHeartbeats 3200000 in
theorem gK {G : Gt} (hG : Ah G) (hh : G.e 86 = AA 0 ud ∧ G.e 117 = AA 0 Yz ∧ G.e 57 = AA 0 xJ) : Gd G 165 (AA 1 Y4) := by
 refine Lo (dp := fun n => !(Nat.beq n 100002 || Nat.beq n 100004 || Nat.beq n 27 || Nat.beq n 28)) (fn := Tryz.f165) (n := 1) rfl rfl hG ?_
 rintro ⟨cs, ⟨⟩⟩ hpre
 have hok : GY HT cs := hpre.1
 have hcs := hpre.2.1
 have hwd := hpre.2.2
 have hmx := hok.1
 have b8 := Ae hwd
 simp -implicitDefEqProofs only [Tryz.f165, go_sem, hh, seval]
 with_reducible repeat' (first | apply ai | intro _ | ((first | apply s1 | apply s3 | apply s4) <;> intro hb <;> simp -implicitDefEqProofs only [hb, go_sem, hh, seval] <;> try simp only [qz] at hb))
 all_goals first | with_reducible rfl | omega | with_reducible assumption | (show _ = true; rfl) | contradiction | decide | skip
 refine Ag (Le.nilb 1003 0 1901 false 7 rfl rfl rfl) ?_
 simp -implicitDefEqProofs only [go_sem, hh, seval]
 refine Ag (Le.nilb 1003 3 1902 true 3 rfl rfl rfl) (AY ?_)
 simp -implicitDefEqProofs only [go_sem, hh, seval]
 with_reducible repeat' (first | apply ai | intro _ | ((first | apply s1 | apply s3 | apply s4) <;> intro hb <;> simp -implicitDefEqProofs only [hb, go_sem, hh, seval] <;> try simp only [qz] at hb))
 all_goals first | with_reducible rfl | omega | with_reducible assumption | (show _ = true; rfl) | contradiction | decide | skip
 refine AE [] (ι := {i : Nat // i ≤ cs.length}) (fun p => ⟨[(0, .t (.sl 3 (cs.map Cu))), (2, .pb 1002 0), (3, .pb 1003 0), (4, .t (.v (.int .i64 p.1)))], [(1002, some (.box [.nil, .t (.v (.int .i64 0)), .t (.v (.int .i64 0)), .nil])), (1003, some (.box [.h 1901, .t (.v (.int .i64 0)), .t (.v (.int .i64 0)), .h 1902])), (1902, some (.arr true 3 [])), (1901, some (.arr false 7 (((cs.map EM).take p.1).map Ai)))]⟩) (fun p => cs.length - p.1) ⟨0, by simp⟩ rfl ?_ ?_
 ·simp -implicitDefEqProofs only [go_sem, hh, seval]
  first | (simp; done) | skip
 ·rintro ⟨i, hi⟩
  try dsimp only at hi
  have hlen : ((cs.map EM).take i).length = i := by simp; omega
  by_cases hlt : (i : Int) < cs.length
  ·have hc := hok.at (i := i) (by omega)
   have b7 := Ae (hcs _ (AF (xs := cs) (j := i) (by omega)))
   simp -implicitDefEqProofs only [hlt, b7, decide_true, tn, go_sem, hh, seval]
   with_reducible repeat' (first | apply ai | intro _ | ((first | apply s1 | apply s3 | apply s4) <;> intro hb <;> simp -implicitDefEqProofs only [hb, go_sem, hh, seval] <;> try simp only [qz] at hb))
   all_goals (try simp only [maxLen, tn] at *)
   all_goals first | with_reducible rfl | omega | with_reducible assumption | (show _ = true; rfl) | contradiction | decide | skip
   refine Ag (Le.lastR 1028 rfl (.cons (.same _) (.cons (.same _) (.cons (.same _) (.cons (.same _) (.cons (.nil 5) (.cons (.nil 3) (.cons (.nil 3) .nil)))))))) ?_
   simp -implicitDefEqProofs only [go_sem, hh, seval]
   refine Ag (Le.renb 1003 0 1028 1901 rfl rfl rfl rfl) (AY ?_)
   simp -implicitDefEqProofs only [go_sem, hh, seval]
   with_reducible repeat' (first | apply ai | intro _ | ((first | apply s1 | apply s3 | apply s4) <;> intro hb <;> simp -implicitDefEqProofs only [hb, go_sem, hh, seval] <;> try simp only [qz] at hb))
   all_goals first | with_reducible rfl | omega | with_reducible assumption | (show _ = true; rfl) | contradiction | decide | skip
   refine ⟨⟨i + 1, by omega⟩, by dsimp only; omega, ?_⟩
   simp -implicitDefEqProofs only [go_sem, hh, seval]
   simp only [cX (f := EM) (show i < cs.length by omega)]
   with_reducible repeat' (first | apply ai | intro _ | ((first | apply s1 | apply s3 | apply s4) <;> intro hb <;> simp -implicitDefEqProofs only [hb, go_sem, hh, seval] <;> try simp only [qz] at hb))
   all_goals first | rfl | (simp; done) | skip
  ·have htk : (cs.map EM).take i = cs.map EM := List.take_of_length_le (by rw [lm]; omega)
   have hnw : (⟨cs.map EM, 0, 0, []⟩ : Wd) = FP cs := rfl
   simp -implicitDefEqProofs only [hlt, decide_false, htk, hnw, b8, go_sem, hh, seval]
   with_reducible repeat' (first | apply ai | intro _ | ((first | apply s1 | apply s3 | apply s4) <;> intro hb <;> simp -implicitDefEqProofs only [hb, go_sem, hh, seval] <;> try simp only [qz] at hb))
   all_goals (try simp only [maxLen, tn] at *)
   all_goals first | with_reducible rfl | omega | with_reducible assumption | (show _ = true; rfl) | contradiction | decide | rfl | exact absurd hwd (by assumption) | skip
end
noncomputable def sg : List Ev → Wd → Wd
 | [], w => w
 | e :: t, w => sg t (ET w e).1
theorem lq : ∀ (es : List Ev) {w : Wd} {N : Nat}, HO N w → N + 40 * es.length ≤ 1000000 → HO (N + 40 * es.length) (sg es w)
 | [], w, N, q, _ => q
 | e :: t, w, N, q, h => by
   rw [List.length_cons] at h ⊢
   have z := lq t (Zs (e := e) q (by omega)) (by omega)
   have e2 : N + 40 * (t.length + 1) = N + 40 + 40 * t.length := by omega
   rw [e2]; exact z
theorem wC {es : List Ev} {i : Nat} {w : Wd} (h : i < es.length) : sg (es.drop i) w = sg (es.drop (i + 1)) (ET w (es.getD i default)).1 := by rw [AZ h]; rfl
noncomputable def wD (cs : List Cf) (es : List Ev) : Wd := sg (es.take 40) (FP cs)
theorem wE {cs : List Cf} (h : Qm cs) (es : List Ev) : HO 1600 (wD cs es) := by
 have hl : (es.take 40).length ≤ 40 := by rw [List.length_take]; omega
 exact A8 (lq (es.take 40) (Qn h) (by omega)) (by omega)
theorem Nz (w : Wd) : HN w = .agg [.o false 7 (w.hosts.map Ai), .t (.v (.int .i64 w.now)), .t (.v (.int .i64 w.marks)), .o true 3 (w.given.map Av)] := rfl
def nn : Ct := Ak (lc IH.asl (lc OL.asl l0)) (fun p => Qm p.1 ∧ (∀ e ∈ p.2.1, cq e) ∧ p.2.1.length ≤ 1000000) (fun p => HN (wD p.1 p.2.1))
section
attribute [local go_sem] Y4 Y1 UZ VR bT bN bS bR VQ li U8 U9 lK Nz KS IV F6 F5 CU lm Aa Gc.eq_1 AS.opn AS.cls AS.nilb AS.renb AS.up Bool.not_false Bool.not_true List.set_set List.set_cons_zero List.set_cons_succ List.set_nil List.mem_singleton forall_eq tn List.map_nil List.nil_append
set_option maxHeartbeats 3200000 in
theorem ft {G : Gt} (hG : Ah G) (hh : G.e 165 = AA 1 Y4 ∧ G.e 141 = AM Y1) : Gd G 139 (AA 1 nn) := by
 refine Lo (dp := fun n => !(Nat.beq n 100002 || Nat.beq n 100004)) (fn := Tryz.f139) (n := 2) rfl rfl hG ?_
 rintro ⟨cs, es, ⟨⟩⟩ hpre
 obtain ⟨hc, he, hel⟩ := hpre
 try dsimp only at hc he hel ⊢
 have hl40 : (es.take 40).length ≤ 40 := by rw [List.length_take]; omega
 have hle : (es.take 40).length ≤ es.length := by rw [List.length_take]; omega
 simp -implicitDefEqProofs only [Tryz.f139, go_sem, hh, seval]
 with_reducible repeat' (first | apply ai | intro _ | ((first | apply s1 | apply s3 | apply s4) <;> intro hb <;> simp -implicitDefEqProofs only [hb, go_sem, hh, seval] <;> try simp only [qz] at hb))
 all_goals first | with_reducible rfl | omega | with_reducible assumption | (show _ = true; rfl) | contradiction | decide | skip
 refine Ag (Le.renb 1005 0 1010 1901 rfl rfl rfl rfl) ?_
 simp -implicitDefEqProofs only [go_sem, hh, seval]
 refine Ag (Le.renb 1005 3 2010 1902 rfl rfl rfl rfl) (AY ?_)
 simp -implicitDefEqProofs only [go_sem, hh, seval]
 with_reducible repeat' (first | apply ai | intro _ | ((first | apply s1 | apply s3 | apply s4) <;> intro hb <;> simp -implicitDefEqProofs only [hb, go_sem, hh, seval] <;> try simp only [qz] at hb))
 all_goals first | with_reducible rfl | omega | with_reducible assumption | (show _ = true; rfl) | contradiction | decide | skip
 refine AE [] (ι := {p : Nat × Wd // p.1 ≤ (es.take 40).length ∧ HO (40 * p.1) p.2 ∧ sg ((es.take 40).drop p.1) p.2 = wD cs es}) (fun p => ⟨[(1, .t (.sl 10 (es.map C5))), (4, .pb 1004 0), (5, .pb 1005 0), (6, .t (.v (.int .i64 p.1.1)))], [(1004, some (.box [.nil, .t (.v (.int .i64 0)), .t (.v (.int .i64 0)), .nil])), (1005, some (.box [.h 1901, .t (.v (.int .i64 p.1.2.now)), .t (.v (.int .i64 p.1.2.marks)), .h 1902])), (1901, some (.arr false 7 (p.1.2.hosts.map Ai))), (1902, some (.arr true 3 (p.1.2.given.map Av)))]⟩) (fun p => (es.take 40).length - p.1.1) ⟨(0, FP cs), Nat.zero_le _, Qn hc, rfl⟩ rfl ?_ ?_
 ·simp -implicitDefEqProofs only [go_sem, hh, seval]
  first | (simp; done) | skip
 ·rintro ⟨⟨i, x⟩, hi, hx, hv⟩
  dsimp only at hi hx hv
  have hxl := hx.2.1
  have hlm : (es.take 40).length = min 40 es.length := List.length_take
  by_cases hlt : i < (es.take 40).length
  ·have hi1 : (i : Int) < es.length := by omega
   have hi2 : (i : Int) < 40 := by omega
   have hi3 : ((x.hosts.length : Nat) : Int) > 0 := by omega
   have hE := he _ (AF (xs := es) (j := i) (by omega))
   have hg : (es.take 40).getD i default = es.getD i default := by simp [List.getD_eq_getElem?_getD, List.getElem?_take, show i < 40 by omega]
   simp -implicitDefEqProofs only [hi1, hi2, hi3, eq_self, decide_true, decide_false, go_sem, hh, seval]
   with_reducible repeat' (first | apply ai | intro _ | ((first | apply s1 | apply s3 | apply s4) <;> intro hb <;> simp -implicitDefEqProofs only [hb, go_sem, hh, seval] <;> try simp only [qz] at hb))
   all_goals (try simp only [maxLen, tn] at *)
   all_goals first | with_reducible rfl | omega | with_reducible assumption | (show _ = true; rfl) | contradiction | decide | exact A8 hx (by omega) | exact ⟨A8 hx (by omega), hE⟩ | skip
   refine Ag (Le.renb 1005 0 1033 1901 rfl rfl rfl rfl) ?_
   simp -implicitDefEqProofs only [go_sem, hh, seval]
   refine Ag (Le.renb 1005 3 2033 1902 rfl rfl rfl rfl) (AY ?_)
   simp -implicitDefEqProofs only [go_sem, hh, seval]
   with_reducible repeat' (first | apply ai | intro _ | ((first | apply s1 | apply s3 | apply s4) <;> intro hb <;> simp -implicitDefEqProofs only [hb, go_sem, hh, seval] <;> try simp only [qz] at hb))
   all_goals first | with_reducible rfl | omega | with_reducible assumption | (show _ = true; rfl) | contradiction | decide | skip
   refine ⟨⟨(i + 1, (ET x (es.getD i default)).1), by dsimp only; omega, by dsimp only; rw [Nat.mul_succ]; exact Zs hx (by omega), by rw [← hg]; exact (wC hlt).symm.trans hv⟩, by dsimp only; omega, ?_⟩
   simp -implicitDefEqProofs only [go_sem, hh, seval]
   first | (simp; done) | skip
  ·rw [List.drop_of_length_le (by omega), sg] at hv
   subst hv
   simp -implicitDefEqProofs only [go_sem, hh, seval]
   with_reducible repeat' (first | apply ai | intro _ | ((first | apply s1 | apply s3 | apply s4) <;> intro hb <;> simp -implicitDefEqProofs only [hb, go_sem, hh, seval] <;> try simp only [qz] at hb))
   all_goals (try simp only [maxLen, tn] at *)
   all_goals first | with_reducible rfl | omega | with_reducible assumption | (show _ = true; rfl) | contradiction | decide | exact absurd (by omega) hlt | skip
end
def Ln (w : Wd) (h n : Int) (q : Rd) : Ev × Rd :=
 if Ac q 9 = 0 ∨ Ac q 9 = 1 then (⟨1, h, 0, 0, GQ (q.nx 1) [40, 40, 12, 17, 18], false, Ge (q.nx 2)⟩, Fu (q.nx 2))
 else if Ac q 9 = 2 ∨ Ac q 9 = 3 ∨ Ac q 9 = 4 then (⟨2, h, Ac (q.nx 1) w.hosts.length, n, GQ (q.nx 2) [40, 40, 40, 3, 9, 13, 14, 15, 16, 17, 18], decide (Ac (q.nx 3) 6 = 0), XG⟩, q.nx 4)
 else if Ac q 9 = 5 then (⟨3, h, 0, n, 0, decide (Ac (q.nx 1) 2 = 0), XG⟩, q.nx 2)
 else if Ac q 9 = 6 then (⟨4, h, 0, 0, 0, false, XG⟩, q.nx 1)
 else if Ac q 9 = 7 then (⟨GQ (q.nx 1) [0, 6, 5], 0, 0, GQ (q.nx 2) [1, 40, 0, 41], 0, false, XG⟩, q.nx 3)
 else (⟨5, 0, 0, 1 + Ac (q.nx 1) 12, 0, false, XG⟩, q.nx 2)
def u3 (r : Rd) (xs : List Im) : Int × Rd :=
 if (xs.length : Int) > 0 then (if Ac (r.nx 2) 6 > 0 then ((xs.getD (Ac (r.nx 3) xs.length).toNat default).id, r.nx 4) else (Ac (r.nx 1) 4 + 1, r.nx 3)) else (Ac (r.nx 1) 4 + 1, r.nx 2)
abbrev Qi (r : Rd) (w : Wd) : List Im := (w.hosts.getD (Ac r w.hosts.length).toNat default).spool.items
def CN (r : Rd) (w : Wd) : Ev × Rd := Ln w (Ac r w.hosts.length) (u3 r (Qi r w)).1 (u3 r (Qi r w)).2
section
variable {r q : Rd} {w : Wd} {h n : Int}
theorem Z1 (c : Ac q 9 = 0) : Ln w h n q = (⟨1, h, 0, 0, GQ (q.nx 1) [40, 40, 12, 17, 18], false, Ge (q.nx 2)⟩, Fu (q.nx 2)) := if_pos (.inl c)
theorem Z2 (c : Ac q 9 = 1) : Ln w h n q = (⟨1, h, 0, 0, GQ (q.nx 1) [40, 40, 12, 17, 18], false, Ge (q.nx 2)⟩, Fu (q.nx 2)) := if_pos (.inr c)
theorem Hm (c : Ac q 9 = 2 ∨ Ac q 9 = 3 ∨ Ac q 9 = 4) : Ln w h n q = (⟨2, h, Ac (q.nx 1) w.hosts.length, n, GQ (q.nx 2) [40, 40, 40, 3, 9, 13, 14, 15, 16, 17, 18], decide (Ac (q.nx 3) 6 = 0), XG⟩, q.nx 4) := by unfold Ln; rw [if_neg (by omega), if_pos c]
theorem Z3 (c : Ac q 9 = 5) : Ln w h n q = (⟨3, h, 0, n, 0, decide (Ac (q.nx 1) 2 = 0), XG⟩, q.nx 2) := by unfold Ln; rw [if_neg (by omega), if_neg (by omega), if_pos c]
theorem Z4 (c : Ac q 9 = 6) : Ln w h n q = (⟨4, h, 0, 0, 0, false, XG⟩, q.nx 1) := by unfold Ln; rw [if_neg (by omega), if_neg (by omega), if_neg (by omega), if_pos c]
theorem Z5 (c : Ac q 9 = 7) : Ln w h n q = (⟨GQ (q.nx 1) [0, 6, 5], 0, 0, GQ (q.nx 2) [1, 40, 0, 41], 0, false, XG⟩, q.nx 3) := by unfold Ln; rw [if_neg (by omega), if_neg (by omega), if_neg (by omega), if_neg (by omega), if_pos c]
theorem Z6 (c : ¬ Ac q 9 = 0 ∧ ¬ Ac q 9 = 1 ∧ ¬ Ac q 9 = 2 ∧ ¬ Ac q 9 = 3 ∧ ¬ Ac q 9 = 4 ∧ ¬ Ac q 9 = 5 ∧ ¬ Ac q 9 = 6 ∧ ¬ Ac q 9 = 7) : Ln w h n q = (⟨5, 0, 0, 1 + Ac (q.nx 1) 12, 0, false, XG⟩, q.nx 2) := by unfold Ln; rw [if_neg (by omega), if_neg (by omega), if_neg (by omega), if_neg (by omega), if_neg (by omega)]
theorem Gp (a : ((Qi r w).length : Int) > 0) (b : Ac (r.nx 2) 6 > 0) : CN r w = Ln w (Ac r w.hosts.length) ((Qi r w).getD (Ac (r.nx 3) (Qi r w).length).toNat default).id (r.nx 4) := by unfold CN u3; rw [if_pos a, if_pos b]
theorem Gq (a : ((Qi r w).length : Int) > 0) (b : ¬ Ac (r.nx 2) 6 > 0) : CN r w = Ln w (Ac r w.hosts.length) (Ac (r.nx 1) 4 + 1) (r.nx 3) := by unfold CN u3; rw [if_pos a, if_neg b]
theorem Gr (a : ¬ ((Qi r w).length : Int) > 0) : CN r w = Ln w (Ac r w.hosts.length) (Ac (r.nx 1) 4 + 1) (r.nx 2) := by unfold CN u3; rw [if_neg a]
end
theorem Ky : E3 XG := ⟨⟨by show (0 : Nat) ≤ 1048576; decide, by show (0 : Nat) ≤ 1048576; decide⟩, ⟨by show ((0 : Nat) : Int) ≤ 1048576; decide, fun _ q => by cases q⟩, ⟨by show ((0 : Nat) : Int) ≤ 1048576; decide, fun _ q => by cases q⟩⟩
theorem Rl {w : Wd} {h n : Int} {q : Rd} (h0 : 0 ≤ q.p) (h1 : q.p ≤ 999990000) : cq (Ln w h n q).1 ∧ (Ln w h n q).2.b = q.b ∧ q.p ≤ (Ln w h n q).2.p ∧ (Ln w h n q).2.p ≤ q.p + 30 := by
 have hm := VI (r := q.nx 2) (by rw [AI]; omega) (by rw [AI]; omega)
 rw [AI, BK] at hm
 have hk := Ij (r := q.nx 2) (by rw [AI]; omega) (by rw [AI]; omega)
 have g1 : 0 ≤ GQ (q.nx 1) [40, 40, 12, 17, 18] ∧ GQ (q.nx 1) [40, 40, 12, 17, 18] ≤ 1000 := by
  have z := Hw (r := q.nx 1) (l := [40, 40, 12, 17, 18]) (by rw [AI]; omega) (by rw [AI]; omega) (by decide)
  simp only [List.mem_cons, List.not_mem_nil, or_false] at z
  omega
 have g2 : 0 ≤ GQ (q.nx 2) [40, 40, 40, 3, 9, 13, 14, 15, 16, 17, 18] ∧ GQ (q.nx 2) [40, 40, 40, 3, 9, 13, 14, 15, 16, 17, 18] ≤ 1000 := by
  have z := Hw (r := q.nx 2) (l := [40, 40, 40, 3, 9, 13, 14, 15, 16, 17, 18]) (by rw [AI]; omega) (by rw [AI]; omega) (by decide)
  simp only [List.mem_cons, List.not_mem_nil, or_false] at z
  omega
 unfold Ln
 split
 ·exact ⟨⟨HS hk, g1⟩, hm.1, by dsimp only; omega, by dsimp only; omega⟩
 ·split
  ·exact ⟨⟨Ky, g2⟩, BK .., by dsimp only; rw [AI]; omega, by dsimp only; rw [AI]; omega⟩
  ·split
   ·exact ⟨⟨Ky, by show (0 : Int) ≤ 0; decide, by show (0 : Int) ≤ 1000; decide⟩, BK .., by dsimp only; rw [AI]; omega, by dsimp only; rw [AI]; omega⟩
   ·split
    ·exact ⟨⟨Ky, by show (0 : Int) ≤ 0; decide, by show (0 : Int) ≤ 1000; decide⟩, BK .., by dsimp only; rw [AI]; omega, by dsimp only; rw [AI]; omega⟩
    ·split
     ·exact ⟨⟨Ky, by show (0 : Int) ≤ 0; decide, by show (0 : Int) ≤ 1000; decide⟩, BK .., by dsimp only; rw [AI]; omega, by dsimp only; rw [AI]; omega⟩
     ·exact ⟨⟨Ky, by show (0 : Int) ≤ 0; decide, by show (0 : Int) ≤ 1000; decide⟩, BK .., by dsimp only; rw [AI]; omega, by dsimp only; rw [AI]; omega⟩
theorem Z0 {r : Rd} {w : Wd} (h0 : 0 ≤ r.p) (h1 : r.p ≤ 999980000) : cq (CN r w).1 ∧ (CN r w).2.b = r.b ∧ r.p ≤ (CN r w).2.p ∧ (CN r w).2.p ≤ r.p + 34 := by
 by_cases a0 : ((Qi r w).length : Int) > 0
 ·by_cases a1 : Ac (r.nx 2) 6 > 0
  ·rw [Gp a0 a1]
   have z := Rl (w := w) (h := Ac r w.hosts.length) (n := ((Qi r w).getD (Ac (r.nx 3) (Qi r w).length).toNat default).id) (q := r.nx 4) (by rw [AI]; omega) (by rw [AI]; omega)
   rw [AI, BK] at z
   exact ⟨z.1, z.2.1, by omega, by omega⟩
  ·rw [Gq a0 a1]
   have z := Rl (w := w) (h := Ac r w.hosts.length) (n := Ac (r.nx 1) 4 + 1) (q := r.nx 3) (by rw [AI]; omega) (by rw [AI]; omega)
   rw [AI, BK] at z
   exact ⟨z.1, z.2.1, by omega, by omega⟩
 ·rw [Gr a0]
  have z := Rl (w := w) (h := Ac r w.hosts.length) (n := Ac (r.nx 1) 4 + 1) (q := r.nx 2) (by rw [AI]; omega) (by rw [AI]; omega)
  rw [AI, BK] at z
  exact ⟨z.1, z.2.1, by omega, by omega⟩
def oG : Mt := GN (lc DZ (lc jn.ag l0)) (fun p => (0 ≤ p.1.p ∧ p.1.p ≤ 999970000) ∧ 1 ≤ p.2.1.hosts.length ∧ p.2.1.hosts.length ≤ 1000) (fun p => ([DZ.enc (CN p.1 p.2.1).2, jn.ag.enc p.2.1], OL.ag.enc (CN p.1 p.2.1).1))
section
attribute [local go_sem] FS RO RE AI BK A0 A2 BB BX CJ BU BY lm List.length_append List.length_cons List.length_nil List.map_append List.map_nil Nat.zero_add List.nil_append AS.opn AS.cls AS.nilb AS.renb AS.up Bool.not_false Bool.not_true List.set_set List.set_cons_zero List.set_cons_succ List.set_nil List.mem_singleton forall_eq FC G6 G7 G8 Du Dv
set_option maxHeartbeats 6400000 in
theorem gb {G : Gt} (hG : Ah G) (hh : G.e 53 = AM FS ∧ G.e 31 = AM RO ∧ G.e 110 = AM RE) : Gd G 182 (AM oG) := by
 refine If (dp := fun _ => true) (fn := Tryz.f182) (n := 2) rfl rfl hG ?_
 rintro ⟨r, w, ⟨⟩⟩ hpre
 obtain ⟨⟨h1, h2⟩, hl1, hl2⟩ := hpre
 try dsimp only at h1 h2 hl1 hl2 ⊢
 have hb := Bq (r := r) (n := w.hosts.length) h1 (by omega)
 have hb3 : ((Qi r w).length : Int) > 0 → 0 ≤ Ac (r.nx 3) (Qi r w).length ∧ Ac (r.nx 3) (Qi r w).length < (Qi r w).length := fun q => by
  have z := Bq (r := r.nx 3) (n := (Qi r w).length) (by rw [AI]; omega) (by rw [AI]; omega)
  exact ⟨z.1, z.2 (by omega)⟩
 have ht : ∀ k : Int, 0 ≤ k → k ≤ 9 → 0 ≤ Ac (r.nx k) 12 ∧ Ac (r.nx k) 12 < 12 := fun k a b => by
  have z := Bq (r := r.nx k) (n := 12) (by rw [AI]; omega) (by rw [AI]; omega)
  exact ⟨z.1, z.2 (by decide)⟩
 have ht3 := ht 3 (by decide) (by decide)
 have ht4 := ht 4 (by decide) (by decide)
 have ht5 := ht 5 (by decide) (by decide)
 have hb1 := Bq (r := r.nx 1) (n := 4) (by rw [AI]; omega) (by rw [AI]; omega)
 refine BL (((Qi r w).length : Int) > 0) (fun a0 => BL (Ac (r.nx 2) 6 > 0) (fun a1 => BL (Ac (r.nx 4) 9 = 0) (fun c0 => have hx := And.intro ((Gp a0 a1).trans (Z1 c0) : CN r w = _) (And.intro a0 (And.intro a1 c0)); ?_) (fun c0 => BL (Ac (r.nx 4) 9 = 1) (fun c1 => have hx := And.intro ((Gp a0 a1).trans (Z2 c1) : CN r w = _) (And.intro a0 (And.intro a1 (And.intro c0 c1))); ?_) (fun c1 => BL (Ac (r.nx 4) 9 = 2) (fun c2 => have hx := And.intro ((Gp a0 a1).trans (Hm (.inl c2)) : CN r w = _) (And.intro a0 (And.intro a1 (And.intro c0 (And.intro c1 c2)))); ?_) (fun c2 => BL (Ac (r.nx 4) 9 = 3) (fun c3 => have hx := And.intro ((Gp a0 a1).trans (Hm (.inr (.inl c3))) : CN r w = _) (And.intro a0 (And.intro a1 (And.intro c0 (And.intro c1 (And.intro c2 c3))))); ?_) (fun c3 => BL (Ac (r.nx 4) 9 = 4) (fun c4 => have hx := And.intro ((Gp a0 a1).trans (Hm (.inr (.inr c4))) : CN r w = _) (And.intro a0 (And.intro a1 (And.intro c0 (And.intro c1 (And.intro c2 (And.intro c3 c4)))))); ?_) (fun c4 => BL (Ac (r.nx 4) 9 = 5) (fun c5 => have hx := And.intro ((Gp a0 a1).trans (Z3 c5) : CN r w = _) (And.intro a0 (And.intro a1 (And.intro c0 (And.intro c1 (And.intro c2 (And.intro c3 (And.intro c4 c5))))))); ?_) (fun c5 => BL (Ac (r.nx 4) 9 = 6) (fun c6 => have hx := And.intro ((Gp a0 a1).trans (Z4 c6) : CN r w = _) (And.intro a0 (And.intro a1 (And.intro c0 (And.intro c1 (And.intro c2 (And.intro c3 (And.intro c4 (And.intro c5 c6)))))))); ?_) (fun c6 => BL (Ac (r.nx 4) 9 = 7) (fun c7 => have hx := And.intro ((Gp a0 a1).trans (Z5 c7) : CN r w = _) (And.intro a0 (And.intro a1 (And.intro c0 (And.intro c1 (And.intro c2 (And.intro c3 (And.intro c4 (And.intro c5 (And.intro c6 c7))))))))); ?_) (fun c7 => have hx := And.intro ((Gp a0 a1).trans (Z6 ⟨c0, c1, c2, c3, c4, c5, c6, c7⟩) : CN r w = _) (And.intro a0 (And.intro a1 (And.intro c0 (And.intro c1 (And.intro c2 (And.intro c3 (And.intro c4 (And.intro c5 (And.intro c6 c7))))))))); ?_))))))))) (fun a1 => BL (Ac (r.nx 3) 9 = 0) (fun c0 => have hx := And.intro ((Gq a0 a1).trans (Z1 c0) : CN r w = _) (And.intro a0 (And.intro a1 c0)); ?_) (fun c0 => BL (Ac (r.nx 3) 9 = 1) (fun c1 => have hx := And.intro ((Gq a0 a1).trans (Z2 c1) : CN r w = _) (And.intro a0 (And.intro a1 (And.intro c0 c1))); ?_) (fun c1 => BL (Ac (r.nx 3) 9 = 2) (fun c2 => have hx := And.intro ((Gq a0 a1).trans (Hm (.inl c2)) : CN r w = _) (And.intro a0 (And.intro a1 (And.intro c0 (And.intro c1 c2)))); ?_) (fun c2 => BL (Ac (r.nx 3) 9 = 3) (fun c3 => have hx := And.intro ((Gq a0 a1).trans (Hm (.inr (.inl c3))) : CN r w = _) (And.intro a0 (And.intro a1 (And.intro c0 (And.intro c1 (And.intro c2 c3))))); ?_) (fun c3 => BL (Ac (r.nx 3) 9 = 4) (fun c4 => have hx := And.intro ((Gq a0 a1).trans (Hm (.inr (.inr c4))) : CN r w = _) (And.intro a0 (And.intro a1 (And.intro c0 (And.intro c1 (And.intro c2 (And.intro c3 c4)))))); ?_) (fun c4 => BL (Ac (r.nx 3) 9 = 5) (fun c5 => have hx := And.intro ((Gq a0 a1).trans (Z3 c5) : CN r w = _) (And.intro a0 (And.intro a1 (And.intro c0 (And.intro c1 (And.intro c2 (And.intro c3 (And.intro c4 c5))))))); ?_) (fun c5 => BL (Ac (r.nx 3) 9 = 6) (fun c6 => have hx := And.intro ((Gq a0 a1).trans (Z4 c6) : CN r w = _) (And.intro a0 (And.intro a1 (And.intro c0 (And.intro c1 (And.intro c2 (And.intro c3 (And.intro c4 (And.intro c5 c6)))))))); ?_) (fun c6 => BL (Ac (r.nx 3) 9 = 7) (fun c7 => have hx := And.intro ((Gq a0 a1).trans (Z5 c7) : CN r w = _) (And.intro a0 (And.intro a1 (And.intro c0 (And.intro c1 (And.intro c2 (And.intro c3 (And.intro c4 (And.intro c5 (And.intro c6 c7))))))))); ?_) (fun c7 => have hx := And.intro ((Gq a0 a1).trans (Z6 ⟨c0, c1, c2, c3, c4, c5, c6, c7⟩) : CN r w = _) (And.intro a0 (And.intro a1 (And.intro c0 (And.intro c1 (And.intro c2 (And.intro c3 (And.intro c4 (And.intro c5 (And.intro c6 c7))))))))); ?_)))))))))) (fun a0 => BL (Ac (r.nx 2) 9 = 0) (fun c0 => have hx := And.intro ((Gr a0).trans (Z1 c0) : CN r w = _) (And.intro a0 c0); ?_) (fun c0 => BL (Ac (r.nx 2) 9 = 1) (fun c1 => have hx := And.intro ((Gr a0).trans (Z2 c1) : CN r w = _) (And.intro a0 (And.intro c0 c1)); ?_) (fun c1 => BL (Ac (r.nx 2) 9 = 2) (fun c2 => have hx := And.intro ((Gr a0).trans (Hm (.inl c2)) : CN r w = _) (And.intro a0 (And.intro c0 (And.intro c1 c2))); ?_) (fun c2 => BL (Ac (r.nx 2) 9 = 3) (fun c3 => have hx := And.intro ((Gr a0).trans (Hm (.inr (.inl c3))) : CN r w = _) (And.intro a0 (And.intro c0 (And.intro c1 (And.intro c2 c3)))); ?_) (fun c3 => BL (Ac (r.nx 2) 9 = 4) (fun c4 => have hx := And.intro ((Gr a0).trans (Hm (.inr (.inr c4))) : CN r w = _) (And.intro a0 (And.intro c0 (And.intro c1 (And.intro c2 (And.intro c3 c4))))); ?_) (fun c4 => BL (Ac (r.nx 2) 9 = 5) (fun c5 => have hx := And.intro ((Gr a0).trans (Z3 c5) : CN r w = _) (And.intro a0 (And.intro c0 (And.intro c1 (And.intro c2 (And.intro c3 (And.intro c4 c5)))))); ?_) (fun c5 => BL (Ac (r.nx 2) 9 = 6) (fun c6 => have hx := And.intro ((Gr a0).trans (Z4 c6) : CN r w = _) (And.intro a0 (And.intro c0 (And.intro c1 (And.intro c2 (And.intro c3 (And.intro c4 (And.intro c5 c6))))))); ?_) (fun c6 => BL (Ac (r.nx 2) 9 = 7) (fun c7 => have hx := And.intro ((Gr a0).trans (Z5 c7) : CN r w = _) (And.intro a0 (And.intro c0 (And.intro c1 (And.intro c2 (And.intro c3 (And.intro c4 (And.intro c5 (And.intro c6 c7)))))))); ?_) (fun c7 => have hx := And.intro ((Gr a0).trans (Z6 ⟨c0, c1, c2, c3, c4, c5, c6, c7⟩) : CN r w = _) (And.intro a0 (And.intro c0 (And.intro c1 (And.intro c2 (And.intro c3 (And.intro c4 (And.intro c5 (And.intro c6 c7)))))))); ?_)))))))))
 all_goals
  try rw [hx.1]
  simp -implicitDefEqProofs only [Tryz.f182, hx, XG, eq_self, decide_true, decide_false, Int.reduceEq, go_sem, hh, Int.reduceAdd, seval]
  with_reducible repeat' (first | apply ai | intro _ | ((first | apply s1 | apply s3 | apply s4) <;> intro hb <;> simp -implicitDefEqProofs only [hb, go_sem, hh, Int.reduceAdd, seval] <;> try simp only [qz] at hb))
  all_goals (try simp only [maxLen, tn, AI, BK] at *)
  all_goals first | rfl | omega | decide | with_reducible assumption | (show AU _ = true; rfl) | exact Hv (by assumption) | contradiction | exact (hb3 a0).1 | exact (hb3 a0).2 | (rename_i q; simp only [List.mem_cons, List.not_mem_nil, or_false] at q ⊢; omega) | skip
end
theorem Qu {N : Nat} {w : Wd} (q : HO N w) (h : N ≤ 1048576) : dO w := ⟨⟨by have := q.2.1.2; omega, fun x hx => Dq (q.1 x hx).1 (q.1 x hx).2 h⟩, ⟨by have := q.2.2.2.2.1; omega, q.2.2.2.2.2⟩⟩
abbrev Xy := Rd × Wd × List Ev
open Classical in
noncomputable def Z7 (x : Xy) : Xy :=
 if (ET x.2.1 (CN x.1 x.2.1).1).2 = true then ((CN x.1 x.2.1).2, (ET x.2.1 (CN x.1 x.2.1).1).1, x.2.2 ++ [(CN x.1 x.2.1).1])
 else if Ac (CN x.1 x.2.1).2 6 > 0 then ((CN x.1 x.2.1).2.nx 1, x.2.1, x.2.2)
 else ((CN x.1 x.2.1).2.nx 1, (ET x.2.1 (CN x.1 x.2.1).1).1, x.2.2 ++ [(CN x.1 x.2.1).1])
theorem kq {r : Rd} {w : Wd} {l : List Ev} (h : (ET w (CN r w).1).2 = true) : Z7 (r, w, l) = ((CN r w).2, (ET w (CN r w).1).1, l ++ [(CN r w).1]) := if_pos h
theorem kp {r : Rd} {w : Wd} {l : List Ev} (h : (ET w (CN r w).1).2 = false) (c : Ac (CN r w).2 6 > 0) : Z7 (r, w, l) = ((CN r w).2.nx 1, w, l) := by
 unfold Z7; rw [if_neg (by show ¬ (ET w (CN r w).1).2 = true; rw [h]; exact Bool.false_ne_true), if_pos c]
theorem ko {r : Rd} {w : Wd} {l : List Ev} (h : (ET w (CN r w).1).2 = false) (c : ¬ Ac (CN r w).2 6 > 0) : Z7 (r, w, l) = ((CN r w).2.nx 1, (ET w (CN r w).1).1, l ++ [(CN r w).1]) := by
 unfold Z7; rw [if_neg (by show ¬ (ET w (CN r w).1).2 = true; rw [h]; exact Bool.false_ne_true), if_neg c]
noncomputable def NU : Nat → Xy → Xy
 | 0, x => x
 | n + 1, x => NU n (Z7 x)
def tX (k : Nat) (p : Int) (x : Xy) : Prop := HO (40 * k) x.2.1 ∧ p ≤ x.1.p ∧ x.1.p ≤ p + 40 * k ∧ x.2.2.length ≤ k ∧ ∀ e ∈ x.2.2, cq e
theorem Ul {k : Nat} {p : Int} {x : Xy} (q : tX k p x) (hk : k ≤ 1000) (h0 : 0 ≤ p) (h1 : p ≤ 999900000) : tX (k + 1) p (Z7 x) := by
 obtain ⟨r, w, l⟩ := x
 obtain ⟨q1, q2, q3, q4, q5⟩ := q
 dsimp only at q1 q2 q3 q4 q5
 obtain ⟨z1, z2, z3, z4⟩ := Z0 (r := r) (w := w) (by omega) (by omega)
 have zw : HO (40 * (k + 1)) (ET w (CN r w).1).1 := by rw [Nat.mul_succ]; exact Zs q1 (by omega)
 have zl : ∀ e ∈ l ++ [(CN r w).1], cq e := fun e he => by
  rcases List.mem_append.1 he with he | he
  ·exact q5 e he
  ·rw [List.mem_singleton] at he; subst he; exact z1
 have zn : (l ++ [(CN r w).1]).length ≤ k + 1 := by rw [List.length_append]; show l.length + 1 ≤ k + 1; omega
 cases hd : (ET w (CN r w).1).2
 ·by_cases c : Ac (CN r w).2 6 > 0
  ·rw [kp hd c]; exact ⟨A8 q1 (by omega), by dsimp only; rw [AI]; omega, by dsimp only; rw [AI]; omega, by dsimp only; omega, q5⟩
  ·rw [ko hd c]; exact ⟨zw, by dsimp only; rw [AI]; omega, by dsimp only; rw [AI]; omega, zn, zl⟩
 ·rw [kq hd]; exact ⟨zw, by dsimp only; omega, by dsimp only; omega, zn, zl⟩
theorem Z8 {p : Int} (h0 : 0 ≤ p) (h1 : p ≤ 999900000) : ∀ (n : Nat) {k : Nat} {x : Xy}, tX k p x → k + n ≤ 1000 → tX (k + n) p (NU n x)
 | 0, k, x, q, _ => q
 | n + 1, k, x, q, h => by
   have e : k + (n + 1) = k + 1 + n := by omega
   rw [e]
   exact Z8 h0 h1 n (Ul q (by omega) h0 h1) (by omega)
theorem Rn {n i : Nat} {x : Xy} (h : i < n) : NU (n - i) x = NU (n - (i + 1)) (Z7 x) := by
 have e : n - i = (n - (i + 1)) + 1 := by omega
 rw [e]; rfl
theorem kn {r : Rd} {cs : List Cf} (h : Qm cs) : tX 0 r.p (r, FP cs, []) := ⟨Qn h, Int.le_refl _, by dsimp only; omega, Nat.le_refl _, fun _ q => by cases q⟩
noncomputable def Pc (r : Rd) (cs : List Cf) (m : Int) : Xy := NU m.toNat (r, FP cs, [])
theorem Jv (r : Rd) : Qm (Dg r) := by
 have e : FB (Ac r 5) = Dg r := rfl
 obtain ⟨h1, h2⟩ := UT (Ac r 5)
 obtain ⟨_, h3, h4⟩ := NH (Ac r 5)
 have h5 := eJ (Ac r 5)
 rw [e] at h1 h4 h5
 exact ⟨⟨by omega, fun c hc => Su (h1 c hc)⟩, h1, h5⟩
def oB : Mt := GN (lc DZ (lc IH.asl (lc BF l0))) (fun p => (0 ≤ p.1.p ∧ p.1.p ≤ 999800000) ∧ Qm p.2.1 ∧ 0 ≤ p.2.2.1 ∧ p.2.2.1 ≤ 1000) (fun p => ([DZ.enc (Pc p.1 p.2.1 p.2.2.1).1, IH.asl.enc p.2.1, BF.enc p.2.2.1], .o false 10 ((Pc p.1 p.2.1 p.2.2.1).2.2.map C5)))
section
attribute [local go_sem] FS Y4 oG Yx Y1 UZ VR bT bN bS bR VQ li U8 U9 lK AI BK A0 A2 BB BX CJ BU BY lm List.length_append List.length_cons List.length_nil List.map_append List.map_nil Nat.zero_add List.nil_append AS.opn AS.cls AS.nilb AS.renb AS.up Bool.not_false Bool.not_true List.set_set List.set_cons_zero List.set_cons_succ List.set_nil List.mem_singleton forall_eq Nz KS IV F6 F5 Gc.eq_1 CU Aa
set_option maxHeartbeats 6400000 in
theorem gJ {G : Gt} (hG : Ah G) (hh : G.e 53 = AM FS ∧ G.e 165 = AA 1 Y4 ∧ G.e 182 = AM oG ∧ G.e 102 = AA 1 Yx ∧ G.e 141 = AM Y1) : Gd G 164 (AM oB) := by
 refine If (dp := fun n => !(Nat.beq n 100002 || Nat.beq n 100005 || Nat.beq n 15 || Nat.beq n 41 || Nat.beq n 42)) (fn := Tryz.f164) (n := 3) rfl rfl hG ?_
 rintro ⟨r, cs, m, ⟨⟩⟩ hpre
 obtain ⟨⟨h1, h2⟩, hc, hm0, hm1⟩ := hpre
 try dsimp only at h1 h2 hc hm0 hm1 ⊢
 simp -implicitDefEqProofs only [Tryz.f164, go_sem, hh, Int.reduceAdd, seval]
 with_reducible repeat' (first | apply ai | intro _ | ((first | apply s1 | apply s3 | apply s4) <;> intro hb <;> simp -implicitDefEqProofs only [hb, go_sem, hh, Int.reduceAdd, seval] <;> try simp only [qz] at hb))
 all_goals first | with_reducible rfl | omega | with_reducible assumption | (show _ = true; rfl) | contradiction | decide | skip
 refine Ag (Le.frzL [1014, 2014]) (AY ?_)
 simp -implicitDefEqProofs only [go_sem, hh, Int.reduceAdd, seval]
 with_reducible repeat' (first | apply ai | intro _ | ((first | apply s1 | apply s3 | apply s4) <;> intro hb <;> simp -implicitDefEqProofs only [hb, go_sem, hh, Int.reduceAdd, seval] <;> try simp only [qz] at hb))
 all_goals first | with_reducible rfl | omega | with_reducible assumption | (show _ = true; rfl) | contradiction | decide | skip
 refine AE [(8, 908, false, 10)] (ι := {p : Nat × Xy // p.1 ≤ m.toNat ∧ tX p.1 r.p p.2 ∧ NU (m.toNat - p.1) p.2 = Pc r cs m}) (fun p => ⟨[(0, .pb 1900 0), (2, .t (.v (.int .i64 m))), (7, .pb 1007 0), (8, .h 908), (9, .t (.v (.int .i64 p.1.1)))], [(1900, some (.box [.t (.sl 1 (p.1.2.1.b.map CH)), .t (.v (.int .i64 p.1.2.1.p))])), (1007, some (.box [.t (.sl 7 (p.1.2.2.1.hosts.map Ai)), .t (.v (.int .i64 p.1.2.2.1.now)), .t (.v (.int .i64 p.1.2.2.1.marks)), .t (.sl 3 (p.1.2.2.1.given.map Av))])), (908, some (.arr false 10 (p.1.2.2.2.map C5)))]⟩) (fun p => m.toNat - p.1.1) ⟨(0, (r, FP cs, [])), Nat.zero_le _, kn hc, rfl⟩ rfl ?_ ?_
 ·simp -implicitDefEqProofs only [go_sem, hh, Int.reduceAdd, seval]
  first | (simp; done) | skip
 ·rintro ⟨⟨i, q, w, l⟩, hi, hx, hv⟩
  dsimp only at hi hx hv
  have hxw := A8 (M := 1000000) hx.1 (by omega)
  have hxl : 1 ≤ w.hosts.length ∧ w.hosts.length ≤ 4 := hx.1.2.1
  have hxo := Qu hx.1 (by omega)
  have hxp : r.p ≤ q.p ∧ q.p ≤ r.p + 40 * i := ⟨hx.2.1, hx.2.2.1⟩
  have hxn : l.length ≤ i := hx.2.2.2.1
  obtain ⟨z1, z2, z3, z4⟩ := Z0 (r := q) (w := w) (by omega) (by omega)
  by_cases hlt : i < m.toNat
  ·have hlt2 : (i : Int) < m := by omega
   cases hd : (ET w (CN q w).1).2
   ·by_cases hp : Ac (CN q w).2 6 > 0
    ·simp -implicitDefEqProofs only [hlt2, hd, hp, Bool.not_false, Bool.not_true, eq_self, decide_true, decide_false, go_sem, hh, Int.reduceAdd, seval]
     with_reducible repeat' (first | apply ai | intro _ | ((first | apply s1 | apply s3 | apply s4) <;> intro hb <;> simp -implicitDefEqProofs only [hb, go_sem, hh, Int.reduceAdd, seval] <;> try simp only [qz] at hb))
     all_goals (try simp only [maxLen, tn, lm] at *)
     all_goals first | with_reducible rfl | omega | with_reducible assumption | (show _ = true; rfl) | contradiction | decide | exact ⟨hxw, z1⟩ | skip
     refine AY ?_
     simp -implicitDefEqProofs only [go_sem, hh, Int.reduceAdd, seval]
     with_reducible repeat' (first | apply ai | intro _ | ((first | apply s1 | apply s3 | apply s4) <;> intro hb <;> simp -implicitDefEqProofs only [hb, go_sem, hh, Int.reduceAdd, seval] <;> try simp only [qz] at hb))
     all_goals first | with_reducible rfl | omega | with_reducible assumption | (show _ = true; rfl) | contradiction | decide | skip
     refine ⟨⟨(i + 1, Z7 (q, w, l)), by dsimp only; omega, Ul hx (by omega) h1 (by omega), (Rn hlt).symm.trans hv⟩, by dsimp only; omega, ?_⟩
     simp -implicitDefEqProofs only [go_sem, hh, Int.reduceAdd, seval]
     simp only [kp hd hp, AI, BK]
     first | (simp; done) | skip
    ·simp -implicitDefEqProofs only [hlt2, hd, hp, Bool.not_false, Bool.not_true, eq_self, decide_true, decide_false, go_sem, hh, Int.reduceAdd, seval]
     with_reducible repeat' (first | apply ai | intro _ | ((first | apply s1 | apply s3 | apply s4) <;> intro hb <;> simp -implicitDefEqProofs only [hb, go_sem, hh, Int.reduceAdd, seval] <;> try simp only [qz] at hb))
     all_goals (try simp only [maxLen, tn, lm] at *)
     all_goals first | with_reducible rfl | omega | with_reducible assumption | (show _ = true; rfl) | contradiction | decide | exact ⟨hxw, z1⟩ | skip
     refine Ag (Le.frzL [1028, 2028]) (AY ?_)
     simp -implicitDefEqProofs only [go_sem, hh, Int.reduceAdd, seval]
     with_reducible repeat' (first | apply ai | intro _ | ((first | apply s1 | apply s3 | apply s4) <;> intro hb <;> simp -implicitDefEqProofs only [hb, go_sem, hh, Int.reduceAdd, seval] <;> try simp only [qz] at hb))
     all_goals first | with_reducible rfl | omega | with_reducible assumption | (show _ = true; rfl) | contradiction | decide | skip
     refine ⟨⟨(i + 1, Z7 (q, w, l)), by dsimp only; omega, Ul hx (by omega) h1 (by omega), (Rn hlt).symm.trans hv⟩, by dsimp only; omega, ?_⟩
     simp -implicitDefEqProofs only [go_sem, hh, Int.reduceAdd, seval]
     simp only [ko hd hp, AI, BK]
     first | (simp [C5]; done) | skip
   ·simp -implicitDefEqProofs only [hlt2, hd, Bool.not_false, Bool.not_true, eq_self, decide_true, decide_false, go_sem, hh, Int.reduceAdd, seval]
    with_reducible repeat' (first | apply ai | intro _ | ((first | apply s1 | apply s3 | apply s4) <;> intro hb <;> simp -implicitDefEqProofs only [hb, go_sem, hh, Int.reduceAdd, seval] <;> try simp only [qz] at hb))
    all_goals (try simp only [maxLen, tn, lm] at *)
    all_goals first | with_reducible rfl | omega | with_reducible assumption | (show _ = true; rfl) | contradiction | decide | exact ⟨hxw, z1⟩ | skip
    refine Ag (Le.frzL [1028, 2028]) (AY ?_)
    simp -implicitDefEqProofs only [go_sem, hh, Int.reduceAdd, seval]
    with_reducible repeat' (first | apply ai | intro _ | ((first | apply s1 | apply s3 | apply s4) <;> intro hb <;> simp -implicitDefEqProofs only [hb, go_sem, hh, Int.reduceAdd, seval] <;> try simp only [qz] at hb))
    all_goals first | with_reducible rfl | omega | with_reducible assumption | (show _ = true; rfl) | contradiction | decide | skip
    refine ⟨⟨(i + 1, Z7 (q, w, l)), by dsimp only; omega, Ul hx (by omega) h1 (by omega), (Rn hlt).symm.trans hv⟩, by dsimp only; omega, ?_⟩
    simp -implicitDefEqProofs only [go_sem, hh, Int.reduceAdd, seval]
    simp only [kq hd, AI, BK]
    first | (simp [C5]; done) | skip
  ·have hlt2 : ¬ (i : Int) < m := by omega
   have e0 : m.toNat - i = 0 := by omega
   rw [e0, NU] at hv
   obtain ⟨rfl, rfl, rfl⟩ : q = (Pc r cs m).1 ∧ w = (Pc r cs m).2.1 ∧ l = (Pc r cs m).2.2 := by rw [← hv]; exact ⟨rfl, rfl, rfl⟩
   simp -implicitDefEqProofs only [hlt2, eq_self, decide_true, decide_false, go_sem, hh, Int.reduceAdd, seval]
   with_reducible repeat' (first | apply ai | intro _ | ((first | apply s1 | apply s3 | apply s4) <;> intro hb <;> simp -implicitDefEqProofs only [hb, go_sem, hh, Int.reduceAdd, seval] <;> try simp only [qz] at hb))
   all_goals (try simp only [maxLen, tn] at *)
   all_goals first | with_reducible rfl | omega | with_reducible assumption | (show _ = true; rfl) | contradiction | decide | skip
end
noncomputable def JZ (r : Rd) : Xy := Pc (r.nx 2) (Dg r) (GQ (r.nx 1) [0, 12, 30, 60])
theorem wF {r : Rd} (h : 0 ≤ r.p) (h1 : r.p ≤ 999999900) : 0 ≤ GQ (r.nx 1) [0, 12, 30, 60] ∧ GQ (r.nx 1) [0, 12, 30, 60] ≤ 60 := by
 have z := Hw (r := r.nx 1) (l := [0, 12, 30, 60]) (by rw [AI]; omega) (by rw [AI]; omega) (by decide)
 simp only [List.mem_cons, List.not_mem_nil, or_false] at z
 omega
theorem Vg {r : Rd} (h : 0 ≤ r.p) (h1 : r.p ≤ 999800000) : (∀ e ∈ (JZ r).2.2, cq e) ∧ (JZ r).2.2.length ≤ 60 ∧ r.p ≤ (JZ r).1.p ∧ (JZ r).1.p ≤ r.p + 2500 := by
 have hm := wF h (by omega)
 have z := Z8 (p := (r.nx 2).p) (by rw [AI]; omega) (by rw [AI]; omega) (GQ (r.nx 1) [0, 12, 30, 60]).toNat (kn (r := r.nx 2) (Jv r)) (by omega)
 obtain ⟨_, z2, z3, z4, z5⟩ := z
 rw [AI] at z2 z3
 exact ⟨z5, Nat.le_trans z4 (by omega), by show r.p ≤ (NU _ _).1.p; omega, by show (NU _ _).1.p ≤ _; omega⟩
theorem p9 (r : Rd) : Pc (r.nx 2) (Dg r) (GQ (r.nx 1) [0, 12, 30, 60]) = JZ r := rfl
noncomputable def D6 (r : Rd) : Wd := wD (Dg r) (JZ r).2.2
theorem xB (r : Rd) : wD (Dg r) (JZ r).2.2 = D6 r := rfl
theorem LX (r : Rd) : HO 1600 (D6 r) := wE (Jv r) _
def nl : Mt := GN (lc DZ l0) (fun p => 0 ≤ p.1.p ∧ p.1.p ≤ 999700000) (fun p => ([DZ.enc (JZ p.1).1], .tup [.t (.sl 3 ((Dg p.1).map Cu)), .o false 10 ((JZ p.1).2.2.map C5)]))
section
attribute [local go_sem] RO Y3 oB AI BK A0 A2 BB BX CJ BU BY lm List.length_append List.length_cons List.length_nil List.map_append List.map_nil Nat.zero_add List.nil_append AS.opn AS.cls AS.nilb AS.renb AS.up Bool.not_false Bool.not_true List.set_set List.set_cons_zero List.set_cons_succ List.set_nil List.mem_singleton forall_eq CU FC p9 G6 G7 G8 Du Dv
set_option maxHeartbeats 1600000 in
theorem fq {G : Gt} (hG : Ah G) (hh : G.e 31 = AM RO ∧ G.e 151 = AM Y3 ∧ G.e 164 = AM oB) : Gd G 138 (AM nl) := by
 refine If (dp := fun n => !(Nat.beq n 100002)) (fn := Tryz.f138) (n := 1) rfl rfl hG ?_
 rintro ⟨r, ⟨⟩⟩ hpre
 obtain ⟨h1, h2⟩ := hpre
 try dsimp only at h1 h2 ⊢
 have hm := wF h1 (by omega)
 have hc := Jv r
 simp -implicitDefEqProofs only [Tryz.f138, go_sem, hh, Int.reduceAdd, seval]
 with_reducible repeat' (first | apply ai | intro _ | ((first | apply s1 | apply s3 | apply s4) <;> intro hb <;> simp -implicitDefEqProofs only [hb, go_sem, hh, Int.reduceAdd, seval] <;> try simp only [qz] at hb))
 all_goals first | with_reducible rfl | omega | with_reducible assumption | (show _ = true; rfl) | contradiction | decide | skip
 refine Ag (Le.frzL [1006]) (AY ?_)
 simp -implicitDefEqProofs only [go_sem, hh, Int.reduceAdd, seval]
 with_reducible repeat' (first | apply ai | intro _ | ((first | apply s1 | apply s3 | apply s4) <;> intro hb <;> simp -implicitDefEqProofs only [hb, go_sem, hh, Int.reduceAdd, seval] <;> try simp only [qz] at hb))
 all_goals (try simp only [maxLen, tn] at *)
 all_goals first | with_reducible rfl | omega | with_reducible assumption | (show _ = true; rfl) | contradiction | decide | skip
end
def yZ : Mt := GN (lc DZ l0) (fun p => 0 ≤ p.1.p ∧ p.1.p ≤ 999600000) (fun p => ([DZ.enc (JZ p.1).1], HN (D6 p.1)))
section
attribute [local go_sem] nl nn Yx AI BK A0 A2 BB BX CJ BU BY lm List.length_append List.length_cons List.length_nil List.map_append List.map_nil Nat.zero_add List.nil_append AS.opn AS.cls AS.nilb AS.renb AS.up Bool.not_false Bool.not_true List.set_set List.set_cons_zero List.set_cons_succ List.set_nil List.mem_singleton forall_eq CU Nz xB
set_option maxHeartbeats 1600000 in
theorem rz {G : Gt} (hG : Ah G) (hh : G.e 138 = AM nl ∧ G.e 139 = AA 1 nn ∧ G.e 102 = AA 1 Yx) : Gd G 99 (AM yZ) := by
 refine If (dp := fun _ => true) (fn := Tryz.f99) (n := 1) rfl rfl hG ?_
 rintro ⟨r, ⟨⟩⟩ hpre
 obtain ⟨h1, h2⟩ := hpre
 try dsimp only at h1 h2 ⊢
 have hc := Jv r
 obtain ⟨he, hl, _, _⟩ := Vg h1 (by omega)
 have hw := Qu (LX r) (by decide)
 simp -implicitDefEqProofs only [Tryz.f99, go_sem, hh, Int.reduceAdd, seval]
 with_reducible repeat' (first | apply ai | intro _ | ((first | apply s1 | apply s3 | apply s4) <;> intro hb <;> simp -implicitDefEqProofs only [hb, go_sem, hh, Int.reduceAdd, seval] <;> try simp only [qz] at hb))
 all_goals (try simp only [maxLen, tn] at *)
 all_goals first | with_reducible rfl | omega | with_reducible assumption | (show _ = true; rfl) | contradiction | decide | exact ⟨hc, he, by omega⟩ | exact he _ (by assumption) | skip
end
noncomputable def EI (r : Rd) : Rd := (JZ r).1
noncomputable def dv (r : Rd) : Int := Ac (EI r) (D6 r).hosts.length
noncomputable def FV (r : Rd) : Int := Ac ((EI r).nx 1) 14
noncomputable abbrev WS (r : Rd) : Hs := (D6 r).hosts.getD (dv r).toNat default
noncomputable def aw (r : Rd) : Wd × Rd :=
 if FV r = 0 then (⟨(D6 r).hosts.set (dv r).toNat ⟨(WS r).conf, (KQ ((EI r).nx 2)).1, (WS r).boxes, (WS r).lost⟩, (D6 r).now, (D6 r).marks, (D6 r).given⟩, (KQ ((EI r).nx 2)).2)
 else if FV r = 1 then (⟨(D6 r).hosts.set (dv r).toNat ⟨(B2 ((EI r).nx 2)).1, (WS r).spool, (WS r).boxes, (WS r).lost⟩, (D6 r).now, (D6 r).marks, (D6 r).given⟩, (B2 ((EI r).nx 2)).2)
 else if FV r = 2 then (⟨(D6 r).hosts, GQ ((EI r).nx 2) [-1, 10000, 9990], (D6 r).marks, (D6 r).given⟩, (EI r).nx 3)
 else if FV r = 3 then (⟨(D6 r).hosts, (D6 r).now, (D6 r).marks, (D6 r).given ++ [⟨Mb ((EI r).nx 2) [⟨#[]⟩, ⟨#[73, 100, 58, 32, 57]⟩, ⟨#[73, 100, 58, 32]⟩], (B7 ((EI r).nx 3)).1⟩]⟩, (B7 ((EI r).nx 3)).2)
 else if FV r = 4 then (⟨[], (D6 r).now, (D6 r).marks, (D6 r).given⟩, (EI r).nx 2)
 else (D6 r, (EI r).nx 2)
section
variable {r : Rd}
theorem dw (c : FV r = 0) : aw r = (⟨(D6 r).hosts.set (dv r).toNat ⟨(WS r).conf, (KQ ((EI r).nx 2)).1, (WS r).boxes, (WS r).lost⟩, (D6 r).now, (D6 r).marks, (D6 r).given⟩, (KQ ((EI r).nx 2)).2) := if_pos c
theorem dx (c : FV r = 1) : aw r = (⟨(D6 r).hosts.set (dv r).toNat ⟨(B2 ((EI r).nx 2)).1, (WS r).spool, (WS r).boxes, (WS r).lost⟩, (D6 r).now, (D6 r).marks, (D6 r).given⟩, (B2 ((EI r).nx 2)).2) := by unfold aw; rw [if_neg (by omega), if_pos c]
theorem dy (c : FV r = 2) : aw r = (⟨(D6 r).hosts, GQ ((EI r).nx 2) [-1, 10000, 9990], (D6 r).marks, (D6 r).given⟩, (EI r).nx 3) := by unfold aw; rw [if_neg (by omega), if_neg (by omega), if_pos c]
theorem dz (c : FV r = 3) : aw r = (⟨(D6 r).hosts, (D6 r).now, (D6 r).marks, (D6 r).given ++ [⟨Mb ((EI r).nx 2) [⟨#[]⟩, ⟨#[73, 100, 58, 32, 57]⟩, ⟨#[73, 100, 58, 32]⟩], (B7 ((EI r).nx 3)).1⟩]⟩, (B7 ((EI r).nx 3)).2) := by unfold aw; rw [if_neg (by omega), if_neg (by omega), if_neg (by omega), if_pos c]
theorem d4 (c : FV r = 4) : aw r = (⟨[], (D6 r).now, (D6 r).marks, (D6 r).given⟩, (EI r).nx 2) := by unfold aw; rw [if_neg (by omega), if_neg (by omega), if_neg (by omega), if_neg (by omega), if_pos c]
theorem d5 (c : ¬ FV r = 0 ∧ ¬ FV r = 1 ∧ ¬ FV r = 2 ∧ ¬ FV r = 3 ∧ ¬ FV r = 4) : aw r = (D6 r, (EI r).nx 2) := by unfold aw; rw [if_neg (by omega), if_neg (by omega), if_neg (by omega), if_neg (by omega), if_neg (by omega)]
end
theorem uJ (r : Rd) : (JZ r).1 = EI r := rfl
theorem uI (r : Rd) : Ac (EI r) (D6 r).hosts.length = dv r := rfl
theorem uH (r : Rd) : Ac ((EI r).nx 1) 14 = FV r := rfl
theorem UE {r : Rd} (h : 0 ≤ r.p) (h1 : r.p ≤ 999500000) : r.p ≤ (EI r).p ∧ (EI r).p ≤ r.p + 2500 := (Vg h (by omega)).2.2
theorem Yl {r : Rd} (h : 0 ≤ r.p) (h1 : r.p ≤ 999500000) : 0 ≤ dv r ∧ dv r < (D6 r).hosts.length := by
 have hq := UE h h1
 have hl := (LX r).2.1
 have z := Bq (r := EI r) (n := (D6 r).hosts.length) (by omega) (by omega)
 exact ⟨z.1, z.2 (by omega)⟩
def yC : Mt := GN (lc DZ l0) (fun p => 0 ≤ p.1.p ∧ p.1.p ≤ 999500000) (fun p => ([DZ.enc (aw p.1).2], jn.ag.enc (aw p.1).1))
section
attribute [local go_sem] FS RO RN yZ nK ua Yw AI BK A0 A2 BB BX CJ BU BY lm List.length_append List.length_cons List.length_nil List.map_append List.map_nil Nat.zero_add List.nil_append AS.opn AS.cls AS.nilb AS.renb AS.up Bool.not_false Bool.not_true List.set_set List.set_cons_zero List.set_cons_succ List.set_nil List.mem_singleton forall_eq uJ uI uH Nz FC Fj Aa Bd LK G6 G7 G8 Du Dv
set_option maxHeartbeats 6400000 in
theorem rE {G : Gt} (hG : Ah G) (hh : G.e 53 = AM FS ∧ G.e 31 = AM RO ∧ G.e 30 = AM RN ∧ G.e 99 = AM yZ ∧ G.e 100 = AM nK ∧ G.e 78 = AM ua ∧ G.e 101 = AM Yw) : Gd G 52 (AM yC) := by
 refine If (dp := fun _ => true) (fn := Tryz.f52) (n := 1) rfl rfl hG ?_
 rintro ⟨r, ⟨⟩⟩ hpre
 obtain ⟨h1, h2⟩ := hpre
 try dsimp only at h1 h2 ⊢
 have hq := UE h1 (by omega)
 have hk := Yl h1 (by omega)
 have hl := (LX r).2.1
 have hg := (LX r).2.2.2.2.1
 by_cases c0 : FV r = 0
 ·skip
  rw [dw c0]
  simp -implicitDefEqProofs only [Tryz.f52, c0, eq_self, decide_true, decide_false, Int.reduceEq, go_sem, hh, Int.reduceAdd, seval]
  with_reducible repeat' (first | apply ai | intro _ | ((first | apply s1 | apply s3 | apply s4) <;> intro hb <;> simp -implicitDefEqProofs only [hb, go_sem, hh, Int.reduceAdd, seval] <;> try simp only [qz] at hb))
  all_goals (try simp only [maxLen, tn] at *)
  all_goals first | with_reducible rfl | omega | with_reducible assumption | (show _ = true; rfl) | contradiction | decide | exact hk.1 | exact hk.2 | skip
 ·by_cases c1 : FV r = 1
  ·skip
   rw [dx c1]
   simp -implicitDefEqProofs only [Tryz.f52, c0, c1, eq_self, decide_true, decide_false, Int.reduceEq, go_sem, hh, Int.reduceAdd, seval]
   with_reducible repeat' (first | apply ai | intro _ | ((first | apply s1 | apply s3 | apply s4) <;> intro hb <;> simp -implicitDefEqProofs only [hb, go_sem, hh, Int.reduceAdd, seval] <;> try simp only [qz] at hb))
   all_goals (try simp only [maxLen, tn] at *)
   all_goals first | with_reducible rfl | omega | with_reducible assumption | (show _ = true; rfl) | contradiction | decide | exact hk.1 | exact hk.2 | skip
  ·by_cases c2 : FV r = 2
   ·skip
    rw [dy c2]
    simp -implicitDefEqProofs only [Tryz.f52, c0, c1, c2, eq_self, decide_true, decide_false, Int.reduceEq, go_sem, hh, Int.reduceAdd, seval]
    with_reducible repeat' (first | apply ai | intro _ | ((first | apply s1 | apply s3 | apply s4) <;> intro hb <;> simp -implicitDefEqProofs only [hb, go_sem, hh, Int.reduceAdd, seval] <;> try simp only [qz] at hb))
    all_goals (try simp only [maxLen, tn] at *)
    all_goals first | with_reducible rfl | omega | with_reducible assumption | (show _ = true; rfl) | contradiction | decide | exact hk.1 | exact hk.2 | skip
   ·by_cases c3 : FV r = 3
    ·skip
     rw [dz c3]
     simp -implicitDefEqProofs only [Tryz.f52, c0, c1, c2, c3, eq_self, decide_true, decide_false, Int.reduceEq, go_sem, hh, Int.reduceAdd, seval]
     with_reducible repeat' (first | apply ai | intro _ | ((first | apply s1 | apply s3 | apply s4) <;> intro hb <;> simp -implicitDefEqProofs only [hb, go_sem, hh, Int.reduceAdd, seval] <;> try simp only [qz] at hb))
     all_goals (try simp only [maxLen, tn] at *)
     all_goals first | with_reducible rfl | omega | with_reducible assumption | (show _ = true; rfl) | contradiction | decide | exact hk.1 | exact hk.2 | skip
    ·by_cases c4 : FV r = 4
     ·skip
      rw [d4 c4]
      simp -implicitDefEqProofs only [Tryz.f52, c0, c1, c2, c3, c4, eq_self, decide_true, decide_false, Int.reduceEq, go_sem, hh, Int.reduceAdd, seval]
      with_reducible repeat' (first | apply ai | intro _ | ((first | apply s1 | apply s3 | apply s4) <;> intro hb <;> simp -implicitDefEqProofs only [hb, go_sem, hh, Int.reduceAdd, seval] <;> try simp only [qz] at hb))
      all_goals (try simp only [maxLen, tn] at *)
      all_goals first | with_reducible rfl | omega | with_reducible assumption | (show _ = true; rfl) | contradiction | decide | exact hk.1 | exact hk.2 | skip
     ·skip
      rw [d5 ⟨c0, c1, c2, c3, c4⟩]
      simp -implicitDefEqProofs only [Tryz.f52, c0, c1, c2, c3, c4, eq_self, decide_true, decide_false, Int.reduceEq, go_sem, hh, Int.reduceAdd, seval]
      with_reducible repeat' (first | apply ai | intro _ | ((first | apply s1 | apply s3 | apply s4) <;> intro hb <;> simp -implicitDefEqProofs only [hb, go_sem, hh, Int.reduceAdd, seval] <;> try simp only [qz] at hb))
      all_goals (try simp only [maxLen, tn] at *)
      all_goals first | with_reducible rfl | omega | with_reducible assumption | (show _ = true; rfl) | contradiction | decide | exact hk.1 | exact hk.2 | skip
end
theorem KO {r : Rd} (h : 0 ≤ r.p) (h1 : r.p ≤ 999999900) : IM (B7 r).1 ∧ (B7 r).2.b = r.b ∧ r.p + 3 ≤ (B7 r).2.p ∧ (B7 r).2.p ≤ r.p + 4 := by
 have z := CW (.inl (Q5 (r := r) h (by omega)))
 have key : ∀ (l : List ByteArray), 1 ≤ l.length → (∀ x ∈ l, x.size ≤ 1048576) → Bb (Mb (r.nx 3) l) := fun l hl q => q _ (GR (by rw [AI]; omega) (by rw [AI]; omega) hl)
 by_cases q0 : Ac (r.nx 2) 10 = 0
 ·rw [Tv q0]
  exact ⟨⟨key _ (by decide) (by decide), z.2⟩, rfl, by rw [AI]; omega, by rw [AI]; omega⟩
 ·by_cases q1 : Ac (r.nx 2) 10 = 1
  ·rw [Tw q0 q1]
   exact ⟨⟨z.1, key _ (by decide) (by decide)⟩, rfl, by rw [AI]; omega, by rw [AI]; omega⟩
  ·by_cases q2 : Ac (r.nx 2) 10 = 2
   ·rw [Tx q0 q1 q2]
    exact ⟨CW (.inr ⟨rfl, rfl⟩), rfl, by rw [AI]; omega, by rw [AI]; omega⟩
   ·rw [Tz q0 q1 q2]
    exact ⟨z, rfl, by rw [AI]; omega, by rw [AI]; omega⟩
theorem ZA {c : Cf} (h : O4 c = true) : HT c ∧ c.own.length ≤ 10 ∧ c.ways.length ≤ 10 := by
 unfold O4 at h
 simp only [Bool.and_eq_true, Nat.ble_eq, List.all_eq_true] at h
 obtain ⟨z1, z2, z3, z4, z5⟩ := h
 exact ⟨⟨by show c.name.size ≤ 1048576; omega, ⟨by omega, fun s hs => by have := z3 s hs; show s.size ≤ 1048576; omega⟩, ⟨by omega, fun w hw => ⟨by have := (z5 w hw).1; show w.ends.size ≤ 1048576; omega, by have := (z5 w hw).2; show w.to.size ≤ 1048576; omega⟩⟩⟩, z2, z4⟩
theorem yw {r : Rd} {l : List ByteArray} (h0 : 0 ≤ r.p) (h1 : r.p ≤ 1000000000) (hl : l.all (fun s => Nat.ble s.size 100) = true) (hn : 1 ≤ l.length) : Bb (Mb r l) := by
 have := List.all_eq_true.1 hl _ (GR h0 h1 hn)
 simp only [Nat.ble_eq] at this
 show (Mb r l).size ≤ 1048576
 omega
theorem Oq {r : Rd} (h : 0 ≤ r.p) (h1 : r.p ≤ 999980000) : HT (B2 r).1 := by
 obtain ⟨z, z1, z2⟩ := ZA (kH h (show r.p ≤ 999999000 by omega))
 by_cases c0 : Ac (r.nx 2) 10 = 0
 ·rw [T0 c0]; exact ⟨yw (by rw [AI]; omega) (by rw [AI]; omega) (by decide +kernel) (by decide), z.2.1, z.2.2⟩
 ·by_cases c1 : Ac (r.nx 2) 10 = 1
  ·rw [T1 c1]
   refine ⟨z.1, ⟨by show ((_ ++ _ : List ByteArray).length : Int) ≤ _; rw [List.length_append]; simp; omega, fun s hs => ?_⟩, z.2.2⟩
   rcases List.mem_append.1 hs with hs | hs
   ·exact z.2.1.2 s hs
   ·simp only [List.mem_cons, List.not_mem_nil, or_false] at hs
    rcases hs with rfl | rfl <;> (show ByteArray.size _ ≤ 1048576; decide)
  ·by_cases c2 : Ac (r.nx 2) 10 = 2
   ·rw [T2 c2]
    refine ⟨z.1, z.2.1, ⟨by show ((_ ++ _ : List Wy).length : Int) ≤ _; rw [List.length_append]; simp; omega, fun s hs => ?_⟩⟩
    rcases List.mem_append.1 hs with hs | hs
    ·exact z.2.2.2 s hs
    ·simp only [List.mem_singleton] at hs
     subst hs
     exact ⟨yw (by rw [AI]; omega) (by rw [AI]; omega) (by decide +kernel) (by decide), by show (⟨#[116, 119, 111, 46, 111, 114, 103]⟩ : ByteArray).size ≤ 1048576; decide⟩
   ·rw [T3 ⟨c0, c1, c2⟩]; exact z
theorem TW {α : Type} {P : α → Prop} {xs : List α} {i : Nat} {x : α} (h : GY P xs) (hx : P x) : GY P (xs.set i x) := ⟨by rw [List.length_set]; exact h.1, fun y hy => by
 rcases List.mem_or_eq_of_mem_set hy with hy | rfl
 ·exact h.2 y hy
 ·exact hx⟩
theorem kA {r : Rd} (h : 0 ≤ r.p) (h1 : r.p ≤ 999500000) : dO (aw r).1 := by
 have hq := UE h (by omega)
 have hk := Yl h (by omega)
 have z := Qu (LX r) (by decide)
 have hH : E0 (WS r) := z.1.2 _ (AF (by omega))
 have p2 : ((EI r).nx 2).p = (EI r).p + 2 := AI _ _
 have p3 : ((EI r).nx 3).p = (EI r).p + 3 := AI _ _
 by_cases c0 : FV r = 0
 ·rw [dw c0]
  have q := (Yi (r := (EI r).nx 2) (by omega) (by omega)).1
  exact ⟨TW z.1 ⟨hH.1, q, hH.2.2⟩, z.2⟩
 ·by_cases c1 : FV r = 1
  ·rw [dx c1]
   have q := Oq (r := (EI r).nx 2) (by omega) (by omega)
   exact ⟨TW z.1 ⟨q, hH.2⟩, z.2⟩
  ·by_cases c2 : FV r = 2
   ·rw [dy c2]; exact z
   ·by_cases c3 : FV r = 3
    ·rw [dz c3]
     have hg := (LX r).2.2.2.2.1
     have q := (KO (r := (EI r).nx 3) (by omega) (by omega)).1
     refine ⟨z.1, ⟨by show ((_ ++ _ : List Ls).length : Int) ≤ _; rw [List.length_append]; simp; omega, fun l hl => ?_⟩⟩
     rcases List.mem_append.1 hl with hl | hl
     ·exact z.2.2 l hl
     ·simp only [List.mem_singleton] at hl
      subst hl
      exact ⟨yw (by omega) (by omega) (by decide +kernel) (by decide), q⟩
    ·by_cases c4 : FV r = 4
     ·rw [d4 c4]; exact ⟨⟨by show ((0 : Nat) : Int) ≤ _; decide, fun _ q => by cases q⟩, z.2⟩
     ·rw [d5 ⟨c0, c1, c2, c3, c4⟩]; exact z
section
variable {α β : Type} {f : α → List β}
end
section
attribute [local go_sem] xK eB lm List.length_append List.length_cons List.length_nil List.map_append List.map_nil Nat.zero_add List.nil_append AS.opn AS.cls AS.nilb AS.renb AS.up Bool.not_false Bool.not_true List.set_set List.set_cons_zero List.set_cons_succ List.set_nil List.mem_singleton forall_eq
end
section
attribute [local go_sem] xJ lm List.length_append List.length_cons List.length_nil List.map_append List.map_nil Nat.zero_add List.nil_append AS.opn AS.cls AS.nilb AS.renb AS.up Bool.not_false Bool.not_true List.set_set List.set_cons_zero List.set_cons_succ List.set_nil List.mem_singleton forall_eq AX AW
end
section
attribute [local go_sem] lm List.length_append List.length_cons List.length_nil List.map_append List.map_nil Nat.zero_add List.nil_append AS.opn AS.cls AS.nilb AS.renb AS.up Bool.not_false Bool.not_true List.set_set List.set_cons_zero List.set_cons_succ List.set_nil List.mem_singleton forall_eq AX AW
end
theorem Qb {α : Type} (N : α → Int) : ∀ xs ys : List α, DD N (xs ++ ys) = DD N xs + DD N ys
 | [], ys => by show _ = 0 + _; rw [Int.zero_add]; rfl
 | x :: r, ys => by show N x + DD N (r ++ ys) = N x + DD N r + DD N ys; rw [Qb N r ys]; omega
theorem T4 {r : Rd} : (B2 r).2.b = r.b ∧ r.p ≤ (B2 r).2.p ∧ (B2 r).2.p ≤ r.p + 4 := by
 unfold B2
 dsimp only
 repeat' split
 all_goals exact ⟨BK .., by dsimp only; rw [AI]; omega, by dsimp only; rw [AI]; omega⟩
theorem nE {r : Rd} (h : 0 ≤ r.p) (h1 : r.p ≤ 999400000) : r.p ≤ (aw r).2.p ∧ (aw r).2.p ≤ r.p + 3000 := by
 have hq := UE h (by omega)
 have p2 : ((EI r).nx 2).p = (EI r).p + 2 := AI _ _
 have p3 : ((EI r).nx 3).p = (EI r).p + 3 := AI _ _
 by_cases c0 : FV r = 0
 ·rw [dw c0]
  have q := (Yi (r := (EI r).nx 2) (by omega) (by omega)).2.2
  exact ⟨by show _ ≤ (KQ _).2.p; omega, by show (KQ _).2.p ≤ _; omega⟩
 ·by_cases c1 : FV r = 1
  ·rw [dx c1]
   have q := (T4 (r := (EI r).nx 2)).2
   exact ⟨by show _ ≤ (B2 _).2.p; omega, by show (B2 _).2.p ≤ _; omega⟩
  ·by_cases c2 : FV r = 2
   ·rw [dy c2]; exact ⟨by dsimp only; omega, by dsimp only; omega⟩
   ·by_cases c3 : FV r = 3
    ·rw [dz c3]
     have q := (KO (r := (EI r).nx 3) (by omega) (by omega)).2.2
     exact ⟨by show _ ≤ (B7 _).2.p; omega, by show (B7 _).2.p ≤ _; omega⟩
    ·by_cases c4 : FV r = 4
     ·rw [d4 c4]; exact ⟨by dsimp only; omega, by dsimp only; omega⟩
     ·rw [d5 ⟨c0, c1, c2, c3, c4⟩]; exact ⟨by dsimp only; omega, by dsimp only; omega⟩
noncomputable def Uw (r : Rd) : Hs × Rd :=
 if ((aw r).1.hosts.length : Int) = 0 then (EM (B2 (aw r).2).1, (B2 (aw r).2).2)
 else ((aw r).1.hosts.getD (Ac (aw r).2 (aw r).1.hosts.length).toNat default, (aw r).2.nx 1)
theorem aV {r : Rd} (h : ((aw r).1.hosts.length : Int) = 0) : Uw r = (EM (B2 (aw r).2).1, (B2 (aw r).2).2) := if_pos h
theorem aT {r : Rd} (h : ¬ ((aw r).1.hosts.length : Int) = 0) : Uw r = ((aw r).1.hosts.getD (Ac (aw r).2 (aw r).1.hosts.length).toNat default, (aw r).2.nx 1) := if_neg h
theorem aU {r : Rd} (h : 0 ≤ r.p) (h1 : r.p ≤ 999400000) : E0 (Uw r).1 ∧ r.p ≤ (Uw r).2.p ∧ (Uw r).2.p ≤ r.p + 3010 := by
 have z := kA h (by omega)
 have p := nE h h1
 by_cases c : ((aw r).1.hosts.length : Int) = 0
 ·rw [aV c]
  have q := Oq (r := (aw r).2) (by omega) (by omega)
  have q2 := (T4 (r := (aw r).2)).2
  exact ⟨bF q, by dsimp only; omega, by dsimp only; omega⟩
 ·rw [aT c]
  have b := Bq (r := (aw r).2) (n := (aw r).1.hosts.length) (by omega) (by omega)
  exact ⟨z.1.2 _ (AF (by have := b.2 (by omega); omega)), by dsimp only; rw [AI]; omega, by dsimp only; rw [AI]; omega⟩
def xy : Mt := GN (lc DZ l0) (fun p => 0 ≤ p.1.p ∧ p.1.p ≤ 999400000) (fun p => ([DZ.enc (Uw p.1).2], D7.ag.enc (Uw p.1).1))
section
attribute [local go_sem] FS yC ua AI BK A0 A2 BB BX CJ BU BY lm List.length_append List.length_cons List.length_nil List.map_append List.map_nil Nat.zero_add List.nil_append AS.opn AS.cls AS.nilb AS.renb AS.up Bool.not_false Bool.not_true List.set_set List.set_cons_zero List.set_cons_succ List.set_nil List.mem_singleton forall_eq EM Aa G6 G7 G8 Du Dv
set_option maxHeartbeats 1600000 in
theorem qZ {G : Gt} (hG : Ah G) (hh : G.e 53 = AM FS ∧ G.e 52 = AM yC ∧ G.e 78 = AM ua) : Gd G 28 (AM xy) := by
 refine If (dp := fun _ => true) (fn := Tryz.f28) (n := 1) rfl rfl hG ?_
 rintro ⟨r, ⟨⟩⟩ hpre
 obtain ⟨h1, h2⟩ := hpre
 try dsimp only at h1 h2 ⊢
 have p := nE h1 (by omega)
 have z := (kA h1 (by omega)).1.1
 by_cases c : ((aw r).1.hosts.length : Int) = 0
 ·rw [aV c]
  simp -implicitDefEqProofs only [Tryz.f28, c, eq_self, decide_true, decide_false, go_sem, hh, Int.reduceAdd, seval]
  with_reducible repeat' (first | apply ai | intro _ | ((first | apply s1 | apply s3 | apply s4) <;> intro hb <;> simp -implicitDefEqProofs only [hb, go_sem, hh, Int.reduceAdd, seval] <;> try simp only [qz] at hb))
  all_goals (try simp only [maxLen, tn] at *)
  all_goals first | with_reducible rfl | omega | with_reducible assumption | (show _ = true; rfl) | contradiction | decide | skip
 ·rw [aT c]
  have b := Bq (r := (aw r).2) (n := (aw r).1.hosts.length) (by omega) (by omega)
  simp -implicitDefEqProofs only [Tryz.f28, c, eq_self, decide_true, decide_false, go_sem, hh, Int.reduceAdd, seval]
  with_reducible repeat' (first | apply ai | intro _ | ((first | apply s1 | apply s3 | apply s4) <;> intro hb <;> simp -implicitDefEqProofs only [hb, go_sem, hh, Int.reduceAdd, seval] <;> try simp only [qz] at hb))
  all_goals (try simp only [maxLen, tn] at *)
  all_goals first | with_reducible rfl | omega | with_reducible assumption | (show _ = true; rfl) | contradiction | decide | exact b.1 | exact b.2 (by omega) | skip
end
theorem vP {r : Rd} (h : 0 ≤ r.p) (h1 : r.p ≤ 999400000) : Eh 1600 (Uw r).1 := by
 have hk := Yl h (by omega)
 have z := LX r
 have hH := (z.1 _ (AF (xs := (D6 r).hosts) (j := (dv r).toNat) (by omega))).2
 have key : ∀ x ∈ (aw r).1.hosts, Eh 1600 x := by
  by_cases c0 : FV r = 0
  ·rw [dw c0]
   intro x hx
   rcases List.mem_or_eq_of_mem_set hx with hx | rfl
   ·exact (z.1 x hx).2
   ·exact hH
  ·by_cases c1 : FV r = 1
   ·rw [dx c1]
    intro x hx
    rcases List.mem_or_eq_of_mem_set hx with hx | rfl
    ·exact (z.1 x hx).2
    ·exact hH
   ·by_cases c2 : FV r = 2
    ·rw [dy c2]; exact fun x hx => (z.1 x hx).2
    ·by_cases c3 : FV r = 3
     ·rw [dz c3]; exact fun x hx => (z.1 x hx).2
     ·by_cases c4 : FV r = 4
      ·rw [d4 c4]; intro x hx; cases hx
      ·rw [d5 ⟨c0, c1, c2, c3, c4⟩]; exact fun x hx => (z.1 x hx).2
 by_cases c : ((aw r).1.hosts.length : Int) = 0
 ·rw [aV c]; exact ⟨Nat.zero_le _, fun _ q => (by cases q), Nat.zero_le _, fun _ q => by cases q⟩
 ·rw [aT c]
  have p := nE h h1
  have b := Bq (r := (aw r).2) (n := (aw r).1.hosts.length) (by omega) (by omega)
  exact key _ (AF (by have := b.2 (by omega); omega))
def yv (s : Sp) : Int := DD OC s.items
theorem Lz {s : Sp} (h : Bg s) : Fb s = yv s := M2 h
theorem dq (s : Sp) (m : Ml) (w : Int) : yv (Hd s m w) = yv s + m.to.length := by
 show DD OC (s.items ++ [JR s m w]) = DD OC s.items + m.to.length
 rw [Qb]
 show _ + (OC (JR s m w) + 0) = _
 have e : OC (JR s m w) = m.to.length := by
  show ((m.to.map _).length : Int) = _
  rw [lm]
 omega
theorem cW {h : Hs} {m : Ml} {w : Int} {N : Nat} (q : DR h) (hn : Eh N h) (hN : N ≤ 1000000) : FX h m w = (h, false) ∨ ∃ x, FX h m w = (x, true) ∧ B6 m ∧ m.body.length < 12 ∧ DR x ∧ E0 x ∧ (x.spool.items.getD (x.spool.items.length - 1) default).body = BD h.conf.name :: m.body ∧ 1 ≤ x.spool.items.length ∧ Fb x.spool = Fb h.spool + m.to.length := by
 by_cases z : dX h m w
 ·right
  have k := Si (Db.1 q) hn z.1 z.2.2.2.1 z.2.1 z.2.2.2.2
  have q2 := Db.2 k.1
  refine ⟨_, Mv q z, z.1, z.2.2.2.1, q2, Dq k.1 k.2 (by omega), ?_, ?_, ?_⟩
  ·show ((h.spool.items ++ [JR h.spool (I8 h.conf.name m) w]).getD ((h.spool.items ++ [JR h.spool (I8 h.conf.name m) w]).length - 1) default).body = _
   rw [List.length_append, List.length_singleton, Nat.add_sub_cancel]
   simp [JR, I8]
  ·show 1 ≤ (h.spool.items ++ [_]).length
   rw [List.length_append, List.length_singleton]; omega
  ·rw [Lz q2.2.2, Lz q.2.2]
   exact dq _ _ _
 ·exact .inl (Da q z)
def dh (r : Rd) : Int := GQ r [0, 3, 6, 12]
def Qh (r : Rd) : List ByteArray := Hh (r.nx 1) (dh r)
def N8 (r : Rd) : Rd := KU (r.nx 1) (dh r)
def YI (r : Rd) : Int := Ac (N8 r) 14
def YL (l : List ByteArray) (i : Nat) : List ByteArray := l ++ List.replicate i ⟨#[120]⟩
def tW (l : List ByteArray) : List ByteArray := YL l (13 - l.length)
theorem di (l : List ByteArray) (i : Nat) : (YL l i).length = l.length + i := by unfold YL; rw [List.length_append, List.length_replicate]
theorem t6 (l : List ByteArray) : YL l 0 = l := List.append_nil l
theorem t8 (l : List ByteArray) (i : Nat) : YL l (i + 1) = YL l i ++ [⟨#[120]⟩] := by unfold YL; rw [List.replicate_succ', List.append_assoc]
theorem t7 (l : List ByteArray) (i : Nat) : (YL l i).map AG ++ [[.v (.string ⟨#[120]⟩)]] = (YL l (i + 1)).map AG := by rw [t8, List.map_append]; rfl
def G0 (r : Rd) : List ByteArray × Rd := if YI r = 0 then (Qh r ++ [Mb ((N8 r).nx 1) [⟨#[97, 13]⟩, ⟨#[97, 10, 98]⟩, ⟨#[127]⟩, ⟨#[97, 32, 108, 105, 110, 101, 32, 116, 104, 97, 116, 32, 105, 115, 32, 111, 110, 101, 32, 98, 121, 116, 101, 32, 108, 111, 110, 103, 101, 114, 32, 116, 104, 97, 110, 32, 102, 111, 114, 116, 121]⟩]], (N8 r).nx 2) else if YI r = 1 then (tW (Qh r), (N8 r).nx 1) else (Qh r, (N8 r).nx 1)
theorem YW {r : Rd} (h : YI r = 0) : G0 r = (Qh r ++ [Mb ((N8 r).nx 1) [⟨#[97, 13]⟩, ⟨#[97, 10, 98]⟩, ⟨#[127]⟩, ⟨#[97, 32, 108, 105, 110, 101, 32, 116, 104, 97, 116, 32, 105, 115, 32, 111, 110, 101, 32, 98, 121, 116, 101, 32, 108, 111, 110, 103, 101, 114, 32, 116, 104, 97, 110, 32, 102, 111, 114, 116, 121]⟩]], (N8 r).nx 2) := if_pos h
theorem YX {r : Rd} (h : YI r = 1) : G0 r = (tW (Qh r), (N8 r).nx 1) := by unfold G0; rw [if_neg (by omega), if_pos h]
theorem YY {r : Rd} (h : ¬ YI r = 0) (h1 : ¬ YI r = 1) : G0 r = (Qh r, (N8 r).nx 1) := by unfold G0; rw [if_neg h, if_neg h1]
theorem YK {r : Rd} (h : 0 ≤ r.p) (h1 : r.p ≤ 999999000) : 0 ≤ dh r ∧ dh r ≤ 12 := by
 have z := Hw (r := r) (l := [0, 3, 6, 12]) h (by omega) (by decide)
 unfold dh
 simp only [List.mem_cons, List.not_mem_nil, or_false] at z
 omega
theorem jx {r : Rd} (h : 0 ≤ r.p) (h1 : r.p ≤ 999999000) : (N8 r).b = r.b ∧ r.p + 2 ≤ (N8 r).p ∧ (N8 r).p ≤ r.p + 14 := by
 have m := YK h h1
 have z := Yq (r := r.nx 1) (m := dh r) (by rw [AI]; omega) (by rw [AI]; omega) (by omega)
 rw [AI, BK] at z
 unfold N8
 exact ⟨z.1, by omega, by omega⟩
theorem YJ {r : Rd} (h : 0 ≤ r.p) (h1 : r.p ≤ 999999000) : CZ (Qh r) := by
 have m := YK h h1
 exact UH (by rw [AI]; omega) (by rw [AI]; omega) m.1 m.2
theorem dr {r : Rd} (h : 0 ≤ r.p) (h1 : r.p ≤ 999999000) : GY Bb (G0 r).1 ∧ (G0 r).2.b = r.b ∧ r.p + 2 ≤ (G0 r).2.p ∧ (G0 r).2.p ≤ r.p + 16 := by
 have q := jx h h1
 have l := YJ h h1
 have l2 := F7 l
 have l3 := l.2
 have key : ∀ x : List ByteArray, x.length ≤ 1 ∨ x.length ≤ 13 → (∀ s ∈ x, s.size ≤ 1000) → GY Bb (Qh r ++ x) := fun x hx hs => ⟨by rw [List.length_append]; omega, fun s k => by
  rcases List.mem_append.1 k with k | k
  ·exact l2.2 s k
  ·have := hs s k
   show s.size ≤ 1048576; omega⟩
 by_cases c0 : YI r = 0
 ·rw [YW c0]
  refine ⟨key _ (.inl (Nat.le_refl 1)) fun s k => ?_, (BK ..).trans q.1, by dsimp only; rw [AI]; omega, by dsimp only; rw [AI]; omega⟩
  rw [List.mem_singleton] at k
  subst k
  have z := GR (r := (N8 r).nx 1) (l := [⟨#[97, 13]⟩, ⟨#[97, 10, 98]⟩, ⟨#[127]⟩, ⟨#[97, 32, 108, 105, 110, 101, 32, 116, 104, 97, 116, 32, 105, 115, 32, 111, 110, 101, 32, 98, 121, 116, 101, 32, 108, 111, 110, 103, 101, 114, 32, 116, 104, 97, 110, 32, 102, 111, 114, 116, 121]⟩]) (by rw [AI]; omega) (by rw [AI]; omega) (by decide)
  simp only [List.mem_cons, List.not_mem_nil, or_false] at z
  rcases z with z | z | z | z <;> rw [z] <;> decide
 ·by_cases c1 : YI r = 1
  ·rw [YX c1]
   refine ⟨key _ (.inr (by rw [List.length_replicate]; omega)) fun s k => ?_, (BK ..).trans q.1, by dsimp only; rw [AI]; omega, by dsimp only; rw [AI]; omega⟩
   rw [(List.mem_replicate.1 k).2]; decide
  ·rw [YY c0 c1]
   exact ⟨l2, (BK ..).trans q.1, by dsimp only; rw [AI]; omega, by dsimp only; rw [AI]; omega⟩
theorem tz (r : Rd) : GQ r [0, 3, 6, 12] = dh r := rfl
theorem tx (r : Rd) : Hh (r.nx 1) (dh r) = Qh r := rfl
theorem t5 (r : Rd) : KU (r.nx 1) (dh r) = N8 r := rfl
theorem tw (r : Rd) : Ac (N8 r) 14 = YI r := rfl
def nM : Mt := GN (lc DZ l0) (fun p => 0 ≤ p.1.p ∧ p.1.p ≤ 999998000) (fun p => ([DZ.enc (G0 p.1).2], .o true 1 ((G0 p.1).1.map AG)))
section
attribute [local go_sem] FS RO RN Y2 AI BK A0 A2 BB BX CJ BU BY lm List.length_append List.length_cons List.length_nil List.map_append List.map_nil Nat.zero_add List.nil_append AS.opn AS.cls AS.nilb AS.renb AS.up Bool.not_false Bool.not_true List.set_set List.set_cons_zero List.set_cons_succ List.set_nil List.mem_singleton forall_eq tz tx t5 tw FC Fj Aa G6 G7 G8 Du Dv
set_option maxHeartbeats 1600000 in
theorem fM {G : Gt} (hG : Ah G) (hh : G.e 53 = AM FS ∧ G.e 31 = AM RO ∧ G.e 30 = AM RN ∧ G.e 144 = AM Y2) : Gd G 111 (AM nM) := by
 refine If (dp := fun _ => true) (fn := Tryz.f111) (n := 1) rfl rfl hG ?_
 rintro ⟨r, ⟨⟩⟩ hpre
 obtain ⟨h1, h2⟩ := hpre
 try dsimp only at h1 h2 ⊢
 have m := YK h1 (by omega)
 have q := jx h1 (by omega)
 have l := (YJ h1 (by omega)).2
 by_cases c0 : YI r = 0
 ·rw [YW c0]
  simp -implicitDefEqProofs only [Tryz.f111, c0, eq_self, decide_true, decide_false, Int.reduceEq, go_sem, hh, Int.reduceAdd, seval]
  with_reducible repeat' (first | apply ai | intro _ | ((first | apply s1 | apply s3 | apply s4) <;> intro hb <;> simp -implicitDefEqProofs only [hb, go_sem, hh, Int.reduceAdd, seval] <;> try simp only [qz] at hb))
  all_goals (try simp only [maxLen, tn] at *)
  all_goals first | with_reducible rfl | omega | with_reducible assumption | ((with_reducible show _ = true); rfl) | (exfalso; with_reducible contradiction) | rfl | decide | skip
 ·by_cases c1 : YI r = 1
  ·rw [YX c1]
   simp -implicitDefEqProofs only [Tryz.f111, c1, eq_self, decide_true, decide_false, Int.reduceEq, go_sem, hh, Int.reduceAdd, seval]
   with_reducible repeat' (first | apply ai | intro _ | ((first | apply s1 | apply s3 | apply s4) <;> intro hb <;> simp -implicitDefEqProofs only [hb, go_sem, hh, Int.reduceAdd, seval] <;> try simp only [qz] at hb))
   all_goals (try simp only [maxLen, tn] at *)
   all_goals first | with_reducible rfl | omega | with_reducible assumption | ((with_reducible show _ = true); rfl) | (exfalso; with_reducible contradiction) | rfl | decide | skip
   refine AE [(3, 903, true, 1)] (ι := {i : Nat // i ≤ 13 - (Qh r).length}) (fun p => ⟨[(0, .pb 1900 0), (3, .h 903)], [(1900, some (.box [.t (.sl 1 ((N8 r).b.map CH)), .t (.v (.int .i64 ((N8 r).p + 1)))])), (903, some (.arr true 1 ((YL (Qh r) p.1).map AG)))]⟩) (fun p => 13 - p.1) ⟨0, Nat.zero_le _⟩ rfl ?_ ?_
   ·simp -implicitDefEqProofs only [go_sem, hh, Int.reduceAdd, seval]
    simp [t6]
   ·rintro ⟨i, hi⟩
    have hlen := di (Qh r) i
    by_cases hlt : (((Qh r).length + i : Nat) : Int) < 13
    ·simp -implicitDefEqProofs only [hlt, decide_true, lm, hlen, go_sem, hh, Int.reduceAdd, seval]
     with_reducible repeat' (first | apply ai | intro _ | ((first | apply s1 | apply s3 | apply s4) <;> intro hb <;> simp -implicitDefEqProofs only [hb, go_sem, hh, Int.reduceAdd, seval] <;> try simp only [qz] at hb))
     all_goals (try simp only [maxLen, tn] at *)
     all_goals first | with_reducible rfl | omega | with_reducible assumption | ((with_reducible show _ = true); rfl) | (exfalso; with_reducible contradiction) | rfl | decide | skip
     refine ⟨⟨i + 1, by omega⟩, by dsimp only; omega, ?_⟩
     simp -implicitDefEqProofs only [go_sem, hh, Int.reduceAdd, seval]
     simp only [t7]
     first | (simp; done) | skip
    ·have e1 : i = 13 - (Qh r).length := by omega
     have e2 : tW (Qh r) = YL (Qh r) i := by rw [e1]; rfl
     rw [e2]
     simp -implicitDefEqProofs only [hlt, decide_false, lm, hlen, go_sem, hh, Int.reduceAdd, seval]
     with_reducible repeat' (first | apply ai | intro _ | ((first | apply s1 | apply s3 | apply s4) <;> intro hb <;> simp -implicitDefEqProofs only [hb, go_sem, hh, Int.reduceAdd, seval] <;> try simp only [qz] at hb))
     all_goals (try simp only [maxLen, tn] at *)
     all_goals first | with_reducible rfl | omega | with_reducible assumption | ((with_reducible show _ = true); rfl) | (exfalso; with_reducible contradiction) | rfl | decide | skip
  ·rw [YY c0 c1]
   simp -implicitDefEqProofs only [Tryz.f111, c0, c1, eq_self, decide_true, decide_false, Int.reduceEq, go_sem, hh, Int.reduceAdd, seval]
   with_reducible repeat' (first | apply ai | intro _ | ((first | apply s1 | apply s3 | apply s4) <;> intro hb <;> simp -implicitDefEqProofs only [hb, go_sem, hh, Int.reduceAdd, seval] <;> try simp only [qz] at hb))
   all_goals (try simp only [maxLen, tn] at *)
   all_goals first | with_reducible rfl | omega | with_reducible assumption | ((with_reducible show _ = true); rfl) | (exfalso; with_reducible contradiction) | rfl | decide | skip
end
def Lj (r : Rd) : Int := Ac (Fu r) 12
def Fh (r : Rd) : Ml × Rd :=
 if Lj r = 0 then (⟨(Ge r).frm, (Ge r).to, (G0 ((Fu r).nx 1)).1⟩, (G0 ((Fu r).nx 1)).2)
 else if Lj r = 1 then (⟨(Ge r).frm, (Ge r).to ++ [(Ge r).to.getD 0 default], (Ge r).body⟩, (Fu r).nx 1)
 else if Lj r = 2 then (⟨(Ge r).frm, [], (Ge r).body⟩, (Fu r).nx 1)
 else if Lj r = 3 then (⟨(B7 ((Fu r).nx 1)).1, (Ge r).to, (Ge r).body⟩, (B7 ((Fu r).nx 1)).2)
 else (Ge r, (Fu r).nx 1)
section
variable {r : Rd}
theorem YZ (h : Lj r = 0) : Fh r = (⟨(Ge r).frm, (Ge r).to, (G0 ((Fu r).nx 1)).1⟩, (G0 ((Fu r).nx 1)).2) := if_pos h
theorem Ya (h : Lj r = 1) : Fh r = (⟨(Ge r).frm, (Ge r).to ++ [(Ge r).to.getD 0 default], (Ge r).body⟩, (Fu r).nx 1) := by unfold Fh; rw [if_neg (by omega), if_pos h]
theorem Yb (h : Lj r = 2) : Fh r = (⟨(Ge r).frm, [], (Ge r).body⟩, (Fu r).nx 1) := by unfold Fh; rw [if_neg (by omega), if_neg (by omega), if_pos h]
theorem Yc (h : Lj r = 3) : Fh r = (⟨(B7 ((Fu r).nx 1)).1, (Ge r).to, (Ge r).body⟩, (B7 ((Fu r).nx 1)).2) := by unfold Fh; rw [if_neg (by omega), if_neg (by omega), if_neg (by omega), if_pos h]
theorem Yd (h0 : ¬ Lj r = 0) (h1 : ¬ Lj r = 1) (h2 : ¬ Lj r = 2) (h3 : ¬ Lj r = 3) : Fh r = (Ge r, (Fu r).nx 1) := by unfold Fh; rw [if_neg h0, if_neg h1, if_neg h2, if_neg h3]
end
theorem uA (r : Rd) : Ac (Fu r) 12 = Lj r := rfl
theorem T5 {r : Rd} (h : 0 ≤ r.p) (h1 : r.p ≤ 999990000) : E3 (Fh r).1 ∧ (Fh r).2.b = r.b ∧ r.p + 4 ≤ (Fh r).2.p ∧ (Fh r).2.p ≤ r.p + 60 := by
 have p := VI h (by omega)
 have k := Ij h (by omega)
 obtain ⟨o1, o2, o3⟩ := HS k
 by_cases c0 : Lj r = 0
 ·rw [YZ c0]
  have z := dr (r := (Fu r).nx 1) (by rw [AI]; omega) (by rw [AI]; omega)
  rw [AI, BK] at z
  exact ⟨⟨o1, o2, z.1⟩, z.2.1.trans p.1, by dsimp only; omega, by dsimp only; omega⟩
 ·by_cases c1 : Lj r = 1
  ·rw [Ya c1]
   refine ⟨⟨o1, ⟨by have := k.2.2.2.1.2; rw [List.length_append, List.length_singleton]; omega, fun a ha => ?_⟩, o3⟩, (BK ..).trans p.1, by dsimp only; rw [AI]; omega, by dsimp only; rw [AI]; omega⟩
   rcases List.mem_append.1 ha with ha | ha
   ·exact o2.2 a ha
   ·rw [List.mem_singleton] at ha
    rw [ha]; exact o2.2 _ (AF (by have := k.2.2.2.1.1; omega))
  ·by_cases c2 : Lj r = 2
   ·rw [Yb c2]
    exact ⟨⟨o1, ⟨by show ((0 : Nat) : Int) ≤ 1048576; decide, fun a ha => (by cases ha)⟩, o3⟩, (BK ..).trans p.1, by dsimp only; rw [AI]; omega, by dsimp only; rw [AI]; omega⟩
   ·by_cases c3 : Lj r = 3
    ·rw [Yc c3]
     have z := KO (r := (Fu r).nx 1) (by rw [AI]; omega) (by rw [AI]; omega)
     rw [AI, BK] at z
     exact ⟨⟨z.1, o2, o3⟩, z.2.1.trans p.1, by dsimp only; omega, by dsimp only; omega⟩
    ·rw [Yd c0 c1 c2 c3]
     exact ⟨⟨o1, o2, o3⟩, (BK ..).trans p.1, by dsimp only; rw [AI]; omega, by dsimp only; rw [AI]; omega⟩
def yD : Mt := GN (lc DZ l0) (fun p => 0 ≤ p.1.p ∧ p.1.p ≤ 999990000) (fun p => ([DZ.enc (Fh p.1).2], QJ (Fh p.1).1))
section
attribute [local go_sem] FS RE nM Yw AI BK A0 A2 BB BX CJ BU BY lm List.length_append List.length_cons List.length_nil List.map_append List.map_nil Nat.zero_add List.nil_append AS.opn AS.cls AS.nilb AS.renb AS.up Bool.not_false Bool.not_true List.set_set List.set_cons_zero List.set_cons_succ List.set_nil List.mem_singleton forall_eq uA Aa G6 G7 G8 Du Dv
set_option maxHeartbeats 3200000 in
theorem rJ {G : Gt} (hG : Ah G) (hh : G.e 53 = AM FS ∧ G.e 110 = AM RE ∧ G.e 111 = AM nM ∧ G.e 101 = AM Yw) : Gd G 61 (AM yD) := by
 refine If (dp := fun n => !(Nat.beq n 100011)) (fn := Tryz.f61) (n := 1) rfl rfl hG ?_
 rintro ⟨r, ⟨⟩⟩ hpre
 obtain ⟨h1, h2⟩ := hpre
 try dsimp only at h1 h2 ⊢
 have p := VI h1 (by omega)
 have k := Ij h1 (by omega)
 have k1 := k.2.2.2.1.1
 have k2 := k.2.2.2.1.2
 by_cases c0 : Lj r = 0
 ·rw [YZ c0]
  simp -implicitDefEqProofs only [Tryz.f61, c0, eq_self, decide_true, decide_false, Int.reduceEq, go_sem, hh, Int.reduceAdd, seval]
  with_reducible repeat' (first | apply ai | intro _ | ((first | apply s1 | apply s3 | apply s4) <;> intro hb <;> simp -implicitDefEqProofs only [hb, go_sem, hh, Int.reduceAdd, seval] <;> try simp only [qz] at hb))
  all_goals (try simp only [maxLen, tn] at *)
  all_goals first | with_reducible rfl | omega | with_reducible assumption | ((with_reducible show _ = true); rfl) | (exfalso; with_reducible contradiction) | rfl | decide | skip
  refine AY ?_
  simp -implicitDefEqProofs only [go_sem, hh, Int.reduceAdd, seval]
  with_reducible repeat' (first | apply ai | intro _ | ((first | apply s1 | apply s3 | apply s4) <;> intro hb <;> simp -implicitDefEqProofs only [hb, go_sem, hh, Int.reduceAdd, seval] <;> try simp only [qz] at hb))
  all_goals (try simp only [maxLen, tn] at *)
  all_goals first | with_reducible rfl | omega | with_reducible assumption | ((with_reducible show _ = true); rfl) | (exfalso; with_reducible contradiction) | rfl | decide | skip
 ·by_cases c1 : Lj r = 1
  ·rw [Ya c1]
   simp -implicitDefEqProofs only [Tryz.f61, c1, eq_self, decide_true, decide_false, Int.reduceEq, go_sem, hh, Int.reduceAdd, seval]
   with_reducible repeat' (first | apply ai | intro _ | ((first | apply s1 | apply s3 | apply s4) <;> intro hb <;> simp -implicitDefEqProofs only [hb, go_sem, hh, Int.reduceAdd, seval] <;> try simp only [qz] at hb))
   all_goals (try simp only [maxLen, tn] at *)
   all_goals first | with_reducible rfl | omega | with_reducible assumption | ((with_reducible show _ = true); rfl) | (exfalso; with_reducible contradiction) | rfl | decide | skip
   refine AY ?_
   simp -implicitDefEqProofs only [go_sem, hh, Int.reduceAdd, seval]
   with_reducible repeat' (first | apply ai | intro _ | ((first | apply s1 | apply s3 | apply s4) <;> intro hb <;> simp -implicitDefEqProofs only [hb, go_sem, hh, Int.reduceAdd, seval] <;> try simp only [qz] at hb))
   all_goals (try simp only [maxLen, tn] at *)
   all_goals first | with_reducible rfl | omega | with_reducible assumption | ((with_reducible show _ = true); rfl) | (exfalso; with_reducible contradiction) | rfl | decide | skip
  ·by_cases c2 : Lj r = 2
   ·rw [Yb c2]
    simp -implicitDefEqProofs only [Tryz.f61, c2, eq_self, decide_true, decide_false, Int.reduceEq, go_sem, hh, Int.reduceAdd, seval]
    with_reducible repeat' (first | apply ai | intro _ | ((first | apply s1 | apply s3 | apply s4) <;> intro hb <;> simp -implicitDefEqProofs only [hb, go_sem, hh, Int.reduceAdd, seval] <;> try simp only [qz] at hb))
    all_goals (try simp only [maxLen, tn] at *)
    all_goals first | with_reducible rfl | omega | with_reducible assumption | ((with_reducible show _ = true); rfl) | (exfalso; with_reducible contradiction) | rfl | decide | skip
    refine Ag (Le.nilb 1003 2 1907 true 2 rfl rfl rfl) (AY ?_)
    simp -implicitDefEqProofs only [go_sem, hh, Int.reduceAdd, seval]
    with_reducible repeat' (first | apply ai | intro _ | ((first | apply s1 | apply s3 | apply s4) <;> intro hb <;> simp -implicitDefEqProofs only [hb, go_sem, hh, Int.reduceAdd, seval] <;> try simp only [qz] at hb))
    all_goals (try simp only [maxLen, tn] at *)
    all_goals first | with_reducible rfl | omega | with_reducible assumption | ((with_reducible show _ = true); rfl) | (exfalso; with_reducible contradiction) | rfl | decide | skip
   ·by_cases c3 : Lj r = 3
    ·rw [Yc c3]
     simp -implicitDefEqProofs only [Tryz.f61, c3, eq_self, decide_true, decide_false, Int.reduceEq, go_sem, hh, Int.reduceAdd, seval]
     with_reducible repeat' (first | apply ai | intro _ | ((first | apply s1 | apply s3 | apply s4) <;> intro hb <;> simp -implicitDefEqProofs only [hb, go_sem, hh, Int.reduceAdd, seval] <;> try simp only [qz] at hb))
     all_goals (try simp only [maxLen, tn] at *)
     all_goals first | with_reducible rfl | omega | with_reducible assumption | ((with_reducible show _ = true); rfl) | (exfalso; with_reducible contradiction) | rfl | decide | skip
     refine AY ?_
     simp -implicitDefEqProofs only [go_sem, hh, Int.reduceAdd, seval]
     with_reducible repeat' (first | apply ai | intro _ | ((first | apply s1 | apply s3 | apply s4) <;> intro hb <;> simp -implicitDefEqProofs only [hb, go_sem, hh, Int.reduceAdd, seval] <;> try simp only [qz] at hb))
     all_goals (try simp only [maxLen, tn] at *)
     all_goals first | with_reducible rfl | omega | with_reducible assumption | ((with_reducible show _ = true); rfl) | (exfalso; with_reducible contradiction) | rfl | decide | skip
    ·rw [Yd c0 c1 c2 c3]
     simp -implicitDefEqProofs only [Tryz.f61, c0, c1, c2, c3, eq_self, decide_true, decide_false, Int.reduceEq, go_sem, hh, Int.reduceAdd, seval]
     with_reducible repeat' (first | apply ai | intro _ | ((first | apply s1 | apply s3 | apply s4) <;> intro hb <;> simp -implicitDefEqProofs only [hb, go_sem, hh, Int.reduceAdd, seval] <;> try simp only [qz] at hb))
     all_goals (try simp only [maxLen, tn] at *)
     all_goals first | with_reducible rfl | omega | with_reducible assumption | ((with_reducible show _ = true); rfl) | (exfalso; with_reducible contradiction) | rfl | decide | skip
     refine AY ?_
     simp -implicitDefEqProofs only [go_sem, hh, Int.reduceAdd, seval]
     with_reducible repeat' (first | apply ai | intro _ | ((first | apply s1 | apply s3 | apply s4) <;> intro hb <;> simp -implicitDefEqProofs only [hb, go_sem, hh, Int.reduceAdd, seval] <;> try simp only [qz] at hb))
     all_goals (try simp only [maxLen, tn] at *)
     all_goals first | with_reducible rfl | omega | with_reducible assumption | ((with_reducible show _ = true); rfl) | (exfalso; with_reducible contradiction) | rfl | decide | skip
end
end Go.V
