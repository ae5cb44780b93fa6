/- The row. No condition. -/
import Derived.Test.YtahogphlohnpmaaGreatDoorKB
import Derived.Test.YtahogphlohnpmaaGreatDoorXB
import Derived.Test.YtahogphlohnpmaaGreatDoorKA
import Derived.ProofKit
import Derived.Carry
import Derived.WalkKit
import Derived.Test.YtahogphlohnpmaaGreatDoorCards
import Derived.Test.YtahogphlohnpmaaGreatDoorTie
import Derived.OpenShut
import Derived.Deep.DeepHandedRow
namespace Go.V
open Go Go.Proofs
set_option maxRecDepth 100000
set_option linter.unusedSimpArgs false
set_option linter.unusedVariables false
def M3 (s : Ss) : Prop := s.mail.to.length ≤ 4 ∧ s.mail.body.length ≤ 12 ∧ HN s.mail.frm ∧ (∀ a ∈ s.mail.to, HN a) ∧ ∀ l ∈ s.mail.body, BY l
def br (m : Ml) : Prop := Kc m ∧ m.to.length ≤ 4 ∧ m.body.length ≤ 12
theorem eF {s : Ss} (h : M3 s) : br s.mail := ⟨⟨h.2.2.1, ⟨by have := h.1; omega, h.2.2.2.1⟩, ⟨by have := h.2.1; omega, h.2.2.2.2⟩⟩, h.1, h.2.1⟩
theorem oM : HN ⟨⟨#[]⟩, ⟨#[]⟩⟩ := CJ (.inr ⟨rfl, rfl⟩)
theorem Q1 (t : ByteArray) : HN (BA t) := by
 by_cases h : Fl t
 ·exact CJ (Io h).1
 ·rw [L8 h]; exact oM
theorem FN (s : Ss) : M3 (E4 s) := ⟨by show 0 ≤ 4; omega, by show 0 ≤ 12; omega, oM, fun _ h => (by cases h), fun _ h => (by cases h)⟩
theorem Zw {s : Ss} (t : ByteArray) (h : M3 s) : M3 (EJ s t).1 ∧ (EJ s t).2.size ≤ 20 := by
 unfold EJ
 repeat' split
 all_goals first
  | exact ⟨h, Nat.le_of_ble_eq_true rfl⟩
  | exact ⟨⟨by show 0 ≤ 4; omega, by show 0 ≤ 12; omega, Q1 t, fun _ h => (by cases h), fun _ h => (by cases h)⟩, Nat.le_of_ble_eq_true rfl⟩
theorem kz {s : Ss} (c : Cf) (t : ByteArray) (h : M3 s) : M3 (HB c s t).1 ∧ (HB c s t).2.size ≤ 20 := by
 unfold HB
 repeat' split
 all_goals first
  | exact ⟨h, Nat.le_of_ble_eq_true rfl⟩
  | skip
 refine ⟨⟨?_, h.2.1, h.2.2.1, fun a ha => ?_, h.2.2.2.2⟩, Nat.le_of_ble_eq_true rfl⟩
 ·show (s.mail.to ++ [BA t]).length ≤ 4
  rw [List.length_append]
  show s.mail.to.length + 1 ≤ 4
  omega
 ·rcases List.mem_append.1 ha with ha | ha
  ·exact h.2.2.2.1 a ha
  ·rw [List.mem_singleton] at ha; subst ha; exact Q1 t
theorem ZL {s : Ss} (c : Cf) (l : ByteArray) (h : M3 s) : M3 (BP c s l).1 ∧ (BP c s l).2.size ≤ c.name.size + 20 := by
 have q := Zw (s := s) (Ap l ⟨#[77, 65, 73, 76, 32, 70, 82, 79, 77, 58]⟩).1 h
 have q2 := kz (s := s) c (Ap l ⟨#[82, 67, 80, 84, 32, 84, 79, 58]⟩).1 h
 unfold BP
 repeat' split
 all_goals first
  | exact ⟨h, by show (ByteArray.size ⟨_⟩) ≤ _; exact Nat.le_trans (Nat.le_of_ble_eq_true rfl : _ ≤ 20) (Nat.le_add_left _ _)⟩
  | exact ⟨FN _, by show (ByteArray.size ⟨_⟩) ≤ _; exact Nat.le_trans (Nat.le_of_ble_eq_true rfl : _ ≤ 20) (Nat.le_add_left _ _)⟩
  | exact ⟨q.1, Nat.le_trans q.2 (Nat.le_add_left _ _)⟩
  | exact ⟨q2.1, Nat.le_trans q2.2 (Nat.le_add_left _ _)⟩
  | exact ⟨FN _, by show (⟨#[50, 53, 48, 32]⟩ ++ c.name).size ≤ _; rw [ByteArray.size_append]; have : (⟨#[50, 53, 48, 32]⟩ : ByteArray).size = 4 := rfl; omega⟩
theorem ZT {s : Ss} {l : ByteArray} (h : M3 s) (hl : BY l) : M3 (Af s l).1.1 ∧ (Af s l).1.2.size ≤ 20 := by
 have he : BY (l.extract 1 l.size) := by have : l.size ≤ 1048576 := hl; show (l.extract 1 l.size).size ≤ 1048576; rw [ByteArray.size_extract]; omega
 have app : ∀ x, BY x → ¬ ((s.mail.body.length : Int) ≥ 12) → M3 ⟨s.state, ⟨s.mail.frm, s.mail.to, s.mail.body ++ [x]⟩, s.bad, s.buf⟩ := fun x hx hn => ⟨h.1, by show (s.mail.body ++ [x]).length ≤ 12; rw [List.length_append]; show s.mail.body.length + 1 ≤ 12; omega, h.2.2.1, h.2.2.2.1, fun y hy => by
  rcases List.mem_append.1 hy with hy | hy
  ·exact h.2.2.2.2 y hy
  ·rw [List.mem_singleton] at hy; subst hy; exact hx⟩
 unfold Af
 repeat' split
 all_goals first
  | exact ⟨h, Nat.le_of_ble_eq_true rfl⟩
  | exact ⟨app _ hl (by assumption), Nat.le_of_ble_eq_true rfl⟩
  | exact ⟨app _ he (by assumption), Nat.le_of_ble_eq_true rfl⟩
theorem RX {s : Ss} {l : ByteArray} (c : Cf) (h : M3 s) (hl : BY l) : M3 (Bc c s l).1.1 ∧ (Bc c s l).1.2.size ≤ c.name.size + 20 ∧ (Bc c s l).2.length ≤ 1 ∧ ∀ m ∈ (Bc c s l).2, br m := by
 have q := ZT h hl
 have q2 := ZL c l h
 unfold Bc
 repeat' split
 ·exact ⟨h, Nat.zero_le _, Nat.zero_le _, fun _ z => by cases z⟩
 ·exact ⟨q.1, Nat.le_trans q.2 (Nat.le_add_left _ _), Nat.zero_le _, fun _ z => by cases z⟩
 ·exact ⟨FN _, Nat.le_trans q.2 (Nat.le_add_left _ _), Nat.le_refl _, fun m hm => by rw [List.mem_singleton] at hm; subst hm; exact eF q.1⟩
 ·exact ⟨FN _, Nat.le_trans q.2 (Nat.le_add_left _ _), Nat.zero_le _, fun _ z => by cases z⟩
 ·exact ⟨q2.1, q2.2, Nat.zero_le _, fun _ z => by cases z⟩
abbrev FM := Ss × List ByteArray × List Ml
noncomputable def Zs (c : Cf) (x : FM) (l : ByteArray) : FM := ((Bc c x.1 l).1.1, if (Bc c x.1 l).1.2 = ⟨#[]⟩ then x.2.1 else x.2.1 ++ [(Bc c x.1 l).1.2], x.2.2 ++ (Bc c x.1 l).2)
def XY (x : FM) : FM := (E4 ⟨5, x.1.mail, x.1.bad, x.1.buf⟩, x.2.1 ++ [⟨#[53, 48, 48, 32, 108, 111, 110, 103]⟩], x.2.2)
noncomputable def L5 (c : Cf) : List ByteArray → FM → FM × Bool
 | [], x => (x, false)
 | l :: r, x => if x.1.state = 5 then (x, false) else if (l.size : Int) > 78 then (XY x, true) else L5 c r (Zs c x l)
noncomputable def Vc (y : FM × Bool) (lf : ByteArray) : FM := if y.2 = true then y.1 else if y.1.1.state = 5 then y.1 else if (lf.size : Int) > 80 then XY y.1 else (⟨y.1.1.state, y.1.1.mail, y.1.1.bad, lf⟩, y.1.2.1, y.1.2.2)
noncomputable def Bg (c : Cf) (s : Ss) (t : ByteArray) : FM := Vc (L5 c (Mn (s.buf ++ t)) (⟨s.state, s.mail, s.bad, ⟨#[]⟩⟩, [], [])) (jl (s.buf ++ t))
theorem pg {c : Cf} {L : List ByteArray} {x : FM} (h : x.1.state = 5) : L5 c L x = (x, false) := by
 cases L with
 | nil => rfl
 | cons l r => rw [L5, if_pos h]
theorem pe {c : Cf} {L : List ByteArray} {i : Nat} {x : FM} (hi : i < L.length) (h : ¬ x.1.state = 5) (hl : ((L.getD i default).size : Int) > 78) : L5 c (L.drop i) x = (XY x, true) := by
 rw [AW hi, L5, if_neg h, if_pos hl]
theorem pf {c : Cf} {L : List ByteArray} {i : Nat} {x : FM} (hi : i < L.length) (h : ¬ x.1.state = 5) (hl : ¬ ((L.getD i default).size : Int) > 78) : L5 c (L.drop i) x = L5 c (L.drop (i + 1)) (Zs c x (L.getD i default)) := by
 rw [AW hi, L5, if_neg h, if_neg hl]
theorem cq {c : Cf} {L : List ByteArray} {i : Nat} {x : FM} (hi : L.length ≤ i) : L5 c (L.drop i) x = (x, false) := by
 rw [List.drop_of_length_le hi]; rfl
theorem pY {y : FM × Bool} {x : FM} {lf : ByteArray} (h : (x, true) = y) : Vc y lf = x := by subst h; exact if_pos rfl
theorem pZ {y : FM × Bool} {x : FM} {lf : ByteArray} (h : (x, false) = y) (h5 : x.1.state = 5) : Vc y lf = x := by
 subst h; unfold Vc; rw [if_neg (show ¬ (x, false).2 = true from Bool.false_ne_true), if_pos h5]
theorem pc {y : FM × Bool} {x : FM} {lf : ByteArray} (h : (x, false) = y) (h5 : ¬ x.1.state = 5) (hl : (lf.size : Int) > 80) : Vc y lf = XY x := by
 subst h; unfold Vc; rw [if_neg (show ¬ (x, false).2 = true from Bool.false_ne_true), if_neg h5, if_pos hl]
theorem pd {y : FM × Bool} {x : FM} {lf : ByteArray} (h : (x, false) = y) (h5 : ¬ x.1.state = 5) (hl : ¬ (lf.size : Int) > 80) : Vc y lf = (⟨x.1.state, x.1.mail, x.1.bad, lf⟩, x.2.1, x.2.2) := by
 subst h; unfold Vc; rw [if_neg (show ¬ (x, false).2 = true from Bool.false_ne_true), if_neg h5, if_neg hl]
theorem cw {c : Cf} {x : FM} {l : ByteArray} (h : (Bc c x.1 l).1.2 = ⟨#[]⟩) : Zs c x l = ((Bc c x.1 l).1.1, x.2.1, x.2.2 ++ (Bc c x.1 l).2) := by unfold Zs; rw [if_pos h]
theorem cu {c : Cf} {x : FM} {l : ByteArray} (h : ¬ (Bc c x.1 l).1.2 = ⟨#[]⟩) : Zs c x l = ((Bc c x.1 l).1.1, x.2.1 ++ [(Bc c x.1 l).1.2], x.2.2 ++ (Bc c x.1 l).2) := by unfold Zs; rw [if_neg h]
def XV (c : Cf) (n : Nat) (x : FM) : Prop := M3 x.1 ∧ x.2.1.length ≤ n ∧ x.2.2.length ≤ n ∧ (∀ r ∈ x.2.1, r.size ≤ c.name.size + 20) ∧ ∀ m ∈ x.2.2, br m
theorem Vf {c : Cf} {n : Nat} {x : FM} {l : ByteArray} (h : XV c n x) (hl : BY l) : XV c (n + 1) (Zs c x l) := by
 obtain ⟨h1, h2, h3, h4, h5⟩ := h
 obtain ⟨q1, q2, q3, q4⟩ := RX c h1 hl
 have hm : ∀ m ∈ x.2.2 ++ (Bc c x.1 l).2, br m := fun m hm => (List.mem_append.1 hm).elim (h5 m) (q4 m)
 by_cases e : (Bc c x.1 l).1.2 = ⟨#[]⟩
 ·rw [cw e]
  exact ⟨q1, by show x.2.1.length ≤ _; omega, by show (x.2.2 ++ _).length ≤ _; rw [List.length_append]; omega, h4, hm⟩
 ·rw [cu e]
  refine ⟨q1, by show (x.2.1 ++ [_]).length ≤ _; rw [List.length_append]; show x.2.1.length + 1 ≤ _; omega, by show (x.2.2 ++ _).length ≤ _; rw [List.length_append]; omega, fun r hr => ?_, hm⟩
  rcases List.mem_append.1 hr with hr | hr
  ·exact h4 r hr
  ·rw [List.mem_singleton] at hr; subst hr; exact q2
theorem Ve {c : Cf} {n : Nat} {x : FM} (h : XV c n x) : XV c (n + 1) (XY x) := by
 obtain ⟨h1, h2, h3, h4, h5⟩ := h
 refine ⟨FN _, by show (x.2.1 ++ [_]).length ≤ _; rw [List.length_append]; show x.2.1.length + 1 ≤ _; omega, by show x.2.2.length ≤ _; omega, fun r hr => ?_, h5⟩
 rcases List.mem_append.1 hr with hr | hr
 ·exact h4 r hr
 ·rw [List.mem_singleton] at hr; subst hr; exact Nat.le_trans (Nat.le_of_ble_eq_true rfl : _ ≤ 20) (Nat.le_add_left _ _)
theorem D8 {c : Cf} {n m : Nat} {x : FM} (h : XV c n x) (hn : n ≤ m) : XV c m x := ⟨h.1, by have := h.2.1; omega, by have := h.2.2.1; omega, h.2.2.2⟩
theorem Vd {c : Cf} : ∀ (L : List ByteArray) {n : Nat} {x : FM}, XV c n x → (∀ l ∈ L, BY l) → XV c (n + L.length) (L5 c L x).1
 | [], n, x, h, _ => h
 | l :: r, n, x, h, hl => by
   rw [L5]
   split
   ·exact D8 h (Nat.le_add_right _ _)
   ·split
    ·exact D8 (Ve h) (by rw [List.length_cons]; omega)
    ·exact D8 (Vd r (Vf h (hl l (List.mem_cons_self ..))) fun y hy => hl y (List.mem_cons_of_mem _ hy)) (by rw [List.length_cons]; omega)
theorem Vg {c : Cf} {s : Ss} {t : ByteArray} (h : M3 s) (hb : s.buf.size + t.size ≤ 1000000) : XV c (s.buf.size + t.size + 1) (Bg c s t) := by
 obtain ⟨q1, q2, q3⟩ := dE (s.buf ++ t)
 rw [ByteArray.size_append] at q1 q2 q3
 have q := Vd (c := c) (Mn (s.buf ++ t)) (n := 0) (x := (⟨s.state, s.mail, s.bad, ⟨#[]⟩⟩, [], [])) ⟨h, Nat.le_refl _, Nat.le_refl _, fun _ z => (by cases z), fun _ z => (by cases z)⟩ (fun l hl => by have := q2 l hl; show l.size ≤ 1048576; omega)
 have q' := D8 q (show 0 + (Mn (s.buf ++ t)).length ≤ s.buf.size + t.size by omega)
 unfold Bg Vc
 split
 ·exact D8 q' (by omega)
 ·split
  ·exact D8 q' (by omega)
  ·split
   ·exact Ve q'
   ·exact ⟨q'.1, Nat.le_succ_of_le q'.2.1, Nat.le_succ_of_le q'.2.2.1, q'.2.2.2⟩
def gJ : Ct := At (lc I0.ag (lc YA.ag (lc Av l0))) (fun p => p.1.name.size ≤ 1000000 ∧ M3 p.2.1 ∧ p.2.1.buf.size + p.2.2.1.size ≤ 1000000) (fun p => .tup [.agg ((EI (Bg p.1 p.2.1 p.2.2.1).1).map .t), .t (.sl 1 ((Bg p.1 p.2.1 p.2.2.1).2.1.map AH)), .t (.sl 4 ((Bg p.1 p.2.1 p.2.2.1).2.2.map Cy))])
section
attribute [local go_sem] ga PC gb AY lm List.length_append List.map_append AS.opn AS.cls AS.nilb AS.renb AS.up Bool.not_false Bool.not_true List.set_set List.set_cons_zero List.set_cons_succ List.set_nil List.mem_singleton forall_eq tn List.map_nil List.nil_append
set_option maxHeartbeats 6400000 in
theorem my {G : Gt} (hG : Aj G) (hh : G.e 232 = AA 0 ga ∧ G.e 233 = AA 1 PC ∧ G.e 234 = AA 1 gb) : Gd G 218 (AA 1 gJ) := by
 refine OW (dp := fun n => !(Nat.beq n 18 || Nat.beq n 72)) (fn := Tryz.f218) (n := 3) rfl hG ?_
 rintro ⟨c, s, t, ⟨⟩⟩ hpre
 obtain ⟨hn, hs, hz⟩ := hpre
 try dsimp only at hn hs hz ⊢
 obtain ⟨q1, q2, q3⟩ := dE (s.buf ++ t)
 rw [ByteArray.size_append] at q1 q2 q3
 have q2' : ∀ i, i < (Mn (s.buf ++ t)).length → BY ((Mn (s.buf ++ t)).getD i default) := fun i hi => by have := q2 _ (AC hi); show ByteArray.size _ ≤ 1048576; omega
 simp -implicitDefEqProofs only [Tryz.f218, go_sem, hh, seval]
 with_reducible repeat' (first | apply ai | intro _ | ((first | apply s1 | apply s2 | apply s3 | apply s4) <;> intro hb <;> simp -implicitDefEqProofs only [hb, go_sem, hh, seval] <;> try simp only [qz] at hb))
 all_goals (try simp only [maxLen, tn, ByteArray.size_append] at *)
 all_goals first | with_reducible rfl | omega | with_reducible assumption | decide | (simp only [List.mem_cons, List.mem_singleton, List.not_mem_nil] at *; omega) | skip
 refine AE [(9, 901, true, 1), (10, 902, false, 4)] (ι := {p : Nat × FM // p.1 ≤ (Mn (s.buf ++ t)).length ∧ XV c p.1 p.2 ∧ L5 c ((Mn (s.buf ++ t)).drop p.1) p.2 = L5 c (Mn (s.buf ++ t)) (⟨s.state, s.mail, s.bad, ⟨#[]⟩⟩, [], [])}) (fun p => ⟨[(3, .pb 1003 0), (4, .pb 1004 0), (6, .pb 1006 0), (9, .h 901), (10, .h 902), (11, .h 1024), (12, .t (.v (.string (jl (s.buf ++ t))))), (13, .t (.v (.int .i64 p.1.1)))], [(1003, some (.box ((C9 c).map .t))), (1004, some (.box ((EI p.1.2.1).map .t))), (1006, some (.box [.t (.v (.int .i64 0)), .t (.v (.string ⟨#[]⟩)), .t (.v (.string ⟨#[]⟩)), .nil, .nil, .t (.v (.bool false)), .t (.v (.string ⟨#[]⟩))])), (901, some (.arr true 1 (p.1.2.2.1.map AH))), (902, some (.arr false 4 (p.1.2.2.2.map Cy))), (1024, some (.arr true 1 ((Mn (s.buf ++ t)).map AH)))]⟩) (fun p => (Mn (s.buf ++ t)).length - p.1.1) ⟨(0, (⟨s.state, s.mail, s.bad, ⟨#[]⟩⟩, [], [])), Nat.zero_le _, ⟨hs, Nat.le_refl _, Nat.le_refl _, fun _ z => (by cases z), fun _ z => (by cases z)⟩, rfl⟩ rfl ?_ ?_
 ·simp -implicitDefEqProofs only [go_sem, hh, seval]
  try simp
 ·rintro ⟨⟨i, x⟩, hi, hx, hv⟩
  obtain ⟨x1, x2, x3⟩ := x
  dsimp only at hi hx hv
  have hb1 := hx.1.1
  have hb2 := hx.1.2.1
  have hb3 := hx.2.1
  have hb4 := hx.2.2.1
  dsimp only at hb1 hb2 hb3 hb4
  simp -implicitDefEqProofs only [go_sem, hh, seval]
  with_reducible repeat' (first | apply ai | intro _ | ((first | apply s1 | apply s2 | apply s3 | apply s4) <;> intro hb <;> simp -implicitDefEqProofs only [hb, go_sem, hh, seval] <;> try simp only [qz] at hb))
  all_goals (try simp only [maxLen, tn] at *)
  all_goals first
   | with_reducible rfl
   | omega
   | (show _ = true; rfl)
   | with_reducible assumption
   | (rw [show Bg c s t = _ from pZ ((pg (by with_reducible assumption)).symm.trans hv) (by with_reducible assumption)]; first | done | rfl | (simp [XY, AH]; done))
   | (rw [show Bg c s t = _ from pY ((pe (by omega) (by with_reducible assumption) (by with_reducible assumption)).symm.trans hv)]; first | done | rfl | (simp [XY, AH]; done))
   | (rw [show Bg c s t = _ from pc ((cq (by omega)).symm.trans hv) (by with_reducible assumption) (by with_reducible assumption)]; first | done | rfl | (simp [XY, AH]; done))
   | (rw [show Bg c s t = _ from pd ((cq (by omega)).symm.trans hv) (by with_reducible assumption) (by with_reducible assumption)]; first | done | rfl | (simp [XY, AH]; done))
   | exact hx.1
   | exact Nat.le_trans (q2' i (by omega)) (by decide)
   | (refine ⟨⟨(i + 1, Zs c (x1, x2, x3) ((Mn (s.buf ++ t)).getD i default)), by omega, Vf hx (q2' i (by omega)), (pf (by omega) (by with_reducible assumption) (by with_reducible assumption)).symm.trans hv⟩, by dsimp only; omega, ?_⟩
      simp -implicitDefEqProofs only [go_sem, hh, seval]
      first
       | (have ee := cw (c := c) (x := (x1, x2, x3)) (by with_reducible assumption); simp only [ee]; simp [AH]; done)
       | (have ee := cu (c := c) (x := (x1, x2, x3)) (by with_reducible assumption); simp only [ee]; simp [AH]; done))
   | (have q := (RX (s := x1) c hx.1 (q2' i (by omega))).2.2.1; omega)
   | skip
end
def NV (x : ByteArray) : ByteArray := if ¬ x = ⟨#[]⟩ ∧ AB x 0 = 46 then ⟨#[46]⟩ ++ x else x
theorem i5 {x : ByteArray} (h : ¬ x = ⟨#[]⟩) (h2 : AB x 0 = 46) : NV x = ⟨#[46]⟩ ++ x := if_pos ⟨h, h2⟩
theorem i4 {x : ByteArray} (h : ¬ x = ⟨#[]⟩) (h2 : ¬ AB x 0 = 46) : NV x = x := if_neg fun q => h2 q.2
theorem iz {x : ByteArray} (h : x = ⟨#[]⟩) : NV x = x := if_neg fun q => q.1 h
theorem U7 (x : ByteArray) : (NV x).size ≤ x.size + 1 := by
 unfold NV
 split
 ·rw [ByteArray.size_append]; have : (⟨#[46]⟩ : ByteArray).size = 1 := rfl; omega
 ·omega
def Jc : List ByteArray → ByteArray → ByteArray
 | [], o => o
 | x :: r, o => Jc r (o ++ NV x ++ ⟨#[13, 10]⟩)
def SX (l : List ByteArray) : ByteArray := Jc l ⟨#[]⟩ ++ ⟨#[46, 13, 10]⟩
theorem i7 {L : List ByteArray} {i : Nat} {o : ByteArray} (h : i < L.length) : Jc (L.drop i) o = Jc (L.drop (i + 1)) (o ++ NV (L.getD i default) ++ ⟨#[13, 10]⟩) := by rw [AW h, Jc]
theorem i6 {L : List ByteArray} {i : Nat} {o : ByteArray} (h : L.length ≤ i) : Jc (L.drop i) o = o := by rw [List.drop_of_length_le h, Jc]
theorem Lt : (⟨#[13, 10]⟩ : ByteArray).size = 2 := rfl
theorem cM : (⟨#[46, 13, 10]⟩ : ByteArray).size = 3 := rfl
theorem U8 : ∀ (L : List ByteArray) (o : ByteArray) (B : Nat), (∀ x ∈ L, x.size ≤ B) → (Jc L o).size ≤ o.size + L.length * (B + 3)
 | [], o, B, _ => by show o.size ≤ _; omega
 | x :: r, o, B, h => by
   have h1 := h x (List.mem_cons_self ..)
   have h2 := U7 x
   have q := U8 r (o ++ NV x ++ ⟨#[13, 10]⟩) B (fun y hy => h y (List.mem_cons_of_mem _ hy))
   rw [ByteArray.size_append, ByteArray.size_append, Lt] at q
   rw [Jc, List.length_cons, Nat.add_mul]
   omega
def gX : Ct := At (lc Al.asl l0) (fun p => p.1.length ≤ 1000 ∧ ∀ x ∈ p.1, x.size ≤ 2000000) (fun p => .t (.v (.string (SX p.1))))
section
attribute [local go_sem] lm Int.toNat_zero
set_option maxHeartbeats 1600000 in
theorem nF {G : Gt} (hG : Aj G) : Gd G 229 (AA 0 gX) := by
 refine gr (fn := Tryz.f229) (n := 1) rfl hG ?_
 rintro ⟨xs, ⟨⟩⟩ hpre
 simp -implicitDefEqProofs only [Tryz.f229, go_sem, seval] at hpre ⊢
 obtain ⟨hl, hx⟩ := hpre
 try dsimp only at hl hx
 refine AE [] (ι := {p : Nat × ByteArray // p.1 ≤ xs.length ∧ p.2.size ≤ p.1 * 2000003 ∧ Jc (xs.drop p.1) p.2 = Jc xs ⟨#[]⟩}) (fun p => ⟨[(0, .t (.sl 1 (xs.map AH))), (3, .t (.v (.string p.1.2))), (4, .t (.v (.int .i64 p.1.1)))], []⟩) (fun p => xs.length - p.1.1) ⟨(0, ⟨#[]⟩), Nat.zero_le _, Nat.zero_le _, rfl⟩ rfl ?_ ?_
 ·simp -implicitDefEqProofs only [go_sem, seval]
  try simp
 ·rintro ⟨⟨i, out⟩, hi, ho, hv⟩
  dsimp only at hi ho hv
  have hd : ∀ h : i < xs.length, (xs.getD i default).size ≤ 2000000 := fun h => hx _ (AC h)
  have hd1 := U7 (xs.getD i default)
  simp -implicitDefEqProofs only [go_sem, seval]
  with_reducible repeat' (first | apply ai | intro _ | ((first | apply s1 | apply s2 | apply s3 | apply s4) <;> intro hb <;> simp -implicitDefEqProofs only [hb, go_sem, seval] <;> try simp only [qz] at hb))
  all_goals (try simp only [maxLen, tn, ByteArray.size_append, Lt, cM] at *)
  all_goals first
   | with_reducible rfl
   | omega
   | exact Gw (by assumption)
   | (have := hd (by omega); have e : (#[46] : Array UInt8).size = 1 := rfl; have e2 : (#[13, 10] : Array UInt8).size = 2 := rfl; have e3 : (#[46, 13, 10] : Array UInt8).size = 3 := rfl; omega)
   | (have e3 : (#[46, 13, 10] : Array UInt8).size = 3 := rfl; omega)
   | (rw [i6 (by omega)] at hv; unfold SX; rw [← hv]; done)
   | (rw [i7 (by omega)] at hv
      refine ⟨⟨(i + 1, _), by dsimp only; omega, ?_, hv⟩, by dsimp only; omega, ?_⟩
      ·have := hd (by omega)
       dsimp only
       rw [ByteArray.size_append, ByteArray.size_append, Lt]
       omega
      ·simp -implicitDefEqProofs only [go_sem, seval]
       first
        | (rw [i5 (by assumption) (by assumption)]; simp; done)
        | (rw [i4 (by assumption) (by assumption)]; simp; done)
        | (rw [iz (by assumption)]; simp; done))
   | skip
end
theorem vM : (3 : Int).toNat = 3 := rfl
open Classical in
noncomputable def A9 (s : ByteArray) : Int := (if (s.size : Int) < 4 then 0 else (if AB s 3 = 32 then (if AB s 0 < 50 then 0 else (if AB s 0 > 53 then 0 else (if Nv (s.extract 0 3) < 200 then 0 else Nv (s.extract 0 3)))) else 0))
theorem iM {s : ByteArray} (h0 : (s.size : Int) < 4) : A9 s = 0 := by unfold A9; rw [if_pos h0]
theorem iN {s : ByteArray} (h0 : ¬ ((s.size : Int) < 4)) (h1 : AB s 3 = 32) (h2 : AB s 0 < 50) : A9 s = 0 := by unfold A9; rw [if_neg h0, if_pos h1, if_pos h2]
theorem iO {s : ByteArray} (h0 : ¬ ((s.size : Int) < 4)) (h1 : AB s 3 = 32) (h2 : ¬ (AB s 0 < 50)) (h3 : AB s 0 > 53) : A9 s = 0 := by unfold A9; rw [if_neg h0, if_pos h1, if_neg h2, if_pos h3]
theorem iP {s : ByteArray} (h0 : ¬ ((s.size : Int) < 4)) (h1 : AB s 3 = 32) (h2 : ¬ (AB s 0 < 50)) (h3 : ¬ (AB s 0 > 53)) (h4 : Nv (s.extract 0 3) < 200) : A9 s = 0 := by unfold A9; rw [if_neg h0, if_pos h1, if_neg h2, if_neg h3, if_pos h4]
theorem iQ {s : ByteArray} (h0 : ¬ ((s.size : Int) < 4)) (h1 : AB s 3 = 32) (h2 : ¬ (AB s 0 < 50)) (h3 : ¬ (AB s 0 > 53)) (h4 : ¬ (Nv (s.extract 0 3) < 200)) : A9 s = Nv (s.extract 0 3) := by unfold A9; rw [if_neg h0, if_pos h1, if_neg h2, if_neg h3, if_neg h4]
theorem iR {s : ByteArray} (h0 : ¬ ((s.size : Int) < 4)) (h1 : ¬ (AB s 3 = 32)) : A9 s = 0 := by unfold A9; rw [if_neg h0, if_neg h1]
theorem pU (s : ByteArray) : (s.extract 0 3).size ≤ 3 := by rw [ByteArray.size_extract]; omega
def gS : Ct := At (lc Av l0) (fun p => True) (fun p => .t (.v (.int .i64 (A9 p.1))))
section
attribute [local go_sem] gf Int.toNat_zero vM
theorem nB {G : Gt} (hG : Aj G) (hh : G.e 236 = AA 0 gf) : Gd G 225 (AA 0 gS) := by
 refine gr (fn := Tryz.f225) (n := 1) rfl hG ?_
 rintro ⟨s, ⟨⟩⟩ hpre
 try dsimp only
 have hz := pU s
 refine BE ((s.size : Int) < 4) (fun h0 => have e_ : A9 s = _ := iM h0; have h1 := trivial; have h2 := trivial; have h3 := trivial; have h4 := trivial; ?_) (fun h0 => BE (AB s 3 = 32) (fun h1 => BE (AB s 0 < 50) (fun h2 => have e_ : A9 s = _ := iN h0 h1 h2; have h3 := trivial; have h4 := trivial; ?_) (fun h2 => BE (AB s 0 > 53) (fun h3 => have e_ : A9 s = _ := iO h0 h1 h2 h3; have h4 := trivial; ?_) (fun h3 => BE (Nv (s.extract 0 3) < 200) (fun h4 => have e_ : A9 s = _ := iP h0 h1 h2 h3 h4; ?_) (fun h4 => have e_ : A9 s = _ := iQ h0 h1 h2 h3 h4; ?_)))) (fun h1 => have e_ : A9 s = _ := iR h0 h1; have h2 := trivial; have h3 := trivial; have h4 := trivial; ?_))
 all_goals
  try rw [e_]
  simp -implicitDefEqProofs only [Tryz.f225, h0, h1, h2, h3, h4, eq_self, decide_true, decide_false, Int.reduceEq, go_sem, hh, seval]
  with_reducible repeat' (first | apply ai | intro _ | ((first | apply s1 | apply s2 | apply s3 | apply s4) <;> intro hb <;> simp -implicitDefEqProofs only [hb, go_sem, hh, seval] <;> try simp only [qz] at hb))
  all_goals (try simp only [maxLen, tn, lm] at *)
  all_goals first | rfl | omega | decide | with_reducible assumption | (show AZ _ = true; rfl) | exact Gw (by assumption) | contradiction | skip
end
def aQ (n : ByteArray) (m : Ml) : Cl := ⟨n, m, 0, 0, List.replicate m.to.length 0⟩
def gH : Ct := At (lc Av (lc X3.ag l0)) (fun p => p.2.1.to.length ≤ 1000 ∧ p.2.1.body.length ≤ 1000) (fun p => .agg ((DR (aQ p.1 p.2.1)).map .t))
section
attribute [local go_sem] Lo lm AS.opn AS.cls AS.nilb AS.renb AS.up Bool.not_false Bool.not_true List.set_set List.set_cons_zero List.set_cons_succ List.set_nil List.mem_singleton forall_eq tn List.map_nil List.nil_append
theorem mt {G : Gt} (hG : Aj G) (hh : G.e 199 = AA 0 Lo) : Gd G 216 (AA 1 gH) := by
 refine gr (fn := Tryz.f216) (n := 2) rfl hG ?_
 rintro ⟨n, m, ⟨⟩⟩ hpre
 simp -implicitDefEqProofs only [Tryz.f216, go_sem, hh, seval] at hpre ⊢
 obtain ⟨h1, h2⟩ := hpre
 try dsimp only at h1 h2 ⊢
 with_reducible repeat' (first | apply ai | intro _ | ((first | apply s1 | apply s2 | apply s3 | apply s4) <;> intro hb <;> simp -implicitDefEqProofs only [hb, go_sem, hh, seval] <;> try simp only [qz] at hb))
 all_goals (try simp only [maxLen, tn] at *)
 all_goals first | rfl | omega | decide | with_reducible assumption | (show AZ _ = true; rfl) | exact Gw (by assumption) | contradiction | (simp [aQ, An]; done) | skip
end
def MJ (f : Int → Int) (xs : List Int) (i : Nat) : List Int := (xs.take i).map f ++ xs.drop i
theorem dJ (f : Int → Int) (xs : List Int) : MJ f xs 0 = xs := rfl
theorem dK {f : Int → Int} {xs : List Int} {i : Nat} (h : xs.length ≤ i) : MJ f xs i = xs.map f := by
 unfold MJ; rw [List.take_of_length_le h, List.drop_of_length_le h, List.append_nil]
theorem RJ (f : Int → Int) (xs : List Int) (i : Nat) : (MJ f xs i).length = xs.length := by
 unfold MJ; rw [List.length_append, lm, List.length_take, List.length_drop]; omega
theorem RI {f : Int → Int} {xs : List Int} {i : Nat} (h : i < xs.length) : (MJ f xs i).getD i default = xs.getD i default := by
 unfold MJ
 rw [List.getD_eq_getElem?_getD, List.getElem?_append_right (by rw [lm, List.length_take]; omega), lm, List.length_take, Nat.min_eq_left (by omega), Nat.sub_self, List.getElem?_drop, Nat.add_zero, List.getD_eq_getElem?_getD]
theorem Ns {f : Int → Int} {xs : List Int} {i : Nat} (h : i < xs.length) : MJ f xs (i + 1) = (xs.take i).map f ++ (f (xs.getD i default) :: xs.drop (i + 1)) := by
 unfold MJ
 rw [List.take_add_one, List.getElem?_eq_getElem h, List.map_append, List.append_assoc]
 congr 1
 simp [h]
theorem RL {f : Int → Int} {xs : List Int} {i : Nat} {v : Int} (h : i < xs.length) (e : f (xs.getD i default) = v) : (MJ f xs i).set i v = MJ f xs (i + 1) := by
 rw [Ns h, e]
 unfold MJ
 rw [List.set_append_right _ _ (by rw [lm, List.length_take]; omega), lm, List.length_take, Nat.min_eq_left (by omega), Nat.sub_self, AW h]
 rfl
theorem Nr {f : Int → Int} {xs : List Int} {i : Nat} (h : i < xs.length) (e : f (xs.getD i default) = xs.getD i default) : MJ f xs (i + 1) = MJ f xs i := by
 rw [Ns h, e]
 unfold MJ
 rw [AW h]
def Fm (k n : Int) : Int := if n = 0 ∨ n = 1 then k else n
def OA (n : Int) : Int := if n = 1 then 2 else n
def s9 (c : Cl) (k : Int) : Cl := ⟨c.name, c.mail, c.state, c.pos, c.outs.map (Fm k)⟩
def t8 (c : Cl) : Cl := ⟨c.name, c.mail, c.state, c.pos, c.outs.map OA⟩
def gg : Ct := At (lc Xs.ag (lc BJ l0)) (fun p => p.1.outs.length ≤ 1000) (fun p => .agg ((DR (s9 p.1 p.2.1)).map .t))
section
attribute [local go_sem] lm AY BN Iv AS.opn AS.cls AS.nilb AS.renb AS.up Bool.not_false Bool.not_true List.set_set List.set_cons_zero List.set_cons_succ List.set_nil List.mem_singleton forall_eq tn List.map_nil List.nil_append
set_option maxHeartbeats 1600000 in
theorem nN {G : Gt} (hG : Aj G) : Gd G 237 (AA 1 gg) := by
 refine gr (fn := Tryz.f237) (n := 2) rfl hG ?_
 rintro ⟨c, k, ⟨⟩⟩ hpre
 simp -implicitDefEqProofs only [Tryz.f237, go_sem, seval] at hpre ⊢
 have hl : c.outs.length ≤ 1000 := hpre
 with_reducible repeat' (first | apply ai | intro _ | ((first | apply s1 | apply s2 | apply s3 | apply s4) <;> intro hb <;> simp -implicitDefEqProofs only [hb, go_sem, seval] <;> try simp only [qz] at hb))
 all_goals (try simp only [maxLen, tn] at *)
 all_goals first | rfl | omega | decide | with_reducible assumption | (show AZ _ = true; rfl) | exact Gw (by assumption) | contradiction | skip
 refine AE [(5, 901, true, 1)] (ι := {i : Nat // i ≤ c.outs.length}) (fun p => ⟨[(1, .t (.v (.int .i64 k))), (2, .pb 1002 0), (4, .pb 1004 0), (5, .h 901), (6, .t (.v (.int .i64 p.1)))], [(1002, some (.box ((DR c).map .t))), (1004, some (.box [.t (.v (.string ⟨#[]⟩)), .t (.v (.string ⟨#[]⟩)), .t (.v (.string ⟨#[]⟩)), .nil, .nil, .t (.v (.int .i64 0)), .t (.v (.int .i64 0)), .nil])), (901, some (.arr true 1 ((MJ (Fm k) c.outs p.1).map An)))]⟩) (fun p => c.outs.length - p.1) ⟨0, Nat.zero_le _⟩ rfl ?_ ?_
 ·simp -implicitDefEqProofs only [go_sem, seval]
  simp [dJ]
 ·rintro ⟨i, hi⟩
  dsimp only at hi ⊢
  have hln := RJ (Fm k) c.outs i
  have hg : i < c.outs.length → (MJ (Fm k) c.outs i).getD i default = c.outs.getD i default := RI
  simp -implicitDefEqProofs only [go_sem, seval]
  with_reducible repeat' (first | apply ai | intro _ | ((first | apply s1 | apply s2 | apply s3 | apply s4) <;> intro hb <;> simp -implicitDefEqProofs only [hb, go_sem, seval] <;> try simp only [qz] at hb))
  all_goals (try simp only [maxLen, tn] at *)
  all_goals first
   | with_reducible rfl
   | omega
   | (show _ = true; rfl)
   | (rw [dK (by omega)]; first | done | rfl)
   | rfl
   | (refine ⟨⟨i + 1, by omega⟩, by dsimp only; omega, ?_⟩
      have hgi := hg (by omega)
      simp -implicitDefEqProofs only [go_sem, seval]
      first
       | (rw [RL (by omega) (show Fm k _ = k from if_pos (by omega))]; simp; done)
       | (rw [Nr (by omega) (show Fm k _ = _ from if_neg (by omega))]; simp; done)
       | skip)
   | skip
end
def gY : Ct := At (lc Xs.ag l0) (fun p => p.1.outs.length ≤ 1000) (fun p => .agg ((DR (t8 p.1)).map .t))
section
attribute [local go_sem] lm AY BN Iv AS.opn AS.cls AS.nilb AS.renb AS.up Bool.not_false Bool.not_true List.set_set List.set_cons_zero List.set_cons_succ List.set_nil List.mem_singleton forall_eq tn List.map_nil List.nil_append
set_option maxHeartbeats 1600000 in
theorem nG {G : Gt} (hG : Aj G) : Gd G 230 (AA 1 gY) := by
 refine gr (fn := Tryz.f230) (n := 1) rfl hG ?_
 rintro ⟨c, ⟨⟩⟩ hpre
 simp -implicitDefEqProofs only [Tryz.f230, go_sem, seval] at hpre ⊢
 have hl : c.outs.length ≤ 1000 := hpre
 with_reducible repeat' (first | apply ai | intro _ | ((first | apply s1 | apply s2 | apply s3 | apply s4) <;> intro hb <;> simp -implicitDefEqProofs only [hb, go_sem, seval] <;> try simp only [qz] at hb))
 all_goals (try simp only [maxLen, tn] at *)
 all_goals first | rfl | omega | decide | with_reducible assumption | (show AZ _ = true; rfl) | exact Gw (by assumption) | contradiction | skip
 refine AE [(3, 901, true, 1)] (ι := {i : Nat // i ≤ c.outs.length}) (fun p => ⟨[(1, .pb 1001 0), (2, .pb 1002 0), (3, .h 901), (4, .t (.v (.int .i64 p.1)))], [(1001, some (.box ((DR c).map .t))), (1002, some (.box [.t (.v (.string ⟨#[]⟩)), .t (.v (.string ⟨#[]⟩)), .t (.v (.string ⟨#[]⟩)), .nil, .nil, .t (.v (.int .i64 0)), .t (.v (.int .i64 0)), .nil])), (901, some (.arr true 1 ((MJ OA c.outs p.1).map An)))]⟩) (fun p => c.outs.length - p.1) ⟨0, Nat.zero_le _⟩ rfl ?_ ?_
 ·simp -implicitDefEqProofs only [go_sem, seval]
  simp [dJ]
 ·rintro ⟨i, hi⟩
  dsimp only at hi ⊢
  have hln := RJ OA c.outs i
  have hg : i < c.outs.length → (MJ OA c.outs i).getD i default = c.outs.getD i default := RI
  simp -implicitDefEqProofs only [go_sem, seval]
  with_reducible repeat' (first | apply ai | intro _ | ((first | apply s1 | apply s2 | apply s3 | apply s4) <;> intro hb <;> simp -implicitDefEqProofs only [hb, go_sem, seval] <;> try simp only [qz] at hb))
  all_goals (try simp only [maxLen, tn] at *)
  all_goals first
   | with_reducible rfl
   | omega
   | (show _ = true; rfl)
   | (rw [dK (by omega)]; first | done | rfl)
   | rfl
   | (refine ⟨⟨i + 1, by omega⟩, by dsimp only; omega, ?_⟩
      have hgi := hg (by omega)
      simp -implicitDefEqProofs only [go_sem, seval]
      first
       | (rw [RL (by omega) (show OA _ = 2 from if_pos (by omega))]; simp; done)
       | (rw [Nr (by omega) (show OA _ = _ from if_neg (by omega))]; simp; done)
       | skip)
   | skip
end
def gK : Ct := At (lc Xs.ag l0) (fun p => p.1.outs.length ≤ 1000) (fun p => .o true 1 ((p.1.outs.map (Fm 3)).map An))
section
attribute [local go_sem] lm List.length_append List.map_append AS.opn AS.cls AS.nilb AS.renb AS.up Bool.not_false Bool.not_true List.set_set List.set_cons_zero List.set_cons_succ List.set_nil List.mem_singleton forall_eq tn List.map_nil List.nil_append
set_option maxHeartbeats 1600000 in
theorem mz {G : Gt} (hG : Aj G) : Gd G 219 (AA 0 gK) := by
 refine gr (fn := Tryz.f219) (n := 1) rfl hG ?_ (hs := fun _ _ => .deep _ _)
 rintro ⟨c, ⟨⟩⟩ hpre
 simp -implicitDefEqProofs only [Tryz.f219, go_sem, seval] at hpre ⊢
 have hl : c.outs.length ≤ 1000 := hpre
 with_reducible repeat' (first | apply ai | intro _ | ((first | apply s1 | apply s2 | apply s3 | apply s4) <;> intro hb <;> simp -implicitDefEqProofs only [hb, go_sem, seval] <;> try simp only [qz] at hb))
 all_goals (try simp only [maxLen, tn] at *)
 all_goals first | rfl | omega | decide | with_reducible assumption | (show AZ _ = true; rfl) | exact Gw (by assumption) | contradiction | skip
 refine AE [(3, 901, true, 1)] (ι := {i : Nat // i ≤ c.outs.length}) (fun p => ⟨[(1, .pb 1001 0), (3, .h 901), (4, .t (.v (.int .i64 p.1)))], [(1001, some (.box ((DR c).map .t))), (901, some (.arr true 1 (((c.outs.take p.1).map (Fm 3)).map An)))]⟩) (fun p => c.outs.length - p.1) ⟨0, Nat.zero_le _⟩ rfl ?_ ?_
 ·simp -implicitDefEqProofs only [go_sem, seval]
  try simp
 ·rintro ⟨i, hi⟩
  dsimp only at hi ⊢
  have hln : (c.outs.take i).length = i := by rw [List.length_take]; omega
  simp -implicitDefEqProofs only [go_sem, seval]
  with_reducible repeat' (first | apply ai | intro _ | ((first | apply s1 | apply s2 | apply s3 | apply s4) <;> intro hb <;> simp -implicitDefEqProofs only [hb, go_sem, seval] <;> try simp only [qz] at hb))
  all_goals (try simp only [maxLen, tn] at *)
  all_goals first
   | with_reducible rfl
   | omega
   | (show _ = true; rfl)
   | (rw [List.take_of_length_le (by omega)]; first | done | rfl)
   | rfl
   | (simp only [List.mem_singleton] at *; omega)
   | (rename_i q; simp only [List.mem_singleton] at q; subst q; rfl)
   | (have ht : c.outs.take (i + 1) = c.outs.take i ++ [c.outs.getD i default] := by
        have hh : i < c.outs.length := by omega
        rw [List.take_add_one, List.getElem?_eq_getElem hh]; simp [hh]
      refine ⟨⟨i + 1, by omega⟩, by dsimp only; omega, ?_⟩
      simp -implicitDefEqProofs only [go_sem, seval]
      rw [ht]
      first
       | (have ee : Fm 3 (c.outs.getD i default) = 3 := if_pos (by omega); simp only [List.map_append, List.map_cons, List.map_nil, ee]; simp [An]; done)
       | (have ee : Fm 3 (c.outs.getD i default) = c.outs.getD i default := if_neg (by omega); simp only [List.map_append, List.map_cons, List.map_nil, ee]; simp [An]; done)
       | skip)
   | skip
end
def Mk (m : Ml) : Prop := m.to.length ≤ 1000 ∧ m.body.length ≤ 100 ∧ (m.frm.user.size ≤ 1000 ∧ m.frm.domain.size ≤ 1000) ∧ (∀ a ∈ m.to, a.user.size ≤ 1000 ∧ a.domain.size ≤ 1000) ∧ ∀ l ∈ m.body, l.size ≤ 1000
theorem db {m : Ml} (h : Mk m) {i : Nat} (hi : i < m.to.length) : (m.to.getD i default).user.size ≤ 1000 ∧ (m.to.getD i default).domain.size ≤ 1000 := h.2.2.2.1 _ (AC hi)
theorem MZ (a : Ad) : (Ce a).size ≤ a.user.size + a.domain.size + 3 := by
 by_cases h : AU a
 ·rw [Ho h]; have : (⟨#[60, 62]⟩ : ByteArray).size = 2 := rfl; omega
 ·rw [P8 h]
  simp only [ByteArray.size_append]
  have e1 : (⟨#[60]⟩ : ByteArray).size = 1 := rfl
  have e2 : (⟨#[64]⟩ : ByteArray).size = 1 := rfl
  have e3 : (⟨#[62]⟩ : ByteArray).size = 1 := rfl
  omega
open Classical in
noncomputable def C5 (c : Cl) (k : Int) : Cl × ByteArray := (if k ≥ 500 then (⟨c.name, c.mail, 6, c.pos, c.outs.map (Fm 4)⟩, ⟨#[81, 85, 73, 84]⟩) else (⟨c.name, c.mail, 6, c.pos, c.outs.map (Fm 3)⟩, ⟨#[81, 85, 73, 84]⟩))
theorem jE {c : Cl} {k : Int} (h0 : k ≥ 500) : C5 c k = (⟨c.name, c.mail, 6, c.pos, c.outs.map (Fm 4)⟩, ⟨#[81, 85, 73, 84]⟩) := by unfold C5; rw [if_pos h0]
theorem jF {c : Cl} {k : Int} (h0 : ¬ (k ≥ 500)) : C5 c k = (⟨c.name, c.mail, 6, c.pos, c.outs.map (Fm 3)⟩, ⟨#[81, 85, 73, 84]⟩) := by unfold C5; rw [if_neg h0]
def gZ : Ct := At (lc Xs.ag (lc BJ l0)) (fun p => p.1.outs.length ≤ 1000) (fun p => .tup [.agg ((DR (C5 p.1 p.2.1).1).map .t), .t (.v (.string (C5 p.1 p.2.1).2))])
section
attribute [local go_sem] gg AS.opn AS.cls AS.nilb AS.renb AS.up Bool.not_false Bool.not_true List.set_set List.set_cons_zero List.set_cons_succ List.set_nil List.mem_singleton forall_eq tn List.map_nil List.nil_append
theorem nH {G : Gt} (hG : Aj G) (hh : G.e 237 = AA 1 gg) : Gd G 231 (AA 1 gZ) := by
 refine gr (fn := Tryz.f231) (n := 2) rfl hG ?_
 rintro ⟨c, k, ⟨⟩⟩ hpre
 have hl : c.outs.length ≤ 1000 := hpre
 try dsimp only
 refine BE (k ≥ 500) (fun h0 => have e_ : C5 c k = _ := jE h0; ?_) (fun h0 => have e_ : C5 c k = _ := jF h0; ?_)
 all_goals
  try rw [e_]
  simp -implicitDefEqProofs only [Tryz.f231, h0, eq_self, decide_true, decide_false, Int.reduceEq, go_sem, hh, seval]
  with_reducible repeat' (first | apply ai | intro _ | ((first | apply s1 | apply s2 | apply s3 | apply s4) <;> intro hb <;> simp -implicitDefEqProofs only [hb, go_sem, hh, seval] <;> try simp only [qz] at hb))
  all_goals (try simp only [maxLen, tn, lm] at *)
  all_goals first | rfl | omega | decide | with_reducible assumption | (show AZ _ = true; rfl) | exact Gw (by assumption) | contradiction | skip
end
open Classical in
noncomputable def DI (c : Cl) : Cl × ByteArray := (if c.pos < c.mail.to.length then (⟨c.name, c.mail, 3, c.pos + 1, c.outs⟩, ⟨#[82, 67, 80, 84, 32, 84, 79, 58]⟩ ++ Ce (c.mail.to.getD c.pos.toNat default)) else (if 1 ∈ c.outs then (⟨c.name, c.mail, 4, c.pos, c.outs⟩, ⟨#[68, 65, 84, 65]⟩) else (⟨c.name, c.mail, 6, c.pos, c.outs⟩, ⟨#[81, 85, 73, 84]⟩)))
theorem jv {c : Cl} (h0 : c.pos < c.mail.to.length) : DI c = (⟨c.name, c.mail, 3, c.pos + 1, c.outs⟩, ⟨#[82, 67, 80, 84, 32, 84, 79, 58]⟩ ++ Ce (c.mail.to.getD c.pos.toNat default)) := by unfold DI; rw [if_pos h0]
theorem jw {c : Cl} (h0 : ¬ (c.pos < c.mail.to.length)) (h1 : 1 ∈ c.outs) : DI c = (⟨c.name, c.mail, 4, c.pos, c.outs⟩, ⟨#[68, 65, 84, 65]⟩) := by unfold DI; rw [if_neg h0, if_pos h1]
theorem jx {c : Cl} (h0 : ¬ (c.pos < c.mail.to.length)) (h1 : ¬ (1 ∈ c.outs)) : DI c = (⟨c.name, c.mail, 6, c.pos, c.outs⟩, ⟨#[81, 85, 73, 84]⟩) := by unfold DI; rw [if_neg h0, if_neg h1]
def UR : Ct := At (lc Xs.ag l0) (fun p => p.1.outs.length ≤ 1000 ∧ Mk p.1.mail ∧ 0 ≤ p.1.pos) (fun p => .tup [.agg ((DR (DI p.1).1).map .t), .t (.v (.string (DI p.1).2))])
section
attribute [local go_sem] PB Int.add_sub_cancel AS.opn AS.cls AS.nilb AS.renb AS.up Bool.not_false Bool.not_true List.set_set List.set_cons_zero List.set_cons_succ List.set_nil List.mem_singleton forall_eq tn List.map_nil List.nil_append
set_option maxHeartbeats 1600000 in
theorem nE {G : Gt} (hG : Aj G) (hh : G.e 227 = AA 0 PB) : Gd G 228 (AA 1 UR) := by
 refine gr (fn := Tryz.f228) (n := 1) rfl hG ?_
 rintro ⟨c, ⟨⟩⟩ hpre
 obtain ⟨hl, hm, hp⟩ := hpre
 try dsimp only at hl hm hp ⊢
 have hml := hm.1
 have hat : c.pos.toNat < c.mail.to.length → (c.mail.to.getD c.pos.toNat default).user.size ≤ 1000 ∧ (c.mail.to.getD c.pos.toNat default).domain.size ≤ 1000 := fun h => db hm h
 have hps := MZ (c.mail.to.getD c.pos.toNat default)
 have e8 : (#[82, 67, 80, 84, 32, 84, 79, 58] : Array UInt8).size = 8 := rfl
 refine BE (c.pos < c.mail.to.length) (fun h0 => have e_ : DI c = _ := jv h0; ?_) (fun h0 => ?w1)
 case w1 =>
  simp -implicitDefEqProofs only [Tryz.f228, h0, eq_self, decide_true, decide_false, go_sem, hh, seval]
  with_reducible repeat' (first | apply ai | intro _ | ((first | apply s1 | apply s2 | apply s3 | apply s4) <;> intro hb <;> simp -implicitDefEqProofs only [hb, go_sem, hh, seval] <;> try simp only [qz] at hb))
  all_goals (try simp only [maxLen, tn, lm] at *)
  all_goals first | rfl | omega | decide | with_reducible assumption | (show AZ _ = true; rfl) | exact Gw (by assumption) | contradiction | skip
  refine AE [] (ι := {i : Nat // i ≤ c.outs.length ∧ ∀ j, j < i → ¬ c.outs.getD j default = 1}) (fun p => ⟨[(1, .pb 1001 0), (2, .pb 1002 0), (4, .t (.v (.int .i64 p.1)))], [(1001, some (.box ((DR c).map .t))), (1002, some (.box [.t (.v (.string ⟨#[]⟩)), .t (.v (.string ⟨#[]⟩)), .t (.v (.string ⟨#[]⟩)), .nil, .nil, .t (.v (.int .i64 0)), .t (.v (.int .i64 0)), .nil]))]⟩) (fun p => c.outs.length - p.1) ⟨0, by simp, by simp⟩ rfl ?_ ?_
  ·simp -implicitDefEqProofs only [go_sem, hh, seval]
   try simp
  ·rintro ⟨i, hi, hall⟩
   simp -implicitDefEqProofs only [go_sem, hh, seval]
   with_reducible repeat' (first | apply ai | intro _ | ((first | apply s1 | apply s2 | apply s3 | apply s4) <;> intro hb <;> simp -implicitDefEqProofs only [hb, go_sem, hh, seval] <;> try simp only [qz] at hb))
   all_goals (try simp only [maxLen, tn, lm] at *)
   all_goals first
    | with_reducible rfl
    | omega
    | (show _ = true; rfl)
    | (rw [jw h0 (V8 (xs := c.outs) (i := i) (by omega) (by assumption))]; first | done | rfl)
    | (rw [jx h0 (WQ (by omega) hall)]; first | done | rfl)
    | (refine ⟨⟨i + 1, by omega, fun j hj => ?_⟩, by dsimp only; omega, ?_⟩
       ·by_cases e : j = i
        ·subst e; assumption
        ·exact hall j (by omega)
       ·simp -implicitDefEqProofs only [go_sem, hh, seval]
        simp)
    | skip
 all_goals
  try rw [e_]
  simp -implicitDefEqProofs only [Tryz.f228, h0, eq_self, decide_true, decide_false, Int.reduceEq, go_sem, hh, seval]
  with_reducible repeat' (first | apply ai | intro _ | ((first | apply s1 | apply s2 | apply s3 | apply s4) <;> intro hb <;> simp -implicitDefEqProofs only [hb, go_sem, hh, seval] <;> try simp only [qz] at hb))
  all_goals (try simp only [maxLen, tn, lm] at *)
  all_goals first | rfl | omega | decide | with_reducible assumption | (show AZ _ = true; rfl) | exact Gw (by assumption) | contradiction | skip
end
open Classical in
noncomputable def Es (c : Cl) (k : Int) : Cl × ByteArray := (if k = 250 then DI ⟨c.name, c.mail, c.state, c.pos, c.outs.set (c.pos - 1).toNat 1⟩ else (if k ≥ 500 then DI ⟨c.name, c.mail, c.state, c.pos, c.outs.set (c.pos - 1).toNat 4⟩ else DI ⟨c.name, c.mail, c.state, c.pos, c.outs.set (c.pos - 1).toNat 3⟩))
theorem k6 {c : Cl} {k : Int} (h0 : k = 250) : Es c k = DI ⟨c.name, c.mail, c.state, c.pos, c.outs.set (c.pos - 1).toNat 1⟩ := by unfold Es; rw [if_pos h0]
theorem k7 {c : Cl} {k : Int} (h0 : ¬ (k = 250)) (h1 : k ≥ 500) : Es c k = DI ⟨c.name, c.mail, c.state, c.pos, c.outs.set (c.pos - 1).toNat 4⟩ := by unfold Es; rw [if_neg h0, if_pos h1]
theorem k8 {c : Cl} {k : Int} (h0 : ¬ (k = 250)) (h1 : ¬ (k ≥ 500)) : Es c k = DI ⟨c.name, c.mail, c.state, c.pos, c.outs.set (c.pos - 1).toNat 3⟩ := by unfold Es; rw [if_neg h0, if_neg h1]
def gW : Ct := At (lc Xs.ag (lc BJ l0)) (fun p => p.1.outs.length ≤ 1000 ∧ Mk p.1.mail ∧ 1 ≤ p.1.pos ∧ p.1.pos ≤ p.1.outs.length) (fun p => .tup [.agg ((DR (Es p.1 p.2.1).1).map .t), .t (.v (.string (Es p.1 p.2.1).2))])
section
attribute [local go_sem] UR lm List.length_set BN Iv AS.opn AS.cls AS.nilb AS.renb AS.up Bool.not_false Bool.not_true List.set_set List.set_cons_zero List.set_cons_succ List.set_nil List.mem_singleton forall_eq tn List.map_nil List.nil_append
set_option maxHeartbeats 1600000 in
theorem nC {G : Gt} (hG : Aj G) (hh : G.e 228 = AA 1 UR) : Gd G 226 (AA 1 gW) := by
 refine gr (fn := Tryz.f226) (n := 2) rfl hG ?_
 rintro ⟨c, k, ⟨⟩⟩ hpre
 obtain ⟨hl, hm, hp, hq⟩ := hpre
 try dsimp only at hl hm hp hq ⊢
 refine BE (k = 250) (fun h0 => have h0' := decide_eq_true h0; have e_ : Es c k = _ := k6 h0; have h1 := trivial; ?_) (fun h0 => have h0' := decide_eq_false h0; BE (k ≥ 500) (fun h1 => have e_ : Es c k = _ := k7 h0 h1; ?_) (fun h1 => have e_ : Es c k = _ := k8 h0 h1; ?_))
 all_goals
  try rw [e_]
  simp -implicitDefEqProofs only [Tryz.f226, h0', h1, eq_self, decide_true, decide_false, Int.reduceEq, go_sem, hh, seval]
  with_reducible repeat' (first | apply ai | intro _ | ((first | apply s1 | apply s2 | apply s3 | apply s4) <;> intro hb <;> simp -implicitDefEqProofs only [hb, go_sem, hh, seval] <;> try simp only [qz] at hb))
  all_goals (try simp only [maxLen, tn, lm] at *)
  all_goals first | rfl | omega | decide | with_reducible assumption | (show AZ _ = true; rfl) | exact Gw (by assumption) | contradiction | skip
end
open Classical in
noncomputable def Ax (c : Cl) (a : ByteArray) : Cl × ByteArray := (if c.state = 7 then (c, ⟨#[]⟩) else (if c.state = 6 then (⟨c.name, c.mail, 7, c.pos, c.outs⟩, ⟨#[]⟩) else (if c.state = 3 then Es c (A9 a) else (if c.state = 0 then (if A9 a = 220 then (⟨c.name, c.mail, 1, c.pos, c.outs⟩, ⟨#[72, 69, 76, 79, 32]⟩ ++ c.name) else C5 c (A9 a)) else (if c.state = 1 then (if A9 a = 250 then (⟨c.name, c.mail, 2, c.pos, c.outs⟩, ⟨#[77, 65, 73, 76, 32, 70, 82, 79, 77, 58]⟩ ++ Ce c.mail.frm) else C5 c (A9 a)) else (if c.state = 2 then (if A9 a = 250 then DI c else C5 c (A9 a)) else (if c.state = 4 then (if A9 a = 354 then (⟨c.name, c.mail, 5, c.pos, c.outs⟩, SX c.mail.body) else C5 c (A9 a)) else (if c.state = 5 then (if A9 a = 250 then (⟨c.name, c.mail, 6, c.pos, c.outs.map OA⟩, ⟨#[81, 85, 73, 84]⟩) else C5 c (A9 a)) else C5 c (A9 a)))))))))
theorem kZ {c : Cl} {a : ByteArray} (h0 : c.state = 7) : Ax c a = (c, ⟨#[]⟩) := by unfold Ax; rw [if_pos h0]
theorem ka {c : Cl} {a : ByteArray} (h0 : ¬ (c.state = 7)) (h1 : c.state = 6) : Ax c a = (⟨c.name, c.mail, 7, c.pos, c.outs⟩, ⟨#[]⟩) := by unfold Ax; rw [if_neg h0, if_pos h1]
theorem kb {c : Cl} {a : ByteArray} (h0 : ¬ (c.state = 7)) (h1 : ¬ (c.state = 6)) (h2 : c.state = 3) : Ax c a = Es c (A9 a) := by unfold Ax; rw [if_neg h0, if_neg h1, if_pos h2]
theorem kc {c : Cl} {a : ByteArray} (h0 : ¬ (c.state = 7)) (h1 : ¬ (c.state = 6)) (h2 : ¬ (c.state = 3)) (h3 : c.state = 0) (h4 : A9 a = 220) : Ax c a = (⟨c.name, c.mail, 1, c.pos, c.outs⟩, ⟨#[72, 69, 76, 79, 32]⟩ ++ c.name) := by unfold Ax; rw [if_neg h0, if_neg h1, if_neg h2, if_pos h3, if_pos h4]
theorem ke {c : Cl} {a : ByteArray} (h0 : ¬ (c.state = 7)) (h1 : ¬ (c.state = 6)) (h2 : ¬ (c.state = 3)) (h3 : c.state = 0) (h4 : ¬ (A9 a = 220)) : Ax c a = C5 c (A9 a) := by unfold Ax; rw [if_neg h0, if_neg h1, if_neg h2, if_pos h3, if_neg h4]
theorem kf {c : Cl} {a : ByteArray} (h0 : ¬ (c.state = 7)) (h1 : ¬ (c.state = 6)) (h2 : ¬ (c.state = 3)) (h3 : ¬ (c.state = 0)) (h4 : c.state = 1) (h5 : A9 a = 250) : Ax c a = (⟨c.name, c.mail, 2, c.pos, c.outs⟩, ⟨#[77, 65, 73, 76, 32, 70, 82, 79, 77, 58]⟩ ++ Ce c.mail.frm) := by unfold Ax; rw [if_neg h0, if_neg h1, if_neg h2, if_neg h3, if_pos h4, if_pos h5]
theorem kg {c : Cl} {a : ByteArray} (h0 : ¬ (c.state = 7)) (h1 : ¬ (c.state = 6)) (h2 : ¬ (c.state = 3)) (h3 : ¬ (c.state = 0)) (h4 : c.state = 1) (h5 : ¬ (A9 a = 250)) : Ax c a = C5 c (A9 a) := by unfold Ax; rw [if_neg h0, if_neg h1, if_neg h2, if_neg h3, if_pos h4, if_neg h5]
theorem kh {c : Cl} {a : ByteArray} (h0 : ¬ (c.state = 7)) (h1 : ¬ (c.state = 6)) (h2 : ¬ (c.state = 3)) (h3 : ¬ (c.state = 0)) (h4 : ¬ (c.state = 1)) (h5 : c.state = 2) (h6 : A9 a = 250) : Ax c a = DI c := by unfold Ax; rw [if_neg h0, if_neg h1, if_neg h2, if_neg h3, if_neg h4, if_pos h5, if_pos h6]
theorem ki {c : Cl} {a : ByteArray} (h0 : ¬ (c.state = 7)) (h1 : ¬ (c.state = 6)) (h2 : ¬ (c.state = 3)) (h3 : ¬ (c.state = 0)) (h4 : ¬ (c.state = 1)) (h5 : c.state = 2) (h6 : ¬ (A9 a = 250)) : Ax c a = C5 c (A9 a) := by unfold Ax; rw [if_neg h0, if_neg h1, if_neg h2, if_neg h3, if_neg h4, if_pos h5, if_neg h6]
theorem kj {c : Cl} {a : ByteArray} (h0 : ¬ (c.state = 7)) (h1 : ¬ (c.state = 6)) (h2 : ¬ (c.state = 3)) (h3 : ¬ (c.state = 0)) (h4 : ¬ (c.state = 1)) (h5 : ¬ (c.state = 2)) (h6 : c.state = 4) (h7 : A9 a = 354) : Ax c a = (⟨c.name, c.mail, 5, c.pos, c.outs⟩, SX c.mail.body) := by unfold Ax; rw [if_neg h0, if_neg h1, if_neg h2, if_neg h3, if_neg h4, if_neg h5, if_pos h6, if_pos h7]
theorem bT {c : Cl} {a : ByteArray} (h0 : ¬ (c.state = 7)) (h1 : ¬ (c.state = 6)) (h2 : ¬ (c.state = 3)) (h3 : ¬ (c.state = 0)) (h4 : ¬ (c.state = 1)) (h5 : ¬ (c.state = 2)) (h6 : c.state = 4) (h7 : ¬ (A9 a = 354)) : Ax c a = C5 c (A9 a) := by unfold Ax; rw [if_neg h0, if_neg h1, if_neg h2, if_neg h3, if_neg h4, if_neg h5, if_pos h6, if_neg h7]
theorem bU {c : Cl} {a : ByteArray} (h0 : ¬ (c.state = 7)) (h1 : ¬ (c.state = 6)) (h2 : ¬ (c.state = 3)) (h3 : ¬ (c.state = 0)) (h4 : ¬ (c.state = 1)) (h5 : ¬ (c.state = 2)) (h6 : ¬ (c.state = 4)) (h7 : c.state = 5) (h8 : A9 a = 250) : Ax c a = (⟨c.name, c.mail, 6, c.pos, c.outs.map OA⟩, ⟨#[81, 85, 73, 84]⟩) := by unfold Ax; rw [if_neg h0, if_neg h1, if_neg h2, if_neg h3, if_neg h4, if_neg h5, if_neg h6, if_pos h7, if_pos h8]
theorem bV {c : Cl} {a : ByteArray} (h0 : ¬ (c.state = 7)) (h1 : ¬ (c.state = 6)) (h2 : ¬ (c.state = 3)) (h3 : ¬ (c.state = 0)) (h4 : ¬ (c.state = 1)) (h5 : ¬ (c.state = 2)) (h6 : ¬ (c.state = 4)) (h7 : c.state = 5) (h8 : ¬ (A9 a = 250)) : Ax c a = C5 c (A9 a) := by unfold Ax; rw [if_neg h0, if_neg h1, if_neg h2, if_neg h3, if_neg h4, if_neg h5, if_neg h6, if_pos h7, if_neg h8]
theorem bW {c : Cl} {a : ByteArray} (h0 : ¬ (c.state = 7)) (h1 : ¬ (c.state = 6)) (h2 : ¬ (c.state = 3)) (h3 : ¬ (c.state = 0)) (h4 : ¬ (c.state = 1)) (h5 : ¬ (c.state = 2)) (h6 : ¬ (c.state = 4)) (h7 : ¬ (c.state = 5)) : Ax c a = C5 c (A9 a) := by unfold Ax; rw [if_neg h0, if_neg h1, if_neg h2, if_neg h3, if_neg h4, if_neg h5, if_neg h6, if_neg h7]
def gI : Ct := At (lc Xs.ag (lc Av l0)) (fun p => p.1.outs.length ≤ 1000 ∧ Mk p.1.mail ∧ 0 ≤ p.1.pos ∧ p.1.pos ≤ p.1.outs.length ∧ (p.1.state = 3 → 1 ≤ p.1.pos) ∧ p.1.name.size ≤ 1000000) (fun p => .tup [.agg ((DR (Ax p.1 p.2.1).1).map .t), .t (.v (.string (Ax p.1 p.2.1).2))])
section
attribute [local go_sem] gS gW PB UR gX gY gZ AS.opn AS.cls AS.nilb AS.renb AS.up Bool.not_false Bool.not_true List.set_set List.set_cons_zero List.set_cons_succ List.set_nil List.mem_singleton forall_eq tn List.map_nil List.nil_append
set_option maxHeartbeats 3200000 in
theorem mw {G : Gt} (hG : Aj G) (hh : G.e 225 = AA 0 gS ∧ G.e 226 = AA 1 gW ∧ G.e 227 = AA 0 PB ∧ G.e 228 = AA 1 UR ∧ G.e 229 = AA 0 gX ∧ G.e 230 = AA 1 gY ∧ G.e 231 = AA 1 gZ) : Gd G 217 (AA 1 gI) := by
 refine gr (fn := Tryz.f217) (n := 2) rfl hG ?_
 rintro ⟨c, a, ⟨⟩⟩ hpre
 obtain ⟨hl, hm, hp, hq, h3p, hn⟩ := hpre
 try dsimp only at hl hm hp hq h3p hn ⊢
 have hml := hm.1
 have hmb := hm.2.1
 have hmf := hm.2.2.1
 have hps := MZ c.mail.frm
 have hbo : ∀ x ∈ c.mail.body, x.size ≤ 2000000 := fun x hx => Nat.le_trans (hm.2.2.2.2 x hx) (by decide)
 have e5 : (#[72, 69, 76, 79, 32] : Array UInt8).size = 5 := rfl
 have e10 : (#[77, 65, 73, 76, 32, 70, 82, 79, 77, 58] : Array UInt8).size = 10 := rfl
 refine BE (c.state = 7) (fun h0 => have h0' := decide_eq_true h0; have e_ : Ax c a = _ := kZ h0; have h1' := trivial; have h2' := trivial; have h3' := trivial; have h4' := trivial; have h5' := trivial; have h6' := trivial; have h7' := trivial; have h8' := trivial; ?_) (fun h0 => have h0' := decide_eq_false h0; BE (c.state = 6) (fun h1 => have h1' := decide_eq_true h1; have e_ : Ax c a = _ := ka h0 h1; have h2' := trivial; have h3' := trivial; have h4' := trivial; have h5' := trivial; have h6' := trivial; have h7' := trivial; have h8' := trivial; ?_) (fun h1 => have h1' := decide_eq_false h1; BE (c.state = 3) (fun h2 => have h2' := decide_eq_true h2; have e_ : Ax c a = _ := kb h0 h1 h2; have h3' := trivial; have h4' := trivial; have h5' := trivial; have h6' := trivial; have h7' := trivial; have h8' := trivial; ?_) (fun h2 => have h2' := decide_eq_false h2; BE (c.state = 0) (fun h3 => have h3' := decide_eq_true h3; BE (A9 a = 220) (fun h4 => have h4' := decide_eq_true h4; have e_ : Ax c a = _ := kc h0 h1 h2 h3 h4; have h5' := trivial; have h6' := trivial; have h7' := trivial; have h8' := trivial; ?_) (fun h4 => have h4' := decide_eq_false h4; have e_ : Ax c a = _ := ke h0 h1 h2 h3 h4; have h5' := trivial; have h6' := trivial; have h7' := trivial; have h8' := trivial; ?_)) (fun h3 => have h3' := decide_eq_false h3; BE (c.state = 1) (fun h4 => have h4' := decide_eq_true h4; BE (A9 a = 250) (fun h5 => have h5' := decide_eq_true h5; have e_ : Ax c a = _ := kf h0 h1 h2 h3 h4 h5; have h6' := trivial; have h7' := trivial; have h8' := trivial; ?_) (fun h5 => have h5' := decide_eq_false h5; have e_ : Ax c a = _ := kg h0 h1 h2 h3 h4 h5; have h6' := trivial; have h7' := trivial; have h8' := trivial; ?_)) (fun h4 => have h4' := decide_eq_false h4; BE (c.state = 2) (fun h5 => have h5' := decide_eq_true h5; BE (A9 a = 250) (fun h6 => have h6' := decide_eq_true h6; have e_ : Ax c a = _ := kh h0 h1 h2 h3 h4 h5 h6; have h7' := trivial; have h8' := trivial; ?_) (fun h6 => have h6' := decide_eq_false h6; have e_ : Ax c a = _ := ki h0 h1 h2 h3 h4 h5 h6; have h7' := trivial; have h8' := trivial; ?_)) (fun h5 => have h5' := decide_eq_false h5; BE (c.state = 4) (fun h6 => have h6' := decide_eq_true h6; BE (A9 a = 354) (fun h7 => have h7' := decide_eq_true h7; have e_ : Ax c a = _ := kj h0 h1 h2 h3 h4 h5 h6 h7; have h8' := trivial; ?_) (fun h7 => have h7' := decide_eq_false h7; have e_ : Ax c a = _ := bT h0 h1 h2 h3 h4 h5 h6 h7; have h8' := trivial; ?_)) (fun h6 => have h6' := decide_eq_false h6; BE (c.state = 5) (fun h7 => have h7' := decide_eq_true h7; BE (A9 a = 250) (fun h8 => have h8' := decide_eq_true h8; have e_ : Ax c a = _ := bU h0 h1 h2 h3 h4 h5 h6 h7 h8; ?_) (fun h8 => have h8' := decide_eq_false h8; have e_ : Ax c a = _ := bV h0 h1 h2 h3 h4 h5 h6 h7 h8; ?_)) (fun h7 => have h7' := decide_eq_false h7; have e_ : Ax c a = _ := bW h0 h1 h2 h3 h4 h5 h6 h7; have h8' := trivial; ?_))))))))
 all_goals
  try rw [e_]
  simp -implicitDefEqProofs only [Tryz.f217, h0', h1', h2', h3', h4', h5', h6', h7', h8', eq_self, decide_true, decide_false, Int.reduceEq, go_sem, hh, seval]
  with_reducible repeat' (first | apply ai | intro _ | ((first | apply s1 | apply s2 | apply s3 | apply s4) <;> intro hb <;> simp -implicitDefEqProofs only [hb, go_sem, hh, seval] <;> try simp only [qz] at hb))
  all_goals (try simp only [maxLen, tn, lm] at *)
  all_goals first | rfl | omega | decide | with_reducible assumption | (show AZ _ = true; rfl) | exact Gw (by assumption) | contradiction | exact hbo _ (by with_reducible assumption) | skip
end
def Rg (c : Cl) : Prop := c.outs.length = c.mail.to.length ∧ Mk c.mail ∧ 0 ≤ c.pos ∧ c.pos ≤ c.outs.length ∧ (c.state = 3 → 1 ≤ c.pos) ∧ c.name.size ≤ 1000
theorem Zr {c : Cl} (k : Int) (h : Rg c) : Rg (C5 c k).1 ∧ (C5 c k).2.size ≤ 20 := by
 unfold C5
 split
 all_goals exact ⟨⟨by show (c.outs.map _).length = _; rw [lm]; exact h.1, h.2.1, h.2.2.1, by show _ ≤ (((c.outs.map _).length : Nat) : Int); rw [lm]; exact h.2.2.2.1, fun q => by simp at q, h.2.2.2.2.2⟩, Nat.le_of_ble_eq_true rfl⟩
theorem RP {c : Cl} (h : c.outs.length = c.mail.to.length ∧ Mk c.mail ∧ 0 ≤ c.pos ∧ c.pos ≤ c.outs.length ∧ c.name.size ≤ 1000) : Rg (DI c).1 ∧ (DI c).2.size ≤ 3000 := by
 obtain ⟨h1, h2, h3, h4, h5⟩ := h
 unfold DI
 split
 ·rename_i hlt
  refine ⟨⟨h1, h2, by show 0 ≤ c.pos + 1; omega, by show c.pos + 1 ≤ (c.outs.length : Int); omega, fun _ => by show 1 ≤ c.pos + 1; omega, h5⟩, ?_⟩
  show (⟨#[82, 67, 80, 84, 32, 84, 79, 58]⟩ ++ Ce (c.mail.to.getD c.pos.toNat default)).size ≤ 3000
  have hps := MZ (c.mail.to.getD c.pos.toNat default)
  have ht := db h2 (i := c.pos.toNat) (by omega)
  rw [ByteArray.size_append]
  have e8 : (⟨#[82, 67, 80, 84, 32, 84, 79, 58]⟩ : ByteArray).size = 8 := rfl
  omega
 ·split
  all_goals exact ⟨⟨h1, h2, h3, h4, fun q => by simp at q, h5⟩, Nat.le_of_ble_eq_true rfl⟩
theorem be {c : Cl} (k : Int) (h : Rg c) : Rg (Es c k).1 ∧ (Es c k).2.size ≤ 3000 := by
 have key : ∀ v : Int, Rg (DI ⟨c.name, c.mail, c.state, c.pos, c.outs.set (c.pos - 1).toNat v⟩).1 ∧ (DI ⟨c.name, c.mail, c.state, c.pos, c.outs.set (c.pos - 1).toNat v⟩).2.size ≤ 3000 := fun v =>
  RP ⟨by show (c.outs.set _ _).length = _; rw [List.length_set]; exact h.1, h.2.1, h.2.2.1, by show _ ≤ (((c.outs.set _ _).length : Nat) : Int); rw [List.length_set]; exact h.2.2.2.1, h.2.2.2.2.2⟩
 unfold Es
 repeat' split
 all_goals exact key _
theorem i9 {l : List ByteArray} (h1 : l.length ≤ 100) (h : ∀ x ∈ l, x.size ≤ 1000) : (SX l).size ≤ 100400 := by
 unfold SX
 have q := U8 l ⟨#[]⟩ 1000 h
 rw [ByteArray.size_append, cM]
 have : (⟨#[]⟩ : ByteArray).size = 0 := rfl
 have : l.length * (1000 + 3) ≤ 100 * (1000 + 3) := Nat.mul_le_mul_right _ h1
 omega
theorem bX {c : Cl} (a : ByteArray) (h : Rg c) : Rg (Ax c a).1 ∧ (Ax c a).2.size ≤ 200000 := by
 have q1 := be (A9 a) h
 have q2 := Zr (A9 a) h
 have q3 := RP ⟨h.1, h.2.1, h.2.2.1, h.2.2.2.1, h.2.2.2.2.2⟩
 have q4 := i9 h.2.1.2.1 h.2.1.2.2.2.2
 have q5 := MZ c.mail.frm
 have q6 := h.2.1.2.2.1
 have mk : ∀ st, ¬ st = (3 : Int) → ∀ o : List Int, o.length = c.outs.length → Rg ⟨c.name, c.mail, st, c.pos, o⟩ := fun st hs o ho => ⟨by show o.length = _; rw [ho]; exact h.1, h.2.1, h.2.2.1, by show _ ≤ ((o.length : Nat) : Int); rw [ho]; exact h.2.2.2.1, fun q => absurd q hs, h.2.2.2.2.2⟩
 unfold Ax
 repeat' split
 all_goals first
  | exact ⟨h, Nat.zero_le _⟩
  | exact ⟨mk _ (by decide) _ rfl, Nat.zero_le _⟩
  | exact ⟨q1.1, by have := q1.2; omega⟩
  | exact ⟨q2.1, by have := q2.2; omega⟩
  | exact ⟨q3.1, by have := q3.2; omega⟩
  | exact ⟨mk _ (by decide) _ (lm _), Nat.le_of_ble_eq_true rfl⟩
  | exact ⟨mk _ (by decide) _ rfl, Nat.le_trans q4 (by decide)⟩
  | (refine ⟨mk _ (by decide) _ rfl, ?_⟩
     show ((⟨_⟩ : ByteArray) ++ _).size ≤ _
     rw [ByteArray.size_append]
     have e5 : (⟨#[72, 69, 76, 79, 32]⟩ : ByteArray).size = 5 := rfl
     have e10 : (⟨#[77, 65, 73, 76, 32, 70, 82, 79, 77, 58]⟩ : ByteArray).size = 10 := rfl
     have := h.2.2.2.2.2
     omega)
theorem UW (c : Cf) (s : Ss) (l : ByteArray) : (BP c s l).1.buf = s.buf := by
 have q1 : ∀ t, (EJ s t).1.buf = s.buf := fun t => by unfold EJ; (repeat' split) <;> rfl
 have q2 : ∀ t, (HB c s t).1.buf = s.buf := fun t => by unfold HB; (repeat' split) <;> rfl
 unfold BP
 repeat' split
 all_goals first | rfl | exact q1 _ | exact q2 _
theorem UZ (s : Ss) (l : ByteArray) : (Af s l).1.1.buf = s.buf := by unfold Af; (repeat' split) <;> rfl
theorem XF (c : Cf) (s : Ss) (l : ByteArray) : (Bc c s l).1.1.buf = s.buf := by
 unfold Bc
 repeat' split
 all_goals first | rfl | exact UZ s l | exact UW c s l
theorem Qy (c : Cf) : ∀ (L : List ByteArray) (x : FM), (L5 c L x).1.1.buf = x.1.buf
 | [], x => rfl
 | l :: r, x => by
   rw [L5]
   split
   ·rfl
   ·split
    ·rfl
    ·rw [Qy c r]; exact XF c x.1 l
theorem Sc (c : Cf) (s : Ss) (t : ByteArray) : (Bg c s t).1.buf.size ≤ 80 := by
 have q := Qy c (Mn (s.buf ++ t)) (⟨s.state, s.mail, s.bad, ⟨#[]⟩⟩, [], [])
 have e : (⟨#[]⟩ : ByteArray).size = 0 := rfl
 unfold Bg Vc
 split
 ·rw [q]; show (⟨#[]⟩ : ByteArray).size ≤ 80; omega
 ·split
  ·rw [q]; show (⟨#[]⟩ : ByteArray).size ≤ 80; omega
  ·split
   ·show (L5 c _ _).1.1.buf.size ≤ 80
    rw [q]; show (⟨#[]⟩ : ByteArray).size ≤ 80; omega
   ·show (jl (s.buf ++ t)).size ≤ 80; omega
abbrev M5 := Cl × Ss × List Ml × List ByteArray
def XJ (q : Cl × ByteArray) : ByteArray := if q.1.state = 5 then q.2 else q.2 ++ ⟨#[13, 10]⟩
theorem dV {q : Cl × ByteArray} (h : q.1.state = 5) : XJ q = q.2 := if_pos h
theorem dU {q : Cl × ByteArray} (h : ¬ q.1.state = 5) : XJ q = q.2 ++ ⟨#[13, 10]⟩ := if_neg h
theorem rt (q : Cl × ByteArray) : (XJ q).size ≤ q.2.size + 2 := by
 unfold XJ
 split
 ·omega
 ·rw [ByteArray.size_append, Lt]; omega
noncomputable def LU (x : M5) : Cl × ByteArray := Ax x.1 (x.2.2.2.getD 0 default)
noncomputable def Xc (h : Cf) (x : M5) : M5 := ((LU x).1, (Bg h x.2.1 (XJ (LU x))).1, x.2.2.1 ++ (Bg h x.2.1 (XJ (LU x))).2.2, (Bg h x.2.1 (XJ (LU x))).2.1)
noncomputable def KX (h : Cf) (cut : Int) : Nat → Nat → M5 → Cl × List Ml
 | 0, _, x => (x.1, x.2.2.1)
 | k + 1, n, x => if (x.2.2.2.length : Int) > 0 ∧ ¬ x.1.state = 7 then (if 2 * (n : Int) ≥ cut then (x.1, x.2.2.1) else if (LU x).2 = ⟨#[]⟩ ∨ 2 * (n : Int) + 1 ≥ cut then ((LU x).1, x.2.2.1) else KX h cut k (n + 1) (Xc h x)) else (x.1, x.2.2.1)
theorem XK {h : Cf} {cut : Int} {k n : Nat} {x : M5} (q : ¬ (x.2.2.2.length : Int) > 0 ∨ x.1.state = 7 ∨ 2 * (n : Int) ≥ cut) : KX h cut k n x = (x.1, x.2.2.1) := by
 cases k with
 | zero => rfl
 | succ k =>
   rw [KX]
   split
   ·rename_i z
    rw [if_pos (q.elim (fun a => absurd z.1 a) fun q => q.elim (fun a => absurd a z.2) id)]
   ·rfl
theorem dW {h : Cf} {cut : Int} {k n : Nat} {x : M5} (hk : cut ≤ 2 * ((n : Int) + k)) (h1 : (x.2.2.2.length : Int) > 0) (h2 : ¬ x.1.state = 7) (h3 : ¬ 2 * (n : Int) ≥ cut) (h4 : (LU x).2 = ⟨#[]⟩ ∨ 2 * (n : Int) + 1 ≥ cut) : KX h cut k n x = ((LU x).1, x.2.2.1) := by
 obtain ⟨j, rfl⟩ : ∃ j, k = j + 1 := ⟨k - 1, by omega⟩
 rw [KX, if_pos ⟨h1, h2⟩, if_neg h3, if_pos h4]
theorem ru {h : Cf} {cut : Int} {k n : Nat} {x : M5} (h1 : (x.2.2.2.length : Int) > 0) (h2 : ¬ x.1.state = 7) (h3 : ¬ 2 * (n : Int) ≥ cut) (h4 : ¬ (LU x).2 = ⟨#[]⟩) (h5 : ¬ 2 * (n : Int) + 1 ≥ cut) : KX h cut (k + 1) n x = KX h cut k (n + 1) (Xc h x) := by
 rw [KX, if_pos ⟨h1, h2⟩, if_neg h3, if_neg (fun q => q.elim h4 h5)]
def nZ (n : Nat) (x : M5) : Prop := Rg x.1 ∧ M3 x.2.1 ∧ x.2.1.buf.size ≤ 80 ∧ x.2.2.1.length ≤ n * 300000 ∧ ∀ m ∈ x.2.2.1, br m
theorem QJ {n : Nat} {x : M5} (q : nZ n x) : Rg (LU x).1 ∧ (LU x).2.size ≤ 200000 := bX _ q.1
theorem Mf {h : Cf} {n : Nat} {x : M5} (q : nZ n x) : nZ (n + 1) (Xc h x) ∧ (Bg h x.2.1 (XJ (LU x))).2.2.length ≤ 300000 := by
 obtain ⟨h1, h2⟩ := QJ q
 obtain ⟨q1, q2, q3, q4, q5⟩ := q
 have ha := rt (LU x)
 have f := Vg (c := h) (t := XJ (LU x)) q2 (by omega)
 have fl : (Bg h x.2.1 (XJ (LU x))).2.2.length ≤ 300000 := by have := f.2.2.1; omega
 refine ⟨⟨h1, f.1, Sc _ _ _, ?_, fun m hm => ?_⟩, fl⟩
 ·show (x.2.2.1 ++ _).length ≤ _
  rw [List.length_append]
  omega
 ·rcases List.mem_append.1 hm with hm | hm
  ·exact q5 m hm
  ·exact f.2.2.2.2 m hm
theorem KP (h : Cf) (cut : Int) : ∀ (k n : Nat) (x : M5), nZ n x → Rg (KX h cut k n x).1 ∧ (KX h cut k n x).2.length ≤ (n + k) * 300000 ∧ ∀ m ∈ (KX h cut k n x).2, br m
 | 0, n, x, q => ⟨q.1, q.2.2.2.1, q.2.2.2.2⟩
 | k + 1, n, x, q => by
   have hl : x.2.2.1.length ≤ (n + (k + 1)) * 300000 := Nat.le_trans q.2.2.2.1 (Nat.mul_le_mul_right _ (Nat.le_add_right _ _))
   rw [KX]
   split
   ·split
    ·exact ⟨q.1, hl, q.2.2.2.2⟩
    ·split
     ·exact ⟨(QJ q).1, hl, q.2.2.2.2⟩
     ·have z := KP h cut k (n + 1) _ (Mf (h := h) q).1
      rw [show n + (k + 1) = n + 1 + k by omega]
      exact z
   ·exact ⟨q.1, hl, q.2.2.2.2⟩
def uJ : Ss := ⟨0, ⟨⟨⟨#[]⟩, ⟨#[]⟩⟩, [], []⟩, false, ⟨#[]⟩⟩
def TJ (h : Cf) (nm : ByteArray) (m : Ml) : M5 := (aQ nm m, uJ, [], [⟨#[50, 50, 48, 32]⟩ ++ h.name])
theorem KO (h : Cf) {nm : ByteArray} {m : Ml} (hn : nm.size ≤ 1000) (hm : Mk m) : nZ 0 (TJ h nm m) := ⟨⟨by show (List.replicate _ _).length = _; rw [List.length_replicate]; rfl, hm, Int.le_refl _, by show (0 : Int) ≤ _; omega, fun q => absurd (show (0 : Int) = 3 from q) (by decide), hn⟩, FN uJ, Nat.zero_le _, Nat.zero_le _, fun _ z => by cases z⟩
noncomputable def uK (h : Cf) (nm : ByteArray) (m : Ml) (cut : Int) : Cl × List Ml := KX h cut cut.toNat 0 (TJ h nm m)
noncomputable def EP (h : Cf) (nm : ByteArray) (m : Ml) (cut : Int) : List Int × List Ml := ((uK h nm m cut).1.outs.map (Fm 3), (uK h nm m cut).2)
theorem KQ {h : Cf} {nm : ByteArray} {m : Ml} {cut : Int} {c : Cl} {l : List Ml} (q : (c, l) = KX h cut cut.toNat 0 (TJ h nm m)) : EP h nm m cut = (c.outs.map (Fm 3), l) := by
 unfold EP uK; rw [← q]
theorem ry {h : Cf} {x1 : Cl} {x2 : Ss} {x3 : List Ml} {x4 : List ByteArray} (e : (Ax x1 (x4.getD 0 default)).1.state = 5) : Xc h (x1, x2, x3, x4) = ((Ax x1 (x4.getD 0 default)).1, (Bg h x2 (Ax x1 (x4.getD 0 default)).2).1, x3 ++ (Bg h x2 (Ax x1 (x4.getD 0 default)).2).2.2, (Bg h x2 (Ax x1 (x4.getD 0 default)).2).2.1) := by
 unfold Xc; rw [dV (show (LU (x1, x2, x3, x4)).1.state = 5 from e)]; rfl
theorem rv {h : Cf} {x1 : Cl} {x2 : Ss} {x3 : List Ml} {x4 : List ByteArray} (e : ¬ (Ax x1 (x4.getD 0 default)).1.state = 5) : Xc h (x1, x2, x3, x4) = ((Ax x1 (x4.getD 0 default)).1, (Bg h x2 ((Ax x1 (x4.getD 0 default)).2 ++ ⟨#[13, 10]⟩)).1, x3 ++ (Bg h x2 ((Ax x1 (x4.getD 0 default)).2 ++ ⟨#[13, 10]⟩)).2.2, (Bg h x2 ((Ax x1 (x4.getD 0 default)).2 ++ ⟨#[13, 10]⟩)).2.1) := by
 unfold Xc; rw [dU (show ¬ (LU (x1, x2, x3, x4)).1.state = 5 from e)]; rfl
theorem js (nm : ByteArray) (m : Ml) : aQ nm m = ⟨nm, m, 0, 0, List.replicate m.to.length 0⟩ := rfl
def UO : Ct := At (lc I0.ag (lc Av (lc X3.ag (lc BJ l0)))) (fun p => p.1.name.size ≤ 1000 ∧ p.2.1.size ≤ 1000 ∧ Mk p.2.2.1 ∧ 0 ≤ p.2.2.2.1 ∧ p.2.2.2.1 ≤ 1000) (fun p => .tup [.t (.sl 1 ((EP p.1 p.2.1 p.2.2.1 p.2.2.2.1).1.map An)), .t (.sl 4 ((EP p.1 p.2.1 p.2.2.1 p.2.2.2.1).2.map Cy))])
section
attribute [local go_sem] gH gI gJ gK RA AY lm List.length_append List.map_append List.map_nil List.nil_append tn Int.toNat_zero GI AS.opn AS.cls AS.nilb AS.renb AS.up Bool.not_false Bool.not_true List.set_set List.set_cons_zero List.set_cons_succ List.set_nil List.mem_singleton forall_eq
set_option maxHeartbeats 6400000 in
theorem md {G : Gt} (hG : Aj G) (hh : G.e 216 = AA 1 gH ∧ G.e 217 = AA 1 gI ∧ G.e 218 = AA 1 gJ ∧ G.e 219 = AA 0 gK) : Gd G 201 (AA 1 UO) := by
 refine OW (dp := fun n => !(Nat.beq n 24 || Nat.beq n 78 || Nat.beq n 100003)) (fn := Tryz.f201) (n := 4) rfl hG ?_
 rintro ⟨h, nm, m, cut, ⟨⟩⟩ hpre
 obtain ⟨hn, LG, hm, hc0, hc1⟩ := hpre
 try dsimp only at hn LG hm hc0 hc1 ⊢
 have hm1 := hm.1
 have hm2 := hm.2.1
 have e4 : (#[50, 50, 48, 32] : Array UInt8).size = 4 := rfl
 have e2 : (#[13, 10] : Array UInt8).size = 2 := rfl
 simp -implicitDefEqProofs only [Tryz.f201, go_sem, hh, seval]
 with_reducible repeat' (first | apply ai | intro _ | ((first | apply s1 | apply s2 | apply s3 | apply s4) <;> intro hb <;> simp -implicitDefEqProofs only [hb, go_sem, hh, seval] <;> try simp only [qz] at hb))
 all_goals (try simp only [maxLen, tn] at *)
 all_goals first | with_reducible rfl | omega | with_reducible assumption | decide | (simp only [List.mem_cons, List.mem_singleton, List.not_mem_nil] at *; omega) | skip
 refine Ai (Le.nilb 1011 3 1901 true 2 rfl rfl rfl) ?_
 simp -implicitDefEqProofs only [go_sem, hh, seval]
 refine Ai (Le.nilb 1011 4 1902 true 1 rfl rfl rfl) (Ae ?_)
 simp -implicitDefEqProofs only [go_sem, hh, seval]
 with_reducible repeat' (first | apply ai | intro _ | ((first | apply s1 | apply s2 | apply s3 | apply s4) <;> intro hb <;> simp -implicitDefEqProofs only [hb, go_sem, hh, seval] <;> try simp only [qz] at hb))
 all_goals (try simp only [maxLen, tn] at *)
 all_goals first | with_reducible rfl | omega | with_reducible assumption | decide | (simp only [List.mem_cons, List.mem_singleton, List.not_mem_nil] at *; omega) | skip
 refine TC [1028, 1901, 1902] [(12, 902, false, 4)] (ι := {p : Nat × Nat × M5 // cut ≤ 2 * ((p.1 : Int) + p.2.1) ∧ p.1 ≤ 1000 ∧ nZ p.1 p.2.2 ∧ KX h cut p.2.1 p.1 p.2.2 = KX h cut cut.toNat 0 (TJ h nm m)}) (fun p => ⟨[(3, .t (.v (.int .i64 cut))), (4, .pb 1004 0), (10, .pb 1010 0), (11, .pb 1011 0), (12, .h 902), (13, .t (.sl 1 (p.1.2.2.2.2.2.map AH))), (14, .t (.v (.int .i64 p.1.1)))], [(1004, some (.box ((C9 h).map .t))), (1010, some (.box ((DR p.1.2.2.1).map .t))), (1011, some (.box ((EI p.1.2.2.2.1).map .t))), (902, some (.arr false 4 (p.1.2.2.2.2.1.map Cy)))]⟩) (fun p => p.1.2.1) ⟨(0, cut.toNat, TJ h nm m), by dsimp only; omega, Nat.zero_le _, KO h LG hm, rfl⟩ rfl ?_ ?_
 ·simp -implicitDefEqProofs only [go_sem, hh, seval]
  simp [js, uJ, TJ, An, AH]
  try trace_state
 ·rintro ⟨⟨n, k, x⟩, hk, hk2, hx, hv⟩
  obtain ⟨x1, x2, x3, x4⟩ := x
  dsimp only at hk hk2 hx hv
  have hc := hx.1
  have hc3 : x1.outs.length ≤ 1000 := by have := hc.1; have := hc.2.1.1; dsimp only at *; omega
  have hl3 := hx.2.2.2.1
  have hbf := hx.2.2.1
  obtain ⟨hq1, hq2⟩ := QJ hx
  obtain ⟨hq1, hq2⟩ : Rg (Ax x1 (x4.getD 0 default)).1 ∧ (Ax x1 (x4.getD 0 default)).2.size ≤ 200000 := ⟨hq1, hq2⟩
  have hq3 : (Ax x1 (x4.getD 0 default)).1.outs.length ≤ 1000 := by have := hq1.1; have := hq1.2.1.1; omega
  have hf5 : (Ax x1 (x4.getD 0 default)).1.state = 5 → (Bg h x2 (Ax x1 (x4.getD 0 default)).2).2.2.length ≤ 300000 := fun e => by
   have z := (Mf (h := h) hx).2; rw [dV (show (LU (x1, x2, x3, x4)).1.state = 5 from e)] at z; exact z
  have hf6 : ¬ (Ax x1 (x4.getD 0 default)).1.state = 5 → (Bg h x2 ((Ax x1 (x4.getD 0 default)).2 ++ ⟨#[13, 10]⟩)).2.2.length ≤ 300000 := fun e => by
   have z := (Mf (h := h) hx).2; rw [dU (show ¬ (LU (x1, x2, x3, x4)).1.state = 5 from e)] at z; exact z
  dsimp only at hl3 hbf
  simp -implicitDefEqProofs only [go_sem, hh, seval]
  with_reducible repeat' (first | apply ai | intro _ | ((first | apply s1 | apply s2 | apply s3 | apply s4) <;> intro hb <;> simp -implicitDefEqProofs only [hb, go_sem, hh, seval] <;> try simp only [qz] at hb))
  all_goals (try simp only [maxLen, tn] at *)
  all_goals first
   | with_reducible rfl
   | omega
   | (show _ = true; rfl)
   | with_reducible assumption
   | exact hx.1.2.1
   | exact hx.1.2.2.1
   | exact hx.1.2.2.2.1
   | exact hx.1.2.2.2.2.1
   | exact Nat.le_trans hx.1.2.2.2.2.2 (by decide)
   | (rw [KQ ((XK (x := (x1, x2, x3, x4)) (.inl (by dsimp only; omega))).symm.trans hv)]; first | done | rfl)
   | (rw [KQ ((XK (x := (x1, x2, x3, x4)) (.inr (.inl (by with_reducible assumption)))).symm.trans hv)]; first | done | rfl)
   | (rw [KQ ((XK (x := (x1, x2, x3, x4)) (.inr (.inr (by with_reducible assumption)))).symm.trans hv)]; first | done | rfl)
   | (rw [KQ ((dW (x := (x1, x2, x3, x4)) hk (by with_reducible assumption) (by with_reducible assumption) (by with_reducible assumption) (.inl (show (Ax x1 (x4.getD 0 default)).2 = ⟨#[]⟩ by with_reducible assumption))).symm.trans hv)]; first | done | rfl)
   | (rw [KQ ((dW (x := (x1, x2, x3, x4)) hk (by with_reducible assumption) (by with_reducible assumption) (by with_reducible assumption) (.inr (by with_reducible assumption))).symm.trans hv)]; first | done | rfl)
   | exact hc.2.2.2.2.1 (by with_reducible assumption)
   | exact hx.2.1
   | exact hq3
   | (have := hf5 (by with_reducible assumption); omega)
   | (have := hf6 (by with_reducible assumption); omega)
   | (rw [ByteArray.size_append]; show _ + (_ + 2) ≤ _; omega)
   | (obtain ⟨k, rfl⟩ : ∃ j, k = j + 1 := ⟨k - 1, by omega⟩
      refine ⟨⟨(n + 1, k, Xc h (x1, x2, x3, x4)), by dsimp only; omega, by dsimp only; omega, (Mf (h := h) hx).1, (ru (x := (x1, x2, x3, x4)) (by with_reducible assumption) (by with_reducible assumption) (by with_reducible assumption) (show ¬ (Ax x1 (x4.getD 0 default)).2 = ⟨#[]⟩ by with_reducible assumption) (by with_reducible assumption)).symm.trans hv⟩, by dsimp only; omega, ?_⟩
      simp -implicitDefEqProofs only [go_sem, hh, seval]
      first
       | (have ee := ry (h := h) (x1 := x1) (x2 := x2) (x3 := x3) (x4 := x4) (by with_reducible assumption); simp only [ee]; simp; done)
       | (have ee := rv (h := h) (x1 := x1) (x2 := x2) (x3 := x3) (x4 := x4) (by with_reducible assumption); simp only [ee]; simp; done)
       | skip)
   | skip
end
open Classical in
noncomputable def Ft (h : Hs) (nm : ByteArray) (m : Ml) (cut : Int) : List Int × List Ml := (if B4 h.spool then EP h.conf nm m cut else EP h.conf nm m 0)
theorem ku {h : Hs} {nm : ByteArray} {m : Ml} {cut : Int} (h0 : B4 h.spool) : Ft h nm m cut = EP h.conf nm m cut := by unfold Ft; rw [if_pos h0]
theorem kw {h : Hs} {nm : ByteArray} {m : Ml} {cut : Int} (h0 : ¬ (B4 h.spool)) : Ft h nm m cut = EP h.conf nm m 0 := by unfold Ft; rw [if_neg h0]
def f7 : Ct := At (lc GU.ag (lc Av (lc X3.ag (lc BJ l0)))) (fun p => p.1.conf.name.size ≤ 1000 ∧ p.2.1.size ≤ 1000 ∧ Mk p.2.2.1 ∧ 0 ≤ p.2.2.2.1 ∧ p.2.2.2.1 ≤ 1000) (fun p => .tup [.t (.sl 1 ((Ft p.1 p.2.1 p.2.2.1 p.2.2.2.1).1.map An)), .t (.sl 4 ((Ft p.1 p.2.1 p.2.2.1 p.2.2.2.1).2.map Cy))])
section
attribute [local go_sem] JS UO AS.opn AS.cls AS.nilb AS.renb AS.up Bool.not_false Bool.not_true List.set_set List.set_cons_zero List.set_cons_succ List.set_nil List.mem_singleton forall_eq tn List.map_nil List.nil_append
set_option maxHeartbeats 1600000 in
theorem mg {G : Gt} (hG : Aj G) (hh : G.e 110 = AA 0 JS ∧ G.e 201 = AA 1 UO) : Gd G 204 (AA 1 f7) := by
 refine gr (fn := Tryz.f204) (n := 4) rfl hG ?_
 rintro ⟨h, nm, m, cut, ⟨⟩⟩ hpre
 obtain ⟨hn, LG, hm, hc0, hc1⟩ := hpre
 try dsimp only at hn LG hm hc0 hc1 ⊢
 refine BE (B4 h.spool) (fun h0 => have h0' := Aq h0; have e_ : Ft h nm m cut = _ := ku h0; ?_) (fun h0 => have h0' := AQ h0; have e_ : Ft h nm m cut = _ := kw h0; ?_)
 all_goals
  try rw [e_]
  simp -implicitDefEqProofs only [Tryz.f204, h0', eq_self, decide_true, decide_false, Int.reduceEq, go_sem, hh, seval]
  with_reducible repeat' (first | apply ai | intro _ | ((first | apply s1 | apply s2 | apply s3 | apply s4) <;> intro hb <;> simp -implicitDefEqProofs only [hb, go_sem, hh, seval] <;> try simp only [qz] at hb))
  all_goals (try simp only [maxLen, tn, lm] at *)
  all_goals first | rfl | omega | decide | with_reducible assumption | (show AZ _ = true; rfl) | exact Gw (by assumption) | contradiction | skip
end
theorem LT {α β : Type} [Inhabited α] (f : α → β) {xs : List α} {i : Nat} (h : i < xs.length) : (xs.take (i + 1)).map f = (xs.take i).map f ++ [f (xs.getD i default)] := by
 rw [List.take_add_one, List.getElem?_eq_getElem h, List.map_append]; simp [h]
def UL : Ct := At (lc TN.ag l0) (fun p => Ke p.1) (fun p => .agg [.o false 7 ((p.1).hosts.map Ah), .t (.v (.int .i64 (p.1).now)), .t (.v (.int .i64 (p.1).marks)), .o true 3 ((p.1).given.map A0)])
section
attribute [local go_sem] fj lm List.length_append List.map_append AY AS.opn AS.cls AS.nilb AS.renb AS.up Bool.not_false Bool.not_true List.set_set List.set_cons_zero List.set_cons_succ List.set_nil List.mem_singleton forall_eq tn List.map_nil List.nil_append
set_option maxHeartbeats 6400000 in
theorem l7 {G : Gt} (hG : Aj G) (hh : G.e 173 = AA 0 fj) : Gd G 149 (AA 1 UL) := by
 refine OW (dp := fun n => !(Nat.beq n 100002 || Nat.beq n 100004 || Nat.beq n 29 || Nat.beq n 30)) (fn := Tryz.f149) (n := 1) rfl hG ?_
 rintro ⟨w, ⟨⟩⟩ hpre
 have hw : Ke w := hpre
 have hl1 := hw.1.1
 have hl2 := hw.2.1
 simp -implicitDefEqProofs only [Tryz.f149, go_sem, hh, seval]
 with_reducible repeat' (first | apply ai | intro _ | ((first | apply s1 | apply s2 | apply s3 | apply s4) <;> intro hb <;> simp -implicitDefEqProofs only [hb, go_sem, hh, seval] <;> try simp only [qz] at hb))
 all_goals (try simp only [maxLen, tn] at *)
 all_goals first | with_reducible rfl | omega | with_reducible assumption | (show _ = true; rfl) | skip
 refine Ai (Le.nilb 1003 0 1901 false 7 rfl rfl rfl) (Ae ?_)
 simp -implicitDefEqProofs only [go_sem, hh, seval]
 with_reducible repeat' (first | apply ai | intro _ | ((first | apply s1 | apply s2 | apply s3 | apply s4) <;> intro hb <;> simp -implicitDefEqProofs only [hb, go_sem, hh, seval] <;> try simp only [qz] at hb))
 all_goals (try simp only [maxLen, tn] at *)
 all_goals first | with_reducible rfl | omega | with_reducible assumption | (show _ = true; rfl) | skip
 refine AE [] (ι := {i : Nat // i ≤ w.hosts.length}) (fun p => ⟨[(1, .pb 1001 0), (2, .pb 1002 0), (3, .pb 1003 0), (4, .t (.v (.int .i64 p.1)))], [(1001, some (.box ((DT w).map .t))), (1002, some (.box [.nil, .t (.v (.int .i64 0)), .t (.v (.int .i64 0)), .nil])), (1003, some (.box [.h 1901, .t (.v (.int .i64 w.now)), .t (.v (.int .i64 w.marks)), .h 1012])), (1901, some (.arr false 7 ((w.hosts.take p.1).map Ah))), (1012, some (.arr true 3 (w.given.map A0)))]⟩) (fun p => w.hosts.length - p.1) ⟨0, Nat.zero_le _⟩ rfl ?_ ?_
 ·simp -implicitDefEqProofs only [go_sem, hh, seval]
  try simp
 ·rintro ⟨i, hi⟩
  dsimp only at hi ⊢
  have hlen : (w.hosts.take i).length = i := by rw [List.length_take]; omega
  by_cases hlt : (i : Int) < w.hosts.length
  ·have hz := hw.1.at (i := i) (by omega)
   simp -implicitDefEqProofs only [hlt, decide_true, go_sem, hh, seval]
   with_reducible repeat' (first | apply ai | intro _ | ((first | apply s1 | apply s2 | apply s3 | apply s4) <;> intro hb <;> simp -implicitDefEqProofs only [hb, go_sem, hh, seval] <;> try simp only [qz] at hb))
   all_goals (try simp only [maxLen, tn] at *)
   all_goals first | with_reducible rfl | omega | with_reducible assumption | (show _ = true; rfl) | skip
   refine Ai (Le.renb 1003 0 1030 1901 rfl rfl rfl rfl) (Ae ?_)
   simp -implicitDefEqProofs only [go_sem, hh, seval]
   with_reducible repeat' (first | apply ai | intro _ | ((first | apply s1 | apply s2 | apply s3 | apply s4) <;> intro hb <;> simp -implicitDefEqProofs only [hb, go_sem, hh, seval] <;> try simp only [qz] at hb))
   all_goals first | with_reducible rfl | omega | skip
   refine ⟨⟨i + 1, by omega⟩, by dsimp only; omega, ?_⟩
   simp -implicitDefEqProofs only [go_sem, hh, seval]
   simp only [LT Ah (show i < w.hosts.length by omega)]
   with_reducible repeat' (first | apply ai | intro _ | ((first | apply s1 | apply s2 | apply s3 | apply s4) <;> intro hb <;> simp -implicitDefEqProofs only [hb, go_sem, hh, seval] <;> try simp only [qz] at hb))
   all_goals first | rfl | (simp; done) | skip
  ·have htk : w.hosts.take i = w.hosts := List.take_of_length_le (by omega)
   simp -implicitDefEqProofs only [hlt, htk, decide_false, go_sem, hh, seval]
   with_reducible repeat' (first | apply ai | intro _ | ((first | apply s1 | apply s2 | apply s3 | apply s4) <;> intro hb <;> simp -implicitDefEqProofs only [hb, go_sem, hh, seval] <;> try simp only [qz] at hb))
   all_goals (try simp only [maxLen] at *)
   all_goals first | with_reducible rfl | omega | with_reducible assumption | (show _ = true; rfl) | decide | skip
end
theorem M4 {s : Sp} (h : Bl s) {n : Int} {a : Ad} : CW s n a ↔ ∃ x ∈ s.items, x.id = n ∧ ∃ r ∈ x.to, r.addr = a :=
 ⟨GY, fun ⟨x, hx, e, r, hr, e2⟩ => by rw [← e, ← e2]; exact (FO h hx hr).1⟩
theorem YS {s : Sp} {m : Ml} {w n : Int} {a : Ad} (h : Bl (Kg s m w)) (q : CW s n a) : CW (Kg s m w) n a := by
 obtain ⟨x, hx, e⟩ := GY q
 exact (M4 h).2 ⟨x, List.mem_append_left _ hx, e⟩
theorem Jz {α : Type} [Inhabited α] {xs : List α} {i : Nat} {x y : α} (hx : x ∈ xs) (hi : i < xs.length) : x ∈ xs.set i y ∨ x = xs.getD i default := by
 obtain ⟨j, hj, rfl⟩ := List.getElem_of_mem hx
 by_cases e : i = j
 ·subst e; exact .inr (by simp [hj])
 ·exact .inl (by rw [List.mem_iff_getElem]; exact ⟨j, by simpa using hj, by rw [List.getElem_set_ne e]⟩)
theorem Gv {α : Type} {xs : List α} {i : Nat} {y : α} (hi : i < xs.length) : y ∈ xs.set i y := List.mem_set hi y
theorem YT {s : Sp} {i k : Nat} {w n : Int} {a : Ad} (h : Bl (Nm s i k w)) (hi : i < s.items.length) (hk : k < (s.items.getD i default).to.length) (q : CW s n a) : CW (Nm s i k w) n a := by
 obtain ⟨x, hx, e, r, hr, e2⟩ := GY q
 refine (M4 h).2 ?_
 show ∃ y ∈ s.items.set i (Pl (s.items.getD i default) k w), y.id = n ∧ ∃ r ∈ y.to, r.addr = a
 rcases Jz (y := Pl (s.items.getD i default) k w) hx hi with hm | rfl
 ·exact ⟨x, hm, e, r, hr, e2⟩
 ·refine ⟨_, Gv hi, e, ?_⟩
  show ∃ r ∈ (s.items.getD i default).to.set k (Sj ((s.items.getD i default).to.getD k default) w), r.addr = a
  rcases Jz (y := Sj ((s.items.getD i default).to.getD k default) w) hr hk with hm | rfl
  ·exact ⟨r, hm, e2⟩
  ·exact ⟨_, Gv hk, e2⟩
theorem I9 {s : Sp} (h : Bl s) {n : Int} {a : Ad} (q : CW s n a) : BK a ∧ DM (A1 s n) ∧ (A5 s n).toNat < s.items.length ∧ (Bt (A1 s n) a).toNat < (s.items.getD (A5 s n).toNat default).to.length := by
 have i1 := CK q.1
 have k1 := Gg q.2
 have hx : DM (A1 s n) := (h.1 _ (AC (xs := s.items) (j := (A5 s n).toNat) (by omega))).1
 have hr := (hx.1 _ (AC (xs := (A1 s n).to) (j := (Bt (A1 s n) a).toNat) (by omega))).1
 rw [FW q.2] at hr
 exact ⟨hr, hx, by omega, by show _ < (A1 s n).to.length; omega⟩
theorem G3 {h : Hs} {n : Int} {a : Ad} {out w : Int} (hs : Bl h.spool) (q : CW h.spool n a) (hw : 0 ≤ w ∧ w ≤ 9999) : Bl (CR h (A5 h.spool n).toNat (Bt (A1 h.spool n) a).toNat a out w).spool ∧
    ∀ n' a', CW h.spool n' a' → ¬ (n = n' ∧ a = a') → CW (CR h (A5 h.spool n).toNat (Bt (A1 h.spool n) a).toNat a out w).spool n' a' := by
 obtain ⟨ha, hx, hi, hk⟩ := I9 hs q
 have hd := EE hs hi hk
 have td : ∀ n' a', CW h.spool n' a' → ¬ (n = n' ∧ a = a') → CW (Cw h.spool (A5 h.spool n).toNat (Bt (A1 h.spool n) a).toNat) n' a' := fun n' a' q' ne => QV hs q q' ne
 unfold CR
 split
 ·exact ⟨hd, td⟩
 ·split
  ·rename_i hl
   have hl2 := LK hs hi hk hl.2 hw.1
   exact ⟨hl2, fun n' a' q' _ => YT hl2 hi hk q'⟩
  ·by_cases z : AU (h.spool.items.getD (A5 h.spool n).toNat default).frm ∨ ¬ B4 (Cw h.spool (A5 h.spool n).toNat (Bt (A1 h.spool n) a).toNat)
   ·rw [Vm z]; exact ⟨hd, td⟩
   ·rw [Vl z]
    have hrm : B4 (Cw h.spool (A5 h.spool n).toNat (Bt (A1 h.spool n) a).toNat) := Classical.byContradiction fun y => z (.inr y)
    have ha2 := HQ hd (R6 hx ha fun y => z (.inl y)) hw hrm
    exact ⟨ha2, fun n' a' q' ne => YS ha2 (td n' a' q' ne)⟩
theorem Eg (h : Hs) (i k : Nat) (a : Ad) (out w : Int) : (CR h i k a out w).conf = h.conf ∧ (CR h i k a out w).boxes = h.boxes ∧ ((CR h i k a out w).lost = h.lost ∨ (CR h i k a out w).lost = h.lost ++ [⟨Bb (h.spool.items.getD i default).body, a⟩]) := by
 unfold CR GL
 repeat' split
 all_goals first | exact ⟨rfl, rfl, .inl rfl⟩ | exact ⟨rfl, rfl, .inr rfl⟩
theorem Wj {h : Hs} {n : Int} {a : Ad} {out w : Int} (q : Fk h) (t : CW h.spool n a) (hw : 0 ≤ w ∧ w ≤ 9999) : Fk (CR h (A5 h.spool n).toNat (Bt (A1 h.spool n) a).toNat a out w) := by
 obtain ⟨r1, r2, _⟩ := Eg h (A5 h.spool n).toNat (Bt (A1 h.spool n) a).toNat a out w
 refine ⟨fun j hj => ?_, by rw [r1]; exact q.2.1, (G3 q.2.2 t hw).1⟩
 have := q.1 j (by rw [r2] at hj; exact hj)
 unfold Ta at this ⊢
 rw [r1, r2]
 exact this
theorem bc {h : Hs} {m : Ml} {w : Int} (q : Fk h) (hm : Cr m) (hl : m.body.length < 12) (hw : 0 ≤ w ∧ w ≤ 9999) (hr : B4 h.spool) : Fk (OQ h m w) := ⟨q.1, q.2.1, HQ q.2.2 (jU q.2.1.2.2.1 hm hl) hw hr⟩
def Et (h : Hs) : Prop := (∀ b ∈ h.boxes, dv b ∧ b.addr.domain ∈ h.conf.own) ∧ I7 h.boxes ∧ KZ h.conf ∧ Bl h.spool
theorem ES {h : Hs} : Fk h ↔ Et h := by
 constructor
 ·intro q
  refine ⟨fun b hb => ?_, ND fun j h0 hj => (q.1 j hj).2.1 h0, q.2.1, q.2.2⟩
  obtain ⟨j, hj, rfl⟩ := List.getElem_of_mem hb
  have := q.1 j hj
  unfold Ta at this
  have e : h.boxes.getD j default = h.boxes[j] := by simp [hj]
  rw [e] at this
  exact ⟨this.1, this.2.2⟩
 ·intro q
  refine ⟨fun j hj => ⟨(q.1 _ (AC hj)).1, fun h0 => ?_, (q.1 _ (AC hj)).2⟩, q.2.2.1, q.2.2.2⟩
  have := List.pairwise_iff_getElem.1 q.2.1 (j - 1) j (by omega) hj (by omega)
  rw [← HU]
  simpa [hj, show j - 1 < h.boxes.length by omega] using this
theorem R7 {bs : List Bx} {a : Ad} {g : Gm} {b : Bx} (h : b ∈ EB bs a g) : b ∈ bs ∨ (∃ b0 ∈ bs, b = ⟨b0.addr, b0.mails ++ [g]⟩) ∨ b = ⟨a, [g]⟩ := by
 cases hf : Fn bs a
 ·rw [FY hf] at h
  rcases List.mem_append.1 h with h | h
  ·exact .inl (List.mem_of_mem_take h)
  ·rcases List.mem_cons.1 h with h | h
   ·exact .inr (.inr h)
   ·exact .inl (List.mem_of_mem_drop h)
 ·rw [Gi hf] at h
  rcases List.mem_or_eq_of_mem_set h with h | h
  ·exact .inl h
  ·exact .inr (.inl ⟨_, AC (L7 hf), h⟩)
def El (N : Nat) (h : Hs) : Prop := h.boxes.length ≤ N ∧ (∀ b ∈ h.boxes, b.mails.length ≤ N) ∧ h.lost.length ≤ N ∧ ∀ l ∈ h.lost, Ri l
theorem Bw {N M : Nat} {h : Hs} (q : El N h) (l : N ≤ M) : El M h := ⟨Nat.le_trans q.1 l, fun b hb => Nat.le_trans (q.2.1 b hb) l, Nat.le_trans q.2.2.1 l, q.2.2.2⟩
theorem QM {c : Cf} (h : KZ c) : My c := by
 obtain ⟨h1, h2, h3, h4, h5⟩ := h
 have d : ∀ {s : ByteArray}, Di s → BY s := fun {s} q => by have := (Co q).2; show s.size ≤ 1048576; omega
 exact ⟨d h3, ⟨by omega, fun s hs => d (h1 s hs)⟩, ⟨by omega, fun w hw => ⟨d (h2 w hw).1, d (h2 w hw).2⟩⟩⟩
theorem Du {N : Nat} {h : Hs} (q : Et h) (n : El N h) (hN : N ≤ 1048576) : IH h := by
 obtain ⟨n1, n2, n3, n4⟩ := n
 refine ⟨QM q.2.2.1, GX q.2.2.2, ⟨by omega, fun b hb => ?_⟩, ⟨by omega, n4⟩⟩
 have hbo := (q.1 b hb).1
 have := n2 b hb
 exact ⟨CJ (.inl hbo.2), ⟨by omega, fun g hg => ⟨CJ (hbo.1 g hg).1, GT (hbo.1 g hg).2⟩⟩⟩
theorem Z2 {g : Hs} {x : Im} {a : Ad} {c : Cf} {R : List (Int × Ad)} (q : Et g) (k : Kp c g ((x.id, a) :: R)) (hx : DM x) (ha : BK a) (hd : a.domain ∈ g.conf.own) : Et (Gq g x a) := by
 have hk := k.step
 refine ⟨fun b hb => ?_, JP q.2.1, q.2.2.1, hk.sp⟩
 have hg : (BK x.frm ∨ AU x.frm) ∧ CU x.body := ⟨hx.2.2.2.1, hx.2.2.2.2.2⟩
 rcases R7 hb with h | ⟨b0, h0, rfl⟩ | rfl
 ·exact q.1 b h
 ·refine ⟨⟨fun y hy => ?_, (q.1 b0 h0).1.2⟩, (q.1 b0 h0).2⟩
  rcases List.mem_append.1 hy with hy | hy
  ·exact (q.1 b0 h0).1.1 y hy
  ·rw [List.mem_singleton] at hy; subst hy; exact hg
 ·exact ⟨⟨fun y hy => by rw [List.mem_singleton] at hy; subst hy; exact hg, ha⟩, hd⟩
theorem Z3 {N : Nat} {g : Hs} {x : Im} {a : Ad} (n : El N g) : El (N + 1) (Gq g x a) := ⟨Nat.le_trans (K8 _ _ _) (Nat.succ_le_succ n.1), Hz n.2.1, Nat.le_succ_of_le n.2.2.1, n.2.2.2⟩
theorem Q7 {x : Im} {c : Cf} (hx : DM x) : ∀ (ads : List Ad) {g : Hs} {N : Nat} {R : List (Int × Ad)}, Et g → El N g → Kp c g ((ads.map fun a => (x.id, a)) ++ R) → (∀ a ∈ ads, BK a ∧ a.domain ∈ c.own) → Et (Jq x ads g) ∧ El (N + ads.length) (Jq x ads g) ∧ Kp c (Jq x ads g) R
 | [], g, N, R, q, n, k, _ => ⟨q, n, k⟩
 | a :: r, g, N, R, q, n, k, h => by
   have ha := h a (List.mem_cons_self ..)
   have z := Q7 hx r (Z2 q k hx ha.1 (by rw [k.cf]; exact ha.2)) (Z3 (x := x) (a := a) n) (k.step (x := x) (a := a)) fun b hb => h b (List.mem_cons_of_mem _ hb)
   refine ⟨z.1, ?_, z.2.2⟩
   have e : N + (a :: r).length = N + 1 + r.length := by rw [List.length_cons]; omega
   rw [e]; exact z.2.1
theorem Q6 {c : Cf} {w : Int} : ∀ (xs : List Im) {g : Hs} {N : Nat}, Et g → El N g → Kp c g (GB c w xs) → (∀ x ∈ xs, DM x) → Et (Do c w xs g) ∧ El (N + xs.length * 4) (Do c w xs g)
 | [], g, N, q, n, _, _ => ⟨q, by show El (N + 0 * 4) g; rw [Nat.zero_mul]; exact n⟩
 | x :: t, g, N, q, n, k, h => by
   have hx := h x (List.mem_cons_self ..)
   have z := Q7 (c := c) hx (A4 c ⟨#[]⟩ w x.to) (R := GB c w t) q n k fun a ha => by
    obtain ⟨r, hr, e, nr⟩ := EN c ⟨#[]⟩ w x.to a ha
    rw [← e]
    refine ⟨(hx.1 r hr).1, ?_⟩
    rcases nr.2 with y | y
    ·exact y.1
    ·exact absurd rfl y.2.1
   have z2 := Q6 t z.1 z.2.1 z.2.2 fun y hy => h y (List.mem_cons_of_mem _ hy)
   have hl := FF c ⟨#[]⟩ w x.to
   have h4 := hx.2.2.2.2.1.2
   exact ⟨z2.1, Bw z2.2 (by rw [List.length_cons]; omega)⟩
theorem jV {h : Hs} {w : Int} {N : Nat} (q : Et h) (n : El N h) (hN : N ≤ 1048576) : Et (Do h.conf w h.spool.items h) ∧ El (N + 40) (Do h.conf w h.spool.items h) := by
 have k := Mu (w := w) (ES.2 q) (Du q n hN)
 have z := Q6 h.spool.items q n k fun x hx => (q.2.2.2.1 x hx).1
 have hl := q.2.2.2.2.2.2
 exact ⟨z.1, Bw z.2 (by omega)⟩
theorem WH {b : List ByteArray} (h : CU b) : BY (Bb b) := by
 rcases FD b with e | e
 ·rw [e]; show (⟨#[]⟩ : ByteArray).size ≤ 1048576; decide
 ·exact (GT h).2 _ e
theorem Ir {h : Hs} {n : Int} {a : Ad} {out w : Int} {N : Nat} (q : Et h) (hn : El N h) (t : CW h.spool n a) (hw : 0 ≤ w ∧ w ≤ 9999) : Et (CR h (A5 h.spool n).toNat (Bt (A1 h.spool n) a).toNat a out w) ∧ El (N + 1) (CR h (A5 h.spool n).toNat (Bt (A1 h.spool n) a).toNat a out w) := by
 refine ⟨ES.1 (Wj (ES.2 q) t hw), ?_⟩
 obtain ⟨r1, r2, r3⟩ := Eg h (A5 h.spool n).toNat (Bt (A1 h.spool n) a).toNat a out w
 obtain ⟨t1, t2, _⟩ := I9 q.2.2.2 t
 unfold El
 rw [r2]
 refine ⟨Nat.le_succ_of_le hn.1, fun b hb => Nat.le_succ_of_le (hn.2.1 b hb), ?_⟩
 rcases r3 with e | e
 ·rw [e]; exact ⟨Nat.le_succ_of_le hn.2.2.1, hn.2.2.2⟩
 ·rw [e]
  refine ⟨by rw [List.length_append]; exact Nat.succ_le_succ hn.2.2.1, fun l hl => ?_⟩
  rcases List.mem_append.1 hl with hl | hl
  ·exact hn.2.2.2 l hl
  ·rw [List.mem_singleton] at hl; subst hl
   exact ⟨WH t2.2.2.2.2.2, CJ (.inl t1)⟩
theorem XM {h : Hs} {m : Ml} {w : Int} {N : Nat} (q : Et h) (n : El N h) (hm : Cr m) (hl : m.body.length < 12) (hw : 0 ≤ w ∧ w ≤ 9999) (hr : B4 h.spool) : Et (OQ h m w) ∧ El N (OQ h m w) := ⟨ES.1 (bc (ES.2 q) hm hl hw hr), n⟩
def f8 : Ct := At (lc TN.ag (lc Av l0)) (fun p => True) (fun p => .t (.v (.int .i64 (BF (fun h : Hs => h.conf.name = p.2.1) 0 p.1.hosts))))
section
attribute [local go_sem] lm
theorem mi {G : Gt} (hG : Aj G) : Gd G 206 (AA 0 f8) := by
 refine gr (fn := Tryz.f206) (n := 2) rfl hG ?_
 rintro ⟨w, a, ⟨⟩⟩ hpre
 simp -implicitDefEqProofs only [Tryz.f206, go_sem, seval] at hpre ⊢
 refine AE [] (ι := {i : Nat // i ≤ w.hosts.length ∧ BF (fun h : Hs => h.conf.name = a) 0 w.hosts = BF (fun h : Hs => h.conf.name = a) i (w.hosts.drop i)}) (fun p => ⟨[(1, .t (.v (.string a))), (2, .pb 1002 0), (5, .t (.v (.int .i64 p.1)))], [(1002, some (.box ((DT w).map .t)))]⟩) (fun p => w.hosts.length - p.1) ⟨0, by simp, rfl⟩ rfl ?_ ?_
 ·simp -implicitDefEqProofs only [go_sem, seval]
  try simp
 ·rintro ⟨i, hi, hix⟩
  by_cases hlt : (i : Int) < w.hosts.length
  ·simp -implicitDefEqProofs only [hlt, decide_true, tn, go_sem, seval]
   with_reducible repeat' (first | apply ai | intro _ | ((first | apply s1 | apply s2 | apply s3 | apply s4) <;> intro hb <;> simp -implicitDefEqProofs only [hb, go_sem, seval] <;> try simp only [qz] at hb))
   all_goals (try simp only [maxLen, tn] at *)
   all_goals first | rfl | omega | skip
   ·rw [hix, Dn (p := fun h : Hs => h.conf.name = a) (by omega) hb]
   ·refine ⟨⟨i + 1, by omega, by rw [hix, E8 (p := fun h : Hs => h.conf.name = a) (by omega) hb]⟩, by dsimp only; omega, ?_⟩
    simp -implicitDefEqProofs only [go_sem, seval]
    try simp
  ·simp -implicitDefEqProofs only [hlt, decide_false, go_sem, seval]
   with_reducible repeat' (first | apply ai | intro _ | ((first | apply s1 | apply s2 | apply s3 | apply s4) <;> intro hb <;> simp -implicitDefEqProofs only [hb, go_sem, seval] <;> try simp only [qz] at hb))
   all_goals first | rfl | omega | skip
   rw [hix, Dm (by omega)]
end
def G5 (a : Wd) : AV := .agg [.o false 7 (a.hosts.map Ah), .t (.v (.int .i64 a.now)), .t (.v (.int .i64 a.marks)), .o true 3 (a.given.map A0)]
def dR : AV → Option Wd
 | .agg [x0, .t (.v (.int .i64 x1)), .t (.v (.int .i64 x2)), x3] => GN x1 x2 (GU.owD false 7 x0) (I2.owD true 3 x3)
 | _ => none
def nW : AD Wd where
 enc := G5
 dec := dR
 ed := fun a => by
  show GN a.now a.marks (GU.owD false 7 ((GU.aow false 7).enc a.hosts)) (I2.owD true 3 ((I2.aow true 3).enc a.given)) = _
  rw [show GU.owD false 7 ((GU.aow false 7).enc a.hosts) = some a.hosts from (GU.aow false 7).ed _, show I2.owD true 3 ((I2.aow true 3).enc a.given) = some a.given from (I2.aow true 3).ed _]
  rfl
 de := fun x m h => by
  unfold dR at h
  split at h
  ·unfold GN at h
   split at h
   ·rename_i e0 e1
    cases h
    have q0 := (GU.aow false 7).de _ _ e0
    subst q0
    have q1 := (I2.aow true 3).de _ _ e1
    subst q1
    rfl
   ·cases h
  ·cases h
theorem FL (a : Wd) : nW.enc a = .agg [.o false 7 (a.hosts.map Ah), .t (.v (.int .i64 a.now)), .t (.v (.int .i64 a.marks)), .o true 3 (a.given.map A0)] := rfl
theorem FK {x0 : List (List T)} {x1 : Int} {x2 : Int} {x3 : List (List T)} : nW.dec (.agg [.o false 7 x0, .t (.v (.int .i64 x1)), .t (.v (.int .i64 x2)), .o true 3 x3]) = GN x1 x2 (GU.decL x0) (I2.decL x3) := rfl
def GZ (N : Nat) (w : Wd) : Prop := (∀ h ∈ w.hosts, Et h ∧ El N h) ∧ (1 ≤ w.hosts.length ∧ w.hosts.length ≤ 4) ∧ (0 ≤ w.now ∧ w.now ≤ 9999) ∧ (0 ≤ w.marks ∧ w.marks ≤ 60) ∧ w.given.length ≤ N ∧ ∀ l ∈ w.given, Ri l
def tq (w : Wd) (c : Cf) (ls : Bool) (r : Rc) : Prop := r.next ≤ w.now ∧ ¬ r.addr.domain ∈ c.own ∧ (ls = true ∨ BF (fun h : Hs => h.conf.name = OR c r.addr.domain) 0 w.hosts < 0)
noncomputable def Hl (h : Hs) (n : Int) (a : Ad) (out w : Int) : Hs := CR h (A5 h.spool n).toNat (Bt (A1 h.spool n) a).toNat a out w
open Classical in
noncomputable def Q2 (w : Wd) (c : Cf) (ls : Bool) (n : Int) : List Rc → Hs × Bool → Hs × Bool
 | [], x => x
 | r :: t, x => if tq w c ls r then Q2 w c ls n t (Hl x.1 n r.addr 3 w.now, true) else Q2 w c ls n t x
theorem pq {w : Wd} {c : Cf} {ls : Bool} {n : Int} {rs : List Rc} {i : Nat} {x : Hs × Bool} (h : i < rs.length) (q : tq w c ls (rs.getD i default)) : Q2 w c ls n (rs.drop i) x = Q2 w c ls n (rs.drop (i + 1)) (Hl x.1 n (rs.getD i default).addr 3 w.now, true) := by rw [AW h, Q2, if_pos q]
theorem po {w : Wd} {c : Cf} {ls : Bool} {n : Int} {rs : List Rc} {i : Nat} {x : Hs × Bool} (h : i < rs.length) (q : ¬ tq w c ls (rs.getD i default)) : Q2 w c ls n (rs.drop i) x = Q2 w c ls n (rs.drop (i + 1)) x := by rw [AW h, Q2, if_neg q]
theorem cz {w : Wd} {c : Cf} {ls : Bool} {n : Int} {rs : List Rc} {i : Nat} {x : Hs × Bool} (h : rs.length ≤ i) : Q2 w c ls n (rs.drop i) x = x := by rw [List.drop_of_length_le h]; rfl
noncomputable abbrev Ak (w : Wd) (k : Int) : Hs := w.hosts.getD k.toNat default
noncomputable abbrev Ip (h : Hs) (n : Int) : Im := h.spool.items.getD (A5 h.spool n).toNat default
noncomputable def Vo (w : Wd) (e : Ev) : Hs × Bool := Q2 w (Ak w e.host).conf e.lose e.id (Ip (Ak w e.host) e.id).to (Ak w e.host, false)
def S7 (w : Wd) (k : Int) (h : Hs) : Wd := ⟨w.hosts.set k.toNat h, w.now, w.marks, w.given⟩
open Classical in
noncomputable def Ji (w : Wd) (e : Ev) : Wd × Bool := if 0 ≤ e.host ∧ e.host ≤ (w.hosts.length : Int) - 1 then (if A5 (Ak w e.host).spool e.id < 0 then (w, false) else (S7 w e.host (Vo w e).1, (Vo w e).2)) else (w, false)
theorem jP {w : Wd} {e : Ev} (h : ¬ (0 ≤ e.host ∧ e.host ≤ (w.hosts.length : Int) - 1)) : Ji w e = (w, false) := if_neg h
theorem jQ {w : Wd} {e : Ev} (h : 0 ≤ e.host ∧ e.host ≤ (w.hosts.length : Int) - 1) (h2 : A5 (Ak w e.host).spool e.id < 0) : Ji w e = (w, false) := by unfold Ji; rw [if_pos h, if_pos h2]
theorem jR {w : Wd} {e : Ev} (h : 0 ≤ e.host ∧ e.host ≤ (w.hosts.length : Int) - 1) (h2 : ¬ A5 (Ak w e.host).spool e.id < 0) : Ji w e = (S7 w e.host (Vo w e).1, (Vo w e).2) := by unfold Ji; rw [if_pos h, if_neg h2]
theorem rN {xs : List Rc} {i j : Nat} (h : (xs.map Rc.addr).Nodup) (hi : i < j) (hj : j < xs.length) : ¬ (xs.getD i default).addr = (xs.getD j default).addr := by
 have z := List.pairwise_iff_getElem.1 h i j (by rw [lm]; omega) (by rw [lm]; omega) hi
 simpa [hj, show i < xs.length by omega] using z
def fx : Mt := HJ (lc nW (lc Oc.ag l0)) (fun p => GZ 1000000 p.1) (fun p => ([.any, Oc.ag.enc p.2.1], .tup [G5 (Ji p.1 p.2.1).1, .t (.v (.bool (Ji p.1 p.2.1).2))]))
section
attribute [local go_sem] Kk O8 Ln PA f8 O9 CE FL FK G5.eq_1 GN.eq_1 AY BN KF lm AS.opn AS.cls AS.nilb AS.renb AS.up Bool.not_false Bool.not_true List.set_set List.set_cons_zero List.set_cons_succ List.set_nil List.mem_singleton forall_eq tn List.map_nil List.nil_append
set_option maxHeartbeats 6400000 in
theorem mX {G : Gt} (hG : Aj G) (hh : G.e 71 = AA 0 Kk ∧ G.e 124 = AA 0 O8 ∧ G.e 139 = AA 0 Ln ∧ G.e 207 = AA 0 PA ∧ G.e 206 = AA 0 f8 ∧ G.e 205 = AA 1 O9) : Gd G 190 (AP fx) := by
 refine Jh (dp := fun _ => true) (fn := Tryz.f190) (n := 2) rfl hG ?_
 rintro ⟨w, e, ⟨⟩⟩ hpre
 have hw : GZ 1000000 w := hpre
 try dsimp only
 have hl := hw.2.1
 by_cases h0 : 0 ≤ e.host ∧ e.host ≤ (w.hosts.length : Int) - 1
 ·have h0' := Aq h0
  by_cases h1 : A5 (Ak w e.host).spool e.id < 0
  ·skip
   rw [jQ h0 h1]
   simp -implicitDefEqProofs only [Tryz.f190, h0', h1, eq_self, decide_true, decide_false, go_sem, hh, seval]
   with_reducible repeat' (first | apply ai | intro _ | ((first | apply s1 | apply s2 | apply s3 | apply s4) <;> intro hb <;> simp -implicitDefEqProofs only [hb, go_sem, hh, seval] <;> try simp only [qz] at hb))
   all_goals (try simp only [maxLen, tn, Ac, Ab] at *)
   all_goals first | with_reducible rfl | omega | with_reducible assumption | (show _ = true; rfl) | contradiction | decide | skip
  ·rw [jR h0 h1]
   have hH := hw.1 _ (AC (xs := w.hosts) (j := e.host.toNat) (by omega))
   have i1 : 0 ≤ BF (fun x : Im => x.id = e.id) 0 (Ak w e.host).spool.items ∧ BF (fun x : Im => x.id = e.id) 0 (Ak w e.host).spool.items < (Ak w e.host).spool.items.length := by have := CK h1; unfold A5 at this h1; omega
   have hil : (A5 (Ak w e.host).spool e.id).toNat < (Ak w e.host).spool.items.length := by have := CK h1; omega
   have hx := (hH.1.2.2.2.1 _ (AC (xs := (Ak w e.host).spool.items) (j := (A5 (Ak w e.host).spool e.id).toNat) hil)).1
   have hx4 : (Ip (Ak w e.host) e.id).to.length ≤ 4 := hx.2.2.2.2.1.2
   have hw2 := hw.2.2.1
   simp -implicitDefEqProofs only [Tryz.f190, h0', h1, eq_self, decide_true, decide_false, go_sem, hh, seval]
   with_reducible repeat' (first | apply ai | intro _ | ((first | apply s1 | apply s2 | apply s3 | apply s4) <;> intro hb <;> simp -implicitDefEqProofs only [hb, go_sem, hh, seval] <;> try simp only [qz] at hb))
   all_goals (try simp only [maxLen, tn, Ac, Ab] at *)
   all_goals first | with_reducible rfl | omega | exact i1.2 | with_reducible assumption | (show _ = true; rfl) | contradiction | skip
   refine AE [] (ι := {p : Nat × Hs × Bool // p.1 ≤ (Ip (Ak w e.host) e.id).to.length ∧ (Et p.2.1 ∧ El (1000000 + p.1) p.2.1 ∧ p.2.1.conf = (Ak w e.host).conf) ∧ (∀ j, p.1 ≤ j → j < (Ip (Ak w e.host) e.id).to.length → CW p.2.1.spool e.id ((Ip (Ak w e.host) e.id).to.getD j default).addr) ∧ Q2 w (Ak w e.host).conf e.lose e.id ((Ip (Ak w e.host) e.id).to.drop p.1) p.2 = Vo w e}) (fun p => ⟨[(2, .pb 1002 0), (3, .pb 1003 0), (4, .pb 1004 0), (6, .pb 1006 0), (8, .t (.sl 4 ((Ip (Ak w e.host) e.id).to.map BI))), (9, .t (.v (.bool p.1.2.2))), (10, .t (.v (.int .i64 p.1.1)))], [(1002, some (.box [.h 1900, .t (.v (.int .i64 w.now)), .t (.v (.int .i64 w.marks)), .h 2900])), (1003, some (.box ((Ci e).map .t))), (1004, some (.box [.nil, .t (.v (.int .i64 0)), .t (.v (.int .i64 0)), .nil])), (1006, some (.box ((Ah p.1.2.1).map .t))), (1900, some (.arr false 7 (w.hosts.map Ah))), (2900, some (.arr true 3 (w.given.map A0)))]⟩) (fun p => (Ip (Ak w e.host) e.id).to.length - p.1.1) ⟨(0, (Ak w e.host), false), Nat.zero_le _, ⟨hH.1, hH.2, rfl⟩, fun j _ hj => ?_, rfl⟩ rfl ?_ ?_
   ·have e1 := FV h1
    have z := (FO hH.1.2.2.2 (x := Ip (Ak w e.host) e.id) (AC hil) (AC hj)).1
    have e2 : (Ip (Ak w e.host) e.id).id = e.id := e1
    rw [e2] at z
    exact z
   ·simp -implicitDefEqProofs only [go_sem, hh, seval]
    first | (simp; done) | ((repeat' (first | with_reducible apply And.intro | rfl)); done)
   ·rintro ⟨⟨k, x, dn⟩, hk, ⟨hxK, hxN, hxc⟩, htd, hv⟩
    dsimp only at hk hxK hxN hxc htd hv
    have hok := Du hxK hxN (by omega)
    have hsp := hxK.2.2.2
    have hxe : (⟨(Ak w e.host).conf, x.spool, x.boxes, x.lost⟩ : Hs) = x := by rw [← hxc]
    simp -implicitDefEqProofs only [hxc, go_sem, hh, seval]
    with_reducible repeat' (first | apply ai | intro _ | ((first | apply s1 | apply s2 | apply s3 | apply s4) <;> intro hb <;> simp -implicitDefEqProofs only [hb, go_sem, hh, seval] <;> try simp only [qz] at hb))
    all_goals (try simp only [maxLen, tn, Ac, Ab] at *)
    all_goals first
     | with_reducible rfl
     | omega
     | with_reducible assumption
     | (show _ = true; rfl)
     | exact hok.2.1
     | exact (htd k (Nat.le_refl _) (by omega)).1
     | exact (htd k (Nat.le_refl _) (by omega)).2
     | exact .inr ⟨hxc ▸ hok, hw2⟩
     | (rw [cz (by omega)] at hv; rw [← hv, ← hxc]; first | done | rfl)
     | (rw [cz (by omega)] at hv; rw [← hv]; first | done | rfl)
     | (show _ = T.v _; rfl)
     | (show _ = List.map A0 _; rfl)
     | (show List.Nodup _; decide)
     | (have hkl : k < (Ip (Ak w e.host) e.id).to.length := by omega
        have ht := htd k (Nat.le_refl _) hkl
        have z := Ir (out := 3) hxK hxN ht hw2
        refine ⟨⟨(k + 1, Hl x e.id ((Ip (Ak w e.host) e.id).to.getD k default).addr 3 w.now, true), by dsimp only; omega, ⟨z.1, z.2, (Eg _ _ _ _ _ _).1.trans hxc⟩, fun j hj hj2 => (G3 hsp ht hw2).2 _ _ (htd j (by dsimp only at hj; omega) hj2) (fun y => rN hx.2.1 (by dsimp only at hj; omega) hj2 y.2), (pq hkl ⟨by first | omega | with_reducible assumption, by with_reducible assumption, by first | exact .inl (by with_reducible assumption) | exact .inr (by with_reducible assumption)⟩).symm.trans hv⟩, by dsimp only; omega, ?_⟩
        simp -implicitDefEqProofs only [go_sem, hh, seval]
        first | (simp only [hxe, Hl]; simp; done) | skip)
     | (have hkl : k < (Ip (Ak w e.host) e.id).to.length := by omega
        refine ⟨⟨(k + 1, x, dn), by dsimp only; omega, ⟨hxK, Bw hxN (by omega), hxc⟩, fun j hj hj2 => htd j (by dsimp only at hj; omega) hj2, (po hkl (fun q => by first | exact absurd q.1 (by with_reducible assumption) | (have := q.1; omega) | exact q.2.1 (by with_reducible assumption) | (rcases q.2.2 with y | y <;> first | (simp_all; done) | omega))).symm.trans hv⟩, by dsimp only; omega, ?_⟩
        simp -implicitDefEqProofs only [go_sem, hh, seval]
        first | (simp; done) | (simp [hxe, hxc]; done) | skip)
     | skip
 ·have h0' := AQ h0
  rw [jP h0]
  simp -implicitDefEqProofs only [Tryz.f190, h0', eq_self, decide_true, decide_false, go_sem, hh, seval]
  with_reducible repeat' (first | apply ai | intro _ | ((first | apply s1 | apply s2 | apply s3 | apply s4) <;> intro hb <;> simp -implicitDefEqProofs only [hb, go_sem, hh, seval] <;> try simp only [qz] at hb))
  all_goals (try simp only [maxLen, tn, Ac, Ab] at *)
  all_goals first | with_reducible rfl | omega | with_reducible assumption | (show _ = true; rfl) | contradiction | decide | skip
end
instance sb (c : Cf) : Decidable (KZ c) := by unfold KZ; infer_instance
theorem Qq (k : Int) : (∀ c ∈ Ed k, KZ c) ∧ ((Ed k).map Cf.name).Nodup := by
 unfold Ed
 split
 ·exact ⟨by decide +kernel, by decide +kernel⟩
 ·split
  ·exact ⟨by decide +kernel, by decide +kernel⟩
  ·split
   ·exact ⟨by decide +kernel, by decide +kernel⟩
   ·exact ⟨by decide +kernel, by decide +kernel⟩
theorem RN {c : Cf} (h : KZ c) : Et (F4 c) ∧ El 0 (F4 c) := ⟨⟨fun _ q => (by cases q), List.Pairwise.nil, h, Tk⟩, Nat.le_refl _, fun _ q => (by cases q), Nat.le_refl _, fun _ q => by cases q⟩
theorem ZD (k : Int) : II (Em (Ed k)) := by
 obtain ⟨h1, h2⟩ := Qq k
 obtain ⟨_, h3, h4⟩ := Lq k
 have hl : (Em (Ed k)).hosts.length = (Ed k).length := lm _
 refine ⟨fun h hh => ?_, ?_, fun _ q => (by cases q), ⟨by omega, by omega⟩, ⟨Int.le_refl _, by show (0 : Int) ≤ 9999; decide⟩, ⟨Int.le_refl _, by show (0 : Int) ≤ 60; decide⟩⟩
 ·obtain ⟨c, hc, rfl⟩ := List.mem_map.1 hh
  exact ES.2 (RN (h1 c hc)).1
 ·show (((Ed k).map F4).map LG).Nodup
  rw [List.map_map]
  exact h2
def Oi (s : Ss) : Prop := (∀ a ∈ s.mail.to, BK a) ∧ s.mail.to.Nodup ∧ (BK s.mail.frm ∨ AU s.mail.frm) ∧ s.mail.to.length ≤ 4 ∧ (s.state = 3 ∨ s.state = 4 → 1 ≤ s.mail.to.length)
theorem Kz {s : Ss} (h : ¬ (s.state = 3 ∨ s.state = 4)) : Oi (E4 s) := ⟨fun _ q => (by cases q), List.nodup_nil, .inr ⟨rfl, rfl⟩, Nat.zero_le _, fun q => absurd q h⟩
theorem jJ {s : Ss} (t : ByteArray) (h : Oi s) : Oi (EJ s t).1 := by
 unfold EJ
 split
 ·split
  ·rename_i q
   refine ⟨fun _ z => (by cases z), List.nodup_nil, (Io q).1, Nat.zero_le _, fun z => absurd (show (2 : Int) = 3 ∨ (2 : Int) = 4 from z) (by decide)⟩
  ·exact h
 ·exact h
theorem sF {s : Ss} (c : Cf) (t : ByteArray) (h : Oi s) : Oi (HB c s t).1 := by
 unfold HB
 split
 ·split
  ·rename_i q
   split
   ·exact h
   ·rename_i q2
    split
    ·split
     ·exact h
     ·rename_i q3
      split
      ·exact h
      ·rename_i q4
       refine ⟨fun a ha => ?_, ?_, h.2.2.1, ?_, fun _ => ?_⟩
       ·rcases List.mem_append.1 ha with ha | ha
        ·exact h.1 a ha
        ·rw [List.mem_singleton] at ha; subst ha; exact (Io q).1.resolve_right q2
       ·show (s.mail.to ++ [BA t]).Nodup
        rw [List.nodup_append]
        exact ⟨h.2.1, by simp, fun a ha b hb e => by rw [List.mem_singleton] at hb; subst hb; subst e; exact q3 ha⟩
       ·show (s.mail.to ++ [BA t]).length ≤ 4
        rw [List.length_append]; show s.mail.to.length + 1 ≤ 4; omega
       ·show 1 ≤ (s.mail.to ++ [BA t]).length
        rw [List.length_append]; show 1 ≤ s.mail.to.length + 1; omega
    ·exact h
  ·exact h
 ·exact h
theorem iL {s : Ss} (c : Cf) (l : ByteArray) (h : Oi s) : Oi (BP c s l).1 := by
 unfold BP
 repeat' split
 all_goals first
  | exact h
  | exact jJ _ h
  | exact sF _ _ h
  | exact Kz (by show ¬ ((1 : Int) = 3 ∨ (1 : Int) = 4); decide)
  | exact Kz (by show ¬ ((5 : Int) = 3 ∨ (5 : Int) = 4); decide)
  | exact Kz (by omega)
  | (rename_i q; exact ⟨h.1, h.2.1, h.2.2.1, h.2.2.2.1, fun _ => h.2.2.2.2 (.inl q)⟩)
theorem ig {s : Ss} {l : ByteArray} (h : Oi s) : Oi (Af s l).1.1 ∧ ((Af s l).1.2 = ⟨#[]⟩ ∨ (Af s l).1.1.state = 1) ∧ ((Af s l).2 = true → CU (Af s l).1.1.mail.body ∧ (Af s l).1.1.mail.to = s.mail.to) := by
 have one : ∀ b : Bool, Oi ⟨1, s.mail, b, s.buf⟩ := fun b => ⟨h.1, h.2.1, h.2.2.1, h.2.2.2.1, fun q => absurd (show (1 : Int) = 3 ∨ (1 : Int) = 4 from q) (by decide)⟩
 unfold Af
 repeat' split
 all_goals first
  | (refine ⟨one _, .inr rfl, fun _ => ⟨?_, rfl⟩⟩; assumption)
  | exact ⟨one _, .inr rfl, fun q => absurd q Bool.false_ne_true⟩
  | exact ⟨h, .inl rfl, fun q => absurd q Bool.false_ne_true⟩
theorem kq {s : Ss} {l : ByteArray} (c : Cf) (h : Oi s) : Oi (Bc c s l).1.1 ∧ ∀ m ∈ (Bc c s l).2, Cr m := by
 obtain ⟨q1, q2, q3⟩ := ig (l := l) h
 have q := iL c l h
 have e1 : ¬ (Af s l).1.2 = ⟨#[]⟩ → ¬ ((Af s l).1.1.state = 3 ∨ (Af s l).1.1.state = 4) := fun n => by have := q2.resolve_left n; omega
 unfold Bc
 split
 ·exact ⟨h, fun _ z => by cases z⟩
 ·split
  ·rename_i h4
   split
   ·exact ⟨q1, fun _ z => by cases z⟩
   ·rename_i hn
    split
    ·rename_i ht
     refine ⟨Kz (e1 hn), fun m hm => ?_⟩
     rw [List.mem_singleton] at hm; subst hm
     obtain ⟨b1, b2⟩ := q3 ht
     exact ⟨q1.1, q1.2.1, q1.2.2.1, ⟨by rw [b2]; exact h.2.2.2.2 (.inr h4), q1.2.2.2.1⟩, b1⟩
    ·exact ⟨Kz (e1 hn), fun _ z => by cases z⟩
  ·exact ⟨q, fun _ z => by cases z⟩
def d7 (x : FM) : Prop := Oi x.1 ∧ ∀ m ∈ x.2.2, Cr m
theorem ph {c : Cf} {x : FM} {l : ByteArray} (h : d7 x) : d7 (Zs c x l) := by
 obtain ⟨q1, q2⟩ := kq (l := l) c h.1
 exact ⟨q1, fun m hm => (List.mem_append.1 hm).elim (h.2 m) (q2 m)⟩
theorem ct {x : FM} (h : d7 x) : d7 (XY x) := ⟨Kz (by show ¬ ((5 : Int) = 3 ∨ (5 : Int) = 4); decide), h.2⟩
theorem cr {c : Cf} : ∀ (L : List ByteArray) {x : FM}, d7 x → d7 (L5 c L x).1
 | [], x, h => h
 | l :: r, x, h => by
   rw [L5]
   split
   ·exact h
   ·split
    ·exact ct h
    ·exact cr r (ph h)
theorem Zt {c : Cf} {s : Ss} {t : ByteArray} (h : Oi s) : d7 (Bg c s t) := by
 have q := cr (c := c) (Mn (s.buf ++ t)) (x := (⟨s.state, s.mail, s.bad, ⟨#[]⟩⟩, [], [])) ⟨h, fun _ z => by cases z⟩
 unfold Bg Vc
 split
 ·exact q
 ·split
  ·exact q
  ·split
   ·exact ct q
   ·exact q
def sx (x : M5) : Prop := Oi x.2.1 ∧ ∀ m ∈ x.2.2.1, Cr m
theorem rx {h : Cf} {x : M5} (q : sx x) : sx (Xc h x) := by
 have f := Zt (c := h) (t := XJ (LU x)) q.1
 exact ⟨f.1, fun m hm => (List.mem_append.1 hm).elim (q.2 m) (f.2 m)⟩
theorem dX (h : Cf) (cut : Int) : ∀ (k n : Nat) (x : M5), sx x → ∀ m ∈ (KX h cut k n x).2, Cr m
 | 0, n, x, q => q.2
 | k + 1, n, x, q => by
   rw [KX]
   split
   ·split
    ·exact q.2
    ·split
     ·exact q.2
     ·exact dX h cut k (n + 1) _ (rx q)
   ·exact q.2
theorem Ix (h : Cf) (nm : ByteArray) (m : Ml) (cut : Int) : ∀ y ∈ (EP h nm m cut).2, Cr y :=
 dX h cut cut.toNat 0 (TJ h nm m) ⟨⟨fun _ z => (by cases z), List.nodup_nil, .inr ⟨rfl, rfl⟩, Nat.zero_le _, fun z => absurd (show (0 : Int) = 3 ∨ (0 : Int) = 4 from z) (by decide)⟩, fun _ z => by cases z⟩
theorem TI {h : Cf} {nm : ByteArray} {m : Ml} {cut : Int} (hn : nm.size ≤ 1000) (hm : Mk m) : ∀ y ∈ (EP h nm m cut).2, br y :=
 (KP h cut cut.toNat 0 (TJ h nm m) (KO h hn hm)).2.2
theorem RO (c : Cl) : (DI c).1.mail = c.mail := by unfold DI; (repeat' split) <;> rfl
theorem Zq (c : Cl) (k : Int) : (C5 c k).1.mail = c.mail := by unfold C5; (repeat' split) <;> rfl
theorem bd (c : Cl) (k : Int) : (Es c k).1.mail = c.mail := by
 unfold Es
 repeat' split
 all_goals exact RO _
theorem RW (c : Cl) (a : ByteArray) : (Ax c a).1.mail = c.mail := by
 unfold Ax
 repeat' split
 all_goals first | rfl | exact bd _ _ | exact Zq _ _ | exact RO _
theorem XL (h : Cf) (cut : Int) : ∀ (k n : Nat) (x : M5), (KX h cut k n x).1.mail = x.1.mail
 | 0, n, x => rfl
 | k + 1, n, x => by
   rw [KX]
   split
   ·split
    ·rfl
    ·split
     ·exact RW _ _
     ·rw [XL h cut k (n + 1) (Xc h x)]; exact RW _ _
   ·rfl
theorem KN {h : Cf} {nm : ByteArray} {m : Ml} {cut : Int} (hn : nm.size ≤ 1000) (hm : Mk m) : (EP h nm m cut).1.length = m.to.length := by
 have q := (KP h cut cut.toNat 0 (TJ h nm m) (KO h hn hm)).1.1
 rw [XL] at q
 show (List.map _ _).length = _
 rw [lm]
 exact q
theorem Yk {a : Ad} (h : BK a ∨ AU a) : a.user.size ≤ 1000 ∧ a.domain.size ≤ 1000 := by
 rcases h with h | h
 ·have h1 := (Ia h.1).2
  have h2 := (Co h.2).2
  exact ⟨by omega, by omega⟩
 ·obtain ⟨u, d⟩ := a
  obtain ⟨h1, h2⟩ := h
  dsimp only at h1 h2
  subst h1; subst h2
  exact ⟨Nat.zero_le _, Nat.zero_le _⟩
theorem eB {m : Ml} (h : Cr m) : Mk m := ⟨by have := h.2.2.2.1.2; omega, by have := h.2.2.2.2.2; omega, Yk h.2.2.1, fun a ha => Yk (.inl (h.1 a ha)), fun l hl => by have := (h.2.2.2.2.1 l hl).2; omega⟩
theorem Tj {m : Ml} {s : ByteArray} (h : Cr m) (hs : s.size ≤ 1000) : Mk ⟨m.frm, m.to, s :: m.body⟩ := by
 have q := eB h
 refine ⟨q.1, ?_, q.2.2.1, q.2.2.2.1, fun l hl => ?_⟩
 ·have := h.2.2.2.2.2
  show (s :: m.body).length ≤ 100
  rw [List.length_cons]; omega
 ·rcases List.mem_cons.1 hl with rfl | hl
  ·exact hs
  ·exact q.2.2.2.2 l hl
theorem kF {c : Cf} {x : Im} {to : ByteArray} {w : Int} (h : DM x) : Mk (N9 c x to w) := by
 have hl := FF c to w x.to
 refine ⟨?_, by have := h.2.2.2.2.2.2; show x.body.length ≤ 100; omega, Yk h.2.2.2.1, fun a ha => ?_, fun l hl => by have := (h.2.2.2.2.2.1 l hl).2; omega⟩
 ·have := h.2.2.2.2.1.2
  show (A4 c to w x.to).length ≤ 1000
  omega
 ·obtain ⟨r, hr, e, _⟩ := EN c to w x.to a ha
  rw [← e]
  exact Yk (.inl (h.1 r hr).1)
theorem A7 {N M : Nat} {w : Wd} (q : GZ N w) (l : N ≤ M) : GZ M w := ⟨fun h hh => ⟨(q.1 h hh).1, Bw (q.1 h hh).2 l⟩, q.2.1, q.2.2.1, q.2.2.2.1, Nat.le_trans q.2.2.2.2.1 l, q.2.2.2.2.2⟩
theorem Ma {N : Nat} {w : Wd} {k : Int} {h : Hs} (q : GZ N w) (hk : Et h) (hn : El N h) : GZ N (S7 w k h) := by
 have e : (w.hosts.set k.toNat h).length = w.hosts.length := List.length_set
 refine ⟨fun x hx => ?_, ⟨by show 1 ≤ (w.hosts.set k.toNat h).length; rw [e]; exact q.2.1.1, by show (w.hosts.set k.toNat h).length ≤ 4; rw [e]; exact q.2.1.2⟩, q.2.2.1, q.2.2.2.1, q.2.2.2.2⟩
 rcases List.mem_or_eq_of_mem_set hx with hx | rfl
 ·exact q.1 x hx
 ·exact ⟨hk, hn⟩
theorem Vn {w : Wd} {c : Cf} {ls : Bool} {n : Int} (hw : 0 ≤ w.now ∧ w.now ≤ 9999) : ∀ (rs : List Rc) {x : Hs × Bool} {N : Nat}, Et x.1 → El N x.1 → (rs.map Rc.addr).Nodup → (∀ r ∈ rs, CW x.1.spool n r.addr) → Et (Q2 w c ls n rs x).1 ∧ El (N + rs.length) (Q2 w c ls n rs x).1
 | [], x, N, q, hn, _, _ => ⟨q, hn⟩
 | r :: t, x, N, q, hn, hd, ht => by
   rw [List.map_cons, List.nodup_cons] at hd
   have ht0 := ht r (List.mem_cons_self ..)
   have e : N + (r :: t).length = N + 1 + t.length := by rw [List.length_cons]; omega
   rw [Q2, e]
   split
   ·have z := Ir (out := 3) q hn ht0 hw
    exact Vn hw t z.1 z.2 hd.2 fun y hy => (G3 q.2.2.2 ht0 hw).2 _ _ (ht y (List.mem_cons_of_mem _ hy)) fun z => hd.1 (by rw [z.2]; exact List.mem_map_of_mem hy)
   ·exact Vn hw t q (Bw hn (Nat.le_succ _)) hd.2 fun y hy => ht y (List.mem_cons_of_mem _ hy)
theorem jS {N : Nat} {w : Wd} {e : Ev} (q : GZ N w) : GZ (N + 4) (Ji w e).1 := by
 unfold Ji
 split
 ·rename_i h0
  split
  ·exact A7 q (Nat.le_add_right _ _)
  ·rename_i h1
   have hl := q.2.1
   have hH := q.1 _ (AC (xs := w.hosts) (j := e.host.toNat) (by omega))
   have hil : (A5 (Ak w e.host).spool e.id).toNat < (Ak w e.host).spool.items.length := by have := CK h1; omega
   have hx := (hH.1.2.2.2.1 _ (AC (xs := (Ak w e.host).spool.items) (j := (A5 (Ak w e.host).spool e.id).toNat) hil)).1
   have z := Vn (w := w) (c := (Ak w e.host).conf) (ls := e.lose) (n := e.id) q.2.2.1 (Ip (Ak w e.host) e.id).to (x := (Ak w e.host, false)) hH.1 hH.2 hx.2.1 fun r hr => by
    have y := (FO hH.1.2.2.2 (x := Ip (Ak w e.host) e.id) (AC hil) hr).1
    have e2 : (Ip (Ak w e.host) e.id).id = e.id := FV h1
    rw [e2] at y
    exact y
   exact Ma (A7 q (Nat.le_add_right _ _)) z.1 (Bw z.2 (by have := hx.2.2.2.2.1.2; show N + (Ip (Ak w e.host) e.id).to.length ≤ N + 4; have h4 : (Ip (Ak w e.host) e.id).to.length ≤ 4 := this; omega))
 ·exact A7 q (Nat.le_add_right _ _)
def YI (e : Ev) : Prop := Kc e.mail ∧ 0 ≤ e.cut ∧ e.cut ≤ 1000
def Jw (mk : ByteArray) (ds : List Ad) : List Ls := ds.map fun a => ⟨mk, a⟩
noncomputable def Xb (w : Wd) (k : Int) (mk : ByteArray) (y : Ml) : Wd := ⟨w.hosts.set k.toNat (OQ (Ak w k) y w.now), w.now, w.marks, w.given ++ Jw mk y.to⟩
open Classical in
noncomputable def TD (k : Int) (mk : ByteArray) : List Ml → Wd → Wd
 | [], w => w
 | y :: t, w => if y.body.length < 12 ∧ B4 (Ak w k).spool then TD k mk t (Xb w k mk y) else TD k mk t w
theorem rn {k : Int} {mk : ByteArray} {ys : List Ml} {i : Nat} {w : Wd} (h : i < ys.length) (q : (ys.getD i default).body.length < 12 ∧ B4 (Ak w k).spool) : TD k mk (ys.drop i) w = TD k mk (ys.drop (i + 1)) (Xb w k mk (ys.getD i default)) := by rw [AW h, TD, if_pos q]
theorem rm {k : Int} {mk : ByteArray} {ys : List Ml} {i : Nat} {w : Wd} (h : i < ys.length) (q : ¬ ((ys.getD i default).body.length < 12 ∧ B4 (Ak w k).spool)) : TD k mk (ys.drop i) w = TD k mk (ys.drop (i + 1)) w := by rw [AW h, TD, if_neg q]
theorem rl {k : Int} {mk : ByteArray} {ys : List Ml} {i : Nat} {w : Wd} (h : ys.length ≤ i) : TD k mk (ys.drop i) w = w := by rw [List.drop_of_length_le h]; rfl
def c9 (n : Int) : ByteArray := ⟨#[73, 100, 58, 32]⟩ ++ Lv n
theorem dA (n : Int) : (c9 n).size ≤ 6 := by
 unfold c9
 rw [ByteArray.size_append]
 have := (HZ n).2
 show 4 + _ ≤ 6
 omega
def OX (w : Wd) (e : Ev) : Ml := ⟨e.mail.frm, e.mail.to, c9 (w.marks + 1) :: e.mail.body⟩
def rp (w : Wd) (e : Ev) : Prop := (0 ≤ e.host ∧ e.host ≤ (w.hosts.length : Int) - 1) ∧ Cr e.mail ∧ ¬ w.marks ≥ 60 ∧ ¬ (e.mail.body.length : Int) ≥ 10 ∧ Bb e.mail.body = ⟨#[]⟩ ∧ B4 (Ak w e.host).spool
noncomputable abbrev Iu (w : Wd) (e : Ev) : List Ml := (EP (Ak w e.host).conf ⟨#[99, 108, 105, 101, 110, 116]⟩ (OX w e) e.cut).2
noncomputable def uH (w : Wd) (e : Ev) : Wd := TD e.host (Bb (OX w e).body) (Iu w e) ⟨w.hosts, w.now, w.marks + 1, w.given⟩
open Classical in
noncomputable def TE (w : Wd) (e : Ev) : Wd × Bool := if rp w e then (uH w e, true) else (w, false)
theorem dP {w : Wd} {e : Ev} (q : rp w e) : TE w e = (uH w e, true) := if_pos q
theorem KD {w : Wd} {e : Ev} (q : ¬ rp w e) : TE w e = (w, false) := if_neg q
def YR (N : Nat) (k : Int) (w : Wd) : Prop := ((∀ h ∈ w.hosts, Et h ∧ El N h) ∧ (1 ≤ w.hosts.length ∧ w.hosts.length ≤ 4) ∧ (0 ≤ w.now ∧ w.now ≤ 9999) ∧ (0 ≤ w.marks ∧ w.marks ≤ 60)) ∧ (0 ≤ k ∧ k ≤ (w.hosts.length : Int) - 1) ∧ w.given.length ≤ N + 4 * (Ak w k).spool.items.length ∧ ∀ l ∈ w.given, Ri l
theorem Ky {N : Nat} {k : Int} {w : Wd} (q : YR N k w) : Et (Ak w k) ∧ El N (Ak w k) := q.1.1 _ (AC (xs := w.hosts) (j := k.toNat) (by have := q.2.1; omega))
theorem bw {N : Nat} {k : Int} {w : Wd} (q : YR N k w) : w.given.length ≤ N + 40 := by
 have h := (Ky q).1.2.2.2.2.2.2
 have := q.2.2.1
 omega
theorem oE {N : Nat} {k : Int} {w : Wd} (q : YR N k w) : GZ (N + 40) w := ⟨fun h hh => ⟨(q.1.1 h hh).1, Bw (q.1.1 h hh).2 (Nat.le_add_right _ _)⟩, q.1.2.1, q.1.2.2.1, q.1.2.2.2, bw q, q.2.2.2⟩
theorem aL {mk : ByteArray} (hm : BY mk) {ds : List Ad} (ha : ∀ a ∈ ds, BK a) : ∀ l ∈ Jw mk ds, Ri l := fun l hl => by
 obtain ⟨a, h, rfl⟩ := List.mem_map.1 hl
 exact ⟨hm, CJ (.inl (ha a h))⟩
theorem kr {w : Wd} {k : Int} {mk : ByteArray} {y : Ml} (h : 0 ≤ k ∧ k ≤ (w.hosts.length : Int) - 1) : Ak (Xb w k mk y) k = OQ (Ak w k) y w.now := by
 have e : k.toNat < w.hosts.length := by omega
 show (w.hosts.set k.toNat _).getD k.toNat default = _
 simp [e]
theorem dY {N : Nat} {k : Int} {w : Wd} {mk : ByteArray} {y : Ml} (q : YR N k w) (hm : BY mk) (hy : Cr y) (hl : y.body.length < 12) (hr : B4 (Ak w k).spool) : YR N k (Xb w k mk y) := by
 have z := XM (Ky q).1 (Ky q).2 hy hl q.1.2.2.1 hr
 have e : (w.hosts.set k.toNat (OQ (Ak w k) y w.now)).length = w.hosts.length := List.length_set
 refine ⟨⟨fun x hx => ?_, ?_, q.1.2.2.1, q.1.2.2.2⟩, ?_, ?_, fun l hl => ?_⟩
 ·rcases List.mem_or_eq_of_mem_set hx with hx | rfl
  ·exact q.1.1 x hx
  ·exact z
 ·show 1 ≤ (w.hosts.set k.toNat _).length ∧ (w.hosts.set k.toNat _).length ≤ 4
  rw [e]; exact q.1.2.1
 ·show 0 ≤ k ∧ k ≤ ((w.hosts.set k.toNat _).length : Int) - 1
  rw [e]; exact q.2.1
 ·rw [kr q.2.1]
  show (w.given ++ Jw mk y.to).length ≤ N + 4 * ((Ak w k).spool.items ++ [_]).length
  have h1 := q.2.2.1
  have h2 := hy.2.2.2.1.2
  have h3 : (Jw mk y.to).length = y.to.length := lm _
  rw [List.length_append, List.length_append, h3]
  show _ ≤ N + 4 * (_ + 1)
  omega
 ·rcases List.mem_append.1 hl with hl | hl
  ·exact q.2.2.2 l hl
  ·exact aL hm hy.1 l hl
theorem XA {N : Nat} {k : Int} {mk : ByteArray} (hm : BY mk) : ∀ (ys : List Ml) {w : Wd}, YR N k w → (∀ y ∈ ys, Cr y) → YR N k (TD k mk ys w)
 | [], w, q, _ => q
 | y :: t, w, q, h => by
   rw [TD]
   split
   ·rename_i hc
    exact XA hm t (dY q hm (h y (List.mem_cons_self ..)) hc.1 hc.2) fun x hx => h x (List.mem_cons_of_mem _ hx)
   ·exact XA hm t q fun x hx => h x (List.mem_cons_of_mem _ hx)
theorem dQ {w : Wd} {e : Ev} (h : Cr e.mail) : BY (Bb (OX w e).body) := by
 rcases FD (OX w e).body with z | z
 ·rw [z]; show (0 : Nat) ≤ 1048576; decide
 ·rcases List.mem_cons.1 z with z | z
  ·rw [z]; have := dA (w.marks + 1); show (c9 (w.marks + 1)).size ≤ 1048576; omega
  ·exact (GT h.2.2.2.2).2 _ z
theorem rr {N : Nat} {w : Wd} {e : Ev} (q : GZ N w) (h : rp w e) : YR N e.host ⟨w.hosts, w.now, w.marks + 1, w.given⟩ := by
 obtain ⟨q1, q2, q3, q4, q5, q6⟩ := q
 have h1 := h.1
 have h2 := h.2.2.1
 exact ⟨⟨q1, q2, q3, by dsimp only; omega⟩, h1, Nat.le_trans q5 (Nat.le_add_right _ _), q6⟩
theorem rq {N : Nat} {w : Wd} {e : Ev} (q : GZ N w) : GZ (N + 40) (TE w e).1 := by
 by_cases h : rp w e
 ·rw [dP h]
  exact oE (XA (dQ h.2.1) _ (rr q h) (Ix _ _ _ _))
 ·rw [KD h]; exact A7 q (Nat.le_add_right _ _)
noncomputable def dc (now : Int) : List Ml → Hs → Hs
 | [], t => t
 | y :: r, t => dc now r (Kb t y now).1
theorem dh {now : Int} {ys : List Ml} {i : Nat} {t : Hs} (h : i < ys.length) : dc now (ys.drop i) t = dc now (ys.drop (i + 1)) (Kb t (ys.getD i default) now).1 := by rw [AW h]; rfl
theorem sG {now : Int} {ys : List Ml} {i : Nat} {t : Hs} (h : ys.length ≤ i) : dc now (ys.drop i) t = t := by rw [List.drop_of_length_le h]; rfl
noncomputable def bf (n now : Int) : List Ad → List Int → Hs → Hs
 | a :: r, o :: s, x => bf n now r s (Hl x n a o now)
 | [], _, x => x
 | _ :: _, [], x => x
theorem sI {n now : Int} {ds : List Ad} {os : List Int} {i : Nat} {x : Hs} (h1 : i < ds.length) (h2 : i < os.length) : bf n now (ds.drop i) (os.drop i) x = bf n now (ds.drop (i + 1)) (os.drop (i + 1)) (Hl x n (ds.getD i default) (os.getD i default) now) := by rw [AW h1, AW h2]; rfl
theorem sH {n now : Int} {ds : List Ad} {os : List Int} {i : Nat} {x : Hs} (h : os.length ≤ i) : bf n now (ds.drop i) (os.drop i) x = x := by
 rw [List.drop_of_length_le (l := os) h]
 cases ds.drop i <;> rfl
theorem Tg {h : Hs} {m : Ml} {w : Int} {N : Nat} (q : Et h) (n : El N h) (hm : Cr m) (hw : 0 ≤ w ∧ w ≤ 9999) : Et (Kb h m w).1 ∧ El N (Kb h m w).1 ∧ (Kb h m w).1.conf = h.conf := by
 by_cases z : m.body.length < 12 ∧ B4 h.spool
 ·rw [I4 z]
  have y := XM q n hm z.1 hw z.2
  exact ⟨y.1, y.2, rfl⟩
 ·rw [I3 z]; exact ⟨q, n, rfl⟩
theorem df {w : Int} {N : Nat} (hw : 0 ≤ w ∧ w ≤ 9999) : ∀ (ys : List Ml) {h : Hs}, Et h → El N h → (∀ y ∈ ys, Cr y) → Et (dc w ys h) ∧ El N (dc w ys h)
 | [], h, q, n, _ => ⟨q, n⟩
 | y :: t, h, q, n, hy => by
   have z := Tg q n (hy y (List.mem_cons_self ..)) hw
   exact df hw t z.1 z.2.1 fun x hx => hy x (List.mem_cons_of_mem _ hx)
theorem Wi {h : Hs} {n : Int} {a : Ad} {out w : Int} {N : Nat} (q : Et h) (hn : El N h) (t : CW h.spool n a) (hw : 0 ≤ w ∧ w ≤ 9999) : Et (Hl h n a out w) ∧ El (N + 1) (Hl h n a out w) ∧ (Hl h n a out w).conf = h.conf ∧ ∀ a', CW h.spool n a' → ¬ a = a' → CW (Hl h n a out w).spool n a' :=
 ⟨(Ir q hn t hw).1, (Ir q hn t hw).2, (Eg _ _ _ _ _ _).1, fun a' y z => (G3 q.2.2.2 t hw).2 _ _ y fun u => z u.2⟩
theorem di {n w : Int} (hw : 0 ≤ w ∧ w ≤ 9999) : ∀ (ds : List Ad) (os : List Int) {h : Hs} {N : Nat}, Et h → El N h → ds.Nodup → (∀ a ∈ ds, CW h.spool n a) → Et (bf n w ds os h) ∧ El (N + ds.length) (bf n w ds os h)
 | [], os, h, N, q, hn, _, _ => by cases os <;> exact ⟨q, hn⟩
 | a :: r, [], h, N, q, hn, _, _ => ⟨q, Bw hn (Nat.le_add_right _ _)⟩
 | a :: r, o :: s, h, N, q, hn, hd, ht => by
   rw [List.nodup_cons] at hd
   obtain ⟨z1, z2, _, z4⟩ := Wi (out := o) q hn (ht a (List.mem_cons_self ..)) hw
   have e : N + (a :: r).length = N + 1 + r.length := by rw [List.length_cons]; omega
   rw [e]
   exact di hw r s z1 z2 hd.2 fun b hb => z4 b (ht b (List.mem_cons_of_mem _ hb)) fun u => hd.1 (by rw [u]; exact hb)
theorem Hm (c : Cf) (to : ByteArray) (w : Int) : ∀ rs : List Rc, List.Sublist (A4 c to w rs) (rs.map Rc.addr)
 | [] => .slnil
 | r :: t => by
   rw [A4]
   cases BT (IG c to w r)
   ·exact .cons _ (Hm c to w t)
   ·exact .cons_cons _ (Hm c to w t)
noncomputable def IR (w : Wd) (e : Ev) : Ml := N9 (Ak w e.host).conf (Ip (Ak w e.host) e.id) (Ak w e.to).conf.name w.now
noncomputable def HK (w : Wd) (e : Ev) : List Int × List Ml := Ft (Ak w e.to) (Ak w e.host).conf.name (IR w e) e.cut
noncomputable def sh (w : Wd) (e : Ev) : Hs := dc w.now (HK w e).2 (Ak w e.to)
noncomputable def nq (w : Wd) (e : Ev) : Hs := bif e.lose then Ak w e.host else bf e.id w.now (IR w e).to (HK w e).1 (Ak w e.host)
def nt (w : Wd) (e : Ev) : Prop := (0 ≤ e.host ∧ e.host ≤ (w.hosts.length : Int) - 1) ∧ (0 ≤ e.to ∧ e.to ≤ (w.hosts.length : Int) - 1) ∧ ¬ e.host = e.to ∧ ¬ A5 (Ak w e.host).spool e.id < 0 ∧ ¬ ((IR w e).to.length : Int) = 0
noncomputable def sg (w : Wd) (e : Ev) : Wd := S7 (S7 w e.to (sh w e)) e.host (nq w e)
open Classical in
noncomputable def XQ (w : Wd) (e : Ev) : Wd × Bool := if nt w e then (sg w e, true) else (w, false)
theorem dj {w : Wd} {e : Ev} (q : nt w e) : XQ w e = (sg w e, true) := if_pos q
theorem LV {w : Wd} {e : Ev} (q : ¬ nt w e) : XQ w e = (w, false) := if_neg q
theorem XN (h : Hs) (nm : ByteArray) (m : Ml) (cut : Int) : ∀ y ∈ (Ft h nm m cut).2, Cr y := by
 unfold Ft
 split
 ·exact Ix _ _ _ _
 ·exact Ix _ _ _ _
theorem TK {h : Hs} {nm : ByteArray} {m : Ml} {cut : Int} (hn : nm.size ≤ 1000) (hm : Mk m) : (Ft h nm m cut).1.length = m.to.length := by
 unfold Ft
 split
 ·exact KN hn hm
 ·exact KN hn hm
theorem kx {h : Hs} {nm : ByteArray} {m : Ml} {cut : Int} (hn : nm.size ≤ 1000) (hm : Mk m) (hc : cut ≤ 1000) : (Ft h nm m cut).2.length ≤ 300000000 := by
 have key : ∀ c : Int, c ≤ 1000 → (EP h.conf nm m c).2.length ≤ 300000000 := fun c q => by
  have z := (KP h.conf c c.toNat 0 (TJ h.conf nm m) (KO h.conf hn hm)).2.1
  show (KX h.conf c c.toNat 0 (TJ h.conf nm m)).2.length ≤ _
  omega
 unfold Ft
 split
 ·exact key _ hc
 ·exact key _ (by decide)
theorem sK {N : Nat} {w : Wd} {h : Hs} {n : Int} (q : Et h) (h1 : ¬ A5 h.spool n < 0) : (A5 h.spool n).toNat < h.spool.items.length ∧ DM (Ip h n) ∧ ∀ r ∈ (Ip h n).to, CW h.spool n r.addr := by
 have hil : (A5 h.spool n).toNat < h.spool.items.length := by have := CK h1; omega
 refine ⟨hil, (q.2.2.2.1 _ (AC (xs := h.spool.items) (j := (A5 h.spool n).toNat) hil)).1, fun r hr => ?_⟩
 have y := (FO q.2.2.2 (x := Ip h n) (AC hil) hr).1
 have e2 : (Ip h n).id = n := FV h1
 rw [e2] at y
 exact y
theorem dl {N : Nat} {w : Wd} {e : Ev} (q : GZ N w) (h : nt w e) : Et (Ak w e.host) ∧ El N (Ak w e.host) ∧ Et (Ak w e.to) ∧ El N (Ak w e.to) ∧ DM (Ip (Ak w e.host) e.id) ∧ (IR w e).to.Nodup ∧ (IR w e).to.length ≤ 4 ∧ ∀ a ∈ (IR w e).to, CW (Ak w e.host).spool e.id a := by
 obtain ⟨h1, h2, h3, h4, h5⟩ := h
 have hl := q.2.1
 have hH := q.1 _ (AC (xs := w.hosts) (j := e.host.toNat) (by omega))
 have hT := q.1 _ (AC (xs := w.hosts) (j := e.to.toNat) (by omega))
 obtain ⟨t1, t2, t3⟩ := sK (N := N) (w := w) hH.1 h4
 refine ⟨hH.1, hH.2, hT.1, hT.2, t2, (Hm _ _ _ _).nodup t2.2.1, Nat.le_trans (FF _ _ _ _) t2.2.2.2.2.1.2, fun a ha => ?_⟩
 obtain ⟨r, hr, er, _⟩ := EN _ _ _ _ a ha
 rw [← er]; exact t3 r hr
theorem sJ {N : Nat} {w : Wd} {e : Ev} (q : GZ N w) : GZ (N + 4) (XQ w e).1 := by
 by_cases h : nt w e
 ·rw [dj h]
  obtain ⟨a1, a2, b1, b2, hi, hd, hl, ht⟩ := dl q h
  have zb := df q.2.2.1 (HK w e).2 b1 b2 (XN _ _ _ _)
  have za : Et (nq w e) ∧ El (N + 4) (nq w e) := by
   unfold nq
   cases e.lose
   ·have z := di (n := e.id) q.2.2.1 (IR w e).to (HK w e).1 a1 a2 hd ht
    exact ⟨z.1, Bw z.2 (by omega)⟩
   ·exact ⟨a1, Bw a2 (by omega)⟩
  exact Ma (Ma (A7 q (by omega)) zb.1 (Bw zb.2 (by omega))) za.1 za.2
 ·rw [LV h]; exact A7 q (Nat.le_add_right _ _)
theorem jn {mk : ByteArray} {ds : List Ad} {j : Nat} (h : j < ds.length) : (Jw mk (ds.take (j + 1))).map A0 = (Jw mk (ds.take j)).map A0 ++ [[.v (.string mk), .v (.string (ds.getD j default).user), .v (.string (ds.getD j default).domain)]] := by
 unfold Jw
 rw [List.map_map, List.map_map, LT _ h]
 rfl
theorem jm {mk : ByteArray} {ds : List Ad} : (Jw mk ds).length = ds.length := lm _
theorem qy (n : Int) : (⟨#[73, 100, 58, 32]⟩ : ByteArray) ++ Lv n = c9 n := rfl
theorem kR (w : Wd) (e : Ev) : (⟨e.mail.frm, e.mail.to, c9 (w.marks + 1) :: e.mail.body⟩ : Ml) = OX w e := rfl
def fu : Mt := HJ (lc nW (lc Oc.ag l0)) (fun p => GZ 1000000 p.1 ∧ YI p.2.1) (fun p => ([.any, Oc.ag.enc p.2.1], .tup [G5 (TE p.1 p.2.1).1, .t (.v (.bool (TE p.1 p.2.1).2))]))
section
attribute [local go_sem] Kk tY ZA JS Lo Y6 UO UP aq RA Qu qy kR CE FL FK G5.eq_1 GN.eq_1 AY BN KF lm AS.opn AS.cls AS.nilb AS.renb AS.up Bool.not_false Bool.not_true List.set_set List.set_cons_zero List.set_cons_succ List.set_nil List.mem_singleton forall_eq tn List.map_nil List.nil_append
set_option maxHeartbeats 6400000 in
theorem mV {G : Gt} (hG : Aj G) (hh : G.e 71 = AA 0 Kk ∧ G.e 73 = AA 0 tY ∧ G.e 95 = AA 0 ZA ∧ G.e 110 = AA 0 JS ∧ G.e 199 = AA 0 Lo ∧ G.e 200 = AA 0 Y6 ∧ G.e 201 = AA 1 UO ∧ G.e 202 = AA 1 UP) : Gd G 188 (AP fu) := by
 refine Jh (dp := fun n => !(Nat.beq n 100006 || Nat.beq n 100007 || Nat.beq n 100015)) (fn := Tryz.f188) (n := 2) rfl hG ?_
 rintro ⟨w, e, ⟨⟩⟩ hpre
 obtain ⟨hw, hE, hc0, hc1⟩ := hpre
 try dsimp only at hw hE hc0 hc1 ⊢
 have hl := hw.2.1
 have hmk0 := hw.2.2.2.1
 have hgl := hw.2.2.2.2.1
 have hml1 := hE.2.1.1
 have hml2 := hE.2.2.1
 refine BE (0 ≤ e.host ∧ e.host ≤ (w.hosts.length : Int) - 1) (fun h0 => have h0' := Aq h0; BE (Cr e.mail) (fun h1 => have h1' := Aq h1; BE (w.marks ≥ 60) (fun h2 => have e_ : TE w e = _ := KD (fun q => q.2.2.1 h2); have h3 := trivial; have h4 := trivial; have h5' := trivial; ?_) (fun h2 => BE ((e.mail.body.length : Int) ≥ 10) (fun h3 => have e_ : TE w e = _ := KD (fun q => q.2.2.2.1 h3); have h4 := trivial; have h5' := trivial; ?_) (fun h3 => BE (Bb e.mail.body = ⟨#[]⟩) (fun h4 => BE (B4 (Ak w e.host).spool) (fun h5 => have h5' := Aq h5; ?w1) (fun h5 => have h5' := AQ h5; have e_ : TE w e = _ := KD (fun q => h5 q.2.2.2.2.2); ?_)) (fun h4 => have e_ : TE w e = _ := KD (fun q => h4 q.2.2.2.2.1); have h5' := trivial; ?_)))) (fun h1 => have h1' := AQ h1; have e_ : TE w e = _ := KD (fun q => h1 q.2.1); have h2 := trivial; have h3 := trivial; have h4 := trivial; have h5' := trivial; ?_)) (fun h0 => have h0' := AQ h0; have e_ : TE w e = _ := KD (fun q => h0 q.1); have h1' := trivial; have h2 := trivial; have h3 := trivial; have h4 := trivial; have h5' := trivial; ?_)
 case w1 =>
  rw [dP ⟨h0, h1, h2, h3, h4, h5⟩]
  have hS0 := rr hw ⟨h0, h1, h2, h3, h4, h5⟩
  have hK := hw.1 _ (AC (xs := w.hosts) (j := e.host.toNat) (by omega))
  have LG := (Co hK.1.2.2.1.2.2.1).2
  have hmk := dQ (w := w) h1
  have hds := HZ (w.marks + 1)
  have e4 : (#[73, 100, 58, 32] : Array UInt8).size = 4 := rfl
  have hC : Mk (OX w e) := Tj h1 (by have := dA (w.marks + 1); omega)
  have hb12 := h1.2.2.2.2.2
  have hv1 : ∀ y ∈ Iu w e, Cr y := Ix _ _ _ _
  have hv2 : ∀ y ∈ Iu w e, br y := TI (nm := ⟨#[99, 108, 105, 101, 110, 116]⟩) (by show (6 : Nat) ≤ 1000; decide) hC
  have hvn : (Iu w e).length ≤ 300000000 := by
   have z := (KP (Ak w e.host).conf e.cut e.cut.toNat 0 (TJ (Ak w e.host).conf ⟨#[99, 108, 105, 101, 110, 116]⟩ (OX w e)) (KO (Ak w e.host).conf (nm := ⟨#[99, 108, 105, 101, 110, 116]⟩) (by show (6 : Nat) ≤ 1000; decide) hC)).2.1
   show (KX (Ak w e.host).conf e.cut e.cut.toNat 0 (TJ (Ak w e.host).conf ⟨#[99, 108, 105, 101, 110, 116]⟩ (OX w e))).2.length ≤ _
   omega
  simp -implicitDefEqProofs only [Tryz.f188, h0', h1', h2, h3, h4, h5', eq_self, decide_true, decide_false, go_sem, hh, seval]
  with_reducible repeat' (first | apply ai | intro _ | ((first | apply s1 | apply s2 | apply s3 | apply s4) <;> intro hb <;> simp -implicitDefEqProofs only [hb, go_sem, hh, seval] <;> try simp only [qz] at hb))
  all_goals (try simp only [maxLen, tn, Ac, Ab, lm, List.length_cons] at *)
  all_goals first | with_reducible rfl | omega | with_reducible assumption | (show _ = true; rfl) | contradiction | decide | exact hC | (show (_ : Nat) ≤ _; decide) | skip
  skip
  refine Ai (Le.frzL [1064, 1072]) (Ae ?_)
  simp -implicitDefEqProofs only [go_sem, hh, seval]
  with_reducible repeat' (first | apply ai | intro _ | ((first | apply s1 | apply s2 | apply s3 | apply s4) <;> intro hb <;> simp -implicitDefEqProofs only [hb, go_sem, hh, seval] <;> try simp only [qz] at hb))
  all_goals (try simp only [maxLen, tn, Ac, Ab, lm, List.length_cons] at *)
  all_goals first | with_reducible rfl | omega | with_reducible assumption | (show _ = true; rfl) | contradiction | decide | exact hC | (show (_ : Nat) ≤ _; decide) | skip
  refine Ai (Le.renb 1002 3 2900 1901 rfl rfl rfl rfl) (Ae ?_)
  simp -implicitDefEqProofs only [go_sem, hh, seval]
  with_reducible repeat' (first | apply ai | intro _ | ((first | apply s1 | apply s2 | apply s3 | apply s4) <;> intro hb <;> simp -implicitDefEqProofs only [hb, go_sem, hh, seval] <;> try simp only [qz] at hb))
  all_goals first | with_reducible rfl | omega | with_reducible assumption | (show _ = true; rfl) | contradiction | decide | skip
  refine AE [] (ι := {p : Nat × Wd // p.1 ≤ (Iu w e).length ∧ YR 1000000 e.host p.2 ∧ TD e.host (Bb (OX w e).body) ((Iu w e).drop p.1) p.2 = uH w e}) (fun p => ⟨[(2, .pb 1002 0), (3, .pb 1003 0), (4, .pb 1004 0), (6, .pb 1006 0), (8, .t (.sl 4 ((Iu w e).map Cy))), (9, .t (.v (.int .i64 p.1.1)))], [(1002, some (.box [.h 1900, .t (.v (.int .i64 p.1.2.now)), .t (.v (.int .i64 p.1.2.marks)), .h 1901])), (1003, some (.box ((Ci e).map .t))), (1004, some (.box [.nil, .t (.v (.int .i64 0)), .t (.v (.int .i64 0)), .nil])), (1006, some (.box [.t (.v (.string e.mail.frm.user)), .t (.v (.string e.mail.frm.domain)), .t (.sl 2 (e.mail.to.map Aw)), .t (.sl 1 ((c9 (w.marks + 1) :: e.mail.body).map AH))])), (1900, some (.arr false 7 (p.1.2.hosts.map Ah))), (1901, some (.arr true 3 (p.1.2.given.map A0)))]⟩) (fun p => (Iu w e).length - p.1.1) ⟨(0, ⟨w.hosts, w.now, w.marks + 1, w.given⟩), Nat.zero_le _, hS0, rfl⟩ rfl ?_ ?_
  ·simp -implicitDefEqProofs only [go_sem, hh, seval]
   first | (simp; done) | skip
  ·rintro ⟨⟨i, x⟩, hi, hx, hv⟩
   dsimp only at hi hx hv
   have hxK := (Ky hx).1
   have hxo := Du (Ky hx).1 (Ky hx).2 (by decide)
   have hxn := (Co hxK.2.2.1.2.2.1).2
   have hxn6 : (Ak x e.host).conf.name.size ≤ 1000000 := by omega
   have hxw := hx.1.2.2.1
   have hxg := bw hx
   have hxl := hx.2.1
   by_cases hlt : (i : Int) < (Iu w e).length
   ·have hym := AC (xs := Iu w e) (j := i) (by omega)
    have hy := hv1 _ hym
    have hyo := (hv2 _ hym).1
    have hyl := hy.2.2.2.1.2
    by_cases q : ((Iu w e).getD i default).body.length < 12 ∧ B4 (Ak x e.host).spool
    ·simp -implicitDefEqProofs only [hlt, I4 q, eq_self, decide_true, decide_false, go_sem, hh, seval]
     with_reducible repeat' (first | apply ai | intro _ | ((first | apply s1 | apply s2 | apply s3 | apply s4) <;> intro hb <;> simp -implicitDefEqProofs only [hb, go_sem, hh, seval] <;> try simp only [qz] at hb))
     all_goals (try simp only [maxLen, tn, Ac, Ab, lm] at *)
     all_goals first | with_reducible rfl | omega | with_reducible assumption | (show _ = true; rfl) | contradiction | decide | exact hxK.2.2.2 | skip
     refine AE [] (ι := {j : Nat // j ≤ ((Iu w e).getD i default).to.length}) (fun p => ⟨[(2, .pb 1002 0), (3, .pb 1003 0), (4, .pb 1004 0), (6, .pb 1006 0), (8, .t (.sl 4 ((Iu w e).map Cy))), (9, .t (.v (.int .i64 i))), (12, .t (.v (.int .i64 p.1)))], [(1002, some (.box [.h 1900, .t (.v (.int .i64 (Xb x e.host (Bb (OX w e).body) ((Iu w e).getD i default)).now)), .t (.v (.int .i64 (Xb x e.host (Bb (OX w e).body) ((Iu w e).getD i default)).marks)), .h 1901])), (1003, some (.box ((Ci e).map .t))), (1004, some (.box [.nil, .t (.v (.int .i64 0)), .t (.v (.int .i64 0)), .nil])), (1006, some (.box [.t (.v (.string e.mail.frm.user)), .t (.v (.string e.mail.frm.domain)), .t (.sl 2 (e.mail.to.map Aw)), .t (.sl 1 ((c9 (w.marks + 1) :: e.mail.body).map AH))])), (1900, some (.arr false 7 ((Xb x e.host (Bb (OX w e).body) ((Iu w e).getD i default)).hosts.map Ah))), (1901, some (.arr true 3 (x.given.map A0 ++ (Jw (Bb (OX w e).body) (((Iu w e).getD i default).to.take p.1)).map A0)))]⟩) (fun p => ((Iu w e).getD i default).to.length - p.1) ⟨0, Nat.zero_le _⟩ rfl ?_ ?_
     ·simp -implicitDefEqProofs only [go_sem, hh, seval]
      first | (simp [Jw, Xb]; done) | skip
     ·rintro ⟨j, hj⟩
      try dsimp only at hj
      have hlj : (Jw (Bb (OX w e).body) (((Iu w e).getD i default).to.take j)).length = j := by rw [jm, List.length_take]; omega
      by_cases hjt : (j : Int) < ((Iu w e).getD i default).to.length
      ·simp -implicitDefEqProofs only [hjt, hlj, List.length_append, lm, eq_self, decide_true, decide_false, go_sem, hh, seval]
       with_reducible repeat' (first | apply ai | intro _ | ((first | apply s1 | apply s2 | apply s3 | apply s4) <;> intro hb <;> simp -implicitDefEqProofs only [hb, go_sem, hh, seval] <;> try simp only [qz] at hb))
       all_goals (try simp only [maxLen, tn, Ac, Ab, lm] at *)
       all_goals first | with_reducible rfl | omega | with_reducible assumption | (show _ = true; rfl) | contradiction | decide | (rename_i hm; rcases List.mem_append.1 hm with hm | hm <;> (obtain ⟨_, _, rfl⟩ := List.mem_map.1 hm; rfl)) | skip
       skip
       refine Ai (Le.renb 1002 3 1145 1901 rfl rfl rfl rfl) (Ae ?_)
       simp -implicitDefEqProofs only [go_sem, hh, seval]
       with_reducible repeat' (first | apply ai | intro _ | ((first | apply s1 | apply s2 | apply s3 | apply s4) <;> intro hb <;> simp -implicitDefEqProofs only [hb, go_sem, hh, seval] <;> try simp only [qz] at hb))
       all_goals first | with_reducible rfl | omega | with_reducible assumption | (show _ = true; rfl) | contradiction | decide | skip
       refine ⟨⟨j + 1, by omega⟩, by dsimp only; omega, ?_⟩
       simp -implicitDefEqProofs only [go_sem, hh, seval]
       simp only [jn (show j < ((Iu w e).getD i default).to.length by omega), List.append_assoc]
       first | (simp [OX]; done) | skip
      ·have htk : ((Iu w e).getD i default).to.take j = ((Iu w e).getD i default).to := List.take_of_length_le (by omega)
       simp -implicitDefEqProofs only [hjt, htk, eq_self, decide_true, decide_false, go_sem, hh, seval]
       with_reducible repeat' (first | apply ai | intro _ | ((first | apply s1 | apply s2 | apply s3 | apply s4) <;> intro hb <;> simp -implicitDefEqProofs only [hb, go_sem, hh, seval] <;> try simp only [qz] at hb))
       all_goals (try simp only [maxLen, tn, Ac, Ab, lm] at *)
       all_goals first | with_reducible rfl | omega | with_reducible assumption | (show _ = true; rfl) | contradiction | decide | skip
       refine ⟨⟨(i + 1, Xb x e.host (Bb (OX w e).body) ((Iu w e).getD i default)), by dsimp only; omega, dY hx hmk hy q.1 q.2, (rn (by omega) q).symm.trans hv⟩, by dsimp only; omega, ?_⟩
       simp -implicitDefEqProofs only [go_sem, hh, seval]
       first | (simp [Xb]; done) | skip
    ·simp -implicitDefEqProofs only [hlt, I3 q, eq_self, decide_true, decide_false, go_sem, hh, seval]
     with_reducible repeat' (first | apply ai | intro _ | ((first | apply s1 | apply s2 | apply s3 | apply s4) <;> intro hb <;> simp -implicitDefEqProofs only [hb, go_sem, hh, seval] <;> try simp only [qz] at hb))
     all_goals (try simp only [maxLen, tn, Ac, Ab, lm] at *)
     all_goals first | with_reducible rfl | omega | with_reducible assumption | (show _ = true; rfl) | contradiction | decide | exact hxK.2.2.2 | skip
     refine ⟨⟨(i + 1, x), by dsimp only; omega, hx, (rm (by omega) q).symm.trans hv⟩, by dsimp only; omega, ?_⟩
     simp -implicitDefEqProofs only [go_sem, hh, seval]
     first | (simp; done) | skip
   ·rw [rl (by omega)] at hv
    subst hv
    simp -implicitDefEqProofs only [hlt, eq_self, decide_true, decide_false, go_sem, hh, seval]
    with_reducible repeat' (first | apply ai | intro _ | ((first | apply s1 | apply s2 | apply s3 | apply s4) <;> intro hb <;> simp -implicitDefEqProofs only [hb, go_sem, hh, seval] <;> try simp only [qz] at hb))
    all_goals (try simp only [maxLen, tn, Ac, Ab] at *)
    all_goals first | with_reducible rfl | omega | with_reducible assumption | (show _ = true; rfl) | contradiction | decide | skip
 all_goals
  try rw [e_]
  simp -implicitDefEqProofs only [Tryz.f188, h0', h1', h2, h3, h4, h5', eq_self, decide_true, decide_false, Int.reduceEq, go_sem, hh, seval]
  with_reducible repeat' (first | apply ai | intro _ | ((first | apply s1 | apply s2 | apply s3 | apply s4) <;> intro hb <;> simp -implicitDefEqProofs only [hb, go_sem, hh, seval] <;> try simp only [qz] at hb))
  all_goals (try simp only [maxLen, tn, lm] at *)
  all_goals first | rfl | omega | decide | with_reducible assumption | (show AZ _ = true; rfl) | exact Gw (by assumption) | contradiction | (show _ = T.v _; rfl) | (show _ = List.map A0 _; rfl) | skip
end
theorem QK (w : Wd) (e : Ev) : N9 (w.hosts.getD e.host.toNat default).conf ((w.hosts.getD e.host.toNat default).spool.items.getD (BF (fun x : Im => x.id = e.id) 0 (w.hosts.getD e.host.toNat default).spool.items).toNat default) (w.hosts.getD e.to.toNat default).conf.name w.now = IR w e := rfl
theorem dk (w : Wd) (e : Ev) : Ft (Ak w e.to) (Ak w e.host).conf.name (IR w e) e.cut = HK w e := rfl
theorem rM {xs : List Ad} {i j : Nat} (h : xs.Nodup) (hi : i < j) (hj : j < xs.length) : ¬ xs.getD i default = xs.getD j default := by
 have z := List.pairwise_iff_getElem.1 h i j (by omega) hj hi
 simpa [hj, show i < xs.length by omega] using z
def fw : Mt := HJ (lc nW (lc Oc.ag l0)) (fun p => GZ 1000000 p.1 ∧ YI p.2.1) (fun p => ([.any, Oc.ag.enc p.2.1], .tup [G5 (XQ p.1 p.2.1).1, .t (.v (.bool (XQ p.1 p.2.1).2))]))
section
attribute [local go_sem] Kk O8 f6 f7 UP O9 QK dk aq CE FL FK G5.eq_1 GN.eq_1 AY BN KF lm List.length_set AS.opn AS.cls AS.nilb AS.renb AS.up Bool.not_false Bool.not_true List.set_set List.set_cons_zero List.set_cons_succ List.set_nil List.mem_singleton forall_eq tn List.map_nil List.nil_append
set_option maxHeartbeats 6400000 in
theorem mW {G : Gt} (hG : Aj G) (hh : G.e 71 = AA 0 Kk ∧ G.e 124 = AA 0 O8 ∧ G.e 203 = AA 0 f6 ∧ G.e 204 = AA 1 f7 ∧ G.e 202 = AA 1 UP ∧ G.e 205 = AA 1 O9) : Gd G 189 (AP fw) := by
 refine Jh (dp := fun n => !(Nat.beq n 100011)) (fn := Tryz.f189) (n := 2) rfl hG ?_
 rintro ⟨w, e, ⟨⟩⟩ hpre
 obtain ⟨hw, hE, hc0, hc1⟩ := hpre
 try dsimp only at hw hE hc0 hc1 ⊢
 have hl := hw.2.1
 refine BE (0 ≤ e.host ∧ e.host ≤ (w.hosts.length : Int) - 1) (fun h0 => have h0' := Aq h0; BE (0 ≤ e.to ∧ e.to ≤ (w.hosts.length : Int) - 1) (fun h1 => have h1' := Aq h1; BE (e.host = e.to) (fun h2 => have e_ : XQ w e = _ := LV (fun q => q.2.2.1 h2); have h3 := trivial; ?_) (fun h2 => BE (A5 (Ak w e.host).spool e.id < 0) (fun h3 => have e_ : XQ w e = _ := LV (fun q => q.2.2.2.1 h3); ?_) (fun h3 => BE (((IR w e).to.length : Int) = 0) (fun h4 => ?w1) (fun h4 => ?w2)))) (fun h1 => have h1' := AQ h1; have e_ : XQ w e = _ := LV (fun q => h1 q.2.1); have h2 := trivial; have h3 := trivial; ?_)) (fun h0 => have h0' := AQ h0; have e_ : XQ w e = _ := LV (fun q => h0 q.1); have h1' := trivial; have h2 := trivial; have h3 := trivial; ?_)
 case w1 =>
  have hH := hw.1 _ (AC (xs := w.hosts) (j := e.host.toNat) (by omega))
  have i1 : 0 ≤ BF (fun x : Im => x.id = e.id) 0 (Ak w e.host).spool.items ∧ BF (fun x : Im => x.id = e.id) 0 (Ak w e.host).spool.items < (Ak w e.host).spool.items.length := by have := CK h3; unfold A5 at this h3; omega
  have oa := Du hH.1 hH.2 (by decide)
  rw [LV (fun q => q.2.2.2.2 h4)]
  simp -implicitDefEqProofs only [Tryz.f189, h0', h1', h2, h3, h4, eq_self, decide_true, decide_false, QK, go_sem, hh, seval]
  with_reducible repeat' (first | apply ai | intro _ | ((first | apply s1 | apply s2 | apply s3 | apply s4) <;> intro hb <;> simp -implicitDefEqProofs only [hb, go_sem, hh, seval] <;> try simp only [qz] at hb))
  all_goals (try simp only [maxLen, tn, Ac, Ab, lm] at *)
  all_goals first | rfl | omega | decide | with_reducible assumption | (show AZ _ = true; rfl) | exact Gw (by assumption) | contradiction | exact i1.2 | exact i1.1 | (show _ = T.v _; rfl) | (show _ = List.map A0 _; rfl) | skip
 case w2 =>
  have hq : nt w e := ⟨h0, h1, h2, h3, h4⟩
  rw [dj hq]
  obtain ⟨a1, a2, b1, b2, hi, hd, hl4, ht⟩ := dl hw hq
  have i1 : 0 ≤ BF (fun x : Im => x.id = e.id) 0 (Ak w e.host).spool.items ∧ BF (fun x : Im => x.id = e.id) 0 (Ak w e.host).spool.items < (Ak w e.host).spool.items.length := by have := CK h3; unfold A5 at this h3; omega
  have hC : Mk (IR w e) := kF hi
  have oa := Du a1 a2 (by decide)
  have ob := Du b1 b2 (by decide)
  have na := (Co a1.2.2.1.2.2.1).2
  have nb := (Co b1.2.2.1.2.2.1).2
  have na6 : (Ak w e.host).conf.name.size ≤ 1000 := by omega
  have nb6 : (Ak w e.to).conf.name.size ≤ 1000 := by omega
  have hw2 := hw.2.2.1
  have hno : (HK w e).1.length = (IR w e).to.length := TK (by omega) hC
  have hv1 : ∀ y ∈ (HK w e).2, Cr y := XN _ _ _ _
  have hvn : (HK w e).2.length ≤ 300000000 := kx (by omega) hC (by omega)
  simp -implicitDefEqProofs only [Tryz.f189, h0', h1', h2, h3, h4, eq_self, decide_true, decide_false, QK, dk, go_sem, hh, seval]
  with_reducible repeat' (first | apply ai | intro _ | ((first | apply s1 | apply s2 | apply s3 | apply s4) <;> intro hb <;> simp -implicitDefEqProofs only [hb, go_sem, hh, seval] <;> try simp only [qz] at hb))
  all_goals (try simp only [maxLen, tn, Ac, Ab, lm, List.length_cons] at *)
  all_goals first | with_reducible rfl | omega | with_reducible assumption | (show _ = true; rfl) | contradiction | decide | exact hC | exact i1.2 | exact i1.1 | skip
  refine Ai (Le.frzL [1069, 2069]) (Ae ?_)
  simp -implicitDefEqProofs only [go_sem, hh, seval]
  with_reducible repeat' (first | apply ai | intro _ | ((first | apply s1 | apply s2 | apply s3 | apply s4) <;> intro hb <;> simp -implicitDefEqProofs only [hb, go_sem, hh, seval] <;> try simp only [qz] at hb))
  all_goals (try simp only [maxLen, tn, Ac, Ab, lm, List.length_cons] at *)
  all_goals first | with_reducible rfl | omega | with_reducible assumption | (show _ = true; rfl) | contradiction | decide | exact hC | exact i1.2 | exact i1.1 | skip
  refine AE [] (ι := {p : Nat × Hs // p.1 ≤ (HK w e).2.length ∧ Et p.2 ∧ El 1000000 p.2 ∧ p.2.conf = (Ak w e.to).conf ∧ dc w.now ((HK w e).2.drop p.1) p.2 = sh w e}) (fun p => ⟨[(2, .pb 1002 0), (3, .pb 1003 0), (4, .pb 1004 0), (6, .pb 1006 0), (7, .pb 1007 0), (9, .pb 1009 0), (10, .t (.sl 1 ((HK w e).1.map An))), (11, .t (.sl 4 ((HK w e).2.map Cy))), (12, .t (.v (.int .i64 p.1.1)))], [(1002, some (.box [.h 1900, .t (.v (.int .i64 w.now)), .t (.v (.int .i64 w.marks)), .h 2900])), (1003, some (.box ((Ci e).map .t))), (1004, some (.box [.nil, .t (.v (.int .i64 0)), .t (.v (.int .i64 0)), .nil])), (1006, some (.box ((Ah (Ak w e.host)).map .t))), (1007, some (.box ((Ah p.1.2).map .t))), (1009, some (.box [.t (.v (.string (IR w e).frm.user)), .t (.v (.string (IR w e).frm.domain)), .t (.sl 2 ((IR w e).to.map Aw)), .t (.sl 1 ((IR w e).body.map AH))])), (1900, some (.arr false 7 (w.hosts.map Ah))), (2900, some (.arr true 3 (w.given.map A0)))]⟩) (fun p => (HK w e).2.length - p.1.1) ⟨(0, (Ak w e.to)), Nat.zero_le _, b1, b2, rfl, rfl⟩ rfl ?_ ?_
  ·simp -implicitDefEqProofs only [go_sem, hh, seval]
   first | (simp; done) | skip
  ·rintro ⟨⟨i, x⟩, hi1, hx1, hx2, hx3, hv⟩
   dsimp only at hi1 hx1 hx2 hx3 hv
   have xo := Du hx1 hx2 (by decide)
   have nx := (Co hx1.2.2.1.2.2.1).2
   have nx6 : x.conf.name.size ≤ 1000000 := by omega
   by_cases hlt : (i : Int) < (HK w e).2.length
   ·have hy := hv1 _ (AC (xs := (HK w e).2) (j := i) (by omega))
    have hyo : Kc ((HK w e).2.getD i default) := Ib hy
    have zK := Tg hx1 hx2 hy hw2
    by_cases q : ((HK w e).2.getD i default).body.length < 12 ∧ B4 x.spool
    ·simp -implicitDefEqProofs only [hlt, I4 q, eq_self, decide_true, decide_false, go_sem, hh, seval]
     with_reducible repeat' (first | apply ai | intro _ | ((first | apply s1 | apply s2 | apply s3 | apply s4) <;> intro hb <;> simp -implicitDefEqProofs only [hb, go_sem, hh, seval] <;> try simp only [qz] at hb))
     all_goals (try simp only [maxLen, tn, Ac, Ab, lm] at *)
     all_goals first | with_reducible rfl | omega | with_reducible assumption | (show _ = true; rfl) | contradiction | decide | exact hx1.2.2.2 | skip
     refine ⟨⟨(i + 1, (Kb x ((HK w e).2.getD i default) w.now).1), by dsimp only; omega, zK.1, zK.2.1, zK.2.2.trans hx3, (dh (by omega)).symm.trans hv⟩, by dsimp only; omega, ?_⟩
     simp -implicitDefEqProofs only [I4 q, go_sem, hh, seval]
     first | (simp; done) | skip
    ·simp -implicitDefEqProofs only [hlt, I3 q, eq_self, decide_true, decide_false, go_sem, hh, seval]
     with_reducible repeat' (first | apply ai | intro _ | ((first | apply s1 | apply s2 | apply s3 | apply s4) <;> intro hb <;> simp -implicitDefEqProofs only [hb, go_sem, hh, seval] <;> try simp only [qz] at hb))
     all_goals (try simp only [maxLen, tn, Ac, Ab, lm] at *)
     all_goals first | with_reducible rfl | omega | with_reducible assumption | (show _ = true; rfl) | contradiction | decide | exact hx1.2.2.2 | skip
     refine ⟨⟨(i + 1, (Kb x ((HK w e).2.getD i default) w.now).1), by dsimp only; omega, zK.1, zK.2.1, zK.2.2.trans hx3, (dh (by omega)).symm.trans hv⟩, by dsimp only; omega, ?_⟩
     simp -implicitDefEqProofs only [I3 q, go_sem, hh, seval]
     first | (simp; done) | skip
   ·rw [sG (by omega)] at hv
    subst hv
    simp -implicitDefEqProofs only [hlt, eq_self, decide_true, decide_false, go_sem, hh, seval]
    with_reducible repeat' (first | apply ai | intro _ | ((first | apply s1 | apply s2 | apply s3 | apply s4) <;> intro hb <;> simp -implicitDefEqProofs only [hb, go_sem, hh, seval] <;> try simp only [qz] at hb))
    all_goals (try simp only [maxLen, tn, Ac, Ab, lm] at *)
    all_goals first | with_reducible rfl | omega | with_reducible assumption | (show _ = true; rfl) | contradiction | decide | skip
    refine AE [] (ι := {p : Nat × Hs // p.1 ≤ (HK w e).1.length ∧ Et p.2 ∧ El (1000000 + p.1) p.2 ∧ p.2.conf = (Ak w e.host).conf ∧ (∀ j, p.1 ≤ j → j < (IR w e).to.length → CW p.2.spool e.id ((IR w e).to.getD j default)) ∧ (e.lose = true → p.2 = (Ak w e.host)) ∧ bf e.id w.now ((IR w e).to.drop p.1) ((HK w e).1.drop p.1) p.2 = bf e.id w.now (IR w e).to (HK w e).1 (Ak w e.host)}) (fun p => ⟨[(2, .pb 1002 0), (3, .pb 1003 0), (4, .pb 1004 0), (6, .pb 1006 0), (9, .pb 1009 0), (10, .t (.sl 1 ((HK w e).1.map An))), (15, .t (.v (.int .i64 p.1.1)))], [(1002, some (.box [.h 1900, .t (.v (.int .i64 w.now)), .t (.v (.int .i64 w.marks)), .h 2900])), (1003, some (.box ((Ci e).map .t))), (1004, some (.box [.nil, .t (.v (.int .i64 0)), .t (.v (.int .i64 0)), .nil])), (1006, some (.box ((Ah p.1.2).map .t))), (1009, some (.box [.t (.v (.string (IR w e).frm.user)), .t (.v (.string (IR w e).frm.domain)), .t (.sl 2 ((IR w e).to.map Aw)), .t (.sl 1 ((IR w e).body.map AH))])), (1900, some (.arr false 7 ((w.hosts.set e.to.toNat (sh w e)).map Ah))), (2900, some (.arr true 3 (w.given.map A0)))]⟩) (fun p => (HK w e).1.length - p.1.1) ⟨(0, (Ak w e.host)), Nat.zero_le _, a1, a2, rfl, fun j _ hj => ht _ (AC hj), fun _ => rfl, rfl⟩ rfl ?_ ?_
    ·simp -implicitDefEqProofs only [go_sem, hh, seval]
     first | (simp; done) | skip
    ·rintro ⟨⟨k, y⟩, hk, y1, y2, y3, y4, y5, hv⟩
     dsimp only at hk y1 y2 y3 y4 y5 hv
     have yo := Du y1 y2 (by omega)
     have ysp := y1.2.2.2
     by_cases hex : k < (HK w e).1.length ∧ e.lose = false
     ·obtain ⟨hk1, hk2⟩ := hex
      have hk3 : (k : Int) < (HK w e).1.length := by omega
      have htd := y4 k (Nat.le_refl _) (by omega)
      have z := Wi (out := (HK w e).1.getD k default) y1 y2 htd hw2
      simp -implicitDefEqProofs only [hk3, hk2, Bool.not_false, eq_self, decide_true, decide_false, go_sem, hh, seval]
      with_reducible repeat' (first | apply ai | intro _ | ((first | apply s1 | apply s2 | apply s3 | apply s4) <;> intro hb <;> simp -implicitDefEqProofs only [hb, go_sem, hh, seval] <;> try simp only [qz] at hb))
      all_goals (try simp only [maxLen, tn, Ac, Ab, lm] at *)
      all_goals first | with_reducible rfl | omega | with_reducible assumption | (show _ = true; rfl) | contradiction | decide | exact yo.2.1 | exact htd.1 | exact htd.2 | exact .inr ⟨yo, hw2⟩ | (rw [hk2]; done) | skip
      refine ⟨⟨(k + 1, Hl y e.id ((IR w e).to.getD k default) ((HK w e).1.getD k default) w.now), by dsimp only; omega, z.1, z.2.1, z.2.2.1.trans y3, fun j hj hj2 => z.2.2.2 _ (y4 j (by dsimp only at hj; omega) hj2) (fun u => rM hd (by dsimp only at hj; omega) hj2 u), fun u => (by rw [hk2] at u; cases u), (sI (by omega) hk1).symm.trans hv⟩, by dsimp only; omega, ?_⟩
      simp -implicitDefEqProofs only [go_sem, hh, seval]
      first | (simp only [Hl]; simp [hk2]; done) | (simp only [Hl, hk2]; simp; done) | skip
     ·have hA : nq w e = y := by
        unfold nq
        cases hlo : e.lose
        ·rw [sH (Nat.le_of_not_lt fun u => hex ⟨u, hlo⟩)] at hv
         exact hv.symm
        ·exact (y5 hlo).symm
      have hR : sg w e = ⟨(w.hosts.set e.to.toNat (sh w e)).set e.host.toNat y, w.now, w.marks, w.given⟩ := by unfold sg; rw [hA]; rfl
      rw [hR]
      simp -implicitDefEqProofs only [List.length_set, eq_self, decide_true, decide_false, go_sem, hh, seval]
      with_reducible repeat' (first | apply ai | intro _ | ((first | apply s1 | apply s2 | apply s3 | apply s4) <;> intro hb <;> simp -implicitDefEqProofs only [hb, go_sem, hh, seval] <;> try simp only [qz] at hb))
      all_goals (try simp only [maxLen, tn, Ac, Ab, lm] at *)
      all_goals first | with_reducible rfl | omega | with_reducible assumption | (show _ = true; rfl) | contradiction | decide | exact absurd ⟨by omega, by assumption⟩ hex | skip
 all_goals
  try rw [e_]
  simp -implicitDefEqProofs only [Tryz.f189, h0', h1', h2, h3, eq_self, decide_true, decide_false, Int.reduceEq, go_sem, hh, seval]
  with_reducible repeat' (first | apply ai | intro _ | ((first | apply s1 | apply s2 | apply s3 | apply s4) <;> intro hb <;> simp -implicitDefEqProofs only [hb, go_sem, hh, seval] <;> try simp only [qz] at hb))
  all_goals (try simp only [maxLen, tn, lm] at *)
  all_goals first | rfl | omega | decide | with_reducible assumption | (show AZ _ = true; rfl) | exact Gw (by assumption) | contradiction | (show _ = T.v _; rfl) | (show _ = List.map A0 _; rfl) | skip
end
theorem JO {d k : Nat} {xs : List AV} {s : AS} : Eb d (.agg xs) .any k s = (s, k) := rfl
theorem HT {xs : List AV} : BO (.agg xs) .any = [] := rfl
noncomputable def u5 (w : Wd) (k : Int) : Wd := S7 w k (Do (Ak w k).conf w.now (Ak w k).spool.items (Ak w k))
def u7 (w : Wd) (n : Int) : Wd := ⟨w.hosts, w.now + n, w.marks, w.given⟩
open Classical in
noncomputable def EF (w : Wd) (e : Ev) : Wd × Bool :=
 if e.kind = 1 then TE w e
 else if e.kind = 2 then XQ w e
 else if e.kind = 3 then Ji w e
 else if e.kind = 4 then (if 0 ≤ e.host ∧ e.host ≤ (w.hosts.length : Int) - 1 then (u5 w e.host, true) else (w, false))
 else if e.kind = 5 then (if (1 ≤ e.id ∧ e.id ≤ 40) ∧ ¬ w.now + e.id > 9999 then (u7 w e.id, true) else (w, false))
 else (w, false)
section
variable {w : Wd} {e : Ev}
theorem pJ (h : e.kind = 1) : EF w e = TE w e := if_pos h
theorem pK (h : e.kind = 2) : EF w e = XQ w e := by unfold EF; rw [if_neg (by omega), if_pos h]
theorem pL (h : e.kind = 3) : EF w e = Ji w e := by unfold EF; rw [if_neg (by omega), if_neg (by omega), if_pos h]
theorem pM (h : e.kind = 4) (q : 0 ≤ e.host ∧ e.host ≤ (w.hosts.length : Int) - 1) : EF w e = (u5 w e.host, true) := by unfold EF; rw [if_neg (by omega), if_neg (by omega), if_neg (by omega), if_pos h, if_pos q]
theorem iy (h : e.kind = 4) (q : ¬ (0 ≤ e.host ∧ e.host ≤ (w.hosts.length : Int) - 1)) : EF w e = (w, false) := by unfold EF; rw [if_neg (by omega), if_neg (by omega), if_neg (by omega), if_pos h, if_neg q]
theorem pN (h : e.kind = 5) (q : (1 ≤ e.id ∧ e.id ≤ 40) ∧ ¬ w.now + e.id > 9999) : EF w e = (u7 w e.id, true) := by unfold EF; rw [if_neg (by omega), if_neg (by omega), if_neg (by omega), if_neg (by omega), if_pos h, if_pos q]
theorem U5 (h : e.kind = 5) (q : ¬ ((1 ≤ e.id ∧ e.id ≤ 40) ∧ ¬ w.now + e.id > 9999)) : EF w e = (w, false) := by unfold EF; rw [if_neg (by omega), if_neg (by omega), if_neg (by omega), if_neg (by omega), if_pos h, if_neg q]
theorem pI (h : ¬ e.kind = 1 ∧ ¬ e.kind = 2 ∧ ¬ e.kind = 3 ∧ ¬ e.kind = 4 ∧ ¬ e.kind = 5) : EF w e = (w, false) := by unfold EF; rw [if_neg h.1, if_neg h.2.1, if_neg h.2.2.1, if_neg h.2.2.2.1, if_neg h.2.2.2.2]
end
theorem U6 {N : Nat} {w : Wd} {e : Ev} (q : GZ N w) (hN : N ≤ 1000000) : GZ (N + 40) (EF w e).1 := by
 have hl := q.2.1
 unfold EF
 split
 ·exact rq q
 ·split
  ·exact A7 (sJ q) (by omega)
  ·split
   ·exact A7 (jS q) (by omega)
   ·split
    ·split
     ·rename_i h
      have hH := q.1 _ (AC (xs := w.hosts) (j := e.host.toNat) (by omega))
      have z := jV (w := w.now) hH.1 hH.2 (by omega)
      exact Ma (A7 q (by omega)) z.1 z.2
     ·exact A7 q (by omega)
    ·split
     ·split
      ·rename_i h
       refine A7 (N := N) ⟨q.1, q.2.1, ?_, q.2.2.2⟩ (by omega)
       have := q.2.2.1
       show 0 ≤ w.now + e.id ∧ w.now + e.id ≤ 9999
       omega
      ·exact A7 q (by omega)
     ·exact A7 q (by omega)
def UM : Mt := HJ (lc nW (lc Oc.ag l0)) (fun p => GZ 1000000 p.1 ∧ YI p.2.1) (fun p => ([.any, Oc.ag.enc p.2.1], .tup [G5 (EF p.1 p.2.1).1, .t (.v (.bool (EF p.1 p.2.1).2))]))
section
attribute [local go_sem] fu fw fx fy Kk JO HT List.append_assoc List.nil_append CE FL FK G5.eq_1 GN.eq_1 AY BN KF lm AS.opn AS.cls AS.nilb AS.renb AS.up Bool.not_false Bool.not_true List.set_set List.set_cons_zero List.set_cons_succ List.set_nil List.mem_singleton forall_eq tn List.map_nil
set_option maxHeartbeats 6400000 in
theorem mO {G : Gt} (hG : Aj G) (hh : G.e 188 = AP fu ∧ G.e 189 = AP fw ∧ G.e 190 = AP fx ∧ G.e 191 = AA 1 fy ∧ G.e 71 = AA 0 Kk) : Gd G 174 (AP UM) := by
 refine Jh (dp := fun _ => true) (fn := Tryz.f174) (n := 2) rfl hG ?_
 rintro ⟨w, e, ⟨⟩⟩ hpre
 obtain ⟨hw, hE⟩ := hpre
 try dsimp only at hw hE ⊢
 have hl := hw.2.1
 refine BE (e.kind = 1) (fun k1 => have k1' := decide_eq_true k1; have e_ : EF w e = _ := pJ k1; have k2' := trivial; have k3' := trivial; have k4' := trivial; have h2' := trivial; have k5' := trivial; ?_) (fun k1 => have k1' := decide_eq_false k1; BE (e.kind = 2) (fun k2 => have k2' := decide_eq_true k2; have e_ : EF w e = _ := pK k2; have k3' := trivial; have k4' := trivial; have h2' := trivial; have k5' := trivial; ?_) (fun k2 => have k2' := decide_eq_false k2; BE (e.kind = 3) (fun k3 => have k3' := decide_eq_true k3; have e_ : EF w e = _ := pL k3; have k4' := trivial; have h2' := trivial; have k5' := trivial; ?_) (fun k3 => have k3' := decide_eq_false k3; BE (e.kind = 4) (fun k4 => have k4' := decide_eq_true k4; BE (0 ≤ e.host ∧ e.host ≤ (w.hosts.length : Int) - 1) (fun h2 => have h2' := Aq h2; ?w1) (fun h2 => have h2' := AQ h2; have e_ : EF w e = _ := iy k4 h2; have k5' := trivial; ?_)) (fun k4 => have k4' := decide_eq_false k4; BE (e.kind = 5) (fun k5 => have k5' := decide_eq_true k5; BE (1 ≤ e.id ∧ e.id ≤ 40) (fun h2 => have h2' := Aq h2; ?w2) (fun h2 => have h2' := AQ h2; have e_ : EF w e = _ := U5 k5 (fun q => h2 q.1); ?_)) (fun k5 => have k5' := decide_eq_false k5; have e_ : EF w e = _ := pI ⟨k1, k2, k3, k4, k5⟩; have h2' := trivial; ?_)))))
 case w1 =>
  have hH := hw.1 _ (AC (xs := w.hosts) (j := e.host.toNat) (by omega))
  have oa := Du hH.1 hH.2 (by decide)
  have hs := ES.2 hH.1
  rw [pM k4 h2]
  simp -implicitDefEqProofs only [Tryz.f174, k1', k2', k3', k4', h2', eq_self, decide_true, decide_false, Int.reduceEq, go_sem, hh, seval]
  with_reducible repeat' (first | apply ai | intro _ | ((first | apply s1 | apply s2 | apply s3 | apply s4) <;> intro hb <;> simp -implicitDefEqProofs only [hb, go_sem, hh, seval] <;> try simp only [qz] at hb))
  all_goals (try simp only [maxLen, tn, Ac, Ab] at *)
  all_goals first | rfl | omega | decide | with_reducible assumption | (show AZ _ = true; rfl) | exact Gw (by assumption) | contradiction | (show _ = T.v _; rfl) | (show _ = List.map A0 _; rfl) | (show _ = List.map Ah _; rfl) | skip
 case w2 =>
  have hnw := hw.2.2.1
  by_cases h3 : w.now + e.id > 9999
  ·rw [U5 k5 (fun q => q.2 h3)]
   simp -implicitDefEqProofs only [Tryz.f174, h3, k1', k2', k3', k4', k5', h2', eq_self, decide_true, decide_false, Int.reduceEq, go_sem, hh, seval]
   with_reducible repeat' (first | apply ai | intro _ | ((first | apply s1 | apply s2 | apply s3 | apply s4) <;> intro hb <;> simp -implicitDefEqProofs only [hb, go_sem, hh, seval] <;> try simp only [qz] at hb))
   all_goals (try simp only [maxLen, tn, Ac, Ab] at *)
   all_goals first | rfl | omega | decide | with_reducible assumption | (show AZ _ = true; rfl) | exact Gw (by assumption) | contradiction | (show _ = T.v _; rfl) | (show _ = List.map A0 _; rfl) | skip
  ·rw [pN k5 ⟨h2, h3⟩]
   simp -implicitDefEqProofs only [Tryz.f174, h3, k1', k2', k3', k4', k5', h2', eq_self, decide_true, decide_false, Int.reduceEq, go_sem, hh, seval]
   with_reducible repeat' (first | apply ai | intro _ | ((first | apply s1 | apply s2 | apply s3 | apply s4) <;> intro hb <;> simp -implicitDefEqProofs only [hb, go_sem, hh, seval] <;> try simp only [qz] at hb))
   all_goals (try simp only [maxLen, tn, Ac, Ab] at *)
   all_goals first | rfl | omega | decide | with_reducible assumption | (show AZ _ = true; rfl) | exact Gw (by assumption) | contradiction | (show _ = T.v _; rfl) | (show _ = List.map A0 _; rfl) | (show _ = List.map Ah _; rfl) | skip
 all_goals
  try rw [e_]
  simp -implicitDefEqProofs only [Tryz.f174, k1', k2', k3', k4', h2', k5', eq_self, decide_true, decide_false, Int.reduceEq, go_sem, hh, seval]
  with_reducible repeat' (first | apply ai | intro _ | ((first | apply s1 | apply s2 | apply s3 | apply s4) <;> intro hb <;> simp -implicitDefEqProofs only [hb, go_sem, hh, seval] <;> try simp only [qz] at hb))
  all_goals (try simp only [maxLen, tn, lm] at *)
  all_goals first | rfl | omega | decide | with_reducible assumption | (show AZ _ = true; rfl) | exact Gw (by assumption) | contradiction | (show _ = T.v _; rfl) | (show _ = List.map A0 _; rfl) | skip
end
def OY (cs : List Cf) : Prop := GW My cs ∧ (∀ c ∈ cs, KZ c) ∧ II (Em cs)
theorem OZ {cs : List Cf} (h : OY cs) : GZ 0 (Em cs) := by
 have hl : (Em cs).hosts.length = cs.length := lm _
 have h4 := h.2.2.2.2.2.1
 refine ⟨fun x hx => ?_, ⟨by omega, by omega⟩, ⟨Int.le_refl _, by show (0 : Int) ≤ 9999; decide⟩, ⟨Int.le_refl _, by show (0 : Int) ≤ 60; decide⟩, Nat.le_refl _, fun _ q => by cases q⟩
 obtain ⟨c, hc, rfl⟩ := List.mem_map.1 hx
 exact RN (h.2.1 c hc)
def ot : Ct := At (lc I0.asl l0) (fun p => OY p.1) (fun p => G5 (Em p.1))
section
attribute [local go_sem] oz o0 o9 G5.eq_1 CE Ac Ab lm List.length_append List.length_cons List.length_nil List.map_append List.map_nil Nat.zero_add AY AS.opn AS.cls AS.nilb AS.renb AS.up Bool.not_false Bool.not_true List.set_set List.set_cons_zero List.set_cons_succ List.set_nil List.mem_singleton forall_eq tn List.nil_append
set_option maxHeartbeats 3200000 in
theorem pv {G : Gt} (hG : Aj G) (hh : G.e 48 = AA 0 oz ∧ G.e 49 = AA 0 o0 ∧ G.e 50 = AA 0 o9) : Gd G 16 (AA 1 ot) := by
 refine OW (dp := fun n => !(Nat.beq n 100002 || Nat.beq n 100004 || Nat.beq n 27 || Nat.beq n 28)) (fn := Tryz.f16) (n := 1) rfl hG ?_
 rintro ⟨cs, ⟨⟩⟩ hpre
 have hok : GW My cs := hpre.1
 have hcs := hpre.2.1
 have hwd := hpre.2.2
 have hmx := hok.1
 have b8 := Aq hwd
 simp -implicitDefEqProofs only [Tryz.f16, go_sem, hh, seval]
 with_reducible repeat' (first | apply ai | intro _ | ((first | apply s1 | apply s2 | apply s3 | apply s4) <;> intro hb <;> simp -implicitDefEqProofs only [hb, go_sem, hh, seval] <;> try simp only [qz] at hb))
 all_goals first | with_reducible rfl | omega | with_reducible assumption | (show _ = true; rfl) | contradiction | decide | skip
 refine Ai (Le.nilb 1003 0 1901 false 7 rfl rfl rfl) ?_
 simp -implicitDefEqProofs only [go_sem, hh, seval]
 refine Ai (Le.nilb 1003 3 1902 true 3 rfl rfl rfl) (Ae ?_)
 simp -implicitDefEqProofs only [go_sem, hh, seval]
 with_reducible repeat' (first | apply ai | intro _ | ((first | apply s1 | apply s2 | apply s3 | apply s4) <;> intro hb <;> simp -implicitDefEqProofs only [hb, go_sem, hh, seval] <;> try simp only [qz] at hb))
 all_goals first | with_reducible rfl | omega | with_reducible assumption | (show _ = true; rfl) | contradiction | decide | skip
 refine AE [] (ι := {i : Nat // i ≤ cs.length}) (fun p => ⟨[(0, .t (.sl 3 (cs.map C9))), (2, .pb 1002 0), (3, .pb 1003 0), (4, .t (.v (.int .i64 p.1)))], [(1002, some (.box [.nil, .t (.v (.int .i64 0)), .t (.v (.int .i64 0)), .nil])), (1003, some (.box [.h 1901, .t (.v (.int .i64 0)), .t (.v (.int .i64 0)), .h 1902])), (1902, some (.arr true 3 [])), (1901, some (.arr false 7 (((cs.map F4).take p.1).map Ah)))]⟩) (fun p => cs.length - p.1) ⟨0, by simp⟩ rfl ?_ ?_
 ·simp -implicitDefEqProofs only [go_sem, hh, seval]
  first | (simp; done) | skip
 ·rintro ⟨i, hi⟩
  try dsimp only at hi
  have hlen : ((cs.map F4).take i).length = i := by simp; omega
  by_cases hlt : (i : Int) < cs.length
  ·have hc := hok.at (i := i) (by omega)
   have b7 := Aq (hcs _ (AC (xs := cs) (j := i) (by omega)))
   simp -implicitDefEqProofs only [hlt, b7, decide_true, tn, go_sem, hh, seval]
   with_reducible repeat' (first | apply ai | intro _ | ((first | apply s1 | apply s2 | apply s3 | apply s4) <;> intro hb <;> simp -implicitDefEqProofs only [hb, go_sem, hh, seval] <;> try simp only [qz] at hb))
   all_goals (try simp only [maxLen, tn] at *)
   all_goals first | with_reducible rfl | omega | with_reducible assumption | (show _ = true; rfl) | contradiction | decide | skip
   refine Ai (Le.lastR 1028 rfl (.cons (.same _) (.cons (.same _) (.cons (.same _) (.cons (.same _) (.cons (.nil 5) (.cons (.nil 3) (.cons (.nil 3) .nil)))))))) ?_
   simp -implicitDefEqProofs only [go_sem, hh, seval]
   refine Ai (Le.renb 1003 0 1028 1901 rfl rfl rfl rfl) (Ae ?_)
   simp -implicitDefEqProofs only [go_sem, hh, seval]
   with_reducible repeat' (first | apply ai | intro _ | ((first | apply s1 | apply s2 | apply s3 | apply s4) <;> intro hb <;> simp -implicitDefEqProofs only [hb, go_sem, hh, seval] <;> try simp only [qz] at hb))
   all_goals first | with_reducible rfl | omega | with_reducible assumption | (show _ = true; rfl) | contradiction | decide | skip
   refine ⟨⟨i + 1, by omega⟩, by dsimp only; omega, ?_⟩
   simp -implicitDefEqProofs only [go_sem, hh, seval]
   simp only [XI (f := F4) (show i < cs.length by omega)]
   with_reducible repeat' (first | apply ai | intro _ | ((first | apply s1 | apply s2 | apply s3 | apply s4) <;> intro hb <;> simp -implicitDefEqProofs only [hb, go_sem, hh, seval] <;> try simp only [qz] at hb))
   all_goals first | rfl | (simp; done) | skip
  ·have htk : (cs.map F4).take i = cs.map F4 := List.take_of_length_le (by rw [lm]; omega)
   have hnw : (⟨cs.map F4, 0, 0, []⟩ : Wd) = Em cs := rfl
   simp -implicitDefEqProofs only [hlt, decide_false, htk, hnw, b8, go_sem, hh, seval]
   with_reducible repeat' (first | apply ai | intro _ | ((first | apply s1 | apply s2 | apply s3 | apply s4) <;> intro hb <;> simp -implicitDefEqProofs only [hb, go_sem, hh, seval] <;> try simp only [qz] at hb))
   all_goals (try simp only [maxLen, tn] at *)
   all_goals first | with_reducible rfl | omega | with_reducible assumption | (show _ = true; rfl) | contradiction | decide | rfl | exact absurd hwd (by assumption) | skip
end
noncomputable def kG : List Ev → Wd → Wd
 | [], w => w
 | e :: t, w => kG t (EF w e).1
theorem dO : ∀ (es : List Ev) {w : Wd} {N : Nat}, GZ N w → N + 40 * es.length ≤ 1000000 → GZ (N + 40 * es.length) (kG es w)
 | [], w, N, q, _ => q
 | e :: t, w, N, q, h => by
   rw [List.length_cons] at h ⊢
   have z := dO t (U6 (e := e) q (by omega)) (by omega)
   have e2 : N + 40 * (t.length + 1) = N + 40 + 40 * t.length := by omega
   rw [e2]; exact z
theorem rY {es : List Ev} {i : Nat} {w : Wd} (h : i < es.length) : kG (es.drop i) w = kG (es.drop (i + 1)) (EF w (es.getD i default)).1 := by rw [AW h]; rfl
noncomputable def rZ (cs : List Cf) (es : List Ev) : Wd := kG (es.take 40) (Em cs)
theorem ra {cs : List Cf} (h : OY cs) (es : List Ev) : GZ 1600 (rZ cs es) := by
 have hl : (es.take 40).length ≤ 40 := by rw [List.length_take]; omega
 exact A7 (dO (es.take 40) (OZ h) (by omega)) (by omega)
theorem Md (w : Wd) : G5 w = .agg [.o false 7 (w.hosts.map Ah), .t (.v (.int .i64 w.now)), .t (.v (.int .i64 w.marks)), .o true 3 (w.given.map A0)] := rfl
def fV : Ct := At (lc I0.asl (lc Oc.asl l0)) (fun p => OY p.1 ∧ (∀ e ∈ p.2.1, YI e) ∧ p.2.1.length ≤ 1000000) (fun p => G5 (rZ p.1 p.2.1))
section
attribute [local go_sem] ot UM Md JO HT FL FK CE lm AY GN.eq_1 AS.opn AS.cls AS.nilb AS.renb AS.up Bool.not_false Bool.not_true List.set_set List.set_cons_zero List.set_cons_succ List.set_nil List.mem_singleton forall_eq tn List.map_nil List.nil_append
set_option maxHeartbeats 3200000 in
theorem l8 {G : Gt} (hG : Aj G) (hh : G.e 16 = AA 1 ot ∧ G.e 174 = AP UM) : Gd G 150 (AA 1 fV) := by
 refine OW (dp := fun n => !(Nat.beq n 100002 || Nat.beq n 100004)) (fn := Tryz.f150) (n := 2) rfl hG ?_
 rintro ⟨cs, es, ⟨⟩⟩ hpre
 obtain ⟨hc, he, hel⟩ := hpre
 try dsimp only at hc he hel ⊢
 have hl40 : (es.take 40).length ≤ 40 := by rw [List.length_take]; omega
 have hle : (es.take 40).length ≤ es.length := by rw [List.length_take]; omega
 simp -implicitDefEqProofs only [Tryz.f150, go_sem, hh, seval]
 with_reducible repeat' (first | apply ai | intro _ | ((first | apply s1 | apply s2 | apply s3 | apply s4) <;> intro hb <;> simp -implicitDefEqProofs only [hb, go_sem, hh, seval] <;> try simp only [qz] at hb))
 all_goals first | with_reducible rfl | omega | with_reducible assumption | (show _ = true; rfl) | contradiction | decide | skip
 refine Ai (Le.renb 1005 0 1010 1901 rfl rfl rfl rfl) ?_
 simp -implicitDefEqProofs only [go_sem, hh, seval]
 refine Ai (Le.renb 1005 3 2010 1902 rfl rfl rfl rfl) (Ae ?_)
 simp -implicitDefEqProofs only [go_sem, hh, seval]
 with_reducible repeat' (first | apply ai | intro _ | ((first | apply s1 | apply s2 | apply s3 | apply s4) <;> intro hb <;> simp -implicitDefEqProofs only [hb, go_sem, hh, seval] <;> try simp only [qz] at hb))
 all_goals first | with_reducible rfl | omega | with_reducible assumption | (show _ = true; rfl) | contradiction | decide | skip
 refine AE [] (ι := {p : Nat × Wd // p.1 ≤ (es.take 40).length ∧ GZ (40 * p.1) p.2 ∧ kG ((es.take 40).drop p.1) p.2 = rZ cs es}) (fun p => ⟨[(1, .t (.sl 10 (es.map Ci))), (4, .pb 1004 0), (5, .pb 1005 0), (6, .t (.v (.int .i64 p.1.1)))], [(1004, some (.box [.nil, .t (.v (.int .i64 0)), .t (.v (.int .i64 0)), .nil])), (1005, some (.box [.h 1901, .t (.v (.int .i64 p.1.2.now)), .t (.v (.int .i64 p.1.2.marks)), .h 1902])), (1901, some (.arr false 7 (p.1.2.hosts.map Ah))), (1902, some (.arr true 3 (p.1.2.given.map A0)))]⟩) (fun p => (es.take 40).length - p.1.1) ⟨(0, Em cs), Nat.zero_le _, OZ hc, rfl⟩ rfl ?_ ?_
 ·simp -implicitDefEqProofs only [go_sem, hh, seval]
  first | (simp; done) | skip
 ·rintro ⟨⟨i, x⟩, hi, hx, hv⟩
  dsimp only at hi hx hv
  have hxl := hx.2.1
  have hlm : (es.take 40).length = min 40 es.length := List.length_take
  by_cases hlt : i < (es.take 40).length
  ·have hi1 : (i : Int) < es.length := by omega
   have hi2 : (i : Int) < 40 := by omega
   have hi3 : ((x.hosts.length : Nat) : Int) > 0 := by omega
   have hE := he _ (AC (xs := es) (j := i) (by omega))
   have hg : (es.take 40).getD i default = es.getD i default := by simp [List.getD_eq_getElem?_getD, List.getElem?_take, show i < 40 by omega]
   simp -implicitDefEqProofs only [hi1, hi2, hi3, eq_self, decide_true, decide_false, go_sem, hh, seval]
   with_reducible repeat' (first | apply ai | intro _ | ((first | apply s1 | apply s2 | apply s3 | apply s4) <;> intro hb <;> simp -implicitDefEqProofs only [hb, go_sem, hh, seval] <;> try simp only [qz] at hb))
   all_goals (try simp only [maxLen, tn] at *)
   all_goals first | with_reducible rfl | omega | with_reducible assumption | (show _ = true; rfl) | contradiction | decide | exact A7 hx (by omega) | exact ⟨A7 hx (by omega), hE⟩ | skip
   refine Ai (Le.renb 1005 0 1033 1901 rfl rfl rfl rfl) ?_
   simp -implicitDefEqProofs only [go_sem, hh, seval]
   refine Ai (Le.renb 1005 3 2033 1902 rfl rfl rfl rfl) (Ae ?_)
   simp -implicitDefEqProofs only [go_sem, hh, seval]
   with_reducible repeat' (first | apply ai | intro _ | ((first | apply s1 | apply s2 | apply s3 | apply s4) <;> intro hb <;> simp -implicitDefEqProofs only [hb, go_sem, hh, seval] <;> try simp only [qz] at hb))
   all_goals first | with_reducible rfl | omega | with_reducible assumption | (show _ = true; rfl) | contradiction | decide | skip
   refine ⟨⟨(i + 1, (EF x (es.getD i default)).1), by dsimp only; omega, by dsimp only; rw [Nat.mul_succ]; exact U6 hx (by omega), by rw [← hg]; exact (rY hlt).symm.trans hv⟩, by dsimp only; omega, ?_⟩
   simp -implicitDefEqProofs only [go_sem, hh, seval]
   first | (simp; done) | skip
  ·rw [List.drop_of_length_le (by omega), kG] at hv
   subst hv
   simp -implicitDefEqProofs only [go_sem, hh, seval]
   with_reducible repeat' (first | apply ai | intro _ | ((first | apply s1 | apply s2 | apply s3 | apply s4) <;> intro hb <;> simp -implicitDefEqProofs only [hb, go_sem, hh, seval] <;> try simp only [qz] at hb))
   all_goals (try simp only [maxLen, tn] at *)
   all_goals first | with_reducible rfl | omega | with_reducible assumption | (show _ = true; rfl) | contradiction | decide | exact absurd (by omega) hlt | skip
end
def Km (w : Wd) (h n : Int) (q : Rd) : Ev × Rd :=
 if Aa q 9 = 0 ∨ Aa q 9 = 1 then (⟨1, h, 0, 0, GS (q.nx 1) [40, 40, 12, 17, 18], false, WM (q.nx 2)⟩, Nq (q.nx 2))
 else if Aa q 9 = 2 ∨ Aa q 9 = 3 ∨ Aa q 9 = 4 then (⟨2, h, Aa (q.nx 1) w.hosts.length, n, GS (q.nx 2) [40, 40, 40, 3, 9, 13, 14, 15, 16, 17, 18], decide (Aa (q.nx 3) 6 = 0), Sm⟩, q.nx 4)
 else if Aa q 9 = 5 then (⟨3, h, 0, n, 0, decide (Aa (q.nx 1) 2 = 0), Sm⟩, q.nx 2)
 else if Aa q 9 = 6 then (⟨4, h, 0, 0, 0, false, Sm⟩, q.nx 1)
 else if Aa q 9 = 7 then (⟨GS (q.nx 1) [0, 6, 5], 0, 0, GS (q.nx 2) [1, 40, 0, 41], 0, false, Sm⟩, q.nx 3)
 else (⟨5, 0, 0, 1 + Aa (q.nx 1) 12, 0, false, Sm⟩, q.nx 2)
def pT (r : Rd) (xs : List Im) : Int × Rd :=
 if (xs.length : Int) > 0 then (if Aa (r.nx 2) 6 > 0 then ((xs.getD (Aa (r.nx 3) xs.length).toNat default).id, r.nx 4) else (Aa (r.nx 1) 4 + 1, r.nx 3)) else (Aa (r.nx 1) 4 + 1, r.nx 2)
abbrev OV (r : Rd) (w : Wd) : List Im := (w.hosts.getD (Aa r w.hosts.length).toNat default).spool.items
def B6 (r : Rd) (w : Wd) : Ev × Rd := Km w (Aa r w.hosts.length) (pT r (OV r w)).1 (pT r (OV r w)).2
section
variable {r q : Rd} {w : Wd} {h n : Int}
theorem VU (c : Aa q 9 = 0) : Km w h n q = (⟨1, h, 0, 0, GS (q.nx 1) [40, 40, 12, 17, 18], false, WM (q.nx 2)⟩, Nq (q.nx 2)) := if_pos (.inl c)
theorem VV (c : Aa q 9 = 1) : Km w h n q = (⟨1, h, 0, 0, GS (q.nx 1) [40, 40, 12, 17, 18], false, WM (q.nx 2)⟩, Nq (q.nx 2)) := if_pos (.inr c)
theorem Gl (c : Aa q 9 = 2 ∨ Aa q 9 = 3 ∨ Aa q 9 = 4) : Km w h n q = (⟨2, h, Aa (q.nx 1) w.hosts.length, n, GS (q.nx 2) [40, 40, 40, 3, 9, 13, 14, 15, 16, 17, 18], decide (Aa (q.nx 3) 6 = 0), Sm⟩, q.nx 4) := by unfold Km; rw [if_neg (by omega), if_pos c]
theorem VW (c : Aa q 9 = 5) : Km w h n q = (⟨3, h, 0, n, 0, decide (Aa (q.nx 1) 2 = 0), Sm⟩, q.nx 2) := by unfold Km; rw [if_neg (by omega), if_neg (by omega), if_pos c]
theorem VX (c : Aa q 9 = 6) : Km w h n q = (⟨4, h, 0, 0, 0, false, Sm⟩, q.nx 1) := by unfold Km; rw [if_neg (by omega), if_neg (by omega), if_neg (by omega), if_pos c]
theorem VY (c : Aa q 9 = 7) : Km w h n q = (⟨GS (q.nx 1) [0, 6, 5], 0, 0, GS (q.nx 2) [1, 40, 0, 41], 0, false, Sm⟩, q.nx 3) := by unfold Km; rw [if_neg (by omega), if_neg (by omega), if_neg (by omega), if_neg (by omega), if_pos c]
theorem VZ (c : ¬ Aa q 9 = 0 ∧ ¬ Aa q 9 = 1 ∧ ¬ Aa q 9 = 2 ∧ ¬ Aa q 9 = 3 ∧ ¬ Aa q 9 = 4 ∧ ¬ Aa q 9 = 5 ∧ ¬ Aa q 9 = 6 ∧ ¬ Aa q 9 = 7) : Km w h n q = (⟨5, 0, 0, 1 + Aa (q.nx 1) 12, 0, false, Sm⟩, q.nx 2) := by unfold Km; rw [if_neg (by omega), if_neg (by omega), if_neg (by omega), if_neg (by omega), if_neg (by omega)]
theorem Fy (a : ((OV r w).length : Int) > 0) (b : Aa (r.nx 2) 6 > 0) : B6 r w = Km w (Aa r w.hosts.length) ((OV r w).getD (Aa (r.nx 3) (OV r w).length).toNat default).id (r.nx 4) := by unfold B6 pT; rw [if_pos a, if_pos b]
theorem Fz (a : ((OV r w).length : Int) > 0) (b : ¬ Aa (r.nx 2) 6 > 0) : B6 r w = Km w (Aa r w.hosts.length) (Aa (r.nx 1) 4 + 1) (r.nx 3) := by unfold B6 pT; rw [if_pos a, if_neg b]
theorem F0 (a : ¬ ((OV r w).length : Int) > 0) : B6 r w = Km w (Aa r w.hosts.length) (Aa (r.nx 1) 4 + 1) (r.nx 2) := by unfold B6 pT; rw [if_neg a]
end
theorem J0 : Kc Sm := ⟨⟨by show (0 : Nat) ≤ 1048576; decide, by show (0 : Nat) ≤ 1048576; decide⟩, ⟨by show ((0 : Nat) : Int) ≤ 1048576; decide, fun _ q => by cases q⟩, ⟨by show ((0 : Nat) : Int) ≤ 1048576; decide, fun _ q => by cases q⟩⟩
theorem PW {w : Wd} {h n : Int} {q : Rd} (h0 : 0 ≤ q.p) (h1 : q.p ≤ 999990000) : YI (Km w h n q).1 ∧ (Km w h n q).2.b = q.b ∧ q.p ≤ (Km w h n q).2.p ∧ (Km w h n q).2.p ≤ q.p + 30 := by
 have hm := dI (r := q.nx 2) (by rw [AK]; omega) (by rw [AK]; omega)
 rw [AK, Bq] at hm
 have hk := MG (r := q.nx 2) (by rw [AK]; omega) (by rw [AK]; omega)
 have g1 : 0 ≤ GS (q.nx 1) [40, 40, 12, 17, 18] ∧ GS (q.nx 1) [40, 40, 12, 17, 18] ≤ 1000 := by
  have z := Iq (r := q.nx 1) (l := [40, 40, 12, 17, 18]) (by rw [AK]; omega) (by rw [AK]; omega) (by decide)
  simp only [List.mem_cons, List.not_mem_nil, or_false] at z
  omega
 have g2 : 0 ≤ GS (q.nx 2) [40, 40, 40, 3, 9, 13, 14, 15, 16, 17, 18] ∧ GS (q.nx 2) [40, 40, 40, 3, 9, 13, 14, 15, 16, 17, 18] ≤ 1000 := by
  have z := Iq (r := q.nx 2) (l := [40, 40, 40, 3, 9, 13, 14, 15, 16, 17, 18]) (by rw [AK]; omega) (by rw [AK]; omega) (by decide)
  simp only [List.mem_cons, List.not_mem_nil, or_false] at z
  omega
 unfold Km
 split
 ·exact ⟨⟨Ib hk, g1⟩, hm.1, by dsimp only; omega, by dsimp only; omega⟩
 ·split
  ·exact ⟨⟨J0, g2⟩, Bq .., by dsimp only; rw [AK]; omega, by dsimp only; rw [AK]; omega⟩
  ·split
   ·exact ⟨⟨J0, by show (0 : Int) ≤ 0; decide, by show (0 : Int) ≤ 1000; decide⟩, Bq .., by dsimp only; rw [AK]; omega, by dsimp only; rw [AK]; omega⟩
   ·split
    ·exact ⟨⟨J0, by show (0 : Int) ≤ 0; decide, by show (0 : Int) ≤ 1000; decide⟩, Bq .., by dsimp only; rw [AK]; omega, by dsimp only; rw [AK]; omega⟩
    ·split
     ·exact ⟨⟨J0, by show (0 : Int) ≤ 0; decide, by show (0 : Int) ≤ 1000; decide⟩, Bq .., by dsimp only; rw [AK]; omega, by dsimp only; rw [AK]; omega⟩
     ·exact ⟨⟨J0, by show (0 : Int) ≤ 0; decide, by show (0 : Int) ≤ 1000; decide⟩, Bq .., by dsimp only; rw [AK]; omega, by dsimp only; rw [AK]; omega⟩
theorem VT {r : Rd} {w : Wd} (h0 : 0 ≤ r.p) (h1 : r.p ≤ 999980000) : YI (B6 r w).1 ∧ (B6 r w).2.b = r.b ∧ r.p ≤ (B6 r w).2.p ∧ (B6 r w).2.p ≤ r.p + 34 := by
 by_cases a0 : ((OV r w).length : Int) > 0
 ·by_cases a1 : Aa (r.nx 2) 6 > 0
  ·rw [Fy a0 a1]
   have z := PW (w := w) (h := Aa r w.hosts.length) (n := ((OV r w).getD (Aa (r.nx 3) (OV r w).length).toNat default).id) (q := r.nx 4) (by rw [AK]; omega) (by rw [AK]; omega)
   rw [AK, Bq] at z
   exact ⟨z.1, z.2.1, by omega, by omega⟩
  ·rw [Fz a0 a1]
   have z := PW (w := w) (h := Aa r w.hosts.length) (n := Aa (r.nx 1) 4 + 1) (q := r.nx 3) (by rw [AK]; omega) (by rw [AK]; omega)
   rw [AK, Bq] at z
   exact ⟨z.1, z.2.1, by omega, by omega⟩
 ·rw [F0 a0]
  have z := PW (w := w) (h := Aa r w.hosts.length) (n := Aa (r.nx 1) 4 + 1) (q := r.nx 2) (by rw [AK]; omega) (by rw [AK]; omega)
  rw [AK, Bq] at z
  exact ⟨z.1, z.2.1, by omega, by omega⟩
def ft : Mt := HJ (lc D5 (lc TN.ag l0)) (fun p => (0 ≤ p.1.p ∧ p.1.p ≤ 999970000) ∧ 1 ≤ p.2.1.hosts.length ∧ p.2.1.hosts.length ≤ 1000) (fun p => ([D5.enc (B6 p.1 p.2.1).2, TN.ag.enc p.2.1], Oc.ag.enc (B6 p.1 p.2.1).1))
section
attribute [local go_sem] HW UU UE AK Bq BB BD BH Bm Cd Bh Bk lm List.length_append List.length_cons List.length_nil List.map_append List.map_nil Nat.zero_add List.nil_append AS.opn AS.cls AS.nilb AS.renb AS.up Bool.not_false Bool.not_true List.set_set List.set_cons_zero List.set_cons_succ List.set_nil List.mem_singleton forall_eq GH JT JU JV E0 E3
set_option maxHeartbeats 6400000 in
theorem mU {G : Gt} (hG : Aj G) (hh : G.e 43 = AP HW ∧ G.e 60 = AP UU ∧ G.e 112 = AP UE) : Gd G 187 (AP ft) := by
 refine Jh (dp := fun _ => true) (fn := Tryz.f187) (n := 2) rfl hG ?_
 rintro ⟨r, w, ⟨⟩⟩ hpre
 obtain ⟨⟨h1, h2⟩, hl1, hl2⟩ := hpre
 try dsimp only at h1 h2 hl1 hl2 ⊢
 have hb := CA (r := r) (n := w.hosts.length) h1 (by omega)
 have hb3 : ((OV r w).length : Int) > 0 → 0 ≤ Aa (r.nx 3) (OV r w).length ∧ Aa (r.nx 3) (OV r w).length < (OV r w).length := fun q => by
  have z := CA (r := r.nx 3) (n := (OV r w).length) (by rw [AK]; omega) (by rw [AK]; omega)
  exact ⟨z.1, z.2 (by omega)⟩
 have ht : ∀ k : Int, 0 ≤ k → k ≤ 9 → 0 ≤ Aa (r.nx k) 12 ∧ Aa (r.nx k) 12 < 12 := fun k a b => by
  have z := CA (r := r.nx k) (n := 12) (by rw [AK]; omega) (by rw [AK]; omega)
  exact ⟨z.1, z.2 (by decide)⟩
 have ht3 := ht 3 (by decide) (by decide)
 have ht4 := ht 4 (by decide) (by decide)
 have ht5 := ht 5 (by decide) (by decide)
 have hb1 := CA (r := r.nx 1) (n := 4) (by rw [AK]; omega) (by rw [AK]; omega)
 refine BE (((OV r w).length : Int) > 0) (fun a0 => BE (Aa (r.nx 2) 6 > 0) (fun a1 => BE (Aa (r.nx 4) 9 = 0) (fun c0 => have e_ : B6 r w = _ := (Fy a0 a1).trans (VU c0); have c1 := trivial; have c2 := trivial; have c3 := trivial; have c4 := trivial; have c5 := trivial; have c6 := trivial; have c7 := trivial; ?_) (fun c0 => BE (Aa (r.nx 4) 9 = 1) (fun c1 => have e_ : B6 r w = _ := (Fy a0 a1).trans (VV c1); have c2 := trivial; have c3 := trivial; have c4 := trivial; have c5 := trivial; have c6 := trivial; have c7 := trivial; ?_) (fun c1 => BE (Aa (r.nx 4) 9 = 2) (fun c2 => have e_ : B6 r w = _ := (Fy a0 a1).trans (Gl (.inl c2)); have c3 := trivial; have c4 := trivial; have c5 := trivial; have c6 := trivial; have c7 := trivial; ?_) (fun c2 => BE (Aa (r.nx 4) 9 = 3) (fun c3 => have e_ : B6 r w = _ := (Fy a0 a1).trans (Gl (.inr (.inl c3))); have c4 := trivial; have c5 := trivial; have c6 := trivial; have c7 := trivial; ?_) (fun c3 => BE (Aa (r.nx 4) 9 = 4) (fun c4 => have e_ : B6 r w = _ := (Fy a0 a1).trans (Gl (.inr (.inr c4))); have c5 := trivial; have c6 := trivial; have c7 := trivial; ?_) (fun c4 => BE (Aa (r.nx 4) 9 = 5) (fun c5 => have e_ : B6 r w = _ := (Fy a0 a1).trans (VW c5); have c6 := trivial; have c7 := trivial; ?_) (fun c5 => BE (Aa (r.nx 4) 9 = 6) (fun c6 => have e_ : B6 r w = _ := (Fy a0 a1).trans (VX c6); have c7 := trivial; ?_) (fun c6 => BE (Aa (r.nx 4) 9 = 7) (fun c7 => have e_ : B6 r w = _ := (Fy a0 a1).trans (VY c7); ?_) (fun c7 => have e_ : B6 r w = _ := (Fy a0 a1).trans (VZ ⟨c0, c1, c2, c3, c4, c5, c6, c7⟩); ?_))))))))) (fun a1 => BE (Aa (r.nx 3) 9 = 0) (fun c0 => have e_ : B6 r w = _ := (Fz a0 a1).trans (VU c0); have c1 := trivial; have c2 := trivial; have c3 := trivial; have c4 := trivial; have c5 := trivial; have c6 := trivial; have c7 := trivial; ?_) (fun c0 => BE (Aa (r.nx 3) 9 = 1) (fun c1 => have e_ : B6 r w = _ := (Fz a0 a1).trans (VV c1); have c2 := trivial; have c3 := trivial; have c4 := trivial; have c5 := trivial; have c6 := trivial; have c7 := trivial; ?_) (fun c1 => BE (Aa (r.nx 3) 9 = 2) (fun c2 => have e_ : B6 r w = _ := (Fz a0 a1).trans (Gl (.inl c2)); have c3 := trivial; have c4 := trivial; have c5 := trivial; have c6 := trivial; have c7 := trivial; ?_) (fun c2 => BE (Aa (r.nx 3) 9 = 3) (fun c3 => have e_ : B6 r w = _ := (Fz a0 a1).trans (Gl (.inr (.inl c3))); have c4 := trivial; have c5 := trivial; have c6 := trivial; have c7 := trivial; ?_) (fun c3 => BE (Aa (r.nx 3) 9 = 4) (fun c4 => have e_ : B6 r w = _ := (Fz a0 a1).trans (Gl (.inr (.inr c4))); have c5 := trivial; have c6 := trivial; have c7 := trivial; ?_) (fun c4 => BE (Aa (r.nx 3) 9 = 5) (fun c5 => have e_ : B6 r w = _ := (Fz a0 a1).trans (VW c5); have c6 := trivial; have c7 := trivial; ?_) (fun c5 => BE (Aa (r.nx 3) 9 = 6) (fun c6 => have e_ : B6 r w = _ := (Fz a0 a1).trans (VX c6); have c7 := trivial; ?_) (fun c6 => BE (Aa (r.nx 3) 9 = 7) (fun c7 => have e_ : B6 r w = _ := (Fz a0 a1).trans (VY c7); ?_) (fun c7 => have e_ : B6 r w = _ := (Fz a0 a1).trans (VZ ⟨c0, c1, c2, c3, c4, c5, c6, c7⟩); ?_)))))))))) (fun a0 => BE (Aa (r.nx 2) 9 = 0) (fun c0 => have e_ : B6 r w = _ := (F0 a0).trans (VU c0); have a1 := trivial; have c1 := trivial; have c2 := trivial; have c3 := trivial; have c4 := trivial; have c5 := trivial; have c6 := trivial; have c7 := trivial; ?_) (fun c0 => BE (Aa (r.nx 2) 9 = 1) (fun c1 => have e_ : B6 r w = _ := (F0 a0).trans (VV c1); have a1 := trivial; have c2 := trivial; have c3 := trivial; have c4 := trivial; have c5 := trivial; have c6 := trivial; have c7 := trivial; ?_) (fun c1 => BE (Aa (r.nx 2) 9 = 2) (fun c2 => have e_ : B6 r w = _ := (F0 a0).trans (Gl (.inl c2)); have a1 := trivial; have c3 := trivial; have c4 := trivial; have c5 := trivial; have c6 := trivial; have c7 := trivial; ?_) (fun c2 => BE (Aa (r.nx 2) 9 = 3) (fun c3 => have e_ : B6 r w = _ := (F0 a0).trans (Gl (.inr (.inl c3))); have a1 := trivial; have c4 := trivial; have c5 := trivial; have c6 := trivial; have c7 := trivial; ?_) (fun c3 => BE (Aa (r.nx 2) 9 = 4) (fun c4 => have e_ : B6 r w = _ := (F0 a0).trans (Gl (.inr (.inr c4))); have a1 := trivial; have c5 := trivial; have c6 := trivial; have c7 := trivial; ?_) (fun c4 => BE (Aa (r.nx 2) 9 = 5) (fun c5 => have e_ : B6 r w = _ := (F0 a0).trans (VW c5); have a1 := trivial; have c6 := trivial; have c7 := trivial; ?_) (fun c5 => BE (Aa (r.nx 2) 9 = 6) (fun c6 => have e_ : B6 r w = _ := (F0 a0).trans (VX c6); have a1 := trivial; have c7 := trivial; ?_) (fun c6 => BE (Aa (r.nx 2) 9 = 7) (fun c7 => have e_ : B6 r w = _ := (F0 a0).trans (VY c7); have a1 := trivial; ?_) (fun c7 => have e_ : B6 r w = _ := (F0 a0).trans (VZ ⟨c0, c1, c2, c3, c4, c5, c6, c7⟩); have a1 := trivial; ?_)))))))))
 all_goals
  try rw [e_]
  simp -implicitDefEqProofs only [Tryz.f187, a0, a1, c0, c1, c2, c3, c4, c5, c6, c7, Sm, eq_self, decide_true, decide_false, Int.reduceEq, go_sem, hh, Int.reduceAdd, seval]
  with_reducible repeat' (first | apply ai | intro _ | ((first | apply s1 | apply s2 | apply s3 | apply s4) <;> intro hb <;> simp -implicitDefEqProofs only [hb, go_sem, hh, Int.reduceAdd, seval] <;> try simp only [qz] at hb))
  all_goals (try simp only [maxLen, tn, AK, Bq] at *)
  all_goals first | rfl | omega | decide | with_reducible assumption | (show AZ _ = true; rfl) | exact Gw (by assumption) | contradiction | exact (hb3 a0).1 | exact (hb3 a0).2 | (rename_i q; simp only [List.mem_cons, List.not_mem_nil, or_false] at q ⊢; omega) | skip
end
theorem Oj {N : Nat} {w : Wd} (q : GZ N w) (h : N ≤ 1048576) : Ke w := ⟨⟨by have := q.2.1.2; omega, fun x hx => Du (q.1 x hx).1 (q.1 x hx).2 h⟩, ⟨by have := q.2.2.2.2.1; omega, q.2.2.2.2.2⟩⟩
abbrev Tf := Rd × Wd × List Ev
open Classical in
noncomputable def Va (x : Tf) : Tf :=
 if (EF x.2.1 (B6 x.1 x.2.1).1).2 = true then ((B6 x.1 x.2.1).2, (EF x.2.1 (B6 x.1 x.2.1).1).1, x.2.2 ++ [(B6 x.1 x.2.1).1])
 else if Aa (B6 x.1 x.2.1).2 6 > 0 then ((B6 x.1 x.2.1).2.nx 1, x.2.1, x.2.2)
 else ((B6 x.1 x.2.1).2.nx 1, (EF x.2.1 (B6 x.1 x.2.1).1).1, x.2.2 ++ [(B6 x.1 x.2.1).1])
theorem cp {r : Rd} {w : Wd} {l : List Ev} (h : (EF w (B6 r w).1).2 = true) : Va (r, w, l) = ((B6 r w).2, (EF w (B6 r w).1).1, l ++ [(B6 r w).1]) := if_pos h
theorem co {r : Rd} {w : Wd} {l : List Ev} (h : (EF w (B6 r w).1).2 = false) (c : Aa (B6 r w).2 6 > 0) : Va (r, w, l) = ((B6 r w).2.nx 1, w, l) := by
 unfold Va; rw [if_neg (by show ¬ (EF w (B6 r w).1).2 = true; rw [h]; exact Bool.false_ne_true), if_pos c]
theorem cn {r : Rd} {w : Wd} {l : List Ev} (h : (EF w (B6 r w).1).2 = false) (c : ¬ Aa (B6 r w).2 6 > 0) : Va (r, w, l) = ((B6 r w).2.nx 1, (EF w (B6 r w).1).1, l ++ [(B6 r w).1]) := by
 unfold Va; rw [if_neg (by show ¬ (EF w (B6 r w).1).2 = true; rw [h]; exact Bool.false_ne_true), if_neg c]
noncomputable def L3 : Nat → Tf → Tf
 | 0, x => x
 | n + 1, x => L3 n (Va x)
def nX (k : Nat) (p : Int) (x : Tf) : Prop := GZ (40 * k) x.2.1 ∧ p ≤ x.1.p ∧ x.1.p ≤ p + 40 * k ∧ x.2.2.length ≤ k ∧ ∀ e ∈ x.2.2, YI e
theorem Qx {k : Nat} {p : Int} {x : Tf} (q : nX k p x) (hk : k ≤ 1000) (h0 : 0 ≤ p) (h1 : p ≤ 999900000) : nX (k + 1) p (Va x) := by
 obtain ⟨r, w, l⟩ := x
 obtain ⟨q1, q2, q3, q4, q5⟩ := q
 dsimp only at q1 q2 q3 q4 q5
 obtain ⟨z1, z2, z3, z4⟩ := VT (r := r) (w := w) (by omega) (by omega)
 have zw : GZ (40 * (k + 1)) (EF w (B6 r w).1).1 := by rw [Nat.mul_succ]; exact U6 q1 (by omega)
 have zl : ∀ e ∈ l ++ [(B6 r w).1], YI e := fun e he => by
  rcases List.mem_append.1 he with he | he
  ·exact q5 e he
  ·rw [List.mem_singleton] at he; subst he; exact z1
 have zn : (l ++ [(B6 r w).1]).length ≤ k + 1 := by rw [List.length_append]; show l.length + 1 ≤ k + 1; omega
 cases hd : (EF w (B6 r w).1).2
 ·by_cases c : Aa (B6 r w).2 6 > 0
  ·rw [co hd c]; exact ⟨A7 q1 (by omega), by dsimp only; rw [AK]; omega, by dsimp only; rw [AK]; omega, by dsimp only; omega, q5⟩
  ·rw [cn hd c]; exact ⟨zw, by dsimp only; rw [AK]; omega, by dsimp only; rw [AK]; omega, zn, zl⟩
 ·rw [cp hd]; exact ⟨zw, by dsimp only; omega, by dsimp only; omega, zn, zl⟩
theorem Vb {p : Int} (h0 : 0 ≤ p) (h1 : p ≤ 999900000) : ∀ (n : Nat) {k : Nat} {x : Tf}, nX k p x → k + n ≤ 1000 → nX (k + n) p (L3 n x)
 | 0, k, x, q, _ => q
 | n + 1, k, x, q, h => by
   have e : k + (n + 1) = k + 1 + n := by omega
   rw [e]
   exact Vb h0 h1 n (Qx q (by omega) h0 h1) (by omega)
theorem PY {n i : Nat} {x : Tf} (h : i < n) : L3 (n - i) x = L3 (n - (i + 1)) (Va x) := by
 have e : n - i = (n - (i + 1)) + 1 := by omega
 rw [e]; rfl
theorem cm {r : Rd} {cs : List Cf} (h : OY cs) : nX 0 r.p (r, Em cs, []) := ⟨OZ h, Int.le_refl _, by dsimp only; omega, Nat.le_refl _, fun _ q => by cases q⟩
noncomputable def NY (r : Rd) (cs : List Cf) (m : Int) : Tf := L3 m.toNat (r, Em cs, [])
theorem Ii (r : Rd) : OY (DG r) := by
 have e : Ed (Aa r 5) = DG r := rfl
 obtain ⟨h1, h2⟩ := Qq (Aa r 5)
 obtain ⟨_, h3, h4⟩ := Lq (Aa r 5)
 have h5 := ZD (Aa r 5)
 rw [e] at h1 h4 h5
 exact ⟨⟨by omega, fun c hc => QM (h1 c hc)⟩, h1, h5⟩
def fi : Mt := HJ (lc D5 (lc I0.asl (lc BJ l0))) (fun p => (0 ≤ p.1.p ∧ p.1.p ≤ 999800000) ∧ OY p.2.1 ∧ 0 ≤ p.2.2.1 ∧ p.2.2.1 ≤ 1000) (fun p => ([D5.enc (NY p.1 p.2.1 p.2.2.1).1, I0.asl.enc p.2.1, BJ.enc p.2.2.1], .o false 10 ((NY p.1 p.2.1 p.2.2.1).2.2.map Ci)))
section
attribute [local go_sem] HW ot ft UL UM AK Bq BB BD BH Bm Cd Bh Bk lm List.length_append List.length_cons List.length_nil List.map_append List.map_nil Nat.zero_add List.nil_append AS.opn AS.cls AS.nilb AS.renb AS.up Bool.not_false Bool.not_true List.set_set List.set_cons_zero List.set_cons_succ List.set_nil List.mem_singleton forall_eq Md JO HT FL FK GN.eq_1 CE AY
set_option maxHeartbeats 6400000 in
theorem mM {G : Gt} (hG : Aj G) (hh : G.e 43 = AP HW ∧ G.e 16 = AA 1 ot ∧ G.e 187 = AP ft ∧ G.e 149 = AA 1 UL ∧ G.e 174 = AP UM) : Gd G 172 (AP fi) := by
 refine Jh (dp := fun n => !(Nat.beq n 100002 || Nat.beq n 100005 || Nat.beq n 15 || Nat.beq n 41 || Nat.beq n 42)) (fn := Tryz.f172) (n := 3) rfl hG ?_
 rintro ⟨r, cs, m, ⟨⟩⟩ hpre
 obtain ⟨⟨h1, h2⟩, hc, hm0, hm1⟩ := hpre
 try dsimp only at h1 h2 hc hm0 hm1 ⊢
 simp -implicitDefEqProofs only [Tryz.f172, go_sem, hh, Int.reduceAdd, seval]
 with_reducible repeat' (first | apply ai | intro _ | ((first | apply s1 | apply s2 | apply s3 | apply s4) <;> intro hb <;> simp -implicitDefEqProofs only [hb, go_sem, hh, Int.reduceAdd, seval] <;> try simp only [qz] at hb))
 all_goals first | with_reducible rfl | omega | with_reducible assumption | (show _ = true; rfl) | contradiction | decide | skip
 refine Ai (Le.frzL [1014, 2014]) (Ae ?_)
 simp -implicitDefEqProofs only [go_sem, hh, Int.reduceAdd, seval]
 with_reducible repeat' (first | apply ai | intro _ | ((first | apply s1 | apply s2 | apply s3 | apply s4) <;> intro hb <;> simp -implicitDefEqProofs only [hb, go_sem, hh, Int.reduceAdd, seval] <;> try simp only [qz] at hb))
 all_goals first | with_reducible rfl | omega | with_reducible assumption | (show _ = true; rfl) | contradiction | decide | skip
 refine AE [(8, 908, false, 10)] (ι := {p : Nat × Tf // p.1 ≤ m.toNat ∧ nX p.1 r.p p.2 ∧ L3 (m.toNat - p.1) p.2 = NY r cs m}) (fun p => ⟨[(0, .pb 1900 0), (2, .t (.v (.int .i64 m))), (7, .pb 1007 0), (8, .h 908), (9, .t (.v (.int .i64 p.1.1)))], [(1900, some (.box [.t (.sl 1 (p.1.2.1.b.map CG)), .t (.v (.int .i64 p.1.2.1.p))])), (1007, some (.box [.t (.sl 7 (p.1.2.2.1.hosts.map Ah)), .t (.v (.int .i64 p.1.2.2.1.now)), .t (.v (.int .i64 p.1.2.2.1.marks)), .t (.sl 3 (p.1.2.2.1.given.map A0))])), (908, some (.arr false 10 (p.1.2.2.2.map Ci)))]⟩) (fun p => m.toNat - p.1.1) ⟨(0, (r, Em cs, [])), Nat.zero_le _, cm hc, rfl⟩ rfl ?_ ?_
 ·simp -implicitDefEqProofs only [go_sem, hh, Int.reduceAdd, seval]
  first | (simp; done) | skip
 ·rintro ⟨⟨i, q, w, l⟩, hi, hx, hv⟩
  dsimp only at hi hx hv
  have hxw := A7 (M := 1000000) hx.1 (by omega)
  have hxl : 1 ≤ w.hosts.length ∧ w.hosts.length ≤ 4 := hx.1.2.1
  have hxo := Oj hx.1 (by omega)
  have hxp : r.p ≤ q.p ∧ q.p ≤ r.p + 40 * i := ⟨hx.2.1, hx.2.2.1⟩
  have hxn : l.length ≤ i := hx.2.2.2.1
  obtain ⟨z1, z2, z3, z4⟩ := VT (r := q) (w := w) (by omega) (by omega)
  by_cases hlt : i < m.toNat
  ·have hlt2 : (i : Int) < m := by omega
   cases hd : (EF w (B6 q w).1).2
   ·by_cases hp : Aa (B6 q w).2 6 > 0
    ·simp -implicitDefEqProofs only [hlt2, hd, hp, Bool.not_false, Bool.not_true, eq_self, decide_true, decide_false, go_sem, hh, Int.reduceAdd, seval]
     with_reducible repeat' (first | apply ai | intro _ | ((first | apply s1 | apply s2 | apply s3 | apply s4) <;> intro hb <;> simp -implicitDefEqProofs only [hb, go_sem, hh, Int.reduceAdd, seval] <;> try simp only [qz] at hb))
     all_goals (try simp only [maxLen, tn, lm] at *)
     all_goals first | with_reducible rfl | omega | with_reducible assumption | (show _ = true; rfl) | contradiction | decide | exact ⟨hxw, z1⟩ | skip
     refine Ae ?_
     simp -implicitDefEqProofs only [go_sem, hh, Int.reduceAdd, seval]
     with_reducible repeat' (first | apply ai | intro _ | ((first | apply s1 | apply s2 | apply s3 | apply s4) <;> intro hb <;> simp -implicitDefEqProofs only [hb, go_sem, hh, Int.reduceAdd, seval] <;> try simp only [qz] at hb))
     all_goals first | with_reducible rfl | omega | with_reducible assumption | (show _ = true; rfl) | contradiction | decide | skip
     refine ⟨⟨(i + 1, Va (q, w, l)), by dsimp only; omega, Qx hx (by omega) h1 (by omega), (PY hlt).symm.trans hv⟩, by dsimp only; omega, ?_⟩
     simp -implicitDefEqProofs only [go_sem, hh, Int.reduceAdd, seval]
     simp only [co hd hp, AK, Bq]
     first | (simp; done) | skip
    ·simp -implicitDefEqProofs only [hlt2, hd, hp, Bool.not_false, Bool.not_true, eq_self, decide_true, decide_false, go_sem, hh, Int.reduceAdd, seval]
     with_reducible repeat' (first | apply ai | intro _ | ((first | apply s1 | apply s2 | apply s3 | apply s4) <;> intro hb <;> simp -implicitDefEqProofs only [hb, go_sem, hh, Int.reduceAdd, seval] <;> try simp only [qz] at hb))
     all_goals (try simp only [maxLen, tn, lm] at *)
     all_goals first | with_reducible rfl | omega | with_reducible assumption | (show _ = true; rfl) | contradiction | decide | exact ⟨hxw, z1⟩ | skip
     refine Ai (Le.frzL [1028, 2028]) (Ae ?_)
     simp -implicitDefEqProofs only [go_sem, hh, Int.reduceAdd, seval]
     with_reducible repeat' (first | apply ai | intro _ | ((first | apply s1 | apply s2 | apply s3 | apply s4) <;> intro hb <;> simp -implicitDefEqProofs only [hb, go_sem, hh, Int.reduceAdd, seval] <;> try simp only [qz] at hb))
     all_goals first | with_reducible rfl | omega | with_reducible assumption | (show _ = true; rfl) | contradiction | decide | skip
     refine ⟨⟨(i + 1, Va (q, w, l)), by dsimp only; omega, Qx hx (by omega) h1 (by omega), (PY hlt).symm.trans hv⟩, by dsimp only; omega, ?_⟩
     simp -implicitDefEqProofs only [go_sem, hh, Int.reduceAdd, seval]
     simp only [cn hd hp, AK, Bq]
     first | (simp [Ci]; done) | skip
   ·simp -implicitDefEqProofs only [hlt2, hd, Bool.not_false, Bool.not_true, eq_self, decide_true, decide_false, go_sem, hh, Int.reduceAdd, seval]
    with_reducible repeat' (first | apply ai | intro _ | ((first | apply s1 | apply s2 | apply s3 | apply s4) <;> intro hb <;> simp -implicitDefEqProofs only [hb, go_sem, hh, Int.reduceAdd, seval] <;> try simp only [qz] at hb))
    all_goals (try simp only [maxLen, tn, lm] at *)
    all_goals first | with_reducible rfl | omega | with_reducible assumption | (show _ = true; rfl) | contradiction | decide | exact ⟨hxw, z1⟩ | skip
    refine Ai (Le.frzL [1028, 2028]) (Ae ?_)
    simp -implicitDefEqProofs only [go_sem, hh, Int.reduceAdd, seval]
    with_reducible repeat' (first | apply ai | intro _ | ((first | apply s1 | apply s2 | apply s3 | apply s4) <;> intro hb <;> simp -implicitDefEqProofs only [hb, go_sem, hh, Int.reduceAdd, seval] <;> try simp only [qz] at hb))
    all_goals first | with_reducible rfl | omega | with_reducible assumption | (show _ = true; rfl) | contradiction | decide | skip
    refine ⟨⟨(i + 1, Va (q, w, l)), by dsimp only; omega, Qx hx (by omega) h1 (by omega), (PY hlt).symm.trans hv⟩, by dsimp only; omega, ?_⟩
    simp -implicitDefEqProofs only [go_sem, hh, Int.reduceAdd, seval]
    simp only [cp hd, AK, Bq]
    first | (simp [Ci]; done) | skip
  ·have hlt2 : ¬ (i : Int) < m := by omega
   have e0 : m.toNat - i = 0 := by omega
   rw [e0, L3] at hv
   obtain ⟨rfl, rfl, rfl⟩ : q = (NY r cs m).1 ∧ w = (NY r cs m).2.1 ∧ l = (NY r cs m).2.2 := by rw [← hv]; exact ⟨rfl, rfl, rfl⟩
   simp -implicitDefEqProofs only [hlt2, eq_self, decide_true, decide_false, go_sem, hh, Int.reduceAdd, seval]
   with_reducible repeat' (first | apply ai | intro _ | ((first | apply s1 | apply s2 | apply s3 | apply s4) <;> intro hb <;> simp -implicitDefEqProofs only [hb, go_sem, hh, Int.reduceAdd, seval] <;> try simp only [qz] at hb))
   all_goals (try simp only [maxLen, tn] at *)
   all_goals first | with_reducible rfl | omega | with_reducible assumption | (show _ = true; rfl) | contradiction | decide | skip
end
noncomputable def IQ (r : Rd) : Tf := NY (r.nx 2) (DG r) (GS (r.nx 1) [0, 12, 30, 60])
theorem rb {r : Rd} (h : 0 ≤ r.p) (h1 : r.p ≤ 999999900) : 0 ≤ GS (r.nx 1) [0, 12, 30, 60] ∧ GS (r.nx 1) [0, 12, 30, 60] ≤ 60 := by
 have z := Iq (r := r.nx 1) (l := [0, 12, 30, 60]) (by rw [AK]; omega) (by rw [AK]; omega) (by decide)
 simp only [List.mem_cons, List.not_mem_nil, or_false] at z
 omega
theorem RT {r : Rd} (h : 0 ≤ r.p) (h1 : r.p ≤ 999800000) : (∀ e ∈ (IQ r).2.2, YI e) ∧ (IQ r).2.2.length ≤ 60 ∧ r.p ≤ (IQ r).1.p ∧ (IQ r).1.p ≤ r.p + 2500 := by
 have hm := rb h (by omega)
 have z := Vb (p := (r.nx 2).p) (by rw [AK]; omega) (by rw [AK]; omega) (GS (r.nx 1) [0, 12, 30, 60]).toNat (cm (r := r.nx 2) (Ii r)) (by omega)
 obtain ⟨_, z2, z3, z4, z5⟩ := z
 rw [AK] at z2 z3
 exact ⟨z5, Nat.le_trans z4 (by omega), by show r.p ≤ (L3 _ _).1.p; omega, by show (L3 _ _).1.p ≤ _; omega⟩
theorem jD (r : Rd) : NY (r.nx 2) (DG r) (GS (r.nx 1) [0, 12, 30, 60]) = IQ r := rfl
noncomputable def De (r : Rd) : Wd := rZ (DG r) (IQ r).2.2
theorem sX (r : Rd) : rZ (DG r) (IQ r).2.2 = De r := rfl
theorem LW (r : Rd) : GZ 1600 (De r) := ra (Ii r) _
def fU : Mt := HJ (lc D5 l0) (fun p => 0 ≤ p.1.p ∧ p.1.p ≤ 999700000) (fun p => ([D5.enc (IQ p.1).1], .tup [.t (.sl 3 ((DG p.1).map C9)), .o false 10 ((IQ p.1).2.2.map Ci)]))
section
attribute [local go_sem] UU oy fi AK Bq BB BD BH Bm Cd Bh Bk lm List.length_append List.length_cons List.length_nil List.map_append List.map_nil Nat.zero_add List.nil_append AS.opn AS.cls AS.nilb AS.renb AS.up Bool.not_false Bool.not_true List.set_set List.set_cons_zero List.set_cons_succ List.set_nil List.mem_singleton forall_eq CE GH jD JT JU JV E0 E3
set_option maxHeartbeats 1600000 in
theorem l6 {G : Gt} (hG : Aj G) (hh : G.e 60 = AP UU ∧ G.e 42 = AP oy ∧ G.e 172 = AP fi) : Gd G 148 (AP fU) := by
 refine Jh (dp := fun n => !(Nat.beq n 100002)) (fn := Tryz.f148) (n := 1) rfl hG ?_
 rintro ⟨r, ⟨⟩⟩ hpre
 obtain ⟨h1, h2⟩ := hpre
 try dsimp only at h1 h2 ⊢
 have hm := rb h1 (by omega)
 have hc := Ii r
 simp -implicitDefEqProofs only [Tryz.f148, go_sem, hh, Int.reduceAdd, seval]
 with_reducible repeat' (first | apply ai | intro _ | ((first | apply s1 | apply s2 | apply s3 | apply s4) <;> intro hb <;> simp -implicitDefEqProofs only [hb, go_sem, hh, Int.reduceAdd, seval] <;> try simp only [qz] at hb))
 all_goals first | with_reducible rfl | omega | with_reducible assumption | (show _ = true; rfl) | contradiction | decide | skip
 refine Ai (Le.frzL [1006]) (Ae ?_)
 simp -implicitDefEqProofs only [go_sem, hh, Int.reduceAdd, seval]
 with_reducible repeat' (first | apply ai | intro _ | ((first | apply s1 | apply s2 | apply s3 | apply s4) <;> intro hb <;> simp -implicitDefEqProofs only [hb, go_sem, hh, Int.reduceAdd, seval] <;> try simp only [qz] at hb))
 all_goals (try simp only [maxLen, tn] at *)
 all_goals first | with_reducible rfl | omega | with_reducible assumption | (show _ = true; rfl) | contradiction | decide | skip
end
def fE : Mt := HJ (lc D5 l0) (fun p => 0 ≤ p.1.p ∧ p.1.p ≤ 999600000) (fun p => ([D5.enc (IQ p.1).1], G5 (De p.1)))
section
attribute [local go_sem] fU fV UL AK Bq BB BD BH Bm Cd Bh Bk lm List.length_append List.length_cons List.length_nil List.map_append List.map_nil Nat.zero_add List.nil_append AS.opn AS.cls AS.nilb AS.renb AS.up Bool.not_false Bool.not_true List.set_set List.set_cons_zero List.set_cons_succ List.set_nil List.mem_singleton forall_eq CE Md sX
set_option maxHeartbeats 1600000 in
theorem lN {G : Gt} (hG : Aj G) (hh : G.e 148 = AP fU ∧ G.e 150 = AA 1 fV ∧ G.e 149 = AA 1 UL) : Gd G 109 (AP fE) := by
 refine Jh (dp := fun _ => true) (fn := Tryz.f109) (n := 1) rfl hG ?_
 rintro ⟨r, ⟨⟩⟩ hpre
 obtain ⟨h1, h2⟩ := hpre
 try dsimp only at h1 h2 ⊢
 have hc := Ii r
 obtain ⟨he, hl, _, _⟩ := RT h1 (by omega)
 have hw := Oj (LW r) (by decide)
 simp -implicitDefEqProofs only [Tryz.f109, go_sem, hh, Int.reduceAdd, seval]
 with_reducible repeat' (first | apply ai | intro _ | ((first | apply s1 | apply s2 | apply s3 | apply s4) <;> intro hb <;> simp -implicitDefEqProofs only [hb, go_sem, hh, Int.reduceAdd, seval] <;> try simp only [qz] at hb))
 all_goals (try simp only [maxLen, tn] at *)
 all_goals first | with_reducible rfl | omega | with_reducible assumption | (show _ = true; rfl) | contradiction | decide | exact ⟨hc, he, by omega⟩ | exact he _ (by assumption) | skip
end
noncomputable def Ep (r : Rd) : Rd := (IQ r).1
noncomputable def cH (r : Rd) : Int := Aa (Ep r) (De r).hosts.length
noncomputable def Hy (r : Rd) : Int := Aa ((Ep r).nx 1) 14
noncomputable abbrev R3 (r : Rd) : Hs := (De r).hosts.getD (cH r).toNat default
noncomputable def aw (r : Rd) : Wd × Rd :=
 if Hy r = 0 then (⟨(De r).hosts.set (cH r).toNat ⟨(R3 r).conf, (Ki ((Ep r).nx 2)).1, (R3 r).boxes, (R3 r).lost⟩, (De r).now, (De r).marks, (De r).given⟩, (Ki ((Ep r).nx 2)).2)
 else if Hy r = 1 then (⟨(De r).hosts.set (cH r).toNat ⟨(DO ((Ep r).nx 2)).1, (R3 r).spool, (R3 r).boxes, (R3 r).lost⟩, (De r).now, (De r).marks, (De r).given⟩, (DO ((Ep r).nx 2)).2)
 else if Hy r = 2 then (⟨(De r).hosts, GS ((Ep r).nx 2) [-1, 10000, 9990], (De r).marks, (De r).given⟩, (Ep r).nx 3)
 else if Hy r = 3 then (⟨(De r).hosts, (De r).now, (De r).marks, (De r).given ++ [⟨Mo ((Ep r).nx 2) [⟨#[]⟩, ⟨#[73, 100, 58, 32, 57]⟩, ⟨#[73, 100, 58, 32]⟩], (Ch ((Ep r).nx 3)).1⟩]⟩, (Ch ((Ep r).nx 3)).2)
 else if Hy r = 4 then (⟨[], (De r).now, (De r).marks, (De r).given⟩, (Ep r).nx 2)
 else (De r, (Ep r).nx 2)
section
variable {r : Rd}
theorem oT (c : Hy r = 0) : aw r = (⟨(De r).hosts.set (cH r).toNat ⟨(R3 r).conf, (Ki ((Ep r).nx 2)).1, (R3 r).boxes, (R3 r).lost⟩, (De r).now, (De r).marks, (De r).given⟩, (Ki ((Ep r).nx 2)).2) := if_pos c
theorem oU (c : Hy r = 1) : aw r = (⟨(De r).hosts.set (cH r).toNat ⟨(DO ((Ep r).nx 2)).1, (R3 r).spool, (R3 r).boxes, (R3 r).lost⟩, (De r).now, (De r).marks, (De r).given⟩, (DO ((Ep r).nx 2)).2) := by unfold aw; rw [if_neg (by omega), if_pos c]
theorem oV (c : Hy r = 2) : aw r = (⟨(De r).hosts, GS ((Ep r).nx 2) [-1, 10000, 9990], (De r).marks, (De r).given⟩, (Ep r).nx 3) := by unfold aw; rw [if_neg (by omega), if_neg (by omega), if_pos c]
theorem oW (c : Hy r = 3) : aw r = (⟨(De r).hosts, (De r).now, (De r).marks, (De r).given ++ [⟨Mo ((Ep r).nx 2) [⟨#[]⟩, ⟨#[73, 100, 58, 32, 57]⟩, ⟨#[73, 100, 58, 32]⟩], (Ch ((Ep r).nx 3)).1⟩]⟩, (Ch ((Ep r).nx 3)).2) := by unfold aw; rw [if_neg (by omega), if_neg (by omega), if_neg (by omega), if_pos c]
theorem oX (c : Hy r = 4) : aw r = (⟨[], (De r).now, (De r).marks, (De r).given⟩, (Ep r).nx 2) := by unfold aw; rw [if_neg (by omega), if_neg (by omega), if_neg (by omega), if_neg (by omega), if_pos c]
theorem oY (c : ¬ Hy r = 0 ∧ ¬ Hy r = 1 ∧ ¬ Hy r = 2 ∧ ¬ Hy r = 3 ∧ ¬ Hy r = 4) : aw r = (De r, (Ep r).nx 2) := by unfold aw; rw [if_neg (by omega), if_neg (by omega), if_neg (by omega), if_neg (by omega), if_neg (by omega)]
end
theorem oS (r : Rd) : (IQ r).1 = Ep r := rfl
theorem oR (r : Rd) : Aa (Ep r) (De r).hosts.length = cH r := rfl
theorem oQ (r : Rd) : Aa ((Ep r).nx 1) 14 = Hy r := rfl
theorem T5 {r : Rd} (h : 0 ≤ r.p) (h1 : r.p ≤ 999500000) : r.p ≤ (Ep r).p ∧ (Ep r).p ≤ r.p + 2500 := (RT h (by omega)).2.2
theorem cI {r : Rd} (h : 0 ≤ r.p) (h1 : r.p ≤ 999500000) : 0 ≤ cH r ∧ cH r < (De r).hosts.length := by
 have hq := T5 h h1
 have hl := (LW r).2.1
 have z := CA (r := Ep r) (n := (De r).hosts.length) (by omega) (by omega)
 exact ⟨z.1, z.2 (by omega)⟩
def tT : Mt := HJ (lc D5 l0) (fun p => 0 ≤ p.1.p ∧ p.1.p ≤ 999500000) (fun p => ([D5.enc (aw p.1).2], TN.ag.enc (aw p.1).1))
section
attribute [local go_sem] HW UU SC fE tM tP tW AK Bq BB BD BH Bm Cd Bh Bk lm List.length_append List.length_cons List.length_nil List.map_append List.map_nil Nat.zero_add List.nil_append AS.opn AS.cls AS.nilb AS.renb AS.up Bool.not_false Bool.not_true List.set_set List.set_cons_zero List.set_cons_succ List.set_nil List.mem_singleton forall_eq oS oR oQ Md GH GI AY BN KF JT JU JV E0 E3
set_option maxHeartbeats 6400000 in
theorem qO {G : Gt} (hG : Aj G) (hh : G.e 43 = AP HW ∧ G.e 60 = AP UU ∧ G.e 88 = AP SC ∧ G.e 109 = AP fE ∧ G.e 24 = AP tM ∧ G.e 44 = AP tP ∧ G.e 62 = AP tW) : Gd G 57 (AP tT) := by
 refine Jh (dp := fun _ => true) (fn := Tryz.f57) (n := 1) rfl hG ?_
 rintro ⟨r, ⟨⟩⟩ hpre
 obtain ⟨h1, h2⟩ := hpre
 try dsimp only at h1 h2 ⊢
 have hq := T5 h1 (by omega)
 have hk := cI h1 (by omega)
 have hl := (LW r).2.1
 have hg := (LW r).2.2.2.2.1
 by_cases c0 : Hy r = 0
 ·skip
  rw [oT c0]
  simp -implicitDefEqProofs only [Tryz.f57, c0, eq_self, decide_true, decide_false, Int.reduceEq, go_sem, hh, Int.reduceAdd, seval]
  with_reducible repeat' (first | apply ai | intro _ | ((first | apply s1 | apply s2 | apply s3 | apply s4) <;> intro hb <;> simp -implicitDefEqProofs only [hb, go_sem, hh, Int.reduceAdd, seval] <;> try simp only [qz] at hb))
  all_goals (try simp only [maxLen, tn] at *)
  all_goals first | with_reducible rfl | omega | with_reducible assumption | (show _ = true; rfl) | contradiction | decide | exact hk.1 | exact hk.2 | skip
 ·by_cases c1 : Hy r = 1
  ·skip
   rw [oU c1]
   simp -implicitDefEqProofs only [Tryz.f57, c0, c1, eq_self, decide_true, decide_false, Int.reduceEq, go_sem, hh, Int.reduceAdd, seval]
   with_reducible repeat' (first | apply ai | intro _ | ((first | apply s1 | apply s2 | apply s3 | apply s4) <;> intro hb <;> simp -implicitDefEqProofs only [hb, go_sem, hh, Int.reduceAdd, seval] <;> try simp only [qz] at hb))
   all_goals (try simp only [maxLen, tn] at *)
   all_goals first | with_reducible rfl | omega | with_reducible assumption | (show _ = true; rfl) | contradiction | decide | exact hk.1 | exact hk.2 | skip
  ·by_cases c2 : Hy r = 2
   ·skip
    rw [oV c2]
    simp -implicitDefEqProofs only [Tryz.f57, c0, c1, c2, eq_self, decide_true, decide_false, Int.reduceEq, go_sem, hh, Int.reduceAdd, seval]
    with_reducible repeat' (first | apply ai | intro _ | ((first | apply s1 | apply s2 | apply s3 | apply s4) <;> intro hb <;> simp -implicitDefEqProofs only [hb, go_sem, hh, Int.reduceAdd, seval] <;> try simp only [qz] at hb))
    all_goals (try simp only [maxLen, tn] at *)
    all_goals first | with_reducible rfl | omega | with_reducible assumption | (show _ = true; rfl) | contradiction | decide | exact hk.1 | exact hk.2 | skip
   ·by_cases c3 : Hy r = 3
    ·skip
     rw [oW c3]
     simp -implicitDefEqProofs only [Tryz.f57, c0, c1, c2, c3, eq_self, decide_true, decide_false, Int.reduceEq, go_sem, hh, Int.reduceAdd, seval]
     with_reducible repeat' (first | apply ai | intro _ | ((first | apply s1 | apply s2 | apply s3 | apply s4) <;> intro hb <;> simp -implicitDefEqProofs only [hb, go_sem, hh, Int.reduceAdd, seval] <;> try simp only [qz] at hb))
     all_goals (try simp only [maxLen, tn] at *)
     all_goals first | with_reducible rfl | omega | with_reducible assumption | (show _ = true; rfl) | contradiction | decide | exact hk.1 | exact hk.2 | skip
    ·by_cases c4 : Hy r = 4
     ·skip
      rw [oX c4]
      simp -implicitDefEqProofs only [Tryz.f57, c0, c1, c2, c3, c4, eq_self, decide_true, decide_false, Int.reduceEq, go_sem, hh, Int.reduceAdd, seval]
      with_reducible repeat' (first | apply ai | intro _ | ((first | apply s1 | apply s2 | apply s3 | apply s4) <;> intro hb <;> simp -implicitDefEqProofs only [hb, go_sem, hh, Int.reduceAdd, seval] <;> try simp only [qz] at hb))
      all_goals (try simp only [maxLen, tn] at *)
      all_goals first | with_reducible rfl | omega | with_reducible assumption | (show _ = true; rfl) | contradiction | decide | exact hk.1 | exact hk.2 | skip
     ·skip
      rw [oY ⟨c0, c1, c2, c3, c4⟩]
      simp -implicitDefEqProofs only [Tryz.f57, c0, c1, c2, c3, c4, eq_self, decide_true, decide_false, Int.reduceEq, go_sem, hh, Int.reduceAdd, seval]
      with_reducible repeat' (first | apply ai | intro _ | ((first | apply s1 | apply s2 | apply s3 | apply s4) <;> intro hb <;> simp -implicitDefEqProofs only [hb, go_sem, hh, Int.reduceAdd, seval] <;> try simp only [qz] at hb))
      all_goals (try simp only [maxLen, tn] at *)
      all_goals first | with_reducible rfl | omega | with_reducible assumption | (show _ = true; rfl) | contradiction | decide | exact hk.1 | exact hk.2 | skip
end
def tJ : Ct := At (lc OT.asl l0) (fun p => True) (fun p => TN.ag.enc (aw (opn p.1)).1)
section
attribute [local go_sem] tL tT IZ QN MC Wg rS lm List.length_append List.length_cons List.length_nil List.map_append List.map_nil Nat.zero_add List.nil_append AK Bq BB BD BH Bm Cd Bh Bk AS.opn AS.cls AS.nilb AS.renb AS.up Bool.not_false Bool.not_true List.set_set List.set_cons_zero List.set_cons_succ List.set_nil List.mem_singleton forall_eq
set_option maxHeartbeats 1600000 in
theorem p4 {G : Gt} (hG : Aj G) (hh : G.e 23 = AA 1 tL ∧ G.e 57 = AP tT) : Gd G 21 (AA 1 tJ) := by
 refine gr (fn := Tryz.f21) (n := 1) rfl hG ?_
 rintro ⟨b, ⟨⟩⟩ hpre
 dsimp only
 simp -implicitDefEqProofs only [Tryz.f21, go_sem, hh, Int.reduceAdd, seval]
 with_reducible repeat' (first | apply ai | intro _ | ((first | apply s1 | apply s2 | apply s3 | apply s4) <;> intro hb <;> simp -implicitDefEqProofs only [hb, go_sem, hh, Int.reduceAdd, seval] <;> try simp only [qz] at hb))
 all_goals (try simp only [maxLen, tn] at *)
 all_goals first | with_reducible rfl | omega | with_reducible assumption | (show _ = true; rfl) | contradiction | decide | skip
end
theorem Tx {r : Rd} (h : 0 ≤ r.p) (h1 : r.p ≤ 999999900) : HN (Ch r).1 ∧ (Ch r).2.b = r.b ∧ r.p + 3 ≤ (Ch r).2.p ∧ (Ch r).2.p ≤ r.p + 4 := by
 have z := CJ (.inl (Ow (r := r) h (by omega)))
 have key : ∀ (l : List ByteArray), 1 ≤ l.length → (∀ x ∈ l, x.size ≤ 1048576) → BY (Mo (r.nx 3) l) := fun l hl q => q _ (Gx (by rw [AK]; omega) (by rw [AK]; omega) hl)
 by_cases q0 : Aa (r.nx 2) 10 = 0
 ·rw [QZ q0]
  exact ⟨⟨key _ (by decide) (by decide), z.2⟩, rfl, by rw [AK]; omega, by rw [AK]; omega⟩
 ·by_cases q1 : Aa (r.nx 2) 10 = 1
  ·rw [Qa q0 q1]
   exact ⟨⟨z.1, key _ (by decide) (by decide)⟩, rfl, by rw [AK]; omega, by rw [AK]; omega⟩
  ·by_cases q2 : Aa (r.nx 2) 10 = 2
   ·rw [Qb q0 q1 q2]
    exact ⟨CJ (.inr ⟨rfl, rfl⟩), rfl, by rw [AK]; omega, by rw [AK]; omega⟩
   ·rw [Qc q0 q1 q2]
    exact ⟨z, rfl, by rw [AK]; omega, by rw [AK]; omega⟩
theorem UV {c : Cf} (h : NL c = true) : My c ∧ c.own.length ≤ 10 ∧ c.ways.length ≤ 10 := by
 unfold NL at h
 simp only [Bool.and_eq_true, Nat.ble_eq, List.all_eq_true] at h
 obtain ⟨z1, z2, z3, z4, z5⟩ := h
 exact ⟨⟨by show c.name.size ≤ 1048576; omega, ⟨by omega, fun s hs => by have := z3 s hs; show s.size ≤ 1048576; omega⟩, ⟨by omega, fun w hw => ⟨by have := (z5 w hw).1; show w.ends.size ≤ 1048576; omega, by have := (z5 w hw).2; show w.to.size ≤ 1048576; omega⟩⟩⟩, z2, z4⟩
theorem t5 {r : Rd} {l : List ByteArray} (h0 : 0 ≤ r.p) (h1 : r.p ≤ 1000000000) (hl : l.all (fun s => Nat.ble s.size 100) = true) (hn : 1 ≤ l.length) : BY (Mo r l) := by
 have := List.all_eq_true.1 hl _ (Gx h0 h1 hn)
 simp only [Nat.ble_eq] at this
 show (Mo r l).size ≤ 1048576
 omega
theorem Tz {r : Rd} (h : 0 ≤ r.p) (h1 : r.p ≤ 999980000) : My (DO r).1 := by
 obtain ⟨z, z1, z2⟩ := UV (cJ h (show r.p ≤ 999999000 by omega))
 by_cases c0 : Aa (r.nx 2) 10 = 0
 ·rw [Qd c0]; exact ⟨t5 (by rw [AK]; omega) (by rw [AK]; omega) (by decide +kernel) (by decide), z.2.1, z.2.2⟩
 ·by_cases c1 : Aa (r.nx 2) 10 = 1
  ·rw [Qe c1]
   refine ⟨z.1, ⟨by show ((_ ++ _ : List ByteArray).length : Int) ≤ _; rw [List.length_append]; simp; omega, fun s hs => ?_⟩, z.2.2⟩
   rcases List.mem_append.1 hs with hs | hs
   ·exact z.2.1.2 s hs
   ·simp only [List.mem_cons, List.not_mem_nil, or_false] at hs
    rcases hs with rfl | rfl <;> (show ByteArray.size _ ≤ 1048576; decide)
  ·by_cases c2 : Aa (r.nx 2) 10 = 2
   ·rw [Qf c2]
    refine ⟨z.1, z.2.1, ⟨by show ((_ ++ _ : List Wy).length : Int) ≤ _; rw [List.length_append]; simp; omega, fun s hs => ?_⟩⟩
    rcases List.mem_append.1 hs with hs | hs
    ·exact z.2.2.2 s hs
    ·simp only [List.mem_singleton] at hs
     subst hs
     exact ⟨t5 (by rw [AK]; omega) (by rw [AK]; omega) (by decide +kernel) (by decide), by show (⟨#[116, 119, 111, 46, 111, 114, 103]⟩ : ByteArray).size ≤ 1048576; decide⟩
   ·rw [Qg ⟨c0, c1, c2⟩]; exact z
theorem QR {α : Type} {P : α → Prop} {xs : List α} {i : Nat} {x : α} (h : GW P xs) (hx : P x) : GW P (xs.set i x) := ⟨by rw [List.length_set]; exact h.1, fun y hy => by
 rcases List.mem_or_eq_of_mem_set hy with hy | rfl
 ·exact h.2 y hy
 ·exact hx⟩
theorem oZ {r : Rd} (h : 0 ≤ r.p) (h1 : r.p ≤ 999500000) : Ke (aw r).1 := by
 have hq := T5 h (by omega)
 have hk := cI h (by omega)
 have z := Oj (LW r) (by decide)
 have hH : IH (R3 r) := z.1.2 _ (AC (by omega))
 have p2 : ((Ep r).nx 2).p = (Ep r).p + 2 := AK _ _
 have p3 : ((Ep r).nx 3).p = (Ep r).p + 3 := AK _ _
 by_cases c0 : Hy r = 0
 ·rw [oT c0]
  have q := (eh (r := (Ep r).nx 2) (by omega) (by omega)).1
  exact ⟨QR z.1 ⟨hH.1, q, hH.2.2⟩, z.2⟩
 ·by_cases c1 : Hy r = 1
  ·rw [oU c1]
   have q := Tz (r := (Ep r).nx 2) (by omega) (by omega)
   exact ⟨QR z.1 ⟨q, hH.2⟩, z.2⟩
  ·by_cases c2 : Hy r = 2
   ·rw [oV c2]; exact z
   ·by_cases c3 : Hy r = 3
    ·rw [oW c3]
     have hg := (LW r).2.2.2.2.1
     have q := (Tx (r := (Ep r).nx 3) (by omega) (by omega)).1
     refine ⟨z.1, ⟨by show ((_ ++ _ : List Ls).length : Int) ≤ _; rw [List.length_append]; simp; omega, fun l hl => ?_⟩⟩
     rcases List.mem_append.1 hl with hl | hl
     ·exact z.2.2 l hl
     ·simp only [List.mem_singleton] at hl
      subst hl
      exact ⟨t5 (by omega) (by omega) (by decide +kernel) (by decide), q⟩
    ·by_cases c4 : Hy r = 4
     ·rw [oX c4]; exact ⟨⟨by show ((0 : Nat) : Int) ≤ _; decide, fun _ q => by cases q⟩, z.2⟩
     ·rw [oY ⟨c0, c1, c2, c3, c4⟩]; exact z
theorem YK {w : Wd} (h : II w) : Mv w = L4 (Ag Fo w.hosts) (Ag Fq w.hosts) (Ag JQ w.hosts) (Ag Jv w.hosts) := La h
theorem rA {h : Hs} (q : Fk h) : Fo h ≤ Fq h := by
 unfold Fo Fq
 rw [Ic q.2.2]
 have key : ∀ xs : List Im, (∀ x ∈ xs, 1 ≤ x.to.length) → (xs.length : Int) ≤ Ag Is xs := fun xs => by
  induction xs with
  | nil => intro _; exact Int.le_refl _
  | cons x r ih =>
    intro h
    have h1 := h x (by simp)
    have h2 := ih fun y hy => h y (by simp [hy])
    show ((r.length + 1 : Nat) : Int) ≤ Is x + Ag Is r
    unfold Is at *
    omega
 exact key _ fun x hx => (q.2.2.1 x hx).1.2.2.2.2.1.1
theorem OO {α : Type} {f g : α → Int} : ∀ {xs : List α}, (∀ x ∈ xs, f x ≤ g x) → Ag f xs ≤ Ag g xs
 | [], _ => Int.le_refl _
 | x :: r, h => by
   have h1 := h x (by simp)
   have h2 := OO (xs := r) fun y hy => h y (by simp [hy])
   show f x + Ag f r ≤ g x + Ag g r
   omega
def c5 : Ct := At (lc OT.asl l0) (fun p => True) (fun p => .t (.v (.bool true)))
section
attribute [local go_sem] tJ tI tK tH ou oo IZ QN BH MC Ac Ab lm List.map_nil AY Ti bn bo bp bq rz r7 decide_true
set_option maxHeartbeats 6400000 in
theorem si {G : Gt} (hG : Aj G) (hh : G.e 21 = AA 1 tJ ∧ G.e 20 = AA 0 tI ∧ G.e 22 = AA 0 tK ∧ G.e 19 = AA 0 tH ∧ G.e 17 = AA 0 ou ∧ G.e 11 = AA 0 oo) : Gd G 5 (AA 0 c5) := by
 refine gr (fn := Tryz.f5) (n := 1) rfl hG ?_
 rintro ⟨b, ⟨⟩⟩ hpre
 try dsimp only
 have zw := oZ (r := opn b) (by rw [Wg]; decide) (by rw [Wg]; decide)
 obtain ⟨W, hr⟩ : ∃ W, (aw (opn b)).1 = W := ⟨_, rfl⟩
 rw [hr] at zw
 by_cases L : (b.length : Int) > 1048576
 ·simp -implicitDefEqProofs only [Tryz.f5, L, decide_true, go_sem, hh, seval]
  with_reducible repeat' (first | apply ai | intro _ | ((first | apply s1 | apply s2 | apply s3 | apply s4) <;> intro hb <;> simp -implicitDefEqProofs only [hb, go_sem, hh, seval] <;> try simp only [qz] at hb))
  all_goals first | with_reducible rfl | omega | with_reducible assumption | (show _ = true; rfl) | contradiction | decide | skip
 ·by_cases hok : II W
  ·have b1 := Aq hok
   have e4 := YK hok
   have hle := OO (f := Fo) (g := Fq) (xs := W.hosts) fun x hx => rA (hok.1 x hx)
   obtain ⟨t1, t2, t3, t4⟩ := MD hok zw
   simp -implicitDefEqProofs only [Tryz.f5, L, hr, b1, e4, eq_self, decide_true, decide_false, go_sem, hh, seval]
   with_reducible repeat' (first | apply ai | intro _ | ((first | apply s1 | apply s2 | apply s3 | apply s4) <;> intro hb <;> simp -implicitDefEqProofs only [hb, go_sem, hh, seval] <;> try simp only [qz] at hb))
   all_goals (try simp only [maxLen, tn] at *)
   all_goals first | with_reducible rfl | omega | with_reducible assumption | (show _ = true; rfl) | contradiction | decide | skip
   refine AE [(4, 904, true, 1)] (ι := {p : Nat × Int × Int // p.1 ≤ W.hosts.length ∧ (0 ≤ p.2.1 ∧ p.2.1 + Ag Fo (W.hosts.drop p.1) = Ag Fo W.hosts) ∧ (0 ≤ p.2.2 ∧ p.2.2 + Ag Fq (W.hosts.drop p.1) = Ag Fq W.hosts)}) (fun p => ⟨[(3, .pb 1003 0), (4, .h 904), (5, .t (.v (.int .i64 p.1.2.1))), (6, .t (.v (.int .i64 p.1.2.2))), (7, .t (.v (.int .i64 p.1.1)))], [(1003, some (.box ((DT W).map .t))), (904, some (.arr true 1 ((L4 (Ag Fo W.hosts) (Ag Fq W.hosts) (Ag JQ W.hosts) (Ag Jv W.hosts)).map An)))]⟩) (fun p => W.hosts.length - p.1.1) ⟨(0, 0, 0), by simp, by simp, by simp⟩ rfl ?_ ?_
   ·simp -implicitDefEqProofs only [go_sem, hh, seval]
    first | (simp; done) | skip
   ·rintro ⟨⟨i, va, vb⟩, hi, ⟨a0, a1⟩, ⟨b0, b2⟩⟩
    dsimp only at hi a0 a1 b0 b2
    by_cases hlt : (i : Int) < W.hosts.length
    ·have hm := AC (xs := W.hosts) (j := i) (by omega)
     obtain ⟨f1, f2, _, _⟩ := Br (hok.1 _ hm) (zw.1.2 _ hm)
     have hz := (zw.1.2 _ hm).2.1
     have s1 := BS (f := Fo) (xs := W.hosts) (i := i) (by omega)
     have s2 := BS (f := Fq) (xs := W.hosts) (i := i) (by omega)
     have r1 := BR (f := Fo) (xs := W.hosts) (fun x hx => (Br (hok.1 x hx) (zw.1.2 x hx)).1.1) (i + 1)
     have r2 := BR (f := Fq) (xs := W.hosts) (fun x hx => (Br (hok.1 x hx) (zw.1.2 x hx)).2.1.1) (i + 1)
     have e1 : Fo (W.hosts.getD i default) = (W.hosts.getD i default).spool.items.length := rfl
     have e2 : Fq (W.hosts.getD i default) = D9 (W.hosts.getD i default).spool := rfl
     simp -implicitDefEqProofs only [hlt, decide_true, tn, go_sem, hh, seval]
     with_reducible repeat' (first | apply ai | intro _ | ((first | apply s1 | apply s2 | apply s3 | apply s4) <;> intro hb <;> simp -implicitDefEqProofs only [hb, go_sem, hh, seval] <;> try simp only [qz] at hb))
     all_goals (try simp only [maxLen, tn] at *)
     all_goals first | with_reducible rfl | omega | with_reducible assumption | (show _ = true; rfl) | contradiction | decide | skip
     refine ⟨⟨(i + 1, va + (W.hosts.getD i default).spool.items.length, vb + D9 (W.hosts.getD i default).spool), by dsimp only; omega, by dsimp only; omega, by dsimp only; omega⟩, by dsimp only; omega, ?_⟩
     simp -implicitDefEqProofs only [go_sem, hh, seval]
     first | (simp; done) | skip
    ·have s1 := Bs (f := Fo) (xs := W.hosts) (i := i) (by omega)
     have s2 := Bs (f := Fq) (xs := W.hosts) (i := i) (by omega)
     have q1 : va = Ag Fo W.hosts := by omega
     have q2 : vb = Ag Fq W.hosts := by omega
     subst q1 q2
     simp -implicitDefEqProofs only [hlt, eq_self, decide_true, decide_false, go_sem, hh, seval]
     with_reducible repeat' (first | apply ai | intro _ | ((first | apply s1 | apply s2 | apply s3 | apply s4) <;> intro hb <;> simp -implicitDefEqProofs only [hb, go_sem, hh, seval] <;> try simp only [qz] at hb))
     all_goals (try simp only [maxLen, tn] at *)
     all_goals first | with_reducible rfl | omega | with_reducible assumption | (show _ = true; rfl) | contradiction | decide | (rw [decide_eq_true (by omega)]; done) | skip
  ·have b1 := AQ hok
   have e0 := LZ hok
   simp -implicitDefEqProofs only [Tryz.f5, L, hr, b1, e0, eq_self, decide_true, decide_false, go_sem, hh, seval]
   with_reducible repeat' (first | apply ai | intro _ | ((first | apply s1 | apply s2 | apply s3 | apply s4) <;> intro hb <;> simp -implicitDefEqProofs only [hb, go_sem, hh, seval] <;> try simp only [qz] at hb))
   all_goals (try simp only [maxLen, tn] at *)
   all_goals first | with_reducible rfl | omega | with_reducible assumption | (show _ = true; rfl) | contradiction | decide | (rw [e0]; done) | (rw [e0]; rfl) | (rw [e0]; simp; done) | skip
end
end Go.V
namespace Go.V
open Go Go.Proofs Go.ChangeShapes Go.WideShapes Go.ChangeAt Go.RowKit
set_option maxRecDepth 100000
section
variable {H : Type} {enc : TypeId × Value → H} {W : World} {P : Program}
def pW (W : World) : Nat → Prop := fun b => b < W.heap.size
def uq (P : Program) (W : World) (enc : TypeId × Value → H) (t : TypeId) (q : List T → Prop) : Prop :=
 ∀ (n : Nat) (cs : List Value) (x : DataW H × List MemPlace), DataW.trod enc P W 0 (fun _ => true) true n t cs = some x → ∃ ts, q ts ∧ B3 W (pW W) ts cs
theorem uq.slice {α : Type} (E : Eo α) {t e : TypeId} (u : P.underlying t = some (.slice e)) (hn : P.cellsOf e = E.n) (h0 : 0 < E.n) (he : uq P W enc e fun ts => ∃ a, ts = E.enc a) :
    uq P W enc t fun ts => ∃ xs : List α, ts = [.sl E.n (xs.map E.enc)] := fun n cs x h => by
 rcases DataW.trod_slice u h with ⟨rfl, _⟩ | ⟨a, len, cap, elems, rest, m, rfl, rfl, _, _, hlc, hcm, hel, hes, _⟩
 ·exact ⟨_, ⟨[], rfl⟩, .cons _ _ _ _ (.nil _) .nil⟩
 ·rw [hn] at hes
  have key : ∀ k, k ≤ len → ∃ (xs : List α) (vs : List Value), xs.length = k ∧ vs.length = k * E.n ∧ B3 W (pW W) (xs.map E.enc).flatten vs ∧ (0 < k → a.block < W.heap.size) ∧ ∀ j v, vs[j]? = some v → W.cell? (a.add j) = some v := fun k => by
   induction k with
   | zero => exact fun _ => ⟨[], [], rfl, by simp, .nil, fun h => absurd h (Nat.lt_irrefl _), fun j v hj => by simp at hj⟩
   | succ k ih =>
     intro hk
     obtain ⟨xs, vs, h1, h2, h3, h4, h5⟩ := ih (by omega)
     have h6 := hes k (by omega)
     rw [List.getElem?_eq_getElem (by omega)] at h6
     obtain ⟨cs, h7, h8⟩ := Option.bind_eq_some_iff.1 h6
     obtain ⟨ts, ⟨y, rfl⟩, h9⟩ := he _ _ _ h8
     obtain ⟨q1, q2, q3⟩ := World.cells?_some h7
     have hb : a.block < W.heap.size := by
      have := World.cells?_block h7 h0
      rwa [C2] at this
     refine ⟨xs ++ [y], vs ++ cs, by simp [h1], ?_, ?_, fun _ => hb, fun j v hj => ?_⟩
     ·have : cs.length = E.n := by rw [← h9.len, E.len]
      rw [List.length_append, h2, this, Nat.succ_mul]
     ·rw [List.map_append, List.flatten_append]
      exact h3.append (by simpa using h9)
     ·by_cases hj2 : j < vs.length
      ·rw [List.getElem?_append_left hj2] at hj
       exact h5 j v hj
      ·rw [List.getElem?_append_right (by omega)] at hj
       have hjl : j - vs.length < E.n := by
        have := (List.getElem?_eq_some_iff.1 hj).1
        have h10 : cs.length = E.n := by rw [← h9.len, E.len]
        omega
       have := q3 (j - vs.length) hjl
       rw [Fv] at this
       rw [show j = k * E.n + (j - vs.length) from by omega, this]
       exact hj
  obtain ⟨xs, vs, h1, h2, h3, h4, h5⟩ := key len (Nat.le_refl _)
  refine ⟨_, ⟨xs, rfl⟩, .cons _ _ _ _ (.sl E.n _ a len cap vs (by simp [h1]) hlc hcm (fun hne => ?_) (fun c hc => ?_) h5 h3) .nil⟩
  ·refine h4 ?_
   rcases Nat.eq_zero_or_pos len with h | h
   ·exact absurd (by rw [List.eq_nil_of_length_eq_zero (h1.trans h)]; rfl) hne
   ·exact h
  ·obtain ⟨y, _, rfl⟩ := List.mem_map.1 hc
   exact E.len y
end
end Go.V
namespace Go.Proofs.YtahogphlohnpmaaGreatDoor
open Go Go.Proofs Go.ChangeShapes Go.WideShapes Go.ChangeAt Go.RowKit
set_option maxRecDepth 100000
theorem own : ownKnob Tryz.prog.godebug = none := by kernel_rfl
def flatD : Nat → DataW Unit → List Value
 | 0, _ => []
 | _ + 1, .lit (.int k v) => [.int k v]
 | n + 1, .agg xs => xs.flatMap (flatD n)
 | _ + 1, _ => []
noncomputable def gOf (n : String) : Nat := (Tryz.prog.globalNamed n).getD 0
noncomputable def layAt (n : String) (d : DataW Unit) (h : Array Obj) : Array Obj := h.modify (gOf n) fun
 | .cells _ t frozen => .cells (flatD 5 d).toArray t frozen
 | o => o
noncomputable def laidWorld (os : Os) : World :=
 { World.holding Tryz.prog os ⟨#[], #[], []⟩ with heap := layAt "unicode/utf8.first" Rows.laid_unicode_utf8_first (layAt "unicode/utf8.acceptRanges" Rows.laid_unicode_utf8_acceptRanges (World.holding Tryz.prog os ⟨#[], #[], []⟩).heap) }
noncomputable def args0 : Array Value := #[.slice none 0 0]
theorem laid_met (os : Os) : laidMet Tryz.prog Rows.fnLookManyRow.laid ((laidWorld os).forCall (fun _ _ => 0) ⟨#[], args0, []⟩).memory :=
 laidMet_of_run' 8 (by kernel_rfl) (by kernel_rfl)
theorem reads (os : Os) {H : Type} (enc : TypeId × Value → H) : ∃ places, DataW.whole enc Tryz.prog ((laidWorld os).forCall (fun _ _ => 0) ⟨#[], args0, []⟩).memory Tryz.f5.params.toList Rows.fnLookManySpec.vars false args0.toList 8 = some ([.nil], [], places) :=
 ⟨[], by kernel_rfl⟩
theorem func5 : Tryz.prog.funcs[5]? = some Tryz.f5 := by kernel_rfl
def Every : Prop := ∀ (H : Type) (enc : TypeId × Value → H) (W : World) (base : Nat) (args : Array Value) (ds gs : List (DataW H)) (before : List MemPlace)
    (_ : ∀ (j : Nat) t v, Tryz.f5.params[j]? = some t → args[j]? = some v → Value.okWide Tryz.prog W .any base t v)
    (_ : DataW.Whole enc Tryz.prog Tryz.f5.params.toList Rows.fnLookManySpec.vars false W args.toList ds gs before) (_ : W.ShapedOpen Tryz.prog),
    Calls Tryz.prog 5 args W fun e W' => ∃ v, e = .returned v ∧ Rows.fnLookManySpec.post enc Tryz.prog Tryz.f5 false true false false W args v W'
theorem lifted (hE : Every) (os : Os) (started : os.Started) (H : Type) (enc : TypeId × Value → H) (F : Stop.Interp) :
    ReturnsInHanded {} Tryz.checked os 5 .any ((OpenSpec.ofChange Rows.fnLookManySpec).preRow enc Tryz.prog Tryz.f5 Rows.fnLookManyRow.domain false Rows.fnLookManyRow.laid) (((OpenSpec.ofChange Rows.fnLookManySpec).at F).post enc Tryz.prog Tryz.f5 false true false false) := by
 obtain ⟨places, hx⟩ := reads os enc
 refine returnsInHanded_of_row (C := Tryz.checked) (s := OpenSpec.ofChange Rows.fnLookManySpec) own started (by kernel_rfl) func5
  (witness_row_at (enc := enc) (C := Tryz.checked) false (laidWorld os) args0 rfl (by kernel_rfl) (by kernel_rfl) (by kernel_rfl)
    (OpenSpec.preRow_of_cond 8 hx (by kernel_rfl) (fun k hk => by cases hk) (by kernel_rfl) (laid_met os))) ?_
 intro W base args ds gs before hval hW _ _ _ _ hS _
 exact hE H enc W base args ds gs before hval hW hS
theorem said (hE : Every) : Rows.FnLookManySaid :=
 OpenClaim.holds_of_cond 5 Tryz.f5 rfl rfl rfl rfl rfl rfl rfl ⟨rfl, rfl, rfl, rfl, rfl⟩ rfl rfl rfl rfl rfl (by kernel_rfl) func5 (by kernel_rfl)
  (of_decide_eq_true (by kernel_rfl)) (by unfold Func.isWrapper; first | (rw [if_pos (by decide +kernel)]; kernel_rfl) | (rw [if_neg (by decide +kernel)]; exact ⟨rfl, rfl⟩))
  (fun os started H enc _ F => by rw [OpenClaim.pre_eq_preRow]; exact lifted hE os started H enc F)
theorem params5 : Tryz.f5.params = #[22] := rfl
theorem plain (f : FuncId) (fn : Func) (hf : Tryz.pinned.checked.prog.funcNamed "loop.example/satchel/laws.FnLookMany" = some f) (hfn : Tryz.pinned.checked.prog.funcs[f]? = some fn) :
    false = Tryz.pinned.checked.prog.looks [] ∧ ∀ (j : Nat) t, fn.params[j]? = some t → Tryz.pinned.checked.prog.wantsStandIn t = false := by
 obtain rfl : f = 5 := Option.some.inj ((show Tryz.prog.funcNamed "loop.example/satchel/laws.FnLookMany" = some 5 by kernel_rfl).symm.trans hf) |>.symm
 obtain rfl : fn = Tryz.f5 := (Option.some.inj (func5.symm.trans hfn)).symm
 refine ⟨by kernel_rfl, fun j t ht => ?_⟩
 rw [params5] at ht
 have hm : t ∈ [22] := by simpa using Array.mem_of_getElem? ht
 have hall : ([22].all fun u => !Tryz.prog.wantsStandIn u) = true := by kernel_rfl
 exact (show Tryz.prog.wantsStandIn t = false by simpa using List.all_eq_true.1 hall t hm)
theorem card_of (hE : Every) : Rows.FnLookManyCardSaid :=
 Claim7.holds_tied_plain_at .later [] _ _ _ _ (said hE) (fun _ h => by cases h) (by kernel_rfl) (fun _ h => by cases h) fnLookMany_row_tie rfl ⟨rfl, rfl⟩ (by kernel_rfl) rfl plain (by kernel_rfl)
end Go.Proofs.YtahogphlohnpmaaGreatDoor
namespace Go.V
open Go Go.Proofs Go.ChangeShapes Go.WideShapes Go.ChangeAt Go.RowKit
set_option maxRecDepth 100000
set_option linter.unusedVariables false
set_option maxHeartbeats 4000000 in
theorem con5 (m : Int) (b : List UInt8) : TS Tryz.prog m 5 ((lc OT.asl l0).enc (b, ())) ((lc OT.asl l0).enc (b, ())) (.t (.v (.bool true))) := by
 have g0 : KY Tryz.prog (Oe m []) ∧ EQ (Oe m []) := OU
 have g1 := AF g0 (p6 g0)
 have g2 := AF g1 (qG g1)
 have g3 := AF g2 (qR g2 rfl)
 have g4 := AF g3 (qn g3 rfl)
 have g5 := AF g4 (qF g4 rfl)
 have g6 := AF g5 (lr g5)
 have g7 := AF g6 (qU g6)
 have g8 := AF g7 (lW g7 rfl)
 have g9 := AF g8 (qp g8 ⟨rfl, rfl⟩)
 have g10 := AF g9 (qI g9 rfl)
 have g11 := AF g10 (qJ g10)
 have g12 := AF g11 (qs g11)
 have g13 := AF g12 (lV g12 rfl)
 have g14 := AF g13 (qX g13 ⟨rfl, rfl⟩)
 have g15 := AF g14 (qV g14)
 have g16 := AF g15 (lu g15 ⟨rfl, rfl, rfl⟩)
 have g17 := AF g16 (lw g16)
 have g18 := AF g17 (lx g17)
 have g19 := AF g18 (lU g18 ⟨rfl, rfl⟩)
 have g20 := AF g19 (qT g19 ⟨rfl, rfl, rfl, rfl, rfl⟩)
 have g21 := AF g20 (p8 g20 ⟨rfl, rfl⟩)
 have g22 := AF g21 (qq g21 ⟨rfl, rfl, rfl, rfl, rfl⟩)
 have g23 := AF g22 (qr g22)
 have g24 := AF g23 (qK g23 ⟨rfl, rfl, rfl, rfl, rfl⟩)
 have g25 := AF g24 (pv g24 ⟨rfl, rfl, rfl⟩)
 have g26 := AF g25 (mC g25 rfl)
 have g27 := AF g26 (lT g26 ⟨rfl, rfl⟩)
 have g28 := AF g27 (mP g27 rfl)
 have g29 := AF g28 (l9 g28 ⟨rfl, rfl⟩)
 have g30 := AF g29 (lQ g29 ⟨rfl, rfl, rfl, rfl⟩)
 have g31 := AF g30 (mU g30 ⟨rfl, rfl, rfl⟩)
 have g32 := AF g31 (qY g31)
 have g33 := AF g32 (p9 g32 rfl)
 have g34 := AF g33 (mN g33 ⟨rfl, rfl⟩)
 have g35 := AF g34 (l7 g34 rfl)
 have g36 := AF g35 (qW g35 ⟨rfl, rfl, rfl, rfl⟩)
 have g37 := AF g36 (lO g36)
 have g38 := AF g37 (mb g37)
 have g39 := AF g38 (mc g38)
 have g40 := AF g39 (mt g39 rfl)
 have g41 := AF g40 (nM g40)
 have g42 := AF g41 (nB g41 rfl)
 have g43 := AF g42 (nD g42 rfl)
 have g44 := AF g43 (nE g43 rfl)
 have g45 := AF g44 (nC g44 rfl)
 have g46 := AF g45 (nF g45)
 have g47 := AF g46 (nG g46)
 have g48 := AF g47 (nN g47)
 have g49 := AF g48 (nH g48 rfl)
 have g50 := AF g49 (mw g49 ⟨rfl, rfl, rfl, rfl, rfl, rfl, rfl⟩)
 have g51 := AF g50 (nI g50)
 have g52 := AF g51 (nJ g51)
 have g53 := AF g52 (nQ g52)
 have g54 := AF g53 (nU g53 ⟨rfl, rfl⟩)
 have g55 := AF g54 (nR g54 rfl)
 have g56 := AF g55 (m8 g55)
 have g57 := AF g56 (mj g56 rfl)
 have g58 := AF g57 (nV g57 ⟨rfl, rfl⟩)
 have g59 := AF g58 (nS g58 ⟨rfl, rfl, rfl⟩)
 have g60 := AF g59 (nO g59 ⟨rfl, rfl, rfl, rfl, rfl⟩)
 have g61 := AF g60 (nT g60 rfl)
 have g62 := AF g61 (nP g61 ⟨rfl, rfl, rfl⟩)
 have g63 := AF g62 (nK g62 ⟨rfl, rfl, rfl, rfl⟩)
 have g64 := AF g63 (my g63 ⟨rfl, rfl, rfl⟩)
 have g65 := AF g64 (mz g64)
 have g66 := AF g65 (md g65 ⟨rfl, rfl, rfl, rfl⟩)
 have g67 := AF g66 (m0 g66)
 have g68 := AF g67 (lP g67)
 have g69 := AF g68 (me g68 ⟨rfl, rfl, rfl, rfl⟩)
 have g70 := AF g69 (mV g69 ⟨rfl, rfl, rfl, rfl, rfl, rfl, rfl, rfl⟩)
 have g71 := AF g70 (lX g70)
 have g72 := AF g71 (ml g71 ⟨rfl, rfl⟩)
 have g73 := AF g72 (mf g72 rfl)
 have g74 := AF g73 (mg g73 ⟨rfl, rfl⟩)
 have g75 := AF g74 (lY g74)
 have g76 := AF g75 (lR g75 rfl)
 have g77 := AF g76 (mA g76)
 have g78 := AF g77 (lS g77 ⟨rfl, rfl⟩)
 have g79 := AF g78 (nL g78 ⟨rfl, rfl⟩)
 have g80 := AF g79 (m7 g79 ⟨rfl, rfl, rfl, rfl, rfl, rfl⟩)
 have g81 := AF g80 (mh g80 ⟨rfl, rfl, rfl, rfl, rfl⟩)
 have g82 := AF g81 (mW g81 ⟨rfl, rfl, rfl, rfl, rfl, rfl⟩)
 have g83 := AF g82 (mi g82)
 have g84 := AF g83 (mX g83 ⟨rfl, rfl, rfl, rfl, rfl, rfl⟩)
 have g85 := AF g84 (mm g84 rfl)
 have g86 := AF g85 (mY g85 ⟨rfl, rfl, rfl⟩)
 have g87 := AF g86 (mO g86 ⟨rfl, rfl, rfl, rfl, rfl⟩)
 have g88 := AF g87 (mM g87 ⟨rfl, rfl, rfl, rfl, rfl⟩)
 have g89 := AF g88 (l6 g88 ⟨rfl, rfl, rfl⟩)
 have g90 := AF g89 (l8 g89 ⟨rfl, rfl⟩)
 have g91 := AF g90 (lN g90 ⟨rfl, rfl, rfl⟩)
 have g92 := AF g91 (qQ g91 ⟨rfl, rfl, rfl, rfl, rfl, rfl, rfl⟩)
 have g93 := AF g92 (p7 g92 ⟨rfl, rfl, rfl⟩)
 have g94 := AF g93 (qm g93 ⟨rfl, rfl⟩)
 have g95 := AF g94 (qH g94 ⟨rfl, rfl, rfl⟩)
 have g96 := AF g95 (qS g95 ⟨rfl, rfl, rfl⟩)
 have g97 := AF g96 (qO g96 ⟨rfl, rfl, rfl, rfl, rfl, rfl, rfl⟩)
 have g98 := AF g97 (p4 g97 ⟨rfl, rfl⟩)
 have g99 := Kw g98 (mZ m)
 have g100 := AF g99 (mR g99 rfl)
 have g101 := Kw g100 (m9 m)
 have g102 := AF g101 (mq g101 rfl)
 have g103 := Kw g102 (mo m)
 have g104 := AF g103 (mn g103)
 have g105 := AF g104 (nA g104)
 have g106 := AF g105 (mr g105 rfl)
 have g107 := AF g106 (ma g106 ⟨rfl, rfl, rfl, rfl⟩)
 have g108 := AF g107 (mS g107 rfl)
 have g109 := AF g108 (mH g108 ⟨rfl, rfl⟩)
 have g110 := AF g109 (lj g109 rfl)
 have g111 := AF g110 (qB g110)
 have g112 := AF g111 (mE g111)
 have g113 := AF g112 (mQ g112)
 have g114 := AF g113 (mF g113 rfl)
 have g115 := AF g114 (mG g114 rfl)
 have g116 := AF g115 (li g115 ⟨rfl, rfl, rfl⟩)
 have g117 := AF g116 (qj g116 ⟨rfl, rfl⟩)
 have g118 := AF g117 (ql g117 ⟨rfl, rfl⟩)
 have g119 := AF g118 (ld g118)
 have g120 := AF g119 (la g119 rfl)
 have g121 := AF g120 (ln g120 rfl)
 have g122 := AF g121 (mD g121 ⟨rfl, rfl⟩)
 have g123 := AF g122 (lZ g122 rfl)
 have g124 := AF g123 (lp g123 rfl)
 have g125 := AF g124 (mI g124 rfl)
 have g126 := AF g125 (lq g125 rfl)
 have g127 := AF g126 (qo g126 ⟨rfl, rfl, rfl⟩)
 have g128 := AF g127 (qC g127 ⟨rfl, rfl⟩)
 have g129 := AF g128 (qD g128 rfl)
 have g130 := AF g129 (qE g129)
 have g131 := AF g130 (qZ g130 ⟨rfl, rfl⟩)
 have g132 := AF g131 (qh g131)
 have g133 := AF g132 (qi g132 rfl)
 have g134 := AF g133 (qA g133 ⟨rfl, rfl, rfl, rfl, rfl, rfl⟩)
 have g135 := AF g134 (pt g134 ⟨rfl, rfl⟩)
 have g136 := AF g135 (mJ g135)
 have g137 := AF g136 (ly g136 rfl)
 have g138 := AF g137 (qu g137 rfl)
 have g139 := AF g138 (qt g138 ⟨rfl, rfl⟩)
 have g140 := AF g139 (lz g139 rfl)
 have g141 := AF g140 (qv g140 rfl)
 have g142 := Kw g141 (mT m)
 have g143 := AF g142 (mK g142 rfl)
 have g144 := AF g143 (l4 g143 rfl)
 have g145 := AF g144 (l3 g144)
 have g146 := AF g145 (lL g145 ⟨rfl, rfl⟩)
 have g147 := AF g146 (qL g146 ⟨rfl, rfl, rfl, rfl, rfl, rfl⟩)
 have g148 := AF g147 (mL g147)
 have g149 := AF g148 (l5 g148 rfl)
 have g150 := AF g149 (lM g149 rfl)
 have g151 := AF g150 (qM g150 ⟨rfl, rfl⟩)
 have g152 := AF g151 (qN g151)
 have g153 := AF g152 (px g152 ⟨rfl, rfl, rfl, rfl, rfl, rfl⟩)
 have g154 := AF g153 (pu g153 rfl)
 have g155 := AF g154 (pz g154 ⟨rfl, rfl⟩)
 have g156 := AF g155 (qP g155 rfl)
 have g157 := AF g156 (p5 g156 ⟨rfl, rfl⟩)
 have g158 := AF g157 (py g157)
 have hg := si g158 ⟨rfl, rfl, rfl, rfl, rfl, rfl⟩
 obtain ⟨res, h1, _, h3, _⟩ := hg.ro ((lc OT.asl l0).enc (b, ())) (fun r => r = .t (.v (.bool true))) (by
  show c5 _ _
  rw [c5, ZN, (lc OT.asl l0).ed]
  exact ⟨trivial, rfl⟩)
 rw [h1] at h3
 exact h3
section
variable {H : Type} {enc : TypeId × Value → H} {W : World}
theorem v3 : Tryz.prog.underlying 3 = some (.int .i64) := by kernel_rfl
theorem v5 : Tryz.prog.underlying 5 = some (.int .u8) := by kernel_rfl
theorem w5 : Tryz.prog.cellsOf 5 = 1 := by kernel_rfl
theorem rdBy : uq Tryz.prog W enc 5 fun ts => ∃ a, ts = OT.enc a := fun n cs x h => by
 obtain ⟨k, rfl, _, hs⟩ := DataW.trod_int v5 h
 have hb : 0 ≤ k ∧ k < 256 := by
  have e : (Lit.int .u8 k).wf = (decide ((0 : Int) ≤ k) && decide (k ≤ 255)) := rfl
  rw [e] at hs
  simp at hs
  omega
 refine ⟨_, ⟨UInt8.ofNat k.toNat, rfl⟩, .cons _ _ _ _ ?_ .nil⟩
 have e4 : (((UInt8.ofNat k.toNat).toNat : Nat) : Int) = k := by
  have : (UInt8.ofNat k.toNat).toNat = k.toNat := by simp; omega
  omega
 rw [e4]
 exact .v _ trivial
theorem v22 : Tryz.prog.underlying 22 = some (.slice 5) := by kernel_rfl
theorem glOk_of (h : W.ShapedOpen Tryz.prog) : ∃ m, Kx m W (pW W) := by
 obtain ⟨cs, h1, h2, h3⟩ := h.1 0 #[.int .i64 0] 3 (Nat.lt_of_lt_of_le (Nat.lt_succ_self 0) (Nat.le_of_ble_eq_true (by kernel_rfl))) (by kernel_rfl)
 obtain ⟨ts, t1, _, t3⟩ := h3 (by kernel_rfl)
 have hts : ts = [3] := Option.some.inj (t1.symm.trans (by kernel_rfl))
 subst hts
 have hsz : cs.size = 1 := h2
 have h0 : cs[0]? = some cs[0] := Array.getElem?_eq_getElem (by omega)
 obtain ⟨u, hu, hok⟩ := t3 0 _ h0
 simp at hu
 subst hu
 unfold Cell.ok at hok
 rw [v3] at hok
 generalize cs[0] = v at h0 hok
 have hb : (0 : Nat) < W.heap.size := (Array.getElem?_eq_some_iff.1 h1).1
 cases v with
 | int k n =>
   have hk : k = .i64 := hok.1
   subst hk
   refine ⟨n, .rop _ _ [.int .i64 n] (fun _ => hb) (fun j u hj => ?_) (.cons _ _ _ _ (.v _ trivial) .nil)⟩
   cases j with
   | zero =>
     simp at hj
     subst hj
     simp [World.cell?, Addr.add, nu, h1, h0]
   | succ j => simp at hj
 | _ => exact hok.elim
end
theorem every : YtahogphlohnpmaaGreatDoor.Every := by
 intro H enc W base args ds gs before hval0 hW hS
 have hval : ∀ (j : Nat) t v, Tryz.f5.params[j]? = some t → args[j]? = some v → Value.okWide Tryz.prog W .any base t v := hval0
 have hW' := hW
 obtain ⟨p, q, hA0, hV, rfl, hfz, hnd⟩ := hW
 have hA : DataW.TrodAll enc Tryz.prog W 0 (fun _ => true) true [22] args.toList ds p := hA0
 rw [YtahogphlohnpmaaGreatDoor.params5] at hval
 obtain ⟨u0, d0, rfl, rfl, h0⟩ := trodAll_one hA
 obtain ⟨rfl, rfl⟩ := trodVars_none hV
 have hlt : ∀ x ∈ (p) ++ [], x.block < W.heap.size := fun x hx => hW'.lt x hx
 have k0 := h0
 obtain ⟨n0, t0⟩ := h0
 obtain ⟨_, ⟨b, rfl⟩, r0⟩ := (uq.slice OT v22 w5 (by decide) rdBy) _ _ _ t0
 have e0 : u0.cells.toList = [u0] := by
  have := hval 0 22 u0 rfl rfl
  unfold Value.okWide at this
  rw [v22] at this
  cases u0 with
  | agg cs => simp only [Cell.okWide, v22, Cell.ok] at this
  | _ => rfl
 rw [e0] at r0
 have r0' : Ro W (pW W) (.sl 1 (b.map OT.enc)) u0 := by
  cases r0 with | cons _ _ _ _ h _ => exact h
 have a0 : AG ρ0 W (pW W) (.t (.sl 1 (b.map OT.enc))) u0 [] := .t _ _ r0'
 obtain ⟨m, hgl⟩ := glOk_of hS
 have hargs : AJ ρ0 W (pW W) ((lc OT.asl l0).enc (b, ())) [u0] [] := .cons _ _ _ _ [] [] a0 .nil
 have hcall := con5 m b W (pW W) [u0] [] hgl hargs .nil (fun b hb => by cases hb) (fun b hb => hb)
 refine Calls.mono hcall fun e W' hq => ?_
 obtain ⟨v, pr', G, F, he, hfr, _, _, _, _, hv, _, _⟩ := hq
 obtain ⟨rfl, _⟩ := hv.val
 have hb : Below W.heap.size W W' := ⟨hfr.os, hfr.tape, hfr.output, hfr.size, fun k hk => hfr.block k hk (by simp)⟩
 refine ⟨_, he, _, _, _, [], p, [], hW', ?_, ?_, rfl, hb.frame _, fun h => by cases h⟩
 ·exact trodAll_mk1 (shut_bool (show Tryz.prog.underlying 4 = some .bool by kernel_rfl) _)
 ·have := trodAll_mk1 (Below.trod (by kernel_rfl) (by kernel_rfl) (of_decide_eq_true (by kernel_rfl)) k0 hb fun x hx => hlt x (by simp [hx]))
  exact this
end Go.V
namespace Go.Proofs.YtahogphlohnpmaaGreatDoor
theorem fnLookMany_card : Rows.FnLookManyCardSaid := card_of Go.V.every
end Go.Proofs.YtahogphlohnpmaaGreatDoor
