/- The row. No condition. -/
import Derived.Test.YtahogphlohnpmaaGreatDoorKA
import Derived.Test.YtahogphlohnpmaaGreatDoorXB
namespace Go.V
open Go Go.Proofs
set_option maxRecDepth 100000
set_option linter.unusedSimpArgs false
set_option linter.unusedVariables false
def Ag {α : Type} (f : α → Int) : List α → Int
 | [] => 0
 | x :: r => f x + Ag f r
theorem BS {α : Type} [Inhabited α] {f : α → Int} {xs : List α} {i : Nat} (h : i < xs.length) : Ag f (xs.drop i) = f (xs.getD i default) + Ag f (xs.drop (i + 1)) := by
 rw [AW h]; rfl
theorem Bs {α : Type} {f : α → Int} {xs : List α} {i : Nat} (h : xs.length ≤ i) : Ag f (xs.drop i) = 0 := by
 rw [List.drop_eq_nil_of_le h]; rfl
theorem GR {α : Type} {f : α → Int} {B : Int} : ∀ {xs : List α}, (∀ x ∈ xs, 0 ≤ f x ∧ f x ≤ B) → 0 ≤ Ag f xs ∧ Ag f xs ≤ B * xs.length
 | [], _ => by simp [Ag]
 | x :: r, h => by
   have h1 := h x (by simp)
   have h2 := GR (xs := r) fun y hy => h y (by simp [hy])
   have e1 : B * ((r.length + 1 : Nat) : Int) = B * r.length + B := by rw [Int.natCast_add, Int.mul_add]; simp
   simp only [Ag, List.length_cons]
   omega
theorem BR {α : Type} {f : α → Int} {xs : List α} (h : ∀ x ∈ xs, 0 ≤ f x) (i : Nat) : 0 ≤ Ag f (xs.drop i) := by
 have h2 : ∀ {ys : List α}, (∀ x ∈ ys, 0 ≤ f x) → 0 ≤ Ag f ys := fun {ys} => by
  induction ys with
  | nil => intro _; exact Int.le_refl _
  | cons y r ih =>
    intro h
    have h1 := h y (by simp)
    have h3 := ih fun z hz => h z (by simp [hz])
    show 0 ≤ f y + Ag f r
    omega
 exact h2 fun x hx => h x (List.mem_of_mem_drop hx)
def Is (x : Im) : Int := x.to.length
open Classical in
noncomputable def D9 (s : Sp) : Int := if Bl s then Ag Is s.items else -1
theorem Ic {s : Sp} (h : Bl s) : D9 s = Ag Is s.items := if_pos h
theorem QU {s : Sp} (h : ¬ Bl s) : D9 s = -1 := if_neg h
theorem MF {s : Sp} (h : Bl s) : 0 ≤ Ag Is s.items ∧ Ag Is s.items ≤ 40 := by
 have h1 := GR (f := Is) (B := 4) (xs := s.items) fun x hx => by
  have := (h.1 x hx).1.2.2.2.2.1
  unfold Is; omega
 have h2 := h.2.2.2
 omega
def tU : Ct := At (lc TM.ag l0) (fun p => True) (fun p => .t (.v (.int .i64 (D9 p.1))))
section
attribute [local go_sem] ov Ac Ab lm
theorem qP {G : Gt} (hG : Aj G) (hh : G.e 30 = AA 0 ov) : Gd G 58 (AA 0 tU) := by
 refine gr (fn := Tryz.f58) (n := 1) rfl hG ?_
 rintro ⟨s, ⟨⟩⟩ hpre
 simp -implicitDefEqProofs only [Tryz.f58, go_sem, hh, seval] at hpre ⊢
 by_cases h : Bl s
 ·have b1 := Aq h
  have hm := MF h
  rw [Ic h]
  simp -implicitDefEqProofs only [b1, go_sem, hh, seval]
  with_reducible repeat' (first | apply ai | intro _ | ((first | apply s1 | apply s2 | apply s3 | apply s4) <;> intro hb <;> simp -implicitDefEqProofs only [hb, go_sem, hh, seval] <;> try simp only [qz] at hb))
  all_goals first | rfl | omega | assumption | contradiction | skip
  all_goals
   refine AE [] (ι := {p : Nat × Int // p.1 ≤ s.items.length ∧ 0 ≤ p.2 ∧ p.2 + Ag Is (s.items.drop p.1) = Ag Is s.items}) (fun p => ⟨[(1, .pb 1001 0), (3, .t (.v (.int .i64 p.1.2))), (4, .t (.v (.int .i64 p.1.1)))], [(1001, some (.box ((EH s).map .t)))]⟩) (fun p => s.items.length - p.1.1) ⟨(0, 0), by simp, by simp, by simp⟩ rfl ?_ ?_
   ·simp -implicitDefEqProofs only [go_sem, hh, seval]
    try simp
   ·rintro ⟨⟨i, v⟩, hi, h0, hv⟩
    dsimp only at hi h0 hv ⊢
    by_cases hlt : (i : Int) < s.items.length
    ·have Ak := BS (f := Is) (xs := s.items) (i := i) (by omega)
     have hrest := BR (f := Is) (xs := s.items) (fun x _ => by unfold Is; omega) (i + 1)
     have hr : Is (s.items.getD i default) = (s.items.getD i default).to.length := rfl
     simp -implicitDefEqProofs only [hlt, decide_true, tn, go_sem, hh, seval]
     with_reducible repeat' (first | apply ai | intro _ | ((first | apply s1 | apply s2 | apply s3 | apply s4) <;> intro hb <;> simp -implicitDefEqProofs only [hb, go_sem, hh, seval] <;> try simp only [qz] at hb))
     all_goals (try simp only [maxLen, tn] at *)
     all_goals first | rfl | omega | skip
     refine ⟨⟨(i + 1, v + (s.items.getD i default).to.length), by dsimp only; omega, by dsimp only; omega, by dsimp only; omega⟩, by dsimp only; omega, ?_⟩
     simp -implicitDefEqProofs only [go_sem, hh, seval]
     try simp
    ·have Ak := Bs (f := Is) (xs := s.items) (i := i) (by omega)
     simp -implicitDefEqProofs only [hlt, decide_false, go_sem, hh, seval]
     with_reducible repeat' (first | apply ai | intro _ | ((first | apply s1 | apply s2 | apply s3 | apply s4) <;> intro hb <;> simp -implicitDefEqProofs only [hb, go_sem, hh, seval] <;> try simp only [qz] at hb))
     all_goals first | rfl | omega | (rw [← hv, Ak, Int.add_zero]; done) | skip
 ·have b1 := AQ h
  rw [QU h]
  simp -implicitDefEqProofs only [b1, go_sem, hh, seval]
  with_reducible repeat' (first | apply ai | intro _ | ((first | apply s1 | apply s2 | apply s3 | apply s4) <;> intro hb <;> simp -implicitDefEqProofs only [hb, go_sem, hh, seval] <;> try simp only [qz] at hb))
  all_goals first | rfl | omega | assumption | contradiction | skip
end
def oo : Ct := At (lc TM.ag l0) (fun p => F7 p.1) (fun p => .t (.v (.int .i64 (D9 p.1))))
section
attribute [local go_sem] ol Ac Ab lm
theorem pu {G : Gt} (hG : Aj G) (hh : G.e 10 = AA 0 ol) : Gd G 11 (AA 0 oo) := by
 refine gr (fn := Tryz.f11) (n := 1) rfl hG ?_
 rintro ⟨s, ⟨⟩⟩ hpre
 simp -implicitDefEqProofs only [Tryz.f11, go_sem, hh, seval] at hpre ⊢
 by_cases h : Bl s
 ·have b1 := Aq h
  have hm := MF h
  rw [Ic h]
  simp -implicitDefEqProofs only [b1, go_sem, hh, seval]
  with_reducible repeat' (first | apply ai | intro _ | ((first | apply s1 | apply s2 | apply s3 | apply s4) <;> intro hb <;> simp -implicitDefEqProofs only [hb, go_sem, hh, seval] <;> try simp only [qz] at hb))
  all_goals first | rfl | omega | assumption | contradiction | skip
  all_goals
   refine AE [] (ι := {p : Nat × Int // p.1 ≤ s.items.length ∧ 0 ≤ p.2 ∧ p.2 + Ag Is (s.items.drop p.1) = Ag Is s.items}) (fun p => ⟨[(1, .pb 1001 0), (3, .t (.v (.int .i64 p.1.2))), (10, .t (.sl 5 (s.items.map Ay))), (11, .t (.v (.int .i64 s.items.length))), (12, .t (.v (.int .i64 p.1.1)))], [(1001, some (.box ((EH s).map .t)))]⟩) (fun p => s.items.length - p.1.1) ⟨(0, 0), by simp, by simp, by simp⟩ rfl ?_ ?_
   ·simp -implicitDefEqProofs only [go_sem, hh, seval]
    try simp
   ·rintro ⟨⟨i, v⟩, hi, h0, hv⟩
    dsimp only at hi h0 hv ⊢
    by_cases hlt : (i : Int) < s.items.length
    ·have Ak := BS (f := Is) (xs := s.items) (i := i) (by omega)
     have hrest := BR (f := Is) (xs := s.items) (fun x _ => by unfold Is; omega) (i + 1)
     have hr : Is (s.items.getD i default) = (s.items.getD i default).to.length := rfl
     simp -implicitDefEqProofs only [hlt, decide_true, tn, go_sem, hh, seval]
     with_reducible repeat' (first | apply ai | intro _ | ((first | apply s1 | apply s2 | apply s3 | apply s4) <;> intro hb <;> simp -implicitDefEqProofs only [hb, go_sem, hh, seval] <;> try simp only [qz] at hb))
     all_goals (try simp only [maxLen, tn] at *)
     all_goals first | rfl | omega | skip
     refine ⟨⟨(i + 1, v + (s.items.getD i default).to.length), by dsimp only; omega, by dsimp only; omega, by dsimp only; omega⟩, by dsimp only; omega, ?_⟩
     simp -implicitDefEqProofs only [go_sem, hh, seval]
     try simp
    ·have Ak := Bs (f := Is) (xs := s.items) (i := i) (by omega)
     simp -implicitDefEqProofs only [hlt, decide_false, go_sem, hh, seval]
     with_reducible repeat' (first | apply ai | intro _ | ((first | apply s1 | apply s2 | apply s3 | apply s4) <;> intro hb <;> simp -implicitDefEqProofs only [hb, go_sem, hh, seval] <;> try simp only [qz] at hb))
     all_goals first | rfl | omega | (rw [← hv, Ak, Int.add_zero]; done) | skip
 ·have b1 := AQ h
  rw [QU h]
  simp -implicitDefEqProofs only [b1, go_sem, hh, seval]
  with_reducible repeat' (first | apply ai | intro _ | ((first | apply s1 | apply s2 | apply s3 | apply s4) <;> intro hb <;> simp -implicitDefEqProofs only [hb, go_sem, hh, seval] <;> try simp only [qz] at hb))
  all_goals first | rfl | omega | assumption | contradiction | skip
end
def Fo (h : Hs) : Int := h.spool.items.length
noncomputable def Fq (h : Hs) : Int := D9 h.spool
def MH (b : Bx) : Int := b.mails.length
def JQ (h : Hs) : Int := Ag MH h.boxes
def Jv (h : Hs) : Int := h.lost.length
open Classical in
noncomputable def Mv (w : Wd) : List Int := if II w then [Ag Fo w.hosts, Ag Fq w.hosts, Ag JQ w.hosts, Ag Jv w.hosts] else []
theorem La {w : Wd} (h : II w) : Mv w = [Ag Fo w.hosts, Ag Fq w.hosts, Ag JQ w.hosts, Ag Jv w.hosts] := if_pos h
theorem LZ {w : Wd} (h : ¬ II w) : Mv w = [] := if_neg h
theorem Br {h : Hs} (hh : Fk h) (ho : IH h) : (0 ≤ Fo h ∧ Fo h ≤ 10) ∧ (0 ≤ Fq h ∧ Fq h ≤ 40) ∧ (0 ≤ JQ h ∧ JQ h ≤ 1099511627776) ∧ (0 ≤ Jv h ∧ Jv h ≤ 1048576) := by
 obtain ⟨_, _, ⟨lb, zb⟩, ⟨ll, _⟩⟩ := ho
 have hs := hh.2.2
 have h1 := hs.2.2.2
 have h2 := MF hs
 have h3 := GR (f := MH) (B := 1048576) (xs := h.boxes) fun b hb => by
  have := (zb b hb).2.1
  unfold MH; omega
 refine ⟨by unfold Fo; omega, by unfold Fq; rw [Ic hs]; exact h2, ?_, by unfold Jv; omega⟩
 unfold JQ
 have h4 : (1048576 : Int) * h.boxes.length ≤ 1048576 * 1048576 := Int.mul_le_mul_of_nonneg_left lb (by decide)
 omega
theorem MD {w : Wd} (hw : II w) (ho : Ke w) : (Ag Fo w.hosts ≤ 40) ∧ (Ag Fq w.hosts ≤ 160) ∧ (Ag JQ w.hosts ≤ 4398046511104) ∧ (Ag Jv w.hosts ≤ 4194304) := by
 have hf := fun h hh => Br (hw.1 h hh) (ho.1.2 h hh)
 have h4 := hw.2.2.2.1.2
 have h1 := GR (f := Fo) (B := 10) (xs := w.hosts) fun h hh => (hf h hh).1
 have h2 := GR (f := Fq) (B := 40) (xs := w.hosts) fun h hh => (hf h hh).2.1
 have h3 := GR (f := JQ) (B := 1099511627776) (xs := w.hosts) fun h hh => (hf h hh).2.2.1
 have h5 := GR (f := Jv) (B := 1048576) (xs := w.hosts) fun h hh => (hf h hh).2.2.2
 refine ⟨by omega, by omega, by omega, by omega⟩
def tK : Ct := At (lc TN.ag l0) (fun p => Ke p.1) (fun p => .o true 1 ((Mv p.1).map An))
section
attribute [local go_sem] o9 tU Ac Ab lm List.map_nil List.map_cons
set_option maxHeartbeats 6400000 in
theorem p5 {G : Gt} (hG : Aj G) (hh : G.e 50 = AA 0 o9 ∧ G.e 58 = AA 0 tU) : Gd G 22 (AA 0 tK) := by
 refine gr (fn := Tryz.f22) (n := 1) rfl hG ?_ (hs := fun _ _ => .deep _ _)
 rintro ⟨w, ⟨⟩⟩ hpre
 simp -implicitDefEqProofs only [Tryz.f22, go_sem, hh, seval] at hpre ⊢
 have hok : Ke w := hpre
 by_cases h : II w
 ·have b1 := Aq h
  obtain ⟨t1, t2, t3, t4⟩ := MD h hok
  rw [La h]
  simp -implicitDefEqProofs only [b1, go_sem, hh, seval]
  with_reducible repeat' (first | apply ai | intro _ | ((first | apply s1 | apply s2 | apply s3 | apply s4) <;> intro hb <;> simp -implicitDefEqProofs only [hb, go_sem, hh, seval] <;> try simp only [qz] at hb))
  all_goals first | rfl | omega | assumption | contradiction | skip
  all_goals
   refine AE [] (ι := {p : Nat × Int × Int × Int × Int // p.1 ≤ w.hosts.length ∧ (0 ≤ p.2.1 ∧ p.2.1 + Ag Fo (w.hosts.drop p.1) = Ag Fo w.hosts) ∧ (0 ≤ p.2.2.1 ∧ p.2.2.1 + Ag Fq (w.hosts.drop p.1) = Ag Fq w.hosts) ∧ (0 ≤ p.2.2.2.1 ∧ p.2.2.2.1 + Ag JQ (w.hosts.drop p.1) = Ag JQ w.hosts) ∧ (0 ≤ p.2.2.2.2 ∧ p.2.2.2.2 + Ag Jv (w.hosts.drop p.1) = Ag Jv w.hosts)}) (fun p => ⟨[(1, .pb 1001 0), (3, .t (.v (.int .i64 p.1.2.1))), (4, .t (.v (.int .i64 p.1.2.2.1))), (5, .t (.v (.int .i64 p.1.2.2.2.1))), (6, .t (.v (.int .i64 p.1.2.2.2.2))), (7, .t (.v (.int .i64 p.1.1)))], [(1001, some (.box ((DT w).map .t)))]⟩) (fun p => w.hosts.length - p.1.1) ⟨(0, 0, 0, 0, 0), by simp, by simp, by simp, by simp, by simp⟩ rfl ?_ ?_
   ·simp -implicitDefEqProofs only [go_sem, hh, seval]
    try simp
   ·rintro ⟨⟨i, va, vb, vc, vd⟩, hi, ⟨a0, a1⟩, ⟨b0, b2⟩, ⟨c0, c1⟩, ⟨d0, d1⟩⟩
    dsimp only at hi a0 a1 b0 b2 c0 c1 d0 d1 ⊢
    by_cases hlt : (i : Int) < w.hosts.length
    ·skip
     have hm := AC (xs := w.hosts) (j := i) (by omega)
     obtain ⟨f1, f2, f3, f4⟩ := Br (h.1 _ hm) (hok.1.2 _ hm)
     have s1 := BS (f := Fo) (xs := w.hosts) (i := i) (by omega)
     have s2 := BS (f := Fq) (xs := w.hosts) (i := i) (by omega)
     have s3 := BS (f := JQ) (xs := w.hosts) (i := i) (by omega)
     have s4 := BS (f := Jv) (xs := w.hosts) (i := i) (by omega)
     have r1 := BR (f := Fo) (xs := w.hosts) (fun x hx => (Br (h.1 x hx) (hok.1.2 x hx)).1.1) (i + 1)
     have r2 := BR (f := Fq) (xs := w.hosts) (fun x hx => (Br (h.1 x hx) (hok.1.2 x hx)).2.1.1) (i + 1)
     have r3 := BR (f := JQ) (xs := w.hosts) (fun x hx => (Br (h.1 x hx) (hok.1.2 x hx)).2.2.1.1) (i + 1)
     have r4 := BR (f := Jv) (xs := w.hosts) (fun x hx => (Br (h.1 x hx) (hok.1.2 x hx)).2.2.2.1) (i + 1)
     have e1 : Fo (w.hosts.getD i default) = (w.hosts.getD i default).spool.items.length := rfl
     have e2 : Fq (w.hosts.getD i default) = D9 (w.hosts.getD i default).spool := rfl
     have e3 : JQ (w.hosts.getD i default) = Ag MH (w.hosts.getD i default).boxes := rfl
     have e4 : Jv (w.hosts.getD i default) = (w.hosts.getD i default).lost.length := rfl
     simp -implicitDefEqProofs only [hlt, decide_true, tn, go_sem, hh, seval]
     with_reducible repeat' (first | apply ai | intro _ | ((first | apply s1 | apply s2 | apply s3 | apply s4) <;> intro hb <;> simp -implicitDefEqProofs only [hb, go_sem, hh, seval] <;> try simp only [qz] at hb))
     all_goals (try simp only [maxLen, tn] at *)
     all_goals first | rfl | omega | skip
     refine AE [] (ι := {p : Nat × Int // p.1 ≤ (w.hosts.getD i default).boxes.length ∧ vc ≤ p.2 ∧ p.2 + Ag MH ((w.hosts.getD i default).boxes.drop p.1) = vc + Ag MH (w.hosts.getD i default).boxes}) (fun p => ⟨[(1, .pb 1001 0), (3, .t (.v (.int .i64 (va + (w.hosts.getD i default).spool.items.length)))), (4, .t (.v (.int .i64 (vb + D9 (w.hosts.getD i default).spool)))), (5, .t (.v (.int .i64 p.1.2))), (6, .t (.v (.int .i64 (vd + (w.hosts.getD i default).lost.length)))), (7, .t (.v (.int .i64 i))), (8, .pb 1008 0), (9, .t (.v (.int .i64 p.1.1)))], [(1001, some (.box ((DT w).map .t))), (1008, some (.box ((Ah (w.hosts.getD i default)).map .t)))]⟩) (fun p => (w.hosts.getD i default).boxes.length - p.1.1) ⟨(0, vc), by simp, by simp, by simp⟩ rfl ?_ ?_
     ·simp -implicitDefEqProofs only [go_sem, hh, seval]
      try simp
     ·rintro ⟨⟨k, vk⟩, hk, k0, k1⟩
      dsimp only at hk k0 k1 ⊢
      by_cases hlt2 : (k : Int) < (w.hosts.getD i default).boxes.length
      ·skip
       have Ak := BS (f := MH) (xs := (w.hosts.getD i default).boxes) (i := k) (by omega)
       have hrest := BR (f := MH) (xs := (w.hosts.getD i default).boxes) (fun x _ => by unfold MH; omega) (k + 1)
       have hr : MH ((w.hosts.getD i default).boxes.getD k default) = ((w.hosts.getD i default).boxes.getD k default).mails.length := rfl
       simp -implicitDefEqProofs only [hlt2, decide_true, tn, go_sem, hh, seval]
       with_reducible repeat' (first | apply ai | intro _ | ((first | apply s1 | apply s2 | apply s3 | apply s4) <;> intro hb <;> simp -implicitDefEqProofs only [hb, go_sem, hh, seval] <;> try simp only [qz] at hb))
       all_goals (try simp only [maxLen, tn] at *)
       all_goals first | rfl | omega | skip
       refine ⟨⟨(k + 1, vk + ((w.hosts.getD i default).boxes.getD k default).mails.length), by dsimp only; omega, by dsimp only; omega, by dsimp only; omega⟩, by dsimp only; omega, ?_⟩
       simp -implicitDefEqProofs only [go_sem, hh, seval]
       try simp
      ·have Ak := Bs (f := MH) (xs := (w.hosts.getD i default).boxes) (i := k) (by omega)
       simp -implicitDefEqProofs only [hlt2, decide_false, go_sem, hh, seval]
       with_reducible repeat' (first | apply ai | intro _ | ((first | apply s1 | apply s2 | apply s3 | apply s4) <;> intro hb <;> simp -implicitDefEqProofs only [hb, go_sem, hh, seval] <;> try simp only [qz] at hb))
       all_goals first | rfl | omega | skip
       refine ⟨⟨(i + 1, va + (w.hosts.getD i default).spool.items.length, vb + D9 (w.hosts.getD i default).spool, vk, vd + (w.hosts.getD i default).lost.length), by dsimp only; omega, by dsimp only; omega, by dsimp only; omega, by dsimp only; omega, by dsimp only; omega⟩, by dsimp only; omega, ?_⟩
       simp -implicitDefEqProofs only [go_sem, hh, seval]
       try simp
    ·have s1 := Bs (f := Fo) (xs := w.hosts) (i := i) (by omega)
     have s2 := Bs (f := Fq) (xs := w.hosts) (i := i) (by omega)
     have s3 := Bs (f := JQ) (xs := w.hosts) (i := i) (by omega)
     have s4 := Bs (f := Jv) (xs := w.hosts) (i := i) (by omega)
     have q1 : va = Ag Fo w.hosts := by omega
     have q2 : vb = Ag Fq w.hosts := by omega
     have q3 : vc = Ag JQ w.hosts := by omega
     have q4 : vd = Ag Jv w.hosts := by omega
     subst q1 q2 q3 q4
     simp -implicitDefEqProofs only [hlt, decide_false, go_sem, hh, seval]
     with_reducible repeat' (first | apply ai | intro _ | ((first | apply s1 | apply s2 | apply s3 | apply s4) <;> intro hb <;> simp -implicitDefEqProofs only [hb, go_sem, hh, seval] <;> try simp only [qz] at hb))
     all_goals first | rfl | omega | skip
 ·have b1 := AQ h
  rw [LZ h]
  simp -implicitDefEqProofs only [b1, go_sem, hh, seval]
  with_reducible repeat' (first | apply ai | intro _ | ((first | apply s1 | apply s2 | apply s3 | apply s4) <;> intro hb <;> simp -implicitDefEqProofs only [hb, go_sem, hh, seval] <;> try simp only [qz] at hb))
  all_goals first | rfl | omega | assumption | contradiction | skip
end
def L4 (a b c d : Int) : List Int := [a, b, c, d]
section
variable {a b c d x : Int}
theorem Ti : (L4 a b c d).length = 4 := rfl
theorem bn : (L4 a b c d).getD 0 default = a := rfl
theorem bo : (L4 a b c d).getD 1 default = b := rfl
theorem bp : (L4 a b c d).getD 2 default = c := rfl
theorem bq : (L4 a b c d).getD 3 default = d := rfl
theorem n8 : (L4 a b c d).set 0 x = L4 x b c d := rfl
theorem n9 : (L4 a b c d).set 1 x = L4 a x c d := rfl
theorem oA : (L4 a b c d).set 2 x = L4 a b x d := rfl
theorem oB : (L4 a b c d).set 3 x = L4 a b c x := rfl
theorem rz : Int.toNat 0 = 0 := rfl
theorem r7 : Int.toNat 1 = 1 := rfl
theorem uL : Int.toNat 2 = 2 := rfl
theorem uM : Int.toNat 3 = 3 := rfl
end
def tI : Ct := At (lc TN.ag l0) (fun p => Ke p.1) (fun p => .o true 1 ((Mv p.1).map An))
section
attribute [local go_sem] ou oo Ac Ab lm List.map_nil AY BN Iv Ti bn bo bp bq n8 n9 oA oB rz r7 uL uM
set_option maxHeartbeats 6400000 in
theorem pz {G : Gt} (hG : Aj G) (hh : G.e 17 = AA 0 ou ∧ G.e 11 = AA 0 oo) : Gd G 20 (AA 0 tI) := by
 refine gr (fn := Tryz.f20) (n := 1) rfl hG ?_ (hs := fun _ _ => .deep _ _)
 rintro ⟨w, ⟨⟩⟩ hpre
 simp -implicitDefEqProofs only [Tryz.f20, go_sem, hh, seval] at hpre ⊢
 have hok : Ke w := hpre
 by_cases h : II w
 ·have b1 := Aq h
  obtain ⟨t1, t2, t3, t4⟩ := MD h hok
  rw [La h]
  simp -implicitDefEqProofs only [b1, go_sem, hh, seval]
  with_reducible repeat' (first | apply ai | intro _ | ((first | apply s1 | apply s2 | apply s3 | apply s4) <;> intro hb <;> simp -implicitDefEqProofs only [hb, go_sem, hh, seval] <;> try simp only [qz] at hb))
  all_goals first | rfl | omega | assumption | contradiction | skip
  all_goals
   refine AE [(3, 1903, true, 1)] (ι := {p : Nat × Int × Int × Int × Int // p.1 ≤ w.hosts.length ∧ (0 ≤ p.2.1 ∧ p.2.1 + Ag Fo (w.hosts.drop p.1) = Ag Fo w.hosts) ∧ (0 ≤ p.2.2.1 ∧ p.2.2.1 + Ag Fq (w.hosts.drop p.1) = Ag Fq w.hosts) ∧ (0 ≤ p.2.2.2.1 ∧ p.2.2.2.1 + Ag JQ (w.hosts.drop p.1) = Ag JQ w.hosts) ∧ (0 ≤ p.2.2.2.2 ∧ p.2.2.2.2 + Ag Jv (w.hosts.drop p.1) = Ag Jv w.hosts)}) (fun p => ⟨[(1, .pb 1001 0), (3, .h 1903), (13, .t (.sl 7 (w.hosts.map Ah))), (14, .t (.v (.int .i64 w.hosts.length))), (15, .t (.v (.int .i64 p.1.1)))], [(1001, some (.box ((DT w).map .t))), (1903, some (.arr true 1 ((L4 p.1.2.1 p.1.2.2.1 p.1.2.2.2.1 p.1.2.2.2.2).map An)))]⟩) (fun p => w.hosts.length - p.1.1) ⟨(0, 0, 0, 0, 0), by simp, by simp, by simp, by simp, by simp⟩ rfl ?_ ?_
   ·have hrep : List.replicate (Int.toNat 4) [T.v (Value.int IntKind.i64 0)] = (L4 0 0 0 0).map An := rfl
    simp -implicitDefEqProofs only [go_sem, hh, seval]
    simp [hrep]
    try rfl
   ·rintro ⟨⟨i, va, vb, vc, vd⟩, hi, ⟨a0, a1⟩, ⟨b0, b2⟩, ⟨c0, c1⟩, ⟨d0, d1⟩⟩
    dsimp only at hi a0 a1 b0 b2 c0 c1 d0 d1 ⊢
    by_cases hlt : (i : Int) < w.hosts.length
    ·skip
     have hm := AC (xs := w.hosts) (j := i) (by omega)
     obtain ⟨f1, f2, f3, f4⟩ := Br (h.1 _ hm) (hok.1.2 _ hm)
     have s1 := BS (f := Fo) (xs := w.hosts) (i := i) (by omega)
     have s2 := BS (f := Fq) (xs := w.hosts) (i := i) (by omega)
     have s3 := BS (f := JQ) (xs := w.hosts) (i := i) (by omega)
     have s4 := BS (f := Jv) (xs := w.hosts) (i := i) (by omega)
     have r1 := BR (f := Fo) (xs := w.hosts) (fun x hx => (Br (h.1 x hx) (hok.1.2 x hx)).1.1) (i + 1)
     have r2 := BR (f := Fq) (xs := w.hosts) (fun x hx => (Br (h.1 x hx) (hok.1.2 x hx)).2.1.1) (i + 1)
     have r3 := BR (f := JQ) (xs := w.hosts) (fun x hx => (Br (h.1 x hx) (hok.1.2 x hx)).2.2.1.1) (i + 1)
     have r4 := BR (f := Jv) (xs := w.hosts) (fun x hx => (Br (h.1 x hx) (hok.1.2 x hx)).2.2.2.1) (i + 1)
     have e1 : Fo (w.hosts.getD i default) = (w.hosts.getD i default).spool.items.length := rfl
     have e2 : Fq (w.hosts.getD i default) = D9 (w.hosts.getD i default).spool := rfl
     have e3 : JQ (w.hosts.getD i default) = Ag MH (w.hosts.getD i default).boxes := rfl
     have e4 : Jv (w.hosts.getD i default) = (w.hosts.getD i default).lost.length := rfl
     have hz := (hok.1.2 _ hm).2.1
     simp -implicitDefEqProofs only [hlt, decide_true, tn, go_sem, hh, seval]
     with_reducible repeat' (first | apply ai | intro _ | ((first | apply s1 | apply s2 | apply s3 | apply s4) <;> intro hb <;> simp -implicitDefEqProofs only [hb, go_sem, hh, seval] <;> try simp only [qz] at hb))
     all_goals (try simp only [maxLen, tn] at *)
     all_goals first | rfl | omega | assumption | decide | skip
     all_goals
      refine AE [] (ι := {p : Nat × Int // p.1 ≤ (w.hosts.getD i default).boxes.length ∧ vc ≤ p.2 ∧ p.2 + Ag MH ((w.hosts.getD i default).boxes.drop p.1) = vc + Ag MH (w.hosts.getD i default).boxes}) (fun p => ⟨[(1, .pb 1001 0), (3, .h 1903), (5, .pb 1005 0), (13, .t (.sl 7 (w.hosts.map Ah))), (14, .t (.v (.int .i64 w.hosts.length))), (15, .t (.v (.int .i64 i))), (37, .t (.sl 3 ((w.hosts.getD i default).boxes.map CF))), (38, .t (.v (.int .i64 (w.hosts.getD i default).boxes.length))), (39, .t (.v (.int .i64 p.1.1)))], [(1001, some (.box ((DT w).map .t))), (1005, some (.box ((Ah (w.hosts.getD i default)).map .t))), (1903, some (.arr true 1 ((L4 (va + (w.hosts.getD i default).spool.items.length) (vb + D9 (w.hosts.getD i default).spool) p.1.2 vd).map An)))]⟩) (fun p => (w.hosts.getD i default).boxes.length - p.1.1) ⟨(0, vc), by simp, by simp, by simp⟩ rfl ?_ ?_
      ·simp -implicitDefEqProofs only [go_sem, hh, seval]
       try simp
      ·rintro ⟨⟨k, vk⟩, hk, k0, k1⟩
       dsimp only at hk k0 k1 ⊢
       by_cases hlt2 : (k : Int) < (w.hosts.getD i default).boxes.length
       ·skip
        have Ak := BS (f := MH) (xs := (w.hosts.getD i default).boxes) (i := k) (by omega)
        have hrest := BR (f := MH) (xs := (w.hosts.getD i default).boxes) (fun x _ => by unfold MH; omega) (k + 1)
        have hr : MH ((w.hosts.getD i default).boxes.getD k default) = ((w.hosts.getD i default).boxes.getD k default).mails.length := rfl
        simp -implicitDefEqProofs only [hlt2, decide_true, tn, go_sem, hh, seval]
        with_reducible repeat' (first | apply ai | intro _ | ((first | apply s1 | apply s2 | apply s3 | apply s4) <;> intro hb <;> simp -implicitDefEqProofs only [hb, go_sem, hh, seval] <;> try simp only [qz] at hb))
        all_goals (try simp only [maxLen, tn] at *)
        all_goals first | rfl | omega | decide | skip
        refine ⟨⟨(k + 1, vk + ((w.hosts.getD i default).boxes.getD k default).mails.length), by dsimp only; omega, by dsimp only; omega, by dsimp only; omega⟩, by dsimp only; omega, ?_⟩
        simp -implicitDefEqProofs only [go_sem, hh, seval]
        try simp
       ·have Ak := Bs (f := MH) (xs := (w.hosts.getD i default).boxes) (i := k) (by omega)
        simp -implicitDefEqProofs only [hlt2, decide_false, go_sem, hh, seval]
        with_reducible repeat' (first | apply ai | intro _ | ((first | apply s1 | apply s2 | apply s3 | apply s4) <;> intro hb <;> simp -implicitDefEqProofs only [hb, go_sem, hh, seval] <;> try simp only [qz] at hb))
        all_goals (try simp only [maxLen, tn] at *)
        all_goals first | rfl | omega | decide | skip
        refine ⟨⟨(i + 1, va + (w.hosts.getD i default).spool.items.length, vb + D9 (w.hosts.getD i default).spool, vk, vd + (w.hosts.getD i default).lost.length), by dsimp only; omega, by dsimp only; omega, by dsimp only; omega, by dsimp only; omega, by dsimp only; omega⟩, by dsimp only; omega, ?_⟩
        simp -implicitDefEqProofs only [go_sem, hh, seval]
        try simp
    ·have s1 := Bs (f := Fo) (xs := w.hosts) (i := i) (by omega)
     have s2 := Bs (f := Fq) (xs := w.hosts) (i := i) (by omega)
     have s3 := Bs (f := JQ) (xs := w.hosts) (i := i) (by omega)
     have s4 := Bs (f := Jv) (xs := w.hosts) (i := i) (by omega)
     have q1 : va = Ag Fo w.hosts := by omega
     have q2 : vb = Ag Fq w.hosts := by omega
     have q3 : vc = Ag JQ w.hosts := by omega
     have q4 : vd = Ag Jv w.hosts := by omega
     subst q1 q2 q3 q4
     simp -implicitDefEqProofs only [hlt, decide_false, go_sem, hh, seval]
     with_reducible repeat' (first | apply ai | intro _ | ((first | apply s1 | apply s2 | apply s3 | apply s4) <;> intro hb <;> simp -implicitDefEqProofs only [hb, go_sem, hh, seval] <;> try simp only [qz] at hb))
     all_goals first | rfl | omega | skip
 ·have b1 := AQ h
  rw [LZ h]
  simp -implicitDefEqProofs only [b1, go_sem, hh, seval]
  with_reducible repeat' (first | apply ai | intro _ | ((first | apply s1 | apply s2 | apply s3 | apply s4) <;> intro hb <;> simp -implicitDefEqProofs only [hb, go_sem, hh, seval] <;> try simp only [qz] at hb))
  all_goals first | rfl | omega | assumption | contradiction | skip
end
open Classical in
noncomputable def KU (d : ByteArray) : Wy → List Wy → Wy
 | b, [] => b
 | b, w :: r => KU d (if YH d w.ends ∧ b.ends.size < w.ends.size then w else b) r
noncomputable def OR (c : Cf) (d : ByteArray) : ByteArray := (KU d ⟨⟨#[]⟩, ⟨#[]⟩⟩ c.ways).to
theorem lG {d : ByteArray} {b : Wy} {xs : List Wy} {i : Nat} (h : i < xs.length) (h1 : YH d (xs.getD i default).ends) (h2 : b.ends.size < (xs.getD i default).ends.size) : KU d b (xs.drop i) = KU d (xs.getD i default) (xs.drop (i + 1)) := by
 rw [AW h, KU, if_pos ⟨h1, h2⟩]
theorem lF {d : ByteArray} {b : Wy} {xs : List Wy} {i : Nat} (h : i < xs.length) (h1 : ¬ (YH d (xs.getD i default).ends ∧ b.ends.size < (xs.getD i default).ends.size)) : KU d b (xs.drop i) = KU d b (xs.drop (i + 1)) := by
 rw [AW h, KU, if_neg h1]
theorem XU {d : ByteArray} {b : Wy} {xs : List Wy} {i : Nat} (h : xs.length ≤ i) : KU d b (xs.drop i) = b := by
 rw [List.drop_eq_nil_of_le h, KU]
def PA : Ct := At (lc I0.ag (lc Av l0)) (fun p => True) (fun p => .t (.v (.string (OR p.1 p.2.1))))
section
attribute [local go_sem] gO Ac Ab lm
theorem mj {G : Gt} (hG : Aj G) (hh : G.e 222 = AA 0 gO) : Gd G 207 (AA 0 PA) := by
 refine gr (fn := Tryz.f207) (n := 2) rfl hG ?_
 rintro ⟨c, d, ⟨⟩⟩ hpre
 simp -implicitDefEqProofs only [Tryz.f207, go_sem, hh, seval] at hpre ⊢
 refine AE [] (ι := {p : Nat × Wy // p.1 ≤ c.ways.length ∧ OR c d = (KU d p.2 (c.ways.drop p.1)).to}) (fun p => ⟨[(1, .t (.v (.string d))), (2, .pb 1002 0), (5, .t (.v (.string p.1.2.ends))), (6, .t (.v (.string p.1.2.to))), (7, .t (.v (.int .i64 p.1.1)))], [(1002, some (.box ((C9 c).map .t)))]⟩) (fun p => c.ways.length - p.1.1) ⟨(0, ⟨⟨#[]⟩, ⟨#[]⟩⟩), by simp, rfl⟩ rfl ?_ ?_
 ·simp -implicitDefEqProofs only [go_sem, hh, seval]
  try simp
 ·rintro ⟨⟨i, b⟩, hi, hw⟩
  dsimp only at hi hw ⊢
  by_cases hlt : (i : Int) < c.ways.length
  ·simp -implicitDefEqProofs only [hlt, decide_true, tn, go_sem, hh, seval]
   with_reducible repeat' (first | apply ai | intro _ | ((first | apply s1 | apply s2 | apply s3 | apply s4) <;> intro hb <;> simp -implicitDefEqProofs only [hb, go_sem, hh, seval] <;> try simp only [qz] at hb))
   all_goals (try simp only [maxLen, tn] at *)
   all_goals first | rfl | omega | skip
   all_goals first
    | (refine ⟨⟨(i + 1, c.ways.getD i default), by dsimp only; omega, by dsimp only; rw [hw, lG (by omega) (by assumption) (by omega)]⟩, by dsimp only; omega, ?_⟩
       simp -implicitDefEqProofs only [go_sem, hh, seval]
       simp; done)
    | (refine ⟨⟨(i + 1, b), by dsimp only; omega, by dsimp only; rw [hw, lF (by omega) (fun q => by first | exact absurd q.1 (by assumption) | (have := q.2; omega))]⟩, by dsimp only; omega, ?_⟩
       simp -implicitDefEqProofs only [go_sem, hh, seval]
       simp; done)
    | skip
  ·simp -implicitDefEqProofs only [hlt, decide_false, go_sem, hh, seval]
   with_reducible repeat' (first | apply ai | intro _ | ((first | apply s1 | apply s2 | apply s3 | apply s4) <;> intro hb <;> simp -implicitDefEqProofs only [hb, go_sem, hh, seval] <;> try simp only [qz] at hb))
   all_goals first | rfl | omega | (rw [hw, XU (by omega)]; done) | skip
end
def IG (c : Cf) (to : ByteArray) (w : Int) (r : Rc) : Prop := r.next ≤ w ∧ ((r.addr.domain ∈ c.own ∧ to = ⟨#[]⟩) ∨ (¬ r.addr.domain ∈ c.own ∧ ¬ to = ⟨#[]⟩ ∧ OR c r.addr.domain = to))
noncomputable def A4 (c : Cf) (to : ByteArray) (w : Int) : List Rc → List Ad
 | [] => []
 | r :: t => bif BT (IG c to w r) then r.addr :: A4 c to w t else A4 c to w t
section
variable {c : Cf} {to : ByteArray} {w : Int} {xs : List Rc} {i : Nat}
theorem P4 (h : i < xs.length) (hn : IG c to w (xs.getD i default)) : A4 c to w (xs.drop i) = (xs.getD i default).addr :: A4 c to w (xs.drop (i + 1)) := by
 rw [AW h, A4, Aq hn]; rfl
theorem P3 (h : i < xs.length) (hn : ¬ IG c to w (xs.getD i default)) : A4 c to w (xs.drop i) = A4 c to w (xs.drop (i + 1)) := by
 rw [AW h, A4, AQ hn]; rfl
theorem J6 (h : xs.length ≤ i) : A4 c to w (xs.drop i) = [] := by
 rw [List.drop_eq_nil_of_le h, A4]
end
theorem FF (c : Cf) (to : ByteArray) (w : Int) : ∀ xs : List Rc, (A4 c to w xs).length ≤ xs.length
 | [] => Nat.le_refl _
 | r :: t => by
   rw [A4]
   have := FF c to w t
   cases BT (IG c to w r) <;> simp only [cond_true, cond_false, List.length_cons] <;> omega
theorem EN (c : Cf) (to : ByteArray) (w : Int) : ∀ xs : List Rc, ∀ a ∈ A4 c to w xs, ∃ r ∈ xs, r.addr = a ∧ IG c to w r
 | [], a, h => by cases h
 | r :: t, a, h => by
   rw [A4] at h
   by_cases hn : IG c to w r
   ·rw [Aq hn] at h
    rcases List.mem_cons.1 h with e | h
    ·exact ⟨r, by simp, e.symm, hn⟩
    ·obtain ⟨q, hq, he⟩ := EN c to w t a h
     exact ⟨q, by simp [hq], he⟩
   ·rw [AQ hn] at h
    obtain ⟨q, hq, he⟩ := EN c to w t a h
    exact ⟨q, by simp [hq], he⟩
noncomputable def N9 (c : Cf) (x : Im) (to : ByteArray) (w : Int) : Ml := ⟨x.frm, A4 c to w x.to, x.body⟩
theorem QH {xs : List Ad} {a : Ad} : (xs ++ [a]).map Aw = xs.map Aw ++ [[.v (.string a.user), .v (.string a.domain)]] := by
 rw [List.map_append]; rfl
def UQ : Ct := At (lc GU.ag (lc I1.ag (lc BJ (lc Av (lc BJ l0))))) (fun p => 0 ≤ p.2.2.1 ∧ p.2.2.1 < p.2.1.to.length) (fun p => .t (.v (.bool (BT (IG p.1.conf p.2.2.2.1 p.2.2.2.2.1 (p.2.1.to.getD p.2.2.1.toNat default))))))
section
attribute [local go_sem] Ln PA Ac Ab lm
set_option maxHeartbeats 800000 in
theorem ml {G : Gt} (hG : Aj G) (hh : G.e 139 = AA 0 Ln ∧ G.e 207 = AA 0 PA) : Gd G 208 (AA 0 UQ) := by
 refine gr (fn := Tryz.f208) (n := 5) rfl hG ?_
 rintro ⟨h, x, k, to, w, ⟨⟩⟩ hpre
 simp -implicitDefEqProofs only [Tryz.f208, go_sem, hh, seval] at hpre ⊢
 obtain ⟨hk0, hk1⟩ := hpre
 with_reducible repeat' (first | apply ai | intro _ | ((first | apply s1 | apply s2 | apply s3 | apply s4) <;> intro hb <;> simp -implicitDefEqProofs only [hb, go_sem, hh, seval] <;> try simp only [qz] at hb))
 all_goals (try simp only [maxLen] at *)
 all_goals first
  | rfl
  | omega
  | exact uF (fun q => by have := q.1; omega)
  | exact uD ⟨fun q => ⟨by omega, .inl ⟨by assumption, q⟩⟩, fun q => q.2.elim (fun z => z.2) fun z => absurd (by assumption) z.1⟩
  | exact uD ⟨fun q => ⟨by omega, .inr ⟨by assumption, by simpa using hb, q⟩⟩, fun q => q.2.elim (fun z => absurd z.1 (by assumption)) fun z => z.2.2⟩
  | exact uF (fun q => q.2.elim (fun z => absurd z.1 (by assumption)) fun z => z.2.1 (by simpa using hb))
  | skip
end
def f6 : Ct := At (lc GU.ag (lc BJ (lc Av (lc BJ l0)))) (fun p => IH p.1 ∧ 0 ≤ p.2.1 ∧ p.2.1 < p.1.spool.items.length) (fun p => S5 (N9 p.1.conf (p.1.spool.items.getD p.2.1.toNat default) p.2.2.1 p.2.2.2.1))
section
attribute [local go_sem] UQ Ac Ab lm List.length_append List.length_cons List.length_nil List.map_nil Nat.zero_add List.nil_append AS.opn AS.cls AS.nilb AS.renb AS.up Bool.not_false Bool.not_true List.set_set List.set_cons_zero List.set_cons_succ List.set_nil List.mem_singleton forall_eq
set_option maxHeartbeats 1600000 in
theorem mf {G : Gt} (hG : Aj G) (hh : G.e 208 = AA 0 UQ) : Gd G 203 (AA 0 f6) := by
 refine OW (dp := fun n => !(Nat.beq n 100003 || Nat.beq n 100005)) (fn := Tryz.f203) (n := 4) rfl hG ?_ (hs := fun _ p => J5 _)
 rintro ⟨h, n, to, w, ⟨⟩⟩ hpre
 simp -implicitDefEqProofs only [Tryz.f203, go_sem, hh, seval] at hpre ⊢
 obtain ⟨⟨_, ⟨_, hsz⟩, _⟩, hn0, hn1⟩ := hpre
 try dsimp only at hn0 hn1
 obtain ⟨ni, rfl⟩ := Int.eq_ofNat_of_zero_le hn0
 have hx := hsz _ (AC (xs := h.spool.items) (j := ni) (by omega))
 obtain ⟨_, ⟨hl1, _⟩, ⟨hl2, _⟩⟩ := hx
 simp only [tn] at *
 with_reducible repeat' (first | apply ai | intro _ | ((first | apply s1 | apply s2 | apply s3 | apply s4) <;> intro hb <;> simp -implicitDefEqProofs only [hb, go_sem, hh, seval] <;> try simp only [qz] at hb))
 all_goals (try simp only [maxLen] at *)
 all_goals first | rfl | omega | assumption | decide | skip
 all_goals
  refine Ai (Le.nilb 1010 2 1901 true 2 rfl rfl rfl) (Ae ?_)
  simp -implicitDefEqProofs only [go_sem, hh, seval]
  refine AE [] (ι := {p : Nat × List Ad // p.1 ≤ (h.spool.items.getD ni default).to.length ∧ p.2.length ≤ p.1 ∧ A4 h.conf to w (h.spool.items.getD ni default).to = p.2 ++ A4 h.conf to w ((h.spool.items.getD ni default).to.drop p.1)}) (fun p => ⟨[(2, .t (.v (.string to))), (3, .t (.v (.int .i64 w))), (4, .pb 1004 0), (8, .pb 1008 0), (9, .pb 1009 0), (10, .pb 1010 0), (11, .t (.v (.int .i64 p.1.1)))], [(1008, some (.box [.t (.v (.string ⟨#[]⟩)), .t (.v (.string ⟨#[]⟩)), .nil, .nil])), (1004, some (.box ((Ah h).map .t))), (1009, some (.box ((Ay (h.spool.items.getD ni default)).map .t))), (1010, some (.box [.t (.v (.string (h.spool.items.getD ni default).frm.user)), .t (.v (.string (h.spool.items.getD ni default).frm.domain)), .h 1901, .h 1023])), (1023, some (.arr true 1 ((h.spool.items.getD ni default).body.map AH))), (1901, some (.arr true 2 (p.1.2.map Aw)))]⟩) (fun p => (h.spool.items.getD ni default).to.length - p.1.1) ⟨(0, []), by simp, by simp, rfl⟩ rfl ?_ ?_
  ·simp -implicitDefEqProofs only [go_sem, hh, seval]
   try simp
  ·rintro ⟨⟨i, L⟩, hi, hL, hq⟩
   dsimp only at hi hL hq ⊢
   by_cases hlt : (i : Int) < (h.spool.items.getD ni default).to.length
   ·simp -implicitDefEqProofs only [hlt, decide_true, tn, go_sem, hh, seval]
    with_reducible repeat' (first | apply ai | intro _ | ((first | apply s1 | apply s2 | apply s3 | apply s4) <;> intro hb <;> simp -implicitDefEqProofs only [hb, go_sem, hh, seval] <;> try simp only [qz] at hb))
    all_goals (try simp only [maxLen, tn] at *)
    all_goals first | rfl | omega | assumption | decide | skip
    ·refine Ai (Le.renb 1010 2 1047 1901 rfl rfl rfl rfl) (Ae ?_)
     simp -implicitDefEqProofs only [go_sem, hh, seval]
     with_reducible repeat' (first | apply ai | intro _ | ((first | apply s1 | apply s2 | apply s3 | apply s4) <;> intro hb <;> simp -implicitDefEqProofs only [hb, go_sem, hh, seval] <;> try simp only [qz] at hb))
     all_goals first | rfl | omega | decide | skip
     refine ⟨⟨(i + 1, L ++ [((h.spool.items.getD ni default).to.getD i default).addr]), by dsimp only; omega, by simp; omega, by dsimp only; rw [hq, P4 (by omega) (by assumption)]; simp⟩, by dsimp only; omega, ?_⟩
     simp -implicitDefEqProofs only [go_sem, hh, seval]
     simp only [QH]
     with_reducible repeat' (first | apply ai | intro _ | ((first | apply s1 | apply s2 | apply s3 | apply s4) <;> intro hb <;> simp -implicitDefEqProofs only [hb, go_sem, hh, seval] <;> try simp only [qz] at hb))
     all_goals first | rfl | (simp; done) | skip
    ·refine Ae ?_
     simp -implicitDefEqProofs only [go_sem, hh, seval]
     with_reducible repeat' (first | apply ai | intro _ | ((first | apply s1 | apply s2 | apply s3 | apply s4) <;> intro hb <;> simp -implicitDefEqProofs only [hb, go_sem, hh, seval] <;> try simp only [qz] at hb))
     all_goals first | rfl | omega | decide | skip
     refine ⟨⟨(i + 1, L), by dsimp only; omega, by dsimp only; omega, by dsimp only; rw [hq, P3 (by omega) (by assumption)]⟩, by dsimp only; omega, ?_⟩
     simp -implicitDefEqProofs only [go_sem, hh, seval]
     try simp
   ·have hend : A4 h.conf to w (h.spool.items.getD ni default).to = L := by rw [hq, J6 (by omega), List.append_nil]
    simp -implicitDefEqProofs only [hlt, decide_false, N9, hend, go_sem, hh, seval]
    with_reducible repeat' (first | apply ai | intro _ | ((first | apply s1 | apply s2 | apply s3 | apply s4) <;> intro hb <;> simp -implicitDefEqProofs only [hb, go_sem, hh, seval] <;> try simp only [qz] at hb))
    all_goals first | rfl | omega | decide | skip
end
def I8 (c : Cf) (a : Ad) : Prop := a.domain ∈ c.own ∨ ¬ OR c a.domain = ⟨#[]⟩
def gp : Ct := At (lc I0.ag (lc Dd.ag l0)) (fun p => True) (fun p => .t (.v (.bool (BT (I8 p.1 p.2.1)))))
section
attribute [local go_sem] Ln PA Ac Ab
theorem nV {G : Gt} (hG : Aj G) (hh : G.e 139 = AA 0 Ln ∧ G.e 207 = AA 0 PA) : Gd G 245 (AA 0 gp) := by
 refine gr (fn := Tryz.f245) (n := 2) rfl hG ?_
 rintro ⟨c, a, ⟨⟩⟩ hpre
 simp -implicitDefEqProofs only [Tryz.f245, go_sem, hh, seval] at hpre ⊢
 with_reducible repeat' (first | apply ai | intro _ | ((first | apply s1 | apply s2 | apply s3 | apply s4) <;> intro hb <;> simp -implicitDefEqProofs only [hb, go_sem, hh, seval] <;> try simp only [qz] at hb))
 all_goals first | rfl | omega | skip
 all_goals (try simp only [Ac, Ab] at *)
 all_goals first
  | exact uT (.inl (by assumption))
  | exact uB (by simp only [qc, qb]; exact ⟨fun z => .inr z, fun q => q.elim (fun z => absurd z (by assumption)) id⟩)
  | skip
end
def JK (w : Int) (a : Ad) : Rc := ⟨a, 0, w⟩
def Ts (s : Sp) (m : Ml) (w : Int) : Im := ⟨s.last + 1, m.frm, m.to.map (JK w), m.body⟩
def Kg (s : Sp) (m : Ml) (w : Int) : Sp := ⟨s.last + 1, s.items ++ [Ts s m w]⟩
def B4 (s : Sp) : Prop := (s.items.length : Int) < 10 ∧ s.last < 999
theorem bb {xs : List Ad} {w : Int} {i : Nat} (h : i < xs.length) : ((xs.map (JK w)).take (i + 1)).map BI = ((xs.map (JK w)).take i).map BI ++ [[.v (.string (xs.getD i default).user), .v (.string (xs.getD i default).domain), .v (.int .i64 0), .v (.int .i64 w)]] := by
 have e : (xs.map (JK w)).getD i default = JK w (xs.getD i default) := by
  simp only [List.getD_eq_getElem?_getD, List.getElem?_map, List.getElem?_eq_getElem h, Option.map_some, Option.getD_some]
 rw [BV BI (by rw [lm]; exact h), e]
 rfl
def JS : Ct := At (lc TM.ag l0) (fun p => True) (fun p => .t (.v (.bool (BT (B4 p.1)))))
section
attribute [local go_sem] lm
theorem lO {G : Gt} (hG : Aj G) : Gd G 110 (AA 0 JS) := by
 refine gr (fn := Tryz.f110) (n := 1) rfl hG ?_
 rintro ⟨s, ⟨⟩⟩ hpre
 simp -implicitDefEqProofs only [Tryz.f110, go_sem, seval] at hpre ⊢
 with_reducible repeat' (first | apply ai | intro _ | ((first | apply s1 | apply s2 | apply s3 | apply s4) <;> intro hb <;> simp -implicitDefEqProofs only [hb, go_sem, seval] <;> try simp only [qz] at hb))
 all_goals first
  | rfl
  | omega
  | (rw [← BZ, AT]; exact ⟨fun h => ⟨by assumption, h⟩, fun h => h.2⟩)
  | (rw [AQ]; rintro ⟨h1, h2⟩; contradiction)
  | (rw [Aq]; exact ⟨by assumption, by assumption⟩)
  | skip
end
def O6 : Ct := At (lc TM.ag (lc X3.ag (lc BJ l0))) (fun p => F7 p.1 ∧ Kc p.2.1 ∧ Bl p.1) (fun p => .agg ((EH (Kg p.1 p.2.1 p.2.2.1)).map .t))
section
attribute [local go_sem] KR Jb List.take_length List.drop_zero List.length_take List.length_drop lm List.length_append List.length_cons List.length_nil List.map_append List.map_nil List.map_cons List.nil_append Nat.zero_add List.mem_singleton forall_eq Bool.not_true Bool.not_false AS.opn AS.cls AS.nilb AS.renb List.set_set List.set_cons_zero List.set_cons_succ List.set_nil
set_option maxHeartbeats 1600000 in
theorem lP {G : Gt} (hG : Aj G) : Gd G 111 (AA 1 O6) := by
 refine OW (dp := fun n => Nat.ble 100000 n && !(Nat.beq n 100002 || Nat.beq n 100004 || Nat.beq n 100007)) (fn := Tryz.f111) (n := 3) rfl hG ?_
 rintro ⟨s, m, w, ⟨⟩⟩ hpre
 simp -implicitDefEqProofs only [Tryz.f111, go_sem, seval] at hpre ⊢
 obtain ⟨hok, hml, hsp⟩ := hpre
 have hok' : GW F6 s.items := hok
 obtain ⟨_, ⟨hl1, _⟩, ⟨hl2, _⟩⟩ := hml
 obtain ⟨_, _, ⟨hs0, hs1⟩, hs2⟩ := hsp
 with_reducible repeat' (first | apply ai | intro _ | ((first | apply s1 | apply s2 | apply s3 | apply s4) <;> intro hb <;> simp -implicitDefEqProofs only [hb, go_sem, seval] <;> try simp only [qz] at hb))
 all_goals (try simp only [maxLen] at *)
 all_goals first | rfl | omega | assumption | decide | skip
 all_goals
  refine Ai (Le.nilb 1007 3 1901 true 4 rfl rfl rfl) (Ae ?_)
  simp -implicitDefEqProofs only [go_sem, seval]
  refine AE [] (ι := {i : Nat // i ≤ m.to.length}) (fun p => ⟨[(2, .t (.v (.int .i64 w))), (3, .pb 1003 0), (4, .pb 1004 0), (6, .pb 1006 0), (7, .pb 1007 0), (8, .t (.v (.int .i64 p.1)))], [(1003, some (.box [.t (.v (.int .i64 s.last)), .t (.sl 5 (s.items.map Ay))])), (1004, some (.box ((Cy m).map .t))), (1006, some (.box [.t (.v (.int .i64 0)), .nil])), (1007, some (.box [.t (.v (.int .i64 (s.last + 1))), .t (.v (.string m.frm.user)), .t (.v (.string m.frm.domain)), .h 1901, .h 1017])), (1017, some (.arr true 1 (m.body.map AH))), (1901, some (.arr true 4 (((m.to.map (JK w)).take p.1).map BI)))]⟩) (fun p => m.to.length - p.1) ⟨0, by simp⟩ rfl ?_ ?_
  ·simp -implicitDefEqProofs only [go_sem, seval]
   try simp
  ·rintro ⟨i, hi⟩
   have hlen : ((m.to.map (JK w)).take i).length = i := by simp; omega
   by_cases hlt : (i : Int) < m.to.length
   ·simp -implicitDefEqProofs only [hlt, decide_true, tn, go_sem, seval]
    with_reducible repeat' (first | apply ai | intro _ | ((first | apply s1 | apply s2 | apply s3 | apply s4) <;> intro hb <;> simp -implicitDefEqProofs only [hb, go_sem, seval] <;> try simp only [qz] at hb))
    all_goals (try simp only [maxLen] at *)
    all_goals first | rfl | omega | assumption | decide | skip
    refine Ai (Le.renb 1007 3 1036 1901 rfl rfl rfl rfl) (Ae ?_)
    simp -implicitDefEqProofs only [go_sem, seval]
    with_reducible repeat' (first | apply ai | intro _ | ((first | apply s1 | apply s2 | apply s3 | apply s4) <;> intro hb <;> simp -implicitDefEqProofs only [hb, go_sem, seval] <;> try simp only [qz] at hb))
    all_goals first | rfl | omega | decide | skip
    refine ⟨⟨i + 1, by omega⟩, by dsimp only; omega, ?_⟩
    simp -implicitDefEqProofs only [go_sem, seval]
    simp only [bb (show i < m.to.length by omega)]
    with_reducible repeat' (first | apply ai | intro _ | ((first | apply s1 | apply s2 | apply s3 | apply s4) <;> intro hb <;> simp -implicitDefEqProofs only [hb, go_sem, seval] <;> try simp only [qz] at hb))
    all_goals first | rfl | (simp; done) | skip
   ·simp -implicitDefEqProofs only [hlt, decide_false, go_sem, seval]
    with_reducible repeat' (first | apply ai | intro _ | ((first | apply s1 | apply s2 | apply s3 | apply s4) <;> intro hb <;> simp -implicitDefEqProofs only [hb, go_sem, seval] <;> try simp only [qz] at hb))
    all_goals first | rfl | omega | skip
    rw [List.take_of_length_le (by rw [lm]; omega)]
    refine Ai (Le.frzL [1901, 1017]) (Ae ?_)
    simp -implicitDefEqProofs only [go_sem, seval]
    with_reducible repeat' (first | apply ai | intro _ | ((first | apply s1 | apply s2 | apply s3 | apply s4) <;> intro hb <;> simp -implicitDefEqProofs only [hb, go_sem, seval] <;> try simp only [qz] at hb))
    all_goals (try simp only [maxLen, List.take_length, List.drop_zero] at *)
    all_goals first | rfl | omega | assumption | decide | skip
    all_goals
     refine congrArg (T.sl 5) ?_
     simp only [Kg, Ts, List.map_append, List.map_cons, List.map_nil]
     rfl
end
theorem G8 {c x : UInt8} : ∀ {l : List UInt8}, x ∈ l → x = c ∨ ∃ w ∈ FG c l, x ∈ w
 | y :: r, h => by
   rw [FG]
   by_cases e : y = c
   ·rw [if_pos e]
    rcases List.mem_cons.1 h with h | h
    ·exact .inl (h.trans e)
    ·rcases G8 h with q | ⟨w, hw, q⟩
     ·exact .inl q
     ·exact .inr ⟨w, by simp [hw], q⟩
   ·rw [if_neg e]
    cases hs : FG c r with
    | nil => have := Ff c r; rw [hs] at this; simp at this
    | cons a t =>
      rcases List.mem_cons.1 h with h | h
      ·exact .inr ⟨y :: a, by simp, by simp [h]⟩
      ·rcases G8 h with q | ⟨w, hw, q⟩
       ·exact .inl q
       ·rw [hs] at hw
        rcases List.mem_cons.1 hw with e2 | hw
        ·exact .inr ⟨y :: a, by simp, by rw [e2] at q; simp [q]⟩
        ·exact .inr ⟨w, by simp [hw], q⟩
theorem OK {c : UInt8} {B : Nat} : ∀ {l : List UInt8}, (∀ w ∈ FG c l, w.length ≤ B) → l.length + 1 ≤ (B + 1) * (FG c l).length
 | [], _ => by simp [FG]
 | y :: r, h => by
   rw [FG] at h ⊢
   by_cases e : y = c
   ·rw [if_pos e] at h ⊢
    have := OK (c := c) (l := r) fun w hw => h w (by simp [hw])
    rw [List.length_cons, List.length_cons, Nat.mul_succ]
    omega
   ·rw [if_neg e] at h ⊢
    cases hs : FG c r with
    | nil => have := Ff c r; rw [hs] at this; simp at this
    | cons a t =>
      rw [hs] at h
      have h1 := h (y :: a) (by simp)
      have h3 : (∀ w ∈ FG c r, w.length ≤ B) ∨ True := .inr trivial
      have key : ∀ (l : List UInt8), l.length + 1 = ((FG c l).map fun w => w.length + 1).sum := fun l => by
       induction l with
       | nil => rfl
       | cons z q ih =>
         rw [FG]
         by_cases ez : z = c
         ·rw [if_pos ez, List.map_cons, List.sum_cons, ← ih, List.length_cons, List.length_nil]; omega
         ·rw [if_neg ez]
          cases hq : FG c q with
          | nil => have := Ff c q; rw [hq] at this; simp at this
          | cons a' t' => rw [hq] at ih; simp only [List.map_cons, List.sum_cons, List.length_cons] at ih ⊢; omega
      have h2 := key r
      rw [hs] at h2
      have h4 : ∀ t : List (List UInt8), (∀ w ∈ t, w.length ≤ B) → (t.map fun w => w.length + 1).sum ≤ (B + 1) * t.length := fun t => by
       induction t with
       | nil => intro _; simp
       | cons w t ih =>
         intro hw
         have q1 := ih fun x hx => hw x (by simp [hx])
         have q2 := hw w (by simp)
         rw [List.map_cons, List.sum_cons, List.length_cons, Nat.mul_succ]; omega
      have h5 := h4 t fun w hw => h w (by simp [hw])
      simp only [List.map_cons, List.sum_cons, List.length_cons] at h1 h2 ⊢
      rw [Nat.mul_succ]
      omega
def Mw (l : List UInt8) : Prop := ∀ b ∈ l, 32 ≤ (b.toNat : Int) ∧ (b.toNat : Int) ≤ 126
instance (l : List UInt8) : Decidable (Mw l) := by unfold Mw; infer_instance
theorem Gj {s : ByteArray} {b : UInt8} (h : b ∈ bl s) : ∃ j, j < s.size ∧ AB s j = b.toNat := by
 obtain ⟨j, hj, e⟩ := List.getElem_of_mem h
 exact ⟨j, hj, by rw [B5]; simp [hj, e]⟩
theorem Nn {s : ByteArray} {j : Nat} (h : j < s.size) : ∃ b ∈ bl s, AB s j = b.toNat := by
 have h' : j < (bl s).length := h
 exact ⟨(bl s)[j], List.getElem_mem h', by rw [B5]; simp [h']⟩
theorem GV (s : ByteArray) : HI s ↔ Mw (bl s) ∧ s.size ≤ 40 :=
 ⟨fun h => ⟨fun b hb => by
   obtain ⟨j, hj, e⟩ := Gj hb
   rw [← e]; exact h.1 j hj, h.2⟩, fun h => ⟨fun j hj => by
   obtain ⟨b, hb, e⟩ := Nn hj
   rw [e]; exact h.1 b hb, h.2⟩⟩
theorem Mx {a b : List UInt8} : Mw (a ++ b) ↔ Mw a ∧ Mw b :=
 ⟨fun h => ⟨fun x hx => h x (by simp [hx]), fun x hx => h x (by simp [hx])⟩, fun h x hx => (List.mem_append.1 hx).elim (h.1 x) (h.2 x)⟩
theorem Ia {s : ByteArray} (h : QQ s) : Mw (bl s) ∧ s.size ≤ 8 := ⟨fun b hb => by
 obtain ⟨j, hj, e⟩ := Gj hb
 have := h.1 j hj
 rw [← e]; unfold Jm at this; omega, h.2.2⟩
theorem Co {s : ByteArray} (h : Di s) : Mw (bl s) ∧ s.size ≤ 26 := by
 obtain ⟨h1, h2⟩ := (IY s).1 h
 have h3 : ∀ w ∈ FG 46 (bl s), QQ (mB w) := fun w hw => h1 _ (List.mem_map_of_mem hw)
 refine ⟨fun b hb => ?_, ?_⟩
 ·rcases G8 (c := 46) hb with e | ⟨w, hw, q⟩
  ·rw [e]; decide
  ·exact (Ia (h3 w hw)).1 b q
 ·have h4 := OK (c := 46) (B := 8) (l := bl s) fun w hw => (h3 w hw).2.2
  have h5 : (FG 46 (bl s)).length ≤ 3 := by
   have : (Hp s 46).length = (FG 46 (bl s)).length := lm ..
   omega
  have h6 : (bl s).length = s.size := rfl
  have h7 : 9 * (FG 46 (bl s)).length ≤ 9 * 3 := Nat.mul_le_mul_left 9 h5
  omega
def tr : ByteArray := ⟨#[72, 111, 112, 58, 32]⟩
def Cb (n : ByteArray) : ByteArray := tr ++ n
theorem Zz {n : ByteArray} (h : Di n) : HI (Cb n) := by
 obtain ⟨h1, h2⟩ := Co h
 rw [GV]
 have e : bl (Cb n) = [72, 111, 112, 58, 32] ++ bl n := O2 _ _
 refine ⟨?_, ?_⟩
 ·rw [e, Mx]
  exact ⟨by decide, h1⟩
 ·have : (Cb n).size = 5 + n.size := by rw [← CB, e, List.length_append, CB]; rfl
  omega
noncomputable def Ce (a : Ad) : ByteArray := bif BT (AU a) then ⟨#[60, 62]⟩ else ⟨#[60]⟩ ++ a.user ++ ⟨#[64]⟩ ++ a.domain ++ ⟨#[62]⟩
theorem Ho {a : Ad} (h : AU a) : Ce a = ⟨#[60, 62]⟩ := by unfold Ce; rw [Aq h]; rfl
theorem P8 {a : Ad} (h : ¬ AU a) : Ce a = ⟨#[60]⟩ ++ a.user ++ ⟨#[64]⟩ ++ a.domain ++ ⟨#[62]⟩ := by unfold Ce; rw [AQ h]; rfl
theorem MY {a : Ad} (h : ¬ AU a) : bl (Ce a) = [60] ++ bl a.user ++ [64] ++ bl a.domain ++ [62] := by
 rw [P8 h]
 simp only [O2]
 rfl
theorem Xh {a : Ad} (h : BK a) : ¬ AU a := fun q => by
 have := h.1.2.1
 rw [q.1] at this
 exact absurd this (by decide)
theorem OD {a : Ad} (h : BK a ∨ AU a) : HI (Ce a) := by
 by_cases hn : AU a
 ·rw [Ho hn, GV]
  exact ⟨by decide, by decide⟩
 ·have ha := h.resolve_right hn
  obtain ⟨u1, u2⟩ := Ia ha.1
  obtain ⟨d1, d2⟩ := Co ha.2
  rw [GV, MY hn]
  refine ⟨by simp only [Mx]; exact ⟨⟨⟨⟨by decide, u1⟩, by decide⟩, d1⟩, by decide⟩, ?_⟩
  have : (Ce a).size = 3 + a.user.size + a.domain.size := by
   rw [← CB, MY hn]
   simp only [List.length_append, List.length_cons, List.length_nil, CB]; omega
  omega
def c8 (n : ByteArray) (m : Ml) : Ml := ⟨m.frm, m.to, Cb n :: m.body⟩
def OQ (h : Hs) (m : Ml) (w : Int) : Hs := ⟨h.conf, Kg h.spool (c8 h.conf.name m) w, h.boxes, h.lost⟩
section
variable {h : Hs} {m : Ml} {w : Int}
theorem jU (q : Di h.conf.name) (hm : Cr m) (hl : m.body.length < 12) : Cr (c8 h.conf.name m) :=
 ⟨hm.1, hm.2.1, hm.2.2.1, hm.2.2.2.1, ⟨fun s hs => (List.mem_cons.1 hs).elim (fun e => by rw [e]; exact Zz q) (hm.2.2.2.2.1 s), by show (Cb h.conf.name :: m.body).length ≤ 12; simp; omega⟩⟩
end
def aq (p : Hs × Bool) : AV := .tup [.agg ((Ah p.1).map .t), .t (.v (.bool p.2))]
theorem L9 {α : Type} [Inhabited α] {p : α → Prop} : ∀ (xs : List α) (k : Nat), 0 ≤ BF p k xs → p (xs.getD ((BF p k xs).toNat - k) default)
 | [], k, h => absurd h (by rw [BF]; omega)
 | x :: t, k, h => by
   rw [BF] at h ⊢
   by_cases hx : p x
   ·rw [Aq hx, cond_true, tn, Nat.sub_self]
    exact hx
   ·rw [AQ hx, cond_false] at h ⊢
    have h1 := L9 t (k + 1) h
    have h2 : (BF p (k + 1) t).toNat - k = ((BF p (k + 1) t).toNat - (k + 1)) + 1 := by
     rcases Fd p t (k + 1) with q | q <;> omega
    rw [h2]
    exact h1
section
variable {h : Hs} {m : Ml} {w : Int}
end
theorem CX {xs : List Im} : sj xs ↔ (xs.map Im.id).Pairwise (· < ·) := by
 rw [List.pairwise_iff_getElem]
 constructor
 ·intro h i j hi hj hij
  rw [lm] at hi hj
  simp only [List.getElem_map]
  induction j with
  | zero => omega
  | succ j ih =>
    have h1 := h (j + 1) (by omega) hj
    simp only [Nat.add_sub_cancel, List.getD_eq_getElem?_getD, List.getElem?_eq_getElem hj, List.getElem?_eq_getElem (show j < xs.length by omega), Option.getD_some] at h1
    by_cases e : i = j
    ·subst e; exact h1
    ·have := ih (by omega) (by omega)
     omega
 ·intro h j h0 hj
  have := h (j - 1) j (by rw [lm]; omega) (by rw [lm]; exact hj) (by omega)
  simp only [List.getElem_map] at this
  simp only [List.getD_eq_getElem?_getD, List.getElem?_eq_getElem hj, List.getElem?_eq_getElem (show j - 1 < xs.length by omega), Option.getD_some]
  exact this
theorem Qt {α : Type} (xs : List α) (i : Nat) : List.Sublist (xs.take i ++ xs.drop (i + 1)) xs := by
 have h : List.Sublist (xs.take i ++ xs.drop (i + 1)) (xs.take i ++ xs.drop i) := List.Sublist.append (List.Sublist.refl _) (by
  rw [← List.drop_drop]; exact List.drop_sublist 1 _)
 rwa [List.take_append_drop] at h
theorem PE {α : Type} [Inhabited α] {xs : List α} {i : Nat} (h : i < xs.length) : xs = xs.take i ++ xs.getD i default :: xs.drop (i + 1) := by
 rw [← AW h, List.take_append_drop]
theorem Zg {x : Im} {k : Nat} (h : DM x) (hk : k < x.to.length) (h2 : ¬ (Hc x k).to = []) : DM (Hc x k) := by
 have hs := Qt x.to k
 refine ⟨fun r hr => h.1 r (hs.subset hr), (hs.map Rc.addr).nodup h.2.1, h.2.2.1, h.2.2.2.1, ⟨?_, Nat.le_trans hs.length_le h.2.2.2.2.1.2⟩, h.2.2.2.2.2⟩
 exact Nat.pos_of_ne_zero fun e => h2 (List.eq_nil_of_length_eq_zero e)
theorem EE {s : Sp} {i k : Nat} (h : Bl s) (hi : i < s.items.length) (hk : k < (s.items.getD i default).to.length) : Bl (Cw s i k) := by
 have hx := h.1 _ (AC hi)
 have hs := Qt s.items i
 have ha := CX.1 h.2.1
 have hq := PE hi
 show (∀ x ∈ TR s.items i k, DM x ∧ x.id ≤ s.last) ∧ sj (TR s.items i k) ∧ (0 ≤ s.last ∧ s.last ≤ 999) ∧ (TR s.items i k).length ≤ 10
 unfold TR
 split
 ·exact ⟨fun x hx => h.1 x (hs.subset hx), CX.2 (ha.sublist (hs.map Im.id)), h.2.2.1, Nat.le_trans hs.length_le h.2.2.2⟩
 ·rename_i hne
  refine ⟨fun x hm => ?_, CX.2 ?_, h.2.2.1, ?_⟩
  ·rcases List.mem_append.1 hm with hm | hm
   ·exact h.1 x (List.mem_of_mem_take hm)
   ·rcases List.mem_cons.1 hm with e | hm
    ·rw [e]; exact ⟨Zg hx.1 hk hne, hx.2⟩
    ·exact h.1 x (List.mem_of_mem_drop hm)
  ·have e : (s.items.take i ++ Hc (s.items.getD i default) k :: s.items.drop (i + 1)).map Im.id = s.items.map Im.id := by
     conv => rhs; rw [hq]
     simp only [List.map_append, List.map_cons]
     rfl
   rw [e]; exact ha
  ·have e : (s.items.take i ++ Hc (s.items.getD i default) k :: s.items.drop (i + 1)).length = s.items.length := by
     conv => rhs; rw [hq]
     simp only [List.length_append, List.length_cons]
   rw [e]; exact h.2.2.2
theorem pn (l : List Rc) (k : Nat) (h : k < l.length) : l.getD k default = l[k] := by simp [h]
theorem LK {s : Sp} {i k : Nat} {w : Int} (h : Bl s) (hi : i < s.items.length) (hk : k < (s.items.getD i default).to.length) (hn : ¬ ME ((s.items.getD i default).to.getD k default) w) (hw : 0 ≤ w) : Bl (Nm s i k w) := by
 have hx := h.1 _ (AC hi)
 have hr := hx.1.1 _ (AC hk)
 have hn1 : ((s.items.getD i default).to.getD k default).tries + 1 < 4 := by unfold ME at hn; omega
 have hn2 : w + XZ (((s.items.getD i default).to.getD k default).tries + 1) ≤ 9999 := by unfold ME at hn; omega
 have hp := (Ws (t := ((s.items.getD i default).to.getD k default).tries + 1) (m := 3) (by omega)).1
 have hrc : M2 (Sj ((s.items.getD i default).to.getD k default) w) := ⟨hr.1, ⟨by have := hr.2.1.1; show 0 ≤ _ + 1; omega, by show _ + 1 ≤ 3; omega⟩, ⟨by show 0 ≤ w + _; omega, hn2⟩⟩
 have hadr : ((s.items.getD i default).to.set k (Sj ((s.items.getD i default).to.getD k default) w)).map Rc.addr = (s.items.getD i default).to.map Rc.addr := by
  rw [List.map_set]
  have : (Sj ((s.items.getD i default).to.getD k default) w).addr = ((s.items.getD i default).to.map Rc.addr)[k]'(by rw [lm]; exact hk) := by
   rw [List.getElem_map]
   show ((s.items.getD i default).to.getD k default).addr = _
   rw [pn _ _ hk]
  rw [this, List.set_getElem_self]
 have hx2 : DM (Pl (s.items.getD i default) k w) := by
  refine ⟨fun r hm => ?_, ?_, hx.1.2.2.1, hx.1.2.2.2.1, ?_, hx.1.2.2.2.2.2⟩
  ·rcases List.mem_or_eq_of_mem_set hm with hm | rfl
   ·exact hx.1.1 r hm
   ·exact hrc
  ·show (((s.items.getD i default).to.set k _).map Rc.addr).Nodup
   rw [hadr]; exact hx.1.2.1
  ·show 1 ≤ ((s.items.getD i default).to.set k _).length ∧ ((s.items.getD i default).to.set k _).length ≤ 4
   rw [List.length_set]; exact hx.1.2.2.2.2.1
 refine ⟨fun x hm => ?_, CX.2 ?_, h.2.2.1, by show (s.items.set i _).length ≤ 10; rw [List.length_set]; exact h.2.2.2⟩
 ·rcases List.mem_or_eq_of_mem_set hm with hm | rfl
  ·exact h.1 x hm
  ·exact ⟨hx2, hx.2⟩
 ·have e : (s.items.set i (Pl (s.items.getD i default) k w)).map Im.id = s.items.map Im.id := by
    rw [List.map_set]
    have : (Pl (s.items.getD i default) k w).id = (s.items.map Im.id)[i]'(by rw [lm]; exact hi) := by
     simp [Pl, hi]
    rw [this, List.set_getElem_self]
  show ((s.items.set i _).map Im.id).Pairwise (· < ·)
  rw [e]; exact CX.1 h.2.1
theorem HQ {s : Sp} {m : Ml} {w : Int} (h : Bl s) (hm : Cr m) (hw : 0 ≤ w ∧ w ≤ 9999) (hr : B4 s) : Bl (Kg s m w) := by
 have hx : DM (Ts s m w) := by
  refine ⟨fun r hr => ?_, ?_, ?_, hm.2.2.1, ?_, hm.2.2.2.2⟩
  ·obtain ⟨a, ha, rfl⟩ := List.mem_map.1 hr
   exact ⟨hm.1 a ha, by show 0 ≤ (0 : Int) ∧ (0 : Int) ≤ 3; decide, hw⟩
  ·show ((m.to.map (JK w)).map Rc.addr).Nodup
   have e : (m.to.map (JK w)).map Rc.addr = m.to := by
    rw [List.map_map]; exact List.map_id'' (fun _ => rfl) _
   rw [e]; exact hm.2.1
  ·have := h.2.2.1.1
   show 0 < s.last + 1; omega
  ·show 1 ≤ (m.to.map (JK w)).length ∧ (m.to.map (JK w)).length ≤ 4
   rw [lm]; exact hm.2.2.2.1
 have h1 := hr.1; have h2 := hr.2
 refine ⟨fun x hm => ?_, CX.2 ?_, ?_, ?_⟩
 ·rcases List.mem_append.1 hm with hm | hm
  ·have := h.1 x hm
   exact ⟨this.1, by have := this.2; show x.id ≤ s.last + 1; omega⟩
  ·rw [List.mem_singleton.1 hm]
   exact ⟨hx, Int.le_refl _⟩
 ·show ((s.items ++ [Ts s m w]).map Im.id).Pairwise (· < ·)
  rw [List.map_append, List.pairwise_append]
  refine ⟨CX.1 h.2.1, by simp, fun a ha b hb => ?_⟩
  obtain ⟨x, hx, rfl⟩ := List.mem_map.1 ha
  rw [List.map_cons, List.map_nil, List.mem_singleton] at hb
  rw [hb]
  have := (h.1 x hx).2
  show x.id < s.last + 1; omega
 ·have := h.2.2.1.1
  show 0 ≤ s.last + 1 ∧ s.last + 1 ≤ 999; omega
 ·show (s.items ++ [Ts s m w]).length ≤ 10
  rw [List.length_append]; simp; omega
theorem FD : ∀ xs : List ByteArray, Bb xs = ⟨#[]⟩ ∨ Bb xs ∈ xs
 | [] => .inl rfl
 | x :: r => by
   rw [Bb]
   cases BT (HM x)
   ·rw [cond_false]
    rcases FD r with h | h
    ·exact .inl h
    ·exact .inr (by simp [h])
   ·exact .inr (by simp)
def se : ByteArray := ⟨#[110, 111, 116, 32, 100, 101, 108, 105, 118, 101, 114, 101, 100, 58]⟩
noncomputable def Ba (x : Im) (a : Ad) : Ml := ⟨⟨⟨#[]⟩, ⟨#[]⟩⟩, [x.frm], se :: Ce a :: (if Bb x.body = ⟨#[]⟩ then [] else [Bb x.body])⟩
theorem R6 {x : Im} {a : Ad} (h : DM x) (ha : BK a) (hn : ¬ AU x.frm) : Cr (Ba x a) := by
 refine ⟨fun b hb => ?_, by show [x.frm].Nodup; simp, .inr ⟨rfl, rfl⟩, by show 1 ≤ 1 ∧ 1 ≤ 4; decide, fun s hs => ?_, ?_⟩
 ·rw [List.mem_singleton.1 hb]; exact h.2.2.2.1.resolve_right hn
 ·rcases List.mem_cons.1 hs with e | hs
  ·rw [e, GV]; exact ⟨by decide, by decide⟩
  ·rcases List.mem_cons.1 hs with e | hs
   ·rw [e]; exact OD (.inl ha)
   ·split at hs
    ·cases hs
    ·rename_i q
     rw [List.mem_singleton.1 hs]
     exact h.2.2.2.2.2.1 _ ((FD x.body).resolve_left q)
 ·show (se :: Ce a :: _).length ≤ 12
  split <;> simp
open Classical in
noncomputable def GL (h : Hs) (x : Im) (a : Ad) (i k : Nat) (w : Int) : Hs :=
 if AU x.frm ∨ ¬ B4 (Cw h.spool i k) then ⟨h.conf, Cw h.spool i k, h.boxes, h.lost ++ [⟨Bb x.body, a⟩]⟩ else ⟨h.conf, Kg (Cw h.spool i k) (Ba x a) w, h.boxes, h.lost⟩
noncomputable def CR (h : Hs) (i k : Nat) (a : Ad) (out w : Int) : Hs :=
 if out = 2 then ⟨h.conf, Cw h.spool i k, h.boxes, h.lost⟩
 else if out = 3 ∧ ¬ ME ((h.spool.items.getD i default).to.getD k default) w then ⟨h.conf, Nm h.spool i k w, h.boxes, h.lost⟩
 else GL h (h.spool.items.getD i default) a i k w
section
variable {h : Hs} {x : Im} {n : Int} {a : Ad} {out w : Int} {i k : Nat}
theorem Vm (q : AU x.frm ∨ ¬ B4 (Cw h.spool i k)) : GL h x a i k w = ⟨h.conf, Cw h.spool i k, h.boxes, h.lost ++ [⟨Bb x.body, a⟩]⟩ := if_pos q
theorem Vl (q : ¬ (AU x.frm ∨ ¬ B4 (Cw h.spool i k))) : GL h x a i k w = ⟨h.conf, Kg (Cw h.spool i k) (Ba x a) w, h.boxes, h.lost⟩ := if_neg q
theorem FW {x : Im} {a : Ad} (q : ¬ Bt x a < 0) : (x.to.getD (Bt x a).toNat default).addr = a := by
 have h1 := L9 (p := fun r : Rc => r.addr = a) x.to 0 (by unfold Bt at q; omega)
 exact h1
theorem FV {s : Sp} {n : Int} (q : ¬ A5 s n < 0) : (A1 s n).id = n := by
 have h1 := L9 (p := fun x : Im => x.id = n) s.items 0 (by unfold A5 at q; omega)
 exact h1
end
def o0 : Ct := At (lc I0.ag l0) (fun p => My p.1) (fun p => kC p.1)
section
attribute [local go_sem] lm List.map_nil List.length_nil List.nil_append Nat.zero_add
theorem qJ {G : Gt} (hG : Aj G) : Gd G 49 (AA 0 o0) := by
 refine gr (fn := Tryz.f49) (n := 1) rfl hG ?_ (hs := fun _ p => Py _)
 rintro ⟨x, ⟨⟩⟩ hpre
 simp -implicitDefEqProofs only [Tryz.f49, go_sem, seval] at hpre ⊢
 obtain ⟨_, ⟨h1, _⟩, ⟨h2, _⟩⟩ := hpre
 with_reducible repeat' (first | apply ai | intro _ | ((first | apply s1 | apply s2 | apply s3 | apply s4) <;> intro hb <;> simp -implicitDefEqProofs only [hb, go_sem, seval] <;> try simp only [qz] at hb))
 all_goals (try simp only [maxLen, lm, List.length_nil] at *)
 all_goals first | rfl | omega | (simp_all; done) | skip
end
def fj : Ct := At (lc GU.ag l0) (fun p => IH p.1) (fun p => kD p.1)
section
attribute [local go_sem] o0 ow lm List.length_append List.length_cons List.length_nil List.map_append List.map_nil Nat.zero_add List.nil_append AS.opn AS.cls AS.nilb AS.renb AS.up Bool.not_false Bool.not_true List.set_set List.set_cons_zero List.set_cons_succ List.set_nil List.mem_singleton forall_eq
set_option maxHeartbeats 6400000 in
theorem mN {G : Gt} (hG : Aj G) (hh : G.e 49 = AA 0 o0 ∧ G.e 32 = AA 0 ow) : Gd G 173 (AA 0 fj) := by
 refine OW (dp := fun n => !(Nat.beq n 100002 || Nat.beq n 100004 || Nat.beq n 100006 || Nat.beq n 100008)) (fn := Tryz.f173) (n := 1) rfl hG ?_ (hs := fun _ p => Pz _)
 rintro ⟨h, ⟨⟩⟩ hpre
 simp -implicitDefEqProofs only [Tryz.f173, go_sem, hh, seval] at hpre ⊢
 obtain ⟨zc, zs, ⟨lb, zb⟩, ⟨ll, zl⟩⟩ := hpre
 with_reducible repeat' (first | apply ai | intro _ | ((first | apply s1 | apply s2 | apply s3 | apply s4) <;> intro hb <;> simp -implicitDefEqProofs only [hb, go_sem, hh, seval] <;> try simp only [qz] at hb))
 all_goals (try simp only [maxLen] at *)
 all_goals first | rfl | omega | assumption | decide | skip
 refine Ai (Le.nilb 1003 5 1905 true 3 rfl rfl rfl) (Ae ?_)
 simp -implicitDefEqProofs only [go_sem, hh, seval]
 refine AE [] (ι := {i : Nat // i ≤ h.boxes.length}) (fun p => ⟨[(1, .pb 1001 0), (2, .pb 1002 0), (3, .pb 1003 0), (4, .t (.v (.int .i64 p.1)))], [(1001, some (.box ((Ah h).map .t))), (1002, some (.box [.t (.v (.string ⟨#[]⟩)), .nil, .nil, .t (.v (.int .i64 0)), .nil, .nil, .nil])), (1003, some (.box [.t (.v (.string h.conf.name)), .h 1009, .h 2009, .t (.v (.int .i64 h.spool.last)), .h 1012, .h 1905, .h 1016])), (1009, some (.arr true 1 (h.conf.own.map AH))), (2009, some (.arr true 2 (h.conf.ways.map B0))), (1012, some (.arr true 5 (h.spool.items.map Ay))), (1016, some (.arr true 3 (h.lost.map A0))), (1905, some (.arr true 3 ((h.boxes.take p.1).map CF)))]⟩) (fun p => h.boxes.length - p.1) ⟨0, by simp⟩ rfl ?_ ?_
 ·simp -implicitDefEqProofs only [go_sem, hh, seval]
  try simp
 ·rintro ⟨i, hi⟩
  have hlen : (h.boxes.take i).length = i := by simp; omega
  by_cases hlt : (i : Int) < h.boxes.length
  ·skip
   have hbx := zb _ (AC (xs := h.boxes) (j := i) (by omega))
   obtain ⟨_, ⟨lm, zm⟩⟩ := hbx
   simp -implicitDefEqProofs only [hlt, decide_true, tn, go_sem, hh, seval]
   with_reducible repeat' (first | apply ai | intro _ | ((first | apply s1 | apply s2 | apply s3 | apply s4) <;> intro hb <;> simp -implicitDefEqProofs only [hb, go_sem, hh, seval] <;> try simp only [qz] at hb))
   all_goals (try simp only [maxLen] at *)
   all_goals first | rfl | omega | assumption | decide | skip
   refine Ai (Le.nilb 1005 2 1906 true 3 rfl rfl rfl) (Ae ?_)
   simp -implicitDefEqProofs only [go_sem, hh, seval]
   with_reducible repeat' (first | apply ai | intro _ | ((first | apply s1 | apply s2 | apply s3 | apply s4) <;> intro hb <;> simp -implicitDefEqProofs only [hb, go_sem, hh, seval] <;> try simp only [qz] at hb))
   all_goals first | rfl | omega | decide | skip
   refine AE [] (ι := {k : Nat // k ≤ (h.boxes.getD i default).mails.length}) (fun p => ⟨[(1, .pb 1001 0), (2, .pb 1002 0), (3, .pb 1003 0), (4, .t (.v (.int .i64 i))), (5, .pb 1005 0), (6, .t (.v (.int .i64 p.1)))], [(1001, some (.box ((Ah h).map .t))), (1002, some (.box [.t (.v (.string ⟨#[]⟩)), .nil, .nil, .t (.v (.int .i64 0)), .nil, .nil, .nil])), (1003, some (.box [.t (.v (.string h.conf.name)), .h 1009, .h 2009, .t (.v (.int .i64 h.spool.last)), .h 1012, .h 1905, .h 1016])), (1009, some (.arr true 1 (h.conf.own.map AH))), (2009, some (.arr true 2 (h.conf.ways.map B0))), (1012, some (.arr true 5 (h.spool.items.map Ay))), (1016, some (.arr true 3 (h.lost.map A0))), (1905, some (.arr true 3 ((h.boxes.take i).map CF))), (1005, some (.box [.t (.v (.string (h.boxes.getD i default).addr.user)), .t (.v (.string (h.boxes.getD i default).addr.domain)), .h 1906])), (1906, some (.arr true 3 (((h.boxes.getD i default).mails.take p.1).map DS)))]⟩) (fun p => (h.boxes.getD i default).mails.length - p.1) ⟨0, by simp⟩ rfl ?_ ?_
   ·simp -implicitDefEqProofs only [go_sem, hh, seval]
    try simp
   ·rintro ⟨k, hk⟩
    have hlen2 : ((h.boxes.getD i default).mails.take k).length = k := by rw [List.length_take]; omega
    by_cases hlt2 : (k : Int) < (h.boxes.getD i default).mails.length
    ·obtain ⟨_, ⟨lg, _⟩⟩ := zm _ (AC (xs := (h.boxes.getD i default).mails) (j := k) (by omega))
     simp -implicitDefEqProofs only [hlt2, decide_true, tn, go_sem, hh, seval]
     with_reducible repeat' (first | apply ai | intro _ | ((first | apply s1 | apply s2 | apply s3 | apply s4) <;> intro hb <;> simp -implicitDefEqProofs only [hb, go_sem, hh, seval] <;> try simp only [qz] at hb))
     all_goals (try simp only [maxLen, tn] at *)
     all_goals first | rfl | omega | assumption | decide | skip
     refine Ai (Le.renb 1005 2 1069 1906 rfl rfl rfl rfl) (Ae ?_)
     simp -implicitDefEqProofs only [go_sem, hh, seval]
     with_reducible repeat' (first | apply ai | intro _ | ((first | apply s1 | apply s2 | apply s3 | apply s4) <;> intro hb <;> simp -implicitDefEqProofs only [hb, go_sem, hh, seval] <;> try simp only [qz] at hb))
     all_goals first | rfl | omega | decide | skip
     refine ⟨⟨k + 1, by omega⟩, by dsimp only; omega, ?_⟩
     simp -implicitDefEqProofs only [go_sem, hh, seval]
     simp only [BV DS (show k < (h.boxes.getD i default).mails.length by omega)]
     with_reducible repeat' (first | apply ai | intro _ | ((first | apply s1 | apply s2 | apply s3 | apply s4) <;> intro hb <;> simp -implicitDefEqProofs only [hb, go_sem, hh, seval] <;> try simp only [qz] at hb))
     all_goals first | rfl | (simp; done) | skip
    ·have htk : (h.boxes.getD i default).mails.take k = (h.boxes.getD i default).mails := List.take_of_length_le (by omega)
     simp -implicitDefEqProofs only [hlt2, htk, decide_false, tn, go_sem, hh, seval]
     with_reducible repeat' (first | apply ai | intro _ | ((first | apply s1 | apply s2 | apply s3 | apply s4) <;> intro hb <;> simp -implicitDefEqProofs only [hb, go_sem, hh, seval] <;> try simp only [qz] at hb))
     all_goals (try simp only [maxLen] at *)
     all_goals first | rfl | omega | assumption | decide | skip
     refine Ai (Le.renb 1003 5 1075 1905 rfl rfl rfl rfl) (Ae ?_)
     simp -implicitDefEqProofs only [go_sem, hh, seval]
     with_reducible repeat' (first | apply ai | intro _ | ((first | apply s1 | apply s2 | apply s3 | apply s4) <;> intro hb <;> simp -implicitDefEqProofs only [hb, go_sem, hh, seval] <;> try simp only [qz] at hb))
     all_goals first | rfl | omega | decide | skip
     refine ⟨⟨i + 1, by omega⟩, by dsimp only; omega, ?_⟩
     simp -implicitDefEqProofs only [go_sem, hh, seval]
     simp only [BV CF (show i < h.boxes.length by omega)]
     with_reducible repeat' (first | apply ai | intro _ | ((first | apply s1 | apply s2 | apply s3 | apply s4) <;> intro hb <;> simp -implicitDefEqProofs only [hb, go_sem, hh, seval] <;> try simp only [qz] at hb))
     all_goals first | rfl | (simp; done) | skip
  ·have htk : h.boxes.take i = h.boxes := List.take_of_length_le (by omega)
   simp -implicitDefEqProofs only [hlt, htk, decide_false, go_sem, hh, seval]
   with_reducible repeat' (first | apply ai | intro _ | ((first | apply s1 | apply s2 | apply s3 | apply s4) <;> intro hb <;> simp -implicitDefEqProofs only [hb, go_sem, hh, seval] <;> try simp only [qz] at hb))
   all_goals (try simp only [maxLen] at *)
   all_goals first | rfl | omega | assumption | decide | rfl | skip
end
def gL : Ct := At (lc Av l0) (fun p => p.1.size ≤ 2000000) (fun p => .t (.v (.string (Cb p.1))))
theorem m0 {G : Gt} (hG : Aj G) : Gd G 220 (AA 0 gL) := by
 refine gr (fn := Tryz.f220) (n := 1) rfl hG ?_
 rintro ⟨n, ⟨⟩⟩ hpre
 simp -implicitDefEqProofs only [Tryz.f220, go_sem, seval] at hpre ⊢
 with_reducible repeat' (first | apply ai | intro _ | ((first | apply s1 | apply s2 | apply s3 | apply s4) <;> intro hb <;> simp -implicitDefEqProofs only [hb, go_sem, seval] <;> try simp only [qz] at hb))
 all_goals (try simp only [maxLen] at *)
 all_goals first | rfl | omega | (show 5 + n.size ≤ _; omega) | skip
theorem Qu {a : ByteArray} {xs : List ByteArray} : Al.decL ([.v (.string a)] :: xs.map AH) = some (a :: xs) := Al.decL_map (a :: xs)
theorem Vu (n : ByteArray) : (Cb n).size = 5 + n.size := by
 have e : bl (Cb n) = [72, 111, 112, 58, 32] ++ bl n := O2 _ _
 rw [← CB, e, List.length_append, CB]; rfl
open Classical in
noncomputable def Kb (h : Hs) (m : Ml) (w : Int) : Hs × Bool := if m.body.length < 12 ∧ B4 h.spool then (OQ h m w, true) else (h, false)
theorem I4 {h : Hs} {m : Ml} {w : Int} (q : m.body.length < 12 ∧ B4 h.spool) : Kb h m w = (OQ h m w, true) := if_pos q
theorem I3 {h : Hs} {m : Ml} {w : Int} (q : ¬ (m.body.length < 12 ∧ B4 h.spool)) : Kb h m w = (h, false) := if_neg q
def UP : Ct := At (lc GU.ag (lc X3.ag (lc BJ l0))) (fun p => IH p.1 ∧ Kc p.2.1 ∧ Bl p.1.spool ∧ p.1.conf.name.size ≤ 1000000) (fun p => aq (Kb p.1 p.2.1 p.2.2.1))
section
attribute [local go_sem] JS Lo gL O6 KR Jb List.take_length List.drop_zero List.length_take List.length_drop lm List.length_append List.length_cons List.length_nil List.map_append List.map_nil List.map_cons List.nil_append Nat.zero_add List.mem_singleton forall_eq Bool.not_true Bool.not_false Qu List.cons_append aq AS.opn AS.cls AS.nilb AS.renb AS.up List.set_set List.set_cons_zero List.set_cons_succ List.set_nil
set_option maxHeartbeats 3200000 in
theorem me {G : Gt} (hG : Aj G) (hh : G.e 110 = AA 0 JS ∧ G.e 199 = AA 0 Lo ∧ G.e 220 = AA 0 gL ∧ G.e 111 = AA 1 O6) : Gd G 202 (AA 1 UP) := by
 refine OW (dp := fun n => Nat.ble 100000 n) (fn := Tryz.f202) (n := 3) rfl hG ?_
 rintro ⟨h, m, w, ⟨⟩⟩ hpre
 obtain ⟨hok, hml, hsp, hnm2⟩ := hpre
 dsimp only at hok hml hsp hnm2 ⊢
 have hml2 := hml
 obtain ⟨⟨_, _⟩, ⟨hl1, zt⟩, ⟨hl2, zb⟩⟩ := hml2
 have LG : h.conf.name.size ≤ 2000000 := by have : h.conf.name.size ≤ 1048576 := hok.1.1; omega
 by_cases q : m.body.length < 12 ∧ B4 h.spool
 ·rw [I4 q]
  obtain ⟨q1, q2⟩ := q
  have b2 := Aq q2
  have q3 : ¬ (m.body.length : Int) ≥ 12 := by omega
  have hos := hok.2.1
  have hml3 : Kc ⟨m.frm, m.to, Cb h.conf.name :: m.body⟩ := by
   refine ⟨hml.1, hml.2.1, ⟨by show ((Cb h.conf.name :: m.body).length : Int) ≤ _; rw [List.length_cons]; omega, fun s hs => ?_⟩⟩
   rcases List.mem_cons.1 hs with e | hs
   ·rw [e]
    have h5 := Vu h.conf.name
    have h6 : h.conf.name.size ≤ 1000000 := hnm2
    show (Cb h.conf.name).size ≤ 1048576
    omega
   ·exact zb s hs
  simp -implicitDefEqProofs only [Tryz.f202, b2, q3, decide_false, go_sem, hh, seval]
  with_reducible repeat' (first | apply ai | intro _ | ((first | apply s1 | apply s2 | apply s3 | apply s4) <;> intro hb <;> simp -implicitDefEqProofs only [hb, go_sem, hh, seval] <;> try simp only [qz] at hb))
  all_goals (try simp only [maxLen] at *)
  all_goals first | with_reducible assumption | rfl | omega | contradiction | skip
 ·rw [I3 q]
  by_cases q1 : m.body.length < 12
  ·have b2 := AQ (fun z => q ⟨q1, z⟩)
   have q3 : ¬ (m.body.length : Int) ≥ 12 := by omega
   simp -implicitDefEqProofs only [Tryz.f202, b2, q3, decide_false, go_sem, hh, seval]
   with_reducible repeat' (first | apply ai | intro _ | ((first | apply s1 | apply s2 | apply s3 | apply s4) <;> intro hb <;> simp -implicitDefEqProofs only [hb, go_sem, hh, seval] <;> try simp only [qz] at hb))
   all_goals (try simp only [maxLen] at *)
   all_goals first | rfl | omega | assumption | decide | contradiction | skip
  ·have q3 : (m.body.length : Int) ≥ 12 := by omega
   simp -implicitDefEqProofs only [Tryz.f202, q3, decide_true, go_sem, hh, seval]
   with_reducible repeat' (first | apply ai | intro _ | ((first | apply s1 | apply s2 | apply s3 | apply s4) <;> intro hb <;> simp -implicitDefEqProofs only [hb, go_sem, hh, seval] <;> try simp only [qz] at hb))
   all_goals (try simp only [maxLen] at *)
   all_goals first | rfl | omega | assumption | decide | contradiction | skip
end
section
open Go.Lib
theorem Lk {s : ByteArray} (h : QQ s) : ¬ (64 : UInt8) ∈ bl s := fun q => by
 obtain ⟨j, hj, e⟩ := Gj q
 have := h.1 j hj
 rw [e] at this
 exact absurd this (by unfold Jm; decide)
theorem O0 {s : ByteArray} (h : Di s) : ¬ (64 : UInt8) ∈ bl s := fun q => by
 obtain ⟨h1, _⟩ := (IY s).1 h
 rcases G8 (c := 46) q with e | ⟨w, hw, q⟩
 ·exact absurd e (by decide)
 ·exact Lk (h1 _ (List.mem_map_of_mem hw)) q
theorem Hr {c : UInt8} : ∀ {l : List UInt8} (m : Nat), ¬ c ∈ l → Ao c m l = [l]
 | _, 0, _ => by simp [Ao]
 | [], m + 1, _ => by simp [Ao]
 | x :: r, m + 1, h => by
   simp only [List.mem_cons, not_or] at h
   rw [Ao, if_neg (fun e => h.1 e.symm), Hr (m + 1) h.2]
theorem Fh {c : UInt8} : ∀ {u d : List UInt8} (m : Nat), ¬ c ∈ u → Ao c (m + 1) (u ++ c :: d) = u :: Ao c m d
 | [], d, m, _ => by simp [Ao]
 | x :: r, d, m, h => by
   simp only [List.mem_cons, not_or] at h
   rw [List.cons_append, Ao, if_neg (fun e => h.1 e.symm), Fh m h.2]
theorem Lu {u d : List UInt8} (hu : ¬ (64 : UInt8) ∈ u) (hd : ¬ (64 : UInt8) ∈ d) : Cg (mB (u ++ 64 :: d)) 64 2 = [mB u, mB d] := by
 unfold Cg
 rw [T8, Fh 1 hu, Hr 1 hd]; rfl
theorem ZO {s : ByteArray} (h : (Cg s 64 2).length = 2) : s = mB (bl ((Cg s 64 2).getD 0 default) ++ 64 :: bl ((Cg s 64 2).getD 1 default)) := by
 by_cases h1 : (64 : UInt8) ∈ bl s
 ·obtain ⟨u, r, e, hu⟩ := List.eq_append_cons_of_mem h1
  by_cases h2 : (64 : UInt8) ∈ r
  ·obtain ⟨v, t, e2, hv⟩ := List.eq_append_cons_of_mem h2
   unfold Cg at h
   rw [e, Fh 1 hu, e2, Fh 0 hv] at h
   simp [Ao] at h
  ·have : Cg s 64 2 = [mB u, mB r] := by rw [← RG s, e]; exact Lu hu h2
   rw [this]
   refine GD ?_
   rw [e]; rfl
 ·unfold Cg at h
  rw [Hr 2 h1] at h
  cases h
theorem J9 {a : Ad} (h : BK a) : bl (Ce a) = 60 :: ((bl a.user ++ 64 :: bl a.domain) ++ [62]) := by
 rw [MY (Xh h)]; simp
def Fl (s : ByteArray) : Prop := ∃ a, (BK a ∨ AU a) ∧ Ce a = s
open Classical in
noncomputable def BA (s : ByteArray) : Ad := if h : Fl s then h.choose else ⟨⟨#[]⟩, ⟨#[]⟩⟩
theorem Pd (s : ByteArray) {l : List UInt8} (h : bl s = 60 :: (l ++ [62])) : s.extract 1 (s.size - 1) = mB l := by
 refine GD ?_
 have e : s.size = l.length + 2 := by rw [← CB, h]; simp
 rw [DQ, h, e, T8]
 try simp
theorem Ww {a b : Ad} (ha : BK a ∨ AU a) (hb : BK b ∨ AU b) (h : Ce a = Ce b) : a = b := by
 have key : ∀ {x y : Ad}, BK x → AU y → Ce x = Ce y → False := fun {x y} hx hy e => by
  have := congrArg bl e
  rw [J9 hx, Ho hy] at this
  have := congrArg List.length this
  have e2 : (bl (⟨#[60, 62]⟩ : ByteArray)).length = 2 := rfl
  rw [e2] at this
  simp at this
  omega
 rcases ha with ha | ha
 ·rcases hb with hb | hb
  ·have e1 := Pd (Ce a) (J9 ha)
   have e2 := Pd (Ce b) (J9 hb)
   rw [h, e2] at e1
   have e3 := Lu (Lk ha.1) (O0 ha.2)
   rw [← e1, Lu (Lk hb.1) (O0 hb.2)] at e3
   simp only [List.cons.injEq, and_true, RG] at e3
   obtain ⟨u, d⟩ := a
   obtain ⟨v, w⟩ := b
   rw [show v = u from e3.1, show w = d from e3.2]
  ·exact (key ha hb h).elim
 ·rcases hb with hb | hb
  ·exact (key hb ha h.symm).elim
  ·obtain ⟨u, d⟩ := a
   obtain ⟨v, w⟩ := b
   rw [show u = _ from ha.1, show d = _ from ha.2, show v = _ from hb.1, show w = _ from hb.2]
theorem Q0 {s : ByteArray} {a : Ad} (ha : BK a ∨ AU a) (h : Ce a = s) : Fl s ∧ BA s = a := by
 have hr : Fl s := ⟨a, ha, h⟩
 refine ⟨hr, ?_⟩
 unfold BA
 rw [dif_pos hr]
 exact Ww hr.choose_spec.1 ha (hr.choose_spec.2.trans h.symm)
theorem L8 {s : ByteArray} (h : ¬ Fl s) : BA s = ⟨⟨#[]⟩, ⟨#[]⟩⟩ := dif_neg h
theorem Io {s : ByteArray} (h : Fl s) : (BK (BA s) ∨ AU (BA s)) ∧ Ce (BA s) = s := by
 unfold BA
 rw [dif_pos h]
 exact h.choose_spec
theorem Mb : Fl ⟨#[60, 62]⟩ ∧ BA ⟨#[60, 62]⟩ = ⟨⟨#[]⟩, ⟨#[]⟩⟩ := Q0 (.inr ⟨rfl, rfl⟩) (Ho ⟨rfl, rfl⟩)
theorem kH {s : ByteArray} (h : Fl s) (h0 : ¬ s = ⟨#[60, 62]⟩) : 2 ≤ s.size ∧ AB s 0 = 60 ∧ AB s (s.size - 1) = 62 ∧ Cg (s.extract 1 (s.size - 1)) 64 2 = [(BA s).user, (BA s).domain] ∧ BK (BA s) := by
 obtain ⟨h1, h2⟩ := Io h
 have hk := h1.resolve_right fun q => h0 (by rw [← h2, Ho q])
 have hb := J9 hk
 rw [h2] at hb
 have hs : s.size = ((bl (BA s).user ++ 64 :: bl (BA s).domain)).length + 2 := by rw [← CB, hb]; simp; omega
 refine ⟨by omega, ?_, ?_, ?_, hk⟩
 ·rw [B5, hb]; rfl
 ·rw [B5, hb, hs]
  simp only [List.getD_eq_getElem?_getD]
  rw [show ∀ n : Nat, n + 2 - 1 = n + 1 from fun n => rfl, List.getElem?_cons_succ, List.getElem?_append_right (Nat.le_refl _), Nat.sub_self]
  rfl
 ·rw [Pd s hb, Lu (Lk hk.1) (O0 hk.2)]; rfl
theorem ex {s : ByteArray} (h : 2 ≤ s.size) (h1 : AB s 0 = 60) (h2 : AB s (s.size - 1) = 62) : bl s = 60 :: (bl (s.extract 1 (s.size - 1)) ++ [62]) := by
 have e1 : (bl s).getD 0 0 = 60 := (Fa (c := 60)).1 h1
 have e2 : (bl s).getD (s.size - 1) 0 = 62 := (Fa (c := 62)).1 h2
 have d0 := Fb (s := s) (i := 0) (by omega)
 have d1 := Fb (s := s) (i := s.size - 1) (by omega)
 rw [e1] at d0
 rw [e2] at d1
 have e3 : (bl s).drop (s.size - 1 + 1) = [] := List.drop_of_length_le (by rw [CB]; omega)
 rw [e3] at d1
 rw [DQ]
 have : (bl s).drop 1 = ((bl s).drop 1).take (s.size - 1 - 1) ++ ((bl s).drop 1).drop (s.size - 1 - 1) := (List.take_append_drop _ _).symm
 rw [List.drop_drop, show 1 + (s.size - 1 - 1) = s.size - 1 by omega, d1] at this
 rw [← this]
 exact d0
theorem Wx {s : ByteArray} (h : 2 ≤ s.size) (h1 : AB s 0 = 60) (h2 : AB s (s.size - 1) = 62) (h3 : (Cg (s.extract 1 (s.size - 1)) 64 2).length = 2)
    (h4 : BK ⟨(Cg (s.extract 1 (s.size - 1)) 64 2).getD 0 default, (Cg (s.extract 1 (s.size - 1)) 64 2).getD 1 default⟩) :
    Fl s ∧ BA s = ⟨(Cg (s.extract 1 (s.size - 1)) 64 2).getD 0 default, (Cg (s.extract 1 (s.size - 1)) 64 2).getD 1 default⟩ := by
 refine Q0 (.inl h4) (GD ?_)
 rw [J9 h4, ex h h1 h2]
 have := congrArg bl (ZO h3)
 rw [this]; rfl
theorem Wz {s : ByteArray} (h0 : ¬ s = ⟨#[60, 62]⟩) (h : (s.size : Int) < 2 ∨ ¬ AB s 0 = 60 ∨ ¬ AB s (s.size - 1) = 62 ∨ ¬ ((Cg (s.extract 1 (s.size - 1)) 64 2).length : Int) = 2 ∨
    ¬ BK ⟨(Cg (s.extract 1 (s.size - 1)) 64 2).getD 0 default, (Cg (s.extract 1 (s.size - 1)) 64 2).getD 1 default⟩) : ¬ Fl s := fun q => by
 obtain ⟨h1, h2, h3, h4, h5⟩ := kH q h0
 rw [h4] at h
 rcases h with h | h | h | h | h
 ·omega
 ·exact h h2
 ·exact h h3
 ·exact h rfl
 ·exact h h5
theorem vO : (0 : Int).toNat = 0 := rfl
theorem vP : (1 : Int).toNat = 1 := rfl
theorem vQ : (2 : Int).toNat = 2 := rfl
theorem u64 : UInt8.ofNat (64 : Int).toNat = 64 := rfl
theorem vR (n : Nat) : ((n : Int) - 1).toNat = n - 1 := by omega
end
noncomputable def uA (s : ByteArray) : AV := .tup [.agg [.t (.v (.string (BA s).user)), .t (.v (.string (BA s).domain))], .t (.v (.bool (BT (Fl s))))]
theorem QA (s : ByteArray) : uA s = .tup [.agg [.t (.v (.string (BA s).user)), .t (.v (.string (BA s).domain))], .t (.v (.bool (BT (Fl s))))] := rfl
theorem gU {s : ByteArray} {a : Ad} (h : Fl s ∧ BA s = a) : T.v (.string a.user) = T.v (.string (BA s).user) := by rw [h.2]
theorem gD {s : ByteArray} {a : Ad} (h : Fl s ∧ BA s = a) : T.v (.string a.domain) = T.v (.string (BA s).domain) := by rw [h.2]
theorem gT {s : ByteArray} {a : Ad} (h : Fl s ∧ BA s = a) : T.v (.bool true) = T.v (.bool (BT (Fl s))) := by rw [Aq h.1]
theorem vG {s : ByteArray} (h : ¬ Fl s) : T.v (.string ⟨#[]⟩) = T.v (.string (BA s).user) := by rw [L8 h]
theorem vF {s : ByteArray} (h : ¬ Fl s) : T.v (.string ⟨#[]⟩) = T.v (.string (BA s).domain) := by rw [L8 h]
theorem gF {s : ByteArray} (h : ¬ Fl s) : T.v (.bool false) = T.v (.bool (BT (Fl s))) := by rw [AQ h]
theorem S8 (s : ByteArray) : BX (uA s) := .tup _ fun c hc => by
 simp only [List.mem_cons, List.not_mem_nil, or_false] at hc
 rcases hc with rfl | rfl
 ·refine .agg _ fun c hc => ?_
  simp only [List.mem_cons, List.not_mem_nil, or_false] at hc
  rcases hc with rfl | rfl <;> exact .v _
 ·exact .v _
def PB : Ct := At (lc Dd.ag l0) (fun p => p.1.user.size ≤ 2000000 ∧ p.1.domain.size ≤ 2000000) (fun p => .t (.v (.string (Ce p.1))))
section
attribute [local go_sem] R9
theorem nD {G : Gt} (hG : Aj G) (hh : G.e 72 = AA 0 R9) : Gd G 227 (AA 0 PB) := by
 refine gr (fn := Tryz.f227) (n := 1) rfl hG ?_
 rintro ⟨a, ⟨⟩⟩ hpre
 simp -implicitDefEqProofs only [Tryz.f227, go_sem, hh, seval] at hpre ⊢
 obtain ⟨h1, h2⟩ := hpre
 have e1 : (#[60] : Array UInt8).size = 1 := rfl
 have e2 : (#[64] : Array UInt8).size = 1 := rfl
 have e3 : (#[62] : Array UInt8).size = 1 := rfl
 with_reducible repeat' (first | apply ai | intro _ | ((first | apply s1 | apply s2 | apply s3 | apply s4) <;> intro hb <;> simp -implicitDefEqProofs only [hb, go_sem, hh, seval] <;> try simp only [qz] at hb))
 all_goals (try simp only [maxLen] at *)
 all_goals first
  | rfl
  | omega
  | (rw [Ho (by assumption)]; done)
  | (rw [P8 hb]; done)
  | skip
end
def US : Ct := At (lc Av l0) (fun p => p.1.size ≤ 2000000) (fun p => uA p.1)
section
attribute [local go_sem] UJ SB Ac Ab AY lm QA
set_option maxHeartbeats 2000000 in
theorem nU {G : Gt} (hG : Aj G) (hh : G.e 136 = AA 0 UJ ∧ G.e 74 = AA 0 SB) : Gd G 244 (AA 0 US) := by
 refine gr (fn := Tryz.f244) (n := 1) rfl hG ?_ (hs := fun _ _ => S8 _)
 rintro ⟨s, ⟨⟩⟩ hpre
 simp -implicitDefEqProofs only [Tryz.f244, go_sem, hh, seval] at hpre ⊢
 with_reducible repeat' (first | apply ai | intro _ | ((first | apply s1 | apply s2 | apply s3 | apply s4) <;> intro hb <;> simp -implicitDefEqProofs only [hb, go_sem, hh, seval] <;> try simp only [qz] at hb))
 all_goals (try simp only [maxLen, u64, vO, vP, vQ, vR, tn] at *)
 all_goals first
  | with_reducible rfl
  | omega
  | decide
  | (show AZ _ = true; rfl)
  | with_reducible assumption
  | with_reducible exact vG (Wz (by with_reducible assumption) (by first | exact .inl (by with_reducible assumption) | exact .inr (.inl (by with_reducible assumption)) | exact .inr (.inr (.inl (by with_reducible assumption))) | exact .inr (.inr (.inr (.inl (by with_reducible assumption)))) | exact .inr (.inr (.inr (.inr (by with_reducible assumption))))))
  | with_reducible exact vF (Wz (by with_reducible assumption) (by first | exact .inl (by with_reducible assumption) | exact .inr (.inl (by with_reducible assumption)) | exact .inr (.inr (.inl (by with_reducible assumption))) | exact .inr (.inr (.inr (.inl (by with_reducible assumption)))) | exact .inr (.inr (.inr (.inr (by with_reducible assumption))))))
  | with_reducible exact gF (Wz (by with_reducible assumption) (by first | exact .inl (by with_reducible assumption) | exact .inr (.inl (by with_reducible assumption)) | exact .inr (.inr (.inl (by with_reducible assumption))) | exact .inr (.inr (.inr (.inl (by with_reducible assumption)))) | exact .inr (.inr (.inr (.inr (by with_reducible assumption))))))
  | with_reducible exact gU (Wx (by omega) (by with_reducible assumption) (by with_reducible assumption) (by omega) (by with_reducible assumption))
  | with_reducible exact gD (Wx (by omega) (by with_reducible assumption) (by with_reducible assumption) (by omega) (by with_reducible assumption))
  | with_reducible exact gT (Wx (by omega) (by with_reducible assumption) (by with_reducible assumption) (by omega) (by with_reducible assumption))
  | (subst hb; with_reducible exact gU Mb)
  | (subst hb; with_reducible exact gD Mb)
  | (subst hb; with_reducible exact gT Mb)
  | skip
end
def jT : ByteArray := ⟨#[72, 111, 112, 58, 32]⟩
def Th (s : ByteArray) : Prop := nY s jT ∧ Di (s.extract 5 s.size)
theorem dz {s : ByteArray} (h : Di s) : ¬ s.size = 0 := fun q => by
 rw [dS q] at h
 have := (h.1 ⟨#[]⟩ (by simp [Cg, Ao, bl, mB])).2.1
 exact absurd this (by decide)
theorem n7 {s : ByteArray} : Th s ↔ 5 < s.size ∧ s.extract 0 5 = jT ∧ Di (s.extract 5 s.size) := by
 have e : jT.size = 5 := rfl
 unfold Th nY
 rw [e]
 constructor
 ·rintro ⟨⟨h1, h2⟩, h3⟩
  refine ⟨?_, h2, h3⟩
  have := dz h3
  rw [ByteArray.size_extract] at this
  omega
 ·rintro ⟨h1, h2, h3⟩
  exact ⟨⟨by omega, h2⟩, h3⟩
noncomputable def Dg : List ByteArray → Nat
 | [] => 0
 | x :: r => bif BT (Th x) then Dg r + 1 else 0
theorem Vt {xs : List ByteArray} {i : Nat} (h : i < xs.length) (ha : Th (xs.getD i default)) : Dg (xs.drop i) = Dg (xs.drop (i + 1)) + 1 := by
 rw [AW h, Dg, Aq ha]; rfl
theorem Zy {xs : List ByteArray} {i : Nat} (h : i < xs.length) (ha : ¬ Th (xs.getD i default)) : Dg (xs.drop i) = 0 := by
 rw [AW h, Dg, AQ ha]; rfl
theorem Vs {xs : List ByteArray} {i : Nat} (h : xs.length ≤ i) : Dg (xs.drop i) = 0 := by
 rw [List.drop_eq_nil_of_le h, Dg]
abbrev vI : ByteArray := ⟨#[110, 111, 116, 32, 100, 101, 108, 105, 118, 101, 114, 101, 100, 58]⟩
def sw (xs : List ByteArray) : Prop := Dg xs + 1 < xs.length ∧ xs.getD (Dg xs) default = vI
def su (xs : List ByteArray) : Prop := sw xs ∧ Fl (xs.getD (Dg xs + 1) default) ∧ ¬ AU (BA (xs.getD (Dg xs + 1) default))
open Classical in
noncomputable def sY (xs : List ByteArray) : ByteArray := if su xs then xs.getD (Dg xs + 1) default else ⟨#[]⟩
theorem lH {xs : List ByteArray} (h : su xs) : sY xs = xs.getD (Dg xs + 1) default := if_pos h
theorem hW {xs : List ByteArray} (h : su xs) : T.v (.string (xs.getD (Dg xs + 1) default)) = T.v (.string (sY xs)) := by rw [lH h]
def gn : Ct := At (lc Al.asl l0) (fun p => True) (fun p => .t (.v (.int .i64 (Dg p.1))))
section
attribute [local go_sem] Y9 lm Ac Ab
theorem nT {G : Gt} (hG : Aj G) (hh : G.e 93 = AA 0 Y9) : Gd G 243 (AA 0 gn) := by
 refine gr (fn := Tryz.f243) (n := 1) rfl hG ?_
 rintro ⟨xs, ⟨⟩⟩ hpre
 simp -implicitDefEqProofs only [Tryz.f243, go_sem, hh, seval] at hpre ⊢
 refine AE [] (ι := {i : Nat // i ≤ xs.length ∧ Dg xs = i + Dg (xs.drop i)}) (fun p => ⟨[(0, .t (.sl 1 (xs.map AH))), (3, .t (.v (.int .i64 p.1)))], []⟩) (fun p => xs.length - p.1) ⟨0, by simp, by simp⟩ rfl ?_ ?_
 ·simp -implicitDefEqProofs only [go_sem, hh, seval]
  try simp
 ·rintro ⟨i, hi, hix⟩
  by_cases hlt : (i : Int) < xs.length
  ·simp -implicitDefEqProofs only [hlt, decide_true, tn, go_sem, hh, seval]
   with_reducible repeat' (first | apply ai | intro _ | ((first | apply s1 | apply s2 | apply s3 | apply s4) <;> intro hb <;> simp -implicitDefEqProofs only [hb, go_sem, hh, seval] <;> try simp only [qz] at hb))
   all_goals (try simp only [maxLen, tn] at *)
   all_goals first
    | rfl
    | omega
    | (rw [hix, Zy (by omega) (fun h => by have h := n7.1 h; first | exact absurd h.2.2 (by assumption) | exact absurd h.2.1 (by assumption) | omega)]; simp; done)
    | (refine ⟨⟨i + 1, by omega, by rw [hix, Vt (by omega) (n7.2 ⟨by omega, by assumption, by assumption⟩)]; omega⟩, by dsimp only; omega, ?_⟩
       simp -implicitDefEqProofs only [go_sem, hh, seval]
       try simp
       done)
    | skip
  ·simp -implicitDefEqProofs only [hlt, decide_false, go_sem, hh, seval]
   with_reducible repeat' (first | apply ai | intro _ | ((first | apply s1 | apply s2 | apply s3 | apply s4) <;> intro hb <;> simp -implicitDefEqProofs only [hb, go_sem, hh, seval] <;> try simp only [qz] at hb))
   all_goals first | rfl | omega | (rw [hix, Vs (by omega)]; simp; done) | skip
end
theorem T9 {x : Im} {a : Ad} (h : Bb x.body = ⟨#[]⟩) : Ba x a = ⟨⟨⟨#[]⟩, ⟨#[]⟩⟩, [x.frm], [se, Ce a]⟩ := by unfold Ba; rw [if_pos h]
theorem UA {x : Im} {a : Ad} (h : ¬ Bb x.body = ⟨#[]⟩) : Ba x a = ⟨⟨⟨#[]⟩, ⟨#[]⟩⟩, [x.frm], [se, Ce a, Bb x.body]⟩ := by unfold Ba; rw [if_neg h]
theorem O3 {x : Im} {a : Ad} : (Ba x a).body.length ≤ 3 := by
 unfold Ba
 split <;> simp
theorem NH {x : Im} {a : Ad} (hox : F6 x) (ha : BK a) : Kc (Ba x a) := by
 refine ⟨⟨by show 0 ≤ 1048576; decide, by show 0 ≤ 1048576; decide⟩, ⟨by show ((1 : Nat) : Int) ≤ 1048576; decide, fun b hb => by rw [List.mem_singleton.1 hb]; exact hox.1⟩, ⟨by have := O3 (x := x) (a := a); omega, fun s hs => ?_⟩⟩
 unfold Ba at hs
 rcases List.mem_cons.1 hs with e | hs
 ·rw [e]; show 14 ≤ 1048576; decide
 ·rcases List.mem_cons.1 hs with e | hs
  ·rw [e]
   have := (OD (.inl ha)).2
   show (Ce a).size ≤ 1048576
   omega
  ·split at hs
   ·cases hs
   ·rename_i q
    rw [List.mem_singleton.1 hs]
    exact hox.2.2.2 _ ((FD x.body).resolve_left q)
theorem RB {α : Type} {xs : List α} {i j : Nat} {y : α} (h : y ∈ xs.take i ++ xs.drop j) : y ∈ xs := by
 rcases List.mem_append.1 h with h | h
 ·exact List.mem_of_mem_take h
 ·exact List.mem_of_mem_drop h
theorem Lb {α : Type} {p : α → Prop} {xs ys : List α} (h : GW p xs) (hl : ys.length ≤ xs.length) (hs : ∀ y ∈ ys, p y) : GW p ys := ⟨by have := h.1; omega, hs⟩
theorem Qv {s : Sp} {i k : Nat} (h : F7 s) (hi : i < s.items.length) : F7 (Cw s i k) := by
 have h' : GW F6 s.items := h
 show GW F6 (TR s.items i k)
 have hx := h'.at hi
 have hx2 : F6 (Hc (s.items.getD i default) k) := ⟨hx.1, Lb hx.2.1 (by simp [Hc]; omega) (fun y hy => hx.2.1.2 y (RB hy)), hx.2.2⟩
 unfold TR
 split
 ·exact Lb h' (by simp; omega) fun y hy => h'.2 y (RB hy)
 ·refine Lb h' (by simp; omega) fun y hy => ?_
  rcases List.mem_append.1 hy with hy | hy
  ·exact h'.2 y (List.mem_of_mem_take hy)
  ·rcases List.mem_cons.1 hy with e | hy
   ·rw [e]; exact hx2
   ·exact h'.2 y (List.mem_of_mem_drop hy)
def gc : Ct := At (lc I1.ag (lc Dd.ag l0)) (fun p => p.2.1.user.size ≤ 2000000 ∧ p.2.1.domain.size ≤ 2000000) (fun p => S5 (Ba p.1 p.2.1))
section
attribute [local go_sem] PB ZA lm List.length_append List.length_cons List.length_nil List.map_append List.map_nil Nat.zero_add List.nil_append AS.opn AS.cls AS.nilb AS.renb AS.up Bool.not_false Bool.not_true List.set_set List.set_cons_zero List.set_cons_succ List.set_nil List.mem_singleton forall_eq
set_option maxHeartbeats 800000 in
theorem nL {G : Gt} (hG : Aj G) (hh : G.e 227 = AA 0 PB ∧ G.e 95 = AA 0 ZA) : Gd G 235 (AA 0 gc) := by
 refine gr (fn := Tryz.f235) (n := 2) rfl hG ?_ (hs := fun _ p => J5 _)
 rintro ⟨x, a, ⟨⟩⟩ hpre
 obtain ⟨h1, h2'⟩ := hpre
 dsimp only at h1 h2' ⊢
 by_cases hm : Bb x.body = ⟨#[]⟩
 ·rw [T9 hm]
  have dm := decide_eq_true hm
  simp -implicitDefEqProofs only [Tryz.f235, dm, go_sem, hh, seval]
  with_reducible repeat' (first | apply ai | intro _ | ((first | apply s1 | apply s2 | apply s3 | apply s4) <;> intro hb <;> simp -implicitDefEqProofs only [hb, go_sem, hh, seval] <;> try simp only [qz] at hb))
  all_goals (try simp only [maxLen] at *)
  all_goals first | with_reducible assumption | rfl | omega | contradiction | decide | (simp; done) | skip
 ·rw [UA hm]
  have dm := decide_eq_false hm
  simp -implicitDefEqProofs only [Tryz.f235, dm, go_sem, hh, seval]
  with_reducible repeat' (first | apply ai | intro _ | ((first | apply s1 | apply s2 | apply s3 | apply s4) <;> intro hb <;> simp -implicitDefEqProofs only [hb, go_sem, hh, seval] <;> try simp only [qz] at hb))
  all_goals (try simp only [maxLen] at *)
  all_goals first | with_reducible assumption | rfl | omega | contradiction | decide | (simp; done) | skip
end
def gN : Ct := At (lc GU.ag (lc BJ (lc BJ (lc BJ l0)))) (fun p => IH p.1 ∧ Bl p.1.spool ∧ (0 ≤ p.2.1 ∧ p.2.1 < p.1.spool.items.length) ∧ (0 ≤ p.2.2.1 ∧ p.2.2.1 < (p.1.spool.items.getD p.2.1.toNat default).to.length)) (fun p => .agg ((Ah (GL p.1 (p.1.spool.items.getD p.2.1.toNat default) ((p.1.spool.items.getD p.2.1.toNat default).to.getD p.2.2.1.toNat default).addr p.2.1.toNat p.2.2.1.toNat p.2.2.2.1)).map .t))
section
attribute [local go_sem] O7 R9 JS ZA gc O6 KR Jb List.take_length List.drop_zero List.length_take List.length_drop lm List.length_append List.length_cons List.length_nil List.map_append List.map_nil List.map_cons List.nil_append Nat.zero_add List.mem_singleton forall_eq Bool.not_true Bool.not_false Ac Ab AS.opn AS.cls AS.nilb AS.renb AS.up List.set_set List.set_cons_zero List.set_cons_succ List.set_nil
set_option maxHeartbeats 3200000 in
theorem m7 {G : Gt} (hG : Aj G) (hh : G.e 113 = AA 1 O7 ∧ G.e 72 = AA 0 R9 ∧ G.e 110 = AA 0 JS ∧ G.e 95 = AA 0 ZA ∧ G.e 235 = AA 0 gc ∧ G.e 111 = AA 1 O6) : Gd G 221 (AA 1 gN) := by
 refine OW (dp := fun n => Nat.ble 100000 n) (fn := Tryz.f221) (n := 4) rfl hG ?_
 rintro ⟨h, i, k, w, ⟨⟩⟩ hpre
 obtain ⟨hok, hsp, ⟨hi0, hi1⟩, ⟨hk0, hk1⟩⟩ := hpre
 dsimp only at hok hsp hi0 hi1 hk0 hk1 ⊢
 obtain ⟨ni, rfl⟩ := Int.eq_ofNat_of_zero_le hi0
 obtain ⟨nk, rfl⟩ := Int.eq_ofNat_of_zero_le hk0
 simp only [tn] at *
 have hi2 : ni < h.spool.items.length := by omega
 have hk2 : nk < (h.spool.items.getD ni default).to.length := by omega
 have hsd := EE hsp hi2 hk2
 have hos := hok.2.1
 have hod := Qv (k := nk) hos hi2
 have hll := hok.2.2.2.1
 have hx := hsp.1 _ (AC hi2)
 have hox := hos.2 _ (AC hi2)
 have hoa := hox.2.1.2 _ (AC hk2)
 have hau : ((h.spool.items.getD ni default).to.getD nk default).addr.user.size ≤ 2000000 := by have : ((h.spool.items.getD ni default).to.getD nk default).addr.user.size ≤ 1048576 := hoa.1; omega
 have had : ((h.spool.items.getD ni default).to.getD nk default).addr.domain.size ≤ 2000000 := by have : ((h.spool.items.getD ni default).to.getD nk default).addr.domain.size ≤ 1048576 := hoa.2; omega
 have hob : Kc (Ba (h.spool.items.getD ni default) ((h.spool.items.getD ni default).to.getD nk default).addr) := NH hox (hx.1.1 _ (AC hk2)).1
 by_cases q : AU (h.spool.items.getD ni default).frm ∨ ¬ B4 (Cw h.spool ni nk)
 ·rw [Vm q]
  by_cases q1 : AU (h.spool.items.getD ni default).frm
  ·have b1 := Aq q1
   simp -implicitDefEqProofs only [Tryz.f221, b1, tn, go_sem, hh, seval]
   with_reducible repeat' (first | apply ai | intro _ | ((first | apply s1 | apply s2 | apply s3 | apply s4) <;> intro hb <;> simp -implicitDefEqProofs only [hb, go_sem, hh, seval] <;> try simp only [qz] at hb))
   all_goals (try simp only [maxLen] at *)
   all_goals first | with_reducible assumption | rfl | omega | contradiction | decide | (simp; done) | skip
  ·have b1 := AQ q1
   have b2 := AQ (q.resolve_left q1)
   simp -implicitDefEqProofs only [Tryz.f221, b1, b2, tn, go_sem, hh, seval]
   with_reducible repeat' (first | apply ai | intro _ | ((first | apply s1 | apply s2 | apply s3 | apply s4) <;> intro hb <;> simp -implicitDefEqProofs only [hb, go_sem, hh, seval] <;> try simp only [qz] at hb))
   all_goals (try simp only [maxLen] at *)
   all_goals first | with_reducible assumption | rfl | omega | contradiction | decide | (simp; done) | skip
 ·rw [Vl q]
  have q1 : ¬ AU (h.spool.items.getD ni default).frm := fun z => q (.inl z)
  have q2 : B4 (Cw h.spool ni nk) := Classical.byContradiction fun z => q (.inr z)
  have b1 := AQ q1
  have b2 := Aq q2
  simp -implicitDefEqProofs only [Tryz.f221, b1, b2, tn, go_sem, hh, seval]
  with_reducible repeat' (first | apply ai | intro _ | ((first | apply s1 | apply s2 | apply s3 | apply s4) <;> intro hb <;> simp -implicitDefEqProofs only [hb, go_sem, hh, seval] <;> try simp only [qz] at hb))
  all_goals (try simp only [maxLen] at *)
  all_goals first | with_reducible assumption | rfl | omega | contradiction | decide | skip
end
def O9 : Ct := At (lc GU.ag (lc BJ (lc Dd.ag (lc BJ (lc BJ l0))))) (fun p => F7 p.1.spool ∧ Bl p.1.spool ∧ ¬ A5 p.1.spool p.2.1 < 0 ∧ ¬ Bt (A1 p.1.spool p.2.1) p.2.2.1 < 0 ∧ (p.2.2.2.1 = 2 ∨ (IH p.1 ∧ 0 ≤ p.2.2.2.2.1 ∧ p.2.2.2.2.1 ≤ 9999))) (fun p => .agg ((Ah (CR p.1 (A5 p.1.spool p.2.1).toNat (Bt (A1 p.1.spool p.2.1) p.2.2.1).toNat p.2.2.1 p.2.2.2.1 p.2.2.2.2.1)).map .t))
section
attribute [local go_sem] O8 fG O7 UF gN KR Jb List.take_length List.drop_zero List.length_take List.length_drop lm List.length_append List.length_cons List.length_nil List.map_append List.map_nil List.map_cons List.nil_append Nat.zero_add List.mem_singleton forall_eq Bool.not_true Bool.not_false ar AS.opn AS.cls AS.nilb AS.renb AS.up List.set_set List.set_cons_zero List.set_cons_succ List.set_nil
set_option maxHeartbeats 3200000 in
theorem mh {G : Gt} (hG : Aj G) (hh : G.e 124 = AA 0 O8 ∧ G.e 125 = AA 0 fG ∧ G.e 113 = AA 1 O7 ∧ G.e 114 = AA 1 UF ∧ G.e 221 = AA 1 gN) : Gd G 205 (AA 1 O9) := by
 refine OW (dp := fun n => Nat.ble 100000 n) (fn := Tryz.f205) (n := 5) rfl hG ?_
 rintro ⟨h, n, a, out, w, ⟨⟩⟩ hpre
 obtain ⟨hos, hsp, hi, hk, hw'⟩ := hpre
 dsimp only at hos hsp hi hk hw' ⊢
 have hi' : ¬ (BF (fun x : Im => x.id = n) 0 h.spool.items) < 0 := hi
 obtain ⟨i0, i1⟩ := CK hi
 have i0' : 0 ≤ (BF (fun x : Im => x.id = n) 0 h.spool.items) := i0
 have i1' : (BF (fun x : Im => x.id = n) 0 h.spool.items) < h.spool.items.length := i1
 have hk' : ¬ (BF (fun r : Rc => r.addr = a) 0 (h.spool.items.getD (BF (fun x : Im => x.id = n) 0 h.spool.items).toNat default).to) < 0 := hk
 obtain ⟨k0, k1⟩ := Gg hk
 have k0' : 0 ≤ (BF (fun r : Rc => r.addr = a) 0 (h.spool.items.getD (BF (fun x : Im => x.id = n) 0 h.spool.items).toNat default).to) := k0
 have k1' : (BF (fun r : Rc => r.addr = a) 0 (h.spool.items.getD (BF (fun x : Im => x.id = n) 0 h.spool.items).toNat default).to) < (h.spool.items.getD (BF (fun x : Im => x.id = n) 0 h.spool.items).toNat default).to.length := k1
 have hadr : ((h.spool.items.getD (BF (fun x : Im => x.id = n) 0 h.spool.items).toNat default).to.getD (BF (fun r : Rc => r.addr = a) 0 (h.spool.items.getD (BF (fun x : Im => x.id = n) 0 h.spool.items).toNat default).to).toNat default).addr = a := FW hk
 obtain ⟨R, hR⟩ : ∃ x, x = CR h (A5 h.spool n).toNat (Bt (A1 h.spool n) a).toNat a out w := ⟨_, rfl⟩
 rw [← hR]
 by_cases o2 : out = 2
 ·have hR2 : R = ⟨h.conf, Cw h.spool (BF (fun x : Im => x.id = n) 0 h.spool.items).toNat (BF (fun r : Rc => r.addr = a) 0 (h.spool.items.getD (BF (fun x : Im => x.id = n) 0 h.spool.items).toNat default).to).toNat, h.boxes, h.lost⟩ := by rw [hR]; unfold CR; rw [if_pos o2]; rfl
  rw [hR2]
  have d2 := decide_eq_true o2
  simp -implicitDefEqProofs only [Tryz.f205, d2, go_sem, hh, seval]
  with_reducible repeat' (first | apply ai | intro _ | ((first | apply s1 | apply s2 | apply s3 | apply s4) <;> intro hb <;> simp -implicitDefEqProofs only [hb, go_sem, hh, seval] <;> try simp only [qz] at hb))
  all_goals first | with_reducible assumption | rfl | omega | contradiction | decide | skip
 ·have d2 := decide_eq_false o2
  obtain ⟨hok, hw⟩ := hw'.resolve_left o2
  by_cases o3 : out = 3
  ·have d3 := decide_eq_true o3
   by_cases hl : ME ((h.spool.items.getD (BF (fun x : Im => x.id = n) 0 h.spool.items).toNat default).to.getD (BF (fun r : Rc => r.addr = a) 0 (h.spool.items.getD (BF (fun x : Im => x.id = n) 0 h.spool.items).toNat default).to).toNat default) w
   ·have hR2 : R = GL h (h.spool.items.getD (BF (fun x : Im => x.id = n) 0 h.spool.items).toNat default) ((h.spool.items.getD (BF (fun x : Im => x.id = n) 0 h.spool.items).toNat default).to.getD (BF (fun r : Rc => r.addr = a) 0 (h.spool.items.getD (BF (fun x : Im => x.id = n) 0 h.spool.items).toNat default).to).toNat default).addr (BF (fun x : Im => x.id = n) 0 h.spool.items).toNat (BF (fun r : Rc => r.addr = a) 0 (h.spool.items.getD (BF (fun x : Im => x.id = n) 0 h.spool.items).toNat default).to).toNat w := by
      rw [hR, hadr]; unfold CR
      rw [if_neg o2, if_neg (fun z => z.2 hl)]; rfl
    have hS : I6 h.spool (BF (fun x : Im => x.id = n) 0 h.spool.items).toNat (BF (fun r : Rc => r.addr = a) 0 (h.spool.items.getD (BF (fun x : Im => x.id = n) 0 h.spool.items).toNat default).to).toNat w = (h.spool, false) := by unfold I6; rw [if_pos hl]
    rw [hR2]
    simp -implicitDefEqProofs only [Tryz.f205, d2, d3, hS, go_sem, hh, seval]
    with_reducible repeat' (first | apply ai | intro _ | ((first | apply s1 | apply s2 | apply s3 | apply s4) <;> intro hb <;> simp -implicitDefEqProofs only [hb, go_sem, hh, seval] <;> try simp only [qz] at hb))
    all_goals first | with_reducible assumption | rfl | omega | contradiction | decide | skip
   ·have hR2 : R = ⟨h.conf, Nm h.spool (BF (fun x : Im => x.id = n) 0 h.spool.items).toNat (BF (fun r : Rc => r.addr = a) 0 (h.spool.items.getD (BF (fun x : Im => x.id = n) 0 h.spool.items).toNat default).to).toNat w, h.boxes, h.lost⟩ := by
      rw [hR]; unfold CR
      rw [if_neg o2, if_pos ⟨o3, hl⟩]; rfl
    have hS : I6 h.spool (BF (fun x : Im => x.id = n) 0 h.spool.items).toNat (BF (fun r : Rc => r.addr = a) 0 (h.spool.items.getD (BF (fun x : Im => x.id = n) 0 h.spool.items).toNat default).to).toNat w = (Nm h.spool (BF (fun x : Im => x.id = n) 0 h.spool.items).toNat (BF (fun r : Rc => r.addr = a) 0 (h.spool.items.getD (BF (fun x : Im => x.id = n) 0 h.spool.items).toNat default).to).toNat w, true) := by unfold I6; rw [if_neg hl]
    rw [hR2]
    simp -implicitDefEqProofs only [Tryz.f205, d2, d3, hS, go_sem, hh, seval]
    with_reducible repeat' (first | apply ai | intro _ | ((first | apply s1 | apply s2 | apply s3 | apply s4) <;> intro hb <;> simp -implicitDefEqProofs only [hb, go_sem, hh, seval] <;> try simp only [qz] at hb))
    all_goals first | with_reducible assumption | rfl | omega | contradiction | decide | skip
  ·have d3 := decide_eq_false o3
   have hR2 : R = GL h (h.spool.items.getD (BF (fun x : Im => x.id = n) 0 h.spool.items).toNat default) ((h.spool.items.getD (BF (fun x : Im => x.id = n) 0 h.spool.items).toNat default).to.getD (BF (fun r : Rc => r.addr = a) 0 (h.spool.items.getD (BF (fun x : Im => x.id = n) 0 h.spool.items).toNat default).to).toNat default).addr (BF (fun x : Im => x.id = n) 0 h.spool.items).toNat (BF (fun r : Rc => r.addr = a) 0 (h.spool.items.getD (BF (fun x : Im => x.id = n) 0 h.spool.items).toNat default).to).toNat w := by
    rw [hR, hadr]; unfold CR
    rw [if_neg o2, if_neg (fun z => o3 z.1)]; rfl
   rw [hR2]
   simp -implicitDefEqProofs only [Tryz.f205, d2, d3, go_sem, hh, seval]
   with_reducible repeat' (first | apply ai | intro _ | ((first | apply s1 | apply s2 | apply s3 | apply s4) <;> intro hb <;> simp -implicitDefEqProofs only [hb, go_sem, hh, seval] <;> try simp only [qz] at hb))
   all_goals first | with_reducible assumption | rfl | omega | contradiction | decide | skip
end
def kS (bs : List Bx) (a : Ad) : Nat := (bs.takeWhile fun b => decide (If b.addr a < 0)).length
def oD (bs : List Bx) (a : Ad) : Prop := ∀ j, kS bs a ≤ j → j < bs.length → ¬ If (bs.getD j default).addr a < 0
theorem V1 (a : Ad) : ∀ (bs : List Bx), kS bs a ≤ bs.length
 | [] => by simp [kS]
 | b :: t => by
   have := V1 a t
   unfold kS at this ⊢
   rw [List.takeWhile_cons]
   split
   ·simpa using this
   ·try simp
theorem V2 (a : Ad) : ∀ (bs : List Bx) {j : Nat}, j < kS bs a → If (bs.getD j default).addr a < 0
 | [], j, h => by simp [kS] at h
 | b :: t, j, h => by
   unfold kS at h
   rw [List.takeWhile_cons] at h
   split at h
   ·rename_i hb
    cases j with
    | zero => simpa using hb
    | succ j =>
      have := V2 a t (j := j) (by unfold kS; simpa using h)
      simpa using this
   ·simp at h
theorem Q5 (a : Ad) : ∀ (bs : List Bx), kS bs a < bs.length → ¬ If (bs.getD (kS bs a) default).addr a < 0
 | [], h => by simp at h
 | b :: t, h => by
   by_cases hb : If b.addr a < 0
   ·have e : kS (b :: t) a = kS t a + 1 := by unfold kS; rw [List.takeWhile_cons, if_pos (decide_eq_true hb), List.length_cons]
    rw [e] at h ⊢
    have := Q5 a t (by simpa using h)
    simpa using this
   ·have e : kS (b :: t) a = 0 := by unfold kS; rw [List.takeWhile_cons, if_neg (by simpa using hb)]; rfl
    rw [e]
    simpa using hb
def Fn (bs : List Bx) (a : Ad) : Bool := decide (kS bs a < bs.length) && decide (If (bs.getD (kS bs a) default).addr a = 0)
theorem UD (a b : Ad) : If a b = 0 ↔ a = b := by
 unfold If
 obtain ⟨u, d⟩ := a
 obtain ⟨v, e⟩ := b
 by_cases h : ED d e = 0
 ·rw [if_pos h, GG]
  have := (GG _ _).1 h
  exact ⟨fun q => by have q : u = v := q; rw [q, this], fun q => by injection q⟩
 ·rw [if_neg h]
  exact ⟨fun q => absurd q h, fun q => by injection q with _ q; exact absurd ((GG _ _).2 q) h⟩
def EB (bs : List Bx) (a : Ad) (g : Gm) : List Bx :=
 if Fn bs a = true then bs.set (kS bs a) ⟨(bs.getD (kS bs a) default).addr, (bs.getD (kS bs a) default).mails ++ [g]⟩
 else bs.take (kS bs a) ++ (⟨a, [g]⟩ :: bs.drop (kS bs a))
theorem Gi {bs : List Bx} {a : Ad} {g : Gm} (h : Fn bs a = true) : EB bs a g = bs.set (kS bs a) ⟨(bs.getD (kS bs a) default).addr, (bs.getD (kS bs a) default).mails ++ [g]⟩ := if_pos h
theorem FY {bs : List Bx} {a : Ad} {g : Gm} (h : Fn bs a = false) : EB bs a g = bs.take (kS bs a) ++ (⟨a, [g]⟩ :: bs.drop (kS bs a)) := if_neg (by rw [h]; decide)
theorem L7 {bs : List Bx} {a : Ad} (h : Fn bs a = true) : kS bs a < bs.length := by
 unfold Fn at h
 simp only [Bool.and_eq_true, decide_eq_true_eq] at h
 exact h.1
def CW (s : Sp) (n : Int) (a : Ad) : Prop := ¬ A5 s n < 0 ∧ ¬ Bt (A1 s n) a < 0
theorem GY {s : Sp} {n : Int} {a : Ad} (q : CW s n a) : ∃ x ∈ s.items, x.id = n ∧ ∃ r ∈ x.to, r.addr = a := by
 have h1 := CK q.1
 have h2 := Gg q.2
 exact ⟨A1 s n, AC (by omega), FV q.1, _, AC (by omega), FW q.2⟩
theorem Q3 : ∀ {xs : List Im}, (xs.map Im.id).Pairwise (· < ·) → ∀ {x y : Im}, x ∈ xs → y ∈ xs → x.id = y.id → x = y
 | z :: t, h, x, y, hx, hy, e => by
   rw [List.map_cons, List.pairwise_cons] at h
   rcases List.mem_cons.1 hx with q | q
   ·rcases List.mem_cons.1 hy with r | r
    ·rw [q, r]
    ·have := h.1 _ (List.mem_map_of_mem (f := Im.id) r); rw [q] at e; omega
   ·rcases List.mem_cons.1 hy with r | r
    ·have := h.1 _ (List.mem_map_of_mem (f := Im.id) q); rw [r] at e; omega
    ·exact Q3 h.2 q r e
theorem FO {s : Sp} (h : Bl s) {x : Im} (hx : x ∈ s.items) {r : Rc} (hr : r ∈ x.to) : CW s x.id r.addr ∧ A1 s x.id = x := by
 have h1 : ¬ A5 s x.id < 0 := by
  have : 0 ≤ A5 s x.id := (Ee s.items 0).2 ⟨x, hx, rfl⟩
  omega
 have h2 := CK h1
 have h3 : A1 s x.id = x := Q3 (CX.1 h.2.1) (AC (by omega)) hx (FV h1)
 refine ⟨⟨h1, ?_⟩, h3⟩
 rw [h3]
 have : 0 ≤ Bt x r.addr := (Ee x.to 0).2 ⟨r, hr, rfl⟩
 omega
theorem QV {s : Sp} {n n' : Int} {a a' : Ad} (h : Bl s) (q : CW s n a) (q' : CW s n' a') (ne : ¬ (n = n' ∧ a = a')) : CW (Cw s (A5 s n).toNat (Bt (A1 s n) a).toNat) n' a' := by
 obtain ⟨x, hx, e1, r, hr, e2⟩ := GY q'
 have i1 := CK q.1
 have k1 := Gg q.2
 have ei := FV q.1
 have ek := FW q.2
 obtain ⟨i, hi⟩ : ∃ i, i = (A5 s n).toNat := ⟨_, rfl⟩
 obtain ⟨k, hk⟩ : ∃ k, k = (Bt (A1 s n) a).toNat := ⟨_, rfl⟩
 have hX : s.items.getD i default = A1 s n := by rw [hi]; rfl
 have hil : i < s.items.length := by omega
 have hkl : k < (s.items.getD i default).to.length := by rw [hX]; omega
 rw [← hi, ← hk]
 rw [← hk] at ek
 have hok := EE h hil hkl
 suffices hs : ∃ y ∈ (Cw s i k).items, y.id = n' ∧ ∃ r ∈ y.to, r.addr = a' by
  obtain ⟨y, hy, f1, r, hr, f2⟩ := hs
  rw [← f1, ← f2]
  exact (FO hok hy hr).1
 show ∃ y ∈ TR s.items i k, y.id = n' ∧ ∃ r ∈ y.to, r.addr = a'
 have hx2 := hx
 rw [PE hil] at hx2
 have hout : x ∈ s.items.take i ++ s.items.drop (i + 1) → ∃ y ∈ TR s.items i k, y.id = n' ∧ ∃ r ∈ y.to, r.addr = a' := fun hm => by
  refine ⟨x, ?_, e1, r, hr, e2⟩
  unfold TR
  split
  ·exact hm
  ·rcases List.mem_append.1 hm with hm | hm
   ·exact List.mem_append_left _ hm
   ·exact List.mem_append_right _ (List.mem_cons_of_mem _ hm)
 rcases List.mem_append.1 hx2 with hm | hm
 ·exact hout (List.mem_append_left _ hm)
 ·rcases List.mem_cons.1 hm with hm | hm
  ·rw [hX] at hm
   subst hm
   have hr2 := hr
   rw [PE (xs := (A1 s n).to) (i := k) (by rw [← hX]; exact hkl)] at hr2
   have hin : r ∈ (Hc (A1 s n) k).to := by
    show r ∈ (A1 s n).to.take k ++ (A1 s n).to.drop (k + 1)
    rcases List.mem_append.1 hr2 with hm | hm
    ·exact List.mem_append_left _ hm
    ·rcases List.mem_cons.1 hm with hm | hm
     ·exact absurd ⟨ei.symm.trans e1, by rw [← e2, hm]; exact ek.symm⟩ ne
     ·exact List.mem_append_right _ hm
   refine ⟨Hc (A1 s n) k, ?_, e1, r, hin, e2⟩
   unfold TR
   rw [hX, if_neg (fun e => by rw [e] at hin; cases hin)]
   exact List.mem_append_right _ (by simp)
  ·exact hout (List.mem_append_right _ hm)
theorem Ij : ∀ a b : List UInt8, Lib.compareBytes b a = - Lib.compareBytes a b
 | [], [] => by simp [Lib.compareBytes]
 | [], _ :: _ => by simp [Lib.compareBytes]
 | _ :: _, [] => by simp [Lib.compareBytes]
 | a :: x, b :: y => by
   have ih := Ij x y
   simp only [Lib.compareBytes]
   by_cases h1 : a < b
   ·have h2 : ¬ b < a := fun h => absurd (UInt8.lt_trans h1 h) (UInt8.lt_irrefl _)
    simp [h1, h2]
   ·by_cases h2 : b < a
    ·simp [h1, h2]
    ·simp [h1, h2, ih]
theorem HY : ∀ a b c : List UInt8, Lib.compareBytes a b < 0 → Lib.compareBytes b c < 0 → Lib.compareBytes a c < 0
 | [], b, [], h1, h2 => by
   have := Ij [] b
   rw [this] at h2; omega
 | [], _, _ :: _, _, _ => by simp [Lib.compareBytes]
 | _ :: _, [], _, h1, _ => by simp [Lib.compareBytes] at h1
 | _ :: _, _ :: _, [], _, h2 => by simp [Lib.compareBytes] at h2
 | a :: x, b :: y, c :: z, h1, h2 => by
   have ih := HY x y z
   simp only [Lib.compareBytes] at h1 h2 ⊢
   by_cases e1 : a < b
   ·by_cases e2 : b < c
    ·rw [if_pos (UInt8.lt_trans e1 e2)]; decide
    ·rw [if_neg e2] at h2
     split at h2
     ·omega
     ·have : b = c := UInt8.le_antisymm (UInt8.not_lt.1 (by assumption)) (UInt8.not_lt.1 e2)
      rw [← this, if_pos e1]; decide
   ·rw [if_neg e1] at h1
    split at h1
    ·omega
    ·have e3 : a = b := UInt8.le_antisymm (UInt8.not_lt.1 (by assumption)) (UInt8.not_lt.1 e1)
     subst e3
     split
     ·decide
     ·rename_i q
      rw [if_neg q] at h2
      split at h2
      ·omega
      ·rename_i q2
       rw [if_neg q2]
       exact ih h1 h2
theorem Y5 (a b : Ad) : If b a = - If a b := by
 unfold If ED
 rw [Ij (bl a.domain) (bl b.domain), Ij (bl a.user) (bl b.user)]
 by_cases h : Lib.compareBytes (bl a.domain) (bl b.domain) = 0
 ·rw [if_pos h, if_pos (by omega)]
 ·rw [if_neg h, if_neg (by omega)]
theorem LA {a b c : Ad} (h1 : If a b < 0) (h2 : If b c < 0) : If a c < 0 := by
 unfold If at *
 by_cases e1 : ED a.domain b.domain = 0
 ·have f1 := (GG _ _).1 e1
  rw [if_pos e1] at h1
  rw [f1]
  by_cases e2 : ED b.domain c.domain = 0
  ·rw [if_pos e2] at h2 ⊢
   exact HY _ _ _ h1 h2
  ·rw [if_neg e2] at h2 ⊢
   exact h2
 ·rw [if_neg e1] at h1
  by_cases e2 : ED b.domain c.domain = 0
  ·have f2 := (GG _ _).1 e2
   rw [← f2, if_neg e1]
   exact h1
  ·rw [if_neg e2] at h2
   have h3 : ED a.domain c.domain < 0 := HY _ _ _ h1 h2
   rw [if_neg (by omega)]
   exact h3
def I7 (bs : List Bx) : Prop := bs.Pairwise fun b c => If b.addr c.addr < 0
theorem Oh {bs : List Bx} (h : I7 bs) (a : Ad) : oD bs a := fun j h1 h2 hb => by
 have h3 : kS bs a < bs.length := by omega
 have h4 := Q5 a bs h3
 by_cases e : j = kS bs a
 ·rw [e] at hb; exact h4 hb
 ·have h5 := List.pairwise_iff_getElem.1 h (kS bs a) j h3 h2 (by omega)
  have g1 : bs.getD (kS bs a) default = bs[kS bs a] := by simp [h3]
  have g2 : bs.getD j default = bs[j] := by simp [h2]
  rw [g1] at h4
  rw [g2] at hb
  exact h4 (LA h5 hb)
theorem JP {bs : List Bx} {a : Ad} {g : Gm} (h : I7 bs) : I7 (EB bs a g) := by
 cases hf : Fn bs a
 ·rw [FY hf]
  have hp := Oh h a
  have hb : I7 (bs.take (kS bs a) ++ bs.drop (kS bs a)) := by rw [List.take_append_drop]; exact h
  obtain ⟨p1, p2, p3⟩ := List.pairwise_append.1 hb
  have lo : ∀ b ∈ bs.take (kS bs a), If b.addr a < 0 := fun b hm => by
   obtain ⟨j, hj, rfl⟩ := List.getElem_of_mem hm
   rw [List.length_take] at hj
   have := V2 a bs (j := j) (by omega)
   rw [List.getElem_take]
   simpa [show j < bs.length by omega] using this
  have hi : ∀ b ∈ bs.drop (kS bs a), If a b.addr < 0 := fun b hm => by
   obtain ⟨j, hj, rfl⟩ := List.getElem_of_mem hm
   rw [List.length_drop] at hj
   have hk : kS bs a < bs.length := by omega
   have n1 := hp (kS bs a + j) (by omega) (by omega)
   have g2 : bs.getD (kS bs a + j) default = bs[kS bs a + j] := by simp [show kS bs a + j < bs.length by omega]
   rw [g2] at n1
   rw [List.getElem_drop]
   have n2 := Y5 a (bs[kS bs a + j]).addr
   by_cases z : If (bs[kS bs a + j]).addr a = 0
   ·exfalso
    by_cases hj0 : j = 0
    ·subst hj0
     unfold Fn at hf
     simp only [Bool.and_eq_false_iff, decide_eq_false_iff_not] at hf
     rcases hf with hf | hf
     ·exact hf hk
     ·exact hf (by rw [← z]; simp [hk])
    ·have h5 := List.pairwise_iff_getElem.1 h (kS bs a) (kS bs a + j) hk (by omega) (by omega)
     have e := (UD _ _).1 z
     rw [e] at h5
     have n3 := Q5 a bs hk
     have g1 : bs.getD (kS bs a) default = bs[kS bs a] := by simp [hk]
     rw [g1] at n3
     exact n3 h5
   ·omega
  exact List.pairwise_append.2 ⟨p1, List.pairwise_cons.2 ⟨hi, p2⟩, fun b hb c hc => by
   rcases List.mem_cons.1 hc with rfl | hc
   ·exact lo b hb
   ·exact p3 b hb c hc⟩
 ·rw [Gi hf]
  have hlt := L7 hf
  have h' : (bs.map Bx.addr).Pairwise fun x y => If x y < 0 := List.pairwise_map.2 h
  have e : (bs.set (kS bs a) ⟨(bs.getD (kS bs a) default).addr, (bs.getD (kS bs a) default).mails ++ [g]⟩).map Bx.addr = bs.map Bx.addr := by
   rw [List.map_set]
   have : (⟨(bs.getD (kS bs a) default).addr, (bs.getD (kS bs a) default).mails ++ [g]⟩ : Bx).addr = (bs.map Bx.addr)[kS bs a]'(by rw [lm]; exact hlt) := by
    rw [List.getElem_map]
    show (bs.getD (kS bs a) default).addr = _
    simp [hlt]
   rw [this, List.set_getElem_self]
  exact List.pairwise_map.1 (e ▸ h')
theorem ND {bs : List Bx} (h : ∀ j, 0 < j → j < bs.length → Tt (bs.getD (j - 1) default).addr (bs.getD j default).addr) : I7 bs := by
 refine List.pairwise_iff_getElem.2 fun i j hi hj hij => ?_
 induction j with
 | zero => omega
 | succ j ih =>
   have h1 := (HU _ _).2 (h (j + 1) (by omega) hj)
   simp only [Nat.add_sub_cancel, List.getD_eq_getElem?_getD, List.getElem?_eq_getElem hj, List.getElem?_eq_getElem (show j < bs.length by omega), Option.getD_some] at h1
   by_cases e : i = j
   ·subst e; exact h1
   ·exact LA (ih (by omega) (by omega)) h1
theorem K8 (bs : List Bx) (a : Ad) (g : Gm) : (EB bs a g).length ≤ bs.length + 1 := by
 have := V1 a bs
 cases hf : Fn bs a
 ·rw [FY hf]; simp only [List.length_append, List.length_take, List.length_cons, List.length_drop]; omega
 ·rw [Gi hf, List.length_set]; omega
theorem Hz {bs : List Bx} {a : Ad} {g : Gm} {M : Nat} (h : ∀ b ∈ bs, b.mails.length ≤ M) : ∀ b ∈ EB bs a g, b.mails.length ≤ M + 1 := fun b hb => by
 cases hf : Fn bs a
 ·rw [FY hf] at hb
  rcases List.mem_append.1 hb with hb | hb
  ·have := h b (List.mem_of_mem_take hb); omega
  ·rcases List.mem_cons.1 hb with hb | hb
   ·rw [hb]; show 1 ≤ M + 1; omega
   ·have := h b (List.mem_of_mem_drop hb); omega
 ·rw [Gi hf] at hb
  rcases List.mem_or_eq_of_mem_set hb with hb | hb
  ·have := h b hb; omega
  ·rw [hb]
   have := h _ (AC (L7 hf))
   show (_ ++ [g]).length ≤ _
   rw [List.length_append, List.length_singleton]; omega
noncomputable def Gq (h : Hs) (x : Im) (a : Ad) : Hs := ⟨h.conf, (QT h.spool x.id a).1, EB h.boxes a ⟨x.frm, x.body⟩, h.lost⟩
noncomputable def Jq (x : Im) : List Ad → Hs → Hs
 | [], h => h
 | a :: r, h => Jq x r (Gq h x a)
noncomputable def Do (c : Cf) (w : Int) : List Im → Hs → Hs
 | [], h => h
 | x :: t, h => Do c w t (Jq x (A4 c ⟨#[]⟩ w x.to) h)
noncomputable def P6 (c : Cf) (w : Int) (x : Im) (rs : List Rc) : List (Int × Ad) := (A4 c ⟨#[]⟩ w rs).map fun a => (x.id, a)
noncomputable def GB (c : Cf) (w : Int) : List Im → List (Int × Ad)
 | [] => []
 | x :: t => P6 c w x x.to ++ GB c w t
structure Kp (c : Cf) (g : Hs) (R : List (Int × Ad)) : Prop where
 cf : g.conf = c
 sp : Bl g.spool
 os : F7 g.spool
 so : I7 g.boxes
 td : ∀ p ∈ R, CW g.spool p.1 p.2
 nd : R.Nodup
 b1 : g.boxes.length + R.length ≤ 3000000
 b2 : ∀ b ∈ g.boxes, b.mails.length + R.length ≤ 3000000
theorem Kp.done {c : Cf} {g : Hs} {x : Im} {a : Ad} {R : List (Int × Ad)} (h : Kp c g ((x.id, a) :: R)) : QT g.spool x.id a = (Cw g.spool (A5 g.spool x.id).toNat (Bt (A1 g.spool x.id) a).toNat, true) :=
 YP h.sp (h.td (x.id, a) (by simp)).1 (h.td (x.id, a) (by simp)).2
theorem Kp.step {c : Cf} {g : Hs} {x : Im} {a : Ad} {R : List (Int × Ad)} (h : Kp c g ((x.id, a) :: R)) : Kp c (Gq g x a) R := by
 have q : CW g.spool x.id a := h.td (x.id, a) (by simp)
 have i1 := CK q.1
 have k1 := Gg q.2
 have hD := h.done
 have hil : (A5 g.spool x.id).toNat < g.spool.items.length := by omega
 have hkl : (Bt (A1 g.spool x.id) a).toNat < (g.spool.items.getD (A5 g.spool x.id).toNat default).to.length := by
  show _ < (A1 g.spool x.id).to.length
  omega
 have hs : (Gq g x a).spool = Cw g.spool (A5 g.spool x.id).toNat (Bt (A1 g.spool x.id) a).toNat := by unfold Gq; rw [hD]
 have hb1 := h.b1
 rw [List.length_cons] at hb1
 refine ⟨h.cf, by rw [hs]; exact EE h.sp hil hkl, by rw [hs]; exact Qv h.os hil, JP h.so, fun p hp => ?_, (List.nodup_cons.1 h.nd).2, ?_, fun b hb => ?_⟩
 ·rw [hs]
  refine QV h.sp q (h.td p (List.mem_cons_of_mem _ hp)) fun e => (List.nodup_cons.1 h.nd).1 ?_
  obtain ⟨p1, p2⟩ := p
  rw [e.1, e.2]; exact hp
 ·have := K8 g.boxes a ⟨x.frm, x.body⟩
  show (EB _ _ _).length + _ ≤ _
  omega
 ·have := Hz (M := 3000000 - (R.length + 1)) (g := ⟨x.frm, x.body⟩) (a := a) (fun b hb => by have := h.b2 b hb; rw [List.length_cons] at this; omega) b hb
  omega
theorem rd {c : Cf} {w : Int} {x : Im} {rs : List Rc} {i : Nat} (h : i < rs.length) (hn : IG c ⟨#[]⟩ w (rs.getD i default)) : P6 c w x (rs.drop i) = (x.id, (rs.getD i default).addr) :: P6 c w x (rs.drop (i + 1)) := by
 unfold P6; rw [P4 h hn]; rfl
theorem rc {c : Cf} {w : Int} {x : Im} {rs : List Rc} {i : Nat} (h : i < rs.length) (hn : ¬ IG c ⟨#[]⟩ w (rs.getD i default)) : P6 c w x (rs.drop i) = P6 c w x (rs.drop (i + 1)) := by
 unfold P6; rw [P3 h hn]
theorem an {c : Cf} {w : Int} {x : Im} {rs : List Rc} {i : Nat} (h : rs.length ≤ i) : P6 c w x (rs.drop i) = [] := by
 unfold P6; rw [J6 h]; rfl
theorem R1 {c : Cf} {w : Int} {xs : List Im} {i : Nat} (h : i < xs.length) : GB c w (xs.drop i) = P6 c w (xs.getD i default) (xs.getD i default).to ++ GB c w (xs.drop (i + 1)) := by
 rw [AW h]; rfl
theorem Pi {c : Cf} {w : Int} {xs : List Im} {i : Nat} {g : Hs} (h : i < xs.length) : Do c w (xs.drop i) g = Do c w (xs.drop (i + 1)) (Jq (xs.getD i default) (A4 c ⟨#[]⟩ w (xs.getD i default).to) g) := by
 rw [AW h]; rfl
theorem J7 (c : Cf) (w : Int) : ∀ rs : List Rc, List.Sublist (A4 c ⟨#[]⟩ w rs) (rs.map Rc.addr)
 | [] => .slnil
 | r :: t => by
   rw [A4]
   cases BT (IG c ⟨#[]⟩ w r)
   ·exact .cons _ (J7 c w t)
   ·exact .cons_cons _ (J7 c w t)
theorem JL {c : Cf} {w : Int} : ∀ {xs : List Im} {p : Int × Ad}, p ∈ GB c w xs → ∃ x ∈ xs, p.1 = x.id ∧ ∃ r ∈ x.to, r.addr = p.2
 | x :: t, p, h => by
   rw [GB] at h
   rcases List.mem_append.1 h with h | h
   ·unfold P6 at h
    obtain ⟨a, ha, rfl⟩ := List.mem_map.1 h
    obtain ⟨r, hr, e, _⟩ := EN c ⟨#[]⟩ w _ a ha
    exact ⟨x, by simp, rfl, r, hr, e⟩
   ·obtain ⟨y, hy, q⟩ := JL h
    exact ⟨y, by simp [hy], q⟩
theorem JM {c : Cf} {w : Int} : ∀ {xs : List Im}, (xs.map Im.id).Pairwise (· < ·) → (∀ x ∈ xs, (x.to.map Rc.addr).Nodup) → (GB c w xs).Nodup
 | [], _, _ => List.nodup_nil
 | x :: t, h1, h2 => by
   rw [List.map_cons, List.pairwise_cons] at h1
   rw [GB]
   refine List.nodup_append.2 ⟨?_, JM h1.2 fun y hy => h2 y (by simp [hy]), fun p hp q hq e => ?_⟩
   ·unfold P6
    have h3 := (J7 c w x.to).nodup (h2 x (by simp))
    exact List.pairwise_map.2 (h3.imp fun {a b} ne e => ne (by injection e))
   ·subst e
    unfold P6 at hp
    obtain ⟨a, _, rfl⟩ := List.mem_map.1 hp
    obtain ⟨y, hy, e, _⟩ := JL hq
    have := h1.1 y.id (List.mem_map_of_mem hy)
    have e : x.id = y.id := e
    omega
theorem NE {c : Cf} {w : Int} : ∀ {xs : List Im}, (∀ x ∈ xs, x.to.length ≤ 4) → (GB c w xs).length ≤ 4 * xs.length
 | [], _ => by simp [GB]
 | x :: t, h => by
   rw [GB, List.length_append, List.length_cons]
   have h1 := NE (c := c) (w := w) fun y hy => h y (List.mem_cons_of_mem x hy)
   have h2 := FF c ⟨#[]⟩ w x.to
   have h3 := h x (by simp)
   have h4 : (P6 c w x x.to).length = (A4 c ⟨#[]⟩ w x.to).length := lm _
   omega
theorem Mu {h : Hs} {w : Int} (q : Fk h) (ok : IH h) : Kp h.conf h (GB h.conf w h.spool.items) := by
 obtain ⟨q1, q2, q3⟩ := q
 have hl := NE (c := h.conf) (w := w) (xs := h.spool.items) fun x hx => (q3.1 x hx).1.2.2.2.2.1.2
 have h10 := q3.2.2.2
 have hb := ok.2.2.1
 refine ⟨rfl, q3, ok.2.1, ND fun j h0 hj => (q1 j hj).2.1 h0, fun p hp => ?_, JM (CX.1 q3.2.1) fun x hx => (q3.1 x hx).1.2.1, ?_, fun b hbm => ?_⟩
 ·obtain ⟨x, hx, e, r, hr, e2⟩ := JL hp
  rw [e, ← e2]
  exact (FO q3 hx hr).1
 ·have : (h.boxes.length : Int) ≤ 1048576 := hb.1
  omega
 ·have : (b.mails.length : Int) ≤ 1048576 := (hb.2 b hbm).2.1
  omega
def f9 : Ct := At (lc GU.ag (lc Dd.ag (lc I1.ag l0))) (fun p => p.1.boxes.length ≤ 3000000 ∧ (∀ b ∈ p.1.boxes, b.mails.length ≤ 3000000) ∧ p.2.2.1.body.length ≤ 3000000) (fun p => .agg ((Ah ⟨p.1.conf, p.1.spool, EB p.1.boxes p.2.1 ⟨p.2.2.1.frm, p.2.2.1.body⟩, p.1.lost⟩).map .t))
section
attribute [local go_sem] UK KR Jb List.take_length List.drop_zero List.length_take List.length_drop lm List.length_append List.length_cons List.length_nil List.map_append List.map_nil List.map_cons List.nil_append Nat.zero_add List.mem_singleton forall_eq Bool.not_true Bool.not_false Ac Ab AS.opn AS.cls AS.nilb AS.renb AS.up List.set_set List.set_cons_zero List.set_cons_succ List.set_nil
set_option maxHeartbeats 3200000 in
theorem mm {G : Gt} (hG : Aj G) (hh : G.e 138 = AA 0 UK) : Gd G 209 (AA 1 f9) := by
 refine OW (dp := fun n => Nat.ble 100000 n) (fn := Tryz.f209) (n := 3) rfl hG ?_
 rintro ⟨h, a, x, ⟨⟩⟩ hpre
 obtain ⟨hl1, hl2, hl3⟩ := hpre
 dsimp only at hl1 hl2 hl3 ⊢
 have hkl := V1 a h.boxes
 simp -implicitDefEqProofs only [Tryz.f209, go_sem, hh, seval]
 with_reducible repeat' (first | apply ai | intro _ | ((first | apply s1 | apply s2 | apply s3 | apply s4) <;> intro hb <;> simp -implicitDefEqProofs only [hb, go_sem, hh, seval] <;> try simp only [qz] at hb))
 all_goals (try simp only [maxLen] at *)
 all_goals first | with_reducible assumption | rfl | omega | contradiction | decide | skip
 refine AE [] (ι := {i : Nat // i ≤ kS h.boxes a}) (fun p => ⟨[(3, .pb 1003 0), (4, .pb 1004 0), (5, .pb 1005 0), (6, .pb 1006 0), (7, .t (.v (.int .i64 p.1)))], [(1003, some (.box ((Ah h).map .t))), (1004, some (.box ((Aw a).map .t))), (1005, some (.box ((Ay x).map .t))), (1006, some (.box [.t (.v (.string ⟨#[]⟩)), .nil, .nil, .t (.v (.int .i64 0)), .nil, .nil, .nil]))]⟩) (fun p => kS h.boxes a - p.1) ⟨0, Nat.zero_le _⟩ rfl ?_ ?_
 ·simp -implicitDefEqProofs only [go_sem, hh, seval]
  try simp
 ·rintro ⟨i, hi⟩
  dsimp only at hi ⊢
  by_cases hlt : i < kS h.boxes a
  ·have hil : (i : Int) < h.boxes.length := by omega
   have b1 := Aq ((HU _ _).1 (V2 a h.boxes hlt))
   simp -implicitDefEqProofs only [hil, b1, decide_true, tn, go_sem, hh, seval]
   with_reducible repeat' (first | apply ai | intro _ | ((first | apply s1 | apply s2 | apply s3 | apply s4) <;> intro hb <;> simp -implicitDefEqProofs only [hb, go_sem, hh, seval] <;> try simp only [qz] at hb))
   all_goals (try simp only [maxLen] at *)
   all_goals first | with_reducible assumption | rfl | omega | contradiction | decide | skip
   refine ⟨⟨i + 1, by omega⟩, by dsimp only; omega, ?_⟩
   simp -implicitDefEqProofs only [go_sem, hh, seval]
   try simp
  ·have hk : i = kS h.boxes a := by omega
   have e1 : ((i : Int) + 1).toNat = i + 1 := by omega
   by_cases hil : (i : Int) < h.boxes.length
   ·have hkb : kS h.boxes a < h.boxes.length := by omega
    have b1 := AQ (fun z => Q5 a h.boxes hkb ((HU _ _).2 z))
    rw [← hk] at b1
    have hml := hl2 _ (AC (xs := h.boxes) (j := i) (by omega))
    by_cases hf : (h.boxes.getD i default).addr = a
    ·have hF : Fn h.boxes a = true := by
       unfold Fn
       rw [decide_eq_true hkb, ← hk, decide_eq_true ((UD _ _).2 hf)]; rfl
     have hB : EB h.boxes a ⟨x.frm, x.body⟩ = h.boxes.set i ⟨(h.boxes.getD i default).addr, (h.boxes.getD i default).mails ++ [⟨x.frm, x.body⟩]⟩ := by rw [Gi hF, ← hk]
     rw [hB]
     have he : (false != (decide ((h.boxes.getD i default).addr.user = a.user) && decide ((h.boxes.getD i default).addr.domain = a.domain))) = true := by rw [hf]; simp
     rw [hf]
     simp -implicitDefEqProofs only [hil, b1, he, decide_true, tn, e1, go_sem, hh, seval]
     with_reducible repeat' (first | apply ai | intro _ | ((first | apply s1 | apply s2 | apply s3 | apply s4) <;> intro hb <;> simp -implicitDefEqProofs only [hb, go_sem, hh, seval] <;> try simp only [qz] at hb))
     all_goals (try simp only [maxLen, e1, tn, List.take_length, List.drop_zero] at *)
     all_goals first | with_reducible assumption | rfl | omega | contradiction | decide | (refine congrArg (T.sl 3) ?_; first | (simp; done) | (rw [List.set_eq_take_append_cons_drop, if_pos (by omega)]; simp [CF, DS]; done)) | skip
    ·have he : (false != (decide ((h.boxes.getD i default).addr.user = a.user) && decide ((h.boxes.getD i default).addr.domain = a.domain))) = false := by
       cases hq : (decide ((h.boxes.getD i default).addr.user = a.user) && decide ((h.boxes.getD i default).addr.domain = a.domain))
       ·rfl
       ·simp only [Bool.and_eq_true, decide_eq_true_eq] at hq
        exact absurd (show (⟨(h.boxes.getD i default).addr.user, (h.boxes.getD i default).addr.domain⟩ : Ad) = a by rw [hq.1, hq.2]) hf
     have hF : Fn h.boxes a = false := by
      unfold Fn
      rw [decide_eq_true hkb, ← hk, decide_eq_false (fun z => hf ((UD _ _).1 z))]; rfl
     have hB : EB h.boxes a ⟨x.frm, x.body⟩ = h.boxes.take i ++ (⟨a, [⟨x.frm, x.body⟩]⟩ :: h.boxes.drop i) := by rw [FY hF, ← hk]
     rw [hB]
     simp -implicitDefEqProofs only [hil, b1, he, decide_true, tn, e1, go_sem, hh, seval]
     with_reducible repeat' (first | apply ai | intro _ | ((first | apply s1 | apply s2 | apply s3 | apply s4) <;> intro hb <;> simp -implicitDefEqProofs only [hb, go_sem, hh, seval] <;> try simp only [qz] at hb))
     all_goals (try simp only [maxLen, e1, tn, List.take_length, List.drop_zero] at *)
     all_goals first | with_reducible assumption | rfl | omega | contradiction | decide | (refine congrArg (T.sl 3) ?_; first | (simp; done) | (rw [List.set_eq_take_append_cons_drop, if_pos (by omega)]; simp [CF, DS]; done)) | skip
   ·have hF : Fn h.boxes a = false := by
      unfold Fn
      rw [decide_eq_false (by omega)]; rfl
    have hB : EB h.boxes a ⟨x.frm, x.body⟩ = h.boxes.take i ++ (⟨a, [⟨x.frm, x.body⟩]⟩ :: h.boxes.drop i) := by rw [FY hF, ← hk]
    rw [hB]
    simp -implicitDefEqProofs only [hil, decide_false, tn, e1, go_sem, hh, seval]
    with_reducible repeat' (first | apply ai | intro _ | ((first | apply s1 | apply s2 | apply s3 | apply s4) <;> intro hb <;> simp -implicitDefEqProofs only [hb, go_sem, hh, seval] <;> try simp only [qz] at hb))
    all_goals (try simp only [maxLen, e1, tn, List.take_length, List.drop_zero] at *)
    all_goals first | with_reducible assumption | rfl | omega | contradiction | decide | (refine congrArg (T.sl 3) ?_; simp; done) | skip
end
theorem Wp {g : Hs} {x : Im} {a : Ad} {w : Int} {R : List (Int × Ad)} (h : Kp g.conf g ((x.id, a) :: R)) : CR ⟨g.conf, g.spool, EB g.boxes a ⟨x.frm, x.body⟩, g.lost⟩ (A5 g.spool x.id).toNat (Bt (A1 g.spool x.id) a).toNat a 2 w = Gq g x a := by
 unfold CR
 rw [if_pos rfl]
 unfold Gq
 rw [h.done]
def fy : Ct := At (lc GU.ag (lc BJ l0)) (fun p => Fk p.1 ∧ IH p.1) (fun p => .agg ((Ah (Do p.1.conf p.2.1 p.1.spool.items p.1)).map .t))
section
attribute [local go_sem] UQ f9 O9 KR Jb List.take_length List.drop_zero List.length_take List.length_drop lm List.length_append List.length_cons List.length_nil List.map_append List.map_nil List.map_cons List.nil_append Nat.zero_add List.mem_singleton forall_eq Bool.not_true Bool.not_false Ac Ab AS.opn AS.cls AS.nilb AS.renb AS.up List.set_set List.set_cons_zero List.set_cons_succ List.set_nil
set_option maxHeartbeats 6400000 in
theorem mY {G : Gt} (hG : Aj G) (hh : G.e 208 = AA 0 UQ ∧ G.e 209 = AA 1 f9 ∧ G.e 205 = AA 1 O9) : Gd G 191 (AA 1 fy) := by
 refine OW (dp := fun n => Nat.ble 100000 n) (fn := Tryz.f191) (n := 2) rfl hG ?_
 rintro ⟨h, w, ⟨⟩⟩ hpre
 obtain ⟨hq, hok⟩ := hpre
 dsimp only at hq hok ⊢
 have hmx : (h.spool.items.length : Int) ≤ 1048576 := hok.2.1.1
 simp -implicitDefEqProofs only [Tryz.f191, go_sem, hh, seval]
 with_reducible repeat' (first | apply ai | intro _ | ((first | apply s1 | apply s2 | apply s3 | apply s4) <;> intro hb <;> simp -implicitDefEqProofs only [hb, go_sem, hh, seval] <;> try simp only [qz] at hb))
 all_goals (try simp only [maxLen] at *)
 all_goals first | with_reducible assumption | rfl | omega | contradiction | decide | skip
 refine AE [] (ι := {p : Nat × Hs // p.1 ≤ h.spool.items.length ∧ Kp h.conf p.2 (GB h.conf w (h.spool.items.drop p.1)) ∧ Do h.conf w h.spool.items h = Do h.conf w (h.spool.items.drop p.1) p.2}) (fun p => ⟨[(1, .t (.v (.int .i64 w))), (2, .pb 1002 0), (4, .pb 1004 0), (5, .t (.sl 5 (h.spool.items.map Ay))), (6, .t (.v (.int .i64 p.1.1)))], [(1002, some (.box ((Ah p.1.2).map .t))), (1004, some (.box [.t (.v (.string ⟨#[]⟩)), .nil, .nil, .t (.v (.int .i64 0)), .nil, .nil, .nil]))]⟩) (fun p => h.spool.items.length - p.1.1) ⟨(0, h), Nat.zero_le _, Mu hq hok, rfl⟩ rfl ?_ ?_
 ·simp -implicitDefEqProofs only [go_sem, hh, seval]
  try simp
 ·rintro ⟨⟨i, g⟩, hi, hK, he⟩
  dsimp only at hi hK he ⊢
  by_cases hlt : (i : Int) < h.spool.items.length
  ·have hil : i < h.spool.items.length := by omega
   obtain ⟨x, hx⟩ : ∃ x, x = h.spool.items.getD i default := ⟨_, rfl⟩
   have hxo := hok.2.1.2 _ (AC hil)
   rw [← hx] at hxo
   have hxl : (x.to.length : Int) ≤ 1048576 := hxo.2.1.1
   have hxb : (x.body.length : Int) ≤ 1048576 := hxo.2.2.1
   rw [R1 hil, ← hx] at hK
   rw [Pi hil, ← hx] at he
   simp -implicitDefEqProofs only [hlt, decide_true, tn, ← hx, go_sem, hh, seval]
   with_reducible repeat' (first | apply ai | intro _ | ((first | apply s1 | apply s2 | apply s3 | apply s4) <;> intro hb <;> simp -implicitDefEqProofs only [hb, go_sem, hh, seval] <;> try simp only [qz] at hb))
   all_goals (try simp only [maxLen] at *)
   all_goals first | with_reducible assumption | rfl | omega | contradiction | decide | skip
   refine AE [] (ι := {p : Nat × Hs // p.1 ≤ x.to.length ∧ Kp h.conf p.2 (P6 h.conf w x (x.to.drop p.1) ++ GB h.conf w (h.spool.items.drop (i + 1))) ∧ Do h.conf w h.spool.items h = Do h.conf w (h.spool.items.drop (i + 1)) (Jq x (A4 h.conf ⟨#[]⟩ w (x.to.drop p.1)) p.2)}) (fun p => ⟨[(1, .t (.v (.int .i64 w))), (2, .pb 1002 0), (4, .pb 1004 0), (5, .t (.sl 5 (h.spool.items.map Ay))), (6, .t (.v (.int .i64 i))), (7, .t (.v (.int .i64 p.1.1)))], [(1002, some (.box ((Ah p.1.2).map .t))), (1004, some (.box [.t (.v (.string ⟨#[]⟩)), .nil, .nil, .t (.v (.int .i64 0)), .nil, .nil, .nil]))]⟩) (fun p => x.to.length - p.1.1) ⟨(0, g), Nat.zero_le _, hK, he⟩ rfl ?_ ?_
   ·simp -implicitDefEqProofs only [go_sem, hh, seval]
    try simp
   ·rintro ⟨⟨k, g⟩, hk, hK, he⟩
    dsimp only at hk hK he ⊢
    by_cases hlk : (k : Int) < x.to.length
    ·have hkl : k < x.to.length := by omega
     have hcf := hK.cf
     by_cases hn : IG h.conf ⟨#[]⟩ w (x.to.getD k default)
     ·have b1 := Aq hn
      rw [← hcf] at b1
      rw [rd hkl hn, List.cons_append] at hK
      rw [P4 hkl hn] at he
      have Ak := hK.step
      have hbb := hK.b1
      have hbm := hK.b2
      have hos := hK.os
      have hsp := hK.sp
      have htd := hK.td (x.id, (x.to.getD k default).addr) (by simp)
      have hout := Wp (w := w) (hcf ▸ hK)
      simp -implicitDefEqProofs only [hlt, hlk, b1, hout, decide_true, tn, ← hx, go_sem, hh, seval]
      with_reducible repeat' (first | apply ai | intro _ | ((first | apply s1 | apply s2 | apply s3 | apply s4) <;> intro hb <;> simp -implicitDefEqProofs only [hb, go_sem, hh, seval] <;> try simp only [qz] at hb))
      all_goals (try simp only [maxLen] at *)
      all_goals first | with_reducible assumption | rfl | omega | contradiction | decide | exact htd.1 | exact htd.2 | (have := hbm _ (by assumption); omega) | skip
      all_goals first | (refine ⟨⟨(k + 1, Gq g x (x.to.getD k default).addr), by dsimp only; omega, Ak, he⟩, by dsimp only; omega, ?_⟩) | skip
      all_goals simp -implicitDefEqProofs only [go_sem, hh, seval]
      all_goals (try simp)
     ·have b1 := AQ hn
      rw [← hcf] at b1
      rw [rc hkl hn] at hK
      rw [P3 hkl hn] at he
      simp -implicitDefEqProofs only [hlt, hlk, b1, decide_true, tn, ← hx, go_sem, hh, seval]
      with_reducible repeat' (first | apply ai | intro _ | ((first | apply s1 | apply s2 | apply s3 | apply s4) <;> intro hb <;> simp -implicitDefEqProofs only [hb, go_sem, hh, seval] <;> try simp only [qz] at hb))
      all_goals (try simp only [maxLen] at *)
      all_goals first | with_reducible assumption | rfl | omega | contradiction | decide | skip
      refine ⟨⟨(k + 1, g), by dsimp only; omega, hK, he⟩, by dsimp only; omega, ?_⟩
      simp -implicitDefEqProofs only [go_sem, hh, seval]
      try simp
    ·rw [an (by omega), List.nil_append] at hK
     rw [J6 (by omega)] at he
     simp -implicitDefEqProofs only [hlt, hlk, decide_true, decide_false, tn, ← hx, go_sem, hh, seval]
     with_reducible repeat' (first | apply ai | intro _ | ((first | apply s1 | apply s2 | apply s3 | apply s4) <;> intro hb <;> simp -implicitDefEqProofs only [hb, go_sem, hh, seval] <;> try simp only [qz] at hb))
     all_goals (try simp only [maxLen] at *)
     all_goals first | with_reducible assumption | rfl | omega | contradiction | decide | skip
     refine ⟨⟨(i + 1, g), by dsimp only; omega, hK, he⟩, by dsimp only; omega, ?_⟩
     simp -implicitDefEqProofs only [go_sem, hh, seval]
     try simp
  ·have he2 : Do h.conf w h.spool.items h = g := by rw [he, List.drop_eq_nil_of_le (by omega)]; rfl
   simp -implicitDefEqProofs only [hlt, decide_false, he2, go_sem, hh, seval]
   with_reducible repeat' (first | apply ai | intro _ | ((first | apply s1 | apply s2 | apply s3 | apply s4) <;> intro hb <;> simp -implicitDefEqProofs only [hb, go_sem, hh, seval] <;> try simp only [qz] at hb))
   all_goals (try simp only [maxLen] at *)
   all_goals first | with_reducible assumption | rfl | omega | contradiction | decide | skip
end
def F4 (c : Cf) : Hs := ⟨c, ⟨0, []⟩, [], []⟩
def Em (cs : List Cf) : Wd := ⟨cs.map F4, 0, 0, []⟩
theorem XI {xs : List Cf} {f : Cf → Hs} {i : Nat} (h : i < xs.length) : ((xs.map f).take (i + 1)).map Ah = ((xs.map f).take i).map Ah ++ [Ah (f (xs.getD i default))] := by
 have e : (xs.map f).getD i default = f (xs.getD i default) := by
  simp only [List.getD_eq_getElem?_getD, List.getElem?_map, List.getElem?_eq_getElem h, Option.map_some, Option.getD_some]
 rw [BV Ah (by rw [lm]; exact h), e]
def CG (b : UInt8) : List T := [.v (.int .u8 b.toNat)]
def cP : List T → Option UInt8
 | [.v (.int .u8 x)] => if 0 ≤ x ∧ x < 256 then some (UInt8.ofNat x.toNat) else none
 | _ => none
def OT : Eo UInt8 where
 enc := CG
 dec := cP
 n := 1
 ed := fun b => by
  have := b.toNat_lt
  show (if 0 ≤ ((b.toNat : Nat) : Int) ∧ ((b.toNat : Nat) : Int) < 256 then some (UInt8.ofNat ((b.toNat : Nat) : Int).toNat) else none) = some b
  rw [if_pos (by omega), tn, UInt8.ofNat_toNat]
 de := fun c a h => by
  unfold cP at h
  split at h
  ·rename_i x
   split at h
   ·rename_i q
    cases h
    show [T.v (.int .u8 x)] = [T.v (.int .u8 (((UInt8.ofNat x.toNat).toNat : Nat) : Int))]
    have : (UInt8.ofNat x.toNat).toNat = x.toNat := by simp; omega
    rw [this]
    congr 3
    omega
   ·cases h
  ·cases h
 len := fun _ => rfl
theorem VF (b : UInt8) : CG b = [.v (.int .u8 b.toNat)] := rfl
theorem YW (xs : List UInt8) (n : Int) (s : AS) (K : Kt) : EV 1 (xs.map CG) n s K = (0 ≤ n ∧ n < xs.length ∧ K (.t (.rop (CG (xs.getD n.toNat default)))) s) := BM CG xs 1 n s K fun _ => rfl
theorem IZ : OT.enc = CG := rfl
theorem QN : OT.n = 1 := rfl
theorem BH (xs : List UInt8) : OT.decL (xs.map CG) = some xs := OT.decL_map xs
theorem MC (xs : List UInt8) : (∀ c ∈ xs.map CG, c.length = 1) = True := eq_true fun c hc => by
 obtain ⟨a, _, rfl⟩ := List.mem_map.1 hc; rfl
structure Rd where
 b : List UInt8
 p : Int
def dM : AV → Option Rd
 | .ob [.t (.sl 1 es), .t (.v (.int .i64 p))] => (OT.decL es).map fun b => ⟨b, p⟩
 | _ => none
def D5 : AD Rd where
 enc r := .ob [.t (.sl 1 (r.b.map CG)), .t (.v (.int .i64 r.p))]
 dec := dM
 ed := fun r => by
  show (OT.decL (r.b.map CG)).map _ = some r
  rw [BH]; rfl
 de := fun x r h => by
  unfold dM at h
  split at h
  ·rename_i es p
   cases hd : OT.decL es with
   | none => rw [hd] at h; cases h
   | some b =>
     rw [hd] at h; cases h
     rw [show es = b.map CG from OT.decL_inv hd]
  ·cases h
theorem BB (r : Rd) : D5.enc r = .ob [.t (.sl 1 (r.b.map CG)), .t (.v (.int .i64 r.p))] := rfl
theorem BD {es : List (List T)} {p : Int} : D5.dec (.ob [.t (.sl 1 es), .t (.v (.int .i64 p))]) = (OT.decL es).map fun b => ⟨b, p⟩ := rfl
theorem bi {n : Int} (h : 0 ≤ n) (h1 : n < 9223372036854775808) : IntKind.wrap .i64 n = n := by
 have e : IntKind.wrap .i64 n = if ((true && decide (n % 18446744073709551616 ≥ 9223372036854775808)) = true) then n % 18446744073709551616 - 18446744073709551616 else n % 18446744073709551616 := rfl
 rw [e, if_neg (by simp; omega)]
 omega
theorem lI {x y : Int} (h : 0 ≤ x) (h1 : x < 9223372036854775808) (k : 0 ≤ y) (k1 : y < 9223372036854775808) : 0 ≤ bits .xor .i64 x y := by
 have e : bits .xor .i64 x y = IntKind.wrap .i64 (((BitVec.ofInt 64 x ^^^ BitVec.ofInt 64 y).toNat : Nat) : Int) := rfl
 rw [e, BitVec.toNat_xor, BitVec.toNat_ofInt, BitVec.toNat_ofInt]
 have q : ((x % ((2 ^ 64 : Nat) : Int)).toNat ^^^ (y % ((2 ^ 64 : Nat) : Int)).toNat) < 2 ^ 63 := Nat.xor_lt_two_pow (by omega) (by omega)
 have q2 := Int.ofNat_lt.2 q
 rw [bi (Int.natCast_nonneg _) q2]
 exact Int.natCast_nonneg _
def XX (b : List UInt8) (k : Int) : Int := (((b.getD k.toNat default).toNat : Nat) : Int)
theorem NK (b : List UInt8) (k : Int) : 0 ≤ XX b k ∧ XX b k ≤ 255 := by
 have := (b.getD k.toNat default).toNat_lt
 unfold XX; omega
theorem oh (b : List UInt8) (k : Int) : (((b.getD k.toNat default).toNat : Nat) : Int) = XX b k := rfl
def Ko (b : List UInt8) (k : Int) : Int := XX b (k % b.length) * 131 + XX b ((k * 7 + 3) % b.length) * 1117 + k * 29 + k / b.length * 53
theorem jp (b : List UInt8) (k : Int) : XX b (k % b.length) * 131 + XX b ((k * 7 + 3) % b.length) * 1117 + k * 29 + k / b.length * 53 = Ko b k := rfl
def Aa (r : Rd) (n : Int) : Int := if n < 1 ∨ (r.b.length : Int) = 0 then 0 else if r.p < r.b.length then XX r.b r.p % n else bits .xor .i64 (Ko r.b r.p) (Ko r.b r.p / 64) % n
theorem U4 {k l : Int} (h : 0 ≤ k) (hl : 0 < l) : 0 ≤ k / l ∧ k / l ≤ k := ⟨Int.ediv_nonneg h (by omega), Int.ediv_le_self _ h⟩
theorem jo {b : List UInt8} {k : Int} (h : 0 ≤ k) (h1 : k ≤ 1000000000) (h2 : ¬ (b.length : Int) = 0) : 0 ≤ Ko b k ∧ Ko b k ≤ 1000000000000 := by
 have q1 := NK b (k % b.length)
 have q2 := NK b ((k * 7 + 3) % b.length)
 have q3 := U4 (l := b.length) h (by omega)
 unfold Ko
 omega
theorem CA {r : Rd} {n : Int} (h : 0 ≤ r.p) (h1 : r.p ≤ 1000000000) : 0 ≤ Aa r n ∧ (1 ≤ n → Aa r n < n) := by
 unfold Aa
 split
 ·omega
 ·rename_i q
  split
  ·exact ⟨Int.emod_nonneg _ (by omega), fun _ => Int.emod_lt_of_pos _ (by omega)⟩
  ·exact ⟨Int.emod_nonneg _ (by omega), fun _ => Int.emod_lt_of_pos _ (by omega)⟩
theorem dN {r : Rd} {n : Int} (h : n < 1 ∨ (r.b.length : Int) = 0) : Aa r n = 0 := if_pos h
theorem rW {r : Rd} {n : Int} (h0 : ¬ n < 1) (h : ¬ (r.b.length : Int) = 0) (h1 : r.p < r.b.length) : XX r.b r.p % n = Aa r n := by
 unfold Aa; rw [if_neg (by omega), if_pos h1]
theorem rX {r : Rd} {n : Int} (h0 : ¬ n < 1) (h : ¬ (r.b.length : Int) = 0) (h1 : ¬ r.p < r.b.length) : bits .xor .i64 (Ko r.b r.p) (Ko r.b r.p / 64) % n = Aa r n := by
 unfold Aa; rw [if_neg (by omega), if_neg h1]
def Rd.nx (r : Rd) (k : Int) : Rd := ⟨r.b, r.p + k⟩
theorem AK (r : Rd) (k : Int) : (r.nx k).p = r.p + k := rfl
theorem Bq (r : Rd) (k : Int) : (r.nx k).b = r.b := rfl
theorem Cd (r : Rd) (k : Int) : (⟨r.b, r.p + k⟩ : Rd) = r.nx k := rfl
theorem u3 {x y : Int} (h : x = y) : T.v (.int .i64 x) = T.v (.int .i64 y) := by rw [h]
def HW : Mt := HJ (lc D5 (lc BJ l0)) (fun p => 0 ≤ p.1.p ∧ p.1.p ≤ 1000000000) (fun p => ([D5.enc (p.1.nx 1), BJ.enc p.2.1], .t (.v (.int .i64 (Aa p.1 p.2.1)))))
section
attribute [local go_sem] AK Bq BB BD BH VF YW IZ QN MC lm Int.add_sub_cancel oh jp AS.opn AS.cls AS.nilb AS.renb AS.up Bool.not_false Bool.not_true List.set_set List.set_cons_zero List.set_cons_succ List.set_nil List.mem_singleton forall_eq
set_option maxHeartbeats 1600000 in
theorem qG {G : Gt} (hG : Aj G) : Gd G 43 (AP HW) := by
 refine Jh (dp := fun _ => true) (fn := Tryz.f43) (n := 2) rfl hG ?_
 rintro ⟨r, n, ⟨⟩⟩ hpre
 simp -implicitDefEqProofs only [Tryz.f43, go_sem, seval] at hpre ⊢
 obtain ⟨h1, h2⟩ := hpre
 try dsimp only at h1 h2
 have g1 := NK r.b r.p
 have g2 := NK r.b (r.p % r.b.length)
 have g3 := NK r.b ((r.p * 7 + 3) % r.b.length)
 by_cases h0 : (r.b.length : Int) = 0
 ·with_reducible repeat' (first | apply ai | intro _ | ((first | apply s1 | apply s2 | apply s3 | apply s4) <;> intro hb <;> simp -implicitDefEqProofs only [hb, go_sem, seval] <;> try simp only [qz] at hb))
  all_goals (try simp only [maxLen, tn] at *)
  all_goals first | rfl | omega | (rw [dN (by omega)]; done) | contradiction
 ·have g4 := U4 (l := r.b.length) h1 (by omega)
  have g5 := jo h1 h2 h0
  have g6 := Int.emod_nonneg r.p h0
  have g7 := Int.emod_lt_of_pos r.p (b := r.b.length) (by omega)
  have g8 := Int.emod_nonneg (r.p * 7 + 3) h0
  have g9 := Int.emod_lt_of_pos (r.p * 7 + 3) (b := r.b.length) (by omega)
  have gx := U4 (l := 64) g5.1 (by decide)
  have gy := lI (x := Ko r.b r.p) (y := Ko r.b r.p / 64) g5.1 (by omega) gx.1 (by omega)
  with_reducible repeat' (first | apply ai | intro _ | ((first | apply s1 | apply s2 | apply s3 | apply s4) <;> intro hb <;> simp -implicitDefEqProofs only [hb, go_sem, seval] <;> try simp only [qz] at hb))
  all_goals (try simp only [maxLen, tn] at *)
  all_goals first | rfl | omega | (rw [dN (by omega)]; done) | with_reducible exact u3 (rW (by assumption) (by assumption) (by assumption)) | with_reducible exact u3 (rX (by assumption) (by assumption) (by assumption)) | contradiction
end
theorem JT {x0 x1 x2 x3 : T} : Bf 1 4 [x0, x1, x2, x3] = [[x0], [x1], [x2], [x3]] := rfl
theorem JU {x0 x1 x2 x3 x4 : T} : Bf 1 5 [x0, x1, x2, x3, x4] = [[x0], [x1], [x2], [x3], [x4]] := rfl
theorem JV {x0 x1 x2 x3 x4 x5 x6 : T} : Bf 1 7 [x0, x1, x2, x3, x4, x5, x6] = [[x0], [x1], [x2], [x3], [x4], [x5], [x6]] := rfl
theorem E0 {x0 x1 x2 x3 x4 x5 x6 x7 x8 x9 x10 : T} : Bf 1 11 [x0, x1, x2, x3, x4, x5, x6, x7, x8, x9, x10] = [[x0], [x1], [x2], [x3], [x4], [x5], [x6], [x7], [x8], [x9], [x10]] := rfl
theorem E3 {x0 x1 x2 x3 x4 x5 x6 x7 x8 x9 x10 x11 : T} : Bf 1 12 [x0, x1, x2, x3, x4, x5, x6, x7, x8, x9, x10, x11] = [[x0], [x1], [x2], [x3], [x4], [x5], [x6], [x7], [x8], [x9], [x10], [x11]] := rfl
theorem Bm (r : Rd) (a b : Int) : (r.nx a).nx b = r.nx (a + b) := by unfold Rd.nx; simp only [Int.add_assoc]
theorem Bh (r : Rd) : (⟨r.b, r.p⟩ : Rd) = r := rfl
theorem Bk (r : Rd) (a b : Int) : r.p + a + b = r.p + (a + b) := Int.add_assoc _ _ _
theorem GI {a : ByteArray} {t : List (List T)} : Al.decL ([.v (.string a)] :: t) = (Al.decL t).map (a :: ·) := by
 show A6 Al.dec _ = (A6 Al.dec t).map _
 simp only [A6, Mr]
 cases A6 Al.dec t <;> rfl
theorem GH {a : Int} {t : List (List T)} : DC.decL ([.v (.int .i64 a)] :: t) = (DC.decL t).map (a :: ·) := by
 show A6 DC.dec _ = (A6 DC.dec t).map _
 simp only [A6, Mq]
 cases A6 DC.dec t <;> rfl
def Mo (r : Rd) (l : List ByteArray) : ByteArray := l.getD (Aa r l.length).toNat default
def GS (r : Rd) (l : List Int) : Int := l.getD (Aa r l.length).toNat default
theorem Gx {r : Rd} {l : List ByteArray} (h : 0 ≤ r.p) (h1 : r.p ≤ 1000000000) (hl : 1 ≤ l.length) : Mo r l ∈ l := by
 have := CA (n := l.length) h h1
 exact AC (by omega)
theorem Iq {r : Rd} {l : List Int} (h : 0 ≤ r.p) (h1 : r.p ≤ 1000000000) (hl : 1 ≤ l.length) : GS r l ∈ l := by
 have := CA (n := l.length) h h1
 exact AC (by omega)
def SC : Mt := HJ (lc D5 (lc (Al.aow true 1) l0)) (fun p => 0 ≤ p.1.p ∧ p.1.p ≤ 1000000000 ∧ 1 ≤ p.2.1.length ∧ p.2.1.length ≤ 1000) (fun p => ([D5.enc (p.1.nx 1), (Al.aow true 1).enc p.2.1], .t (.v (.string (Mo p.1 p.2.1)))))
section
attribute [local go_sem] HW AK Bq BB BD BH Bm Cd Bh Bk lm List.length_append List.length_cons List.length_nil List.map_append List.map_nil Nat.zero_add List.nil_append AS.opn AS.cls AS.nilb AS.renb AS.up Bool.not_false Bool.not_true List.set_set List.set_cons_zero List.set_cons_succ List.set_nil List.mem_singleton forall_eq AY
set_option maxHeartbeats 800000 in
theorem qn {G : Gt} (hG : Aj G) (hh : G.e 43 = AP HW) : Gd G 88 (AP SC) := by
 refine Jh (dp := fun _ => true) (fn := Tryz.f88) (n := 2) rfl hG ?_
 rintro ⟨r, l, ⟨⟩⟩ hpre
 simp -implicitDefEqProofs only [Tryz.f88, go_sem, hh, Int.reduceAdd, seval] at hpre ⊢
 obtain ⟨h1, h2, h3, h4⟩ := hpre
 try dsimp only at h1 h2 h3 h4
 have hb := CA (n := l.length) h1 h2
 with_reducible repeat' (first | apply ai | intro _ | ((first | apply s1 | apply s2 | apply s3 | apply s4) <;> intro hb <;> simp -implicitDefEqProofs only [hb, go_sem, hh, Int.reduceAdd, seval] <;> try simp only [qz] at hb))
 all_goals (try simp only [maxLen, tn] at *)
 all_goals first | rfl | omega | decide | assumption | skip
end
def UU : Mt := HJ (lc D5 (lc (DC.aow true 1) l0)) (fun p => 0 ≤ p.1.p ∧ p.1.p ≤ 1000000000 ∧ 1 ≤ p.2.1.length ∧ p.2.1.length ≤ 1000) (fun p => ([D5.enc (p.1.nx 1), (DC.aow true 1).enc p.2.1], .t (.v (.int .i64 (GS p.1 p.2.1)))))
section
attribute [local go_sem] HW AK Bq BB BD BH Bm Cd Bh Bk lm List.length_append List.length_cons List.length_nil List.map_append List.map_nil Nat.zero_add List.nil_append AS.opn AS.cls AS.nilb AS.renb AS.up Bool.not_false Bool.not_true List.set_set List.set_cons_zero List.set_cons_succ List.set_nil List.mem_singleton forall_eq AY
set_option maxHeartbeats 800000 in
theorem qR {G : Gt} (hG : Aj G) (hh : G.e 43 = AP HW) : Gd G 60 (AP UU) := by
 refine Jh (dp := fun _ => true) (fn := Tryz.f60) (n := 2) rfl hG ?_
 rintro ⟨r, l, ⟨⟩⟩ hpre
 simp -implicitDefEqProofs only [Tryz.f60, go_sem, hh, Int.reduceAdd, seval] at hpre ⊢
 obtain ⟨h1, h2, h3, h4⟩ := hpre
 try dsimp only at h1 h2 h3 h4
 have hb := CA (n := l.length) h1 h2
 with_reducible repeat' (first | apply ai | intro _ | ((first | apply s1 | apply s2 | apply s3 | apply s4) <;> intro hb <;> simp -implicitDefEqProofs only [hb, go_sem, hh, Int.reduceAdd, seval] <;> try simp only [qz] at hb))
 all_goals (try simp only [maxLen, tn] at *)
 all_goals first | rfl | omega | decide | assumption | skip
end
def pO : List ByteArray := [⟨#[111, 110, 101, 46, 111, 114, 103]⟩, ⟨#[116, 119, 111, 46, 111, 114, 103]⟩, ⟨#[104, 117, 98, 46, 110, 101, 116]⟩, ⟨#[120, 46, 99, 111, 109]⟩, ⟨#[102, 97, 114, 46, 99, 111, 109]⟩, ⟨#[111, 116, 104, 101, 114, 46, 99, 111, 109]⟩, ⟨#[97, 46, 111, 110, 101, 46, 111, 114, 103]⟩]
def sW : List ByteArray := [⟨#[97]⟩, ⟨#[98]⟩, ⟨#[97, 110, 110]⟩, ⟨#[98, 111, 98, 55]⟩]
def rC : List ByteArray := [⟨#[104, 101, 108, 108, 111]⟩, ⟨#[]⟩, ⟨#[46]⟩, ⟨#[46, 46]⟩, ⟨#[46, 100, 111, 116]⟩, ⟨#[97, 32, 108, 111, 110, 103, 101, 114, 32, 108, 105, 110, 101, 32, 111, 102, 32, 116, 101, 120, 116]⟩, ⟨#[72, 111, 112, 58, 32, 111, 110, 101, 46, 111, 114, 103]⟩, ⟨#[72, 111, 112, 58, 32]⟩, ⟨#[73, 100, 58, 32, 55]⟩, ⟨#[110, 111, 116, 32, 100, 101, 108, 105, 118, 101, 114, 101, 100, 58]⟩, ⟨#[60, 97, 64, 111, 110, 101, 46, 111, 114, 103, 62]⟩, ⟨#[108, 105, 110, 101, 32, 116, 104, 97, 116, 32, 105, 115, 32, 101, 120, 97, 99, 116, 108, 121, 32, 102, 111, 114, 116, 121, 32, 98, 121, 116, 101, 115, 32, 108, 111, 110, 103, 46, 46, 33]⟩]
def pP (r : Rd) : ByteArray := Mo r pO
def aH (r : Rd) : ByteArray := Mo r rC
def ER (r : Rd) : Ad := ⟨Mo r sW, pP (r.nx 1)⟩
def Ch (r : Rd) : Ad × Rd :=
 if Aa (r.nx 2) 10 = 0 then (⟨Mo (r.nx 3) [⟨#[]⟩, ⟨#[65]⟩, ⟨#[116, 111, 111, 108, 111, 110, 103, 110, 97, 109, 101]⟩, ⟨#[97, 64, 98]⟩], (ER r).domain⟩, r.nx 4)
 else if Aa (r.nx 2) 10 = 1 then (⟨(ER r).user, Mo (r.nx 3) [⟨#[]⟩, ⟨#[97, 46, 46, 98]⟩, ⟨#[46, 97]⟩, ⟨#[97, 46, 98, 46, 99, 46, 100]⟩, ⟨#[85, 112, 46, 111, 114, 103]⟩]⟩, r.nx 4)
 else if Aa (r.nx 2) 10 = 2 then (⟨⟨#[]⟩, ⟨#[]⟩⟩, r.nx 3)
 else (ER r, r.nx 3)
def fY : Mt := HJ (lc D5 l0) (fun p => 0 ≤ p.1.p ∧ p.1.p ≤ 999999990) (fun p => ([D5.enc (p.1.nx 1)], .t (.v (.string (pP p.1)))))
section
attribute [local go_sem] SC AK Bq BB BD BH Bm Cd Bh Bk lm List.length_append List.length_cons List.length_nil List.map_append List.map_nil Nat.zero_add List.nil_append AS.opn AS.cls AS.nilb AS.renb AS.up Bool.not_false Bool.not_true List.set_set List.set_cons_zero List.set_cons_succ List.set_nil List.mem_singleton forall_eq GI JT JU JV E0 E3
set_option maxHeartbeats 800000 in
theorem mC {G : Gt} (hG : Aj G) (hh : G.e 88 = AP SC) : Gd G 153 (AP fY) := by
 refine Jh (dp := fun _ => true) (fn := Tryz.f153) (n := 1) rfl hG ?_
 rintro ⟨r, ⟨⟩⟩ hpre
 simp -implicitDefEqProofs only [Tryz.f153, go_sem, hh, Int.reduceAdd, seval] at hpre ⊢
 obtain ⟨h1, h2⟩ := hpre
 try dsimp only at h1 h2
 with_reducible repeat' (first | apply ai | intro _ | ((first | apply s1 | apply s2 | apply s3 | apply s4) <;> intro hb <;> simp -implicitDefEqProofs only [hb, go_sem, hh, Int.reduceAdd, seval] <;> try simp only [qz] at hb))
 all_goals (try simp only [maxLen, tn] at *)
 all_goals first | rfl | omega | decide | assumption | skip
end
def fk : Mt := HJ (lc D5 l0) (fun p => 0 ≤ p.1.p ∧ p.1.p ≤ 999999990) (fun p => ([D5.enc (p.1.nx 1)], .t (.v (.string (aH p.1)))))
section
attribute [local go_sem] SC AK Bq BB BD BH Bm Cd Bh Bk lm List.length_append List.length_cons List.length_nil List.map_append List.map_nil Nat.zero_add List.nil_append AS.opn AS.cls AS.nilb AS.renb AS.up Bool.not_false Bool.not_true List.set_set List.set_cons_zero List.set_cons_succ List.set_nil List.mem_singleton forall_eq GI JT JU JV E0 E3
set_option maxHeartbeats 800000 in
theorem mP {G : Gt} (hG : Aj G) (hh : G.e 88 = AP SC) : Gd G 175 (AP fk) := by
 refine Jh (dp := fun _ => true) (fn := Tryz.f175) (n := 1) rfl hG ?_
 rintro ⟨r, ⟨⟩⟩ hpre
 simp -implicitDefEqProofs only [Tryz.f175, go_sem, hh, Int.reduceAdd, seval] at hpre ⊢
 obtain ⟨h1, h2⟩ := hpre
 try dsimp only at h1 h2
 with_reducible repeat' (first | apply ai | intro _ | ((first | apply s1 | apply s2 | apply s3 | apply s4) <;> intro hb <;> simp -implicitDefEqProofs only [hb, go_sem, hh, Int.reduceAdd, seval] <;> try simp only [qz] at hb))
 all_goals (try simp only [maxLen, tn] at *)
 all_goals first | rfl | omega | decide | assumption | skip
end
def UG : Mt := HJ (lc D5 l0) (fun p => 0 ≤ p.1.p ∧ p.1.p ≤ 999999980) (fun p => ([D5.enc (p.1.nx 2)], .agg [.t (.v (.string (ER p.1).user)), .t (.v (.string (ER p.1).domain))]))
section
attribute [local go_sem] SC fY AK Bq BB BD BH Bm Cd Bh Bk lm List.length_append List.length_cons List.length_nil List.map_append List.map_nil Nat.zero_add List.nil_append AS.opn AS.cls AS.nilb AS.renb AS.up Bool.not_false Bool.not_true List.set_set List.set_cons_zero List.set_cons_succ List.set_nil List.mem_singleton forall_eq GI JT JU JV E0 E3
set_option maxHeartbeats 800000 in
theorem lT {G : Gt} (hG : Aj G) (hh : G.e 88 = AP SC ∧ G.e 153 = AP fY) : Gd G 116 (AP UG) := by
 refine Jh (dp := fun _ => true) (fn := Tryz.f116) (n := 1) rfl hG ?_
 rintro ⟨r, ⟨⟩⟩ hpre
 simp -implicitDefEqProofs only [Tryz.f116, go_sem, hh, Int.reduceAdd, seval] at hpre ⊢
 obtain ⟨h1, h2⟩ := hpre
 try dsimp only at h1 h2
 with_reducible repeat' (first | apply ai | intro _ | ((first | apply s1 | apply s2 | apply s3 | apply s4) <;> intro hb <;> simp -implicitDefEqProofs only [hb, go_sem, hh, Int.reduceAdd, seval] <;> try simp only [qz] at hb))
 all_goals (try simp only [maxLen, tn] at *)
 all_goals first | rfl | omega | decide | assumption | skip
end
theorem QZ {r : Rd} (h : Aa (r.nx 2) 10 = 0) : Ch r = (⟨Mo (r.nx 3) [⟨#[]⟩, ⟨#[65]⟩, ⟨#[116, 111, 111, 108, 111, 110, 103, 110, 97, 109, 101]⟩, ⟨#[97, 64, 98]⟩], (ER r).domain⟩, r.nx 4) := if_pos h
theorem Qa {r : Rd} (h0 : ¬ Aa (r.nx 2) 10 = 0) (h : Aa (r.nx 2) 10 = 1) : Ch r = (⟨(ER r).user, Mo (r.nx 3) [⟨#[]⟩, ⟨#[97, 46, 46, 98]⟩, ⟨#[46, 97]⟩, ⟨#[97, 46, 98, 46, 99, 46, 100]⟩, ⟨#[85, 112, 46, 111, 114, 103]⟩]⟩, r.nx 4) := by unfold Ch; rw [if_neg h0, if_pos h]
theorem Qb {r : Rd} (h0 : ¬ Aa (r.nx 2) 10 = 0) (h1 : ¬ Aa (r.nx 2) 10 = 1) (h : Aa (r.nx 2) 10 = 2) : Ch r = (⟨⟨#[]⟩, ⟨#[]⟩⟩, r.nx 3) := by unfold Ch; rw [if_neg h0, if_neg h1, if_pos h]
theorem Qc {r : Rd} (h0 : ¬ Aa (r.nx 2) 10 = 0) (h1 : ¬ Aa (r.nx 2) 10 = 1) (h : ¬ Aa (r.nx 2) 10 = 2) : Ch r = (ER r, r.nx 3) := by unfold Ch; rw [if_neg h0, if_neg h1, if_neg h]
def tW : Mt := HJ (lc D5 l0) (fun p => 0 ≤ p.1.p ∧ p.1.p ≤ 999999950) (fun p => ([D5.enc (Ch p.1).2], .agg [.t (.v (.string (Ch p.1).1.user)), .t (.v (.string (Ch p.1).1.domain))]))
section
attribute [local go_sem] UG HW SC AK Bq BB BD BH Bm Cd Bh Bk lm List.length_append List.length_cons List.length_nil List.map_append List.map_nil Nat.zero_add List.nil_append AS.opn AS.cls AS.nilb AS.renb AS.up Bool.not_false Bool.not_true List.set_set List.set_cons_zero List.set_cons_succ List.set_nil List.mem_singleton forall_eq GI JT JU JV E0 E3
set_option maxHeartbeats 1600000 in
theorem qS {G : Gt} (hG : Aj G) (hh : G.e 116 = AP UG ∧ G.e 43 = AP HW ∧ G.e 88 = AP SC) : Gd G 62 (AP tW) := by
 refine Jh (dp := fun _ => true) (fn := Tryz.f62) (n := 1) rfl hG ?_
 rintro ⟨r, ⟨⟩⟩ hpre
 obtain ⟨h1, h2⟩ := hpre
 try dsimp only at h1 h2 ⊢
 by_cases q0 : Aa (r.nx 2) 10 = 0
 ·rw [QZ q0]
  simp -implicitDefEqProofs only [Tryz.f62, q0, eq_self, decide_true, decide_false, go_sem, hh, Int.reduceAdd, seval]
  with_reducible repeat' (first | apply ai | intro _ | ((first | apply s1 | apply s2 | apply s3 | apply s4) <;> intro hb <;> simp -implicitDefEqProofs only [hb, go_sem, hh, Int.reduceAdd, seval] <;> try simp only [qz] at hb))
  all_goals (try simp only [maxLen, tn] at *)
  all_goals first | rfl | omega | decide | assumption | skip
 ·by_cases q1 : Aa (r.nx 2) 10 = 1
  ·rw [Qa q0 q1]
   simp -implicitDefEqProofs only [Tryz.f62, q1, Int.reduceEq, eq_self, decide_true, decide_false, go_sem, hh, Int.reduceAdd, seval]
   with_reducible repeat' (first | apply ai | intro _ | ((first | apply s1 | apply s2 | apply s3 | apply s4) <;> intro hb <;> simp -implicitDefEqProofs only [hb, go_sem, hh, Int.reduceAdd, seval] <;> try simp only [qz] at hb))
   all_goals (try simp only [maxLen, tn] at *)
   all_goals first | rfl | omega | decide | assumption | skip
  ·by_cases q2 : Aa (r.nx 2) 10 = 2
   ·rw [Qb q0 q1 q2]
    simp -implicitDefEqProofs only [Tryz.f62, q2, Int.reduceEq, eq_self, decide_true, decide_false, go_sem, hh, Int.reduceAdd, seval]
    with_reducible repeat' (first | apply ai | intro _ | ((first | apply s1 | apply s2 | apply s3 | apply s4) <;> intro hb <;> simp -implicitDefEqProofs only [hb, go_sem, hh, Int.reduceAdd, seval] <;> try simp only [qz] at hb))
    all_goals (try simp only [maxLen, tn] at *)
    all_goals first | rfl | omega | decide | assumption | skip
   ·rw [Qc q0 q1 q2]
    simp -implicitDefEqProofs only [Tryz.f62, q0, q1, q2, eq_self, decide_true, decide_false, go_sem, hh, Int.reduceAdd, seval]
    with_reducible repeat' (first | apply ai | intro _ | ((first | apply s1 | apply s2 | apply s3 | apply s4) <;> intro hb <;> simp -implicitDefEqProofs only [hb, go_sem, hh, Int.reduceAdd, seval] <;> try simp only [qz] at hb))
    all_goals (try simp only [maxLen, tn] at *)
    all_goals first | rfl | omega | decide | assumption | skip
end
def Kj (r : Rd) (n : Nat) : List ByteArray := (List.range n).map fun (j : Nat) => aH (r.nx (j : Int))
theorem ey (r : Rd) (n : Nat) : Kj r (n + 1) = Kj r n ++ [aH (r.nx n)] := by
 unfold Kj; rw [List.range_succ, List.map_append]; rfl
theorem NG (r : Rd) (n : Nat) : (Kj r n).length = n := by unfold Kj; simp
def IJ (r : Rd) (m : Int) : List ByteArray := Kj (r.nx 1) (Aa r (m + 1)).toNat
def Ll (r : Rd) (m : Int) : Rd := r.nx (1 + Aa r (m + 1))
def fW : Mt := HJ (lc D5 (lc BJ l0)) (fun p => 0 ≤ p.1.p ∧ p.1.p ≤ 999999000 ∧ 0 ≤ p.2.1 ∧ p.2.1 ≤ 100) (fun p => ([D5.enc (Ll p.1 p.2.1), BJ.enc p.2.1], .o true 1 ((IJ p.1 p.2.1).map AH)))
section
attribute [local go_sem] HW fk AK Bq BB BD BH Bm Cd Bh Bk lm List.length_append List.length_cons List.length_nil List.map_append List.map_nil Nat.zero_add List.nil_append AS.opn AS.cls AS.nilb AS.renb AS.up Bool.not_false Bool.not_true List.set_set List.set_cons_zero List.set_cons_succ List.set_nil List.mem_singleton forall_eq
set_option maxHeartbeats 1600000 in
theorem l9 {G : Gt} (hG : Aj G) (hh : G.e 43 = AP HW ∧ G.e 175 = AP fk) : Gd G 151 (AP fW) := by
 refine Jh (dp := fun _ => true) (fn := Tryz.f151) (n := 2) rfl hG ?_
 rintro ⟨r, m, ⟨⟩⟩ hpre
 simp -implicitDefEqProofs only [Tryz.f151, go_sem, hh, Int.reduceAdd, seval] at hpre ⊢
 obtain ⟨h1, h2, h3, h4⟩ := hpre
 try dsimp only at h1 h2 h3 h4
 have hb := CA (n := m + 1) h1 (by omega)
 obtain ⟨n, hn⟩ : ∃ n : Nat, n = (Aa r (m + 1)).toNat := ⟨_, rfl⟩
 have hn2 : Aa r (m + 1) = n := by omega
 have e1 : Ll r m = r.nx (1 + n) := by unfold Ll; rw [hn2]
 have e2 : IJ r m = Kj (r.nx 1) n := by unfold IJ; rw [← hn]
 rw [e1, e2]
 simp -implicitDefEqProofs only [hn2, go_sem, hh, Int.reduceAdd, seval]
 with_reducible repeat' (first | apply ai | intro _ | ((first | apply s1 | apply s2 | apply s3 | apply s4) <;> intro hb <;> simp -implicitDefEqProofs only [hb, go_sem, hh, Int.reduceAdd, seval] <;> try simp only [qz] at hb))
 all_goals (try simp only [maxLen, tn] at *)
 all_goals first | rfl | omega | decide | assumption | skip
 refine AE [(5, 1905, true, 1)] (ι := {i : Nat // i ≤ n}) (fun p => ⟨[(0, .pb 1900 0), (5, .h 1905), (6, .t (.v (.int .i64 (n - p.1))))], [(1900, some (.box [.t (.sl 1 (r.b.map CG)), .t (.v (.int .i64 (r.p + (1 + p.1))))])), (1905, some (.arr true 1 ((Kj (r.nx 1) p.1).map AH)))]⟩) (fun p => n - p.1) ⟨0, by simp⟩ rfl ?_ ?_
 ·simp -implicitDefEqProofs only [go_sem, hh, Int.reduceAdd, seval]
  simp [Kj]
 ·rintro ⟨i, hi⟩
  have hlen := NG (r.nx 1) i
  by_cases hlt : (n : Int) - i > 0
  ·simp -implicitDefEqProofs only [hlt, decide_true, tn, go_sem, hh, Int.reduceAdd, seval]
   with_reducible repeat' (first | apply ai | intro _ | ((first | apply s1 | apply s2 | apply s3 | apply s4) <;> intro hb <;> simp -implicitDefEqProofs only [hb, go_sem, hh, Int.reduceAdd, seval] <;> try simp only [qz] at hb))
   all_goals (try simp only [maxLen, tn] at *)
   all_goals first | rfl | omega | decide | assumption | skip
   refine ⟨⟨i + 1, by omega⟩, by dsimp only; omega, ?_⟩
   simp -implicitDefEqProofs only [ey, go_sem, hh, Int.reduceAdd, seval]
   try simp
   omega
  ·have hz : i = n := by omega
   subst hz
   simp -implicitDefEqProofs only [hlt, decide_false, go_sem, hh, Int.reduceAdd, seval]
   with_reducible repeat' (first | apply ai | intro _ | ((first | apply s1 | apply s2 | apply s3 | apply s4) <;> intro hb <;> simp -implicitDefEqProofs only [hb, go_sem, hh, Int.reduceAdd, seval] <;> try simp only [qz] at hb))
   all_goals (try simp only [maxLen, tn] at *)
   all_goals first | rfl | omega | decide | assumption | skip
end
def ju : Ad := ⟨⟨#[]⟩, ⟨#[]⟩⟩
def DA (r : Rd) : Nat → List Ad
 | 0 => []
 | k + 1 => if ER (r.nx (2 * (k : Int))) ∈ DA r k then DA r k else DA r k ++ [ER (r.nx (2 * (k : Int)))]
theorem da {r : Rd} {k : Nat} (h : ER (r.nx (2 * (k : Int))) ∈ DA r k) : DA r (k + 1) = DA r k := if_pos h
theorem dZ {r : Rd} {k : Nat} (h : ¬ ER (r.nx (2 * (k : Int))) ∈ DA r k) : DA r (k + 1) = DA r k ++ [ER (r.nx (2 * (k : Int)))] := if_neg h
theorem Iy (r : Rd) : ∀ k, (DA r k).length ≤ k
 | 0 => Nat.le_refl _
 | k + 1 => by
   have := Iy r k
   unfold DA; split
   ·omega
   ·rw [List.length_append]; simp; omega
theorem Ht (r : Rd) : ∀ k, (DA r k).Nodup
 | 0 => List.nodup_nil
 | k + 1 => by
   unfold DA; split
   ·exact Ht r k
   ·rename_i h
    rw [List.nodup_append]
    exact ⟨Ht r k, by simp, fun a ha b hb e => h (by rw [List.mem_singleton.1 hb] at e; rw [← e]; exact ha)⟩
theorem Mg {r : Rd} {a : Ad} : ∀ {k : Nat}, a ∈ DA r k → ∃ j, j < k ∧ a = ER (r.nx (2 * (j : Int)))
 | k + 1, h => by
   unfold DA at h; split at h
   ·obtain ⟨j, hj, e⟩ := Mg h
    exact ⟨j, by omega, e⟩
   ·rcases List.mem_append.1 h with h | h
    ·obtain ⟨j, hj, e⟩ := Mg h
     exact ⟨j, by omega, e⟩
    ·exact ⟨k, by omega, List.mem_singleton.1 h⟩
theorem ky (r : Rd) (k : Nat) : 1 ≤ (DA r (k + 1)).length := by
 unfold DA; split
 ·rename_i h
  have := List.length_pos_of_mem h
  omega
 ·try simp
def RH (r : Rd) : Int := GS (r.nx 2) [1, 4, 9]
def Au (r : Rd) : Rd := Ll (r.nx 3) (RH r)
def IL (r : Rd) : Int := 1 + Aa ((Au r).nx 1) 4
def LL (r : Rd) : Ad := if Aa (Au r) 5 = 0 then ju else ER r
def WM (r : Rd) : Ml := ⟨LL r, DA ((Au r).nx 2) (IL r).toNat, IJ (r.nx 3) (RH r)⟩
def Nq (r : Rd) : Rd := (Au r).nx (2 + 2 * IL r)
theorem WN {r : Rd} (h : 0 ≤ r.p) (h1 : r.p ≤ 999999900) : 1 ≤ RH r ∧ RH r ≤ 9 := by
 have := Iq (r := r.nx 2) (l := [1, 4, 9]) (by rw [AK]; omega) (by rw [AK]; omega) (by decide)
 unfold RH
 simp only [List.mem_cons, List.not_mem_nil, or_false] at this
 omega
theorem e9 {r : Rd} {m : Int} (h : 0 ≤ r.p) (h1 : r.p ≤ 999999950) (h2 : 0 ≤ m) : (Ll r m).b = r.b ∧ r.p + 1 ≤ (Ll r m).p ∧ (Ll r m).p ≤ r.p + 1 + m := by
 have := CA (r := r) (n := m + 1) h (by omega)
 unfold Ll
 rw [AK, Bq]
 exact ⟨rfl, by omega, by omega⟩
theorem MI {r : Rd} (h : 0 ≤ r.p) (h1 : r.p ≤ 999999900) : (Au r).b = r.b ∧ r.p + 4 ≤ (Au r).p ∧ (Au r).p ≤ r.p + 13 := by
 have h2 := WN h h1
 have h3 := e9 (r := r.nx 3) (m := RH r) (by rw [AK]; omega) (by rw [AK]; omega) (by omega)
 rw [AK, Bq] at h3
 unfold Au
 exact ⟨h3.1, by omega, by omega⟩
theorem WL {r : Rd} (h : 0 ≤ r.p) (h1 : r.p ≤ 999999900) : 1 ≤ IL r ∧ IL r ≤ 4 := by
 have h2 := MI h h1
 have h3 := CA (r := (Au r).nx 1) (n := 4) (by rw [AK]; omega) (by rw [AK]; omega)
 unfold IL
 omega
theorem dI {r : Rd} (h : 0 ≤ r.p) (h1 : r.p ≤ 999999900) : (Nq r).b = r.b ∧ r.p + 4 ≤ (Nq r).p ∧ (Nq r).p ≤ r.p + 23 := by
 have h2 := MI h h1
 have h3 := WL h h1
 unfold Nq
 rw [AK, Bq]
 exact ⟨h2.1, by omega, by omega⟩
theorem ut {a b : Ad} : ((decide (a.user = b.user) && decide (a.domain = b.domain)) = true) = (a = b) := by
 rw [C3]; simp
theorem uu {a b : Ad} : ((decide (a.user = b.user) && decide (a.domain = b.domain)) = false) = ¬ a = b := by
 rw [C3]; simp
theorem rG {r : Rd} : GS (r.nx 2) [1, 4, 9] = RH r := rfl
theorem jq {r : Rd} : Ll (r.nx 3) (RH r) = Au r := rfl
theorem rF {r : Rd} : 1 + Aa ((Au r).nx 1) 4 = IL r := rfl
def UE : Mt := HJ (lc D5 l0) (fun p => 0 ≤ p.1.p ∧ p.1.p ≤ 999998000) (fun p => ([D5.enc (Nq p.1)], S5 (WM p.1)))
section
attribute [local go_sem] UG UU fW HW AK Bq BB BD BH Bm Cd Bh Bk lm List.length_append List.length_cons List.length_nil List.map_append List.map_nil Nat.zero_add List.nil_append AS.opn AS.cls AS.nilb AS.renb AS.up Bool.not_false Bool.not_true List.set_set List.set_cons_zero List.set_cons_succ List.set_nil List.mem_singleton forall_eq GH rG jq rF AY JT JU JV E0 E3
set_option maxHeartbeats 3200000 in
theorem lQ {G : Gt} (hG : Aj G) (hh : G.e 116 = AP UG ∧ G.e 60 = AP UU ∧ G.e 151 = AP fW ∧ G.e 43 = AP HW) : Gd G 112 (AP UE) := by
 refine Jh (dp := fun n => !(Nat.beq n 100004 || Nat.beq n 100006)) (fn := Tryz.f112) (n := 1) rfl hG ?_
 rintro ⟨r, ⟨⟩⟩ hpre
 obtain ⟨h1, h2⟩ := hpre
 try dsimp only at h1 h2 ⊢
 have f1 := WN h1 (by omega)
 have f2 := MI h1 (by omega)
 have f3 := WL h1 (by omega)
 by_cases q : Aa (Au r) 5 = 0
 ·have hf : LL r = ju := if_pos q
  simp -implicitDefEqProofs only [Tryz.f112, q, eq_self, decide_true, go_sem, hh, Int.reduceAdd, seval]
  with_reducible repeat' (first | apply ai | intro _ | ((first | apply s1 | apply s2 | apply s3 | apply s4) <;> intro hb <;> simp -implicitDefEqProofs only [hb, go_sem, hh, Int.reduceAdd, seval] <;> try simp only [qz] at hb))
  all_goals (try simp only [maxLen, tn] at *)
  all_goals first | rfl | omega | decide | assumption | skip
  refine Ai (Le.nilb 1003 2 1907 true 2 rfl rfl rfl) (Ae ?_)
  simp -implicitDefEqProofs only [go_sem, hh, Int.reduceAdd, seval]
  with_reducible repeat' (first | apply ai | intro _ | ((first | apply s1 | apply s2 | apply s3 | apply s4) <;> intro hb <;> simp -implicitDefEqProofs only [hb, go_sem, hh, Int.reduceAdd, seval] <;> try simp only [qz] at hb))
  all_goals (try simp only [maxLen, tn] at *)
  all_goals first | rfl | omega | decide | assumption | skip
  refine AE [] (ι := {i : Nat // (i : Int) ≤ IL r}) (fun ⟨i, _⟩ => ⟨[(0, .pb 1900 0), (2, .pb 1002 0), (3, .pb 1003 0), (4, .t (.v (.int .i64 (IL r - i))))], [(1900, some (.box [.t (.sl 1 ((Au r).b.map CG)), .t (.v (.int .i64 ((Au r).p + (2 + 2 * i))))])), (1002, some (.box [.t (.v (.string ⟨#[]⟩)), .t (.v (.string ⟨#[]⟩)), .nil, .nil])), (1003, some (.box [.t (.v (.string ⟨#[]⟩)), .t (.v (.string ⟨#[]⟩)), .h 1907, .h 1014])), (1014, some (.arr true 1 ((IJ (r.nx 3) (RH r)).map AH))), (1907, some (.arr true 2 ((DA ((Au r).nx 2) i).map Aw)))]⟩) (fun p => (IL r).toNat - p.1) ⟨0, by omega⟩ rfl ?_ ?_
  ·simp -implicitDefEqProofs only [go_sem, hh, Int.reduceAdd, seval]
   simp [DA]
  ·rintro ⟨i, hi⟩
   dsimp only
   have hlen := Iy ((Au r).nx 2) i
   by_cases hlt : IL r - (i : Int) > 0
   ·simp -implicitDefEqProofs only [hlt, decide_true, tn, go_sem, hh, Int.reduceAdd, seval]
    with_reducible repeat' (first | apply ai | intro _ | ((first | apply s1 | apply s2 | apply s3 | apply s4) <;> intro hb <;> simp -implicitDefEqProofs only [hb, go_sem, hh, Int.reduceAdd, seval] <;> try simp only [qz] at hb))
    all_goals (try simp only [maxLen, tn] at *)
    all_goals first | rfl | omega | decide | assumption | skip
    refine AE [] (ι := {p : Nat × Bool // p.1 ≤ (DA ((Au r).nx 2) i).length ∧ (p.2 = true ↔ ∃ j, j < p.1 ∧ (DA ((Au r).nx 2) i).getD j default = (ER ((Au r).nx (2 + 2 * (i : Int)))))}) (fun ⟨⟨k, b⟩, _⟩ => ⟨[(0, .pb 1900 0), (2, .pb 1002 0), (3, .pb 1003 0), (4, .t (.v (.int .i64 (IL r - i)))), (5, .pb 1005 0), (6, .t (.v (.bool b))), (7, .t (.v (.int .i64 k)))], [(1900, some (.box [.t (.sl 1 ((Au r).b.map CG)), .t (.v (.int .i64 ((Au r).p + (4 + 2 * i))))])), (1002, some (.box [.t (.v (.string ⟨#[]⟩)), .t (.v (.string ⟨#[]⟩)), .nil, .nil])), (1003, some (.box [.t (.v (.string ⟨#[]⟩)), .t (.v (.string ⟨#[]⟩)), .h 1907, .h 1014])), (1005, some (.box ((Aw (ER ((Au r).nx (2 + 2 * (i : Int))))).map .t))), (1014, some (.arr true 1 ((IJ (r.nx 3) (RH r)).map AH))), (1907, some (.arr true 2 ((DA ((Au r).nx 2) i).map Aw)))]⟩) (fun p => (DA ((Au r).nx 2) i).length - p.1.1) ⟨(0, false), by simp, by simp⟩ rfl ?_ ?_
    ·simp -implicitDefEqProofs only [go_sem, hh, Int.reduceAdd, seval]
     try simp
     try omega
    ·rintro ⟨⟨k, b⟩, hk, hb2⟩
     dsimp only at hk hb2 ⊢
     by_cases hlt2 : (k : Int) < (DA ((Au r).nx 2) i).length
     ·cases b
      ·have hn : ¬ ∃ j, j < k ∧ (DA ((Au r).nx 2) i).getD j default = (ER ((Au r).nx (2 + 2 * (i : Int)))) := fun z => by have := hb2.2 z; cases this
       simp -implicitDefEqProofs only [hlt2, decide_true, tn, go_sem, hh, Int.reduceAdd, seval]
       with_reducible repeat' (first | apply ai | intro _ | ((first | apply s1 | apply s2 | apply s3 | apply s4) <;> intro hb <;> simp -implicitDefEqProofs only [hb, go_sem, hh, Int.reduceAdd, seval] <;> try simp only [qz] at hb))
       all_goals (try simp only [maxLen, tn, ut, uu] at *)
       all_goals first | rfl | omega | decide | assumption | skip
       refine ⟨⟨(k + 1, decide ((DA ((Au r).nx 2) i).getD k default = (ER ((Au r).nx (2 + 2 * (i : Int)))))), by dsimp only; omega, by dsimp only; rw [decide_eq_true_eq]; exact ⟨fun z => ⟨k, by omega, z⟩, fun ⟨j, hj, z⟩ => by by_cases e : j = k; (rw [← e]; exact z); (exact absurd ⟨j, by omega, z⟩ hn)⟩⟩, by dsimp only; omega, ?_⟩
       simp -implicitDefEqProofs only [go_sem, hh, Int.reduceAdd, seval]
       simp [C3]
      ·have hn : ∃ j, j < k ∧ (DA ((Au r).nx 2) i).getD j default = (ER ((Au r).nx (2 + 2 * (i : Int)))) := hb2.1 rfl
       simp -implicitDefEqProofs only [hlt2, decide_true, tn, go_sem, hh, Int.reduceAdd, seval]
       with_reducible repeat' (first | apply ai | intro _ | ((first | apply s1 | apply s2 | apply s3 | apply s4) <;> intro hb <;> simp -implicitDefEqProofs only [hb, go_sem, hh, Int.reduceAdd, seval] <;> try simp only [qz] at hb))
       all_goals (try simp only [maxLen, tn] at *)
       all_goals first | rfl | omega | decide | assumption | skip
       refine ⟨⟨(k + 1, true), by dsimp only; omega, by dsimp only; exact ⟨fun _ => hn.elim fun j z => ⟨j, by omega, z.2⟩, fun _ => rfl⟩⟩, by dsimp only; omega, ?_⟩
       simp -implicitDefEqProofs only [go_sem, hh, Int.reduceAdd, seval]
       try simp
     ·have hE : b = true ↔ (ER ((Au r).nx (2 + 2 * (i : Int)))) ∈ DA ((Au r).nx 2) i := hb2.trans ⟨fun ⟨j, hj, z⟩ => z ▸ AC (by omega), fun z => Classical.byContradiction fun f => by
        have := BC (P := fun x : Ad => ¬ x = (ER ((Au r).nx (2 + 2 * (i : Int))))) (xs := DA ((Au r).nx 2) i) (fun j hj e => f ⟨j, by omega, e⟩) _ z
        exact this rfl⟩
      cases b
      ·have hm : ¬ ER (((Au r).nx 2).nx (2 * (i : Int))) ∈ DA ((Au r).nx 2) i := fun z => by rw [Bm] at z; have := hE.2 z; cases this
       have hs := dZ hm
       simp -implicitDefEqProofs only [hlt2, decide_false, go_sem, hh, Int.reduceAdd, seval]
       with_reducible repeat' (first | apply ai | intro _ | ((first | apply s1 | apply s2 | apply s3 | apply s4) <;> intro hb <;> simp -implicitDefEqProofs only [hb, go_sem, hh, Int.reduceAdd, seval] <;> try simp only [qz] at hb))
       all_goals (try simp only [maxLen, tn] at *)
       all_goals first | rfl | omega | decide | assumption | skip
       refine Ai (Le.renb 1003 2 1053 1907 rfl rfl rfl rfl) (Ae ?_)
       simp -implicitDefEqProofs only [go_sem, hh, Int.reduceAdd, seval]
       with_reducible repeat' (first | apply ai | intro _ | ((first | apply s1 | apply s2 | apply s3 | apply s4) <;> intro hb <;> simp -implicitDefEqProofs only [hb, go_sem, hh, Int.reduceAdd, seval] <;> try simp only [qz] at hb))
       all_goals (try simp only [maxLen, tn] at *)
       all_goals first | rfl | omega | decide | assumption | skip
       refine ⟨⟨i + 1, by omega⟩, by dsimp only; omega, ?_⟩
       simp -implicitDefEqProofs only [hs, go_sem, hh, Int.reduceAdd, seval]
       simp [Jg, Bm]
       try omega
      ·have hm : ER (((Au r).nx 2).nx (2 * (i : Int))) ∈ DA ((Au r).nx 2) i := by rw [Bm]; exact hE.1 rfl
       have hs := da hm
       simp -implicitDefEqProofs only [hlt2, decide_false, go_sem, hh, Int.reduceAdd, seval]
       with_reducible repeat' (first | apply ai | intro _ | ((first | apply s1 | apply s2 | apply s3 | apply s4) <;> intro hb <;> simp -implicitDefEqProofs only [hb, go_sem, hh, Int.reduceAdd, seval] <;> try simp only [qz] at hb))
       all_goals (try simp only [maxLen, tn] at *)
       all_goals first | rfl | omega | decide | assumption | skip
       refine Ae ?_
       simp -implicitDefEqProofs only [go_sem, hh, Int.reduceAdd, seval]
       with_reducible repeat' (first | apply ai | intro _ | ((first | apply s1 | apply s2 | apply s3 | apply s4) <;> intro hb <;> simp -implicitDefEqProofs only [hb, go_sem, hh, Int.reduceAdd, seval] <;> try simp only [qz] at hb))
       all_goals (try simp only [maxLen, tn] at *)
       all_goals first | rfl | omega | decide | assumption | skip
       refine ⟨⟨i + 1, by omega⟩, by dsimp only; omega, ?_⟩
       simp -implicitDefEqProofs only [hs, go_sem, hh, Int.reduceAdd, seval]
       try simp
       try omega
   ·have hz : (i : Int) = IL r := by omega
    have hz2 : (IL r).toNat = i := by omega
    have e1 : Nq r = (Au r).nx (2 + 2 * (i : Int)) := by unfold Nq; rw [hz]
    have e2 : WM r = ⟨ju, DA ((Au r).nx 2) i, IJ (r.nx 3) (RH r)⟩ := by unfold WM; rw [hf, hz2]
    rw [e1, e2]
    simp -implicitDefEqProofs only [hlt, decide_false, go_sem, hh, Int.reduceAdd, seval]
    with_reducible repeat' (first | apply ai | intro _ | ((first | apply s1 | apply s2 | apply s3 | apply s4) <;> intro hb <;> simp -implicitDefEqProofs only [hb, go_sem, hh, Int.reduceAdd, seval] <;> try simp only [qz] at hb))
    all_goals (try simp only [maxLen, tn] at *)
    all_goals first | rfl | omega | decide | assumption | skip
 ·have hf : LL r = ER r := if_neg q
  simp -implicitDefEqProofs only [Tryz.f112, q, decide_false, go_sem, hh, Int.reduceAdd, seval]
  with_reducible repeat' (first | apply ai | intro _ | ((first | apply s1 | apply s2 | apply s3 | apply s4) <;> intro hb <;> simp -implicitDefEqProofs only [hb, go_sem, hh, Int.reduceAdd, seval] <;> try simp only [qz] at hb))
  all_goals (try simp only [maxLen, tn] at *)
  all_goals first | rfl | omega | decide | assumption | skip
  refine Ai (Le.nilb 1003 2 1907 true 2 rfl rfl rfl) (Ae ?_)
  simp -implicitDefEqProofs only [go_sem, hh, Int.reduceAdd, seval]
  with_reducible repeat' (first | apply ai | intro _ | ((first | apply s1 | apply s2 | apply s3 | apply s4) <;> intro hb <;> simp -implicitDefEqProofs only [hb, go_sem, hh, Int.reduceAdd, seval] <;> try simp only [qz] at hb))
  all_goals (try simp only [maxLen, tn] at *)
  all_goals first | rfl | omega | decide | assumption | skip
  refine AE [] (ι := {i : Nat // (i : Int) ≤ IL r}) (fun ⟨i, _⟩ => ⟨[(0, .pb 1900 0), (2, .pb 1002 0), (3, .pb 1003 0), (4, .t (.v (.int .i64 (IL r - i))))], [(1900, some (.box [.t (.sl 1 ((Au r).b.map CG)), .t (.v (.int .i64 ((Au r).p + (2 + 2 * i))))])), (1002, some (.box [.t (.v (.string ⟨#[]⟩)), .t (.v (.string ⟨#[]⟩)), .nil, .nil])), (1003, some (.box [.t (.v (.string (ER r).user)), .t (.v (.string (ER r).domain)), .h 1907, .h 1014])), (1014, some (.arr true 1 ((IJ (r.nx 3) (RH r)).map AH))), (1907, some (.arr true 2 ((DA ((Au r).nx 2) i).map Aw)))]⟩) (fun p => (IL r).toNat - p.1) ⟨0, by omega⟩ rfl ?_ ?_
  ·simp -implicitDefEqProofs only [go_sem, hh, Int.reduceAdd, seval]
   simp [DA]
  ·rintro ⟨i, hi⟩
   dsimp only
   have hlen := Iy ((Au r).nx 2) i
   by_cases hlt : IL r - (i : Int) > 0
   ·simp -implicitDefEqProofs only [hlt, decide_true, tn, go_sem, hh, Int.reduceAdd, seval]
    with_reducible repeat' (first | apply ai | intro _ | ((first | apply s1 | apply s2 | apply s3 | apply s4) <;> intro hb <;> simp -implicitDefEqProofs only [hb, go_sem, hh, Int.reduceAdd, seval] <;> try simp only [qz] at hb))
    all_goals (try simp only [maxLen, tn] at *)
    all_goals first | rfl | omega | decide | assumption | skip
    refine AE [] (ι := {p : Nat × Bool // p.1 ≤ (DA ((Au r).nx 2) i).length ∧ (p.2 = true ↔ ∃ j, j < p.1 ∧ (DA ((Au r).nx 2) i).getD j default = (ER ((Au r).nx (2 + 2 * (i : Int)))))}) (fun ⟨⟨k, b⟩, _⟩ => ⟨[(0, .pb 1900 0), (2, .pb 1002 0), (3, .pb 1003 0), (4, .t (.v (.int .i64 (IL r - i)))), (5, .pb 1005 0), (6, .t (.v (.bool b))), (7, .t (.v (.int .i64 k)))], [(1900, some (.box [.t (.sl 1 ((Au r).b.map CG)), .t (.v (.int .i64 ((Au r).p + (4 + 2 * i))))])), (1002, some (.box [.t (.v (.string ⟨#[]⟩)), .t (.v (.string ⟨#[]⟩)), .nil, .nil])), (1003, some (.box [.t (.v (.string (ER r).user)), .t (.v (.string (ER r).domain)), .h 1907, .h 1014])), (1005, some (.box ((Aw (ER ((Au r).nx (2 + 2 * (i : Int))))).map .t))), (1014, some (.arr true 1 ((IJ (r.nx 3) (RH r)).map AH))), (1907, some (.arr true 2 ((DA ((Au r).nx 2) i).map Aw)))]⟩) (fun p => (DA ((Au r).nx 2) i).length - p.1.1) ⟨(0, false), by simp, by simp⟩ rfl ?_ ?_
    ·simp -implicitDefEqProofs only [go_sem, hh, Int.reduceAdd, seval]
     try simp
     try omega
    ·rintro ⟨⟨k, b⟩, hk, hb2⟩
     dsimp only at hk hb2 ⊢
     by_cases hlt2 : (k : Int) < (DA ((Au r).nx 2) i).length
     ·cases b
      ·have hn : ¬ ∃ j, j < k ∧ (DA ((Au r).nx 2) i).getD j default = (ER ((Au r).nx (2 + 2 * (i : Int)))) := fun z => by have := hb2.2 z; cases this
       simp -implicitDefEqProofs only [hlt2, decide_true, tn, go_sem, hh, Int.reduceAdd, seval]
       with_reducible repeat' (first | apply ai | intro _ | ((first | apply s1 | apply s2 | apply s3 | apply s4) <;> intro hb <;> simp -implicitDefEqProofs only [hb, go_sem, hh, Int.reduceAdd, seval] <;> try simp only [qz] at hb))
       all_goals (try simp only [maxLen, tn, ut, uu] at *)
       all_goals first | rfl | omega | decide | assumption | skip
       refine ⟨⟨(k + 1, decide ((DA ((Au r).nx 2) i).getD k default = (ER ((Au r).nx (2 + 2 * (i : Int)))))), by dsimp only; omega, by dsimp only; rw [decide_eq_true_eq]; exact ⟨fun z => ⟨k, by omega, z⟩, fun ⟨j, hj, z⟩ => by by_cases e : j = k; (rw [← e]; exact z); (exact absurd ⟨j, by omega, z⟩ hn)⟩⟩, by dsimp only; omega, ?_⟩
       simp -implicitDefEqProofs only [go_sem, hh, Int.reduceAdd, seval]
       simp [C3]
      ·have hn : ∃ j, j < k ∧ (DA ((Au r).nx 2) i).getD j default = (ER ((Au r).nx (2 + 2 * (i : Int)))) := hb2.1 rfl
       simp -implicitDefEqProofs only [hlt2, decide_true, tn, go_sem, hh, Int.reduceAdd, seval]
       with_reducible repeat' (first | apply ai | intro _ | ((first | apply s1 | apply s2 | apply s3 | apply s4) <;> intro hb <;> simp -implicitDefEqProofs only [hb, go_sem, hh, Int.reduceAdd, seval] <;> try simp only [qz] at hb))
       all_goals (try simp only [maxLen, tn] at *)
       all_goals first | rfl | omega | decide | assumption | skip
       refine ⟨⟨(k + 1, true), by dsimp only; omega, by dsimp only; exact ⟨fun _ => hn.elim fun j z => ⟨j, by omega, z.2⟩, fun _ => rfl⟩⟩, by dsimp only; omega, ?_⟩
       simp -implicitDefEqProofs only [go_sem, hh, Int.reduceAdd, seval]
       try simp
     ·have hE : b = true ↔ (ER ((Au r).nx (2 + 2 * (i : Int)))) ∈ DA ((Au r).nx 2) i := hb2.trans ⟨fun ⟨j, hj, z⟩ => z ▸ AC (by omega), fun z => Classical.byContradiction fun f => by
        have := BC (P := fun x : Ad => ¬ x = (ER ((Au r).nx (2 + 2 * (i : Int))))) (xs := DA ((Au r).nx 2) i) (fun j hj e => f ⟨j, by omega, e⟩) _ z
        exact this rfl⟩
      cases b
      ·have hm : ¬ ER (((Au r).nx 2).nx (2 * (i : Int))) ∈ DA ((Au r).nx 2) i := fun z => by rw [Bm] at z; have := hE.2 z; cases this
       have hs := dZ hm
       simp -implicitDefEqProofs only [hlt2, decide_false, go_sem, hh, Int.reduceAdd, seval]
       with_reducible repeat' (first | apply ai | intro _ | ((first | apply s1 | apply s2 | apply s3 | apply s4) <;> intro hb <;> simp -implicitDefEqProofs only [hb, go_sem, hh, Int.reduceAdd, seval] <;> try simp only [qz] at hb))
       all_goals (try simp only [maxLen, tn] at *)
       all_goals first | rfl | omega | decide | assumption | skip
       refine Ai (Le.renb 1003 2 1053 1907 rfl rfl rfl rfl) (Ae ?_)
       simp -implicitDefEqProofs only [go_sem, hh, Int.reduceAdd, seval]
       with_reducible repeat' (first | apply ai | intro _ | ((first | apply s1 | apply s2 | apply s3 | apply s4) <;> intro hb <;> simp -implicitDefEqProofs only [hb, go_sem, hh, Int.reduceAdd, seval] <;> try simp only [qz] at hb))
       all_goals (try simp only [maxLen, tn] at *)
       all_goals first | rfl | omega | decide | assumption | skip
       refine ⟨⟨i + 1, by omega⟩, by dsimp only; omega, ?_⟩
       simp -implicitDefEqProofs only [hs, go_sem, hh, Int.reduceAdd, seval]
       simp [Jg, Bm]
       try omega
      ·have hm : ER (((Au r).nx 2).nx (2 * (i : Int))) ∈ DA ((Au r).nx 2) i := by rw [Bm]; exact hE.1 rfl
       have hs := da hm
       simp -implicitDefEqProofs only [hlt2, decide_false, go_sem, hh, Int.reduceAdd, seval]
       with_reducible repeat' (first | apply ai | intro _ | ((first | apply s1 | apply s2 | apply s3 | apply s4) <;> intro hb <;> simp -implicitDefEqProofs only [hb, go_sem, hh, Int.reduceAdd, seval] <;> try simp only [qz] at hb))
       all_goals (try simp only [maxLen, tn] at *)
       all_goals first | rfl | omega | decide | assumption | skip
       refine Ae ?_
       simp -implicitDefEqProofs only [go_sem, hh, Int.reduceAdd, seval]
       with_reducible repeat' (first | apply ai | intro _ | ((first | apply s1 | apply s2 | apply s3 | apply s4) <;> intro hb <;> simp -implicitDefEqProofs only [hb, go_sem, hh, Int.reduceAdd, seval] <;> try simp only [qz] at hb))
       all_goals (try simp only [maxLen, tn] at *)
       all_goals first | rfl | omega | decide | assumption | skip
       refine ⟨⟨i + 1, by omega⟩, by dsimp only; omega, ?_⟩
       simp -implicitDefEqProofs only [hs, go_sem, hh, Int.reduceAdd, seval]
       try simp
       try omega
   ·have hz : (i : Int) = IL r := by omega
    have hz2 : (IL r).toNat = i := by omega
    have e1 : Nq r = (Au r).nx (2 + 2 * (i : Int)) := by unfold Nq; rw [hz]
    have e2 : WM r = ⟨ER r, DA ((Au r).nx 2) i, IJ (r.nx 3) (RH r)⟩ := by unfold WM; rw [hf, hz2]
    rw [e1, e2]
    simp -implicitDefEqProofs only [hlt, decide_false, go_sem, hh, Int.reduceAdd, seval]
    with_reducible repeat' (first | apply ai | intro _ | ((first | apply s1 | apply s2 | apply s3 | apply s4) <;> intro hb <;> simp -implicitDefEqProofs only [hb, go_sem, hh, Int.reduceAdd, seval] <;> try simp only [qz] at hb))
    all_goals (try simp only [maxLen, tn] at *)
    all_goals first | rfl | omega | decide | assumption | skip
end
instance (n : Int) : Decidable (Jm n) := by unfold Jm; infer_instance
theorem YL (s : ByteArray) : QQ s ↔ (∀ b ∈ bl s, Jm (b.toNat : Int)) ∧ 1 ≤ s.size ∧ s.size ≤ 8 :=
 ⟨fun h => ⟨fun b hb => by
   obtain ⟨j, hj, e⟩ := Gj hb
   rw [← e]; exact h.1 j hj, h.2⟩, fun h => ⟨fun j hj => by
   obtain ⟨b, hb, e⟩ := Nn hj
   rw [e]; exact h.1 b hb, h.2⟩⟩
instance (s : ByteArray) : Decidable (QQ s) := decidable_of_iff _ (YL s).symm
instance (s : ByteArray) : Decidable (Di s) := by unfold Di; infer_instance
instance (s : ByteArray) : Decidable (HI s) := decidable_of_iff _ (GV s).symm
theorem Zh : ∀ s ∈ pO, Di s := by decide +kernel
theorem bh : ∀ s ∈ sW, QQ s := by decide +kernel
theorem aG : ∀ s ∈ rC, HI s := by decide +kernel
theorem Ow {r : Rd} (h : 0 ≤ r.p) (h1 : r.p ≤ 999999990) : BK (ER r) :=
 ⟨bh _ (Gx h (by omega) (by decide)), Zh _ (Gx (r := r.nx 1) (by rw [AK]; omega) (by rw [AK]; omega) (by decide))⟩
theorem aI {r : Rd} (h : 0 ≤ r.p) (h1 : r.p ≤ 999999990) : HI (aH r) := aG _ (Gx h (by omega) (by decide))
theorem Y2 {r : Rd} {m : Int} (h : 0 ≤ r.p) (h1 : r.p ≤ 999999900) (h2 : 0 ≤ m) (h3 : m ≤ 12) : CU (IJ r m) := by
 have hb := CA (r := r) (n := m + 1) h (by omega)
 unfold IJ
 refine ⟨fun s hs => ?_, by rw [NG]; omega⟩
 unfold Kj at hs
 obtain ⟨j, hj, rfl⟩ := List.mem_map.1 hs
 rw [List.mem_range] at hj
 exact aI (by rw [AK, AK]; omega) (by rw [AK, AK]; omega)
theorem MG {r : Rd} (h : 0 ≤ r.p) (h1 : r.p ≤ 999999800) : Cr (WM r) := by
 have h2 := WN h (by omega)
 have h3 := MI h (by omega)
 have h4 := WL h (by omega)
 obtain ⟨k, hk⟩ : ∃ k, (IL r).toNat = k + 1 := ⟨(IL r).toNat - 1, by omega⟩
 refine ⟨fun a ha => ?_, Ht _ _, ?_, ⟨?_, ?_⟩, Y2 (by rw [AK]; omega) (by rw [AK]; omega) (by omega) (by omega)⟩
 ·obtain ⟨j, hj, rfl⟩ := Mg ha
  exact Ow (by rw [AK, AK]; omega) (by rw [AK, AK]; omega)
 ·show BK (LL r) ∨ AU (LL r)
  unfold LL; split
  ·exact .inr ⟨rfl, rfl⟩
  ·exact .inl (Ow h (by omega))
 ·show 1 ≤ (DA _ (IL r).toNat).length
  rw [hk]; exact ky _ _
 ·have := Iy ((Au r).nx 2) (IL r).toNat
  show (DA _ (IL r).toNat).length ≤ 4
  omega
theorem CJ {a : Ad} (h : BK a ∨ AU a) : HN a := by
 rcases h with h | h
 ·have h1 := (Ia h.1).2
  have h2 := (Co h.2).2
  exact ⟨by show a.user.size ≤ 1048576; omega, by show a.domain.size ≤ 1048576; omega⟩
 ·obtain ⟨u, d⟩ := a
  obtain ⟨h1, h2⟩ := h
  dsimp only at h1 h2
  subst h1; subst h2
  exact ⟨by show 0 ≤ 1048576; decide, by show 0 ≤ 1048576; decide⟩
theorem GT {b : List ByteArray} (h : CU b) : GW BY b := ⟨by have := h.2; omega, fun s hs => by
 have := (h.1 s hs).2
 show s.size ≤ 1048576; omega⟩
theorem Ib {m : Ml} (h : Cr m) : Kc m := ⟨CJ h.2.2.1, ⟨by have := h.2.2.2.1.2; omega, fun a ha => CJ (.inl (h.1 a ha))⟩, GT h.2.2.2.2⟩
theorem YJ {x : Im} (h : DM x) : F6 x := ⟨CJ h.2.2.2.1, ⟨by have := h.2.2.2.2.1.2; omega, fun r hr => CJ (.inl (h.1 r hr).1)⟩, GT h.2.2.2.2.2⟩
theorem GX {s : Sp} (h : Bl s) : F7 s := ⟨by have := h.2.2.2; omega, fun x hx => YJ (h.1 x hx).1⟩
structure Ds where
 s : Sp
 w : Int
 r : Rd
def Il (z : Ds) : Int := z.w + Aa z.r 5
def Fx (z : Ds) : Prop := (z.s.items.length : Int) = 0 ∨ Aa (z.r.nx 1) 2 = 0
def PV (z : Ds) : Rd := if (z.s.items.length : Int) = 0 then z.r.nx 1 else z.r.nx 2
def PU (z : Ds) : Int := Aa (z.r.nx 2) z.s.items.length
def Zm (z : Ds) : Int := Aa (z.r.nx 3) (z.s.items.getD (PU z).toNat default).to.length
open Classical in
noncomputable def CC (z : Ds) : Ds :=
 if Fx z then (if B4 z.s then ⟨Kg z.s (WM (PV z)) (Il z), Il z, Nq (PV z)⟩ else ⟨z.s, Il z, PV z⟩)
 else if Aa (z.r.nx 4) 2 = 0 then ⟨Cw z.s (PU z).toNat (Zm z).toNat, Il z, z.r.nx 5⟩
 else ⟨(I6 z.s (PU z).toNat (Zm z).toNat (Il z)).1, Il z, z.r.nx 5⟩
noncomputable def Ik (z : Ds) : Nat → Ds
 | 0 => z
 | n + 1 => CC (Ik z n)
theorem Je {z : Ds} (h : Fx z) (h2 : B4 z.s) : CC z = ⟨Kg z.s (WM (PV z)) (Il z), Il z, Nq (PV z)⟩ := by unfold CC; rw [if_pos h, if_pos h2]
theorem Jf {z : Ds} (h : Fx z) (h2 : ¬ B4 z.s) : CC z = ⟨z.s, Il z, PV z⟩ := by unfold CC; rw [if_pos h, if_neg h2]
theorem NW {z : Ds} (h : ¬ Fx z) (h2 : Aa (z.r.nx 4) 2 = 0) : CC z = ⟨Cw z.s (PU z).toNat (Zm z).toNat, Il z, z.r.nx 5⟩ := by unfold CC; rw [if_neg h, if_pos h2]
theorem NX {z : Ds} (h : ¬ Fx z) (h2 : ¬ Aa (z.r.nx 4) 2 = 0) : CC z = ⟨(I6 z.s (PU z).toNat (Zm z).toNat (Il z)).1, Il z, z.r.nx 5⟩ := by unfold CC; rw [if_neg h, if_neg h2]
structure Oa (r : Rd) (i : Nat) (z : Ds) : Prop where
 sp : Bl z.s
 w0 : 0 ≤ z.w
 w1 : z.w ≤ 4 * i
 p0 : r.p ≤ z.r.p
 p1 : z.r.p ≤ r.p + 1 + 30 * i
 b : z.r.b = r.b
theorem YQ {s : Sp} {i k : Nat} {w : Int} (h : Bl s) (hi : i < s.items.length) (hk : k < (s.items.getD i default).to.length) (hw : 0 ≤ w) : Bl (I6 s i k w).1 := by
 unfold I6; split
 ·exact h
 ·exact LK h hi hk (by assumption) hw
theorem ck {r : Rd} {i : Nat} {z : Ds} (h : Oa r i z) (h0 : 0 ≤ r.p) (h1 : r.p ≤ 999990000) (hi : i ≤ 9) (ha : ¬ Fx z) : (0 ≤ PU z ∧ PU z < z.s.items.length) ∧ 0 ≤ Zm z ∧ Zm z < (z.s.items.getD (PU z).toNat default).to.length := by
 have a1 := h.p0; have a2 := h.p1
 have hb := CA (r := z.r.nx 2) (n := z.s.items.length) (by rw [AK]; omega) (by rw [AK]; omega)
 have hc := CA (r := z.r.nx 3) (n := (z.s.items.getD (PU z).toNat default).to.length) (by rw [AK]; omega) (by rw [AK]; omega)
 have hl : ¬ (z.s.items.length : Int) = 0 := fun e => ha (.inl e)
 have q1 : 0 ≤ PU z ∧ PU z < z.s.items.length := by unfold PU; omega
 have hx := (h.sp.1 _ (AC (xs := z.s.items) (j := (PU z).toNat) (by omega))).1.2.2.2.2.1.1
 exact ⟨q1, by unfold Zm; omega, by unfold Zm; omega⟩
theorem ci {r : Rd} {i : Nat} {z : Ds} (h : Oa r i z) : (PV z).b = r.b ∧ z.r.p + 1 ≤ (PV z).p ∧ (PV z).p ≤ z.r.p + 2 := by
 unfold PV; split
 ·exact ⟨h.b, by rw [AK]; omega, by rw [AK]; omega⟩
 ·exact ⟨h.b, by rw [AK]; omega, by rw [AK]; omega⟩
theorem cj {r : Rd} {i : Nat} {z : Ds} (h : Oa r i z) (h0 : 0 ≤ r.p) (h1 : r.p ≤ 999990000) (hi : i ≤ 9) : z.w ≤ Il z ∧ Il z ≤ z.w + 4 := by
 have a1 := h.p0; have a2 := h.p1
 have hb := CA (r := z.r) (n := 5) (by omega) (by omega)
 unfold Il; omega
theorem Zn {r : Rd} {i : Nat} {z : Ds} (h : Oa r i z) (h0 : 0 ≤ r.p) (h1 : r.p ≤ 999990000) (hi : i ≤ 9) : Oa r (i + 1) (CC z) := by
 have a1 := h.p0; have a2 := h.p1; have a3 := h.w0; have a4 := h.w1
 have hw := cj h h0 h1 hi
 have hR := ci h
 by_cases ha : Fx z
 ·by_cases hr : B4 z.s
  ·rw [Je ha hr]
   have hm := dI (r := PV z) (by omega) (by omega)
   exact ⟨HQ h.sp (MG (by omega) (by omega)) ⟨by omega, by omega⟩ hr, by show 0 ≤ Il z; omega, by show Il z ≤ _; omega, by show r.p ≤ (Nq _).p; omega, by show (Nq _).p ≤ _; omega, by show (Nq _).b = _; rw [hm.1, hR.1]⟩
  ·rw [Jf ha hr]
   exact ⟨h.sp, by show 0 ≤ Il z; omega, by show Il z ≤ _; omega, by show r.p ≤ (PV z).p; omega, by show (PV z).p ≤ _; omega, hR.1⟩
 ·obtain ⟨⟨i0, i1⟩, k0, k1⟩ := ck h h0 h1 hi ha
  by_cases hd : Aa (z.r.nx 4) 2 = 0
  ·rw [NW ha hd]
   exact ⟨EE h.sp (by omega) (by omega), by show 0 ≤ Il z; omega, by show Il z ≤ _; omega, by show r.p ≤ z.r.p + 5; omega, by show z.r.p + 5 ≤ _; omega, h.b⟩
  ·rw [NX ha hd]
   exact ⟨YQ h.sp (by omega) (by omega) (by omega), by show 0 ≤ Il z; omega, by show Il z ≤ _; omega, by show r.p ≤ z.r.p + 5; omega, by show z.r.p + 5 ≤ _; omega, h.b⟩
def Jd (r : Rd) : Ds := ⟨⟨0, []⟩, 0, r.nx 1⟩
theorem Tk : Bl ⟨0, []⟩ := ⟨fun x hx => (by cases hx), fun j _ hj => absurd hj (Nat.not_lt_zero _), ⟨by decide, by decide⟩, Nat.zero_le _⟩
theorem L0 {r : Rd} (h0 : 0 ≤ r.p) (h1 : r.p ≤ 999990000) : ∀ i : Nat, i ≤ 9 → Oa r i (Ik (Jd r) i)
 | 0, _ => ⟨Tk, Int.le_refl 0, Int.le_refl 0, by show r.p ≤ r.p + 1; omega, by show r.p + 1 ≤ _; omega, rfl⟩
 | i + 1, h => Zn (L0 h0 h1 i (by omega)) h0 h1 (by omega)
noncomputable def Dz (r : Rd) : Sp := (Ik (Jd r) (Aa r 9).toNat).s
noncomputable def F5 (r : Rd) : Rd := (Ik (Jd r) (Aa r 9).toNat).r
theorem XC {r : Rd} (h0 : 0 ≤ r.p) (h1 : r.p ≤ 999990000) : Bl (Dz r) ∧ (F5 r).b = r.b ∧ r.p ≤ (F5 r).p ∧ (F5 r).p ≤ r.p + 300 := by
 have hb := CA (r := r) (n := 9) h0 (by omega)
 have h := L0 h0 h1 (Aa r 9).toNat (by omega)
 exact ⟨h.sp, h.b, h.p0, by have := h.p1; unfold F5; omega⟩
theorem pS {z : Ds} : z.w + Aa z.r 5 = Il z := rfl
theorem pQ {z : Ds} : Aa (z.r.nx 2) (z.s.items.length : Int) = PU z := rfl
theorem pR {z : Ds} : Aa (z.r.nx 3) ((z.s.items.getD (PU z).toNat default).to.length : Int) = Zm z := rfl
def tV : Mt := HJ (lc D5 l0) (fun p => 0 ≤ p.1.p ∧ p.1.p ≤ 999980000) (fun p => ([D5.enc (F5 p.1)], Wq (Dz p.1)))
section
attribute [local go_sem] HW JS UE O6 O7 UF ow AK Bq BB BD BH Bm Cd Bh Bk lm List.length_append List.length_cons List.length_nil List.map_append List.map_nil Nat.zero_add List.nil_append AS.opn AS.cls AS.nilb AS.renb AS.up Bool.not_false Bool.not_true List.set_set List.set_cons_zero List.set_cons_succ List.set_nil List.mem_singleton forall_eq pS pQ pR ar Ac Ab KR Jb List.take_length List.drop_zero List.length_take List.length_drop List.map_cons
set_option maxHeartbeats 6400000 in
theorem qQ {G : Gt} (hG : Aj G) (hh : G.e 43 = AP HW ∧ G.e 110 = AA 0 JS ∧ G.e 112 = AP UE ∧ G.e 111 = AA 1 O6 ∧ G.e 113 = AA 1 O7 ∧ G.e 114 = AA 1 UF ∧ G.e 32 = AA 0 ow) : Gd G 59 (AP tV) := by
 refine Jh (dp := fun n => !(Nat.beq n 100003)) (fn := Tryz.f59) (n := 1) rfl hG ?_
 rintro ⟨r, ⟨⟩⟩ hpre
 obtain ⟨h1, h2⟩ := hpre
 try dsimp only at h1 h2 ⊢
 have hb := CA (r := r) (n := 9) h1 (by omega)
 obtain ⟨n, hn⟩ : ∃ n : Nat, n = (Aa r 9).toNat := ⟨_, rfl⟩
 have hn2 : Aa r 9 = n := by omega
 have e1 : F5 r = (Ik (Jd r) n).r := by unfold F5; rw [← hn]
 have e2 : Dz r = (Ik (Jd r) n).s := by unfold Dz; rw [← hn]
 rw [e1, e2]
 simp -implicitDefEqProofs only [Tryz.f59, hn2, go_sem, hh, Int.reduceAdd, seval]
 with_reducible repeat' (first | apply ai | intro _ | ((first | apply s1 | apply s2 | apply s3 | apply s4) <;> intro hb <;> simp -implicitDefEqProofs only [hb, go_sem, hh, Int.reduceAdd, seval] <;> try simp only [qz] at hb))
 all_goals (try simp only [maxLen, tn] at *)
 all_goals first | rfl | omega | decide | assumption | skip
 refine Ai (Le.nilb 1003 1 1907 true 5 rfl rfl rfl) (Ai (Le.frzL [1907]) (Ae ?_))
 simp -implicitDefEqProofs only [hn2, go_sem, hh, Int.reduceAdd, seval]
 with_reducible repeat' (first | apply ai | intro _ | ((first | apply s1 | apply s2 | apply s3 | apply s4) <;> intro hb <;> simp -implicitDefEqProofs only [hb, go_sem, hh, Int.reduceAdd, seval] <;> try simp only [qz] at hb))
 all_goals (try simp only [maxLen, tn] at *)
 all_goals first | rfl | omega | decide | assumption | skip
 refine AE [] (ι := {i : Nat // i ≤ n}) (fun ⟨i, _⟩ => ⟨[(0, .pb 1900 0), (2, .pb 1002 0), (3, .pb 1003 0), (4, .t (.v (.int .i64 (Ik (Jd r) i).w))), (5, .t (.v (.int .i64 (n - i))))], [(1900, some (.box [.t (.sl 1 ((Ik (Jd r) i).r.b.map CG)), .t (.v (.int .i64 (Ik (Jd r) i).r.p))])), (1002, some (.box [.t (.v (.int .i64 0)), .nil])), (1003, some (.box ((EH (Ik (Jd r) i).s).map .t)))]⟩) (fun p => n - p.1) ⟨0, by omega⟩ rfl ?_ ?_
 ·simp -implicitDefEqProofs only [go_sem, hh, Int.reduceAdd, seval]
  simp [Ik, Jd, Bq, AK]
  try rfl
 ·rintro ⟨i, hi⟩
  dsimp only
  by_cases hlt : (n : Int) - i > 0
  ·obtain ⟨z, hz⟩ : ∃ z, z = Ik (Jd r) i := ⟨_, rfl⟩
   have hok : Oa r i z := by rw [hz]; exact L0 h1 (by omega) i (by omega)
   have a1 := hok.p0; have a2 := hok.p1; have a3 := hok.w0; have a4 := hok.w1
   have hw := cj hok h1 (by omega) (by omega)
   have hR := ci hok
   have zs := GX hok.sp
   have zo := hok.sp
   rw [← hz]
   by_cases L : (z.s.items.length : Int) = 0
   ·have ha : Fx z := .inl L
    have eR : PV z = z.r.nx 1 := if_pos L
    by_cases hr : B4 z.s
    ·have b1 := Aq hr
     have zm := Ib (MG (r := z.r.nx 1) (by rw [AK]; omega) (by rw [AK]; omega))
     have hs : Ik (Jd r) (i + 1) = _ := (show Ik (Jd r) (i + 1) = CC z by rw [hz]; rfl).trans (eR ▸ Je ha hr)
     simp -implicitDefEqProofs only [hlt, L, b1, eq_self, decide_true, decide_false, tn, go_sem, hh, Int.reduceAdd, seval]
     with_reducible repeat' (first | apply ai | intro _ | ((first | apply s1 | apply s2 | apply s3 | apply s4) <;> intro hb <;> simp -implicitDefEqProofs only [hb, go_sem, hh, Int.reduceAdd, seval] <;> try simp only [qz] at hb))
     all_goals (try simp only [maxLen, tn] at *)
     all_goals first | rfl | omega | decide | assumption | skip
     refine ⟨⟨i + 1, by omega⟩, by dsimp only; omega, ?_⟩
     simp -implicitDefEqProofs only [hs, go_sem, hh, Int.reduceAdd, seval]
     try simp
     try omega
    ·have b1 := AQ hr
     have hs : Ik (Jd r) (i + 1) = _ := (show Ik (Jd r) (i + 1) = CC z by rw [hz]; rfl).trans (eR ▸ Jf ha hr)
     simp -implicitDefEqProofs only [hlt, L, b1, eq_self, decide_true, decide_false, tn, go_sem, hh, Int.reduceAdd, seval]
     with_reducible repeat' (first | apply ai | intro _ | ((first | apply s1 | apply s2 | apply s3 | apply s4) <;> intro hb <;> simp -implicitDefEqProofs only [hb, go_sem, hh, Int.reduceAdd, seval] <;> try simp only [qz] at hb))
     all_goals (try simp only [maxLen, tn] at *)
     all_goals first | rfl | omega | decide | assumption | skip
     refine ⟨⟨i + 1, by omega⟩, by dsimp only; omega, ?_⟩
     simp -implicitDefEqProofs only [hs, go_sem, hh, Int.reduceAdd, seval]
     try simp
     try omega
   ·by_cases Q : Aa (z.r.nx 1) 2 = 0
    ·have ha : Fx z := .inr Q
     have eR : PV z = z.r.nx 2 := if_neg L
     by_cases hr : B4 z.s
     ·have b1 := Aq hr
      have zm := Ib (MG (r := z.r.nx 2) (by rw [AK]; omega) (by rw [AK]; omega))
      have hs : Ik (Jd r) (i + 1) = _ := (show Ik (Jd r) (i + 1) = CC z by rw [hz]; rfl).trans (eR ▸ Je ha hr)
      simp -implicitDefEqProofs only [hlt, L, Q, b1, eq_self, decide_true, decide_false, tn, go_sem, hh, Int.reduceAdd, seval]
      with_reducible repeat' (first | apply ai | intro _ | ((first | apply s1 | apply s2 | apply s3 | apply s4) <;> intro hb <;> simp -implicitDefEqProofs only [hb, go_sem, hh, Int.reduceAdd, seval] <;> try simp only [qz] at hb))
      all_goals (try simp only [maxLen, tn] at *)
      all_goals first | rfl | omega | decide | assumption | skip
      refine ⟨⟨i + 1, by omega⟩, by dsimp only; omega, ?_⟩
      simp -implicitDefEqProofs only [hs, go_sem, hh, Int.reduceAdd, seval]
      try simp
      try omega
     ·have b1 := AQ hr
      have hs : Ik (Jd r) (i + 1) = _ := (show Ik (Jd r) (i + 1) = CC z by rw [hz]; rfl).trans (eR ▸ Jf ha hr)
      simp -implicitDefEqProofs only [hlt, L, Q, b1, eq_self, decide_true, decide_false, tn, go_sem, hh, Int.reduceAdd, seval]
      with_reducible repeat' (first | apply ai | intro _ | ((first | apply s1 | apply s2 | apply s3 | apply s4) <;> intro hb <;> simp -implicitDefEqProofs only [hb, go_sem, hh, Int.reduceAdd, seval] <;> try simp only [qz] at hb))
      all_goals (try simp only [maxLen, tn] at *)
      all_goals first | rfl | omega | decide | assumption | skip
      refine ⟨⟨i + 1, by omega⟩, by dsimp only; omega, ?_⟩
      simp -implicitDefEqProofs only [hs, go_sem, hh, Int.reduceAdd, seval]
      try simp
      try omega
    ·have ha : ¬ Fx z := fun f => f.elim L Q
     obtain ⟨⟨i0, i1⟩, k0, k1⟩ := ck hok h1 (by omega) (by omega) ha
     by_cases D : Aa (z.r.nx 4) 2 = 0
     ·skip
      have hs : Ik (Jd r) (i + 1) = _ := (show Ik (Jd r) (i + 1) = CC z by rw [hz]; rfl).trans (NW ha D)
      simp -implicitDefEqProofs only [hlt, L, Q, D, eq_self, decide_true, decide_false, tn, go_sem, hh, Int.reduceAdd, seval]
      with_reducible repeat' (first | apply ai | intro _ | ((first | apply s1 | apply s2 | apply s3 | apply s4) <;> intro hb <;> simp -implicitDefEqProofs only [hb, go_sem, hh, Int.reduceAdd, seval] <;> try simp only [qz] at hb))
      all_goals (try simp only [maxLen, tn] at *)
      all_goals first | rfl | omega | decide | assumption | skip
      refine ⟨⟨i + 1, by omega⟩, by dsimp only; omega, ?_⟩
      simp -implicitDefEqProofs only [hs, go_sem, hh, Int.reduceAdd, seval]
      try simp
      try omega
     ·skip
      have hs : Ik (Jd r) (i + 1) = _ := (show Ik (Jd r) (i + 1) = CC z by rw [hz]; rfl).trans (NX ha D)
      simp -implicitDefEqProofs only [hlt, L, Q, D, eq_self, decide_true, decide_false, tn, go_sem, hh, Int.reduceAdd, seval]
      with_reducible repeat' (first | apply ai | intro _ | ((first | apply s1 | apply s2 | apply s3 | apply s4) <;> intro hb <;> simp -implicitDefEqProofs only [hb, go_sem, hh, Int.reduceAdd, seval] <;> try simp only [qz] at hb))
      all_goals (try simp only [maxLen, tn] at *)
      all_goals first | rfl | omega | decide | assumption | skip
      refine ⟨⟨i + 1, by omega⟩, by dsimp only; omega, ?_⟩
      simp -implicitDefEqProofs only [hs, go_sem, hh, Int.reduceAdd, seval]
      try simp
      try omega
  ·have hz : i = n := by omega
   subst hz
   have hok := L0 h1 (show r.p ≤ 999990000 by omega) i (by omega)
   have zs := GX hok.sp
   simp -implicitDefEqProofs only [hlt, decide_false, go_sem, hh, Int.reduceAdd, seval]
   with_reducible repeat' (first | apply ai | intro _ | ((first | apply s1 | apply s2 | apply s3 | apply s4) <;> intro hb <;> simp -implicitDefEqProofs only [hb, go_sem, hh, Int.reduceAdd, seval] <;> try simp only [qz] at hb))
   all_goals (try simp only [maxLen, tn] at *)
   all_goals first | rfl | omega | decide | assumption | skip
end
def XB (s : Sp) (k : Nat) (n : Int) : Sp := ⟨s.last, s.items.set k ⟨n, (s.items.getD k default).frm, (s.items.getD k default).to, (s.items.getD k default).body⟩⟩
def OI (s : Sp) (k : Nat) (l : List Rc) : Sp := ⟨s.last, s.items.set k ⟨(s.items.getD k default).id, (s.items.getD k default).frm, l, (s.items.getD k default).body⟩⟩
def FI (l : List Rc) (n : Int) : List Rc := l.set 0 ⟨(l.getD 0 default).addr, n, (l.getD 0 default).next⟩
noncomputable def HR (r : Rd) : Int := Aa (F5 r) (Dz r).items.length
noncomputable def Kh (r : Rd) : Int := Aa ((F5 r).nx 1) 14
noncomputable def Ki (r : Rd) : Sp × Rd :=
 if ((Dz r).items.length : Int) > 0 then
  (if Kh r = 0 then (XB (Dz r) (HR r).toNat (GS ((F5 r).nx 2) [0, 1, 99]), (F5 r).nx 3)
   else if Kh r = 1 then (OI (Dz r) (HR r).toNat [], (F5 r).nx 2)
   else if Kh r = 2 then (OI (Dz r) (HR r).toNat (FI ((Dz r).items.getD (HR r).toNat default).to (GS ((F5 r).nx 2) [-1, 4])), (F5 r).nx 3)
   else if Kh r = 3 then (⟨GS ((F5 r).nx 2) [-1, 0, 1000, 999], (Dz r).items⟩, (F5 r).nx 3)
   else (Dz r, (F5 r).nx 2))
 else (Dz r, F5 r)
theorem cF {r : Rd} (h : ¬ ((Dz r).items.length : Int) > 0) : Ki r = (Dz r, F5 r) := if_neg h
theorem cA {r : Rd} (h : ((Dz r).items.length : Int) > 0) (c : Kh r = 0) : Ki r = (XB (Dz r) (HR r).toNat (GS ((F5 r).nx 2) [0, 1, 99]), (F5 r).nx 3) := by unfold Ki; rw [if_pos h, if_pos c]
theorem cB {r : Rd} (h : ((Dz r).items.length : Int) > 0) (c : Kh r = 1) : Ki r = (OI (Dz r) (HR r).toNat [], (F5 r).nx 2) := by unfold Ki; rw [if_pos h, if_neg (by omega), if_pos c]
theorem cC {r : Rd} (h : ((Dz r).items.length : Int) > 0) (c : Kh r = 2) : Ki r = (OI (Dz r) (HR r).toNat (FI ((Dz r).items.getD (HR r).toNat default).to (GS ((F5 r).nx 2) [-1, 4])), (F5 r).nx 3) := by unfold Ki; rw [if_pos h, if_neg (by omega), if_neg (by omega), if_pos c]
theorem cD {r : Rd} (h : ((Dz r).items.length : Int) > 0) (c : Kh r = 3) : Ki r = (⟨GS ((F5 r).nx 2) [-1, 0, 1000, 999], (Dz r).items⟩, (F5 r).nx 3) := by unfold Ki; rw [if_pos h, if_neg (by omega), if_neg (by omega), if_neg (by omega), if_pos c]
theorem cE {r : Rd} (h : ((Dz r).items.length : Int) > 0) (c : ¬ Kh r = 0 ∧ ¬ Kh r = 1 ∧ ¬ Kh r = 2 ∧ ¬ Kh r = 3) : Ki r = (Dz r, (F5 r).nx 2) := by unfold Ki; rw [if_pos h, if_neg c.1, if_neg c.2.1, if_neg c.2.2.1, if_neg c.2.2.2]
theorem B9 {s : Sp} {k : Nat} {n : Int} : (s.items.map Ay).set k [.v (.int .i64 n), .v (.string (s.items.getD k default).frm.user), .v (.string (s.items.getD k default).frm.domain), .sl 4 ((s.items.getD k default).to.map BI), .sl 1 ((s.items.getD k default).body.map AH)] = (XB s k n).items.map Ay := by
 show _ = (s.items.set k _).map Ay
 rw [List.map_set]; rfl
theorem Az {s : Sp} {k : Nat} {l : List Rc} : (s.items.map Ay).set k [.v (.int .i64 (s.items.getD k default).id), .v (.string (s.items.getD k default).frm.user), .v (.string (s.items.getD k default).frm.domain), .sl 4 (l.map BI), .sl 1 ((s.items.getD k default).body.map AH)] = (OI s k l).items.map Ay := by
 show _ = (s.items.set k _).map Ay
 rw [List.map_set]; rfl
theorem XR {l : List Rc} {n : Int} : (l.map BI).set 0 [.v (.string (l.getD 0 default).addr.user), .v (.string (l.getD 0 default).addr.domain), .v (.int .i64 n), .v (.int .i64 (l.getD 0 default).next)] = (FI l n).map BI := by
 unfold FI
 rw [List.map_set]; rfl
theorem vJ : (0 : Int).toNat = 0 := rfl
theorem oP {r : Rd} : Aa (F5 r) ((Dz r).items.length : Int) = HR r := rfl
theorem oO {r : Rd} : Aa ((F5 r).nx 1) 14 = Kh r := rfl
theorem I5 {s : Sp} (h : F7 s) {k : Nat} {x : Im} (hx : F6 x) : F7 ⟨s.last, s.items.set k x⟩ := ⟨by show ((s.items.set k x).length : Int) ≤ 1048576; rw [List.length_set]; exact h.1, fun y hy => by
 rcases List.mem_or_eq_of_mem_set hy with hy | rfl
 ·exact h.2 y hy
 ·exact hx⟩
theorem eh {r : Rd} (h0 : 0 ≤ r.p) (h1 : r.p ≤ 999980000) : F7 (Ki r).1 ∧ (Ki r).2.b = r.b ∧ r.p ≤ (Ki r).2.p ∧ (Ki r).2.p ≤ r.p + 303 := by
 obtain ⟨a1, a2, a3, a4⟩ := XC h0 (show r.p ≤ 999990000 by omega)
 have zs := GX a1
 by_cases h : ((Dz r).items.length : Int) > 0
 ·have hb := CA (r := F5 r) (n := (Dz r).items.length) (by omega) (by omega)
  have hx : F6 ((Dz r).items.getD (HR r).toNat default) := zs.2 _ (AC (by unfold HR; omega))
  by_cases c0 : Kh r = 0
  ·rw [cA h c0]; exact ⟨I5 zs ⟨hx.1, hx.2.1, hx.2.2⟩, a2, by rw [AK]; omega, by rw [AK]; omega⟩
  ·by_cases c1 : Kh r = 1
   ·rw [cB h c1]; exact ⟨I5 zs ⟨hx.1, ⟨by show ((0 : Nat) : Int) ≤ 1048576; decide, fun _ q => by cases q⟩, hx.2.2⟩, a2, by rw [AK]; omega, by rw [AK]; omega⟩
   ·by_cases c2 : Kh r = 2
    ·rw [cC h c2]
     refine ⟨I5 zs ⟨hx.1, ⟨?_, fun y hy => ?_⟩, hx.2.2⟩, a2, by rw [AK]; omega, by rw [AK]; omega⟩
     ·show ((FI _ _).length : Int) ≤ _
      unfold FI; rw [List.length_set]; exact hx.2.1.1
     ·have hy : y ∈ FI _ _ := hy
      unfold FI at hy
      have hl : 0 < ((Dz r).items.getD (HR r).toNat default).to.length := (a1.1 _ (AC (xs := (Dz r).items) (j := (HR r).toNat) (by unfold HR; omega))).1.2.2.2.2.1.1
      rcases List.mem_or_eq_of_mem_set hy with hy | rfl
      ·exact hx.2.1.2 y hy
      ·have := hx.2.1.2 _ (AC hl)
       exact this
    ·by_cases c3 : Kh r = 3
     ·rw [cD h c3]; exact ⟨zs, a2, by rw [AK]; omega, by rw [AK]; omega⟩
     ·rw [cE h ⟨c0, c1, c2, c3⟩]; exact ⟨zs, a2, by rw [AK]; omega, by rw [AK]; omega⟩
 ·rw [cF h]; exact ⟨zs, a2, a3, by show (F5 r).p ≤ _; omega⟩
def tM : Mt := HJ (lc D5 l0) (fun p => 0 ≤ p.1.p ∧ p.1.p ≤ 999980000) (fun p => ([D5.enc (Ki p.1).2], Wq (Ki p.1).1))
section
attribute [local go_sem] tV HW UU AK Bq BB BD BH Bm Cd Bh Bk lm List.length_append List.length_cons List.length_nil List.map_append List.map_nil Nat.zero_add List.nil_append AS.opn AS.cls AS.nilb AS.renb AS.up Bool.not_false Bool.not_true List.set_set List.set_cons_zero List.set_cons_succ List.set_nil List.mem_singleton forall_eq oP oO GH AY BN JT JU JV E0 E3
set_option maxHeartbeats 6400000 in
theorem p7 {G : Gt} (hG : Aj G) (hh : G.e 59 = AP tV ∧ G.e 43 = AP HW ∧ G.e 60 = AP UU) : Gd G 24 (AP tM) := by
 refine Jh (dp := fun n => !(Nat.beq n 100010 || Nat.beq n 100013)) (fn := Tryz.f24) (n := 1) rfl hG ?_
 rintro ⟨r, ⟨⟩⟩ hpre
 obtain ⟨h1, h2⟩ := hpre
 try dsimp only at h1 h2 ⊢
 obtain ⟨a1, a2, a3, a4⟩ := XC h1 (show r.p ≤ 999990000 by omega)
 have zs := GX a1
 by_cases h : ((Dz r).items.length : Int) > 0
 ·have hb := CA (r := F5 r) (n := (Dz r).items.length) (by omega) (by omega)
  have hk : 0 ≤ HR r ∧ HR r < (Dz r).items.length := by unfold HR; omega
  by_cases c0 : Kh r = 0
  ·skip
   rw [cA h c0]
   simp -implicitDefEqProofs only [Tryz.f24, h, c0, eq_self, decide_true, decide_false, Int.reduceEq, go_sem, hh, Int.reduceAdd, seval]
   with_reducible repeat' (first | apply ai | intro _ | ((first | apply s1 | apply s2 | apply s3 | apply s4) <;> intro hb <;> simp -implicitDefEqProofs only [hb, go_sem, hh, Int.reduceAdd, seval] <;> try simp only [qz] at hb))
   all_goals (try simp only [maxLen, tn] at *)
   all_goals first | rfl | omega | decide | assumption | exact B9 | exact Az | exact Az (l := []) | skip
   all_goals first | (refine Ae ?_) | skip
   simp -implicitDefEqProofs only [go_sem, hh, Int.reduceAdd, seval]
   with_reducible repeat' (first | apply ai | intro _ | ((first | apply s1 | apply s2 | apply s3 | apply s4) <;> intro hb <;> simp -implicitDefEqProofs only [hb, go_sem, hh, Int.reduceAdd, seval] <;> try simp only [qz] at hb))
   all_goals (try simp only [maxLen, tn] at *)
   all_goals first | rfl | omega | decide | assumption | exact B9 | exact Az | exact Az (l := []) | skip
   trace_state
  ·by_cases c1 : Kh r = 1
   ·skip
    rw [cB h c1]
    simp -implicitDefEqProofs only [Tryz.f24, h, c1, eq_self, decide_true, decide_false, Int.reduceEq, go_sem, hh, Int.reduceAdd, seval]
    with_reducible repeat' (first | apply ai | intro _ | ((first | apply s1 | apply s2 | apply s3 | apply s4) <;> intro hb <;> simp -implicitDefEqProofs only [hb, go_sem, hh, Int.reduceAdd, seval] <;> try simp only [qz] at hb))
    all_goals (try simp only [maxLen, tn] at *)
    all_goals first | rfl | omega | decide | assumption | exact B9 | exact Az | exact Az (l := []) | skip
    refine Ai (Le.setn 1006 (HR r).toNat (e' := [.v (.int .i64 ((Dz r).items.getD (HR r).toNat default).id), .v (.string ((Dz r).items.getD (HR r).toNat default).frm.user), .v (.string ((Dz r).items.getD (HR r).toNat default).frm.domain), .sl 4 [], .sl 1 (((Dz r).items.getD (HR r).toNat default).body.map AH)]) rfl (.cons (.same _) (.cons (.same _) (.cons (.same _) (.cons (.nil _) (.cons (.same _) .nil)))))) (Ae ?_)
    simp -implicitDefEqProofs only [go_sem, hh, Int.reduceAdd, seval]
    with_reducible repeat' (first | apply ai | intro _ | ((first | apply s1 | apply s2 | apply s3 | apply s4) <;> intro hb <;> simp -implicitDefEqProofs only [hb, go_sem, hh, Int.reduceAdd, seval] <;> try simp only [qz] at hb))
    all_goals (try simp only [maxLen, tn] at *)
    all_goals first | rfl | omega | decide | assumption | exact B9 | exact Az | exact Az (l := []) | skip
    trace_state
   ·by_cases c2 : Kh r = 2
    ·skip
     rw [cC h c2]
     simp -implicitDefEqProofs only [Tryz.f24, h, c2, eq_self, decide_true, decide_false, Int.reduceEq, go_sem, hh, Int.reduceAdd, seval]
     with_reducible repeat' (first | apply ai | intro _ | ((first | apply s1 | apply s2 | apply s3 | apply s4) <;> intro hb <;> simp -implicitDefEqProofs only [hb, go_sem, hh, Int.reduceAdd, seval] <;> try simp only [qz] at hb))
     all_goals (try simp only [maxLen, tn] at *)
     all_goals first | rfl | omega | decide | assumption | exact B9 | exact Az | exact Az (l := []) | skip
     have hkl : (HR r).toNat < ((Dz r).items.map Ay).length := by rw [lm]; omega
     have hto : 0 < ((Dz r).items.getD (HR r).toNat default).to.length := (a1.1 _ (AC (xs := (Dz r).items) (j := (HR r).toNat) (by omega))).1.2.2.2.2.1.1
     refine W5 1006 1910 2910 (HR r).toNat 3 rfl (aM Ay (by omega)) rfl rfl fun x => Ae ?_
     simp -implicitDefEqProofs only [Rl hkl, NB hkl, List.length_set, vJ, go_sem, hh, Int.reduceAdd, seval]
     with_reducible repeat' (first | apply ai | intro _ | ((first | apply s1 | apply s2 | apply s3 | apply s4) <;> intro hb <;> simp -implicitDefEqProofs only [hb, go_sem, hh, Int.reduceAdd, seval] <;> try simp only [qz] at hb))
     all_goals (try simp only [maxLen, tn] at *)
     all_goals first | rfl | omega | decide | assumption | exact B9 | exact Az | exact Az (l := []) | (show AZ _ = true; rfl) | skip
     refine TB 1006 1910 2910 (HR r).toNat 3 rfl (bC hkl _) rfl rfl rfl rfl (Ae ?_)
     simp -implicitDefEqProofs only [XR, go_sem, hh, Int.reduceAdd, seval]
     with_reducible repeat' (first | apply ai | intro _ | ((first | apply s1 | apply s2 | apply s3 | apply s4) <;> intro hb <;> simp -implicitDefEqProofs only [hb, go_sem, hh, Int.reduceAdd, seval] <;> try simp only [qz] at hb))
     all_goals (try simp only [maxLen, tn] at *)
     all_goals first | rfl | omega | decide | assumption | exact B9 | exact Az | exact Az (l := []) | skip
     trace_state
    ·by_cases c3 : Kh r = 3
     ·skip
      rw [cD h c3]
      simp -implicitDefEqProofs only [Tryz.f24, h, c3, eq_self, decide_true, decide_false, Int.reduceEq, go_sem, hh, Int.reduceAdd, seval]
      with_reducible repeat' (first | apply ai | intro _ | ((first | apply s1 | apply s2 | apply s3 | apply s4) <;> intro hb <;> simp -implicitDefEqProofs only [hb, go_sem, hh, Int.reduceAdd, seval] <;> try simp only [qz] at hb))
      all_goals (try simp only [maxLen, tn] at *)
      all_goals first | rfl | omega | decide | assumption | exact B9 | exact Az | exact Az (l := []) | skip
      all_goals first | (refine Ae ?_) | skip
      simp -implicitDefEqProofs only [go_sem, hh, Int.reduceAdd, seval]
      with_reducible repeat' (first | apply ai | intro _ | ((first | apply s1 | apply s2 | apply s3 | apply s4) <;> intro hb <;> simp -implicitDefEqProofs only [hb, go_sem, hh, Int.reduceAdd, seval] <;> try simp only [qz] at hb))
      all_goals (try simp only [maxLen, tn] at *)
      all_goals first | rfl | omega | decide | assumption | exact B9 | exact Az | exact Az (l := []) | skip
      trace_state
     ·skip
      rw [cE h ⟨c0, c1, c2, c3⟩]
      simp -implicitDefEqProofs only [Tryz.f24, h, c0, c1, c2, c3, eq_self, decide_true, decide_false, Int.reduceEq, go_sem, hh, Int.reduceAdd, seval]
      with_reducible repeat' (first | apply ai | intro _ | ((first | apply s1 | apply s2 | apply s3 | apply s4) <;> intro hb <;> simp -implicitDefEqProofs only [hb, go_sem, hh, Int.reduceAdd, seval] <;> try simp only [qz] at hb))
      all_goals (try simp only [maxLen, tn] at *)
      all_goals first | rfl | omega | decide | assumption | exact B9 | exact Az | exact Az (l := []) | skip
      all_goals first | (refine Ae ?_) | skip
      simp -implicitDefEqProofs only [go_sem, hh, Int.reduceAdd, seval]
      with_reducible repeat' (first | apply ai | intro _ | ((first | apply s1 | apply s2 | apply s3 | apply s4) <;> intro hb <;> simp -implicitDefEqProofs only [hb, go_sem, hh, Int.reduceAdd, seval] <;> try simp only [qz] at hb))
      all_goals (try simp only [maxLen, tn] at *)
      all_goals first | rfl | omega | decide | assumption | exact B9 | exact Az | exact Az (l := []) | skip
      trace_state
 ·skip
  rw [cF h]
  simp -implicitDefEqProofs only [Tryz.f24, h, eq_self, decide_true, decide_false, Int.reduceEq, go_sem, hh, Int.reduceAdd, seval]
  with_reducible repeat' (first | apply ai | intro _ | ((first | apply s1 | apply s2 | apply s3 | apply s4) <;> intro hb <;> simp -implicitDefEqProofs only [hb, go_sem, hh, Int.reduceAdd, seval] <;> try simp only [qz] at hb))
  all_goals (try simp only [maxLen, tn] at *)
  all_goals first | rfl | omega | decide | assumption | exact B9 | exact Az | exact Az (l := []) | skip
  all_goals first | (refine Ae ?_) | skip
  simp -implicitDefEqProofs only [go_sem, hh, Int.reduceAdd, seval]
  with_reducible repeat' (first | apply ai | intro _ | ((first | apply s1 | apply s2 | apply s3 | apply s4) <;> intro hb <;> simp -implicitDefEqProofs only [hb, go_sem, hh, Int.reduceAdd, seval] <;> try simp only [qz] at hb))
  all_goals (try simp only [maxLen, tn] at *)
  all_goals first | rfl | omega | decide | assumption | exact B9 | exact Az | exact Az (l := []) | skip
  trace_state
end
def opn (b : List UInt8) : Rd := ⟨if (b.length : Int) > 2000 then b.take 2000 else b, 0⟩
theorem rU {b : List UInt8} (h : (b.length : Int) > 2000) : opn b = ⟨b.take 2000, 0⟩ := by unfold opn; rw [if_pos h]
theorem rT {b : List UInt8} (h : ¬ (b.length : Int) > 2000) : opn b = ⟨b, 0⟩ := by unfold opn; rw [if_neg h]
theorem Wg (b : List UInt8) : (opn b).p = 0 := rfl
theorem rS (b : List UInt8) : (⟨(opn b).b, 0⟩ : Rd) = opn b := rfl
theorem uI {b : List UInt8} {k : Nat} : List.take k (b.map CG) = (b.take k).map CG := by rw [List.map_take]
theorem vL : (2000 : Int).toNat = 2000 := rfl
def tL : Ct := At (lc OT.asl l0) (fun p => True) (fun p => D5.enc (opn p.1))
section
attribute [local go_sem] IZ QN BH MC uI vL BB lm List.drop_zero AS.opn AS.cls AS.nilb AS.renb AS.up Bool.not_false Bool.not_true List.set_set List.set_cons_zero List.set_cons_succ List.set_nil List.mem_singleton forall_eq
set_option maxHeartbeats 800000 in
theorem p6 {G : Gt} (hG : Aj G) : Gd G 23 (AA 1 tL) := by
 refine gr (fn := Tryz.f23) (n := 1) rfl hG ?_
 rintro ⟨b, ⟨⟩⟩ hpre
 dsimp only
 by_cases L : (b.length : Int) > 2000
 ·rw [rU L]
  simp -implicitDefEqProofs only [Tryz.f23, L, decide_true, go_sem, seval]
  with_reducible repeat' (first | apply ai | intro _ | ((first | apply s1 | apply s2 | apply s3 | apply s4) <;> intro hb <;> simp -implicitDefEqProofs only [hb, go_sem, seval] <;> try simp only [qz] at hb))
  all_goals (try simp only [maxLen, tn] at *)
  all_goals first | rfl | omega | decide | assumption | (show AZ _ = true; rfl) | skip
 ·rw [rT L]
  simp -implicitDefEqProofs only [Tryz.f23, L, decide_false, go_sem, seval]
  with_reducible repeat' (first | apply ai | intro _ | ((first | apply s1 | apply s2 | apply s3 | apply s4) <;> intro hb <;> simp -implicitDefEqProofs only [hb, go_sem, seval] <;> try simp only [qz] at hb))
  all_goals (try simp only [maxLen, tn] at *)
  all_goals first | rfl | omega | decide | assumption | (show AZ _ = true; rfl) | skip
end
theorem Yo {α : Type} [Inhabited α] {xs ys : List α} (i : Nat) (hl : xs.length = ys.length) (h : ∀ j, j < i → xs.getD j default = ys.getD j default) (hi : xs.length ≤ i) : xs = ys := by
 refine List.ext_getElem hl fun j h1 h2 => ?_
 have := h j (by omega)
 simpa [h1, h2] using this
theorem Zo {α : Type} [Inhabited α] {xs ys : List α} {i : Nat} (hall : ∀ j, j < i → xs.getD j default = ys.getD j default) (h : xs.getD i default = ys.getD i default) : ∀ j, j < i + 1 → xs.getD j default = ys.getD j default := fun j hj => by
 by_cases e : j = i
 ·subst e; exact h
 ·exact hall j (by omega)
theorem Qr {x0 x1 x2 x3 x4 x5 x6 x7 : T} : Bf 2 4 [x0, x1, x2, x3, x4, x5, x6, x7] = [[x0, x1], [x2, x3], [x4, x5], [x6, x7]] := rfl
def Ed (k : Int) : List Cf :=
 if k = 0 then [⟨⟨#[111, 110, 101, 46, 111, 114, 103]⟩, [⟨#[111, 110, 101, 46, 111, 114, 103]⟩, ⟨#[97, 46, 111, 110, 101, 46, 111, 114, 103]⟩], [⟨⟨#[116, 119, 111, 46, 111, 114, 103]⟩, ⟨#[116, 119, 111, 46, 111, 114, 103]⟩⟩, ⟨⟨#[110, 101, 116]⟩, ⟨#[104, 117, 98, 46, 110, 101, 116]⟩⟩, ⟨⟨#[99, 111, 109]⟩, ⟨#[104, 117, 98, 46, 110, 101, 116]⟩⟩]⟩, ⟨⟨#[116, 119, 111, 46, 111, 114, 103]⟩, [⟨#[116, 119, 111, 46, 111, 114, 103]⟩], [⟨⟨#[120, 46, 99, 111, 109]⟩, ⟨#[111, 110, 101, 46, 111, 114, 103]⟩⟩, ⟨⟨#[111, 110, 101, 46, 111, 114, 103]⟩, ⟨#[111, 110, 101, 46, 111, 114, 103]⟩⟩]⟩, ⟨⟨#[104, 117, 98, 46, 110, 101, 116]⟩, [⟨#[104, 117, 98, 46, 110, 101, 116]⟩, ⟨#[111, 116, 104, 101, 114, 46, 99, 111, 109]⟩], [⟨⟨#[111, 110, 101, 46, 111, 114, 103]⟩, ⟨#[111, 110, 101, 46, 111, 114, 103]⟩⟩, ⟨⟨#[116, 119, 111, 46, 111, 114, 103]⟩, ⟨#[116, 119, 111, 46, 111, 114, 103]⟩⟩, ⟨⟨#[102, 97, 114, 46, 99, 111, 109]⟩, ⟨#[103, 111, 110, 101, 46, 99, 111, 109]⟩⟩, ⟨⟨#[120, 46, 99, 111, 109]⟩, ⟨#[116, 119, 111, 46, 111, 114, 103]⟩⟩]⟩]
 else if k = 1 then [⟨⟨#[111, 110, 101, 46, 111, 114, 103]⟩, [⟨#[111, 110, 101, 46, 111, 114, 103]⟩, ⟨#[97, 46, 111, 110, 101, 46, 111, 114, 103]⟩], [⟨⟨#[116, 119, 111, 46, 111, 114, 103]⟩, ⟨#[116, 119, 111, 46, 111, 114, 103]⟩⟩, ⟨⟨#[110, 101, 116]⟩, ⟨#[104, 117, 98, 46, 110, 101, 116]⟩⟩, ⟨⟨#[99, 111, 109]⟩, ⟨#[104, 117, 98, 46, 110, 101, 116]⟩⟩]⟩, ⟨⟨#[116, 119, 111, 46, 111, 114, 103]⟩, [⟨#[116, 119, 111, 46, 111, 114, 103]⟩], [⟨⟨#[111, 114, 103]⟩, ⟨#[111, 110, 101, 46, 111, 114, 103]⟩⟩, ⟨⟨#[104, 117, 98, 46, 110, 101, 116]⟩, ⟨#[104, 117, 98, 46, 110, 101, 116]⟩⟩]⟩]
 else if k = 2 then [⟨⟨#[111, 110, 101, 46, 111, 114, 103]⟩, [⟨#[111, 110, 101, 46, 111, 114, 103]⟩, ⟨#[97, 46, 111, 110, 101, 46, 111, 114, 103]⟩], [⟨⟨#[116, 119, 111, 46, 111, 114, 103]⟩, ⟨#[116, 119, 111, 46, 111, 114, 103]⟩⟩, ⟨⟨#[110, 101, 116]⟩, ⟨#[104, 117, 98, 46, 110, 101, 116]⟩⟩]⟩, ⟨⟨#[116, 119, 111, 46, 111, 114, 103]⟩, [⟨#[116, 119, 111, 46, 111, 114, 103]⟩], [⟨⟨#[111, 114, 103]⟩, ⟨#[111, 110, 101, 46, 111, 114, 103]⟩⟩, ⟨⟨#[104, 117, 98, 46, 110, 101, 116]⟩, ⟨#[104, 117, 98, 46, 110, 101, 116]⟩⟩, ⟨⟨#[99, 111, 109]⟩, ⟨#[104, 117, 98, 46, 110, 101, 116]⟩⟩]⟩, ⟨⟨#[104, 117, 98, 46, 110, 101, 116]⟩, [⟨#[104, 117, 98, 46, 110, 101, 116]⟩, ⟨#[111, 116, 104, 101, 114, 46, 99, 111, 109]⟩], [⟨⟨#[111, 110, 101, 46, 111, 114, 103]⟩, ⟨#[111, 110, 101, 46, 111, 114, 103]⟩⟩, ⟨⟨#[116, 119, 111, 46, 111, 114, 103]⟩, ⟨#[116, 119, 111, 46, 111, 114, 103]⟩⟩, ⟨⟨#[102, 97, 114, 46, 99, 111, 109]⟩, ⟨#[103, 111, 110, 101, 46, 99, 111, 109]⟩⟩, ⟨⟨#[120, 46, 99, 111, 109]⟩, ⟨#[116, 119, 111, 46, 111, 114, 103]⟩⟩]⟩]
 else [⟨⟨#[111, 110, 101, 46, 111, 114, 103]⟩, [⟨#[111, 110, 101, 46, 111, 114, 103]⟩, ⟨#[97, 46, 111, 110, 101, 46, 111, 114, 103]⟩], [⟨⟨#[116, 119, 111, 46, 111, 114, 103]⟩, ⟨#[116, 119, 111, 46, 111, 114, 103]⟩⟩, ⟨⟨#[110, 101, 116]⟩, ⟨#[104, 117, 98, 46, 110, 101, 116]⟩⟩, ⟨⟨#[99, 111, 109]⟩, ⟨#[104, 117, 98, 46, 110, 101, 116]⟩⟩]⟩, ⟨⟨#[116, 119, 111, 46, 111, 114, 103]⟩, [⟨#[116, 119, 111, 46, 111, 114, 103]⟩], [⟨⟨#[111, 114, 103]⟩, ⟨#[111, 110, 101, 46, 111, 114, 103]⟩⟩, ⟨⟨#[104, 117, 98, 46, 110, 101, 116]⟩, ⟨#[104, 117, 98, 46, 110, 101, 116]⟩⟩]⟩, ⟨⟨#[104, 117, 98, 46, 110, 101, 116]⟩, [⟨#[104, 117, 98, 46, 110, 101, 116]⟩, ⟨#[111, 116, 104, 101, 114, 46, 99, 111, 109]⟩], [⟨⟨#[111, 110, 101, 46, 111, 114, 103]⟩, ⟨#[111, 110, 101, 46, 111, 114, 103]⟩⟩, ⟨⟨#[116, 119, 111, 46, 111, 114, 103]⟩, ⟨#[116, 119, 111, 46, 111, 114, 103]⟩⟩, ⟨⟨#[102, 97, 114, 46, 99, 111, 109]⟩, ⟨#[103, 111, 110, 101, 46, 99, 111, 109]⟩⟩, ⟨⟨#[120, 46, 99, 111, 109]⟩, ⟨#[116, 119, 111, 46, 111, 114, 103]⟩⟩]⟩]
def DG (r : Rd) : List Cf := Ed (Aa r 5)
theorem gz {r : Rd} (h : Aa r 5 = 0) : DG r = [⟨⟨#[111, 110, 101, 46, 111, 114, 103]⟩, [⟨#[111, 110, 101, 46, 111, 114, 103]⟩, ⟨#[97, 46, 111, 110, 101, 46, 111, 114, 103]⟩], [⟨⟨#[116, 119, 111, 46, 111, 114, 103]⟩, ⟨#[116, 119, 111, 46, 111, 114, 103]⟩⟩, ⟨⟨#[110, 101, 116]⟩, ⟨#[104, 117, 98, 46, 110, 101, 116]⟩⟩, ⟨⟨#[99, 111, 109]⟩, ⟨#[104, 117, 98, 46, 110, 101, 116]⟩⟩]⟩, ⟨⟨#[116, 119, 111, 46, 111, 114, 103]⟩, [⟨#[116, 119, 111, 46, 111, 114, 103]⟩], [⟨⟨#[120, 46, 99, 111, 109]⟩, ⟨#[111, 110, 101, 46, 111, 114, 103]⟩⟩, ⟨⟨#[111, 110, 101, 46, 111, 114, 103]⟩, ⟨#[111, 110, 101, 46, 111, 114, 103]⟩⟩]⟩, ⟨⟨#[104, 117, 98, 46, 110, 101, 116]⟩, [⟨#[104, 117, 98, 46, 110, 101, 116]⟩, ⟨#[111, 116, 104, 101, 114, 46, 99, 111, 109]⟩], [⟨⟨#[111, 110, 101, 46, 111, 114, 103]⟩, ⟨#[111, 110, 101, 46, 111, 114, 103]⟩⟩, ⟨⟨#[116, 119, 111, 46, 111, 114, 103]⟩, ⟨#[116, 119, 111, 46, 111, 114, 103]⟩⟩, ⟨⟨#[102, 97, 114, 46, 99, 111, 109]⟩, ⟨#[103, 111, 110, 101, 46, 99, 111, 109]⟩⟩, ⟨⟨#[120, 46, 99, 111, 109]⟩, ⟨#[116, 119, 111, 46, 111, 114, 103]⟩⟩]⟩] := by unfold DG Ed; rw [if_pos h]
theorem hO {r : Rd} (h : Aa r 5 = 1) : DG r = [⟨⟨#[111, 110, 101, 46, 111, 114, 103]⟩, [⟨#[111, 110, 101, 46, 111, 114, 103]⟩, ⟨#[97, 46, 111, 110, 101, 46, 111, 114, 103]⟩], [⟨⟨#[116, 119, 111, 46, 111, 114, 103]⟩, ⟨#[116, 119, 111, 46, 111, 114, 103]⟩⟩, ⟨⟨#[110, 101, 116]⟩, ⟨#[104, 117, 98, 46, 110, 101, 116]⟩⟩, ⟨⟨#[99, 111, 109]⟩, ⟨#[104, 117, 98, 46, 110, 101, 116]⟩⟩]⟩, ⟨⟨#[116, 119, 111, 46, 111, 114, 103]⟩, [⟨#[116, 119, 111, 46, 111, 114, 103]⟩], [⟨⟨#[111, 114, 103]⟩, ⟨#[111, 110, 101, 46, 111, 114, 103]⟩⟩, ⟨⟨#[104, 117, 98, 46, 110, 101, 116]⟩, ⟨#[104, 117, 98, 46, 110, 101, 116]⟩⟩]⟩] := by unfold DG Ed; rw [if_neg (by omega), if_pos h]
theorem hP {r : Rd} (h : Aa r 5 = 2) : DG r = [⟨⟨#[111, 110, 101, 46, 111, 114, 103]⟩, [⟨#[111, 110, 101, 46, 111, 114, 103]⟩, ⟨#[97, 46, 111, 110, 101, 46, 111, 114, 103]⟩], [⟨⟨#[116, 119, 111, 46, 111, 114, 103]⟩, ⟨#[116, 119, 111, 46, 111, 114, 103]⟩⟩, ⟨⟨#[110, 101, 116]⟩, ⟨#[104, 117, 98, 46, 110, 101, 116]⟩⟩]⟩, ⟨⟨#[116, 119, 111, 46, 111, 114, 103]⟩, [⟨#[116, 119, 111, 46, 111, 114, 103]⟩], [⟨⟨#[111, 114, 103]⟩, ⟨#[111, 110, 101, 46, 111, 114, 103]⟩⟩, ⟨⟨#[104, 117, 98, 46, 110, 101, 116]⟩, ⟨#[104, 117, 98, 46, 110, 101, 116]⟩⟩, ⟨⟨#[99, 111, 109]⟩, ⟨#[104, 117, 98, 46, 110, 101, 116]⟩⟩]⟩, ⟨⟨#[104, 117, 98, 46, 110, 101, 116]⟩, [⟨#[104, 117, 98, 46, 110, 101, 116]⟩, ⟨#[111, 116, 104, 101, 114, 46, 99, 111, 109]⟩], [⟨⟨#[111, 110, 101, 46, 111, 114, 103]⟩, ⟨#[111, 110, 101, 46, 111, 114, 103]⟩⟩, ⟨⟨#[116, 119, 111, 46, 111, 114, 103]⟩, ⟨#[116, 119, 111, 46, 111, 114, 103]⟩⟩, ⟨⟨#[102, 97, 114, 46, 99, 111, 109]⟩, ⟨#[103, 111, 110, 101, 46, 99, 111, 109]⟩⟩, ⟨⟨#[120, 46, 99, 111, 109]⟩, ⟨#[116, 119, 111, 46, 111, 114, 103]⟩⟩]⟩] := by unfold DG Ed; rw [if_neg (by omega), if_neg (by omega), if_pos h]
theorem hY {r : Rd} (h : ¬ Aa r 5 = 0 ∧ ¬ Aa r 5 = 1 ∧ ¬ Aa r 5 = 2) : DG r = [⟨⟨#[111, 110, 101, 46, 111, 114, 103]⟩, [⟨#[111, 110, 101, 46, 111, 114, 103]⟩, ⟨#[97, 46, 111, 110, 101, 46, 111, 114, 103]⟩], [⟨⟨#[116, 119, 111, 46, 111, 114, 103]⟩, ⟨#[116, 119, 111, 46, 111, 114, 103]⟩⟩, ⟨⟨#[110, 101, 116]⟩, ⟨#[104, 117, 98, 46, 110, 101, 116]⟩⟩, ⟨⟨#[99, 111, 109]⟩, ⟨#[104, 117, 98, 46, 110, 101, 116]⟩⟩]⟩, ⟨⟨#[116, 119, 111, 46, 111, 114, 103]⟩, [⟨#[116, 119, 111, 46, 111, 114, 103]⟩], [⟨⟨#[111, 114, 103]⟩, ⟨#[111, 110, 101, 46, 111, 114, 103]⟩⟩, ⟨⟨#[104, 117, 98, 46, 110, 101, 116]⟩, ⟨#[104, 117, 98, 46, 110, 101, 116]⟩⟩]⟩, ⟨⟨#[104, 117, 98, 46, 110, 101, 116]⟩, [⟨#[104, 117, 98, 46, 110, 101, 116]⟩, ⟨#[111, 116, 104, 101, 114, 46, 99, 111, 109]⟩], [⟨⟨#[111, 110, 101, 46, 111, 114, 103]⟩, ⟨#[111, 110, 101, 46, 111, 114, 103]⟩⟩, ⟨⟨#[116, 119, 111, 46, 111, 114, 103]⟩, ⟨#[116, 119, 111, 46, 111, 114, 103]⟩⟩, ⟨⟨#[102, 97, 114, 46, 99, 111, 109]⟩, ⟨#[103, 111, 110, 101, 46, 99, 111, 109]⟩⟩, ⟨⟨#[120, 46, 99, 111, 109]⟩, ⟨#[116, 119, 111, 46, 111, 114, 103]⟩⟩]⟩] := by unfold DG Ed; rw [if_neg h.1, if_neg h.2.1, if_neg h.2.2]
def NL (c : Cf) : Bool := Nat.ble c.name.size 100 && (Nat.ble c.own.length 10 && (c.own.all (fun s => Nat.ble s.size 100) && (Nat.ble c.ways.length 10 && c.ways.all fun w => Nat.ble w.ends.size 100 && Nat.ble w.to.size 100)))
theorem Lq (k : Int) : (Ed k).all NL = true ∧ 2 ≤ (Ed k).length ∧ (Ed k).length ≤ 3 := by
 unfold Ed
 split
 ·exact ⟨by decide +kernel, by decide, by decide⟩
 ·split
  ·exact ⟨by decide +kernel, by decide, by decide⟩
  ·split
   ·exact ⟨by decide +kernel, by decide, by decide⟩
   ·exact ⟨by decide +kernel, by decide, by decide⟩
def SF (r : Rd) : Cf := (DG r).getD (Aa (r.nx 1) (DG r).length).toNat default
theorem cJ {r : Rd} (h : 0 ≤ r.p) (h1 : r.p ≤ 999999000) : NL (SF r) = true := by
 have hb := CA (r := r.nx 1) (n := (DG r).length) (by rw [AK]; omega) (by rw [AK]; omega)
 obtain ⟨h2, h3, h4⟩ := Lq (Aa r 5)
 have e : Ed (Aa r 5) = DG r := rfl
 rw [e] at h2 h3
 exact List.all_eq_true.1 h2 _ (AC (by omega))
def DO (r : Rd) : Cf × Rd :=
 let c := SF r
 let k := Aa (r.nx 2) 10
 if k = 0 then (⟨Mo (r.nx 3) [⟨#[]⟩, ⟨#[65]⟩, ⟨#[97, 46, 46, 98]⟩], c.own, c.ways⟩, r.nx 4)
 else if k = 1 then (⟨c.name, c.own ++ [⟨#[98, 46, 111, 114, 103]⟩, ⟨#[99, 46, 111, 114, 103]⟩], c.ways⟩, r.nx 3)
 else if k = 2 then (⟨c.name, c.own, c.ways ++ [⟨Mo (r.nx 3) [⟨#[]⟩, ⟨#[98, 46, 111, 114, 103]⟩, ⟨#[111, 110, 101, 46, 111, 114, 103]⟩], ⟨#[116, 119, 111, 46, 111, 114, 103]⟩⟩]⟩, r.nx 4)
 else (c, r.nx 3)
theorem Qd {r : Rd} (h : Aa (r.nx 2) 10 = 0) : DO r = (⟨Mo (r.nx 3) [⟨#[]⟩, ⟨#[65]⟩, ⟨#[97, 46, 46, 98]⟩], (SF r).own, (SF r).ways⟩, r.nx 4) := by unfold DO; dsimp only; rw [if_pos h]
theorem Qe {r : Rd} (h : Aa (r.nx 2) 10 = 1) : DO r = (⟨(SF r).name, (SF r).own ++ [⟨#[98, 46, 111, 114, 103]⟩, ⟨#[99, 46, 111, 114, 103]⟩], (SF r).ways⟩, r.nx 3) := by unfold DO; dsimp only; rw [if_neg (by omega), if_pos h]
theorem Qf {r : Rd} (h : Aa (r.nx 2) 10 = 2) : DO r = (⟨(SF r).name, (SF r).own, (SF r).ways ++ [⟨Mo (r.nx 3) [⟨#[]⟩, ⟨#[98, 46, 111, 114, 103]⟩, ⟨#[111, 110, 101, 46, 111, 114, 103]⟩], ⟨#[116, 119, 111, 46, 111, 114, 103]⟩⟩]⟩, r.nx 4) := by unfold DO; dsimp only; rw [if_neg (by omega), if_neg (by omega), if_pos h]
theorem Qg {r : Rd} (h : ¬ Aa (r.nx 2) 10 = 0 ∧ ¬ Aa (r.nx 2) 10 = 1 ∧ ¬ Aa (r.nx 2) 10 = 2) : DO r = (SF r, r.nx 3) := by unfold DO; dsimp only; rw [if_neg h.1, if_neg h.2.1, if_neg h.2.2]
theorem CE {n : Nat} {es : List (List T)} : cellAV false (.sl n es) = .t (.sl n es) := rfl
theorem cK {r : Rd} : (DG r).getD (Aa (r.nx 1) (DG r).length).toNat default = SF r := rfl
def oy : Mt := HJ (lc D5 l0) (fun p => 0 ≤ p.1.p ∧ p.1.p ≤ 999990000) (fun p => ([D5.enc (p.1.nx 1)], .o false 3 ((DG p.1).map C9)))
section
attribute [local go_sem] HW AK Bq BB BD BH Bm Cd Bh Bk lm List.length_append List.length_cons List.length_nil List.map_append List.map_nil Nat.zero_add List.nil_append AS.opn AS.cls AS.nilb AS.renb AS.up Bool.not_false Bool.not_true List.set_set List.set_cons_zero List.set_cons_succ List.set_nil List.mem_singleton forall_eq GH AY BN JT JU JV E0 E3 Qr
set_option maxHeartbeats 6400000 in
theorem qF {G : Gt} (hG : Aj G) (hh : G.e 43 = AP HW) : Gd G 42 (AP oy) := by
 refine Jh (dp := fun n => !(Nat.beq n 36 || Nat.beq n 52)) (fn := Tryz.f42) (n := 1) rfl hG ?_
 rintro ⟨r, ⟨⟩⟩ hpre
 obtain ⟨h1, h2⟩ := hpre
 try dsimp only at h1 h2 ⊢
 by_cases c0 : Aa r 5 = 0
 ·skip
  rw [gz c0]
  simp -implicitDefEqProofs only [Tryz.f42, c0, eq_self, decide_true, decide_false, Int.reduceEq, go_sem, hh, Int.reduceAdd, seval]
  with_reducible repeat' (first | apply ai | intro _ | ((first | apply s1 | apply s2 | apply s3 | apply s4) <;> intro hb <;> simp -implicitDefEqProofs only [hb, go_sem, hh, Int.reduceAdd, seval] <;> try simp only [qz] at hb))
  all_goals (try simp only [maxLen, tn] at *)
  all_goals first | rfl | omega | decide | assumption | (show AZ _ = true; rfl) | skip
 ·by_cases c1 : Aa r 5 = 1
  ·skip
   rw [hO c1]
   simp -implicitDefEqProofs only [Tryz.f42, c1, eq_self, decide_true, decide_false, Int.reduceEq, go_sem, hh, Int.reduceAdd, seval]
   with_reducible repeat' (first | apply ai | intro _ | ((first | apply s1 | apply s2 | apply s3 | apply s4) <;> intro hb <;> simp -implicitDefEqProofs only [hb, go_sem, hh, Int.reduceAdd, seval] <;> try simp only [qz] at hb))
   all_goals (try simp only [maxLen, tn] at *)
   all_goals first | rfl | omega | decide | assumption | (show AZ _ = true; rfl) | skip
  ·by_cases c2 : Aa r 5 = 2
   ·skip
    rw [hP c2]
    simp -implicitDefEqProofs only [Tryz.f42, c2, eq_self, decide_true, decide_false, Int.reduceEq, go_sem, hh, Int.reduceAdd, seval]
    with_reducible repeat' (first | apply ai | intro _ | ((first | apply s1 | apply s2 | apply s3 | apply s4) <;> intro hb <;> simp -implicitDefEqProofs only [hb, go_sem, hh, Int.reduceAdd, seval] <;> try simp only [qz] at hb))
    all_goals (try simp only [maxLen, tn] at *)
    all_goals first | rfl | omega | decide | assumption | (show AZ _ = true; rfl) | skip
   ·skip
    rw [hY ⟨c0, c1, c2⟩]
    simp -implicitDefEqProofs only [Tryz.f42, c0, c1, c2, eq_self, decide_true, decide_false, Int.reduceEq, go_sem, hh, Int.reduceAdd, seval]
    with_reducible repeat' (first | apply ai | intro _ | ((first | apply s1 | apply s2 | apply s3 | apply s4) <;> intro hb <;> simp -implicitDefEqProofs only [hb, go_sem, hh, Int.reduceAdd, seval] <;> try simp only [qz] at hb))
    all_goals (try simp only [maxLen, tn] at *)
    all_goals first | rfl | omega | decide | assumption | (show AZ _ = true; rfl) | skip
end
def ta : Mt := HJ (lc D5 l0) (fun p => 0 ≤ p.1.p ∧ p.1.p ≤ 999990000) (fun p => ([D5.enc (p.1.nx 2)], I0.ag.enc (SF p.1)))
section
attribute [local go_sem] HW oy AK Bq BB BD BH Bm Cd Bh Bk lm List.length_append List.length_cons List.length_nil List.map_append List.map_nil Nat.zero_add List.nil_append AS.opn AS.cls AS.nilb AS.renb AS.up Bool.not_false Bool.not_true List.set_set List.set_cons_zero List.set_cons_succ List.set_nil List.mem_singleton forall_eq cK CE AY
set_option maxHeartbeats 1600000 in
theorem qm {G : Gt} (hG : Aj G) (hh : G.e 43 = AP HW ∧ G.e 42 = AP oy) : Gd G 87 (AP ta) := by
 refine Jh (dp := fun _ => true) (fn := Tryz.f87) (n := 1) rfl hG ?_
 rintro ⟨r, ⟨⟩⟩ hpre
 obtain ⟨h1, h2⟩ := hpre
 try dsimp only at h1 h2 ⊢
 obtain ⟨q2, q3, q4⟩ := Lq (Aa r 5)
 have e : Ed (Aa r 5) = DG r := rfl
 rw [e] at q3 q4
 have hb := CA (r := r.nx 1) (n := (DG r).length) (by rw [AK]; omega) (by rw [AK]; omega)
 simp -implicitDefEqProofs only [Tryz.f87, go_sem, hh, Int.reduceAdd, seval]
 with_reducible repeat' (first | apply ai | intro _ | ((first | apply s1 | apply s2 | apply s3 | apply s4) <;> intro hb <;> simp -implicitDefEqProofs only [hb, go_sem, hh, Int.reduceAdd, seval] <;> try simp only [qz] at hb))
 all_goals (try simp only [maxLen, tn] at *)
 all_goals first | rfl | omega | decide | assumption | (show AZ _ = true; rfl) | skip
end
def tP : Mt := HJ (lc D5 l0) (fun p => 0 ≤ p.1.p ∧ p.1.p ≤ 999980000) (fun p => ([D5.enc (DO p.1).2], I0.ag.enc (DO p.1).1))
section
attribute [local go_sem] HW SC ta AK Bq BB BD BH Bm Cd Bh Bk lm List.length_append List.length_cons List.length_nil List.map_append List.map_nil Nat.zero_add List.nil_append AS.opn AS.cls AS.nilb AS.renb AS.up Bool.not_false Bool.not_true List.set_set List.set_cons_zero List.set_cons_succ List.set_nil List.mem_singleton forall_eq cK AY GH GI JT JU JV E0 E3 Qr
set_option maxHeartbeats 6400000 in
theorem qH {G : Gt} (hG : Aj G) (hh : G.e 43 = AP HW ∧ G.e 88 = AP SC ∧ G.e 87 = AP ta) : Gd G 44 (AP tP) := by
 refine Jh (dp := fun _ => true) (fn := Tryz.f44) (n := 1) rfl hG ?_
 rintro ⟨r, ⟨⟩⟩ hpre
 obtain ⟨h1, h2⟩ := hpre
 try dsimp only at h1 h2 ⊢
 have hc := cJ h1 (show r.p ≤ 999999000 by omega)
 unfold NL at hc
 simp only [Bool.and_eq_true, Nat.ble_eq] at hc
 obtain ⟨z1, z2, z3, z4, z5⟩ := hc
 by_cases c0 : Aa (r.nx 2) 10 = 0
 ·rw [Qd c0]
  simp -implicitDefEqProofs only [Tryz.f44, c0, eq_self, decide_true, decide_false, Int.reduceEq, go_sem, hh, Int.reduceAdd, seval]
  with_reducible repeat' (first | apply ai | intro _ | ((first | apply s1 | apply s2 | apply s3 | apply s4) <;> intro hb <;> simp -implicitDefEqProofs only [hb, go_sem, hh, Int.reduceAdd, seval] <;> try simp only [qz] at hb))
  all_goals (try simp only [maxLen, tn] at *)
  all_goals first | rfl | omega | decide | assumption | (show AZ _ = true; rfl) | skip
 ·by_cases c1 : Aa (r.nx 2) 10 = 1
  ·rw [Qe c1]
   simp -implicitDefEqProofs only [Tryz.f44, c1, eq_self, decide_true, decide_false, Int.reduceEq, go_sem, hh, Int.reduceAdd, seval]
   with_reducible repeat' (first | apply ai | intro _ | ((first | apply s1 | apply s2 | apply s3 | apply s4) <;> intro hb <;> simp -implicitDefEqProofs only [hb, go_sem, hh, Int.reduceAdd, seval] <;> try simp only [qz] at hb))
   all_goals (try simp only [maxLen, tn] at *)
   all_goals first | rfl | omega | decide | assumption | (show AZ _ = true; rfl) | (rename_i q; simp only [List.mem_cons, List.not_mem_nil, or_false] at q; rcases q with rfl | rfl <;> rfl) | skip
  ·by_cases c2 : Aa (r.nx 2) 10 = 2
   ·rw [Qf c2]
    simp -implicitDefEqProofs only [Tryz.f44, c2, eq_self, decide_true, decide_false, Int.reduceEq, go_sem, hh, Int.reduceAdd, seval]
    with_reducible repeat' (first | apply ai | intro _ | ((first | apply s1 | apply s2 | apply s3 | apply s4) <;> intro hb <;> simp -implicitDefEqProofs only [hb, go_sem, hh, Int.reduceAdd, seval] <;> try simp only [qz] at hb))
    all_goals (try simp only [maxLen, tn] at *)
    all_goals first | rfl | omega | decide | assumption | (show AZ _ = true; rfl) | skip
   ·rw [Qg ⟨c0, c1, c2⟩]
    simp -implicitDefEqProofs only [Tryz.f44, c0, c1, c2, eq_self, decide_true, decide_false, Int.reduceEq, go_sem, hh, Int.reduceAdd, seval]
    with_reducible repeat' (first | apply ai | intro _ | ((first | apply s1 | apply s2 | apply s3 | apply s4) <;> intro hb <;> simp -implicitDefEqProofs only [hb, go_sem, hh, Int.reduceAdd, seval] <;> try simp only [qz] at hb))
    all_goals (try simp only [maxLen, tn] at *)
    all_goals first | rfl | omega | decide | assumption | (show AZ _ = true; rfl) | skip
end
def tH : Ct := At (lc DC.asl (lc DC.asl l0)) (fun p => True) (fun p => .t (.v (.bool (decide (p.1 = p.2.1)))))
section
attribute [local go_sem] lm
set_option maxHeartbeats 1600000 in
theorem py {G : Gt} (hG : Aj G) : Gd G 19 (AA 0 tH) := by
 refine gr (fn := Tryz.f19) (n := 2) rfl hG ?_
 rintro ⟨xs, ys, ⟨⟩⟩ hpre
 simp -implicitDefEqProofs only [Tryz.f19, go_sem, seval] at hpre ⊢
 with_reducible repeat' (first | apply ai | intro _ | ((first | apply s1 | apply s2 | apply s3 | apply s4) <;> intro hb <;> simp -implicitDefEqProofs only [hb, go_sem, seval] <;> try simp only [qz] at hb))
 all_goals (try simp only [maxLen] at *)
 all_goals first | rfl | omega | skip
 ·have : ¬ xs = ys := fun e => hb (by rw [e])
  simp [this]
 ·have hl : xs.length = ys.length := by omega
  refine AE [] (ι := {i : Nat // i ≤ xs.length ∧ ∀ j, j < i → xs.getD j default = ys.getD j default}) (fun p => ⟨[(0, .t (.sl 1 (xs.map An))), (1, .t (.sl 1 (ys.map An))), (5, .t (.v (.int .i64 p.1)))], []⟩) (fun p => xs.length - p.1) ⟨0, by simp, by simp⟩ rfl ?_ ?_
  ·simp -implicitDefEqProofs only [go_sem, seval]
   try simp
  ·rintro ⟨i, hi, hall⟩
   simp -implicitDefEqProofs only [go_sem, seval]
   with_reducible repeat' (first | apply ai | intro _ | ((first | apply s1 | apply s2 | apply s3 | apply s4) <;> intro hb <;> simp -implicitDefEqProofs only [hb, go_sem, seval] <;> try simp only [qz] at hb))
   all_goals (try simp only [maxLen, tn] at *)
   all_goals first
    | rfl
    | omega
    | decide
    | (show AZ _ = true; rfl)
    | ((have hne : ¬ xs = ys := fun e => by subst e; first | exact hb rfl | (simp at hb; done) | (simp_all; done)); simp [hne]; done)
    | (refine ⟨⟨i + 1, by omega, Zo hall (by first | assumption | (simp [*] at *; done))⟩, by dsimp only; omega, ?_⟩
       simp -implicitDefEqProofs only [go_sem, seval]
       try simp
       done)
    | (have hxy := Yo i hl hall (by omega)
       simp [hxy]
       done)
    | skip
end
def Sr (s : ByteArray) : Nat → Nat → Int → Int
 | 0, _, n => if s.size = 0 ∨ (1 < s.size ∧ AB s 0 = 48) then -1 else n
 | k + 1, i, n => if 48 ≤ AB s i ∧ AB s i ≤ 57 ∧ i < 9 then Sr s k (i + 1) (n * 10 + (AB s i - 48)) else -1
def Nv (s : ByteArray) : Int := Sr s s.size 0 0
theorem WT {s : ByteArray} {i : Nat} {n : Int} (h : i < s.size) : Sr s (s.size - i) i n = if 48 ≤ AB s i ∧ AB s i ≤ 57 ∧ i < 9 then Sr s (s.size - (i + 1)) (i + 1) (n * 10 + (AB s i - 48)) else -1 := by
 have e : s.size - i = (s.size - (i + 1)) + 1 := by omega
 rw [e]; rfl
theorem WS {s : ByteArray} {i : Nat} {n : Int} (h : s.size ≤ i) : Sr s (s.size - i) i n = if s.size = 0 ∨ (1 < s.size ∧ AB s 0 = 48) then -1 else n := by
 have e : s.size - i = 0 := by omega
 rw [e]; rfl
def gf : Ct := At (lc Av l0) (fun p => p.1.size ≤ 3) (fun p => .t (.v (.int .i64 (Nv p.1))))
set_option maxHeartbeats 1600000 in
theorem nM {G : Gt} (hG : Aj G) : Gd G 236 (AA 0 gf) := by
 refine gr (fn := Tryz.f236) (n := 1) rfl hG ?_
 rintro ⟨s, ⟨⟩⟩ hpre
 simp -implicitDefEqProofs only [Tryz.f236, go_sem, seval] at hpre ⊢
 refine AE [] (ι := {p : Nat × Int // p.1 ≤ s.size ∧ 0 ≤ p.2 ∧ (p.1 = 0 → p.2 = 0) ∧ (p.1 ≤ 1 → p.2 ≤ 9) ∧ (p.1 ≤ 2 → p.2 ≤ 99) ∧ p.2 ≤ 999 ∧ Sr s (s.size - p.1) p.1 p.2 = Nv s}) (fun p => ⟨[(0, .t (.v (.string s))), (3, .t (.v (.int .i64 p.1.2))), (4, .t (.v (.int .i64 p.1.1)))], []⟩) (fun p => s.size - p.1.1) ⟨(0, 0), by simp, by simp, by simp, by simp, by simp, by simp, rfl⟩ rfl ?_ ?_
 ·simp -implicitDefEqProofs only [go_sem, seval]
  try simp
 ·rintro ⟨⟨i, n⟩, hi, h0, h1, h2, h3, h4, hv⟩
  dsimp only at hi h0 h1 h2 h3 h4 hv
  simp -implicitDefEqProofs only [go_sem, seval]
  with_reducible repeat' (first | apply ai | intro _ | ((first | apply s1 | apply s2 | apply s3 | apply s4) <;> intro hb <;> simp -implicitDefEqProofs only [hb, go_sem, seval] <;> try simp only [qz] at hb))
  all_goals (try simp only [maxLen, tn, Int.toNat_zero] at *)
  all_goals (try have hbr := A3 s i)
  all_goals first | rfl | omega | skip
  all_goals (by_cases hlt : i < s.size)
  all_goals first
   | omega
   | (rw [WT hlt, if_neg (by omega)] at hv; rw [← hv]; done)
   | (rw [WS (by omega), if_pos (by omega)] at hv; rw [← hv]; done)
   | (rw [WS (by omega), if_neg (by omega)] at hv; rw [← hv]; done)
   | (rw [WT hlt, if_pos (by omega)] at hv
      refine ⟨⟨(i + 1, n * 10 + (AB s i - 48)), by dsimp only; omega, by dsimp only; omega, by dsimp only; omega, by dsimp only; omega, by dsimp only; omega, by dsimp only; omega, hv⟩, by dsimp only; omega, ?_⟩
      simp -implicitDefEqProofs only [go_sem, seval]
      try simp
      done)
   | skip
theorem vN (i : Nat) : ((i : Int) + 1).toNat = i + 1 := by omega
def Kn (s : ByteArray) : Nat → Nat → Nat → List ByteArray × Nat
 | 0, _, fr => ([], fr)
 | k + 1, i, fr => if i + 1 < s.size then (if AB s i = 13 ∧ AB s (i + 1) = 10 then (s.extract fr i :: (Kn s k (i + 2) (i + 2)).1, (Kn s k (i + 2) (i + 2)).2) else Kn s k (i + 1) fr) else ([], fr)
def Mn (s : ByteArray) : List ByteArray := (Kn s s.size 0 0).1
def jl (s : ByteArray) : ByteArray := s.extract (Kn s s.size 0 0).2 s.size
theorem rE {s : ByteArray} {k i fr : Nat} (h : i + 1 < s.size) (c : AB s i = 13 ∧ AB s (i + 1) = 10) : Kn s (k + 1) i fr = (s.extract fr i :: (Kn s k (i + 2) (i + 2)).1, (Kn s k (i + 2) (i + 2)).2) := by
 rw [Kn, if_pos h, if_pos c]
theorem rD {s : ByteArray} {k i fr : Nat} (h : i + 1 < s.size) (c : ¬ (AB s i = 13 ∧ AB s (i + 1) = 10)) : Kn s (k + 1) i fr = Kn s k (i + 1) fr := by
 rw [Kn, if_pos h, if_neg c]
theorem dD {s : ByteArray} {k i fr : Nat} (h : ¬ i + 1 < s.size) : Kn s k i fr = ([], fr) := by
 cases k with
 | zero => rfl
 | succ k => rw [Kn, if_neg h]
theorem V6 (s : ByteArray) : ∀ k i fr, fr ≤ i → i ≤ s.size → (Kn s k i fr).2 ≤ s.size ∧ ((Kn s k i fr).1.length + i ≤ s.size) ∧ ∀ x ∈ (Kn s k i fr).1, x.size ≤ s.size
 | 0, i, fr, h, hi => ⟨by show fr ≤ s.size; omega, by show 0 + i ≤ s.size; omega, fun x hx => by cases hx⟩
 | k + 1, i, fr, h, hi => by
   rw [Kn]
   split
   ·split
    ·have q := V6 s k (i + 2) (i + 2) (Nat.le_refl _) (by omega)
     refine ⟨q.1, by show (Kn s k (i + 2) (i + 2)).1.length + 1 + i ≤ s.size; omega, fun x hx => ?_⟩
     rcases List.mem_cons.1 hx with rfl | hx
     ·rw [ByteArray.size_extract]; omega
     ·exact q.2.2 x hx
    ·have q := V6 s k (i + 1) fr (by omega) (by omega)
     exact ⟨q.1, by omega, q.2.2⟩
   ·exact ⟨by show fr ≤ s.size; omega, by show 0 + i ≤ s.size; omega, fun x hx => by cases hx⟩
theorem dE (s : ByteArray) : (Mn s).length ≤ s.size ∧ (∀ x ∈ Mn s, x.size ≤ s.size) ∧ (jl s).size ≤ s.size := by
 have q := V6 s s.size 0 0 (Nat.le_refl _) (by omega)
 unfold Mn jl
 exact ⟨by omega, q.2.2, by rw [ByteArray.size_extract]; omega⟩
def ga : Ct := At (lc Av l0) (fun p => p.1.size ≤ 2000000) (fun p => .tup [.o true 1 ((Mn p.1).map AH), .t (.v (.string (jl p.1)))])
section
attribute [local go_sem] lm List.map_nil List.length_append List.length_cons List.length_nil
set_option maxHeartbeats 1600000 in
theorem nI {G : Gt} (hG : Aj G) : Gd G 232 (AA 0 ga) := by
 refine gr (fn := Tryz.f232) (n := 1) rfl hG ?_ (hs := fun _ _ => .tup _ fun c hc => by
  simp only [List.mem_cons, List.not_mem_nil, or_false] at hc
  rcases hc with rfl | rfl
  ·exact .deep _ _
  ·exact .v _)
 rintro ⟨s, ⟨⟩⟩ hpre
 simp -implicitDefEqProofs only [Tryz.f232, go_sem, seval] at hpre ⊢
 with_reducible repeat' (first | apply ai | intro _ | ((first | apply s1 | apply s2 | apply s3 | apply s4) <;> intro hb <;> simp -implicitDefEqProofs only [hb, go_sem, seval] <;> try simp only [qz] at hb))
 all_goals first | rfl | omega | skip
 refine AE [(4, 901, true, 1)] (ι := {p : Nat × Nat × Nat × List ByteArray // p.2.2.1 ≤ p.2.1 ∧ (p.2.1 ≤ s.size ∧ p.2.2.2.length ≤ p.2.1 ∧ s.size ≤ p.1 + p.2.1) ∧ p.2.2.2 ++ (Kn s p.1 p.2.1 p.2.2.1).1 = Mn s ∧ s.extract (Kn s p.1 p.2.1 p.2.2.1).2 s.size = jl s}) (fun p => ⟨[(0, .t (.v (.string s))), (4, .h 901), (5, .t (.v (.int .i64 p.1.2.2.1))), (6, .t (.v (.int .i64 p.1.2.1)))], [(901, some (.arr true 1 (p.1.2.2.2.map AH)))]⟩) (fun p => s.size - p.1.2.1) ⟨(s.size, 0, 0, []), by simp, by simp, rfl, rfl⟩ rfl ?_ ?_
 ·simp -implicitDefEqProofs only [go_sem, seval]
  try simp
 ·rintro ⟨⟨k, i, fr, out⟩, hf, ⟨hi, ho, hk⟩, h1, h2⟩
  dsimp only at hf hi ho hk h1 h2
  simp -implicitDefEqProofs only [go_sem, seval]
  with_reducible repeat' (first | apply ai | intro _ | ((first | apply s1 | apply s2 | apply s3 | apply s4) <;> intro hb <;> simp -implicitDefEqProofs only [hb, go_sem, seval] <;> try simp only [qz] at hb))
  all_goals (try simp only [maxLen, tn, vN] at *)
  all_goals first
   | rfl
   | omega
   | (rename_i q; simp only [List.mem_singleton] at q; subst q; rfl)
   | (simp only [List.mem_singleton] at *; omega)
   | (rw [dD (by omega), List.append_nil] at h1; rw [h1]; done)
   | (rw [dD (by omega)] at h2; rw [← h2]; done)
   | (obtain ⟨k, rfl⟩ : ∃ j, k = j + 1 := ⟨k - 1, by omega⟩
      rw [rE (by omega) ⟨by assumption, by assumption⟩] at h1 h2
      refine ⟨⟨(k, i + 2, i + 2, out ++ [s.extract fr i]), by dsimp only; omega, ⟨by dsimp only; omega, by simp; omega, by dsimp only; omega⟩, by simpa using h1, h2⟩, by dsimp only; omega, ?_⟩
      simp -implicitDefEqProofs only [go_sem, seval]
      simp [AH]
      try omega
      done)
   | (obtain ⟨k, rfl⟩ : ∃ j, k = j + 1 := ⟨k - 1, by omega⟩
      rw [rD (by omega) (by omega)] at h1 h2
      refine ⟨⟨(k, i + 1, fr, out), by dsimp only; omega, ⟨by dsimp only; omega, by dsimp only; omega, by dsimp only; omega⟩, h1, h2⟩, by dsimp only; omega, ?_⟩
      simp -implicitDefEqProofs only [go_sem, seval]
      try simp
      done)
   | skip
end
def dg (n : Int) : ByteArray := FH [48 + n]
theorem Lz (n : Int) : (dg n).size = 1 := rfl
def Lv (n : Int) : ByteArray := if n < 10 then dg n else dg (n / 10) ++ dg (n % 10)
theorem Lw {n : Int} (h : n < 10) : Lv n = dg n := if_pos h
theorem HZ (n : Int) : 1 ≤ (Lv n).size ∧ (Lv n).size ≤ 2 := by
 unfold Lv
 split
 ·rw [Lz]; omega
 ·rw [ByteArray.size_append, Lz, Lz]; omega
theorem it {n : Int} (h : ¬ n < 10) : Lv n = dg (n / 10) ++ dg (n % 10) := if_neg h
def Qp : Ct := At (lc BJ l0) (fun p => 0 ≤ p.1 ∧ p.1 < 10) (fun p => .t (.v (.string (Lv p.1))))
theorem Vp {G : Gt} (hG : Aj G) : Gd G 200 (AA 0 Qp) := by
 refine gr (fn := Tryz.f200) (n := 1) rfl hG ?_
 rintro ⟨n, ⟨⟩⟩ hpre
 simp -implicitDefEqProofs only [Tryz.f200, go_sem, seval] at hpre ⊢
 have h1 : 0 ≤ n := hpre.1
 have h2 : n < 10 := hpre.2
 with_reducible repeat' (first | apply ai | intro _ | ((first | apply s1 | apply s2 | apply s3 | apply s4) <;> intro hb <;> simp -implicitDefEqProofs only [hb, go_sem, seval] <;> try simp only [qz] at hb))
 all_goals (try simp only [maxLen, tn] at *)
 all_goals first | rfl | omega | (rw [Lw h2]; rfl) | skip
def Y6 : Ct := At (lc BJ l0) (fun p => 0 ≤ p.1 ∧ p.1 < 100) (fun p => .t (.v (.string (Lv p.1))))
section
attribute [local go_sem] Qp
theorem Vq {G : Gt} (hG : Aj G) (hh : G.e 200 = AA 0 Qp) : Gd G 200 (AA 0 Y6) := by
 refine gr (fn := Tryz.f200) (n := 1) rfl hG ?_
 rintro ⟨n, ⟨⟩⟩ hpre
 simp -implicitDefEqProofs only [Tryz.f200, go_sem, hh, seval] at hpre ⊢
 have h1 : 0 ≤ n := hpre.1
 have h2 : n < 100 := hpre.2
 with_reducible repeat' (first | apply ai | intro _ | ((first | apply s1 | apply s2 | apply s3 | apply s4) <;> intro hb <;> simp -implicitDefEqProofs only [hb, go_sem, hh, seval] <;> try simp only [qz] at hb))
 all_goals (try simp only [maxLen, tn] at *)
 all_goals first | rfl | omega | (rw [Lw (by omega)]; rfl) | (rw [it (n := n) (by omega), Lw (n := n / 10) (by omega)]; rfl) | (rw [Lw (n := n / 10) (by omega)]; rfl) | (have := (HZ (n / 10)).2; have e : (FH [48 + n % 10]).size = 1 := rfl; omega) | skip
end
theorem mc {G : Gt} (hG : Aj G) : Gd G 200 (AA 0 Y6) := Vq (G := Oe G.m [(200, AA 0 Qp)]) (AF OU (Vp (G := Oe G.m []) OU)) rfl
theorem BE {g : Prop} (c : Prop) (h1 : c → g) (h2 : ¬ c → g) : g := (Classical.em c).elim h1 h2
theorem vK : (1 : Int).toNat = 1 := rfl
theorem Gw {l : ByteArray} (h : ¬ l = ⟨#[]⟩) : (0 : Int) < l.size := by
 have : ¬ l.size = 0 := fun e => h (ByteArray.size_eq_zero_iff.1 e)
 omega
def Sm : Ml := ⟨⟨⟨#[]⟩, ⟨#[]⟩⟩, [], []⟩
def E4 (s : Ss) : Ss := ⟨s.state, Sm, false, s.buf⟩
theorem iA (s : Ss) : E4 s = ⟨s.state, ⟨⟨⟨#[]⟩, ⟨#[]⟩⟩, [], []⟩, false, s.buf⟩ := rfl
open Classical in
noncomputable def Ap (l : ByteArray) (w : ByteArray) : ByteArray × Bool := (if (l.size : Int) < w.size then (⟨#[]⟩, false) else (if l.extract 0 w.size = w then (l.extract w.size l.size, true) else (⟨#[]⟩, false)))
theorem bY {l : ByteArray} {w : ByteArray} (h0 : (l.size : Int) < w.size) : Ap l w = (⟨#[]⟩, false) := by unfold Ap; rw [if_pos h0]
theorem bZ {l : ByteArray} {w : ByteArray} (h0 : ¬ ((l.size : Int) < w.size)) (h1 : l.extract 0 w.size = w) : Ap l w = (l.extract w.size l.size, true) := by unfold Ap; rw [if_neg h0, if_pos h1]
theorem ba {l : ByteArray} {w : ByteArray} (h0 : ¬ ((l.size : Int) < w.size)) (h1 : ¬ (l.extract 0 w.size = w)) : Ap l w = (⟨#[]⟩, false) := by unfold Ap; rw [if_neg h0, if_neg h1]
theorem Me (l w : ByteArray) : (Ap l w).1.size ≤ l.size := by
 unfold Ap
 split
 ·exact Nat.zero_le _
 ·split
  ·show (l.extract w.size l.size).size ≤ _; rw [ByteArray.size_extract]; omega
  ·exact Nat.zero_le _
def gj : Ct := At (lc Av (lc Av l0)) (fun p => True) (fun p => .tup [.t (.v (.string (Ap p.1 p.2.1).1)), .t (.v (.bool (Ap p.1 p.2.1).2))])
section
attribute [local go_sem] tn
theorem nQ {G : Gt} (hG : Aj G) : Gd G 240 (AA 0 gj) := by
 refine gr (fn := Tryz.f240) (n := 2) rfl hG ?_ (hs := fun _ _ => .tup _ fun c hc => by
  simp only [List.mem_cons, List.not_mem_nil, or_false] at hc
  rcases hc with rfl | rfl <;> exact .v _)
 rintro ⟨l, w, ⟨⟩⟩ hpre
 try dsimp only
 refine BE ((l.size : Int) < w.size) (fun h0 => have e_ : Ap l w = _ := bY h0; have h1 := trivial; ?_) (fun h0 => BE (l.extract 0 w.size = w) (fun h1 => have e_ : Ap l w = _ := bZ h0 h1; ?_) (fun h1 => have e_ : Ap l w = _ := ba h0 h1; ?_))
 all_goals
  try rw [e_]
  simp -implicitDefEqProofs only [Tryz.f240, h0, h1, eq_self, decide_true, decide_false, Int.reduceEq, go_sem, seval]
  with_reducible repeat' (first | apply ai | intro _ | ((first | apply s1 | apply s2 | apply s3 | apply s4) <;> intro hb <;> simp -implicitDefEqProofs only [hb, go_sem, seval] <;> try simp only [qz] at hb))
  all_goals (try simp only [maxLen, tn, lm] at *)
  all_goals first | rfl | omega | decide | with_reducible assumption | (show AZ _ = true; rfl) | exact Gw (by assumption) | contradiction | skip
end
def PC : Ct := At (lc YA.ag l0) (fun p => True) (fun p => .agg ((EI (E4 p.1)).map .t))
section
attribute [local go_sem] iA AS.opn AS.cls AS.nilb AS.renb AS.up Bool.not_false Bool.not_true List.set_set List.set_cons_zero List.set_cons_succ List.set_nil List.mem_singleton forall_eq tn List.map_nil List.nil_append
theorem nJ {G : Gt} (hG : Aj G) : Gd G 233 (AA 1 PC) := by
 refine gr (fn := Tryz.f233) (n := 1) rfl hG ?_
 rintro ⟨s, ⟨⟩⟩ hpre
 simp -implicitDefEqProofs only [Tryz.f233, go_sem, seval] at hpre ⊢
 with_reducible repeat' (first | apply ai | intro _ | ((first | apply s1 | apply s2 | apply s3 | apply s4) <;> intro hb <;> simp -implicitDefEqProofs only [hb, go_sem, seval] <;> try simp only [qz] at hb))
 all_goals first | rfl | omega | decide | with_reducible assumption | (show AZ _ = true; rfl) | exact Gw (by assumption) | contradiction | skip
end
open Classical in
noncomputable def EJ (s : Ss) (t : ByteArray) : Ss × ByteArray := (if s.state = 1 then (if Fl t then (⟨2, ⟨BA t, [], []⟩, s.bad, s.buf⟩, ⟨#[50, 53, 48, 32, 102, 114, 111, 109]⟩) else (s, ⟨#[53, 48, 49, 32, 102, 111, 114, 109]⟩)) else (s, ⟨#[53, 48, 51, 32, 111, 114, 100, 101, 114]⟩))
theorem jG {s : Ss} {t : ByteArray} (h0 : s.state = 1) (h1 : Fl t) : EJ s t = (⟨2, ⟨BA t, [], []⟩, s.bad, s.buf⟩, ⟨#[50, 53, 48, 32, 102, 114, 111, 109]⟩) := by unfold EJ; rw [if_pos h0, if_pos h1]
theorem jH {s : Ss} {t : ByteArray} (h0 : s.state = 1) (h1 : ¬ (Fl t)) : EJ s t = (s, ⟨#[53, 48, 49, 32, 102, 111, 114, 109]⟩) := by unfold EJ; rw [if_pos h0, if_neg h1]
theorem jI {s : Ss} {t : ByteArray} (h0 : ¬ (s.state = 1)) : EJ s t = (s, ⟨#[53, 48, 51, 32, 111, 114, 100, 101, 114]⟩) := by unfold EJ; rw [if_neg h0]
def gk : Ct := At (lc YA.ag (lc Av l0)) (fun p => p.2.1.size ≤ 2000000) (fun p => .tup [.agg ((EI (EJ p.1 p.2.1).1).map .t), .t (.v (.string (EJ p.1 p.2.1).2))])
section
attribute [local go_sem] US QA AS.opn AS.cls AS.nilb AS.renb AS.up Bool.not_false Bool.not_true List.set_set List.set_cons_zero List.set_cons_succ List.set_nil List.mem_singleton forall_eq tn List.map_nil List.nil_append
theorem nR {G : Gt} (hG : Aj G) (hh : G.e 244 = AA 0 US) : Gd G 241 (AA 1 gk) := by
 refine gr (fn := Tryz.f241) (n := 2) rfl hG ?_
 rintro ⟨s, t, ⟨⟩⟩ hpre
 have hz : t.size ≤ 2000000 := hpre
 try dsimp only
 refine BE (s.state = 1) (fun h0 => BE (Fl t) (fun h1 => have h1' := Aq h1; have e_ : EJ s t = _ := jG h0 h1; ?_) (fun h1 => have h1' := AQ h1; have e_ : EJ s t = _ := jH h0 h1; ?_)) (fun h0 => have e_ : EJ s t = _ := jI h0; have h1' := trivial; ?_)
 all_goals
  try rw [e_]
  simp -implicitDefEqProofs only [Tryz.f241, h0, h1', eq_self, decide_true, decide_false, Int.reduceEq, go_sem, hh, seval]
  with_reducible repeat' (first | apply ai | intro _ | ((first | apply s1 | apply s2 | apply s3 | apply s4) <;> intro hb <;> simp -implicitDefEqProofs only [hb, go_sem, hh, seval] <;> try simp only [qz] at hb))
  all_goals (try simp only [maxLen, tn, lm] at *)
  all_goals first | rfl | omega | decide | with_reducible assumption | (show AZ _ = true; rfl) | exact Gw (by assumption) | contradiction | skip
end
theorem s8 {a b : Ad} : (decide (a.user = b.user) && decide (a.domain = b.domain)) = decide (a = b) := by
 rw [← Bool.decide_and]; exact decide_eq_decide.2 C3.symm
theorem vE {b : Bool} : ((false != b) = true) = (b = true) := by cases b <;> rfl
theorem vD {b : Bool} : ((false != b) = false) = (b = false) := by cases b <;> rfl
theorem V8 {α : Type} [Inhabited α] {xs : List α} {i : Nat} {a : α} (h : i < xs.length) (e : xs.getD i default = a) : a ∈ xs := e ▸ AC h
theorem WQ {α : Type} [Inhabited α] {xs : List α} {i : Nat} {a : α} (h : xs.length ≤ i) (hall : ∀ j, j < i → ¬ xs.getD j default = a) : ¬ a ∈ xs := fun q => by
 obtain ⟨k, hk, e⟩ := List.getElem_of_mem q
 exact hall k (by omega) (by simpa [hk] using e)
open Classical in
noncomputable def HB (c : Cf) (s : Ss) (t : ByteArray) : Ss × ByteArray := (if s.state = 2 ∨ s.state = 3 then (if Fl t then (if AU (BA t) then (s, ⟨#[53, 48, 49, 32, 102, 111, 114, 109]⟩) else (if I8 c (BA t) then (if BA t ∈ s.mail.to then (s, ⟨#[50, 53, 48, 32, 116, 111]⟩) else (if (s.mail.to.length : Int) ≥ 4 then (s, ⟨#[52, 53, 50, 32, 109, 97, 110, 121]⟩) else (⟨3, ⟨s.mail.frm, s.mail.to ++ [BA t], s.mail.body⟩, s.bad, s.buf⟩, ⟨#[50, 53, 48, 32, 116, 111]⟩))) else (s, ⟨#[53, 53, 48, 32, 110, 111, 98, 111, 100, 121]⟩))) else (s, ⟨#[53, 48, 49, 32, 102, 111, 114, 109]⟩)) else (s, ⟨#[53, 48, 51, 32, 111, 114, 100, 101, 114]⟩))
theorem r8 {c : Cf} {s : Ss} {t : ByteArray} (h0 : s.state = 2 ∨ s.state = 3) (h1 : Fl t) (h2 : AU (BA t)) : HB c s t = (s, ⟨#[53, 48, 49, 32, 102, 111, 114, 109]⟩) := by unfold HB; rw [if_pos h0, if_pos h1, if_pos h2]
theorem r9 {c : Cf} {s : Ss} {t : ByteArray} (h0 : s.state = 2 ∨ s.state = 3) (h1 : Fl t) (h2 : ¬ (AU (BA t))) (h3 : I8 c (BA t)) (h4 : BA t ∈ s.mail.to) : HB c s t = (s, ⟨#[50, 53, 48, 32, 116, 111]⟩) := by unfold HB; rw [if_pos h0, if_pos h1, if_neg h2, if_pos h3, if_pos h4]
theorem sA {c : Cf} {s : Ss} {t : ByteArray} (h0 : s.state = 2 ∨ s.state = 3) (h1 : Fl t) (h2 : ¬ (AU (BA t))) (h3 : I8 c (BA t)) (h4 : ¬ (BA t ∈ s.mail.to)) (h5 : (s.mail.to.length : Int) ≥ 4) : HB c s t = (s, ⟨#[52, 53, 50, 32, 109, 97, 110, 121]⟩) := by unfold HB; rw [if_pos h0, if_pos h1, if_neg h2, if_pos h3, if_neg h4, if_pos h5]
theorem sB {c : Cf} {s : Ss} {t : ByteArray} (h0 : s.state = 2 ∨ s.state = 3) (h1 : Fl t) (h2 : ¬ (AU (BA t))) (h3 : I8 c (BA t)) (h4 : ¬ (BA t ∈ s.mail.to)) (h5 : ¬ ((s.mail.to.length : Int) ≥ 4)) : HB c s t = (⟨3, ⟨s.mail.frm, s.mail.to ++ [BA t], s.mail.body⟩, s.bad, s.buf⟩, ⟨#[50, 53, 48, 32, 116, 111]⟩) := by unfold HB; rw [if_pos h0, if_pos h1, if_neg h2, if_pos h3, if_neg h4, if_neg h5]
theorem sC {c : Cf} {s : Ss} {t : ByteArray} (h0 : s.state = 2 ∨ s.state = 3) (h1 : Fl t) (h2 : ¬ (AU (BA t))) (h3 : ¬ (I8 c (BA t))) : HB c s t = (s, ⟨#[53, 53, 48, 32, 110, 111, 98, 111, 100, 121]⟩) := by unfold HB; rw [if_pos h0, if_pos h1, if_neg h2, if_neg h3]
theorem sD {c : Cf} {s : Ss} {t : ByteArray} (h0 : s.state = 2 ∨ s.state = 3) (h1 : ¬ (Fl t)) : HB c s t = (s, ⟨#[53, 48, 49, 32, 102, 111, 114, 109]⟩) := by unfold HB; rw [if_pos h0, if_neg h1]
theorem sE {c : Cf} {s : Ss} {t : ByteArray} (h0 : ¬ (s.state = 2 ∨ s.state = 3)) : HB c s t = (s, ⟨#[53, 48, 51, 32, 111, 114, 100, 101, 114]⟩) := by unfold HB; rw [if_neg h0]
def gm : Ct := At (lc I0.ag (lc YA.ag (lc Av l0))) (fun p => p.2.2.1.size ≤ 2000000 ∧ p.2.1.mail.to.length ≤ 1000) (fun p => .tup [.agg ((EI (HB p.1 p.2.1 p.2.2.1).1).map .t), .t (.v (.string (HB p.1 p.2.1 p.2.2.1).2))])
section
attribute [local go_sem] US R9 gp QA AS.opn AS.cls AS.nilb AS.renb AS.up Bool.not_false Bool.not_true List.set_set List.set_cons_zero List.set_cons_succ List.set_nil List.mem_singleton forall_eq tn List.map_nil List.nil_append
set_option maxHeartbeats 3200000 in
theorem nS {G : Gt} (hG : Aj G) (hh : G.e 244 = AA 0 US ∧ G.e 72 = AA 0 R9 ∧ G.e 245 = AA 0 gp) : Gd G 242 (AA 1 gm) := by
 refine gr (fn := Tryz.f242) (n := 3) rfl hG ?_
 rintro ⟨c, s, t, ⟨⟩⟩ hpre
 obtain ⟨hz, hn⟩ := hpre
 try dsimp only at hz hn ⊢
 refine BE (s.state = 2 ∨ s.state = 3) (fun h0 => BE (Fl t) (fun h1 => have h1' := Aq h1; BE (AU (BA t)) (fun h2 => have h2' := Aq h2; have e_ : HB c s t = _ := r8 h0 h1 h2; have h3' := trivial; ?_) (fun h2 => have h2' := AQ h2; BE (I8 c (BA t)) (fun h3 => have h3' := Aq h3; ?w1) (fun h3 => have h3' := AQ h3; have e_ : HB c s t = _ := sC h0 h1 h2 h3; ?_))) (fun h1 => have h1' := AQ h1; have e_ : HB c s t = _ := sD h0 h1; have h2' := trivial; have h3' := trivial; ?_)) (fun h0 => have e_ : HB c s t = _ := sE h0; have h1' := trivial; have h2' := trivial; have h3' := trivial; ?_)
 case w1 =>
  simp -implicitDefEqProofs only [Tryz.f242, h0, h1', h2', h3', eq_self, decide_true, decide_false, go_sem, hh, seval]
  with_reducible repeat' (first | apply ai | intro _ | ((first | apply s1 | apply s2 | apply s3 | apply s4) <;> intro hb <;> simp -implicitDefEqProofs only [hb, go_sem, hh, seval] <;> try simp only [qz] at hb))
  all_goals (try simp only [maxLen, tn, lm] at *)
  all_goals first | rfl | omega | decide | with_reducible assumption | (show AZ _ = true; rfl) | exact Gw (by assumption) | contradiction | skip
  all_goals
   refine AE [] (ι := {i : Nat // i ≤ s.mail.to.length ∧ ∀ j, j < i → ¬ s.mail.to.getD j default = BA t}) (fun p => ⟨[(4, .pb 1004 0), (6, .pb 1006 0), (8, .pb 1008 0), (10, .t (.v (.int .i64 p.1)))], [(1004, some (.box ((EI s).map .t))), (1006, some (.box [.t (.v (.int .i64 0)), .t (.v (.string ⟨#[]⟩)), .t (.v (.string ⟨#[]⟩)), .nil, .nil, .t (.v (.bool false)), .t (.v (.string ⟨#[]⟩))])), (1008, some (.box [.t (.v (.string (BA t).user)), .t (.v (.string (BA t).domain))]))]⟩) (fun p => s.mail.to.length - p.1) ⟨0, by simp, by simp⟩ rfl ?_ ?_
   ·simp -implicitDefEqProofs only [go_sem, hh, seval]
    try simp
   ·rintro ⟨i, hi, hall⟩
    simp -implicitDefEqProofs only [go_sem, hh, seval]
    with_reducible repeat' (first | apply ai | intro _ | ((first | apply s1 | apply s2 | apply s3 | apply s4) <;> intro hb <;> simp -implicitDefEqProofs only [hb, go_sem, hh, seval] <;> try simp only [qz] at hb))
    all_goals (try simp only [maxLen, tn, lm, s8, vE, vD, qa, qb] at *)
    all_goals first
     | rfl | omega | decide | with_reducible assumption | (show AZ _ = true; rfl) | exact Gw (by assumption) | contradiction
     | (rw [r9 h0 h1 h2 h3 (V8 (xs := s.mail.to) (i := i) (by omega) (by assumption))]; first | done | rfl)
     | (rw [sA h0 h1 h2 h3 (WQ (by omega) hall) (by omega)]; first | done | rfl)
     | (rw [sB h0 h1 h2 h3 (WQ (by omega) hall) (by omega)]; first | done | rfl | (simp [Aw]; done))
     | (refine ⟨⟨i + 1, by omega, fun j hj => ?_⟩, by dsimp only; omega, ?_⟩
        ·by_cases e : j = i
         ·subst e; assumption
         ·exact hall j (by omega)
        ·simp -implicitDefEqProofs only [go_sem, hh, seval]
         simp)
     | skip
 all_goals
  try rw [e_]
  simp -implicitDefEqProofs only [Tryz.f242, h0, h1', h2', h3', eq_self, decide_true, decide_false, Int.reduceEq, go_sem, hh, seval]
  with_reducible repeat' (first | apply ai | intro _ | ((first | apply s1 | apply s2 | apply s3 | apply s4) <;> intro hb <;> simp -implicitDefEqProofs only [hb, go_sem, hh, seval] <;> try simp only [qz] at hb))
  all_goals (try simp only [maxLen, tn, lm] at *)
  all_goals first | rfl | omega | decide | with_reducible assumption | (show AZ _ = true; rfl) | exact Gw (by assumption) | contradiction | skip
end
open Classical in
noncomputable def Af (s : Ss) (l : ByteArray) : (Ss × ByteArray) × Bool := (if l = ⟨#[46]⟩ then (if s.bad = true then ((⟨1, s.mail, s.bad, s.buf⟩, ⟨#[53, 53, 52, 32, 110, 111]⟩), false) else (if CU s.mail.body then (if (s.mail.body.length : Int) ≥ 12 then ((⟨1, s.mail, s.bad, s.buf⟩, ⟨#[53, 53, 52, 32, 110, 111]⟩), false) else (if (Dg s.mail.body : Int) ≥ 4 then ((⟨1, s.mail, s.bad, s.buf⟩, ⟨#[53, 53, 52, 32, 114, 111, 117, 110, 100]⟩), false) else ((⟨1, s.mail, s.bad, s.buf⟩, ⟨#[50, 53, 48, 32, 116, 97, 107, 101, 110]⟩), true))) else ((⟨1, s.mail, s.bad, s.buf⟩, ⟨#[53, 53, 52, 32, 110, 111]⟩), false))) else (if l = ⟨#[]⟩ then (if (s.mail.body.length : Int) ≥ 12 then ((⟨s.state, s.mail, true, s.buf⟩, ⟨#[]⟩), false) else (if HI l then ((⟨s.state, ⟨s.mail.frm, s.mail.to, s.mail.body ++ [l]⟩, s.bad, s.buf⟩, ⟨#[]⟩), false) else ((⟨s.state, s.mail, true, s.buf⟩, ⟨#[]⟩), false))) else (if AB l 0 = 46 then (if (s.mail.body.length : Int) ≥ 12 then ((⟨s.state, s.mail, true, s.buf⟩, ⟨#[]⟩), false) else (if HI (l.extract 1 l.size) then ((⟨s.state, ⟨s.mail.frm, s.mail.to, s.mail.body ++ [l.extract 1 l.size]⟩, s.bad, s.buf⟩, ⟨#[]⟩), false) else ((⟨s.state, s.mail, true, s.buf⟩, ⟨#[]⟩), false))) else (if (s.mail.body.length : Int) ≥ 12 then ((⟨s.state, s.mail, true, s.buf⟩, ⟨#[]⟩), false) else (if HI l then ((⟨s.state, ⟨s.mail.frm, s.mail.to, s.mail.body ++ [l]⟩, s.bad, s.buf⟩, ⟨#[]⟩), false) else ((⟨s.state, s.mail, true, s.buf⟩, ⟨#[]⟩), false))))))
theorem iT {s : Ss} {l : ByteArray} (h0 : l = ⟨#[46]⟩) (h1 : s.bad = true) : Af s l = ((⟨1, s.mail, s.bad, s.buf⟩, ⟨#[53, 53, 52, 32, 110, 111]⟩), false) := by unfold Af; rw [if_pos h0, if_pos h1]
theorem iU {s : Ss} {l : ByteArray} (h0 : l = ⟨#[46]⟩) (h1 : ¬ (s.bad = true)) (h2 : CU s.mail.body) (h3 : (s.mail.body.length : Int) ≥ 12) : Af s l = ((⟨1, s.mail, s.bad, s.buf⟩, ⟨#[53, 53, 52, 32, 110, 111]⟩), false) := by unfold Af; rw [if_pos h0, if_neg h1, if_pos h2, if_pos h3]
theorem iV {s : Ss} {l : ByteArray} (h0 : l = ⟨#[46]⟩) (h1 : ¬ (s.bad = true)) (h2 : CU s.mail.body) (h3 : ¬ ((s.mail.body.length : Int) ≥ 12)) (h4 : (Dg s.mail.body : Int) ≥ 4) : Af s l = ((⟨1, s.mail, s.bad, s.buf⟩, ⟨#[53, 53, 52, 32, 114, 111, 117, 110, 100]⟩), false) := by unfold Af; rw [if_pos h0, if_neg h1, if_pos h2, if_neg h3, if_pos h4]
theorem iW {s : Ss} {l : ByteArray} (h0 : l = ⟨#[46]⟩) (h1 : ¬ (s.bad = true)) (h2 : CU s.mail.body) (h3 : ¬ ((s.mail.body.length : Int) ≥ 12)) (h4 : ¬ ((Dg s.mail.body : Int) ≥ 4)) : Af s l = ((⟨1, s.mail, s.bad, s.buf⟩, ⟨#[50, 53, 48, 32, 116, 97, 107, 101, 110]⟩), true) := by unfold Af; rw [if_pos h0, if_neg h1, if_pos h2, if_neg h3, if_neg h4]
theorem iX {s : Ss} {l : ByteArray} (h0 : l = ⟨#[46]⟩) (h1 : ¬ (s.bad = true)) (h2 : ¬ (CU s.mail.body)) : Af s l = ((⟨1, s.mail, s.bad, s.buf⟩, ⟨#[53, 53, 52, 32, 110, 111]⟩), false) := by unfold Af; rw [if_pos h0, if_neg h1, if_neg h2]
theorem iY {s : Ss} {l : ByteArray} (h0 : ¬ (l = ⟨#[46]⟩)) (h1 : l = ⟨#[]⟩) (h2 : (s.mail.body.length : Int) ≥ 12) : Af s l = ((⟨s.state, s.mail, true, s.buf⟩, ⟨#[]⟩), false) := by unfold Af; rw [if_neg h0, if_pos h1, if_pos h2]
theorem iZ {s : Ss} {l : ByteArray} (h0 : ¬ (l = ⟨#[46]⟩)) (h1 : l = ⟨#[]⟩) (h2 : ¬ ((s.mail.body.length : Int) ≥ 12)) (h3 : HI l) : Af s l = ((⟨s.state, ⟨s.mail.frm, s.mail.to, s.mail.body ++ [l]⟩, s.bad, s.buf⟩, ⟨#[]⟩), false) := by unfold Af; rw [if_neg h0, if_pos h1, if_neg h2, if_pos h3]
theorem ia {s : Ss} {l : ByteArray} (h0 : ¬ (l = ⟨#[46]⟩)) (h1 : l = ⟨#[]⟩) (h2 : ¬ ((s.mail.body.length : Int) ≥ 12)) (h3 : ¬ (HI l)) : Af s l = ((⟨s.state, s.mail, true, s.buf⟩, ⟨#[]⟩), false) := by unfold Af; rw [if_neg h0, if_pos h1, if_neg h2, if_neg h3]
theorem ib {s : Ss} {l : ByteArray} (h0 : ¬ (l = ⟨#[46]⟩)) (h1 : ¬ (l = ⟨#[]⟩)) (h2 : AB l 0 = 46) (h3 : (s.mail.body.length : Int) ≥ 12) : Af s l = ((⟨s.state, s.mail, true, s.buf⟩, ⟨#[]⟩), false) := by unfold Af; rw [if_neg h0, if_neg h1, if_pos h2, if_pos h3]
theorem ic {s : Ss} {l : ByteArray} (h0 : ¬ (l = ⟨#[46]⟩)) (h1 : ¬ (l = ⟨#[]⟩)) (h2 : AB l 0 = 46) (h3 : ¬ ((s.mail.body.length : Int) ≥ 12)) (h4 : HI (l.extract 1 l.size)) : Af s l = ((⟨s.state, ⟨s.mail.frm, s.mail.to, s.mail.body ++ [l.extract 1 l.size]⟩, s.bad, s.buf⟩, ⟨#[]⟩), false) := by unfold Af; rw [if_neg h0, if_neg h1, if_pos h2, if_neg h3, if_pos h4]
theorem ZP {s : Ss} {l : ByteArray} (h0 : ¬ (l = ⟨#[46]⟩)) (h1 : ¬ (l = ⟨#[]⟩)) (h2 : AB l 0 = 46) (h3 : ¬ ((s.mail.body.length : Int) ≥ 12)) (h4 : ¬ (HI (l.extract 1 l.size))) : Af s l = ((⟨s.state, s.mail, true, s.buf⟩, ⟨#[]⟩), false) := by unfold Af; rw [if_neg h0, if_neg h1, if_pos h2, if_neg h3, if_neg h4]
theorem ZQ {s : Ss} {l : ByteArray} (h0 : ¬ (l = ⟨#[46]⟩)) (h1 : ¬ (l = ⟨#[]⟩)) (h2 : ¬ (AB l 0 = 46)) (h3 : (s.mail.body.length : Int) ≥ 12) : Af s l = ((⟨s.state, s.mail, true, s.buf⟩, ⟨#[]⟩), false) := by unfold Af; rw [if_neg h0, if_neg h1, if_neg h2, if_pos h3]
theorem ZR {s : Ss} {l : ByteArray} (h0 : ¬ (l = ⟨#[46]⟩)) (h1 : ¬ (l = ⟨#[]⟩)) (h2 : ¬ (AB l 0 = 46)) (h3 : ¬ ((s.mail.body.length : Int) ≥ 12)) (h4 : HI l) : Af s l = ((⟨s.state, ⟨s.mail.frm, s.mail.to, s.mail.body ++ [l]⟩, s.bad, s.buf⟩, ⟨#[]⟩), false) := by unfold Af; rw [if_neg h0, if_neg h1, if_neg h2, if_neg h3, if_pos h4]
theorem ZS {s : Ss} {l : ByteArray} (h0 : ¬ (l = ⟨#[46]⟩)) (h1 : ¬ (l = ⟨#[]⟩)) (h2 : ¬ (AB l 0 = 46)) (h3 : ¬ ((s.mail.body.length : Int) ≥ 12)) (h4 : ¬ (HI l)) : Af s l = ((⟨s.state, s.mail, true, s.buf⟩, ⟨#[]⟩), false) := by unfold Af; rw [if_neg h0, if_neg h1, if_neg h2, if_neg h3, if_neg h4]
def gi : Ct := At (lc YA.ag (lc Av l0)) (fun p => p.1.mail.body.length ≤ 1000) (fun p => .tup [.agg ((EI (Af p.1 p.2.1).1.1).map .t), .t (.v (.string (Af p.1 p.2.1).1.2)), .t (.v (.bool (Af p.1 p.2.1).2))])
section
attribute [local go_sem] Lm gn gw Int.toNat_zero vK AS.opn AS.cls AS.nilb AS.renb AS.up Bool.not_false Bool.not_true List.set_set List.set_cons_zero List.set_cons_succ List.set_nil List.mem_singleton forall_eq tn List.map_nil List.nil_append
set_option maxHeartbeats 3200000 in
theorem nP {G : Gt} (hG : Aj G) (hh : G.e 122 = AA 0 Lm ∧ G.e 243 = AA 0 gn ∧ G.e 96 = AA 0 gw) : Gd G 239 (AA 1 gi) := by
 refine gr (fn := Tryz.f239) (n := 2) rfl hG ?_
 rintro ⟨s, l, ⟨⟩⟩ hpre
 have hn : s.mail.body.length ≤ 1000 := hpre
 try dsimp only
 refine BE (l = ⟨#[46]⟩) (fun h0 => BE (s.bad = true) (fun h1 => have e_ : Af s l = _ := iT h0 h1; have h1' := trivial; have h2' := trivial; have h3 := trivial; have h4 := trivial; have h2 := trivial; have h3' := trivial; have h4' := trivial; ?_) (fun h1 => have h1' := (Bool.not_eq_true _).mp h1; BE (CU s.mail.body) (fun h2 => have h2' := Aq h2; BE ((s.mail.body.length : Int) ≥ 12) (fun h3 => have e_ : Af s l = _ := iU h0 h1 h2 h3; have h1 := trivial; have h4 := trivial; have h2 := trivial; have h3' := trivial; have h4' := trivial; ?_) (fun h3 => BE ((Dg s.mail.body : Int) ≥ 4) (fun h4 => have e_ : Af s l = _ := iV h0 h1 h2 h3 h4; have h1 := trivial; have h2 := trivial; have h3' := trivial; have h4' := trivial; ?_) (fun h4 => have e_ : Af s l = _ := iW h0 h1 h2 h3 h4; have h1 := trivial; have h2 := trivial; have h3' := trivial; have h4' := trivial; ?_))) (fun h2 => have h2' := AQ h2; have e_ : Af s l = _ := iX h0 h1 h2; have h1 := trivial; have h3 := trivial; have h4 := trivial; have h2 := trivial; have h3' := trivial; have h4' := trivial; ?_))) (fun h0 => BE (l = ⟨#[]⟩) (fun h1 => BE ((s.mail.body.length : Int) ≥ 12) (fun h2 => have e_ : Af s l = _ := iY h0 h1 h2; have h1' := trivial; have h2' := trivial; have h3 := trivial; have h4 := trivial; have h3' := trivial; have h4' := trivial; ?_) (fun h2 => BE (HI l) (fun h3 => have h3' := Aq h3; have e_ : Af s l = _ := iZ h0 h1 h2 h3; have h1' := trivial; have h2' := trivial; have h3 := trivial; have h4 := trivial; have h4' := trivial; ?_) (fun h3 => have h3' := AQ h3; have e_ : Af s l = _ := ia h0 h1 h2 h3; have h1' := trivial; have h2' := trivial; have h3 := trivial; have h4 := trivial; have h4' := trivial; ?_))) (fun h1 => BE (AB l 0 = 46) (fun h2 => BE ((s.mail.body.length : Int) ≥ 12) (fun h3 => have e_ : Af s l = _ := ib h0 h1 h2 h3; have h1' := trivial; have h2' := trivial; have h4 := trivial; have h3' := trivial; have h4' := trivial; ?_) (fun h3 => BE (HI (l.extract 1 l.size)) (fun h4 => have h4' := Aq h4; have e_ : Af s l = _ := ic h0 h1 h2 h3 h4; have h1' := trivial; have h2' := trivial; have h4 := trivial; have h3' := trivial; ?_) (fun h4 => have h4' := AQ h4; have e_ : Af s l = _ := ZP h0 h1 h2 h3 h4; have h1' := trivial; have h2' := trivial; have h4 := trivial; have h3' := trivial; ?_))) (fun h2 => BE ((s.mail.body.length : Int) ≥ 12) (fun h3 => have e_ : Af s l = _ := ZQ h0 h1 h2 h3; have h1' := trivial; have h2' := trivial; have h4 := trivial; have h3' := trivial; have h4' := trivial; ?_) (fun h3 => BE (HI l) (fun h4 => have h4' := Aq h4; have e_ : Af s l = _ := ZR h0 h1 h2 h3 h4; have h1' := trivial; have h2' := trivial; have h4 := trivial; have h3' := trivial; ?_) (fun h4 => have h4' := AQ h4; have e_ : Af s l = _ := ZS h0 h1 h2 h3 h4; have h1' := trivial; have h2' := trivial; have h4 := trivial; have h3' := trivial; ?_)))))
 all_goals
  try rw [e_]
  simp -implicitDefEqProofs only [Tryz.f239, h0, h1, h1', h2', h3, h4, h2, h3', h4', eq_self, decide_true, decide_false, Int.reduceEq, go_sem, hh, seval]
  with_reducible repeat' (first | apply ai | intro _ | ((first | apply s1 | apply s2 | apply s3 | apply s4) <;> intro hb <;> simp -implicitDefEqProofs only [hb, go_sem, hh, seval] <;> try simp only [qz] at hb))
  all_goals (try simp only [maxLen, tn, lm] at *)
  all_goals first | rfl | omega | decide | with_reducible assumption | (show AZ _ = true; rfl) | exact Gw (by assumption) | contradiction | (subst h1; contradiction) | (subst h1; exact absurd rfl (by assumption)) | (simp [AH]; done) | skip
end
open Classical in
noncomputable def BP (c : Cf) (s : Ss) (l : ByteArray) : Ss × ByteArray := (if (Ap l ⟨#[72, 69, 76, 79, 32]⟩).2 = true then (if Di (Ap l ⟨#[72, 69, 76, 79, 32]⟩).1 then (E4 ⟨1, s.mail, s.bad, s.buf⟩, ⟨#[50, 53, 48, 32]⟩ ++ c.name) else (s, ⟨#[53, 48, 49, 32, 102, 111, 114, 109]⟩)) else (if l = ⟨#[81, 85, 73, 84]⟩ then (E4 ⟨5, s.mail, s.bad, s.buf⟩, ⟨#[50, 50, 49, 32, 98, 121, 101]⟩) else (if l = ⟨#[78, 79, 79, 80]⟩ then (s, ⟨#[50, 53, 48, 32, 111, 107]⟩) else (if l = ⟨#[82, 83, 69, 84]⟩ then (if s.state = 0 then (E4 s, ⟨#[50, 53, 48, 32, 111, 107]⟩) else (E4 ⟨1, s.mail, s.bad, s.buf⟩, ⟨#[50, 53, 48, 32, 111, 107]⟩)) else (if (Ap l ⟨#[77, 65, 73, 76, 32, 70, 82, 79, 77, 58]⟩).2 = true then EJ s (Ap l ⟨#[77, 65, 73, 76, 32, 70, 82, 79, 77, 58]⟩).1 else (if (Ap l ⟨#[82, 67, 80, 84, 32, 84, 79, 58]⟩).2 = true then HB c s (Ap l ⟨#[82, 67, 80, 84, 32, 84, 79, 58]⟩).1 else (if l = ⟨#[68, 65, 84, 65]⟩ then (if s.state = 3 then (⟨4, s.mail, s.bad, s.buf⟩, ⟨#[51, 53, 52, 32, 103, 111, 32, 111, 110]⟩) else (s, ⟨#[53, 48, 51, 32, 111, 114, 100, 101, 114]⟩)) else (s, ⟨#[53, 48, 48, 32, 119, 104, 97, 116]⟩))))))))
theorem iB {c : Cf} {s : Ss} {l : ByteArray} (h0 : (Ap l ⟨#[72, 69, 76, 79, 32]⟩).2 = true) (h1 : Di (Ap l ⟨#[72, 69, 76, 79, 32]⟩).1) : BP c s l = (E4 ⟨1, s.mail, s.bad, s.buf⟩, ⟨#[50, 53, 48, 32]⟩ ++ c.name) := by unfold BP; rw [if_pos h0, if_pos h1]
theorem iC {c : Cf} {s : Ss} {l : ByteArray} (h0 : (Ap l ⟨#[72, 69, 76, 79, 32]⟩).2 = true) (h1 : ¬ (Di (Ap l ⟨#[72, 69, 76, 79, 32]⟩).1)) : BP c s l = (s, ⟨#[53, 48, 49, 32, 102, 111, 114, 109]⟩) := by unfold BP; rw [if_pos h0, if_neg h1]
theorem iD {c : Cf} {s : Ss} {l : ByteArray} (h0 : ¬ ((Ap l ⟨#[72, 69, 76, 79, 32]⟩).2 = true)) (h1 : l = ⟨#[81, 85, 73, 84]⟩) : BP c s l = (E4 ⟨5, s.mail, s.bad, s.buf⟩, ⟨#[50, 50, 49, 32, 98, 121, 101]⟩) := by unfold BP; rw [if_neg h0, if_pos h1]
theorem iE {c : Cf} {s : Ss} {l : ByteArray} (h0 : ¬ ((Ap l ⟨#[72, 69, 76, 79, 32]⟩).2 = true)) (h1 : ¬ (l = ⟨#[81, 85, 73, 84]⟩)) (h2 : l = ⟨#[78, 79, 79, 80]⟩) : BP c s l = (s, ⟨#[50, 53, 48, 32, 111, 107]⟩) := by unfold BP; rw [if_neg h0, if_neg h1, if_pos h2]
theorem iF {c : Cf} {s : Ss} {l : ByteArray} (h0 : ¬ ((Ap l ⟨#[72, 69, 76, 79, 32]⟩).2 = true)) (h1 : ¬ (l = ⟨#[81, 85, 73, 84]⟩)) (h2 : ¬ (l = ⟨#[78, 79, 79, 80]⟩)) (h3 : l = ⟨#[82, 83, 69, 84]⟩) (h4 : s.state = 0) : BP c s l = (E4 s, ⟨#[50, 53, 48, 32, 111, 107]⟩) := by unfold BP; rw [if_neg h0, if_neg h1, if_neg h2, if_pos h3, if_pos h4]
theorem iG {c : Cf} {s : Ss} {l : ByteArray} (h0 : ¬ ((Ap l ⟨#[72, 69, 76, 79, 32]⟩).2 = true)) (h1 : ¬ (l = ⟨#[81, 85, 73, 84]⟩)) (h2 : ¬ (l = ⟨#[78, 79, 79, 80]⟩)) (h3 : l = ⟨#[82, 83, 69, 84]⟩) (h4 : ¬ (s.state = 0)) : BP c s l = (E4 ⟨1, s.mail, s.bad, s.buf⟩, ⟨#[50, 53, 48, 32, 111, 107]⟩) := by unfold BP; rw [if_neg h0, if_neg h1, if_neg h2, if_pos h3, if_neg h4]
theorem iH {c : Cf} {s : Ss} {l : ByteArray} (h0 : ¬ ((Ap l ⟨#[72, 69, 76, 79, 32]⟩).2 = true)) (h1 : ¬ (l = ⟨#[81, 85, 73, 84]⟩)) (h2 : ¬ (l = ⟨#[78, 79, 79, 80]⟩)) (h3 : ¬ (l = ⟨#[82, 83, 69, 84]⟩)) (h4 : (Ap l ⟨#[77, 65, 73, 76, 32, 70, 82, 79, 77, 58]⟩).2 = true) : BP c s l = EJ s (Ap l ⟨#[77, 65, 73, 76, 32, 70, 82, 79, 77, 58]⟩).1 := by unfold BP; rw [if_neg h0, if_neg h1, if_neg h2, if_neg h3, if_pos h4]
theorem iI {c : Cf} {s : Ss} {l : ByteArray} (h0 : ¬ ((Ap l ⟨#[72, 69, 76, 79, 32]⟩).2 = true)) (h1 : ¬ (l = ⟨#[81, 85, 73, 84]⟩)) (h2 : ¬ (l = ⟨#[78, 79, 79, 80]⟩)) (h3 : ¬ (l = ⟨#[82, 83, 69, 84]⟩)) (h4 : ¬ ((Ap l ⟨#[77, 65, 73, 76, 32, 70, 82, 79, 77, 58]⟩).2 = true)) (h5 : (Ap l ⟨#[82, 67, 80, 84, 32, 84, 79, 58]⟩).2 = true) : BP c s l = HB c s (Ap l ⟨#[82, 67, 80, 84, 32, 84, 79, 58]⟩).1 := by unfold BP; rw [if_neg h0, if_neg h1, if_neg h2, if_neg h3, if_neg h4, if_pos h5]
theorem iJ {c : Cf} {s : Ss} {l : ByteArray} (h0 : ¬ ((Ap l ⟨#[72, 69, 76, 79, 32]⟩).2 = true)) (h1 : ¬ (l = ⟨#[81, 85, 73, 84]⟩)) (h2 : ¬ (l = ⟨#[78, 79, 79, 80]⟩)) (h3 : ¬ (l = ⟨#[82, 83, 69, 84]⟩)) (h4 : ¬ ((Ap l ⟨#[77, 65, 73, 76, 32, 70, 82, 79, 77, 58]⟩).2 = true)) (h5 : ¬ ((Ap l ⟨#[82, 67, 80, 84, 32, 84, 79, 58]⟩).2 = true)) (h6 : l = ⟨#[68, 65, 84, 65]⟩) (h7 : s.state = 3) : BP c s l = (⟨4, s.mail, s.bad, s.buf⟩, ⟨#[51, 53, 52, 32, 103, 111, 32, 111, 110]⟩) := by unfold BP; rw [if_neg h0, if_neg h1, if_neg h2, if_neg h3, if_neg h4, if_neg h5, if_pos h6, if_pos h7]
theorem iK {c : Cf} {s : Ss} {l : ByteArray} (h0 : ¬ ((Ap l ⟨#[72, 69, 76, 79, 32]⟩).2 = true)) (h1 : ¬ (l = ⟨#[81, 85, 73, 84]⟩)) (h2 : ¬ (l = ⟨#[78, 79, 79, 80]⟩)) (h3 : ¬ (l = ⟨#[82, 83, 69, 84]⟩)) (h4 : ¬ ((Ap l ⟨#[77, 65, 73, 76, 32, 70, 82, 79, 77, 58]⟩).2 = true)) (h5 : ¬ ((Ap l ⟨#[82, 67, 80, 84, 32, 84, 79, 58]⟩).2 = true)) (h6 : l = ⟨#[68, 65, 84, 65]⟩) (h7 : ¬ (s.state = 3)) : BP c s l = (s, ⟨#[53, 48, 51, 32, 111, 114, 100, 101, 114]⟩) := by unfold BP; rw [if_neg h0, if_neg h1, if_neg h2, if_neg h3, if_neg h4, if_neg h5, if_pos h6, if_neg h7]
theorem ZK {c : Cf} {s : Ss} {l : ByteArray} (h0 : ¬ ((Ap l ⟨#[72, 69, 76, 79, 32]⟩).2 = true)) (h1 : ¬ (l = ⟨#[81, 85, 73, 84]⟩)) (h2 : ¬ (l = ⟨#[78, 79, 79, 80]⟩)) (h3 : ¬ (l = ⟨#[82, 83, 69, 84]⟩)) (h4 : ¬ ((Ap l ⟨#[77, 65, 73, 76, 32, 70, 82, 79, 77, 58]⟩).2 = true)) (h5 : ¬ ((Ap l ⟨#[82, 67, 80, 84, 32, 84, 79, 58]⟩).2 = true)) (h6 : ¬ (l = ⟨#[68, 65, 84, 65]⟩)) : BP c s l = (s, ⟨#[53, 48, 48, 32, 119, 104, 97, 116]⟩) := by unfold BP; rw [if_neg h0, if_neg h1, if_neg h2, if_neg h3, if_neg h4, if_neg h5, if_neg h6]
def gh : Ct := At (lc I0.ag (lc YA.ag (lc Av l0))) (fun p => p.1.name.size ≤ 1000000 ∧ p.2.1.mail.to.length ≤ 1000 ∧ p.2.2.1.size ≤ 2000000) (fun p => .tup [.agg ((EI (BP p.1 p.2.1 p.2.2.1).1).map .t), .t (.v (.string (BP p.1 p.2.1 p.2.2.1).2))])
section
attribute [local go_sem] gj Y9 PC gk gm AS.opn AS.cls AS.nilb AS.renb AS.up Bool.not_false Bool.not_true List.set_set List.set_cons_zero List.set_cons_succ List.set_nil List.mem_singleton forall_eq tn List.map_nil List.nil_append
set_option maxHeartbeats 3200000 in
theorem nO {G : Gt} (hG : Aj G) (hh : G.e 240 = AA 0 gj ∧ G.e 93 = AA 0 Y9 ∧ G.e 233 = AA 1 PC ∧ G.e 241 = AA 1 gk ∧ G.e 242 = AA 1 gm) : Gd G 238 (AA 1 gh) := by
 refine gr (fn := Tryz.f238) (n := 3) rfl hG ?_
 rintro ⟨c, s, l, ⟨⟩⟩ hpre
 obtain ⟨hn, ht, hz⟩ := hpre
 try dsimp only at hn ht hz ⊢
 have z1 := Me l ⟨#[72, 69, 76, 79, 32]⟩
 have z2 := Me l ⟨#[77, 65, 73, 76, 32, 70, 82, 79, 77, 58]⟩
 have z3 := Me l ⟨#[82, 67, 80, 84, 32, 84, 79, 58]⟩
 have z4 : (⟨#[50, 53, 48, 32]⟩ : ByteArray).size = 4 := rfl
 refine BE ((Ap l ⟨#[72, 69, 76, 79, 32]⟩).2 = true) (fun h0 => BE (Di (Ap l ⟨#[72, 69, 76, 79, 32]⟩).1) (fun h1 => have h1' := Aq h1; have e_ : BP c s l = _ := iB h0 h1; have h0' := trivial; have h1 := trivial; have h2 := trivial; have h3 := trivial; have h4' := trivial; have h4 := trivial; have h5 := trivial; have h5' := trivial; have h6 := trivial; have h7' := trivial; ?_) (fun h1 => have h1' := AQ h1; have e_ : BP c s l = _ := iC h0 h1; have h0' := trivial; have h1 := trivial; have h2 := trivial; have h3 := trivial; have h4' := trivial; have h4 := trivial; have h5 := trivial; have h5' := trivial; have h6 := trivial; have h7' := trivial; ?_)) (fun h0 => have h0' := (Bool.not_eq_true _).mp h0; BE (l = ⟨#[81, 85, 73, 84]⟩) (fun h1 => have e_ : BP c s l = _ := iD h0 h1; have h0 := trivial; have h1' := trivial; have h2 := trivial; have h3 := trivial; have h4' := trivial; have h4 := trivial; have h5 := trivial; have h5' := trivial; have h6 := trivial; have h7' := trivial; ?_) (fun h1 => BE (l = ⟨#[78, 79, 79, 80]⟩) (fun h2 => have e_ : BP c s l = _ := iE h0 h1 h2; have h0 := trivial; have h1' := trivial; have h3 := trivial; have h4' := trivial; have h4 := trivial; have h5 := trivial; have h5' := trivial; have h6 := trivial; have h7' := trivial; ?_) (fun h2 => BE (l = ⟨#[82, 83, 69, 84]⟩) (fun h3 => BE (s.state = 0) (fun h4 => have h4' := decide_eq_true h4; have e_ : BP c s l = _ := iF h0 h1 h2 h3 h4; have h0 := trivial; have h1' := trivial; have h4 := trivial; have h5 := trivial; have h5' := trivial; have h6 := trivial; have h7' := trivial; ?_) (fun h4 => have h4' := decide_eq_false h4; have e_ : BP c s l = _ := iG h0 h1 h2 h3 h4; have h0 := trivial; have h1' := trivial; have h4 := trivial; have h5 := trivial; have h5' := trivial; have h6 := trivial; have h7' := trivial; ?_)) (fun h3 => BE ((Ap l ⟨#[77, 65, 73, 76, 32, 70, 82, 79, 77, 58]⟩).2 = true) (fun h4 => have e_ : BP c s l = _ := iH h0 h1 h2 h3 h4; have h0 := trivial; have h1' := trivial; have h4' := trivial; have h5 := trivial; have h5' := trivial; have h6 := trivial; have h7' := trivial; ?_) (fun h4 => have h4' := (Bool.not_eq_true _).mp h4; BE ((Ap l ⟨#[82, 67, 80, 84, 32, 84, 79, 58]⟩).2 = true) (fun h5 => have e_ : BP c s l = _ := iI h0 h1 h2 h3 h4 h5; have h0 := trivial; have h1' := trivial; have h4 := trivial; have h5' := trivial; have h6 := trivial; have h7' := trivial; ?_) (fun h5 => have h5' := (Bool.not_eq_true _).mp h5; BE (l = ⟨#[68, 65, 84, 65]⟩) (fun h6 => BE (s.state = 3) (fun h7 => have h7' := decide_eq_true h7; have e_ : BP c s l = _ := iJ h0 h1 h2 h3 h4 h5 h6 h7; have h0 := trivial; have h1' := trivial; have h4 := trivial; have h5 := trivial; ?_) (fun h7 => have h7' := decide_eq_false h7; have e_ : BP c s l = _ := iK h0 h1 h2 h3 h4 h5 h6 h7; have h0 := trivial; have h1' := trivial; have h4 := trivial; have h5 := trivial; ?_)) (fun h6 => have e_ : BP c s l = _ := ZK h0 h1 h2 h3 h4 h5 h6; have h0 := trivial; have h1' := trivial; have h4 := trivial; have h5 := trivial; have h7' := trivial; ?_)))))))
 all_goals
  try rw [e_]
  simp -implicitDefEqProofs only [Tryz.f238, h0, h1', h0', h1, h2, h3, h4', h4, h5, h5', h6, h7', eq_self, decide_true, decide_false, Int.reduceEq, go_sem, hh, seval]
  with_reducible repeat' (first | apply ai | intro _ | ((first | apply s1 | apply s2 | apply s3 | apply s4) <;> intro hb <;> simp -implicitDefEqProofs only [hb, go_sem, hh, seval] <;> try simp only [qz] at hb))
  all_goals (try simp only [maxLen, tn, lm] at *)
  all_goals first | rfl | omega | decide | with_reducible assumption | (show AZ _ = true; rfl) | exact Gw (by assumption) | contradiction | (show 4 + c.name.size ≤ _; omega) | (subst h3; contradiction) | skip
end
open Classical in
noncomputable def Bc (c : Cf) (s : Ss) (l : ByteArray) : (Ss × ByteArray) × List Ml := (if s.state = 5 then ((s, ⟨#[]⟩), []) else (if s.state = 4 then (if (Af s l).1.2 = ⟨#[]⟩ then ((Af s l).1, []) else (if (Af s l).2 = true then ((E4 (Af s l).1.1, (Af s l).1.2), [(Af s l).1.1.mail]) else ((E4 (Af s l).1.1, (Af s l).1.2), []))) else (BP c s l, [])))
theorem kk {c : Cf} {s : Ss} {l : ByteArray} (h0 : s.state = 5) : Bc c s l = ((s, ⟨#[]⟩), []) := by unfold Bc; rw [if_pos h0]
theorem km {c : Cf} {s : Ss} {l : ByteArray} (h0 : ¬ (s.state = 5)) (h1 : s.state = 4) (h2 : (Af s l).1.2 = ⟨#[]⟩) : Bc c s l = ((Af s l).1, []) := by unfold Bc; rw [if_neg h0, if_pos h1, if_pos h2]
theorem kn {c : Cf} {s : Ss} {l : ByteArray} (h0 : ¬ (s.state = 5)) (h1 : s.state = 4) (h2 : ¬ ((Af s l).1.2 = ⟨#[]⟩)) (h3 : (Af s l).2 = true) : Bc c s l = ((E4 (Af s l).1.1, (Af s l).1.2), [(Af s l).1.1.mail]) := by unfold Bc; rw [if_neg h0, if_pos h1, if_neg h2, if_pos h3]
theorem ko {c : Cf} {s : Ss} {l : ByteArray} (h0 : ¬ (s.state = 5)) (h1 : s.state = 4) (h2 : ¬ ((Af s l).1.2 = ⟨#[]⟩)) (h3 : ¬ ((Af s l).2 = true)) : Bc c s l = ((E4 (Af s l).1.1, (Af s l).1.2), []) := by unfold Bc; rw [if_neg h0, if_pos h1, if_neg h2, if_neg h3]
theorem kp {c : Cf} {s : Ss} {l : ByteArray} (h0 : ¬ (s.state = 5)) (h1 : ¬ (s.state = 4)) : Bc c s l = (BP c s l, []) := by unfold Bc; rw [if_neg h0, if_neg h1]
theorem ie (s : Ss) (l : ByteArray) : (Af s l).1.1.mail.body.length ≤ s.mail.body.length + 1 ∧ (Af s l).1.1.mail.to = s.mail.to := by
 unfold Af
 repeat' split
 all_goals refine ⟨?_, rfl⟩
 all_goals first | (show (s.mail.body ++ [_]).length ≤ _; rw [List.length_append]; exact Nat.le_refl _) | (show s.mail.body.length ≤ _; omega)
def gb : Ct := At (lc I0.ag (lc YA.ag (lc Av l0))) (fun p => p.1.name.size ≤ 1000000 ∧ p.2.1.mail.to.length ≤ 1000 ∧ p.2.1.mail.body.length ≤ 1000 ∧ p.2.2.1.size ≤ 2000000) (fun p => .tup [.agg ((EI (Bc p.1 p.2.1 p.2.2.1).1.1).map .t), .t (.v (.string (Bc p.1 p.2.1 p.2.2.1).1.2)), .t (.sl 4 ((Bc p.1 p.2.1 p.2.2.1).2.map Cy))])
section
attribute [local go_sem] gh gi Lo PC AS.opn AS.cls AS.nilb AS.renb AS.up Bool.not_false Bool.not_true List.set_set List.set_cons_zero List.set_cons_succ List.set_nil List.mem_singleton forall_eq tn List.map_nil List.nil_append
set_option maxHeartbeats 3200000 in
theorem nK {G : Gt} (hG : Aj G) (hh : G.e 238 = AA 1 gh ∧ G.e 239 = AA 1 gi ∧ G.e 199 = AA 0 Lo ∧ G.e 233 = AA 1 PC) : Gd G 234 (AA 1 gb) := by
 refine gr (fn := Tryz.f234) (n := 3) rfl hG ?_
 rintro ⟨c, s, l, ⟨⟩⟩ hpre
 obtain ⟨hn, ht, hb, hz⟩ := hpre
 try dsimp only at hn ht hb hz ⊢
 obtain ⟨z1, z2⟩ := ie s l
 have z3 : (Af s l).1.1.mail.to.length ≤ 1000 := by rw [z2]; exact ht
 refine BE (s.state = 5) (fun h0 => have h0' := decide_eq_true h0; have e_ : Bc c s l = _ := kk h0; have h1' := trivial; have h2 := trivial; have h3 := trivial; have h3' := trivial; ?_) (fun h0 => have h0' := decide_eq_false h0; BE (s.state = 4) (fun h1 => have h1' := decide_eq_true h1; BE ((Af s l).1.2 = ⟨#[]⟩) (fun h2 => have e_ : Bc c s l = _ := km h0 h1 h2; have h3 := trivial; have h3' := trivial; ?_) (fun h2 => BE ((Af s l).2 = true) (fun h3 => have e_ : Bc c s l = _ := kn h0 h1 h2 h3; have h3' := trivial; ?_) (fun h3 => have h3' := (Bool.not_eq_true _).mp h3; have e_ : Bc c s l = _ := ko h0 h1 h2 h3; have h3 := trivial; ?_))) (fun h1 => have h1' := decide_eq_false h1; have e_ : Bc c s l = _ := kp h0 h1; have h2 := trivial; have h3 := trivial; have h3' := trivial; ?_))
 all_goals
  try rw [e_]
  simp -implicitDefEqProofs only [Tryz.f234, h0', h1', h2, h3, h3', eq_self, decide_true, decide_false, Int.reduceEq, go_sem, hh, seval]
  with_reducible repeat' (first | apply ai | intro _ | ((first | apply s1 | apply s2 | apply s3 | apply s4) <;> intro hb <;> simp -implicitDefEqProofs only [hb, go_sem, hh, seval] <;> try simp only [qz] at hb))
  all_goals (try simp only [maxLen, tn, lm] at *)
  all_goals first | rfl | omega | decide | with_reducible assumption | (show AZ _ = true; rfl) | exact Gw (by assumption) | contradiction | skip
end
end Go.V
