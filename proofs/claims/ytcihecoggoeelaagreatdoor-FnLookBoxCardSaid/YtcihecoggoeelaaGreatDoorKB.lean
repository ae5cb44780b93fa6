/- The row. No condition. -/
import Derived.Test.YtcihecoggoeelaaGreatDoorKA
import Derived.Shelf.Abstract
import Derived.Shelf.RegionOpenPlain
import Derived.WalkKit
import Derived.Lib.Walk
import Derived.Lib.SliceRun
import Derived.Lib.AppendZerosOnto
import Derived.Test.YtcihecoggoeelaaGreatDoorXB
namespace Go.V
open Go Go.Proofs
set_option maxRecDepth 100000
set_option linter.unusedSimpArgs false
set_option linter.unusedVariables false
def Ak {α : Type} (f : α → Int) : List α → Int
 | [] => 0
 | x :: r => f x + Ak f r
theorem D5 {α : Type} [Inhabited α] {f : α → Int} {xs : List α} {i : Nat} (h : i < xs.length) : Ak f (xs.drop i) = f (xs.getD i default) + Ak f (xs.drop (i + 1)) := by
 rw [AW h]; rfl
theorem GT {α : Type} {f : α → Int} {xs : List α} {i : Nat} (h : xs.length ≤ i) : Ak f (xs.drop i) = 0 := by
 rw [List.drop_eq_nil_of_le h]; rfl
theorem HM {α : Type} {f : α → Int} {B : Int} : ∀ {xs : List α}, (∀ x ∈ xs, 0 ≤ f x ∧ f x ≤ B) → 0 ≤ Ak f xs ∧ Ak f xs ≤ B * xs.length
 | [], _ => by simp [Ak]
 | x :: r, h => by
   have h1 := h x (by simp)
   have h2 := HM (xs := r) fun y hy => h y (by simp [hy])
   have e1 : B * ((r.length + 1 : Nat) : Int) = B * r.length + B := by rw [Int.natCast_add, Int.mul_add]; simp
   simp only [Ak, List.length_cons]
   omega
theorem D4 {α : Type} {f : α → Int} {xs : List α} (h : ∀ x ∈ xs, 0 ≤ f x) (i : Nat) : 0 ≤ Ak f (xs.drop i) := by
 have h2 : ∀ {ys : List α}, (∀ x ∈ ys, 0 ≤ f x) → 0 ≤ Ak f ys := fun {ys} => by
  induction ys with
  | nil => intro _; exact Int.le_refl _
  | cons y r ih =>
    intro h
    have h1 := h y (by simp)
    have h3 := ih fun z hz => h z (by simp [hz])
    show 0 ≤ f y + Ak f r
    omega
 exact h2 fun x hx => h x (List.mem_of_mem_drop hx)
def Xb (x : Im) : Int := x.to.length
open Classical in
noncomputable def KE (s : Sp) : Int := if Bh s then Ak Xb s.items else -1
theorem Th {s : Sp} (h : Bh s) : KE s = Ak Xb s.items := if_pos h
theorem da {s : Sp} (h : ¬ Bh s) : KE s = -1 := if_neg h
theorem VK {s : Sp} (h : Bh s) : 0 ≤ Ak Xb s.items ∧ Ak Xb s.items ≤ 40 := by
 have h1 := HM (f := Xb) (B := 4) (xs := s.items) fun x hx => by
  have := (h.1 x hx).1.2.2.2.2.1
  unfold Xb; omega
 have h2 := h.2.2.2
 omega
def xl : Ct := Ar (lc Q2.ag l0) (fun p => E7 p.1) (fun p => .t (.v (.int .i64 (KE p.1))))
section
attribute [local go_sem] s9 AZ AY lm
theorem qA {G : Gt} (hG : Ah G) (hh : G.e 74 = AA 0 s9) : Gd G 26 (AA 0 xl) := by
 refine gr (fn := Tryz.f26) (n := 1) rfl rfl hG ?_
 rintro ⟨s, ⟨⟩⟩ hpre
 simp -implicitDefEqProofs only [Tryz.f26, go_sem, hh, seval] at hpre ⊢
 by_cases h : Bh s
 ·have b1 := Ap h
  have hm := VK h
  rw [Th h]
  simp -implicitDefEqProofs only [b1, go_sem, hh, seval]
  with_reducible repeat' (first | apply ai | intro _ | ((first | apply s1 | apply s3 | apply s4) <;> intro hb <;> simp -implicitDefEqProofs only [hb, go_sem, hh, seval] <;> try simp only [qz] at hb))
  all_goals first | rfl | omega | assumption | contradiction | skip
  all_goals
   refine AE [] (ι := {p : Nat × Int // p.1 ≤ s.items.length ∧ 0 ≤ p.2 ∧ p.2 + Ak Xb (s.items.drop p.1) = Ak Xb s.items}) (fun p => ⟨[(1, .pb 1001 0), (3, .t (.v (.int .i64 p.1.2))), (10, .t (.sl 5 (s.items.map As))), (11, .t (.v (.int .i64 s.items.length))), (12, .t (.v (.int .i64 p.1.1)))], [(1001, some (.box ((Dx s).map .t)))]⟩) (fun p => s.items.length - p.1.1) ⟨(0, 0), by simp, by simp, by simp⟩ rfl ?_ ?_
   ·simp -implicitDefEqProofs only [go_sem, hh, seval]
    try simp
   ·rintro ⟨⟨i, v⟩, hi, h0, hv⟩
    dsimp only at hi h0 hv ⊢
    by_cases hlt : (i : Int) < s.items.length
    ·have Ai := D5 (f := Xb) (xs := s.items) (i := i) (by omega)
     have hrest := D4 (f := Xb) (xs := s.items) (fun x _ => by unfold Xb; omega) (i + 1)
     have hr : Xb (s.items.getD i default) = (s.items.getD i default).to.length := rfl
     simp -implicitDefEqProofs only [hlt, decide_true, tn, go_sem, hh, seval]
     with_reducible repeat' (first | apply ai | intro _ | ((first | apply s1 | apply s3 | apply s4) <;> intro hb <;> simp -implicitDefEqProofs only [hb, go_sem, hh, seval] <;> try simp only [qz] at hb))
     all_goals (try simp only [maxLen, tn] at *)
     all_goals first | rfl | omega | skip
     refine ⟨⟨(i + 1, v + (s.items.getD i default).to.length), by dsimp only; omega, by dsimp only; omega, by dsimp only; omega⟩, by dsimp only; omega, ?_⟩
     simp -implicitDefEqProofs only [go_sem, hh, seval]
     try simp
    ·have Ai := GT (f := Xb) (xs := s.items) (i := i) (by omega)
     simp -implicitDefEqProofs only [hlt, decide_false, go_sem, hh, seval]
     with_reducible repeat' (first | apply ai | intro _ | ((first | apply s1 | apply s3 | apply s4) <;> intro hb <;> simp -implicitDefEqProofs only [hb, go_sem, hh, seval] <;> try simp only [qz] at hb))
     all_goals first | rfl | omega | (rw [← hv, Ai, Int.add_zero]; done) | skip
 ·have b1 := AQ h
  rw [da h]
  simp -implicitDefEqProofs only [b1, go_sem, hh, seval]
  with_reducible repeat' (first | apply ai | intro _ | ((first | apply s1 | apply s3 | apply s4) <;> intro hb <;> simp -implicitDefEqProofs only [hb, go_sem, hh, seval] <;> try simp only [qz] at hb))
  all_goals first | rfl | omega | assumption | contradiction | skip
end
def U4 (h : Hs) : Int := h.spool.items.length
noncomputable def VU (h : Hs) : Int := KE h.spool
def Ig (b : Bx) : Int := b.mails.length
def Ch (h : Hs) : Int := Ak Ig h.boxes
def VI (h : Hs) : Int := h.lost.length
open Classical in
noncomputable def L8 (w : Wd) : List Int := if Dc w then [Ak U4 w.hosts, Ak VU w.hosts, Ak Ch w.hosts, Ak VI w.hosts] else []
theorem Tc {w : Wd} (h : Dc w) : L8 w = [Ak U4 w.hosts, Ak VU w.hosts, Ak Ch w.hosts, Ak VI w.hosts] := if_pos h
theorem dT {w : Wd} (h : ¬ Dc w) : L8 w = [] := if_neg h
theorem GN {h : Hs} (hh : GW h) (ho : HU h) : (0 ≤ U4 h ∧ U4 h ≤ 10) ∧ (0 ≤ VU h ∧ VU h ≤ 40) ∧ (0 ≤ Ch h ∧ Ch h ≤ 1099511627776) ∧ (0 ≤ VI h ∧ VI h ≤ 1048576) := by
 obtain ⟨_, _, ⟨lb, zb⟩, ⟨ll, _⟩⟩ := ho
 have hs := hh.2.2
 have h1 := hs.2.2.2
 have h2 := VK hs
 have h3 := HM (f := Ig) (B := 1048576) (xs := h.boxes) fun b hb => by
  have := (zb b hb).2.1
  unfold Ig; omega
 refine ⟨by unfold U4; omega, by unfold VU; rw [Th hs]; exact h2, ?_, by unfold VI; omega⟩
 unfold Ch
 have h4 : (1048576 : Int) * h.boxes.length ≤ 1048576 * 1048576 := Int.mul_le_mul_of_nonneg_left lb (by decide)
 omega
theorem iq {w : Wd} (hw : Dc w) (ho : GY w) : (Ak U4 w.hosts ≤ 40) ∧ (Ak VU w.hosts ≤ 160) ∧ (Ak Ch w.hosts ≤ 4398046511104) ∧ (Ak VI w.hosts ≤ 4194304) := by
 have hf := fun h hh => GN (hw.1 h hh) (ho.1.2 h hh)
 have h4 := hw.2.2.2.1.2
 have h1 := HM (f := U4) (B := 10) (xs := w.hosts) fun h hh => (hf h hh).1
 have h2 := HM (f := VU) (B := 40) (xs := w.hosts) fun h hh => (hf h hh).2.1
 have h3 := HM (f := Ch) (B := 1099511627776) (xs := w.hosts) fun h hh => (hf h hh).2.2.1
 have h5 := HM (f := VI) (B := 1048576) (xs := w.hosts) fun h hh => (hf h hh).2.2.2
 refine ⟨by omega, by omega, by omega, by omega⟩
def L4 (a b c d : Int) : List Int := [a, b, c, d]
section
variable {a b c d x : Int}
theorem md : (L4 a b c d).length = 4 := rfl
theorem tL : (L4 a b c d).getD 0 default = a := rfl
theorem tM : (L4 a b c d).getD 1 default = b := rfl
theorem tN : (L4 a b c d).getD 2 default = c := rfl
theorem tO : (L4 a b c d).getD 3 default = d := rfl
theorem tP : (L4 a b c d).set 0 x = L4 x b c d := rfl
theorem tQ : (L4 a b c d).set 1 x = L4 a x c d := rfl
theorem tR : (L4 a b c d).set 2 x = L4 a b x d := rfl
theorem tS : (L4 a b c d).set 3 x = L4 a b c x := rfl
theorem yX : Int.toNat 0 = 0 := rfl
theorem yY : Int.toNat 1 = 1 := rfl
theorem yZ : Int.toNat 2 = 2 := rfl
theorem ya : Int.toNat 3 = 3 := rfl
end
def xk : Ct := Ar (lc Qv.ag l0) (fun p => GY p.1) (fun p => .o true 1 ((L8 p.1).map Ao))
section
attribute [local go_sem] nh xl AZ AY lm List.map_nil AT Bb J1 md tL tM tN tO tP tQ tR tS yX yY yZ ya
set_option maxHeartbeats 6400000 in
theorem p7 {G : Gt} (hG : Ah G) (hh : G.e 17 = AA 0 nh ∧ G.e 26 = AA 0 xl) : Gd G 18 (AA 0 xk) := by
 refine gr (fn := Tryz.f18) (n := 1) rfl rfl hG ?_ (hs := fun _ _ => .deep _ _)
 rintro ⟨w, ⟨⟩⟩ hpre
 simp -implicitDefEqProofs only [Tryz.f18, go_sem, hh, seval] at hpre ⊢
 have hok : GY w := hpre
 by_cases h : Dc w
 ·have b1 := Ap h
  obtain ⟨t1, t2, t3, t4⟩ := iq h hok
  rw [Tc h]
  simp -implicitDefEqProofs only [b1, go_sem, hh, seval]
  with_reducible repeat' (first | apply ai | intro _ | ((first | apply s1 | apply s3 | apply s4) <;> intro hb <;> simp -implicitDefEqProofs only [hb, go_sem, hh, seval] <;> try simp only [qz] at hb))
  all_goals first | rfl | omega | assumption | contradiction | skip
  all_goals
   refine AE [(3, 1903, true, 1)] (ι := {p : Nat × Int × Int × Int × Int // p.1 ≤ w.hosts.length ∧ (0 ≤ p.2.1 ∧ p.2.1 + Ak U4 (w.hosts.drop p.1) = Ak U4 w.hosts) ∧ (0 ≤ p.2.2.1 ∧ p.2.2.1 + Ak VU (w.hosts.drop p.1) = Ak VU w.hosts) ∧ (0 ≤ p.2.2.2.1 ∧ p.2.2.2.1 + Ak Ch (w.hosts.drop p.1) = Ak Ch w.hosts) ∧ (0 ≤ p.2.2.2.2 ∧ p.2.2.2.2 + Ak VI (w.hosts.drop p.1) = Ak VI w.hosts)}) (fun p => ⟨[(1, .pb 1001 0), (3, .h 1903), (13, .t (.sl 7 (w.hosts.map Af))), (14, .t (.v (.int .i64 w.hosts.length))), (15, .t (.v (.int .i64 p.1.1)))], [(1001, some (.box ((C8 w).map .t))), (1903, some (.arr true 1 ((L4 p.1.2.1 p.1.2.2.1 p.1.2.2.2.1 p.1.2.2.2.2).map Ao)))]⟩) (fun p => w.hosts.length - p.1.1) ⟨(0, 0, 0, 0, 0), by simp, by simp, by simp, by simp, by simp⟩ rfl ?_ ?_
   ·have hrep : List.replicate (Int.toNat 4) [T.v (Value.int IntKind.i64 0)] = (L4 0 0 0 0).map Ao := rfl
    simp -implicitDefEqProofs only [go_sem, hh, seval]
    simp [hrep]
    try rfl
   ·rintro ⟨⟨i, va, vb, vc, vd⟩, hi, ⟨a0, a1⟩, ⟨b0, b2⟩, ⟨c0, c1⟩, ⟨d0, d1⟩⟩
    dsimp only at hi a0 a1 b0 b2 c0 c1 d0 d1 ⊢
    by_cases hlt : (i : Int) < w.hosts.length
    ·skip
     have hm := AC (xs := w.hosts) (j := i) (by omega)
     obtain ⟨f1, f2, f3, f4⟩ := GN (h.1 _ hm) (hok.1.2 _ hm)
     have s1 := D5 (f := U4) (xs := w.hosts) (i := i) (by omega)
     have s2 := D5 (f := VU) (xs := w.hosts) (i := i) (by omega)
     have s3 := D5 (f := Ch) (xs := w.hosts) (i := i) (by omega)
     have s4 := D5 (f := VI) (xs := w.hosts) (i := i) (by omega)
     have r1 := D4 (f := U4) (xs := w.hosts) (fun x hx => (GN (h.1 x hx) (hok.1.2 x hx)).1.1) (i + 1)
     have r2 := D4 (f := VU) (xs := w.hosts) (fun x hx => (GN (h.1 x hx) (hok.1.2 x hx)).2.1.1) (i + 1)
     have r3 := D4 (f := Ch) (xs := w.hosts) (fun x hx => (GN (h.1 x hx) (hok.1.2 x hx)).2.2.1.1) (i + 1)
     have r4 := D4 (f := VI) (xs := w.hosts) (fun x hx => (GN (h.1 x hx) (hok.1.2 x hx)).2.2.2.1) (i + 1)
     have e1 : U4 (w.hosts.getD i default) = (w.hosts.getD i default).spool.items.length := rfl
     have e2 : VU (w.hosts.getD i default) = KE (w.hosts.getD i default).spool := rfl
     have e3 : Ch (w.hosts.getD i default) = Ak Ig (w.hosts.getD i default).boxes := rfl
     have e4 : VI (w.hosts.getD i default) = (w.hosts.getD i default).lost.length := rfl
     have hz := (hok.1.2 _ hm).2.1
     simp -implicitDefEqProofs only [hlt, decide_true, tn, go_sem, hh, seval]
     with_reducible repeat' (first | apply ai | intro _ | ((first | apply s1 | apply s3 | apply s4) <;> intro hb <;> simp -implicitDefEqProofs only [hb, go_sem, hh, seval] <;> try simp only [qz] at hb))
     all_goals (try simp only [maxLen, tn] at *)
     all_goals first | rfl | omega | assumption | decide | skip
     all_goals
      refine AE [] (ι := {p : Nat × Int // p.1 ≤ (w.hosts.getD i default).boxes.length ∧ vc ≤ p.2 ∧ p.2 + Ak Ig ((w.hosts.getD i default).boxes.drop p.1) = vc + Ak Ig (w.hosts.getD i default).boxes}) (fun p => ⟨[(1, .pb 1001 0), (3, .h 1903), (5, .pb 1005 0), (13, .t (.sl 7 (w.hosts.map Af))), (14, .t (.v (.int .i64 w.hosts.length))), (15, .t (.v (.int .i64 i))), (37, .t (.sl 3 ((w.hosts.getD i default).boxes.map BT))), (38, .t (.v (.int .i64 (w.hosts.getD i default).boxes.length))), (39, .t (.v (.int .i64 p.1.1)))], [(1001, some (.box ((C8 w).map .t))), (1005, some (.box ((Af (w.hosts.getD i default)).map .t))), (1903, some (.arr true 1 ((L4 (va + (w.hosts.getD i default).spool.items.length) (vb + KE (w.hosts.getD i default).spool) p.1.2 vd).map Ao)))]⟩) (fun p => (w.hosts.getD i default).boxes.length - p.1.1) ⟨(0, vc), by simp, by simp, by simp⟩ rfl ?_ ?_
      ·simp -implicitDefEqProofs only [go_sem, hh, seval]
       try simp
      ·rintro ⟨⟨k, vk⟩, hk, k0, k1⟩
       dsimp only at hk k0 k1 ⊢
       by_cases hlt2 : (k : Int) < (w.hosts.getD i default).boxes.length
       ·skip
        have Ai := D5 (f := Ig) (xs := (w.hosts.getD i default).boxes) (i := k) (by omega)
        have hrest := D4 (f := Ig) (xs := (w.hosts.getD i default).boxes) (fun x _ => by unfold Ig; omega) (k + 1)
        have hr : Ig ((w.hosts.getD i default).boxes.getD k default) = ((w.hosts.getD i default).boxes.getD k default).mails.length := rfl
        simp -implicitDefEqProofs only [hlt2, decide_true, tn, go_sem, hh, seval]
        with_reducible repeat' (first | apply ai | intro _ | ((first | apply s1 | apply s3 | apply s4) <;> intro hb <;> simp -implicitDefEqProofs only [hb, go_sem, hh, seval] <;> try simp only [qz] at hb))
        all_goals (try simp only [maxLen, tn] at *)
        all_goals first | rfl | omega | decide | skip
        refine ⟨⟨(k + 1, vk + ((w.hosts.getD i default).boxes.getD k default).mails.length), by dsimp only; omega, by dsimp only; omega, by dsimp only; omega⟩, by dsimp only; omega, ?_⟩
        simp -implicitDefEqProofs only [go_sem, hh, seval]
        try simp
       ·have Ai := GT (f := Ig) (xs := (w.hosts.getD i default).boxes) (i := k) (by omega)
        simp -implicitDefEqProofs only [hlt2, decide_false, go_sem, hh, seval]
        with_reducible repeat' (first | apply ai | intro _ | ((first | apply s1 | apply s3 | apply s4) <;> intro hb <;> simp -implicitDefEqProofs only [hb, go_sem, hh, seval] <;> try simp only [qz] at hb))
        all_goals (try simp only [maxLen, tn] at *)
        all_goals first | rfl | omega | decide | skip
        refine ⟨⟨(i + 1, va + (w.hosts.getD i default).spool.items.length, vb + KE (w.hosts.getD i default).spool, vk, vd + (w.hosts.getD i default).lost.length), by dsimp only; omega, by dsimp only; omega, by dsimp only; omega, by dsimp only; omega, by dsimp only; omega⟩, by dsimp only; omega, ?_⟩
        simp -implicitDefEqProofs only [go_sem, hh, seval]
        try simp
    ·have s1 := GT (f := U4) (xs := w.hosts) (i := i) (by omega)
     have s2 := GT (f := VU) (xs := w.hosts) (i := i) (by omega)
     have s3 := GT (f := Ch) (xs := w.hosts) (i := i) (by omega)
     have s4 := GT (f := VI) (xs := w.hosts) (i := i) (by omega)
     have q1 : va = Ak U4 w.hosts := by omega
     have q2 : vb = Ak VU w.hosts := by omega
     have q3 : vc = Ak Ch w.hosts := by omega
     have q4 : vd = Ak VI w.hosts := by omega
     subst q1 q2 q3 q4
     simp -implicitDefEqProofs only [hlt, decide_false, go_sem, hh, seval]
     with_reducible repeat' (first | apply ai | intro _ | ((first | apply s1 | apply s3 | apply s4) <;> intro hb <;> simp -implicitDefEqProofs only [hb, go_sem, hh, seval] <;> try simp only [qz] at hb))
     all_goals first | rfl | omega | skip
 ·have b1 := AQ h
  rw [dT h]
  simp -implicitDefEqProofs only [b1, go_sem, hh, seval]
  with_reducible repeat' (first | apply ai | intro _ | ((first | apply s1 | apply s3 | apply s4) <;> intro hb <;> simp -implicitDefEqProofs only [hb, go_sem, hh, seval] <;> try simp only [qz] at hb))
  all_goals first | rfl | omega | assumption | contradiction | skip
end
open Classical in
noncomputable def Lb (d : ByteArray) : Wy → List Wy → Wy
 | b, [] => b
 | b, w :: r => Lb d (if dR d w.ends ∧ b.ends.size < w.ends.size then w else b) r
noncomputable def Qr (c : Cf) (d : ByteArray) : ByteArray := (Lb d ⟨⟨#[]⟩, ⟨#[]⟩⟩ c.ways).to
theorem sj {d : ByteArray} {b : Wy} {xs : List Wy} {i : Nat} (h : i < xs.length) (h1 : dR d (xs.getD i default).ends) (h2 : b.ends.size < (xs.getD i default).ends.size) : Lb d b (xs.drop i) = Lb d (xs.getD i default) (xs.drop (i + 1)) := by
 rw [AW h, Lb, if_pos ⟨h1, h2⟩]
theorem si {d : ByteArray} {b : Wy} {xs : List Wy} {i : Nat} (h : i < xs.length) (h1 : ¬ (dR d (xs.getD i default).ends ∧ b.ends.size < (xs.getD i default).ends.size)) : Lb d b (xs.drop i) = Lb d b (xs.drop (i + 1)) := by
 rw [AW h, Lb, if_neg h1]
theorem cu {d : ByteArray} {b : Wy} {xs : List Wy} {i : Nat} (h : xs.length ≤ i) : Lb d b (xs.drop i) = b := by
 rw [List.drop_eq_nil_of_le h, Lb]
def RU : Ct := Ar (lc Jn.ag (lc Ax l0)) (fun p => True) (fun p => .t (.v (.string (Qr p.1 p.2.1))))
section
attribute [local go_sem] nR AZ AY lm
theorem fR {G : Gt} (hG : Ah G) (hh : G.e 145 = AA 0 nR) : Gd G 112 (AA 0 RU) := by
 refine gr (fn := Tryz.f112) (n := 2) rfl rfl hG ?_
 rintro ⟨c, d, ⟨⟩⟩ hpre
 simp -implicitDefEqProofs only [Tryz.f112, go_sem, hh, seval] at hpre ⊢
 refine AE [] (ι := {p : Nat × Wy // p.1 ≤ c.ways.length ∧ Qr c d = (Lb d p.2 (c.ways.drop p.1)).to}) (fun p => ⟨[(1, .t (.v (.string d))), (2, .pb 1002 0), (5, .t (.v (.string p.1.2.ends))), (6, .t (.v (.string p.1.2.to))), (7, .t (.v (.int .i64 p.1.1)))], [(1002, some (.box ((DZ c).map .t)))]⟩) (fun p => c.ways.length - p.1.1) ⟨(0, ⟨⟨#[]⟩, ⟨#[]⟩⟩), by simp, rfl⟩ rfl ?_ ?_
 ·simp -implicitDefEqProofs only [go_sem, hh, seval]
  try simp
 ·rintro ⟨⟨i, b⟩, hi, hw⟩
  dsimp only at hi hw ⊢
  by_cases hlt : (i : Int) < c.ways.length
  ·simp -implicitDefEqProofs only [hlt, decide_true, tn, go_sem, hh, seval]
   with_reducible repeat' (first | apply ai | intro _ | ((first | apply s1 | apply s3 | apply s4) <;> intro hb <;> simp -implicitDefEqProofs only [hb, go_sem, hh, seval] <;> try simp only [qz] at hb))
   all_goals (try simp only [maxLen, tn] at *)
   all_goals first | rfl | omega | skip
   all_goals first
    | (refine ⟨⟨(i + 1, c.ways.getD i default), by dsimp only; omega, by dsimp only; rw [hw, sj (by omega) (by assumption) (by omega)]⟩, by dsimp only; omega, ?_⟩
       simp -implicitDefEqProofs only [go_sem, hh, seval]
       simp; done)
    | (refine ⟨⟨(i + 1, b), by dsimp only; omega, by dsimp only; rw [hw, si (by omega) (fun q => by first | exact absurd q.1 (by assumption) | (have := q.2; omega))]⟩, by dsimp only; omega, ?_⟩
       simp -implicitDefEqProofs only [go_sem, hh, seval]
       simp; done)
    | skip
  ·simp -implicitDefEqProofs only [hlt, decide_false, go_sem, hh, seval]
   with_reducible repeat' (first | apply ai | intro _ | ((first | apply s1 | apply s3 | apply s4) <;> intro hb <;> simp -implicitDefEqProofs only [hb, go_sem, hh, seval] <;> try simp only [qz] at hb))
   all_goals first | rfl | omega | (rw [hw, cu (by omega)]; done) | skip
end
section
attribute [local go_sem] sy AZ AY lm
end
def JL (c : Cf) (to : ByteArray) (w : Int) (r : Rc) : Prop := r.next ≤ w ∧ ((r.addr.domain ∈ c.own ∧ to = ⟨#[]⟩) ∨ (¬ r.addr.domain ∈ c.own ∧ ¬ to = ⟨#[]⟩ ∧ Qr c r.addr.domain = to))
noncomputable def A3 (c : Cf) (to : ByteArray) (w : Int) : List Rc → List Ad
 | [] => []
 | r :: t => bif BW (JL c to w r) then r.addr :: A3 c to w t else A3 c to w t
section
variable {c : Cf} {to : ByteArray} {w : Int} {xs : List Rc} {i : Nat}
theorem Sc (h : i < xs.length) (hn : JL c to w (xs.getD i default)) : A3 c to w (xs.drop i) = (xs.getD i default).addr :: A3 c to w (xs.drop (i + 1)) := by
 rw [AW h, A3, Ap hn]; rfl
theorem Sb (h : i < xs.length) (hn : ¬ JL c to w (xs.getD i default)) : A3 c to w (xs.drop i) = A3 c to w (xs.drop (i + 1)) := by
 rw [AW h, A3, AQ hn]; rfl
theorem LB (h : xs.length ≤ i) : A3 c to w (xs.drop i) = [] := by
 rw [List.drop_eq_nil_of_le h, A3]
end
theorem Ey (c : Cf) (to : ByteArray) (w : Int) : ∀ xs : List Rc, (A3 c to w xs).length ≤ xs.length
 | [] => Nat.le_refl _
 | r :: t => by
   rw [A3]
   have := Ey c to w t
   cases BW (JL c to w r) <;> simp only [cond_true, cond_false, List.length_cons] <;> omega
theorem Ez (c : Cf) (to : ByteArray) (w : Int) : ∀ xs : List Rc, ∀ a ∈ A3 c to w xs, ∃ r ∈ xs, r.addr = a ∧ JL c to w r
 | [], a, h => by cases h
 | r :: t, a, h => by
   rw [A3] at h
   by_cases hn : JL c to w r
   ·rw [Ap hn] at h
    rcases List.mem_cons.1 h with e | h
    ·exact ⟨r, by simp, e.symm, hn⟩
    ·obtain ⟨q, hq, he⟩ := Ez c to w t a h
     exact ⟨q, by simp [hq], he⟩
   ·rw [AQ hn] at h
    obtain ⟨q, hq, he⟩ := Ez c to w t a h
    exact ⟨q, by simp [hq], he⟩
noncomputable def JD (c : Cf) (x : Im) (to : ByteArray) (w : Int) : Ml := ⟨x.frm, A3 c to w x.to, x.body⟩
def ry (p : Ml × Bool) : AV := .tup [SY p.1, .t (.v (.bool p.2))]
def rc : Ml := ⟨⟨⟨#[]⟩, ⟨#[]⟩⟩, [], []⟩
open Classical in
noncomputable def tJ (h : Hs) (n : Int) (to : ByteArray) (w : Int) : Ml × Bool :=
 if GW h ∧ ¬ A8 h.spool n < 0 ∧ (to = ⟨#[]⟩ ∨ D9 to) ∧ ¬ A3 h.conf to w (A2 h.spool n).to = [] then (JD h.conf (A2 h.spool n) to w, true) else (rc, false)
theorem Sv {xs : List Ad} {a : Ad} : (xs ++ [a]).map Am = xs.map Am ++ [[.v (.string a.user), .v (.string a.domain)]] := by
 rw [List.map_append]; rfl
def uA : Ct := Ar (lc Gy.ag (lc J6.ag (lc BK (lc Ax (lc BK l0))))) (fun p => 0 ≤ p.2.2.1 ∧ p.2.2.1 < p.2.1.to.length) (fun p => .t (.v (.bool (BW (JL p.1.conf p.2.2.2.1 p.2.2.2.2.1 (p.2.1.to.getD p.2.2.1.toNat default))))))
section
attribute [local go_sem] eH RU AZ AY lm
set_option maxHeartbeats 800000 in
theorem rD {G : Gt} (hG : Ah G) (hh : G.e 85 = AA 0 eH ∧ G.e 112 = AA 0 RU) : Gd G 90 (AA 0 uA) := by
 refine gr (fn := Tryz.f90) (n := 5) rfl rfl hG ?_
 rintro ⟨h, x, k, to, w, ⟨⟩⟩ hpre
 simp -implicitDefEqProofs only [Tryz.f90, go_sem, hh, seval] at hpre ⊢
 obtain ⟨hk0, hk1⟩ := hpre
 with_reducible repeat' (first | apply ai | intro _ | ((first | apply s1 | apply s3 | apply s4) <;> intro hb <;> simp -implicitDefEqProofs only [hb, go_sem, hh, seval] <;> try simp only [qz] at hb))
 all_goals (try simp only [maxLen] at *)
 all_goals first
  | rfl
  | omega
  | exact uF (fun q => by have := q.1; omega)
  | exact uD ⟨fun q => ⟨by omega, .inl ⟨by assumption, q⟩⟩, fun q => q.2.elim (fun z => z.2) fun z => absurd (by assumption) z.1⟩
  | exact uD ⟨fun q => ⟨by omega, .inr ⟨by assumption, by simpa using hb, q⟩⟩, fun q => q.2.elim (fun z => absurd z.1 (by assumption)) fun z => z.2.2⟩
  | exact uF (fun q => q.2.elim (fun z => absurd z.1 (by assumption)) fun z => z.2.1 (by simpa using hb))
  | skip
end
def w8 : Ct := Ar (lc Gy.ag (lc BK (lc Ax (lc BK l0)))) (fun p => HU p.1 ∧ 0 ≤ p.2.1 ∧ p.2.1 < p.1.spool.items.length) (fun p => SY (JD p.1.conf (p.1.spool.items.getD p.2.1.toNat default) p.2.2.1 p.2.2.2.1))
section
attribute [local go_sem] uA AZ AY lm List.length_append List.length_cons List.length_nil List.map_nil Nat.zero_add List.nil_append AS.opn AS.cls AS.nilb AS.renb AS.up Bool.not_false Bool.not_true List.set_set List.set_cons_zero List.set_cons_succ List.set_nil List.mem_singleton forall_eq
set_option maxHeartbeats 1600000 in
theorem qK {G : Gt} (hG : Ah G) (hh : G.e 90 = AA 0 uA) : Gd G 41 (AA 0 w8) := by
 refine OP (dp := fun n => !(Nat.beq n 100003 || Nat.beq n 100005)) (fn := Tryz.f41) (n := 4) rfl rfl hG ?_ (hs := fun _ p => K9 _)
 rintro ⟨h, n, to, w, ⟨⟩⟩ hpre
 simp -implicitDefEqProofs only [Tryz.f41, go_sem, hh, seval] at hpre ⊢
 obtain ⟨⟨_, ⟨_, hsz⟩, _⟩, hn0, hn1⟩ := hpre
 try dsimp only at hn0 hn1
 obtain ⟨ni, rfl⟩ := Int.eq_ofNat_of_zero_le hn0
 have hx := hsz _ (AC (xs := h.spool.items) (j := ni) (by omega))
 obtain ⟨_, ⟨hl1, _⟩, ⟨hl2, _⟩⟩ := hx
 simp only [tn] at *
 with_reducible repeat' (first | apply ai | intro _ | ((first | apply s1 | apply s3 | apply s4) <;> intro hb <;> simp -implicitDefEqProofs only [hb, go_sem, hh, seval] <;> try simp only [qz] at hb))
 all_goals (try simp only [maxLen] at *)
 all_goals first | rfl | omega | assumption | decide | skip
 all_goals
  refine AO (Le.nilb 1010 2 1901 true 2 rfl rfl rfl) (AX ?_)
  simp -implicitDefEqProofs only [go_sem, hh, seval]
  refine AE [] (ι := {p : Nat × List Ad // p.1 ≤ (h.spool.items.getD ni default).to.length ∧ p.2.length ≤ p.1 ∧ A3 h.conf to w (h.spool.items.getD ni default).to = p.2 ++ A3 h.conf to w ((h.spool.items.getD ni default).to.drop p.1)}) (fun p => ⟨[(2, .t (.v (.string to))), (3, .t (.v (.int .i64 w))), (4, .pb 1004 0), (8, .pb 1008 0), (9, .pb 1009 0), (10, .pb 1010 0), (11, .t (.v (.int .i64 p.1.1)))], [(1008, some (.box [.t (.v (.string ⟨#[]⟩)), .t (.v (.string ⟨#[]⟩)), .nil, .nil])), (1004, some (.box ((Af h).map .t))), (1009, some (.box ((As (h.spool.items.getD ni default)).map .t))), (1010, some (.box [.t (.v (.string (h.spool.items.getD ni default).frm.user)), .t (.v (.string (h.spool.items.getD ni default).frm.domain)), .h 1901, .h 1023])), (1023, some (.arr true 1 ((h.spool.items.getD ni default).body.map AH))), (1901, some (.arr true 2 (p.1.2.map Am)))]⟩) (fun p => (h.spool.items.getD ni default).to.length - p.1.1) ⟨(0, []), by simp, by simp, rfl⟩ rfl ?_ ?_
  ·simp -implicitDefEqProofs only [go_sem, hh, seval]
   try simp
  ·rintro ⟨⟨i, L⟩, hi, hL, hq⟩
   dsimp only at hi hL hq ⊢
   by_cases hlt : (i : Int) < (h.spool.items.getD ni default).to.length
   ·simp -implicitDefEqProofs only [hlt, decide_true, tn, go_sem, hh, seval]
    with_reducible repeat' (first | apply ai | intro _ | ((first | apply s1 | apply s3 | apply s4) <;> intro hb <;> simp -implicitDefEqProofs only [hb, go_sem, hh, seval] <;> try simp only [qz] at hb))
    all_goals (try simp only [maxLen, tn] at *)
    all_goals first | rfl | omega | assumption | decide | skip
    ·refine AO (Le.renb 1010 2 1047 1901 rfl rfl rfl rfl) (AX ?_)
     simp -implicitDefEqProofs only [go_sem, hh, seval]
     with_reducible repeat' (first | apply ai | intro _ | ((first | apply s1 | apply s3 | apply s4) <;> intro hb <;> simp -implicitDefEqProofs only [hb, go_sem, hh, seval] <;> try simp only [qz] at hb))
     all_goals first | rfl | omega | decide | skip
     refine ⟨⟨(i + 1, L ++ [((h.spool.items.getD ni default).to.getD i default).addr]), by dsimp only; omega, by simp; omega, by dsimp only; rw [hq, Sc (by omega) (by assumption)]; simp⟩, by dsimp only; omega, ?_⟩
     simp -implicitDefEqProofs only [go_sem, hh, seval]
     simp only [Sv]
     with_reducible repeat' (first | apply ai | intro _ | ((first | apply s1 | apply s3 | apply s4) <;> intro hb <;> simp -implicitDefEqProofs only [hb, go_sem, hh, seval] <;> try simp only [qz] at hb))
     all_goals first | rfl | (simp; done) | skip
    ·refine AX ?_
     simp -implicitDefEqProofs only [go_sem, hh, seval]
     with_reducible repeat' (first | apply ai | intro _ | ((first | apply s1 | apply s3 | apply s4) <;> intro hb <;> simp -implicitDefEqProofs only [hb, go_sem, hh, seval] <;> try simp only [qz] at hb))
     all_goals first | rfl | omega | decide | skip
     refine ⟨⟨(i + 1, L), by dsimp only; omega, by dsimp only; omega, by dsimp only; rw [hq, Sb (by omega) (by assumption)]⟩, by dsimp only; omega, ?_⟩
     simp -implicitDefEqProofs only [go_sem, hh, seval]
     try simp
   ·have hend : A3 h.conf to w (h.spool.items.getD ni default).to = L := by rw [hq, LB (by omega), List.append_nil]
    simp -implicitDefEqProofs only [hlt, decide_false, JD, hend, go_sem, hh, seval]
    with_reducible repeat' (first | apply ai | intro _ | ((first | apply s1 | apply s3 | apply s4) <;> intro hb <;> simp -implicitDefEqProofs only [hb, go_sem, hh, seval] <;> try simp only [qz] at hb))
    all_goals first | rfl | omega | decide | skip
end
section
attribute [local go_sem] kA s5 dA w8 AZ AY lm ry rc JD List.map_nil List.length_nil
end
def c7 : Ct := Ar (lc Gy.ag (lc BK (lc Ax (lc BK l0)))) (fun p => HU p.1 ∧ p.2.2.1.size ≤ 2000000) (fun p => ry (tJ p.1 p.2.1 p.2.2.1 p.2.2.2.1))
section
attribute [local go_sem] tw Xu eE sy Bool.not_true Bool.not_false Bw DR AZ AY lm List.length_append List.length_cons List.length_nil List.map_nil Nat.zero_add List.nil_append ry rc JD AS.opn AS.cls AS.nilb AS.renb AS.up List.set_set List.set_cons_zero List.set_cons_succ List.set_nil List.mem_singleton forall_eq
end
def KG (c : Cf) (a : Ad) : Prop := a.domain ∈ c.own ∨ ¬ Qr c a.domain = ⟨#[]⟩
def xB : Ct := Ar (lc Jn.ag (lc DY.ag l0)) (fun p => True) (fun p => .t (.v (.bool (BW (KG p.1 p.2.1)))))
section
attribute [local go_sem] eH RU AZ AY
theorem qh {G : Gt} (hG : Ah G) (hh : G.e 85 = AA 0 eH ∧ G.e 112 = AA 0 RU) : Gd G 62 (AA 0 xB) := by
 refine gr (fn := Tryz.f62) (n := 2) rfl rfl hG ?_
 rintro ⟨c, a, ⟨⟩⟩ hpre
 simp -implicitDefEqProofs only [Tryz.f62, go_sem, hh, seval] at hpre ⊢
 with_reducible repeat' (first | apply ai | intro _ | ((first | apply s1 | apply s3 | apply s4) <;> intro hb <;> simp -implicitDefEqProofs only [hb, go_sem, hh, seval] <;> try simp only [qz] at hb))
 all_goals first | rfl | omega | skip
 all_goals (try simp only [AZ, AY] at *)
 all_goals first
  | exact uT (.inl (by assumption))
  | exact uB (by simp only [qc, qb]; exact ⟨fun z => .inr z, fun q => q.elim (fun z => absurd z (by assumption)) id⟩)
  | skip
end
section
attribute [local go_sem] sy AZ AY
end
section
attribute [local go_sem] dB Bool.not_true Bool.not_false Bw DR
end
section
attribute [local go_sem] Bool.not_true Bool.not_false Bw DR
end
section
attribute [local go_sem] Bool.not_true Bool.not_false Bw DR Option.map_some
end
section
attribute [local go_sem] Bool.not_true Bool.not_false Bw DR Option.map_some
end
section
attribute [local go_sem] s6 Xv w9 eF Bool.not_true Bool.not_false Bw DR Dk Dm Dl Dn AZ AY
end
def KP (w : Int) (a : Ad) : Rc := ⟨a, 0, w⟩
def Yb (s : Sp) (m : Ml) (w : Int) : Im := ⟨s.last + 1, m.frm, m.to.map (KP w), m.body⟩
def Lo (s : Sp) (m : Ml) (w : Int) : Sp := ⟨s.last + 1, s.items ++ [Yb s m w]⟩
def CI (s : Sp) : Prop := (s.items.length : Int) < 10 ∧ s.last < 999
theorem jU {xs : List Ad} {w : Int} {i : Nat} (h : i < xs.length) : ((xs.map (KP w)).take (i + 1)).map BN = ((xs.map (KP w)).take i).map BN ++ [[.v (.string (xs.getD i default).user), .v (.string (xs.getD i default).domain), .v (.int .i64 0), .v (.int .i64 w)]] := by
 have e : (xs.map (KP w)).getD i default = KP w (xs.getD i default) := by
  simp only [List.getD_eq_getElem?_getD, List.getElem?_map, List.getElem?_eq_getElem h, Option.map_some, Option.getD_some]
 rw [Az BN (by rw [lm]; exact h), e]
 rfl
def KY : Ct := Ar (lc Q2.ag l0) (fun p => True) (fun p => .t (.v (.bool (BW (CI p.1)))))
section
attribute [local go_sem] lm
theorem fY {G : Gt} (hG : Ah G) : Gd G 121 (AA 0 KY) := by
 refine gr (fn := Tryz.f121) (n := 1) rfl rfl hG ?_
 rintro ⟨s, ⟨⟩⟩ hpre
 simp -implicitDefEqProofs only [Tryz.f121, go_sem, seval] at hpre ⊢
 with_reducible repeat' (first | apply ai | intro _ | ((first | apply s1 | apply s3 | apply s4) <;> intro hb <;> simp -implicitDefEqProofs only [hb, go_sem, seval] <;> try simp only [qz] at hb))
 all_goals first
  | rfl
  | omega
  | (rw [← Bl, Ab]; exact ⟨fun h => ⟨by assumption, h⟩, fun h => h.2⟩)
  | (rw [AQ]; rintro ⟨h1, h2⟩; contradiction)
  | (rw [Ap]; exact ⟨by assumption, by assumption⟩)
  | skip
end
section
attribute [local go_sem] lm
end
def RV : Ct := Ar (lc Q2.ag (lc dP.ag (lc BK l0))) (fun p => E7 p.1 ∧ KB p.2.1 ∧ Bh p.1) (fun p => .agg ((Dx (Lo p.1 p.2.1 p.2.2.1)).map .t))
section
attribute [local go_sem] Ja JR List.take_length List.drop_zero List.length_take List.length_drop lm List.length_append List.length_cons List.length_nil List.map_append List.map_nil List.map_cons List.nil_append Nat.zero_add List.mem_singleton forall_eq Bool.not_true Bool.not_false AS.opn AS.cls AS.nilb AS.renb List.set_set List.set_cons_zero List.set_cons_succ List.set_nil
set_option maxHeartbeats 1600000 in
theorem fb {G : Gt} (hG : Ah G) : Gd G 124 (AA 1 RV) := by
 refine OP (dp := fun n => Nat.ble 100000 n && !(Nat.beq n 100002 || Nat.beq n 100004 || Nat.beq n 100007)) (fn := Tryz.f124) (n := 3) rfl rfl hG ?_
 rintro ⟨s, m, w, ⟨⟩⟩ hpre
 simp -implicitDefEqProofs only [Tryz.f124, go_sem, seval] at hpre ⊢
 obtain ⟨hok, hml, hsp⟩ := hpre
 have hok' : HN GX s.items := hok
 obtain ⟨_, ⟨hl1, _⟩, ⟨hl2, _⟩⟩ := hml
 obtain ⟨_, _, ⟨hs0, hs1⟩, hs2⟩ := hsp
 with_reducible repeat' (first | apply ai | intro _ | ((first | apply s1 | apply s3 | apply s4) <;> intro hb <;> simp -implicitDefEqProofs only [hb, go_sem, seval] <;> try simp only [qz] at hb))
 all_goals (try simp only [maxLen] at *)
 all_goals first | rfl | omega | assumption | decide | skip
 all_goals
  refine AO (Le.nilb 1007 3 1901 true 4 rfl rfl rfl) (AX ?_)
  simp -implicitDefEqProofs only [go_sem, seval]
  refine AE [] (ι := {i : Nat // i ≤ m.to.length}) (fun p => ⟨[(2, .t (.v (.int .i64 w))), (3, .pb 1003 0), (4, .pb 1004 0), (6, .pb 1006 0), (7, .pb 1007 0), (8, .t (.v (.int .i64 p.1)))], [(1003, some (.box [.t (.v (.int .i64 s.last)), .t (.sl 5 (s.items.map As))])), (1004, some (.box ((DP m).map .t))), (1006, some (.box [.t (.v (.int .i64 0)), .nil])), (1007, some (.box [.t (.v (.int .i64 (s.last + 1))), .t (.v (.string m.frm.user)), .t (.v (.string m.frm.domain)), .h 1901, .h 1017])), (1017, some (.arr true 1 (m.body.map AH))), (1901, some (.arr true 4 (((m.to.map (KP w)).take p.1).map BN)))]⟩) (fun p => m.to.length - p.1) ⟨0, by simp⟩ rfl ?_ ?_
  ·simp -implicitDefEqProofs only [go_sem, seval]
   try simp
  ·rintro ⟨i, hi⟩
   have hlen : ((m.to.map (KP w)).take i).length = i := by simp; omega
   by_cases hlt : (i : Int) < m.to.length
   ·simp -implicitDefEqProofs only [hlt, decide_true, tn, go_sem, seval]
    with_reducible repeat' (first | apply ai | intro _ | ((first | apply s1 | apply s3 | apply s4) <;> intro hb <;> simp -implicitDefEqProofs only [hb, go_sem, seval] <;> try simp only [qz] at hb))
    all_goals (try simp only [maxLen] at *)
    all_goals first | rfl | omega | assumption | decide | skip
    refine AO (Le.renb 1007 3 1036 1901 rfl rfl rfl rfl) (AX ?_)
    simp -implicitDefEqProofs only [go_sem, seval]
    with_reducible repeat' (first | apply ai | intro _ | ((first | apply s1 | apply s3 | apply s4) <;> intro hb <;> simp -implicitDefEqProofs only [hb, go_sem, seval] <;> try simp only [qz] at hb))
    all_goals first | rfl | omega | decide | skip
    refine ⟨⟨i + 1, by omega⟩, by dsimp only; omega, ?_⟩
    simp -implicitDefEqProofs only [go_sem, seval]
    simp only [jU (show i < m.to.length by omega)]
    with_reducible repeat' (first | apply ai | intro _ | ((first | apply s1 | apply s3 | apply s4) <;> intro hb <;> simp -implicitDefEqProofs only [hb, go_sem, seval] <;> try simp only [qz] at hb))
    all_goals first | rfl | (simp; done) | skip
   ·simp -implicitDefEqProofs only [hlt, decide_false, go_sem, seval]
    with_reducible repeat' (first | apply ai | intro _ | ((first | apply s1 | apply s3 | apply s4) <;> intro hb <;> simp -implicitDefEqProofs only [hb, go_sem, seval] <;> try simp only [qz] at hb))
    all_goals first | rfl | omega | skip
    rw [List.take_of_length_le (by rw [lm]; omega)]
    refine AO (Le.frzL [1901, 1017]) (AX ?_)
    simp -implicitDefEqProofs only [go_sem, seval]
    with_reducible repeat' (first | apply ai | intro _ | ((first | apply s1 | apply s3 | apply s4) <;> intro hb <;> simp -implicitDefEqProofs only [hb, go_sem, seval] <;> try simp only [qz] at hb))
    all_goals (try simp only [maxLen, List.take_length, List.drop_zero] at *)
    all_goals first | rfl | omega | assumption | decide | skip
    all_goals
     refine congrArg (T.sl 5) ?_
     simp only [Lo, Yb, List.map_append, List.map_cons, List.map_nil]
     rfl
end
section
attribute [local go_sem] s9 d7 s7 eE lm List.length_append List.length_cons List.length_nil List.map_append List.map_cons List.map_nil AS.opn AS.cls AS.nilb AS.renb Bool.not_false Bool.not_true List.set_set List.set_cons_zero List.set_cons_succ List.set_nil List.mem_singleton forall_eq
end
theorem H5 {c x : UInt8} : ∀ {l : List UInt8}, x ∈ l → x = c ∨ ∃ w ∈ Fy c l, x ∈ w
 | y :: r, h => by
   rw [Fy]
   by_cases e : y = c
   ·rw [if_pos e]
    rcases List.mem_cons.1 h with h | h
    ·exact .inl (h.trans e)
    ·rcases H5 h with q | ⟨w, hw, q⟩
     ·exact .inl q
     ·exact .inr ⟨w, by simp [hw], q⟩
   ·rw [if_neg e]
    cases hs : Fy c r with
    | nil => have := GQ c r; rw [hs] at this; simp at this
    | cons a t =>
      rcases List.mem_cons.1 h with h | h
      ·exact .inr ⟨y :: a, by simp, by simp [h]⟩
      ·rcases H5 h with q | ⟨w, hw, q⟩
       ·exact .inl q
       ·rw [hs] at hw
        rcases List.mem_cons.1 hw with e2 | hw
        ·exact .inr ⟨y :: a, by simp, by rw [e2] at q; simp [q]⟩
        ·exact .inr ⟨w, by simp [hw], q⟩
theorem Qm {c : UInt8} {B : Nat} : ∀ {l : List UInt8}, (∀ w ∈ Fy c l, w.length ≤ B) → l.length + 1 ≤ (B + 1) * (Fy c l).length
 | [], _ => by simp [Fy]
 | y :: r, h => by
   rw [Fy] at h ⊢
   by_cases e : y = c
   ·rw [if_pos e] at h ⊢
    have := Qm (c := c) (l := r) fun w hw => h w (by simp [hw])
    rw [List.length_cons, List.length_cons, Nat.mul_succ]
    omega
   ·rw [if_neg e] at h ⊢
    cases hs : Fy c r with
    | nil => have := GQ c r; rw [hs] at this; simp at this
    | cons a t =>
      rw [hs] at h
      have h1 := h (y :: a) (by simp)
      have h3 : (∀ w ∈ Fy c r, w.length ≤ B) ∨ True := .inr trivial
      have key : ∀ (l : List UInt8), l.length + 1 = ((Fy c l).map fun w => w.length + 1).sum := fun l => by
       induction l with
       | nil => rfl
       | cons z q ih =>
         rw [Fy]
         by_cases ez : z = c
         ·rw [if_pos ez, List.map_cons, List.sum_cons, ← ih, List.length_cons, List.length_nil]; omega
         ·rw [if_neg ez]
          cases hq : Fy c q with
          | nil => have := GQ c q; rw [hq] at this; simp at this
          | cons a' t' => rw [hq] at ih; simp only [List.map_cons, List.sum_cons, List.length_cons] at ih ⊢; omega
      have h2 := key r
      rw [hs] at h2
      have h4 : ∀ t : List (List UInt8), (∀ w ∈ t, w.length ≤ B) → (t.map fun w => w.length + 1).sum ≤ (B + 1) * t.length := fun t => by
       induction t with
       | nil => intro _; simp
       | cons w t ih =>
         intro hw
         have q1 := ih fun x hx => hw x (by simp [hx])
         have q2 := hw w (by simp)
         rw [List.map_cons, List.sum_cons, List.length_cons, Nat.mul_succ]; omega
      have h5 := h4 t fun w hw => h w (by simp [hw])
      simp only [List.map_cons, List.sum_cons, List.length_cons] at h1 h2 ⊢
      rw [Nat.mul_succ]
      omega
def Of (l : List UInt8) : Prop := ∀ b ∈ l, 32 ≤ (b.toNat : Int) ∧ (b.toNat : Int) ≤ 126
instance (l : List UInt8) : Decidable (Of l) := by unfold Of; infer_instance
theorem Hi {s : ByteArray} {b : UInt8} (h : b ∈ bl s) : ∃ j, j < s.size ∧ AF s j = b.toNat := by
 obtain ⟨j, hj, e⟩ := List.getElem_of_mem h
 exact ⟨j, hj, by rw [CJ]; simp [hj, e]⟩
theorem P9 {s : ByteArray} {j : Nat} (h : j < s.size) : ∃ b ∈ bl s, AF s j = b.toNat := by
 have h' : j < (bl s).length := h
 exact ⟨(bl s)[j], List.getElem_mem h', by rw [CJ]; simp [h']⟩
theorem HS (s : ByteArray) : IH s ↔ Of (bl s) ∧ s.size ≤ 40 :=
 ⟨fun h => ⟨fun b hb => by
   obtain ⟨j, hj, e⟩ := Hi hb
   rw [← e]; exact h.1 j hj, h.2⟩, fun h => ⟨fun j hj => by
   obtain ⟨b, hb, e⟩ := P9 hj
   rw [e]; exact h.1 b hb, h.2⟩⟩
theorem Og {a b : List UInt8} : Of (a ++ b) ↔ Of a ∧ Of b :=
 ⟨fun h => ⟨fun x hx => h x (by simp [hx]), fun x hx => h x (by simp [hx])⟩, fun h x hx => (List.mem_append.1 hx).elim (h.1 x) (h.2 x)⟩
theorem Jo {s : ByteArray} (h : Td s) : Of (bl s) ∧ s.size ≤ 8 := ⟨fun b hb => by
 obtain ⟨j, hj, e⟩ := Hi hb
 have := h.1 j hj
 rw [← e]; unfold Kr at this; omega, h.2.2⟩
theorem DF {s : ByteArray} (h : D9 s) : Of (bl s) ∧ s.size ≤ 26 := by
 obtain ⟨h1, h2⟩ := (Jl s).1 h
 have h3 : ∀ w ∈ Fy 46 (bl s), Td (mB w) := fun w hw => h1 _ (List.mem_map_of_mem hw)
 refine ⟨fun b hb => ?_, ?_⟩
 ·rcases H5 (c := 46) hb with e | ⟨w, hw, q⟩
  ·rw [e]; decide
  ·exact (Jo (h3 w hw)).1 b q
 ·have h4 := Qm (c := 46) (B := 8) (l := bl s) fun w hw => (h3 w hw).2.2
  have h5 : (Fy 46 (bl s)).length ≤ 3 := by
   have : (Ir s 46).length = (Fy 46 (bl s)).length := lm ..
   omega
  have h6 : (bl s).length = s.size := rfl
  have h7 : 9 * (Fy 46 (bl s)).length ≤ 9 * 3 := Nat.mul_le_mul_left 9 h5
  omega
def yN : ByteArray := ⟨#[72, 111, 112, 58, 32]⟩
def Cv (n : ByteArray) : ByteArray := yN ++ n
theorem iY {n : ByteArray} (h : D9 n) : IH (Cv n) := by
 obtain ⟨h1, h2⟩ := DF h
 rw [HS]
 have e : bl (Cv n) = [72, 111, 112, 58, 32] ++ bl n := RO _ _
 refine ⟨?_, ?_⟩
 ·rw [e, Og]
  exact ⟨by decide, h1⟩
 ·have : (Cv n).size = 5 + n.size := by rw [← CP, e, List.length_append, CP]; rfl
  omega
noncomputable def C2 (a : Ad) : ByteArray := bif BW (Ac a) then ⟨#[60, 62]⟩ else ⟨#[60]⟩ ++ a.user ++ ⟨#[64]⟩ ++ a.domain ++ ⟨#[62]⟩
theorem Ip {a : Ad} (h : Ac a) : C2 a = ⟨#[60, 62]⟩ := by unfold C2; rw [Ap h]; rfl
theorem Sg {a : Ad} (h : ¬ Ac a) : C2 a = ⟨#[60]⟩ ++ a.user ++ ⟨#[64]⟩ ++ a.domain ++ ⟨#[62]⟩ := by unfold C2; rw [AQ h]; rfl
theorem OA {a : Ad} (h : ¬ Ac a) : bl (C2 a) = [60] ++ bl a.user ++ [64] ++ bl a.domain ++ [62] := by
 rw [Sg h]
 simp only [RO]
 rfl
theorem dN {a : Ad} (h : BS a) : ¬ Ac a := fun q => by
 have := h.1.2.1
 rw [q.1] at this
 exact absurd this (by decide)
theorem Qd {a : Ad} (h : BS a ∨ Ac a) : IH (C2 a) := by
 by_cases hn : Ac a
 ·rw [Ip hn, HS]
  exact ⟨by decide, by decide⟩
 ·have ha := h.resolve_right hn
  obtain ⟨u1, u2⟩ := Jo ha.1
  obtain ⟨d1, d2⟩ := DF ha.2
  rw [HS, OA hn]
  refine ⟨by simp only [Og]; exact ⟨⟨⟨⟨by decide, u1⟩, by decide⟩, d1⟩, by decide⟩, ?_⟩
  have : (C2 a).size = 3 + a.user.size + a.domain.size := by
   rw [← CP, OA hn]
   simp only [List.length_append, List.length_cons, List.length_nil, CP]; omega
  omega
def aa (n : ByteArray) (m : Ml) : Ml := ⟨m.frm, m.to, Cv n :: m.body⟩
def JZ (h : Hs) (m : Ml) (w : Int) : Hs := ⟨h.conf, Lo h.spool (aa h.conf.name m) w, h.boxes, h.lost⟩
section
variable {h : Hs} {m : Ml} {w : Int}
theorem rO (q : D9 h.conf.name) (hm : DK m) (hl : m.body.length < 12) : DK (aa h.conf.name m) :=
 ⟨hm.1, hm.2.1, hm.2.2.1, hm.2.2.2.1, ⟨fun s hs => (List.mem_cons.1 hs).elim (fun e => by rw [e]; exact iY q) (hm.2.2.2.2.1 s), by show (Cv h.conf.name :: m.body).length ≤ 12; simp; omega⟩⟩
end
def b9 (p : Hs × Bool) : AV := .tup [.agg ((Af p.1).map .t), .t (.v (.bool p.2))]
theorem Nm {α : Type} [Inhabited α] {p : α → Prop} : ∀ (xs : List α) (k : Nat), 0 ≤ BM p k xs → p (xs.getD ((BM p k xs).toNat - k) default)
 | [], k, h => absurd h (by rw [BM]; omega)
 | x :: t, k, h => by
   rw [BM] at h ⊢
   by_cases hx : p x
   ·rw [Ap hx, cond_true, tn, Nat.sub_self]
    exact hx
   ·rw [AQ hx, cond_false] at h ⊢
    have h1 := Nm t (k + 1) h
    have h2 : (BM p (k + 1) t).toNat - k = ((BM p (k + 1) t).toNat - (k + 1)) + 1 := by
     rcases GO p t (k + 1) with q | q <;> omega
    rw [h2]
    exact h1
section
variable {h : Hs} {m : Ml} {w : Int}
end
theorem Cr {xs : List Im} : xO xs ↔ (xs.map Im.id).Pairwise (· < ·) := by
 rw [List.pairwise_iff_getElem]
 constructor
 ·intro h i j hi hj hij
  rw [lm] at hi hj
  simp only [List.getElem_map]
  induction j with
  | zero => omega
  | succ j ih =>
    have h1 := h (j + 1) (by omega) hj
    simp only [Nat.add_sub_cancel, List.getD_eq_getElem?_getD, List.getElem?_eq_getElem hj, List.getElem?_eq_getElem (show j < xs.length by omega), Option.getD_some] at h1
    by_cases e : i = j
    ·subst e; exact h1
    ·have := ih (by omega) (by omega)
     omega
 ·intro h j h0 hj
  have := h (j - 1) j (by rw [lm]; omega) (by rw [lm]; exact hj) (by omega)
  simp only [List.getElem_map] at this
  simp only [List.getD_eq_getElem?_getD, List.getElem?_eq_getElem hj, List.getElem?_eq_getElem (show j - 1 < xs.length by omega), Option.getD_some]
  exact this
theorem Uh {α : Type} (xs : List α) (i : Nat) : List.Sublist (xs.take i ++ xs.drop (i + 1)) xs := by
 have h : List.Sublist (xs.take i ++ xs.drop (i + 1)) (xs.take i ++ xs.drop i) := List.Sublist.append (List.Sublist.refl _) (by
  rw [← List.drop_drop]; exact List.drop_sublist 1 _)
 rwa [List.take_append_drop] at h
theorem Rh {α : Type} [Inhabited α] {xs : List α} {i : Nat} (h : i < xs.length) : xs = xs.take i ++ xs.getD i default :: xs.drop (i + 1) := by
 rw [← AW h, List.take_append_drop]
theorem ej {x : Im} {k : Nat} (h : Do x) (hk : k < x.to.length) (h2 : ¬ (Ib x k).to = []) : Do (Ib x k) := by
 have hs := Uh x.to k
 refine ⟨fun r hr => h.1 r (hs.subset hr), (hs.map Rc.addr).nodup h.2.1, h.2.2.1, h.2.2.2.1, ⟨?_, Nat.le_trans hs.length_le h.2.2.2.2.1.2⟩, h.2.2.2.2.2⟩
 exact Nat.pos_of_ne_zero fun e => h2 (List.eq_nil_of_length_eq_zero e)
theorem Ep {s : Sp} {i k : Nat} (h : Bh s) (hi : i < s.items.length) (hk : k < (s.items.getD i default).to.length) : Bh (DO s i k) := by
 have hx := h.1 _ (AC hi)
 have hs := Uh s.items i
 have ha := Cr.1 h.2.1
 have hq := Rh hi
 show (∀ x ∈ Xw s.items i k, Do x ∧ x.id ≤ s.last) ∧ xO (Xw s.items i k) ∧ (0 ≤ s.last ∧ s.last ≤ 999) ∧ (Xw s.items i k).length ≤ 10
 unfold Xw
 split
 ·exact ⟨fun x hx => h.1 x (hs.subset hx), Cr.2 (ha.sublist (hs.map Im.id)), h.2.2.1, Nat.le_trans hs.length_le h.2.2.2⟩
 ·rename_i hne
  refine ⟨fun x hm => ?_, Cr.2 ?_, h.2.2.1, ?_⟩
  ·rcases List.mem_append.1 hm with hm | hm
   ·exact h.1 x (List.mem_of_mem_take hm)
   ·rcases List.mem_cons.1 hm with e | hm
    ·rw [e]; exact ⟨ej hx.1 hk hne, hx.2⟩
    ·exact h.1 x (List.mem_of_mem_drop hm)
  ·have e : (s.items.take i ++ Ib (s.items.getD i default) k :: s.items.drop (i + 1)).map Im.id = s.items.map Im.id := by
     conv => rhs; rw [hq]
     simp only [List.map_append, List.map_cons]
     rfl
   rw [e]; exact ha
  ·have e : (s.items.take i ++ Ib (s.items.getD i default) k :: s.items.drop (i + 1)).length = s.items.length := by
     conv => rhs; rw [hq]
     simp only [List.length_append, List.length_cons]
   rw [e]; exact h.2.2.2
theorem uq (l : List Rc) (k : Nat) (h : k < l.length) : l.getD k default = l[k] := by simp [h]
theorem Mh {s : Sp} {i k : Nat} {w : Int} (h : Bh s) (hi : i < s.items.length) (hk : k < (s.items.getD i default).to.length) (hn : ¬ Ns ((s.items.getD i default).to.getD k default) w) (hw : 0 ≤ w) : Bh (P7 s i k w) := by
 have hx := h.1 _ (AC hi)
 have hr := hx.1.1 _ (AC hk)
 have hn1 : ((s.items.getD i default).to.getD k default).tries + 1 < 4 := by unfold Ns at hn; omega
 have hn2 : w + dG (((s.items.getD i default).to.getD k default).tries + 1) ≤ 9999 := by unfold Ns at hn; omega
 have hp := (bq (t := ((s.items.getD i default).to.getD k default).tries + 1) (m := 3) (by omega)).1
 have hrc : Oj (XE ((s.items.getD i default).to.getD k default) w) := ⟨hr.1, ⟨by have := hr.2.1.1; show 0 ≤ _ + 1; omega, by show _ + 1 ≤ 3; omega⟩, ⟨by show 0 ≤ w + _; omega, hn2⟩⟩
 have hadr : ((s.items.getD i default).to.set k (XE ((s.items.getD i default).to.getD k default) w)).map Rc.addr = (s.items.getD i default).to.map Rc.addr := by
  rw [List.map_set]
  have : (XE ((s.items.getD i default).to.getD k default) w).addr = ((s.items.getD i default).to.map Rc.addr)[k]'(by rw [lm]; exact hk) := by
   rw [List.getElem_map]
   show ((s.items.getD i default).to.getD k default).addr = _
   rw [uq _ _ hk]
  rw [this, List.set_getElem_self]
 have hx2 : Do (SK (s.items.getD i default) k w) := by
  refine ⟨fun r hm => ?_, ?_, hx.1.2.2.1, hx.1.2.2.2.1, ?_, hx.1.2.2.2.2.2⟩
  ·rcases List.mem_or_eq_of_mem_set hm with hm | rfl
   ·exact hx.1.1 r hm
   ·exact hrc
  ·show (((s.items.getD i default).to.set k _).map Rc.addr).Nodup
   rw [hadr]; exact hx.1.2.1
  ·show 1 ≤ ((s.items.getD i default).to.set k _).length ∧ ((s.items.getD i default).to.set k _).length ≤ 4
   rw [List.length_set]; exact hx.1.2.2.2.2.1
 refine ⟨fun x hm => ?_, Cr.2 ?_, h.2.2.1, by show (s.items.set i _).length ≤ 10; rw [List.length_set]; exact h.2.2.2⟩
 ·rcases List.mem_or_eq_of_mem_set hm with hm | rfl
  ·exact h.1 x hm
  ·exact ⟨hx2, hx.2⟩
 ·have e : (s.items.set i (SK (s.items.getD i default) k w)).map Im.id = s.items.map Im.id := by
    rw [List.map_set]
    have : (SK (s.items.getD i default) k w).id = (s.items.map Im.id)[i]'(by rw [lm]; exact hi) := by
     simp [SK, hi]
    rw [this, List.set_getElem_self]
  show ((s.items.set i _).map Im.id).Pairwise (· < ·)
  rw [e]; exact Cr.1 h.2.1
theorem IP {s : Sp} {m : Ml} {w : Int} (h : Bh s) (hm : DK m) (hw : 0 ≤ w ∧ w ≤ 9999) (hr : CI s) : Bh (Lo s m w) := by
 have hx : Do (Yb s m w) := by
  refine ⟨fun r hr => ?_, ?_, ?_, hm.2.2.1, ?_, hm.2.2.2.2⟩
  ·obtain ⟨a, ha, rfl⟩ := List.mem_map.1 hr
   exact ⟨hm.1 a ha, by show 0 ≤ (0 : Int) ∧ (0 : Int) ≤ 3; decide, hw⟩
  ·show ((m.to.map (KP w)).map Rc.addr).Nodup
   have e : (m.to.map (KP w)).map Rc.addr = m.to := by
    rw [List.map_map]; exact List.map_id'' (fun _ => rfl) _
   rw [e]; exact hm.2.1
  ·have := h.2.2.1.1
   show 0 < s.last + 1; omega
  ·show 1 ≤ (m.to.map (KP w)).length ∧ (m.to.map (KP w)).length ≤ 4
   rw [lm]; exact hm.2.2.2.1
 have h1 := hr.1; have h2 := hr.2
 refine ⟨fun x hm => ?_, Cr.2 ?_, ?_, ?_⟩
 ·rcases List.mem_append.1 hm with hm | hm
  ·have := h.1 x hm
   exact ⟨this.1, by have := this.2; show x.id ≤ s.last + 1; omega⟩
  ·rw [List.mem_singleton.1 hm]
   exact ⟨hx, Int.le_refl _⟩
 ·show ((s.items ++ [Yb s m w]).map Im.id).Pairwise (· < ·)
  rw [List.map_append, List.pairwise_append]
  refine ⟨Cr.1 h.2.1, by simp, fun a ha b hb => ?_⟩
  obtain ⟨x, hx, rfl⟩ := List.mem_map.1 ha
  rw [List.map_cons, List.map_nil, List.mem_singleton] at hb
  rw [hb]
  have := (h.1 x hx).2
  show x.id < s.last + 1; omega
 ·have := h.2.2.1.1
  show 0 ≤ s.last + 1 ∧ s.last + 1 ≤ 999; omega
 ·show (s.items ++ [Yb s m w]).length ≤ 10
  rw [List.length_append]; simp; omega
theorem Fv : ∀ xs : List ByteArray, Be xs = ⟨#[]⟩ ∨ Be xs ∈ xs
 | [] => .inl rfl
 | x :: r => by
   rw [Be]
   cases BW (IK x)
   ·rw [cond_false]
    rcases Fv r with h | h
    ·exact .inl h
    ·exact .inr (by simp [h])
   ·exact .inr (by simp)
def xJ : ByteArray := ⟨#[110, 111, 116, 32, 100, 101, 108, 105, 118, 101, 114, 101, 100, 58]⟩
noncomputable def Bm (x : Im) (a : Ad) : Ml := ⟨⟨⟨#[]⟩, ⟨#[]⟩⟩, [x.frm], xJ :: C2 a :: (if Be x.body = ⟨#[]⟩ then [] else [Be x.body])⟩
theorem Wf {x : Im} {a : Ad} (h : Do x) (ha : BS a) (hn : ¬ Ac x.frm) : DK (Bm x a) := by
 refine ⟨fun b hb => ?_, by show [x.frm].Nodup; simp, .inr ⟨rfl, rfl⟩, by show 1 ≤ 1 ∧ 1 ≤ 4; decide, fun s hs => ?_, ?_⟩
 ·rw [List.mem_singleton.1 hb]; exact h.2.2.2.1.resolve_right hn
 ·rcases List.mem_cons.1 hs with e | hs
  ·rw [e, HS]; exact ⟨by decide, by decide⟩
  ·rcases List.mem_cons.1 hs with e | hs
   ·rw [e]; exact Qd (.inl ha)
   ·split at hs
    ·cases hs
    ·rename_i q
     rw [List.mem_singleton.1 hs]
     exact h.2.2.2.2.2.1 _ ((Fv x.body).resolve_left q)
 ·show (xJ :: C2 a :: _).length ≤ 12
  split <;> simp
open Classical in
noncomputable def HE (h : Hs) (x : Im) (a : Ad) (i k : Nat) (w : Int) : Hs :=
 if Ac x.frm ∨ ¬ CI (DO h.spool i k) then ⟨h.conf, DO h.spool i k, h.boxes, h.lost ++ [⟨Be x.body, a⟩]⟩ else ⟨h.conf, Lo (DO h.spool i k) (Bm x a) w, h.boxes, h.lost⟩
noncomputable def CV (h : Hs) (i k : Nat) (a : Ad) (out w : Int) : Hs :=
 if out = 2 then ⟨h.conf, DO h.spool i k, h.boxes, h.lost⟩
 else if out = 3 ∧ ¬ Ns ((h.spool.items.getD i default).to.getD k default) w then ⟨h.conf, P7 h.spool i k w, h.boxes, h.lost⟩
 else HE h (h.spool.items.getD i default) a i k w
section
variable {h : Hs} {x : Im} {n : Int} {a : Ad} {out w : Int} {i k : Nat}
theorem aU (q : Ac x.frm ∨ ¬ CI (DO h.spool i k)) : HE h x a i k w = ⟨h.conf, DO h.spool i k, h.boxes, h.lost ++ [⟨Be x.body, a⟩]⟩ := if_pos q
theorem aT (q : ¬ (Ac x.frm ∨ ¬ CI (DO h.spool i k))) : HE h x a i k w = ⟨h.conf, Lo (DO h.spool i k) (Bm x a) w, h.boxes, h.lost⟩ := if_neg q
theorem GE {x : Im} {a : Ad} (q : ¬ B6 x a < 0) : (x.to.getD (B6 x a).toNat default).addr = a := by
 have h1 := Nm (p := fun r : Rc => r.addr = a) x.to 0 (by unfold B6 at q; omega)
 exact h1
theorem GD {s : Sp} {n : Int} (q : ¬ A8 s n < 0) : (A2 s n).id = n := by
 have h1 := Nm (p := fun x : Im => x.id = n) s.items 0 (by unfold A8 at q; omega)
 exact h1
end
end Go.V
namespace Go.V
open Go Go.Proofs Go.Shelf Go.RowKit Go.Lib
set_option maxRecDepth 1000000
set_option linter.unusedSimpArgs false
set_option linter.unusedVariables false
end Go.V
namespace Go.V
open Go Go.Proofs
set_option maxRecDepth 100000
set_option linter.unusedSimpArgs false
set_option linter.unusedVariables false
attribute [local go_sem] EX.eq_1 EX.eq_2 I0.eq_1 On.eq_1 On.eq_2 Fb.eq_1 Fb.eq_2 Cp.eq_1 Cp.eq_2 Cp.eq_3 Cp.eq_4 Cp.eq_5 Co.eq_1 Co.eq_2 Co.eq_3 Co.eq_4 Co.eq_5 DT.eq_1 DT.eq_2 DT.eq_3 Gi.eq_1 Gi.eq_2 Ln.eq_1 Ln.eq_2 Ln.eq_3 dj.eq_1 dj.eq_2 sw.eq_1 aF.eq_1 aF.eq_2 dD.eq_1 Kl.eq_1 EJ.eq_1 EJ.eq_2 EJ.eq_3 EJ.eq_4 EJ.eq_5 HZ.eq_1 HZ.eq_2 BI.eq_1 BI.eq_2 BI.eq_3 Hp.eq_1 Fd.eq_1 Gz.eq_1 KO.eq_1 NJ.eq_1 NJ.eq_2 DU.eq_1 DU.eq_2 DU.eq_3 Lg.eq_1 Lg.eq_2 De.eq_1 De.eq_2 Fc.eq_1 EL.eq_1 EL.eq_2 dh.eq_1 dh.eq_2 BZ.eq_1 BZ.eq_2 CB.eq_1 He.eq_1 KK.eq_1 Dd.eq_1 Dd.eq_2 FB.eq_1 FA.eq_1 K3.eq_1 DG.eq_1 DG.eq_2 DH.eq_1 DH.eq_2 EY.eq_1 EY.eq_2 Cw.eq_1 Cw.eq_2 HG.eq_1 HY.eq_1 HY.eq_2 Ix.eq_1 Ix.eq_2 Lm.eq_1 Lm.eq_2 Lm.eq_3 Lm.eq_4 ND.eq_1 ND.eq_2 HX.eq_1 HX.eq_2 HX.eq_3 HX.eq_4 cz.eq_1 cz.eq_2 MC.eq_1 FO.eq_1 FO.eq_2 FO.eq_3 MD.eq_1 Fe.eq_1 Fe.eq_2 Fe.eq_3 GI.eq_1 GI.eq_2 GJ.eq_1 GJ.eq_2 Hb.eq_1 Hb.eq_2 XB.eq_1 Q9.eq_1 RA.eq_1 NC.eq_1 NC.eq_2 RB.eq_1 EI.eq_1 EI.eq_2 EI.eq_3 EI.eq_4 NE.eq_1 NE.eq_2 DL.eq_1 JN.eq_1 JN.eq_2 JN.eq_3 Cb.eq_1 Cb.eq_2 E8.eq_1 E8.eq_2 Ca.eq_1 Ca.eq_2 Ca.eq_3 Gg.eq_1 Gg.eq_2 cY.eq_1 AS.takeV.eq_1 AS.takeV.eq_2 AS.takeV.eq_3 AS.takeV.eq_4 AS.takeV.eq_5 AS.takeV.eq_6 AS.takeV.eq_7 AV.oldM.eq_1 AV.oldM.eq_2 AV.oldM.eq_3 AV.oldM.eq_4 AV.oldM.eq_5 AV.oldM.eq_6 AV.oldM.eq_7 AV.oldM.eq_8 AV.oldM.eq_9 AV.oldM.eq_10 AV.oldM.eq_11 AV.oldML.eq_1 AV.oldML.eq_2 subL.eq_1 subL.eq_2 Dg.eq_1 Dg.eq_2 Dg.eq_3 Dg.eq_4 C6.eq_1 BH.eq_1 BH.eq_2 BH.eq_3 BH.eq_4 By.eq_1 CA.eq_1 CA.eq_2 CA.eq_3 EH.eq_1 EH.eq_2 EH.eq_3 BG.eq_1 BG.eq_2 BG.eq_3 BG.eq_4 BG.eq_5 BG.eq_6 BG.eq_7 BG.eq_8 BG.eq_9 BG.eq_10 BG.eq_11 BG.eq_12 BG.eq_13 BG.eq_14 BG.eq_15 BG.eq_17 BG.eq_18 BG.eq_19 BG.eq_20 BG.eq_21 BG.eq_22 BG.eq_23 AS.ev.eq_1 AS.ev.eq_2 AS.ev.eq_3 AS.ev.eq_4 AS.evs.eq_1 AS.evs.eq_2 AS.evp.eq_1 AS.evp.eq_2 AS.put.eq_1 AS.put.eq_2 AS.remL.eq_1 AS.remL.eq_2 AV.has.eq_1 AV.has.eq_2 AV.has.eq_3 AV.has.eq_4 AV.has.eq_5 AV.has.eq_6 AV.has.eq_7 AV.has.eq_8 AV.has.eq_9 AV.has.eq_10 AV.has.eq_11 AV.hasL.eq_1 AV.hasL.eq_2 Ob.drop.eq_1 Ob.drop.eq_2 Ob.drop.eq_3 Ob.drop.eq_4 AV.cells.eq_1 AV.cells.eq_2 AV.cells.eq_3 AV.cells.eq_4 AV.cells.eq_5 AS.snapT.eq_1 AS.snapT.eq_2 AS.snapT.eq_3 AS.snapT.eq_4 AS.snapT.eq_5 AS.snapT.eq_6 AS.snapT.eq_7 AS.snap.eq_1 AS.snap.eq_2 BA.eq_1 BA.eq_2 AM.eq_1 AM.eq_2 AM.eq_3 AM.eq_4 AM.eq_5 AM.eq_6 AM.eq_7 AM.eq_8 AM.eq_9 AM.eq_10 AM.eq_11 AU.eq_1 AU.eq_2 IG.eq_1 IG.eq_2 AV.ids.eq_1 AV.ids.eq_2 AV.ids.eq_3 AV.ids.eq_4 AV.ids.eq_5 AV.ids.eq_6 AV.ids.eq_7 AV.ids.eq_8 AV.ids.eq_9 AV.ids.eq_10 AV.ids.eq_11 AV.idsL.eq_1 AV.idsL.eq_2 AV.sub.eq_1 AV.sub.eq_2 AV.sub.eq_3 AV.sub.eq_4 AV.sub.eq_5 AV.sub.eq_6 AV.sub.eq_7 AV.sub.eq_8 AV.sub.eq_9 AV.sub.eq_10 AV.sub.eq_11 AV.subL.eq_1 AV.subL.eq_2 AS.frzL.eq_1 AS.frzL.eq_2 AS.absT.eq_1 AS.absT.eq_2 AS.absT.eq_4 AS.absL.eq_1 AS.absL.eq_2 AS.absOk.eq_1 AS.absOkL.eq_1 AS.absOkL.eq_2 B7.eq_1 BV.eq_1 BV.eq_2 AS.appBase.eq_1 AS.appBase.eq_2 AS.appSrc.eq_1 CW.eq_1 CW.eq_2 CW.eq_3 CO.eq_1 CO.eq_2 c8.eq_1 c8.eq_2 DV.eq_1 Kd.agg.eq_1 Kd.agg.eq_2 Ih.eq_1 Ih.eq_2 Ih.eq_3 Ih.eq_4 Ih.eq_5 Ih.eq_6 Ih.eq_7 Ih.eq_8 zt.eq_1 xL.eq_1 xM.eq_1 Xg.eq_1 Xg.eq_2 cJ.eq_1 Vm.eq_1 K6.eq_1 K6.eq_2 K6.eq_3 Vn.eq_1 Vl.eq_1 QW.eq_1 QW.eq_2 Hh.eq_1 DS.eq_1 DS.eq_2 DS.eq_3 DS.eq_4 DS.eq_5 DS.eq_6 DS.eq_7 DS.eq_8 Da.eq_1 Da.eq_2 Cj.eq_1 Cj.eq_2 Cj.eq_3 Cj.eq_4 Cj.eq_5 Bv.eq_1 C1.eq_1 C1.eq_2 C1.eq_3 C1.eq_4 C1.eq_5 CN.eq_1 R4.eq_1 R4.eq_2 OO.eq_1 OO.eq_2 OO.eq_3 cellAV.eq_1 cellAV.eq_2 DX.eq_1 DX.eq_2 B4.eq_1 B4.eq_2 B4.eq_3 B4.eq_4 B4.eq_5 B4.eq_6 B4.eq_7 B4.eq_8 B4.eq_9 B4.eq_10 B4.eq_11 B4.eq_12 B4.eq_13 B4.eq_14 B4.eq_15 B4.eq_16 B4.eq_17 B4.eq_18 B4.eq_19 B4.eq_20 B4.eq_21 B4.eq_22 B4.eq_23 B4.eq_24 B4.eq_25 B4.eq_26 Bp.eq_1 Bp.eq_2 Bp.eq_3 Bp.eq_4 Bp.eq_5 AV.refs.eq_1 AV.refs.eq_2 AV.refs.eq_3 AV.refs.eq_4 AV.refs.eq_5 AV.refs.eq_6 AV.refs.eq_7 AV.refs.eq_8 AV.refs.eq_9 AV.refs.eq_10 AV.refs.eq_11 AV.refsL.eq_1 AV.refsL.eq_2 LH.eq_1 LH.eq_2 E0.eq_1 E0.eq_2 E0.eq_3 E0.eq_4 E0.eq_5 E0.eq_6 Mv.eq_1 Mv.eq_2 Wm.eq_1 Wm.eq_2 Gu.eq_1 Gu.eq_2 AV.hasM.eq_1 AV.hasM.eq_2 AV.hasM.eq_3 AV.hasM.eq_4 AV.hasM.eq_5 AV.hasM.eq_6 AV.hasM.eq_7 AV.hasM.eq_8 AV.hasM.eq_9 AV.hasM.eq_10 AV.hasM.eq_11 AV.hasML.eq_1 AV.hasML.eq_2 Ob.dropM.eq_1 Ob.dropM.eq_2 Ob.dropM.eq_3 Ob.dropM.eq_4 lV.eq_1 lV.eq_2 AS.purges.eq_1 AS.purges.eq_2 Kh.eq_1 Kh.eq_2 XQ.eq_1 XQ.eq_2 vn.eq_1 vn.eq_2 FS.eq_1 FS.eq_2 FP.eq_1 FP.eq_2 dE.eq_1 dE.eq_2 dF.eq_1 dF.eq_2 AS.mvs.eq_1 AS.mvs.eq_2 AS.mvA.eq_1 AS.mvA.eq_2 AS.mvB.eq_1 MF.eq_1 MF.eq_2 js.eq_1 js.eq_2 Yi.eq_1 Gh.eq_1 Gh.eq_2 jz.eq_1 Hc.eq_1 Hc.eq_2 KN.eq_1 Hd.eq_1 Hd.eq_2 I3.eq_1 DB.eq_1 Tx.eq_1 Gj.eq_1 Gj.eq_2 Gj.eq_3 ME.eq_1 ME.eq_2 Iy.eq_1 Iy.eq_2 Ov.eq_1 pi.eq_1 pi.eq_2 pi.eq_3 xI.eq_1 EW.eq_1 EW.eq_2 Xi.eq_1 Gv.eq_1 Gv.eq_2 Gv.eq_3 iu.eq_1 iu.eq_2 iu.eq_3 RH.eq_1 RG.eq_1 RF.eq_1 Ha.eq_1 NF.eq_1 NF.eq_2 RE.eq_1 RD.eq_1 EK.eq_1 IN.eq_1 MB.eq_1 ur.eq_1 ur.eq_2 Xx.eq_1 Xx.eq_2 Xx.eq_3 Xx.eq_4 FH.eq_1 FH.eq_2 FH.eq_3 FH.eq_4 P5.eq_1 P5.eq_2 vB.eq_1 vB.eq_2 HI.eq_1 HI.eq_2 Xy.eq_1 Xy.eq_2 Xy.eq_3 Xy.eq_4 Xy.eq_5 AS.lkO.eq_1 AS.lkO.eq_2 AS.lkOf.eq_1 H1.eq_1 H1.eq_2 H1.eq_3 H1.eq_4 H1.eq_5 H1.eq_6 Bg.eq_1 Bg.eq_2 Bg.eq_3 Bg.eq_4 Bg.eq_5 Bg.eq_6 Bg.eq_7 Bg.eq_8 Bg.eq_9 Bg.eq_10 Bg.eq_11 YV.eq_1 YV.eq_2 mh.eq_1 mh.eq_2 KL.eq_1 Cz.eq_1 Cz.eq_2 FI.eq_1 FI.eq_2 FI.eq_3 FI.eq_4 P6.eq_1 P6.eq_2 vC.eq_1 vC.eq_2 Mg.eq_1 Mg.eq_2 mi.eq_1 lu lw Qj V1 Qg j9 j8 j7 Mw Qh V0 LL Qe cE Vx cD Vw cF Vy kq kp lx cH Vz um uo k9 k6 k8 k7 lr kv KI Iz di Tj F9 Sr gv gd s0 Aq B5 FS aQ aP PW drop_nil Z4 Z3 Uq Uo PV PX Un FP VC cP b6 re_eq up_eq aS ld Ob.drop w6 yK DI AS.frz splice cond_true cond_false List.map_cons List.map_nil List.drop_zero List.drop_succ_cons List.drop_nil List.take_zero List.take_succ_cons List.take_nil List.getElem?_cons_zero List.getElem?_cons_succ List.getElem?_nil List.length_cons List.length_nil Option.map_some Option.map_none Option.bind_some Option.bind_none List.cons_append List.nil_append List.append_nil Option.getD_some Option.getD_none List.all_cons List.all_nil Bool.and_true Bool.true_and Bool.or_false Bool.false_or Bool.or_true Bool.true_or List.flatten_cons List.flatten_nil List.replicate_succ List.replicate_zero and_true true_and Yo Yn O1 T3 T4 MI O7 UK UL MJ O5 O6 cw cx MR Ua UZ cR cQ WH WG V2 bm Vk QU QV Vp Vo bn QX QY Mp Mr ne_eq not_false_eq_true not_true_eq_false List.nodup_nil List.not_mem_nil false_implies implies_true eq_self true_or or_true Option.some.injEq V3 WE WA WC WD V4 WF V5 WB V9 V8 V7 V6 O4 Ux I4 Nat.le_refl Mm lm ct cr PU Qc I7 K1 LF JE Mi P8 tk tj tl tp tq tm Ms LE HF rR List.any_cons List.any_nil Yc T2 Ya Ea Mn NW Op.operands Call.operands JV jv xY T1 Se Sk List.append_eq lW lX lR lS lT kD kE kF U8 U9 VA Hl AS.mv fits KM IL Fw Np UH Yj Yk Py Pv Pw jy Oo UP lC U1 Tz MG decide_true decide_false Array.toList_append Uc Ud Ue Uf Yx O9 MM UO ML KU AS.mvJ QF cB cC bB Option.isSome_some Option.isSome_none bK Oz O0 ju jw jx YZ YW YY YX Ye ij.eq_1 XC.eq_1 XC.eq_2 Ly.eq_1 Ly.eq_2 Ly.eq_3 Ly.eq_4 vW vX T0
attribute [local go_sem] yw yx yy yz wX wY wZ wa wb wc wd we wg wh wi wj wk wl wm wn wo wq wr wt mK mL mM mN Bw co mO mP mQ mR mS mT mU DR dE dF fits AS.mvs MW Ou J8 Ul PI Oc X9 MV Ot J7 Uj PH Oa X8 OY VH ar ao UJ Yg UG OV OX S3 OU OW S2 UI Yf UF Il.eq_1 aq VF mV.eq_1 K0.eq_1 M0.eq_1 KI HP Nr Rg ZJ lp lq lP lQ Hk Tl S6 ZM Ui S7 jf ax X1 S4 Ph Tt TO TP a9 YJ XM.eq_1 Vt Pi Tu TQ ZV TR jk SH YK Jj Pf Tr TL ZS TM a8 YG XL.eq_1 Vs Pj TS TT YP XN.eq_1 Vu Pm Tv TY ZX TZ jl SI YS Jk Pb Tn TB ZO TC jg X5 XG.eq_1 Vq Km Tp TH ZQ TI ji az YC XJ.eq_1 Pa Tm S8 ZN S9 ay X4 XF.eq_1 Pg Ts ZU Uk TN jj SG Ji Pe Tq TJ ZR TK YF XK.eq_1 Vr Pk TU TV YQ XO.eq_1 Pc TD TE X6 XH.eq_1 Pd To TF ZP TG jh YB XI.eq_1 Pl TW TX YR FV.eq_1 N7
section
attribute [local go_sem] lm List.length_append List.length_nil List.map_nil List.nil_append Nat.zero_add
end
end Go.V
namespace Go.V
open Go Go.Proofs
set_option maxRecDepth 100000
set_option linter.unusedSimpArgs false
set_option linter.unusedVariables false
def nS : Ct := Ar (lc Lk.asl l0) (fun p => (p.1.length : Int) ≤ 1048576) (fun p => .o true 2 (p.1.map Bt))
section
attribute [local go_sem] NH NG lm List.nil_append List.map_nil List.map_cons List.length_cons List.length_nil
theorem f5 {G : Gt} (hG : Ah G) : Gd G 146 (AA 0 nS) := by
 refine gr (fn := Tryz.f146) (n := 1) rfl rfl hG ?_ (hs := fun _ _ => .deep _ _)
 rintro ⟨xs, ⟨⟩⟩ hpre
 dsimp only at hpre ⊢
 cases xs with
 | nil =>
   simp -implicitDefEqProofs only [Tryz.f146, go_sem, seval]
   with_reducible repeat' (first | apply ai | intro _ | ((first | apply s1 | apply s3 | apply s4) <;> intro hb <;> simp -implicitDefEqProofs only [hb, go_sem, seval] <;> try simp only [qz] at hb))
   all_goals (try simp only [maxLen, lm] at *)
   all_goals first | rfl | omega | exact of_eq_true (Jk []) | (simp; done) | skip
 | cons x xs =>
   simp only [List.length_cons] at hpre
   simp -implicitDefEqProofs only [Tryz.f146, go_sem, seval]
   with_reducible repeat' (first | apply ai | intro _ | ((first | apply s1 | apply s3 | apply s4) <;> intro hb <;> simp -implicitDefEqProofs only [hb, go_sem, seval] <;> try simp only [qz] at hb))
   all_goals (try simp only [maxLen, lm] at *)
   all_goals first | rfl | omega | exact of_eq_true (Jk (x :: xs)) | exact of_eq_true (SI (x :: xs)) _ (by assumption) | (simp; done) | skip
end
def Y4 : Ct := Ar (lc Iw.asl l0) (fun p => (p.1.length : Int) ≤ 1048576) (fun p => .o true 3 (p.1.map An))
section
attribute [local go_sem] NH NG lm List.nil_append List.map_nil List.map_cons List.length_cons List.length_nil
theorem fL {G : Gt} (hG : Ah G) : Gd G 105 (AA 0 Y4) := by
 refine gr (fn := Tryz.f105) (n := 1) rfl rfl hG ?_ (hs := fun _ _ => .deep _ _)
 rintro ⟨xs, ⟨⟩⟩ hpre
 dsimp only at hpre ⊢
 cases xs with
 | nil =>
   simp -implicitDefEqProofs only [Tryz.f105, go_sem, seval]
   with_reducible repeat' (first | apply ai | intro _ | ((first | apply s1 | apply s3 | apply s4) <;> intro hb <;> simp -implicitDefEqProofs only [hb, go_sem, seval] <;> try simp only [qz] at hb))
   all_goals (try simp only [maxLen, lm] at *)
   all_goals first | rfl | omega | exact of_eq_true (Ji []) | (simp; done) | skip
 | cons x xs =>
   simp only [List.length_cons] at hpre
   simp -implicitDefEqProofs only [Tryz.f105, go_sem, seval]
   with_reducible repeat' (first | apply ai | intro _ | ((first | apply s1 | apply s3 | apply s4) <;> intro hb <;> simp -implicitDefEqProofs only [hb, go_sem, seval] <;> try simp only [qz] at hb))
   all_goals (try simp only [maxLen, lm] at *)
   all_goals first | rfl | omega | exact of_eq_true (Ji (x :: xs)) | exact of_eq_true (SG (x :: xs)) _ (by assumption) | (simp; done) | skip
end
def Y5 : Ct := Ar (lc Jn.ag l0) (fun p => M8 p.1) (fun p => jE p.1)
section
attribute [local go_sem] lm List.map_nil List.length_nil List.nil_append Nat.zero_add
theorem fU {G : Gt} (hG : Ah G) : Gd G 117 (AA 0 Y5) := by
 refine gr (fn := Tryz.f117) (n := 1) rfl rfl hG ?_ (hs := fun _ p => K7 _)
 rintro ⟨x, ⟨⟩⟩ hpre
 simp -implicitDefEqProofs only [Tryz.f117, go_sem, seval] at hpre ⊢
 obtain ⟨_, ⟨h1, _⟩, ⟨h2, _⟩⟩ := hpre
 with_reducible repeat' (first | apply ai | intro _ | ((first | apply s1 | apply s3 | apply s4) <;> intro hb <;> simp -implicitDefEqProofs only [hb, go_sem, seval] <;> try simp only [qz] at hb))
 all_goals (try simp only [maxLen, lm, List.length_nil] at *)
 all_goals first | rfl | omega | (simp_all; done) | skip
end
def m9 : Ct := Ar (lc Jn.ag l0) (fun p => M8 p.1) (fun p => jE p.1)
section
attribute [local go_sem] eE nS lm
theorem fS {G : Gt} (hG : Ah G) (hh : G.e 35 = AA 0 eE ∧ G.e 146 = AA 0 nS) : Gd G 113 (AA 0 m9) := by
 refine gr (fn := Tryz.f113) (n := 1) rfl rfl hG ?_ (hs := fun _ p => K7 _)
 rintro ⟨x, ⟨⟩⟩ hpre
 simp -implicitDefEqProofs only [Tryz.f113, go_sem, hh, seval] at hpre ⊢
 obtain ⟨_, ⟨h1, _⟩, ⟨h2, _⟩⟩ := hpre
 with_reducible repeat' (first | apply ai | intro _ | ((first | apply s1 | apply s3 | apply s4) <;> intro hb <;> simp -implicitDefEqProofs only [hb, go_sem, hh, seval] <;> try simp only [qz] at hb))
 all_goals (try simp only [maxLen, lm] at *)
 all_goals first | rfl | omega | (simp_all; done) | skip
end
def xC : Ct := Ar (lc Gy.ag l0) (fun p => HU p.1) (fun p => jF p.1)
section
attribute [local go_sem] eE m9 d7 Y4 lm List.length_append List.length_cons List.length_nil List.map_append List.map_nil Nat.zero_add List.nil_append AS.opn AS.cls AS.nilb AS.renb AS.up Bool.not_false Bool.not_true List.set_set List.set_cons_zero List.set_cons_succ List.set_nil List.mem_singleton forall_eq
set_option maxHeartbeats 3200000 in
theorem qi {G : Gt} (hG : Ah G) (hh : G.e 35 = AA 0 eE ∧ G.e 113 = AA 0 m9 ∧ G.e 114 = AA 0 d7 ∧ G.e 105 = AA 0 Y4) : Gd G 63 (AA 0 xC) := by
 refine gr (fn := Tryz.f63) (n := 1) rfl rfl hG ?_ (hs := fun _ p => K8 _)
 rintro ⟨h, ⟨⟩⟩ hpre
 simp -implicitDefEqProofs only [Tryz.f63, go_sem, hh, seval] at hpre ⊢
 obtain ⟨zc, zs, ⟨lb, zb⟩, ⟨ll, zl⟩⟩ := hpre
 with_reducible repeat' (first | apply ai | intro _ | ((first | apply s1 | apply s3 | apply s4) <;> intro hb <;> simp -implicitDefEqProofs only [hb, go_sem, hh, seval] <;> try simp only [qz] at hb))
 all_goals first | rfl | omega | decide | skip
 refine AE [(3, 1903, true, 3)] (ι := {i : Nat // i ≤ h.boxes.length}) (fun p => ⟨[(1, .pb 1001 0), (2, .pb 1002 0), (3, .h 1903), (10, .t (.sl 3 (h.boxes.map BT))), (11, .t (.v (.int .i64 h.boxes.length))), (12, .t (.v (.int .i64 p.1)))], [(1001, some (.box ((Af h).map .t))), (1002, some (.box [.t (.v (.string ⟨#[]⟩)), .nil, .nil, .t (.v (.int .i64 0)), .nil, .nil, .nil])), (1903, some (.arr true 3 ((h.boxes.take p.1).map BT)))]⟩) (fun p => h.boxes.length - p.1) ⟨0, by simp⟩ rfl ?_ ?_
 ·simp -implicitDefEqProofs only [go_sem, hh, seval]
  try simp
 ·rintro ⟨i, hi⟩
  have hlen : (h.boxes.take i).length = i := by simp; omega
  by_cases hlt : (i : Int) < h.boxes.length
  ·skip
   have hbx := zb _ (AC (xs := h.boxes) (j := i) (by omega))
   obtain ⟨_, ⟨lm, zm⟩⟩ := hbx
   simp -implicitDefEqProofs only [hlt, decide_true, tn, go_sem, hh, seval]
   with_reducible repeat' (first | apply ai | intro _ | ((first | apply s1 | apply s3 | apply s4) <;> intro hb <;> simp -implicitDefEqProofs only [hb, go_sem, hh, seval] <;> try simp only [qz] at hb))
   all_goals (try simp only [maxLen] at *)
   all_goals first | rfl | omega | assumption | decide | skip
   refine AE [(6, 1906, true, 3)] (ι := {k : Nat // k ≤ (h.boxes.getD i default).mails.length}) (fun p => ⟨[(1, .pb 1001 0), (2, .pb 1002 0), (3, .h 1903), (5, .pb 1005 0), (6, .h 1906), (10, .t (.sl 3 (h.boxes.map BT))), (11, .t (.v (.int .i64 h.boxes.length))), (12, .t (.v (.int .i64 i))), (17, .t (.sl 3 ((h.boxes.getD i default).mails.map BU))), (18, .t (.v (.int .i64 (h.boxes.getD i default).mails.length))), (19, .t (.v (.int .i64 p.1)))], [(1001, some (.box ((Af h).map .t))), (1002, some (.box [.t (.v (.string ⟨#[]⟩)), .nil, .nil, .t (.v (.int .i64 0)), .nil, .nil, .nil])), (1903, some (.arr true 3 ((h.boxes.take i).map BT))), (1005, some (.box ((BT (h.boxes.getD i default)).map .t))), (1906, some (.arr true 3 (((h.boxes.getD i default).mails.take p.1).map BU)))]⟩) (fun p => (h.boxes.getD i default).mails.length - p.1) ⟨0, by simp⟩ rfl ?_ ?_
   ·simp -implicitDefEqProofs only [go_sem, hh, seval]
    try simp
   ·rintro ⟨k, hk⟩
    have hlen2 : ((h.boxes.getD i default).mails.take k).length = k := by rw [List.length_take]; omega
    by_cases hlt2 : (k : Int) < (h.boxes.getD i default).mails.length
    ·obtain ⟨_, ⟨lg, _⟩⟩ := zm _ (AC (xs := (h.boxes.getD i default).mails) (j := k) (by omega))
     simp -implicitDefEqProofs only [hlt2, decide_true, tn, go_sem, hh, seval]
     with_reducible repeat' (first | apply ai | intro _ | ((first | apply s1 | apply s3 | apply s4) <;> intro hb <;> simp -implicitDefEqProofs only [hb, go_sem, hh, seval] <;> try simp only [qz] at hb))
     all_goals (try simp only [maxLen] at *)
     all_goals first | rfl | omega | assumption | decide | skip
     refine ⟨⟨k + 1, by omega⟩, by dsimp only; omega, ?_⟩
     simp -implicitDefEqProofs only [go_sem, hh, seval]
     simp only [Az BU (show k < (h.boxes.getD i default).mails.length by omega)]
     with_reducible repeat' (first | apply ai | intro _ | ((first | apply s1 | apply s3 | apply s4) <;> intro hb <;> simp -implicitDefEqProofs only [hb, go_sem, hh, seval] <;> try simp only [qz] at hb))
     all_goals first | rfl | (simp; done) | skip
    ·have htk : (h.boxes.getD i default).mails.take k = (h.boxes.getD i default).mails := List.take_of_length_le (by omega)
     simp -implicitDefEqProofs only [hlt2, htk, decide_false, tn, go_sem, hh, seval]
     with_reducible repeat' (first | apply ai | intro _ | ((first | apply s1 | apply s3 | apply s4) <;> intro hb <;> simp -implicitDefEqProofs only [hb, go_sem, hh, seval] <;> try simp only [qz] at hb))
     all_goals (try simp only [maxLen] at *)
     all_goals first | rfl | omega | assumption | decide | skip
     refine ⟨⟨i + 1, by omega⟩, by dsimp only; omega, ?_⟩
     simp -implicitDefEqProofs only [go_sem, hh, seval]
     simp only [Az BT (show i < h.boxes.length by omega)]
     with_reducible repeat' (first | apply ai | intro _ | ((first | apply s1 | apply s3 | apply s4) <;> intro hb <;> simp -implicitDefEqProofs only [hb, go_sem, hh, seval] <;> try simp only [qz] at hb))
     all_goals first | rfl | (simp; done) | skip
  ·have htk : h.boxes.take i = h.boxes := List.take_of_length_le (by omega)
   simp -implicitDefEqProofs only [hlt, htk, decide_false, go_sem, hh, seval]
   with_reducible repeat' (first | apply ai | intro _ | ((first | apply s1 | apply s3 | apply s4) <;> intro hb <;> simp -implicitDefEqProofs only [hb, go_sem, hh, seval] <;> try simp only [qz] at hb))
   all_goals (try simp only [maxLen] at *)
   all_goals first | rfl | omega | assumption | decide | exact ⟨zc, zs, ⟨lb, zb⟩, ⟨ll, zl⟩⟩ | rfl | skip
end
def xD : Ct := Ar (lc Gy.ag l0) (fun p => HU p.1) (fun p => jF p.1)
section
attribute [local go_sem] Y5 Y6 lm List.length_append List.length_cons List.length_nil List.map_append List.map_nil Nat.zero_add List.nil_append AS.opn AS.cls AS.nilb AS.renb AS.up Bool.not_false Bool.not_true List.set_set List.set_cons_zero List.set_cons_succ List.set_nil List.mem_singleton forall_eq
set_option maxHeartbeats 6400000 in
theorem qj {G : Gt} (hG : Ah G) (hh : G.e 117 = AA 0 Y5 ∧ G.e 118 = AA 0 Y6) : Gd G 67 (AA 0 xD) := by
 refine OP (dp := fun n => !(Nat.beq n 100002 || Nat.beq n 100004 || Nat.beq n 100006 || Nat.beq n 100008)) (fn := Tryz.f67) (n := 1) rfl rfl hG ?_ (hs := fun _ p => K8 _)
 rintro ⟨h, ⟨⟩⟩ hpre
 simp -implicitDefEqProofs only [Tryz.f67, go_sem, hh, seval] at hpre ⊢
 obtain ⟨zc, zs, ⟨lb, zb⟩, ⟨ll, zl⟩⟩ := hpre
 with_reducible repeat' (first | apply ai | intro _ | ((first | apply s1 | apply s3 | apply s4) <;> intro hb <;> simp -implicitDefEqProofs only [hb, go_sem, hh, seval] <;> try simp only [qz] at hb))
 all_goals (try simp only [maxLen] at *)
 all_goals first | rfl | omega | assumption | decide | skip
 refine AO (Le.nilb 1003 5 1905 true 3 rfl rfl rfl) (AX ?_)
 simp -implicitDefEqProofs only [go_sem, hh, seval]
 refine AE [] (ι := {i : Nat // i ≤ h.boxes.length}) (fun p => ⟨[(1, .pb 1001 0), (2, .pb 1002 0), (3, .pb 1003 0), (4, .t (.v (.int .i64 p.1)))], [(1001, some (.box ((Af h).map .t))), (1002, some (.box [.t (.v (.string ⟨#[]⟩)), .nil, .nil, .t (.v (.int .i64 0)), .nil, .nil, .nil])), (1003, some (.box [.t (.v (.string h.conf.name)), .h 1009, .h 2009, .t (.v (.int .i64 h.spool.last)), .h 1012, .h 1905, .h 1016])), (1009, some (.arr true 1 (h.conf.own.map AH))), (2009, some (.arr true 2 (h.conf.ways.map Bt))), (1012, some (.arr true 5 (h.spool.items.map As))), (1016, some (.arr true 3 (h.lost.map An))), (1905, some (.arr true 3 ((h.boxes.take p.1).map BT)))]⟩) (fun p => h.boxes.length - p.1) ⟨0, by simp⟩ rfl ?_ ?_
 ·simp -implicitDefEqProofs only [go_sem, hh, seval]
  try simp
 ·rintro ⟨i, hi⟩
  have hlen : (h.boxes.take i).length = i := by simp; omega
  by_cases hlt : (i : Int) < h.boxes.length
  ·skip
   have hbx := zb _ (AC (xs := h.boxes) (j := i) (by omega))
   obtain ⟨_, ⟨lm, zm⟩⟩ := hbx
   simp -implicitDefEqProofs only [hlt, decide_true, tn, go_sem, hh, seval]
   with_reducible repeat' (first | apply ai | intro _ | ((first | apply s1 | apply s3 | apply s4) <;> intro hb <;> simp -implicitDefEqProofs only [hb, go_sem, hh, seval] <;> try simp only [qz] at hb))
   all_goals (try simp only [maxLen] at *)
   all_goals first | rfl | omega | assumption | decide | skip
   refine AO (Le.nilb 1005 2 1906 true 3 rfl rfl rfl) (AX ?_)
   simp -implicitDefEqProofs only [go_sem, hh, seval]
   with_reducible repeat' (first | apply ai | intro _ | ((first | apply s1 | apply s3 | apply s4) <;> intro hb <;> simp -implicitDefEqProofs only [hb, go_sem, hh, seval] <;> try simp only [qz] at hb))
   all_goals first | rfl | omega | decide | skip
   refine AE [] (ι := {k : Nat // k ≤ (h.boxes.getD i default).mails.length}) (fun p => ⟨[(1, .pb 1001 0), (2, .pb 1002 0), (3, .pb 1003 0), (4, .t (.v (.int .i64 i))), (5, .pb 1005 0), (6, .t (.v (.int .i64 p.1)))], [(1001, some (.box ((Af h).map .t))), (1002, some (.box [.t (.v (.string ⟨#[]⟩)), .nil, .nil, .t (.v (.int .i64 0)), .nil, .nil, .nil])), (1003, some (.box [.t (.v (.string h.conf.name)), .h 1009, .h 2009, .t (.v (.int .i64 h.spool.last)), .h 1012, .h 1905, .h 1016])), (1009, some (.arr true 1 (h.conf.own.map AH))), (2009, some (.arr true 2 (h.conf.ways.map Bt))), (1012, some (.arr true 5 (h.spool.items.map As))), (1016, some (.arr true 3 (h.lost.map An))), (1905, some (.arr true 3 ((h.boxes.take i).map BT))), (1005, some (.box [.t (.v (.string (h.boxes.getD i default).addr.user)), .t (.v (.string (h.boxes.getD i default).addr.domain)), .h 1906])), (1906, some (.arr true 3 (((h.boxes.getD i default).mails.take p.1).map BU)))]⟩) (fun p => (h.boxes.getD i default).mails.length - p.1) ⟨0, by simp⟩ rfl ?_ ?_
   ·simp -implicitDefEqProofs only [go_sem, hh, seval]
    try simp
   ·rintro ⟨k, hk⟩
    have hlen2 : ((h.boxes.getD i default).mails.take k).length = k := by rw [List.length_take]; omega
    by_cases hlt2 : (k : Int) < (h.boxes.getD i default).mails.length
    ·obtain ⟨_, ⟨lg, _⟩⟩ := zm _ (AC (xs := (h.boxes.getD i default).mails) (j := k) (by omega))
     simp -implicitDefEqProofs only [hlt2, decide_true, tn, go_sem, hh, seval]
     with_reducible repeat' (first | apply ai | intro _ | ((first | apply s1 | apply s3 | apply s4) <;> intro hb <;> simp -implicitDefEqProofs only [hb, go_sem, hh, seval] <;> try simp only [qz] at hb))
     all_goals (try simp only [maxLen, tn] at *)
     all_goals first | rfl | omega | assumption | decide | skip
     refine AO (Le.renb 1005 2 1069 1906 rfl rfl rfl rfl) (AX ?_)
     simp -implicitDefEqProofs only [go_sem, hh, seval]
     with_reducible repeat' (first | apply ai | intro _ | ((first | apply s1 | apply s3 | apply s4) <;> intro hb <;> simp -implicitDefEqProofs only [hb, go_sem, hh, seval] <;> try simp only [qz] at hb))
     all_goals first | rfl | omega | decide | skip
     refine ⟨⟨k + 1, by omega⟩, by dsimp only; omega, ?_⟩
     simp -implicitDefEqProofs only [go_sem, hh, seval]
     simp only [Az BU (show k < (h.boxes.getD i default).mails.length by omega)]
     with_reducible repeat' (first | apply ai | intro _ | ((first | apply s1 | apply s3 | apply s4) <;> intro hb <;> simp -implicitDefEqProofs only [hb, go_sem, hh, seval] <;> try simp only [qz] at hb))
     all_goals first | rfl | (simp; done) | skip
    ·have htk : (h.boxes.getD i default).mails.take k = (h.boxes.getD i default).mails := List.take_of_length_le (by omega)
     simp -implicitDefEqProofs only [hlt2, htk, decide_false, tn, go_sem, hh, seval]
     with_reducible repeat' (first | apply ai | intro _ | ((first | apply s1 | apply s3 | apply s4) <;> intro hb <;> simp -implicitDefEqProofs only [hb, go_sem, hh, seval] <;> try simp only [qz] at hb))
     all_goals (try simp only [maxLen] at *)
     all_goals first | rfl | omega | assumption | decide | skip
     refine AO (Le.renb 1003 5 1075 1905 rfl rfl rfl rfl) (AX ?_)
     simp -implicitDefEqProofs only [go_sem, hh, seval]
     with_reducible repeat' (first | apply ai | intro _ | ((first | apply s1 | apply s3 | apply s4) <;> intro hb <;> simp -implicitDefEqProofs only [hb, go_sem, hh, seval] <;> try simp only [qz] at hb))
     all_goals first | rfl | omega | decide | skip
     refine ⟨⟨i + 1, by omega⟩, by dsimp only; omega, ?_⟩
     simp -implicitDefEqProofs only [go_sem, hh, seval]
     simp only [Az BT (show i < h.boxes.length by omega)]
     with_reducible repeat' (first | apply ai | intro _ | ((first | apply s1 | apply s3 | apply s4) <;> intro hb <;> simp -implicitDefEqProofs only [hb, go_sem, hh, seval] <;> try simp only [qz] at hb))
     all_goals first | rfl | (simp; done) | skip
  ·have htk : h.boxes.take i = h.boxes := List.take_of_length_le (by omega)
   simp -implicitDefEqProofs only [hlt, htk, decide_false, go_sem, hh, seval]
   with_reducible repeat' (first | apply ai | intro _ | ((first | apply s1 | apply s3 | apply s4) <;> intro hb <;> simp -implicitDefEqProofs only [hb, go_sem, hh, seval] <;> try simp only [qz] at hb))
   all_goals (try simp only [maxLen] at *)
   all_goals first | rfl | omega | assumption | decide | rfl | skip
end
def nA : Ct := Ar (lc Ax l0) (fun p => p.1.size ≤ 2000000) (fun p => .t (.v (.string (Cv p.1))))
theorem fa {G : Gt} (hG : Ah G) : Gd G 123 (AA 0 nA) := by
 refine gr (fn := Tryz.f123) (n := 1) rfl rfl hG ?_
 rintro ⟨n, ⟨⟩⟩ hpre
 simp -implicitDefEqProofs only [Tryz.f123, go_sem, seval] at hpre ⊢
 with_reducible repeat' (first | apply ai | intro _ | ((first | apply s1 | apply s3 | apply s4) <;> intro hb <;> simp -implicitDefEqProofs only [hb, go_sem, seval] <;> try simp only [qz] at hb))
 all_goals (try simp only [maxLen] at *)
 all_goals first | rfl | omega | (show 5 + n.size ≤ _; omega) | skip
theorem Na {a : ByteArray} {xs : List ByteArray} : Al.decL ([.v (.string a)] :: xs.map AH) = some (a :: xs) := Al.decL_map (a :: xs)
theorem ae (n : ByteArray) : (Cv n).size = 5 + n.size := by
 have e : bl (Cv n) = [72, 111, 112, 58, 32] ++ bl n := RO _ _
 rw [← CP, e, List.length_append, CP]; rfl
section
attribute [local go_sem] Xu eF AZ AY lm Bool.not_false Bool.not_true
end
open Classical in
noncomputable def JK (h : Hs) (m : Ml) (w : Int) : Hs × Bool := if m.body.length < 12 ∧ CI h.spool then (JZ h m w, true) else (h, false)
theorem KA {h : Hs} {m : Ml} {w : Int} (q : m.body.length < 12 ∧ CI h.spool) : JK h m w = (JZ h m w, true) := if_pos q
theorem J9 {h : Hs} {m : Ml} {w : Int} (q : ¬ (m.body.length < 12 ∧ CI h.spool)) : JK h m w = (h, false) := if_neg q
def s8 : Ct := Ar (lc Gy.ag (lc dP.ag (lc BK l0))) (fun p => HU p.1 ∧ KB p.2.1 ∧ Bh p.1.spool ∧ p.1.conf.name.size ≤ 1000000) (fun p => b9 (JK p.1 p.2.1 p.2.2.1))
section
attribute [local go_sem] KY NT nA RV Ja JR List.take_length List.drop_zero List.length_take List.length_drop lm List.length_append List.length_cons List.length_nil List.map_append List.map_nil List.map_cons List.nil_append Nat.zero_add List.mem_singleton forall_eq Bool.not_true Bool.not_false Na List.cons_append b9 AS.opn AS.cls AS.nilb AS.renb AS.up List.set_set List.set_cons_zero List.set_cons_succ List.set_nil
set_option maxHeartbeats 3200000 in
theorem qo {G : Gt} (hG : Ah G) (hh : G.e 121 = AA 0 KY ∧ G.e 122 = AA 0 NT ∧ G.e 123 = AA 0 nA ∧ G.e 124 = AA 1 RV) : Gd G 70 (AA 1 s8) := by
 refine OP (dp := fun n => Nat.ble 100000 n) (fn := Tryz.f70) (n := 3) rfl rfl hG ?_
 rintro ⟨h, m, w, ⟨⟩⟩ hpre
 obtain ⟨hok, hml, hsp, hnm2⟩ := hpre
 dsimp only at hok hml hsp hnm2 ⊢
 have hml2 := hml
 obtain ⟨⟨_, _⟩, ⟨hl1, zt⟩, ⟨hl2, zb⟩⟩ := hml2
 have Ma : h.conf.name.size ≤ 2000000 := by have : h.conf.name.size ≤ 1048576 := hok.1.1; omega
 by_cases q : m.body.length < 12 ∧ CI h.spool
 ·rw [KA q]
  obtain ⟨q1, q2⟩ := q
  have b2 := Ap q2
  have q3 : ¬ (m.body.length : Int) ≥ 12 := by omega
  have hos := hok.2.1
  have hml3 : KB ⟨m.frm, m.to, Cv h.conf.name :: m.body⟩ := by
   refine ⟨hml.1, hml.2.1, ⟨by show ((Cv h.conf.name :: m.body).length : Int) ≤ _; rw [List.length_cons]; omega, fun s hs => ?_⟩⟩
   rcases List.mem_cons.1 hs with e | hs
   ·rw [e]
    have h5 := ae h.conf.name
    have h6 : h.conf.name.size ≤ 1000000 := hnm2
    show (Cv h.conf.name).size ≤ 1048576
    omega
   ·exact zb s hs
  simp -implicitDefEqProofs only [Tryz.f70, b2, q3, decide_false, go_sem, hh, seval]
  with_reducible repeat' (first | apply ai | intro _ | ((first | apply s1 | apply s3 | apply s4) <;> intro hb <;> simp -implicitDefEqProofs only [hb, go_sem, hh, seval] <;> try simp only [qz] at hb))
  all_goals (try simp only [maxLen] at *)
  all_goals first | with_reducible assumption | rfl | omega | contradiction | skip
 ·rw [J9 q]
  by_cases q1 : m.body.length < 12
  ·have b2 := AQ (fun z => q ⟨q1, z⟩)
   have q3 : ¬ (m.body.length : Int) ≥ 12 := by omega
   simp -implicitDefEqProofs only [Tryz.f70, b2, q3, decide_false, go_sem, hh, seval]
   with_reducible repeat' (first | apply ai | intro _ | ((first | apply s1 | apply s3 | apply s4) <;> intro hb <;> simp -implicitDefEqProofs only [hb, go_sem, hh, seval] <;> try simp only [qz] at hb))
   all_goals (try simp only [maxLen] at *)
   all_goals first | rfl | omega | assumption | decide | contradiction | skip
  ·have q3 : (m.body.length : Int) ≥ 12 := by omega
   simp -implicitDefEqProofs only [Tryz.f70, q3, decide_true, go_sem, hh, seval]
   with_reducible repeat' (first | apply ai | intro _ | ((first | apply s1 | apply s3 | apply s4) <;> intro hb <;> simp -implicitDefEqProofs only [hb, go_sem, hh, seval] <;> try simp only [qz] at hb))
   all_goals (try simp only [maxLen] at *)
   all_goals first | rfl | omega | assumption | decide | contradiction | skip
end
section
attribute [local go_sem] s5 xD xE JP xB s8 Ja JR List.take_length List.drop_zero List.length_take List.length_drop lm List.length_append List.length_cons List.length_nil List.map_append List.map_nil List.map_cons List.nil_append Nat.zero_add List.mem_singleton forall_eq Bool.not_true Bool.not_false b9 AZ AY AS.opn AS.cls AS.nilb AS.renb AS.up List.set_set List.set_cons_zero List.set_cons_succ List.set_nil
end
section
attribute [local go_sem] tw xC Bool.not_true Bool.not_false Bw DR AZ AY aa Na AS.opn AS.cls AS.nilb AS.renb AS.up List.set_set List.set_cons_zero List.set_cons_succ List.set_nil List.mem_singleton forall_eq lm List.map_nil
end
section
open Go.Lib
theorem NN {s : ByteArray} (h : Td s) : ¬ (64 : UInt8) ∈ bl s := fun q => by
 obtain ⟨j, hj, e⟩ := Hi q
 have := h.1 j hj
 rw [e] at this
 exact absurd this (by unfold Kr; decide)
theorem RN {s : ByteArray} (h : D9 s) : ¬ (64 : UInt8) ∈ bl s := fun q => by
 obtain ⟨h1, _⟩ := (Jl s).1 h
 rcases H5 (c := 46) q with e | ⟨w, hw, q⟩
 ·exact absurd e (by decide)
 ·exact NN (h1 _ (List.mem_map_of_mem hw)) q
theorem Iu {c : UInt8} : ∀ {l : List UInt8} (m : Nat), ¬ c ∈ l → At c m l = [l]
 | _, 0, _ => by simp [At]
 | [], m + 1, _ => by simp [At]
 | x :: r, m + 1, h => by
   simp only [List.mem_cons, not_or] at h
   rw [At, if_neg (fun e => h.1 e.symm), Iu (m + 1) h.2]
theorem GS {c : UInt8} : ∀ {u d : List UInt8} (m : Nat), ¬ c ∈ u → At c (m + 1) (u ++ c :: d) = u :: At c m d
 | [], d, m, _ => by simp [At]
 | x :: r, d, m, h => by
   simp only [List.mem_cons, not_or] at h
   rw [List.cons_append, At, if_neg (fun e => h.1 e.symm), GS m h.2]
theorem NZ {u d : List UInt8} (hu : ¬ (64 : UInt8) ∈ u) (hd : ¬ (64 : UInt8) ∈ d) : C4 (mB (u ++ 64 :: d)) 64 2 = [mB u, mB d] := by
 unfold C4
 rw [Yy, GS 1 hu, Iu 1 hd]; rfl
theorem eQ {s : ByteArray} (h : (C4 s 64 2).length = 2) : s = mB (bl ((C4 s 64 2).getD 0 default) ++ 64 :: bl ((C4 s 64 2).getD 1 default)) := by
 by_cases h1 : (64 : UInt8) ∈ bl s
 ·obtain ⟨u, r, e, hu⟩ := List.eq_append_cons_of_mem h1
  by_cases h2 : (64 : UInt8) ∈ r
  ·obtain ⟨v, t, e2, hv⟩ := List.eq_append_cons_of_mem h2
   unfold C4 at h
   rw [e, GS 1 hu, e2, GS 0 hv] at h
   simp [At] at h
  ·have : C4 s 64 2 = [mB u, mB r] := by rw [← VR s, e]; exact NZ hu h2
   rw [this]
   refine G4 ?_
   rw [e]; rfl
 ·unfold C4 at h
  rw [Iu 2 h1] at h
  cases h
theorem LG {a : Ad} (h : BS a) : bl (C2 a) = 60 :: ((bl a.user ++ 64 :: bl a.domain) ++ [62]) := by
 rw [OA (dN h)]; simp
def GZ (s : ByteArray) : Prop := ∃ a, (BS a ∨ Ac a) ∧ C2 a = s
open Classical in
noncomputable def BE (s : ByteArray) : Ad := if h : GZ s then h.choose else ⟨⟨#[]⟩, ⟨#[]⟩⟩
theorem R8 (s : ByteArray) {l : List UInt8} (h : bl s = 60 :: (l ++ [62])) : s.extract 1 (s.size - 1) = mB l := by
 refine G4 ?_
 have e : s.size = l.length + 2 := by rw [← CP, h]; simp
 rw [Dt, h, e, Yy]
 try simp
theorem bu {a b : Ad} (ha : BS a ∨ Ac a) (hb : BS b ∨ Ac b) (h : C2 a = C2 b) : a = b := by
 have key : ∀ {x y : Ad}, BS x → Ac y → C2 x = C2 y → False := fun {x y} hx hy e => by
  have := congrArg bl e
  rw [LG hx, Ip hy] at this
  have := congrArg List.length this
  have e2 : (bl (⟨#[60, 62]⟩ : ByteArray)).length = 2 := rfl
  rw [e2] at this
  simp at this
  omega
 rcases ha with ha | ha
 ·rcases hb with hb | hb
  ·have e1 := R8 (C2 a) (LG ha)
   have e2 := R8 (C2 b) (LG hb)
   rw [h, e2] at e1
   have e3 := NZ (NN ha.1) (RN ha.2)
   rw [← e1, NZ (NN hb.1) (RN hb.2)] at e3
   simp only [List.cons.injEq, and_true, VR] at e3
   obtain ⟨u, d⟩ := a
   obtain ⟨v, w⟩ := b
   rw [show v = u from e3.1, show w = d from e3.2]
  ·exact (key ha hb h).elim
 ·rcases hb with hb | hb
  ·exact (key hb ha h.symm).elim
  ·obtain ⟨u, d⟩ := a
   obtain ⟨v, w⟩ := b
   rw [show u = _ from ha.1, show d = _ from ha.2, show v = _ from hb.1, show w = _ from hb.2]
theorem Uz {s : ByteArray} {a : Ad} (ha : BS a ∨ Ac a) (h : C2 a = s) : GZ s ∧ BE s = a := by
 have hr : GZ s := ⟨a, ha, h⟩
 refine ⟨hr, ?_⟩
 unfold BE
 rw [dif_pos hr]
 exact bu hr.choose_spec.1 ha (hr.choose_spec.2.trans h.symm)
theorem Nl {s : ByteArray} (h : ¬ GZ s) : BE s = ⟨⟨#[]⟩, ⟨#[]⟩⟩ := dif_neg h
theorem Jx {s : ByteArray} (h : GZ s) : (BS (BE s) ∨ Ac (BE s)) ∧ C2 (BE s) = s := by
 unfold BE
 rw [dif_pos h]
 exact h.choose_spec
theorem OE : GZ ⟨#[60, 62]⟩ ∧ BE ⟨#[60, 62]⟩ = ⟨⟨#[]⟩, ⟨#[]⟩⟩ := Uz (.inr ⟨rfl, rfl⟩) (Ip ⟨rfl, rfl⟩)
theorem r8 {s : ByteArray} (h : GZ s) (h0 : ¬ s = ⟨#[60, 62]⟩) : 2 ≤ s.size ∧ AF s 0 = 60 ∧ AF s (s.size - 1) = 62 ∧ C4 (s.extract 1 (s.size - 1)) 64 2 = [(BE s).user, (BE s).domain] ∧ BS (BE s) := by
 obtain ⟨h1, h2⟩ := Jx h
 have hk := h1.resolve_right fun q => h0 (by rw [← h2, Ip q])
 have hb := LG hk
 rw [h2] at hb
 have hs : s.size = ((bl (BE s).user ++ 64 :: bl (BE s).domain)).length + 2 := by rw [← CP, hb]; simp; omega
 refine ⟨by omega, ?_, ?_, ?_, hk⟩
 ·rw [CJ, hb]; rfl
 ·rw [CJ, hb, hs]
  simp only [List.getD_eq_getElem?_getD]
  rw [show ∀ n : Nat, n + 2 - 1 = n + 1 from fun n => rfl, List.getElem?_cons_succ, List.getElem?_append_right (Nat.le_refl _), Nat.sub_self]
  rfl
 ·rw [R8 s hb, NZ (NN hk.1) (RN hk.2)]; rfl
theorem mo {s : ByteArray} (h : 2 ≤ s.size) (h1 : AF s 0 = 60) (h2 : AF s (s.size - 1) = 62) : bl s = 60 :: (bl (s.extract 1 (s.size - 1)) ++ [62]) := by
 have e1 : (bl s).getD 0 0 = 60 := (GH (c := 60)).1 h1
 have e2 : (bl s).getD (s.size - 1) 0 = 62 := (GH (c := 62)).1 h2
 have d0 := GL (s := s) (i := 0) (by omega)
 have d1 := GL (s := s) (i := s.size - 1) (by omega)
 rw [e1] at d0
 rw [e2] at d1
 have e3 : (bl s).drop (s.size - 1 + 1) = [] := List.drop_of_length_le (by rw [CP]; omega)
 rw [e3] at d1
 rw [Dt]
 have : (bl s).drop 1 = ((bl s).drop 1).take (s.size - 1 - 1) ++ ((bl s).drop 1).drop (s.size - 1 - 1) := (List.take_append_drop _ _).symm
 rw [List.drop_drop, show 1 + (s.size - 1 - 1) = s.size - 1 by omega, d1] at this
 rw [← this]
 exact d0
theorem b4 {s : ByteArray} (h : 2 ≤ s.size) (h1 : AF s 0 = 60) (h2 : AF s (s.size - 1) = 62) (h3 : (C4 (s.extract 1 (s.size - 1)) 64 2).length = 2)
    (h4 : BS ⟨(C4 (s.extract 1 (s.size - 1)) 64 2).getD 0 default, (C4 (s.extract 1 (s.size - 1)) 64 2).getD 1 default⟩) :
    GZ s ∧ BE s = ⟨(C4 (s.extract 1 (s.size - 1)) 64 2).getD 0 default, (C4 (s.extract 1 (s.size - 1)) 64 2).getD 1 default⟩ := by
 refine Uz (.inl h4) (G4 ?_)
 rw [LG h4, mo h h1 h2]
 have := congrArg bl (eQ h3)
 rw [this]; rfl
theorem b5 {s : ByteArray} (h0 : ¬ s = ⟨#[60, 62]⟩) (h : (s.size : Int) < 2 ∨ ¬ AF s 0 = 60 ∨ ¬ AF s (s.size - 1) = 62 ∨ ¬ ((C4 (s.extract 1 (s.size - 1)) 64 2).length : Int) = 2 ∨
    ¬ BS ⟨(C4 (s.extract 1 (s.size - 1)) 64 2).getD 0 default, (C4 (s.extract 1 (s.size - 1)) 64 2).getD 1 default⟩) : ¬ GZ s := fun q => by
 obtain ⟨h1, h2, h3, h4, h5⟩ := r8 q h0
 rw [h4] at h
 rcases h with h | h | h | h | h
 ·omega
 ·exact h h2
 ·exact h h3
 ·exact h rfl
 ·exact h h5
theorem zM : (0 : Int).toNat = 0 := rfl
theorem zN : (1 : Int).toNat = 1 := rfl
theorem zO : (2 : Int).toNat = 2 := rfl
theorem u64 : UInt8.ofNat (64 : Int).toNat = 64 := rfl
theorem zP (n : Nat) : ((n : Int) - 1).toNat = n - 1 := by omega
end
noncomputable def yT (s : ByteArray) : AV := .tup [.agg [.t (.v (.string (BE s).user)), .t (.v (.string (BE s).domain))], .t (.v (.bool (BW (GZ s))))]
theorem Si (s : ByteArray) : yT s = .tup [.agg [.t (.v (.string (BE s).user)), .t (.v (.string (BE s).domain))], .t (.v (.bool (BW (GZ s))))] := rfl
theorem gU {s : ByteArray} {a : Ad} (h : GZ s ∧ BE s = a) : T.v (.string a.user) = T.v (.string (BE s).user) := by rw [h.2]
theorem gD {s : ByteArray} {a : Ad} (h : GZ s ∧ BE s = a) : T.v (.string a.domain) = T.v (.string (BE s).domain) := by rw [h.2]
theorem gT {s : ByteArray} {a : Ad} (h : GZ s ∧ BE s = a) : T.v (.bool true) = T.v (.bool (BW (GZ s))) := by rw [Ap h.1]
theorem zD {s : ByteArray} (h : ¬ GZ s) : T.v (.string ⟨#[]⟩) = T.v (.string (BE s).user) := by rw [Nl h]
theorem zC {s : ByteArray} (h : ¬ GZ s) : T.v (.string ⟨#[]⟩) = T.v (.string (BE s).domain) := by rw [Nl h]
theorem gF {s : ByteArray} (h : ¬ GZ s) : T.v (.bool false) = T.v (.bool (BW (GZ s))) := by rw [AQ h]
theorem Xc (s : ByteArray) : BY (yT s) := .tup _ fun c hc => by
 simp only [List.mem_cons, List.not_mem_nil, or_false] at hc
 rcases hc with rfl | rfl
 ·refine .agg _ fun c hc => ?_
  simp only [List.mem_cons, List.not_mem_nil, or_false] at hc
  rcases hc with rfl | rfl <;> exact .v _
 ·exact .v _
def Ra : Ct := Ar (lc DY.ag l0) (fun p => p.1.user.size ≤ 2000000 ∧ p.1.domain.size ≤ 2000000) (fun p => .t (.v (.string (C2 p.1))))
section
attribute [local go_sem] IV
theorem iF {G : Gt} (hG : Ah G) (hh : G.e 119 = AA 0 IV) : Gd G 209 (AA 0 Ra) := by
 refine gr (fn := Tryz.f209) (n := 1) rfl rfl hG ?_
 rintro ⟨a, ⟨⟩⟩ hpre
 simp -implicitDefEqProofs only [Tryz.f209, go_sem, hh, seval] at hpre ⊢
 obtain ⟨h1, h2⟩ := hpre
 have e1 : (#[60] : Array UInt8).size = 1 := rfl
 have e2 : (#[64] : Array UInt8).size = 1 := rfl
 have e3 : (#[62] : Array UInt8).size = 1 := rfl
 with_reducible repeat' (first | apply ai | intro _ | ((first | apply s1 | apply s3 | apply s4) <;> intro hb <;> simp -implicitDefEqProofs only [hb, go_sem, hh, seval] <;> try simp only [qz] at hb))
 all_goals (try simp only [maxLen] at *)
 all_goals first
  | rfl
  | omega
  | (rw [Ip (by assumption)]; done)
  | (rw [Sg hb]; done)
  | skip
end
def ZD : Ct := Ar (lc Ax l0) (fun p => p.1.size ≤ 2000000) (fun p => yT p.1)
section
attribute [local go_sem] t8 IU AZ AY AT lm Si
set_option maxHeartbeats 2000000 in
theorem iW {G : Gt} (hG : Ah G) (hh : G.e 88 = AA 0 t8 ∧ G.e 106 = AA 0 IU) : Gd G 226 (AA 0 ZD) := by
 refine gr (fn := Tryz.f226) (n := 1) rfl rfl hG ?_ (hs := fun _ _ => Xc _)
 rintro ⟨s, ⟨⟩⟩ hpre
 simp -implicitDefEqProofs only [Tryz.f226, go_sem, hh, seval] at hpre ⊢
 with_reducible repeat' (first | apply ai | intro _ | ((first | apply s1 | apply s3 | apply s4) <;> intro hb <;> simp -implicitDefEqProofs only [hb, go_sem, hh, seval] <;> try simp only [qz] at hb))
 all_goals (try simp only [maxLen, u64, zM, zN, zO, zP, tn] at *)
 all_goals first
  | with_reducible rfl
  | omega
  | decide
  | (show Aa _ = true; rfl)
  | with_reducible assumption
  | with_reducible exact zD (b5 (by with_reducible assumption) (by first | exact .inl (by with_reducible assumption) | exact .inr (.inl (by with_reducible assumption)) | exact .inr (.inr (.inl (by with_reducible assumption))) | exact .inr (.inr (.inr (.inl (by with_reducible assumption)))) | exact .inr (.inr (.inr (.inr (by with_reducible assumption))))))
  | with_reducible exact zC (b5 (by with_reducible assumption) (by first | exact .inl (by with_reducible assumption) | exact .inr (.inl (by with_reducible assumption)) | exact .inr (.inr (.inl (by with_reducible assumption))) | exact .inr (.inr (.inr (.inl (by with_reducible assumption)))) | exact .inr (.inr (.inr (.inr (by with_reducible assumption))))))
  | with_reducible exact gF (b5 (by with_reducible assumption) (by first | exact .inl (by with_reducible assumption) | exact .inr (.inl (by with_reducible assumption)) | exact .inr (.inr (.inl (by with_reducible assumption))) | exact .inr (.inr (.inr (.inl (by with_reducible assumption)))) | exact .inr (.inr (.inr (.inr (by with_reducible assumption))))))
  | with_reducible exact gU (b4 (by omega) (by with_reducible assumption) (by with_reducible assumption) (by omega) (by with_reducible assumption))
  | with_reducible exact gD (b4 (by omega) (by with_reducible assumption) (by with_reducible assumption) (by omega) (by with_reducible assumption))
  | with_reducible exact gT (b4 (by omega) (by with_reducible assumption) (by with_reducible assumption) (by omega) (by with_reducible assumption))
  | (subst hb; with_reducible exact gU OE)
  | (subst hb; with_reducible exact gD OE)
  | (subst hb; with_reducible exact gT OE)
  | skip
end
def rN : ByteArray := ⟨#[72, 111, 112, 58, 32]⟩
def YE (s : ByteArray) : Prop := sr s rN ∧ D9 (s.extract 5 s.size)
theorem mZ {s : ByteArray} (h : D9 s) : ¬ s.size = 0 := fun q => by
 rw [l3 q] at h
 have := (h.1 ⟨#[]⟩ (by simp [C4, At, bl, mB])).2.1
 exact absurd this (by decide)
theorem tK {s : ByteArray} : YE s ↔ 5 < s.size ∧ s.extract 0 5 = rN ∧ D9 (s.extract 5 s.size) := by
 have e : rN.size = 5 := rfl
 unfold YE sr
 rw [e]
 constructor
 ·rintro ⟨⟨h1, h2⟩, h3⟩
  refine ⟨?_, h2, h3⟩
  have := mZ h3
  rw [ByteArray.size_extract] at this
  omega
 ·rintro ⟨h1, h2, h3⟩
  exact ⟨⟨by omega, h2⟩, h3⟩
noncomputable def EC : List ByteArray → Nat
 | [] => 0
 | x :: r => bif BW (YE x) then EC r + 1 else 0
theorem ac {xs : List ByteArray} {i : Nat} (h : i < xs.length) (ha : YE (xs.getD i default)) : EC (xs.drop i) = EC (xs.drop (i + 1)) + 1 := by
 rw [AW h, EC, Ap ha]; rfl
theorem iX {xs : List ByteArray} {i : Nat} (h : i < xs.length) (ha : ¬ YE (xs.getD i default)) : EC (xs.drop i) = 0 := by
 rw [AW h, EC, AQ ha]; rfl
theorem ab {xs : List ByteArray} {i : Nat} (h : xs.length ≤ i) : EC (xs.drop i) = 0 := by
 rw [List.drop_eq_nil_of_le h, EC]
abbrev zF : ByteArray := ⟨#[110, 111, 116, 32, 100, 101, 108, 105, 118, 101, 114, 101, 100, 58]⟩
def xU (xs : List ByteArray) : Prop := EC xs + 1 < xs.length ∧ xs.getD (EC xs) default = zF
def xT (xs : List ByteArray) : Prop := xU xs ∧ GZ (xs.getD (EC xs + 1) default) ∧ ¬ Ac (BE (xs.getD (EC xs + 1) default))
open Classical in
noncomputable def wz (xs : List ByteArray) : ByteArray := if xT xs then xs.getD (EC xs + 1) default else ⟨#[]⟩
theorem sk {xs : List ByteArray} (h : xT xs) : wz xs = xs.getD (EC xs + 1) default := if_pos h
theorem hW {xs : List ByteArray} (h : xT xs) : T.v (.string (xs.getD (EC xs + 1) default)) = T.v (.string (wz xs)) := by rw [sk h]
def oW : Ct := Ar (lc Al.asl l0) (fun p => True) (fun p => .t (.v (.int .i64 (EC p.1))))
section
attribute [local go_sem] dA lm AZ AY
theorem iV {G : Gt} (hG : Ah G) (hh : G.e 40 = AA 0 dA) : Gd G 225 (AA 0 oW) := by
 refine gr (fn := Tryz.f225) (n := 1) rfl rfl hG ?_
 rintro ⟨xs, ⟨⟩⟩ hpre
 simp -implicitDefEqProofs only [Tryz.f225, go_sem, hh, seval] at hpre ⊢
 refine AE [] (ι := {i : Nat // i ≤ xs.length ∧ EC xs = i + EC (xs.drop i)}) (fun p => ⟨[(0, .t (.sl 1 (xs.map AH))), (3, .t (.v (.int .i64 p.1)))], []⟩) (fun p => xs.length - p.1) ⟨0, by simp, by simp⟩ rfl ?_ ?_
 ·simp -implicitDefEqProofs only [go_sem, hh, seval]
  try simp
 ·rintro ⟨i, hi, hix⟩
  by_cases hlt : (i : Int) < xs.length
  ·simp -implicitDefEqProofs only [hlt, decide_true, tn, go_sem, hh, seval]
   with_reducible repeat' (first | apply ai | intro _ | ((first | apply s1 | apply s3 | apply s4) <;> intro hb <;> simp -implicitDefEqProofs only [hb, go_sem, hh, seval] <;> try simp only [qz] at hb))
   all_goals (try simp only [maxLen, tn] at *)
   all_goals first
    | rfl
    | omega
    | (rw [hix, iX (by omega) (fun h => by have h := tK.1 h; first | exact absurd h.2.2 (by assumption) | exact absurd h.2.1 (by assumption) | omega)]; simp; done)
    | (refine ⟨⟨i + 1, by omega, by rw [hix, ac (by omega) (tK.2 ⟨by omega, by assumption, by assumption⟩)]; omega⟩, by dsimp only; omega, ?_⟩
       simp -implicitDefEqProofs only [go_sem, hh, seval]
       try simp
       done)
    | skip
  ·simp -implicitDefEqProofs only [hlt, decide_false, go_sem, hh, seval]
   with_reducible repeat' (first | apply ai | intro _ | ((first | apply s1 | apply s3 | apply s4) <;> intro hb <;> simp -implicitDefEqProofs only [hb, go_sem, hh, seval] <;> try simp only [qz] at hb))
   all_goals first | rfl | omega | (rw [hix, ab (by omega)]; simp; done) | skip
end
theorem Yz {x : Im} {a : Ad} (h : Be x.body = ⟨#[]⟩) : Bm x a = ⟨⟨⟨#[]⟩, ⟨#[]⟩⟩, [x.frm], [xJ, C2 a]⟩ := by unfold Bm; rw [if_pos h]
theorem Y0 {x : Im} {a : Ad} (h : ¬ Be x.body = ⟨#[]⟩) : Bm x a = ⟨⟨⟨#[]⟩, ⟨#[]⟩⟩, [x.frm], [xJ, C2 a, Be x.body]⟩ := by unfold Bm; rw [if_neg h]
theorem RP {x : Im} {a : Ad} : (Bm x a).body.length ≤ 3 := by
 unfold Bm
 split <;> simp
theorem PB {x : Im} {a : Ad} (hox : GX x) (ha : BS a) : KB (Bm x a) := by
 refine ⟨⟨by show 0 ≤ 1048576; decide, by show 0 ≤ 1048576; decide⟩, ⟨by show ((1 : Nat) : Int) ≤ 1048576; decide, fun b hb => by rw [List.mem_singleton.1 hb]; exact hox.1⟩, ⟨by have := RP (x := x) (a := a); omega, fun s hs => ?_⟩⟩
 unfold Bm at hs
 rcases List.mem_cons.1 hs with e | hs
 ·rw [e]; show 14 ≤ 1048576; decide
 ·rcases List.mem_cons.1 hs with e | hs
  ·rw [e]
   have := (Qd (.inl ha)).2
   show (C2 a).size ≤ 1048576
   omega
  ·split at hs
   ·cases hs
   ·rename_i q
    rw [List.mem_singleton.1 hs]
    exact hox.2.2.2 _ ((Fv x.body).resolve_left q)
theorem VM {α : Type} {xs : List α} {i j : Nat} {y : α} (h : y ∈ xs.take i ++ xs.drop j) : y ∈ xs := by
 rcases List.mem_append.1 h with h | h
 ·exact List.mem_of_mem_take h
 ·exact List.mem_of_mem_drop h
theorem M9 {α : Type} {p : α → Prop} {xs ys : List α} (h : HN p xs) (hl : ys.length ≤ xs.length) (hs : ∀ y ∈ ys, p y) : HN p ys := ⟨by have := h.1; omega, hs⟩
theorem Um {s : Sp} {i k : Nat} (h : E7 s) (hi : i < s.items.length) : E7 (DO s i k) := by
 have h' : HN GX s.items := h
 show HN GX (Xw s.items i k)
 have hx := h'.at hi
 have hx2 : GX (Ib (s.items.getD i default) k) := ⟨hx.1, M9 hx.2.1 (by simp [Ib]; omega) (fun y hy => hx.2.1.2 y (VM hy)), hx.2.2⟩
 unfold Xw
 split
 ·exact M9 h' (by simp; omega) fun y hy => h'.2 y (VM hy)
 ·refine M9 h' (by simp; omega) fun y hy => ?_
  rcases List.mem_append.1 hy with hy | hy
  ·exact h'.2 y (List.mem_of_mem_take hy)
  ·rcases List.mem_cons.1 hy with e | hy
   ·rw [e]; exact hx2
   ·exact h'.2 y (List.mem_of_mem_drop hy)
def oO : Ct := Ar (lc J6.ag (lc DY.ag l0)) (fun p => p.2.1.user.size ≤ 2000000 ∧ p.2.1.domain.size ≤ 2000000) (fun p => SY (Bm p.1 p.2.1))
section
attribute [local go_sem] Ra NR lm List.length_append List.length_cons List.length_nil List.map_append List.map_nil Nat.zero_add List.nil_append AS.opn AS.cls AS.nilb AS.renb AS.up Bool.not_false Bool.not_true List.set_set List.set_cons_zero List.set_cons_succ List.set_nil List.mem_singleton forall_eq
set_option maxHeartbeats 800000 in
theorem iN {G : Gt} (hG : Ah G) (hh : G.e 209 = AA 0 Ra ∧ G.e 107 = AA 0 NR) : Gd G 217 (AA 0 oO) := by
 refine gr (fn := Tryz.f217) (n := 2) rfl rfl hG ?_ (hs := fun _ p => K9 _)
 rintro ⟨x, a, ⟨⟩⟩ hpre
 obtain ⟨h1, h2'⟩ := hpre
 dsimp only at h1 h2' ⊢
 by_cases hm : Be x.body = ⟨#[]⟩
 ·rw [Yz hm]
  have dm := decide_eq_true hm
  simp -implicitDefEqProofs only [Tryz.f217, dm, go_sem, hh, seval]
  with_reducible repeat' (first | apply ai | intro _ | ((first | apply s1 | apply s3 | apply s4) <;> intro hb <;> simp -implicitDefEqProofs only [hb, go_sem, hh, seval] <;> try simp only [qz] at hb))
  all_goals (try simp only [maxLen] at *)
  all_goals first | with_reducible assumption | rfl | omega | contradiction | decide | (simp; done) | skip
 ·rw [Y0 hm]
  have dm := decide_eq_false hm
  simp -implicitDefEqProofs only [Tryz.f217, dm, go_sem, hh, seval]
  with_reducible repeat' (first | apply ai | intro _ | ((first | apply s1 | apply s3 | apply s4) <;> intro hb <;> simp -implicitDefEqProofs only [hb, go_sem, hh, seval] <;> try simp only [qz] at hb))
  all_goals (try simp only [maxLen] at *)
  all_goals first | with_reducible assumption | rfl | omega | contradiction | decide | (simp; done) | skip
end
def oE : Ct := Ar (lc Gy.ag (lc BK (lc BK (lc BK l0)))) (fun p => HU p.1 ∧ Bh p.1.spool ∧ (0 ≤ p.2.1 ∧ p.2.1 < p.1.spool.items.length) ∧ (0 ≤ p.2.2.1 ∧ p.2.2.1 < (p.1.spool.items.getD p.2.1.toNat default).to.length)) (fun p => .agg ((Af (HE p.1 (p.1.spool.items.getD p.2.1.toNat default) ((p.1.spool.items.getD p.2.1.toNat default).to.getD p.2.2.1.toNat default).addr p.2.1.toNat p.2.2.1.toNat p.2.2.2.1)).map .t))
section
attribute [local go_sem] RY IV KY NR oO RV Ja JR List.take_length List.drop_zero List.length_take List.length_drop lm List.length_append List.length_cons List.length_nil List.map_append List.map_nil List.map_cons List.nil_append Nat.zero_add List.mem_singleton forall_eq Bool.not_true Bool.not_false AZ AY AS.opn AS.cls AS.nilb AS.renb AS.up List.set_set List.set_cons_zero List.set_cons_succ List.set_nil
set_option maxHeartbeats 3200000 in
theorem iA {G : Gt} (hG : Ah G) (hh : G.e 166 = AA 1 RY ∧ G.e 119 = AA 0 IV ∧ G.e 121 = AA 0 KY ∧ G.e 107 = AA 0 NR ∧ G.e 217 = AA 0 oO ∧ G.e 124 = AA 1 RV) : Gd G 202 (AA 1 oE) := by
 refine OP (dp := fun n => Nat.ble 100000 n) (fn := Tryz.f202) (n := 4) rfl rfl hG ?_
 rintro ⟨h, i, k, w, ⟨⟩⟩ hpre
 obtain ⟨hok, hsp, ⟨hi0, hi1⟩, ⟨hk0, hk1⟩⟩ := hpre
 dsimp only at hok hsp hi0 hi1 hk0 hk1 ⊢
 obtain ⟨ni, rfl⟩ := Int.eq_ofNat_of_zero_le hi0
 obtain ⟨nk, rfl⟩ := Int.eq_ofNat_of_zero_le hk0
 simp only [tn] at *
 have hi2 : ni < h.spool.items.length := by omega
 have hk2 : nk < (h.spool.items.getD ni default).to.length := by omega
 have hsd := Ep hsp hi2 hk2
 have hos := hok.2.1
 have hod := Um (k := nk) hos hi2
 have hll := hok.2.2.2.1
 have hx := hsp.1 _ (AC hi2)
 have hox := hos.2 _ (AC hi2)
 have hoa := hox.2.1.2 _ (AC hk2)
 have hau : ((h.spool.items.getD ni default).to.getD nk default).addr.user.size ≤ 2000000 := by have : ((h.spool.items.getD ni default).to.getD nk default).addr.user.size ≤ 1048576 := hoa.1; omega
 have had : ((h.spool.items.getD ni default).to.getD nk default).addr.domain.size ≤ 2000000 := by have : ((h.spool.items.getD ni default).to.getD nk default).addr.domain.size ≤ 1048576 := hoa.2; omega
 have hob : KB (Bm (h.spool.items.getD ni default) ((h.spool.items.getD ni default).to.getD nk default).addr) := PB hox (hx.1.1 _ (AC hk2)).1
 by_cases q : Ac (h.spool.items.getD ni default).frm ∨ ¬ CI (DO h.spool ni nk)
 ·rw [aU q]
  by_cases q1 : Ac (h.spool.items.getD ni default).frm
  ·have b1 := Ap q1
   simp -implicitDefEqProofs only [Tryz.f202, b1, tn, go_sem, hh, seval]
   with_reducible repeat' (first | apply ai | intro _ | ((first | apply s1 | apply s3 | apply s4) <;> intro hb <;> simp -implicitDefEqProofs only [hb, go_sem, hh, seval] <;> try simp only [qz] at hb))
   all_goals (try simp only [maxLen] at *)
   all_goals first | with_reducible assumption | rfl | omega | contradiction | decide | (simp; done) | skip
  ·have b1 := AQ q1
   have b2 := AQ (q.resolve_left q1)
   simp -implicitDefEqProofs only [Tryz.f202, b1, b2, tn, go_sem, hh, seval]
   with_reducible repeat' (first | apply ai | intro _ | ((first | apply s1 | apply s3 | apply s4) <;> intro hb <;> simp -implicitDefEqProofs only [hb, go_sem, hh, seval] <;> try simp only [qz] at hb))
   all_goals (try simp only [maxLen] at *)
   all_goals first | with_reducible assumption | rfl | omega | contradiction | decide | (simp; done) | skip
 ·rw [aT q]
  have q1 : ¬ Ac (h.spool.items.getD ni default).frm := fun z => q (.inl z)
  have q2 : CI (DO h.spool ni nk) := Classical.byContradiction fun z => q (.inr z)
  have b1 := AQ q1
  have b2 := Ap q2
  simp -implicitDefEqProofs only [Tryz.f202, b1, b2, tn, go_sem, hh, seval]
  with_reducible repeat' (first | apply ai | intro _ | ((first | apply s1 | apply s3 | apply s4) <;> intro hb <;> simp -implicitDefEqProofs only [hb, go_sem, hh, seval] <;> try simp only [qz] at hb))
  all_goals (try simp only [maxLen] at *)
  all_goals first | with_reducible assumption | rfl | omega | contradiction | decide | skip
end
def RZ : Ct := Ar (lc Gy.ag (lc BK (lc DY.ag (lc BK (lc BK l0))))) (fun p => E7 p.1.spool ∧ Bh p.1.spool ∧ ¬ A8 p.1.spool p.2.1 < 0 ∧ ¬ B6 (A2 p.1.spool p.2.1) p.2.2.1 < 0 ∧ (p.2.2.2.1 = 2 ∨ (HU p.1 ∧ 0 ≤ p.2.2.2.2.1 ∧ p.2.2.2.2.1 ≤ 9999))) (fun p => .agg ((Af (CV p.1 (A8 p.1.spool p.2.1).toNat (B6 (A2 p.1.spool p.2.1) p.2.2.1).toNat p.2.2.1 p.2.2.2.1 p.2.2.2.2.1)).map .t))
section
attribute [local go_sem] kA oD RY Y9 oE Ja JR List.take_length List.drop_zero List.length_take List.length_drop lm List.length_append List.length_cons List.length_nil List.map_append List.map_nil List.map_cons List.nil_append Nat.zero_add List.mem_singleton forall_eq Bool.not_true Bool.not_false jI AS.opn AS.cls AS.nilb AS.renb AS.up List.set_set List.set_cons_zero List.set_cons_succ List.set_nil
set_option maxHeartbeats 3200000 in
theorem gj {G : Gt} (hG : Ah G) (hh : G.e 38 = AA 0 kA ∧ G.e 201 = AA 0 oD ∧ G.e 166 = AA 1 RY ∧ G.e 167 = AA 1 Y9 ∧ G.e 202 = AA 1 oE) : Gd G 187 (AA 1 RZ) := by
 refine OP (dp := fun n => Nat.ble 100000 n) (fn := Tryz.f187) (n := 5) rfl rfl hG ?_
 rintro ⟨h, n, a, out, w, ⟨⟩⟩ hpre
 obtain ⟨hos, hsp, hi, hk, hw'⟩ := hpre
 dsimp only at hos hsp hi hk hw' ⊢
 have hi' : ¬ (BM (fun x : Im => x.id = n) 0 h.spool.items) < 0 := hi
 obtain ⟨i0, i1⟩ := CX hi
 have i0' : 0 ≤ (BM (fun x : Im => x.id = n) 0 h.spool.items) := i0
 have i1' : (BM (fun x : Im => x.id = n) 0 h.spool.items) < h.spool.items.length := i1
 have hk' : ¬ (BM (fun r : Rc => r.addr = a) 0 (h.spool.items.getD (BM (fun x : Im => x.id = n) 0 h.spool.items).toNat default).to) < 0 := hk
 obtain ⟨k0, k1⟩ := Hf hk
 have k0' : 0 ≤ (BM (fun r : Rc => r.addr = a) 0 (h.spool.items.getD (BM (fun x : Im => x.id = n) 0 h.spool.items).toNat default).to) := k0
 have k1' : (BM (fun r : Rc => r.addr = a) 0 (h.spool.items.getD (BM (fun x : Im => x.id = n) 0 h.spool.items).toNat default).to) < (h.spool.items.getD (BM (fun x : Im => x.id = n) 0 h.spool.items).toNat default).to.length := k1
 have hadr : ((h.spool.items.getD (BM (fun x : Im => x.id = n) 0 h.spool.items).toNat default).to.getD (BM (fun r : Rc => r.addr = a) 0 (h.spool.items.getD (BM (fun x : Im => x.id = n) 0 h.spool.items).toNat default).to).toNat default).addr = a := GE hk
 obtain ⟨R, hR⟩ : ∃ x, x = CV h (A8 h.spool n).toNat (B6 (A2 h.spool n) a).toNat a out w := ⟨_, rfl⟩
 rw [← hR]
 by_cases o2 : out = 2
 ·have hR2 : R = ⟨h.conf, DO h.spool (BM (fun x : Im => x.id = n) 0 h.spool.items).toNat (BM (fun r : Rc => r.addr = a) 0 (h.spool.items.getD (BM (fun x : Im => x.id = n) 0 h.spool.items).toNat default).to).toNat, h.boxes, h.lost⟩ := by rw [hR]; unfold CV; rw [if_pos o2]; rfl
  rw [hR2]
  have d2 := decide_eq_true o2
  simp -implicitDefEqProofs only [Tryz.f187, d2, go_sem, hh, seval]
  with_reducible repeat' (first | apply ai | intro _ | ((first | apply s1 | apply s3 | apply s4) <;> intro hb <;> simp -implicitDefEqProofs only [hb, go_sem, hh, seval] <;> try simp only [qz] at hb))
  all_goals first | with_reducible assumption | rfl | omega | contradiction | decide | skip
 ·have d2 := decide_eq_false o2
  obtain ⟨hok, hw⟩ := hw'.resolve_left o2
  by_cases o3 : out = 3
  ·have d3 := decide_eq_true o3
   by_cases hl : Ns ((h.spool.items.getD (BM (fun x : Im => x.id = n) 0 h.spool.items).toNat default).to.getD (BM (fun r : Rc => r.addr = a) 0 (h.spool.items.getD (BM (fun x : Im => x.id = n) 0 h.spool.items).toNat default).to).toNat default) w
   ·have hR2 : R = HE h (h.spool.items.getD (BM (fun x : Im => x.id = n) 0 h.spool.items).toNat default) ((h.spool.items.getD (BM (fun x : Im => x.id = n) 0 h.spool.items).toNat default).to.getD (BM (fun r : Rc => r.addr = a) 0 (h.spool.items.getD (BM (fun x : Im => x.id = n) 0 h.spool.items).toNat default).to).toNat default).addr (BM (fun x : Im => x.id = n) 0 h.spool.items).toNat (BM (fun r : Rc => r.addr = a) 0 (h.spool.items.getD (BM (fun x : Im => x.id = n) 0 h.spool.items).toNat default).to).toNat w := by
      rw [hR, hadr]; unfold CV
      rw [if_neg o2, if_neg (fun z => z.2 hl)]; rfl
    have hS : KD h.spool (BM (fun x : Im => x.id = n) 0 h.spool.items).toNat (BM (fun r : Rc => r.addr = a) 0 (h.spool.items.getD (BM (fun x : Im => x.id = n) 0 h.spool.items).toNat default).to).toNat w = (h.spool, false) := by unfold KD; rw [if_pos hl]
    rw [hR2]
    simp -implicitDefEqProofs only [Tryz.f187, d2, d3, hS, go_sem, hh, seval]
    with_reducible repeat' (first | apply ai | intro _ | ((first | apply s1 | apply s3 | apply s4) <;> intro hb <;> simp -implicitDefEqProofs only [hb, go_sem, hh, seval] <;> try simp only [qz] at hb))
    all_goals first | with_reducible assumption | rfl | omega | contradiction | decide | skip
   ·have hR2 : R = ⟨h.conf, P7 h.spool (BM (fun x : Im => x.id = n) 0 h.spool.items).toNat (BM (fun r : Rc => r.addr = a) 0 (h.spool.items.getD (BM (fun x : Im => x.id = n) 0 h.spool.items).toNat default).to).toNat w, h.boxes, h.lost⟩ := by
      rw [hR]; unfold CV
      rw [if_neg o2, if_pos ⟨o3, hl⟩]; rfl
    have hS : KD h.spool (BM (fun x : Im => x.id = n) 0 h.spool.items).toNat (BM (fun r : Rc => r.addr = a) 0 (h.spool.items.getD (BM (fun x : Im => x.id = n) 0 h.spool.items).toNat default).to).toNat w = (P7 h.spool (BM (fun x : Im => x.id = n) 0 h.spool.items).toNat (BM (fun r : Rc => r.addr = a) 0 (h.spool.items.getD (BM (fun x : Im => x.id = n) 0 h.spool.items).toNat default).to).toNat w, true) := by unfold KD; rw [if_neg hl]
    rw [hR2]
    simp -implicitDefEqProofs only [Tryz.f187, d2, d3, hS, go_sem, hh, seval]
    with_reducible repeat' (first | apply ai | intro _ | ((first | apply s1 | apply s3 | apply s4) <;> intro hb <;> simp -implicitDefEqProofs only [hb, go_sem, hh, seval] <;> try simp only [qz] at hb))
    all_goals first | with_reducible assumption | rfl | omega | contradiction | decide | skip
  ·have d3 := decide_eq_false o3
   have hR2 : R = HE h (h.spool.items.getD (BM (fun x : Im => x.id = n) 0 h.spool.items).toNat default) ((h.spool.items.getD (BM (fun x : Im => x.id = n) 0 h.spool.items).toNat default).to.getD (BM (fun r : Rc => r.addr = a) 0 (h.spool.items.getD (BM (fun x : Im => x.id = n) 0 h.spool.items).toNat default).to).toNat default).addr (BM (fun x : Im => x.id = n) 0 h.spool.items).toNat (BM (fun r : Rc => r.addr = a) 0 (h.spool.items.getD (BM (fun x : Im => x.id = n) 0 h.spool.items).toNat default).to).toNat w := by
    rw [hR, hadr]; unfold CV
    rw [if_neg o2, if_neg (fun z => o3 z.1)]; rfl
   rw [hR2]
   simp -implicitDefEqProofs only [Tryz.f187, d2, d3, go_sem, hh, seval]
   with_reducible repeat' (first | apply ai | intro _ | ((first | apply s1 | apply s3 | apply s4) <;> intro hb <;> simp -implicitDefEqProofs only [hb, go_sem, hh, seval] <;> try simp only [qz] at hb))
   all_goals first | with_reducible assumption | rfl | omega | contradiction | decide | skip
end
def kS (bs : List Bx) (a : Ad) : Nat := (bs.takeWhile fun b => decide (Jr b.addr a < 0)).length
def tU (bs : List Bx) (a : Ad) : Prop := ∀ j, kS bs a ≤ j → j < bs.length → ¬ Jr (bs.getD j default).addr a < 0
theorem ak (a : Ad) : ∀ (bs : List Bx), kS bs a ≤ bs.length
 | [] => by simp [kS]
 | b :: t => by
   have := ak a t
   unfold kS at this ⊢
   rw [List.takeWhile_cons]
   split
   ·simpa using this
   ·try simp
theorem al (a : Ad) : ∀ (bs : List Bx) {j : Nat}, j < kS bs a → Jr (bs.getD j default).addr a < 0
 | [], j, h => by simp [kS] at h
 | b :: t, j, h => by
   unfold kS at h
   rw [List.takeWhile_cons] at h
   split at h
   ·rename_i hb
    cases j with
    | zero => simpa using hb
    | succ j =>
      have := al a t (j := j) (by unfold kS; simpa using h)
      simpa using this
   ·simp at h
theorem U6 (a : Ad) : ∀ (bs : List Bx), kS bs a < bs.length → ¬ Jr (bs.getD (kS bs a) default).addr a < 0
 | [], h => by simp at h
 | b :: t, h => by
   by_cases hb : Jr b.addr a < 0
   ·have e : kS (b :: t) a = kS t a + 1 := by unfold kS; rw [List.takeWhile_cons, if_pos (decide_eq_true hb), List.length_cons]
    rw [e] at h ⊢
    have := U6 a t (by simpa using h)
    simpa using this
   ·have e : kS (b :: t) a = 0 := by unfold kS; rw [List.takeWhile_cons, if_neg (by simpa using hb)]; rfl
    rw [e]
    simpa using hb
def Fn (bs : List Bx) (a : Ad) : Bool := decide (kS bs a < bs.length) && decide (Jr (bs.getD (kS bs a) default).addr a = 0)
theorem Y3 (a b : Ad) : Jr a b = 0 ↔ a = b := by
 unfold Jr
 obtain ⟨u, d⟩ := a
 obtain ⟨v, e⟩ := b
 by_cases h : Eo d e = 0
 ·rw [if_pos h, HA]
  have := (HA _ _).1 h
  exact ⟨fun q => by have q : u = v := q; rw [q, this], fun q => by injection q⟩
 ·rw [if_neg h]
  exact ⟨fun q => absurd q h, fun q => by injection q with _ q; exact absurd ((HA _ _).2 q) h⟩
def EN (bs : List Bx) (a : Ad) (g : Gm) : List Bx :=
 if Fn bs a = true then bs.set (kS bs a) ⟨(bs.getD (kS bs a) default).addr, (bs.getD (kS bs a) default).mails ++ [g]⟩
 else bs.take (kS bs a) ++ (⟨a, [g]⟩ :: bs.drop (kS bs a))
theorem GG {bs : List Bx} {a : Ad} {g : Gm} (h : Fn bs a = true) : EN bs a g = bs.set (kS bs a) ⟨(bs.getD (kS bs a) default).addr, (bs.getD (kS bs a) default).mails ++ [g]⟩ := if_pos h
theorem FD {bs : List Bx} {a : Ad} {g : Gm} (h : Fn bs a = false) : EN bs a g = bs.take (kS bs a) ++ (⟨a, [g]⟩ :: bs.drop (kS bs a)) := if_neg (by rw [h]; decide)
theorem Jw {bs : List Bx} {a : Ad} (h : Fn bs a = true) : kS bs a < bs.length := by
 unfold Fn at h
 simp only [Bool.and_eq_true, decide_eq_true_eq] at h
 exact h.1
def Cn (s : Sp) (n : Int) (a : Ad) : Prop := ¬ A8 s n < 0 ∧ ¬ B6 (A2 s n) a < 0
theorem HW {s : Sp} {n : Int} {a : Ad} (q : Cn s n a) : ∃ x ∈ s.items, x.id = n ∧ ∃ r ∈ x.to, r.addr = a := by
 have h1 := CX q.1
 have h2 := Hf q.2
 exact ⟨A2 s n, AC (by omega), GD q.1, _, AC (by omega), GE q.2⟩
theorem U3 : ∀ {xs : List Im}, (xs.map Im.id).Pairwise (· < ·) → ∀ {x y : Im}, x ∈ xs → y ∈ xs → x.id = y.id → x = y
 | z :: t, h, x, y, hx, hy, e => by
   rw [List.map_cons, List.pairwise_cons] at h
   rcases List.mem_cons.1 hx with q | q
   ·rcases List.mem_cons.1 hy with r | r
    ·rw [q, r]
    ·have := h.1 _ (List.mem_map_of_mem (f := Im.id) r); rw [q] at e; omega
   ·rcases List.mem_cons.1 hy with r | r
    ·have := h.1 _ (List.mem_map_of_mem (f := Im.id) q); rw [r] at e; omega
    ·exact U3 h.2 q r e
theorem F8 {s : Sp} (h : Bh s) {x : Im} (hx : x ∈ s.items) {r : Rc} (hr : r ∈ x.to) : Cn s x.id r.addr ∧ A2 s x.id = x := by
 have h1 : ¬ A8 s x.id < 0 := by
  have : 0 ≤ A8 s x.id := (FF s.items 0).2 ⟨x, hx, rfl⟩
  omega
 have h2 := CX h1
 have h3 : A2 s x.id = x := U3 (Cr.1 h.2.1) (AC (by omega)) hx (GD h1)
 refine ⟨⟨h1, ?_⟩, h3⟩
 rw [h3]
 have : 0 ≤ B6 x r.addr := (FF x.to 0).2 ⟨r, hr, rfl⟩
 omega
theorem Ti {s : Sp} {n n' : Int} {a a' : Ad} (h : Bh s) (q : Cn s n a) (q' : Cn s n' a') (ne : ¬ (n = n' ∧ a = a')) : Cn (DO s (A8 s n).toNat (B6 (A2 s n) a).toNat) n' a' := by
 obtain ⟨x, hx, e1, r, hr, e2⟩ := HW q'
 have i1 := CX q.1
 have k1 := Hf q.2
 have ei := GD q.1
 have ek := GE q.2
 obtain ⟨i, hi⟩ : ∃ i, i = (A8 s n).toNat := ⟨_, rfl⟩
 obtain ⟨k, hk⟩ : ∃ k, k = (B6 (A2 s n) a).toNat := ⟨_, rfl⟩
 have hX : s.items.getD i default = A2 s n := by rw [hi]; rfl
 have hil : i < s.items.length := by omega
 have hkl : k < (s.items.getD i default).to.length := by rw [hX]; omega
 rw [← hi, ← hk]
 rw [← hk] at ek
 have hok := Ep h hil hkl
 suffices hs : ∃ y ∈ (DO s i k).items, y.id = n' ∧ ∃ r ∈ y.to, r.addr = a' by
  obtain ⟨y, hy, f1, r, hr, f2⟩ := hs
  rw [← f1, ← f2]
  exact (F8 hok hy hr).1
 show ∃ y ∈ Xw s.items i k, y.id = n' ∧ ∃ r ∈ y.to, r.addr = a'
 have hx2 := hx
 rw [Rh hil] at hx2
 have hout : x ∈ s.items.take i ++ s.items.drop (i + 1) → ∃ y ∈ Xw s.items i k, y.id = n' ∧ ∃ r ∈ y.to, r.addr = a' := fun hm => by
  refine ⟨x, ?_, e1, r, hr, e2⟩
  unfold Xw
  split
  ·exact hm
  ·rcases List.mem_append.1 hm with hm | hm
   ·exact List.mem_append_left _ hm
   ·exact List.mem_append_right _ (List.mem_cons_of_mem _ hm)
 rcases List.mem_append.1 hx2 with hm | hm
 ·exact hout (List.mem_append_left _ hm)
 ·rcases List.mem_cons.1 hm with hm | hm
  ·rw [hX] at hm
   subst hm
   have hr2 := hr
   rw [Rh (xs := (A2 s n).to) (i := k) (by rw [← hX]; exact hkl)] at hr2
   have hin : r ∈ (Ib (A2 s n) k).to := by
    show r ∈ (A2 s n).to.take k ++ (A2 s n).to.drop (k + 1)
    rcases List.mem_append.1 hr2 with hm | hm
    ·exact List.mem_append_left _ hm
    ·rcases List.mem_cons.1 hm with hm | hm
     ·exact absurd ⟨ei.symm.trans e1, by rw [← e2, hm]; exact ek.symm⟩ ne
     ·exact List.mem_append_right _ hm
   refine ⟨Ib (A2 s n) k, ?_, e1, r, hin, e2⟩
   unfold Xw
   rw [hX, if_neg (fun e => by rw [e] at hin; cases hin)]
   exact List.mem_append_right _ (by simp)
  ·exact hout (List.mem_append_right _ hm)
theorem Js : ∀ a b : List UInt8, Lib.compareBytes b a = - Lib.compareBytes a b
 | [], [] => by simp [Lib.compareBytes]
 | [], _ :: _ => by simp [Lib.compareBytes]
 | _ :: _, [] => by simp [Lib.compareBytes]
 | a :: x, b :: y => by
   have ih := Js x y
   simp only [Lib.compareBytes]
   by_cases h1 : a < b
   ·have h2 : ¬ b < a := fun h => absurd (UInt8.lt_trans h1 h) (UInt8.lt_irrefl _)
    simp [h1, h2]
   ·by_cases h2 : b < a
    ·simp [h1, h2]
    ·simp [h1, h2, ih]
theorem IX : ∀ a b c : List UInt8, Lib.compareBytes a b < 0 → Lib.compareBytes b c < 0 → Lib.compareBytes a c < 0
 | [], b, [], h1, h2 => by
   have := Js [] b
   rw [this] at h2; omega
 | [], _, _ :: _, _, _ => by simp [Lib.compareBytes]
 | _ :: _, [], _, h1, _ => by simp [Lib.compareBytes] at h1
 | _ :: _, _ :: _, [], _, h2 => by simp [Lib.compareBytes] at h2
 | a :: x, b :: y, c :: z, h1, h2 => by
   have ih := IX x y z
   simp only [Lib.compareBytes] at h1 h2 ⊢
   by_cases e1 : a < b
   ·by_cases e2 : b < c
    ·rw [if_pos (UInt8.lt_trans e1 e2)]; decide
    ·rw [if_neg e2] at h2
     split at h2
     ·omega
     ·have : b = c := UInt8.le_antisymm (UInt8.not_lt.1 (by assumption)) (UInt8.not_lt.1 e2)
      rw [← this, if_pos e1]; decide
   ·rw [if_neg e1] at h1
    split at h1
    ·omega
    ·have e3 : a = b := UInt8.le_antisymm (UInt8.not_lt.1 (by assumption)) (UInt8.not_lt.1 e1)
     subst e3
     split
     ·decide
     ·rename_i q
      rw [if_neg q] at h2
      split at h2
      ·omega
      ·rename_i q2
       rw [if_neg q2]
       exact ih h1 h2
theorem d5 (a b : Ad) : Jr b a = - Jr a b := by
 unfold Jr Eo
 rw [Js (bl a.domain) (bl b.domain), Js (bl a.user) (bl b.user)]
 by_cases h : Lib.compareBytes (bl a.domain) (bl b.domain) = 0
 ·rw [if_pos h, if_pos (by omega)]
 ·rw [if_neg h, if_neg (by omega)]
theorem MQ {a b c : Ad} (h1 : Jr a b < 0) (h2 : Jr b c < 0) : Jr a c < 0 := by
 unfold Jr at *
 by_cases e1 : Eo a.domain b.domain = 0
 ·have f1 := (HA _ _).1 e1
  rw [if_pos e1] at h1
  rw [f1]
  by_cases e2 : Eo b.domain c.domain = 0
  ·rw [if_pos e2] at h2 ⊢
   exact IX _ _ _ h1 h2
  ·rw [if_neg e2] at h2 ⊢
   exact h2
 ·rw [if_neg e1] at h1
  by_cases e2 : Eo b.domain c.domain = 0
  ·have f2 := (HA _ _).1 e2
   rw [← f2, if_neg e1]
   exact h1
  ·rw [if_neg e2] at h2
   have h3 : Eo a.domain c.domain < 0 := IX _ _ _ h1 h2
   rw [if_neg (by omega)]
   exact h3
def KF (bs : List Bx) : Prop := bs.Pairwise fun b c => Jr b.addr c.addr < 0
theorem Q7 {bs : List Bx} (h : KF bs) (a : Ad) : tU bs a := fun j h1 h2 hb => by
 have h3 : kS bs a < bs.length := by omega
 have h4 := U6 a bs h3
 by_cases e : j = kS bs a
 ·rw [e] at hb; exact h4 hb
 ·have h5 := List.pairwise_iff_getElem.1 h (kS bs a) j h3 h2 (by omega)
  have g1 : bs.getD (kS bs a) default = bs[kS bs a] := by simp [h3]
  have g2 : bs.getD j default = bs[j] := by simp [h2]
  rw [g1] at h4
  rw [g2] at hb
  exact h4 (MQ h5 hb)
theorem KV {bs : List Bx} {a : Ad} {g : Gm} (h : KF bs) : KF (EN bs a g) := by
 cases hf : Fn bs a
 ·rw [FD hf]
  have hp := Q7 h a
  have hb : KF (bs.take (kS bs a) ++ bs.drop (kS bs a)) := by rw [List.take_append_drop]; exact h
  obtain ⟨p1, p2, p3⟩ := List.pairwise_append.1 hb
  have lo : ∀ b ∈ bs.take (kS bs a), Jr b.addr a < 0 := fun b hm => by
   obtain ⟨j, hj, rfl⟩ := List.getElem_of_mem hm
   rw [List.length_take] at hj
   have := al a bs (j := j) (by omega)
   rw [List.getElem_take]
   simpa [show j < bs.length by omega] using this
  have hi : ∀ b ∈ bs.drop (kS bs a), Jr a b.addr < 0 := fun b hm => by
   obtain ⟨j, hj, rfl⟩ := List.getElem_of_mem hm
   rw [List.length_drop] at hj
   have hk : kS bs a < bs.length := by omega
   have n1 := hp (kS bs a + j) (by omega) (by omega)
   have g2 : bs.getD (kS bs a + j) default = bs[kS bs a + j] := by simp [show kS bs a + j < bs.length by omega]
   rw [g2] at n1
   rw [List.getElem_drop]
   have n2 := d5 a (bs[kS bs a + j]).addr
   by_cases z : Jr (bs[kS bs a + j]).addr a = 0
   ·exfalso
    by_cases hj0 : j = 0
    ·subst hj0
     unfold Fn at hf
     simp only [Bool.and_eq_false_iff, decide_eq_false_iff_not] at hf
     rcases hf with hf | hf
     ·exact hf hk
     ·exact hf (by rw [← z]; simp [hk])
    ·have h5 := List.pairwise_iff_getElem.1 h (kS bs a) (kS bs a + j) hk (by omega) (by omega)
     have e := (Y3 _ _).1 z
     rw [e] at h5
     have n3 := U6 a bs hk
     have g1 : bs.getD (kS bs a) default = bs[kS bs a] := by simp [hk]
     rw [g1] at n3
     exact n3 h5
   ·omega
  exact List.pairwise_append.2 ⟨p1, List.pairwise_cons.2 ⟨hi, p2⟩, fun b hb c hc => by
   rcases List.mem_cons.1 hc with rfl | hc
   ·exact lo b hb
   ·exact p3 b hb c hc⟩
 ·rw [GG hf]
  have hlt := Jw hf
  have h' : (bs.map Bx.addr).Pairwise fun x y => Jr x y < 0 := List.pairwise_map.2 h
  have e : (bs.set (kS bs a) ⟨(bs.getD (kS bs a) default).addr, (bs.getD (kS bs a) default).mails ++ [g]⟩).map Bx.addr = bs.map Bx.addr := by
   rw [List.map_set]
   have : (⟨(bs.getD (kS bs a) default).addr, (bs.getD (kS bs a) default).mails ++ [g]⟩ : Bx).addr = (bs.map Bx.addr)[kS bs a]'(by rw [lm]; exact hlt) := by
    rw [List.getElem_map]
    show (bs.getD (kS bs a) default).addr = _
    simp [hlt]
   rw [this, List.set_getElem_self]
  exact List.pairwise_map.1 (e ▸ h')
theorem Oy {bs : List Bx} (h : ∀ j, 0 < j → j < bs.length → Yd (bs.getD (j - 1) default).addr (bs.getD j default).addr) : KF bs := by
 refine List.pairwise_iff_getElem.2 fun i j hi hj hij => ?_
 induction j with
 | zero => omega
 | succ j ih =>
   have h1 := (IS _ _).2 (h (j + 1) (by omega) hj)
   simp only [Nat.add_sub_cancel, List.getD_eq_getElem?_getD, List.getElem?_eq_getElem hj, List.getElem?_eq_getElem (show j < bs.length by omega), Option.getD_some] at h1
   by_cases e : i = j
   ·subst e; exact h1
   ·exact MQ (ih (by omega) (by omega)) h1
theorem MN (bs : List Bx) (a : Ad) (g : Gm) : (EN bs a g).length ≤ bs.length + 1 := by
 have := ak a bs
 cases hf : Fn bs a
 ·rw [FD hf]; simp only [List.length_append, List.length_take, List.length_cons, List.length_drop]; omega
 ·rw [GG hf, List.length_set]; omega
theorem I1 {bs : List Bx} {a : Ad} {g : Gm} {M : Nat} (h : ∀ b ∈ bs, b.mails.length ≤ M) : ∀ b ∈ EN bs a g, b.mails.length ≤ M + 1 := fun b hb => by
 cases hf : Fn bs a
 ·rw [FD hf] at hb
  rcases List.mem_append.1 hb with hb | hb
  ·have := h b (List.mem_of_mem_take hb); omega
  ·rcases List.mem_cons.1 hb with hb | hb
   ·rw [hb]; show 1 ≤ M + 1; omega
   ·have := h b (List.mem_of_mem_drop hb); omega
 ·rw [GG hf] at hb
  rcases List.mem_or_eq_of_mem_set hb with hb | hb
  ·have := h b hb; omega
  ·rw [hb]
   have := h _ (AC (Jw hf))
   show (_ ++ [g]).length ≤ _
   rw [List.length_append, List.length_singleton]; omega
noncomputable def FQ (h : Hs) (x : Im) (a : Ad) : Hs := ⟨h.conf, (Tg h.spool x.id a).1, EN h.boxes a ⟨x.frm, x.body⟩, h.lost⟩
noncomputable def FR (x : Im) : List Ad → Hs → Hs
 | [], h => h
 | a :: r, h => FR x r (FQ h x a)
noncomputable def Cy (c : Cf) (w : Int) : List Im → Hs → Hs
 | [], h => h
 | x :: t, h => Cy c w t (FR x (A3 c ⟨#[]⟩ w x.to) h)
noncomputable def Sf (c : Cf) (w : Int) (x : Im) (rs : List Rc) : List (Int × Ad) := (A3 c ⟨#[]⟩ w rs).map fun a => (x.id, a)
noncomputable def G0 (c : Cf) (w : Int) : List Im → List (Int × Ad)
 | [] => []
 | x :: t => Sf c w x x.to ++ G0 c w t
structure Kp (c : Cf) (g : Hs) (R : List (Int × Ad)) : Prop where
 cf : g.conf = c
 sp : Bh g.spool
 os : E7 g.spool
 so : KF g.boxes
 td : ∀ p ∈ R, Cn g.spool p.1 p.2
 nd : R.Nodup
 b1 : g.boxes.length + R.length ≤ 3000000
 b2 : ∀ b ∈ g.boxes, b.mails.length + R.length ≤ 3000000
theorem Kp.done {c : Cf} {g : Hs} {x : Im} {a : Ad} {R : List (Int × Ad)} (h : Kp c g ((x.id, a) :: R)) : Tg g.spool x.id a = (DO g.spool (A8 g.spool x.id).toNat (B6 (A2 g.spool x.id) a).toNat, true) :=
 dY h.sp (h.td (x.id, a) (by simp)).1 (h.td (x.id, a) (by simp)).2
theorem Kp.step {c : Cf} {g : Hs} {x : Im} {a : Ad} {R : List (Int × Ad)} (h : Kp c g ((x.id, a) :: R)) : Kp c (FQ g x a) R := by
 have q : Cn g.spool x.id a := h.td (x.id, a) (by simp)
 have i1 := CX q.1
 have k1 := Hf q.2
 have hD := h.done
 have hil : (A8 g.spool x.id).toNat < g.spool.items.length := by omega
 have hkl : (B6 (A2 g.spool x.id) a).toNat < (g.spool.items.getD (A8 g.spool x.id).toNat default).to.length := by
  show _ < (A2 g.spool x.id).to.length
  omega
 have hs : (FQ g x a).spool = DO g.spool (A8 g.spool x.id).toNat (B6 (A2 g.spool x.id) a).toNat := by unfold FQ; rw [hD]
 have hb1 := h.b1
 rw [List.length_cons] at hb1
 refine ⟨h.cf, by rw [hs]; exact Ep h.sp hil hkl, by rw [hs]; exact Um h.os hil, KV h.so, fun p hp => ?_, (List.nodup_cons.1 h.nd).2, ?_, fun b hb => ?_⟩
 ·rw [hs]
  refine Ti h.sp q (h.td p (List.mem_cons_of_mem _ hp)) fun e => (List.nodup_cons.1 h.nd).1 ?_
  obtain ⟨p1, p2⟩ := p
  rw [e.1, e.2]; exact hp
 ·have := MN g.boxes a ⟨x.frm, x.body⟩
  show (EN _ _ _).length + _ ≤ _
  omega
 ·have := I1 (M := 3000000 - (R.length + 1)) (g := ⟨x.frm, x.body⟩) (a := a) (fun b hb => by have := h.b2 b hb; rw [List.length_cons] at this; omega) b hb
  omega
theorem vl {c : Cf} {w : Int} {x : Im} {rs : List Rc} {i : Nat} (h : i < rs.length) (hn : JL c ⟨#[]⟩ w (rs.getD i default)) : Sf c w x (rs.drop i) = (x.id, (rs.getD i default).addr) :: Sf c w x (rs.drop (i + 1)) := by
 unfold Sf; rw [Sc h hn]; rfl
theorem vj {c : Cf} {w : Int} {x : Im} {rs : List Rc} {i : Nat} (h : i < rs.length) (hn : ¬ JL c ⟨#[]⟩ w (rs.getD i default)) : Sf c w x (rs.drop i) = Sf c w x (rs.drop (i + 1)) := by
 unfold Sf; rw [Sb h hn]
theorem jG {c : Cf} {w : Int} {x : Im} {rs : List Rc} {i : Nat} (h : rs.length ≤ i) : Sf c w x (rs.drop i) = [] := by
 unfold Sf; rw [LB h]; rfl
theorem Wb {c : Cf} {w : Int} {xs : List Im} {i : Nat} (h : i < xs.length) : G0 c w (xs.drop i) = Sf c w (xs.getD i default) (xs.getD i default).to ++ G0 c w (xs.drop (i + 1)) := by
 rw [AW h]; rfl
theorem SE {c : Cf} {w : Int} {xs : List Im} {i : Nat} {g : Hs} (h : i < xs.length) : Cy c w (xs.drop i) g = Cy c w (xs.drop (i + 1)) (FR (xs.getD i default) (A3 c ⟨#[]⟩ w (xs.getD i default).to) g) := by
 rw [AW h]; rfl
theorem LC (c : Cf) (w : Int) : ∀ rs : List Rc, List.Sublist (A3 c ⟨#[]⟩ w rs) (rs.map Rc.addr)
 | [] => .slnil
 | r :: t => by
   rw [A3]
   cases BW (JL c ⟨#[]⟩ w r)
   ·exact .cons _ (LC c w t)
   ·exact .cons_cons _ (LC c w t)
theorem KQ {c : Cf} {w : Int} : ∀ {xs : List Im} {p : Int × Ad}, p ∈ G0 c w xs → ∃ x ∈ xs, p.1 = x.id ∧ ∃ r ∈ x.to, r.addr = p.2
 | x :: t, p, h => by
   rw [G0] at h
   rcases List.mem_append.1 h with h | h
   ·unfold Sf at h
    obtain ⟨a, ha, rfl⟩ := List.mem_map.1 h
    obtain ⟨r, hr, e, _⟩ := Ez c ⟨#[]⟩ w _ a ha
    exact ⟨x, by simp, rfl, r, hr, e⟩
   ·obtain ⟨y, hy, q⟩ := KQ h
    exact ⟨y, by simp [hy], q⟩
theorem KR {c : Cf} {w : Int} : ∀ {xs : List Im}, (xs.map Im.id).Pairwise (· < ·) → (∀ x ∈ xs, (x.to.map Rc.addr).Nodup) → (G0 c w xs).Nodup
 | [], _, _ => List.nodup_nil
 | x :: t, h1, h2 => by
   rw [List.map_cons, List.pairwise_cons] at h1
   rw [G0]
   refine List.nodup_append.2 ⟨?_, KR h1.2 fun y hy => h2 y (by simp [hy]), fun p hp q hq e => ?_⟩
   ·unfold Sf
    have h3 := (LC c w x.to).nodup (h2 x (by simp))
    exact List.pairwise_map.2 (h3.imp fun {a b} ne e => ne (by injection e))
   ·subst e
    unfold Sf at hp
    obtain ⟨a, _, rfl⟩ := List.mem_map.1 hp
    obtain ⟨y, hy, e, _⟩ := KQ hq
    have := h1.1 y.id (List.mem_map_of_mem hy)
    have e : x.id = y.id := e
    omega
theorem O2 {c : Cf} {w : Int} : ∀ {xs : List Im}, (∀ x ∈ xs, x.to.length ≤ 4) → (G0 c w xs).length ≤ 4 * xs.length
 | [], _ => by simp [G0]
 | x :: t, h => by
   rw [G0, List.length_append, List.length_cons]
   have h1 := O2 (c := c) (w := w) fun y hy => h y (List.mem_cons_of_mem x hy)
   have h2 := Ey c ⟨#[]⟩ w x.to
   have h3 := h x (by simp)
   have h4 : (Sf c w x x.to).length = (A3 c ⟨#[]⟩ w x.to).length := lm _
   omega
theorem Oe {h : Hs} {w : Int} (q : GW h) (ok : HU h) : Kp h.conf h (G0 h.conf w h.spool.items) := by
 obtain ⟨q1, q2, q3⟩ := q
 have hl := O2 (c := h.conf) (w := w) (xs := h.spool.items) fun x hx => (q3.1 x hx).1.2.2.2.2.1.2
 have h10 := q3.2.2.2
 have hb := ok.2.2.1
 refine ⟨rfl, q3, ok.2.1, Oy fun j h0 hj => (q1 j hj).2.1 h0, fun p hp => ?_, KR (Cr.1 q3.2.1) fun x hx => (q3.1 x hx).1.2.1, ?_, fun b hbm => ?_⟩
 ·obtain ⟨x, hx, e, r, hr, e2⟩ := KQ hp
  rw [e, ← e2]
  exact (F8 q3 hx hr).1
 ·have : (h.boxes.length : Int) ≤ 1048576 := hb.1
  omega
 ·have : (b.mails.length : Int) ≤ 1048576 := (hb.2 b hbm).2.1
  omega
def ny : Ct := Ar (lc Gy.ag (lc DY.ag (lc J6.ag l0))) (fun p => p.1.boxes.length ≤ 3000000 ∧ (∀ b ∈ p.1.boxes, b.mails.length ≤ 3000000) ∧ p.2.2.1.body.length ≤ 3000000) (fun p => .agg ((Af ⟨p.1.conf, p.1.spool, EN p.1.boxes p.2.1 ⟨p.2.2.1.frm, p.2.2.1.body⟩, p.1.lost⟩).map .t))
section
attribute [local go_sem] t5 Ja JR List.take_length List.drop_zero List.length_take List.length_drop lm List.length_append List.length_cons List.length_nil List.map_append List.map_nil List.map_cons List.nil_append Nat.zero_add List.mem_singleton forall_eq Bool.not_true Bool.not_false AZ AY AS.opn AS.cls AS.nilb AS.renb AS.up List.set_set List.set_cons_zero List.set_cons_succ List.set_nil
set_option maxHeartbeats 3200000 in
theorem gm {G : Gt} (hG : Ah G) (hh : G.e 84 = AA 0 t5) : Gd G 189 (AA 1 ny) := by
 refine OP (dp := fun n => Nat.ble 100000 n) (fn := Tryz.f189) (n := 3) rfl rfl hG ?_
 rintro ⟨h, a, x, ⟨⟩⟩ hpre
 obtain ⟨hl1, hl2, hl3⟩ := hpre
 dsimp only at hl1 hl2 hl3 ⊢
 have hkl := ak a h.boxes
 simp -implicitDefEqProofs only [Tryz.f189, go_sem, hh, seval]
 with_reducible repeat' (first | apply ai | intro _ | ((first | apply s1 | apply s3 | apply s4) <;> intro hb <;> simp -implicitDefEqProofs only [hb, go_sem, hh, seval] <;> try simp only [qz] at hb))
 all_goals (try simp only [maxLen] at *)
 all_goals first | with_reducible assumption | rfl | omega | contradiction | decide | skip
 refine AE [] (ι := {i : Nat // i ≤ kS h.boxes a}) (fun p => ⟨[(3, .pb 1003 0), (4, .pb 1004 0), (5, .pb 1005 0), (6, .pb 1006 0), (7, .t (.v (.int .i64 p.1)))], [(1003, some (.box ((Af h).map .t))), (1004, some (.box ((Am a).map .t))), (1005, some (.box ((As x).map .t))), (1006, some (.box [.t (.v (.string ⟨#[]⟩)), .nil, .nil, .t (.v (.int .i64 0)), .nil, .nil, .nil]))]⟩) (fun p => kS h.boxes a - p.1) ⟨0, Nat.zero_le _⟩ rfl ?_ ?_
 ·simp -implicitDefEqProofs only [go_sem, hh, seval]
  try simp
 ·rintro ⟨i, hi⟩
  dsimp only at hi ⊢
  by_cases hlt : i < kS h.boxes a
  ·have hil : (i : Int) < h.boxes.length := by omega
   have b1 := Ap ((IS _ _).1 (al a h.boxes hlt))
   simp -implicitDefEqProofs only [hil, b1, decide_true, tn, go_sem, hh, seval]
   with_reducible repeat' (first | apply ai | intro _ | ((first | apply s1 | apply s3 | apply s4) <;> intro hb <;> simp -implicitDefEqProofs only [hb, go_sem, hh, seval] <;> try simp only [qz] at hb))
   all_goals (try simp only [maxLen] at *)
   all_goals first | with_reducible assumption | rfl | omega | contradiction | decide | skip
   refine ⟨⟨i + 1, by omega⟩, by dsimp only; omega, ?_⟩
   simp -implicitDefEqProofs only [go_sem, hh, seval]
   try simp
  ·have hk : i = kS h.boxes a := by omega
   have e1 : ((i : Int) + 1).toNat = i + 1 := by omega
   by_cases hil : (i : Int) < h.boxes.length
   ·have hkb : kS h.boxes a < h.boxes.length := by omega
    have b1 := AQ (fun z => U6 a h.boxes hkb ((IS _ _).2 z))
    rw [← hk] at b1
    have hml := hl2 _ (AC (xs := h.boxes) (j := i) (by omega))
    by_cases hf : (h.boxes.getD i default).addr = a
    ·have hF : Fn h.boxes a = true := by
       unfold Fn
       rw [decide_eq_true hkb, ← hk, decide_eq_true ((Y3 _ _).2 hf)]; rfl
     have hB : EN h.boxes a ⟨x.frm, x.body⟩ = h.boxes.set i ⟨(h.boxes.getD i default).addr, (h.boxes.getD i default).mails ++ [⟨x.frm, x.body⟩]⟩ := by rw [GG hF, ← hk]
     rw [hB]
     have he : (false != (decide ((h.boxes.getD i default).addr.user = a.user) && decide ((h.boxes.getD i default).addr.domain = a.domain))) = true := by rw [hf]; simp
     rw [hf]
     simp -implicitDefEqProofs only [hil, b1, he, decide_true, tn, e1, go_sem, hh, seval]
     with_reducible repeat' (first | apply ai | intro _ | ((first | apply s1 | apply s3 | apply s4) <;> intro hb <;> simp -implicitDefEqProofs only [hb, go_sem, hh, seval] <;> try simp only [qz] at hb))
     all_goals (try simp only [maxLen, e1, tn, List.take_length, List.drop_zero] at *)
     all_goals first | with_reducible assumption | rfl | omega | contradiction | decide | (refine congrArg (T.sl 3) ?_; first | (simp; done) | (rw [List.set_eq_take_append_cons_drop, if_pos (by omega)]; simp [BT, BU]; done)) | skip
    ·have he : (false != (decide ((h.boxes.getD i default).addr.user = a.user) && decide ((h.boxes.getD i default).addr.domain = a.domain))) = false := by
       cases hq : (decide ((h.boxes.getD i default).addr.user = a.user) && decide ((h.boxes.getD i default).addr.domain = a.domain))
       ·rfl
       ·simp only [Bool.and_eq_true, decide_eq_true_eq] at hq
        exact absurd (show (⟨(h.boxes.getD i default).addr.user, (h.boxes.getD i default).addr.domain⟩ : Ad) = a by rw [hq.1, hq.2]) hf
     have hF : Fn h.boxes a = false := by
      unfold Fn
      rw [decide_eq_true hkb, ← hk, decide_eq_false (fun z => hf ((Y3 _ _).1 z))]; rfl
     have hB : EN h.boxes a ⟨x.frm, x.body⟩ = h.boxes.take i ++ (⟨a, [⟨x.frm, x.body⟩]⟩ :: h.boxes.drop i) := by rw [FD hF, ← hk]
     rw [hB]
     simp -implicitDefEqProofs only [hil, b1, he, decide_true, tn, e1, go_sem, hh, seval]
     with_reducible repeat' (first | apply ai | intro _ | ((first | apply s1 | apply s3 | apply s4) <;> intro hb <;> simp -implicitDefEqProofs only [hb, go_sem, hh, seval] <;> try simp only [qz] at hb))
     all_goals (try simp only [maxLen, e1, tn, List.take_length, List.drop_zero] at *)
     all_goals first | with_reducible assumption | rfl | omega | contradiction | decide | (refine congrArg (T.sl 3) ?_; first | (simp; done) | (rw [List.set_eq_take_append_cons_drop, if_pos (by omega)]; simp [BT, BU]; done)) | skip
   ·have hF : Fn h.boxes a = false := by
      unfold Fn
      rw [decide_eq_false (by omega)]; rfl
    have hB : EN h.boxes a ⟨x.frm, x.body⟩ = h.boxes.take i ++ (⟨a, [⟨x.frm, x.body⟩]⟩ :: h.boxes.drop i) := by rw [FD hF, ← hk]
    rw [hB]
    simp -implicitDefEqProofs only [hil, decide_false, tn, e1, go_sem, hh, seval]
    with_reducible repeat' (first | apply ai | intro _ | ((first | apply s1 | apply s3 | apply s4) <;> intro hb <;> simp -implicitDefEqProofs only [hb, go_sem, hh, seval] <;> try simp only [qz] at hb))
    all_goals (try simp only [maxLen, e1, tn, List.take_length, List.drop_zero] at *)
    all_goals first | with_reducible assumption | rfl | omega | contradiction | decide | (refine congrArg (T.sl 3) ?_; simp; done) | skip
end
theorem bo {g : Hs} {x : Im} {a : Ad} {w : Int} {R : List (Int × Ad)} (h : Kp g.conf g ((x.id, a) :: R)) : CV ⟨g.conf, g.spool, EN g.boxes a ⟨x.frm, x.body⟩, g.lost⟩ (A8 g.spool x.id).toNat (B6 (A2 g.spool x.id) a).toNat a 2 w = FQ g x a := by
 unfold CV
 rw [if_pos rfl]
 unfold FQ
 rw [h.done]
def eC : Ct := Ar (lc Gy.ag (lc BK l0)) (fun p => GW p.1 ∧ HU p.1) (fun p => .agg ((Af (Cy p.1.conf p.2.1 p.1.spool.items p.1)).map .t))
section
attribute [local go_sem] uA ny RZ Ja JR List.take_length List.drop_zero List.length_take List.length_drop lm List.length_append List.length_cons List.length_nil List.map_append List.map_nil List.map_cons List.nil_append Nat.zero_add List.mem_singleton forall_eq Bool.not_true Bool.not_false AZ AY AS.opn AS.cls AS.nilb AS.renb AS.up List.set_set List.set_cons_zero List.set_cons_succ List.set_nil
set_option maxHeartbeats 6400000 in
theorem gS {G : Gt} (hG : Ah G) (hh : G.e 90 = AA 0 uA ∧ G.e 189 = AA 1 ny ∧ G.e 187 = AA 1 RZ) : Gd G 171 (AA 1 eC) := by
 refine OP (dp := fun n => Nat.ble 100000 n) (fn := Tryz.f171) (n := 2) rfl rfl hG ?_
 rintro ⟨h, w, ⟨⟩⟩ hpre
 obtain ⟨hq, hok⟩ := hpre
 dsimp only at hq hok ⊢
 have hmx : (h.spool.items.length : Int) ≤ 1048576 := hok.2.1.1
 simp -implicitDefEqProofs only [Tryz.f171, go_sem, hh, seval]
 with_reducible repeat' (first | apply ai | intro _ | ((first | apply s1 | apply s3 | apply s4) <;> intro hb <;> simp -implicitDefEqProofs only [hb, go_sem, hh, seval] <;> try simp only [qz] at hb))
 all_goals (try simp only [maxLen] at *)
 all_goals first | with_reducible assumption | rfl | omega | contradiction | decide | skip
 refine AE [] (ι := {p : Nat × Hs // p.1 ≤ h.spool.items.length ∧ Kp h.conf p.2 (G0 h.conf w (h.spool.items.drop p.1)) ∧ Cy h.conf w h.spool.items h = Cy h.conf w (h.spool.items.drop p.1) p.2}) (fun p => ⟨[(1, .t (.v (.int .i64 w))), (2, .pb 1002 0), (4, .pb 1004 0), (5, .t (.sl 5 (h.spool.items.map As))), (6, .t (.v (.int .i64 p.1.1)))], [(1002, some (.box ((Af p.1.2).map .t))), (1004, some (.box [.t (.v (.string ⟨#[]⟩)), .nil, .nil, .t (.v (.int .i64 0)), .nil, .nil, .nil]))]⟩) (fun p => h.spool.items.length - p.1.1) ⟨(0, h), Nat.zero_le _, Oe hq hok, rfl⟩ rfl ?_ ?_
 ·simp -implicitDefEqProofs only [go_sem, hh, seval]
  try simp
 ·rintro ⟨⟨i, g⟩, hi, hK, he⟩
  dsimp only at hi hK he ⊢
  by_cases hlt : (i : Int) < h.spool.items.length
  ·have hil : i < h.spool.items.length := by omega
   obtain ⟨x, hx⟩ : ∃ x, x = h.spool.items.getD i default := ⟨_, rfl⟩
   have hxo := hok.2.1.2 _ (AC hil)
   rw [← hx] at hxo
   have hxl : (x.to.length : Int) ≤ 1048576 := hxo.2.1.1
   have hxb : (x.body.length : Int) ≤ 1048576 := hxo.2.2.1
   rw [Wb hil, ← hx] at hK
   rw [SE hil, ← hx] at he
   simp -implicitDefEqProofs only [hlt, decide_true, tn, ← hx, go_sem, hh, seval]
   with_reducible repeat' (first | apply ai | intro _ | ((first | apply s1 | apply s3 | apply s4) <;> intro hb <;> simp -implicitDefEqProofs only [hb, go_sem, hh, seval] <;> try simp only [qz] at hb))
   all_goals (try simp only [maxLen] at *)
   all_goals first | with_reducible assumption | rfl | omega | contradiction | decide | skip
   refine AE [] (ι := {p : Nat × Hs // p.1 ≤ x.to.length ∧ Kp h.conf p.2 (Sf h.conf w x (x.to.drop p.1) ++ G0 h.conf w (h.spool.items.drop (i + 1))) ∧ Cy h.conf w h.spool.items h = Cy h.conf w (h.spool.items.drop (i + 1)) (FR x (A3 h.conf ⟨#[]⟩ w (x.to.drop p.1)) p.2)}) (fun p => ⟨[(1, .t (.v (.int .i64 w))), (2, .pb 1002 0), (4, .pb 1004 0), (5, .t (.sl 5 (h.spool.items.map As))), (6, .t (.v (.int .i64 i))), (7, .t (.v (.int .i64 p.1.1)))], [(1002, some (.box ((Af p.1.2).map .t))), (1004, some (.box [.t (.v (.string ⟨#[]⟩)), .nil, .nil, .t (.v (.int .i64 0)), .nil, .nil, .nil]))]⟩) (fun p => x.to.length - p.1.1) ⟨(0, g), Nat.zero_le _, hK, he⟩ rfl ?_ ?_
   ·simp -implicitDefEqProofs only [go_sem, hh, seval]
    try simp
   ·rintro ⟨⟨k, g⟩, hk, hK, he⟩
    dsimp only at hk hK he ⊢
    by_cases hlk : (k : Int) < x.to.length
    ·have hkl : k < x.to.length := by omega
     have hcf := hK.cf
     by_cases hn : JL h.conf ⟨#[]⟩ w (x.to.getD k default)
     ·have b1 := Ap hn
      rw [← hcf] at b1
      rw [vl hkl hn, List.cons_append] at hK
      rw [Sc hkl hn] at he
      have Ai := hK.step
      have hbb := hK.b1
      have hbm := hK.b2
      have hos := hK.os
      have hsp := hK.sp
      have htd := hK.td (x.id, (x.to.getD k default).addr) (by simp)
      have hout := bo (w := w) (hcf ▸ hK)
      simp -implicitDefEqProofs only [hlt, hlk, b1, hout, decide_true, tn, ← hx, go_sem, hh, seval]
      with_reducible repeat' (first | apply ai | intro _ | ((first | apply s1 | apply s3 | apply s4) <;> intro hb <;> simp -implicitDefEqProofs only [hb, go_sem, hh, seval] <;> try simp only [qz] at hb))
      all_goals (try simp only [maxLen] at *)
      all_goals first | with_reducible assumption | rfl | omega | contradiction | decide | exact htd.1 | exact htd.2 | (have := hbm _ (by assumption); omega) | skip
      all_goals first | (refine ⟨⟨(k + 1, FQ g x (x.to.getD k default).addr), by dsimp only; omega, Ai, he⟩, by dsimp only; omega, ?_⟩) | skip
      all_goals simp -implicitDefEqProofs only [go_sem, hh, seval]
      all_goals (try simp)
     ·have b1 := AQ hn
      rw [← hcf] at b1
      rw [vj hkl hn] at hK
      rw [Sb hkl hn] at he
      simp -implicitDefEqProofs only [hlt, hlk, b1, decide_true, tn, ← hx, go_sem, hh, seval]
      with_reducible repeat' (first | apply ai | intro _ | ((first | apply s1 | apply s3 | apply s4) <;> intro hb <;> simp -implicitDefEqProofs only [hb, go_sem, hh, seval] <;> try simp only [qz] at hb))
      all_goals (try simp only [maxLen] at *)
      all_goals first | with_reducible assumption | rfl | omega | contradiction | decide | skip
      refine ⟨⟨(k + 1, g), by dsimp only; omega, hK, he⟩, by dsimp only; omega, ?_⟩
      simp -implicitDefEqProofs only [go_sem, hh, seval]
      try simp
    ·rw [jG (by omega), List.nil_append] at hK
     rw [LB (by omega)] at he
     simp -implicitDefEqProofs only [hlt, hlk, decide_true, decide_false, tn, ← hx, go_sem, hh, seval]
     with_reducible repeat' (first | apply ai | intro _ | ((first | apply s1 | apply s3 | apply s4) <;> intro hb <;> simp -implicitDefEqProofs only [hb, go_sem, hh, seval] <;> try simp only [qz] at hb))
     all_goals (try simp only [maxLen] at *)
     all_goals first | with_reducible assumption | rfl | omega | contradiction | decide | skip
     refine ⟨⟨(i + 1, g), by dsimp only; omega, hK, he⟩, by dsimp only; omega, ?_⟩
     simp -implicitDefEqProofs only [go_sem, hh, seval]
     try simp
  ·have he2 : Cy h.conf w h.spool.items h = g := by rw [he, List.drop_eq_nil_of_le (by omega)]; rfl
   simp -implicitDefEqProofs only [hlt, decide_false, he2, go_sem, hh, seval]
   with_reducible repeat' (first | apply ai | intro _ | ((first | apply s1 | apply s3 | apply s4) <;> intro hb <;> simp -implicitDefEqProofs only [hb, go_sem, hh, seval] <;> try simp only [qz] at hb))
   all_goals (try simp only [maxLen] at *)
   all_goals first | with_reducible assumption | rfl | omega | contradiction | decide | skip
end
def Ew (c : Cf) : Hs := ⟨c, ⟨0, []⟩, [], []⟩
def ER (cs : List Cf) : Wd := ⟨cs.map Ew, 0, 0, []⟩
theorem ca {xs : List Cf} {f : Cf → Hs} {i : Nat} (h : i < xs.length) : ((xs.map f).take (i + 1)).map Af = ((xs.map f).take i).map Af ++ [Af (f (xs.getD i default))] := by
 have e : (xs.map f).getD i default = f (xs.getD i default) := by
  simp only [List.getD_eq_getElem?_getD, List.getElem?_map, List.getElem?_eq_getElem h, Option.map_some, Option.getD_some]
 rw [Az Af (by rw [lm]; exact h), e]
def CT (b : UInt8) : List T := [.v (.int .u8 b.toNat)]
def kK : List T → Option UInt8
 | [.v (.int .u8 x)] => if 0 ≤ x ∧ x < 256 then some (UInt8.ofNat x.toNat) else none
 | _ => none
def Lj : FN UInt8 where
 enc := CT
 dec := kK
 n := 1
 ed := fun b => by
  have := b.toNat_lt
  show (if 0 ≤ ((b.toNat : Nat) : Int) ∧ ((b.toNat : Nat) : Int) < 256 then some (UInt8.ofNat ((b.toNat : Nat) : Int).toNat) else none) = some b
  rw [if_pos (by omega), tn, UInt8.ofNat_toNat]
 de := fun c a h => by
  unfold kK at h
  split at h
  ·rename_i x
   split at h
   ·rename_i q
    cases h
    show [T.v (.int .u8 x)] = [T.v (.int .u8 (((UInt8.ofNat x.toNat).toNat : Nat) : Int))]
    have : (UInt8.ofNat x.toNat).toNat = x.toNat := by simp; omega
    rw [this]
    congr 3
    omega
   ·cases h
  ·cases h
 len := fun _ => rfl
theorem Z7 (b : UInt8) : CT b = [.v (.int .u8 b.toNat)] := rfl
theorem dk (xs : List UInt8) (n : Int) (s : AS) (K : Kt) : E9 1 (xs.map CT) n s K = (0 ≤ n ∧ n < xs.length ∧ K (.t (.rop (CT (xs.getD n.toNat default)))) s) := Ba CT xs 1 n s K fun _ => rfl
theorem Jm : Lj.enc = CT := rfl
theorem TA : Lj.n = 1 := rfl
theorem BD (xs : List UInt8) : Lj.decL (xs.map CT) = some xs := Lj.decL_map xs
theorem Nq (xs : List UInt8) : (∀ c ∈ xs.map CT, c.length = 1) = True := eq_true fun c hc => by
 obtain ⟨a, _, rfl⟩ := List.mem_map.1 hc; rfl
structure Rd where
 b : List UInt8
 p : Int
def la : AV → Option Rd
 | .ob [.t (.sl 1 es), .t (.v (.int .i64 p))] => (Lj.decL es).map fun b => ⟨b, p⟩
 | _ => none
def EU : AD Rd where
 enc r := .ob [.t (.sl 1 (r.b.map CT)), .t (.v (.int .i64 r.p))]
 dec := la
 ed := fun r => by
  show (Lj.decL (r.b.map CT)).map _ = some r
  rw [BD]; rfl
 de := fun x r h => by
  unfold la at h
  split at h
  ·rename_i es p
   cases hd : Lj.decL es with
   | none => rw [hd] at h; cases h
   | some b =>
     rw [hd] at h; cases h
     rw [show es = b.map CT from Lj.decL_inv hd]
  ·cases h
theorem A5 (r : Rd) : EU.enc r = .ob [.t (.sl 1 (r.b.map CT)), .t (.v (.int .i64 r.p))] := rfl
theorem A7 {es : List (List T)} {p : Int} : EU.dec (.ob [.t (.sl 1 es), .t (.v (.int .i64 p))]) = (Lj.decL es).map fun b => ⟨b, p⟩ := rfl
theorem jb {n : Int} (h : 0 ≤ n) (h1 : n < 9223372036854775808) : IntKind.wrap .i64 n = n := by
 have e : IntKind.wrap .i64 n = if ((true && decide (n % 18446744073709551616 ≥ 9223372036854775808)) = true) then n % 18446744073709551616 - 18446744073709551616 else n % 18446744073709551616 := rfl
 rw [e, if_neg (by simp; omega)]
 omega
theorem sm {x y : Int} (h : 0 ≤ x) (h1 : x < 9223372036854775808) (k : 0 ≤ y) (k1 : y < 9223372036854775808) : 0 ≤ bits .xor .i64 x y := by
 have e : bits .xor .i64 x y = IntKind.wrap .i64 (((BitVec.ofInt 64 x ^^^ BitVec.ofInt 64 y).toNat : Nat) : Int) := rfl
 rw [e, BitVec.toNat_xor, BitVec.toNat_ofInt, BitVec.toNat_ofInt]
 have q : ((x % ((2 ^ 64 : Nat) : Int)).toNat ^^^ (y % ((2 ^ 64 : Nat) : Int)).toNat) < 2 ^ 63 := Nat.xor_lt_two_pow (by omega) (by omega)
 have q2 := Int.ofNat_lt.2 q
 rw [jb (Int.natCast_nonneg _) q2]
 exact Int.natCast_nonneg _
def c9 (b : List UInt8) (k : Int) : Int := (((b.getD k.toNat default).toNat : Nat) : Int)
theorem PE (b : List UInt8) (k : Int) : 0 ≤ c9 b k ∧ c9 b k ≤ 255 := by
 have := (b.getD k.toNat default).toNat_lt
 unfold c9; omega
theorem tt (b : List UInt8) (k : Int) : (((b.getD k.toNat default).toNat : Nat) : Int) = c9 b k := rfl
def L0 (b : List UInt8) (k : Int) : Int := c9 b (k % b.length) * 131 + c9 b ((k * 7 + 3) % b.length) * 1117 + k * 29 + k / b.length * 53
theorem rY (b : List UInt8) (k : Int) : c9 b (k % b.length) * 131 + c9 b ((k * 7 + 3) % b.length) * 1117 + k * 29 + k / b.length * 53 = L0 b k := rfl
def Ae (r : Rd) (n : Int) : Int := if n < 1 ∨ (r.b.length : Int) = 0 then 0 else if r.p < r.b.length then c9 r.b r.p % n else bits .xor .i64 (L0 r.b r.p) (L0 r.b r.p / 64) % n
theorem Zw {k l : Int} (h : 0 ≤ k) (hl : 0 < l) : 0 ≤ k / l ∧ k / l ≤ k := ⟨Int.ediv_nonneg h (by omega), Int.ediv_le_self _ h⟩
theorem rX {b : List UInt8} {k : Int} (h : 0 ≤ k) (h1 : k ≤ 1000000000) (h2 : ¬ (b.length : Int) = 0) : 0 ≤ L0 b k ∧ L0 b k ≤ 1000000000000 := by
 have q1 := PE b (k % b.length)
 have q2 := PE b ((k * 7 + 3) % b.length)
 have q3 := Zw (l := b.length) h (by omega)
 unfold L0
 omega
theorem Bn {r : Rd} {n : Int} (h : 0 ≤ r.p) (h1 : r.p ≤ 1000000000) : 0 ≤ Ae r n ∧ (1 ≤ n → Ae r n < n) := by
 unfold Ae
 split
 ·omega
 ·rename_i q
  split
  ·exact ⟨Int.emod_nonneg _ (by omega), fun _ => Int.emod_lt_of_pos _ (by omega)⟩
  ·exact ⟨Int.emod_nonneg _ (by omega), fun _ => Int.emod_lt_of_pos _ (by omega)⟩
theorem li {r : Rd} {n : Int} (h : n < 1 ∨ (r.b.length : Int) = 0) : Ae r n = 0 := if_pos h
theorem vZ {r : Rd} {n : Int} (h0 : ¬ n < 1) (h : ¬ (r.b.length : Int) = 0) (h1 : r.p < r.b.length) : c9 r.b r.p % n = Ae r n := by
 unfold Ae; rw [if_neg (by omega), if_pos h1]
theorem ve {r : Rd} {n : Int} (h0 : ¬ n < 1) (h : ¬ (r.b.length : Int) = 0) (h1 : ¬ r.p < r.b.length) : bits .xor .i64 (L0 r.b r.p) (L0 r.b r.p / 64) % n = Ae r n := by
 unfold Ae; rw [if_neg (by omega), if_neg h1]
def Rd.nx (r : Rd) (k : Int) : Rd := ⟨r.b, r.p + k⟩
theorem AK (r : Rd) (k : Int) : (r.nx k).p = r.p + k := rfl
theorem Bi (r : Rd) (k : Int) : (r.nx k).b = r.b := rfl
theorem CE (r : Rd) (k : Int) : (⟨r.b, r.p + k⟩ : Rd) = r.nx k := rfl
theorem yp {x y : Int} (h : x = y) : T.v (.int .i64 x) = T.v (.int .i64 y) := by rw [h]
def GK : Mt := HB (lc EU (lc BK l0)) (fun p => 0 ≤ p.1.p ∧ p.1.p ≤ 1000000000) (fun p => ([EU.enc (p.1.nx 1), BK.enc p.2.1], .t (.v (.int .i64 (Ae p.1 p.2.1)))))
section
attribute [local go_sem] AK Bi A5 A7 BD Z7 dk Jm TA Nq lm Int.add_sub_cancel tt rY AS.opn AS.cls AS.nilb AS.renb AS.up Bool.not_false Bool.not_true List.set_set List.set_cons_zero List.set_cons_succ List.set_nil List.mem_singleton forall_eq
set_option maxHeartbeats 1600000 in
theorem qS {G : Gt} (hG : Ah G) : Gd G 53 (AN GK) := by
 refine JS (dp := fun _ => true) (fn := Tryz.f53) (n := 2) rfl rfl hG ?_
 rintro ⟨r, n, ⟨⟩⟩ hpre
 simp -implicitDefEqProofs only [Tryz.f53, go_sem, seval] at hpre ⊢
 obtain ⟨h1, h2⟩ := hpre
 try dsimp only at h1 h2
 have g1 := PE r.b r.p
 have g2 := PE r.b (r.p % r.b.length)
 have g3 := PE r.b ((r.p * 7 + 3) % r.b.length)
 by_cases h0 : (r.b.length : Int) = 0
 ·with_reducible repeat' (first | apply ai | intro _ | ((first | apply s1 | apply s3 | apply s4) <;> intro hb <;> simp -implicitDefEqProofs only [hb, go_sem, seval] <;> try simp only [qz] at hb))
  all_goals (try simp only [maxLen, tn] at *)
  all_goals first | rfl | omega | (rw [li (by omega)]; done) | contradiction
 ·have g4 := Zw (l := r.b.length) h1 (by omega)
  have g5 := rX h1 h2 h0
  have g6 := Int.emod_nonneg r.p h0
  have g7 := Int.emod_lt_of_pos r.p (b := r.b.length) (by omega)
  have g8 := Int.emod_nonneg (r.p * 7 + 3) h0
  have g9 := Int.emod_lt_of_pos (r.p * 7 + 3) (b := r.b.length) (by omega)
  have gx := Zw (l := 64) g5.1 (by decide)
  have gy := sm (x := L0 r.b r.p) (y := L0 r.b r.p / 64) g5.1 (by omega) gx.1 (by omega)
  with_reducible repeat' (first | apply ai | intro _ | ((first | apply s1 | apply s3 | apply s4) <;> intro hb <;> simp -implicitDefEqProofs only [hb, go_sem, seval] <;> try simp only [qz] at hb))
  all_goals (try simp only [maxLen, tn] at *)
  all_goals first | rfl | omega | (rw [li (by omega)]; done) | with_reducible exact yp (vZ (by assumption) (by assumption) (by assumption)) | with_reducible exact yp (ve (by assumption) (by assumption) (by assumption)) | contradiction
end
theorem G7 {x0 x1 x2 x3 : T} : Bs 1 4 [x0, x1, x2, x3] = [[x0], [x1], [x2], [x3]] := rfl
theorem G8 {x0 x1 x2 x3 x4 : T} : Bs 1 5 [x0, x1, x2, x3, x4] = [[x0], [x1], [x2], [x3], [x4]] := rfl
theorem G9 {x0 x1 x2 x3 x4 x5 x6 : T} : Bs 1 7 [x0, x1, x2, x3, x4, x5, x6] = [[x0], [x1], [x2], [x3], [x4], [x5], [x6]] := rfl
theorem Du {x0 x1 x2 x3 x4 x5 x6 x7 x8 x9 x10 : T} : Bs 1 11 [x0, x1, x2, x3, x4, x5, x6, x7, x8, x9, x10] = [[x0], [x1], [x2], [x3], [x4], [x5], [x6], [x7], [x8], [x9], [x10]] := rfl
theorem Dv {x0 x1 x2 x3 x4 x5 x6 x7 x8 x9 x10 x11 : T} : Bs 1 12 [x0, x1, x2, x3, x4, x5, x6, x7, x8, x9, x10, x11] = [[x0], [x1], [x2], [x3], [x4], [x5], [x6], [x7], [x8], [x9], [x10], [x11]] := rfl
theorem BQ (r : Rd) (a b : Int) : (r.nx a).nx b = r.nx (a + b) := by unfold Rd.nx; simp only [Int.add_assoc]
theorem BP (r : Rd) : (⟨r.b, r.p⟩ : Rd) = r := rfl
theorem BR (r : Rd) (a b : Int) : r.p + a + b = r.p + (a + b) := Int.add_assoc _ _ _
theorem Fk {a : ByteArray} {t : List (List T)} : Al.decL ([.v (.string a)] :: t) = (Al.decL t).map (a :: ·) := by
 show BA Al.dec _ = (BA Al.dec t).map _
 simp only [BA, J8]
 cases BA Al.dec t <;> rfl
theorem Fj {a : Int} {t : List (List T)} : EA.decL ([.v (.int .i64 a)] :: t) = (EA.decL t).map (a :: ·) := by
 show BA EA.dec _ = (BA EA.dec t).map _
 simp only [BA, J7]
 cases BA EA.dec t <;> rfl
def OR (r : Rd) (l : List ByteArray) : ByteArray := l.getD (Ae r l.length).toNat default
def HO (r : Rd) (l : List Int) : Int := l.getD (Ae r l.length).toNat default
theorem Hu {r : Rd} {l : List ByteArray} (h : 0 ≤ r.p) (h1 : r.p ≤ 1000000000) (hl : 1 ≤ l.length) : OR r l ∈ l := by
 have := Bn (n := l.length) h h1
 exact AC (by omega)
theorem Jz {r : Rd} {l : List Int} (h : 0 ≤ r.p) (h1 : r.p ≤ 1000000000) (hl : 1 ≤ l.length) : HO r l ∈ l := by
 have := Bn (n := l.length) h h1
 exact AC (by omega)
def UY : Mt := HB (lc EU (lc (Al.aow true 1) l0)) (fun p => 0 ≤ p.1.p ∧ p.1.p ≤ 1000000000 ∧ 1 ≤ p.2.1.length ∧ p.2.1.length ≤ 1000) (fun p => ([EU.enc (p.1.nx 1), (Al.aow true 1).enc p.2.1], .t (.v (.string (OR p.1 p.2.1)))))
section
attribute [local go_sem] GK AK Bi A5 A7 BD BQ CE BP BR lm List.length_append List.length_cons List.length_nil List.map_append List.map_nil Nat.zero_add List.nil_append AS.opn AS.cls AS.nilb AS.renb AS.up Bool.not_false Bool.not_true List.set_set List.set_cons_zero List.set_cons_succ List.set_nil List.mem_singleton forall_eq AT
set_option maxHeartbeats 800000 in
theorem qC {G : Gt} (hG : Ah G) (hh : G.e 53 = AN GK) : Gd G 30 (AN UY) := by
 refine JS (dp := fun _ => true) (fn := Tryz.f30) (n := 2) rfl rfl hG ?_
 rintro ⟨r, l, ⟨⟩⟩ hpre
 simp -implicitDefEqProofs only [Tryz.f30, go_sem, hh, Int.reduceAdd, seval] at hpre ⊢
 obtain ⟨h1, h2, h3, h4⟩ := hpre
 try dsimp only at h1 h2 h3 h4
 have hb := Bn (n := l.length) h1 h2
 with_reducible repeat' (first | apply ai | intro _ | ((first | apply s1 | apply s3 | apply s4) <;> intro hb <;> simp -implicitDefEqProofs only [hb, go_sem, hh, Int.reduceAdd, seval] <;> try simp only [qz] at hb))
 all_goals (try simp only [maxLen, tn] at *)
 all_goals first | rfl | omega | decide | assumption | skip
end
def Xt : Mt := HB (lc EU (lc (EA.aow true 1) l0)) (fun p => 0 ≤ p.1.p ∧ p.1.p ≤ 1000000000 ∧ 1 ≤ p.2.1.length ∧ p.2.1.length ≤ 1000) (fun p => ([EU.enc (p.1.nx 1), (EA.aow true 1).enc p.2.1], .t (.v (.int .i64 (HO p.1 p.2.1)))))
section
attribute [local go_sem] GK AK Bi A5 A7 BD BQ CE BP BR lm List.length_append List.length_cons List.length_nil List.map_append List.map_nil Nat.zero_add List.nil_append AS.opn AS.cls AS.nilb AS.renb AS.up Bool.not_false Bool.not_true List.set_set List.set_cons_zero List.set_cons_succ List.set_nil List.mem_singleton forall_eq AT
set_option maxHeartbeats 800000 in
theorem qD {G : Gt} (hG : Ah G) (hh : G.e 53 = AN GK) : Gd G 31 (AN Xt) := by
 refine JS (dp := fun _ => true) (fn := Tryz.f31) (n := 2) rfl rfl hG ?_
 rintro ⟨r, l, ⟨⟩⟩ hpre
 simp -implicitDefEqProofs only [Tryz.f31, go_sem, hh, Int.reduceAdd, seval] at hpre ⊢
 obtain ⟨h1, h2, h3, h4⟩ := hpre
 try dsimp only at h1 h2 h3 h4
 have hb := Bn (n := l.length) h1 h2
 with_reducible repeat' (first | apply ai | intro _ | ((first | apply s1 | apply s3 | apply s4) <;> intro hb <;> simp -implicitDefEqProofs only [hb, go_sem, hh, Int.reduceAdd, seval] <;> try simp only [qz] at hb))
 all_goals (try simp only [maxLen, tn] at *)
 all_goals first | rfl | omega | decide | assumption | skip
end
def uR : List ByteArray := [⟨#[111, 110, 101, 46, 111, 114, 103]⟩, ⟨#[116, 119, 111, 46, 111, 114, 103]⟩, ⟨#[104, 117, 98, 46, 110, 101, 116]⟩, ⟨#[120, 46, 99, 111, 109]⟩, ⟨#[102, 97, 114, 46, 99, 111, 109]⟩, ⟨#[111, 116, 104, 101, 114, 46, 99, 111, 109]⟩, ⟨#[97, 46, 111, 110, 101, 46, 111, 114, 103]⟩]
def ww : List ByteArray := [⟨#[97]⟩, ⟨#[98]⟩, ⟨#[97, 110, 110]⟩, ⟨#[98, 111, 98, 55]⟩]
def vA : List ByteArray := [⟨#[104, 101, 108, 108, 111]⟩, ⟨#[]⟩, ⟨#[46]⟩, ⟨#[46, 46]⟩, ⟨#[46, 100, 111, 116]⟩, ⟨#[97, 32, 108, 111, 110, 103, 101, 114, 32, 108, 105, 110, 101, 32, 111, 102, 32, 116, 101, 120, 116]⟩, ⟨#[72, 111, 112, 58, 32, 111, 110, 101, 46, 111, 114, 103]⟩, ⟨#[72, 111, 112, 58, 32]⟩, ⟨#[73, 100, 58, 32, 55]⟩, ⟨#[110, 111, 116, 32, 100, 101, 108, 105, 118, 101, 114, 101, 100, 58]⟩, ⟨#[60, 97, 64, 111, 110, 101, 46, 111, 114, 103, 62]⟩, ⟨#[108, 105, 110, 101, 32, 116, 104, 97, 116, 32, 105, 115, 32, 101, 120, 97, 99, 116, 108, 121, 32, 102, 111, 114, 116, 121, 32, 98, 121, 116, 101, 115, 32, 108, 111, 110, 103, 46, 46, 33]⟩]
def uS (r : Rd) : ByteArray := OR r uR
def il (r : Rd) : ByteArray := OR r vA
def Dq (r : Rd) : Ad := ⟨OR r ww, uS (r.nx 1)⟩
def Ce (r : Rd) : Ad × Rd :=
 if Ae (r.nx 2) 10 = 0 then (⟨OR (r.nx 3) [⟨#[]⟩, ⟨#[65]⟩, ⟨#[116, 111, 111, 108, 111, 110, 103, 110, 97, 109, 101]⟩, ⟨#[97, 64, 98]⟩], (Dq r).domain⟩, r.nx 4)
 else if Ae (r.nx 2) 10 = 1 then (⟨(Dq r).user, OR (r.nx 3) [⟨#[]⟩, ⟨#[97, 46, 46, 98]⟩, ⟨#[46, 97]⟩, ⟨#[97, 46, 98, 46, 99, 46, 100]⟩, ⟨#[85, 112, 46, 111, 114, 103]⟩]⟩, r.nx 4)
 else if Ae (r.nx 2) 10 = 2 then (⟨⟨#[]⟩, ⟨#[]⟩⟩, r.nx 3)
 else (Dq r, r.nx 3)
def m7 : Mt := HB (lc EU l0) (fun p => 0 ≤ p.1.p ∧ p.1.p ≤ 999999990) (fun p => ([EU.enc (p.1.nx 1)], .t (.v (.string (uS p.1)))))
section
attribute [local go_sem] UY AK Bi A5 A7 BD BQ CE BP BR lm List.length_append List.length_cons List.length_nil List.map_append List.map_nil Nat.zero_add List.nil_append AS.opn AS.cls AS.nilb AS.renb AS.up Bool.not_false Bool.not_true List.set_set List.set_cons_zero List.set_cons_succ List.set_nil List.mem_singleton forall_eq Fk G7 G8 G9 Du Dv
set_option maxHeartbeats 800000 in
theorem fK {G : Gt} (hG : Ah G) (hh : G.e 30 = AN UY) : Gd G 104 (AN m7) := by
 refine JS (dp := fun _ => true) (fn := Tryz.f104) (n := 1) rfl rfl hG ?_
 rintro ⟨r, ⟨⟩⟩ hpre
 simp -implicitDefEqProofs only [Tryz.f104, go_sem, hh, Int.reduceAdd, seval] at hpre ⊢
 obtain ⟨h1, h2⟩ := hpre
 try dsimp only at h1 h2
 with_reducible repeat' (first | apply ai | intro _ | ((first | apply s1 | apply s3 | apply s4) <;> intro hb <;> simp -implicitDefEqProofs only [hb, go_sem, hh, Int.reduceAdd, seval] <;> try simp only [qz] at hb))
 all_goals (try simp only [maxLen, tn] at *)
 all_goals first | rfl | omega | decide | assumption | skip
end
def nl : Mt := HB (lc EU l0) (fun p => 0 ≤ p.1.p ∧ p.1.p ≤ 999999990) (fun p => ([EU.enc (p.1.nx 1)], .t (.v (.string (il p.1)))))
section
attribute [local go_sem] UY AK Bi A5 A7 BD BQ CE BP BR lm List.length_append List.length_cons List.length_nil List.map_append List.map_nil Nat.zero_add List.nil_append AS.opn AS.cls AS.nilb AS.renb AS.up Bool.not_false Bool.not_true List.set_set List.set_cons_zero List.set_cons_succ List.set_nil List.mem_singleton forall_eq Fk G7 G8 G9 Du Dv
set_option maxHeartbeats 800000 in
theorem gX {G : Gt} (hG : Ah G) (hh : G.e 30 = AN UY) : Gd G 173 (AN nl) := by
 refine JS (dp := fun _ => true) (fn := Tryz.f173) (n := 1) rfl rfl hG ?_
 rintro ⟨r, ⟨⟩⟩ hpre
 simp -implicitDefEqProofs only [Tryz.f173, go_sem, hh, Int.reduceAdd, seval] at hpre ⊢
 obtain ⟨h1, h2⟩ := hpre
 try dsimp only at h1 h2
 with_reducible repeat' (first | apply ai | intro _ | ((first | apply s1 | apply s3 | apply s4) <;> intro hb <;> simp -implicitDefEqProofs only [hb, go_sem, hh, Int.reduceAdd, seval] <;> try simp only [qz] at hb))
 all_goals (try simp only [maxLen, tn] at *)
 all_goals first | rfl | omega | decide | assumption | skip
end
def eG : Mt := HB (lc EU l0) (fun p => 0 ≤ p.1.p ∧ p.1.p ≤ 999999980) (fun p => ([EU.enc (p.1.nx 2)], .agg [.t (.v (.string (Dq p.1).user)), .t (.v (.string (Dq p.1).domain))]))
section
attribute [local go_sem] UY m7 AK Bi A5 A7 BD BQ CE BP BR lm List.length_append List.length_cons List.length_nil List.map_append List.map_nil Nat.zero_add List.nil_append AS.opn AS.cls AS.nilb AS.renb AS.up Bool.not_false Bool.not_true List.set_set List.set_cons_zero List.set_cons_succ List.set_nil List.mem_singleton forall_eq Fk G7 G8 G9 Du Dv
set_option maxHeartbeats 800000 in
theorem qU {G : Gt} (hG : Ah G) (hh : G.e 30 = AN UY ∧ G.e 104 = AN m7) : Gd G 55 (AN eG) := by
 refine JS (dp := fun _ => true) (fn := Tryz.f55) (n := 1) rfl rfl hG ?_
 rintro ⟨r, ⟨⟩⟩ hpre
 simp -implicitDefEqProofs only [Tryz.f55, go_sem, hh, Int.reduceAdd, seval] at hpre ⊢
 obtain ⟨h1, h2⟩ := hpre
 try dsimp only at h1 h2
 with_reducible repeat' (first | apply ai | intro _ | ((first | apply s1 | apply s3 | apply s4) <;> intro hb <;> simp -implicitDefEqProofs only [hb, go_sem, hh, Int.reduceAdd, seval] <;> try simp only [qz] at hb))
 all_goals (try simp only [maxLen, tn] at *)
 all_goals first | rfl | omega | decide | assumption | skip
end
theorem T6 {r : Rd} (h : Ae (r.nx 2) 10 = 0) : Ce r = (⟨OR (r.nx 3) [⟨#[]⟩, ⟨#[65]⟩, ⟨#[116, 111, 111, 108, 111, 110, 103, 110, 97, 109, 101]⟩, ⟨#[97, 64, 98]⟩], (Dq r).domain⟩, r.nx 4) := if_pos h
theorem T7 {r : Rd} (h0 : ¬ Ae (r.nx 2) 10 = 0) (h : Ae (r.nx 2) 10 = 1) : Ce r = (⟨(Dq r).user, OR (r.nx 3) [⟨#[]⟩, ⟨#[97, 46, 46, 98]⟩, ⟨#[46, 97]⟩, ⟨#[97, 46, 98, 46, 99, 46, 100]⟩, ⟨#[85, 112, 46, 111, 114, 103]⟩]⟩, r.nx 4) := by unfold Ce; rw [if_neg h0, if_pos h]
theorem T8 {r : Rd} (h0 : ¬ Ae (r.nx 2) 10 = 0) (h1 : ¬ Ae (r.nx 2) 10 = 1) (h : Ae (r.nx 2) 10 = 2) : Ce r = (⟨⟨#[]⟩, ⟨#[]⟩⟩, r.nx 3) := by unfold Ce; rw [if_neg h0, if_neg h1, if_pos h]
theorem T9 {r : Rd} (h0 : ¬ Ae (r.nx 2) 10 = 0) (h1 : ¬ Ae (r.nx 2) 10 = 1) (h : ¬ Ae (r.nx 2) 10 = 2) : Ce r = (Dq r, r.nx 3) := by unfold Ce; rw [if_neg h0, if_neg h1, if_neg h]
def d6 : Mt := HB (lc EU l0) (fun p => 0 ≤ p.1.p ∧ p.1.p ≤ 999999950) (fun p => ([EU.enc (Ce p.1).2], .agg [.t (.v (.string (Ce p.1).1.user)), .t (.v (.string (Ce p.1).1.domain))]))
section
attribute [local go_sem] eG GK UY AK Bi A5 A7 BD BQ CE BP BR lm List.length_append List.length_cons List.length_nil List.map_append List.map_nil Nat.zero_add List.nil_append AS.opn AS.cls AS.nilb AS.renb AS.up Bool.not_false Bool.not_true List.set_set List.set_cons_zero List.set_cons_succ List.set_nil List.mem_singleton forall_eq Fk G7 G8 G9 Du Dv
set_option maxHeartbeats 1600000 in
theorem fH {G : Gt} (hG : Ah G) (hh : G.e 55 = AN eG ∧ G.e 53 = AN GK ∧ G.e 30 = AN UY) : Gd G 101 (AN d6) := by
 refine JS (dp := fun _ => true) (fn := Tryz.f101) (n := 1) rfl rfl hG ?_
 rintro ⟨r, ⟨⟩⟩ hpre
 obtain ⟨h1, h2⟩ := hpre
 try dsimp only at h1 h2 ⊢
 by_cases q0 : Ae (r.nx 2) 10 = 0
 ·rw [T6 q0]
  simp -implicitDefEqProofs only [Tryz.f101, q0, eq_self, decide_true, decide_false, go_sem, hh, Int.reduceAdd, seval]
  with_reducible repeat' (first | apply ai | intro _ | ((first | apply s1 | apply s3 | apply s4) <;> intro hb <;> simp -implicitDefEqProofs only [hb, go_sem, hh, Int.reduceAdd, seval] <;> try simp only [qz] at hb))
  all_goals (try simp only [maxLen, tn] at *)
  all_goals first | rfl | omega | decide | assumption | skip
 ·by_cases q1 : Ae (r.nx 2) 10 = 1
  ·rw [T7 q0 q1]
   simp -implicitDefEqProofs only [Tryz.f101, q1, Int.reduceEq, eq_self, decide_true, decide_false, go_sem, hh, Int.reduceAdd, seval]
   with_reducible repeat' (first | apply ai | intro _ | ((first | apply s1 | apply s3 | apply s4) <;> intro hb <;> simp -implicitDefEqProofs only [hb, go_sem, hh, Int.reduceAdd, seval] <;> try simp only [qz] at hb))
   all_goals (try simp only [maxLen, tn] at *)
   all_goals first | rfl | omega | decide | assumption | skip
  ·by_cases q2 : Ae (r.nx 2) 10 = 2
   ·rw [T8 q0 q1 q2]
    simp -implicitDefEqProofs only [Tryz.f101, q2, Int.reduceEq, eq_self, decide_true, decide_false, go_sem, hh, Int.reduceAdd, seval]
    with_reducible repeat' (first | apply ai | intro _ | ((first | apply s1 | apply s3 | apply s4) <;> intro hb <;> simp -implicitDefEqProofs only [hb, go_sem, hh, Int.reduceAdd, seval] <;> try simp only [qz] at hb))
    all_goals (try simp only [maxLen, tn] at *)
    all_goals first | rfl | omega | decide | assumption | skip
   ·rw [T9 q0 q1 q2]
    simp -implicitDefEqProofs only [Tryz.f101, q0, q1, q2, eq_self, decide_true, decide_false, go_sem, hh, Int.reduceAdd, seval]
    with_reducible repeat' (first | apply ai | intro _ | ((first | apply s1 | apply s3 | apply s4) <;> intro hb <;> simp -implicitDefEqProofs only [hb, go_sem, hh, Int.reduceAdd, seval] <;> try simp only [qz] at hb))
    all_goals (try simp only [maxLen, tn] at *)
    all_goals first | rfl | omega | decide | assumption | skip
end
def Lr (r : Rd) (n : Nat) : List ByteArray := (List.range n).map fun (j : Nat) => il (r.nx (j : Int))
theorem mq (r : Rd) (n : Nat) : Lr r (n + 1) = Lr r n ++ [il (r.nx n)] := by
 unfold Lr; rw [List.range_succ, List.map_append]; rfl
theorem PA (r : Rd) (n : Nat) : (Lr r n).length = n := by unfold Lr; simp
def JO (r : Rd) (m : Int) : List ByteArray := Lr (r.nx 1) (Ae r (m + 1)).toNat
def NO (r : Rd) (m : Int) : Rd := r.nx (1 + Ae r (m + 1))
def d8 : Mt := HB (lc EU (lc BK l0)) (fun p => 0 ≤ p.1.p ∧ p.1.p ≤ 999999000 ∧ 0 ≤ p.2.1 ∧ p.2.1 ≤ 100) (fun p => ([EU.enc (NO p.1 p.2.1), BK.enc p.2.1], .o true 1 ((JO p.1 p.2.1).map AH)))
section
attribute [local go_sem] GK nl AK Bi A5 A7 BD BQ CE BP BR lm List.length_append List.length_cons List.length_nil List.map_append List.map_nil Nat.zero_add List.nil_append AS.opn AS.cls AS.nilb AS.renb AS.up Bool.not_false Bool.not_true List.set_set List.set_cons_zero List.set_cons_succ List.set_nil List.mem_singleton forall_eq
set_option maxHeartbeats 1600000 in
theorem fz {G : Gt} (hG : Ah G) (hh : G.e 53 = AN GK ∧ G.e 173 = AN nl) : Gd G 144 (AN d8) := by
 refine JS (dp := fun _ => true) (fn := Tryz.f144) (n := 2) rfl rfl hG ?_
 rintro ⟨r, m, ⟨⟩⟩ hpre
 simp -implicitDefEqProofs only [Tryz.f144, go_sem, hh, Int.reduceAdd, seval] at hpre ⊢
 obtain ⟨h1, h2, h3, h4⟩ := hpre
 try dsimp only at h1 h2 h3 h4
 have hb := Bn (n := m + 1) h1 (by omega)
 obtain ⟨n, hn⟩ : ∃ n : Nat, n = (Ae r (m + 1)).toNat := ⟨_, rfl⟩
 have hn2 : Ae r (m + 1) = n := by omega
 have e1 : NO r m = r.nx (1 + n) := by unfold NO; rw [hn2]
 have e2 : JO r m = Lr (r.nx 1) n := by unfold JO; rw [← hn]
 rw [e1, e2]
 simp -implicitDefEqProofs only [hn2, go_sem, hh, Int.reduceAdd, seval]
 with_reducible repeat' (first | apply ai | intro _ | ((first | apply s1 | apply s3 | apply s4) <;> intro hb <;> simp -implicitDefEqProofs only [hb, go_sem, hh, Int.reduceAdd, seval] <;> try simp only [qz] at hb))
 all_goals (try simp only [maxLen, tn] at *)
 all_goals first | rfl | omega | decide | assumption | skip
 refine AE [(5, 1905, true, 1)] (ι := {i : Nat // i ≤ n}) (fun p => ⟨[(0, .pb 1900 0), (5, .h 1905), (6, .t (.v (.int .i64 (n - p.1))))], [(1900, some (.box [.t (.sl 1 (r.b.map CT)), .t (.v (.int .i64 (r.p + (1 + p.1))))])), (1905, some (.arr true 1 ((Lr (r.nx 1) p.1).map AH)))]⟩) (fun p => n - p.1) ⟨0, by simp⟩ rfl ?_ ?_
 ·simp -implicitDefEqProofs only [go_sem, hh, Int.reduceAdd, seval]
  simp [Lr]
 ·rintro ⟨i, hi⟩
  have hlen := PA (r.nx 1) i
  by_cases hlt : (n : Int) - i > 0
  ·simp -implicitDefEqProofs only [hlt, decide_true, tn, go_sem, hh, Int.reduceAdd, seval]
   with_reducible repeat' (first | apply ai | intro _ | ((first | apply s1 | apply s3 | apply s4) <;> intro hb <;> simp -implicitDefEqProofs only [hb, go_sem, hh, Int.reduceAdd, seval] <;> try simp only [qz] at hb))
   all_goals (try simp only [maxLen, tn] at *)
   all_goals first | rfl | omega | decide | assumption | skip
   refine ⟨⟨i + 1, by omega⟩, by dsimp only; omega, ?_⟩
   simp -implicitDefEqProofs only [mq, go_sem, hh, Int.reduceAdd, seval]
   try simp
   omega
  ·have hz : i = n := by omega
   subst hz
   simp -implicitDefEqProofs only [hlt, decide_false, go_sem, hh, Int.reduceAdd, seval]
   with_reducible repeat' (first | apply ai | intro _ | ((first | apply s1 | apply s3 | apply s4) <;> intro hb <;> simp -implicitDefEqProofs only [hb, go_sem, hh, Int.reduceAdd, seval] <;> try simp only [qz] at hb))
   all_goals (try simp only [maxLen, tn] at *)
   all_goals first | rfl | omega | decide | assumption | skip
end
def rd : Ad := ⟨⟨#[]⟩, ⟨#[]⟩⟩
def Db (r : Rd) : Nat → List Ad
 | 0 => []
 | k + 1 => if Dq (r.nx (2 * (k : Int))) ∈ Db r k then Db r k else Db r k ++ [Dq (r.nx (2 * (k : Int)))]
theorem mA {r : Rd} {k : Nat} (h : Dq (r.nx (2 * (k : Int))) ∈ Db r k) : Db r (k + 1) = Db r k := if_pos h
theorem l9 {r : Rd} {k : Nat} (h : ¬ Dq (r.nx (2 * (k : Int))) ∈ Db r k) : Db r (k + 1) = Db r k ++ [Dq (r.nx (2 * (k : Int)))] := if_neg h
theorem J4 (r : Rd) : ∀ k, (Db r k).length ≤ k
 | 0 => Nat.le_refl _
 | k + 1 => by
   have := J4 r k
   unfold Db; split
   ·omega
   ·rw [List.length_append]; simp; omega
theorem Iv (r : Rd) : ∀ k, (Db r k).Nodup
 | 0 => List.nodup_nil
 | k + 1 => by
   unfold Db; split
   ·exact Iv r k
   ·rename_i h
    rw [List.nodup_append]
    exact ⟨Iv r k, by simp, fun a ha b hb e => h (by rw [List.mem_singleton.1 hb] at e; rw [← e]; exact ha)⟩
theorem OI {r : Rd} {a : Ad} : ∀ {k : Nat}, a ∈ Db r k → ∃ j, j < k ∧ a = Dq (r.nx (2 * (j : Int)))
 | k + 1, h => by
   unfold Db at h; split at h
   ·obtain ⟨j, hj, e⟩ := OI h
    exact ⟨j, by omega, e⟩
   ·rcases List.mem_append.1 h with h | h
    ·obtain ⟨j, hj, e⟩ := OI h
     exact ⟨j, by omega, e⟩
    ·exact ⟨k, by omega, List.mem_singleton.1 h⟩
theorem sZ (r : Rd) (k : Nat) : 1 ≤ (Db r (k + 1)).length := by
 unfold Db; split
 ·rename_i h
  have := List.length_pos_of_mem h
  omega
 ·try simp
def VT (r : Rd) : Int := HO (r.nx 2) [1, 4, 9]
def Ay (r : Rd) : Rd := NO (r.nx 3) (VT r)
def JU (r : Rd) : Int := 1 + Ae ((Ay r).nx 1) 4
def Mj (r : Rd) : Ad := if Ae (Ay r) 5 = 0 then rd else Dq r
def bG (r : Rd) : Ml := ⟨Mj r, Db ((Ay r).nx 2) (JU r).toNat, JO (r.nx 3) (VT r)⟩
def QC (r : Rd) : Rd := (Ay r).nx (2 + 2 * JU r)
theorem bH {r : Rd} (h : 0 ≤ r.p) (h1 : r.p ≤ 999999900) : 1 ≤ VT r ∧ VT r ≤ 9 := by
 have := Jz (r := r.nx 2) (l := [1, 4, 9]) (by rw [AK]; omega) (by rw [AK]; omega) (by decide)
 unfold VT
 simp only [List.mem_cons, List.not_mem_nil, or_false] at this
 omega
theorem mr {r : Rd} {m : Int} (h : 0 ≤ r.p) (h1 : r.p ≤ 999999950) (h2 : 0 ≤ m) : (NO r m).b = r.b ∧ r.p + 1 ≤ (NO r m).p ∧ (NO r m).p ≤ r.p + 1 + m := by
 have := Bn (r := r) (n := m + 1) h (by omega)
 unfold NO
 rw [AK, Bi]
 exact ⟨rfl, by omega, by omega⟩
theorem Nu {r : Rd} (h : 0 ≤ r.p) (h1 : r.p ≤ 999999900) : (Ay r).b = r.b ∧ r.p + 4 ≤ (Ay r).p ∧ (Ay r).p ≤ r.p + 13 := by
 have h2 := bH h h1
 have h3 := mr (r := r.nx 3) (m := VT r) (by rw [AK]; omega) (by rw [AK]; omega) (by omega)
 rw [AK, Bi] at h3
 unfold Ay
 exact ⟨h3.1, by omega, by omega⟩
theorem bF {r : Rd} (h : 0 ≤ r.p) (h1 : r.p ≤ 999999900) : 1 ≤ JU r ∧ JU r ≤ 4 := by
 have h2 := Nu h h1
 have h3 := Bn (r := (Ay r).nx 1) (n := 4) (by rw [AK]; omega) (by rw [AK]; omega)
 unfold JU
 omega
theorem lM {r : Rd} (h : 0 ≤ r.p) (h1 : r.p ≤ 999999900) : (QC r).b = r.b ∧ r.p + 4 ≤ (QC r).p ∧ (QC r).p ≤ r.p + 23 := by
 have h2 := Nu h h1
 have h3 := bF h h1
 unfold QC
 rw [AK, Bi]
 exact ⟨h2.1, by omega, by omega⟩
theorem yi {a b : Ad} : ((decide (a.user = b.user) && decide (a.domain = b.domain)) = true) = (a = b) := by
 rw [B8]; simp
theorem yj {a b : Ad} : ((decide (a.user = b.user) && decide (a.domain = b.domain)) = false) = ¬ a = b := by
 rw [B8]; simp
theorem vG {r : Rd} : HO (r.nx 2) [1, 4, 9] = VT r := rfl
theorem rZ {r : Rd} : NO (r.nx 3) (VT r) = Ay r := rfl
theorem vF {r : Rd} : 1 + Ae ((Ay r).nx 1) 4 = JU r := rfl
def Wj : Mt := HB (lc EU l0) (fun p => 0 ≤ p.1.p ∧ p.1.p ≤ 999998000) (fun p => ([EU.enc (QC p.1)], SY (bG p.1)))
section
attribute [local go_sem] eG Xt d8 GK AK Bi A5 A7 BD BQ CE BP BR lm List.length_append List.length_cons List.length_nil List.map_append List.map_nil Nat.zero_add List.nil_append AS.opn AS.cls AS.nilb AS.renb AS.up Bool.not_false Bool.not_true List.set_set List.set_cons_zero List.set_cons_succ List.set_nil List.mem_singleton forall_eq Fj vG rZ vF AT G7 G8 G9 Du Dv
set_option maxHeartbeats 3200000 in
theorem fQ {G : Gt} (hG : Ah G) (hh : G.e 55 = AN eG ∧ G.e 31 = AN Xt ∧ G.e 144 = AN d8 ∧ G.e 53 = AN GK) : Gd G 110 (AN Wj) := by
 refine JS (dp := fun n => !(Nat.beq n 100004 || Nat.beq n 100006)) (fn := Tryz.f110) (n := 1) rfl rfl hG ?_
 rintro ⟨r, ⟨⟩⟩ hpre
 obtain ⟨h1, h2⟩ := hpre
 try dsimp only at h1 h2 ⊢
 have f1 := bH h1 (by omega)
 have f2 := Nu h1 (by omega)
 have f3 := bF h1 (by omega)
 by_cases q : Ae (Ay r) 5 = 0
 ·have hf : Mj r = rd := if_pos q
  simp -implicitDefEqProofs only [Tryz.f110, q, eq_self, decide_true, go_sem, hh, Int.reduceAdd, seval]
  with_reducible repeat' (first | apply ai | intro _ | ((first | apply s1 | apply s3 | apply s4) <;> intro hb <;> simp -implicitDefEqProofs only [hb, go_sem, hh, Int.reduceAdd, seval] <;> try simp only [qz] at hb))
  all_goals (try simp only [maxLen, tn] at *)
  all_goals first | rfl | omega | decide | assumption | skip
  refine AO (Le.nilb 1003 2 1907 true 2 rfl rfl rfl) (AX ?_)
  simp -implicitDefEqProofs only [go_sem, hh, Int.reduceAdd, seval]
  with_reducible repeat' (first | apply ai | intro _ | ((first | apply s1 | apply s3 | apply s4) <;> intro hb <;> simp -implicitDefEqProofs only [hb, go_sem, hh, Int.reduceAdd, seval] <;> try simp only [qz] at hb))
  all_goals (try simp only [maxLen, tn] at *)
  all_goals first | rfl | omega | decide | assumption | skip
  refine AE [] (ι := {i : Nat // (i : Int) ≤ JU r}) (fun ⟨i, _⟩ => ⟨[(0, .pb 1900 0), (2, .pb 1002 0), (3, .pb 1003 0), (4, .t (.v (.int .i64 (JU r - i))))], [(1900, some (.box [.t (.sl 1 ((Ay r).b.map CT)), .t (.v (.int .i64 ((Ay r).p + (2 + 2 * i))))])), (1002, some (.box [.t (.v (.string ⟨#[]⟩)), .t (.v (.string ⟨#[]⟩)), .nil, .nil])), (1003, some (.box [.t (.v (.string ⟨#[]⟩)), .t (.v (.string ⟨#[]⟩)), .h 1907, .h 1014])), (1014, some (.arr true 1 ((JO (r.nx 3) (VT r)).map AH))), (1907, some (.arr true 2 ((Db ((Ay r).nx 2) i).map Am)))]⟩) (fun p => (JU r).toNat - p.1) ⟨0, by omega⟩ rfl ?_ ?_
  ·simp -implicitDefEqProofs only [go_sem, hh, Int.reduceAdd, seval]
   simp [Db]
  ·rintro ⟨i, hi⟩
   dsimp only
   have hlen := J4 ((Ay r).nx 2) i
   by_cases hlt : JU r - (i : Int) > 0
   ·simp -implicitDefEqProofs only [hlt, decide_true, tn, go_sem, hh, Int.reduceAdd, seval]
    with_reducible repeat' (first | apply ai | intro _ | ((first | apply s1 | apply s3 | apply s4) <;> intro hb <;> simp -implicitDefEqProofs only [hb, go_sem, hh, Int.reduceAdd, seval] <;> try simp only [qz] at hb))
    all_goals (try simp only [maxLen, tn] at *)
    all_goals first | rfl | omega | decide | assumption | skip
    refine AE [] (ι := {p : Nat × Bool // p.1 ≤ (Db ((Ay r).nx 2) i).length ∧ (p.2 = true ↔ ∃ j, j < p.1 ∧ (Db ((Ay r).nx 2) i).getD j default = (Dq ((Ay r).nx (2 + 2 * (i : Int)))))}) (fun ⟨⟨k, b⟩, _⟩ => ⟨[(0, .pb 1900 0), (2, .pb 1002 0), (3, .pb 1003 0), (4, .t (.v (.int .i64 (JU r - i)))), (5, .pb 1005 0), (6, .t (.v (.bool b))), (7, .t (.v (.int .i64 k)))], [(1900, some (.box [.t (.sl 1 ((Ay r).b.map CT)), .t (.v (.int .i64 ((Ay r).p + (4 + 2 * i))))])), (1002, some (.box [.t (.v (.string ⟨#[]⟩)), .t (.v (.string ⟨#[]⟩)), .nil, .nil])), (1003, some (.box [.t (.v (.string ⟨#[]⟩)), .t (.v (.string ⟨#[]⟩)), .h 1907, .h 1014])), (1005, some (.box ((Am (Dq ((Ay r).nx (2 + 2 * (i : Int))))).map .t))), (1014, some (.arr true 1 ((JO (r.nx 3) (VT r)).map AH))), (1907, some (.arr true 2 ((Db ((Ay r).nx 2) i).map Am)))]⟩) (fun p => (Db ((Ay r).nx 2) i).length - p.1.1) ⟨(0, false), by simp, by simp⟩ rfl ?_ ?_
    ·simp -implicitDefEqProofs only [go_sem, hh, Int.reduceAdd, seval]
     try simp
     try omega
    ·rintro ⟨⟨k, b⟩, hk, hb2⟩
     dsimp only at hk hb2 ⊢
     by_cases hlt2 : (k : Int) < (Db ((Ay r).nx 2) i).length
     ·cases b
      ·have hn : ¬ ∃ j, j < k ∧ (Db ((Ay r).nx 2) i).getD j default = (Dq ((Ay r).nx (2 + 2 * (i : Int)))) := fun z => by have := hb2.2 z; cases this
       simp -implicitDefEqProofs only [hlt2, decide_true, tn, go_sem, hh, Int.reduceAdd, seval]
       with_reducible repeat' (first | apply ai | intro _ | ((first | apply s1 | apply s3 | apply s4) <;> intro hb <;> simp -implicitDefEqProofs only [hb, go_sem, hh, Int.reduceAdd, seval] <;> try simp only [qz] at hb))
       all_goals (try simp only [maxLen, tn, yi, yj] at *)
       all_goals first | rfl | omega | decide | assumption | skip
       refine ⟨⟨(k + 1, decide ((Db ((Ay r).nx 2) i).getD k default = (Dq ((Ay r).nx (2 + 2 * (i : Int)))))), by dsimp only; omega, by dsimp only; rw [decide_eq_true_eq]; exact ⟨fun z => ⟨k, by omega, z⟩, fun ⟨j, hj, z⟩ => by by_cases e : j = k; (rw [← e]; exact z); (exact absurd ⟨j, by omega, z⟩ hn)⟩⟩, by dsimp only; omega, ?_⟩
       simp -implicitDefEqProofs only [go_sem, hh, Int.reduceAdd, seval]
       simp [B8]
      ·have hn : ∃ j, j < k ∧ (Db ((Ay r).nx 2) i).getD j default = (Dq ((Ay r).nx (2 + 2 * (i : Int)))) := hb2.1 rfl
       simp -implicitDefEqProofs only [hlt2, decide_true, tn, go_sem, hh, Int.reduceAdd, seval]
       with_reducible repeat' (first | apply ai | intro _ | ((first | apply s1 | apply s3 | apply s4) <;> intro hb <;> simp -implicitDefEqProofs only [hb, go_sem, hh, Int.reduceAdd, seval] <;> try simp only [qz] at hb))
       all_goals (try simp only [maxLen, tn] at *)
       all_goals first | rfl | omega | decide | assumption | skip
       refine ⟨⟨(k + 1, true), by dsimp only; omega, by dsimp only; exact ⟨fun _ => hn.elim fun j z => ⟨j, by omega, z.2⟩, fun _ => rfl⟩⟩, by dsimp only; omega, ?_⟩
       simp -implicitDefEqProofs only [go_sem, hh, Int.reduceAdd, seval]
       try simp
     ·have hE : b = true ↔ (Dq ((Ay r).nx (2 + 2 * (i : Int)))) ∈ Db ((Ay r).nx 2) i := hb2.trans ⟨fun ⟨j, hj, z⟩ => z ▸ AC (by omega), fun z => Classical.byContradiction fun f => by
        have := BF (P := fun x : Ad => ¬ x = (Dq ((Ay r).nx (2 + 2 * (i : Int))))) (xs := Db ((Ay r).nx 2) i) (fun j hj e => f ⟨j, by omega, e⟩) _ z
        exact this rfl⟩
      cases b
      ·have hm : ¬ Dq (((Ay r).nx 2).nx (2 * (i : Int))) ∈ Db ((Ay r).nx 2) i := fun z => by rw [BQ] at z; have := hE.2 z; cases this
       have hs := l9 hm
       simp -implicitDefEqProofs only [hlt2, decide_false, go_sem, hh, Int.reduceAdd, seval]
       with_reducible repeat' (first | apply ai | intro _ | ((first | apply s1 | apply s3 | apply s4) <;> intro hb <;> simp -implicitDefEqProofs only [hb, go_sem, hh, Int.reduceAdd, seval] <;> try simp only [qz] at hb))
       all_goals (try simp only [maxLen, tn] at *)
       all_goals first | rfl | omega | decide | assumption | skip
       refine AO (Le.renb 1003 2 1053 1907 rfl rfl rfl rfl) (AX ?_)
       simp -implicitDefEqProofs only [go_sem, hh, Int.reduceAdd, seval]
       with_reducible repeat' (first | apply ai | intro _ | ((first | apply s1 | apply s3 | apply s4) <;> intro hb <;> simp -implicitDefEqProofs only [hb, go_sem, hh, Int.reduceAdd, seval] <;> try simp only [qz] at hb))
       all_goals (try simp only [maxLen, tn] at *)
       all_goals first | rfl | omega | decide | assumption | skip
       refine ⟨⟨i + 1, by omega⟩, by dsimp only; omega, ?_⟩
       simp -implicitDefEqProofs only [hs, go_sem, hh, Int.reduceAdd, seval]
       simp [Hk, BQ]
       try omega
      ·have hm : Dq (((Ay r).nx 2).nx (2 * (i : Int))) ∈ Db ((Ay r).nx 2) i := by rw [BQ]; exact hE.1 rfl
       have hs := mA hm
       simp -implicitDefEqProofs only [hlt2, decide_false, go_sem, hh, Int.reduceAdd, seval]
       with_reducible repeat' (first | apply ai | intro _ | ((first | apply s1 | apply s3 | apply s4) <;> intro hb <;> simp -implicitDefEqProofs only [hb, go_sem, hh, Int.reduceAdd, seval] <;> try simp only [qz] at hb))
       all_goals (try simp only [maxLen, tn] at *)
       all_goals first | rfl | omega | decide | assumption | skip
       refine AX ?_
       simp -implicitDefEqProofs only [go_sem, hh, Int.reduceAdd, seval]
       with_reducible repeat' (first | apply ai | intro _ | ((first | apply s1 | apply s3 | apply s4) <;> intro hb <;> simp -implicitDefEqProofs only [hb, go_sem, hh, Int.reduceAdd, seval] <;> try simp only [qz] at hb))
       all_goals (try simp only [maxLen, tn] at *)
       all_goals first | rfl | omega | decide | assumption | skip
       refine ⟨⟨i + 1, by omega⟩, by dsimp only; omega, ?_⟩
       simp -implicitDefEqProofs only [hs, go_sem, hh, Int.reduceAdd, seval]
       try simp
       try omega
   ·have hz : (i : Int) = JU r := by omega
    have hz2 : (JU r).toNat = i := by omega
    have e1 : QC r = (Ay r).nx (2 + 2 * (i : Int)) := by unfold QC; rw [hz]
    have e2 : bG r = ⟨rd, Db ((Ay r).nx 2) i, JO (r.nx 3) (VT r)⟩ := by unfold bG; rw [hf, hz2]
    rw [e1, e2]
    simp -implicitDefEqProofs only [hlt, decide_false, go_sem, hh, Int.reduceAdd, seval]
    with_reducible repeat' (first | apply ai | intro _ | ((first | apply s1 | apply s3 | apply s4) <;> intro hb <;> simp -implicitDefEqProofs only [hb, go_sem, hh, Int.reduceAdd, seval] <;> try simp only [qz] at hb))
    all_goals (try simp only [maxLen, tn] at *)
    all_goals first | rfl | omega | decide | assumption | skip
 ·have hf : Mj r = Dq r := if_neg q
  simp -implicitDefEqProofs only [Tryz.f110, q, decide_false, go_sem, hh, Int.reduceAdd, seval]
  with_reducible repeat' (first | apply ai | intro _ | ((first | apply s1 | apply s3 | apply s4) <;> intro hb <;> simp -implicitDefEqProofs only [hb, go_sem, hh, Int.reduceAdd, seval] <;> try simp only [qz] at hb))
  all_goals (try simp only [maxLen, tn] at *)
  all_goals first | rfl | omega | decide | assumption | skip
  refine AO (Le.nilb 1003 2 1907 true 2 rfl rfl rfl) (AX ?_)
  simp -implicitDefEqProofs only [go_sem, hh, Int.reduceAdd, seval]
  with_reducible repeat' (first | apply ai | intro _ | ((first | apply s1 | apply s3 | apply s4) <;> intro hb <;> simp -implicitDefEqProofs only [hb, go_sem, hh, Int.reduceAdd, seval] <;> try simp only [qz] at hb))
  all_goals (try simp only [maxLen, tn] at *)
  all_goals first | rfl | omega | decide | assumption | skip
  refine AE [] (ι := {i : Nat // (i : Int) ≤ JU r}) (fun ⟨i, _⟩ => ⟨[(0, .pb 1900 0), (2, .pb 1002 0), (3, .pb 1003 0), (4, .t (.v (.int .i64 (JU r - i))))], [(1900, some (.box [.t (.sl 1 ((Ay r).b.map CT)), .t (.v (.int .i64 ((Ay r).p + (2 + 2 * i))))])), (1002, some (.box [.t (.v (.string ⟨#[]⟩)), .t (.v (.string ⟨#[]⟩)), .nil, .nil])), (1003, some (.box [.t (.v (.string (Dq r).user)), .t (.v (.string (Dq r).domain)), .h 1907, .h 1014])), (1014, some (.arr true 1 ((JO (r.nx 3) (VT r)).map AH))), (1907, some (.arr true 2 ((Db ((Ay r).nx 2) i).map Am)))]⟩) (fun p => (JU r).toNat - p.1) ⟨0, by omega⟩ rfl ?_ ?_
  ·simp -implicitDefEqProofs only [go_sem, hh, Int.reduceAdd, seval]
   simp [Db]
  ·rintro ⟨i, hi⟩
   dsimp only
   have hlen := J4 ((Ay r).nx 2) i
   by_cases hlt : JU r - (i : Int) > 0
   ·simp -implicitDefEqProofs only [hlt, decide_true, tn, go_sem, hh, Int.reduceAdd, seval]
    with_reducible repeat' (first | apply ai | intro _ | ((first | apply s1 | apply s3 | apply s4) <;> intro hb <;> simp -implicitDefEqProofs only [hb, go_sem, hh, Int.reduceAdd, seval] <;> try simp only [qz] at hb))
    all_goals (try simp only [maxLen, tn] at *)
    all_goals first | rfl | omega | decide | assumption | skip
    refine AE [] (ι := {p : Nat × Bool // p.1 ≤ (Db ((Ay r).nx 2) i).length ∧ (p.2 = true ↔ ∃ j, j < p.1 ∧ (Db ((Ay r).nx 2) i).getD j default = (Dq ((Ay r).nx (2 + 2 * (i : Int)))))}) (fun ⟨⟨k, b⟩, _⟩ => ⟨[(0, .pb 1900 0), (2, .pb 1002 0), (3, .pb 1003 0), (4, .t (.v (.int .i64 (JU r - i)))), (5, .pb 1005 0), (6, .t (.v (.bool b))), (7, .t (.v (.int .i64 k)))], [(1900, some (.box [.t (.sl 1 ((Ay r).b.map CT)), .t (.v (.int .i64 ((Ay r).p + (4 + 2 * i))))])), (1002, some (.box [.t (.v (.string ⟨#[]⟩)), .t (.v (.string ⟨#[]⟩)), .nil, .nil])), (1003, some (.box [.t (.v (.string (Dq r).user)), .t (.v (.string (Dq r).domain)), .h 1907, .h 1014])), (1005, some (.box ((Am (Dq ((Ay r).nx (2 + 2 * (i : Int))))).map .t))), (1014, some (.arr true 1 ((JO (r.nx 3) (VT r)).map AH))), (1907, some (.arr true 2 ((Db ((Ay r).nx 2) i).map Am)))]⟩) (fun p => (Db ((Ay r).nx 2) i).length - p.1.1) ⟨(0, false), by simp, by simp⟩ rfl ?_ ?_
    ·simp -implicitDefEqProofs only [go_sem, hh, Int.reduceAdd, seval]
     try simp
     try omega
    ·rintro ⟨⟨k, b⟩, hk, hb2⟩
     dsimp only at hk hb2 ⊢
     by_cases hlt2 : (k : Int) < (Db ((Ay r).nx 2) i).length
     ·cases b
      ·have hn : ¬ ∃ j, j < k ∧ (Db ((Ay r).nx 2) i).getD j default = (Dq ((Ay r).nx (2 + 2 * (i : Int)))) := fun z => by have := hb2.2 z; cases this
       simp -implicitDefEqProofs only [hlt2, decide_true, tn, go_sem, hh, Int.reduceAdd, seval]
       with_reducible repeat' (first | apply ai | intro _ | ((first | apply s1 | apply s3 | apply s4) <;> intro hb <;> simp -implicitDefEqProofs only [hb, go_sem, hh, Int.reduceAdd, seval] <;> try simp only [qz] at hb))
       all_goals (try simp only [maxLen, tn, yi, yj] at *)
       all_goals first | rfl | omega | decide | assumption | skip
       refine ⟨⟨(k + 1, decide ((Db ((Ay r).nx 2) i).getD k default = (Dq ((Ay r).nx (2 + 2 * (i : Int)))))), by dsimp only; omega, by dsimp only; rw [decide_eq_true_eq]; exact ⟨fun z => ⟨k, by omega, z⟩, fun ⟨j, hj, z⟩ => by by_cases e : j = k; (rw [← e]; exact z); (exact absurd ⟨j, by omega, z⟩ hn)⟩⟩, by dsimp only; omega, ?_⟩
       simp -implicitDefEqProofs only [go_sem, hh, Int.reduceAdd, seval]
       simp [B8]
      ·have hn : ∃ j, j < k ∧ (Db ((Ay r).nx 2) i).getD j default = (Dq ((Ay r).nx (2 + 2 * (i : Int)))) := hb2.1 rfl
       simp -implicitDefEqProofs only [hlt2, decide_true, tn, go_sem, hh, Int.reduceAdd, seval]
       with_reducible repeat' (first | apply ai | intro _ | ((first | apply s1 | apply s3 | apply s4) <;> intro hb <;> simp -implicitDefEqProofs only [hb, go_sem, hh, Int.reduceAdd, seval] <;> try simp only [qz] at hb))
       all_goals (try simp only [maxLen, tn] at *)
       all_goals first | rfl | omega | decide | assumption | skip
       refine ⟨⟨(k + 1, true), by dsimp only; omega, by dsimp only; exact ⟨fun _ => hn.elim fun j z => ⟨j, by omega, z.2⟩, fun _ => rfl⟩⟩, by dsimp only; omega, ?_⟩
       simp -implicitDefEqProofs only [go_sem, hh, Int.reduceAdd, seval]
       try simp
     ·have hE : b = true ↔ (Dq ((Ay r).nx (2 + 2 * (i : Int)))) ∈ Db ((Ay r).nx 2) i := hb2.trans ⟨fun ⟨j, hj, z⟩ => z ▸ AC (by omega), fun z => Classical.byContradiction fun f => by
        have := BF (P := fun x : Ad => ¬ x = (Dq ((Ay r).nx (2 + 2 * (i : Int))))) (xs := Db ((Ay r).nx 2) i) (fun j hj e => f ⟨j, by omega, e⟩) _ z
        exact this rfl⟩
      cases b
      ·have hm : ¬ Dq (((Ay r).nx 2).nx (2 * (i : Int))) ∈ Db ((Ay r).nx 2) i := fun z => by rw [BQ] at z; have := hE.2 z; cases this
       have hs := l9 hm
       simp -implicitDefEqProofs only [hlt2, decide_false, go_sem, hh, Int.reduceAdd, seval]
       with_reducible repeat' (first | apply ai | intro _ | ((first | apply s1 | apply s3 | apply s4) <;> intro hb <;> simp -implicitDefEqProofs only [hb, go_sem, hh, Int.reduceAdd, seval] <;> try simp only [qz] at hb))
       all_goals (try simp only [maxLen, tn] at *)
       all_goals first | rfl | omega | decide | assumption | skip
       refine AO (Le.renb 1003 2 1053 1907 rfl rfl rfl rfl) (AX ?_)
       simp -implicitDefEqProofs only [go_sem, hh, Int.reduceAdd, seval]
       with_reducible repeat' (first | apply ai | intro _ | ((first | apply s1 | apply s3 | apply s4) <;> intro hb <;> simp -implicitDefEqProofs only [hb, go_sem, hh, Int.reduceAdd, seval] <;> try simp only [qz] at hb))
       all_goals (try simp only [maxLen, tn] at *)
       all_goals first | rfl | omega | decide | assumption | skip
       refine ⟨⟨i + 1, by omega⟩, by dsimp only; omega, ?_⟩
       simp -implicitDefEqProofs only [hs, go_sem, hh, Int.reduceAdd, seval]
       simp [Hk, BQ]
       try omega
      ·have hm : Dq (((Ay r).nx 2).nx (2 * (i : Int))) ∈ Db ((Ay r).nx 2) i := by rw [BQ]; exact hE.1 rfl
       have hs := mA hm
       simp -implicitDefEqProofs only [hlt2, decide_false, go_sem, hh, Int.reduceAdd, seval]
       with_reducible repeat' (first | apply ai | intro _ | ((first | apply s1 | apply s3 | apply s4) <;> intro hb <;> simp -implicitDefEqProofs only [hb, go_sem, hh, Int.reduceAdd, seval] <;> try simp only [qz] at hb))
       all_goals (try simp only [maxLen, tn] at *)
       all_goals first | rfl | omega | decide | assumption | skip
       refine AX ?_
       simp -implicitDefEqProofs only [go_sem, hh, Int.reduceAdd, seval]
       with_reducible repeat' (first | apply ai | intro _ | ((first | apply s1 | apply s3 | apply s4) <;> intro hb <;> simp -implicitDefEqProofs only [hb, go_sem, hh, Int.reduceAdd, seval] <;> try simp only [qz] at hb))
       all_goals (try simp only [maxLen, tn] at *)
       all_goals first | rfl | omega | decide | assumption | skip
       refine ⟨⟨i + 1, by omega⟩, by dsimp only; omega, ?_⟩
       simp -implicitDefEqProofs only [hs, go_sem, hh, Int.reduceAdd, seval]
       try simp
       try omega
   ·have hz : (i : Int) = JU r := by omega
    have hz2 : (JU r).toNat = i := by omega
    have e1 : QC r = (Ay r).nx (2 + 2 * (i : Int)) := by unfold QC; rw [hz]
    have e2 : bG r = ⟨Dq r, Db ((Ay r).nx 2) i, JO (r.nx 3) (VT r)⟩ := by unfold bG; rw [hf, hz2]
    rw [e1, e2]
    simp -implicitDefEqProofs only [hlt, decide_false, go_sem, hh, Int.reduceAdd, seval]
    with_reducible repeat' (first | apply ai | intro _ | ((first | apply s1 | apply s3 | apply s4) <;> intro hb <;> simp -implicitDefEqProofs only [hb, go_sem, hh, Int.reduceAdd, seval] <;> try simp only [qz] at hb))
    all_goals (try simp only [maxLen, tn] at *)
    all_goals first | rfl | omega | decide | assumption | skip
end
instance (n : Int) : Decidable (Kr n) := by unfold Kr; infer_instance
theorem dU (s : ByteArray) : Td s ↔ (∀ b ∈ bl s, Kr (b.toNat : Int)) ∧ 1 ≤ s.size ∧ s.size ≤ 8 :=
 ⟨fun h => ⟨fun b hb => by
   obtain ⟨j, hj, e⟩ := Hi hb
   rw [← e]; exact h.1 j hj, h.2⟩, fun h => ⟨fun j hj => by
   obtain ⟨b, hb, e⟩ := P9 hj
   rw [e]; exact h.1 b hb, h.2⟩⟩
instance (s : ByteArray) : Decidable (Td s) := decidable_of_iff _ (dU s).symm
instance (s : ByteArray) : Decidable (D9 s) := by unfold D9; infer_instance
instance (s : ByteArray) : Decidable (IH s) := decidable_of_iff _ (HS s).symm
theorem en : ∀ s ∈ uR, D9 s := by decide +kernel
theorem ja : ∀ s ∈ ww, Td s := by decide +kernel
theorem ik : ∀ s ∈ vA, IH s := by decide +kernel
theorem NK {r : Rd} (h : 0 ≤ r.p) (h1 : r.p ≤ 999999990) : BS (Dq r) :=
 ⟨ja _ (Hu h (by omega) (by decide)), en _ (Hu (r := r.nx 1) (by rw [AK]; omega) (by rw [AK]; omega) (by decide))⟩
theorem im {r : Rd} (h : 0 ≤ r.p) (h1 : r.p ≤ 999999990) : IH (il r) := ik _ (Hu h (by omega) (by decide))
theorem dy {r : Rd} {m : Int} (h : 0 ≤ r.p) (h1 : r.p ≤ 999999900) (h2 : 0 ≤ m) (h3 : m ≤ 12) : Ck (JO r m) := by
 have hb := Bn (r := r) (n := m + 1) h (by omega)
 unfold JO
 refine ⟨fun s hs => ?_, by rw [PA]; omega⟩
 unfold Lr at hs
 obtain ⟨j, hj, rfl⟩ := List.mem_map.1 hs
 rw [List.mem_range] at hj
 exact im (by rw [AK, AK]; omega) (by rw [AK, AK]; omega)
theorem Nt {r : Rd} (h : 0 ≤ r.p) (h1 : r.p ≤ 999999800) : DK (bG r) := by
 have h2 := bH h (by omega)
 have h3 := Nu h (by omega)
 have h4 := bF h (by omega)
 obtain ⟨k, hk⟩ : ∃ k, (JU r).toNat = k + 1 := ⟨(JU r).toNat - 1, by omega⟩
 refine ⟨fun a ha => ?_, Iv _ _, ?_, ⟨?_, ?_⟩, dy (by rw [AK]; omega) (by rw [AK]; omega) (by omega) (by omega)⟩
 ·obtain ⟨j, hj, rfl⟩ := OI ha
  exact NK (by rw [AK, AK]; omega) (by rw [AK, AK]; omega)
 ·show BS (Mj r) ∨ Ac (Mj r)
  unfold Mj; split
  ·exact .inr ⟨rfl, rfl⟩
  ·exact .inl (NK h (by omega))
 ·show 1 ≤ (Db _ (JU r).toNat).length
  rw [hk]; exact sZ _ _
 ·have := J4 ((Ay r).nx 2) (JU r).toNat
  show (Db _ (JU r).toNat).length ≤ 4
  omega
theorem CH {a : Ad} (h : BS a ∨ Ac a) : HT a := by
 rcases h with h | h
 ·have h1 := (Jo h.1).2
  have h2 := (DF h.2).2
  exact ⟨by show a.user.size ≤ 1048576; omega, by show a.domain.size ≤ 1048576; omega⟩
 ·obtain ⟨u, d⟩ := a
  obtain ⟨h1, h2⟩ := h
  dsimp only at h1 h2
  subst h1; subst h2
  exact ⟨by show 0 ≤ 1048576; decide, by show 0 ≤ 1048576; decide⟩
theorem HQ {b : List ByteArray} (h : Ck b) : HN Bj b := ⟨by have := h.2; omega, fun s hs => by
 have := (h.1 s hs).2
 show s.size ≤ 1048576; omega⟩
theorem Jp {m : Ml} (h : DK m) : KB m := ⟨CH h.2.2.1, ⟨by have := h.2.2.2.1.2; omega, fun a ha => CH (.inl (h.1 a ha))⟩, HQ h.2.2.2.2⟩
theorem dS {x : Im} (h : Do x) : GX x := ⟨CH h.2.2.2.1, ⟨by have := h.2.2.2.2.1.2; omega, fun r hr => CH (.inl (h.1 r hr).1)⟩, HQ h.2.2.2.2.2⟩
theorem HV {s : Sp} (h : Bh s) : E7 s := ⟨by have := h.2.2.2; omega, fun x hx => dS (h.1 x hx).1⟩
structure Ds where
 s : Sp
 w : Int
 r : Rd
def Jv (z : Ds) : Int := z.w + Ae z.r 5
def Gl (z : Ds) : Prop := (z.s.items.length : Int) = 0 ∨ Ae (z.r.nx 1) 2 = 0
def R0 (z : Ds) : Rd := if (z.s.items.length : Int) = 0 then z.r.nx 1 else z.r.nx 2
def Rz (z : Ds) : Int := Ae (z.r.nx 2) z.s.items.length
def ew (z : Ds) : Int := Ae (z.r.nx 3) (z.s.items.getD (Rz z).toNat default).to.length
open Classical in
noncomputable def CQ (z : Ds) : Ds :=
 if Gl z then (if CI z.s then ⟨Lo z.s (bG (R0 z)) (Jv z), Jv z, QC (R0 z)⟩ else ⟨z.s, Jv z, R0 z⟩)
 else if Ae (z.r.nx 4) 2 = 0 then ⟨DO z.s (Rz z).toNat (ew z).toNat, Jv z, z.r.nx 5⟩
 else ⟨(KD z.s (Rz z).toNat (ew z).toNat (Jv z)).1, Jv z, z.r.nx 5⟩
noncomputable def Ju (z : Ds) : Nat → Ds
 | 0 => z
 | n + 1 => CQ (Ju z n)
theorem Kj {z : Ds} (h : Gl z) (h2 : CI z.s) : CQ z = ⟨Lo z.s (bG (R0 z)) (Jv z), Jv z, QC (R0 z)⟩ := by unfold CQ; rw [if_pos h, if_pos h2]
theorem Kk {z : Ds} (h : Gl z) (h2 : ¬ CI z.s) : CQ z = ⟨z.s, Jv z, R0 z⟩ := by unfold CQ; rw [if_pos h, if_neg h2]
theorem PY {z : Ds} (h : ¬ Gl z) (h2 : Ae (z.r.nx 4) 2 = 0) : CQ z = ⟨DO z.s (Rz z).toNat (ew z).toNat, Jv z, z.r.nx 5⟩ := by unfold CQ; rw [if_neg h, if_pos h2]
theorem PZ {z : Ds} (h : ¬ Gl z) (h2 : ¬ Ae (z.r.nx 4) 2 = 0) : CQ z = ⟨(KD z.s (Rz z).toNat (ew z).toNat (Jv z)).1, Jv z, z.r.nx 5⟩ := by unfold CQ; rw [if_neg h, if_neg h2]
structure Q1 (r : Rd) (i : Nat) (z : Ds) : Prop where
 sp : Bh z.s
 w0 : 0 ≤ z.w
 w1 : z.w ≤ 4 * i
 p0 : r.p ≤ z.r.p
 p1 : z.r.p ≤ r.p + 1 + 30 * i
 b : z.r.b = r.b
theorem dZ {s : Sp} {i k : Nat} {w : Int} (h : Bh s) (hi : i < s.items.length) (hk : k < (s.items.getD i default).to.length) (hw : 0 ≤ w) : Bh (KD s i k w).1 := by
 unfold KD; split
 ·exact h
 ·exact Mh h hi hk (by assumption) hw
theorem kj {r : Rd} {i : Nat} {z : Ds} (h : Q1 r i z) (h0 : 0 ≤ r.p) (h1 : r.p ≤ 999990000) (hi : i ≤ 9) (ha : ¬ Gl z) : (0 ≤ Rz z ∧ Rz z < z.s.items.length) ∧ 0 ≤ ew z ∧ ew z < (z.s.items.getD (Rz z).toNat default).to.length := by
 have a1 := h.p0; have a2 := h.p1
 have hb := Bn (r := z.r.nx 2) (n := z.s.items.length) (by rw [AK]; omega) (by rw [AK]; omega)
 have hc := Bn (r := z.r.nx 3) (n := (z.s.items.getD (Rz z).toNat default).to.length) (by rw [AK]; omega) (by rw [AK]; omega)
 have hl : ¬ (z.s.items.length : Int) = 0 := fun e => ha (.inl e)
 have q1 : 0 ≤ Rz z ∧ Rz z < z.s.items.length := by unfold Rz; omega
 have hx := (h.sp.1 _ (AC (xs := z.s.items) (j := (Rz z).toNat) (by omega))).1.2.2.2.2.1.1
 exact ⟨q1, by unfold ew; omega, by unfold ew; omega⟩
theorem kh {r : Rd} {i : Nat} {z : Ds} (h : Q1 r i z) : (R0 z).b = r.b ∧ z.r.p + 1 ≤ (R0 z).p ∧ (R0 z).p ≤ z.r.p + 2 := by
 unfold R0; split
 ·exact ⟨h.b, by rw [AK]; omega, by rw [AK]; omega⟩
 ·exact ⟨h.b, by rw [AK]; omega, by rw [AK]; omega⟩
theorem ki {r : Rd} {i : Nat} {z : Ds} (h : Q1 r i z) (h0 : 0 ≤ r.p) (h1 : r.p ≤ 999990000) (hi : i ≤ 9) : z.w ≤ Jv z ∧ Jv z ≤ z.w + 4 := by
 have a1 := h.p0; have a2 := h.p1
 have hb := Bn (r := z.r) (n := 5) (by omega) (by omega)
 unfold Jv; omega
theorem ex {r : Rd} {i : Nat} {z : Ds} (h : Q1 r i z) (h0 : 0 ≤ r.p) (h1 : r.p ≤ 999990000) (hi : i ≤ 9) : Q1 r (i + 1) (CQ z) := by
 have a1 := h.p0; have a2 := h.p1; have a3 := h.w0; have a4 := h.w1
 have hw := ki h h0 h1 hi
 have hR := kh h
 by_cases ha : Gl z
 ·by_cases hr : CI z.s
  ·rw [Kj ha hr]
   have hm := lM (r := R0 z) (by omega) (by omega)
   exact ⟨IP h.sp (Nt (by omega) (by omega)) ⟨by omega, by omega⟩ hr, by show 0 ≤ Jv z; omega, by show Jv z ≤ _; omega, by show r.p ≤ (QC _).p; omega, by show (QC _).p ≤ _; omega, by show (QC _).b = _; rw [hm.1, hR.1]⟩
  ·rw [Kk ha hr]
   exact ⟨h.sp, by show 0 ≤ Jv z; omega, by show Jv z ≤ _; omega, by show r.p ≤ (R0 z).p; omega, by show (R0 z).p ≤ _; omega, hR.1⟩
 ·obtain ⟨⟨i0, i1⟩, k0, k1⟩ := kj h h0 h1 hi ha
  by_cases hd : Ae (z.r.nx 4) 2 = 0
  ·rw [PY ha hd]
   exact ⟨Ep h.sp (by omega) (by omega), by show 0 ≤ Jv z; omega, by show Jv z ≤ _; omega, by show r.p ≤ z.r.p + 5; omega, by show z.r.p + 5 ≤ _; omega, h.b⟩
  ·rw [PZ ha hd]
   exact ⟨dZ h.sp (by omega) (by omega) (by omega), by show 0 ≤ Jv z; omega, by show Jv z ≤ _; omega, by show r.p ≤ z.r.p + 5; omega, by show z.r.p + 5 ≤ _; omega, h.b⟩
def Ki (r : Rd) : Ds := ⟨⟨0, []⟩, 0, r.nx 1⟩
theorem YO : Bh ⟨0, []⟩ := ⟨fun x hx => (by cases hx), fun j _ hj => absurd hj (Nat.not_lt_zero _), ⟨by decide, by decide⟩, Nat.zero_le _⟩
theorem Nh {r : Rd} (h0 : 0 ≤ r.p) (h1 : r.p ≤ 999990000) : ∀ i : Nat, i ≤ 9 → Q1 r i (Ju (Ki r) i)
 | 0, _ => ⟨YO, Int.le_refl 0, Int.le_refl 0, by show r.p ≤ r.p + 1; omega, by show r.p + 1 ≤ _; omega, rfl⟩
 | i + 1, h => ex (Nh h0 h1 i (by omega)) h0 h1 (by omega)
noncomputable def Ed (r : Rd) : Sp := (Ju (Ki r) (Ae r 9).toNat).s
noncomputable def Gx (r : Rd) : Rd := (Ju (Ki r) (Ae r 9).toNat).r
theorem cS {r : Rd} (h0 : 0 ≤ r.p) (h1 : r.p ≤ 999990000) : Bh (Ed r) ∧ (Gx r).b = r.b ∧ r.p ≤ (Gx r).p ∧ (Gx r).p ≤ r.p + 300 := by
 have hb := Bn (r := r) (n := 9) h0 (by omega)
 have h := Nh h0 h1 (Ae r 9).toNat (by omega)
 exact ⟨h.sp, h.b, h.p0, by have := h.p1; unfold Gx; omega⟩
theorem uX {z : Ds} : z.w + Ae z.r 5 = Jv z := rfl
theorem uV {z : Ds} : Ae (z.r.nx 2) (z.s.items.length : Int) = Rz z := rfl
theorem uW {z : Ds} : Ae (z.r.nx 3) ((z.s.items.getD (Rz z).toNat default).to.length : Int) = ew z := rfl
def nO : Mt := HB (lc EU l0) (fun p => 0 ≤ p.1.p ∧ p.1.p ≤ 999980000) (fun p => ([EU.enc (Gx p.1)], Xa (Ed p.1)))
section
attribute [local go_sem] GK KY Wj RV RY Y9 Y6 AK Bi A5 A7 BD BQ CE BP BR lm List.length_append List.length_cons List.length_nil List.map_append List.map_nil Nat.zero_add List.nil_append AS.opn AS.cls AS.nilb AS.renb AS.up Bool.not_false Bool.not_true List.set_set List.set_cons_zero List.set_cons_succ List.set_nil List.mem_singleton forall_eq uX uV uW jI AZ AY Ja JR List.take_length List.drop_zero List.length_take List.length_drop List.map_cons
set_option maxHeartbeats 6400000 in
theorem fu {G : Gt} (hG : Ah G) (hh : G.e 53 = AN GK ∧ G.e 121 = AA 0 KY ∧ G.e 110 = AN Wj ∧ G.e 124 = AA 1 RV ∧ G.e 166 = AA 1 RY ∧ G.e 167 = AA 1 Y9 ∧ G.e 118 = AA 0 Y6) : Gd G 140 (AN nO) := by
 refine JS (dp := fun n => !(Nat.beq n 100003)) (fn := Tryz.f140) (n := 1) rfl rfl hG ?_
 rintro ⟨r, ⟨⟩⟩ hpre
 obtain ⟨h1, h2⟩ := hpre
 try dsimp only at h1 h2 ⊢
 have hb := Bn (r := r) (n := 9) h1 (by omega)
 obtain ⟨n, hn⟩ : ∃ n : Nat, n = (Ae r 9).toNat := ⟨_, rfl⟩
 have hn2 : Ae r 9 = n := by omega
 have e1 : Gx r = (Ju (Ki r) n).r := by unfold Gx; rw [← hn]
 have e2 : Ed r = (Ju (Ki r) n).s := by unfold Ed; rw [← hn]
 rw [e1, e2]
 simp -implicitDefEqProofs only [Tryz.f140, hn2, go_sem, hh, Int.reduceAdd, seval]
 with_reducible repeat' (first | apply ai | intro _ | ((first | apply s1 | apply s3 | apply s4) <;> intro hb <;> simp -implicitDefEqProofs only [hb, go_sem, hh, Int.reduceAdd, seval] <;> try simp only [qz] at hb))
 all_goals (try simp only [maxLen, tn] at *)
 all_goals first | rfl | omega | decide | assumption | skip
 refine AO (Le.nilb 1003 1 1907 true 5 rfl rfl rfl) (AO (Le.frzL [1907]) (AX ?_))
 simp -implicitDefEqProofs only [hn2, go_sem, hh, Int.reduceAdd, seval]
 with_reducible repeat' (first | apply ai | intro _ | ((first | apply s1 | apply s3 | apply s4) <;> intro hb <;> simp -implicitDefEqProofs only [hb, go_sem, hh, Int.reduceAdd, seval] <;> try simp only [qz] at hb))
 all_goals (try simp only [maxLen, tn] at *)
 all_goals first | rfl | omega | decide | assumption | skip
 refine AE [] (ι := {i : Nat // i ≤ n}) (fun ⟨i, _⟩ => ⟨[(0, .pb 1900 0), (2, .pb 1002 0), (3, .pb 1003 0), (4, .t (.v (.int .i64 (Ju (Ki r) i).w))), (5, .t (.v (.int .i64 (n - i))))], [(1900, some (.box [.t (.sl 1 ((Ju (Ki r) i).r.b.map CT)), .t (.v (.int .i64 (Ju (Ki r) i).r.p))])), (1002, some (.box [.t (.v (.int .i64 0)), .nil])), (1003, some (.box ((Dx (Ju (Ki r) i).s).map .t)))]⟩) (fun p => n - p.1) ⟨0, by omega⟩ rfl ?_ ?_
 ·simp -implicitDefEqProofs only [go_sem, hh, Int.reduceAdd, seval]
  simp [Ju, Ki, Bi, AK]
  try rfl
 ·rintro ⟨i, hi⟩
  dsimp only
  by_cases hlt : (n : Int) - i > 0
  ·obtain ⟨z, hz⟩ : ∃ z, z = Ju (Ki r) i := ⟨_, rfl⟩
   have hok : Q1 r i z := by rw [hz]; exact Nh h1 (by omega) i (by omega)
   have a1 := hok.p0; have a2 := hok.p1; have a3 := hok.w0; have a4 := hok.w1
   have hw := ki hok h1 (by omega) (by omega)
   have hR := kh hok
   have zs := HV hok.sp
   have zo := hok.sp
   rw [← hz]
   by_cases L : (z.s.items.length : Int) = 0
   ·have ha : Gl z := .inl L
    have eR : R0 z = z.r.nx 1 := if_pos L
    by_cases hr : CI z.s
    ·have b1 := Ap hr
     have zm := Jp (Nt (r := z.r.nx 1) (by rw [AK]; omega) (by rw [AK]; omega))
     have hs : Ju (Ki r) (i + 1) = _ := (show Ju (Ki r) (i + 1) = CQ z by rw [hz]; rfl).trans (eR ▸ Kj ha hr)
     simp -implicitDefEqProofs only [hlt, L, b1, eq_self, decide_true, decide_false, tn, go_sem, hh, Int.reduceAdd, seval]
     with_reducible repeat' (first | apply ai | intro _ | ((first | apply s1 | apply s3 | apply s4) <;> intro hb <;> simp -implicitDefEqProofs only [hb, go_sem, hh, Int.reduceAdd, seval] <;> try simp only [qz] at hb))
     all_goals (try simp only [maxLen, tn] at *)
     all_goals first | rfl | omega | decide | assumption | skip
     refine ⟨⟨i + 1, by omega⟩, by dsimp only; omega, ?_⟩
     simp -implicitDefEqProofs only [hs, go_sem, hh, Int.reduceAdd, seval]
     try simp
     try omega
    ·have b1 := AQ hr
     have hs : Ju (Ki r) (i + 1) = _ := (show Ju (Ki r) (i + 1) = CQ z by rw [hz]; rfl).trans (eR ▸ Kk ha hr)
     simp -implicitDefEqProofs only [hlt, L, b1, eq_self, decide_true, decide_false, tn, go_sem, hh, Int.reduceAdd, seval]
     with_reducible repeat' (first | apply ai | intro _ | ((first | apply s1 | apply s3 | apply s4) <;> intro hb <;> simp -implicitDefEqProofs only [hb, go_sem, hh, Int.reduceAdd, seval] <;> try simp only [qz] at hb))
     all_goals (try simp only [maxLen, tn] at *)
     all_goals first | rfl | omega | decide | assumption | skip
     refine ⟨⟨i + 1, by omega⟩, by dsimp only; omega, ?_⟩
     simp -implicitDefEqProofs only [hs, go_sem, hh, Int.reduceAdd, seval]
     try simp
     try omega
   ·by_cases Q : Ae (z.r.nx 1) 2 = 0
    ·have ha : Gl z := .inr Q
     have eR : R0 z = z.r.nx 2 := if_neg L
     by_cases hr : CI z.s
     ·have b1 := Ap hr
      have zm := Jp (Nt (r := z.r.nx 2) (by rw [AK]; omega) (by rw [AK]; omega))
      have hs : Ju (Ki r) (i + 1) = _ := (show Ju (Ki r) (i + 1) = CQ z by rw [hz]; rfl).trans (eR ▸ Kj ha hr)
      simp -implicitDefEqProofs only [hlt, L, Q, b1, eq_self, decide_true, decide_false, tn, go_sem, hh, Int.reduceAdd, seval]
      with_reducible repeat' (first | apply ai | intro _ | ((first | apply s1 | apply s3 | apply s4) <;> intro hb <;> simp -implicitDefEqProofs only [hb, go_sem, hh, Int.reduceAdd, seval] <;> try simp only [qz] at hb))
      all_goals (try simp only [maxLen, tn] at *)
      all_goals first | rfl | omega | decide | assumption | skip
      refine ⟨⟨i + 1, by omega⟩, by dsimp only; omega, ?_⟩
      simp -implicitDefEqProofs only [hs, go_sem, hh, Int.reduceAdd, seval]
      try simp
      try omega
     ·have b1 := AQ hr
      have hs : Ju (Ki r) (i + 1) = _ := (show Ju (Ki r) (i + 1) = CQ z by rw [hz]; rfl).trans (eR ▸ Kk ha hr)
      simp -implicitDefEqProofs only [hlt, L, Q, b1, eq_self, decide_true, decide_false, tn, go_sem, hh, Int.reduceAdd, seval]
      with_reducible repeat' (first | apply ai | intro _ | ((first | apply s1 | apply s3 | apply s4) <;> intro hb <;> simp -implicitDefEqProofs only [hb, go_sem, hh, Int.reduceAdd, seval] <;> try simp only [qz] at hb))
      all_goals (try simp only [maxLen, tn] at *)
      all_goals first | rfl | omega | decide | assumption | skip
      refine ⟨⟨i + 1, by omega⟩, by dsimp only; omega, ?_⟩
      simp -implicitDefEqProofs only [hs, go_sem, hh, Int.reduceAdd, seval]
      try simp
      try omega
    ·have ha : ¬ Gl z := fun f => f.elim L Q
     obtain ⟨⟨i0, i1⟩, k0, k1⟩ := kj hok h1 (by omega) (by omega) ha
     by_cases D : Ae (z.r.nx 4) 2 = 0
     ·skip
      have hs : Ju (Ki r) (i + 1) = _ := (show Ju (Ki r) (i + 1) = CQ z by rw [hz]; rfl).trans (PY ha D)
      simp -implicitDefEqProofs only [hlt, L, Q, D, eq_self, decide_true, decide_false, tn, go_sem, hh, Int.reduceAdd, seval]
      with_reducible repeat' (first | apply ai | intro _ | ((first | apply s1 | apply s3 | apply s4) <;> intro hb <;> simp -implicitDefEqProofs only [hb, go_sem, hh, Int.reduceAdd, seval] <;> try simp only [qz] at hb))
      all_goals (try simp only [maxLen, tn] at *)
      all_goals first | rfl | omega | decide | assumption | skip
      refine ⟨⟨i + 1, by omega⟩, by dsimp only; omega, ?_⟩
      simp -implicitDefEqProofs only [hs, go_sem, hh, Int.reduceAdd, seval]
      try simp
      try omega
     ·skip
      have hs : Ju (Ki r) (i + 1) = _ := (show Ju (Ki r) (i + 1) = CQ z by rw [hz]; rfl).trans (PZ ha D)
      simp -implicitDefEqProofs only [hlt, L, Q, D, eq_self, decide_true, decide_false, tn, go_sem, hh, Int.reduceAdd, seval]
      with_reducible repeat' (first | apply ai | intro _ | ((first | apply s1 | apply s3 | apply s4) <;> intro hb <;> simp -implicitDefEqProofs only [hb, go_sem, hh, Int.reduceAdd, seval] <;> try simp only [qz] at hb))
      all_goals (try simp only [maxLen, tn] at *)
      all_goals first | rfl | omega | decide | assumption | skip
      refine ⟨⟨i + 1, by omega⟩, by dsimp only; omega, ?_⟩
      simp -implicitDefEqProofs only [hs, go_sem, hh, Int.reduceAdd, seval]
      try simp
      try omega
  ·have hz : i = n := by omega
   subst hz
   have hok := Nh h1 (show r.p ≤ 999990000 by omega) i (by omega)
   have zs := HV hok.sp
   simp -implicitDefEqProofs only [hlt, decide_false, go_sem, hh, Int.reduceAdd, seval]
   with_reducible repeat' (first | apply ai | intro _ | ((first | apply s1 | apply s3 | apply s4) <;> intro hb <;> simp -implicitDefEqProofs only [hb, go_sem, hh, Int.reduceAdd, seval] <;> try simp only [qz] at hb))
   all_goals (try simp only [maxLen, tn] at *)
   all_goals first | rfl | omega | decide | assumption | skip
end
def cO (s : Sp) (k : Nat) (n : Int) : Sp := ⟨s.last, s.items.set k ⟨n, (s.items.getD k default).frm, (s.items.getD k default).to, (s.items.getD k default).body⟩⟩
def Qk (s : Sp) (k : Nat) (l : List Rc) : Sp := ⟨s.last, s.items.set k ⟨(s.items.getD k default).id, (s.items.getD k default).frm, l, (s.items.getD k default).body⟩⟩
def F0 (l : List Rc) (n : Int) : List Rc := l.set 0 ⟨(l.getD 0 default).addr, n, (l.getD 0 default).next⟩
noncomputable def IQ (r : Rd) : Int := Ae (Gx r) (Ed r).items.length
noncomputable def Lq (r : Rd) : Int := Ae ((Gx r).nx 1) 14
noncomputable def KT (r : Rd) : Sp × Rd :=
 if ((Ed r).items.length : Int) > 0 then
  (if Lq r = 0 then (cO (Ed r) (IQ r).toNat (HO ((Gx r).nx 2) [0, 1, 99]), (Gx r).nx 3)
   else if Lq r = 1 then (Qk (Ed r) (IQ r).toNat [], (Gx r).nx 2)
   else if Lq r = 2 then (Qk (Ed r) (IQ r).toNat (F0 ((Ed r).items.getD (IQ r).toNat default).to (HO ((Gx r).nx 2) [-1, 4])), (Gx r).nx 3)
   else if Lq r = 3 then (⟨HO ((Gx r).nx 2) [-1, 0, 1000, 999], (Ed r).items⟩, (Gx r).nx 3)
   else (Ed r, (Gx r).nx 2))
 else (Ed r, Gx r)
theorem j5 {r : Rd} (h : ¬ ((Ed r).items.length : Int) > 0) : KT r = (Ed r, Gx r) := if_neg h
theorem j0 {r : Rd} (h : ((Ed r).items.length : Int) > 0) (c : Lq r = 0) : KT r = (cO (Ed r) (IQ r).toNat (HO ((Gx r).nx 2) [0, 1, 99]), (Gx r).nx 3) := by unfold KT; rw [if_pos h, if_pos c]
theorem j1 {r : Rd} (h : ((Ed r).items.length : Int) > 0) (c : Lq r = 1) : KT r = (Qk (Ed r) (IQ r).toNat [], (Gx r).nx 2) := by unfold KT; rw [if_pos h, if_neg (by omega), if_pos c]
theorem j2 {r : Rd} (h : ((Ed r).items.length : Int) > 0) (c : Lq r = 2) : KT r = (Qk (Ed r) (IQ r).toNat (F0 ((Ed r).items.getD (IQ r).toNat default).to (HO ((Gx r).nx 2) [-1, 4])), (Gx r).nx 3) := by unfold KT; rw [if_pos h, if_neg (by omega), if_neg (by omega), if_pos c]
theorem j3 {r : Rd} (h : ((Ed r).items.length : Int) > 0) (c : Lq r = 3) : KT r = (⟨HO ((Gx r).nx 2) [-1, 0, 1000, 999], (Ed r).items⟩, (Gx r).nx 3) := by unfold KT; rw [if_pos h, if_neg (by omega), if_neg (by omega), if_neg (by omega), if_pos c]
theorem j4 {r : Rd} (h : ((Ed r).items.length : Int) > 0) (c : ¬ Lq r = 0 ∧ ¬ Lq r = 1 ∧ ¬ Lq r = 2 ∧ ¬ Lq r = 3) : KT r = (Ed r, (Gx r).nx 2) := by unfold KT; rw [if_pos h, if_neg c.1, if_neg c.2.1, if_neg c.2.2.1, if_neg c.2.2.2]
theorem CM {s : Sp} {k : Nat} {n : Int} : (s.items.map As).set k [.v (.int .i64 n), .v (.string (s.items.getD k default).frm.user), .v (.string (s.items.getD k default).frm.domain), .sl 4 ((s.items.getD k default).to.map BN), .sl 1 ((s.items.getD k default).body.map AH)] = (cO s k n).items.map As := by
 show _ = (s.items.set k _).map As
 rw [List.map_set]; rfl
theorem A4 {s : Sp} {k : Nat} {l : List Rc} : (s.items.map As).set k [.v (.int .i64 (s.items.getD k default).id), .v (.string (s.items.getD k default).frm.user), .v (.string (s.items.getD k default).frm.domain), .sl 4 (l.map BN), .sl 1 ((s.items.getD k default).body.map AH)] = (Qk s k l).items.map As := by
 show _ = (s.items.set k _).map As
 rw [List.map_set]; rfl
theorem cm {l : List Rc} {n : Int} : (l.map BN).set 0 [.v (.string (l.getD 0 default).addr.user), .v (.string (l.getD 0 default).addr.domain), .v (.int .i64 n), .v (.int .i64 (l.getD 0 default).next)] = (F0 l n).map BN := by
 unfold F0
 rw [List.map_set]; rfl
theorem zG : (0 : Int).toNat = 0 := rfl
theorem te {r : Rd} : Ae (Gx r) ((Ed r).items.length : Int) = IQ r := rfl
theorem tc {r : Rd} : Ae ((Gx r).nx 1) 14 = Lq r := rfl
theorem KC {s : Sp} (h : E7 s) {k : Nat} {x : Im} (hx : GX x) : E7 ⟨s.last, s.items.set k x⟩ := ⟨by show ((s.items.set k x).length : Int) ≤ 1048576; rw [List.length_set]; exact h.1, fun y hy => by
 rcases List.mem_or_eq_of_mem_set hy with hy | rfl
 ·exact h.2 y hy
 ·exact hx⟩
theorem Ym {r : Rd} (h0 : 0 ≤ r.p) (h1 : r.p ≤ 999980000) : E7 (KT r).1 ∧ (KT r).2.b = r.b ∧ r.p ≤ (KT r).2.p ∧ (KT r).2.p ≤ r.p + 303 := by
 obtain ⟨a1, a2, a3, a4⟩ := cS h0 (show r.p ≤ 999990000 by omega)
 have zs := HV a1
 by_cases h : ((Ed r).items.length : Int) > 0
 ·have hb := Bn (r := Gx r) (n := (Ed r).items.length) (by omega) (by omega)
  have hx : GX ((Ed r).items.getD (IQ r).toNat default) := zs.2 _ (AC (by unfold IQ; omega))
  by_cases c0 : Lq r = 0
  ·rw [j0 h c0]; exact ⟨KC zs ⟨hx.1, hx.2.1, hx.2.2⟩, a2, by rw [AK]; omega, by rw [AK]; omega⟩
  ·by_cases c1 : Lq r = 1
   ·rw [j1 h c1]; exact ⟨KC zs ⟨hx.1, ⟨by show ((0 : Nat) : Int) ≤ 1048576; decide, fun _ q => by cases q⟩, hx.2.2⟩, a2, by rw [AK]; omega, by rw [AK]; omega⟩
   ·by_cases c2 : Lq r = 2
    ·rw [j2 h c2]
     refine ⟨KC zs ⟨hx.1, ⟨?_, fun y hy => ?_⟩, hx.2.2⟩, a2, by rw [AK]; omega, by rw [AK]; omega⟩
     ·show ((F0 _ _).length : Int) ≤ _
      unfold F0; rw [List.length_set]; exact hx.2.1.1
     ·have hy : y ∈ F0 _ _ := hy
      unfold F0 at hy
      have hl : 0 < ((Ed r).items.getD (IQ r).toNat default).to.length := (a1.1 _ (AC (xs := (Ed r).items) (j := (IQ r).toNat) (by unfold IQ; omega))).1.2.2.2.2.1.1
      rcases List.mem_or_eq_of_mem_set hy with hy | rfl
      ·exact hx.2.1.2 y hy
      ·have := hx.2.1.2 _ (AC hl)
       exact this
    ·by_cases c3 : Lq r = 3
     ·rw [j3 h c3]; exact ⟨zs, a2, by rw [AK]; omega, by rw [AK]; omega⟩
     ·rw [j4 h ⟨c0, c1, c2, c3⟩]; exact ⟨zs, a2, by rw [AK]; omega, by rw [AK]; omega⟩
 ·rw [j5 h]; exact ⟨zs, a2, a3, by show (Gx r).p ≤ _; omega⟩
def bU (r : Rd) (s : Sp) : Rd := if (s.items.length : Int) = 0 then r else r.nx 1
def XT (r : Rd) (s : Sp) : Im := s.items.getD (Ae (r.nx 1) s.items.length).toNat default
def Xz (r : Rd) (s : Sp) : (Int × Ad) × Rd :=
 if (s.items.length : Int) = 0 ∨ Ae r 6 = 0 then ((Ae (bU r s) 4, Dq ((bU r s).nx 1)), (bU r s).nx 3)
 else if ((XT r s).to.length : Int) = 0 then (((XT r s).id, Dq (r.nx 2)), r.nx 4)
 else (((XT r s).id, ((XT r s).to.getD (Ae (r.nx 2) (XT r s).to.length).toNat default).addr), r.nx 3)
theorem vO {r : Rd} {s : Sp} (h : (s.items.length : Int) = 0) : Xz r s = ((Ae r 4, Dq (r.nx 1)), r.nx 3) := by
 have e : bU r s = r := if_pos h
 unfold Xz; rw [if_pos (.inl h), e]
theorem vP {r : Rd} {s : Sp} (h : ¬ (s.items.length : Int) = 0) (h2 : Ae r 6 = 0) : Xz r s = ((Ae (r.nx 1) 4, Dq (r.nx 2)), r.nx 4) := by
 have e : bU r s = r.nx 1 := if_neg h
 unfold Xz; rw [if_pos (.inr h2), e, BQ, BQ]; rfl
theorem vQ {r : Rd} {s : Sp} (h : ¬ (s.items.length : Int) = 0) (h2 : ¬ Ae r 6 = 0) (h3 : ((XT r s).to.length : Int) = 0) : Xz r s = (((XT r s).id, Dq (r.nx 2)), r.nx 4) := by
 unfold Xz; rw [if_neg (fun q => q.elim h h2), if_pos h3]
theorem vR {r : Rd} {s : Sp} (h : ¬ (s.items.length : Int) = 0) (h2 : ¬ Ae r 6 = 0) (h3 : ¬ ((XT r s).to.length : Int) = 0) : Xz r s = (((XT r s).id, ((XT r s).to.getD (Ae (r.nx 2) (XT r s).to.length).toNat default).addr), r.nx 3) := by
 unfold Xz; rw [if_neg (fun q => q.elim h h2), if_neg h3]
def mz : Mt := HB (lc EU l0) (fun p => 0 ≤ p.1.p ∧ p.1.p ≤ 999980000) (fun p => ([EU.enc (KT p.1).2], Xa (KT p.1).1))
section
attribute [local go_sem] nO GK Xt AK Bi A5 A7 BD BQ CE BP BR lm List.length_append List.length_cons List.length_nil List.map_append List.map_nil Nat.zero_add List.nil_append AS.opn AS.cls AS.nilb AS.renb AS.up Bool.not_false Bool.not_true List.set_set List.set_cons_zero List.set_cons_succ List.set_nil List.mem_singleton forall_eq te tc Fj AT Bb G7 G8 G9 Du Dv
set_option maxHeartbeats 6400000 in
theorem fG {G : Gt} (hG : Ah G) (hh : G.e 140 = AN nO ∧ G.e 53 = AN GK ∧ G.e 31 = AN Xt) : Gd G 100 (AN mz) := by
 refine JS (dp := fun n => !(Nat.beq n 100010 || Nat.beq n 100013)) (fn := Tryz.f100) (n := 1) rfl rfl hG ?_
 rintro ⟨r, ⟨⟩⟩ hpre
 obtain ⟨h1, h2⟩ := hpre
 try dsimp only at h1 h2 ⊢
 obtain ⟨a1, a2, a3, a4⟩ := cS h1 (show r.p ≤ 999990000 by omega)
 have zs := HV a1
 by_cases h : ((Ed r).items.length : Int) > 0
 ·have hb := Bn (r := Gx r) (n := (Ed r).items.length) (by omega) (by omega)
  have hk : 0 ≤ IQ r ∧ IQ r < (Ed r).items.length := by unfold IQ; omega
  by_cases c0 : Lq r = 0
  ·skip
   rw [j0 h c0]
   simp -implicitDefEqProofs only [Tryz.f100, h, c0, eq_self, decide_true, decide_false, Int.reduceEq, go_sem, hh, Int.reduceAdd, seval]
   with_reducible repeat' (first | apply ai | intro _ | ((first | apply s1 | apply s3 | apply s4) <;> intro hb <;> simp -implicitDefEqProofs only [hb, go_sem, hh, Int.reduceAdd, seval] <;> try simp only [qz] at hb))
   all_goals (try simp only [maxLen, tn] at *)
   all_goals first | rfl | omega | decide | assumption | exact CM | exact A4 | exact A4 (l := []) | skip
   all_goals first | (refine AX ?_) | skip
   simp -implicitDefEqProofs only [go_sem, hh, Int.reduceAdd, seval]
   with_reducible repeat' (first | apply ai | intro _ | ((first | apply s1 | apply s3 | apply s4) <;> intro hb <;> simp -implicitDefEqProofs only [hb, go_sem, hh, Int.reduceAdd, seval] <;> try simp only [qz] at hb))
   all_goals (try simp only [maxLen, tn] at *)
   all_goals first | rfl | omega | decide | assumption | exact CM | exact A4 | exact A4 (l := []) | skip
   trace_state
  ·by_cases c1 : Lq r = 1
   ·skip
    rw [j1 h c1]
    simp -implicitDefEqProofs only [Tryz.f100, h, c1, eq_self, decide_true, decide_false, Int.reduceEq, go_sem, hh, Int.reduceAdd, seval]
    with_reducible repeat' (first | apply ai | intro _ | ((first | apply s1 | apply s3 | apply s4) <;> intro hb <;> simp -implicitDefEqProofs only [hb, go_sem, hh, Int.reduceAdd, seval] <;> try simp only [qz] at hb))
    all_goals (try simp only [maxLen, tn] at *)
    all_goals first | rfl | omega | decide | assumption | exact CM | exact A4 | exact A4 (l := []) | skip
    refine AO (Le.setn 1006 (IQ r).toNat (e' := [.v (.int .i64 ((Ed r).items.getD (IQ r).toNat default).id), .v (.string ((Ed r).items.getD (IQ r).toNat default).frm.user), .v (.string ((Ed r).items.getD (IQ r).toNat default).frm.domain), .sl 4 [], .sl 1 (((Ed r).items.getD (IQ r).toNat default).body.map AH)]) rfl (.cons (.same _) (.cons (.same _) (.cons (.same _) (.cons (.nil _) (.cons (.same _) .nil)))))) (AX ?_)
    simp -implicitDefEqProofs only [go_sem, hh, Int.reduceAdd, seval]
    with_reducible repeat' (first | apply ai | intro _ | ((first | apply s1 | apply s3 | apply s4) <;> intro hb <;> simp -implicitDefEqProofs only [hb, go_sem, hh, Int.reduceAdd, seval] <;> try simp only [qz] at hb))
    all_goals (try simp only [maxLen, tn] at *)
    all_goals first | rfl | omega | decide | assumption | exact CM | exact A4 | exact A4 (l := []) | skip
    trace_state
   ·by_cases c2 : Lq r = 2
    ·skip
     rw [j2 h c2]
     simp -implicitDefEqProofs only [Tryz.f100, h, c2, eq_self, decide_true, decide_false, Int.reduceEq, go_sem, hh, Int.reduceAdd, seval]
     with_reducible repeat' (first | apply ai | intro _ | ((first | apply s1 | apply s3 | apply s4) <;> intro hb <;> simp -implicitDefEqProofs only [hb, go_sem, hh, Int.reduceAdd, seval] <;> try simp only [qz] at hb))
     all_goals (try simp only [maxLen, tn] at *)
     all_goals first | rfl | omega | decide | assumption | exact CM | exact A4 | exact A4 (l := []) | skip
     have hkl : (IQ r).toNat < ((Ed r).items.map As).length := by rw [lm]; omega
     have hto : 0 < ((Ed r).items.getD (IQ r).toNat default).to.length := (a1.1 _ (AC (xs := (Ed r).items) (j := (IQ r).toNat) (by omega))).1.2.2.2.2.1.1
     refine LK 1006 1910 2910 (IQ r).toNat 3 rfl (VL As (by omega)) rfl rfl fun x => AX ?_
     simp -implicitDefEqProofs only [IM hkl, Ow hkl, List.length_set, zG, go_sem, hh, Int.reduceAdd, seval]
     with_reducible repeat' (first | apply ai | intro _ | ((first | apply s1 | apply s3 | apply s4) <;> intro hb <;> simp -implicitDefEqProofs only [hb, go_sem, hh, Int.reduceAdd, seval] <;> try simp only [qz] at hb))
     all_goals (try simp only [maxLen, tn] at *)
     all_goals first | rfl | omega | decide | assumption | exact CM | exact A4 | exact A4 (l := []) | (show Aa _ = true; rfl) | skip
     refine Xe 1006 1910 2910 (IQ r).toNat 3 rfl (jK hkl _) rfl rfl rfl rfl (AX ?_)
     simp -implicitDefEqProofs only [cm, go_sem, hh, Int.reduceAdd, seval]
     with_reducible repeat' (first | apply ai | intro _ | ((first | apply s1 | apply s3 | apply s4) <;> intro hb <;> simp -implicitDefEqProofs only [hb, go_sem, hh, Int.reduceAdd, seval] <;> try simp only [qz] at hb))
     all_goals (try simp only [maxLen, tn] at *)
     all_goals first | rfl | omega | decide | assumption | exact CM | exact A4 | exact A4 (l := []) | skip
     trace_state
    ·by_cases c3 : Lq r = 3
     ·skip
      rw [j3 h c3]
      simp -implicitDefEqProofs only [Tryz.f100, h, c3, eq_self, decide_true, decide_false, Int.reduceEq, go_sem, hh, Int.reduceAdd, seval]
      with_reducible repeat' (first | apply ai | intro _ | ((first | apply s1 | apply s3 | apply s4) <;> intro hb <;> simp -implicitDefEqProofs only [hb, go_sem, hh, Int.reduceAdd, seval] <;> try simp only [qz] at hb))
      all_goals (try simp only [maxLen, tn] at *)
      all_goals first | rfl | omega | decide | assumption | exact CM | exact A4 | exact A4 (l := []) | skip
      all_goals first | (refine AX ?_) | skip
      simp -implicitDefEqProofs only [go_sem, hh, Int.reduceAdd, seval]
      with_reducible repeat' (first | apply ai | intro _ | ((first | apply s1 | apply s3 | apply s4) <;> intro hb <;> simp -implicitDefEqProofs only [hb, go_sem, hh, Int.reduceAdd, seval] <;> try simp only [qz] at hb))
      all_goals (try simp only [maxLen, tn] at *)
      all_goals first | rfl | omega | decide | assumption | exact CM | exact A4 | exact A4 (l := []) | skip
      trace_state
     ·skip
      rw [j4 h ⟨c0, c1, c2, c3⟩]
      simp -implicitDefEqProofs only [Tryz.f100, h, c0, c1, c2, c3, eq_self, decide_true, decide_false, Int.reduceEq, go_sem, hh, Int.reduceAdd, seval]
      with_reducible repeat' (first | apply ai | intro _ | ((first | apply s1 | apply s3 | apply s4) <;> intro hb <;> simp -implicitDefEqProofs only [hb, go_sem, hh, Int.reduceAdd, seval] <;> try simp only [qz] at hb))
      all_goals (try simp only [maxLen, tn] at *)
      all_goals first | rfl | omega | decide | assumption | exact CM | exact A4 | exact A4 (l := []) | skip
      all_goals first | (refine AX ?_) | skip
      simp -implicitDefEqProofs only [go_sem, hh, Int.reduceAdd, seval]
      with_reducible repeat' (first | apply ai | intro _ | ((first | apply s1 | apply s3 | apply s4) <;> intro hb <;> simp -implicitDefEqProofs only [hb, go_sem, hh, Int.reduceAdd, seval] <;> try simp only [qz] at hb))
      all_goals (try simp only [maxLen, tn] at *)
      all_goals first | rfl | omega | decide | assumption | exact CM | exact A4 | exact A4 (l := []) | skip
      trace_state
 ·skip
  rw [j5 h]
  simp -implicitDefEqProofs only [Tryz.f100, h, eq_self, decide_true, decide_false, Int.reduceEq, go_sem, hh, Int.reduceAdd, seval]
  with_reducible repeat' (first | apply ai | intro _ | ((first | apply s1 | apply s3 | apply s4) <;> intro hb <;> simp -implicitDefEqProofs only [hb, go_sem, hh, Int.reduceAdd, seval] <;> try simp only [qz] at hb))
  all_goals (try simp only [maxLen, tn] at *)
  all_goals first | rfl | omega | decide | assumption | exact CM | exact A4 | exact A4 (l := []) | skip
  all_goals first | (refine AX ?_) | skip
  simp -implicitDefEqProofs only [go_sem, hh, Int.reduceAdd, seval]
  with_reducible repeat' (first | apply ai | intro _ | ((first | apply s1 | apply s3 | apply s4) <;> intro hb <;> simp -implicitDefEqProofs only [hb, go_sem, hh, Int.reduceAdd, seval] <;> try simp only [qz] at hb))
  all_goals (try simp only [maxLen, tn] at *)
  all_goals first | rfl | omega | decide | assumption | exact CM | exact A4 | exact A4 (l := []) | skip
  trace_state
end
def y8 : Mt := HB (lc EU (lc Q2.ag l0)) (fun p => (0 ≤ p.1.p ∧ p.1.p ≤ 999980000) ∧ E7 p.2.1) (fun p => ([EU.enc (Xz p.1 p.2.1).2, Q2.ag.enc p.2.1], .tup [.t (.v (.int .i64 (Xz p.1 p.2.1).1.1)), .agg [.t (.v (.string (Xz p.1 p.2.1).1.2.user)), .t (.v (.string (Xz p.1 p.2.1).1.2.domain))]]))
theorem oxf {r : Rd} {s : Sp} : s.items.getD (Ae (r.nx 1) (s.items.length : Int)).toNat default = XT r s := rfl
section
attribute [local go_sem] GK eG AK Bi A5 A7 BD BQ CE BP BR lm List.length_append List.length_cons List.length_nil List.map_append List.map_nil Nat.zero_add List.nil_append AS.opn AS.cls AS.nilb AS.renb AS.up Bool.not_false Bool.not_true List.set_set List.set_cons_zero List.set_cons_succ List.set_nil List.mem_singleton forall_eq G7 G8 G9 Du Dv oxf
set_option maxHeartbeats 3200000 in
theorem yM {G : Gt} (hG : Ah G) (hh : G.e 53 = AN GK ∧ G.e 55 = AN eG) : Gd G 29 (AN y8) := by
 refine JS (dp := fun _ => true) (fn := Tryz.f29) (n := 2) rfl rfl hG ?_
 rintro ⟨r, s, ⟨⟩⟩ hpre
 obtain ⟨⟨h1, h2⟩, zs⟩ := hpre
 try dsimp only at h1 h2 zs ⊢
 by_cases L : (s.items.length : Int) = 0
 ·skip
  rw [vO L]
  simp -implicitDefEqProofs only [Tryz.f29, L, eq_self, decide_true, decide_false, Int.reduceEq, go_sem, hh, Int.reduceAdd, seval]
  with_reducible repeat' (first | apply ai | intro _ | ((first | apply s1 | apply s3 | apply s4) <;> intro hb <;> simp -implicitDefEqProofs only [hb, go_sem, hh, Int.reduceAdd, seval] <;> try simp only [qz] at hb))
  all_goals (try simp only [maxLen, tn] at *)
  all_goals first | rfl | omega | decide | assumption | (show Aa _ = true; rfl) | skip
 ·have hb := Bn (r := r.nx 1) (n := s.items.length) (by rw [AK]; omega) (by rw [AK]; omega)
  by_cases P : Ae r 6 = 0
  ·skip
   rw [vP L P]
   simp -implicitDefEqProofs only [Tryz.f29, L, P, eq_self, decide_true, decide_false, Int.reduceEq, go_sem, hh, Int.reduceAdd, seval]
   with_reducible repeat' (first | apply ai | intro _ | ((first | apply s1 | apply s3 | apply s4) <;> intro hb <;> simp -implicitDefEqProofs only [hb, go_sem, hh, Int.reduceAdd, seval] <;> try simp only [qz] at hb))
   all_goals (try simp only [maxLen, tn] at *)
   all_goals first | rfl | omega | decide | assumption | (show Aa _ = true; rfl) | skip
  ·have hc := Bn (r := r.nx 2) (n := (XT r s).to.length) (by rw [AK]; omega) (by rw [AK]; omega)
   by_cases Q : ((XT r s).to.length : Int) = 0
   ·skip
    rw [vQ L P Q]
    simp -implicitDefEqProofs only [Tryz.f29, L, P, Q, eq_self, decide_true, decide_false, Int.reduceEq, go_sem, hh, Int.reduceAdd, seval]
    with_reducible repeat' (first | apply ai | intro _ | ((first | apply s1 | apply s3 | apply s4) <;> intro hb <;> simp -implicitDefEqProofs only [hb, go_sem, hh, Int.reduceAdd, seval] <;> try simp only [qz] at hb))
    all_goals (try simp only [maxLen, tn] at *)
    all_goals first | rfl | omega | decide | assumption | (show Aa _ = true; rfl) | skip
   ·skip
    rw [vR L P Q]
    simp -implicitDefEqProofs only [Tryz.f29, L, P, Q, eq_self, decide_true, decide_false, Int.reduceEq, go_sem, hh, Int.reduceAdd, seval]
    with_reducible repeat' (first | apply ai | intro _ | ((first | apply s1 | apply s3 | apply s4) <;> intro hb <;> simp -implicitDefEqProofs only [hb, go_sem, hh, Int.reduceAdd, seval] <;> try simp only [qz] at hb))
    all_goals (try simp only [maxLen, tn] at *)
    all_goals first | rfl | omega | decide | assumption | (show Aa _ = true; rfl) | skip
end
def opn (b : List UInt8) : Rd := ⟨if (b.length : Int) > 2000 then b.take 2000 else b, 0⟩
theorem vV {b : List UInt8} (h : (b.length : Int) > 2000) : opn b = ⟨b.take 2000, 0⟩ := by unfold opn; rw [if_pos h]
theorem vU {b : List UInt8} (h : ¬ (b.length : Int) > 2000) : opn b = ⟨b, 0⟩ := by unfold opn; rw [if_neg h]
theorem Gw (b : List UInt8) : (opn b).p = 0 := rfl
theorem vT (b : List UInt8) : (⟨(opn b).b, 0⟩ : Rd) = opn b := rfl
theorem yU {b : List UInt8} {k : Nat} : List.take k (b.map CT) = (b.take k).map CT := by rw [List.map_take]
theorem zI : (2000 : Int).toNat = 2000 := rfl
def xm : Ct := Ar (lc Lj.asl l0) (fun p => True) (fun p => EU.enc (opn p.1))
section
attribute [local go_sem] Jm TA BD Nq yU zI A5 lm List.drop_zero AS.opn AS.cls AS.nilb AS.renb AS.up Bool.not_false Bool.not_true List.set_set List.set_cons_zero List.set_cons_succ List.set_nil List.mem_singleton forall_eq
set_option maxHeartbeats 800000 in
theorem qB {G : Gt} (hG : Ah G) : Gd G 27 (AA 1 xm) := by
 refine gr (fn := Tryz.f27) (n := 1) rfl rfl hG ?_
 rintro ⟨b, ⟨⟩⟩ hpre
 dsimp only
 by_cases L : (b.length : Int) > 2000
 ·rw [vV L]
  simp -implicitDefEqProofs only [Tryz.f27, L, decide_true, go_sem, seval]
  with_reducible repeat' (first | apply ai | intro _ | ((first | apply s1 | apply s3 | apply s4) <;> intro hb <;> simp -implicitDefEqProofs only [hb, go_sem, seval] <;> try simp only [qz] at hb))
  all_goals (try simp only [maxLen, tn] at *)
  all_goals first | rfl | omega | decide | assumption | (show Aa _ = true; rfl) | skip
 ·rw [vU L]
  simp -implicitDefEqProofs only [Tryz.f27, L, decide_false, go_sem, seval]
  with_reducible repeat' (first | apply ai | intro _ | ((first | apply s1 | apply s3 | apply s4) <;> intro hb <;> simp -implicitDefEqProofs only [hb, go_sem, seval] <;> try simp only [qz] at hb))
  all_goals (try simp only [maxLen, tn] at *)
  all_goals first | rfl | omega | decide | assumption | (show Aa _ = true; rfl) | skip
end
theorem T5 {α : Type} [Inhabited α] {xs ys : List α} (i : Nat) (hl : xs.length = ys.length) (h : ∀ j, j < i → xs.getD j default = ys.getD j default) (hi : xs.length ≤ i) : xs = ys := by
 refine List.ext_getElem hl fun j h1 h2 => ?_
 have := h j (by omega)
 simpa [h1, h2] using this
theorem Uu {α : Type} [Inhabited α] {xs ys : List α} {i : Nat} (hall : ∀ j, j < i → xs.getD j default = ys.getD j default) (h : xs.getD i default = ys.getD i default) : ∀ j, j < i + 1 → xs.getD j default = ys.getD j default := fun j hj => by
 by_cases e : j = i
 ·subst e; exact h
 ·exact hall j (by omega)
def tx : Ct := Ar (lc Al.asl (lc Al.asl l0)) (fun p => True) (fun p => .t (.v (.bool (decide (p.1 = p.2.1)))))
section
attribute [local go_sem] lm
set_option maxHeartbeats 800000 in
theorem p9 {G : Gt} (hG : Ah G) : Gd G 25 (AA 0 tx) := by
 refine gr (fn := Tryz.f25) (n := 2) rfl rfl hG ?_
 rintro ⟨xs, ys, ⟨⟩⟩ hpre
 simp -implicitDefEqProofs only [Tryz.f25, go_sem, seval] at hpre ⊢
 with_reducible repeat' (first | apply ai | intro _ | ((first | apply s1 | apply s3 | apply s4) <;> intro hb <;> simp -implicitDefEqProofs only [hb, go_sem, seval] <;> try simp only [qz] at hb))
 all_goals (try simp only [maxLen] at *)
 all_goals first | rfl | omega | skip
 ·have : ¬ xs = ys := fun e => hb (by rw [e])
  simp [this]
 ·have hl : xs.length = ys.length := by omega
  refine AE [] (ι := {i : Nat // i ≤ xs.length ∧ ∀ j, j < i → xs.getD j default = ys.getD j default}) (fun p => ⟨[(0, .t (.sl 1 (xs.map AH))), (1, .t (.sl 1 (ys.map AH))), (5, .t (.v (.int .i64 p.1)))], []⟩) (fun p => xs.length - p.1) ⟨0, by simp, by simp⟩ rfl ?_ ?_
  ·simp -implicitDefEqProofs only [go_sem, seval]
   try simp
  ·rintro ⟨i, hi, hall⟩
   simp -implicitDefEqProofs only [go_sem, seval]
   with_reducible repeat' (first | apply ai | intro _ | ((first | apply s1 | apply s3 | apply s4) <;> intro hb <;> simp -implicitDefEqProofs only [hb, go_sem, seval] <;> try simp only [qz] at hb))
   all_goals (try simp only [maxLen, tn] at *)
   all_goals first
    | rfl
    | omega
    | decide
    | (show Aa _ = true; rfl)
    | ((have hne : ¬ xs = ys := fun e => by subst e; first | exact hb rfl | (simp at hb; done)); simp [hne]; done)
    | (refine ⟨⟨i + 1, by omega, Uu hall (by first | assumption | (simp [*] at *; done))⟩, by dsimp only; omega, ?_⟩
       simp -implicitDefEqProofs only [go_sem, seval]
       try simp
       done)
    | (have hxy := T5 i hl hall (by omega)
       simp [hxy]
       done)
    | skip
end
theorem xc {a b : Ad} : (decide (a.user = b.user) && decide (a.domain = b.domain)) = decide (a = b) := by
 rw [← Bool.decide_and]; exact decide_eq_decide.2 B8.symm
theorem y7 {a b : Ad} : ((true != (decide (a.user = b.user) && decide (a.domain = b.domain))) = true) = ¬ a = b := by
 rw [xc]; by_cases h : a = b <;> simp [h]
theorem xa {a b : Ad} : ((true != (decide (a.user = b.user) && decide (a.domain = b.domain))) = false) = (a = b) := by
 rw [xc]; by_cases h : a = b <;> simp [h]
section
attribute [local go_sem] tx lm
end
section
attribute [local go_sem] lm qa qb
end
theorem Ug {x0 x1 x2 x3 x4 x5 x6 x7 : T} : Bs 2 4 [x0, x1, x2, x3, x4, x5, x6, x7] = [[x0, x1], [x2, x3], [x4, x5], [x6, x7]] := rfl
def FE (k : Int) : List Cf :=
 if k = 0 then [⟨⟨#[111, 110, 101, 46, 111, 114, 103]⟩, [⟨#[111, 110, 101, 46, 111, 114, 103]⟩, ⟨#[97, 46, 111, 110, 101, 46, 111, 114, 103]⟩], [⟨⟨#[116, 119, 111, 46, 111, 114, 103]⟩, ⟨#[116, 119, 111, 46, 111, 114, 103]⟩⟩, ⟨⟨#[110, 101, 116]⟩, ⟨#[104, 117, 98, 46, 110, 101, 116]⟩⟩, ⟨⟨#[99, 111, 109]⟩, ⟨#[104, 117, 98, 46, 110, 101, 116]⟩⟩]⟩, ⟨⟨#[116, 119, 111, 46, 111, 114, 103]⟩, [⟨#[116, 119, 111, 46, 111, 114, 103]⟩], [⟨⟨#[120, 46, 99, 111, 109]⟩, ⟨#[111, 110, 101, 46, 111, 114, 103]⟩⟩, ⟨⟨#[111, 110, 101, 46, 111, 114, 103]⟩, ⟨#[111, 110, 101, 46, 111, 114, 103]⟩⟩]⟩, ⟨⟨#[104, 117, 98, 46, 110, 101, 116]⟩, [⟨#[104, 117, 98, 46, 110, 101, 116]⟩, ⟨#[111, 116, 104, 101, 114, 46, 99, 111, 109]⟩], [⟨⟨#[111, 110, 101, 46, 111, 114, 103]⟩, ⟨#[111, 110, 101, 46, 111, 114, 103]⟩⟩, ⟨⟨#[116, 119, 111, 46, 111, 114, 103]⟩, ⟨#[116, 119, 111, 46, 111, 114, 103]⟩⟩, ⟨⟨#[102, 97, 114, 46, 99, 111, 109]⟩, ⟨#[103, 111, 110, 101, 46, 99, 111, 109]⟩⟩, ⟨⟨#[120, 46, 99, 111, 109]⟩, ⟨#[116, 119, 111, 46, 111, 114, 103]⟩⟩]⟩]
 else if k = 1 then [⟨⟨#[111, 110, 101, 46, 111, 114, 103]⟩, [⟨#[111, 110, 101, 46, 111, 114, 103]⟩, ⟨#[97, 46, 111, 110, 101, 46, 111, 114, 103]⟩], [⟨⟨#[116, 119, 111, 46, 111, 114, 103]⟩, ⟨#[116, 119, 111, 46, 111, 114, 103]⟩⟩, ⟨⟨#[110, 101, 116]⟩, ⟨#[104, 117, 98, 46, 110, 101, 116]⟩⟩, ⟨⟨#[99, 111, 109]⟩, ⟨#[104, 117, 98, 46, 110, 101, 116]⟩⟩]⟩, ⟨⟨#[116, 119, 111, 46, 111, 114, 103]⟩, [⟨#[116, 119, 111, 46, 111, 114, 103]⟩], [⟨⟨#[111, 114, 103]⟩, ⟨#[111, 110, 101, 46, 111, 114, 103]⟩⟩, ⟨⟨#[104, 117, 98, 46, 110, 101, 116]⟩, ⟨#[104, 117, 98, 46, 110, 101, 116]⟩⟩]⟩]
 else if k = 2 then [⟨⟨#[111, 110, 101, 46, 111, 114, 103]⟩, [⟨#[111, 110, 101, 46, 111, 114, 103]⟩, ⟨#[97, 46, 111, 110, 101, 46, 111, 114, 103]⟩], [⟨⟨#[116, 119, 111, 46, 111, 114, 103]⟩, ⟨#[116, 119, 111, 46, 111, 114, 103]⟩⟩, ⟨⟨#[110, 101, 116]⟩, ⟨#[104, 117, 98, 46, 110, 101, 116]⟩⟩]⟩, ⟨⟨#[116, 119, 111, 46, 111, 114, 103]⟩, [⟨#[116, 119, 111, 46, 111, 114, 103]⟩], [⟨⟨#[111, 114, 103]⟩, ⟨#[111, 110, 101, 46, 111, 114, 103]⟩⟩, ⟨⟨#[104, 117, 98, 46, 110, 101, 116]⟩, ⟨#[104, 117, 98, 46, 110, 101, 116]⟩⟩, ⟨⟨#[99, 111, 109]⟩, ⟨#[104, 117, 98, 46, 110, 101, 116]⟩⟩]⟩, ⟨⟨#[104, 117, 98, 46, 110, 101, 116]⟩, [⟨#[104, 117, 98, 46, 110, 101, 116]⟩, ⟨#[111, 116, 104, 101, 114, 46, 99, 111, 109]⟩], [⟨⟨#[111, 110, 101, 46, 111, 114, 103]⟩, ⟨#[111, 110, 101, 46, 111, 114, 103]⟩⟩, ⟨⟨#[116, 119, 111, 46, 111, 114, 103]⟩, ⟨#[116, 119, 111, 46, 111, 114, 103]⟩⟩, ⟨⟨#[102, 97, 114, 46, 99, 111, 109]⟩, ⟨#[103, 111, 110, 101, 46, 99, 111, 109]⟩⟩, ⟨⟨#[120, 46, 99, 111, 109]⟩, ⟨#[116, 119, 111, 46, 111, 114, 103]⟩⟩]⟩]
 else [⟨⟨#[111, 110, 101, 46, 111, 114, 103]⟩, [⟨#[111, 110, 101, 46, 111, 114, 103]⟩, ⟨#[97, 46, 111, 110, 101, 46, 111, 114, 103]⟩], [⟨⟨#[116, 119, 111, 46, 111, 114, 103]⟩, ⟨#[116, 119, 111, 46, 111, 114, 103]⟩⟩, ⟨⟨#[110, 101, 116]⟩, ⟨#[104, 117, 98, 46, 110, 101, 116]⟩⟩, ⟨⟨#[99, 111, 109]⟩, ⟨#[104, 117, 98, 46, 110, 101, 116]⟩⟩]⟩, ⟨⟨#[116, 119, 111, 46, 111, 114, 103]⟩, [⟨#[116, 119, 111, 46, 111, 114, 103]⟩], [⟨⟨#[111, 114, 103]⟩, ⟨#[111, 110, 101, 46, 111, 114, 103]⟩⟩, ⟨⟨#[104, 117, 98, 46, 110, 101, 116]⟩, ⟨#[104, 117, 98, 46, 110, 101, 116]⟩⟩]⟩, ⟨⟨#[104, 117, 98, 46, 110, 101, 116]⟩, [⟨#[104, 117, 98, 46, 110, 101, 116]⟩, ⟨#[111, 116, 104, 101, 114, 46, 99, 111, 109]⟩], [⟨⟨#[111, 110, 101, 46, 111, 114, 103]⟩, ⟨#[111, 110, 101, 46, 111, 114, 103]⟩⟩, ⟨⟨#[116, 119, 111, 46, 111, 114, 103]⟩, ⟨#[116, 119, 111, 46, 111, 114, 103]⟩⟩, ⟨⟨#[102, 97, 114, 46, 99, 111, 109]⟩, ⟨#[103, 111, 110, 101, 46, 99, 111, 109]⟩⟩, ⟨⟨#[120, 46, 99, 111, 109]⟩, ⟨#[116, 119, 111, 46, 111, 114, 103]⟩⟩]⟩]
def DN (r : Rd) : List Cf := FE (Ae r 5)
theorem oY {r : Rd} (h : Ae r 5 = 0) : DN r = [⟨⟨#[111, 110, 101, 46, 111, 114, 103]⟩, [⟨#[111, 110, 101, 46, 111, 114, 103]⟩, ⟨#[97, 46, 111, 110, 101, 46, 111, 114, 103]⟩], [⟨⟨#[116, 119, 111, 46, 111, 114, 103]⟩, ⟨#[116, 119, 111, 46, 111, 114, 103]⟩⟩, ⟨⟨#[110, 101, 116]⟩, ⟨#[104, 117, 98, 46, 110, 101, 116]⟩⟩, ⟨⟨#[99, 111, 109]⟩, ⟨#[104, 117, 98, 46, 110, 101, 116]⟩⟩]⟩, ⟨⟨#[116, 119, 111, 46, 111, 114, 103]⟩, [⟨#[116, 119, 111, 46, 111, 114, 103]⟩], [⟨⟨#[120, 46, 99, 111, 109]⟩, ⟨#[111, 110, 101, 46, 111, 114, 103]⟩⟩, ⟨⟨#[111, 110, 101, 46, 111, 114, 103]⟩, ⟨#[111, 110, 101, 46, 111, 114, 103]⟩⟩]⟩, ⟨⟨#[104, 117, 98, 46, 110, 101, 116]⟩, [⟨#[104, 117, 98, 46, 110, 101, 116]⟩, ⟨#[111, 116, 104, 101, 114, 46, 99, 111, 109]⟩], [⟨⟨#[111, 110, 101, 46, 111, 114, 103]⟩, ⟨#[111, 110, 101, 46, 111, 114, 103]⟩⟩, ⟨⟨#[116, 119, 111, 46, 111, 114, 103]⟩, ⟨#[116, 119, 111, 46, 111, 114, 103]⟩⟩, ⟨⟨#[102, 97, 114, 46, 99, 111, 109]⟩, ⟨#[103, 111, 110, 101, 46, 99, 111, 109]⟩⟩, ⟨⟨#[120, 46, 99, 111, 109]⟩, ⟨#[116, 119, 111, 46, 111, 114, 103]⟩⟩]⟩] := by unfold DN FE; rw [if_pos h]
theorem oZ {r : Rd} (h : Ae r 5 = 1) : DN r = [⟨⟨#[111, 110, 101, 46, 111, 114, 103]⟩, [⟨#[111, 110, 101, 46, 111, 114, 103]⟩, ⟨#[97, 46, 111, 110, 101, 46, 111, 114, 103]⟩], [⟨⟨#[116, 119, 111, 46, 111, 114, 103]⟩, ⟨#[116, 119, 111, 46, 111, 114, 103]⟩⟩, ⟨⟨#[110, 101, 116]⟩, ⟨#[104, 117, 98, 46, 110, 101, 116]⟩⟩, ⟨⟨#[99, 111, 109]⟩, ⟨#[104, 117, 98, 46, 110, 101, 116]⟩⟩]⟩, ⟨⟨#[116, 119, 111, 46, 111, 114, 103]⟩, [⟨#[116, 119, 111, 46, 111, 114, 103]⟩], [⟨⟨#[111, 114, 103]⟩, ⟨#[111, 110, 101, 46, 111, 114, 103]⟩⟩, ⟨⟨#[104, 117, 98, 46, 110, 101, 116]⟩, ⟨#[104, 117, 98, 46, 110, 101, 116]⟩⟩]⟩] := by unfold DN FE; rw [if_neg (by omega), if_pos h]
theorem oc {r : Rd} (h : Ae r 5 = 2) : DN r = [⟨⟨#[111, 110, 101, 46, 111, 114, 103]⟩, [⟨#[111, 110, 101, 46, 111, 114, 103]⟩, ⟨#[97, 46, 111, 110, 101, 46, 111, 114, 103]⟩], [⟨⟨#[116, 119, 111, 46, 111, 114, 103]⟩, ⟨#[116, 119, 111, 46, 111, 114, 103]⟩⟩, ⟨⟨#[110, 101, 116]⟩, ⟨#[104, 117, 98, 46, 110, 101, 116]⟩⟩]⟩, ⟨⟨#[116, 119, 111, 46, 111, 114, 103]⟩, [⟨#[116, 119, 111, 46, 111, 114, 103]⟩], [⟨⟨#[111, 114, 103]⟩, ⟨#[111, 110, 101, 46, 111, 114, 103]⟩⟩, ⟨⟨#[104, 117, 98, 46, 110, 101, 116]⟩, ⟨#[104, 117, 98, 46, 110, 101, 116]⟩⟩, ⟨⟨#[99, 111, 109]⟩, ⟨#[104, 117, 98, 46, 110, 101, 116]⟩⟩]⟩, ⟨⟨#[104, 117, 98, 46, 110, 101, 116]⟩, [⟨#[104, 117, 98, 46, 110, 101, 116]⟩, ⟨#[111, 116, 104, 101, 114, 46, 99, 111, 109]⟩], [⟨⟨#[111, 110, 101, 46, 111, 114, 103]⟩, ⟨#[111, 110, 101, 46, 111, 114, 103]⟩⟩, ⟨⟨#[116, 119, 111, 46, 111, 114, 103]⟩, ⟨#[116, 119, 111, 46, 111, 114, 103]⟩⟩, ⟨⟨#[102, 97, 114, 46, 99, 111, 109]⟩, ⟨#[103, 111, 110, 101, 46, 99, 111, 109]⟩⟩, ⟨⟨#[120, 46, 99, 111, 109]⟩, ⟨#[116, 119, 111, 46, 111, 114, 103]⟩⟩]⟩] := by unfold DN FE; rw [if_neg (by omega), if_neg (by omega), if_pos h]
theorem od {r : Rd} (h : ¬ Ae r 5 = 0 ∧ ¬ Ae r 5 = 1 ∧ ¬ Ae r 5 = 2) : DN r = [⟨⟨#[111, 110, 101, 46, 111, 114, 103]⟩, [⟨#[111, 110, 101, 46, 111, 114, 103]⟩, ⟨#[97, 46, 111, 110, 101, 46, 111, 114, 103]⟩], [⟨⟨#[116, 119, 111, 46, 111, 114, 103]⟩, ⟨#[116, 119, 111, 46, 111, 114, 103]⟩⟩, ⟨⟨#[110, 101, 116]⟩, ⟨#[104, 117, 98, 46, 110, 101, 116]⟩⟩, ⟨⟨#[99, 111, 109]⟩, ⟨#[104, 117, 98, 46, 110, 101, 116]⟩⟩]⟩, ⟨⟨#[116, 119, 111, 46, 111, 114, 103]⟩, [⟨#[116, 119, 111, 46, 111, 114, 103]⟩], [⟨⟨#[111, 114, 103]⟩, ⟨#[111, 110, 101, 46, 111, 114, 103]⟩⟩, ⟨⟨#[104, 117, 98, 46, 110, 101, 116]⟩, ⟨#[104, 117, 98, 46, 110, 101, 116]⟩⟩]⟩, ⟨⟨#[104, 117, 98, 46, 110, 101, 116]⟩, [⟨#[104, 117, 98, 46, 110, 101, 116]⟩, ⟨#[111, 116, 104, 101, 114, 46, 99, 111, 109]⟩], [⟨⟨#[111, 110, 101, 46, 111, 114, 103]⟩, ⟨#[111, 110, 101, 46, 111, 114, 103]⟩⟩, ⟨⟨#[116, 119, 111, 46, 111, 114, 103]⟩, ⟨#[116, 119, 111, 46, 111, 114, 103]⟩⟩, ⟨⟨#[102, 97, 114, 46, 99, 111, 109]⟩, ⟨#[103, 111, 110, 101, 46, 99, 111, 109]⟩⟩, ⟨⟨#[120, 46, 99, 111, 109]⟩, ⟨#[116, 119, 111, 46, 111, 114, 103]⟩⟩]⟩] := by unfold DN FE; rw [if_neg h.1, if_neg h.2.1, if_neg h.2.2]
def PG (c : Cf) : Bool := Nat.ble c.name.size 100 && (Nat.ble c.own.length 10 && (c.own.all (fun s => Nat.ble s.size 100) && (Nat.ble c.ways.length 10 && c.ways.all fun w => Nat.ble w.ends.size 100 && Nat.ble w.to.size 100)))
theorem NU (k : Int) : (FE k).all PG = true ∧ 2 ≤ (FE k).length ∧ (FE k).length ≤ 3 := by
 unfold FE
 split
 ·exact ⟨by decide +kernel, by decide, by decide⟩
 ·split
  ·exact ⟨by decide +kernel, by decide, by decide⟩
  ·split
   ·exact ⟨by decide +kernel, by decide, by decide⟩
   ·exact ⟨by decide +kernel, by decide, by decide⟩
def Wk (r : Rd) : Cf := (DN r).getD (Ae (r.nx 1) (DN r).length).toNat default
theorem kB {r : Rd} (h : 0 ≤ r.p) (h1 : r.p ≤ 999999000) : PG (Wk r) = true := by
 have hb := Bn (r := r.nx 1) (n := (DN r).length) (by rw [AK]; omega) (by rw [AK]; omega)
 obtain ⟨h2, h3, h4⟩ := NU (Ae r 5)
 have e : FE (Ae r 5) = DN r := rfl
 rw [e] at h2 h3
 exact List.all_eq_true.1 h2 _ (AC (by omega))
def CS (r : Rd) : Cf × Rd :=
 let c := Wk r
 let k := Ae (r.nx 2) 10
 if k = 0 then (⟨OR (r.nx 3) [⟨#[]⟩, ⟨#[65]⟩, ⟨#[97, 46, 46, 98]⟩], c.own, c.ways⟩, r.nx 4)
 else if k = 1 then (⟨c.name, c.own ++ [⟨#[98, 46, 111, 114, 103]⟩, ⟨#[99, 46, 111, 114, 103]⟩], c.ways⟩, r.nx 3)
 else if k = 2 then (⟨c.name, c.own, c.ways ++ [⟨OR (r.nx 3) [⟨#[]⟩, ⟨#[98, 46, 111, 114, 103]⟩, ⟨#[111, 110, 101, 46, 111, 114, 103]⟩], ⟨#[116, 119, 111, 46, 111, 114, 103]⟩⟩]⟩, r.nx 4)
 else (c, r.nx 3)
theorem UA {r : Rd} (h : Ae (r.nx 2) 10 = 0) : CS r = (⟨OR (r.nx 3) [⟨#[]⟩, ⟨#[65]⟩, ⟨#[97, 46, 46, 98]⟩], (Wk r).own, (Wk r).ways⟩, r.nx 4) := by unfold CS; dsimp only; rw [if_pos h]
theorem UB {r : Rd} (h : Ae (r.nx 2) 10 = 1) : CS r = (⟨(Wk r).name, (Wk r).own ++ [⟨#[98, 46, 111, 114, 103]⟩, ⟨#[99, 46, 111, 114, 103]⟩], (Wk r).ways⟩, r.nx 3) := by unfold CS; dsimp only; rw [if_neg (by omega), if_pos h]
theorem UC {r : Rd} (h : Ae (r.nx 2) 10 = 2) : CS r = (⟨(Wk r).name, (Wk r).own, (Wk r).ways ++ [⟨OR (r.nx 3) [⟨#[]⟩, ⟨#[98, 46, 111, 114, 103]⟩, ⟨#[111, 110, 101, 46, 111, 114, 103]⟩], ⟨#[116, 119, 111, 46, 111, 114, 103]⟩⟩]⟩, r.nx 4) := by unfold CS; dsimp only; rw [if_neg (by omega), if_neg (by omega), if_pos h]
theorem UD {r : Rd} (h : ¬ Ae (r.nx 2) 10 = 0 ∧ ¬ Ae (r.nx 2) 10 = 1 ∧ ¬ Ae (r.nx 2) 10 = 2) : CS r = (Wk r, r.nx 3) := by unfold CS; dsimp only; rw [if_neg h.1, if_neg h.2.1, if_neg h.2.2]
theorem B2 {n : Nat} {es : List (List T)} : cellAV false (.sl n es) = .t (.sl n es) := rfl
theorem kC {r : Rd} : (DN r).getD (Ae (r.nx 1) (DN r).length).toNat default = Wk r := rfl
def Y7 : Mt := HB (lc EU l0) (fun p => 0 ≤ p.1.p ∧ p.1.p ≤ 999990000) (fun p => ([EU.enc (p.1.nx 1)], .o false 3 ((DN p.1).map DZ)))
section
attribute [local go_sem] GK AK Bi A5 A7 BD BQ CE BP BR lm List.length_append List.length_cons List.length_nil List.map_append List.map_nil Nat.zero_add List.nil_append AS.opn AS.cls AS.nilb AS.renb AS.up Bool.not_false Bool.not_true List.set_set List.set_cons_zero List.set_cons_succ List.set_nil List.mem_singleton forall_eq Fj AT Bb G7 G8 G9 Du Dv Ug
set_option maxHeartbeats 6400000 in
theorem f9 {G : Gt} (hG : Ah G) (hh : G.e 53 = AN GK) : Gd G 151 (AN Y7) := by
 refine JS (dp := fun n => !(Nat.beq n 36 || Nat.beq n 52)) (fn := Tryz.f151) (n := 1) rfl rfl hG ?_
 rintro ⟨r, ⟨⟩⟩ hpre
 obtain ⟨h1, h2⟩ := hpre
 try dsimp only at h1 h2 ⊢
 by_cases c0 : Ae r 5 = 0
 ·skip
  rw [oY c0]
  simp -implicitDefEqProofs only [Tryz.f151, c0, eq_self, decide_true, decide_false, Int.reduceEq, go_sem, hh, Int.reduceAdd, seval]
  with_reducible repeat' (first | apply ai | intro _ | ((first | apply s1 | apply s3 | apply s4) <;> intro hb <;> simp -implicitDefEqProofs only [hb, go_sem, hh, Int.reduceAdd, seval] <;> try simp only [qz] at hb))
  all_goals (try simp only [maxLen, tn] at *)
  all_goals first | rfl | omega | decide | assumption | (show Aa _ = true; rfl) | skip
 ·by_cases c1 : Ae r 5 = 1
  ·skip
   rw [oZ c1]
   simp -implicitDefEqProofs only [Tryz.f151, c1, eq_self, decide_true, decide_false, Int.reduceEq, go_sem, hh, Int.reduceAdd, seval]
   with_reducible repeat' (first | apply ai | intro _ | ((first | apply s1 | apply s3 | apply s4) <;> intro hb <;> simp -implicitDefEqProofs only [hb, go_sem, hh, Int.reduceAdd, seval] <;> try simp only [qz] at hb))
   all_goals (try simp only [maxLen, tn] at *)
   all_goals first | rfl | omega | decide | assumption | (show Aa _ = true; rfl) | skip
  ·by_cases c2 : Ae r 5 = 2
   ·skip
    rw [oc c2]
    simp -implicitDefEqProofs only [Tryz.f151, c2, eq_self, decide_true, decide_false, Int.reduceEq, go_sem, hh, Int.reduceAdd, seval]
    with_reducible repeat' (first | apply ai | intro _ | ((first | apply s1 | apply s3 | apply s4) <;> intro hb <;> simp -implicitDefEqProofs only [hb, go_sem, hh, Int.reduceAdd, seval] <;> try simp only [qz] at hb))
    all_goals (try simp only [maxLen, tn] at *)
    all_goals first | rfl | omega | decide | assumption | (show Aa _ = true; rfl) | skip
   ·skip
    rw [od ⟨c0, c1, c2⟩]
    simp -implicitDefEqProofs only [Tryz.f151, c0, c1, c2, eq_self, decide_true, decide_false, Int.reduceEq, go_sem, hh, Int.reduceAdd, seval]
    with_reducible repeat' (first | apply ai | intro _ | ((first | apply s1 | apply s3 | apply s4) <;> intro hb <;> simp -implicitDefEqProofs only [hb, go_sem, hh, Int.reduceAdd, seval] <;> try simp only [qz] at hb))
    all_goals (try simp only [maxLen, tn] at *)
    all_goals first | rfl | omega | decide | assumption | (show Aa _ = true; rfl) | skip
end
def nF : Mt := HB (lc EU l0) (fun p => 0 ≤ p.1.p ∧ p.1.p ≤ 999990000) (fun p => ([EU.enc (p.1.nx 2)], Jn.ag.enc (Wk p.1)))
section
attribute [local go_sem] GK Y7 AK Bi A5 A7 BD BQ CE BP BR lm List.length_append List.length_cons List.length_nil List.map_append List.map_nil Nat.zero_add List.nil_append AS.opn AS.cls AS.nilb AS.renb AS.up Bool.not_false Bool.not_true List.set_set List.set_cons_zero List.set_cons_succ List.set_nil List.mem_singleton forall_eq kC B2 AT
set_option maxHeartbeats 1600000 in
theorem fg {G : Gt} (hG : Ah G) (hh : G.e 53 = AN GK ∧ G.e 151 = AN Y7) : Gd G 130 (AN nF) := by
 refine JS (dp := fun _ => true) (fn := Tryz.f130) (n := 1) rfl rfl hG ?_
 rintro ⟨r, ⟨⟩⟩ hpre
 obtain ⟨h1, h2⟩ := hpre
 try dsimp only at h1 h2 ⊢
 obtain ⟨q2, q3, q4⟩ := NU (Ae r 5)
 have e : FE (Ae r 5) = DN r := rfl
 rw [e] at q3 q4
 have hb := Bn (r := r.nx 1) (n := (DN r).length) (by rw [AK]; omega) (by rw [AK]; omega)
 simp -implicitDefEqProofs only [Tryz.f130, go_sem, hh, Int.reduceAdd, seval]
 with_reducible repeat' (first | apply ai | intro _ | ((first | apply s1 | apply s3 | apply s4) <;> intro hb <;> simp -implicitDefEqProofs only [hb, go_sem, hh, Int.reduceAdd, seval] <;> try simp only [qz] at hb))
 all_goals (try simp only [maxLen, tn] at *)
 all_goals first | rfl | omega | decide | assumption | (show Aa _ = true; rfl) | skip
end
def xF : Mt := HB (lc EU l0) (fun p => 0 ≤ p.1.p ∧ p.1.p ≤ 999980000) (fun p => ([EU.enc (CS p.1).2], Jn.ag.enc (CS p.1).1))
section
attribute [local go_sem] GK UY nF AK Bi A5 A7 BD BQ CE BP BR lm List.length_append List.length_cons List.length_nil List.map_append List.map_nil Nat.zero_add List.nil_append AS.opn AS.cls AS.nilb AS.renb AS.up Bool.not_false Bool.not_true List.set_set List.set_cons_zero List.set_cons_succ List.set_nil List.mem_singleton forall_eq kC AT Fj Fk G7 G8 G9 Du Dv Ug
set_option maxHeartbeats 6400000 in
theorem qt {G : Gt} (hG : Ah G) (hh : G.e 53 = AN GK ∧ G.e 30 = AN UY ∧ G.e 130 = AN nF) : Gd G 78 (AN xF) := by
 refine JS (dp := fun _ => true) (fn := Tryz.f78) (n := 1) rfl rfl hG ?_
 rintro ⟨r, ⟨⟩⟩ hpre
 obtain ⟨h1, h2⟩ := hpre
 try dsimp only at h1 h2 ⊢
 have hc := kB h1 (show r.p ≤ 999999000 by omega)
 unfold PG at hc
 simp only [Bool.and_eq_true, Nat.ble_eq] at hc
 obtain ⟨z1, z2, z3, z4, z5⟩ := hc
 by_cases c0 : Ae (r.nx 2) 10 = 0
 ·rw [UA c0]
  simp -implicitDefEqProofs only [Tryz.f78, c0, eq_self, decide_true, decide_false, Int.reduceEq, go_sem, hh, Int.reduceAdd, seval]
  with_reducible repeat' (first | apply ai | intro _ | ((first | apply s1 | apply s3 | apply s4) <;> intro hb <;> simp -implicitDefEqProofs only [hb, go_sem, hh, Int.reduceAdd, seval] <;> try simp only [qz] at hb))
  all_goals (try simp only [maxLen, tn] at *)
  all_goals first | rfl | omega | decide | assumption | (show Aa _ = true; rfl) | skip
 ·by_cases c1 : Ae (r.nx 2) 10 = 1
  ·rw [UB c1]
   simp -implicitDefEqProofs only [Tryz.f78, c1, eq_self, decide_true, decide_false, Int.reduceEq, go_sem, hh, Int.reduceAdd, seval]
   with_reducible repeat' (first | apply ai | intro _ | ((first | apply s1 | apply s3 | apply s4) <;> intro hb <;> simp -implicitDefEqProofs only [hb, go_sem, hh, Int.reduceAdd, seval] <;> try simp only [qz] at hb))
   all_goals (try simp only [maxLen, tn] at *)
   all_goals first | rfl | omega | decide | assumption | (show Aa _ = true; rfl) | (rename_i q; simp only [List.mem_cons, List.not_mem_nil, or_false] at q; rcases q with rfl | rfl <;> rfl) | skip
  ·by_cases c2 : Ae (r.nx 2) 10 = 2
   ·rw [UC c2]
    simp -implicitDefEqProofs only [Tryz.f78, c2, eq_self, decide_true, decide_false, Int.reduceEq, go_sem, hh, Int.reduceAdd, seval]
    with_reducible repeat' (first | apply ai | intro _ | ((first | apply s1 | apply s3 | apply s4) <;> intro hb <;> simp -implicitDefEqProofs only [hb, go_sem, hh, Int.reduceAdd, seval] <;> try simp only [qz] at hb))
    all_goals (try simp only [maxLen, tn] at *)
    all_goals first | rfl | omega | decide | assumption | (show Aa _ = true; rfl) | skip
   ·rw [UD ⟨c0, c1, c2⟩]
    simp -implicitDefEqProofs only [Tryz.f78, c0, c1, c2, eq_self, decide_true, decide_false, Int.reduceEq, go_sem, hh, Int.reduceAdd, seval]
    with_reducible repeat' (first | apply ai | intro _ | ((first | apply s1 | apply s3 | apply s4) <;> intro hb <;> simp -implicitDefEqProofs only [hb, go_sem, hh, Int.reduceAdd, seval] <;> try simp only [qz] at hb))
    all_goals (try simp only [maxLen, tn] at *)
    all_goals first | rfl | omega | decide | assumption | (show Aa _ = true; rfl) | skip
end
section
attribute [local go_sem] lm
end
def w7 : Ct := Ar (lc Qu.asl (lc Qu.asl l0)) (fun p => True) (fun p => .t (.v (.bool (decide (p.1 = p.2.1)))))
section
attribute [local go_sem] tx lm
set_option maxHeartbeats 1600000 in
theorem p4 {G : Gt} (hG : Ah G) (hh : G.e 25 = AA 0 tx) : Gd G 15 (AA 0 w7) := by
 refine gr (fn := Tryz.f15) (n := 2) rfl rfl hG ?_
 rintro ⟨xs, ys, ⟨⟩⟩ hpre
 simp -implicitDefEqProofs only [Tryz.f15, go_sem, hh, seval] at hpre ⊢
 with_reducible repeat' (first | apply ai | intro _ | ((first | apply s1 | apply s3 | apply s4) <;> intro hb <;> simp -implicitDefEqProofs only [hb, go_sem, hh, seval] <;> try simp only [qz] at hb))
 all_goals (try simp only [maxLen] at *)
 all_goals first | rfl | omega | skip
 ·have : ¬ xs = ys := fun e => hb (by rw [e])
  simp [this]
 ·have hl : xs.length = ys.length := by omega
  refine AE [] (ι := {i : Nat // i ≤ xs.length ∧ ∀ j, j < i → xs.getD j default = ys.getD j default}) (fun p => ⟨[(0, .t (.sl 3 (xs.map BU))), (1, .t (.sl 3 (ys.map BU))), (5, .t (.v (.int .i64 p.1)))], []⟩) (fun p => xs.length - p.1) ⟨0, by simp, by simp⟩ rfl ?_ ?_
  ·simp -implicitDefEqProofs only [go_sem, hh, seval]
   try simp
  ·rintro ⟨i, hi, hall⟩
   simp -implicitDefEqProofs only [go_sem, hh, seval]
   with_reducible repeat' (first | apply ai | intro _ | ((first | apply s1 | apply s3 | apply s4) <;> intro hb <;> simp -implicitDefEqProofs only [hb, go_sem, hh, seval] <;> try simp only [qz] at hb))
   all_goals (try simp only [maxLen, tn, y7, xa] at *)
   all_goals first
    | rfl
    | omega
    | decide
    | (show Aa _ = true; rfl)
    | ((have hne : ¬ xs = ys := fun e => by subst e; first | exact hb rfl | (simp at hb; done) | (simp_all; done)); simp [hne]; done)
    | (refine ⟨⟨i + 1, by omega, Uu hall (by rw [mb]; exact ⟨by assumption, by assumption⟩)⟩, by dsimp only; omega, ?_⟩
       simp -implicitDefEqProofs only [go_sem, hh, seval]
       try simp
       done)
    | (have hxy := T5 i hl hall (by omega)
       simp [hxy]
       done)
    | skip
end
section
attribute [local go_sem] tx lm
end
section
attribute [local go_sem] w7 lm
end
def XS (s : ByteArray) : Nat → Nat → Int → Int
 | 0, _, n => if s.size = 0 ∨ (1 < s.size ∧ AF s 0 = 48) then -1 else n
 | k + 1, i, n => if 48 ≤ AF s i ∧ AF s i ≤ 57 ∧ i < 9 then XS s k (i + 1) (n * 10 + (AF s i - 48)) else -1
def QG (s : ByteArray) : Int := XS s s.size 0 0
theorem bP {s : ByteArray} {i : Nat} {n : Int} (h : i < s.size) : XS s (s.size - i) i n = if 48 ≤ AF s i ∧ AF s i ≤ 57 ∧ i < 9 then XS s (s.size - (i + 1)) (i + 1) (n * 10 + (AF s i - 48)) else -1 := by
 have e : s.size - i = (s.size - (i + 1)) + 1 := by omega
 rw [e]; rfl
theorem bO {s : ByteArray} {i : Nat} {n : Int} (h : s.size ≤ i) : XS s (s.size - i) i n = if s.size = 0 ∨ (1 < s.size ∧ AF s 0 = 48) then -1 else n := by
 have e : s.size - i = 0 := by omega
 rw [e]; rfl
def oP : Ct := Ar (lc Ax l0) (fun p => p.1.size ≤ 3) (fun p => .t (.v (.int .i64 (QG p.1))))
set_option maxHeartbeats 1600000 in
theorem iO {G : Gt} (hG : Ah G) : Gd G 218 (AA 0 oP) := by
 refine gr (fn := Tryz.f218) (n := 1) rfl rfl hG ?_
 rintro ⟨s, ⟨⟩⟩ hpre
 simp -implicitDefEqProofs only [Tryz.f218, go_sem, seval] at hpre ⊢
 refine AE [] (ι := {p : Nat × Int // p.1 ≤ s.size ∧ 0 ≤ p.2 ∧ (p.1 = 0 → p.2 = 0) ∧ (p.1 ≤ 1 → p.2 ≤ 9) ∧ (p.1 ≤ 2 → p.2 ≤ 99) ∧ p.2 ≤ 999 ∧ XS s (s.size - p.1) p.1 p.2 = QG s}) (fun p => ⟨[(0, .t (.v (.string s))), (3, .t (.v (.int .i64 p.1.2))), (4, .t (.v (.int .i64 p.1.1)))], []⟩) (fun p => s.size - p.1.1) ⟨(0, 0), by simp, by simp, by simp, by simp, by simp, by simp, rfl⟩ rfl ?_ ?_
 ·simp -implicitDefEqProofs only [go_sem, seval]
  try simp
 ·rintro ⟨⟨i, n⟩, hi, h0, h1, h2, h3, h4, hv⟩
  dsimp only at hi h0 h1 h2 h3 h4 hv
  simp -implicitDefEqProofs only [go_sem, seval]
  with_reducible repeat' (first | apply ai | intro _ | ((first | apply s1 | apply s3 | apply s4) <;> intro hb <;> simp -implicitDefEqProofs only [hb, go_sem, seval] <;> try simp only [qz] at hb))
  all_goals (try simp only [maxLen, tn, Int.toNat_zero] at *)
  all_goals (try have hbr := A9 s i)
  all_goals first | rfl | omega | skip
  all_goals (by_cases hlt : i < s.size)
  all_goals first
   | omega
   | (rw [bP hlt, if_neg (by omega)] at hv; rw [← hv]; done)
   | (rw [bO (by omega), if_pos (by omega)] at hv; rw [← hv]; done)
   | (rw [bO (by omega), if_neg (by omega)] at hv; rw [← hv]; done)
   | (rw [bP hlt, if_pos (by omega)] at hv
      refine ⟨⟨(i + 1, n * 10 + (AF s i - 48)), by dsimp only; omega, by dsimp only; omega, by dsimp only; omega, by dsimp only; omega, by dsimp only; omega, by dsimp only; omega, hv⟩, by dsimp only; omega, ?_⟩
      simp -implicitDefEqProofs only [go_sem, seval]
      try simp
      done)
   | skip
theorem zL (i : Nat) : ((i : Int) + 1).toNat = i + 1 := by omega
def Lz (s : ByteArray) : Nat → Nat → Nat → List ByteArray × Nat
 | 0, _, fr => ([], fr)
 | k + 1, i, fr => if i + 1 < s.size then (if AF s i = 13 ∧ AF s (i + 1) = 10 then (s.extract fr i :: (Lz s k (i + 2) (i + 2)).1, (Lz s k (i + 2) (i + 2)).2) else Lz s k (i + 1) fr) else ([], fr)
def OQ (s : ByteArray) : List ByteArray := (Lz s s.size 0 0).1
def rU (s : ByteArray) : ByteArray := s.extract (Lz s s.size 0 0).2 s.size
theorem vE {s : ByteArray} {k i fr : Nat} (h : i + 1 < s.size) (c : AF s i = 13 ∧ AF s (i + 1) = 10) : Lz s (k + 1) i fr = (s.extract fr i :: (Lz s k (i + 2) (i + 2)).1, (Lz s k (i + 2) (i + 2)).2) := by
 rw [Lz, if_pos h, if_pos c]
theorem vD {s : ByteArray} {k i fr : Nat} (h : i + 1 < s.size) (c : ¬ (AF s i = 13 ∧ AF s (i + 1) = 10)) : Lz s (k + 1) i fr = Lz s k (i + 1) fr := by
 rw [Lz, if_pos h, if_neg c]
theorem lI {s : ByteArray} {k i fr : Nat} (h : ¬ i + 1 < s.size) : Lz s k i fr = ([], fr) := by
 cases k with
 | zero => rfl
 | succ k => rw [Lz, if_neg h]
theorem bA (s : ByteArray) : ∀ k i fr, fr ≤ i → i ≤ s.size → (Lz s k i fr).2 ≤ s.size ∧ ((Lz s k i fr).1.length + i ≤ s.size) ∧ ∀ x ∈ (Lz s k i fr).1, x.size ≤ s.size
 | 0, i, fr, h, hi => ⟨by show fr ≤ s.size; omega, by show 0 + i ≤ s.size; omega, fun x hx => by cases hx⟩
 | k + 1, i, fr, h, hi => by
   rw [Lz]
   split
   ·split
    ·have q := bA s k (i + 2) (i + 2) (Nat.le_refl _) (by omega)
     refine ⟨q.1, by show (Lz s k (i + 2) (i + 2)).1.length + 1 + i ≤ s.size; omega, fun x hx => ?_⟩
     rcases List.mem_cons.1 hx with rfl | hx
     ·rw [ByteArray.size_extract]; omega
     ·exact q.2.2 x hx
    ·have q := bA s k (i + 1) fr (by omega) (by omega)
     exact ⟨q.1, by omega, q.2.2⟩
   ·exact ⟨by show fr ≤ s.size; omega, by show 0 + i ≤ s.size; omega, fun x hx => by cases hx⟩
theorem lJ (s : ByteArray) : (OQ s).length ≤ s.size ∧ (∀ x ∈ OQ s, x.size ≤ s.size) ∧ (rU s).size ≤ s.size := by
 have q := bA s s.size 0 0 (Nat.le_refl _) (by omega)
 unfold OQ rU
 exact ⟨by omega, q.2.2, by rw [ByteArray.size_extract]; omega⟩
def oM : Ct := Ar (lc Ax l0) (fun p => p.1.size ≤ 2000000) (fun p => .tup [.o true 1 ((OQ p.1).map AH), .t (.v (.string (rU p.1)))])
section
attribute [local go_sem] lm List.map_nil List.length_append List.length_cons List.length_nil
set_option maxHeartbeats 1600000 in
theorem iK {G : Gt} (hG : Ah G) : Gd G 214 (AA 0 oM) := by
 refine gr (fn := Tryz.f214) (n := 1) rfl rfl hG ?_ (hs := fun _ _ => .tup _ fun c hc => by
  simp only [List.mem_cons, List.not_mem_nil, or_false] at hc
  rcases hc with rfl | rfl
  ·exact .deep _ _
  ·exact .v _)
 rintro ⟨s, ⟨⟩⟩ hpre
 simp -implicitDefEqProofs only [Tryz.f214, go_sem, seval] at hpre ⊢
 with_reducible repeat' (first | apply ai | intro _ | ((first | apply s1 | apply s3 | apply s4) <;> intro hb <;> simp -implicitDefEqProofs only [hb, go_sem, seval] <;> try simp only [qz] at hb))
 all_goals first | rfl | omega | skip
 refine AE [(4, 901, true, 1)] (ι := {p : Nat × Nat × Nat × List ByteArray // p.2.2.1 ≤ p.2.1 ∧ (p.2.1 ≤ s.size ∧ p.2.2.2.length ≤ p.2.1 ∧ s.size ≤ p.1 + p.2.1) ∧ p.2.2.2 ++ (Lz s p.1 p.2.1 p.2.2.1).1 = OQ s ∧ s.extract (Lz s p.1 p.2.1 p.2.2.1).2 s.size = rU s}) (fun p => ⟨[(0, .t (.v (.string s))), (4, .h 901), (5, .t (.v (.int .i64 p.1.2.2.1))), (6, .t (.v (.int .i64 p.1.2.1)))], [(901, some (.arr true 1 (p.1.2.2.2.map AH)))]⟩) (fun p => s.size - p.1.2.1) ⟨(s.size, 0, 0, []), by simp, by simp, rfl, rfl⟩ rfl ?_ ?_
 ·simp -implicitDefEqProofs only [go_sem, seval]
  try simp
 ·rintro ⟨⟨k, i, fr, out⟩, hf, ⟨hi, ho, hk⟩, h1, h2⟩
  dsimp only at hf hi ho hk h1 h2
  simp -implicitDefEqProofs only [go_sem, seval]
  with_reducible repeat' (first | apply ai | intro _ | ((first | apply s1 | apply s3 | apply s4) <;> intro hb <;> simp -implicitDefEqProofs only [hb, go_sem, seval] <;> try simp only [qz] at hb))
  all_goals (try simp only [maxLen, tn, zL] at *)
  all_goals first
   | rfl
   | omega
   | (rename_i q; simp only [List.mem_singleton] at q; subst q; rfl)
   | (simp only [List.mem_singleton] at *; omega)
   | (rw [lI (by omega), List.append_nil] at h1; rw [h1]; done)
   | (rw [lI (by omega)] at h2; rw [← h2]; done)
   | (obtain ⟨k, rfl⟩ : ∃ j, k = j + 1 := ⟨k - 1, by omega⟩
      rw [vE (by omega) ⟨by assumption, by assumption⟩] at h1 h2
      refine ⟨⟨(k, i + 2, i + 2, out ++ [s.extract fr i]), by dsimp only; omega, ⟨by dsimp only; omega, by simp; omega, by dsimp only; omega⟩, by simpa using h1, h2⟩, by dsimp only; omega, ?_⟩
      simp -implicitDefEqProofs only [go_sem, seval]
      simp [AH]
      try omega
      done)
   | (obtain ⟨k, rfl⟩ : ∃ j, k = j + 1 := ⟨k - 1, by omega⟩
      rw [vD (by omega) (by omega)] at h1 h2
      refine ⟨⟨(k, i + 1, fr, out), by dsimp only; omega, ⟨by dsimp only; omega, by dsimp only; omega, by dsimp only; omega⟩, h1, h2⟩, by dsimp only; omega, ?_⟩
      simp -implicitDefEqProofs only [go_sem, seval]
      try simp
      done)
   | skip
end
def dg (n : Int) : ByteArray := Fz [48 + n]
theorem Ng (n : Int) : (dg n).size = 1 := rfl
def Nb (n : Int) : ByteArray := if n < 10 then dg n else dg (n / 10) ++ dg (n % 10)
theorem Nc {n : Int} (h : n < 10) : Nb n = dg n := if_pos h
theorem IY (n : Int) : 1 ≤ (Nb n).size ∧ (Nb n).size ≤ 2 := by
 unfold Nb
 split
 ·rw [Ng]; omega
 ·rw [ByteArray.size_append, Ng, Ng]; omega
theorem pR {n : Int} (h : ¬ n < 10) : Nb n = dg (n / 10) ++ dg (n % 10) := if_neg h
def UX : Ct := Ar (lc BK l0) (fun p => 0 ≤ p.1 ∧ p.1 < 10) (fun p => .t (.v (.string (Nb p.1))))
theorem aX {G : Gt} (hG : Ah G) : Gd G 184 (AA 0 UX) := by
 refine gr (fn := Tryz.f184) (n := 1) rfl rfl hG ?_
 rintro ⟨n, ⟨⟩⟩ hpre
 simp -implicitDefEqProofs only [Tryz.f184, go_sem, seval] at hpre ⊢
 have h1 : 0 ≤ n := hpre.1
 have h2 : n < 10 := hpre.2
 with_reducible repeat' (first | apply ai | intro _ | ((first | apply s1 | apply s3 | apply s4) <;> intro hb <;> simp -implicitDefEqProofs only [hb, go_sem, seval] <;> try simp only [qz] at hb))
 all_goals (try simp only [maxLen, tn] at *)
 all_goals first | rfl | omega | (rw [Nc h2]; rfl) | skip
def eD : Ct := Ar (lc BK l0) (fun p => 0 ≤ p.1 ∧ p.1 < 100) (fun p => .t (.v (.string (Nb p.1))))
section
attribute [local go_sem] UX
theorem aY {G : Gt} (hG : Ah G) (hh : G.e 184 = AA 0 UX) : Gd G 184 (AA 0 eD) := by
 refine gr (fn := Tryz.f184) (n := 1) rfl rfl hG ?_
 rintro ⟨n, ⟨⟩⟩ hpre
 simp -implicitDefEqProofs only [Tryz.f184, go_sem, hh, seval] at hpre ⊢
 have h1 : 0 ≤ n := hpre.1
 have h2 : n < 100 := hpre.2
 with_reducible repeat' (first | apply ai | intro _ | ((first | apply s1 | apply s3 | apply s4) <;> intro hb <;> simp -implicitDefEqProofs only [hb, go_sem, hh, seval] <;> try simp only [qz] at hb))
 all_goals (try simp only [maxLen, tn] at *)
 all_goals first | rfl | omega | (rw [Nc (by omega)]; rfl) | (rw [pR (n := n) (by omega), Nc (n := n / 10) (by omega)]; rfl) | (rw [Nc (n := n / 10) (by omega)]; rfl) | (have := (IY (n / 10)).2; have e : (Fz [48 + n % 10]).size = 1 := rfl; omega) | skip
end
theorem gg {G : Gt} (hG : Ah G) : Gd G 184 (AA 0 eD) := aY (G := Qw G.m [(184, AA 0 UX)]) (AB M6 (aX (G := Qw G.m []) M6)) rfl
theorem BJ {g : Prop} (c : Prop) (h1 : c → g) (h2 : ¬ c → g) : g := (Classical.em c).elim h1 h2
theorem zH : (1 : Int).toNat = 1 := rfl
theorem Ht {l : ByteArray} (h : ¬ l = ⟨#[]⟩) : (0 : Int) < l.size := by
 have : ¬ l.size = 0 := fun e => h (ByteArray.size_eq_zero_iff.1 e)
 omega
def XP : Ml := ⟨⟨⟨#[]⟩, ⟨#[]⟩⟩, [], []⟩
def Fi (s : Ss) : Ss := ⟨s.state, XP, false, s.buf⟩
theorem oe (s : Ss) : Fi s = ⟨s.state, ⟨⟨⟨#[]⟩, ⟨#[]⟩⟩, [], []⟩, false, s.buf⟩ := rfl
open Classical in
noncomputable def Au (l : ByteArray) (w : ByteArray) : ByteArray × Bool := (if (l.size : Int) < w.size then (⟨#[]⟩, false) else (if l.extract 0 w.size = w then (l.extract w.size l.size, true) else (⟨#[]⟩, false)))
theorem jR {l : ByteArray} {w : ByteArray} (h0 : (l.size : Int) < w.size) : Au l w = (⟨#[]⟩, false) := by unfold Au; rw [if_pos h0]
theorem jS {l : ByteArray} {w : ByteArray} (h0 : ¬ ((l.size : Int) < w.size)) (h1 : l.extract 0 w.size = w) : Au l w = (l.extract w.size l.size, true) := by unfold Au; rw [if_neg h0, if_pos h1]
theorem jT {l : ByteArray} {w : ByteArray} (h0 : ¬ ((l.size : Int) < w.size)) (h1 : ¬ (l.extract 0 w.size = w)) : Au l w = (⟨#[]⟩, false) := by unfold Au; rw [if_neg h0, if_neg h1]
theorem OG (l w : ByteArray) : (Au l w).1.size ≤ l.size := by
 unfold Au
 split
 ·exact Nat.zero_le _
 ·split
  ·show (l.extract w.size l.size).size ≤ _; rw [ByteArray.size_extract]; omega
  ·exact Nat.zero_le _
def oT : Ct := Ar (lc Ax (lc Ax l0)) (fun p => True) (fun p => .tup [.t (.v (.string (Au p.1 p.2.1).1)), .t (.v (.bool (Au p.1 p.2.1).2))])
section
attribute [local go_sem] tn
theorem iS {G : Gt} (hG : Ah G) : Gd G 222 (AA 0 oT) := by
 refine gr (fn := Tryz.f222) (n := 2) rfl rfl hG ?_ (hs := fun _ _ => .tup _ fun c hc => by
  simp only [List.mem_cons, List.not_mem_nil, or_false] at hc
  rcases hc with rfl | rfl <;> exact .v _)
 rintro ⟨l, w, ⟨⟩⟩ hpre
 try dsimp only
 refine BJ ((l.size : Int) < w.size) (fun h0 => have hx := And.intro (jR h0 : Au l w = _) h0; ?_) (fun h0 => BJ (l.extract 0 w.size = w) (fun h1 => have hx := And.intro (jS h0 h1 : Au l w = _) (And.intro h0 h1); ?_) (fun h1 => have hx := And.intro (jT h0 h1 : Au l w = _) (And.intro h0 h1); ?_))
 all_goals
  try rw [hx.1]
  simp -implicitDefEqProofs only [Tryz.f222, hx, eq_self, decide_true, decide_false, Int.reduceEq, go_sem, seval]
  with_reducible repeat' (first | apply ai | intro _ | ((first | apply s1 | apply s3 | apply s4) <;> intro hb <;> simp -implicitDefEqProofs only [hb, go_sem, seval] <;> try simp only [qz] at hb))
  all_goals (try simp only [maxLen, tn, lm] at *)
  all_goals first | rfl | omega | decide | with_reducible assumption | (show Aa _ = true; rfl) | exact Ht (by assumption) | contradiction | skip
end
def Rb : Ct := Ar (lc dQ.ag l0) (fun p => True) (fun p => .agg ((Es (Fi p.1)).map .t))
section
attribute [local go_sem] oe AS.opn AS.cls AS.nilb AS.renb AS.up Bool.not_false Bool.not_true List.set_set List.set_cons_zero List.set_cons_succ List.set_nil List.mem_singleton forall_eq tn List.map_nil List.nil_append
theorem iL {G : Gt} (hG : Ah G) : Gd G 215 (AA 1 Rb) := by
 refine gr (fn := Tryz.f215) (n := 1) rfl rfl hG ?_
 rintro ⟨s, ⟨⟩⟩ hpre
 simp -implicitDefEqProofs only [Tryz.f215, go_sem, seval] at hpre ⊢
 with_reducible repeat' (first | apply ai | intro _ | ((first | apply s1 | apply s3 | apply s4) <;> intro hb <;> simp -implicitDefEqProofs only [hb, go_sem, seval] <;> try simp only [qz] at hb))
 all_goals first | rfl | omega | decide | with_reducible assumption | (show Aa _ = true; rfl) | exact Ht (by assumption) | contradiction | skip
end
open Classical in
noncomputable def Et (s : Ss) (t : ByteArray) : Ss × ByteArray := (if s.state = 1 then (if GZ t then (⟨2, ⟨BE t, [], []⟩, s.bad, s.buf⟩, ⟨#[50, 53, 48, 32, 102, 114, 111, 109]⟩) else (s, ⟨#[53, 48, 49, 32, 102, 111, 114, 109]⟩)) else (s, ⟨#[53, 48, 51, 32, 111, 114, 100, 101, 114]⟩))
theorem pj {s : Ss} {t : ByteArray} (h0 : s.state = 1) (h1 : GZ t) : Et s t = (⟨2, ⟨BE t, [], []⟩, s.bad, s.buf⟩, ⟨#[50, 53, 48, 32, 102, 114, 111, 109]⟩) := by unfold Et; rw [if_pos h0, if_pos h1]
theorem pk {s : Ss} {t : ByteArray} (h0 : s.state = 1) (h1 : ¬ (GZ t)) : Et s t = (s, ⟨#[53, 48, 49, 32, 102, 111, 114, 109]⟩) := by unfold Et; rw [if_pos h0, if_neg h1]
theorem pm {s : Ss} {t : ByteArray} (h0 : ¬ (s.state = 1)) : Et s t = (s, ⟨#[53, 48, 51, 32, 111, 114, 100, 101, 114]⟩) := by unfold Et; rw [if_neg h0]
def oU : Ct := Ar (lc dQ.ag (lc Ax l0)) (fun p => p.2.1.size ≤ 2000000) (fun p => .tup [.agg ((Es (Et p.1 p.2.1).1).map .t), .t (.v (.string (Et p.1 p.2.1).2))])
section
attribute [local go_sem] ZD Si AS.opn AS.cls AS.nilb AS.renb AS.up Bool.not_false Bool.not_true List.set_set List.set_cons_zero List.set_cons_succ List.set_nil List.mem_singleton forall_eq tn List.map_nil List.nil_append
theorem iT {G : Gt} (hG : Ah G) (hh : G.e 226 = AA 0 ZD) : Gd G 223 (AA 1 oU) := by
 refine gr (fn := Tryz.f223) (n := 2) rfl rfl hG ?_
 rintro ⟨s, t, ⟨⟩⟩ hpre
 have hz : t.size ≤ 2000000 := hpre
 try dsimp only
 refine BJ (s.state = 1) (fun h0 => BJ (GZ t) (fun h1 => have h1' := Ap h1; have hx := And.intro (pj h0 h1 : Et s t = _) (And.intro h0 h1'); ?_) (fun h1 => have h1' := AQ h1; have hx := And.intro (pk h0 h1 : Et s t = _) (And.intro h0 h1'); ?_)) (fun h0 => have hx := And.intro (pm h0 : Et s t = _) h0; ?_)
 all_goals
  try rw [hx.1]
  simp -implicitDefEqProofs only [Tryz.f223, hx, eq_self, decide_true, decide_false, Int.reduceEq, go_sem, hh, seval]
  with_reducible repeat' (first | apply ai | intro _ | ((first | apply s1 | apply s3 | apply s4) <;> intro hb <;> simp -implicitDefEqProofs only [hb, go_sem, hh, seval] <;> try simp only [qz] at hb))
  all_goals (try simp only [maxLen, tn, lm] at *)
  all_goals first | rfl | omega | decide | with_reducible assumption | (show Aa _ = true; rfl) | exact Ht (by assumption) | contradiction | skip
end
theorem xd {a b : Ad} : (decide (a.user = b.user) && decide (a.domain = b.domain)) = decide (a = b) := by
 rw [← Bool.decide_and]; exact decide_eq_decide.2 B8.symm
theorem zB {b : Bool} : ((false != b) = true) = (b = true) := by cases b <;> rfl
theorem zA {b : Bool} : ((false != b) = false) = (b = false) := by cases b <;> rfl
theorem bC {α : Type} [Inhabited α] {xs : List α} {i : Nat} {a : α} (h : i < xs.length) (e : xs.getD i default = a) : a ∈ xs := e ▸ AC h
theorem bM {α : Type} [Inhabited α] {xs : List α} {i : Nat} {a : α} (h : xs.length ≤ i) (hall : ∀ j, j < i → ¬ xs.getD j default = a) : ¬ a ∈ xs := fun q => by
 obtain ⟨k, hk, e⟩ := List.getElem_of_mem q
 exact hall k (by omega) (by simpa [hk] using e)
open Classical in
noncomputable def H9 (c : Cf) (s : Ss) (t : ByteArray) : Ss × ByteArray := (if s.state = 2 ∨ s.state = 3 then (if GZ t then (if Ac (BE t) then (s, ⟨#[53, 48, 49, 32, 102, 111, 114, 109]⟩) else (if KG c (BE t) then (if BE t ∈ s.mail.to then (s, ⟨#[50, 53, 48, 32, 116, 111]⟩) else (if (s.mail.to.length : Int) ≥ 4 then (s, ⟨#[52, 53, 50, 32, 109, 97, 110, 121]⟩) else (⟨3, ⟨s.mail.frm, s.mail.to ++ [BE t], s.mail.body⟩, s.bad, s.buf⟩, ⟨#[50, 53, 48, 32, 116, 111]⟩))) else (s, ⟨#[53, 53, 48, 32, 110, 111, 98, 111, 100, 121]⟩))) else (s, ⟨#[53, 48, 49, 32, 102, 111, 114, 109]⟩)) else (s, ⟨#[53, 48, 51, 32, 111, 114, 100, 101, 114]⟩))
theorem wH {c : Cf} {s : Ss} {t : ByteArray} (h0 : s.state = 2 ∨ s.state = 3) (h1 : GZ t) (h2 : Ac (BE t)) : H9 c s t = (s, ⟨#[53, 48, 49, 32, 102, 111, 114, 109]⟩) := by unfold H9; rw [if_pos h0, if_pos h1, if_pos h2]
theorem wI {c : Cf} {s : Ss} {t : ByteArray} (h0 : s.state = 2 ∨ s.state = 3) (h1 : GZ t) (h2 : ¬ (Ac (BE t))) (h3 : KG c (BE t)) (h4 : BE t ∈ s.mail.to) : H9 c s t = (s, ⟨#[50, 53, 48, 32, 116, 111]⟩) := by unfold H9; rw [if_pos h0, if_pos h1, if_neg h2, if_pos h3, if_pos h4]
theorem wJ {c : Cf} {s : Ss} {t : ByteArray} (h0 : s.state = 2 ∨ s.state = 3) (h1 : GZ t) (h2 : ¬ (Ac (BE t))) (h3 : KG c (BE t)) (h4 : ¬ (BE t ∈ s.mail.to)) (h5 : (s.mail.to.length : Int) ≥ 4) : H9 c s t = (s, ⟨#[52, 53, 50, 32, 109, 97, 110, 121]⟩) := by unfold H9; rw [if_pos h0, if_pos h1, if_neg h2, if_pos h3, if_neg h4, if_pos h5]
theorem wK {c : Cf} {s : Ss} {t : ByteArray} (h0 : s.state = 2 ∨ s.state = 3) (h1 : GZ t) (h2 : ¬ (Ac (BE t))) (h3 : KG c (BE t)) (h4 : ¬ (BE t ∈ s.mail.to)) (h5 : ¬ ((s.mail.to.length : Int) ≥ 4)) : H9 c s t = (⟨3, ⟨s.mail.frm, s.mail.to ++ [BE t], s.mail.body⟩, s.bad, s.buf⟩, ⟨#[50, 53, 48, 32, 116, 111]⟩) := by unfold H9; rw [if_pos h0, if_pos h1, if_neg h2, if_pos h3, if_neg h4, if_neg h5]
theorem wL {c : Cf} {s : Ss} {t : ByteArray} (h0 : s.state = 2 ∨ s.state = 3) (h1 : GZ t) (h2 : ¬ (Ac (BE t))) (h3 : ¬ (KG c (BE t))) : H9 c s t = (s, ⟨#[53, 53, 48, 32, 110, 111, 98, 111, 100, 121]⟩) := by unfold H9; rw [if_pos h0, if_pos h1, if_neg h2, if_neg h3]
theorem wM {c : Cf} {s : Ss} {t : ByteArray} (h0 : s.state = 2 ∨ s.state = 3) (h1 : ¬ (GZ t)) : H9 c s t = (s, ⟨#[53, 48, 49, 32, 102, 111, 114, 109]⟩) := by unfold H9; rw [if_pos h0, if_neg h1]
theorem wN {c : Cf} {s : Ss} {t : ByteArray} (h0 : ¬ (s.state = 2 ∨ s.state = 3)) : H9 c s t = (s, ⟨#[53, 48, 51, 32, 111, 114, 100, 101, 114]⟩) := by unfold H9; rw [if_neg h0]
def oV : Ct := Ar (lc Jn.ag (lc dQ.ag (lc Ax l0))) (fun p => p.2.2.1.size ≤ 2000000 ∧ p.2.1.mail.to.length ≤ 1000) (fun p => .tup [.agg ((Es (H9 p.1 p.2.1 p.2.2.1).1).map .t), .t (.v (.string (H9 p.1 p.2.1 p.2.2.1).2))])
section
attribute [local go_sem] ZD IV xB Si AS.opn AS.cls AS.nilb AS.renb AS.up Bool.not_false Bool.not_true List.set_set List.set_cons_zero List.set_cons_succ List.set_nil List.mem_singleton forall_eq tn List.map_nil List.nil_append
set_option maxHeartbeats 3200000 in
theorem iU {G : Gt} (hG : Ah G) (hh : G.e 226 = AA 0 ZD ∧ G.e 119 = AA 0 IV ∧ G.e 62 = AA 0 xB) : Gd G 224 (AA 1 oV) := by
 refine gr (fn := Tryz.f224) (n := 3) rfl rfl hG ?_
 rintro ⟨c, s, t, ⟨⟩⟩ hpre
 obtain ⟨hz, hn⟩ := hpre
 try dsimp only at hz hn ⊢
 refine BJ (s.state = 2 ∨ s.state = 3) (fun h0 => BJ (GZ t) (fun h1 => have h1' := Ap h1; BJ (Ac (BE t)) (fun h2 => have h2' := Ap h2; have hx := And.intro (wH h0 h1 h2 : H9 c s t = _) (And.intro h0 (And.intro h1' h2')); ?_) (fun h2 => have h2' := AQ h2; BJ (KG c (BE t)) (fun h3 => have h3' := Ap h3; ?w1) (fun h3 => have h3' := AQ h3; have hx := And.intro (wL h0 h1 h2 h3 : H9 c s t = _) (And.intro h0 (And.intro h1' (And.intro h2' h3'))); ?_))) (fun h1 => have h1' := AQ h1; have hx := And.intro (wM h0 h1 : H9 c s t = _) (And.intro h0 h1'); ?_)) (fun h0 => have hx := And.intro (wN h0 : H9 c s t = _) h0; ?_)
 case w1 =>
  simp -implicitDefEqProofs only [Tryz.f224, h0, h1', h2', h3', eq_self, decide_true, decide_false, go_sem, hh, seval]
  with_reducible repeat' (first | apply ai | intro _ | ((first | apply s1 | apply s3 | apply s4) <;> intro hb <;> simp -implicitDefEqProofs only [hb, go_sem, hh, seval] <;> try simp only [qz] at hb))
  all_goals (try simp only [maxLen, tn, lm] at *)
  all_goals first | rfl | omega | decide | with_reducible assumption | (show Aa _ = true; rfl) | exact Ht (by assumption) | contradiction | skip
  all_goals
   refine AE [] (ι := {i : Nat // i ≤ s.mail.to.length ∧ ∀ j, j < i → ¬ s.mail.to.getD j default = BE t}) (fun p => ⟨[(4, .pb 1004 0), (6, .pb 1006 0), (8, .pb 1008 0), (10, .t (.v (.int .i64 p.1)))], [(1004, some (.box ((Es s).map .t))), (1006, some (.box [.t (.v (.int .i64 0)), .t (.v (.string ⟨#[]⟩)), .t (.v (.string ⟨#[]⟩)), .nil, .nil, .t (.v (.bool false)), .t (.v (.string ⟨#[]⟩))])), (1008, some (.box [.t (.v (.string (BE t).user)), .t (.v (.string (BE t).domain))]))]⟩) (fun p => s.mail.to.length - p.1) ⟨0, by simp, by simp⟩ rfl ?_ ?_
   ·simp -implicitDefEqProofs only [go_sem, hh, seval]
    try simp
   ·rintro ⟨i, hi, hall⟩
    simp -implicitDefEqProofs only [go_sem, hh, seval]
    with_reducible repeat' (first | apply ai | intro _ | ((first | apply s1 | apply s3 | apply s4) <;> intro hb <;> simp -implicitDefEqProofs only [hb, go_sem, hh, seval] <;> try simp only [qz] at hb))
    all_goals (try simp only [maxLen, tn, lm, xd, zB, zA, qa, qb] at *)
    all_goals first
     | rfl | omega | decide | with_reducible assumption | (show Aa _ = true; rfl) | exact Ht (by assumption) | contradiction
     | (rw [wI h0 h1 h2 h3 (bC (xs := s.mail.to) (i := i) (by omega) (by assumption))]; first | done | rfl)
     | (rw [wJ h0 h1 h2 h3 (bM (by omega) hall) (by omega)]; first | done | rfl)
     | (rw [wK h0 h1 h2 h3 (bM (by omega) hall) (by omega)]; first | done | rfl | (simp [Am]; done))
     | (refine ⟨⟨i + 1, by omega, fun j hj => ?_⟩, by dsimp only; omega, ?_⟩
        ·by_cases e : j = i
         ·subst e; assumption
         ·exact hall j (by omega)
        ·simp -implicitDefEqProofs only [go_sem, hh, seval]
         simp)
     | skip
 all_goals
  try rw [hx.1]
  simp -implicitDefEqProofs only [Tryz.f224, hx, eq_self, decide_true, decide_false, Int.reduceEq, go_sem, hh, seval]
  with_reducible repeat' (first | apply ai | intro _ | ((first | apply s1 | apply s3 | apply s4) <;> intro hb <;> simp -implicitDefEqProofs only [hb, go_sem, hh, seval] <;> try simp only [qz] at hb))
  all_goals (try simp only [maxLen, tn, lm] at *)
  all_goals first | rfl | omega | decide | with_reducible assumption | (show Aa _ = true; rfl) | exact Ht (by assumption) | contradiction | skip
end
end Go.V
