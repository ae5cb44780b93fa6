/- The row. No condition. -/
import Derived.Test.YtcihecoggoeelaaGreatDoorLA
import Derived.Shelf.Abstract
import Derived.Shelf.RegionOpenPlain
import Derived.WalkKit
import Derived.Lib.Walk
import Derived.Lib.SliceRun
import Derived.Lib.AppendZerosOnto
import Derived.Test.YtcihecoggoeelaaGreatDoorYB
namespace Go.V
open Go Go.Proofs
set_option maxRecDepth 100000
set_option linter.unusedSimpArgs false
set_option linter.unusedVariables false
def c7 : Ct := Aq (lc Ep.ag (lc BI (lc Ap (lc BI l0)))) (fun p => GG p.1 ∧ p.2.2.1.size ≤ 2000000) (fun p => WM (Jk p.1 p.2.1 p.2.2.1 p.2.2.2.1))
section
attribute [local go_sem] vN rp P8 mZ cO ma BN BM Bool.not_true Bool.not_false Br DM Ru Rv Wz AU AT lm List.length_append List.length_cons List.length_nil List.map_nil Nat.zero_add List.nil_append WM RJ Fg AS.opn AS.cls AS.nilb AS.renb AS.up List.set_set List.set_cons_zero List.set_cons_succ List.set_nil List.mem_singleton forall_eq
set_option maxHeartbeats 3200000 in
theorem sj {G : Gt} (hG : Ah G) (hh : G.e 32 = AA 0 vN ∧ G.e 23 = AA 0 rp ∧ G.e 34 = AA 0 P8 ∧ G.e 35 = AA 0 mZ ∧ G.e 36 = AA 0 cO ∧ G.e 37 = AA 0 ma) : Gd G 7 (AA 0 c7) := by
 refine Nh (dp := fun n => !(Nat.beq n 100006 || Nat.beq n 100012)) (fn := Tryz.f7) (n := 4) rfl rfl hG ?_ (hs := fun _ p => Kf _)
 rintro ⟨h, n, to, w, ⟨⟩⟩ hpre
 obtain ⟨hok, hto⟩ := hpre
 dsimp only at hok hto ⊢
 have hok2 := hok
 obtain ⟨hcf, ⟨_, hsz⟩, _⟩ := hok2
 by_cases q1 : EL h
 ·have b1 := Ak q1
  by_cases q2 : Ax h.spool n < 0
  ·have q2' : A5 (fun x : Im => x.id = n) 0 h.spool.items < 0 := q2
   rw [Fo (fun q => q.2.1 q2)]
   simp -implicitDefEqProofs only [Tryz.f7, b1, q2', decide_true, go_sem, hh, seval]
   with_reducible repeat' (first | apply ai | intro _ | ((first | apply s1 | apply s3 | apply s4) <;> intro hb <;> simp -implicitDefEqProofs only [hb, go_sem, hh, seval] <;> try simp only [qz] at hb))
   all_goals first | rfl | omega | assumption | decide | exact trivial | contradiction | exact absurd (Or.inr (by assumption)) q3 | exact absurd (Or.inl (by assumption)) q3 | skip
  ·have q2' : ¬ A5 (fun x : Im => x.id = n) 0 h.spool.items < 0 := q2
   obtain ⟨a0, a1⟩ := Bg q2
   have a0' : 0 ≤ A5 (fun x : Im => x.id = n) 0 h.spool.items := a0
   have a1' : A5 (fun x : Im => x.id = n) 0 h.spool.items < h.spool.items.length := a1
   obtain ⟨ni, hni⟩ := Int.eq_ofNat_of_zero_le a0'
   have hT : Ai h.spool n = h.spool.items.getD ni default := by unfold Ai Ax; rw [hni]; rfl
   rw [hni] at q2' a0' a1'
   by_cases q3 : to = ⟨#[]⟩ ∨ Cc to
   ·have hx := hsz _ (AE (xs := h.spool.items) (j := ni) (by omega))
    obtain ⟨_, ⟨hl1, hzr⟩, ⟨hl2, _⟩⟩ := hx
    obtain ⟨R, hR⟩ : ∃ x, x = Jk h n to w := ⟨_, rfl⟩
    rw [← hR]
    have hRy : ¬ Af h.conf to w (h.spool.items.getD ni default).to = [] → R = (Fg h.conf (h.spool.items.getD ni default) to w, true) := fun q => by rw [hR, MR ⟨q1, q2, q3, by rw [hT]; exact q⟩, hT]
    have hRn : Af h.conf to w (h.spool.items.getD ni default).to = [] → R = (RJ, false) := fun q => by rw [hR, Fo (fun z => z.2.2.2 (by rw [hT]; exact q))]
    have hdm : (decide (to = ⟨#[]⟩) || BL (Cc to)) = true := by
     rcases q3 with q | q
     ·simp [q]
     ·simp [Ak q]
    simp -implicitDefEqProofs only [Tryz.f7, b1, hni, q2', decide_false, tn, go_sem, hh, seval]
    with_reducible repeat' (first | apply ai | intro _ | ((first | apply s1 | apply s3 | apply s4) <;> intro hb <;> simp -implicitDefEqProofs only [hb, go_sem, hh, seval] <;> try simp only [qz] at hb))
    all_goals (try simp only [maxLen, tn] at *)
    all_goals first | rfl | omega | assumption | decide | exact trivial | contradiction | (exfalso; rcases q3 with q3 | q3 <;> contradiction) | skip
    all_goals
     refine Ag (Le.nilb 1012 2 1901 true 2 rfl rfl rfl) (Ab ?_)
     simp -implicitDefEqProofs only [go_sem, hh, seval]
     with_reducible repeat' (first | apply ai | intro _ | ((first | apply s1 | apply s3 | apply s4) <;> intro hb <;> simp -implicitDefEqProofs only [hb, go_sem, hh, seval] <;> try simp only [qz] at hb))
     all_goals first | rfl | omega | skip
     refine AF [] (ι := {p : Nat × List Ad // p.1 ≤ (h.spool.items.getD ni default).to.length ∧ p.2.length ≤ p.1 ∧ Af h.conf to w (h.spool.items.getD ni default).to = p.2 ++ Af h.conf to w ((h.spool.items.getD ni default).to.drop p.1)}) (fun p => ⟨[(2, .t (.v (.string to))), (3, .t (.v (.int .i64 w))), (4, .pb 1004 0), (8, .pb 1008 0), (12, .pb 1012 0), (51, .t (.sl 4 ((h.spool.items.getD ni default).to.map BO))), (52, .t (.v (.int .i64 (h.spool.items.getD ni default).to.length))), (53, .t (.v (.int .i64 p.1.1)))], [(1004, some (.box ((Al h).map .t))), (1008, some (.box [.t (.v (.string ⟨#[]⟩)), .t (.v (.string ⟨#[]⟩)), .nil, .nil])), (1012, some (.box [.t (.v (.string (h.spool.items.getD ni default).frm.user)), .t (.v (.string (h.spool.items.getD ni default).frm.domain)), .h 1901, .h 1048])), (1048, some (.arr true 1 ((h.spool.items.getD ni default).body.map AH))), (1901, some (.arr true 2 (p.1.2.map Ao)))]⟩) (fun p => (h.spool.items.getD ni default).to.length - p.1.1) ⟨(0, []), by simp, by simp, rfl⟩ rfl ?_ ?_
     ·simp -implicitDefEqProofs only [go_sem, hh, seval]
      try simp
     ·rintro ⟨⟨i, L⟩, hi, hL, hq⟩
      dsimp only at hi hL hq ⊢
      by_cases hlt : (i : Int) < (h.spool.items.getD ni default).to.length
      ·have hd := bd q1 (i := ni) (k := i) (by omega) (by omega)
       have hd2 : ((h.spool.items.getD ni default).to.getD i default).addr.domain.size ≤ 2000000 := by have : ((h.spool.items.getD ni default).to.getD i default).addr.domain.size ≤ 1048576 := (hzr _ (AE (by omega))).2; omega
       have hcf2 := q1.2.1
       by_cases hN : HF h.conf to w ((h.spool.items.getD ni default).to.getD i default)
       ·have hN2 := hN
        obtain ⟨n1, n2⟩ := hN2
        rcases n2 with ⟨m1, m2⟩ | ⟨m1, m2, m3⟩
        ·have c1 := Ak m1
         have m2d := decide_eq_true m2
         simp -implicitDefEqProofs only [hlt, c1, n1, m2d, decide_true, tn, go_sem, hh, seval]
         with_reducible repeat' (first | apply ai | intro _ | ((first | apply s1 | apply s3 | apply s4) <;> intro hb <;> simp -implicitDefEqProofs only [hb, go_sem, hh, seval] <;> try simp only [qz] at hb))
         all_goals (try simp only [maxLen, tn] at *)
         all_goals first | rfl | omega | assumption | decide | skip
         all_goals
          refine Ag (Le.renb 1012 2 1097 1901 rfl rfl rfl rfl) (Ab ?_)
          simp -implicitDefEqProofs only [go_sem, hh, seval]
          with_reducible repeat' (first | apply ai | intro _ | ((first | apply s1 | apply s3 | apply s4) <;> intro hb <;> simp -implicitDefEqProofs only [hb, go_sem, hh, seval] <;> try simp only [qz] at hb))
          all_goals first | rfl | omega | decide | skip
          refine ⟨⟨(i + 1, L ++ [((h.spool.items.getD ni default).to.getD i default).addr]), by dsimp only; omega, by simp; omega, by dsimp only; rw [hq, Kh (by omega) (by assumption)]; simp⟩, by dsimp only; omega, ?_⟩
          simp -implicitDefEqProofs only [go_sem, hh, seval]
          simp only [G8]
          with_reducible repeat' (first | apply ai | intro _ | ((first | apply s1 | apply s3 | apply s4) <;> intro hb <;> simp -implicitDefEqProofs only [hb, go_sem, hh, seval] <;> try simp only [qz] at hb))
          all_goals first | rfl | (simp; done) | skip
        ·have c1 := AO m1
         have c3 : K7 h.conf ((h.spool.items.getD ni default).to.getD i default).addr.domain = to := by rw [Hy m1]; exact m3
         simp -implicitDefEqProofs only [hlt, c1, c3, n1, m2, decide_true, decide_false, tn, go_sem, hh, seval]
         with_reducible repeat' (first | apply ai | intro _ | ((first | apply s1 | apply s3 | apply s4) <;> intro hb <;> simp -implicitDefEqProofs only [hb, go_sem, hh, seval] <;> try simp only [qz] at hb))
         all_goals (try simp only [maxLen, tn] at *)
         all_goals first | rfl | omega | assumption | decide | skip
         all_goals
          refine Ag (Le.renb 1012 2 1097 1901 rfl rfl rfl rfl) (Ab ?_)
          simp -implicitDefEqProofs only [go_sem, hh, seval]
          with_reducible repeat' (first | apply ai | intro _ | ((first | apply s1 | apply s3 | apply s4) <;> intro hb <;> simp -implicitDefEqProofs only [hb, go_sem, hh, seval] <;> try simp only [qz] at hb))
          all_goals first | rfl | omega | decide | skip
          refine ⟨⟨(i + 1, L ++ [((h.spool.items.getD ni default).to.getD i default).addr]), by dsimp only; omega, by simp; omega, by dsimp only; rw [hq, Kh (by omega) (by assumption)]; simp⟩, by dsimp only; omega, ?_⟩
          simp -implicitDefEqProofs only [go_sem, hh, seval]
          simp only [G8]
          with_reducible repeat' (first | apply ai | intro _ | ((first | apply s1 | apply s3 | apply s4) <;> intro hb <;> simp -implicitDefEqProofs only [hb, go_sem, hh, seval] <;> try simp only [qz] at hb))
          all_goals first | rfl | (simp; done) | skip
       ·have hN2 : ∀ b : Bool, (b = true → HF h.conf to w ((h.spool.items.getD ni default).to.getD i default)) → b = false := fun b hb => by
          cases b
          ·rfl
          ·exact absurd (hb rfl) hN
        simp -implicitDefEqProofs only [hlt, decide_true, tn, go_sem, hh, seval]
        with_reducible repeat' (first | apply ai | intro _ | ((first | apply s1 | apply s3 | apply s4) <;> intro hb <;> simp -implicitDefEqProofs only [hb, go_sem, hh, seval] <;> try simp only [qz] at hb))
        all_goals (try simp only [maxLen, tn] at *)
        all_goals first
         | rfl
         | omega
         | assumption
         | decide
         | (exfalso; exact hN ⟨by omega, .inl ⟨by assumption, by assumption⟩⟩)
         | (exfalso; exact hN ⟨by omega, .inr ⟨by assumption, by assumption, by rw [← Hy (by assumption)]; assumption⟩⟩)
         | skip
        all_goals
         refine Ab ?_
         simp -implicitDefEqProofs only [go_sem, hh, seval]
         with_reducible repeat' (first | apply ai | intro _ | ((first | apply s1 | apply s3 | apply s4) <;> intro hb <;> simp -implicitDefEqProofs only [hb, go_sem, hh, seval] <;> try simp only [qz] at hb))
         all_goals first | rfl | omega | decide | skip
         refine ⟨⟨(i + 1, L), by dsimp only; omega, by dsimp only; omega, by dsimp only; rw [hq, NP (by omega) (by assumption)]⟩, by dsimp only; omega, ?_⟩
         simp -implicitDefEqProofs only [go_sem, hh, seval]
         try simp
      ·have hend : Af h.conf to w (h.spool.items.getD ni default).to = L := by rw [hq, Hk (by omega), List.append_nil]
       rw [hend] at hRy hRn
       by_cases hL0 : L = []
       ·rw [hRn hL0]
        subst hL0
        simp -implicitDefEqProofs only [hlt, decide_false, go_sem, hh, seval]
        with_reducible repeat' (first | apply ai | intro _ | ((first | apply s1 | apply s3 | apply s4) <;> intro hb <;> simp -implicitDefEqProofs only [hb, go_sem, hh, seval] <;> try simp only [qz] at hb))
        all_goals first | with_reducible rfl | omega | decide | exact absurd rfl (by assumption) | rfl | skip
       ·rw [hRy hL0]
        have hL1 : ¬ (L.length : Int) = 0 := fun e => hL0 (List.eq_nil_of_length_eq_zero (by omega))
        simp -implicitDefEqProofs only [hlt, hL1, hend, decide_false, go_sem, hh, seval]
        with_reducible repeat' (first | apply ai | intro _ | ((first | apply s1 | apply s3 | apply s4) <;> intro hb <;> simp -implicitDefEqProofs only [hb, go_sem, hh, seval] <;> try simp only [qz] at hb))
        all_goals first | with_reducible rfl | omega | decide | exact absurd rfl (by assumption) | rfl | skip
   ·have q5 : ¬ to = ⟨#[]⟩ := fun e => q3 (.inl e)
    have b5 := AO (fun e => q3 (.inr e))
    rw [Fo (fun q => q3 q.2.2.1)]
    simp -implicitDefEqProofs only [Tryz.f7, b1, b5, hni, q5, decide_true, decide_false, go_sem, hh, seval]
    with_reducible repeat' (first | apply ai | intro _ | ((first | apply s1 | apply s3 | apply s4) <;> intro hb <;> simp -implicitDefEqProofs only [hb, go_sem, hh, seval] <;> try simp only [qz] at hb))
    all_goals first | rfl | omega | assumption | decide | exact trivial | contradiction | exact absurd (Or.inr (by assumption)) q3 | exact absurd (Or.inl (by assumption)) q3 | skip
 ·have b1 := AO q1
  rw [Fo (fun q => q1 q.1)]
  simp -implicitDefEqProofs only [Tryz.f7, b1, go_sem, hh, seval]
  with_reducible repeat' (first | apply ai | intro _ | ((first | apply s1 | apply s3 | apply s4) <;> intro hb <;> simp -implicitDefEqProofs only [hb, go_sem, hh, seval] <;> try simp only [qz] at hb))
  all_goals first | rfl | omega | assumption | decide | exact trivial | contradiction | exact absurd (Or.inr (by assumption)) q3 | exact absurd (Or.inl (by assumption)) q3 | skip
end
def DG (c : Cf) (a : Ad) : Prop := a.domain ∈ c.own ∨ ¬ I0 c a.domain = ⟨#[]⟩
theorem H4 {c : Cf} {a : Ad} : (a.domain ∈ c.own ∨ ¬ K7 c a.domain = ⟨#[]⟩) ↔ DG c a := by
 unfold DG
 by_cases h : a.domain ∈ c.own
 ·exact ⟨fun _ => .inl h, fun _ => .inl h⟩
 ·rw [Hy h]
def uh : Ct := Aq (lc H3.ag (lc C3.ag l0)) (fun p => True) (fun p => .t (.v (.bool (BL (DG p.1 p.2.1)))))
section
attribute [local go_sem] cR Qd AU AT
theorem ot {G : Gt} (hG : Ah G) (hh : G.e 85 = AA 0 cR ∧ G.e 112 = AA 0 Qd) : Gd G 62 (AA 0 uh) := by
 refine gr (fn := Tryz.f62) (n := 2) rfl rfl hG ?_
 rintro ⟨c, a, ⟨⟩⟩ hpre
 simp -implicitDefEqProofs only [Tryz.f62, go_sem, hh, seval] at hpre ⊢
 with_reducible repeat' (first | apply ai | intro _ | ((first | apply s1 | apply s3 | apply s4) <;> intro hb <;> simp -implicitDefEqProofs only [hb, go_sem, hh, seval] <;> try simp only [qz] at hb))
 all_goals first | rfl | omega | skip
 all_goals (try simp only [AU, AT] at *)
 all_goals first
  | exact uT (.inl (by assumption))
  | exact uB (by simp only [qc, qb]; exact ⟨fun z => .inr z, fun q => q.elim (fun z => absurd z (by assumption)) id⟩)
  | skip
end
def rr : Ct := Aq (lc H3.ag (lc C3.ag l0)) (fun p => Gf p.1 ∧ GF p.1 ∧ p.2.1.domain.size ≤ 2000000 ∧ Cc p.2.1.domain) (fun p => .t (.v (.bool (BL (DG p.1 p.2.1)))))
section
attribute [local go_sem] cO ma AU AT
theorem oV {G : Gt} (hG : Ah G) (hh : G.e 36 = AA 0 cO ∧ G.e 37 = AA 0 ma) : Gd G 45 (AA 0 rr) := by
 refine gr (fn := Tryz.f45) (n := 2) rfl rfl hG ?_
 rintro ⟨c, a, ⟨⟩⟩ hpre
 simp -implicitDefEqProofs only [Tryz.f45, go_sem, hh, seval] at hpre ⊢
 obtain ⟨h1, h2, h3, h4⟩ := hpre
 with_reducible repeat' (first | apply ai | intro _ | ((first | apply s1 | apply s3 | apply s4) <;> intro hb <;> simp -implicitDefEqProofs only [hb, go_sem, hh, seval] <;> try simp only [qz] at hb))
 all_goals first | rfl | omega | assumption | skip
 all_goals (try simp only [AU, AT] at *)
 all_goals first
  | exact uT (H4.1 (.inl (by assumption)))
  | exact uB (by simp only [qc, qb]; exact ⟨fun z => H4.1 (.inr z), fun q => (H4.2 q).elim (fun z => absurd z (by assumption)) id⟩)
  | skip
end
inductive LT where
 | wrong
 | refused (h : Hs)
def LT.enc : LT → AV
 | .wrong  => .t (.fn 46 [])
 | .refused h => .t (.fn 64 [.rop (Al h)])
def LT.dec : AV → Option LT
 | .t (.fn 46 []) => some (.wrong )
 | .t (.fn 64 [.rop c0]) => (Ep.dec c0).map .refused
 | _ => none
def LT.sem : LT → Ad → Prop
 | .wrong , x => ¬ BJ x
 | .refused h, x => ¬ DG h.conf x
def LT.pre : LT → Ad → Prop
 | .wrong , x => x.domain.size ≤ 2000000
 | .refused h, x => Gf h.conf ∧ GF h.conf ∧ x.domain.size ≤ 2000000 ∧ Cc x.domain
def QB : AD LT where
 enc := LT.enc
 dec := LT.dec
 ed := fun f => by
  cases f
  all_goals first | rfl | (show (Ep.dec (Ep.enc _)).map _ = _; rw [Ep.ed]; rfl)
 de := fun x f h => by
  unfold LT.dec at h
  split at h
  all_goals first | (cases h; rfl; done) | (obtain ⟨v, hv, rfl⟩ := Option.map_eq_some_iff.1 h; rw [Ep.de _ _ hv]; rfl) | cases h
theorem JH  : QB.dec (.t (.fn 46 [])) = some (.wrong ) := rfl
theorem JJ  : QB.enc (.wrong ) = .t (.fn 46 []) := rfl
theorem JI {c0 : List T} : QB.dec (.t (.fn 64 [.rop c0])) = (Ep.dec c0).map .refused := rfl
theorem JK {v : Hs} : QB.enc (.refused v) = .t (.fn 64 [.rop (Al v)]) := rfl
def vQ : Ct := Aq (lc C3.ag l0) (fun p => p.1.domain.size ≤ 2000000) (fun p => .t (.v (.bool (BL (¬ BJ p.1)))))
section
attribute [local go_sem] Wi BN BM Bool.not_true Bool.not_false Br DM
theorem oW {G : Gt} (hG : Ah G) (hh : G.e 44 = AA 0 Wi) : Gd G 46 (AA 0 vQ) := by
 refine gr (fn := Tryz.f46) (n := 1) rfl rfl hG ?_
 rintro ⟨x, ⟨⟩⟩ hpre
 simp -implicitDefEqProofs only [Tryz.f46, go_sem, hh, seval] at hpre ⊢
 with_reducible repeat' (first | apply ai | intro _ | ((first | apply s1 | apply s3 | apply s4) <;> intro hb <;> simp -implicitDefEqProofs only [hb, go_sem, hh, seval] <;> try simp only [qz] at hb))
 all_goals first | rfl | omega | exact hpre | skip
 all_goals (try (simp only [ED]; done))
 all_goals first | rfl | (rw [BF]; done) | (rw [BF, decide_eq_decide.2]; simp [B5]; done) | (rw [BF]; simp [B5]; done)
end
def vS : Ct := Aq (lc C3.ag (lc Ep.ap l0)) (fun p => Gf p.2.1.conf ∧ GF p.2.1.conf ∧ p.1.domain.size ≤ 2000000 ∧ Cc p.1.domain) (fun p => .t (.v (.bool (BL (¬ DG p.2.1.conf p.1)))))
section
attribute [local go_sem] rr BN BM Bool.not_true Bool.not_false Br DM
theorem ou {G : Gt} (hG : Ah G) (hh : G.e 45 = AA 0 rr) : Gd G 64 (AA 0 vS) := by
 refine gr (fn := Tryz.f64) (n := 2) rfl rfl hG ?_
 rintro ⟨x, h, ⟨⟩⟩ hpre
 simp -implicitDefEqProofs only [Tryz.f64, go_sem, hh, seval] at hpre ⊢
 with_reducible repeat' (first | apply ai | intro _ | ((first | apply s1 | apply s3 | apply s4) <;> intro hb <;> simp -implicitDefEqProofs only [hb, go_sem, hh, seval] <;> try simp only [qz] at hb))
 all_goals first | rfl | omega | exact hpre.1 | exact hpre.2.1 | exact hpre.2.2.1 | exact hpre.2.2.2 | skip
 all_goals (try (simp only [ED]; done))
 all_goals trace_state
end
def vf : Ct := Aq (lc C3.asl (lc QB l0)) (fun p => ∀ x ∈ p.1, p.2.1.pre x) (fun p => .t (.v (.int .i64 (A5 p.2.1.sem 0 p.1))))
section
attribute [local go_sem] vQ vS BN BM Bool.not_true Bool.not_false Br DM JH JJ JI JK Option.map_some
theorem pU {G : Gt} (hG : Ah G) (hh : G.e 46 = AA 0 vQ ∧ G.e 64 = AA 0 vS) : Gd G 96 (AA 0 vf) := by
 refine gr (fn := Tryz.f96) (n := 2) rfl rfl hG ?_
 rintro ⟨xs, f, ⟨⟩⟩ hpre
 have hs := hpre
 dsimp only at hs ⊢
 cases f with
 | wrong  =>
   simp -implicitDefEqProofs only [Tryz.f96, go_sem, hh, seval]
   with_reducible repeat' (first | apply ai | intro _ | ((first | apply s1 | apply s3 | apply s4) <;> intro hb <;> simp -implicitDefEqProofs only [hb, go_sem, hh, seval] <;> try simp only [qz] at hb))
   all_goals first | rfl | omega | skip
   refine AF [] (ι := {i : Nat // i ≤ xs.length ∧ A5 (LT.sem (.wrong )) 0 xs = A5 (LT.sem (.wrong )) i (xs.drop i)}) (fun p => ⟨[(0, .t (.sl 2 (xs.map Ao))), (1, .t (.fn 46 [])), (7, .t (.v (.int .i64 xs.length))), (8, .t (.v (.int .i64 p.1)))], []⟩) (fun p => xs.length - p.1) ⟨0, Nat.zero_le _, rfl⟩ rfl ?_ ?_
   ·simp -implicitDefEqProofs only [go_sem, hh, seval]
    try simp
   ·rintro ⟨i, hi, hix⟩
    by_cases hlt : (i : Int) < xs.length
    ·have hm : xs.getD (i : Int).toNat default ∈ xs := AE (by omega)
     have hsz := hs _ hm
     cases hb : BL (¬ BJ (xs.getD (i : Int).toNat default))
     ·have hq := hb
      simp -implicitDefEqProofs only [hlt, hq, go_sem, hh, seval]
      with_reducible repeat' (first | apply ai | intro _ | ((first | apply s1 | apply s3 | apply s4) <;> intro hb <;> simp -implicitDefEqProofs only [hb, go_sem, hh, seval] <;> try simp only [qz] at hb))
      all_goals (try simp only [maxLen] at *)
      all_goals first | rfl | omega | with_reducible assumption | exact hsz | exact hsz.1 | exact hsz.2 | exact hsz.2 _ (by assumption) | exact hsz.2.1 | exact hsz.2.2.1 | exact hsz.2.2.2 | trivial | skip
      rw [AT, tn] at hb
      refine ⟨⟨i + 1, by omega, ?_⟩, by dsimp only; omega, ?_⟩
      ·rw [hix, Du (p := LT.sem (.wrong )) (by omega) hb]
      ·simp -implicitDefEqProofs only [go_sem, hh, seval]
       try simp
     ·have hq := hb
      simp -implicitDefEqProofs only [hlt, hq, go_sem, hh, seval]
      with_reducible repeat' (first | apply ai | intro _ | ((first | apply s1 | apply s3 | apply s4) <;> intro hb <;> simp -implicitDefEqProofs only [hb, go_sem, hh, seval] <;> try simp only [qz] at hb))
      all_goals (try simp only [maxLen] at *)
      all_goals first | rfl | omega | with_reducible assumption | exact hsz | exact hsz.1 | exact hsz.2 | exact hsz.2 _ (by assumption) | exact hsz.2.1 | exact hsz.2.2.1 | exact hsz.2.2.2 | trivial | skip
      rw [AU, tn] at hb
      rw [hix, Cs (p := LT.sem (.wrong )) (by omega) hb]
    ·simp -implicitDefEqProofs only [hlt, go_sem, hh, seval]
     with_reducible repeat' (first | apply ai | intro _ | ((first | apply s1 | apply s3 | apply s4) <;> intro hb <;> simp -implicitDefEqProofs only [hb, go_sem, hh, seval] <;> try simp only [qz] at hb))
     all_goals first | rfl | omega | skip
     all_goals (rw [hix, Cr (by omega)])
 | refused h =>
   simp -implicitDefEqProofs only [Tryz.f96, go_sem, hh, seval]
   with_reducible repeat' (first | apply ai | intro _ | ((first | apply s1 | apply s3 | apply s4) <;> intro hb <;> simp -implicitDefEqProofs only [hb, go_sem, hh, seval] <;> try simp only [qz] at hb))
   all_goals first | rfl | omega | skip
   refine AF [] (ι := {i : Nat // i ≤ xs.length ∧ A5 (LT.sem (.refused h)) 0 xs = A5 (LT.sem (.refused h)) i (xs.drop i)}) (fun p => ⟨[(0, .t (.sl 2 (xs.map Ao))), (1, QB.enc (.refused h)), (7, .t (.v (.int .i64 xs.length))), (8, .t (.v (.int .i64 p.1)))], []⟩) (fun p => xs.length - p.1) ⟨0, Nat.zero_le _, rfl⟩ rfl ?_ ?_
   ·simp -implicitDefEqProofs only [go_sem, hh, seval]
    try simp
   ·rintro ⟨i, hi, hix⟩
    by_cases hlt : (i : Int) < xs.length
    ·have hm : xs.getD (i : Int).toNat default ∈ xs := AE (by omega)
     have hsz := hs _ hm
     cases hb : BL (¬ DG h.conf (xs.getD (i : Int).toNat default))
     ·have hq := hb
      simp -implicitDefEqProofs only [hlt, hq, go_sem, hh, seval]
      with_reducible repeat' (first | apply ai | intro _ | ((first | apply s1 | apply s3 | apply s4) <;> intro hb <;> simp -implicitDefEqProofs only [hb, go_sem, hh, seval] <;> try simp only [qz] at hb))
      all_goals (try simp only [maxLen] at *)
      all_goals first | rfl | omega | with_reducible assumption | exact hsz | exact hsz.1 | exact hsz.2 | exact hsz.2 _ (by assumption) | exact hsz.2.1 | exact hsz.2.2.1 | exact hsz.2.2.2 | trivial | skip
      rw [AT, tn] at hb
      refine ⟨⟨i + 1, by omega, ?_⟩, by dsimp only; omega, ?_⟩
      ·rw [hix, Du (p := LT.sem (.refused h)) (by omega) hb]
      ·simp -implicitDefEqProofs only [go_sem, hh, seval]
       try simp
     ·have hq := hb
      simp -implicitDefEqProofs only [hlt, hq, go_sem, hh, seval]
      with_reducible repeat' (first | apply ai | intro _ | ((first | apply s1 | apply s3 | apply s4) <;> intro hb <;> simp -implicitDefEqProofs only [hb, go_sem, hh, seval] <;> try simp only [qz] at hb))
      all_goals (try simp only [maxLen] at *)
      all_goals first | rfl | omega | with_reducible assumption | exact hsz | exact hsz.1 | exact hsz.2 | exact hsz.2 _ (by assumption) | exact hsz.2.1 | exact hsz.2.2.1 | exact hsz.2.2.2 | trivial | skip
      rw [AU, tn] at hb
      rw [hix, Cs (p := LT.sem (.refused h)) (by omega) hb]
    ·simp -implicitDefEqProofs only [hlt, go_sem, hh, seval]
     with_reducible repeat' (first | apply ai | intro _ | ((first | apply s1 | apply s3 | apply s4) <;> intro hb <;> simp -implicitDefEqProofs only [hb, go_sem, hh, seval] <;> try simp only [qz] at hb))
     all_goals first | rfl | omega | skip
     all_goals (rw [hix, Cr (by omega)])
end
def uf : Ct := Aq (lc C3.asl (lc QB l0)) (fun p => ∀ x ∈ p.1, p.2.1.pre x) (fun p => .t (.v (.bool (BL (∃ x ∈ p.1, p.2.1.sem x)))))
section
attribute [local go_sem] vf BN BM Bool.not_true Bool.not_false Br DM JH JJ JI JK Option.map_some
theorem oZ {G : Gt} (hG : Ah G) (hh : G.e 96 = AA 0 vf) : Gd G 49 (AA 0 uf) := by
 refine gr (fn := Tryz.f49) (n := 2) rfl rfl hG ?_
 rintro ⟨xs, f, ⟨⟩⟩ hpre
 dsimp only at hpre ⊢
 cases f
 all_goals
  simp -implicitDefEqProofs only [Tryz.f49, go_sem, hh, seval]
  with_reducible repeat' (first | apply ai | intro _ | ((first | apply s1 | apply s3 | apply s4) <;> intro hb <;> simp -implicitDefEqProofs only [hb, go_sem, hh, seval] <;> try simp only [qz] at hb))
  all_goals first | rfl | omega | exact hpre | exact hpre _ (by assumption) | skip
  all_goals (rw [← AW (EF _ 0)]; rw [BF])
end
def rm : Ct := Aq (lc Wc.ag l0) (fun p => (∀ a ∈ p.1.to, a.domain.size ≤ 2000000) ∧ p.1.frm.domain.size ≤ 2000000 ∧ ∀ s ∈ p.1.body, s.size ≤ 2000000) (fun p => .t (.v (.bool (BL (Ce p.1)))))
section
attribute [local go_sem] md Wj uf rt cQ BN BM Bool.not_true Bool.not_false Br DM JH JJ JI JK Df Dh Dg Di AU AT
set_option maxHeartbeats 800000 in
theorem oA {G : Gt} (hG : Ah G) (hh : G.e 47 = AA 0 md ∧ G.e 48 = AA 0 Wj ∧ G.e 49 = AA 0 uf ∧ G.e 50 = AA 0 rt ∧ G.e 51 = AA 0 cQ) : Gd G 12 (AA 0 rm) := by
 refine gr (fn := Tryz.f12) (n := 1) rfl rfl hG ?_
 rintro ⟨m, ⟨⟩⟩ hpre
 simp -implicitDefEqProofs only [Tryz.f12, go_sem, hh, seval] at hpre ⊢
 with_reducible repeat' (first | apply ai | intro _ | ((first | apply s1 | apply s3 | apply s4) <;> intro hb <;> simp -implicitDefEqProofs only [hb, go_sem, hh, seval] <;> try simp only [qz] at hb))
 all_goals (try simp only [AU, AT, ED, Decidable.not_not, Classical.not_not] at *)
 all_goals first | rfl | omega | exact hpre.1 | exact hpre.2.1 | exact hpre.2.2 | exact hpre.1 _ (by assumption) | exact hpre.2.2 _ (by assumption) | skip
 ·refine congrArg (fun b => T.v (.bool b)) (AW ⟨fun h => ?_, fun h => h.2.2.2.2⟩)
  rename_i q1 q2 q3 q4
  exact ⟨fun a ha => Classical.byContradiction fun q => q4 ⟨a, ha, q⟩, hb, q1, by omega, h⟩
 ·rw [AO (fun h => absurd h.2.1 (by assumption))]
 ·rw [AO (fun h => by obtain ⟨a, ha, q⟩ := hb; exact q (h.1 a ha))]
 ·rw [AO (fun h => by have := h.2.2.2.1; omega)]
 ·rw [AO (fun h => absurd h.2.2.1 (by assumption))]
end
def Ju (w : Int) (a : Ad) : Rc := ⟨a, 0, w⟩
def XM (s : Sp) (m : Ml) (w : Int) : Im := ⟨s.last + 1, m.frm, m.to.map (Ju w), m.body⟩
def LH (s : Sp) (m : Ml) (w : Int) : Sp := ⟨s.last + 1, s.items ++ [XM s m w]⟩
def CG (s : Sp) : Prop := (s.items.length : Int) < 10 ∧ s.last < 999
theorem gL {xs : List Ad} {w : Int} {i : Nat} (h : i < xs.length) : ((xs.map (Ju w)).take (i + 1)).map BO = ((xs.map (Ju w)).take i).map BO ++ [[.v (.string (xs.getD i default).user), .v (.string (xs.getD i default).domain), .v (.int .i64 0), .v (.int .i64 w)]] := by
 have e : (xs.map (Ju w)).getD i default = Ju w (xs.getD i default) := by
  simp only [List.getD_eq_getElem?_getD, List.getElem?_map, List.getElem?_eq_getElem h, Option.map_some, Option.getD_some]
 rw [B2 BO (by rw [lm]; exact h), e]
 rfl
def J4 : Ct := Aq (lc We.ag l0) (fun p => True) (fun p => .t (.v (.bool (BL (CG p.1)))))
section
attribute [local go_sem] lm
theorem dO {G : Gt} (hG : Ah G) : Gd G 121 (AA 0 J4) := by
 refine gr (fn := Tryz.f121) (n := 1) rfl rfl hG ?_
 rintro ⟨s, ⟨⟩⟩ hpre
 simp -implicitDefEqProofs only [Tryz.f121, go_sem, seval] at hpre ⊢
 with_reducible repeat' (first | apply ai | intro _ | ((first | apply s1 | apply s3 | apply s4) <;> intro hb <;> simp -implicitDefEqProofs only [hb, go_sem, seval] <;> try simp only [qz] at hb))
 all_goals first
  | rfl
  | omega
  | (rw [← BF, AW]; exact ⟨fun h => ⟨by assumption, h⟩, fun h => h.2⟩)
  | (rw [AO]; rintro ⟨h1, h2⟩; contradiction)
  | (rw [Ak]; exact ⟨by assumption, by assumption⟩)
  | skip
end
section
attribute [local go_sem] lm
end
def Qe : Ct := Aq (lc We.ag (lc Wc.ag (lc BI l0))) (fun p => GI p.1 ∧ LE p.2.1 ∧ CO p.1) (fun p => .agg ((FU (LH p.1 p.2.1 p.2.2.1)).map .t))
section
attribute [local go_sem] JC I4 List.take_length List.drop_zero List.length_take List.length_drop lm List.length_append List.length_cons List.length_nil List.map_append List.map_nil List.map_cons List.nil_append Nat.zero_add List.mem_singleton forall_eq Bool.not_true Bool.not_false AS.opn AS.cls AS.nilb AS.renb List.set_set List.set_cons_zero List.set_cons_succ List.set_nil
set_option maxHeartbeats 1600000 in
theorem dR {G : Gt} (hG : Ah G) : Gd G 124 (AA 1 Qe) := by
 refine Nh (dp := fun n => Nat.ble 100000 n && !(Nat.beq n 100002 || Nat.beq n 100004 || Nat.beq n 100007)) (fn := Tryz.f124) (n := 3) rfl rfl hG ?_
 rintro ⟨s, m, w, ⟨⟩⟩ hpre
 simp -implicitDefEqProofs only [Tryz.f124, go_sem, seval] at hpre ⊢
 obtain ⟨hok, hml, hsp⟩ := hpre
 have hok' : HG GH s.items := hok
 obtain ⟨_, ⟨hl1, _⟩, ⟨hl2, _⟩⟩ := hml
 obtain ⟨_, _, ⟨hs0, hs1⟩, hs2⟩ := hsp
 with_reducible repeat' (first | apply ai | intro _ | ((first | apply s1 | apply s3 | apply s4) <;> intro hb <;> simp -implicitDefEqProofs only [hb, go_sem, seval] <;> try simp only [qz] at hb))
 all_goals (try simp only [maxLen] at *)
 all_goals first | rfl | omega | assumption | decide | skip
 all_goals
  refine Ag (Le.nilb 1007 3 1901 true 4 rfl rfl rfl) (Ab ?_)
  simp -implicitDefEqProofs only [go_sem, seval]
  refine AF [] (ι := {i : Nat // i ≤ m.to.length}) (fun p => ⟨[(2, .t (.v (.int .i64 w))), (3, .pb 1003 0), (4, .pb 1004 0), (6, .pb 1006 0), (7, .pb 1007 0), (8, .t (.v (.int .i64 p.1)))], [(1003, some (.box [.t (.v (.int .i64 s.last)), .t (.sl 5 (s.items.map Az))])), (1004, some (.box ((Ca m).map .t))), (1006, some (.box [.t (.v (.int .i64 0)), .nil])), (1007, some (.box [.t (.v (.int .i64 (s.last + 1))), .t (.v (.string m.frm.user)), .t (.v (.string m.frm.domain)), .h 1901, .h 1017])), (1017, some (.arr true 1 (m.body.map AH))), (1901, some (.arr true 4 (((m.to.map (Ju w)).take p.1).map BO)))]⟩) (fun p => m.to.length - p.1) ⟨0, by simp⟩ rfl ?_ ?_
  ·simp -implicitDefEqProofs only [go_sem, seval]
   try simp
  ·rintro ⟨i, hi⟩
   have hlen : ((m.to.map (Ju w)).take i).length = i := by simp; omega
   by_cases hlt : (i : Int) < m.to.length
   ·simp -implicitDefEqProofs only [hlt, decide_true, tn, go_sem, seval]
    with_reducible repeat' (first | apply ai | intro _ | ((first | apply s1 | apply s3 | apply s4) <;> intro hb <;> simp -implicitDefEqProofs only [hb, go_sem, seval] <;> try simp only [qz] at hb))
    all_goals (try simp only [maxLen] at *)
    all_goals first | rfl | omega | assumption | decide | skip
    refine Ag (Le.renb 1007 3 1036 1901 rfl rfl rfl rfl) (Ab ?_)
    simp -implicitDefEqProofs only [go_sem, seval]
    with_reducible repeat' (first | apply ai | intro _ | ((first | apply s1 | apply s3 | apply s4) <;> intro hb <;> simp -implicitDefEqProofs only [hb, go_sem, seval] <;> try simp only [qz] at hb))
    all_goals first | rfl | omega | decide | skip
    refine ⟨⟨i + 1, by omega⟩, by dsimp only; omega, ?_⟩
    simp -implicitDefEqProofs only [go_sem, seval]
    simp only [gL (show i < m.to.length by omega)]
    with_reducible repeat' (first | apply ai | intro _ | ((first | apply s1 | apply s3 | apply s4) <;> intro hb <;> simp -implicitDefEqProofs only [hb, go_sem, seval] <;> try simp only [qz] at hb))
    all_goals first | rfl | (simp; done) | skip
   ·simp -implicitDefEqProofs only [hlt, decide_false, go_sem, seval]
    with_reducible repeat' (first | apply ai | intro _ | ((first | apply s1 | apply s3 | apply s4) <;> intro hb <;> simp -implicitDefEqProofs only [hb, go_sem, seval] <;> try simp only [qz] at hb))
    all_goals first | rfl | omega | skip
    rw [List.take_of_length_le (by rw [lm]; omega)]
    refine Ag (Le.frzL [1901, 1017]) (Ab ?_)
    simp -implicitDefEqProofs only [go_sem, seval]
    with_reducible repeat' (first | apply ai | intro _ | ((first | apply s1 | apply s3 | apply s4) <;> intro hb <;> simp -implicitDefEqProofs only [hb, go_sem, seval] <;> try simp only [qz] at hb))
    all_goals (try simp only [maxLen, List.take_length, List.drop_zero] at *)
    all_goals first | rfl | omega | assumption | decide | skip
    all_goals
     refine congrArg (T.sl 5) ?_
     simp only [LH, XM, List.map_append, List.map_cons, List.map_nil]
     rfl
end
section
attribute [local go_sem] rv rm ru mZ lm List.length_append List.length_cons List.length_nil List.map_append List.map_cons List.map_nil AS.opn AS.cls AS.nilb AS.renb Bool.not_false Bool.not_true List.set_set List.set_cons_zero List.set_cons_succ List.set_nil List.mem_singleton forall_eq
end
theorem Hp {c x : UInt8} : ∀ {l : List UInt8}, x ∈ l → x = c ∨ ∃ w ∈ Fh c l, x ∈ w
 | y :: r, h => by
   rw [Fh]
   by_cases e : y = c
   ·rw [if_pos e]
    rcases List.mem_cons.1 h with h | h
    ·exact .inl (h.trans e)
    ·rcases Hp h with q | ⟨w, hw, q⟩
     ·exact .inl q
     ·exact .inr ⟨w, by simp [hw], q⟩
   ·rw [if_neg e]
    cases hs : Fh c r with
    | nil => have := GA c r; rw [hs] at this; simp at this
    | cons a t =>
      rcases List.mem_cons.1 h with h | h
      ·exact .inr ⟨y :: a, by simp, by simp [h]⟩
      ·rcases Hp h with q | ⟨w, hw, q⟩
       ·exact .inl q
       ·rw [hs] at hw
        rcases List.mem_cons.1 hw with e2 | hw
        ·exact .inr ⟨y :: a, by simp, by rw [e2] at q; simp [q]⟩
        ·exact .inr ⟨w, by simp [hw], q⟩
theorem Px {c : UInt8} {B : Nat} : ∀ {l : List UInt8}, (∀ w ∈ Fh c l, w.length ≤ B) → l.length + 1 ≤ (B + 1) * (Fh c l).length
 | [], _ => by simp [Fh]
 | y :: r, h => by
   rw [Fh] at h ⊢
   by_cases e : y = c
   ·rw [if_pos e] at h ⊢
    have := Px (c := c) (l := r) fun w hw => h w (by simp [hw])
    rw [List.length_cons, List.length_cons, Nat.mul_succ]
    omega
   ·rw [if_neg e] at h ⊢
    cases hs : Fh c r with
    | nil => have := GA c r; rw [hs] at this; simp at this
    | cons a t =>
      rw [hs] at h
      have h1 := h (y :: a) (by simp)
      have h3 : (∀ w ∈ Fh c r, w.length ≤ B) ∨ True := .inr trivial
      have key : ∀ (l : List UInt8), l.length + 1 = ((Fh c l).map fun w => w.length + 1).sum := fun l => by
       induction l with
       | nil => rfl
       | cons z q ih =>
         rw [Fh]
         by_cases ez : z = c
         ·rw [if_pos ez, List.map_cons, List.sum_cons, ← ih, List.length_cons, List.length_nil]; omega
         ·rw [if_neg ez]
          cases hq : Fh c q with
          | nil => have := GA c q; rw [hq] at this; simp at this
          | cons a' t' => rw [hq] at ih; simp only [List.map_cons, List.sum_cons, List.length_cons] at ih ⊢; omega
      have h2 := key r
      rw [hs] at h2
      have h4 : ∀ t : List (List UInt8), (∀ w ∈ t, w.length ≤ B) → (t.map fun w => w.length + 1).sum ≤ (B + 1) * t.length := fun t => by
       induction t with
       | nil => intro _; simp
       | cons w t ih =>
         intro hw
         have q1 := ih fun x hx => hw x (by simp [hx])
         have q2 := hw w (by simp)
         rw [List.map_cons, List.sum_cons, List.length_cons, Nat.mul_succ]; omega
      have h5 := h4 t fun w hw => h w (by simp [hw])
      simp only [List.map_cons, List.sum_cons, List.length_cons] at h1 h2 ⊢
      rw [Nat.mul_succ]
      omega
def Ny (l : List UInt8) : Prop := ∀ b ∈ l, 32 ≤ (b.toNat : Int) ∧ (b.toNat : Int) ≤ 126
instance (l : List UInt8) : Decidable (Ny l) := by unfold Ny; infer_instance
theorem HV {s : ByteArray} {b : UInt8} (h : b ∈ bl s) : ∃ j, j < s.size ∧ AC s j = b.toNat := by
 obtain ⟨j, hj, e⟩ := List.getElem_of_mem h
 exact ⟨j, hj, by rw [Bj]; simp [hj, e]⟩
theorem PP {s : ByteArray} {j : Nat} (h : j < s.size) : ∃ b ∈ bl s, AC s j = b.toNat := by
 have h' : j < (bl s).length := h
 exact ⟨(bl s)[j], List.getElem_mem h', by rw [Bj]; simp [h']⟩
theorem HD (s : ByteArray) : Ib s ↔ Ny (bl s) ∧ s.size ≤ 40 :=
 ⟨fun h => ⟨fun b hb => by
   obtain ⟨j, hj, e⟩ := HV hb
   rw [← e]; exact h.1 j hj, h.2⟩, fun h => ⟨fun j hj => by
   obtain ⟨b, hb, e⟩ := PP hj
   rw [e]; exact h.1 b hb, h.2⟩⟩
theorem Nz {a b : List UInt8} : Ny (a ++ b) ↔ Ny a ∧ Ny b :=
 ⟨fun h => ⟨fun x hx => h x (by simp [hx]), fun x hx => h x (by simp [hx])⟩, fun h x hx => (List.mem_append.1 hx).elim (h.1 x) (h.2 x)⟩
theorem JR {s : ByteArray} (h : Sa s) : Ny (bl s) ∧ s.size ≤ 8 := ⟨fun b hb => by
 obtain ⟨j, hj, e⟩ := HV hb
 have := h.1 j hj
 rw [← e]; unfold KO at this; omega, h.2.2⟩
theorem DA {s : ByteArray} (h : Cc s) : Ny (bl s) ∧ s.size ≤ 26 := by
 obtain ⟨h1, h2⟩ := (JP s).1 h
 have h3 : ∀ w ∈ Fh 46 (bl s), Sa (mB w) := fun w hw => h1 _ (List.mem_map_of_mem hw)
 refine ⟨fun b hb => ?_, ?_⟩
 ·rcases Hp (c := 46) hb with e | ⟨w, hw, q⟩
  ·rw [e]; decide
  ·exact (JR (h3 w hw)).1 b q
 ·have h4 := Px (c := 46) (B := 8) (l := bl s) fun w hw => (h3 w hw).2.2
  have h5 : (Fh 46 (bl s)).length ≤ 3 := by
   have : (IW s 46).length = (Fh 46 (bl s)).length := lm ..
   omega
  have h6 : (bl s).length = s.size := rfl
  have h7 : 9 * (Fh 46 (bl s)).length ≤ 9 * 3 := Nat.mul_le_mul_left 9 h5
  omega
def vq : ByteArray := ⟨#[72, 111, 112, 58, 32]⟩
def Co (n : ByteArray) : ByteArray := vq ++ n
theorem fM {n : ByteArray} (h : Cc n) : Ib (Co n) := by
 obtain ⟨h1, h2⟩ := DA h
 rw [HD]
 have e : bl (Co n) = [72, 111, 112, 58, 32] ++ bl n := J1 _ _
 refine ⟨?_, ?_⟩
 ·rw [e, Nz]
  exact ⟨by decide, h1⟩
 ·have : (Co n).size = 5 + n.size := by rw [← CA, e, List.length_append, CA]; rfl
  omega
noncomputable def Cy (a : Ad) : ByteArray := bif BL (AZ a) then ⟨#[60, 62]⟩ else ⟨#[60]⟩ ++ a.user ++ ⟨#[64]⟩ ++ a.domain ++ ⟨#[62]⟩
theorem IV {a : Ad} (h : AZ a) : Cy a = ⟨#[60, 62]⟩ := by unfold Cy; rw [Ak h]; rfl
theorem Rg {a : Ad} (h : ¬ AZ a) : Cy a = ⟨#[60]⟩ ++ a.user ++ ⟨#[64]⟩ ++ a.domain ++ ⟨#[62]⟩ := by unfold Cy; rw [AO h]; rfl
theorem NR {a : Ad} (h : ¬ AZ a) : bl (Cy a) = [60] ++ bl a.user ++ [64] ++ bl a.domain ++ [62] := by
 rw [Rg h]
 simp only [J1]
 rfl
theorem bZ {a : Ad} (h : BJ a) : ¬ AZ a := fun q => by
 have := h.1.2.1
 rw [q.1] at this
 exact absurd this (by decide)
theorem Po {a : Ad} (h : BJ a ∨ AZ a) : Ib (Cy a) := by
 by_cases hn : AZ a
 ·rw [IV hn, HD]
  exact ⟨by decide, by decide⟩
 ·have ha := h.resolve_right hn
  obtain ⟨u1, u2⟩ := JR ha.1
  obtain ⟨d1, d2⟩ := DA ha.2
  rw [HD, NR hn]
  refine ⟨by simp only [Nz]; exact ⟨⟨⟨⟨by decide, u1⟩, by decide⟩, d1⟩, by decide⟩, ?_⟩
  have : (Cy a).size = 3 + a.user.size + a.domain.size := by
   rw [← CA, NR hn]
   simp only [List.length_append, List.length_cons, List.length_nil, CA]; omega
  omega
def ZB (n : ByteArray) (m : Ml) : Ml := ⟨m.frm, m.to, Co n :: m.body⟩
def P2 (h : Hs) (m : Ml) (w : Int) : Hs := ⟨h.conf, LH h.spool (ZB h.conf.name m) w, h.boxes, h.lost⟩
section
variable {h : Hs} {m : Ml} {w : Int}
theorem pd (q : Cc h.conf.name) (hm : Ce m) (hl : m.body.length < 12) : Ce (ZB h.conf.name m) :=
 ⟨hm.1, hm.2.1, hm.2.2.1, hm.2.2.2.1, ⟨fun s hs => (List.mem_cons.1 hs).elim (fun e => by rw [e]; exact fM q) (hm.2.2.2.2.1 s), by show (Co h.conf.name :: m.body).length ≤ 12; simp; omega⟩⟩
end
def aO (p : Hs × Bool) : AV := .tup [.agg ((Al p.1).map .t), .t (.v (.bool p.2))]
theorem M5 {α : Type} [Inhabited α] {p : α → Prop} : ∀ (xs : List α) (k : Nat), 0 ≤ A5 p k xs → p (xs.getD ((A5 p k xs).toNat - k) default)
 | [], k, h => absurd h (by rw [A5]; omega)
 | x :: t, k, h => by
   rw [A5] at h ⊢
   by_cases hx : p x
   ·rw [Ak hx, cond_true, tn, Nat.sub_self]
    exact hx
   ·rw [AO hx, cond_false] at h ⊢
    have h1 := M5 t (k + 1) h
    have h2 : (A5 p (k + 1) t).toNat - k = ((A5 p (k + 1) t).toNat - (k + 1)) + 1 := by
     rcases F6 p t (k + 1) with q | q <;> omega
    rw [h2]
    exact h1
section
variable {h : Hs} {m : Ml} {w : Int}
end
theorem Ck {xs : List Im} : ux xs ↔ (xs.map Im.id).Pairwise (· < ·) := by
 rw [List.pairwise_iff_getElem]
 constructor
 ·intro h i j hi hj hij
  rw [lm] at hi hj
  simp only [List.getElem_map]
  induction j with
  | zero => omega
  | succ j ih =>
    have h1 := h (j + 1) (by omega) hj
    simp only [Nat.add_sub_cancel, List.getD_eq_getElem?_getD, List.getElem?_eq_getElem hj, List.getElem?_eq_getElem (show j < xs.length by omega), Option.getD_some] at h1
    by_cases e : i = j
    ·subst e; exact h1
    ·have := ih (by omega) (by omega)
     omega
 ·intro h j h0 hj
  have := h (j - 1) j (by rw [lm]; omega) (by rw [lm]; exact hj) (by omega)
  simp only [List.getElem_map] at this
  simp only [List.getD_eq_getElem?_getD, List.getElem?_eq_getElem hj, List.getElem?_eq_getElem (show j - 1 < xs.length by omega), Option.getD_some]
  exact this
theorem Tl {α : Type} (xs : List α) (i : Nat) : List.Sublist (xs.take i ++ xs.drop (i + 1)) xs := by
 have h : List.Sublist (xs.take i ++ xs.drop (i + 1)) (xs.take i ++ xs.drop i) := List.Sublist.append (List.Sublist.refl _) (by
  rw [← List.drop_drop]; exact List.drop_sublist 1 _)
 rwa [List.take_append_drop] at h
theorem Qm {α : Type} [Inhabited α] {xs : List α} {i : Nat} (h : i < xs.length) : xs = xs.take i ++ xs.getD i default :: xs.drop (i + 1) := by
 rw [← Ae h, List.take_append_drop]
theorem co {x : Im} {k : Nat} (h : DX x) (hk : k < x.to.length) (h2 : ¬ (IJ x k).to = []) : DX (IJ x k) := by
 have hs := Tl x.to k
 refine ⟨fun r hr => h.1 r (hs.subset hr), (hs.map Rc.addr).nodup h.2.1, h.2.2.1, h.2.2.2.1, ⟨?_, Nat.le_trans hs.length_le h.2.2.2.2.1.2⟩, h.2.2.2.2.2⟩
 exact Nat.pos_of_ne_zero fun e => h2 (List.eq_nil_of_length_eq_zero e)
theorem Ee {s : Sp} {i k : Nat} (h : CO s) (hi : i < s.items.length) (hk : k < (s.items.getD i default).to.length) : CO (DJ s i k) := by
 have hx := h.1 _ (AE hi)
 have hs := Tl s.items i
 have ha := Ck.1 h.2.1
 have hq := Qm hi
 show (∀ x ∈ Wk s.items i k, DX x ∧ x.id ≤ s.last) ∧ ux (Wk s.items i k) ∧ (0 ≤ s.last ∧ s.last ≤ 999) ∧ (Wk s.items i k).length ≤ 10
 unfold Wk
 split
 ·exact ⟨fun x hx => h.1 x (hs.subset hx), Ck.2 (ha.sublist (hs.map Im.id)), h.2.2.1, Nat.le_trans hs.length_le h.2.2.2⟩
 ·rename_i hne
  refine ⟨fun x hm => ?_, Ck.2 ?_, h.2.2.1, ?_⟩
  ·rcases List.mem_append.1 hm with hm | hm
   ·exact h.1 x (List.mem_of_mem_take hm)
   ·rcases List.mem_cons.1 hm with e | hm
    ·rw [e]; exact ⟨co hx.1 hk hne, hx.2⟩
    ·exact h.1 x (List.mem_of_mem_drop hm)
  ·have e : (s.items.take i ++ IJ (s.items.getD i default) k :: s.items.drop (i + 1)).map Im.id = s.items.map Im.id := by
     conv => rhs; rw [hq]
     simp only [List.map_append, List.map_cons]
     rfl
   rw [e]; exact ha
  ·have e : (s.items.take i ++ IJ (s.items.getD i default) k :: s.items.drop (i + 1)).length = s.items.length := by
     conv => rhs; rw [hq]
     simp only [List.length_append, List.length_cons]
   rw [e]; exact h.2.2.2
theorem sd (l : List Rc) (k : Nat) (h : k < l.length) : l.getD k default = l[k] := by simp [h]
theorem Lz {s : Sp} {i k : Nat} {w : Int} (h : CO s) (hi : i < s.items.length) (hk : k < (s.items.getD i default).to.length) (hn : ¬ NB ((s.items.getD i default).to.getD k default) w) (hw : 0 ≤ w) : CO (PN s i k w) := by
 have hx := h.1 _ (AE hi)
 have hr := hx.1.1 _ (AE hk)
 have hn1 : ((s.items.getD i default).to.getD k default).tries + 1 < 4 := by unfold NB at hn; omega
 have hn2 : w + bT (((s.items.getD i default).to.getD k default).tries + 1) ≤ 9999 := by unfold NB at hn; omega
 have hp := (aI (t := ((s.items.getD i default).to.getD k default).tries + 1) (m := 3) (by omega)).1
 have hrc : N2 (V1 ((s.items.getD i default).to.getD k default) w) := ⟨hr.1, ⟨by have := hr.2.1.1; show 0 ≤ _ + 1; omega, by show _ + 1 ≤ 3; omega⟩, ⟨by show 0 ≤ w + _; omega, hn2⟩⟩
 have hadr : ((s.items.getD i default).to.set k (V1 ((s.items.getD i default).to.getD k default) w)).map Rc.addr = (s.items.getD i default).to.map Rc.addr := by
  rw [List.map_set]
  have : (V1 ((s.items.getD i default).to.getD k default) w).addr = ((s.items.getD i default).to.map Rc.addr)[k]'(by rw [lm]; exact hk) := by
   rw [List.getElem_map]
   show ((s.items.getD i default).to.getD k default).addr = _
   rw [sd _ _ hk]
  rw [this, List.set_getElem_self]
 have hx2 : DX (RH (s.items.getD i default) k w) := by
  refine ⟨fun r hm => ?_, ?_, hx.1.2.2.1, hx.1.2.2.2.1, ?_, hx.1.2.2.2.2.2⟩
  ·rcases List.mem_or_eq_of_mem_set hm with hm | rfl
   ·exact hx.1.1 r hm
   ·exact hrc
  ·show (((s.items.getD i default).to.set k _).map Rc.addr).Nodup
   rw [hadr]; exact hx.1.2.1
  ·show 1 ≤ ((s.items.getD i default).to.set k _).length ∧ ((s.items.getD i default).to.set k _).length ≤ 4
   rw [List.length_set]; exact hx.1.2.2.2.2.1
 refine ⟨fun x hm => ?_, Ck.2 ?_, h.2.2.1, by show (s.items.set i _).length ≤ 10; rw [List.length_set]; exact h.2.2.2⟩
 ·rcases List.mem_or_eq_of_mem_set hm with hm | rfl
  ·exact h.1 x hm
  ·exact ⟨hx2, hx.2⟩
 ·have e : (s.items.set i (RH (s.items.getD i default) k w)).map Im.id = s.items.map Im.id := by
    rw [List.map_set]
    have : (RH (s.items.getD i default) k w).id = (s.items.map Im.id)[i]'(by rw [lm]; exact hi) := by
     simp [RH, hi]
    rw [this, List.set_getElem_self]
  show ((s.items.set i _).map Im.id).Pairwise (· < ·)
  rw [e]; exact Ck.1 h.2.1
theorem H8 {s : Sp} {m : Ml} {w : Int} (h : CO s) (hm : Ce m) (hw : 0 ≤ w ∧ w ≤ 9999) (hr : CG s) : CO (LH s m w) := by
 have hx : DX (XM s m w) := by
  refine ⟨fun r hr => ?_, ?_, ?_, hm.2.2.1, ?_, hm.2.2.2.2⟩
  ·obtain ⟨a, ha, rfl⟩ := List.mem_map.1 hr
   exact ⟨hm.1 a ha, by show 0 ≤ (0 : Int) ∧ (0 : Int) ≤ 3; decide, hw⟩
  ·show ((m.to.map (Ju w)).map Rc.addr).Nodup
   have e : (m.to.map (Ju w)).map Rc.addr = m.to := by
    rw [List.map_map]; exact List.map_id'' (fun _ => rfl) _
   rw [e]; exact hm.2.1
  ·have := h.2.2.1.1
   show 0 < s.last + 1; omega
  ·show 1 ≤ (m.to.map (Ju w)).length ∧ (m.to.map (Ju w)).length ≤ 4
   rw [lm]; exact hm.2.2.2.1
 have h1 := hr.1; have h2 := hr.2
 refine ⟨fun x hm => ?_, Ck.2 ?_, ?_, ?_⟩
 ·rcases List.mem_append.1 hm with hm | hm
  ·have := h.1 x hm
   exact ⟨this.1, by have := this.2; show x.id ≤ s.last + 1; omega⟩
  ·rw [List.mem_singleton.1 hm]
   exact ⟨hx, Int.le_refl _⟩
 ·show ((s.items ++ [XM s m w]).map Im.id).Pairwise (· < ·)
  rw [List.map_append, List.pairwise_append]
  refine ⟨Ck.1 h.2.1, by simp, fun a ha b hb => ?_⟩
  obtain ⟨x, hx, rfl⟩ := List.mem_map.1 ha
  rw [List.map_cons, List.map_nil, List.mem_singleton] at hb
  rw [hb]
  have := (h.1 x hx).2
  show x.id < s.last + 1; omega
 ·have := h.2.2.1.1
  show 0 ≤ s.last + 1 ∧ s.last + 1 ≤ 999; omega
 ·show (s.items ++ [XM s m w]).length ≤ 10
  rw [List.length_append]; simp; omega
theorem Fd : ∀ xs : List ByteArray, B4 xs = ⟨#[]⟩ ∨ B4 xs ∈ xs
 | [] => .inl rfl
 | x :: r => by
   rw [B4]
   cases BL (MS x)
   ·rw [cond_false]
    rcases Fd r with h | h
    ·exact .inl h
    ·exact .inr (by simp [h])
   ·exact .inr (by simp)
def uq : ByteArray := ⟨#[110, 111, 116, 32, 100, 101, 108, 105, 118, 101, 114, 101, 100, 58]⟩
noncomputable def Bi (x : Im) (a : Ad) : Ml := ⟨⟨⟨#[]⟩, ⟨#[]⟩⟩, [x.frm], uq :: Cy a :: (if B4 x.body = ⟨#[]⟩ then [] else [B4 x.body])⟩
theorem VU {x : Im} {a : Ad} (h : DX x) (ha : BJ a) (hn : ¬ AZ x.frm) : Ce (Bi x a) := by
 refine ⟨fun b hb => ?_, by show [x.frm].Nodup; simp, .inr ⟨rfl, rfl⟩, by show 1 ≤ 1 ∧ 1 ≤ 4; decide, fun s hs => ?_, ?_⟩
 ·rw [List.mem_singleton.1 hb]; exact h.2.2.2.1.resolve_right hn
 ·rcases List.mem_cons.1 hs with e | hs
  ·rw [e, HD]; exact ⟨by decide, by decide⟩
  ·rcases List.mem_cons.1 hs with e | hs
   ·rw [e]; exact Po (.inl ha)
   ·split at hs
    ·cases hs
    ·rename_i q
     rw [List.mem_singleton.1 hs]
     exact h.2.2.2.2.2.1 _ ((Fd x.body).resolve_left q)
 ·show (uq :: Cy a :: _).length ≤ 12
  split <;> simp
open Classical in
noncomputable def Gx (h : Hs) (x : Im) (a : Ad) (i k : Nat) (w : Int) : Hs :=
 if AZ x.frm ∨ ¬ CG (DJ h.spool i k) then ⟨h.conf, DJ h.spool i k, h.boxes, h.lost ++ [⟨B4 x.body, a⟩]⟩ else ⟨h.conf, LH (DJ h.spool i k) (Bi x a) w, h.boxes, h.lost⟩
noncomputable def Cb (h : Hs) (i k : Nat) (a : Ad) (out w : Int) : Hs :=
 if out = 2 then ⟨h.conf, DJ h.spool i k, h.boxes, h.lost⟩
 else if out = 3 ∧ ¬ NB ((h.spool.items.getD i default).to.getD k default) w then ⟨h.conf, PN h.spool i k w, h.boxes, h.lost⟩
 else Gx h (h.spool.items.getD i default) a i k w
section
variable {h : Hs} {x : Im} {n : Int} {a : Ad} {out w : Int} {i k : Nat}
theorem Y4 (q : AZ x.frm ∨ ¬ CG (DJ h.spool i k)) : Gx h x a i k w = ⟨h.conf, DJ h.spool i k, h.boxes, h.lost ++ [⟨B4 x.body, a⟩]⟩ := if_pos q
theorem Y3 (q : ¬ (AZ x.frm ∨ ¬ CG (DJ h.spool i k))) : Gx h x a i k w = ⟨h.conf, LH (DJ h.spool i k) (Bi x a) w, h.boxes, h.lost⟩ := if_neg q
theorem Fw {x : Im} {a : Ad} (q : ¬ B3 x a < 0) : (x.to.getD (B3 x a).toNat default).addr = a := by
 have h1 := M5 (p := fun r : Rc => r.addr = a) x.to 0 (by unfold B3 at q; omega)
 exact h1
theorem Ey {s : Sp} {n : Int} (q : ¬ Ax s n < 0) : (Ai s n).id = n := by
 have h1 := M5 (p := fun x : Im => x.id = n) s.items 0 (by unfold Ax at q; omega)
 exact h1
end
end Go.V
namespace Go.V
open Go Go.Proofs Go.Shelf Go.RowKit Go.Lib
set_option maxRecDepth 1000000
set_option linter.unusedSimpArgs false
set_option linter.unusedVariables false
end Go.V
namespace Go.V
open Go Go.Proofs
set_option maxRecDepth 100000
set_option linter.unusedSimpArgs false
set_option linter.unusedVariables false
attribute [local go_sem] EN.eq_1 EN.eq_2 If.eq_1 N6.eq_1 N6.eq_2 FO.eq_1 FO.eq_2 Cj.eq_1 Cj.eq_2 Cj.eq_3 Cj.eq_4 Cj.eq_5 Ci.eq_1 Ci.eq_2 Ci.eq_3 Ci.eq_4 Ci.eq_5 DP.eq_1 DP.eq_2 DP.eq_3 GS.eq_1 GS.eq_2 LG.eq_1 LG.eq_2 LG.eq_3 bu.eq_1 bu.eq_2 rF.eq_1 aF.eq_1 aF.eq_2 bQ.eq_1 KG.eq_1 D9.eq_1 D9.eq_2 D9.eq_3 D9.eq_4 D9.eq_5 HL.eq_1 HL.eq_2 BG.eq_1 BG.eq_2 BG.eq_3 Hb.eq_1 FQ.eq_1 Gg.eq_1 Jt.eq_1 Md.eq_1 Md.eq_2 DQ.eq_1 DQ.eq_2 DQ.eq_3 K9.eq_1 K9.eq_2 DZ.eq_1 DZ.eq_2 FP.eq_1 EB.eq_1 EB.eq_2 br.eq_1 br.eq_2 BX.eq_1 BX.eq_2 B9.eq_1 HQ.eq_1 Jr.eq_1 DY.eq_1 DY.eq_2 Ex.eq_1 Ew.eq_1 KZ.eq_1 DB.eq_1 DB.eq_2 DC.eq_1 DC.eq_2 EO.eq_1 EO.eq_2 Cp.eq_1 Cp.eq_2 Gz.eq_1 HK.eq_1 HK.eq_2 Ic.eq_1 Ic.eq_2 LF.eq_1 LF.eq_2 LF.eq_3 LF.eq_4 MX.eq_1 MX.eq_2 HJ.eq_1 HJ.eq_2 HJ.eq_3 HJ.eq_4 bM.eq_1 bM.eq_2 LX.eq_1 FF.eq_1 FF.eq_2 FF.eq_3 LY.eq_1 FR.eq_1 FR.eq_2 FR.eq_3 F0.eq_1 F0.eq_2 F4.eq_1 F4.eq_2 HN.eq_1 HN.eq_2 Vy.eq_1 QL.eq_1 QM.eq_1 MW.eq_1 MW.eq_2 QN.eq_1 D8.eq_1 D8.eq_2 D8.eq_3 D8.eq_4 MY.eq_1 MY.eq_2 DH.eq_1 I1.eq_1 I1.eq_2 I1.eq_3 CV.eq_1 CV.eq_2 Et.eq_1 Et.eq_2 CU.eq_1 CU.eq_2 CU.eq_3 GQ.eq_1 GQ.eq_2 ao.eq_1 AS.takeV.eq_1 AS.takeV.eq_2 AS.takeV.eq_3 AS.takeV.eq_4 AS.takeV.eq_5 AS.takeV.eq_6 AS.takeV.eq_7 AV.oldM.eq_1 AV.oldM.eq_2 AV.oldM.eq_3 AV.oldM.eq_4 AV.oldM.eq_5 AV.oldM.eq_6 AV.oldM.eq_7 AV.oldM.eq_8 AV.oldM.eq_9 AV.oldM.eq_10 AV.oldM.eq_11 AV.oldML.eq_1 AV.oldML.eq_2 subL.eq_1 subL.eq_2 Dl.eq_1 Dl.eq_2 Dl.eq_3 Dl.eq_4 C1.eq_1 BK.eq_1 BK.eq_2 BK.eq_3 BK.eq_4 Bt.eq_1 B8.eq_1 B8.eq_2 B8.eq_3 D7.eq_1 D7.eq_2 D7.eq_3 BE.eq_1 BE.eq_2 BE.eq_3 BE.eq_4 BE.eq_5 BE.eq_6 BE.eq_7 BE.eq_8 BE.eq_9 BE.eq_10 BE.eq_11 BE.eq_12 BE.eq_13 BE.eq_14 BE.eq_15 BE.eq_17 BE.eq_18 BE.eq_19 BE.eq_20 BE.eq_21 BE.eq_22 BE.eq_23 AS.ev.eq_1 AS.ev.eq_2 AS.ev.eq_3 AS.ev.eq_4 AS.evs.eq_1 AS.evs.eq_2 AS.evp.eq_1 AS.evp.eq_2 AS.put.eq_1 AS.put.eq_2 AS.remL.eq_1 AS.remL.eq_2 AV.has.eq_1 AV.has.eq_2 AV.has.eq_3 AV.has.eq_4 AV.has.eq_5 AV.has.eq_6 AV.has.eq_7 AV.has.eq_8 AV.has.eq_9 AV.has.eq_10 AV.has.eq_11 AV.hasL.eq_1 AV.hasL.eq_2 Ob.drop.eq_1 Ob.drop.eq_2 Ob.drop.eq_3 Ob.drop.eq_4 AV.cells.eq_1 AV.cells.eq_2 AV.cells.eq_3 AV.cells.eq_4 AV.cells.eq_5 AS.snapT.eq_1 AS.snapT.eq_2 AS.snapT.eq_3 AS.snapT.eq_4 AS.snapT.eq_5 AS.snapT.eq_6 AS.snapT.eq_7 AS.snap.eq_1 AS.snap.eq_2 A8.eq_1 A8.eq_2 AM.eq_1 AM.eq_2 AM.eq_3 AM.eq_4 AM.eq_5 AM.eq_6 AM.eq_7 AM.eq_8 AM.eq_9 AM.eq_10 AM.eq_11 AR.eq_1 AR.eq_2 H1.eq_1 H1.eq_2 AV.ids.eq_1 AV.ids.eq_2 AV.ids.eq_3 AV.ids.eq_4 AV.ids.eq_5 AV.ids.eq_6 AV.ids.eq_7 AV.ids.eq_8 AV.ids.eq_9 AV.ids.eq_10 AV.ids.eq_11 AV.idsL.eq_1 AV.idsL.eq_2 AV.sub.eq_1 AV.sub.eq_2 AV.sub.eq_3 AV.sub.eq_4 AV.sub.eq_5 AV.sub.eq_6 AV.sub.eq_7 AV.sub.eq_8 AV.sub.eq_9 AV.sub.eq_10 AV.sub.eq_11 AV.subL.eq_1 AV.subL.eq_2 AS.frzL.eq_1 AS.frzL.eq_2 AS.absT.eq_1 AS.absT.eq_2 AS.absT.eq_4 AS.absL.eq_1 AS.absL.eq_2 AS.absOk.eq_1 AS.absOkL.eq_1 AS.absOkL.eq_2 B0.eq_1 BU.eq_1 BU.eq_2 AS.appBase.eq_1 AS.appBase.eq_2 AS.appSrc.eq_1 CS.eq_1 CS.eq_2 CS.eq_3 CL.eq_1 CL.eq_2 bN.eq_1 bN.eq_2 DR.eq_1 Kd.agg.eq_1 Kd.agg.eq_2 IP.eq_1 IP.eq_2 IP.eq_3 IP.eq_4 IP.eq_5 IP.eq_6 IP.eq_7 IP.eq_8 zt.eq_1 ut.eq_1 uu.eq_1 WS.eq_1 WS.eq_2 aZ.eq_1 Ud.eq_1 Ke.eq_1 Ke.eq_2 Ke.eq_3 Ue.eq_1 Uc.eq_1 Pi.eq_1 Pi.eq_2 HU.eq_1 DN.eq_1 DN.eq_2 DN.eq_3 DN.eq_4 DN.eq_5 DN.eq_6 DN.eq_7 DN.eq_8 DU.eq_1 DU.eq_2 Cw.eq_1 Cw.eq_2 Cw.eq_3 Cw.eq_4 Cw.eq_5 Bq.eq_1 C0.eq_1 C0.eq_2 C0.eq_3 C0.eq_4 C0.eq_5 CK.eq_1 Q6.eq_1 Q6.eq_2 Ng.eq_1 Ng.eq_2 Ng.eq_3 cellAV.eq_1 cellAV.eq_2 DT.eq_1 DT.eq_2 Bz.eq_1 Bz.eq_2 Bz.eq_3 Bz.eq_4 Bz.eq_5 Bz.eq_6 Bz.eq_7 Bz.eq_8 Bz.eq_9 Bz.eq_10 Bz.eq_11 Bz.eq_12 Bz.eq_13 Bz.eq_14 Bz.eq_15 Bz.eq_16 Bz.eq_17 Bz.eq_18 Bz.eq_19 Bz.eq_20 Bz.eq_21 Bz.eq_22 Bz.eq_23 Bz.eq_24 Bz.eq_25 Bz.eq_26 Bm.eq_1 Bm.eq_2 Bm.eq_3 Bm.eq_4 Bm.eq_5 AV.refs.eq_1 AV.refs.eq_2 AV.refs.eq_3 AV.refs.eq_4 AV.refs.eq_5 AV.refs.eq_6 AV.refs.eq_7 AV.refs.eq_8 AV.refs.eq_9 AV.refs.eq_10 AV.refs.eq_11 AV.refsL.eq_1 AV.refsL.eq_2 Km.eq_1 Km.eq_2 Em.eq_1 Em.eq_2 Em.eq_3 Em.eq_4 Em.eq_5 Em.eq_6 ME.eq_1 ME.eq_2 Va.eq_1 Va.eq_2 GZ.eq_1 GZ.eq_2 AV.hasM.eq_1 AV.hasM.eq_2 AV.hasM.eq_3 AV.hasM.eq_4 AV.hasM.eq_5 AV.hasM.eq_6 AV.hasM.eq_7 AV.hasM.eq_8 AV.hasM.eq_9 AV.hasM.eq_10 AV.hasM.eq_11 AV.hasML.eq_1 AV.hasML.eq_2 Ob.dropM.eq_1 Ob.dropM.eq_2 Ob.dropM.eq_3 Ob.dropM.eq_4 jf.eq_1 jf.eq_2 AS.purges.eq_1 AS.purges.eq_2 KC.eq_1 KC.eq_2 WD.eq_1 WD.eq_2 tX.eq_1 tX.eq_2 FH.eq_1 FH.eq_2 FG.eq_1 FG.eq_2 bR.eq_1 bR.eq_2 bS.eq_1 bS.eq_2 AS.mvs.eq_1 AS.mvs.eq_2 AS.mvA.eq_1 AS.mvA.eq_2 AS.mvB.eq_1 La.eq_1 La.eq_2 gu.eq_1 gu.eq_2 XS.eq_1 GR.eq_1 GR.eq_2 iB.eq_1 HO.eq_1 HO.eq_2 Js.eq_1 HP.eq_1 HP.eq_2 Ij.eq_1 C6.eq_1 S1.eq_1 GT.eq_1 GT.eq_2 GT.eq_3 LZ.eq_1 LZ.eq_2 Id.eq_1 Id.eq_2 OB.eq_1 nn.eq_1 nn.eq_2 nn.eq_3 uo.eq_1 EM.eq_1 EM.eq_2 WV.eq_1 Ga.eq_1 Ga.eq_2 Ga.eq_3 fe.eq_1 fe.eq_2 fe.eq_3 QT.eq_1 QS.eq_1 QR.eq_1 HM.eq_1 MZ.eq_1 MZ.eq_2 QQ.eq_1 QP.eq_1 EA.eq_1 H6.eq_1 LW.eq_1 se.eq_1 se.eq_2 Wl.eq_1 Wl.eq_2 Wl.eq_3 Wl.eq_4 E7.eq_1 E7.eq_2 E7.eq_3 E7.eq_4 PL.eq_1 PL.eq_2 s5.eq_1 s5.eq_2 G3.eq_1 G3.eq_2 Wm.eq_1 Wm.eq_2 Wm.eq_3 Wm.eq_4 Wm.eq_5 AS.lkO.eq_1 AS.lkO.eq_2 AS.lkOf.eq_1 Hl.eq_1 Hl.eq_2 Hl.eq_3 Hl.eq_4 Hl.eq_5 Hl.eq_6 Be.eq_1 Be.eq_2 Be.eq_3 Be.eq_4 Be.eq_5 Be.eq_6 Be.eq_7 Be.eq_8 Be.eq_9 Be.eq_10 Be.eq_11 XG.eq_1 XG.eq_2 kj.eq_1 kj.eq_2 KL.eq_1 Cu.eq_1 Cu.eq_2 E8.eq_1 E8.eq_2 E8.eq_3 E8.eq_4 PM.eq_1 PM.eq_2 s6.eq_1 s6.eq_2 Ly.eq_1 Ly.eq_2 kk.eq_1 jw jx Pu Ut Pr iN iM iL MF Ps Us Kq Pp aT Uo aS Un aU Uq i6 i5 jy aW Ur sb sc jH jE jG jF jv kv KI Ie bt Sg Fs Rp gv gd s0 Am B1 FH Y0 Yz Ol drop_nil Yf Ye Tt Ts Ok Om Tr FG UE ae aN re_eq up_eq Y2 jl Ob.drop ue vn DE AS.frz splice cond_true cond_false List.map_cons List.map_nil List.drop_zero List.drop_succ_cons List.drop_nil List.take_zero List.take_succ_cons List.take_nil List.getElem?_cons_zero List.getElem?_cons_succ List.getElem?_nil List.length_cons List.length_nil Option.map_some Option.map_none Option.bind_some Option.bind_none List.cons_append List.nil_append List.append_nil Option.getD_some Option.getD_none List.all_cons List.all_nil Bool.and_true Bool.true_and Bool.or_false Bool.false_or Bool.or_true Bool.true_or List.flatten_cons List.flatten_nil List.replicate_succ List.replicate_zero and_true true_and XY XX OH S6 S7 Ld OO TO TP Lg OM ON bI bJ Ll Td Tc aj ah U9 U8 Uu aA Ub Ph Ug Uf aB Pj L9 MB ne_eq not_false_eq_true not_true_eq_false List.nodup_nil List.not_mem_nil false_implies implies_true eq_self true_or or_true Option.some.injEq Uv U6 U2 U4 U5 Uw U7 Ux U3 U1 U0 Uz Uy OL Tz Ik Nat.le_refl L5 lm bF bE Oj Pn Ip KX Kk Iw L0 PO rf rd rg ri rj rh MC Kj Gy pg List.any_cons List.any_nil XN S5 XL ER L6 Mo Op.operands Call.operands I7 hO vC S4 Re Rk List.append_eq jg jh jb jc jd iQ iR iS UA UB UC HX AS.mv fits KM H5 Fe M8 TL XT XU PG PD PE iA N7 TS jK T4 S2 Lb decide_true decide_false Array.toList_append Tf Tg Th Ti Xb Lh TR Jz AS.mvJ PT aQ aR ZZ Option.isSome_some Option.isSome_none Zi OF OG gz hP hY XK XH XJ XI XP fV.eq_1 Vz.eq_1 Vz.eq_2 LM.eq_1 LM.eq_2 LM.eq_3 LM.eq_4 tN tO S3
attribute [local go_sem] wT wU wV wW t8 t9 uA uC uG uH uI uJ uK uL uM uO uP uQ uR uS uU uV uW uX kK kL kM kN Br kO kP kQ kR kT kU kV DM bR bS fits AS.mvs Lq OA Jj Tp OX Nt Wv Lo N9 Jh Tn OW Ns Wt Nq UK ZO ZM TN XR TK Nn Np Rx Nm No Rw TM XQ TJ IT.eq_1 ZN UI kW.eq_1 K0.eq_1 M0.eq_1 KI HA NA Ql Xy jt ju jZ ja HW Si R3 X1 Tm R4 ga ZQ Wn Ry O0 Sv SN SO ZV W6 V9.eq_1 Uk O1 Sw SP YA SQ ZW W8 R0 Oy Sr SL X7 SM gg ZT W4 V8.eq_1 Uj O2 SR SS XA WA.eq_1 Ul O5 Sy SX YC SY gi ZX XD R1 Ot Sk R8 X3 R9 gb Wq V3.eq_1 Uh Ow So SH X5 SI gf ZS W0 V6.eq_1 Oq Sj R5 X2 R6 ZR Wp V2.eq_1 Oz Su X9 To ZU Rz Ox Sq SJ X6 SK W3 V7.eq_1 Ui O3 ST SU XB WB.eq_1 Ou SB SC Wr V4.eq_1 Ov Sm SE X4 SF gc Wx V5.eq_1 O4 SV SW XC GN.eq_1
section
attribute [local go_sem] lm List.length_append List.length_nil List.map_nil List.nil_append Nat.zero_add
end
end Go.V
namespace Go.V
open Go Go.Proofs
set_option maxRecDepth 100000
set_option linter.unusedSimpArgs false
set_option linter.unusedVariables false
section
attribute [local go_sem] Mb Ma lm List.nil_append List.map_nil List.map_cons List.length_cons List.length_nil
end
section
attribute [local go_sem] Mb Ma lm List.nil_append List.map_nil List.map_cons List.length_cons List.length_nil
end
def Xj : Ct := Aq (lc H3.ag l0) (fun p => Gf p.1) (fun p => qG p.1)
section
attribute [local go_sem] lm List.map_nil List.length_nil List.nil_append Nat.zero_add
theorem dK {G : Gt} (hG : Ah G) : Gd G 117 (AA 0 Xj) := by
 refine gr (fn := Tryz.f117) (n := 1) rfl rfl hG ?_ (hs := fun _ p => RW _)
 rintro ⟨x, ⟨⟩⟩ hpre
 simp -implicitDefEqProofs only [Tryz.f117, go_sem, seval] at hpre ⊢
 obtain ⟨_, ⟨h1, _⟩, ⟨h2, _⟩⟩ := hpre
 with_reducible repeat' (first | apply ai | intro _ | ((first | apply s1 | apply s3 | apply s4) <;> intro hb <;> simp -implicitDefEqProofs only [hb, go_sem, seval] <;> try simp only [qz] at hb))
 all_goals (try simp only [maxLen, lm, List.length_nil] at *)
 all_goals first | rfl | omega | (simp_all; done) | skip
end
section
attribute [local go_sem] mZ lm
end
section
attribute [local go_sem] mZ lm List.length_append List.length_cons List.length_nil List.map_append List.map_nil Nat.zero_add List.nil_append AS.opn AS.cls AS.nilb AS.renb AS.up Bool.not_false Bool.not_true List.set_set List.set_cons_zero List.set_cons_succ List.set_nil List.mem_singleton forall_eq
end
def ui : Ct := Aq (lc Ep.ag l0) (fun p => GG p.1) (fun p => qH p.1)
section
attribute [local go_sem] Xj Xk lm List.length_append List.length_cons List.length_nil List.map_append List.map_nil Nat.zero_add List.nil_append AS.opn AS.cls AS.nilb AS.renb AS.up Bool.not_false Bool.not_true List.set_set List.set_cons_zero List.set_cons_succ List.set_nil List.mem_singleton forall_eq
set_option maxHeartbeats 6400000 in
theorem ov {G : Gt} (hG : Ah G) (hh : G.e 117 = AA 0 Xj ∧ G.e 118 = AA 0 Xk) : Gd G 67 (AA 0 ui) := by
 refine Nh (dp := fun n => !(Nat.beq n 100002 || Nat.beq n 100004 || Nat.beq n 100006 || Nat.beq n 100008)) (fn := Tryz.f67) (n := 1) rfl rfl hG ?_ (hs := fun _ p => RX _)
 rintro ⟨h, ⟨⟩⟩ hpre
 simp -implicitDefEqProofs only [Tryz.f67, go_sem, hh, seval] at hpre ⊢
 obtain ⟨zc, zs, ⟨lb, zb⟩, ⟨ll, zl⟩⟩ := hpre
 with_reducible repeat' (first | apply ai | intro _ | ((first | apply s1 | apply s3 | apply s4) <;> intro hb <;> simp -implicitDefEqProofs only [hb, go_sem, hh, seval] <;> try simp only [qz] at hb))
 all_goals (try simp only [maxLen] at *)
 all_goals first | rfl | omega | assumption | decide | skip
 refine Ag (Le.nilb 1003 5 1905 true 3 rfl rfl rfl) (Ab ?_)
 simp -implicitDefEqProofs only [go_sem, hh, seval]
 refine AF [] (ι := {i : Nat // i ≤ h.boxes.length}) (fun p => ⟨[(1, .pb 1001 0), (2, .pb 1002 0), (3, .pb 1003 0), (4, .t (.v (.int .i64 p.1)))], [(1001, some (.box ((Al h).map .t))), (1002, some (.box [.t (.v (.string ⟨#[]⟩)), .nil, .nil, .t (.v (.int .i64 0)), .nil, .nil, .nil])), (1003, some (.box [.t (.v (.string h.conf.name)), .h 1009, .h 2009, .t (.v (.int .i64 h.spool.last)), .h 1012, .h 1905, .h 1016])), (1009, some (.arr true 1 (h.conf.own.map AH))), (2009, some (.arr true 2 (h.conf.ways.map Bw))), (1012, some (.arr true 5 (h.spool.items.map Az))), (1016, some (.arr true 3 (h.lost.map A2))), (1905, some (.arr true 3 ((h.boxes.take p.1).map CZ)))]⟩) (fun p => h.boxes.length - p.1) ⟨0, by simp⟩ rfl ?_ ?_
 ·simp -implicitDefEqProofs only [go_sem, hh, seval]
  try simp
 ·rintro ⟨i, hi⟩
  have hlen : (h.boxes.take i).length = i := by simp; omega
  by_cases hlt : (i : Int) < h.boxes.length
  ·skip
   have hbx := zb _ (AE (xs := h.boxes) (j := i) (by omega))
   obtain ⟨_, ⟨lm, zm⟩⟩ := hbx
   simp -implicitDefEqProofs only [hlt, decide_true, tn, go_sem, hh, seval]
   with_reducible repeat' (first | apply ai | intro _ | ((first | apply s1 | apply s3 | apply s4) <;> intro hb <;> simp -implicitDefEqProofs only [hb, go_sem, hh, seval] <;> try simp only [qz] at hb))
   all_goals (try simp only [maxLen] at *)
   all_goals first | rfl | omega | assumption | decide | skip
   refine Ag (Le.nilb 1005 2 1906 true 3 rfl rfl rfl) (Ab ?_)
   simp -implicitDefEqProofs only [go_sem, hh, seval]
   with_reducible repeat' (first | apply ai | intro _ | ((first | apply s1 | apply s3 | apply s4) <;> intro hb <;> simp -implicitDefEqProofs only [hb, go_sem, hh, seval] <;> try simp only [qz] at hb))
   all_goals first | rfl | omega | decide | skip
   refine AF [] (ι := {k : Nat // k ≤ (h.boxes.getD i default).mails.length}) (fun p => ⟨[(1, .pb 1001 0), (2, .pb 1002 0), (3, .pb 1003 0), (4, .t (.v (.int .i64 i))), (5, .pb 1005 0), (6, .t (.v (.int .i64 p.1)))], [(1001, some (.box ((Al h).map .t))), (1002, some (.box [.t (.v (.string ⟨#[]⟩)), .nil, .nil, .t (.v (.int .i64 0)), .nil, .nil, .nil])), (1003, some (.box [.t (.v (.string h.conf.name)), .h 1009, .h 2009, .t (.v (.int .i64 h.spool.last)), .h 1012, .h 1905, .h 1016])), (1009, some (.arr true 1 (h.conf.own.map AH))), (2009, some (.arr true 2 (h.conf.ways.map Bw))), (1012, some (.arr true 5 (h.spool.items.map Az))), (1016, some (.arr true 3 (h.lost.map A2))), (1905, some (.arr true 3 ((h.boxes.take i).map CZ))), (1005, some (.box [.t (.v (.string (h.boxes.getD i default).addr.user)), .t (.v (.string (h.boxes.getD i default).addr.domain)), .h 1906])), (1906, some (.arr true 3 (((h.boxes.getD i default).mails.take p.1).map Dq)))]⟩) (fun p => (h.boxes.getD i default).mails.length - p.1) ⟨0, by simp⟩ rfl ?_ ?_
   ·simp -implicitDefEqProofs only [go_sem, hh, seval]
    try simp
   ·rintro ⟨k, hk⟩
    have hlen2 : ((h.boxes.getD i default).mails.take k).length = k := by rw [List.length_take]; omega
    by_cases hlt2 : (k : Int) < (h.boxes.getD i default).mails.length
    ·obtain ⟨_, ⟨lg, _⟩⟩ := zm _ (AE (xs := (h.boxes.getD i default).mails) (j := k) (by omega))
     simp -implicitDefEqProofs only [hlt2, decide_true, tn, go_sem, hh, seval]
     with_reducible repeat' (first | apply ai | intro _ | ((first | apply s1 | apply s3 | apply s4) <;> intro hb <;> simp -implicitDefEqProofs only [hb, go_sem, hh, seval] <;> try simp only [qz] at hb))
     all_goals (try simp only [maxLen, tn] at *)
     all_goals first | rfl | omega | assumption | decide | skip
     refine Ag (Le.renb 1005 2 1069 1906 rfl rfl rfl rfl) (Ab ?_)
     simp -implicitDefEqProofs only [go_sem, hh, seval]
     with_reducible repeat' (first | apply ai | intro _ | ((first | apply s1 | apply s3 | apply s4) <;> intro hb <;> simp -implicitDefEqProofs only [hb, go_sem, hh, seval] <;> try simp only [qz] at hb))
     all_goals first | rfl | omega | decide | skip
     refine ⟨⟨k + 1, by omega⟩, by dsimp only; omega, ?_⟩
     simp -implicitDefEqProofs only [go_sem, hh, seval]
     simp only [B2 Dq (show k < (h.boxes.getD i default).mails.length by omega)]
     with_reducible repeat' (first | apply ai | intro _ | ((first | apply s1 | apply s3 | apply s4) <;> intro hb <;> simp -implicitDefEqProofs only [hb, go_sem, hh, seval] <;> try simp only [qz] at hb))
     all_goals first | rfl | (simp; done) | skip
    ·have htk : (h.boxes.getD i default).mails.take k = (h.boxes.getD i default).mails := List.take_of_length_le (by omega)
     simp -implicitDefEqProofs only [hlt2, htk, decide_false, tn, go_sem, hh, seval]
     with_reducible repeat' (first | apply ai | intro _ | ((first | apply s1 | apply s3 | apply s4) <;> intro hb <;> simp -implicitDefEqProofs only [hb, go_sem, hh, seval] <;> try simp only [qz] at hb))
     all_goals (try simp only [maxLen] at *)
     all_goals first | rfl | omega | assumption | decide | skip
     refine Ag (Le.renb 1003 5 1075 1905 rfl rfl rfl rfl) (Ab ?_)
     simp -implicitDefEqProofs only [go_sem, hh, seval]
     with_reducible repeat' (first | apply ai | intro _ | ((first | apply s1 | apply s3 | apply s4) <;> intro hb <;> simp -implicitDefEqProofs only [hb, go_sem, hh, seval] <;> try simp only [qz] at hb))
     all_goals first | rfl | omega | decide | skip
     refine ⟨⟨i + 1, by omega⟩, by dsimp only; omega, ?_⟩
     simp -implicitDefEqProofs only [go_sem, hh, seval]
     simp only [B2 CZ (show i < h.boxes.length by omega)]
     with_reducible repeat' (first | apply ai | intro _ | ((first | apply s1 | apply s3 | apply s4) <;> intro hb <;> simp -implicitDefEqProofs only [hb, go_sem, hh, seval] <;> try simp only [qz] at hb))
     all_goals first | rfl | (simp; done) | skip
  ·have htk : h.boxes.take i = h.boxes := List.take_of_length_le (by omega)
   simp -implicitDefEqProofs only [hlt, htk, decide_false, go_sem, hh, seval]
   with_reducible repeat' (first | apply ai | intro _ | ((first | apply s1 | apply s3 | apply s4) <;> intro hb <;> simp -implicitDefEqProofs only [hb, go_sem, hh, seval] <;> try simp only [qz] at hb))
   all_goals (try simp only [maxLen] at *)
   all_goals first | rfl | omega | assumption | decide | rfl | skip
end
def lE : Ct := Aq (lc Ap l0) (fun p => p.1.size ≤ 2000000) (fun p => .t (.v (.string (Co p.1))))
theorem dQ {G : Gt} (hG : Ah G) : Gd G 123 (AA 0 lE) := by
 refine gr (fn := Tryz.f123) (n := 1) rfl rfl hG ?_
 rintro ⟨n, ⟨⟩⟩ hpre
 simp -implicitDefEqProofs only [Tryz.f123, go_sem, seval] at hpre ⊢
 with_reducible repeat' (first | apply ai | intro _ | ((first | apply s1 | apply s3 | apply s4) <;> intro hb <;> simp -implicitDefEqProofs only [hb, go_sem, seval] <;> try simp only [qz] at hb))
 all_goals (try simp only [maxLen] at *)
 all_goals first | rfl | omega | (show 5 + n.size ≤ _; omega) | skip
theorem Mr {a : ByteArray} {xs : List ByteArray} : An.decL ([.v (.string a)] :: xs.map AH) = some (a :: xs) := An.decL_map (a :: xs)
theorem ZE (n : ByteArray) : (Co n).size = 5 + n.size := by
 have e : bl (Co n) = [72, 111, 112, 58, 32] ++ bl n := J1 _ _
 rw [← CA, e, List.length_append, CA]; rfl
section
attribute [local go_sem] P8 cQ AU AT lm Bool.not_false Bool.not_true
end
open Classical in
noncomputable def LD (h : Hs) (m : Ml) (w : Int) : Hs × Bool := if m.body.length < 12 ∧ CG h.spool then (P2 h m w, true) else (h, false)
theorem Jm {h : Hs} {m : Ml} {w : Int} (q : m.body.length < 12 ∧ CG h.spool) : LD h m w = (P2 h m w, true) := if_pos q
theorem Jl {h : Hs} {m : Ml} {w : Int} (q : ¬ (m.body.length < 12 ∧ CG h.spool)) : LD h m w = (h, false) := if_neg q
def rI : Ct := Aq (lc Ep.ag (lc Wc.ag (lc BI l0))) (fun p => GG p.1 ∧ LE p.2.1 ∧ CO p.1.spool ∧ p.1.conf.name.size ≤ 1000000) (fun p => aO (LD p.1 p.2.1 p.2.2.1))
section
attribute [local go_sem] J4 Mk lE Qe JC I4 List.take_length List.drop_zero List.length_take List.length_drop lm List.length_append List.length_cons List.length_nil List.map_append List.map_nil List.map_cons List.nil_append Nat.zero_add List.mem_singleton forall_eq Bool.not_true Bool.not_false Mr List.cons_append aO AS.opn AS.cls AS.nilb AS.renb AS.up List.set_set List.set_cons_zero List.set_cons_succ List.set_nil
set_option maxHeartbeats 3200000 in
theorem oz {G : Gt} (hG : Ah G) (hh : G.e 121 = AA 0 J4 ∧ G.e 122 = AA 0 Mk ∧ G.e 123 = AA 0 lE ∧ G.e 124 = AA 1 Qe) : Gd G 70 (AA 1 rI) := by
 refine Nh (dp := fun n => Nat.ble 100000 n) (fn := Tryz.f70) (n := 3) rfl rfl hG ?_
 rintro ⟨h, m, w, ⟨⟩⟩ hpre
 obtain ⟨hok, hml, hsp, hnm2⟩ := hpre
 dsimp only at hok hml hsp hnm2 ⊢
 have hml2 := hml
 obtain ⟨⟨_, _⟩, ⟨hl1, zt⟩, ⟨hl2, zb⟩⟩ := hml2
 have T5 : h.conf.name.size ≤ 2000000 := by have : h.conf.name.size ≤ 1048576 := hok.1.1; omega
 by_cases q : m.body.length < 12 ∧ CG h.spool
 ·rw [Jm q]
  obtain ⟨q1, q2⟩ := q
  have b2 := Ak q2
  have q3 : ¬ (m.body.length : Int) ≥ 12 := by omega
  have hos := hok.2.1
  have hml3 : LE ⟨m.frm, m.to, Co h.conf.name :: m.body⟩ := by
   refine ⟨hml.1, hml.2.1, ⟨by show ((Co h.conf.name :: m.body).length : Int) ≤ _; rw [List.length_cons]; omega, fun s hs => ?_⟩⟩
   rcases List.mem_cons.1 hs with e | hs
   ·rw [e]
    have h5 := ZE h.conf.name
    have h6 : h.conf.name.size ≤ 1000000 := hnm2
    show (Co h.conf.name).size ≤ 1048576
    omega
   ·exact zb s hs
  simp -implicitDefEqProofs only [Tryz.f70, b2, q3, decide_false, go_sem, hh, seval]
  with_reducible repeat' (first | apply ai | intro _ | ((first | apply s1 | apply s3 | apply s4) <;> intro hb <;> simp -implicitDefEqProofs only [hb, go_sem, hh, seval] <;> try simp only [qz] at hb))
  all_goals (try simp only [maxLen] at *)
  all_goals first | with_reducible assumption | rfl | omega | contradiction | skip
 ·rw [Jl q]
  by_cases q1 : m.body.length < 12
  ·have b2 := AO (fun z => q ⟨q1, z⟩)
   have q3 : ¬ (m.body.length : Int) ≥ 12 := by omega
   simp -implicitDefEqProofs only [Tryz.f70, b2, q3, decide_false, go_sem, hh, seval]
   with_reducible repeat' (first | apply ai | intro _ | ((first | apply s1 | apply s3 | apply s4) <;> intro hb <;> simp -implicitDefEqProofs only [hb, go_sem, hh, seval] <;> try simp only [qz] at hb))
   all_goals (try simp only [maxLen] at *)
   all_goals first | rfl | omega | assumption | decide | contradiction | skip
  ·have q3 : (m.body.length : Int) ≥ 12 := by omega
   simp -implicitDefEqProofs only [Tryz.f70, q3, decide_true, go_sem, hh, seval]
   with_reducible repeat' (first | apply ai | intro _ | ((first | apply s1 | apply s3 | apply s4) <;> intro hb <;> simp -implicitDefEqProofs only [hb, go_sem, hh, seval] <;> try simp only [qz] at hb))
   all_goals (try simp only [maxLen] at *)
   all_goals first | rfl | omega | assumption | decide | contradiction | skip
end
section
attribute [local go_sem] mb ui uj J5 uh rI JC I4 List.take_length List.drop_zero List.length_take List.length_drop lm List.length_append List.length_cons List.length_nil List.map_append List.map_nil List.map_cons List.nil_append Nat.zero_add List.mem_singleton forall_eq Bool.not_true Bool.not_false aO AU AT AS.opn AS.cls AS.nilb AS.renb AS.up List.set_set List.set_cons_zero List.set_cons_succ List.set_nil
end
section
attribute [local go_sem] rp rm uf BN BM Bool.not_true Bool.not_false Br DM JH JJ JI JK AU AT ZB Mr AS.opn AS.cls AS.nilb AS.renb AS.up List.set_set List.set_cons_zero List.set_cons_succ List.set_nil List.mem_singleton forall_eq lm List.map_nil
end
section
open Go.Lib
theorem Mg {s : ByteArray} (h : Sa s) : ¬ (64 : UInt8) ∈ bl s := fun q => by
 obtain ⟨j, hj, e⟩ := HV q
 have := h.1 j hj
 rw [e] at this
 exact absurd this (by unfold KO; decide)
theorem QY {s : ByteArray} (h : Cc s) : ¬ (64 : UInt8) ∈ bl s := fun q => by
 obtain ⟨h1, _⟩ := (JP s).1 h
 rcases Hp (c := 46) q with e | ⟨w, hw, q⟩
 ·exact absurd e (by decide)
 ·exact Mg (h1 _ (List.mem_map_of_mem hw)) q
theorem IY {c : UInt8} : ∀ {l : List UInt8} (m : Nat), ¬ c ∈ l → Ar c m l = [l]
 | _, 0, _ => by simp [Ar]
 | [], m + 1, _ => by simp [Ar]
 | x :: r, m + 1, h => by
   simp only [List.mem_cons, not_or] at h
   rw [Ar, if_neg (fun e => h.1 e.symm), IY (m + 1) h.2]
theorem GC {c : UInt8} : ∀ {u d : List UInt8} (m : Nat), ¬ c ∈ u → Ar c (m + 1) (u ++ c :: d) = u :: Ar c m d
 | [], d, m, _ => by simp [Ar]
 | x :: r, d, m, h => by
   simp only [List.mem_cons, not_or] at h
   rw [List.cons_append, Ar, if_neg (fun e => h.1 e.symm), GC m h.2]
theorem Mq {u d : List UInt8} (hu : ¬ (64 : UInt8) ∈ u) (hd : ¬ (64 : UInt8) ∈ d) : Cz (mB (u ++ 64 :: d)) 64 2 = [mB u, mB d] := by
 unfold Cz
 rw [Xc, GC 1 hu, IY 1 hd]; rfl
theorem cX {s : ByteArray} (h : (Cz s 64 2).length = 2) : s = mB (bl ((Cz s 64 2).getD 0 default) ++ 64 :: bl ((Cz s 64 2).getD 1 default)) := by
 by_cases h1 : (64 : UInt8) ∈ bl s
 ·obtain ⟨u, r, e, hu⟩ := List.eq_append_cons_of_mem h1
  by_cases h2 : (64 : UInt8) ∈ r
  ·obtain ⟨v, t, e2, hv⟩ := List.eq_append_cons_of_mem h2
   unfold Cz at h
   rw [e, GC 1 hu, e2, GC 0 hv] at h
   simp [Ar] at h
  ·have : Cz s 64 2 = [mB u, mB r] := by rw [← UN s, e]; exact Mq hu h2
   rw [this]
   refine E0 ?_
   rw [e]; rfl
 ·unfold Cz at h
  rw [IY 2 h1] at h
  cases h
theorem Kl {a : Ad} (h : BJ a) : bl (Cy a) = 60 :: ((bl a.user ++ 64 :: bl a.domain) ++ [62]) := by
 rw [NR (bZ h)]; simp
def GJ (s : ByteArray) : Prop := ∃ a, (BJ a ∨ AZ a) ∧ Cy a = s
open Classical in
noncomputable def BD (s : ByteArray) : Ad := if h : GJ s then h.choose else ⟨⟨#[]⟩, ⟨#[]⟩⟩
theorem RA (s : ByteArray) {l : List UInt8} (h : bl s = 60 :: (l ++ [62])) : s.extract 1 (s.size - 1) = mB l := by
 refine E0 ?_
 have e : s.size = l.length + 2 := by rw [← CA, h]; simp
 rw [C4, h, e, Xc]
 try simp
theorem aK {a b : Ad} (ha : BJ a ∨ AZ a) (hb : BJ b ∨ AZ b) (h : Cy a = Cy b) : a = b := by
 have key : ∀ {x y : Ad}, BJ x → AZ y → Cy x = Cy y → False := fun {x y} hx hy e => by
  have := congrArg bl e
  rw [Kl hx, IV hy] at this
  have := congrArg List.length this
  have e2 : (bl (⟨#[60, 62]⟩ : ByteArray)).length = 2 := rfl
  rw [e2] at this
  simp at this
  omega
 rcases ha with ha | ha
 ·rcases hb with hb | hb
  ·have e1 := RA (Cy a) (Kl ha)
   have e2 := RA (Cy b) (Kl hb)
   rw [h, e2] at e1
   have e3 := Mq (Mg ha.1) (QY ha.2)
   rw [← e1, Mq (Mg hb.1) (QY hb.2)] at e3
   simp only [List.cons.injEq, and_true, UN] at e3
   obtain ⟨u, d⟩ := a
   obtain ⟨v, w⟩ := b
   rw [show v = u from e3.1, show w = d from e3.2]
  ·exact (key ha hb h).elim
 ·rcases hb with hb | hb
  ·exact (key hb ha h.symm).elim
  ·obtain ⟨u, d⟩ := a
   obtain ⟨v, w⟩ := b
   rw [show u = _ from ha.1, show d = _ from ha.2, show v = _ from hb.1, show w = _ from hb.2]
theorem T1 {s : ByteArray} {a : Ad} (ha : BJ a ∨ AZ a) (h : Cy a = s) : GJ s ∧ BD s = a := by
 have hr : GJ s := ⟨a, ha, h⟩
 refine ⟨hr, ?_⟩
 unfold BD
 rw [dif_pos hr]
 exact aK hr.choose_spec.1 ha (hr.choose_spec.2.trans h.symm)
theorem M4 {s : ByteArray} (h : ¬ GJ s) : BD s = ⟨⟨#[]⟩, ⟨#[]⟩⟩ := dif_neg h
theorem JX {s : ByteArray} (h : GJ s) : (BJ (BD s) ∨ AZ (BD s)) ∧ Cy (BD s) = s := by
 unfold BD
 rw [dif_pos h]
 exact h.choose_spec
theorem NU : GJ ⟨#[60, 62]⟩ ∧ BD ⟨#[60, 62]⟩ = ⟨⟨#[]⟩, ⟨#[]⟩⟩ := T1 (.inr ⟨rfl, rfl⟩) (IV ⟨rfl, rfl⟩)
theorem qL {s : ByteArray} (h : GJ s) (h0 : ¬ s = ⟨#[60, 62]⟩) : 2 ≤ s.size ∧ AC s 0 = 60 ∧ AC s (s.size - 1) = 62 ∧ Cz (s.extract 1 (s.size - 1)) 64 2 = [(BD s).user, (BD s).domain] ∧ BJ (BD s) := by
 obtain ⟨h1, h2⟩ := JX h
 have hk := h1.resolve_right fun q => h0 (by rw [← h2, IV q])
 have hb := Kl hk
 rw [h2] at hb
 have hs : s.size = ((bl (BD s).user ++ 64 :: bl (BD s).domain)).length + 2 := by rw [← CA, hb]; simp; omega
 refine ⟨by omega, ?_, ?_, ?_, hk⟩
 ·rw [Bj, hb]; rfl
 ·rw [Bj, hb, hs]
  simp only [List.getD_eq_getElem?_getD]
  rw [show ∀ n : Nat, n + 2 - 1 = n + 1 from fun n => rfl, List.getElem?_cons_succ, List.getElem?_append_right (Nat.le_refl _), Nat.sub_self]
  rfl
 ·rw [RA s hb, Mq (Mg hk.1) (QY hk.2)]; rfl
theorem k6 {s : ByteArray} (h : 2 ≤ s.size) (h1 : AC s 0 = 60) (h2 : AC s (s.size - 1) = 62) : bl s = 60 :: (bl (s.extract 1 (s.size - 1)) ++ [62]) := by
 have e1 : (bl s).getD 0 0 = 60 := (Fz (c := 60)).1 h1
 have e2 : (bl s).getD (s.size - 1) 0 = 62 := (Fz (c := 62)).1 h2
 have d0 := Ef (s := s) (i := 0) (by omega)
 have d1 := Ef (s := s) (i := s.size - 1) (by omega)
 rw [e1] at d0
 rw [e2] at d1
 have e3 : (bl s).drop (s.size - 1 + 1) = [] := List.drop_of_length_le (by rw [CA]; omega)
 rw [e3] at d1
 rw [C4]
 have : (bl s).drop 1 = ((bl s).drop 1).take (s.size - 1 - 1) ++ ((bl s).drop 1).drop (s.size - 1 - 1) := (List.take_append_drop _ _).symm
 rw [List.drop_drop, show 1 + (s.size - 1 - 1) = s.size - 1 by omega, d1] at this
 rw [← this]
 exact d0
theorem aL {s : ByteArray} (h : 2 ≤ s.size) (h1 : AC s 0 = 60) (h2 : AC s (s.size - 1) = 62) (h3 : (Cz (s.extract 1 (s.size - 1)) 64 2).length = 2)
    (h4 : BJ ⟨(Cz (s.extract 1 (s.size - 1)) 64 2).getD 0 default, (Cz (s.extract 1 (s.size - 1)) 64 2).getD 1 default⟩) :
    GJ s ∧ BD s = ⟨(Cz (s.extract 1 (s.size - 1)) 64 2).getD 0 default, (Cz (s.extract 1 (s.size - 1)) 64 2).getD 1 default⟩ := by
 refine T1 (.inl h4) (E0 ?_)
 rw [Kl h4, k6 h h1 h2]
 have := congrArg bl (cX h3)
 rw [this]; rfl
theorem aM {s : ByteArray} (h0 : ¬ s = ⟨#[60, 62]⟩) (h : (s.size : Int) < 2 ∨ ¬ AC s 0 = 60 ∨ ¬ AC s (s.size - 1) = 62 ∨ ¬ ((Cz (s.extract 1 (s.size - 1)) 64 2).length : Int) = 2 ∨
    ¬ BJ ⟨(Cz (s.extract 1 (s.size - 1)) 64 2).getD 0 default, (Cz (s.extract 1 (s.size - 1)) 64 2).getD 1 default⟩) : ¬ GJ s := fun q => by
 obtain ⟨h1, h2, h3, h4, h5⟩ := qL q h0
 rw [h4] at h
 rcases h with h | h | h | h | h
 ·omega
 ·exact h h2
 ·exact h h3
 ·exact h rfl
 ·exact h h5
theorem wn : (0 : Int).toNat = 0 := rfl
theorem wo : (1 : Int).toNat = 1 := rfl
theorem wq : (2 : Int).toNat = 2 := rfl
theorem u64 : UInt8.ofNat (64 : Int).toNat = 64 := rfl
theorem wr (n : Nat) : ((n : Int) - 1).toNat = n - 1 := by omega
end
noncomputable def v0 (s : ByteArray) : AV := .tup [.agg [.t (.v (.string (BD s).user)), .t (.v (.string (BD s).domain))], .t (.v (.bool (BL (GJ s))))]
theorem Ri (s : ByteArray) : v0 s = .tup [.agg [.t (.v (.string (BD s).user)), .t (.v (.string (BD s).domain))], .t (.v (.bool (BL (GJ s))))] := rfl
theorem gU {s : ByteArray} {a : Ad} (h : GJ s ∧ BD s = a) : T.v (.string a.user) = T.v (.string (BD s).user) := by rw [h.2]
theorem gD {s : ByteArray} {a : Ad} (h : GJ s ∧ BD s = a) : T.v (.string a.domain) = T.v (.string (BD s).domain) := by rw [h.2]
theorem gT {s : ByteArray} {a : Ad} (h : GJ s ∧ BD s = a) : T.v (.bool true) = T.v (.bool (BL (GJ s))) := by rw [Ak h.1]
theorem we {s : ByteArray} (h : ¬ GJ s) : T.v (.string ⟨#[]⟩) = T.v (.string (BD s).user) := by rw [M4 h]
theorem wd {s : ByteArray} (h : ¬ GJ s) : T.v (.string ⟨#[]⟩) = T.v (.string (BD s).domain) := by rw [M4 h]
theorem gF {s : ByteArray} (h : ¬ GJ s) : T.v (.bool false) = T.v (.bool (BL (GJ s))) := by rw [AO h]
theorem WO (s : ByteArray) : BW (v0 s) := .tup _ fun c hc => by
 simp only [List.mem_cons, List.not_mem_nil, or_false] at hc
 rcases hc with rfl | rfl
 ·refine .agg _ fun c hc => ?_
  simp only [List.mem_cons, List.not_mem_nil, or_false] at hc
  rcases hc with rfl | rfl <;> exact .v _
 ·exact .v _
def Qi : Ct := Aq (lc C3.ag l0) (fun p => p.1.user.size ≤ 2000000 ∧ p.1.domain.size ≤ 2000000) (fun p => .t (.v (.string (Cy p.1))))
section
attribute [local go_sem] IF
theorem ej {G : Gt} (hG : Ah G) (hh : G.e 119 = AA 0 IF) : Gd G 209 (AA 0 Qi) := by
 refine gr (fn := Tryz.f209) (n := 1) rfl rfl hG ?_
 rintro ⟨a, ⟨⟩⟩ hpre
 simp -implicitDefEqProofs only [Tryz.f209, go_sem, hh, seval] at hpre ⊢
 obtain ⟨h1, h2⟩ := hpre
 have e1 : (#[60] : Array UInt8).size = 1 := rfl
 have e2 : (#[64] : Array UInt8).size = 1 := rfl
 have e3 : (#[62] : Array UInt8).size = 1 := rfl
 with_reducible repeat' (first | apply ai | intro _ | ((first | apply s1 | apply s3 | apply s4) <;> intro hb <;> simp -implicitDefEqProofs only [hb, go_sem, hh, seval] <;> try simp only [qz] at hb))
 all_goals (try simp only [maxLen] at *)
 all_goals first
  | rfl
  | omega
  | (rw [IV (by assumption)]; done)
  | (rw [Rg hb]; done)
  | skip
end
def Xs : Ct := Aq (lc Ap l0) (fun p => p.1.size ≤ 2000000) (fun p => v0 p.1)
section
attribute [local go_sem] r8 IE AU AT AY lm Ri
set_option maxHeartbeats 2000000 in
theorem fK {G : Gt} (hG : Ah G) (hh : G.e 88 = AA 0 r8 ∧ G.e 106 = AA 0 IE) : Gd G 226 (AA 0 Xs) := by
 refine gr (fn := Tryz.f226) (n := 1) rfl rfl hG ?_ (hs := fun _ _ => WO _)
 rintro ⟨s, ⟨⟩⟩ hpre
 simp -implicitDefEqProofs only [Tryz.f226, go_sem, hh, seval] at hpre ⊢
 with_reducible repeat' (first | apply ai | intro _ | ((first | apply s1 | apply s3 | apply s4) <;> intro hb <;> simp -implicitDefEqProofs only [hb, go_sem, hh, seval] <;> try simp only [qz] at hb))
 all_goals (try simp only [maxLen, u64, wn, wo, wq, wr, tn] at *)
 all_goals first
  | with_reducible rfl
  | omega
  | decide
  | (show AX _ = true; rfl)
  | with_reducible assumption
  | with_reducible exact we (aM (by with_reducible assumption) (by first | exact .inl (by with_reducible assumption) | exact .inr (.inl (by with_reducible assumption)) | exact .inr (.inr (.inl (by with_reducible assumption))) | exact .inr (.inr (.inr (.inl (by with_reducible assumption)))) | exact .inr (.inr (.inr (.inr (by with_reducible assumption))))))
  | with_reducible exact wd (aM (by with_reducible assumption) (by first | exact .inl (by with_reducible assumption) | exact .inr (.inl (by with_reducible assumption)) | exact .inr (.inr (.inl (by with_reducible assumption))) | exact .inr (.inr (.inr (.inl (by with_reducible assumption)))) | exact .inr (.inr (.inr (.inr (by with_reducible assumption))))))
  | with_reducible exact gF (aM (by with_reducible assumption) (by first | exact .inl (by with_reducible assumption) | exact .inr (.inl (by with_reducible assumption)) | exact .inr (.inr (.inl (by with_reducible assumption))) | exact .inr (.inr (.inr (.inl (by with_reducible assumption)))) | exact .inr (.inr (.inr (.inr (by with_reducible assumption))))))
  | with_reducible exact gU (aL (by omega) (by with_reducible assumption) (by with_reducible assumption) (by omega) (by with_reducible assumption))
  | with_reducible exact gD (aL (by omega) (by with_reducible assumption) (by with_reducible assumption) (by omega) (by with_reducible assumption))
  | with_reducible exact gT (aL (by omega) (by with_reducible assumption) (by with_reducible assumption) (by omega) (by with_reducible assumption))
  | (subst hb; with_reducible exact gU NU)
  | (subst hb; with_reducible exact gD NU)
  | (subst hb; with_reducible exact gT NU)
  | skip
end
def pc : ByteArray := ⟨#[72, 111, 112, 58, 32]⟩
def W2 (s : ByteArray) : Prop := wH s pc ∧ Cc (s.extract 5 s.size)
theorem kb {s : ByteArray} (h : Cc s) : ¬ s.size = 0 := fun q => by
 rw [j3 q] at h
 have := (h.1 ⟨#[]⟩ (by simp [Cz, Ar, bl, mB])).2.1
 exact absurd this (by decide)
theorem rQ {s : ByteArray} : W2 s ↔ 5 < s.size ∧ s.extract 0 5 = pc ∧ Cc (s.extract 5 s.size) := by
 have e : pc.size = 5 := rfl
 unfold W2 wH
 rw [e]
 constructor
 ·rintro ⟨⟨h1, h2⟩, h3⟩
  refine ⟨?_, h2, h3⟩
  have := kb h3
  rw [ByteArray.size_extract] at this
  omega
 ·rintro ⟨h1, h2, h3⟩
  exact ⟨⟨by omega, h2⟩, h3⟩
noncomputable def D5 : List ByteArray → Nat
 | [] => 0
 | x :: r => bif BL (W2 x) then D5 r + 1 else 0
theorem ZD {xs : List ByteArray} {i : Nat} (h : i < xs.length) (ha : W2 (xs.getD i default)) : D5 (xs.drop i) = D5 (xs.drop (i + 1)) + 1 := by
 rw [Ae h, D5, Ak ha]; rfl
theorem fL {xs : List ByteArray} {i : Nat} (h : i < xs.length) (ha : ¬ W2 (xs.getD i default)) : D5 (xs.drop i) = 0 := by
 rw [Ae h, D5, AO ha]; rfl
theorem ZC {xs : List ByteArray} {i : Nat} (h : xs.length ≤ i) : D5 (xs.drop i) = 0 := by
 rw [List.drop_eq_nil_of_le h, D5]
abbrev wg : ByteArray := ⟨#[110, 111, 116, 32, 100, 101, 108, 105, 118, 101, 114, 101, 100, 58]⟩
def u6 (xs : List ByteArray) : Prop := D5 xs + 1 < xs.length ∧ xs.getD (D5 xs) default = wg
def u5 (xs : List ByteArray) : Prop := u6 xs ∧ GJ (xs.getD (D5 xs + 1) default) ∧ ¬ AZ (BD (xs.getD (D5 xs + 1) default))
open Classical in
noncomputable def ua (xs : List ByteArray) : ByteArray := if u5 xs then xs.getD (D5 xs + 1) default else ⟨#[]⟩
theorem rB {xs : List ByteArray} (h : u5 xs) : ua xs = xs.getD (D5 xs + 1) default := if_pos h
theorem hW {xs : List ByteArray} (h : u5 xs) : T.v (.string (xs.getD (D5 xs + 1) default)) = T.v (.string (ua xs)) := by rw [rB h]
def mY : Ct := Aq (lc An.asl l0) (fun p => True) (fun p => .t (.v (.int .i64 (D5 p.1))))
section
attribute [local go_sem] Xt lm AU AT
theorem fJ {G : Gt} (hG : Ah G) (hh : G.e 40 = AA 0 Xt) : Gd G 225 (AA 0 mY) := by
 refine gr (fn := Tryz.f225) (n := 1) rfl rfl hG ?_
 rintro ⟨xs, ⟨⟩⟩ hpre
 simp -implicitDefEqProofs only [Tryz.f225, go_sem, hh, seval] at hpre ⊢
 refine AF [] (ι := {i : Nat // i ≤ xs.length ∧ D5 xs = i + D5 (xs.drop i)}) (fun p => ⟨[(0, .t (.sl 1 (xs.map AH))), (3, .t (.v (.int .i64 p.1)))], []⟩) (fun p => xs.length - p.1) ⟨0, by simp, by simp⟩ rfl ?_ ?_
 ·simp -implicitDefEqProofs only [go_sem, hh, seval]
  try simp
 ·rintro ⟨i, hi, hix⟩
  by_cases hlt : (i : Int) < xs.length
  ·simp -implicitDefEqProofs only [hlt, decide_true, tn, go_sem, hh, seval]
   with_reducible repeat' (first | apply ai | intro _ | ((first | apply s1 | apply s3 | apply s4) <;> intro hb <;> simp -implicitDefEqProofs only [hb, go_sem, hh, seval] <;> try simp only [qz] at hb))
   all_goals (try simp only [maxLen, tn] at *)
   all_goals first
    | rfl
    | omega
    | (rw [hix, fL (by omega) (fun h => by have h := rQ.1 h; first | exact absurd h.2.2 (by assumption) | exact absurd h.2.1 (by assumption) | omega)]; simp; done)
    | (refine ⟨⟨i + 1, by omega, by rw [hix, ZD (by omega) (rQ.2 ⟨by omega, by assumption, by assumption⟩)]; omega⟩, by dsimp only; omega, ?_⟩
       simp -implicitDefEqProofs only [go_sem, hh, seval]
       try simp
       done)
    | skip
  ·simp -implicitDefEqProofs only [hlt, decide_false, go_sem, hh, seval]
   with_reducible repeat' (first | apply ai | intro _ | ((first | apply s1 | apply s3 | apply s4) <;> intro hb <;> simp -implicitDefEqProofs only [hb, go_sem, hh, seval] <;> try simp only [qz] at hb))
   all_goals first | rfl | omega | (rw [hix, ZC (by omega)]; simp; done) | skip
end
theorem Xd {x : Im} {a : Ad} (h : B4 x.body = ⟨#[]⟩) : Bi x a = ⟨⟨⟨#[]⟩, ⟨#[]⟩⟩, [x.frm], [uq, Cy a]⟩ := by unfold Bi; rw [if_pos h]
theorem Xe {x : Im} {a : Ad} (h : ¬ B4 x.body = ⟨#[]⟩) : Bi x a = ⟨⟨⟨#[]⟩, ⟨#[]⟩⟩, [x.frm], [uq, Cy a, B4 x.body]⟩ := by unfold Bi; rw [if_neg h]
theorem QZ {x : Im} {a : Ad} : (Bi x a).body.length ≤ 3 := by
 unfold Bi
 split <;> simp
theorem OR {x : Im} {a : Ad} (hox : GH x) (ha : BJ a) : LE (Bi x a) := by
 refine ⟨⟨by show 0 ≤ 1048576; decide, by show 0 ≤ 1048576; decide⟩, ⟨by show ((1 : Nat) : Int) ≤ 1048576; decide, fun b hb => by rw [List.mem_singleton.1 hb]; exact hox.1⟩, ⟨by have := QZ (x := x) (a := a); omega, fun s hs => ?_⟩⟩
 unfold Bi at hs
 rcases List.mem_cons.1 hs with e | hs
 ·rw [e]; show 14 ≤ 1048576; decide
 ·rcases List.mem_cons.1 hs with e | hs
  ·rw [e]
   have := (Po (.inl ha)).2
   show (Cy a).size ≤ 1048576
   omega
  ·split at hs
   ·cases hs
   ·rename_i q
    rw [List.mem_singleton.1 hs]
    exact hox.2.2.2 _ ((Fd x.body).resolve_left q)
theorem UM {α : Type} {xs : List α} {i j : Nat} {y : α} (h : y ∈ xs.take i ++ xs.drop j) : y ∈ xs := by
 rcases List.mem_append.1 h with h | h
 ·exact List.mem_of_mem_take h
 ·exact List.mem_of_mem_drop h
theorem MT {α : Type} {p : α → Prop} {xs ys : List α} (h : HG p xs) (hl : ys.length ≤ xs.length) (hs : ∀ y ∈ ys, p y) : HG p ys := ⟨by have := h.1; omega, hs⟩
theorem Tq {s : Sp} {i k : Nat} (h : GI s) (hi : i < s.items.length) : GI (DJ s i k) := by
 have h' : HG GH s.items := h
 show HG GH (Wk s.items i k)
 have hx := h'.at hi
 have hx2 : GH (IJ (s.items.getD i default) k) := ⟨hx.1, MT hx.2.1 (by simp [IJ]; omega) (fun y hy => hx.2.1.2 y (UM hy)), hx.2.2⟩
 unfold Wk
 split
 ·exact MT h' (by simp; omega) fun y hy => h'.2 y (UM hy)
 ·refine MT h' (by simp; omega) fun y hy => ?_
  rcases List.mem_append.1 hy with hy | hy
  ·exact h'.2 y (List.mem_of_mem_take hy)
  ·rcases List.mem_cons.1 hy with e | hy
   ·rw [e]; exact hx2
   ·exact h'.2 y (List.mem_of_mem_drop hy)
def mQ : Ct := Aq (lc Ia.ag (lc C3.ag l0)) (fun p => p.2.1.user.size ≤ 2000000 ∧ p.2.1.domain.size ≤ 2000000) (fun p => RZ (Bi p.1 p.2.1))
section
attribute [local go_sem] Qi Mi lm List.length_append List.length_cons List.length_nil List.map_append List.map_nil Nat.zero_add List.nil_append AS.opn AS.cls AS.nilb AS.renb AS.up Bool.not_false Bool.not_true List.set_set List.set_cons_zero List.set_cons_succ List.set_nil List.mem_singleton forall_eq
set_option maxHeartbeats 800000 in
theorem fB {G : Gt} (hG : Ah G) (hh : G.e 209 = AA 0 Qi ∧ G.e 107 = AA 0 Mi) : Gd G 217 (AA 0 mQ) := by
 refine gr (fn := Tryz.f217) (n := 2) rfl rfl hG ?_ (hs := fun _ p => G5 _)
 rintro ⟨x, a, ⟨⟩⟩ hpre
 obtain ⟨h1, h2'⟩ := hpre
 dsimp only at h1 h2' ⊢
 by_cases hm : B4 x.body = ⟨#[]⟩
 ·rw [Xd hm]
  have dm := decide_eq_true hm
  simp -implicitDefEqProofs only [Tryz.f217, dm, go_sem, hh, seval]
  with_reducible repeat' (first | apply ai | intro _ | ((first | apply s1 | apply s3 | apply s4) <;> intro hb <;> simp -implicitDefEqProofs only [hb, go_sem, hh, seval] <;> try simp only [qz] at hb))
  all_goals (try simp only [maxLen] at *)
  all_goals first | with_reducible assumption | rfl | omega | contradiction | decide | (simp; done) | skip
 ·rw [Xe hm]
  have dm := decide_eq_false hm
  simp -implicitDefEqProofs only [Tryz.f217, dm, go_sem, hh, seval]
  with_reducible repeat' (first | apply ai | intro _ | ((first | apply s1 | apply s3 | apply s4) <;> intro hb <;> simp -implicitDefEqProofs only [hb, go_sem, hh, seval] <;> try simp only [qz] at hb))
  all_goals (try simp only [maxLen] at *)
  all_goals first | with_reducible assumption | rfl | omega | contradiction | decide | (simp; done) | skip
end
def mG : Ct := Aq (lc Ep.ag (lc BI (lc BI (lc BI l0)))) (fun p => GG p.1 ∧ CO p.1.spool ∧ (0 ≤ p.2.1 ∧ p.2.1 < p.1.spool.items.length) ∧ (0 ≤ p.2.2.1 ∧ p.2.2.1 < (p.1.spool.items.getD p.2.1.toNat default).to.length)) (fun p => .agg ((Al (Gx p.1 (p.1.spool.items.getD p.2.1.toNat default) ((p.1.spool.items.getD p.2.1.toNat default).to.getD p.2.2.1.toNat default).addr p.2.1.toNat p.2.2.1.toNat p.2.2.2.1)).map .t))
section
attribute [local go_sem] Qg IF J4 Mi mQ Qe JC I4 List.take_length List.drop_zero List.length_take List.length_drop lm List.length_append List.length_cons List.length_nil List.map_append List.map_nil List.map_cons List.nil_append Nat.zero_add List.mem_singleton forall_eq Bool.not_true Bool.not_false AU AT AS.opn AS.cls AS.nilb AS.renb AS.up List.set_set List.set_cons_zero List.set_cons_succ List.set_nil
set_option maxHeartbeats 3200000 in
theorem eb {G : Gt} (hG : Ah G) (hh : G.e 166 = AA 1 Qg ∧ G.e 119 = AA 0 IF ∧ G.e 121 = AA 0 J4 ∧ G.e 107 = AA 0 Mi ∧ G.e 217 = AA 0 mQ ∧ G.e 124 = AA 1 Qe) : Gd G 202 (AA 1 mG) := by
 refine Nh (dp := fun n => Nat.ble 100000 n) (fn := Tryz.f202) (n := 4) rfl rfl hG ?_
 rintro ⟨h, i, k, w, ⟨⟩⟩ hpre
 obtain ⟨hok, hsp, ⟨hi0, hi1⟩, ⟨hk0, hk1⟩⟩ := hpre
 dsimp only at hok hsp hi0 hi1 hk0 hk1 ⊢
 obtain ⟨ni, rfl⟩ := Int.eq_ofNat_of_zero_le hi0
 obtain ⟨nk, rfl⟩ := Int.eq_ofNat_of_zero_le hk0
 simp only [tn] at *
 have hi2 : ni < h.spool.items.length := by omega
 have hk2 : nk < (h.spool.items.getD ni default).to.length := by omega
 have hsd := Ee hsp hi2 hk2
 have hos := hok.2.1
 have hod := Tq (k := nk) hos hi2
 have hll := hok.2.2.2.1
 have hx := hsp.1 _ (AE hi2)
 have hox := hos.2 _ (AE hi2)
 have hoa := hox.2.1.2 _ (AE hk2)
 have hau : ((h.spool.items.getD ni default).to.getD nk default).addr.user.size ≤ 2000000 := by have : ((h.spool.items.getD ni default).to.getD nk default).addr.user.size ≤ 1048576 := hoa.1; omega
 have had : ((h.spool.items.getD ni default).to.getD nk default).addr.domain.size ≤ 2000000 := by have : ((h.spool.items.getD ni default).to.getD nk default).addr.domain.size ≤ 1048576 := hoa.2; omega
 have hob : LE (Bi (h.spool.items.getD ni default) ((h.spool.items.getD ni default).to.getD nk default).addr) := OR hox (hx.1.1 _ (AE hk2)).1
 by_cases q : AZ (h.spool.items.getD ni default).frm ∨ ¬ CG (DJ h.spool ni nk)
 ·rw [Y4 q]
  by_cases q1 : AZ (h.spool.items.getD ni default).frm
  ·have b1 := Ak q1
   simp -implicitDefEqProofs only [Tryz.f202, b1, tn, go_sem, hh, seval]
   with_reducible repeat' (first | apply ai | intro _ | ((first | apply s1 | apply s3 | apply s4) <;> intro hb <;> simp -implicitDefEqProofs only [hb, go_sem, hh, seval] <;> try simp only [qz] at hb))
   all_goals (try simp only [maxLen] at *)
   all_goals first | with_reducible assumption | rfl | omega | contradiction | decide | (simp; done) | skip
  ·have b1 := AO q1
   have b2 := AO (q.resolve_left q1)
   simp -implicitDefEqProofs only [Tryz.f202, b1, b2, tn, go_sem, hh, seval]
   with_reducible repeat' (first | apply ai | intro _ | ((first | apply s1 | apply s3 | apply s4) <;> intro hb <;> simp -implicitDefEqProofs only [hb, go_sem, hh, seval] <;> try simp only [qz] at hb))
   all_goals (try simp only [maxLen] at *)
   all_goals first | with_reducible assumption | rfl | omega | contradiction | decide | (simp; done) | skip
 ·rw [Y3 q]
  have q1 : ¬ AZ (h.spool.items.getD ni default).frm := fun z => q (.inl z)
  have q2 : CG (DJ h.spool ni nk) := Classical.byContradiction fun z => q (.inr z)
  have b1 := AO q1
  have b2 := Ak q2
  simp -implicitDefEqProofs only [Tryz.f202, b1, b2, tn, go_sem, hh, seval]
  with_reducible repeat' (first | apply ai | intro _ | ((first | apply s1 | apply s3 | apply s4) <;> intro hb <;> simp -implicitDefEqProofs only [hb, go_sem, hh, seval] <;> try simp only [qz] at hb))
  all_goals (try simp only [maxLen] at *)
  all_goals first | with_reducible assumption | rfl | omega | contradiction | decide | skip
end
def Qh : Ct := Aq (lc Ep.ag (lc BI (lc C3.ag (lc BI (lc BI l0))))) (fun p => GI p.1.spool ∧ CO p.1.spool ∧ ¬ Ax p.1.spool p.2.1 < 0 ∧ ¬ B3 (Ai p.1.spool p.2.1) p.2.2.1 < 0 ∧ (p.2.2.2.1 = 2 ∨ (GG p.1 ∧ 0 ≤ p.2.2.2.2.1 ∧ p.2.2.2.2.1 ≤ 9999))) (fun p => .agg ((Al (Cb p.1 (Ax p.1.spool p.2.1).toNat (B3 (Ai p.1.spool p.2.1) p.2.2.1).toNat p.2.2.1 p.2.2.2.1 p.2.2.2.2.1)).map .t))
section
attribute [local go_sem] cP mF Qg Xo mG JC I4 List.take_length List.drop_zero List.length_take List.length_drop lm List.length_append List.length_cons List.length_nil List.map_append List.map_nil List.map_cons List.nil_append Nat.zero_add List.mem_singleton forall_eq Bool.not_true Bool.not_false fz AS.opn AS.cls AS.nilb AS.renb AS.up List.set_set List.set_cons_zero List.set_cons_succ List.set_nil
set_option maxHeartbeats 3200000 in
theorem eO {G : Gt} (hG : Ah G) (hh : G.e 38 = AA 0 cP ∧ G.e 201 = AA 0 mF ∧ G.e 166 = AA 1 Qg ∧ G.e 167 = AA 1 Xo ∧ G.e 202 = AA 1 mG) : Gd G 187 (AA 1 Qh) := by
 refine Nh (dp := fun n => Nat.ble 100000 n) (fn := Tryz.f187) (n := 5) rfl rfl hG ?_
 rintro ⟨h, n, a, out, w, ⟨⟩⟩ hpre
 obtain ⟨hos, hsp, hi, hk, hw'⟩ := hpre
 dsimp only at hos hsp hi hk hw' ⊢
 have hi' : ¬ (A5 (fun x : Im => x.id = n) 0 h.spool.items) < 0 := hi
 obtain ⟨i0, i1⟩ := Bg hi
 have i0' : 0 ≤ (A5 (fun x : Im => x.id = n) 0 h.spool.items) := i0
 have i1' : (A5 (fun x : Im => x.id = n) 0 h.spool.items) < h.spool.items.length := i1
 have hk' : ¬ (A5 (fun r : Rc => r.addr = a) 0 (h.spool.items.getD (A5 (fun x : Im => x.id = n) 0 h.spool.items).toNat default).to) < 0 := hk
 obtain ⟨k0, k1⟩ := HR hk
 have k0' : 0 ≤ (A5 (fun r : Rc => r.addr = a) 0 (h.spool.items.getD (A5 (fun x : Im => x.id = n) 0 h.spool.items).toNat default).to) := k0
 have k1' : (A5 (fun r : Rc => r.addr = a) 0 (h.spool.items.getD (A5 (fun x : Im => x.id = n) 0 h.spool.items).toNat default).to) < (h.spool.items.getD (A5 (fun x : Im => x.id = n) 0 h.spool.items).toNat default).to.length := k1
 have hadr : ((h.spool.items.getD (A5 (fun x : Im => x.id = n) 0 h.spool.items).toNat default).to.getD (A5 (fun r : Rc => r.addr = a) 0 (h.spool.items.getD (A5 (fun x : Im => x.id = n) 0 h.spool.items).toNat default).to).toNat default).addr = a := Fw hk
 obtain ⟨R, hR⟩ : ∃ x, x = Cb h (Ax h.spool n).toNat (B3 (Ai h.spool n) a).toNat a out w := ⟨_, rfl⟩
 rw [← hR]
 by_cases o2 : out = 2
 ·have hR2 : R = ⟨h.conf, DJ h.spool (A5 (fun x : Im => x.id = n) 0 h.spool.items).toNat (A5 (fun r : Rc => r.addr = a) 0 (h.spool.items.getD (A5 (fun x : Im => x.id = n) 0 h.spool.items).toNat default).to).toNat, h.boxes, h.lost⟩ := by rw [hR]; unfold Cb; rw [if_pos o2]; rfl
  rw [hR2]
  have d2 := decide_eq_true o2
  simp -implicitDefEqProofs only [Tryz.f187, d2, go_sem, hh, seval]
  with_reducible repeat' (first | apply ai | intro _ | ((first | apply s1 | apply s3 | apply s4) <;> intro hb <;> simp -implicitDefEqProofs only [hb, go_sem, hh, seval] <;> try simp only [qz] at hb))
  all_goals first | with_reducible assumption | rfl | omega | contradiction | decide | skip
 ·have d2 := decide_eq_false o2
  obtain ⟨hok, hw⟩ := hw'.resolve_left o2
  by_cases o3 : out = 3
  ·have d3 := decide_eq_true o3
   by_cases hl : NB ((h.spool.items.getD (A5 (fun x : Im => x.id = n) 0 h.spool.items).toNat default).to.getD (A5 (fun r : Rc => r.addr = a) 0 (h.spool.items.getD (A5 (fun x : Im => x.id = n) 0 h.spool.items).toNat default).to).toNat default) w
   ·have hR2 : R = Gx h (h.spool.items.getD (A5 (fun x : Im => x.id = n) 0 h.spool.items).toNat default) ((h.spool.items.getD (A5 (fun x : Im => x.id = n) 0 h.spool.items).toNat default).to.getD (A5 (fun r : Rc => r.addr = a) 0 (h.spool.items.getD (A5 (fun x : Im => x.id = n) 0 h.spool.items).toNat default).to).toNat default).addr (A5 (fun x : Im => x.id = n) 0 h.spool.items).toNat (A5 (fun r : Rc => r.addr = a) 0 (h.spool.items.getD (A5 (fun x : Im => x.id = n) 0 h.spool.items).toNat default).to).toNat w := by
      rw [hR, hadr]; unfold Cb
      rw [if_neg o2, if_neg (fun z => z.2 hl)]; rfl
    have hS : Jo h.spool (A5 (fun x : Im => x.id = n) 0 h.spool.items).toNat (A5 (fun r : Rc => r.addr = a) 0 (h.spool.items.getD (A5 (fun x : Im => x.id = n) 0 h.spool.items).toNat default).to).toNat w = (h.spool, false) := by unfold Jo; rw [if_pos hl]
    rw [hR2]
    simp -implicitDefEqProofs only [Tryz.f187, d2, d3, hS, go_sem, hh, seval]
    with_reducible repeat' (first | apply ai | intro _ | ((first | apply s1 | apply s3 | apply s4) <;> intro hb <;> simp -implicitDefEqProofs only [hb, go_sem, hh, seval] <;> try simp only [qz] at hb))
    all_goals first | with_reducible assumption | rfl | omega | contradiction | decide | skip
   ·have hR2 : R = ⟨h.conf, PN h.spool (A5 (fun x : Im => x.id = n) 0 h.spool.items).toNat (A5 (fun r : Rc => r.addr = a) 0 (h.spool.items.getD (A5 (fun x : Im => x.id = n) 0 h.spool.items).toNat default).to).toNat w, h.boxes, h.lost⟩ := by
      rw [hR]; unfold Cb
      rw [if_neg o2, if_pos ⟨o3, hl⟩]; rfl
    have hS : Jo h.spool (A5 (fun x : Im => x.id = n) 0 h.spool.items).toNat (A5 (fun r : Rc => r.addr = a) 0 (h.spool.items.getD (A5 (fun x : Im => x.id = n) 0 h.spool.items).toNat default).to).toNat w = (PN h.spool (A5 (fun x : Im => x.id = n) 0 h.spool.items).toNat (A5 (fun r : Rc => r.addr = a) 0 (h.spool.items.getD (A5 (fun x : Im => x.id = n) 0 h.spool.items).toNat default).to).toNat w, true) := by unfold Jo; rw [if_neg hl]
    rw [hR2]
    simp -implicitDefEqProofs only [Tryz.f187, d2, d3, hS, go_sem, hh, seval]
    with_reducible repeat' (first | apply ai | intro _ | ((first | apply s1 | apply s3 | apply s4) <;> intro hb <;> simp -implicitDefEqProofs only [hb, go_sem, hh, seval] <;> try simp only [qz] at hb))
    all_goals first | with_reducible assumption | rfl | omega | contradiction | decide | skip
  ·have d3 := decide_eq_false o3
   have hR2 : R = Gx h (h.spool.items.getD (A5 (fun x : Im => x.id = n) 0 h.spool.items).toNat default) ((h.spool.items.getD (A5 (fun x : Im => x.id = n) 0 h.spool.items).toNat default).to.getD (A5 (fun r : Rc => r.addr = a) 0 (h.spool.items.getD (A5 (fun x : Im => x.id = n) 0 h.spool.items).toNat default).to).toNat default).addr (A5 (fun x : Im => x.id = n) 0 h.spool.items).toNat (A5 (fun r : Rc => r.addr = a) 0 (h.spool.items.getD (A5 (fun x : Im => x.id = n) 0 h.spool.items).toNat default).to).toNat w := by
    rw [hR, hadr]; unfold Cb
    rw [if_neg o2, if_neg (fun z => o3 z.1)]; rfl
   rw [hR2]
   simp -implicitDefEqProofs only [Tryz.f187, d2, d3, go_sem, hh, seval]
   with_reducible repeat' (first | apply ai | intro _ | ((first | apply s1 | apply s3 | apply s4) <;> intro hb <;> simp -implicitDefEqProofs only [hb, go_sem, hh, seval] <;> try simp only [qz] at hb))
   all_goals first | with_reducible assumption | rfl | omega | contradiction | decide | skip
end
def kS (bs : List Bx) (a : Ad) : Nat := (bs.takeWhile fun b => decide (JS b.addr a < 0)).length
def rS (bs : List Bx) (a : Ad) : Prop := ∀ j, kS bs a ≤ j → j < bs.length → ¬ JS (bs.getD j default).addr a < 0
theorem ZJ (a : Ad) : ∀ (bs : List Bx), kS bs a ≤ bs.length
 | [] => by simp [kS]
 | b :: t => by
   have := ZJ a t
   unfold kS at this ⊢
   rw [List.takeWhile_cons]
   split
   ·simpa using this
   ·try simp
theorem ZK (a : Ad) : ∀ (bs : List Bx) {j : Nat}, j < kS bs a → JS (bs.getD j default).addr a < 0
 | [], j, h => by simp [kS] at h
 | b :: t, j, h => by
   unfold kS at h
   rw [List.takeWhile_cons] at h
   split at h
   ·rename_i hb
    cases j with
    | zero => simpa using hb
    | succ j =>
      have := ZK a t (j := j) (by unfold kS; simpa using h)
      simpa using this
   ·simp at h
theorem T8 (a : Ad) : ∀ (bs : List Bx), kS bs a < bs.length → ¬ JS (bs.getD (kS bs a) default).addr a < 0
 | [], h => by simp at h
 | b :: t, h => by
   by_cases hb : JS b.addr a < 0
   ·have e : kS (b :: t) a = kS t a + 1 := by unfold kS; rw [List.takeWhile_cons, if_pos (decide_eq_true hb), List.length_cons]
    rw [e] at h ⊢
    have := T8 a t (by simpa using h)
    simpa using this
   ·have e : kS (b :: t) a = 0 := by unfold kS; rw [List.takeWhile_cons, if_neg (by simpa using hb)]; rfl
    rw [e]
    simpa using hb
def GM (bs : List Bx) (a : Ad) : Bool := decide (kS bs a < bs.length) && decide (JS (bs.getD (kS bs a) default).addr a = 0)
theorem Xh (a b : Ad) : JS a b = 0 ↔ a = b := by
 unfold JS
 obtain ⟨u, d⟩ := a
 obtain ⟨v, e⟩ := b
 by_cases h : Ed d e = 0
 ·rw [if_pos h, Gr]
  have := (Gr _ _).1 h
  exact ⟨fun q => by have q : u = v := q; rw [q, this], fun q => by injection q⟩
 ·rw [if_neg h]
  exact ⟨fun q => absurd q h, fun q => by injection q with _ q; exact absurd ((Gr _ _).2 q) h⟩
def Eb (bs : List Bx) (a : Ad) (g : Gm) : List Bx :=
 if GM bs a = true then bs.set (kS bs a) ⟨(bs.getD (kS bs a) default).addr, (bs.getD (kS bs a) default).mails ++ [g]⟩
 else bs.take (kS bs a) ++ (⟨a, [g]⟩ :: bs.drop (kS bs a))
theorem HT {bs : List Bx} {a : Ad} {g : Gm} (h : GM bs a = true) : Eb bs a g = bs.set (kS bs a) ⟨(bs.getD (kS bs a) default).addr, (bs.getD (kS bs a) default).mails ++ [g]⟩ := if_pos h
theorem Fy {bs : List Bx} {a : Ad} {g : Gm} (h : GM bs a = false) : Eb bs a g = bs.take (kS bs a) ++ (⟨a, [g]⟩ :: bs.drop (kS bs a)) := if_neg (by rw [h]; decide)
theorem M3 {bs : List Bx} {a : Ad} (h : GM bs a = true) : kS bs a < bs.length := by
 unfold GM at h
 simp only [Bool.and_eq_true, decide_eq_true_eq] at h
 exact h.1
def Ch (s : Sp) (n : Int) (a : Ad) : Prop := ¬ Ax s n < 0 ∧ ¬ B3 (Ai s n) a < 0
theorem HI {s : Sp} {n : Int} {a : Ad} (q : Ch s n a) : ∃ x ∈ s.items, x.id = n ∧ ∃ r ∈ x.to, r.addr = a := by
 have h1 := Bg q.1
 have h2 := HR q.2
 exact ⟨Ai s n, AE (by omega), Ey q.1, _, AE (by omega), Fw q.2⟩
theorem T6 : ∀ {xs : List Im}, (xs.map Im.id).Pairwise (· < ·) → ∀ {x y : Im}, x ∈ xs → y ∈ xs → x.id = y.id → x = y
 | z :: t, h, x, y, hx, hy, e => by
   rw [List.map_cons, List.pairwise_cons] at h
   rcases List.mem_cons.1 hx with q | q
   ·rcases List.mem_cons.1 hy with r | r
    ·rw [q, r]
    ·have := h.1 _ (List.mem_map_of_mem (f := Im.id) r); rw [q] at e; omega
   ·rcases List.mem_cons.1 hy with r | r
    ·have := h.1 _ (List.mem_map_of_mem (f := Im.id) q); rw [r] at e; omega
    ·exact T6 h.2 q r e
theorem Fq {s : Sp} (h : CO s) {x : Im} (hx : x ∈ s.items) {r : Rc} (hr : r ∈ x.to) : Ch s x.id r.addr ∧ Ai s x.id = x := by
 have h1 : ¬ Ax s x.id < 0 := by
  have : 0 ≤ Ax s x.id := (EF s.items 0).2 ⟨x, hx, rfl⟩
  omega
 have h2 := Bg h1
 have h3 : Ai s x.id = x := T6 (Ck.1 h.2.1) (AE (by omega)) hx (Ey h1)
 refine ⟨⟨h1, ?_⟩, h3⟩
 rw [h3]
 have : 0 ≤ B3 x r.addr := (EF x.to 0).2 ⟨r, hr, rfl⟩
 omega
theorem Sf {s : Sp} {n n' : Int} {a a' : Ad} (h : CO s) (q : Ch s n a) (q' : Ch s n' a') (ne : ¬ (n = n' ∧ a = a')) : Ch (DJ s (Ax s n).toNat (B3 (Ai s n) a).toNat) n' a' := by
 obtain ⟨x, hx, e1, r, hr, e2⟩ := HI q'
 have i1 := Bg q.1
 have k1 := HR q.2
 have ei := Ey q.1
 have ek := Fw q.2
 obtain ⟨i, hi⟩ : ∃ i, i = (Ax s n).toNat := ⟨_, rfl⟩
 obtain ⟨k, hk⟩ : ∃ k, k = (B3 (Ai s n) a).toNat := ⟨_, rfl⟩
 have hX : s.items.getD i default = Ai s n := by rw [hi]; rfl
 have hil : i < s.items.length := by omega
 have hkl : k < (s.items.getD i default).to.length := by rw [hX]; omega
 rw [← hi, ← hk]
 rw [← hk] at ek
 have hok := Ee h hil hkl
 suffices hs : ∃ y ∈ (DJ s i k).items, y.id = n' ∧ ∃ r ∈ y.to, r.addr = a' by
  obtain ⟨y, hy, f1, r, hr, f2⟩ := hs
  rw [← f1, ← f2]
  exact (Fq hok hy hr).1
 show ∃ y ∈ Wk s.items i k, y.id = n' ∧ ∃ r ∈ y.to, r.addr = a'
 have hx2 := hx
 rw [Qm hil] at hx2
 have hout : x ∈ s.items.take i ++ s.items.drop (i + 1) → ∃ y ∈ Wk s.items i k, y.id = n' ∧ ∃ r ∈ y.to, r.addr = a' := fun hm => by
  refine ⟨x, ?_, e1, r, hr, e2⟩
  unfold Wk
  split
  ·exact hm
  ·rcases List.mem_append.1 hm with hm | hm
   ·exact List.mem_append_left _ hm
   ·exact List.mem_append_right _ (List.mem_cons_of_mem _ hm)
 rcases List.mem_append.1 hx2 with hm | hm
 ·exact hout (List.mem_append_left _ hm)
 ·rcases List.mem_cons.1 hm with hm | hm
  ·rw [hX] at hm
   subst hm
   have hr2 := hr
   rw [Qm (xs := (Ai s n).to) (i := k) (by rw [← hX]; exact hkl)] at hr2
   have hin : r ∈ (IJ (Ai s n) k).to := by
    show r ∈ (Ai s n).to.take k ++ (Ai s n).to.drop (k + 1)
    rcases List.mem_append.1 hr2 with hm | hm
    ·exact List.mem_append_left _ hm
    ·rcases List.mem_cons.1 hm with hm | hm
     ·exact absurd ⟨ei.symm.trans e1, by rw [← e2, hm]; exact ek.symm⟩ ne
     ·exact List.mem_append_right _ hm
   refine ⟨IJ (Ai s n) k, ?_, e1, r, hin, e2⟩
   unfold Wk
   rw [hX, if_neg (fun e => by rw [e] at hin; cases hin)]
   exact List.mem_append_right _ (by simp)
  ·exact hout (List.mem_append_right _ hm)
theorem JU : ∀ a b : List UInt8, Lib.compareBytes b a = - Lib.compareBytes a b
 | [], [] => by simp [Lib.compareBytes]
 | [], _ :: _ => by simp [Lib.compareBytes]
 | _ :: _, [] => by simp [Lib.compareBytes]
 | a :: x, b :: y => by
   have ih := JU x y
   simp only [Lib.compareBytes]
   by_cases h1 : a < b
   ·have h2 : ¬ b < a := fun h => absurd (UInt8.lt_trans h1 h) (UInt8.lt_irrefl _)
    simp [h1, h2]
   ·by_cases h2 : b < a
    ·simp [h1, h2]
    ·simp [h1, h2, ih]
theorem IH : ∀ a b c : List UInt8, Lib.compareBytes a b < 0 → Lib.compareBytes b c < 0 → Lib.compareBytes a c < 0
 | [], b, [], h1, h2 => by
   have := JU [] b
   rw [this] at h2; omega
 | [], _, _ :: _, _, _ => by simp [Lib.compareBytes]
 | _ :: _, [], _, h1, _ => by simp [Lib.compareBytes] at h1
 | _ :: _, _ :: _, [], _, h2 => by simp [Lib.compareBytes] at h2
 | a :: x, b :: y, c :: z, h1, h2 => by
   have ih := IH x y z
   simp only [Lib.compareBytes] at h1 h2 ⊢
   by_cases e1 : a < b
   ·by_cases e2 : b < c
    ·rw [if_pos (UInt8.lt_trans e1 e2)]; decide
    ·rw [if_neg e2] at h2
     split at h2
     ·omega
     ·have : b = c := UInt8.le_antisymm (UInt8.not_lt.1 (by assumption)) (UInt8.not_lt.1 e2)
      rw [← this, if_pos e1]; decide
   ·rw [if_neg e1] at h1
    split at h1
    ·omega
    ·have e3 : a = b := UInt8.le_antisymm (UInt8.not_lt.1 (by assumption)) (UInt8.not_lt.1 e1)
     subst e3
     split
     ·decide
     ·rename_i q
      rw [if_neg q] at h2
      split at h2
      ·omega
      ·rename_i q2
       rw [if_neg q2]
       exact ih h1 h2
theorem cG (a b : Ad) : JS b a = - JS a b := by
 unfold JS Ed
 rw [JU (bl a.domain) (bl b.domain), JU (bl a.user) (bl b.user)]
 by_cases h : Lib.compareBytes (bl a.domain) (bl b.domain) = 0
 ·rw [if_pos h, if_pos (by omega)]
 ·rw [if_neg h, if_neg (by omega)]
theorem Lk {a b c : Ad} (h1 : JS a b < 0) (h2 : JS b c < 0) : JS a c < 0 := by
 unfold JS at *
 by_cases e1 : Ed a.domain b.domain = 0
 ·have f1 := (Gr _ _).1 e1
  rw [if_pos e1] at h1
  rw [f1]
  by_cases e2 : Ed b.domain c.domain = 0
  ·rw [if_pos e2] at h2 ⊢
   exact IH _ _ _ h1 h2
  ·rw [if_neg e2] at h2 ⊢
   exact h2
 ·rw [if_neg e1] at h1
  by_cases e2 : Ed b.domain c.domain = 0
  ·have f2 := (Gr _ _).1 e2
   rw [← f2, if_neg e1]
   exact h1
  ·rw [if_neg e2] at h2
   have h3 : Ed a.domain c.domain < 0 := IH _ _ _ h1 h2
   rw [if_neg (by omega)]
   exact h3
def Jp (bs : List Bx) : Prop := bs.Pairwise fun b c => JS b.addr c.addr < 0
theorem QI {bs : List Bx} (h : Jp bs) (a : Ad) : rS bs a := fun j h1 h2 hb => by
 have h3 : kS bs a < bs.length := by omega
 have h4 := T8 a bs h3
 by_cases e : j = kS bs a
 ·rw [e] at hb; exact h4 hb
 ·have h5 := List.pairwise_iff_getElem.1 h (kS bs a) j h3 h2 (by omega)
  have g1 : bs.getD (kS bs a) default = bs[kS bs a] := by simp [h3]
  have g2 : bs.getD j default = bs[j] := by simp [h2]
  rw [g1] at h4
  rw [g2] at hb
  exact h4 (Lk h5 hb)
theorem J2 {bs : List Bx} {a : Ad} {g : Gm} (h : Jp bs) : Jp (Eb bs a g) := by
 cases hf : GM bs a
 ·rw [Fy hf]
  have hp := QI h a
  have hb : Jp (bs.take (kS bs a) ++ bs.drop (kS bs a)) := by rw [List.take_append_drop]; exact h
  obtain ⟨p1, p2, p3⟩ := List.pairwise_append.1 hb
  have lo : ∀ b ∈ bs.take (kS bs a), JS b.addr a < 0 := fun b hm => by
   obtain ⟨j, hj, rfl⟩ := List.getElem_of_mem hm
   rw [List.length_take] at hj
   have := ZK a bs (j := j) (by omega)
   rw [List.getElem_take]
   simpa [show j < bs.length by omega] using this
  have hi : ∀ b ∈ bs.drop (kS bs a), JS a b.addr < 0 := fun b hm => by
   obtain ⟨j, hj, rfl⟩ := List.getElem_of_mem hm
   rw [List.length_drop] at hj
   have hk : kS bs a < bs.length := by omega
   have n1 := hp (kS bs a + j) (by omega) (by omega)
   have g2 : bs.getD (kS bs a + j) default = bs[kS bs a + j] := by simp [show kS bs a + j < bs.length by omega]
   rw [g2] at n1
   rw [List.getElem_drop]
   have n2 := cG a (bs[kS bs a + j]).addr
   by_cases z : JS (bs[kS bs a + j]).addr a = 0
   ·exfalso
    by_cases hj0 : j = 0
    ·subst hj0
     unfold GM at hf
     simp only [Bool.and_eq_false_iff, decide_eq_false_iff_not] at hf
     rcases hf with hf | hf
     ·exact hf hk
     ·exact hf (by rw [← z]; simp [hk])
    ·have h5 := List.pairwise_iff_getElem.1 h (kS bs a) (kS bs a + j) hk (by omega) (by omega)
     have e := (Xh _ _).1 z
     rw [e] at h5
     have n3 := T8 a bs hk
     have g1 : bs.getD (kS bs a) default = bs[kS bs a] := by simp [hk]
     rw [g1] at n3
     exact n3 h5
   ·omega
  exact List.pairwise_append.2 ⟨p1, List.pairwise_cons.2 ⟨hi, p2⟩, fun b hb c hc => by
   rcases List.mem_cons.1 hc with rfl | hc
   ·exact lo b hb
   ·exact p3 b hb c hc⟩
 ·rw [HT hf]
  have hlt := M3 hf
  have h' : (bs.map Bx.addr).Pairwise fun x y => JS x y < 0 := List.pairwise_map.2 h
  have e : (bs.set (kS bs a) ⟨(bs.getD (kS bs a) default).addr, (bs.getD (kS bs a) default).mails ++ [g]⟩).map Bx.addr = bs.map Bx.addr := by
   rw [List.map_set]
   have : (⟨(bs.getD (kS bs a) default).addr, (bs.getD (kS bs a) default).mails ++ [g]⟩ : Bx).addr = (bs.map Bx.addr)[kS bs a]'(by rw [lm]; exact hlt) := by
    rw [List.getElem_map]
    show (bs.getD (kS bs a) default).addr = _
    simp [hlt]
   rw [this, List.set_getElem_self]
  exact List.pairwise_map.1 (e ▸ h')
theorem OE {bs : List Bx} (h : ∀ j, 0 < j → j < bs.length → XO (bs.getD (j - 1) default).addr (bs.getD j default).addr) : Jp bs := by
 refine List.pairwise_iff_getElem.2 fun i j hi hj hij => ?_
 induction j with
 | zero => omega
 | succ j ih =>
   have h1 := (IC _ _).2 (h (j + 1) (by omega) hj)
   simp only [Nat.add_sub_cancel, List.getD_eq_getElem?_getD, List.getElem?_eq_getElem hj, List.getElem?_eq_getElem (show j < bs.length by omega), Option.getD_some] at h1
   by_cases e : i = j
   ·subst e; exact h1
   ·exact Lk (ih (by omega) (by omega)) h1
theorem Li (bs : List Bx) (a : Ad) (g : Gm) : (Eb bs a g).length ≤ bs.length + 1 := by
 have := ZJ a bs
 cases hf : GM bs a
 ·rw [Fy hf]; simp only [List.length_append, List.length_take, List.length_cons, List.length_drop]; omega
 ·rw [HT hf, List.length_set]; omega
theorem Ig {bs : List Bx} {a : Ad} {g : Gm} {M : Nat} (h : ∀ b ∈ bs, b.mails.length ≤ M) : ∀ b ∈ Eb bs a g, b.mails.length ≤ M + 1 := fun b hb => by
 cases hf : GM bs a
 ·rw [Fy hf] at hb
  rcases List.mem_append.1 hb with hb | hb
  ·have := h b (List.mem_of_mem_take hb); omega
  ·rcases List.mem_cons.1 hb with hb | hb
   ·rw [hb]; show 1 ≤ M + 1; omega
   ·have := h b (List.mem_of_mem_drop hb); omega
 ·rw [HT hf] at hb
  rcases List.mem_or_eq_of_mem_set hb with hb | hb
  ·have := h b hb; omega
  ·rw [hb]
   have := h _ (AE (M3 hf))
   show (_ ++ [g]).length ≤ _
   rw [List.length_append, List.length_singleton]; omega
noncomputable def Hc (h : Hs) (x : Im) (a : Ad) : Hs := ⟨h.conf, (Se h.spool x.id a).1, Eb h.boxes a ⟨x.frm, x.body⟩, h.lost⟩
noncomputable def KR (x : Im) : List Ad → Hs → Hs
 | [], h => h
 | a :: r, h => KR x r (Hc h x a)
noncomputable def EG (c : Cf) (w : Int) : List Im → Hs → Hs
 | [], h => h
 | x :: t, h => EG c w t (KR x (Af c ⟨#[]⟩ w x.to) h)
noncomputable def Rf (c : Cf) (w : Int) (x : Im) (rs : List Rc) : List (Int × Ad) := (Af c ⟨#[]⟩ w rs).map fun a => (x.id, a)
noncomputable def Gh (c : Cf) (w : Int) : List Im → List (Int × Ad)
 | [] => []
 | x :: t => Rf c w x x.to ++ Gh c w t
structure Kp (c : Cf) (g : Hs) (R : List (Int × Ad)) : Prop where
 cf : g.conf = c
 sp : CO g.spool
 os : GI g.spool
 so : Jp g.boxes
 td : ∀ p ∈ R, Ch g.spool p.1 p.2
 nd : R.Nodup
 b1 : g.boxes.length + R.length ≤ 3000000
 b2 : ∀ b ∈ g.boxes, b.mails.length + R.length ≤ 3000000
theorem Kp.done {c : Cf} {g : Hs} {x : Im} {a : Ad} {R : List (Int × Ad)} (h : Kp c g ((x.id, a) :: R)) : Se g.spool x.id a = (DJ g.spool (Ax g.spool x.id).toNat (B3 (Ai g.spool x.id) a).toNat, true) :=
 bm h.sp (h.td (x.id, a) (by simp)).1 (h.td (x.id, a) (by simp)).2
theorem Kp.step {c : Cf} {g : Hs} {x : Im} {a : Ad} {R : List (Int × Ad)} (h : Kp c g ((x.id, a) :: R)) : Kp c (Hc g x a) R := by
 have q : Ch g.spool x.id a := h.td (x.id, a) (by simp)
 have i1 := Bg q.1
 have k1 := HR q.2
 have hD := h.done
 have hil : (Ax g.spool x.id).toNat < g.spool.items.length := by omega
 have hkl : (B3 (Ai g.spool x.id) a).toNat < (g.spool.items.getD (Ax g.spool x.id).toNat default).to.length := by
  show _ < (Ai g.spool x.id).to.length
  omega
 have hs : (Hc g x a).spool = DJ g.spool (Ax g.spool x.id).toNat (B3 (Ai g.spool x.id) a).toNat := by unfold Hc; rw [hD]
 have hb1 := h.b1
 rw [List.length_cons] at hb1
 refine ⟨h.cf, by rw [hs]; exact Ee h.sp hil hkl, by rw [hs]; exact Tq h.os hil, J2 h.so, fun p hp => ?_, (List.nodup_cons.1 h.nd).2, ?_, fun b hb => ?_⟩
 ·rw [hs]
  refine Sf h.sp q (h.td p (List.mem_cons_of_mem _ hp)) fun e => (List.nodup_cons.1 h.nd).1 ?_
  obtain ⟨p1, p2⟩ := p
  rw [e.1, e.2]; exact hp
 ·have := Li g.boxes a ⟨x.frm, x.body⟩
  show (Eb _ _ _).length + _ ≤ _
  omega
 ·have := Ig (M := 3000000 - (R.length + 1)) (g := ⟨x.frm, x.body⟩) (a := a) (fun b hb => by have := h.b2 b hb; rw [List.length_cons] at this; omega) b hb
  omega
theorem tW {c : Cf} {w : Int} {x : Im} {rs : List Rc} {i : Nat} (h : i < rs.length) (hn : HF c ⟨#[]⟩ w (rs.getD i default)) : Rf c w x (rs.drop i) = (x.id, (rs.getD i default).addr) :: Rf c w x (rs.drop (i + 1)) := by
 unfold Rf; rw [Kh h hn]; rfl
theorem tV {c : Cf} {w : Int} {x : Im} {rs : List Rc} {i : Nat} (h : i < rs.length) (hn : ¬ HF c ⟨#[]⟩ w (rs.getD i default)) : Rf c w x (rs.drop i) = Rf c w x (rs.drop (i + 1)) := by
 unfold Rf; rw [NP h hn]
theorem fx {c : Cf} {w : Int} {x : Im} {rs : List Rc} {i : Nat} (h : rs.length ≤ i) : Rf c w x (rs.drop i) = [] := by
 unfold Rf; rw [Hk h]; rfl
theorem VR {c : Cf} {w : Int} {xs : List Im} {i : Nat} (h : i < xs.length) : Gh c w (xs.drop i) = Rf c w (xs.getD i default) (xs.getD i default).to ++ Gh c w (xs.drop (i + 1)) := by
 rw [Ae h]; rfl
theorem RE {c : Cf} {w : Int} {xs : List Im} {i : Nat} {g : Hs} (h : i < xs.length) : EG c w (xs.drop i) g = EG c w (xs.drop (i + 1)) (KR (xs.getD i default) (Af c ⟨#[]⟩ w (xs.getD i default).to) g) := by
 rw [Ae h]; rfl
theorem Kg (c : Cf) (w : Int) : ∀ rs : List Rc, List.Sublist (Af c ⟨#[]⟩ w rs) (rs.map Rc.addr)
 | [] => .slnil
 | r :: t => by
   rw [Af]
   cases BL (HF c ⟨#[]⟩ w r)
   ·exact .cons _ (Kg c w t)
   ·exact .cons_cons _ (Kg c w t)
theorem Jv {c : Cf} {w : Int} : ∀ {xs : List Im} {p : Int × Ad}, p ∈ Gh c w xs → ∃ x ∈ xs, p.1 = x.id ∧ ∃ r ∈ x.to, r.addr = p.2
 | x :: t, p, h => by
   rw [Gh] at h
   rcases List.mem_append.1 h with h | h
   ·unfold Rf at h
    obtain ⟨a, ha, rfl⟩ := List.mem_map.1 h
    obtain ⟨r, hr, e, _⟩ := DO c ⟨#[]⟩ w _ a ha
    exact ⟨x, by simp, rfl, r, hr, e⟩
   ·obtain ⟨y, hy, q⟩ := Jv h
    exact ⟨y, by simp [hy], q⟩
theorem Jw {c : Cf} {w : Int} : ∀ {xs : List Im}, (xs.map Im.id).Pairwise (· < ·) → (∀ x ∈ xs, (x.to.map Rc.addr).Nodup) → (Gh c w xs).Nodup
 | [], _, _ => List.nodup_nil
 | x :: t, h1, h2 => by
   rw [List.map_cons, List.pairwise_cons] at h1
   rw [Gh]
   refine List.nodup_append.2 ⟨?_, Jw h1.2 fun y hy => h2 y (by simp [hy]), fun p hp q hq e => ?_⟩
   ·unfold Rf
    have h3 := (Kg c w x.to).nodup (h2 x (by simp))
    exact List.pairwise_map.2 (h3.imp fun {a b} ne e => ne (by injection e))
   ·subst e
    unfold Rf at hp
    obtain ⟨a, _, rfl⟩ := List.mem_map.1 hp
    obtain ⟨y, hy, e, _⟩ := Jv hq
    have := h1.1 y.id (List.mem_map_of_mem hy)
    have e : x.id = y.id := e
    omega
theorem OI {c : Cf} {w : Int} : ∀ {xs : List Im}, (∀ x ∈ xs, x.to.length ≤ 4) → (Gh c w xs).length ≤ 4 * xs.length
 | [], _ => by simp [Gh]
 | x :: t, h => by
   rw [Gh, List.length_append, List.length_cons]
   have h1 := OI (c := c) (w := w) fun y hy => h y (List.mem_cons_of_mem x hy)
   have h2 := El c ⟨#[]⟩ w x.to
   have h3 := h x (by simp)
   have h4 : (Rf c w x x.to).length = (Af c ⟨#[]⟩ w x.to).length := lm _
   omega
theorem Nx {h : Hs} {w : Int} (q : EL h) (ok : GG h) : Kp h.conf h (Gh h.conf w h.spool.items) := by
 obtain ⟨q1, q2, q3⟩ := q
 have hl := OI (c := h.conf) (w := w) (xs := h.spool.items) fun x hx => (q3.1 x hx).1.2.2.2.2.1.2
 have h10 := q3.2.2.2
 have hb := ok.2.2.1
 refine ⟨rfl, q3, ok.2.1, OE fun j h0 hj => (q1 j hj).2.1 h0, fun p hp => ?_, Jw (Ck.1 q3.2.1) fun x hx => (q3.1 x hx).1.2.1, ?_, fun b hbm => ?_⟩
 ·obtain ⟨x, hx, e, r, hr, e2⟩ := Jv hp
  rw [e, ← e2]
  exact (Fq q3 hx hr).1
 ·have : (h.boxes.length : Int) ≤ 1048576 := hb.1
  omega
 ·have : (b.mails.length : Int) ≤ 1048576 := (hb.2 b hbm).2.1
  omega
def l5 : Ct := Aq (lc Ep.ag (lc C3.ag (lc Ia.ag l0))) (fun p => p.1.boxes.length ≤ 3000000 ∧ (∀ b ∈ p.1.boxes, b.mails.length ≤ 3000000) ∧ p.2.2.1.body.length ≤ 3000000) (fun p => .agg ((Al ⟨p.1.conf, p.1.spool, Eb p.1.boxes p.2.1 ⟨p.2.2.1.frm, p.2.2.1.body⟩, p.1.lost⟩).map .t))
section
attribute [local go_sem] rz JC I4 List.take_length List.drop_zero List.length_take List.length_drop lm List.length_append List.length_cons List.length_nil List.map_append List.map_nil List.map_cons List.nil_append Nat.zero_add List.mem_singleton forall_eq Bool.not_true Bool.not_false AU AT AS.opn AS.cls AS.nilb AS.renb AS.up List.set_set List.set_cons_zero List.set_cons_succ List.set_nil
set_option maxHeartbeats 3200000 in
theorem eQ {G : Gt} (hG : Ah G) (hh : G.e 84 = AA 0 rz) : Gd G 189 (AA 1 l5) := by
 refine Nh (dp := fun n => Nat.ble 100000 n) (fn := Tryz.f189) (n := 3) rfl rfl hG ?_
 rintro ⟨h, a, x, ⟨⟩⟩ hpre
 obtain ⟨hl1, hl2, hl3⟩ := hpre
 dsimp only at hl1 hl2 hl3 ⊢
 have hkl := ZJ a h.boxes
 simp -implicitDefEqProofs only [Tryz.f189, go_sem, hh, seval]
 with_reducible repeat' (first | apply ai | intro _ | ((first | apply s1 | apply s3 | apply s4) <;> intro hb <;> simp -implicitDefEqProofs only [hb, go_sem, hh, seval] <;> try simp only [qz] at hb))
 all_goals (try simp only [maxLen] at *)
 all_goals first | with_reducible assumption | rfl | omega | contradiction | decide | skip
 refine AF [] (ι := {i : Nat // i ≤ kS h.boxes a}) (fun p => ⟨[(3, .pb 1003 0), (4, .pb 1004 0), (5, .pb 1005 0), (6, .pb 1006 0), (7, .t (.v (.int .i64 p.1)))], [(1003, some (.box ((Al h).map .t))), (1004, some (.box ((Ao a).map .t))), (1005, some (.box ((Az x).map .t))), (1006, some (.box [.t (.v (.string ⟨#[]⟩)), .nil, .nil, .t (.v (.int .i64 0)), .nil, .nil, .nil]))]⟩) (fun p => kS h.boxes a - p.1) ⟨0, Nat.zero_le _⟩ rfl ?_ ?_
 ·simp -implicitDefEqProofs only [go_sem, hh, seval]
  try simp
 ·rintro ⟨i, hi⟩
  dsimp only at hi ⊢
  by_cases hlt : i < kS h.boxes a
  ·have hil : (i : Int) < h.boxes.length := by omega
   have b1 := Ak ((IC _ _).1 (ZK a h.boxes hlt))
   simp -implicitDefEqProofs only [hil, b1, decide_true, tn, go_sem, hh, seval]
   with_reducible repeat' (first | apply ai | intro _ | ((first | apply s1 | apply s3 | apply s4) <;> intro hb <;> simp -implicitDefEqProofs only [hb, go_sem, hh, seval] <;> try simp only [qz] at hb))
   all_goals (try simp only [maxLen] at *)
   all_goals first | with_reducible assumption | rfl | omega | contradiction | decide | skip
   refine ⟨⟨i + 1, by omega⟩, by dsimp only; omega, ?_⟩
   simp -implicitDefEqProofs only [go_sem, hh, seval]
   try simp
  ·have hk : i = kS h.boxes a := by omega
   have e1 : ((i : Int) + 1).toNat = i + 1 := by omega
   by_cases hil : (i : Int) < h.boxes.length
   ·have hkb : kS h.boxes a < h.boxes.length := by omega
    have b1 := AO (fun z => T8 a h.boxes hkb ((IC _ _).2 z))
    rw [← hk] at b1
    have hml := hl2 _ (AE (xs := h.boxes) (j := i) (by omega))
    by_cases hf : (h.boxes.getD i default).addr = a
    ·have hF : GM h.boxes a = true := by
       unfold GM
       rw [decide_eq_true hkb, ← hk, decide_eq_true ((Xh _ _).2 hf)]; rfl
     have hB : Eb h.boxes a ⟨x.frm, x.body⟩ = h.boxes.set i ⟨(h.boxes.getD i default).addr, (h.boxes.getD i default).mails ++ [⟨x.frm, x.body⟩]⟩ := by rw [HT hF, ← hk]
     rw [hB]
     have he : (false != (decide ((h.boxes.getD i default).addr.user = a.user) && decide ((h.boxes.getD i default).addr.domain = a.domain))) = true := by rw [hf]; simp
     rw [hf]
     simp -implicitDefEqProofs only [hil, b1, he, decide_true, tn, e1, go_sem, hh, seval]
     with_reducible repeat' (first | apply ai | intro _ | ((first | apply s1 | apply s3 | apply s4) <;> intro hb <;> simp -implicitDefEqProofs only [hb, go_sem, hh, seval] <;> try simp only [qz] at hb))
     all_goals (try simp only [maxLen, e1, tn, List.take_length, List.drop_zero] at *)
     all_goals first | with_reducible assumption | rfl | omega | contradiction | decide | (refine congrArg (T.sl 3) ?_; first | (simp; done) | (rw [List.set_eq_take_append_cons_drop, if_pos (by omega)]; simp [CZ, Dq]; done)) | skip
    ·have he : (false != (decide ((h.boxes.getD i default).addr.user = a.user) && decide ((h.boxes.getD i default).addr.domain = a.domain))) = false := by
       cases hq : (decide ((h.boxes.getD i default).addr.user = a.user) && decide ((h.boxes.getD i default).addr.domain = a.domain))
       ·rfl
       ·simp only [Bool.and_eq_true, decide_eq_true_eq] at hq
        exact absurd (show (⟨(h.boxes.getD i default).addr.user, (h.boxes.getD i default).addr.domain⟩ : Ad) = a by rw [hq.1, hq.2]) hf
     have hF : GM h.boxes a = false := by
      unfold GM
      rw [decide_eq_true hkb, ← hk, decide_eq_false (fun z => hf ((Xh _ _).1 z))]; rfl
     have hB : Eb h.boxes a ⟨x.frm, x.body⟩ = h.boxes.take i ++ (⟨a, [⟨x.frm, x.body⟩]⟩ :: h.boxes.drop i) := by rw [Fy hF, ← hk]
     rw [hB]
     simp -implicitDefEqProofs only [hil, b1, he, decide_true, tn, e1, go_sem, hh, seval]
     with_reducible repeat' (first | apply ai | intro _ | ((first | apply s1 | apply s3 | apply s4) <;> intro hb <;> simp -implicitDefEqProofs only [hb, go_sem, hh, seval] <;> try simp only [qz] at hb))
     all_goals (try simp only [maxLen, e1, tn, List.take_length, List.drop_zero] at *)
     all_goals first | with_reducible assumption | rfl | omega | contradiction | decide | (refine congrArg (T.sl 3) ?_; first | (simp; done) | (rw [List.set_eq_take_append_cons_drop, if_pos (by omega)]; simp [CZ, Dq]; done)) | skip
   ·have hF : GM h.boxes a = false := by
      unfold GM
      rw [decide_eq_false (by omega)]; rfl
    have hB : Eb h.boxes a ⟨x.frm, x.body⟩ = h.boxes.take i ++ (⟨a, [⟨x.frm, x.body⟩]⟩ :: h.boxes.drop i) := by rw [Fy hF, ← hk]
    rw [hB]
    simp -implicitDefEqProofs only [hil, decide_false, tn, e1, go_sem, hh, seval]
    with_reducible repeat' (first | apply ai | intro _ | ((first | apply s1 | apply s3 | apply s4) <;> intro hb <;> simp -implicitDefEqProofs only [hb, go_sem, hh, seval] <;> try simp only [qz] at hb))
    all_goals (try simp only [maxLen, e1, tn, List.take_length, List.drop_zero] at *)
    all_goals first | with_reducible assumption | rfl | omega | contradiction | decide | (refine congrArg (T.sl 3) ?_; simp; done) | skip
end
theorem aC {g : Hs} {x : Im} {a : Ad} {w : Int} {R : List (Int × Ad)} (h : Kp g.conf g ((x.id, a) :: R)) : Cb ⟨g.conf, g.spool, Eb g.boxes a ⟨x.frm, x.body⟩, g.lost⟩ (Ax g.spool x.id).toNat (B3 (Ai g.spool x.id) a).toNat a 2 w = Hc g x a := by
 unfold Cb
 rw [if_pos rfl]
 unfold Hc
 rw [h.done]
def cM : Ct := Aq (lc Ep.ag (lc BI l0)) (fun p => EL p.1 ∧ GG p.1) (fun p => .agg ((Al (EG p.1.conf p.2.1 p.1.spool.items p.1)).map .t))
section
attribute [local go_sem] sA l5 Qh JC I4 List.take_length List.drop_zero List.length_take List.length_drop lm List.length_append List.length_cons List.length_nil List.map_append List.map_nil List.map_cons List.nil_append Nat.zero_add List.mem_singleton forall_eq Bool.not_true Bool.not_false AU AT AS.opn AS.cls AS.nilb AS.renb AS.up List.set_set List.set_cons_zero List.set_cons_succ List.set_nil
set_option maxHeartbeats 6400000 in
theorem eD {G : Gt} (hG : Ah G) (hh : G.e 90 = AA 0 sA ∧ G.e 189 = AA 1 l5 ∧ G.e 187 = AA 1 Qh) : Gd G 171 (AA 1 cM) := by
 refine Nh (dp := fun n => Nat.ble 100000 n) (fn := Tryz.f171) (n := 2) rfl rfl hG ?_
 rintro ⟨h, w, ⟨⟩⟩ hpre
 obtain ⟨hq, hok⟩ := hpre
 dsimp only at hq hok ⊢
 have hmx : (h.spool.items.length : Int) ≤ 1048576 := hok.2.1.1
 simp -implicitDefEqProofs only [Tryz.f171, go_sem, hh, seval]
 with_reducible repeat' (first | apply ai | intro _ | ((first | apply s1 | apply s3 | apply s4) <;> intro hb <;> simp -implicitDefEqProofs only [hb, go_sem, hh, seval] <;> try simp only [qz] at hb))
 all_goals (try simp only [maxLen] at *)
 all_goals first | with_reducible assumption | rfl | omega | contradiction | decide | skip
 refine AF [] (ι := {p : Nat × Hs // p.1 ≤ h.spool.items.length ∧ Kp h.conf p.2 (Gh h.conf w (h.spool.items.drop p.1)) ∧ EG h.conf w h.spool.items h = EG h.conf w (h.spool.items.drop p.1) p.2}) (fun p => ⟨[(1, .t (.v (.int .i64 w))), (2, .pb 1002 0), (4, .pb 1004 0), (5, .t (.sl 5 (h.spool.items.map Az))), (6, .t (.v (.int .i64 p.1.1)))], [(1002, some (.box ((Al p.1.2).map .t))), (1004, some (.box [.t (.v (.string ⟨#[]⟩)), .nil, .nil, .t (.v (.int .i64 0)), .nil, .nil, .nil]))]⟩) (fun p => h.spool.items.length - p.1.1) ⟨(0, h), Nat.zero_le _, Nx hq hok, rfl⟩ rfl ?_ ?_
 ·simp -implicitDefEqProofs only [go_sem, hh, seval]
  try simp
 ·rintro ⟨⟨i, g⟩, hi, hK, he⟩
  dsimp only at hi hK he ⊢
  by_cases hlt : (i : Int) < h.spool.items.length
  ·have hil : i < h.spool.items.length := by omega
   obtain ⟨x, hx⟩ : ∃ x, x = h.spool.items.getD i default := ⟨_, rfl⟩
   have hxo := hok.2.1.2 _ (AE hil)
   rw [← hx] at hxo
   have hxl : (x.to.length : Int) ≤ 1048576 := hxo.2.1.1
   have hxb : (x.body.length : Int) ≤ 1048576 := hxo.2.2.1
   rw [VR hil, ← hx] at hK
   rw [RE hil, ← hx] at he
   simp -implicitDefEqProofs only [hlt, decide_true, tn, ← hx, go_sem, hh, seval]
   with_reducible repeat' (first | apply ai | intro _ | ((first | apply s1 | apply s3 | apply s4) <;> intro hb <;> simp -implicitDefEqProofs only [hb, go_sem, hh, seval] <;> try simp only [qz] at hb))
   all_goals (try simp only [maxLen] at *)
   all_goals first | with_reducible assumption | rfl | omega | contradiction | decide | skip
   refine AF [] (ι := {p : Nat × Hs // p.1 ≤ x.to.length ∧ Kp h.conf p.2 (Rf h.conf w x (x.to.drop p.1) ++ Gh h.conf w (h.spool.items.drop (i + 1))) ∧ EG h.conf w h.spool.items h = EG h.conf w (h.spool.items.drop (i + 1)) (KR x (Af h.conf ⟨#[]⟩ w (x.to.drop p.1)) p.2)}) (fun p => ⟨[(1, .t (.v (.int .i64 w))), (2, .pb 1002 0), (4, .pb 1004 0), (5, .t (.sl 5 (h.spool.items.map Az))), (6, .t (.v (.int .i64 i))), (7, .t (.v (.int .i64 p.1.1)))], [(1002, some (.box ((Al p.1.2).map .t))), (1004, some (.box [.t (.v (.string ⟨#[]⟩)), .nil, .nil, .t (.v (.int .i64 0)), .nil, .nil, .nil]))]⟩) (fun p => x.to.length - p.1.1) ⟨(0, g), Nat.zero_le _, hK, he⟩ rfl ?_ ?_
   ·simp -implicitDefEqProofs only [go_sem, hh, seval]
    try simp
   ·rintro ⟨⟨k, g⟩, hk, hK, he⟩
    dsimp only at hk hK he ⊢
    by_cases hlk : (k : Int) < x.to.length
    ·have hkl : k < x.to.length := by omega
     have hcf := hK.cf
     by_cases hn : HF h.conf ⟨#[]⟩ w (x.to.getD k default)
     ·have b1 := Ak hn
      rw [← hcf] at b1
      rw [tW hkl hn, List.cons_append] at hK
      rw [Kh hkl hn] at he
      have At := hK.step
      have hbb := hK.b1
      have hbm := hK.b2
      have hos := hK.os
      have hsp := hK.sp
      have htd := hK.td (x.id, (x.to.getD k default).addr) (by simp)
      have hout := aC (w := w) (hcf ▸ hK)
      simp -implicitDefEqProofs only [hlt, hlk, b1, hout, decide_true, tn, ← hx, go_sem, hh, seval]
      with_reducible repeat' (first | apply ai | intro _ | ((first | apply s1 | apply s3 | apply s4) <;> intro hb <;> simp -implicitDefEqProofs only [hb, go_sem, hh, seval] <;> try simp only [qz] at hb))
      all_goals (try simp only [maxLen] at *)
      all_goals first | with_reducible assumption | rfl | omega | contradiction | decide | exact htd.1 | exact htd.2 | (have := hbm _ (by assumption); omega) | skip
      all_goals first | (refine ⟨⟨(k + 1, Hc g x (x.to.getD k default).addr), by dsimp only; omega, At, he⟩, by dsimp only; omega, ?_⟩) | skip
      all_goals simp -implicitDefEqProofs only [go_sem, hh, seval]
      all_goals (try simp)
     ·have b1 := AO hn
      rw [← hcf] at b1
      rw [tV hkl hn] at hK
      rw [NP hkl hn] at he
      simp -implicitDefEqProofs only [hlt, hlk, b1, decide_true, tn, ← hx, go_sem, hh, seval]
      with_reducible repeat' (first | apply ai | intro _ | ((first | apply s1 | apply s3 | apply s4) <;> intro hb <;> simp -implicitDefEqProofs only [hb, go_sem, hh, seval] <;> try simp only [qz] at hb))
      all_goals (try simp only [maxLen] at *)
      all_goals first | with_reducible assumption | rfl | omega | contradiction | decide | skip
      refine ⟨⟨(k + 1, g), by dsimp only; omega, hK, he⟩, by dsimp only; omega, ?_⟩
      simp -implicitDefEqProofs only [go_sem, hh, seval]
      try simp
    ·rw [fx (by omega), List.nil_append] at hK
     rw [Hk (by omega)] at he
     simp -implicitDefEqProofs only [hlt, hlk, decide_true, decide_false, tn, ← hx, go_sem, hh, seval]
     with_reducible repeat' (first | apply ai | intro _ | ((first | apply s1 | apply s3 | apply s4) <;> intro hb <;> simp -implicitDefEqProofs only [hb, go_sem, hh, seval] <;> try simp only [qz] at hb))
     all_goals (try simp only [maxLen] at *)
     all_goals first | with_reducible assumption | rfl | omega | contradiction | decide | skip
     refine ⟨⟨(i + 1, g), by dsimp only; omega, hK, he⟩, by dsimp only; omega, ?_⟩
     simp -implicitDefEqProofs only [go_sem, hh, seval]
     try simp
  ·have he2 : EG h.conf w h.spool.items h = g := by rw [he, List.drop_eq_nil_of_le (by omega)]; rfl
   simp -implicitDefEqProofs only [hlt, decide_false, he2, go_sem, hh, seval]
   with_reducible repeat' (first | apply ai | intro _ | ((first | apply s1 | apply s3 | apply s4) <;> intro hb <;> simp -implicitDefEqProofs only [hb, go_sem, hh, seval] <;> try simp only [qz] at hb))
   all_goals (try simp only [maxLen] at *)
   all_goals first | with_reducible assumption | rfl | omega | contradiction | decide | skip
end
def EH (c : Cf) : Hs := ⟨c, ⟨0, []⟩, [], []⟩
def FI (cs : List Cf) : Wd := ⟨cs.map EH, 0, 0, []⟩
theorem Zh {c : Cf} (h : Gf c) : GG (EH c) := ⟨h, ⟨by show ((0 : Nat) : Int) ≤ _; decide, fun _ q => by cases q⟩, ⟨by show ((0 : Nat) : Int) ≤ _; decide, fun _ q => by cases q⟩, ⟨by show ((0 : Nat) : Int) ≤ _; decide, fun _ q => by cases q⟩⟩
theorem aq {xs : List Cf} {f : Cf → Hs} {i : Nat} (h : i < xs.length) : ((xs.map f).take (i + 1)).map Al = ((xs.map f).take i).map Al ++ [Al (f (xs.getD i default))] := by
 have e : (xs.map f).getD i default = f (xs.getD i default) := by
  simp only [List.getD_eq_getElem?_getD, List.getElem?_map, List.getElem?_eq_getElem h, Option.map_some, Option.getD_some]
 rw [B2 Al (by rw [lm]; exact h), e]
def CQ (b : UInt8) : List T := [.v (.int .u8 b.toNat)]
def iX : List T → Option UInt8
 | [.v (.int .u8 x)] => if 0 ≤ x ∧ x < 256 then some (UInt8.ofNat x.toNat) else none
 | _ => none
def LB : Er UInt8 where
 enc := CQ
 dec := iX
 n := 1
 ed := fun b => by
  have := b.toNat_lt
  show (if 0 ≤ ((b.toNat : Nat) : Int) ∧ ((b.toNat : Nat) : Int) < 256 then some (UInt8.ofNat ((b.toNat : Nat) : Int).toNat) else none) = some b
  rw [if_pos (by omega), tn, UInt8.ofNat_toNat]
 de := fun c a h => by
  unfold iX at h
  split at h
  ·rename_i x
   split at h
   ·rename_i q
    cases h
    show [T.v (.int .u8 x)] = [T.v (.int .u8 (((UInt8.ofNat x.toNat).toNat : Nat) : Int))]
    have : (UInt8.ofNat x.toNat).toNat = x.toNat := by simp; omega
    rw [this]
    congr 3
    omega
   ·cases h
  ·cases h
 len := fun _ => rfl
theorem Yh (b : UInt8) : CQ b = [.v (.int .u8 b.toNat)] := rfl
theorem bw (xs : List UInt8) (n : Int) (s : AS) (K : Kt) : Eu 1 (xs.map CQ) n s K = (0 ≤ n ∧ n < xs.length ∧ K (.t (.rop (CQ (xs.getD n.toNat default)))) s) := BY CQ xs 1 n s K fun _ => rfl
theorem JQ : LB.enc = CQ := rfl
theorem R7 : LB.n = 1 := rfl
theorem BC (xs : List UInt8) : LB.decL (xs.map CQ) = some xs := LB.decL_map xs
theorem M9 (xs : List UInt8) : (∀ c ∈ xs.map CQ, c.length = 1) = True := eq_true fun c hc => by
 obtain ⟨a, _, rfl⟩ := List.mem_map.1 hc; rfl
structure Rd where
 b : List UInt8
 p : Int
def jk : AV → Option Rd
 | .ob [.t (.sl 1 es), .t (.v (.int .i64 p))] => (LB.decL es).map fun b => ⟨b, p⟩
 | _ => none
def D2 : AD Rd where
 enc r := .ob [.t (.sl 1 (r.b.map CQ)), .t (.v (.int .i64 r.p))]
 dec := jk
 ed := fun r => by
  show (LB.decL (r.b.map CQ)).map _ = some r
  rw [BC]; rfl
 de := fun x r h => by
  unfold jk at h
  split at h
  ·rename_i es p
   cases hd : LB.decL es with
   | none => rw [hd] at h; cases h
   | some b =>
     rw [hd] at h; cases h
     rw [show es = b.map CQ from LB.decL_inv hd]
  ·cases h
theorem A1 (r : Rd) : D2.enc r = .ob [.t (.sl 1 (r.b.map CQ)), .t (.v (.int .i64 r.p))] := rfl
theorem A4 {es : List (List T)} {p : Int} : D2.dec (.ob [.t (.sl 1 es), .t (.v (.int .i64 p))]) = (LB.decL es).map fun b => ⟨b, p⟩ := rfl
theorem gX {n : Int} (h : 0 ≤ n) (h1 : n < 9223372036854775808) : IntKind.wrap .i64 n = n := by
 have e : IntKind.wrap .i64 n = if ((true && decide (n % 18446744073709551616 ≥ 9223372036854775808)) = true) then n % 18446744073709551616 - 18446744073709551616 else n % 18446744073709551616 := rfl
 rw [e, if_neg (by simp; omega)]
 omega
theorem rC {x y : Int} (h : 0 ≤ x) (h1 : x < 9223372036854775808) (k : 0 ≤ y) (k1 : y < 9223372036854775808) : 0 ≤ bits .xor .i64 x y := by
 have e : bits .xor .i64 x y = IntKind.wrap .i64 (((BitVec.ofInt 64 x ^^^ BitVec.ofInt 64 y).toNat : Nat) : Int) := rfl
 rw [e, BitVec.toNat_xor, BitVec.toNat_ofInt, BitVec.toNat_ofInt]
 have q : ((x % ((2 ^ 64 : Nat) : Int)).toNat ^^^ (y % ((2 ^ 64 : Nat) : Int)).toNat) < 2 ^ 63 := Nat.xor_lt_two_pow (by omega) (by omega)
 have q2 := Int.ofNat_lt.2 q
 rw [gX (Int.natCast_nonneg _) q2]
 exact Int.natCast_nonneg _
def bO (b : List UInt8) (k : Int) : Int := (((b.getD k.toNat default).toNat : Nat) : Int)
theorem OU (b : List UInt8) (k : Int) : 0 ≤ bO b k ∧ bO b k ≤ 255 := by
 have := (b.getD k.toNat default).toNat_lt
 unfold bO; omega
theorem rl (b : List UInt8) (k : Int) : (((b.getD k.toNat default).toNat : Nat) : Int) = bO b k := rfl
def LO (b : List UInt8) (k : Int) : Int := bO b (k % b.length) * 131 + bO b ((k * 7 + 3) % b.length) * 1117 + k * 29 + k / b.length * 53
theorem pn (b : List UInt8) (k : Int) : bO b (k % b.length) * 131 + bO b ((k * 7 + 3) % b.length) * 1117 + k * 29 + k / b.length * 53 = LO b k := rfl
def Ac (r : Rd) (n : Int) : Int := if n < 1 ∨ (r.b.length : Int) = 0 then 0 else if r.p < r.b.length then bO r.b r.p % n else bits .xor .i64 (LO r.b r.p) (LO r.b r.p / 64) % n
theorem YZ {k l : Int} (h : 0 ≤ k) (hl : 0 < l) : 0 ≤ k / l ∧ k / l ≤ k := ⟨Int.ediv_nonneg h (by omega), Int.ediv_le_self _ h⟩
theorem pm {b : List UInt8} {k : Int} (h : 0 ≤ k) (h1 : k ≤ 1000000000) (h2 : ¬ (b.length : Int) = 0) : 0 ≤ LO b k ∧ LO b k ≤ 1000000000000 := by
 have q1 := OU b (k % b.length)
 have q2 := OU b ((k * 7 + 3) % b.length)
 have q3 := YZ (l := b.length) h (by omega)
 unfold LO
 omega
theorem Bd {r : Rd} {n : Int} (h : 0 ≤ r.p) (h1 : r.p ≤ 1000000000) : 0 ≤ Ac r n ∧ (1 ≤ n → Ac r n < n) := by
 unfold Ac
 split
 ·omega
 ·rename_i q
  split
  ·exact ⟨Int.emod_nonneg _ (by omega), fun _ => Int.emod_lt_of_pos _ (by omega)⟩
  ·exact ⟨Int.emod_nonneg _ (by omega), fun _ => Int.emod_lt_of_pos _ (by omega)⟩
theorem jr {r : Rd} {n : Int} (h : n < 1 ∨ (r.b.length : Int) = 0) : Ac r n = 0 := if_pos h
theorem tP {r : Rd} {n : Int} (h0 : ¬ n < 1) (h : ¬ (r.b.length : Int) = 0) (h1 : r.p < r.b.length) : bO r.b r.p % n = Ac r n := by
 unfold Ac; rw [if_neg (by omega), if_pos h1]
theorem tQ {r : Rd} {n : Int} (h0 : ¬ n < 1) (h : ¬ (r.b.length : Int) = 0) (h1 : ¬ r.p < r.b.length) : bits .xor .i64 (LO r.b r.p) (LO r.b r.p / 64) % n = Ac r n := by
 unfold Ac; rw [if_neg (by omega), if_neg h1]
def Rd.nx (r : Rd) (k : Int) : Rd := ⟨r.b, r.p + k⟩
theorem AK (r : Rd) (k : Int) : (r.nx k).p = r.p + k := rfl
theorem Bf (r : Rd) (k : Int) : (r.nx k).b = r.b := rfl
theorem CD (r : Rd) (k : Int) : (⟨r.b, r.p + k⟩ : Rd) = r.nx k := rfl
theorem wO {x y : Int} (h : x = y) : T.v (.int .i64 x) = T.v (.int .i64 y) := by rw [h]
def GL : Mt := Gu (lc D2 (lc BI l0)) (fun p => 0 ≤ p.1.p ∧ p.1.p ≤ 1000000000) (fun p => ([D2.enc (p.1.nx 1), BI.enc p.2.1], .t (.v (.int .i64 (Ac p.1 p.2.1)))))
section
attribute [local go_sem] AK Bf A1 A4 BC Yh bw JQ R7 M9 lm Int.add_sub_cancel rl pn AS.opn AS.cls AS.nilb AS.renb AS.up Bool.not_false Bool.not_true List.set_set List.set_cons_zero List.set_cons_succ List.set_nil List.mem_singleton forall_eq
set_option maxHeartbeats 1600000 in
theorem og {G : Gt} (hG : Ah G) : Gd G 53 (AN GL) := by
 refine I5 (dp := fun _ => true) (fn := Tryz.f53) (n := 2) rfl rfl hG ?_
 rintro ⟨r, n, ⟨⟩⟩ hpre
 simp -implicitDefEqProofs only [Tryz.f53, go_sem, seval] at hpre ⊢
 obtain ⟨h1, h2⟩ := hpre
 try dsimp only at h1 h2
 have g1 := OU r.b r.p
 have g2 := OU r.b (r.p % r.b.length)
 have g3 := OU r.b ((r.p * 7 + 3) % r.b.length)
 by_cases h0 : (r.b.length : Int) = 0
 ·with_reducible repeat' (first | apply ai | intro _ | ((first | apply s1 | apply s3 | apply s4) <;> intro hb <;> simp -implicitDefEqProofs only [hb, go_sem, seval] <;> try simp only [qz] at hb))
  all_goals (try simp only [maxLen, tn] at *)
  all_goals first | rfl | omega | (rw [jr (by omega)]; done) | contradiction
 ·have g4 := YZ (l := r.b.length) h1 (by omega)
  have g5 := pm h1 h2 h0
  have g6 := Int.emod_nonneg r.p h0
  have g7 := Int.emod_lt_of_pos r.p (b := r.b.length) (by omega)
  have g8 := Int.emod_nonneg (r.p * 7 + 3) h0
  have g9 := Int.emod_lt_of_pos (r.p * 7 + 3) (b := r.b.length) (by omega)
  have gx := YZ (l := 64) g5.1 (by decide)
  have gy := rC (x := LO r.b r.p) (y := LO r.b r.p / 64) g5.1 (by omega) gx.1 (by omega)
  with_reducible repeat' (first | apply ai | intro _ | ((first | apply s1 | apply s3 | apply s4) <;> intro hb <;> simp -implicitDefEqProofs only [hb, go_sem, seval] <;> try simp only [qz] at hb))
  all_goals (try simp only [maxLen, tn] at *)
  all_goals first | rfl | omega | (rw [jr (by omega)]; done) | with_reducible exact wO (tP (by assumption) (by assumption) (by assumption)) | with_reducible exact wO (tQ (by assumption) (by assumption) (by assumption)) | contradiction
end
theorem Gn {x0 x1 x2 x3 : T} : Bk 1 4 [x0, x1, x2, x3] = [[x0], [x1], [x2], [x3]] := rfl
theorem Gp {x0 x1 x2 x3 x4 : T} : Bk 1 5 [x0, x1, x2, x3, x4] = [[x0], [x1], [x2], [x3], [x4]] := rfl
theorem Gq {x0 x1 x2 x3 x4 x5 x6 : T} : Bk 1 7 [x0, x1, x2, x3, x4, x5, x6] = [[x0], [x1], [x2], [x3], [x4], [x5], [x6]] := rfl
theorem Dm {x0 x1 x2 x3 x4 x5 x6 x7 x8 x9 x10 : T} : Bk 1 11 [x0, x1, x2, x3, x4, x5, x6, x7, x8, x9, x10] = [[x0], [x1], [x2], [x3], [x4], [x5], [x6], [x7], [x8], [x9], [x10]] := rfl
theorem Dn {x0 x1 x2 x3 x4 x5 x6 x7 x8 x9 x10 x11 : T} : Bk 1 12 [x0, x1, x2, x3, x4, x5, x6, x7, x8, x9, x10, x11] = [[x0], [x1], [x2], [x3], [x4], [x5], [x6], [x7], [x8], [x9], [x10], [x11]] := rfl
theorem BS (r : Rd) (a b : Int) : (r.nx a).nx b = r.nx (a + b) := by unfold Rd.nx; simp only [Int.add_assoc]
theorem BQ (r : Rd) : (⟨r.b, r.p⟩ : Rd) = r := rfl
theorem BT (r : Rd) (a b : Int) : r.p + a + b = r.p + (a + b) := Int.add_assoc _ _ _
theorem E5 {a : ByteArray} {t : List (List T)} : An.decL ([.v (.string a)] :: t) = (An.decL t).map (a :: ·) := by
 show A8 An.dec _ = (A8 An.dec t).map _
 simp only [A8, Jj]
 cases A8 An.dec t <;> rfl
theorem E4 {a : Int} {t : List (List T)} : Dj.decL ([.v (.int .i64 a)] :: t) = (Dj.decL t).map (a :: ·) := by
 show A8 Dj.dec _ = (A8 Dj.dec t).map _
 simp only [A8, Jh]
 cases A8 Dj.dec t <;> rfl
def L7 (r : Rd) (l : List ByteArray) : ByteArray := l.getD (Ac r l.length).toNat default
def Gb (r : Rd) (l : List Int) : Int := l.getD (Ac r l.length).toNat default
theorem F7 {r : Rd} {l : List ByteArray} (h : 0 ≤ r.p) (h1 : r.p ≤ 1000000000) (hl : 1 ≤ l.length) : L7 r l ∈ l := by
 have := Bd (n := l.length) h h1
 exact AE (by omega)
theorem JZ {r : Rd} {l : List Int} (h : 0 ≤ r.p) (h1 : r.p ≤ 1000000000) (hl : 1 ≤ l.length) : Gb r l ∈ l := by
 have := Bd (n := l.length) h h1
 exact AE (by omega)
def P7 : Mt := Gu (lc D2 (lc (An.aow true 1) l0)) (fun p => 0 ≤ p.1.p ∧ p.1.p ≤ 1000000000 ∧ 1 ≤ p.2.1.length ∧ p.2.1.length ≤ 1000) (fun p => ([D2.enc (p.1.nx 1), (An.aow true 1).enc p.2.1], .t (.v (.string (L7 p.1 p.2.1)))))
section
attribute [local go_sem] GL AK Bf A1 A4 BC BS CD BQ BT lm List.length_append List.length_cons List.length_nil List.map_append List.map_nil Nat.zero_add List.nil_append AS.opn AS.cls AS.nilb AS.renb AS.up Bool.not_false Bool.not_true List.set_set List.set_cons_zero List.set_cons_succ List.set_nil List.mem_singleton forall_eq AY
set_option maxHeartbeats 800000 in
theorem oG {G : Gt} (hG : Ah G) (hh : G.e 53 = AN GL) : Gd G 30 (AN P7) := by
 refine I5 (dp := fun _ => true) (fn := Tryz.f30) (n := 2) rfl rfl hG ?_
 rintro ⟨r, l, ⟨⟩⟩ hpre
 simp -implicitDefEqProofs only [Tryz.f30, go_sem, hh, Int.reduceAdd, seval] at hpre ⊢
 obtain ⟨h1, h2, h3, h4⟩ := hpre
 try dsimp only at h1 h2 h3 h4
 have hb := Bd (n := l.length) h1 h2
 with_reducible repeat' (first | apply ai | intro _ | ((first | apply s1 | apply s3 | apply s4) <;> intro hb <;> simp -implicitDefEqProofs only [hb, go_sem, hh, Int.reduceAdd, seval] <;> try simp only [qz] at hb))
 all_goals (try simp only [maxLen, tn] at *)
 all_goals first | rfl | omega | decide | assumption | skip
end
def Tb : Mt := Gu (lc D2 (lc (Dj.aow true 1) l0)) (fun p => 0 ≤ p.1.p ∧ p.1.p ≤ 1000000000 ∧ 1 ≤ p.2.1.length ∧ p.2.1.length ≤ 1000) (fun p => ([D2.enc (p.1.nx 1), (Dj.aow true 1).enc p.2.1], .t (.v (.int .i64 (Gb p.1 p.2.1)))))
section
attribute [local go_sem] GL AK Bf A1 A4 BC BS CD BQ BT lm List.length_append List.length_cons List.length_nil List.map_append List.map_nil Nat.zero_add List.nil_append AS.opn AS.cls AS.nilb AS.renb AS.up Bool.not_false Bool.not_true List.set_set List.set_cons_zero List.set_cons_succ List.set_nil List.mem_singleton forall_eq AY
set_option maxHeartbeats 800000 in
theorem oH {G : Gt} (hG : Ah G) (hh : G.e 53 = AN GL) : Gd G 31 (AN Tb) := by
 refine I5 (dp := fun _ => true) (fn := Tryz.f31) (n := 2) rfl rfl hG ?_
 rintro ⟨r, l, ⟨⟩⟩ hpre
 simp -implicitDefEqProofs only [Tryz.f31, go_sem, hh, Int.reduceAdd, seval] at hpre ⊢
 obtain ⟨h1, h2, h3, h4⟩ := hpre
 try dsimp only at h1 h2 h3 h4
 have hb := Bd (n := l.length) h1 h2
 with_reducible repeat' (first | apply ai | intro _ | ((first | apply s1 | apply s3 | apply s4) <;> intro hb <;> simp -implicitDefEqProofs only [hb, go_sem, hh, Int.reduceAdd, seval] <;> try simp only [qz] at hb))
 all_goals (try simp only [maxLen, tn] at *)
 all_goals first | rfl | omega | decide | assumption | skip
end
def sM : List ByteArray := [⟨#[111, 110, 101, 46, 111, 114, 103]⟩, ⟨#[116, 119, 111, 46, 111, 114, 103]⟩, ⟨#[104, 117, 98, 46, 110, 101, 116]⟩, ⟨#[120, 46, 99, 111, 109]⟩, ⟨#[102, 97, 114, 46, 99, 111, 109]⟩, ⟨#[111, 116, 104, 101, 114, 46, 99, 111, 109]⟩, ⟨#[97, 46, 111, 110, 101, 46, 111, 114, 103]⟩]
def uY : List ByteArray := [⟨#[97]⟩, ⟨#[98]⟩, ⟨#[97, 110, 110]⟩, ⟨#[98, 111, 98, 55]⟩]
def sy : List ByteArray := [⟨#[104, 101, 108, 108, 111]⟩, ⟨#[]⟩, ⟨#[46]⟩, ⟨#[46, 46]⟩, ⟨#[46, 100, 111, 116]⟩, ⟨#[97, 32, 108, 111, 110, 103, 101, 114, 32, 108, 105, 110, 101, 32, 111, 102, 32, 116, 101, 120, 116]⟩, ⟨#[72, 111, 112, 58, 32, 111, 110, 101, 46, 111, 114, 103]⟩, ⟨#[72, 111, 112, 58, 32]⟩, ⟨#[73, 100, 58, 32, 55]⟩, ⟨#[110, 111, 116, 32, 100, 101, 108, 105, 118, 101, 114, 101, 100, 58]⟩, ⟨#[60, 97, 64, 111, 110, 101, 46, 111, 114, 103, 62]⟩, ⟨#[108, 105, 110, 101, 32, 116, 104, 97, 116, 32, 105, 115, 32, 101, 120, 97, 99, 116, 108, 121, 32, 102, 111, 114, 116, 121, 32, 98, 121, 116, 101, 115, 32, 108, 111, 110, 103, 46, 46, 33]⟩]
def sN (r : Rd) : ByteArray := L7 r sM
def fX (r : Rd) : ByteArray := L7 r sy
def D4 (r : Rd) : Ad := ⟨L7 r uY, sN (r.nx 1)⟩
def CY (r : Rd) : Ad × Rd :=
 if Ac (r.nx 2) 10 = 0 then (⟨L7 (r.nx 3) [⟨#[]⟩, ⟨#[65]⟩, ⟨#[116, 111, 111, 108, 111, 110, 103, 110, 97, 109, 101]⟩, ⟨#[97, 64, 98]⟩], (D4 r).domain⟩, r.nx 4)
 else if Ac (r.nx 2) 10 = 1 then (⟨(D4 r).user, L7 (r.nx 3) [⟨#[]⟩, ⟨#[97, 46, 46, 98]⟩, ⟨#[46, 97]⟩, ⟨#[97, 46, 98, 46, 99, 46, 100]⟩, ⟨#[85, 112, 46, 111, 114, 103]⟩]⟩, r.nx 4)
 else if Ac (r.nx 2) 10 = 2 then (⟨⟨#[]⟩, ⟨#[]⟩⟩, r.nx 3)
 else (D4 r, r.nx 3)
def lD : Mt := Gu (lc D2 l0) (fun p => 0 ≤ p.1.p ∧ p.1.p ≤ 999999990) (fun p => ([D2.enc (p.1.nx 1)], .t (.v (.string (sN p.1)))))
section
attribute [local go_sem] P7 AK Bf A1 A4 BC BS CD BQ BT lm List.length_append List.length_cons List.length_nil List.map_append List.map_nil Nat.zero_add List.nil_append AS.opn AS.cls AS.nilb AS.renb AS.up Bool.not_false Bool.not_true List.set_set List.set_cons_zero List.set_cons_succ List.set_nil List.mem_singleton forall_eq E5 Gn Gp Gq Dm Dn
set_option maxHeartbeats 800000 in
theorem dE {G : Gt} (hG : Ah G) (hh : G.e 30 = AN P7) : Gd G 104 (AN lD) := by
 refine I5 (dp := fun _ => true) (fn := Tryz.f104) (n := 1) rfl rfl hG ?_
 rintro ⟨r, ⟨⟩⟩ hpre
 simp -implicitDefEqProofs only [Tryz.f104, go_sem, hh, Int.reduceAdd, seval] at hpre ⊢
 obtain ⟨h1, h2⟩ := hpre
 try dsimp only at h1 h2
 with_reducible repeat' (first | apply ai | intro _ | ((first | apply s1 | apply s3 | apply s4) <;> intro hb <;> simp -implicitDefEqProofs only [hb, go_sem, hh, Int.reduceAdd, seval] <;> try simp only [qz] at hb))
 all_goals (try simp only [maxLen, tn] at *)
 all_goals first | rfl | omega | decide | assumption | skip
end
def ln : Mt := Gu (lc D2 l0) (fun p => 0 ≤ p.1.p ∧ p.1.p ≤ 999999990) (fun p => ([D2.enc (p.1.nx 1)], .t (.v (.string (fX p.1)))))
section
attribute [local go_sem] P7 AK Bf A1 A4 BC BS CD BQ BT lm List.length_append List.length_cons List.length_nil List.map_append List.map_nil Nat.zero_add List.nil_append AS.opn AS.cls AS.nilb AS.renb AS.up Bool.not_false Bool.not_true List.set_set List.set_cons_zero List.set_cons_succ List.set_nil List.mem_singleton forall_eq E5 Gn Gp Gq Dm Dn
set_option maxHeartbeats 800000 in
theorem eE {G : Gt} (hG : Ah G) (hh : G.e 30 = AN P7) : Gd G 173 (AN ln) := by
 refine I5 (dp := fun _ => true) (fn := Tryz.f173) (n := 1) rfl rfl hG ?_
 rintro ⟨r, ⟨⟩⟩ hpre
 simp -implicitDefEqProofs only [Tryz.f173, go_sem, hh, Int.reduceAdd, seval] at hpre ⊢
 obtain ⟨h1, h2⟩ := hpre
 try dsimp only at h1 h2
 with_reducible repeat' (first | apply ai | intro _ | ((first | apply s1 | apply s3 | apply s4) <;> intro hb <;> simp -implicitDefEqProofs only [hb, go_sem, hh, Int.reduceAdd, seval] <;> try simp only [qz] at hb))
 all_goals (try simp only [maxLen, tn] at *)
 all_goals first | rfl | omega | decide | assumption | skip
end
def me : Mt := Gu (lc D2 l0) (fun p => 0 ≤ p.1.p ∧ p.1.p ≤ 999999980) (fun p => ([D2.enc (p.1.nx 2)], .agg [.t (.v (.string (D4 p.1).user)), .t (.v (.string (D4 p.1).domain))]))
section
attribute [local go_sem] P7 lD AK Bf A1 A4 BC BS CD BQ BT lm List.length_append List.length_cons List.length_nil List.map_append List.map_nil Nat.zero_add List.nil_append AS.opn AS.cls AS.nilb AS.renb AS.up Bool.not_false Bool.not_true List.set_set List.set_cons_zero List.set_cons_succ List.set_nil List.mem_singleton forall_eq E5 Gn Gp Gq Dm Dn
set_option maxHeartbeats 800000 in
theorem oh {G : Gt} (hG : Ah G) (hh : G.e 30 = AN P7 ∧ G.e 104 = AN lD) : Gd G 55 (AN me) := by
 refine I5 (dp := fun _ => true) (fn := Tryz.f55) (n := 1) rfl rfl hG ?_
 rintro ⟨r, ⟨⟩⟩ hpre
 simp -implicitDefEqProofs only [Tryz.f55, go_sem, hh, Int.reduceAdd, seval] at hpre ⊢
 obtain ⟨h1, h2⟩ := hpre
 try dsimp only at h1 h2
 with_reducible repeat' (first | apply ai | intro _ | ((first | apply s1 | apply s3 | apply s4) <;> intro hb <;> simp -implicitDefEqProofs only [hb, go_sem, hh, Int.reduceAdd, seval] <;> try simp only [qz] at hb))
 all_goals (try simp only [maxLen, tn] at *)
 all_goals first | rfl | omega | decide | assumption | skip
end
theorem S9 {r : Rd} (h : Ac (r.nx 2) 10 = 0) : CY r = (⟨L7 (r.nx 3) [⟨#[]⟩, ⟨#[65]⟩, ⟨#[116, 111, 111, 108, 111, 110, 103, 110, 97, 109, 101]⟩, ⟨#[97, 64, 98]⟩], (D4 r).domain⟩, r.nx 4) := if_pos h
theorem TA {r : Rd} (h0 : ¬ Ac (r.nx 2) 10 = 0) (h : Ac (r.nx 2) 10 = 1) : CY r = (⟨(D4 r).user, L7 (r.nx 3) [⟨#[]⟩, ⟨#[97, 46, 46, 98]⟩, ⟨#[46, 97]⟩, ⟨#[97, 46, 98, 46, 99, 46, 100]⟩, ⟨#[85, 112, 46, 111, 114, 103]⟩]⟩, r.nx 4) := by unfold CY; rw [if_neg h0, if_pos h]
theorem TB {r : Rd} (h0 : ¬ Ac (r.nx 2) 10 = 0) (h1 : ¬ Ac (r.nx 2) 10 = 1) (h : Ac (r.nx 2) 10 = 2) : CY r = (⟨⟨#[]⟩, ⟨#[]⟩⟩, r.nx 3) := by unfold CY; rw [if_neg h0, if_neg h1, if_pos h]
theorem TC {r : Rd} (h0 : ¬ Ac (r.nx 2) 10 = 0) (h1 : ¬ Ac (r.nx 2) 10 = 1) (h : ¬ Ac (r.nx 2) 10 = 2) : CY r = (D4 r, r.nx 3) := by unfold CY; rw [if_neg h0, if_neg h1, if_neg h]
def cH : Mt := Gu (lc D2 l0) (fun p => 0 ≤ p.1.p ∧ p.1.p ≤ 999999950) (fun p => ([D2.enc (CY p.1).2], .agg [.t (.v (.string (CY p.1).1.user)), .t (.v (.string (CY p.1).1.domain))]))
section
attribute [local go_sem] me GL P7 AK Bf A1 A4 BC BS CD BQ BT lm List.length_append List.length_cons List.length_nil List.map_append List.map_nil Nat.zero_add List.nil_append AS.opn AS.cls AS.nilb AS.renb AS.up Bool.not_false Bool.not_true List.set_set List.set_cons_zero List.set_cons_succ List.set_nil List.mem_singleton forall_eq E5 Gn Gp Gq Dm Dn
set_option maxHeartbeats 1600000 in
theorem dC {G : Gt} (hG : Ah G) (hh : G.e 55 = AN me ∧ G.e 53 = AN GL ∧ G.e 30 = AN P7) : Gd G 101 (AN cH) := by
 refine I5 (dp := fun _ => true) (fn := Tryz.f101) (n := 1) rfl rfl hG ?_
 rintro ⟨r, ⟨⟩⟩ hpre
 obtain ⟨h1, h2⟩ := hpre
 try dsimp only at h1 h2 ⊢
 by_cases q0 : Ac (r.nx 2) 10 = 0
 ·rw [S9 q0]
  simp -implicitDefEqProofs only [Tryz.f101, q0, eq_self, decide_true, decide_false, go_sem, hh, Int.reduceAdd, seval]
  with_reducible repeat' (first | apply ai | intro _ | ((first | apply s1 | apply s3 | apply s4) <;> intro hb <;> simp -implicitDefEqProofs only [hb, go_sem, hh, Int.reduceAdd, seval] <;> try simp only [qz] at hb))
  all_goals (try simp only [maxLen, tn] at *)
  all_goals first | rfl | omega | decide | assumption | skip
 ·by_cases q1 : Ac (r.nx 2) 10 = 1
  ·rw [TA q0 q1]
   simp -implicitDefEqProofs only [Tryz.f101, q1, Int.reduceEq, eq_self, decide_true, decide_false, go_sem, hh, Int.reduceAdd, seval]
   with_reducible repeat' (first | apply ai | intro _ | ((first | apply s1 | apply s3 | apply s4) <;> intro hb <;> simp -implicitDefEqProofs only [hb, go_sem, hh, Int.reduceAdd, seval] <;> try simp only [qz] at hb))
   all_goals (try simp only [maxLen, tn] at *)
   all_goals first | rfl | omega | decide | assumption | skip
  ·by_cases q2 : Ac (r.nx 2) 10 = 2
   ·rw [TB q0 q1 q2]
    simp -implicitDefEqProofs only [Tryz.f101, q2, Int.reduceEq, eq_self, decide_true, decide_false, go_sem, hh, Int.reduceAdd, seval]
    with_reducible repeat' (first | apply ai | intro _ | ((first | apply s1 | apply s3 | apply s4) <;> intro hb <;> simp -implicitDefEqProofs only [hb, go_sem, hh, Int.reduceAdd, seval] <;> try simp only [qz] at hb))
    all_goals (try simp only [maxLen, tn] at *)
    all_goals first | rfl | omega | decide | assumption | skip
   ·rw [TC q0 q1 q2]
    simp -implicitDefEqProofs only [Tryz.f101, q0, q1, q2, eq_self, decide_true, decide_false, go_sem, hh, Int.reduceAdd, seval]
    with_reducible repeat' (first | apply ai | intro _ | ((first | apply s1 | apply s3 | apply s4) <;> intro hb <;> simp -implicitDefEqProofs only [hb, go_sem, hh, Int.reduceAdd, seval] <;> try simp only [qz] at hb))
    all_goals (try simp only [maxLen, tn] at *)
    all_goals first | rfl | omega | decide | assumption | skip
end
def LJ (r : Rd) (n : Nat) : List ByteArray := (List.range n).map fun (j : Nat) => fX (r.nx (j : Int))
theorem k7 (r : Rd) (n : Nat) : LJ r (n + 1) = LJ r n ++ [fX (r.nx n)] := by
 unfold LJ; rw [List.range_succ, List.map_append]; rfl
theorem OQ (r : Rd) (n : Nat) : (LJ r n).length = n := by unfold LJ; simp
def I2 (r : Rd) (m : Int) : List ByteArray := LJ (r.nx 1) (Ac r (m + 1)).toNat
def Mh (r : Rd) (m : Int) : Rd := r.nx (1 + Ac r (m + 1))
def cI : Mt := Gu (lc D2 (lc BI l0)) (fun p => 0 ≤ p.1.p ∧ p.1.p ≤ 999999000 ∧ 0 ≤ p.2.1 ∧ p.2.1 ≤ 100) (fun p => ([D2.enc (Mh p.1 p.2.1), BI.enc p.2.1], .o true 1 ((I2 p.1 p.2.1).map AH)))
section
attribute [local go_sem] GL ln AK Bf A1 A4 BC BS CD BQ BT lm List.length_append List.length_cons List.length_nil List.map_append List.map_nil Nat.zero_add List.nil_append AS.opn AS.cls AS.nilb AS.renb AS.up Bool.not_false Bool.not_true List.set_set List.set_cons_zero List.set_cons_succ List.set_nil List.mem_singleton forall_eq
set_option maxHeartbeats 1600000 in
theorem dl {G : Gt} (hG : Ah G) (hh : G.e 53 = AN GL ∧ G.e 173 = AN ln) : Gd G 144 (AN cI) := by
 refine I5 (dp := fun _ => true) (fn := Tryz.f144) (n := 2) rfl rfl hG ?_
 rintro ⟨r, m, ⟨⟩⟩ hpre
 simp -implicitDefEqProofs only [Tryz.f144, go_sem, hh, Int.reduceAdd, seval] at hpre ⊢
 obtain ⟨h1, h2, h3, h4⟩ := hpre
 try dsimp only at h1 h2 h3 h4
 have hb := Bd (n := m + 1) h1 (by omega)
 obtain ⟨n, hn⟩ : ∃ n : Nat, n = (Ac r (m + 1)).toNat := ⟨_, rfl⟩
 have hn2 : Ac r (m + 1) = n := by omega
 have e1 : Mh r m = r.nx (1 + n) := by unfold Mh; rw [hn2]
 have e2 : I2 r m = LJ (r.nx 1) n := by unfold I2; rw [← hn]
 rw [e1, e2]
 simp -implicitDefEqProofs only [hn2, go_sem, hh, Int.reduceAdd, seval]
 with_reducible repeat' (first | apply ai | intro _ | ((first | apply s1 | apply s3 | apply s4) <;> intro hb <;> simp -implicitDefEqProofs only [hb, go_sem, hh, Int.reduceAdd, seval] <;> try simp only [qz] at hb))
 all_goals (try simp only [maxLen, tn] at *)
 all_goals first | rfl | omega | decide | assumption | skip
 refine AF [(5, 1905, true, 1)] (ι := {i : Nat // i ≤ n}) (fun p => ⟨[(0, .pb 1900 0), (5, .h 1905), (6, .t (.v (.int .i64 (n - p.1))))], [(1900, some (.box [.t (.sl 1 (r.b.map CQ)), .t (.v (.int .i64 (r.p + (1 + p.1))))])), (1905, some (.arr true 1 ((LJ (r.nx 1) p.1).map AH)))]⟩) (fun p => n - p.1) ⟨0, by simp⟩ rfl ?_ ?_
 ·simp -implicitDefEqProofs only [go_sem, hh, Int.reduceAdd, seval]
  simp [LJ]
 ·rintro ⟨i, hi⟩
  have hlen := OQ (r.nx 1) i
  by_cases hlt : (n : Int) - i > 0
  ·simp -implicitDefEqProofs only [hlt, decide_true, tn, go_sem, hh, Int.reduceAdd, seval]
   with_reducible repeat' (first | apply ai | intro _ | ((first | apply s1 | apply s3 | apply s4) <;> intro hb <;> simp -implicitDefEqProofs only [hb, go_sem, hh, Int.reduceAdd, seval] <;> try simp only [qz] at hb))
   all_goals (try simp only [maxLen, tn] at *)
   all_goals first | rfl | omega | decide | assumption | skip
   refine ⟨⟨i + 1, by omega⟩, by dsimp only; omega, ?_⟩
   simp -implicitDefEqProofs only [k7, go_sem, hh, Int.reduceAdd, seval]
   try simp
   omega
  ·have hz : i = n := by omega
   subst hz
   simp -implicitDefEqProofs only [hlt, decide_false, go_sem, hh, Int.reduceAdd, seval]
   with_reducible repeat' (first | apply ai | intro _ | ((first | apply s1 | apply s3 | apply s4) <;> intro hb <;> simp -implicitDefEqProofs only [hb, go_sem, hh, Int.reduceAdd, seval] <;> try simp only [qz] at hb))
   all_goals (try simp only [maxLen, tn] at *)
   all_goals first | rfl | omega | decide | assumption | skip
end
def pu : Ad := ⟨⟨#[]⟩, ⟨#[]⟩⟩
def DV (r : Rd) : Nat → List Ad
 | 0 => []
 | k + 1 => if D4 (r.nx (2 * (k : Int))) ∈ DV r k then DV r k else DV r k ++ [D4 (r.nx (2 * (k : Int)))]
theorem kB {r : Rd} {k : Nat} (h : D4 (r.nx (2 * (k : Int))) ∈ DV r k) : DV r (k + 1) = DV r k := if_pos h
theorem kA {r : Rd} {k : Nat} (h : ¬ D4 (r.nx (2 * (k : Int))) ∈ DV r k) : DV r (k + 1) = DV r k ++ [D4 (r.nx (2 * (k : Int)))] := if_neg h
theorem Jf (r : Rd) : ∀ k, (DV r k).length ≤ k
 | 0 => Nat.le_refl _
 | k + 1 => by
   have := Jf r k
   unfold DV; split
   ·omega
   ·rw [List.length_append]; simp; omega
theorem IZ (r : Rd) : ∀ k, (DV r k).Nodup
 | 0 => List.nodup_nil
 | k + 1 => by
   unfold DV; split
   ·exact IZ r k
   ·rename_i h
    rw [List.nodup_append]
    exact ⟨IZ r k, by simp, fun a ha b hb e => h (by rw [List.mem_singleton.1 hb] at e; rw [← e]; exact ha)⟩
theorem NZ {r : Rd} {a : Ad} : ∀ {k : Nat}, a ∈ DV r k → ∃ j, j < k ∧ a = D4 (r.nx (2 * (j : Int)))
 | k + 1, h => by
   unfold DV at h; split at h
   ·obtain ⟨j, hj, e⟩ := NZ h
    exact ⟨j, by omega, e⟩
   ·rcases List.mem_append.1 h with h | h
    ·obtain ⟨j, hj, e⟩ := NZ h
     exact ⟨j, by omega, e⟩
    ·exact ⟨k, by omega, List.mem_singleton.1 h⟩
theorem qu (r : Rd) (k : Nat) : 1 ≤ (DV r (k + 1)).length := by
 unfold DV; split
 ·rename_i h
  have := List.length_pos_of_mem h
  omega
 ·try simp
def UO (r : Rd) : Int := Gb (r.nx 2) [1, 4, 9]
def Aw (r : Rd) : Rd := Mh (r.nx 3) (UO r)
def I6 (r : Rd) : Int := 1 + Ac ((Aw r).nx 1) 4
def L3 (r : Rd) : Ad := if Ac (Aw r) 5 = 0 then pu else D4 r
def Zf (r : Rd) : Ml := ⟨L3 r, DV ((Aw r).nx 2) (I6 r).toNat, I2 (r.nx 3) (UO r)⟩
def PQ (r : Rd) : Rd := (Aw r).nx (2 + 2 * I6 r)
theorem Zg {r : Rd} (h : 0 ≤ r.p) (h1 : r.p ≤ 999999900) : 1 ≤ UO r ∧ UO r ≤ 9 := by
 have := JZ (r := r.nx 2) (l := [1, 4, 9]) (by rw [AK]; omega) (by rw [AK]; omega) (by decide)
 unfold UO
 simp only [List.mem_cons, List.not_mem_nil, or_false] at this
 omega
theorem k8 {r : Rd} {m : Int} (h : 0 ≤ r.p) (h1 : r.p ≤ 999999950) (h2 : 0 ≤ m) : (Mh r m).b = r.b ∧ r.p + 1 ≤ (Mh r m).p ∧ (Mh r m).p ≤ r.p + 1 + m := by
 have := Bd (r := r) (n := m + 1) h (by omega)
 unfold Mh
 rw [AK, Bf]
 exact ⟨rfl, by omega, by omega⟩
theorem ND {r : Rd} (h : 0 ≤ r.p) (h1 : r.p ≤ 999999900) : (Aw r).b = r.b ∧ r.p + 4 ≤ (Aw r).p ∧ (Aw r).p ≤ r.p + 13 := by
 have h2 := Zg h h1
 have h3 := k8 (r := r.nx 3) (m := UO r) (by rw [AK]; omega) (by rw [AK]; omega) (by omega)
 rw [AK, Bf] at h3
 unfold Aw
 exact ⟨h3.1, by omega, by omega⟩
theorem Ze {r : Rd} (h : 0 ≤ r.p) (h1 : r.p ≤ 999999900) : 1 ≤ I6 r ∧ I6 r ≤ 4 := by
 have h2 := ND h h1
 have h3 := Bd (r := (Aw r).nx 1) (n := 4) (by rw [AK]; omega) (by rw [AK]; omega)
 unfold I6
 omega
theorem jW {r : Rd} (h : 0 ≤ r.p) (h1 : r.p ≤ 999999900) : (PQ r).b = r.b ∧ r.p + 4 ≤ (PQ r).p ∧ (PQ r).p ≤ r.p + 23 := by
 have h2 := ND h h1
 have h3 := Ze h h1
 unfold PQ
 rw [AK, Bf]
 exact ⟨h2.1, by omega, by omega⟩
theorem wI {a b : Ad} : ((decide (a.user = b.user) && decide (a.domain = b.domain)) = true) = (a = b) := by
 rw [B5]; simp
theorem wJ {a b : Ad} : ((decide (a.user = b.user) && decide (a.domain = b.domain)) = false) = ¬ a = b := by
 rw [B5]; simp
theorem tA {r : Rd} : Gb (r.nx 2) [1, 4, 9] = UO r := rfl
theorem po {r : Rd} : Mh (r.nx 3) (UO r) = Aw r := rfl
theorem s9 {r : Rd} : 1 + Ac ((Aw r).nx 1) 4 = I6 r := rfl
def VX : Mt := Gu (lc D2 l0) (fun p => 0 ≤ p.1.p ∧ p.1.p ≤ 999998000) (fun p => ([D2.enc (PQ p.1)], RZ (Zf p.1)))
section
attribute [local go_sem] me Tb cI GL AK Bf A1 A4 BC BS CD BQ BT lm List.length_append List.length_cons List.length_nil List.map_append List.map_nil Nat.zero_add List.nil_append AS.opn AS.cls AS.nilb AS.renb AS.up Bool.not_false Bool.not_true List.set_set List.set_cons_zero List.set_cons_succ List.set_nil List.mem_singleton forall_eq E4 tA po s9 AY Gn Gp Gq Dm Dn
set_option maxHeartbeats 3200000 in
theorem dI {G : Gt} (hG : Ah G) (hh : G.e 55 = AN me ∧ G.e 31 = AN Tb ∧ G.e 144 = AN cI ∧ G.e 53 = AN GL) : Gd G 110 (AN VX) := by
 refine I5 (dp := fun n => !(Nat.beq n 100004 || Nat.beq n 100006)) (fn := Tryz.f110) (n := 1) rfl rfl hG ?_
 rintro ⟨r, ⟨⟩⟩ hpre
 obtain ⟨h1, h2⟩ := hpre
 try dsimp only at h1 h2 ⊢
 have f1 := Zg h1 (by omega)
 have f2 := ND h1 (by omega)
 have f3 := Ze h1 (by omega)
 by_cases q : Ac (Aw r) 5 = 0
 ·have hf : L3 r = pu := if_pos q
  simp -implicitDefEqProofs only [Tryz.f110, q, eq_self, decide_true, go_sem, hh, Int.reduceAdd, seval]
  with_reducible repeat' (first | apply ai | intro _ | ((first | apply s1 | apply s3 | apply s4) <;> intro hb <;> simp -implicitDefEqProofs only [hb, go_sem, hh, Int.reduceAdd, seval] <;> try simp only [qz] at hb))
  all_goals (try simp only [maxLen, tn] at *)
  all_goals first | rfl | omega | decide | assumption | skip
  refine Ag (Le.nilb 1003 2 1907 true 2 rfl rfl rfl) (Ab ?_)
  simp -implicitDefEqProofs only [go_sem, hh, Int.reduceAdd, seval]
  with_reducible repeat' (first | apply ai | intro _ | ((first | apply s1 | apply s3 | apply s4) <;> intro hb <;> simp -implicitDefEqProofs only [hb, go_sem, hh, Int.reduceAdd, seval] <;> try simp only [qz] at hb))
  all_goals (try simp only [maxLen, tn] at *)
  all_goals first | rfl | omega | decide | assumption | skip
  refine AF [] (ι := {i : Nat // (i : Int) ≤ I6 r}) (fun ⟨i, _⟩ => ⟨[(0, .pb 1900 0), (2, .pb 1002 0), (3, .pb 1003 0), (4, .t (.v (.int .i64 (I6 r - i))))], [(1900, some (.box [.t (.sl 1 ((Aw r).b.map CQ)), .t (.v (.int .i64 ((Aw r).p + (2 + 2 * i))))])), (1002, some (.box [.t (.v (.string ⟨#[]⟩)), .t (.v (.string ⟨#[]⟩)), .nil, .nil])), (1003, some (.box [.t (.v (.string ⟨#[]⟩)), .t (.v (.string ⟨#[]⟩)), .h 1907, .h 1014])), (1014, some (.arr true 1 ((I2 (r.nx 3) (UO r)).map AH))), (1907, some (.arr true 2 ((DV ((Aw r).nx 2) i).map Ao)))]⟩) (fun p => (I6 r).toNat - p.1) ⟨0, by omega⟩ rfl ?_ ?_
  ·simp -implicitDefEqProofs only [go_sem, hh, Int.reduceAdd, seval]
   simp [DV]
  ·rintro ⟨i, hi⟩
   dsimp only
   have hlen := Jf ((Aw r).nx 2) i
   by_cases hlt : I6 r - (i : Int) > 0
   ·simp -implicitDefEqProofs only [hlt, decide_true, tn, go_sem, hh, Int.reduceAdd, seval]
    with_reducible repeat' (first | apply ai | intro _ | ((first | apply s1 | apply s3 | apply s4) <;> intro hb <;> simp -implicitDefEqProofs only [hb, go_sem, hh, Int.reduceAdd, seval] <;> try simp only [qz] at hb))
    all_goals (try simp only [maxLen, tn] at *)
    all_goals first | rfl | omega | decide | assumption | skip
    refine AF [] (ι := {p : Nat × Bool // p.1 ≤ (DV ((Aw r).nx 2) i).length ∧ (p.2 = true ↔ ∃ j, j < p.1 ∧ (DV ((Aw r).nx 2) i).getD j default = (D4 ((Aw r).nx (2 + 2 * (i : Int)))))}) (fun ⟨⟨k, b⟩, _⟩ => ⟨[(0, .pb 1900 0), (2, .pb 1002 0), (3, .pb 1003 0), (4, .t (.v (.int .i64 (I6 r - i)))), (5, .pb 1005 0), (6, .t (.v (.bool b))), (7, .t (.v (.int .i64 k)))], [(1900, some (.box [.t (.sl 1 ((Aw r).b.map CQ)), .t (.v (.int .i64 ((Aw r).p + (4 + 2 * i))))])), (1002, some (.box [.t (.v (.string ⟨#[]⟩)), .t (.v (.string ⟨#[]⟩)), .nil, .nil])), (1003, some (.box [.t (.v (.string ⟨#[]⟩)), .t (.v (.string ⟨#[]⟩)), .h 1907, .h 1014])), (1005, some (.box ((Ao (D4 ((Aw r).nx (2 + 2 * (i : Int))))).map .t))), (1014, some (.arr true 1 ((I2 (r.nx 3) (UO r)).map AH))), (1907, some (.arr true 2 ((DV ((Aw r).nx 2) i).map Ao)))]⟩) (fun p => (DV ((Aw r).nx 2) i).length - p.1.1) ⟨(0, false), by simp, by simp⟩ rfl ?_ ?_
    ·simp -implicitDefEqProofs only [go_sem, hh, Int.reduceAdd, seval]
     try simp
     try omega
    ·rintro ⟨⟨k, b⟩, hk, hb2⟩
     dsimp only at hk hb2 ⊢
     by_cases hlt2 : (k : Int) < (DV ((Aw r).nx 2) i).length
     ·cases b
      ·have hn : ¬ ∃ j, j < k ∧ (DV ((Aw r).nx 2) i).getD j default = (D4 ((Aw r).nx (2 + 2 * (i : Int)))) := fun z => by have := hb2.2 z; cases this
       simp -implicitDefEqProofs only [hlt2, decide_true, tn, go_sem, hh, Int.reduceAdd, seval]
       with_reducible repeat' (first | apply ai | intro _ | ((first | apply s1 | apply s3 | apply s4) <;> intro hb <;> simp -implicitDefEqProofs only [hb, go_sem, hh, Int.reduceAdd, seval] <;> try simp only [qz] at hb))
       all_goals (try simp only [maxLen, tn, wI, wJ] at *)
       all_goals first | rfl | omega | decide | assumption | skip
       refine ⟨⟨(k + 1, decide ((DV ((Aw r).nx 2) i).getD k default = (D4 ((Aw r).nx (2 + 2 * (i : Int)))))), by dsimp only; omega, by dsimp only; rw [decide_eq_true_eq]; exact ⟨fun z => ⟨k, by omega, z⟩, fun ⟨j, hj, z⟩ => by by_cases e : j = k; (rw [← e]; exact z); (exact absurd ⟨j, by omega, z⟩ hn)⟩⟩, by dsimp only; omega, ?_⟩
       simp -implicitDefEqProofs only [go_sem, hh, Int.reduceAdd, seval]
       simp [B5]
      ·have hn : ∃ j, j < k ∧ (DV ((Aw r).nx 2) i).getD j default = (D4 ((Aw r).nx (2 + 2 * (i : Int)))) := hb2.1 rfl
       simp -implicitDefEqProofs only [hlt2, decide_true, tn, go_sem, hh, Int.reduceAdd, seval]
       with_reducible repeat' (first | apply ai | intro _ | ((first | apply s1 | apply s3 | apply s4) <;> intro hb <;> simp -implicitDefEqProofs only [hb, go_sem, hh, Int.reduceAdd, seval] <;> try simp only [qz] at hb))
       all_goals (try simp only [maxLen, tn] at *)
       all_goals first | rfl | omega | decide | assumption | skip
       refine ⟨⟨(k + 1, true), by dsimp only; omega, by dsimp only; exact ⟨fun _ => hn.elim fun j z => ⟨j, by omega, z.2⟩, fun _ => rfl⟩⟩, by dsimp only; omega, ?_⟩
       simp -implicitDefEqProofs only [go_sem, hh, Int.reduceAdd, seval]
       try simp
     ·have hE : b = true ↔ (D4 ((Aw r).nx (2 + 2 * (i : Int)))) ∈ DV ((Aw r).nx 2) i := hb2.trans ⟨fun ⟨j, hj, z⟩ => z ▸ AE (by omega), fun z => Classical.byContradiction fun f => by
        have := BR (P := fun x : Ad => ¬ x = (D4 ((Aw r).nx (2 + 2 * (i : Int))))) (xs := DV ((Aw r).nx 2) i) (fun j hj e => f ⟨j, by omega, e⟩) _ z
        exact this rfl⟩
      cases b
      ·have hm : ¬ D4 (((Aw r).nx 2).nx (2 * (i : Int))) ∈ DV ((Aw r).nx 2) i := fun z => by rw [BS] at z; have := hE.2 z; cases this
       have hs := kA hm
       simp -implicitDefEqProofs only [hlt2, decide_false, go_sem, hh, Int.reduceAdd, seval]
       with_reducible repeat' (first | apply ai | intro _ | ((first | apply s1 | apply s3 | apply s4) <;> intro hb <;> simp -implicitDefEqProofs only [hb, go_sem, hh, Int.reduceAdd, seval] <;> try simp only [qz] at hb))
       all_goals (try simp only [maxLen, tn] at *)
       all_goals first | rfl | omega | decide | assumption | skip
       refine Ag (Le.renb 1003 2 1053 1907 rfl rfl rfl rfl) (Ab ?_)
       simp -implicitDefEqProofs only [go_sem, hh, Int.reduceAdd, seval]
       with_reducible repeat' (first | apply ai | intro _ | ((first | apply s1 | apply s3 | apply s4) <;> intro hb <;> simp -implicitDefEqProofs only [hb, go_sem, hh, Int.reduceAdd, seval] <;> try simp only [qz] at hb))
       all_goals (try simp only [maxLen, tn] at *)
       all_goals first | rfl | omega | decide | assumption | skip
       refine ⟨⟨i + 1, by omega⟩, by dsimp only; omega, ?_⟩
       simp -implicitDefEqProofs only [hs, go_sem, hh, Int.reduceAdd, seval]
       simp [HW, BS]
       try omega
      ·have hm : D4 (((Aw r).nx 2).nx (2 * (i : Int))) ∈ DV ((Aw r).nx 2) i := by rw [BS]; exact hE.1 rfl
       have hs := kB hm
       simp -implicitDefEqProofs only [hlt2, decide_false, go_sem, hh, Int.reduceAdd, seval]
       with_reducible repeat' (first | apply ai | intro _ | ((first | apply s1 | apply s3 | apply s4) <;> intro hb <;> simp -implicitDefEqProofs only [hb, go_sem, hh, Int.reduceAdd, seval] <;> try simp only [qz] at hb))
       all_goals (try simp only [maxLen, tn] at *)
       all_goals first | rfl | omega | decide | assumption | skip
       refine Ab ?_
       simp -implicitDefEqProofs only [go_sem, hh, Int.reduceAdd, seval]
       with_reducible repeat' (first | apply ai | intro _ | ((first | apply s1 | apply s3 | apply s4) <;> intro hb <;> simp -implicitDefEqProofs only [hb, go_sem, hh, Int.reduceAdd, seval] <;> try simp only [qz] at hb))
       all_goals (try simp only [maxLen, tn] at *)
       all_goals first | rfl | omega | decide | assumption | skip
       refine ⟨⟨i + 1, by omega⟩, by dsimp only; omega, ?_⟩
       simp -implicitDefEqProofs only [hs, go_sem, hh, Int.reduceAdd, seval]
       try simp
       try omega
   ·have hz : (i : Int) = I6 r := by omega
    have hz2 : (I6 r).toNat = i := by omega
    have e1 : PQ r = (Aw r).nx (2 + 2 * (i : Int)) := by unfold PQ; rw [hz]
    have e2 : Zf r = ⟨pu, DV ((Aw r).nx 2) i, I2 (r.nx 3) (UO r)⟩ := by unfold Zf; rw [hf, hz2]
    rw [e1, e2]
    simp -implicitDefEqProofs only [hlt, decide_false, go_sem, hh, Int.reduceAdd, seval]
    with_reducible repeat' (first | apply ai | intro _ | ((first | apply s1 | apply s3 | apply s4) <;> intro hb <;> simp -implicitDefEqProofs only [hb, go_sem, hh, Int.reduceAdd, seval] <;> try simp only [qz] at hb))
    all_goals (try simp only [maxLen, tn] at *)
    all_goals first | rfl | omega | decide | assumption | skip
 ·have hf : L3 r = D4 r := if_neg q
  simp -implicitDefEqProofs only [Tryz.f110, q, decide_false, go_sem, hh, Int.reduceAdd, seval]
  with_reducible repeat' (first | apply ai | intro _ | ((first | apply s1 | apply s3 | apply s4) <;> intro hb <;> simp -implicitDefEqProofs only [hb, go_sem, hh, Int.reduceAdd, seval] <;> try simp only [qz] at hb))
  all_goals (try simp only [maxLen, tn] at *)
  all_goals first | rfl | omega | decide | assumption | skip
  refine Ag (Le.nilb 1003 2 1907 true 2 rfl rfl rfl) (Ab ?_)
  simp -implicitDefEqProofs only [go_sem, hh, Int.reduceAdd, seval]
  with_reducible repeat' (first | apply ai | intro _ | ((first | apply s1 | apply s3 | apply s4) <;> intro hb <;> simp -implicitDefEqProofs only [hb, go_sem, hh, Int.reduceAdd, seval] <;> try simp only [qz] at hb))
  all_goals (try simp only [maxLen, tn] at *)
  all_goals first | rfl | omega | decide | assumption | skip
  refine AF [] (ι := {i : Nat // (i : Int) ≤ I6 r}) (fun ⟨i, _⟩ => ⟨[(0, .pb 1900 0), (2, .pb 1002 0), (3, .pb 1003 0), (4, .t (.v (.int .i64 (I6 r - i))))], [(1900, some (.box [.t (.sl 1 ((Aw r).b.map CQ)), .t (.v (.int .i64 ((Aw r).p + (2 + 2 * i))))])), (1002, some (.box [.t (.v (.string ⟨#[]⟩)), .t (.v (.string ⟨#[]⟩)), .nil, .nil])), (1003, some (.box [.t (.v (.string (D4 r).user)), .t (.v (.string (D4 r).domain)), .h 1907, .h 1014])), (1014, some (.arr true 1 ((I2 (r.nx 3) (UO r)).map AH))), (1907, some (.arr true 2 ((DV ((Aw r).nx 2) i).map Ao)))]⟩) (fun p => (I6 r).toNat - p.1) ⟨0, by omega⟩ rfl ?_ ?_
  ·simp -implicitDefEqProofs only [go_sem, hh, Int.reduceAdd, seval]
   simp [DV]
  ·rintro ⟨i, hi⟩
   dsimp only
   have hlen := Jf ((Aw r).nx 2) i
   by_cases hlt : I6 r - (i : Int) > 0
   ·simp -implicitDefEqProofs only [hlt, decide_true, tn, go_sem, hh, Int.reduceAdd, seval]
    with_reducible repeat' (first | apply ai | intro _ | ((first | apply s1 | apply s3 | apply s4) <;> intro hb <;> simp -implicitDefEqProofs only [hb, go_sem, hh, Int.reduceAdd, seval] <;> try simp only [qz] at hb))
    all_goals (try simp only [maxLen, tn] at *)
    all_goals first | rfl | omega | decide | assumption | skip
    refine AF [] (ι := {p : Nat × Bool // p.1 ≤ (DV ((Aw r).nx 2) i).length ∧ (p.2 = true ↔ ∃ j, j < p.1 ∧ (DV ((Aw r).nx 2) i).getD j default = (D4 ((Aw r).nx (2 + 2 * (i : Int)))))}) (fun ⟨⟨k, b⟩, _⟩ => ⟨[(0, .pb 1900 0), (2, .pb 1002 0), (3, .pb 1003 0), (4, .t (.v (.int .i64 (I6 r - i)))), (5, .pb 1005 0), (6, .t (.v (.bool b))), (7, .t (.v (.int .i64 k)))], [(1900, some (.box [.t (.sl 1 ((Aw r).b.map CQ)), .t (.v (.int .i64 ((Aw r).p + (4 + 2 * i))))])), (1002, some (.box [.t (.v (.string ⟨#[]⟩)), .t (.v (.string ⟨#[]⟩)), .nil, .nil])), (1003, some (.box [.t (.v (.string (D4 r).user)), .t (.v (.string (D4 r).domain)), .h 1907, .h 1014])), (1005, some (.box ((Ao (D4 ((Aw r).nx (2 + 2 * (i : Int))))).map .t))), (1014, some (.arr true 1 ((I2 (r.nx 3) (UO r)).map AH))), (1907, some (.arr true 2 ((DV ((Aw r).nx 2) i).map Ao)))]⟩) (fun p => (DV ((Aw r).nx 2) i).length - p.1.1) ⟨(0, false), by simp, by simp⟩ rfl ?_ ?_
    ·simp -implicitDefEqProofs only [go_sem, hh, Int.reduceAdd, seval]
     try simp
     try omega
    ·rintro ⟨⟨k, b⟩, hk, hb2⟩
     dsimp only at hk hb2 ⊢
     by_cases hlt2 : (k : Int) < (DV ((Aw r).nx 2) i).length
     ·cases b
      ·have hn : ¬ ∃ j, j < k ∧ (DV ((Aw r).nx 2) i).getD j default = (D4 ((Aw r).nx (2 + 2 * (i : Int)))) := fun z => by have := hb2.2 z; cases this
       simp -implicitDefEqProofs only [hlt2, decide_true, tn, go_sem, hh, Int.reduceAdd, seval]
       with_reducible repeat' (first | apply ai | intro _ | ((first | apply s1 | apply s3 | apply s4) <;> intro hb <;> simp -implicitDefEqProofs only [hb, go_sem, hh, Int.reduceAdd, seval] <;> try simp only [qz] at hb))
       all_goals (try simp only [maxLen, tn, wI, wJ] at *)
       all_goals first | rfl | omega | decide | assumption | skip
       refine ⟨⟨(k + 1, decide ((DV ((Aw r).nx 2) i).getD k default = (D4 ((Aw r).nx (2 + 2 * (i : Int)))))), by dsimp only; omega, by dsimp only; rw [decide_eq_true_eq]; exact ⟨fun z => ⟨k, by omega, z⟩, fun ⟨j, hj, z⟩ => by by_cases e : j = k; (rw [← e]; exact z); (exact absurd ⟨j, by omega, z⟩ hn)⟩⟩, by dsimp only; omega, ?_⟩
       simp -implicitDefEqProofs only [go_sem, hh, Int.reduceAdd, seval]
       simp [B5]
      ·have hn : ∃ j, j < k ∧ (DV ((Aw r).nx 2) i).getD j default = (D4 ((Aw r).nx (2 + 2 * (i : Int)))) := hb2.1 rfl
       simp -implicitDefEqProofs only [hlt2, decide_true, tn, go_sem, hh, Int.reduceAdd, seval]
       with_reducible repeat' (first | apply ai | intro _ | ((first | apply s1 | apply s3 | apply s4) <;> intro hb <;> simp -implicitDefEqProofs only [hb, go_sem, hh, Int.reduceAdd, seval] <;> try simp only [qz] at hb))
       all_goals (try simp only [maxLen, tn] at *)
       all_goals first | rfl | omega | decide | assumption | skip
       refine ⟨⟨(k + 1, true), by dsimp only; omega, by dsimp only; exact ⟨fun _ => hn.elim fun j z => ⟨j, by omega, z.2⟩, fun _ => rfl⟩⟩, by dsimp only; omega, ?_⟩
       simp -implicitDefEqProofs only [go_sem, hh, Int.reduceAdd, seval]
       try simp
     ·have hE : b = true ↔ (D4 ((Aw r).nx (2 + 2 * (i : Int)))) ∈ DV ((Aw r).nx 2) i := hb2.trans ⟨fun ⟨j, hj, z⟩ => z ▸ AE (by omega), fun z => Classical.byContradiction fun f => by
        have := BR (P := fun x : Ad => ¬ x = (D4 ((Aw r).nx (2 + 2 * (i : Int))))) (xs := DV ((Aw r).nx 2) i) (fun j hj e => f ⟨j, by omega, e⟩) _ z
        exact this rfl⟩
      cases b
      ·have hm : ¬ D4 (((Aw r).nx 2).nx (2 * (i : Int))) ∈ DV ((Aw r).nx 2) i := fun z => by rw [BS] at z; have := hE.2 z; cases this
       have hs := kA hm
       simp -implicitDefEqProofs only [hlt2, decide_false, go_sem, hh, Int.reduceAdd, seval]
       with_reducible repeat' (first | apply ai | intro _ | ((first | apply s1 | apply s3 | apply s4) <;> intro hb <;> simp -implicitDefEqProofs only [hb, go_sem, hh, Int.reduceAdd, seval] <;> try simp only [qz] at hb))
       all_goals (try simp only [maxLen, tn] at *)
       all_goals first | rfl | omega | decide | assumption | skip
       refine Ag (Le.renb 1003 2 1053 1907 rfl rfl rfl rfl) (Ab ?_)
       simp -implicitDefEqProofs only [go_sem, hh, Int.reduceAdd, seval]
       with_reducible repeat' (first | apply ai | intro _ | ((first | apply s1 | apply s3 | apply s4) <;> intro hb <;> simp -implicitDefEqProofs only [hb, go_sem, hh, Int.reduceAdd, seval] <;> try simp only [qz] at hb))
       all_goals (try simp only [maxLen, tn] at *)
       all_goals first | rfl | omega | decide | assumption | skip
       refine ⟨⟨i + 1, by omega⟩, by dsimp only; omega, ?_⟩
       simp -implicitDefEqProofs only [hs, go_sem, hh, Int.reduceAdd, seval]
       simp [HW, BS]
       try omega
      ·have hm : D4 (((Aw r).nx 2).nx (2 * (i : Int))) ∈ DV ((Aw r).nx 2) i := by rw [BS]; exact hE.1 rfl
       have hs := kB hm
       simp -implicitDefEqProofs only [hlt2, decide_false, go_sem, hh, Int.reduceAdd, seval]
       with_reducible repeat' (first | apply ai | intro _ | ((first | apply s1 | apply s3 | apply s4) <;> intro hb <;> simp -implicitDefEqProofs only [hb, go_sem, hh, Int.reduceAdd, seval] <;> try simp only [qz] at hb))
       all_goals (try simp only [maxLen, tn] at *)
       all_goals first | rfl | omega | decide | assumption | skip
       refine Ab ?_
       simp -implicitDefEqProofs only [go_sem, hh, Int.reduceAdd, seval]
       with_reducible repeat' (first | apply ai | intro _ | ((first | apply s1 | apply s3 | apply s4) <;> intro hb <;> simp -implicitDefEqProofs only [hb, go_sem, hh, Int.reduceAdd, seval] <;> try simp only [qz] at hb))
       all_goals (try simp only [maxLen, tn] at *)
       all_goals first | rfl | omega | decide | assumption | skip
       refine ⟨⟨i + 1, by omega⟩, by dsimp only; omega, ?_⟩
       simp -implicitDefEqProofs only [hs, go_sem, hh, Int.reduceAdd, seval]
       try simp
       try omega
   ·have hz : (i : Int) = I6 r := by omega
    have hz2 : (I6 r).toNat = i := by omega
    have e1 : PQ r = (Aw r).nx (2 + 2 * (i : Int)) := by unfold PQ; rw [hz]
    have e2 : Zf r = ⟨D4 r, DV ((Aw r).nx 2) i, I2 (r.nx 3) (UO r)⟩ := by unfold Zf; rw [hf, hz2]
    rw [e1, e2]
    simp -implicitDefEqProofs only [hlt, decide_false, go_sem, hh, Int.reduceAdd, seval]
    with_reducible repeat' (first | apply ai | intro _ | ((first | apply s1 | apply s3 | apply s4) <;> intro hb <;> simp -implicitDefEqProofs only [hb, go_sem, hh, Int.reduceAdd, seval] <;> try simp only [qz] at hb))
    all_goals (try simp only [maxLen, tn] at *)
    all_goals first | rfl | omega | decide | assumption | skip
end
instance (n : Int) : Decidable (KO n) := by unfold KO; infer_instance
theorem bf (s : ByteArray) : Sa s ↔ (∀ b ∈ bl s, KO (b.toNat : Int)) ∧ 1 ≤ s.size ∧ s.size ≤ 8 :=
 ⟨fun h => ⟨fun b hb => by
   obtain ⟨j, hj, e⟩ := HV hb
   rw [← e]; exact h.1 j hj, h.2⟩, fun h => ⟨fun j hj => by
   obtain ⟨b, hb, e⟩ := PP hj
   rw [e]; exact h.1 b hb, h.2⟩⟩
instance (s : ByteArray) : Decidable (Sa s) := decidable_of_iff _ (bf s).symm
instance (s : ByteArray) : Decidable (Cc s) := by unfold Cc; infer_instance
instance (s : ByteArray) : Decidable (Ib s) := decidable_of_iff _ (HD s).symm
theorem cp : ∀ s ∈ sM, Cc s := by decide +kernel
theorem gW : ∀ s ∈ uY, Sa s := by decide +kernel
theorem fW : ∀ s ∈ sy, Ib s := by decide +kernel
theorem H7 {r : Rd} (h : 0 ≤ r.p) (h1 : r.p ≤ 999999990) : BJ (D4 r) :=
 ⟨gW _ (F7 h (by omega) (by decide)), cp _ (F7 (r := r.nx 1) (by rw [AK]; omega) (by rw [AK]; omega) (by decide))⟩
theorem fY {r : Rd} (h : 0 ≤ r.p) (h1 : r.p ≤ 999999990) : Ib (fX r) := fW _ (F7 h (by omega) (by decide))
theorem cD {r : Rd} {m : Int} (h : 0 ≤ r.p) (h1 : r.p ≤ 999999900) (h2 : 0 ≤ m) (h3 : m ≤ 12) : DW (I2 r m) := by
 have hb := Bd (r := r) (n := m + 1) h (by omega)
 unfold I2
 refine ⟨fun s hs => ?_, by rw [OQ]; omega⟩
 unfold LJ at hs
 obtain ⟨j, hj, rfl⟩ := List.mem_map.1 hs
 rw [List.mem_range] at hj
 exact fY (by rw [AK, AK]; omega) (by rw [AK, AK]; omega)
theorem NC {r : Rd} (h : 0 ≤ r.p) (h1 : r.p ≤ 999999800) : Ce (Zf r) := by
 have h2 := Zg h (by omega)
 have h3 := ND h (by omega)
 have h4 := Ze h (by omega)
 obtain ⟨k, hk⟩ : ∃ k, (I6 r).toNat = k + 1 := ⟨(I6 r).toNat - 1, by omega⟩
 refine ⟨fun a ha => ?_, IZ _ _, ?_, ⟨?_, ?_⟩, cD (by rw [AK]; omega) (by rw [AK]; omega) (by omega) (by omega)⟩
 ·obtain ⟨j, hj, rfl⟩ := NZ ha
  exact H7 (by rw [AK, AK]; omega) (by rw [AK, AK]; omega)
 ·show BJ (L3 r) ∨ AZ (L3 r)
  unfold L3; split
  ·exact .inr ⟨rfl, rfl⟩
  ·exact .inl (H7 h (by omega))
 ·show 1 ≤ (DV _ (I6 r).toNat).length
  rw [hk]; exact qu _ _
 ·have := Jf ((Aw r).nx 2) (I6 r).toNat
  show (DV _ (I6 r).toNat).length ≤ 4
  omega
theorem Bs {a : Ad} (h : BJ a ∨ AZ a) : Ge a := by
 rcases h with h | h
 ·have h1 := (JR h.1).2
  have h2 := (DA h.2).2
  exact ⟨by show a.user.size ≤ 1048576; omega, by show a.domain.size ≤ 1048576; omega⟩
 ·obtain ⟨u, d⟩ := a
  obtain ⟨h1, h2⟩ := h
  dsimp only at h1 h2
  subst h1; subst h2
  exact ⟨by show 0 ≤ 1048576; decide, by show 0 ≤ 1048576; decide⟩
theorem HB {b : List ByteArray} (h : DW b) : HG Bh b := ⟨by have := h.2; omega, fun s hs => by
 have := (h.1 s hs).2
 show s.size ≤ 1048576; omega⟩
theorem HE {m : Ml} (h : Ce m) : LE m := ⟨Bs h.2.2.1, ⟨by have := h.2.2.2.1.2; omega, fun a ha => Bs (.inl (h.1 a ha))⟩, HB h.2.2.2.2⟩
theorem be {x : Im} (h : DX x) : GH x := ⟨Bs h.2.2.2.1, ⟨by have := h.2.2.2.2.1.2; omega, fun r hr => Bs (.inl (h.1 r hr).1)⟩, HB h.2.2.2.2.2⟩
theorem HH {s : Sp} (h : CO s) : GI s := ⟨by have := h.2.2.2; omega, fun x hx => be (h.1 x hx).1⟩
structure Ds where
 s : Sp
 w : Int
 r : Rd
def JW (z : Ds) : Int := z.w + Ac z.r 5
def GV (z : Ds) : Prop := (z.s.items.length : Int) = 0 ∨ Ac (z.r.nx 1) 2 = 0
def Q2 (z : Ds) : Rd := if (z.s.items.length : Int) = 0 then z.r.nx 1 else z.r.nx 2
def Q1 (z : Ds) : Int := Ac (z.r.nx 2) z.s.items.length
def cr (z : Ds) : Int := Ac (z.r.nx 3) (z.s.items.getD (Q1 z).toNat default).to.length
open Classical in
noncomputable def CM (z : Ds) : Ds :=
 if GV z then (if CG z.s then ⟨LH z.s (Zf (Q2 z)) (JW z), JW z, PQ (Q2 z)⟩ else ⟨z.s, JW z, Q2 z⟩)
 else if Ac (z.r.nx 4) 2 = 0 then ⟨DJ z.s (Q1 z).toNat (cr z).toNat, JW z, z.r.nx 5⟩
 else ⟨(Jo z.s (Q1 z).toNat (cr z).toNat (JW z)).1, JW z, z.r.nx 5⟩
noncomputable def JV (z : Ds) : Nat → Ds
 | 0 => z
 | n + 1 => CM (JV z n)
theorem KE {z : Ds} (h : GV z) (h2 : CG z.s) : CM z = ⟨LH z.s (Zf (Q2 z)) (JW z), JW z, PQ (Q2 z)⟩ := by unfold CM; rw [if_pos h, if_pos h2]
theorem KF {z : Ds} (h : GV z) (h2 : ¬ CG z.s) : CM z = ⟨z.s, JW z, Q2 z⟩ := by unfold CM; rw [if_pos h, if_neg h2]
theorem On {z : Ds} (h : ¬ GV z) (h2 : Ac (z.r.nx 4) 2 = 0) : CM z = ⟨DJ z.s (Q1 z).toNat (cr z).toNat, JW z, z.r.nx 5⟩ := by unfold CM; rw [if_neg h, if_pos h2]
theorem Oo {z : Ds} (h : ¬ GV z) (h2 : ¬ Ac (z.r.nx 4) 2 = 0) : CM z = ⟨(Jo z.s (Q1 z).toNat (cr z).toNat (JW z)).1, JW z, z.r.nx 5⟩ := by unfold CM; rw [if_neg h, if_neg h2]
structure QE (r : Rd) (i : Nat) (z : Ds) : Prop where
 sp : CO z.s
 w0 : 0 ≤ z.w
 w1 : z.w ≤ 4 * i
 p0 : r.p ≤ z.r.p
 p1 : z.r.p ≤ r.p + 1 + 30 * i
 b : z.r.b = r.b
theorem bn {s : Sp} {i k : Nat} {w : Int} (h : CO s) (hi : i < s.items.length) (hk : k < (s.items.getD i default).to.length) (hw : 0 ≤ w) : CO (Jo s i k w).1 := by
 unfold Jo; split
 ·exact h
 ·exact Lz h hi hk (by assumption) hw
theorem iv {r : Rd} {i : Nat} {z : Ds} (h : QE r i z) (h0 : 0 ≤ r.p) (h1 : r.p ≤ 999990000) (hi : i ≤ 9) (ha : ¬ GV z) : (0 ≤ Q1 z ∧ Q1 z < z.s.items.length) ∧ 0 ≤ cr z ∧ cr z < (z.s.items.getD (Q1 z).toNat default).to.length := by
 have a1 := h.p0; have a2 := h.p1
 have hb := Bd (r := z.r.nx 2) (n := z.s.items.length) (by rw [AK]; omega) (by rw [AK]; omega)
 have hc := Bd (r := z.r.nx 3) (n := (z.s.items.getD (Q1 z).toNat default).to.length) (by rw [AK]; omega) (by rw [AK]; omega)
 have hl : ¬ (z.s.items.length : Int) = 0 := fun e => ha (.inl e)
 have q1 : 0 ≤ Q1 z ∧ Q1 z < z.s.items.length := by unfold Q1; omega
 have hx := (h.sp.1 _ (AE (xs := z.s.items) (j := (Q1 z).toNat) (by omega))).1.2.2.2.2.1.1
 exact ⟨q1, by unfold cr; omega, by unfold cr; omega⟩
theorem it {r : Rd} {i : Nat} {z : Ds} (h : QE r i z) : (Q2 z).b = r.b ∧ z.r.p + 1 ≤ (Q2 z).p ∧ (Q2 z).p ≤ z.r.p + 2 := by
 unfold Q2; split
 ·exact ⟨h.b, by rw [AK]; omega, by rw [AK]; omega⟩
 ·exact ⟨h.b, by rw [AK]; omega, by rw [AK]; omega⟩
theorem iu {r : Rd} {i : Nat} {z : Ds} (h : QE r i z) (h0 : 0 ≤ r.p) (h1 : r.p ≤ 999990000) (hi : i ≤ 9) : z.w ≤ JW z ∧ JW z ≤ z.w + 4 := by
 have a1 := h.p0; have a2 := h.p1
 have hb := Bd (r := z.r) (n := 5) (by omega) (by omega)
 unfold JW; omega
theorem ct {r : Rd} {i : Nat} {z : Ds} (h : QE r i z) (h0 : 0 ≤ r.p) (h1 : r.p ≤ 999990000) (hi : i ≤ 9) : QE r (i + 1) (CM z) := by
 have a1 := h.p0; have a2 := h.p1; have a3 := h.w0; have a4 := h.w1
 have hw := iu h h0 h1 hi
 have hR := it h
 by_cases ha : GV z
 ·by_cases hr : CG z.s
  ·rw [KE ha hr]
   have hm := jW (r := Q2 z) (by omega) (by omega)
   exact ⟨H8 h.sp (NC (by omega) (by omega)) ⟨by omega, by omega⟩ hr, by show 0 ≤ JW z; omega, by show JW z ≤ _; omega, by show r.p ≤ (PQ _).p; omega, by show (PQ _).p ≤ _; omega, by show (PQ _).b = _; rw [hm.1, hR.1]⟩
  ·rw [KF ha hr]
   exact ⟨h.sp, by show 0 ≤ JW z; omega, by show JW z ≤ _; omega, by show r.p ≤ (Q2 z).p; omega, by show (Q2 z).p ≤ _; omega, hR.1⟩
 ·obtain ⟨⟨i0, i1⟩, k0, k1⟩ := iv h h0 h1 hi ha
  by_cases hd : Ac (z.r.nx 4) 2 = 0
  ·rw [On ha hd]
   exact ⟨Ee h.sp (by omega) (by omega), by show 0 ≤ JW z; omega, by show JW z ≤ _; omega, by show r.p ≤ z.r.p + 5; omega, by show z.r.p + 5 ≤ _; omega, h.b⟩
  ·rw [Oo ha hd]
   exact ⟨bn h.sp (by omega) (by omega) (by omega), by show 0 ≤ JW z; omega, by show JW z ≤ _; omega, by show r.p ≤ z.r.p + 5; omega, by show z.r.p + 5 ≤ _; omega, h.b⟩
def KD (r : Rd) : Ds := ⟨⟨0, []⟩, 0, r.nx 1⟩
theorem W9 : CO ⟨0, []⟩ := ⟨fun x hx => (by cases hx), fun j _ hj => absurd hj (Nat.not_lt_zero _), ⟨by decide, by decide⟩, Nat.zero_le _⟩
theorem My {r : Rd} (h0 : 0 ≤ r.p) (h1 : r.p ≤ 999990000) : ∀ i : Nat, i ≤ 9 → QE r i (JV (KD r) i)
 | 0, _ => ⟨W9, Int.le_refl 0, Int.le_refl 0, by show r.p ≤ r.p + 1; omega, by show r.p + 1 ≤ _; omega, rfl⟩
 | i + 1, h => ct (My h0 h1 i (by omega)) h0 h1 (by omega)
noncomputable def EU (r : Rd) : Sp := (JV (KD r) (Ac r 9).toNat).s
noncomputable def Gc (r : Rd) : Rd := (JV (KD r) (Ac r 9).toNat).r
theorem ak {r : Rd} (h0 : 0 ≤ r.p) (h1 : r.p ≤ 999990000) : CO (EU r) ∧ (Gc r).b = r.b ∧ r.p ≤ (Gc r).p ∧ (Gc r).p ≤ r.p + 300 := by
 have hb := Bd (r := r) (n := 9) h0 (by omega)
 have h := My h0 h1 (Ac r 9).toNat (by omega)
 exact ⟨h.sp, h.b, h.p0, by have := h.p1; unfold Gc; omega⟩
theorem sQ {z : Ds} : z.w + Ac z.r 5 = JW z := rfl
theorem sO {z : Ds} : Ac (z.r.nx 2) (z.s.items.length : Int) = Q1 z := rfl
theorem sP {z : Ds} : Ac (z.r.nx 3) ((z.s.items.getD (Q1 z).toNat default).to.length : Int) = cr z := rfl
def lT : Mt := Gu (lc D2 l0) (fun p => 0 ≤ p.1.p ∧ p.1.p ≤ 999980000) (fun p => ([D2.enc (Gc p.1)], aD (EU p.1)))
section
attribute [local go_sem] GL J4 VX Qe Qg Xo Xk AK Bf A1 A4 BC BS CD BQ BT lm List.length_append List.length_cons List.length_nil List.map_append List.map_nil Nat.zero_add List.nil_append AS.opn AS.cls AS.nilb AS.renb AS.up Bool.not_false Bool.not_true List.set_set List.set_cons_zero List.set_cons_succ List.set_nil List.mem_singleton forall_eq sQ sO sP fz AU AT JC I4 List.take_length List.drop_zero List.length_take List.length_drop List.map_cons
set_option maxHeartbeats 6400000 in
theorem dj {G : Gt} (hG : Ah G) (hh : G.e 53 = AN GL ∧ G.e 121 = AA 0 J4 ∧ G.e 110 = AN VX ∧ G.e 124 = AA 1 Qe ∧ G.e 166 = AA 1 Qg ∧ G.e 167 = AA 1 Xo ∧ G.e 118 = AA 0 Xk) : Gd G 140 (AN lT) := by
 refine I5 (dp := fun n => !(Nat.beq n 100003)) (fn := Tryz.f140) (n := 1) rfl rfl hG ?_
 rintro ⟨r, ⟨⟩⟩ hpre
 obtain ⟨h1, h2⟩ := hpre
 try dsimp only at h1 h2 ⊢
 have hb := Bd (r := r) (n := 9) h1 (by omega)
 obtain ⟨n, hn⟩ : ∃ n : Nat, n = (Ac r 9).toNat := ⟨_, rfl⟩
 have hn2 : Ac r 9 = n := by omega
 have e1 : Gc r = (JV (KD r) n).r := by unfold Gc; rw [← hn]
 have e2 : EU r = (JV (KD r) n).s := by unfold EU; rw [← hn]
 rw [e1, e2]
 simp -implicitDefEqProofs only [Tryz.f140, hn2, go_sem, hh, Int.reduceAdd, seval]
 with_reducible repeat' (first | apply ai | intro _ | ((first | apply s1 | apply s3 | apply s4) <;> intro hb <;> simp -implicitDefEqProofs only [hb, go_sem, hh, Int.reduceAdd, seval] <;> try simp only [qz] at hb))
 all_goals (try simp only [maxLen, tn] at *)
 all_goals first | rfl | omega | decide | assumption | skip
 refine Ag (Le.nilb 1003 1 1907 true 5 rfl rfl rfl) (Ag (Le.frzL [1907]) (Ab ?_))
 simp -implicitDefEqProofs only [hn2, go_sem, hh, Int.reduceAdd, seval]
 with_reducible repeat' (first | apply ai | intro _ | ((first | apply s1 | apply s3 | apply s4) <;> intro hb <;> simp -implicitDefEqProofs only [hb, go_sem, hh, Int.reduceAdd, seval] <;> try simp only [qz] at hb))
 all_goals (try simp only [maxLen, tn] at *)
 all_goals first | rfl | omega | decide | assumption | skip
 refine AF [] (ι := {i : Nat // i ≤ n}) (fun ⟨i, _⟩ => ⟨[(0, .pb 1900 0), (2, .pb 1002 0), (3, .pb 1003 0), (4, .t (.v (.int .i64 (JV (KD r) i).w))), (5, .t (.v (.int .i64 (n - i))))], [(1900, some (.box [.t (.sl 1 ((JV (KD r) i).r.b.map CQ)), .t (.v (.int .i64 (JV (KD r) i).r.p))])), (1002, some (.box [.t (.v (.int .i64 0)), .nil])), (1003, some (.box ((FU (JV (KD r) i).s).map .t)))]⟩) (fun p => n - p.1) ⟨0, by omega⟩ rfl ?_ ?_
 ·simp -implicitDefEqProofs only [go_sem, hh, Int.reduceAdd, seval]
  simp [JV, KD, Bf, AK]
  try rfl
 ·rintro ⟨i, hi⟩
  dsimp only
  by_cases hlt : (n : Int) - i > 0
  ·obtain ⟨z, hz⟩ : ∃ z, z = JV (KD r) i := ⟨_, rfl⟩
   have hok : QE r i z := by rw [hz]; exact My h1 (by omega) i (by omega)
   have a1 := hok.p0; have a2 := hok.p1; have a3 := hok.w0; have a4 := hok.w1
   have hw := iu hok h1 (by omega) (by omega)
   have hR := it hok
   have zs := HH hok.sp
   have zo := hok.sp
   rw [← hz]
   by_cases L : (z.s.items.length : Int) = 0
   ·have ha : GV z := .inl L
    have eR : Q2 z = z.r.nx 1 := if_pos L
    by_cases hr : CG z.s
    ·have b1 := Ak hr
     have zm := HE (NC (r := z.r.nx 1) (by rw [AK]; omega) (by rw [AK]; omega))
     have hs : JV (KD r) (i + 1) = _ := (show JV (KD r) (i + 1) = CM z by rw [hz]; rfl).trans (eR ▸ KE ha hr)
     simp -implicitDefEqProofs only [hlt, L, b1, eq_self, decide_true, decide_false, tn, go_sem, hh, Int.reduceAdd, seval]
     with_reducible repeat' (first | apply ai | intro _ | ((first | apply s1 | apply s3 | apply s4) <;> intro hb <;> simp -implicitDefEqProofs only [hb, go_sem, hh, Int.reduceAdd, seval] <;> try simp only [qz] at hb))
     all_goals (try simp only [maxLen, tn] at *)
     all_goals first | rfl | omega | decide | assumption | skip
     refine ⟨⟨i + 1, by omega⟩, by dsimp only; omega, ?_⟩
     simp -implicitDefEqProofs only [hs, go_sem, hh, Int.reduceAdd, seval]
     try simp
     try omega
    ·have b1 := AO hr
     have hs : JV (KD r) (i + 1) = _ := (show JV (KD r) (i + 1) = CM z by rw [hz]; rfl).trans (eR ▸ KF ha hr)
     simp -implicitDefEqProofs only [hlt, L, b1, eq_self, decide_true, decide_false, tn, go_sem, hh, Int.reduceAdd, seval]
     with_reducible repeat' (first | apply ai | intro _ | ((first | apply s1 | apply s3 | apply s4) <;> intro hb <;> simp -implicitDefEqProofs only [hb, go_sem, hh, Int.reduceAdd, seval] <;> try simp only [qz] at hb))
     all_goals (try simp only [maxLen, tn] at *)
     all_goals first | rfl | omega | decide | assumption | skip
     refine ⟨⟨i + 1, by omega⟩, by dsimp only; omega, ?_⟩
     simp -implicitDefEqProofs only [hs, go_sem, hh, Int.reduceAdd, seval]
     try simp
     try omega
   ·by_cases Q : Ac (z.r.nx 1) 2 = 0
    ·have ha : GV z := .inr Q
     have eR : Q2 z = z.r.nx 2 := if_neg L
     by_cases hr : CG z.s
     ·have b1 := Ak hr
      have zm := HE (NC (r := z.r.nx 2) (by rw [AK]; omega) (by rw [AK]; omega))
      have hs : JV (KD r) (i + 1) = _ := (show JV (KD r) (i + 1) = CM z by rw [hz]; rfl).trans (eR ▸ KE ha hr)
      simp -implicitDefEqProofs only [hlt, L, Q, b1, eq_self, decide_true, decide_false, tn, go_sem, hh, Int.reduceAdd, seval]
      with_reducible repeat' (first | apply ai | intro _ | ((first | apply s1 | apply s3 | apply s4) <;> intro hb <;> simp -implicitDefEqProofs only [hb, go_sem, hh, Int.reduceAdd, seval] <;> try simp only [qz] at hb))
      all_goals (try simp only [maxLen, tn] at *)
      all_goals first | rfl | omega | decide | assumption | skip
      refine ⟨⟨i + 1, by omega⟩, by dsimp only; omega, ?_⟩
      simp -implicitDefEqProofs only [hs, go_sem, hh, Int.reduceAdd, seval]
      try simp
      try omega
     ·have b1 := AO hr
      have hs : JV (KD r) (i + 1) = _ := (show JV (KD r) (i + 1) = CM z by rw [hz]; rfl).trans (eR ▸ KF ha hr)
      simp -implicitDefEqProofs only [hlt, L, Q, b1, eq_self, decide_true, decide_false, tn, go_sem, hh, Int.reduceAdd, seval]
      with_reducible repeat' (first | apply ai | intro _ | ((first | apply s1 | apply s3 | apply s4) <;> intro hb <;> simp -implicitDefEqProofs only [hb, go_sem, hh, Int.reduceAdd, seval] <;> try simp only [qz] at hb))
      all_goals (try simp only [maxLen, tn] at *)
      all_goals first | rfl | omega | decide | assumption | skip
      refine ⟨⟨i + 1, by omega⟩, by dsimp only; omega, ?_⟩
      simp -implicitDefEqProofs only [hs, go_sem, hh, Int.reduceAdd, seval]
      try simp
      try omega
    ·have ha : ¬ GV z := fun f => f.elim L Q
     obtain ⟨⟨i0, i1⟩, k0, k1⟩ := iv hok h1 (by omega) (by omega) ha
     by_cases D : Ac (z.r.nx 4) 2 = 0
     ·skip
      have hs : JV (KD r) (i + 1) = _ := (show JV (KD r) (i + 1) = CM z by rw [hz]; rfl).trans (On ha D)
      simp -implicitDefEqProofs only [hlt, L, Q, D, eq_self, decide_true, decide_false, tn, go_sem, hh, Int.reduceAdd, seval]
      with_reducible repeat' (first | apply ai | intro _ | ((first | apply s1 | apply s3 | apply s4) <;> intro hb <;> simp -implicitDefEqProofs only [hb, go_sem, hh, Int.reduceAdd, seval] <;> try simp only [qz] at hb))
      all_goals (try simp only [maxLen, tn] at *)
      all_goals first | rfl | omega | decide | assumption | skip
      refine ⟨⟨i + 1, by omega⟩, by dsimp only; omega, ?_⟩
      simp -implicitDefEqProofs only [hs, go_sem, hh, Int.reduceAdd, seval]
      try simp
      try omega
     ·skip
      have hs : JV (KD r) (i + 1) = _ := (show JV (KD r) (i + 1) = CM z by rw [hz]; rfl).trans (Oo ha D)
      simp -implicitDefEqProofs only [hlt, L, Q, D, eq_self, decide_true, decide_false, tn, go_sem, hh, Int.reduceAdd, seval]
      with_reducible repeat' (first | apply ai | intro _ | ((first | apply s1 | apply s3 | apply s4) <;> intro hb <;> simp -implicitDefEqProofs only [hb, go_sem, hh, Int.reduceAdd, seval] <;> try simp only [qz] at hb))
      all_goals (try simp only [maxLen, tn] at *)
      all_goals first | rfl | omega | decide | assumption | skip
      refine ⟨⟨i + 1, by omega⟩, by dsimp only; omega, ?_⟩
      simp -implicitDefEqProofs only [hs, go_sem, hh, Int.reduceAdd, seval]
      try simp
      try omega
  ·have hz : i = n := by omega
   subst hz
   have hok := My h1 (show r.p ≤ 999990000 by omega) i (by omega)
   have zs := HH hok.sp
   simp -implicitDefEqProofs only [hlt, decide_false, go_sem, hh, Int.reduceAdd, seval]
   with_reducible repeat' (first | apply ai | intro _ | ((first | apply s1 | apply s3 | apply s4) <;> intro hb <;> simp -implicitDefEqProofs only [hb, go_sem, hh, Int.reduceAdd, seval] <;> try simp only [qz] at hb))
   all_goals (try simp only [maxLen, tn] at *)
   all_goals first | rfl | omega | decide | assumption | skip
end
def ac (s : Sp) (k : Nat) (n : Int) : Sp := ⟨s.last, s.items.set k ⟨n, (s.items.getD k default).frm, (s.items.getD k default).to, (s.items.getD k default).body⟩⟩
def Pv (s : Sp) (k : Nat) (l : List Rc) : Sp := ⟨s.last, s.items.set k ⟨(s.items.getD k default).id, (s.items.getD k default).frm, l, (s.items.getD k default).body⟩⟩
def Fj (l : List Rc) (n : Int) : List Rc := l.set 0 ⟨(l.getD 0 default).addr, n, (l.getD 0 default).next⟩
noncomputable def H9 (r : Rd) : Int := Ac (Gc r) (EU r).items.length
noncomputable def LI (r : Rd) : Int := Ac ((Gc r).nx 1) 14
noncomputable def Jy (r : Rd) : Sp × Rd :=
 if ((EU r).items.length : Int) > 0 then
  (if LI r = 0 then (ac (EU r) (H9 r).toNat (Gb ((Gc r).nx 2) [0, 1, 99]), (Gc r).nx 3)
   else if LI r = 1 then (Pv (EU r) (H9 r).toNat [], (Gc r).nx 2)
   else if LI r = 2 then (Pv (EU r) (H9 r).toNat (Fj ((EU r).items.getD (H9 r).toNat default).to (Gb ((Gc r).nx 2) [-1, 4])), (Gc r).nx 3)
   else if LI r = 3 then (⟨Gb ((Gc r).nx 2) [-1, 0, 1000, 999], (EU r).items⟩, (Gc r).nx 3)
   else (EU r, (Gc r).nx 2))
 else (EU r, Gc r)
theorem iH {r : Rd} (h : ¬ ((EU r).items.length : Int) > 0) : Jy r = (EU r, Gc r) := if_neg h
theorem iC {r : Rd} (h : ((EU r).items.length : Int) > 0) (c : LI r = 0) : Jy r = (ac (EU r) (H9 r).toNat (Gb ((Gc r).nx 2) [0, 1, 99]), (Gc r).nx 3) := by unfold Jy; rw [if_pos h, if_pos c]
theorem iD {r : Rd} (h : ((EU r).items.length : Int) > 0) (c : LI r = 1) : Jy r = (Pv (EU r) (H9 r).toNat [], (Gc r).nx 2) := by unfold Jy; rw [if_pos h, if_neg (by omega), if_pos c]
theorem iE {r : Rd} (h : ((EU r).items.length : Int) > 0) (c : LI r = 2) : Jy r = (Pv (EU r) (H9 r).toNat (Fj ((EU r).items.getD (H9 r).toNat default).to (Gb ((Gc r).nx 2) [-1, 4])), (Gc r).nx 3) := by unfold Jy; rw [if_pos h, if_neg (by omega), if_neg (by omega), if_pos c]
theorem iF {r : Rd} (h : ((EU r).items.length : Int) > 0) (c : LI r = 3) : Jy r = (⟨Gb ((Gc r).nx 2) [-1, 0, 1000, 999], (EU r).items⟩, (Gc r).nx 3) := by unfold Jy; rw [if_pos h, if_neg (by omega), if_neg (by omega), if_neg (by omega), if_pos c]
theorem iG {r : Rd} (h : ((EU r).items.length : Int) > 0) (c : ¬ LI r = 0 ∧ ¬ LI r = 1 ∧ ¬ LI r = 2 ∧ ¬ LI r = 3) : Jy r = (EU r, (Gc r).nx 2) := by unfold Jy; rw [if_pos h, if_neg c.1, if_neg c.2.1, if_neg c.2.2.1, if_neg c.2.2.2]
theorem CJ {s : Sp} {k : Nat} {n : Int} : (s.items.map Az).set k [.v (.int .i64 n), .v (.string (s.items.getD k default).frm.user), .v (.string (s.items.getD k default).frm.domain), .sl 4 ((s.items.getD k default).to.map BO), .sl 1 ((s.items.getD k default).body.map AH)] = (ac s k n).items.map Az := by
 show _ = (s.items.set k _).map Az
 rw [List.map_set]; rfl
theorem A0 {s : Sp} {k : Nat} {l : List Rc} : (s.items.map Az).set k [.v (.int .i64 (s.items.getD k default).id), .v (.string (s.items.getD k default).frm.user), .v (.string (s.items.getD k default).frm.domain), .sl 4 (l.map BO), .sl 1 ((s.items.getD k default).body.map AH)] = (Pv s k l).items.map Az := by
 show _ = (s.items.set k _).map Az
 rw [List.map_set]; rfl
theorem bB {l : List Rc} {n : Int} : (l.map BO).set 0 [.v (.string (l.getD 0 default).addr.user), .v (.string (l.getD 0 default).addr.domain), .v (.int .i64 n), .v (.int .i64 (l.getD 0 default).next)] = (Fj l n).map BO := by
 unfold Fj
 rw [List.map_set]; rfl
theorem wi : (0 : Int).toNat = 0 := rfl
theorem rY {r : Rd} : Ac (Gc r) ((EU r).items.length : Int) = H9 r := rfl
theorem rX {r : Rd} : Ac ((Gc r).nx 1) 14 = LI r := rfl
theorem Jn {s : Sp} (h : GI s) {k : Nat} {x : Im} (hx : GH x) : GI ⟨s.last, s.items.set k x⟩ := ⟨by show ((s.items.set k x).length : Int) ≤ 1048576; rw [List.length_set]; exact h.1, fun y hy => by
 rcases List.mem_or_eq_of_mem_set hy with hy | rfl
 ·exact h.2 y hy
 ·exact hx⟩
theorem XW {r : Rd} (h0 : 0 ≤ r.p) (h1 : r.p ≤ 999980000) : GI (Jy r).1 ∧ (Jy r).2.b = r.b ∧ r.p ≤ (Jy r).2.p ∧ (Jy r).2.p ≤ r.p + 303 := by
 obtain ⟨a1, a2, a3, a4⟩ := ak h0 (show r.p ≤ 999990000 by omega)
 have zs := HH a1
 by_cases h : ((EU r).items.length : Int) > 0
 ·have hb := Bd (r := Gc r) (n := (EU r).items.length) (by omega) (by omega)
  have hx : GH ((EU r).items.getD (H9 r).toNat default) := zs.2 _ (AE (by unfold H9; omega))
  by_cases c0 : LI r = 0
  ·rw [iC h c0]; exact ⟨Jn zs ⟨hx.1, hx.2.1, hx.2.2⟩, a2, by rw [AK]; omega, by rw [AK]; omega⟩
  ·by_cases c1 : LI r = 1
   ·rw [iD h c1]; exact ⟨Jn zs ⟨hx.1, ⟨by show ((0 : Nat) : Int) ≤ 1048576; decide, fun _ q => by cases q⟩, hx.2.2⟩, a2, by rw [AK]; omega, by rw [AK]; omega⟩
   ·by_cases c2 : LI r = 2
    ·rw [iE h c2]
     refine ⟨Jn zs ⟨hx.1, ⟨?_, fun y hy => ?_⟩, hx.2.2⟩, a2, by rw [AK]; omega, by rw [AK]; omega⟩
     ·show ((Fj _ _).length : Int) ≤ _
      unfold Fj; rw [List.length_set]; exact hx.2.1.1
     ·have hy : y ∈ Fj _ _ := hy
      unfold Fj at hy
      have hl : 0 < ((EU r).items.getD (H9 r).toNat default).to.length := (a1.1 _ (AE (xs := (EU r).items) (j := (H9 r).toNat) (by unfold H9; omega))).1.2.2.2.2.1.1
      rcases List.mem_or_eq_of_mem_set hy with hy | rfl
      ·exact hx.2.1.2 y hy
      ·have := hx.2.1.2 _ (AE hl)
       exact this
    ·by_cases c3 : LI r = 3
     ·rw [iF h c3]; exact ⟨zs, a2, by rw [AK]; omega, by rw [AK]; omega⟩
     ·rw [iG h ⟨c0, c1, c2, c3⟩]; exact ⟨zs, a2, by rw [AK]; omega, by rw [AK]; omega⟩
 ·rw [iH h]; exact ⟨zs, a2, a3, by show (Gc r).p ≤ _; omega⟩
def Zv (r : Rd) (s : Sp) : Rd := if (s.items.length : Int) = 0 then r else r.nx 1
def PV (r : Rd) (s : Sp) : Im := s.items.getD (Ac (r.nx 1) s.items.length).toNat default
def Nj (r : Rd) (s : Sp) : (Int × Ad) × Rd :=
 if (s.items.length : Int) = 0 ∨ Ac r 6 = 0 then ((Ac (Zv r s) 4, D4 ((Zv r s).nx 1)), (Zv r s).nx 3)
 else if ((PV r s).to.length : Int) = 0 then (((PV r s).id, D4 (r.nx 2)), r.nx 4)
 else (((PV r s).id, ((PV r s).to.getD (Ac (r.nx 2) (PV r s).to.length).toNat default).addr), r.nx 3)
theorem jm {r : Rd} {s : Sp} (h : (s.items.length : Int) = 0) : Nj r s = ((Ac r 4, D4 (r.nx 1)), r.nx 3) := by
 have e : Zv r s = r := if_pos h
 unfold Nj; rw [if_pos (.inl h), e]
theorem jn {r : Rd} {s : Sp} (h : ¬ (s.items.length : Int) = 0) (h2 : Ac r 6 = 0) : Nj r s = ((Ac (r.nx 1) 4, D4 (r.nx 2)), r.nx 4) := by
 have e : Zv r s = r.nx 1 := if_neg h
 unfold Nj; rw [if_pos (.inr h2), e, BS, BS]; rfl
theorem jo {r : Rd} {s : Sp} (h : ¬ (s.items.length : Int) = 0) (h2 : ¬ Ac r 6 = 0) (h3 : ((PV r s).to.length : Int) = 0) : Nj r s = (((PV r s).id, D4 (r.nx 2)), r.nx 4) := by
 unfold Nj; rw [if_neg (fun q => q.elim h h2), if_pos h3]
theorem jp {r : Rd} {s : Sp} (h : ¬ (s.items.length : Int) = 0) (h2 : ¬ Ac r 6 = 0) (h3 : ¬ ((PV r s).to.length : Int) = 0) : Nj r s = (((PV r s).id, ((PV r s).to.getD (Ac (r.nx 2) (PV r s).to.length).toNat default).addr), r.nx 3) := by
 unfold Nj; rw [if_neg (fun q => q.elim h h2), if_neg h3]
theorem tI {r : Rd} {s : Sp} : s.items.getD (Ac (r.nx 1) (s.items.length : Int)).toNat default = PV r s := rfl
theorem jq {r : Rd} {s : Sp} (h0 : 0 ≤ r.p) (h1 : r.p ≤ 999990000) (hs : GI s) : (Nj r s).2.b = r.b ∧ r.p ≤ (Nj r s).2.p ∧ (Nj r s).2.p ≤ r.p + 4 ∧ Ge (Nj r s).1.2 := by
 by_cases h : (s.items.length : Int) = 0
 ·rw [jm h]; exact ⟨rfl, by rw [AK]; omega, by rw [AK]; omega, Bs (.inl (H7 (by rw [AK]; omega) (by rw [AK]; omega)))⟩
 ·have hb := Bd (r := r.nx 1) (n := s.items.length) (by rw [AK]; omega) (by rw [AK]; omega)
  have hx : GH (PV r s) := hs.2 _ (AE (by omega))
  by_cases h2 : Ac r 6 = 0
  ·rw [jn h h2]; exact ⟨rfl, by rw [AK]; omega, by rw [AK]; omega, Bs (.inl (H7 (by rw [AK]; omega) (by rw [AK]; omega)))⟩
  ·by_cases h3 : ((PV r s).to.length : Int) = 0
   ·rw [jo h h2 h3]; exact ⟨rfl, by rw [AK]; omega, by rw [AK]; omega, Bs (.inl (H7 (by rw [AK]; omega) (by rw [AK]; omega)))⟩
   ·have hc := Bd (r := r.nx 2) (n := (PV r s).to.length) (by rw [AK]; omega) (by rw [AK]; omega)
    rw [jp h h2 h3]; exact ⟨rfl, by rw [AK]; omega, by rw [AK]; omega, hx.2.1.2 _ (AE (by omega))⟩
def lC : Mt := Gu (lc D2 l0) (fun p => 0 ≤ p.1.p ∧ p.1.p ≤ 999980000) (fun p => ([D2.enc (Jy p.1).2], aD (Jy p.1).1))
section
attribute [local go_sem] lT GL Tb AK Bf A1 A4 BC BS CD BQ BT lm List.length_append List.length_cons List.length_nil List.map_append List.map_nil Nat.zero_add List.nil_append AS.opn AS.cls AS.nilb AS.renb AS.up Bool.not_false Bool.not_true List.set_set List.set_cons_zero List.set_cons_succ List.set_nil List.mem_singleton forall_eq rY rX E4 AY BZ Gn Gp Gq Dm Dn
set_option maxHeartbeats 6400000 in
theorem dB {G : Gt} (hG : Ah G) (hh : G.e 140 = AN lT ∧ G.e 53 = AN GL ∧ G.e 31 = AN Tb) : Gd G 100 (AN lC) := by
 refine I5 (dp := fun n => !(Nat.beq n 100010 || Nat.beq n 100013)) (fn := Tryz.f100) (n := 1) rfl rfl hG ?_
 rintro ⟨r, ⟨⟩⟩ hpre
 obtain ⟨h1, h2⟩ := hpre
 try dsimp only at h1 h2 ⊢
 obtain ⟨a1, a2, a3, a4⟩ := ak h1 (show r.p ≤ 999990000 by omega)
 have zs := HH a1
 by_cases h : ((EU r).items.length : Int) > 0
 ·have hb := Bd (r := Gc r) (n := (EU r).items.length) (by omega) (by omega)
  have hk : 0 ≤ H9 r ∧ H9 r < (EU r).items.length := by unfold H9; omega
  by_cases c0 : LI r = 0
  ·skip
   rw [iC h c0]
   simp -implicitDefEqProofs only [Tryz.f100, h, c0, eq_self, decide_true, decide_false, Int.reduceEq, go_sem, hh, Int.reduceAdd, seval]
   with_reducible repeat' (first | apply ai | intro _ | ((first | apply s1 | apply s3 | apply s4) <;> intro hb <;> simp -implicitDefEqProofs only [hb, go_sem, hh, Int.reduceAdd, seval] <;> try simp only [qz] at hb))
   all_goals (try simp only [maxLen, tn] at *)
   all_goals first | rfl | omega | decide | assumption | exact CJ | exact A0 | exact A0 (l := []) | skip
   all_goals first | (refine Ab ?_) | skip
   simp -implicitDefEqProofs only [go_sem, hh, Int.reduceAdd, seval]
   with_reducible repeat' (first | apply ai | intro _ | ((first | apply s1 | apply s3 | apply s4) <;> intro hb <;> simp -implicitDefEqProofs only [hb, go_sem, hh, Int.reduceAdd, seval] <;> try simp only [qz] at hb))
   all_goals (try simp only [maxLen, tn] at *)
   all_goals first | rfl | omega | decide | assumption | exact CJ | exact A0 | exact A0 (l := []) | skip
   trace_state
  ·by_cases c1 : LI r = 1
   ·skip
    rw [iD h c1]
    simp -implicitDefEqProofs only [Tryz.f100, h, c1, eq_self, decide_true, decide_false, Int.reduceEq, go_sem, hh, Int.reduceAdd, seval]
    with_reducible repeat' (first | apply ai | intro _ | ((first | apply s1 | apply s3 | apply s4) <;> intro hb <;> simp -implicitDefEqProofs only [hb, go_sem, hh, Int.reduceAdd, seval] <;> try simp only [qz] at hb))
    all_goals (try simp only [maxLen, tn] at *)
    all_goals first | rfl | omega | decide | assumption | exact CJ | exact A0 | exact A0 (l := []) | skip
    refine Ag (Le.setn 1006 (H9 r).toNat (e' := [.v (.int .i64 ((EU r).items.getD (H9 r).toNat default).id), .v (.string ((EU r).items.getD (H9 r).toNat default).frm.user), .v (.string ((EU r).items.getD (H9 r).toNat default).frm.domain), .sl 4 [], .sl 1 (((EU r).items.getD (H9 r).toNat default).body.map AH)]) rfl (.cons (.same _) (.cons (.same _) (.cons (.same _) (.cons (.nil _) (.cons (.same _) .nil)))))) (Ab ?_)
    simp -implicitDefEqProofs only [go_sem, hh, Int.reduceAdd, seval]
    with_reducible repeat' (first | apply ai | intro _ | ((first | apply s1 | apply s3 | apply s4) <;> intro hb <;> simp -implicitDefEqProofs only [hb, go_sem, hh, Int.reduceAdd, seval] <;> try simp only [qz] at hb))
    all_goals (try simp only [maxLen, tn] at *)
    all_goals first | rfl | omega | decide | assumption | exact CJ | exact A0 | exact A0 (l := []) | skip
    trace_state
   ·by_cases c2 : LI r = 2
    ·skip
     rw [iE h c2]
     simp -implicitDefEqProofs only [Tryz.f100, h, c2, eq_self, decide_true, decide_false, Int.reduceEq, go_sem, hh, Int.reduceAdd, seval]
     with_reducible repeat' (first | apply ai | intro _ | ((first | apply s1 | apply s3 | apply s4) <;> intro hb <;> simp -implicitDefEqProofs only [hb, go_sem, hh, Int.reduceAdd, seval] <;> try simp only [qz] at hb))
     all_goals (try simp only [maxLen, tn] at *)
     all_goals first | rfl | omega | decide | assumption | exact CJ | exact A0 | exact A0 (l := []) | skip
     have hkl : (H9 r).toNat < ((EU r).items.map Az).length := by rw [lm]; omega
     have hto : 0 < ((EU r).items.getD (H9 r).toNat default).to.length := (a1.1 _ (AE (xs := (EU r).items) (j := (H9 r).toNat) (by omega))).1.2.2.2.2.1.1
     refine aX 1006 1910 2910 (H9 r).toNat 3 rfl (fc Az (by omega)) rfl rfl fun x => Ab ?_
     simp -implicitDefEqProofs only [VN hkl, OC hkl, List.length_set, wi, go_sem, hh, Int.reduceAdd, seval]
     with_reducible repeat' (first | apply ai | intro _ | ((first | apply s1 | apply s3 | apply s4) <;> intro hb <;> simp -implicitDefEqProofs only [hb, go_sem, hh, Int.reduceAdd, seval] <;> try simp only [qz] at hb))
     all_goals (try simp only [maxLen, tn] at *)
     all_goals first | rfl | omega | decide | assumption | exact CJ | exact A0 | exact A0 (l := []) | (show AX _ = true; rfl) | skip
     refine WQ 1006 1910 2910 (H9 r).toNat 3 rfl (f4 hkl _) rfl rfl rfl rfl (Ab ?_)
     simp -implicitDefEqProofs only [bB, go_sem, hh, Int.reduceAdd, seval]
     with_reducible repeat' (first | apply ai | intro _ | ((first | apply s1 | apply s3 | apply s4) <;> intro hb <;> simp -implicitDefEqProofs only [hb, go_sem, hh, Int.reduceAdd, seval] <;> try simp only [qz] at hb))
     all_goals (try simp only [maxLen, tn] at *)
     all_goals first | rfl | omega | decide | assumption | exact CJ | exact A0 | exact A0 (l := []) | skip
     trace_state
    ·by_cases c3 : LI r = 3
     ·skip
      rw [iF h c3]
      simp -implicitDefEqProofs only [Tryz.f100, h, c3, eq_self, decide_true, decide_false, Int.reduceEq, go_sem, hh, Int.reduceAdd, seval]
      with_reducible repeat' (first | apply ai | intro _ | ((first | apply s1 | apply s3 | apply s4) <;> intro hb <;> simp -implicitDefEqProofs only [hb, go_sem, hh, Int.reduceAdd, seval] <;> try simp only [qz] at hb))
      all_goals (try simp only [maxLen, tn] at *)
      all_goals first | rfl | omega | decide | assumption | exact CJ | exact A0 | exact A0 (l := []) | skip
      all_goals first | (refine Ab ?_) | skip
      simp -implicitDefEqProofs only [go_sem, hh, Int.reduceAdd, seval]
      with_reducible repeat' (first | apply ai | intro _ | ((first | apply s1 | apply s3 | apply s4) <;> intro hb <;> simp -implicitDefEqProofs only [hb, go_sem, hh, Int.reduceAdd, seval] <;> try simp only [qz] at hb))
      all_goals (try simp only [maxLen, tn] at *)
      all_goals first | rfl | omega | decide | assumption | exact CJ | exact A0 | exact A0 (l := []) | skip
      trace_state
     ·skip
      rw [iG h ⟨c0, c1, c2, c3⟩]
      simp -implicitDefEqProofs only [Tryz.f100, h, c0, c1, c2, c3, eq_self, decide_true, decide_false, Int.reduceEq, go_sem, hh, Int.reduceAdd, seval]
      with_reducible repeat' (first | apply ai | intro _ | ((first | apply s1 | apply s3 | apply s4) <;> intro hb <;> simp -implicitDefEqProofs only [hb, go_sem, hh, Int.reduceAdd, seval] <;> try simp only [qz] at hb))
      all_goals (try simp only [maxLen, tn] at *)
      all_goals first | rfl | omega | decide | assumption | exact CJ | exact A0 | exact A0 (l := []) | skip
      all_goals first | (refine Ab ?_) | skip
      simp -implicitDefEqProofs only [go_sem, hh, Int.reduceAdd, seval]
      with_reducible repeat' (first | apply ai | intro _ | ((first | apply s1 | apply s3 | apply s4) <;> intro hb <;> simp -implicitDefEqProofs only [hb, go_sem, hh, Int.reduceAdd, seval] <;> try simp only [qz] at hb))
      all_goals (try simp only [maxLen, tn] at *)
      all_goals first | rfl | omega | decide | assumption | exact CJ | exact A0 | exact A0 (l := []) | skip
      trace_state
 ·skip
  rw [iH h]
  simp -implicitDefEqProofs only [Tryz.f100, h, eq_self, decide_true, decide_false, Int.reduceEq, go_sem, hh, Int.reduceAdd, seval]
  with_reducible repeat' (first | apply ai | intro _ | ((first | apply s1 | apply s3 | apply s4) <;> intro hb <;> simp -implicitDefEqProofs only [hb, go_sem, hh, Int.reduceAdd, seval] <;> try simp only [qz] at hb))
  all_goals (try simp only [maxLen, tn] at *)
  all_goals first | rfl | omega | decide | assumption | exact CJ | exact A0 | exact A0 (l := []) | skip
  all_goals first | (refine Ab ?_) | skip
  simp -implicitDefEqProofs only [go_sem, hh, Int.reduceAdd, seval]
  with_reducible repeat' (first | apply ai | intro _ | ((first | apply s1 | apply s3 | apply s4) <;> intro hb <;> simp -implicitDefEqProofs only [hb, go_sem, hh, Int.reduceAdd, seval] <;> try simp only [qz] at hb))
  all_goals (try simp only [maxLen, tn] at *)
  all_goals first | rfl | omega | decide | assumption | exact CJ | exact A0 | exact A0 (l := []) | skip
  trace_state
end
def vM : Mt := Gu (lc D2 (lc We.ag l0)) (fun p => (0 ≤ p.1.p ∧ p.1.p ≤ 999980000) ∧ GI p.2.1) (fun p => ([D2.enc (Nj p.1 p.2.1).2, We.ag.enc p.2.1], .tup [.t (.v (.int .i64 (Nj p.1 p.2.1).1.1)), .agg [.t (.v (.string (Nj p.1 p.2.1).1.2.user)), .t (.v (.string (Nj p.1 p.2.1).1.2.domain))]]))
section
attribute [local go_sem] GL me AK Bf A1 A4 BC BS CD BQ BT lm List.length_append List.length_cons List.length_nil List.map_append List.map_nil Nat.zero_add List.nil_append AS.opn AS.cls AS.nilb AS.renb AS.up Bool.not_false Bool.not_true List.set_set List.set_cons_zero List.set_cons_succ List.set_nil List.mem_singleton forall_eq tI Gn Gp Gq Dm Dn
set_option maxHeartbeats 3200000 in
theorem oF {G : Gt} (hG : Ah G) (hh : G.e 53 = AN GL ∧ G.e 55 = AN me) : Gd G 29 (AN vM) := by
 refine I5 (dp := fun _ => true) (fn := Tryz.f29) (n := 2) rfl rfl hG ?_
 rintro ⟨r, s, ⟨⟩⟩ hpre
 obtain ⟨⟨h1, h2⟩, zs⟩ := hpre
 try dsimp only at h1 h2 zs ⊢
 by_cases L : (s.items.length : Int) = 0
 ·skip
  rw [jm L]
  simp -implicitDefEqProofs only [Tryz.f29, L, eq_self, decide_true, decide_false, Int.reduceEq, go_sem, hh, Int.reduceAdd, seval]
  with_reducible repeat' (first | apply ai | intro _ | ((first | apply s1 | apply s3 | apply s4) <;> intro hb <;> simp -implicitDefEqProofs only [hb, go_sem, hh, Int.reduceAdd, seval] <;> try simp only [qz] at hb))
  all_goals (try simp only [maxLen, tn] at *)
  all_goals first | rfl | omega | decide | assumption | (show AX _ = true; rfl) | skip
 ·have hb := Bd (r := r.nx 1) (n := s.items.length) (by rw [AK]; omega) (by rw [AK]; omega)
  by_cases P : Ac r 6 = 0
  ·skip
   rw [jn L P]
   simp -implicitDefEqProofs only [Tryz.f29, L, P, eq_self, decide_true, decide_false, Int.reduceEq, go_sem, hh, Int.reduceAdd, seval]
   with_reducible repeat' (first | apply ai | intro _ | ((first | apply s1 | apply s3 | apply s4) <;> intro hb <;> simp -implicitDefEqProofs only [hb, go_sem, hh, Int.reduceAdd, seval] <;> try simp only [qz] at hb))
   all_goals (try simp only [maxLen, tn] at *)
   all_goals first | rfl | omega | decide | assumption | (show AX _ = true; rfl) | skip
  ·have hc := Bd (r := r.nx 2) (n := (PV r s).to.length) (by rw [AK]; omega) (by rw [AK]; omega)
   by_cases Q : ((PV r s).to.length : Int) = 0
   ·skip
    rw [jo L P Q]
    simp -implicitDefEqProofs only [Tryz.f29, L, P, Q, eq_self, decide_true, decide_false, Int.reduceEq, go_sem, hh, Int.reduceAdd, seval]
    with_reducible repeat' (first | apply ai | intro _ | ((first | apply s1 | apply s3 | apply s4) <;> intro hb <;> simp -implicitDefEqProofs only [hb, go_sem, hh, Int.reduceAdd, seval] <;> try simp only [qz] at hb))
    all_goals (try simp only [maxLen, tn] at *)
    all_goals first | rfl | omega | decide | assumption | (show AX _ = true; rfl) | skip
   ·skip
    rw [jp L P Q]
    simp -implicitDefEqProofs only [Tryz.f29, L, P, Q, eq_self, decide_true, decide_false, Int.reduceEq, go_sem, hh, Int.reduceAdd, seval]
    with_reducible repeat' (first | apply ai | intro _ | ((first | apply s1 | apply s3 | apply s4) <;> intro hb <;> simp -implicitDefEqProofs only [hb, go_sem, hh, Int.reduceAdd, seval] <;> try simp only [qz] at hb))
    all_goals (try simp only [maxLen, tn] at *)
    all_goals first | rfl | omega | decide | assumption | (show AX _ = true; rfl) | skip
end
def opn (b : List UInt8) : Rd := ⟨if (b.length : Int) > 2000 then b.take 2000 else b, 0⟩
theorem tM {b : List UInt8} (h : (b.length : Int) > 2000) : opn b = ⟨b.take 2000, 0⟩ := by unfold opn; rw [if_pos h]
theorem tL {b : List UInt8} (h : ¬ (b.length : Int) > 2000) : opn b = ⟨b, 0⟩ := by unfold opn; rw [if_neg h]
theorem Kc (b : List UInt8) : (opn b).p = 0 := rfl
theorem tK (b : List UInt8) : (⟨(opn b).b, 0⟩ : Rd) = opn b := rfl
theorem wB {b : List UInt8} {k : Nat} : List.take k (b.map CQ) = (b.take k).map CQ := by rw [List.map_take]
theorem wk : (2000 : Int).toNat = 2000 := rfl
def vK : Ct := Aq (lc LB.asl l0) (fun p => True) (fun p => D2.enc (opn p.1))
section
attribute [local go_sem] JQ R7 BC M9 wB wk A1 lm List.drop_zero AS.opn AS.cls AS.nilb AS.renb AS.up Bool.not_false Bool.not_true List.set_set List.set_cons_zero List.set_cons_succ List.set_nil List.mem_singleton forall_eq
set_option maxHeartbeats 800000 in
theorem oD {G : Gt} (hG : Ah G) : Gd G 27 (AA 1 vK) := by
 refine gr (fn := Tryz.f27) (n := 1) rfl rfl hG ?_
 rintro ⟨b, ⟨⟩⟩ hpre
 dsimp only
 by_cases L : (b.length : Int) > 2000
 ·rw [tM L]
  simp -implicitDefEqProofs only [Tryz.f27, L, decide_true, go_sem, seval]
  with_reducible repeat' (first | apply ai | intro _ | ((first | apply s1 | apply s3 | apply s4) <;> intro hb <;> simp -implicitDefEqProofs only [hb, go_sem, seval] <;> try simp only [qz] at hb))
  all_goals (try simp only [maxLen, tn] at *)
  all_goals first | rfl | omega | decide | assumption | (show AX _ = true; rfl) | skip
 ·rw [tL L]
  simp -implicitDefEqProofs only [Tryz.f27, L, decide_false, go_sem, seval]
  with_reducible repeat' (first | apply ai | intro _ | ((first | apply s1 | apply s3 | apply s4) <;> intro hb <;> simp -implicitDefEqProofs only [hb, go_sem, seval] <;> try simp only [qz] at hb))
  all_goals (try simp only [maxLen, tn] at *)
  all_goals first | rfl | omega | decide | assumption | (show AX _ = true; rfl) | skip
end
theorem S8 {α : Type} [Inhabited α] {xs ys : List α} (i : Nat) (hl : xs.length = ys.length) (h : ∀ j, j < i → xs.getD j default = ys.getD j default) (hi : xs.length ≤ i) : xs = ys := by
 refine List.ext_getElem hl fun j h1 h2 => ?_
 have := h j (by omega)
 simpa [h1, h2] using this
theorem Tv {α : Type} [Inhabited α] {xs ys : List α} {i : Nat} (hall : ∀ j, j < i → xs.getD j default = ys.getD j default) (h : xs.getD i default = ys.getD i default) : ∀ j, j < i + 1 → xs.getD j default = ys.getD j default := fun j hj => by
 by_cases e : j = i
 ·subst e; exact h
 ·exact hall j (by omega)
def rH : Ct := Aq (lc An.asl (lc An.asl l0)) (fun p => True) (fun p => .t (.v (.bool (decide (p.1 = p.2.1)))))
section
attribute [local go_sem] lm
set_option maxHeartbeats 800000 in
theorem oC {G : Gt} (hG : Ah G) : Gd G 25 (AA 0 rH) := by
 refine gr (fn := Tryz.f25) (n := 2) rfl rfl hG ?_
 rintro ⟨xs, ys, ⟨⟩⟩ hpre
 simp -implicitDefEqProofs only [Tryz.f25, go_sem, seval] at hpre ⊢
 with_reducible repeat' (first | apply ai | intro _ | ((first | apply s1 | apply s3 | apply s4) <;> intro hb <;> simp -implicitDefEqProofs only [hb, go_sem, seval] <;> try simp only [qz] at hb))
 all_goals (try simp only [maxLen] at *)
 all_goals first | rfl | omega | skip
 ·have : ¬ xs = ys := fun e => hb (by rw [e])
  simp [this]
 ·have hl : xs.length = ys.length := by omega
  refine AF [] (ι := {i : Nat // i ≤ xs.length ∧ ∀ j, j < i → xs.getD j default = ys.getD j default}) (fun p => ⟨[(0, .t (.sl 1 (xs.map AH))), (1, .t (.sl 1 (ys.map AH))), (5, .t (.v (.int .i64 p.1)))], []⟩) (fun p => xs.length - p.1) ⟨0, by simp, by simp⟩ rfl ?_ ?_
  ·simp -implicitDefEqProofs only [go_sem, seval]
   try simp
  ·rintro ⟨i, hi, hall⟩
   simp -implicitDefEqProofs only [go_sem, seval]
   with_reducible repeat' (first | apply ai | intro _ | ((first | apply s1 | apply s3 | apply s4) <;> intro hb <;> simp -implicitDefEqProofs only [hb, go_sem, seval] <;> try simp only [qz] at hb))
   all_goals (try simp only [maxLen, tn] at *)
   all_goals first
    | rfl
    | omega
    | decide
    | (show AX _ = true; rfl)
    | ((have hne : ¬ xs = ys := fun e => by subst e; first | exact hb rfl | (simp at hb; done)); simp [hne]; done)
    | (refine ⟨⟨i + 1, by omega, Tv hall (by first | assumption | (simp [*] at *; done))⟩, by dsimp only; omega, ?_⟩
       simp -implicitDefEqProofs only [go_sem, seval]
       try simp
       done)
    | (have hxy := S8 i hl hall (by omega)
       simp [hxy]
       done)
    | skip
end
theorem uc {a b : Ad} : (decide (a.user = b.user) && decide (a.domain = b.domain)) = decide (a = b) := by
 rw [← Bool.decide_and]; exact decide_eq_decide.2 B5.symm
theorem wZ {a b : Ad} : ((true != (decide (a.user = b.user) && decide (a.domain = b.domain))) = true) = ¬ a = b := by
 rw [uc]; by_cases h : a = b <;> simp [h]
theorem vE {a b : Ad} : ((true != (decide (a.user = b.user) && decide (a.domain = b.domain))) = false) = (a = b) := by
 rw [uc]; by_cases h : a = b <;> simp [h]
section
attribute [local go_sem] rH lm
end
section
attribute [local go_sem] lm qa qb
end
theorem Tj {x0 x1 x2 x3 x4 x5 x6 x7 : T} : Bk 2 4 [x0, x1, x2, x3, x4, x5, x6, x7] = [[x0, x1], [x2, x3], [x4, x5], [x6, x7]] := rfl
def E3 (k : Int) : List Cf :=
 if k = 0 then [⟨⟨#[111, 110, 101, 46, 111, 114, 103]⟩, [⟨#[111, 110, 101, 46, 111, 114, 103]⟩, ⟨#[97, 46, 111, 110, 101, 46, 111, 114, 103]⟩], [⟨⟨#[116, 119, 111, 46, 111, 114, 103]⟩, ⟨#[116, 119, 111, 46, 111, 114, 103]⟩⟩, ⟨⟨#[110, 101, 116]⟩, ⟨#[104, 117, 98, 46, 110, 101, 116]⟩⟩, ⟨⟨#[99, 111, 109]⟩, ⟨#[104, 117, 98, 46, 110, 101, 116]⟩⟩]⟩, ⟨⟨#[116, 119, 111, 46, 111, 114, 103]⟩, [⟨#[116, 119, 111, 46, 111, 114, 103]⟩], [⟨⟨#[120, 46, 99, 111, 109]⟩, ⟨#[111, 110, 101, 46, 111, 114, 103]⟩⟩, ⟨⟨#[111, 110, 101, 46, 111, 114, 103]⟩, ⟨#[111, 110, 101, 46, 111, 114, 103]⟩⟩]⟩, ⟨⟨#[104, 117, 98, 46, 110, 101, 116]⟩, [⟨#[104, 117, 98, 46, 110, 101, 116]⟩, ⟨#[111, 116, 104, 101, 114, 46, 99, 111, 109]⟩], [⟨⟨#[111, 110, 101, 46, 111, 114, 103]⟩, ⟨#[111, 110, 101, 46, 111, 114, 103]⟩⟩, ⟨⟨#[116, 119, 111, 46, 111, 114, 103]⟩, ⟨#[116, 119, 111, 46, 111, 114, 103]⟩⟩, ⟨⟨#[102, 97, 114, 46, 99, 111, 109]⟩, ⟨#[103, 111, 110, 101, 46, 99, 111, 109]⟩⟩, ⟨⟨#[120, 46, 99, 111, 109]⟩, ⟨#[116, 119, 111, 46, 111, 114, 103]⟩⟩]⟩]
 else if k = 1 then [⟨⟨#[111, 110, 101, 46, 111, 114, 103]⟩, [⟨#[111, 110, 101, 46, 111, 114, 103]⟩, ⟨#[97, 46, 111, 110, 101, 46, 111, 114, 103]⟩], [⟨⟨#[116, 119, 111, 46, 111, 114, 103]⟩, ⟨#[116, 119, 111, 46, 111, 114, 103]⟩⟩, ⟨⟨#[110, 101, 116]⟩, ⟨#[104, 117, 98, 46, 110, 101, 116]⟩⟩, ⟨⟨#[99, 111, 109]⟩, ⟨#[104, 117, 98, 46, 110, 101, 116]⟩⟩]⟩, ⟨⟨#[116, 119, 111, 46, 111, 114, 103]⟩, [⟨#[116, 119, 111, 46, 111, 114, 103]⟩], [⟨⟨#[111, 114, 103]⟩, ⟨#[111, 110, 101, 46, 111, 114, 103]⟩⟩, ⟨⟨#[104, 117, 98, 46, 110, 101, 116]⟩, ⟨#[104, 117, 98, 46, 110, 101, 116]⟩⟩]⟩]
 else if k = 2 then [⟨⟨#[111, 110, 101, 46, 111, 114, 103]⟩, [⟨#[111, 110, 101, 46, 111, 114, 103]⟩, ⟨#[97, 46, 111, 110, 101, 46, 111, 114, 103]⟩], [⟨⟨#[116, 119, 111, 46, 111, 114, 103]⟩, ⟨#[116, 119, 111, 46, 111, 114, 103]⟩⟩, ⟨⟨#[110, 101, 116]⟩, ⟨#[104, 117, 98, 46, 110, 101, 116]⟩⟩]⟩, ⟨⟨#[116, 119, 111, 46, 111, 114, 103]⟩, [⟨#[116, 119, 111, 46, 111, 114, 103]⟩], [⟨⟨#[111, 114, 103]⟩, ⟨#[111, 110, 101, 46, 111, 114, 103]⟩⟩, ⟨⟨#[104, 117, 98, 46, 110, 101, 116]⟩, ⟨#[104, 117, 98, 46, 110, 101, 116]⟩⟩, ⟨⟨#[99, 111, 109]⟩, ⟨#[104, 117, 98, 46, 110, 101, 116]⟩⟩]⟩, ⟨⟨#[104, 117, 98, 46, 110, 101, 116]⟩, [⟨#[104, 117, 98, 46, 110, 101, 116]⟩, ⟨#[111, 116, 104, 101, 114, 46, 99, 111, 109]⟩], [⟨⟨#[111, 110, 101, 46, 111, 114, 103]⟩, ⟨#[111, 110, 101, 46, 111, 114, 103]⟩⟩, ⟨⟨#[116, 119, 111, 46, 111, 114, 103]⟩, ⟨#[116, 119, 111, 46, 111, 114, 103]⟩⟩, ⟨⟨#[102, 97, 114, 46, 99, 111, 109]⟩, ⟨#[103, 111, 110, 101, 46, 99, 111, 109]⟩⟩, ⟨⟨#[120, 46, 99, 111, 109]⟩, ⟨#[116, 119, 111, 46, 111, 114, 103]⟩⟩]⟩]
 else [⟨⟨#[111, 110, 101, 46, 111, 114, 103]⟩, [⟨#[111, 110, 101, 46, 111, 114, 103]⟩, ⟨#[97, 46, 111, 110, 101, 46, 111, 114, 103]⟩], [⟨⟨#[116, 119, 111, 46, 111, 114, 103]⟩, ⟨#[116, 119, 111, 46, 111, 114, 103]⟩⟩, ⟨⟨#[110, 101, 116]⟩, ⟨#[104, 117, 98, 46, 110, 101, 116]⟩⟩, ⟨⟨#[99, 111, 109]⟩, ⟨#[104, 117, 98, 46, 110, 101, 116]⟩⟩]⟩, ⟨⟨#[116, 119, 111, 46, 111, 114, 103]⟩, [⟨#[116, 119, 111, 46, 111, 114, 103]⟩], [⟨⟨#[111, 114, 103]⟩, ⟨#[111, 110, 101, 46, 111, 114, 103]⟩⟩, ⟨⟨#[104, 117, 98, 46, 110, 101, 116]⟩, ⟨#[104, 117, 98, 46, 110, 101, 116]⟩⟩]⟩, ⟨⟨#[104, 117, 98, 46, 110, 101, 116]⟩, [⟨#[104, 117, 98, 46, 110, 101, 116]⟩, ⟨#[111, 116, 104, 101, 114, 46, 99, 111, 109]⟩], [⟨⟨#[111, 110, 101, 46, 111, 114, 103]⟩, ⟨#[111, 110, 101, 46, 111, 114, 103]⟩⟩, ⟨⟨#[116, 119, 111, 46, 111, 114, 103]⟩, ⟨#[116, 119, 111, 46, 111, 114, 103]⟩⟩, ⟨⟨#[102, 97, 114, 46, 99, 111, 109]⟩, ⟨#[103, 111, 110, 101, 46, 99, 111, 109]⟩⟩, ⟨⟨#[120, 46, 99, 111, 109]⟩, ⟨#[116, 119, 111, 46, 111, 114, 103]⟩⟩]⟩]
def Db (r : Rd) : List Cf := E3 (Ac r 5)
theorem mf {r : Rd} (h : Ac r 5 = 0) : Db r = [⟨⟨#[111, 110, 101, 46, 111, 114, 103]⟩, [⟨#[111, 110, 101, 46, 111, 114, 103]⟩, ⟨#[97, 46, 111, 110, 101, 46, 111, 114, 103]⟩], [⟨⟨#[116, 119, 111, 46, 111, 114, 103]⟩, ⟨#[116, 119, 111, 46, 111, 114, 103]⟩⟩, ⟨⟨#[110, 101, 116]⟩, ⟨#[104, 117, 98, 46, 110, 101, 116]⟩⟩, ⟨⟨#[99, 111, 109]⟩, ⟨#[104, 117, 98, 46, 110, 101, 116]⟩⟩]⟩, ⟨⟨#[116, 119, 111, 46, 111, 114, 103]⟩, [⟨#[116, 119, 111, 46, 111, 114, 103]⟩], [⟨⟨#[120, 46, 99, 111, 109]⟩, ⟨#[111, 110, 101, 46, 111, 114, 103]⟩⟩, ⟨⟨#[111, 110, 101, 46, 111, 114, 103]⟩, ⟨#[111, 110, 101, 46, 111, 114, 103]⟩⟩]⟩, ⟨⟨#[104, 117, 98, 46, 110, 101, 116]⟩, [⟨#[104, 117, 98, 46, 110, 101, 116]⟩, ⟨#[111, 116, 104, 101, 114, 46, 99, 111, 109]⟩], [⟨⟨#[111, 110, 101, 46, 111, 114, 103]⟩, ⟨#[111, 110, 101, 46, 111, 114, 103]⟩⟩, ⟨⟨#[116, 119, 111, 46, 111, 114, 103]⟩, ⟨#[116, 119, 111, 46, 111, 114, 103]⟩⟩, ⟨⟨#[102, 97, 114, 46, 99, 111, 109]⟩, ⟨#[103, 111, 110, 101, 46, 99, 111, 109]⟩⟩, ⟨⟨#[120, 46, 99, 111, 109]⟩, ⟨#[116, 119, 111, 46, 111, 114, 103]⟩⟩]⟩] := by unfold Db E3; rw [if_pos h]
theorem mg {r : Rd} (h : Ac r 5 = 1) : Db r = [⟨⟨#[111, 110, 101, 46, 111, 114, 103]⟩, [⟨#[111, 110, 101, 46, 111, 114, 103]⟩, ⟨#[97, 46, 111, 110, 101, 46, 111, 114, 103]⟩], [⟨⟨#[116, 119, 111, 46, 111, 114, 103]⟩, ⟨#[116, 119, 111, 46, 111, 114, 103]⟩⟩, ⟨⟨#[110, 101, 116]⟩, ⟨#[104, 117, 98, 46, 110, 101, 116]⟩⟩, ⟨⟨#[99, 111, 109]⟩, ⟨#[104, 117, 98, 46, 110, 101, 116]⟩⟩]⟩, ⟨⟨#[116, 119, 111, 46, 111, 114, 103]⟩, [⟨#[116, 119, 111, 46, 111, 114, 103]⟩], [⟨⟨#[111, 114, 103]⟩, ⟨#[111, 110, 101, 46, 111, 114, 103]⟩⟩, ⟨⟨#[104, 117, 98, 46, 110, 101, 116]⟩, ⟨#[104, 117, 98, 46, 110, 101, 116]⟩⟩]⟩] := by unfold Db E3; rw [if_neg (by omega), if_pos h]
theorem mh {r : Rd} (h : Ac r 5 = 2) : Db r = [⟨⟨#[111, 110, 101, 46, 111, 114, 103]⟩, [⟨#[111, 110, 101, 46, 111, 114, 103]⟩, ⟨#[97, 46, 111, 110, 101, 46, 111, 114, 103]⟩], [⟨⟨#[116, 119, 111, 46, 111, 114, 103]⟩, ⟨#[116, 119, 111, 46, 111, 114, 103]⟩⟩, ⟨⟨#[110, 101, 116]⟩, ⟨#[104, 117, 98, 46, 110, 101, 116]⟩⟩]⟩, ⟨⟨#[116, 119, 111, 46, 111, 114, 103]⟩, [⟨#[116, 119, 111, 46, 111, 114, 103]⟩], [⟨⟨#[111, 114, 103]⟩, ⟨#[111, 110, 101, 46, 111, 114, 103]⟩⟩, ⟨⟨#[104, 117, 98, 46, 110, 101, 116]⟩, ⟨#[104, 117, 98, 46, 110, 101, 116]⟩⟩, ⟨⟨#[99, 111, 109]⟩, ⟨#[104, 117, 98, 46, 110, 101, 116]⟩⟩]⟩, ⟨⟨#[104, 117, 98, 46, 110, 101, 116]⟩, [⟨#[104, 117, 98, 46, 110, 101, 116]⟩, ⟨#[111, 116, 104, 101, 114, 46, 99, 111, 109]⟩], [⟨⟨#[111, 110, 101, 46, 111, 114, 103]⟩, ⟨#[111, 110, 101, 46, 111, 114, 103]⟩⟩, ⟨⟨#[116, 119, 111, 46, 111, 114, 103]⟩, ⟨#[116, 119, 111, 46, 111, 114, 103]⟩⟩, ⟨⟨#[102, 97, 114, 46, 99, 111, 109]⟩, ⟨#[103, 111, 110, 101, 46, 99, 111, 109]⟩⟩, ⟨⟨#[120, 46, 99, 111, 109]⟩, ⟨#[116, 119, 111, 46, 111, 114, 103]⟩⟩]⟩] := by unfold Db E3; rw [if_neg (by omega), if_neg (by omega), if_pos h]
theorem mi {r : Rd} (h : ¬ Ac r 5 = 0 ∧ ¬ Ac r 5 = 1 ∧ ¬ Ac r 5 = 2) : Db r = [⟨⟨#[111, 110, 101, 46, 111, 114, 103]⟩, [⟨#[111, 110, 101, 46, 111, 114, 103]⟩, ⟨#[97, 46, 111, 110, 101, 46, 111, 114, 103]⟩], [⟨⟨#[116, 119, 111, 46, 111, 114, 103]⟩, ⟨#[116, 119, 111, 46, 111, 114, 103]⟩⟩, ⟨⟨#[110, 101, 116]⟩, ⟨#[104, 117, 98, 46, 110, 101, 116]⟩⟩, ⟨⟨#[99, 111, 109]⟩, ⟨#[104, 117, 98, 46, 110, 101, 116]⟩⟩]⟩, ⟨⟨#[116, 119, 111, 46, 111, 114, 103]⟩, [⟨#[116, 119, 111, 46, 111, 114, 103]⟩], [⟨⟨#[111, 114, 103]⟩, ⟨#[111, 110, 101, 46, 111, 114, 103]⟩⟩, ⟨⟨#[104, 117, 98, 46, 110, 101, 116]⟩, ⟨#[104, 117, 98, 46, 110, 101, 116]⟩⟩]⟩, ⟨⟨#[104, 117, 98, 46, 110, 101, 116]⟩, [⟨#[104, 117, 98, 46, 110, 101, 116]⟩, ⟨#[111, 116, 104, 101, 114, 46, 99, 111, 109]⟩], [⟨⟨#[111, 110, 101, 46, 111, 114, 103]⟩, ⟨#[111, 110, 101, 46, 111, 114, 103]⟩⟩, ⟨⟨#[116, 119, 111, 46, 111, 114, 103]⟩, ⟨#[116, 119, 111, 46, 111, 114, 103]⟩⟩, ⟨⟨#[102, 97, 114, 46, 99, 111, 109]⟩, ⟨#[103, 111, 110, 101, 46, 99, 111, 109]⟩⟩, ⟨⟨#[120, 46, 99, 111, 109]⟩, ⟨#[116, 119, 111, 46, 111, 114, 103]⟩⟩]⟩] := by unfold Db E3; rw [if_neg h.1, if_neg h.2.1, if_neg h.2.2]
def OV (c : Cf) : Bool := Nat.ble c.name.size 100 && (Nat.ble c.own.length 10 && (c.own.all (fun s => Nat.ble s.size 100) && (Nat.ble c.ways.length 10 && c.ways.all fun w => Nat.ble w.ends.size 100 && Nat.ble w.to.size 100)))
theorem Mm (k : Int) : (E3 k).all OV = true ∧ 2 ≤ (E3 k).length ∧ (E3 k).length ≤ 3 := by
 unfold E3
 split
 ·exact ⟨by decide +kernel, by decide, by decide⟩
 ·split
  ·exact ⟨by decide +kernel, by decide, by decide⟩
  ·split
   ·exact ⟨by decide +kernel, by decide, by decide⟩
   ·exact ⟨by decide +kernel, by decide, by decide⟩
def VY (r : Rd) : Cf := (Db r).getD (Ac (r.nx 1) (Db r).length).toNat default
theorem iO {r : Rd} (h : 0 ≤ r.p) (h1 : r.p ≤ 999999000) : OV (VY r) = true := by
 have hb := Bd (r := r.nx 1) (n := (Db r).length) (by rw [AK]; omega) (by rw [AK]; omega)
 obtain ⟨h2, h3, h4⟩ := Mm (Ac r 5)
 have e : E3 (Ac r 5) = Db r := rfl
 rw [e] at h2 h3
 exact List.all_eq_true.1 h2 _ (AE (by omega))
def Bv (r : Rd) : Cf × Rd :=
 let c := VY r
 let k := Ac (r.nx 2) 10
 if k = 0 then (⟨L7 (r.nx 3) [⟨#[]⟩, ⟨#[65]⟩, ⟨#[97, 46, 46, 98]⟩], c.own, c.ways⟩, r.nx 4)
 else if k = 1 then (⟨c.name, c.own ++ [⟨#[98, 46, 111, 114, 103]⟩, ⟨#[99, 46, 111, 114, 103]⟩], c.ways⟩, r.nx 3)
 else if k = 2 then (⟨c.name, c.own, c.ways ++ [⟨L7 (r.nx 3) [⟨#[]⟩, ⟨#[98, 46, 111, 114, 103]⟩, ⟨#[111, 110, 101, 46, 111, 114, 103]⟩], ⟨#[116, 119, 111, 46, 111, 114, 103]⟩⟩]⟩, r.nx 4)
 else (c, r.nx 3)
theorem TD {r : Rd} (h : Ac (r.nx 2) 10 = 0) : Bv r = (⟨L7 (r.nx 3) [⟨#[]⟩, ⟨#[65]⟩, ⟨#[97, 46, 46, 98]⟩], (VY r).own, (VY r).ways⟩, r.nx 4) := by unfold Bv; dsimp only; rw [if_pos h]
theorem TE {r : Rd} (h : Ac (r.nx 2) 10 = 1) : Bv r = (⟨(VY r).name, (VY r).own ++ [⟨#[98, 46, 111, 114, 103]⟩, ⟨#[99, 46, 111, 114, 103]⟩], (VY r).ways⟩, r.nx 3) := by unfold Bv; dsimp only; rw [if_neg (by omega), if_pos h]
theorem TF {r : Rd} (h : Ac (r.nx 2) 10 = 2) : Bv r = (⟨(VY r).name, (VY r).own, (VY r).ways ++ [⟨L7 (r.nx 3) [⟨#[]⟩, ⟨#[98, 46, 111, 114, 103]⟩, ⟨#[111, 110, 101, 46, 111, 114, 103]⟩], ⟨#[116, 119, 111, 46, 111, 114, 103]⟩⟩]⟩, r.nx 4) := by unfold Bv; dsimp only; rw [if_neg (by omega), if_neg (by omega), if_pos h]
theorem TG {r : Rd} (h : ¬ Ac (r.nx 2) 10 = 0 ∧ ¬ Ac (r.nx 2) 10 = 1 ∧ ¬ Ac (r.nx 2) 10 = 2) : Bv r = (VY r, r.nx 3) := by unfold Bv; dsimp only; rw [if_neg h.1, if_neg h.2.1, if_neg h.2.2]
theorem CP {n : Nat} {es : List (List T)} : cellAV false (.sl n es) = .t (.sl n es) := rfl
theorem iP {r : Rd} : (Db r).getD (Ac (r.nx 1) (Db r).length).toNat default = VY r := rfl
def Xm : Mt := Gu (lc D2 l0) (fun p => 0 ≤ p.1.p ∧ p.1.p ≤ 999990000) (fun p => ([D2.enc (p.1.nx 1)], .o false 3 ((Db p.1).map DK)))
section
attribute [local go_sem] GL AK Bf A1 A4 BC BS CD BQ BT lm List.length_append List.length_cons List.length_nil List.map_append List.map_nil Nat.zero_add List.nil_append AS.opn AS.cls AS.nilb AS.renb AS.up Bool.not_false Bool.not_true List.set_set List.set_cons_zero List.set_cons_succ List.set_nil List.mem_singleton forall_eq E4 AY BZ Gn Gp Gq Dm Dn Tj
set_option maxHeartbeats 6400000 in
theorem du {G : Gt} (hG : Ah G) (hh : G.e 53 = AN GL) : Gd G 151 (AN Xm) := by
 refine I5 (dp := fun n => !(Nat.beq n 36 || Nat.beq n 52)) (fn := Tryz.f151) (n := 1) rfl rfl hG ?_
 rintro ⟨r, ⟨⟩⟩ hpre
 obtain ⟨h1, h2⟩ := hpre
 try dsimp only at h1 h2 ⊢
 by_cases c0 : Ac r 5 = 0
 ·skip
  rw [mf c0]
  simp -implicitDefEqProofs only [Tryz.f151, c0, eq_self, decide_true, decide_false, Int.reduceEq, go_sem, hh, Int.reduceAdd, seval]
  with_reducible repeat' (first | apply ai | intro _ | ((first | apply s1 | apply s3 | apply s4) <;> intro hb <;> simp -implicitDefEqProofs only [hb, go_sem, hh, Int.reduceAdd, seval] <;> try simp only [qz] at hb))
  all_goals (try simp only [maxLen, tn] at *)
  all_goals first | rfl | omega | decide | assumption | (show AX _ = true; rfl) | skip
 ·by_cases c1 : Ac r 5 = 1
  ·skip
   rw [mg c1]
   simp -implicitDefEqProofs only [Tryz.f151, c1, eq_self, decide_true, decide_false, Int.reduceEq, go_sem, hh, Int.reduceAdd, seval]
   with_reducible repeat' (first | apply ai | intro _ | ((first | apply s1 | apply s3 | apply s4) <;> intro hb <;> simp -implicitDefEqProofs only [hb, go_sem, hh, Int.reduceAdd, seval] <;> try simp only [qz] at hb))
   all_goals (try simp only [maxLen, tn] at *)
   all_goals first | rfl | omega | decide | assumption | (show AX _ = true; rfl) | skip
  ·by_cases c2 : Ac r 5 = 2
   ·skip
    rw [mh c2]
    simp -implicitDefEqProofs only [Tryz.f151, c2, eq_self, decide_true, decide_false, Int.reduceEq, go_sem, hh, Int.reduceAdd, seval]
    with_reducible repeat' (first | apply ai | intro _ | ((first | apply s1 | apply s3 | apply s4) <;> intro hb <;> simp -implicitDefEqProofs only [hb, go_sem, hh, Int.reduceAdd, seval] <;> try simp only [qz] at hb))
    all_goals (try simp only [maxLen, tn] at *)
    all_goals first | rfl | omega | decide | assumption | (show AX _ = true; rfl) | skip
   ·skip
    rw [mi ⟨c0, c1, c2⟩]
    simp -implicitDefEqProofs only [Tryz.f151, c0, c1, c2, eq_self, decide_true, decide_false, Int.reduceEq, go_sem, hh, Int.reduceAdd, seval]
    with_reducible repeat' (first | apply ai | intro _ | ((first | apply s1 | apply s3 | apply s4) <;> intro hb <;> simp -implicitDefEqProofs only [hb, go_sem, hh, Int.reduceAdd, seval] <;> try simp only [qz] at hb))
    all_goals (try simp only [maxLen, tn] at *)
    all_goals first | rfl | omega | decide | assumption | (show AX _ = true; rfl) | skip
end
def lJ : Mt := Gu (lc D2 l0) (fun p => 0 ≤ p.1.p ∧ p.1.p ≤ 999990000) (fun p => ([D2.enc (p.1.nx 2)], H3.ag.enc (VY p.1)))
section
attribute [local go_sem] GL Xm AK Bf A1 A4 BC BS CD BQ BT lm List.length_append List.length_cons List.length_nil List.map_append List.map_nil Nat.zero_add List.nil_append AS.opn AS.cls AS.nilb AS.renb AS.up Bool.not_false Bool.not_true List.set_set List.set_cons_zero List.set_cons_succ List.set_nil List.mem_singleton forall_eq iP CP AY
set_option maxHeartbeats 1600000 in
theorem dW {G : Gt} (hG : Ah G) (hh : G.e 53 = AN GL ∧ G.e 151 = AN Xm) : Gd G 130 (AN lJ) := by
 refine I5 (dp := fun _ => true) (fn := Tryz.f130) (n := 1) rfl rfl hG ?_
 rintro ⟨r, ⟨⟩⟩ hpre
 obtain ⟨h1, h2⟩ := hpre
 try dsimp only at h1 h2 ⊢
 obtain ⟨q2, q3, q4⟩ := Mm (Ac r 5)
 have e : E3 (Ac r 5) = Db r := rfl
 rw [e] at q3 q4
 have hb := Bd (r := r.nx 1) (n := (Db r).length) (by rw [AK]; omega) (by rw [AK]; omega)
 simp -implicitDefEqProofs only [Tryz.f130, go_sem, hh, Int.reduceAdd, seval]
 with_reducible repeat' (first | apply ai | intro _ | ((first | apply s1 | apply s3 | apply s4) <;> intro hb <;> simp -implicitDefEqProofs only [hb, go_sem, hh, Int.reduceAdd, seval] <;> try simp only [qz] at hb))
 all_goals (try simp only [maxLen, tn] at *)
 all_goals first | rfl | omega | decide | assumption | (show AX _ = true; rfl) | skip
end
def rx : Mt := Gu (lc D2 l0) (fun p => 0 ≤ p.1.p ∧ p.1.p ≤ 999980000) (fun p => ([D2.enc (Bv p.1).2], H3.ag.enc (Bv p.1).1))
section
attribute [local go_sem] GL P7 lJ AK Bf A1 A4 BC BS CD BQ BT lm List.length_append List.length_cons List.length_nil List.map_append List.map_nil Nat.zero_add List.nil_append AS.opn AS.cls AS.nilb AS.renb AS.up Bool.not_false Bool.not_true List.set_set List.set_cons_zero List.set_cons_succ List.set_nil List.mem_singleton forall_eq iP AY E4 E5 Gn Gp Gq Dm Dn Tj
set_option maxHeartbeats 6400000 in
theorem pC {G : Gt} (hG : Ah G) (hh : G.e 53 = AN GL ∧ G.e 30 = AN P7 ∧ G.e 130 = AN lJ) : Gd G 78 (AN rx) := by
 refine I5 (dp := fun _ => true) (fn := Tryz.f78) (n := 1) rfl rfl hG ?_
 rintro ⟨r, ⟨⟩⟩ hpre
 obtain ⟨h1, h2⟩ := hpre
 try dsimp only at h1 h2 ⊢
 have hc := iO h1 (show r.p ≤ 999999000 by omega)
 unfold OV at hc
 simp only [Bool.and_eq_true, Nat.ble_eq] at hc
 obtain ⟨z1, z2, z3, z4, z5⟩ := hc
 by_cases c0 : Ac (r.nx 2) 10 = 0
 ·rw [TD c0]
  simp -implicitDefEqProofs only [Tryz.f78, c0, eq_self, decide_true, decide_false, Int.reduceEq, go_sem, hh, Int.reduceAdd, seval]
  with_reducible repeat' (first | apply ai | intro _ | ((first | apply s1 | apply s3 | apply s4) <;> intro hb <;> simp -implicitDefEqProofs only [hb, go_sem, hh, Int.reduceAdd, seval] <;> try simp only [qz] at hb))
  all_goals (try simp only [maxLen, tn] at *)
  all_goals first | rfl | omega | decide | assumption | (show AX _ = true; rfl) | skip
 ·by_cases c1 : Ac (r.nx 2) 10 = 1
  ·rw [TE c1]
   simp -implicitDefEqProofs only [Tryz.f78, c1, eq_self, decide_true, decide_false, Int.reduceEq, go_sem, hh, Int.reduceAdd, seval]
   with_reducible repeat' (first | apply ai | intro _ | ((first | apply s1 | apply s3 | apply s4) <;> intro hb <;> simp -implicitDefEqProofs only [hb, go_sem, hh, Int.reduceAdd, seval] <;> try simp only [qz] at hb))
   all_goals (try simp only [maxLen, tn] at *)
   all_goals first | rfl | omega | decide | assumption | (show AX _ = true; rfl) | (rename_i q; simp only [List.mem_cons, List.not_mem_nil, or_false] at q; rcases q with rfl | rfl <;> rfl) | skip
  ·by_cases c2 : Ac (r.nx 2) 10 = 2
   ·rw [TF c2]
    simp -implicitDefEqProofs only [Tryz.f78, c2, eq_self, decide_true, decide_false, Int.reduceEq, go_sem, hh, Int.reduceAdd, seval]
    with_reducible repeat' (first | apply ai | intro _ | ((first | apply s1 | apply s3 | apply s4) <;> intro hb <;> simp -implicitDefEqProofs only [hb, go_sem, hh, Int.reduceAdd, seval] <;> try simp only [qz] at hb))
    all_goals (try simp only [maxLen, tn] at *)
    all_goals first | rfl | omega | decide | assumption | (show AX _ = true; rfl) | skip
   ·rw [TG ⟨c0, c1, c2⟩]
    simp -implicitDefEqProofs only [Tryz.f78, c0, c1, c2, eq_self, decide_true, decide_false, Int.reduceEq, go_sem, hh, Int.reduceAdd, seval]
    with_reducible repeat' (first | apply ai | intro _ | ((first | apply s1 | apply s3 | apply s4) <;> intro hb <;> simp -implicitDefEqProofs only [hb, go_sem, hh, Int.reduceAdd, seval] <;> try simp only [qz] at hb))
    all_goals (try simp only [maxLen, tn] at *)
    all_goals first | rfl | omega | decide | assumption | (show AX _ = true; rfl) | skip
end
section
attribute [local go_sem] lm
end
section
attribute [local go_sem] rH lm
end
section
attribute [local go_sem] rH lm
end
section
attribute [local go_sem] lm
end
def WF (s : ByteArray) : Nat → Nat → Int → Int
 | 0, _, n => if s.size = 0 ∨ (1 < s.size ∧ AC s 0 = 48) then -1 else n
 | k + 1, i, n => if 48 ≤ AC s i ∧ AC s i ≤ 57 ∧ i < 9 then WF s k (i + 1) (n * 10 + (AC s i - 48)) else -1
def PU (s : ByteArray) : Int := WF s s.size 0 0
theorem Zn {s : ByteArray} {i : Nat} {n : Int} (h : i < s.size) : WF s (s.size - i) i n = if 48 ≤ AC s i ∧ AC s i ≤ 57 ∧ i < 9 then WF s (s.size - (i + 1)) (i + 1) (n * 10 + (AC s i - 48)) else -1 := by
 have e : s.size - i = (s.size - (i + 1)) + 1 := by omega
 rw [e]; rfl
theorem Zm {s : ByteArray} {i : Nat} {n : Int} (h : s.size ≤ i) : WF s (s.size - i) i n = if s.size = 0 ∨ (1 < s.size ∧ AC s 0 = 48) then -1 else n := by
 have e : s.size - i = 0 := by omega
 rw [e]; rfl
def mR : Ct := Aq (lc Ap l0) (fun p => p.1.size ≤ 3) (fun p => .t (.v (.int .i64 (PU p.1))))
set_option maxHeartbeats 1600000 in
theorem fC {G : Gt} (hG : Ah G) : Gd G 218 (AA 0 mR) := by
 refine gr (fn := Tryz.f218) (n := 1) rfl rfl hG ?_
 rintro ⟨s, ⟨⟩⟩ hpre
 simp -implicitDefEqProofs only [Tryz.f218, go_sem, seval] at hpre ⊢
 refine AF [] (ι := {p : Nat × Int // p.1 ≤ s.size ∧ 0 ≤ p.2 ∧ (p.1 = 0 → p.2 = 0) ∧ (p.1 ≤ 1 → p.2 ≤ 9) ∧ (p.1 ≤ 2 → p.2 ≤ 99) ∧ p.2 ≤ 999 ∧ WF s (s.size - p.1) p.1 p.2 = PU s}) (fun p => ⟨[(0, .t (.v (.string s))), (3, .t (.v (.int .i64 p.1.2))), (4, .t (.v (.int .i64 p.1.1)))], []⟩) (fun p => s.size - p.1.1) ⟨(0, 0), by simp, by simp, by simp, by simp, by simp, by simp, rfl⟩ rfl ?_ ?_
 ·simp -implicitDefEqProofs only [go_sem, seval]
  try simp
 ·rintro ⟨⟨i, n⟩, hi, h0, h1, h2, h3, h4, hv⟩
  dsimp only at hi h0 h1 h2 h3 h4 hv
  simp -implicitDefEqProofs only [go_sem, seval]
  with_reducible repeat' (first | apply ai | intro _ | ((first | apply s1 | apply s3 | apply s4) <;> intro hb <;> simp -implicitDefEqProofs only [hb, go_sem, seval] <;> try simp only [qz] at hb))
  all_goals (try simp only [maxLen, tn, Int.toNat_zero] at *)
  all_goals (try have hbr := A6 s i)
  all_goals first | rfl | omega | skip
  all_goals (by_cases hlt : i < s.size)
  all_goals first
   | omega
   | (rw [Zn hlt, if_neg (by omega)] at hv; rw [← hv]; done)
   | (rw [Zm (by omega), if_pos (by omega)] at hv; rw [← hv]; done)
   | (rw [Zm (by omega), if_neg (by omega)] at hv; rw [← hv]; done)
   | (rw [Zn hlt, if_pos (by omega)] at hv
      refine ⟨⟨(i + 1, n * 10 + (AC s i - 48)), by dsimp only; omega, by dsimp only; omega, by dsimp only; omega, by dsimp only; omega, by dsimp only; omega, by dsimp only; omega, hv⟩, by dsimp only; omega, ?_⟩
      simp -implicitDefEqProofs only [go_sem, seval]
      try simp
      done)
   | skip
theorem wm (i : Nat) : ((i : Int) + 1).toNat = i + 1 := by omega
def LN (s : ByteArray) : Nat → Nat → Nat → List ByteArray × Nat
 | 0, _, fr => ([], fr)
 | k + 1, i, fr => if i + 1 < s.size then (if AC s i = 13 ∧ AC s (i + 1) = 10 then (s.extract fr i :: (LN s k (i + 2) (i + 2)).1, (LN s k (i + 2) (i + 2)).2) else LN s k (i + 1) fr) else ([], fr)
def Ni (s : ByteArray) : List ByteArray := (LN s s.size 0 0).1
def pi (s : ByteArray) : ByteArray := s.extract (LN s s.size 0 0).2 s.size
theorem s8 {s : ByteArray} {k i fr : Nat} (h : i + 1 < s.size) (c : AC s i = 13 ∧ AC s (i + 1) = 10) : LN s (k + 1) i fr = (s.extract fr i :: (LN s k (i + 2) (i + 2)).1, (LN s k (i + 2) (i + 2)).2) := by
 rw [LN, if_pos h, if_pos c]
theorem s7 {s : ByteArray} {k i fr : Nat} (h : i + 1 < s.size) (c : ¬ (AC s i = 13 ∧ AC s (i + 1) = 10)) : LN s (k + 1) i fr = LN s k (i + 1) fr := by
 rw [LN, if_pos h, if_neg c]
theorem jT {s : ByteArray} {k i fr : Nat} (h : ¬ i + 1 < s.size) : LN s k i fr = ([], fr) := by
 cases k with
 | zero => rfl
 | succ k => rw [LN, if_neg h]
theorem ZY (s : ByteArray) : ∀ k i fr, fr ≤ i → i ≤ s.size → (LN s k i fr).2 ≤ s.size ∧ ((LN s k i fr).1.length + i ≤ s.size) ∧ ∀ x ∈ (LN s k i fr).1, x.size ≤ s.size
 | 0, i, fr, h, hi => ⟨by show fr ≤ s.size; omega, by show 0 + i ≤ s.size; omega, fun x hx => by cases hx⟩
 | k + 1, i, fr, h, hi => by
   rw [LN]
   split
   ·split
    ·have q := ZY s k (i + 2) (i + 2) (Nat.le_refl _) (by omega)
     refine ⟨q.1, by show (LN s k (i + 2) (i + 2)).1.length + 1 + i ≤ s.size; omega, fun x hx => ?_⟩
     rcases List.mem_cons.1 hx with rfl | hx
     ·rw [ByteArray.size_extract]; omega
     ·exact q.2.2 x hx
    ·have q := ZY s k (i + 1) fr (by omega) (by omega)
     exact ⟨q.1, by omega, q.2.2⟩
   ·exact ⟨by show fr ≤ s.size; omega, by show 0 + i ≤ s.size; omega, fun x hx => by cases hx⟩
theorem jU (s : ByteArray) : (Ni s).length ≤ s.size ∧ (∀ x ∈ Ni s, x.size ≤ s.size) ∧ (pi s).size ≤ s.size := by
 have q := ZY s s.size 0 0 (Nat.le_refl _) (by omega)
 unfold Ni pi
 exact ⟨by omega, q.2.2, by rw [ByteArray.size_extract]; omega⟩
def mO : Ct := Aq (lc Ap l0) (fun p => p.1.size ≤ 2000000) (fun p => .tup [.o true 1 ((Ni p.1).map AH), .t (.v (.string (pi p.1)))])
section
attribute [local go_sem] lm List.map_nil List.length_append List.length_cons List.length_nil
set_option maxHeartbeats 1600000 in
theorem ey {G : Gt} (hG : Ah G) : Gd G 214 (AA 0 mO) := by
 refine gr (fn := Tryz.f214) (n := 1) rfl rfl hG ?_ (hs := fun _ _ => .tup _ fun c hc => by
  simp only [List.mem_cons, List.not_mem_nil, or_false] at hc
  rcases hc with rfl | rfl
  ·exact .deep _ _
  ·exact .v _)
 rintro ⟨s, ⟨⟩⟩ hpre
 simp -implicitDefEqProofs only [Tryz.f214, go_sem, seval] at hpre ⊢
 with_reducible repeat' (first | apply ai | intro _ | ((first | apply s1 | apply s3 | apply s4) <;> intro hb <;> simp -implicitDefEqProofs only [hb, go_sem, seval] <;> try simp only [qz] at hb))
 all_goals first | rfl | omega | skip
 refine AF [(4, 901, true, 1)] (ι := {p : Nat × Nat × Nat × List ByteArray // p.2.2.1 ≤ p.2.1 ∧ (p.2.1 ≤ s.size ∧ p.2.2.2.length ≤ p.2.1 ∧ s.size ≤ p.1 + p.2.1) ∧ p.2.2.2 ++ (LN s p.1 p.2.1 p.2.2.1).1 = Ni s ∧ s.extract (LN s p.1 p.2.1 p.2.2.1).2 s.size = pi s}) (fun p => ⟨[(0, .t (.v (.string s))), (4, .h 901), (5, .t (.v (.int .i64 p.1.2.2.1))), (6, .t (.v (.int .i64 p.1.2.1)))], [(901, some (.arr true 1 (p.1.2.2.2.map AH)))]⟩) (fun p => s.size - p.1.2.1) ⟨(s.size, 0, 0, []), by simp, by simp, rfl, rfl⟩ rfl ?_ ?_
 ·simp -implicitDefEqProofs only [go_sem, seval]
  try simp
 ·rintro ⟨⟨k, i, fr, out⟩, hf, ⟨hi, ho, hk⟩, h1, h2⟩
  dsimp only at hf hi ho hk h1 h2
  simp -implicitDefEqProofs only [go_sem, seval]
  with_reducible repeat' (first | apply ai | intro _ | ((first | apply s1 | apply s3 | apply s4) <;> intro hb <;> simp -implicitDefEqProofs only [hb, go_sem, seval] <;> try simp only [qz] at hb))
  all_goals (try simp only [maxLen, tn, wm] at *)
  all_goals first
   | rfl
   | omega
   | (rename_i q; simp only [List.mem_singleton] at q; subst q; rfl)
   | (simp only [List.mem_singleton] at *; omega)
   | (rw [jT (by omega), List.append_nil] at h1; rw [h1]; done)
   | (rw [jT (by omega)] at h2; rw [← h2]; done)
   | (obtain ⟨k, rfl⟩ : ∃ j, k = j + 1 := ⟨k - 1, by omega⟩
      rw [s8 (by omega) ⟨by assumption, by assumption⟩] at h1 h2
      refine ⟨⟨(k, i + 2, i + 2, out ++ [s.extract fr i]), by dsimp only; omega, ⟨by dsimp only; omega, by simp; omega, by dsimp only; omega⟩, by simpa using h1, h2⟩, by dsimp only; omega, ?_⟩
      simp -implicitDefEqProofs only [go_sem, seval]
      simp [AH]
      try omega
      done)
   | (obtain ⟨k, rfl⟩ : ∃ j, k = j + 1 := ⟨k - 1, by omega⟩
      rw [s7 (by omega) (by omega)] at h1 h2
      refine ⟨⟨(k, i + 1, fr, out), by dsimp only; omega, ⟨by dsimp only; omega, by dsimp only; omega, by dsimp only; omega⟩, h1, h2⟩, by dsimp only; omega, ?_⟩
      simp -implicitDefEqProofs only [go_sem, seval]
      try simp
      done)
   | skip
end
def dg (n : Int) : ByteArray := Fi [48 + n]
theorem Mx (n : Int) : (dg n).size = 1 := rfl
def Ms (n : Int) : ByteArray := if n < 10 then dg n else dg (n / 10) ++ dg (n % 10)
theorem Mu {n : Int} (h : n < 10) : Ms n = dg n := if_pos h
theorem II (n : Int) : 1 ≤ (Ms n).size ∧ (Ms n).size ≤ 2 := by
 unfold Ms
 split
 ·rw [Mx]; omega
 ·rw [ByteArray.size_append, Mx, Mx]; omega
theorem nR {n : Int} (h : ¬ n < 10) : Ms n = dg (n / 10) ++ dg (n % 10) := if_neg h
def Ta : Ct := Aq (lc BI l0) (fun p => 0 ≤ p.1 ∧ p.1 < 10) (fun p => .t (.v (.string (Ms p.1))))
theorem Y7 {G : Gt} (hG : Ah G) : Gd G 184 (AA 0 Ta) := by
 refine gr (fn := Tryz.f184) (n := 1) rfl rfl hG ?_
 rintro ⟨n, ⟨⟩⟩ hpre
 simp -implicitDefEqProofs only [Tryz.f184, go_sem, seval] at hpre ⊢
 have h1 : 0 ≤ n := hpre.1
 have h2 : n < 10 := hpre.2
 with_reducible repeat' (first | apply ai | intro _ | ((first | apply s1 | apply s3 | apply s4) <;> intro hb <;> simp -implicitDefEqProofs only [hb, go_sem, seval] <;> try simp only [qz] at hb))
 all_goals (try simp only [maxLen, tn] at *)
 all_goals first | rfl | omega | (rw [Mu h2]; rfl) | skip
def cN : Ct := Aq (lc BI l0) (fun p => 0 ≤ p.1 ∧ p.1 < 100) (fun p => .t (.v (.string (Ms p.1))))
section
attribute [local go_sem] Ta
theorem Y8 {G : Gt} (hG : Ah G) (hh : G.e 184 = AA 0 Ta) : Gd G 184 (AA 0 cN) := by
 refine gr (fn := Tryz.f184) (n := 1) rfl rfl hG ?_
 rintro ⟨n, ⟨⟩⟩ hpre
 simp -implicitDefEqProofs only [Tryz.f184, go_sem, hh, seval] at hpre ⊢
 have h1 : 0 ≤ n := hpre.1
 have h2 : n < 100 := hpre.2
 with_reducible repeat' (first | apply ai | intro _ | ((first | apply s1 | apply s3 | apply s4) <;> intro hb <;> simp -implicitDefEqProofs only [hb, go_sem, hh, seval] <;> try simp only [qz] at hb))
 all_goals (try simp only [maxLen, tn] at *)
 all_goals first | rfl | omega | (rw [Mu (by omega)]; rfl) | (rw [nR (n := n) (by omega), Mu (n := n / 10) (by omega)]; rfl) | (rw [Mu (n := n / 10) (by omega)]; rfl) | (have := (II (n / 10)).2; have e : (Fi [48 + n % 10]).size = 1 := rfl; omega) | skip
end
theorem eL {G : Gt} (hG : Ah G) : Gd G 184 (AA 0 cN) := Y8 (G := P6 G.m [(184, AA 0 Ta)]) (AB MQ (Y7 (G := P6 G.m []) MQ)) rfl
theorem BH {g : Prop} (c : Prop) (h1 : c → g) (h2 : ¬ c → g) : g := (Classical.em c).elim h1 h2
theorem wj : (1 : Int).toNat = 1 := rfl
theorem Hf {l : ByteArray} (h : ¬ l = ⟨#[]⟩) : (0 : Int) < l.size := by
 have : ¬ l.size = 0 := fun e => h (ByteArray.size_eq_zero_iff.1 e)
 omega
def WC : Ml := ⟨⟨⟨#[]⟩, ⟨#[]⟩⟩, [], []⟩
def FT (s : Ss) : Ss := ⟨s.state, WC, false, s.buf⟩
theorem mj (s : Ss) : FT s = ⟨s.state, ⟨⟨⟨#[]⟩, ⟨#[]⟩⟩, [], []⟩, false, s.buf⟩ := rfl
open Classical in
noncomputable def As (l : ByteArray) (w : ByteArray) : ByteArray × Bool := (if (l.size : Int) < w.size then (⟨#[]⟩, false) else (if l.extract 0 w.size = w then (l.extract w.size l.size, true) else (⟨#[]⟩, false)))
theorem gI {l : ByteArray} {w : ByteArray} (h0 : (l.size : Int) < w.size) : As l w = (⟨#[]⟩, false) := by unfold As; rw [if_pos h0]
theorem gJ {l : ByteArray} {w : ByteArray} (h0 : ¬ ((l.size : Int) < w.size)) (h1 : l.extract 0 w.size = w) : As l w = (l.extract w.size l.size, true) := by unfold As; rw [if_neg h0, if_pos h1]
theorem gK {l : ByteArray} {w : ByteArray} (h0 : ¬ ((l.size : Int) < w.size)) (h1 : ¬ (l.extract 0 w.size = w)) : As l w = (⟨#[]⟩, false) := by unfold As; rw [if_neg h0, if_neg h1]
theorem NX (l w : ByteArray) : (As l w).1.size ≤ l.size := by
 unfold As
 split
 ·exact Nat.zero_le _
 ·split
  ·show (l.extract w.size l.size).size ≤ _; rw [ByteArray.size_extract]; omega
  ·exact Nat.zero_le _
def mV : Ct := Aq (lc Ap (lc Ap l0)) (fun p => True) (fun p => .tup [.t (.v (.string (As p.1 p.2.1).1)), .t (.v (.bool (As p.1 p.2.1).2))])
section
attribute [local go_sem] tn
theorem fG {G : Gt} (hG : Ah G) : Gd G 222 (AA 0 mV) := by
 refine gr (fn := Tryz.f222) (n := 2) rfl rfl hG ?_ (hs := fun _ _ => .tup _ fun c hc => by
  simp only [List.mem_cons, List.not_mem_nil, or_false] at hc
  rcases hc with rfl | rfl <;> exact .v _)
 rintro ⟨l, w, ⟨⟩⟩ hpre
 try dsimp only
 refine BH ((l.size : Int) < w.size) (fun h0 => have hx := And.intro (gI h0 : As l w = _) h0; ?_) (fun h0 => BH (l.extract 0 w.size = w) (fun h1 => have hx := And.intro (gJ h0 h1 : As l w = _) (And.intro h0 h1); ?_) (fun h1 => have hx := And.intro (gK h0 h1 : As l w = _) (And.intro h0 h1); ?_))
 all_goals
  try rw [hx.1]
  simp -implicitDefEqProofs only [Tryz.f222, hx, eq_self, decide_true, decide_false, Int.reduceEq, go_sem, seval]
  with_reducible repeat' (first | apply ai | intro _ | ((first | apply s1 | apply s3 | apply s4) <;> intro hb <;> simp -implicitDefEqProofs only [hb, go_sem, seval] <;> try simp only [qz] at hb))
  all_goals (try simp only [maxLen, tn, lm] at *)
  all_goals first | rfl | omega | decide | with_reducible assumption | (show AX _ = true; rfl) | exact Hf (by assumption) | contradiction | skip
end
def Qj : Ct := Aq (lc bc.ag l0) (fun p => True) (fun p => .agg ((Eh (FT p.1)).map .t))
section
attribute [local go_sem] mj AS.opn AS.cls AS.nilb AS.renb AS.up Bool.not_false Bool.not_true List.set_set List.set_cons_zero List.set_cons_succ List.set_nil List.mem_singleton forall_eq tn List.map_nil List.nil_append
theorem e9 {G : Gt} (hG : Ah G) : Gd G 215 (AA 1 Qj) := by
 refine gr (fn := Tryz.f215) (n := 1) rfl rfl hG ?_
 rintro ⟨s, ⟨⟩⟩ hpre
 simp -implicitDefEqProofs only [Tryz.f215, go_sem, seval] at hpre ⊢
 with_reducible repeat' (first | apply ai | intro _ | ((first | apply s1 | apply s3 | apply s4) <;> intro hb <;> simp -implicitDefEqProofs only [hb, go_sem, seval] <;> try simp only [qz] at hb))
 all_goals first | rfl | omega | decide | with_reducible assumption | (show AX _ = true; rfl) | exact Hf (by assumption) | contradiction | skip
end
open Classical in
noncomputable def Ei (s : Ss) (t : ByteArray) : Ss × ByteArray := (if s.state = 1 then (if GJ t then (⟨2, ⟨BD t, [], []⟩, s.bad, s.buf⟩, ⟨#[50, 53, 48, 32, 102, 114, 111, 109]⟩) else (s, ⟨#[53, 48, 49, 32, 102, 111, 114, 109]⟩)) else (s, ⟨#[53, 48, 51, 32, 111, 114, 100, 101, 114]⟩))
theorem np {s : Ss} {t : ByteArray} (h0 : s.state = 1) (h1 : GJ t) : Ei s t = (⟨2, ⟨BD t, [], []⟩, s.bad, s.buf⟩, ⟨#[50, 53, 48, 32, 102, 114, 111, 109]⟩) := by unfold Ei; rw [if_pos h0, if_pos h1]
theorem nq {s : Ss} {t : ByteArray} (h0 : s.state = 1) (h1 : ¬ (GJ t)) : Ei s t = (s, ⟨#[53, 48, 49, 32, 102, 111, 114, 109]⟩) := by unfold Ei; rw [if_pos h0, if_neg h1]
theorem nt {s : Ss} {t : ByteArray} (h0 : ¬ (s.state = 1)) : Ei s t = (s, ⟨#[53, 48, 51, 32, 111, 114, 100, 101, 114]⟩) := by unfold Ei; rw [if_neg h0]
def mW : Ct := Aq (lc bc.ag (lc Ap l0)) (fun p => p.2.1.size ≤ 2000000) (fun p => .tup [.agg ((Eh (Ei p.1 p.2.1).1).map .t), .t (.v (.string (Ei p.1 p.2.1).2))])
section
attribute [local go_sem] Xs Ri AS.opn AS.cls AS.nilb AS.renb AS.up Bool.not_false Bool.not_true List.set_set List.set_cons_zero List.set_cons_succ List.set_nil List.mem_singleton forall_eq tn List.map_nil List.nil_append
theorem fH {G : Gt} (hG : Ah G) (hh : G.e 226 = AA 0 Xs) : Gd G 223 (AA 1 mW) := by
 refine gr (fn := Tryz.f223) (n := 2) rfl rfl hG ?_
 rintro ⟨s, t, ⟨⟩⟩ hpre
 have hz : t.size ≤ 2000000 := hpre
 try dsimp only
 refine BH (s.state = 1) (fun h0 => BH (GJ t) (fun h1 => have h1' := Ak h1; have hx := And.intro (np h0 h1 : Ei s t = _) (And.intro h0 h1'); ?_) (fun h1 => have h1' := AO h1; have hx := And.intro (nq h0 h1 : Ei s t = _) (And.intro h0 h1'); ?_)) (fun h0 => have hx := And.intro (nt h0 : Ei s t = _) h0; ?_)
 all_goals
  try rw [hx.1]
  simp -implicitDefEqProofs only [Tryz.f223, hx, eq_self, decide_true, decide_false, Int.reduceEq, go_sem, hh, seval]
  with_reducible repeat' (first | apply ai | intro _ | ((first | apply s1 | apply s3 | apply s4) <;> intro hb <;> simp -implicitDefEqProofs only [hb, go_sem, hh, seval] <;> try simp only [qz] at hb))
  all_goals (try simp only [maxLen, tn, lm] at *)
  all_goals first | rfl | omega | decide | with_reducible assumption | (show AX _ = true; rfl) | exact Hf (by assumption) | contradiction | skip
end
theorem vG {a b : Ad} : (decide (a.user = b.user) && decide (a.domain = b.domain)) = decide (a = b) := by
 rw [← Bool.decide_and]; exact decide_eq_decide.2 B5.symm
theorem wc {b : Bool} : ((false != b) = true) = (b = true) := by cases b <;> rfl
theorem wb {b : Bool} : ((false != b) = false) = (b = false) := by cases b <;> rfl
theorem Za {α : Type} [Inhabited α] {xs : List α} {i : Nat} {a : α} (h : i < xs.length) (e : xs.getD i default = a) : a ∈ xs := e ▸ AE h
theorem Zk {α : Type} [Inhabited α] {xs : List α} {i : Nat} {a : α} (h : xs.length ≤ i) (hall : ∀ j, j < i → ¬ xs.getD j default = a) : ¬ a ∈ xs := fun q => by
 obtain ⟨k, hk, e⟩ := List.getElem_of_mem q
 exact hall k (by omega) (by simpa [hk] using e)
open Classical in
noncomputable def Ht (c : Cf) (s : Ss) (t : ByteArray) : Ss × ByteArray := (if s.state = 2 ∨ s.state = 3 then (if GJ t then (if AZ (BD t) then (s, ⟨#[53, 48, 49, 32, 102, 111, 114, 109]⟩) else (if DG c (BD t) then (if BD t ∈ s.mail.to then (s, ⟨#[50, 53, 48, 32, 116, 111]⟩) else (if (s.mail.to.length : Int) ≥ 4 then (s, ⟨#[52, 53, 50, 32, 109, 97, 110, 121]⟩) else (⟨3, ⟨s.mail.frm, s.mail.to ++ [BD t], s.mail.body⟩, s.bad, s.buf⟩, ⟨#[50, 53, 48, 32, 116, 111]⟩))) else (s, ⟨#[53, 53, 48, 32, 110, 111, 98, 111, 100, 121]⟩))) else (s, ⟨#[53, 48, 49, 32, 102, 111, 114, 109]⟩)) else (s, ⟨#[53, 48, 51, 32, 111, 114, 100, 101, 114]⟩))
theorem tl {c : Cf} {s : Ss} {t : ByteArray} (h0 : s.state = 2 ∨ s.state = 3) (h1 : GJ t) (h2 : AZ (BD t)) : Ht c s t = (s, ⟨#[53, 48, 49, 32, 102, 111, 114, 109]⟩) := by unfold Ht; rw [if_pos h0, if_pos h1, if_pos h2]
theorem tm {c : Cf} {s : Ss} {t : ByteArray} (h0 : s.state = 2 ∨ s.state = 3) (h1 : GJ t) (h2 : ¬ (AZ (BD t))) (h3 : DG c (BD t)) (h4 : BD t ∈ s.mail.to) : Ht c s t = (s, ⟨#[50, 53, 48, 32, 116, 111]⟩) := by unfold Ht; rw [if_pos h0, if_pos h1, if_neg h2, if_pos h3, if_pos h4]
theorem tp {c : Cf} {s : Ss} {t : ByteArray} (h0 : s.state = 2 ∨ s.state = 3) (h1 : GJ t) (h2 : ¬ (AZ (BD t))) (h3 : DG c (BD t)) (h4 : ¬ (BD t ∈ s.mail.to)) (h5 : (s.mail.to.length : Int) ≥ 4) : Ht c s t = (s, ⟨#[52, 53, 50, 32, 109, 97, 110, 121]⟩) := by unfold Ht; rw [if_pos h0, if_pos h1, if_neg h2, if_pos h3, if_neg h4, if_pos h5]
theorem tq {c : Cf} {s : Ss} {t : ByteArray} (h0 : s.state = 2 ∨ s.state = 3) (h1 : GJ t) (h2 : ¬ (AZ (BD t))) (h3 : DG c (BD t)) (h4 : ¬ (BD t ∈ s.mail.to)) (h5 : ¬ ((s.mail.to.length : Int) ≥ 4)) : Ht c s t = (⟨3, ⟨s.mail.frm, s.mail.to ++ [BD t], s.mail.body⟩, s.bad, s.buf⟩, ⟨#[50, 53, 48, 32, 116, 111]⟩) := by unfold Ht; rw [if_pos h0, if_pos h1, if_neg h2, if_pos h3, if_neg h4, if_neg h5]
theorem tr {c : Cf} {s : Ss} {t : ByteArray} (h0 : s.state = 2 ∨ s.state = 3) (h1 : GJ t) (h2 : ¬ (AZ (BD t))) (h3 : ¬ (DG c (BD t))) : Ht c s t = (s, ⟨#[53, 53, 48, 32, 110, 111, 98, 111, 100, 121]⟩) := by unfold Ht; rw [if_pos h0, if_pos h1, if_neg h2, if_neg h3]
theorem tt {c : Cf} {s : Ss} {t : ByteArray} (h0 : s.state = 2 ∨ s.state = 3) (h1 : ¬ (GJ t)) : Ht c s t = (s, ⟨#[53, 48, 49, 32, 102, 111, 114, 109]⟩) := by unfold Ht; rw [if_pos h0, if_neg h1]
theorem tu {c : Cf} {s : Ss} {t : ByteArray} (h0 : ¬ (s.state = 2 ∨ s.state = 3)) : Ht c s t = (s, ⟨#[53, 48, 51, 32, 111, 114, 100, 101, 114]⟩) := by unfold Ht; rw [if_neg h0]
def mX : Ct := Aq (lc H3.ag (lc bc.ag (lc Ap l0))) (fun p => p.2.2.1.size ≤ 2000000 ∧ p.2.1.mail.to.length ≤ 1000) (fun p => .tup [.agg ((Eh (Ht p.1 p.2.1 p.2.2.1).1).map .t), .t (.v (.string (Ht p.1 p.2.1 p.2.2.1).2))])
section
attribute [local go_sem] Xs IF uh Ri AS.opn AS.cls AS.nilb AS.renb AS.up Bool.not_false Bool.not_true List.set_set List.set_cons_zero List.set_cons_succ List.set_nil List.mem_singleton forall_eq tn List.map_nil List.nil_append
set_option maxHeartbeats 3200000 in
theorem fI {G : Gt} (hG : Ah G) (hh : G.e 226 = AA 0 Xs ∧ G.e 119 = AA 0 IF ∧ G.e 62 = AA 0 uh) : Gd G 224 (AA 1 mX) := by
 refine gr (fn := Tryz.f224) (n := 3) rfl rfl hG ?_
 rintro ⟨c, s, t, ⟨⟩⟩ hpre
 obtain ⟨hz, hn⟩ := hpre
 try dsimp only at hz hn ⊢
 refine BH (s.state = 2 ∨ s.state = 3) (fun h0 => BH (GJ t) (fun h1 => have h1' := Ak h1; BH (AZ (BD t)) (fun h2 => have h2' := Ak h2; have hx := And.intro (tl h0 h1 h2 : Ht c s t = _) (And.intro h0 (And.intro h1' h2')); ?_) (fun h2 => have h2' := AO h2; BH (DG c (BD t)) (fun h3 => have h3' := Ak h3; ?w1) (fun h3 => have h3' := AO h3; have hx := And.intro (tr h0 h1 h2 h3 : Ht c s t = _) (And.intro h0 (And.intro h1' (And.intro h2' h3'))); ?_))) (fun h1 => have h1' := AO h1; have hx := And.intro (tt h0 h1 : Ht c s t = _) (And.intro h0 h1'); ?_)) (fun h0 => have hx := And.intro (tu h0 : Ht c s t = _) h0; ?_)
 case w1 =>
  simp -implicitDefEqProofs only [Tryz.f224, h0, h1', h2', h3', eq_self, decide_true, decide_false, go_sem, hh, seval]
  with_reducible repeat' (first | apply ai | intro _ | ((first | apply s1 | apply s3 | apply s4) <;> intro hb <;> simp -implicitDefEqProofs only [hb, go_sem, hh, seval] <;> try simp only [qz] at hb))
  all_goals (try simp only [maxLen, tn, lm] at *)
  all_goals first | rfl | omega | decide | with_reducible assumption | (show AX _ = true; rfl) | exact Hf (by assumption) | contradiction | skip
  all_goals
   refine AF [] (ι := {i : Nat // i ≤ s.mail.to.length ∧ ∀ j, j < i → ¬ s.mail.to.getD j default = BD t}) (fun p => ⟨[(4, .pb 1004 0), (6, .pb 1006 0), (8, .pb 1008 0), (10, .t (.v (.int .i64 p.1)))], [(1004, some (.box ((Eh s).map .t))), (1006, some (.box [.t (.v (.int .i64 0)), .t (.v (.string ⟨#[]⟩)), .t (.v (.string ⟨#[]⟩)), .nil, .nil, .t (.v (.bool false)), .t (.v (.string ⟨#[]⟩))])), (1008, some (.box [.t (.v (.string (BD t).user)), .t (.v (.string (BD t).domain))]))]⟩) (fun p => s.mail.to.length - p.1) ⟨0, by simp, by simp⟩ rfl ?_ ?_
   ·simp -implicitDefEqProofs only [go_sem, hh, seval]
    try simp
   ·rintro ⟨i, hi, hall⟩
    simp -implicitDefEqProofs only [go_sem, hh, seval]
    with_reducible repeat' (first | apply ai | intro _ | ((first | apply s1 | apply s3 | apply s4) <;> intro hb <;> simp -implicitDefEqProofs only [hb, go_sem, hh, seval] <;> try simp only [qz] at hb))
    all_goals (try simp only [maxLen, tn, lm, vG, wc, wb, qa, qb] at *)
    all_goals first
     | rfl | omega | decide | with_reducible assumption | (show AX _ = true; rfl) | exact Hf (by assumption) | contradiction
     | (rw [tm h0 h1 h2 h3 (Za (xs := s.mail.to) (i := i) (by omega) (by assumption))]; first | done | rfl)
     | (rw [tp h0 h1 h2 h3 (Zk (by omega) hall) (by omega)]; first | done | rfl)
     | (rw [tq h0 h1 h2 h3 (Zk (by omega) hall) (by omega)]; first | done | rfl | (simp [Ao]; done))
     | (refine ⟨⟨i + 1, by omega, fun j hj => ?_⟩, by dsimp only; omega, ?_⟩
        ·by_cases e : j = i
         ·subst e; assumption
         ·exact hall j (by omega)
        ·simp -implicitDefEqProofs only [go_sem, hh, seval]
         simp)
     | skip
 all_goals
  try rw [hx.1]
  simp -implicitDefEqProofs only [Tryz.f224, hx, eq_self, decide_true, decide_false, Int.reduceEq, go_sem, hh, seval]
  with_reducible repeat' (first | apply ai | intro _ | ((first | apply s1 | apply s3 | apply s4) <;> intro hb <;> simp -implicitDefEqProofs only [hb, go_sem, hh, seval] <;> try simp only [qz] at hb))
  all_goals (try simp only [maxLen, tn, lm] at *)
  all_goals first | rfl | omega | decide | with_reducible assumption | (show AX _ = true; rfl) | exact Hf (by assumption) | contradiction | skip
end
end Go.V
