/- The row. No condition. -/
import Derived.Test.YthmjinhpngfdbaaGreatDoorKA
import Derived.Test.YthmjinhpngfdbaaGreatDoorXB
namespace Go.V
open Go Go.Proofs
set_option maxRecDepth 100000
set_option linter.unusedSimpArgs false
set_option linter.unusedVariables false
def gN (a : ByteArray) : MK := .s a
theorem dK {a b : ByteArray} (h : gN a = gN b) : a = b := by
 simp only [gN, MK.s.injEq] at h
 exact h
theorem zT : H4 Tryz.prog 9 (some 0) := H4.str u9
theorem fe {x : ByteArray} : Ao.decL [[.v (.string x)]] = some [x] := Ao.decL_map [x]
def IN (xs : List ByteArray) : List (MK × Bool) := xs.foldl (fun es a => Lw (gN a) true es) []
theorem IP (xs : List ByteArray) (a : ByteArray) : IN (xs ++ [a]) = Lw (gN a) true (IN xs) := by simp [IN]
theorem W8 (xs : List ByteArray) (a : ByteArray) : gN a ∈ (IN xs).map Prod.fst ↔ a ∈ xs := by
 generalize hr : xs.reverse = r
 have hx : xs = r.reverse := by rw [← hr, List.reverse_reverse]
 subst hx
 clear hr
 induction r with
 | nil => simp [IN]
 | cons b r ih =>
   rw [List.reverse_cons, IP, Fw, List.mem_append, ← propext ih]
   by_cases h : gN b ∈ (IN r.reverse).map Prod.fst
   ·rw [if_pos h]
    constructor
    ·exact .inl
    ·rintro (h1 | h1)
     ·exact h1
     ·rw [List.mem_singleton.1 h1]; exact h
   ·rw [if_neg h, List.mem_append, List.mem_singleton, List.mem_singleton]
    exact or_congr_right ⟨dK, fun e => by rw [e]⟩
theorem W7 (xs : List ByteArray) : (IN xs).length ≤ xs.length ∧ ((IN xs).length = xs.length ↔ xs.Nodup) := by
 generalize hr : xs.reverse = r
 have hx : xs = r.reverse := by rw [← hr, List.reverse_reverse]
 subst hx
 clear hr
 induction r with
 | nil => simp [IN]
 | cons b r ih =>
   have hl : ∀ es : List (MK × Bool), es.length = (es.map Prod.fst).length := fun es => by rw [lm]
   have hn : (r.reverse ++ [b]).Nodup ↔ r.reverse.Nodup ∧ b ∉ r.reverse := by
    rw [List.nodup_append]
    constructor
    ·rintro ⟨h1, _, h3⟩
     exact ⟨h1, fun hb => h3 b hb b (by simp) rfl⟩
    ·rintro ⟨h1, h2⟩
     refine ⟨h1, by simp, fun x hx y hy e => ?_⟩
     rw [List.mem_singleton] at hy
     subst hy; subst e; exact h2 hx
   rw [List.reverse_cons, IP, hl, Fw, List.length_append, hn, ← W8]
   obtain ⟨i1, i2⟩ := ih
   by_cases h : gN b ∈ (IN r.reverse).map Prod.fst
   ·rw [if_pos h, ← hl]
    refine ⟨by omega, ⟨fun e => ?_, fun e => absurd h e.2⟩⟩
    simp at e i1; omega
   ·rw [if_neg h, List.length_append, ← hl]
    refine ⟨by simp at *; omega, ⟨fun e => ⟨i2.1 (by simp at *; omega), h⟩, fun e => ?_⟩⟩
    have := i2.2 e.1
    simp at *; omega
theorem R0 {xs : List ByteArray} {i : Nat} (h : i < xs.length) : xs.take (i + 1) = xs.take i ++ [xs.getD i default] := by
 rw [List.take_succ_eq_append_getElem h]
 simp [h]
theorem Ua {xs : List ByteArray} {i : Nat} (h : i < xs.length) : Lw (.s (xs.getD i default)) true (IN (xs.take i)) = IN (xs.take (i + 1)) := by
 rw [R0 h, IP]; rfl
def QM (l : Ls) : Prop := ¬ l.mark = ⟨#[]⟩ ∧ A6 [l.mark] = l.mark ∧ BL l.addr ∧ H0 l.mark
def ML (h : Hs) : ByteArray := h.conf.name
def EJ (w : Wd) : Prop := (∀ h ∈ w.hosts, HD h) ∧ (w.hosts.map ML).Nodup ∧ (∀ l ∈ w.given, QM l) ∧ (1 ≤ (w.hosts.length : Int) ∧ (w.hosts.length : Int) ≤ 4) ∧ (0 ≤ w.now ∧ w.now ≤ 9999) ∧ (0 ≤ w.marks ∧ w.marks ≤ 60)
theorem Ut {xs : List Hs} (h : ∀ j, j < xs.length → ∀ k, k < j → ¬ (xs.getD k default).conf.name = (xs.getD j default).conf.name) : (xs.map ML).Nodup := by
 rw [List.nodup_iff_pairwise_ne, List.pairwise_iff_getElem]
 intro k j hk hj hkj
 rw [lm] at hk hj
 have := h j hj k hkj
 simpa [hk, hj, ML] using this
theorem Uj {xs : List Hs} (h : (xs.map ML).Nodup) {k i : Nat} (hk : k < i) (hi : i < xs.length) : ¬ (xs.getD k default).conf.name = (xs.getD i default).conf.name := fun e => by
 have q1 : k < xs.length := by omega
 simp only [List.getD_eq_getElem?_getD, List.getElem?_eq_getElem q1, List.getElem?_eq_getElem hi, Option.getD_some] at e
 exact List.pairwise_iff_getElem.1 (List.nodup_iff_pairwise_ne.1 h) k i (by simpa using q1) (by simpa using hi) hk (by simpa [ML] using e)
theorem ZX {xs : List Hs} {i : Nat} (h : i < xs.length) : ((xs.map ML).take (i + 1)).map AG = ((xs.map ML).take i).map AG ++ [[.v (.string (xs.getD i default).conf.name)]] := by
 have e : (xs.map ML).getD i default = (xs.getD i default).conf.name := by
  simp only [List.getD_eq_getElem?_getD, List.getElem?_map, List.getElem?_eq_getElem h, Option.map_some, Option.getD_some]; rfl
 rw [Ay AG (by rw [lm]; exact h), e]
 rfl
def xh : Ct := Aj (lc Ao.asl l0) (fun p => True) (fun p => .t (.v (.bool (BA p.1.Nodup))))
section
attribute [local go_sem] BC BB Bool.not_true Bool.not_false Bc Cv iA
theorem uW {G : Gt} (hG : Ac G) : Gd G 65 (AA 0 xh) := by
 refine gr (fn := Tryz.f65) (n := 1) rfl hG ?_
 rintro ⟨xs, ⟨⟩⟩ hpre
 simp -implicitDefEqProofs only [Tryz.f65, go_sem, seval] at hpre ⊢
 with_reducible repeat' (first | apply ai | intro _ | ((first | apply s1 | apply s2 | apply s3 | apply s4) <;> intro hb <;> simp -implicitDefEqProofs only [hb, go_sem, seval] <;> try simp only [qz] at hb))
 all_goals first | rfl | omega | skip
 refine AC [] (ι := {i : Nat // i ≤ xs.length}) (fun p => ⟨[(0, .t (.sl 1 (xs.map AG))), (3, .h 1006), (7, .t (.sl 1 (xs.map AG))), (8, .t (.v (.int .i64 xs.length))), (9, .t (.v (.int .i64 p.1)))], [(1006, some (.mp (some 0) (IN (xs.take p.1))))]⟩) (fun p => xs.length - p.1) ⟨0, Nat.zero_le _⟩ rfl ?_ ?_
 ·simp -implicitDefEqProofs only [go_sem, seval]
  try simp
  rfl
 ·rintro ⟨i, hi⟩
  by_cases hlt : (i : Int) < xs.length
  ·simp -implicitDefEqProofs only [hlt, go_sem, seval]
   with_reducible repeat' (first | apply ai | intro _ | ((first | apply s1 | apply s2 | apply s3 | apply s4) <;> intro hb <;> simp -implicitDefEqProofs only [hb, go_sem, seval] <;> try simp only [qz] at hb))
   all_goals (try simp only [maxLen] at *)
   all_goals first | rfl | omega | exact zT | skip
   refine ⟨⟨i + 1, by omega⟩, by dsimp only; omega, ?_⟩
   simp -implicitDefEqProofs only [go_sem, seval]
   simp only [tn, Ua (show i < xs.length by omega)]
   try simp
  ·simp -implicitDefEqProofs only [hlt, go_sem, seval]
   with_reducible repeat' (first | apply ai | intro _ | ((first | apply s1 | apply s2 | apply s3 | apply s4) <;> intro hb <;> simp -implicitDefEqProofs only [hb, go_sem, seval] <;> try simp only [qz] at hb))
   all_goals first | rfl | omega | skip
   rw [List.take_of_length_le (by omega), ← AP (W7 xs).2, A4]
   refine congrArg (fun b => T.v (.bool b)) (decide_eq_decide.2 ?_)
   omega
end
open Classical in
noncomputable def TD (xs : List ByteArray) : ByteArray := if Ch xs then A6 xs else ⟨#[]⟩
theorem TF {xs : List ByteArray} (h : Ch xs) : TD xs = A6 xs := if_pos h
theorem TE {xs : List ByteArray} (h : ¬ Ch xs) : TD xs = ⟨#[]⟩ := if_neg h
theorem VX (x : ByteArray) : Ch [x] ↔ H0 x := by
 unfold Ch
 constructor
 ·intro h; exact h.1 x (by simp)
 ·intro h
  refine ⟨fun s hs => by rw [List.mem_singleton.1 hs]; exact h, by simp⟩
theorem yx (l : Ls) : (¬ l.mark = ⟨#[]⟩ ∧ TD [l.mark] = l.mark ∧ BL l.addr) ↔ QM l := by
 unfold QM
 by_cases h : H0 l.mark
 ·rw [TF ((VX _).2 h)]
  exact ⟨fun q => ⟨q.1, q.2.1, q.2.2, h⟩, fun q => ⟨q.1, q.2.1, q.2.2.1⟩⟩
 ·rw [TE (fun q => h ((VX _).1 q))]
  exact ⟨fun q => absurd q.2.1.symm q.1, fun q => absurd q.2.2.2 h⟩
def xg : Ct := Aj (lc Ao.asl l0) (fun p => ∀ s ∈ p.1, s.size ≤ 2000000) (fun p => .t (.v (.string (TD p.1))))
section
attribute [local go_sem] lA lB AK AM
theorem uV {G : Gt} (hG : Ac G) (hh : G.e 46 = AA 0 lA ∧ G.e 56 = AA 0 lB) : Gd G 64 (AA 0 xg) := by
 refine gr (fn := Tryz.f64) (n := 1) rfl hG ?_
 rintro ⟨xs, ⟨⟩⟩ hpre
 simp -implicitDefEqProofs only [Tryz.f64, go_sem, hh, seval] at hpre ⊢
 try dsimp only at hpre
 with_reducible repeat' (first | apply ai | intro _ | ((first | apply s1 | apply s2 | apply s3 | apply s4) <;> intro hb <;> simp -implicitDefEqProofs only [hb, go_sem, hh, seval] <;> try simp only [qz] at hb))
 all_goals first | rfl | omega | exact hpre _ (by assumption) | (rw [TF hb]; done) | (rw [TE hb]; done) | skip
end
def bi : Ct := Aj (lc OM.ag l0) (fun p => True) (fun p => .t (.v (.bool (BA (EJ p.1)))))
section
attribute [local go_sem] xR II Qr Ql Ln AK AM lm fe
set_option maxHeartbeats 6400000 in
theorem uO {G : Gt} (hG : Ac G) (hh : G.e 32 = AA 0 xR ∧ G.e 123 = AA 0 II ∧ G.e 61 = AA 0 Qr ∧ G.e 124 = AA 0 Ql ∧ G.e 36 = AA 0 Ln) : Gd G 58 (AA 0 bi) := by
 refine gr (fn := Tryz.f58) (n := 1) rfl hG ?_
 rintro ⟨w, ⟨⟩⟩ hpre
 simp -implicitDefEqProofs only [Tryz.f58, go_sem, hh, seval] at hpre ⊢
 refine AC [] (ι := {i : Nat // i ≤ w.hosts.length ∧ (∀ j, j < i → HD (w.hosts.getD j default)) ∧ ∀ j, j < i → ∀ k, k < j → ¬ (w.hosts.getD k default).conf.name = (w.hosts.getD j default).conf.name}) (fun p => ⟨[(1, .pb 1001 0), (3, .t (.v (.int .i64 p.1)))], [(1001, some (.box ((CP w).map .t)))]⟩) (fun p => w.hosts.length - p.1) ⟨0, by simp, by simp, by simp⟩ rfl ?_ ?_
 ·simp -implicitDefEqProofs only [go_sem, hh, seval]
  try simp
 ·rintro ⟨i, hi, hall, hno⟩
  by_cases hlt : (i : Int) < w.hosts.length
  ·simp -implicitDefEqProofs only [hlt, decide_true, tn, go_sem, hh, seval]
   with_reducible repeat' (first | apply ai | intro _ | ((first | apply s1 | apply s2 | apply s3 | apply s4) <;> intro hb <;> simp -implicitDefEqProofs only [hb, go_sem, hh, seval] <;> try simp only [qz] at hb))
   all_goals (try simp only [maxLen, tn] at *)
   all_goals first
    | rfl
    | omega
    | exact uF (fun q => absurd (q.1 (w.hosts.getD i default) (AB (by omega))) (by assumption))
    | skip
   refine AC [] (ι := {k : Nat // k ≤ i ∧ ∀ j, j < k → ¬ (w.hosts.getD j default).conf.name = (w.hosts.getD i default).conf.name}) (fun p => ⟨[(1, .pb 1001 0), (3, .t (.v (.int .i64 i))), (4, .t (.v (.int .i64 p.1)))], [(1001, some (.box ((CP w).map .t)))]⟩) (fun p => i - p.1) ⟨0, by simp, by simp⟩ rfl ?_ ?_
   ·simp -implicitDefEqProofs only [go_sem, hh, seval]
    try simp
   ·rintro ⟨k, hk, hk2⟩
    by_cases hlt2 : (k : Int) < i
    ·simp -implicitDefEqProofs only [hlt2, decide_true, tn, go_sem, hh, seval]
     with_reducible repeat' (first | apply ai | intro _ | ((first | apply s1 | apply s2 | apply s3 | apply s4) <;> intro hb <;> simp -implicitDefEqProofs only [hb, go_sem, hh, seval] <;> try simp only [qz] at hb))
     all_goals (try simp only [maxLen, tn] at *)
     all_goals first
      | rfl
      | omega
      | exact uF (fun q => Uj q.2.1 (k := k) (i := i) (by omega) (by omega) (by assumption))
      | skip
     all_goals
      refine ⟨⟨k + 1, by omega, BF hk2 (by assumption)⟩, by dsimp only; omega, ?_⟩
      simp -implicitDefEqProofs only [go_sem, hh, seval]
      try simp
    ·simp -implicitDefEqProofs only [hlt2, decide_false, go_sem, hh, seval]
     with_reducible repeat' (first | apply ai | intro _ | ((first | apply s1 | apply s2 | apply s3 | apply s4) <;> intro hb <;> simp -implicitDefEqProofs only [hb, go_sem, hh, seval] <;> try simp only [qz] at hb))
     all_goals first | rfl | omega | skip
     refine ⟨⟨i + 1, by omega, BF hall (by assumption), BF (P := fun j => ∀ k, k < j → ¬ (w.hosts.getD k default).conf.name = (w.hosts.getD j default).conf.name) hno (fun q hq => hk2 q (by omega))⟩, by dsimp only; omega, ?_⟩
     simp -implicitDefEqProofs only [go_sem, hh, seval]
     try simp
  ·have hA : ∀ h ∈ w.hosts, HD h := BH fun j hj => hall j (by omega)
   have hN : (w.hosts.map ML).Nodup := Ut fun j hj q hq => hno j (by omega) q hq
   simp -implicitDefEqProofs only [hlt, decide_false, go_sem, hh, seval]
   with_reducible repeat' (first | apply ai | intro _ | ((first | apply s1 | apply s2 | apply s3 | apply s4) <;> intro hb <;> simp -implicitDefEqProofs only [hb, go_sem, hh, seval] <;> try simp only [qz] at hb))
   all_goals first | rfl | omega | skip
   refine AC [] (ι := {i : Nat // i ≤ w.given.length ∧ ∀ j, j < i → QM (w.given.getD j default)}) (fun p => ⟨[(1, .pb 1001 0), (5, .t (.v (.int .i64 p.1)))], [(1001, some (.box ((CP w).map .t)))]⟩) (fun p => w.given.length - p.1) ⟨0, by simp, by simp⟩ rfl ?_ ?_
   ·simp -implicitDefEqProofs only [go_sem, hh, seval]
    try simp
   ·rintro ⟨k, hk, hall2⟩
    by_cases hlt2 : (k : Int) < w.given.length
    ·simp -implicitDefEqProofs only [hlt2, decide_true, tn, go_sem, hh, seval]
     with_reducible repeat' (first | apply ai | intro _ | ((first | apply s1 | apply s2 | apply s3 | apply s4) <;> intro hb <;> simp -implicitDefEqProofs only [hb, go_sem, hh, seval] <;> try simp only [qz] at hb))
     all_goals (try simp only [maxLen, tn] at *)
     all_goals first
      | rfl
      | omega
      | decide
      | exact uF (fun q => absurd (q.2.2.1 (w.given.getD k default) (AB (by omega))).1 (by simpa using hb))
      | exact uF (fun q => absurd (q.2.2.1 (w.given.getD k default) (AB (by omega))).2.1 (by assumption))
      | exact uF (fun q => absurd (q.2.2.1 (w.given.getD k default) (AB (by omega))).2.2.1 (by assumption))
      | exact uF (fun q => absurd (q.2.2.1 (w.given.getD k default) (AB (by omega))).2.2.2 (by assumption))
      | skip
     all_goals
      refine ⟨⟨k + 1, by omega, BF hall2 ⟨by first | assumption | (simpa using hb), by assumption, by assumption, by assumption⟩⟩, by dsimp only; omega, ?_⟩
      simp -implicitDefEqProofs only [go_sem, hh, seval]
      try simp
    ·have hB : ∀ l ∈ w.given, QM l := BH fun j hj => hall2 j (by omega)
     simp -implicitDefEqProofs only [hlt2, decide_false, go_sem, hh, seval]
     with_reducible repeat' (first | apply ai | intro _ | ((first | apply s1 | apply s2 | apply s3 | apply s4) <;> intro hb <;> simp -implicitDefEqProofs only [hb, go_sem, hh, seval] <;> try simp only [qz] at hb))
     all_goals first
      | rfl
      | omega
      | exact uE ⟨fun q => ⟨hA, hN, hB, by assumption, by assumption, q⟩, fun q => q.2.2.2.2.2⟩
      | exact uF (fun q => absurd q.2.2.2.1 (by assumption))
      | exact uF (fun q => absurd q.2.2.2.2.1 (by assumption))
      | skip
end
def bf : Ct := Aj (lc OM.ag l0) (fun p => Gg p.1) (fun p => .t (.v (.bool (BA (EJ p.1)))))
section
attribute [local go_sem] xJ xg bh WX xh sd AK AM lm fe List.mem_singleton forall_eq List.length_cons List.length_nil List.length_append List.nil_append Nat.zero_add Bool.not_false Bool.not_true
set_option maxHeartbeats 6400000 in
theorem tj {G : Gt} (hG : Ac G) (hh : G.e 10 = AA 0 xJ ∧ G.e 64 = AA 0 xg ∧ G.e 47 = AA 0 bh ∧ G.e 27 = AA 0 WX ∧ G.e 65 = AA 0 xh ∧ G.e 28 = AA 0 sd) : Gd G 17 (AA 0 bf) := by
 refine gr (fn := Tryz.f17) (n := 1) rfl hG ?_
 rintro ⟨w, ⟨⟩⟩ hpre
 simp -implicitDefEqProofs only [Tryz.f17, go_sem, hh, seval] at hpre ⊢
 obtain ⟨⟨lh, zh⟩, ⟨lg, zg⟩⟩ := hpre
 with_reducible repeat' (first | apply ai | intro _ | ((first | apply s1 | apply s2 | apply s3 | apply s4) <;> intro hb <;> simp -implicitDefEqProofs only [hb, go_sem, hh, seval] <;> try simp only [qz] at hb))
 all_goals first | rfl | omega | skip
 refine AC [(3, 1903, true, 1)] (ι := {i : Nat // i ≤ w.hosts.length ∧ ∀ j, j < i → HD (w.hosts.getD j default)}) (fun p => ⟨[(1, .pb 1001 0), (3, .h 1903), (9, .t (.sl 7 (w.hosts.map AY))), (10, .t (.v (.int .i64 w.hosts.length))), (11, .t (.v (.int .i64 p.1)))], [(1001, some (.box ((CP w).map .t))), (1903, some (.arr true 1 (((w.hosts.map ML).take p.1).map AG)))]⟩) (fun p => w.hosts.length - p.1) ⟨0, by simp, by simp⟩ rfl ?_ ?_
 ·simp -implicitDefEqProofs only [go_sem, hh, seval]
  try simp
 ·rintro ⟨i, hi, hall⟩
  have hlen : ((w.hosts.map ML).take i).length = i := by simp; omega
  by_cases hlt : (i : Int) < w.hosts.length
  ·have hz := zh _ (AB (xs := w.hosts) (j := i) (by omega))
   simp -implicitDefEqProofs only [hlt, decide_true, tn, go_sem, hh, seval]
   with_reducible repeat' (first | apply ai | intro _ | ((first | apply s1 | apply s2 | apply s3 | apply s4) <;> intro hb <;> simp -implicitDefEqProofs only [hb, go_sem, hh, seval] <;> try simp only [qz] at hb))
   all_goals (try simp only [maxLen, tn] at *)
   all_goals first
    | rfl
    | omega
    | assumption
    | exact uF (fun q => absurd (q.1 (w.hosts.getD i default) (AB (by omega))) (by assumption))
    | skip
   refine ⟨⟨i + 1, by omega, BF hall hb⟩, by dsimp only; omega, ?_⟩
   simp -implicitDefEqProofs only [go_sem, hh, seval]
   simp only [ZX (show i < w.hosts.length by omega)]
   with_reducible repeat' (first | apply ai | intro _ | ((first | apply s1 | apply s2 | apply s3 | apply s4) <;> intro hb <;> simp -implicitDefEqProofs only [hb, go_sem, hh, seval] <;> try simp only [qz] at hb))
   all_goals first | rfl | (simp; done) | skip
  ·have hA : ∀ h ∈ w.hosts, HD h := BH fun j hj => hall j (by omega)
   simp -implicitDefEqProofs only [hlt, decide_false, go_sem, hh, seval]
   with_reducible repeat' (first | apply ai | intro _ | ((first | apply s1 | apply s2 | apply s3 | apply s4) <;> intro hb <;> simp -implicitDefEqProofs only [hb, go_sem, hh, seval] <;> try simp only [qz] at hb))
   all_goals first | rfl | omega | skip
   rw [List.take_of_length_le (by rw [lm]; omega)]
   refine AC [] (ι := {i : Nat // i ≤ w.given.length ∧ ∀ j, j < i → QM (w.given.getD j default)}) (fun p => ⟨[(1, .pb 1001 0), (3, .h 1903), (26, .t (.sl 3 (w.given.map Ae))), (27, .t (.v (.int .i64 w.given.length))), (28, .t (.v (.int .i64 p.1)))], [(1001, some (.box ((CP w).map .t))), (1903, some (.arr true 1 ((w.hosts.map ML).map AG)))]⟩) (fun p => w.given.length - p.1) ⟨0, by simp, by simp⟩ rfl ?_ ?_
   ·simp -implicitDefEqProofs only [go_sem, hh, seval]
    try simp
   ·rintro ⟨k, hk, hall2⟩
    by_cases hlt2 : (k : Int) < w.given.length
    ·obtain ⟨g1, g2⟩ := zg _ (AB (xs := w.given) (j := k) (by omega))
     have y1 : (w.given.getD k default).mark.size ≤ 2000000 := by have : (w.given.getD k default).mark.size ≤ 1048576 := g1; omega
     have y1' : ∀ s ∈ [(w.given.getD k default).mark], s.size ≤ 2000000 := fun s hs => by rw [List.mem_singleton.1 hs]; exact y1
     have y2 : (w.given.getD k default).addr.domain.size ≤ 2000000 := by have : (w.given.getD k default).addr.domain.size ≤ 1048576 := g2.2; omega
     simp -implicitDefEqProofs only [hlt2, decide_true, tn, go_sem, hh, seval]
     with_reducible repeat' (first | apply ai | intro _ | ((first | apply s1 | apply s2 | apply s3 | apply s4) <;> intro hb <;> simp -implicitDefEqProofs only [hb, go_sem, hh, seval] <;> try simp only [qz] at hb))
     all_goals (try simp only [maxLen, tn] at *)
     all_goals first
      | rfl
      | omega
      | assumption
      | exact y1' _ (by assumption)
      | exact uF (fun q => absurd (q.2.2.1 (w.given.getD k default) (AB (by omega))).1 (fun f => f (by assumption)))
      | exact uF (fun q => absurd ((yx _).2 (q.2.2.1 (w.given.getD k default) (AB (by omega)))).2.1 (by assumption))
      | exact uF (fun q => absurd (q.2.2.1 (w.given.getD k default) (AB (by omega))).2.2.1 (by assumption))
      | skip
     all_goals
      refine ⟨⟨k + 1, by omega, BF hall2 ((yx _).1 ⟨by assumption, by assumption, by assumption⟩)⟩, by dsimp only; omega, ?_⟩
      simp -implicitDefEqProofs only [go_sem, hh, seval]
      try simp
    ·have hB : ∀ l ∈ w.given, QM l := BH fun j hj => hall2 j (by omega)
     simp -implicitDefEqProofs only [hlt2, decide_false, go_sem, hh, seval]
     with_reducible repeat' (first | apply ai | intro _ | ((first | apply s1 | apply s2 | apply s3 | apply s4) <;> intro hb <;> simp -implicitDefEqProofs only [hb, go_sem, hh, seval] <;> try simp only [qz] at hb))
     all_goals first
      | rfl
      | omega
      | exact uE ⟨fun q => ⟨hA, by assumption, hB, by assumption, by assumption, q⟩, fun q => q.2.2.2.2.2⟩
      | exact uF (fun q => absurd q.2.2.2.1 (by assumption))
      | exact uF (fun q => absurd q.2.1 (by assumption))
      | exact uF (fun q => absurd q.2.2.2.2.1 (by assumption))
      | skip
end
def At {α : Type} (f : α → Int) : List α → Int
 | [] => 0
 | x :: r => f x + At f r
theorem Dz {α : Type} [Inhabited α] {f : α → Int} {xs : List α} {i : Nat} (h : i < xs.length) : At f (xs.drop i) = f (xs.getD i default) + At f (xs.drop (i + 1)) := by
 rw [Aa h]; rfl
theorem GN {α : Type} {f : α → Int} {xs : List α} {i : Nat} (h : xs.length ≤ i) : At f (xs.drop i) = 0 := by
 rw [List.drop_eq_nil_of_le h]; rfl
theorem LM {α : Type} {f : α → Int} {B : Int} : ∀ {xs : List α}, (∀ x ∈ xs, 0 ≤ f x ∧ f x ≤ B) → 0 ≤ At f xs ∧ At f xs ≤ B * xs.length
 | [], _ => by simp [At]
 | x :: r, h => by
   have h1 := h x (by simp)
   have h2 := LM (xs := r) fun y hy => h y (by simp [hy])
   have e1 : B * ((r.length + 1 : Nat) : Int) = B * r.length + B := by rw [Int.natCast_add, Int.mul_add]; simp
   simp only [At, List.length_cons]
   omega
theorem Dy {α : Type} {f : α → Int} {xs : List α} (h : ∀ x ∈ xs, 0 ≤ f x) (i : Nat) : 0 ≤ At f (xs.drop i) := by
 have h2 : ∀ {ys : List α}, (∀ x ∈ ys, 0 ≤ f x) → 0 ≤ At f ys := fun {ys} => by
  induction ys with
  | nil => intro _; exact Int.le_refl _
  | cons y r ih =>
    intro h
    have h1 := h y (by simp)
    have h3 := ih fun z hz => h z (by simp [hz])
    show 0 ≤ f y + At f r
    omega
 exact h2 fun x hx => h x (List.mem_of_mem_drop hx)
def PT (b : Bx) : Int := b.mails.length
def Df (h : Hs) : Int := At PT h.boxes
section
variable {a b c d x : Int}
end
open Classical in
noncomputable def LX (d : ByteArray) : Wy → List Wy → Wy
 | b, [] => b
 | b, w :: r => LX d (if ab d w.ends ∧ b.ends.size < w.ends.size then w else b) r
noncomputable def P6 (c : Cf) (d : ByteArray) : ByteArray := (LX d ⟨⟨#[]⟩, ⟨#[]⟩⟩ c.ways).to
theorem ox {d : ByteArray} {b : Wy} {xs : List Wy} {i : Nat} (h : i < xs.length) (h1 : ab d (xs.getD i default).ends) (h2 : b.ends.size < (xs.getD i default).ends.size) : LX d b (xs.drop i) = LX d (xs.getD i default) (xs.drop (i + 1)) := by
 rw [Aa h, LX, if_pos ⟨h1, h2⟩]
theorem ow {d : ByteArray} {b : Wy} {xs : List Wy} {i : Nat} (h : i < xs.length) (h1 : ¬ (ab d (xs.getD i default).ends ∧ b.ends.size < (xs.getD i default).ends.size)) : LX d b (xs.drop i) = LX d b (xs.drop (i + 1)) := by
 rw [Aa h, LX, if_neg h1]
theorem Zl {d : ByteArray} {b : Wy} {xs : List Wy} {i : Nat} (h : xs.length ≤ i) : LX d b (xs.drop i) = b := by
 rw [List.drop_eq_nil_of_le h, LX]
def Qp : Ct := Aj (lc JS.ag (lc Ak l0)) (fun p => True) (fun p => .t (.v (.string (P6 p.1 p.2.1))))
section
attribute [local go_sem] kD AK AM lm
theorem qK {G : Gt} (hG : Ac G) (hh : G.e 196 = AA 0 kD) : Gd G 171 (AA 0 Qp) := by
 refine gr (fn := Tryz.f171) (n := 2) rfl hG ?_
 rintro ⟨c, d, ⟨⟩⟩ hpre
 simp -implicitDefEqProofs only [Tryz.f171, go_sem, hh, seval] at hpre ⊢
 refine AC [] (ι := {p : Nat × Wy // p.1 ≤ c.ways.length ∧ P6 c d = (LX d p.2 (c.ways.drop p.1)).to}) (fun p => ⟨[(1, .t (.v (.string d))), (2, .pb 1002 0), (5, .t (.v (.string p.1.2.ends))), (6, .t (.v (.string p.1.2.to))), (7, .t (.v (.int .i64 p.1.1)))], [(1002, some (.box ((DT c).map .t)))]⟩) (fun p => c.ways.length - p.1.1) ⟨(0, ⟨⟨#[]⟩, ⟨#[]⟩⟩), by simp, rfl⟩ rfl ?_ ?_
 ·simp -implicitDefEqProofs only [go_sem, hh, seval]
  try simp
 ·rintro ⟨⟨i, b⟩, hi, hw⟩
  dsimp only at hi hw ⊢
  by_cases hlt : (i : Int) < c.ways.length
  ·simp -implicitDefEqProofs only [hlt, decide_true, tn, go_sem, hh, seval]
   with_reducible repeat' (first | apply ai | intro _ | ((first | apply s1 | apply s2 | apply s3 | apply s4) <;> intro hb <;> simp -implicitDefEqProofs only [hb, go_sem, hh, seval] <;> try simp only [qz] at hb))
   all_goals (try simp only [maxLen, tn] at *)
   all_goals first | rfl | omega | skip
   all_goals first
    | (refine ⟨⟨(i + 1, c.ways.getD i default), by dsimp only; omega, by dsimp only; rw [hw, ox (by omega) (by assumption) (by omega)]⟩, by dsimp only; omega, ?_⟩
       simp -implicitDefEqProofs only [go_sem, hh, seval]
       simp; done)
    | (refine ⟨⟨(i + 1, b), by dsimp only; omega, by dsimp only; rw [hw, ow (by omega) (fun q => by first | exact absurd q.1 (by assumption) | (have := q.2; omega))]⟩, by dsimp only; omega, ?_⟩
       simp -implicitDefEqProofs only [go_sem, hh, seval]
       simp; done)
    | skip
  ·simp -implicitDefEqProofs only [hlt, decide_false, go_sem, hh, seval]
   with_reducible repeat' (first | apply ai | intro _ | ((first | apply s1 | apply s2 | apply s3 | apply s4) <;> intro hb <;> simp -implicitDefEqProofs only [hb, go_sem, hh, seval] <;> try simp only [qz] at hb))
   all_goals first | rfl | omega | (rw [hw, Zl (by omega)]; done) | skip
end
def JA (c : Cf) (to : ByteArray) (w : Int) (r : Rc) : Prop := r.next ≤ w ∧ ((r.addr.domain ∈ c.own ∧ to = ⟨#[]⟩) ∨ (¬ r.addr.domain ∈ c.own ∧ ¬ to = ⟨#[]⟩ ∧ P6 c r.addr.domain = to))
noncomputable def A2 (c : Cf) (to : ByteArray) (w : Int) : List Rc → List Ad
 | [] => []
 | r :: t => bif BA (JA c to w r) then r.addr :: A2 c to w t else A2 c to w t
section
variable {c : Cf} {to : ByteArray} {w : Int} {xs : List Rc} {i : Nat}
theorem Rn (h : i < xs.length) (hn : JA c to w (xs.getD i default)) : A2 c to w (xs.drop i) = (xs.getD i default).addr :: A2 c to w (xs.drop (i + 1)) := by
 rw [Aa h, A2, An hn]; rfl
theorem Rm (h : i < xs.length) (hn : ¬ JA c to w (xs.getD i default)) : A2 c to w (xs.drop i) = A2 c to w (xs.drop (i + 1)) := by
 rw [Aa h, A2, AQ hn]; rfl
theorem K7 (h : xs.length ≤ i) : A2 c to w (xs.drop i) = [] := by
 rw [List.drop_eq_nil_of_le h, A2]
end
theorem Eg (c : Cf) (to : ByteArray) (w : Int) : ∀ xs : List Rc, (A2 c to w xs).length ≤ xs.length
 | [] => Nat.le_refl _
 | r :: t => by
   rw [A2]
   have := Eg c to w t
   cases BA (JA c to w r) <;> simp only [cond_true, cond_false, List.length_cons] <;> omega
theorem Eh (c : Cf) (to : ByteArray) (w : Int) : ∀ xs : List Rc, ∀ a ∈ A2 c to w xs, ∃ r ∈ xs, r.addr = a ∧ JA c to w r
 | [], a, h => by cases h
 | r :: t, a, h => by
   rw [A2] at h
   by_cases hn : JA c to w r
   ·rw [An hn] at h
    rcases List.mem_cons.1 h with e | h
    ·exact ⟨r, by simp, e.symm, hn⟩
    ·obtain ⟨q, hq, he⟩ := Eh c to w t a h
     exact ⟨q, by simp [hq], he⟩
   ·rw [AQ hn] at h
    obtain ⟨q, hq, he⟩ := Eh c to w t a h
    exact ⟨q, by simp [hq], he⟩
noncomputable def Po (c : Cf) (x : Im) (to : ByteArray) (w : Int) : Ml := ⟨x.frm, A2 c to w x.to, x.body⟩
theorem R1 {xs : List Ad} {a : Ad} : (xs ++ [a]).map Ap = xs.map Ap ++ [[.v (.string a.user), .v (.string a.domain)]] := by
 rw [List.map_append]; rfl
def WF : Ct := Aj (lc FM.ag (lc Jr.ag (lc BU (lc Ak (lc BU l0))))) (fun p => 0 ≤ p.2.2.1 ∧ p.2.2.1 < p.2.1.to.length) (fun p => .t (.v (.bool (BA (JA p.1.conf p.2.2.2.1 p.2.2.2.2.1 (p.2.1.to.getD p.2.2.1.toNat default))))))
section
attribute [local go_sem] bj Qp AK AM lm
set_option maxHeartbeats 800000 in
theorem pe {G : Gt} (hG : Ac G) (hh : G.e 87 = AA 0 bj ∧ G.e 171 = AA 0 Qp) : Gd G 133 (AA 0 WF) := by
 refine gr (fn := Tryz.f133) (n := 5) rfl hG ?_
 rintro ⟨h, x, k, to, w, ⟨⟩⟩ hpre
 simp -implicitDefEqProofs only [Tryz.f133, go_sem, hh, seval] at hpre ⊢
 obtain ⟨hk0, hk1⟩ := hpre
 with_reducible repeat' (first | apply ai | intro _ | ((first | apply s1 | apply s2 | apply s3 | apply s4) <;> intro hb <;> simp -implicitDefEqProofs only [hb, go_sem, hh, seval] <;> try simp only [qz] at hb))
 all_goals (try simp only [maxLen] at *)
 all_goals first
  | rfl
  | omega
  | exact uF (fun q => by have := q.1; omega)
  | exact uD ⟨fun q => ⟨by omega, .inl ⟨by assumption, q⟩⟩, fun q => q.2.elim (fun z => z.2) fun z => absurd (by assumption) z.1⟩
  | exact uD ⟨fun q => ⟨by omega, .inr ⟨by assumption, by simpa using hb, q⟩⟩, fun q => q.2.elim (fun z => absurd z.1 (by assumption)) fun z => z.2.2⟩
  | exact uF (fun q => q.2.elim (fun z => absurd z.1 (by assumption)) fun z => z.2.1 (by simpa using hb))
  | skip
end
def kR : Ct := Aj (lc FM.ag (lc BU (lc Ak (lc BU l0)))) (fun p => FN p.1 ∧ 0 ≤ p.2.1 ∧ p.2.1 < p.1.spool.items.length) (fun p => U4 (Po p.1.conf (p.1.spool.items.getD p.2.1.toNat default) p.2.2.1 p.2.2.2.1))
section
attribute [local go_sem] WF AK AM lm List.length_append List.length_cons List.length_nil List.map_nil Nat.zero_add List.nil_append AS.opn AS.cls AS.nilb AS.renb AS.up Bool.not_false Bool.not_true List.set_set List.set_cons_zero List.set_cons_succ List.set_nil List.mem_singleton forall_eq
set_option maxHeartbeats 1600000 in
theorem rC {G : Gt} (hG : Ac G) (hh : G.e 133 = AA 0 WF) : Gd G 226 (AA 0 kR) := by
 refine PF (dp := fun n => !(Nat.beq n 100003 || Nat.beq n 100005)) (fn := Tryz.f226) (n := 4) rfl hG ?_ (hs := fun _ p => K5 _)
 rintro ⟨h, n, to, w, ⟨⟩⟩ hpre
 simp -implicitDefEqProofs only [Tryz.f226, go_sem, hh, seval] at hpre ⊢
 obtain ⟨⟨_, ⟨_, hsz⟩, _⟩, hn0, hn1⟩ := hpre
 try dsimp only at hn0 hn1
 obtain ⟨ni, rfl⟩ := Int.eq_ofNat_of_zero_le hn0
 have hx := hsz _ (AB (xs := h.spool.items) (j := ni) (by omega))
 obtain ⟨_, ⟨hl1, _⟩, ⟨hl2, _⟩⟩ := hx
 simp only [tn] at *
 with_reducible repeat' (first | apply ai | intro _ | ((first | apply s1 | apply s2 | apply s3 | apply s4) <;> intro hb <;> simp -implicitDefEqProofs only [hb, go_sem, hh, seval] <;> try simp only [qz] at hb))
 all_goals (try simp only [maxLen] at *)
 all_goals first | rfl | omega | assumption | decide | skip
 all_goals
  refine Am (Le.nilb 1010 2 1901 true 2 rfl rfl rfl) (Af ?_)
  simp -implicitDefEqProofs only [go_sem, hh, seval]
  refine AC [] (ι := {p : Nat × List Ad // p.1 ≤ (h.spool.items.getD ni default).to.length ∧ p.2.length ≤ p.1 ∧ A2 h.conf to w (h.spool.items.getD ni default).to = p.2 ++ A2 h.conf to w ((h.spool.items.getD ni default).to.drop p.1)}) (fun p => ⟨[(2, .t (.v (.string to))), (3, .t (.v (.int .i64 w))), (4, .pb 1004 0), (8, .pb 1008 0), (9, .pb 1009 0), (10, .pb 1010 0), (11, .t (.v (.int .i64 p.1.1)))], [(1008, some (.box [.t (.v (.string ⟨#[]⟩)), .t (.v (.string ⟨#[]⟩)), .nil, .nil])), (1004, some (.box ((AY h).map .t))), (1009, some (.box ((Ar (h.spool.items.getD ni default)).map .t))), (1010, some (.box [.t (.v (.string (h.spool.items.getD ni default).frm.user)), .t (.v (.string (h.spool.items.getD ni default).frm.domain)), .h 1901, .h 1023])), (1023, some (.arr true 1 ((h.spool.items.getD ni default).body.map AG))), (1901, some (.arr true 2 (p.1.2.map Ap)))]⟩) (fun p => (h.spool.items.getD ni default).to.length - p.1.1) ⟨(0, []), by simp, by simp, rfl⟩ rfl ?_ ?_
  ·simp -implicitDefEqProofs only [go_sem, hh, seval]
   try simp
  ·rintro ⟨⟨i, L⟩, hi, hL, hq⟩
   dsimp only at hi hL hq ⊢
   by_cases hlt : (i : Int) < (h.spool.items.getD ni default).to.length
   ·simp -implicitDefEqProofs only [hlt, decide_true, tn, go_sem, hh, seval]
    with_reducible repeat' (first | apply ai | intro _ | ((first | apply s1 | apply s2 | apply s3 | apply s4) <;> intro hb <;> simp -implicitDefEqProofs only [hb, go_sem, hh, seval] <;> try simp only [qz] at hb))
    all_goals (try simp only [maxLen, tn] at *)
    all_goals first | rfl | omega | assumption | decide | skip
    ·refine Am (Le.renb 1010 2 1047 1901 rfl rfl rfl rfl) (Af ?_)
     simp -implicitDefEqProofs only [go_sem, hh, seval]
     with_reducible repeat' (first | apply ai | intro _ | ((first | apply s1 | apply s2 | apply s3 | apply s4) <;> intro hb <;> simp -implicitDefEqProofs only [hb, go_sem, hh, seval] <;> try simp only [qz] at hb))
     all_goals first | rfl | omega | decide | skip
     refine ⟨⟨(i + 1, L ++ [((h.spool.items.getD ni default).to.getD i default).addr]), by dsimp only; omega, by simp; omega, by dsimp only; rw [hq, Rn (by omega) (by assumption)]; simp⟩, by dsimp only; omega, ?_⟩
     simp -implicitDefEqProofs only [go_sem, hh, seval]
     simp only [R1]
     with_reducible repeat' (first | apply ai | intro _ | ((first | apply s1 | apply s2 | apply s3 | apply s4) <;> intro hb <;> simp -implicitDefEqProofs only [hb, go_sem, hh, seval] <;> try simp only [qz] at hb))
     all_goals first | rfl | (simp; done) | skip
    ·refine Af ?_
     simp -implicitDefEqProofs only [go_sem, hh, seval]
     with_reducible repeat' (first | apply ai | intro _ | ((first | apply s1 | apply s2 | apply s3 | apply s4) <;> intro hb <;> simp -implicitDefEqProofs only [hb, go_sem, hh, seval] <;> try simp only [qz] at hb))
     all_goals first | rfl | omega | decide | skip
     refine ⟨⟨(i + 1, L), by dsimp only; omega, by dsimp only; omega, by dsimp only; rw [hq, Rm (by omega) (by assumption)]⟩, by dsimp only; omega, ?_⟩
     simp -implicitDefEqProofs only [go_sem, hh, seval]
     try simp
   ·have hend : A2 h.conf to w (h.spool.items.getD ni default).to = L := by rw [hq, K7 (by omega), List.append_nil]
    simp -implicitDefEqProofs only [hlt, decide_false, Po, hend, go_sem, hh, seval]
    with_reducible repeat' (first | apply ai | intro _ | ((first | apply s1 | apply s2 | apply s3 | apply s4) <;> intro hb <;> simp -implicitDefEqProofs only [hb, go_sem, hh, seval] <;> try simp only [qz] at hb))
    all_goals first | rfl | omega | decide | skip
end
def J0 (c : Cf) (a : Ad) : Prop := a.domain ∈ c.own ∨ ¬ P6 c a.domain = ⟨#[]⟩
def k6 : Ct := Aj (lc JS.ag (lc DV.ag l0)) (fun p => True) (fun p => .t (.v (.bool (BA (J0 p.1 p.2.1)))))
section
attribute [local go_sem] bj Qp AK AM
theorem ri {G : Gt} (hG : Ac G) (hh : G.e 87 = AA 0 bj ∧ G.e 171 = AA 0 Qp) : Gd G 259 (AA 0 k6) := by
 refine gr (fn := Tryz.f259) (n := 2) rfl hG ?_
 rintro ⟨c, a, ⟨⟩⟩ hpre
 simp -implicitDefEqProofs only [Tryz.f259, go_sem, hh, seval] at hpre ⊢
 with_reducible repeat' (first | apply ai | intro _ | ((first | apply s1 | apply s2 | apply s3 | apply s4) <;> intro hb <;> simp -implicitDefEqProofs only [hb, go_sem, hh, seval] <;> try simp only [qz] at hb))
 all_goals first | rfl | omega | skip
 all_goals (try simp only [AK, AM] at *)
 all_goals first
  | exact uT (.inl (by assumption))
  | exact uB (by simp only [qc, qb]; exact ⟨fun z => .inr z, fun q => q.elim (fun z => absurd z (by assumption)) id⟩)
  | skip
end
def KC (w : Int) (a : Ad) : Rc := ⟨a, 0, w⟩
def Vp (s : Sp) (m : Ml) (w : Int) : Im := ⟨s.last + 1, m.frm, m.to.map (KC w), m.body⟩
def Lj (s : Sp) (m : Ml) (w : Int) : Sp := ⟨s.last + 1, s.items ++ [Vp s m w]⟩
def CD (s : Sp) : Prop := (s.items.length : Int) < 10 ∧ s.last < 999
theorem eW {xs : List Ad} {w : Int} {i : Nat} (h : i < xs.length) : ((xs.map (KC w)).take (i + 1)).map BP = ((xs.map (KC w)).take i).map BP ++ [[.v (.string (xs.getD i default).user), .v (.string (xs.getD i default).domain), .v (.int .i64 0), .v (.int .i64 w)]] := by
 have e : (xs.map (KC w)).getD i default = KC w (xs.getD i default) := by
  simp only [List.getD_eq_getElem?_getD, List.getElem?_map, List.getElem?_eq_getElem h, Option.map_some, Option.getD_some]
 rw [Ay BP (by rw [lm]; exact h), e]
 rfl
def KO : Ct := Aj (lc Vb.ag l0) (fun p => True) (fun p => .t (.v (.bool (BA (CD p.1)))))
section
attribute [local go_sem] lm
theorem pu {G : Gt} (hG : Ac G) : Gd G 147 (AA 0 KO) := by
 refine gr (fn := Tryz.f147) (n := 1) rfl hG ?_
 rintro ⟨s, ⟨⟩⟩ hpre
 simp -implicitDefEqProofs only [Tryz.f147, go_sem, seval] at hpre ⊢
 with_reducible repeat' (first | apply ai | intro _ | ((first | apply s1 | apply s2 | apply s3 | apply s4) <;> intro hb <;> simp -implicitDefEqProofs only [hb, go_sem, seval] <;> try simp only [qz] at hb))
 all_goals first
  | rfl
  | omega
  | (rw [← A4, AP]; exact ⟨fun h => ⟨by assumption, h⟩, fun h => h.2⟩)
  | (rw [AQ]; rintro ⟨h1, h2⟩; contradiction)
  | (rw [An]; exact ⟨by assumption, by assumption⟩)
  | skip
end
def Qn : Ct := Aj (lc Vb.ag (lc aN.ag (lc BU l0))) (fun p => Gf p.1 ∧ Lh p.2.1 ∧ CM p.1) (fun p => .agg ((FG (Lj p.1 p.2.1 p.2.2.1)).map .t))
section
attribute [local go_sem] LR KX List.take_length List.drop_zero List.length_take List.length_drop lm List.length_append List.length_cons List.length_nil List.map_append List.map_nil List.map_cons List.nil_append Nat.zero_add List.mem_singleton forall_eq Bool.not_true Bool.not_false AS.opn AS.cls AS.nilb AS.renb List.set_set List.set_cons_zero List.set_cons_succ List.set_nil
set_option maxHeartbeats 1600000 in
theorem pv {G : Gt} (hG : Ac G) : Gd G 148 (AA 1 Qn) := by
 refine PF (dp := fun n => Nat.ble 100000 n && !(Nat.beq n 100002 || Nat.beq n 100004 || Nat.beq n 100007)) (fn := Tryz.f148) (n := 3) rfl hG ?_
 rintro ⟨s, m, w, ⟨⟩⟩ hpre
 simp -implicitDefEqProofs only [Tryz.f148, go_sem, seval] at hpre ⊢
 obtain ⟨hok, hml, hsp⟩ := hpre
 have hok' : HA GQ s.items := hok
 obtain ⟨_, ⟨hl1, _⟩, ⟨hl2, _⟩⟩ := hml
 obtain ⟨_, _, ⟨hs0, hs1⟩, hs2⟩ := hsp
 with_reducible repeat' (first | apply ai | intro _ | ((first | apply s1 | apply s2 | apply s3 | apply s4) <;> intro hb <;> simp -implicitDefEqProofs only [hb, go_sem, seval] <;> try simp only [qz] at hb))
 all_goals (try simp only [maxLen] at *)
 all_goals first | rfl | omega | assumption | decide | skip
 all_goals
  refine Am (Le.nilb 1007 3 1901 true 4 rfl rfl rfl) (Af ?_)
  simp -implicitDefEqProofs only [go_sem, seval]
  refine AC [] (ι := {i : Nat // i ≤ m.to.length}) (fun p => ⟨[(2, .t (.v (.int .i64 w))), (3, .pb 1003 0), (4, .pb 1004 0), (6, .pb 1006 0), (7, .pb 1007 0), (8, .t (.v (.int .i64 p.1)))], [(1003, some (.box [.t (.v (.int .i64 s.last)), .t (.sl 5 (s.items.map Ar))])), (1004, some (.box ((DG m).map .t))), (1006, some (.box [.t (.v (.int .i64 0)), .nil])), (1007, some (.box [.t (.v (.int .i64 (s.last + 1))), .t (.v (.string m.frm.user)), .t (.v (.string m.frm.domain)), .h 1901, .h 1017])), (1017, some (.arr true 1 (m.body.map AG))), (1901, some (.arr true 4 (((m.to.map (KC w)).take p.1).map BP)))]⟩) (fun p => m.to.length - p.1) ⟨0, by simp⟩ rfl ?_ ?_
  ·simp -implicitDefEqProofs only [go_sem, seval]
   try simp
  ·rintro ⟨i, hi⟩
   have hlen : ((m.to.map (KC w)).take i).length = i := by simp; omega
   by_cases hlt : (i : Int) < m.to.length
   ·simp -implicitDefEqProofs only [hlt, decide_true, tn, go_sem, seval]
    with_reducible repeat' (first | apply ai | intro _ | ((first | apply s1 | apply s2 | apply s3 | apply s4) <;> intro hb <;> simp -implicitDefEqProofs only [hb, go_sem, seval] <;> try simp only [qz] at hb))
    all_goals (try simp only [maxLen] at *)
    all_goals first | rfl | omega | assumption | decide | skip
    refine Am (Le.renb 1007 3 1036 1901 rfl rfl rfl rfl) (Af ?_)
    simp -implicitDefEqProofs only [go_sem, seval]
    with_reducible repeat' (first | apply ai | intro _ | ((first | apply s1 | apply s2 | apply s3 | apply s4) <;> intro hb <;> simp -implicitDefEqProofs only [hb, go_sem, seval] <;> try simp only [qz] at hb))
    all_goals first | rfl | omega | decide | skip
    refine ⟨⟨i + 1, by omega⟩, by dsimp only; omega, ?_⟩
    simp -implicitDefEqProofs only [go_sem, seval]
    simp only [eW (show i < m.to.length by omega)]
    with_reducible repeat' (first | apply ai | intro _ | ((first | apply s1 | apply s2 | apply s3 | apply s4) <;> intro hb <;> simp -implicitDefEqProofs only [hb, go_sem, seval] <;> try simp only [qz] at hb))
    all_goals first | rfl | (simp; done) | skip
   ·simp -implicitDefEqProofs only [hlt, decide_false, go_sem, seval]
    with_reducible repeat' (first | apply ai | intro _ | ((first | apply s1 | apply s2 | apply s3 | apply s4) <;> intro hb <;> simp -implicitDefEqProofs only [hb, go_sem, seval] <;> try simp only [qz] at hb))
    all_goals first | rfl | omega | skip
    rw [List.take_of_length_le (by rw [lm]; omega)]
    refine Am (Le.frzL [1901, 1017]) (Af ?_)
    simp -implicitDefEqProofs only [go_sem, seval]
    with_reducible repeat' (first | apply ai | intro _ | ((first | apply s1 | apply s2 | apply s3 | apply s4) <;> intro hb <;> simp -implicitDefEqProofs only [hb, go_sem, seval] <;> try simp only [qz] at hb))
    all_goals (try simp only [maxLen, List.take_length, List.drop_zero] at *)
    all_goals first | rfl | omega | assumption | decide | skip
    all_goals
     refine congrArg (T.sl 5) ?_
     simp only [Lj, Vp, List.map_append, List.map_cons, List.map_nil]
     rfl
end
theorem Hn {c x : UInt8} : ∀ {l : List UInt8}, x ∈ l → x = c ∨ ∃ w ∈ Ft c l, x ∈ w
 | y :: r, h => by
   rw [Ft]
   by_cases e : y = c
   ·rw [if_pos e]
    rcases List.mem_cons.1 h with h | h
    ·exact .inl (h.trans e)
    ·rcases Hn h with q | ⟨w, hw, q⟩
     ·exact .inl q
     ·exact .inr ⟨w, by simp [hw], q⟩
   ·rw [if_neg e]
    cases hs : Ft c r with
    | nil => have := GK c r; rw [hs] at this; simp at this
    | cons a t =>
      rcases List.mem_cons.1 h with h | h
      ·exact .inr ⟨y :: a, by simp, by simp [h]⟩
      ·rcases Hn h with q | ⟨w, hw, q⟩
       ·exact .inl q
       ·rw [hs] at hw
        rcases List.mem_cons.1 hw with e2 | hw
        ·exact .inr ⟨y :: a, by simp, by rw [e2] at q; simp [q]⟩
        ·exact .inr ⟨w, by simp [hw], q⟩
theorem P0 {c : UInt8} {B : Nat} : ∀ {l : List UInt8}, (∀ w ∈ Ft c l, w.length ≤ B) → l.length + 1 ≤ (B + 1) * (Ft c l).length
 | [], _ => by simp [Ft]
 | y :: r, h => by
   rw [Ft] at h ⊢
   by_cases e : y = c
   ·rw [if_pos e] at h ⊢
    have := P0 (c := c) (l := r) fun w hw => h w (by simp [hw])
    rw [List.length_cons, List.length_cons, Nat.mul_succ]
    omega
   ·rw [if_neg e] at h ⊢
    cases hs : Ft c r with
    | nil => have := GK c r; rw [hs] at this; simp at this
    | cons a t =>
      rw [hs] at h
      have h1 := h (y :: a) (by simp)
      have h3 : (∀ w ∈ Ft c r, w.length ≤ B) ∨ True := .inr trivial
      have key : ∀ (l : List UInt8), l.length + 1 = ((Ft c l).map fun w => w.length + 1).sum := fun l => by
       induction l with
       | nil => rfl
       | cons z q ih =>
         rw [Ft]
         by_cases ez : z = c
         ·rw [if_pos ez, List.map_cons, List.sum_cons, ← ih, List.length_cons, List.length_nil]; omega
         ·rw [if_neg ez]
          cases hq : Ft c q with
          | nil => have := GK c q; rw [hq] at this; simp at this
          | cons a' t' => rw [hq] at ih; simp only [List.map_cons, List.sum_cons, List.length_cons] at ih ⊢; omega
      have h2 := key r
      rw [hs] at h2
      have h4 : ∀ t : List (List UInt8), (∀ w ∈ t, w.length ≤ B) → (t.map fun w => w.length + 1).sum ≤ (B + 1) * t.length := fun t => by
       induction t with
       | nil => intro _; simp
       | cons w t ih =>
         intro hw
         have q1 := ih fun x hx => hw x (by simp [hx])
         have q2 := hw w (by simp)
         rw [List.map_cons, List.sum_cons, List.length_cons, Nat.mul_succ]; omega
      have h5 := h4 t fun w hw => h w (by simp [hw])
      simp only [List.map_cons, List.sum_cons, List.length_cons] at h1 h2 ⊢
      rw [Nat.mul_succ]
      omega
def OU (l : List UInt8) : Prop := ∀ b ∈ l, 32 ≤ (b.toNat : Int) ∧ (b.toNat : Int) ≤ 126
instance (l : List UInt8) : Decidable (OU l) := by unfold OU; infer_instance
theorem HP {s : ByteArray} {b : UInt8} (h : b ∈ bl s) : ∃ j, j < s.size ∧ AE s j = b.toNat := by
 obtain ⟨j, hj, e⟩ := List.getElem_of_mem h
 exact ⟨j, hj, by rw [CE]; simp [hj, e]⟩
theorem PQ {s : ByteArray} {j : Nat} (h : j < s.size) : ∃ b ∈ bl s, AE s j = b.toNat := by
 have h' : j < (bl s).length := h
 exact ⟨(bl s)[j], List.getElem_mem h', by rw [CE]; simp [h']⟩
theorem HF (s : ByteArray) : H0 s ↔ OU (bl s) ∧ s.size ≤ 40 :=
 ⟨fun h => ⟨fun b hb => by
   obtain ⟨j, hj, e⟩ := HP hb
   rw [← e]; exact h.1 j hj, h.2⟩, fun h => ⟨fun j hj => by
   obtain ⟨b, hb, e⟩ := PQ hj
   rw [e]; exact h.1 b hb, h.2⟩⟩
theorem OV {a b : List UInt8} : OU (a ++ b) ↔ OU a ∧ OU b :=
 ⟨fun h => ⟨fun x hx => h x (by simp [hx]), fun x hx => h x (by simp [hx])⟩, fun h x hx => (List.mem_append.1 hx).elim (h.1 x) (h.2 x)⟩
theorem JU {s : ByteArray} (h : SC s) : OU (bl s) ∧ s.size ≤ 8 := ⟨fun b hb => by
 obtain ⟨j, hj, e⟩ := HP hb
 have := h.1 j hj
 rw [← e]; unfold Ki at this; omega, h.2.2⟩
theorem Ci {s : ByteArray} (h : D3 s) : OU (bl s) ∧ s.size ≤ 26 := by
 obtain ⟨h1, h2⟩ := (JQ s).1 h
 have h3 : ∀ w ∈ Ft 46 (bl s), SC (mB w) := fun w hw => h1 _ (List.mem_map_of_mem hw)
 refine ⟨fun b hb => ?_, ?_⟩
 ·rcases Hn (c := 46) hb with e | ⟨w, hw, q⟩
  ·rw [e]; decide
  ·exact (JU (h3 w hw)).1 b q
 ·have h4 := P0 (c := 46) (B := 8) (l := bl s) fun w hw => (h3 w hw).2.2
  have h5 : (Ft 46 (bl s)).length ≤ 3 := by
   have : (Ie s 46).length = (Ft 46 (bl s)).length := lm ..
   omega
  have h6 : (bl s).length = s.size := rfl
  have h7 : 9 * (Ft 46 (bl s)).length ≤ 9 * 3 := Nat.mul_le_mul_left 9 h5
  omega
def yC : ByteArray := ⟨#[72, 111, 112, 58, 32]⟩
def Cr (n : ByteArray) : ByteArray := yC ++ n
theorem co {n : ByteArray} (h : D3 n) : H0 (Cr n) := by
 obtain ⟨h1, h2⟩ := Ci h
 rw [HF]
 have e : bl (Cr n) = [72, 111, 112, 58, 32] ++ bl n := Qh _ _
 refine ⟨?_, ?_⟩
 ·rw [e, OV]
  exact ⟨by decide, h1⟩
 ·have : (Cr n).size = 5 + n.size := by rw [← Br, e, List.length_append, Br]; rfl
  omega
noncomputable def CA (a : Ad) : ByteArray := bif BA (AN a) then ⟨#[60, 62]⟩ else ⟨#[60]⟩ ++ a.user ++ ⟨#[64]⟩ ++ a.domain ++ ⟨#[62]⟩
theorem E9 {a : Ad} (h : AN a) : CA a = ⟨#[60, 62]⟩ := by unfold CA; rw [An h]; rfl
theorem Nu {a : Ad} (h : ¬ AN a) : CA a = ⟨#[60]⟩ ++ a.user ++ ⟨#[64]⟩ ++ a.domain ++ ⟨#[62]⟩ := by unfold CA; rw [AQ h]; rfl
theorem Jk {a : Ad} (h : ¬ AN a) : bl (CA a) = [60] ++ bl a.user ++ [64] ++ bl a.domain ++ [62] := by
 rw [Nu h]
 simp only [Qh]
 rfl
theorem Z1 {a : Ad} (h : BL a) : ¬ AN a := fun q => by
 have := h.1.2.1
 rw [q.1] at this
 exact absurd this (by decide)
theorem Pt {a : Ad} (h : BL a ∨ AN a) : H0 (CA a) := by
 by_cases hn : AN a
 ·rw [E9 hn, HF]
  exact ⟨by decide, by decide⟩
 ·have ha := h.resolve_right hn
  obtain ⟨u1, u2⟩ := JU ha.1
  obtain ⟨d1, d2⟩ := Ci ha.2
  rw [HF, Jk hn]
  refine ⟨by simp only [OV]; exact ⟨⟨⟨⟨by decide, u1⟩, by decide⟩, d1⟩, by decide⟩, ?_⟩
  have : (CA a).size = 3 + a.user.size + a.domain.size := by
   rw [← Br, Jk hn]
   simp only [List.length_append, List.length_cons, List.length_nil, Br]; omega
  omega
def gA (n : ByteArray) (m : Ml) : Ml := ⟨m.frm, m.to, Cr n :: m.body⟩
def JI (h : Hs) (m : Ml) (w : Int) : Hs := ⟨h.conf, Lj h.spool (gA h.conf.name m) w, h.boxes, h.lost⟩
section
variable {h : Hs} {m : Ml} {w : Int}
theorem mm (q : D3 h.conf.name) (hm : DA m) (hl : m.body.length < 12) : DA (gA h.conf.name m) :=
 ⟨hm.1, hm.2.1, hm.2.2.1, hm.2.2.2.1, ⟨fun s hs => (List.mem_cons.1 hs).elim (fun e => by rw [e]; exact co q) (hm.2.2.2.2.1 s), by show (Cr h.conf.name :: m.body).length ≤ 12; simp; omega⟩⟩
end
def dr (p : Hs × Bool) : AV := .tup [.agg ((AY p.1).map .t), .t (.v (.bool p.2))]
theorem NV {α : Type} [Inhabited α] {p : α → Prop} : ∀ (xs : List α) (k : Nat), 0 ≤ BD p k xs → p (xs.getD ((BD p k xs).toNat - k) default)
 | [], k, h => absurd h (by rw [BD]; omega)
 | x :: t, k, h => by
   rw [BD] at h ⊢
   by_cases hx : p x
   ·rw [An hx, cond_true, tn, Nat.sub_self]
    exact hx
   ·rw [AQ hx, cond_false] at h ⊢
    have h1 := NV t (k + 1) h
    have h2 : (BD p (k + 1) t).toNat - k = ((BD p (k + 1) t).toNat - (k + 1)) + 1 := by
     rcases GI p t (k + 1) with q | q <;> omega
    rw [h2]
    exact h1
section
variable {h : Hs} {m : Ml} {w : Int}
end
theorem Cm {xs : List Im} : wu xs ↔ (xs.map Im.id).Pairwise (· < ·) := by
 rw [List.pairwise_iff_getElem]
 constructor
 ·intro h i j hi hj hij
  rw [lm] at hi hj
  simp only [List.getElem_map]
  induction j with
  | zero => omega
  | succ j ih =>
    have h1 := h (j + 1) (by omega) hj
    simp only [Nat.add_sub_cancel, List.getD_eq_getElem?_getD, List.getElem?_eq_getElem hj, List.getElem?_eq_getElem (show j < xs.length by omega), Option.getD_some] at h1
    by_cases e : i = j
    ·subst e; exact h1
    ·have := ih (by omega) (by omega)
     omega
 ·intro h j h0 hj
  have := h (j - 1) j (by rw [lm]; omega) (by rw [lm]; exact hj) (by omega)
  simp only [List.getElem_map] at this
  simp only [List.getD_eq_getElem?_getD, List.getElem?_eq_getElem hj, List.getElem?_eq_getElem (show j - 1 < xs.length by omega), Option.getD_some]
  exact this
theorem Sj {α : Type} (xs : List α) (i : Nat) : List.Sublist (xs.take i ++ xs.drop (i + 1)) xs := by
 have h : List.Sublist (xs.take i ++ xs.drop (i + 1)) (xs.take i ++ xs.drop i) := List.Sublist.append (List.Sublist.refl _) (by
  rw [← List.drop_drop]; exact List.drop_sublist 1 _)
 rwa [List.take_append_drop] at h
theorem Qu {α : Type} [Inhabited α] {xs : List α} {i : Nat} (h : i < xs.length) : xs = xs.take i ++ xs.getD i default :: xs.drop (i + 1) := by
 rw [← Aa h, List.take_append_drop]
theorem cT {x : Im} {k : Nat} (h : Dk x) (hk : k < x.to.length) (h2 : ¬ (IQ x k).to = []) : Dk (IQ x k) := by
 have hs := Sj x.to k
 refine ⟨fun r hr => h.1 r (hs.subset hr), (hs.map Rc.addr).nodup h.2.1, h.2.2.1, h.2.2.2.1, ⟨?_, Nat.le_trans hs.length_le h.2.2.2.2.1.2⟩, h.2.2.2.2.2⟩
 exact Nat.pos_of_ne_zero fun e => h2 (List.eq_nil_of_length_eq_zero e)
theorem EZ {s : Sp} {i k : Nat} (h : CM s) (hi : i < s.items.length) (hk : k < (s.items.getD i default).to.length) : CM (DF s i k) := by
 have hx := h.1 _ (AB hi)
 have hs := Sj s.items i
 have ha := Cm.1 h.2.1
 have hq := Qu hi
 show (∀ x ∈ VL s.items i k, Dk x ∧ x.id ≤ s.last) ∧ wu (VL s.items i k) ∧ (0 ≤ s.last ∧ s.last ≤ 999) ∧ (VL s.items i k).length ≤ 10
 unfold VL
 split
 ·exact ⟨fun x hx => h.1 x (hs.subset hx), Cm.2 (ha.sublist (hs.map Im.id)), h.2.2.1, Nat.le_trans hs.length_le h.2.2.2⟩
 ·rename_i hne
  refine ⟨fun x hm => ?_, Cm.2 ?_, h.2.2.1, ?_⟩
  ·rcases List.mem_append.1 hm with hm | hm
   ·exact h.1 x (List.mem_of_mem_take hm)
   ·rcases List.mem_cons.1 hm with e | hm
    ·rw [e]; exact ⟨cT hx.1 hk hne, hx.2⟩
    ·exact h.1 x (List.mem_of_mem_drop hm)
  ·have e : (s.items.take i ++ IQ (s.items.getD i default) k :: s.items.drop (i + 1)).map Im.id = s.items.map Im.id := by
     conv => rhs; rw [hq]
     simp only [List.map_append, List.map_cons]
     rfl
   rw [e]; exact ha
  ·have e : (s.items.take i ++ IQ (s.items.getD i default) k :: s.items.drop (i + 1)).length = s.items.length := by
     conv => rhs; rw [hq]
     simp only [List.length_append, List.length_cons]
   rw [e]; exact h.2.2.2
theorem tY (l : List Rc) (k : Nat) (h : k < l.length) : l.getD k default = l[k] := by simp [h]
theorem MR {s : Sp} {i k : Nat} {w : Int} (h : CM s) (hi : i < s.items.length) (hk : k < (s.items.getD i default).to.length) (hn : ¬ Nb ((s.items.getD i default).to.getD k default) w) (hw : 0 ≤ w) : CM (PP s i k w) := by
 have hx := h.1 _ (AB hi)
 have hr := hx.1.1 _ (AB hk)
 have hn1 : ((s.items.getD i default).to.getD k default).tries + 1 < 4 := by unfold Nb at hn; omega
 have hn2 : w + Zr (((s.items.getD i default).to.getD k default).tries + 1) ≤ 9999 := by unfold Nb at hn; omega
 have hp := (Y3 (t := ((s.items.getD i default).to.getD k default).tries + 1) (m := 3) (by omega)).1
 have hrc : OY (Uo ((s.items.getD i default).to.getD k default) w) := ⟨hr.1, ⟨by have := hr.2.1.1; show 0 ≤ _ + 1; omega, by show _ + 1 ≤ 3; omega⟩, ⟨by show 0 ≤ w + _; omega, hn2⟩⟩
 have hadr : ((s.items.getD i default).to.set k (Uo ((s.items.getD i default).to.getD k default) w)).map Rc.addr = (s.items.getD i default).to.map Rc.addr := by
  rw [List.map_set]
  have : (Uo ((s.items.getD i default).to.getD k default) w).addr = ((s.items.getD i default).to.map Rc.addr)[k]'(by rw [lm]; exact hk) := by
   rw [List.getElem_map]
   show ((s.items.getD i default).to.getD k default).addr = _
   rw [tY _ _ hk]
  rw [this, List.set_getElem_self]
 have hx2 : Dk (RU (s.items.getD i default) k w) := by
  refine ⟨fun r hm => ?_, ?_, hx.1.2.2.1, hx.1.2.2.2.1, ?_, hx.1.2.2.2.2.2⟩
  ·rcases List.mem_or_eq_of_mem_set hm with hm | rfl
   ·exact hx.1.1 r hm
   ·exact hrc
  ·show (((s.items.getD i default).to.set k _).map Rc.addr).Nodup
   rw [hadr]; exact hx.1.2.1
  ·show 1 ≤ ((s.items.getD i default).to.set k _).length ∧ ((s.items.getD i default).to.set k _).length ≤ 4
   rw [List.length_set]; exact hx.1.2.2.2.2.1
 refine ⟨fun x hm => ?_, Cm.2 ?_, h.2.2.1, by show (s.items.set i _).length ≤ 10; rw [List.length_set]; exact h.2.2.2⟩
 ·rcases List.mem_or_eq_of_mem_set hm with hm | rfl
  ·exact h.1 x hm
  ·exact ⟨hx2, hx.2⟩
 ·have e : (s.items.set i (RU (s.items.getD i default) k w)).map Im.id = s.items.map Im.id := by
    rw [List.map_set]
    have : (RU (s.items.getD i default) k w).id = (s.items.map Im.id)[i]'(by rw [lm]; exact hi) := by
     simp [RU, hi]
    rw [this, List.set_getElem_self]
  show ((s.items.set i _).map Im.id).Pairwise (· < ·)
  rw [e]; exact Cm.1 h.2.1
theorem IB {s : Sp} {m : Ml} {w : Int} (h : CM s) (hm : DA m) (hw : 0 ≤ w ∧ w ≤ 9999) (hr : CD s) : CM (Lj s m w) := by
 have hx : Dk (Vp s m w) := by
  refine ⟨fun r hr => ?_, ?_, ?_, hm.2.2.1, ?_, hm.2.2.2.2⟩
  ·obtain ⟨a, ha, rfl⟩ := List.mem_map.1 hr
   exact ⟨hm.1 a ha, by show 0 ≤ (0 : Int) ∧ (0 : Int) ≤ 3; decide, hw⟩
  ·show ((m.to.map (KC w)).map Rc.addr).Nodup
   have e : (m.to.map (KC w)).map Rc.addr = m.to := by
    rw [List.map_map]; exact List.map_id'' (fun _ => rfl) _
   rw [e]; exact hm.2.1
  ·have := h.2.2.1.1
   show 0 < s.last + 1; omega
  ·show 1 ≤ (m.to.map (KC w)).length ∧ (m.to.map (KC w)).length ≤ 4
   rw [lm]; exact hm.2.2.2.1
 have h1 := hr.1; have h2 := hr.2
 refine ⟨fun x hm => ?_, Cm.2 ?_, ?_, ?_⟩
 ·rcases List.mem_append.1 hm with hm | hm
  ·have := h.1 x hm
   exact ⟨this.1, by have := this.2; show x.id ≤ s.last + 1; omega⟩
  ·rw [List.mem_singleton.1 hm]
   exact ⟨hx, Int.le_refl _⟩
 ·show ((s.items ++ [Vp s m w]).map Im.id).Pairwise (· < ·)
  rw [List.map_append, List.pairwise_append]
  refine ⟨Cm.1 h.2.1, by simp, fun a ha b hb => ?_⟩
  obtain ⟨x, hx, rfl⟩ := List.mem_map.1 ha
  rw [List.map_cons, List.map_nil, List.mem_singleton] at hb
  rw [hb]
  have := (h.1 x hx).2
  show x.id < s.last + 1; omega
 ·have := h.2.2.1.1
  show 0 ≤ s.last + 1 ∧ s.last + 1 ≤ 999; omega
 ·show (s.items ++ [Vp s m w]).length ≤ 10
  rw [List.length_append]; simp; omega
theorem Fp : ∀ xs : List ByteArray, A6 xs = ⟨#[]⟩ ∨ A6 xs ∈ xs
 | [] => .inl rfl
 | x :: r => by
   rw [A6]
   cases BA (H5 x)
   ·rw [cond_false]
    rcases Fp r with h | h
    ·exact .inl h
    ·exact .inr (by simp [h])
   ·exact .inr (by simp)
def wn : ByteArray := ⟨#[110, 111, 116, 32, 100, 101, 108, 105, 118, 101, 114, 101, 100, 58]⟩
noncomputable def Bi (x : Im) (a : Ad) : Ml := ⟨⟨⟨#[]⟩, ⟨#[]⟩⟩, [x.frm], wn :: CA a :: (if A6 x.body = ⟨#[]⟩ then [] else [A6 x.body])⟩
theorem UE {x : Im} {a : Ad} (h : Dk x) (ha : BL a) (hn : ¬ AN x.frm) : DA (Bi x a) := by
 refine ⟨fun b hb => ?_, by show [x.frm].Nodup; simp, .inr ⟨rfl, rfl⟩, by show 1 ≤ 1 ∧ 1 ≤ 4; decide, fun s hs => ?_, ?_⟩
 ·rw [List.mem_singleton.1 hb]; exact h.2.2.2.1.resolve_right hn
 ·rcases List.mem_cons.1 hs with e | hs
  ·rw [e, HF]; exact ⟨by decide, by decide⟩
  ·rcases List.mem_cons.1 hs with e | hs
   ·rw [e]; exact Pt (.inl ha)
   ·split at hs
    ·cases hs
    ·rename_i q
     rw [List.mem_singleton.1 hs]
     exact h.2.2.2.2.2.1 _ ((Fp x.body).resolve_left q)
 ·show (wn :: CA a :: _).length ≤ 12
  split <;> simp
open Classical in
noncomputable def Gz (h : Hs) (x : Im) (a : Ad) (i k : Nat) (w : Int) : Hs :=
 if AN x.frm ∨ ¬ CD (DF h.spool i k) then ⟨h.conf, DF h.spool i k, h.boxes, h.lost ++ [⟨A6 x.body, a⟩]⟩ else ⟨h.conf, Lj (DF h.spool i k) (Bi x a) w, h.boxes, h.lost⟩
noncomputable def CR (h : Hs) (i k : Nat) (a : Ad) (out w : Int) : Hs :=
 if out = 2 then ⟨h.conf, DF h.spool i k, h.boxes, h.lost⟩
 else if out = 3 ∧ ¬ Nb ((h.spool.items.getD i default).to.getD k default) w then ⟨h.conf, PP h.spool i k w, h.boxes, h.lost⟩
 else Gz h (h.spool.items.getD i default) a i k w
section
variable {h : Hs} {x : Im} {n : Int} {a : Ad} {out w : Int} {i k : Nat}
theorem Xs (q : AN x.frm ∨ ¬ CD (DF h.spool i k)) : Gz h x a i k w = ⟨h.conf, DF h.spool i k, h.boxes, h.lost ++ [⟨A6 x.body, a⟩]⟩ := if_pos q
theorem Xr (q : ¬ (AN x.frm ∨ ¬ CD (DF h.spool i k))) : Gz h x a i k w = ⟨h.conf, Lj (DF h.spool i k) (Bi x a) w, h.boxes, h.lost⟩ := if_neg q
theorem GC {x : Im} {a : Ad} (q : ¬ B0 x a < 0) : (x.to.getD (B0 x a).toNat default).addr = a := by
 have h1 := NV (p := fun r : Rc => r.addr = a) x.to 0 (by unfold B0 at q; omega)
 exact h1
theorem GB {s : Sp} {n : Int} (q : ¬ A7 s n < 0) : (A3 s n).id = n := by
 have h1 := NV (p := fun x : Im => x.id = n) s.items 0 (by unfold A7 at q; omega)
 exact h1
end
def jl : Ct := Aj (lc Ld.asl l0) (fun p => (p.1.length : Int) ≤ 1048576) (fun p => .o true 2 (p.1.map Bn))
section
attribute [local go_sem] M1 Mz lm List.nil_append List.map_nil List.map_cons List.length_cons List.length_nil
theorem pi {G : Gt} (hG : Ac G) : Gd G 137 (AA 0 jl) := by
 refine gr (fn := Tryz.f137) (n := 1) rfl hG ?_ (hs := fun _ _ => .deep _ _)
 rintro ⟨xs, ⟨⟩⟩ hpre
 dsimp only at hpre ⊢
 cases xs with
 | nil =>
   simp -implicitDefEqProofs only [Tryz.f137, go_sem, seval]
   with_reducible repeat' (first | apply ai | intro _ | ((first | apply s1 | apply s2 | apply s3 | apply s4) <;> intro hb <;> simp -implicitDefEqProofs only [hb, go_sem, seval] <;> try simp only [qz] at hb))
   all_goals (try simp only [maxLen, lm] at *)
   all_goals first | rfl | omega | exact of_eq_true (Mo []) | (simp; done) | skip
 | cons x xs =>
   simp only [List.length_cons] at hpre
   simp -implicitDefEqProofs only [Tryz.f137, go_sem, seval]
   with_reducible repeat' (first | apply ai | intro _ | ((first | apply s1 | apply s2 | apply s3 | apply s4) <;> intro hb <;> simp -implicitDefEqProofs only [hb, go_sem, seval] <;> try simp only [qz] at hb))
   all_goals (try simp only [maxLen, lm] at *)
   all_goals first | rfl | omega | exact of_eq_true (Mo (x :: xs)) | exact of_eq_true (YF (x :: xs)) _ (by assumption) | (simp; done) | skip
end
def sh : Ct := Aj (lc FR.asl l0) (fun p => (p.1.length : Int) ≤ 1048576) (fun p => .o true 3 (p.1.map Ae))
section
attribute [local go_sem] M1 Mz lm List.nil_append List.map_nil List.map_cons List.length_cons List.length_nil
theorem ug {G : Gt} (hG : Ac G) : Gd G 75 (AA 0 sh) := by
 refine gr (fn := Tryz.f75) (n := 1) rfl hG ?_ (hs := fun _ _ => .deep _ _)
 rintro ⟨xs, ⟨⟩⟩ hpre
 dsimp only at hpre ⊢
 cases xs with
 | nil =>
   simp -implicitDefEqProofs only [Tryz.f75, go_sem, seval]
   with_reducible repeat' (first | apply ai | intro _ | ((first | apply s1 | apply s2 | apply s3 | apply s4) <;> intro hb <;> simp -implicitDefEqProofs only [hb, go_sem, seval] <;> try simp only [qz] at hb))
   all_goals (try simp only [maxLen, lm] at *)
   all_goals first | rfl | omega | exact of_eq_true (Mm []) | (simp; done) | skip
 | cons x xs =>
   simp only [List.length_cons] at hpre
   simp -implicitDefEqProofs only [Tryz.f75, go_sem, seval]
   with_reducible repeat' (first | apply ai | intro _ | ((first | apply s1 | apply s2 | apply s3 | apply s4) <;> intro hb <;> simp -implicitDefEqProofs only [hb, go_sem, seval] <;> try simp only [qz] at hb))
   all_goals (try simp only [maxLen, lm] at *)
   all_goals first | rfl | omega | exact of_eq_true (Mm (x :: xs)) | exact of_eq_true (YD (x :: xs)) _ (by assumption) | (simp; done) | skip
end
def sk : Ct := Aj (lc JS.ag l0) (fun p => Mu p.1) (fun p => da p.1)
section
attribute [local go_sem] lm List.map_nil List.length_nil List.nil_append Nat.zero_add
theorem uo {G : Gt} (hG : Ac G) : Gd G 90 (AA 0 sk) := by
 refine gr (fn := Tryz.f90) (n := 1) rfl hG ?_ (hs := fun _ p => K3 _)
 rintro ⟨x, ⟨⟩⟩ hpre
 simp -implicitDefEqProofs only [Tryz.f90, go_sem, seval] at hpre ⊢
 obtain ⟨_, ⟨h1, _⟩, ⟨h2, _⟩⟩ := hpre
 with_reducible repeat' (first | apply ai | intro _ | ((first | apply s1 | apply s2 | apply s3 | apply s4) <;> intro hb <;> simp -implicitDefEqProofs only [hb, go_sem, seval] <;> try simp only [qz] at hb))
 all_goals (try simp only [maxLen, lm, List.length_nil] at *)
 all_goals first | rfl | omega | (simp_all; done) | skip
end
def xk : Ct := Aj (lc JS.ag l0) (fun p => Mu p.1) (fun p => da p.1)
section
attribute [local go_sem] lD jl lm
theorem ue {G : Gt} (hG : Ac G) (hh : G.e 68 = AA 0 lD ∧ G.e 137 = AA 0 jl) : Gd G 73 (AA 0 xk) := by
 refine gr (fn := Tryz.f73) (n := 1) rfl hG ?_ (hs := fun _ p => K3 _)
 rintro ⟨x, ⟨⟩⟩ hpre
 simp -implicitDefEqProofs only [Tryz.f73, go_sem, hh, seval] at hpre ⊢
 obtain ⟨_, ⟨h1, _⟩, ⟨h2, _⟩⟩ := hpre
 with_reducible repeat' (first | apply ai | intro _ | ((first | apply s1 | apply s2 | apply s3 | apply s4) <;> intro hb <;> simp -implicitDefEqProofs only [hb, go_sem, hh, seval] <;> try simp only [qz] at hb))
 all_goals (try simp only [maxLen, lm] at *)
 all_goals first | rfl | omega | (simp_all; done) | skip
end
def xQ : Ct := Aj (lc FM.ag l0) (fun p => FN p.1) (fun p => dc p.1)
section
attribute [local go_sem] lD xk xl sh lm List.length_append List.length_cons List.length_nil List.map_append List.map_nil Nat.zero_add List.nil_append AS.opn AS.cls AS.nilb AS.renb AS.up Bool.not_false Bool.not_true List.set_set List.set_cons_zero List.set_cons_succ List.set_nil List.mem_singleton forall_eq
set_option maxHeartbeats 3200000 in
theorem tm {G : Gt} (hG : Ac G) (hh : G.e 68 = AA 0 lD ∧ G.e 73 = AA 0 xk ∧ G.e 74 = AA 0 xl ∧ G.e 75 = AA 0 sh) : Gd G 25 (AA 0 xQ) := by
 refine gr (fn := Tryz.f25) (n := 1) rfl hG ?_ (hs := fun _ p => K4 _)
 rintro ⟨h, ⟨⟩⟩ hpre
 simp -implicitDefEqProofs only [Tryz.f25, go_sem, hh, seval] at hpre ⊢
 obtain ⟨zc, zs, ⟨lb, zb⟩, ⟨ll, zl⟩⟩ := hpre
 with_reducible repeat' (first | apply ai | intro _ | ((first | apply s1 | apply s2 | apply s3 | apply s4) <;> intro hb <;> simp -implicitDefEqProofs only [hb, go_sem, hh, seval] <;> try simp only [qz] at hb))
 all_goals first | rfl | omega | decide | skip
 refine AC [(3, 1903, true, 3)] (ι := {i : Nat // i ≤ h.boxes.length}) (fun p => ⟨[(1, .pb 1001 0), (2, .pb 1002 0), (3, .h 1903), (10, .t (.sl 3 (h.boxes.map BQ))), (11, .t (.v (.int .i64 h.boxes.length))), (12, .t (.v (.int .i64 p.1)))], [(1001, some (.box ((AY h).map .t))), (1002, some (.box [.t (.v (.string ⟨#[]⟩)), .nil, .nil, .t (.v (.int .i64 0)), .nil, .nil, .nil])), (1903, some (.arr true 3 ((h.boxes.take p.1).map BQ)))]⟩) (fun p => h.boxes.length - p.1) ⟨0, by simp⟩ rfl ?_ ?_
 ·simp -implicitDefEqProofs only [go_sem, hh, seval]
  try simp
 ·rintro ⟨i, hi⟩
  have hlen : (h.boxes.take i).length = i := by simp; omega
  by_cases hlt : (i : Int) < h.boxes.length
  ·skip
   have hbx := zb _ (AB (xs := h.boxes) (j := i) (by omega))
   obtain ⟨_, ⟨lm, zm⟩⟩ := hbx
   simp -implicitDefEqProofs only [hlt, decide_true, tn, go_sem, hh, seval]
   with_reducible repeat' (first | apply ai | intro _ | ((first | apply s1 | apply s2 | apply s3 | apply s4) <;> intro hb <;> simp -implicitDefEqProofs only [hb, go_sem, hh, seval] <;> try simp only [qz] at hb))
   all_goals (try simp only [maxLen] at *)
   all_goals first | rfl | omega | assumption | decide | skip
   refine AC [(6, 1906, true, 3)] (ι := {k : Nat // k ≤ (h.boxes.getD i default).mails.length}) (fun p => ⟨[(1, .pb 1001 0), (2, .pb 1002 0), (3, .h 1903), (5, .pb 1005 0), (6, .h 1906), (10, .t (.sl 3 (h.boxes.map BQ))), (11, .t (.v (.int .i64 h.boxes.length))), (12, .t (.v (.int .i64 i))), (17, .t (.sl 3 ((h.boxes.getD i default).mails.map Ba))), (18, .t (.v (.int .i64 (h.boxes.getD i default).mails.length))), (19, .t (.v (.int .i64 p.1)))], [(1001, some (.box ((AY h).map .t))), (1002, some (.box [.t (.v (.string ⟨#[]⟩)), .nil, .nil, .t (.v (.int .i64 0)), .nil, .nil, .nil])), (1903, some (.arr true 3 ((h.boxes.take i).map BQ))), (1005, some (.box ((BQ (h.boxes.getD i default)).map .t))), (1906, some (.arr true 3 (((h.boxes.getD i default).mails.take p.1).map Ba)))]⟩) (fun p => (h.boxes.getD i default).mails.length - p.1) ⟨0, by simp⟩ rfl ?_ ?_
   ·simp -implicitDefEqProofs only [go_sem, hh, seval]
    try simp
   ·rintro ⟨k, hk⟩
    have hlen2 : ((h.boxes.getD i default).mails.take k).length = k := by rw [List.length_take]; omega
    by_cases hlt2 : (k : Int) < (h.boxes.getD i default).mails.length
    ·obtain ⟨_, ⟨lg, _⟩⟩ := zm _ (AB (xs := (h.boxes.getD i default).mails) (j := k) (by omega))
     simp -implicitDefEqProofs only [hlt2, decide_true, tn, go_sem, hh, seval]
     with_reducible repeat' (first | apply ai | intro _ | ((first | apply s1 | apply s2 | apply s3 | apply s4) <;> intro hb <;> simp -implicitDefEqProofs only [hb, go_sem, hh, seval] <;> try simp only [qz] at hb))
     all_goals (try simp only [maxLen] at *)
     all_goals first | rfl | omega | assumption | decide | skip
     refine ⟨⟨k + 1, by omega⟩, by dsimp only; omega, ?_⟩
     simp -implicitDefEqProofs only [go_sem, hh, seval]
     simp only [Ay Ba (show k < (h.boxes.getD i default).mails.length by omega)]
     with_reducible repeat' (first | apply ai | intro _ | ((first | apply s1 | apply s2 | apply s3 | apply s4) <;> intro hb <;> simp -implicitDefEqProofs only [hb, go_sem, hh, seval] <;> try simp only [qz] at hb))
     all_goals first | rfl | (simp; done) | skip
    ·have htk : (h.boxes.getD i default).mails.take k = (h.boxes.getD i default).mails := List.take_of_length_le (by omega)
     simp -implicitDefEqProofs only [hlt2, htk, decide_false, tn, go_sem, hh, seval]
     with_reducible repeat' (first | apply ai | intro _ | ((first | apply s1 | apply s2 | apply s3 | apply s4) <;> intro hb <;> simp -implicitDefEqProofs only [hb, go_sem, hh, seval] <;> try simp only [qz] at hb))
     all_goals (try simp only [maxLen] at *)
     all_goals first | rfl | omega | assumption | decide | skip
     refine ⟨⟨i + 1, by omega⟩, by dsimp only; omega, ?_⟩
     simp -implicitDefEqProofs only [go_sem, hh, seval]
     simp only [Ay BQ (show i < h.boxes.length by omega)]
     with_reducible repeat' (first | apply ai | intro _ | ((first | apply s1 | apply s2 | apply s3 | apply s4) <;> intro hb <;> simp -implicitDefEqProofs only [hb, go_sem, hh, seval] <;> try simp only [qz] at hb))
     all_goals first | rfl | (simp; done) | skip
  ·have htk : h.boxes.take i = h.boxes := List.take_of_length_le (by omega)
   simp -implicitDefEqProofs only [hlt, htk, decide_false, go_sem, hh, seval]
   with_reducible repeat' (first | apply ai | intro _ | ((first | apply s1 | apply s2 | apply s3 | apply s4) <;> intro hb <;> simp -implicitDefEqProofs only [hb, go_sem, hh, seval] <;> try simp only [qz] at hb))
   all_goals (try simp only [maxLen] at *)
   all_goals first | rfl | omega | assumption | decide | exact ⟨zc, zs, ⟨lb, zb⟩, ⟨ll, zl⟩⟩ | rfl | skip
end
def xS : Ct := Aj (lc FM.ag l0) (fun p => FN p.1) (fun p => dc p.1)
section
attribute [local go_sem] sk sm lm List.length_append List.length_cons List.length_nil List.map_append List.map_nil Nat.zero_add List.nil_append AS.opn AS.cls AS.nilb AS.renb AS.up Bool.not_false Bool.not_true List.set_set List.set_cons_zero List.set_cons_succ List.set_nil List.mem_singleton forall_eq
set_option maxHeartbeats 6400000 in
theorem tt {G : Gt} (hG : Ac G) (hh : G.e 90 = AA 0 sk ∧ G.e 91 = AA 0 sm) : Gd G 33 (AA 0 xS) := by
 refine PF (dp := fun n => !(Nat.beq n 100002 || Nat.beq n 100004 || Nat.beq n 100006 || Nat.beq n 100008)) (fn := Tryz.f33) (n := 1) rfl hG ?_ (hs := fun _ p => K4 _)
 rintro ⟨h, ⟨⟩⟩ hpre
 simp -implicitDefEqProofs only [Tryz.f33, go_sem, hh, seval] at hpre ⊢
 obtain ⟨zc, zs, ⟨lb, zb⟩, ⟨ll, zl⟩⟩ := hpre
 with_reducible repeat' (first | apply ai | intro _ | ((first | apply s1 | apply s2 | apply s3 | apply s4) <;> intro hb <;> simp -implicitDefEqProofs only [hb, go_sem, hh, seval] <;> try simp only [qz] at hb))
 all_goals (try simp only [maxLen] at *)
 all_goals first | rfl | omega | assumption | decide | skip
 refine Am (Le.nilb 1003 5 1905 true 3 rfl rfl rfl) (Af ?_)
 simp -implicitDefEqProofs only [go_sem, hh, seval]
 refine AC [] (ι := {i : Nat // i ≤ h.boxes.length}) (fun p => ⟨[(1, .pb 1001 0), (2, .pb 1002 0), (3, .pb 1003 0), (4, .t (.v (.int .i64 p.1)))], [(1001, some (.box ((AY h).map .t))), (1002, some (.box [.t (.v (.string ⟨#[]⟩)), .nil, .nil, .t (.v (.int .i64 0)), .nil, .nil, .nil])), (1003, some (.box [.t (.v (.string h.conf.name)), .h 1009, .h 2009, .t (.v (.int .i64 h.spool.last)), .h 1012, .h 1905, .h 1016])), (1009, some (.arr true 1 (h.conf.own.map AG))), (2009, some (.arr true 2 (h.conf.ways.map Bn))), (1012, some (.arr true 5 (h.spool.items.map Ar))), (1016, some (.arr true 3 (h.lost.map Ae))), (1905, some (.arr true 3 ((h.boxes.take p.1).map BQ)))]⟩) (fun p => h.boxes.length - p.1) ⟨0, by simp⟩ rfl ?_ ?_
 ·simp -implicitDefEqProofs only [go_sem, hh, seval]
  try simp
 ·rintro ⟨i, hi⟩
  have hlen : (h.boxes.take i).length = i := by simp; omega
  by_cases hlt : (i : Int) < h.boxes.length
  ·skip
   have hbx := zb _ (AB (xs := h.boxes) (j := i) (by omega))
   obtain ⟨_, ⟨lm, zm⟩⟩ := hbx
   simp -implicitDefEqProofs only [hlt, decide_true, tn, go_sem, hh, seval]
   with_reducible repeat' (first | apply ai | intro _ | ((first | apply s1 | apply s2 | apply s3 | apply s4) <;> intro hb <;> simp -implicitDefEqProofs only [hb, go_sem, hh, seval] <;> try simp only [qz] at hb))
   all_goals (try simp only [maxLen] at *)
   all_goals first | rfl | omega | assumption | decide | skip
   refine Am (Le.nilb 1005 2 1906 true 3 rfl rfl rfl) (Af ?_)
   simp -implicitDefEqProofs only [go_sem, hh, seval]
   with_reducible repeat' (first | apply ai | intro _ | ((first | apply s1 | apply s2 | apply s3 | apply s4) <;> intro hb <;> simp -implicitDefEqProofs only [hb, go_sem, hh, seval] <;> try simp only [qz] at hb))
   all_goals first | rfl | omega | decide | skip
   refine AC [] (ι := {k : Nat // k ≤ (h.boxes.getD i default).mails.length}) (fun p => ⟨[(1, .pb 1001 0), (2, .pb 1002 0), (3, .pb 1003 0), (4, .t (.v (.int .i64 i))), (5, .pb 1005 0), (6, .t (.v (.int .i64 p.1)))], [(1001, some (.box ((AY h).map .t))), (1002, some (.box [.t (.v (.string ⟨#[]⟩)), .nil, .nil, .t (.v (.int .i64 0)), .nil, .nil, .nil])), (1003, some (.box [.t (.v (.string h.conf.name)), .h 1009, .h 2009, .t (.v (.int .i64 h.spool.last)), .h 1012, .h 1905, .h 1016])), (1009, some (.arr true 1 (h.conf.own.map AG))), (2009, some (.arr true 2 (h.conf.ways.map Bn))), (1012, some (.arr true 5 (h.spool.items.map Ar))), (1016, some (.arr true 3 (h.lost.map Ae))), (1905, some (.arr true 3 ((h.boxes.take i).map BQ))), (1005, some (.box [.t (.v (.string (h.boxes.getD i default).addr.user)), .t (.v (.string (h.boxes.getD i default).addr.domain)), .h 1906])), (1906, some (.arr true 3 (((h.boxes.getD i default).mails.take p.1).map Ba)))]⟩) (fun p => (h.boxes.getD i default).mails.length - p.1) ⟨0, by simp⟩ rfl ?_ ?_
   ·simp -implicitDefEqProofs only [go_sem, hh, seval]
    try simp
   ·rintro ⟨k, hk⟩
    have hlen2 : ((h.boxes.getD i default).mails.take k).length = k := by rw [List.length_take]; omega
    by_cases hlt2 : (k : Int) < (h.boxes.getD i default).mails.length
    ·obtain ⟨_, ⟨lg, _⟩⟩ := zm _ (AB (xs := (h.boxes.getD i default).mails) (j := k) (by omega))
     simp -implicitDefEqProofs only [hlt2, decide_true, tn, go_sem, hh, seval]
     with_reducible repeat' (first | apply ai | intro _ | ((first | apply s1 | apply s2 | apply s3 | apply s4) <;> intro hb <;> simp -implicitDefEqProofs only [hb, go_sem, hh, seval] <;> try simp only [qz] at hb))
     all_goals (try simp only [maxLen, tn] at *)
     all_goals first | rfl | omega | assumption | decide | skip
     refine Am (Le.renb 1005 2 1069 1906 rfl rfl rfl rfl) (Af ?_)
     simp -implicitDefEqProofs only [go_sem, hh, seval]
     with_reducible repeat' (first | apply ai | intro _ | ((first | apply s1 | apply s2 | apply s3 | apply s4) <;> intro hb <;> simp -implicitDefEqProofs only [hb, go_sem, hh, seval] <;> try simp only [qz] at hb))
     all_goals first | rfl | omega | decide | skip
     refine ⟨⟨k + 1, by omega⟩, by dsimp only; omega, ?_⟩
     simp -implicitDefEqProofs only [go_sem, hh, seval]
     simp only [Ay Ba (show k < (h.boxes.getD i default).mails.length by omega)]
     with_reducible repeat' (first | apply ai | intro _ | ((first | apply s1 | apply s2 | apply s3 | apply s4) <;> intro hb <;> simp -implicitDefEqProofs only [hb, go_sem, hh, seval] <;> try simp only [qz] at hb))
     all_goals first | rfl | (simp; done) | skip
    ·have htk : (h.boxes.getD i default).mails.take k = (h.boxes.getD i default).mails := List.take_of_length_le (by omega)
     simp -implicitDefEqProofs only [hlt2, htk, decide_false, tn, go_sem, hh, seval]
     with_reducible repeat' (first | apply ai | intro _ | ((first | apply s1 | apply s2 | apply s3 | apply s4) <;> intro hb <;> simp -implicitDefEqProofs only [hb, go_sem, hh, seval] <;> try simp only [qz] at hb))
     all_goals (try simp only [maxLen] at *)
     all_goals first | rfl | omega | assumption | decide | skip
     refine Am (Le.renb 1003 5 1075 1905 rfl rfl rfl rfl) (Af ?_)
     simp -implicitDefEqProofs only [go_sem, hh, seval]
     with_reducible repeat' (first | apply ai | intro _ | ((first | apply s1 | apply s2 | apply s3 | apply s4) <;> intro hb <;> simp -implicitDefEqProofs only [hb, go_sem, hh, seval] <;> try simp only [qz] at hb))
     all_goals first | rfl | omega | decide | skip
     refine ⟨⟨i + 1, by omega⟩, by dsimp only; omega, ?_⟩
     simp -implicitDefEqProofs only [go_sem, hh, seval]
     simp only [Ay BQ (show i < h.boxes.length by omega)]
     with_reducible repeat' (first | apply ai | intro _ | ((first | apply s1 | apply s2 | apply s3 | apply s4) <;> intro hb <;> simp -implicitDefEqProofs only [hb, go_sem, hh, seval] <;> try simp only [qz] at hb))
     all_goals first | rfl | (simp; done) | skip
  ·have htk : h.boxes.take i = h.boxes := List.take_of_length_le (by omega)
   simp -implicitDefEqProofs only [hlt, htk, decide_false, go_sem, hh, seval]
   with_reducible repeat' (first | apply ai | intro _ | ((first | apply s1 | apply s2 | apply s3 | apply s4) <;> intro hb <;> simp -implicitDefEqProofs only [hb, go_sem, hh, seval] <;> try simp only [qz] at hb))
   all_goals (try simp only [maxLen] at *)
   all_goals first | rfl | omega | assumption | decide | rfl | skip
end
def kf : Ct := Aj (lc Ak l0) (fun p => p.1.size ≤ 2000000) (fun p => .t (.v (.string (Cr p.1))))
theorem rO {G : Gt} (hG : Ac G) : Gd G 240 (AA 0 kf) := by
 refine gr (fn := Tryz.f240) (n := 1) rfl hG ?_
 rintro ⟨n, ⟨⟩⟩ hpre
 simp -implicitDefEqProofs only [Tryz.f240, go_sem, seval] at hpre ⊢
 with_reducible repeat' (first | apply ai | intro _ | ((first | apply s1 | apply s2 | apply s3 | apply s4) <;> intro hb <;> simp -implicitDefEqProofs only [hb, go_sem, seval] <;> try simp only [qz] at hb))
 all_goals (try simp only [maxLen] at *)
 all_goals first | rfl | omega | (show 5 + n.size ≤ _; omega) | skip
theorem Sk {a : ByteArray} {xs : List ByteArray} : Ao.decL ([.v (.string a)] :: xs.map AG) = some (a :: xs) := Ao.decL_map (a :: xs)
theorem X1 (n : ByteArray) : (Cr n).size = 5 + n.size := by
 have e : bl (Cr n) = [72, 111, 112, 58, 32] ++ bl n := Qh _ _
 rw [← Br, e, List.length_append, Br]; rfl
open Classical in
noncomputable def I9 (h : Hs) (m : Ml) (w : Int) : Hs × Bool := if m.body.length < 12 ∧ CD h.spool then (JI h m w, true) else (h, false)
theorem Jt {h : Hs} {m : Ml} {w : Int} (q : m.body.length < 12 ∧ CD h.spool) : I9 h m w = (JI h m w, true) := if_pos q
theorem Js {h : Hs} {m : Ml} {w : Int} (q : ¬ (m.body.length < 12 ∧ CD h.spool)) : I9 h m w = (h, false) := if_neg q
def WU : Ct := Aj (lc FM.ag (lc aN.ag (lc BU l0))) (fun p => FN p.1 ∧ Lh p.2.1 ∧ CM p.1.spool ∧ p.1.conf.name.size ≤ 1000000) (fun p => dr (I9 p.1 p.2.1 p.2.2.1))
section
attribute [local go_sem] KO NA kf Qn LR KX List.take_length List.drop_zero List.length_take List.length_drop lm List.length_append List.length_cons List.length_nil List.map_append List.map_nil List.map_cons List.nil_append Nat.zero_add List.mem_singleton forall_eq Bool.not_true Bool.not_false Sk List.cons_append dr AS.opn AS.cls AS.nilb AS.renb AS.up List.set_set List.set_cons_zero List.set_cons_succ List.set_nil
set_option maxHeartbeats 3200000 in
theorem rB {G : Gt} (hG : Ac G) (hh : G.e 147 = AA 0 KO ∧ G.e 222 = AA 0 NA ∧ G.e 240 = AA 0 kf ∧ G.e 148 = AA 1 Qn) : Gd G 225 (AA 1 WU) := by
 refine PF (dp := fun n => Nat.ble 100000 n) (fn := Tryz.f225) (n := 3) rfl hG ?_
 rintro ⟨h, m, w, ⟨⟩⟩ hpre
 obtain ⟨hok, hml, hsp, hnm2⟩ := hpre
 dsimp only at hok hml hsp hnm2 ⊢
 have hml2 := hml
 obtain ⟨⟨_, _⟩, ⟨hl1, zt⟩, ⟨hl2, zb⟩⟩ := hml2
 have ML : h.conf.name.size ≤ 2000000 := by have : h.conf.name.size ≤ 1048576 := hok.1.1; omega
 by_cases q : m.body.length < 12 ∧ CD h.spool
 ·rw [Jt q]
  obtain ⟨q1, q2⟩ := q
  have b2 := An q2
  have q3 : ¬ (m.body.length : Int) ≥ 12 := by omega
  have hos := hok.2.1
  have hml3 : Lh ⟨m.frm, m.to, Cr h.conf.name :: m.body⟩ := by
   refine ⟨hml.1, hml.2.1, ⟨by show ((Cr h.conf.name :: m.body).length : Int) ≤ _; rw [List.length_cons]; omega, fun s hs => ?_⟩⟩
   rcases List.mem_cons.1 hs with e | hs
   ·rw [e]
    have h5 := X1 h.conf.name
    have h6 : h.conf.name.size ≤ 1000000 := hnm2
    show (Cr h.conf.name).size ≤ 1048576
    omega
   ·exact zb s hs
  simp -implicitDefEqProofs only [Tryz.f225, b2, q3, decide_false, go_sem, hh, seval]
  with_reducible repeat' (first | apply ai | intro _ | ((first | apply s1 | apply s2 | apply s3 | apply s4) <;> intro hb <;> simp -implicitDefEqProofs only [hb, go_sem, hh, seval] <;> try simp only [qz] at hb))
  all_goals (try simp only [maxLen] at *)
  all_goals first | with_reducible assumption | rfl | omega | contradiction | skip
 ·rw [Js q]
  by_cases q1 : m.body.length < 12
  ·have b2 := AQ (fun z => q ⟨q1, z⟩)
   have q3 : ¬ (m.body.length : Int) ≥ 12 := by omega
   simp -implicitDefEqProofs only [Tryz.f225, b2, q3, decide_false, go_sem, hh, seval]
   with_reducible repeat' (first | apply ai | intro _ | ((first | apply s1 | apply s2 | apply s3 | apply s4) <;> intro hb <;> simp -implicitDefEqProofs only [hb, go_sem, hh, seval] <;> try simp only [qz] at hb))
   all_goals (try simp only [maxLen] at *)
   all_goals first | rfl | omega | assumption | decide | contradiction | skip
  ·have q3 : (m.body.length : Int) ≥ 12 := by omega
   simp -implicitDefEqProofs only [Tryz.f225, q3, decide_true, go_sem, hh, seval]
   with_reducible repeat' (first | apply ai | intro _ | ((first | apply s1 | apply s2 | apply s3 | apply s4) <;> intro hb <;> simp -implicitDefEqProofs only [hb, go_sem, hh, seval] <;> try simp only [qz] at hb))
   all_goals (try simp only [maxLen] at *)
   all_goals first | rfl | omega | assumption | decide | contradiction | skip
end
section
open Go.Lib
theorem KG {s : ByteArray} (h : SC s) : ¬ (64 : UInt8) ∈ bl s := fun q => by
 obtain ⟨j, hj, e⟩ := HP q
 have := h.1 j hj
 rw [e] at this
 exact absurd this (by unfold Ki; decide)
theorem Qf {s : ByteArray} (h : D3 s) : ¬ (64 : UInt8) ∈ bl s := fun q => by
 obtain ⟨h1, _⟩ := (JQ s).1 h
 rcases Hn (c := 46) q with e | ⟨w, hw, q⟩
 ·exact absurd e (by decide)
 ·exact KG (h1 _ (List.mem_map_of_mem hw)) q
theorem Ig {c : UInt8} : ∀ {l : List UInt8} (m : Nat), ¬ c ∈ l → As c m l = [l]
 | _, 0, _ => by simp [As]
 | [], m + 1, _ => by simp [As]
 | x :: r, m + 1, h => by
   simp only [List.mem_cons, not_or] at h
   rw [As, if_neg (fun e => h.1 e.symm), Ig (m + 1) h.2]
theorem GM {c : UInt8} : ∀ {u d : List UInt8} (m : Nat), ¬ c ∈ u → As c (m + 1) (u ++ c :: d) = u :: As c m d
 | [], d, m, _ => by simp [As]
 | x :: r, d, m, h => by
   simp only [List.mem_cons, not_or] at h
   rw [List.cons_append, As, if_neg (fun e => h.1 e.symm), GM m h.2]
theorem NI {u d : List UInt8} (hu : ¬ (64 : UInt8) ∈ u) (hd : ¬ (64 : UInt8) ∈ d) : Cz (mB (u ++ 64 :: d)) 64 2 = [mB u, mB d] := by
 unfold Cz
 rw [FF, GM 1 hu, Ig 1 hd]; rfl
theorem cB {s : ByteArray} (h : (Cz s 64 2).length = 2) : s = mB (bl ((Cz s 64 2).getD 0 default) ++ 64 :: bl ((Cz s 64 2).getD 1 default)) := by
 by_cases h1 : (64 : UInt8) ∈ bl s
 ·obtain ⟨u, r, e, hu⟩ := List.eq_append_cons_of_mem h1
  by_cases h2 : (64 : UInt8) ∈ r
  ·obtain ⟨v, t, e2, hv⟩ := List.eq_append_cons_of_mem h2
   unfold Cz at h
   rw [e, GM 1 hu, e2, GM 0 hv] at h
   simp [As] at h
  ·have : Cz s 64 2 = [mB u, mB r] := by rw [← TH s, e]; exact NI hu h2
   rw [this]
   refine C5 ?_
   rw [e]; rfl
 ·unfold Cz at h
  rw [Ig 2 h1] at h
  cases h
theorem Ib {a : Ad} (h : BL a) : bl (CA a) = 60 :: ((bl a.user ++ 64 :: bl a.domain) ++ [62]) := by
 rw [Jk (Z1 h)]; simp
def FE (s : ByteArray) : Prop := ∃ a, (BL a ∨ AN a) ∧ CA a = s
open Classical in
noncomputable def A0 (s : ByteArray) : Ad := if h : FE s then h.choose else ⟨⟨#[]⟩, ⟨#[]⟩⟩
theorem RL (s : ByteArray) {l : List UInt8} (h : bl s = 60 :: (l ++ [62])) : s.extract 1 (s.size - 1) = mB l := by
 refine C5 ?_
 have e : s.size = l.length + 2 := by rw [← Br, h]; simp
 rw [BS, h, e, FF]
 try simp
theorem Ps {a b : Ad} (ha : BL a ∨ AN a) (hb : BL b ∨ AN b) (h : CA a = CA b) : a = b := by
 have key : ∀ {x y : Ad}, BL x → AN y → CA x = CA y → False := fun {x y} hx hy e => by
  have := congrArg bl e
  rw [Ib hx, E9 hy] at this
  have := congrArg List.length this
  have e2 : (bl (⟨#[60, 62]⟩ : ByteArray)).length = 2 := rfl
  rw [e2] at this
  simp at this
  omega
 rcases ha with ha | ha
 ·rcases hb with hb | hb
  ·have e1 := RL (CA a) (Ib ha)
   have e2 := RL (CA b) (Ib hb)
   rw [h, e2] at e1
   have e3 := NI (KG ha.1) (Qf ha.2)
   rw [← e1, NI (KG hb.1) (Qf hb.2)] at e3
   simp only [List.cons.injEq, and_true, TH] at e3
   obtain ⟨u, d⟩ := a
   obtain ⟨v, w⟩ := b
   rw [show v = u from e3.1, show w = d from e3.2]
  ·exact (key ha hb h).elim
 ·rcases hb with hb | hb
  ·exact (key hb ha h.symm).elim
  ·obtain ⟨u, d⟩ := a
   obtain ⟨v, w⟩ := b
   rw [show u = _ from ha.1, show d = _ from ha.2, show v = _ from hb.1, show w = _ from hb.2]
theorem HV {s : ByteArray} {a : Ad} (ha : BL a ∨ AN a) (h : CA a = s) : FE s ∧ A0 s = a := by
 have hr : FE s := ⟨a, ha, h⟩
 refine ⟨hr, ?_⟩
 unfold A0
 rw [dif_pos hr]
 exact Ps hr.choose_spec.1 ha (hr.choose_spec.2.trans h.symm)
theorem NU {s : ByteArray} (h : ¬ FE s) : A0 s = ⟨⟨#[]⟩, ⟨#[]⟩⟩ := dif_neg h
theorem DZ {s : ByteArray} (h : FE s) : (BL (A0 s) ∨ AN (A0 s)) ∧ CA (A0 s) = s := by
 unfold A0
 rw [dif_pos h]
 exact h.choose_spec
theorem Ny : FE ⟨#[60, 62]⟩ ∧ A0 ⟨#[60, 62]⟩ = ⟨⟨#[]⟩, ⟨#[]⟩⟩ := HV (.inr ⟨rfl, rfl⟩) (E9 ⟨rfl, rfl⟩)
theorem nn {s : ByteArray} (h : FE s) (h0 : ¬ s = ⟨#[60, 62]⟩) : 2 ≤ s.size ∧ AE s 0 = 60 ∧ AE s (s.size - 1) = 62 ∧ Cz (s.extract 1 (s.size - 1)) 64 2 = [(A0 s).user, (A0 s).domain] ∧ BL (A0 s) := by
 obtain ⟨h1, h2⟩ := DZ h
 have hk := h1.resolve_right fun q => h0 (by rw [← h2, E9 q])
 have hb := Ib hk
 rw [h2] at hb
 have hs : s.size = ((bl (A0 s).user ++ 64 :: bl (A0 s).domain)).length + 2 := by rw [← Br, hb]; simp; omega
 refine ⟨by omega, ?_, ?_, ?_, hk⟩
 ·rw [CE, hb]; rfl
 ·rw [CE, hb, hs]
  simp only [List.getD_eq_getElem?_getD]
  rw [show ∀ n : Nat, n + 2 - 1 = n + 1 from fun n => rfl, List.getElem?_cons_succ, List.getElem?_append_right (Nat.le_refl _), Nat.sub_self]
  rfl
 ·rw [RL s hb, NI (KG hk.1) (Qf hk.2)]; rfl
theorem jJ {s : ByteArray} (h : 2 ≤ s.size) (h1 : AE s 0 = 60) (h2 : AE s (s.size - 1) = 62) : bl s = 60 :: (bl (s.extract 1 (s.size - 1)) ++ [62]) := by
 have e1 : (bl s).getD 0 0 = 60 := (GF (c := 60)).1 h1
 have e2 : (bl s).getD (s.size - 1) 0 = 62 := (GF (c := 62)).1 h2
 have d0 := GG (s := s) (i := 0) (by omega)
 have d1 := GG (s := s) (i := s.size - 1) (by omega)
 rw [e1] at d0
 rw [e2] at d1
 have e3 : (bl s).drop (s.size - 1 + 1) = [] := List.drop_of_length_le (by rw [Br]; omega)
 rw [e3] at d1
 rw [BS]
 have : (bl s).drop 1 = ((bl s).drop 1).take (s.size - 1 - 1) ++ ((bl s).drop 1).drop (s.size - 1 - 1) := (List.take_append_drop _ _).symm
 rw [List.drop_drop, show 1 + (s.size - 1 - 1) = s.size - 1 by omega, d1] at this
 rw [← this]
 exact d0
theorem Y8 {s : ByteArray} (h : 2 ≤ s.size) (h1 : AE s 0 = 60) (h2 : AE s (s.size - 1) = 62) (h3 : (Cz (s.extract 1 (s.size - 1)) 64 2).length = 2)
    (h4 : BL ⟨(Cz (s.extract 1 (s.size - 1)) 64 2).getD 0 default, (Cz (s.extract 1 (s.size - 1)) 64 2).getD 1 default⟩) :
    FE s ∧ A0 s = ⟨(Cz (s.extract 1 (s.size - 1)) 64 2).getD 0 default, (Cz (s.extract 1 (s.size - 1)) 64 2).getD 1 default⟩ := by
 refine HV (.inl h4) (C5 ?_)
 rw [Ib h4, jJ h h1 h2]
 have := congrArg bl (cB h3)
 rw [this]; rfl
abbrev RT : ByteArray := ⟨#[60]⟩
abbrev VM : ByteArray := ⟨#[62]⟩
abbrev fH : ByteArray := ⟨#[64]⟩
noncomputable abbrev NH (s : ByteArray) : ByteArray := ctU s fH
noncomputable abbrev NG (s : ByteArray) : ByteArray := ctD s fH
theorem cA {u d : List UInt8} (hu : ¬ (64 : UInt8) ∈ u) : NH (mB (u ++ 64 :: d)) = mB u ∧ NG (mB (u ++ 64 :: d)) = mB d := by
 have hx : indexB (mB (u ++ 64 :: d)) fH = u.length := by
  have e1 : UInt8.ofNat (AE fH 0).toNat = 64 := rfl
  rw [← Km (show fH.size = 1 from rfl), e1, FF]
  induction u with
  | nil => rfl
  | cons x r ih =>
    simp only [List.mem_cons, not_or] at hu
    rw [List.cons_append, indexByte, if_neg (by simpa using fun e => hu.1 e.symm), ih hu.2]
    rw [if_neg (by simp <;> omega), List.length_cons]; omega
 unfold NH NG ctU ctD
 rw [hx, if_pos (by omega), if_pos (by omega), tn, show fH.size = 1 from rfl]
 constructor
 ·refine C5 ?_
  rw [BS, FF, FF]
  try simp
 ·refine C5 ?_
  rw [BS, FF, FF, List.drop_append, List.drop_of_length_le (by omega), show u.length + 1 - u.length = 1 by omega]
  rw [List.nil_append, List.drop_succ_cons, List.drop_zero, List.take_of_length_le (by rw [TI]; simp; omega)]
theorem We : NH ⟨#[]⟩ = ⟨#[]⟩ ∧ NG ⟨#[]⟩ = ⟨#[]⟩ := by
 have hx : indexB ⟨#[]⟩ fH = -1 := by
  rw [← Km (show fH.size = 1 from rfl)]; rfl
 unfold NH NG ctU ctD
 rw [hx, if_neg (by decide), if_neg (by decide)]
 exact ⟨rfl, rfl⟩
theorem dq {s : ByteArray} (h : FE s) : QN s RT ∧ (⟨NH (G9 (Fs s RT) VM), NG (G9 (Fs s RT) VM)⟩ : Ad) = A0 s := by
 obtain ⟨l, hl, hu⟩ : ∃ l, bl s = 60 :: (l ++ [62]) ∧ (⟨NH (mB l), NG (mB l)⟩ : Ad) = A0 s := by
  obtain ⟨h1, h2⟩ := DZ h
  by_cases hn : AN (A0 s)
  ·refine ⟨[], by rw [← h2, E9 hn]; rfl, ?_⟩
   have e := We
   rw [show mB [] = ⟨#[]⟩ from rfl, e.1, e.2]
   generalize A0 s = a at hn
   obtain ⟨u, d⟩ := a
   rw [show u = _ from hn.1, show d = _ from hn.2]
  ·have hk := h1.resolve_right hn
   refine ⟨_, by rw [← h2]; exact Ib hk, ?_⟩
   obtain ⟨e1, e2⟩ := cA (d := bl (A0 s).domain) (KG hk.1)
   rw [h2] at *
   rw [e1, e2]; rfl
 have hs : s.size = l.length + 2 := by rw [← Br, hl]; simp
 have z1 : RT.size = 1 := rfl
 have z2 : VM.size = 1 := rfl
 have e1 : s.extract 0 RT.size = RT := by rw [z1]; exact C5 (by rw [BS, hl]; rfl)
 have hp : QN s RT := ⟨by omega, e1⟩
 refine ⟨hp, ?_⟩
 have p1 : Fs s RT = mB (l ++ [62]) := by
  rw [G7 hp, z1]
  refine C5 ?_
  rw [BS, hl, FF, List.drop_succ_cons, List.drop_zero, List.take_of_length_le (by rw [hs]; simp)]
 have p2 : G9 (mB (l ++ [62])) VM = mB l := by
  have e2 : (mB (l ++ [62])).size = l.length + 1 := by rw [TI]; simp
  have e3 : (mB (l ++ [62])).extract l.length (l.length + 1) = VM := C5 (by rw [BS, FF, List.drop_left]; simp; rfl)
  have e4 : (mB (l ++ [62])).extract 0 l.length = mB l := C5 (by rw [BS, FF, FF]; simp)
  have hq : wg (mB (l ++ [62])) VM := ⟨by omega, by rw [z2, e2, Nat.add_sub_cancel]; exact e3⟩
  rw [LK hq, z2, e2, Nat.add_sub_cancel, e4]
 rw [p1, p2]; exact hu
theorem Y9 {s : ByteArray} (h0 : ¬ s = ⟨#[60, 62]⟩) (h : (s.size : Int) < 2 ∨ ¬ AE s 0 = 60 ∨ ¬ AE s (s.size - 1) = 62 ∨ ¬ ((Cz (s.extract 1 (s.size - 1)) 64 2).length : Int) = 2 ∨
    ¬ BL ⟨(Cz (s.extract 1 (s.size - 1)) 64 2).getD 0 default, (Cz (s.extract 1 (s.size - 1)) 64 2).getD 1 default⟩) : ¬ FE s := fun q => by
 obtain ⟨h1, h2, h3, h4, h5⟩ := nn q h0
 rw [h4] at h
 rcases h with h | h | h | h | h
 ·omega
 ·exact h h2
 ·exact h h3
 ·exact h rfl
 ·exact h h5
theorem Rt {s : ByteArray} (h : ¬ QN s RT ∨ ¬ (BL ⟨NH (G9 (Fs s RT) VM), NG (G9 (Fs s RT) VM)⟩ ∨ AN ⟨NH (G9 (Fs s RT) VM), NG (G9 (Fs s RT) VM)⟩) ∨ ¬ CA ⟨NH (G9 (Fs s RT) VM), NG (G9 (Fs s RT) VM)⟩ = s) : ¬ FE s := fun q => by
 obtain ⟨h1, h2⟩ := dq q
 obtain ⟨h3, h4⟩ := DZ q
 rw [h2] at h
 rcases h with h | h | h
 ·exact h h1
 ·exact h h3
 ·exact h h4
theorem yV : (0 : Int).toNat = 0 := rfl
theorem yW : (1 : Int).toNat = 1 := rfl
theorem zd : (2 : Int).toNat = 2 := rfl
theorem u64 : UInt8.ofNat (64 : Int).toNat = 64 := rfl
theorem ze (n : Nat) : ((n : Int) - 1).toNat = n - 1 := by omega
end
noncomputable def wq (s : ByteArray) : AV := .tup [.agg [.t (.v (.string (A0 s).user)), .t (.v (.string (A0 s).domain))], .t (.v (.bool (BA (FE s))))]
theorem Ic (s : ByteArray) : wq s = .tup [.agg [.t (.v (.string (A0 s).user)), .t (.v (.string (A0 s).domain))], .t (.v (.bool (BA (FE s))))] := rfl
theorem gU {s : ByteArray} {a : Ad} (h : FE s ∧ A0 s = a) : T.v (.string a.user) = T.v (.string (A0 s).user) := by rw [h.2]
theorem gD {s : ByteArray} {a : Ad} (h : FE s ∧ A0 s = a) : T.v (.string a.domain) = T.v (.string (A0 s).domain) := by rw [h.2]
theorem gT {s : ByteArray} {a : Ad} (h : FE s ∧ A0 s = a) : T.v (.bool true) = T.v (.bool (BA (FE s))) := by rw [An h.1]
theorem zC {s : ByteArray} (h : ¬ FE s) : T.v (.string ⟨#[]⟩) = T.v (.string (A0 s).user) := by rw [NU h]
theorem zB {s : ByteArray} (h : ¬ FE s) : T.v (.string ⟨#[]⟩) = T.v (.string (A0 s).domain) := by rw [NU h]
theorem gF {s : ByteArray} (h : ¬ FE s) : T.v (.bool false) = T.v (.bool (BA (FE s))) := by rw [AQ h]
theorem MX (s : ByteArray) : BO (wq s) := .tup _ fun c hc => by
 simp only [List.mem_cons, List.not_mem_nil, or_false] at hc
 rcases hc with rfl | rfl
 ·refine .agg _ fun c hc => ?_
  simp only [List.mem_cons, List.not_mem_nil, or_false] at hc
  rcases hc with rfl | rfl <;> exact .v _
 ·exact .v _
def M7 : Ct := Aj (lc DV.ag l0) (fun p => p.1.user.size ≤ 2000000 ∧ p.1.domain.size ≤ 2000000) (fun p => .t (.v (.string (CA p.1))))
section
attribute [local go_sem] NB
theorem pc {G : Gt} (hG : Ac G) (hh : G.e 62 = AA 0 NB) : Gd G 126 (AA 0 M7) := by
 refine gr (fn := Tryz.f126) (n := 1) rfl hG ?_
 rintro ⟨a, ⟨⟩⟩ hpre
 simp -implicitDefEqProofs only [Tryz.f126, go_sem, hh, seval] at hpre ⊢
 obtain ⟨h1, h2⟩ := hpre
 have e1 : (#[60] : Array UInt8).size = 1 := rfl
 have e2 : (#[64] : Array UInt8).size = 1 := rfl
 have e3 : (#[62] : Array UInt8).size = 1 := rfl
 with_reducible repeat' (first | apply ai | intro _ | ((first | apply s1 | apply s2 | apply s3 | apply s4) <;> intro hb <;> simp -implicitDefEqProofs only [hb, go_sem, hh, seval] <;> try simp only [qz] at hb))
 all_goals (try simp only [maxLen] at *)
 all_goals first
  | rfl
  | omega
  | (rw [E9 (by assumption)]; done)
  | (rw [Nu hb]; done)
  | skip
end
def jn : Ct := Aj (lc DV.ag l0) (fun p => p.1.user.size ≤ 2000000 ∧ p.1.domain.size ≤ 2000000) (fun p => .t (.v (.string (CA p.1))))
section
attribute [local go_sem] M6
theorem pk {G : Gt} (hG : Ac G) (hh : G.e 103 = AA 0 M6) : Gd G 139 (AA 0 jn) := by
 refine gr (fn := Tryz.f139) (n := 1) rfl hG ?_
 rintro ⟨a, ⟨⟩⟩ hpre
 simp -implicitDefEqProofs only [Tryz.f139, go_sem, hh, seval] at hpre ⊢
 obtain ⟨h1, h2⟩ := hpre
 have e1 : (#[60] : Array UInt8).size = 1 := rfl
 have e2 : (#[64] : Array UInt8).size = 1 := rfl
 have e3 : (#[62] : Array UInt8).size = 1 := rfl
 with_reducible repeat' (first | apply ai | intro _ | ((first | apply s1 | apply s2 | apply s3 | apply s4) <;> intro hb <;> simp -implicitDefEqProofs only [hb, go_sem, hh, seval] <;> try simp only [qz] at hb))
 all_goals (try simp only [maxLen] at *)
 all_goals first
  | rfl
  | omega
  | (rw [E9 (by assumption)]; done)
  | (rw [Nu hb]; done)
  | skip
end
def Qo : Ct := Aj (lc Ak l0) (fun p => p.1.size ≤ 2000000) (fun p => wq p.1)
section
attribute [local go_sem] WM II AK AM Ai lm Ic
set_option maxHeartbeats 2000000 in
theorem qJ {G : Gt} (hG : Ac G) (hh : G.e 175 = AA 0 WM ∧ G.e 123 = AA 0 II) : Gd G 167 (AA 0 Qo) := by
 refine gr (fn := Tryz.f167) (n := 1) rfl hG ?_ (hs := fun _ _ => MX _)
 rintro ⟨s, ⟨⟩⟩ hpre
 simp -implicitDefEqProofs only [Tryz.f167, go_sem, hh, seval] at hpre ⊢
 with_reducible repeat' (first | apply ai | intro _ | ((first | apply s1 | apply s2 | apply s3 | apply s4) <;> intro hb <;> simp -implicitDefEqProofs only [hb, go_sem, hh, seval] <;> try simp only [qz] at hb))
 all_goals (try simp only [maxLen, u64, yV, yW, zd, ze, tn] at *)
 all_goals first
  | with_reducible rfl
  | omega
  | decide
  | (show AZ _ = true; rfl)
  | with_reducible assumption
  | with_reducible exact zC (Y9 (by with_reducible assumption) (by first | exact .inl (by with_reducible assumption) | exact .inr (.inl (by with_reducible assumption)) | exact .inr (.inr (.inl (by with_reducible assumption))) | exact .inr (.inr (.inr (.inl (by with_reducible assumption)))) | exact .inr (.inr (.inr (.inr (by with_reducible assumption))))))
  | with_reducible exact zB (Y9 (by with_reducible assumption) (by first | exact .inl (by with_reducible assumption) | exact .inr (.inl (by with_reducible assumption)) | exact .inr (.inr (.inl (by with_reducible assumption))) | exact .inr (.inr (.inr (.inl (by with_reducible assumption)))) | exact .inr (.inr (.inr (.inr (by with_reducible assumption))))))
  | with_reducible exact gF (Y9 (by with_reducible assumption) (by first | exact .inl (by with_reducible assumption) | exact .inr (.inl (by with_reducible assumption)) | exact .inr (.inr (.inl (by with_reducible assumption))) | exact .inr (.inr (.inr (.inl (by with_reducible assumption)))) | exact .inr (.inr (.inr (.inr (by with_reducible assumption))))))
  | with_reducible exact gU (Y8 (by omega) (by with_reducible assumption) (by with_reducible assumption) (by omega) (by with_reducible assumption))
  | with_reducible exact gD (Y8 (by omega) (by with_reducible assumption) (by with_reducible assumption) (by omega) (by with_reducible assumption))
  | with_reducible exact gT (Y8 (by omega) (by with_reducible assumption) (by with_reducible assumption) (by omega) (by with_reducible assumption))
  | (subst hb; with_reducible exact gU Ny)
  | (subst hb; with_reducible exact gD Ny)
  | (subst hb; with_reducible exact gT Ny)
  | skip
end
def j1 : Ct := Aj (lc Ak l0) (fun p => p.1.size ≤ 2000000) (fun p => wq p.1)
section
attribute [local go_sem] WQ kC kB k9 jn AK AM NE Qt Ic
set_option maxHeartbeats 2000000 in
theorem qE {G : Gt} (hG : Ac G) (hh : G.e 191 = AA 0 WQ ∧ G.e 193 = AA 0 kC ∧ G.e 192 = AA 0 kB ∧ G.e 45 = AA 0 k9 ∧ G.e 139 = AA 0 jn) : Gd G 162 (AA 0 j1) := by
 refine gr (fn := Tryz.f162) (n := 1) rfl hG ?_ (hs := fun _ _ => MX _)
 rintro ⟨s, ⟨⟩⟩ hpre
 simp -implicitDefEqProofs only [Tryz.f162, go_sem, hh, seval] at hpre ⊢
 with_reducible repeat' (first | apply ai | intro _ | ((first | apply s1 | apply s2 | apply s3 | apply s4) <;> intro hb <;> simp -implicitDefEqProofs only [hb, go_sem, hh, seval] <;> try simp only [qz] at hb))
 all_goals (try simp only [maxLen, tn] at *)
 all_goals first
  | with_reducible rfl
  | omega
  | decide
  | (show AZ _ = true; rfl)
  | with_reducible assumption
  | exact Nat.le_trans (Hh _ _) hpre
  | exact Nat.le_trans (N5 _ _) (Nat.le_trans (Hh _ _) hpre)
  | exact Nat.le_trans (lj _ _) (Nat.le_trans (N5 _ _) (Nat.le_trans (Hh _ _) hpre))
  | exact Nat.le_trans (ld _ _) (Nat.le_trans (N5 _ _) (Nat.le_trans (Hh _ _) hpre))
  | with_reducible exact zC (Rt (by first | exact .inl (by with_reducible assumption) | exact .inr (.inl (by with_reducible assumption)) | exact .inr (.inr (by with_reducible assumption))))
  | with_reducible exact zB (Rt (by first | exact .inl (by with_reducible assumption) | exact .inr (.inl (by with_reducible assumption)) | exact .inr (.inr (by with_reducible assumption))))
  | with_reducible exact gF (Rt (by first | exact .inl (by with_reducible assumption) | exact .inr (.inl (by with_reducible assumption)) | exact .inr (.inr (by with_reducible assumption))))
  | with_reducible exact gU (HV (by with_reducible assumption) (by with_reducible assumption))
  | with_reducible exact gD (HV (by with_reducible assumption) (by with_reducible assumption))
  | with_reducible exact gT (HV (by with_reducible assumption) (by with_reducible assumption))
  | skip
end
theorem iI {s : ByteArray} (h : D3 s) : ¬ s.size = 0 := fun q => by
 rw [gc q] at h
 have := (h.1 ⟨#[]⟩ (by simp [Cz, As, bl, mB])).2.1
 exact absurd this (by decide)
theorem sE {s : ByteArray} : Ge s ↔ 5 < s.size ∧ s.extract 0 5 = ml ∧ D3 (s.extract 5 s.size) := by
 have e : ml.size = 5 := rfl
 unfold Ge QN
 rw [e]
 constructor
 ·rintro ⟨⟨h1, h2⟩, h3⟩
  refine ⟨?_, h2, h3⟩
  have := iI h3
  rw [ByteArray.size_extract] at this
  omega
 ·rintro ⟨h1, h2, h3⟩
  exact ⟨⟨by omega, h2⟩, h3⟩
noncomputable def Bf : List ByteArray → Nat
 | [] => 0
 | x :: r => bif BA (Ge x) then Bf r + 1 else 0
theorem Je : ∀ xs : List ByteArray, Bf xs ≤ xs.length
 | [] => Nat.le_refl _
 | x :: r => by
   have := Je r
   unfold Bf
   cases BA (Ge x) <;> simp <;> omega
theorem Xz {xs : List ByteArray} {i : Nat} (h : i < xs.length) (ha : Ge (xs.getD i default)) : Bf (xs.drop i) = Bf (xs.drop (i + 1)) + 1 := by
 rw [Aa h, Bf, An ha]; rfl
theorem cn {xs : List ByteArray} {i : Nat} (h : i < xs.length) (ha : ¬ Ge (xs.getD i default)) : Bf (xs.drop i) = 0 := by
 rw [Aa h, Bf, AQ ha]; rfl
theorem Xy {xs : List ByteArray} {i : Nat} (h : xs.length ≤ i) : Bf (xs.drop i) = 0 := by
 rw [List.drop_eq_nil_of_le h, Bf]
theorem X0 : ∀ (xs : List ByteArray) (k : Nat), (BD (fun x => ¬ Ge x) k xs = -1 ∧ Bf xs = xs.length) ∨ BD (fun x => ¬ Ge x) k xs = k + Bf xs
 | [], k => .inl ⟨rfl, rfl⟩
 | x :: r, k => by
   rw [BD, Bf]
   by_cases h : Ge x
   ·rw [An h, AQ (fun q => q h), cond_false, cond_true]
    rcases X0 r (k + 1) with ⟨h1, h2⟩ | h1
    ·exact .inl ⟨h1, by rw [h2]; rfl⟩
    ·exact .inr (by rw [h1]; omega)
   ·rw [AQ h, An h, cond_true, cond_false]
    exact .inr (by omega)
abbrev yJ : ByteArray := ⟨#[110, 111, 116, 32, 100, 101, 108, 105, 118, 101, 114, 101, 100, 58]⟩
def H7 (xs : List ByteArray) : Prop := Bf xs + 1 < xs.length ∧ xs.getD (Bf xs) default = yJ
def Er (xs : List ByteArray) : Prop := H7 xs ∧ FE (xs.getD (Bf xs + 1) default) ∧ ¬ AN (A0 (xs.getD (Bf xs + 1) default))
open Classical in
noncomputable def Ei (xs : List ByteArray) : Ad := if H7 xs then A0 (xs.getD (Bf xs + 1) default) else ⟨⟨#[]⟩, ⟨#[]⟩⟩
open Classical in
noncomputable def OA (xs : List ByteArray) : ByteArray := if Er xs then xs.getD (Bf xs + 1) default else ⟨#[]⟩
theorem OB {xs : List ByteArray} (h : Er xs) : OA xs = xs.getD (Bf xs + 1) default := if_pos h
theorem Zm {xs : List ByteArray} (h : ¬ Er xs) : OA xs = ⟨#[]⟩ := if_neg h
theorem Nz {xs : List ByteArray} (h : H7 xs) : Ei xs = A0 (xs.getD (Bf xs + 1) default) := if_pos h
theorem ZA {xs : List ByteArray} (h : ¬ H7 xs) : Ei xs = ⟨⟨#[]⟩, ⟨#[]⟩⟩ := if_neg h
theorem TY (a : Ad) : ¬ CA a = ⟨#[]⟩ := fun q => by
 have := congrArg bl q
 by_cases h : AN a
 ·rw [E9 h] at this; cases this
 ·rw [Jk h] at this
  simp only [List.append_assoc, List.cons_append, List.nil_append] at this
  cases this
theorem Tm {xs : List ByteArray} : ¬ OA xs = ⟨#[]⟩ ↔ Er xs := by
 by_cases h : Er xs
 ·rw [OB h]
  refine ⟨fun _ => h, fun _ q => ?_⟩
  have := (DZ h.2.1).2
  rw [q] at this
  exact TY _ this
 ·rw [Zm h]
  exact ⟨fun q => absurd rfl q, fun q => absurd q h⟩
theorem Jp {xs : List ByteArray} {a : Ad} (ha : BL a) : OA xs = CA a ↔ Er xs ∧ Ei xs = a := by
 constructor
 ·intro h
  have hr : Er xs := Tm.1 fun q => TY a (h.symm.trans q)
  refine ⟨hr, ?_⟩
  rw [Nz hr.1]
  rw [OB hr] at h
  obtain ⟨h1, h2⟩ := DZ hr.2.1
  exact Ps h1 (.inl ha) (h2.trans h)
 ·rintro ⟨hr, h⟩
  rw [Nz hr.1] at h
  rw [OB hr, ← h]
  exact (DZ hr.2.1).2.symm
noncomputable def nq (xs : List ByteArray) : AV := .tup [.agg [.t (.v (.string (Ei xs).user)), .t (.v (.string (Ei xs).domain))], .t (.v (.bool (BA (Er xs))))]
theorem N0 (xs : List ByteArray) : nq xs = .tup [.agg [.t (.v (.string (Ei xs).user)), .t (.v (.string (Ei xs).domain))], .t (.v (.bool (BA (Er xs))))] := rfl
theorem EE {xs : List ByteArray} (h : Bf xs + 1 < xs.length) (h2 : xs.getD (Bf xs) default = yJ) : H7 xs := ⟨h, h2⟩
theorem EF {xs : List ByteArray} (h : xs.length ≤ Bf xs + 1 ∨ ¬ xs.getD (Bf xs) default = yJ) : ¬ H7 xs := fun q => h.elim (fun e => by have := q.1; omega) fun e => e q.2
theorem ZB {xs : List ByteArray} (h : H7 xs) (h1 : FE (xs.getD (Bf xs + 1) default)) (h2 : ¬ AN (A0 (xs.getD (Bf xs + 1) default))) : Er xs := ⟨h, h1, h2⟩
theorem N1 {xs : List ByteArray} (h : ¬ H7 xs ∨ ¬ FE (xs.getD (Bf xs + 1) default) ∨ AN (A0 (xs.getD (Bf xs + 1) default))) : ¬ Er xs := fun q => h.elim (fun e => e q.1) fun e => e.elim (fun e => e q.2.1) fun e => q.2.2 e
theorem Ta {xs : List ByteArray} (h : H7 xs) (h1 : FE (xs.getD (Bf xs + 1) default)) : ¬ AN (A0 (xs.getD (Bf xs + 1) default)) ↔ Er xs := ⟨fun q => ⟨h, h1, q⟩, fun q => q.2.2⟩
theorem zF {xs : List ByteArray} (h : ¬ H7 xs) : T.v (.string ⟨#[]⟩) = T.v (.string (Ei xs).user) := by rw [ZA h]
theorem zD {xs : List ByteArray} (h : ¬ H7 xs) : T.v (.string ⟨#[]⟩) = T.v (.string (Ei xs).domain) := by rw [ZA h]
theorem zG {xs : List ByteArray} (h : H7 xs) : T.v (.string (A0 (xs.getD (Bf xs + 1) default)).user) = T.v (.string (Ei xs).user) := by rw [Nz h]
theorem zE {xs : List ByteArray} (h : H7 xs) : T.v (.string (A0 (xs.getD (Bf xs + 1) default)).domain) = T.v (.string (Ei xs).domain) := by rw [Nz h]
theorem hW {xs : List ByteArray} (h : Er xs) : T.v (.string (xs.getD (Bf xs + 1) default)) = T.v (.string (OA xs)) := by rw [OB h]
theorem zH {xs : List ByteArray} (h : ¬ Er xs) : T.v (.string ⟨#[]⟩) = T.v (.string (OA xs)) := by rw [Zm h]
theorem wB (n : Nat) : ((n : Int) + 1).toNat = n + 1 := by omega
theorem zU {xs : List ByteArray} {k : Nat} : List.drop k (List.take xs.length (xs.map AG)) = (xs.drop k).map AG := by
 rw [List.take_of_length_le (by rw [lm]; exact Nat.le_refl _), List.map_drop]
theorem cl {xs : List ByteArray} {k j : Nat} : (xs.drop k).getD j default = xs.getD (k + j) default := by
 simp only [List.getD_eq_getElem?_getD, List.getElem?_drop]
theorem Ru (xs : List ByteArray) : BO (nq xs) := .tup _ fun c hc => by
 simp only [List.mem_cons, List.not_mem_nil, or_false] at hc
 rcases hc with rfl | rfl
 ·refine .agg _ fun c hc => ?_
  simp only [List.mem_cons, List.not_mem_nil, or_false] at hc
  rcases hc with rfl | rfl <;> exact .v _
 ·exact .v _
def WK : Ct := Aj (lc Ao.asl l0) (fun p => True) (fun p => .t (.v (.int .i64 (Bf p.1))))
section
attribute [local go_sem] M9 lm AK AM
theorem qI {G : Gt} (hG : Ac G) (hh : G.e 143 = AA 0 M9) : Gd G 166 (AA 0 WK) := by
 refine gr (fn := Tryz.f166) (n := 1) rfl hG ?_
 rintro ⟨xs, ⟨⟩⟩ hpre
 simp -implicitDefEqProofs only [Tryz.f166, go_sem, hh, seval] at hpre ⊢
 refine AC [] (ι := {i : Nat // i ≤ xs.length ∧ Bf xs = i + Bf (xs.drop i)}) (fun p => ⟨[(0, .t (.sl 1 (xs.map AG))), (3, .t (.v (.int .i64 p.1)))], []⟩) (fun p => xs.length - p.1) ⟨0, by simp, by simp⟩ rfl ?_ ?_
 ·simp -implicitDefEqProofs only [go_sem, hh, seval]
  try simp
 ·rintro ⟨i, hi, hix⟩
  by_cases hlt : (i : Int) < xs.length
  ·simp -implicitDefEqProofs only [hlt, decide_true, tn, go_sem, hh, seval]
   with_reducible repeat' (first | apply ai | intro _ | ((first | apply s1 | apply s2 | apply s3 | apply s4) <;> intro hb <;> simp -implicitDefEqProofs only [hb, go_sem, hh, seval] <;> try simp only [qz] at hb))
   all_goals (try simp only [maxLen, tn] at *)
   all_goals first
    | rfl
    | omega
    | (rw [hix, cn (by omega) (fun h => by have h := sE.1 h; first | exact absurd h.2.2 (by assumption) | exact absurd h.2.1 (by assumption) | omega)]; simp; done)
    | (refine ⟨⟨i + 1, by omega, by rw [hix, Xz (by omega) (sE.2 ⟨by omega, by assumption, by assumption⟩)]; omega⟩, by dsimp only; omega, ?_⟩
       simp -implicitDefEqProofs only [go_sem, hh, seval]
       try simp
       done)
    | skip
  ·simp -implicitDefEqProofs only [hlt, decide_false, go_sem, hh, seval]
   with_reducible repeat' (first | apply ai | intro _ | ((first | apply s1 | apply s2 | apply s3 | apply s4) <;> intro hb <;> simp -implicitDefEqProofs only [hb, go_sem, hh, seval] <;> try simp only [qz] at hb))
   all_goals first | rfl | omega | (rw [hix, Xy (by omega)]; simp; done) | skip
end
def j0 : Ct := Aj (lc Ao.asl l0) (fun p => ∀ s ∈ p.1, s.size ≤ 2000000) (fun p => .t (.v (.int .i64 (Bf p.1))))
section
attribute [local go_sem] WG lm BC BB Bool.not_true Bool.not_false Bc Cv Dg Di Dh Dj FT FU
theorem qD {G : Gt} (hG : Ac G) (hh : G.e 151 = AA 0 WG) : Gd G 161 (AA 0 j0) := by
 refine gr (fn := Tryz.f161) (n := 1) rfl hG ?_
 rintro ⟨xs, ⟨⟩⟩ hpre
 simp -implicitDefEqProofs only [Tryz.f161, go_sem, hh, seval] at hpre ⊢
 try dsimp only at hpre
 have hx := X0 xs 0
 have e0 : (fun x => ¬ Ge x) = C3.sem .hop := rfl
 rw [e0] at hx
 have hl := Je xs
 with_reducible repeat' (first | apply ai | intro _ | ((first | apply s1 | apply s2 | apply s3 | apply s4) <;> intro hb <;> simp -implicitDefEqProofs only [hb, go_sem, hh, seval] <;> try simp only [qz] at hb))
 all_goals (try simp only [maxLen] at *)
 all_goals first
  | rfl
  | omega
  | exact hpre _ (by assumption)
  | (refine congrArg (fun n => T.v (.int .i64 n)) ?_; omega)
  | skip
end
def WD : Ct := Aj (lc Ao.asl l0) (fun p => ∀ s ∈ p.1, s.size ≤ 2000000) (fun p => nq p.1)
section
attribute [local go_sem] j0 j1 M6 tn lm List.length_drop zU cl AK AM Ic N0
set_option maxHeartbeats 800000 in
theorem pP {G : Gt} (hG : Ac G) (hh : G.e 161 = AA 0 j0 ∧ G.e 162 = AA 0 j1 ∧ G.e 103 = AA 0 M6) : Gd G 116 (AA 0 WD) := by
 refine gr (fn := Tryz.f116) (n := 1) rfl hG ?_ (hs := fun _ _ => Ru _)
 rintro ⟨xs, ⟨⟩⟩ hpre
 simp -implicitDefEqProofs only [Tryz.f116, go_sem, hh, seval] at hpre ⊢
 try dsimp only at hpre
 have hl := Je xs
 with_reducible repeat' (first | apply ai | intro _ | ((first | apply s1 | apply s2 | apply s3 | apply s4) <;> intro hb <;> simp -implicitDefEqProofs only [hb, go_sem, hh, seval] <;> try simp only [qz] at hb))
 all_goals (try simp only [maxLen, yV, yW, Nat.add_zero, wB, tn] at *)
 all_goals first
  | with_reducible rfl
  | omega
  | decide
  | exact hpre _ (by assumption)
  | (show AZ _ = true; rfl)
  | with_reducible assumption
  | exact hpre _ (AB (by omega))
  | with_reducible exact zF (EF (by first | exact .inl (by omega) | exact .inr (by with_reducible assumption)))
  | with_reducible exact zD (EF (by first | exact .inl (by omega) | exact .inr (by with_reducible assumption)))
  | with_reducible exact zG (EE (by omega) (by with_reducible assumption))
  | with_reducible exact zE (EE (by omega) (by with_reducible assumption))
  | with_reducible exact uF (N1 (by first | exact .inl (EF (by first | exact .inl (by omega) | exact .inr (by with_reducible assumption))) | exact .inr (.inl (by with_reducible assumption)) | exact .inr (.inr (by with_reducible assumption))))
  | with_reducible exact uN (Ta (EE (by omega) (by with_reducible assumption)) (by with_reducible assumption))
  | with_reducible exact zH (N1 (by first | exact .inl (EF (by first | exact .inl (by omega) | exact .inr (by with_reducible assumption))) | exact .inr (.inl (by with_reducible assumption)) | exact .inr (.inr (by with_reducible assumption))))
  | with_reducible exact hW (ZB (EE (by omega) (by with_reducible assumption)) (by with_reducible assumption) (by with_reducible assumption))
  | skip
end
def WE : Ct := Aj (lc Ao.asl l0) (fun p => (∀ s ∈ p.1, s.size ≤ 2000000) ∧ p.1.length ≤ 2000000) (fun p => .t (.v (.string (OA p.1))))
section
attribute [local go_sem] WK Qo NB lm AK AM Ic
theorem pZ {G : Gt} (hG : Ac G) (hh : G.e 166 = AA 0 WK ∧ G.e 167 = AA 0 Qo ∧ G.e 62 = AA 0 NB) : Gd G 125 (AA 0 WE) := by
 refine gr (fn := Tryz.f125) (n := 1) rfl hG ?_
 rintro ⟨xs, ⟨⟩⟩ hpre
 simp -implicitDefEqProofs only [Tryz.f125, go_sem, hh, seval] at hpre ⊢
 obtain ⟨hpre, hlen⟩ := hpre
 try dsimp only at hpre hlen
 have hl := Je xs
 with_reducible repeat' (first | apply ai | intro _ | ((first | apply s1 | apply s2 | apply s3 | apply s4) <;> intro hb <;> simp -implicitDefEqProofs only [hb, go_sem, hh, seval] <;> try simp only [qz] at hb))
 all_goals (try simp only [maxLen, yV, yW, Nat.add_zero, wB, tn] at *)
 all_goals first
  | with_reducible rfl
  | omega
  | decide
  | exact hpre _ (by assumption)
  | (show AZ _ = true; rfl)
  | with_reducible assumption
  | exact hpre _ (AB (by omega))
  | with_reducible exact zF (EF (by first | exact .inl (by omega) | exact .inr (by with_reducible assumption)))
  | with_reducible exact zD (EF (by first | exact .inl (by omega) | exact .inr (by with_reducible assumption)))
  | with_reducible exact zG (EE (by omega) (by with_reducible assumption))
  | with_reducible exact zE (EE (by omega) (by with_reducible assumption))
  | with_reducible exact uF (N1 (by first | exact .inl (EF (by first | exact .inl (by omega) | exact .inr (by with_reducible assumption))) | exact .inr (.inl (by with_reducible assumption)) | exact .inr (.inr (by with_reducible assumption))))
  | with_reducible exact uN (Ta (EE (by omega) (by with_reducible assumption)) (by with_reducible assumption))
  | with_reducible exact zH (N1 (by first | exact .inl (EF (by first | exact .inl (by omega) | exact .inr (by with_reducible assumption))) | exact .inr (.inl (by with_reducible assumption)) | exact .inr (.inr (by with_reducible assumption))))
  | with_reducible exact hW (ZB (EE (by omega) (by with_reducible assumption)) (by with_reducible assumption) (by with_reducible assumption))
  | skip
end
theorem V6 {x : Im} {a : Ad} (h : A6 x.body = ⟨#[]⟩) : Bi x a = ⟨⟨⟨#[]⟩, ⟨#[]⟩⟩, [x.frm], [wn, CA a]⟩ := by unfold Bi; rw [if_pos h]
theorem V7 {x : Im} {a : Ad} (h : ¬ A6 x.body = ⟨#[]⟩) : Bi x a = ⟨⟨⟨#[]⟩, ⟨#[]⟩⟩, [x.frm], [wn, CA a, A6 x.body]⟩ := by unfold Bi; rw [if_neg h]
theorem Qi {x : Im} {a : Ad} : (Bi x a).body.length ≤ 3 := by
 unfold Bi
 split <;> simp
theorem Oo {x : Im} {a : Ad} (hox : GQ x) (ha : BL a) : Lh (Bi x a) := by
 refine ⟨⟨by show 0 ≤ 1048576; decide, by show 0 ≤ 1048576; decide⟩, ⟨by show ((1 : Nat) : Int) ≤ 1048576; decide, fun b hb => by rw [List.mem_singleton.1 hb]; exact hox.1⟩, ⟨by have := Qi (x := x) (a := a); omega, fun s hs => ?_⟩⟩
 unfold Bi at hs
 rcases List.mem_cons.1 hs with e | hs
 ·rw [e]; show 14 ≤ 1048576; decide
 ·rcases List.mem_cons.1 hs with e | hs
  ·rw [e]
   have := (Pt (.inl ha)).2
   show (CA a).size ≤ 1048576
   omega
  ·split at hs
   ·cases hs
   ·rename_i q
    rw [List.mem_singleton.1 hs]
    exact hox.2.2.2 _ ((Fp x.body).resolve_left q)
theorem TC {α : Type} {xs : List α} {i j : Nat} {y : α} (h : y ∈ xs.take i ++ xs.drop j) : y ∈ xs := by
 rcases List.mem_append.1 h with h | h
 ·exact List.mem_of_mem_take h
 ·exact List.mem_of_mem_drop h
theorem Mv {α : Type} {p : α → Prop} {xs ys : List α} (h : HA p xs) (hl : ys.length ≤ xs.length) (hs : ∀ y ∈ ys, p y) : HA p ys := ⟨by have := h.1; omega, hs⟩
theorem Sm {s : Sp} {i k : Nat} (h : Gf s) (hi : i < s.items.length) : Gf (DF s i k) := by
 have h' : HA GQ s.items := h
 show HA GQ (VL s.items i k)
 have hx := h'.at hi
 have hx2 : GQ (IQ (s.items.getD i default) k) := ⟨hx.1, Mv hx.2.1 (by simp [IQ]; omega) (fun y hy => hx.2.1.2 y (TC hy)), hx.2.2⟩
 unfold VL
 split
 ·exact Mv h' (by simp; omega) fun y hy => h'.2 y (TC hy)
 ·refine Mv h' (by simp; omega) fun y hy => ?_
  rcases List.mem_append.1 hy with hy | hy
  ·exact h'.2 y (List.mem_of_mem_take hy)
  ·rcases List.mem_cons.1 hy with e | hy
   ·rw [e]; exact hx2
   ·exact h'.2 y (List.mem_of_mem_drop hy)
def jq : Ct := Aj (lc Jr.ag (lc DV.ag l0)) (fun p => p.2.1.user.size ≤ 2000000 ∧ p.2.1.domain.size ≤ 2000000) (fun p => U4 (Bi p.1 p.2.1))
section
attribute [local go_sem] M7 Qr lm List.length_append List.length_cons List.length_nil List.map_append List.map_nil Nat.zero_add List.nil_append AS.opn AS.cls AS.nilb AS.renb AS.up Bool.not_false Bool.not_true List.set_set List.set_cons_zero List.set_cons_succ List.set_nil List.mem_singleton forall_eq
set_option maxHeartbeats 800000 in
theorem px {G : Gt} (hG : Ac G) (hh : G.e 126 = AA 0 M7 ∧ G.e 61 = AA 0 Qr) : Gd G 149 (AA 0 jq) := by
 refine gr (fn := Tryz.f149) (n := 2) rfl hG ?_ (hs := fun _ p => K5 _)
 rintro ⟨x, a, ⟨⟩⟩ hpre
 obtain ⟨h1, h2'⟩ := hpre
 dsimp only at h1 h2' ⊢
 by_cases hm : A6 x.body = ⟨#[]⟩
 ·rw [V6 hm]
  have dm := decide_eq_true hm
  simp -implicitDefEqProofs only [Tryz.f149, dm, go_sem, hh, seval]
  with_reducible repeat' (first | apply ai | intro _ | ((first | apply s1 | apply s2 | apply s3 | apply s4) <;> intro hb <;> simp -implicitDefEqProofs only [hb, go_sem, hh, seval] <;> try simp only [qz] at hb))
  all_goals (try simp only [maxLen] at *)
  all_goals first | with_reducible assumption | rfl | omega | contradiction | decide | (simp; done) | skip
 ·rw [V7 hm]
  have dm := decide_eq_false hm
  simp -implicitDefEqProofs only [Tryz.f149, dm, go_sem, hh, seval]
  with_reducible repeat' (first | apply ai | intro _ | ((first | apply s1 | apply s2 | apply s3 | apply s4) <;> intro hb <;> simp -implicitDefEqProofs only [hb, go_sem, hh, seval] <;> try simp only [qz] at hb))
  all_goals (try simp only [maxLen] at *)
  all_goals first | with_reducible assumption | rfl | omega | contradiction | decide | (simp; done) | skip
end
def xq : Ct := Aj (lc FM.ag (lc BU (lc BU (lc BU l0)))) (fun p => FN p.1 ∧ CM p.1.spool ∧ (0 ≤ p.2.1 ∧ p.2.1 < p.1.spool.items.length) ∧ (0 ≤ p.2.2.1 ∧ p.2.2.1 < (p.1.spool.items.getD p.2.1.toNat default).to.length)) (fun p => .agg ((AY (Gz p.1 (p.1.spool.items.getD p.2.1.toNat default) ((p.1.spool.items.getD p.2.1.toNat default).to.getD p.2.2.1.toNat default).addr p.2.1.toNat p.2.2.1.toNat p.2.2.2.1)).map .t))
section
attribute [local go_sem] lE NB KO Qr jq Qn LR KX List.take_length List.drop_zero List.length_take List.length_drop lm List.length_append List.length_cons List.length_nil List.map_append List.map_nil List.map_cons List.nil_append Nat.zero_add List.mem_singleton forall_eq Bool.not_true Bool.not_false AK AM AS.opn AS.cls AS.nilb AS.renb AS.up List.set_set List.set_cons_zero List.set_cons_succ List.set_nil
set_option maxHeartbeats 3200000 in
theorem uu {G : Gt} (hG : Ac G) (hh : G.e 92 = AA 1 lE ∧ G.e 62 = AA 0 NB ∧ G.e 147 = AA 0 KO ∧ G.e 61 = AA 0 Qr ∧ G.e 149 = AA 0 jq ∧ G.e 148 = AA 1 Qn) : Gd G 94 (AA 1 xq) := by
 refine PF (dp := fun n => Nat.ble 100000 n) (fn := Tryz.f94) (n := 4) rfl hG ?_
 rintro ⟨h, i, k, w, ⟨⟩⟩ hpre
 obtain ⟨hok, hsp, ⟨hi0, hi1⟩, ⟨hk0, hk1⟩⟩ := hpre
 dsimp only at hok hsp hi0 hi1 hk0 hk1 ⊢
 obtain ⟨ni, rfl⟩ := Int.eq_ofNat_of_zero_le hi0
 obtain ⟨nk, rfl⟩ := Int.eq_ofNat_of_zero_le hk0
 simp only [tn] at *
 have hi2 : ni < h.spool.items.length := by omega
 have hk2 : nk < (h.spool.items.getD ni default).to.length := by omega
 have hsd := EZ hsp hi2 hk2
 have hos := hok.2.1
 have hod := Sm (k := nk) hos hi2
 have hll := hok.2.2.2.1
 have hx := hsp.1 _ (AB hi2)
 have hox := hos.2 _ (AB hi2)
 have hoa := hox.2.1.2 _ (AB hk2)
 have hau : ((h.spool.items.getD ni default).to.getD nk default).addr.user.size ≤ 2000000 := by have : ((h.spool.items.getD ni default).to.getD nk default).addr.user.size ≤ 1048576 := hoa.1; omega
 have had : ((h.spool.items.getD ni default).to.getD nk default).addr.domain.size ≤ 2000000 := by have : ((h.spool.items.getD ni default).to.getD nk default).addr.domain.size ≤ 1048576 := hoa.2; omega
 have hob : Lh (Bi (h.spool.items.getD ni default) ((h.spool.items.getD ni default).to.getD nk default).addr) := Oo hox (hx.1.1 _ (AB hk2)).1
 by_cases q : AN (h.spool.items.getD ni default).frm ∨ ¬ CD (DF h.spool ni nk)
 ·rw [Xs q]
  by_cases q1 : AN (h.spool.items.getD ni default).frm
  ·have b1 := An q1
   simp -implicitDefEqProofs only [Tryz.f94, b1, tn, go_sem, hh, seval]
   with_reducible repeat' (first | apply ai | intro _ | ((first | apply s1 | apply s2 | apply s3 | apply s4) <;> intro hb <;> simp -implicitDefEqProofs only [hb, go_sem, hh, seval] <;> try simp only [qz] at hb))
   all_goals (try simp only [maxLen] at *)
   all_goals first | with_reducible assumption | rfl | omega | contradiction | decide | (simp; done) | skip
  ·have b1 := AQ q1
   have b2 := AQ (q.resolve_left q1)
   simp -implicitDefEqProofs only [Tryz.f94, b1, b2, tn, go_sem, hh, seval]
   with_reducible repeat' (first | apply ai | intro _ | ((first | apply s1 | apply s2 | apply s3 | apply s4) <;> intro hb <;> simp -implicitDefEqProofs only [hb, go_sem, hh, seval] <;> try simp only [qz] at hb))
   all_goals (try simp only [maxLen] at *)
   all_goals first | with_reducible assumption | rfl | omega | contradiction | decide | (simp; done) | skip
 ·rw [Xr q]
  have q1 : ¬ AN (h.spool.items.getD ni default).frm := fun z => q (.inl z)
  have q2 : CD (DF h.spool ni nk) := Classical.byContradiction fun z => q (.inr z)
  have b1 := AQ q1
  have b2 := An q2
  simp -implicitDefEqProofs only [Tryz.f94, b1, b2, tn, go_sem, hh, seval]
  with_reducible repeat' (first | apply ai | intro _ | ((first | apply s1 | apply s2 | apply s3 | apply s4) <;> intro hb <;> simp -implicitDefEqProofs only [hb, go_sem, hh, seval] <;> try simp only [qz] at hb))
  all_goals (try simp only [maxLen] at *)
  all_goals first | with_reducible assumption | rfl | omega | contradiction | decide | skip
end
def k8 : Ct := Aj (lc FM.ag (lc BU (lc DV.ag (lc BU (lc BU l0))))) (fun p => Gf p.1.spool ∧ CM p.1.spool ∧ ¬ A7 p.1.spool p.2.1 < 0 ∧ ¬ B0 (A3 p.1.spool p.2.1) p.2.2.1 < 0 ∧ (p.2.2.2.1 = 2 ∨ (FN p.1 ∧ 0 ≤ p.2.2.2.2.1 ∧ p.2.2.2.2.1 ≤ 9999))) (fun p => .agg ((AY (CR p.1 (A7 p.1.spool p.2.1).toNat (B0 (A3 p.1.spool p.2.1) p.2.2.1).toNat p.2.2.1 p.2.2.2.1 p.2.2.2.2.1)).map .t))
section
attribute [local go_sem] k7 se lE sn xq LR KX List.take_length List.drop_zero List.length_take List.length_drop lm List.length_append List.length_cons List.length_nil List.map_append List.map_nil List.map_cons List.nil_append Nat.zero_add List.mem_singleton forall_eq Bool.not_true Bool.not_false dt AS.opn AS.cls AS.nilb AS.renb AS.up List.set_set List.set_cons_zero List.set_cons_succ List.set_nil
set_option maxHeartbeats 3200000 in
theorem tx {G : Gt} (hG : Ac G) (hh : G.e 34 = AA 0 k7 ∧ G.e 35 = AA 0 se ∧ G.e 92 = AA 1 lE ∧ G.e 93 = AA 1 sn ∧ G.e 94 = AA 1 xq) : Gd G 37 (AA 1 k8) := by
 refine PF (dp := fun n => Nat.ble 100000 n) (fn := Tryz.f37) (n := 5) rfl hG ?_
 rintro ⟨h, n, a, out, w, ⟨⟩⟩ hpre
 obtain ⟨hos, hsp, hi, hk, hw'⟩ := hpre
 dsimp only at hos hsp hi hk hw' ⊢
 have hi' : ¬ (BD (fun x : Im => x.id = n) 0 h.spool.items) < 0 := hi
 obtain ⟨i0, i1⟩ := CU hi
 have i0' : 0 ≤ (BD (fun x : Im => x.id = n) 0 h.spool.items) := i0
 have i1' : (BD (fun x : Im => x.id = n) 0 h.spool.items) < h.spool.items.length := i1
 have hk' : ¬ (BD (fun r : Rc => r.addr = a) 0 (h.spool.items.getD (BD (fun x : Im => x.id = n) 0 h.spool.items).toNat default).to) < 0 := hk
 obtain ⟨k0, k1⟩ := HN hk
 have k0' : 0 ≤ (BD (fun r : Rc => r.addr = a) 0 (h.spool.items.getD (BD (fun x : Im => x.id = n) 0 h.spool.items).toNat default).to) := k0
 have k1' : (BD (fun r : Rc => r.addr = a) 0 (h.spool.items.getD (BD (fun x : Im => x.id = n) 0 h.spool.items).toNat default).to) < (h.spool.items.getD (BD (fun x : Im => x.id = n) 0 h.spool.items).toNat default).to.length := k1
 have hadr : ((h.spool.items.getD (BD (fun x : Im => x.id = n) 0 h.spool.items).toNat default).to.getD (BD (fun r : Rc => r.addr = a) 0 (h.spool.items.getD (BD (fun x : Im => x.id = n) 0 h.spool.items).toNat default).to).toNat default).addr = a := GC hk
 obtain ⟨R, hR⟩ : ∃ x, x = CR h (A7 h.spool n).toNat (B0 (A3 h.spool n) a).toNat a out w := ⟨_, rfl⟩
 rw [← hR]
 by_cases o2 : out = 2
 ·have hR2 : R = ⟨h.conf, DF h.spool (BD (fun x : Im => x.id = n) 0 h.spool.items).toNat (BD (fun r : Rc => r.addr = a) 0 (h.spool.items.getD (BD (fun x : Im => x.id = n) 0 h.spool.items).toNat default).to).toNat, h.boxes, h.lost⟩ := by rw [hR]; unfold CR; rw [if_pos o2]; rfl
  rw [hR2]
  have d2 := decide_eq_true o2
  simp -implicitDefEqProofs only [Tryz.f37, d2, go_sem, hh, seval]
  with_reducible repeat' (first | apply ai | intro _ | ((first | apply s1 | apply s2 | apply s3 | apply s4) <;> intro hb <;> simp -implicitDefEqProofs only [hb, go_sem, hh, seval] <;> try simp only [qz] at hb))
  all_goals first | with_reducible assumption | rfl | omega | contradiction | decide | skip
 ·have d2 := decide_eq_false o2
  obtain ⟨hok, hw⟩ := hw'.resolve_left o2
  by_cases o3 : out = 3
  ·have d3 := decide_eq_true o3
   by_cases hl : Nb ((h.spool.items.getD (BD (fun x : Im => x.id = n) 0 h.spool.items).toNat default).to.getD (BD (fun r : Rc => r.addr = a) 0 (h.spool.items.getD (BD (fun x : Im => x.id = n) 0 h.spool.items).toNat default).to).toNat default) w
   ·have hR2 : R = Gz h (h.spool.items.getD (BD (fun x : Im => x.id = n) 0 h.spool.items).toNat default) ((h.spool.items.getD (BD (fun x : Im => x.id = n) 0 h.spool.items).toNat default).to.getD (BD (fun r : Rc => r.addr = a) 0 (h.spool.items.getD (BD (fun x : Im => x.id = n) 0 h.spool.items).toNat default).to).toNat default).addr (BD (fun x : Im => x.id = n) 0 h.spool.items).toNat (BD (fun r : Rc => r.addr = a) 0 (h.spool.items.getD (BD (fun x : Im => x.id = n) 0 h.spool.items).toNat default).to).toNat w := by
      rw [hR, hadr]; unfold CR
      rw [if_neg o2, if_neg (fun z => z.2 hl)]; rfl
    have hS : Jy h.spool (BD (fun x : Im => x.id = n) 0 h.spool.items).toNat (BD (fun r : Rc => r.addr = a) 0 (h.spool.items.getD (BD (fun x : Im => x.id = n) 0 h.spool.items).toNat default).to).toNat w = (h.spool, false) := by unfold Jy; rw [if_pos hl]
    rw [hR2]
    simp -implicitDefEqProofs only [Tryz.f37, d2, d3, hS, go_sem, hh, seval]
    with_reducible repeat' (first | apply ai | intro _ | ((first | apply s1 | apply s2 | apply s3 | apply s4) <;> intro hb <;> simp -implicitDefEqProofs only [hb, go_sem, hh, seval] <;> try simp only [qz] at hb))
    all_goals first | with_reducible assumption | rfl | omega | contradiction | decide | skip
   ·have hR2 : R = ⟨h.conf, PP h.spool (BD (fun x : Im => x.id = n) 0 h.spool.items).toNat (BD (fun r : Rc => r.addr = a) 0 (h.spool.items.getD (BD (fun x : Im => x.id = n) 0 h.spool.items).toNat default).to).toNat w, h.boxes, h.lost⟩ := by
      rw [hR]; unfold CR
      rw [if_neg o2, if_pos ⟨o3, hl⟩]; rfl
    have hS : Jy h.spool (BD (fun x : Im => x.id = n) 0 h.spool.items).toNat (BD (fun r : Rc => r.addr = a) 0 (h.spool.items.getD (BD (fun x : Im => x.id = n) 0 h.spool.items).toNat default).to).toNat w = (PP h.spool (BD (fun x : Im => x.id = n) 0 h.spool.items).toNat (BD (fun r : Rc => r.addr = a) 0 (h.spool.items.getD (BD (fun x : Im => x.id = n) 0 h.spool.items).toNat default).to).toNat w, true) := by unfold Jy; rw [if_neg hl]
    rw [hR2]
    simp -implicitDefEqProofs only [Tryz.f37, d2, d3, hS, go_sem, hh, seval]
    with_reducible repeat' (first | apply ai | intro _ | ((first | apply s1 | apply s2 | apply s3 | apply s4) <;> intro hb <;> simp -implicitDefEqProofs only [hb, go_sem, hh, seval] <;> try simp only [qz] at hb))
    all_goals first | with_reducible assumption | rfl | omega | contradiction | decide | skip
  ·have d3 := decide_eq_false o3
   have hR2 : R = Gz h (h.spool.items.getD (BD (fun x : Im => x.id = n) 0 h.spool.items).toNat default) ((h.spool.items.getD (BD (fun x : Im => x.id = n) 0 h.spool.items).toNat default).to.getD (BD (fun r : Rc => r.addr = a) 0 (h.spool.items.getD (BD (fun x : Im => x.id = n) 0 h.spool.items).toNat default).to).toNat default).addr (BD (fun x : Im => x.id = n) 0 h.spool.items).toNat (BD (fun r : Rc => r.addr = a) 0 (h.spool.items.getD (BD (fun x : Im => x.id = n) 0 h.spool.items).toNat default).to).toNat w := by
    rw [hR, hadr]; unfold CR
    rw [if_neg o2, if_neg (fun z => o3 z.1)]; rfl
   rw [hR2]
   simp -implicitDefEqProofs only [Tryz.f37, d2, d3, go_sem, hh, seval]
   with_reducible repeat' (first | apply ai | intro _ | ((first | apply s1 | apply s2 | apply s3 | apply s4) <;> intro hb <;> simp -implicitDefEqProofs only [hb, go_sem, hh, seval] <;> try simp only [qz] at hb))
   all_goals first | with_reducible assumption | rfl | omega | contradiction | decide | skip
end
def kS (bs : List Bx) (a : Ad) : Nat := (bs.takeWhile fun b => decide (JX b.addr a < 0)).length
def sH (bs : List Bx) (a : Ad) : Prop := ∀ j, kS bs a ≤ j → j < bs.length → ¬ JX (bs.getD j default).addr a < 0
theorem X8 (a : Ad) : ∀ (bs : List Bx), kS bs a ≤ bs.length
 | [] => by simp [kS]
 | b :: t => by
   have := X8 a t
   unfold kS at this ⊢
   rw [List.takeWhile_cons]
   split
   ·simpa using this
   ·try simp
theorem X9 (a : Ad) : ∀ (bs : List Bx) {j : Nat}, j < kS bs a → JX (bs.getD j default).addr a < 0
 | [], j, h => by simp [kS] at h
 | b :: t, j, h => by
   unfold kS at h
   rw [List.takeWhile_cons] at h
   split at h
   ·rename_i hb
    cases j with
    | zero => simpa using hb
    | succ j =>
      have := X9 a t (j := j) (by unfold kS; simpa using h)
      simpa using this
   ·simp at h
theorem S4 (a : Ad) : ∀ (bs : List Bx), kS bs a < bs.length → ¬ JX (bs.getD (kS bs a) default).addr a < 0
 | [], h => by simp at h
 | b :: t, h => by
   by_cases hb : JX b.addr a < 0
   ·have e : kS (b :: t) a = kS t a + 1 := by unfold kS; rw [List.takeWhile_cons, if_pos (decide_eq_true hb), List.length_cons]
    rw [e] at h ⊢
    have := S4 a t (by simpa using h)
    simpa using this
   ·have e : kS (b :: t) a = 0 := by unfold kS; rw [List.takeWhile_cons, if_neg (by simpa using hb)]; rfl
    rw [e]
    simpa using hb
def Fi (bs : List Bx) (a : Ad) : Bool := decide (kS bs a < bs.length) && decide (JX (bs.getD (kS bs a) default).addr a = 0)
theorem WA (a b : Ad) : JX a b = 0 ↔ a = b := by
 unfold JX
 obtain ⟨u, d⟩ := a
 obtain ⟨v, e⟩ := b
 by_cases h : EY d e = 0
 ·rw [if_pos h, Gu]
  have := (Gu _ _).1 h
  exact ⟨fun q => by have q : u = v := q; rw [q, this], fun q => by injection q⟩
 ·rw [if_neg h]
  exact ⟨fun q => absurd q h, fun q => by injection q with _ q; exact absurd ((Gu _ _).2 q) h⟩
def D9 (bs : List Bx) (a : Ad) (g : Gm) : List Bx :=
 if Fi bs a = true then bs.set (kS bs a) ⟨(bs.getD (kS bs a) default).addr, (bs.getD (kS bs a) default).mails ++ [g]⟩
 else bs.take (kS bs a) ++ (⟨a, [g]⟩ :: bs.drop (kS bs a))
theorem GE {bs : List Bx} {a : Ad} {g : Gm} (h : Fi bs a = true) : D9 bs a g = bs.set (kS bs a) ⟨(bs.getD (kS bs a) default).addr, (bs.getD (kS bs a) default).mails ++ [g]⟩ := if_pos h
theorem E5 {bs : List Bx} {a : Ad} {g : Gm} (h : Fi bs a = false) : D9 bs a g = bs.take (kS bs a) ++ (⟨a, [g]⟩ :: bs.drop (kS bs a)) := if_neg (by rw [h]; decide)
theorem Jd {bs : List Bx} {a : Ad} (h : Fi bs a = true) : kS bs a < bs.length := by
 unfold Fi at h
 simp only [Bool.and_eq_true, decide_eq_true_eq] at h
 exact h.1
def Ck (s : Sp) (n : Int) (a : Ad) : Prop := ¬ A7 s n < 0 ∧ ¬ B0 (A3 s n) a < 0
theorem HH {s : Sp} {n : Int} {a : Ad} (q : Ck s n a) : ∃ x ∈ s.items, x.id = n ∧ ∃ r ∈ x.to, r.addr = a := by
 have h1 := CU q.1
 have h2 := HN q.2
 exact ⟨A3 s n, AB (by omega), GB q.1, _, AB (by omega), GC q.2⟩
theorem S1 : ∀ {xs : List Im}, (xs.map Im.id).Pairwise (· < ·) → ∀ {x y : Im}, x ∈ xs → y ∈ xs → x.id = y.id → x = y
 | z :: t, h, x, y, hx, hy, e => by
   rw [List.map_cons, List.pairwise_cons] at h
   rcases List.mem_cons.1 hx with q | q
   ·rcases List.mem_cons.1 hy with r | r
    ·rw [q, r]
    ·have := h.1 _ (List.mem_map_of_mem (f := Im.id) r); rw [q] at e; omega
   ·rcases List.mem_cons.1 hy with r | r
    ·have := h.1 _ (List.mem_map_of_mem (f := Im.id) q); rw [r] at e; omega
    ·exact S1 h.2 q r e
theorem F4 {s : Sp} (h : CM s) {x : Im} (hx : x ∈ s.items) {r : Rc} (hr : r ∈ x.to) : Ck s x.id r.addr ∧ A3 s x.id = x := by
 have h1 : ¬ A7 s x.id < 0 := by
  have : 0 ≤ A7 s x.id := (CW s.items 0).2 ⟨x, hx, rfl⟩
  omega
 have h2 := CU h1
 have h3 : A3 s x.id = x := S1 (Cm.1 h.2.1) (AB (by omega)) hx (GB h1)
 refine ⟨⟨h1, ?_⟩, h3⟩
 rw [h3]
 have : 0 ≤ B0 x r.addr := (CW x.to 0).2 ⟨r, hr, rfl⟩
 omega
theorem SH {s : Sp} {n n' : Int} {a a' : Ad} (h : CM s) (q : Ck s n a) (q' : Ck s n' a') (ne : ¬ (n = n' ∧ a = a')) : Ck (DF s (A7 s n).toNat (B0 (A3 s n) a).toNat) n' a' := by
 obtain ⟨x, hx, e1, r, hr, e2⟩ := HH q'
 have i1 := CU q.1
 have k1 := HN q.2
 have ei := GB q.1
 have ek := GC q.2
 obtain ⟨i, hi⟩ : ∃ i, i = (A7 s n).toNat := ⟨_, rfl⟩
 obtain ⟨k, hk⟩ : ∃ k, k = (B0 (A3 s n) a).toNat := ⟨_, rfl⟩
 have hX : s.items.getD i default = A3 s n := by rw [hi]; rfl
 have hil : i < s.items.length := by omega
 have hkl : k < (s.items.getD i default).to.length := by rw [hX]; omega
 rw [← hi, ← hk]
 rw [← hk] at ek
 have hok := EZ h hil hkl
 suffices hs : ∃ y ∈ (DF s i k).items, y.id = n' ∧ ∃ r ∈ y.to, r.addr = a' by
  obtain ⟨y, hy, f1, r, hr, f2⟩ := hs
  rw [← f1, ← f2]
  exact (F4 hok hy hr).1
 show ∃ y ∈ VL s.items i k, y.id = n' ∧ ∃ r ∈ y.to, r.addr = a'
 have hx2 := hx
 rw [Qu hil] at hx2
 have hout : x ∈ s.items.take i ++ s.items.drop (i + 1) → ∃ y ∈ VL s.items i k, y.id = n' ∧ ∃ r ∈ y.to, r.addr = a' := fun hm => by
  refine ⟨x, ?_, e1, r, hr, e2⟩
  unfold VL
  split
  ·exact hm
  ·rcases List.mem_append.1 hm with hm | hm
   ·exact List.mem_append_left _ hm
   ·exact List.mem_append_right _ (List.mem_cons_of_mem _ hm)
 rcases List.mem_append.1 hx2 with hm | hm
 ·exact hout (List.mem_append_left _ hm)
 ·rcases List.mem_cons.1 hm with hm | hm
  ·rw [hX] at hm
   subst hm
   have hr2 := hr
   rw [Qu (xs := (A3 s n).to) (i := k) (by rw [← hX]; exact hkl)] at hr2
   have hin : r ∈ (IQ (A3 s n) k).to := by
    show r ∈ (A3 s n).to.take k ++ (A3 s n).to.drop (k + 1)
    rcases List.mem_append.1 hr2 with hm | hm
    ·exact List.mem_append_left _ hm
    ·rcases List.mem_cons.1 hm with hm | hm
     ·exact absurd ⟨ei.symm.trans e1, by rw [← e2, hm]; exact ek.symm⟩ ne
     ·exact List.mem_append_right _ hm
   refine ⟨IQ (A3 s n) k, ?_, e1, r, hin, e2⟩
   unfold VL
   rw [hX, if_neg (fun e => by rw [e] at hin; cases hin)]
   exact List.mem_append_right _ (by simp)
  ·exact hout (List.mem_append_right _ hm)
theorem Ja : ∀ a b : List UInt8, Lib.compareBytes b a = - Lib.compareBytes a b
 | [], [] => by simp [Lib.compareBytes]
 | [], _ :: _ => by simp [Lib.compareBytes]
 | _ :: _, [] => by simp [Lib.compareBytes]
 | a :: x, b :: y => by
   have ih := Ja x y
   simp only [Lib.compareBytes]
   by_cases h1 : a < b
   ·have h2 : ¬ b < a := fun h => absurd (UInt8.lt_trans h1 h) (UInt8.lt_irrefl _)
    simp [h1, h2]
   ·by_cases h2 : b < a
    ·simp [h1, h2]
    ·simp [h1, h2, ih]
theorem IL : ∀ a b c : List UInt8, Lib.compareBytes a b < 0 → Lib.compareBytes b c < 0 → Lib.compareBytes a c < 0
 | [], b, [], h1, h2 => by
   have := Ja [] b
   rw [this] at h2; omega
 | [], _, _ :: _, _, _ => by simp [Lib.compareBytes]
 | _ :: _, [], _, h1, _ => by simp [Lib.compareBytes] at h1
 | _ :: _, _ :: _, [], _, h2 => by simp [Lib.compareBytes] at h2
 | a :: x, b :: y, c :: z, h1, h2 => by
   have ih := IL x y z
   simp only [Lib.compareBytes] at h1 h2 ⊢
   by_cases e1 : a < b
   ·by_cases e2 : b < c
    ·rw [if_pos (UInt8.lt_trans e1 e2)]; decide
    ·rw [if_neg e2] at h2
     split at h2
     ·omega
     ·have : b = c := UInt8.le_antisymm (UInt8.not_lt.1 (by assumption)) (UInt8.not_lt.1 e2)
      rw [← this, if_pos e1]; decide
   ·rw [if_neg e1] at h1
    split at h1
    ·omega
    ·have e3 : a = b := UInt8.le_antisymm (UInt8.not_lt.1 (by assumption)) (UInt8.not_lt.1 e1)
     subst e3
     split
     ·decide
     ·rename_i q
      rw [if_neg q] at h2
      split at h2
      ·omega
      ·rename_i q2
       rw [if_neg q2]
       exact ih h1 h2
theorem be (a b : Ad) : JX b a = - JX a b := by
 unfold JX EY
 rw [Ja (bl a.domain) (bl b.domain), Ja (bl a.user) (bl b.user)]
 by_cases h : Lib.compareBytes (bl a.domain) (bl b.domain) = 0
 ·rw [if_pos h, if_pos (by omega)]
 ·rw [if_neg h, if_neg (by omega)]
theorem MD {a b c : Ad} (h1 : JX a b < 0) (h2 : JX b c < 0) : JX a c < 0 := by
 unfold JX at *
 by_cases e1 : EY a.domain b.domain = 0
 ·have f1 := (Gu _ _).1 e1
  rw [if_pos e1] at h1
  rw [f1]
  by_cases e2 : EY b.domain c.domain = 0
  ·rw [if_pos e2] at h2 ⊢
   exact IL _ _ _ h1 h2
  ·rw [if_neg e2] at h2 ⊢
   exact h2
 ·rw [if_neg e1] at h1
  by_cases e2 : EY b.domain c.domain = 0
  ·have f2 := (Gu _ _).1 e2
   rw [← f2, if_neg e1]
   exact h1
  ·rw [if_neg e2] at h2
   have h3 : EY a.domain c.domain < 0 := IL _ _ _ h1 h2
   rw [if_neg (by omega)]
   exact h3
def Jz (bs : List Bx) : Prop := bs.Pairwise fun b c => JX b.addr c.addr < 0
theorem QP {bs : List Bx} (h : Jz bs) (a : Ad) : sH bs a := fun j h1 h2 hb => by
 have h3 : kS bs a < bs.length := by omega
 have h4 := S4 a bs h3
 by_cases e : j = kS bs a
 ·rw [e] at hb; exact h4 hb
 ·have h5 := List.pairwise_iff_getElem.1 h (kS bs a) j h3 h2 (by omega)
  have g1 : bs.getD (kS bs a) default = bs[kS bs a] := by simp [h3]
  have g2 : bs.getD j default = bs[j] := by simp [h2]
  rw [g1] at h4
  rw [g2] at hb
  exact h4 (MD h5 hb)
theorem KJ {bs : List Bx} {a : Ad} {g : Gm} (h : Jz bs) : Jz (D9 bs a g) := by
 cases hf : Fi bs a
 ·rw [E5 hf]
  have hp := QP h a
  have hb : Jz (bs.take (kS bs a) ++ bs.drop (kS bs a)) := by rw [List.take_append_drop]; exact h
  obtain ⟨p1, p2, p3⟩ := List.pairwise_append.1 hb
  have lo : ∀ b ∈ bs.take (kS bs a), JX b.addr a < 0 := fun b hm => by
   obtain ⟨j, hj, rfl⟩ := List.getElem_of_mem hm
   rw [List.length_take] at hj
   have := X9 a bs (j := j) (by omega)
   rw [List.getElem_take]
   simpa [show j < bs.length by omega] using this
  have hi : ∀ b ∈ bs.drop (kS bs a), JX a b.addr < 0 := fun b hm => by
   obtain ⟨j, hj, rfl⟩ := List.getElem_of_mem hm
   rw [List.length_drop] at hj
   have hk : kS bs a < bs.length := by omega
   have n1 := hp (kS bs a + j) (by omega) (by omega)
   have g2 : bs.getD (kS bs a + j) default = bs[kS bs a + j] := by simp [show kS bs a + j < bs.length by omega]
   rw [g2] at n1
   rw [List.getElem_drop]
   have n2 := be a (bs[kS bs a + j]).addr
   by_cases z : JX (bs[kS bs a + j]).addr a = 0
   ·exfalso
    by_cases hj0 : j = 0
    ·subst hj0
     unfold Fi at hf
     simp only [Bool.and_eq_false_iff, decide_eq_false_iff_not] at hf
     rcases hf with hf | hf
     ·exact hf hk
     ·exact hf (by rw [← z]; simp [hk])
    ·have h5 := List.pairwise_iff_getElem.1 h (kS bs a) (kS bs a + j) hk (by omega) (by omega)
     have e := (WA _ _).1 z
     rw [e] at h5
     have n3 := S4 a bs hk
     have g1 : bs.getD (kS bs a) default = bs[kS bs a] := by simp [hk]
     rw [g1] at n3
     exact n3 h5
   ·omega
  exact List.pairwise_append.2 ⟨p1, List.pairwise_cons.2 ⟨hi, p2⟩, fun b hb c hc => by
   rcases List.mem_cons.1 hc with rfl | hc
   ·exact lo b hb
   ·exact p3 b hb c hc⟩
 ·rw [GE hf]
  have hlt := Jd hf
  have h' : (bs.map Bx.addr).Pairwise fun x y => JX x y < 0 := List.pairwise_map.2 h
  have e : (bs.set (kS bs a) ⟨(bs.getD (kS bs a) default).addr, (bs.getD (kS bs a) default).mails ++ [g]⟩).map Bx.addr = bs.map Bx.addr := by
   rw [List.map_set]
   have : (⟨(bs.getD (kS bs a) default).addr, (bs.getD (kS bs a) default).mails ++ [g]⟩ : Bx).addr = (bs.map Bx.addr)[kS bs a]'(by rw [lm]; exact hlt) := by
    rw [List.getElem_map]
    show (bs.getD (kS bs a) default).addr = _
    simp [hlt]
   rw [this, List.set_getElem_self]
  exact List.pairwise_map.1 (e ▸ h')
theorem Ok {bs : List Bx} (h : ∀ j, 0 < j → j < bs.length → Vq (bs.getD (j - 1) default).addr (bs.getD j default).addr) : Jz bs := by
 refine List.pairwise_iff_getElem.2 fun i j hi hj hij => ?_
 induction j with
 | zero => omega
 | succ j ih =>
   have h1 := (IF _ _).2 (h (j + 1) (by omega) hj)
   simp only [Nat.add_sub_cancel, List.getD_eq_getElem?_getD, List.getElem?_eq_getElem hj, List.getElem?_eq_getElem (show j < bs.length by omega), Option.getD_some] at h1
   by_cases e : i = j
   ·subst e; exact h1
   ·exact MD (ih (by omega) (by omega)) h1
theorem MA (bs : List Bx) (a : Ad) (g : Gm) : (D9 bs a g).length ≤ bs.length + 1 := by
 have := X8 a bs
 cases hf : Fi bs a
 ·rw [E5 hf]; simp only [List.length_append, List.length_take, List.length_cons, List.length_drop]; omega
 ·rw [GE hf, List.length_set]; omega
theorem Ip {bs : List Bx} {a : Ad} {g : Gm} {M : Nat} (h : ∀ b ∈ bs, b.mails.length ≤ M) : ∀ b ∈ D9 bs a g, b.mails.length ≤ M + 1 := fun b hb => by
 cases hf : Fi bs a
 ·rw [E5 hf] at hb
  rcases List.mem_append.1 hb with hb | hb
  ·have := h b (List.mem_of_mem_take hb); omega
  ·rcases List.mem_cons.1 hb with hb | hb
   ·rw [hb]; show 1 ≤ M + 1; omega
   ·have := h b (List.mem_of_mem_drop hb); omega
 ·rw [GE hf] at hb
  rcases List.mem_or_eq_of_mem_set hb with hb | hb
  ·have := h b hb; omega
  ·rw [hb]
   have := h _ (AB (Jd hf))
   show (_ ++ [g]).length ≤ _
   rw [List.length_append, List.length_singleton]; omega
noncomputable def FH (h : Hs) (x : Im) (a : Ad) : Hs := ⟨h.conf, (SG h.spool x.id a).1, D9 h.boxes a ⟨x.frm, x.body⟩, h.lost⟩
noncomputable def FI (x : Im) : List Ad → Hs → Hs
 | [], h => h
 | a :: r, h => FI x r (FH h x a)
noncomputable def Cs (c : Cf) (w : Int) : List Im → Hs → Hs
 | [], h => h
 | x :: t, h => Cs c w t (FI x (A2 c ⟨#[]⟩ w x.to) h)
noncomputable def Rq (c : Cf) (w : Int) (x : Im) (rs : List Rc) : List (Int × Ad) := (A2 c ⟨#[]⟩ w rs).map fun a => (x.id, a)
noncomputable def Gl (c : Cf) (w : Int) : List Im → List (Int × Ad)
 | [] => []
 | x :: t => Rq c w x x.to ++ Gl c w t
structure Kp (c : Cf) (g : Hs) (R : List (Int × Ad)) : Prop where
 cf : g.conf = c
 sp : CM g.spool
 os : Gf g.spool
 so : Jz g.boxes
 td : ∀ p ∈ R, Ck g.spool p.1 p.2
 nd : R.Nodup
 b1 : g.boxes.length + R.length ≤ 3000000
 b2 : ∀ b ∈ g.boxes, b.mails.length + R.length ≤ 3000000
theorem Kp.done {c : Cf} {g : Hs} {x : Im} {a : Ad} {R : List (Int × Ad)} (h : Kp c g ((x.id, a) :: R)) : SG g.spool x.id a = (DF g.spool (A7 g.spool x.id).toNat (B0 (A3 g.spool x.id) a).toNat, true) :=
 am h.sp (h.td (x.id, a) (by simp)).1 (h.td (x.id, a) (by simp)).2
theorem Kp.step {c : Cf} {g : Hs} {x : Im} {a : Ad} {R : List (Int × Ad)} (h : Kp c g ((x.id, a) :: R)) : Kp c (FH g x a) R := by
 have q : Ck g.spool x.id a := h.td (x.id, a) (by simp)
 have i1 := CU q.1
 have k1 := HN q.2
 have hD := h.done
 have hil : (A7 g.spool x.id).toNat < g.spool.items.length := by omega
 have hkl : (B0 (A3 g.spool x.id) a).toNat < (g.spool.items.getD (A7 g.spool x.id).toNat default).to.length := by
  show _ < (A3 g.spool x.id).to.length
  omega
 have hs : (FH g x a).spool = DF g.spool (A7 g.spool x.id).toNat (B0 (A3 g.spool x.id) a).toNat := by unfold FH; rw [hD]
 have hb1 := h.b1
 rw [List.length_cons] at hb1
 refine ⟨h.cf, by rw [hs]; exact EZ h.sp hil hkl, by rw [hs]; exact Sm h.os hil, KJ h.so, fun p hp => ?_, (List.nodup_cons.1 h.nd).2, ?_, fun b hb => ?_⟩
 ·rw [hs]
  refine SH h.sp q (h.td p (List.mem_cons_of_mem _ hp)) fun e => (List.nodup_cons.1 h.nd).1 ?_
  obtain ⟨p1, p2⟩ := p
  rw [e.1, e.2]; exact hp
 ·have := MA g.boxes a ⟨x.frm, x.body⟩
  show (D9 _ _ _).length + _ ≤ _
  omega
 ·have := Ip (M := 3000000 - (R.length + 1)) (g := ⟨x.frm, x.body⟩) (a := a) (fun b hb => by have := h.b2 b hb; rw [List.length_cons] at this; omega) b hb
  omega
theorem ve {c : Cf} {w : Int} {x : Im} {rs : List Rc} {i : Nat} (h : i < rs.length) (hn : JA c ⟨#[]⟩ w (rs.getD i default)) : Rq c w x (rs.drop i) = (x.id, (rs.getD i default).addr) :: Rq c w x (rs.drop (i + 1)) := by
 unfold Rq; rw [Rn h hn]; rfl
theorem vd {c : Cf} {w : Int} {x : Im} {rs : List Rc} {i : Nat} (h : i < rs.length) (hn : ¬ JA c ⟨#[]⟩ w (rs.getD i default)) : Rq c w x (rs.drop i) = Rq c w x (rs.drop (i + 1)) := by
 unfold Rq; rw [Rm h hn]
theorem dk {c : Cf} {w : Int} {x : Im} {rs : List Rc} {i : Nat} (h : rs.length ≤ i) : Rq c w x (rs.drop i) = [] := by
 unfold Rq; rw [K7 h]; rfl
theorem T9 {c : Cf} {w : Int} {xs : List Im} {i : Nat} (h : i < xs.length) : Gl c w (xs.drop i) = Rq c w (xs.getD i default) (xs.getD i default).to ++ Gl c w (xs.drop (i + 1)) := by
 rw [Aa h]; rfl
theorem RP {c : Cf} {w : Int} {xs : List Im} {i : Nat} {g : Hs} (h : i < xs.length) : Cs c w (xs.drop i) g = Cs c w (xs.drop (i + 1)) (FI (xs.getD i default) (A2 c ⟨#[]⟩ w (xs.getD i default).to) g) := by
 rw [Aa h]; rfl
theorem K8 (c : Cf) (w : Int) : ∀ rs : List Rc, List.Sublist (A2 c ⟨#[]⟩ w rs) (rs.map Rc.addr)
 | [] => .slnil
 | r :: t => by
   rw [A2]
   cases BA (JA c ⟨#[]⟩ w r)
   ·exact .cons _ (K8 c w t)
   ·exact .cons_cons _ (K8 c w t)
theorem KD {c : Cf} {w : Int} : ∀ {xs : List Im} {p : Int × Ad}, p ∈ Gl c w xs → ∃ x ∈ xs, p.1 = x.id ∧ ∃ r ∈ x.to, r.addr = p.2
 | x :: t, p, h => by
   rw [Gl] at h
   rcases List.mem_append.1 h with h | h
   ·unfold Rq at h
    obtain ⟨a, ha, rfl⟩ := List.mem_map.1 h
    obtain ⟨r, hr, e, _⟩ := Eh c ⟨#[]⟩ w _ a ha
    exact ⟨x, by simp, rfl, r, hr, e⟩
   ·obtain ⟨y, hy, q⟩ := KD h
    exact ⟨y, by simp [hy], q⟩
theorem KE {c : Cf} {w : Int} : ∀ {xs : List Im}, (xs.map Im.id).Pairwise (· < ·) → (∀ x ∈ xs, (x.to.map Rc.addr).Nodup) → (Gl c w xs).Nodup
 | [], _, _ => List.nodup_nil
 | x :: t, h1, h2 => by
   rw [List.map_cons, List.pairwise_cons] at h1
   rw [Gl]
   refine List.nodup_append.2 ⟨?_, KE h1.2 fun y hy => h2 y (by simp [hy]), fun p hp q hq e => ?_⟩
   ·unfold Rq
    have h3 := (K8 c w x.to).nodup (h2 x (by simp))
    exact List.pairwise_map.2 (h3.imp fun {a b} ne e => ne (by injection e))
   ·subst e
    unfold Rq at hp
    obtain ⟨a, _, rfl⟩ := List.mem_map.1 hp
    obtain ⟨y, hy, e, _⟩ := KD hq
    have := h1.1 y.id (List.mem_map_of_mem hy)
    have e : x.id = y.id := e
    omega
theorem Ol {c : Cf} {w : Int} : ∀ {xs : List Im}, (∀ x ∈ xs, x.to.length ≤ 4) → (Gl c w xs).length ≤ 4 * xs.length
 | [], _ => by simp [Gl]
 | x :: t, h => by
   rw [Gl, List.length_append, List.length_cons]
   have h1 := Ol (c := c) (w := w) fun y hy => h y (List.mem_cons_of_mem x hy)
   have h2 := Eg c ⟨#[]⟩ w x.to
   have h3 := h x (by simp)
   have h4 : (Rq c w x x.to).length = (A2 c ⟨#[]⟩ w x.to).length := lm _
   omega
theorem OR {h : Hs} {w : Int} (q : HD h) (ok : FN h) : Kp h.conf h (Gl h.conf w h.spool.items) := by
 obtain ⟨q1, q2, q3⟩ := q
 have hl := Ol (c := h.conf) (w := w) (xs := h.spool.items) fun x hx => (q3.1 x hx).1.2.2.2.2.1.2
 have h10 := q3.2.2.2
 have hb := ok.2.2.1
 refine ⟨rfl, q3, ok.2.1, Ok fun j h0 hj => (q1 j hj).2.1 h0, fun p hp => ?_, KE (Cm.1 q3.2.1) fun x hx => (q3.1 x hx).1.2.1, ?_, fun b hbm => ?_⟩
 ·obtain ⟨x, hx, e, r, hr, e2⟩ := KD hp
  rw [e, ← e2]
  exact (F4 q3 hx hr).1
 ·have : (h.boxes.length : Int) ≤ 1048576 := hb.1
  omega
 ·have : (b.mails.length : Int) ≤ 1048576 := (hb.2 b hbm).2.1
  omega
def ji : Ct := Aj (lc FM.ag (lc DV.ag (lc Jr.ag l0))) (fun p => p.1.boxes.length ≤ 3000000 ∧ (∀ b ∈ p.1.boxes, b.mails.length ≤ 3000000) ∧ p.2.2.1.body.length ≤ 3000000) (fun p => .agg ((AY ⟨p.1.conf, p.1.spool, D9 p.1.boxes p.2.1 ⟨p.2.2.1.frm, p.2.2.1.body⟩, p.1.lost⟩).map .t))
section
attribute [local go_sem] si LR KX List.take_length List.drop_zero List.length_take List.length_drop lm List.length_append List.length_cons List.length_nil List.map_append List.map_nil List.map_cons List.nil_append Nat.zero_add List.mem_singleton forall_eq Bool.not_true Bool.not_false AK AM AS.opn AS.cls AS.nilb AS.renb AS.up List.set_set List.set_cons_zero List.set_cons_succ List.set_nil
set_option maxHeartbeats 3200000 in
theorem pf {G : Gt} (hG : Ac G) (hh : G.e 86 = AA 0 si) : Gd G 134 (AA 1 ji) := by
 refine PF (dp := fun n => Nat.ble 100000 n) (fn := Tryz.f134) (n := 3) rfl hG ?_
 rintro ⟨h, a, x, ⟨⟩⟩ hpre
 obtain ⟨hl1, hl2, hl3⟩ := hpre
 dsimp only at hl1 hl2 hl3 ⊢
 have hkl := X8 a h.boxes
 simp -implicitDefEqProofs only [Tryz.f134, go_sem, hh, seval]
 with_reducible repeat' (first | apply ai | intro _ | ((first | apply s1 | apply s2 | apply s3 | apply s4) <;> intro hb <;> simp -implicitDefEqProofs only [hb, go_sem, hh, seval] <;> try simp only [qz] at hb))
 all_goals (try simp only [maxLen] at *)
 all_goals first | with_reducible assumption | rfl | omega | contradiction | decide | skip
 refine AC [] (ι := {i : Nat // i ≤ kS h.boxes a}) (fun p => ⟨[(3, .pb 1003 0), (4, .pb 1004 0), (5, .pb 1005 0), (6, .pb 1006 0), (7, .t (.v (.int .i64 p.1)))], [(1003, some (.box ((AY h).map .t))), (1004, some (.box ((Ap a).map .t))), (1005, some (.box ((Ar x).map .t))), (1006, some (.box [.t (.v (.string ⟨#[]⟩)), .nil, .nil, .t (.v (.int .i64 0)), .nil, .nil, .nil]))]⟩) (fun p => kS h.boxes a - p.1) ⟨0, Nat.zero_le _⟩ rfl ?_ ?_
 ·simp -implicitDefEqProofs only [go_sem, hh, seval]
  try simp
 ·rintro ⟨i, hi⟩
  dsimp only at hi ⊢
  by_cases hlt : i < kS h.boxes a
  ·have hil : (i : Int) < h.boxes.length := by omega
   have b1 := An ((IF _ _).1 (X9 a h.boxes hlt))
   simp -implicitDefEqProofs only [hil, b1, decide_true, tn, go_sem, hh, seval]
   with_reducible repeat' (first | apply ai | intro _ | ((first | apply s1 | apply s2 | apply s3 | apply s4) <;> intro hb <;> simp -implicitDefEqProofs only [hb, go_sem, hh, seval] <;> try simp only [qz] at hb))
   all_goals (try simp only [maxLen] at *)
   all_goals first | with_reducible assumption | rfl | omega | contradiction | decide | skip
   refine ⟨⟨i + 1, by omega⟩, by dsimp only; omega, ?_⟩
   simp -implicitDefEqProofs only [go_sem, hh, seval]
   try simp
  ·have hk : i = kS h.boxes a := by omega
   have e1 : ((i : Int) + 1).toNat = i + 1 := by omega
   by_cases hil : (i : Int) < h.boxes.length
   ·have hkb : kS h.boxes a < h.boxes.length := by omega
    have b1 := AQ (fun z => S4 a h.boxes hkb ((IF _ _).2 z))
    rw [← hk] at b1
    have hml := hl2 _ (AB (xs := h.boxes) (j := i) (by omega))
    by_cases hf : (h.boxes.getD i default).addr = a
    ·have hF : Fi h.boxes a = true := by
       unfold Fi
       rw [decide_eq_true hkb, ← hk, decide_eq_true ((WA _ _).2 hf)]; rfl
     have hB : D9 h.boxes a ⟨x.frm, x.body⟩ = h.boxes.set i ⟨(h.boxes.getD i default).addr, (h.boxes.getD i default).mails ++ [⟨x.frm, x.body⟩]⟩ := by rw [GE hF, ← hk]
     rw [hB]
     have he : (false != (decide ((h.boxes.getD i default).addr.user = a.user) && decide ((h.boxes.getD i default).addr.domain = a.domain))) = true := by rw [hf]; simp
     rw [hf]
     simp -implicitDefEqProofs only [hil, b1, he, decide_true, tn, e1, go_sem, hh, seval]
     with_reducible repeat' (first | apply ai | intro _ | ((first | apply s1 | apply s2 | apply s3 | apply s4) <;> intro hb <;> simp -implicitDefEqProofs only [hb, go_sem, hh, seval] <;> try simp only [qz] at hb))
     all_goals (try simp only [maxLen, e1, tn, List.take_length, List.drop_zero] at *)
     all_goals first | with_reducible assumption | rfl | omega | contradiction | decide | (refine congrArg (T.sl 3) ?_; first | (simp; done) | (rw [List.set_eq_take_append_cons_drop, if_pos (by omega)]; simp [BQ, Ba]; done)) | skip
    ·have he : (false != (decide ((h.boxes.getD i default).addr.user = a.user) && decide ((h.boxes.getD i default).addr.domain = a.domain))) = false := by
       cases hq : (decide ((h.boxes.getD i default).addr.user = a.user) && decide ((h.boxes.getD i default).addr.domain = a.domain))
       ·rfl
       ·simp only [Bool.and_eq_true, decide_eq_true_eq] at hq
        exact absurd (show (⟨(h.boxes.getD i default).addr.user, (h.boxes.getD i default).addr.domain⟩ : Ad) = a by rw [hq.1, hq.2]) hf
     have hF : Fi h.boxes a = false := by
      unfold Fi
      rw [decide_eq_true hkb, ← hk, decide_eq_false (fun z => hf ((WA _ _).1 z))]; rfl
     have hB : D9 h.boxes a ⟨x.frm, x.body⟩ = h.boxes.take i ++ (⟨a, [⟨x.frm, x.body⟩]⟩ :: h.boxes.drop i) := by rw [E5 hF, ← hk]
     rw [hB]
     simp -implicitDefEqProofs only [hil, b1, he, decide_true, tn, e1, go_sem, hh, seval]
     with_reducible repeat' (first | apply ai | intro _ | ((first | apply s1 | apply s2 | apply s3 | apply s4) <;> intro hb <;> simp -implicitDefEqProofs only [hb, go_sem, hh, seval] <;> try simp only [qz] at hb))
     all_goals (try simp only [maxLen, e1, tn, List.take_length, List.drop_zero] at *)
     all_goals first | with_reducible assumption | rfl | omega | contradiction | decide | (refine congrArg (T.sl 3) ?_; first | (simp; done) | (rw [List.set_eq_take_append_cons_drop, if_pos (by omega)]; simp [BQ, Ba]; done)) | skip
   ·have hF : Fi h.boxes a = false := by
      unfold Fi
      rw [decide_eq_false (by omega)]; rfl
    have hB : D9 h.boxes a ⟨x.frm, x.body⟩ = h.boxes.take i ++ (⟨a, [⟨x.frm, x.body⟩]⟩ :: h.boxes.drop i) := by rw [E5 hF, ← hk]
    rw [hB]
    simp -implicitDefEqProofs only [hil, decide_false, tn, e1, go_sem, hh, seval]
    with_reducible repeat' (first | apply ai | intro _ | ((first | apply s1 | apply s2 | apply s3 | apply s4) <;> intro hb <;> simp -implicitDefEqProofs only [hb, go_sem, hh, seval] <;> try simp only [qz] at hb))
    all_goals (try simp only [maxLen, e1, tn, List.take_length, List.drop_zero] at *)
    all_goals first | with_reducible assumption | rfl | omega | contradiction | decide | (refine congrArg (T.sl 3) ?_; simp; done) | skip
end
theorem Y1 {g : Hs} {x : Im} {a : Ad} {w : Int} {R : List (Int × Ad)} (h : Kp g.conf g ((x.id, a) :: R)) : CR ⟨g.conf, g.spool, D9 g.boxes a ⟨x.frm, x.body⟩, g.lost⟩ (A7 g.spool x.id).toNat (B0 (A3 g.spool x.id) a).toNat a 2 w = FH g x a := by
 unfold CR
 rw [if_pos rfl]
 unfold FH
 rw [h.done]
def xi : Ct := Aj (lc FM.ag (lc BU l0)) (fun p => HD p.1 ∧ FN p.1) (fun p => .agg ((AY (Cs p.1.conf p.2.1 p.1.spool.items p.1)).map .t))
section
attribute [local go_sem] WF ji k8 LR KX List.take_length List.drop_zero List.length_take List.length_drop lm List.length_append List.length_cons List.length_nil List.map_append List.map_nil List.map_cons List.nil_append Nat.zero_add List.mem_singleton forall_eq Bool.not_true Bool.not_false AK AM AS.opn AS.cls AS.nilb AS.renb AS.up List.set_set List.set_cons_zero List.set_cons_succ List.set_nil
set_option maxHeartbeats 6400000 in
theorem uY {G : Gt} (hG : Ac G) (hh : G.e 133 = AA 0 WF ∧ G.e 134 = AA 1 ji ∧ G.e 37 = AA 1 k8) : Gd G 69 (AA 1 xi) := by
 refine PF (dp := fun n => Nat.ble 100000 n) (fn := Tryz.f69) (n := 2) rfl hG ?_
 rintro ⟨h, w, ⟨⟩⟩ hpre
 obtain ⟨hq, hok⟩ := hpre
 dsimp only at hq hok ⊢
 have hmx : (h.spool.items.length : Int) ≤ 1048576 := hok.2.1.1
 simp -implicitDefEqProofs only [Tryz.f69, go_sem, hh, seval]
 with_reducible repeat' (first | apply ai | intro _ | ((first | apply s1 | apply s2 | apply s3 | apply s4) <;> intro hb <;> simp -implicitDefEqProofs only [hb, go_sem, hh, seval] <;> try simp only [qz] at hb))
 all_goals (try simp only [maxLen] at *)
 all_goals first | with_reducible assumption | rfl | omega | contradiction | decide | skip
 refine AC [] (ι := {p : Nat × Hs // p.1 ≤ h.spool.items.length ∧ Kp h.conf p.2 (Gl h.conf w (h.spool.items.drop p.1)) ∧ Cs h.conf w h.spool.items h = Cs h.conf w (h.spool.items.drop p.1) p.2}) (fun p => ⟨[(1, .t (.v (.int .i64 w))), (2, .pb 1002 0), (4, .pb 1004 0), (5, .t (.sl 5 (h.spool.items.map Ar))), (6, .t (.v (.int .i64 p.1.1)))], [(1002, some (.box ((AY p.1.2).map .t))), (1004, some (.box [.t (.v (.string ⟨#[]⟩)), .nil, .nil, .t (.v (.int .i64 0)), .nil, .nil, .nil]))]⟩) (fun p => h.spool.items.length - p.1.1) ⟨(0, h), Nat.zero_le _, OR hq hok, rfl⟩ rfl ?_ ?_
 ·simp -implicitDefEqProofs only [go_sem, hh, seval]
  try simp
 ·rintro ⟨⟨i, g⟩, hi, hK, he⟩
  dsimp only at hi hK he ⊢
  by_cases hlt : (i : Int) < h.spool.items.length
  ·have hil : i < h.spool.items.length := by omega
   obtain ⟨x, hx⟩ : ∃ x, x = h.spool.items.getD i default := ⟨_, rfl⟩
   have hxo := hok.2.1.2 _ (AB hil)
   rw [← hx] at hxo
   have hxl : (x.to.length : Int) ≤ 1048576 := hxo.2.1.1
   have hxb : (x.body.length : Int) ≤ 1048576 := hxo.2.2.1
   rw [T9 hil, ← hx] at hK
   rw [RP hil, ← hx] at he
   simp -implicitDefEqProofs only [hlt, decide_true, tn, ← hx, go_sem, hh, seval]
   with_reducible repeat' (first | apply ai | intro _ | ((first | apply s1 | apply s2 | apply s3 | apply s4) <;> intro hb <;> simp -implicitDefEqProofs only [hb, go_sem, hh, seval] <;> try simp only [qz] at hb))
   all_goals (try simp only [maxLen] at *)
   all_goals first | with_reducible assumption | rfl | omega | contradiction | decide | skip
   refine AC [] (ι := {p : Nat × Hs // p.1 ≤ x.to.length ∧ Kp h.conf p.2 (Rq h.conf w x (x.to.drop p.1) ++ Gl h.conf w (h.spool.items.drop (i + 1))) ∧ Cs h.conf w h.spool.items h = Cs h.conf w (h.spool.items.drop (i + 1)) (FI x (A2 h.conf ⟨#[]⟩ w (x.to.drop p.1)) p.2)}) (fun p => ⟨[(1, .t (.v (.int .i64 w))), (2, .pb 1002 0), (4, .pb 1004 0), (5, .t (.sl 5 (h.spool.items.map Ar))), (6, .t (.v (.int .i64 i))), (7, .t (.v (.int .i64 p.1.1)))], [(1002, some (.box ((AY p.1.2).map .t))), (1004, some (.box [.t (.v (.string ⟨#[]⟩)), .nil, .nil, .t (.v (.int .i64 0)), .nil, .nil, .nil]))]⟩) (fun p => x.to.length - p.1.1) ⟨(0, g), Nat.zero_le _, hK, he⟩ rfl ?_ ?_
   ·simp -implicitDefEqProofs only [go_sem, hh, seval]
    try simp
   ·rintro ⟨⟨k, g⟩, hk, hK, he⟩
    dsimp only at hk hK he ⊢
    by_cases hlk : (k : Int) < x.to.length
    ·have hkl : k < x.to.length := by omega
     have hcf := hK.cf
     by_cases hn : JA h.conf ⟨#[]⟩ w (x.to.getD k default)
     ·have b1 := An hn
      rw [← hcf] at b1
      rw [ve hkl hn, List.cons_append] at hK
      rw [Rn hkl hn] at he
      have Ag := hK.step
      have hbb := hK.b1
      have hbm := hK.b2
      have hos := hK.os
      have hsp := hK.sp
      have htd := hK.td (x.id, (x.to.getD k default).addr) (by simp)
      have hout := Y1 (w := w) (hcf ▸ hK)
      simp -implicitDefEqProofs only [hlt, hlk, b1, hout, decide_true, tn, ← hx, go_sem, hh, seval]
      with_reducible repeat' (first | apply ai | intro _ | ((first | apply s1 | apply s2 | apply s3 | apply s4) <;> intro hb <;> simp -implicitDefEqProofs only [hb, go_sem, hh, seval] <;> try simp only [qz] at hb))
      all_goals (try simp only [maxLen] at *)
      all_goals first | with_reducible assumption | rfl | omega | contradiction | decide | exact htd.1 | exact htd.2 | (have := hbm _ (by assumption); omega) | skip
      all_goals first | (refine ⟨⟨(k + 1, FH g x (x.to.getD k default).addr), by dsimp only; omega, Ag, he⟩, by dsimp only; omega, ?_⟩) | skip
      all_goals simp -implicitDefEqProofs only [go_sem, hh, seval]
      all_goals (try simp)
     ·have b1 := AQ hn
      rw [← hcf] at b1
      rw [vd hkl hn] at hK
      rw [Rm hkl hn] at he
      simp -implicitDefEqProofs only [hlt, hlk, b1, decide_true, tn, ← hx, go_sem, hh, seval]
      with_reducible repeat' (first | apply ai | intro _ | ((first | apply s1 | apply s2 | apply s3 | apply s4) <;> intro hb <;> simp -implicitDefEqProofs only [hb, go_sem, hh, seval] <;> try simp only [qz] at hb))
      all_goals (try simp only [maxLen] at *)
      all_goals first | with_reducible assumption | rfl | omega | contradiction | decide | skip
      refine ⟨⟨(k + 1, g), by dsimp only; omega, hK, he⟩, by dsimp only; omega, ?_⟩
      simp -implicitDefEqProofs only [go_sem, hh, seval]
      try simp
    ·rw [dk (by omega), List.nil_append] at hK
     rw [K7 (by omega)] at he
     simp -implicitDefEqProofs only [hlt, hlk, decide_true, decide_false, tn, ← hx, go_sem, hh, seval]
     with_reducible repeat' (first | apply ai | intro _ | ((first | apply s1 | apply s2 | apply s3 | apply s4) <;> intro hb <;> simp -implicitDefEqProofs only [hb, go_sem, hh, seval] <;> try simp only [qz] at hb))
     all_goals (try simp only [maxLen] at *)
     all_goals first | with_reducible assumption | rfl | omega | contradiction | decide | skip
     refine ⟨⟨(i + 1, g), by dsimp only; omega, hK, he⟩, by dsimp only; omega, ?_⟩
     simp -implicitDefEqProofs only [go_sem, hh, seval]
     try simp
  ·have he2 : Cs h.conf w h.spool.items h = g := by rw [he, List.drop_eq_nil_of_le (by omega)]; rfl
   simp -implicitDefEqProofs only [hlt, decide_false, he2, go_sem, hh, seval]
   with_reducible repeat' (first | apply ai | intro _ | ((first | apply s1 | apply s2 | apply s3 | apply s4) <;> intro hb <;> simp -implicitDefEqProofs only [hb, go_sem, hh, seval] <;> try simp only [qz] at hb))
   all_goals (try simp only [maxLen] at *)
   all_goals first | with_reducible assumption | rfl | omega | contradiction | decide | skip
end
def FJ (c : Cf) : Hs := ⟨c, ⟨0, []⟩, [], []⟩
def EC (cs : List Cf) : Wd := ⟨cs.map FJ, 0, 0, []⟩
theorem ZY {xs : List Cf} {f : Cf → Hs} {i : Nat} (h : i < xs.length) : ((xs.map f).take (i + 1)).map AY = ((xs.map f).take i).map AY ++ [AY (f (xs.getD i default))] := by
 have e : (xs.map f).getD i default = f (xs.getD i default) := by
  simp only [List.getD_eq_getElem?_getD, List.getElem?_map, List.getElem?_eq_getElem h, Option.map_some, Option.getD_some]
 rw [Ay AY (by rw [lm]; exact h), e]
def CO (b : UInt8) : List T := [.v (.int .u8 b.toNat)]
def fT : List T → Option UInt8
 | [.v (.int .u8 x)] => if 0 ≤ x ∧ x < 256 then some (UInt8.ofNat x.toNat) else none
 | _ => none
def P8 : En UInt8 where
 enc := CO
 dec := fT
 n := 1
 ed := fun b => by
  have := b.toNat_lt
  show (if 0 ≤ ((b.toNat : Nat) : Int) ∧ ((b.toNat : Nat) : Int) < 256 then some (UInt8.ofNat ((b.toNat : Nat) : Int).toNat) else none) = some b
  rw [if_pos (by omega), tn, UInt8.ofNat_toNat]
 de := fun c a h => by
  unfold fT at h
  split at h
  ·rename_i x
   split at h
   ·rename_i q
    cases h
    show [T.v (.int .u8 x)] = [T.v (.int .u8 (((UInt8.ofNat x.toNat).toNat : Nat) : Int))]
    have : (UInt8.ofNat x.toNat).toNat = x.toNat := by simp; omega
    rw [this]
    congr 3
    omega
   ·cases h
  ·cases h
 len := fun _ => rfl
theorem XK (b : UInt8) : CO b = [.v (.int .u8 b.toNat)] := rfl
theorem ay (xs : List UInt8) (n : Int) (s : AS) (K : Kt) : Eu 1 (xs.map CO) n s K = (0 ≤ n ∧ n < xs.length ∧ K (.t (.rop (CO (xs.getD n.toNat default)))) s) := BX CO xs 1 n s K fun _ => rfl
theorem JR : P8.enc = CO := rfl
theorem R7 : P8.n = 1 := rfl
theorem BT (xs : List UInt8) : P8.decL (xs.map CO) = some xs := P8.decL_map xs
theorem NZ (xs : List UInt8) : (∀ c ∈ xs.map CO, c.length = 1) = True := eq_true fun c hc => by
 obtain ⟨a, _, rfl⟩ := List.mem_map.1 hc; rfl
structure Rd where
 b : List UInt8
 p : Int
def gW : AV → Option Rd
 | .ob [.t (.sl 1 es), .t (.v (.int .i64 p))] => (P8.decL es).map fun b => ⟨b, p⟩
 | _ => none
def ER : AD Rd where
 enc r := .ob [.t (.sl 1 (r.b.map CO)), .t (.v (.int .i64 r.p))]
 dec := gW
 ed := fun r => by
  show (P8.decL (r.b.map CO)).map _ = some r
  rw [BT]; rfl
 de := fun x r h => by
  unfold gW at h
  split at h
  ·rename_i es p
   cases hd : P8.decL es with
   | none => rw [hd] at h; cases h
   | some b =>
     rw [hd] at h; cases h
     rw [show es = b.map CO from P8.decL_inv hd]
  ·cases h
theorem BK (r : Rd) : ER.enc r = .ob [.t (.sl 1 (r.b.map CO)), .t (.v (.int .i64 r.p))] := rfl
theorem BM {es : List (List T)} {p : Int} : ER.dec (.ob [.t (.sl 1 es), .t (.v (.int .i64 p))]) = (P8.decL es).map fun b => ⟨b, p⟩ := rfl
theorem ef {n : Int} (h : 0 ≤ n) (h1 : n < 9223372036854775808) : IntKind.wrap .i64 n = n := by
 have e : IntKind.wrap .i64 n = if ((true && decide (n % 18446744073709551616 ≥ 9223372036854775808)) = true) then n % 18446744073709551616 - 18446744073709551616 else n % 18446744073709551616 := rfl
 rw [e, if_neg (by simp; omega)]
 omega
theorem oy {x y : Int} (h : 0 ≤ x) (h1 : x < 9223372036854775808) (k : 0 ≤ y) (k1 : y < 9223372036854775808) : 0 ≤ bits .xor .i64 x y := by
 have e : bits .xor .i64 x y = IntKind.wrap .i64 (((BitVec.ofInt 64 x ^^^ BitVec.ofInt 64 y).toNat : Nat) : Int) := rfl
 rw [e, BitVec.toNat_xor, BitVec.toNat_ofInt, BitVec.toNat_ofInt]
 have q : ((x % ((2 ^ 64 : Nat) : Int)).toNat ^^^ (y % ((2 ^ 64 : Nat) : Int)).toNat) < 2 ^ 63 := Nat.xor_lt_two_pow (by omega) (by omega)
 have q2 := Int.ofNat_lt.2 q
 rw [ef (Int.natCast_nonneg _) q2]
 exact Int.natCast_nonneg _
def Zp (b : List UInt8) (k : Int) : Int := (((b.getD k.toNat default).toNat : Nat) : Int)
theorem Ou (b : List UInt8) (k : Int) : 0 ≤ Zp b k ∧ Zp b k ≤ 255 := by
 have := (b.getD k.toNat default).toNat_lt
 unfold Zp; omega
theorem sc (b : List UInt8) (k : Int) : (((b.getD k.toNat default).toNat : Nat) : Int) = Zp b k := rfl
def Lt (b : List UInt8) (k : Int) : Int := Zp b (k % b.length) * 131 + Zp b ((k * 7 + 3) % b.length) * 1117 + k * 29 + k / b.length * 53
theorem nF (b : List UInt8) (k : Int) : Zp b (k % b.length) * 131 + Zp b ((k * 7 + 3) % b.length) * 1117 + k * 29 + k / b.length * 53 = Lt b k := rfl
def Ah (r : Rd) (n : Int) : Int := if n < 1 ∨ (r.b.length : Int) = 0 then 0 else if r.p < r.b.length then Zp r.b r.p % n else bits .xor .i64 (Lt r.b r.p) (Lt r.b r.p / 64) % n
theorem XA {k l : Int} (h : 0 ≤ k) (hl : 0 < l) : 0 ≤ k / l ∧ k / l ≤ k := ⟨Int.ediv_nonneg h (by omega), Int.ediv_le_self _ h⟩
theorem nE {b : List UInt8} {k : Int} (h : 0 ≤ k) (h1 : k ≤ 1000000000) (h2 : ¬ (b.length : Int) = 0) : 0 ≤ Lt b k ∧ Lt b k ≤ 1000000000000 := by
 have q1 := Ou b (k % b.length)
 have q2 := Ou b ((k * 7 + 3) % b.length)
 have q3 := XA (l := b.length) h (by omega)
 unfold Lt
 omega
theorem CJ {r : Rd} {n : Int} (h : 0 ≤ r.p) (h1 : r.p ≤ 1000000000) : 0 ≤ Ah r n ∧ (1 ≤ n → Ah r n < n) := by
 unfold Ah
 split
 ·omega
 ·rename_i q
  split
  ·exact ⟨Int.emod_nonneg _ (by omega), fun _ => Int.emod_lt_of_pos _ (by omega)⟩
  ·exact ⟨Int.emod_nonneg _ (by omega), fun _ => Int.emod_lt_of_pos _ (by omega)⟩
theorem gX {r : Rd} {n : Int} (h : n < 1 ∨ (r.b.length : Int) = 0) : Ah r n = 0 := if_pos h
theorem vX {r : Rd} {n : Int} (h0 : ¬ n < 1) (h : ¬ (r.b.length : Int) = 0) (h1 : r.p < r.b.length) : Zp r.b r.p % n = Ah r n := by
 unfold Ah; rw [if_neg (by omega), if_pos h1]
theorem vY {r : Rd} {n : Int} (h0 : ¬ n < 1) (h : ¬ (r.b.length : Int) = 0) (h1 : ¬ r.p < r.b.length) : bits .xor .i64 (Lt r.b r.p) (Lt r.b r.p / 64) % n = Ah r n := by
 unfold Ah; rw [if_neg (by omega), if_neg h1]
def Rd.nx (r : Rd) (k : Int) : Rd := ⟨r.b, r.p + k⟩
theorem AO (r : Rd) (k : Int) : (r.nx k).p = r.p + k := rfl
theorem B2 (r : Rd) (k : Int) : (r.nx k).b = r.b := rfl
theorem Cy (r : Rd) (k : Int) : (⟨r.b, r.p + k⟩ : Rd) = r.nx k := rfl
theorem zJ {x y : Int} (h : x = y) : T.v (.int .i64 x) = T.v (.int .i64 y) := by rw [h]
def IJ : Mt := H1 (lc ER (lc BU l0)) (fun p => 0 ≤ p.1.p ∧ p.1.p ≤ 1000000000) (fun p => ([ER.enc (p.1.nx 1), BU.enc p.2.1], .t (.v (.int .i64 (Ah p.1 p.2.1)))))
section
attribute [local go_sem] AO B2 BK BM BT XK ay JR R7 NZ lm Int.add_sub_cancel sc nF AS.opn AS.cls AS.nilb AS.renb AS.up Bool.not_false Bool.not_true List.set_set List.set_cons_zero List.set_cons_succ List.set_nil List.mem_singleton forall_eq
set_option maxHeartbeats 1600000 in
theorem uc {G : Gt} (hG : Ac G) : Gd G 71 (AW IJ) := by
 refine Ke (dp := fun _ => true) (fn := Tryz.f71) (n := 2) rfl hG ?_
 rintro ⟨r, n, ⟨⟩⟩ hpre
 simp -implicitDefEqProofs only [Tryz.f71, go_sem, seval] at hpre ⊢
 obtain ⟨h1, h2⟩ := hpre
 try dsimp only at h1 h2
 have g1 := Ou r.b r.p
 have g2 := Ou r.b (r.p % r.b.length)
 have g3 := Ou r.b ((r.p * 7 + 3) % r.b.length)
 by_cases h0 : (r.b.length : Int) = 0
 ·with_reducible repeat' (first | apply ai | intro _ | ((first | apply s1 | apply s2 | apply s3 | apply s4) <;> intro hb <;> simp -implicitDefEqProofs only [hb, go_sem, seval] <;> try simp only [qz] at hb))
  all_goals (try simp only [maxLen, tn] at *)
  all_goals first | rfl | omega | (rw [gX (by omega)]; done) | contradiction
 ·have g4 := XA (l := r.b.length) h1 (by omega)
  have g5 := nE h1 h2 h0
  have g6 := Int.emod_nonneg r.p h0
  have g7 := Int.emod_lt_of_pos r.p (b := r.b.length) (by omega)
  have g8 := Int.emod_nonneg (r.p * 7 + 3) h0
  have g9 := Int.emod_lt_of_pos (r.p * 7 + 3) (b := r.b.length) (by omega)
  have gx := XA (l := 64) g5.1 (by decide)
  have gy := oy (x := Lt r.b r.p) (y := Lt r.b r.p / 64) g5.1 (by omega) gx.1 (by omega)
  with_reducible repeat' (first | apply ai | intro _ | ((first | apply s1 | apply s2 | apply s3 | apply s4) <;> intro hb <;> simp -implicitDefEqProofs only [hb, go_sem, seval] <;> try simp only [qz] at hb))
  all_goals (try simp only [maxLen, tn] at *)
  all_goals first | rfl | omega | (rw [gX (by omega)]; done) | with_reducible exact zJ (vX (by assumption) (by assumption) (by assumption)) | with_reducible exact zJ (vY (by assumption) (by assumption) (by assumption)) | contradiction
end
theorem KP {x0 x1 x2 x3 : T} : Bm 1 4 [x0, x1, x2, x3] = [[x0], [x1], [x2], [x3]] := rfl
theorem KQ {x0 x1 x2 x3 x4 : T} : Bm 1 5 [x0, x1, x2, x3, x4] = [[x0], [x1], [x2], [x3], [x4]] := rfl
theorem KR {x0 x1 x2 x3 x4 x5 x6 : T} : Bm 1 7 [x0, x1, x2, x3, x4, x5, x6] = [[x0], [x1], [x2], [x3], [x4], [x5], [x6]] := rfl
theorem Fd {x0 x1 x2 x3 x4 x5 x6 x7 x8 x9 x10 : T} : Bm 1 11 [x0, x1, x2, x3, x4, x5, x6, x7, x8, x9, x10] = [[x0], [x1], [x2], [x3], [x4], [x5], [x6], [x7], [x8], [x9], [x10]] := rfl
theorem Fe {x0 x1 x2 x3 x4 x5 x6 x7 x8 x9 x10 x11 : T} : Bm 1 12 [x0, x1, x2, x3, x4, x5, x6, x7, x8, x9, x10, x11] = [[x0], [x1], [x2], [x3], [x4], [x5], [x6], [x7], [x8], [x9], [x10], [x11]] := rfl
theorem Bv (r : Rd) (a b : Int) : (r.nx a).nx b = r.nx (a + b) := by unfold Rd.nx; simp only [Int.add_assoc]
theorem Bp (r : Rd) : (⟨r.b, r.p⟩ : Rd) = r := rfl
theorem Bt (r : Rd) (a b : Int) : r.p + a + b = r.p + (a + b) := Int.add_assoc _ _ _
theorem Gw {a : ByteArray} {t : List (List T)} : Ao.decL ([.v (.string a)] :: t) = (Ao.decL t).map (a :: ·) := by
 show BE Ao.dec _ = (BE Ao.dec t).map _
 simp only [BE, OL]
 cases BE Ao.dec t <;> rfl
theorem Gv {a : Int} {t : List (List T)} : D4.decL ([.v (.int .i64 a)] :: t) = (D4.decL t).map (a :: ·) := by
 show BE D4.dec _ = (BE D4.dec t).map _
 simp only [BE, OK]
 cases BE D4.dec t <;> rfl
def OH (r : Rd) (l : List ByteArray) : ByteArray := l.getD (Ah r l.length).toNat default
def HB (r : Rd) (l : List Int) : Int := l.getD (Ah r l.length).toNat default
theorem Hb {r : Rd} {l : List ByteArray} (h : 0 ≤ r.p) (h1 : r.p ≤ 1000000000) (hl : 1 ≤ l.length) : OH r l ∈ l := by
 have := CJ (n := l.length) h h1
 exact AB (by omega)
theorem Ji {r : Rd} {l : List Int} (h : 0 ≤ r.p) (h1 : r.p ≤ 1000000000) (hl : 1 ≤ l.length) : HB r l ∈ l := by
 have := CJ (n := l.length) h h1
 exact AB (by omega)
def IH : Mt := H1 (lc ER (lc (Ao.aow true 1) l0)) (fun p => 0 ≤ p.1.p ∧ p.1.p ≤ 1000000000 ∧ 1 ≤ p.2.1.length ∧ p.2.1.length ≤ 1000) (fun p => ([ER.enc (p.1.nx 1), (Ao.aow true 1).enc p.2.1], .t (.v (.string (OH p.1 p.2.1)))))
section
attribute [local go_sem] IJ AO B2 BK BM BT Bv Cy Bp Bt lm List.length_append List.length_cons List.length_nil List.map_append List.map_nil Nat.zero_add List.nil_append AS.opn AS.cls AS.nilb AS.renb AS.up Bool.not_false Bool.not_true List.set_set List.set_cons_zero List.set_cons_succ List.set_nil List.mem_singleton forall_eq Ai
set_option maxHeartbeats 800000 in
theorem pM {G : Gt} (hG : Ac G) (hh : G.e 71 = AW IJ) : Gd G 113 (AW IH) := by
 refine Ke (dp := fun _ => true) (fn := Tryz.f113) (n := 2) rfl hG ?_
 rintro ⟨r, l, ⟨⟩⟩ hpre
 simp -implicitDefEqProofs only [Tryz.f113, go_sem, hh, Int.reduceAdd, seval] at hpre ⊢
 obtain ⟨h1, h2, h3, h4⟩ := hpre
 try dsimp only at h1 h2 h3 h4
 have hb := CJ (n := l.length) h1 h2
 with_reducible repeat' (first | apply ai | intro _ | ((first | apply s1 | apply s2 | apply s3 | apply s4) <;> intro hb <;> simp -implicitDefEqProofs only [hb, go_sem, hh, Int.reduceAdd, seval] <;> try simp only [qz] at hb))
 all_goals (try simp only [maxLen, tn] at *)
 all_goals first | rfl | omega | decide | assumption | skip
end
def WV : Mt := H1 (lc ER (lc (D4.aow true 1) l0)) (fun p => 0 ≤ p.1.p ∧ p.1.p ≤ 1000000000 ∧ 1 ≤ p.2.1.length ∧ p.2.1.length ≤ 1000) (fun p => ([ER.enc (p.1.nx 1), (D4.aow true 1).enc p.2.1], .t (.v (.int .i64 (HB p.1 p.2.1)))))
section
attribute [local go_sem] IJ AO B2 BK BM BT Bv Cy Bp Bt lm List.length_append List.length_cons List.length_nil List.map_append List.map_nil Nat.zero_add List.nil_append AS.opn AS.cls AS.nilb AS.renb AS.up Bool.not_false Bool.not_true List.set_set List.set_cons_zero List.set_cons_succ List.set_nil List.mem_singleton forall_eq Ai
set_option maxHeartbeats 800000 in
theorem tl {G : Gt} (hG : Ac G) (hh : G.e 71 = AW IJ) : Gd G 24 (AW WV) := by
 refine Ke (dp := fun _ => true) (fn := Tryz.f24) (n := 2) rfl hG ?_
 rintro ⟨r, l, ⟨⟩⟩ hpre
 simp -implicitDefEqProofs only [Tryz.f24, go_sem, hh, Int.reduceAdd, seval] at hpre ⊢
 obtain ⟨h1, h2, h3, h4⟩ := hpre
 try dsimp only at h1 h2 h3 h4
 have hb := CJ (n := l.length) h1 h2
 with_reducible repeat' (first | apply ai | intro _ | ((first | apply s1 | apply s2 | apply s3 | apply s4) <;> intro hb <;> simp -implicitDefEqProofs only [hb, go_sem, hh, Int.reduceAdd, seval] <;> try simp only [qz] at hb))
 all_goals (try simp only [maxLen, tn] at *)
 all_goals first | rfl | omega | decide | assumption | skip
end
def tD : List ByteArray := [⟨#[111, 110, 101, 46, 111, 114, 103]⟩, ⟨#[116, 119, 111, 46, 111, 114, 103]⟩, ⟨#[104, 117, 98, 46, 110, 101, 116]⟩, ⟨#[120, 46, 99, 111, 109]⟩, ⟨#[102, 97, 114, 46, 99, 111, 109]⟩, ⟨#[111, 116, 104, 101, 114, 46, 99, 111, 109]⟩, ⟨#[97, 46, 111, 110, 101, 46, 111, 114, 103]⟩]
def wc : List ByteArray := [⟨#[97]⟩, ⟨#[98]⟩, ⟨#[97, 110, 110]⟩, ⟨#[98, 111, 98, 55]⟩]
def u7 : List ByteArray := [⟨#[104, 101, 108, 108, 111]⟩, ⟨#[]⟩, ⟨#[46]⟩, ⟨#[46, 46]⟩, ⟨#[46, 100, 111, 116]⟩, ⟨#[97, 32, 108, 111, 110, 103, 101, 114, 32, 108, 105, 110, 101, 32, 111, 102, 32, 116, 101, 120, 116]⟩, ⟨#[72, 111, 112, 58, 32, 111, 110, 101, 46, 111, 114, 103]⟩, ⟨#[72, 111, 112, 58, 32]⟩, ⟨#[73, 100, 58, 32, 55]⟩, ⟨#[110, 111, 116, 32, 100, 101, 108, 105, 118, 101, 114, 101, 100, 58]⟩, ⟨#[60, 97, 64, 111, 110, 101, 46, 111, 114, 103, 62]⟩, ⟨#[108, 105, 110, 101, 32, 116, 104, 97, 116, 32, 105, 115, 32, 101, 120, 97, 99, 116, 108, 121, 32, 102, 111, 114, 116, 121, 32, 98, 121, 116, 101, 115, 32, 108, 111, 110, 103, 46, 46, 33]⟩]
def tE (r : Rd) : ByteArray := OH r tD
def dE (r : Rd) : ByteArray := OH r u7
def Em (r : Rd) : Ad := ⟨OH r wc, tE (r.nx 1)⟩
def C0 (r : Rd) : Ad × Rd :=
 if Ah (r.nx 2) 10 = 0 then (⟨OH (r.nx 3) [⟨#[]⟩, ⟨#[65]⟩, ⟨#[116, 111, 111, 108, 111, 110, 103, 110, 97, 109, 101]⟩, ⟨#[97, 64, 98]⟩], (Em r).domain⟩, r.nx 4)
 else if Ah (r.nx 2) 10 = 1 then (⟨(Em r).user, OH (r.nx 3) [⟨#[]⟩, ⟨#[97, 46, 46, 98]⟩, ⟨#[46, 97]⟩, ⟨#[97, 46, 98, 46, 99, 46, 100]⟩, ⟨#[85, 112, 46, 111, 114, 103]⟩]⟩, r.nx 4)
 else if Ah (r.nx 2) 10 = 2 then (⟨⟨#[]⟩, ⟨#[]⟩⟩, r.nx 3)
 else (Em r, r.nx 3)
def jk : Mt := H1 (lc ER l0) (fun p => 0 ≤ p.1.p ∧ p.1.p ≤ 999999990) (fun p => ([ER.enc (p.1.nx 1)], .t (.v (.string (tE p.1)))))
section
attribute [local go_sem] IH AO B2 BK BM BT Bv Cy Bp Bt lm List.length_append List.length_cons List.length_nil List.map_append List.map_nil Nat.zero_add List.nil_append AS.opn AS.cls AS.nilb AS.renb AS.up Bool.not_false Bool.not_true List.set_set List.set_cons_zero List.set_cons_succ List.set_nil List.mem_singleton forall_eq Gw KP KQ KR Fd Fe
set_option maxHeartbeats 800000 in
theorem ph {G : Gt} (hG : Ac G) (hh : G.e 113 = AW IH) : Gd G 136 (AW jk) := by
 refine Ke (dp := fun _ => true) (fn := Tryz.f136) (n := 1) rfl hG ?_
 rintro ⟨r, ⟨⟩⟩ hpre
 simp -implicitDefEqProofs only [Tryz.f136, go_sem, hh, Int.reduceAdd, seval] at hpre ⊢
 obtain ⟨h1, h2⟩ := hpre
 try dsimp only at h1 h2
 with_reducible repeat' (first | apply ai | intro _ | ((first | apply s1 | apply s2 | apply s3 | apply s4) <;> intro hb <;> simp -implicitDefEqProofs only [hb, go_sem, hh, Int.reduceAdd, seval] <;> try simp only [qz] at hb))
 all_goals (try simp only [maxLen, tn] at *)
 all_goals first | rfl | omega | decide | assumption | skip
end
def kV : Mt := H1 (lc ER l0) (fun p => 0 ≤ p.1.p ∧ p.1.p ≤ 999999990) (fun p => ([ER.enc (p.1.nx 1)], .t (.v (.string (dE p.1)))))
section
attribute [local go_sem] IH AO B2 BK BM BT Bv Cy Bp Bt lm List.length_append List.length_cons List.length_nil List.map_append List.map_nil Nat.zero_add List.nil_append AS.opn AS.cls AS.nilb AS.renb AS.up Bool.not_false Bool.not_true List.set_set List.set_cons_zero List.set_cons_succ List.set_nil List.mem_singleton forall_eq Gw KP KQ KR Fd Fe
set_option maxHeartbeats 800000 in
theorem rF {G : Gt} (hG : Ac G) (hh : G.e 113 = AW IH) : Gd G 229 (AW kV) := by
 refine Ke (dp := fun _ => true) (fn := Tryz.f229) (n := 1) rfl hG ?_
 rintro ⟨r, ⟨⟩⟩ hpre
 simp -implicitDefEqProofs only [Tryz.f229, go_sem, hh, Int.reduceAdd, seval] at hpre ⊢
 obtain ⟨h1, h2⟩ := hpre
 try dsimp only at h1 h2
 with_reducible repeat' (first | apply ai | intro _ | ((first | apply s1 | apply s2 | apply s3 | apply s4) <;> intro hb <;> simp -implicitDefEqProofs only [hb, go_sem, hh, Int.reduceAdd, seval] <;> try simp only [qz] at hb))
 all_goals (try simp only [maxLen, tn] at *)
 all_goals first | rfl | omega | decide | assumption | skip
end
def sg : Mt := H1 (lc ER l0) (fun p => 0 ≤ p.1.p ∧ p.1.p ≤ 999999980) (fun p => ([ER.enc (p.1.nx 2)], .agg [.t (.v (.string (Em p.1).user)), .t (.v (.string (Em p.1).domain))]))
section
attribute [local go_sem] IH jk AO B2 BK BM BT Bv Cy Bp Bt lm List.length_append List.length_cons List.length_nil List.map_append List.map_nil Nat.zero_add List.nil_append AS.opn AS.cls AS.nilb AS.renb AS.up Bool.not_false Bool.not_true List.set_set List.set_cons_zero List.set_cons_succ List.set_nil List.mem_singleton forall_eq Gw KP KQ KR Fd Fe
set_option maxHeartbeats 800000 in
theorem ud {G : Gt} (hG : Ac G) (hh : G.e 113 = AW IH ∧ G.e 136 = AW jk) : Gd G 72 (AW sg) := by
 refine Ke (dp := fun _ => true) (fn := Tryz.f72) (n := 1) rfl hG ?_
 rintro ⟨r, ⟨⟩⟩ hpre
 simp -implicitDefEqProofs only [Tryz.f72, go_sem, hh, Int.reduceAdd, seval] at hpre ⊢
 obtain ⟨h1, h2⟩ := hpre
 try dsimp only at h1 h2
 with_reducible repeat' (first | apply ai | intro _ | ((first | apply s1 | apply s2 | apply s3 | apply s4) <;> intro hb <;> simp -implicitDefEqProofs only [hb, go_sem, hh, Int.reduceAdd, seval] <;> try simp only [qz] at hb))
 all_goals (try simp only [maxLen, tn] at *)
 all_goals first | rfl | omega | decide | assumption | skip
end
theorem SM {r : Rd} (h : Ah (r.nx 2) 10 = 0) : C0 r = (⟨OH (r.nx 3) [⟨#[]⟩, ⟨#[65]⟩, ⟨#[116, 111, 111, 108, 111, 110, 103, 110, 97, 109, 101]⟩, ⟨#[97, 64, 98]⟩], (Em r).domain⟩, r.nx 4) := if_pos h
theorem SN {r : Rd} (h0 : ¬ Ah (r.nx 2) 10 = 0) (h : Ah (r.nx 2) 10 = 1) : C0 r = (⟨(Em r).user, OH (r.nx 3) [⟨#[]⟩, ⟨#[97, 46, 46, 98]⟩, ⟨#[46, 97]⟩, ⟨#[97, 46, 98, 46, 99, 46, 100]⟩, ⟨#[85, 112, 46, 111, 114, 103]⟩]⟩, r.nx 4) := by unfold C0; rw [if_neg h0, if_pos h]
theorem SO {r : Rd} (h0 : ¬ Ah (r.nx 2) 10 = 0) (h1 : ¬ Ah (r.nx 2) 10 = 1) (h : Ah (r.nx 2) 10 = 2) : C0 r = (⟨⟨#[]⟩, ⟨#[]⟩⟩, r.nx 3) := by unfold C0; rw [if_neg h0, if_neg h1, if_pos h]
theorem SP {r : Rd} (h0 : ¬ Ah (r.nx 2) 10 = 0) (h1 : ¬ Ah (r.nx 2) 10 = 1) (h : ¬ Ah (r.nx 2) 10 = 2) : C0 r = (Em r, r.nx 3) := by unfold C0; rw [if_neg h0, if_neg h1, if_neg h]
def jZ : Mt := H1 (lc ER l0) (fun p => 0 ≤ p.1.p ∧ p.1.p ≤ 999999950) (fun p => ([ER.enc (C0 p.1).2], .agg [.t (.v (.string (C0 p.1).1.user)), .t (.v (.string (C0 p.1).1.domain))]))
section
attribute [local go_sem] sg IJ IH AO B2 BK BM BT Bv Cy Bp Bt lm List.length_append List.length_cons List.length_nil List.map_append List.map_nil Nat.zero_add List.nil_append AS.opn AS.cls AS.nilb AS.renb AS.up Bool.not_false Bool.not_true List.set_set List.set_cons_zero List.set_cons_succ List.set_nil List.mem_singleton forall_eq Gw KP KQ KR Fd Fe
set_option maxHeartbeats 1600000 in
theorem pN {G : Gt} (hG : Ac G) (hh : G.e 72 = AW sg ∧ G.e 71 = AW IJ ∧ G.e 113 = AW IH) : Gd G 114 (AW jZ) := by
 refine Ke (dp := fun _ => true) (fn := Tryz.f114) (n := 1) rfl hG ?_
 rintro ⟨r, ⟨⟩⟩ hpre
 obtain ⟨h1, h2⟩ := hpre
 try dsimp only at h1 h2 ⊢
 by_cases q0 : Ah (r.nx 2) 10 = 0
 ·rw [SM q0]
  simp -implicitDefEqProofs only [Tryz.f114, q0, eq_self, decide_true, decide_false, go_sem, hh, Int.reduceAdd, seval]
  with_reducible repeat' (first | apply ai | intro _ | ((first | apply s1 | apply s2 | apply s3 | apply s4) <;> intro hb <;> simp -implicitDefEqProofs only [hb, go_sem, hh, Int.reduceAdd, seval] <;> try simp only [qz] at hb))
  all_goals (try simp only [maxLen, tn] at *)
  all_goals first | rfl | omega | decide | assumption | skip
 ·by_cases q1 : Ah (r.nx 2) 10 = 1
  ·rw [SN q0 q1]
   simp -implicitDefEqProofs only [Tryz.f114, q1, Int.reduceEq, eq_self, decide_true, decide_false, go_sem, hh, Int.reduceAdd, seval]
   with_reducible repeat' (first | apply ai | intro _ | ((first | apply s1 | apply s2 | apply s3 | apply s4) <;> intro hb <;> simp -implicitDefEqProofs only [hb, go_sem, hh, Int.reduceAdd, seval] <;> try simp only [qz] at hb))
   all_goals (try simp only [maxLen, tn] at *)
   all_goals first | rfl | omega | decide | assumption | skip
  ·by_cases q2 : Ah (r.nx 2) 10 = 2
   ·rw [SO q0 q1 q2]
    simp -implicitDefEqProofs only [Tryz.f114, q2, Int.reduceEq, eq_self, decide_true, decide_false, go_sem, hh, Int.reduceAdd, seval]
    with_reducible repeat' (first | apply ai | intro _ | ((first | apply s1 | apply s2 | apply s3 | apply s4) <;> intro hb <;> simp -implicitDefEqProofs only [hb, go_sem, hh, Int.reduceAdd, seval] <;> try simp only [qz] at hb))
    all_goals (try simp only [maxLen, tn] at *)
    all_goals first | rfl | omega | decide | assumption | skip
   ·rw [SP q0 q1 q2]
    simp -implicitDefEqProofs only [Tryz.f114, q0, q1, q2, eq_self, decide_true, decide_false, go_sem, hh, Int.reduceAdd, seval]
    with_reducible repeat' (first | apply ai | intro _ | ((first | apply s1 | apply s2 | apply s3 | apply s4) <;> intro hb <;> simp -implicitDefEqProofs only [hb, go_sem, hh, Int.reduceAdd, seval] <;> try simp only [qz] at hb))
    all_goals (try simp only [maxLen, tn] at *)
    all_goals first | rfl | omega | decide | assumption | skip
end
def Lm (r : Rd) (n : Nat) : List ByteArray := (List.range n).map fun (j : Nat) => dE (r.nx (j : Int))
theorem jK (r : Rd) (n : Nat) : Lm r (n + 1) = Lm r n ++ [dE (r.nx n)] := by
 unfold Lm; rw [List.range_succ, List.map_append]; rfl
theorem On (r : Rd) (n : Nat) : (Lm r n).length = n := by unfold Lm; simp
def JB (r : Rd) (m : Int) : List ByteArray := Lm (r.nx 1) (Ah r (m + 1)).toNat
def M5 (r : Rd) (m : Int) : Rd := r.nx (1 + Ah r (m + 1))
def kK : Mt := H1 (lc ER (lc BU l0)) (fun p => 0 ≤ p.1.p ∧ p.1.p ≤ 999999000 ∧ 0 ≤ p.2.1 ∧ p.2.1 ≤ 100) (fun p => ([ER.enc (M5 p.1 p.2.1), BU.enc p.2.1], .o true 1 ((JB p.1 p.2.1).map AG)))
section
attribute [local go_sem] IJ kV AO B2 BK BM BT Bv Cy Bp Bt lm List.length_append List.length_cons List.length_nil List.map_append List.map_nil Nat.zero_add List.nil_append AS.opn AS.cls AS.nilb AS.renb AS.up Bool.not_false Bool.not_true List.set_set List.set_cons_zero List.set_cons_succ List.set_nil List.mem_singleton forall_eq
set_option maxHeartbeats 1600000 in
theorem qr {G : Gt} (hG : Ac G) (hh : G.e 71 = AW IJ ∧ G.e 229 = AW kV) : Gd G 209 (AW kK) := by
 refine Ke (dp := fun _ => true) (fn := Tryz.f209) (n := 2) rfl hG ?_
 rintro ⟨r, m, ⟨⟩⟩ hpre
 simp -implicitDefEqProofs only [Tryz.f209, go_sem, hh, Int.reduceAdd, seval] at hpre ⊢
 obtain ⟨h1, h2, h3, h4⟩ := hpre
 try dsimp only at h1 h2 h3 h4
 have hb := CJ (n := m + 1) h1 (by omega)
 obtain ⟨n, hn⟩ : ∃ n : Nat, n = (Ah r (m + 1)).toNat := ⟨_, rfl⟩
 have hn2 : Ah r (m + 1) = n := by omega
 have e1 : M5 r m = r.nx (1 + n) := by unfold M5; rw [hn2]
 have e2 : JB r m = Lm (r.nx 1) n := by unfold JB; rw [← hn]
 rw [e1, e2]
 simp -implicitDefEqProofs only [hn2, go_sem, hh, Int.reduceAdd, seval]
 with_reducible repeat' (first | apply ai | intro _ | ((first | apply s1 | apply s2 | apply s3 | apply s4) <;> intro hb <;> simp -implicitDefEqProofs only [hb, go_sem, hh, Int.reduceAdd, seval] <;> try simp only [qz] at hb))
 all_goals (try simp only [maxLen, tn] at *)
 all_goals first | rfl | omega | decide | assumption | skip
 refine AC [(5, 1905, true, 1)] (ι := {i : Nat // i ≤ n}) (fun p => ⟨[(0, .pb 1900 0), (5, .h 1905), (6, .t (.v (.int .i64 (n - p.1))))], [(1900, some (.box [.t (.sl 1 (r.b.map CO)), .t (.v (.int .i64 (r.p + (1 + p.1))))])), (1905, some (.arr true 1 ((Lm (r.nx 1) p.1).map AG)))]⟩) (fun p => n - p.1) ⟨0, by simp⟩ rfl ?_ ?_
 ·simp -implicitDefEqProofs only [go_sem, hh, Int.reduceAdd, seval]
  simp [Lm]
 ·rintro ⟨i, hi⟩
  have hlen := On (r.nx 1) i
  by_cases hlt : (n : Int) - i > 0
  ·simp -implicitDefEqProofs only [hlt, decide_true, tn, go_sem, hh, Int.reduceAdd, seval]
   with_reducible repeat' (first | apply ai | intro _ | ((first | apply s1 | apply s2 | apply s3 | apply s4) <;> intro hb <;> simp -implicitDefEqProofs only [hb, go_sem, hh, Int.reduceAdd, seval] <;> try simp only [qz] at hb))
   all_goals (try simp only [maxLen, tn] at *)
   all_goals first | rfl | omega | decide | assumption | skip
   refine ⟨⟨i + 1, by omega⟩, by dsimp only; omega, ?_⟩
   simp -implicitDefEqProofs only [jK, go_sem, hh, Int.reduceAdd, seval]
   try simp
   omega
  ·have hz : i = n := by omega
   subst hz
   simp -implicitDefEqProofs only [hlt, decide_false, go_sem, hh, Int.reduceAdd, seval]
   with_reducible repeat' (first | apply ai | intro _ | ((first | apply s1 | apply s2 | apply s3 | apply s4) <;> intro hb <;> simp -implicitDefEqProofs only [hb, go_sem, hh, Int.reduceAdd, seval] <;> try simp only [qz] at hb))
   all_goals (try simp only [maxLen, tn] at *)
   all_goals first | rfl | omega | decide | assumption | skip
end
def nK : Ad := ⟨⟨#[]⟩, ⟨#[]⟩⟩
def DU (r : Rd) : Nat → List Ad
 | 0 => []
 | k + 1 => if Em (r.nx (2 * (k : Int))) ∈ DU r k then DU r k else DU r k ++ [Em (r.nx (2 * (k : Int)))]
theorem gn {r : Rd} {k : Nat} (h : Em (r.nx (2 * (k : Int))) ∈ DU r k) : DU r (k + 1) = DU r k := if_pos h
theorem gm {r : Rd} {k : Nat} (h : ¬ Em (r.nx (2 * (k : Int))) ∈ DU r k) : DU r (k + 1) = DU r k ++ [Em (r.nx (2 * (k : Int)))] := if_neg h
theorem Jn (r : Rd) : ∀ k, (DU r k).length ≤ k
 | 0 => Nat.le_refl _
 | k + 1 => by
   have := Jn r k
   unfold DU; split
   ·omega
   ·rw [List.length_append]; simp; omega
theorem Ih (r : Rd) : ∀ k, (DU r k).Nodup
 | 0 => List.nodup_nil
 | k + 1 => by
   unfold DU; split
   ·exact Ih r k
   ·rename_i h
    rw [List.nodup_append]
    exact ⟨Ih r k, by simp, fun a ha b hb e => h (by rw [List.mem_singleton.1 hb] at e; rw [← e]; exact ha)⟩
theorem N8 {r : Rd} {a : Ad} : ∀ {k : Nat}, a ∈ DU r k → ∃ j, j < k ∧ a = Em (r.nx (2 * (j : Int)))
 | k + 1, h => by
   unfold DU at h; split at h
   ·obtain ⟨j, hj, e⟩ := N8 h
    exact ⟨j, by omega, e⟩
   ·rcases List.mem_append.1 h with h | h
    ·obtain ⟨j, hj, e⟩ := N8 h
     exact ⟨j, by omega, e⟩
    ·exact ⟨k, by omega, List.mem_singleton.1 h⟩
theorem oY (r : Rd) (k : Nat) : 1 ≤ (DU r (k + 1)).length := by
 unfold DU; split
 ·rename_i h
  have := List.length_pos_of_mem h
  omega
 ·try simp
def TJ (r : Rd) : Int := HB (r.nx 2) [1, 4, 9]
def Ax (r : Rd) : Rd := M5 (r.nx 3) (TJ r)
def JE (r : Rd) : Int := 1 + Ah ((Ax r).nx 1) 4
def MS (r : Rd) : Ad := if Ah (Ax r) 5 = 0 then nK else Em r
def YY (r : Rd) : Ml := ⟨MS r, DU ((Ax r).nx 2) (JE r).toNat, JB (r.nx 3) (TJ r)⟩
def PU (r : Rd) : Rd := (Ax r).nx (2 + 2 * JE r)
theorem YZ {r : Rd} (h : 0 ≤ r.p) (h1 : r.p ≤ 999999900) : 1 ≤ TJ r ∧ TJ r ≤ 9 := by
 have := Ji (r := r.nx 2) (l := [1, 4, 9]) (by rw [AO]; omega) (by rw [AO]; omega) (by decide)
 unfold TJ
 simp only [List.mem_cons, List.not_mem_nil, or_false] at this
 omega
theorem jL {r : Rd} {m : Int} (h : 0 ≤ r.p) (h1 : r.p ≤ 999999950) (h2 : 0 ≤ m) : (M5 r m).b = r.b ∧ r.p + 1 ≤ (M5 r m).p ∧ (M5 r m).p ≤ r.p + 1 + m := by
 have := CJ (r := r) (n := m + 1) h (by omega)
 unfold M5
 rw [AO, B2]
 exact ⟨rfl, by omega, by omega⟩
theorem Nd {r : Rd} (h : 0 ≤ r.p) (h1 : r.p ≤ 999999900) : (Ax r).b = r.b ∧ r.p + 4 ≤ (Ax r).p ∧ (Ax r).p ≤ r.p + 13 := by
 have h2 := YZ h h1
 have h3 := jL (r := r.nx 3) (m := TJ r) (by rw [AO]; omega) (by rw [AO]; omega) (by omega)
 rw [AO, B2] at h3
 unfold Ax
 exact ⟨h3.1, by omega, by omega⟩
theorem YX {r : Rd} (h : 0 ≤ r.p) (h1 : r.p ≤ 999999900) : 1 ≤ JE r ∧ JE r ≤ 4 := by
 have h2 := Nd h h1
 have h3 := CJ (r := (Ax r).nx 1) (n := 4) (by rw [AO]; omega) (by rw [AO]; omega)
 unfold JE
 omega
theorem gO {r : Rd} (h : 0 ≤ r.p) (h1 : r.p ≤ 999999900) : (PU r).b = r.b ∧ r.p + 4 ≤ (PU r).p ∧ (PU r).p ≤ r.p + 23 := by
 have h2 := Nd h h1
 have h3 := YX h h1
 unfold PU
 rw [AO, B2]
 exact ⟨h2.1, by omega, by omega⟩
theorem y0 {a b : Ad} : ((decide (a.user = b.user) && decide (a.domain = b.domain)) = true) = (a = b) := by
 rw [BV]; simp
theorem y6 {a b : Ad} : ((decide (a.user = b.user) && decide (a.domain = b.domain)) = false) = ¬ a = b := by
 rw [BV]; simp
theorem vE {r : Rd} : HB (r.nx 2) [1, 4, 9] = TJ r := rfl
theorem nG {r : Rd} : M5 (r.nx 3) (TJ r) = Ax r := rfl
theorem vC {r : Rd} : 1 + Ah ((Ax r).nx 1) 4 = JE r := rfl
def WP : Mt := H1 (lc ER l0) (fun p => 0 ≤ p.1.p ∧ p.1.p ≤ 999998000) (fun p => ([ER.enc (PU p.1)], U4 (YY p.1)))
section
attribute [local go_sem] sg WV kK IJ AO B2 BK BM BT Bv Cy Bp Bt lm List.length_append List.length_cons List.length_nil List.map_append List.map_nil Nat.zero_add List.nil_append AS.opn AS.cls AS.nilb AS.renb AS.up Bool.not_false Bool.not_true List.set_set List.set_cons_zero List.set_cons_succ List.set_nil List.mem_singleton forall_eq Gv vE nG vC Ai KP KQ KR Fd Fe
set_option maxHeartbeats 3200000 in
theorem qW {G : Gt} (hG : Ac G) (hh : G.e 72 = AW sg ∧ G.e 24 = AW WV ∧ G.e 209 = AW kK ∧ G.e 71 = AW IJ) : Gd G 189 (AW WP) := by
 refine Ke (dp := fun n => !(Nat.beq n 100004 || Nat.beq n 100006)) (fn := Tryz.f189) (n := 1) rfl hG ?_
 rintro ⟨r, ⟨⟩⟩ hpre
 obtain ⟨h1, h2⟩ := hpre
 try dsimp only at h1 h2 ⊢
 have f1 := YZ h1 (by omega)
 have f2 := Nd h1 (by omega)
 have f3 := YX h1 (by omega)
 by_cases q : Ah (Ax r) 5 = 0
 ·have hf : MS r = nK := if_pos q
  simp -implicitDefEqProofs only [Tryz.f189, q, eq_self, decide_true, go_sem, hh, Int.reduceAdd, seval]
  with_reducible repeat' (first | apply ai | intro _ | ((first | apply s1 | apply s2 | apply s3 | apply s4) <;> intro hb <;> simp -implicitDefEqProofs only [hb, go_sem, hh, Int.reduceAdd, seval] <;> try simp only [qz] at hb))
  all_goals (try simp only [maxLen, tn] at *)
  all_goals first | rfl | omega | decide | assumption | skip
  refine Am (Le.nilb 1003 2 1907 true 2 rfl rfl rfl) (Af ?_)
  simp -implicitDefEqProofs only [go_sem, hh, Int.reduceAdd, seval]
  with_reducible repeat' (first | apply ai | intro _ | ((first | apply s1 | apply s2 | apply s3 | apply s4) <;> intro hb <;> simp -implicitDefEqProofs only [hb, go_sem, hh, Int.reduceAdd, seval] <;> try simp only [qz] at hb))
  all_goals (try simp only [maxLen, tn] at *)
  all_goals first | rfl | omega | decide | assumption | skip
  refine AC [] (ι := {i : Nat // (i : Int) ≤ JE r}) (fun ⟨i, _⟩ => ⟨[(0, .pb 1900 0), (2, .pb 1002 0), (3, .pb 1003 0), (4, .t (.v (.int .i64 (JE r - i))))], [(1900, some (.box [.t (.sl 1 ((Ax r).b.map CO)), .t (.v (.int .i64 ((Ax r).p + (2 + 2 * i))))])), (1002, some (.box [.t (.v (.string ⟨#[]⟩)), .t (.v (.string ⟨#[]⟩)), .nil, .nil])), (1003, some (.box [.t (.v (.string ⟨#[]⟩)), .t (.v (.string ⟨#[]⟩)), .h 1907, .h 1014])), (1014, some (.arr true 1 ((JB (r.nx 3) (TJ r)).map AG))), (1907, some (.arr true 2 ((DU ((Ax r).nx 2) i).map Ap)))]⟩) (fun p => (JE r).toNat - p.1) ⟨0, by omega⟩ rfl ?_ ?_
  ·simp -implicitDefEqProofs only [go_sem, hh, Int.reduceAdd, seval]
   simp [DU]
  ·rintro ⟨i, hi⟩
   dsimp only
   have hlen := Jn ((Ax r).nx 2) i
   by_cases hlt : JE r - (i : Int) > 0
   ·simp -implicitDefEqProofs only [hlt, decide_true, tn, go_sem, hh, Int.reduceAdd, seval]
    with_reducible repeat' (first | apply ai | intro _ | ((first | apply s1 | apply s2 | apply s3 | apply s4) <;> intro hb <;> simp -implicitDefEqProofs only [hb, go_sem, hh, Int.reduceAdd, seval] <;> try simp only [qz] at hb))
    all_goals (try simp only [maxLen, tn] at *)
    all_goals first | rfl | omega | decide | assumption | skip
    refine AC [] (ι := {p : Nat × Bool // p.1 ≤ (DU ((Ax r).nx 2) i).length ∧ (p.2 = true ↔ ∃ j, j < p.1 ∧ (DU ((Ax r).nx 2) i).getD j default = (Em ((Ax r).nx (2 + 2 * (i : Int)))))}) (fun ⟨⟨k, b⟩, _⟩ => ⟨[(0, .pb 1900 0), (2, .pb 1002 0), (3, .pb 1003 0), (4, .t (.v (.int .i64 (JE r - i)))), (5, .pb 1005 0), (6, .t (.v (.bool b))), (7, .t (.v (.int .i64 k)))], [(1900, some (.box [.t (.sl 1 ((Ax r).b.map CO)), .t (.v (.int .i64 ((Ax r).p + (4 + 2 * i))))])), (1002, some (.box [.t (.v (.string ⟨#[]⟩)), .t (.v (.string ⟨#[]⟩)), .nil, .nil])), (1003, some (.box [.t (.v (.string ⟨#[]⟩)), .t (.v (.string ⟨#[]⟩)), .h 1907, .h 1014])), (1005, some (.box ((Ap (Em ((Ax r).nx (2 + 2 * (i : Int))))).map .t))), (1014, some (.arr true 1 ((JB (r.nx 3) (TJ r)).map AG))), (1907, some (.arr true 2 ((DU ((Ax r).nx 2) i).map Ap)))]⟩) (fun p => (DU ((Ax r).nx 2) i).length - p.1.1) ⟨(0, false), by simp, by simp⟩ rfl ?_ ?_
    ·simp -implicitDefEqProofs only [go_sem, hh, Int.reduceAdd, seval]
     try simp
     try omega
    ·rintro ⟨⟨k, b⟩, hk, hb2⟩
     dsimp only at hk hb2 ⊢
     by_cases hlt2 : (k : Int) < (DU ((Ax r).nx 2) i).length
     ·cases b
      ·have hn : ¬ ∃ j, j < k ∧ (DU ((Ax r).nx 2) i).getD j default = (Em ((Ax r).nx (2 + 2 * (i : Int)))) := fun z => by have := hb2.2 z; cases this
       simp -implicitDefEqProofs only [hlt2, decide_true, tn, go_sem, hh, Int.reduceAdd, seval]
       with_reducible repeat' (first | apply ai | intro _ | ((first | apply s1 | apply s2 | apply s3 | apply s4) <;> intro hb <;> simp -implicitDefEqProofs only [hb, go_sem, hh, Int.reduceAdd, seval] <;> try simp only [qz] at hb))
       all_goals (try simp only [maxLen, tn, y0, y6] at *)
       all_goals first | rfl | omega | decide | assumption | skip
       refine ⟨⟨(k + 1, decide ((DU ((Ax r).nx 2) i).getD k default = (Em ((Ax r).nx (2 + 2 * (i : Int)))))), by dsimp only; omega, by dsimp only; rw [decide_eq_true_eq]; exact ⟨fun z => ⟨k, by omega, z⟩, fun ⟨j, hj, z⟩ => by by_cases e : j = k; (rw [← e]; exact z); (exact absurd ⟨j, by omega, z⟩ hn)⟩⟩, by dsimp only; omega, ?_⟩
       simp -implicitDefEqProofs only [go_sem, hh, Int.reduceAdd, seval]
       simp [BV]
      ·have hn : ∃ j, j < k ∧ (DU ((Ax r).nx 2) i).getD j default = (Em ((Ax r).nx (2 + 2 * (i : Int)))) := hb2.1 rfl
       simp -implicitDefEqProofs only [hlt2, decide_true, tn, go_sem, hh, Int.reduceAdd, seval]
       with_reducible repeat' (first | apply ai | intro _ | ((first | apply s1 | apply s2 | apply s3 | apply s4) <;> intro hb <;> simp -implicitDefEqProofs only [hb, go_sem, hh, Int.reduceAdd, seval] <;> try simp only [qz] at hb))
       all_goals (try simp only [maxLen, tn] at *)
       all_goals first | rfl | omega | decide | assumption | skip
       refine ⟨⟨(k + 1, true), by dsimp only; omega, by dsimp only; exact ⟨fun _ => hn.elim fun j z => ⟨j, by omega, z.2⟩, fun _ => rfl⟩⟩, by dsimp only; omega, ?_⟩
       simp -implicitDefEqProofs only [go_sem, hh, Int.reduceAdd, seval]
       try simp
     ·have hE : b = true ↔ (Em ((Ax r).nx (2 + 2 * (i : Int)))) ∈ DU ((Ax r).nx 2) i := hb2.trans ⟨fun ⟨j, hj, z⟩ => z ▸ AB (by omega), fun z => Classical.byContradiction fun f => by
        have := BH (P := fun x : Ad => ¬ x = (Em ((Ax r).nx (2 + 2 * (i : Int))))) (xs := DU ((Ax r).nx 2) i) (fun j hj e => f ⟨j, by omega, e⟩) _ z
        exact this rfl⟩
      cases b
      ·have hm : ¬ Em (((Ax r).nx 2).nx (2 * (i : Int))) ∈ DU ((Ax r).nx 2) i := fun z => by rw [Bv] at z; have := hE.2 z; cases this
       have hs := gm hm
       simp -implicitDefEqProofs only [hlt2, decide_false, go_sem, hh, Int.reduceAdd, seval]
       with_reducible repeat' (first | apply ai | intro _ | ((first | apply s1 | apply s2 | apply s3 | apply s4) <;> intro hb <;> simp -implicitDefEqProofs only [hb, go_sem, hh, Int.reduceAdd, seval] <;> try simp only [qz] at hb))
       all_goals (try simp only [maxLen, tn] at *)
       all_goals first | rfl | omega | decide | assumption | skip
       refine Am (Le.renb 1003 2 1053 1907 rfl rfl rfl rfl) (Af ?_)
       simp -implicitDefEqProofs only [go_sem, hh, Int.reduceAdd, seval]
       with_reducible repeat' (first | apply ai | intro _ | ((first | apply s1 | apply s2 | apply s3 | apply s4) <;> intro hb <;> simp -implicitDefEqProofs only [hb, go_sem, hh, Int.reduceAdd, seval] <;> try simp only [qz] at hb))
       all_goals (try simp only [maxLen, tn] at *)
       all_goals first | rfl | omega | decide | assumption | skip
       refine ⟨⟨i + 1, by omega⟩, by dsimp only; omega, ?_⟩
       simp -implicitDefEqProofs only [hs, go_sem, hh, Int.reduceAdd, seval]
       simp [Kc, Bv]
       try omega
      ·have hm : Em (((Ax r).nx 2).nx (2 * (i : Int))) ∈ DU ((Ax r).nx 2) i := by rw [Bv]; exact hE.1 rfl
       have hs := gn hm
       simp -implicitDefEqProofs only [hlt2, decide_false, go_sem, hh, Int.reduceAdd, seval]
       with_reducible repeat' (first | apply ai | intro _ | ((first | apply s1 | apply s2 | apply s3 | apply s4) <;> intro hb <;> simp -implicitDefEqProofs only [hb, go_sem, hh, Int.reduceAdd, seval] <;> try simp only [qz] at hb))
       all_goals (try simp only [maxLen, tn] at *)
       all_goals first | rfl | omega | decide | assumption | skip
       refine Af ?_
       simp -implicitDefEqProofs only [go_sem, hh, Int.reduceAdd, seval]
       with_reducible repeat' (first | apply ai | intro _ | ((first | apply s1 | apply s2 | apply s3 | apply s4) <;> intro hb <;> simp -implicitDefEqProofs only [hb, go_sem, hh, Int.reduceAdd, seval] <;> try simp only [qz] at hb))
       all_goals (try simp only [maxLen, tn] at *)
       all_goals first | rfl | omega | decide | assumption | skip
       refine ⟨⟨i + 1, by omega⟩, by dsimp only; omega, ?_⟩
       simp -implicitDefEqProofs only [hs, go_sem, hh, Int.reduceAdd, seval]
       try simp
       try omega
   ·have hz : (i : Int) = JE r := by omega
    have hz2 : (JE r).toNat = i := by omega
    have e1 : PU r = (Ax r).nx (2 + 2 * (i : Int)) := by unfold PU; rw [hz]
    have e2 : YY r = ⟨nK, DU ((Ax r).nx 2) i, JB (r.nx 3) (TJ r)⟩ := by unfold YY; rw [hf, hz2]
    rw [e1, e2]
    simp -implicitDefEqProofs only [hlt, decide_false, go_sem, hh, Int.reduceAdd, seval]
    with_reducible repeat' (first | apply ai | intro _ | ((first | apply s1 | apply s2 | apply s3 | apply s4) <;> intro hb <;> simp -implicitDefEqProofs only [hb, go_sem, hh, Int.reduceAdd, seval] <;> try simp only [qz] at hb))
    all_goals (try simp only [maxLen, tn] at *)
    all_goals first | rfl | omega | decide | assumption | skip
 ·have hf : MS r = Em r := if_neg q
  simp -implicitDefEqProofs only [Tryz.f189, q, decide_false, go_sem, hh, Int.reduceAdd, seval]
  with_reducible repeat' (first | apply ai | intro _ | ((first | apply s1 | apply s2 | apply s3 | apply s4) <;> intro hb <;> simp -implicitDefEqProofs only [hb, go_sem, hh, Int.reduceAdd, seval] <;> try simp only [qz] at hb))
  all_goals (try simp only [maxLen, tn] at *)
  all_goals first | rfl | omega | decide | assumption | skip
  refine Am (Le.nilb 1003 2 1907 true 2 rfl rfl rfl) (Af ?_)
  simp -implicitDefEqProofs only [go_sem, hh, Int.reduceAdd, seval]
  with_reducible repeat' (first | apply ai | intro _ | ((first | apply s1 | apply s2 | apply s3 | apply s4) <;> intro hb <;> simp -implicitDefEqProofs only [hb, go_sem, hh, Int.reduceAdd, seval] <;> try simp only [qz] at hb))
  all_goals (try simp only [maxLen, tn] at *)
  all_goals first | rfl | omega | decide | assumption | skip
  refine AC [] (ι := {i : Nat // (i : Int) ≤ JE r}) (fun ⟨i, _⟩ => ⟨[(0, .pb 1900 0), (2, .pb 1002 0), (3, .pb 1003 0), (4, .t (.v (.int .i64 (JE r - i))))], [(1900, some (.box [.t (.sl 1 ((Ax r).b.map CO)), .t (.v (.int .i64 ((Ax r).p + (2 + 2 * i))))])), (1002, some (.box [.t (.v (.string ⟨#[]⟩)), .t (.v (.string ⟨#[]⟩)), .nil, .nil])), (1003, some (.box [.t (.v (.string (Em r).user)), .t (.v (.string (Em r).domain)), .h 1907, .h 1014])), (1014, some (.arr true 1 ((JB (r.nx 3) (TJ r)).map AG))), (1907, some (.arr true 2 ((DU ((Ax r).nx 2) i).map Ap)))]⟩) (fun p => (JE r).toNat - p.1) ⟨0, by omega⟩ rfl ?_ ?_
  ·simp -implicitDefEqProofs only [go_sem, hh, Int.reduceAdd, seval]
   simp [DU]
  ·rintro ⟨i, hi⟩
   dsimp only
   have hlen := Jn ((Ax r).nx 2) i
   by_cases hlt : JE r - (i : Int) > 0
   ·simp -implicitDefEqProofs only [hlt, decide_true, tn, go_sem, hh, Int.reduceAdd, seval]
    with_reducible repeat' (first | apply ai | intro _ | ((first | apply s1 | apply s2 | apply s3 | apply s4) <;> intro hb <;> simp -implicitDefEqProofs only [hb, go_sem, hh, Int.reduceAdd, seval] <;> try simp only [qz] at hb))
    all_goals (try simp only [maxLen, tn] at *)
    all_goals first | rfl | omega | decide | assumption | skip
    refine AC [] (ι := {p : Nat × Bool // p.1 ≤ (DU ((Ax r).nx 2) i).length ∧ (p.2 = true ↔ ∃ j, j < p.1 ∧ (DU ((Ax r).nx 2) i).getD j default = (Em ((Ax r).nx (2 + 2 * (i : Int)))))}) (fun ⟨⟨k, b⟩, _⟩ => ⟨[(0, .pb 1900 0), (2, .pb 1002 0), (3, .pb 1003 0), (4, .t (.v (.int .i64 (JE r - i)))), (5, .pb 1005 0), (6, .t (.v (.bool b))), (7, .t (.v (.int .i64 k)))], [(1900, some (.box [.t (.sl 1 ((Ax r).b.map CO)), .t (.v (.int .i64 ((Ax r).p + (4 + 2 * i))))])), (1002, some (.box [.t (.v (.string ⟨#[]⟩)), .t (.v (.string ⟨#[]⟩)), .nil, .nil])), (1003, some (.box [.t (.v (.string (Em r).user)), .t (.v (.string (Em r).domain)), .h 1907, .h 1014])), (1005, some (.box ((Ap (Em ((Ax r).nx (2 + 2 * (i : Int))))).map .t))), (1014, some (.arr true 1 ((JB (r.nx 3) (TJ r)).map AG))), (1907, some (.arr true 2 ((DU ((Ax r).nx 2) i).map Ap)))]⟩) (fun p => (DU ((Ax r).nx 2) i).length - p.1.1) ⟨(0, false), by simp, by simp⟩ rfl ?_ ?_
    ·simp -implicitDefEqProofs only [go_sem, hh, Int.reduceAdd, seval]
     try simp
     try omega
    ·rintro ⟨⟨k, b⟩, hk, hb2⟩
     dsimp only at hk hb2 ⊢
     by_cases hlt2 : (k : Int) < (DU ((Ax r).nx 2) i).length
     ·cases b
      ·have hn : ¬ ∃ j, j < k ∧ (DU ((Ax r).nx 2) i).getD j default = (Em ((Ax r).nx (2 + 2 * (i : Int)))) := fun z => by have := hb2.2 z; cases this
       simp -implicitDefEqProofs only [hlt2, decide_true, tn, go_sem, hh, Int.reduceAdd, seval]
       with_reducible repeat' (first | apply ai | intro _ | ((first | apply s1 | apply s2 | apply s3 | apply s4) <;> intro hb <;> simp -implicitDefEqProofs only [hb, go_sem, hh, Int.reduceAdd, seval] <;> try simp only [qz] at hb))
       all_goals (try simp only [maxLen, tn, y0, y6] at *)
       all_goals first | rfl | omega | decide | assumption | skip
       refine ⟨⟨(k + 1, decide ((DU ((Ax r).nx 2) i).getD k default = (Em ((Ax r).nx (2 + 2 * (i : Int)))))), by dsimp only; omega, by dsimp only; rw [decide_eq_true_eq]; exact ⟨fun z => ⟨k, by omega, z⟩, fun ⟨j, hj, z⟩ => by by_cases e : j = k; (rw [← e]; exact z); (exact absurd ⟨j, by omega, z⟩ hn)⟩⟩, by dsimp only; omega, ?_⟩
       simp -implicitDefEqProofs only [go_sem, hh, Int.reduceAdd, seval]
       simp [BV]
      ·have hn : ∃ j, j < k ∧ (DU ((Ax r).nx 2) i).getD j default = (Em ((Ax r).nx (2 + 2 * (i : Int)))) := hb2.1 rfl
       simp -implicitDefEqProofs only [hlt2, decide_true, tn, go_sem, hh, Int.reduceAdd, seval]
       with_reducible repeat' (first | apply ai | intro _ | ((first | apply s1 | apply s2 | apply s3 | apply s4) <;> intro hb <;> simp -implicitDefEqProofs only [hb, go_sem, hh, Int.reduceAdd, seval] <;> try simp only [qz] at hb))
       all_goals (try simp only [maxLen, tn] at *)
       all_goals first | rfl | omega | decide | assumption | skip
       refine ⟨⟨(k + 1, true), by dsimp only; omega, by dsimp only; exact ⟨fun _ => hn.elim fun j z => ⟨j, by omega, z.2⟩, fun _ => rfl⟩⟩, by dsimp only; omega, ?_⟩
       simp -implicitDefEqProofs only [go_sem, hh, Int.reduceAdd, seval]
       try simp
     ·have hE : b = true ↔ (Em ((Ax r).nx (2 + 2 * (i : Int)))) ∈ DU ((Ax r).nx 2) i := hb2.trans ⟨fun ⟨j, hj, z⟩ => z ▸ AB (by omega), fun z => Classical.byContradiction fun f => by
        have := BH (P := fun x : Ad => ¬ x = (Em ((Ax r).nx (2 + 2 * (i : Int))))) (xs := DU ((Ax r).nx 2) i) (fun j hj e => f ⟨j, by omega, e⟩) _ z
        exact this rfl⟩
      cases b
      ·have hm : ¬ Em (((Ax r).nx 2).nx (2 * (i : Int))) ∈ DU ((Ax r).nx 2) i := fun z => by rw [Bv] at z; have := hE.2 z; cases this
       have hs := gm hm
       simp -implicitDefEqProofs only [hlt2, decide_false, go_sem, hh, Int.reduceAdd, seval]
       with_reducible repeat' (first | apply ai | intro _ | ((first | apply s1 | apply s2 | apply s3 | apply s4) <;> intro hb <;> simp -implicitDefEqProofs only [hb, go_sem, hh, Int.reduceAdd, seval] <;> try simp only [qz] at hb))
       all_goals (try simp only [maxLen, tn] at *)
       all_goals first | rfl | omega | decide | assumption | skip
       refine Am (Le.renb 1003 2 1053 1907 rfl rfl rfl rfl) (Af ?_)
       simp -implicitDefEqProofs only [go_sem, hh, Int.reduceAdd, seval]
       with_reducible repeat' (first | apply ai | intro _ | ((first | apply s1 | apply s2 | apply s3 | apply s4) <;> intro hb <;> simp -implicitDefEqProofs only [hb, go_sem, hh, Int.reduceAdd, seval] <;> try simp only [qz] at hb))
       all_goals (try simp only [maxLen, tn] at *)
       all_goals first | rfl | omega | decide | assumption | skip
       refine ⟨⟨i + 1, by omega⟩, by dsimp only; omega, ?_⟩
       simp -implicitDefEqProofs only [hs, go_sem, hh, Int.reduceAdd, seval]
       simp [Kc, Bv]
       try omega
      ·have hm : Em (((Ax r).nx 2).nx (2 * (i : Int))) ∈ DU ((Ax r).nx 2) i := by rw [Bv]; exact hE.1 rfl
       have hs := gn hm
       simp -implicitDefEqProofs only [hlt2, decide_false, go_sem, hh, Int.reduceAdd, seval]
       with_reducible repeat' (first | apply ai | intro _ | ((first | apply s1 | apply s2 | apply s3 | apply s4) <;> intro hb <;> simp -implicitDefEqProofs only [hb, go_sem, hh, Int.reduceAdd, seval] <;> try simp only [qz] at hb))
       all_goals (try simp only [maxLen, tn] at *)
       all_goals first | rfl | omega | decide | assumption | skip
       refine Af ?_
       simp -implicitDefEqProofs only [go_sem, hh, Int.reduceAdd, seval]
       with_reducible repeat' (first | apply ai | intro _ | ((first | apply s1 | apply s2 | apply s3 | apply s4) <;> intro hb <;> simp -implicitDefEqProofs only [hb, go_sem, hh, Int.reduceAdd, seval] <;> try simp only [qz] at hb))
       all_goals (try simp only [maxLen, tn] at *)
       all_goals first | rfl | omega | decide | assumption | skip
       refine ⟨⟨i + 1, by omega⟩, by dsimp only; omega, ?_⟩
       simp -implicitDefEqProofs only [hs, go_sem, hh, Int.reduceAdd, seval]
       try simp
       try omega
   ·have hz : (i : Int) = JE r := by omega
    have hz2 : (JE r).toNat = i := by omega
    have e1 : PU r = (Ax r).nx (2 + 2 * (i : Int)) := by unfold PU; rw [hz]
    have e2 : YY r = ⟨Em r, DU ((Ax r).nx 2) i, JB (r.nx 3) (TJ r)⟩ := by unfold YY; rw [hf, hz2]
    rw [e1, e2]
    simp -implicitDefEqProofs only [hlt, decide_false, go_sem, hh, Int.reduceAdd, seval]
    with_reducible repeat' (first | apply ai | intro _ | ((first | apply s1 | apply s2 | apply s3 | apply s4) <;> intro hb <;> simp -implicitDefEqProofs only [hb, go_sem, hh, Int.reduceAdd, seval] <;> try simp only [qz] at hb))
    all_goals (try simp only [maxLen, tn] at *)
    all_goals first | rfl | omega | decide | assumption | skip
end
instance (n : Int) : Decidable (Ki n) := by unfold Ki; infer_instance
theorem ah (s : ByteArray) : SC s ↔ (∀ b ∈ bl s, Ki (b.toNat : Int)) ∧ 1 ≤ s.size ∧ s.size ≤ 8 :=
 ⟨fun h => ⟨fun b hb => by
   obtain ⟨j, hj, e⟩ := HP hb
   rw [← e]; exact h.1 j hj, h.2⟩, fun h => ⟨fun j hj => by
   obtain ⟨b, hb, e⟩ := PQ hj
   rw [e]; exact h.1 b hb, h.2⟩⟩
instance (s : ByteArray) : Decidable (SC s) := decidable_of_iff _ (ah s).symm
instance (s : ByteArray) : Decidable (D3 s) := by unfold D3; infer_instance
instance (s : ByteArray) : Decidable (H0 s) := decidable_of_iff _ (HF s).symm
theorem cU : ∀ s ∈ tD, D3 s := by decide +kernel
theorem ec : ∀ s ∈ wc, SC s := by decide +kernel
theorem dD : ∀ s ∈ u7, H0 s := by decide +kernel
theorem Qb {r : Rd} (h : 0 ≤ r.p) (h1 : r.p ≤ 999999990) : BL (Em r) :=
 ⟨ec _ (Hb h (by omega) (by decide)), cU _ (Hb (r := r.nx 1) (by rw [AO]; omega) (by rw [AO]; omega) (by decide))⟩
theorem dF {r : Rd} (h : 0 ≤ r.p) (h1 : r.p ≤ 999999990) : H0 (dE r) := dD _ (Hb h (by omega) (by decide))
theorem bb {r : Rd} {m : Int} (h : 0 ≤ r.p) (h1 : r.p ≤ 999999900) (h2 : 0 ≤ m) (h3 : m ≤ 12) : Ch (JB r m) := by
 have hb := CJ (r := r) (n := m + 1) h (by omega)
 unfold JB
 refine ⟨fun s hs => ?_, by rw [On]; omega⟩
 unfold Lm at hs
 obtain ⟨j, hj, rfl⟩ := List.mem_map.1 hs
 rw [List.mem_range] at hj
 exact dF (by rw [AO, AO]; omega) (by rw [AO, AO]; omega)
theorem Nc {r : Rd} (h : 0 ≤ r.p) (h1 : r.p ≤ 999999800) : DA (YY r) := by
 have h2 := YZ h (by omega)
 have h3 := Nd h (by omega)
 have h4 := YX h (by omega)
 obtain ⟨k, hk⟩ : ∃ k, (JE r).toNat = k + 1 := ⟨(JE r).toNat - 1, by omega⟩
 refine ⟨fun a ha => ?_, Ih _ _, ?_, ⟨?_, ?_⟩, bb (by rw [AO]; omega) (by rw [AO]; omega) (by omega) (by omega)⟩
 ·obtain ⟨j, hj, rfl⟩ := N8 ha
  exact Qb (by rw [AO, AO]; omega) (by rw [AO, AO]; omega)
 ·show BL (MS r) ∨ AN (MS r)
  unfold MS; split
  ·exact .inr ⟨rfl, rfl⟩
  ·exact .inl (Qb h (by omega))
 ·show 1 ≤ (DU _ (JE r).toNat).length
  rw [hk]; exact oY _ _
 ·have := Jn ((Ax r).nx 2) (JE r).toNat
  show (DU _ (JE r).toNat).length ≤ 4
  omega
theorem CT {a : Ad} (h : BL a ∨ AN a) : H6 a := by
 rcases h with h | h
 ·have h1 := (JU h.1).2
  have h2 := (Ci h.2).2
  exact ⟨by show a.user.size ≤ 1048576; omega, by show a.domain.size ≤ 1048576; omega⟩
 ·obtain ⟨u, d⟩ := a
  obtain ⟨h1, h2⟩ := h
  dsimp only at h1 h2
  subst h1; subst h2
  exact ⟨by show 0 ≤ 1048576; decide, by show 0 ≤ 1048576; decide⟩
theorem HC {b : List ByteArray} (h : Ch b) : HA Bg b := ⟨by have := h.2; omega, fun s hs => by
 have := (h.1 s hs).2
 show s.size ≤ 1048576; omega⟩
theorem JV {m : Ml} (h : DA m) : Lh m := ⟨CT h.2.2.1, ⟨by have := h.2.2.2.1.2; omega, fun a ha => CT (.inl (h.1 a ha))⟩, HC h.2.2.2.2⟩
theorem ae {x : Im} (h : Dk x) : GQ x := ⟨CT h.2.2.2.1, ⟨by have := h.2.2.2.2.1.2; omega, fun r hr => CT (.inl (h.1 r hr).1)⟩, HC h.2.2.2.2.2⟩
theorem HG {s : Sp} (h : CM s) : Gf s := ⟨by have := h.2.2.2; omega, fun x hx => ae (h.1 x hx).1⟩
structure Ds where
 s : Sp
 w : Int
 r : Rd
def Jc (z : Ds) : Int := z.w + Ah z.r 5
def GX (z : Ds) : Prop := (z.s.items.length : Int) = 0 ∨ Ah (z.r.nx 1) 2 = 0
def RB (z : Ds) : Rd := if (z.s.items.length : Int) = 0 then z.r.nx 1 else z.r.nx 2
def RA (z : Ds) : Int := Ah (z.r.nx 2) z.s.items.length
def cZ (z : Ds) : Int := Ah (z.r.nx 3) (z.s.items.getD (RA z).toNat default).to.length
open Classical in
noncomputable def CK (z : Ds) : Ds :=
 if GX z then (if CD z.s then ⟨Lj z.s (YY (RB z)) (Jc z), Jc z, PU (RB z)⟩ else ⟨z.s, Jc z, RB z⟩)
 else if Ah (z.r.nx 4) 2 = 0 then ⟨DF z.s (RA z).toNat (cZ z).toNat, Jc z, z.r.nx 5⟩
 else ⟨(Jy z.s (RA z).toNat (cZ z).toNat (Jc z)).1, Jc z, z.r.nx 5⟩
noncomputable def Jb (z : Ds) : Nat → Ds
 | 0 => z
 | n + 1 => CK (Jb z n)
theorem Ka {z : Ds} (h : GX z) (h2 : CD z.s) : CK z = ⟨Lj z.s (YY (RB z)) (Jc z), Jc z, PU (RB z)⟩ := by unfold CK; rw [if_pos h, if_pos h2]
theorem Kb {z : Ds} (h : GX z) (h2 : ¬ CD z.s) : CK z = ⟨z.s, Jc z, RB z⟩ := by unfold CK; rw [if_pos h, if_neg h2]
theorem O7 {z : Ds} (h : ¬ GX z) (h2 : Ah (z.r.nx 4) 2 = 0) : CK z = ⟨DF z.s (RA z).toNat (cZ z).toNat, Jc z, z.r.nx 5⟩ := by unfold CK; rw [if_neg h, if_pos h2]
theorem O8 {z : Ds} (h : ¬ GX z) (h2 : ¬ Ah (z.r.nx 4) 2 = 0) : CK z = ⟨(Jy z.s (RA z).toNat (cZ z).toNat (Jc z)).1, Jc z, z.r.nx 5⟩ := by unfold CK; rw [if_neg h, if_neg h2]
structure QG (r : Rd) (i : Nat) (z : Ds) : Prop where
 sp : CM z.s
 w0 : 0 ≤ z.w
 w1 : z.w ≤ 4 * i
 p0 : r.p ≤ z.r.p
 p1 : z.r.p ≤ r.p + 1 + 30 * i
 b : z.r.b = r.b
theorem an {s : Sp} {i k : Nat} {w : Int} (h : CM s) (hi : i < s.items.length) (hk : k < (s.items.getD i default).to.length) (hw : 0 ≤ w) : CM (Jy s i k w).1 := by
 unfold Jy; split
 ·exact h
 ·exact MR h hi hk (by assumption) hw
theorem fp {r : Rd} {i : Nat} {z : Ds} (h : QG r i z) (h0 : 0 ≤ r.p) (h1 : r.p ≤ 999990000) (hi : i ≤ 9) (ha : ¬ GX z) : (0 ≤ RA z ∧ RA z < z.s.items.length) ∧ 0 ≤ cZ z ∧ cZ z < (z.s.items.getD (RA z).toNat default).to.length := by
 have a1 := h.p0; have a2 := h.p1
 have hb := CJ (r := z.r.nx 2) (n := z.s.items.length) (by rw [AO]; omega) (by rw [AO]; omega)
 have hc := CJ (r := z.r.nx 3) (n := (z.s.items.getD (RA z).toNat default).to.length) (by rw [AO]; omega) (by rw [AO]; omega)
 have hl : ¬ (z.s.items.length : Int) = 0 := fun e => ha (.inl e)
 have q1 : 0 ≤ RA z ∧ RA z < z.s.items.length := by unfold RA; omega
 have hx := (h.sp.1 _ (AB (xs := z.s.items) (j := (RA z).toNat) (by omega))).1.2.2.2.2.1.1
 exact ⟨q1, by unfold cZ; omega, by unfold cZ; omega⟩
theorem fk {r : Rd} {i : Nat} {z : Ds} (h : QG r i z) : (RB z).b = r.b ∧ z.r.p + 1 ≤ (RB z).p ∧ (RB z).p ≤ z.r.p + 2 := by
 unfold RB; split
 ·exact ⟨h.b, by rw [AO]; omega, by rw [AO]; omega⟩
 ·exact ⟨h.b, by rw [AO]; omega, by rw [AO]; omega⟩
theorem fm {r : Rd} {i : Nat} {z : Ds} (h : QG r i z) (h0 : 0 ≤ r.p) (h1 : r.p ≤ 999990000) (hi : i ≤ 9) : z.w ≤ Jc z ∧ Jc z ≤ z.w + 4 := by
 have a1 := h.p0; have a2 := h.p1
 have hb := CJ (r := z.r) (n := 5) (by omega) (by omega)
 unfold Jc; omega
theorem ca {r : Rd} {i : Nat} {z : Ds} (h : QG r i z) (h0 : 0 ≤ r.p) (h1 : r.p ≤ 999990000) (hi : i ≤ 9) : QG r (i + 1) (CK z) := by
 have a1 := h.p0; have a2 := h.p1; have a3 := h.w0; have a4 := h.w1
 have hw := fm h h0 h1 hi
 have hR := fk h
 by_cases ha : GX z
 ·by_cases hr : CD z.s
  ·rw [Ka ha hr]
   have hm := gO (r := RB z) (by omega) (by omega)
   exact ⟨IB h.sp (Nc (by omega) (by omega)) ⟨by omega, by omega⟩ hr, by show 0 ≤ Jc z; omega, by show Jc z ≤ _; omega, by show r.p ≤ (PU _).p; omega, by show (PU _).p ≤ _; omega, by show (PU _).b = _; rw [hm.1, hR.1]⟩
  ·rw [Kb ha hr]
   exact ⟨h.sp, by show 0 ≤ Jc z; omega, by show Jc z ≤ _; omega, by show r.p ≤ (RB z).p; omega, by show (RB z).p ≤ _; omega, hR.1⟩
 ·obtain ⟨⟨i0, i1⟩, k0, k1⟩ := fp h h0 h1 hi ha
  by_cases hd : Ah (z.r.nx 4) 2 = 0
  ·rw [O7 ha hd]
   exact ⟨EZ h.sp (by omega) (by omega), by show 0 ≤ Jc z; omega, by show Jc z ≤ _; omega, by show r.p ≤ z.r.p + 5; omega, by show z.r.p + 5 ≤ _; omega, h.b⟩
  ·rw [O8 ha hd]
   exact ⟨an h.sp (by omega) (by omega) (by omega), by show 0 ≤ Jc z; omega, by show Jc z ≤ _; omega, by show r.p ≤ z.r.p + 5; omega, by show z.r.p + 5 ≤ _; omega, h.b⟩
def KZ (r : Rd) : Ds := ⟨⟨0, []⟩, 0, r.nx 1⟩
theorem Vh : CM ⟨0, []⟩ := ⟨fun x hx => (by cases hx), fun j _ hj => absurd hj (Nat.not_lt_zero _), ⟨by decide, by decide⟩, Nat.zero_le _⟩
theorem NO {r : Rd} (h0 : 0 ≤ r.p) (h1 : r.p ≤ 999990000) : ∀ i : Nat, i ≤ 9 → QG r i (Jb (KZ r) i)
 | 0, _ => ⟨Vh, Int.le_refl 0, Int.le_refl 0, by show r.p ≤ r.p + 1; omega, by show r.p + 1 ≤ _; omega, rfl⟩
 | i + 1, h => ca (NO h0 h1 i (by omega)) h0 h1 (by omega)
noncomputable def EP (r : Rd) : Sp := (Jb (KZ r) (Ah r 9).toNat).s
noncomputable def Gc (r : Rd) : Rd := (Jb (KZ r) (Ah r 9).toNat).r
theorem ZP {r : Rd} (h0 : 0 ≤ r.p) (h1 : r.p ≤ 999990000) : CM (EP r) ∧ (Gc r).b = r.b ∧ r.p ≤ (Gc r).p ∧ (Gc r).p ≤ r.p + 300 := by
 have hb := CJ (r := r) (n := 9) h0 (by omega)
 have h := NO h0 h1 (Ah r 9).toNat (by omega)
 exact ⟨h.sp, h.b, h.p0, by have := h.p1; unfold Gc; omega⟩
theorem tH {z : Ds} : z.w + Ah z.r 5 = Jc z := rfl
theorem tF {z : Ds} : Ah (z.r.nx 2) (z.s.items.length : Int) = RA z := rfl
theorem tG {z : Ds} : Ah (z.r.nx 3) ((z.s.items.getD (RA z).toNat default).to.length : Int) = cZ z := rfl
def jz : Mt := H1 (lc ER l0) (fun p => 0 ≤ p.1.p ∧ p.1.p ≤ 999980000) (fun p => ([ER.enc (Gc p.1)], U5 (EP p.1)))
section
attribute [local go_sem] IJ KO WP Qn lE sn sm AO B2 BK BM BT Bv Cy Bp Bt lm List.length_append List.length_cons List.length_nil List.map_append List.map_nil Nat.zero_add List.nil_append AS.opn AS.cls AS.nilb AS.renb AS.up Bool.not_false Bool.not_true List.set_set List.set_cons_zero List.set_cons_succ List.set_nil List.mem_singleton forall_eq tH tF tG dt AK AM LR KX List.take_length List.drop_zero List.length_take List.length_drop List.map_cons
set_option maxHeartbeats 6400000 in
theorem qC {G : Gt} (hG : Ac G) (hh : G.e 71 = AW IJ ∧ G.e 147 = AA 0 KO ∧ G.e 189 = AW WP ∧ G.e 148 = AA 1 Qn ∧ G.e 92 = AA 1 lE ∧ G.e 93 = AA 1 sn ∧ G.e 91 = AA 0 sm) : Gd G 160 (AW jz) := by
 refine Ke (dp := fun n => !(Nat.beq n 100003)) (fn := Tryz.f160) (n := 1) rfl hG ?_
 rintro ⟨r, ⟨⟩⟩ hpre
 obtain ⟨h1, h2⟩ := hpre
 try dsimp only at h1 h2 ⊢
 have hb := CJ (r := r) (n := 9) h1 (by omega)
 obtain ⟨n, hn⟩ : ∃ n : Nat, n = (Ah r 9).toNat := ⟨_, rfl⟩
 have hn2 : Ah r 9 = n := by omega
 have e1 : Gc r = (Jb (KZ r) n).r := by unfold Gc; rw [← hn]
 have e2 : EP r = (Jb (KZ r) n).s := by unfold EP; rw [← hn]
 rw [e1, e2]
 simp -implicitDefEqProofs only [Tryz.f160, hn2, go_sem, hh, Int.reduceAdd, seval]
 with_reducible repeat' (first | apply ai | intro _ | ((first | apply s1 | apply s2 | apply s3 | apply s4) <;> intro hb <;> simp -implicitDefEqProofs only [hb, go_sem, hh, Int.reduceAdd, seval] <;> try simp only [qz] at hb))
 all_goals (try simp only [maxLen, tn] at *)
 all_goals first | rfl | omega | decide | assumption | skip
 refine Am (Le.nilb 1003 1 1907 true 5 rfl rfl rfl) (Am (Le.frzL [1907]) (Af ?_))
 simp -implicitDefEqProofs only [hn2, go_sem, hh, Int.reduceAdd, seval]
 with_reducible repeat' (first | apply ai | intro _ | ((first | apply s1 | apply s2 | apply s3 | apply s4) <;> intro hb <;> simp -implicitDefEqProofs only [hb, go_sem, hh, Int.reduceAdd, seval] <;> try simp only [qz] at hb))
 all_goals (try simp only [maxLen, tn] at *)
 all_goals first | rfl | omega | decide | assumption | skip
 refine AC [] (ι := {i : Nat // i ≤ n}) (fun ⟨i, _⟩ => ⟨[(0, .pb 1900 0), (2, .pb 1002 0), (3, .pb 1003 0), (4, .t (.v (.int .i64 (Jb (KZ r) i).w))), (5, .t (.v (.int .i64 (n - i))))], [(1900, some (.box [.t (.sl 1 ((Jb (KZ r) i).r.b.map CO)), .t (.v (.int .i64 (Jb (KZ r) i).r.p))])), (1002, some (.box [.t (.v (.int .i64 0)), .nil])), (1003, some (.box ((FG (Jb (KZ r) i).s).map .t)))]⟩) (fun p => n - p.1) ⟨0, by omega⟩ rfl ?_ ?_
 ·simp -implicitDefEqProofs only [go_sem, hh, Int.reduceAdd, seval]
  simp [Jb, KZ, B2, AO]
  try rfl
 ·rintro ⟨i, hi⟩
  dsimp only
  by_cases hlt : (n : Int) - i > 0
  ·obtain ⟨z, hz⟩ : ∃ z, z = Jb (KZ r) i := ⟨_, rfl⟩
   have hok : QG r i z := by rw [hz]; exact NO h1 (by omega) i (by omega)
   have a1 := hok.p0; have a2 := hok.p1; have a3 := hok.w0; have a4 := hok.w1
   have hw := fm hok h1 (by omega) (by omega)
   have hR := fk hok
   have zs := HG hok.sp
   have zo := hok.sp
   rw [← hz]
   by_cases L : (z.s.items.length : Int) = 0
   ·have ha : GX z := .inl L
    have eR : RB z = z.r.nx 1 := if_pos L
    by_cases hr : CD z.s
    ·have b1 := An hr
     have zm := JV (Nc (r := z.r.nx 1) (by rw [AO]; omega) (by rw [AO]; omega))
     have hs : Jb (KZ r) (i + 1) = _ := (show Jb (KZ r) (i + 1) = CK z by rw [hz]; rfl).trans (eR ▸ Ka ha hr)
     simp -implicitDefEqProofs only [hlt, L, b1, eq_self, decide_true, decide_false, tn, go_sem, hh, Int.reduceAdd, seval]
     with_reducible repeat' (first | apply ai | intro _ | ((first | apply s1 | apply s2 | apply s3 | apply s4) <;> intro hb <;> simp -implicitDefEqProofs only [hb, go_sem, hh, Int.reduceAdd, seval] <;> try simp only [qz] at hb))
     all_goals (try simp only [maxLen, tn] at *)
     all_goals first | rfl | omega | decide | assumption | skip
     refine ⟨⟨i + 1, by omega⟩, by dsimp only; omega, ?_⟩
     simp -implicitDefEqProofs only [hs, go_sem, hh, Int.reduceAdd, seval]
     try simp
     try omega
    ·have b1 := AQ hr
     have hs : Jb (KZ r) (i + 1) = _ := (show Jb (KZ r) (i + 1) = CK z by rw [hz]; rfl).trans (eR ▸ Kb ha hr)
     simp -implicitDefEqProofs only [hlt, L, b1, eq_self, decide_true, decide_false, tn, go_sem, hh, Int.reduceAdd, seval]
     with_reducible repeat' (first | apply ai | intro _ | ((first | apply s1 | apply s2 | apply s3 | apply s4) <;> intro hb <;> simp -implicitDefEqProofs only [hb, go_sem, hh, Int.reduceAdd, seval] <;> try simp only [qz] at hb))
     all_goals (try simp only [maxLen, tn] at *)
     all_goals first | rfl | omega | decide | assumption | skip
     refine ⟨⟨i + 1, by omega⟩, by dsimp only; omega, ?_⟩
     simp -implicitDefEqProofs only [hs, go_sem, hh, Int.reduceAdd, seval]
     try simp
     try omega
   ·by_cases Q : Ah (z.r.nx 1) 2 = 0
    ·have ha : GX z := .inr Q
     have eR : RB z = z.r.nx 2 := if_neg L
     by_cases hr : CD z.s
     ·have b1 := An hr
      have zm := JV (Nc (r := z.r.nx 2) (by rw [AO]; omega) (by rw [AO]; omega))
      have hs : Jb (KZ r) (i + 1) = _ := (show Jb (KZ r) (i + 1) = CK z by rw [hz]; rfl).trans (eR ▸ Ka ha hr)
      simp -implicitDefEqProofs only [hlt, L, Q, b1, eq_self, decide_true, decide_false, tn, go_sem, hh, Int.reduceAdd, seval]
      with_reducible repeat' (first | apply ai | intro _ | ((first | apply s1 | apply s2 | apply s3 | apply s4) <;> intro hb <;> simp -implicitDefEqProofs only [hb, go_sem, hh, Int.reduceAdd, seval] <;> try simp only [qz] at hb))
      all_goals (try simp only [maxLen, tn] at *)
      all_goals first | rfl | omega | decide | assumption | skip
      refine ⟨⟨i + 1, by omega⟩, by dsimp only; omega, ?_⟩
      simp -implicitDefEqProofs only [hs, go_sem, hh, Int.reduceAdd, seval]
      try simp
      try omega
     ·have b1 := AQ hr
      have hs : Jb (KZ r) (i + 1) = _ := (show Jb (KZ r) (i + 1) = CK z by rw [hz]; rfl).trans (eR ▸ Kb ha hr)
      simp -implicitDefEqProofs only [hlt, L, Q, b1, eq_self, decide_true, decide_false, tn, go_sem, hh, Int.reduceAdd, seval]
      with_reducible repeat' (first | apply ai | intro _ | ((first | apply s1 | apply s2 | apply s3 | apply s4) <;> intro hb <;> simp -implicitDefEqProofs only [hb, go_sem, hh, Int.reduceAdd, seval] <;> try simp only [qz] at hb))
      all_goals (try simp only [maxLen, tn] at *)
      all_goals first | rfl | omega | decide | assumption | skip
      refine ⟨⟨i + 1, by omega⟩, by dsimp only; omega, ?_⟩
      simp -implicitDefEqProofs only [hs, go_sem, hh, Int.reduceAdd, seval]
      try simp
      try omega
    ·have ha : ¬ GX z := fun f => f.elim L Q
     obtain ⟨⟨i0, i1⟩, k0, k1⟩ := fp hok h1 (by omega) (by omega) ha
     by_cases D : Ah (z.r.nx 4) 2 = 0
     ·skip
      have hs : Jb (KZ r) (i + 1) = _ := (show Jb (KZ r) (i + 1) = CK z by rw [hz]; rfl).trans (O7 ha D)
      simp -implicitDefEqProofs only [hlt, L, Q, D, eq_self, decide_true, decide_false, tn, go_sem, hh, Int.reduceAdd, seval]
      with_reducible repeat' (first | apply ai | intro _ | ((first | apply s1 | apply s2 | apply s3 | apply s4) <;> intro hb <;> simp -implicitDefEqProofs only [hb, go_sem, hh, Int.reduceAdd, seval] <;> try simp only [qz] at hb))
      all_goals (try simp only [maxLen, tn] at *)
      all_goals first | rfl | omega | decide | assumption | skip
      refine ⟨⟨i + 1, by omega⟩, by dsimp only; omega, ?_⟩
      simp -implicitDefEqProofs only [hs, go_sem, hh, Int.reduceAdd, seval]
      try simp
      try omega
     ·skip
      have hs : Jb (KZ r) (i + 1) = _ := (show Jb (KZ r) (i + 1) = CK z by rw [hz]; rfl).trans (O8 ha D)
      simp -implicitDefEqProofs only [hlt, L, Q, D, eq_self, decide_true, decide_false, tn, go_sem, hh, Int.reduceAdd, seval]
      with_reducible repeat' (first | apply ai | intro _ | ((first | apply s1 | apply s2 | apply s3 | apply s4) <;> intro hb <;> simp -implicitDefEqProofs only [hb, go_sem, hh, Int.reduceAdd, seval] <;> try simp only [qz] at hb))
      all_goals (try simp only [maxLen, tn] at *)
      all_goals first | rfl | omega | decide | assumption | skip
      refine ⟨⟨i + 1, by omega⟩, by dsimp only; omega, ?_⟩
      simp -implicitDefEqProofs only [hs, go_sem, hh, Int.reduceAdd, seval]
      try simp
      try omega
  ·have hz : i = n := by omega
   subst hz
   have hok := NO h1 (show r.p ≤ 999990000 by omega) i (by omega)
   have zs := HG hok.sp
   simp -implicitDefEqProofs only [hlt, decide_false, go_sem, hh, Int.reduceAdd, seval]
   with_reducible repeat' (first | apply ai | intro _ | ((first | apply s1 | apply s2 | apply s3 | apply s4) <;> intro hb <;> simp -implicitDefEqProofs only [hb, go_sem, hh, Int.reduceAdd, seval] <;> try simp only [qz] at hb))
   all_goals (try simp only [maxLen, tn] at *)
   all_goals first | rfl | omega | decide | assumption | skip
end
def ZO (s : Sp) (k : Nat) (n : Int) : Sp := ⟨s.last, s.items.set k ⟨n, (s.items.getD k default).frm, (s.items.getD k default).to, (s.items.getD k default).body⟩⟩
def Py (s : Sp) (k : Nat) (l : List Rc) : Sp := ⟨s.last, s.items.set k ⟨(s.items.getD k default).id, (s.items.getD k default).frm, l, (s.items.getD k default).body⟩⟩
def Fv (l : List Rc) (n : Int) : List Rc := l.set 0 ⟨(l.getD 0 default).addr, n, (l.getD 0 default).next⟩
noncomputable def IC (r : Rd) : Int := Ah (Gc r) (EP r).items.length
noncomputable def Lk (r : Rd) : Int := Ah ((Gc r).nx 1) 14
noncomputable def Ll (r : Rd) : Sp × Rd :=
 if ((EP r).items.length : Int) > 0 then
  (if Lk r = 0 then (ZO (EP r) (IC r).toNat (HB ((Gc r).nx 2) [0, 1, 99]), (Gc r).nx 3)
   else if Lk r = 1 then (Py (EP r) (IC r).toNat [], (Gc r).nx 2)
   else if Lk r = 2 then (Py (EP r) (IC r).toNat (Fv ((EP r).items.getD (IC r).toNat default).to (HB ((Gc r).nx 2) [-1, 4])), (Gc r).nx 3)
   else if Lk r = 3 then (⟨HB ((Gc r).nx 2) [-1, 0, 1000, 999], (EP r).items⟩, (Gc r).nx 3)
   else (EP r, (Gc r).nx 2))
 else (EP r, Gc r)
theorem fG {r : Rd} (h : ¬ ((EP r).items.length : Int) > 0) : Ll r = (EP r, Gc r) := if_neg h
theorem fB {r : Rd} (h : ((EP r).items.length : Int) > 0) (c : Lk r = 0) : Ll r = (ZO (EP r) (IC r).toNat (HB ((Gc r).nx 2) [0, 1, 99]), (Gc r).nx 3) := by unfold Ll; rw [if_pos h, if_pos c]
theorem fC {r : Rd} (h : ((EP r).items.length : Int) > 0) (c : Lk r = 1) : Ll r = (Py (EP r) (IC r).toNat [], (Gc r).nx 2) := by unfold Ll; rw [if_pos h, if_neg (by omega), if_pos c]
theorem fD {r : Rd} (h : ((EP r).items.length : Int) > 0) (c : Lk r = 2) : Ll r = (Py (EP r) (IC r).toNat (Fv ((EP r).items.getD (IC r).toNat default).to (HB ((Gc r).nx 2) [-1, 4])), (Gc r).nx 3) := by unfold Ll; rw [if_pos h, if_neg (by omega), if_neg (by omega), if_pos c]
theorem fE {r : Rd} (h : ((EP r).items.length : Int) > 0) (c : Lk r = 3) : Ll r = (⟨HB ((Gc r).nx 2) [-1, 0, 1000, 999], (EP r).items⟩, (Gc r).nx 3) := by unfold Ll; rw [if_pos h, if_neg (by omega), if_neg (by omega), if_neg (by omega), if_pos c]
theorem fF {r : Rd} (h : ((EP r).items.length : Int) > 0) (c : ¬ Lk r = 0 ∧ ¬ Lk r = 1 ∧ ¬ Lk r = 2 ∧ ¬ Lk r = 3) : Ll r = (EP r, (Gc r).nx 2) := by unfold Ll; rw [if_pos h, if_neg c.1, if_neg c.2.1, if_neg c.2.2.1, if_neg c.2.2.2]
theorem CI {s : Sp} {k : Nat} {n : Int} : (s.items.map Ar).set k [.v (.int .i64 n), .v (.string (s.items.getD k default).frm.user), .v (.string (s.items.getD k default).frm.domain), .sl 4 ((s.items.getD k default).to.map BP), .sl 1 ((s.items.getD k default).body.map AG)] = (ZO s k n).items.map Ar := by
 show _ = (s.items.set k _).map Ar
 rw [List.map_set]; rfl
theorem A1 {s : Sp} {k : Nat} {l : List Rc} : (s.items.map Ar).set k [.v (.int .i64 (s.items.getD k default).id), .v (.string (s.items.getD k default).frm.user), .v (.string (s.items.getD k default).frm.domain), .sl 4 (l.map BP), .sl 1 ((s.items.getD k default).body.map AG)] = (Py s k l).items.map Ar := by
 show _ = (s.items.set k _).map Ar
 rw [List.map_set]; rfl
theorem Zi {l : List Rc} {n : Int} : (l.map BP).set 0 [.v (.string (l.getD 0 default).addr.user), .v (.string (l.getD 0 default).addr.domain), .v (.int .i64 n), .v (.int .i64 (l.getD 0 default).next)] = (Fv l n).map BP := by
 unfold Fv
 rw [List.map_set]; rfl
theorem zV : (0 : Int).toNat = 0 := rfl
theorem sT {r : Rd} : Ah (Gc r) ((EP r).items.length : Int) = IC r := rfl
theorem sS {r : Rd} : Ah ((Gc r).nx 1) 14 = Lk r := rfl
theorem Jx {s : Sp} (h : Gf s) {k : Nat} {x : Im} (hx : GQ x) : Gf ⟨s.last, s.items.set k x⟩ := ⟨by show ((s.items.set k x).length : Int) ≤ 1048576; rw [List.length_set]; exact h.1, fun y hy => by
 rcases List.mem_or_eq_of_mem_set hy with hy | rfl
 ·exact h.2 y hy
 ·exact hx⟩
theorem i7 {r : Rd} (h0 : 0 ≤ r.p) (h1 : r.p ≤ 999980000) : Gf (Ll r).1 ∧ (Ll r).2.b = r.b ∧ r.p ≤ (Ll r).2.p ∧ (Ll r).2.p ≤ r.p + 303 := by
 obtain ⟨a1, a2, a3, a4⟩ := ZP h0 (show r.p ≤ 999990000 by omega)
 have zs := HG a1
 by_cases h : ((EP r).items.length : Int) > 0
 ·have hb := CJ (r := Gc r) (n := (EP r).items.length) (by omega) (by omega)
  have hx : GQ ((EP r).items.getD (IC r).toNat default) := zs.2 _ (AB (by unfold IC; omega))
  by_cases c0 : Lk r = 0
  ·rw [fB h c0]; exact ⟨Jx zs ⟨hx.1, hx.2.1, hx.2.2⟩, a2, by rw [AO]; omega, by rw [AO]; omega⟩
  ·by_cases c1 : Lk r = 1
   ·rw [fC h c1]; exact ⟨Jx zs ⟨hx.1, ⟨by show ((0 : Nat) : Int) ≤ 1048576; decide, fun _ q => by cases q⟩, hx.2.2⟩, a2, by rw [AO]; omega, by rw [AO]; omega⟩
   ·by_cases c2 : Lk r = 2
    ·rw [fD h c2]
     refine ⟨Jx zs ⟨hx.1, ⟨?_, fun y hy => ?_⟩, hx.2.2⟩, a2, by rw [AO]; omega, by rw [AO]; omega⟩
     ·show ((Fv _ _).length : Int) ≤ _
      unfold Fv; rw [List.length_set]; exact hx.2.1.1
     ·have hy : y ∈ Fv _ _ := hy
      unfold Fv at hy
      have hl : 0 < ((EP r).items.getD (IC r).toNat default).to.length := (a1.1 _ (AB (xs := (EP r).items) (j := (IC r).toNat) (by unfold IC; omega))).1.2.2.2.2.1.1
      rcases List.mem_or_eq_of_mem_set hy with hy | rfl
      ·exact hx.2.1.2 y hy
      ·have := hx.2.1.2 _ (AB hl)
       exact this
    ·by_cases c3 : Lk r = 3
     ·rw [fE h c3]; exact ⟨zs, a2, by rw [AO]; omega, by rw [AO]; omega⟩
     ·rw [fF h ⟨c0, c1, c2, c3⟩]; exact ⟨zs, a2, by rw [AO]; omega, by rw [AO]; omega⟩
 ·rw [fG h]; exact ⟨zs, a2, a3, by show (Gc r).p ≤ _; omega⟩
def jY : Mt := H1 (lc ER l0) (fun p => 0 ≤ p.1.p ∧ p.1.p ≤ 999980000) (fun p => ([ER.enc (Ll p.1).2], U5 (Ll p.1).1))
section
attribute [local go_sem] jz IJ WV AO B2 BK BM BT Bv Cy Bp Bt lm List.length_append List.length_cons List.length_nil List.map_append List.map_nil Nat.zero_add List.nil_append AS.opn AS.cls AS.nilb AS.renb AS.up Bool.not_false Bool.not_true List.set_set List.set_cons_zero List.set_cons_succ List.set_nil List.mem_singleton forall_eq sT sS Gv Ai Bh KP KQ KR Fd Fe
set_option maxHeartbeats 6400000 in
theorem pL {G : Gt} (hG : Ac G) (hh : G.e 160 = AW jz ∧ G.e 71 = AW IJ ∧ G.e 24 = AW WV) : Gd G 112 (AW jY) := by
 refine Ke (dp := fun n => !(Nat.beq n 100010 || Nat.beq n 100013)) (fn := Tryz.f112) (n := 1) rfl hG ?_
 rintro ⟨r, ⟨⟩⟩ hpre
 obtain ⟨h1, h2⟩ := hpre
 try dsimp only at h1 h2 ⊢
 obtain ⟨a1, a2, a3, a4⟩ := ZP h1 (show r.p ≤ 999990000 by omega)
 have zs := HG a1
 by_cases h : ((EP r).items.length : Int) > 0
 ·have hb := CJ (r := Gc r) (n := (EP r).items.length) (by omega) (by omega)
  have hk : 0 ≤ IC r ∧ IC r < (EP r).items.length := by unfold IC; omega
  by_cases c0 : Lk r = 0
  ·skip
   rw [fB h c0]
   simp -implicitDefEqProofs only [Tryz.f112, h, c0, eq_self, decide_true, decide_false, Int.reduceEq, go_sem, hh, Int.reduceAdd, seval]
   with_reducible repeat' (first | apply ai | intro _ | ((first | apply s1 | apply s2 | apply s3 | apply s4) <;> intro hb <;> simp -implicitDefEqProofs only [hb, go_sem, hh, Int.reduceAdd, seval] <;> try simp only [qz] at hb))
   all_goals (try simp only [maxLen, tn] at *)
   all_goals first | rfl | omega | decide | assumption | exact CI | exact A1 | exact A1 (l := []) | skip
   all_goals first | (refine Af ?_) | skip
   simp -implicitDefEqProofs only [go_sem, hh, Int.reduceAdd, seval]
   with_reducible repeat' (first | apply ai | intro _ | ((first | apply s1 | apply s2 | apply s3 | apply s4) <;> intro hb <;> simp -implicitDefEqProofs only [hb, go_sem, hh, Int.reduceAdd, seval] <;> try simp only [qz] at hb))
   all_goals (try simp only [maxLen, tn] at *)
   all_goals first | rfl | omega | decide | assumption | exact CI | exact A1 | exact A1 (l := []) | skip
   trace_state
  ·by_cases c1 : Lk r = 1
   ·skip
    rw [fC h c1]
    simp -implicitDefEqProofs only [Tryz.f112, h, c1, eq_self, decide_true, decide_false, Int.reduceEq, go_sem, hh, Int.reduceAdd, seval]
    with_reducible repeat' (first | apply ai | intro _ | ((first | apply s1 | apply s2 | apply s3 | apply s4) <;> intro hb <;> simp -implicitDefEqProofs only [hb, go_sem, hh, Int.reduceAdd, seval] <;> try simp only [qz] at hb))
    all_goals (try simp only [maxLen, tn] at *)
    all_goals first | rfl | omega | decide | assumption | exact CI | exact A1 | exact A1 (l := []) | skip
    refine Am (Le.setn 1006 (IC r).toNat (e' := [.v (.int .i64 ((EP r).items.getD (IC r).toNat default).id), .v (.string ((EP r).items.getD (IC r).toNat default).frm.user), .v (.string ((EP r).items.getD (IC r).toNat default).frm.domain), .sl 4 [], .sl 1 (((EP r).items.getD (IC r).toNat default).body.map AG)]) rfl (.cons (.same _) (.cons (.same _) (.cons (.same _) (.cons (.nil _) (.cons (.same _) .nil)))))) (Af ?_)
    simp -implicitDefEqProofs only [go_sem, hh, Int.reduceAdd, seval]
    with_reducible repeat' (first | apply ai | intro _ | ((first | apply s1 | apply s2 | apply s3 | apply s4) <;> intro hb <;> simp -implicitDefEqProofs only [hb, go_sem, hh, Int.reduceAdd, seval] <;> try simp only [qz] at hb))
    all_goals (try simp only [maxLen, tn] at *)
    all_goals first | rfl | omega | decide | assumption | exact CI | exact A1 | exact A1 (l := []) | skip
    trace_state
   ·by_cases c2 : Lk r = 2
    ·skip
     rw [fD h c2]
     simp -implicitDefEqProofs only [Tryz.f112, h, c2, eq_self, decide_true, decide_false, Int.reduceEq, go_sem, hh, Int.reduceAdd, seval]
     with_reducible repeat' (first | apply ai | intro _ | ((first | apply s1 | apply s2 | apply s3 | apply s4) <;> intro hb <;> simp -implicitDefEqProofs only [hb, go_sem, hh, Int.reduceAdd, seval] <;> try simp only [qz] at hb))
     all_goals (try simp only [maxLen, tn] at *)
     all_goals first | rfl | omega | decide | assumption | exact CI | exact A1 | exact A1 (l := []) | skip
     have hkl : (IC r).toNat < ((EP r).items.map Ar).length := by rw [lm]; omega
     have hto : 0 < ((EP r).items.getD (IC r).toNat default).to.length := (a1.1 _ (AB (xs := (EP r).items) (j := (IC r).toNat) (by omega))).1.2.2.2.2.1.1
     refine LD 1006 1910 2910 (IC r).toNat 3 rfl (TB Ar (by omega)) rfl rfl fun x => Af ?_
     simp -implicitDefEqProofs only [H9 hkl, Oi hkl, List.length_set, zV, go_sem, hh, Int.reduceAdd, seval]
     with_reducible repeat' (first | apply ai | intro _ | ((first | apply s1 | apply s2 | apply s3 | apply s4) <;> intro hb <;> simp -implicitDefEqProofs only [hb, go_sem, hh, Int.reduceAdd, seval] <;> try simp only [qz] at hb))
     all_goals (try simp only [maxLen, tn] at *)
     all_goals first | rfl | omega | decide | assumption | exact CI | exact A1 | exact A1 (l := []) | (show AZ _ = true; rfl) | skip
     refine U9 1006 1910 2910 (IC r).toNat 3 rfl (d6 hkl _) rfl rfl rfl rfl (Af ?_)
     simp -implicitDefEqProofs only [Zi, go_sem, hh, Int.reduceAdd, seval]
     with_reducible repeat' (first | apply ai | intro _ | ((first | apply s1 | apply s2 | apply s3 | apply s4) <;> intro hb <;> simp -implicitDefEqProofs only [hb, go_sem, hh, Int.reduceAdd, seval] <;> try simp only [qz] at hb))
     all_goals (try simp only [maxLen, tn] at *)
     all_goals first | rfl | omega | decide | assumption | exact CI | exact A1 | exact A1 (l := []) | skip
     trace_state
    ·by_cases c3 : Lk r = 3
     ·skip
      rw [fE h c3]
      simp -implicitDefEqProofs only [Tryz.f112, h, c3, eq_self, decide_true, decide_false, Int.reduceEq, go_sem, hh, Int.reduceAdd, seval]
      with_reducible repeat' (first | apply ai | intro _ | ((first | apply s1 | apply s2 | apply s3 | apply s4) <;> intro hb <;> simp -implicitDefEqProofs only [hb, go_sem, hh, Int.reduceAdd, seval] <;> try simp only [qz] at hb))
      all_goals (try simp only [maxLen, tn] at *)
      all_goals first | rfl | omega | decide | assumption | exact CI | exact A1 | exact A1 (l := []) | skip
      all_goals first | (refine Af ?_) | skip
      simp -implicitDefEqProofs only [go_sem, hh, Int.reduceAdd, seval]
      with_reducible repeat' (first | apply ai | intro _ | ((first | apply s1 | apply s2 | apply s3 | apply s4) <;> intro hb <;> simp -implicitDefEqProofs only [hb, go_sem, hh, Int.reduceAdd, seval] <;> try simp only [qz] at hb))
      all_goals (try simp only [maxLen, tn] at *)
      all_goals first | rfl | omega | decide | assumption | exact CI | exact A1 | exact A1 (l := []) | skip
      trace_state
     ·skip
      rw [fF h ⟨c0, c1, c2, c3⟩]
      simp -implicitDefEqProofs only [Tryz.f112, h, c0, c1, c2, c3, eq_self, decide_true, decide_false, Int.reduceEq, go_sem, hh, Int.reduceAdd, seval]
      with_reducible repeat' (first | apply ai | intro _ | ((first | apply s1 | apply s2 | apply s3 | apply s4) <;> intro hb <;> simp -implicitDefEqProofs only [hb, go_sem, hh, Int.reduceAdd, seval] <;> try simp only [qz] at hb))
      all_goals (try simp only [maxLen, tn] at *)
      all_goals first | rfl | omega | decide | assumption | exact CI | exact A1 | exact A1 (l := []) | skip
      all_goals first | (refine Af ?_) | skip
      simp -implicitDefEqProofs only [go_sem, hh, Int.reduceAdd, seval]
      with_reducible repeat' (first | apply ai | intro _ | ((first | apply s1 | apply s2 | apply s3 | apply s4) <;> intro hb <;> simp -implicitDefEqProofs only [hb, go_sem, hh, Int.reduceAdd, seval] <;> try simp only [qz] at hb))
      all_goals (try simp only [maxLen, tn] at *)
      all_goals first | rfl | omega | decide | assumption | exact CI | exact A1 | exact A1 (l := []) | skip
      trace_state
 ·skip
  rw [fG h]
  simp -implicitDefEqProofs only [Tryz.f112, h, eq_self, decide_true, decide_false, Int.reduceEq, go_sem, hh, Int.reduceAdd, seval]
  with_reducible repeat' (first | apply ai | intro _ | ((first | apply s1 | apply s2 | apply s3 | apply s4) <;> intro hb <;> simp -implicitDefEqProofs only [hb, go_sem, hh, Int.reduceAdd, seval] <;> try simp only [qz] at hb))
  all_goals (try simp only [maxLen, tn] at *)
  all_goals first | rfl | omega | decide | assumption | exact CI | exact A1 | exact A1 (l := []) | skip
  all_goals first | (refine Af ?_) | skip
  simp -implicitDefEqProofs only [go_sem, hh, Int.reduceAdd, seval]
  with_reducible repeat' (first | apply ai | intro _ | ((first | apply s1 | apply s2 | apply s3 | apply s4) <;> intro hb <;> simp -implicitDefEqProofs only [hb, go_sem, hh, Int.reduceAdd, seval] <;> try simp only [qz] at hb))
  all_goals (try simp only [maxLen, tn] at *)
  all_goals first | rfl | omega | decide | assumption | exact CI | exact A1 | exact A1 (l := []) | skip
  trace_state
end
def opn (b : List UInt8) : Rd := ⟨if (b.length : Int) > 2000 then b.take 2000 else b, 0⟩
theorem vV {b : List UInt8} (h : (b.length : Int) > 2000) : opn b = ⟨b.take 2000, 0⟩ := by unfold opn; rw [if_pos h]
theorem vU {b : List UInt8} (h : ¬ (b.length : Int) > 2000) : opn b = ⟨b, 0⟩ := by unfold opn; rw [if_neg h]
theorem Pl (b : List UInt8) : (opn b).p = 0 := rfl
theorem vS (b : List UInt8) : (⟨(opn b).b, 0⟩ : Rd) = opn b := rfl
theorem yR {b : List UInt8} {k : Nat} : List.take k (b.map CO) = (b.take k).map CO := by rw [List.map_take]
theorem zX : (2000 : Int).toNat = 2000 := rfl
def xP : Ct := Aj (lc P8.asl l0) (fun p => True) (fun p => ER.enc (opn p.1))
section
attribute [local go_sem] JR R7 BT NZ yR zX BK lm List.drop_zero AS.opn AS.cls AS.nilb AS.renb AS.up Bool.not_false Bool.not_true List.set_set List.set_cons_zero List.set_cons_succ List.set_nil List.mem_singleton forall_eq
set_option maxHeartbeats 800000 in
theorem tk {G : Gt} (hG : Ac G) : Gd G 21 (AA 1 xP) := by
 refine gr (fn := Tryz.f21) (n := 1) rfl hG ?_
 rintro ⟨b, ⟨⟩⟩ hpre
 dsimp only
 by_cases L : (b.length : Int) > 2000
 ·rw [vV L]
  simp -implicitDefEqProofs only [Tryz.f21, L, decide_true, go_sem, seval]
  with_reducible repeat' (first | apply ai | intro _ | ((first | apply s1 | apply s2 | apply s3 | apply s4) <;> intro hb <;> simp -implicitDefEqProofs only [hb, go_sem, seval] <;> try simp only [qz] at hb))
  all_goals (try simp only [maxLen, tn] at *)
  all_goals first | rfl | omega | decide | assumption | (show AZ _ = true; rfl) | skip
 ·rw [vU L]
  simp -implicitDefEqProofs only [Tryz.f21, L, decide_false, go_sem, seval]
  with_reducible repeat' (first | apply ai | intro _ | ((first | apply s1 | apply s2 | apply s3 | apply s4) <;> intro hb <;> simp -implicitDefEqProofs only [hb, go_sem, seval] <;> try simp only [qz] at hb))
  all_goals (try simp only [maxLen, tn] at *)
  all_goals first | rfl | omega | decide | assumption | (show AZ _ = true; rfl) | skip
end
theorem Sh {x0 x1 x2 x3 x4 x5 x6 x7 : T} : Bm 2 4 [x0, x1, x2, x3, x4, x5, x6, x7] = [[x0, x1], [x2, x3], [x4, x5], [x6, x7]] := rfl
def E6 (k : Int) : List Cf :=
 if k = 0 then [⟨⟨#[111, 110, 101, 46, 111, 114, 103]⟩, [⟨#[111, 110, 101, 46, 111, 114, 103]⟩, ⟨#[97, 46, 111, 110, 101, 46, 111, 114, 103]⟩], [⟨⟨#[116, 119, 111, 46, 111, 114, 103]⟩, ⟨#[116, 119, 111, 46, 111, 114, 103]⟩⟩, ⟨⟨#[110, 101, 116]⟩, ⟨#[104, 117, 98, 46, 110, 101, 116]⟩⟩, ⟨⟨#[99, 111, 109]⟩, ⟨#[104, 117, 98, 46, 110, 101, 116]⟩⟩]⟩, ⟨⟨#[116, 119, 111, 46, 111, 114, 103]⟩, [⟨#[116, 119, 111, 46, 111, 114, 103]⟩], [⟨⟨#[120, 46, 99, 111, 109]⟩, ⟨#[111, 110, 101, 46, 111, 114, 103]⟩⟩, ⟨⟨#[111, 110, 101, 46, 111, 114, 103]⟩, ⟨#[111, 110, 101, 46, 111, 114, 103]⟩⟩]⟩, ⟨⟨#[104, 117, 98, 46, 110, 101, 116]⟩, [⟨#[104, 117, 98, 46, 110, 101, 116]⟩, ⟨#[111, 116, 104, 101, 114, 46, 99, 111, 109]⟩], [⟨⟨#[111, 110, 101, 46, 111, 114, 103]⟩, ⟨#[111, 110, 101, 46, 111, 114, 103]⟩⟩, ⟨⟨#[116, 119, 111, 46, 111, 114, 103]⟩, ⟨#[116, 119, 111, 46, 111, 114, 103]⟩⟩, ⟨⟨#[102, 97, 114, 46, 99, 111, 109]⟩, ⟨#[103, 111, 110, 101, 46, 99, 111, 109]⟩⟩, ⟨⟨#[120, 46, 99, 111, 109]⟩, ⟨#[116, 119, 111, 46, 111, 114, 103]⟩⟩]⟩]
 else if k = 1 then [⟨⟨#[111, 110, 101, 46, 111, 114, 103]⟩, [⟨#[111, 110, 101, 46, 111, 114, 103]⟩, ⟨#[97, 46, 111, 110, 101, 46, 111, 114, 103]⟩], [⟨⟨#[116, 119, 111, 46, 111, 114, 103]⟩, ⟨#[116, 119, 111, 46, 111, 114, 103]⟩⟩, ⟨⟨#[110, 101, 116]⟩, ⟨#[104, 117, 98, 46, 110, 101, 116]⟩⟩, ⟨⟨#[99, 111, 109]⟩, ⟨#[104, 117, 98, 46, 110, 101, 116]⟩⟩]⟩, ⟨⟨#[116, 119, 111, 46, 111, 114, 103]⟩, [⟨#[116, 119, 111, 46, 111, 114, 103]⟩], [⟨⟨#[111, 114, 103]⟩, ⟨#[111, 110, 101, 46, 111, 114, 103]⟩⟩, ⟨⟨#[104, 117, 98, 46, 110, 101, 116]⟩, ⟨#[104, 117, 98, 46, 110, 101, 116]⟩⟩]⟩]
 else if k = 2 then [⟨⟨#[111, 110, 101, 46, 111, 114, 103]⟩, [⟨#[111, 110, 101, 46, 111, 114, 103]⟩, ⟨#[97, 46, 111, 110, 101, 46, 111, 114, 103]⟩], [⟨⟨#[116, 119, 111, 46, 111, 114, 103]⟩, ⟨#[116, 119, 111, 46, 111, 114, 103]⟩⟩, ⟨⟨#[110, 101, 116]⟩, ⟨#[104, 117, 98, 46, 110, 101, 116]⟩⟩]⟩, ⟨⟨#[116, 119, 111, 46, 111, 114, 103]⟩, [⟨#[116, 119, 111, 46, 111, 114, 103]⟩], [⟨⟨#[111, 114, 103]⟩, ⟨#[111, 110, 101, 46, 111, 114, 103]⟩⟩, ⟨⟨#[104, 117, 98, 46, 110, 101, 116]⟩, ⟨#[104, 117, 98, 46, 110, 101, 116]⟩⟩, ⟨⟨#[99, 111, 109]⟩, ⟨#[104, 117, 98, 46, 110, 101, 116]⟩⟩]⟩, ⟨⟨#[104, 117, 98, 46, 110, 101, 116]⟩, [⟨#[104, 117, 98, 46, 110, 101, 116]⟩, ⟨#[111, 116, 104, 101, 114, 46, 99, 111, 109]⟩], [⟨⟨#[111, 110, 101, 46, 111, 114, 103]⟩, ⟨#[111, 110, 101, 46, 111, 114, 103]⟩⟩, ⟨⟨#[116, 119, 111, 46, 111, 114, 103]⟩, ⟨#[116, 119, 111, 46, 111, 114, 103]⟩⟩, ⟨⟨#[102, 97, 114, 46, 99, 111, 109]⟩, ⟨#[103, 111, 110, 101, 46, 99, 111, 109]⟩⟩, ⟨⟨#[120, 46, 99, 111, 109]⟩, ⟨#[116, 119, 111, 46, 111, 114, 103]⟩⟩]⟩]
 else [⟨⟨#[111, 110, 101, 46, 111, 114, 103]⟩, [⟨#[111, 110, 101, 46, 111, 114, 103]⟩, ⟨#[97, 46, 111, 110, 101, 46, 111, 114, 103]⟩], [⟨⟨#[116, 119, 111, 46, 111, 114, 103]⟩, ⟨#[116, 119, 111, 46, 111, 114, 103]⟩⟩, ⟨⟨#[110, 101, 116]⟩, ⟨#[104, 117, 98, 46, 110, 101, 116]⟩⟩, ⟨⟨#[99, 111, 109]⟩, ⟨#[104, 117, 98, 46, 110, 101, 116]⟩⟩]⟩, ⟨⟨#[116, 119, 111, 46, 111, 114, 103]⟩, [⟨#[116, 119, 111, 46, 111, 114, 103]⟩], [⟨⟨#[111, 114, 103]⟩, ⟨#[111, 110, 101, 46, 111, 114, 103]⟩⟩, ⟨⟨#[104, 117, 98, 46, 110, 101, 116]⟩, ⟨#[104, 117, 98, 46, 110, 101, 116]⟩⟩]⟩, ⟨⟨#[104, 117, 98, 46, 110, 101, 116]⟩, [⟨#[104, 117, 98, 46, 110, 101, 116]⟩, ⟨#[111, 116, 104, 101, 114, 46, 99, 111, 109]⟩], [⟨⟨#[111, 110, 101, 46, 111, 114, 103]⟩, ⟨#[111, 110, 101, 46, 111, 114, 103]⟩⟩, ⟨⟨#[116, 119, 111, 46, 111, 114, 103]⟩, ⟨#[116, 119, 111, 46, 111, 114, 103]⟩⟩, ⟨⟨#[102, 97, 114, 46, 99, 111, 109]⟩, ⟨#[103, 111, 110, 101, 46, 99, 111, 109]⟩⟩, ⟨⟨#[120, 46, 99, 111, 109]⟩, ⟨#[116, 119, 111, 46, 111, 114, 103]⟩⟩]⟩]
def DE (r : Rd) : List Cf := E6 (Ah r 5)
theorem lF {r : Rd} (h : Ah r 5 = 0) : DE r = [⟨⟨#[111, 110, 101, 46, 111, 114, 103]⟩, [⟨#[111, 110, 101, 46, 111, 114, 103]⟩, ⟨#[97, 46, 111, 110, 101, 46, 111, 114, 103]⟩], [⟨⟨#[116, 119, 111, 46, 111, 114, 103]⟩, ⟨#[116, 119, 111, 46, 111, 114, 103]⟩⟩, ⟨⟨#[110, 101, 116]⟩, ⟨#[104, 117, 98, 46, 110, 101, 116]⟩⟩, ⟨⟨#[99, 111, 109]⟩, ⟨#[104, 117, 98, 46, 110, 101, 116]⟩⟩]⟩, ⟨⟨#[116, 119, 111, 46, 111, 114, 103]⟩, [⟨#[116, 119, 111, 46, 111, 114, 103]⟩], [⟨⟨#[120, 46, 99, 111, 109]⟩, ⟨#[111, 110, 101, 46, 111, 114, 103]⟩⟩, ⟨⟨#[111, 110, 101, 46, 111, 114, 103]⟩, ⟨#[111, 110, 101, 46, 111, 114, 103]⟩⟩]⟩, ⟨⟨#[104, 117, 98, 46, 110, 101, 116]⟩, [⟨#[104, 117, 98, 46, 110, 101, 116]⟩, ⟨#[111, 116, 104, 101, 114, 46, 99, 111, 109]⟩], [⟨⟨#[111, 110, 101, 46, 111, 114, 103]⟩, ⟨#[111, 110, 101, 46, 111, 114, 103]⟩⟩, ⟨⟨#[116, 119, 111, 46, 111, 114, 103]⟩, ⟨#[116, 119, 111, 46, 111, 114, 103]⟩⟩, ⟨⟨#[102, 97, 114, 46, 99, 111, 109]⟩, ⟨#[103, 111, 110, 101, 46, 99, 111, 109]⟩⟩, ⟨⟨#[120, 46, 99, 111, 109]⟩, ⟨#[116, 119, 111, 46, 111, 114, 103]⟩⟩]⟩] := by unfold DE E6; rw [if_pos h]
theorem lG {r : Rd} (h : Ah r 5 = 1) : DE r = [⟨⟨#[111, 110, 101, 46, 111, 114, 103]⟩, [⟨#[111, 110, 101, 46, 111, 114, 103]⟩, ⟨#[97, 46, 111, 110, 101, 46, 111, 114, 103]⟩], [⟨⟨#[116, 119, 111, 46, 111, 114, 103]⟩, ⟨#[116, 119, 111, 46, 111, 114, 103]⟩⟩, ⟨⟨#[110, 101, 116]⟩, ⟨#[104, 117, 98, 46, 110, 101, 116]⟩⟩, ⟨⟨#[99, 111, 109]⟩, ⟨#[104, 117, 98, 46, 110, 101, 116]⟩⟩]⟩, ⟨⟨#[116, 119, 111, 46, 111, 114, 103]⟩, [⟨#[116, 119, 111, 46, 111, 114, 103]⟩], [⟨⟨#[111, 114, 103]⟩, ⟨#[111, 110, 101, 46, 111, 114, 103]⟩⟩, ⟨⟨#[104, 117, 98, 46, 110, 101, 116]⟩, ⟨#[104, 117, 98, 46, 110, 101, 116]⟩⟩]⟩] := by unfold DE E6; rw [if_neg (by omega), if_pos h]
theorem lH {r : Rd} (h : Ah r 5 = 2) : DE r = [⟨⟨#[111, 110, 101, 46, 111, 114, 103]⟩, [⟨#[111, 110, 101, 46, 111, 114, 103]⟩, ⟨#[97, 46, 111, 110, 101, 46, 111, 114, 103]⟩], [⟨⟨#[116, 119, 111, 46, 111, 114, 103]⟩, ⟨#[116, 119, 111, 46, 111, 114, 103]⟩⟩, ⟨⟨#[110, 101, 116]⟩, ⟨#[104, 117, 98, 46, 110, 101, 116]⟩⟩]⟩, ⟨⟨#[116, 119, 111, 46, 111, 114, 103]⟩, [⟨#[116, 119, 111, 46, 111, 114, 103]⟩], [⟨⟨#[111, 114, 103]⟩, ⟨#[111, 110, 101, 46, 111, 114, 103]⟩⟩, ⟨⟨#[104, 117, 98, 46, 110, 101, 116]⟩, ⟨#[104, 117, 98, 46, 110, 101, 116]⟩⟩, ⟨⟨#[99, 111, 109]⟩, ⟨#[104, 117, 98, 46, 110, 101, 116]⟩⟩]⟩, ⟨⟨#[104, 117, 98, 46, 110, 101, 116]⟩, [⟨#[104, 117, 98, 46, 110, 101, 116]⟩, ⟨#[111, 116, 104, 101, 114, 46, 99, 111, 109]⟩], [⟨⟨#[111, 110, 101, 46, 111, 114, 103]⟩, ⟨#[111, 110, 101, 46, 111, 114, 103]⟩⟩, ⟨⟨#[116, 119, 111, 46, 111, 114, 103]⟩, ⟨#[116, 119, 111, 46, 111, 114, 103]⟩⟩, ⟨⟨#[102, 97, 114, 46, 99, 111, 109]⟩, ⟨#[103, 111, 110, 101, 46, 99, 111, 109]⟩⟩, ⟨⟨#[120, 46, 99, 111, 109]⟩, ⟨#[116, 119, 111, 46, 111, 114, 103]⟩⟩]⟩] := by unfold DE E6; rw [if_neg (by omega), if_neg (by omega), if_pos h]
theorem lI {r : Rd} (h : ¬ Ah r 5 = 0 ∧ ¬ Ah r 5 = 1 ∧ ¬ Ah r 5 = 2) : DE r = [⟨⟨#[111, 110, 101, 46, 111, 114, 103]⟩, [⟨#[111, 110, 101, 46, 111, 114, 103]⟩, ⟨#[97, 46, 111, 110, 101, 46, 111, 114, 103]⟩], [⟨⟨#[116, 119, 111, 46, 111, 114, 103]⟩, ⟨#[116, 119, 111, 46, 111, 114, 103]⟩⟩, ⟨⟨#[110, 101, 116]⟩, ⟨#[104, 117, 98, 46, 110, 101, 116]⟩⟩, ⟨⟨#[99, 111, 109]⟩, ⟨#[104, 117, 98, 46, 110, 101, 116]⟩⟩]⟩, ⟨⟨#[116, 119, 111, 46, 111, 114, 103]⟩, [⟨#[116, 119, 111, 46, 111, 114, 103]⟩], [⟨⟨#[111, 114, 103]⟩, ⟨#[111, 110, 101, 46, 111, 114, 103]⟩⟩, ⟨⟨#[104, 117, 98, 46, 110, 101, 116]⟩, ⟨#[104, 117, 98, 46, 110, 101, 116]⟩⟩]⟩, ⟨⟨#[104, 117, 98, 46, 110, 101, 116]⟩, [⟨#[104, 117, 98, 46, 110, 101, 116]⟩, ⟨#[111, 116, 104, 101, 114, 46, 99, 111, 109]⟩], [⟨⟨#[111, 110, 101, 46, 111, 114, 103]⟩, ⟨#[111, 110, 101, 46, 111, 114, 103]⟩⟩, ⟨⟨#[116, 119, 111, 46, 111, 114, 103]⟩, ⟨#[116, 119, 111, 46, 111, 114, 103]⟩⟩, ⟨⟨#[102, 97, 114, 46, 99, 111, 109]⟩, ⟨#[103, 111, 110, 101, 46, 99, 111, 109]⟩⟩, ⟨⟨#[120, 46, 99, 111, 109]⟩, ⟨#[116, 119, 111, 46, 111, 114, 103]⟩⟩]⟩] := by unfold DE E6; rw [if_neg h.1, if_neg h.2.1, if_neg h.2.2]
def Ow (c : Cf) : Bool := Nat.ble c.name.size 100 && (Nat.ble c.own.length 10 && (c.own.all (fun s => Nat.ble s.size 100) && (Nat.ble c.ways.length 10 && c.ways.all fun w => Nat.ble w.ends.size 100 && Nat.ble w.to.size 100)))
theorem NC (k : Int) : (E6 k).all Ow = true ∧ 2 ≤ (E6 k).length ∧ (E6 k).length ≤ 3 := by
 unfold E6
 split
 ·exact ⟨by decide +kernel, by decide, by decide⟩
 ·split
  ·exact ⟨by decide +kernel, by decide, by decide⟩
  ·split
   ·exact ⟨by decide +kernel, by decide, by decide⟩
   ·exact ⟨by decide +kernel, by decide, by decide⟩
def UJ (r : Rd) : Cf := (DE r).getD (Ah (r.nx 1) (DE r).length).toNat default
theorem fJ {r : Rd} (h : 0 ≤ r.p) (h1 : r.p ≤ 999999000) : Ow (UJ r) = true := by
 have hb := CJ (r := r.nx 1) (n := (DE r).length) (by rw [AO]; omega) (by rw [AO]; omega)
 obtain ⟨h2, h3, h4⟩ := NC (Ah r 5)
 have e : E6 (Ah r 5) = DE r := rfl
 rw [e] at h2 h3
 exact List.all_eq_true.1 h2 _ (AB (by omega))
def Dm (r : Rd) : Cf × Rd :=
 let c := UJ r
 let k := Ah (r.nx 2) 10
 if k = 0 then (⟨OH (r.nx 3) [⟨#[]⟩, ⟨#[65]⟩, ⟨#[97, 46, 46, 98]⟩], c.own, c.ways⟩, r.nx 4)
 else if k = 1 then (⟨c.name, c.own ++ [⟨#[98, 46, 111, 114, 103]⟩, ⟨#[99, 46, 111, 114, 103]⟩], c.ways⟩, r.nx 3)
 else if k = 2 then (⟨c.name, c.own, c.ways ++ [⟨OH (r.nx 3) [⟨#[]⟩, ⟨#[98, 46, 111, 114, 103]⟩, ⟨#[111, 110, 101, 46, 111, 114, 103]⟩], ⟨#[116, 119, 111, 46, 111, 114, 103]⟩⟩]⟩, r.nx 4)
 else (c, r.nx 3)
theorem SQ {r : Rd} (h : Ah (r.nx 2) 10 = 0) : Dm r = (⟨OH (r.nx 3) [⟨#[]⟩, ⟨#[65]⟩, ⟨#[97, 46, 46, 98]⟩], (UJ r).own, (UJ r).ways⟩, r.nx 4) := by unfold Dm; dsimp only; rw [if_pos h]
theorem SR {r : Rd} (h : Ah (r.nx 2) 10 = 1) : Dm r = (⟨(UJ r).name, (UJ r).own ++ [⟨#[98, 46, 111, 114, 103]⟩, ⟨#[99, 46, 111, 114, 103]⟩], (UJ r).ways⟩, r.nx 3) := by unfold Dm; dsimp only; rw [if_neg (by omega), if_pos h]
theorem SS {r : Rd} (h : Ah (r.nx 2) 10 = 2) : Dm r = (⟨(UJ r).name, (UJ r).own, (UJ r).ways ++ [⟨OH (r.nx 3) [⟨#[]⟩, ⟨#[98, 46, 111, 114, 103]⟩, ⟨#[111, 110, 101, 46, 111, 114, 103]⟩], ⟨#[116, 119, 111, 46, 111, 114, 103]⟩⟩]⟩, r.nx 4) := by unfold Dm; dsimp only; rw [if_neg (by omega), if_neg (by omega), if_pos h]
theorem ST {r : Rd} (h : ¬ Ah (r.nx 2) 10 = 0 ∧ ¬ Ah (r.nx 2) 10 = 1 ∧ ¬ Ah (r.nx 2) 10 = 2) : Dm r = (UJ r, r.nx 3) := by unfold Dm; dsimp only; rw [if_neg h.1, if_neg h.2.1, if_neg h.2.2]
theorem CN {n : Nat} {es : List (List T)} : cellAV false (.sl n es) = .t (.sl n es) := rfl
theorem fK {r : Rd} : (DE r).getD (Ah (r.nx 1) (DE r).length).toNat default = UJ r := rfl
def WL : Mt := H1 (lc ER l0) (fun p => 0 ≤ p.1.p ∧ p.1.p ≤ 999990000) (fun p => ([ER.enc (p.1.nx 1)], .o false 3 ((DE p.1).map DT)))
section
attribute [local go_sem] IJ AO B2 BK BM BT Bv Cy Bp Bt lm List.length_append List.length_cons List.length_nil List.map_append List.map_nil Nat.zero_add List.nil_append AS.opn AS.cls AS.nilb AS.renb AS.up Bool.not_false Bool.not_true List.set_set List.set_cons_zero List.set_cons_succ List.set_nil List.mem_singleton forall_eq Gv Ai Bh KP KQ KR Fd Fe Sh
set_option maxHeartbeats 6400000 in
theorem qL {G : Gt} (hG : Ac G) (hh : G.e 71 = AW IJ) : Gd G 172 (AW WL) := by
 refine Ke (dp := fun n => !(Nat.beq n 36 || Nat.beq n 52)) (fn := Tryz.f172) (n := 1) rfl hG ?_
 rintro ⟨r, ⟨⟩⟩ hpre
 obtain ⟨h1, h2⟩ := hpre
 try dsimp only at h1 h2 ⊢
 by_cases c0 : Ah r 5 = 0
 ·skip
  rw [lF c0]
  simp -implicitDefEqProofs only [Tryz.f172, c0, eq_self, decide_true, decide_false, Int.reduceEq, go_sem, hh, Int.reduceAdd, seval]
  with_reducible repeat' (first | apply ai | intro _ | ((first | apply s1 | apply s2 | apply s3 | apply s4) <;> intro hb <;> simp -implicitDefEqProofs only [hb, go_sem, hh, Int.reduceAdd, seval] <;> try simp only [qz] at hb))
  all_goals (try simp only [maxLen, tn] at *)
  all_goals first | rfl | omega | decide | assumption | (show AZ _ = true; rfl) | skip
 ·by_cases c1 : Ah r 5 = 1
  ·skip
   rw [lG c1]
   simp -implicitDefEqProofs only [Tryz.f172, c1, eq_self, decide_true, decide_false, Int.reduceEq, go_sem, hh, Int.reduceAdd, seval]
   with_reducible repeat' (first | apply ai | intro _ | ((first | apply s1 | apply s2 | apply s3 | apply s4) <;> intro hb <;> simp -implicitDefEqProofs only [hb, go_sem, hh, Int.reduceAdd, seval] <;> try simp only [qz] at hb))
   all_goals (try simp only [maxLen, tn] at *)
   all_goals first | rfl | omega | decide | assumption | (show AZ _ = true; rfl) | skip
  ·by_cases c2 : Ah r 5 = 2
   ·skip
    rw [lH c2]
    simp -implicitDefEqProofs only [Tryz.f172, c2, eq_self, decide_true, decide_false, Int.reduceEq, go_sem, hh, Int.reduceAdd, seval]
    with_reducible repeat' (first | apply ai | intro _ | ((first | apply s1 | apply s2 | apply s3 | apply s4) <;> intro hb <;> simp -implicitDefEqProofs only [hb, go_sem, hh, Int.reduceAdd, seval] <;> try simp only [qz] at hb))
    all_goals (try simp only [maxLen, tn] at *)
    all_goals first | rfl | omega | decide | assumption | (show AZ _ = true; rfl) | skip
   ·skip
    rw [lI ⟨c0, c1, c2⟩]
    simp -implicitDefEqProofs only [Tryz.f172, c0, c1, c2, eq_self, decide_true, decide_false, Int.reduceEq, go_sem, hh, Int.reduceAdd, seval]
    with_reducible repeat' (first | apply ai | intro _ | ((first | apply s1 | apply s2 | apply s3 | apply s4) <;> intro hb <;> simp -implicitDefEqProofs only [hb, go_sem, hh, Int.reduceAdd, seval] <;> try simp only [qz] at hb))
    all_goals (try simp only [maxLen, tn] at *)
    all_goals first | rfl | omega | decide | assumption | (show AZ _ = true; rfl) | skip
end
def jj : Mt := H1 (lc ER l0) (fun p => 0 ≤ p.1.p ∧ p.1.p ≤ 999990000) (fun p => ([ER.enc (p.1.nx 2)], JS.ag.enc (UJ p.1)))
section
attribute [local go_sem] IJ WL AO B2 BK BM BT Bv Cy Bp Bt lm List.length_append List.length_cons List.length_nil List.map_append List.map_nil Nat.zero_add List.nil_append AS.opn AS.cls AS.nilb AS.renb AS.up Bool.not_false Bool.not_true List.set_set List.set_cons_zero List.set_cons_succ List.set_nil List.mem_singleton forall_eq fK CN Ai
set_option maxHeartbeats 1600000 in
theorem pg {G : Gt} (hG : Ac G) (hh : G.e 71 = AW IJ ∧ G.e 172 = AW WL) : Gd G 135 (AW jj) := by
 refine Ke (dp := fun _ => true) (fn := Tryz.f135) (n := 1) rfl hG ?_
 rintro ⟨r, ⟨⟩⟩ hpre
 obtain ⟨h1, h2⟩ := hpre
 try dsimp only at h1 h2 ⊢
 obtain ⟨q2, q3, q4⟩ := NC (Ah r 5)
 have e : E6 (Ah r 5) = DE r := rfl
 rw [e] at q3 q4
 have hb := CJ (r := r.nx 1) (n := (DE r).length) (by rw [AO]; omega) (by rw [AO]; omega)
 simp -implicitDefEqProofs only [Tryz.f135, go_sem, hh, Int.reduceAdd, seval]
 with_reducible repeat' (first | apply ai | intro _ | ((first | apply s1 | apply s2 | apply s3 | apply s4) <;> intro hb <;> simp -implicitDefEqProofs only [hb, go_sem, hh, Int.reduceAdd, seval] <;> try simp only [qz] at hb))
 all_goals (try simp only [maxLen, tn] at *)
 all_goals first | rfl | omega | decide | assumption | (show AZ _ = true; rfl) | skip
end
def xj : Mt := H1 (lc ER l0) (fun p => 0 ≤ p.1.p ∧ p.1.p ≤ 999980000) (fun p => ([ER.enc (Dm p.1).2], JS.ag.enc (Dm p.1).1))
section
attribute [local go_sem] IJ IH jj AO B2 BK BM BT Bv Cy Bp Bt lm List.length_append List.length_cons List.length_nil List.map_append List.map_nil Nat.zero_add List.nil_append AS.opn AS.cls AS.nilb AS.renb AS.up Bool.not_false Bool.not_true List.set_set List.set_cons_zero List.set_cons_succ List.set_nil List.mem_singleton forall_eq fK Ai Gv Gw KP KQ KR Fd Fe Sh
set_option maxHeartbeats 6400000 in
theorem uZ {G : Gt} (hG : Ac G) (hh : G.e 71 = AW IJ ∧ G.e 113 = AW IH ∧ G.e 135 = AW jj) : Gd G 70 (AW xj) := by
 refine Ke (dp := fun _ => true) (fn := Tryz.f70) (n := 1) rfl hG ?_
 rintro ⟨r, ⟨⟩⟩ hpre
 obtain ⟨h1, h2⟩ := hpre
 try dsimp only at h1 h2 ⊢
 have hc := fJ h1 (show r.p ≤ 999999000 by omega)
 unfold Ow at hc
 simp only [Bool.and_eq_true, Nat.ble_eq] at hc
 obtain ⟨z1, z2, z3, z4, z5⟩ := hc
 by_cases c0 : Ah (r.nx 2) 10 = 0
 ·rw [SQ c0]
  simp -implicitDefEqProofs only [Tryz.f70, c0, eq_self, decide_true, decide_false, Int.reduceEq, go_sem, hh, Int.reduceAdd, seval]
  with_reducible repeat' (first | apply ai | intro _ | ((first | apply s1 | apply s2 | apply s3 | apply s4) <;> intro hb <;> simp -implicitDefEqProofs only [hb, go_sem, hh, Int.reduceAdd, seval] <;> try simp only [qz] at hb))
  all_goals (try simp only [maxLen, tn] at *)
  all_goals first | rfl | omega | decide | assumption | (show AZ _ = true; rfl) | skip
 ·by_cases c1 : Ah (r.nx 2) 10 = 1
  ·rw [SR c1]
   simp -implicitDefEqProofs only [Tryz.f70, c1, eq_self, decide_true, decide_false, Int.reduceEq, go_sem, hh, Int.reduceAdd, seval]
   with_reducible repeat' (first | apply ai | intro _ | ((first | apply s1 | apply s2 | apply s3 | apply s4) <;> intro hb <;> simp -implicitDefEqProofs only [hb, go_sem, hh, Int.reduceAdd, seval] <;> try simp only [qz] at hb))
   all_goals (try simp only [maxLen, tn] at *)
   all_goals first | rfl | omega | decide | assumption | (show AZ _ = true; rfl) | (rename_i q; simp only [List.mem_cons, List.not_mem_nil, or_false] at q; rcases q with rfl | rfl <;> rfl) | skip
  ·by_cases c2 : Ah (r.nx 2) 10 = 2
   ·rw [SS c2]
    simp -implicitDefEqProofs only [Tryz.f70, c2, eq_self, decide_true, decide_false, Int.reduceEq, go_sem, hh, Int.reduceAdd, seval]
    with_reducible repeat' (first | apply ai | intro _ | ((first | apply s1 | apply s2 | apply s3 | apply s4) <;> intro hb <;> simp -implicitDefEqProofs only [hb, go_sem, hh, Int.reduceAdd, seval] <;> try simp only [qz] at hb))
    all_goals (try simp only [maxLen, tn] at *)
    all_goals first | rfl | omega | decide | assumption | (show AZ _ = true; rfl) | skip
   ·rw [ST ⟨c0, c1, c2⟩]
    simp -implicitDefEqProofs only [Tryz.f70, c0, c1, c2, eq_self, decide_true, decide_false, Int.reduceEq, go_sem, hh, Int.reduceAdd, seval]
    with_reducible repeat' (first | apply ai | intro _ | ((first | apply s1 | apply s2 | apply s3 | apply s4) <;> intro hb <;> simp -implicitDefEqProofs only [hb, go_sem, hh, Int.reduceAdd, seval] <;> try simp only [qz] at hb))
    all_goals (try simp only [maxLen, tn] at *)
    all_goals first | rfl | omega | decide | assumption | (show AZ _ = true; rfl) | skip
end
def Uu (s : ByteArray) : Nat → Nat → Int → Int
 | 0, _, n => if s.size = 0 ∨ (1 < s.size ∧ AE s 0 = 48) then -1 else n
 | k + 1, i, n => if 48 ≤ AE s i ∧ AE s i ≤ 57 ∧ i < 9 then Uu s k (i + 1) (n * 10 + (AE s i - 48)) else -1
def PZ (s : ByteArray) : Int := Uu s s.size 0 0
theorem Yg {s : ByteArray} {i : Nat} {n : Int} (h : i < s.size) : Uu s (s.size - i) i n = if 48 ≤ AE s i ∧ AE s i ≤ 57 ∧ i < 9 then Uu s (s.size - (i + 1)) (i + 1) (n * 10 + (AE s i - 48)) else -1 := by
 have e : s.size - i = (s.size - (i + 1)) + 1 := by omega
 rw [e]; rfl
theorem Yf {s : ByteArray} {i : Nat} {n : Int} (h : s.size ≤ i) : Uu s (s.size - i) i n = if s.size = 0 ∨ (1 < s.size ∧ AE s 0 = 48) then -1 else n := by
 have e : s.size - i = 0 := by omega
 rw [e]; rfl
def kq : Ct := Aj (lc Ak l0) (fun p => p.1.size ≤ 3) (fun p => .t (.v (.int .i64 (PZ p.1))))
set_option maxHeartbeats 1600000 in
theorem ra {G : Gt} (hG : Ac G) : Gd G 252 (AA 0 kq) := by
 refine gr (fn := Tryz.f252) (n := 1) rfl hG ?_
 rintro ⟨s, ⟨⟩⟩ hpre
 simp -implicitDefEqProofs only [Tryz.f252, go_sem, seval] at hpre ⊢
 refine AC [] (ι := {p : Nat × Int // p.1 ≤ s.size ∧ 0 ≤ p.2 ∧ (p.1 = 0 → p.2 = 0) ∧ (p.1 ≤ 1 → p.2 ≤ 9) ∧ (p.1 ≤ 2 → p.2 ≤ 99) ∧ p.2 ≤ 999 ∧ Uu s (s.size - p.1) p.1 p.2 = PZ s}) (fun p => ⟨[(0, .t (.v (.string s))), (3, .t (.v (.int .i64 p.1.2))), (4, .t (.v (.int .i64 p.1.1)))], []⟩) (fun p => s.size - p.1.1) ⟨(0, 0), by simp, by simp, by simp, by simp, by simp, by simp, rfl⟩ rfl ?_ ?_
 ·simp -implicitDefEqProofs only [go_sem, seval]
  try simp
 ·rintro ⟨⟨i, n⟩, hi, h0, h1, h2, h3, h4, hv⟩
  dsimp only at hi h0 h1 h2 h3 h4 hv
  simp -implicitDefEqProofs only [go_sem, seval]
  with_reducible repeat' (first | apply ai | intro _ | ((first | apply s1 | apply s2 | apply s3 | apply s4) <;> intro hb <;> simp -implicitDefEqProofs only [hb, go_sem, seval] <;> try simp only [qz] at hb))
  all_goals (try simp only [maxLen, tn, Int.toNat_zero] at *)
  all_goals (try have hbr := A8 s i)
  all_goals first | rfl | omega | skip
  all_goals (by_cases hlt : i < s.size)
  all_goals first
   | omega
   | (rw [Yg hlt, if_neg (by omega)] at hv; rw [← hv]; done)
   | (rw [Yf (by omega), if_pos (by omega)] at hv; rw [← hv]; done)
   | (rw [Yf (by omega), if_neg (by omega)] at hv; rw [← hv]; done)
   | (rw [Yg hlt, if_pos (by omega)] at hv
      refine ⟨⟨(i + 1, n * 10 + (AE s i - 48)), by dsimp only; omega, by dsimp only; omega, by dsimp only; omega, by dsimp only; omega, by dsimp only; omega, by dsimp only; omega, hv⟩, by dsimp only; omega, ?_⟩
      simp -implicitDefEqProofs only [go_sem, seval]
      try simp
      done)
   | skip
theorem zZ (i : Nat) : ((i : Int) + 1).toNat = i + 1 := by omega
def Lr (s : ByteArray) : Nat → Nat → Nat → List ByteArray × Nat
 | 0, _, fr => ([], fr)
 | k + 1, i, fr => if i + 1 < s.size then (if AE s i = 13 ∧ AE s (i + 1) = 10 then (s.extract fr i :: (Lr s k (i + 2) (i + 2)).1, (Lr s k (i + 2) (i + 2)).2) else Lr s k (i + 1) fr) else ([], fr)
def OG (s : ByteArray) : List ByteArray := (Lr s s.size 0 0).1
def nB (s : ByteArray) : ByteArray := s.extract (Lr s s.size 0 0).2 s.size
theorem vB {s : ByteArray} {k i fr : Nat} (h : i + 1 < s.size) (c : AE s i = 13 ∧ AE s (i + 1) = 10) : Lr s (k + 1) i fr = (s.extract fr i :: (Lr s k (i + 2) (i + 2)).1, (Lr s k (i + 2) (i + 2)).2) := by
 rw [Lr, if_pos h, if_pos c]
theorem vA {s : ByteArray} {k i fr : Nat} (h : i + 1 < s.size) (c : ¬ (AE s i = 13 ∧ AE s (i + 1) = 10)) : Lr s (k + 1) i fr = Lr s k (i + 1) fr := by
 rw [Lr, if_pos h, if_neg c]
theorem gI {s : ByteArray} {k i fr : Nat} (h : ¬ i + 1 < s.size) : Lr s k i fr = ([], fr) := by
 cases k with
 | zero => rfl
 | succ k => rw [Lr, if_neg h]
theorem YI (s : ByteArray) : ∀ k i fr, fr ≤ i → i ≤ s.size → (Lr s k i fr).2 ≤ s.size ∧ ((Lr s k i fr).1.length + i ≤ s.size) ∧ ∀ x ∈ (Lr s k i fr).1, x.size ≤ s.size
 | 0, i, fr, h, hi => ⟨by show fr ≤ s.size; omega, by show 0 + i ≤ s.size; omega, fun x hx => by cases hx⟩
 | k + 1, i, fr, h, hi => by
   rw [Lr]
   split
   ·split
    ·have q := YI s k (i + 2) (i + 2) (Nat.le_refl _) (by omega)
     refine ⟨q.1, by show (Lr s k (i + 2) (i + 2)).1.length + 1 + i ≤ s.size; omega, fun x hx => ?_⟩
     rcases List.mem_cons.1 hx with rfl | hx
     ·rw [ByteArray.size_extract]; omega
     ·exact q.2.2 x hx
    ·have q := YI s k (i + 1) fr (by omega) (by omega)
     exact ⟨q.1, by omega, q.2.2⟩
   ·exact ⟨by show fr ≤ s.size; omega, by show 0 + i ≤ s.size; omega, fun x hx => by cases hx⟩
theorem gJ (s : ByteArray) : (OG s).length ≤ s.size ∧ (∀ x ∈ OG s, x.size ≤ s.size) ∧ (nB s).size ≤ s.size := by
 have q := YI s s.size 0 0 (Nat.le_refl _) (by omega)
 unfold OG nB
 exact ⟨by omega, q.2.2, by rw [ByteArray.size_extract]; omega⟩
def ko : Ct := Aj (lc Ak l0) (fun p => p.1.size ≤ 2000000) (fun p => .tup [.o true 1 ((OG p.1).map AG), .t (.v (.string (nB p.1)))])
section
attribute [local go_sem] lm List.map_nil List.length_append List.length_cons List.length_nil
set_option maxHeartbeats 1600000 in
theorem rX {G : Gt} (hG : Ac G) : Gd G 249 (AA 0 ko) := by
 refine gr (fn := Tryz.f249) (n := 1) rfl hG ?_ (hs := fun _ _ => .tup _ fun c hc => by
  simp only [List.mem_cons, List.not_mem_nil, or_false] at hc
  rcases hc with rfl | rfl
  ·exact .deep _ _
  ·exact .v _)
 rintro ⟨s, ⟨⟩⟩ hpre
 simp -implicitDefEqProofs only [Tryz.f249, go_sem, seval] at hpre ⊢
 with_reducible repeat' (first | apply ai | intro _ | ((first | apply s1 | apply s2 | apply s3 | apply s4) <;> intro hb <;> simp -implicitDefEqProofs only [hb, go_sem, seval] <;> try simp only [qz] at hb))
 all_goals first | rfl | omega | skip
 refine AC [(4, 901, true, 1)] (ι := {p : Nat × Nat × Nat × List ByteArray // p.2.2.1 ≤ p.2.1 ∧ (p.2.1 ≤ s.size ∧ p.2.2.2.length ≤ p.2.1 ∧ s.size ≤ p.1 + p.2.1) ∧ p.2.2.2 ++ (Lr s p.1 p.2.1 p.2.2.1).1 = OG s ∧ s.extract (Lr s p.1 p.2.1 p.2.2.1).2 s.size = nB s}) (fun p => ⟨[(0, .t (.v (.string s))), (4, .h 901), (5, .t (.v (.int .i64 p.1.2.2.1))), (6, .t (.v (.int .i64 p.1.2.1)))], [(901, some (.arr true 1 (p.1.2.2.2.map AG)))]⟩) (fun p => s.size - p.1.2.1) ⟨(s.size, 0, 0, []), by simp, by simp, rfl, rfl⟩ rfl ?_ ?_
 ·simp -implicitDefEqProofs only [go_sem, seval]
  try simp
 ·rintro ⟨⟨k, i, fr, out⟩, hf, ⟨hi, ho, hk⟩, h1, h2⟩
  dsimp only at hf hi ho hk h1 h2
  simp -implicitDefEqProofs only [go_sem, seval]
  with_reducible repeat' (first | apply ai | intro _ | ((first | apply s1 | apply s2 | apply s3 | apply s4) <;> intro hb <;> simp -implicitDefEqProofs only [hb, go_sem, seval] <;> try simp only [qz] at hb))
  all_goals (try simp only [maxLen, tn, zZ] at *)
  all_goals first
   | rfl
   | omega
   | (rename_i q; simp only [List.mem_singleton] at q; subst q; rfl)
   | (simp only [List.mem_singleton] at *; omega)
   | (rw [gI (by omega), List.append_nil] at h1; rw [h1]; done)
   | (rw [gI (by omega)] at h2; rw [← h2]; done)
   | (obtain ⟨k, rfl⟩ : ∃ j, k = j + 1 := ⟨k - 1, by omega⟩
      rw [vB (by omega) ⟨by assumption, by assumption⟩] at h1 h2
      refine ⟨⟨(k, i + 2, i + 2, out ++ [s.extract fr i]), by dsimp only; omega, ⟨by dsimp only; omega, by simp; omega, by dsimp only; omega⟩, by simpa using h1, h2⟩, by dsimp only; omega, ?_⟩
      simp -implicitDefEqProofs only [go_sem, seval]
      simp [AG]
      try omega
      done)
   | (obtain ⟨k, rfl⟩ : ∃ j, k = j + 1 := ⟨k - 1, by omega⟩
      rw [vA (by omega) (by omega)] at h1 h2
      refine ⟨⟨(k, i + 1, fr, out), by dsimp only; omega, ⟨by dsimp only; omega, by dsimp only; omega, by dsimp only; omega⟩, h1, h2⟩, by dsimp only; omega, ?_⟩
      simp -implicitDefEqProofs only [go_sem, seval]
      try simp
      done)
   | skip
end
def dg (n : Int) : ByteArray := Fu [48 + n]
theorem NN (n : Int) : (dg n).size = 1 := rfl
def NJ (n : Int) : ByteArray := if n < 10 then dg n else dg (n / 10) ++ dg (n % 10)
theorem NK {n : Int} (h : n < 10) : NJ n = dg n := if_pos h
theorem IM (n : Int) : 1 ≤ (NJ n).size ∧ (NJ n).size ≤ 2 := by
 unfold NJ
 split
 ·rw [NN]; omega
 ·rw [ByteArray.size_append, NN, NN]; omega
theorem mG {n : Int} (h : ¬ n < 10) : NJ n = dg (n / 10) ++ dg (n % 10) := if_neg h
def Sf : Ct := Aj (lc BU l0) (fun p => 0 ≤ p.1 ∧ p.1 < 10) (fun p => .t (.v (.string (NJ p.1))))
theorem Xv {G : Gt} (hG : Ac G) : Gd G 223 (AA 0 Sf) := by
 refine gr (fn := Tryz.f223) (n := 1) rfl hG ?_
 rintro ⟨n, ⟨⟩⟩ hpre
 simp -implicitDefEqProofs only [Tryz.f223, go_sem, seval] at hpre ⊢
 have h1 : 0 ≤ n := hpre.1
 have h2 : n < 10 := hpre.2
 with_reducible repeat' (first | apply ai | intro _ | ((first | apply s1 | apply s2 | apply s3 | apply s4) <;> intro hb <;> simp -implicitDefEqProofs only [hb, go_sem, seval] <;> try simp only [qz] at hb))
 all_goals (try simp only [maxLen, tn] at *)
 all_goals first | rfl | omega | (rw [NK h2]; rfl) | skip
def bg : Ct := Aj (lc BU l0) (fun p => 0 ≤ p.1 ∧ p.1 < 100) (fun p => .t (.v (.string (NJ p.1))))
section
attribute [local go_sem] Sf
theorem Xw {G : Gt} (hG : Ac G) (hh : G.e 223 = AA 0 Sf) : Gd G 223 (AA 0 bg) := by
 refine gr (fn := Tryz.f223) (n := 1) rfl hG ?_
 rintro ⟨n, ⟨⟩⟩ hpre
 simp -implicitDefEqProofs only [Tryz.f223, go_sem, hh, seval] at hpre ⊢
 have h1 : 0 ≤ n := hpre.1
 have h2 : n < 100 := hpre.2
 with_reducible repeat' (first | apply ai | intro _ | ((first | apply s1 | apply s2 | apply s3 | apply s4) <;> intro hb <;> simp -implicitDefEqProofs only [hb, go_sem, hh, seval] <;> try simp only [qz] at hb))
 all_goals (try simp only [maxLen, tn] at *)
 all_goals first | rfl | omega | (rw [NK (by omega)]; rfl) | (rw [mG (n := n) (by omega), NK (n := n / 10) (by omega)]; rfl) | (rw [NK (n := n / 10) (by omega)]; rfl) | (have := (IM (n / 10)).2; have e : (Fu [48 + n % 10]).size = 1 := rfl; omega) | skip
end
theorem q9 {G : Gt} (hG : Ac G) : Gd G 223 (AA 0 bg) := Xw (G := QK G.m [(223, AA 0 Sf)]) (AF P9 (Xv (G := QK G.m []) P9)) rfl
theorem BN {g : Prop} (c : Prop) (h1 : c → g) (h2 : ¬ c → g) : g := (Classical.em c).elim h1 h2
theorem zW : (1 : Int).toNat = 1 := rfl
theorem Ha {l : ByteArray} (h : ¬ l = ⟨#[]⟩) : (0 : Int) < l.size := by
 have : ¬ l.size = 0 := fun e => h (ByteArray.size_eq_zero_iff.1 e)
 omega
def Ur : Ml := ⟨⟨⟨#[]⟩, ⟨#[]⟩⟩, [], []⟩
def Ff (s : Ss) : Ss := ⟨s.state, Ur, false, s.buf⟩
theorem lJ (s : Ss) : Ff s = ⟨s.state, ⟨⟨⟨#[]⟩, ⟨#[]⟩⟩, [], []⟩, false, s.buf⟩ := rfl
open Classical in
noncomputable def Au (l : ByteArray) (w : ByteArray) : ByteArray × Bool := (if (l.size : Int) < w.size then (⟨#[]⟩, false) else (if l.extract 0 w.size = w then (l.extract w.size l.size, true) else (⟨#[]⟩, false)))
theorem eT {l : ByteArray} {w : ByteArray} (h0 : (l.size : Int) < w.size) : Au l w = (⟨#[]⟩, false) := by unfold Au; rw [if_pos h0]
theorem eU {l : ByteArray} {w : ByteArray} (h0 : ¬ ((l.size : Int) < w.size)) (h1 : l.extract 0 w.size = w) : Au l w = (l.extract w.size l.size, true) := by unfold Au; rw [if_neg h0, if_pos h1]
theorem eV {l : ByteArray} {w : ByteArray} (h0 : ¬ ((l.size : Int) < w.size)) (h1 : ¬ (l.extract 0 w.size = w)) : Au l w = (⟨#[]⟩, false) := by unfold Au; rw [if_neg h0, if_neg h1]
theorem N6 (l w : ByteArray) : (Au l w).1.size ≤ l.size := by
 unfold Au
 split
 ·exact Nat.zero_le _
 ·split
  ·show (l.extract w.size l.size).size ≤ _; rw [ByteArray.size_extract]; omega
  ·exact Nat.zero_le _
def kx : Ct := Aj (lc Ak (lc Ak l0)) (fun p => True) (fun p => .tup [.t (.v (.string (Au p.1 p.2.1).1)), .t (.v (.bool (Au p.1 p.2.1).2))])
section
attribute [local go_sem] tn
theorem rf {G : Gt} (hG : Ac G) : Gd G 256 (AA 0 kx) := by
 refine gr (fn := Tryz.f256) (n := 2) rfl hG ?_ (hs := fun _ _ => .tup _ fun c hc => by
  simp only [List.mem_cons, List.not_mem_nil, or_false] at hc
  rcases hc with rfl | rfl <;> exact .v _)
 rintro ⟨l, w, ⟨⟩⟩ hpre
 try dsimp only
 refine BN ((l.size : Int) < w.size) (fun h0 => have e_ : Au l w = _ := eT h0; have h1 := trivial; ?_) (fun h0 => BN (l.extract 0 w.size = w) (fun h1 => have e_ : Au l w = _ := eU h0 h1; ?_) (fun h1 => have e_ : Au l w = _ := eV h0 h1; ?_))
 all_goals
  try rw [e_]
  simp -implicitDefEqProofs only [Tryz.f256, h0, h1, eq_self, decide_true, decide_false, Int.reduceEq, go_sem, seval]
  with_reducible repeat' (first | apply ai | intro _ | ((first | apply s1 | apply s2 | apply s3 | apply s4) <;> intro hb <;> simp -implicitDefEqProofs only [hb, go_sem, seval] <;> try simp only [qz] at hb))
  all_goals (try simp only [maxLen, tn, lm] at *)
  all_goals first | rfl | omega | decide | with_reducible assumption | (show AZ _ = true; rfl) | exact Ha (by assumption) | contradiction | skip
end
def Qq : Ct := Aj (lc aU.ag l0) (fun p => True) (fun p => .agg ((Eb (Ff p.1)).map .t))
section
attribute [local go_sem] lJ AS.opn AS.cls AS.nilb AS.renb AS.up Bool.not_false Bool.not_true List.set_set List.set_cons_zero List.set_cons_succ List.set_nil List.mem_singleton forall_eq tn List.map_nil List.nil_append
theorem rY {G : Gt} (hG : Ac G) : Gd G 250 (AA 1 Qq) := by
 refine gr (fn := Tryz.f250) (n := 1) rfl hG ?_
 rintro ⟨s, ⟨⟩⟩ hpre
 simp -implicitDefEqProofs only [Tryz.f250, go_sem, seval] at hpre ⊢
 with_reducible repeat' (first | apply ai | intro _ | ((first | apply s1 | apply s2 | apply s3 | apply s4) <;> intro hb <;> simp -implicitDefEqProofs only [hb, go_sem, seval] <;> try simp only [qz] at hb))
 all_goals first | rfl | omega | decide | with_reducible assumption | (show AZ _ = true; rfl) | exact Ha (by assumption) | contradiction | skip
end
open Classical in
noncomputable def Ec (s : Ss) (t : ByteArray) : Ss × ByteArray := (if s.state = 1 then (if FE t then (⟨2, ⟨A0 t, [], []⟩, s.bad, s.buf⟩, ⟨#[50, 53, 48, 32, 102, 114, 111, 109]⟩) else (s, ⟨#[53, 48, 49, 32, 102, 111, 114, 109]⟩)) else (s, ⟨#[53, 48, 51, 32, 111, 114, 100, 101, 114]⟩))
theorem mX {s : Ss} {t : ByteArray} (h0 : s.state = 1) (h1 : FE t) : Ec s t = (⟨2, ⟨A0 t, [], []⟩, s.bad, s.buf⟩, ⟨#[50, 53, 48, 32, 102, 114, 111, 109]⟩) := by unfold Ec; rw [if_pos h0, if_pos h1]
theorem mY {s : Ss} {t : ByteArray} (h0 : s.state = 1) (h1 : ¬ (FE t)) : Ec s t = (s, ⟨#[53, 48, 49, 32, 102, 111, 114, 109]⟩) := by unfold Ec; rw [if_pos h0, if_neg h1]
theorem mZ {s : Ss} {t : ByteArray} (h0 : ¬ (s.state = 1)) : Ec s t = (s, ⟨#[53, 48, 51, 32, 111, 114, 100, 101, 114]⟩) := by unfold Ec; rw [if_neg h0]
def ky : Ct := Aj (lc aU.ag (lc Ak l0)) (fun p => p.2.1.size ≤ 2000000) (fun p => .tup [.agg ((Eb (Ec p.1 p.2.1).1).map .t), .t (.v (.string (Ec p.1 p.2.1).2))])
section
attribute [local go_sem] Qo Ic AS.opn AS.cls AS.nilb AS.renb AS.up Bool.not_false Bool.not_true List.set_set List.set_cons_zero List.set_cons_succ List.set_nil List.mem_singleton forall_eq tn List.map_nil List.nil_append
theorem rg {G : Gt} (hG : Ac G) (hh : G.e 167 = AA 0 Qo) : Gd G 257 (AA 1 ky) := by
 refine gr (fn := Tryz.f257) (n := 2) rfl hG ?_
 rintro ⟨s, t, ⟨⟩⟩ hpre
 have hz : t.size ≤ 2000000 := hpre
 try dsimp only
 refine BN (s.state = 1) (fun h0 => BN (FE t) (fun h1 => have h1' := An h1; have e_ : Ec s t = _ := mX h0 h1; ?_) (fun h1 => have h1' := AQ h1; have e_ : Ec s t = _ := mY h0 h1; ?_)) (fun h0 => have e_ : Ec s t = _ := mZ h0; have h1' := trivial; ?_)
 all_goals
  try rw [e_]
  simp -implicitDefEqProofs only [Tryz.f257, h0, h1', eq_self, decide_true, decide_false, Int.reduceEq, go_sem, hh, seval]
  with_reducible repeat' (first | apply ai | intro _ | ((first | apply s1 | apply s2 | apply s3 | apply s4) <;> intro hb <;> simp -implicitDefEqProofs only [hb, go_sem, hh, seval] <;> try simp only [qz] at hb))
  all_goals (try simp only [maxLen, tn, lm] at *)
  all_goals first | rfl | omega | decide | with_reducible assumption | (show AZ _ = true; rfl) | exact Ha (by assumption) | contradiction | skip
end
theorem w9 {a b : Ad} : (decide (a.user = b.user) && decide (a.domain = b.domain)) = decide (a = b) := by
 rw [← Bool.decide_and]; exact decide_eq_decide.2 BV.symm
theorem zS {b : Bool} : ((false != b) = true) = (b = true) := by cases b <;> rfl
theorem zR {b : Bool} : ((false != b) = false) = (b = false) := by cases b <;> rfl
theorem YK {α : Type} [Inhabited α] {xs : List α} {i : Nat} {a : α} (h : i < xs.length) (e : xs.getD i default = a) : a ∈ xs := e ▸ AB h
theorem Yd {α : Type} [Inhabited α] {xs : List α} {i : Nat} {a : α} (h : xs.length ≤ i) (hall : ∀ j, j < i → ¬ xs.getD j default = a) : ¬ a ∈ xs := fun q => by
 obtain ⟨k, hk, e⟩ := List.getElem_of_mem q
 exact hall k (by omega) (by simpa [hk] using e)
open Classical in
noncomputable def Hr (c : Cf) (s : Ss) (t : ByteArray) : Ss × ByteArray := (if s.state = 2 ∨ s.state = 3 then (if FE t then (if AN (A0 t) then (s, ⟨#[53, 48, 49, 32, 102, 111, 114, 109]⟩) else (if J0 c (A0 t) then (if A0 t ∈ s.mail.to then (s, ⟨#[50, 53, 48, 32, 116, 111]⟩) else (if (s.mail.to.length : Int) ≥ 4 then (s, ⟨#[52, 53, 50, 32, 109, 97, 110, 121]⟩) else (⟨3, ⟨s.mail.frm, s.mail.to ++ [A0 t], s.mail.body⟩, s.bad, s.buf⟩, ⟨#[50, 53, 48, 32, 116, 111]⟩))) else (s, ⟨#[53, 53, 48, 32, 110, 111, 98, 111, 100, 121]⟩))) else (s, ⟨#[53, 48, 49, 32, 102, 111, 114, 109]⟩)) else (s, ⟨#[53, 48, 51, 32, 111, 114, 100, 101, 114]⟩))
theorem wC {c : Cf} {s : Ss} {t : ByteArray} (h0 : s.state = 2 ∨ s.state = 3) (h1 : FE t) (h2 : AN (A0 t)) : Hr c s t = (s, ⟨#[53, 48, 49, 32, 102, 111, 114, 109]⟩) := by unfold Hr; rw [if_pos h0, if_pos h1, if_pos h2]
theorem wD {c : Cf} {s : Ss} {t : ByteArray} (h0 : s.state = 2 ∨ s.state = 3) (h1 : FE t) (h2 : ¬ (AN (A0 t))) (h3 : J0 c (A0 t)) (h4 : A0 t ∈ s.mail.to) : Hr c s t = (s, ⟨#[50, 53, 48, 32, 116, 111]⟩) := by unfold Hr; rw [if_pos h0, if_pos h1, if_neg h2, if_pos h3, if_pos h4]
theorem wE {c : Cf} {s : Ss} {t : ByteArray} (h0 : s.state = 2 ∨ s.state = 3) (h1 : FE t) (h2 : ¬ (AN (A0 t))) (h3 : J0 c (A0 t)) (h4 : ¬ (A0 t ∈ s.mail.to)) (h5 : (s.mail.to.length : Int) ≥ 4) : Hr c s t = (s, ⟨#[52, 53, 50, 32, 109, 97, 110, 121]⟩) := by unfold Hr; rw [if_pos h0, if_pos h1, if_neg h2, if_pos h3, if_neg h4, if_pos h5]
theorem wF {c : Cf} {s : Ss} {t : ByteArray} (h0 : s.state = 2 ∨ s.state = 3) (h1 : FE t) (h2 : ¬ (AN (A0 t))) (h3 : J0 c (A0 t)) (h4 : ¬ (A0 t ∈ s.mail.to)) (h5 : ¬ ((s.mail.to.length : Int) ≥ 4)) : Hr c s t = (⟨3, ⟨s.mail.frm, s.mail.to ++ [A0 t], s.mail.body⟩, s.bad, s.buf⟩, ⟨#[50, 53, 48, 32, 116, 111]⟩) := by unfold Hr; rw [if_pos h0, if_pos h1, if_neg h2, if_pos h3, if_neg h4, if_neg h5]
theorem wG {c : Cf} {s : Ss} {t : ByteArray} (h0 : s.state = 2 ∨ s.state = 3) (h1 : FE t) (h2 : ¬ (AN (A0 t))) (h3 : ¬ (J0 c (A0 t))) : Hr c s t = (s, ⟨#[53, 53, 48, 32, 110, 111, 98, 111, 100, 121]⟩) := by unfold Hr; rw [if_pos h0, if_pos h1, if_neg h2, if_neg h3]
theorem wH {c : Cf} {s : Ss} {t : ByteArray} (h0 : s.state = 2 ∨ s.state = 3) (h1 : ¬ (FE t)) : Hr c s t = (s, ⟨#[53, 48, 49, 32, 102, 111, 114, 109]⟩) := by unfold Hr; rw [if_pos h0, if_neg h1]
theorem wI {c : Cf} {s : Ss} {t : ByteArray} (h0 : ¬ (s.state = 2 ∨ s.state = 3)) : Hr c s t = (s, ⟨#[53, 48, 51, 32, 111, 114, 100, 101, 114]⟩) := by unfold Hr; rw [if_neg h0]
def kz : Ct := Aj (lc JS.ag (lc aU.ag (lc Ak l0))) (fun p => p.2.2.1.size ≤ 2000000 ∧ p.2.1.mail.to.length ≤ 1000) (fun p => .tup [.agg ((Eb (Hr p.1 p.2.1 p.2.2.1).1).map .t), .t (.v (.string (Hr p.1 p.2.1 p.2.2.1).2))])
section
attribute [local go_sem] Qo NB k6 Ic AS.opn AS.cls AS.nilb AS.renb AS.up Bool.not_false Bool.not_true List.set_set List.set_cons_zero List.set_cons_succ List.set_nil List.mem_singleton forall_eq tn List.map_nil List.nil_append
set_option maxHeartbeats 3200000 in
theorem rh {G : Gt} (hG : Ac G) (hh : G.e 167 = AA 0 Qo ∧ G.e 62 = AA 0 NB ∧ G.e 259 = AA 0 k6) : Gd G 258 (AA 1 kz) := by
 refine gr (fn := Tryz.f258) (n := 3) rfl hG ?_
 rintro ⟨c, s, t, ⟨⟩⟩ hpre
 obtain ⟨hz, hn⟩ := hpre
 try dsimp only at hz hn ⊢
 refine BN (s.state = 2 ∨ s.state = 3) (fun h0 => BN (FE t) (fun h1 => have h1' := An h1; BN (AN (A0 t)) (fun h2 => have h2' := An h2; have e_ : Hr c s t = _ := wC h0 h1 h2; have h3' := trivial; ?_) (fun h2 => have h2' := AQ h2; BN (J0 c (A0 t)) (fun h3 => have h3' := An h3; ?w1) (fun h3 => have h3' := AQ h3; have e_ : Hr c s t = _ := wG h0 h1 h2 h3; ?_))) (fun h1 => have h1' := AQ h1; have e_ : Hr c s t = _ := wH h0 h1; have h2' := trivial; have h3' := trivial; ?_)) (fun h0 => have e_ : Hr c s t = _ := wI h0; have h1' := trivial; have h2' := trivial; have h3' := trivial; ?_)
 case w1 =>
  simp -implicitDefEqProofs only [Tryz.f258, h0, h1', h2', h3', eq_self, decide_true, decide_false, go_sem, hh, seval]
  with_reducible repeat' (first | apply ai | intro _ | ((first | apply s1 | apply s2 | apply s3 | apply s4) <;> intro hb <;> simp -implicitDefEqProofs only [hb, go_sem, hh, seval] <;> try simp only [qz] at hb))
  all_goals (try simp only [maxLen, tn, lm] at *)
  all_goals first | rfl | omega | decide | with_reducible assumption | (show AZ _ = true; rfl) | exact Ha (by assumption) | contradiction | skip
  all_goals
   refine AC [] (ι := {i : Nat // i ≤ s.mail.to.length ∧ ∀ j, j < i → ¬ s.mail.to.getD j default = A0 t}) (fun p => ⟨[(4, .pb 1004 0), (6, .pb 1006 0), (8, .pb 1008 0), (10, .t (.v (.int .i64 p.1)))], [(1004, some (.box ((Eb s).map .t))), (1006, some (.box [.t (.v (.int .i64 0)), .t (.v (.string ⟨#[]⟩)), .t (.v (.string ⟨#[]⟩)), .nil, .nil, .t (.v (.bool false)), .t (.v (.string ⟨#[]⟩))])), (1008, some (.box [.t (.v (.string (A0 t).user)), .t (.v (.string (A0 t).domain))]))]⟩) (fun p => s.mail.to.length - p.1) ⟨0, by simp, by simp⟩ rfl ?_ ?_
   ·simp -implicitDefEqProofs only [go_sem, hh, seval]
    try simp
   ·rintro ⟨i, hi, hall⟩
    simp -implicitDefEqProofs only [go_sem, hh, seval]
    with_reducible repeat' (first | apply ai | intro _ | ((first | apply s1 | apply s2 | apply s3 | apply s4) <;> intro hb <;> simp -implicitDefEqProofs only [hb, go_sem, hh, seval] <;> try simp only [qz] at hb))
    all_goals (try simp only [maxLen, tn, lm, w9, zS, zR, qa, qb] at *)
    all_goals first
     | rfl | omega | decide | with_reducible assumption | (show AZ _ = true; rfl) | exact Ha (by assumption) | contradiction
     | (rw [wD h0 h1 h2 h3 (YK (xs := s.mail.to) (i := i) (by omega) (by assumption))]; first | done | rfl)
     | (rw [wE h0 h1 h2 h3 (Yd (by omega) hall) (by omega)]; first | done | rfl)
     | (rw [wF h0 h1 h2 h3 (Yd (by omega) hall) (by omega)]; first | done | rfl | (simp [Ap]; done))
     | (refine ⟨⟨i + 1, by omega, fun j hj => ?_⟩, by dsimp only; omega, ?_⟩
        ·by_cases e : j = i
         ·subst e; assumption
         ·exact hall j (by omega)
        ·simp -implicitDefEqProofs only [go_sem, hh, seval]
         simp)
     | skip
 all_goals
  try rw [e_]
  simp -implicitDefEqProofs only [Tryz.f258, h0, h1', h2', h3', eq_self, decide_true, decide_false, Int.reduceEq, go_sem, hh, seval]
  with_reducible repeat' (first | apply ai | intro _ | ((first | apply s1 | apply s2 | apply s3 | apply s4) <;> intro hb <;> simp -implicitDefEqProofs only [hb, go_sem, hh, seval] <;> try simp only [qz] at hb))
  all_goals (try simp only [maxLen, tn, lm] at *)
  all_goals first | rfl | omega | decide | with_reducible assumption | (show AZ _ = true; rfl) | exact Ha (by assumption) | contradiction | skip
end
end Go.V
