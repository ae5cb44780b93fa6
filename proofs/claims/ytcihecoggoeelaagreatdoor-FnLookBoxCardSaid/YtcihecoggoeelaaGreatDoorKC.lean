/- The row. No condition. -/
import Derived.Test.YtcihecoggoeelaaGreatDoorKB
import Derived.Test.YtcihecoggoeelaaGreatDoorXB
namespace Go.V
open Go Go.Proofs
set_option maxRecDepth 100000
set_option linter.unusedSimpArgs false
set_option linter.unusedVariables false
open Classical in
noncomputable def Aj (s : Ss) (l : ByteArray) : (Ss × ByteArray) × Bool := (if l = ⟨#[46]⟩ then (if s.bad = true then ((⟨1, s.mail, s.bad, s.buf⟩, ⟨#[53, 53, 52, 32, 110, 111]⟩), false) else (if Ck s.mail.body then (if (s.mail.body.length : Int) ≥ 12 then ((⟨1, s.mail, s.bad, s.buf⟩, ⟨#[53, 53, 52, 32, 110, 111]⟩), false) else (if (EC s.mail.body : Int) ≥ 4 then ((⟨1, s.mail, s.bad, s.buf⟩, ⟨#[53, 53, 52, 32, 114, 111, 117, 110, 100]⟩), false) else ((⟨1, s.mail, s.bad, s.buf⟩, ⟨#[50, 53, 48, 32, 116, 97, 107, 101, 110]⟩), true))) else ((⟨1, s.mail, s.bad, s.buf⟩, ⟨#[53, 53, 52, 32, 110, 111]⟩), false))) else (if l = ⟨#[]⟩ then (if (s.mail.body.length : Int) ≥ 12 then ((⟨s.state, s.mail, true, s.buf⟩, ⟨#[]⟩), false) else (if IH l then ((⟨s.state, ⟨s.mail.frm, s.mail.to, s.mail.body ++ [l]⟩, s.bad, s.buf⟩, ⟨#[]⟩), false) else ((⟨s.state, s.mail, true, s.buf⟩, ⟨#[]⟩), false))) else (if AF l 0 = 46 then (if (s.mail.body.length : Int) ≥ 12 then ((⟨s.state, s.mail, true, s.buf⟩, ⟨#[]⟩), false) else (if IH (l.extract 1 l.size) then ((⟨s.state, ⟨s.mail.frm, s.mail.to, s.mail.body ++ [l.extract 1 l.size]⟩, s.bad, s.buf⟩, ⟨#[]⟩), false) else ((⟨s.state, s.mail, true, s.buf⟩, ⟨#[]⟩), false))) else (if (s.mail.body.length : Int) ≥ 12 then ((⟨s.state, s.mail, true, s.buf⟩, ⟨#[]⟩), false) else (if IH l then ((⟨s.state, ⟨s.mail.frm, s.mail.to, s.mail.body ++ [l]⟩, s.bad, s.buf⟩, ⟨#[]⟩), false) else ((⟨s.state, s.mail, true, s.buf⟩, ⟨#[]⟩), false))))))
theorem pF {s : Ss} {l : ByteArray} (h0 : l = ⟨#[46]⟩) (h1 : s.bad = true) : Aj s l = ((⟨1, s.mail, s.bad, s.buf⟩, ⟨#[53, 53, 52, 32, 110, 111]⟩), false) := by unfold Aj; rw [if_pos h0, if_pos h1]
theorem pG {s : Ss} {l : ByteArray} (h0 : l = ⟨#[46]⟩) (h1 : ¬ (s.bad = true)) (h2 : Ck s.mail.body) (h3 : (s.mail.body.length : Int) ≥ 12) : Aj s l = ((⟨1, s.mail, s.bad, s.buf⟩, ⟨#[53, 53, 52, 32, 110, 111]⟩), false) := by unfold Aj; rw [if_pos h0, if_neg h1, if_pos h2, if_pos h3]
theorem pH {s : Ss} {l : ByteArray} (h0 : l = ⟨#[46]⟩) (h1 : ¬ (s.bad = true)) (h2 : Ck s.mail.body) (h3 : ¬ ((s.mail.body.length : Int) ≥ 12)) (h4 : (EC s.mail.body : Int) ≥ 4) : Aj s l = ((⟨1, s.mail, s.bad, s.buf⟩, ⟨#[53, 53, 52, 32, 114, 111, 117, 110, 100]⟩), false) := by unfold Aj; rw [if_pos h0, if_neg h1, if_pos h2, if_neg h3, if_pos h4]
theorem pI {s : Ss} {l : ByteArray} (h0 : l = ⟨#[46]⟩) (h1 : ¬ (s.bad = true)) (h2 : Ck s.mail.body) (h3 : ¬ ((s.mail.body.length : Int) ≥ 12)) (h4 : ¬ ((EC s.mail.body : Int) ≥ 4)) : Aj s l = ((⟨1, s.mail, s.bad, s.buf⟩, ⟨#[50, 53, 48, 32, 116, 97, 107, 101, 110]⟩), true) := by unfold Aj; rw [if_pos h0, if_neg h1, if_pos h2, if_neg h3, if_neg h4]
theorem pJ {s : Ss} {l : ByteArray} (h0 : l = ⟨#[46]⟩) (h1 : ¬ (s.bad = true)) (h2 : ¬ (Ck s.mail.body)) : Aj s l = ((⟨1, s.mail, s.bad, s.buf⟩, ⟨#[53, 53, 52, 32, 110, 111]⟩), false) := by unfold Aj; rw [if_pos h0, if_neg h1, if_neg h2]
theorem pK {s : Ss} {l : ByteArray} (h0 : ¬ (l = ⟨#[46]⟩)) (h1 : l = ⟨#[]⟩) (h2 : (s.mail.body.length : Int) ≥ 12) : Aj s l = ((⟨s.state, s.mail, true, s.buf⟩, ⟨#[]⟩), false) := by unfold Aj; rw [if_neg h0, if_pos h1, if_pos h2]
theorem pL {s : Ss} {l : ByteArray} (h0 : ¬ (l = ⟨#[46]⟩)) (h1 : l = ⟨#[]⟩) (h2 : ¬ ((s.mail.body.length : Int) ≥ 12)) (h3 : IH l) : Aj s l = ((⟨s.state, ⟨s.mail.frm, s.mail.to, s.mail.body ++ [l]⟩, s.bad, s.buf⟩, ⟨#[]⟩), false) := by unfold Aj; rw [if_neg h0, if_pos h1, if_neg h2, if_pos h3]
theorem pM {s : Ss} {l : ByteArray} (h0 : ¬ (l = ⟨#[46]⟩)) (h1 : l = ⟨#[]⟩) (h2 : ¬ ((s.mail.body.length : Int) ≥ 12)) (h3 : ¬ (IH l)) : Aj s l = ((⟨s.state, s.mail, true, s.buf⟩, ⟨#[]⟩), false) := by unfold Aj; rw [if_neg h0, if_pos h1, if_neg h2, if_neg h3]
theorem pN {s : Ss} {l : ByteArray} (h0 : ¬ (l = ⟨#[46]⟩)) (h1 : ¬ (l = ⟨#[]⟩)) (h2 : AF l 0 = 46) (h3 : (s.mail.body.length : Int) ≥ 12) : Aj s l = ((⟨s.state, s.mail, true, s.buf⟩, ⟨#[]⟩), false) := by unfold Aj; rw [if_neg h0, if_neg h1, if_pos h2, if_pos h3]
theorem pO {s : Ss} {l : ByteArray} (h0 : ¬ (l = ⟨#[46]⟩)) (h1 : ¬ (l = ⟨#[]⟩)) (h2 : AF l 0 = 46) (h3 : ¬ ((s.mail.body.length : Int) ≥ 12)) (h4 : IH (l.extract 1 l.size)) : Aj s l = ((⟨s.state, ⟨s.mail.frm, s.mail.to, s.mail.body ++ [l.extract 1 l.size]⟩, s.bad, s.buf⟩, ⟨#[]⟩), false) := by unfold Aj; rw [if_neg h0, if_neg h1, if_pos h2, if_neg h3, if_pos h4]
theorem eS {s : Ss} {l : ByteArray} (h0 : ¬ (l = ⟨#[46]⟩)) (h1 : ¬ (l = ⟨#[]⟩)) (h2 : AF l 0 = 46) (h3 : ¬ ((s.mail.body.length : Int) ≥ 12)) (h4 : ¬ (IH (l.extract 1 l.size))) : Aj s l = ((⟨s.state, s.mail, true, s.buf⟩, ⟨#[]⟩), false) := by unfold Aj; rw [if_neg h0, if_neg h1, if_pos h2, if_neg h3, if_neg h4]
theorem eT {s : Ss} {l : ByteArray} (h0 : ¬ (l = ⟨#[46]⟩)) (h1 : ¬ (l = ⟨#[]⟩)) (h2 : ¬ (AF l 0 = 46)) (h3 : (s.mail.body.length : Int) ≥ 12) : Aj s l = ((⟨s.state, s.mail, true, s.buf⟩, ⟨#[]⟩), false) := by unfold Aj; rw [if_neg h0, if_neg h1, if_neg h2, if_pos h3]
theorem eU {s : Ss} {l : ByteArray} (h0 : ¬ (l = ⟨#[46]⟩)) (h1 : ¬ (l = ⟨#[]⟩)) (h2 : ¬ (AF l 0 = 46)) (h3 : ¬ ((s.mail.body.length : Int) ≥ 12)) (h4 : IH l) : Aj s l = ((⟨s.state, ⟨s.mail.frm, s.mail.to, s.mail.body ++ [l]⟩, s.bad, s.buf⟩, ⟨#[]⟩), false) := by unfold Aj; rw [if_neg h0, if_neg h1, if_neg h2, if_neg h3, if_pos h4]
theorem eV {s : Ss} {l : ByteArray} (h0 : ¬ (l = ⟨#[46]⟩)) (h1 : ¬ (l = ⟨#[]⟩)) (h2 : ¬ (AF l 0 = 46)) (h3 : ¬ ((s.mail.body.length : Int) ≥ 12)) (h4 : ¬ (IH l)) : Aj s l = ((⟨s.state, s.mail, true, s.buf⟩, ⟨#[]⟩), false) := by unfold Aj; rw [if_neg h0, if_neg h1, if_neg h2, if_neg h3, if_neg h4]
def oS : Ct := Ar (lc dQ.ag (lc Ax l0)) (fun p => p.1.mail.body.length ≤ 1000) (fun p => .tup [.agg ((Es (Aj p.1 p.2.1).1.1).map .t), .t (.v (.string (Aj p.1 p.2.1).1.2)), .t (.v (.bool (Aj p.1 p.2.1).2))])
section
attribute [local go_sem] NS oW RT Int.toNat_zero zH AS.opn AS.cls AS.nilb AS.renb AS.up Bool.not_false Bool.not_true List.set_set List.set_cons_zero List.set_cons_succ List.set_nil List.mem_singleton forall_eq tn List.map_nil List.nil_append
set_option maxHeartbeats 3200000 in
theorem iR {G : Gt} (hG : Ah G) (hh : G.e 120 = AA 0 NS ∧ G.e 225 = AA 0 oW ∧ G.e 108 = AA 0 RT) : Gd G 221 (AA 1 oS) := by
 refine gr (fn := Tryz.f221) (n := 2) rfl rfl hG ?_
 rintro ⟨s, l, ⟨⟩⟩ hpre
 have hn : s.mail.body.length ≤ 1000 := hpre
 try dsimp only
 refine BJ (l = ⟨#[46]⟩) (fun h0 => BJ (s.bad = true) (fun h1 => have hx := And.intro (pF h0 h1 : Aj s l = _) (And.intro h0 h1); ?_) (fun h1 => have h1' := (Bool.not_eq_true _).mp h1; BJ (Ck s.mail.body) (fun h2 => have h2' := Ap h2; BJ ((s.mail.body.length : Int) ≥ 12) (fun h3 => have hx := And.intro (pG h0 h1 h2 h3 : Aj s l = _) (And.intro h0 (And.intro h1' (And.intro h2' h3))); ?_) (fun h3 => BJ ((EC s.mail.body : Int) ≥ 4) (fun h4 => have hx := And.intro (pH h0 h1 h2 h3 h4 : Aj s l = _) (And.intro h0 (And.intro h1' (And.intro h2' (And.intro h3 h4)))); ?_) (fun h4 => have hx := And.intro (pI h0 h1 h2 h3 h4 : Aj s l = _) (And.intro h0 (And.intro h1' (And.intro h2' (And.intro h3 h4)))); ?_))) (fun h2 => have h2' := AQ h2; have hx := And.intro (pJ h0 h1 h2 : Aj s l = _) (And.intro h0 (And.intro h1' h2')); ?_))) (fun h0 => BJ (l = ⟨#[]⟩) (fun h1 => BJ ((s.mail.body.length : Int) ≥ 12) (fun h2 => have hx := And.intro (pK h0 h1 h2 : Aj s l = _) (And.intro h0 (And.intro h1 h2)); ?_) (fun h2 => BJ (IH l) (fun h3 => have h3' := Ap h3; have hx := And.intro (pL h0 h1 h2 h3 : Aj s l = _) (And.intro h0 (And.intro h1 (And.intro h2 h3'))); ?_) (fun h3 => have h3' := AQ h3; have hx := And.intro (pM h0 h1 h2 h3 : Aj s l = _) (And.intro h0 (And.intro h1 (And.intro h2 h3'))); ?_))) (fun h1 => BJ (AF l 0 = 46) (fun h2 => BJ ((s.mail.body.length : Int) ≥ 12) (fun h3 => have hx := And.intro (pN h0 h1 h2 h3 : Aj s l = _) (And.intro h0 (And.intro h1 (And.intro h2 h3))); ?_) (fun h3 => BJ (IH (l.extract 1 l.size)) (fun h4 => have h4' := Ap h4; have hx := And.intro (pO h0 h1 h2 h3 h4 : Aj s l = _) (And.intro h0 (And.intro h1 (And.intro h2 (And.intro h3 h4')))); ?_) (fun h4 => have h4' := AQ h4; have hx := And.intro (eS h0 h1 h2 h3 h4 : Aj s l = _) (And.intro h0 (And.intro h1 (And.intro h2 (And.intro h3 h4')))); ?_))) (fun h2 => BJ ((s.mail.body.length : Int) ≥ 12) (fun h3 => have hx := And.intro (eT h0 h1 h2 h3 : Aj s l = _) (And.intro h0 (And.intro h1 (And.intro h2 h3))); ?_) (fun h3 => BJ (IH l) (fun h4 => have h4' := Ap h4; have hx := And.intro (eU h0 h1 h2 h3 h4 : Aj s l = _) (And.intro h0 (And.intro h1 (And.intro h2 (And.intro h3 h4')))); ?_) (fun h4 => have h4' := AQ h4; have hx := And.intro (eV h0 h1 h2 h3 h4 : Aj s l = _) (And.intro h0 (And.intro h1 (And.intro h2 (And.intro h3 h4')))); ?_)))))
 all_goals
  try rw [hx.1]
  simp -implicitDefEqProofs only [Tryz.f221, hx, eq_self, decide_true, decide_false, Int.reduceEq, go_sem, hh, seval]
  with_reducible repeat' (first | apply ai | intro _ | ((first | apply s1 | apply s3 | apply s4) <;> intro hb <;> simp -implicitDefEqProofs only [hb, go_sem, hh, seval] <;> try simp only [qz] at hb))
  all_goals (try simp only [maxLen, tn, lm] at *)
  all_goals first | rfl | omega | decide | with_reducible assumption | (show Aa _ = true; rfl) | exact Ht (by assumption) | contradiction | (subst h1; contradiction) | (subst h1; exact absurd rfl (by assumption)) | (simp [AH]; done) | skip
end
open Classical in
noncomputable def Bc (c : Cf) (s : Ss) (l : ByteArray) : Ss × ByteArray := (if (Au l ⟨#[72, 69, 76, 79, 32]⟩).2 = true then (if D9 (Au l ⟨#[72, 69, 76, 79, 32]⟩).1 then (Fi ⟨1, s.mail, s.bad, s.buf⟩, ⟨#[50, 53, 48, 32]⟩ ++ c.name) else (s, ⟨#[53, 48, 49, 32, 102, 111, 114, 109]⟩)) else (if l = ⟨#[81, 85, 73, 84]⟩ then (Fi ⟨5, s.mail, s.bad, s.buf⟩, ⟨#[50, 50, 49, 32, 98, 121, 101]⟩) else (if l = ⟨#[78, 79, 79, 80]⟩ then (s, ⟨#[50, 53, 48, 32, 111, 107]⟩) else (if l = ⟨#[82, 83, 69, 84]⟩ then (if s.state = 0 then (Fi s, ⟨#[50, 53, 48, 32, 111, 107]⟩) else (Fi ⟨1, s.mail, s.bad, s.buf⟩, ⟨#[50, 53, 48, 32, 111, 107]⟩)) else (if (Au l ⟨#[77, 65, 73, 76, 32, 70, 82, 79, 77, 58]⟩).2 = true then Et s (Au l ⟨#[77, 65, 73, 76, 32, 70, 82, 79, 77, 58]⟩).1 else (if (Au l ⟨#[82, 67, 80, 84, 32, 84, 79, 58]⟩).2 = true then H9 c s (Au l ⟨#[82, 67, 80, 84, 32, 84, 79, 58]⟩).1 else (if l = ⟨#[68, 65, 84, 65]⟩ then (if s.state = 3 then (⟨4, s.mail, s.bad, s.buf⟩, ⟨#[51, 53, 52, 32, 103, 111, 32, 111, 110]⟩) else (s, ⟨#[53, 48, 51, 32, 111, 114, 100, 101, 114]⟩)) else (s, ⟨#[53, 48, 48, 32, 119, 104, 97, 116]⟩))))))))
theorem og {c : Cf} {s : Ss} {l : ByteArray} (h0 : (Au l ⟨#[72, 69, 76, 79, 32]⟩).2 = true) (h1 : D9 (Au l ⟨#[72, 69, 76, 79, 32]⟩).1) : Bc c s l = (Fi ⟨1, s.mail, s.bad, s.buf⟩, ⟨#[50, 53, 48, 32]⟩ ++ c.name) := by unfold Bc; rw [if_pos h0, if_pos h1]
theorem oh {c : Cf} {s : Ss} {l : ByteArray} (h0 : (Au l ⟨#[72, 69, 76, 79, 32]⟩).2 = true) (h1 : ¬ (D9 (Au l ⟨#[72, 69, 76, 79, 32]⟩).1)) : Bc c s l = (s, ⟨#[53, 48, 49, 32, 102, 111, 114, 109]⟩) := by unfold Bc; rw [if_pos h0, if_neg h1]
theorem ol {c : Cf} {s : Ss} {l : ByteArray} (h0 : ¬ ((Au l ⟨#[72, 69, 76, 79, 32]⟩).2 = true)) (h1 : l = ⟨#[81, 85, 73, 84]⟩) : Bc c s l = (Fi ⟨5, s.mail, s.bad, s.buf⟩, ⟨#[50, 50, 49, 32, 98, 121, 101]⟩) := by unfold Bc; rw [if_neg h0, if_pos h1]
theorem oo {c : Cf} {s : Ss} {l : ByteArray} (h0 : ¬ ((Au l ⟨#[72, 69, 76, 79, 32]⟩).2 = true)) (h1 : ¬ (l = ⟨#[81, 85, 73, 84]⟩)) (h2 : l = ⟨#[78, 79, 79, 80]⟩) : Bc c s l = (s, ⟨#[50, 53, 48, 32, 111, 107]⟩) := by unfold Bc; rw [if_neg h0, if_neg h1, if_pos h2]
theorem ot {c : Cf} {s : Ss} {l : ByteArray} (h0 : ¬ ((Au l ⟨#[72, 69, 76, 79, 32]⟩).2 = true)) (h1 : ¬ (l = ⟨#[81, 85, 73, 84]⟩)) (h2 : ¬ (l = ⟨#[78, 79, 79, 80]⟩)) (h3 : l = ⟨#[82, 83, 69, 84]⟩) (h4 : s.state = 0) : Bc c s l = (Fi s, ⟨#[50, 53, 48, 32, 111, 107]⟩) := by unfold Bc; rw [if_neg h0, if_neg h1, if_neg h2, if_pos h3, if_pos h4]
theorem ou {c : Cf} {s : Ss} {l : ByteArray} (h0 : ¬ ((Au l ⟨#[72, 69, 76, 79, 32]⟩).2 = true)) (h1 : ¬ (l = ⟨#[81, 85, 73, 84]⟩)) (h2 : ¬ (l = ⟨#[78, 79, 79, 80]⟩)) (h3 : l = ⟨#[82, 83, 69, 84]⟩) (h4 : ¬ (s.state = 0)) : Bc c s l = (Fi ⟨1, s.mail, s.bad, s.buf⟩, ⟨#[50, 53, 48, 32, 111, 107]⟩) := by unfold Bc; rw [if_neg h0, if_neg h1, if_neg h2, if_pos h3, if_neg h4]
theorem ov {c : Cf} {s : Ss} {l : ByteArray} (h0 : ¬ ((Au l ⟨#[72, 69, 76, 79, 32]⟩).2 = true)) (h1 : ¬ (l = ⟨#[81, 85, 73, 84]⟩)) (h2 : ¬ (l = ⟨#[78, 79, 79, 80]⟩)) (h3 : ¬ (l = ⟨#[82, 83, 69, 84]⟩)) (h4 : (Au l ⟨#[77, 65, 73, 76, 32, 70, 82, 79, 77, 58]⟩).2 = true) : Bc c s l = Et s (Au l ⟨#[77, 65, 73, 76, 32, 70, 82, 79, 77, 58]⟩).1 := by unfold Bc; rw [if_neg h0, if_neg h1, if_neg h2, if_neg h3, if_pos h4]
theorem ow {c : Cf} {s : Ss} {l : ByteArray} (h0 : ¬ ((Au l ⟨#[72, 69, 76, 79, 32]⟩).2 = true)) (h1 : ¬ (l = ⟨#[81, 85, 73, 84]⟩)) (h2 : ¬ (l = ⟨#[78, 79, 79, 80]⟩)) (h3 : ¬ (l = ⟨#[82, 83, 69, 84]⟩)) (h4 : ¬ ((Au l ⟨#[77, 65, 73, 76, 32, 70, 82, 79, 77, 58]⟩).2 = true)) (h5 : (Au l ⟨#[82, 67, 80, 84, 32, 84, 79, 58]⟩).2 = true) : Bc c s l = H9 c s (Au l ⟨#[82, 67, 80, 84, 32, 84, 79, 58]⟩).1 := by unfold Bc; rw [if_neg h0, if_neg h1, if_neg h2, if_neg h3, if_neg h4, if_pos h5]
theorem ox {c : Cf} {s : Ss} {l : ByteArray} (h0 : ¬ ((Au l ⟨#[72, 69, 76, 79, 32]⟩).2 = true)) (h1 : ¬ (l = ⟨#[81, 85, 73, 84]⟩)) (h2 : ¬ (l = ⟨#[78, 79, 79, 80]⟩)) (h3 : ¬ (l = ⟨#[82, 83, 69, 84]⟩)) (h4 : ¬ ((Au l ⟨#[77, 65, 73, 76, 32, 70, 82, 79, 77, 58]⟩).2 = true)) (h5 : ¬ ((Au l ⟨#[82, 67, 80, 84, 32, 84, 79, 58]⟩).2 = true)) (h6 : l = ⟨#[68, 65, 84, 65]⟩) (h7 : s.state = 3) : Bc c s l = (⟨4, s.mail, s.bad, s.buf⟩, ⟨#[51, 53, 52, 32, 103, 111, 32, 111, 110]⟩) := by unfold Bc; rw [if_neg h0, if_neg h1, if_neg h2, if_neg h3, if_neg h4, if_neg h5, if_pos h6, if_pos h7]
theorem oy {c : Cf} {s : Ss} {l : ByteArray} (h0 : ¬ ((Au l ⟨#[72, 69, 76, 79, 32]⟩).2 = true)) (h1 : ¬ (l = ⟨#[81, 85, 73, 84]⟩)) (h2 : ¬ (l = ⟨#[78, 79, 79, 80]⟩)) (h3 : ¬ (l = ⟨#[82, 83, 69, 84]⟩)) (h4 : ¬ ((Au l ⟨#[77, 65, 73, 76, 32, 70, 82, 79, 77, 58]⟩).2 = true)) (h5 : ¬ ((Au l ⟨#[82, 67, 80, 84, 32, 84, 79, 58]⟩).2 = true)) (h6 : l = ⟨#[68, 65, 84, 65]⟩) (h7 : ¬ (s.state = 3)) : Bc c s l = (s, ⟨#[53, 48, 51, 32, 111, 114, 100, 101, 114]⟩) := by unfold Bc; rw [if_neg h0, if_neg h1, if_neg h2, if_neg h3, if_neg h4, if_neg h5, if_pos h6, if_neg h7]
theorem eN {c : Cf} {s : Ss} {l : ByteArray} (h0 : ¬ ((Au l ⟨#[72, 69, 76, 79, 32]⟩).2 = true)) (h1 : ¬ (l = ⟨#[81, 85, 73, 84]⟩)) (h2 : ¬ (l = ⟨#[78, 79, 79, 80]⟩)) (h3 : ¬ (l = ⟨#[82, 83, 69, 84]⟩)) (h4 : ¬ ((Au l ⟨#[77, 65, 73, 76, 32, 70, 82, 79, 77, 58]⟩).2 = true)) (h5 : ¬ ((Au l ⟨#[82, 67, 80, 84, 32, 84, 79, 58]⟩).2 = true)) (h6 : ¬ (l = ⟨#[68, 65, 84, 65]⟩)) : Bc c s l = (s, ⟨#[53, 48, 48, 32, 119, 104, 97, 116]⟩) := by unfold Bc; rw [if_neg h0, if_neg h1, if_neg h2, if_neg h3, if_neg h4, if_neg h5, if_neg h6]
def oR : Ct := Ar (lc Jn.ag (lc dQ.ag (lc Ax l0))) (fun p => p.1.name.size ≤ 1000000 ∧ p.2.1.mail.to.length ≤ 1000 ∧ p.2.2.1.size ≤ 2000000) (fun p => .tup [.agg ((Es (Bc p.1 p.2.1 p.2.2.1).1).map .t), .t (.v (.string (Bc p.1 p.2.1 p.2.2.1).2))])
section
attribute [local go_sem] oT dA Rb oU oV AS.opn AS.cls AS.nilb AS.renb AS.up Bool.not_false Bool.not_true List.set_set List.set_cons_zero List.set_cons_succ List.set_nil List.mem_singleton forall_eq tn List.map_nil List.nil_append
set_option maxHeartbeats 3200000 in
theorem iQ {G : Gt} (hG : Ah G) (hh : G.e 222 = AA 0 oT ∧ G.e 40 = AA 0 dA ∧ G.e 215 = AA 1 Rb ∧ G.e 223 = AA 1 oU ∧ G.e 224 = AA 1 oV) : Gd G 220 (AA 1 oR) := by
 refine gr (fn := Tryz.f220) (n := 3) rfl rfl hG ?_
 rintro ⟨c, s, l, ⟨⟩⟩ hpre
 obtain ⟨hn, ht, hz⟩ := hpre
 try dsimp only at hn ht hz ⊢
 have z1 := OG l ⟨#[72, 69, 76, 79, 32]⟩
 have z2 := OG l ⟨#[77, 65, 73, 76, 32, 70, 82, 79, 77, 58]⟩
 have z3 := OG l ⟨#[82, 67, 80, 84, 32, 84, 79, 58]⟩
 have z4 : (⟨#[50, 53, 48, 32]⟩ : ByteArray).size = 4 := rfl
 refine BJ ((Au l ⟨#[72, 69, 76, 79, 32]⟩).2 = true) (fun h0 => BJ (D9 (Au l ⟨#[72, 69, 76, 79, 32]⟩).1) (fun h1 => have h1' := Ap h1; have hx := And.intro (og h0 h1 : Bc c s l = _) (And.intro h0 h1'); ?_) (fun h1 => have h1' := AQ h1; have hx := And.intro (oh h0 h1 : Bc c s l = _) (And.intro h0 h1'); ?_)) (fun h0 => have h0' := (Bool.not_eq_true _).mp h0; BJ (l = ⟨#[81, 85, 73, 84]⟩) (fun h1 => have hx := And.intro (ol h0 h1 : Bc c s l = _) (And.intro h0' h1); ?_) (fun h1 => BJ (l = ⟨#[78, 79, 79, 80]⟩) (fun h2 => have hx := And.intro (oo h0 h1 h2 : Bc c s l = _) (And.intro h0' (And.intro h1 h2)); ?_) (fun h2 => BJ (l = ⟨#[82, 83, 69, 84]⟩) (fun h3 => BJ (s.state = 0) (fun h4 => have h4' := decide_eq_true h4; have hx := And.intro (ot h0 h1 h2 h3 h4 : Bc c s l = _) (And.intro h0' (And.intro h1 (And.intro h2 (And.intro h3 h4')))); ?_) (fun h4 => have h4' := decide_eq_false h4; have hx := And.intro (ou h0 h1 h2 h3 h4 : Bc c s l = _) (And.intro h0' (And.intro h1 (And.intro h2 (And.intro h3 h4')))); ?_)) (fun h3 => BJ ((Au l ⟨#[77, 65, 73, 76, 32, 70, 82, 79, 77, 58]⟩).2 = true) (fun h4 => have hx := And.intro (ov h0 h1 h2 h3 h4 : Bc c s l = _) (And.intro h0' (And.intro h1 (And.intro h2 (And.intro h3 h4)))); ?_) (fun h4 => have h4' := (Bool.not_eq_true _).mp h4; BJ ((Au l ⟨#[82, 67, 80, 84, 32, 84, 79, 58]⟩).2 = true) (fun h5 => have hx := And.intro (ow h0 h1 h2 h3 h4 h5 : Bc c s l = _) (And.intro h0' (And.intro h1 (And.intro h2 (And.intro h3 (And.intro h4' h5))))); ?_) (fun h5 => have h5' := (Bool.not_eq_true _).mp h5; BJ (l = ⟨#[68, 65, 84, 65]⟩) (fun h6 => BJ (s.state = 3) (fun h7 => have h7' := decide_eq_true h7; have hx := And.intro (ox h0 h1 h2 h3 h4 h5 h6 h7 : Bc c s l = _) (And.intro h0' (And.intro h1 (And.intro h2 (And.intro h3 (And.intro h4' (And.intro h5' (And.intro h6 h7'))))))); ?_) (fun h7 => have h7' := decide_eq_false h7; have hx := And.intro (oy h0 h1 h2 h3 h4 h5 h6 h7 : Bc c s l = _) (And.intro h0' (And.intro h1 (And.intro h2 (And.intro h3 (And.intro h4' (And.intro h5' (And.intro h6 h7'))))))); ?_)) (fun h6 => have hx := And.intro (eN h0 h1 h2 h3 h4 h5 h6 : Bc c s l = _) (And.intro h0' (And.intro h1 (And.intro h2 (And.intro h3 (And.intro h4' (And.intro h5' h6)))))); ?_)))))))
 all_goals
  try rw [hx.1]
  simp -implicitDefEqProofs only [Tryz.f220, hx, eq_self, decide_true, decide_false, Int.reduceEq, go_sem, hh, seval]
  with_reducible repeat' (first | apply ai | intro _ | ((first | apply s1 | apply s3 | apply s4) <;> intro hb <;> simp -implicitDefEqProofs only [hb, go_sem, hh, seval] <;> try simp only [qz] at hb))
  all_goals (try simp only [maxLen, tn, lm] at *)
  all_goals first | rfl | omega | decide | with_reducible assumption | (show Aa _ = true; rfl) | exact Ht (by assumption) | contradiction | (show 4 + c.name.size ≤ _; omega) | (subst h3; contradiction) | skip
end
open Classical in
noncomputable def Bo (c : Cf) (s : Ss) (l : ByteArray) : (Ss × ByteArray) × List Ml := (if s.state = 5 then ((s, ⟨#[]⟩), []) else (if s.state = 4 then (if (Aj s l).1.2 = ⟨#[]⟩ then ((Aj s l).1, []) else (if (Aj s l).2 = true then ((Fi (Aj s l).1.1, (Aj s l).1.2), [(Aj s l).1.1.mail]) else ((Fi (Aj s l).1.1, (Aj s l).1.2), []))) else (Bc c s l, [])))
theorem sP {c : Cf} {s : Ss} {l : ByteArray} (h0 : s.state = 5) : Bo c s l = ((s, ⟨#[]⟩), []) := by unfold Bo; rw [if_pos h0]
theorem sQ {c : Cf} {s : Ss} {l : ByteArray} (h0 : ¬ (s.state = 5)) (h1 : s.state = 4) (h2 : (Aj s l).1.2 = ⟨#[]⟩) : Bo c s l = ((Aj s l).1, []) := by unfold Bo; rw [if_neg h0, if_pos h1, if_pos h2]
theorem sR {c : Cf} {s : Ss} {l : ByteArray} (h0 : ¬ (s.state = 5)) (h1 : s.state = 4) (h2 : ¬ ((Aj s l).1.2 = ⟨#[]⟩)) (h3 : (Aj s l).2 = true) : Bo c s l = ((Fi (Aj s l).1.1, (Aj s l).1.2), [(Aj s l).1.1.mail]) := by unfold Bo; rw [if_neg h0, if_pos h1, if_neg h2, if_pos h3]
theorem sS {c : Cf} {s : Ss} {l : ByteArray} (h0 : ¬ (s.state = 5)) (h1 : s.state = 4) (h2 : ¬ ((Aj s l).1.2 = ⟨#[]⟩)) (h3 : ¬ ((Aj s l).2 = true)) : Bo c s l = ((Fi (Aj s l).1.1, (Aj s l).1.2), []) := by unfold Bo; rw [if_neg h0, if_pos h1, if_neg h2, if_neg h3]
theorem sT {c : Cf} {s : Ss} {l : ByteArray} (h0 : ¬ (s.state = 5)) (h1 : ¬ (s.state = 4)) : Bo c s l = (Bc c s l, []) := by unfold Bo; rw [if_neg h0, if_neg h1]
theorem pP (s : Ss) (l : ByteArray) : (Aj s l).1.1.mail.body.length ≤ s.mail.body.length + 1 ∧ (Aj s l).1.1.mail.to = s.mail.to := by
 unfold Aj
 repeat' split
 all_goals refine ⟨?_, rfl⟩
 all_goals first | (show (s.mail.body ++ [_]).length ≤ _; rw [List.length_append]; exact Nat.le_refl _) | (show s.mail.body.length ≤ _; omega)
def oN : Ct := Ar (lc Jn.ag (lc dQ.ag (lc Ax l0))) (fun p => p.1.name.size ≤ 1000000 ∧ p.2.1.mail.to.length ≤ 1000 ∧ p.2.1.mail.body.length ≤ 1000 ∧ p.2.2.1.size ≤ 2000000) (fun p => .tup [.agg ((Es (Bo p.1 p.2.1 p.2.2.1).1.1).map .t), .t (.v (.string (Bo p.1 p.2.1 p.2.2.1).1.2)), .t (.sl 4 ((Bo p.1 p.2.1 p.2.2.1).2.map DP))])
section
attribute [local go_sem] oR oS NT Rb AS.opn AS.cls AS.nilb AS.renb AS.up Bool.not_false Bool.not_true List.set_set List.set_cons_zero List.set_cons_succ List.set_nil List.mem_singleton forall_eq tn List.map_nil List.nil_append
set_option maxHeartbeats 3200000 in
theorem iM {G : Gt} (hG : Ah G) (hh : G.e 220 = AA 1 oR ∧ G.e 221 = AA 1 oS ∧ G.e 122 = AA 0 NT ∧ G.e 215 = AA 1 Rb) : Gd G 216 (AA 1 oN) := by
 refine gr (fn := Tryz.f216) (n := 3) rfl rfl hG ?_
 rintro ⟨c, s, l, ⟨⟩⟩ hpre
 obtain ⟨hn, ht, hb, hz⟩ := hpre
 try dsimp only at hn ht hb hz ⊢
 obtain ⟨z1, z2⟩ := pP s l
 have z3 : (Aj s l).1.1.mail.to.length ≤ 1000 := by rw [z2]; exact ht
 refine BJ (s.state = 5) (fun h0 => have h0' := decide_eq_true h0; have hx := And.intro (sP h0 : Bo c s l = _) h0'; ?_) (fun h0 => have h0' := decide_eq_false h0; BJ (s.state = 4) (fun h1 => have h1' := decide_eq_true h1; BJ ((Aj s l).1.2 = ⟨#[]⟩) (fun h2 => have hx := And.intro (sQ h0 h1 h2 : Bo c s l = _) (And.intro h0' (And.intro h1' h2)); ?_) (fun h2 => BJ ((Aj s l).2 = true) (fun h3 => have hx := And.intro (sR h0 h1 h2 h3 : Bo c s l = _) (And.intro h0' (And.intro h1' (And.intro h2 h3))); ?_) (fun h3 => have h3' := (Bool.not_eq_true _).mp h3; have hx := And.intro (sS h0 h1 h2 h3 : Bo c s l = _) (And.intro h0' (And.intro h1' (And.intro h2 h3'))); ?_))) (fun h1 => have h1' := decide_eq_false h1; have hx := And.intro (sT h0 h1 : Bo c s l = _) (And.intro h0' h1'); ?_))
 all_goals
  try rw [hx.1]
  simp -implicitDefEqProofs only [Tryz.f216, hx, eq_self, decide_true, decide_false, Int.reduceEq, go_sem, hh, seval]
  with_reducible repeat' (first | apply ai | intro _ | ((first | apply s1 | apply s3 | apply s4) <;> intro hb <;> simp -implicitDefEqProofs only [hb, go_sem, hh, seval] <;> try simp only [qz] at hb))
  all_goals (try simp only [maxLen, tn, lm] at *)
  all_goals first | rfl | omega | decide | with_reducible assumption | (show Aa _ = true; rfl) | exact Ht (by assumption) | contradiction | skip
end
def Ok (s : Ss) : Prop := s.mail.to.length ≤ 4 ∧ s.mail.body.length ≤ 12 ∧ HT s.mail.frm ∧ (∀ a ∈ s.mail.to, HT a) ∧ ∀ l ∈ s.mail.body, Bj l
def jm (m : Ml) : Prop := KB m ∧ m.to.length ≤ 4 ∧ m.body.length ≤ 12
theorem mf {s : Ss} (h : Ok s) : jm s.mail := ⟨⟨h.2.2.1, ⟨by have := h.1; omega, h.2.2.2.1⟩, ⟨by have := h.2.1; omega, h.2.2.2.2⟩⟩, h.1, h.2.1⟩
theorem ta : HT ⟨⟨#[]⟩, ⟨#[]⟩⟩ := CH (.inr ⟨rfl, rfl⟩)
theorem U0 (t : ByteArray) : HT (BE t) := by
 by_cases h : GZ t
 ·exact CH (Jx h).1
 ·rw [Nl h]; exact ta
theorem F7 (s : Ss) : Ok (Fi s) := ⟨by show 0 ≤ 4; omega, by show 0 ≤ 12; omega, ta, fun _ h => (by cases h), fun _ h => (by cases h)⟩
theorem fF {s : Ss} (t : ByteArray) (h : Ok s) : Ok (Et s t).1 ∧ (Et s t).2.size ≤ 20 := by
 unfold Et
 repeat' split
 all_goals first
  | exact ⟨h, Nat.le_of_ble_eq_true rfl⟩
  | exact ⟨⟨by show 0 ≤ 4; omega, by show 0 ≤ 12; omega, U0 t, fun _ h => (by cases h), fun _ h => (by cases h)⟩, Nat.le_of_ble_eq_true rfl⟩
theorem sa {s : Ss} (c : Cf) (t : ByteArray) (h : Ok s) : Ok (H9 c s t).1 ∧ (H9 c s t).2.size ≤ 20 := by
 unfold H9
 repeat' split
 all_goals first
  | exact ⟨h, Nat.le_of_ble_eq_true rfl⟩
  | skip
 refine ⟨⟨?_, h.2.1, h.2.2.1, fun a ha => ?_, h.2.2.2.2⟩, Nat.le_of_ble_eq_true rfl⟩
 ·show (s.mail.to ++ [BE t]).length ≤ 4
  rw [List.length_append]
  show s.mail.to.length + 1 ≤ 4
  omega
 ·rcases List.mem_append.1 ha with ha | ha
  ·exact h.2.2.2.1 a ha
  ·rw [List.mem_singleton] at ha; subst ha; exact U0 t
theorem eO {s : Ss} (c : Cf) (l : ByteArray) (h : Ok s) : Ok (Bc c s l).1 ∧ (Bc c s l).2.size ≤ c.name.size + 20 := by
 have q := fF (s := s) (Au l ⟨#[77, 65, 73, 76, 32, 70, 82, 79, 77, 58]⟩).1 h
 have q2 := sa (s := s) c (Au l ⟨#[82, 67, 80, 84, 32, 84, 79, 58]⟩).1 h
 unfold Bc
 repeat' split
 all_goals first
  | exact ⟨h, by show (ByteArray.size ⟨_⟩) ≤ _; exact Nat.le_trans (Nat.le_of_ble_eq_true rfl : _ ≤ 20) (Nat.le_add_left _ _)⟩
  | exact ⟨F7 _, by show (ByteArray.size ⟨_⟩) ≤ _; exact Nat.le_trans (Nat.le_of_ble_eq_true rfl : _ ≤ 20) (Nat.le_add_left _ _)⟩
  | exact ⟨q.1, Nat.le_trans q.2 (Nat.le_add_left _ _)⟩
  | exact ⟨q2.1, Nat.le_trans q2.2 (Nat.le_add_left _ _)⟩
  | exact ⟨F7 _, by show (⟨#[50, 53, 48, 32]⟩ ++ c.name).size ≤ _; rw [ByteArray.size_append]; have : (⟨#[50, 53, 48, 32]⟩ : ByteArray).size = 4 := rfl; omega⟩
theorem eW {s : Ss} {l : ByteArray} (h : Ok s) (hl : Bj l) : Ok (Aj s l).1.1 ∧ (Aj s l).1.2.size ≤ 20 := by
 have he : Bj (l.extract 1 l.size) := by have : l.size ≤ 1048576 := hl; show (l.extract 1 l.size).size ≤ 1048576; rw [ByteArray.size_extract]; omega
 have app : ∀ x, Bj x → ¬ ((s.mail.body.length : Int) ≥ 12) → Ok ⟨s.state, ⟨s.mail.frm, s.mail.to, s.mail.body ++ [x]⟩, s.bad, s.buf⟩ := fun x hx hn => ⟨h.1, by show (s.mail.body ++ [x]).length ≤ 12; rw [List.length_append]; show s.mail.body.length + 1 ≤ 12; omega, h.2.2.1, h.2.2.2.1, fun y hy => by
  rcases List.mem_append.1 hy with hy | hy
  ·exact h.2.2.2.2 y hy
  ·rw [List.mem_singleton] at hy; subst hy; exact hx⟩
 unfold Aj
 repeat' split
 all_goals first
  | exact ⟨h, Nat.le_of_ble_eq_true rfl⟩
  | exact ⟨app _ hl (by assumption), Nat.le_of_ble_eq_true rfl⟩
  | exact ⟨app _ he (by assumption), Nat.le_of_ble_eq_true rfl⟩
theorem WJ {s : Ss} {l : ByteArray} (c : Cf) (h : Ok s) (hl : Bj l) : Ok (Bo c s l).1.1 ∧ (Bo c s l).1.2.size ≤ c.name.size + 20 ∧ (Bo c s l).2.length ≤ 1 ∧ ∀ m ∈ (Bo c s l).2, jm m := by
 have q := eW h hl
 have q2 := eO c l h
 unfold Bo
 repeat' split
 ·exact ⟨h, Nat.zero_le _, Nat.zero_le _, fun _ z => by cases z⟩
 ·exact ⟨q.1, Nat.le_trans q.2 (Nat.le_add_left _ _), Nat.zero_le _, fun _ z => by cases z⟩
 ·exact ⟨F7 _, Nat.le_trans q.2 (Nat.le_add_left _ _), Nat.le_refl _, fun m hm => by rw [List.mem_singleton] at hm; subst hm; exact mf q.1⟩
 ·exact ⟨F7 _, Nat.le_trans q.2 (Nat.le_add_left _ _), Nat.zero_le _, fun _ z => by cases z⟩
 ·exact ⟨q2.1, q2.2, Nat.zero_le _, fun _ z => by cases z⟩
abbrev F5 := Ss × List ByteArray × List Ml
noncomputable def fD (c : Cf) (x : F5) (l : ByteArray) : F5 := ((Bo c x.1 l).1.1, if (Bo c x.1 l).1.2 = ⟨#[]⟩ then x.2.1 else x.2.1 ++ [(Bo c x.1 l).1.2], x.2.2 ++ (Bo c x.1 l).2)
def dC (x : F5) : F5 := (Fi ⟨5, x.1.mail, x.1.bad, x.1.buf⟩, x.2.1 ++ [⟨#[53, 48, 48, 32, 108, 111, 110, 103]⟩], x.2.2)
noncomputable def Nj (c : Cf) : List ByteArray → F5 → F5 × Bool
 | [], x => (x, false)
 | l :: r, x => if x.1.state = 5 then (x, false) else if (l.size : Int) > 78 then (dC x, true) else Nj c r (fD c x l)
noncomputable def aI (y : F5 × Bool) (lf : ByteArray) : F5 := if y.2 = true then y.1 else if y.1.1.state = 5 then y.1 else if (lf.size : Int) > 80 then dC y.1 else (⟨y.1.1.state, y.1.1.mail, y.1.1.bad, lf⟩, y.1.2.1, y.1.2.2)
noncomputable def Bu (c : Cf) (s : Ss) (t : ByteArray) : F5 := aI (Nj c (OQ (s.buf ++ t)) (⟨s.state, s.mail, s.bad, ⟨#[]⟩⟩, [], [])) (rU (s.buf ++ t))
theorem uk {c : Cf} {L : List ByteArray} {x : F5} (h : x.1.state = 5) : Nj c L x = (x, false) := by
 cases L with
 | nil => rfl
 | cons l r => rw [Nj, if_pos h]
theorem ui {c : Cf} {L : List ByteArray} {i : Nat} {x : F5} (hi : i < L.length) (h : ¬ x.1.state = 5) (hl : ((L.getD i default).size : Int) > 78) : Nj c (L.drop i) x = (dC x, true) := by
 rw [AW hi, Nj, if_neg h, if_pos hl]
theorem uj {c : Cf} {L : List ByteArray} {i : Nat} {x : F5} (hi : i < L.length) (h : ¬ x.1.state = 5) (hl : ¬ ((L.getD i default).size : Int) > 78) : Nj c (L.drop i) x = Nj c (L.drop (i + 1)) (fD c x (L.getD i default)) := by
 rw [AW hi, Nj, if_neg h, if_neg hl]
theorem kr {c : Cf} {L : List ByteArray} {i : Nat} {x : F5} (hi : L.length ≤ i) : Nj c (L.drop i) x = (x, false) := by
 rw [List.drop_of_length_le hi]; rfl
theorem ue {y : F5 × Bool} {x : F5} {lf : ByteArray} (h : (x, true) = y) : aI y lf = x := by subst h; exact if_pos rfl
theorem uf {y : F5 × Bool} {x : F5} {lf : ByteArray} (h : (x, false) = y) (h5 : x.1.state = 5) : aI y lf = x := by
 subst h; unfold aI; rw [if_neg (show ¬ (x, false).2 = true from Bool.false_ne_true), if_pos h5]
theorem ug {y : F5 × Bool} {x : F5} {lf : ByteArray} (h : (x, false) = y) (h5 : ¬ x.1.state = 5) (hl : (lf.size : Int) > 80) : aI y lf = dC x := by
 subst h; unfold aI; rw [if_neg (show ¬ (x, false).2 = true from Bool.false_ne_true), if_neg h5, if_pos hl]
theorem uh {y : F5 × Bool} {x : F5} {lf : ByteArray} (h : (x, false) = y) (h5 : ¬ x.1.state = 5) (hl : ¬ (lf.size : Int) > 80) : aI y lf = (⟨x.1.state, x.1.mail, x.1.bad, lf⟩, x.2.1, x.2.2) := by
 subst h; unfold aI; rw [if_neg (show ¬ (x, false).2 = true from Bool.false_ne_true), if_neg h5, if_neg hl]
theorem ky {c : Cf} {x : F5} {l : ByteArray} (h : (Bo c x.1 l).1.2 = ⟨#[]⟩) : fD c x l = ((Bo c x.1 l).1.1, x.2.1, x.2.2 ++ (Bo c x.1 l).2) := by unfold fD; rw [if_pos h]
theorem kx {c : Cf} {x : F5} {l : ByteArray} (h : ¬ (Bo c x.1 l).1.2 = ⟨#[]⟩) : fD c x l = ((Bo c x.1 l).1.1, x.2.1 ++ [(Bo c x.1 l).1.2], x.2.2 ++ (Bo c x.1 l).2) := by unfold fD; rw [if_neg h]
def cy (c : Cf) (n : Nat) (x : F5) : Prop := Ok x.1 ∧ x.2.1.length ≤ n ∧ x.2.2.length ≤ n ∧ (∀ r ∈ x.2.1, r.size ≤ c.name.size + 20) ∧ ∀ m ∈ x.2.2, jm m
theorem aL {c : Cf} {n : Nat} {x : F5} {l : ByteArray} (h : cy c n x) (hl : Bj l) : cy c (n + 1) (fD c x l) := by
 obtain ⟨h1, h2, h3, h4, h5⟩ := h
 obtain ⟨q1, q2, q3, q4⟩ := WJ c h1 hl
 have hm : ∀ m ∈ x.2.2 ++ (Bo c x.1 l).2, jm m := fun m hm => (List.mem_append.1 hm).elim (h5 m) (q4 m)
 by_cases e : (Bo c x.1 l).1.2 = ⟨#[]⟩
 ·rw [ky e]
  exact ⟨q1, by show x.2.1.length ≤ _; omega, by show (x.2.2 ++ _).length ≤ _; rw [List.length_append]; omega, h4, hm⟩
 ·rw [kx e]
  refine ⟨q1, by show (x.2.1 ++ [_]).length ≤ _; rw [List.length_append]; show x.2.1.length + 1 ≤ _; omega, by show (x.2.2 ++ _).length ≤ _; rw [List.length_append]; omega, fun r hr => ?_, hm⟩
  rcases List.mem_append.1 hr with hr | hr
  ·exact h4 r hr
  ·rw [List.mem_singleton] at hr; subst hr; exact q2
theorem aK {c : Cf} {n : Nat} {x : F5} (h : cy c n x) : cy c (n + 1) (dC x) := by
 obtain ⟨h1, h2, h3, h4, h5⟩ := h
 refine ⟨F7 _, by show (x.2.1 ++ [_]).length ≤ _; rw [List.length_append]; show x.2.1.length + 1 ≤ _; omega, by show x.2.2.length ≤ _; omega, fun r hr => ?_, h5⟩
 rcases List.mem_append.1 hr with hr | hr
 ·exact h4 r hr
 ·rw [List.mem_singleton] at hr; subst hr; exact Nat.le_trans (Nat.le_of_ble_eq_true rfl : _ ≤ 20) (Nat.le_add_left _ _)
theorem Eh {c : Cf} {n m : Nat} {x : F5} (h : cy c n x) (hn : n ≤ m) : cy c m x := ⟨h.1, by have := h.2.1; omega, by have := h.2.2.1; omega, h.2.2.2⟩
theorem aJ {c : Cf} : ∀ (L : List ByteArray) {n : Nat} {x : F5}, cy c n x → (∀ l ∈ L, Bj l) → cy c (n + L.length) (Nj c L x).1
 | [], n, x, h, _ => h
 | l :: r, n, x, h, hl => by
   rw [Nj]
   split
   ·exact Eh h (Nat.le_add_right _ _)
   ·split
    ·exact Eh (aK h) (by rw [List.length_cons]; omega)
    ·exact Eh (aJ r (aL h (hl l (List.mem_cons_self ..))) fun y hy => hl y (List.mem_cons_of_mem _ hy)) (by rw [List.length_cons]; omega)
theorem aM {c : Cf} {s : Ss} {t : ByteArray} (h : Ok s) (hb : s.buf.size + t.size ≤ 1000000) : cy c (s.buf.size + t.size + 1) (Bu c s t) := by
 obtain ⟨q1, q2, q3⟩ := lJ (s.buf ++ t)
 rw [ByteArray.size_append] at q1 q2 q3
 have q := aJ (c := c) (OQ (s.buf ++ t)) (n := 0) (x := (⟨s.state, s.mail, s.bad, ⟨#[]⟩⟩, [], [])) ⟨h, Nat.le_refl _, Nat.le_refl _, fun _ z => (by cases z), fun _ z => (by cases z)⟩ (fun l hl => by have := q2 l hl; show l.size ≤ 1048576; omega)
 have q' := Eh q (show 0 + (OQ (s.buf ++ t)).length ≤ s.buf.size + t.size by omega)
 unfold Bu aI
 split
 ·exact Eh q' (by omega)
 ·split
  ·exact Eh q' (by omega)
  ·split
   ·exact aK q'
   ·exact ⟨q'.1, Nat.le_succ_of_le q'.2.1, Nat.le_succ_of_le q'.2.2.1, q'.2.2.2⟩
def oB : Ct := Ar (lc Jn.ag (lc dQ.ag (lc Ax l0))) (fun p => p.1.name.size ≤ 1000000 ∧ Ok p.2.1 ∧ p.2.1.buf.size + p.2.2.1.size ≤ 1000000) (fun p => .tup [.agg ((Es (Bu p.1 p.2.1 p.2.2.1).1).map .t), .t (.sl 1 ((Bu p.1 p.2.1 p.2.2.1).2.1.map AH)), .t (.sl 4 ((Bu p.1 p.2.1 p.2.2.1).2.2.map DP))])
section
attribute [local go_sem] oM Rb oN AT lm List.length_append List.map_append AS.opn AS.cls AS.nilb AS.renb AS.up Bool.not_false Bool.not_true List.set_set List.set_cons_zero List.set_cons_succ List.set_nil List.mem_singleton forall_eq tn List.map_nil List.nil_append
set_option maxHeartbeats 6400000 in
theorem hO {G : Gt} (hG : Ah G) (hh : G.e 214 = AA 0 oM ∧ G.e 215 = AA 1 Rb ∧ G.e 216 = AA 1 oN) : Gd G 199 (AA 1 oB) := by
 refine OP (dp := fun n => !(Nat.beq n 18 || Nat.beq n 72)) (fn := Tryz.f199) (n := 3) rfl rfl hG ?_
 rintro ⟨c, s, t, ⟨⟩⟩ hpre
 obtain ⟨hn, hs, hz⟩ := hpre
 try dsimp only at hn hs hz ⊢
 obtain ⟨q1, q2, q3⟩ := lJ (s.buf ++ t)
 rw [ByteArray.size_append] at q1 q2 q3
 have q2' : ∀ i, i < (OQ (s.buf ++ t)).length → Bj ((OQ (s.buf ++ t)).getD i default) := fun i hi => by have := q2 _ (AC hi); show ByteArray.size _ ≤ 1048576; omega
 simp -implicitDefEqProofs only [Tryz.f199, go_sem, hh, seval]
 with_reducible repeat' (first | apply ai | intro _ | ((first | apply s1 | apply s3 | apply s4) <;> intro hb <;> simp -implicitDefEqProofs only [hb, go_sem, hh, seval] <;> try simp only [qz] at hb))
 all_goals (try simp only [maxLen, tn, ByteArray.size_append] at *)
 all_goals first | with_reducible rfl | omega | with_reducible assumption | decide | (simp only [List.mem_cons, List.mem_singleton, List.not_mem_nil] at *; omega) | skip
 refine AE [(9, 901, true, 1), (10, 902, false, 4)] (ι := {p : Nat × F5 // p.1 ≤ (OQ (s.buf ++ t)).length ∧ cy c p.1 p.2 ∧ Nj c ((OQ (s.buf ++ t)).drop p.1) p.2 = Nj c (OQ (s.buf ++ t)) (⟨s.state, s.mail, s.bad, ⟨#[]⟩⟩, [], [])}) (fun p => ⟨[(3, .pb 1003 0), (4, .pb 1004 0), (6, .pb 1006 0), (9, .h 901), (10, .h 902), (11, .h 1024), (12, .t (.v (.string (rU (s.buf ++ t))))), (13, .t (.v (.int .i64 p.1.1)))], [(1003, some (.box ((DZ c).map .t))), (1004, some (.box ((Es p.1.2.1).map .t))), (1006, some (.box [.t (.v (.int .i64 0)), .t (.v (.string ⟨#[]⟩)), .t (.v (.string ⟨#[]⟩)), .nil, .nil, .t (.v (.bool false)), .t (.v (.string ⟨#[]⟩))])), (901, some (.arr true 1 (p.1.2.2.1.map AH))), (902, some (.arr false 4 (p.1.2.2.2.map DP))), (1024, some (.arr true 1 ((OQ (s.buf ++ t)).map AH)))]⟩) (fun p => (OQ (s.buf ++ t)).length - p.1.1) ⟨(0, (⟨s.state, s.mail, s.bad, ⟨#[]⟩⟩, [], [])), Nat.zero_le _, ⟨hs, Nat.le_refl _, Nat.le_refl _, fun _ z => (by cases z), fun _ z => (by cases z)⟩, rfl⟩ rfl ?_ ?_
 ·simp -implicitDefEqProofs only [go_sem, hh, seval]
  try simp
 ·rintro ⟨⟨i, x⟩, hi, hx, hv⟩
  obtain ⟨x1, x2, x3⟩ := x
  dsimp only at hi hx hv
  have hb1 := hx.1.1
  have hb2 := hx.1.2.1
  have hb3 := hx.2.1
  have hb4 := hx.2.2.1
  dsimp only at hb1 hb2 hb3 hb4
  simp -implicitDefEqProofs only [go_sem, hh, seval]
  with_reducible repeat' (first | apply ai | intro _ | ((first | apply s1 | apply s3 | apply s4) <;> intro hb <;> simp -implicitDefEqProofs only [hb, go_sem, hh, seval] <;> try simp only [qz] at hb))
  all_goals (try simp only [maxLen, tn] at *)
  all_goals first
   | with_reducible rfl
   | omega
   | (show _ = true; rfl)
   | with_reducible assumption
   | (rw [show Bu c s t = _ from uf ((uk (by with_reducible assumption)).symm.trans hv) (by with_reducible assumption)]; first | done | rfl | (simp [dC, AH]; done))
   | (rw [show Bu c s t = _ from ue ((ui (by omega) (by with_reducible assumption) (by with_reducible assumption)).symm.trans hv)]; first | done | rfl | (simp [dC, AH]; done))
   | (rw [show Bu c s t = _ from ug ((kr (by omega)).symm.trans hv) (by with_reducible assumption) (by with_reducible assumption)]; first | done | rfl | (simp [dC, AH]; done))
   | (rw [show Bu c s t = _ from uh ((kr (by omega)).symm.trans hv) (by with_reducible assumption) (by with_reducible assumption)]; first | done | rfl | (simp [dC, AH]; done))
   | exact hx.1
   | exact Nat.le_trans (q2' i (by omega)) (by decide)
   | (refine ⟨⟨(i + 1, fD c (x1, x2, x3) ((OQ (s.buf ++ t)).getD i default)), by omega, aL hx (q2' i (by omega)), (uj (by omega) (by with_reducible assumption) (by with_reducible assumption)).symm.trans hv⟩, by dsimp only; omega, ?_⟩
      simp -implicitDefEqProofs only [go_sem, hh, seval]
      first
       | (have ee := ky (c := c) (x := (x1, x2, x3)) (by with_reducible assumption); simp only [ee]; simp [AH]; done)
       | (have ee := kx (c := c) (x := (x1, x2, x3)) (by with_reducible assumption); simp only [ee]; simp [AH]; done))
   | (have q := (WJ (s := x1) c hx.1 (q2' i (by omega))).2.2.1; omega)
   | skip
end
def PT (x : ByteArray) : ByteArray := if ¬ x = ⟨#[]⟩ ∧ AF x 0 = 46 then ⟨#[46]⟩ ++ x else x
theorem pY {x : ByteArray} (h : ¬ x = ⟨#[]⟩) (h2 : AF x 0 = 46) : PT x = ⟨#[46]⟩ ++ x := if_pos ⟨h, h2⟩
theorem pX {x : ByteArray} (h : ¬ x = ⟨#[]⟩) (h2 : ¬ AF x 0 = 46) : PT x = x := if_neg fun q => h2 q.2
theorem pV {x : ByteArray} (h : x = ⟨#[]⟩) : PT x = x := if_neg fun q => q.1 h
theorem Z1 (x : ByteArray) : (PT x).size ≤ x.size + 1 := by
 unfold PT
 split
 ·rw [ByteArray.size_append]; have : (⟨#[46]⟩ : ByteArray).size = 1 := rfl; omega
 ·omega
def Kg : List ByteArray → ByteArray → ByteArray
 | [], o => o
 | x :: r, o => Kg r (o ++ PT x ++ ⟨#[13, 10]⟩)
def W4 (l : List ByteArray) : ByteArray := Kg l ⟨#[]⟩ ++ ⟨#[46, 13, 10]⟩
theorem pc {L : List ByteArray} {i : Nat} {o : ByteArray} (h : i < L.length) : Kg (L.drop i) o = Kg (L.drop (i + 1)) (o ++ PT (L.getD i default) ++ ⟨#[13, 10]⟩) := by rw [AW h, Kg]
theorem pZ {L : List ByteArray} {i : Nat} {o : ByteArray} (h : L.length ≤ i) : Kg (L.drop i) o = o := by rw [List.drop_of_length_le h, Kg]
theorem NX : (⟨#[13, 10]⟩ : ByteArray).size = 2 := rfl
theorem kH : (⟨#[46, 13, 10]⟩ : ByteArray).size = 3 := rfl
theorem Z2 : ∀ (L : List ByteArray) (o : ByteArray) (B : Nat), (∀ x ∈ L, x.size ≤ B) → (Kg L o).size ≤ o.size + L.length * (B + 3)
 | [], o, B, _ => by show o.size ≤ _; omega
 | x :: r, o, B, h => by
   have h1 := h x (List.mem_cons_self ..)
   have h2 := Z1 x
   have q := Z2 r (o ++ PT x ++ ⟨#[13, 10]⟩) B (fun y hy => h y (List.mem_cons_of_mem _ hy))
   rw [ByteArray.size_append, ByteArray.size_append, NX] at q
   rw [Kg, List.length_cons, Nat.add_mul]
   omega
def oJ : Ct := Ar (lc Al.asl l0) (fun p => p.1.length ≤ 1000 ∧ ∀ x ∈ p.1, x.size ≤ 2000000) (fun p => .t (.v (.string (W4 p.1))))
section
attribute [local go_sem] lm Int.toNat_zero
set_option maxHeartbeats 1600000 in
theorem iH {G : Gt} (hG : Ah G) : Gd G 211 (AA 0 oJ) := by
 refine gr (fn := Tryz.f211) (n := 1) rfl rfl hG ?_
 rintro ⟨xs, ⟨⟩⟩ hpre
 simp -implicitDefEqProofs only [Tryz.f211, go_sem, seval] at hpre ⊢
 obtain ⟨hl, hx⟩ := hpre
 try dsimp only at hl hx
 refine AE [] (ι := {p : Nat × ByteArray // p.1 ≤ xs.length ∧ p.2.size ≤ p.1 * 2000003 ∧ Kg (xs.drop p.1) p.2 = Kg xs ⟨#[]⟩}) (fun p => ⟨[(0, .t (.sl 1 (xs.map AH))), (3, .t (.v (.string p.1.2))), (4, .t (.v (.int .i64 p.1.1)))], []⟩) (fun p => xs.length - p.1.1) ⟨(0, ⟨#[]⟩), Nat.zero_le _, Nat.zero_le _, rfl⟩ rfl ?_ ?_
 ·simp -implicitDefEqProofs only [go_sem, seval]
  try simp
 ·rintro ⟨⟨i, out⟩, hi, ho, hv⟩
  dsimp only at hi ho hv
  have hd : ∀ h : i < xs.length, (xs.getD i default).size ≤ 2000000 := fun h => hx _ (AC h)
  have hd1 := Z1 (xs.getD i default)
  simp -implicitDefEqProofs only [go_sem, seval]
  with_reducible repeat' (first | apply ai | intro _ | ((first | apply s1 | apply s3 | apply s4) <;> intro hb <;> simp -implicitDefEqProofs only [hb, go_sem, seval] <;> try simp only [qz] at hb))
  all_goals (try simp only [maxLen, tn, ByteArray.size_append, NX, kH] at *)
  all_goals first
   | with_reducible rfl
   | omega
   | exact Ht (by assumption)
   | (have := hd (by omega); have e : (#[46] : Array UInt8).size = 1 := rfl; have e2 : (#[13, 10] : Array UInt8).size = 2 := rfl; have e3 : (#[46, 13, 10] : Array UInt8).size = 3 := rfl; omega)
   | (have e3 : (#[46, 13, 10] : Array UInt8).size = 3 := rfl; omega)
   | (rw [pZ (by omega)] at hv; unfold W4; rw [← hv]; done)
   | (rw [pc (by omega)] at hv
      refine ⟨⟨(i + 1, _), by dsimp only; omega, ?_, hv⟩, by dsimp only; omega, ?_⟩
      ·have := hd (by omega)
       dsimp only
       rw [ByteArray.size_append, ByteArray.size_append, NX]
       omega
      ·simp -implicitDefEqProofs only [go_sem, seval]
       first
        | (rw [pY (by assumption) (by assumption)]; simp; done)
        | (rw [pX (by assumption) (by assumption)]; simp; done)
        | (rw [pV (by assumption)]; simp; done))
   | skip
end
theorem zJ : (3 : Int).toNat = 3 := rfl
open Classical in
noncomputable def BC (s : ByteArray) : Int := (if (s.size : Int) < 4 then 0 else (if AF s 3 = 32 then (if AF s 0 < 50 then 0 else (if AF s 0 > 53 then 0 else (if QG (s.extract 0 3) < 200 then 0 else QG (s.extract 0 3)))) else 0))
theorem o0 {s : ByteArray} (h0 : (s.size : Int) < 4) : BC s = 0 := by unfold BC; rw [if_pos h0]
theorem o9 {s : ByteArray} (h0 : ¬ ((s.size : Int) < 4)) (h1 : AF s 3 = 32) (h2 : AF s 0 < 50) : BC s = 0 := by unfold BC; rw [if_neg h0, if_pos h1, if_pos h2]
theorem pA {s : ByteArray} (h0 : ¬ ((s.size : Int) < 4)) (h1 : AF s 3 = 32) (h2 : ¬ (AF s 0 < 50)) (h3 : AF s 0 > 53) : BC s = 0 := by unfold BC; rw [if_neg h0, if_pos h1, if_neg h2, if_pos h3]
theorem pB {s : ByteArray} (h0 : ¬ ((s.size : Int) < 4)) (h1 : AF s 3 = 32) (h2 : ¬ (AF s 0 < 50)) (h3 : ¬ (AF s 0 > 53)) (h4 : QG (s.extract 0 3) < 200) : BC s = 0 := by unfold BC; rw [if_neg h0, if_pos h1, if_neg h2, if_neg h3, if_pos h4]
theorem pC {s : ByteArray} (h0 : ¬ ((s.size : Int) < 4)) (h1 : AF s 3 = 32) (h2 : ¬ (AF s 0 < 50)) (h3 : ¬ (AF s 0 > 53)) (h4 : ¬ (QG (s.extract 0 3) < 200)) : BC s = QG (s.extract 0 3) := by unfold BC; rw [if_neg h0, if_pos h1, if_neg h2, if_neg h3, if_neg h4]
theorem pD {s : ByteArray} (h0 : ¬ ((s.size : Int) < 4)) (h1 : ¬ (AF s 3 = 32)) : BC s = 0 := by unfold BC; rw [if_neg h0, if_neg h1]
theorem ud (s : ByteArray) : (s.extract 0 3).size ≤ 3 := by rw [ByteArray.size_extract]; omega
def oH : Ct := Ar (lc Ax l0) (fun p => True) (fun p => .t (.v (.int .i64 (BC p.1))))
section
attribute [local go_sem] oP Int.toNat_zero zJ
theorem iD {G : Gt} (hG : Ah G) (hh : G.e 218 = AA 0 oP) : Gd G 207 (AA 0 oH) := by
 refine gr (fn := Tryz.f207) (n := 1) rfl rfl hG ?_
 rintro ⟨s, ⟨⟩⟩ hpre
 try dsimp only
 have hz := ud s
 refine BJ ((s.size : Int) < 4) (fun h0 => have hx := And.intro (o0 h0 : BC s = _) h0; ?_) (fun h0 => BJ (AF s 3 = 32) (fun h1 => BJ (AF s 0 < 50) (fun h2 => have hx := And.intro (o9 h0 h1 h2 : BC s = _) (And.intro h0 (And.intro h1 h2)); ?_) (fun h2 => BJ (AF s 0 > 53) (fun h3 => have hx := And.intro (pA h0 h1 h2 h3 : BC s = _) (And.intro h0 (And.intro h1 (And.intro h2 h3))); ?_) (fun h3 => BJ (QG (s.extract 0 3) < 200) (fun h4 => have hx := And.intro (pB h0 h1 h2 h3 h4 : BC s = _) (And.intro h0 (And.intro h1 (And.intro h2 (And.intro h3 h4)))); ?_) (fun h4 => have hx := And.intro (pC h0 h1 h2 h3 h4 : BC s = _) (And.intro h0 (And.intro h1 (And.intro h2 (And.intro h3 h4)))); ?_)))) (fun h1 => have hx := And.intro (pD h0 h1 : BC s = _) (And.intro h0 h1); ?_))
 all_goals
  try rw [hx.1]
  simp -implicitDefEqProofs only [Tryz.f207, hx, eq_self, decide_true, decide_false, Int.reduceEq, go_sem, hh, seval]
  with_reducible repeat' (first | apply ai | intro _ | ((first | apply s1 | apply s3 | apply s4) <;> intro hb <;> simp -implicitDefEqProofs only [hb, go_sem, hh, seval] <;> try simp only [qz] at hb))
  all_goals (try simp only [maxLen, tn, lm] at *)
  all_goals first | rfl | omega | decide | with_reducible assumption | (show Aa _ = true; rfl) | exact Ht (by assumption) | contradiction | skip
end
def iw (n : ByteArray) (m : Ml) : Cl := ⟨n, m, 0, 0, List.replicate m.to.length 0⟩
def n9 : Ct := Ar (lc Ax (lc dP.ag l0)) (fun p => p.2.1.to.length ≤ 1000 ∧ p.2.1.body.length ≤ 1000) (fun p => .agg ((Dw (iw p.1 p.2.1)).map .t))
section
attribute [local go_sem] NT lm AS.opn AS.cls AS.nilb AS.renb AS.up Bool.not_false Bool.not_true List.set_set List.set_cons_zero List.set_cons_succ List.set_nil List.mem_singleton forall_eq tn List.map_nil List.nil_append
theorem gw {G : Gt} (hG : Ah G) (hh : G.e 122 = AA 0 NT) : Gd G 197 (AA 1 n9) := by
 refine gr (fn := Tryz.f197) (n := 2) rfl rfl hG ?_
 rintro ⟨n, m, ⟨⟩⟩ hpre
 simp -implicitDefEqProofs only [Tryz.f197, go_sem, hh, seval] at hpre ⊢
 obtain ⟨h1, h2⟩ := hpre
 try dsimp only at h1 h2 ⊢
 with_reducible repeat' (first | apply ai | intro _ | ((first | apply s1 | apply s3 | apply s4) <;> intro hb <;> simp -implicitDefEqProofs only [hb, go_sem, hh, seval] <;> try simp only [qz] at hb))
 all_goals (try simp only [maxLen, tn] at *)
 all_goals first | rfl | omega | decide | with_reducible assumption | (show Aa _ = true; rfl) | exact Ht (by assumption) | contradiction | (simp [iw, Ao]; done) | skip
end
def Nv (f : Int → Int) (xs : List Int) (i : Nat) : List Int := (xs.take i).map f ++ xs.drop i
theorem lN (f : Int → Int) (xs : List Int) : Nv f xs 0 = xs := rfl
theorem lO {f : Int → Int} {xs : List Int} {i : Nat} (h : xs.length ≤ i) : Nv f xs i = xs.map f := by
 unfold Nv; rw [List.take_of_length_le h, List.drop_of_length_le h, List.append_nil]
theorem VW (f : Int → Int) (xs : List Int) (i : Nat) : (Nv f xs i).length = xs.length := by
 unfold Nv; rw [List.length_append, lm, List.length_take, List.length_drop]; omega
theorem VV {f : Int → Int} {xs : List Int} {i : Nat} (h : i < xs.length) : (Nv f xs i).getD i default = xs.getD i default := by
 unfold Nv
 rw [List.getD_eq_getElem?_getD, List.getElem?_append_right (by rw [lm, List.length_take]; omega), lm, List.length_take, Nat.min_eq_left (by omega), Nat.sub_self, List.getElem?_drop, Nat.add_zero, List.getD_eq_getElem?_getD]
theorem QE {f : Int → Int} {xs : List Int} {i : Nat} (h : i < xs.length) : Nv f xs (i + 1) = (xs.take i).map f ++ (f (xs.getD i default) :: xs.drop (i + 1)) := by
 unfold Nv
 rw [List.take_add_one, List.getElem?_eq_getElem h, List.map_append, List.append_assoc]
 congr 1
 simp [h]
theorem VX {f : Int → Int} {xs : List Int} {i : Nat} {v : Int} (h : i < xs.length) (e : f (xs.getD i default) = v) : (Nv f xs i).set i v = Nv f xs (i + 1) := by
 rw [QE h, e]
 unfold Nv
 rw [List.set_append_right _ _ (by rw [lm, List.length_take]; omega), lm, List.length_take, Nat.min_eq_left (by omega), Nat.sub_self, AW h]
 rfl
theorem QD {f : Int → Int} {xs : List Int} {i : Nat} (h : i < xs.length) (e : f (xs.getD i default) = xs.getD i default) : Nv f xs (i + 1) = Nv f xs i := by
 rw [QE h, e]
 unfold Nv
 rw [AW h]
def Gb (k n : Int) : Int := if n = 0 ∨ n = 1 then k else n
def Qa (n : Int) : Int := if n = 1 then 2 else n
def xe (c : Cl) (k : Int) : Cl := ⟨c.name, c.mail, c.state, c.pos, c.outs.map (Gb k)⟩
def yS (c : Cl) : Cl := ⟨c.name, c.mail, c.state, c.pos, c.outs.map Qa⟩
def oQ : Ct := Ar (lc dO.ag (lc BK l0)) (fun p => p.1.outs.length ≤ 1000) (fun p => .agg ((Dw (xe p.1 p.2.1)).map .t))
section
attribute [local go_sem] lm AT Bb J1 AS.opn AS.cls AS.nilb AS.renb AS.up Bool.not_false Bool.not_true List.set_set List.set_cons_zero List.set_cons_succ List.set_nil List.mem_singleton forall_eq tn List.map_nil List.nil_append
set_option maxHeartbeats 1600000 in
theorem iP {G : Gt} (hG : Ah G) : Gd G 219 (AA 1 oQ) := by
 refine gr (fn := Tryz.f219) (n := 2) rfl rfl hG ?_
 rintro ⟨c, k, ⟨⟩⟩ hpre
 simp -implicitDefEqProofs only [Tryz.f219, go_sem, seval] at hpre ⊢
 have hl : c.outs.length ≤ 1000 := hpre
 with_reducible repeat' (first | apply ai | intro _ | ((first | apply s1 | apply s3 | apply s4) <;> intro hb <;> simp -implicitDefEqProofs only [hb, go_sem, seval] <;> try simp only [qz] at hb))
 all_goals (try simp only [maxLen, tn] at *)
 all_goals first | rfl | omega | decide | with_reducible assumption | (show Aa _ = true; rfl) | exact Ht (by assumption) | contradiction | skip
 refine AE [(5, 901, true, 1)] (ι := {i : Nat // i ≤ c.outs.length}) (fun p => ⟨[(1, .t (.v (.int .i64 k))), (2, .pb 1002 0), (4, .pb 1004 0), (5, .h 901), (6, .t (.v (.int .i64 p.1)))], [(1002, some (.box ((Dw c).map .t))), (1004, some (.box [.t (.v (.string ⟨#[]⟩)), .t (.v (.string ⟨#[]⟩)), .t (.v (.string ⟨#[]⟩)), .nil, .nil, .t (.v (.int .i64 0)), .t (.v (.int .i64 0)), .nil])), (901, some (.arr true 1 ((Nv (Gb k) c.outs p.1).map Ao)))]⟩) (fun p => c.outs.length - p.1) ⟨0, Nat.zero_le _⟩ rfl ?_ ?_
 ·simp -implicitDefEqProofs only [go_sem, seval]
  simp [lN]
 ·rintro ⟨i, hi⟩
  dsimp only at hi ⊢
  have hln := VW (Gb k) c.outs i
  have hg : i < c.outs.length → (Nv (Gb k) c.outs i).getD i default = c.outs.getD i default := VV
  simp -implicitDefEqProofs only [go_sem, seval]
  with_reducible repeat' (first | apply ai | intro _ | ((first | apply s1 | apply s3 | apply s4) <;> intro hb <;> simp -implicitDefEqProofs only [hb, go_sem, seval] <;> try simp only [qz] at hb))
  all_goals (try simp only [maxLen, tn] at *)
  all_goals first
   | with_reducible rfl
   | omega
   | (show _ = true; rfl)
   | (rw [lO (by omega)]; first | done | rfl)
   | rfl
   | (refine ⟨⟨i + 1, by omega⟩, by dsimp only; omega, ?_⟩
      have hgi := hg (by omega)
      simp -implicitDefEqProofs only [go_sem, seval]
      first
       | (rw [VX (by omega) (show Gb k _ = k from if_pos (by omega))]; simp; done)
       | (rw [QD (by omega) (show Gb k _ = _ from if_neg (by omega))]; simp; done)
       | skip)
   | skip
end
def oK : Ct := Ar (lc dO.ag l0) (fun p => p.1.outs.length ≤ 1000) (fun p => .agg ((Dw (yS p.1)).map .t))
section
attribute [local go_sem] lm AT Bb J1 AS.opn AS.cls AS.nilb AS.renb AS.up Bool.not_false Bool.not_true List.set_set List.set_cons_zero List.set_cons_succ List.set_nil List.mem_singleton forall_eq tn List.map_nil List.nil_append
set_option maxHeartbeats 1600000 in
theorem iI {G : Gt} (hG : Ah G) : Gd G 212 (AA 1 oK) := by
 refine gr (fn := Tryz.f212) (n := 1) rfl rfl hG ?_
 rintro ⟨c, ⟨⟩⟩ hpre
 simp -implicitDefEqProofs only [Tryz.f212, go_sem, seval] at hpre ⊢
 have hl : c.outs.length ≤ 1000 := hpre
 with_reducible repeat' (first | apply ai | intro _ | ((first | apply s1 | apply s3 | apply s4) <;> intro hb <;> simp -implicitDefEqProofs only [hb, go_sem, seval] <;> try simp only [qz] at hb))
 all_goals (try simp only [maxLen, tn] at *)
 all_goals first | rfl | omega | decide | with_reducible assumption | (show Aa _ = true; rfl) | exact Ht (by assumption) | contradiction | skip
 refine AE [(3, 901, true, 1)] (ι := {i : Nat // i ≤ c.outs.length}) (fun p => ⟨[(1, .pb 1001 0), (2, .pb 1002 0), (3, .h 901), (4, .t (.v (.int .i64 p.1)))], [(1001, some (.box ((Dw c).map .t))), (1002, some (.box [.t (.v (.string ⟨#[]⟩)), .t (.v (.string ⟨#[]⟩)), .t (.v (.string ⟨#[]⟩)), .nil, .nil, .t (.v (.int .i64 0)), .t (.v (.int .i64 0)), .nil])), (901, some (.arr true 1 ((Nv Qa c.outs p.1).map Ao)))]⟩) (fun p => c.outs.length - p.1) ⟨0, Nat.zero_le _⟩ rfl ?_ ?_
 ·simp -implicitDefEqProofs only [go_sem, seval]
  simp [lN]
 ·rintro ⟨i, hi⟩
  dsimp only at hi ⊢
  have hln := VW Qa c.outs i
  have hg : i < c.outs.length → (Nv Qa c.outs i).getD i default = c.outs.getD i default := VV
  simp -implicitDefEqProofs only [go_sem, seval]
  with_reducible repeat' (first | apply ai | intro _ | ((first | apply s1 | apply s3 | apply s4) <;> intro hb <;> simp -implicitDefEqProofs only [hb, go_sem, seval] <;> try simp only [qz] at hb))
  all_goals (try simp only [maxLen, tn] at *)
  all_goals first
   | with_reducible rfl
   | omega
   | (show _ = true; rfl)
   | (rw [lO (by omega)]; first | done | rfl)
   | rfl
   | (refine ⟨⟨i + 1, by omega⟩, by dsimp only; omega, ?_⟩
      have hgi := hg (by omega)
      simp -implicitDefEqProofs only [go_sem, seval]
      first
       | (rw [VX (by omega) (show Qa _ = 2 from if_pos (by omega))]; simp; done)
       | (rw [QD (by omega) (show Qa _ = _ from if_neg (by omega))]; simp; done)
       | skip)
   | skip
end
def oC : Ct := Ar (lc dO.ag l0) (fun p => p.1.outs.length ≤ 1000) (fun p => .o true 1 ((p.1.outs.map (Gb 3)).map Ao))
section
attribute [local go_sem] lm List.length_append List.map_append AS.opn AS.cls AS.nilb AS.renb AS.up Bool.not_false Bool.not_true List.set_set List.set_cons_zero List.set_cons_succ List.set_nil List.mem_singleton forall_eq tn List.map_nil List.nil_append
set_option maxHeartbeats 1600000 in
theorem hP {G : Gt} (hG : Ah G) : Gd G 200 (AA 0 oC) := by
 refine gr (fn := Tryz.f200) (n := 1) rfl rfl hG ?_ (hs := fun _ _ => .deep _ _)
 rintro ⟨c, ⟨⟩⟩ hpre
 simp -implicitDefEqProofs only [Tryz.f200, go_sem, seval] at hpre ⊢
 have hl : c.outs.length ≤ 1000 := hpre
 with_reducible repeat' (first | apply ai | intro _ | ((first | apply s1 | apply s3 | apply s4) <;> intro hb <;> simp -implicitDefEqProofs only [hb, go_sem, seval] <;> try simp only [qz] at hb))
 all_goals (try simp only [maxLen, tn] at *)
 all_goals first | rfl | omega | decide | with_reducible assumption | (show Aa _ = true; rfl) | exact Ht (by assumption) | contradiction | skip
 refine AE [(3, 901, true, 1)] (ι := {i : Nat // i ≤ c.outs.length}) (fun p => ⟨[(1, .pb 1001 0), (3, .h 901), (4, .t (.v (.int .i64 p.1)))], [(1001, some (.box ((Dw c).map .t))), (901, some (.arr true 1 (((c.outs.take p.1).map (Gb 3)).map Ao)))]⟩) (fun p => c.outs.length - p.1) ⟨0, Nat.zero_le _⟩ rfl ?_ ?_
 ·simp -implicitDefEqProofs only [go_sem, seval]
  try simp
 ·rintro ⟨i, hi⟩
  dsimp only at hi ⊢
  have hln : (c.outs.take i).length = i := by rw [List.length_take]; omega
  simp -implicitDefEqProofs only [go_sem, seval]
  with_reducible repeat' (first | apply ai | intro _ | ((first | apply s1 | apply s3 | apply s4) <;> intro hb <;> simp -implicitDefEqProofs only [hb, go_sem, seval] <;> try simp only [qz] at hb))
  all_goals (try simp only [maxLen, tn] at *)
  all_goals first
   | with_reducible rfl
   | omega
   | (show _ = true; rfl)
   | (rw [List.take_of_length_le (by omega)]; first | done | rfl)
   | rfl
   | (simp only [List.mem_singleton] at *; omega)
   | (rename_i q; simp only [List.mem_singleton] at q; subst q; rfl)
   | (have ht : c.outs.take (i + 1) = c.outs.take i ++ [c.outs.getD i default] := by
        have hh : i < c.outs.length := by omega
        rw [List.take_add_one, List.getElem?_eq_getElem hh]; simp [hh]
      refine ⟨⟨i + 1, by omega⟩, by dsimp only; omega, ?_⟩
      simp -implicitDefEqProofs only [go_sem, seval]
      rw [ht]
      first
       | (have ee : Gb 3 (c.outs.getD i default) = 3 := if_pos (by omega); simp only [List.map_append, List.map_cons, List.map_nil, ee]; simp [Ao]; done)
       | (have ee : Gb 3 (c.outs.getD i default) = c.outs.getD i default := if_neg (by omega); simp only [List.map_append, List.map_cons, List.map_nil, ee]; simp [Ao]; done)
       | skip)
   | skip
end
def OM (m : Ml) : Prop := m.to.length ≤ 1000 ∧ m.body.length ≤ 100 ∧ (m.frm.user.size ≤ 1000 ∧ m.frm.domain.size ≤ 1000) ∧ (∀ a ∈ m.to, a.user.size ≤ 1000 ∧ a.domain.size ≤ 1000) ∧ ∀ l ∈ m.body, l.size ≤ 1000
theorem mC {m : Ml} (h : OM m) {i : Nat} (hi : i < m.to.length) : (m.to.getD i default).user.size ≤ 1000 ∧ (m.to.getD i default).domain.size ≤ 1000 := h.2.2.2.1 _ (AC hi)
theorem OB (a : Ad) : (C2 a).size ≤ a.user.size + a.domain.size + 3 := by
 by_cases h : Ac a
 ·rw [Ip h]; have : (⟨#[60, 62]⟩ : ByteArray).size = 2 := rfl; omega
 ·rw [Sg h]
  simp only [ByteArray.size_append]
  have e1 : (⟨#[60]⟩ : ByteArray).size = 1 := rfl
  have e2 : (⟨#[64]⟩ : ByteArray).size = 1 := rfl
  have e3 : (⟨#[62]⟩ : ByteArray).size = 1 := rfl
  omega
open Classical in
noncomputable def DW (c : Cl) (k : Int) : Cl × ByteArray := (if k ≥ 500 then (⟨c.name, c.mail, 6, c.pos, c.outs.map (Gb 4)⟩, ⟨#[81, 85, 73, 84]⟩) else (⟨c.name, c.mail, 6, c.pos, c.outs.map (Gb 3)⟩, ⟨#[81, 85, 73, 84]⟩))
theorem pg {c : Cl} {k : Int} (h0 : k ≥ 500) : DW c k = (⟨c.name, c.mail, 6, c.pos, c.outs.map (Gb 4)⟩, ⟨#[81, 85, 73, 84]⟩) := by unfold DW; rw [if_pos h0]
theorem ph {c : Cl} {k : Int} (h0 : ¬ (k ≥ 500)) : DW c k = (⟨c.name, c.mail, 6, c.pos, c.outs.map (Gb 3)⟩, ⟨#[81, 85, 73, 84]⟩) := by unfold DW; rw [if_neg h0]
def oL : Ct := Ar (lc dO.ag (lc BK l0)) (fun p => p.1.outs.length ≤ 1000) (fun p => .tup [.agg ((Dw (DW p.1 p.2.1).1).map .t), .t (.v (.string (DW p.1 p.2.1).2))])
section
attribute [local go_sem] oQ AS.opn AS.cls AS.nilb AS.renb AS.up Bool.not_false Bool.not_true List.set_set List.set_cons_zero List.set_cons_succ List.set_nil List.mem_singleton forall_eq tn List.map_nil List.nil_append
theorem iJ {G : Gt} (hG : Ah G) (hh : G.e 219 = AA 1 oQ) : Gd G 213 (AA 1 oL) := by
 refine gr (fn := Tryz.f213) (n := 2) rfl rfl hG ?_
 rintro ⟨c, k, ⟨⟩⟩ hpre
 have hl : c.outs.length ≤ 1000 := hpre
 try dsimp only
 refine BJ (k ≥ 500) (fun h0 => have hx := And.intro (pg h0 : DW c k = _) h0; ?_) (fun h0 => have hx := And.intro (ph h0 : DW c k = _) h0; ?_)
 all_goals
  try rw [hx.1]
  simp -implicitDefEqProofs only [Tryz.f213, hx, eq_self, decide_true, decide_false, Int.reduceEq, go_sem, hh, seval]
  with_reducible repeat' (first | apply ai | intro _ | ((first | apply s1 | apply s3 | apply s4) <;> intro hb <;> simp -implicitDefEqProofs only [hb, go_sem, hh, seval] <;> try simp only [qz] at hb))
  all_goals (try simp only [maxLen, tn, lm] at *)
  all_goals first | rfl | omega | decide | with_reducible assumption | (show Aa _ = true; rfl) | exact Ht (by assumption) | contradiction | skip
end
open Classical in
noncomputable def Di (c : Cl) : Cl × ByteArray := (if c.pos < c.mail.to.length then (⟨c.name, c.mail, 3, c.pos + 1, c.outs⟩, ⟨#[82, 67, 80, 84, 32, 84, 79, 58]⟩ ++ C2 (c.mail.to.getD c.pos.toNat default)) else (if 1 ∈ c.outs then (⟨c.name, c.mail, 4, c.pos, c.outs⟩, ⟨#[68, 65, 84, 65]⟩) else (⟨c.name, c.mail, 6, c.pos, c.outs⟩, ⟨#[81, 85, 73, 84]⟩)))
theorem rf {c : Cl} (h0 : c.pos < c.mail.to.length) : Di c = (⟨c.name, c.mail, 3, c.pos + 1, c.outs⟩, ⟨#[82, 67, 80, 84, 32, 84, 79, 58]⟩ ++ C2 (c.mail.to.getD c.pos.toNat default)) := by unfold Di; rw [if_pos h0]
theorem rg {c : Cl} (h0 : ¬ (c.pos < c.mail.to.length)) (h1 : 1 ∈ c.outs) : Di c = (⟨c.name, c.mail, 4, c.pos, c.outs⟩, ⟨#[68, 65, 84, 65]⟩) := by unfold Di; rw [if_neg h0, if_pos h1]
theorem rh {c : Cl} (h0 : ¬ (c.pos < c.mail.to.length)) (h1 : ¬ (1 ∈ c.outs)) : Di c = (⟨c.name, c.mail, 6, c.pos, c.outs⟩, ⟨#[81, 85, 73, 84]⟩) := by unfold Di; rw [if_neg h0, if_neg h1]
def ZC : Ct := Ar (lc dO.ag l0) (fun p => p.1.outs.length ≤ 1000 ∧ OM p.1.mail ∧ 0 ≤ p.1.pos) (fun p => .tup [.agg ((Dw (Di p.1).1).map .t), .t (.v (.string (Di p.1).2))])
section
attribute [local go_sem] Ra Int.add_sub_cancel AS.opn AS.cls AS.nilb AS.renb AS.up Bool.not_false Bool.not_true List.set_set List.set_cons_zero List.set_cons_succ List.set_nil List.mem_singleton forall_eq tn List.map_nil List.nil_append
set_option maxHeartbeats 1600000 in
theorem iG {G : Gt} (hG : Ah G) (hh : G.e 209 = AA 0 Ra) : Gd G 210 (AA 1 ZC) := by
 refine gr (fn := Tryz.f210) (n := 1) rfl rfl hG ?_
 rintro ⟨c, ⟨⟩⟩ hpre
 obtain ⟨hl, hm, hp⟩ := hpre
 try dsimp only at hl hm hp ⊢
 have hml := hm.1
 have hat : c.pos.toNat < c.mail.to.length → (c.mail.to.getD c.pos.toNat default).user.size ≤ 1000 ∧ (c.mail.to.getD c.pos.toNat default).domain.size ≤ 1000 := fun h => mC hm h
 have hps := OB (c.mail.to.getD c.pos.toNat default)
 have e8 : (#[82, 67, 80, 84, 32, 84, 79, 58] : Array UInt8).size = 8 := rfl
 refine BJ (c.pos < c.mail.to.length) (fun h0 => have hx := And.intro (rf h0 : Di c = _) h0; ?_) (fun h0 => ?w1)
 case w1 =>
  simp -implicitDefEqProofs only [Tryz.f210, h0, eq_self, decide_true, decide_false, go_sem, hh, seval]
  with_reducible repeat' (first | apply ai | intro _ | ((first | apply s1 | apply s3 | apply s4) <;> intro hb <;> simp -implicitDefEqProofs only [hb, go_sem, hh, seval] <;> try simp only [qz] at hb))
  all_goals (try simp only [maxLen, tn, lm] at *)
  all_goals first | rfl | omega | decide | with_reducible assumption | (show Aa _ = true; rfl) | exact Ht (by assumption) | contradiction | skip
  refine AE [] (ι := {i : Nat // i ≤ c.outs.length ∧ ∀ j, j < i → ¬ c.outs.getD j default = 1}) (fun p => ⟨[(1, .pb 1001 0), (2, .pb 1002 0), (4, .t (.v (.int .i64 p.1)))], [(1001, some (.box ((Dw c).map .t))), (1002, some (.box [.t (.v (.string ⟨#[]⟩)), .t (.v (.string ⟨#[]⟩)), .t (.v (.string ⟨#[]⟩)), .nil, .nil, .t (.v (.int .i64 0)), .t (.v (.int .i64 0)), .nil]))]⟩) (fun p => c.outs.length - p.1) ⟨0, by simp, by simp⟩ rfl ?_ ?_
  ·simp -implicitDefEqProofs only [go_sem, hh, seval]
   try simp
  ·rintro ⟨i, hi, hall⟩
   simp -implicitDefEqProofs only [go_sem, hh, seval]
   with_reducible repeat' (first | apply ai | intro _ | ((first | apply s1 | apply s3 | apply s4) <;> intro hb <;> simp -implicitDefEqProofs only [hb, go_sem, hh, seval] <;> try simp only [qz] at hb))
   all_goals (try simp only [maxLen, tn, lm] at *)
   all_goals first
    | with_reducible rfl
    | omega
    | (show _ = true; rfl)
    | (rw [rg h0 (bC (xs := c.outs) (i := i) (by omega) (by assumption))]; first | done | rfl)
    | (rw [rh h0 (bM (by omega) hall)]; first | done | rfl)
    | (refine ⟨⟨i + 1, by omega, fun j hj => ?_⟩, by dsimp only; omega, ?_⟩
       ·by_cases e : j = i
        ·subst e; assumption
        ·exact hall j (by omega)
       ·simp -implicitDefEqProofs only [go_sem, hh, seval]
        simp)
    | skip
 all_goals
  try rw [hx.1]
  simp -implicitDefEqProofs only [Tryz.f210, hx, eq_self, decide_true, decide_false, Int.reduceEq, go_sem, hh, seval]
  with_reducible repeat' (first | apply ai | intro _ | ((first | apply s1 | apply s3 | apply s4) <;> intro hb <;> simp -implicitDefEqProofs only [hb, go_sem, hh, seval] <;> try simp only [qz] at hb))
  all_goals (try simp only [maxLen, tn, lm] at *)
  all_goals first | rfl | omega | decide | with_reducible assumption | (show Aa _ = true; rfl) | exact Ht (by assumption) | contradiction | skip
end
open Classical in
noncomputable def FW (c : Cl) (k : Int) : Cl × ByteArray := (if k = 250 then Di ⟨c.name, c.mail, c.state, c.pos, c.outs.set (c.pos - 1).toNat 1⟩ else (if k ≥ 500 then Di ⟨c.name, c.mail, c.state, c.pos, c.outs.set (c.pos - 1).toNat 4⟩ else Di ⟨c.name, c.mail, c.state, c.pos, c.outs.set (c.pos - 1).toNat 3⟩))
theorem sb {c : Cl} {k : Int} (h0 : k = 250) : FW c k = Di ⟨c.name, c.mail, c.state, c.pos, c.outs.set (c.pos - 1).toNat 1⟩ := by unfold FW; rw [if_pos h0]
theorem sc {c : Cl} {k : Int} (h0 : ¬ (k = 250)) (h1 : k ≥ 500) : FW c k = Di ⟨c.name, c.mail, c.state, c.pos, c.outs.set (c.pos - 1).toNat 4⟩ := by unfold FW; rw [if_neg h0, if_pos h1]
theorem sd {c : Cl} {k : Int} (h0 : ¬ (k = 250)) (h1 : ¬ (k ≥ 500)) : FW c k = Di ⟨c.name, c.mail, c.state, c.pos, c.outs.set (c.pos - 1).toNat 3⟩ := by unfold FW; rw [if_neg h0, if_neg h1]
def oI : Ct := Ar (lc dO.ag (lc BK l0)) (fun p => p.1.outs.length ≤ 1000 ∧ OM p.1.mail ∧ 1 ≤ p.1.pos ∧ p.1.pos ≤ p.1.outs.length) (fun p => .tup [.agg ((Dw (FW p.1 p.2.1).1).map .t), .t (.v (.string (FW p.1 p.2.1).2))])
section
attribute [local go_sem] ZC lm List.length_set Bb J1 AS.opn AS.cls AS.nilb AS.renb AS.up Bool.not_false Bool.not_true List.set_set List.set_cons_zero List.set_cons_succ List.set_nil List.mem_singleton forall_eq tn List.map_nil List.nil_append
set_option maxHeartbeats 1600000 in
theorem iE {G : Gt} (hG : Ah G) (hh : G.e 210 = AA 1 ZC) : Gd G 208 (AA 1 oI) := by
 refine gr (fn := Tryz.f208) (n := 2) rfl rfl hG ?_
 rintro ⟨c, k, ⟨⟩⟩ hpre
 obtain ⟨hl, hm, hp, hq⟩ := hpre
 try dsimp only at hl hm hp hq ⊢
 refine BJ (k = 250) (fun h0 => have h0' := decide_eq_true h0; have hx := And.intro (sb h0 : FW c k = _) h0'; ?_) (fun h0 => have h0' := decide_eq_false h0; BJ (k ≥ 500) (fun h1 => have hx := And.intro (sc h0 h1 : FW c k = _) (And.intro h0' h1); ?_) (fun h1 => have hx := And.intro (sd h0 h1 : FW c k = _) (And.intro h0' h1); ?_))
 all_goals
  try rw [hx.1]
  simp -implicitDefEqProofs only [Tryz.f208, hx, eq_self, decide_true, decide_false, Int.reduceEq, go_sem, hh, seval]
  with_reducible repeat' (first | apply ai | intro _ | ((first | apply s1 | apply s3 | apply s4) <;> intro hb <;> simp -implicitDefEqProofs only [hb, go_sem, hh, seval] <;> try simp only [qz] at hb))
  all_goals (try simp only [maxLen, tn, lm] at *)
  all_goals first | rfl | omega | decide | with_reducible assumption | (show Aa _ = true; rfl) | exact Ht (by assumption) | contradiction | skip
end
open Classical in
noncomputable def A0 (c : Cl) (a : ByteArray) : Cl × ByteArray := (if c.state = 7 then (c, ⟨#[]⟩) else (if c.state = 6 then (⟨c.name, c.mail, 7, c.pos, c.outs⟩, ⟨#[]⟩) else (if c.state = 3 then FW c (BC a) else (if c.state = 0 then (if BC a = 220 then (⟨c.name, c.mail, 1, c.pos, c.outs⟩, ⟨#[72, 69, 76, 79, 32]⟩ ++ c.name) else DW c (BC a)) else (if c.state = 1 then (if BC a = 250 then (⟨c.name, c.mail, 2, c.pos, c.outs⟩, ⟨#[77, 65, 73, 76, 32, 70, 82, 79, 77, 58]⟩ ++ C2 c.mail.frm) else DW c (BC a)) else (if c.state = 2 then (if BC a = 250 then Di c else DW c (BC a)) else (if c.state = 4 then (if BC a = 354 then (⟨c.name, c.mail, 5, c.pos, c.outs⟩, W4 c.mail.body) else DW c (BC a)) else (if c.state = 5 then (if BC a = 250 then (⟨c.name, c.mail, 6, c.pos, c.outs.map Qa⟩, ⟨#[81, 85, 73, 84]⟩) else DW c (BC a)) else DW c (BC a)))))))))
theorem sF {c : Cl} {a : ByteArray} (h0 : c.state = 7) : A0 c a = (c, ⟨#[]⟩) := by unfold A0; rw [if_pos h0]
theorem sG {c : Cl} {a : ByteArray} (h0 : ¬ (c.state = 7)) (h1 : c.state = 6) : A0 c a = (⟨c.name, c.mail, 7, c.pos, c.outs⟩, ⟨#[]⟩) := by unfold A0; rw [if_neg h0, if_pos h1]
theorem sH {c : Cl} {a : ByteArray} (h0 : ¬ (c.state = 7)) (h1 : ¬ (c.state = 6)) (h2 : c.state = 3) : A0 c a = FW c (BC a) := by unfold A0; rw [if_neg h0, if_neg h1, if_pos h2]
theorem sI {c : Cl} {a : ByteArray} (h0 : ¬ (c.state = 7)) (h1 : ¬ (c.state = 6)) (h2 : ¬ (c.state = 3)) (h3 : c.state = 0) (h4 : BC a = 220) : A0 c a = (⟨c.name, c.mail, 1, c.pos, c.outs⟩, ⟨#[72, 69, 76, 79, 32]⟩ ++ c.name) := by unfold A0; rw [if_neg h0, if_neg h1, if_neg h2, if_pos h3, if_pos h4]
theorem sJ {c : Cl} {a : ByteArray} (h0 : ¬ (c.state = 7)) (h1 : ¬ (c.state = 6)) (h2 : ¬ (c.state = 3)) (h3 : c.state = 0) (h4 : ¬ (BC a = 220)) : A0 c a = DW c (BC a) := by unfold A0; rw [if_neg h0, if_neg h1, if_neg h2, if_pos h3, if_neg h4]
theorem sK {c : Cl} {a : ByteArray} (h0 : ¬ (c.state = 7)) (h1 : ¬ (c.state = 6)) (h2 : ¬ (c.state = 3)) (h3 : ¬ (c.state = 0)) (h4 : c.state = 1) (h5 : BC a = 250) : A0 c a = (⟨c.name, c.mail, 2, c.pos, c.outs⟩, ⟨#[77, 65, 73, 76, 32, 70, 82, 79, 77, 58]⟩ ++ C2 c.mail.frm) := by unfold A0; rw [if_neg h0, if_neg h1, if_neg h2, if_neg h3, if_pos h4, if_pos h5]
theorem sL {c : Cl} {a : ByteArray} (h0 : ¬ (c.state = 7)) (h1 : ¬ (c.state = 6)) (h2 : ¬ (c.state = 3)) (h3 : ¬ (c.state = 0)) (h4 : c.state = 1) (h5 : ¬ (BC a = 250)) : A0 c a = DW c (BC a) := by unfold A0; rw [if_neg h0, if_neg h1, if_neg h2, if_neg h3, if_pos h4, if_neg h5]
theorem sM {c : Cl} {a : ByteArray} (h0 : ¬ (c.state = 7)) (h1 : ¬ (c.state = 6)) (h2 : ¬ (c.state = 3)) (h3 : ¬ (c.state = 0)) (h4 : ¬ (c.state = 1)) (h5 : c.state = 2) (h6 : BC a = 250) : A0 c a = Di c := by unfold A0; rw [if_neg h0, if_neg h1, if_neg h2, if_neg h3, if_neg h4, if_pos h5, if_pos h6]
theorem sN {c : Cl} {a : ByteArray} (h0 : ¬ (c.state = 7)) (h1 : ¬ (c.state = 6)) (h2 : ¬ (c.state = 3)) (h3 : ¬ (c.state = 0)) (h4 : ¬ (c.state = 1)) (h5 : c.state = 2) (h6 : ¬ (BC a = 250)) : A0 c a = DW c (BC a) := by unfold A0; rw [if_neg h0, if_neg h1, if_neg h2, if_neg h3, if_neg h4, if_pos h5, if_neg h6]
theorem sO {c : Cl} {a : ByteArray} (h0 : ¬ (c.state = 7)) (h1 : ¬ (c.state = 6)) (h2 : ¬ (c.state = 3)) (h3 : ¬ (c.state = 0)) (h4 : ¬ (c.state = 1)) (h5 : ¬ (c.state = 2)) (h6 : c.state = 4) (h7 : BC a = 354) : A0 c a = (⟨c.name, c.mail, 5, c.pos, c.outs⟩, W4 c.mail.body) := by unfold A0; rw [if_neg h0, if_neg h1, if_neg h2, if_neg h3, if_neg h4, if_neg h5, if_pos h6, if_pos h7]
theorem jM {c : Cl} {a : ByteArray} (h0 : ¬ (c.state = 7)) (h1 : ¬ (c.state = 6)) (h2 : ¬ (c.state = 3)) (h3 : ¬ (c.state = 0)) (h4 : ¬ (c.state = 1)) (h5 : ¬ (c.state = 2)) (h6 : c.state = 4) (h7 : ¬ (BC a = 354)) : A0 c a = DW c (BC a) := by unfold A0; rw [if_neg h0, if_neg h1, if_neg h2, if_neg h3, if_neg h4, if_neg h5, if_pos h6, if_neg h7]
theorem jN {c : Cl} {a : ByteArray} (h0 : ¬ (c.state = 7)) (h1 : ¬ (c.state = 6)) (h2 : ¬ (c.state = 3)) (h3 : ¬ (c.state = 0)) (h4 : ¬ (c.state = 1)) (h5 : ¬ (c.state = 2)) (h6 : ¬ (c.state = 4)) (h7 : c.state = 5) (h8 : BC a = 250) : A0 c a = (⟨c.name, c.mail, 6, c.pos, c.outs.map Qa⟩, ⟨#[81, 85, 73, 84]⟩) := by unfold A0; rw [if_neg h0, if_neg h1, if_neg h2, if_neg h3, if_neg h4, if_neg h5, if_neg h6, if_pos h7, if_pos h8]
theorem jO {c : Cl} {a : ByteArray} (h0 : ¬ (c.state = 7)) (h1 : ¬ (c.state = 6)) (h2 : ¬ (c.state = 3)) (h3 : ¬ (c.state = 0)) (h4 : ¬ (c.state = 1)) (h5 : ¬ (c.state = 2)) (h6 : ¬ (c.state = 4)) (h7 : c.state = 5) (h8 : ¬ (BC a = 250)) : A0 c a = DW c (BC a) := by unfold A0; rw [if_neg h0, if_neg h1, if_neg h2, if_neg h3, if_neg h4, if_neg h5, if_neg h6, if_pos h7, if_neg h8]
theorem jP {c : Cl} {a : ByteArray} (h0 : ¬ (c.state = 7)) (h1 : ¬ (c.state = 6)) (h2 : ¬ (c.state = 3)) (h3 : ¬ (c.state = 0)) (h4 : ¬ (c.state = 1)) (h5 : ¬ (c.state = 2)) (h6 : ¬ (c.state = 4)) (h7 : ¬ (c.state = 5)) : A0 c a = DW c (BC a) := by unfold A0; rw [if_neg h0, if_neg h1, if_neg h2, if_neg h3, if_neg h4, if_neg h5, if_neg h6, if_neg h7]
def oA : Ct := Ar (lc dO.ag (lc Ax l0)) (fun p => p.1.outs.length ≤ 1000 ∧ OM p.1.mail ∧ 0 ≤ p.1.pos ∧ p.1.pos ≤ p.1.outs.length ∧ (p.1.state = 3 → 1 ≤ p.1.pos) ∧ p.1.name.size ≤ 1000000) (fun p => .tup [.agg ((Dw (A0 p.1 p.2.1).1).map .t), .t (.v (.string (A0 p.1 p.2.1).2))])
section
attribute [local go_sem] oH oI Ra ZC oJ oK oL AS.opn AS.cls AS.nilb AS.renb AS.up Bool.not_false Bool.not_true List.set_set List.set_cons_zero List.set_cons_succ List.set_nil List.mem_singleton forall_eq tn List.map_nil List.nil_append
set_option maxHeartbeats 3200000 in
theorem gz {G : Gt} (hG : Ah G) (hh : G.e 207 = AA 0 oH ∧ G.e 208 = AA 1 oI ∧ G.e 209 = AA 0 Ra ∧ G.e 210 = AA 1 ZC ∧ G.e 211 = AA 0 oJ ∧ G.e 212 = AA 1 oK ∧ G.e 213 = AA 1 oL) : Gd G 198 (AA 1 oA) := by
 refine gr (fn := Tryz.f198) (n := 2) rfl rfl hG ?_
 rintro ⟨c, a, ⟨⟩⟩ hpre
 obtain ⟨hl, hm, hp, hq, h3p, hn⟩ := hpre
 try dsimp only at hl hm hp hq h3p hn ⊢
 have hml := hm.1
 have hmb := hm.2.1
 have hmf := hm.2.2.1
 have hps := OB c.mail.frm
 have hbo : ∀ x ∈ c.mail.body, x.size ≤ 2000000 := fun x hx => Nat.le_trans (hm.2.2.2.2 x hx) (by decide)
 have e5 : (#[72, 69, 76, 79, 32] : Array UInt8).size = 5 := rfl
 have e10 : (#[77, 65, 73, 76, 32, 70, 82, 79, 77, 58] : Array UInt8).size = 10 := rfl
 refine BJ (c.state = 7) (fun h0 => have h0' := decide_eq_true h0; have hx := And.intro (sF h0 : A0 c a = _) h0'; ?_) (fun h0 => have h0' := decide_eq_false h0; BJ (c.state = 6) (fun h1 => have h1' := decide_eq_true h1; have hx := And.intro (sG h0 h1 : A0 c a = _) (And.intro h0' h1'); ?_) (fun h1 => have h1' := decide_eq_false h1; BJ (c.state = 3) (fun h2 => have h2' := decide_eq_true h2; have hx := And.intro (sH h0 h1 h2 : A0 c a = _) (And.intro h0' (And.intro h1' h2')); ?_) (fun h2 => have h2' := decide_eq_false h2; BJ (c.state = 0) (fun h3 => have h3' := decide_eq_true h3; BJ (BC a = 220) (fun h4 => have h4' := decide_eq_true h4; have hx := And.intro (sI h0 h1 h2 h3 h4 : A0 c a = _) (And.intro h0' (And.intro h1' (And.intro h2' (And.intro h3' h4')))); ?_) (fun h4 => have h4' := decide_eq_false h4; have hx := And.intro (sJ h0 h1 h2 h3 h4 : A0 c a = _) (And.intro h0' (And.intro h1' (And.intro h2' (And.intro h3' h4')))); ?_)) (fun h3 => have h3' := decide_eq_false h3; BJ (c.state = 1) (fun h4 => have h4' := decide_eq_true h4; BJ (BC a = 250) (fun h5 => have h5' := decide_eq_true h5; have hx := And.intro (sK h0 h1 h2 h3 h4 h5 : A0 c a = _) (And.intro h0' (And.intro h1' (And.intro h2' (And.intro h3' (And.intro h4' h5'))))); ?_) (fun h5 => have h5' := decide_eq_false h5; have hx := And.intro (sL h0 h1 h2 h3 h4 h5 : A0 c a = _) (And.intro h0' (And.intro h1' (And.intro h2' (And.intro h3' (And.intro h4' h5'))))); ?_)) (fun h4 => have h4' := decide_eq_false h4; BJ (c.state = 2) (fun h5 => have h5' := decide_eq_true h5; BJ (BC a = 250) (fun h6 => have h6' := decide_eq_true h6; have hx := And.intro (sM h0 h1 h2 h3 h4 h5 h6 : A0 c a = _) (And.intro h0' (And.intro h1' (And.intro h2' (And.intro h3' (And.intro h4' (And.intro h5' h6')))))); ?_) (fun h6 => have h6' := decide_eq_false h6; have hx := And.intro (sN h0 h1 h2 h3 h4 h5 h6 : A0 c a = _) (And.intro h0' (And.intro h1' (And.intro h2' (And.intro h3' (And.intro h4' (And.intro h5' h6')))))); ?_)) (fun h5 => have h5' := decide_eq_false h5; BJ (c.state = 4) (fun h6 => have h6' := decide_eq_true h6; BJ (BC a = 354) (fun h7 => have h7' := decide_eq_true h7; have hx := And.intro (sO h0 h1 h2 h3 h4 h5 h6 h7 : A0 c a = _) (And.intro h0' (And.intro h1' (And.intro h2' (And.intro h3' (And.intro h4' (And.intro h5' (And.intro h6' h7'))))))); ?_) (fun h7 => have h7' := decide_eq_false h7; have hx := And.intro (jM h0 h1 h2 h3 h4 h5 h6 h7 : A0 c a = _) (And.intro h0' (And.intro h1' (And.intro h2' (And.intro h3' (And.intro h4' (And.intro h5' (And.intro h6' h7'))))))); ?_)) (fun h6 => have h6' := decide_eq_false h6; BJ (c.state = 5) (fun h7 => have h7' := decide_eq_true h7; BJ (BC a = 250) (fun h8 => have h8' := decide_eq_true h8; have hx := And.intro (jN h0 h1 h2 h3 h4 h5 h6 h7 h8 : A0 c a = _) (And.intro h0' (And.intro h1' (And.intro h2' (And.intro h3' (And.intro h4' (And.intro h5' (And.intro h6' (And.intro h7' h8')))))))); ?_) (fun h8 => have h8' := decide_eq_false h8; have hx := And.intro (jO h0 h1 h2 h3 h4 h5 h6 h7 h8 : A0 c a = _) (And.intro h0' (And.intro h1' (And.intro h2' (And.intro h3' (And.intro h4' (And.intro h5' (And.intro h6' (And.intro h7' h8')))))))); ?_)) (fun h7 => have h7' := decide_eq_false h7; have hx := And.intro (jP h0 h1 h2 h3 h4 h5 h6 h7 : A0 c a = _) (And.intro h0' (And.intro h1' (And.intro h2' (And.intro h3' (And.intro h4' (And.intro h5' (And.intro h6' h7'))))))); ?_))))))))
 all_goals
  try rw [hx.1]
  simp -implicitDefEqProofs only [Tryz.f198, hx, eq_self, decide_true, decide_false, Int.reduceEq, go_sem, hh, seval]
  with_reducible repeat' (first | apply ai | intro _ | ((first | apply s1 | apply s3 | apply s4) <;> intro hb <;> simp -implicitDefEqProofs only [hb, go_sem, hh, seval] <;> try simp only [qz] at hb))
  all_goals (try simp only [maxLen, tn, lm] at *)
  all_goals first | rfl | omega | decide | with_reducible assumption | (show Aa _ = true; rfl) | exact Ht (by assumption) | contradiction | exact hbo _ (by with_reducible assumption) | skip
end
def WR (c : Cl) : Prop := c.outs.length = c.mail.to.length ∧ OM c.mail ∧ 0 ≤ c.pos ∧ c.pos ≤ c.outs.length ∧ (c.state = 3 → 1 ≤ c.pos) ∧ c.name.size ≤ 1000
theorem fC {c : Cl} (k : Int) (h : WR c) : WR (DW c k).1 ∧ (DW c k).2.size ≤ 20 := by
 unfold DW
 split
 all_goals exact ⟨⟨by show (c.outs.map _).length = _; rw [lm]; exact h.1, h.2.1, h.2.2.1, by show _ ≤ (((c.outs.map _).length : Nat) : Int); rw [lm]; exact h.2.2.2.1, fun q => by simp at q, h.2.2.2.2.2⟩, Nat.le_of_ble_eq_true rfl⟩
theorem Vc {c : Cl} (h : c.outs.length = c.mail.to.length ∧ OM c.mail ∧ 0 ≤ c.pos ∧ c.pos ≤ c.outs.length ∧ c.name.size ≤ 1000) : WR (Di c).1 ∧ (Di c).2.size ≤ 3000 := by
 obtain ⟨h1, h2, h3, h4, h5⟩ := h
 unfold Di
 split
 ·rename_i hlt
  refine ⟨⟨h1, h2, by show 0 ≤ c.pos + 1; omega, by show c.pos + 1 ≤ (c.outs.length : Int); omega, fun _ => by show 1 ≤ c.pos + 1; omega, h5⟩, ?_⟩
  show (⟨#[82, 67, 80, 84, 32, 84, 79, 58]⟩ ++ C2 (c.mail.to.getD c.pos.toNat default)).size ≤ 3000
  have hps := OB (c.mail.to.getD c.pos.toNat default)
  have ht := mC h2 (i := c.pos.toNat) (by omega)
  rw [ByteArray.size_append]
  have e8 : (⟨#[82, 67, 80, 84, 32, 84, 79, 58]⟩ : ByteArray).size = 8 := rfl
  omega
 ·split
  all_goals exact ⟨⟨h1, h2, h3, h4, fun q => by simp at q, h5⟩, Nat.le_of_ble_eq_true rfl⟩
theorem jX {c : Cl} (k : Int) (h : WR c) : WR (FW c k).1 ∧ (FW c k).2.size ≤ 3000 := by
 have key : ∀ v : Int, WR (Di ⟨c.name, c.mail, c.state, c.pos, c.outs.set (c.pos - 1).toNat v⟩).1 ∧ (Di ⟨c.name, c.mail, c.state, c.pos, c.outs.set (c.pos - 1).toNat v⟩).2.size ≤ 3000 := fun v =>
  Vc ⟨by show (c.outs.set _ _).length = _; rw [List.length_set]; exact h.1, h.2.1, h.2.2.1, by show _ ≤ (((c.outs.set _ _).length : Nat) : Int); rw [List.length_set]; exact h.2.2.2.1, h.2.2.2.2.2⟩
 unfold FW
 repeat' split
 all_goals exact key _
theorem pd {l : List ByteArray} (h1 : l.length ≤ 100) (h : ∀ x ∈ l, x.size ≤ 1000) : (W4 l).size ≤ 100400 := by
 unfold W4
 have q := Z2 l ⟨#[]⟩ 1000 h
 rw [ByteArray.size_append, kH]
 have : (⟨#[]⟩ : ByteArray).size = 0 := rfl
 have : l.length * (1000 + 3) ≤ 100 * (1000 + 3) := Nat.mul_le_mul_right _ h1
 omega
theorem jQ {c : Cl} (a : ByteArray) (h : WR c) : WR (A0 c a).1 ∧ (A0 c a).2.size ≤ 200000 := by
 have q1 := jX (BC a) h
 have q2 := fC (BC a) h
 have q3 := Vc ⟨h.1, h.2.1, h.2.2.1, h.2.2.2.1, h.2.2.2.2.2⟩
 have q4 := pd h.2.1.2.1 h.2.1.2.2.2.2
 have q5 := OB c.mail.frm
 have q6 := h.2.1.2.2.1
 have mk : ∀ st, ¬ st = (3 : Int) → ∀ o : List Int, o.length = c.outs.length → WR ⟨c.name, c.mail, st, c.pos, o⟩ := fun st hs o ho => ⟨by show o.length = _; rw [ho]; exact h.1, h.2.1, h.2.2.1, by show _ ≤ ((o.length : Nat) : Int); rw [ho]; exact h.2.2.2.1, fun q => absurd q hs, h.2.2.2.2.2⟩
 unfold A0
 repeat' split
 all_goals first
  | exact ⟨h, Nat.zero_le _⟩
  | exact ⟨mk _ (by decide) _ rfl, Nat.zero_le _⟩
  | exact ⟨q1.1, by have := q1.2; omega⟩
  | exact ⟨q2.1, by have := q2.2; omega⟩
  | exact ⟨q3.1, by have := q3.2; omega⟩
  | exact ⟨mk _ (by decide) _ (lm _), Nat.le_of_ble_eq_true rfl⟩
  | exact ⟨mk _ (by decide) _ rfl, Nat.le_trans q4 (by decide)⟩
  | (refine ⟨mk _ (by decide) _ rfl, ?_⟩
     show ((⟨_⟩ : ByteArray) ++ _).size ≤ _
     rw [ByteArray.size_append]
     have e5 : (⟨#[72, 69, 76, 79, 32]⟩ : ByteArray).size = 5 := rfl
     have e10 : (⟨#[77, 65, 73, 76, 32, 70, 82, 79, 77, 58]⟩ : ByteArray).size = 10 := rfl
     have := h.2.2.2.2.2
     omega)
theorem ZG (c : Cf) (s : Ss) (l : ByteArray) : (Bc c s l).1.buf = s.buf := by
 have q1 : ∀ t, (Et s t).1.buf = s.buf := fun t => by unfold Et; (repeat' split) <;> rfl
 have q2 : ∀ t, (H9 c s t).1.buf = s.buf := fun t => by unfold H9; (repeat' split) <;> rfl
 unfold Bc
 repeat' split
 all_goals first | rfl | exact q1 _ | exact q2 _
theorem ZK (s : Ss) (l : ByteArray) : (Aj s l).1.1.buf = s.buf := by unfold Aj; (repeat' split) <;> rfl
theorem cV (c : Cf) (s : Ss) (l : ByteArray) : (Bo c s l).1.1.buf = s.buf := by
 unfold Bo
 repeat' split
 all_goals first | rfl | exact ZK s l | exact ZG c s l
theorem Uw (c : Cf) : ∀ (L : List ByteArray) (x : F5), (Nj c L x).1.1.buf = x.1.buf
 | [], x => rfl
 | l :: r, x => by
   rw [Nj]
   split
   ·rfl
   ·split
    ·rfl
    ·rw [Uw c r]; exact cV c x.1 l
theorem W7 (c : Cf) (s : Ss) (t : ByteArray) : (Bu c s t).1.buf.size ≤ 80 := by
 have q := Uw c (OQ (s.buf ++ t)) (⟨s.state, s.mail, s.bad, ⟨#[]⟩⟩, [], [])
 have e : (⟨#[]⟩ : ByteArray).size = 0 := rfl
 unfold Bu aI
 split
 ·rw [q]; show (⟨#[]⟩ : ByteArray).size ≤ 80; omega
 ·split
  ·rw [q]; show (⟨#[]⟩ : ByteArray).size ≤ 80; omega
  ·split
   ·show (Nj c _ _).1.1.buf.size ≤ 80
    rw [q]; show (⟨#[]⟩ : ByteArray).size ≤ 80; omega
   ·show (rU (s.buf ++ t)).size ≤ 80; omega
abbrev Om := Cl × Ss × List Ml × List ByteArray
def cb (q : Cl × ByteArray) : ByteArray := if q.1.state = 5 then q.2 else q.2 ++ ⟨#[13, 10]⟩
theorem l5 {q : Cl × ByteArray} (h : q.1.state = 5) : cb q = q.2 := if_pos h
theorem l4 {q : Cl × ByteArray} (h : ¬ q.1.state = 5) : cb q = q.2 ++ ⟨#[13, 10]⟩ := if_neg h
theorem v0 (q : Cl × ByteArray) : (cb q).size ≤ q.2.size + 2 := by
 unfold cb
 split
 ·omega
 ·rw [ByteArray.size_append, NX]; omega
noncomputable def M2 (x : Om) : Cl × ByteArray := A0 x.1 (x.2.2.2.getD 0 default)
noncomputable def dH (h : Cf) (x : Om) : Om := ((M2 x).1, (Bu h x.2.1 (cb (M2 x))).1, x.2.2.1 ++ (Bu h x.2.1 (cb (M2 x))).2.2, (Bu h x.2.1 (cb (M2 x))).2.1)
noncomputable def Lh (h : Cf) (cut : Int) : Nat → Nat → Om → Cl × List Ml
 | 0, _, x => (x.1, x.2.2.1)
 | k + 1, n, x => if (x.2.2.2.length : Int) > 0 ∧ ¬ x.1.state = 7 then (if 2 * (n : Int) ≥ cut then (x.1, x.2.2.1) else if (M2 x).2 = ⟨#[]⟩ ∨ 2 * (n : Int) + 1 ≥ cut then ((M2 x).1, x.2.2.1) else Lh h cut k (n + 1) (dH h x)) else (x.1, x.2.2.1)
theorem cc {h : Cf} {cut : Int} {k n : Nat} {x : Om} (q : ¬ (x.2.2.2.length : Int) > 0 ∨ x.1.state = 7 ∨ 2 * (n : Int) ≥ cut) : Lh h cut k n x = (x.1, x.2.2.1) := by
 cases k with
 | zero => rfl
 | succ k =>
   rw [Lh]
   split
   ·rename_i z
    rw [if_pos (q.elim (fun a => absurd z.1 a) fun q => q.elim (fun a => absurd a z.2) id)]
   ·rfl
theorem l6 {h : Cf} {cut : Int} {k n : Nat} {x : Om} (hk : cut ≤ 2 * ((n : Int) + k)) (h1 : (x.2.2.2.length : Int) > 0) (h2 : ¬ x.1.state = 7) (h3 : ¬ 2 * (n : Int) ≥ cut) (h4 : (M2 x).2 = ⟨#[]⟩ ∨ 2 * (n : Int) + 1 ≥ cut) : Lh h cut k n x = ((M2 x).1, x.2.2.1) := by
 obtain ⟨j, rfl⟩ : ∃ j, k = j + 1 := ⟨k - 1, by omega⟩
 rw [Lh, if_pos ⟨h1, h2⟩, if_neg h3, if_pos h4]
theorem wD {h : Cf} {cut : Int} {k n : Nat} {x : Om} (h1 : (x.2.2.2.length : Int) > 0) (h2 : ¬ x.1.state = 7) (h3 : ¬ 2 * (n : Int) ≥ cut) (h4 : ¬ (M2 x).2 = ⟨#[]⟩) (h5 : ¬ 2 * (n : Int) + 1 ≥ cut) : Lh h cut (k + 1) n x = Lh h cut k (n + 1) (dH h x) := by
 rw [Lh, if_pos ⟨h1, h2⟩, if_neg h3, if_neg (fun q => q.elim h4 h5)]
def su (n : Nat) (x : Om) : Prop := WR x.1 ∧ Ok x.2.1 ∧ x.2.1.buf.size ≤ 80 ∧ x.2.2.1.length ≤ n * 300000 ∧ ∀ m ∈ x.2.2.1, jm m
theorem Sy {n : Nat} {x : Om} (q : su n x) : WR (M2 x).1 ∧ (M2 x).2.size ≤ 200000 := jQ _ q.1
theorem OH {h : Cf} {n : Nat} {x : Om} (q : su n x) : su (n + 1) (dH h x) ∧ (Bu h x.2.1 (cb (M2 x))).2.2.length ≤ 300000 := by
 obtain ⟨h1, h2⟩ := Sy q
 obtain ⟨q1, q2, q3, q4, q5⟩ := q
 have ha := v0 (M2 x)
 have f := aM (c := h) (t := cb (M2 x)) q2 (by omega)
 have fl : (Bu h x.2.1 (cb (M2 x))).2.2.length ≤ 300000 := by have := f.2.2.1; omega
 refine ⟨⟨h1, f.1, W7 _ _ _, ?_, fun m hm => ?_⟩, fl⟩
 ·show (x.2.2.1 ++ _).length ≤ _
  rw [List.length_append]
  omega
 ·rcases List.mem_append.1 hm with hm | hm
  ·exact q5 m hm
  ·exact f.2.2.2.2 m hm
theorem LV (h : Cf) (cut : Int) : ∀ (k n : Nat) (x : Om), su n x → WR (Lh h cut k n x).1 ∧ (Lh h cut k n x).2.length ≤ (n + k) * 300000 ∧ ∀ m ∈ (Lh h cut k n x).2, jm m
 | 0, n, x, q => ⟨q.1, q.2.2.2.1, q.2.2.2.2⟩
 | k + 1, n, x, q => by
   have hl : x.2.2.1.length ≤ (n + (k + 1)) * 300000 := Nat.le_trans q.2.2.2.1 (Nat.mul_le_mul_right _ (Nat.le_add_right _ _))
   rw [Lh]
   split
   ·split
    ·exact ⟨q.1, hl, q.2.2.2.2⟩
    ·split
     ·exact ⟨(Sy q).1, hl, q.2.2.2.2⟩
     ·have z := LV h cut k (n + 1) _ (OH (h := h) q).1
      rw [show n + (k + 1) = n + 1 + k by omega]
      exact z
   ·exact ⟨q.1, hl, q.2.2.2.2⟩
def yV : Ss := ⟨0, ⟨⟨⟨#[]⟩, ⟨#[]⟩⟩, [], []⟩, false, ⟨#[]⟩⟩
def Xm (h : Cf) (nm : ByteArray) (m : Ml) : Om := (iw nm m, yV, [], [⟨#[50, 50, 48, 32]⟩ ++ h.name])
theorem LU (h : Cf) {nm : ByteArray} {m : Ml} (hn : nm.size ≤ 1000) (hm : OM m) : su 0 (Xm h nm m) := ⟨⟨by show (List.replicate _ _).length = _; rw [List.length_replicate]; rfl, hm, Int.le_refl _, by show (0 : Int) ≤ _; omega, fun q => absurd (show (0 : Int) = 3 from q) (by decide), hn⟩, F7 yV, Nat.zero_le _, Nat.zero_le _, fun _ z => by cases z⟩
noncomputable def yW (h : Cf) (nm : ByteArray) (m : Ml) (cut : Int) : Cl × List Ml := Lh h cut cut.toNat 0 (Xm h nm m)
noncomputable def E4 (h : Cf) (nm : ByteArray) (m : Ml) (cut : Int) : List Int × List Ml := ((yW h nm m cut).1.outs.map (Gb 3), (yW h nm m cut).2)
theorem LW {h : Cf} {nm : ByteArray} {m : Ml} {cut : Int} {c : Cl} {l : List Ml} (q : (c, l) = Lh h cut cut.toNat 0 (Xm h nm m)) : E4 h nm m cut = (c.outs.map (Gb 3), l) := by
 unfold E4 yW; rw [← q]
theorem wG {h : Cf} {x1 : Cl} {x2 : Ss} {x3 : List Ml} {x4 : List ByteArray} (e : (A0 x1 (x4.getD 0 default)).1.state = 5) : dH h (x1, x2, x3, x4) = ((A0 x1 (x4.getD 0 default)).1, (Bu h x2 (A0 x1 (x4.getD 0 default)).2).1, x3 ++ (Bu h x2 (A0 x1 (x4.getD 0 default)).2).2.2, (Bu h x2 (A0 x1 (x4.getD 0 default)).2).2.1) := by
 unfold dH; rw [l5 (show (M2 (x1, x2, x3, x4)).1.state = 5 from e)]; rfl
theorem wE {h : Cf} {x1 : Cl} {x2 : Ss} {x3 : List Ml} {x4 : List ByteArray} (e : ¬ (A0 x1 (x4.getD 0 default)).1.state = 5) : dH h (x1, x2, x3, x4) = ((A0 x1 (x4.getD 0 default)).1, (Bu h x2 ((A0 x1 (x4.getD 0 default)).2 ++ ⟨#[13, 10]⟩)).1, x3 ++ (Bu h x2 ((A0 x1 (x4.getD 0 default)).2 ++ ⟨#[13, 10]⟩)).2.2, (Bu h x2 ((A0 x1 (x4.getD 0 default)).2 ++ ⟨#[13, 10]⟩)).2.1) := by
 unfold dH; rw [l4 (show ¬ (M2 (x1, x2, x3, x4)).1.state = 5 from e)]; rfl
theorem rb (nm : ByteArray) (m : Ml) : iw nm m = ⟨nm, m, 0, 0, List.replicate m.to.length 0⟩ := rfl
def ZB : Ct := Ar (lc Jn.ag (lc Ax (lc dP.ag (lc BK l0)))) (fun p => p.1.name.size ≤ 1000 ∧ p.2.1.size ≤ 1000 ∧ OM p.2.2.1 ∧ 0 ≤ p.2.2.2.1 ∧ p.2.2.2.1 ≤ 1000) (fun p => .tup [.t (.sl 1 ((E4 p.1 p.2.1 p.2.2.1 p.2.2.2.1).1.map Ao)), .t (.sl 4 ((E4 p.1 p.2.1 p.2.2.1 p.2.2.2.1).2.map DP))])
section
attribute [local go_sem] n9 oA oB oC VJ AT lm List.length_append List.map_append List.map_nil List.nil_append tn Int.toNat_zero Fk AS.opn AS.cls AS.nilb AS.renb AS.up Bool.not_false Bool.not_true List.set_set List.set_cons_zero List.set_cons_succ List.set_nil List.mem_singleton forall_eq
set_option maxHeartbeats 6400000 in
theorem gh {G : Gt} (hG : Ah G) (hh : G.e 197 = AA 1 n9 ∧ G.e 198 = AA 1 oA ∧ G.e 199 = AA 1 oB ∧ G.e 200 = AA 0 oC) : Gd G 185 (AA 1 ZB) := by
 refine OP (dp := fun n => !(Nat.beq n 24 || Nat.beq n 78 || Nat.beq n 100003)) (fn := Tryz.f185) (n := 4) rfl rfl hG ?_
 rintro ⟨h, nm, m, cut, ⟨⟩⟩ hpre
 obtain ⟨hn, Ma, hm, hc0, hc1⟩ := hpre
 try dsimp only at hn Ma hm hc0 hc1 ⊢
 have hm1 := hm.1
 have hm2 := hm.2.1
 have e4 : (#[50, 50, 48, 32] : Array UInt8).size = 4 := rfl
 have e2 : (#[13, 10] : Array UInt8).size = 2 := rfl
 simp -implicitDefEqProofs only [Tryz.f185, go_sem, hh, seval]
 with_reducible repeat' (first | apply ai | intro _ | ((first | apply s1 | apply s3 | apply s4) <;> intro hb <;> simp -implicitDefEqProofs only [hb, go_sem, hh, seval] <;> try simp only [qz] at hb))
 all_goals (try simp only [maxLen, tn] at *)
 all_goals first | with_reducible rfl | omega | with_reducible assumption | decide | (simp only [List.mem_cons, List.mem_singleton, List.not_mem_nil] at *; omega) | skip
 refine AO (Le.nilb 1011 3 1901 true 2 rfl rfl rfl) ?_
 simp -implicitDefEqProofs only [go_sem, hh, seval]
 refine AO (Le.nilb 1011 4 1902 true 1 rfl rfl rfl) (AX ?_)
 simp -implicitDefEqProofs only [go_sem, hh, seval]
 with_reducible repeat' (first | apply ai | intro _ | ((first | apply s1 | apply s3 | apply s4) <;> intro hb <;> simp -implicitDefEqProofs only [hb, go_sem, hh, seval] <;> try simp only [qz] at hb))
 all_goals (try simp only [maxLen, tn] at *)
 all_goals first | with_reducible rfl | omega | with_reducible assumption | decide | (simp only [List.mem_cons, List.mem_singleton, List.not_mem_nil] at *; omega) | skip
 refine Xf [1028, 1901, 1902] [(12, 902, false, 4)] (ι := {p : Nat × Nat × Om // cut ≤ 2 * ((p.1 : Int) + p.2.1) ∧ p.1 ≤ 1000 ∧ su p.1 p.2.2 ∧ Lh h cut p.2.1 p.1 p.2.2 = Lh h cut cut.toNat 0 (Xm h nm m)}) (fun p => ⟨[(3, .t (.v (.int .i64 cut))), (4, .pb 1004 0), (10, .pb 1010 0), (11, .pb 1011 0), (12, .h 902), (13, .t (.sl 1 (p.1.2.2.2.2.2.map AH))), (14, .t (.v (.int .i64 p.1.1)))], [(1004, some (.box ((DZ h).map .t))), (1010, some (.box ((Dw p.1.2.2.1).map .t))), (1011, some (.box ((Es p.1.2.2.2.1).map .t))), (902, some (.arr false 4 (p.1.2.2.2.2.1.map DP)))]⟩) (fun p => p.1.2.1) ⟨(0, cut.toNat, Xm h nm m), by dsimp only; omega, Nat.zero_le _, LU h Ma hm, rfl⟩ rfl ?_ ?_
 ·simp -implicitDefEqProofs only [go_sem, hh, seval]
  simp [rb, yV, Xm, Ao, AH]
  try trace_state
 ·rintro ⟨⟨n, k, x⟩, hk, hk2, hx, hv⟩
  obtain ⟨x1, x2, x3, x4⟩ := x
  dsimp only at hk hk2 hx hv
  have hc := hx.1
  have hc3 : x1.outs.length ≤ 1000 := by have := hc.1; have := hc.2.1.1; dsimp only at *; omega
  have hl3 := hx.2.2.2.1
  have hbf := hx.2.2.1
  obtain ⟨hq1, hq2⟩ := Sy hx
  obtain ⟨hq1, hq2⟩ : WR (A0 x1 (x4.getD 0 default)).1 ∧ (A0 x1 (x4.getD 0 default)).2.size ≤ 200000 := ⟨hq1, hq2⟩
  have hq3 : (A0 x1 (x4.getD 0 default)).1.outs.length ≤ 1000 := by have := hq1.1; have := hq1.2.1.1; omega
  have hf5 : (A0 x1 (x4.getD 0 default)).1.state = 5 → (Bu h x2 (A0 x1 (x4.getD 0 default)).2).2.2.length ≤ 300000 := fun e => by
   have z := (OH (h := h) hx).2; rw [l5 (show (M2 (x1, x2, x3, x4)).1.state = 5 from e)] at z; exact z
  have hf6 : ¬ (A0 x1 (x4.getD 0 default)).1.state = 5 → (Bu h x2 ((A0 x1 (x4.getD 0 default)).2 ++ ⟨#[13, 10]⟩)).2.2.length ≤ 300000 := fun e => by
   have z := (OH (h := h) hx).2; rw [l4 (show ¬ (M2 (x1, x2, x3, x4)).1.state = 5 from e)] at z; exact z
  dsimp only at hl3 hbf
  simp -implicitDefEqProofs only [go_sem, hh, seval]
  with_reducible repeat' (first | apply ai | intro _ | ((first | apply s1 | apply s3 | apply s4) <;> intro hb <;> simp -implicitDefEqProofs only [hb, go_sem, hh, seval] <;> try simp only [qz] at hb))
  all_goals (try simp only [maxLen, tn] at *)
  all_goals first
   | with_reducible rfl
   | omega
   | (show _ = true; rfl)
   | with_reducible assumption
   | exact hx.1.2.1
   | exact hx.1.2.2.1
   | exact hx.1.2.2.2.1
   | exact hx.1.2.2.2.2.1
   | exact Nat.le_trans hx.1.2.2.2.2.2 (by decide)
   | (rw [LW ((cc (x := (x1, x2, x3, x4)) (.inl (by dsimp only; omega))).symm.trans hv)]; first | done | rfl)
   | (rw [LW ((cc (x := (x1, x2, x3, x4)) (.inr (.inl (by with_reducible assumption)))).symm.trans hv)]; first | done | rfl)
   | (rw [LW ((cc (x := (x1, x2, x3, x4)) (.inr (.inr (by with_reducible assumption)))).symm.trans hv)]; first | done | rfl)
   | (rw [LW ((l6 (x := (x1, x2, x3, x4)) hk (by with_reducible assumption) (by with_reducible assumption) (by with_reducible assumption) (.inl (show (A0 x1 (x4.getD 0 default)).2 = ⟨#[]⟩ by with_reducible assumption))).symm.trans hv)]; first | done | rfl)
   | (rw [LW ((l6 (x := (x1, x2, x3, x4)) hk (by with_reducible assumption) (by with_reducible assumption) (by with_reducible assumption) (.inr (by with_reducible assumption))).symm.trans hv)]; first | done | rfl)
   | exact hc.2.2.2.2.1 (by with_reducible assumption)
   | exact hx.2.1
   | exact hq3
   | (have := hf5 (by with_reducible assumption); omega)
   | (have := hf6 (by with_reducible assumption); omega)
   | (rw [ByteArray.size_append]; show _ + (_ + 2) ≤ _; omega)
   | (obtain ⟨k, rfl⟩ : ∃ j, k = j + 1 := ⟨k - 1, by omega⟩
      refine ⟨⟨(n + 1, k, dH h (x1, x2, x3, x4)), by dsimp only; omega, by dsimp only; omega, (OH (h := h) hx).1, (wD (x := (x1, x2, x3, x4)) (by with_reducible assumption) (by with_reducible assumption) (by with_reducible assumption) (show ¬ (A0 x1 (x4.getD 0 default)).2 = ⟨#[]⟩ by with_reducible assumption) (by with_reducible assumption)).symm.trans hv⟩, by dsimp only; omega, ?_⟩
      simp -implicitDefEqProofs only [go_sem, hh, seval]
      first
       | (have ee := wG (h := h) (x1 := x1) (x2 := x2) (x3 := x3) (x4 := x4) (by with_reducible assumption); simp only [ee]; simp; done)
       | (have ee := wE (h := h) (x1 := x1) (x2 := x2) (x3 := x3) (x4 := x4) (by with_reducible assumption); simp only [ee]; simp; done)
       | skip)
   | skip
end
open Classical in
noncomputable def Gf (h : Hs) (nm : ByteArray) (m : Ml) (cut : Int) : List Int × List Ml := (if CI h.spool then E4 h.conf nm m cut else E4 h.conf nm m 0)
theorem sW {h : Hs} {nm : ByteArray} {m : Ml} {cut : Int} (h0 : CI h.spool) : Gf h nm m cut = E4 h.conf nm m cut := by unfold Gf; rw [if_pos h0]
theorem sX {h : Hs} {nm : ByteArray} {m : Ml} {cut : Int} (h0 : ¬ (CI h.spool)) : Gf h nm m cut = E4 h.conf nm m 0 := by unfold Gf; rw [if_neg h0]
def nv : Ct := Ar (lc Gy.ag (lc Ax (lc dP.ag (lc BK l0)))) (fun p => p.1.conf.name.size ≤ 1000 ∧ p.2.1.size ≤ 1000 ∧ OM p.2.2.1 ∧ 0 ≤ p.2.2.2.1 ∧ p.2.2.2.1 ≤ 1000) (fun p => .tup [.t (.sl 1 ((Gf p.1 p.2.1 p.2.2.1 p.2.2.2.1).1.map Ao)), .t (.sl 4 ((Gf p.1 p.2.1 p.2.2.1 p.2.2.2.1).2.map DP))])
section
attribute [local go_sem] KY ZB AS.opn AS.cls AS.nilb AS.renb AS.up Bool.not_false Bool.not_true List.set_set List.set_cons_zero List.set_cons_succ List.set_nil List.mem_singleton forall_eq tn List.map_nil List.nil_append
set_option maxHeartbeats 1600000 in
theorem gi {G : Gt} (hG : Ah G) (hh : G.e 121 = AA 0 KY ∧ G.e 185 = AA 1 ZB) : Gd G 186 (AA 1 nv) := by
 refine gr (fn := Tryz.f186) (n := 4) rfl rfl hG ?_
 rintro ⟨h, nm, m, cut, ⟨⟩⟩ hpre
 obtain ⟨hn, Ma, hm, hc0, hc1⟩ := hpre
 try dsimp only at hn Ma hm hc0 hc1 ⊢
 refine BJ (CI h.spool) (fun h0 => have h0' := Ap h0; have hx := And.intro (sW h0 : Gf h nm m cut = _) h0'; ?_) (fun h0 => have h0' := AQ h0; have hx := And.intro (sX h0 : Gf h nm m cut = _) h0'; ?_)
 all_goals
  try rw [hx.1]
  simp -implicitDefEqProofs only [Tryz.f186, hx, eq_self, decide_true, decide_false, Int.reduceEq, go_sem, hh, seval]
  with_reducible repeat' (first | apply ai | intro _ | ((first | apply s1 | apply s3 | apply s4) <;> intro hb <;> simp -implicitDefEqProofs only [hb, go_sem, hh, seval] <;> try simp only [qz] at hb))
  all_goals (try simp only [maxLen, tn, lm] at *)
  all_goals first | rfl | omega | decide | with_reducible assumption | (show Aa _ = true; rfl) | exact Ht (by assumption) | contradiction | skip
end
theorem M1 {α β : Type} [Inhabited α] (f : α → β) {xs : List α} {i : Nat} (h : i < xs.length) : (xs.take (i + 1)).map f = (xs.take i).map f ++ [f (xs.getD i default)] := by
 rw [List.take_add_one, List.getElem?_eq_getElem h, List.map_append]; simp [h]
def RS : Ct := Ar (lc Qv.ag l0) (fun p => GY p.1) (fun p => .agg [.o false 7 ((p.1).hosts.map Af), .t (.v (.int .i64 (p.1).now)), .t (.v (.int .i64 (p.1).marks)), .o true 3 ((p.1).given.map An)])
section
attribute [local go_sem] xD lm List.length_append List.map_append AT AS.opn AS.cls AS.nilb AS.renb AS.up Bool.not_false Bool.not_true List.set_set List.set_cons_zero List.set_cons_succ List.set_nil List.mem_singleton forall_eq tn List.map_nil List.nil_append
set_option maxHeartbeats 6400000 in
theorem fI {G : Gt} (hG : Ah G) (hh : G.e 67 = AA 0 xD) : Gd G 102 (AA 1 RS) := by
 refine OP (dp := fun n => !(Nat.beq n 100002 || Nat.beq n 100004 || Nat.beq n 29 || Nat.beq n 30)) (fn := Tryz.f102) (n := 1) rfl rfl hG ?_
 rintro ⟨w, ⟨⟩⟩ hpre
 have hw : GY w := hpre
 have hl1 := hw.1.1
 have hl2 := hw.2.1
 simp -implicitDefEqProofs only [Tryz.f102, go_sem, hh, seval]
 with_reducible repeat' (first | apply ai | intro _ | ((first | apply s1 | apply s3 | apply s4) <;> intro hb <;> simp -implicitDefEqProofs only [hb, go_sem, hh, seval] <;> try simp only [qz] at hb))
 all_goals (try simp only [maxLen, tn] at *)
 all_goals first | with_reducible rfl | omega | with_reducible assumption | (show _ = true; rfl) | skip
 refine AO (Le.nilb 1003 0 1901 false 7 rfl rfl rfl) (AX ?_)
 simp -implicitDefEqProofs only [go_sem, hh, seval]
 with_reducible repeat' (first | apply ai | intro _ | ((first | apply s1 | apply s3 | apply s4) <;> intro hb <;> simp -implicitDefEqProofs only [hb, go_sem, hh, seval] <;> try simp only [qz] at hb))
 all_goals (try simp only [maxLen, tn] at *)
 all_goals first | with_reducible rfl | omega | with_reducible assumption | (show _ = true; rfl) | skip
 refine AE [] (ι := {i : Nat // i ≤ w.hosts.length}) (fun p => ⟨[(1, .pb 1001 0), (2, .pb 1002 0), (3, .pb 1003 0), (4, .t (.v (.int .i64 p.1)))], [(1001, some (.box ((C8 w).map .t))), (1002, some (.box [.nil, .t (.v (.int .i64 0)), .t (.v (.int .i64 0)), .nil])), (1003, some (.box [.h 1901, .t (.v (.int .i64 w.now)), .t (.v (.int .i64 w.marks)), .h 1012])), (1901, some (.arr false 7 ((w.hosts.take p.1).map Af))), (1012, some (.arr true 3 (w.given.map An)))]⟩) (fun p => w.hosts.length - p.1) ⟨0, Nat.zero_le _⟩ rfl ?_ ?_
 ·simp -implicitDefEqProofs only [go_sem, hh, seval]
  try simp
 ·rintro ⟨i, hi⟩
  dsimp only at hi ⊢
  have hlen : (w.hosts.take i).length = i := by rw [List.length_take]; omega
  by_cases hlt : (i : Int) < w.hosts.length
  ·have hz := hw.1.at (i := i) (by omega)
   simp -implicitDefEqProofs only [hlt, decide_true, go_sem, hh, seval]
   with_reducible repeat' (first | apply ai | intro _ | ((first | apply s1 | apply s3 | apply s4) <;> intro hb <;> simp -implicitDefEqProofs only [hb, go_sem, hh, seval] <;> try simp only [qz] at hb))
   all_goals (try simp only [maxLen, tn] at *)
   all_goals first | with_reducible rfl | omega | with_reducible assumption | (show _ = true; rfl) | skip
   refine AO (Le.renb 1003 0 1030 1901 rfl rfl rfl rfl) (AX ?_)
   simp -implicitDefEqProofs only [go_sem, hh, seval]
   with_reducible repeat' (first | apply ai | intro _ | ((first | apply s1 | apply s3 | apply s4) <;> intro hb <;> simp -implicitDefEqProofs only [hb, go_sem, hh, seval] <;> try simp only [qz] at hb))
   all_goals first | with_reducible rfl | omega | skip
   refine ⟨⟨i + 1, by omega⟩, by dsimp only; omega, ?_⟩
   simp -implicitDefEqProofs only [go_sem, hh, seval]
   simp only [M1 Af (show i < w.hosts.length by omega)]
   with_reducible repeat' (first | apply ai | intro _ | ((first | apply s1 | apply s3 | apply s4) <;> intro hb <;> simp -implicitDefEqProofs only [hb, go_sem, hh, seval] <;> try simp only [qz] at hb))
   all_goals first | rfl | (simp; done) | skip
  ·have htk : w.hosts.take i = w.hosts := List.take_of_length_le (by omega)
   simp -implicitDefEqProofs only [hlt, htk, decide_false, go_sem, hh, seval]
   with_reducible repeat' (first | apply ai | intro _ | ((first | apply s1 | apply s3 | apply s4) <;> intro hb <;> simp -implicitDefEqProofs only [hb, go_sem, hh, seval] <;> try simp only [qz] at hb))
   all_goals (try simp only [maxLen] at *)
   all_goals first | with_reducible rfl | omega | with_reducible assumption | (show _ = true; rfl) | decide | skip
end
theorem Ol {s : Sp} (h : Bh s) {n : Int} {a : Ad} : Cn s n a ↔ ∃ x ∈ s.items, x.id = n ∧ ∃ r ∈ x.to, r.addr = a :=
 ⟨HW, fun ⟨x, hx, e, r, hr, e2⟩ => by rw [← e, ← e2]; exact (F8 h hx hr).1⟩
theorem dc {s : Sp} {m : Ml} {w n : Int} {a : Ad} (h : Bh (Lo s m w)) (q : Cn s n a) : Cn (Lo s m w) n a := by
 obtain ⟨x, hx, e⟩ := HW q
 exact (Ol h).2 ⟨x, List.mem_append_left _ hx, e⟩
theorem Ky {α : Type} [Inhabited α] {xs : List α} {i : Nat} {x y : α} (hx : x ∈ xs) (hi : i < xs.length) : x ∈ xs.set i y ∨ x = xs.getD i default := by
 obtain ⟨j, hj, rfl⟩ := List.getElem_of_mem hx
 by_cases e : i = j
 ·subst e; exact .inr (by simp [hj])
 ·exact .inl (by rw [List.mem_iff_getElem]; exact ⟨j, by simpa using hj, by rw [List.getElem_set_ne e]⟩)
theorem Hr {α : Type} {xs : List α} {i : Nat} {y : α} (hi : i < xs.length) : y ∈ xs.set i y := List.mem_set hi y
theorem df {s : Sp} {i k : Nat} {w n : Int} {a : Ad} (h : Bh (P7 s i k w)) (hi : i < s.items.length) (hk : k < (s.items.getD i default).to.length) (q : Cn s n a) : Cn (P7 s i k w) n a := by
 obtain ⟨x, hx, e, r, hr, e2⟩ := HW q
 refine (Ol h).2 ?_
 show ∃ y ∈ s.items.set i (SK (s.items.getD i default) k w), y.id = n ∧ ∃ r ∈ y.to, r.addr = a
 rcases Ky (y := SK (s.items.getD i default) k w) hx hi with hm | rfl
 ·exact ⟨x, hm, e, r, hr, e2⟩
 ·refine ⟨_, Hr hi, e, ?_⟩
  show ∃ r ∈ (s.items.getD i default).to.set k (XE ((s.items.getD i default).to.getD k default) w), r.addr = a
  rcases Ky (y := XE ((s.items.getD i default).to.getD k default) w) hr hk with hm | rfl
  ·exact ⟨r, hm, e2⟩
  ·exact ⟨_, Hr hk, e2⟩
theorem KH {s : Sp} (h : Bh s) {n : Int} {a : Ad} (q : Cn s n a) : BS a ∧ Do (A2 s n) ∧ (A8 s n).toNat < s.items.length ∧ (B6 (A2 s n) a).toNat < (s.items.getD (A8 s n).toNat default).to.length := by
 have i1 := CX q.1
 have k1 := Hf q.2
 have hx : Do (A2 s n) := (h.1 _ (AC (xs := s.items) (j := (A8 s n).toNat) (by omega))).1
 have hr := (hx.1 _ (AC (xs := (A2 s n).to) (j := (B6 (A2 s n) a).toNat) (by omega))).1
 rw [GE q.2] at hr
 exact ⟨hr, hx, by omega, by show _ < (A2 s n).to.length; omega⟩
theorem Hz {h : Hs} {n : Int} {a : Ad} {out w : Int} (hs : Bh h.spool) (q : Cn h.spool n a) (hw : 0 ≤ w ∧ w ≤ 9999) : Bh (CV h (A8 h.spool n).toNat (B6 (A2 h.spool n) a).toNat a out w).spool ∧
    ∀ n' a', Cn h.spool n' a' → ¬ (n = n' ∧ a = a') → Cn (CV h (A8 h.spool n).toNat (B6 (A2 h.spool n) a).toNat a out w).spool n' a' := by
 obtain ⟨ha, hx, hi, hk⟩ := KH hs q
 have hd := Ep hs hi hk
 have td : ∀ n' a', Cn h.spool n' a' → ¬ (n = n' ∧ a = a') → Cn (DO h.spool (A8 h.spool n).toNat (B6 (A2 h.spool n) a).toNat) n' a' := fun n' a' q' ne => Ti hs q q' ne
 unfold CV
 split
 ·exact ⟨hd, td⟩
 ·split
  ·rename_i hl
   have hl2 := Mh hs hi hk hl.2 hw.1
   exact ⟨hl2, fun n' a' q' _ => df hl2 hi hk q'⟩
  ·by_cases z : Ac (h.spool.items.getD (A8 h.spool n).toNat default).frm ∨ ¬ CI (DO h.spool (A8 h.spool n).toNat (B6 (A2 h.spool n) a).toNat)
   ·rw [aU z]; exact ⟨hd, td⟩
   ·rw [aT z]
    have hrm : CI (DO h.spool (A8 h.spool n).toNat (B6 (A2 h.spool n) a).toNat) := Classical.byContradiction fun y => z (.inr y)
    have ha2 := IP hd (Wf hx ha fun y => z (.inl y)) hw hrm
    exact ⟨ha2, fun n' a' q' ne => dc ha2 (td n' a' q' ne)⟩
theorem D2 (h : Hs) (i k : Nat) (a : Ad) (out w : Int) : (CV h i k a out w).conf = h.conf ∧ (CV h i k a out w).boxes = h.boxes ∧ ((CV h i k a out w).lost = h.lost ∨ (CV h i k a out w).lost = h.lost ++ [⟨Be (h.spool.items.getD i default).body, a⟩]) := by
 unfold CV HE
 repeat' split
 all_goals first | exact ⟨rfl, rfl, .inl rfl⟩ | exact ⟨rfl, rfl, .inr rfl⟩
theorem bj {h : Hs} {n : Int} {a : Ad} {out w : Int} (q : GW h) (t : Cn h.spool n a) (hw : 0 ≤ w ∧ w ≤ 9999) : GW (CV h (A8 h.spool n).toNat (B6 (A2 h.spool n) a).toNat a out w) := by
 obtain ⟨r1, r2, _⟩ := D2 h (A8 h.spool n).toNat (B6 (A2 h.spool n) a).toNat a out w
 refine ⟨fun j hj => ?_, by rw [r1]; exact q.2.1, (Hz q.2.2 t hw).1⟩
 have := q.1 j (by rw [r2] at hj; exact hj)
 unfold X3 at this ⊢
 rw [r1, r2]
 exact this
theorem jV {h : Hs} {m : Ml} {w : Int} (q : GW h) (hm : DK m) (hl : m.body.length < 12) (hw : 0 ≤ w ∧ w ≤ 9999) (hr : CI h.spool) : GW (JZ h m w) := ⟨q.1, q.2.1, IP q.2.2 (rO q.2.1.2.2.1 hm hl) hw hr⟩
def FX (h : Hs) : Prop := (∀ b ∈ h.boxes, mY b ∧ b.addr.domain ∈ h.conf.own) ∧ KF h.boxes ∧ Li h.conf ∧ Bh h.spool
theorem EG {h : Hs} : GW h ↔ FX h := by
 constructor
 ·intro q
  refine ⟨fun b hb => ?_, Oy fun j h0 hj => (q.1 j hj).2.1 h0, q.2.1, q.2.2⟩
  obtain ⟨j, hj, rfl⟩ := List.getElem_of_mem hb
  have := q.1 j hj
  unfold X3 at this
  have e : h.boxes.getD j default = h.boxes[j] := by simp [hj]
  rw [e] at this
  exact ⟨this.1, this.2.2⟩
 ·intro q
  refine ⟨fun j hj => ⟨(q.1 _ (AC hj)).1, fun h0 => ?_, (q.1 _ (AC hj)).2⟩, q.2.2.1, q.2.2.2⟩
  have := List.pairwise_iff_getElem.1 q.2.1 (j - 1) j (by omega) hj (by omega)
  rw [← IS]
  simpa [hj, show j - 1 < h.boxes.length by omega] using this
theorem Wg {bs : List Bx} {a : Ad} {g : Gm} {b : Bx} (h : b ∈ EN bs a g) : b ∈ bs ∨ (∃ b0 ∈ bs, b = ⟨b0.addr, b0.mails ++ [g]⟩) ∨ b = ⟨a, [g]⟩ := by
 cases hf : Fn bs a
 ·rw [FD hf] at h
  rcases List.mem_append.1 h with h | h
  ·exact .inl (List.mem_of_mem_take h)
  ·rcases List.mem_cons.1 h with h | h
   ·exact .inr (.inr h)
   ·exact .inl (List.mem_of_mem_drop h)
 ·rw [GG hf] at h
  rcases List.mem_or_eq_of_mem_set h with h | h
  ·exact .inl h
  ·exact .inr (.inl ⟨_, AC (Jw hf), h⟩)
def E6 (N : Nat) (h : Hs) : Prop := h.boxes.length ≤ N ∧ (∀ b ∈ h.boxes, b.mails.length ≤ N) ∧ h.lost.length ≤ N ∧ ∀ l ∈ h.lost, WV l
theorem B1 {N M : Nat} {h : Hs} (q : E6 N h) (l : N ≤ M) : E6 M h := ⟨Nat.le_trans q.1 l, fun b hb => Nat.le_trans (q.2.1 b hb) l, Nat.le_trans q.2.2.1 l, q.2.2.2⟩
theorem S5 {c : Cf} (h : Li c) : M8 c := by
 obtain ⟨h1, h2, h3, h4, h5⟩ := h
 have d : ∀ {s : ByteArray}, D9 s → Bj s := fun {s} q => by have := (DF q).2; show s.size ≤ 1048576; omega
 exact ⟨d h3, ⟨by omega, fun s hs => d (h1 s hs)⟩, ⟨by omega, fun w hw => ⟨d (h2 w hw).1, d (h2 w hw).2⟩⟩⟩
theorem EV {N : Nat} {h : Hs} (q : FX h) (n : E6 N h) (hN : N ≤ 1048576) : HU h := by
 obtain ⟨n1, n2, n3, n4⟩ := n
 refine ⟨S5 q.2.2.1, HV q.2.2.2, ⟨by omega, fun b hb => ?_⟩, ⟨by omega, n4⟩⟩
 have hbo := (q.1 b hb).1
 have := n2 b hb
 exact ⟨CH (.inl hbo.2), ⟨by omega, fun g hg => ⟨CH (hbo.1 g hg).1, HQ (hbo.1 g hg).2⟩⟩⟩
theorem ib {g : Hs} {x : Im} {a : Ad} {c : Cf} {R : List (Int × Ad)} (q : FX g) (k : Kp c g ((x.id, a) :: R)) (hx : Do x) (ha : BS a) (hd : a.domain ∈ g.conf.own) : FX (FQ g x a) := by
 have hk := k.step
 refine ⟨fun b hb => ?_, KV q.2.1, q.2.2.1, hk.sp⟩
 have hg : (BS x.frm ∨ Ac x.frm) ∧ Ck x.body := ⟨hx.2.2.2.1, hx.2.2.2.2.2⟩
 rcases Wg hb with h | ⟨b0, h0, rfl⟩ | rfl
 ·exact q.1 b h
 ·refine ⟨⟨fun y hy => ?_, (q.1 b0 h0).1.2⟩, (q.1 b0 h0).2⟩
  rcases List.mem_append.1 hy with hy | hy
  ·exact (q.1 b0 h0).1.1 y hy
  ·rw [List.mem_singleton] at hy; subst hy; exact hg
 ·exact ⟨⟨fun y hy => by rw [List.mem_singleton] at hy; subst hy; exact hg, ha⟩, hd⟩
theorem ic {N : Nat} {g : Hs} {x : Im} {a : Ad} (n : E6 N g) : E6 (N + 1) (FQ g x a) := ⟨Nat.le_trans (MN _ _ _) (Nat.succ_le_succ n.1), I1 n.2.1, Nat.le_succ_of_le n.2.2.1, n.2.2.2⟩
theorem VB {x : Im} {c : Cf} (hx : Do x) : ∀ (ads : List Ad) {g : Hs} {N : Nat} {R : List (Int × Ad)}, FX g → E6 N g → Kp c g ((ads.map fun a => (x.id, a)) ++ R) → (∀ a ∈ ads, BS a ∧ a.domain ∈ c.own) → FX (FR x ads g) ∧ E6 (N + ads.length) (FR x ads g) ∧ Kp c (FR x ads g) R
 | [], g, N, R, q, n, k, _ => ⟨q, n, k⟩
 | a :: r, g, N, R, q, n, k, h => by
   have ha := h a (List.mem_cons_self ..)
   have z := VB hx r (ib q k hx ha.1 (by rw [k.cf]; exact ha.2)) (ic (x := x) (a := a) n) (k.step (x := x) (a := a)) fun b hb => h b (List.mem_cons_of_mem _ hb)
   refine ⟨z.1, ?_, z.2.2⟩
   have e : N + (a :: r).length = N + 1 + r.length := by rw [List.length_cons]; omega
   rw [e]; exact z.2.1
theorem U7 {c : Cf} {w : Int} : ∀ (xs : List Im) {g : Hs} {N : Nat}, FX g → E6 N g → Kp c g (G0 c w xs) → (∀ x ∈ xs, Do x) → FX (Cy c w xs g) ∧ E6 (N + xs.length * 4) (Cy c w xs g)
 | [], g, N, q, n, _, _ => ⟨q, by show E6 (N + 0 * 4) g; rw [Nat.zero_mul]; exact n⟩
 | x :: t, g, N, q, n, k, h => by
   have hx := h x (List.mem_cons_self ..)
   have z := VB (c := c) hx (A3 c ⟨#[]⟩ w x.to) (R := G0 c w t) q n k fun a ha => by
    obtain ⟨r, hr, e, nr⟩ := Ez c ⟨#[]⟩ w x.to a ha
    rw [← e]
    refine ⟨(hx.1 r hr).1, ?_⟩
    rcases nr.2 with y | y
    ·exact y.1
    ·exact absurd rfl y.2.1
   have z2 := U7 t z.1 z.2.1 z.2.2 fun y hy => h y (List.mem_cons_of_mem _ hy)
   have hl := Ey c ⟨#[]⟩ w x.to
   have h4 := hx.2.2.2.2.1.2
   exact ⟨z2.1, B1 z2.2 (by rw [List.length_cons]; omega)⟩
theorem rS {h : Hs} {w : Int} {N : Nat} (q : FX h) (n : E6 N h) (hN : N ≤ 1048576) : FX (Cy h.conf w h.spool.items h) ∧ E6 (N + 40) (Cy h.conf w h.spool.items h) := by
 have k := Oe (w := w) (EG.2 q) (EV q n hN)
 have z := U7 h.spool.items q n k fun x hx => (q.2.2.2.1 x hx).1
 have hl := q.2.2.2.2.2.2
 exact ⟨z.1, B1 z.2 (by omega)⟩
theorem bD {b : List ByteArray} (h : Ck b) : Bj (Be b) := by
 rcases Fv b with e | e
 ·rw [e]; show (⟨#[]⟩ : ByteArray).size ≤ 1048576; decide
 ·exact (HQ h).2 _ e
theorem J0 {h : Hs} {n : Int} {a : Ad} {out w : Int} {N : Nat} (q : FX h) (hn : E6 N h) (t : Cn h.spool n a) (hw : 0 ≤ w ∧ w ≤ 9999) : FX (CV h (A8 h.spool n).toNat (B6 (A2 h.spool n) a).toNat a out w) ∧ E6 (N + 1) (CV h (A8 h.spool n).toNat (B6 (A2 h.spool n) a).toNat a out w) := by
 refine ⟨EG.1 (bj (EG.2 q) t hw), ?_⟩
 obtain ⟨r1, r2, r3⟩ := D2 h (A8 h.spool n).toNat (B6 (A2 h.spool n) a).toNat a out w
 obtain ⟨t1, t2, _⟩ := KH q.2.2.2 t
 unfold E6
 rw [r2]
 refine ⟨Nat.le_succ_of_le hn.1, fun b hb => Nat.le_succ_of_le (hn.2.1 b hb), ?_⟩
 rcases r3 with e | e
 ·rw [e]; exact ⟨Nat.le_succ_of_le hn.2.2.1, hn.2.2.2⟩
 ·rw [e]
  refine ⟨by rw [List.length_append]; exact Nat.succ_le_succ hn.2.2.1, fun l hl => ?_⟩
  rcases List.mem_append.1 hl with hl | hl
  ·exact hn.2.2.2 l hl
  ·rw [List.mem_singleton] at hl; subst hl
   exact ⟨bD t2.2.2.2.2.2, CH (.inl t1)⟩
theorem ce {h : Hs} {m : Ml} {w : Int} {N : Nat} (q : FX h) (n : E6 N h) (hm : DK m) (hl : m.body.length < 12) (hw : 0 ≤ w ∧ w ≤ 9999) (hr : CI h.spool) : FX (JZ h m w) ∧ E6 N (JZ h m w) := ⟨EG.1 (jV (EG.2 q) hm hl hw hr), n⟩
def nw : Ct := Ar (lc Qv.ag (lc Ax l0)) (fun p => True) (fun p => .t (.v (.int .i64 (BM (fun h : Hs => h.conf.name = p.2.1) 0 p.1.hosts))))
section
attribute [local go_sem] lm
theorem gk {G : Gt} (hG : Ah G) : Gd G 188 (AA 0 nw) := by
 refine gr (fn := Tryz.f188) (n := 2) rfl rfl hG ?_
 rintro ⟨w, a, ⟨⟩⟩ hpre
 simp -implicitDefEqProofs only [Tryz.f188, go_sem, seval] at hpre ⊢
 refine AE [] (ι := {i : Nat // i ≤ w.hosts.length ∧ BM (fun h : Hs => h.conf.name = a) 0 w.hosts = BM (fun h : Hs => h.conf.name = a) i (w.hosts.drop i)}) (fun p => ⟨[(1, .t (.v (.string a))), (2, .pb 1002 0), (5, .t (.v (.int .i64 p.1)))], [(1002, some (.box ((C8 w).map .t)))]⟩) (fun p => w.hosts.length - p.1) ⟨0, by simp, rfl⟩ rfl ?_ ?_
 ·simp -implicitDefEqProofs only [go_sem, seval]
  try simp
 ·rintro ⟨i, hi, hix⟩
  by_cases hlt : (i : Int) < w.hosts.length
  ·simp -implicitDefEqProofs only [hlt, decide_true, tn, go_sem, seval]
   with_reducible repeat' (first | apply ai | intro _ | ((first | apply s1 | apply s3 | apply s4) <;> intro hb <;> simp -implicitDefEqProofs only [hb, go_sem, seval] <;> try simp only [qz] at hb))
   all_goals (try simp only [maxLen, tn] at *)
   all_goals first | rfl | omega | skip
   ·rw [hix, EQ (p := fun h : Hs => h.conf.name = a) (by omega) hb]
   ·refine ⟨⟨i + 1, by omega, by rw [hix, Fp (p := fun h : Hs => h.conf.name = a) (by omega) hb]⟩, by dsimp only; omega, ?_⟩
    simp -implicitDefEqProofs only [go_sem, seval]
    try simp
  ·simp -implicitDefEqProofs only [hlt, decide_false, go_sem, seval]
   with_reducible repeat' (first | apply ai | intro _ | ((first | apply s1 | apply s3 | apply s4) <;> intro hb <;> simp -implicitDefEqProofs only [hb, go_sem, seval] <;> try simp only [qz] at hb))
   all_goals first | rfl | omega | skip
   rw [hix, EP (by omega)]
end
def Ge (a : Wd) : AV := .agg [.o false 7 (a.hosts.map Af), .t (.v (.int .i64 a.now)), .t (.v (.int .i64 a.marks)), .o true 3 (a.given.map An)]
def lz : AV → Option Wd
 | .agg [x0, .t (.v (.int .i64 x1)), .t (.v (.int .i64 x2)), x3] => FV x1 x2 (Gy.owD false 7 x0) (Iw.owD true 3 x3)
 | _ => none
def jd : AD Wd where
 enc := Ge
 dec := lz
 ed := fun a => by
  show FV a.now a.marks (Gy.owD false 7 ((Gy.aow false 7).enc a.hosts)) (Iw.owD true 3 ((Iw.aow true 3).enc a.given)) = _
  rw [show Gy.owD false 7 ((Gy.aow false 7).enc a.hosts) = some a.hosts from (Gy.aow false 7).ed _, show Iw.owD true 3 ((Iw.aow true 3).enc a.given) = some a.given from (Iw.aow true 3).ed _]
  rfl
 de := fun x m h => by
  unfold lz at h
  split at h
  ·unfold FV at h
   split at h
   ·rename_i e0 e1
    cases h
    have q0 := (Gy.aow false 7).de _ _ e0
    subst q0
    have q1 := (Iw.aow true 3).de _ _ e1
    subst q1
    rfl
   ·cases h
  ·cases h
theorem EF (a : Wd) : jd.enc a = .agg [.o false 7 (a.hosts.map Af), .t (.v (.int .i64 a.now)), .t (.v (.int .i64 a.marks)), .o true 3 (a.given.map An)] := rfl
theorem EE {x0 : List (List T)} {x1 : Int} {x2 : Int} {x3 : List (List T)} : jd.dec (.agg [.o false 7 x0, .t (.v (.int .i64 x1)), .t (.v (.int .i64 x2)), .o true 3 x3]) = FV x1 x2 (Gy.decL x0) (Iw.decL x3) := rfl
def Ga (N : Nat) (w : Wd) : Prop := (∀ h ∈ w.hosts, FX h ∧ E6 N h) ∧ (1 ≤ w.hosts.length ∧ w.hosts.length ≤ 4) ∧ (0 ≤ w.now ∧ w.now ≤ 9999) ∧ (0 ≤ w.marks ∧ w.marks ≤ 60) ∧ w.given.length ≤ N ∧ ∀ l ∈ w.given, WV l
def yL (w : Wd) (c : Cf) (ls : Bool) (r : Rc) : Prop := r.next ≤ w.now ∧ ¬ r.addr.domain ∈ c.own ∧ (ls = true ∨ BM (fun h : Hs => h.conf.name = Qr c r.addr.domain) 0 w.hosts < 0)
noncomputable def Hy (h : Hs) (n : Int) (a : Ad) (out w : Int) : Hs := CV h (A8 h.spool n).toNat (B6 (A2 h.spool n) a).toNat a out w
open Classical in
noncomputable def Qy (w : Wd) (c : Cf) (ls : Bool) (n : Int) : List Rc → Hs × Bool → Hs × Bool
 | [], x => x
 | r :: t, x => if yL w c ls r then Qy w c ls n t (Hy x.1 n r.addr 3 w.now, true) else Qy w c ls n t x
theorem uw {w : Wd} {c : Cf} {ls : Bool} {n : Int} {rs : List Rc} {i : Nat} {x : Hs × Bool} (h : i < rs.length) (q : yL w c ls (rs.getD i default)) : Qy w c ls n (rs.drop i) x = Qy w c ls n (rs.drop (i + 1)) (Hy x.1 n (rs.getD i default).addr 3 w.now, true) := by rw [AW h, Qy, if_pos q]
theorem uv {w : Wd} {c : Cf} {ls : Bool} {n : Int} {rs : List Rc} {i : Nat} {x : Hs × Bool} (h : i < rs.length) (q : ¬ yL w c ls (rs.getD i default)) : Qy w c ls n (rs.drop i) x = Qy w c ls n (rs.drop (i + 1)) x := by rw [AW h, Qy, if_neg q]
theorem lB {w : Wd} {c : Cf} {ls : Bool} {n : Int} {rs : List Rc} {i : Nat} {x : Hs × Bool} (h : rs.length ≤ i) : Qy w c ls n (rs.drop i) x = x := by rw [List.drop_of_length_le h]; rfl
noncomputable abbrev Ai (w : Wd) (k : Int) : Hs := w.hosts.getD k.toNat default
noncomputable abbrev Jy (h : Hs) (n : Int) : Im := h.spool.items.getD (A8 h.spool n).toNat default
noncomputable def Pr (w : Wd) (e : Ev) : Hs × Bool := Qy w (Ai w e.host).conf e.lose e.id (Jy (Ai w e.host) e.id).to (Ai w e.host, false)
def H0 (w : Wd) (k : Int) (h : Hs) : Wd := ⟨w.hosts.set k.toNat h, w.now, w.marks, w.given⟩
open Classical in
noncomputable def JT (w : Wd) (e : Ev) : Wd × Bool := if 0 ≤ e.host ∧ e.host ≤ (w.hosts.length : Int) - 1 then (if A8 (Ai w e.host).spool e.id < 0 then (w, false) else (H0 w e.host (Pr w e).1, (Pr w e).2)) else (w, false)
theorem pt {w : Wd} {e : Ev} (h : ¬ (0 ≤ e.host ∧ e.host ≤ (w.hosts.length : Int) - 1)) : JT w e = (w, false) := if_neg h
theorem pu {w : Wd} {e : Ev} (h : 0 ≤ e.host ∧ e.host ≤ (w.hosts.length : Int) - 1) (h2 : A8 (Ai w e.host).spool e.id < 0) : JT w e = (w, false) := by unfold JT; rw [if_pos h, if_pos h2]
theorem pv {w : Wd} {e : Ev} (h : 0 ≤ e.host ∧ e.host ≤ (w.hosts.length : Int) - 1) (h2 : ¬ A8 (Ai w e.host).spool e.id < 0) : JT w e = (H0 w e.host (Pr w e).1, (Pr w e).2) := by unfold JT; rw [if_pos h, if_neg h2]
theorem vI {xs : List Rc} {i j : Nat} (h : (xs.map Rc.addr).Nodup) (hi : i < j) (hj : j < xs.length) : ¬ (xs.getD i default).addr = (xs.getD j default).addr := by
 have z := List.pairwise_iff_getElem.1 h i j (by rw [lm]; omega) (by rw [lm]; omega) hi
 simpa [hj, show i < xs.length by omega] using z
def eB : Mt := HB (lc jd (lc OZ.ag l0)) (fun p => Ga 1000000 p.1) (fun p => ([.any, OZ.ag.enc p.2.1], .tup [Ge (JT p.1 p.2.1).1, .t (.v (.bool (JT p.1 p.2.1).2))]))
section
attribute [local go_sem] JP kA eH RU nw RZ B2 EF EE Ge.eq_1 FV.eq_1 AT Bb LN lm AS.opn AS.cls AS.nilb AS.renb AS.up Bool.not_false Bool.not_true List.set_set List.set_cons_zero List.set_cons_succ List.set_nil List.mem_singleton forall_eq tn List.map_nil List.nil_append
set_option maxHeartbeats 6400000 in
theorem gQ {G : Gt} (hG : Ah G) (hh : G.e 69 = AA 0 JP ∧ G.e 38 = AA 0 kA ∧ G.e 85 = AA 0 eH ∧ G.e 112 = AA 0 RU ∧ G.e 188 = AA 0 nw ∧ G.e 187 = AA 1 RZ) : Gd G 170 (AN eB) := by
 refine JS (dp := fun _ => true) (fn := Tryz.f170) (n := 2) rfl rfl hG ?_
 rintro ⟨w, e, ⟨⟩⟩ hpre
 have hw : Ga 1000000 w := hpre
 try dsimp only
 have hl := hw.2.1
 by_cases h0 : 0 ≤ e.host ∧ e.host ≤ (w.hosts.length : Int) - 1
 ·have h0' := Ap h0
  by_cases h1 : A8 (Ai w e.host).spool e.id < 0
  ·skip
   rw [pu h0 h1]
   simp -implicitDefEqProofs only [Tryz.f170, h0', h1, eq_self, decide_true, decide_false, go_sem, hh, seval]
   with_reducible repeat' (first | apply ai | intro _ | ((first | apply s1 | apply s3 | apply s4) <;> intro hb <;> simp -implicitDefEqProofs only [hb, go_sem, hh, seval] <;> try simp only [qz] at hb))
   all_goals (try simp only [maxLen, tn, AZ, AY] at *)
   all_goals first | with_reducible rfl | omega | with_reducible assumption | (show _ = true; rfl) | contradiction | decide | skip
  ·rw [pv h0 h1]
   have hH := hw.1 _ (AC (xs := w.hosts) (j := e.host.toNat) (by omega))
   have i1 : 0 ≤ BM (fun x : Im => x.id = e.id) 0 (Ai w e.host).spool.items ∧ BM (fun x : Im => x.id = e.id) 0 (Ai w e.host).spool.items < (Ai w e.host).spool.items.length := by have := CX h1; unfold A8 at this h1; omega
   have hil : (A8 (Ai w e.host).spool e.id).toNat < (Ai w e.host).spool.items.length := by have := CX h1; omega
   have hx := (hH.1.2.2.2.1 _ (AC (xs := (Ai w e.host).spool.items) (j := (A8 (Ai w e.host).spool e.id).toNat) hil)).1
   have hx4 : (Jy (Ai w e.host) e.id).to.length ≤ 4 := hx.2.2.2.2.1.2
   have hw2 := hw.2.2.1
   simp -implicitDefEqProofs only [Tryz.f170, h0', h1, eq_self, decide_true, decide_false, go_sem, hh, seval]
   with_reducible repeat' (first | apply ai | intro _ | ((first | apply s1 | apply s3 | apply s4) <;> intro hb <;> simp -implicitDefEqProofs only [hb, go_sem, hh, seval] <;> try simp only [qz] at hb))
   all_goals (try simp only [maxLen, tn, AZ, AY] at *)
   all_goals first | with_reducible rfl | omega | exact i1.2 | with_reducible assumption | (show _ = true; rfl) | contradiction | skip
   refine AE [] (ι := {p : Nat × Hs × Bool // p.1 ≤ (Jy (Ai w e.host) e.id).to.length ∧ (FX p.2.1 ∧ E6 (1000000 + p.1) p.2.1 ∧ p.2.1.conf = (Ai w e.host).conf) ∧ (∀ j, p.1 ≤ j → j < (Jy (Ai w e.host) e.id).to.length → Cn p.2.1.spool e.id ((Jy (Ai w e.host) e.id).to.getD j default).addr) ∧ Qy w (Ai w e.host).conf e.lose e.id ((Jy (Ai w e.host) e.id).to.drop p.1) p.2 = Pr w e}) (fun p => ⟨[(2, .pb 1002 0), (3, .pb 1003 0), (4, .pb 1004 0), (6, .pb 1006 0), (8, .t (.sl 4 ((Jy (Ai w e.host) e.id).to.map BN))), (9, .t (.v (.bool p.1.2.2))), (10, .t (.v (.int .i64 p.1.1)))], [(1002, some (.box [.h 1900, .t (.v (.int .i64 w.now)), .t (.v (.int .i64 w.marks)), .h 2900])), (1003, some (.box ((C7 e).map .t))), (1004, some (.box [.nil, .t (.v (.int .i64 0)), .t (.v (.int .i64 0)), .nil])), (1006, some (.box ((Af p.1.2.1).map .t))), (1900, some (.arr false 7 (w.hosts.map Af))), (2900, some (.arr true 3 (w.given.map An)))]⟩) (fun p => (Jy (Ai w e.host) e.id).to.length - p.1.1) ⟨(0, (Ai w e.host), false), Nat.zero_le _, ⟨hH.1, hH.2, rfl⟩, fun j _ hj => ?_, rfl⟩ rfl ?_ ?_
   ·have e1 := GD h1
    have z := (F8 hH.1.2.2.2 (x := Jy (Ai w e.host) e.id) (AC hil) (AC hj)).1
    have e2 : (Jy (Ai w e.host) e.id).id = e.id := e1
    rw [e2] at z
    exact z
   ·simp -implicitDefEqProofs only [go_sem, hh, seval]
    first | (simp; done) | ((repeat' (first | with_reducible apply And.intro | rfl)); done)
   ·rintro ⟨⟨k, x, dn⟩, hk, ⟨hxK, hxN, hxc⟩, htd, hv⟩
    dsimp only at hk hxK hxN hxc htd hv
    have hok := EV hxK hxN (by omega)
    have hsp := hxK.2.2.2
    have hxe : (⟨(Ai w e.host).conf, x.spool, x.boxes, x.lost⟩ : Hs) = x := by rw [← hxc]
    simp -implicitDefEqProofs only [hxc, go_sem, hh, seval]
    with_reducible repeat' (first | apply ai | intro _ | ((first | apply s1 | apply s3 | apply s4) <;> intro hb <;> simp -implicitDefEqProofs only [hb, go_sem, hh, seval] <;> try simp only [qz] at hb))
    all_goals (try simp only [maxLen, tn, AZ, AY] at *)
    all_goals first
     | with_reducible rfl
     | omega
     | with_reducible assumption
     | (show _ = true; rfl)
     | exact hok.2.1
     | exact (htd k (Nat.le_refl _) (by omega)).1
     | exact (htd k (Nat.le_refl _) (by omega)).2
     | exact .inr ⟨hxc ▸ hok, hw2⟩
     | (rw [lB (by omega)] at hv; rw [← hv, ← hxc]; first | done | rfl)
     | (rw [lB (by omega)] at hv; rw [← hv]; first | done | rfl)
     | (show _ = T.v _; rfl)
     | (show _ = List.map An _; rfl)
     | (show List.Nodup _; decide)
     | (have hkl : k < (Jy (Ai w e.host) e.id).to.length := by omega
        have ht := htd k (Nat.le_refl _) hkl
        have z := J0 (out := 3) hxK hxN ht hw2
        refine ⟨⟨(k + 1, Hy x e.id ((Jy (Ai w e.host) e.id).to.getD k default).addr 3 w.now, true), by dsimp only; omega, ⟨z.1, z.2, (D2 _ _ _ _ _ _).1.trans hxc⟩, fun j hj hj2 => (Hz hsp ht hw2).2 _ _ (htd j (by dsimp only at hj; omega) hj2) (fun y => vI hx.2.1 (by dsimp only at hj; omega) hj2 y.2), (uw hkl ⟨by first | omega | with_reducible assumption, by with_reducible assumption, by first | exact .inl (by with_reducible assumption) | exact .inr (by with_reducible assumption)⟩).symm.trans hv⟩, by dsimp only; omega, ?_⟩
        simp -implicitDefEqProofs only [go_sem, hh, seval]
        first | (simp only [hxe, Hy]; simp; done) | skip)
     | (have hkl : k < (Jy (Ai w e.host) e.id).to.length := by omega
        refine ⟨⟨(k + 1, x, dn), by dsimp only; omega, ⟨hxK, B1 hxN (by omega), hxc⟩, fun j hj hj2 => htd j (by dsimp only at hj; omega) hj2, (uv hkl (fun q => by first | exact absurd q.1 (by with_reducible assumption) | (have := q.1; omega) | exact q.2.1 (by with_reducible assumption) | (rcases q.2.2 with y | y <;> first | (simp_all; done) | omega))).symm.trans hv⟩, by dsimp only; omega, ?_⟩
        simp -implicitDefEqProofs only [go_sem, hh, seval]
        first | (simp; done) | (simp [hxe, hxc]; done) | skip)
     | skip
 ·have h0' := AQ h0
  rw [pt h0]
  simp -implicitDefEqProofs only [Tryz.f170, h0', eq_self, decide_true, decide_false, go_sem, hh, seval]
  with_reducible repeat' (first | apply ai | intro _ | ((first | apply s1 | apply s3 | apply s4) <;> intro hb <;> simp -implicitDefEqProofs only [hb, go_sem, hh, seval] <;> try simp only [qz] at hb))
  all_goals (try simp only [maxLen, tn, AZ, AY] at *)
  all_goals first | with_reducible rfl | omega | with_reducible assumption | (show _ = true; rfl) | contradiction | decide | skip
end
instance xG (c : Cf) : Decidable (Li c) := by unfold Li; infer_instance
theorem Ub (k : Int) : (∀ c ∈ FE k, Li c) ∧ ((FE k).map Cf.name).Nodup := by
 unfold FE
 split
 ·exact ⟨by decide +kernel, by decide +kernel⟩
 ·split
  ·exact ⟨by decide +kernel, by decide +kernel⟩
  ·split
   ·exact ⟨by decide +kernel, by decide +kernel⟩
   ·exact ⟨by decide +kernel, by decide +kernel⟩
theorem VZ {c : Cf} (h : Li c) : FX (Ew c) ∧ E6 0 (Ew c) := ⟨⟨fun _ q => (by cases q), List.Pairwise.nil, h, YO⟩, Nat.le_refl _, fun _ q => (by cases q), Nat.le_refl _, fun _ q => by cases q⟩
theorem eL (k : Int) : Dc (ER (FE k)) := by
 obtain ⟨h1, h2⟩ := Ub k
 obtain ⟨_, h3, h4⟩ := NU k
 have hl : (ER (FE k)).hosts.length = (FE k).length := lm _
 refine ⟨fun h hh => ?_, ?_, fun _ q => (by cases q), ⟨by omega, by omega⟩, ⟨Int.le_refl _, by show (0 : Int) ≤ 9999; decide⟩, ⟨Int.le_refl _, by show (0 : Int) ≤ 60; decide⟩⟩
 ·obtain ⟨c, hc, rfl⟩ := List.mem_map.1 hh
  exact EG.2 (VZ (h1 c hc)).1
 ·show (((FE k).map Ew).map Ma).Nodup
  rw [List.map_map]
  exact h2
def Q8 (s : Ss) : Prop := (∀ a ∈ s.mail.to, BS a) ∧ s.mail.to.Nodup ∧ (BS s.mail.frm ∨ Ac s.mail.frm) ∧ s.mail.to.length ≤ 4 ∧ (s.state = 3 ∨ s.state = 4 → 1 ≤ s.mail.to.length)
theorem MA {s : Ss} (h : ¬ (s.state = 3 ∨ s.state = 4)) : Q8 (Fi s) := ⟨fun _ q => (by cases q), List.nodup_nil, .inr ⟨rfl, rfl⟩, Nat.zero_le _, fun q => absurd q h⟩
theorem pn {s : Ss} (t : ByteArray) (h : Q8 s) : Q8 (Et s t).1 := by
 unfold Et
 split
 ·split
  ·rename_i q
   refine ⟨fun _ z => (by cases z), List.nodup_nil, (Jx q).1, Nat.zero_le _, fun z => absurd (show (2 : Int) = 3 ∨ (2 : Int) = 4 from z) (by decide)⟩
  ·exact h
 ·exact h
theorem wO {s : Ss} (c : Cf) (t : ByteArray) (h : Q8 s) : Q8 (H9 c s t).1 := by
 unfold H9
 split
 ·split
  ·rename_i q
   split
   ·exact h
   ·rename_i q2
    split
    ·split
     ·exact h
     ·rename_i q3
      split
      ·exact h
      ·rename_i q4
       refine ⟨fun a ha => ?_, ?_, h.2.2.1, ?_, fun _ => ?_⟩
       ·rcases List.mem_append.1 ha with ha | ha
        ·exact h.1 a ha
        ·rw [List.mem_singleton] at ha; subst ha; exact (Jx q).1.resolve_right q2
       ·show (s.mail.to ++ [BE t]).Nodup
        rw [List.nodup_append]
        exact ⟨h.2.1, by simp, fun a ha b hb e => by rw [List.mem_singleton] at hb; subst hb; subst e; exact q3 ha⟩
       ·show (s.mail.to ++ [BE t]).length ≤ 4
        rw [List.length_append]; show s.mail.to.length + 1 ≤ 4; omega
       ·show 1 ≤ (s.mail.to ++ [BE t]).length
        rw [List.length_append]; show 1 ≤ s.mail.to.length + 1; omega
    ·exact h
  ·exact h
 ·exact h
theorem oz {s : Ss} (c : Cf) (l : ByteArray) (h : Q8 s) : Q8 (Bc c s l).1 := by
 unfold Bc
 repeat' split
 all_goals first
  | exact h
  | exact pn _ h
  | exact wO _ _ h
  | exact MA (by show ¬ ((1 : Int) = 3 ∨ (1 : Int) = 4); decide)
  | exact MA (by show ¬ ((5 : Int) = 3 ∨ (5 : Int) = 4); decide)
  | exact MA (by omega)
  | (rename_i q; exact ⟨h.1, h.2.1, h.2.2.1, h.2.2.2.1, fun _ => h.2.2.2.2 (.inl q)⟩)
theorem pQ {s : Ss} {l : ByteArray} (h : Q8 s) : Q8 (Aj s l).1.1 ∧ ((Aj s l).1.2 = ⟨#[]⟩ ∨ (Aj s l).1.1.state = 1) ∧ ((Aj s l).2 = true → Ck (Aj s l).1.1.mail.body ∧ (Aj s l).1.1.mail.to = s.mail.to) := by
 have one : ∀ b : Bool, Q8 ⟨1, s.mail, b, s.buf⟩ := fun b => ⟨h.1, h.2.1, h.2.2.1, h.2.2.2.1, fun q => absurd (show (1 : Int) = 3 ∨ (1 : Int) = 4 from q) (by decide)⟩
 unfold Aj
 repeat' split
 all_goals first
  | (refine ⟨one _, .inr rfl, fun _ => ⟨?_, rfl⟩⟩; assumption)
  | exact ⟨one _, .inr rfl, fun q => absurd q Bool.false_ne_true⟩
  | exact ⟨h, .inl rfl, fun q => absurd q Bool.false_ne_true⟩
theorem sU {s : Ss} {l : ByteArray} (c : Cf) (h : Q8 s) : Q8 (Bo c s l).1.1 ∧ ∀ m ∈ (Bo c s l).2, DK m := by
 obtain ⟨q1, q2, q3⟩ := pQ (l := l) h
 have q := oz c l h
 have e1 : ¬ (Aj s l).1.2 = ⟨#[]⟩ → ¬ ((Aj s l).1.1.state = 3 ∨ (Aj s l).1.1.state = 4) := fun n => by have := q2.resolve_left n; omega
 unfold Bo
 split
 ·exact ⟨h, fun _ z => by cases z⟩
 ·split
  ·rename_i h4
   split
   ·exact ⟨q1, fun _ z => by cases z⟩
   ·rename_i hn
    split
    ·rename_i ht
     refine ⟨MA (e1 hn), fun m hm => ?_⟩
     rw [List.mem_singleton] at hm; subst hm
     obtain ⟨b1, b2⟩ := q3 ht
     exact ⟨q1.1, q1.2.1, q1.2.2.1, ⟨by rw [b2]; exact h.2.2.2.2 (.inr h4), q1.2.2.2.1⟩, b1⟩
    ·exact ⟨MA (e1 hn), fun _ z => by cases z⟩
  ·exact ⟨q, fun _ z => by cases z⟩
def ma (x : F5) : Prop := Q8 x.1 ∧ ∀ m ∈ x.2.2, DK m
theorem ul {c : Cf} {x : F5} {l : ByteArray} (h : ma x) : ma (fD c x l) := by
 obtain ⟨q1, q2⟩ := sU (l := l) c h.1
 exact ⟨q1, fun m hm => (List.mem_append.1 hm).elim (h.2 m) (q2 m)⟩
theorem kw {x : F5} (h : ma x) : ma (dC x) := ⟨MA (by show ¬ ((5 : Int) = 3 ∨ (5 : Int) = 4); decide), h.2⟩
theorem ku {c : Cf} : ∀ (L : List ByteArray) {x : F5}, ma x → ma (Nj c L x).1
 | [], x, h => h
 | l :: r, x, h => by
   rw [Nj]
   split
   ·exact h
   ·split
    ·exact kw h
    ·exact ku r (ul h)
theorem fE {c : Cf} {s : Ss} {t : ByteArray} (h : Q8 s) : ma (Bu c s t) := by
 have q := ku (c := c) (OQ (s.buf ++ t)) (x := (⟨s.state, s.mail, s.bad, ⟨#[]⟩⟩, [], [])) ⟨h, fun _ z => by cases z⟩
 unfold Bu aI
 split
 ·exact q
 ·split
  ·exact q
  ·split
   ·exact kw q
   ·exact q
def xV (x : Om) : Prop := Q8 x.2.1 ∧ ∀ m ∈ x.2.2.1, DK m
theorem wF {h : Cf} {x : Om} (q : xV x) : xV (dH h x) := by
 have f := fE (c := h) (t := cb (M2 x)) q.1
 exact ⟨f.1, fun m hm => (List.mem_append.1 hm).elim (q.2 m) (f.2 m)⟩
theorem l7 (h : Cf) (cut : Int) : ∀ (k n : Nat) (x : Om), xV x → ∀ m ∈ (Lh h cut k n x).2, DK m
 | 0, n, x, q => q.2
 | k + 1, n, x, q => by
   rw [Lh]
   split
   ·split
    ·exact q.2
    ·split
     ·exact q.2
     ·exact l7 h cut k (n + 1) _ (wF q)
   ·exact q.2
theorem J3 (h : Cf) (nm : ByteArray) (m : Ml) (cut : Int) : ∀ y ∈ (E4 h nm m cut).2, DK y :=
 l7 h cut cut.toNat 0 (Xm h nm m) ⟨⟨fun _ z => (by cases z), List.nodup_nil, .inr ⟨rfl, rfl⟩, Nat.zero_le _, fun z => absurd (show (0 : Int) = 3 ∨ (0 : Int) = 4 from z) (by decide)⟩, fun _ z => by cases z⟩
theorem Xl {h : Cf} {nm : ByteArray} {m : Ml} {cut : Int} (hn : nm.size ≤ 1000) (hm : OM m) : ∀ y ∈ (E4 h nm m cut).2, jm y :=
 (LV h cut cut.toNat 0 (Xm h nm m) (LU h hn hm)).2.2
theorem Vb (c : Cl) : (Di c).1.mail = c.mail := by unfold Di; (repeat' split) <;> rfl
theorem fB (c : Cl) (k : Int) : (DW c k).1.mail = c.mail := by unfold DW; (repeat' split) <;> rfl
theorem jW (c : Cl) (k : Int) : (FW c k).1.mail = c.mail := by
 unfold FW
 repeat' split
 all_goals exact Vb _
theorem WI (c : Cl) (a : ByteArray) : (A0 c a).1.mail = c.mail := by
 unfold A0
 repeat' split
 all_goals first | rfl | exact jW _ _ | exact fB _ _ | exact Vb _
theorem cd (h : Cf) (cut : Int) : ∀ (k n : Nat) (x : Om), (Lh h cut k n x).1.mail = x.1.mail
 | 0, n, x => rfl
 | k + 1, n, x => by
   rw [Lh]
   split
   ·split
    ·rfl
    ·split
     ·exact WI _ _
     ·rw [cd h cut k (n + 1) (dH h x)]; exact WI _ _
   ·rfl
theorem LT {h : Cf} {nm : ByteArray} {m : Ml} {cut : Int} (hn : nm.size ≤ 1000) (hm : OM m) : (E4 h nm m cut).1.length = m.to.length := by
 have q := (LV h cut cut.toNat 0 (Xm h nm m) (LU h hn hm)).1.1
 rw [cd] at q
 show (List.map _ _).length = _
 rw [lm]
 exact q
theorem dr {a : Ad} (h : BS a ∨ Ac a) : a.user.size ≤ 1000 ∧ a.domain.size ≤ 1000 := by
 rcases h with h | h
 ·have h1 := (Jo h.1).2
  have h2 := (DF h.2).2
  exact ⟨by omega, by omega⟩
 ·obtain ⟨u, d⟩ := a
  obtain ⟨h1, h2⟩ := h
  dsimp only at h1 h2
  subst h1; subst h2
  exact ⟨Nat.zero_le _, Nat.zero_le _⟩
theorem me {m : Ml} (h : DK m) : OM m := ⟨by have := h.2.2.2.1.2; omega, by have := h.2.2.2.2.2; omega, dr h.2.2.1, fun a ha => dr (.inl (h.1 a ha)), fun l hl => by have := (h.2.2.2.2.1 l hl).2; omega⟩
theorem YI {m : Ml} {s : ByteArray} (h : DK m) (hs : s.size ≤ 1000) : OM ⟨m.frm, m.to, s :: m.body⟩ := by
 have q := me h
 refine ⟨q.1, ?_, q.2.2.1, q.2.2.2.1, fun l hl => ?_⟩
 ·have := h.2.2.2.2.2
  show (s :: m.body).length ≤ 100
  rw [List.length_cons]; omega
 ·rcases List.mem_cons.1 hl with rfl | hl
  ·exact hs
  ·exact q.2.2.2.2 l hl
theorem r7 {c : Cf} {x : Im} {to : ByteArray} {w : Int} (h : Do x) : OM (JD c x to w) := by
 have hl := Ey c to w x.to
 refine ⟨?_, by have := h.2.2.2.2.2.2; show x.body.length ≤ 100; omega, dr h.2.2.2.1, fun a ha => ?_, fun l hl => by have := (h.2.2.2.2.2.1 l hl).2; omega⟩
 ·have := h.2.2.2.2.1.2
  show (A3 c to w x.to).length ≤ 1000
  omega
 ·obtain ⟨r, hr, e, _⟩ := Ez c to w x.to a ha
  rw [← e]
  exact dr (.inl (h.1 r hr).1)
theorem A1 {N M : Nat} {w : Wd} (q : Ga N w) (l : N ≤ M) : Ga M w := ⟨fun h hh => ⟨(q.1 h hh).1, B1 (q.1 h hh).2 l⟩, q.2.1, q.2.2.1, q.2.2.2.1, Nat.le_trans q.2.2.2.2.1 l, q.2.2.2.2.2⟩
theorem OC {N : Nat} {w : Wd} {k : Int} {h : Hs} (q : Ga N w) (hk : FX h) (hn : E6 N h) : Ga N (H0 w k h) := by
 have e : (w.hosts.set k.toNat h).length = w.hosts.length := List.length_set
 refine ⟨fun x hx => ?_, ⟨by show 1 ≤ (w.hosts.set k.toNat h).length; rw [e]; exact q.2.1.1, by show (w.hosts.set k.toNat h).length ≤ 4; rw [e]; exact q.2.1.2⟩, q.2.2.1, q.2.2.2.1, q.2.2.2.2⟩
 rcases List.mem_or_eq_of_mem_set hx with hx | rfl
 ·exact q.1 x hx
 ·exact ⟨hk, hn⟩
theorem aV {w : Wd} {c : Cf} {ls : Bool} {n : Int} (hw : 0 ≤ w.now ∧ w.now ≤ 9999) : ∀ (rs : List Rc) {x : Hs × Bool} {N : Nat}, FX x.1 → E6 N x.1 → (rs.map Rc.addr).Nodup → (∀ r ∈ rs, Cn x.1.spool n r.addr) → FX (Qy w c ls n rs x).1 ∧ E6 (N + rs.length) (Qy w c ls n rs x).1
 | [], x, N, q, hn, _, _ => ⟨q, hn⟩
 | r :: t, x, N, q, hn, hd, ht => by
   rw [List.map_cons, List.nodup_cons] at hd
   have ht0 := ht r (List.mem_cons_self ..)
   have e : N + (r :: t).length = N + 1 + t.length := by rw [List.length_cons]; omega
   rw [Qy, e]
   split
   ·have z := J0 (out := 3) q hn ht0 hw
    exact aV hw t z.1 z.2 hd.2 fun y hy => (Hz q.2.2.2 ht0 hw).2 _ _ (ht y (List.mem_cons_of_mem _ hy)) fun z => hd.1 (by rw [z.2]; exact List.mem_map_of_mem hy)
   ·exact aV hw t q (B1 hn (Nat.le_succ _)) hd.2 fun y hy => ht y (List.mem_cons_of_mem _ hy)
theorem px {N : Nat} {w : Wd} {e : Ev} (q : Ga N w) : Ga (N + 4) (JT w e).1 := by
 unfold JT
 split
 ·rename_i h0
  split
  ·exact A1 q (Nat.le_add_right _ _)
  ·rename_i h1
   have hl := q.2.1
   have hH := q.1 _ (AC (xs := w.hosts) (j := e.host.toNat) (by omega))
   have hil : (A8 (Ai w e.host).spool e.id).toNat < (Ai w e.host).spool.items.length := by have := CX h1; omega
   have hx := (hH.1.2.2.2.1 _ (AC (xs := (Ai w e.host).spool.items) (j := (A8 (Ai w e.host).spool e.id).toNat) hil)).1
   have z := aV (w := w) (c := (Ai w e.host).conf) (ls := e.lose) (n := e.id) q.2.2.1 (Jy (Ai w e.host) e.id).to (x := (Ai w e.host, false)) hH.1 hH.2 hx.2.1 fun r hr => by
    have y := (F8 hH.1.2.2.2 (x := Jy (Ai w e.host) e.id) (AC hil) hr).1
    have e2 : (Jy (Ai w e.host) e.id).id = e.id := GD h1
    rw [e2] at y
    exact y
   exact OC (A1 q (Nat.le_add_right _ _)) z.1 (B1 z.2 (by have := hx.2.2.2.2.1.2; show N + (Jy (Ai w e.host) e.id).to.length ≤ N + 4; have h4 : (Jy (Ai w e.host) e.id).to.length ≤ 4 := this; omega))
 ·exact A1 q (Nat.le_add_right _ _)
def Ta (e : Ev) : Prop := KB e.mail ∧ 0 ≤ e.cut ∧ e.cut ≤ 1000
def Kv (mk : ByteArray) (ds : List Ad) : List Ls := ds.map fun a => ⟨mk, a⟩
noncomputable def X0 (w : Wd) (k : Int) (mk : ByteArray) (y : Ml) : Wd := ⟨w.hosts.set k.toNat (JZ (Ai w k) y w.now), w.now, w.marks, w.given ++ Kv mk y.to⟩
open Classical in
noncomputable def Qz (k : Int) (mk : ByteArray) : List Ml → Wd → Wd
 | [], w => w
 | y :: t, w => if y.body.length < 12 ∧ CI (Ai w k).spool then Qz k mk t (X0 w k mk y) else Qz k mk t w
theorem vu {k : Int} {mk : ByteArray} {ys : List Ml} {i : Nat} {w : Wd} (h : i < ys.length) (q : (ys.getD i default).body.length < 12 ∧ CI (Ai w k).spool) : Qz k mk (ys.drop i) w = Qz k mk (ys.drop (i + 1)) (X0 w k mk (ys.getD i default)) := by rw [AW h, Qz, if_pos q]
theorem vt {k : Int} {mk : ByteArray} {ys : List Ml} {i : Nat} {w : Wd} (h : i < ys.length) (q : ¬ ((ys.getD i default).body.length < 12 ∧ CI (Ai w k).spool)) : Qz k mk (ys.drop i) w = Qz k mk (ys.drop (i + 1)) w := by rw [AW h, Qz, if_neg q]
theorem vr {k : Int} {mk : ByteArray} {ys : List Ml} {i : Nat} {w : Wd} (h : ys.length ≤ i) : Qz k mk (ys.drop i) w = w := by rw [List.drop_of_length_le h]; rfl
def lD (n : Int) : ByteArray := ⟨#[73, 100, 58, 32]⟩ ++ Nb n
theorem lE (n : Int) : (lD n).size ≤ 6 := by
 unfold lD
 rw [ByteArray.size_append]
 have := (IY n).2
 show 4 + _ ≤ 6
 omega
def OS (w : Wd) (e : Ev) : Ml := ⟨e.mail.frm, e.mail.to, lD (w.marks + 1) :: e.mail.body⟩
def tG (w : Wd) (e : Ev) : Prop := (0 ≤ e.host ∧ e.host ≤ (w.hosts.length : Int) - 1) ∧ DK e.mail ∧ ¬ w.marks ≥ 60 ∧ ¬ (e.mail.body.length : Int) ≥ 10 ∧ Be e.mail.body = ⟨#[]⟩ ∧ CI (Ai w e.host).spool
noncomputable abbrev JH (w : Wd) (e : Ev) : List Ml := (E4 (Ai w e.host).conf ⟨#[99, 108, 105, 101, 110, 116]⟩ (OS w e) e.cut).2
noncomputable def vv (w : Wd) (e : Ev) : Wd := Qz e.host (Be (OS w e).body) (JH w e) ⟨w.hosts, w.now, w.marks + 1, w.given⟩
open Classical in
noncomputable def Xh (w : Wd) (e : Ev) : Wd × Bool := if tG w e then (vv w e, true) else (w, false)
theorem cN {w : Wd} {e : Ev} (q : tG w e) : Xh w e = (vv w e, true) := if_pos q
theorem JG {w : Wd} {e : Ev} (q : ¬ tG w e) : Xh w e = (w, false) := if_neg q
def db (N : Nat) (k : Int) (w : Wd) : Prop := ((∀ h ∈ w.hosts, FX h ∧ E6 N h) ∧ (1 ≤ w.hosts.length ∧ w.hosts.length ≤ 4) ∧ (0 ≤ w.now ∧ w.now ≤ 9999) ∧ (0 ≤ w.marks ∧ w.marks ≤ 60)) ∧ (0 ≤ k ∧ k ≤ (w.hosts.length : Int) - 1) ∧ w.given.length ≤ N + 4 * (Ai w k).spool.items.length ∧ ∀ l ∈ w.given, WV l
theorem L9 {N : Nat} {k : Int} {w : Wd} (q : db N k w) : FX (Ai w k) ∧ E6 N (Ai w k) := q.1.1 _ (AC (xs := w.hosts) (j := k.toNat) (by have := q.2.1; omega))
theorem jp {N : Nat} {k : Int} {w : Wd} (q : db N k w) : w.given.length ≤ N + 40 := by
 have h := (L9 q).1.2.2.2.2.2.2
 have := q.2.2.1
 omega
theorem tW {N : Nat} {k : Int} {w : Wd} (q : db N k w) : Ga (N + 40) w := ⟨fun h hh => ⟨(q.1.1 h hh).1, B1 (q.1.1 h hh).2 (Nat.le_add_right _ _)⟩, q.1.2.1, q.1.2.2.1, q.1.2.2.2, jp q, q.2.2.2⟩
theorem ir {mk : ByteArray} (hm : Bj mk) {ds : List Ad} (ha : ∀ a ∈ ds, BS a) : ∀ l ∈ Kv mk ds, WV l := fun l hl => by
 obtain ⟨a, h, rfl⟩ := List.mem_map.1 hl
 exact ⟨hm, CH (.inl (ha a h))⟩
theorem sV {w : Wd} {k : Int} {mk : ByteArray} {y : Ml} (h : 0 ≤ k ∧ k ≤ (w.hosts.length : Int) - 1) : Ai (X0 w k mk y) k = JZ (Ai w k) y w.now := by
 have e : k.toNat < w.hosts.length := by omega
 show (w.hosts.set k.toNat _).getD k.toNat default = _
 simp [e]
theorem l8 {N : Nat} {k : Int} {w : Wd} {mk : ByteArray} {y : Ml} (q : db N k w) (hm : Bj mk) (hy : DK y) (hl : y.body.length < 12) (hr : CI (Ai w k).spool) : db N k (X0 w k mk y) := by
 have z := ce (L9 q).1 (L9 q).2 hy hl q.1.2.2.1 hr
 have e : (w.hosts.set k.toNat (JZ (Ai w k) y w.now)).length = w.hosts.length := List.length_set
 refine ⟨⟨fun x hx => ?_, ?_, q.1.2.2.1, q.1.2.2.2⟩, ?_, ?_, fun l hl => ?_⟩
 ·rcases List.mem_or_eq_of_mem_set hx with hx | rfl
  ·exact q.1.1 x hx
  ·exact z
 ·show 1 ≤ (w.hosts.set k.toNat _).length ∧ (w.hosts.set k.toNat _).length ≤ 4
  rw [e]; exact q.1.2.1
 ·show 0 ≤ k ∧ k ≤ ((w.hosts.set k.toNat _).length : Int) - 1
  rw [e]; exact q.2.1
 ·rw [sV q.2.1]
  show (w.given ++ Kv mk y.to).length ≤ N + 4 * ((Ai w k).spool.items ++ [_]).length
  have h1 := q.2.2.1
  have h2 := hy.2.2.2.1.2
  have h3 : (Kv mk y.to).length = y.to.length := lm _
  rw [List.length_append, List.length_append, h3]
  show _ ≤ N + 4 * (_ + 1)
  omega
 ·rcases List.mem_append.1 hl with hl | hl
  ·exact q.2.2.2 l hl
  ·exact ir hm hy.1 l hl
theorem cL {N : Nat} {k : Int} {mk : ByteArray} (hm : Bj mk) : ∀ (ys : List Ml) {w : Wd}, db N k w → (∀ y ∈ ys, DK y) → db N k (Qz k mk ys w)
 | [], w, q, _ => q
 | y :: t, w, q, h => by
   rw [Qz]
   split
   ·rename_i hc
    exact cL hm t (l8 q hm (h y (List.mem_cons_self ..)) hc.1 hc.2) fun x hx => h x (List.mem_cons_of_mem _ hx)
   ·exact cL hm t q fun x hx => h x (List.mem_cons_of_mem _ hx)
theorem ly {w : Wd} {e : Ev} (h : DK e.mail) : Bj (Be (OS w e).body) := by
 rcases Fv (OS w e).body with z | z
 ·rw [z]; show (0 : Nat) ≤ 1048576; decide
 ·rcases List.mem_cons.1 z with z | z
  ·rw [z]; have := lE (w.marks + 1); show (lD (w.marks + 1)).size ≤ 1048576; omega
  ·exact (HQ h.2.2.2.2).2 _ z
theorem vz {N : Nat} {w : Wd} {e : Ev} (q : Ga N w) (h : tG w e) : db N e.host ⟨w.hosts, w.now, w.marks + 1, w.given⟩ := by
 obtain ⟨q1, q2, q3, q4, q5, q6⟩ := q
 have h1 := h.1
 have h2 := h.2.2.1
 exact ⟨⟨q1, q2, q3, by dsimp only; omega⟩, h1, Nat.le_trans q5 (Nat.le_add_right _ _), q6⟩
theorem vw {N : Nat} {w : Wd} {e : Ev} (q : Ga N w) : Ga (N + 40) (Xh w e).1 := by
 by_cases h : tG w e
 ·rw [cN h]
  exact tW (cL (ly h.2.1) _ (vz q h) (J3 _ _ _ _))
 ·rw [JG h]; exact A1 q (Nat.le_add_right _ _)
noncomputable def jY (now : Int) : List Ml → Hs → Hs
 | [], t => t
 | y :: r, t => jY now r (JK t y now).1
theorem mE {now : Int} {ys : List Ml} {i : Nat} {t : Hs} (h : i < ys.length) : jY now (ys.drop i) t = jY now (ys.drop (i + 1)) (JK t (ys.getD i default) now).1 := by rw [AW h]; rfl
theorem wP {now : Int} {ys : List Ml} {i : Nat} {t : Hs} (h : ys.length ≤ i) : jY now (ys.drop i) t = t := by rw [List.drop_of_length_le h]; rfl
noncomputable def dK (n now : Int) : List Ad → List Int → Hs → Hs
 | a :: r, o :: s, x => dK n now r s (Hy x n a o now)
 | [], _, x => x
 | _ :: _, [], x => x
theorem wR {n now : Int} {ds : List Ad} {os : List Int} {i : Nat} {x : Hs} (h1 : i < ds.length) (h2 : i < os.length) : dK n now (ds.drop i) (os.drop i) x = dK n now (ds.drop (i + 1)) (os.drop (i + 1)) (Hy x n (ds.getD i default) (os.getD i default) now) := by rw [AW h1, AW h2]; rfl
theorem wQ {n now : Int} {ds : List Ad} {os : List Int} {i : Nat} {x : Hs} (h : os.length ≤ i) : dK n now (ds.drop i) (os.drop i) x = x := by
 rw [List.drop_of_length_le (l := os) h]
 cases ds.drop i <;> rfl
theorem YD {h : Hs} {m : Ml} {w : Int} {N : Nat} (q : FX h) (n : E6 N h) (hm : DK m) (hw : 0 ≤ w ∧ w ≤ 9999) : FX (JK h m w).1 ∧ E6 N (JK h m w).1 ∧ (JK h m w).1.conf = h.conf := by
 by_cases z : m.body.length < 12 ∧ CI h.spool
 ·rw [KA z]
  have y := ce q n hm z.1 hw z.2
  exact ⟨y.1, y.2, rfl⟩
 ·rw [J9 z]; exact ⟨q, n, rfl⟩
theorem mD {w : Int} {N : Nat} (hw : 0 ≤ w ∧ w ≤ 9999) : ∀ (ys : List Ml) {h : Hs}, FX h → E6 N h → (∀ y ∈ ys, DK y) → FX (jY w ys h) ∧ E6 N (jY w ys h)
 | [], h, q, n, _ => ⟨q, n⟩
 | y :: t, h, q, n, hy => by
   have z := YD q n (hy y (List.mem_cons_self ..)) hw
   exact mD hw t z.1 z.2.1 fun x hx => hy x (List.mem_cons_of_mem _ hx)
theorem bh {h : Hs} {n : Int} {a : Ad} {out w : Int} {N : Nat} (q : FX h) (hn : E6 N h) (t : Cn h.spool n a) (hw : 0 ≤ w ∧ w ≤ 9999) : FX (Hy h n a out w) ∧ E6 (N + 1) (Hy h n a out w) ∧ (Hy h n a out w).conf = h.conf ∧ ∀ a', Cn h.spool n a' → ¬ a = a' → Cn (Hy h n a out w).spool n a' :=
 ⟨(J0 q hn t hw).1, (J0 q hn t hw).2, (D2 _ _ _ _ _ _).1, fun a' y z => (Hz q.2.2.2 t hw).2 _ _ y fun u => z u.2⟩
theorem mG {n w : Int} (hw : 0 ≤ w ∧ w ≤ 9999) : ∀ (ds : List Ad) (os : List Int) {h : Hs} {N : Nat}, FX h → E6 N h → ds.Nodup → (∀ a ∈ ds, Cn h.spool n a) → FX (dK n w ds os h) ∧ E6 (N + ds.length) (dK n w ds os h)
 | [], os, h, N, q, hn, _, _ => by cases os <;> exact ⟨q, hn⟩
 | a :: r, [], h, N, q, hn, _, _ => ⟨q, B1 hn (Nat.le_add_right _ _)⟩
 | a :: r, o :: s, h, N, q, hn, hd, ht => by
   rw [List.nodup_cons] at hd
   obtain ⟨z1, z2, _, z4⟩ := bh (out := o) q hn (ht a (List.mem_cons_self ..)) hw
   have e : N + (a :: r).length = N + 1 + r.length := by rw [List.length_cons]; omega
   rw [e]
   exact mG hw r s z1 z2 hd.2 fun b hb => z4 b (ht b (List.mem_cons_of_mem _ hb)) fun u => hd.1 (by rw [u]; exact hb)
theorem Ik (c : Cf) (to : ByteArray) (w : Int) : ∀ rs : List Rc, List.Sublist (A3 c to w rs) (rs.map Rc.addr)
 | [] => .slnil
 | r :: t => by
   rw [A3]
   cases BW (JL c to w r)
   ·exact .cons _ (Ik c to w t)
   ·exact .cons_cons _ (Ik c to w t)
noncomputable def Jb (w : Wd) (e : Ev) : Ml := JD (Ai w e.host).conf (Jy (Ai w e.host) e.id) (Ai w e.to).conf.name w.now
noncomputable def II (w : Wd) (e : Ev) : List Int × List Ml := Gf (Ai w e.to) (Ai w e.host).conf.name (Jb w e) e.cut
noncomputable def dJ (w : Wd) (e : Ev) : Hs := jY w.now (II w e).2 (Ai w e.to)
noncomputable def dI (w : Wd) (e : Ev) : Hs := bif e.lose then Ai w e.host else dK e.id w.now (Jb w e).to (II w e).1 (Ai w e.host)
def sf (w : Wd) (e : Ev) : Prop := (0 ≤ e.host ∧ e.host ≤ (w.hosts.length : Int) - 1) ∧ (0 ≤ e.to ∧ e.to ≤ (w.hosts.length : Int) - 1) ∧ ¬ e.host = e.to ∧ ¬ A8 (Ai w e.host).spool e.id < 0 ∧ ¬ ((Jb w e).to.length : Int) = 0
noncomputable def xN (w : Wd) (e : Ev) : Wd := H0 (H0 w e.to (dJ w e)) e.host (dI w e)
open Classical in
noncomputable def ck (w : Wd) (e : Ev) : Wd × Bool := if sf w e then (xN w e, true) else (w, false)
theorem cl {w : Wd} {e : Ev} (q : sf w e) : ck w e = (xN w e, true) := if_pos q
theorem LX {w : Wd} {e : Ev} (q : ¬ sf w e) : ck w e = (w, false) := if_neg q
theorem cg (h : Hs) (nm : ByteArray) (m : Ml) (cut : Int) : ∀ y ∈ (Gf h nm m cut).2, DK y := by
 unfold Gf
 split
 ·exact J3 _ _ _ _
 ·exact J3 _ _ _ _
theorem Xn {h : Hs} {nm : ByteArray} {m : Ml} {cut : Int} (hn : nm.size ≤ 1000) (hm : OM m) : (Gf h nm m cut).1.length = m.to.length := by
 unfold Gf
 split
 ·exact LT hn hm
 ·exact LT hn hm
theorem sY {h : Hs} {nm : ByteArray} {m : Ml} {cut : Int} (hn : nm.size ≤ 1000) (hm : OM m) (hc : cut ≤ 1000) : (Gf h nm m cut).2.length ≤ 300000000 := by
 have key : ∀ c : Int, c ≤ 1000 → (E4 h.conf nm m c).2.length ≤ 300000000 := fun c q => by
  have z := (LV h.conf c c.toNat 0 (Xm h.conf nm m) (LU h.conf hn hm)).2.1
  show (Lh h.conf c c.toNat 0 (Xm h.conf nm m)).2.length ≤ _
  omega
 unfold Gf
 split
 ·exact key _ hc
 ·exact key _ (by decide)
theorem wT {N : Nat} {w : Wd} {h : Hs} {n : Int} (q : FX h) (h1 : ¬ A8 h.spool n < 0) : (A8 h.spool n).toNat < h.spool.items.length ∧ Do (Jy h n) ∧ ∀ r ∈ (Jy h n).to, Cn h.spool n r.addr := by
 have hil : (A8 h.spool n).toNat < h.spool.items.length := by have := CX h1; omega
 refine ⟨hil, (q.2.2.2.1 _ (AC (xs := h.spool.items) (j := (A8 h.spool n).toNat) hil)).1, fun r hr => ?_⟩
 have y := (F8 q.2.2.2 (x := Jy h n) (AC hil) hr).1
 have e2 : (Jy h n).id = n := GD h1
 rw [e2] at y
 exact y
theorem mJ {N : Nat} {w : Wd} {e : Ev} (q : Ga N w) (h : sf w e) : FX (Ai w e.host) ∧ E6 N (Ai w e.host) ∧ FX (Ai w e.to) ∧ E6 N (Ai w e.to) ∧ Do (Jy (Ai w e.host) e.id) ∧ (Jb w e).to.Nodup ∧ (Jb w e).to.length ≤ 4 ∧ ∀ a ∈ (Jb w e).to, Cn (Ai w e.host).spool e.id a := by
 obtain ⟨h1, h2, h3, h4, h5⟩ := h
 have hl := q.2.1
 have hH := q.1 _ (AC (xs := w.hosts) (j := e.host.toNat) (by omega))
 have hT := q.1 _ (AC (xs := w.hosts) (j := e.to.toNat) (by omega))
 obtain ⟨t1, t2, t3⟩ := wT (N := N) (w := w) hH.1 h4
 refine ⟨hH.1, hH.2, hT.1, hT.2, t2, (Ik _ _ _ _).nodup t2.2.1, Nat.le_trans (Ey _ _ _ _) t2.2.2.2.2.1.2, fun a ha => ?_⟩
 obtain ⟨r, hr, er, _⟩ := Ez _ _ _ _ a ha
 rw [← er]; exact t3 r hr
theorem wS {N : Nat} {w : Wd} {e : Ev} (q : Ga N w) : Ga (N + 4) (ck w e).1 := by
 by_cases h : sf w e
 ·rw [cl h]
  obtain ⟨a1, a2, b1, b2, hi, hd, hl, ht⟩ := mJ q h
  have zb := mD q.2.2.1 (II w e).2 b1 b2 (cg _ _ _ _)
  have za : FX (dI w e) ∧ E6 (N + 4) (dI w e) := by
   unfold dI
   cases e.lose
   ·have z := mG (n := e.id) q.2.2.1 (Jb w e).to (II w e).1 a1 a2 hd ht
    exact ⟨z.1, B1 z.2 (by omega)⟩
   ·exact ⟨a1, B1 a2 (by omega)⟩
  exact OC (OC (A1 q (by omega)) zb.1 (B1 zb.2 (by omega))) za.1 za.2
 ·rw [LX h]; exact A1 q (Nat.le_add_right _ _)
theorem rW {mk : ByteArray} {ds : List Ad} {j : Nat} (h : j < ds.length) : (Kv mk (ds.take (j + 1))).map An = (Kv mk (ds.take j)).map An ++ [[.v (.string mk), .v (.string (ds.getD j default).user), .v (.string (ds.getD j default).domain)]] := by
 unfold Kv
 rw [List.map_map, List.map_map, M1 _ h]
 rfl
theorem rV {mk : ByteArray} {ds : List Ad} : (Kv mk ds).length = ds.length := lm _
theorem uz (n : Int) : (⟨#[73, 100, 58, 32]⟩ : ByteArray) ++ Nb n = lD n := rfl
theorem sB (w : Wd) (e : Ev) : (⟨e.mail.frm, e.mail.to, lD (w.marks + 1) :: e.mail.body⟩ : Ml) = OS w e := rfl
def d9 : Mt := HB (lc jd (lc OZ.ag l0)) (fun p => Ga 1000000 p.1 ∧ Ta p.2.1) (fun p => ([.any, OZ.ag.enc p.2.1], .tup [Ge (Xh p.1 p.2.1).1, .t (.v (.bool (Xh p.1 p.2.1).2))]))
section
attribute [local go_sem] JP xE NR KY NT eD ZB s8 b9 VJ Na uz sB B2 EF EE Ge.eq_1 FV.eq_1 AT Bb LN lm AS.opn AS.cls AS.nilb AS.renb AS.up Bool.not_false Bool.not_true List.set_set List.set_cons_zero List.set_cons_succ List.set_nil List.mem_singleton forall_eq tn List.map_nil List.nil_append
set_option maxHeartbeats 6400000 in
theorem gO {G : Gt} (hG : Ah G) (hh : G.e 69 = AA 0 JP ∧ G.e 68 = AA 0 xE ∧ G.e 107 = AA 0 NR ∧ G.e 121 = AA 0 KY ∧ G.e 122 = AA 0 NT ∧ G.e 184 = AA 0 eD ∧ G.e 185 = AA 1 ZB ∧ G.e 70 = AA 1 s8) : Gd G 168 (AN d9) := by
 refine JS (dp := fun n => !(Nat.beq n 100006 || Nat.beq n 100007 || Nat.beq n 100015)) (fn := Tryz.f168) (n := 2) rfl rfl hG ?_
 rintro ⟨w, e, ⟨⟩⟩ hpre
 obtain ⟨hw, hE, hc0, hc1⟩ := hpre
 try dsimp only at hw hE hc0 hc1 ⊢
 have hl := hw.2.1
 have hmk0 := hw.2.2.2.1
 have hgl := hw.2.2.2.2.1
 have hml1 := hE.2.1.1
 have hml2 := hE.2.2.1
 refine BJ (0 ≤ e.host ∧ e.host ≤ (w.hosts.length : Int) - 1) (fun h0 => have h0' := Ap h0; BJ (DK e.mail) (fun h1 => have h1' := Ap h1; BJ (w.marks ≥ 60) (fun h2 => have hx := And.intro (JG (fun q => q.2.2.1 h2) : Xh w e = _) (And.intro h0' (And.intro h1' h2)); ?_) (fun h2 => BJ ((e.mail.body.length : Int) ≥ 10) (fun h3 => have hx := And.intro (JG (fun q => q.2.2.2.1 h3) : Xh w e = _) (And.intro h0' (And.intro h1' (And.intro h2 h3))); ?_) (fun h3 => BJ (Be e.mail.body = ⟨#[]⟩) (fun h4 => BJ (CI (Ai w e.host).spool) (fun h5 => have h5' := Ap h5; ?w1) (fun h5 => have h5' := AQ h5; have hx := And.intro (JG (fun q => h5 q.2.2.2.2.2) : Xh w e = _) (And.intro h0' (And.intro h1' (And.intro h2 (And.intro h3 (And.intro h4 h5'))))); ?_)) (fun h4 => have hx := And.intro (JG (fun q => h4 q.2.2.2.2.1) : Xh w e = _) (And.intro h0' (And.intro h1' (And.intro h2 (And.intro h3 h4)))); ?_)))) (fun h1 => have h1' := AQ h1; have hx := And.intro (JG (fun q => h1 q.2.1) : Xh w e = _) (And.intro h0' h1'); ?_)) (fun h0 => have h0' := AQ h0; have hx := And.intro (JG (fun q => h0 q.1) : Xh w e = _) h0'; ?_)
 case w1 =>
  rw [cN ⟨h0, h1, h2, h3, h4, h5⟩]
  have hS0 := vz hw ⟨h0, h1, h2, h3, h4, h5⟩
  have hK := hw.1 _ (AC (xs := w.hosts) (j := e.host.toNat) (by omega))
  have Ma := (DF hK.1.2.2.1.2.2.1).2
  have hmk := ly (w := w) h1
  have hds := IY (w.marks + 1)
  have e4 : (#[73, 100, 58, 32] : Array UInt8).size = 4 := rfl
  have hC : OM (OS w e) := YI h1 (by have := lE (w.marks + 1); omega)
  have hb12 := h1.2.2.2.2.2
  have hv1 : ∀ y ∈ JH w e, DK y := J3 _ _ _ _
  have hv2 : ∀ y ∈ JH w e, jm y := Xl (nm := ⟨#[99, 108, 105, 101, 110, 116]⟩) (by show (6 : Nat) ≤ 1000; decide) hC
  have hvn : (JH w e).length ≤ 300000000 := by
   have z := (LV (Ai w e.host).conf e.cut e.cut.toNat 0 (Xm (Ai w e.host).conf ⟨#[99, 108, 105, 101, 110, 116]⟩ (OS w e)) (LU (Ai w e.host).conf (nm := ⟨#[99, 108, 105, 101, 110, 116]⟩) (by show (6 : Nat) ≤ 1000; decide) hC)).2.1
   show (Lh (Ai w e.host).conf e.cut e.cut.toNat 0 (Xm (Ai w e.host).conf ⟨#[99, 108, 105, 101, 110, 116]⟩ (OS w e))).2.length ≤ _
   omega
  simp -implicitDefEqProofs only [Tryz.f168, h0', h1', h2, h3, h4, h5', eq_self, decide_true, decide_false, go_sem, hh, seval]
  with_reducible repeat' (first | apply ai | intro _ | ((first | apply s1 | apply s3 | apply s4) <;> intro hb <;> simp -implicitDefEqProofs only [hb, go_sem, hh, seval] <;> try simp only [qz] at hb))
  all_goals (try simp only [maxLen, tn, AZ, AY, lm, List.length_cons] at *)
  all_goals first | with_reducible rfl | omega | with_reducible assumption | (show _ = true; rfl) | contradiction | decide | exact hC | (show (_ : Nat) ≤ _; decide) | skip
  skip
  refine AO (Le.frzL [1064, 1072]) (AX ?_)
  simp -implicitDefEqProofs only [go_sem, hh, seval]
  with_reducible repeat' (first | apply ai | intro _ | ((first | apply s1 | apply s3 | apply s4) <;> intro hb <;> simp -implicitDefEqProofs only [hb, go_sem, hh, seval] <;> try simp only [qz] at hb))
  all_goals (try simp only [maxLen, tn, AZ, AY, lm, List.length_cons] at *)
  all_goals first | with_reducible rfl | omega | with_reducible assumption | (show _ = true; rfl) | contradiction | decide | exact hC | (show (_ : Nat) ≤ _; decide) | skip
  refine AO (Le.renb 1002 3 2900 1901 rfl rfl rfl rfl) (AX ?_)
  simp -implicitDefEqProofs only [go_sem, hh, seval]
  with_reducible repeat' (first | apply ai | intro _ | ((first | apply s1 | apply s3 | apply s4) <;> intro hb <;> simp -implicitDefEqProofs only [hb, go_sem, hh, seval] <;> try simp only [qz] at hb))
  all_goals first | with_reducible rfl | omega | with_reducible assumption | (show _ = true; rfl) | contradiction | decide | skip
  refine AE [] (ι := {p : Nat × Wd // p.1 ≤ (JH w e).length ∧ db 1000000 e.host p.2 ∧ Qz e.host (Be (OS w e).body) ((JH w e).drop p.1) p.2 = vv w e}) (fun p => ⟨[(2, .pb 1002 0), (3, .pb 1003 0), (4, .pb 1004 0), (6, .pb 1006 0), (8, .t (.sl 4 ((JH w e).map DP))), (9, .t (.v (.int .i64 p.1.1)))], [(1002, some (.box [.h 1900, .t (.v (.int .i64 p.1.2.now)), .t (.v (.int .i64 p.1.2.marks)), .h 1901])), (1003, some (.box ((C7 e).map .t))), (1004, some (.box [.nil, .t (.v (.int .i64 0)), .t (.v (.int .i64 0)), .nil])), (1006, some (.box [.t (.v (.string e.mail.frm.user)), .t (.v (.string e.mail.frm.domain)), .t (.sl 2 (e.mail.to.map Am)), .t (.sl 1 ((lD (w.marks + 1) :: e.mail.body).map AH))])), (1900, some (.arr false 7 (p.1.2.hosts.map Af))), (1901, some (.arr true 3 (p.1.2.given.map An)))]⟩) (fun p => (JH w e).length - p.1.1) ⟨(0, ⟨w.hosts, w.now, w.marks + 1, w.given⟩), Nat.zero_le _, hS0, rfl⟩ rfl ?_ ?_
  ·simp -implicitDefEqProofs only [go_sem, hh, seval]
   first | (simp; done) | skip
  ·rintro ⟨⟨i, x⟩, hi, hx, hv⟩
   dsimp only at hi hx hv
   have hxK := (L9 hx).1
   have hxo := EV (L9 hx).1 (L9 hx).2 (by decide)
   have hxn := (DF hxK.2.2.1.2.2.1).2
   have hxn6 : (Ai x e.host).conf.name.size ≤ 1000000 := by omega
   have hxw := hx.1.2.2.1
   have hxg := jp hx
   have hxl := hx.2.1
   by_cases hlt : (i : Int) < (JH w e).length
   ·have hym := AC (xs := JH w e) (j := i) (by omega)
    have hy := hv1 _ hym
    have hyo := (hv2 _ hym).1
    have hyl := hy.2.2.2.1.2
    by_cases q : ((JH w e).getD i default).body.length < 12 ∧ CI (Ai x e.host).spool
    ·simp -implicitDefEqProofs only [hlt, KA q, eq_self, decide_true, decide_false, go_sem, hh, seval]
     with_reducible repeat' (first | apply ai | intro _ | ((first | apply s1 | apply s3 | apply s4) <;> intro hb <;> simp -implicitDefEqProofs only [hb, go_sem, hh, seval] <;> try simp only [qz] at hb))
     all_goals (try simp only [maxLen, tn, AZ, AY, lm] at *)
     all_goals first | with_reducible rfl | omega | with_reducible assumption | (show _ = true; rfl) | contradiction | decide | exact hxK.2.2.2 | skip
     refine AE [] (ι := {j : Nat // j ≤ ((JH w e).getD i default).to.length}) (fun p => ⟨[(2, .pb 1002 0), (3, .pb 1003 0), (4, .pb 1004 0), (6, .pb 1006 0), (8, .t (.sl 4 ((JH w e).map DP))), (9, .t (.v (.int .i64 i))), (12, .t (.v (.int .i64 p.1)))], [(1002, some (.box [.h 1900, .t (.v (.int .i64 (X0 x e.host (Be (OS w e).body) ((JH w e).getD i default)).now)), .t (.v (.int .i64 (X0 x e.host (Be (OS w e).body) ((JH w e).getD i default)).marks)), .h 1901])), (1003, some (.box ((C7 e).map .t))), (1004, some (.box [.nil, .t (.v (.int .i64 0)), .t (.v (.int .i64 0)), .nil])), (1006, some (.box [.t (.v (.string e.mail.frm.user)), .t (.v (.string e.mail.frm.domain)), .t (.sl 2 (e.mail.to.map Am)), .t (.sl 1 ((lD (w.marks + 1) :: e.mail.body).map AH))])), (1900, some (.arr false 7 ((X0 x e.host (Be (OS w e).body) ((JH w e).getD i default)).hosts.map Af))), (1901, some (.arr true 3 (x.given.map An ++ (Kv (Be (OS w e).body) (((JH w e).getD i default).to.take p.1)).map An)))]⟩) (fun p => ((JH w e).getD i default).to.length - p.1) ⟨0, Nat.zero_le _⟩ rfl ?_ ?_
     ·simp -implicitDefEqProofs only [go_sem, hh, seval]
      first | (simp [Kv, X0]; done) | skip
     ·rintro ⟨j, hj⟩
      try dsimp only at hj
      have hlj : (Kv (Be (OS w e).body) (((JH w e).getD i default).to.take j)).length = j := by rw [rV, List.length_take]; omega
      by_cases hjt : (j : Int) < ((JH w e).getD i default).to.length
      ·simp -implicitDefEqProofs only [hjt, hlj, List.length_append, lm, eq_self, decide_true, decide_false, go_sem, hh, seval]
       with_reducible repeat' (first | apply ai | intro _ | ((first | apply s1 | apply s3 | apply s4) <;> intro hb <;> simp -implicitDefEqProofs only [hb, go_sem, hh, seval] <;> try simp only [qz] at hb))
       all_goals (try simp only [maxLen, tn, AZ, AY, lm] at *)
       all_goals first | with_reducible rfl | omega | with_reducible assumption | (show _ = true; rfl) | contradiction | decide | (rename_i hm; rcases List.mem_append.1 hm with hm | hm <;> (obtain ⟨_, _, rfl⟩ := List.mem_map.1 hm; rfl)) | skip
       skip
       refine AO (Le.renb 1002 3 1145 1901 rfl rfl rfl rfl) (AX ?_)
       simp -implicitDefEqProofs only [go_sem, hh, seval]
       with_reducible repeat' (first | apply ai | intro _ | ((first | apply s1 | apply s3 | apply s4) <;> intro hb <;> simp -implicitDefEqProofs only [hb, go_sem, hh, seval] <;> try simp only [qz] at hb))
       all_goals first | with_reducible rfl | omega | with_reducible assumption | (show _ = true; rfl) | contradiction | decide | skip
       refine ⟨⟨j + 1, by omega⟩, by dsimp only; omega, ?_⟩
       simp -implicitDefEqProofs only [go_sem, hh, seval]
       simp only [rW (show j < ((JH w e).getD i default).to.length by omega), List.append_assoc]
       first | (simp [OS]; done) | skip
      ·have htk : ((JH w e).getD i default).to.take j = ((JH w e).getD i default).to := List.take_of_length_le (by omega)
       simp -implicitDefEqProofs only [hjt, htk, eq_self, decide_true, decide_false, go_sem, hh, seval]
       with_reducible repeat' (first | apply ai | intro _ | ((first | apply s1 | apply s3 | apply s4) <;> intro hb <;> simp -implicitDefEqProofs only [hb, go_sem, hh, seval] <;> try simp only [qz] at hb))
       all_goals (try simp only [maxLen, tn, AZ, AY, lm] at *)
       all_goals first | with_reducible rfl | omega | with_reducible assumption | (show _ = true; rfl) | contradiction | decide | skip
       refine ⟨⟨(i + 1, X0 x e.host (Be (OS w e).body) ((JH w e).getD i default)), by dsimp only; omega, l8 hx hmk hy q.1 q.2, (vu (by omega) q).symm.trans hv⟩, by dsimp only; omega, ?_⟩
       simp -implicitDefEqProofs only [go_sem, hh, seval]
       first | (simp [X0]; done) | skip
    ·simp -implicitDefEqProofs only [hlt, J9 q, eq_self, decide_true, decide_false, go_sem, hh, seval]
     with_reducible repeat' (first | apply ai | intro _ | ((first | apply s1 | apply s3 | apply s4) <;> intro hb <;> simp -implicitDefEqProofs only [hb, go_sem, hh, seval] <;> try simp only [qz] at hb))
     all_goals (try simp only [maxLen, tn, AZ, AY, lm] at *)
     all_goals first | with_reducible rfl | omega | with_reducible assumption | (show _ = true; rfl) | contradiction | decide | exact hxK.2.2.2 | skip
     refine ⟨⟨(i + 1, x), by dsimp only; omega, hx, (vt (by omega) q).symm.trans hv⟩, by dsimp only; omega, ?_⟩
     simp -implicitDefEqProofs only [go_sem, hh, seval]
     first | (simp; done) | skip
   ·rw [vr (by omega)] at hv
    subst hv
    simp -implicitDefEqProofs only [hlt, eq_self, decide_true, decide_false, go_sem, hh, seval]
    with_reducible repeat' (first | apply ai | intro _ | ((first | apply s1 | apply s3 | apply s4) <;> intro hb <;> simp -implicitDefEqProofs only [hb, go_sem, hh, seval] <;> try simp only [qz] at hb))
    all_goals (try simp only [maxLen, tn, AZ, AY] at *)
    all_goals first | with_reducible rfl | omega | with_reducible assumption | (show _ = true; rfl) | contradiction | decide | skip
 all_goals
  try rw [hx.1]
  simp -implicitDefEqProofs only [Tryz.f168, hx, eq_self, decide_true, decide_false, Int.reduceEq, go_sem, hh, seval]
  with_reducible repeat' (first | apply ai | intro _ | ((first | apply s1 | apply s3 | apply s4) <;> intro hb <;> simp -implicitDefEqProofs only [hb, go_sem, hh, seval] <;> try simp only [qz] at hb))
  all_goals (try simp only [maxLen, tn, lm] at *)
  all_goals first | rfl | omega | decide | with_reducible assumption | (show Aa _ = true; rfl) | exact Ht (by assumption) | contradiction | (show _ = T.v _; rfl) | (show _ = List.map An _; rfl) | skip
end
theorem Sz (w : Wd) (e : Ev) : JD (w.hosts.getD e.host.toNat default).conf ((w.hosts.getD e.host.toNat default).spool.items.getD (BM (fun x : Im => x.id = e.id) 0 (w.hosts.getD e.host.toNat default).spool.items).toNat default) (w.hosts.getD e.to.toNat default).conf.name w.now = Jb w e := rfl
theorem mI (w : Wd) (e : Ev) : Gf (Ai w e.to) (Ai w e.host).conf.name (Jb w e) e.cut = II w e := rfl
theorem vH {xs : List Ad} {i j : Nat} (h : xs.Nodup) (hi : i < j) (hj : j < xs.length) : ¬ xs.getD i default = xs.getD j default := by
 have z := List.pairwise_iff_getElem.1 h i j (by omega) hj hi
 simpa [hj, show i < xs.length by omega] using z
def eA : Mt := HB (lc jd (lc OZ.ag l0)) (fun p => Ga 1000000 p.1 ∧ Ta p.2.1) (fun p => ([.any, OZ.ag.enc p.2.1], .tup [Ge (ck p.1 p.2.1).1, .t (.v (.bool (ck p.1 p.2.1).2))]))
section
attribute [local go_sem] JP kA w8 nv s8 RZ Sz mI b9 B2 EF EE Ge.eq_1 FV.eq_1 AT Bb LN lm List.length_set AS.opn AS.cls AS.nilb AS.renb AS.up Bool.not_false Bool.not_true List.set_set List.set_cons_zero List.set_cons_succ List.set_nil List.mem_singleton forall_eq tn List.map_nil List.nil_append
set_option maxHeartbeats 6400000 in
theorem gP {G : Gt} (hG : Ah G) (hh : G.e 69 = AA 0 JP ∧ G.e 38 = AA 0 kA ∧ G.e 41 = AA 0 w8 ∧ G.e 186 = AA 1 nv ∧ G.e 70 = AA 1 s8 ∧ G.e 187 = AA 1 RZ) : Gd G 169 (AN eA) := by
 refine JS (dp := fun n => !(Nat.beq n 100011)) (fn := Tryz.f169) (n := 2) rfl rfl hG ?_
 rintro ⟨w, e, ⟨⟩⟩ hpre
 obtain ⟨hw, hE, hc0, hc1⟩ := hpre
 try dsimp only at hw hE hc0 hc1 ⊢
 have hl := hw.2.1
 refine BJ (0 ≤ e.host ∧ e.host ≤ (w.hosts.length : Int) - 1) (fun h0 => have h0' := Ap h0; BJ (0 ≤ e.to ∧ e.to ≤ (w.hosts.length : Int) - 1) (fun h1 => have h1' := Ap h1; BJ (e.host = e.to) (fun h2 => have hx := And.intro (LX (fun q => q.2.2.1 h2) : ck w e = _) (And.intro h0' (And.intro h1' h2)); ?_) (fun h2 => BJ (A8 (Ai w e.host).spool e.id < 0) (fun h3 => have hx := And.intro (LX (fun q => q.2.2.2.1 h3) : ck w e = _) (And.intro h0' (And.intro h1' (And.intro h2 h3))); ?_) (fun h3 => BJ (((Jb w e).to.length : Int) = 0) (fun h4 => ?w1) (fun h4 => ?w2)))) (fun h1 => have h1' := AQ h1; have hx := And.intro (LX (fun q => h1 q.2.1) : ck w e = _) (And.intro h0' h1'); ?_)) (fun h0 => have h0' := AQ h0; have hx := And.intro (LX (fun q => h0 q.1) : ck w e = _) h0'; ?_)
 case w1 =>
  have hH := hw.1 _ (AC (xs := w.hosts) (j := e.host.toNat) (by omega))
  have i1 : 0 ≤ BM (fun x : Im => x.id = e.id) 0 (Ai w e.host).spool.items ∧ BM (fun x : Im => x.id = e.id) 0 (Ai w e.host).spool.items < (Ai w e.host).spool.items.length := by have := CX h3; unfold A8 at this h3; omega
  have oa := EV hH.1 hH.2 (by decide)
  rw [LX (fun q => q.2.2.2.2 h4)]
  simp -implicitDefEqProofs only [Tryz.f169, h0', h1', h2, h3, h4, eq_self, decide_true, decide_false, Sz, go_sem, hh, seval]
  with_reducible repeat' (first | apply ai | intro _ | ((first | apply s1 | apply s3 | apply s4) <;> intro hb <;> simp -implicitDefEqProofs only [hb, go_sem, hh, seval] <;> try simp only [qz] at hb))
  all_goals (try simp only [maxLen, tn, AZ, AY, lm] at *)
  all_goals first | rfl | omega | decide | with_reducible assumption | (show Aa _ = true; rfl) | exact Ht (by assumption) | contradiction | exact i1.2 | exact i1.1 | (show _ = T.v _; rfl) | (show _ = List.map An _; rfl) | skip
 case w2 =>
  have hq : sf w e := ⟨h0, h1, h2, h3, h4⟩
  rw [cl hq]
  obtain ⟨a1, a2, b1, b2, hi, hd, hl4, ht⟩ := mJ hw hq
  have i1 : 0 ≤ BM (fun x : Im => x.id = e.id) 0 (Ai w e.host).spool.items ∧ BM (fun x : Im => x.id = e.id) 0 (Ai w e.host).spool.items < (Ai w e.host).spool.items.length := by have := CX h3; unfold A8 at this h3; omega
  have hC : OM (Jb w e) := r7 hi
  have oa := EV a1 a2 (by decide)
  have ob := EV b1 b2 (by decide)
  have na := (DF a1.2.2.1.2.2.1).2
  have nb := (DF b1.2.2.1.2.2.1).2
  have na6 : (Ai w e.host).conf.name.size ≤ 1000 := by omega
  have nb6 : (Ai w e.to).conf.name.size ≤ 1000 := by omega
  have hw2 := hw.2.2.1
  have hno : (II w e).1.length = (Jb w e).to.length := Xn (by omega) hC
  have hv1 : ∀ y ∈ (II w e).2, DK y := cg _ _ _ _
  have hvn : (II w e).2.length ≤ 300000000 := sY (by omega) hC (by omega)
  simp -implicitDefEqProofs only [Tryz.f169, h0', h1', h2, h3, h4, eq_self, decide_true, decide_false, Sz, mI, go_sem, hh, seval]
  with_reducible repeat' (first | apply ai | intro _ | ((first | apply s1 | apply s3 | apply s4) <;> intro hb <;> simp -implicitDefEqProofs only [hb, go_sem, hh, seval] <;> try simp only [qz] at hb))
  all_goals (try simp only [maxLen, tn, AZ, AY, lm, List.length_cons] at *)
  all_goals first | with_reducible rfl | omega | with_reducible assumption | (show _ = true; rfl) | contradiction | decide | exact hC | exact i1.2 | exact i1.1 | skip
  refine AO (Le.frzL [1069, 2069]) (AX ?_)
  simp -implicitDefEqProofs only [go_sem, hh, seval]
  with_reducible repeat' (first | apply ai | intro _ | ((first | apply s1 | apply s3 | apply s4) <;> intro hb <;> simp -implicitDefEqProofs only [hb, go_sem, hh, seval] <;> try simp only [qz] at hb))
  all_goals (try simp only [maxLen, tn, AZ, AY, lm, List.length_cons] at *)
  all_goals first | with_reducible rfl | omega | with_reducible assumption | (show _ = true; rfl) | contradiction | decide | exact hC | exact i1.2 | exact i1.1 | skip
  refine AE [] (ι := {p : Nat × Hs // p.1 ≤ (II w e).2.length ∧ FX p.2 ∧ E6 1000000 p.2 ∧ p.2.conf = (Ai w e.to).conf ∧ jY w.now ((II w e).2.drop p.1) p.2 = dJ w e}) (fun p => ⟨[(2, .pb 1002 0), (3, .pb 1003 0), (4, .pb 1004 0), (6, .pb 1006 0), (7, .pb 1007 0), (9, .pb 1009 0), (10, .t (.sl 1 ((II w e).1.map Ao))), (11, .t (.sl 4 ((II w e).2.map DP))), (12, .t (.v (.int .i64 p.1.1)))], [(1002, some (.box [.h 1900, .t (.v (.int .i64 w.now)), .t (.v (.int .i64 w.marks)), .h 2900])), (1003, some (.box ((C7 e).map .t))), (1004, some (.box [.nil, .t (.v (.int .i64 0)), .t (.v (.int .i64 0)), .nil])), (1006, some (.box ((Af (Ai w e.host)).map .t))), (1007, some (.box ((Af p.1.2).map .t))), (1009, some (.box [.t (.v (.string (Jb w e).frm.user)), .t (.v (.string (Jb w e).frm.domain)), .t (.sl 2 ((Jb w e).to.map Am)), .t (.sl 1 ((Jb w e).body.map AH))])), (1900, some (.arr false 7 (w.hosts.map Af))), (2900, some (.arr true 3 (w.given.map An)))]⟩) (fun p => (II w e).2.length - p.1.1) ⟨(0, (Ai w e.to)), Nat.zero_le _, b1, b2, rfl, rfl⟩ rfl ?_ ?_
  ·simp -implicitDefEqProofs only [go_sem, hh, seval]
   first | (simp; done) | skip
  ·rintro ⟨⟨i, x⟩, hi1, hx1, hx2, hx3, hv⟩
   dsimp only at hi1 hx1 hx2 hx3 hv
   have xo := EV hx1 hx2 (by decide)
   have nx := (DF hx1.2.2.1.2.2.1).2
   have nx6 : x.conf.name.size ≤ 1000000 := by omega
   by_cases hlt : (i : Int) < (II w e).2.length
   ·have hy := hv1 _ (AC (xs := (II w e).2) (j := i) (by omega))
    have hyo : KB ((II w e).2.getD i default) := Jp hy
    have zK := YD hx1 hx2 hy hw2
    by_cases q : ((II w e).2.getD i default).body.length < 12 ∧ CI x.spool
    ·simp -implicitDefEqProofs only [hlt, KA q, eq_self, decide_true, decide_false, go_sem, hh, seval]
     with_reducible repeat' (first | apply ai | intro _ | ((first | apply s1 | apply s3 | apply s4) <;> intro hb <;> simp -implicitDefEqProofs only [hb, go_sem, hh, seval] <;> try simp only [qz] at hb))
     all_goals (try simp only [maxLen, tn, AZ, AY, lm] at *)
     all_goals first | with_reducible rfl | omega | with_reducible assumption | (show _ = true; rfl) | contradiction | decide | exact hx1.2.2.2 | skip
     refine ⟨⟨(i + 1, (JK x ((II w e).2.getD i default) w.now).1), by dsimp only; omega, zK.1, zK.2.1, zK.2.2.trans hx3, (mE (by omega)).symm.trans hv⟩, by dsimp only; omega, ?_⟩
     simp -implicitDefEqProofs only [KA q, go_sem, hh, seval]
     first | (simp; done) | skip
    ·simp -implicitDefEqProofs only [hlt, J9 q, eq_self, decide_true, decide_false, go_sem, hh, seval]
     with_reducible repeat' (first | apply ai | intro _ | ((first | apply s1 | apply s3 | apply s4) <;> intro hb <;> simp -implicitDefEqProofs only [hb, go_sem, hh, seval] <;> try simp only [qz] at hb))
     all_goals (try simp only [maxLen, tn, AZ, AY, lm] at *)
     all_goals first | with_reducible rfl | omega | with_reducible assumption | (show _ = true; rfl) | contradiction | decide | exact hx1.2.2.2 | skip
     refine ⟨⟨(i + 1, (JK x ((II w e).2.getD i default) w.now).1), by dsimp only; omega, zK.1, zK.2.1, zK.2.2.trans hx3, (mE (by omega)).symm.trans hv⟩, by dsimp only; omega, ?_⟩
     simp -implicitDefEqProofs only [J9 q, go_sem, hh, seval]
     first | (simp; done) | skip
   ·rw [wP (by omega)] at hv
    subst hv
    simp -implicitDefEqProofs only [hlt, eq_self, decide_true, decide_false, go_sem, hh, seval]
    with_reducible repeat' (first | apply ai | intro _ | ((first | apply s1 | apply s3 | apply s4) <;> intro hb <;> simp -implicitDefEqProofs only [hb, go_sem, hh, seval] <;> try simp only [qz] at hb))
    all_goals (try simp only [maxLen, tn, AZ, AY, lm] at *)
    all_goals first | with_reducible rfl | omega | with_reducible assumption | (show _ = true; rfl) | contradiction | decide | skip
    refine AE [] (ι := {p : Nat × Hs // p.1 ≤ (II w e).1.length ∧ FX p.2 ∧ E6 (1000000 + p.1) p.2 ∧ p.2.conf = (Ai w e.host).conf ∧ (∀ j, p.1 ≤ j → j < (Jb w e).to.length → Cn p.2.spool e.id ((Jb w e).to.getD j default)) ∧ (e.lose = true → p.2 = (Ai w e.host)) ∧ dK e.id w.now ((Jb w e).to.drop p.1) ((II w e).1.drop p.1) p.2 = dK e.id w.now (Jb w e).to (II w e).1 (Ai w e.host)}) (fun p => ⟨[(2, .pb 1002 0), (3, .pb 1003 0), (4, .pb 1004 0), (6, .pb 1006 0), (9, .pb 1009 0), (10, .t (.sl 1 ((II w e).1.map Ao))), (15, .t (.v (.int .i64 p.1.1)))], [(1002, some (.box [.h 1900, .t (.v (.int .i64 w.now)), .t (.v (.int .i64 w.marks)), .h 2900])), (1003, some (.box ((C7 e).map .t))), (1004, some (.box [.nil, .t (.v (.int .i64 0)), .t (.v (.int .i64 0)), .nil])), (1006, some (.box ((Af p.1.2).map .t))), (1009, some (.box [.t (.v (.string (Jb w e).frm.user)), .t (.v (.string (Jb w e).frm.domain)), .t (.sl 2 ((Jb w e).to.map Am)), .t (.sl 1 ((Jb w e).body.map AH))])), (1900, some (.arr false 7 ((w.hosts.set e.to.toNat (dJ w e)).map Af))), (2900, some (.arr true 3 (w.given.map An)))]⟩) (fun p => (II w e).1.length - p.1.1) ⟨(0, (Ai w e.host)), Nat.zero_le _, a1, a2, rfl, fun j _ hj => ht _ (AC hj), fun _ => rfl, rfl⟩ rfl ?_ ?_
    ·simp -implicitDefEqProofs only [go_sem, hh, seval]
     first | (simp; done) | skip
    ·rintro ⟨⟨k, y⟩, hk, y1, y2, y3, y4, y5, hv⟩
     dsimp only at hk y1 y2 y3 y4 y5 hv
     have yo := EV y1 y2 (by omega)
     have ysp := y1.2.2.2
     by_cases hex : k < (II w e).1.length ∧ e.lose = false
     ·obtain ⟨hk1, hk2⟩ := hex
      have hk3 : (k : Int) < (II w e).1.length := by omega
      have htd := y4 k (Nat.le_refl _) (by omega)
      have z := bh (out := (II w e).1.getD k default) y1 y2 htd hw2
      simp -implicitDefEqProofs only [hk3, hk2, Bool.not_false, eq_self, decide_true, decide_false, go_sem, hh, seval]
      with_reducible repeat' (first | apply ai | intro _ | ((first | apply s1 | apply s3 | apply s4) <;> intro hb <;> simp -implicitDefEqProofs only [hb, go_sem, hh, seval] <;> try simp only [qz] at hb))
      all_goals (try simp only [maxLen, tn, AZ, AY, lm] at *)
      all_goals first | with_reducible rfl | omega | with_reducible assumption | (show _ = true; rfl) | contradiction | decide | exact yo.2.1 | exact htd.1 | exact htd.2 | exact .inr ⟨yo, hw2⟩ | (rw [hk2]; done) | skip
      refine ⟨⟨(k + 1, Hy y e.id ((Jb w e).to.getD k default) ((II w e).1.getD k default) w.now), by dsimp only; omega, z.1, z.2.1, z.2.2.1.trans y3, fun j hj hj2 => z.2.2.2 _ (y4 j (by dsimp only at hj; omega) hj2) (fun u => vH hd (by dsimp only at hj; omega) hj2 u), fun u => (by rw [hk2] at u; cases u), (wR (by omega) hk1).symm.trans hv⟩, by dsimp only; omega, ?_⟩
      simp -implicitDefEqProofs only [go_sem, hh, seval]
      first | (simp only [Hy]; simp [hk2]; done) | (simp only [Hy, hk2]; simp; done) | skip
     ·have hA : dI w e = y := by
        unfold dI
        cases hlo : e.lose
        ·rw [wQ (Nat.le_of_not_lt fun u => hex ⟨u, hlo⟩)] at hv
         exact hv.symm
        ·exact (y5 hlo).symm
      have hR : xN w e = ⟨(w.hosts.set e.to.toNat (dJ w e)).set e.host.toNat y, w.now, w.marks, w.given⟩ := by unfold xN; rw [hA]; rfl
      rw [hR]
      simp -implicitDefEqProofs only [List.length_set, eq_self, decide_true, decide_false, go_sem, hh, seval]
      with_reducible repeat' (first | apply ai | intro _ | ((first | apply s1 | apply s3 | apply s4) <;> intro hb <;> simp -implicitDefEqProofs only [hb, go_sem, hh, seval] <;> try simp only [qz] at hb))
      all_goals (try simp only [maxLen, tn, AZ, AY, lm] at *)
      all_goals first | with_reducible rfl | omega | with_reducible assumption | (show _ = true; rfl) | contradiction | decide | exact absurd ⟨by omega, by assumption⟩ hex | skip
 all_goals
  try rw [hx.1]
  simp -implicitDefEqProofs only [Tryz.f169, hx, eq_self, decide_true, decide_false, Int.reduceEq, go_sem, hh, seval]
  with_reducible repeat' (first | apply ai | intro _ | ((first | apply s1 | apply s3 | apply s4) <;> intro hb <;> simp -implicitDefEqProofs only [hb, go_sem, hh, seval] <;> try simp only [qz] at hb))
  all_goals (try simp only [maxLen, tn, lm] at *)
  all_goals first | rfl | omega | decide | with_reducible assumption | (show Aa _ = true; rfl) | exact Ht (by assumption) | contradiction | (show _ = T.v _; rfl) | (show _ = List.map An _; rfl) | skip
end
theorem Fg {d k : Nat} {xs : List AV} {s : AS} : Dg d (.agg xs) .any k s = (s, k) := rfl
theorem Ek {xs : List AV} : BH (.agg xs) .any = [] := rfl
noncomputable def yr (w : Wd) (k : Int) : Wd := H0 w k (Cy (Ai w k).conf w.now (Ai w k).spool.items (Ai w k))
def yv (w : Wd) (n : Int) : Wd := ⟨w.hosts, w.now + n, w.marks, w.given⟩
open Classical in
noncomputable def C5 (w : Wd) (e : Ev) : Wd × Bool :=
 if e.kind = 1 then Xh w e
 else if e.kind = 2 then ck w e
 else if e.kind = 3 then JT w e
 else if e.kind = 4 then (if 0 ≤ e.host ∧ e.host ≤ (w.hosts.length : Int) - 1 then (yr w e.host, true) else (w, false))
 else if e.kind = 5 then (if (1 ≤ e.id ∧ e.id ≤ 40) ∧ ¬ w.now + e.id > 9999 then (yv w e.id, true) else (w, false))
 else (w, false)
section
variable {w : Wd} {e : Ev}
theorem uM (h : e.kind = 1) : C5 w e = Xh w e := if_pos h
theorem uO (h : e.kind = 2) : C5 w e = ck w e := by unfold C5; rw [if_neg (by omega), if_pos h]
theorem uP (h : e.kind = 3) : C5 w e = JT w e := by unfold C5; rw [if_neg (by omega), if_neg (by omega), if_pos h]
theorem ke (h : e.kind = 4) (q : 0 ≤ e.host ∧ e.host ≤ (w.hosts.length : Int) - 1) : C5 w e = (yr w e.host, true) := by unfold C5; rw [if_neg (by omega), if_neg (by omega), if_neg (by omega), if_pos h, if_pos q]
theorem Zz (h : e.kind = 4) (q : ¬ (0 ≤ e.host ∧ e.host ≤ (w.hosts.length : Int) - 1)) : C5 w e = (w, false) := by unfold C5; rw [if_neg (by omega), if_neg (by omega), if_neg (by omega), if_pos h, if_neg q]
theorem uQ (h : e.kind = 5) (q : (1 ≤ e.id ∧ e.id ≤ 40) ∧ ¬ w.now + e.id > 9999) : C5 w e = (yv w e.id, true) := by unfold C5; rw [if_neg (by omega), if_neg (by omega), if_neg (by omega), if_neg (by omega), if_pos h, if_pos q]
theorem Z0 (h : e.kind = 5) (q : ¬ ((1 ≤ e.id ∧ e.id ≤ 40) ∧ ¬ w.now + e.id > 9999)) : C5 w e = (w, false) := by unfold C5; rw [if_neg (by omega), if_neg (by omega), if_neg (by omega), if_neg (by omega), if_pos h, if_neg q]
theorem uL (h : ¬ e.kind = 1 ∧ ¬ e.kind = 2 ∧ ¬ e.kind = 3 ∧ ¬ e.kind = 4 ∧ ¬ e.kind = 5) : C5 w e = (w, false) := by unfold C5; rw [if_neg h.1, if_neg h.2.1, if_neg h.2.2.1, if_neg h.2.2.2.1, if_neg h.2.2.2.2]
end
theorem PS {N : Nat} {w : Wd} {e : Ev} (q : Ga N w) (hN : N ≤ 1000000) : Ga (N + 40) (C5 w e).1 := by
 have hl := q.2.1
 unfold C5
 split
 ·exact vw q
 ·split
  ·exact A1 (wS q) (by omega)
  ·split
   ·exact A1 (px q) (by omega)
   ·split
    ·split
     ·rename_i h
      have hH := q.1 _ (AC (xs := w.hosts) (j := e.host.toNat) (by omega))
      have z := rS (w := w.now) hH.1 hH.2 (by omega)
      exact OC (A1 q (by omega)) z.1 z.2
     ·exact A1 q (by omega)
    ·split
     ·split
      ·rename_i h
       refine A1 (N := N) ⟨q.1, q.2.1, ?_, q.2.2.2⟩ (by omega)
       have := q.2.2.1
       show 0 ≤ w.now + e.id ∧ w.now + e.id ≤ 9999
       omega
      ·exact A1 q (by omega)
     ·exact A1 q (by omega)
def RW : Mt := pE [[], [none, none, none, none, none, none, none, none, some 2, some 1]] (lc jd (lc OZ.ag l0)) (fun p => Ga 1000000 p.1 ∧ Ta p.2.1) (fun p => ([.any, OZ.ag.enc p.2.1], .tup [Ge (C5 p.1 p.2.1).1, .t (.v (.bool (C5 p.1 p.2.1).2))]))
def tu : Mt := HB (lc jd (lc OZ.ag l0)) (fun p => Ga 1000000 p.1 ∧ Ta p.2.1) (fun p => ([.any, OZ.ag.enc p.2.1], .tup [Ge (C5 p.1 p.2.1).1, .t (.v (.bool (C5 p.1 p.2.1).2))]))
section
attribute [local go_sem] d9 eA eB eC JP Fg Ek List.append_assoc List.nil_append B2 EF EE Ge.eq_1 FV.eq_1 AT Bb LN lm AS.opn AS.cls AS.nilb AS.renb AS.up Bool.not_false Bool.not_true List.set_set List.set_cons_zero List.set_cons_succ List.set_nil List.mem_singleton forall_eq tn List.map_nil
set_option maxHeartbeats 6400000 in
theorem rM {G : Gt} (hG : Ah G) (hh : G.e 168 = AN d9 ∧ G.e 169 = AN eA ∧ G.e 170 = AN eB ∧ G.e 171 = AA 1 eC ∧ G.e 69 = AA 0 JP) : Gd G 141 (AN tu) := by
 refine JS (dp := fun _ => true) (fn := Tryz.f141) (n := 2) rfl rfl hG ?_
 rintro ⟨w, e, ⟨⟩⟩ hpre
 obtain ⟨hw, hE⟩ := hpre
 try dsimp only at hw hE ⊢
 have hl := hw.2.1
 refine BJ (e.kind = 1) (fun k1 => have k1' := decide_eq_true k1; have hx := And.intro (uM k1 : C5 w e = _) k1'; ?_) (fun k1 => have k1' := decide_eq_false k1; BJ (e.kind = 2) (fun k2 => have k2' := decide_eq_true k2; have hx := And.intro (uO k2 : C5 w e = _) (And.intro k1' k2'); ?_) (fun k2 => have k2' := decide_eq_false k2; BJ (e.kind = 3) (fun k3 => have k3' := decide_eq_true k3; have hx := And.intro (uP k3 : C5 w e = _) (And.intro k1' (And.intro k2' k3')); ?_) (fun k3 => have k3' := decide_eq_false k3; BJ (e.kind = 4) (fun k4 => have k4' := decide_eq_true k4; BJ (0 ≤ e.host ∧ e.host ≤ (w.hosts.length : Int) - 1) (fun h2 => have h2' := Ap h2; ?w1) (fun h2 => have h2' := AQ h2; have hx := And.intro (Zz k4 h2 : C5 w e = _) (And.intro k1' (And.intro k2' (And.intro k3' (And.intro k4' h2')))); ?_)) (fun k4 => have k4' := decide_eq_false k4; BJ (e.kind = 5) (fun k5 => have k5' := decide_eq_true k5; BJ (1 ≤ e.id ∧ e.id ≤ 40) (fun h2 => have h2' := Ap h2; ?w2) (fun h2 => have h2' := AQ h2; have hx := And.intro (Z0 k5 (fun q => h2 q.1) : C5 w e = _) (And.intro k1' (And.intro k2' (And.intro k3' (And.intro k4' (And.intro k5' h2'))))); ?_)) (fun k5 => have k5' := decide_eq_false k5; have hx := And.intro (uL ⟨k1, k2, k3, k4, k5⟩ : C5 w e = _) (And.intro k1' (And.intro k2' (And.intro k3' (And.intro k4' k5')))); ?_)))))
 case w1 =>
  have hH := hw.1 _ (AC (xs := w.hosts) (j := e.host.toNat) (by omega))
  have oa := EV hH.1 hH.2 (by decide)
  have hs := EG.2 hH.1
  rw [ke k4 h2]
  simp -implicitDefEqProofs only [Tryz.f141, k1', k2', k3', k4', h2', eq_self, decide_true, decide_false, Int.reduceEq, go_sem, hh, seval]
  with_reducible repeat' (first | apply ai | intro _ | ((first | apply s1 | apply s3 | apply s4) <;> intro hb <;> simp -implicitDefEqProofs only [hb, go_sem, hh, seval] <;> try simp only [qz] at hb))
  all_goals (try simp only [maxLen, tn, AZ, AY] at *)
  all_goals first | rfl | omega | decide | with_reducible assumption | (show Aa _ = true; rfl) | exact Ht (by assumption) | contradiction | (show _ = T.v _; rfl) | (show _ = List.map An _; rfl) | (show _ = List.map Af _; rfl) | skip
 case w2 =>
  have hnw := hw.2.2.1
  by_cases h3 : w.now + e.id > 9999
  ·rw [Z0 k5 (fun q => q.2 h3)]
   simp -implicitDefEqProofs only [Tryz.f141, h3, k1', k2', k3', k4', k5', h2', eq_self, decide_true, decide_false, Int.reduceEq, go_sem, hh, seval]
   with_reducible repeat' (first | apply ai | intro _ | ((first | apply s1 | apply s3 | apply s4) <;> intro hb <;> simp -implicitDefEqProofs only [hb, go_sem, hh, seval] <;> try simp only [qz] at hb))
   all_goals (try simp only [maxLen, tn, AZ, AY] at *)
   all_goals first | rfl | omega | decide | with_reducible assumption | (show Aa _ = true; rfl) | exact Ht (by assumption) | contradiction | (show _ = T.v _; rfl) | (show _ = List.map An _; rfl) | skip
  ·rw [uQ k5 ⟨h2, h3⟩]
   simp -implicitDefEqProofs only [Tryz.f141, h3, k1', k2', k3', k4', k5', h2', eq_self, decide_true, decide_false, Int.reduceEq, go_sem, hh, seval]
   with_reducible repeat' (first | apply ai | intro _ | ((first | apply s1 | apply s3 | apply s4) <;> intro hb <;> simp -implicitDefEqProofs only [hb, go_sem, hh, seval] <;> try simp only [qz] at hb))
   all_goals (try simp only [maxLen, tn, AZ, AY] at *)
   all_goals first | rfl | omega | decide | with_reducible assumption | (show Aa _ = true; rfl) | exact Ht (by assumption) | contradiction | (show _ = T.v _; rfl) | (show _ = List.map An _; rfl) | (show _ = List.map Af _; rfl) | skip
 all_goals
  try rw [hx.1]
  simp -implicitDefEqProofs only [Tryz.f141, hx, eq_self, decide_true, decide_false, Int.reduceEq, go_sem, hh, seval]
  with_reducible repeat' (first | apply ai | intro _ | ((first | apply s1 | apply s3 | apply s4) <;> intro hb <;> simp -implicitDefEqProofs only [hb, go_sem, hh, seval] <;> try simp only [qz] at hb))
  all_goals (try simp only [maxLen, tn, lm] at *)
  all_goals first | rfl | omega | decide | with_reducible assumption | (show Aa _ = true; rfl) | exact Ht (by assumption) | contradiction | (show _ = T.v _; rfl) | (show _ = List.map An _; rfl) | skip
end
theorem fw {G : Gt} (hG : Ah G) (hh : G.e 168 = AN d9 ∧ G.e 169 = AN eA ∧ G.e 170 = AN eB ∧ G.e 171 = AA 1 eC ∧ G.e 69 = AA 0 JP) : Gd G 141 (AN RW) := HR.ofMz (fun _ => rfl) (rM hG hh)
def Q0 (cs : List Cf) : Prop := HN M8 cs ∧ (∀ c ∈ cs, Li c) ∧ Dc (ER cs)
theorem M4 {cs : List Cf} (h : Q0 cs) : Ga 0 (ER cs) := by
 have hl : (ER cs).hosts.length = cs.length := lm _
 have h4 := h.2.2.2.2.2.1
 refine ⟨fun x hx => ?_, ⟨by omega, by omega⟩, ⟨Int.le_refl _, by show (0 : Int) ≤ 9999; decide⟩, ⟨Int.le_refl _, by show (0 : Int) ≤ 60; decide⟩, Nat.le_refl _, fun _ q => by cases q⟩
 obtain ⟨c, hc, rfl⟩ := List.mem_map.1 hx
 exact VZ (h.2.1 c hc)
def Y8 : Ct := Ar (lc Jn.asl l0) (fun p => Q0 p.1) (fun p => Ge (ER p.1))
section
attribute [local go_sem] t6 Y5 oX Ge.eq_1 B2 AZ AY lm List.length_append List.length_cons List.length_nil List.map_append List.map_nil Nat.zero_add AT AS.opn AS.cls AS.nilb AS.renb AS.up Bool.not_false Bool.not_true List.set_set List.set_cons_zero List.set_cons_succ List.set_nil List.mem_singleton forall_eq tn List.nil_append
set_option maxHeartbeats 3200000 in
theorem gK {G : Gt} (hG : Ah G) (hh : G.e 86 = AA 0 t6 ∧ G.e 117 = AA 0 Y5 ∧ G.e 57 = AA 0 oX) : Gd G 165 (AA 1 Y8) := by
 refine OP (dp := fun n => !(Nat.beq n 100002 || Nat.beq n 100004 || Nat.beq n 27 || Nat.beq n 28)) (fn := Tryz.f165) (n := 1) rfl rfl hG ?_
 rintro ⟨cs, ⟨⟩⟩ hpre
 have hok : HN M8 cs := hpre.1
 have hcs := hpre.2.1
 have hwd := hpre.2.2
 have hmx := hok.1
 have b8 := Ap hwd
 simp -implicitDefEqProofs only [Tryz.f165, go_sem, hh, seval]
 with_reducible repeat' (first | apply ai | intro _ | ((first | apply s1 | apply s3 | apply s4) <;> intro hb <;> simp -implicitDefEqProofs only [hb, go_sem, hh, seval] <;> try simp only [qz] at hb))
 all_goals first | with_reducible rfl | omega | with_reducible assumption | (show _ = true; rfl) | contradiction | decide | skip
 refine AO (Le.nilb 1003 0 1901 false 7 rfl rfl rfl) ?_
 simp -implicitDefEqProofs only [go_sem, hh, seval]
 refine AO (Le.nilb 1003 3 1902 true 3 rfl rfl rfl) (AX ?_)
 simp -implicitDefEqProofs only [go_sem, hh, seval]
 with_reducible repeat' (first | apply ai | intro _ | ((first | apply s1 | apply s3 | apply s4) <;> intro hb <;> simp -implicitDefEqProofs only [hb, go_sem, hh, seval] <;> try simp only [qz] at hb))
 all_goals first | with_reducible rfl | omega | with_reducible assumption | (show _ = true; rfl) | contradiction | decide | skip
 refine AE [] (ι := {i : Nat // i ≤ cs.length}) (fun p => ⟨[(0, .t (.sl 3 (cs.map DZ))), (2, .pb 1002 0), (3, .pb 1003 0), (4, .t (.v (.int .i64 p.1)))], [(1002, some (.box [.nil, .t (.v (.int .i64 0)), .t (.v (.int .i64 0)), .nil])), (1003, some (.box [.h 1901, .t (.v (.int .i64 0)), .t (.v (.int .i64 0)), .h 1902])), (1902, some (.arr true 3 [])), (1901, some (.arr false 7 (((cs.map Ew).take p.1).map Af)))]⟩) (fun p => cs.length - p.1) ⟨0, by simp⟩ rfl ?_ ?_
 ·simp -implicitDefEqProofs only [go_sem, hh, seval]
  first | (simp; done) | skip
 ·rintro ⟨i, hi⟩
  try dsimp only at hi
  have hlen : ((cs.map Ew).take i).length = i := by simp; omega
  by_cases hlt : (i : Int) < cs.length
  ·have hc := hok.at (i := i) (by omega)
   have b7 := Ap (hcs _ (AC (xs := cs) (j := i) (by omega)))
   simp -implicitDefEqProofs only [hlt, b7, decide_true, tn, go_sem, hh, seval]
   with_reducible repeat' (first | apply ai | intro _ | ((first | apply s1 | apply s3 | apply s4) <;> intro hb <;> simp -implicitDefEqProofs only [hb, go_sem, hh, seval] <;> try simp only [qz] at hb))
   all_goals (try simp only [maxLen, tn] at *)
   all_goals first | with_reducible rfl | omega | with_reducible assumption | (show _ = true; rfl) | contradiction | decide | skip
   refine AO (Le.lastR 1028 rfl (.cons (.same _) (.cons (.same _) (.cons (.same _) (.cons (.same _) (.cons (.nil 5) (.cons (.nil 3) (.cons (.nil 3) .nil)))))))) ?_
   simp -implicitDefEqProofs only [go_sem, hh, seval]
   refine AO (Le.renb 1003 0 1028 1901 rfl rfl rfl rfl) (AX ?_)
   simp -implicitDefEqProofs only [go_sem, hh, seval]
   with_reducible repeat' (first | apply ai | intro _ | ((first | apply s1 | apply s3 | apply s4) <;> intro hb <;> simp -implicitDefEqProofs only [hb, go_sem, hh, seval] <;> try simp only [qz] at hb))
   all_goals first | with_reducible rfl | omega | with_reducible assumption | (show _ = true; rfl) | contradiction | decide | skip
   refine ⟨⟨i + 1, by omega⟩, by dsimp only; omega, ?_⟩
   simp -implicitDefEqProofs only [go_sem, hh, seval]
   simp only [ca (f := Ew) (show i < cs.length by omega)]
   with_reducible repeat' (first | apply ai | intro _ | ((first | apply s1 | apply s3 | apply s4) <;> intro hb <;> simp -implicitDefEqProofs only [hb, go_sem, hh, seval] <;> try simp only [qz] at hb))
   all_goals first | rfl | (simp; done) | skip
  ·have htk : (cs.map Ew).take i = cs.map Ew := List.take_of_length_le (by rw [lm]; omega)
   have hnw : (⟨cs.map Ew, 0, 0, []⟩ : Wd) = ER cs := rfl
   simp -implicitDefEqProofs only [hlt, decide_false, htk, hnw, b8, go_sem, hh, seval]
   with_reducible repeat' (first | apply ai | intro _ | ((first | apply s1 | apply s3 | apply s4) <;> intro hb <;> simp -implicitDefEqProofs only [hb, go_sem, hh, seval] <;> try simp only [qz] at hb))
   all_goals (try simp only [maxLen, tn] at *)
   all_goals first | with_reducible rfl | omega | with_reducible assumption | (show _ = true; rfl) | contradiction | decide | rfl | exact absurd hwd (by assumption) | skip
end
noncomputable def br : List Ev → Wd → Wd
 | [], w => w
 | e :: t, w => br t (C5 w e).1
theorem lj : ∀ (es : List Ev) {w : Wd} {N : Nat}, Ga N w → N + 40 * es.length ≤ 1000000 → Ga (N + 40 * es.length) (br es w)
 | [], w, N, q, _ => q
 | e :: t, w, N, q, h => by
   rw [List.length_cons] at h ⊢
   have z := lj t (PS (e := e) q (by omega)) (by omega)
   have e2 : N + 40 * (t.length + 1) = N + 40 + 40 * t.length := by omega
   rw [e2]; exact z
theorem vf {es : List Ev} {i : Nat} {w : Wd} (h : i < es.length) : br (es.drop i) w = br (es.drop (i + 1)) (C5 w (es.getD i default)).1 := by rw [AW h]; rfl
noncomputable def vg (cs : List Cf) (es : List Ev) : Wd := br (es.take 40) (ER cs)
theorem vh {cs : List Cf} (h : Q0 cs) (es : List Ev) : Ga 1600 (vg cs es) := by
 have hl : (es.take 40).length ≤ 40 := by rw [List.length_take]; omega
 exact A1 (lj (es.take 40) (M4 h) (by omega)) (by omega)
theorem Iq (w : Wd) : Ge w = .agg [.o false 7 (w.hosts.map Af), .t (.v (.int .i64 w.now)), .t (.v (.int .i64 w.marks)), .o true 3 (w.given.map An)] := rfl
def nN : Ct := Ar (lc Jn.asl (lc OZ.asl l0)) (fun p => Q0 p.1 ∧ (∀ e ∈ p.2.1, Ta e) ∧ p.2.1.length ≤ 1000000) (fun p => Ge (vg p.1 p.2.1))
section
attribute [local go_sem] Y8 RW NY QI Vg Vd Vf Ve QH Nw bT P1 P2 am Iq Fg Ek EF EE B2 lm AT FV.eq_1 AS.opn AS.cls AS.nilb AS.renb AS.up Bool.not_false Bool.not_true List.set_set List.set_cons_zero List.set_cons_succ List.set_nil List.mem_singleton forall_eq tn List.map_nil List.nil_append
set_option maxHeartbeats 3200000 in
theorem ft {G : Gt} (hG : Ah G) (hh : G.e 165 = AA 1 Y8 ∧ G.e 141 = AN RW) : Gd G 139 (AA 1 nN) := by
 refine OP (dp := fun n => !(Nat.beq n 100002 || Nat.beq n 100004)) (fn := Tryz.f139) (n := 2) rfl rfl hG ?_
 rintro ⟨cs, es, ⟨⟩⟩ hpre
 obtain ⟨hc, he, hel⟩ := hpre
 try dsimp only at hc he hel ⊢
 have hl40 : (es.take 40).length ≤ 40 := by rw [List.length_take]; omega
 have hle : (es.take 40).length ≤ es.length := by rw [List.length_take]; omega
 simp -implicitDefEqProofs only [Tryz.f139, go_sem, hh, seval]
 with_reducible repeat' (first | apply ai | intro _ | ((first | apply s1 | apply s3 | apply s4) <;> intro hb <;> simp -implicitDefEqProofs only [hb, go_sem, hh, seval] <;> try simp only [qz] at hb))
 all_goals first | with_reducible rfl | omega | with_reducible assumption | (show _ = true; rfl) | contradiction | decide | skip
 refine AO (Le.renb 1005 0 1010 1901 rfl rfl rfl rfl) ?_
 simp -implicitDefEqProofs only [go_sem, hh, seval]
 refine AO (Le.renb 1005 3 2010 1902 rfl rfl rfl rfl) (AX ?_)
 simp -implicitDefEqProofs only [go_sem, hh, seval]
 with_reducible repeat' (first | apply ai | intro _ | ((first | apply s1 | apply s3 | apply s4) <;> intro hb <;> simp -implicitDefEqProofs only [hb, go_sem, hh, seval] <;> try simp only [qz] at hb))
 all_goals first | with_reducible rfl | omega | with_reducible assumption | (show _ = true; rfl) | contradiction | decide | skip
 refine AE [] (ι := {p : Nat × Wd // p.1 ≤ (es.take 40).length ∧ Ga (40 * p.1) p.2 ∧ br ((es.take 40).drop p.1) p.2 = vg cs es}) (fun p => ⟨[(1, .t (.sl 10 (es.map C7))), (4, .pb 1004 0), (5, .pb 1005 0), (6, .t (.v (.int .i64 p.1.1)))], [(1004, some (.box [.nil, .t (.v (.int .i64 0)), .t (.v (.int .i64 0)), .nil])), (1005, some (.box [.h 1901, .t (.v (.int .i64 p.1.2.now)), .t (.v (.int .i64 p.1.2.marks)), .h 1902])), (1901, some (.arr false 7 (p.1.2.hosts.map Af))), (1902, some (.arr true 3 (p.1.2.given.map An)))]⟩) (fun p => (es.take 40).length - p.1.1) ⟨(0, ER cs), Nat.zero_le _, M4 hc, rfl⟩ rfl ?_ ?_
 ·simp -implicitDefEqProofs only [go_sem, hh, seval]
  first | (simp; done) | skip
 ·rintro ⟨⟨i, x⟩, hi, hx, hv⟩
  dsimp only at hi hx hv
  have hxl := hx.2.1
  have hlm : (es.take 40).length = min 40 es.length := List.length_take
  by_cases hlt : i < (es.take 40).length
  ·have hi1 : (i : Int) < es.length := by omega
   have hi2 : (i : Int) < 40 := by omega
   have hi3 : ((x.hosts.length : Nat) : Int) > 0 := by omega
   have hE := he _ (AC (xs := es) (j := i) (by omega))
   have hg : (es.take 40).getD i default = es.getD i default := by simp [List.getD_eq_getElem?_getD, List.getElem?_take, show i < 40 by omega]
   simp -implicitDefEqProofs only [hi1, hi2, hi3, eq_self, decide_true, decide_false, go_sem, hh, seval]
   with_reducible repeat' (first | apply ai | intro _ | ((first | apply s1 | apply s3 | apply s4) <;> intro hb <;> simp -implicitDefEqProofs only [hb, go_sem, hh, seval] <;> try simp only [qz] at hb))
   all_goals (try simp only [maxLen, tn] at *)
   all_goals first | with_reducible rfl | omega | with_reducible assumption | (show _ = true; rfl) | contradiction | decide | exact A1 hx (by omega) | exact ⟨A1 hx (by omega), hE⟩ | skip
   refine AO (Le.renb 1005 0 1033 1901 rfl rfl rfl rfl) ?_
   simp -implicitDefEqProofs only [go_sem, hh, seval]
   refine AO (Le.renb 1005 3 2033 1902 rfl rfl rfl rfl) (AX ?_)
   simp -implicitDefEqProofs only [go_sem, hh, seval]
   with_reducible repeat' (first | apply ai | intro _ | ((first | apply s1 | apply s3 | apply s4) <;> intro hb <;> simp -implicitDefEqProofs only [hb, go_sem, hh, seval] <;> try simp only [qz] at hb))
   all_goals first | with_reducible rfl | omega | with_reducible assumption | (show _ = true; rfl) | contradiction | decide | skip
   refine ⟨⟨(i + 1, (C5 x (es.getD i default)).1), by dsimp only; omega, by dsimp only; rw [Nat.mul_succ]; exact PS hx (by omega), by rw [← hg]; exact (vf hlt).symm.trans hv⟩, by dsimp only; omega, ?_⟩
   simp -implicitDefEqProofs only [go_sem, hh, seval]
   first | (simp; done) | skip
  ·rw [List.drop_of_length_le (by omega), br] at hv
   subst hv
   simp -implicitDefEqProofs only [go_sem, hh, seval]
   with_reducible repeat' (first | apply ai | intro _ | ((first | apply s1 | apply s3 | apply s4) <;> intro hb <;> simp -implicitDefEqProofs only [hb, go_sem, hh, seval] <;> try simp only [qz] at hb))
   all_goals (try simp only [maxLen, tn] at *)
   all_goals first | with_reducible rfl | omega | with_reducible assumption | (show _ = true; rfl) | contradiction | decide | exact absurd (by omega) hlt | skip
end
def Lx (w : Wd) (h n : Int) (q : Rd) : Ev × Rd :=
 if Ae q 9 = 0 ∨ Ae q 9 = 1 then (⟨1, h, 0, 0, HO (q.nx 1) [40, 40, 12, 17, 18], false, bG (q.nx 2)⟩, QC (q.nx 2))
 else if Ae q 9 = 2 ∨ Ae q 9 = 3 ∨ Ae q 9 = 4 then (⟨2, h, Ae (q.nx 1) w.hosts.length, n, HO (q.nx 2) [40, 40, 40, 3, 9, 13, 14, 15, 16, 17, 18], decide (Ae (q.nx 3) 6 = 0), XP⟩, q.nx 4)
 else if Ae q 9 = 5 then (⟨3, h, 0, n, 0, decide (Ae (q.nx 1) 2 = 0), XP⟩, q.nx 2)
 else if Ae q 9 = 6 then (⟨4, h, 0, 0, 0, false, XP⟩, q.nx 1)
 else if Ae q 9 = 7 then (⟨HO (q.nx 1) [0, 6, 5], 0, 0, HO (q.nx 2) [1, 40, 0, 41], 0, false, XP⟩, q.nx 3)
 else (⟨5, 0, 0, 1 + Ae (q.nx 1) 12, 0, false, XP⟩, q.nx 2)
def uc (r : Rd) (xs : List Im) : Int × Rd :=
 if (xs.length : Int) > 0 then (if Ae (r.nx 2) 6 > 0 then ((xs.getD (Ae (r.nx 3) xs.length).toNat default).id, r.nx 4) else (Ae (r.nx 1) 4 + 1, r.nx 3)) else (Ae (r.nx 1) 4 + 1, r.nx 2)
abbrev Qx (r : Rd) (w : Wd) : List Im := (w.hosts.getD (Ae r w.hosts.length).toNat default).spool.items
def CK (r : Rd) (w : Wd) : Ev × Rd := Lx w (Ae r w.hosts.length) (uc r (Qx r w)).1 (uc r (Qx r w)).2
section
variable {r q : Rd} {w : Wd} {h n : Int}
theorem Z9 (c : Ae q 9 = 0) : Lx w h n q = (⟨1, h, 0, 0, HO (q.nx 1) [40, 40, 12, 17, 18], false, bG (q.nx 2)⟩, QC (q.nx 2)) := if_pos (.inl c)
theorem aA (c : Ae q 9 = 1) : Lx w h n q = (⟨1, h, 0, 0, HO (q.nx 1) [40, 40, 12, 17, 18], false, bG (q.nx 2)⟩, QC (q.nx 2)) := if_pos (.inr c)
theorem Hm (c : Ae q 9 = 2 ∨ Ae q 9 = 3 ∨ Ae q 9 = 4) : Lx w h n q = (⟨2, h, Ae (q.nx 1) w.hosts.length, n, HO (q.nx 2) [40, 40, 40, 3, 9, 13, 14, 15, 16, 17, 18], decide (Ae (q.nx 3) 6 = 0), XP⟩, q.nx 4) := by unfold Lx; rw [if_neg (by omega), if_pos c]
theorem aB (c : Ae q 9 = 5) : Lx w h n q = (⟨3, h, 0, n, 0, decide (Ae (q.nx 1) 2 = 0), XP⟩, q.nx 2) := by unfold Lx; rw [if_neg (by omega), if_neg (by omega), if_pos c]
theorem aC (c : Ae q 9 = 6) : Lx w h n q = (⟨4, h, 0, 0, 0, false, XP⟩, q.nx 1) := by unfold Lx; rw [if_neg (by omega), if_neg (by omega), if_neg (by omega), if_pos c]
theorem aD (c : Ae q 9 = 7) : Lx w h n q = (⟨HO (q.nx 1) [0, 6, 5], 0, 0, HO (q.nx 2) [1, 40, 0, 41], 0, false, XP⟩, q.nx 3) := by unfold Lx; rw [if_neg (by omega), if_neg (by omega), if_neg (by omega), if_neg (by omega), if_pos c]
theorem aE (c : ¬ Ae q 9 = 0 ∧ ¬ Ae q 9 = 1 ∧ ¬ Ae q 9 = 2 ∧ ¬ Ae q 9 = 3 ∧ ¬ Ae q 9 = 4 ∧ ¬ Ae q 9 = 5 ∧ ¬ Ae q 9 = 6 ∧ ¬ Ae q 9 = 7) : Lx w h n q = (⟨5, 0, 0, 1 + Ae (q.nx 1) 12, 0, false, XP⟩, q.nx 2) := by unfold Lx; rw [if_neg (by omega), if_neg (by omega), if_neg (by omega), if_neg (by omega), if_neg (by omega)]
theorem Gn (a : ((Qx r w).length : Int) > 0) (b : Ae (r.nx 2) 6 > 0) : CK r w = Lx w (Ae r w.hosts.length) ((Qx r w).getD (Ae (r.nx 3) (Qx r w).length).toNat default).id (r.nx 4) := by unfold CK uc; rw [if_pos a, if_pos b]
theorem Gp (a : ((Qx r w).length : Int) > 0) (b : ¬ Ae (r.nx 2) 6 > 0) : CK r w = Lx w (Ae r w.hosts.length) (Ae (r.nx 1) 4 + 1) (r.nx 3) := by unfold CK uc; rw [if_pos a, if_neg b]
theorem Gq (a : ¬ ((Qx r w).length : Int) > 0) : CK r w = Lx w (Ae r w.hosts.length) (Ae (r.nx 1) 4 + 1) (r.nx 2) := by unfold CK uc; rw [if_neg a]
end
theorem Kz : KB XP := ⟨⟨by show (0 : Nat) ≤ 1048576; decide, by show (0 : Nat) ≤ 1048576; decide⟩, ⟨by show ((0 : Nat) : Int) ≤ 1048576; decide, fun _ q => by cases q⟩, ⟨by show ((0 : Nat) : Int) ≤ 1048576; decide, fun _ q => by cases q⟩⟩
theorem R1 {w : Wd} {h n : Int} {q : Rd} (h0 : 0 ≤ q.p) (h1 : q.p ≤ 999990000) : Ta (Lx w h n q).1 ∧ (Lx w h n q).2.b = q.b ∧ q.p ≤ (Lx w h n q).2.p ∧ (Lx w h n q).2.p ≤ q.p + 30 := by
 have hm := lM (r := q.nx 2) (by rw [AK]; omega) (by rw [AK]; omega)
 rw [AK, Bi] at hm
 have hk := Nt (r := q.nx 2) (by rw [AK]; omega) (by rw [AK]; omega)
 have g1 : 0 ≤ HO (q.nx 1) [40, 40, 12, 17, 18] ∧ HO (q.nx 1) [40, 40, 12, 17, 18] ≤ 1000 := by
  have z := Jz (r := q.nx 1) (l := [40, 40, 12, 17, 18]) (by rw [AK]; omega) (by rw [AK]; omega) (by decide)
  simp only [List.mem_cons, List.not_mem_nil, or_false] at z
  omega
 have g2 : 0 ≤ HO (q.nx 2) [40, 40, 40, 3, 9, 13, 14, 15, 16, 17, 18] ∧ HO (q.nx 2) [40, 40, 40, 3, 9, 13, 14, 15, 16, 17, 18] ≤ 1000 := by
  have z := Jz (r := q.nx 2) (l := [40, 40, 40, 3, 9, 13, 14, 15, 16, 17, 18]) (by rw [AK]; omega) (by rw [AK]; omega) (by decide)
  simp only [List.mem_cons, List.not_mem_nil, or_false] at z
  omega
 unfold Lx
 split
 ·exact ⟨⟨Jp hk, g1⟩, hm.1, by dsimp only; omega, by dsimp only; omega⟩
 ·split
  ·exact ⟨⟨Kz, g2⟩, Bi .., by dsimp only; rw [AK]; omega, by dsimp only; rw [AK]; omega⟩
  ·split
   ·exact ⟨⟨Kz, by show (0 : Int) ≤ 0; decide, by show (0 : Int) ≤ 1000; decide⟩, Bi .., by dsimp only; rw [AK]; omega, by dsimp only; rw [AK]; omega⟩
   ·split
    ·exact ⟨⟨Kz, by show (0 : Int) ≤ 0; decide, by show (0 : Int) ≤ 1000; decide⟩, Bi .., by dsimp only; rw [AK]; omega, by dsimp only; rw [AK]; omega⟩
    ·split
     ·exact ⟨⟨Kz, by show (0 : Int) ≤ 0; decide, by show (0 : Int) ≤ 1000; decide⟩, Bi .., by dsimp only; rw [AK]; omega, by dsimp only; rw [AK]; omega⟩
     ·exact ⟨⟨Kz, by show (0 : Int) ≤ 0; decide, by show (0 : Int) ≤ 1000; decide⟩, Bi .., by dsimp only; rw [AK]; omega, by dsimp only; rw [AK]; omega⟩
theorem Z8 {r : Rd} {w : Wd} (h0 : 0 ≤ r.p) (h1 : r.p ≤ 999980000) : Ta (CK r w).1 ∧ (CK r w).2.b = r.b ∧ r.p ≤ (CK r w).2.p ∧ (CK r w).2.p ≤ r.p + 34 := by
 by_cases a0 : ((Qx r w).length : Int) > 0
 ·by_cases a1 : Ae (r.nx 2) 6 > 0
  ·rw [Gn a0 a1]
   have z := R1 (w := w) (h := Ae r w.hosts.length) (n := ((Qx r w).getD (Ae (r.nx 3) (Qx r w).length).toNat default).id) (q := r.nx 4) (by rw [AK]; omega) (by rw [AK]; omega)
   rw [AK, Bi] at z
   exact ⟨z.1, z.2.1, by omega, by omega⟩
  ·rw [Gp a0 a1]
   have z := R1 (w := w) (h := Ae r w.hosts.length) (n := Ae (r.nx 1) 4 + 1) (q := r.nx 3) (by rw [AK]; omega) (by rw [AK]; omega)
   rw [AK, Bi] at z
   exact ⟨z.1, z.2.1, by omega, by omega⟩
 ·rw [Gq a0]
  have z := R1 (w := w) (h := Ae r w.hosts.length) (n := Ae (r.nx 1) 4 + 1) (q := r.nx 2) (by rw [AK]; omega) (by rw [AK]; omega)
  rw [AK, Bi] at z
  exact ⟨z.1, z.2.1, by omega, by omega⟩
def nt : Mt := HB (lc EU (lc Qv.ag l0)) (fun p => (0 ≤ p.1.p ∧ p.1.p ≤ 999970000) ∧ 1 ≤ p.2.1.hosts.length ∧ p.2.1.hosts.length ≤ 1000) (fun p => ([EU.enc (CK p.1 p.2.1).2, Qv.ag.enc p.2.1], OZ.ag.enc (CK p.1 p.2.1).1))
section
attribute [local go_sem] GK Xt Wj AK Bi A5 A7 BD BQ CE BP BR lm List.length_append List.length_cons List.length_nil List.map_append List.map_nil Nat.zero_add List.nil_append AS.opn AS.cls AS.nilb AS.renb AS.up Bool.not_false Bool.not_true List.set_set List.set_cons_zero List.set_cons_succ List.set_nil List.mem_singleton forall_eq Fj G7 G8 G9 Du Dv
set_option maxHeartbeats 6400000 in
theorem gc {G : Gt} (hG : Ah G) (hh : G.e 53 = AN GK ∧ G.e 31 = AN Xt ∧ G.e 110 = AN Wj) : Gd G 182 (AN nt) := by
 refine JS (dp := fun _ => true) (fn := Tryz.f182) (n := 2) rfl rfl hG ?_
 rintro ⟨r, w, ⟨⟩⟩ hpre
 obtain ⟨⟨h1, h2⟩, hl1, hl2⟩ := hpre
 try dsimp only at h1 h2 hl1 hl2 ⊢
 have hb := Bn (r := r) (n := w.hosts.length) h1 (by omega)
 have hb3 : ((Qx r w).length : Int) > 0 → 0 ≤ Ae (r.nx 3) (Qx r w).length ∧ Ae (r.nx 3) (Qx r w).length < (Qx r w).length := fun q => by
  have z := Bn (r := r.nx 3) (n := (Qx r w).length) (by rw [AK]; omega) (by rw [AK]; omega)
  exact ⟨z.1, z.2 (by omega)⟩
 have ht : ∀ k : Int, 0 ≤ k → k ≤ 9 → 0 ≤ Ae (r.nx k) 12 ∧ Ae (r.nx k) 12 < 12 := fun k a b => by
  have z := Bn (r := r.nx k) (n := 12) (by rw [AK]; omega) (by rw [AK]; omega)
  exact ⟨z.1, z.2 (by decide)⟩
 have ht3 := ht 3 (by decide) (by decide)
 have ht4 := ht 4 (by decide) (by decide)
 have ht5 := ht 5 (by decide) (by decide)
 have hb1 := Bn (r := r.nx 1) (n := 4) (by rw [AK]; omega) (by rw [AK]; omega)
 refine BJ (((Qx r w).length : Int) > 0) (fun a0 => BJ (Ae (r.nx 2) 6 > 0) (fun a1 => BJ (Ae (r.nx 4) 9 = 0) (fun c0 => have hx := And.intro ((Gn a0 a1).trans (Z9 c0) : CK r w = _) (And.intro a0 (And.intro a1 c0)); ?_) (fun c0 => BJ (Ae (r.nx 4) 9 = 1) (fun c1 => have hx := And.intro ((Gn a0 a1).trans (aA c1) : CK r w = _) (And.intro a0 (And.intro a1 (And.intro c0 c1))); ?_) (fun c1 => BJ (Ae (r.nx 4) 9 = 2) (fun c2 => have hx := And.intro ((Gn a0 a1).trans (Hm (.inl c2)) : CK r w = _) (And.intro a0 (And.intro a1 (And.intro c0 (And.intro c1 c2)))); ?_) (fun c2 => BJ (Ae (r.nx 4) 9 = 3) (fun c3 => have hx := And.intro ((Gn a0 a1).trans (Hm (.inr (.inl c3))) : CK r w = _) (And.intro a0 (And.intro a1 (And.intro c0 (And.intro c1 (And.intro c2 c3))))); ?_) (fun c3 => BJ (Ae (r.nx 4) 9 = 4) (fun c4 => have hx := And.intro ((Gn a0 a1).trans (Hm (.inr (.inr c4))) : CK r w = _) (And.intro a0 (And.intro a1 (And.intro c0 (And.intro c1 (And.intro c2 (And.intro c3 c4)))))); ?_) (fun c4 => BJ (Ae (r.nx 4) 9 = 5) (fun c5 => have hx := And.intro ((Gn a0 a1).trans (aB c5) : CK r w = _) (And.intro a0 (And.intro a1 (And.intro c0 (And.intro c1 (And.intro c2 (And.intro c3 (And.intro c4 c5))))))); ?_) (fun c5 => BJ (Ae (r.nx 4) 9 = 6) (fun c6 => have hx := And.intro ((Gn a0 a1).trans (aC c6) : CK r w = _) (And.intro a0 (And.intro a1 (And.intro c0 (And.intro c1 (And.intro c2 (And.intro c3 (And.intro c4 (And.intro c5 c6)))))))); ?_) (fun c6 => BJ (Ae (r.nx 4) 9 = 7) (fun c7 => have hx := And.intro ((Gn a0 a1).trans (aD c7) : CK r w = _) (And.intro a0 (And.intro a1 (And.intro c0 (And.intro c1 (And.intro c2 (And.intro c3 (And.intro c4 (And.intro c5 (And.intro c6 c7))))))))); ?_) (fun c7 => have hx := And.intro ((Gn a0 a1).trans (aE ⟨c0, c1, c2, c3, c4, c5, c6, c7⟩) : CK r w = _) (And.intro a0 (And.intro a1 (And.intro c0 (And.intro c1 (And.intro c2 (And.intro c3 (And.intro c4 (And.intro c5 (And.intro c6 c7))))))))); ?_))))))))) (fun a1 => BJ (Ae (r.nx 3) 9 = 0) (fun c0 => have hx := And.intro ((Gp a0 a1).trans (Z9 c0) : CK r w = _) (And.intro a0 (And.intro a1 c0)); ?_) (fun c0 => BJ (Ae (r.nx 3) 9 = 1) (fun c1 => have hx := And.intro ((Gp a0 a1).trans (aA c1) : CK r w = _) (And.intro a0 (And.intro a1 (And.intro c0 c1))); ?_) (fun c1 => BJ (Ae (r.nx 3) 9 = 2) (fun c2 => have hx := And.intro ((Gp a0 a1).trans (Hm (.inl c2)) : CK r w = _) (And.intro a0 (And.intro a1 (And.intro c0 (And.intro c1 c2)))); ?_) (fun c2 => BJ (Ae (r.nx 3) 9 = 3) (fun c3 => have hx := And.intro ((Gp a0 a1).trans (Hm (.inr (.inl c3))) : CK r w = _) (And.intro a0 (And.intro a1 (And.intro c0 (And.intro c1 (And.intro c2 c3))))); ?_) (fun c3 => BJ (Ae (r.nx 3) 9 = 4) (fun c4 => have hx := And.intro ((Gp a0 a1).trans (Hm (.inr (.inr c4))) : CK r w = _) (And.intro a0 (And.intro a1 (And.intro c0 (And.intro c1 (And.intro c2 (And.intro c3 c4)))))); ?_) (fun c4 => BJ (Ae (r.nx 3) 9 = 5) (fun c5 => have hx := And.intro ((Gp a0 a1).trans (aB c5) : CK r w = _) (And.intro a0 (And.intro a1 (And.intro c0 (And.intro c1 (And.intro c2 (And.intro c3 (And.intro c4 c5))))))); ?_) (fun c5 => BJ (Ae (r.nx 3) 9 = 6) (fun c6 => have hx := And.intro ((Gp a0 a1).trans (aC c6) : CK r w = _) (And.intro a0 (And.intro a1 (And.intro c0 (And.intro c1 (And.intro c2 (And.intro c3 (And.intro c4 (And.intro c5 c6)))))))); ?_) (fun c6 => BJ (Ae (r.nx 3) 9 = 7) (fun c7 => have hx := And.intro ((Gp a0 a1).trans (aD c7) : CK r w = _) (And.intro a0 (And.intro a1 (And.intro c0 (And.intro c1 (And.intro c2 (And.intro c3 (And.intro c4 (And.intro c5 (And.intro c6 c7))))))))); ?_) (fun c7 => have hx := And.intro ((Gp a0 a1).trans (aE ⟨c0, c1, c2, c3, c4, c5, c6, c7⟩) : CK r w = _) (And.intro a0 (And.intro a1 (And.intro c0 (And.intro c1 (And.intro c2 (And.intro c3 (And.intro c4 (And.intro c5 (And.intro c6 c7))))))))); ?_)))))))))) (fun a0 => BJ (Ae (r.nx 2) 9 = 0) (fun c0 => have hx := And.intro ((Gq a0).trans (Z9 c0) : CK r w = _) (And.intro a0 c0); ?_) (fun c0 => BJ (Ae (r.nx 2) 9 = 1) (fun c1 => have hx := And.intro ((Gq a0).trans (aA c1) : CK r w = _) (And.intro a0 (And.intro c0 c1)); ?_) (fun c1 => BJ (Ae (r.nx 2) 9 = 2) (fun c2 => have hx := And.intro ((Gq a0).trans (Hm (.inl c2)) : CK r w = _) (And.intro a0 (And.intro c0 (And.intro c1 c2))); ?_) (fun c2 => BJ (Ae (r.nx 2) 9 = 3) (fun c3 => have hx := And.intro ((Gq a0).trans (Hm (.inr (.inl c3))) : CK r w = _) (And.intro a0 (And.intro c0 (And.intro c1 (And.intro c2 c3)))); ?_) (fun c3 => BJ (Ae (r.nx 2) 9 = 4) (fun c4 => have hx := And.intro ((Gq a0).trans (Hm (.inr (.inr c4))) : CK r w = _) (And.intro a0 (And.intro c0 (And.intro c1 (And.intro c2 (And.intro c3 c4))))); ?_) (fun c4 => BJ (Ae (r.nx 2) 9 = 5) (fun c5 => have hx := And.intro ((Gq a0).trans (aB c5) : CK r w = _) (And.intro a0 (And.intro c0 (And.intro c1 (And.intro c2 (And.intro c3 (And.intro c4 c5)))))); ?_) (fun c5 => BJ (Ae (r.nx 2) 9 = 6) (fun c6 => have hx := And.intro ((Gq a0).trans (aC c6) : CK r w = _) (And.intro a0 (And.intro c0 (And.intro c1 (And.intro c2 (And.intro c3 (And.intro c4 (And.intro c5 c6))))))); ?_) (fun c6 => BJ (Ae (r.nx 2) 9 = 7) (fun c7 => have hx := And.intro ((Gq a0).trans (aD c7) : CK r w = _) (And.intro a0 (And.intro c0 (And.intro c1 (And.intro c2 (And.intro c3 (And.intro c4 (And.intro c5 (And.intro c6 c7)))))))); ?_) (fun c7 => have hx := And.intro ((Gq a0).trans (aE ⟨c0, c1, c2, c3, c4, c5, c6, c7⟩) : CK r w = _) (And.intro a0 (And.intro c0 (And.intro c1 (And.intro c2 (And.intro c3 (And.intro c4 (And.intro c5 (And.intro c6 c7)))))))); ?_)))))))))
 all_goals
  try rw [hx.1]
  simp -implicitDefEqProofs only [Tryz.f182, hx, XP, eq_self, decide_true, decide_false, Int.reduceEq, go_sem, hh, Int.reduceAdd, seval]
  with_reducible repeat' (first | apply ai | intro _ | ((first | apply s1 | apply s3 | apply s4) <;> intro hb <;> simp -implicitDefEqProofs only [hb, go_sem, hh, Int.reduceAdd, seval] <;> try simp only [qz] at hb))
  all_goals (try simp only [maxLen, tn, AK, Bi] at *)
  all_goals first | rfl | omega | decide | with_reducible assumption | (show Aa _ = true; rfl) | exact Ht (by assumption) | contradiction | exact (hb3 a0).1 | exact (hb3 a0).2 | (rename_i q; simp only [List.mem_cons, List.not_mem_nil, or_false] at q ⊢; omega) | skip
end
theorem KJ {N : Nat} {w : Wd} (q : Ga N w) (h : N ≤ 1048576) : GY w := ⟨⟨by have := q.2.1.2; omega, fun x hx => EV (q.1 x hx).1 (q.1 x hx).2 h⟩, ⟨by have := q.2.2.2.2.1; omega, q.2.2.2.2.2⟩⟩
abbrev YA := Rd × Wd × List Ev
open Classical in
noncomputable def aG (x : YA) : YA :=
 if (C5 x.2.1 (CK x.1 x.2.1).1).2 = true then ((CK x.1 x.2.1).2, (C5 x.2.1 (CK x.1 x.2.1).1).1, x.2.2 ++ [(CK x.1 x.2.1).1])
 else if Ae (CK x.1 x.2.1).2 6 > 0 then ((CK x.1 x.2.1).2.nx 1, x.2.1, x.2.2)
 else ((CK x.1 x.2.1).2.nx 1, (C5 x.2.1 (CK x.1 x.2.1).1).1, x.2.2 ++ [(CK x.1 x.2.1).1])
theorem ko {r : Rd} {w : Wd} {l : List Ev} (h : (C5 w (CK r w).1).2 = true) : aG (r, w, l) = ((CK r w).2, (C5 w (CK r w).1).1, l ++ [(CK r w).1]) := if_pos h
theorem kn {r : Rd} {w : Wd} {l : List Ev} (h : (C5 w (CK r w).1).2 = false) (c : Ae (CK r w).2 6 > 0) : aG (r, w, l) = ((CK r w).2.nx 1, w, l) := by
 unfold aG; rw [if_neg (by show ¬ (C5 w (CK r w).1).2 = true; rw [h]; exact Bool.false_ne_true), if_pos c]
theorem km {r : Rd} {w : Wd} {l : List Ev} (h : (C5 w (CK r w).1).2 = false) (c : ¬ Ae (CK r w).2 6 > 0) : aG (r, w, l) = ((CK r w).2.nx 1, (C5 w (CK r w).1).1, l ++ [(CK r w).1]) := by
 unfold aG; rw [if_neg (by show ¬ (C5 w (CK r w).1).2 = true; rw [h]; exact Bool.false_ne_true), if_neg c]
noncomputable def Ni : Nat → YA → YA
 | 0, x => x
 | n + 1, x => Ni n (aG x)
def sn (k : Nat) (p : Int) (x : YA) : Prop := Ga (40 * k) x.2.1 ∧ p ≤ x.1.p ∧ x.1.p ≤ p + 40 * k ∧ x.2.2.length ≤ k ∧ ∀ e ∈ x.2.2, Ta e
theorem Uv {k : Nat} {p : Int} {x : YA} (q : sn k p x) (hk : k ≤ 1000) (h0 : 0 ≤ p) (h1 : p ≤ 999900000) : sn (k + 1) p (aG x) := by
 obtain ⟨r, w, l⟩ := x
 obtain ⟨q1, q2, q3, q4, q5⟩ := q
 dsimp only at q1 q2 q3 q4 q5
 obtain ⟨z1, z2, z3, z4⟩ := Z8 (r := r) (w := w) (by omega) (by omega)
 have zw : Ga (40 * (k + 1)) (C5 w (CK r w).1).1 := by rw [Nat.mul_succ]; exact PS q1 (by omega)
 have zl : ∀ e ∈ l ++ [(CK r w).1], Ta e := fun e he => by
  rcases List.mem_append.1 he with he | he
  ·exact q5 e he
  ·rw [List.mem_singleton] at he; subst he; exact z1
 have zn : (l ++ [(CK r w).1]).length ≤ k + 1 := by rw [List.length_append]; show l.length + 1 ≤ k + 1; omega
 cases hd : (C5 w (CK r w).1).2
 ·by_cases c : Ae (CK r w).2 6 > 0
  ·rw [kn hd c]; exact ⟨A1 q1 (by omega), by dsimp only; rw [AK]; omega, by dsimp only; rw [AK]; omega, by dsimp only; omega, q5⟩
  ·rw [km hd c]; exact ⟨zw, by dsimp only; rw [AK]; omega, by dsimp only; rw [AK]; omega, zn, zl⟩
 ·rw [ko hd]; exact ⟨zw, by dsimp only; omega, by dsimp only; omega, zn, zl⟩
theorem aH {p : Int} (h0 : 0 ≤ p) (h1 : p ≤ 999900000) : ∀ (n : Nat) {k : Nat} {x : YA}, sn k p x → k + n ≤ 1000 → sn (k + n) p (Ni n x)
 | 0, k, x, q, _ => q
 | n + 1, k, x, q, h => by
   have e : k + (n + 1) = k + 1 + n := by omega
   rw [e]
   exact aH h0 h1 n (Uv q (by omega) h0 h1) (by omega)
theorem R3 {n i : Nat} {x : YA} (h : i < n) : Ni (n - i) x = Ni (n - (i + 1)) (aG x) := by
 have e : n - i = (n - (i + 1)) + 1 := by omega
 rw [e]; rfl
theorem kk {r : Rd} {cs : List Cf} (h : Q0 cs) : sn 0 r.p (r, ER cs, []) := ⟨M4 h, Int.le_refl _, by dsimp only; omega, Nat.le_refl _, fun _ q => by cases q⟩
noncomputable def Pn (r : Rd) (cs : List Cf) (m : Int) : YA := Ni m.toNat (r, ER cs, [])
theorem Hj (r : Rd) : Q0 (DN r) := by
 have e : FE (Ae r 5) = DN r := rfl
 obtain ⟨h1, h2⟩ := Ub (Ae r 5)
 obtain ⟨_, h3, h4⟩ := NU (Ae r 5)
 have h5 := eL (Ae r 5)
 rw [e] at h1 h4 h5
 exact ⟨⟨by omega, fun c hc => S5 (h1 c hc)⟩, h1, h5⟩
def nf : Mt := HB (lc EU (lc Jn.asl (lc BK l0))) (fun p => (0 ≤ p.1.p ∧ p.1.p ≤ 999800000) ∧ Q0 p.2.1 ∧ 0 ≤ p.2.2.1 ∧ p.2.2.1 ≤ 1000) (fun p => ([EU.enc (Pn p.1 p.2.1 p.2.2.1).1, Jn.asl.enc p.2.1, BK.enc p.2.2.1], .o false 10 ((Pn p.1 p.2.1 p.2.2.1).2.2.map C7)))
section
attribute [local go_sem] GK Y8 nt RS RW NY QI Vg Vd Vf Ve QH Nw bT P1 P2 am AK Bi A5 A7 BD BQ CE BP BR lm List.length_append List.length_cons List.length_nil List.map_append List.map_nil Nat.zero_add List.nil_append AS.opn AS.cls AS.nilb AS.renb AS.up Bool.not_false Bool.not_true List.set_set List.set_cons_zero List.set_cons_succ List.set_nil List.mem_singleton forall_eq Iq Fg Ek EF EE FV.eq_1 B2 AT
set_option maxHeartbeats 6400000 in
theorem gJ {G : Gt} (hG : Ah G) (hh : G.e 53 = AN GK ∧ G.e 165 = AA 1 Y8 ∧ G.e 182 = AN nt ∧ G.e 102 = AA 1 RS ∧ G.e 141 = AN RW) : Gd G 164 (AN nf) := by
 refine JS (dp := fun n => !(Nat.beq n 100002 || Nat.beq n 100005 || Nat.beq n 15 || Nat.beq n 41 || Nat.beq n 42)) (fn := Tryz.f164) (n := 3) rfl rfl hG ?_
 rintro ⟨r, cs, m, ⟨⟩⟩ hpre
 obtain ⟨⟨h1, h2⟩, hc, hm0, hm1⟩ := hpre
 try dsimp only at h1 h2 hc hm0 hm1 ⊢
 simp -implicitDefEqProofs only [Tryz.f164, go_sem, hh, Int.reduceAdd, seval]
 with_reducible repeat' (first | apply ai | intro _ | ((first | apply s1 | apply s3 | apply s4) <;> intro hb <;> simp -implicitDefEqProofs only [hb, go_sem, hh, Int.reduceAdd, seval] <;> try simp only [qz] at hb))
 all_goals first | with_reducible rfl | omega | with_reducible assumption | (show _ = true; rfl) | contradiction | decide | skip
 refine AO (Le.frzL [1014, 2014]) (AX ?_)
 simp -implicitDefEqProofs only [go_sem, hh, Int.reduceAdd, seval]
 with_reducible repeat' (first | apply ai | intro _ | ((first | apply s1 | apply s3 | apply s4) <;> intro hb <;> simp -implicitDefEqProofs only [hb, go_sem, hh, Int.reduceAdd, seval] <;> try simp only [qz] at hb))
 all_goals first | with_reducible rfl | omega | with_reducible assumption | (show _ = true; rfl) | contradiction | decide | skip
 refine AE [(8, 908, false, 10)] (ι := {p : Nat × YA // p.1 ≤ m.toNat ∧ sn p.1 r.p p.2 ∧ Ni (m.toNat - p.1) p.2 = Pn r cs m}) (fun p => ⟨[(0, .pb 1900 0), (2, .t (.v (.int .i64 m))), (7, .pb 1007 0), (8, .h 908), (9, .t (.v (.int .i64 p.1.1)))], [(1900, some (.box [.t (.sl 1 (p.1.2.1.b.map CT)), .t (.v (.int .i64 p.1.2.1.p))])), (1007, some (.box [.t (.sl 7 (p.1.2.2.1.hosts.map Af)), .t (.v (.int .i64 p.1.2.2.1.now)), .t (.v (.int .i64 p.1.2.2.1.marks)), .t (.sl 3 (p.1.2.2.1.given.map An))])), (908, some (.arr false 10 (p.1.2.2.2.map C7)))]⟩) (fun p => m.toNat - p.1.1) ⟨(0, (r, ER cs, [])), Nat.zero_le _, kk hc, rfl⟩ rfl ?_ ?_
 ·simp -implicitDefEqProofs only [go_sem, hh, Int.reduceAdd, seval]
  first | (simp; done) | skip
 ·rintro ⟨⟨i, q, w, l⟩, hi, hx, hv⟩
  dsimp only at hi hx hv
  have hxw := A1 (M := 1000000) hx.1 (by omega)
  have hxl : 1 ≤ w.hosts.length ∧ w.hosts.length ≤ 4 := hx.1.2.1
  have hxo := KJ hx.1 (by omega)
  have hxp : r.p ≤ q.p ∧ q.p ≤ r.p + 40 * i := ⟨hx.2.1, hx.2.2.1⟩
  have hxn : l.length ≤ i := hx.2.2.2.1
  obtain ⟨z1, z2, z3, z4⟩ := Z8 (r := q) (w := w) (by omega) (by omega)
  by_cases hlt : i < m.toNat
  ·have hlt2 : (i : Int) < m := by omega
   cases hd : (C5 w (CK q w).1).2
   ·by_cases hp : Ae (CK q w).2 6 > 0
    ·simp -implicitDefEqProofs only [hlt2, hd, hp, Bool.not_false, Bool.not_true, eq_self, decide_true, decide_false, go_sem, hh, Int.reduceAdd, seval]
     with_reducible repeat' (first | apply ai | intro _ | ((first | apply s1 | apply s3 | apply s4) <;> intro hb <;> simp -implicitDefEqProofs only [hb, go_sem, hh, Int.reduceAdd, seval] <;> try simp only [qz] at hb))
     all_goals (try simp only [maxLen, tn, lm] at *)
     all_goals first | with_reducible rfl | omega | with_reducible assumption | (show _ = true; rfl) | contradiction | decide | exact ⟨hxw, z1⟩ | skip
     refine AX ?_
     simp -implicitDefEqProofs only [go_sem, hh, Int.reduceAdd, seval]
     with_reducible repeat' (first | apply ai | intro _ | ((first | apply s1 | apply s3 | apply s4) <;> intro hb <;> simp -implicitDefEqProofs only [hb, go_sem, hh, Int.reduceAdd, seval] <;> try simp only [qz] at hb))
     all_goals first | with_reducible rfl | omega | with_reducible assumption | (show _ = true; rfl) | contradiction | decide | skip
     refine ⟨⟨(i + 1, aG (q, w, l)), by dsimp only; omega, Uv hx (by omega) h1 (by omega), (R3 hlt).symm.trans hv⟩, by dsimp only; omega, ?_⟩
     simp -implicitDefEqProofs only [go_sem, hh, Int.reduceAdd, seval]
     simp only [kn hd hp, AK, Bi]
     first | (simp; done) | skip
    ·simp -implicitDefEqProofs only [hlt2, hd, hp, Bool.not_false, Bool.not_true, eq_self, decide_true, decide_false, go_sem, hh, Int.reduceAdd, seval]
     with_reducible repeat' (first | apply ai | intro _ | ((first | apply s1 | apply s3 | apply s4) <;> intro hb <;> simp -implicitDefEqProofs only [hb, go_sem, hh, Int.reduceAdd, seval] <;> try simp only [qz] at hb))
     all_goals (try simp only [maxLen, tn, lm] at *)
     all_goals first | with_reducible rfl | omega | with_reducible assumption | (show _ = true; rfl) | contradiction | decide | exact ⟨hxw, z1⟩ | skip
     refine AO (Le.frzL [1028, 2028]) (AX ?_)
     simp -implicitDefEqProofs only [go_sem, hh, Int.reduceAdd, seval]
     with_reducible repeat' (first | apply ai | intro _ | ((first | apply s1 | apply s3 | apply s4) <;> intro hb <;> simp -implicitDefEqProofs only [hb, go_sem, hh, Int.reduceAdd, seval] <;> try simp only [qz] at hb))
     all_goals first | with_reducible rfl | omega | with_reducible assumption | (show _ = true; rfl) | contradiction | decide | skip
     refine ⟨⟨(i + 1, aG (q, w, l)), by dsimp only; omega, Uv hx (by omega) h1 (by omega), (R3 hlt).symm.trans hv⟩, by dsimp only; omega, ?_⟩
     simp -implicitDefEqProofs only [go_sem, hh, Int.reduceAdd, seval]
     simp only [km hd hp, AK, Bi]
     first | (simp [C7]; done) | skip
   ·simp -implicitDefEqProofs only [hlt2, hd, Bool.not_false, Bool.not_true, eq_self, decide_true, decide_false, go_sem, hh, Int.reduceAdd, seval]
    with_reducible repeat' (first | apply ai | intro _ | ((first | apply s1 | apply s3 | apply s4) <;> intro hb <;> simp -implicitDefEqProofs only [hb, go_sem, hh, Int.reduceAdd, seval] <;> try simp only [qz] at hb))
    all_goals (try simp only [maxLen, tn, lm] at *)
    all_goals first | with_reducible rfl | omega | with_reducible assumption | (show _ = true; rfl) | contradiction | decide | exact ⟨hxw, z1⟩ | skip
    refine AO (Le.frzL [1028, 2028]) (AX ?_)
    simp -implicitDefEqProofs only [go_sem, hh, Int.reduceAdd, seval]
    with_reducible repeat' (first | apply ai | intro _ | ((first | apply s1 | apply s3 | apply s4) <;> intro hb <;> simp -implicitDefEqProofs only [hb, go_sem, hh, Int.reduceAdd, seval] <;> try simp only [qz] at hb))
    all_goals first | with_reducible rfl | omega | with_reducible assumption | (show _ = true; rfl) | contradiction | decide | skip
    refine ⟨⟨(i + 1, aG (q, w, l)), by dsimp only; omega, Uv hx (by omega) h1 (by omega), (R3 hlt).symm.trans hv⟩, by dsimp only; omega, ?_⟩
    simp -implicitDefEqProofs only [go_sem, hh, Int.reduceAdd, seval]
    simp only [ko hd, AK, Bi]
    first | (simp [C7]; done) | skip
  ·have hlt2 : ¬ (i : Int) < m := by omega
   have e0 : m.toNat - i = 0 := by omega
   rw [e0, Ni] at hv
   obtain ⟨rfl, rfl, rfl⟩ : q = (Pn r cs m).1 ∧ w = (Pn r cs m).2.1 ∧ l = (Pn r cs m).2.2 := by rw [← hv]; exact ⟨rfl, rfl, rfl⟩
   simp -implicitDefEqProofs only [hlt2, eq_self, decide_true, decide_false, go_sem, hh, Int.reduceAdd, seval]
   with_reducible repeat' (first | apply ai | intro _ | ((first | apply s1 | apply s3 | apply s4) <;> intro hb <;> simp -implicitDefEqProofs only [hb, go_sem, hh, Int.reduceAdd, seval] <;> try simp only [qz] at hb))
   all_goals (try simp only [maxLen, tn] at *)
   all_goals first | with_reducible rfl | omega | with_reducible assumption | (show _ = true; rfl) | contradiction | decide | skip
end
noncomputable def HK (r : Rd) : YA := Pn (r.nx 2) (DN r) (HO (r.nx 1) [0, 12, 30, 60])
theorem vi {r : Rd} (h : 0 ≤ r.p) (h1 : r.p ≤ 999999900) : 0 ≤ HO (r.nx 1) [0, 12, 30, 60] ∧ HO (r.nx 1) [0, 12, 30, 60] ≤ 60 := by
 have z := Jz (r := r.nx 1) (l := [0, 12, 30, 60]) (by rw [AK]; omega) (by rw [AK]; omega) (by decide)
 simp only [List.mem_cons, List.not_mem_nil, or_false] at z
 omega
theorem Vv {r : Rd} (h : 0 ≤ r.p) (h1 : r.p ≤ 999800000) : (∀ e ∈ (HK r).2.2, Ta e) ∧ (HK r).2.2.length ≤ 60 ∧ r.p ≤ (HK r).1.p ∧ (HK r).1.p ≤ r.p + 2500 := by
 have hm := vi h (by omega)
 have z := aH (p := (r.nx 2).p) (by rw [AK]; omega) (by rw [AK]; omega) (HO (r.nx 1) [0, 12, 30, 60]).toNat (kk (r := r.nx 2) (Hj r)) (by omega)
 obtain ⟨_, z2, z3, z4, z5⟩ := z
 rw [AK] at z2 z3
 exact ⟨z5, Nat.le_trans z4 (by omega), by show r.p ≤ (Ni _ _).1.p; omega, by show (Ni _ _).1.p ≤ _; omega⟩
theorem pf (r : Rd) : Pn (r.nx 2) (DN r) (HO (r.nx 1) [0, 12, 30, 60]) = HK r := rfl
noncomputable def C3 (r : Rd) : Wd := vg (DN r) (HK r).2.2
theorem wx (r : Rd) : vg (DN r) (HK r).2.2 = C3 r := rfl
theorem Lc (r : Rd) : Ga 1600 (C3 r) := vh (Hj r) _
def nM : Mt := HB (lc EU l0) (fun p => 0 ≤ p.1.p ∧ p.1.p ≤ 999700000) (fun p => ([EU.enc (HK p.1).1], .tup [.t (.sl 3 ((DN p.1).map DZ)), .o false 10 ((HK p.1).2.2.map C7)]))
section
attribute [local go_sem] Xt Y7 nf AK Bi A5 A7 BD BQ CE BP BR lm List.length_append List.length_cons List.length_nil List.map_append List.map_nil Nat.zero_add List.nil_append AS.opn AS.cls AS.nilb AS.renb AS.up Bool.not_false Bool.not_true List.set_set List.set_cons_zero List.set_cons_succ List.set_nil List.mem_singleton forall_eq B2 Fj pf G7 G8 G9 Du Dv
set_option maxHeartbeats 1600000 in
theorem fq {G : Gt} (hG : Ah G) (hh : G.e 31 = AN Xt ∧ G.e 151 = AN Y7 ∧ G.e 164 = AN nf) : Gd G 138 (AN nM) := by
 refine JS (dp := fun n => !(Nat.beq n 100002)) (fn := Tryz.f138) (n := 1) rfl rfl hG ?_
 rintro ⟨r, ⟨⟩⟩ hpre
 obtain ⟨h1, h2⟩ := hpre
 try dsimp only at h1 h2 ⊢
 have hm := vi h1 (by omega)
 have hc := Hj r
 simp -implicitDefEqProofs only [Tryz.f138, go_sem, hh, Int.reduceAdd, seval]
 with_reducible repeat' (first | apply ai | intro _ | ((first | apply s1 | apply s3 | apply s4) <;> intro hb <;> simp -implicitDefEqProofs only [hb, go_sem, hh, Int.reduceAdd, seval] <;> try simp only [qz] at hb))
 all_goals first | with_reducible rfl | omega | with_reducible assumption | (show _ = true; rfl) | contradiction | decide | skip
 refine AO (Le.frzL [1006]) (AX ?_)
 simp -implicitDefEqProofs only [go_sem, hh, Int.reduceAdd, seval]
 with_reducible repeat' (first | apply ai | intro _ | ((first | apply s1 | apply s3 | apply s4) <;> intro hb <;> simp -implicitDefEqProofs only [hb, go_sem, hh, Int.reduceAdd, seval] <;> try simp only [qz] at hb))
 all_goals (try simp only [maxLen, tn] at *)
 all_goals first | with_reducible rfl | omega | with_reducible assumption | (show _ = true; rfl) | contradiction | decide | skip
end
def yG : Mt := HB (lc EU l0) (fun p => 0 ≤ p.1.p ∧ p.1.p ≤ 999600000) (fun p => ([EU.enc (HK p.1).1], Ge (C3 p.1)))
section
attribute [local go_sem] nM nN RS AK Bi A5 A7 BD BQ CE BP BR lm List.length_append List.length_cons List.length_nil List.map_append List.map_nil Nat.zero_add List.nil_append AS.opn AS.cls AS.nilb AS.renb AS.up Bool.not_false Bool.not_true List.set_set List.set_cons_zero List.set_cons_succ List.set_nil List.mem_singleton forall_eq B2 Iq wx
set_option maxHeartbeats 1600000 in
theorem rL {G : Gt} (hG : Ah G) (hh : G.e 138 = AN nM ∧ G.e 139 = AA 1 nN ∧ G.e 102 = AA 1 RS) : Gd G 99 (AN yG) := by
 refine JS (dp := fun _ => true) (fn := Tryz.f99) (n := 1) rfl rfl hG ?_
 rintro ⟨r, ⟨⟩⟩ hpre
 obtain ⟨h1, h2⟩ := hpre
 try dsimp only at h1 h2 ⊢
 have hc := Hj r
 obtain ⟨he, hl, _, _⟩ := Vv h1 (by omega)
 have hw := KJ (Lc r) (by decide)
 simp -implicitDefEqProofs only [Tryz.f99, go_sem, hh, Int.reduceAdd, seval]
 with_reducible repeat' (first | apply ai | intro _ | ((first | apply s1 | apply s3 | apply s4) <;> intro hb <;> simp -implicitDefEqProofs only [hb, go_sem, hh, Int.reduceAdd, seval] <;> try simp only [qz] at hb))
 all_goals (try simp only [maxLen, tn] at *)
 all_goals first | with_reducible rfl | omega | with_reducible assumption | (show _ = true; rfl) | contradiction | decide | exact ⟨hc, he, by omega⟩ | exact he _ (by assumption) | skip
end
noncomputable def EM (r : Rd) : Rd := (HK r).1
noncomputable def Xs (r : Rd) : Int := Ae (EM r) (C3 r).hosts.length
noncomputable def Ej (r : Rd) : Int := Ae ((EM r).nx 1) 14
noncomputable abbrev Wc (r : Rd) : Hs := (C3 r).hosts.getD (Xs r).toNat default
noncomputable def aw (r : Rd) : Wd × Rd :=
 if Ej r = 0 then (⟨(C3 r).hosts.set (Xs r).toNat ⟨(Wc r).conf, (KT ((EM r).nx 2)).1, (Wc r).boxes, (Wc r).lost⟩, (C3 r).now, (C3 r).marks, (C3 r).given⟩, (KT ((EM r).nx 2)).2)
 else if Ej r = 1 then (⟨(C3 r).hosts.set (Xs r).toNat ⟨(CS ((EM r).nx 2)).1, (Wc r).spool, (Wc r).boxes, (Wc r).lost⟩, (C3 r).now, (C3 r).marks, (C3 r).given⟩, (CS ((EM r).nx 2)).2)
 else if Ej r = 2 then (⟨(C3 r).hosts, HO ((EM r).nx 2) [-1, 10000, 9990], (C3 r).marks, (C3 r).given⟩, (EM r).nx 3)
 else if Ej r = 3 then (⟨(C3 r).hosts, (C3 r).now, (C3 r).marks, (C3 r).given ++ [⟨OR ((EM r).nx 2) [⟨#[]⟩, ⟨#[73, 100, 58, 32, 57]⟩, ⟨#[73, 100, 58, 32]⟩], (Ce ((EM r).nx 3)).1⟩]⟩, (Ce ((EM r).nx 3)).2)
 else if Ej r = 4 then (⟨[], (C3 r).now, (C3 r).marks, (C3 r).given⟩, (EM r).nx 2)
 else (C3 r, (EM r).nx 2)
section
variable {r : Rd}
theorem Yp (c : Ej r = 0) : aw r = (⟨(C3 r).hosts.set (Xs r).toNat ⟨(Wc r).conf, (KT ((EM r).nx 2)).1, (Wc r).boxes, (Wc r).lost⟩, (C3 r).now, (C3 r).marks, (C3 r).given⟩, (KT ((EM r).nx 2)).2) := if_pos c
theorem Yq (c : Ej r = 1) : aw r = (⟨(C3 r).hosts.set (Xs r).toNat ⟨(CS ((EM r).nx 2)).1, (Wc r).spool, (Wc r).boxes, (Wc r).lost⟩, (C3 r).now, (C3 r).marks, (C3 r).given⟩, (CS ((EM r).nx 2)).2) := by unfold aw; rw [if_neg (by omega), if_pos c]
theorem Yr (c : Ej r = 2) : aw r = (⟨(C3 r).hosts, HO ((EM r).nx 2) [-1, 10000, 9990], (C3 r).marks, (C3 r).given⟩, (EM r).nx 3) := by unfold aw; rw [if_neg (by omega), if_neg (by omega), if_pos c]
theorem Ys (c : Ej r = 3) : aw r = (⟨(C3 r).hosts, (C3 r).now, (C3 r).marks, (C3 r).given ++ [⟨OR ((EM r).nx 2) [⟨#[]⟩, ⟨#[73, 100, 58, 32, 57]⟩, ⟨#[73, 100, 58, 32]⟩], (Ce ((EM r).nx 3)).1⟩]⟩, (Ce ((EM r).nx 3)).2) := by unfold aw; rw [if_neg (by omega), if_neg (by omega), if_neg (by omega), if_pos c]
theorem Yt (c : Ej r = 4) : aw r = (⟨[], (C3 r).now, (C3 r).marks, (C3 r).given⟩, (EM r).nx 2) := by unfold aw; rw [if_neg (by omega), if_neg (by omega), if_neg (by omega), if_neg (by omega), if_pos c]
theorem Yu (c : ¬ Ej r = 0 ∧ ¬ Ej r = 1 ∧ ¬ Ej r = 2 ∧ ¬ Ej r = 3 ∧ ¬ Ej r = 4) : aw r = (C3 r, (EM r).nx 2) := by unfold aw; rw [if_neg (by omega), if_neg (by omega), if_neg (by omega), if_neg (by omega), if_neg (by omega)]
end
theorem th (r : Rd) : (HK r).1 = EM r := rfl
theorem tg (r : Rd) : Ae (EM r) (C3 r).hosts.length = Xs r := rfl
theorem tf (r : Rd) : Ae ((EM r).nx 1) 14 = Ej r := rfl
theorem UN {r : Rd} (h : 0 ≤ r.p) (h1 : r.p ≤ 999500000) : r.p ≤ (EM r).p ∧ (EM r).p ≤ r.p + 2500 := (Vv h (by omega)).2.2
theorem UM {r : Rd} (h : 0 ≤ r.p) (h1 : r.p ≤ 999500000) : 0 ≤ Xs r ∧ Xs r < (C3 r).hosts.length := by
 have hq := UN h h1
 have hl := (Lc r).2.1
 have z := Bn (r := EM r) (n := (C3 r).hosts.length) (by omega) (by omega)
 exact ⟨z.1, z.2 (by omega)⟩
def xA : Mt := HB (lc EU l0) (fun p => 0 ≤ p.1.p ∧ p.1.p ≤ 999500000) (fun p => ([EU.enc (aw p.1).2], Qv.ag.enc (aw p.1).1))
section
attribute [local go_sem] GK Xt UY yG mz xF d6 AK Bi A5 A7 BD BQ CE BP BR lm List.length_append List.length_cons List.length_nil List.map_append List.map_nil Nat.zero_add List.nil_append AS.opn AS.cls AS.nilb AS.renb AS.up Bool.not_false Bool.not_true List.set_set List.set_cons_zero List.set_cons_succ List.set_nil List.mem_singleton forall_eq th tg tf Iq Fj Fk AT Bb LN G7 G8 G9 Du Dv
set_option maxHeartbeats 6400000 in
theorem qR {G : Gt} (hG : Ah G) (hh : G.e 53 = AN GK ∧ G.e 31 = AN Xt ∧ G.e 30 = AN UY ∧ G.e 99 = AN yG ∧ G.e 100 = AN mz ∧ G.e 78 = AN xF ∧ G.e 101 = AN d6) : Gd G 52 (AN xA) := by
 refine JS (dp := fun _ => true) (fn := Tryz.f52) (n := 1) rfl rfl hG ?_
 rintro ⟨r, ⟨⟩⟩ hpre
 obtain ⟨h1, h2⟩ := hpre
 try dsimp only at h1 h2 ⊢
 have hq := UN h1 (by omega)
 have hk := UM h1 (by omega)
 have hl := (Lc r).2.1
 have hg := (Lc r).2.2.2.2.1
 by_cases c0 : Ej r = 0
 ·skip
  rw [Yp c0]
  simp -implicitDefEqProofs only [Tryz.f52, c0, eq_self, decide_true, decide_false, Int.reduceEq, go_sem, hh, Int.reduceAdd, seval]
  with_reducible repeat' (first | apply ai | intro _ | ((first | apply s1 | apply s3 | apply s4) <;> intro hb <;> simp -implicitDefEqProofs only [hb, go_sem, hh, Int.reduceAdd, seval] <;> try simp only [qz] at hb))
  all_goals (try simp only [maxLen, tn] at *)
  all_goals first | with_reducible rfl | omega | with_reducible assumption | (show _ = true; rfl) | contradiction | decide | exact hk.1 | exact hk.2 | skip
 ·by_cases c1 : Ej r = 1
  ·skip
   rw [Yq c1]
   simp -implicitDefEqProofs only [Tryz.f52, c0, c1, eq_self, decide_true, decide_false, Int.reduceEq, go_sem, hh, Int.reduceAdd, seval]
   with_reducible repeat' (first | apply ai | intro _ | ((first | apply s1 | apply s3 | apply s4) <;> intro hb <;> simp -implicitDefEqProofs only [hb, go_sem, hh, Int.reduceAdd, seval] <;> try simp only [qz] at hb))
   all_goals (try simp only [maxLen, tn] at *)
   all_goals first | with_reducible rfl | omega | with_reducible assumption | (show _ = true; rfl) | contradiction | decide | exact hk.1 | exact hk.2 | skip
  ·by_cases c2 : Ej r = 2
   ·skip
    rw [Yr c2]
    simp -implicitDefEqProofs only [Tryz.f52, c0, c1, c2, eq_self, decide_true, decide_false, Int.reduceEq, go_sem, hh, Int.reduceAdd, seval]
    with_reducible repeat' (first | apply ai | intro _ | ((first | apply s1 | apply s3 | apply s4) <;> intro hb <;> simp -implicitDefEqProofs only [hb, go_sem, hh, Int.reduceAdd, seval] <;> try simp only [qz] at hb))
    all_goals (try simp only [maxLen, tn] at *)
    all_goals first | with_reducible rfl | omega | with_reducible assumption | (show _ = true; rfl) | contradiction | decide | exact hk.1 | exact hk.2 | skip
   ·by_cases c3 : Ej r = 3
    ·skip
     rw [Ys c3]
     simp -implicitDefEqProofs only [Tryz.f52, c0, c1, c2, c3, eq_self, decide_true, decide_false, Int.reduceEq, go_sem, hh, Int.reduceAdd, seval]
     with_reducible repeat' (first | apply ai | intro _ | ((first | apply s1 | apply s3 | apply s4) <;> intro hb <;> simp -implicitDefEqProofs only [hb, go_sem, hh, Int.reduceAdd, seval] <;> try simp only [qz] at hb))
     all_goals (try simp only [maxLen, tn] at *)
     all_goals first | with_reducible rfl | omega | with_reducible assumption | (show _ = true; rfl) | contradiction | decide | exact hk.1 | exact hk.2 | skip
    ·by_cases c4 : Ej r = 4
     ·skip
      rw [Yt c4]
      simp -implicitDefEqProofs only [Tryz.f52, c0, c1, c2, c3, c4, eq_self, decide_true, decide_false, Int.reduceEq, go_sem, hh, Int.reduceAdd, seval]
      with_reducible repeat' (first | apply ai | intro _ | ((first | apply s1 | apply s3 | apply s4) <;> intro hb <;> simp -implicitDefEqProofs only [hb, go_sem, hh, Int.reduceAdd, seval] <;> try simp only [qz] at hb))
      all_goals (try simp only [maxLen, tn] at *)
      all_goals first | with_reducible rfl | omega | with_reducible assumption | (show _ = true; rfl) | contradiction | decide | exact hk.1 | exact hk.2 | skip
     ·skip
      rw [Yu ⟨c0, c1, c2, c3, c4⟩]
      simp -implicitDefEqProofs only [Tryz.f52, c0, c1, c2, c3, c4, eq_self, decide_true, decide_false, Int.reduceEq, go_sem, hh, Int.reduceAdd, seval]
      with_reducible repeat' (first | apply ai | intro _ | ((first | apply s1 | apply s3 | apply s4) <;> intro hb <;> simp -implicitDefEqProofs only [hb, go_sem, hh, Int.reduceAdd, seval] <;> try simp only [qz] at hb))
      all_goals (try simp only [maxLen, tn] at *)
      all_goals first | with_reducible rfl | omega | with_reducible assumption | (show _ = true; rfl) | contradiction | decide | exact hk.1 | exact hk.2 | skip
end
theorem O3 {r : Rd} (h : 0 ≤ r.p) (h1 : r.p ≤ 999999900) : HT (Ce r).1 ∧ (Ce r).2.b = r.b ∧ r.p + 3 ≤ (Ce r).2.p ∧ (Ce r).2.p ≤ r.p + 4 := by
 have z := CH (.inl (NK (r := r) h (by omega)))
 have key : ∀ (l : List ByteArray), 1 ≤ l.length → (∀ x ∈ l, x.size ≤ 1048576) → Bj (OR (r.nx 3) l) := fun l hl q => q _ (Hu (by rw [AK]; omega) (by rw [AK]; omega) hl)
 by_cases q0 : Ae (r.nx 2) 10 = 0
 ·rw [T6 q0]
  exact ⟨⟨key _ (by decide) (by decide), z.2⟩, rfl, by rw [AK]; omega, by rw [AK]; omega⟩
 ·by_cases q1 : Ae (r.nx 2) 10 = 1
  ·rw [T7 q0 q1]
   exact ⟨⟨z.1, key _ (by decide) (by decide)⟩, rfl, by rw [AK]; omega, by rw [AK]; omega⟩
  ·by_cases q2 : Ae (r.nx 2) 10 = 2
   ·rw [T8 q0 q1 q2]
    exact ⟨CH (.inr ⟨rfl, rfl⟩), rfl, by rw [AK]; omega, by rw [AK]; omega⟩
   ·rw [T9 q0 q1 q2]
    exact ⟨z, rfl, by rw [AK]; omega, by rw [AK]; omega⟩
theorem ZF {c : Cf} (h : PG c = true) : M8 c ∧ c.own.length ≤ 10 ∧ c.ways.length ≤ 10 := by
 unfold PG at h
 simp only [Bool.and_eq_true, Nat.ble_eq, List.all_eq_true] at h
 obtain ⟨z1, z2, z3, z4, z5⟩ := h
 exact ⟨⟨by show c.name.size ≤ 1048576; omega, ⟨by omega, fun s hs => by have := z3 s hs; show s.size ≤ 1048576; omega⟩, ⟨by omega, fun w hw => ⟨by have := (z5 w hw).1; show w.ends.size ≤ 1048576; omega, by have := (z5 w hw).2; show w.to.size ≤ 1048576; omega⟩⟩⟩, z2, z4⟩
theorem yR {r : Rd} {l : List ByteArray} (h0 : 0 ≤ r.p) (h1 : r.p ≤ 1000000000) (hl : l.all (fun s => Nat.ble s.size 100) = true) (hn : 1 ≤ l.length) : Bj (OR r l) := by
 have := List.all_eq_true.1 hl _ (Hu h0 h1 hn)
 simp only [Nat.ble_eq] at this
 show (OR r l).size ≤ 1048576
 omega
theorem Yh {r : Rd} (h : 0 ≤ r.p) (h1 : r.p ≤ 999980000) : M8 (CS r).1 := by
 obtain ⟨z, z1, z2⟩ := ZF (kB h (show r.p ≤ 999999000 by omega))
 by_cases c0 : Ae (r.nx 2) 10 = 0
 ·rw [UA c0]; exact ⟨yR (by rw [AK]; omega) (by rw [AK]; omega) (by decide +kernel) (by decide), z.2.1, z.2.2⟩
 ·by_cases c1 : Ae (r.nx 2) 10 = 1
  ·rw [UB c1]
   refine ⟨z.1, ⟨by show ((_ ++ _ : List ByteArray).length : Int) ≤ _; rw [List.length_append]; simp; omega, fun s hs => ?_⟩, z.2.2⟩
   rcases List.mem_append.1 hs with hs | hs
   ·exact z.2.1.2 s hs
   ·simp only [List.mem_cons, List.not_mem_nil, or_false] at hs
    rcases hs with rfl | rfl <;> (show ByteArray.size _ ≤ 1048576; decide)
  ·by_cases c2 : Ae (r.nx 2) 10 = 2
   ·rw [UC c2]
    refine ⟨z.1, z.2.1, ⟨by show ((_ ++ _ : List Wy).length : Int) ≤ _; rw [List.length_append]; simp; omega, fun s hs => ?_⟩⟩
    rcases List.mem_append.1 hs with hs | hs
    ·exact z.2.2.2 s hs
    ·simp only [List.mem_singleton] at hs
     subst hs
     exact ⟨yR (by rw [AK]; omega) (by rw [AK]; omega) (by decide +kernel) (by decide), by show (⟨#[116, 119, 111, 46, 111, 114, 103]⟩ : ByteArray).size ≤ 1048576; decide⟩
   ·rw [UD ⟨c0, c1, c2⟩]; exact z
theorem Te {α : Type} {P : α → Prop} {xs : List α} {i : Nat} {x : α} (h : HN P xs) (hx : P x) : HN P (xs.set i x) := ⟨by rw [List.length_set]; exact h.1, fun y hy => by
 rcases List.mem_or_eq_of_mem_set hy with hy | rfl
 ·exact h.2 y hy
 ·exact hx⟩
theorem j6 {r : Rd} (h : 0 ≤ r.p) (h1 : r.p ≤ 999500000) : GY (aw r).1 := by
 have hq := UN h (by omega)
 have hk := UM h (by omega)
 have z := KJ (Lc r) (by decide)
 have hH : HU (Wc r) := z.1.2 _ (AC (by omega))
 have p2 : ((EM r).nx 2).p = (EM r).p + 2 := AK _ _
 have p3 : ((EM r).nx 3).p = (EM r).p + 3 := AK _ _
 by_cases c0 : Ej r = 0
 ·rw [Yp c0]
  have q := (Ym (r := (EM r).nx 2) (by omega) (by omega)).1
  exact ⟨Te z.1 ⟨hH.1, q, hH.2.2⟩, z.2⟩
 ·by_cases c1 : Ej r = 1
  ·rw [Yq c1]
   have q := Yh (r := (EM r).nx 2) (by omega) (by omega)
   exact ⟨Te z.1 ⟨q, hH.2⟩, z.2⟩
  ·by_cases c2 : Ej r = 2
   ·rw [Yr c2]; exact z
   ·by_cases c3 : Ej r = 3
    ·rw [Ys c3]
     have hg := (Lc r).2.2.2.2.1
     have q := (O3 (r := (EM r).nx 3) (by omega) (by omega)).1
     refine ⟨z.1, ⟨by show ((_ ++ _ : List Ls).length : Int) ≤ _; rw [List.length_append]; simp; omega, fun l hl => ?_⟩⟩
     rcases List.mem_append.1 hl with hl | hl
     ·exact z.2.2 l hl
     ·simp only [List.mem_singleton] at hl
      subst hl
      exact ⟨yR (by omega) (by omega) (by decide +kernel) (by decide), q⟩
    ·by_cases c4 : Ej r = 4
     ·rw [Yt c4]; exact ⟨⟨by show ((0 : Nat) : Int) ≤ _; decide, fun _ q => by cases q⟩, z.2⟩
     ·rw [Yu ⟨c0, c1, c2, c3, c4⟩]; exact z
theorem yg {a b : Ad} : ((false != (decide (a.user = b.user) && decide (a.domain = b.domain))) = true) = (a = b) := by
 rw [B8]; simp
theorem yh {a b : Ad} : ((false != (decide (a.user = b.user) && decide (a.domain = b.domain))) = false) = ¬ a = b := by
 rw [B8]; simp
theorem tY {a b : Ad} : ((decide (a.user = b.user) && decide (a.domain = b.domain)) = true) = (a = b) := by
 rw [B8]; simp
theorem tZ {a b : Ad} : ((decide (a.user = b.user) && decide (a.domain = b.domain)) = false) = ¬ a = b := by
 rw [B8]; simp
def Bz {α β : Type} (f : α → List β) : List α → List β
 | [] => []
 | x :: r => f x ++ Bz f r
section
variable {α β : Type} {f : α → List β}
theorem PF (f : α → List β) : ∀ xs ys : List α, Bz f (xs ++ ys) = Bz f xs ++ Bz f ys
 | [], _ => rfl
 | x :: r, ys => by show f x ++ Bz f (r ++ ys) = _; rw [PF f r ys, ← List.append_assoc]; rfl
theorem DA [Inhabited α] (f : α → List β) {xs : List α} {i : Nat} (h : i < xs.length) : Bz f (xs.take (i + 1)) = Bz f (xs.take i) ++ f (xs.getD i default) := by
 rw [List.take_succ_eq_append_getElem h, PF]
 show _ ++ (f xs[i] ++ []) = _
 rw [List.append_nil]
 simp [h]
theorem Em (f : α → List β) {xs : List α} {i : Nat} (h : xs.length ≤ i) : Bz f (xs.take i) = Bz f xs := by rw [List.take_of_length_le h]
end
def Cg (a : Ad) (b : Bx) : List Gm := if b.addr = a then b.mails else []
theorem NQ {a : Ad} {b : Bx} (h : b.addr = a) : Cg a b = b.mails := if_pos h
theorem NP {a : Ad} {b : Bx} (h : ¬ b.addr = a) : Cg a b = [] := if_neg h
def BL (a : Ad) (h : Hs) : List Gm := Bz (Cg a) h.boxes
open Classical in
noncomputable def WU (w : Wd) (a : Ad) : List Gm := if Dc w then Bz (BL a) w.hosts else []
theorem Q4 {w : Wd} {a : Ad} (h : Dc w) : WU w a = Bz (BL a) w.hosts := if_pos h
theorem YH {w : Wd} {a : Ad} (h : ¬ Dc w) : WU w a = [] := if_neg h
theorem Fh {α β : Type} {f : α → List β} {N : α → Int} (h : ∀ x, ((f x).length : Int) ≤ N x) : ∀ xs : List α, ((Bz f xs).length : Int) ≤ Ak N xs
 | [] => Int.le_refl _
 | x :: r => by
   have h1 := h x
   have h2 := Fh h r
   show ((f x ++ Bz f r).length : Int) ≤ N x + Ak N r
   rw [List.length_append]; omega
theorem WL {α : Type} (N : α → Int) : ∀ xs ys : List α, Ak N (xs ++ ys) = Ak N xs + Ak N ys
 | [], ys => by show _ = 0 + _; rw [Int.zero_add]; rfl
 | x :: r, ys => by show N x + Ak N (r ++ ys) = N x + Ak N r + Ak N ys; rw [WL N r ys]; omega
theorem cX {α : Type} {N : α → Int} (h : ∀ x, 0 ≤ N x) (xs : List α) : 0 ≤ Ak N xs := by
 have := D4 (f := N) (xs := xs) (fun x _ => h x) 0
 exact this
theorem cW {α : Type} [Inhabited α] {N : α → Int} (h : ∀ x, 0 ≤ N x) {xs : List α} {i : Nat} (hi : i < xs.length) : Ak N (xs.take i) + N (xs.getD i default) ≤ Ak N xs := by
 have h1 := WL N (xs.take i) (xs.drop i)
 rw [List.take_append_drop] at h1
 have h2 := D5 (f := N) hi
 have h3 := cX h (xs.drop (i + 1))
 omega
theorem bI (b : Bx) : 0 ≤ Ig b := by unfold Ig; omega
theorem mw (h : Hs) : 0 ≤ Ch h := cX bI _
theorem MO (a : Ad) (b : Bx) : ((Cg a b).length : Int) ≤ Ig b := by
 unfold Cg Ig; split
 ·omega
 ·show ((0 : Nat) : Int) ≤ _; omega
theorem KX (a : Ad) (h : Hs) : ((BL a h).length : Int) ≤ Ch h := Fh (MO a) _
def E5 (w : Wd) : Int := Ak Ch w.hosts
theorem N6 {w : Wd} {a : Ad} {i k n : Nat} (hi : i < w.hosts.length) (hk : k < (w.hosts.getD i default).boxes.length) (hn : n ≤ ((w.hosts.getD i default).boxes.getD k default).mails.length) :
    ((Bz (BL a) (w.hosts.take i)).length : Int) + (Bz (Cg a) ((w.hosts.getD i default).boxes.take k)).length + n ≤ E5 w := by
 have h1 := Fh (KX a) (w.hosts.take i)
 have h2 := Fh (MO a) ((w.hosts.getD i default).boxes.take k)
 have h3 := cW mw hi
 have h4 := cW bI hk
 have h5 : Ch (w.hosts.getD i default) = Ak Ig (w.hosts.getD i default).boxes := rfl
 have h6 : Ig ((w.hosts.getD i default).boxes.getD k default) = ((w.hosts.getD i default).boxes.getD k default).mails.length := rfl
 unfold E5
 omega
def xq : Ct := Ar (lc Qv.ag l0) (fun p => GY p.1) (fun p => rz p.1)
section
attribute [local go_sem] xC Y4 lm List.length_append List.length_cons List.length_nil List.map_append List.map_nil Nat.zero_add List.nil_append AS.opn AS.cls AS.nilb AS.renb AS.up Bool.not_false Bool.not_true List.set_set List.set_cons_zero List.set_cons_succ List.set_nil List.mem_singleton forall_eq
set_option maxHeartbeats 3200000 in
theorem qV {G : Gt} (hG : Ah G) (hh : G.e 63 = AA 0 xC ∧ G.e 105 = AA 0 Y4) : Gd G 56 (AA 0 xq) := by
 refine gr (fn := Tryz.f56) (n := 1) rfl rfl hG ?_ (hs := fun _ p => SZ _)
 rintro ⟨w, ⟨⟩⟩ hpre
 simp -implicitDefEqProofs only [Tryz.f56, go_sem, hh, seval] at hpre ⊢
 obtain ⟨⟨lh, zh⟩, ⟨lg, zg⟩⟩ := hpre
 with_reducible repeat' (first | apply ai | intro _ | ((first | apply s1 | apply s3 | apply s4) <;> intro hb <;> simp -implicitDefEqProofs only [hb, go_sem, hh, seval] <;> try simp only [qz] at hb))
 all_goals first | rfl | omega | decide | skip
 refine AE [(3, 1903, true, 7)] (ι := {i : Nat // i ≤ w.hosts.length}) (fun p => ⟨[(1, .pb 1001 0), (2, .pb 1002 0), (3, .h 1903), (7, .t (.sl 7 (w.hosts.map Af))), (8, .t (.v (.int .i64 w.hosts.length))), (9, .t (.v (.int .i64 p.1)))], [(1001, some (.box ((C8 w).map .t))), (1002, some (.box [.nil, .t (.v (.int .i64 0)), .t (.v (.int .i64 0)), .nil])), (1903, some (.arr true 7 ((w.hosts.take p.1).map Af)))]⟩) (fun p => w.hosts.length - p.1) ⟨0, by simp⟩ rfl ?_ ?_
 ·simp -implicitDefEqProofs only [go_sem, hh, seval]
  try simp
 ·rintro ⟨i, hi⟩
  have hlen : (w.hosts.take i).length = i := by simp; omega
  by_cases hlt : (i : Int) < w.hosts.length
  ·have zo := zh _ (AC (xs := w.hosts) (j := i) (by omega))
   simp -implicitDefEqProofs only [hlt, decide_true, tn, go_sem, hh, seval]
   with_reducible repeat' (first | apply ai | intro _ | ((first | apply s1 | apply s3 | apply s4) <;> intro hb <;> simp -implicitDefEqProofs only [hb, go_sem, hh, seval] <;> try simp only [qz] at hb))
   all_goals (try simp only [maxLen] at *)
   all_goals first | rfl | omega | assumption | decide | skip
   refine ⟨⟨i + 1, by omega⟩, by dsimp only; omega, ?_⟩
   simp -implicitDefEqProofs only [go_sem, hh, seval]
   simp only [Az Af (show i < w.hosts.length by omega)]
   with_reducible repeat' (first | apply ai | intro _ | ((first | apply s1 | apply s3 | apply s4) <;> intro hb <;> simp -implicitDefEqProofs only [hb, go_sem, hh, seval] <;> try simp only [qz] at hb))
   all_goals first | rfl | (simp; done) | skip
  ·have htk : w.hosts.take i = w.hosts := List.take_of_length_le (by omega)
   simp -implicitDefEqProofs only [hlt, htk, decide_false, go_sem, hh, seval]
   with_reducible repeat' (first | apply ai | intro _ | ((first | apply s1 | apply s3 | apply s4) <;> intro hb <;> simp -implicitDefEqProofs only [hb, go_sem, hh, seval] <;> try simp only [qz] at hb))
   all_goals (try simp only [maxLen] at *)
   all_goals first | rfl | omega | assumption | decide
end
def xj : Ct := Ar (lc Qv.ag (lc DY.ag l0)) (fun p => GY p.1 ∧ E5 p.1 ≤ 1048576) (fun p => .o true 3 ((WU p.1 p.2.1).map BU))
section
attribute [local go_sem] oX lm List.length_append List.length_cons List.length_nil List.map_append List.map_nil Nat.zero_add List.nil_append AS.opn AS.cls AS.nilb AS.renb AS.up Bool.not_false Bool.not_true List.set_set List.set_cons_zero List.set_cons_succ List.set_nil List.mem_singleton forall_eq AZ AY
set_option maxHeartbeats 6400000 in
theorem p5 {G : Gt} (hG : Ah G) (hh : G.e 57 = AA 0 oX) : Gd G 16 (AA 0 xj) := by
 refine gr (fn := Tryz.f16) (n := 2) rfl rfl hG ?_ (hs := fun _ p => .deep _ _)
 rintro ⟨w, a, ⟨⟩⟩ hpre
 simp -implicitDefEqProofs only [Tryz.f16, go_sem, hh, seval] at hpre ⊢
 obtain ⟨zw, zn⟩ := hpre
 by_cases h : Dc w
 ·have b1 := Ap h
  rw [Q4 h]
  simp -implicitDefEqProofs only [b1, go_sem, hh, seval]
  with_reducible repeat' (first | apply ai | intro _ | ((first | apply s1 | apply s3 | apply s4) <;> intro hb <;> simp -implicitDefEqProofs only [hb, go_sem, hh, seval] <;> try simp only [qz] at hb))
  all_goals first | rfl | omega | assumption | contradiction | skip
  refine AE [(5, 1905, true, 3)] (ι := {i : Nat // i ≤ w.hosts.length}) (fun ⟨i, _⟩ => ⟨[(2, .pb 1002 0), (3, .pb 1003 0), (5, .h 1905), (6, .t (.v (.int .i64 i)))], [(1002, some (.box ((C8 w).map .t))), (1003, some (.box ((Am a).map .t))), (1905, some (.arr true 3 ((Bz (BL a) (w.hosts.take i)).map BU)))]⟩) (fun p => w.hosts.length - p.1) ⟨0, by simp⟩ rfl ?_ ?_
  ·simp -implicitDefEqProofs only [go_sem, hh, seval]
   try simp
   try rfl
  ·rintro ⟨i, hi⟩
   dsimp only
   by_cases hlt : (i : Int) < w.hosts.length
   ·have zo := zw.1.2 _ (AC (xs := w.hosts) (j := i) (by omega))
    obtain ⟨_, _, ⟨lb, zb⟩, _⟩ := zo
    simp -implicitDefEqProofs only [hlt, decide_true, tn, go_sem, hh, seval]
    with_reducible repeat' (first | apply ai | intro _ | ((first | apply s1 | apply s3 | apply s4) <;> intro hb <;> simp -implicitDefEqProofs only [hb, go_sem, hh, seval] <;> try simp only [qz] at hb))
    all_goals (try simp only [maxLen] at *)
    all_goals first | rfl | omega | assumption | decide | skip
    refine AE [(5, 1905, true, 3)] (ι := {k : Nat // k ≤ (w.hosts.getD i default).boxes.length}) (fun ⟨k, _⟩ => ⟨[(2, .pb 1002 0), (3, .pb 1003 0), (5, .h 1905), (6, .t (.v (.int .i64 i))), (7, .t (.v (.int .i64 k)))], [(1002, some (.box ((C8 w).map .t))), (1003, some (.box ((Am a).map .t))), (1905, some (.arr true 3 ((Bz (BL a) (w.hosts.take i) ++ Bz (Cg a) ((w.hosts.getD i default).boxes.take k)).map BU)))]⟩) (fun p => (w.hosts.getD i default).boxes.length - p.1) ⟨0, by simp⟩ rfl ?_ ?_
    ·simp -implicitDefEqProofs only [go_sem, hh, seval]
     try simp
     try rfl
    ·rintro ⟨k, hk⟩
     dsimp only
     by_cases hlt2 : (k : Int) < (w.hosts.getD i default).boxes.length
     ·obtain ⟨_, ⟨lm, zm⟩⟩ := zb _ (AC (xs := (w.hosts.getD i default).boxes) (j := k) (by omega))
      simp -implicitDefEqProofs only [hlt2, decide_true, tn, go_sem, hh, seval]
      with_reducible repeat' (first | apply ai | intro _ | ((first | apply s1 | apply s3 | apply s4) <;> intro hb <;> simp -implicitDefEqProofs only [hb, go_sem, hh, seval] <;> try simp only [qz] at hb))
      all_goals (try simp only [maxLen] at *)
      all_goals first | rfl | omega | assumption | decide | skip
      refine AE [(5, 1905, true, 3)] (ι := {n : Nat // n ≤ ((w.hosts.getD i default).boxes.getD k default).mails.length ∧ (0 < n → ((w.hosts.getD i default).boxes.getD k default).addr = a)}) (fun ⟨n, _⟩ => ⟨[(2, .pb 1002 0), (3, .pb 1003 0), (5, .h 1905), (6, .t (.v (.int .i64 i))), (7, .t (.v (.int .i64 k))), (8, .pb 1008 0), (9, .t (.v (.int .i64 n)))], [(1002, some (.box ((C8 w).map .t))), (1003, some (.box ((Am a).map .t))), (1008, some (.box ((BT ((w.hosts.getD i default).boxes.getD k default)).map .t))), (1905, some (.arr true 3 ((Bz (BL a) (w.hosts.take i) ++ Bz (Cg a) ((w.hosts.getD i default).boxes.take k) ++ ((w.hosts.getD i default).boxes.getD k default).mails.take n).map BU)))]⟩) (fun p => ((w.hosts.getD i default).boxes.getD k default).mails.length - p.1) ⟨0, by simp, by simp⟩ rfl ?_ ?_
      ·simp -implicitDefEqProofs only [go_sem, hh, seval]
       try simp
       try rfl
      ·rintro ⟨n, hn, hn2⟩
       dsimp only
       by_cases hlt3 : (n : Int) < ((w.hosts.getD i default).boxes.getD k default).mails.length
       ·obtain ⟨_, ⟨lg, zg⟩⟩ := zm _ (AC (xs := ((w.hosts.getD i default).boxes.getD k default).mails) (j := n) (by omega))
        have q1 := N6 (a := a) (w := w) (i := i) (k := k) (n := n) (by omega) (by omega) (by omega)
        simp -implicitDefEqProofs only [hlt3, decide_true, tn, go_sem, hh, seval]
        with_reducible repeat' (first | apply ai | intro _ | ((first | apply s1 | apply s3 | apply s4) <;> intro hb <;> simp -implicitDefEqProofs only [hb, go_sem, hh, seval] <;> try simp only [qz] at hb))
        all_goals (try simp only [maxLen, yg, yh, tY, tZ, tn, List.length_append, List.length_take, lm] at *)
        all_goals first
         | rfl
         | omega
         | assumption
         | decide
         | (refine ⟨⟨n + 1, by omega, fun _ => by with_reducible assumption⟩, by dsimp only; omega, ?_⟩
            simp -implicitDefEqProofs only [go_sem, hh, seval]
            simp only [Az BU (show n < ((w.hosts.getD i default).boxes.getD k default).mails.length by omega)]
            with_reducible repeat' (first | apply ai | intro _ | ((first | apply s1 | apply s3 | apply s4) <;> intro hb <;> simp -implicitDefEqProofs only [hb, go_sem, hh, seval] <;> try simp only [qz] at hb))
            all_goals first | rfl | (simp [Km]; done) | skip)
         | (refine ⟨⟨k + 1, by omega⟩, by dsimp only; omega, ?_⟩
            have hz : n = 0 := by
             by_cases e : n = 0
             ·exact e
             ·exact absurd (hn2 (by omega)) (by with_reducible assumption)
            subst hz
            have e1 := DA (Cg a) (show k < (w.hosts.getD i default).boxes.length by omega)
            rw [NP (by with_reducible assumption), List.append_nil] at e1
            simp -implicitDefEqProofs only [e1, List.take_zero, List.append_nil, go_sem, hh, seval]
            try simp
            done)
         | skip
       ·have e1 := DA (Cg a) (show k < (w.hosts.getD i default).boxes.length by omega)
        have e2 : ((w.hosts.getD i default).boxes.getD k default).mails.take n = Cg a ((w.hosts.getD i default).boxes.getD k default) := by
         by_cases e : n = 0
         ·have h0 : ((w.hosts.getD i default).boxes.getD k default).mails.length = 0 := by omega
          rw [e, List.take_zero]
          unfold Cg; split
          ·exact (List.eq_nil_of_length_eq_zero h0).symm
          ·rfl
         ·rw [NQ (hn2 (by omega)), List.take_of_length_le (by omega)]
        simp -implicitDefEqProofs only [hlt3, decide_false, go_sem, hh, seval]
        with_reducible repeat' (first | apply ai | intro _ | ((first | apply s1 | apply s3 | apply s4) <;> intro hb <;> simp -implicitDefEqProofs only [hb, go_sem, hh, seval] <;> try simp only [qz] at hb))
        all_goals first | rfl | omega | skip
        refine ⟨⟨k + 1, by omega⟩, by dsimp only; omega, ?_⟩
        simp -implicitDefEqProofs only [e1, e2, go_sem, hh, seval]
        try simp
     ·have e1 := DA (BL a) (show i < w.hosts.length by omega)
      have e2 : Bz (Cg a) ((w.hosts.getD i default).boxes.take k) = BL a (w.hosts.getD i default) := Em _ (by omega)
      simp -implicitDefEqProofs only [hlt2, decide_false, tn, go_sem, hh, seval]
      with_reducible repeat' (first | apply ai | intro _ | ((first | apply s1 | apply s3 | apply s4) <;> intro hb <;> simp -implicitDefEqProofs only [hb, go_sem, hh, seval] <;> try simp only [qz] at hb))
      all_goals (try simp only [maxLen] at *)
      all_goals first | rfl | omega | assumption | decide | skip
      refine ⟨⟨i + 1, by omega⟩, by dsimp only; omega, ?_⟩
      simp -implicitDefEqProofs only [e1, e2, go_sem, hh, seval]
      try simp
   ·have e1 : Bz (BL a) (w.hosts.take i) = Bz (BL a) w.hosts := Em _ (by omega)
    rw [e1]
    simp -implicitDefEqProofs only [hlt, decide_false, go_sem, hh, seval]
    with_reducible repeat' (first | apply ai | intro _ | ((first | apply s1 | apply s3 | apply s4) <;> intro hb <;> simp -implicitDefEqProofs only [hb, go_sem, hh, seval] <;> try simp only [qz] at hb))
    all_goals (try simp only [maxLen] at *)
    all_goals first | rfl | omega | assumption | decide | skip
 ·have b1 := AQ h
  rw [YH h]
  simp -implicitDefEqProofs only [b1, go_sem, hh, seval]
  with_reducible repeat' (first | apply ai | intro _ | ((first | apply s1 | apply s3 | apply s4) <;> intro hb <;> simp -implicitDefEqProofs only [hb, go_sem, hh, seval] <;> try simp only [qz] at hb))
  all_goals first | rfl | omega | assumption | contradiction | skip
end
def M7 {α : Type} [Inhabited α] (enc : α → List T) (xs : List α) (i : Nat) (es : List (List T)) : Prop := es.length = xs.length ∧ ∀ j, i ≤ j → j < xs.length → es[j]? = some (enc (xs.getD j default))
theorem M7.start {α : Type} [Inhabited α] (enc : α → List T) (xs : List α) : M7 enc xs 0 (xs.map enc) := ⟨by simp, fun j _ hj => VL enc hj⟩
theorem M7.next {α : Type} [Inhabited α] {enc : α → List T} {xs : List α} {i : Nat} {es : List (List T)} (h : M7 enc xs i es) (e : List T) : M7 enc xs (i + 1) (es.set i e) := ⟨by rw [List.length_set]; exact h.1, fun j hj hl => by
 rw [List.getElem?_set_ne (by omega)]
 exact h.2 j (by omega) hl⟩
def xi : Ct := Ar (lc Qv.ag (lc DY.ag l0)) (fun p => GY p.1 ∧ E5 p.1 ≤ 1048576) (fun p => .o true 3 ((WU p.1 p.2.1).map BU))
section
attribute [local go_sem] nh xq lm List.length_append List.length_cons List.length_nil List.map_append List.map_nil Nat.zero_add List.nil_append AS.opn AS.cls AS.nilb AS.renb AS.up Bool.not_false Bool.not_true List.set_set List.set_cons_zero List.set_cons_succ List.set_nil List.mem_singleton forall_eq AS.rawh eK AZ AY N7
set_option maxHeartbeats 6400000 in
theorem pz {G : Gt} (hG : Ah G) (hh : G.e 17 = AA 0 nh ∧ G.e 56 = AA 0 xq) : Gd G 14 (AA 0 xi) := by
 refine OP (dp := fun n => !(Nat.beq n 100006 || Nat.beq n 100007 || Nat.beq n 100009 || Nat.beq n 100011)) (fn := Tryz.f14) (n := 2) rfl rfl hG ?_ (hs := fun _ p => .deep _ _)
 rintro ⟨w, a, ⟨⟩⟩ hpre
 simp -implicitDefEqProofs only [Tryz.f14, go_sem, hh, seval] at hpre ⊢
 obtain ⟨zw, zn⟩ := hpre
 by_cases h : Dc w
 ·have b1 := Ap h
  rw [Q4 h]
  simp -implicitDefEqProofs only [b1, go_sem, hh, seval]
  with_reducible repeat' (first | apply ai | intro _ | ((first | apply s1 | apply s3 | apply s4) <;> intro hb <;> simp -implicitDefEqProofs only [hb, go_sem, hh, seval] <;> try simp only [qz] at hb))
  all_goals first | rfl | omega | assumption | contradiction | skip
  refine AE [(5, 1905, true, 3)] (ι := {p : Nat × List (List T) // p.1 ≤ w.hosts.length ∧ M7 Af w.hosts p.1 p.2}) (fun ⟨⟨i, es⟩, _⟩ => ⟨[(3, .pb 1003 0), (5, .h 1905), (15, .h 1014), (16, .t (.v (.int .i64 w.hosts.length))), (17, .t (.v (.int .i64 i)))], [(1003, some (.box ((Am a).map .t))), (1905, some (.arr true 3 ((Bz (BL a) (w.hosts.take i)).map BU))), (1014, some (.arr true 7 es))]⟩) (fun p => w.hosts.length - p.1.1) ⟨(0, w.hosts.map Af), by simp, M7.start _ _⟩ rfl ?_ ?_
  ·simp -implicitDefEqProofs only [go_sem, hh, seval]
   try simp
   try rfl
  ·rintro ⟨⟨i, es⟩, hi, hl⟩
   dsimp only at hi hl ⊢
   by_cases hlt : (i : Int) < w.hosts.length
   ·have zo := zw.1.2 _ (AC (xs := w.hosts) (j := i) (by omega))
    obtain ⟨_, _, ⟨lb, zb⟩, _⟩ := zo
    have hes := hl.2 i (Nat.le_refl _) (by omega)
    have hle := hl.1
    have hlt' : i < es.length := by omega
    simp -implicitDefEqProofs only [hlt, decide_true, tn, go_sem, hh, seval]
    with_reducible repeat' (first | apply ai | intro _ | ((first | apply s1 | apply s3 | apply s4) <;> intro hb <;> simp -implicitDefEqProofs only [hb, go_sem, hh, seval] <;> try simp only [qz] at hb))
    all_goals (try simp only [maxLen] at *)
    all_goals first | rfl | omega | assumption | decide | skip
    refine LK 1014 1906 2906 i 5 rfl hes rfl rfl fun x => AX ?_
    simp -implicitDefEqProofs only [IM hlt', hle, List.length_set, tn, go_sem, hh, seval]
    with_reducible repeat' (first | apply ai | intro _ | ((first | apply s1 | apply s3 | apply s4) <;> intro hb <;> simp -implicitDefEqProofs only [hb, go_sem, hh, seval] <;> try simp only [qz] at hb))
    all_goals (try simp only [maxLen] at *)
    all_goals first | rfl | omega | assumption | decide | skip
    refine AO (Le.rawh 1007 5 1906 2906 rfl rfl rfl) (AX ?_)
    simp -implicitDefEqProofs only [go_sem, hh, seval]
    with_reducible repeat' (first | apply ai | intro _ | ((first | apply s1 | apply s3 | apply s4) <;> intro hb <;> simp -implicitDefEqProofs only [hb, go_sem, hh, seval] <;> try simp only [qz] at hb))
    all_goals (try simp only [maxLen] at *)
    all_goals first | rfl | omega | assumption | decide | skip
    refine AE [(5, 1905, true, 3)] (ι := {p : Nat × List (List T) // p.1 ≤ (w.hosts.getD i default).boxes.length ∧ M7 BT (w.hosts.getD i default).boxes p.1 p.2}) (fun ⟨⟨k, bs⟩, _⟩ => ⟨[(3, .pb 1003 0), (5, .h 1905), (15, .h 1014), (16, .t (.v (.int .i64 w.hosts.length))), (17, .t (.v (.int .i64 i))), (22, .h 1906), (23, .t (.v (.int .i64 (w.hosts.getD i default).boxes.length))), (24, .t (.v (.int .i64 k)))], [(1003, some (.box ((Am a).map .t))), (1905, some (.arr true 3 ((Bz (BL a) (w.hosts.take i) ++ Bz (Cg a) ((w.hosts.getD i default).boxes.take k)).map BU))), (1906, some (.arr true 3 bs)), (1014, some (.arr true 7 (es.set i [.v (.string (w.hosts.getD i default).conf.name), .sl 1 ((w.hosts.getD i default).conf.own.map AH), .sl 2 ((w.hosts.getD i default).conf.ways.map Bt), .v (.int .i64 (w.hosts.getD i default).spool.last), .sl 5 ((w.hosts.getD i default).spool.items.map As), .raw x, .sl 3 ((w.hosts.getD i default).lost.map An)])))]⟩) (fun p => (w.hosts.getD i default).boxes.length - p.1.1) ⟨(0, (w.hosts.getD i default).boxes.map BT), by simp, M7.start _ _⟩ rfl ?_ ?_
    ·simp -implicitDefEqProofs only [go_sem, hh, seval]
     try simp
     try rfl
    ·rintro ⟨⟨k, bs⟩, hk, hm⟩
     dsimp only at hk hm ⊢
     by_cases hlt2 : (k : Int) < (w.hosts.getD i default).boxes.length
     ·obtain ⟨_, ⟨lm, zm⟩⟩ := zb _ (AC (xs := (w.hosts.getD i default).boxes) (j := k) (by omega))
      have hbs := hm.2 k (Nat.le_refl _) (by omega)
      have hbl := hm.1
      have hlt2' : k < bs.length := by omega
      have q1 := N6 (a := a) (w := w) (i := i) (k := k) (n := ((w.hosts.getD i default).boxes.getD k default).mails.length) (by omega) (by omega) (by omega)
      have e1 := DA (Cg a) (show k < (w.hosts.getD i default).boxes.length by omega)
      simp -implicitDefEqProofs only [hlt2, decide_true, tn, go_sem, hh, seval]
      with_reducible repeat' (first | apply ai | intro _ | ((first | apply s1 | apply s3 | apply s4) <;> intro hb <;> simp -implicitDefEqProofs only [hb, go_sem, hh, seval] <;> try simp only [qz] at hb))
      all_goals (try simp only [maxLen] at *)
      all_goals first | rfl | omega | assumption | decide | skip
      refine LK 1906 1908 2908 k 2 rfl hbs rfl rfl fun y => AX ?_
      simp -implicitDefEqProofs only [IM hlt2', hbl, List.length_set, tn, go_sem, hh, seval]
      with_reducible repeat' (first | apply ai | intro _ | ((first | apply s1 | apply s3 | apply s4) <;> intro hb <;> simp -implicitDefEqProofs only [hb, go_sem, hh, seval] <;> try simp only [qz] at hb))
      all_goals (try simp only [maxLen, yg, yh, tY, tZ] at *)
      all_goals first | rfl | omega | assumption | decide | skip
      ·refine AO (Le.rawh 1009 2 1908 2908 rfl rfl rfl) (AX ?_)
       simp -implicitDefEqProofs only [go_sem, hh, seval]
       with_reducible repeat' (first | apply ai | intro _ | ((first | apply s1 | apply s3 | apply s4) <;> intro hb <;> simp -implicitDefEqProofs only [hb, go_sem, hh, seval] <;> try simp only [qz] at hb))
       all_goals (try simp only [maxLen] at *)
       all_goals first | rfl | omega | assumption | decide | skip
       refine ⟨⟨(k + 1, bs.set k [.v (.string ((w.hosts.getD i default).boxes.getD k default).addr.user), .v (.string ((w.hosts.getD i default).boxes.getD k default).addr.domain), .raw y]), by dsimp only; omega, hm.next _⟩, by dsimp only; omega, ?_⟩
       simp -implicitDefEqProofs only [e1, NQ hb, List.append_assoc, go_sem, hh, seval]
       try simp
      ·refine ⟨⟨(k + 1, bs.set k [.v (.string ((w.hosts.getD i default).boxes.getD k default).addr.user), .v (.string ((w.hosts.getD i default).boxes.getD k default).addr.domain), .raw y]), by dsimp only; omega, hm.next _⟩, by dsimp only; omega, ?_⟩
       simp -implicitDefEqProofs only [e1, NP hb, List.append_nil, go_sem, hh, seval]
       try simp
     ·have e1 := DA (BL a) (show i < w.hosts.length by omega)
      have e2 : Bz (Cg a) ((w.hosts.getD i default).boxes.take k) = BL a (w.hosts.getD i default) := Em _ (by omega)
      simp -implicitDefEqProofs only [hlt2, decide_false, go_sem, hh, seval]
      with_reducible repeat' (first | apply ai | intro _ | ((first | apply s1 | apply s3 | apply s4) <;> intro hb <;> simp -implicitDefEqProofs only [hb, go_sem, hh, seval] <;> try simp only [qz] at hb))
      all_goals (try simp only [maxLen] at *)
      all_goals first | rfl | omega | assumption | decide | skip
      refine ⟨⟨(i + 1, es.set i [.v (.string (w.hosts.getD i default).conf.name), .sl 1 ((w.hosts.getD i default).conf.own.map AH), .sl 2 ((w.hosts.getD i default).conf.ways.map Bt), .v (.int .i64 (w.hosts.getD i default).spool.last), .sl 5 ((w.hosts.getD i default).spool.items.map As), .raw x, .sl 3 ((w.hosts.getD i default).lost.map An)]), by dsimp only; omega, hl.next _⟩, by dsimp only; omega, ?_⟩
      simp -implicitDefEqProofs only [e1, e2, go_sem, hh, seval]
      try simp
   ·have e1 : Bz (BL a) (w.hosts.take i) = Bz (BL a) w.hosts := Em _ (by omega)
    rw [e1]
    simp -implicitDefEqProofs only [hlt, decide_false, go_sem, hh, seval]
    with_reducible repeat' (first | apply ai | intro _ | ((first | apply s1 | apply s3 | apply s4) <;> intro hb <;> simp -implicitDefEqProofs only [hb, go_sem, hh, seval] <;> try simp only [qz] at hb))
    all_goals (try simp only [maxLen] at *)
    all_goals first | rfl | omega | assumption | decide | skip
 ·have b1 := AQ h
  rw [YH h]
  simp -implicitDefEqProofs only [b1, go_sem, hh, seval]
  with_reducible repeat' (first | apply ai | intro _ | ((first | apply s1 | apply s3 | apply s4) <;> intro hb <;> simp -implicitDefEqProofs only [hb, go_sem, hh, seval] <;> try simp only [qz] at hb))
  all_goals first | rfl | omega | assumption | contradiction | skip
end
theorem H8 {α : Type} [Inhabited α] {f : α → Int} {y : α} : ∀ {xs : List α} {i : Nat}, i < xs.length → Ak f (xs.set i y) + f (xs.getD i default) = Ak f xs + f y
 | [], i, h => absurd h (Nat.not_lt_zero _)
 | x :: r, 0, _ => by show f y + Ak f r + f x = f x + Ak f r + f y; omega
 | x :: r, i + 1, h => by
   have z := H8 (f := f) (y := y) (xs := r) (i := i) (Nat.lt_of_succ_lt_succ h)
   show f x + Ak f (r.set i y) + f (r.getD i default) = f x + Ak f r + f y
   omega
theorem LS {α : Type} (N : α → Int) : ∀ xs ys : List α, Ak N (xs ++ ys) = Ak N xs + Ak N ys
 | [], ys => by show _ = 0 + _; rw [Int.zero_add]; rfl
 | x :: r, ys => by show N x + Ak N (r ++ ys) = N x + Ak N r + Ak N ys; rw [LS N r ys]; omega
theorem Wh (bs : List Bx) (a : Ad) (g : Gm) : Ak Ig (EN bs a g) = Ak Ig bs + 1 := by
 cases hf : Fn bs a
 ·rw [FD hf, LS]
  have e := LS Ig (bs.take (kS bs a)) (bs.drop (kS bs a))
  rw [List.take_append_drop] at e
  show Ak Ig (bs.take (kS bs a)) + (1 + Ak Ig (bs.drop (kS bs a))) = _
  omega
 ·rw [GG hf]
  have z := H8 (f := Ig) (y := ⟨(bs.getD (kS bs a) default).addr, (bs.getD (kS bs a) default).mails ++ [g]⟩) (Jw hf)
  have e : Ig ⟨(bs.getD (kS bs a) default).addr, (bs.getD (kS bs a) default).mails ++ [g]⟩ = Ig (bs.getD (kS bs a) default) + 1 := by
   unfold Ig; rw [List.length_append]; rfl
  omega
theorem Me (x : Im) : ∀ (ads : List Ad) (g : Hs), Ch (FR x ads g) = Ch g + ads.length
 | [], g => by show Ch g = Ch g + 0; omega
 | a :: r, g => by
   have z := Me x r (FQ g x a)
   have e : Ch (FQ g x a) = Ch g + 1 := Wh _ _ _
   have e2 : Ch (FR x (a :: r) g) = Ch (FR x r (FQ g x a)) := rfl
   rw [List.length_cons]
   omega
theorem Md {c : Cf} {w : Int} : ∀ (xs : List Im) (g : Hs), (∀ x ∈ xs, x.to.length ≤ 4) → Ch (Cy c w xs g) ≤ Ch g + 4 * xs.length
 | [], g, _ => by show Ch g ≤ Ch g + 0; omega
 | x :: t, g, h => by
   have z := Md (c := c) (w := w) t (FR x (A3 c ⟨#[]⟩ w x.to) g) fun y hy => h y (List.mem_cons_of_mem _ hy)
   have e := Me x (A3 c ⟨#[]⟩ w x.to) g
   have l := Ey c ⟨#[]⟩ w x.to
   have h4 := h x (List.mem_cons_self ..)
   have e2 : Ch (Cy c w (x :: t) g) = Ch (Cy c w t (FR x (A3 c ⟨#[]⟩ w x.to) g)) := rfl
   rw [List.length_cons]
   omega
theorem OD {w : Wd} {k : Int} {h : Hs} (q : 0 ≤ k ∧ k ≤ (w.hosts.length : Int) - 1) : E5 (H0 w k h) + Ch (Ai w k) = E5 w + Ch h := H8 (xs := w.hosts) (i := k.toNat) (by omega)
theorem bi (h : Hs) (n : Int) (a : Ad) (out w : Int) : Ch (Hy h n a out w) = Ch h := by
 have e := (D2 h (A8 h.spool n).toNat (B6 (A2 h.spool n) a).toNat a out w).2.1
 show Ak Ig (CV h _ _ a out w).boxes = _
 rw [e]; rfl
theorem mc (h : Hs) (m : Ml) (w : Int) : Ch (JK h m w).1 = Ch h := by
 unfold JK; split <;> rfl
theorem mF (now : Int) : ∀ (ys : List Ml) (t : Hs), Ch (jY now ys t) = Ch t
 | [], _ => rfl
 | y :: r, t => (mF now r _).trans (mc t y now)
theorem mH (n now : Int) : ∀ (ds : List Ad) (os : List Int) (x : Hs), Ch (dK n now ds os x) = Ch x
 | [], os, x => by cases os <;> rfl
 | _ :: _, [], x => rfl
 | a :: r, o :: s, x => (mH n now r s _).trans (bi x n a o now)
theorem aW (w : Wd) (c : Cf) (ls : Bool) (n : Int) : ∀ (rs : List Rc) (x : Hs × Bool), Ch (Qy w c ls n rs x).1 = Ch x.1
 | [], _ => rfl
 | r :: t, x => by
   rw [Qy]
   split
   ·exact (aW w c ls n t _).trans (bi _ _ _ _ _)
   ·exact aW w c ls n t x
theorem cM (k : Int) (mk : ByteArray) : ∀ (ys : List Ml) (w : Wd), 0 ≤ k ∧ k ≤ (w.hosts.length : Int) - 1 → E5 (Qz k mk ys w) = E5 w
 | [], _, _ => rfl
 | y :: t, w, h => by
   rw [Qz]
   split
   ·have e : (w.hosts.set k.toNat (JZ (Ai w k) y w.now)).length = w.hosts.length := List.length_set
    have z := cM k mk t (X0 w k mk y) (by show 0 ≤ k ∧ k ≤ ((w.hosts.set k.toNat _).length : Int) - 1; rw [e]; exact h)
    have z2 := H8 (f := Ch) (xs := w.hosts) (i := k.toNat) (y := JZ (Ai w k) y w.now) (by omega)
    have e2 : Ch (JZ (Ai w k) y w.now) = Ch (w.hosts.getD k.toNat default) := rfl
    have e3 : E5 (X0 w k mk y) = Ak Ch (w.hosts.set k.toNat (JZ (Ai w k) y w.now)) := rfl
    have e4 : E5 w = Ak Ch w.hosts := rfl
    omega
   ·exact cM k mk t w h
theorem kf {N : Nat} {w : Wd} {e : Ev} (q : Ga N w) : E5 (C5 w e).1 ≤ E5 w + 40 := by
 have h0 : E5 w ≤ E5 w + 40 := by omega
 unfold C5
 split
 ·by_cases h : tG w e
  ·rw [cN h]
   have z := cM e.host (Be (OS w e).body) (JH w e) ⟨w.hosts, w.now, w.marks + 1, w.given⟩ h.1
   have e1 : E5 (⟨w.hosts, w.now, w.marks + 1, w.given⟩ : Wd) = E5 w := rfl
   have e2 : E5 (vv w e) = E5 (Qz e.host (Be (OS w e).body) (JH w e) ⟨w.hosts, w.now, w.marks + 1, w.given⟩) := rfl
   show E5 (vv w e) ≤ _
   omega
  ·rw [JG h]; exact h0
 ·split
  ·by_cases h : sf w e
   ·rw [cl h]
    have hl : (H0 w e.to (dJ w e)).hosts.length = w.hosts.length := List.length_set
    have z1 := OD (w := w) (k := e.to) (h := dJ w e) h.2.1
    have z2 := OD (w := H0 w e.to (dJ w e)) (k := e.host) (h := dI w e) (by rw [hl]; exact h.1)
    have hne : ¬ e.to.toNat = e.host.toNat := fun u => h.2.2.1 (by have := h.1; have := h.2.1; omega)
    have e1 : Ai (H0 w e.to (dJ w e)) e.host = Ai w e.host := by
     show (w.hosts.set e.to.toNat _).getD e.host.toNat default = w.hosts.getD e.host.toNat default
     rw [List.getD_eq_getElem?_getD, List.getElem?_set_ne hne, ← List.getD_eq_getElem?_getD]
    rw [e1] at z2
    have b1 : Ch (dJ w e) = Ch (Ai w e.to) := mF _ _ _
    have b2 : Ch (dI w e) = Ch (Ai w e.host) := by
     unfold dI
     cases e.lose
     ·exact mH _ _ _ _ _
     ·rfl
    show E5 (H0 (H0 w e.to (dJ w e)) e.host (dI w e)) ≤ _
    omega
   ·rw [LX h]; exact h0
  ·split
   ·unfold JT
    split
    ·rename_i h
     split
     ·exact h0
     ·have z := OD (w := w) (k := e.host) (h := (Pr w e).1) h
      have b : Ch (Pr w e).1 = Ch (Ai w e.host) := aW _ _ _ _ _ _
      show E5 (H0 w e.host (Pr w e).1) ≤ _
      omega
    ·exact h0
   ·split
    ·split
     ·rename_i h
      have hH := q.1 _ (AC (xs := w.hosts) (j := e.host.toNat) (by omega))
      have z := OD (w := w) (k := e.host) (h := Cy (Ai w e.host).conf w.now (Ai w e.host).spool.items (Ai w e.host)) h
      have b := Md (c := (Ai w e.host).conf) (w := w.now) (Ai w e.host).spool.items (Ai w e.host) fun x hx => (hH.1.2.2.2.1 x hx).1.2.2.2.2.1.2
      have l := hH.1.2.2.2.2.2.2
      show E5 (H0 w e.host (Cy (Ai w e.host).conf w.now (Ai w e.host).spool.items (Ai w e.host))) ≤ _
      have l2 : (Ai w e.host).spool.items.length ≤ 10 := l
      omega
     ·exact h0
    ·split
     ·split
      ·exact h0
      ·exact h0
     ·exact h0
theorem ln : ∀ (es : List Ev) {w : Wd} {N : Nat}, Ga N w → N + 40 * es.length ≤ 1000000 → E5 (br es w) ≤ E5 w + 40 * es.length
 | [], w, N, q, _ => by show E5 w ≤ E5 w + 0; omega
 | e :: t, w, N, q, h => by
   rw [List.length_cons] at h ⊢
   have z := ln t (PS (e := e) q (by omega)) (by omega)
   have z2 := kf (e := e) q
   have e2 : E5 (br (e :: t) w) = E5 (br t (C5 w e).1) := rfl
   omega
theorem Va : ∀ cs : List Cf, Ak Ch (cs.map Ew) = 0
 | [] => rfl
 | c :: r => by
   have z := Va r
   show 0 + Ak Ch (r.map Ew) = 0
   omega
theorem wy (r : Rd) : E5 (C3 r) ≤ 1600 := by
 have hl : ((HK r).2.2.take 40).length ≤ 40 := by rw [List.length_take]; omega
 have z := ln ((HK r).2.2.take 40) (M4 (Hj r)) (by omega)
 have e : E5 (ER (DN r)) = 0 := Va _
 show E5 (br ((HK r).2.2.take 40) (ER (DN r))) ≤ _
 omega
theorem ti {r : Rd} (h : 0 ≤ r.p) (h1 : r.p ≤ 999500000) : E5 (aw r).1 ≤ 1600 := by
 have hk := UM h (by omega)
 have z := wy r
 have key : ∀ y : Hs, Ch y = Ch ((C3 r).hosts.getD (Xs r).toNat default) → Ak Ch ((C3 r).hosts.set (Xs r).toNat y) ≤ 1600 := fun y e => by
  have q := H8 (f := Ch) (xs := (C3 r).hosts) (i := (Xs r).toNat) (y := y) (by omega)
  have e2 : E5 (C3 r) = Ak Ch (C3 r).hosts := rfl
  omega
 by_cases c0 : Ej r = 0
 ·rw [Yp c0]; exact key _ rfl
 ·by_cases c1 : Ej r = 1
  ·rw [Yq c1]; exact key _ rfl
  ·by_cases c2 : Ej r = 2
   ·rw [Yr c2]; exact z
   ·by_cases c3 : Ej r = 3
    ·rw [Ys c3]; exact z
    ·by_cases c4 : Ej r = 4
     ·rw [Yt c4]; show (0 : Int) ≤ 1600; decide
     ·rw [Yu ⟨c0, c1, c2, c3, c4⟩]; exact z
theorem dt {r : Rd} : (CS r).2.b = r.b ∧ r.p ≤ (CS r).2.p ∧ (CS r).2.p ≤ r.p + 4 := by
 unfold CS
 dsimp only
 repeat' split
 all_goals exact ⟨Bi .., by dsimp only; rw [AK]; omega, by dsimp only; rw [AK]; omega⟩
theorem xg {r : Rd} (h : 0 ≤ r.p) (h1 : r.p ≤ 999400000) : r.p ≤ (aw r).2.p ∧ (aw r).2.p ≤ r.p + 3000 := by
 have hq := UN h (by omega)
 have p2 : ((EM r).nx 2).p = (EM r).p + 2 := AK _ _
 have p3 : ((EM r).nx 3).p = (EM r).p + 3 := AK _ _
 by_cases c0 : Ej r = 0
 ·rw [Yp c0]
  have q := (Ym (r := (EM r).nx 2) (by omega) (by omega)).2.2
  exact ⟨by show _ ≤ (KT _).2.p; omega, by show (KT _).2.p ≤ _; omega⟩
 ·by_cases c1 : Ej r = 1
  ·rw [Yq c1]
   have q := (dt (r := (EM r).nx 2)).2
   exact ⟨by show _ ≤ (CS _).2.p; omega, by show (CS _).2.p ≤ _; omega⟩
  ·by_cases c2 : Ej r = 2
   ·rw [Yr c2]; exact ⟨by dsimp only; omega, by dsimp only; omega⟩
   ·by_cases c3 : Ej r = 3
    ·rw [Ys c3]
     have q := (O3 (r := (EM r).nx 3) (by omega) (by omega)).2.2
     exact ⟨by show _ ≤ (Ce _).2.p; omega, by show (Ce _).2.p ≤ _; omega⟩
    ·by_cases c4 : Ej r = 4
     ·rw [Yt c4]; exact ⟨by dsimp only; omega, by dsimp only; omega⟩
     ·rw [Yu ⟨c0, c1, c2, c3, c4⟩]; exact ⟨by dsimp only; omega, by dsimp only; omega⟩
section
attribute [local go_sem] GK xA xF AK Bi A5 A7 BD BQ CE BP BR lm List.length_append List.length_cons List.length_nil List.map_append List.map_nil Nat.zero_add List.nil_append AS.opn AS.cls AS.nilb AS.renb AS.up Bool.not_false Bool.not_true List.set_set List.set_cons_zero List.set_cons_succ List.set_nil List.mem_singleton forall_eq Ew AT G7 G8 G9 Du Dv
end
section
attribute [local go_sem] GK Xt UY d8 AK Bi A5 A7 BD BQ CE BP BR lm List.length_append List.length_cons List.length_nil List.map_append List.map_nil Nat.zero_add List.nil_append AS.opn AS.cls AS.nilb AS.renb AS.up Bool.not_false Bool.not_true List.set_set List.set_cons_zero List.set_cons_succ List.set_nil List.mem_singleton forall_eq Fj Fk AT G7 G8 G9 Du Dv
end
section
variable {r : Rd}
end
section
attribute [local go_sem] GK Wj d6 AK Bi A5 A7 BD BQ CE BP BR lm List.length_append List.length_cons List.length_nil List.map_append List.map_nil Nat.zero_add List.nil_append AS.opn AS.cls AS.nilb AS.renb AS.up Bool.not_false Bool.not_true List.set_set List.set_cons_zero List.set_cons_succ List.set_nil List.mem_singleton forall_eq AT G7 G8 G9 Du Dv
end
end Go.V
