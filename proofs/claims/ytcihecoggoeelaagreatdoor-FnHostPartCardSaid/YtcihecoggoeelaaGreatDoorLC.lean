/- The row. No condition. -/
import Derived.Test.YtcihecoggoeelaaGreatDoorLB
import Derived.Test.YtcihecoggoeelaaGreatDoorYB
import Derived.Test.YtcihecoggoeelaaGreatDoorLA
import Derived.ProofKit
import Derived.Carry
import Derived.WalkKit
import Derived.Test.YtcihecoggoeelaaGreatDoorCards
import Derived.Test.YtcihecoggoeelaaGreatDoorTie
import Derived.OpenShut
import Derived.Deep.DeepHandedRow
namespace Go.V
open Go Go.Proofs
set_option maxRecDepth 100000
set_option linter.unusedSimpArgs false
set_option linter.unusedVariables false
open Classical in
noncomputable def Aj (s : Ss) (l : ByteArray) : (Ss × ByteArray) × Bool := (if l = ⟨#[46]⟩ then (if s.bad = true then ((⟨1, s.mail, s.bad, s.buf⟩, ⟨#[53, 53, 52, 32, 110, 111]⟩), false) else (if DW s.mail.body then (if (s.mail.body.length : Int) ≥ 12 then ((⟨1, s.mail, s.bad, s.buf⟩, ⟨#[53, 53, 52, 32, 110, 111]⟩), false) else (if (D5 s.mail.body : Int) ≥ 4 then ((⟨1, s.mail, s.bad, s.buf⟩, ⟨#[53, 53, 52, 32, 114, 111, 117, 110, 100]⟩), false) else ((⟨1, s.mail, s.bad, s.buf⟩, ⟨#[50, 53, 48, 32, 116, 97, 107, 101, 110]⟩), true))) else ((⟨1, s.mail, s.bad, s.buf⟩, ⟨#[53, 53, 52, 32, 110, 111]⟩), false))) else (if l = ⟨#[]⟩ then (if (s.mail.body.length : Int) ≥ 12 then ((⟨s.state, s.mail, true, s.buf⟩, ⟨#[]⟩), false) else (if Ib l then ((⟨s.state, ⟨s.mail.frm, s.mail.to, s.mail.body ++ [l]⟩, s.bad, s.buf⟩, ⟨#[]⟩), false) else ((⟨s.state, s.mail, true, s.buf⟩, ⟨#[]⟩), false))) else (if AC l 0 = 46 then (if (s.mail.body.length : Int) ≥ 12 then ((⟨s.state, s.mail, true, s.buf⟩, ⟨#[]⟩), false) else (if Ib (l.extract 1 l.size) then ((⟨s.state, ⟨s.mail.frm, s.mail.to, s.mail.body ++ [l.extract 1 l.size]⟩, s.bad, s.buf⟩, ⟨#[]⟩), false) else ((⟨s.state, s.mail, true, s.buf⟩, ⟨#[]⟩), false))) else (if (s.mail.body.length : Int) ≥ 12 then ((⟨s.state, s.mail, true, s.buf⟩, ⟨#[]⟩), false) else (if Ib l then ((⟨s.state, ⟨s.mail.frm, s.mail.to, s.mail.body ++ [l]⟩, s.bad, s.buf⟩, ⟨#[]⟩), false) else ((⟨s.state, s.mail, true, s.buf⟩, ⟨#[]⟩), false))))))
theorem nF {s : Ss} {l : ByteArray} (h0 : l = ⟨#[46]⟩) (h1 : s.bad = true) : Aj s l = ((⟨1, s.mail, s.bad, s.buf⟩, ⟨#[53, 53, 52, 32, 110, 111]⟩), false) := by unfold Aj; rw [if_pos h0, if_pos h1]
theorem nG {s : Ss} {l : ByteArray} (h0 : l = ⟨#[46]⟩) (h1 : ¬ (s.bad = true)) (h2 : DW s.mail.body) (h3 : (s.mail.body.length : Int) ≥ 12) : Aj s l = ((⟨1, s.mail, s.bad, s.buf⟩, ⟨#[53, 53, 52, 32, 110, 111]⟩), false) := by unfold Aj; rw [if_pos h0, if_neg h1, if_pos h2, if_pos h3]
theorem nH {s : Ss} {l : ByteArray} (h0 : l = ⟨#[46]⟩) (h1 : ¬ (s.bad = true)) (h2 : DW s.mail.body) (h3 : ¬ ((s.mail.body.length : Int) ≥ 12)) (h4 : (D5 s.mail.body : Int) ≥ 4) : Aj s l = ((⟨1, s.mail, s.bad, s.buf⟩, ⟨#[53, 53, 52, 32, 114, 111, 117, 110, 100]⟩), false) := by unfold Aj; rw [if_pos h0, if_neg h1, if_pos h2, if_neg h3, if_pos h4]
theorem nI {s : Ss} {l : ByteArray} (h0 : l = ⟨#[46]⟩) (h1 : ¬ (s.bad = true)) (h2 : DW s.mail.body) (h3 : ¬ ((s.mail.body.length : Int) ≥ 12)) (h4 : ¬ ((D5 s.mail.body : Int) ≥ 4)) : Aj s l = ((⟨1, s.mail, s.bad, s.buf⟩, ⟨#[50, 53, 48, 32, 116, 97, 107, 101, 110]⟩), true) := by unfold Aj; rw [if_pos h0, if_neg h1, if_pos h2, if_neg h3, if_neg h4]
theorem nJ {s : Ss} {l : ByteArray} (h0 : l = ⟨#[46]⟩) (h1 : ¬ (s.bad = true)) (h2 : ¬ (DW s.mail.body)) : Aj s l = ((⟨1, s.mail, s.bad, s.buf⟩, ⟨#[53, 53, 52, 32, 110, 111]⟩), false) := by unfold Aj; rw [if_pos h0, if_neg h1, if_neg h2]
theorem nK {s : Ss} {l : ByteArray} (h0 : ¬ (l = ⟨#[46]⟩)) (h1 : l = ⟨#[]⟩) (h2 : (s.mail.body.length : Int) ≥ 12) : Aj s l = ((⟨s.state, s.mail, true, s.buf⟩, ⟨#[]⟩), false) := by unfold Aj; rw [if_neg h0, if_pos h1, if_pos h2]
theorem nL {s : Ss} {l : ByteArray} (h0 : ¬ (l = ⟨#[46]⟩)) (h1 : l = ⟨#[]⟩) (h2 : ¬ ((s.mail.body.length : Int) ≥ 12)) (h3 : Ib l) : Aj s l = ((⟨s.state, ⟨s.mail.frm, s.mail.to, s.mail.body ++ [l]⟩, s.bad, s.buf⟩, ⟨#[]⟩), false) := by unfold Aj; rw [if_neg h0, if_pos h1, if_neg h2, if_pos h3]
theorem nM {s : Ss} {l : ByteArray} (h0 : ¬ (l = ⟨#[46]⟩)) (h1 : l = ⟨#[]⟩) (h2 : ¬ ((s.mail.body.length : Int) ≥ 12)) (h3 : ¬ (Ib l)) : Aj s l = ((⟨s.state, s.mail, true, s.buf⟩, ⟨#[]⟩), false) := by unfold Aj; rw [if_neg h0, if_pos h1, if_neg h2, if_neg h3]
theorem nN {s : Ss} {l : ByteArray} (h0 : ¬ (l = ⟨#[46]⟩)) (h1 : ¬ (l = ⟨#[]⟩)) (h2 : AC l 0 = 46) (h3 : (s.mail.body.length : Int) ≥ 12) : Aj s l = ((⟨s.state, s.mail, true, s.buf⟩, ⟨#[]⟩), false) := by unfold Aj; rw [if_neg h0, if_neg h1, if_pos h2, if_pos h3]
theorem nO {s : Ss} {l : ByteArray} (h0 : ¬ (l = ⟨#[46]⟩)) (h1 : ¬ (l = ⟨#[]⟩)) (h2 : AC l 0 = 46) (h3 : ¬ ((s.mail.body.length : Int) ≥ 12)) (h4 : Ib (l.extract 1 l.size)) : Aj s l = ((⟨s.state, ⟨s.mail.frm, s.mail.to, s.mail.body ++ [l.extract 1 l.size]⟩, s.bad, s.buf⟩, ⟨#[]⟩), false) := by unfold Aj; rw [if_neg h0, if_neg h1, if_pos h2, if_neg h3, if_pos h4]
theorem cY {s : Ss} {l : ByteArray} (h0 : ¬ (l = ⟨#[46]⟩)) (h1 : ¬ (l = ⟨#[]⟩)) (h2 : AC l 0 = 46) (h3 : ¬ ((s.mail.body.length : Int) ≥ 12)) (h4 : ¬ (Ib (l.extract 1 l.size))) : Aj s l = ((⟨s.state, s.mail, true, s.buf⟩, ⟨#[]⟩), false) := by unfold Aj; rw [if_neg h0, if_neg h1, if_pos h2, if_neg h3, if_neg h4]
theorem cZ {s : Ss} {l : ByteArray} (h0 : ¬ (l = ⟨#[46]⟩)) (h1 : ¬ (l = ⟨#[]⟩)) (h2 : ¬ (AC l 0 = 46)) (h3 : (s.mail.body.length : Int) ≥ 12) : Aj s l = ((⟨s.state, s.mail, true, s.buf⟩, ⟨#[]⟩), false) := by unfold Aj; rw [if_neg h0, if_neg h1, if_neg h2, if_pos h3]
theorem ca {s : Ss} {l : ByteArray} (h0 : ¬ (l = ⟨#[46]⟩)) (h1 : ¬ (l = ⟨#[]⟩)) (h2 : ¬ (AC l 0 = 46)) (h3 : ¬ ((s.mail.body.length : Int) ≥ 12)) (h4 : Ib l) : Aj s l = ((⟨s.state, ⟨s.mail.frm, s.mail.to, s.mail.body ++ [l]⟩, s.bad, s.buf⟩, ⟨#[]⟩), false) := by unfold Aj; rw [if_neg h0, if_neg h1, if_neg h2, if_neg h3, if_pos h4]
theorem cb {s : Ss} {l : ByteArray} (h0 : ¬ (l = ⟨#[46]⟩)) (h1 : ¬ (l = ⟨#[]⟩)) (h2 : ¬ (AC l 0 = 46)) (h3 : ¬ ((s.mail.body.length : Int) ≥ 12)) (h4 : ¬ (Ib l)) : Aj s l = ((⟨s.state, s.mail, true, s.buf⟩, ⟨#[]⟩), false) := by unfold Aj; rw [if_neg h0, if_neg h1, if_neg h2, if_neg h3, if_neg h4]
def mU : Ct := Aq (lc bc.ag (lc Ap l0)) (fun p => p.1.mail.body.length ≤ 1000) (fun p => .tup [.agg ((Eh (Aj p.1 p.2.1).1.1).map .t), .t (.v (.string (Aj p.1 p.2.1).1.2)), .t (.v (.bool (Aj p.1 p.2.1).2))])
section
attribute [local go_sem] Mj mY Qc Int.toNat_zero wj AS.opn AS.cls AS.nilb AS.renb AS.up Bool.not_false Bool.not_true List.set_set List.set_cons_zero List.set_cons_succ List.set_nil List.mem_singleton forall_eq tn List.map_nil List.nil_append
set_option maxHeartbeats 3200000 in
theorem fF {G : Gt} (hG : Ah G) (hh : G.e 120 = AA 0 Mj ∧ G.e 225 = AA 0 mY ∧ G.e 108 = AA 0 Qc) : Gd G 221 (AA 1 mU) := by
 refine gr (fn := Tryz.f221) (n := 2) rfl rfl hG ?_
 rintro ⟨s, l, ⟨⟩⟩ hpre
 have hn : s.mail.body.length ≤ 1000 := hpre
 try dsimp only
 refine BH (l = ⟨#[46]⟩) (fun h0 => BH (s.bad = true) (fun h1 => have hx := And.intro (nF h0 h1 : Aj s l = _) (And.intro h0 h1); ?_) (fun h1 => have h1' := (Bool.not_eq_true _).mp h1; BH (DW s.mail.body) (fun h2 => have h2' := Ak h2; BH ((s.mail.body.length : Int) ≥ 12) (fun h3 => have hx := And.intro (nG h0 h1 h2 h3 : Aj s l = _) (And.intro h0 (And.intro h1' (And.intro h2' h3))); ?_) (fun h3 => BH ((D5 s.mail.body : Int) ≥ 4) (fun h4 => have hx := And.intro (nH h0 h1 h2 h3 h4 : Aj s l = _) (And.intro h0 (And.intro h1' (And.intro h2' (And.intro h3 h4)))); ?_) (fun h4 => have hx := And.intro (nI h0 h1 h2 h3 h4 : Aj s l = _) (And.intro h0 (And.intro h1' (And.intro h2' (And.intro h3 h4)))); ?_))) (fun h2 => have h2' := AO h2; have hx := And.intro (nJ h0 h1 h2 : Aj s l = _) (And.intro h0 (And.intro h1' h2')); ?_))) (fun h0 => BH (l = ⟨#[]⟩) (fun h1 => BH ((s.mail.body.length : Int) ≥ 12) (fun h2 => have hx := And.intro (nK h0 h1 h2 : Aj s l = _) (And.intro h0 (And.intro h1 h2)); ?_) (fun h2 => BH (Ib l) (fun h3 => have h3' := Ak h3; have hx := And.intro (nL h0 h1 h2 h3 : Aj s l = _) (And.intro h0 (And.intro h1 (And.intro h2 h3'))); ?_) (fun h3 => have h3' := AO h3; have hx := And.intro (nM h0 h1 h2 h3 : Aj s l = _) (And.intro h0 (And.intro h1 (And.intro h2 h3'))); ?_))) (fun h1 => BH (AC l 0 = 46) (fun h2 => BH ((s.mail.body.length : Int) ≥ 12) (fun h3 => have hx := And.intro (nN h0 h1 h2 h3 : Aj s l = _) (And.intro h0 (And.intro h1 (And.intro h2 h3))); ?_) (fun h3 => BH (Ib (l.extract 1 l.size)) (fun h4 => have h4' := Ak h4; have hx := And.intro (nO h0 h1 h2 h3 h4 : Aj s l = _) (And.intro h0 (And.intro h1 (And.intro h2 (And.intro h3 h4')))); ?_) (fun h4 => have h4' := AO h4; have hx := And.intro (cY h0 h1 h2 h3 h4 : Aj s l = _) (And.intro h0 (And.intro h1 (And.intro h2 (And.intro h3 h4')))); ?_))) (fun h2 => BH ((s.mail.body.length : Int) ≥ 12) (fun h3 => have hx := And.intro (cZ h0 h1 h2 h3 : Aj s l = _) (And.intro h0 (And.intro h1 (And.intro h2 h3))); ?_) (fun h3 => BH (Ib l) (fun h4 => have h4' := Ak h4; have hx := And.intro (ca h0 h1 h2 h3 h4 : Aj s l = _) (And.intro h0 (And.intro h1 (And.intro h2 (And.intro h3 h4')))); ?_) (fun h4 => have h4' := AO h4; have hx := And.intro (cb h0 h1 h2 h3 h4 : Aj s l = _) (And.intro h0 (And.intro h1 (And.intro h2 (And.intro h3 h4')))); ?_)))))
 all_goals
  try rw [hx.1]
  simp -implicitDefEqProofs only [Tryz.f221, hx, eq_self, decide_true, decide_false, Int.reduceEq, go_sem, hh, seval]
  with_reducible repeat' (first | apply ai | intro _ | ((first | apply s1 | apply s3 | apply s4) <;> intro hb <;> simp -implicitDefEqProofs only [hb, go_sem, hh, seval] <;> try simp only [qz] at hb))
  all_goals (try simp only [maxLen, tn, lm] at *)
  all_goals first | rfl | omega | decide | with_reducible assumption | (show AX _ = true; rfl) | exact Hf (by assumption) | contradiction | (subst h1; contradiction) | (subst h1; exact absurd rfl (by assumption)) | (simp [AH]; done) | skip
end
open Classical in
noncomputable def Ba (c : Cf) (s : Ss) (l : ByteArray) : Ss × ByteArray := (if (As l ⟨#[72, 69, 76, 79, 32]⟩).2 = true then (if Cc (As l ⟨#[72, 69, 76, 79, 32]⟩).1 then (FT ⟨1, s.mail, s.bad, s.buf⟩, ⟨#[50, 53, 48, 32]⟩ ++ c.name) else (s, ⟨#[53, 48, 49, 32, 102, 111, 114, 109]⟩)) else (if l = ⟨#[81, 85, 73, 84]⟩ then (FT ⟨5, s.mail, s.bad, s.buf⟩, ⟨#[50, 50, 49, 32, 98, 121, 101]⟩) else (if l = ⟨#[78, 79, 79, 80]⟩ then (s, ⟨#[50, 53, 48, 32, 111, 107]⟩) else (if l = ⟨#[82, 83, 69, 84]⟩ then (if s.state = 0 then (FT s, ⟨#[50, 53, 48, 32, 111, 107]⟩) else (FT ⟨1, s.mail, s.bad, s.buf⟩, ⟨#[50, 53, 48, 32, 111, 107]⟩)) else (if (As l ⟨#[77, 65, 73, 76, 32, 70, 82, 79, 77, 58]⟩).2 = true then Ei s (As l ⟨#[77, 65, 73, 76, 32, 70, 82, 79, 77, 58]⟩).1 else (if (As l ⟨#[82, 67, 80, 84, 32, 84, 79, 58]⟩).2 = true then Ht c s (As l ⟨#[82, 67, 80, 84, 32, 84, 79, 58]⟩).1 else (if l = ⟨#[68, 65, 84, 65]⟩ then (if s.state = 3 then (⟨4, s.mail, s.bad, s.buf⟩, ⟨#[51, 53, 52, 32, 103, 111, 32, 111, 110]⟩) else (s, ⟨#[53, 48, 51, 32, 111, 114, 100, 101, 114]⟩)) else (s, ⟨#[53, 48, 48, 32, 119, 104, 97, 116]⟩))))))))
theorem mm {c : Cf} {s : Ss} {l : ByteArray} (h0 : (As l ⟨#[72, 69, 76, 79, 32]⟩).2 = true) (h1 : Cc (As l ⟨#[72, 69, 76, 79, 32]⟩).1) : Ba c s l = (FT ⟨1, s.mail, s.bad, s.buf⟩, ⟨#[50, 53, 48, 32]⟩ ++ c.name) := by unfold Ba; rw [if_pos h0, if_pos h1]
theorem mn {c : Cf} {s : Ss} {l : ByteArray} (h0 : (As l ⟨#[72, 69, 76, 79, 32]⟩).2 = true) (h1 : ¬ (Cc (As l ⟨#[72, 69, 76, 79, 32]⟩).1)) : Ba c s l = (s, ⟨#[53, 48, 49, 32, 102, 111, 114, 109]⟩) := by unfold Ba; rw [if_pos h0, if_neg h1]
theorem mo {c : Cf} {s : Ss} {l : ByteArray} (h0 : ¬ ((As l ⟨#[72, 69, 76, 79, 32]⟩).2 = true)) (h1 : l = ⟨#[81, 85, 73, 84]⟩) : Ba c s l = (FT ⟨5, s.mail, s.bad, s.buf⟩, ⟨#[50, 50, 49, 32, 98, 121, 101]⟩) := by unfold Ba; rw [if_neg h0, if_pos h1]
theorem mq {c : Cf} {s : Ss} {l : ByteArray} (h0 : ¬ ((As l ⟨#[72, 69, 76, 79, 32]⟩).2 = true)) (h1 : ¬ (l = ⟨#[81, 85, 73, 84]⟩)) (h2 : l = ⟨#[78, 79, 79, 80]⟩) : Ba c s l = (s, ⟨#[50, 53, 48, 32, 111, 107]⟩) := by unfold Ba; rw [if_neg h0, if_neg h1, if_pos h2]
theorem mr {c : Cf} {s : Ss} {l : ByteArray} (h0 : ¬ ((As l ⟨#[72, 69, 76, 79, 32]⟩).2 = true)) (h1 : ¬ (l = ⟨#[81, 85, 73, 84]⟩)) (h2 : ¬ (l = ⟨#[78, 79, 79, 80]⟩)) (h3 : l = ⟨#[82, 83, 69, 84]⟩) (h4 : s.state = 0) : Ba c s l = (FT s, ⟨#[50, 53, 48, 32, 111, 107]⟩) := by unfold Ba; rw [if_neg h0, if_neg h1, if_neg h2, if_pos h3, if_pos h4]
theorem mt {c : Cf} {s : Ss} {l : ByteArray} (h0 : ¬ ((As l ⟨#[72, 69, 76, 79, 32]⟩).2 = true)) (h1 : ¬ (l = ⟨#[81, 85, 73, 84]⟩)) (h2 : ¬ (l = ⟨#[78, 79, 79, 80]⟩)) (h3 : l = ⟨#[82, 83, 69, 84]⟩) (h4 : ¬ (s.state = 0)) : Ba c s l = (FT ⟨1, s.mail, s.bad, s.buf⟩, ⟨#[50, 53, 48, 32, 111, 107]⟩) := by unfold Ba; rw [if_neg h0, if_neg h1, if_neg h2, if_pos h3, if_neg h4]
theorem mw {c : Cf} {s : Ss} {l : ByteArray} (h0 : ¬ ((As l ⟨#[72, 69, 76, 79, 32]⟩).2 = true)) (h1 : ¬ (l = ⟨#[81, 85, 73, 84]⟩)) (h2 : ¬ (l = ⟨#[78, 79, 79, 80]⟩)) (h3 : ¬ (l = ⟨#[82, 83, 69, 84]⟩)) (h4 : (As l ⟨#[77, 65, 73, 76, 32, 70, 82, 79, 77, 58]⟩).2 = true) : Ba c s l = Ei s (As l ⟨#[77, 65, 73, 76, 32, 70, 82, 79, 77, 58]⟩).1 := by unfold Ba; rw [if_neg h0, if_neg h1, if_neg h2, if_neg h3, if_pos h4]
theorem my {c : Cf} {s : Ss} {l : ByteArray} (h0 : ¬ ((As l ⟨#[72, 69, 76, 79, 32]⟩).2 = true)) (h1 : ¬ (l = ⟨#[81, 85, 73, 84]⟩)) (h2 : ¬ (l = ⟨#[78, 79, 79, 80]⟩)) (h3 : ¬ (l = ⟨#[82, 83, 69, 84]⟩)) (h4 : ¬ ((As l ⟨#[77, 65, 73, 76, 32, 70, 82, 79, 77, 58]⟩).2 = true)) (h5 : (As l ⟨#[82, 67, 80, 84, 32, 84, 79, 58]⟩).2 = true) : Ba c s l = Ht c s (As l ⟨#[82, 67, 80, 84, 32, 84, 79, 58]⟩).1 := by unfold Ba; rw [if_neg h0, if_neg h1, if_neg h2, if_neg h3, if_neg h4, if_pos h5]
theorem mz {c : Cf} {s : Ss} {l : ByteArray} (h0 : ¬ ((As l ⟨#[72, 69, 76, 79, 32]⟩).2 = true)) (h1 : ¬ (l = ⟨#[81, 85, 73, 84]⟩)) (h2 : ¬ (l = ⟨#[78, 79, 79, 80]⟩)) (h3 : ¬ (l = ⟨#[82, 83, 69, 84]⟩)) (h4 : ¬ ((As l ⟨#[77, 65, 73, 76, 32, 70, 82, 79, 77, 58]⟩).2 = true)) (h5 : ¬ ((As l ⟨#[82, 67, 80, 84, 32, 84, 79, 58]⟩).2 = true)) (h6 : l = ⟨#[68, 65, 84, 65]⟩) (h7 : s.state = 3) : Ba c s l = (⟨4, s.mail, s.bad, s.buf⟩, ⟨#[51, 53, 52, 32, 103, 111, 32, 111, 110]⟩) := by unfold Ba; rw [if_neg h0, if_neg h1, if_neg h2, if_neg h3, if_neg h4, if_neg h5, if_pos h6, if_pos h7]
theorem m0 {c : Cf} {s : Ss} {l : ByteArray} (h0 : ¬ ((As l ⟨#[72, 69, 76, 79, 32]⟩).2 = true)) (h1 : ¬ (l = ⟨#[81, 85, 73, 84]⟩)) (h2 : ¬ (l = ⟨#[78, 79, 79, 80]⟩)) (h3 : ¬ (l = ⟨#[82, 83, 69, 84]⟩)) (h4 : ¬ ((As l ⟨#[77, 65, 73, 76, 32, 70, 82, 79, 77, 58]⟩).2 = true)) (h5 : ¬ ((As l ⟨#[82, 67, 80, 84, 32, 84, 79, 58]⟩).2 = true)) (h6 : l = ⟨#[68, 65, 84, 65]⟩) (h7 : ¬ (s.state = 3)) : Ba c s l = (s, ⟨#[53, 48, 51, 32, 111, 114, 100, 101, 114]⟩) := by unfold Ba; rw [if_neg h0, if_neg h1, if_neg h2, if_neg h3, if_neg h4, if_neg h5, if_pos h6, if_neg h7]
theorem cU {c : Cf} {s : Ss} {l : ByteArray} (h0 : ¬ ((As l ⟨#[72, 69, 76, 79, 32]⟩).2 = true)) (h1 : ¬ (l = ⟨#[81, 85, 73, 84]⟩)) (h2 : ¬ (l = ⟨#[78, 79, 79, 80]⟩)) (h3 : ¬ (l = ⟨#[82, 83, 69, 84]⟩)) (h4 : ¬ ((As l ⟨#[77, 65, 73, 76, 32, 70, 82, 79, 77, 58]⟩).2 = true)) (h5 : ¬ ((As l ⟨#[82, 67, 80, 84, 32, 84, 79, 58]⟩).2 = true)) (h6 : ¬ (l = ⟨#[68, 65, 84, 65]⟩)) : Ba c s l = (s, ⟨#[53, 48, 48, 32, 119, 104, 97, 116]⟩) := by unfold Ba; rw [if_neg h0, if_neg h1, if_neg h2, if_neg h3, if_neg h4, if_neg h5, if_neg h6]
def mT : Ct := Aq (lc H3.ag (lc bc.ag (lc Ap l0))) (fun p => p.1.name.size ≤ 1000000 ∧ p.2.1.mail.to.length ≤ 1000 ∧ p.2.2.1.size ≤ 2000000) (fun p => .tup [.agg ((Eh (Ba p.1 p.2.1 p.2.2.1).1).map .t), .t (.v (.string (Ba p.1 p.2.1 p.2.2.1).2))])
section
attribute [local go_sem] mV Xt Qj mW mX AS.opn AS.cls AS.nilb AS.renb AS.up Bool.not_false Bool.not_true List.set_set List.set_cons_zero List.set_cons_succ List.set_nil List.mem_singleton forall_eq tn List.map_nil List.nil_append
set_option maxHeartbeats 3200000 in
theorem fE {G : Gt} (hG : Ah G) (hh : G.e 222 = AA 0 mV ∧ G.e 40 = AA 0 Xt ∧ G.e 215 = AA 1 Qj ∧ G.e 223 = AA 1 mW ∧ G.e 224 = AA 1 mX) : Gd G 220 (AA 1 mT) := by
 refine gr (fn := Tryz.f220) (n := 3) rfl rfl hG ?_
 rintro ⟨c, s, l, ⟨⟩⟩ hpre
 obtain ⟨hn, ht, hz⟩ := hpre
 try dsimp only at hn ht hz ⊢
 have z1 := NX l ⟨#[72, 69, 76, 79, 32]⟩
 have z2 := NX l ⟨#[77, 65, 73, 76, 32, 70, 82, 79, 77, 58]⟩
 have z3 := NX l ⟨#[82, 67, 80, 84, 32, 84, 79, 58]⟩
 have z4 : (⟨#[50, 53, 48, 32]⟩ : ByteArray).size = 4 := rfl
 refine BH ((As l ⟨#[72, 69, 76, 79, 32]⟩).2 = true) (fun h0 => BH (Cc (As l ⟨#[72, 69, 76, 79, 32]⟩).1) (fun h1 => have h1' := Ak h1; have hx := And.intro (mm h0 h1 : Ba c s l = _) (And.intro h0 h1'); ?_) (fun h1 => have h1' := AO h1; have hx := And.intro (mn h0 h1 : Ba c s l = _) (And.intro h0 h1'); ?_)) (fun h0 => have h0' := (Bool.not_eq_true _).mp h0; BH (l = ⟨#[81, 85, 73, 84]⟩) (fun h1 => have hx := And.intro (mo h0 h1 : Ba c s l = _) (And.intro h0' h1); ?_) (fun h1 => BH (l = ⟨#[78, 79, 79, 80]⟩) (fun h2 => have hx := And.intro (mq h0 h1 h2 : Ba c s l = _) (And.intro h0' (And.intro h1 h2)); ?_) (fun h2 => BH (l = ⟨#[82, 83, 69, 84]⟩) (fun h3 => BH (s.state = 0) (fun h4 => have h4' := decide_eq_true h4; have hx := And.intro (mr h0 h1 h2 h3 h4 : Ba c s l = _) (And.intro h0' (And.intro h1 (And.intro h2 (And.intro h3 h4')))); ?_) (fun h4 => have h4' := decide_eq_false h4; have hx := And.intro (mt h0 h1 h2 h3 h4 : Ba c s l = _) (And.intro h0' (And.intro h1 (And.intro h2 (And.intro h3 h4')))); ?_)) (fun h3 => BH ((As l ⟨#[77, 65, 73, 76, 32, 70, 82, 79, 77, 58]⟩).2 = true) (fun h4 => have hx := And.intro (mw h0 h1 h2 h3 h4 : Ba c s l = _) (And.intro h0' (And.intro h1 (And.intro h2 (And.intro h3 h4)))); ?_) (fun h4 => have h4' := (Bool.not_eq_true _).mp h4; BH ((As l ⟨#[82, 67, 80, 84, 32, 84, 79, 58]⟩).2 = true) (fun h5 => have hx := And.intro (my h0 h1 h2 h3 h4 h5 : Ba c s l = _) (And.intro h0' (And.intro h1 (And.intro h2 (And.intro h3 (And.intro h4' h5))))); ?_) (fun h5 => have h5' := (Bool.not_eq_true _).mp h5; BH (l = ⟨#[68, 65, 84, 65]⟩) (fun h6 => BH (s.state = 3) (fun h7 => have h7' := decide_eq_true h7; have hx := And.intro (mz h0 h1 h2 h3 h4 h5 h6 h7 : Ba c s l = _) (And.intro h0' (And.intro h1 (And.intro h2 (And.intro h3 (And.intro h4' (And.intro h5' (And.intro h6 h7'))))))); ?_) (fun h7 => have h7' := decide_eq_false h7; have hx := And.intro (m0 h0 h1 h2 h3 h4 h5 h6 h7 : Ba c s l = _) (And.intro h0' (And.intro h1 (And.intro h2 (And.intro h3 (And.intro h4' (And.intro h5' (And.intro h6 h7'))))))); ?_)) (fun h6 => have hx := And.intro (cU h0 h1 h2 h3 h4 h5 h6 : Ba c s l = _) (And.intro h0' (And.intro h1 (And.intro h2 (And.intro h3 (And.intro h4' (And.intro h5' h6)))))); ?_)))))))
 all_goals
  try rw [hx.1]
  simp -implicitDefEqProofs only [Tryz.f220, hx, eq_self, decide_true, decide_false, Int.reduceEq, go_sem, hh, seval]
  with_reducible repeat' (first | apply ai | intro _ | ((first | apply s1 | apply s3 | apply s4) <;> intro hb <;> simp -implicitDefEqProofs only [hb, go_sem, hh, seval] <;> try simp only [qz] at hb))
  all_goals (try simp only [maxLen, tn, lm] at *)
  all_goals first | rfl | omega | decide | with_reducible assumption | (show AX _ = true; rfl) | exact Hf (by assumption) | contradiction | (show 4 + c.name.size ≤ _; omega) | (subst h3; contradiction) | skip
end
open Classical in
noncomputable def Bl (c : Cf) (s : Ss) (l : ByteArray) : (Ss × ByteArray) × List Ml := (if s.state = 5 then ((s, ⟨#[]⟩), []) else (if s.state = 4 then (if (Aj s l).1.2 = ⟨#[]⟩ then ((Aj s l).1, []) else (if (Aj s l).2 = true then ((FT (Aj s l).1.1, (Aj s l).1.2), [(Aj s l).1.1.mail]) else ((FT (Aj s l).1.1, (Aj s l).1.2), []))) else (Ba c s l, [])))
theorem qj {c : Cf} {s : Ss} {l : ByteArray} (h0 : s.state = 5) : Bl c s l = ((s, ⟨#[]⟩), []) := by unfold Bl; rw [if_pos h0]
theorem ql {c : Cf} {s : Ss} {l : ByteArray} (h0 : ¬ (s.state = 5)) (h1 : s.state = 4) (h2 : (Aj s l).1.2 = ⟨#[]⟩) : Bl c s l = ((Aj s l).1, []) := by unfold Bl; rw [if_neg h0, if_pos h1, if_pos h2]
theorem qm {c : Cf} {s : Ss} {l : ByteArray} (h0 : ¬ (s.state = 5)) (h1 : s.state = 4) (h2 : ¬ ((Aj s l).1.2 = ⟨#[]⟩)) (h3 : (Aj s l).2 = true) : Bl c s l = ((FT (Aj s l).1.1, (Aj s l).1.2), [(Aj s l).1.1.mail]) := by unfold Bl; rw [if_neg h0, if_pos h1, if_neg h2, if_pos h3]
theorem qn {c : Cf} {s : Ss} {l : ByteArray} (h0 : ¬ (s.state = 5)) (h1 : s.state = 4) (h2 : ¬ ((Aj s l).1.2 = ⟨#[]⟩)) (h3 : ¬ ((Aj s l).2 = true)) : Bl c s l = ((FT (Aj s l).1.1, (Aj s l).1.2), []) := by unfold Bl; rw [if_neg h0, if_pos h1, if_neg h2, if_neg h3]
theorem qo {c : Cf} {s : Ss} {l : ByteArray} (h0 : ¬ (s.state = 5)) (h1 : ¬ (s.state = 4)) : Bl c s l = (Ba c s l, []) := by unfold Bl; rw [if_neg h0, if_neg h1]
theorem nP (s : Ss) (l : ByteArray) : (Aj s l).1.1.mail.body.length ≤ s.mail.body.length + 1 ∧ (Aj s l).1.1.mail.to = s.mail.to := by
 unfold Aj
 repeat' split
 all_goals refine ⟨?_, rfl⟩
 all_goals first | (show (s.mail.body ++ [_]).length ≤ _; rw [List.length_append]; exact Nat.le_refl _) | (show s.mail.body.length ≤ _; omega)
def mP : Ct := Aq (lc H3.ag (lc bc.ag (lc Ap l0))) (fun p => p.1.name.size ≤ 1000000 ∧ p.2.1.mail.to.length ≤ 1000 ∧ p.2.1.mail.body.length ≤ 1000 ∧ p.2.2.1.size ≤ 2000000) (fun p => .tup [.agg ((Eh (Bl p.1 p.2.1 p.2.2.1).1.1).map .t), .t (.v (.string (Bl p.1 p.2.1 p.2.2.1).1.2)), .t (.sl 4 ((Bl p.1 p.2.1 p.2.2.1).2.map Ca))])
section
attribute [local go_sem] mT mU Mk Qj AS.opn AS.cls AS.nilb AS.renb AS.up Bool.not_false Bool.not_true List.set_set List.set_cons_zero List.set_cons_succ List.set_nil List.mem_singleton forall_eq tn List.map_nil List.nil_append
set_option maxHeartbeats 3200000 in
theorem fA {G : Gt} (hG : Ah G) (hh : G.e 220 = AA 1 mT ∧ G.e 221 = AA 1 mU ∧ G.e 122 = AA 0 Mk ∧ G.e 215 = AA 1 Qj) : Gd G 216 (AA 1 mP) := by
 refine gr (fn := Tryz.f216) (n := 3) rfl rfl hG ?_
 rintro ⟨c, s, l, ⟨⟩⟩ hpre
 obtain ⟨hn, ht, hb, hz⟩ := hpre
 try dsimp only at hn ht hb hz ⊢
 obtain ⟨z1, z2⟩ := nP s l
 have z3 : (Aj s l).1.1.mail.to.length ≤ 1000 := by rw [z2]; exact ht
 refine BH (s.state = 5) (fun h0 => have h0' := decide_eq_true h0; have hx := And.intro (qj h0 : Bl c s l = _) h0'; ?_) (fun h0 => have h0' := decide_eq_false h0; BH (s.state = 4) (fun h1 => have h1' := decide_eq_true h1; BH ((Aj s l).1.2 = ⟨#[]⟩) (fun h2 => have hx := And.intro (ql h0 h1 h2 : Bl c s l = _) (And.intro h0' (And.intro h1' h2)); ?_) (fun h2 => BH ((Aj s l).2 = true) (fun h3 => have hx := And.intro (qm h0 h1 h2 h3 : Bl c s l = _) (And.intro h0' (And.intro h1' (And.intro h2 h3))); ?_) (fun h3 => have h3' := (Bool.not_eq_true _).mp h3; have hx := And.intro (qn h0 h1 h2 h3 : Bl c s l = _) (And.intro h0' (And.intro h1' (And.intro h2 h3'))); ?_))) (fun h1 => have h1' := decide_eq_false h1; have hx := And.intro (qo h0 h1 : Bl c s l = _) (And.intro h0' h1'); ?_))
 all_goals
  try rw [hx.1]
  simp -implicitDefEqProofs only [Tryz.f216, hx, eq_self, decide_true, decide_false, Int.reduceEq, go_sem, hh, seval]
  with_reducible repeat' (first | apply ai | intro _ | ((first | apply s1 | apply s3 | apply s4) <;> intro hb <;> simp -implicitDefEqProofs only [hb, go_sem, hh, seval] <;> try simp only [qz] at hb))
  all_goals (try simp only [maxLen, tn, lm] at *)
  all_goals first | rfl | omega | decide | with_reducible assumption | (show AX _ = true; rfl) | exact Hf (by assumption) | contradiction | skip
end
def N3 (s : Ss) : Prop := s.mail.to.length ≤ 4 ∧ s.mail.body.length ≤ 12 ∧ Ge s.mail.frm ∧ (∀ a ∈ s.mail.to, Ge a) ∧ ∀ l ∈ s.mail.body, Bh l
def gj (m : Ml) : Prop := LE m ∧ m.to.length ≤ 4 ∧ m.body.length ≤ 12
theorem kg {s : Ss} (h : N3 s) : gj s.mail := ⟨⟨h.2.2.1, ⟨by have := h.1; omega, h.2.2.2.1⟩, ⟨by have := h.2.1; omega, h.2.2.2.2⟩⟩, h.1, h.2.1⟩
theorem rW : Ge ⟨⟨#[]⟩, ⟨#[]⟩⟩ := Bs (.inr ⟨rfl, rfl⟩)
theorem T2 (t : ByteArray) : Ge (BD t) := by
 by_cases h : GJ t
 ·exact Bs (JX h).1
 ·rw [M4 h]; exact rW
theorem Fp (s : Ss) : N3 (FT s) := ⟨by show 0 ≤ 4; omega, by show 0 ≤ 12; omega, rW, fun _ h => (by cases h), fun _ h => (by cases h)⟩
theorem dA {s : Ss} (t : ByteArray) (h : N3 s) : N3 (Ei s t).1 ∧ (Ei s t).2.size ≤ 20 := by
 unfold Ei
 repeat' split
 all_goals first
  | exact ⟨h, Nat.le_of_ble_eq_true rfl⟩
  | exact ⟨⟨by show 0 ≤ 4; omega, by show 0 ≤ 12; omega, T2 t, fun _ h => (by cases h), fun _ h => (by cases h)⟩, Nat.le_of_ble_eq_true rfl⟩
theorem qv {s : Ss} (c : Cf) (t : ByteArray) (h : N3 s) : N3 (Ht c s t).1 ∧ (Ht c s t).2.size ≤ 20 := by
 unfold Ht
 repeat' split
 all_goals first
  | exact ⟨h, Nat.le_of_ble_eq_true rfl⟩
  | skip
 refine ⟨⟨?_, h.2.1, h.2.2.1, fun a ha => ?_, h.2.2.2.2⟩, Nat.le_of_ble_eq_true rfl⟩
 ·show (s.mail.to ++ [BD t]).length ≤ 4
  rw [List.length_append]
  show s.mail.to.length + 1 ≤ 4
  omega
 ·rcases List.mem_append.1 ha with ha | ha
  ·exact h.2.2.2.1 a ha
  ·rw [List.mem_singleton] at ha; subst ha; exact T2 t
theorem cV {s : Ss} (c : Cf) (l : ByteArray) (h : N3 s) : N3 (Ba c s l).1 ∧ (Ba c s l).2.size ≤ c.name.size + 20 := by
 have q := dA (s := s) (As l ⟨#[77, 65, 73, 76, 32, 70, 82, 79, 77, 58]⟩).1 h
 have q2 := qv (s := s) c (As l ⟨#[82, 67, 80, 84, 32, 84, 79, 58]⟩).1 h
 unfold Ba
 repeat' split
 all_goals first
  | exact ⟨h, by show (ByteArray.size ⟨_⟩) ≤ _; exact Nat.le_trans (Nat.le_of_ble_eq_true rfl : _ ≤ 20) (Nat.le_add_left _ _)⟩
  | exact ⟨Fp _, by show (ByteArray.size ⟨_⟩) ≤ _; exact Nat.le_trans (Nat.le_of_ble_eq_true rfl : _ ≤ 20) (Nat.le_add_left _ _)⟩
  | exact ⟨q.1, Nat.le_trans q.2 (Nat.le_add_left _ _)⟩
  | exact ⟨q2.1, Nat.le_trans q2.2 (Nat.le_add_left _ _)⟩
  | exact ⟨Fp _, by show (⟨#[50, 53, 48, 32]⟩ ++ c.name).size ≤ _; rw [ByteArray.size_append]; have : (⟨#[50, 53, 48, 32]⟩ : ByteArray).size = 4 := rfl; omega⟩
theorem cc {s : Ss} {l : ByteArray} (h : N3 s) (hl : Bh l) : N3 (Aj s l).1.1 ∧ (Aj s l).1.2.size ≤ 20 := by
 have he : Bh (l.extract 1 l.size) := by have : l.size ≤ 1048576 := hl; show (l.extract 1 l.size).size ≤ 1048576; rw [ByteArray.size_extract]; omega
 have app : ∀ x, Bh x → ¬ ((s.mail.body.length : Int) ≥ 12) → N3 ⟨s.state, ⟨s.mail.frm, s.mail.to, s.mail.body ++ [x]⟩, s.bad, s.buf⟩ := fun x hx hn => ⟨h.1, by show (s.mail.body ++ [x]).length ≤ 12; rw [List.length_append]; show s.mail.body.length + 1 ≤ 12; omega, h.2.2.1, h.2.2.2.1, fun y hy => by
  rcases List.mem_append.1 hy with hy | hy
  ·exact h.2.2.2.2 y hy
  ·rw [List.mem_singleton] at hy; subst hy; exact hx⟩
 unfold Aj
 repeat' split
 all_goals first
  | exact ⟨h, Nat.le_of_ble_eq_true rfl⟩
  | exact ⟨app _ hl (by assumption), Nat.le_of_ble_eq_true rfl⟩
  | exact ⟨app _ he (by assumption), Nat.le_of_ble_eq_true rfl⟩
theorem VB {s : Ss} {l : ByteArray} (c : Cf) (h : N3 s) (hl : Bh l) : N3 (Bl c s l).1.1 ∧ (Bl c s l).1.2.size ≤ c.name.size + 20 ∧ (Bl c s l).2.length ≤ 1 ∧ ∀ m ∈ (Bl c s l).2, gj m := by
 have q := cc h hl
 have q2 := cV c l h
 unfold Bl
 repeat' split
 ·exact ⟨h, Nat.zero_le _, Nat.zero_le _, fun _ z => by cases z⟩
 ·exact ⟨q.1, Nat.le_trans q.2 (Nat.le_add_left _ _), Nat.zero_le _, fun _ z => by cases z⟩
 ·exact ⟨Fp _, Nat.le_trans q.2 (Nat.le_add_left _ _), Nat.le_refl _, fun m hm => by rw [List.mem_singleton] at hm; subst hm; exact kg q.1⟩
 ·exact ⟨Fp _, Nat.le_trans q.2 (Nat.le_add_left _ _), Nat.zero_le _, fun _ z => by cases z⟩
 ·exact ⟨q2.1, q2.2, Nat.zero_le _, fun _ z => by cases z⟩
abbrev Fm := Ss × List ByteArray × List Ml
noncomputable def cy (c : Cf) (x : Fm) (l : ByteArray) : Fm := ((Bl c x.1 l).1.1, if (Bl c x.1 l).1.2 = ⟨#[]⟩ then x.2.1 else x.2.1 ++ [(Bl c x.1 l).1.2], x.2.2 ++ (Bl c x.1 l).2)
def bP (x : Fm) : Fm := (FT ⟨5, x.1.mail, x.1.bad, x.1.buf⟩, x.2.1 ++ [⟨#[53, 48, 48, 32, 108, 111, 110, 103]⟩], x.2.2)
noncomputable def M1 (c : Cf) : List ByteArray → Fm → Fm × Bool
 | [], x => (x, false)
 | l :: r, x => if x.1.state = 5 then (x, false) else if (l.size : Int) > 78 then (bP x, true) else M1 c r (cy c x l)
noncomputable def Ys (y : Fm × Bool) (lf : ByteArray) : Fm := if y.2 = true then y.1 else if y.1.1.state = 5 then y.1 else if (lf.size : Int) > 80 then bP y.1 else (⟨y.1.1.state, y.1.1.mail, y.1.1.bad, lf⟩, y.1.2.1, y.1.2.2)
noncomputable def Bp (c : Cf) (s : Ss) (t : ByteArray) : Fm := Ys (M1 c (Ni (s.buf ++ t)) (⟨s.state, s.mail, s.bad, ⟨#[]⟩⟩, [], [])) (pi (s.buf ++ t))
theorem sZ {c : Cf} {L : List ByteArray} {x : Fm} (h : x.1.state = 5) : M1 c L x = (x, false) := by
 cases L with
 | nil => rfl
 | cons l r => rw [M1, if_pos h]
theorem sX {c : Cf} {L : List ByteArray} {i : Nat} {x : Fm} (hi : i < L.length) (h : ¬ x.1.state = 5) (hl : ((L.getD i default).size : Int) > 78) : M1 c (L.drop i) x = (bP x, true) := by
 rw [Ae hi, M1, if_neg h, if_pos hl]
theorem sY {c : Cf} {L : List ByteArray} {i : Nat} {x : Fm} (hi : i < L.length) (h : ¬ x.1.state = 5) (hl : ¬ ((L.getD i default).size : Int) > 78) : M1 c (L.drop i) x = M1 c (L.drop (i + 1)) (cy c x (L.getD i default)) := by
 rw [Ae hi, M1, if_neg h, if_neg hl]
theorem i7 {c : Cf} {L : List ByteArray} {i : Nat} {x : Fm} (hi : L.length ≤ i) : M1 c (L.drop i) x = (x, false) := by
 rw [List.drop_of_length_le hi]; rfl
theorem sT {y : Fm × Bool} {x : Fm} {lf : ByteArray} (h : (x, true) = y) : Ys y lf = x := by subst h; exact if_pos rfl
theorem sU {y : Fm × Bool} {x : Fm} {lf : ByteArray} (h : (x, false) = y) (h5 : x.1.state = 5) : Ys y lf = x := by
 subst h; unfold Ys; rw [if_neg (show ¬ (x, false).2 = true from Bool.false_ne_true), if_pos h5]
theorem sV {y : Fm × Bool} {x : Fm} {lf : ByteArray} (h : (x, false) = y) (h5 : ¬ x.1.state = 5) (hl : (lf.size : Int) > 80) : Ys y lf = bP x := by
 subst h; unfold Ys; rw [if_neg (show ¬ (x, false).2 = true from Bool.false_ne_true), if_neg h5, if_pos hl]
theorem sW {y : Fm × Bool} {x : Fm} {lf : ByteArray} (h : (x, false) = y) (h5 : ¬ x.1.state = 5) (hl : ¬ (lf.size : Int) > 80) : Ys y lf = (⟨x.1.state, x.1.mail, x.1.bad, lf⟩, x.2.1, x.2.2) := by
 subst h; unfold Ys; rw [if_neg (show ¬ (x, false).2 = true from Bool.false_ne_true), if_neg h5, if_neg hl]
theorem jC {c : Cf} {x : Fm} {l : ByteArray} (h : (Bl c x.1 l).1.2 = ⟨#[]⟩) : cy c x l = ((Bl c x.1 l).1.1, x.2.1, x.2.2 ++ (Bl c x.1 l).2) := by unfold cy; rw [if_pos h]
theorem jB {c : Cf} {x : Fm} {l : ByteArray} (h : ¬ (Bl c x.1 l).1.2 = ⟨#[]⟩) : cy c x l = ((Bl c x.1 l).1.1, x.2.1 ++ [(Bl c x.1 l).1.2], x.2.2 ++ (Bl c x.1 l).2) := by unfold cy; rw [if_neg h]
def bL (c : Cf) (n : Nat) (x : Fm) : Prop := N3 x.1 ∧ x.2.1.length ≤ n ∧ x.2.2.length ≤ n ∧ (∀ r ∈ x.2.1, r.size ≤ c.name.size + 20) ∧ ∀ m ∈ x.2.2, gj m
theorem Yv {c : Cf} {n : Nat} {x : Fm} {l : ByteArray} (h : bL c n x) (hl : Bh l) : bL c (n + 1) (cy c x l) := by
 obtain ⟨h1, h2, h3, h4, h5⟩ := h
 obtain ⟨q1, q2, q3, q4⟩ := VB c h1 hl
 have hm : ∀ m ∈ x.2.2 ++ (Bl c x.1 l).2, gj m := fun m hm => (List.mem_append.1 hm).elim (h5 m) (q4 m)
 by_cases e : (Bl c x.1 l).1.2 = ⟨#[]⟩
 ·rw [jC e]
  exact ⟨q1, by show x.2.1.length ≤ _; omega, by show (x.2.2 ++ _).length ≤ _; rw [List.length_append]; omega, h4, hm⟩
 ·rw [jB e]
  refine ⟨q1, by show (x.2.1 ++ [_]).length ≤ _; rw [List.length_append]; show x.2.1.length + 1 ≤ _; omega, by show (x.2.2 ++ _).length ≤ _; rw [List.length_append]; omega, fun r hr => ?_, hm⟩
  rcases List.mem_append.1 hr with hr | hr
  ·exact h4 r hr
  ·rw [List.mem_singleton] at hr; subst hr; exact q2
theorem Yu {c : Cf} {n : Nat} {x : Fm} (h : bL c n x) : bL c (n + 1) (bP x) := by
 obtain ⟨h1, h2, h3, h4, h5⟩ := h
 refine ⟨Fp _, by show (x.2.1 ++ [_]).length ≤ _; rw [List.length_append]; show x.2.1.length + 1 ≤ _; omega, by show x.2.2.length ≤ _; omega, fun r hr => ?_, h5⟩
 rcases List.mem_append.1 hr with hr | hr
 ·exact h4 r hr
 ·rw [List.mem_singleton] at hr; subst hr; exact Nat.le_trans (Nat.le_of_ble_eq_true rfl : _ ≤ 20) (Nat.le_add_left _ _)
theorem EY {c : Cf} {n m : Nat} {x : Fm} (h : bL c n x) (hn : n ≤ m) : bL c m x := ⟨h.1, by have := h.2.1; omega, by have := h.2.2.1; omega, h.2.2.2⟩
theorem Yt {c : Cf} : ∀ (L : List ByteArray) {n : Nat} {x : Fm}, bL c n x → (∀ l ∈ L, Bh l) → bL c (n + L.length) (M1 c L x).1
 | [], n, x, h, _ => h
 | l :: r, n, x, h, hl => by
   rw [M1]
   split
   ·exact EY h (Nat.le_add_right _ _)
   ·split
    ·exact EY (Yu h) (by rw [List.length_cons]; omega)
    ·exact EY (Yt r (Yv h (hl l (List.mem_cons_self ..))) fun y hy => hl y (List.mem_cons_of_mem _ hy)) (by rw [List.length_cons]; omega)
theorem Yw {c : Cf} {s : Ss} {t : ByteArray} (h : N3 s) (hb : s.buf.size + t.size ≤ 1000000) : bL c (s.buf.size + t.size + 1) (Bp c s t) := by
 obtain ⟨q1, q2, q3⟩ := jU (s.buf ++ t)
 rw [ByteArray.size_append] at q1 q2 q3
 have q := Yt (c := c) (Ni (s.buf ++ t)) (n := 0) (x := (⟨s.state, s.mail, s.bad, ⟨#[]⟩⟩, [], [])) ⟨h, Nat.le_refl _, Nat.le_refl _, fun _ z => (by cases z), fun _ z => (by cases z)⟩ (fun l hl => by have := q2 l hl; show l.size ≤ 1048576; omega)
 have q' := EY q (show 0 + (Ni (s.buf ++ t)).length ≤ s.buf.size + t.size by omega)
 unfold Bp Ys
 split
 ·exact EY q' (by omega)
 ·split
  ·exact EY q' (by omega)
  ·split
   ·exact Yu q'
   ·exact ⟨q'.1, Nat.le_succ_of_le q'.2.1, Nat.le_succ_of_le q'.2.2.1, q'.2.2.2⟩
def mD : Ct := Aq (lc H3.ag (lc bc.ag (lc Ap l0))) (fun p => p.1.name.size ≤ 1000000 ∧ N3 p.2.1 ∧ p.2.1.buf.size + p.2.2.1.size ≤ 1000000) (fun p => .tup [.agg ((Eh (Bp p.1 p.2.1 p.2.2.1).1).map .t), .t (.sl 1 ((Bp p.1 p.2.1 p.2.2.1).2.1.map AH)), .t (.sl 4 ((Bp p.1 p.2.1 p.2.2.1).2.2.map Ca))])
section
attribute [local go_sem] mO Qj mP AY lm List.length_append List.map_append AS.opn AS.cls AS.nilb AS.renb AS.up Bool.not_false Bool.not_true List.set_set List.set_cons_zero List.set_cons_succ List.set_nil List.mem_singleton forall_eq tn List.map_nil List.nil_append
set_option maxHeartbeats 6400000 in
theorem eY {G : Gt} (hG : Ah G) (hh : G.e 214 = AA 0 mO ∧ G.e 215 = AA 1 Qj ∧ G.e 216 = AA 1 mP) : Gd G 199 (AA 1 mD) := by
 refine Nh (dp := fun n => !(Nat.beq n 18 || Nat.beq n 72)) (fn := Tryz.f199) (n := 3) rfl rfl hG ?_
 rintro ⟨c, s, t, ⟨⟩⟩ hpre
 obtain ⟨hn, hs, hz⟩ := hpre
 try dsimp only at hn hs hz ⊢
 obtain ⟨q1, q2, q3⟩ := jU (s.buf ++ t)
 rw [ByteArray.size_append] at q1 q2 q3
 have q2' : ∀ i, i < (Ni (s.buf ++ t)).length → Bh ((Ni (s.buf ++ t)).getD i default) := fun i hi => by have := q2 _ (AE hi); show ByteArray.size _ ≤ 1048576; omega
 simp -implicitDefEqProofs only [Tryz.f199, go_sem, hh, seval]
 with_reducible repeat' (first | apply ai | intro _ | ((first | apply s1 | apply s3 | apply s4) <;> intro hb <;> simp -implicitDefEqProofs only [hb, go_sem, hh, seval] <;> try simp only [qz] at hb))
 all_goals (try simp only [maxLen, tn, ByteArray.size_append] at *)
 all_goals first | with_reducible rfl | omega | with_reducible assumption | decide | (simp only [List.mem_cons, List.mem_singleton, List.not_mem_nil] at *; omega) | skip
 refine AF [(9, 901, true, 1), (10, 902, false, 4)] (ι := {p : Nat × Fm // p.1 ≤ (Ni (s.buf ++ t)).length ∧ bL c p.1 p.2 ∧ M1 c ((Ni (s.buf ++ t)).drop p.1) p.2 = M1 c (Ni (s.buf ++ t)) (⟨s.state, s.mail, s.bad, ⟨#[]⟩⟩, [], [])}) (fun p => ⟨[(3, .pb 1003 0), (4, .pb 1004 0), (6, .pb 1006 0), (9, .h 901), (10, .h 902), (11, .h 1024), (12, .t (.v (.string (pi (s.buf ++ t))))), (13, .t (.v (.int .i64 p.1.1)))], [(1003, some (.box ((DK c).map .t))), (1004, some (.box ((Eh p.1.2.1).map .t))), (1006, some (.box [.t (.v (.int .i64 0)), .t (.v (.string ⟨#[]⟩)), .t (.v (.string ⟨#[]⟩)), .nil, .nil, .t (.v (.bool false)), .t (.v (.string ⟨#[]⟩))])), (901, some (.arr true 1 (p.1.2.2.1.map AH))), (902, some (.arr false 4 (p.1.2.2.2.map Ca))), (1024, some (.arr true 1 ((Ni (s.buf ++ t)).map AH)))]⟩) (fun p => (Ni (s.buf ++ t)).length - p.1.1) ⟨(0, (⟨s.state, s.mail, s.bad, ⟨#[]⟩⟩, [], [])), Nat.zero_le _, ⟨hs, Nat.le_refl _, Nat.le_refl _, fun _ z => (by cases z), fun _ z => (by cases z)⟩, rfl⟩ rfl ?_ ?_
 ·simp -implicitDefEqProofs only [go_sem, hh, seval]
  try simp
 ·rintro ⟨⟨i, x⟩, hi, hx, hv⟩
  obtain ⟨x1, x2, x3⟩ := x
  dsimp only at hi hx hv
  have hb1 := hx.1.1
  have hb2 := hx.1.2.1
  have hb3 := hx.2.1
  have hb4 := hx.2.2.1
  dsimp only at hb1 hb2 hb3 hb4
  simp -implicitDefEqProofs only [go_sem, hh, seval]
  with_reducible repeat' (first | apply ai | intro _ | ((first | apply s1 | apply s3 | apply s4) <;> intro hb <;> simp -implicitDefEqProofs only [hb, go_sem, hh, seval] <;> try simp only [qz] at hb))
  all_goals (try simp only [maxLen, tn] at *)
  all_goals first
   | with_reducible rfl
   | omega
   | (show _ = true; rfl)
   | with_reducible assumption
   | (rw [show Bp c s t = _ from sU ((sZ (by with_reducible assumption)).symm.trans hv) (by with_reducible assumption)]; first | done | rfl | (simp [bP, AH]; done))
   | (rw [show Bp c s t = _ from sT ((sX (by omega) (by with_reducible assumption) (by with_reducible assumption)).symm.trans hv)]; first | done | rfl | (simp [bP, AH]; done))
   | (rw [show Bp c s t = _ from sV ((i7 (by omega)).symm.trans hv) (by with_reducible assumption) (by with_reducible assumption)]; first | done | rfl | (simp [bP, AH]; done))
   | (rw [show Bp c s t = _ from sW ((i7 (by omega)).symm.trans hv) (by with_reducible assumption) (by with_reducible assumption)]; first | done | rfl | (simp [bP, AH]; done))
   | exact hx.1
   | exact Nat.le_trans (q2' i (by omega)) (by decide)
   | (refine ⟨⟨(i + 1, cy c (x1, x2, x3) ((Ni (s.buf ++ t)).getD i default)), by omega, Yv hx (q2' i (by omega)), (sY (by omega) (by with_reducible assumption) (by with_reducible assumption)).symm.trans hv⟩, by dsimp only; omega, ?_⟩
      simp -implicitDefEqProofs only [go_sem, hh, seval]
      first
       | (have ee := jC (c := c) (x := (x1, x2, x3)) (by with_reducible assumption); simp only [ee]; simp [AH]; done)
       | (have ee := jB (c := c) (x := (x1, x2, x3)) (by with_reducible assumption); simp only [ee]; simp [AH]; done))
   | (have q := (VB (s := x1) c hx.1 (q2' i (by omega))).2.2.1; omega)
   | skip
end
def Oi (x : ByteArray) : ByteArray := if ¬ x = ⟨#[]⟩ ∧ AC x 0 = 46 then ⟨#[46]⟩ ++ x else x
theorem nX {x : ByteArray} (h : ¬ x = ⟨#[]⟩) (h2 : AC x 0 = 46) : Oi x = ⟨#[46]⟩ ++ x := if_pos ⟨h, h2⟩
theorem nW {x : ByteArray} (h : ¬ x = ⟨#[]⟩) (h2 : ¬ AC x 0 = 46) : Oi x = x := if_neg fun q => h2 q.2
theorem nV {x : ByteArray} (h : x = ⟨#[]⟩) : Oi x = x := if_neg fun q => q.1 h
theorem Yc (x : ByteArray) : (Oi x).size ≤ x.size + 1 := by
 unfold Oi
 split
 ·rw [ByteArray.size_append]; have : (⟨#[46]⟩ : ByteArray).size = 1 := rfl; omega
 ·omega
def KB : List ByteArray → ByteArray → ByteArray
 | [], o => o
 | x :: r, o => KB r (o ++ Oi x ++ ⟨#[13, 10]⟩)
def Vq (l : List ByteArray) : ByteArray := KB l ⟨#[]⟩ ++ ⟨#[46, 13, 10]⟩
theorem nZ {L : List ByteArray} {i : Nat} {o : ByteArray} (h : i < L.length) : KB (L.drop i) o = KB (L.drop (i + 1)) (o ++ Oi (L.getD i default) ++ ⟨#[13, 10]⟩) := by rw [Ae h, KB]
theorem nY {L : List ByteArray} {i : Nat} {o : ByteArray} (h : L.length ≤ i) : KB (L.drop i) o = o := by rw [List.drop_of_length_le h, KB]
theorem Mp : (⟨#[13, 10]⟩ : ByteArray).size = 2 := rfl
theorem iU : (⟨#[46, 13, 10]⟩ : ByteArray).size = 3 := rfl
theorem Yd : ∀ (L : List ByteArray) (o : ByteArray) (B : Nat), (∀ x ∈ L, x.size ≤ B) → (KB L o).size ≤ o.size + L.length * (B + 3)
 | [], o, B, _ => by show o.size ≤ _; omega
 | x :: r, o, B, h => by
   have h1 := h x (List.mem_cons_self ..)
   have h2 := Yc x
   have q := Yd r (o ++ Oi x ++ ⟨#[13, 10]⟩) B (fun y hy => h y (List.mem_cons_of_mem _ hy))
   rw [ByteArray.size_append, ByteArray.size_append, Mp] at q
   rw [KB, List.length_cons, Nat.add_mul]
   omega
def mL : Ct := Aq (lc An.asl l0) (fun p => p.1.length ≤ 1000 ∧ ∀ x ∈ p.1, x.size ≤ 2000000) (fun p => .t (.v (.string (Vq p.1))))
section
attribute [local go_sem] lm Int.toNat_zero
set_option maxHeartbeats 1600000 in
theorem ep {G : Gt} (hG : Ah G) : Gd G 211 (AA 0 mL) := by
 refine gr (fn := Tryz.f211) (n := 1) rfl rfl hG ?_
 rintro ⟨xs, ⟨⟩⟩ hpre
 simp -implicitDefEqProofs only [Tryz.f211, go_sem, seval] at hpre ⊢
 obtain ⟨hl, hx⟩ := hpre
 try dsimp only at hl hx
 refine AF [] (ι := {p : Nat × ByteArray // p.1 ≤ xs.length ∧ p.2.size ≤ p.1 * 2000003 ∧ KB (xs.drop p.1) p.2 = KB xs ⟨#[]⟩}) (fun p => ⟨[(0, .t (.sl 1 (xs.map AH))), (3, .t (.v (.string p.1.2))), (4, .t (.v (.int .i64 p.1.1)))], []⟩) (fun p => xs.length - p.1.1) ⟨(0, ⟨#[]⟩), Nat.zero_le _, Nat.zero_le _, rfl⟩ rfl ?_ ?_
 ·simp -implicitDefEqProofs only [go_sem, seval]
  try simp
 ·rintro ⟨⟨i, out⟩, hi, ho, hv⟩
  dsimp only at hi ho hv
  have hd : ∀ h : i < xs.length, (xs.getD i default).size ≤ 2000000 := fun h => hx _ (AE h)
  have hd1 := Yc (xs.getD i default)
  simp -implicitDefEqProofs only [go_sem, seval]
  with_reducible repeat' (first | apply ai | intro _ | ((first | apply s1 | apply s3 | apply s4) <;> intro hb <;> simp -implicitDefEqProofs only [hb, go_sem, seval] <;> try simp only [qz] at hb))
  all_goals (try simp only [maxLen, tn, ByteArray.size_append, Mp, iU] at *)
  all_goals first
   | with_reducible rfl
   | omega
   | exact Hf (by assumption)
   | (have := hd (by omega); have e : (#[46] : Array UInt8).size = 1 := rfl; have e2 : (#[13, 10] : Array UInt8).size = 2 := rfl; have e3 : (#[46, 13, 10] : Array UInt8).size = 3 := rfl; omega)
   | (have e3 : (#[46, 13, 10] : Array UInt8).size = 3 := rfl; omega)
   | (rw [nY (by omega)] at hv; unfold Vq; rw [← hv]; done)
   | (rw [nZ (by omega)] at hv
      refine ⟨⟨(i + 1, _), by dsimp only; omega, ?_, hv⟩, by dsimp only; omega, ?_⟩
      ·have := hd (by omega)
       dsimp only
       rw [ByteArray.size_append, ByteArray.size_append, Mp]
       omega
      ·simp -implicitDefEqProofs only [go_sem, seval]
       first
        | (rw [nX (by assumption) (by assumption)]; simp; done)
        | (rw [nW (by assumption) (by assumption)]; simp; done)
        | (rw [nV (by assumption)]; simp; done))
   | skip
end
theorem wl : (3 : Int).toNat = 3 := rfl
open Classical in
noncomputable def BB (s : ByteArray) : Int := (if (s.size : Int) < 4 then 0 else (if AC s 3 = 32 then (if AC s 0 < 50 then 0 else (if AC s 0 > 53 then 0 else (if PU (s.extract 0 3) < 200 then 0 else PU (s.extract 0 3)))) else 0))
theorem m8 {s : ByteArray} (h0 : (s.size : Int) < 4) : BB s = 0 := by unfold BB; rw [if_pos h0]
theorem m9 {s : ByteArray} (h0 : ¬ ((s.size : Int) < 4)) (h1 : AC s 3 = 32) (h2 : AC s 0 < 50) : BB s = 0 := by unfold BB; rw [if_neg h0, if_pos h1, if_pos h2]
theorem nA {s : ByteArray} (h0 : ¬ ((s.size : Int) < 4)) (h1 : AC s 3 = 32) (h2 : ¬ (AC s 0 < 50)) (h3 : AC s 0 > 53) : BB s = 0 := by unfold BB; rw [if_neg h0, if_pos h1, if_neg h2, if_pos h3]
theorem nB {s : ByteArray} (h0 : ¬ ((s.size : Int) < 4)) (h1 : AC s 3 = 32) (h2 : ¬ (AC s 0 < 50)) (h3 : ¬ (AC s 0 > 53)) (h4 : PU (s.extract 0 3) < 200) : BB s = 0 := by unfold BB; rw [if_neg h0, if_pos h1, if_neg h2, if_neg h3, if_pos h4]
theorem nC {s : ByteArray} (h0 : ¬ ((s.size : Int) < 4)) (h1 : AC s 3 = 32) (h2 : ¬ (AC s 0 < 50)) (h3 : ¬ (AC s 0 > 53)) (h4 : ¬ (PU (s.extract 0 3) < 200)) : BB s = PU (s.extract 0 3) := by unfold BB; rw [if_neg h0, if_pos h1, if_neg h2, if_neg h3, if_neg h4]
theorem nD {s : ByteArray} (h0 : ¬ ((s.size : Int) < 4)) (h1 : ¬ (AC s 3 = 32)) : BB s = 0 := by unfold BB; rw [if_neg h0, if_neg h1]
theorem sS (s : ByteArray) : (s.extract 0 3).size ≤ 3 := by rw [ByteArray.size_extract]; omega
def mJ : Ct := Aq (lc Ap l0) (fun p => True) (fun p => .t (.v (.int .i64 (BB p.1))))
section
attribute [local go_sem] mR Int.toNat_zero wl
theorem eg {G : Gt} (hG : Ah G) (hh : G.e 218 = AA 0 mR) : Gd G 207 (AA 0 mJ) := by
 refine gr (fn := Tryz.f207) (n := 1) rfl rfl hG ?_
 rintro ⟨s, ⟨⟩⟩ hpre
 try dsimp only
 have hz := sS s
 refine BH ((s.size : Int) < 4) (fun h0 => have hx := And.intro (m8 h0 : BB s = _) h0; ?_) (fun h0 => BH (AC s 3 = 32) (fun h1 => BH (AC s 0 < 50) (fun h2 => have hx := And.intro (m9 h0 h1 h2 : BB s = _) (And.intro h0 (And.intro h1 h2)); ?_) (fun h2 => BH (AC s 0 > 53) (fun h3 => have hx := And.intro (nA h0 h1 h2 h3 : BB s = _) (And.intro h0 (And.intro h1 (And.intro h2 h3))); ?_) (fun h3 => BH (PU (s.extract 0 3) < 200) (fun h4 => have hx := And.intro (nB h0 h1 h2 h3 h4 : BB s = _) (And.intro h0 (And.intro h1 (And.intro h2 (And.intro h3 h4)))); ?_) (fun h4 => have hx := And.intro (nC h0 h1 h2 h3 h4 : BB s = _) (And.intro h0 (And.intro h1 (And.intro h2 (And.intro h3 h4)))); ?_)))) (fun h1 => have hx := And.intro (nD h0 h1 : BB s = _) (And.intro h0 h1); ?_))
 all_goals
  try rw [hx.1]
  simp -implicitDefEqProofs only [Tryz.f207, hx, eq_self, decide_true, decide_false, Int.reduceEq, go_sem, hh, seval]
  with_reducible repeat' (first | apply ai | intro _ | ((first | apply s1 | apply s3 | apply s4) <;> intro hb <;> simp -implicitDefEqProofs only [hb, go_sem, hh, seval] <;> try simp only [qz] at hb))
  all_goals (try simp only [maxLen, tn, lm] at *)
  all_goals first | rfl | omega | decide | with_reducible assumption | (show AX _ = true; rfl) | exact Hf (by assumption) | contradiction | skip
end
def fg (n : ByteArray) (m : Ml) : Cl := ⟨n, m, 0, 0, List.replicate m.to.length 0⟩
def mA : Ct := Aq (lc Ap (lc Wc.ag l0)) (fun p => p.2.1.to.length ≤ 1000 ∧ p.2.1.body.length ≤ 1000) (fun p => .agg ((Do (fg p.1 p.2.1)).map .t))
section
attribute [local go_sem] Mk lm AS.opn AS.cls AS.nilb AS.renb AS.up Bool.not_false Bool.not_true List.set_set List.set_cons_zero List.set_cons_succ List.set_nil List.mem_singleton forall_eq tn List.map_nil List.nil_append
theorem eW {G : Gt} (hG : Ah G) (hh : G.e 122 = AA 0 Mk) : Gd G 197 (AA 1 mA) := by
 refine gr (fn := Tryz.f197) (n := 2) rfl rfl hG ?_
 rintro ⟨n, m, ⟨⟩⟩ hpre
 simp -implicitDefEqProofs only [Tryz.f197, go_sem, hh, seval] at hpre ⊢
 obtain ⟨h1, h2⟩ := hpre
 try dsimp only at h1 h2 ⊢
 with_reducible repeat' (first | apply ai | intro _ | ((first | apply s1 | apply s3 | apply s4) <;> intro hb <;> simp -implicitDefEqProofs only [hb, go_sem, hh, seval] <;> try simp only [qz] at hb))
 all_goals (try simp only [maxLen, tn] at *)
 all_goals first | rfl | omega | decide | with_reducible assumption | (show AX _ = true; rfl) | exact Hf (by assumption) | contradiction | (simp [fg, A7]; done) | skip
end
def NE (f : Int → Int) (xs : List Int) (i : Nat) : List Int := (xs.take i).map f ++ xs.drop i
theorem jX (f : Int → Int) (xs : List Int) : NE f xs 0 = xs := rfl
theorem jY {f : Int → Int} {xs : List Int} {i : Nat} (h : xs.length ≤ i) : NE f xs i = xs.map f := by
 unfold NE; rw [List.take_of_length_le h, List.drop_of_length_le h, List.append_nil]
theorem UQ (f : Int → Int) (xs : List Int) (i : Nat) : (NE f xs i).length = xs.length := by
 unfold NE; rw [List.length_append, lm, List.length_take, List.length_drop]; omega
theorem UP {f : Int → Int} {xs : List Int} {i : Nat} (h : i < xs.length) : (NE f xs i).getD i default = xs.getD i default := by
 unfold NE
 rw [List.getD_eq_getElem?_getD, List.getElem?_append_right (by rw [lm, List.length_take]; omega), lm, List.length_take, Nat.min_eq_left (by omega), Nat.sub_self, List.getElem?_drop, Nat.add_zero, List.getD_eq_getElem?_getD]
theorem PS {f : Int → Int} {xs : List Int} {i : Nat} (h : i < xs.length) : NE f xs (i + 1) = (xs.take i).map f ++ (f (xs.getD i default) :: xs.drop (i + 1)) := by
 unfold NE
 rw [List.take_add_one, List.getElem?_eq_getElem h, List.map_append, List.append_assoc]
 congr 1
 simp [h]
theorem UR {f : Int → Int} {xs : List Int} {i : Nat} {v : Int} (h : i < xs.length) (e : f (xs.getD i default) = v) : (NE f xs i).set i v = NE f xs (i + 1) := by
 rw [PS h, e]
 unfold NE
 rw [List.set_append_right _ _ (by rw [lm, List.length_take]; omega), lm, List.length_take, Nat.min_eq_left (by omega), Nat.sub_self, Ae h]
 rfl
theorem PR {f : Int → Int} {xs : List Int} {i : Nat} (h : i < xs.length) (e : f (xs.getD i default) = xs.getD i default) : NE f xs (i + 1) = NE f xs i := by
 rw [PS h, e]
 unfold NE
 rw [Ae h]
def GK (k n : Int) : Int := if n = 0 ∨ n = 1 then k else n
def Pl (n : Int) : Int := if n = 1 then 2 else n
def vH (c : Cl) (k : Int) : Cl := ⟨c.name, c.mail, c.state, c.pos, c.outs.map (GK k)⟩
def vz (c : Cl) : Cl := ⟨c.name, c.mail, c.state, c.pos, c.outs.map Pl⟩
def mS : Ct := Aq (lc bb.ag (lc BI l0)) (fun p => p.1.outs.length ≤ 1000) (fun p => .agg ((Do (vH p.1 p.2.1)).map .t))
section
attribute [local go_sem] lm AY BZ Jc AS.opn AS.cls AS.nilb AS.renb AS.up Bool.not_false Bool.not_true List.set_set List.set_cons_zero List.set_cons_succ List.set_nil List.mem_singleton forall_eq tn List.map_nil List.nil_append
set_option maxHeartbeats 1600000 in
theorem fD {G : Gt} (hG : Ah G) : Gd G 219 (AA 1 mS) := by
 refine gr (fn := Tryz.f219) (n := 2) rfl rfl hG ?_
 rintro ⟨c, k, ⟨⟩⟩ hpre
 simp -implicitDefEqProofs only [Tryz.f219, go_sem, seval] at hpre ⊢
 have hl : c.outs.length ≤ 1000 := hpre
 with_reducible repeat' (first | apply ai | intro _ | ((first | apply s1 | apply s3 | apply s4) <;> intro hb <;> simp -implicitDefEqProofs only [hb, go_sem, seval] <;> try simp only [qz] at hb))
 all_goals (try simp only [maxLen, tn] at *)
 all_goals first | rfl | omega | decide | with_reducible assumption | (show AX _ = true; rfl) | exact Hf (by assumption) | contradiction | skip
 refine AF [(5, 901, true, 1)] (ι := {i : Nat // i ≤ c.outs.length}) (fun p => ⟨[(1, .t (.v (.int .i64 k))), (2, .pb 1002 0), (4, .pb 1004 0), (5, .h 901), (6, .t (.v (.int .i64 p.1)))], [(1002, some (.box ((Do c).map .t))), (1004, some (.box [.t (.v (.string ⟨#[]⟩)), .t (.v (.string ⟨#[]⟩)), .t (.v (.string ⟨#[]⟩)), .nil, .nil, .t (.v (.int .i64 0)), .t (.v (.int .i64 0)), .nil])), (901, some (.arr true 1 ((NE (GK k) c.outs p.1).map A7)))]⟩) (fun p => c.outs.length - p.1) ⟨0, Nat.zero_le _⟩ rfl ?_ ?_
 ·simp -implicitDefEqProofs only [go_sem, seval]
  simp [jX]
 ·rintro ⟨i, hi⟩
  dsimp only at hi ⊢
  have hln := UQ (GK k) c.outs i
  have hg : i < c.outs.length → (NE (GK k) c.outs i).getD i default = c.outs.getD i default := UP
  simp -implicitDefEqProofs only [go_sem, seval]
  with_reducible repeat' (first | apply ai | intro _ | ((first | apply s1 | apply s3 | apply s4) <;> intro hb <;> simp -implicitDefEqProofs only [hb, go_sem, seval] <;> try simp only [qz] at hb))
  all_goals (try simp only [maxLen, tn] at *)
  all_goals first
   | with_reducible rfl
   | omega
   | (show _ = true; rfl)
   | (rw [jY (by omega)]; first | done | rfl)
   | rfl
   | (refine ⟨⟨i + 1, by omega⟩, by dsimp only; omega, ?_⟩
      have hgi := hg (by omega)
      simp -implicitDefEqProofs only [go_sem, seval]
      first
       | (rw [UR (by omega) (show GK k _ = k from if_pos (by omega))]; simp; done)
       | (rw [PR (by omega) (show GK k _ = _ from if_neg (by omega))]; simp; done)
       | skip)
   | skip
end
def mM : Ct := Aq (lc bb.ag l0) (fun p => p.1.outs.length ≤ 1000) (fun p => .agg ((Do (vz p.1)).map .t))
section
attribute [local go_sem] lm AY BZ Jc AS.opn AS.cls AS.nilb AS.renb AS.up Bool.not_false Bool.not_true List.set_set List.set_cons_zero List.set_cons_succ List.set_nil List.mem_singleton forall_eq tn List.map_nil List.nil_append
set_option maxHeartbeats 1600000 in
theorem ew {G : Gt} (hG : Ah G) : Gd G 212 (AA 1 mM) := by
 refine gr (fn := Tryz.f212) (n := 1) rfl rfl hG ?_
 rintro ⟨c, ⟨⟩⟩ hpre
 simp -implicitDefEqProofs only [Tryz.f212, go_sem, seval] at hpre ⊢
 have hl : c.outs.length ≤ 1000 := hpre
 with_reducible repeat' (first | apply ai | intro _ | ((first | apply s1 | apply s3 | apply s4) <;> intro hb <;> simp -implicitDefEqProofs only [hb, go_sem, seval] <;> try simp only [qz] at hb))
 all_goals (try simp only [maxLen, tn] at *)
 all_goals first | rfl | omega | decide | with_reducible assumption | (show AX _ = true; rfl) | exact Hf (by assumption) | contradiction | skip
 refine AF [(3, 901, true, 1)] (ι := {i : Nat // i ≤ c.outs.length}) (fun p => ⟨[(1, .pb 1001 0), (2, .pb 1002 0), (3, .h 901), (4, .t (.v (.int .i64 p.1)))], [(1001, some (.box ((Do c).map .t))), (1002, some (.box [.t (.v (.string ⟨#[]⟩)), .t (.v (.string ⟨#[]⟩)), .t (.v (.string ⟨#[]⟩)), .nil, .nil, .t (.v (.int .i64 0)), .t (.v (.int .i64 0)), .nil])), (901, some (.arr true 1 ((NE Pl c.outs p.1).map A7)))]⟩) (fun p => c.outs.length - p.1) ⟨0, Nat.zero_le _⟩ rfl ?_ ?_
 ·simp -implicitDefEqProofs only [go_sem, seval]
  simp [jX]
 ·rintro ⟨i, hi⟩
  dsimp only at hi ⊢
  have hln := UQ Pl c.outs i
  have hg : i < c.outs.length → (NE Pl c.outs i).getD i default = c.outs.getD i default := UP
  simp -implicitDefEqProofs only [go_sem, seval]
  with_reducible repeat' (first | apply ai | intro _ | ((first | apply s1 | apply s3 | apply s4) <;> intro hb <;> simp -implicitDefEqProofs only [hb, go_sem, seval] <;> try simp only [qz] at hb))
  all_goals (try simp only [maxLen, tn] at *)
  all_goals first
   | with_reducible rfl
   | omega
   | (show _ = true; rfl)
   | (rw [jY (by omega)]; first | done | rfl)
   | rfl
   | (refine ⟨⟨i + 1, by omega⟩, by dsimp only; omega, ?_⟩
      have hgi := hg (by omega)
      simp -implicitDefEqProofs only [go_sem, seval]
      first
       | (rw [UR (by omega) (show Pl _ = 2 from if_pos (by omega))]; simp; done)
       | (rw [PR (by omega) (show Pl _ = _ from if_neg (by omega))]; simp; done)
       | skip)
   | skip
end
def mE : Ct := Aq (lc bb.ag l0) (fun p => p.1.outs.length ≤ 1000) (fun p => .o true 1 ((p.1.outs.map (GK 3)).map A7))
section
attribute [local go_sem] lm List.length_append List.map_append AS.opn AS.cls AS.nilb AS.renb AS.up Bool.not_false Bool.not_true List.set_set List.set_cons_zero List.set_cons_succ List.set_nil List.mem_singleton forall_eq tn List.map_nil List.nil_append
set_option maxHeartbeats 1600000 in
theorem eZ {G : Gt} (hG : Ah G) : Gd G 200 (AA 0 mE) := by
 refine gr (fn := Tryz.f200) (n := 1) rfl rfl hG ?_ (hs := fun _ _ => .deep _ _)
 rintro ⟨c, ⟨⟩⟩ hpre
 simp -implicitDefEqProofs only [Tryz.f200, go_sem, seval] at hpre ⊢
 have hl : c.outs.length ≤ 1000 := hpre
 with_reducible repeat' (first | apply ai | intro _ | ((first | apply s1 | apply s3 | apply s4) <;> intro hb <;> simp -implicitDefEqProofs only [hb, go_sem, seval] <;> try simp only [qz] at hb))
 all_goals (try simp only [maxLen, tn] at *)
 all_goals first | rfl | omega | decide | with_reducible assumption | (show AX _ = true; rfl) | exact Hf (by assumption) | contradiction | skip
 refine AF [(3, 901, true, 1)] (ι := {i : Nat // i ≤ c.outs.length}) (fun p => ⟨[(1, .pb 1001 0), (3, .h 901), (4, .t (.v (.int .i64 p.1)))], [(1001, some (.box ((Do c).map .t))), (901, some (.arr true 1 (((c.outs.take p.1).map (GK 3)).map A7)))]⟩) (fun p => c.outs.length - p.1) ⟨0, Nat.zero_le _⟩ rfl ?_ ?_
 ·simp -implicitDefEqProofs only [go_sem, seval]
  try simp
 ·rintro ⟨i, hi⟩
  dsimp only at hi ⊢
  have hln : (c.outs.take i).length = i := by rw [List.length_take]; omega
  simp -implicitDefEqProofs only [go_sem, seval]
  with_reducible repeat' (first | apply ai | intro _ | ((first | apply s1 | apply s3 | apply s4) <;> intro hb <;> simp -implicitDefEqProofs only [hb, go_sem, seval] <;> try simp only [qz] at hb))
  all_goals (try simp only [maxLen, tn] at *)
  all_goals first
   | with_reducible rfl
   | omega
   | (show _ = true; rfl)
   | (rw [List.take_of_length_le (by omega)]; first | done | rfl)
   | rfl
   | (simp only [List.mem_singleton] at *; omega)
   | (rename_i q; simp only [List.mem_singleton] at q; subst q; rfl)
   | (have ht : c.outs.take (i + 1) = c.outs.take i ++ [c.outs.getD i default] := by
        have hh : i < c.outs.length := by omega
        rw [List.take_add_one, List.getElem?_eq_getElem hh]; simp [hh]
      refine ⟨⟨i + 1, by omega⟩, by dsimp only; omega, ?_⟩
      simp -implicitDefEqProofs only [go_sem, seval]
      rw [ht]
      first
       | (have ee : GK 3 (c.outs.getD i default) = 3 := if_pos (by omega); simp only [List.map_append, List.map_cons, List.map_nil, ee]; simp [A7]; done)
       | (have ee : GK 3 (c.outs.getD i default) = c.outs.getD i default := if_neg (by omega); simp only [List.map_append, List.map_cons, List.map_nil, ee]; simp [A7]; done)
       | skip)
   | skip
end
def Nd (m : Ml) : Prop := m.to.length ≤ 1000 ∧ m.body.length ≤ 100 ∧ (m.frm.user.size ≤ 1000 ∧ m.frm.domain.size ≤ 1000) ∧ (∀ a ∈ m.to, a.user.size ≤ 1000 ∧ a.domain.size ≤ 1000) ∧ ∀ l ∈ m.body, l.size ≤ 1000
theorem kC {m : Ml} (h : Nd m) {i : Nat} (hi : i < m.to.length) : (m.to.getD i default).user.size ≤ 1000 ∧ (m.to.getD i default).domain.size ≤ 1000 := h.2.2.2.1 _ (AE hi)
theorem NS (a : Ad) : (Cy a).size ≤ a.user.size + a.domain.size + 3 := by
 by_cases h : AZ a
 ·rw [IV h]; have : (⟨#[60, 62]⟩ : ByteArray).size = 2 := rfl; omega
 ·rw [Rg h]
  simp only [ByteArray.size_append]
  have e1 : (⟨#[60]⟩ : ByteArray).size = 1 := rfl
  have e2 : (⟨#[64]⟩ : ByteArray).size = 1 := rfl
  have e3 : (⟨#[62]⟩ : ByteArray).size = 1 := rfl
  omega
open Classical in
noncomputable def DS (c : Cl) (k : Int) : Cl × ByteArray := (if k ≥ 500 then (⟨c.name, c.mail, 6, c.pos, c.outs.map (GK 4)⟩, ⟨#[81, 85, 73, 84]⟩) else (⟨c.name, c.mail, 6, c.pos, c.outs.map (GK 3)⟩, ⟨#[81, 85, 73, 84]⟩))
theorem nj {c : Cl} {k : Int} (h0 : k ≥ 500) : DS c k = (⟨c.name, c.mail, 6, c.pos, c.outs.map (GK 4)⟩, ⟨#[81, 85, 73, 84]⟩) := by unfold DS; rw [if_pos h0]
theorem nl {c : Cl} {k : Int} (h0 : ¬ (k ≥ 500)) : DS c k = (⟨c.name, c.mail, 6, c.pos, c.outs.map (GK 3)⟩, ⟨#[81, 85, 73, 84]⟩) := by unfold DS; rw [if_neg h0]
def mN : Ct := Aq (lc bb.ag (lc BI l0)) (fun p => p.1.outs.length ≤ 1000) (fun p => .tup [.agg ((Do (DS p.1 p.2.1).1).map .t), .t (.v (.string (DS p.1 p.2.1).2))])
section
attribute [local go_sem] mS AS.opn AS.cls AS.nilb AS.renb AS.up Bool.not_false Bool.not_true List.set_set List.set_cons_zero List.set_cons_succ List.set_nil List.mem_singleton forall_eq tn List.map_nil List.nil_append
theorem ex {G : Gt} (hG : Ah G) (hh : G.e 219 = AA 1 mS) : Gd G 213 (AA 1 mN) := by
 refine gr (fn := Tryz.f213) (n := 2) rfl rfl hG ?_
 rintro ⟨c, k, ⟨⟩⟩ hpre
 have hl : c.outs.length ≤ 1000 := hpre
 try dsimp only
 refine BH (k ≥ 500) (fun h0 => have hx := And.intro (nj h0 : DS c k = _) h0; ?_) (fun h0 => have hx := And.intro (nl h0 : DS c k = _) h0; ?_)
 all_goals
  try rw [hx.1]
  simp -implicitDefEqProofs only [Tryz.f213, hx, eq_self, decide_true, decide_false, Int.reduceEq, go_sem, hh, seval]
  with_reducible repeat' (first | apply ai | intro _ | ((first | apply s1 | apply s3 | apply s4) <;> intro hb <;> simp -implicitDefEqProofs only [hb, go_sem, hh, seval] <;> try simp only [qz] at hb))
  all_goals (try simp only [maxLen, tn, lm] at *)
  all_goals first | rfl | omega | decide | with_reducible assumption | (show AX _ = true; rfl) | exact Hf (by assumption) | contradiction | skip
end
open Classical in
noncomputable def Dd (c : Cl) : Cl × ByteArray := (if c.pos < c.mail.to.length then (⟨c.name, c.mail, 3, c.pos + 1, c.outs⟩, ⟨#[82, 67, 80, 84, 32, 84, 79, 58]⟩ ++ Cy (c.mail.to.getD c.pos.toNat default)) else (if 1 ∈ c.outs then (⟨c.name, c.mail, 4, c.pos, c.outs⟩, ⟨#[68, 65, 84, 65]⟩) else (⟨c.name, c.mail, 6, c.pos, c.outs⟩, ⟨#[81, 85, 73, 84]⟩)))
theorem pv {c : Cl} (h0 : c.pos < c.mail.to.length) : Dd c = (⟨c.name, c.mail, 3, c.pos + 1, c.outs⟩, ⟨#[82, 67, 80, 84, 32, 84, 79, 58]⟩ ++ Cy (c.mail.to.getD c.pos.toNat default)) := by unfold Dd; rw [if_pos h0]
theorem px {c : Cl} (h0 : ¬ (c.pos < c.mail.to.length)) (h1 : 1 ∈ c.outs) : Dd c = (⟨c.name, c.mail, 4, c.pos, c.outs⟩, ⟨#[68, 65, 84, 65]⟩) := by unfold Dd; rw [if_neg h0, if_pos h1]
theorem py {c : Cl} (h0 : ¬ (c.pos < c.mail.to.length)) (h1 : ¬ (1 ∈ c.outs)) : Dd c = (⟨c.name, c.mail, 6, c.pos, c.outs⟩, ⟨#[81, 85, 73, 84]⟩) := by unfold Dd; rw [if_neg h0, if_neg h1]
def Xr : Ct := Aq (lc bb.ag l0) (fun p => p.1.outs.length ≤ 1000 ∧ Nd p.1.mail ∧ 0 ≤ p.1.pos) (fun p => .tup [.agg ((Do (Dd p.1).1).map .t), .t (.v (.string (Dd p.1).2))])
section
attribute [local go_sem] Qi Int.add_sub_cancel AS.opn AS.cls AS.nilb AS.renb AS.up Bool.not_false Bool.not_true List.set_set List.set_cons_zero List.set_cons_succ List.set_nil List.mem_singleton forall_eq tn List.map_nil List.nil_append
set_option maxHeartbeats 1600000 in
theorem en {G : Gt} (hG : Ah G) (hh : G.e 209 = AA 0 Qi) : Gd G 210 (AA 1 Xr) := by
 refine gr (fn := Tryz.f210) (n := 1) rfl rfl hG ?_
 rintro ⟨c, ⟨⟩⟩ hpre
 obtain ⟨hl, hm, hp⟩ := hpre
 try dsimp only at hl hm hp ⊢
 have hml := hm.1
 have hat : c.pos.toNat < c.mail.to.length → (c.mail.to.getD c.pos.toNat default).user.size ≤ 1000 ∧ (c.mail.to.getD c.pos.toNat default).domain.size ≤ 1000 := fun h => kC hm h
 have hps := NS (c.mail.to.getD c.pos.toNat default)
 have e8 : (#[82, 67, 80, 84, 32, 84, 79, 58] : Array UInt8).size = 8 := rfl
 refine BH (c.pos < c.mail.to.length) (fun h0 => have hx := And.intro (pv h0 : Dd c = _) h0; ?_) (fun h0 => ?w1)
 case w1 =>
  simp -implicitDefEqProofs only [Tryz.f210, h0, eq_self, decide_true, decide_false, go_sem, hh, seval]
  with_reducible repeat' (first | apply ai | intro _ | ((first | apply s1 | apply s3 | apply s4) <;> intro hb <;> simp -implicitDefEqProofs only [hb, go_sem, hh, seval] <;> try simp only [qz] at hb))
  all_goals (try simp only [maxLen, tn, lm] at *)
  all_goals first | rfl | omega | decide | with_reducible assumption | (show AX _ = true; rfl) | exact Hf (by assumption) | contradiction | skip
  refine AF [] (ι := {i : Nat // i ≤ c.outs.length ∧ ∀ j, j < i → ¬ c.outs.getD j default = 1}) (fun p => ⟨[(1, .pb 1001 0), (2, .pb 1002 0), (4, .t (.v (.int .i64 p.1)))], [(1001, some (.box ((Do c).map .t))), (1002, some (.box [.t (.v (.string ⟨#[]⟩)), .t (.v (.string ⟨#[]⟩)), .t (.v (.string ⟨#[]⟩)), .nil, .nil, .t (.v (.int .i64 0)), .t (.v (.int .i64 0)), .nil]))]⟩) (fun p => c.outs.length - p.1) ⟨0, by simp, by simp⟩ rfl ?_ ?_
  ·simp -implicitDefEqProofs only [go_sem, hh, seval]
   try simp
  ·rintro ⟨i, hi, hall⟩
   simp -implicitDefEqProofs only [go_sem, hh, seval]
   with_reducible repeat' (first | apply ai | intro _ | ((first | apply s1 | apply s3 | apply s4) <;> intro hb <;> simp -implicitDefEqProofs only [hb, go_sem, hh, seval] <;> try simp only [qz] at hb))
   all_goals (try simp only [maxLen, tn, lm] at *)
   all_goals first
    | with_reducible rfl
    | omega
    | (show _ = true; rfl)
    | (rw [px h0 (Za (xs := c.outs) (i := i) (by omega) (by assumption))]; first | done | rfl)
    | (rw [py h0 (Zk (by omega) hall)]; first | done | rfl)
    | (refine ⟨⟨i + 1, by omega, fun j hj => ?_⟩, by dsimp only; omega, ?_⟩
       ·by_cases e : j = i
        ·subst e; assumption
        ·exact hall j (by omega)
       ·simp -implicitDefEqProofs only [go_sem, hh, seval]
        simp)
    | skip
 all_goals
  try rw [hx.1]
  simp -implicitDefEqProofs only [Tryz.f210, hx, eq_self, decide_true, decide_false, Int.reduceEq, go_sem, hh, seval]
  with_reducible repeat' (first | apply ai | intro _ | ((first | apply s1 | apply s3 | apply s4) <;> intro hb <;> simp -implicitDefEqProofs only [hb, go_sem, hh, seval] <;> try simp only [qz] at hb))
  all_goals (try simp only [maxLen, tn, lm] at *)
  all_goals first | rfl | omega | decide | with_reducible assumption | (show AX _ = true; rfl) | exact Hf (by assumption) | contradiction | skip
end
open Classical in
noncomputable def FK (c : Cl) (k : Int) : Cl × ByteArray := (if k = 250 then Dd ⟨c.name, c.mail, c.state, c.pos, c.outs.set (c.pos - 1).toNat 1⟩ else (if k ≥ 500 then Dd ⟨c.name, c.mail, c.state, c.pos, c.outs.set (c.pos - 1).toNat 4⟩ else Dd ⟨c.name, c.mail, c.state, c.pos, c.outs.set (c.pos - 1).toNat 3⟩))
theorem qw {c : Cl} {k : Int} (h0 : k = 250) : FK c k = Dd ⟨c.name, c.mail, c.state, c.pos, c.outs.set (c.pos - 1).toNat 1⟩ := by unfold FK; rw [if_pos h0]
theorem qx {c : Cl} {k : Int} (h0 : ¬ (k = 250)) (h1 : k ≥ 500) : FK c k = Dd ⟨c.name, c.mail, c.state, c.pos, c.outs.set (c.pos - 1).toNat 4⟩ := by unfold FK; rw [if_neg h0, if_pos h1]
theorem qy {c : Cl} {k : Int} (h0 : ¬ (k = 250)) (h1 : ¬ (k ≥ 500)) : FK c k = Dd ⟨c.name, c.mail, c.state, c.pos, c.outs.set (c.pos - 1).toNat 3⟩ := by unfold FK; rw [if_neg h0, if_neg h1]
def mK : Ct := Aq (lc bb.ag (lc BI l0)) (fun p => p.1.outs.length ≤ 1000 ∧ Nd p.1.mail ∧ 1 ≤ p.1.pos ∧ p.1.pos ≤ p.1.outs.length) (fun p => .tup [.agg ((Do (FK p.1 p.2.1).1).map .t), .t (.v (.string (FK p.1 p.2.1).2))])
section
attribute [local go_sem] Xr lm List.length_set BZ Jc AS.opn AS.cls AS.nilb AS.renb AS.up Bool.not_false Bool.not_true List.set_set List.set_cons_zero List.set_cons_succ List.set_nil List.mem_singleton forall_eq tn List.map_nil List.nil_append
set_option maxHeartbeats 1600000 in
theorem eh {G : Gt} (hG : Ah G) (hh : G.e 210 = AA 1 Xr) : Gd G 208 (AA 1 mK) := by
 refine gr (fn := Tryz.f208) (n := 2) rfl rfl hG ?_
 rintro ⟨c, k, ⟨⟩⟩ hpre
 obtain ⟨hl, hm, hp, hq⟩ := hpre
 try dsimp only at hl hm hp hq ⊢
 refine BH (k = 250) (fun h0 => have h0' := decide_eq_true h0; have hx := And.intro (qw h0 : FK c k = _) h0'; ?_) (fun h0 => have h0' := decide_eq_false h0; BH (k ≥ 500) (fun h1 => have hx := And.intro (qx h0 h1 : FK c k = _) (And.intro h0' h1); ?_) (fun h1 => have hx := And.intro (qy h0 h1 : FK c k = _) (And.intro h0' h1); ?_))
 all_goals
  try rw [hx.1]
  simp -implicitDefEqProofs only [Tryz.f208, hx, eq_self, decide_true, decide_false, Int.reduceEq, go_sem, hh, seval]
  with_reducible repeat' (first | apply ai | intro _ | ((first | apply s1 | apply s3 | apply s4) <;> intro hb <;> simp -implicitDefEqProofs only [hb, go_sem, hh, seval] <;> try simp only [qz] at hb))
  all_goals (try simp only [maxLen, tn, lm] at *)
  all_goals first | rfl | omega | decide | with_reducible assumption | (show AX _ = true; rfl) | exact Hf (by assumption) | contradiction | skip
end
open Classical in
noncomputable def Ay (c : Cl) (a : ByteArray) : Cl × ByteArray := (if c.state = 7 then (c, ⟨#[]⟩) else (if c.state = 6 then (⟨c.name, c.mail, 7, c.pos, c.outs⟩, ⟨#[]⟩) else (if c.state = 3 then FK c (BB a) else (if c.state = 0 then (if BB a = 220 then (⟨c.name, c.mail, 1, c.pos, c.outs⟩, ⟨#[72, 69, 76, 79, 32]⟩ ++ c.name) else DS c (BB a)) else (if c.state = 1 then (if BB a = 250 then (⟨c.name, c.mail, 2, c.pos, c.outs⟩, ⟨#[77, 65, 73, 76, 32, 70, 82, 79, 77, 58]⟩ ++ Cy c.mail.frm) else DS c (BB a)) else (if c.state = 2 then (if BB a = 250 then Dd c else DS c (BB a)) else (if c.state = 4 then (if BB a = 354 then (⟨c.name, c.mail, 5, c.pos, c.outs⟩, Vq c.mail.body) else DS c (BB a)) else (if c.state = 5 then (if BB a = 250 then (⟨c.name, c.mail, 6, c.pos, c.outs.map Pl⟩, ⟨#[81, 85, 73, 84]⟩) else DS c (BB a)) else DS c (BB a)))))))))
theorem qS {c : Cl} {a : ByteArray} (h0 : c.state = 7) : Ay c a = (c, ⟨#[]⟩) := by unfold Ay; rw [if_pos h0]
theorem qT {c : Cl} {a : ByteArray} (h0 : ¬ (c.state = 7)) (h1 : c.state = 6) : Ay c a = (⟨c.name, c.mail, 7, c.pos, c.outs⟩, ⟨#[]⟩) := by unfold Ay; rw [if_neg h0, if_pos h1]
theorem qU {c : Cl} {a : ByteArray} (h0 : ¬ (c.state = 7)) (h1 : ¬ (c.state = 6)) (h2 : c.state = 3) : Ay c a = FK c (BB a) := by unfold Ay; rw [if_neg h0, if_neg h1, if_pos h2]
theorem qV {c : Cl} {a : ByteArray} (h0 : ¬ (c.state = 7)) (h1 : ¬ (c.state = 6)) (h2 : ¬ (c.state = 3)) (h3 : c.state = 0) (h4 : BB a = 220) : Ay c a = (⟨c.name, c.mail, 1, c.pos, c.outs⟩, ⟨#[72, 69, 76, 79, 32]⟩ ++ c.name) := by unfold Ay; rw [if_neg h0, if_neg h1, if_neg h2, if_pos h3, if_pos h4]
theorem qW {c : Cl} {a : ByteArray} (h0 : ¬ (c.state = 7)) (h1 : ¬ (c.state = 6)) (h2 : ¬ (c.state = 3)) (h3 : c.state = 0) (h4 : ¬ (BB a = 220)) : Ay c a = DS c (BB a) := by unfold Ay; rw [if_neg h0, if_neg h1, if_neg h2, if_pos h3, if_neg h4]
theorem qX {c : Cl} {a : ByteArray} (h0 : ¬ (c.state = 7)) (h1 : ¬ (c.state = 6)) (h2 : ¬ (c.state = 3)) (h3 : ¬ (c.state = 0)) (h4 : c.state = 1) (h5 : BB a = 250) : Ay c a = (⟨c.name, c.mail, 2, c.pos, c.outs⟩, ⟨#[77, 65, 73, 76, 32, 70, 82, 79, 77, 58]⟩ ++ Cy c.mail.frm) := by unfold Ay; rw [if_neg h0, if_neg h1, if_neg h2, if_neg h3, if_pos h4, if_pos h5]
theorem qY {c : Cl} {a : ByteArray} (h0 : ¬ (c.state = 7)) (h1 : ¬ (c.state = 6)) (h2 : ¬ (c.state = 3)) (h3 : ¬ (c.state = 0)) (h4 : c.state = 1) (h5 : ¬ (BB a = 250)) : Ay c a = DS c (BB a) := by unfold Ay; rw [if_neg h0, if_neg h1, if_neg h2, if_neg h3, if_pos h4, if_neg h5]
theorem qZ {c : Cl} {a : ByteArray} (h0 : ¬ (c.state = 7)) (h1 : ¬ (c.state = 6)) (h2 : ¬ (c.state = 3)) (h3 : ¬ (c.state = 0)) (h4 : ¬ (c.state = 1)) (h5 : c.state = 2) (h6 : BB a = 250) : Ay c a = Dd c := by unfold Ay; rw [if_neg h0, if_neg h1, if_neg h2, if_neg h3, if_neg h4, if_pos h5, if_pos h6]
theorem qh {c : Cl} {a : ByteArray} (h0 : ¬ (c.state = 7)) (h1 : ¬ (c.state = 6)) (h2 : ¬ (c.state = 3)) (h3 : ¬ (c.state = 0)) (h4 : ¬ (c.state = 1)) (h5 : c.state = 2) (h6 : ¬ (BB a = 250)) : Ay c a = DS c (BB a) := by unfold Ay; rw [if_neg h0, if_neg h1, if_neg h2, if_neg h3, if_neg h4, if_pos h5, if_neg h6]
theorem qi {c : Cl} {a : ByteArray} (h0 : ¬ (c.state = 7)) (h1 : ¬ (c.state = 6)) (h2 : ¬ (c.state = 3)) (h3 : ¬ (c.state = 0)) (h4 : ¬ (c.state = 1)) (h5 : ¬ (c.state = 2)) (h6 : c.state = 4) (h7 : BB a = 354) : Ay c a = (⟨c.name, c.mail, 5, c.pos, c.outs⟩, Vq c.mail.body) := by unfold Ay; rw [if_neg h0, if_neg h1, if_neg h2, if_neg h3, if_neg h4, if_neg h5, if_pos h6, if_pos h7]
theorem gA {c : Cl} {a : ByteArray} (h0 : ¬ (c.state = 7)) (h1 : ¬ (c.state = 6)) (h2 : ¬ (c.state = 3)) (h3 : ¬ (c.state = 0)) (h4 : ¬ (c.state = 1)) (h5 : ¬ (c.state = 2)) (h6 : c.state = 4) (h7 : ¬ (BB a = 354)) : Ay c a = DS c (BB a) := by unfold Ay; rw [if_neg h0, if_neg h1, if_neg h2, if_neg h3, if_neg h4, if_neg h5, if_pos h6, if_neg h7]
theorem gC {c : Cl} {a : ByteArray} (h0 : ¬ (c.state = 7)) (h1 : ¬ (c.state = 6)) (h2 : ¬ (c.state = 3)) (h3 : ¬ (c.state = 0)) (h4 : ¬ (c.state = 1)) (h5 : ¬ (c.state = 2)) (h6 : ¬ (c.state = 4)) (h7 : c.state = 5) (h8 : BB a = 250) : Ay c a = (⟨c.name, c.mail, 6, c.pos, c.outs.map Pl⟩, ⟨#[81, 85, 73, 84]⟩) := by unfold Ay; rw [if_neg h0, if_neg h1, if_neg h2, if_neg h3, if_neg h4, if_neg h5, if_neg h6, if_pos h7, if_pos h8]
theorem gE {c : Cl} {a : ByteArray} (h0 : ¬ (c.state = 7)) (h1 : ¬ (c.state = 6)) (h2 : ¬ (c.state = 3)) (h3 : ¬ (c.state = 0)) (h4 : ¬ (c.state = 1)) (h5 : ¬ (c.state = 2)) (h6 : ¬ (c.state = 4)) (h7 : c.state = 5) (h8 : ¬ (BB a = 250)) : Ay c a = DS c (BB a) := by unfold Ay; rw [if_neg h0, if_neg h1, if_neg h2, if_neg h3, if_neg h4, if_neg h5, if_neg h6, if_pos h7, if_neg h8]
theorem gG {c : Cl} {a : ByteArray} (h0 : ¬ (c.state = 7)) (h1 : ¬ (c.state = 6)) (h2 : ¬ (c.state = 3)) (h3 : ¬ (c.state = 0)) (h4 : ¬ (c.state = 1)) (h5 : ¬ (c.state = 2)) (h6 : ¬ (c.state = 4)) (h7 : ¬ (c.state = 5)) : Ay c a = DS c (BB a) := by unfold Ay; rw [if_neg h0, if_neg h1, if_neg h2, if_neg h3, if_neg h4, if_neg h5, if_neg h6, if_neg h7]
def mC : Ct := Aq (lc bb.ag (lc Ap l0)) (fun p => p.1.outs.length ≤ 1000 ∧ Nd p.1.mail ∧ 0 ≤ p.1.pos ∧ p.1.pos ≤ p.1.outs.length ∧ (p.1.state = 3 → 1 ≤ p.1.pos) ∧ p.1.name.size ≤ 1000000) (fun p => .tup [.agg ((Do (Ay p.1 p.2.1).1).map .t), .t (.v (.string (Ay p.1 p.2.1).2))])
section
attribute [local go_sem] mJ mK Qi Xr mL mM mN AS.opn AS.cls AS.nilb AS.renb AS.up Bool.not_false Bool.not_true List.set_set List.set_cons_zero List.set_cons_succ List.set_nil List.mem_singleton forall_eq tn List.map_nil List.nil_append
set_option maxHeartbeats 3200000 in
theorem eX {G : Gt} (hG : Ah G) (hh : G.e 207 = AA 0 mJ ∧ G.e 208 = AA 1 mK ∧ G.e 209 = AA 0 Qi ∧ G.e 210 = AA 1 Xr ∧ G.e 211 = AA 0 mL ∧ G.e 212 = AA 1 mM ∧ G.e 213 = AA 1 mN) : Gd G 198 (AA 1 mC) := by
 refine gr (fn := Tryz.f198) (n := 2) rfl rfl hG ?_
 rintro ⟨c, a, ⟨⟩⟩ hpre
 obtain ⟨hl, hm, hp, hq, h3p, hn⟩ := hpre
 try dsimp only at hl hm hp hq h3p hn ⊢
 have hml := hm.1
 have hmb := hm.2.1
 have hmf := hm.2.2.1
 have hps := NS c.mail.frm
 have hbo : ∀ x ∈ c.mail.body, x.size ≤ 2000000 := fun x hx => Nat.le_trans (hm.2.2.2.2 x hx) (by decide)
 have e5 : (#[72, 69, 76, 79, 32] : Array UInt8).size = 5 := rfl
 have e10 : (#[77, 65, 73, 76, 32, 70, 82, 79, 77, 58] : Array UInt8).size = 10 := rfl
 refine BH (c.state = 7) (fun h0 => have h0' := decide_eq_true h0; have hx := And.intro (qS h0 : Ay c a = _) h0'; ?_) (fun h0 => have h0' := decide_eq_false h0; BH (c.state = 6) (fun h1 => have h1' := decide_eq_true h1; have hx := And.intro (qT h0 h1 : Ay c a = _) (And.intro h0' h1'); ?_) (fun h1 => have h1' := decide_eq_false h1; BH (c.state = 3) (fun h2 => have h2' := decide_eq_true h2; have hx := And.intro (qU h0 h1 h2 : Ay c a = _) (And.intro h0' (And.intro h1' h2')); ?_) (fun h2 => have h2' := decide_eq_false h2; BH (c.state = 0) (fun h3 => have h3' := decide_eq_true h3; BH (BB a = 220) (fun h4 => have h4' := decide_eq_true h4; have hx := And.intro (qV h0 h1 h2 h3 h4 : Ay c a = _) (And.intro h0' (And.intro h1' (And.intro h2' (And.intro h3' h4')))); ?_) (fun h4 => have h4' := decide_eq_false h4; have hx := And.intro (qW h0 h1 h2 h3 h4 : Ay c a = _) (And.intro h0' (And.intro h1' (And.intro h2' (And.intro h3' h4')))); ?_)) (fun h3 => have h3' := decide_eq_false h3; BH (c.state = 1) (fun h4 => have h4' := decide_eq_true h4; BH (BB a = 250) (fun h5 => have h5' := decide_eq_true h5; have hx := And.intro (qX h0 h1 h2 h3 h4 h5 : Ay c a = _) (And.intro h0' (And.intro h1' (And.intro h2' (And.intro h3' (And.intro h4' h5'))))); ?_) (fun h5 => have h5' := decide_eq_false h5; have hx := And.intro (qY h0 h1 h2 h3 h4 h5 : Ay c a = _) (And.intro h0' (And.intro h1' (And.intro h2' (And.intro h3' (And.intro h4' h5'))))); ?_)) (fun h4 => have h4' := decide_eq_false h4; BH (c.state = 2) (fun h5 => have h5' := decide_eq_true h5; BH (BB a = 250) (fun h6 => have h6' := decide_eq_true h6; have hx := And.intro (qZ h0 h1 h2 h3 h4 h5 h6 : Ay c a = _) (And.intro h0' (And.intro h1' (And.intro h2' (And.intro h3' (And.intro h4' (And.intro h5' h6')))))); ?_) (fun h6 => have h6' := decide_eq_false h6; have hx := And.intro (qh h0 h1 h2 h3 h4 h5 h6 : Ay c a = _) (And.intro h0' (And.intro h1' (And.intro h2' (And.intro h3' (And.intro h4' (And.intro h5' h6')))))); ?_)) (fun h5 => have h5' := decide_eq_false h5; BH (c.state = 4) (fun h6 => have h6' := decide_eq_true h6; BH (BB a = 354) (fun h7 => have h7' := decide_eq_true h7; have hx := And.intro (qi h0 h1 h2 h3 h4 h5 h6 h7 : Ay c a = _) (And.intro h0' (And.intro h1' (And.intro h2' (And.intro h3' (And.intro h4' (And.intro h5' (And.intro h6' h7'))))))); ?_) (fun h7 => have h7' := decide_eq_false h7; have hx := And.intro (gA h0 h1 h2 h3 h4 h5 h6 h7 : Ay c a = _) (And.intro h0' (And.intro h1' (And.intro h2' (And.intro h3' (And.intro h4' (And.intro h5' (And.intro h6' h7'))))))); ?_)) (fun h6 => have h6' := decide_eq_false h6; BH (c.state = 5) (fun h7 => have h7' := decide_eq_true h7; BH (BB a = 250) (fun h8 => have h8' := decide_eq_true h8; have hx := And.intro (gC h0 h1 h2 h3 h4 h5 h6 h7 h8 : Ay c a = _) (And.intro h0' (And.intro h1' (And.intro h2' (And.intro h3' (And.intro h4' (And.intro h5' (And.intro h6' (And.intro h7' h8')))))))); ?_) (fun h8 => have h8' := decide_eq_false h8; have hx := And.intro (gE h0 h1 h2 h3 h4 h5 h6 h7 h8 : Ay c a = _) (And.intro h0' (And.intro h1' (And.intro h2' (And.intro h3' (And.intro h4' (And.intro h5' (And.intro h6' (And.intro h7' h8')))))))); ?_)) (fun h7 => have h7' := decide_eq_false h7; have hx := And.intro (gG h0 h1 h2 h3 h4 h5 h6 h7 : Ay c a = _) (And.intro h0' (And.intro h1' (And.intro h2' (And.intro h3' (And.intro h4' (And.intro h5' (And.intro h6' h7'))))))); ?_))))))))
 all_goals
  try rw [hx.1]
  simp -implicitDefEqProofs only [Tryz.f198, hx, eq_self, decide_true, decide_false, Int.reduceEq, go_sem, hh, seval]
  with_reducible repeat' (first | apply ai | intro _ | ((first | apply s1 | apply s3 | apply s4) <;> intro hb <;> simp -implicitDefEqProofs only [hb, go_sem, hh, seval] <;> try simp only [qz] at hb))
  all_goals (try simp only [maxLen, tn, lm] at *)
  all_goals first | rfl | omega | decide | with_reducible assumption | (show AX _ = true; rfl) | exact Hf (by assumption) | contradiction | exact hbo _ (by with_reducible assumption) | skip
end
def VJ (c : Cl) : Prop := c.outs.length = c.mail.to.length ∧ Nd c.mail ∧ 0 ≤ c.pos ∧ c.pos ≤ c.outs.length ∧ (c.state = 3 → 1 ≤ c.pos) ∧ c.name.size ≤ 1000
theorem cx {c : Cl} (k : Int) (h : VJ c) : VJ (DS c k).1 ∧ (DS c k).2.size ≤ 20 := by
 unfold DS
 split
 all_goals exact ⟨⟨by show (c.outs.map _).length = _; rw [lm]; exact h.1, h.2.1, h.2.2.1, by show _ ≤ (((c.outs.map _).length : Nat) : Int); rw [lm]; exact h.2.2.2.1, fun q => by simp at q, h.2.2.2.2.2⟩, Nat.le_of_ble_eq_true rfl⟩
theorem UV {c : Cl} (h : c.outs.length = c.mail.to.length ∧ Nd c.mail ∧ 0 ≤ c.pos ∧ c.pos ≤ c.outs.length ∧ c.name.size ≤ 1000) : VJ (Dd c).1 ∧ (Dd c).2.size ≤ 3000 := by
 obtain ⟨h1, h2, h3, h4, h5⟩ := h
 unfold Dd
 split
 ·rename_i hlt
  refine ⟨⟨h1, h2, by show 0 ≤ c.pos + 1; omega, by show c.pos + 1 ≤ (c.outs.length : Int); omega, fun _ => by show 1 ≤ c.pos + 1; omega, h5⟩, ?_⟩
  show (⟨#[82, 67, 80, 84, 32, 84, 79, 58]⟩ ++ Cy (c.mail.to.getD c.pos.toNat default)).size ≤ 3000
  have hps := NS (c.mail.to.getD c.pos.toNat default)
  have ht := kC h2 (i := c.pos.toNat) (by omega)
  rw [ByteArray.size_append]
  have e8 : (⟨#[82, 67, 80, 84, 32, 84, 79, 58]⟩ : ByteArray).size = 8 := rfl
  omega
 ·split
  all_goals exact ⟨⟨h1, h2, h3, h4, fun q => by simp at q, h5⟩, Nat.le_of_ble_eq_true rfl⟩
theorem gP {c : Cl} (k : Int) (h : VJ c) : VJ (FK c k).1 ∧ (FK c k).2.size ≤ 3000 := by
 have key : ∀ v : Int, VJ (Dd ⟨c.name, c.mail, c.state, c.pos, c.outs.set (c.pos - 1).toNat v⟩).1 ∧ (Dd ⟨c.name, c.mail, c.state, c.pos, c.outs.set (c.pos - 1).toNat v⟩).2.size ≤ 3000 := fun v =>
  UV ⟨by show (c.outs.set _ _).length = _; rw [List.length_set]; exact h.1, h.2.1, h.2.2.1, by show _ ≤ (((c.outs.set _ _).length : Nat) : Int); rw [List.length_set]; exact h.2.2.2.1, h.2.2.2.2.2⟩
 unfold FK
 repeat' split
 all_goals exact key _
theorem nc {l : List ByteArray} (h1 : l.length ≤ 100) (h : ∀ x ∈ l, x.size ≤ 1000) : (Vq l).size ≤ 100400 := by
 unfold Vq
 have q := Yd l ⟨#[]⟩ 1000 h
 rw [ByteArray.size_append, iU]
 have : (⟨#[]⟩ : ByteArray).size = 0 := rfl
 have : l.length * (1000 + 3) ≤ 100 * (1000 + 3) := Nat.mul_le_mul_right _ h1
 omega
theorem gH {c : Cl} (a : ByteArray) (h : VJ c) : VJ (Ay c a).1 ∧ (Ay c a).2.size ≤ 200000 := by
 have q1 := gP (BB a) h
 have q2 := cx (BB a) h
 have q3 := UV ⟨h.1, h.2.1, h.2.2.1, h.2.2.2.1, h.2.2.2.2.2⟩
 have q4 := nc h.2.1.2.1 h.2.1.2.2.2.2
 have q5 := NS c.mail.frm
 have q6 := h.2.1.2.2.1
 have mk : ∀ st, ¬ st = (3 : Int) → ∀ o : List Int, o.length = c.outs.length → VJ ⟨c.name, c.mail, st, c.pos, o⟩ := fun st hs o ho => ⟨by show o.length = _; rw [ho]; exact h.1, h.2.1, h.2.2.1, by show _ ≤ ((o.length : Nat) : Int); rw [ho]; exact h.2.2.2.1, fun q => absurd q hs, h.2.2.2.2.2⟩
 unfold Ay
 repeat' split
 all_goals first
  | exact ⟨h, Nat.zero_le _⟩
  | exact ⟨mk _ (by decide) _ rfl, Nat.zero_le _⟩
  | exact ⟨q1.1, by have := q1.2; omega⟩
  | exact ⟨q2.1, by have := q2.2; omega⟩
  | exact ⟨q3.1, by have := q3.2; omega⟩
  | exact ⟨mk _ (by decide) _ (lm _), Nat.le_of_ble_eq_true rfl⟩
  | exact ⟨mk _ (by decide) _ rfl, Nat.le_trans q4 (by decide)⟩
  | (refine ⟨mk _ (by decide) _ rfl, ?_⟩
     show ((⟨_⟩ : ByteArray) ++ _).size ≤ _
     rw [ByteArray.size_append]
     have e5 : (⟨#[72, 69, 76, 79, 32]⟩ : ByteArray).size = 5 := rfl
     have e10 : (⟨#[77, 65, 73, 76, 32, 70, 82, 79, 77, 58]⟩ : ByteArray).size = 10 := rfl
     have := h.2.2.2.2.2
     omega)
theorem Xv (c : Cf) (s : Ss) (l : ByteArray) : (Ba c s l).1.buf = s.buf := by
 have q1 : ∀ t, (Ei s t).1.buf = s.buf := fun t => by unfold Ei; (repeat' split) <;> rfl
 have q2 : ∀ t, (Ht c s t).1.buf = s.buf := fun t => by unfold Ht; (repeat' split) <;> rfl
 unfold Ba
 repeat' split
 all_goals first | rfl | exact q1 _ | exact q2 _
theorem Xz (s : Ss) (l : ByteArray) : (Aj s l).1.1.buf = s.buf := by unfold Aj; (repeat' split) <;> rfl
theorem an (c : Cf) (s : Ss) (l : ByteArray) : (Bl c s l).1.1.buf = s.buf := by
 unfold Bl
 repeat' split
 all_goals first | rfl | exact Xz s l | exact Xv c s l
theorem Tx (c : Cf) : ∀ (L : List ByteArray) (x : Fm), (M1 c L x).1.1.buf = x.1.buf
 | [], x => rfl
 | l :: r, x => by
   rw [M1]
   split
   ·rfl
   ·split
    ·rfl
    ·rw [Tx c r]; exact an c x.1 l
theorem Vt (c : Cf) (s : Ss) (t : ByteArray) : (Bp c s t).1.buf.size ≤ 80 := by
 have q := Tx c (Ni (s.buf ++ t)) (⟨s.state, s.mail, s.bad, ⟨#[]⟩⟩, [], [])
 have e : (⟨#[]⟩ : ByteArray).size = 0 := rfl
 unfold Bp Ys
 split
 ·rw [q]; show (⟨#[]⟩ : ByteArray).size ≤ 80; omega
 ·split
  ·rw [q]; show (⟨#[]⟩ : ByteArray).size ≤ 80; omega
  ·split
   ·show (M1 c _ _).1.1.buf.size ≤ 80
    rw [q]; show (⟨#[]⟩ : ByteArray).size ≤ 80; omega
   ·show (pi (s.buf ++ t)).size ≤ 80; omega
abbrev N5 := Cl × Ss × List Ml × List ByteArray
def ar (q : Cl × ByteArray) : ByteArray := if q.1.state = 5 then q.2 else q.2 ++ ⟨#[13, 10]⟩
theorem j5 {q : Cl × ByteArray} (h : q.1.state = 5) : ar q = q.2 := if_pos h
theorem j4 {q : Cl × ByteArray} (h : ¬ q.1.state = 5) : ar q = q.2 ++ ⟨#[13, 10]⟩ := if_neg h
theorem tg (q : Cl × ByteArray) : (ar q).size ≤ q.2.size + 2 := by
 unfold ar
 split
 ·omega
 ·rw [ByteArray.size_append, Mp]; omega
noncomputable def ML (x : N5) : Cl × ByteArray := Ay x.1 (x.2.2.2.getD 0 default)
noncomputable def bV (h : Cf) (x : N5) : N5 := ((ML x).1, (Bp h x.2.1 (ar (ML x))).1, x.2.2.1 ++ (Bp h x.2.1 (ar (ML x))).2.2, (Bp h x.2.1 (ar (ML x))).2.1)
noncomputable def LA (h : Cf) (cut : Int) : Nat → Nat → N5 → Cl × List Ml
 | 0, _, x => (x.1, x.2.2.1)
 | k + 1, n, x => if (x.2.2.2.length : Int) > 0 ∧ ¬ x.1.state = 7 then (if 2 * (n : Int) ≥ cut then (x.1, x.2.2.1) else if (ML x).2 = ⟨#[]⟩ ∨ 2 * (n : Int) + 1 ≥ cut then ((ML x).1, x.2.2.1) else LA h cut k (n + 1) (bV h x)) else (x.1, x.2.2.1)
theorem au {h : Cf} {cut : Int} {k n : Nat} {x : N5} (q : ¬ (x.2.2.2.length : Int) > 0 ∨ x.1.state = 7 ∨ 2 * (n : Int) ≥ cut) : LA h cut k n x = (x.1, x.2.2.1) := by
 cases k with
 | zero => rfl
 | succ k =>
   rw [LA]
   split
   ·rename_i z
    rw [if_pos (q.elim (fun a => absurd z.1 a) fun q => q.elim (fun a => absurd a z.2) id)]
   ·rfl
theorem j6 {h : Cf} {cut : Int} {k n : Nat} {x : N5} (hk : cut ≤ 2 * ((n : Int) + k)) (h1 : (x.2.2.2.length : Int) > 0) (h2 : ¬ x.1.state = 7) (h3 : ¬ 2 * (n : Int) ≥ cut) (h4 : (ML x).2 = ⟨#[]⟩ ∨ 2 * (n : Int) + 1 ≥ cut) : LA h cut k n x = ((ML x).1, x.2.2.1) := by
 obtain ⟨j, rfl⟩ : ∃ j, k = j + 1 := ⟨k - 1, by omega⟩
 rw [LA, if_pos ⟨h1, h2⟩, if_neg h3, if_pos h4]
theorem th {h : Cf} {cut : Int} {k n : Nat} {x : N5} (h1 : (x.2.2.2.length : Int) > 0) (h2 : ¬ x.1.state = 7) (h3 : ¬ 2 * (n : Int) ≥ cut) (h4 : ¬ (ML x).2 = ⟨#[]⟩) (h5 : ¬ 2 * (n : Int) + 1 ≥ cut) : LA h cut (k + 1) n x = LA h cut k (n + 1) (bV h x) := by
 rw [LA, if_pos ⟨h1, h2⟩, if_neg h3, if_neg (fun q => q.elim h4 h5)]
def rE (n : Nat) (x : N5) : Prop := VJ x.1 ∧ N3 x.2.1 ∧ x.2.1.buf.size ≤ 80 ∧ x.2.2.1.length ≤ n * 300000 ∧ ∀ m ∈ x.2.2.1, gj m
theorem Rr {n : Nat} {x : N5} (q : rE n x) : VJ (ML x).1 ∧ (ML x).2.size ≤ 200000 := gH _ q.1
theorem NY {h : Cf} {n : Nat} {x : N5} (q : rE n x) : rE (n + 1) (bV h x) ∧ (Bp h x.2.1 (ar (ML x))).2.2.length ≤ 300000 := by
 obtain ⟨h1, h2⟩ := Rr q
 obtain ⟨q1, q2, q3, q4, q5⟩ := q
 have ha := tg (ML x)
 have f := Yw (c := h) (t := ar (ML x)) q2 (by omega)
 have fl : (Bp h x.2.1 (ar (ML x))).2.2.length ≤ 300000 := by have := f.2.2.1; omega
 refine ⟨⟨h1, f.1, Vt _ _ _, ?_, fun m hm => ?_⟩, fl⟩
 ·show (x.2.2.1 ++ _).length ≤ _
  rw [List.length_append]
  omega
 ·rcases List.mem_append.1 hm with hm | hm
  ·exact q5 m hm
  ·exact f.2.2.2.2 m hm
theorem K2 (h : Cf) (cut : Int) : ∀ (k n : Nat) (x : N5), rE n x → VJ (LA h cut k n x).1 ∧ (LA h cut k n x).2.length ≤ (n + k) * 300000 ∧ ∀ m ∈ (LA h cut k n x).2, gj m
 | 0, n, x, q => ⟨q.1, q.2.2.2.1, q.2.2.2.2⟩
 | k + 1, n, x, q => by
   have hl : x.2.2.1.length ≤ (n + (k + 1)) * 300000 := Nat.le_trans q.2.2.2.1 (Nat.mul_le_mul_right _ (Nat.le_add_right _ _))
   rw [LA]
   split
   ·split
    ·exact ⟨q.1, hl, q.2.2.2.2⟩
    ·split
     ·exact ⟨(Rr q).1, hl, q.2.2.2.2⟩
     ·have z := K2 h cut k (n + 1) _ (NY (h := h) q).1
      rw [show n + (k + 1) = n + 1 + k by omega]
      exact z
   ·exact ⟨q.1, hl, q.2.2.2.2⟩
def wC : Ss := ⟨0, ⟨⟨⟨#[]⟩, ⟨#[]⟩⟩, [], []⟩, false, ⟨#[]⟩⟩
def WZ (h : Cf) (nm : ByteArray) (m : Ml) : N5 := (fg nm m, wC, [], [⟨#[50, 50, 48, 32]⟩ ++ h.name])
theorem K1 (h : Cf) {nm : ByteArray} {m : Ml} (hn : nm.size ≤ 1000) (hm : Nd m) : rE 0 (WZ h nm m) := ⟨⟨by show (List.replicate _ _).length = _; rw [List.length_replicate]; rfl, hm, Int.le_refl _, by show (0 : Int) ≤ _; omega, fun q => absurd (show (0 : Int) = 3 from q) (by decide), hn⟩, Fp wC, Nat.zero_le _, Nat.zero_le _, fun _ z => by cases z⟩
noncomputable def wD (h : Cf) (nm : ByteArray) (m : Ml) (cut : Int) : Cl × List Ml := LA h cut cut.toNat 0 (WZ h nm m)
noncomputable def Eo (h : Cf) (nm : ByteArray) (m : Ml) (cut : Int) : List Int × List Ml := ((wD h nm m cut).1.outs.map (GK 3), (wD h nm m cut).2)
theorem K3 {h : Cf} {nm : ByteArray} {m : Ml} {cut : Int} {c : Cl} {l : List Ml} (q : (c, l) = LA h cut cut.toNat 0 (WZ h nm m)) : Eo h nm m cut = (c.outs.map (GK 3), l) := by
 unfold Eo wD; rw [← q]
theorem tk {h : Cf} {x1 : Cl} {x2 : Ss} {x3 : List Ml} {x4 : List ByteArray} (e : (Ay x1 (x4.getD 0 default)).1.state = 5) : bV h (x1, x2, x3, x4) = ((Ay x1 (x4.getD 0 default)).1, (Bp h x2 (Ay x1 (x4.getD 0 default)).2).1, x3 ++ (Bp h x2 (Ay x1 (x4.getD 0 default)).2).2.2, (Bp h x2 (Ay x1 (x4.getD 0 default)).2).2.1) := by
 unfold bV; rw [j5 (show (ML (x1, x2, x3, x4)).1.state = 5 from e)]; rfl
theorem ti {h : Cf} {x1 : Cl} {x2 : Ss} {x3 : List Ml} {x4 : List ByteArray} (e : ¬ (Ay x1 (x4.getD 0 default)).1.state = 5) : bV h (x1, x2, x3, x4) = ((Ay x1 (x4.getD 0 default)).1, (Bp h x2 ((Ay x1 (x4.getD 0 default)).2 ++ ⟨#[13, 10]⟩)).1, x3 ++ (Bp h x2 ((Ay x1 (x4.getD 0 default)).2 ++ ⟨#[13, 10]⟩)).2.2, (Bp h x2 ((Ay x1 (x4.getD 0 default)).2 ++ ⟨#[13, 10]⟩)).2.1) := by
 unfold bV; rw [j4 (show ¬ (ML (x1, x2, x3, x4)).1.state = 5 from e)]; rfl
theorem pt (nm : ByteArray) (m : Ml) : fg nm m = ⟨nm, m, 0, 0, List.replicate m.to.length 0⟩ := rfl
def Xq : Ct := Aq (lc H3.ag (lc Ap (lc Wc.ag (lc BI l0)))) (fun p => p.1.name.size ≤ 1000 ∧ p.2.1.size ≤ 1000 ∧ Nd p.2.2.1 ∧ 0 ≤ p.2.2.2.1 ∧ p.2.2.2.1 ≤ 1000) (fun p => .tup [.t (.sl 1 ((Eo p.1 p.2.1 p.2.2.1 p.2.2.2.1).1.map A7)), .t (.sl 4 ((Eo p.1 p.2.1 p.2.2.1 p.2.2.2.1).2.map Ca))])
section
attribute [local go_sem] mA mC mD mE UL AY lm List.length_append List.map_append List.map_nil List.nil_append tn Int.toNat_zero E5 AS.opn AS.cls AS.nilb AS.renb AS.up Bool.not_false Bool.not_true List.set_set List.set_cons_zero List.set_cons_succ List.set_nil List.mem_singleton forall_eq
set_option maxHeartbeats 6400000 in
theorem eM {G : Gt} (hG : Ah G) (hh : G.e 197 = AA 1 mA ∧ G.e 198 = AA 1 mC ∧ G.e 199 = AA 1 mD ∧ G.e 200 = AA 0 mE) : Gd G 185 (AA 1 Xq) := by
 refine Nh (dp := fun n => !(Nat.beq n 24 || Nat.beq n 78 || Nat.beq n 100003)) (fn := Tryz.f185) (n := 4) rfl rfl hG ?_
 rintro ⟨h, nm, m, cut, ⟨⟩⟩ hpre
 obtain ⟨hn, T5, hm, hc0, hc1⟩ := hpre
 try dsimp only at hn T5 hm hc0 hc1 ⊢
 have hm1 := hm.1
 have hm2 := hm.2.1
 have e4 : (#[50, 50, 48, 32] : Array UInt8).size = 4 := rfl
 have e2 : (#[13, 10] : Array UInt8).size = 2 := rfl
 simp -implicitDefEqProofs only [Tryz.f185, go_sem, hh, seval]
 with_reducible repeat' (first | apply ai | intro _ | ((first | apply s1 | apply s3 | apply s4) <;> intro hb <;> simp -implicitDefEqProofs only [hb, go_sem, hh, seval] <;> try simp only [qz] at hb))
 all_goals (try simp only [maxLen, tn] at *)
 all_goals first | with_reducible rfl | omega | with_reducible assumption | decide | (simp only [List.mem_cons, List.mem_singleton, List.not_mem_nil] at *; omega) | skip
 refine Ag (Le.nilb 1011 3 1901 true 2 rfl rfl rfl) ?_
 simp -implicitDefEqProofs only [go_sem, hh, seval]
 refine Ag (Le.nilb 1011 4 1902 true 1 rfl rfl rfl) (Ab ?_)
 simp -implicitDefEqProofs only [go_sem, hh, seval]
 with_reducible repeat' (first | apply ai | intro _ | ((first | apply s1 | apply s3 | apply s4) <;> intro hb <;> simp -implicitDefEqProofs only [hb, go_sem, hh, seval] <;> try simp only [qz] at hb))
 all_goals (try simp only [maxLen, tn] at *)
 all_goals first | with_reducible rfl | omega | with_reducible assumption | decide | (simp only [List.mem_cons, List.mem_singleton, List.not_mem_nil] at *; omega) | skip
 refine WR [1028, 1901, 1902] [(12, 902, false, 4)] (ι := {p : Nat × Nat × N5 // cut ≤ 2 * ((p.1 : Int) + p.2.1) ∧ p.1 ≤ 1000 ∧ rE p.1 p.2.2 ∧ LA h cut p.2.1 p.1 p.2.2 = LA h cut cut.toNat 0 (WZ h nm m)}) (fun p => ⟨[(3, .t (.v (.int .i64 cut))), (4, .pb 1004 0), (10, .pb 1010 0), (11, .pb 1011 0), (12, .h 902), (13, .t (.sl 1 (p.1.2.2.2.2.2.map AH))), (14, .t (.v (.int .i64 p.1.1)))], [(1004, some (.box ((DK h).map .t))), (1010, some (.box ((Do p.1.2.2.1).map .t))), (1011, some (.box ((Eh p.1.2.2.2.1).map .t))), (902, some (.arr false 4 (p.1.2.2.2.2.1.map Ca)))]⟩) (fun p => p.1.2.1) ⟨(0, cut.toNat, WZ h nm m), by dsimp only; omega, Nat.zero_le _, K1 h T5 hm, rfl⟩ rfl ?_ ?_
 ·simp -implicitDefEqProofs only [go_sem, hh, seval]
  simp [pt, wC, WZ, A7, AH]
  try trace_state
 ·rintro ⟨⟨n, k, x⟩, hk, hk2, hx, hv⟩
  obtain ⟨x1, x2, x3, x4⟩ := x
  dsimp only at hk hk2 hx hv
  have hc := hx.1
  have hc3 : x1.outs.length ≤ 1000 := by have := hc.1; have := hc.2.1.1; dsimp only at *; omega
  have hl3 := hx.2.2.2.1
  have hbf := hx.2.2.1
  obtain ⟨hq1, hq2⟩ := Rr hx
  obtain ⟨hq1, hq2⟩ : VJ (Ay x1 (x4.getD 0 default)).1 ∧ (Ay x1 (x4.getD 0 default)).2.size ≤ 200000 := ⟨hq1, hq2⟩
  have hq3 : (Ay x1 (x4.getD 0 default)).1.outs.length ≤ 1000 := by have := hq1.1; have := hq1.2.1.1; omega
  have hf5 : (Ay x1 (x4.getD 0 default)).1.state = 5 → (Bp h x2 (Ay x1 (x4.getD 0 default)).2).2.2.length ≤ 300000 := fun e => by
   have z := (NY (h := h) hx).2; rw [j5 (show (ML (x1, x2, x3, x4)).1.state = 5 from e)] at z; exact z
  have hf6 : ¬ (Ay x1 (x4.getD 0 default)).1.state = 5 → (Bp h x2 ((Ay x1 (x4.getD 0 default)).2 ++ ⟨#[13, 10]⟩)).2.2.length ≤ 300000 := fun e => by
   have z := (NY (h := h) hx).2; rw [j4 (show ¬ (ML (x1, x2, x3, x4)).1.state = 5 from e)] at z; exact z
  dsimp only at hl3 hbf
  simp -implicitDefEqProofs only [go_sem, hh, seval]
  with_reducible repeat' (first | apply ai | intro _ | ((first | apply s1 | apply s3 | apply s4) <;> intro hb <;> simp -implicitDefEqProofs only [hb, go_sem, hh, seval] <;> try simp only [qz] at hb))
  all_goals (try simp only [maxLen, tn] at *)
  all_goals first
   | with_reducible rfl
   | omega
   | (show _ = true; rfl)
   | with_reducible assumption
   | exact hx.1.2.1
   | exact hx.1.2.2.1
   | exact hx.1.2.2.2.1
   | exact hx.1.2.2.2.2.1
   | exact Nat.le_trans hx.1.2.2.2.2.2 (by decide)
   | (rw [K3 ((au (x := (x1, x2, x3, x4)) (.inl (by dsimp only; omega))).symm.trans hv)]; first | done | rfl)
   | (rw [K3 ((au (x := (x1, x2, x3, x4)) (.inr (.inl (by with_reducible assumption)))).symm.trans hv)]; first | done | rfl)
   | (rw [K3 ((au (x := (x1, x2, x3, x4)) (.inr (.inr (by with_reducible assumption)))).symm.trans hv)]; first | done | rfl)
   | (rw [K3 ((j6 (x := (x1, x2, x3, x4)) hk (by with_reducible assumption) (by with_reducible assumption) (by with_reducible assumption) (.inl (show (Ay x1 (x4.getD 0 default)).2 = ⟨#[]⟩ by with_reducible assumption))).symm.trans hv)]; first | done | rfl)
   | (rw [K3 ((j6 (x := (x1, x2, x3, x4)) hk (by with_reducible assumption) (by with_reducible assumption) (by with_reducible assumption) (.inr (by with_reducible assumption))).symm.trans hv)]; first | done | rfl)
   | exact hc.2.2.2.2.1 (by with_reducible assumption)
   | exact hx.2.1
   | exact hq3
   | (have := hf5 (by with_reducible assumption); omega)
   | (have := hf6 (by with_reducible assumption); omega)
   | (rw [ByteArray.size_append]; show _ + (_ + 2) ≤ _; omega)
   | (obtain ⟨k, rfl⟩ : ∃ j, k = j + 1 := ⟨k - 1, by omega⟩
      refine ⟨⟨(n + 1, k, bV h (x1, x2, x3, x4)), by dsimp only; omega, by dsimp only; omega, (NY (h := h) hx).1, (th (x := (x1, x2, x3, x4)) (by with_reducible assumption) (by with_reducible assumption) (by with_reducible assumption) (show ¬ (Ay x1 (x4.getD 0 default)).2 = ⟨#[]⟩ by with_reducible assumption) (by with_reducible assumption)).symm.trans hv⟩, by dsimp only; omega, ?_⟩
      simp -implicitDefEqProofs only [go_sem, hh, seval]
      first
       | (have ee := tk (h := h) (x1 := x1) (x2 := x2) (x3 := x3) (x4 := x4) (by with_reducible assumption); simp only [ee]; simp; done)
       | (have ee := ti (h := h) (x1 := x1) (x2 := x2) (x3 := x3) (x4 := x4) (by with_reducible assumption); simp only [ee]; simp; done)
       | skip)
   | skip
end
open Classical in
noncomputable def GP (h : Hs) (nm : ByteArray) (m : Ml) (cut : Int) : List Int × List Ml := (if CG h.spool then Eo h.conf nm m cut else Eo h.conf nm m 0)
theorem qr {h : Hs} {nm : ByteArray} {m : Ml} {cut : Int} (h0 : CG h.spool) : GP h nm m cut = Eo h.conf nm m cut := by unfold GP; rw [if_pos h0]
theorem qs {h : Hs} {nm : ByteArray} {m : Ml} {cut : Int} (h0 : ¬ (CG h.spool)) : GP h nm m cut = Eo h.conf nm m 0 := by unfold GP; rw [if_neg h0]
def ly : Ct := Aq (lc Ep.ag (lc Ap (lc Wc.ag (lc BI l0)))) (fun p => p.1.conf.name.size ≤ 1000 ∧ p.2.1.size ≤ 1000 ∧ Nd p.2.2.1 ∧ 0 ≤ p.2.2.2.1 ∧ p.2.2.2.1 ≤ 1000) (fun p => .tup [.t (.sl 1 ((GP p.1 p.2.1 p.2.2.1 p.2.2.2.1).1.map A7)), .t (.sl 4 ((GP p.1 p.2.1 p.2.2.1 p.2.2.2.1).2.map Ca))])
section
attribute [local go_sem] J4 Xq AS.opn AS.cls AS.nilb AS.renb AS.up Bool.not_false Bool.not_true List.set_set List.set_cons_zero List.set_cons_succ List.set_nil List.mem_singleton forall_eq tn List.map_nil List.nil_append
set_option maxHeartbeats 1600000 in
theorem eN {G : Gt} (hG : Ah G) (hh : G.e 121 = AA 0 J4 ∧ G.e 185 = AA 1 Xq) : Gd G 186 (AA 1 ly) := by
 refine gr (fn := Tryz.f186) (n := 4) rfl rfl hG ?_
 rintro ⟨h, nm, m, cut, ⟨⟩⟩ hpre
 obtain ⟨hn, T5, hm, hc0, hc1⟩ := hpre
 try dsimp only at hn T5 hm hc0 hc1 ⊢
 refine BH (CG h.spool) (fun h0 => have h0' := Ak h0; have hx := And.intro (qr h0 : GP h nm m cut = _) h0'; ?_) (fun h0 => have h0' := AO h0; have hx := And.intro (qs h0 : GP h nm m cut = _) h0'; ?_)
 all_goals
  try rw [hx.1]
  simp -implicitDefEqProofs only [Tryz.f186, hx, eq_self, decide_true, decide_false, Int.reduceEq, go_sem, hh, seval]
  with_reducible repeat' (first | apply ai | intro _ | ((first | apply s1 | apply s3 | apply s4) <;> intro hb <;> simp -implicitDefEqProofs only [hb, go_sem, hh, seval] <;> try simp only [qz] at hb))
  all_goals (try simp only [maxLen, tn, lm] at *)
  all_goals first | rfl | omega | decide | with_reducible assumption | (show AX _ = true; rfl) | exact Hf (by assumption) | contradiction | skip
end
theorem MJ {α β : Type} [Inhabited α] (f : α → β) {xs : List α} {i : Nat} (h : i < xs.length) : (xs.take (i + 1)).map f = (xs.take i).map f ++ [f (xs.getD i default)] := by
 rw [List.take_add_one, List.getElem?_eq_getElem h, List.map_append]; simp [h]
def Xi : Ct := Aq (lc gh.ag l0) (fun p => bg p.1) (fun p => .agg [.o false 7 ((p.1).hosts.map Al), .t (.v (.int .i64 (p.1).now)), .t (.v (.int .i64 (p.1).marks)), .o true 3 ((p.1).given.map A2)])
section
attribute [local go_sem] ui lm List.length_append List.map_append AY AS.opn AS.cls AS.nilb AS.renb AS.up Bool.not_false Bool.not_true List.set_set List.set_cons_zero List.set_cons_succ List.set_nil List.mem_singleton forall_eq tn List.map_nil List.nil_append
set_option maxHeartbeats 6400000 in
theorem dD {G : Gt} (hG : Ah G) (hh : G.e 67 = AA 0 ui) : Gd G 102 (AA 1 Xi) := by
 refine Nh (dp := fun n => !(Nat.beq n 100002 || Nat.beq n 100004 || Nat.beq n 29 || Nat.beq n 30)) (fn := Tryz.f102) (n := 1) rfl rfl hG ?_
 rintro ⟨w, ⟨⟩⟩ hpre
 have hw : bg w := hpre
 have hl1 := hw.1.1
 have hl2 := hw.2.1
 simp -implicitDefEqProofs only [Tryz.f102, go_sem, hh, seval]
 with_reducible repeat' (first | apply ai | intro _ | ((first | apply s1 | apply s3 | apply s4) <;> intro hb <;> simp -implicitDefEqProofs only [hb, go_sem, hh, seval] <;> try simp only [qz] at hb))
 all_goals (try simp only [maxLen, tn] at *)
 all_goals first | with_reducible rfl | omega | with_reducible assumption | (show _ = true; rfl) | skip
 refine Ag (Le.nilb 1003 0 1901 false 7 rfl rfl rfl) (Ab ?_)
 simp -implicitDefEqProofs only [go_sem, hh, seval]
 with_reducible repeat' (first | apply ai | intro _ | ((first | apply s1 | apply s3 | apply s4) <;> intro hb <;> simp -implicitDefEqProofs only [hb, go_sem, hh, seval] <;> try simp only [qz] at hb))
 all_goals (try simp only [maxLen, tn] at *)
 all_goals first | with_reducible rfl | omega | with_reducible assumption | (show _ = true; rfl) | skip
 refine AF [] (ι := {i : Nat // i ≤ w.hosts.length}) (fun p => ⟨[(1, .pb 1001 0), (2, .pb 1002 0), (3, .pb 1003 0), (4, .t (.v (.int .i64 p.1)))], [(1001, some (.box ((Ih w).map .t))), (1002, some (.box [.nil, .t (.v (.int .i64 0)), .t (.v (.int .i64 0)), .nil])), (1003, some (.box [.h 1901, .t (.v (.int .i64 w.now)), .t (.v (.int .i64 w.marks)), .h 1012])), (1901, some (.arr false 7 ((w.hosts.take p.1).map Al))), (1012, some (.arr true 3 (w.given.map A2)))]⟩) (fun p => w.hosts.length - p.1) ⟨0, Nat.zero_le _⟩ rfl ?_ ?_
 ·simp -implicitDefEqProofs only [go_sem, hh, seval]
  try simp
 ·rintro ⟨i, hi⟩
  dsimp only at hi ⊢
  have hlen : (w.hosts.take i).length = i := by rw [List.length_take]; omega
  by_cases hlt : (i : Int) < w.hosts.length
  ·have hz := hw.1.at (i := i) (by omega)
   simp -implicitDefEqProofs only [hlt, decide_true, go_sem, hh, seval]
   with_reducible repeat' (first | apply ai | intro _ | ((first | apply s1 | apply s3 | apply s4) <;> intro hb <;> simp -implicitDefEqProofs only [hb, go_sem, hh, seval] <;> try simp only [qz] at hb))
   all_goals (try simp only [maxLen, tn] at *)
   all_goals first | with_reducible rfl | omega | with_reducible assumption | (show _ = true; rfl) | skip
   refine Ag (Le.renb 1003 0 1030 1901 rfl rfl rfl rfl) (Ab ?_)
   simp -implicitDefEqProofs only [go_sem, hh, seval]
   with_reducible repeat' (first | apply ai | intro _ | ((first | apply s1 | apply s3 | apply s4) <;> intro hb <;> simp -implicitDefEqProofs only [hb, go_sem, hh, seval] <;> try simp only [qz] at hb))
   all_goals first | with_reducible rfl | omega | skip
   refine ⟨⟨i + 1, by omega⟩, by dsimp only; omega, ?_⟩
   simp -implicitDefEqProofs only [go_sem, hh, seval]
   simp only [MJ Al (show i < w.hosts.length by omega)]
   with_reducible repeat' (first | apply ai | intro _ | ((first | apply s1 | apply s3 | apply s4) <;> intro hb <;> simp -implicitDefEqProofs only [hb, go_sem, hh, seval] <;> try simp only [qz] at hb))
   all_goals first | rfl | (simp; done) | skip
  ·have htk : w.hosts.take i = w.hosts := List.take_of_length_le (by omega)
   simp -implicitDefEqProofs only [hlt, htk, decide_false, go_sem, hh, seval]
   with_reducible repeat' (first | apply ai | intro _ | ((first | apply s1 | apply s3 | apply s4) <;> intro hb <;> simp -implicitDefEqProofs only [hb, go_sem, hh, seval] <;> try simp only [qz] at hb))
   all_goals (try simp only [maxLen] at *)
   all_goals first | with_reducible rfl | omega | with_reducible assumption | (show _ = true; rfl) | decide | skip
end
theorem N4 {s : Sp} (h : CO s) {n : Int} {a : Ad} : Ch s n a ↔ ∃ x ∈ s.items, x.id = n ∧ ∃ r ∈ x.to, r.addr = a :=
 ⟨HI, fun ⟨x, hx, e, r, hr, e2⟩ => by rw [← e, ← e2]; exact (Fq h hx hr).1⟩
theorem bp {s : Sp} {m : Ml} {w n : Int} {a : Ad} (h : CO (LH s m w)) (q : Ch s n a) : Ch (LH s m w) n a := by
 obtain ⟨x, hx, e⟩ := HI q
 exact (N4 h).2 ⟨x, List.mem_append_left _ hx, e⟩
theorem KV {α : Type} [Inhabited α] {xs : List α} {i : Nat} {x y : α} (hx : x ∈ xs) (hi : i < xs.length) : x ∈ xs.set i y ∨ x = xs.getD i default := by
 obtain ⟨j, hj, rfl⟩ := List.getElem_of_mem hx
 by_cases e : i = j
 ·subst e; exact .inr (by simp [hj])
 ·exact .inl (by rw [List.mem_iff_getElem]; exact ⟨j, by simpa using hj, by rw [List.getElem_set_ne e]⟩)
theorem He {α : Type} {xs : List α} {i : Nat} {y : α} (hi : i < xs.length) : y ∈ xs.set i y := List.mem_set hi y
theorem bq {s : Sp} {i k : Nat} {w n : Int} {a : Ad} (h : CO (PN s i k w)) (hi : i < s.items.length) (hk : k < (s.items.getD i default).to.length) (q : Ch s n a) : Ch (PN s i k w) n a := by
 obtain ⟨x, hx, e, r, hr, e2⟩ := HI q
 refine (N4 h).2 ?_
 show ∃ y ∈ s.items.set i (RH (s.items.getD i default) k w), y.id = n ∧ ∃ r ∈ y.to, r.addr = a
 rcases KV (y := RH (s.items.getD i default) k w) hx hi with hm | rfl
 ·exact ⟨x, hm, e, r, hr, e2⟩
 ·refine ⟨_, He hi, e, ?_⟩
  show ∃ r ∈ (s.items.getD i default).to.set k (V1 ((s.items.getD i default).to.getD k default) w), r.addr = a
  rcases KV (y := V1 ((s.items.getD i default).to.getD k default) w) hr hk with hm | rfl
  ·exact ⟨r, hm, e2⟩
  ·exact ⟨_, He hk, e2⟩
theorem Jq {s : Sp} (h : CO s) {n : Int} {a : Ad} (q : Ch s n a) : BJ a ∧ DX (Ai s n) ∧ (Ax s n).toNat < s.items.length ∧ (B3 (Ai s n) a).toNat < (s.items.getD (Ax s n).toNat default).to.length := by
 have i1 := Bg q.1
 have k1 := HR q.2
 have hx : DX (Ai s n) := (h.1 _ (AE (xs := s.items) (j := (Ax s n).toNat) (by omega))).1
 have hr := (hx.1 _ (AE (xs := (Ai s n).to) (j := (B3 (Ai s n) a).toNat) (by omega))).1
 rw [Fw q.2] at hr
 exact ⟨hr, hx, by omega, by show _ < (Ai s n).to.length; omega⟩
theorem Hj {h : Hs} {n : Int} {a : Ad} {out w : Int} (hs : CO h.spool) (q : Ch h.spool n a) (hw : 0 ≤ w ∧ w ≤ 9999) : CO (Cb h (Ax h.spool n).toNat (B3 (Ai h.spool n) a).toNat a out w).spool ∧
    ∀ n' a', Ch h.spool n' a' → ¬ (n = n' ∧ a = a') → Ch (Cb h (Ax h.spool n).toNat (B3 (Ai h.spool n) a).toNat a out w).spool n' a' := by
 obtain ⟨ha, hx, hi, hk⟩ := Jq hs q
 have hd := Ee hs hi hk
 have td : ∀ n' a', Ch h.spool n' a' → ¬ (n = n' ∧ a = a') → Ch (DJ h.spool (Ax h.spool n).toNat (B3 (Ai h.spool n) a).toNat) n' a' := fun n' a' q' ne => Sf hs q q' ne
 unfold Cb
 split
 ·exact ⟨hd, td⟩
 ·split
  ·rename_i hl
   have hl2 := Lz hs hi hk hl.2 hw.1
   exact ⟨hl2, fun n' a' q' _ => bq hl2 hi hk q'⟩
  ·by_cases z : AZ (h.spool.items.getD (Ax h.spool n).toNat default).frm ∨ ¬ CG (DJ h.spool (Ax h.spool n).toNat (B3 (Ai h.spool n) a).toNat)
   ·rw [Y4 z]; exact ⟨hd, td⟩
   ·rw [Y3 z]
    have hrm : CG (DJ h.spool (Ax h.spool n).toNat (B3 (Ai h.spool n) a).toNat) := Classical.byContradiction fun y => z (.inr y)
    have ha2 := H8 hd (VU hx ha fun y => z (.inl y)) hw hrm
    exact ⟨ha2, fun n' a' q' ne => bp ha2 (td n' a' q' ne)⟩
theorem E9 (h : Hs) (i k : Nat) (a : Ad) (out w : Int) : (Cb h i k a out w).conf = h.conf ∧ (Cb h i k a out w).boxes = h.boxes ∧ ((Cb h i k a out w).lost = h.lost ∨ (Cb h i k a out w).lost = h.lost ++ [⟨B4 (h.spool.items.getD i default).body, a⟩]) := by
 unfold Cb Gx
 repeat' split
 all_goals first | exact ⟨rfl, rfl, .inl rfl⟩ | exact ⟨rfl, rfl, .inr rfl⟩
theorem Z9 {h : Hs} {n : Int} {a : Ad} {out w : Int} (q : EL h) (t : Ch h.spool n a) (hw : 0 ≤ w ∧ w ≤ 9999) : EL (Cb h (Ax h.spool n).toNat (B3 (Ai h.spool n) a).toNat a out w) := by
 obtain ⟨r1, r2, _⟩ := E9 h (Ax h.spool n).toNat (B3 (Ai h.spool n) a).toNat a out w
 refine ⟨fun j hj => ?_, by rw [r1]; exact q.2.1, (Hj q.2.2 t hw).1⟩
 have := q.1 j (by rw [r2] at hj; exact hj)
 unfold Wo at this ⊢
 rw [r1, r2]
 exact this
theorem gN {h : Hs} {m : Ml} {w : Int} (q : EL h) (hm : Ce m) (hl : m.body.length < 12) (hw : 0 ≤ w ∧ w ≤ 9999) (hr : CG h.spool) : EL (P2 h m w) := ⟨q.1, q.2.1, H8 q.2.2 (pd q.2.1.2.2.1 hm hl) hw hr⟩
def FL (h : Hs) : Prop := (∀ b ∈ h.boxes, ka b ∧ b.addr.domain ∈ h.conf.own) ∧ Jp h.boxes ∧ GF h.conf ∧ CO h.spool
theorem Es {h : Hs} : EL h ↔ FL h := by
 constructor
 ·intro q
  refine ⟨fun b hb => ?_, OE fun j h0 hj => (q.1 j hj).2.1 h0, q.2.1, q.2.2⟩
  obtain ⟨j, hj, rfl⟩ := List.getElem_of_mem hb
  have := q.1 j hj
  unfold Wo at this
  have e : h.boxes.getD j default = h.boxes[j] := by simp [hj]
  rw [e] at this
  exact ⟨this.1, this.2.2⟩
 ·intro q
  refine ⟨fun j hj => ⟨(q.1 _ (AE hj)).1, fun h0 => ?_, (q.1 _ (AE hj)).2⟩, q.2.2.1, q.2.2.2⟩
  have := List.pairwise_iff_getElem.1 q.2.1 (j - 1) j (by omega) hj (by omega)
  rw [← IC]
  simpa [hj, show j - 1 < h.boxes.length by omega] using this
theorem VV {bs : List Bx} {a : Ad} {g : Gm} {b : Bx} (h : b ∈ Eb bs a g) : b ∈ bs ∨ (∃ b0 ∈ bs, b = ⟨b0.addr, b0.mails ++ [g]⟩) ∨ b = ⟨a, [g]⟩ := by
 cases hf : GM bs a
 ·rw [Fy hf] at h
  rcases List.mem_append.1 h with h | h
  ·exact .inl (List.mem_of_mem_take h)
  ·rcases List.mem_cons.1 h with h | h
   ·exact .inr (.inr h)
   ·exact .inl (List.mem_of_mem_drop h)
 ·rw [HT hf] at h
  rcases List.mem_or_eq_of_mem_set h with h | h
  ·exact .inl h
  ·exact .inr (.inl ⟨_, AE (M3 hf), h⟩)
def FE (N : Nat) (h : Hs) : Prop := h.boxes.length ≤ N ∧ (∀ b ∈ h.boxes, b.mails.length ≤ N) ∧ h.lost.length ≤ N ∧ ∀ l ∈ h.lost, VL l
theorem B7 {N M : Nat} {h : Hs} (q : FE N h) (l : N ≤ M) : FE M h := ⟨Nat.le_trans q.1 l, fun b hb => Nat.le_trans (q.2.1 b hb) l, Nat.le_trans q.2.2.1 l, q.2.2.2⟩
theorem R2 {c : Cf} (h : GF c) : Gf c := by
 obtain ⟨h1, h2, h3, h4, h5⟩ := h
 have d : ∀ {s : ByteArray}, Cc s → Bh s := fun {s} q => by have := (DA q).2; show s.size ≤ 1048576; omega
 exact ⟨d h3, ⟨by omega, fun s hs => d (h1 s hs)⟩, ⟨by omega, fun w hw => ⟨d (h2 w hw).1, d (h2 w hw).2⟩⟩⟩
theorem EK {N : Nat} {h : Hs} (q : FL h) (n : FE N h) (hN : N ≤ 1048576) : GG h := by
 obtain ⟨n1, n2, n3, n4⟩ := n
 refine ⟨R2 q.2.2.1, HH q.2.2.2, ⟨by omega, fun b hb => ?_⟩, ⟨by omega, n4⟩⟩
 have hbo := (q.1 b hb).1
 have := n2 b hb
 exact ⟨Bs (.inl hbo.2), ⟨by omega, fun g hg => ⟨Bs (hbo.1 g hg).1, HB (hbo.1 g hg).2⟩⟩⟩
theorem fQ {g : Hs} {x : Im} {a : Ad} {c : Cf} {R : List (Int × Ad)} (q : FL g) (k : Kp c g ((x.id, a) :: R)) (hx : DX x) (ha : BJ a) (hd : a.domain ∈ g.conf.own) : FL (Hc g x a) := by
 have hk := k.step
 refine ⟨fun b hb => ?_, J2 q.2.1, q.2.2.1, hk.sp⟩
 have hg : (BJ x.frm ∨ AZ x.frm) ∧ DW x.body := ⟨hx.2.2.2.1, hx.2.2.2.2.2⟩
 rcases VV hb with h | ⟨b0, h0, rfl⟩ | rfl
 ·exact q.1 b h
 ·refine ⟨⟨fun y hy => ?_, (q.1 b0 h0).1.2⟩, (q.1 b0 h0).2⟩
  rcases List.mem_append.1 hy with hy | hy
  ·exact (q.1 b0 h0).1.1 y hy
  ·rw [List.mem_singleton] at hy; subst hy; exact hg
 ·exact ⟨⟨fun y hy => by rw [List.mem_singleton] at hy; subst hy; exact hg, ha⟩, hd⟩
theorem fR {N : Nat} {g : Hs} {x : Im} {a : Ad} (n : FE N g) : FE (N + 1) (Hc g x a) := ⟨Nat.le_trans (Li _ _ _) (Nat.succ_le_succ n.1), Ig n.2.1, Nat.le_succ_of_le n.2.2.1, n.2.2.2⟩
theorem UD {x : Im} {c : Cf} (hx : DX x) : ∀ (ads : List Ad) {g : Hs} {N : Nat} {R : List (Int × Ad)}, FL g → FE N g → Kp c g ((ads.map fun a => (x.id, a)) ++ R) → (∀ a ∈ ads, BJ a ∧ a.domain ∈ c.own) → FL (KR x ads g) ∧ FE (N + ads.length) (KR x ads g) ∧ Kp c (KR x ads g) R
 | [], g, N, R, q, n, k, _ => ⟨q, n, k⟩
 | a :: r, g, N, R, q, n, k, h => by
   have ha := h a (List.mem_cons_self ..)
   have z := UD hx r (fQ q k hx ha.1 (by rw [k.cf]; exact ha.2)) (fR (x := x) (a := a) n) (k.step (x := x) (a := a)) fun b hb => h b (List.mem_cons_of_mem _ hb)
   refine ⟨z.1, ?_, z.2.2⟩
   have e : N + (a :: r).length = N + 1 + r.length := by rw [List.length_cons]; omega
   rw [e]; exact z.2.1
theorem T9 {c : Cf} {w : Int} : ∀ (xs : List Im) {g : Hs} {N : Nat}, FL g → FE N g → Kp c g (Gh c w xs) → (∀ x ∈ xs, DX x) → FL (EG c w xs g) ∧ FE (N + xs.length * 4) (EG c w xs g)
 | [], g, N, q, n, _, _ => ⟨q, by show FE (N + 0 * 4) g; rw [Nat.zero_mul]; exact n⟩
 | x :: t, g, N, q, n, k, h => by
   have hx := h x (List.mem_cons_self ..)
   have z := UD (c := c) hx (Af c ⟨#[]⟩ w x.to) (R := Gh c w t) q n k fun a ha => by
    obtain ⟨r, hr, e, nr⟩ := DO c ⟨#[]⟩ w x.to a ha
    rw [← e]
    refine ⟨(hx.1 r hr).1, ?_⟩
    rcases nr.2 with y | y
    ·exact y.1
    ·exact absurd rfl y.2.1
   have z2 := T9 t z.1 z.2.1 z.2.2 fun y hy => h y (List.mem_cons_of_mem _ hy)
   have hl := El c ⟨#[]⟩ w x.to
   have h4 := hx.2.2.2.2.1.2
   exact ⟨z2.1, B7 z2.2 (by rw [List.length_cons]; omega)⟩
theorem ph {h : Hs} {w : Int} {N : Nat} (q : FL h) (n : FE N h) (hN : N ≤ 1048576) : FL (EG h.conf w h.spool.items h) ∧ FE (N + 40) (EG h.conf w h.spool.items h) := by
 have k := Nx (w := w) (Es.2 q) (EK q n hN)
 have z := T9 h.spool.items q n k fun x hx => (q.2.2.2.1 x hx).1
 have hl := q.2.2.2.2.2.2
 exact ⟨z.1, B7 z.2 (by omega)⟩
theorem Zc {b : List ByteArray} (h : DW b) : Bh (B4 b) := by
 rcases Fd b with e | e
 ·rw [e]; show (⟨#[]⟩ : ByteArray).size ≤ 1048576; decide
 ·exact (HB h).2 _ e
theorem Ja {h : Hs} {n : Int} {a : Ad} {out w : Int} {N : Nat} (q : FL h) (hn : FE N h) (t : Ch h.spool n a) (hw : 0 ≤ w ∧ w ≤ 9999) : FL (Cb h (Ax h.spool n).toNat (B3 (Ai h.spool n) a).toNat a out w) ∧ FE (N + 1) (Cb h (Ax h.spool n).toNat (B3 (Ai h.spool n) a).toNat a out w) := by
 refine ⟨Es.1 (Z9 (Es.2 q) t hw), ?_⟩
 obtain ⟨r1, r2, r3⟩ := E9 h (Ax h.spool n).toNat (B3 (Ai h.spool n) a).toNat a out w
 obtain ⟨t1, t2, _⟩ := Jq q.2.2.2 t
 unfold FE
 rw [r2]
 refine ⟨Nat.le_succ_of_le hn.1, fun b hb => Nat.le_succ_of_le (hn.2.1 b hb), ?_⟩
 rcases r3 with e | e
 ·rw [e]; exact ⟨Nat.le_succ_of_le hn.2.2.1, hn.2.2.2⟩
 ·rw [e]
  refine ⟨by rw [List.length_append]; exact Nat.succ_le_succ hn.2.2.1, fun l hl => ?_⟩
  rcases List.mem_append.1 hl with hl | hl
  ·exact hn.2.2.2 l hl
  ·rw [List.mem_singleton] at hl; subst hl
   exact ⟨Zc t2.2.2.2.2.2, Bs (.inl t1)⟩
theorem ay {h : Hs} {m : Ml} {w : Int} {N : Nat} (q : FL h) (n : FE N h) (hm : Ce m) (hl : m.body.length < 12) (hw : 0 ≤ w ∧ w ≤ 9999) (hr : CG h.spool) : FL (P2 h m w) ∧ FE N (P2 h m w) := ⟨Es.1 (gN (Es.2 q) hm hl hw hr), n⟩
def lz : Ct := Aq (lc gh.ag (lc Ap l0)) (fun p => True) (fun p => .t (.v (.int .i64 (A5 (fun h : Hs => h.conf.name = p.2.1) 0 p.1.hosts))))
section
attribute [local go_sem] lm
theorem eP {G : Gt} (hG : Ah G) : Gd G 188 (AA 0 lz) := by
 refine gr (fn := Tryz.f188) (n := 2) rfl rfl hG ?_
 rintro ⟨w, a, ⟨⟩⟩ hpre
 simp -implicitDefEqProofs only [Tryz.f188, go_sem, seval] at hpre ⊢
 refine AF [] (ι := {i : Nat // i ≤ w.hosts.length ∧ A5 (fun h : Hs => h.conf.name = a) 0 w.hosts = A5 (fun h : Hs => h.conf.name = a) i (w.hosts.drop i)}) (fun p => ⟨[(1, .t (.v (.string a))), (2, .pb 1002 0), (5, .t (.v (.int .i64 p.1)))], [(1002, some (.box ((Ih w).map .t)))]⟩) (fun p => w.hosts.length - p.1) ⟨0, by simp, rfl⟩ rfl ?_ ?_
 ·simp -implicitDefEqProofs only [go_sem, seval]
  try simp
 ·rintro ⟨i, hi, hix⟩
  by_cases hlt : (i : Int) < w.hosts.length
  ·simp -implicitDefEqProofs only [hlt, decide_true, tn, go_sem, seval]
   with_reducible repeat' (first | apply ai | intro _ | ((first | apply s1 | apply s3 | apply s4) <;> intro hb <;> simp -implicitDefEqProofs only [hb, go_sem, seval] <;> try simp only [qz] at hb))
   all_goals (try simp only [maxLen, tn] at *)
   all_goals first | rfl | omega | skip
   ·rw [hix, Cs (p := fun h : Hs => h.conf.name = a) (by omega) hb]
   ·refine ⟨⟨i + 1, by omega, by rw [hix, Du (p := fun h : Hs => h.conf.name = a) (by omega) hb]⟩, by dsimp only; omega, ?_⟩
    simp -implicitDefEqProofs only [go_sem, seval]
    try simp
  ·simp -implicitDefEqProofs only [hlt, decide_false, go_sem, seval]
   with_reducible repeat' (first | apply ai | intro _ | ((first | apply s1 | apply s3 | apply s4) <;> intro hb <;> simp -implicitDefEqProofs only [hb, go_sem, seval] <;> try simp only [qz] at hb))
   all_goals first | rfl | omega | skip
   rw [hix, Cr (by omega)]
end
def G7 (a : Wd) : AV := .agg [.o false 7 (a.hosts.map Al), .t (.v (.int .i64 a.now)), .t (.v (.int .i64 a.marks)), .o true 3 (a.given.map A2)]
def j1 : AV → Option Wd
 | .agg [x0, .t (.v (.int .i64 x1)), .t (.v (.int .i64 x2)), x3] => GN x1 x2 (Ep.owD false 7 x0) (Ji.owD true 3 x3)
 | _ => none
def kZ : AD Wd where
 enc := G7
 dec := j1
 ed := fun a => by
  show GN a.now a.marks (Ep.owD false 7 ((Ep.aow false 7).enc a.hosts)) (Ji.owD true 3 ((Ji.aow true 3).enc a.given)) = _
  rw [show Ep.owD false 7 ((Ep.aow false 7).enc a.hosts) = some a.hosts from (Ep.aow false 7).ed _, show Ji.owD true 3 ((Ji.aow true 3).enc a.given) = some a.given from (Ji.aow true 3).ed _]
  rfl
 de := fun x m h => by
  unfold j1 at h
  split at h
  ·unfold GN at h
   split at h
   ·rename_i e0 e1
    cases h
    have q0 := (Ep.aow false 7).de _ _ e0
    subst q0
    have q1 := (Ji.aow true 3).de _ _ e1
    subst q1
    rfl
   ·cases h
  ·cases h
theorem Fl (a : Wd) : kZ.enc a = .agg [.o false 7 (a.hosts.map Al), .t (.v (.int .i64 a.now)), .t (.v (.int .i64 a.marks)), .o true 3 (a.given.map A2)] := rfl
theorem Fk {x0 : List (List T)} {x1 : Int} {x2 : Int} {x3 : List (List T)} : kZ.dec (.agg [.o false 7 x0, .t (.v (.int .i64 x1)), .t (.v (.int .i64 x2)), .o true 3 x3]) = GN x1 x2 (Ep.decL x0) (Ji.decL x3) := rfl
def G9 (N : Nat) (w : Wd) : Prop := (∀ h ∈ w.hosts, FL h ∧ FE N h) ∧ (1 ≤ w.hosts.length ∧ w.hosts.length ≤ 4) ∧ (0 ≤ w.now ∧ w.now ≤ 9999) ∧ (0 ≤ w.marks ∧ w.marks ≤ 60) ∧ w.given.length ≤ N ∧ ∀ l ∈ w.given, VL l
def vo (w : Wd) (c : Cf) (ls : Bool) (r : Rc) : Prop := r.next ≤ w.now ∧ ¬ r.addr.domain ∈ c.own ∧ (ls = true ∨ A5 (fun h : Hs => h.conf.name = I0 c r.addr.domain) 0 w.hosts < 0)
noncomputable def IS (h : Hs) (n : Int) (a : Ad) (out w : Int) : Hs := Cb h (Ax h.spool n).toNat (B3 (Ai h.spool n) a).toNat a out w
open Classical in
noncomputable def T3 (w : Wd) (c : Cf) (ls : Bool) (n : Int) : List Rc → Hs × Bool → Hs × Bool
 | [], x => x
 | r :: t, x => if vo w c ls r then T3 w c ls n t (IS x.1 n r.addr 3 w.now, true) else T3 w c ls n t x
theorem sg {w : Wd} {c : Cf} {ls : Bool} {n : Int} {rs : List Rc} {i : Nat} {x : Hs × Bool} (h : i < rs.length) (q : vo w c ls (rs.getD i default)) : T3 w c ls n (rs.drop i) x = T3 w c ls n (rs.drop (i + 1)) (IS x.1 n (rs.getD i default).addr 3 w.now, true) := by rw [Ae h, T3, if_pos q]
theorem sf {w : Wd} {c : Cf} {ls : Bool} {n : Int} {rs : List Rc} {i : Nat} {x : Hs × Bool} (h : i < rs.length) (q : ¬ vo w c ls (rs.getD i default)) : T3 w c ls n (rs.drop i) x = T3 w c ls n (rs.drop (i + 1)) x := by rw [Ae h, T3, if_neg q]
theorem jJ {w : Wd} {c : Cf} {ls : Bool} {n : Int} {rs : List Rc} {i : Nat} {x : Hs × Bool} (h : rs.length ≤ i) : T3 w c ls n (rs.drop i) x = x := by rw [List.drop_of_length_le h]; rfl
noncomputable abbrev At (w : Wd) (k : Int) : Hs := w.hosts.getD k.toNat default
noncomputable abbrev JY (h : Hs) (n : Int) : Im := h.spool.items.getD (Ax h.spool n).toNat default
noncomputable def Y6 (w : Wd) (e : Ev) : Hs × Bool := T3 w (At w e.host).conf e.lose e.id (JY (At w e.host) e.id).to (At w e.host, false)
def WN (w : Wd) (k : Int) (h : Hs) : Wd := ⟨w.hosts.set k.toNat h, w.now, w.marks, w.given⟩
open Classical in
noncomputable def KH (w : Wd) (e : Ev) : Wd × Bool := if 0 ≤ e.host ∧ e.host ≤ (w.hosts.length : Int) - 1 then (if Ax (At w e.host).spool e.id < 0 then (w, false) else (WN w e.host (Y6 w e).1, (Y6 w e).2)) else (w, false)
theorem ny {w : Wd} {e : Ev} (h : ¬ (0 ≤ e.host ∧ e.host ≤ (w.hosts.length : Int) - 1)) : KH w e = (w, false) := if_neg h
theorem n5 {w : Wd} {e : Ev} (h : 0 ≤ e.host ∧ e.host ≤ (w.hosts.length : Int) - 1) (h2 : Ax (At w e.host).spool e.id < 0) : KH w e = (w, false) := by unfold KH; rw [if_pos h, if_pos h2]
theorem n6 {w : Wd} {e : Ev} (h : 0 ≤ e.host ∧ e.host ≤ (w.hosts.length : Int) - 1) (h2 : ¬ Ax (At w e.host).spool e.id < 0) : KH w e = (WN w e.host (Y6 w e).1, (Y6 w e).2) := by unfold KH; rw [if_pos h, if_neg h2]
theorem tC {xs : List Rc} {i j : Nat} (h : (xs.map Rc.addr).Nodup) (hi : i < j) (hj : j < xs.length) : ¬ (xs.getD i default).addr = (xs.getD j default).addr := by
 have z := List.pairwise_iff_getElem.1 h i j (by rw [lm]; omega) (by rw [lm]; omega) hi
 simpa [hj, show i < xs.length by omega] using z
def cL : Mt := Gu (lc kZ (lc Nr.ag l0)) (fun p => G9 1000000 p.1) (fun p => ([.any, Nr.ag.enc p.2.1], .tup [G7 (KH p.1 p.2.1).1, .t (.v (.bool (KH p.1 p.2.1).2))]))
section
attribute [local go_sem] J5 cP cR Qd lz Qh CP Fl Fk G7.eq_1 GN.eq_1 AY BZ Ku lm AS.opn AS.cls AS.nilb AS.renb AS.up Bool.not_false Bool.not_true List.set_set List.set_cons_zero List.set_cons_succ List.set_nil List.mem_singleton forall_eq tn List.map_nil List.nil_append
set_option maxHeartbeats 6400000 in
theorem eC {G : Gt} (hG : Ah G) (hh : G.e 69 = AA 0 J5 ∧ G.e 38 = AA 0 cP ∧ G.e 85 = AA 0 cR ∧ G.e 112 = AA 0 Qd ∧ G.e 188 = AA 0 lz ∧ G.e 187 = AA 1 Qh) : Gd G 170 (AN cL) := by
 refine I5 (dp := fun _ => true) (fn := Tryz.f170) (n := 2) rfl rfl hG ?_
 rintro ⟨w, e, ⟨⟩⟩ hpre
 have hw : G9 1000000 w := hpre
 try dsimp only
 have hl := hw.2.1
 by_cases h0 : 0 ≤ e.host ∧ e.host ≤ (w.hosts.length : Int) - 1
 ·have h0' := Ak h0
  by_cases h1 : Ax (At w e.host).spool e.id < 0
  ·skip
   rw [n5 h0 h1]
   simp -implicitDefEqProofs only [Tryz.f170, h0', h1, eq_self, decide_true, decide_false, go_sem, hh, seval]
   with_reducible repeat' (first | apply ai | intro _ | ((first | apply s1 | apply s3 | apply s4) <;> intro hb <;> simp -implicitDefEqProofs only [hb, go_sem, hh, seval] <;> try simp only [qz] at hb))
   all_goals (try simp only [maxLen, tn, AU, AT] at *)
   all_goals first | with_reducible rfl | omega | with_reducible assumption | (show _ = true; rfl) | contradiction | decide | skip
  ·rw [n6 h0 h1]
   have hH := hw.1 _ (AE (xs := w.hosts) (j := e.host.toNat) (by omega))
   have i1 : 0 ≤ A5 (fun x : Im => x.id = e.id) 0 (At w e.host).spool.items ∧ A5 (fun x : Im => x.id = e.id) 0 (At w e.host).spool.items < (At w e.host).spool.items.length := by have := Bg h1; unfold Ax at this h1; omega
   have hil : (Ax (At w e.host).spool e.id).toNat < (At w e.host).spool.items.length := by have := Bg h1; omega
   have hx := (hH.1.2.2.2.1 _ (AE (xs := (At w e.host).spool.items) (j := (Ax (At w e.host).spool e.id).toNat) hil)).1
   have hx4 : (JY (At w e.host) e.id).to.length ≤ 4 := hx.2.2.2.2.1.2
   have hw2 := hw.2.2.1
   simp -implicitDefEqProofs only [Tryz.f170, h0', h1, eq_self, decide_true, decide_false, go_sem, hh, seval]
   with_reducible repeat' (first | apply ai | intro _ | ((first | apply s1 | apply s3 | apply s4) <;> intro hb <;> simp -implicitDefEqProofs only [hb, go_sem, hh, seval] <;> try simp only [qz] at hb))
   all_goals (try simp only [maxLen, tn, AU, AT] at *)
   all_goals first | with_reducible rfl | omega | exact i1.2 | with_reducible assumption | (show _ = true; rfl) | contradiction | skip
   refine AF [] (ι := {p : Nat × Hs × Bool // p.1 ≤ (JY (At w e.host) e.id).to.length ∧ (FL p.2.1 ∧ FE (1000000 + p.1) p.2.1 ∧ p.2.1.conf = (At w e.host).conf) ∧ (∀ j, p.1 ≤ j → j < (JY (At w e.host) e.id).to.length → Ch p.2.1.spool e.id ((JY (At w e.host) e.id).to.getD j default).addr) ∧ T3 w (At w e.host).conf e.lose e.id ((JY (At w e.host) e.id).to.drop p.1) p.2 = Y6 w e}) (fun p => ⟨[(2, .pb 1002 0), (3, .pb 1003 0), (4, .pb 1004 0), (6, .pb 1006 0), (8, .t (.sl 4 ((JY (At w e.host) e.id).to.map BO))), (9, .t (.v (.bool p.1.2.2))), (10, .t (.v (.int .i64 p.1.1)))], [(1002, some (.box [.h 1900, .t (.v (.int .i64 w.now)), .t (.v (.int .i64 w.marks)), .h 2900])), (1003, some (.box ((C2 e).map .t))), (1004, some (.box [.nil, .t (.v (.int .i64 0)), .t (.v (.int .i64 0)), .nil])), (1006, some (.box ((Al p.1.2.1).map .t))), (1900, some (.arr false 7 (w.hosts.map Al))), (2900, some (.arr true 3 (w.given.map A2)))]⟩) (fun p => (JY (At w e.host) e.id).to.length - p.1.1) ⟨(0, (At w e.host), false), Nat.zero_le _, ⟨hH.1, hH.2, rfl⟩, fun j _ hj => ?_, rfl⟩ rfl ?_ ?_
   ·have e1 := Ey h1
    have z := (Fq hH.1.2.2.2 (x := JY (At w e.host) e.id) (AE hil) (AE hj)).1
    have e2 : (JY (At w e.host) e.id).id = e.id := e1
    rw [e2] at z
    exact z
   ·simp -implicitDefEqProofs only [go_sem, hh, seval]
    first | (simp; done) | ((repeat' (first | with_reducible apply And.intro | rfl)); done)
   ·rintro ⟨⟨k, x, dn⟩, hk, ⟨hxK, hxN, hxc⟩, htd, hv⟩
    dsimp only at hk hxK hxN hxc htd hv
    have hok := EK hxK hxN (by omega)
    have hsp := hxK.2.2.2
    have hxe : (⟨(At w e.host).conf, x.spool, x.boxes, x.lost⟩ : Hs) = x := by rw [← hxc]
    simp -implicitDefEqProofs only [hxc, go_sem, hh, seval]
    with_reducible repeat' (first | apply ai | intro _ | ((first | apply s1 | apply s3 | apply s4) <;> intro hb <;> simp -implicitDefEqProofs only [hb, go_sem, hh, seval] <;> try simp only [qz] at hb))
    all_goals (try simp only [maxLen, tn, AU, AT] at *)
    all_goals first
     | with_reducible rfl
     | omega
     | with_reducible assumption
     | (show _ = true; rfl)
     | exact hok.2.1
     | exact (htd k (Nat.le_refl _) (by omega)).1
     | exact (htd k (Nat.le_refl _) (by omega)).2
     | exact .inr ⟨hxc ▸ hok, hw2⟩
     | (rw [jJ (by omega)] at hv; rw [← hv, ← hxc]; first | done | rfl)
     | (rw [jJ (by omega)] at hv; rw [← hv]; first | done | rfl)
     | (show _ = T.v _; rfl)
     | (show _ = List.map A2 _; rfl)
     | (show List.Nodup _; decide)
     | (have hkl : k < (JY (At w e.host) e.id).to.length := by omega
        have ht := htd k (Nat.le_refl _) hkl
        have z := Ja (out := 3) hxK hxN ht hw2
        refine ⟨⟨(k + 1, IS x e.id ((JY (At w e.host) e.id).to.getD k default).addr 3 w.now, true), by dsimp only; omega, ⟨z.1, z.2, (E9 _ _ _ _ _ _).1.trans hxc⟩, fun j hj hj2 => (Hj hsp ht hw2).2 _ _ (htd j (by dsimp only at hj; omega) hj2) (fun y => tC hx.2.1 (by dsimp only at hj; omega) hj2 y.2), (sg hkl ⟨by first | omega | with_reducible assumption, by with_reducible assumption, by first | exact .inl (by with_reducible assumption) | exact .inr (by with_reducible assumption)⟩).symm.trans hv⟩, by dsimp only; omega, ?_⟩
        simp -implicitDefEqProofs only [go_sem, hh, seval]
        first | (simp only [hxe, IS]; simp; done) | skip)
     | (have hkl : k < (JY (At w e.host) e.id).to.length := by omega
        refine ⟨⟨(k + 1, x, dn), by dsimp only; omega, ⟨hxK, B7 hxN (by omega), hxc⟩, fun j hj hj2 => htd j (by dsimp only at hj; omega) hj2, (sf hkl (fun q => by first | exact absurd q.1 (by with_reducible assumption) | (have := q.1; omega) | exact q.2.1 (by with_reducible assumption) | (rcases q.2.2 with y | y <;> first | (simp_all; done) | omega))).symm.trans hv⟩, by dsimp only; omega, ?_⟩
        simp -implicitDefEqProofs only [go_sem, hh, seval]
        first | (simp; done) | (simp [hxe, hxc]; done) | skip)
     | skip
 ·have h0' := AO h0
  rw [ny h0]
  simp -implicitDefEqProofs only [Tryz.f170, h0', eq_self, decide_true, decide_false, go_sem, hh, seval]
  with_reducible repeat' (first | apply ai | intro _ | ((first | apply s1 | apply s3 | apply s4) <;> intro hb <;> simp -implicitDefEqProofs only [hb, go_sem, hh, seval] <;> try simp only [qz] at hb))
  all_goals (try simp only [maxLen, tn, AU, AT] at *)
  all_goals first | with_reducible rfl | omega | with_reducible assumption | (show _ = true; rfl) | contradiction | decide | skip
end
instance uk (c : Cf) : Decidable (GF c) := by unfold GF; infer_instance
theorem Te (k : Int) : (∀ c ∈ E3 k, GF c) ∧ ((E3 k).map Cf.name).Nodup := by
 unfold E3
 split
 ·exact ⟨by decide +kernel, by decide +kernel⟩
 ·split
  ·exact ⟨by decide +kernel, by decide +kernel⟩
  ·split
   ·exact ⟨by decide +kernel, by decide +kernel⟩
   ·exact ⟨by decide +kernel, by decide +kernel⟩
theorem UT {c : Cf} (h : GF c) : FL (EH c) ∧ FE 0 (EH c) := ⟨⟨fun _ q => (by cases q), List.Pairwise.nil, h, W9⟩, Nat.le_refl _, fun _ q => (by cases q), Nat.le_refl _, fun _ q => by cases q⟩
theorem cS (k : Int) : kh (FI (E3 k)) := by
 obtain ⟨h1, h2⟩ := Te k
 obtain ⟨_, h3, h4⟩ := Mm k
 have hl : (FI (E3 k)).hosts.length = (E3 k).length := lm _
 refine ⟨fun h hh => ?_, ?_, fun _ q => (by cases q), ⟨by omega, by omega⟩, ⟨Int.le_refl _, by show (0 : Int) ≤ 9999; decide⟩, ⟨Int.le_refl _, by show (0 : Int) ≤ 60; decide⟩⟩
 ·obtain ⟨c, hc, rfl⟩ := List.mem_map.1 hh
  exact Es.2 (UT (h1 c hc)).1
 ·show (((E3 k).map EH).map T5).Nodup
  rw [List.map_map]
  exact h2
def QJ (s : Ss) : Prop := (∀ a ∈ s.mail.to, BJ a) ∧ s.mail.to.Nodup ∧ (BJ s.mail.frm ∨ AZ s.mail.frm) ∧ s.mail.to.length ≤ 4 ∧ (s.state = 3 ∨ s.state = 4 → 1 ≤ s.mail.to.length)
theorem LV {s : Ss} (h : ¬ (s.state = 3 ∨ s.state = 4)) : QJ (FT s) := ⟨fun _ q => (by cases q), List.nodup_nil, .inr ⟨rfl, rfl⟩, Nat.zero_le _, fun q => absurd q h⟩
theorem nu {s : Ss} (t : ByteArray) (h : QJ s) : QJ (Ei s t).1 := by
 unfold Ei
 split
 ·split
  ·rename_i q
   refine ⟨fun _ z => (by cases z), List.nodup_nil, (JX q).1, Nat.zero_le _, fun z => absurd (show (2 : Int) = 3 ∨ (2 : Int) = 4 from z) (by decide)⟩
  ·exact h
 ·exact h
theorem tw {s : Ss} (c : Cf) (t : ByteArray) (h : QJ s) : QJ (Ht c s t).1 := by
 unfold Ht
 split
 ·split
  ·rename_i q
   split
   ·exact h
   ·rename_i q2
    split
    ·split
     ·exact h
     ·rename_i q3
      split
      ·exact h
      ·rename_i q4
       refine ⟨fun a ha => ?_, ?_, h.2.2.1, ?_, fun _ => ?_⟩
       ·rcases List.mem_append.1 ha with ha | ha
        ·exact h.1 a ha
        ·rw [List.mem_singleton] at ha; subst ha; exact (JX q).1.resolve_right q2
       ·show (s.mail.to ++ [BD t]).Nodup
        rw [List.nodup_append]
        exact ⟨h.2.1, by simp, fun a ha b hb e => by rw [List.mem_singleton] at hb; subst hb; subst e; exact q3 ha⟩
       ·show (s.mail.to ++ [BD t]).length ≤ 4
        rw [List.length_append]; show s.mail.to.length + 1 ≤ 4; omega
       ·show 1 ≤ (s.mail.to ++ [BD t]).length
        rw [List.length_append]; show 1 ≤ s.mail.to.length + 1; omega
    ·exact h
  ·exact h
 ·exact h
theorem m7 {s : Ss} (c : Cf) (l : ByteArray) (h : QJ s) : QJ (Ba c s l).1 := by
 unfold Ba
 repeat' split
 all_goals first
  | exact h
  | exact nu _ h
  | exact tw _ _ h
  | exact LV (by show ¬ ((1 : Int) = 3 ∨ (1 : Int) = 4); decide)
  | exact LV (by show ¬ ((5 : Int) = 3 ∨ (5 : Int) = 4); decide)
  | exact LV (by omega)
  | (rename_i q; exact ⟨h.1, h.2.1, h.2.2.1, h.2.2.2.1, fun _ => h.2.2.2.2 (.inl q)⟩)
theorem nQ {s : Ss} {l : ByteArray} (h : QJ s) : QJ (Aj s l).1.1 ∧ ((Aj s l).1.2 = ⟨#[]⟩ ∨ (Aj s l).1.1.state = 1) ∧ ((Aj s l).2 = true → DW (Aj s l).1.1.mail.body ∧ (Aj s l).1.1.mail.to = s.mail.to) := by
 have one : ∀ b : Bool, QJ ⟨1, s.mail, b, s.buf⟩ := fun b => ⟨h.1, h.2.1, h.2.2.1, h.2.2.2.1, fun q => absurd (show (1 : Int) = 3 ∨ (1 : Int) = 4 from q) (by decide)⟩
 unfold Aj
 repeat' split
 all_goals first
  | (refine ⟨one _, .inr rfl, fun _ => ⟨?_, rfl⟩⟩; assumption)
  | exact ⟨one _, .inr rfl, fun q => absurd q Bool.false_ne_true⟩
  | exact ⟨h, .inl rfl, fun q => absurd q Bool.false_ne_true⟩
theorem qp {s : Ss} {l : ByteArray} (c : Cf) (h : QJ s) : QJ (Bl c s l).1.1 ∧ ∀ m ∈ (Bl c s l).2, Ce m := by
 obtain ⟨q1, q2, q3⟩ := nQ (l := l) h
 have q := m7 c l h
 have e1 : ¬ (Aj s l).1.2 = ⟨#[]⟩ → ¬ ((Aj s l).1.1.state = 3 ∨ (Aj s l).1.1.state = 4) := fun n => by have := q2.resolve_left n; omega
 unfold Bl
 split
 ·exact ⟨h, fun _ z => by cases z⟩
 ·split
  ·rename_i h4
   split
   ·exact ⟨q1, fun _ z => by cases z⟩
   ·rename_i hn
    split
    ·rename_i ht
     refine ⟨LV (e1 hn), fun m hm => ?_⟩
     rw [List.mem_singleton] at hm; subst hm
     obtain ⟨b1, b2⟩ := q3 ht
     exact ⟨q1.1, q1.2.1, q1.2.2.1, ⟨by rw [b2]; exact h.2.2.2.2 (.inr h4), q1.2.2.2.1⟩, b1⟩
    ·exact ⟨LV (e1 hn), fun _ z => by cases z⟩
  ·exact ⟨q, fun _ z => by cases z⟩
def kc (x : Fm) : Prop := QJ x.1 ∧ ∀ m ∈ x.2.2, Ce m
theorem sa {c : Cf} {x : Fm} {l : ByteArray} (h : kc x) : kc (cy c x l) := by
 obtain ⟨q1, q2⟩ := qp (l := l) c h.1
 exact ⟨q1, fun m hm => (List.mem_append.1 hm).elim (h.2 m) (q2 m)⟩
theorem jA {x : Fm} (h : kc x) : kc (bP x) := ⟨LV (by show ¬ ((5 : Int) = 3 ∨ (5 : Int) = 4); decide), h.2⟩
theorem i9 {c : Cf} : ∀ (L : List ByteArray) {x : Fm}, kc x → kc (M1 c L x).1
 | [], x, h => h
 | l :: r, x, h => by
   rw [M1]
   split
   ·exact h
   ·split
    ·exact jA h
    ·exact i9 r (sa h)
theorem cz {c : Cf} {s : Ss} {t : ByteArray} (h : QJ s) : kc (Bp c s t) := by
 have q := i9 (c := c) (Ni (s.buf ++ t)) (x := (⟨s.state, s.mail, s.bad, ⟨#[]⟩⟩, [], [])) ⟨h, fun _ z => by cases z⟩
 unfold Bp Ys
 split
 ·exact q
 ·split
  ·exact q
  ·split
   ·exact jA q
   ·exact q
def u7 (x : N5) : Prop := QJ x.2.1 ∧ ∀ m ∈ x.2.2.1, Ce m
theorem tj {h : Cf} {x : N5} (q : u7 x) : u7 (bV h x) := by
 have f := cz (c := h) (t := ar (ML x)) q.1
 exact ⟨f.1, fun m hm => (List.mem_append.1 hm).elim (q.2 m) (f.2 m)⟩
theorem j7 (h : Cf) (cut : Int) : ∀ (k n : Nat) (x : N5), u7 x → ∀ m ∈ (LA h cut k n x).2, Ce m
 | 0, n, x, q => q.2
 | k + 1, n, x, q => by
   rw [LA]
   split
   ·split
    ·exact q.2
    ·split
     ·exact q.2
     ·exact j7 h cut k (n + 1) _ (tj q)
   ·exact q.2
theorem Je (h : Cf) (nm : ByteArray) (m : Ml) (cut : Int) : ∀ y ∈ (Eo h nm m cut).2, Ce y :=
 j7 h cut cut.toNat 0 (WZ h nm m) ⟨⟨fun _ z => (by cases z), List.nodup_nil, .inr ⟨rfl, rfl⟩, Nat.zero_le _, fun z => absurd (show (0 : Int) = 3 ∨ (0 : Int) = 4 from z) (by decide)⟩, fun _ z => by cases z⟩
theorem WY {h : Cf} {nm : ByteArray} {m : Ml} {cut : Int} (hn : nm.size ≤ 1000) (hm : Nd m) : ∀ y ∈ (Eo h nm m cut).2, gj y :=
 (K2 h cut cut.toNat 0 (WZ h nm m) (K1 h hn hm)).2.2
theorem UU (c : Cl) : (Dd c).1.mail = c.mail := by unfold Dd; (repeat' split) <;> rfl
theorem cw (c : Cl) (k : Int) : (DS c k).1.mail = c.mail := by unfold DS; (repeat' split) <;> rfl
theorem gO (c : Cl) (k : Int) : (FK c k).1.mail = c.mail := by
 unfold FK
 repeat' split
 all_goals exact UU _
theorem VA (c : Cl) (a : ByteArray) : (Ay c a).1.mail = c.mail := by
 unfold Ay
 repeat' split
 all_goals first | rfl | exact gO _ _ | exact cw _ _ | exact UU _
theorem ax (h : Cf) (cut : Int) : ∀ (k n : Nat) (x : N5), (LA h cut k n x).1.mail = x.1.mail
 | 0, n, x => rfl
 | k + 1, n, x => by
   rw [LA]
   split
   ·split
    ·rfl
    ·split
     ·exact VA _ _
     ·rw [ax h cut k (n + 1) (bV h x)]; exact VA _ _
   ·rfl
theorem Kz {h : Cf} {nm : ByteArray} {m : Ml} {cut : Int} (hn : nm.size ≤ 1000) (hm : Nd m) : (Eo h nm m cut).1.length = m.to.length := by
 have q := (K2 h cut cut.toNat 0 (WZ h nm m) (K1 h hn hm)).1.1
 rw [ax] at q
 show (List.map _ _).length = _
 rw [lm]
 exact q
theorem b6 {a : Ad} (h : BJ a ∨ AZ a) : a.user.size ≤ 1000 ∧ a.domain.size ≤ 1000 := by
 rcases h with h | h
 ·have h1 := (JR h.1).2
  have h2 := (DA h.2).2
  exact ⟨by omega, by omega⟩
 ·obtain ⟨u, d⟩ := a
  obtain ⟨h1, h2⟩ := h
  dsimp only at h1 h2
  subst h1; subst h2
  exact ⟨Nat.zero_le _, Nat.zero_le _⟩
theorem kf {m : Ml} (h : Ce m) : Nd m := ⟨by have := h.2.2.2.1.2; omega, by have := h.2.2.2.2.2; omega, b6 h.2.2.1, fun a ha => b6 (.inl (h.1 a ha)), fun l hl => by have := (h.2.2.2.2.1 l hl).2; omega⟩
theorem W5 {m : Ml} {s : ByteArray} (h : Ce m) (hs : s.size ≤ 1000) : Nd ⟨m.frm, m.to, s :: m.body⟩ := by
 have q := kf h
 refine ⟨q.1, ?_, q.2.2.1, q.2.2.2.1, fun l hl => ?_⟩
 ·have := h.2.2.2.2.2
  show (s :: m.body).length ≤ 100
  rw [List.length_cons]; omega
 ·rcases List.mem_cons.1 hl with rfl | hl
  ·exact hs
  ·exact q.2.2.2.2 l hl
theorem qJ {c : Cf} {x : Im} {to : ByteArray} {w : Int} (h : DX x) : Nd (Fg c x to w) := by
 have hl := El c to w x.to
 refine ⟨?_, by have := h.2.2.2.2.2.2; show x.body.length ≤ 100; omega, b6 h.2.2.2.1, fun a ha => ?_, fun l hl => by have := (h.2.2.2.2.2.1 l hl).2; omega⟩
 ·have := h.2.2.2.2.1.2
  show (Af c to w x.to).length ≤ 1000
  omega
 ·obtain ⟨r, hr, e, _⟩ := DO c to w x.to a ha
  rw [← e]
  exact b6 (.inl (h.1 r hr).1)
theorem A9 {N M : Nat} {w : Wd} (q : G9 N w) (l : N ≤ M) : G9 M w := ⟨fun h hh => ⟨(q.1 h hh).1, B7 (q.1 h hh).2 l⟩, q.2.1, q.2.2.1, q.2.2.2.1, Nat.le_trans q.2.2.2.2.1 l, q.2.2.2.2.2⟩
theorem NT {N : Nat} {w : Wd} {k : Int} {h : Hs} (q : G9 N w) (hk : FL h) (hn : FE N h) : G9 N (WN w k h) := by
 have e : (w.hosts.set k.toNat h).length = w.hosts.length := List.length_set
 refine ⟨fun x hx => ?_, ⟨by show 1 ≤ (w.hosts.set k.toNat h).length; rw [e]; exact q.2.1.1, by show (w.hosts.set k.toNat h).length ≤ 4; rw [e]; exact q.2.1.2⟩, q.2.2.1, q.2.2.2.1, q.2.2.2.2⟩
 rcases List.mem_or_eq_of_mem_set hx with hx | rfl
 ·exact q.1 x hx
 ·exact ⟨hk, hn⟩
theorem Y5 {w : Wd} {c : Cf} {ls : Bool} {n : Int} (hw : 0 ≤ w.now ∧ w.now ≤ 9999) : ∀ (rs : List Rc) {x : Hs × Bool} {N : Nat}, FL x.1 → FE N x.1 → (rs.map Rc.addr).Nodup → (∀ r ∈ rs, Ch x.1.spool n r.addr) → FL (T3 w c ls n rs x).1 ∧ FE (N + rs.length) (T3 w c ls n rs x).1
 | [], x, N, q, hn, _, _ => ⟨q, hn⟩
 | r :: t, x, N, q, hn, hd, ht => by
   rw [List.map_cons, List.nodup_cons] at hd
   have ht0 := ht r (List.mem_cons_self ..)
   have e : N + (r :: t).length = N + 1 + t.length := by rw [List.length_cons]; omega
   rw [T3, e]
   split
   ·have z := Ja (out := 3) q hn ht0 hw
    exact Y5 hw t z.1 z.2 hd.2 fun y hy => (Hj q.2.2.2 ht0 hw).2 _ _ (ht y (List.mem_cons_of_mem _ hy)) fun z => hd.1 (by rw [z.2]; exact List.mem_map_of_mem hy)
   ·exact Y5 hw t q (B7 hn (Nat.le_succ _)) hd.2 fun y hy => ht y (List.mem_cons_of_mem _ hy)
theorem n7 {N : Nat} {w : Wd} {e : Ev} (q : G9 N w) : G9 (N + 4) (KH w e).1 := by
 unfold KH
 split
 ·rename_i h0
  split
  ·exact A9 q (Nat.le_add_right _ _)
  ·rename_i h1
   have hl := q.2.1
   have hH := q.1 _ (AE (xs := w.hosts) (j := e.host.toNat) (by omega))
   have hil : (Ax (At w e.host).spool e.id).toNat < (At w e.host).spool.items.length := by have := Bg h1; omega
   have hx := (hH.1.2.2.2.1 _ (AE (xs := (At w e.host).spool.items) (j := (Ax (At w e.host).spool e.id).toNat) hil)).1
   have z := Y5 (w := w) (c := (At w e.host).conf) (ls := e.lose) (n := e.id) q.2.2.1 (JY (At w e.host) e.id).to (x := (At w e.host, false)) hH.1 hH.2 hx.2.1 fun r hr => by
    have y := (Fq hH.1.2.2.2 (x := JY (At w e.host) e.id) (AE hil) hr).1
    have e2 : (JY (At w e.host) e.id).id = e.id := Ey h1
    rw [e2] at y
    exact y
   exact NT (A9 q (Nat.le_add_right _ _)) z.1 (B7 z.2 (by have := hx.2.2.2.2.1.2; show N + (JY (At w e.host) e.id).to.length ≤ N + 4; have h4 : (JY (At w e.host) e.id).to.length ≤ 4 := this; omega))
 ·exact A9 q (Nat.le_add_right _ _)
def bK (e : Ev) : Prop := LE e.mail ∧ 0 ≤ e.cut ∧ e.cut ≤ 1000
def KS (mk : ByteArray) (ds : List Ad) : List Ls := ds.map fun a => ⟨mk, a⟩
noncomputable def bU (w : Wd) (k : Int) (mk : ByteArray) (y : Ml) : Wd := ⟨w.hosts.set k.toNat (P2 (At w k) y w.now), w.now, w.marks, w.given ++ KS mk y.to⟩
open Classical in
noncomputable def WT (k : Int) (mk : ByteArray) : List Ml → Wd → Wd
 | [], w => w
 | y :: t, w => if y.body.length < 12 ∧ CG (At w k).spool then WT k mk t (bU w k mk y) else WT k mk t w
theorem ta {k : Int} {mk : ByteArray} {ys : List Ml} {i : Nat} {w : Wd} (h : i < ys.length) (q : (ys.getD i default).body.length < 12 ∧ CG (At w k).spool) : WT k mk (ys.drop i) w = WT k mk (ys.drop (i + 1)) (bU w k mk (ys.getD i default)) := by rw [Ae h, WT, if_pos q]
theorem tZ {k : Int} {mk : ByteArray} {ys : List Ml} {i : Nat} {w : Wd} (h : i < ys.length) (q : ¬ ((ys.getD i default).body.length < 12 ∧ CG (At w k).spool)) : WT k mk (ys.drop i) w = WT k mk (ys.drop (i + 1)) w := by rw [Ae h, WT, if_neg q]
theorem tY {k : Int} {mk : ByteArray} {ys : List Ml} {i : Nat} {w : Wd} (h : ys.length ≤ i) : WT k mk (ys.drop i) w = w := by rw [List.drop_of_length_le h]; rfl
def jO (n : Int) : ByteArray := ⟨#[73, 100, 58, 32]⟩ ++ Ms n
theorem jP (n : Int) : (jO n).size ≤ 6 := by
 unfold jO
 rw [ByteArray.size_append]
 have := (II n).2
 show 4 + _ ≤ 6
 omega
def QA (w : Wd) (e : Ev) : Ml := ⟨e.mail.frm, e.mail.to, jO (w.marks + 1) :: e.mail.body⟩
def tc (w : Wd) (e : Ev) : Prop := (0 ≤ e.host ∧ e.host ≤ (w.hosts.length : Int) - 1) ∧ Ce e.mail ∧ ¬ w.marks ≥ 60 ∧ ¬ (e.mail.body.length : Int) ≥ 10 ∧ B4 e.mail.body = ⟨#[]⟩ ∧ CG (At w e.host).spool
noncomputable abbrev Jb (w : Wd) (e : Ev) : List Ml := (Eo (At w e.host).conf ⟨#[99, 108, 105, 101, 110, 116]⟩ (QA w e) e.cut).2
noncomputable def wA (w : Wd) (e : Ev) : Wd := WT e.host (B4 (QA w e).body) (Jb w e) ⟨w.hosts, w.now, w.marks + 1, w.given⟩
open Classical in
noncomputable def WU (w : Wd) (e : Ev) : Wd × Bool := if tc w e then (wA w e, true) else (w, false)
theorem jz {w : Wd} {e : Ev} (q : tc w e) : WU w e = (wA w e, true) := if_pos q
theorem Kr {w : Wd} {e : Ev} (q : ¬ tc w e) : WU w e = (w, false) := if_neg q
def bo (N : Nat) (k : Int) (w : Wd) : Prop := ((∀ h ∈ w.hosts, FL h ∧ FE N h) ∧ (1 ≤ w.hosts.length ∧ w.hosts.length ≤ 4) ∧ (0 ≤ w.now ∧ w.now ≤ 9999) ∧ (0 ≤ w.marks ∧ w.marks ≤ 60)) ∧ (0 ≤ k ∧ k ≤ (w.hosts.length : Int) - 1) ∧ w.given.length ≤ N + 4 * (At w k).spool.items.length ∧ ∀ l ∈ w.given, VL l
theorem LU {N : Nat} {k : Int} {w : Wd} (q : bo N k w) : FL (At w k) ∧ FE N (At w k) := q.1.1 _ (AE (xs := w.hosts) (j := k.toNat) (by have := q.2.1; omega))
theorem gn {N : Nat} {k : Int} {w : Wd} (q : bo N k w) : w.given.length ≤ N + 40 := by
 have h := (LU q).1.2.2.2.2.2.2
 have := q.2.2.1
 omega
theorem rU {N : Nat} {k : Int} {w : Wd} (q : bo N k w) : G9 (N + 40) w := ⟨fun h hh => ⟨(q.1.1 h hh).1, B7 (q.1.1 h hh).2 (Nat.le_add_right _ _)⟩, q.1.2.1, q.1.2.2.1, q.1.2.2.2, gn q, q.2.2.2⟩
theorem fb {mk : ByteArray} (hm : Bh mk) {ds : List Ad} (ha : ∀ a ∈ ds, BJ a) : ∀ l ∈ KS mk ds, VL l := fun l hl => by
 obtain ⟨a, h, rfl⟩ := List.mem_map.1 hl
 exact ⟨hm, Bs (.inl (ha a h))⟩
theorem qq {w : Wd} {k : Int} {mk : ByteArray} {y : Ml} (h : 0 ≤ k ∧ k ≤ (w.hosts.length : Int) - 1) : At (bU w k mk y) k = P2 (At w k) y w.now := by
 have e : k.toNat < w.hosts.length := by omega
 show (w.hosts.set k.toNat _).getD k.toNat default = _
 simp [e]
theorem j8 {N : Nat} {k : Int} {w : Wd} {mk : ByteArray} {y : Ml} (q : bo N k w) (hm : Bh mk) (hy : Ce y) (hl : y.body.length < 12) (hr : CG (At w k).spool) : bo N k (bU w k mk y) := by
 have z := ay (LU q).1 (LU q).2 hy hl q.1.2.2.1 hr
 have e : (w.hosts.set k.toNat (P2 (At w k) y w.now)).length = w.hosts.length := List.length_set
 refine ⟨⟨fun x hx => ?_, ?_, q.1.2.2.1, q.1.2.2.2⟩, ?_, ?_, fun l hl => ?_⟩
 ·rcases List.mem_or_eq_of_mem_set hx with hx | rfl
  ·exact q.1.1 x hx
  ·exact z
 ·show 1 ≤ (w.hosts.set k.toNat _).length ∧ (w.hosts.set k.toNat _).length ≤ 4
  rw [e]; exact q.1.2.1
 ·show 0 ≤ k ∧ k ≤ ((w.hosts.set k.toNat _).length : Int) - 1
  rw [e]; exact q.2.1
 ·rw [qq q.2.1]
  show (w.given ++ KS mk y.to).length ≤ N + 4 * ((At w k).spool.items ++ [_]).length
  have h1 := q.2.2.1
  have h2 := hy.2.2.2.1.2
  have h3 : (KS mk y.to).length = y.to.length := lm _
  rw [List.length_append, List.length_append, h3]
  show _ ≤ N + 4 * (_ + 1)
  omega
 ·rcases List.mem_append.1 hl with hl | hl
  ·exact q.2.2.2 l hl
  ·exact fb hm hy.1 l hl
theorem ab {N : Nat} {k : Int} {mk : ByteArray} (hm : Bh mk) : ∀ (ys : List Ml) {w : Wd}, bo N k w → (∀ y ∈ ys, Ce y) → bo N k (WT k mk ys w)
 | [], w, q, _ => q
 | y :: t, w, q, h => by
   rw [WT]
   split
   ·rename_i hc
    exact ab hm t (j8 q hm (h y (List.mem_cons_self ..)) hc.1 hc.2) fun x hx => h x (List.mem_cons_of_mem _ hx)
   ·exact ab hm t q fun x hx => h x (List.mem_cons_of_mem _ hx)
theorem j0 {w : Wd} {e : Ev} (h : Ce e.mail) : Bh (B4 (QA w e).body) := by
 rcases Fd (QA w e).body with z | z
 ·rw [z]; show (0 : Nat) ≤ 1048576; decide
 ·rcases List.mem_cons.1 z with z | z
  ·rw [z]; have := jP (w.marks + 1); show (jO (w.marks + 1)).size ≤ 1048576; omega
  ·exact (HB h.2.2.2.2).2 _ z
theorem tf {N : Nat} {w : Wd} {e : Ev} (q : G9 N w) (h : tc w e) : bo N e.host ⟨w.hosts, w.now, w.marks + 1, w.given⟩ := by
 obtain ⟨q1, q2, q3, q4, q5, q6⟩ := q
 have h1 := h.1
 have h2 := h.2.2.1
 exact ⟨⟨q1, q2, q3, by dsimp only; omega⟩, h1, Nat.le_trans q5 (Nat.le_add_right _ _), q6⟩
theorem te {N : Nat} {w : Wd} {e : Ev} (q : G9 N w) : G9 (N + 40) (WU w e).1 := by
 by_cases h : tc w e
 ·rw [jz h]
  exact rU (ab (j0 h.2.1) _ (tf q h) (Je _ _ _ _))
 ·rw [Kr h]; exact A9 q (Nat.le_add_right _ _)
noncomputable def kD (now : Int) : List Ml → Hs → Hs
 | [], t => t
 | y :: r, t => kD now r (LD t y now).1
theorem kF {now : Int} {ys : List Ml} {i : Nat} {t : Hs} (h : i < ys.length) : kD now (ys.drop i) t = kD now (ys.drop (i + 1)) (LD t (ys.getD i default) now).1 := by rw [Ae h]; rfl
theorem tx {now : Int} {ys : List Ml} {i : Nat} {t : Hs} (h : ys.length ≤ i) : kD now (ys.drop i) t = t := by rw [List.drop_of_length_le h]; rfl
noncomputable def gQ (n now : Int) : List Ad → List Int → Hs → Hs
 | a :: r, o :: s, x => gQ n now r s (IS x n a o now)
 | [], _, x => x
 | _ :: _, [], x => x
theorem t4 {n now : Int} {ds : List Ad} {os : List Int} {i : Nat} {x : Hs} (h1 : i < ds.length) (h2 : i < os.length) : gQ n now (ds.drop i) (os.drop i) x = gQ n now (ds.drop (i + 1)) (os.drop (i + 1)) (IS x n (ds.getD i default) (os.getD i default) now) := by rw [Ae h1, Ae h2]; rfl
theorem tz {n now : Int} {ds : List Ad} {os : List Int} {i : Nat} {x : Hs} (h : os.length ≤ i) : gQ n now (ds.drop i) (os.drop i) x = x := by
 rw [List.drop_of_length_le (l := os) h]
 cases ds.drop i <;> rfl
theorem W1 {h : Hs} {m : Ml} {w : Int} {N : Nat} (q : FL h) (n : FE N h) (hm : Ce m) (hw : 0 ≤ w ∧ w ≤ 9999) : FL (LD h m w).1 ∧ FE N (LD h m w).1 ∧ (LD h m w).1.conf = h.conf := by
 by_cases z : m.body.length < 12 ∧ CG h.spool
 ·rw [Jm z]
  have y := ay q n hm z.1 hw z.2
  exact ⟨y.1, y.2, rfl⟩
 ·rw [Jl z]; exact ⟨q, n, rfl⟩
theorem kE {w : Int} {N : Nat} (hw : 0 ≤ w ∧ w ≤ 9999) : ∀ (ys : List Ml) {h : Hs}, FL h → FE N h → (∀ y ∈ ys, Ce y) → FL (kD w ys h) ∧ FE N (kD w ys h)
 | [], h, q, n, _ => ⟨q, n⟩
 | y :: t, h, q, n, hy => by
   have z := W1 q n (hy y (List.mem_cons_self ..)) hw
   exact kE hw t z.1 z.2.1 fun x hx => hy x (List.mem_cons_of_mem _ hx)
theorem Z8 {h : Hs} {n : Int} {a : Ad} {out w : Int} {N : Nat} (q : FL h) (hn : FE N h) (t : Ch h.spool n a) (hw : 0 ≤ w ∧ w ≤ 9999) : FL (IS h n a out w) ∧ FE (N + 1) (IS h n a out w) ∧ (IS h n a out w).conf = h.conf ∧ ∀ a', Ch h.spool n a' → ¬ a = a' → Ch (IS h n a out w).spool n a' :=
 ⟨(Ja q hn t hw).1, (Ja q hn t hw).2, (E9 _ _ _ _ _ _).1, fun a' y z => (Hj q.2.2.2 t hw).2 _ _ y fun u => z u.2⟩
theorem kG {n w : Int} (hw : 0 ≤ w ∧ w ≤ 9999) : ∀ (ds : List Ad) (os : List Int) {h : Hs} {N : Nat}, FL h → FE N h → ds.Nodup → (∀ a ∈ ds, Ch h.spool n a) → FL (gQ n w ds os h) ∧ FE (N + ds.length) (gQ n w ds os h)
 | [], os, h, N, q, hn, _, _ => by cases os <;> exact ⟨q, hn⟩
 | a :: r, [], h, N, q, hn, _, _ => ⟨q, B7 hn (Nat.le_add_right _ _)⟩
 | a :: r, o :: s, h, N, q, hn, hd, ht => by
   rw [List.nodup_cons] at hd
   obtain ⟨z1, z2, _, z4⟩ := Z8 (out := o) q hn (ht a (List.mem_cons_self ..)) hw
   have e : N + (a :: r).length = N + 1 + r.length := by rw [List.length_cons]; omega
   rw [e]
   exact kG hw r s z1 z2 hd.2 fun b hb => z4 b (ht b (List.mem_cons_of_mem _ hb)) fun u => hd.1 (by rw [u]; exact hb)
theorem F8 (c : Cf) (to : ByteArray) (w : Int) : ∀ rs : List Rc, List.Sublist (Af c to w rs) (rs.map Rc.addr)
 | [] => .slnil
 | r :: t => by
   rw [Af]
   cases BL (HF c to w r)
   ·exact .cons _ (F8 c to w t)
   ·exact .cons_cons _ (F8 c to w t)
noncomputable def JD (w : Wd) (e : Ev) : Ml := Fg (At w e.host).conf (JY (At w e.host) e.id) (At w e.to).conf.name w.now
noncomputable def H2 (w : Wd) (e : Ev) : List Int × List Ml := GP (At w e.to) (At w e.host).conf.name (JD w e) e.cut
noncomputable def uw (w : Wd) (e : Ev) : Hs := kD w.now (H2 w e).2 (At w e.to)
noncomputable def rN (w : Wd) (e : Ev) : Hs := bif e.lose then At w e.host else gQ e.id w.now (JD w e).to (H2 w e).1 (At w e.host)
def rO (w : Wd) (e : Ev) : Prop := (0 ≤ e.host ∧ e.host ≤ (w.hosts.length : Int) - 1) ∧ (0 ≤ e.to ∧ e.to ≤ (w.hosts.length : Int) - 1) ∧ ¬ e.host = e.to ∧ ¬ Ax (At w e.host).spool e.id < 0 ∧ ¬ ((JD w e).to.length : Int) = 0
noncomputable def uv (w : Wd) (e : Ev) : Wd := WN (WN w e.to (uw w e)) e.host (rN w e)
open Classical in
noncomputable def bA (w : Wd) (e : Ev) : Wd × Bool := if rO w e then (uv w e, true) else (w, false)
theorem kH {w : Wd} {e : Ev} (q : rO w e) : bA w e = (uv w e, true) := if_pos q
theorem MM {w : Wd} {e : Ev} (q : ¬ rO w e) : bA w e = (w, false) := if_neg q
theorem az (h : Hs) (nm : ByteArray) (m : Ml) (cut : Int) : ∀ y ∈ (GP h nm m cut).2, Ce y := by
 unfold GP
 split
 ·exact Je _ _ _ _
 ·exact Je _ _ _ _
theorem Wa {h : Hs} {nm : ByteArray} {m : Ml} {cut : Int} (hn : nm.size ≤ 1000) (hm : Nd m) : (GP h nm m cut).1.length = m.to.length := by
 unfold GP
 split
 ·exact Kz hn hm
 ·exact Kz hn hm
theorem qt {h : Hs} {nm : ByteArray} {m : Ml} {cut : Int} (hn : nm.size ≤ 1000) (hm : Nd m) (hc : cut ≤ 1000) : (GP h nm m cut).2.length ≤ 300000000 := by
 have key : ∀ c : Int, c ≤ 1000 → (Eo h.conf nm m c).2.length ≤ 300000000 := fun c q => by
  have z := (K2 h.conf c c.toNat 0 (WZ h.conf nm m) (K1 h.conf hn hm)).2.1
  show (LA h.conf c c.toNat 0 (WZ h.conf nm m)).2.length ≤ _
  omega
 unfold GP
 split
 ·exact key _ hc
 ·exact key _ (by decide)
theorem t6 {N : Nat} {w : Wd} {h : Hs} {n : Int} (q : FL h) (h1 : ¬ Ax h.spool n < 0) : (Ax h.spool n).toNat < h.spool.items.length ∧ DX (JY h n) ∧ ∀ r ∈ (JY h n).to, Ch h.spool n r.addr := by
 have hil : (Ax h.spool n).toNat < h.spool.items.length := by have := Bg h1; omega
 refine ⟨hil, (q.2.2.2.1 _ (AE (xs := h.spool.items) (j := (Ax h.spool n).toNat) hil)).1, fun r hr => ?_⟩
 have y := (Fq q.2.2.2 (x := JY h n) (AE hil) hr).1
 have e2 : (JY h n).id = n := Ey h1
 rw [e2] at y
 exact y
theorem kJ {N : Nat} {w : Wd} {e : Ev} (q : G9 N w) (h : rO w e) : FL (At w e.host) ∧ FE N (At w e.host) ∧ FL (At w e.to) ∧ FE N (At w e.to) ∧ DX (JY (At w e.host) e.id) ∧ (JD w e).to.Nodup ∧ (JD w e).to.length ≤ 4 ∧ ∀ a ∈ (JD w e).to, Ch (At w e.host).spool e.id a := by
 obtain ⟨h1, h2, h3, h4, h5⟩ := h
 have hl := q.2.1
 have hH := q.1 _ (AE (xs := w.hosts) (j := e.host.toNat) (by omega))
 have hT := q.1 _ (AE (xs := w.hosts) (j := e.to.toNat) (by omega))
 obtain ⟨t1, t2, t3⟩ := t6 (N := N) (w := w) hH.1 h4
 refine ⟨hH.1, hH.2, hT.1, hT.2, t2, (F8 _ _ _ _).nodup t2.2.1, Nat.le_trans (El _ _ _ _) t2.2.2.2.2.1.2, fun a ha => ?_⟩
 obtain ⟨r, hr, er, _⟩ := DO _ _ _ _ a ha
 rw [← er]; exact t3 r hr
theorem t5 {N : Nat} {w : Wd} {e : Ev} (q : G9 N w) : G9 (N + 4) (bA w e).1 := by
 by_cases h : rO w e
 ·rw [kH h]
  obtain ⟨a1, a2, b1, b2, hi, hd, hl, ht⟩ := kJ q h
  have zb := kE q.2.2.1 (H2 w e).2 b1 b2 (az _ _ _ _)
  have za : FL (rN w e) ∧ FE (N + 4) (rN w e) := by
   unfold rN
   cases e.lose
   ·have z := kG (n := e.id) q.2.2.1 (JD w e).to (H2 w e).1 a1 a2 hd ht
    exact ⟨z.1, B7 z.2 (by omega)⟩
   ·exact ⟨a1, B7 a2 (by omega)⟩
  exact NT (NT (A9 q (by omega)) zb.1 (B7 zb.2 (by omega))) za.1 za.2
 ·rw [MM h]; exact A9 q (Nat.le_add_right _ _)
theorem pk {mk : ByteArray} {ds : List Ad} {j : Nat} (h : j < ds.length) : (KS mk (ds.take (j + 1))).map A2 = (KS mk (ds.take j)).map A2 ++ [[.v (.string mk), .v (.string (ds.getD j default).user), .v (.string (ds.getD j default).domain)]] := by
 unfold KS
 rw [List.map_map, List.map_map, MJ _ h]
 rfl
theorem pj {mk : ByteArray} {ds : List Ad} : (KS mk ds).length = ds.length := lm _
theorem su (n : Int) : (⟨#[73, 100, 58, 32]⟩ : ByteArray) ++ Ms n = jO n := rfl
theorem qO (w : Wd) (e : Ev) : (⟨e.mail.frm, e.mail.to, jO (w.marks + 1) :: e.mail.body⟩ : Ml) = QA w e := rfl
def cJ : Mt := Gu (lc kZ (lc Nr.ag l0)) (fun p => G9 1000000 p.1 ∧ bK p.2.1) (fun p => ([.any, Nr.ag.enc p.2.1], .tup [G7 (WU p.1 p.2.1).1, .t (.v (.bool (WU p.1 p.2.1).2))]))
section
attribute [local go_sem] J5 uj Mi J4 Mk cN Xq rI aO UL Mr su qO CP Fl Fk G7.eq_1 GN.eq_1 AY BZ Ku lm AS.opn AS.cls AS.nilb AS.renb AS.up Bool.not_false Bool.not_true List.set_set List.set_cons_zero List.set_cons_succ List.set_nil List.mem_singleton forall_eq tn List.map_nil List.nil_append
set_option maxHeartbeats 6400000 in
theorem eA {G : Gt} (hG : Ah G) (hh : G.e 69 = AA 0 J5 ∧ G.e 68 = AA 0 uj ∧ G.e 107 = AA 0 Mi ∧ G.e 121 = AA 0 J4 ∧ G.e 122 = AA 0 Mk ∧ G.e 184 = AA 0 cN ∧ G.e 185 = AA 1 Xq ∧ G.e 70 = AA 1 rI) : Gd G 168 (AN cJ) := by
 refine I5 (dp := fun n => !(Nat.beq n 100006 || Nat.beq n 100007 || Nat.beq n 100015)) (fn := Tryz.f168) (n := 2) rfl rfl hG ?_
 rintro ⟨w, e, ⟨⟩⟩ hpre
 obtain ⟨hw, hE, hc0, hc1⟩ := hpre
 try dsimp only at hw hE hc0 hc1 ⊢
 have hl := hw.2.1
 have hmk0 := hw.2.2.2.1
 have hgl := hw.2.2.2.2.1
 have hml1 := hE.2.1.1
 have hml2 := hE.2.2.1
 refine BH (0 ≤ e.host ∧ e.host ≤ (w.hosts.length : Int) - 1) (fun h0 => have h0' := Ak h0; BH (Ce e.mail) (fun h1 => have h1' := Ak h1; BH (w.marks ≥ 60) (fun h2 => have hx := And.intro (Kr (fun q => q.2.2.1 h2) : WU w e = _) (And.intro h0' (And.intro h1' h2)); ?_) (fun h2 => BH ((e.mail.body.length : Int) ≥ 10) (fun h3 => have hx := And.intro (Kr (fun q => q.2.2.2.1 h3) : WU w e = _) (And.intro h0' (And.intro h1' (And.intro h2 h3))); ?_) (fun h3 => BH (B4 e.mail.body = ⟨#[]⟩) (fun h4 => BH (CG (At w e.host).spool) (fun h5 => have h5' := Ak h5; ?w1) (fun h5 => have h5' := AO h5; have hx := And.intro (Kr (fun q => h5 q.2.2.2.2.2) : WU w e = _) (And.intro h0' (And.intro h1' (And.intro h2 (And.intro h3 (And.intro h4 h5'))))); ?_)) (fun h4 => have hx := And.intro (Kr (fun q => h4 q.2.2.2.2.1) : WU w e = _) (And.intro h0' (And.intro h1' (And.intro h2 (And.intro h3 h4)))); ?_)))) (fun h1 => have h1' := AO h1; have hx := And.intro (Kr (fun q => h1 q.2.1) : WU w e = _) (And.intro h0' h1'); ?_)) (fun h0 => have h0' := AO h0; have hx := And.intro (Kr (fun q => h0 q.1) : WU w e = _) h0'; ?_)
 case w1 =>
  rw [jz ⟨h0, h1, h2, h3, h4, h5⟩]
  have hS0 := tf hw ⟨h0, h1, h2, h3, h4, h5⟩
  have hK := hw.1 _ (AE (xs := w.hosts) (j := e.host.toNat) (by omega))
  have T5 := (DA hK.1.2.2.1.2.2.1).2
  have hmk := j0 (w := w) h1
  have hds := II (w.marks + 1)
  have e4 : (#[73, 100, 58, 32] : Array UInt8).size = 4 := rfl
  have hC : Nd (QA w e) := W5 h1 (by have := jP (w.marks + 1); omega)
  have hb12 := h1.2.2.2.2.2
  have hv1 : ∀ y ∈ Jb w e, Ce y := Je _ _ _ _
  have hv2 : ∀ y ∈ Jb w e, gj y := WY (nm := ⟨#[99, 108, 105, 101, 110, 116]⟩) (by show (6 : Nat) ≤ 1000; decide) hC
  have hvn : (Jb w e).length ≤ 300000000 := by
   have z := (K2 (At w e.host).conf e.cut e.cut.toNat 0 (WZ (At w e.host).conf ⟨#[99, 108, 105, 101, 110, 116]⟩ (QA w e)) (K1 (At w e.host).conf (nm := ⟨#[99, 108, 105, 101, 110, 116]⟩) (by show (6 : Nat) ≤ 1000; decide) hC)).2.1
   show (LA (At w e.host).conf e.cut e.cut.toNat 0 (WZ (At w e.host).conf ⟨#[99, 108, 105, 101, 110, 116]⟩ (QA w e))).2.length ≤ _
   omega
  simp -implicitDefEqProofs only [Tryz.f168, h0', h1', h2, h3, h4, h5', eq_self, decide_true, decide_false, go_sem, hh, seval]
  with_reducible repeat' (first | apply ai | intro _ | ((first | apply s1 | apply s3 | apply s4) <;> intro hb <;> simp -implicitDefEqProofs only [hb, go_sem, hh, seval] <;> try simp only [qz] at hb))
  all_goals (try simp only [maxLen, tn, AU, AT, lm, List.length_cons] at *)
  all_goals first | with_reducible rfl | omega | with_reducible assumption | (show _ = true; rfl) | contradiction | decide | exact hC | (show (_ : Nat) ≤ _; decide) | skip
  skip
  refine Ag (Le.frzL [1064, 1072]) (Ab ?_)
  simp -implicitDefEqProofs only [go_sem, hh, seval]
  with_reducible repeat' (first | apply ai | intro _ | ((first | apply s1 | apply s3 | apply s4) <;> intro hb <;> simp -implicitDefEqProofs only [hb, go_sem, hh, seval] <;> try simp only [qz] at hb))
  all_goals (try simp only [maxLen, tn, AU, AT, lm, List.length_cons] at *)
  all_goals first | with_reducible rfl | omega | with_reducible assumption | (show _ = true; rfl) | contradiction | decide | exact hC | (show (_ : Nat) ≤ _; decide) | skip
  refine Ag (Le.renb 1002 3 2900 1901 rfl rfl rfl rfl) (Ab ?_)
  simp -implicitDefEqProofs only [go_sem, hh, seval]
  with_reducible repeat' (first | apply ai | intro _ | ((first | apply s1 | apply s3 | apply s4) <;> intro hb <;> simp -implicitDefEqProofs only [hb, go_sem, hh, seval] <;> try simp only [qz] at hb))
  all_goals first | with_reducible rfl | omega | with_reducible assumption | (show _ = true; rfl) | contradiction | decide | skip
  refine AF [] (ι := {p : Nat × Wd // p.1 ≤ (Jb w e).length ∧ bo 1000000 e.host p.2 ∧ WT e.host (B4 (QA w e).body) ((Jb w e).drop p.1) p.2 = wA w e}) (fun p => ⟨[(2, .pb 1002 0), (3, .pb 1003 0), (4, .pb 1004 0), (6, .pb 1006 0), (8, .t (.sl 4 ((Jb w e).map Ca))), (9, .t (.v (.int .i64 p.1.1)))], [(1002, some (.box [.h 1900, .t (.v (.int .i64 p.1.2.now)), .t (.v (.int .i64 p.1.2.marks)), .h 1901])), (1003, some (.box ((C2 e).map .t))), (1004, some (.box [.nil, .t (.v (.int .i64 0)), .t (.v (.int .i64 0)), .nil])), (1006, some (.box [.t (.v (.string e.mail.frm.user)), .t (.v (.string e.mail.frm.domain)), .t (.sl 2 (e.mail.to.map Ao)), .t (.sl 1 ((jO (w.marks + 1) :: e.mail.body).map AH))])), (1900, some (.arr false 7 (p.1.2.hosts.map Al))), (1901, some (.arr true 3 (p.1.2.given.map A2)))]⟩) (fun p => (Jb w e).length - p.1.1) ⟨(0, ⟨w.hosts, w.now, w.marks + 1, w.given⟩), Nat.zero_le _, hS0, rfl⟩ rfl ?_ ?_
  ·simp -implicitDefEqProofs only [go_sem, hh, seval]
   first | (simp; done) | skip
  ·rintro ⟨⟨i, x⟩, hi, hx, hv⟩
   dsimp only at hi hx hv
   have hxK := (LU hx).1
   have hxo := EK (LU hx).1 (LU hx).2 (by decide)
   have hxn := (DA hxK.2.2.1.2.2.1).2
   have hxn6 : (At x e.host).conf.name.size ≤ 1000000 := by omega
   have hxw := hx.1.2.2.1
   have hxg := gn hx
   have hxl := hx.2.1
   by_cases hlt : (i : Int) < (Jb w e).length
   ·have hym := AE (xs := Jb w e) (j := i) (by omega)
    have hy := hv1 _ hym
    have hyo := (hv2 _ hym).1
    have hyl := hy.2.2.2.1.2
    by_cases q : ((Jb w e).getD i default).body.length < 12 ∧ CG (At x e.host).spool
    ·simp -implicitDefEqProofs only [hlt, Jm q, eq_self, decide_true, decide_false, go_sem, hh, seval]
     with_reducible repeat' (first | apply ai | intro _ | ((first | apply s1 | apply s3 | apply s4) <;> intro hb <;> simp -implicitDefEqProofs only [hb, go_sem, hh, seval] <;> try simp only [qz] at hb))
     all_goals (try simp only [maxLen, tn, AU, AT, lm] at *)
     all_goals first | with_reducible rfl | omega | with_reducible assumption | (show _ = true; rfl) | contradiction | decide | exact hxK.2.2.2 | skip
     refine AF [] (ι := {j : Nat // j ≤ ((Jb w e).getD i default).to.length}) (fun p => ⟨[(2, .pb 1002 0), (3, .pb 1003 0), (4, .pb 1004 0), (6, .pb 1006 0), (8, .t (.sl 4 ((Jb w e).map Ca))), (9, .t (.v (.int .i64 i))), (12, .t (.v (.int .i64 p.1)))], [(1002, some (.box [.h 1900, .t (.v (.int .i64 (bU x e.host (B4 (QA w e).body) ((Jb w e).getD i default)).now)), .t (.v (.int .i64 (bU x e.host (B4 (QA w e).body) ((Jb w e).getD i default)).marks)), .h 1901])), (1003, some (.box ((C2 e).map .t))), (1004, some (.box [.nil, .t (.v (.int .i64 0)), .t (.v (.int .i64 0)), .nil])), (1006, some (.box [.t (.v (.string e.mail.frm.user)), .t (.v (.string e.mail.frm.domain)), .t (.sl 2 (e.mail.to.map Ao)), .t (.sl 1 ((jO (w.marks + 1) :: e.mail.body).map AH))])), (1900, some (.arr false 7 ((bU x e.host (B4 (QA w e).body) ((Jb w e).getD i default)).hosts.map Al))), (1901, some (.arr true 3 (x.given.map A2 ++ (KS (B4 (QA w e).body) (((Jb w e).getD i default).to.take p.1)).map A2)))]⟩) (fun p => ((Jb w e).getD i default).to.length - p.1) ⟨0, Nat.zero_le _⟩ rfl ?_ ?_
     ·simp -implicitDefEqProofs only [go_sem, hh, seval]
      first | (simp [KS, bU]; done) | skip
     ·rintro ⟨j, hj⟩
      try dsimp only at hj
      have hlj : (KS (B4 (QA w e).body) (((Jb w e).getD i default).to.take j)).length = j := by rw [pj, List.length_take]; omega
      by_cases hjt : (j : Int) < ((Jb w e).getD i default).to.length
      ·simp -implicitDefEqProofs only [hjt, hlj, List.length_append, lm, eq_self, decide_true, decide_false, go_sem, hh, seval]
       with_reducible repeat' (first | apply ai | intro _ | ((first | apply s1 | apply s3 | apply s4) <;> intro hb <;> simp -implicitDefEqProofs only [hb, go_sem, hh, seval] <;> try simp only [qz] at hb))
       all_goals (try simp only [maxLen, tn, AU, AT, lm] at *)
       all_goals first | with_reducible rfl | omega | with_reducible assumption | (show _ = true; rfl) | contradiction | decide | (rename_i hm; rcases List.mem_append.1 hm with hm | hm <;> (obtain ⟨_, _, rfl⟩ := List.mem_map.1 hm; rfl)) | skip
       skip
       refine Ag (Le.renb 1002 3 1145 1901 rfl rfl rfl rfl) (Ab ?_)
       simp -implicitDefEqProofs only [go_sem, hh, seval]
       with_reducible repeat' (first | apply ai | intro _ | ((first | apply s1 | apply s3 | apply s4) <;> intro hb <;> simp -implicitDefEqProofs only [hb, go_sem, hh, seval] <;> try simp only [qz] at hb))
       all_goals first | with_reducible rfl | omega | with_reducible assumption | (show _ = true; rfl) | contradiction | decide | skip
       refine ⟨⟨j + 1, by omega⟩, by dsimp only; omega, ?_⟩
       simp -implicitDefEqProofs only [go_sem, hh, seval]
       simp only [pk (show j < ((Jb w e).getD i default).to.length by omega), List.append_assoc]
       first | (simp [QA]; done) | skip
      ·have htk : ((Jb w e).getD i default).to.take j = ((Jb w e).getD i default).to := List.take_of_length_le (by omega)
       simp -implicitDefEqProofs only [hjt, htk, eq_self, decide_true, decide_false, go_sem, hh, seval]
       with_reducible repeat' (first | apply ai | intro _ | ((first | apply s1 | apply s3 | apply s4) <;> intro hb <;> simp -implicitDefEqProofs only [hb, go_sem, hh, seval] <;> try simp only [qz] at hb))
       all_goals (try simp only [maxLen, tn, AU, AT, lm] at *)
       all_goals first | with_reducible rfl | omega | with_reducible assumption | (show _ = true; rfl) | contradiction | decide | skip
       refine ⟨⟨(i + 1, bU x e.host (B4 (QA w e).body) ((Jb w e).getD i default)), by dsimp only; omega, j8 hx hmk hy q.1 q.2, (ta (by omega) q).symm.trans hv⟩, by dsimp only; omega, ?_⟩
       simp -implicitDefEqProofs only [go_sem, hh, seval]
       first | (simp [bU]; done) | skip
    ·simp -implicitDefEqProofs only [hlt, Jl q, eq_self, decide_true, decide_false, go_sem, hh, seval]
     with_reducible repeat' (first | apply ai | intro _ | ((first | apply s1 | apply s3 | apply s4) <;> intro hb <;> simp -implicitDefEqProofs only [hb, go_sem, hh, seval] <;> try simp only [qz] at hb))
     all_goals (try simp only [maxLen, tn, AU, AT, lm] at *)
     all_goals first | with_reducible rfl | omega | with_reducible assumption | (show _ = true; rfl) | contradiction | decide | exact hxK.2.2.2 | skip
     refine ⟨⟨(i + 1, x), by dsimp only; omega, hx, (tZ (by omega) q).symm.trans hv⟩, by dsimp only; omega, ?_⟩
     simp -implicitDefEqProofs only [go_sem, hh, seval]
     first | (simp; done) | skip
   ·rw [tY (by omega)] at hv
    subst hv
    simp -implicitDefEqProofs only [hlt, eq_self, decide_true, decide_false, go_sem, hh, seval]
    with_reducible repeat' (first | apply ai | intro _ | ((first | apply s1 | apply s3 | apply s4) <;> intro hb <;> simp -implicitDefEqProofs only [hb, go_sem, hh, seval] <;> try simp only [qz] at hb))
    all_goals (try simp only [maxLen, tn, AU, AT] at *)
    all_goals first | with_reducible rfl | omega | with_reducible assumption | (show _ = true; rfl) | contradiction | decide | skip
 all_goals
  try rw [hx.1]
  simp -implicitDefEqProofs only [Tryz.f168, hx, eq_self, decide_true, decide_false, Int.reduceEq, go_sem, hh, seval]
  with_reducible repeat' (first | apply ai | intro _ | ((first | apply s1 | apply s3 | apply s4) <;> intro hb <;> simp -implicitDefEqProofs only [hb, go_sem, hh, seval] <;> try simp only [qz] at hb))
  all_goals (try simp only [maxLen, tn, lm] at *)
  all_goals first | rfl | omega | decide | with_reducible assumption | (show AX _ = true; rfl) | exact Hf (by assumption) | contradiction | (show _ = T.v _; rfl) | (show _ = List.map A2 _; rfl) | skip
end
theorem Rs (w : Wd) (e : Ev) : Fg (w.hosts.getD e.host.toNat default).conf ((w.hosts.getD e.host.toNat default).spool.items.getD (A5 (fun x : Im => x.id = e.id) 0 (w.hosts.getD e.host.toNat default).spool.items).toNat default) (w.hosts.getD e.to.toNat default).conf.name w.now = JD w e := rfl
theorem kI (w : Wd) (e : Ev) : GP (At w e.to) (At w e.host).conf.name (JD w e) e.cut = H2 w e := rfl
theorem tB {xs : List Ad} {i j : Nat} (h : xs.Nodup) (hi : i < j) (hj : j < xs.length) : ¬ xs.getD i default = xs.getD j default := by
 have z := List.pairwise_iff_getElem.1 h i j (by omega) hj hi
 simpa [hj, show i < xs.length by omega] using z
def cK : Mt := Gu (lc kZ (lc Nr.ag l0)) (fun p => G9 1000000 p.1 ∧ bK p.2.1) (fun p => ([.any, Nr.ag.enc p.2.1], .tup [G7 (bA p.1 p.2.1).1, .t (.v (.bool (bA p.1 p.2.1).2))]))
section
attribute [local go_sem] J5 cP rq ly rI Qh Rs kI aO CP Fl Fk G7.eq_1 GN.eq_1 AY BZ Ku lm List.length_set AS.opn AS.cls AS.nilb AS.renb AS.up Bool.not_false Bool.not_true List.set_set List.set_cons_zero List.set_cons_succ List.set_nil List.mem_singleton forall_eq tn List.map_nil List.nil_append
set_option maxHeartbeats 6400000 in
theorem eB {G : Gt} (hG : Ah G) (hh : G.e 69 = AA 0 J5 ∧ G.e 38 = AA 0 cP ∧ G.e 41 = AA 0 rq ∧ G.e 186 = AA 1 ly ∧ G.e 70 = AA 1 rI ∧ G.e 187 = AA 1 Qh) : Gd G 169 (AN cK) := by
 refine I5 (dp := fun n => !(Nat.beq n 100011)) (fn := Tryz.f169) (n := 2) rfl rfl hG ?_
 rintro ⟨w, e, ⟨⟩⟩ hpre
 obtain ⟨hw, hE, hc0, hc1⟩ := hpre
 try dsimp only at hw hE hc0 hc1 ⊢
 have hl := hw.2.1
 refine BH (0 ≤ e.host ∧ e.host ≤ (w.hosts.length : Int) - 1) (fun h0 => have h0' := Ak h0; BH (0 ≤ e.to ∧ e.to ≤ (w.hosts.length : Int) - 1) (fun h1 => have h1' := Ak h1; BH (e.host = e.to) (fun h2 => have hx := And.intro (MM (fun q => q.2.2.1 h2) : bA w e = _) (And.intro h0' (And.intro h1' h2)); ?_) (fun h2 => BH (Ax (At w e.host).spool e.id < 0) (fun h3 => have hx := And.intro (MM (fun q => q.2.2.2.1 h3) : bA w e = _) (And.intro h0' (And.intro h1' (And.intro h2 h3))); ?_) (fun h3 => BH (((JD w e).to.length : Int) = 0) (fun h4 => ?w1) (fun h4 => ?w2)))) (fun h1 => have h1' := AO h1; have hx := And.intro (MM (fun q => h1 q.2.1) : bA w e = _) (And.intro h0' h1'); ?_)) (fun h0 => have h0' := AO h0; have hx := And.intro (MM (fun q => h0 q.1) : bA w e = _) h0'; ?_)
 case w1 =>
  have hH := hw.1 _ (AE (xs := w.hosts) (j := e.host.toNat) (by omega))
  have i1 : 0 ≤ A5 (fun x : Im => x.id = e.id) 0 (At w e.host).spool.items ∧ A5 (fun x : Im => x.id = e.id) 0 (At w e.host).spool.items < (At w e.host).spool.items.length := by have := Bg h3; unfold Ax at this h3; omega
  have oa := EK hH.1 hH.2 (by decide)
  rw [MM (fun q => q.2.2.2.2 h4)]
  simp -implicitDefEqProofs only [Tryz.f169, h0', h1', h2, h3, h4, eq_self, decide_true, decide_false, Rs, go_sem, hh, seval]
  with_reducible repeat' (first | apply ai | intro _ | ((first | apply s1 | apply s3 | apply s4) <;> intro hb <;> simp -implicitDefEqProofs only [hb, go_sem, hh, seval] <;> try simp only [qz] at hb))
  all_goals (try simp only [maxLen, tn, AU, AT, lm] at *)
  all_goals first | rfl | omega | decide | with_reducible assumption | (show AX _ = true; rfl) | exact Hf (by assumption) | contradiction | exact i1.2 | exact i1.1 | (show _ = T.v _; rfl) | (show _ = List.map A2 _; rfl) | skip
 case w2 =>
  have hq : rO w e := ⟨h0, h1, h2, h3, h4⟩
  rw [kH hq]
  obtain ⟨a1, a2, b1, b2, hi, hd, hl4, ht⟩ := kJ hw hq
  have i1 : 0 ≤ A5 (fun x : Im => x.id = e.id) 0 (At w e.host).spool.items ∧ A5 (fun x : Im => x.id = e.id) 0 (At w e.host).spool.items < (At w e.host).spool.items.length := by have := Bg h3; unfold Ax at this h3; omega
  have hC : Nd (JD w e) := qJ hi
  have oa := EK a1 a2 (by decide)
  have ob := EK b1 b2 (by decide)
  have na := (DA a1.2.2.1.2.2.1).2
  have nb := (DA b1.2.2.1.2.2.1).2
  have na6 : (At w e.host).conf.name.size ≤ 1000 := by omega
  have nb6 : (At w e.to).conf.name.size ≤ 1000 := by omega
  have hw2 := hw.2.2.1
  have hno : (H2 w e).1.length = (JD w e).to.length := Wa (by omega) hC
  have hv1 : ∀ y ∈ (H2 w e).2, Ce y := az _ _ _ _
  have hvn : (H2 w e).2.length ≤ 300000000 := qt (by omega) hC (by omega)
  simp -implicitDefEqProofs only [Tryz.f169, h0', h1', h2, h3, h4, eq_self, decide_true, decide_false, Rs, kI, go_sem, hh, seval]
  with_reducible repeat' (first | apply ai | intro _ | ((first | apply s1 | apply s3 | apply s4) <;> intro hb <;> simp -implicitDefEqProofs only [hb, go_sem, hh, seval] <;> try simp only [qz] at hb))
  all_goals (try simp only [maxLen, tn, AU, AT, lm, List.length_cons] at *)
  all_goals first | with_reducible rfl | omega | with_reducible assumption | (show _ = true; rfl) | contradiction | decide | exact hC | exact i1.2 | exact i1.1 | skip
  refine Ag (Le.frzL [1069, 2069]) (Ab ?_)
  simp -implicitDefEqProofs only [go_sem, hh, seval]
  with_reducible repeat' (first | apply ai | intro _ | ((first | apply s1 | apply s3 | apply s4) <;> intro hb <;> simp -implicitDefEqProofs only [hb, go_sem, hh, seval] <;> try simp only [qz] at hb))
  all_goals (try simp only [maxLen, tn, AU, AT, lm, List.length_cons] at *)
  all_goals first | with_reducible rfl | omega | with_reducible assumption | (show _ = true; rfl) | contradiction | decide | exact hC | exact i1.2 | exact i1.1 | skip
  refine AF [] (ι := {p : Nat × Hs // p.1 ≤ (H2 w e).2.length ∧ FL p.2 ∧ FE 1000000 p.2 ∧ p.2.conf = (At w e.to).conf ∧ kD w.now ((H2 w e).2.drop p.1) p.2 = uw w e}) (fun p => ⟨[(2, .pb 1002 0), (3, .pb 1003 0), (4, .pb 1004 0), (6, .pb 1006 0), (7, .pb 1007 0), (9, .pb 1009 0), (10, .t (.sl 1 ((H2 w e).1.map A7))), (11, .t (.sl 4 ((H2 w e).2.map Ca))), (12, .t (.v (.int .i64 p.1.1)))], [(1002, some (.box [.h 1900, .t (.v (.int .i64 w.now)), .t (.v (.int .i64 w.marks)), .h 2900])), (1003, some (.box ((C2 e).map .t))), (1004, some (.box [.nil, .t (.v (.int .i64 0)), .t (.v (.int .i64 0)), .nil])), (1006, some (.box ((Al (At w e.host)).map .t))), (1007, some (.box ((Al p.1.2).map .t))), (1009, some (.box [.t (.v (.string (JD w e).frm.user)), .t (.v (.string (JD w e).frm.domain)), .t (.sl 2 ((JD w e).to.map Ao)), .t (.sl 1 ((JD w e).body.map AH))])), (1900, some (.arr false 7 (w.hosts.map Al))), (2900, some (.arr true 3 (w.given.map A2)))]⟩) (fun p => (H2 w e).2.length - p.1.1) ⟨(0, (At w e.to)), Nat.zero_le _, b1, b2, rfl, rfl⟩ rfl ?_ ?_
  ·simp -implicitDefEqProofs only [go_sem, hh, seval]
   first | (simp; done) | skip
  ·rintro ⟨⟨i, x⟩, hi1, hx1, hx2, hx3, hv⟩
   dsimp only at hi1 hx1 hx2 hx3 hv
   have xo := EK hx1 hx2 (by decide)
   have nx := (DA hx1.2.2.1.2.2.1).2
   have nx6 : x.conf.name.size ≤ 1000000 := by omega
   by_cases hlt : (i : Int) < (H2 w e).2.length
   ·have hy := hv1 _ (AE (xs := (H2 w e).2) (j := i) (by omega))
    have hyo : LE ((H2 w e).2.getD i default) := HE hy
    have zK := W1 hx1 hx2 hy hw2
    by_cases q : ((H2 w e).2.getD i default).body.length < 12 ∧ CG x.spool
    ·simp -implicitDefEqProofs only [hlt, Jm q, eq_self, decide_true, decide_false, go_sem, hh, seval]
     with_reducible repeat' (first | apply ai | intro _ | ((first | apply s1 | apply s3 | apply s4) <;> intro hb <;> simp -implicitDefEqProofs only [hb, go_sem, hh, seval] <;> try simp only [qz] at hb))
     all_goals (try simp only [maxLen, tn, AU, AT, lm] at *)
     all_goals first | with_reducible rfl | omega | with_reducible assumption | (show _ = true; rfl) | contradiction | decide | exact hx1.2.2.2 | skip
     refine ⟨⟨(i + 1, (LD x ((H2 w e).2.getD i default) w.now).1), by dsimp only; omega, zK.1, zK.2.1, zK.2.2.trans hx3, (kF (by omega)).symm.trans hv⟩, by dsimp only; omega, ?_⟩
     simp -implicitDefEqProofs only [Jm q, go_sem, hh, seval]
     first | (simp; done) | skip
    ·simp -implicitDefEqProofs only [hlt, Jl q, eq_self, decide_true, decide_false, go_sem, hh, seval]
     with_reducible repeat' (first | apply ai | intro _ | ((first | apply s1 | apply s3 | apply s4) <;> intro hb <;> simp -implicitDefEqProofs only [hb, go_sem, hh, seval] <;> try simp only [qz] at hb))
     all_goals (try simp only [maxLen, tn, AU, AT, lm] at *)
     all_goals first | with_reducible rfl | omega | with_reducible assumption | (show _ = true; rfl) | contradiction | decide | exact hx1.2.2.2 | skip
     refine ⟨⟨(i + 1, (LD x ((H2 w e).2.getD i default) w.now).1), by dsimp only; omega, zK.1, zK.2.1, zK.2.2.trans hx3, (kF (by omega)).symm.trans hv⟩, by dsimp only; omega, ?_⟩
     simp -implicitDefEqProofs only [Jl q, go_sem, hh, seval]
     first | (simp; done) | skip
   ·rw [tx (by omega)] at hv
    subst hv
    simp -implicitDefEqProofs only [hlt, eq_self, decide_true, decide_false, go_sem, hh, seval]
    with_reducible repeat' (first | apply ai | intro _ | ((first | apply s1 | apply s3 | apply s4) <;> intro hb <;> simp -implicitDefEqProofs only [hb, go_sem, hh, seval] <;> try simp only [qz] at hb))
    all_goals (try simp only [maxLen, tn, AU, AT, lm] at *)
    all_goals first | with_reducible rfl | omega | with_reducible assumption | (show _ = true; rfl) | contradiction | decide | skip
    refine AF [] (ι := {p : Nat × Hs // p.1 ≤ (H2 w e).1.length ∧ FL p.2 ∧ FE (1000000 + p.1) p.2 ∧ p.2.conf = (At w e.host).conf ∧ (∀ j, p.1 ≤ j → j < (JD w e).to.length → Ch p.2.spool e.id ((JD w e).to.getD j default)) ∧ (e.lose = true → p.2 = (At w e.host)) ∧ gQ e.id w.now ((JD w e).to.drop p.1) ((H2 w e).1.drop p.1) p.2 = gQ e.id w.now (JD w e).to (H2 w e).1 (At w e.host)}) (fun p => ⟨[(2, .pb 1002 0), (3, .pb 1003 0), (4, .pb 1004 0), (6, .pb 1006 0), (9, .pb 1009 0), (10, .t (.sl 1 ((H2 w e).1.map A7))), (15, .t (.v (.int .i64 p.1.1)))], [(1002, some (.box [.h 1900, .t (.v (.int .i64 w.now)), .t (.v (.int .i64 w.marks)), .h 2900])), (1003, some (.box ((C2 e).map .t))), (1004, some (.box [.nil, .t (.v (.int .i64 0)), .t (.v (.int .i64 0)), .nil])), (1006, some (.box ((Al p.1.2).map .t))), (1009, some (.box [.t (.v (.string (JD w e).frm.user)), .t (.v (.string (JD w e).frm.domain)), .t (.sl 2 ((JD w e).to.map Ao)), .t (.sl 1 ((JD w e).body.map AH))])), (1900, some (.arr false 7 ((w.hosts.set e.to.toNat (uw w e)).map Al))), (2900, some (.arr true 3 (w.given.map A2)))]⟩) (fun p => (H2 w e).1.length - p.1.1) ⟨(0, (At w e.host)), Nat.zero_le _, a1, a2, rfl, fun j _ hj => ht _ (AE hj), fun _ => rfl, rfl⟩ rfl ?_ ?_
    ·simp -implicitDefEqProofs only [go_sem, hh, seval]
     first | (simp; done) | skip
    ·rintro ⟨⟨k, y⟩, hk, y1, y2, y3, y4, y5, hv⟩
     dsimp only at hk y1 y2 y3 y4 y5 hv
     have yo := EK y1 y2 (by omega)
     have ysp := y1.2.2.2
     by_cases hex : k < (H2 w e).1.length ∧ e.lose = false
     ·obtain ⟨hk1, hk2⟩ := hex
      have hk3 : (k : Int) < (H2 w e).1.length := by omega
      have htd := y4 k (Nat.le_refl _) (by omega)
      have z := Z8 (out := (H2 w e).1.getD k default) y1 y2 htd hw2
      simp -implicitDefEqProofs only [hk3, hk2, Bool.not_false, eq_self, decide_true, decide_false, go_sem, hh, seval]
      with_reducible repeat' (first | apply ai | intro _ | ((first | apply s1 | apply s3 | apply s4) <;> intro hb <;> simp -implicitDefEqProofs only [hb, go_sem, hh, seval] <;> try simp only [qz] at hb))
      all_goals (try simp only [maxLen, tn, AU, AT, lm] at *)
      all_goals first | with_reducible rfl | omega | with_reducible assumption | (show _ = true; rfl) | contradiction | decide | exact yo.2.1 | exact htd.1 | exact htd.2 | exact .inr ⟨yo, hw2⟩ | (rw [hk2]; done) | skip
      refine ⟨⟨(k + 1, IS y e.id ((JD w e).to.getD k default) ((H2 w e).1.getD k default) w.now), by dsimp only; omega, z.1, z.2.1, z.2.2.1.trans y3, fun j hj hj2 => z.2.2.2 _ (y4 j (by dsimp only at hj; omega) hj2) (fun u => tB hd (by dsimp only at hj; omega) hj2 u), fun u => (by rw [hk2] at u; cases u), (t4 (by omega) hk1).symm.trans hv⟩, by dsimp only; omega, ?_⟩
      simp -implicitDefEqProofs only [go_sem, hh, seval]
      first | (simp only [IS]; simp [hk2]; done) | (simp only [IS, hk2]; simp; done) | skip
     ·have hA : rN w e = y := by
        unfold rN
        cases hlo : e.lose
        ·rw [tz (Nat.le_of_not_lt fun u => hex ⟨u, hlo⟩)] at hv
         exact hv.symm
        ·exact (y5 hlo).symm
      have hR : uv w e = ⟨(w.hosts.set e.to.toNat (uw w e)).set e.host.toNat y, w.now, w.marks, w.given⟩ := by unfold uv; rw [hA]; rfl
      rw [hR]
      simp -implicitDefEqProofs only [List.length_set, eq_self, decide_true, decide_false, go_sem, hh, seval]
      with_reducible repeat' (first | apply ai | intro _ | ((first | apply s1 | apply s3 | apply s4) <;> intro hb <;> simp -implicitDefEqProofs only [hb, go_sem, hh, seval] <;> try simp only [qz] at hb))
      all_goals (try simp only [maxLen, tn, AU, AT, lm] at *)
      all_goals first | with_reducible rfl | omega | with_reducible assumption | (show _ = true; rfl) | contradiction | decide | exact absurd ⟨by omega, by assumption⟩ hex | skip
 all_goals
  try rw [hx.1]
  simp -implicitDefEqProofs only [Tryz.f169, hx, eq_self, decide_true, decide_false, Int.reduceEq, go_sem, hh, seval]
  with_reducible repeat' (first | apply ai | intro _ | ((first | apply s1 | apply s3 | apply s4) <;> intro hb <;> simp -implicitDefEqProofs only [hb, go_sem, hh, seval] <;> try simp only [qz] at hb))
  all_goals (try simp only [maxLen, tn, lm] at *)
  all_goals first | rfl | omega | decide | with_reducible assumption | (show AX _ = true; rfl) | exact Hf (by assumption) | contradiction | (show _ = T.v _; rfl) | (show _ = List.map A2 _; rfl) | skip
end
theorem J0 {d k : Nat} {xs : List AV} {s : AS} : Dl d (.agg xs) .any k s = (s, k) := rfl
theorem IB {xs : List AV} : BK (.agg xs) .any = [] := rfl
noncomputable def wQ (w : Wd) (k : Int) : Wd := WN w k (EG (At w k).conf w.now (At w k).spool.items (At w k))
def wS (w : Wd) (n : Int) : Wd := ⟨w.hosts, w.now + n, w.marks, w.given⟩
open Classical in
noncomputable def EQ (w : Wd) (e : Ev) : Wd × Bool :=
 if e.kind = 1 then WU w e
 else if e.kind = 2 then bA w e
 else if e.kind = 3 then KH w e
 else if e.kind = 4 then (if 0 ≤ e.host ∧ e.host ≤ (w.hosts.length : Int) - 1 then (wQ w e.host, true) else (w, false))
 else if e.kind = 5 then (if (1 ≤ e.id ∧ e.id ≤ 40) ∧ ¬ w.now + e.id > 9999 then (wS w e.id, true) else (w, false))
 else (w, false)
section
variable {w : Wd} {e : Ev}
theorem sH (h : e.kind = 1) : EQ w e = WU w e := if_pos h
theorem sI (h : e.kind = 2) : EQ w e = bA w e := by unfold EQ; rw [if_neg (by omega), if_pos h]
theorem sJ (h : e.kind = 3) : EQ w e = KH w e := by unfold EQ; rw [if_neg (by omega), if_neg (by omega), if_pos h]
theorem sK (h : e.kind = 4) (q : 0 ≤ e.host ∧ e.host ≤ (w.hosts.length : Int) - 1) : EQ w e = (wQ w e.host, true) := by unfold EQ; rw [if_neg (by omega), if_neg (by omega), if_neg (by omega), if_pos h, if_pos q]
theorem nU (h : e.kind = 4) (q : ¬ (0 ≤ e.host ∧ e.host ≤ (w.hosts.length : Int) - 1)) : EQ w e = (w, false) := by unfold EQ; rw [if_neg (by omega), if_neg (by omega), if_neg (by omega), if_pos h, if_neg q]
theorem sL (h : e.kind = 5) (q : (1 ≤ e.id ∧ e.id ≤ 40) ∧ ¬ w.now + e.id > 9999) : EQ w e = (wS w e.id, true) := by unfold EQ; rw [if_neg (by omega), if_neg (by omega), if_neg (by omega), if_neg (by omega), if_pos h, if_pos q]
theorem Ya (h : e.kind = 5) (q : ¬ ((1 ≤ e.id ∧ e.id ≤ 40) ∧ ¬ w.now + e.id > 9999)) : EQ w e = (w, false) := by unfold EQ; rw [if_neg (by omega), if_neg (by omega), if_neg (by omega), if_neg (by omega), if_pos h, if_neg q]
theorem sG (h : ¬ e.kind = 1 ∧ ¬ e.kind = 2 ∧ ¬ e.kind = 3 ∧ ¬ e.kind = 4 ∧ ¬ e.kind = 5) : EQ w e = (w, false) := by unfold EQ; rw [if_neg h.1, if_neg h.2.1, if_neg h.2.2.1, if_neg h.2.2.2.1, if_neg h.2.2.2.2]
end
theorem Yb {N : Nat} {w : Wd} {e : Ev} (q : G9 N w) (hN : N ≤ 1000000) : G9 (N + 40) (EQ w e).1 := by
 have hl := q.2.1
 unfold EQ
 split
 ·exact te q
 ·split
  ·exact A9 (t5 q) (by omega)
  ·split
   ·exact A9 (n7 q) (by omega)
   ·split
    ·split
     ·rename_i h
      have hH := q.1 _ (AE (xs := w.hosts) (j := e.host.toNat) (by omega))
      have z := ph (w := w.now) hH.1 hH.2 (by omega)
      exact NT (A9 q (by omega)) z.1 z.2
     ·exact A9 q (by omega)
    ·split
     ·split
      ·rename_i h
       refine A9 (N := N) ⟨q.1, q.2.1, ?_, q.2.2.2⟩ (by omega)
       have := q.2.2.1
       show 0 ≤ w.now + e.id ∧ w.now + e.id ≤ 9999
       omega
      ·exact A9 q (by omega)
     ·exact A9 q (by omega)
def Xl : Mt := nE [[], [none, none, none, none, none, none, none, none, some 2, some 1]] (lc kZ (lc Nr.ag l0)) (fun p => G9 1000000 p.1 ∧ bK p.2.1) (fun p => ([.any, Nr.ag.enc p.2.1], .tup [G7 (EQ p.1 p.2.1).1, .t (.v (.bool (EQ p.1 p.2.1).2))]))
def rn : Mt := Gu (lc kZ (lc Nr.ag l0)) (fun p => G9 1000000 p.1 ∧ bK p.2.1) (fun p => ([.any, Nr.ag.enc p.2.1], .tup [G7 (EQ p.1 p.2.1).1, .t (.v (.bool (EQ p.1 p.2.1).2))]))
section
attribute [local go_sem] cJ cK cL cM J5 J0 IB List.append_assoc List.nil_append CP Fl Fk G7.eq_1 GN.eq_1 AY BZ Ku lm AS.opn AS.cls AS.nilb AS.renb AS.up Bool.not_false Bool.not_true List.set_set List.set_cons_zero List.set_cons_succ List.set_nil List.mem_singleton forall_eq tn List.map_nil
set_option maxHeartbeats 6400000 in
theorem pZ {G : Gt} (hG : Ah G) (hh : G.e 168 = AN cJ ∧ G.e 169 = AN cK ∧ G.e 170 = AN cL ∧ G.e 171 = AA 1 cM ∧ G.e 69 = AA 0 J5) : Gd G 141 (AN rn) := by
 refine I5 (dp := fun _ => true) (fn := Tryz.f141) (n := 2) rfl rfl hG ?_
 rintro ⟨w, e, ⟨⟩⟩ hpre
 obtain ⟨hw, hE⟩ := hpre
 try dsimp only at hw hE ⊢
 have hl := hw.2.1
 refine BH (e.kind = 1) (fun k1 => have k1' := decide_eq_true k1; have hx := And.intro (sH k1 : EQ w e = _) k1'; ?_) (fun k1 => have k1' := decide_eq_false k1; BH (e.kind = 2) (fun k2 => have k2' := decide_eq_true k2; have hx := And.intro (sI k2 : EQ w e = _) (And.intro k1' k2'); ?_) (fun k2 => have k2' := decide_eq_false k2; BH (e.kind = 3) (fun k3 => have k3' := decide_eq_true k3; have hx := And.intro (sJ k3 : EQ w e = _) (And.intro k1' (And.intro k2' k3')); ?_) (fun k3 => have k3' := decide_eq_false k3; BH (e.kind = 4) (fun k4 => have k4' := decide_eq_true k4; BH (0 ≤ e.host ∧ e.host ≤ (w.hosts.length : Int) - 1) (fun h2 => have h2' := Ak h2; ?w1) (fun h2 => have h2' := AO h2; have hx := And.intro (nU k4 h2 : EQ w e = _) (And.intro k1' (And.intro k2' (And.intro k3' (And.intro k4' h2')))); ?_)) (fun k4 => have k4' := decide_eq_false k4; BH (e.kind = 5) (fun k5 => have k5' := decide_eq_true k5; BH (1 ≤ e.id ∧ e.id ≤ 40) (fun h2 => have h2' := Ak h2; ?w2) (fun h2 => have h2' := AO h2; have hx := And.intro (Ya k5 (fun q => h2 q.1) : EQ w e = _) (And.intro k1' (And.intro k2' (And.intro k3' (And.intro k4' (And.intro k5' h2'))))); ?_)) (fun k5 => have k5' := decide_eq_false k5; have hx := And.intro (sG ⟨k1, k2, k3, k4, k5⟩ : EQ w e = _) (And.intro k1' (And.intro k2' (And.intro k3' (And.intro k4' k5')))); ?_)))))
 case w1 =>
  have hH := hw.1 _ (AE (xs := w.hosts) (j := e.host.toNat) (by omega))
  have oa := EK hH.1 hH.2 (by decide)
  have hs := Es.2 hH.1
  rw [sK k4 h2]
  simp -implicitDefEqProofs only [Tryz.f141, k1', k2', k3', k4', h2', eq_self, decide_true, decide_false, Int.reduceEq, go_sem, hh, seval]
  with_reducible repeat' (first | apply ai | intro _ | ((first | apply s1 | apply s3 | apply s4) <;> intro hb <;> simp -implicitDefEqProofs only [hb, go_sem, hh, seval] <;> try simp only [qz] at hb))
  all_goals (try simp only [maxLen, tn, AU, AT] at *)
  all_goals first | rfl | omega | decide | with_reducible assumption | (show AX _ = true; rfl) | exact Hf (by assumption) | contradiction | (show _ = T.v _; rfl) | (show _ = List.map A2 _; rfl) | (show _ = List.map Al _; rfl) | skip
 case w2 =>
  have hnw := hw.2.2.1
  by_cases h3 : w.now + e.id > 9999
  ·rw [Ya k5 (fun q => q.2 h3)]
   simp -implicitDefEqProofs only [Tryz.f141, h3, k1', k2', k3', k4', k5', h2', eq_self, decide_true, decide_false, Int.reduceEq, go_sem, hh, seval]
   with_reducible repeat' (first | apply ai | intro _ | ((first | apply s1 | apply s3 | apply s4) <;> intro hb <;> simp -implicitDefEqProofs only [hb, go_sem, hh, seval] <;> try simp only [qz] at hb))
   all_goals (try simp only [maxLen, tn, AU, AT] at *)
   all_goals first | rfl | omega | decide | with_reducible assumption | (show AX _ = true; rfl) | exact Hf (by assumption) | contradiction | (show _ = T.v _; rfl) | (show _ = List.map A2 _; rfl) | skip
  ·rw [sL k5 ⟨h2, h3⟩]
   simp -implicitDefEqProofs only [Tryz.f141, h3, k1', k2', k3', k4', k5', h2', eq_self, decide_true, decide_false, Int.reduceEq, go_sem, hh, seval]
   with_reducible repeat' (first | apply ai | intro _ | ((first | apply s1 | apply s3 | apply s4) <;> intro hb <;> simp -implicitDefEqProofs only [hb, go_sem, hh, seval] <;> try simp only [qz] at hb))
   all_goals (try simp only [maxLen, tn, AU, AT] at *)
   all_goals first | rfl | omega | decide | with_reducible assumption | (show AX _ = true; rfl) | exact Hf (by assumption) | contradiction | (show _ = T.v _; rfl) | (show _ = List.map A2 _; rfl) | (show _ = List.map Al _; rfl) | skip
 all_goals
  try rw [hx.1]
  simp -implicitDefEqProofs only [Tryz.f141, hx, eq_self, decide_true, decide_false, Int.reduceEq, go_sem, hh, seval]
  with_reducible repeat' (first | apply ai | intro _ | ((first | apply s1 | apply s3 | apply s4) <;> intro hb <;> simp -implicitDefEqProofs only [hb, go_sem, hh, seval] <;> try simp only [qz] at hb))
  all_goals (try simp only [maxLen, tn, lm] at *)
  all_goals first | rfl | omega | decide | with_reducible assumption | (show AX _ = true; rfl) | exact Hf (by assumption) | contradiction | (show _ = T.v _; rfl) | (show _ = List.map A2 _; rfl) | skip
end
theorem dk {G : Gt} (hG : Ah G) (hh : G.e 168 = AN cJ ∧ G.e 169 = AN cK ∧ G.e 170 = AN cL ∧ G.e 171 = AA 1 cM ∧ G.e 69 = AA 0 J5) : Gd G 141 (AN Xl) := HC.ofMz (fun _ => rfl) (pZ hG hh)
def QC (cs : List Cf) : Prop := HG Gf cs ∧ (∀ c ∈ cs, GF c) ∧ kh (FI cs)
theorem QD {cs : List Cf} (h : QC cs) : G9 0 (FI cs) := by
 have hl : (FI cs).hosts.length = cs.length := lm _
 have h4 := h.2.2.2.2.2.1
 refine ⟨fun x hx => ?_, ⟨by omega, by omega⟩, ⟨Int.le_refl _, by show (0 : Int) ≤ 9999; decide⟩, ⟨Int.le_refl _, by show (0 : Int) ≤ 60; decide⟩, Nat.le_refl _, fun _ q => by cases q⟩
 obtain ⟨c, hc, rfl⟩ := List.mem_map.1 hx
 exact UT (h.2.1 c hc)
def Xn : Ct := Aq (lc H3.asl l0) (fun p => QC p.1) (fun p => G7 (FI p.1))
section
attribute [local go_sem] r7 Xj ug G7.eq_1 CP AU AT lm List.length_append List.length_cons List.length_nil List.map_append List.map_nil Nat.zero_add AY AS.opn AS.cls AS.nilb AS.renb AS.up Bool.not_false Bool.not_true List.set_set List.set_cons_zero List.set_cons_succ List.set_nil List.mem_singleton forall_eq tn List.nil_append
set_option maxHeartbeats 3200000 in
theorem d7 {G : Gt} (hG : Ah G) (hh : G.e 86 = AA 0 r7 ∧ G.e 117 = AA 0 Xj ∧ G.e 57 = AA 0 ug) : Gd G 165 (AA 1 Xn) := by
 refine Nh (dp := fun n => !(Nat.beq n 100002 || Nat.beq n 100004 || Nat.beq n 27 || Nat.beq n 28)) (fn := Tryz.f165) (n := 1) rfl rfl hG ?_
 rintro ⟨cs, ⟨⟩⟩ hpre
 have hok : HG Gf cs := hpre.1
 have hcs := hpre.2.1
 have hwd := hpre.2.2
 have hmx := hok.1
 have b8 := Ak hwd
 simp -implicitDefEqProofs only [Tryz.f165, go_sem, hh, seval]
 with_reducible repeat' (first | apply ai | intro _ | ((first | apply s1 | apply s3 | apply s4) <;> intro hb <;> simp -implicitDefEqProofs only [hb, go_sem, hh, seval] <;> try simp only [qz] at hb))
 all_goals first | with_reducible rfl | omega | with_reducible assumption | (show _ = true; rfl) | contradiction | decide | skip
 refine Ag (Le.nilb 1003 0 1901 false 7 rfl rfl rfl) ?_
 simp -implicitDefEqProofs only [go_sem, hh, seval]
 refine Ag (Le.nilb 1003 3 1902 true 3 rfl rfl rfl) (Ab ?_)
 simp -implicitDefEqProofs only [go_sem, hh, seval]
 with_reducible repeat' (first | apply ai | intro _ | ((first | apply s1 | apply s3 | apply s4) <;> intro hb <;> simp -implicitDefEqProofs only [hb, go_sem, hh, seval] <;> try simp only [qz] at hb))
 all_goals first | with_reducible rfl | omega | with_reducible assumption | (show _ = true; rfl) | contradiction | decide | skip
 refine AF [] (ι := {i : Nat // i ≤ cs.length}) (fun p => ⟨[(0, .t (.sl 3 (cs.map DK))), (2, .pb 1002 0), (3, .pb 1003 0), (4, .t (.v (.int .i64 p.1)))], [(1002, some (.box [.nil, .t (.v (.int .i64 0)), .t (.v (.int .i64 0)), .nil])), (1003, some (.box [.h 1901, .t (.v (.int .i64 0)), .t (.v (.int .i64 0)), .h 1902])), (1902, some (.arr true 3 [])), (1901, some (.arr false 7 (((cs.map EH).take p.1).map Al)))]⟩) (fun p => cs.length - p.1) ⟨0, by simp⟩ rfl ?_ ?_
 ·simp -implicitDefEqProofs only [go_sem, hh, seval]
  first | (simp; done) | skip
 ·rintro ⟨i, hi⟩
  try dsimp only at hi
  have hlen : ((cs.map EH).take i).length = i := by simp; omega
  by_cases hlt : (i : Int) < cs.length
  ·have hc := hok.at (i := i) (by omega)
   have b7 := Ak (hcs _ (AE (xs := cs) (j := i) (by omega)))
   simp -implicitDefEqProofs only [hlt, b7, decide_true, tn, go_sem, hh, seval]
   with_reducible repeat' (first | apply ai | intro _ | ((first | apply s1 | apply s3 | apply s4) <;> intro hb <;> simp -implicitDefEqProofs only [hb, go_sem, hh, seval] <;> try simp only [qz] at hb))
   all_goals (try simp only [maxLen, tn] at *)
   all_goals first | with_reducible rfl | omega | with_reducible assumption | (show _ = true; rfl) | contradiction | decide | skip
   refine Ag (Le.lastR 1028 rfl (.cons (.same _) (.cons (.same _) (.cons (.same _) (.cons (.same _) (.cons (.nil 5) (.cons (.nil 3) (.cons (.nil 3) .nil)))))))) ?_
   simp -implicitDefEqProofs only [go_sem, hh, seval]
   refine Ag (Le.renb 1003 0 1028 1901 rfl rfl rfl rfl) (Ab ?_)
   simp -implicitDefEqProofs only [go_sem, hh, seval]
   with_reducible repeat' (first | apply ai | intro _ | ((first | apply s1 | apply s3 | apply s4) <;> intro hb <;> simp -implicitDefEqProofs only [hb, go_sem, hh, seval] <;> try simp only [qz] at hb))
   all_goals first | with_reducible rfl | omega | with_reducible assumption | (show _ = true; rfl) | contradiction | decide | skip
   refine ⟨⟨i + 1, by omega⟩, by dsimp only; omega, ?_⟩
   simp -implicitDefEqProofs only [go_sem, hh, seval]
   simp only [aq (f := EH) (show i < cs.length by omega)]
   with_reducible repeat' (first | apply ai | intro _ | ((first | apply s1 | apply s3 | apply s4) <;> intro hb <;> simp -implicitDefEqProofs only [hb, go_sem, hh, seval] <;> try simp only [qz] at hb))
   all_goals first | rfl | (simp; done) | skip
  ·have htk : (cs.map EH).take i = cs.map EH := List.take_of_length_le (by rw [lm]; omega)
   have hnw : (⟨cs.map EH, 0, 0, []⟩ : Wd) = FI cs := rfl
   simp -implicitDefEqProofs only [hlt, decide_false, htk, hnw, b8, go_sem, hh, seval]
   with_reducible repeat' (first | apply ai | intro _ | ((first | apply s1 | apply s3 | apply s4) <;> intro hb <;> simp -implicitDefEqProofs only [hb, go_sem, hh, seval] <;> try simp only [qz] at hb))
   all_goals (try simp only [maxLen, tn] at *)
   all_goals first | with_reducible rfl | omega | with_reducible assumption | (show _ = true; rfl) | contradiction | decide | rfl | exact absurd hwd (by assumption) | skip
end
noncomputable def qK : List Ev → Wd → Wd
 | [], w => w
 | e :: t, w => qK t (EQ w e).1
theorem js : ∀ (es : List Ev) {w : Wd} {N : Nat}, G9 N w → N + 40 * es.length ≤ 1000000 → G9 (N + 40 * es.length) (qK es w)
 | [], w, N, q, _ => q
 | e :: t, w, N, q, h => by
   rw [List.length_cons] at h ⊢
   have z := js t (Yb (e := e) q (by omega)) (by omega)
   have e2 : N + 40 * (t.length + 1) = N + 40 + 40 * t.length := by omega
   rw [e2]; exact z
theorem tR {es : List Ev} {i : Nat} {w : Wd} (h : i < es.length) : qK (es.drop i) w = qK (es.drop (i + 1)) (EQ w (es.getD i default)).1 := by rw [Ae h]; rfl
noncomputable def tS (cs : List Cf) (es : List Ev) : Wd := qK (es.take 40) (FI cs)
theorem tT {cs : List Cf} (h : QC cs) (es : List Ev) : G9 1600 (tS cs es) := by
 have hl : (es.take 40).length ≤ 40 := by rw [List.length_take]; omega
 exact A9 (js (es.take 40) (QD h) (by omega)) (by omega)
theorem NW (w : Wd) : G7 w = .agg [.o false 7 (w.hosts.map Al), .t (.v (.int .i64 w.now)), .t (.v (.int .i64 w.marks)), .o true 3 (w.given.map A2)] := rfl
def lS : Ct := Aq (lc H3.asl (lc Nr.asl l0)) (fun p => QC p.1 ∧ (∀ e ∈ p.2.1, bK e) ∧ p.2.1.length ≤ 1000000) (fun p => G7 (tS p.1 p.2.1))
section
attribute [local go_sem] Xn Xl Tk UX Zu Zo Zt Zs UW jj UG UH jS NW J0 IB Fl Fk CP lm AY GN.eq_1 AS.opn AS.cls AS.nilb AS.renb AS.up Bool.not_false Bool.not_true List.set_set List.set_cons_zero List.set_cons_succ List.set_nil List.mem_singleton forall_eq tn List.map_nil List.nil_append
set_option maxHeartbeats 3200000 in
theorem di {G : Gt} (hG : Ah G) (hh : G.e 165 = AA 1 Xn ∧ G.e 141 = AN Xl) : Gd G 139 (AA 1 lS) := by
 refine Nh (dp := fun n => !(Nat.beq n 100002 || Nat.beq n 100004)) (fn := Tryz.f139) (n := 2) rfl rfl hG ?_
 rintro ⟨cs, es, ⟨⟩⟩ hpre
 obtain ⟨hc, he, hel⟩ := hpre
 try dsimp only at hc he hel ⊢
 have hl40 : (es.take 40).length ≤ 40 := by rw [List.length_take]; omega
 have hle : (es.take 40).length ≤ es.length := by rw [List.length_take]; omega
 simp -implicitDefEqProofs only [Tryz.f139, go_sem, hh, seval]
 with_reducible repeat' (first | apply ai | intro _ | ((first | apply s1 | apply s3 | apply s4) <;> intro hb <;> simp -implicitDefEqProofs only [hb, go_sem, hh, seval] <;> try simp only [qz] at hb))
 all_goals first | with_reducible rfl | omega | with_reducible assumption | (show _ = true; rfl) | contradiction | decide | skip
 refine Ag (Le.renb 1005 0 1010 1901 rfl rfl rfl rfl) ?_
 simp -implicitDefEqProofs only [go_sem, hh, seval]
 refine Ag (Le.renb 1005 3 2010 1902 rfl rfl rfl rfl) (Ab ?_)
 simp -implicitDefEqProofs only [go_sem, hh, seval]
 with_reducible repeat' (first | apply ai | intro _ | ((first | apply s1 | apply s3 | apply s4) <;> intro hb <;> simp -implicitDefEqProofs only [hb, go_sem, hh, seval] <;> try simp only [qz] at hb))
 all_goals first | with_reducible rfl | omega | with_reducible assumption | (show _ = true; rfl) | contradiction | decide | skip
 refine AF [] (ι := {p : Nat × Wd // p.1 ≤ (es.take 40).length ∧ G9 (40 * p.1) p.2 ∧ qK ((es.take 40).drop p.1) p.2 = tS cs es}) (fun p => ⟨[(1, .t (.sl 10 (es.map C2))), (4, .pb 1004 0), (5, .pb 1005 0), (6, .t (.v (.int .i64 p.1.1)))], [(1004, some (.box [.nil, .t (.v (.int .i64 0)), .t (.v (.int .i64 0)), .nil])), (1005, some (.box [.h 1901, .t (.v (.int .i64 p.1.2.now)), .t (.v (.int .i64 p.1.2.marks)), .h 1902])), (1901, some (.arr false 7 (p.1.2.hosts.map Al))), (1902, some (.arr true 3 (p.1.2.given.map A2)))]⟩) (fun p => (es.take 40).length - p.1.1) ⟨(0, FI cs), Nat.zero_le _, QD hc, rfl⟩ rfl ?_ ?_
 ·simp -implicitDefEqProofs only [go_sem, hh, seval]
  first | (simp; done) | skip
 ·rintro ⟨⟨i, x⟩, hi, hx, hv⟩
  dsimp only at hi hx hv
  have hxl := hx.2.1
  have hlm : (es.take 40).length = min 40 es.length := List.length_take
  by_cases hlt : i < (es.take 40).length
  ·have hi1 : (i : Int) < es.length := by omega
   have hi2 : (i : Int) < 40 := by omega
   have hi3 : ((x.hosts.length : Nat) : Int) > 0 := by omega
   have hE := he _ (AE (xs := es) (j := i) (by omega))
   have hg : (es.take 40).getD i default = es.getD i default := by simp [List.getD_eq_getElem?_getD, List.getElem?_take, show i < 40 by omega]
   simp -implicitDefEqProofs only [hi1, hi2, hi3, eq_self, decide_true, decide_false, go_sem, hh, seval]
   with_reducible repeat' (first | apply ai | intro _ | ((first | apply s1 | apply s3 | apply s4) <;> intro hb <;> simp -implicitDefEqProofs only [hb, go_sem, hh, seval] <;> try simp only [qz] at hb))
   all_goals (try simp only [maxLen, tn] at *)
   all_goals first | with_reducible rfl | omega | with_reducible assumption | (show _ = true; rfl) | contradiction | decide | exact A9 hx (by omega) | exact ⟨A9 hx (by omega), hE⟩ | skip
   refine Ag (Le.renb 1005 0 1033 1901 rfl rfl rfl rfl) ?_
   simp -implicitDefEqProofs only [go_sem, hh, seval]
   refine Ag (Le.renb 1005 3 2033 1902 rfl rfl rfl rfl) (Ab ?_)
   simp -implicitDefEqProofs only [go_sem, hh, seval]
   with_reducible repeat' (first | apply ai | intro _ | ((first | apply s1 | apply s3 | apply s4) <;> intro hb <;> simp -implicitDefEqProofs only [hb, go_sem, hh, seval] <;> try simp only [qz] at hb))
   all_goals first | with_reducible rfl | omega | with_reducible assumption | (show _ = true; rfl) | contradiction | decide | skip
   refine ⟨⟨(i + 1, (EQ x (es.getD i default)).1), by dsimp only; omega, by dsimp only; rw [Nat.mul_succ]; exact Yb hx (by omega), by rw [← hg]; exact (tR hlt).symm.trans hv⟩, by dsimp only; omega, ?_⟩
   simp -implicitDefEqProofs only [go_sem, hh, seval]
   first | (simp; done) | skip
  ·rw [List.drop_of_length_le (by omega), qK] at hv
   subst hv
   simp -implicitDefEqProofs only [go_sem, hh, seval]
   with_reducible repeat' (first | apply ai | intro _ | ((first | apply s1 | apply s3 | apply s4) <;> intro hb <;> simp -implicitDefEqProofs only [hb, go_sem, hh, seval] <;> try simp only [qz] at hb))
   all_goals (try simp only [maxLen, tn] at *)
   all_goals first | with_reducible rfl | omega | with_reducible assumption | (show _ = true; rfl) | contradiction | decide | exact absurd (by omega) hlt | skip
end
def LL (w : Wd) (h n : Int) (q : Rd) : Ev × Rd :=
 if Ac q 9 = 0 ∨ Ac q 9 = 1 then (⟨1, h, 0, 0, Gb (q.nx 1) [40, 40, 12, 17, 18], false, Zf (q.nx 2)⟩, PQ (q.nx 2))
 else if Ac q 9 = 2 ∨ Ac q 9 = 3 ∨ Ac q 9 = 4 then (⟨2, h, Ac (q.nx 1) w.hosts.length, n, Gb (q.nx 2) [40, 40, 40, 3, 9, 13, 14, 15, 16, 17, 18], decide (Ac (q.nx 3) 6 = 0), WC⟩, q.nx 4)
 else if Ac q 9 = 5 then (⟨3, h, 0, n, 0, decide (Ac (q.nx 1) 2 = 0), WC⟩, q.nx 2)
 else if Ac q 9 = 6 then (⟨4, h, 0, 0, 0, false, WC⟩, q.nx 1)
 else if Ac q 9 = 7 then (⟨Gb (q.nx 1) [0, 6, 5], 0, 0, Gb (q.nx 2) [1, 40, 0, 41], 0, false, WC⟩, q.nx 3)
 else (⟨5, 0, 0, 1 + Ac (q.nx 1) 12, 0, false, WC⟩, q.nx 2)
def sR (r : Rd) (xs : List Im) : Int × Rd :=
 if (xs.length : Int) > 0 then (if Ac (r.nx 2) 6 > 0 then ((xs.getD (Ac (r.nx 3) xs.length).toNat default).id, r.nx 4) else (Ac (r.nx 1) 4 + 1, r.nx 3)) else (Ac (r.nx 1) 4 + 1, r.nx 2)
abbrev P9 (r : Rd) (w : Wd) : List Im := (w.hosts.getD (Ac r w.hosts.length).toNat default).spool.items
def CH (r : Rd) (w : Wd) : Ev × Rd := LL w (Ac r w.hosts.length) (sR r (P9 r w)).1 (sR r (P9 r w)).2
section
variable {r q : Rd} {w : Wd} {h n : Int}
theorem Yk (c : Ac q 9 = 0) : LL w h n q = (⟨1, h, 0, 0, Gb (q.nx 1) [40, 40, 12, 17, 18], false, Zf (q.nx 2)⟩, PQ (q.nx 2)) := if_pos (.inl c)
theorem Yl (c : Ac q 9 = 1) : LL w h n q = (⟨1, h, 0, 0, Gb (q.nx 1) [40, 40, 12, 17, 18], false, Zf (q.nx 2)⟩, PQ (q.nx 2)) := if_pos (.inr c)
theorem HY (c : Ac q 9 = 2 ∨ Ac q 9 = 3 ∨ Ac q 9 = 4) : LL w h n q = (⟨2, h, Ac (q.nx 1) w.hosts.length, n, Gb (q.nx 2) [40, 40, 40, 3, 9, 13, 14, 15, 16, 17, 18], decide (Ac (q.nx 3) 6 = 0), WC⟩, q.nx 4) := by unfold LL; rw [if_neg (by omega), if_pos c]
theorem Ym (c : Ac q 9 = 5) : LL w h n q = (⟨3, h, 0, n, 0, decide (Ac (q.nx 1) 2 = 0), WC⟩, q.nx 2) := by unfold LL; rw [if_neg (by omega), if_neg (by omega), if_pos c]
theorem Yn (c : Ac q 9 = 6) : LL w h n q = (⟨4, h, 0, 0, 0, false, WC⟩, q.nx 1) := by unfold LL; rw [if_neg (by omega), if_neg (by omega), if_neg (by omega), if_pos c]
theorem Yo (c : Ac q 9 = 7) : LL w h n q = (⟨Gb (q.nx 1) [0, 6, 5], 0, 0, Gb (q.nx 2) [1, 40, 0, 41], 0, false, WC⟩, q.nx 3) := by unfold LL; rw [if_neg (by omega), if_neg (by omega), if_neg (by omega), if_neg (by omega), if_pos c]
theorem Yp (c : ¬ Ac q 9 = 0 ∧ ¬ Ac q 9 = 1 ∧ ¬ Ac q 9 = 2 ∧ ¬ Ac q 9 = 3 ∧ ¬ Ac q 9 = 4 ∧ ¬ Ac q 9 = 5 ∧ ¬ Ac q 9 = 6 ∧ ¬ Ac q 9 = 7) : LL w h n q = (⟨5, 0, 0, 1 + Ac (q.nx 1) 12, 0, false, WC⟩, q.nx 2) := by unfold LL; rw [if_neg (by omega), if_neg (by omega), if_neg (by omega), if_neg (by omega), if_neg (by omega)]
theorem GW (a : ((P9 r w).length : Int) > 0) (b : Ac (r.nx 2) 6 > 0) : CH r w = LL w (Ac r w.hosts.length) ((P9 r w).getD (Ac (r.nx 3) (P9 r w).length).toNat default).id (r.nx 4) := by unfold CH sR; rw [if_pos a, if_pos b]
theorem GX (a : ((P9 r w).length : Int) > 0) (b : ¬ Ac (r.nx 2) 6 > 0) : CH r w = LL w (Ac r w.hosts.length) (Ac (r.nx 1) 4 + 1) (r.nx 3) := by unfold CH sR; rw [if_pos a, if_neg b]
theorem GY (a : ¬ ((P9 r w).length : Int) > 0) : CH r w = LL w (Ac r w.hosts.length) (Ac (r.nx 1) 4 + 1) (r.nx 2) := by unfold CH sR; rw [if_neg a]
end
theorem KW : LE WC := ⟨⟨by show (0 : Nat) ≤ 1048576; decide, by show (0 : Nat) ≤ 1048576; decide⟩, ⟨by show ((0 : Nat) : Int) ≤ 1048576; decide, fun _ q => by cases q⟩, ⟨by show ((0 : Nat) : Int) ≤ 1048576; decide, fun _ q => by cases q⟩⟩
theorem Q3 {w : Wd} {h n : Int} {q : Rd} (h0 : 0 ≤ q.p) (h1 : q.p ≤ 999990000) : bK (LL w h n q).1 ∧ (LL w h n q).2.b = q.b ∧ q.p ≤ (LL w h n q).2.p ∧ (LL w h n q).2.p ≤ q.p + 30 := by
 have hm := jW (r := q.nx 2) (by rw [AK]; omega) (by rw [AK]; omega)
 rw [AK, Bf] at hm
 have hk := NC (r := q.nx 2) (by rw [AK]; omega) (by rw [AK]; omega)
 have g1 : 0 ≤ Gb (q.nx 1) [40, 40, 12, 17, 18] ∧ Gb (q.nx 1) [40, 40, 12, 17, 18] ≤ 1000 := by
  have z := JZ (r := q.nx 1) (l := [40, 40, 12, 17, 18]) (by rw [AK]; omega) (by rw [AK]; omega) (by decide)
  simp only [List.mem_cons, List.not_mem_nil, or_false] at z
  omega
 have g2 : 0 ≤ Gb (q.nx 2) [40, 40, 40, 3, 9, 13, 14, 15, 16, 17, 18] ∧ Gb (q.nx 2) [40, 40, 40, 3, 9, 13, 14, 15, 16, 17, 18] ≤ 1000 := by
  have z := JZ (r := q.nx 2) (l := [40, 40, 40, 3, 9, 13, 14, 15, 16, 17, 18]) (by rw [AK]; omega) (by rw [AK]; omega) (by decide)
  simp only [List.mem_cons, List.not_mem_nil, or_false] at z
  omega
 unfold LL
 split
 ·exact ⟨⟨HE hk, g1⟩, hm.1, by dsimp only; omega, by dsimp only; omega⟩
 ·split
  ·exact ⟨⟨KW, g2⟩, Bf .., by dsimp only; rw [AK]; omega, by dsimp only; rw [AK]; omega⟩
  ·split
   ·exact ⟨⟨KW, by show (0 : Int) ≤ 0; decide, by show (0 : Int) ≤ 1000; decide⟩, Bf .., by dsimp only; rw [AK]; omega, by dsimp only; rw [AK]; omega⟩
   ·split
    ·exact ⟨⟨KW, by show (0 : Int) ≤ 0; decide, by show (0 : Int) ≤ 1000; decide⟩, Bf .., by dsimp only; rw [AK]; omega, by dsimp only; rw [AK]; omega⟩
    ·split
     ·exact ⟨⟨KW, by show (0 : Int) ≤ 0; decide, by show (0 : Int) ≤ 1000; decide⟩, Bf .., by dsimp only; rw [AK]; omega, by dsimp only; rw [AK]; omega⟩
     ·exact ⟨⟨KW, by show (0 : Int) ≤ 0; decide, by show (0 : Int) ≤ 1000; decide⟩, Bf .., by dsimp only; rw [AK]; omega, by dsimp only; rw [AK]; omega⟩
theorem Yj {r : Rd} {w : Wd} (h0 : 0 ≤ r.p) (h1 : r.p ≤ 999980000) : bK (CH r w).1 ∧ (CH r w).2.b = r.b ∧ r.p ≤ (CH r w).2.p ∧ (CH r w).2.p ≤ r.p + 34 := by
 by_cases a0 : ((P9 r w).length : Int) > 0
 ·by_cases a1 : Ac (r.nx 2) 6 > 0
  ·rw [GW a0 a1]
   have z := Q3 (w := w) (h := Ac r w.hosts.length) (n := ((P9 r w).getD (Ac (r.nx 3) (P9 r w).length).toNat default).id) (q := r.nx 4) (by rw [AK]; omega) (by rw [AK]; omega)
   rw [AK, Bf] at z
   exact ⟨z.1, z.2.1, by omega, by omega⟩
  ·rw [GX a0 a1]
   have z := Q3 (w := w) (h := Ac r w.hosts.length) (n := Ac (r.nx 1) 4 + 1) (q := r.nx 3) (by rw [AK]; omega) (by rw [AK]; omega)
   rw [AK, Bf] at z
   exact ⟨z.1, z.2.1, by omega, by omega⟩
 ·rw [GY a0]
  have z := Q3 (w := w) (h := Ac r w.hosts.length) (n := Ac (r.nx 1) 4 + 1) (q := r.nx 2) (by rw [AK]; omega) (by rw [AK]; omega)
  rw [AK, Bf] at z
  exact ⟨z.1, z.2.1, by omega, by omega⟩
def lu : Mt := Gu (lc D2 (lc gh.ag l0)) (fun p => (0 ≤ p.1.p ∧ p.1.p ≤ 999970000) ∧ 1 ≤ p.2.1.hosts.length ∧ p.2.1.hosts.length ≤ 1000) (fun p => ([D2.enc (CH p.1 p.2.1).2, gh.ag.enc p.2.1], Nr.ag.enc (CH p.1 p.2.1).1))
section
attribute [local go_sem] GL Tb VX AK Bf A1 A4 BC BS CD BQ BT lm List.length_append List.length_cons List.length_nil List.map_append List.map_nil Nat.zero_add List.nil_append AS.opn AS.cls AS.nilb AS.renb AS.up Bool.not_false Bool.not_true List.set_set List.set_cons_zero List.set_cons_succ List.set_nil List.mem_singleton forall_eq E4 Gn Gp Gq Dm Dn
set_option maxHeartbeats 6400000 in
theorem eJ {G : Gt} (hG : Ah G) (hh : G.e 53 = AN GL ∧ G.e 31 = AN Tb ∧ G.e 110 = AN VX) : Gd G 182 (AN lu) := by
 refine I5 (dp := fun _ => true) (fn := Tryz.f182) (n := 2) rfl rfl hG ?_
 rintro ⟨r, w, ⟨⟩⟩ hpre
 obtain ⟨⟨h1, h2⟩, hl1, hl2⟩ := hpre
 try dsimp only at h1 h2 hl1 hl2 ⊢
 have hb := Bd (r := r) (n := w.hosts.length) h1 (by omega)
 have hb3 : ((P9 r w).length : Int) > 0 → 0 ≤ Ac (r.nx 3) (P9 r w).length ∧ Ac (r.nx 3) (P9 r w).length < (P9 r w).length := fun q => by
  have z := Bd (r := r.nx 3) (n := (P9 r w).length) (by rw [AK]; omega) (by rw [AK]; omega)
  exact ⟨z.1, z.2 (by omega)⟩
 have ht : ∀ k : Int, 0 ≤ k → k ≤ 9 → 0 ≤ Ac (r.nx k) 12 ∧ Ac (r.nx k) 12 < 12 := fun k a b => by
  have z := Bd (r := r.nx k) (n := 12) (by rw [AK]; omega) (by rw [AK]; omega)
  exact ⟨z.1, z.2 (by decide)⟩
 have ht3 := ht 3 (by decide) (by decide)
 have ht4 := ht 4 (by decide) (by decide)
 have ht5 := ht 5 (by decide) (by decide)
 have hb1 := Bd (r := r.nx 1) (n := 4) (by rw [AK]; omega) (by rw [AK]; omega)
 refine BH (((P9 r w).length : Int) > 0) (fun a0 => BH (Ac (r.nx 2) 6 > 0) (fun a1 => BH (Ac (r.nx 4) 9 = 0) (fun c0 => have hx := And.intro ((GW a0 a1).trans (Yk c0) : CH r w = _) (And.intro a0 (And.intro a1 c0)); ?_) (fun c0 => BH (Ac (r.nx 4) 9 = 1) (fun c1 => have hx := And.intro ((GW a0 a1).trans (Yl c1) : CH r w = _) (And.intro a0 (And.intro a1 (And.intro c0 c1))); ?_) (fun c1 => BH (Ac (r.nx 4) 9 = 2) (fun c2 => have hx := And.intro ((GW a0 a1).trans (HY (.inl c2)) : CH r w = _) (And.intro a0 (And.intro a1 (And.intro c0 (And.intro c1 c2)))); ?_) (fun c2 => BH (Ac (r.nx 4) 9 = 3) (fun c3 => have hx := And.intro ((GW a0 a1).trans (HY (.inr (.inl c3))) : CH r w = _) (And.intro a0 (And.intro a1 (And.intro c0 (And.intro c1 (And.intro c2 c3))))); ?_) (fun c3 => BH (Ac (r.nx 4) 9 = 4) (fun c4 => have hx := And.intro ((GW a0 a1).trans (HY (.inr (.inr c4))) : CH r w = _) (And.intro a0 (And.intro a1 (And.intro c0 (And.intro c1 (And.intro c2 (And.intro c3 c4)))))); ?_) (fun c4 => BH (Ac (r.nx 4) 9 = 5) (fun c5 => have hx := And.intro ((GW a0 a1).trans (Ym c5) : CH r w = _) (And.intro a0 (And.intro a1 (And.intro c0 (And.intro c1 (And.intro c2 (And.intro c3 (And.intro c4 c5))))))); ?_) (fun c5 => BH (Ac (r.nx 4) 9 = 6) (fun c6 => have hx := And.intro ((GW a0 a1).trans (Yn c6) : CH r w = _) (And.intro a0 (And.intro a1 (And.intro c0 (And.intro c1 (And.intro c2 (And.intro c3 (And.intro c4 (And.intro c5 c6)))))))); ?_) (fun c6 => BH (Ac (r.nx 4) 9 = 7) (fun c7 => have hx := And.intro ((GW a0 a1).trans (Yo c7) : CH r w = _) (And.intro a0 (And.intro a1 (And.intro c0 (And.intro c1 (And.intro c2 (And.intro c3 (And.intro c4 (And.intro c5 (And.intro c6 c7))))))))); ?_) (fun c7 => have hx := And.intro ((GW a0 a1).trans (Yp ⟨c0, c1, c2, c3, c4, c5, c6, c7⟩) : CH r w = _) (And.intro a0 (And.intro a1 (And.intro c0 (And.intro c1 (And.intro c2 (And.intro c3 (And.intro c4 (And.intro c5 (And.intro c6 c7))))))))); ?_))))))))) (fun a1 => BH (Ac (r.nx 3) 9 = 0) (fun c0 => have hx := And.intro ((GX a0 a1).trans (Yk c0) : CH r w = _) (And.intro a0 (And.intro a1 c0)); ?_) (fun c0 => BH (Ac (r.nx 3) 9 = 1) (fun c1 => have hx := And.intro ((GX a0 a1).trans (Yl c1) : CH r w = _) (And.intro a0 (And.intro a1 (And.intro c0 c1))); ?_) (fun c1 => BH (Ac (r.nx 3) 9 = 2) (fun c2 => have hx := And.intro ((GX a0 a1).trans (HY (.inl c2)) : CH r w = _) (And.intro a0 (And.intro a1 (And.intro c0 (And.intro c1 c2)))); ?_) (fun c2 => BH (Ac (r.nx 3) 9 = 3) (fun c3 => have hx := And.intro ((GX a0 a1).trans (HY (.inr (.inl c3))) : CH r w = _) (And.intro a0 (And.intro a1 (And.intro c0 (And.intro c1 (And.intro c2 c3))))); ?_) (fun c3 => BH (Ac (r.nx 3) 9 = 4) (fun c4 => have hx := And.intro ((GX a0 a1).trans (HY (.inr (.inr c4))) : CH r w = _) (And.intro a0 (And.intro a1 (And.intro c0 (And.intro c1 (And.intro c2 (And.intro c3 c4)))))); ?_) (fun c4 => BH (Ac (r.nx 3) 9 = 5) (fun c5 => have hx := And.intro ((GX a0 a1).trans (Ym c5) : CH r w = _) (And.intro a0 (And.intro a1 (And.intro c0 (And.intro c1 (And.intro c2 (And.intro c3 (And.intro c4 c5))))))); ?_) (fun c5 => BH (Ac (r.nx 3) 9 = 6) (fun c6 => have hx := And.intro ((GX a0 a1).trans (Yn c6) : CH r w = _) (And.intro a0 (And.intro a1 (And.intro c0 (And.intro c1 (And.intro c2 (And.intro c3 (And.intro c4 (And.intro c5 c6)))))))); ?_) (fun c6 => BH (Ac (r.nx 3) 9 = 7) (fun c7 => have hx := And.intro ((GX a0 a1).trans (Yo c7) : CH r w = _) (And.intro a0 (And.intro a1 (And.intro c0 (And.intro c1 (And.intro c2 (And.intro c3 (And.intro c4 (And.intro c5 (And.intro c6 c7))))))))); ?_) (fun c7 => have hx := And.intro ((GX a0 a1).trans (Yp ⟨c0, c1, c2, c3, c4, c5, c6, c7⟩) : CH r w = _) (And.intro a0 (And.intro a1 (And.intro c0 (And.intro c1 (And.intro c2 (And.intro c3 (And.intro c4 (And.intro c5 (And.intro c6 c7))))))))); ?_)))))))))) (fun a0 => BH (Ac (r.nx 2) 9 = 0) (fun c0 => have hx := And.intro ((GY a0).trans (Yk c0) : CH r w = _) (And.intro a0 c0); ?_) (fun c0 => BH (Ac (r.nx 2) 9 = 1) (fun c1 => have hx := And.intro ((GY a0).trans (Yl c1) : CH r w = _) (And.intro a0 (And.intro c0 c1)); ?_) (fun c1 => BH (Ac (r.nx 2) 9 = 2) (fun c2 => have hx := And.intro ((GY a0).trans (HY (.inl c2)) : CH r w = _) (And.intro a0 (And.intro c0 (And.intro c1 c2))); ?_) (fun c2 => BH (Ac (r.nx 2) 9 = 3) (fun c3 => have hx := And.intro ((GY a0).trans (HY (.inr (.inl c3))) : CH r w = _) (And.intro a0 (And.intro c0 (And.intro c1 (And.intro c2 c3)))); ?_) (fun c3 => BH (Ac (r.nx 2) 9 = 4) (fun c4 => have hx := And.intro ((GY a0).trans (HY (.inr (.inr c4))) : CH r w = _) (And.intro a0 (And.intro c0 (And.intro c1 (And.intro c2 (And.intro c3 c4))))); ?_) (fun c4 => BH (Ac (r.nx 2) 9 = 5) (fun c5 => have hx := And.intro ((GY a0).trans (Ym c5) : CH r w = _) (And.intro a0 (And.intro c0 (And.intro c1 (And.intro c2 (And.intro c3 (And.intro c4 c5)))))); ?_) (fun c5 => BH (Ac (r.nx 2) 9 = 6) (fun c6 => have hx := And.intro ((GY a0).trans (Yn c6) : CH r w = _) (And.intro a0 (And.intro c0 (And.intro c1 (And.intro c2 (And.intro c3 (And.intro c4 (And.intro c5 c6))))))); ?_) (fun c6 => BH (Ac (r.nx 2) 9 = 7) (fun c7 => have hx := And.intro ((GY a0).trans (Yo c7) : CH r w = _) (And.intro a0 (And.intro c0 (And.intro c1 (And.intro c2 (And.intro c3 (And.intro c4 (And.intro c5 (And.intro c6 c7)))))))); ?_) (fun c7 => have hx := And.intro ((GY a0).trans (Yp ⟨c0, c1, c2, c3, c4, c5, c6, c7⟩) : CH r w = _) (And.intro a0 (And.intro c0 (And.intro c1 (And.intro c2 (And.intro c3 (And.intro c4 (And.intro c5 (And.intro c6 c7)))))))); ?_)))))))))
 all_goals
  try rw [hx.1]
  simp -implicitDefEqProofs only [Tryz.f182, hx, WC, eq_self, decide_true, decide_false, Int.reduceEq, go_sem, hh, Int.reduceAdd, seval]
  with_reducible repeat' (first | apply ai | intro _ | ((first | apply s1 | apply s3 | apply s4) <;> intro hb <;> simp -implicitDefEqProofs only [hb, go_sem, hh, Int.reduceAdd, seval] <;> try simp only [qz] at hb))
  all_goals (try simp only [maxLen, tn, AK, Bf] at *)
  all_goals first | rfl | omega | decide | with_reducible assumption | (show AX _ = true; rfl) | exact Hf (by assumption) | contradiction | exact (hb3 a0).1 | exact (hb3 a0).2 | (rename_i q; simp only [List.mem_cons, List.not_mem_nil, or_false] at q ⊢; omega) | skip
end
theorem QK {N : Nat} {w : Wd} (q : G9 N w) (h : N ≤ 1048576) : bg w := ⟨⟨by have := q.2.1.2; omega, fun x hx => EK (q.1 x hx).1 (q.1 x hx).2 h⟩, ⟨by have := q.2.2.2.2.1; omega, q.2.2.2.2.2⟩⟩
abbrev Ww := Rd × Wd × List Ev
open Classical in
noncomputable def Yq (x : Ww) : Ww :=
 if (EQ x.2.1 (CH x.1 x.2.1).1).2 = true then ((CH x.1 x.2.1).2, (EQ x.2.1 (CH x.1 x.2.1).1).1, x.2.2 ++ [(CH x.1 x.2.1).1])
 else if Ac (CH x.1 x.2.1).2 6 > 0 then ((CH x.1 x.2.1).2.nx 1, x.2.1, x.2.2)
 else ((CH x.1 x.2.1).2.nx 1, (EQ x.2.1 (CH x.1 x.2.1).1).1, x.2.2 ++ [(CH x.1 x.2.1).1])
theorem i4 {r : Rd} {w : Wd} {l : List Ev} (h : (EQ w (CH r w).1).2 = true) : Yq (r, w, l) = ((CH r w).2, (EQ w (CH r w).1).1, l ++ [(CH r w).1]) := if_pos h
theorem iz {r : Rd} {w : Wd} {l : List Ev} (h : (EQ w (CH r w).1).2 = false) (c : Ac (CH r w).2 6 > 0) : Yq (r, w, l) = ((CH r w).2.nx 1, w, l) := by
 unfold Yq; rw [if_neg (by show ¬ (EQ w (CH r w).1).2 = true; rw [h]; exact Bool.false_ne_true), if_pos c]
theorem iy {r : Rd} {w : Wd} {l : List Ev} (h : (EQ w (CH r w).1).2 = false) (c : ¬ Ac (CH r w).2 6 > 0) : Yq (r, w, l) = ((CH r w).2.nx 1, (EQ w (CH r w).1).1, l ++ [(CH r w).1]) := by
 unfold Yq; rw [if_neg (by show ¬ (EQ w (CH r w).1).2 = true; rw [h]; exact Bool.false_ne_true), if_neg c]
noncomputable def Mz : Nat → Ww → Ww
 | 0, x => x
 | n + 1, x => Mz n (Yq x)
def rD (k : Nat) (p : Int) (x : Ww) : Prop := G9 (40 * k) x.2.1 ∧ p ≤ x.1.p ∧ x.1.p ≤ p + 40 * k ∧ x.2.2.length ≤ k ∧ ∀ e ∈ x.2.2, bK e
theorem Tw {k : Nat} {p : Int} {x : Ww} (q : rD k p x) (hk : k ≤ 1000) (h0 : 0 ≤ p) (h1 : p ≤ 999900000) : rD (k + 1) p (Yq x) := by
 obtain ⟨r, w, l⟩ := x
 obtain ⟨q1, q2, q3, q4, q5⟩ := q
 dsimp only at q1 q2 q3 q4 q5
 obtain ⟨z1, z2, z3, z4⟩ := Yj (r := r) (w := w) (by omega) (by omega)
 have zw : G9 (40 * (k + 1)) (EQ w (CH r w).1).1 := by rw [Nat.mul_succ]; exact Yb q1 (by omega)
 have zl : ∀ e ∈ l ++ [(CH r w).1], bK e := fun e he => by
  rcases List.mem_append.1 he with he | he
  ·exact q5 e he
  ·rw [List.mem_singleton] at he; subst he; exact z1
 have zn : (l ++ [(CH r w).1]).length ≤ k + 1 := by rw [List.length_append]; show l.length + 1 ≤ k + 1; omega
 cases hd : (EQ w (CH r w).1).2
 ·by_cases c : Ac (CH r w).2 6 > 0
  ·rw [iz hd c]; exact ⟨A9 q1 (by omega), by dsimp only; rw [AK]; omega, by dsimp only; rw [AK]; omega, by dsimp only; omega, q5⟩
  ·rw [iy hd c]; exact ⟨zw, by dsimp only; rw [AK]; omega, by dsimp only; rw [AK]; omega, zn, zl⟩
 ·rw [i4 hd]; exact ⟨zw, by dsimp only; omega, by dsimp only; omega, zn, zl⟩
theorem Yr {p : Int} (h0 : 0 ≤ p) (h1 : p ≤ 999900000) : ∀ (n : Nat) {k : Nat} {x : Ww}, rD k p x → k + n ≤ 1000 → rD (k + n) p (Mz n x)
 | 0, k, x, q, _ => q
 | n + 1, k, x, q, h => by
   have e : k + (n + 1) = k + 1 + n := by omega
   rw [e]
   exact Yr h0 h1 n (Tw q (by omega) h0 h1) (by omega)
theorem Q5 {n i : Nat} {x : Ww} (h : i < n) : Mz (n - i) x = Mz (n - (i + 1)) (Yq x) := by
 have e : n - i = (n - (i + 1)) + 1 := by omega
 rw [e]; rfl
theorem iw {r : Rd} {cs : List Cf} (h : QC cs) : rD 0 r.p (r, FI cs, []) := ⟨QD h, Int.le_refl _, by dsimp only; omega, Nat.le_refl _, fun _ q => by cases q⟩
noncomputable def O6 (r : Rd) (cs : List Cf) (m : Int) : Ww := Mz m.toNat (r, FI cs, [])
theorem JT (r : Rd) : QC (Db r) := by
 have e : E3 (Ac r 5) = Db r := rfl
 obtain ⟨h1, h2⟩ := Te (Ac r 5)
 obtain ⟨_, h3, h4⟩ := Mm (Ac r 5)
 have h5 := cS (Ac r 5)
 rw [e] at h1 h4 h5
 exact ⟨⟨by omega, fun c hc => R2 (h1 c hc)⟩, h1, h5⟩
def lj : Mt := Gu (lc D2 (lc H3.asl (lc BI l0))) (fun p => (0 ≤ p.1.p ∧ p.1.p ≤ 999800000) ∧ QC p.2.1 ∧ 0 ≤ p.2.2.1 ∧ p.2.2.1 ≤ 1000) (fun p => ([D2.enc (O6 p.1 p.2.1 p.2.2.1).1, H3.asl.enc p.2.1, BI.enc p.2.2.1], .o false 10 ((O6 p.1 p.2.1 p.2.2.1).2.2.map C2)))
section
attribute [local go_sem] GL Xn lu Xi Xl Tk UX Zu Zo Zt Zs UW jj UG UH jS AK Bf A1 A4 BC BS CD BQ BT lm List.length_append List.length_cons List.length_nil List.map_append List.map_nil Nat.zero_add List.nil_append AS.opn AS.cls AS.nilb AS.renb AS.up Bool.not_false Bool.not_true List.set_set List.set_cons_zero List.set_cons_succ List.set_nil List.mem_singleton forall_eq NW J0 IB Fl Fk GN.eq_1 CP AY
set_option maxHeartbeats 6400000 in
theorem d6 {G : Gt} (hG : Ah G) (hh : G.e 53 = AN GL ∧ G.e 165 = AA 1 Xn ∧ G.e 182 = AN lu ∧ G.e 102 = AA 1 Xi ∧ G.e 141 = AN Xl) : Gd G 164 (AN lj) := by
 refine I5 (dp := fun n => !(Nat.beq n 100002 || Nat.beq n 100005 || Nat.beq n 15 || Nat.beq n 41 || Nat.beq n 42)) (fn := Tryz.f164) (n := 3) rfl rfl hG ?_
 rintro ⟨r, cs, m, ⟨⟩⟩ hpre
 obtain ⟨⟨h1, h2⟩, hc, hm0, hm1⟩ := hpre
 try dsimp only at h1 h2 hc hm0 hm1 ⊢
 simp -implicitDefEqProofs only [Tryz.f164, go_sem, hh, Int.reduceAdd, seval]
 with_reducible repeat' (first | apply ai | intro _ | ((first | apply s1 | apply s3 | apply s4) <;> intro hb <;> simp -implicitDefEqProofs only [hb, go_sem, hh, Int.reduceAdd, seval] <;> try simp only [qz] at hb))
 all_goals first | with_reducible rfl | omega | with_reducible assumption | (show _ = true; rfl) | contradiction | decide | skip
 refine Ag (Le.frzL [1014, 2014]) (Ab ?_)
 simp -implicitDefEqProofs only [go_sem, hh, Int.reduceAdd, seval]
 with_reducible repeat' (first | apply ai | intro _ | ((first | apply s1 | apply s3 | apply s4) <;> intro hb <;> simp -implicitDefEqProofs only [hb, go_sem, hh, Int.reduceAdd, seval] <;> try simp only [qz] at hb))
 all_goals first | with_reducible rfl | omega | with_reducible assumption | (show _ = true; rfl) | contradiction | decide | skip
 refine AF [(8, 908, false, 10)] (ι := {p : Nat × Ww // p.1 ≤ m.toNat ∧ rD p.1 r.p p.2 ∧ Mz (m.toNat - p.1) p.2 = O6 r cs m}) (fun p => ⟨[(0, .pb 1900 0), (2, .t (.v (.int .i64 m))), (7, .pb 1007 0), (8, .h 908), (9, .t (.v (.int .i64 p.1.1)))], [(1900, some (.box [.t (.sl 1 (p.1.2.1.b.map CQ)), .t (.v (.int .i64 p.1.2.1.p))])), (1007, some (.box [.t (.sl 7 (p.1.2.2.1.hosts.map Al)), .t (.v (.int .i64 p.1.2.2.1.now)), .t (.v (.int .i64 p.1.2.2.1.marks)), .t (.sl 3 (p.1.2.2.1.given.map A2))])), (908, some (.arr false 10 (p.1.2.2.2.map C2)))]⟩) (fun p => m.toNat - p.1.1) ⟨(0, (r, FI cs, [])), Nat.zero_le _, iw hc, rfl⟩ rfl ?_ ?_
 ·simp -implicitDefEqProofs only [go_sem, hh, Int.reduceAdd, seval]
  first | (simp; done) | skip
 ·rintro ⟨⟨i, q, w, l⟩, hi, hx, hv⟩
  dsimp only at hi hx hv
  have hxw := A9 (M := 1000000) hx.1 (by omega)
  have hxl : 1 ≤ w.hosts.length ∧ w.hosts.length ≤ 4 := hx.1.2.1
  have hxo := QK hx.1 (by omega)
  have hxp : r.p ≤ q.p ∧ q.p ≤ r.p + 40 * i := ⟨hx.2.1, hx.2.2.1⟩
  have hxn : l.length ≤ i := hx.2.2.2.1
  obtain ⟨z1, z2, z3, z4⟩ := Yj (r := q) (w := w) (by omega) (by omega)
  by_cases hlt : i < m.toNat
  ·have hlt2 : (i : Int) < m := by omega
   cases hd : (EQ w (CH q w).1).2
   ·by_cases hp : Ac (CH q w).2 6 > 0
    ·simp -implicitDefEqProofs only [hlt2, hd, hp, Bool.not_false, Bool.not_true, eq_self, decide_true, decide_false, go_sem, hh, Int.reduceAdd, seval]
     with_reducible repeat' (first | apply ai | intro _ | ((first | apply s1 | apply s3 | apply s4) <;> intro hb <;> simp -implicitDefEqProofs only [hb, go_sem, hh, Int.reduceAdd, seval] <;> try simp only [qz] at hb))
     all_goals (try simp only [maxLen, tn, lm] at *)
     all_goals first | with_reducible rfl | omega | with_reducible assumption | (show _ = true; rfl) | contradiction | decide | exact ⟨hxw, z1⟩ | skip
     refine Ab ?_
     simp -implicitDefEqProofs only [go_sem, hh, Int.reduceAdd, seval]
     with_reducible repeat' (first | apply ai | intro _ | ((first | apply s1 | apply s3 | apply s4) <;> intro hb <;> simp -implicitDefEqProofs only [hb, go_sem, hh, Int.reduceAdd, seval] <;> try simp only [qz] at hb))
     all_goals first | with_reducible rfl | omega | with_reducible assumption | (show _ = true; rfl) | contradiction | decide | skip
     refine ⟨⟨(i + 1, Yq (q, w, l)), by dsimp only; omega, Tw hx (by omega) h1 (by omega), (Q5 hlt).symm.trans hv⟩, by dsimp only; omega, ?_⟩
     simp -implicitDefEqProofs only [go_sem, hh, Int.reduceAdd, seval]
     simp only [iz hd hp, AK, Bf]
     first | (simp; done) | skip
    ·simp -implicitDefEqProofs only [hlt2, hd, hp, Bool.not_false, Bool.not_true, eq_self, decide_true, decide_false, go_sem, hh, Int.reduceAdd, seval]
     with_reducible repeat' (first | apply ai | intro _ | ((first | apply s1 | apply s3 | apply s4) <;> intro hb <;> simp -implicitDefEqProofs only [hb, go_sem, hh, Int.reduceAdd, seval] <;> try simp only [qz] at hb))
     all_goals (try simp only [maxLen, tn, lm] at *)
     all_goals first | with_reducible rfl | omega | with_reducible assumption | (show _ = true; rfl) | contradiction | decide | exact ⟨hxw, z1⟩ | skip
     refine Ag (Le.frzL [1028, 2028]) (Ab ?_)
     simp -implicitDefEqProofs only [go_sem, hh, Int.reduceAdd, seval]
     with_reducible repeat' (first | apply ai | intro _ | ((first | apply s1 | apply s3 | apply s4) <;> intro hb <;> simp -implicitDefEqProofs only [hb, go_sem, hh, Int.reduceAdd, seval] <;> try simp only [qz] at hb))
     all_goals first | with_reducible rfl | omega | with_reducible assumption | (show _ = true; rfl) | contradiction | decide | skip
     refine ⟨⟨(i + 1, Yq (q, w, l)), by dsimp only; omega, Tw hx (by omega) h1 (by omega), (Q5 hlt).symm.trans hv⟩, by dsimp only; omega, ?_⟩
     simp -implicitDefEqProofs only [go_sem, hh, Int.reduceAdd, seval]
     simp only [iy hd hp, AK, Bf]
     first | (simp [C2]; done) | skip
   ·simp -implicitDefEqProofs only [hlt2, hd, Bool.not_false, Bool.not_true, eq_self, decide_true, decide_false, go_sem, hh, Int.reduceAdd, seval]
    with_reducible repeat' (first | apply ai | intro _ | ((first | apply s1 | apply s3 | apply s4) <;> intro hb <;> simp -implicitDefEqProofs only [hb, go_sem, hh, Int.reduceAdd, seval] <;> try simp only [qz] at hb))
    all_goals (try simp only [maxLen, tn, lm] at *)
    all_goals first | with_reducible rfl | omega | with_reducible assumption | (show _ = true; rfl) | contradiction | decide | exact ⟨hxw, z1⟩ | skip
    refine Ag (Le.frzL [1028, 2028]) (Ab ?_)
    simp -implicitDefEqProofs only [go_sem, hh, Int.reduceAdd, seval]
    with_reducible repeat' (first | apply ai | intro _ | ((first | apply s1 | apply s3 | apply s4) <;> intro hb <;> simp -implicitDefEqProofs only [hb, go_sem, hh, Int.reduceAdd, seval] <;> try simp only [qz] at hb))
    all_goals first | with_reducible rfl | omega | with_reducible assumption | (show _ = true; rfl) | contradiction | decide | skip
    refine ⟨⟨(i + 1, Yq (q, w, l)), by dsimp only; omega, Tw hx (by omega) h1 (by omega), (Q5 hlt).symm.trans hv⟩, by dsimp only; omega, ?_⟩
    simp -implicitDefEqProofs only [go_sem, hh, Int.reduceAdd, seval]
    simp only [i4 hd, AK, Bf]
    first | (simp [C2]; done) | skip
  ·have hlt2 : ¬ (i : Int) < m := by omega
   have e0 : m.toNat - i = 0 := by omega
   rw [e0, Mz] at hv
   obtain ⟨rfl, rfl, rfl⟩ : q = (O6 r cs m).1 ∧ w = (O6 r cs m).2.1 ∧ l = (O6 r cs m).2.2 := by rw [← hv]; exact ⟨rfl, rfl, rfl⟩
   simp -implicitDefEqProofs only [hlt2, eq_self, decide_true, decide_false, go_sem, hh, Int.reduceAdd, seval]
   with_reducible repeat' (first | apply ai | intro _ | ((first | apply s1 | apply s3 | apply s4) <;> intro hb <;> simp -implicitDefEqProofs only [hb, go_sem, hh, Int.reduceAdd, seval] <;> try simp only [qz] at hb))
   all_goals (try simp only [maxLen, tn] at *)
   all_goals first | with_reducible rfl | omega | with_reducible assumption | (show _ = true; rfl) | contradiction | decide | skip
end
noncomputable def JB (r : Rd) : Ww := O6 (r.nx 2) (Db r) (Gb (r.nx 1) [0, 12, 30, 60])
theorem tU {r : Rd} (h : 0 ≤ r.p) (h1 : r.p ≤ 999999900) : 0 ≤ Gb (r.nx 1) [0, 12, 30, 60] ∧ Gb (r.nx 1) [0, 12, 30, 60] ≤ 60 := by
 have z := JZ (r := r.nx 1) (l := [0, 12, 30, 60]) (by rw [AK]; omega) (by rw [AK]; omega) (by decide)
 simp only [List.mem_cons, List.not_mem_nil, or_false] at z
 omega
theorem Um {r : Rd} (h : 0 ≤ r.p) (h1 : r.p ≤ 999800000) : (∀ e ∈ (JB r).2.2, bK e) ∧ (JB r).2.2.length ≤ 60 ∧ r.p ≤ (JB r).1.p ∧ (JB r).1.p ≤ r.p + 2500 := by
 have hm := tU h (by omega)
 have z := Yr (p := (r.nx 2).p) (by rw [AK]; omega) (by rw [AK]; omega) (Gb (r.nx 1) [0, 12, 30, 60]).toNat (iw (r := r.nx 2) (JT r)) (by omega)
 obtain ⟨_, z2, z3, z4, z5⟩ := z
 rw [AK] at z2 z3
 exact ⟨z5, Nat.le_trans z4 (by omega), by show r.p ≤ (Mz _ _).1.p; omega, by show (Mz _ _).1.p ≤ _; omega⟩
theorem nh (r : Rd) : O6 (r.nx 2) (Db r) (Gb (r.nx 1) [0, 12, 30, 60]) = JB r := rfl
noncomputable def D1 (r : Rd) : Wd := tS (Db r) (JB r).2.2
theorem uZ (r : Rd) : tS (Db r) (JB r).2.2 = D1 r := rfl
theorem MN (r : Rd) : G9 1600 (D1 r) := tT (JT r) _
def lR : Mt := Gu (lc D2 l0) (fun p => 0 ≤ p.1.p ∧ p.1.p ≤ 999700000) (fun p => ([D2.enc (JB p.1).1], .tup [.t (.sl 3 ((Db p.1).map DK)), .o false 10 ((JB p.1).2.2.map C2)]))
section
attribute [local go_sem] Tb Xm lj AK Bf A1 A4 BC BS CD BQ BT lm List.length_append List.length_cons List.length_nil List.map_append List.map_nil Nat.zero_add List.nil_append AS.opn AS.cls AS.nilb AS.renb AS.up Bool.not_false Bool.not_true List.set_set List.set_cons_zero List.set_cons_succ List.set_nil List.mem_singleton forall_eq CP E4 nh Gn Gp Gq Dm Dn
set_option maxHeartbeats 1600000 in
theorem dh {G : Gt} (hG : Ah G) (hh : G.e 31 = AN Tb ∧ G.e 151 = AN Xm ∧ G.e 164 = AN lj) : Gd G 138 (AN lR) := by
 refine I5 (dp := fun n => !(Nat.beq n 100002)) (fn := Tryz.f138) (n := 1) rfl rfl hG ?_
 rintro ⟨r, ⟨⟩⟩ hpre
 obtain ⟨h1, h2⟩ := hpre
 try dsimp only at h1 h2 ⊢
 have hm := tU h1 (by omega)
 have hc := JT r
 simp -implicitDefEqProofs only [Tryz.f138, go_sem, hh, Int.reduceAdd, seval]
 with_reducible repeat' (first | apply ai | intro _ | ((first | apply s1 | apply s3 | apply s4) <;> intro hb <;> simp -implicitDefEqProofs only [hb, go_sem, hh, Int.reduceAdd, seval] <;> try simp only [qz] at hb))
 all_goals first | with_reducible rfl | omega | with_reducible assumption | (show _ = true; rfl) | contradiction | decide | skip
 refine Ag (Le.frzL [1006]) (Ab ?_)
 simp -implicitDefEqProofs only [go_sem, hh, Int.reduceAdd, seval]
 with_reducible repeat' (first | apply ai | intro _ | ((first | apply s1 | apply s3 | apply s4) <;> intro hb <;> simp -implicitDefEqProofs only [hb, go_sem, hh, Int.reduceAdd, seval] <;> try simp only [qz] at hb))
 all_goals (try simp only [maxLen, tn] at *)
 all_goals first | with_reducible rfl | omega | with_reducible assumption | (show _ = true; rfl) | contradiction | decide | skip
end
def vi : Mt := Gu (lc D2 l0) (fun p => 0 ≤ p.1.p ∧ p.1.p ≤ 999600000) (fun p => ([D2.enc (JB p.1).1], G7 (D1 p.1)))
section
attribute [local go_sem] lR lS Xi AK Bf A1 A4 BC BS CD BQ BT lm List.length_append List.length_cons List.length_nil List.map_append List.map_nil Nat.zero_add List.nil_append AS.opn AS.cls AS.nilb AS.renb AS.up Bool.not_false Bool.not_true List.set_set List.set_cons_zero List.set_cons_succ List.set_nil List.mem_singleton forall_eq CP NW uZ
set_option maxHeartbeats 1600000 in
theorem pY {G : Gt} (hG : Ah G) (hh : G.e 138 = AN lR ∧ G.e 139 = AA 1 lS ∧ G.e 102 = AA 1 Xi) : Gd G 99 (AN vi) := by
 refine I5 (dp := fun _ => true) (fn := Tryz.f99) (n := 1) rfl rfl hG ?_
 rintro ⟨r, ⟨⟩⟩ hpre
 obtain ⟨h1, h2⟩ := hpre
 try dsimp only at h1 h2 ⊢
 have hc := JT r
 obtain ⟨he, hl, _, _⟩ := Um h1 (by omega)
 have hw := QK (MN r) (by decide)
 simp -implicitDefEqProofs only [Tryz.f99, go_sem, hh, Int.reduceAdd, seval]
 with_reducible repeat' (first | apply ai | intro _ | ((first | apply s1 | apply s3 | apply s4) <;> intro hb <;> simp -implicitDefEqProofs only [hb, go_sem, hh, Int.reduceAdd, seval] <;> try simp only [qz] at hb))
 all_goals (try simp only [maxLen, tn] at *)
 all_goals first | with_reducible rfl | omega | with_reducible assumption | (show _ = true; rfl) | contradiction | decide | exact ⟨hc, he, by omega⟩ | exact he _ (by assumption) | skip
end
noncomputable def EC (r : Rd) : Rd := (JB r).1
noncomputable def iI (r : Rd) : Int := Ac (EC r) (D1 r).hosts.length
noncomputable def Gj (r : Rd) : Int := Ac ((EC r).nx 1) 14
noncomputable abbrev VS (r : Rd) : Hs := (D1 r).hosts.getD (iI r).toNat default
noncomputable def aw (r : Rd) : Wd × Rd :=
 if Gj r = 0 then (⟨(D1 r).hosts.set (iI r).toNat ⟨(VS r).conf, (Jy ((EC r).nx 2)).1, (VS r).boxes, (VS r).lost⟩, (D1 r).now, (D1 r).marks, (D1 r).given⟩, (Jy ((EC r).nx 2)).2)
 else if Gj r = 1 then (⟨(D1 r).hosts.set (iI r).toNat ⟨(Bv ((EC r).nx 2)).1, (VS r).spool, (VS r).boxes, (VS r).lost⟩, (D1 r).now, (D1 r).marks, (D1 r).given⟩, (Bv ((EC r).nx 2)).2)
 else if Gj r = 2 then (⟨(D1 r).hosts, Gb ((EC r).nx 2) [-1, 10000, 9990], (D1 r).marks, (D1 r).given⟩, (EC r).nx 3)
 else if Gj r = 3 then (⟨(D1 r).hosts, (D1 r).now, (D1 r).marks, (D1 r).given ++ [⟨L7 ((EC r).nx 2) [⟨#[]⟩, ⟨#[73, 100, 58, 32, 57]⟩, ⟨#[73, 100, 58, 32]⟩], (CY ((EC r).nx 3)).1⟩]⟩, (CY ((EC r).nx 3)).2)
 else if Gj r = 4 then (⟨[], (D1 r).now, (D1 r).marks, (D1 r).given⟩, (EC r).nx 2)
 else (D1 r, (EC r).nx 2)
section
variable {r : Rd}
theorem kq (c : Gj r = 0) : aw r = (⟨(D1 r).hosts.set (iI r).toNat ⟨(VS r).conf, (Jy ((EC r).nx 2)).1, (VS r).boxes, (VS r).lost⟩, (D1 r).now, (D1 r).marks, (D1 r).given⟩, (Jy ((EC r).nx 2)).2) := if_pos c
theorem kr (c : Gj r = 1) : aw r = (⟨(D1 r).hosts.set (iI r).toNat ⟨(Bv ((EC r).nx 2)).1, (VS r).spool, (VS r).boxes, (VS r).lost⟩, (D1 r).now, (D1 r).marks, (D1 r).given⟩, (Bv ((EC r).nx 2)).2) := by unfold aw; rw [if_neg (by omega), if_pos c]
theorem ku (c : Gj r = 2) : aw r = (⟨(D1 r).hosts, Gb ((EC r).nx 2) [-1, 10000, 9990], (D1 r).marks, (D1 r).given⟩, (EC r).nx 3) := by unfold aw; rw [if_neg (by omega), if_neg (by omega), if_pos c]
theorem kw (c : Gj r = 3) : aw r = (⟨(D1 r).hosts, (D1 r).now, (D1 r).marks, (D1 r).given ++ [⟨L7 ((EC r).nx 2) [⟨#[]⟩, ⟨#[73, 100, 58, 32, 57]⟩, ⟨#[73, 100, 58, 32]⟩], (CY ((EC r).nx 3)).1⟩]⟩, (CY ((EC r).nx 3)).2) := by unfold aw; rw [if_neg (by omega), if_neg (by omega), if_neg (by omega), if_pos c]
theorem kx (c : Gj r = 4) : aw r = (⟨[], (D1 r).now, (D1 r).marks, (D1 r).given⟩, (EC r).nx 2) := by unfold aw; rw [if_neg (by omega), if_neg (by omega), if_neg (by omega), if_neg (by omega), if_pos c]
theorem ky (c : ¬ Gj r = 0 ∧ ¬ Gj r = 1 ∧ ¬ Gj r = 2 ∧ ¬ Gj r = 3 ∧ ¬ Gj r = 4) : aw r = (D1 r, (EC r).nx 2) := by unfold aw; rw [if_neg (by omega), if_neg (by omega), if_neg (by omega), if_neg (by omega), if_neg (by omega)]
end
theorem rb (r : Rd) : (JB r).1 = EC r := rfl
theorem ra (r : Rd) : Ac (EC r) (D1 r).hosts.length = iI r := rfl
theorem rZ (r : Rd) : Ac ((EC r).nx 1) 14 = Gj r := rfl
theorem TQ {r : Rd} (h : 0 ≤ r.p) (h1 : r.p ≤ 999500000) : r.p ≤ (EC r).p ∧ (EC r).p ≤ r.p + 2500 := (Um h (by omega)).2.2
theorem iJ {r : Rd} (h : 0 ≤ r.p) (h1 : r.p ≤ 999500000) : 0 ≤ iI r ∧ iI r < (D1 r).hosts.length := by
 have hq := TQ h h1
 have hl := (MN r).2.1
 have z := Bd (r := EC r) (n := (D1 r).hosts.length) (by omega) (by omega)
 exact ⟨z.1, z.2 (by omega)⟩
def vR : Mt := Gu (lc D2 l0) (fun p => 0 ≤ p.1.p ∧ p.1.p ≤ 999500000) (fun p => ([D2.enc (aw p.1).2], gh.ag.enc (aw p.1).1))
section
attribute [local go_sem] GL Tb P7 vi lC rx cH AK Bf A1 A4 BC BS CD BQ BT lm List.length_append List.length_cons List.length_nil List.map_append List.map_nil Nat.zero_add List.nil_append AS.opn AS.cls AS.nilb AS.renb AS.up Bool.not_false Bool.not_true List.set_set List.set_cons_zero List.set_cons_succ List.set_nil List.mem_singleton forall_eq rb ra rZ NW E4 E5 AY BZ Ku Gn Gp Gq Dm Dn
set_option maxHeartbeats 6400000 in
theorem oe {G : Gt} (hG : Ah G) (hh : G.e 53 = AN GL ∧ G.e 31 = AN Tb ∧ G.e 30 = AN P7 ∧ G.e 99 = AN vi ∧ G.e 100 = AN lC ∧ G.e 78 = AN rx ∧ G.e 101 = AN cH) : Gd G 52 (AN vR) := by
 refine I5 (dp := fun _ => true) (fn := Tryz.f52) (n := 1) rfl rfl hG ?_
 rintro ⟨r, ⟨⟩⟩ hpre
 obtain ⟨h1, h2⟩ := hpre
 try dsimp only at h1 h2 ⊢
 have hq := TQ h1 (by omega)
 have hk := iJ h1 (by omega)
 have hl := (MN r).2.1
 have hg := (MN r).2.2.2.2.1
 by_cases c0 : Gj r = 0
 ·skip
  rw [kq c0]
  simp -implicitDefEqProofs only [Tryz.f52, c0, eq_self, decide_true, decide_false, Int.reduceEq, go_sem, hh, Int.reduceAdd, seval]
  with_reducible repeat' (first | apply ai | intro _ | ((first | apply s1 | apply s3 | apply s4) <;> intro hb <;> simp -implicitDefEqProofs only [hb, go_sem, hh, Int.reduceAdd, seval] <;> try simp only [qz] at hb))
  all_goals (try simp only [maxLen, tn] at *)
  all_goals first | with_reducible rfl | omega | with_reducible assumption | (show _ = true; rfl) | contradiction | decide | exact hk.1 | exact hk.2 | skip
 ·by_cases c1 : Gj r = 1
  ·skip
   rw [kr c1]
   simp -implicitDefEqProofs only [Tryz.f52, c0, c1, eq_self, decide_true, decide_false, Int.reduceEq, go_sem, hh, Int.reduceAdd, seval]
   with_reducible repeat' (first | apply ai | intro _ | ((first | apply s1 | apply s3 | apply s4) <;> intro hb <;> simp -implicitDefEqProofs only [hb, go_sem, hh, Int.reduceAdd, seval] <;> try simp only [qz] at hb))
   all_goals (try simp only [maxLen, tn] at *)
   all_goals first | with_reducible rfl | omega | with_reducible assumption | (show _ = true; rfl) | contradiction | decide | exact hk.1 | exact hk.2 | skip
  ·by_cases c2 : Gj r = 2
   ·skip
    rw [ku c2]
    simp -implicitDefEqProofs only [Tryz.f52, c0, c1, c2, eq_self, decide_true, decide_false, Int.reduceEq, go_sem, hh, Int.reduceAdd, seval]
    with_reducible repeat' (first | apply ai | intro _ | ((first | apply s1 | apply s3 | apply s4) <;> intro hb <;> simp -implicitDefEqProofs only [hb, go_sem, hh, Int.reduceAdd, seval] <;> try simp only [qz] at hb))
    all_goals (try simp only [maxLen, tn] at *)
    all_goals first | with_reducible rfl | omega | with_reducible assumption | (show _ = true; rfl) | contradiction | decide | exact hk.1 | exact hk.2 | skip
   ·by_cases c3 : Gj r = 3
    ·skip
     rw [kw c3]
     simp -implicitDefEqProofs only [Tryz.f52, c0, c1, c2, c3, eq_self, decide_true, decide_false, Int.reduceEq, go_sem, hh, Int.reduceAdd, seval]
     with_reducible repeat' (first | apply ai | intro _ | ((first | apply s1 | apply s3 | apply s4) <;> intro hb <;> simp -implicitDefEqProofs only [hb, go_sem, hh, Int.reduceAdd, seval] <;> try simp only [qz] at hb))
     all_goals (try simp only [maxLen, tn] at *)
     all_goals first | with_reducible rfl | omega | with_reducible assumption | (show _ = true; rfl) | contradiction | decide | exact hk.1 | exact hk.2 | skip
    ·by_cases c4 : Gj r = 4
     ·skip
      rw [kx c4]
      simp -implicitDefEqProofs only [Tryz.f52, c0, c1, c2, c3, c4, eq_self, decide_true, decide_false, Int.reduceEq, go_sem, hh, Int.reduceAdd, seval]
      with_reducible repeat' (first | apply ai | intro _ | ((first | apply s1 | apply s3 | apply s4) <;> intro hb <;> simp -implicitDefEqProofs only [hb, go_sem, hh, Int.reduceAdd, seval] <;> try simp only [qz] at hb))
      all_goals (try simp only [maxLen, tn] at *)
      all_goals first | with_reducible rfl | omega | with_reducible assumption | (show _ = true; rfl) | contradiction | decide | exact hk.1 | exact hk.2 | skip
     ·skip
      rw [ky ⟨c0, c1, c2, c3, c4⟩]
      simp -implicitDefEqProofs only [Tryz.f52, c0, c1, c2, c3, c4, eq_self, decide_true, decide_false, Int.reduceEq, go_sem, hh, Int.reduceAdd, seval]
      with_reducible repeat' (first | apply ai | intro _ | ((first | apply s1 | apply s3 | apply s4) <;> intro hb <;> simp -implicitDefEqProofs only [hb, go_sem, hh, Int.reduceAdd, seval] <;> try simp only [qz] at hb))
      all_goals (try simp only [maxLen, tn] at *)
      all_goals first | with_reducible rfl | omega | with_reducible assumption | (show _ = true; rfl) | contradiction | decide | exact hk.1 | exact hk.2 | skip
end
theorem OJ {r : Rd} (h : 0 ≤ r.p) (h1 : r.p ≤ 999999900) : Ge (CY r).1 ∧ (CY r).2.b = r.b ∧ r.p + 3 ≤ (CY r).2.p ∧ (CY r).2.p ≤ r.p + 4 := by
 have z := Bs (.inl (H7 (r := r) h (by omega)))
 have key : ∀ (l : List ByteArray), 1 ≤ l.length → (∀ x ∈ l, x.size ≤ 1048576) → Bh (L7 (r.nx 3) l) := fun l hl q => q _ (F7 (by rw [AK]; omega) (by rw [AK]; omega) hl)
 by_cases q0 : Ac (r.nx 2) 10 = 0
 ·rw [S9 q0]
  exact ⟨⟨key _ (by decide) (by decide), z.2⟩, rfl, by rw [AK]; omega, by rw [AK]; omega⟩
 ·by_cases q1 : Ac (r.nx 2) 10 = 1
  ·rw [TA q0 q1]
   exact ⟨⟨z.1, key _ (by decide) (by decide)⟩, rfl, by rw [AK]; omega, by rw [AK]; omega⟩
  ·by_cases q2 : Ac (r.nx 2) 10 = 2
   ·rw [TB q0 q1 q2]
    exact ⟨Bs (.inr ⟨rfl, rfl⟩), rfl, by rw [AK]; omega, by rw [AK]; omega⟩
   ·rw [TC q0 q1 q2]
    exact ⟨z, rfl, by rw [AK]; omega, by rw [AK]; omega⟩
theorem Xu {c : Cf} (h : OV c = true) : Gf c ∧ c.own.length ≤ 10 ∧ c.ways.length ≤ 10 := by
 unfold OV at h
 simp only [Bool.and_eq_true, Nat.ble_eq, List.all_eq_true] at h
 obtain ⟨z1, z2, z3, z4, z5⟩ := h
 exact ⟨⟨by show c.name.size ≤ 1048576; omega, ⟨by omega, fun s hs => by have := z3 s hs; show s.size ≤ 1048576; omega⟩, ⟨by omega, fun w hw => ⟨by have := (z5 w hw).1; show w.ends.size ≤ 1048576; omega, by have := (z5 w hw).2; show w.to.size ≤ 1048576; omega⟩⟩⟩, z2, z4⟩
theorem vw {r : Rd} {l : List ByteArray} (h0 : 0 ≤ r.p) (h1 : r.p ≤ 1000000000) (hl : l.all (fun s => Nat.ble s.size 100) = true) (hn : 1 ≤ l.length) : Bh (L7 r l) := by
 have := List.all_eq_true.1 hl _ (F7 h0 h1 hn)
 simp only [Nat.ble_eq] at this
 show (L7 r l).size ≤ 1048576
 omega
theorem OK {r : Rd} (h : 0 ≤ r.p) (h1 : r.p ≤ 999980000) : Gf (Bv r).1 := by
 obtain ⟨z, z1, z2⟩ := Xu (iO h (show r.p ≤ 999999000 by omega))
 by_cases c0 : Ac (r.nx 2) 10 = 0
 ·rw [TD c0]; exact ⟨vw (by rw [AK]; omega) (by rw [AK]; omega) (by decide +kernel) (by decide), z.2.1, z.2.2⟩
 ·by_cases c1 : Ac (r.nx 2) 10 = 1
  ·rw [TE c1]
   refine ⟨z.1, ⟨by show ((_ ++ _ : List ByteArray).length : Int) ≤ _; rw [List.length_append]; simp; omega, fun s hs => ?_⟩, z.2.2⟩
   rcases List.mem_append.1 hs with hs | hs
   ·exact z.2.1.2 s hs
   ·simp only [List.mem_cons, List.not_mem_nil, or_false] at hs
    rcases hs with rfl | rfl <;> (show ByteArray.size _ ≤ 1048576; decide)
  ·by_cases c2 : Ac (r.nx 2) 10 = 2
   ·rw [TF c2]
    refine ⟨z.1, z.2.1, ⟨by show ((_ ++ _ : List Wy).length : Int) ≤ _; rw [List.length_append]; simp; omega, fun s hs => ?_⟩⟩
    rcases List.mem_append.1 hs with hs | hs
    ·exact z.2.2.2 s hs
    ·simp only [List.mem_singleton] at hs
     subst hs
     exact ⟨vw (by rw [AK]; omega) (by rw [AK]; omega) (by decide +kernel) (by decide), by show (⟨#[116, 119, 111, 46, 111, 114, 103]⟩ : ByteArray).size ≤ 1048576; decide⟩
   ·rw [TG ⟨c0, c1, c2⟩]; exact z
theorem Sb {α : Type} {P : α → Prop} {xs : List α} {i : Nat} {x : α} (h : HG P xs) (hx : P x) : HG P (xs.set i x) := ⟨by rw [List.length_set]; exact h.1, fun y hy => by
 rcases List.mem_or_eq_of_mem_set hy with hy | rfl
 ·exact h.2 y hy
 ·exact hx⟩
theorem iK {r : Rd} (h : 0 ≤ r.p) (h1 : r.p ≤ 999500000) : bg (aw r).1 := by
 have hq := TQ h (by omega)
 have hk := iJ h (by omega)
 have z := QK (MN r) (by decide)
 have hH : GG (VS r) := z.1.2 _ (AE (by omega))
 have p2 : ((EC r).nx 2).p = (EC r).p + 2 := AK _ _
 have p3 : ((EC r).nx 3).p = (EC r).p + 3 := AK _ _
 by_cases c0 : Gj r = 0
 ·rw [kq c0]
  have q := (XW (r := (EC r).nx 2) (by omega) (by omega)).1
  exact ⟨Sb z.1 ⟨hH.1, q, hH.2.2⟩, z.2⟩
 ·by_cases c1 : Gj r = 1
  ·rw [kr c1]
   have q := OK (r := (EC r).nx 2) (by omega) (by omega)
   exact ⟨Sb z.1 ⟨q, hH.2⟩, z.2⟩
  ·by_cases c2 : Gj r = 2
   ·rw [ku c2]; exact z
   ·by_cases c3 : Gj r = 3
    ·rw [kw c3]
     have hg := (MN r).2.2.2.2.1
     have q := (OJ (r := (EC r).nx 3) (by omega) (by omega)).1
     refine ⟨z.1, ⟨by show ((_ ++ _ : List Ls).length : Int) ≤ _; rw [List.length_append]; simp; omega, fun l hl => ?_⟩⟩
     rcases List.mem_append.1 hl with hl | hl
     ·exact z.2.2 l hl
     ·simp only [List.mem_singleton] at hl
      subst hl
      exact ⟨vw (by omega) (by omega) (by decide +kernel) (by decide), q⟩
    ·by_cases c4 : Gj r = 4
     ·rw [kx c4]; exact ⟨⟨by show ((0 : Nat) : Int) ≤ _; decide, fun _ q => by cases q⟩, z.2⟩
     ·rw [ky ⟨c0, c1, c2, c3, c4⟩]; exact z
section
variable {α β : Type} {f : α → List β}
end
section
attribute [local go_sem] lm List.length_append List.length_cons List.length_nil List.map_append List.map_nil Nat.zero_add List.nil_append AS.opn AS.cls AS.nilb AS.renb AS.up Bool.not_false Bool.not_true List.set_set List.set_cons_zero List.set_cons_succ List.set_nil List.mem_singleton forall_eq
end
section
attribute [local go_sem] ug lm List.length_append List.length_cons List.length_nil List.map_append List.map_nil Nat.zero_add List.nil_append AS.opn AS.cls AS.nilb AS.renb AS.up Bool.not_false Bool.not_true List.set_set List.set_cons_zero List.set_cons_succ List.set_nil List.mem_singleton forall_eq AU AT
end
section
attribute [local go_sem] lm List.length_append List.length_cons List.length_nil List.map_append List.map_nil Nat.zero_add List.nil_append AS.opn AS.cls AS.nilb AS.renb AS.up Bool.not_false Bool.not_true List.set_set List.set_cons_zero List.set_cons_succ List.set_nil List.mem_singleton forall_eq AU AT
end
theorem TH {r : Rd} : (Bv r).2.b = r.b ∧ r.p ≤ (Bv r).2.p ∧ (Bv r).2.p ≤ r.p + 4 := by
 unfold Bv
 dsimp only
 repeat' split
 all_goals exact ⟨Bf .., by dsimp only; rw [AK]; omega, by dsimp only; rw [AK]; omega⟩
theorem rc {r : Rd} (h : 0 ≤ r.p) (h1 : r.p ≤ 999400000) : r.p ≤ (aw r).2.p ∧ (aw r).2.p ≤ r.p + 3000 := by
 have hq := TQ h (by omega)
 have p2 : ((EC r).nx 2).p = (EC r).p + 2 := AK _ _
 have p3 : ((EC r).nx 3).p = (EC r).p + 3 := AK _ _
 by_cases c0 : Gj r = 0
 ·rw [kq c0]
  have q := (XW (r := (EC r).nx 2) (by omega) (by omega)).2.2
  exact ⟨by show _ ≤ (Jy _).2.p; omega, by show (Jy _).2.p ≤ _; omega⟩
 ·by_cases c1 : Gj r = 1
  ·rw [kr c1]
   have q := (TH (r := (EC r).nx 2)).2
   exact ⟨by show _ ≤ (Bv _).2.p; omega, by show (Bv _).2.p ≤ _; omega⟩
  ·by_cases c2 : Gj r = 2
   ·rw [ku c2]; exact ⟨by dsimp only; omega, by dsimp only; omega⟩
   ·by_cases c3 : Gj r = 3
    ·rw [kw c3]
     have q := (OJ (r := (EC r).nx 3) (by omega) (by omega)).2.2
     exact ⟨by show _ ≤ (CY _).2.p; omega, by show (CY _).2.p ≤ _; omega⟩
    ·by_cases c4 : Gj r = 4
     ·rw [kx c4]; exact ⟨by dsimp only; omega, by dsimp only; omega⟩
     ·rw [ky ⟨c0, c1, c2, c3, c4⟩]; exact ⟨by dsimp only; omega, by dsimp only; omega⟩
noncomputable def Vx (r : Rd) : Hs × Rd :=
 if ((aw r).1.hosts.length : Int) = 0 then (EH (Bv (aw r).2).1, (Bv (aw r).2).2)
 else ((aw r).1.hosts.getD (Ac (aw r).2 (aw r).1.hosts.length).toNat default, (aw r).2.nx 1)
theorem jM {r : Rd} (h : ((aw r).1.hosts.length : Int) = 0) : Vx r = (EH (Bv (aw r).2).1, (Bv (aw r).2).2) := if_pos h
theorem jL {r : Rd} (h : ¬ ((aw r).1.hosts.length : Int) = 0) : Vx r = ((aw r).1.hosts.getD (Ac (aw r).2 (aw r).1.hosts.length).toNat default, (aw r).2.nx 1) := if_neg h
theorem ZA {r : Rd} (h : 0 ≤ r.p) (h1 : r.p ≤ 999400000) : GG (Vx r).1 ∧ r.p ≤ (Vx r).2.p ∧ (Vx r).2.p ≤ r.p + 3010 := by
 have z := iK h (by omega)
 have p := rc h h1
 by_cases c : ((aw r).1.hosts.length : Int) = 0
 ·rw [jM c]
  have q := OK (r := (aw r).2) (by omega) (by omega)
  have q2 := (TH (r := (aw r).2)).2
  exact ⟨Zh q, by dsimp only; omega, by dsimp only; omega⟩
 ·rw [jL c]
  have b := Bd (r := (aw r).2) (n := (aw r).1.hosts.length) (by omega) (by omega)
  exact ⟨z.1.2 _ (AE (by have := b.2 (by omega); omega)), by dsimp only; rw [AK]; omega, by dsimp only; rw [AK]; omega⟩
def vL : Mt := Gu (lc D2 l0) (fun p => 0 ≤ p.1.p ∧ p.1.p ≤ 999400000) (fun p => ([D2.enc (Vx p.1).2], Ep.ag.enc (Vx p.1).1))
section
attribute [local go_sem] GL vR rx AK Bf A1 A4 BC BS CD BQ BT lm List.length_append List.length_cons List.length_nil List.map_append List.map_nil Nat.zero_add List.nil_append AS.opn AS.cls AS.nilb AS.renb AS.up Bool.not_false Bool.not_true List.set_set List.set_cons_zero List.set_cons_succ List.set_nil List.mem_singleton forall_eq EH AY Gn Gp Gq Dm Dn
set_option maxHeartbeats 1600000 in
theorem oE {G : Gt} (hG : Ah G) (hh : G.e 53 = AN GL ∧ G.e 52 = AN vR ∧ G.e 78 = AN rx) : Gd G 28 (AN vL) := by
 refine I5 (dp := fun _ => true) (fn := Tryz.f28) (n := 1) rfl rfl hG ?_
 rintro ⟨r, ⟨⟩⟩ hpre
 obtain ⟨h1, h2⟩ := hpre
 try dsimp only at h1 h2 ⊢
 have p := rc h1 (by omega)
 have z := (iK h1 (by omega)).1.1
 by_cases c : ((aw r).1.hosts.length : Int) = 0
 ·rw [jM c]
  simp -implicitDefEqProofs only [Tryz.f28, c, eq_self, decide_true, decide_false, go_sem, hh, Int.reduceAdd, seval]
  with_reducible repeat' (first | apply ai | intro _ | ((first | apply s1 | apply s3 | apply s4) <;> intro hb <;> simp -implicitDefEqProofs only [hb, go_sem, hh, Int.reduceAdd, seval] <;> try simp only [qz] at hb))
  all_goals (try simp only [maxLen, tn] at *)
  all_goals first | with_reducible rfl | omega | with_reducible assumption | (show _ = true; rfl) | contradiction | decide | skip
 ·rw [jL c]
  have b := Bd (r := (aw r).2) (n := (aw r).1.hosts.length) (by omega) (by omega)
  simp -implicitDefEqProofs only [Tryz.f28, c, eq_self, decide_true, decide_false, go_sem, hh, Int.reduceAdd, seval]
  with_reducible repeat' (first | apply ai | intro _ | ((first | apply s1 | apply s3 | apply s4) <;> intro hb <;> simp -implicitDefEqProofs only [hb, go_sem, hh, Int.reduceAdd, seval] <;> try simp only [qz] at hb))
  all_goals (try simp only [maxLen, tn] at *)
  all_goals first | with_reducible rfl | omega | with_reducible assumption | (show _ = true; rfl) | contradiction | decide | exact b.1 | exact b.2 (by omega) | skip
end
theorem kp {α : Type} [Inhabited α] {xs : List α} {a : α} (h : a ∈ xs) : ∃ j, j < xs.length ∧ xs.getD j default = a := by
 obtain ⟨j, hj, e⟩ := List.mem_iff_getElem.1 h
 exact ⟨j, hj, by rw [List.getD_eq_getElem?_getD, List.getElem?_eq_getElem hj, e]; rfl⟩
theorem aH {c : Cf} {x : Im} {to : ByteArray} {w : Int} (h : DX x) (hp : ¬ Af c to w x.to = []) : Ce (Fg c x to w) := by
 have hl := El c to w x.to
 have hs := F8 c to w x.to
 refine ⟨fun a ha => ?_, hs.nodup h.2.1, h.2.2.2.1, ⟨?_, by have := h.2.2.2.2.1.2; show (Af c to w x.to).length ≤ 4; omega⟩, h.2.2.2.2.2⟩
 ·obtain ⟨r, hr, e, _⟩ := DO c to w x.to a ha
  rw [← e]
  exact (h.1 r hr).1
 ·show 1 ≤ (Af c to w x.to).length
  have := List.length_pos_iff.2 hp
  omega
theorem aG {h : Hs} {n : Int} {to : ByteArray} {w : Int} : Jk h n to w = (RJ, false) ∨ (EL h ∧ ∃ m, Jk h n to w = (m, true) ∧ Ce m ∧ ∀ a ∈ m.to, Cc a.domain ∧ BJ a ∧ K7 h.conf a.domain = to ∧ (¬ to = ⟨#[]⟩ → DG h.conf a) ∧ ∃ k j, k < h.spool.items.length ∧ j < (h.spool.items.getD k default).to.length ∧ (h.spool.items.getD k default).id = n ∧ ((h.spool.items.getD k default).to.getD j default).addr = a ∧ ((h.spool.items.getD k default).to.getD j default).next ≤ w) := by
 by_cases z : EL h ∧ ¬ Ax h.spool n < 0 ∧ (to = ⟨#[]⟩ ∨ Cc to) ∧ ¬ Af h.conf to w (Ai h.spool n).to = []
 ·right
  have hil := Bg z.2.1
  have hx := (z.1.2.2.1 _ (AE (xs := h.spool.items) (j := (Ax h.spool n).toNat) (by omega))).1
  have B0 : (Ai h.spool n).id = n := Ey z.2.1
  refine ⟨z.1, _, MR z, aH hx z.2.2.2, fun a ha => ?_⟩
  obtain ⟨r, hr, e, hN⟩ := DO _ _ _ _ a ha
  have hA := (hx.1 r hr).1
  rw [e] at hA
  obtain ⟨h1, h2⟩ := hN
  rw [e] at h2
  obtain ⟨j, hj, e2⟩ := kp hr
  refine ⟨hA.2, hA, ?_, ?_, (Ax h.spool n).toNat, j, by omega, hj, B0, ?_, ?_⟩
  ·rcases h2 with ⟨h3, h4⟩ | ⟨h3, _, h5⟩
   ·rw [VI h3, h4]
   ·rw [Hy h3, h5]
  ·intro ht
   rcases h2 with ⟨_, h4⟩ | ⟨h3, h4, h5⟩
   ·exact absurd h4 ht
   ·exact .inr (by rw [h5]; exact ht)
  ·show ((Ai h.spool n).to.getD j default).addr = a
   rw [e2, e]
  ·show ((Ai h.spool n).to.getD j default).next ≤ w
   rw [e2]; exact h1
 ·exact .inl (Fo z)
section
attribute [local go_sem] GL Tb P7 cI AK Bf A1 A4 BC BS CD BQ BT lm List.length_append List.length_cons List.length_nil List.map_append List.map_nil Nat.zero_add List.nil_append AS.opn AS.cls AS.nilb AS.renb AS.up Bool.not_false Bool.not_true List.set_set List.set_cons_zero List.set_cons_succ List.set_nil List.mem_singleton forall_eq E4 E5 AY Gn Gp Gq Dm Dn
end
section
variable {r : Rd}
end
section
attribute [local go_sem] GL VX cH AK Bf A1 A4 BC BS CD BQ BT lm List.length_append List.length_cons List.length_nil List.map_append List.map_nil Nat.zero_add List.nil_append AS.opn AS.cls AS.nilb AS.renb AS.up Bool.not_false Bool.not_true List.set_set List.set_cons_zero List.set_cons_succ List.set_nil List.mem_singleton forall_eq AY Gn Gp Gq Dm Dn
end
def vP : Ct := Aq (lc C3.asl (lc C3.asl l0)) (fun p => True) (fun p => .t (.v (.bool (decide (p.1 = p.2.1)))))
section
attribute [local go_sem] lm
set_option maxHeartbeats 1600000 in
theorem oS {G : Gt} (hG : Ah G) : Gd G 42 (AA 0 vP) := by
 refine gr (fn := Tryz.f42) (n := 2) rfl rfl hG ?_
 rintro ⟨xs, ys, ⟨⟩⟩ hpre
 simp -implicitDefEqProofs only [Tryz.f42, go_sem, seval] at hpre ⊢
 with_reducible repeat' (first | apply ai | intro _ | ((first | apply s1 | apply s3 | apply s4) <;> intro hb <;> simp -implicitDefEqProofs only [hb, go_sem, seval] <;> try simp only [qz] at hb))
 all_goals (try simp only [maxLen] at *)
 all_goals first | rfl | omega | skip
 ·have : ¬ xs = ys := fun e => hb (by rw [e])
  simp [this]
 ·have hl : xs.length = ys.length := by omega
  refine AF [] (ι := {i : Nat // i ≤ xs.length ∧ ∀ j, j < i → xs.getD j default = ys.getD j default}) (fun p => ⟨[(0, .t (.sl 2 (xs.map Ao))), (1, .t (.sl 2 (ys.map Ao))), (5, .t (.v (.int .i64 p.1)))], []⟩) (fun p => xs.length - p.1) ⟨0, by simp, by simp⟩ rfl ?_ ?_
  ·simp -implicitDefEqProofs only [go_sem, seval]
   try simp
  ·rintro ⟨i, hi, hall⟩
   simp -implicitDefEqProofs only [go_sem, seval]
   with_reducible repeat' (first | apply ai | intro _ | ((first | apply s1 | apply s3 | apply s4) <;> intro hb <;> simp -implicitDefEqProofs only [hb, go_sem, seval] <;> try simp only [qz] at hb))
   all_goals (try simp only [maxLen, tn, wZ, vE] at *)
   all_goals first
    | rfl
    | omega
    | decide
    | (show AX _ = true; rfl)
    | ((have hne : ¬ xs = ys := fun e => by subst e; first | exact hb rfl | (simp at hb; done) | (simp_all; done)); simp [hne]; done)
    | (refine ⟨⟨i + 1, by omega, Tv hall (by assumption)⟩, by dsimp only; omega, ?_⟩
       simp -implicitDefEqProofs only [go_sem, seval]
       try simp
       done)
    | (have hxy := S8 i hl hall (by omega)
       simp [hxy]
       done)
    | skip
end
def c9 : Ct := Aq (lc Wc.ag (lc Wc.ag l0)) (fun p => True) (fun p => .t (.v (.bool (decide (p.1 = p.2.1)))))
section
attribute [local go_sem] vP rH uc lm
set_option maxHeartbeats 800000 in
theorem sm {G : Gt} (hG : Ah G) (hh : G.e 42 = AA 0 vP ∧ G.e 25 = AA 0 rH) : Gd G 9 (AA 0 c9) := by
 refine gr (fn := Tryz.f9) (n := 2) rfl rfl hG ?_
 rintro ⟨a, b, ⟨⟩⟩ hpre
 simp -implicitDefEqProofs only [Tryz.f9, go_sem, hh, seval] at hpre ⊢
 with_reducible repeat' (first | apply ai | intro _ | ((first | apply s1 | apply s3 | apply s4) <;> intro hb <;> simp -implicitDefEqProofs only [hb, go_sem, hh, seval] <;> try simp only [qz] at hb))
 all_goals (try simp only [maxLen] at *)
 all_goals first
  | rfl
  | ((have hne : ¬ a = b := fun e => by subst e; simp_all); simp [hne]; done)
  | ((have he : a = b := by rw [W7]; simp_all); simp [he]; done)
  | (show T.v _ = T.v _; congr 2; rw [Bool.eq_iff_iff, decide_eq_true_eq, decide_eq_true_eq, W7]; simp_all; done)
  | skip
end
def vI : Ct := Aq (lc H3.ag (lc Ap l0)) (fun p => Gf p.1 ∧ GF p.1 ∧ p.2.1.size ≤ 2000000 ∧ Cc p.2.1) (fun p => .t (.v (.string (K7 p.1 p.2.1))))
section
attribute [local go_sem] mc P8 ma AU AT
theorem n8 {G : Gt} (hG : Ah G) (hh : G.e 43 = AA 0 mc ∧ G.e 34 = AA 0 P8 ∧ G.e 37 = AA 0 ma) : Gd G 10 (AA 0 vI) := by
 refine gr (fn := Tryz.f10) (n := 2) rfl rfl hG ?_
 rintro ⟨c, d, ⟨⟩⟩ hpre
 obtain ⟨h1, h2, h3, h4⟩ := hpre
 try dsimp only at h1 h2 h3 h4 ⊢
 have b1 := Ak h2
 have b2 := Ak h4
 simp -implicitDefEqProofs only [Tryz.f10, b1, b2, eq_self, decide_true, decide_false, Bool.not_true, go_sem, hh, seval]
 with_reducible repeat' (first | apply ai | intro _ | ((first | apply s1 | apply s3 | apply s4) <;> intro hb <;> simp -implicitDefEqProofs only [hb, go_sem, hh, seval] <;> try simp only [qz] at hb))
 all_goals first | rfl | omega | assumption | exact ⟨h1, h2, h3, h4⟩ | skip
end
def vJ : Ct := Aq (lc H3.ag (lc C3.ag l0)) (fun p => Gf p.1 ∧ GF p.1 ∧ Ge p.2.1 ∧ BJ p.2.1) (fun p => .t (.v (.bool (BL (DG p.1 p.2.1)))))
section
attribute [local go_sem] mc Wi rr AU AT
theorem n9 {G : Gt} (hG : Ah G) (hh : G.e 43 = AA 0 mc ∧ G.e 44 = AA 0 Wi ∧ G.e 45 = AA 0 rr) : Gd G 11 (AA 0 vJ) := by
 refine gr (fn := Tryz.f11) (n := 2) rfl rfl hG ?_
 rintro ⟨c, a, ⟨⟩⟩ hpre
 obtain ⟨h1, h2, h3, h4⟩ := hpre
 try dsimp only at h1 h2 h3 h4 ⊢
 have b1 := Ak h2
 have b2 := Ak h4
 have h5 : a.domain.size ≤ 2000000 := by have : a.domain.size ≤ 1048576 := h3.2; omega
 have h6 : a.user.size ≤ 2000000 := by have : a.user.size ≤ 1048576 := h3.1; omega
 have h7 := h4.2
 simp -implicitDefEqProofs only [Tryz.f11, b1, b2, eq_self, decide_true, decide_false, go_sem, hh, seval]
 with_reducible repeat' (first | apply ai | intro _ | ((first | apply s1 | apply s3 | apply s4) <;> intro hb <;> simp -implicitDefEqProofs only [hb, go_sem, hh, seval] <;> try simp only [qz] at hb))
 all_goals first | rfl | omega | assumption | exact ⟨h1, h2, h5, h7⟩ | skip
end
theorem sC {x0 x1 x2 x3 x4 x5 : T} : Bk 1 6 [x0, x1, x2, x3, x4, x5] = [[x0], [x1], [x2], [x3], [x4], [x5]] := rfl
noncomputable def pe (b : List UInt8) : Hs := (Vx (opn b)).1
noncomputable def fN (b : List UInt8) : (Int × Ad) × Rd := Nj (Vx (opn b)).2 (pe b).spool
noncomputable def um (b : List UInt8) : ByteArray := L7 (fN b).2 [⟨#[]⟩, ⟨#[111, 110, 101, 46, 111, 114, 103]⟩, ⟨#[116, 119, 111, 46, 111, 114, 103]⟩, ⟨#[104, 117, 98, 46, 110, 101, 116]⟩, ⟨#[103, 111, 110, 101, 46, 99, 111, 109]⟩, ⟨#[65]⟩]
noncomputable def vr (b : List UInt8) : Int := Gb ((fN b).2.nx 1) [0, 10, 500]
theorem ZF (b : List UInt8) : (Vx (opn b)).1 = pe b := rfl
theorem ZG (b : List UInt8) : Nj (Vx (opn b)).2 (pe b).spool = fN b := rfl
theorem jN (b : List UInt8) : L7 (fN b).2 [⟨#[]⟩, ⟨#[111, 110, 101, 46, 111, 114, 103]⟩, ⟨#[116, 119, 111, 46, 111, 114, 103]⟩, ⟨#[104, 117, 98, 46, 110, 101, 116]⟩, ⟨#[103, 111, 110, 101, 46, 99, 111, 109]⟩, ⟨#[65]⟩] = um b := rfl
theorem sr (b : List UInt8) : Gb ((fN b).2.nx 1) [0, 10, 500] = vr b := rfl
theorem pf {b : List UInt8} (h : 0 ≤ (fN b).2.p) (h1 : (fN b).2.p ≤ 1000000000) : (um b).size ≤ 2000000 := by
 have z := F7 (l := [⟨#[]⟩, ⟨#[111, 110, 101, 46, 111, 114, 103]⟩, ⟨#[116, 119, 111, 46, 111, 114, 103]⟩, ⟨#[104, 117, 98, 46, 110, 101, 116]⟩, ⟨#[103, 111, 110, 101, 46, 99, 111, 109]⟩, ⟨#[65]⟩]) h h1 (by decide)
 rw [jN] at z
 simp only [List.mem_cons, List.not_mem_nil, or_false] at z
 rcases z with z | z | z | z | z | z <;> rw [z] <;> decide
def ba (h : Hs) (n : Int) (a : Ad) (w : Int) (k j : Nat) : Prop := (h.spool.items.getD k default).id = n ∧ ((h.spool.items.getD k default).to.getD j default).addr = a ∧ ((h.spool.items.getD k default).to.getD j default).next ≤ w
def c6 : Ct := Aq (lc LB.asl l0) (fun p => True) (fun p => .tup [Ep.ag.enc (pe p.1), .t (.v (.int .i64 (fN p.1).1.1)), .t (.v (.string (um p.1))), .t (.v (.int .i64 (vr p.1)))])
section
attribute [local go_sem] vK vL Tb P7 vM JQ R7 M9 Kc tK ZF ZG jN sr sC E4 E5 lm List.length_append List.length_cons List.length_nil List.map_append List.map_nil Nat.zero_add List.nil_append AK Bf A1 A4 BC BS CD BQ BT AS.opn AS.cls AS.nilb AS.renb AS.up Bool.not_false Bool.not_true List.set_set List.set_cons_zero List.set_cons_succ List.set_nil List.mem_singleton forall_eq
set_option maxHeartbeats 1600000 in
theorem si {G : Gt} (hG : Ah G) (hh : G.e 27 = AA 1 vK ∧ G.e 28 = AN vL ∧ G.e 31 = AN Tb ∧ G.e 30 = AN P7 ∧ G.e 29 = AN vM) : Gd G 6 (AA 1 c6) := by
 refine gr (fn := Tryz.f6) (n := 1) rfl rfl hG ?_
 rintro ⟨b, ⟨⟩⟩ hpre
 dsimp only
 have z := ZA (r := opn b) (by rw [Kc]; decide) (by rw [Kc]; decide)
 rw [Kc, ZF] at z
 have z2 := jq (r := (Vx (opn b)).2) (s := (pe b).spool) (by omega) (by omega) z.1.2.1
 rw [ZG] at z2
 have os := z.1.2.1
 simp -implicitDefEqProofs only [Tryz.f6, go_sem, hh, Int.reduceAdd, seval]
 with_reducible repeat' (first | apply ai | intro _ | ((first | apply s1 | apply s3 | apply s4) <;> intro hb <;> simp -implicitDefEqProofs only [hb, go_sem, hh, Int.reduceAdd, seval] <;> try simp only [qz] at hb))
 all_goals (try simp only [maxLen, tn, AK] at *)
 all_goals first | with_reducible rfl | omega | with_reducible assumption | ((with_reducible show _ = true); rfl) | ((with_reducible show List.Nodup _); decide) | (exfalso; with_reducible contradiction) | skip
end
def c3 : Ct := Aq (lc LB.asl l0) (fun p => True) (fun p => .t (.v (.bool true)))
section
attribute [local go_sem] c6 c7 c8 c9 vI vJ rm JQ R7 BC M9 AU AT WM RJ lm decide_true uc Bool.false_bne AS.opn AS.cls AS.nilb AS.renb AS.up Bool.not_false Bool.not_true List.set_set List.set_cons_zero List.set_cons_succ List.set_nil List.mem_singleton forall_eq
set_option maxHeartbeats 6400000 in
theorem sh {G : Gt} (hG : Ah G) (hh : G.e 6 = AA 1 c6 ∧ G.e 7 = AA 0 c7 ∧ G.e 8 = AA 0 c8 ∧ G.e 9 = AA 0 c9 ∧ G.e 10 = AA 0 vI ∧ G.e 11 = AA 0 vJ ∧ G.e 12 = AA 0 rm) : Gd G 3 (AA 0 c3) := by
 refine Nh (dp := fun n => !(Nat.beq n 100005)) (fn := Tryz.f3) (n := 1) rfl rfl hG ?_
 rintro ⟨b, ⟨⟩⟩ hpre
 try dsimp only
 have z := ZA (r := opn b) (by rw [Kc]; decide) (by rw [Kc]; decide)
 rw [Kc, ZF] at z
 have z2 := jq (r := (Vx (opn b)).2) (s := (pe b).spool) (by omega) (by omega) z.1.2.1
 rw [ZG] at z2
 have zd := pf (b := b) (by omega) (by omega)
 have zw := z.1
 obtain ⟨H, hH⟩ : ∃ H, pe b = H := ⟨_, rfl⟩
 obtain ⟨N, hN⟩ : ∃ N, (fN b).1.1 = N := ⟨_, rfl⟩
 obtain ⟨D, hD⟩ : ∃ D, um b = D := ⟨_, rfl⟩
 obtain ⟨W, hW⟩ : ∃ W, vr b = W := ⟨_, rfl⟩
 rw [hH] at zw
 rw [hD] at zd
 by_cases L : (b.length : Int) > 1048576
 ·simp -implicitDefEqProofs only [Tryz.f3, L, decide_true, go_sem, hh, seval]
  with_reducible repeat' (first | apply ai | intro _ | ((first | apply s1 | apply s3 | apply s4) <;> intro hb <;> simp -implicitDefEqProofs only [hb, go_sem, hh, seval] <;> try simp only [qz] at hb))
  all_goals first | with_reducible rfl | omega | with_reducible assumption | ((with_reducible show _ = true); rfl) | ((with_reducible show List.Nodup _); decide) | (exfalso; with_reducible contradiction) | skip
 ·rcases aG (h := H) (n := N) (to := D) (w := W) with e | ⟨hok, M, e, mok, ml⟩
  ·simp -implicitDefEqProofs only [Tryz.f3, L, hH, hN, hD, hW, e, eq_self, decide_true, decide_false, go_sem, hh, seval]
   with_reducible repeat' (first | apply ai | intro _ | ((first | apply s1 | apply s3 | apply s4) <;> intro hb <;> simp -implicitDefEqProofs only [hb, go_sem, hh, seval] <;> try simp only [qz] at hb))
   all_goals (try simp only [maxLen, tn] at *)
   all_goals first | with_reducible rfl | omega | with_reducible assumption | ((with_reducible show _ = true); rfl) | ((with_reducible show List.Nodup _); decide) | (exfalso; with_reducible contradiction) | skip
   refine Ag (Le.frzL [1031, 2031]) (Ab ?_)
   simp -implicitDefEqProofs only [e, eq_self, decide_true, decide_false, go_sem, hh, seval]
   with_reducible repeat' (first | apply ai | intro _ | ((first | apply s1 | apply s3 | apply s4) <;> intro hb <;> simp -implicitDefEqProofs only [hb, go_sem, hh, seval] <;> try simp only [qz] at hb))
   all_goals (try simp only [maxLen, tn] at *)
   all_goals first | with_reducible rfl | omega | with_reducible assumption | ((with_reducible show _ = true); rfl) | ((with_reducible show List.Nodup _); decide) | (exfalso; with_reducible contradiction) | skip
  ·have msz := HE mok
   have m4 := mok.2.2.2.1.2
   have b3 := Ak mok
   have hcf := hok.2.1
   have ocf := zw.1
   have osp := zw.2.1
   have hms : ∀ a ∈ M.to, a.domain.size ≤ 2000000 := fun a ha => by have : a.domain.size ≤ 1048576 := (msz.2.1.2 a ha).2; omega
   have hmf : M.frm.domain.size ≤ 2000000 := by have : M.frm.domain.size ≤ 1048576 := msz.1.2; omega
   have hmb : ∀ s ∈ M.body, s.size ≤ 2000000 := fun s hs => by have : s.size ≤ 1048576 := msz.2.2.2 s hs; omega
   simp -implicitDefEqProofs only [Tryz.f3, L, hH, hN, hD, hW, e, eq_self, decide_true, decide_false, go_sem, hh, seval]
   with_reducible repeat' (first | apply ai | intro _ | ((first | apply s1 | apply s3 | apply s4) <;> intro hb <;> simp -implicitDefEqProofs only [hb, go_sem, hh, seval] <;> try simp only [qz] at hb))
   all_goals (try simp only [maxLen, tn] at *)
   all_goals first | with_reducible rfl | omega | with_reducible assumption | ((with_reducible show _ = true); rfl) | ((with_reducible show List.Nodup _); decide) | (exfalso; with_reducible contradiction) | skip
   refine Ag (Le.frzL [1031, 2031]) (Ab ?_)
   simp -implicitDefEqProofs only [e, eq_self, decide_true, decide_false, go_sem, hh, seval]
   with_reducible repeat' (first | apply ai | intro _ | ((first | apply s1 | apply s3 | apply s4) <;> intro hb <;> simp -implicitDefEqProofs only [hb, go_sem, hh, seval] <;> try simp only [qz] at hb))
   all_goals (try simp only [maxLen, tn] at *)
   all_goals first | with_reducible rfl | omega | with_reducible assumption | ((with_reducible show _ = true); rfl) | ((with_reducible show List.Nodup _); decide) | (exfalso; with_reducible contradiction) | skip
   refine AF [] (ι := {i : Nat // i ≤ M.to.length}) (fun p => ⟨[(3, .pb 1003 0), (4, .t (.v (.int .i64 N))), (5, .t (.v (.string D))), (6, .t (.v (.int .i64 W))), (7, .pb 1007 0), (11, .t (.v (.int .i64 p.1)))], [(1003, some (.box ((Al H).map .t))), (1007, some (.box ((Ca M).map .t)))]⟩) (fun p => M.to.length - p.1) ⟨0, Nat.zero_le _⟩ rfl ?_ ?_
   ·simp -implicitDefEqProofs only [go_sem, hh, seval]
    first | (simp; done) | skip
   ·rintro ⟨i, hi⟩
    dsimp only
    by_cases hlt : (i : Int) < M.to.length
    ·obtain ⟨l1, l2, l3, l4, k9, j9, g1, g2, g3, g4, g5⟩ := ml _ (AE (xs := M.to) (j := i) (by omega))
     have ls := hms _ (AE (xs := M.to) (j := i) (by omega))
     have la := msz.2.1.2 _ (AE (xs := M.to) (j := i) (by omega))
     have c4 : ¬ D = ⟨#[]⟩ → BL (DG H.conf (M.to.getD i default)) = true := fun q => Ak (l4 q)
     obtain ⟨A, hA⟩ : ∃ A, M.to.getD i default = A := ⟨_, rfl⟩
     rw [hA] at l1 l2 l3 l4 g4 ls la c4
     have dn : decide (D = ⟨#[]⟩) = true ∨ BL (DG H.conf A) = true := by
      by_cases q : D = ⟨#[]⟩
      ·exact .inl (decide_eq_true q)
      ·exact .inr (c4 q)
     simp -implicitDefEqProofs only [hlt, hA, l3, eq_self, decide_true, decide_false, tn, go_sem, hh, seval]
     with_reducible repeat' (first | apply ai | intro _ | ((first | apply s1 | apply s3 | apply s4) <;> intro hb <;> simp -implicitDefEqProofs only [hb, go_sem, hh, seval] <;> try simp only [qz] at hb))
     all_goals (try simp only [maxLen, tn, AU, AT, qa, qb] at *)
     all_goals (try simp only [hA])
     all_goals first | with_reducible rfl | omega | with_reducible assumption | ((with_reducible show _ = true); rfl) | ((with_reducible show List.Nodup _); decide) | (exfalso; with_reducible contradiction) | (with_reducible exact ⟨ocf, hcf, ls, l1⟩) | (with_reducible exact ⟨ocf, hcf, la, l2⟩) | (exfalso; rcases dn with dn | dn <;> with_reducible contradiction) | skip
     all_goals
      refine AF [] (ι := {p : Nat × Bool // p.1 ≤ H.spool.items.length ∧ (p.2 = false → ∀ k, k < p.1 → ∀ j, j < (H.spool.items.getD k default).to.length → ¬ ba H N A W k j)}) (fun p => ⟨[(3, .pb 1003 0), (4, .t (.v (.int .i64 N))), (5, .t (.v (.string D))), (6, .t (.v (.int .i64 W))), (7, .pb 1007 0), (11, .t (.v (.int .i64 i))), (12, .t (.v (.bool p.1.2))), (13, .t (.v (.int .i64 p.1.1)))], [(1003, some (.box ((Al H).map .t))), (1007, some (.box ((Ca M).map .t)))]⟩) (fun p => H.spool.items.length - p.1.1) ⟨(0, false), Nat.zero_le _, fun _ k hk => absurd hk (Nat.not_lt_zero _)⟩ rfl ?_ ?_
      ·simp -implicitDefEqProofs only [go_sem, hh, seval]
       first | (simp; done) | skip
      ·rintro ⟨⟨k, d⟩, hk, hd⟩
       dsimp only at hk hd ⊢
       by_cases hkt : (k : Int) < H.spool.items.length
       ·have ox := osp.2 _ (AE (xs := H.spool.items) (j := k) (by omega))
        have oxl := ox.2.1.1
        simp -implicitDefEqProofs only [hkt, eq_self, decide_true, decide_false, tn, go_sem, hh, seval]
        with_reducible repeat' (first | apply ai | intro _ | ((first | apply s1 | apply s3 | apply s4) <;> intro hb <;> simp -implicitDefEqProofs only [hb, go_sem, hh, seval] <;> try simp only [qz] at hb))
        all_goals (try simp only [maxLen, tn] at *)
        all_goals first | with_reducible rfl | omega | with_reducible assumption | ((with_reducible show _ = true); rfl) | ((with_reducible show List.Nodup _); decide) | (exfalso; with_reducible contradiction) | skip
        refine AF [] (ι := {p : Nat × Bool // p.1 ≤ (H.spool.items.getD k default).to.length ∧ (p.2 = false → d = false ∧ ∀ j, j < p.1 → ¬ ba H N A W k j)}) (fun p => ⟨[(3, .pb 1003 0), (4, .t (.v (.int .i64 N))), (5, .t (.v (.string D))), (6, .t (.v (.int .i64 W))), (7, .pb 1007 0), (11, .t (.v (.int .i64 i))), (12, .t (.v (.bool p.1.2))), (13, .t (.v (.int .i64 k))), (14, .t (.v (.int .i64 p.1.1)))], [(1003, some (.box ((Al H).map .t))), (1007, some (.box ((Ca M).map .t)))]⟩) (fun p => (H.spool.items.getD k default).to.length - p.1.1) ⟨(0, d), Nat.zero_le _, fun q => ⟨q, fun j hj => absurd hj (Nat.not_lt_zero _)⟩⟩ rfl ?_ ?_
        ·simp -implicitDefEqProofs only [go_sem, hh, seval]
         first | (simp; done) | skip
        ·rintro ⟨⟨j, f⟩, hj, hf⟩
         dsimp only at hj hf ⊢
         by_cases hjt : (j : Int) < (H.spool.items.getD k default).to.length
         ·have nxt : ∀ g : Bool, (g = false → f = false ∧ ¬ ba H N A W k j) → (g = false → d = false ∧ ∀ q, q < j + 1 → ¬ ba H N A W k q) := fun g hg e => by
            obtain ⟨e1, e2⟩ := hg e
            obtain ⟨e3, e4⟩ := hf e1
            refine ⟨e3, fun q hq => ?_⟩
            by_cases e5 : q = j
            ·rw [e5]; exact e2
            ·exact e4 q (by omega)
          cases f
          ·simp -implicitDefEqProofs only [hkt, hlt, hjt, hA, eq_self, decide_true, decide_false, tn, go_sem, hh, seval]
           with_reducible repeat' (first | apply ai | intro _ | ((first | apply s1 | apply s3 | apply s4) <;> intro hb <;> simp -implicitDefEqProofs only [hb, go_sem, hh, seval] <;> try simp only [qz] at hb))
           all_goals (try simp only [maxLen, tn] at *)
           all_goals (try simp only [hA])
           all_goals first | with_reducible rfl | omega | with_reducible assumption | ((with_reducible show _ = true); rfl) | ((with_reducible show List.Nodup _); decide) | (exfalso; with_reducible contradiction) | skip
           all_goals first
            | (refine ⟨⟨(j + 1, true), by dsimp only; omega, nxt _ fun e => (by cases e)⟩, by dsimp only; omega, ?_⟩
               simp -implicitDefEqProofs only [go_sem, hh, seval]
               try simp
               done)
            | (refine ⟨⟨(j + 1, false), by dsimp only; omega, nxt _ fun _ => ⟨by trivial, fun q => ?_⟩⟩, by dsimp only; omega, ?_⟩
               ·obtain ⟨q1, q2, q3⟩ := q
                first | exact absurd q1 (by with_reducible assumption) | exact absurd q2 (by with_reducible assumption) | exact absurd (q2.trans hA.symm) (by with_reducible assumption) | exact absurd q3 (by omega)
               ·simp -implicitDefEqProofs only [go_sem, hh, seval]
                try simp
                done)
            | (refine ⟨⟨(j + 1, decide (((H.spool.items.getD k default).to.getD j default).next ≤ W)), by dsimp only; omega, nxt _ fun e => ⟨by trivial, fun q => (by rw [decide_eq_false_iff_not] at e; exact e q.2.2)⟩⟩, by dsimp only; omega, ?_⟩
               simp -implicitDefEqProofs only [go_sem, hh, seval]
               try simp
               done)
            | skip
          ·simp -implicitDefEqProofs only [hkt, hlt, hjt, hA, eq_self, decide_true, decide_false, tn, go_sem, hh, seval]
           with_reducible repeat' (first | apply ai | intro _ | ((first | apply s1 | apply s3 | apply s4) <;> intro hb <;> simp -implicitDefEqProofs only [hb, go_sem, hh, seval] <;> try simp only [qz] at hb))
           all_goals (try simp only [maxLen, tn] at *)
           all_goals first | with_reducible rfl | omega | with_reducible assumption | ((with_reducible show _ = true); rfl) | ((with_reducible show List.Nodup _); decide) | (exfalso; with_reducible contradiction) | skip
           refine ⟨⟨(j + 1, true), by dsimp only; omega, nxt _ fun e => (by cases e)⟩, by dsimp only; omega, ?_⟩
           simp -implicitDefEqProofs only [go_sem, hh, seval]
           first | (simp; done) | skip
         ·simp -implicitDefEqProofs only [hkt, hjt, eq_self, decide_true, decide_false, tn, go_sem, hh, seval]
          with_reducible repeat' (first | apply ai | intro _ | ((first | apply s1 | apply s3 | apply s4) <;> intro hb <;> simp -implicitDefEqProofs only [hb, go_sem, hh, seval] <;> try simp only [qz] at hb))
          all_goals (try simp only [maxLen, tn] at *)
          all_goals first | with_reducible rfl | omega | with_reducible assumption | ((with_reducible show _ = true); rfl) | ((with_reducible show List.Nodup _); decide) | (exfalso; with_reducible contradiction) | skip
          refine ⟨⟨(k + 1, f), by dsimp only; omega, fun e q hq j2 hj2 => ?_⟩, by dsimp only; omega, ?_⟩
          ·obtain ⟨e1, e2⟩ := hf e
           by_cases e3 : q = k
           ·subst e3; exact e2 j2 (by omega)
           ·exact hd e1 q (by dsimp only at hq; omega) j2 hj2
          ·simp -implicitDefEqProofs only [go_sem, hh, seval]
           first | (simp; done) | skip
       ·have hdt : d = true := by
          cases d
          ·exact absurd ⟨g3, g4, g5⟩ (hd rfl k9 (by omega) j9 g2)
          ·rfl
        subst hdt
        simp -implicitDefEqProofs only [hkt, eq_self, decide_true, decide_false, tn, go_sem, hh, seval]
        with_reducible repeat' (first | apply ai | intro _ | ((first | apply s1 | apply s3 | apply s4) <;> intro hb <;> simp -implicitDefEqProofs only [hb, go_sem, hh, seval] <;> try simp only [qz] at hb))
        all_goals (try simp only [maxLen, tn] at *)
        all_goals first | with_reducible rfl | omega | with_reducible assumption | ((with_reducible show _ = true); rfl) | ((with_reducible show List.Nodup _); decide) | (exfalso; with_reducible contradiction) | skip
        refine ⟨⟨i + 1, by omega⟩, by dsimp only; omega, ?_⟩
        simp -implicitDefEqProofs only [go_sem, hh, seval]
        first | (simp; done) | skip
    ·simp -implicitDefEqProofs only [hlt, b3, eq_self, decide_true, decide_false, go_sem, hh, seval]
     with_reducible repeat' (first | apply ai | intro _ | ((first | apply s1 | apply s3 | apply s4) <;> intro hb <;> simp -implicitDefEqProofs only [hb, go_sem, hh, seval] <;> try simp only [qz] at hb))
     all_goals (try simp only [maxLen, tn] at *)
     all_goals first | with_reducible rfl | omega | with_reducible assumption | ((with_reducible show _ = true); rfl) | ((with_reducible show List.Nodup _); decide) | (exfalso; with_reducible contradiction) | (with_reducible exact hms _ (by assumption)) | (with_reducible exact hmb _ (by assumption)) | skip
end
end Go.V
namespace Go.V
open Go Go.Proofs Go.ChangeShapes Go.WideShapes Go.ChangeAt Go.RowKit
set_option maxRecDepth 100000
section
variable {H : Type} {enc : TypeId × Value → H} {W : World} {P : Program}
def pW (W : World) : Nat → Prop := fun b => b < W.heap.size
def rT (P : Program) (W : World) (enc : TypeId × Value → H) (t : TypeId) (q : List T → Prop) : Prop :=
 ∀ (n : Nat) (cs : List Value) (x : DataW H × List MemPlace), DataW.trod enc P W 0 (fun _ => true) true n t cs = some x → ∃ ts, q ts ∧ CF W (pW W) ts cs
theorem rT.slice {α : Type} (E : Er α) {t e : TypeId} (u : P.underlying t = some (.slice e)) (hn : P.cellsOf e = E.n) (h0 : 0 < E.n) (he : rT P W enc e fun ts => ∃ a, ts = E.enc a) :
    rT P W enc t fun ts => ∃ xs : List α, ts = [.sl E.n (xs.map E.enc)] := fun n cs x h => by
 rcases DataW.trod_slice u h with ⟨rfl, _⟩ | ⟨a, len, cap, elems, rest, m, rfl, rfl, _, _, hlc, hcm, hel, hes, _⟩
 ·exact ⟨_, ⟨[], rfl⟩, .cons _ _ _ _ (.nil _) .nil⟩
 ·rw [hn] at hes
  have key : ∀ k, k ≤ len → ∃ (xs : List α) (vs : List Value), xs.length = k ∧ vs.length = k * E.n ∧ CF W (pW W) (xs.map E.enc).flatten vs ∧ (0 < k → a.block < W.heap.size) ∧ ∀ j v, vs[j]? = some v → W.cell? (a.add j) = some v := fun k => by
   induction k with
   | zero => exact fun _ => ⟨[], [], rfl, by simp, .nil, fun h => absurd h (Nat.lt_irrefl _), fun j v hj => by simp at hj⟩
   | succ k ih =>
     intro hk
     obtain ⟨xs, vs, h1, h2, h3, h4, h5⟩ := ih (by omega)
     have h6 := hes k (by omega)
     rw [List.getElem?_eq_getElem (by omega)] at h6
     obtain ⟨cs, h7, h8⟩ := Option.bind_eq_some_iff.1 h6
     obtain ⟨ts, ⟨y, rfl⟩, h9⟩ := he _ _ _ h8
     obtain ⟨q1, q2, q3⟩ := World.cells?_some h7
     have hb : a.block < W.heap.size := by
      have := World.cells?_block h7 h0
      rwa [C5] at this
     refine ⟨xs ++ [y], vs ++ cs, by simp [h1], ?_, ?_, fun _ => hb, fun j v hj => ?_⟩
     ·have : cs.length = E.n := by rw [← h9.len, E.len]
      rw [List.length_append, h2, this, Nat.succ_mul]
     ·rw [List.map_append, List.flatten_append]
      exact h3.append (by simpa using h9)
     ·by_cases hj2 : j < vs.length
      ·rw [List.getElem?_append_left hj2] at hj
       exact h5 j v hj
      ·rw [List.getElem?_append_right (by omega)] at hj
       have hjl : j - vs.length < E.n := by
        have := (List.getElem?_eq_some_iff.1 hj).1
        have h10 : cs.length = E.n := by rw [← h9.len, E.len]
        omega
       have := q3 (j - vs.length) hjl
       rw [FS] at this
       rw [show j = k * E.n + (j - vs.length) from by omega, this]
       exact hj
  obtain ⟨xs, vs, h1, h2, h3, h4, h5⟩ := key len (Nat.le_refl _)
  refine ⟨_, ⟨xs, rfl⟩, .cons _ _ _ _ (.sl E.n _ a len cap vs (by simp [h1]) hlc hcm (fun hne => ?_) (fun c hc => ?_) h5 h3) .nil⟩
  ·refine h4 ?_
   rcases Nat.eq_zero_or_pos len with h | h
   ·exact absurd (by rw [List.eq_nil_of_length_eq_zero (h1.trans h)]; rfl) hne
   ·exact h
  ·obtain ⟨y, _, rfl⟩ := List.mem_map.1 hc
   exact E.len y
end
end Go.V
namespace Go.Proofs.YtcihecoggoeelaaGreatDoor
open Go Go.Proofs Go.ChangeShapes Go.WideShapes Go.ChangeAt Go.RowKit
set_option maxRecDepth 100000
theorem own : ownKnob Tryz.prog.godebug = none := by kernel_rfl
def flatD : Nat → DataW Unit → List Value
 | 0, _ => []
 | _ + 1, .lit (.int k v) => [.int k v]
 | n + 1, .agg xs => xs.flatMap (flatD n)
 | _ + 1, _ => []
noncomputable def gOf (n : String) : Nat := (Tryz.prog.globalNamed n).getD 0
noncomputable def layAt (n : String) (d : DataW Unit) (h : Array Obj) : Array Obj := h.modify (gOf n) fun
 | .cells _ t frozen => .cells (flatD 5 d).toArray t frozen
 | o => o
noncomputable def laidWorld (os : Os) : World :=
 { World.holding Tryz.prog os ⟨#[], #[], []⟩ with heap := layAt "unicode/utf8.first" Rows.laid_unicode_utf8_first (layAt "unicode/utf8.acceptRanges" Rows.laid_unicode_utf8_acceptRanges (World.holding Tryz.prog os ⟨#[], #[], []⟩).heap) }
noncomputable def args0 : Array Value := #[.slice none 0 0]
theorem laid_met (os : Os) : laidMet Tryz.prog Rows.fnHostPartRow.laid ((laidWorld os).forCall (fun _ _ => 0) ⟨#[], args0, []⟩).memory :=
 laidMet_of_run' 8 (by kernel_rfl) (by kernel_rfl)
theorem reads (os : Os) {H : Type} (enc : TypeId × Value → H) : ∃ places, DataW.whole enc Tryz.prog ((laidWorld os).forCall (fun _ _ => 0) ⟨#[], args0, []⟩).memory Tryz.f3.params.toList Rows.fnHostPartSpec.vars false args0.toList 8 = some ([.nil], [], places) :=
 ⟨[], by kernel_rfl⟩
theorem func3 : Tryz.prog.funcs[3]? = some Tryz.f3 := by kernel_rfl
def Every : Prop := ∀ (H : Type) (enc : TypeId × Value → H) (W : World) (base : Nat) (args : Array Value) (ds gs : List (DataW H)) (before : List MemPlace)
    (_ : ∀ (j : Nat) t v, Tryz.f3.params[j]? = some t → args[j]? = some v → Value.okWide Tryz.prog W .any base t v)
    (_ : DataW.Whole enc Tryz.prog Tryz.f3.params.toList Rows.fnHostPartSpec.vars false W args.toList ds gs before) (_ : W.ShapedOpen Tryz.prog),
    Calls Tryz.prog 3 args W fun e W' => ∃ v, e = .returned v ∧ Rows.fnHostPartSpec.post enc Tryz.prog Tryz.f3 false true false false W args v W'
theorem lifted (hE : Every) (os : Os) (started : os.Started) (H : Type) (enc : TypeId × Value → H) (F : Stop.Interp) :
    ReturnsInHanded {} Tryz.checked os 3 .any ((OpenSpec.ofChange Rows.fnHostPartSpec).preRow enc Tryz.prog Tryz.f3 Rows.fnHostPartRow.domain false Rows.fnHostPartRow.laid) (((OpenSpec.ofChange Rows.fnHostPartSpec).at F).post enc Tryz.prog Tryz.f3 false true false false) := by
 obtain ⟨places, hx⟩ := reads os enc
 refine returnsInHanded_of_row (C := Tryz.checked) (s := OpenSpec.ofChange Rows.fnHostPartSpec) own started (by kernel_rfl) func3
  (witness_row_at (enc := enc) (C := Tryz.checked) false (laidWorld os) args0 rfl (by kernel_rfl) (by kernel_rfl) (by kernel_rfl)
    (OpenSpec.preRow_of_cond 8 hx (by kernel_rfl) (fun k hk => by cases hk) (by kernel_rfl) (laid_met os))) ?_
 intro W base args ds gs before hval hW _ _ _ _ hS _
 exact hE H enc W base args ds gs before hval hW hS
theorem said (hE : Every) : Rows.FnHostPartSaid :=
 OpenClaim.holds_of_cond 3 Tryz.f3 rfl rfl rfl rfl rfl rfl rfl ⟨rfl, rfl, rfl, rfl, rfl⟩ rfl rfl rfl rfl rfl (by kernel_rfl) func3 (by kernel_rfl)
  (of_decide_eq_true (by kernel_rfl)) (by unfold Func.isWrapper; first | (rw [if_pos (by decide +kernel)]; kernel_rfl) | (rw [if_neg (by decide +kernel)]; exact ⟨rfl, rfl⟩))
  (fun os started H enc _ F => by rw [OpenClaim.pre_eq_preRow]; exact lifted hE os started H enc F)
theorem params3 : Tryz.f3.params = #[22] := rfl
theorem plain (f : FuncId) (fn : Func) (hf : Tryz.pinned.checked.prog.funcNamed "loop.example/satchel/laws.FnHostPart" = some f) (hfn : Tryz.pinned.checked.prog.funcs[f]? = some fn) :
    false = Tryz.pinned.checked.prog.looks [] ∧ ∀ (j : Nat) t, fn.params[j]? = some t → Tryz.pinned.checked.prog.wantsStandIn t = false := by
 obtain rfl : f = 3 := Option.some.inj ((show Tryz.prog.funcNamed "loop.example/satchel/laws.FnHostPart" = some 3 by kernel_rfl).symm.trans hf) |>.symm
 obtain rfl : fn = Tryz.f3 := (Option.some.inj (func3.symm.trans hfn)).symm
 refine ⟨by kernel_rfl, fun j t ht => ?_⟩
 rw [params3] at ht
 have hm : t ∈ [22] := by simpa using Array.mem_of_getElem? ht
 have hall : ([22].all fun u => !Tryz.prog.wantsStandIn u) = true := by kernel_rfl
 exact (show Tryz.prog.wantsStandIn t = false by simpa using List.all_eq_true.1 hall t hm)
theorem card_of (hE : Every) : Rows.FnHostPartCardSaid :=
 Claim7.holds_tied_plain_at .later [] _ _ _ _ (said hE) (fun _ h => by cases h) (by kernel_rfl) (fun _ h => by cases h) fnHostPart_row_tie rfl ⟨rfl, rfl⟩ (by kernel_rfl) rfl plain (by kernel_rfl)
end Go.Proofs.YtcihecoggoeelaaGreatDoor
namespace Go.V
open Go Go.Proofs Go.ChangeShapes Go.WideShapes Go.ChangeAt Go.RowKit
set_option maxRecDepth 100000
set_option linter.unusedVariables false
set_option maxHeartbeats 4000000 in
theorem con3 (m : Int) (b : List UInt8) : P5 Tryz.prog m 3 ((lc LB.asl l0).enc (b, ())) ((lc LB.asl l0).enc (b, ())) (.t (.v (.bool true))) := by
 have g0 : K8 Tryz.prog (P6 m []) ∧ EZ (P6 m []) := MQ
 have g1 := AB g0 (oD g0)
 have g2 := AB g1 (og g1)
 have g3 := AB g2 (oH g2 rfl)
 have g4 := AB g3 (oG g3 rfl)
 have g5 := AB g4 (du g4 rfl)
 have g6 := AB g5 (pM g5)
 have g7 := AB g6 (oy g6)
 have g8 := AB g7 (pN g7 rfl)
 have g9 := AB g8 (oQ g8 ⟨rfl, rfl⟩)
 have g10 := AB g9 (pK g9 rfl)
 have g11 := AB g10 (dK g10)
 have g12 := AB g11 (dH g11)
 have g13 := AB g12 (dN g12 rfl)
 have g14 := AB g13 (dF g13 ⟨rfl, rfl⟩)
 have g15 := AB g14 (dM g14)
 have g16 := AB g15 (pH g15 ⟨rfl, rfl, rfl⟩)
 have g17 := AB g16 (pI g16)
 have g18 := AB g17 (pJ g17)
 have g19 := AB g18 (d5 g18 ⟨rfl, rfl⟩)
 have g20 := AB g19 (db g19 ⟨rfl, rfl, rfl, rfl, rfl⟩)
 have g21 := AB g20 (pL g20 ⟨rfl, rfl⟩)
 have g22 := AB g21 (oP g21 ⟨rfl, rfl, rfl, rfl, rfl⟩)
 have g23 := AB g22 (dG g22)
 have g24 := AB g23 (ol g23 ⟨rfl, rfl, rfl, rfl, rfl⟩)
 have g25 := AB g24 (d7 g24 ⟨rfl, rfl, rfl⟩)
 have g26 := AB g25 (dE g25 rfl)
 have g27 := AB g26 (oh g26 ⟨rfl, rfl⟩)
 have g28 := AB g27 (eE g27 rfl)
 have g29 := AB g28 (dl g28 ⟨rfl, rfl⟩)
 have g30 := AB g29 (dI g29 ⟨rfl, rfl, rfl, rfl⟩)
 have g31 := AB g30 (eJ g30 ⟨rfl, rfl, rfl⟩)
 have g32 := AB g31 (dr g31)
 have g33 := AB g32 (dL g32 rfl)
 have g34 := AB g33 (ov g33 ⟨rfl, rfl⟩)
 have g35 := AB g34 (dD g34 rfl)
 have g36 := AB g35 (ow g35 ⟨rfl, rfl, rfl, rfl⟩)
 have g37 := AB g36 (dO g36)
 have g38 := AB g37 (dP g37)
 have g39 := AB g38 (eL g38)
 have g40 := AB g39 (eW g39 rfl)
 have g41 := AB g40 (fC g40)
 have g42 := AB g41 (eg g41 rfl)
 have g43 := AB g42 (ej g42 rfl)
 have g44 := AB g43 (en g43 rfl)
 have g45 := AB g44 (eh g44 rfl)
 have g46 := AB g45 (ep g45)
 have g47 := AB g46 (ew g46)
 have g48 := AB g47 (fD g47)
 have g49 := AB g48 (ex g48 rfl)
 have g50 := AB g49 (eX g49 ⟨rfl, rfl, rfl, rfl, rfl, rfl, rfl⟩)
 have g51 := AB g50 (ey g50)
 have g52 := AB g51 (e9 g51)
 have g53 := AB g52 (fG g52)
 have g54 := AB g53 (fK g53 ⟨rfl, rfl⟩)
 have g55 := AB g54 (fH g54 rfl)
 have g56 := AB g55 (dq g55)
 have g57 := AB g56 (dJ g56 rfl)
 have g58 := AB g57 (ot g57 ⟨rfl, rfl⟩)
 have g59 := AB g58 (fI g58 ⟨rfl, rfl, rfl⟩)
 have g60 := AB g59 (fE g59 ⟨rfl, rfl, rfl, rfl, rfl⟩)
 have g61 := AB g60 (fJ g60 rfl)
 have g62 := AB g61 (fF g61 ⟨rfl, rfl, rfl⟩)
 have g63 := AB g62 (fA g62 ⟨rfl, rfl, rfl, rfl⟩)
 have g64 := AB g63 (eY g63 ⟨rfl, rfl, rfl⟩)
 have g65 := AB g64 (eZ g64)
 have g66 := AB g65 (eM g65 ⟨rfl, rfl, rfl, rfl⟩)
 have g67 := AB g66 (dQ g66)
 have g68 := AB g67 (dR g67)
 have g69 := AB g68 (oz g68 ⟨rfl, rfl, rfl, rfl⟩)
 have g70 := AB g69 (eA g69 ⟨rfl, rfl, rfl, rfl, rfl, rfl, rfl, rfl⟩)
 have g71 := AB g70 (oO g70)
 have g72 := AB g71 (pO g71 ⟨rfl, rfl⟩)
 have g73 := AB g72 (oR g72 rfl)
 have g74 := AB g73 (eN g73 ⟨rfl, rfl⟩)
 have g75 := AB g74 (ea g74)
 have g76 := AB g75 (d8 g75 rfl)
 have g77 := AB g76 (eK g76)
 have g78 := AB g77 (d9 g77 ⟨rfl, rfl⟩)
 have g79 := AB g78 (fB g78 ⟨rfl, rfl⟩)
 have g80 := AB g79 (eb g79 ⟨rfl, rfl, rfl, rfl, rfl, rfl⟩)
 have g81 := AB g80 (eO g80 ⟨rfl, rfl, rfl, rfl, rfl⟩)
 have g82 := AB g81 (eB g81 ⟨rfl, rfl, rfl, rfl, rfl, rfl⟩)
 have g83 := AB g82 (eP g82)
 have g84 := AB g83 (eC g83 ⟨rfl, rfl, rfl, rfl, rfl, rfl⟩)
 have g85 := AB g84 (eQ g84 rfl)
 have g86 := AB g85 (eD g85 ⟨rfl, rfl, rfl⟩)
 have g87 := AB g86 (dk g86 ⟨rfl, rfl, rfl, rfl, rfl⟩)
 have g88 := AB g87 (d6 g87 ⟨rfl, rfl, rfl, rfl, rfl⟩)
 have g89 := AB g88 (dh g88 ⟨rfl, rfl, rfl⟩)
 have g90 := AB g89 (di g89 ⟨rfl, rfl⟩)
 have g91 := AB g90 (pY g90 ⟨rfl, rfl, rfl⟩)
 have g92 := AB g91 (dj g91 ⟨rfl, rfl, rfl, rfl, rfl, rfl, rfl⟩)
 have g93 := AB g92 (dB g92 ⟨rfl, rfl, rfl⟩)
 have g94 := AB g93 (dW g93 ⟨rfl, rfl⟩)
 have g95 := AB g94 (pC g94 ⟨rfl, rfl, rfl⟩)
 have g96 := AB g95 (dC g95 ⟨rfl, rfl, rfl⟩)
 have g97 := AB g96 (oe g96 ⟨rfl, rfl, rfl, rfl, rfl, rfl, rfl⟩)
 have g98 := AB g97 (oE g97 ⟨rfl, rfl, rfl⟩)
 have g99 := AB g98 (oF g98 ⟨rfl, rfl⟩)
 have g100 := AB g99 (si g99 ⟨rfl, rfl, rfl, rfl, rfl⟩)
 have g101 := AB g100 (oJ g100)
 have g102 := AB g101 (oI g101 rfl)
 have g103 := Fn g102 (eG m)
 have g104 := AB g103 (dv g103 rfl)
 have g105 := Fn g104 (ec m)
 have g106 := AB g105 (eS g105 rfl)
 have g107 := Fn g106 (eT m)
 have g108 := AB g107 (eU g107)
 have g109 := AB g108 (ef g108)
 have g110 := AB g109 (eV g109 rfl)
 have g111 := AB g110 (eH g110 ⟨rfl, rfl, rfl, rfl⟩)
 have g112 := AB g111 (dw g111 rfl)
 have g113 := AB g112 (dX g112 ⟨rfl, rfl⟩)
 have g114 := AB g113 (pD g113 rfl)
 have g115 := AB g114 (oY g114)
 have g116 := AB g115 (dx g115)
 have g117 := AB g116 (eI g116)
 have g118 := AB g117 (dy g117 rfl)
 have g119 := AB g118 (dz g118 rfl)
 have g120 := AB g119 (dY g119 ⟨rfl, rfl, rfl⟩)
 have g121 := AB g120 (pE g120 ⟨rfl, rfl⟩)
 have g122 := AB g121 (oK g121 ⟨rfl, rfl⟩)
 have g123 := AB g122 (pX g122)
 have g124 := AB g123 (pV g123 rfl)
 have g125 := AB g124 (pP g124 rfl)
 have g126 := AB g125 (dc g125 ⟨rfl, rfl⟩)
 have g127 := AB g126 (pR g126 rfl)
 have g128 := AB g127 (pQ g127 rfl)
 have g129 := AB g128 (df g128 rfl)
 have g130 := AB g129 (pS g129 rfl)
 have g131 := AB g130 (oT g130 ⟨rfl, rfl, rfl⟩)
 have g132 := AB g131 (oU g131 ⟨rfl, rfl⟩)
 have g133 := AB g132 (oo g132 rfl)
 have g134 := AB g133 (pT g133)
 have g135 := AB g134 (oX g134 ⟨rfl, rfl⟩)
 have g136 := AB g135 (oc g135)
 have g137 := AB g136 (od g136 rfl)
 have g138 := AB g137 (dS g137 ⟨rfl, rfl, rfl, rfl, rfl, rfl⟩)
 have g139 := AB g138 (o0 g138 ⟨rfl, rfl⟩)
 have g140 := AB g139 (dZ g139)
 have g141 := AB g140 (pF g140 rfl)
 have g142 := AB g141 (oM g141 rfl)
 have g143 := AB g142 (o9 g142 ⟨rfl, rfl⟩)
 have g144 := AB g143 (dT g143 rfl)
 have g145 := AB g144 (pA g144 rfl)
 have g146 := Fn g145 (eF m)
 have g147 := AB g146 (dt g146 rfl)
 have g148 := AB g147 (dV g147 rfl)
 have g149 := AB g148 (dU g148)
 have g150 := AB g149 (pB g149 ⟨rfl, rfl⟩)
 have g151 := AB g150 (oB g150 ⟨rfl, rfl, rfl, rfl, rfl, rfl⟩)
 have g152 := AB g151 (oL g151)
 have g153 := AB g152 (d4 g152)
 have g154 := AB g153 (da g153 rfl)
 have g155 := AB g154 (pG g154 ⟨rfl, rfl⟩)
 have g156 := AB g155 (oN g155 ⟨rfl, rfl⟩)
 have g157 := AB g156 (sj g156 ⟨rfl, rfl, rfl, rfl, rfl, rfl⟩)
 have g158 := AB g157 (sk g157 ⟨rfl, rfl, rfl, rfl⟩)
 have g159 := AB g158 (oS g158)
 have g160 := AB g159 (oC g159)
 have g161 := AB g160 (sm g160 ⟨rfl, rfl⟩)
 have g162 := AB g161 (n8 g161 ⟨rfl, rfl, rfl⟩)
 have g163 := AB g162 (oV g162 ⟨rfl, rfl⟩)
 have g164 := AB g163 (n9 g163 ⟨rfl, rfl, rfl⟩)
 have g165 := AB g164 (oW g164 rfl)
 have g166 := AB g165 (ou g165 rfl)
 have g167 := AB g166 (pU g166 ⟨rfl, rfl⟩)
 have g168 := AB g167 (oZ g167 rfl)
 have g169 := AB g168 (oA g168 ⟨rfl, rfl, rfl, rfl, rfl⟩)
 have hg := sh g169 ⟨rfl, rfl, rfl, rfl, rfl, rfl, rfl⟩
 obtain ⟨res, h1, _, h3, _⟩ := hg.ro ((lc LB.asl l0).enc (b, ())) (fun r => r = .t (.v (.bool true))) (by
  show c3 _ _
  rw [c3, Ql, (lc LB.asl l0).ed]
  exact ⟨trivial, rfl⟩)
 rw [h1] at h3
 exact h3
section
variable {H : Type} {enc : TypeId × Value → H} {W : World}
theorem v3 : Tryz.prog.underlying 3 = some (.int .i64) := by kernel_rfl
theorem v5 : Tryz.prog.underlying 5 = some (.int .u8) := by kernel_rfl
theorem w5 : Tryz.prog.cellsOf 5 = 1 := by kernel_rfl
theorem rdBy : rT Tryz.prog W enc 5 fun ts => ∃ a, ts = LB.enc a := fun n cs x h => by
 obtain ⟨k, rfl, _, hs⟩ := DataW.trod_int v5 h
 have hb : 0 ≤ k ∧ k < 256 := by
  have e : (Lit.int .u8 k).wf = (decide ((0 : Int) ≤ k) && decide (k ≤ 255)) := rfl
  rw [e] at hs
  simp at hs
  omega
 refine ⟨_, ⟨UInt8.ofNat k.toNat, rfl⟩, .cons _ _ _ _ ?_ .nil⟩
 have e4 : (((UInt8.ofNat k.toNat).toNat : Nat) : Int) = k := by
  have : (UInt8.ofNat k.toNat).toNat = k.toNat := by simp; omega
  omega
 rw [e4]
 exact .v _ trivial
theorem v22 : Tryz.prog.underlying 22 = some (.slice 5) := by kernel_rfl
theorem glOk_of (h : W.ShapedOpen Tryz.prog) : ∃ m, LC m W (pW W) := by
 obtain ⟨cs, h1, h2, h3⟩ := h.1 0 #[.int .i64 0] 3 (Nat.lt_of_lt_of_le (Nat.lt_succ_self 0) (Nat.le_of_ble_eq_true (by kernel_rfl))) (by kernel_rfl)
 obtain ⟨ts, t1, _, t3⟩ := h3 (by kernel_rfl)
 have hts : ts = [3] := Option.some.inj (t1.symm.trans (by kernel_rfl))
 subst hts
 have hsz : cs.size = 1 := h2
 have h0 : cs[0]? = some cs[0] := Array.getElem?_eq_getElem (by omega)
 obtain ⟨u, hu, hok⟩ := t3 0 _ h0
 simp at hu
 subst hu
 unfold Cell.ok at hok
 rw [v3] at hok
 generalize cs[0] = v at h0 hok
 have hb : (0 : Nat) < W.heap.size := (Array.getElem?_eq_some_iff.1 h1).1
 cases v with
 | int k n =>
   have hk : k = .i64 := hok.1
   subst hk
   refine ⟨n, .rop _ _ [.int .i64 n] (fun _ => hb) (fun j u hj => ?_) (.cons _ _ _ _ (.v _ trivial) .nil)⟩
   cases j with
   | zero =>
     simp at hj
     subst hj
     simp [World.cell?, Addr.add, rJ, h1, h0]
   | succ j => simp at hj
 | _ => exact hok.elim
end
theorem every : YtcihecoggoeelaaGreatDoor.Every := by
 intro H enc W base args ds gs before hval0 hW hS
 have hval : ∀ (j : Nat) t v, Tryz.f3.params[j]? = some t → args[j]? = some v → Value.okWide Tryz.prog W .any base t v := hval0
 have hW' := hW
 obtain ⟨p, q, hA0, hV, rfl, hfz, hnd⟩ := hW
 have hA : DataW.TrodAll enc Tryz.prog W 0 (fun _ => true) true [22] args.toList ds p := hA0
 rw [YtcihecoggoeelaaGreatDoor.params3] at hval
 obtain ⟨u0, d0, rfl, rfl, h0⟩ := trodAll_one hA
 obtain ⟨rfl, rfl⟩ := trodVars_none hV
 have hlt : ∀ x ∈ (p) ++ [], x.block < W.heap.size := fun x hx => hW'.lt x hx
 have k0 := h0
 obtain ⟨n0, t0⟩ := h0
 obtain ⟨_, ⟨b, rfl⟩, r0⟩ := (rT.slice LB v22 w5 (by decide) rdBy) _ _ _ t0
 have e0 : u0.cells.toList = [u0] := by
  have := hval 0 22 u0 rfl rfl
  unfold Value.okWide at this
  rw [v22] at this
  cases u0 with
  | agg cs => simp only [Cell.okWide, v22, Cell.ok] at this
  | _ => rfl
 rw [e0] at r0
 have r0' : Ro W (pW W) (.sl 1 (b.map LB.enc)) u0 := by
  cases r0 with | cons _ _ _ _ h _ => exact h
 have a0 : AG ρ0 W (pW W) (.t (.sl 1 (b.map LB.enc))) u0 [] := .t _ _ r0'
 obtain ⟨m, hgl⟩ := glOk_of hS
 have hargs : AI ρ0 W (pW W) ((lc LB.asl l0).enc (b, ())) [u0] [] := .cons _ _ _ _ [] [] a0 .nil
 have hcall := con3 m b W (pW W) [u0] [] hgl hargs .nil (fun b hb => by cases hb) (fun b hb => hb)
 refine Calls.mono hcall fun e W' hq => ?_
 obtain ⟨v, pr', G, F, he, hfr, _, _, _, _, hv, _, _⟩ := hq
 obtain ⟨rfl, _⟩ := hv.val
 have hb : Below W.heap.size W W' := ⟨hfr.os, hfr.tape, hfr.output, hfr.size, fun k hk => hfr.block k hk (by simp)⟩
 refine ⟨_, he, _, _, _, [], p, [], hW', ?_, ?_, rfl, hb.frame _, fun h => by cases h⟩
 ·exact trodAll_mk1 (shut_bool (show Tryz.prog.underlying 4 = some .bool by kernel_rfl) _)
 ·have := trodAll_mk1 (Below.trod (by kernel_rfl) (by kernel_rfl) (of_decide_eq_true (by kernel_rfl)) k0 hb fun x hx => hlt x (by simp [hx]))
  exact this
end Go.V
namespace Go.Proofs.YtcihecoggoeelaaGreatDoor
theorem fnHostPart_card : Rows.FnHostPartCardSaid := card_of Go.V.every
end Go.Proofs.YtcihecoggoeelaaGreatDoor
