/- The row. No condition. -/
import Derived.Test.YthmjinhpngfdbaaGreatDoorKB
import Derived.Test.YthmjinhpngfdbaaGreatDoorXB
namespace Go.V
open Go Go.Proofs
set_option maxRecDepth 100000
set_option linter.unusedSimpArgs false
set_option linter.unusedVariables false
open Classical in
noncomputable def Al (s : Ss) (l : ByteArray) : (Ss × ByteArray) × Bool := (if l = ⟨#[46]⟩ then (if s.bad = true then ((⟨1, s.mail, s.bad, s.buf⟩, ⟨#[53, 53, 52, 32, 110, 111]⟩), false) else (if Ch s.mail.body then (if (s.mail.body.length : Int) ≥ 12 then ((⟨1, s.mail, s.bad, s.buf⟩, ⟨#[53, 53, 52, 32, 110, 111]⟩), false) else (if (Bf s.mail.body : Int) ≥ 4 then ((⟨1, s.mail, s.bad, s.buf⟩, ⟨#[53, 53, 52, 32, 114, 111, 117, 110, 100]⟩), false) else ((⟨1, s.mail, s.bad, s.buf⟩, ⟨#[50, 53, 48, 32, 116, 97, 107, 101, 110]⟩), true))) else ((⟨1, s.mail, s.bad, s.buf⟩, ⟨#[53, 53, 52, 32, 110, 111]⟩), false))) else (if l = ⟨#[]⟩ then (if (s.mail.body.length : Int) ≥ 12 then ((⟨s.state, s.mail, true, s.buf⟩, ⟨#[]⟩), false) else (if H0 l then ((⟨s.state, ⟨s.mail.frm, s.mail.to, s.mail.body ++ [l]⟩, s.bad, s.buf⟩, ⟨#[]⟩), false) else ((⟨s.state, s.mail, true, s.buf⟩, ⟨#[]⟩), false))) else (if AE l 0 = 46 then (if (s.mail.body.length : Int) ≥ 12 then ((⟨s.state, s.mail, true, s.buf⟩, ⟨#[]⟩), false) else (if H0 (l.extract 1 l.size) then ((⟨s.state, ⟨s.mail.frm, s.mail.to, s.mail.body ++ [l.extract 1 l.size]⟩, s.bad, s.buf⟩, ⟨#[]⟩), false) else ((⟨s.state, s.mail, true, s.buf⟩, ⟨#[]⟩), false))) else (if (s.mail.body.length : Int) ≥ 12 then ((⟨s.state, s.mail, true, s.buf⟩, ⟨#[]⟩), false) else (if H0 l then ((⟨s.state, ⟨s.mail.frm, s.mail.to, s.mail.body ++ [l]⟩, s.bad, s.buf⟩, ⟨#[]⟩), false) else ((⟨s.state, s.mail, true, s.buf⟩, ⟨#[]⟩), false))))))
theorem ln {s : Ss} {l : ByteArray} (h0 : l = ⟨#[46]⟩) (h1 : s.bad = true) : Al s l = ((⟨1, s.mail, s.bad, s.buf⟩, ⟨#[53, 53, 52, 32, 110, 111]⟩), false) := by unfold Al; rw [if_pos h0, if_pos h1]
theorem lp {s : Ss} {l : ByteArray} (h0 : l = ⟨#[46]⟩) (h1 : ¬ (s.bad = true)) (h2 : Ch s.mail.body) (h3 : (s.mail.body.length : Int) ≥ 12) : Al s l = ((⟨1, s.mail, s.bad, s.buf⟩, ⟨#[53, 53, 52, 32, 110, 111]⟩), false) := by unfold Al; rw [if_pos h0, if_neg h1, if_pos h2, if_pos h3]
theorem lq {s : Ss} {l : ByteArray} (h0 : l = ⟨#[46]⟩) (h1 : ¬ (s.bad = true)) (h2 : Ch s.mail.body) (h3 : ¬ ((s.mail.body.length : Int) ≥ 12)) (h4 : (Bf s.mail.body : Int) ≥ 4) : Al s l = ((⟨1, s.mail, s.bad, s.buf⟩, ⟨#[53, 53, 52, 32, 114, 111, 117, 110, 100]⟩), false) := by unfold Al; rw [if_pos h0, if_neg h1, if_pos h2, if_neg h3, if_pos h4]
theorem lr {s : Ss} {l : ByteArray} (h0 : l = ⟨#[46]⟩) (h1 : ¬ (s.bad = true)) (h2 : Ch s.mail.body) (h3 : ¬ ((s.mail.body.length : Int) ≥ 12)) (h4 : ¬ ((Bf s.mail.body : Int) ≥ 4)) : Al s l = ((⟨1, s.mail, s.bad, s.buf⟩, ⟨#[50, 53, 48, 32, 116, 97, 107, 101, 110]⟩), true) := by unfold Al; rw [if_pos h0, if_neg h1, if_pos h2, if_neg h3, if_neg h4]
theorem lu {s : Ss} {l : ByteArray} (h0 : l = ⟨#[46]⟩) (h1 : ¬ (s.bad = true)) (h2 : ¬ (Ch s.mail.body)) : Al s l = ((⟨1, s.mail, s.bad, s.buf⟩, ⟨#[53, 53, 52, 32, 110, 111]⟩), false) := by unfold Al; rw [if_pos h0, if_neg h1, if_neg h2]
theorem lw {s : Ss} {l : ByteArray} (h0 : ¬ (l = ⟨#[46]⟩)) (h1 : l = ⟨#[]⟩) (h2 : (s.mail.body.length : Int) ≥ 12) : Al s l = ((⟨s.state, s.mail, true, s.buf⟩, ⟨#[]⟩), false) := by unfold Al; rw [if_neg h0, if_pos h1, if_pos h2]
theorem lx {s : Ss} {l : ByteArray} (h0 : ¬ (l = ⟨#[46]⟩)) (h1 : l = ⟨#[]⟩) (h2 : ¬ ((s.mail.body.length : Int) ≥ 12)) (h3 : H0 l) : Al s l = ((⟨s.state, ⟨s.mail.frm, s.mail.to, s.mail.body ++ [l]⟩, s.bad, s.buf⟩, ⟨#[]⟩), false) := by unfold Al; rw [if_neg h0, if_pos h1, if_neg h2, if_pos h3]
theorem ly {s : Ss} {l : ByteArray} (h0 : ¬ (l = ⟨#[46]⟩)) (h1 : l = ⟨#[]⟩) (h2 : ¬ ((s.mail.body.length : Int) ≥ 12)) (h3 : ¬ (H0 l)) : Al s l = ((⟨s.state, s.mail, true, s.buf⟩, ⟨#[]⟩), false) := by unfold Al; rw [if_neg h0, if_pos h1, if_neg h2, if_neg h3]
theorem lz {s : Ss} {l : ByteArray} (h0 : ¬ (l = ⟨#[46]⟩)) (h1 : ¬ (l = ⟨#[]⟩)) (h2 : AE l 0 = 46) (h3 : (s.mail.body.length : Int) ≥ 12) : Al s l = ((⟨s.state, s.mail, true, s.buf⟩, ⟨#[]⟩), false) := by unfold Al; rw [if_neg h0, if_neg h1, if_pos h2, if_pos h3]
theorem l3 {s : Ss} {l : ByteArray} (h0 : ¬ (l = ⟨#[46]⟩)) (h1 : ¬ (l = ⟨#[]⟩)) (h2 : AE l 0 = 46) (h3 : ¬ ((s.mail.body.length : Int) ≥ 12)) (h4 : H0 (l.extract 1 l.size)) : Al s l = ((⟨s.state, ⟨s.mail.frm, s.mail.to, s.mail.body ++ [l.extract 1 l.size]⟩, s.bad, s.buf⟩, ⟨#[]⟩), false) := by unfold Al; rw [if_neg h0, if_neg h1, if_pos h2, if_neg h3, if_pos h4]
theorem cC {s : Ss} {l : ByteArray} (h0 : ¬ (l = ⟨#[46]⟩)) (h1 : ¬ (l = ⟨#[]⟩)) (h2 : AE l 0 = 46) (h3 : ¬ ((s.mail.body.length : Int) ≥ 12)) (h4 : ¬ (H0 (l.extract 1 l.size))) : Al s l = ((⟨s.state, s.mail, true, s.buf⟩, ⟨#[]⟩), false) := by unfold Al; rw [if_neg h0, if_neg h1, if_pos h2, if_neg h3, if_neg h4]
theorem cD {s : Ss} {l : ByteArray} (h0 : ¬ (l = ⟨#[46]⟩)) (h1 : ¬ (l = ⟨#[]⟩)) (h2 : ¬ (AE l 0 = 46)) (h3 : (s.mail.body.length : Int) ≥ 12) : Al s l = ((⟨s.state, s.mail, true, s.buf⟩, ⟨#[]⟩), false) := by unfold Al; rw [if_neg h0, if_neg h1, if_neg h2, if_pos h3]
theorem cE {s : Ss} {l : ByteArray} (h0 : ¬ (l = ⟨#[46]⟩)) (h1 : ¬ (l = ⟨#[]⟩)) (h2 : ¬ (AE l 0 = 46)) (h3 : ¬ ((s.mail.body.length : Int) ≥ 12)) (h4 : H0 l) : Al s l = ((⟨s.state, ⟨s.mail.frm, s.mail.to, s.mail.body ++ [l]⟩, s.bad, s.buf⟩, ⟨#[]⟩), false) := by unfold Al; rw [if_neg h0, if_neg h1, if_neg h2, if_neg h3, if_pos h4]
theorem cF {s : Ss} {l : ByteArray} (h0 : ¬ (l = ⟨#[46]⟩)) (h1 : ¬ (l = ⟨#[]⟩)) (h2 : ¬ (AE l 0 = 46)) (h3 : ¬ ((s.mail.body.length : Int) ≥ 12)) (h4 : ¬ (H0 l)) : Al s l = ((⟨s.state, s.mail, true, s.buf⟩, ⟨#[]⟩), false) := by unfold Al; rw [if_neg h0, if_neg h1, if_neg h2, if_neg h3, if_neg h4]
def kw : Ct := Aj (lc aU.ag (lc Ak l0)) (fun p => p.1.mail.body.length ≤ 1000) (fun p => .tup [.agg ((Eb (Al p.1 p.2.1).1.1).map .t), .t (.v (.string (Al p.1 p.2.1).1.2)), .t (.v (.bool (Al p.1 p.2.1).2))])
section
attribute [local go_sem] M8 WK Ql Int.toNat_zero zW AS.opn AS.cls AS.nilb AS.renb AS.up Bool.not_false Bool.not_true List.set_set List.set_cons_zero List.set_cons_succ List.set_nil List.mem_singleton forall_eq tn List.map_nil List.nil_append
set_option maxHeartbeats 3200000 in
theorem rd {G : Gt} (hG : Ac G) (hh : G.e 142 = AA 0 M8 ∧ G.e 166 = AA 0 WK ∧ G.e 124 = AA 0 Ql) : Gd G 255 (AA 1 kw) := by
 refine gr (fn := Tryz.f255) (n := 2) rfl hG ?_
 rintro ⟨s, l, ⟨⟩⟩ hpre
 have hn : s.mail.body.length ≤ 1000 := hpre
 try dsimp only
 refine BN (l = ⟨#[46]⟩) (fun h0 => BN (s.bad = true) (fun h1 => have e_ : Al s l = _ := ln h0 h1; have h1' := trivial; have h2' := trivial; have h3 := trivial; have h4 := trivial; have h2 := trivial; have h3' := trivial; have h4' := trivial; ?_) (fun h1 => have h1' := (Bool.not_eq_true _).mp h1; BN (Ch s.mail.body) (fun h2 => have h2' := An h2; BN ((s.mail.body.length : Int) ≥ 12) (fun h3 => have e_ : Al s l = _ := lp h0 h1 h2 h3; have h1 := trivial; have h4 := trivial; have h2 := trivial; have h3' := trivial; have h4' := trivial; ?_) (fun h3 => BN ((Bf s.mail.body : Int) ≥ 4) (fun h4 => have e_ : Al s l = _ := lq h0 h1 h2 h3 h4; have h1 := trivial; have h2 := trivial; have h3' := trivial; have h4' := trivial; ?_) (fun h4 => have e_ : Al s l = _ := lr h0 h1 h2 h3 h4; have h1 := trivial; have h2 := trivial; have h3' := trivial; have h4' := trivial; ?_))) (fun h2 => have h2' := AQ h2; have e_ : Al s l = _ := lu h0 h1 h2; have h1 := trivial; have h3 := trivial; have h4 := trivial; have h2 := trivial; have h3' := trivial; have h4' := trivial; ?_))) (fun h0 => BN (l = ⟨#[]⟩) (fun h1 => BN ((s.mail.body.length : Int) ≥ 12) (fun h2 => have e_ : Al s l = _ := lw h0 h1 h2; have h1' := trivial; have h2' := trivial; have h3 := trivial; have h4 := trivial; have h3' := trivial; have h4' := trivial; ?_) (fun h2 => BN (H0 l) (fun h3 => have h3' := An h3; have e_ : Al s l = _ := lx h0 h1 h2 h3; have h1' := trivial; have h2' := trivial; have h3 := trivial; have h4 := trivial; have h4' := trivial; ?_) (fun h3 => have h3' := AQ h3; have e_ : Al s l = _ := ly h0 h1 h2 h3; have h1' := trivial; have h2' := trivial; have h3 := trivial; have h4 := trivial; have h4' := trivial; ?_))) (fun h1 => BN (AE l 0 = 46) (fun h2 => BN ((s.mail.body.length : Int) ≥ 12) (fun h3 => have e_ : Al s l = _ := lz h0 h1 h2 h3; have h1' := trivial; have h2' := trivial; have h4 := trivial; have h3' := trivial; have h4' := trivial; ?_) (fun h3 => BN (H0 (l.extract 1 l.size)) (fun h4 => have h4' := An h4; have e_ : Al s l = _ := l3 h0 h1 h2 h3 h4; have h1' := trivial; have h2' := trivial; have h4 := trivial; have h3' := trivial; ?_) (fun h4 => have h4' := AQ h4; have e_ : Al s l = _ := cC h0 h1 h2 h3 h4; have h1' := trivial; have h2' := trivial; have h4 := trivial; have h3' := trivial; ?_))) (fun h2 => BN ((s.mail.body.length : Int) ≥ 12) (fun h3 => have e_ : Al s l = _ := cD h0 h1 h2 h3; have h1' := trivial; have h2' := trivial; have h4 := trivial; have h3' := trivial; have h4' := trivial; ?_) (fun h3 => BN (H0 l) (fun h4 => have h4' := An h4; have e_ : Al s l = _ := cE h0 h1 h2 h3 h4; have h1' := trivial; have h2' := trivial; have h4 := trivial; have h3' := trivial; ?_) (fun h4 => have h4' := AQ h4; have e_ : Al s l = _ := cF h0 h1 h2 h3 h4; have h1' := trivial; have h2' := trivial; have h4 := trivial; have h3' := trivial; ?_)))))
 all_goals
  try rw [e_]
  simp -implicitDefEqProofs only [Tryz.f255, h0, h1, h1', h2', h3, h4, h2, h3', h4', eq_self, decide_true, decide_false, Int.reduceEq, go_sem, hh, seval]
  with_reducible repeat' (first | apply ai | intro _ | ((first | apply s1 | apply s2 | apply s3 | apply s4) <;> intro hb <;> simp -implicitDefEqProofs only [hb, go_sem, hh, seval] <;> try simp only [qz] at hb))
  all_goals (try simp only [maxLen, tn, lm] at *)
  all_goals first | rfl | omega | decide | with_reducible assumption | (show AZ _ = true; rfl) | exact Ha (by assumption) | contradiction | (subst h1; contradiction) | (subst h1; exact absurd rfl (by assumption)) | (simp [AG]; done) | skip
end
open Classical in
noncomputable def BZ (c : Cf) (s : Ss) (l : ByteArray) : Ss × ByteArray := (if (Au l ⟨#[72, 69, 76, 79, 32]⟩).2 = true then (if D3 (Au l ⟨#[72, 69, 76, 79, 32]⟩).1 then (Ff ⟨1, s.mail, s.bad, s.buf⟩, ⟨#[50, 53, 48, 32]⟩ ++ c.name) else (s, ⟨#[53, 48, 49, 32, 102, 111, 114, 109]⟩)) else (if l = ⟨#[81, 85, 73, 84]⟩ then (Ff ⟨5, s.mail, s.bad, s.buf⟩, ⟨#[50, 50, 49, 32, 98, 121, 101]⟩) else (if l = ⟨#[78, 79, 79, 80]⟩ then (s, ⟨#[50, 53, 48, 32, 111, 107]⟩) else (if l = ⟨#[82, 83, 69, 84]⟩ then (if s.state = 0 then (Ff s, ⟨#[50, 53, 48, 32, 111, 107]⟩) else (Ff ⟨1, s.mail, s.bad, s.buf⟩, ⟨#[50, 53, 48, 32, 111, 107]⟩)) else (if (Au l ⟨#[77, 65, 73, 76, 32, 70, 82, 79, 77, 58]⟩).2 = true then Ec s (Au l ⟨#[77, 65, 73, 76, 32, 70, 82, 79, 77, 58]⟩).1 else (if (Au l ⟨#[82, 67, 80, 84, 32, 84, 79, 58]⟩).2 = true then Hr c s (Au l ⟨#[82, 67, 80, 84, 32, 84, 79, 58]⟩).1 else (if l = ⟨#[68, 65, 84, 65]⟩ then (if s.state = 3 then (⟨4, s.mail, s.bad, s.buf⟩, ⟨#[51, 53, 52, 32, 103, 111, 32, 111, 110]⟩) else (s, ⟨#[53, 48, 51, 32, 111, 114, 100, 101, 114]⟩)) else (s, ⟨#[53, 48, 48, 32, 119, 104, 97, 116]⟩))))))))
theorem lK {c : Cf} {s : Ss} {l : ByteArray} (h0 : (Au l ⟨#[72, 69, 76, 79, 32]⟩).2 = true) (h1 : D3 (Au l ⟨#[72, 69, 76, 79, 32]⟩).1) : BZ c s l = (Ff ⟨1, s.mail, s.bad, s.buf⟩, ⟨#[50, 53, 48, 32]⟩ ++ c.name) := by unfold BZ; rw [if_pos h0, if_pos h1]
theorem lL {c : Cf} {s : Ss} {l : ByteArray} (h0 : (Au l ⟨#[72, 69, 76, 79, 32]⟩).2 = true) (h1 : ¬ (D3 (Au l ⟨#[72, 69, 76, 79, 32]⟩).1)) : BZ c s l = (s, ⟨#[53, 48, 49, 32, 102, 111, 114, 109]⟩) := by unfold BZ; rw [if_pos h0, if_neg h1]
theorem lM {c : Cf} {s : Ss} {l : ByteArray} (h0 : ¬ ((Au l ⟨#[72, 69, 76, 79, 32]⟩).2 = true)) (h1 : l = ⟨#[81, 85, 73, 84]⟩) : BZ c s l = (Ff ⟨5, s.mail, s.bad, s.buf⟩, ⟨#[50, 50, 49, 32, 98, 121, 101]⟩) := by unfold BZ; rw [if_neg h0, if_pos h1]
theorem lN {c : Cf} {s : Ss} {l : ByteArray} (h0 : ¬ ((Au l ⟨#[72, 69, 76, 79, 32]⟩).2 = true)) (h1 : ¬ (l = ⟨#[81, 85, 73, 84]⟩)) (h2 : l = ⟨#[78, 79, 79, 80]⟩) : BZ c s l = (s, ⟨#[50, 53, 48, 32, 111, 107]⟩) := by unfold BZ; rw [if_neg h0, if_neg h1, if_pos h2]
theorem lO {c : Cf} {s : Ss} {l : ByteArray} (h0 : ¬ ((Au l ⟨#[72, 69, 76, 79, 32]⟩).2 = true)) (h1 : ¬ (l = ⟨#[81, 85, 73, 84]⟩)) (h2 : ¬ (l = ⟨#[78, 79, 79, 80]⟩)) (h3 : l = ⟨#[82, 83, 69, 84]⟩) (h4 : s.state = 0) : BZ c s l = (Ff s, ⟨#[50, 53, 48, 32, 111, 107]⟩) := by unfold BZ; rw [if_neg h0, if_neg h1, if_neg h2, if_pos h3, if_pos h4]
theorem lP {c : Cf} {s : Ss} {l : ByteArray} (h0 : ¬ ((Au l ⟨#[72, 69, 76, 79, 32]⟩).2 = true)) (h1 : ¬ (l = ⟨#[81, 85, 73, 84]⟩)) (h2 : ¬ (l = ⟨#[78, 79, 79, 80]⟩)) (h3 : l = ⟨#[82, 83, 69, 84]⟩) (h4 : ¬ (s.state = 0)) : BZ c s l = (Ff ⟨1, s.mail, s.bad, s.buf⟩, ⟨#[50, 53, 48, 32, 111, 107]⟩) := by unfold BZ; rw [if_neg h0, if_neg h1, if_neg h2, if_pos h3, if_neg h4]
theorem lQ {c : Cf} {s : Ss} {l : ByteArray} (h0 : ¬ ((Au l ⟨#[72, 69, 76, 79, 32]⟩).2 = true)) (h1 : ¬ (l = ⟨#[81, 85, 73, 84]⟩)) (h2 : ¬ (l = ⟨#[78, 79, 79, 80]⟩)) (h3 : ¬ (l = ⟨#[82, 83, 69, 84]⟩)) (h4 : (Au l ⟨#[77, 65, 73, 76, 32, 70, 82, 79, 77, 58]⟩).2 = true) : BZ c s l = Ec s (Au l ⟨#[77, 65, 73, 76, 32, 70, 82, 79, 77, 58]⟩).1 := by unfold BZ; rw [if_neg h0, if_neg h1, if_neg h2, if_neg h3, if_pos h4]
theorem lR {c : Cf} {s : Ss} {l : ByteArray} (h0 : ¬ ((Au l ⟨#[72, 69, 76, 79, 32]⟩).2 = true)) (h1 : ¬ (l = ⟨#[81, 85, 73, 84]⟩)) (h2 : ¬ (l = ⟨#[78, 79, 79, 80]⟩)) (h3 : ¬ (l = ⟨#[82, 83, 69, 84]⟩)) (h4 : ¬ ((Au l ⟨#[77, 65, 73, 76, 32, 70, 82, 79, 77, 58]⟩).2 = true)) (h5 : (Au l ⟨#[82, 67, 80, 84, 32, 84, 79, 58]⟩).2 = true) : BZ c s l = Hr c s (Au l ⟨#[82, 67, 80, 84, 32, 84, 79, 58]⟩).1 := by unfold BZ; rw [if_neg h0, if_neg h1, if_neg h2, if_neg h3, if_neg h4, if_pos h5]
theorem lS {c : Cf} {s : Ss} {l : ByteArray} (h0 : ¬ ((Au l ⟨#[72, 69, 76, 79, 32]⟩).2 = true)) (h1 : ¬ (l = ⟨#[81, 85, 73, 84]⟩)) (h2 : ¬ (l = ⟨#[78, 79, 79, 80]⟩)) (h3 : ¬ (l = ⟨#[82, 83, 69, 84]⟩)) (h4 : ¬ ((Au l ⟨#[77, 65, 73, 76, 32, 70, 82, 79, 77, 58]⟩).2 = true)) (h5 : ¬ ((Au l ⟨#[82, 67, 80, 84, 32, 84, 79, 58]⟩).2 = true)) (h6 : l = ⟨#[68, 65, 84, 65]⟩) (h7 : s.state = 3) : BZ c s l = (⟨4, s.mail, s.bad, s.buf⟩, ⟨#[51, 53, 52, 32, 103, 111, 32, 111, 110]⟩) := by unfold BZ; rw [if_neg h0, if_neg h1, if_neg h2, if_neg h3, if_neg h4, if_neg h5, if_pos h6, if_pos h7]
theorem lT {c : Cf} {s : Ss} {l : ByteArray} (h0 : ¬ ((Au l ⟨#[72, 69, 76, 79, 32]⟩).2 = true)) (h1 : ¬ (l = ⟨#[81, 85, 73, 84]⟩)) (h2 : ¬ (l = ⟨#[78, 79, 79, 80]⟩)) (h3 : ¬ (l = ⟨#[82, 83, 69, 84]⟩)) (h4 : ¬ ((Au l ⟨#[77, 65, 73, 76, 32, 70, 82, 79, 77, 58]⟩).2 = true)) (h5 : ¬ ((Au l ⟨#[82, 67, 80, 84, 32, 84, 79, 58]⟩).2 = true)) (h6 : l = ⟨#[68, 65, 84, 65]⟩) (h7 : ¬ (s.state = 3)) : BZ c s l = (s, ⟨#[53, 48, 51, 32, 111, 114, 100, 101, 114]⟩) := by unfold BZ; rw [if_neg h0, if_neg h1, if_neg h2, if_neg h3, if_neg h4, if_neg h5, if_pos h6, if_neg h7]
theorem b4 {c : Cf} {s : Ss} {l : ByteArray} (h0 : ¬ ((Au l ⟨#[72, 69, 76, 79, 32]⟩).2 = true)) (h1 : ¬ (l = ⟨#[81, 85, 73, 84]⟩)) (h2 : ¬ (l = ⟨#[78, 79, 79, 80]⟩)) (h3 : ¬ (l = ⟨#[82, 83, 69, 84]⟩)) (h4 : ¬ ((Au l ⟨#[77, 65, 73, 76, 32, 70, 82, 79, 77, 58]⟩).2 = true)) (h5 : ¬ ((Au l ⟨#[82, 67, 80, 84, 32, 84, 79, 58]⟩).2 = true)) (h6 : ¬ (l = ⟨#[68, 65, 84, 65]⟩)) : BZ c s l = (s, ⟨#[53, 48, 48, 32, 119, 104, 97, 116]⟩) := by unfold BZ; rw [if_neg h0, if_neg h1, if_neg h2, if_neg h3, if_neg h4, if_neg h5, if_neg h6]
def ku : Ct := Aj (lc JS.ag (lc aU.ag (lc Ak l0))) (fun p => p.1.name.size ≤ 1000000 ∧ p.2.1.mail.to.length ≤ 1000 ∧ p.2.2.1.size ≤ 2000000) (fun p => .tup [.agg ((Eb (BZ p.1 p.2.1 p.2.2.1).1).map .t), .t (.v (.string (BZ p.1 p.2.1 p.2.2.1).2))])
section
attribute [local go_sem] kx M9 Qq ky kz AS.opn AS.cls AS.nilb AS.renb AS.up Bool.not_false Bool.not_true List.set_set List.set_cons_zero List.set_cons_succ List.set_nil List.mem_singleton forall_eq tn List.map_nil List.nil_append
set_option maxHeartbeats 3200000 in
theorem rc {G : Gt} (hG : Ac G) (hh : G.e 256 = AA 0 kx ∧ G.e 143 = AA 0 M9 ∧ G.e 250 = AA 1 Qq ∧ G.e 257 = AA 1 ky ∧ G.e 258 = AA 1 kz) : Gd G 254 (AA 1 ku) := by
 refine gr (fn := Tryz.f254) (n := 3) rfl hG ?_
 rintro ⟨c, s, l, ⟨⟩⟩ hpre
 obtain ⟨hn, ht, hz⟩ := hpre
 try dsimp only at hn ht hz ⊢
 have z1 := N6 l ⟨#[72, 69, 76, 79, 32]⟩
 have z2 := N6 l ⟨#[77, 65, 73, 76, 32, 70, 82, 79, 77, 58]⟩
 have z3 := N6 l ⟨#[82, 67, 80, 84, 32, 84, 79, 58]⟩
 have z4 : (⟨#[50, 53, 48, 32]⟩ : ByteArray).size = 4 := rfl
 refine BN ((Au l ⟨#[72, 69, 76, 79, 32]⟩).2 = true) (fun h0 => BN (D3 (Au l ⟨#[72, 69, 76, 79, 32]⟩).1) (fun h1 => have h1' := An h1; have e_ : BZ c s l = _ := lK h0 h1; have h0' := trivial; have h1 := trivial; have h2 := trivial; have h3 := trivial; have h4' := trivial; have h4 := trivial; have h5 := trivial; have h5' := trivial; have h6 := trivial; have h7' := trivial; ?_) (fun h1 => have h1' := AQ h1; have e_ : BZ c s l = _ := lL h0 h1; have h0' := trivial; have h1 := trivial; have h2 := trivial; have h3 := trivial; have h4' := trivial; have h4 := trivial; have h5 := trivial; have h5' := trivial; have h6 := trivial; have h7' := trivial; ?_)) (fun h0 => have h0' := (Bool.not_eq_true _).mp h0; BN (l = ⟨#[81, 85, 73, 84]⟩) (fun h1 => have e_ : BZ c s l = _ := lM h0 h1; have h0 := trivial; have h1' := trivial; have h2 := trivial; have h3 := trivial; have h4' := trivial; have h4 := trivial; have h5 := trivial; have h5' := trivial; have h6 := trivial; have h7' := trivial; ?_) (fun h1 => BN (l = ⟨#[78, 79, 79, 80]⟩) (fun h2 => have e_ : BZ c s l = _ := lN h0 h1 h2; have h0 := trivial; have h1' := trivial; have h3 := trivial; have h4' := trivial; have h4 := trivial; have h5 := trivial; have h5' := trivial; have h6 := trivial; have h7' := trivial; ?_) (fun h2 => BN (l = ⟨#[82, 83, 69, 84]⟩) (fun h3 => BN (s.state = 0) (fun h4 => have h4' := decide_eq_true h4; have e_ : BZ c s l = _ := lO h0 h1 h2 h3 h4; have h0 := trivial; have h1' := trivial; have h4 := trivial; have h5 := trivial; have h5' := trivial; have h6 := trivial; have h7' := trivial; ?_) (fun h4 => have h4' := decide_eq_false h4; have e_ : BZ c s l = _ := lP h0 h1 h2 h3 h4; have h0 := trivial; have h1' := trivial; have h4 := trivial; have h5 := trivial; have h5' := trivial; have h6 := trivial; have h7' := trivial; ?_)) (fun h3 => BN ((Au l ⟨#[77, 65, 73, 76, 32, 70, 82, 79, 77, 58]⟩).2 = true) (fun h4 => have e_ : BZ c s l = _ := lQ h0 h1 h2 h3 h4; have h0 := trivial; have h1' := trivial; have h4' := trivial; have h5 := trivial; have h5' := trivial; have h6 := trivial; have h7' := trivial; ?_) (fun h4 => have h4' := (Bool.not_eq_true _).mp h4; BN ((Au l ⟨#[82, 67, 80, 84, 32, 84, 79, 58]⟩).2 = true) (fun h5 => have e_ : BZ c s l = _ := lR h0 h1 h2 h3 h4 h5; have h0 := trivial; have h1' := trivial; have h4 := trivial; have h5' := trivial; have h6 := trivial; have h7' := trivial; ?_) (fun h5 => have h5' := (Bool.not_eq_true _).mp h5; BN (l = ⟨#[68, 65, 84, 65]⟩) (fun h6 => BN (s.state = 3) (fun h7 => have h7' := decide_eq_true h7; have e_ : BZ c s l = _ := lS h0 h1 h2 h3 h4 h5 h6 h7; have h0 := trivial; have h1' := trivial; have h4 := trivial; have h5 := trivial; ?_) (fun h7 => have h7' := decide_eq_false h7; have e_ : BZ c s l = _ := lT h0 h1 h2 h3 h4 h5 h6 h7; have h0 := trivial; have h1' := trivial; have h4 := trivial; have h5 := trivial; ?_)) (fun h6 => have e_ : BZ c s l = _ := b4 h0 h1 h2 h3 h4 h5 h6; have h0 := trivial; have h1' := trivial; have h4 := trivial; have h5 := trivial; have h7' := trivial; ?_)))))))
 all_goals
  try rw [e_]
  simp -implicitDefEqProofs only [Tryz.f254, h0, h1', h0', h1, h2, h3, h4', h4, h5, h5', h6, h7', eq_self, decide_true, decide_false, Int.reduceEq, go_sem, hh, seval]
  with_reducible repeat' (first | apply ai | intro _ | ((first | apply s1 | apply s2 | apply s3 | apply s4) <;> intro hb <;> simp -implicitDefEqProofs only [hb, go_sem, hh, seval] <;> try simp only [qz] at hb))
  all_goals (try simp only [maxLen, tn, lm] at *)
  all_goals first | rfl | omega | decide | with_reducible assumption | (show AZ _ = true; rfl) | exact Ha (by assumption) | contradiction | (show 4 + c.name.size ≤ _; omega) | (subst h3; contradiction) | skip
end
open Classical in
noncomputable def Bj (c : Cf) (s : Ss) (l : ByteArray) : (Ss × ByteArray) × List Ml := (if s.state = 5 then ((s, ⟨#[]⟩), []) else (if s.state = 4 then (if (Al s l).1.2 = ⟨#[]⟩ then ((Al s l).1, []) else (if (Al s l).2 = true then ((Ff (Al s l).1.1, (Al s l).1.2), [(Al s l).1.1.mail]) else ((Ff (Al s l).1.1, (Al s l).1.2), []))) else (BZ c s l, [])))
theorem oO {c : Cf} {s : Ss} {l : ByteArray} (h0 : s.state = 5) : Bj c s l = ((s, ⟨#[]⟩), []) := by unfold Bj; rw [if_pos h0]
theorem oP {c : Cf} {s : Ss} {l : ByteArray} (h0 : ¬ (s.state = 5)) (h1 : s.state = 4) (h2 : (Al s l).1.2 = ⟨#[]⟩) : Bj c s l = ((Al s l).1, []) := by unfold Bj; rw [if_neg h0, if_pos h1, if_pos h2]
theorem oQ {c : Cf} {s : Ss} {l : ByteArray} (h0 : ¬ (s.state = 5)) (h1 : s.state = 4) (h2 : ¬ ((Al s l).1.2 = ⟨#[]⟩)) (h3 : (Al s l).2 = true) : Bj c s l = ((Ff (Al s l).1.1, (Al s l).1.2), [(Al s l).1.1.mail]) := by unfold Bj; rw [if_neg h0, if_pos h1, if_neg h2, if_pos h3]
theorem oR {c : Cf} {s : Ss} {l : ByteArray} (h0 : ¬ (s.state = 5)) (h1 : s.state = 4) (h2 : ¬ ((Al s l).1.2 = ⟨#[]⟩)) (h3 : ¬ ((Al s l).2 = true)) : Bj c s l = ((Ff (Al s l).1.1, (Al s l).1.2), []) := by unfold Bj; rw [if_neg h0, if_pos h1, if_neg h2, if_neg h3]
theorem oS {c : Cf} {s : Ss} {l : ByteArray} (h0 : ¬ (s.state = 5)) (h1 : ¬ (s.state = 4)) : Bj c s l = (BZ c s l, []) := by unfold Bj; rw [if_neg h0, if_neg h1]
theorem l4 (s : Ss) (l : ByteArray) : (Al s l).1.1.mail.body.length ≤ s.mail.body.length + 1 ∧ (Al s l).1.1.mail.to = s.mail.to := by
 unfold Al
 repeat' split
 all_goals refine ⟨?_, rfl⟩
 all_goals first | (show (s.mail.body ++ [_]).length ≤ _; rw [List.length_append]; exact Nat.le_refl _) | (show s.mail.body.length ≤ _; omega)
def kp : Ct := Aj (lc JS.ag (lc aU.ag (lc Ak l0))) (fun p => p.1.name.size ≤ 1000000 ∧ p.2.1.mail.to.length ≤ 1000 ∧ p.2.1.mail.body.length ≤ 1000 ∧ p.2.2.1.size ≤ 2000000) (fun p => .tup [.agg ((Eb (Bj p.1 p.2.1 p.2.2.1).1.1).map .t), .t (.v (.string (Bj p.1 p.2.1 p.2.2.1).1.2)), .t (.sl 4 ((Bj p.1 p.2.1 p.2.2.1).2.map DG))])
section
attribute [local go_sem] ku kw NA Qq AS.opn AS.cls AS.nilb AS.renb AS.up Bool.not_false Bool.not_true List.set_set List.set_cons_zero List.set_cons_succ List.set_nil List.mem_singleton forall_eq tn List.map_nil List.nil_append
set_option maxHeartbeats 3200000 in
theorem rZ {G : Gt} (hG : Ac G) (hh : G.e 254 = AA 1 ku ∧ G.e 255 = AA 1 kw ∧ G.e 222 = AA 0 NA ∧ G.e 250 = AA 1 Qq) : Gd G 251 (AA 1 kp) := by
 refine gr (fn := Tryz.f251) (n := 3) rfl hG ?_
 rintro ⟨c, s, l, ⟨⟩⟩ hpre
 obtain ⟨hn, ht, hb, hz⟩ := hpre
 try dsimp only at hn ht hb hz ⊢
 obtain ⟨z1, z2⟩ := l4 s l
 have z3 : (Al s l).1.1.mail.to.length ≤ 1000 := by rw [z2]; exact ht
 refine BN (s.state = 5) (fun h0 => have h0' := decide_eq_true h0; have e_ : Bj c s l = _ := oO h0; have h1' := trivial; have h2 := trivial; have h3 := trivial; have h3' := trivial; ?_) (fun h0 => have h0' := decide_eq_false h0; BN (s.state = 4) (fun h1 => have h1' := decide_eq_true h1; BN ((Al s l).1.2 = ⟨#[]⟩) (fun h2 => have e_ : Bj c s l = _ := oP h0 h1 h2; have h3 := trivial; have h3' := trivial; ?_) (fun h2 => BN ((Al s l).2 = true) (fun h3 => have e_ : Bj c s l = _ := oQ h0 h1 h2 h3; have h3' := trivial; ?_) (fun h3 => have h3' := (Bool.not_eq_true _).mp h3; have e_ : Bj c s l = _ := oR h0 h1 h2 h3; have h3 := trivial; ?_))) (fun h1 => have h1' := decide_eq_false h1; have e_ : Bj c s l = _ := oS h0 h1; have h2 := trivial; have h3 := trivial; have h3' := trivial; ?_))
 all_goals
  try rw [e_]
  simp -implicitDefEqProofs only [Tryz.f251, h0', h1', h2, h3, h3', eq_self, decide_true, decide_false, Int.reduceEq, go_sem, hh, seval]
  with_reducible repeat' (first | apply ai | intro _ | ((first | apply s1 | apply s2 | apply s3 | apply s4) <;> intro hb <;> simp -implicitDefEqProofs only [hb, go_sem, hh, seval] <;> try simp only [qz] at hb))
  all_goals (try simp only [maxLen, tn, lm] at *)
  all_goals first | rfl | omega | decide | with_reducible assumption | (show AZ _ = true; rfl) | exact Ha (by assumption) | contradiction | skip
end
def OZ (s : Ss) : Prop := s.mail.to.length ≤ 4 ∧ s.mail.body.length ≤ 12 ∧ H6 s.mail.frm ∧ (∀ a ∈ s.mail.to, H6 a) ∧ ∀ l ∈ s.mail.body, Bg l
def ej (m : Ml) : Prop := Lh m ∧ m.to.length ≤ 4 ∧ m.body.length ≤ 12
theorem iW {s : Ss} (h : OZ s) : ej s.mail := ⟨⟨h.2.2.1, ⟨by have := h.1; omega, h.2.2.2.1⟩, ⟨by have := h.2.1; omega, h.2.2.2.2⟩⟩, h.1, h.2.1⟩
theorem sQ : H6 ⟨⟨#[]⟩, ⟨#[]⟩⟩ := CT (.inr ⟨rfl, rfl⟩)
theorem Sz (t : ByteArray) : H6 (A0 t) := by
 by_cases h : FE t
 ·exact CT (DZ h).1
 ·rw [NU h]; exact sQ
theorem F0 (s : Ss) : OZ (Ff s) := ⟨by show 0 ≤ 4; omega, by show 0 ≤ 12; omega, sQ, fun _ h => (by cases h), fun _ h => (by cases h)⟩
theorem ck {s : Ss} (t : ByteArray) (h : OZ s) : OZ (Ec s t).1 ∧ (Ec s t).2.size ≤ 20 := by
 unfold Ec
 repeat' split
 all_goals first
  | exact ⟨h, Nat.le_of_ble_eq_true rfl⟩
  | exact ⟨⟨by show 0 ≤ 4; omega, by show 0 ≤ 12; omega, Sz t, fun _ h => (by cases h), fun _ h => (by cases h)⟩, Nat.le_of_ble_eq_true rfl⟩
theorem oZ {s : Ss} (c : Cf) (t : ByteArray) (h : OZ s) : OZ (Hr c s t).1 ∧ (Hr c s t).2.size ≤ 20 := by
 unfold Hr
 repeat' split
 all_goals first
  | exact ⟨h, Nat.le_of_ble_eq_true rfl⟩
  | skip
 refine ⟨⟨?_, h.2.1, h.2.2.1, fun a ha => ?_, h.2.2.2.2⟩, Nat.le_of_ble_eq_true rfl⟩
 ·show (s.mail.to ++ [A0 t]).length ≤ 4
  rw [List.length_append]
  show s.mail.to.length + 1 ≤ 4
  omega
 ·rcases List.mem_append.1 ha with ha | ha
  ·exact h.2.2.2.1 a ha
  ·rw [List.mem_singleton] at ha; subst ha; exact Sz t
theorem b5 {s : Ss} (c : Cf) (l : ByteArray) (h : OZ s) : OZ (BZ c s l).1 ∧ (BZ c s l).2.size ≤ c.name.size + 20 := by
 have q := ck (s := s) (Au l ⟨#[77, 65, 73, 76, 32, 70, 82, 79, 77, 58]⟩).1 h
 have q2 := oZ (s := s) c (Au l ⟨#[82, 67, 80, 84, 32, 84, 79, 58]⟩).1 h
 unfold BZ
 repeat' split
 all_goals first
  | exact ⟨h, by show (ByteArray.size ⟨_⟩) ≤ _; exact Nat.le_trans (Nat.le_of_ble_eq_true rfl : _ ≤ 20) (Nat.le_add_left _ _)⟩
  | exact ⟨F0 _, by show (ByteArray.size ⟨_⟩) ≤ _; exact Nat.le_trans (Nat.le_of_ble_eq_true rfl : _ ≤ 20) (Nat.le_add_left _ _)⟩
  | exact ⟨q.1, Nat.le_trans q.2 (Nat.le_add_left _ _)⟩
  | exact ⟨q2.1, Nat.le_trans q2.2 (Nat.le_add_left _ _)⟩
  | exact ⟨F0 _, by show (⟨#[50, 53, 48, 32]⟩ ++ c.name).size ≤ _; rw [ByteArray.size_append]; have : (⟨#[50, 53, 48, 32]⟩ : ByteArray).size = 4 := rfl; omega⟩
theorem cG {s : Ss} {l : ByteArray} (h : OZ s) (hl : Bg l) : OZ (Al s l).1.1 ∧ (Al s l).1.2.size ≤ 20 := by
 have he : Bg (l.extract 1 l.size) := by have : l.size ≤ 1048576 := hl; show (l.extract 1 l.size).size ≤ 1048576; rw [ByteArray.size_extract]; omega
 have app : ∀ x, Bg x → ¬ ((s.mail.body.length : Int) ≥ 12) → OZ ⟨s.state, ⟨s.mail.frm, s.mail.to, s.mail.body ++ [x]⟩, s.bad, s.buf⟩ := fun x hx hn => ⟨h.1, by show (s.mail.body ++ [x]).length ≤ 12; rw [List.length_append]; show s.mail.body.length + 1 ≤ 12; omega, h.2.2.1, h.2.2.2.1, fun y hy => by
  rcases List.mem_append.1 hy with hy | hy
  ·exact h.2.2.2.2 y hy
  ·rw [List.mem_singleton] at hy; subst hy; exact hx⟩
 unfold Al
 repeat' split
 all_goals first
  | exact ⟨h, Nat.le_of_ble_eq_true rfl⟩
  | exact ⟨app _ hl (by assumption), Nat.le_of_ble_eq_true rfl⟩
  | exact ⟨app _ he (by assumption), Nat.le_of_ble_eq_true rfl⟩
theorem Td {s : Ss} {l : ByteArray} (c : Cf) (h : OZ s) (hl : Bg l) : OZ (Bj c s l).1.1 ∧ (Bj c s l).1.2.size ≤ c.name.size + 20 ∧ (Bj c s l).2.length ≤ 1 ∧ ∀ m ∈ (Bj c s l).2, ej m := by
 have q := cG h hl
 have q2 := b5 c l h
 unfold Bj
 repeat' split
 ·exact ⟨h, Nat.zero_le _, Nat.zero_le _, fun _ z => by cases z⟩
 ·exact ⟨q.1, Nat.le_trans q.2 (Nat.le_add_left _ _), Nat.zero_le _, fun _ z => by cases z⟩
 ·exact ⟨F0 _, Nat.le_trans q.2 (Nat.le_add_left _ _), Nat.le_refl _, fun m hm => by rw [List.mem_singleton] at hm; subst hm; exact iW q.1⟩
 ·exact ⟨F0 _, Nat.le_trans q.2 (Nat.le_add_left _ _), Nat.zero_le _, fun _ z => by cases z⟩
 ·exact ⟨q2.1, q2.2, Nat.zero_le _, fun _ z => by cases z⟩
abbrev Fz := Ss × List ByteArray × List Ml
noncomputable def ce (c : Cf) (x : Fz) (l : ByteArray) : Fz := ((Bj c x.1 l).1.1, if (Bj c x.1 l).1.2 = ⟨#[]⟩ then x.2.1 else x.2.1 ++ [(Bj c x.1 l).1.2], x.2.2 ++ (Bj c x.1 l).2)
def Zq (x : Fz) : Fz := (Ff ⟨5, x.1.mail, x.1.bad, x.1.buf⟩, x.2.1 ++ [⟨#[53, 48, 48, 32, 108, 111, 110, 103]⟩], x.2.2)
noncomputable def NQ (c : Cf) : List ByteArray → Fz → Fz × Bool
 | [], x => (x, false)
 | l :: r, x => if x.1.state = 5 then (x, false) else if (l.size : Int) > 78 then (Zq x, true) else NQ c r (ce c x l)
noncomputable def Xg (y : Fz × Bool) (lf : ByteArray) : Fz := if y.2 = true then y.1 else if y.1.1.state = 5 then y.1 else if (lf.size : Int) > 80 then Zq y.1 else (⟨y.1.1.state, y.1.1.mail, y.1.1.bad, lf⟩, y.1.2.1, y.1.2.2)
noncomputable def Bo (c : Cf) (s : Ss) (t : ByteArray) : Fz := Xg (NQ c (OG (s.buf ++ t)) (⟨s.state, s.mail, s.bad, ⟨#[]⟩⟩, [], [])) (nB (s.buf ++ t))
theorem tS {c : Cf} {L : List ByteArray} {x : Fz} (h : x.1.state = 5) : NQ c L x = (x, false) := by
 cases L with
 | nil => rfl
 | cons l r => rw [NQ, if_pos h]
theorem tQ {c : Cf} {L : List ByteArray} {i : Nat} {x : Fz} (hi : i < L.length) (h : ¬ x.1.state = 5) (hl : ((L.getD i default).size : Int) > 78) : NQ c (L.drop i) x = (Zq x, true) := by
 rw [Aa hi, NQ, if_neg h, if_pos hl]
theorem tR {c : Cf} {L : List ByteArray} {i : Nat} {x : Fz} (hi : i < L.length) (h : ¬ x.1.state = 5) (hl : ¬ ((L.getD i default).size : Int) > 78) : NQ c (L.drop i) x = NQ c (L.drop (i + 1)) (ce c x (L.getD i default)) := by
 rw [Aa hi, NQ, if_neg h, if_neg hl]
theorem fy {c : Cf} {L : List ByteArray} {i : Nat} {x : Fz} (hi : L.length ≤ i) : NQ c (L.drop i) x = (x, false) := by
 rw [List.drop_of_length_le hi]; rfl
theorem tM {y : Fz × Bool} {x : Fz} {lf : ByteArray} (h : (x, true) = y) : Xg y lf = x := by subst h; exact if_pos rfl
theorem tN {y : Fz × Bool} {x : Fz} {lf : ByteArray} (h : (x, false) = y) (h5 : x.1.state = 5) : Xg y lf = x := by
 subst h; unfold Xg; rw [if_neg (show ¬ (x, false).2 = true from Bool.false_ne_true), if_pos h5]
theorem tO {y : Fz × Bool} {x : Fz} {lf : ByteArray} (h : (x, false) = y) (h5 : ¬ x.1.state = 5) (hl : (lf.size : Int) > 80) : Xg y lf = Zq x := by
 subst h; unfold Xg; rw [if_neg (show ¬ (x, false).2 = true from Bool.false_ne_true), if_neg h5, if_pos hl]
theorem tP {y : Fz × Bool} {x : Fz} {lf : ByteArray} (h : (x, false) = y) (h5 : ¬ x.1.state = 5) (hl : ¬ (lf.size : Int) > 80) : Xg y lf = (⟨x.1.state, x.1.mail, x.1.bad, lf⟩, x.2.1, x.2.2) := by
 subst h; unfold Xg; rw [if_neg (show ¬ (x, false).2 = true from Bool.false_ne_true), if_neg h5, if_neg hl]
theorem f6 {c : Cf} {x : Fz} {l : ByteArray} (h : (Bj c x.1 l).1.2 = ⟨#[]⟩) : ce c x l = ((Bj c x.1 l).1.1, x.2.1, x.2.2 ++ (Bj c x.1 l).2) := by unfold ce; rw [if_pos h]
theorem f5 {c : Cf} {x : Fz} {l : ByteArray} (h : ¬ (Bj c x.1 l).1.2 = ⟨#[]⟩) : ce c x l = ((Bj c x.1 l).1.1, x.2.1 ++ [(Bj c x.1 l).1.2], x.2.2 ++ (Bj c x.1 l).2) := by unfold ce; rw [if_neg h]
def Zn (c : Cf) (n : Nat) (x : Fz) : Prop := OZ x.1 ∧ x.2.1.length ≤ n ∧ x.2.2.length ≤ n ∧ (∀ r ∈ x.2.1, r.size ≤ c.name.size + 20) ∧ ∀ m ∈ x.2.2, ej m
theorem Xj {c : Cf} {n : Nat} {x : Fz} {l : ByteArray} (h : Zn c n x) (hl : Bg l) : Zn c (n + 1) (ce c x l) := by
 obtain ⟨h1, h2, h3, h4, h5⟩ := h
 obtain ⟨q1, q2, q3, q4⟩ := Td c h1 hl
 have hm : ∀ m ∈ x.2.2 ++ (Bj c x.1 l).2, ej m := fun m hm => (List.mem_append.1 hm).elim (h5 m) (q4 m)
 by_cases e : (Bj c x.1 l).1.2 = ⟨#[]⟩
 ·rw [f6 e]
  exact ⟨q1, by show x.2.1.length ≤ _; omega, by show (x.2.2 ++ _).length ≤ _; rw [List.length_append]; omega, h4, hm⟩
 ·rw [f5 e]
  refine ⟨q1, by show (x.2.1 ++ [_]).length ≤ _; rw [List.length_append]; show x.2.1.length + 1 ≤ _; omega, by show (x.2.2 ++ _).length ≤ _; rw [List.length_append]; omega, fun r hr => ?_, hm⟩
  rcases List.mem_append.1 hr with hr | hr
  ·exact h4 r hr
  ·rw [List.mem_singleton] at hr; subst hr; exact q2
theorem Xi {c : Cf} {n : Nat} {x : Fz} (h : Zn c n x) : Zn c (n + 1) (Zq x) := by
 obtain ⟨h1, h2, h3, h4, h5⟩ := h
 refine ⟨F0 _, by show (x.2.1 ++ [_]).length ≤ _; rw [List.length_append]; show x.2.1.length + 1 ≤ _; omega, by show x.2.2.length ≤ _; omega, fun r hr => ?_, h5⟩
 rcases List.mem_append.1 hr with hr | hr
 ·exact h4 r hr
 ·rw [List.mem_singleton] at hr; subst hr; exact Nat.le_trans (Nat.le_of_ble_eq_true rfl : _ ≤ 20) (Nat.le_add_left _ _)
theorem EU {c : Cf} {n m : Nat} {x : Fz} (h : Zn c n x) (hn : n ≤ m) : Zn c m x := ⟨h.1, by have := h.2.1; omega, by have := h.2.2.1; omega, h.2.2.2⟩
theorem Xh {c : Cf} : ∀ (L : List ByteArray) {n : Nat} {x : Fz}, Zn c n x → (∀ l ∈ L, Bg l) → Zn c (n + L.length) (NQ c L x).1
 | [], n, x, h, _ => h
 | l :: r, n, x, h, hl => by
   rw [NQ]
   split
   ·exact EU h (Nat.le_add_right _ _)
   ·split
    ·exact EU (Xi h) (by rw [List.length_cons]; omega)
    ·exact EU (Xh r (Xj h (hl l (List.mem_cons_self ..))) fun y hy => hl y (List.mem_cons_of_mem _ hy)) (by rw [List.length_cons]; omega)
theorem Xk {c : Cf} {s : Ss} {t : ByteArray} (h : OZ s) (hb : s.buf.size + t.size ≤ 1000000) : Zn c (s.buf.size + t.size + 1) (Bo c s t) := by
 obtain ⟨q1, q2, q3⟩ := gJ (s.buf ++ t)
 rw [ByteArray.size_append] at q1 q2 q3
 have q := Xh (c := c) (OG (s.buf ++ t)) (n := 0) (x := (⟨s.state, s.mail, s.bad, ⟨#[]⟩⟩, [], [])) ⟨h, Nat.le_refl _, Nat.le_refl _, fun _ z => (by cases z), fun _ z => (by cases z)⟩ (fun l hl => by have := q2 l hl; show l.size ≤ 1048576; omega)
 have q' := EU q (show 0 + (OG (s.buf ++ t)).length ≤ s.buf.size + t.size by omega)
 unfold Bo Xg
 split
 ·exact EU q' (by omega)
 ·split
  ·exact EU q' (by omega)
  ·split
   ·exact Xi q'
   ·exact ⟨q'.1, Nat.le_succ_of_le q'.2.1, Nat.le_succ_of_le q'.2.2.1, q'.2.2.2⟩
def kc : Ct := Aj (lc JS.ag (lc aU.ag (lc Ak l0))) (fun p => p.1.name.size ≤ 1000000 ∧ OZ p.2.1 ∧ p.2.1.buf.size + p.2.2.1.size ≤ 1000000) (fun p => .tup [.agg ((Eb (Bo p.1 p.2.1 p.2.2.1).1).map .t), .t (.sl 1 ((Bo p.1 p.2.1 p.2.2.1).2.1.map AG)), .t (.sl 4 ((Bo p.1 p.2.1 p.2.2.1).2.2.map DG))])
section
attribute [local go_sem] ko Qq kp Ai lm List.length_append List.map_append AS.opn AS.cls AS.nilb AS.renb AS.up Bool.not_false Bool.not_true List.set_set List.set_cons_zero List.set_cons_succ List.set_nil List.mem_singleton forall_eq tn List.map_nil List.nil_append
set_option maxHeartbeats 6400000 in
theorem rM {G : Gt} (hG : Ac G) (hh : G.e 249 = AA 0 ko ∧ G.e 250 = AA 1 Qq ∧ G.e 251 = AA 1 kp) : Gd G 238 (AA 1 kc) := by
 refine PF (dp := fun n => !(Nat.beq n 18 || Nat.beq n 72)) (fn := Tryz.f238) (n := 3) rfl hG ?_
 rintro ⟨c, s, t, ⟨⟩⟩ hpre
 obtain ⟨hn, hs, hz⟩ := hpre
 try dsimp only at hn hs hz ⊢
 obtain ⟨q1, q2, q3⟩ := gJ (s.buf ++ t)
 rw [ByteArray.size_append] at q1 q2 q3
 have q2' : ∀ i, i < (OG (s.buf ++ t)).length → Bg ((OG (s.buf ++ t)).getD i default) := fun i hi => by have := q2 _ (AB hi); show ByteArray.size _ ≤ 1048576; omega
 simp -implicitDefEqProofs only [Tryz.f238, go_sem, hh, seval]
 with_reducible repeat' (first | apply ai | intro _ | ((first | apply s1 | apply s2 | apply s3 | apply s4) <;> intro hb <;> simp -implicitDefEqProofs only [hb, go_sem, hh, seval] <;> try simp only [qz] at hb))
 all_goals (try simp only [maxLen, tn, ByteArray.size_append] at *)
 all_goals first | with_reducible rfl | omega | with_reducible assumption | decide | (simp only [List.mem_cons, List.mem_singleton, List.not_mem_nil] at *; omega) | skip
 refine AC [(9, 901, true, 1), (10, 902, false, 4)] (ι := {p : Nat × Fz // p.1 ≤ (OG (s.buf ++ t)).length ∧ Zn c p.1 p.2 ∧ NQ c ((OG (s.buf ++ t)).drop p.1) p.2 = NQ c (OG (s.buf ++ t)) (⟨s.state, s.mail, s.bad, ⟨#[]⟩⟩, [], [])}) (fun p => ⟨[(3, .pb 1003 0), (4, .pb 1004 0), (6, .pb 1006 0), (9, .h 901), (10, .h 902), (11, .h 1024), (12, .t (.v (.string (nB (s.buf ++ t))))), (13, .t (.v (.int .i64 p.1.1)))], [(1003, some (.box ((DT c).map .t))), (1004, some (.box ((Eb p.1.2.1).map .t))), (1006, some (.box [.t (.v (.int .i64 0)), .t (.v (.string ⟨#[]⟩)), .t (.v (.string ⟨#[]⟩)), .nil, .nil, .t (.v (.bool false)), .t (.v (.string ⟨#[]⟩))])), (901, some (.arr true 1 (p.1.2.2.1.map AG))), (902, some (.arr false 4 (p.1.2.2.2.map DG))), (1024, some (.arr true 1 ((OG (s.buf ++ t)).map AG)))]⟩) (fun p => (OG (s.buf ++ t)).length - p.1.1) ⟨(0, (⟨s.state, s.mail, s.bad, ⟨#[]⟩⟩, [], [])), Nat.zero_le _, ⟨hs, Nat.le_refl _, Nat.le_refl _, fun _ z => (by cases z), fun _ z => (by cases z)⟩, rfl⟩ rfl ?_ ?_
 ·simp -implicitDefEqProofs only [go_sem, hh, seval]
  try simp
 ·rintro ⟨⟨i, x⟩, hi, hx, hv⟩
  obtain ⟨x1, x2, x3⟩ := x
  dsimp only at hi hx hv
  have hb1 := hx.1.1
  have hb2 := hx.1.2.1
  have hb3 := hx.2.1
  have hb4 := hx.2.2.1
  dsimp only at hb1 hb2 hb3 hb4
  simp -implicitDefEqProofs only [go_sem, hh, seval]
  with_reducible repeat' (first | apply ai | intro _ | ((first | apply s1 | apply s2 | apply s3 | apply s4) <;> intro hb <;> simp -implicitDefEqProofs only [hb, go_sem, hh, seval] <;> try simp only [qz] at hb))
  all_goals (try simp only [maxLen, tn] at *)
  all_goals first
   | with_reducible rfl
   | omega
   | (show _ = true; rfl)
   | with_reducible assumption
   | (rw [show Bo c s t = _ from tN ((tS (by with_reducible assumption)).symm.trans hv) (by with_reducible assumption)]; first | done | rfl | (simp [Zq, AG]; done))
   | (rw [show Bo c s t = _ from tM ((tQ (by omega) (by with_reducible assumption) (by with_reducible assumption)).symm.trans hv)]; first | done | rfl | (simp [Zq, AG]; done))
   | (rw [show Bo c s t = _ from tO ((fy (by omega)).symm.trans hv) (by with_reducible assumption) (by with_reducible assumption)]; first | done | rfl | (simp [Zq, AG]; done))
   | (rw [show Bo c s t = _ from tP ((fy (by omega)).symm.trans hv) (by with_reducible assumption) (by with_reducible assumption)]; first | done | rfl | (simp [Zq, AG]; done))
   | exact hx.1
   | exact Nat.le_trans (q2' i (by omega)) (by decide)
   | (refine ⟨⟨(i + 1, ce c (x1, x2, x3) ((OG (s.buf ++ t)).getD i default)), by omega, Xj hx (q2' i (by omega)), (tR (by omega) (by with_reducible assumption) (by with_reducible assumption)).symm.trans hv⟩, by dsimp only; omega, ?_⟩
      simp -implicitDefEqProofs only [go_sem, hh, seval]
      first
       | (have ee := f6 (c := c) (x := (x1, x2, x3)) (by with_reducible assumption); simp only [ee]; simp [AG]; done)
       | (have ee := f5 (c := c) (x := (x1, x2, x3)) (by with_reducible assumption); simp only [ee]; simp [AG]; done))
   | (have q := (Td (s := x1) c hx.1 (q2' i (by omega))).2.2.1; omega)
   | skip
end
def O6 (x : ByteArray) : ByteArray := if ¬ x = ⟨#[]⟩ ∧ AE x 0 = 46 then ⟨#[46]⟩ ++ x else x
theorem mN {x : ByteArray} (h : ¬ x = ⟨#[]⟩) (h2 : AE x 0 = 46) : O6 x = ⟨#[46]⟩ ++ x := if_pos ⟨h, h2⟩
theorem mM {x : ByteArray} (h : ¬ x = ⟨#[]⟩) (h2 : ¬ AE x 0 = 46) : O6 x = x := if_neg fun q => h2 q.2
theorem mL {x : ByteArray} (h : x = ⟨#[]⟩) : O6 x = x := if_neg fun q => q.1 h
theorem XC (x : ByteArray) : (O6 x).size ≤ x.size + 1 := by
 unfold O6
 split
 ·rw [ByteArray.size_append]; have : (⟨#[46]⟩ : ByteArray).size = 1 := rfl; omega
 ·omega
def KY : List ByteArray → ByteArray → ByteArray
 | [], o => o
 | x :: r, o => KY r (o ++ O6 x ++ ⟨#[13, 10]⟩)
def Ub (l : List ByteArray) : ByteArray := KY l ⟨#[]⟩ ++ ⟨#[46, 13, 10]⟩
theorem mP {L : List ByteArray} {i : Nat} {o : ByteArray} (h : i < L.length) : KY (L.drop i) o = KY (L.drop (i + 1)) (o ++ O6 (L.getD i default) ++ ⟨#[13, 10]⟩) := by rw [Aa h, KY]
theorem mO {L : List ByteArray} {i : Nat} {o : ByteArray} (h : L.length ≤ i) : KY (L.drop i) o = o := by rw [List.drop_of_length_le h, KY]
theorem NF : (⟨#[13, 10]⟩ : ByteArray).size = 2 := rfl
theorem fQ : (⟨#[46, 13, 10]⟩ : ByteArray).size = 3 := rfl
theorem XD : ∀ (L : List ByteArray) (o : ByteArray) (B : Nat), (∀ x ∈ L, x.size ≤ B) → (KY L o).size ≤ o.size + L.length * (B + 3)
 | [], o, B, _ => by show o.size ≤ _; omega
 | x :: r, o, B, h => by
   have h1 := h x (List.mem_cons_self ..)
   have h2 := XC x
   have q := XD r (o ++ O6 x ++ ⟨#[13, 10]⟩) B (fun y hy => h y (List.mem_cons_of_mem _ hy))
   rw [ByteArray.size_append, ByteArray.size_append, NF] at q
   rw [KY, List.length_cons, Nat.add_mul]
   omega
def kk : Ct := Aj (lc Ao.asl l0) (fun p => p.1.length ≤ 1000 ∧ ∀ x ∈ p.1, x.size ≤ 2000000) (fun p => .t (.v (.string (Ub p.1))))
section
attribute [local go_sem] lm Int.toNat_zero
set_option maxHeartbeats 1600000 in
theorem rU {G : Gt} (hG : Ac G) : Gd G 246 (AA 0 kk) := by
 refine gr (fn := Tryz.f246) (n := 1) rfl hG ?_
 rintro ⟨xs, ⟨⟩⟩ hpre
 simp -implicitDefEqProofs only [Tryz.f246, go_sem, seval] at hpre ⊢
 obtain ⟨hl, hx⟩ := hpre
 try dsimp only at hl hx
 refine AC [] (ι := {p : Nat × ByteArray // p.1 ≤ xs.length ∧ p.2.size ≤ p.1 * 2000003 ∧ KY (xs.drop p.1) p.2 = KY xs ⟨#[]⟩}) (fun p => ⟨[(0, .t (.sl 1 (xs.map AG))), (3, .t (.v (.string p.1.2))), (4, .t (.v (.int .i64 p.1.1)))], []⟩) (fun p => xs.length - p.1.1) ⟨(0, ⟨#[]⟩), Nat.zero_le _, Nat.zero_le _, rfl⟩ rfl ?_ ?_
 ·simp -implicitDefEqProofs only [go_sem, seval]
  try simp
 ·rintro ⟨⟨i, out⟩, hi, ho, hv⟩
  dsimp only at hi ho hv
  have hd : ∀ h : i < xs.length, (xs.getD i default).size ≤ 2000000 := fun h => hx _ (AB h)
  have hd1 := XC (xs.getD i default)
  simp -implicitDefEqProofs only [go_sem, seval]
  with_reducible repeat' (first | apply ai | intro _ | ((first | apply s1 | apply s2 | apply s3 | apply s4) <;> intro hb <;> simp -implicitDefEqProofs only [hb, go_sem, seval] <;> try simp only [qz] at hb))
  all_goals (try simp only [maxLen, tn, ByteArray.size_append, NF, fQ] at *)
  all_goals first
   | with_reducible rfl
   | omega
   | exact Ha (by assumption)
   | (have := hd (by omega); have e : (#[46] : Array UInt8).size = 1 := rfl; have e2 : (#[13, 10] : Array UInt8).size = 2 := rfl; have e3 : (#[46, 13, 10] : Array UInt8).size = 3 := rfl; omega)
   | (have e3 : (#[46, 13, 10] : Array UInt8).size = 3 := rfl; omega)
   | (rw [mO (by omega)] at hv; unfold Ub; rw [← hv]; done)
   | (rw [mP (by omega)] at hv
      refine ⟨⟨(i + 1, _), by dsimp only; omega, ?_, hv⟩, by dsimp only; omega, ?_⟩
      ·have := hd (by omega)
       dsimp only
       rw [ByteArray.size_append, ByteArray.size_append, NF]
       omega
      ·simp -implicitDefEqProofs only [go_sem, seval]
       first
        | (rw [mN (by assumption) (by assumption)]; simp; done)
        | (rw [mM (by assumption) (by assumption)]; simp; done)
        | (rw [mL (by assumption)]; simp; done))
   | skip
end
theorem zY : (3 : Int).toNat = 3 := rfl
open Classical in
noncomputable def BJ (s : ByteArray) : Int := (if (s.size : Int) < 4 then 0 else (if AE s 3 = 32 then (if AE s 0 < 50 then 0 else (if AE s 0 > 53 then 0 else (if PZ (s.extract 0 3) < 200 then 0 else PZ (s.extract 0 3)))) else 0))
theorem lV {s : ByteArray} (h0 : (s.size : Int) < 4) : BJ s = 0 := by unfold BJ; rw [if_pos h0]
theorem lW {s : ByteArray} (h0 : ¬ ((s.size : Int) < 4)) (h1 : AE s 3 = 32) (h2 : AE s 0 < 50) : BJ s = 0 := by unfold BJ; rw [if_neg h0, if_pos h1, if_pos h2]
theorem lX {s : ByteArray} (h0 : ¬ ((s.size : Int) < 4)) (h1 : AE s 3 = 32) (h2 : ¬ (AE s 0 < 50)) (h3 : AE s 0 > 53) : BJ s = 0 := by unfold BJ; rw [if_neg h0, if_pos h1, if_neg h2, if_pos h3]
theorem lY {s : ByteArray} (h0 : ¬ ((s.size : Int) < 4)) (h1 : AE s 3 = 32) (h2 : ¬ (AE s 0 < 50)) (h3 : ¬ (AE s 0 > 53)) (h4 : PZ (s.extract 0 3) < 200) : BJ s = 0 := by unfold BJ; rw [if_neg h0, if_pos h1, if_neg h2, if_neg h3, if_pos h4]
theorem lZ {s : ByteArray} (h0 : ¬ ((s.size : Int) < 4)) (h1 : AE s 3 = 32) (h2 : ¬ (AE s 0 < 50)) (h3 : ¬ (AE s 0 > 53)) (h4 : ¬ (PZ (s.extract 0 3) < 200)) : BJ s = PZ (s.extract 0 3) := by unfold BJ; rw [if_neg h0, if_pos h1, if_neg h2, if_neg h3, if_neg h4]
theorem la {s : ByteArray} (h0 : ¬ ((s.size : Int) < 4)) (h1 : ¬ (AE s 3 = 32)) : BJ s = 0 := by unfold BJ; rw [if_neg h0, if_neg h1]
theorem tJ (s : ByteArray) : (s.extract 0 3).size ≤ 3 := by rw [ByteArray.size_extract]; omega
def ki : Ct := Aj (lc Ak l0) (fun p => True) (fun p => .t (.v (.int .i64 (BJ p.1))))
section
attribute [local go_sem] kq Int.toNat_zero zY
theorem rR {G : Gt} (hG : Ac G) (hh : G.e 252 = AA 0 kq) : Gd G 243 (AA 0 ki) := by
 refine gr (fn := Tryz.f243) (n := 1) rfl hG ?_
 rintro ⟨s, ⟨⟩⟩ hpre
 try dsimp only
 have hz := tJ s
 refine BN ((s.size : Int) < 4) (fun h0 => have e_ : BJ s = _ := lV h0; have h1 := trivial; have h2 := trivial; have h3 := trivial; have h4 := trivial; ?_) (fun h0 => BN (AE s 3 = 32) (fun h1 => BN (AE s 0 < 50) (fun h2 => have e_ : BJ s = _ := lW h0 h1 h2; have h3 := trivial; have h4 := trivial; ?_) (fun h2 => BN (AE s 0 > 53) (fun h3 => have e_ : BJ s = _ := lX h0 h1 h2 h3; have h4 := trivial; ?_) (fun h3 => BN (PZ (s.extract 0 3) < 200) (fun h4 => have e_ : BJ s = _ := lY h0 h1 h2 h3 h4; ?_) (fun h4 => have e_ : BJ s = _ := lZ h0 h1 h2 h3 h4; ?_)))) (fun h1 => have e_ : BJ s = _ := la h0 h1; have h2 := trivial; have h3 := trivial; have h4 := trivial; ?_))
 all_goals
  try rw [e_]
  simp -implicitDefEqProofs only [Tryz.f243, h0, h1, h2, h3, h4, eq_self, decide_true, decide_false, Int.reduceEq, go_sem, hh, seval]
  with_reducible repeat' (first | apply ai | intro _ | ((first | apply s1 | apply s2 | apply s3 | apply s4) <;> intro hb <;> simp -implicitDefEqProofs only [hb, go_sem, hh, seval] <;> try simp only [qz] at hb))
  all_goals (try simp only [maxLen, tn, lm] at *)
  all_goals first | rfl | omega | decide | with_reducible assumption | (show AZ _ = true; rfl) | exact Ha (by assumption) | contradiction | skip
end
def dM (n : ByteArray) (m : Ml) : Cl := ⟨n, m, 0, 0, List.replicate m.to.length 0⟩
def ka : Ct := Aj (lc Ak (lc aN.ag l0)) (fun p => p.2.1.to.length ≤ 1000 ∧ p.2.1.body.length ≤ 1000) (fun p => .agg ((Do (dM p.1 p.2.1)).map .t))
section
attribute [local go_sem] NA lm AS.opn AS.cls AS.nilb AS.renb AS.up Bool.not_false Bool.not_true List.set_set List.set_cons_zero List.set_cons_succ List.set_nil List.mem_singleton forall_eq tn List.map_nil List.nil_append
theorem rK {G : Gt} (hG : Ac G) (hh : G.e 222 = AA 0 NA) : Gd G 236 (AA 1 ka) := by
 refine gr (fn := Tryz.f236) (n := 2) rfl hG ?_
 rintro ⟨n, m, ⟨⟩⟩ hpre
 simp -implicitDefEqProofs only [Tryz.f236, go_sem, hh, seval] at hpre ⊢
 obtain ⟨h1, h2⟩ := hpre
 try dsimp only at h1 h2 ⊢
 with_reducible repeat' (first | apply ai | intro _ | ((first | apply s1 | apply s2 | apply s3 | apply s4) <;> intro hb <;> simp -implicitDefEqProofs only [hb, go_sem, hh, seval] <;> try simp only [qz] at hb))
 all_goals (try simp only [maxLen, tn] at *)
 all_goals first | rfl | omega | decide | with_reducible assumption | (show AZ _ = true; rfl) | exact Ha (by assumption) | contradiction | (simp [dM, A9]; done) | skip
end
def Nf (f : Int → Int) (xs : List Int) (i : Nat) : List Int := (xs.take i).map f ++ xs.drop i
theorem gP (f : Int → Int) (xs : List Int) : Nf f xs 0 = xs := rfl
theorem gQ {f : Int → Int} {xs : List Int} {i : Nat} (h : xs.length ≤ i) : Nf f xs i = xs.map f := by
 unfold Nf; rw [List.take_of_length_le h, List.drop_of_length_le h, List.append_nil]
theorem TL (f : Int → Int) (xs : List Int) (i : Nat) : (Nf f xs i).length = xs.length := by
 unfold Nf; rw [List.length_append, lm, List.length_take, List.length_drop]; omega
theorem TK {f : Int → Int} {xs : List Int} {i : Nat} (h : i < xs.length) : (Nf f xs i).getD i default = xs.getD i default := by
 unfold Nf
 rw [List.getD_eq_getElem?_getD, List.getElem?_append_right (by rw [lm, List.length_take]; omega), lm, List.length_take, Nat.min_eq_left (by omega), Nat.sub_self, List.getElem?_drop, Nat.add_zero, List.getD_eq_getElem?_getD]
theorem PW {f : Int → Int} {xs : List Int} {i : Nat} (h : i < xs.length) : Nf f xs (i + 1) = (xs.take i).map f ++ (f (xs.getD i default) :: xs.drop (i + 1)) := by
 unfold Nf
 rw [List.take_add_one, List.getElem?_eq_getElem h, List.map_append, List.append_assoc]
 congr 1
 simp [h]
theorem TM {f : Int → Int} {xs : List Int} {i : Nat} {v : Int} (h : i < xs.length) (e : f (xs.getD i default) = v) : (Nf f xs i).set i v = Nf f xs (i + 1) := by
 rw [PW h, e]
 unfold Nf
 rw [List.set_append_right _ _ (by rw [lm, List.length_take]; omega), lm, List.length_take, Nat.min_eq_left (by omega), Nat.sub_self, Aa h]
 rfl
theorem PV {f : Int → Int} {xs : List Int} {i : Nat} (h : i < xs.length) (e : f (xs.getD i default) = xs.getD i default) : Nf f xs (i + 1) = Nf f xs i := by
 rw [PW h, e]
 unfold Nf
 rw [Aa h]
def GR (k n : Int) : Int := if n = 0 ∨ n = 1 then k else n
def Pp (n : Int) : Int := if n = 1 then 2 else n
def xA (c : Cl) (k : Int) : Cl := ⟨c.name, c.mail, c.state, c.pos, c.outs.map (GR k)⟩
def yN (c : Cl) : Cl := ⟨c.name, c.mail, c.state, c.pos, c.outs.map Pp⟩
def kr : Ct := Aj (lc Z9.ag (lc BU l0)) (fun p => p.1.outs.length ≤ 1000) (fun p => .agg ((Do (xA p.1 p.2.1)).map .t))
section
attribute [local go_sem] lm Ai Bh N3 AS.opn AS.cls AS.nilb AS.renb AS.up Bool.not_false Bool.not_true List.set_set List.set_cons_zero List.set_cons_succ List.set_nil List.mem_singleton forall_eq tn List.map_nil List.nil_append
set_option maxHeartbeats 1600000 in
theorem rb {G : Gt} (hG : Ac G) : Gd G 253 (AA 1 kr) := by
 refine gr (fn := Tryz.f253) (n := 2) rfl hG ?_
 rintro ⟨c, k, ⟨⟩⟩ hpre
 simp -implicitDefEqProofs only [Tryz.f253, go_sem, seval] at hpre ⊢
 have hl : c.outs.length ≤ 1000 := hpre
 with_reducible repeat' (first | apply ai | intro _ | ((first | apply s1 | apply s2 | apply s3 | apply s4) <;> intro hb <;> simp -implicitDefEqProofs only [hb, go_sem, seval] <;> try simp only [qz] at hb))
 all_goals (try simp only [maxLen, tn] at *)
 all_goals first | rfl | omega | decide | with_reducible assumption | (show AZ _ = true; rfl) | exact Ha (by assumption) | contradiction | skip
 refine AC [(5, 901, true, 1)] (ι := {i : Nat // i ≤ c.outs.length}) (fun p => ⟨[(1, .t (.v (.int .i64 k))), (2, .pb 1002 0), (4, .pb 1004 0), (5, .h 901), (6, .t (.v (.int .i64 p.1)))], [(1002, some (.box ((Do c).map .t))), (1004, some (.box [.t (.v (.string ⟨#[]⟩)), .t (.v (.string ⟨#[]⟩)), .t (.v (.string ⟨#[]⟩)), .nil, .nil, .t (.v (.int .i64 0)), .t (.v (.int .i64 0)), .nil])), (901, some (.arr true 1 ((Nf (GR k) c.outs p.1).map A9)))]⟩) (fun p => c.outs.length - p.1) ⟨0, Nat.zero_le _⟩ rfl ?_ ?_
 ·simp -implicitDefEqProofs only [go_sem, seval]
  simp [gP]
 ·rintro ⟨i, hi⟩
  dsimp only at hi ⊢
  have hln := TL (GR k) c.outs i
  have hg : i < c.outs.length → (Nf (GR k) c.outs i).getD i default = c.outs.getD i default := TK
  simp -implicitDefEqProofs only [go_sem, seval]
  with_reducible repeat' (first | apply ai | intro _ | ((first | apply s1 | apply s2 | apply s3 | apply s4) <;> intro hb <;> simp -implicitDefEqProofs only [hb, go_sem, seval] <;> try simp only [qz] at hb))
  all_goals (try simp only [maxLen, tn] at *)
  all_goals first
   | with_reducible rfl
   | omega
   | (show _ = true; rfl)
   | (rw [gQ (by omega)]; first | done | rfl)
   | rfl
   | (refine ⟨⟨i + 1, by omega⟩, by dsimp only; omega, ?_⟩
      have hgi := hg (by omega)
      simp -implicitDefEqProofs only [go_sem, seval]
      first
       | (rw [TM (by omega) (show GR k _ = k from if_pos (by omega))]; simp; done)
       | (rw [PV (by omega) (show GR k _ = _ from if_neg (by omega))]; simp; done)
       | skip)
   | skip
end
def km : Ct := Aj (lc Z9.ag l0) (fun p => p.1.outs.length ≤ 1000) (fun p => .agg ((Do (yN p.1)).map .t))
section
attribute [local go_sem] lm Ai Bh N3 AS.opn AS.cls AS.nilb AS.renb AS.up Bool.not_false Bool.not_true List.set_set List.set_cons_zero List.set_cons_succ List.set_nil List.mem_singleton forall_eq tn List.map_nil List.nil_append
set_option maxHeartbeats 1600000 in
theorem rV {G : Gt} (hG : Ac G) : Gd G 247 (AA 1 km) := by
 refine gr (fn := Tryz.f247) (n := 1) rfl hG ?_
 rintro ⟨c, ⟨⟩⟩ hpre
 simp -implicitDefEqProofs only [Tryz.f247, go_sem, seval] at hpre ⊢
 have hl : c.outs.length ≤ 1000 := hpre
 with_reducible repeat' (first | apply ai | intro _ | ((first | apply s1 | apply s2 | apply s3 | apply s4) <;> intro hb <;> simp -implicitDefEqProofs only [hb, go_sem, seval] <;> try simp only [qz] at hb))
 all_goals (try simp only [maxLen, tn] at *)
 all_goals first | rfl | omega | decide | with_reducible assumption | (show AZ _ = true; rfl) | exact Ha (by assumption) | contradiction | skip
 refine AC [(3, 901, true, 1)] (ι := {i : Nat // i ≤ c.outs.length}) (fun p => ⟨[(1, .pb 1001 0), (2, .pb 1002 0), (3, .h 901), (4, .t (.v (.int .i64 p.1)))], [(1001, some (.box ((Do c).map .t))), (1002, some (.box [.t (.v (.string ⟨#[]⟩)), .t (.v (.string ⟨#[]⟩)), .t (.v (.string ⟨#[]⟩)), .nil, .nil, .t (.v (.int .i64 0)), .t (.v (.int .i64 0)), .nil])), (901, some (.arr true 1 ((Nf Pp c.outs p.1).map A9)))]⟩) (fun p => c.outs.length - p.1) ⟨0, Nat.zero_le _⟩ rfl ?_ ?_
 ·simp -implicitDefEqProofs only [go_sem, seval]
  simp [gP]
 ·rintro ⟨i, hi⟩
  dsimp only at hi ⊢
  have hln := TL Pp c.outs i
  have hg : i < c.outs.length → (Nf Pp c.outs i).getD i default = c.outs.getD i default := TK
  simp -implicitDefEqProofs only [go_sem, seval]
  with_reducible repeat' (first | apply ai | intro _ | ((first | apply s1 | apply s2 | apply s3 | apply s4) <;> intro hb <;> simp -implicitDefEqProofs only [hb, go_sem, seval] <;> try simp only [qz] at hb))
  all_goals (try simp only [maxLen, tn] at *)
  all_goals first
   | with_reducible rfl
   | omega
   | (show _ = true; rfl)
   | (rw [gQ (by omega)]; first | done | rfl)
   | rfl
   | (refine ⟨⟨i + 1, by omega⟩, by dsimp only; omega, ?_⟩
      have hgi := hg (by omega)
      simp -implicitDefEqProofs only [go_sem, seval]
      first
       | (rw [TM (by omega) (show Pp _ = 2 from if_pos (by omega))]; simp; done)
       | (rw [PV (by omega) (show Pp _ = _ from if_neg (by omega))]; simp; done)
       | skip)
   | skip
end
def ke : Ct := Aj (lc Z9.ag l0) (fun p => p.1.outs.length ≤ 1000) (fun p => .o true 1 ((p.1.outs.map (GR 3)).map A9))
section
attribute [local go_sem] lm List.length_append List.map_append AS.opn AS.cls AS.nilb AS.renb AS.up Bool.not_false Bool.not_true List.set_set List.set_cons_zero List.set_cons_succ List.set_nil List.mem_singleton forall_eq tn List.map_nil List.nil_append
set_option maxHeartbeats 1600000 in
theorem rN {G : Gt} (hG : Ac G) : Gd G 239 (AA 0 ke) := by
 refine gr (fn := Tryz.f239) (n := 1) rfl hG ?_ (hs := fun _ _ => .deep _ _)
 rintro ⟨c, ⟨⟩⟩ hpre
 simp -implicitDefEqProofs only [Tryz.f239, go_sem, seval] at hpre ⊢
 have hl : c.outs.length ≤ 1000 := hpre
 with_reducible repeat' (first | apply ai | intro _ | ((first | apply s1 | apply s2 | apply s3 | apply s4) <;> intro hb <;> simp -implicitDefEqProofs only [hb, go_sem, seval] <;> try simp only [qz] at hb))
 all_goals (try simp only [maxLen, tn] at *)
 all_goals first | rfl | omega | decide | with_reducible assumption | (show AZ _ = true; rfl) | exact Ha (by assumption) | contradiction | skip
 refine AC [(3, 901, true, 1)] (ι := {i : Nat // i ≤ c.outs.length}) (fun p => ⟨[(1, .pb 1001 0), (3, .h 901), (4, .t (.v (.int .i64 p.1)))], [(1001, some (.box ((Do c).map .t))), (901, some (.arr true 1 (((c.outs.take p.1).map (GR 3)).map A9)))]⟩) (fun p => c.outs.length - p.1) ⟨0, Nat.zero_le _⟩ rfl ?_ ?_
 ·simp -implicitDefEqProofs only [go_sem, seval]
  try simp
 ·rintro ⟨i, hi⟩
  dsimp only at hi ⊢
  have hln : (c.outs.take i).length = i := by rw [List.length_take]; omega
  simp -implicitDefEqProofs only [go_sem, seval]
  with_reducible repeat' (first | apply ai | intro _ | ((first | apply s1 | apply s2 | apply s3 | apply s4) <;> intro hb <;> simp -implicitDefEqProofs only [hb, go_sem, seval] <;> try simp only [qz] at hb))
  all_goals (try simp only [maxLen, tn] at *)
  all_goals first
   | with_reducible rfl
   | omega
   | (show _ = true; rfl)
   | (rw [List.take_of_length_le (by omega)]; first | done | rfl)
   | rfl
   | (simp only [List.mem_singleton] at *; omega)
   | (rename_i q; simp only [List.mem_singleton] at q; subst q; rfl)
   | (have ht : c.outs.take (i + 1) = c.outs.take i ++ [c.outs.getD i default] := by
        have hh : i < c.outs.length := by omega
        rw [List.take_add_one, List.getElem?_eq_getElem hh]; simp [hh]
      refine ⟨⟨i + 1, by omega⟩, by dsimp only; omega, ?_⟩
      simp -implicitDefEqProofs only [go_sem, seval]
      rw [ht]
      first
       | (have ee : GR 3 (c.outs.getD i default) = 3 := if_pos (by omega); simp only [List.map_append, List.map_cons, List.map_nil, ee]; simp [A9]; done)
       | (have ee : GR 3 (c.outs.getD i default) = c.outs.getD i default := if_neg (by omega); simp only [List.map_append, List.map_cons, List.map_nil, ee]; simp [A9]; done)
       | skip)
   | skip
end
def OE (m : Ml) : Prop := m.to.length ≤ 1000 ∧ m.body.length ≤ 100 ∧ (m.frm.user.size ≤ 1000 ∧ m.frm.domain.size ≤ 1000) ∧ (∀ a ∈ m.to, a.user.size ≤ 1000 ∧ a.domain.size ≤ 1000) ∧ ∀ l ∈ m.body, l.size ≤ 1000
theorem gp {m : Ml} (h : OE m) {i : Nat} (hi : i < m.to.length) : (m.to.getD i default).user.size ≤ 1000 ∧ (m.to.getD i default).domain.size ≤ 1000 := h.2.2.2.1 _ (AB hi)
theorem Nv (a : Ad) : (CA a).size ≤ a.user.size + a.domain.size + 3 := by
 by_cases h : AN a
 ·rw [E9 h]; have : (⟨#[60, 62]⟩ : ByteArray).size = 2 := rfl; omega
 ·rw [Nu h]
  simp only [ByteArray.size_append]
  have e1 : (⟨#[60]⟩ : ByteArray).size = 1 := rfl
  have e2 : (⟨#[64]⟩ : ByteArray).size = 1 := rfl
  have e3 : (⟨#[62]⟩ : ByteArray).size = 1 := rfl
  omega
open Classical in
noncomputable def DN (c : Cl) (k : Int) : Cl × ByteArray := (if k ≥ 500 then (⟨c.name, c.mail, 6, c.pos, c.outs.map (GR 4)⟩, ⟨#[81, 85, 73, 84]⟩) else (⟨c.name, c.mail, 6, c.pos, c.outs.map (GR 3)⟩, ⟨#[81, 85, 73, 84]⟩))
theorem mV {c : Cl} {k : Int} (h0 : k ≥ 500) : DN c k = (⟨c.name, c.mail, 6, c.pos, c.outs.map (GR 4)⟩, ⟨#[81, 85, 73, 84]⟩) := by unfold DN; rw [if_pos h0]
theorem mW {c : Cl} {k : Int} (h0 : ¬ (k ≥ 500)) : DN c k = (⟨c.name, c.mail, 6, c.pos, c.outs.map (GR 3)⟩, ⟨#[81, 85, 73, 84]⟩) := by unfold DN; rw [if_neg h0]
def kn : Ct := Aj (lc Z9.ag (lc BU l0)) (fun p => p.1.outs.length ≤ 1000) (fun p => .tup [.agg ((Do (DN p.1 p.2.1).1).map .t), .t (.v (.string (DN p.1 p.2.1).2))])
section
attribute [local go_sem] kr AS.opn AS.cls AS.nilb AS.renb AS.up Bool.not_false Bool.not_true List.set_set List.set_cons_zero List.set_cons_succ List.set_nil List.mem_singleton forall_eq tn List.map_nil List.nil_append
theorem rW {G : Gt} (hG : Ac G) (hh : G.e 253 = AA 1 kr) : Gd G 248 (AA 1 kn) := by
 refine gr (fn := Tryz.f248) (n := 2) rfl hG ?_
 rintro ⟨c, k, ⟨⟩⟩ hpre
 have hl : c.outs.length ≤ 1000 := hpre
 try dsimp only
 refine BN (k ≥ 500) (fun h0 => have e_ : DN c k = _ := mV h0; ?_) (fun h0 => have e_ : DN c k = _ := mW h0; ?_)
 all_goals
  try rw [e_]
  simp -implicitDefEqProofs only [Tryz.f248, h0, eq_self, decide_true, decide_false, Int.reduceEq, go_sem, hh, seval]
  with_reducible repeat' (first | apply ai | intro _ | ((first | apply s1 | apply s2 | apply s3 | apply s4) <;> intro hb <;> simp -implicitDefEqProofs only [hb, go_sem, hh, seval] <;> try simp only [qz] at hb))
  all_goals (try simp only [maxLen, tn, lm] at *)
  all_goals first | rfl | omega | decide | with_reducible assumption | (show AZ _ = true; rfl) | exact Ha (by assumption) | contradiction | skip
end
open Classical in
noncomputable def Db (c : Cl) : Cl × ByteArray := (if c.pos < c.mail.to.length then (⟨c.name, c.mail, 3, c.pos + 1, c.outs⟩, ⟨#[82, 67, 80, 84, 32, 84, 79, 58]⟩ ++ CA (c.mail.to.getD c.pos.toNat default)) else (if 1 ∈ c.outs then (⟨c.name, c.mail, 4, c.pos, c.outs⟩, ⟨#[68, 65, 84, 65]⟩) else (⟨c.name, c.mail, 6, c.pos, c.outs⟩, ⟨#[81, 85, 73, 84]⟩)))
theorem nL {c : Cl} (h0 : c.pos < c.mail.to.length) : Db c = (⟨c.name, c.mail, 3, c.pos + 1, c.outs⟩, ⟨#[82, 67, 80, 84, 32, 84, 79, 58]⟩ ++ CA (c.mail.to.getD c.pos.toNat default)) := by unfold Db; rw [if_pos h0]
theorem nM {c : Cl} (h0 : ¬ (c.pos < c.mail.to.length)) (h1 : 1 ∈ c.outs) : Db c = (⟨c.name, c.mail, 4, c.pos, c.outs⟩, ⟨#[68, 65, 84, 65]⟩) := by unfold Db; rw [if_neg h0, if_pos h1]
theorem nN {c : Cl} (h0 : ¬ (c.pos < c.mail.to.length)) (h1 : ¬ (1 ∈ c.outs)) : Db c = (⟨c.name, c.mail, 6, c.pos, c.outs⟩, ⟨#[81, 85, 73, 84]⟩) := by unfold Db; rw [if_neg h0, if_neg h1]
def WW : Ct := Aj (lc Z9.ag l0) (fun p => p.1.outs.length ≤ 1000 ∧ OE p.1.mail ∧ 0 ≤ p.1.pos) (fun p => .tup [.agg ((Do (Db p.1).1).map .t), .t (.v (.string (Db p.1).2))])
section
attribute [local go_sem] M7 Int.add_sub_cancel AS.opn AS.cls AS.nilb AS.renb AS.up Bool.not_false Bool.not_true List.set_set List.set_cons_zero List.set_cons_succ List.set_nil List.mem_singleton forall_eq tn List.map_nil List.nil_append
set_option maxHeartbeats 1600000 in
theorem rT {G : Gt} (hG : Ac G) (hh : G.e 126 = AA 0 M7) : Gd G 245 (AA 1 WW) := by
 refine gr (fn := Tryz.f245) (n := 1) rfl hG ?_
 rintro ⟨c, ⟨⟩⟩ hpre
 obtain ⟨hl, hm, hp⟩ := hpre
 try dsimp only at hl hm hp ⊢
 have hml := hm.1
 have hat : c.pos.toNat < c.mail.to.length → (c.mail.to.getD c.pos.toNat default).user.size ≤ 1000 ∧ (c.mail.to.getD c.pos.toNat default).domain.size ≤ 1000 := fun h => gp hm h
 have hps := Nv (c.mail.to.getD c.pos.toNat default)
 have e8 : (#[82, 67, 80, 84, 32, 84, 79, 58] : Array UInt8).size = 8 := rfl
 refine BN (c.pos < c.mail.to.length) (fun h0 => have e_ : Db c = _ := nL h0; ?_) (fun h0 => ?w1)
 case w1 =>
  simp -implicitDefEqProofs only [Tryz.f245, h0, eq_self, decide_true, decide_false, go_sem, hh, seval]
  with_reducible repeat' (first | apply ai | intro _ | ((first | apply s1 | apply s2 | apply s3 | apply s4) <;> intro hb <;> simp -implicitDefEqProofs only [hb, go_sem, hh, seval] <;> try simp only [qz] at hb))
  all_goals (try simp only [maxLen, tn, lm] at *)
  all_goals first | rfl | omega | decide | with_reducible assumption | (show AZ _ = true; rfl) | exact Ha (by assumption) | contradiction | skip
  refine AC [] (ι := {i : Nat // i ≤ c.outs.length ∧ ∀ j, j < i → ¬ c.outs.getD j default = 1}) (fun p => ⟨[(1, .pb 1001 0), (2, .pb 1002 0), (4, .t (.v (.int .i64 p.1)))], [(1001, some (.box ((Do c).map .t))), (1002, some (.box [.t (.v (.string ⟨#[]⟩)), .t (.v (.string ⟨#[]⟩)), .t (.v (.string ⟨#[]⟩)), .nil, .nil, .t (.v (.int .i64 0)), .t (.v (.int .i64 0)), .nil]))]⟩) (fun p => c.outs.length - p.1) ⟨0, by simp, by simp⟩ rfl ?_ ?_
  ·simp -implicitDefEqProofs only [go_sem, hh, seval]
   try simp
  ·rintro ⟨i, hi, hall⟩
   simp -implicitDefEqProofs only [go_sem, hh, seval]
   with_reducible repeat' (first | apply ai | intro _ | ((first | apply s1 | apply s2 | apply s3 | apply s4) <;> intro hb <;> simp -implicitDefEqProofs only [hb, go_sem, hh, seval] <;> try simp only [qz] at hb))
   all_goals (try simp only [maxLen, tn, lm] at *)
   all_goals first
    | with_reducible rfl
    | omega
    | (show _ = true; rfl)
    | (rw [nM h0 (YK (xs := c.outs) (i := i) (by omega) (by assumption))]; first | done | rfl)
    | (rw [nN h0 (Yd (by omega) hall)]; first | done | rfl)
    | (refine ⟨⟨i + 1, by omega, fun j hj => ?_⟩, by dsimp only; omega, ?_⟩
       ·by_cases e : j = i
        ·subst e; assumption
        ·exact hall j (by omega)
       ·simp -implicitDefEqProofs only [go_sem, hh, seval]
        simp)
    | skip
 all_goals
  try rw [e_]
  simp -implicitDefEqProofs only [Tryz.f245, h0, eq_self, decide_true, decide_false, Int.reduceEq, go_sem, hh, seval]
  with_reducible repeat' (first | apply ai | intro _ | ((first | apply s1 | apply s2 | apply s3 | apply s4) <;> intro hb <;> simp -implicitDefEqProofs only [hb, go_sem, hh, seval] <;> try simp only [qz] at hb))
  all_goals (try simp only [maxLen, tn, lm] at *)
  all_goals first | rfl | omega | decide | with_reducible assumption | (show AZ _ = true; rfl) | exact Ha (by assumption) | contradiction | skip
end
open Classical in
noncomputable def FQ (c : Cl) (k : Int) : Cl × ByteArray := (if k = 250 then Db ⟨c.name, c.mail, c.state, c.pos, c.outs.set (c.pos - 1).toNat 1⟩ else (if k ≥ 500 then Db ⟨c.name, c.mail, c.state, c.pos, c.outs.set (c.pos - 1).toNat 4⟩ else Db ⟨c.name, c.mail, c.state, c.pos, c.outs.set (c.pos - 1).toNat 3⟩))
theorem oc {c : Cl} {k : Int} (h0 : k = 250) : FQ c k = Db ⟨c.name, c.mail, c.state, c.pos, c.outs.set (c.pos - 1).toNat 1⟩ := by unfold FQ; rw [if_pos h0]
theorem od {c : Cl} {k : Int} (h0 : ¬ (k = 250)) (h1 : k ≥ 500) : FQ c k = Db ⟨c.name, c.mail, c.state, c.pos, c.outs.set (c.pos - 1).toNat 4⟩ := by unfold FQ; rw [if_neg h0, if_pos h1]
theorem oe {c : Cl} {k : Int} (h0 : ¬ (k = 250)) (h1 : ¬ (k ≥ 500)) : FQ c k = Db ⟨c.name, c.mail, c.state, c.pos, c.outs.set (c.pos - 1).toNat 3⟩ := by unfold FQ; rw [if_neg h0, if_neg h1]
def kj : Ct := Aj (lc Z9.ag (lc BU l0)) (fun p => p.1.outs.length ≤ 1000 ∧ OE p.1.mail ∧ 1 ≤ p.1.pos ∧ p.1.pos ≤ p.1.outs.length) (fun p => .tup [.agg ((Do (FQ p.1 p.2.1).1).map .t), .t (.v (.string (FQ p.1 p.2.1).2))])
section
attribute [local go_sem] WW lm List.length_set Bh N3 AS.opn AS.cls AS.nilb AS.renb AS.up Bool.not_false Bool.not_true List.set_set List.set_cons_zero List.set_cons_succ List.set_nil List.mem_singleton forall_eq tn List.map_nil List.nil_append
set_option maxHeartbeats 1600000 in
theorem rS {G : Gt} (hG : Ac G) (hh : G.e 245 = AA 1 WW) : Gd G 244 (AA 1 kj) := by
 refine gr (fn := Tryz.f244) (n := 2) rfl hG ?_
 rintro ⟨c, k, ⟨⟩⟩ hpre
 obtain ⟨hl, hm, hp, hq⟩ := hpre
 try dsimp only at hl hm hp hq ⊢
 refine BN (k = 250) (fun h0 => have h0' := decide_eq_true h0; have e_ : FQ c k = _ := oc h0; have h1 := trivial; ?_) (fun h0 => have h0' := decide_eq_false h0; BN (k ≥ 500) (fun h1 => have e_ : FQ c k = _ := od h0 h1; ?_) (fun h1 => have e_ : FQ c k = _ := oe h0 h1; ?_))
 all_goals
  try rw [e_]
  simp -implicitDefEqProofs only [Tryz.f244, h0', h1, eq_self, decide_true, decide_false, Int.reduceEq, go_sem, hh, seval]
  with_reducible repeat' (first | apply ai | intro _ | ((first | apply s1 | apply s2 | apply s3 | apply s4) <;> intro hb <;> simp -implicitDefEqProofs only [hb, go_sem, hh, seval] <;> try simp only [qz] at hb))
  all_goals (try simp only [maxLen, tn, lm] at *)
  all_goals first | rfl | omega | decide | with_reducible assumption | (show AZ _ = true; rfl) | exact Ha (by assumption) | contradiction | skip
end
open Classical in
noncomputable def Az (c : Cl) (a : ByteArray) : Cl × ByteArray := (if c.state = 7 then (c, ⟨#[]⟩) else (if c.state = 6 then (⟨c.name, c.mail, 7, c.pos, c.outs⟩, ⟨#[]⟩) else (if c.state = 3 then FQ c (BJ a) else (if c.state = 0 then (if BJ a = 220 then (⟨c.name, c.mail, 1, c.pos, c.outs⟩, ⟨#[72, 69, 76, 79, 32]⟩ ++ c.name) else DN c (BJ a)) else (if c.state = 1 then (if BJ a = 250 then (⟨c.name, c.mail, 2, c.pos, c.outs⟩, ⟨#[77, 65, 73, 76, 32, 70, 82, 79, 77, 58]⟩ ++ CA c.mail.frm) else DN c (BJ a)) else (if c.state = 2 then (if BJ a = 250 then Db c else DN c (BJ a)) else (if c.state = 4 then (if BJ a = 354 then (⟨c.name, c.mail, 5, c.pos, c.outs⟩, Ub c.mail.body) else DN c (BJ a)) else (if c.state = 5 then (if BJ a = 250 then (⟨c.name, c.mail, 6, c.pos, c.outs.map Pp⟩, ⟨#[81, 85, 73, 84]⟩) else DN c (BJ a)) else DN c (BJ a)))))))))
theorem oE {c : Cl} {a : ByteArray} (h0 : c.state = 7) : Az c a = (c, ⟨#[]⟩) := by unfold Az; rw [if_pos h0]
theorem oF {c : Cl} {a : ByteArray} (h0 : ¬ (c.state = 7)) (h1 : c.state = 6) : Az c a = (⟨c.name, c.mail, 7, c.pos, c.outs⟩, ⟨#[]⟩) := by unfold Az; rw [if_neg h0, if_pos h1]
theorem oG {c : Cl} {a : ByteArray} (h0 : ¬ (c.state = 7)) (h1 : ¬ (c.state = 6)) (h2 : c.state = 3) : Az c a = FQ c (BJ a) := by unfold Az; rw [if_neg h0, if_neg h1, if_pos h2]
theorem oH {c : Cl} {a : ByteArray} (h0 : ¬ (c.state = 7)) (h1 : ¬ (c.state = 6)) (h2 : ¬ (c.state = 3)) (h3 : c.state = 0) (h4 : BJ a = 220) : Az c a = (⟨c.name, c.mail, 1, c.pos, c.outs⟩, ⟨#[72, 69, 76, 79, 32]⟩ ++ c.name) := by unfold Az; rw [if_neg h0, if_neg h1, if_neg h2, if_pos h3, if_pos h4]
theorem oI {c : Cl} {a : ByteArray} (h0 : ¬ (c.state = 7)) (h1 : ¬ (c.state = 6)) (h2 : ¬ (c.state = 3)) (h3 : c.state = 0) (h4 : ¬ (BJ a = 220)) : Az c a = DN c (BJ a) := by unfold Az; rw [if_neg h0, if_neg h1, if_neg h2, if_pos h3, if_neg h4]
theorem oJ {c : Cl} {a : ByteArray} (h0 : ¬ (c.state = 7)) (h1 : ¬ (c.state = 6)) (h2 : ¬ (c.state = 3)) (h3 : ¬ (c.state = 0)) (h4 : c.state = 1) (h5 : BJ a = 250) : Az c a = (⟨c.name, c.mail, 2, c.pos, c.outs⟩, ⟨#[77, 65, 73, 76, 32, 70, 82, 79, 77, 58]⟩ ++ CA c.mail.frm) := by unfold Az; rw [if_neg h0, if_neg h1, if_neg h2, if_neg h3, if_pos h4, if_pos h5]
theorem oK {c : Cl} {a : ByteArray} (h0 : ¬ (c.state = 7)) (h1 : ¬ (c.state = 6)) (h2 : ¬ (c.state = 3)) (h3 : ¬ (c.state = 0)) (h4 : c.state = 1) (h5 : ¬ (BJ a = 250)) : Az c a = DN c (BJ a) := by unfold Az; rw [if_neg h0, if_neg h1, if_neg h2, if_neg h3, if_pos h4, if_neg h5]
theorem oL {c : Cl} {a : ByteArray} (h0 : ¬ (c.state = 7)) (h1 : ¬ (c.state = 6)) (h2 : ¬ (c.state = 3)) (h3 : ¬ (c.state = 0)) (h4 : ¬ (c.state = 1)) (h5 : c.state = 2) (h6 : BJ a = 250) : Az c a = Db c := by unfold Az; rw [if_neg h0, if_neg h1, if_neg h2, if_neg h3, if_neg h4, if_pos h5, if_pos h6]
theorem oM {c : Cl} {a : ByteArray} (h0 : ¬ (c.state = 7)) (h1 : ¬ (c.state = 6)) (h2 : ¬ (c.state = 3)) (h3 : ¬ (c.state = 0)) (h4 : ¬ (c.state = 1)) (h5 : c.state = 2) (h6 : ¬ (BJ a = 250)) : Az c a = DN c (BJ a) := by unfold Az; rw [if_neg h0, if_neg h1, if_neg h2, if_neg h3, if_neg h4, if_pos h5, if_neg h6]
theorem oN {c : Cl} {a : ByteArray} (h0 : ¬ (c.state = 7)) (h1 : ¬ (c.state = 6)) (h2 : ¬ (c.state = 3)) (h3 : ¬ (c.state = 0)) (h4 : ¬ (c.state = 1)) (h5 : ¬ (c.state = 2)) (h6 : c.state = 4) (h7 : BJ a = 354) : Az c a = (⟨c.name, c.mail, 5, c.pos, c.outs⟩, Ub c.mail.body) := by unfold Az; rw [if_neg h0, if_neg h1, if_neg h2, if_neg h3, if_neg h4, if_neg h5, if_pos h6, if_pos h7]
theorem eN {c : Cl} {a : ByteArray} (h0 : ¬ (c.state = 7)) (h1 : ¬ (c.state = 6)) (h2 : ¬ (c.state = 3)) (h3 : ¬ (c.state = 0)) (h4 : ¬ (c.state = 1)) (h5 : ¬ (c.state = 2)) (h6 : c.state = 4) (h7 : ¬ (BJ a = 354)) : Az c a = DN c (BJ a) := by unfold Az; rw [if_neg h0, if_neg h1, if_neg h2, if_neg h3, if_neg h4, if_neg h5, if_pos h6, if_neg h7]
theorem eO {c : Cl} {a : ByteArray} (h0 : ¬ (c.state = 7)) (h1 : ¬ (c.state = 6)) (h2 : ¬ (c.state = 3)) (h3 : ¬ (c.state = 0)) (h4 : ¬ (c.state = 1)) (h5 : ¬ (c.state = 2)) (h6 : ¬ (c.state = 4)) (h7 : c.state = 5) (h8 : BJ a = 250) : Az c a = (⟨c.name, c.mail, 6, c.pos, c.outs.map Pp⟩, ⟨#[81, 85, 73, 84]⟩) := by unfold Az; rw [if_neg h0, if_neg h1, if_neg h2, if_neg h3, if_neg h4, if_neg h5, if_neg h6, if_pos h7, if_pos h8]
theorem eP {c : Cl} {a : ByteArray} (h0 : ¬ (c.state = 7)) (h1 : ¬ (c.state = 6)) (h2 : ¬ (c.state = 3)) (h3 : ¬ (c.state = 0)) (h4 : ¬ (c.state = 1)) (h5 : ¬ (c.state = 2)) (h6 : ¬ (c.state = 4)) (h7 : c.state = 5) (h8 : ¬ (BJ a = 250)) : Az c a = DN c (BJ a) := by unfold Az; rw [if_neg h0, if_neg h1, if_neg h2, if_neg h3, if_neg h4, if_neg h5, if_neg h6, if_pos h7, if_neg h8]
theorem eQ {c : Cl} {a : ByteArray} (h0 : ¬ (c.state = 7)) (h1 : ¬ (c.state = 6)) (h2 : ¬ (c.state = 3)) (h3 : ¬ (c.state = 0)) (h4 : ¬ (c.state = 1)) (h5 : ¬ (c.state = 2)) (h6 : ¬ (c.state = 4)) (h7 : ¬ (c.state = 5)) : Az c a = DN c (BJ a) := by unfold Az; rw [if_neg h0, if_neg h1, if_neg h2, if_neg h3, if_neg h4, if_neg h5, if_neg h6, if_neg h7]
def kb : Ct := Aj (lc Z9.ag (lc Ak l0)) (fun p => p.1.outs.length ≤ 1000 ∧ OE p.1.mail ∧ 0 ≤ p.1.pos ∧ p.1.pos ≤ p.1.outs.length ∧ (p.1.state = 3 → 1 ≤ p.1.pos) ∧ p.1.name.size ≤ 1000000) (fun p => .tup [.agg ((Do (Az p.1 p.2.1).1).map .t), .t (.v (.string (Az p.1 p.2.1).2))])
section
attribute [local go_sem] ki kj M7 WW kk km kn AS.opn AS.cls AS.nilb AS.renb AS.up Bool.not_false Bool.not_true List.set_set List.set_cons_zero List.set_cons_succ List.set_nil List.mem_singleton forall_eq tn List.map_nil List.nil_append
set_option maxHeartbeats 3200000 in
theorem rL {G : Gt} (hG : Ac G) (hh : G.e 243 = AA 0 ki ∧ G.e 244 = AA 1 kj ∧ G.e 126 = AA 0 M7 ∧ G.e 245 = AA 1 WW ∧ G.e 246 = AA 0 kk ∧ G.e 247 = AA 1 km ∧ G.e 248 = AA 1 kn) : Gd G 237 (AA 1 kb) := by
 refine gr (fn := Tryz.f237) (n := 2) rfl hG ?_
 rintro ⟨c, a, ⟨⟩⟩ hpre
 obtain ⟨hl, hm, hp, hq, h3p, hn⟩ := hpre
 try dsimp only at hl hm hp hq h3p hn ⊢
 have hml := hm.1
 have hmb := hm.2.1
 have hmf := hm.2.2.1
 have hps := Nv c.mail.frm
 have hbo : ∀ x ∈ c.mail.body, x.size ≤ 2000000 := fun x hx => Nat.le_trans (hm.2.2.2.2 x hx) (by decide)
 have e5 : (#[72, 69, 76, 79, 32] : Array UInt8).size = 5 := rfl
 have e10 : (#[77, 65, 73, 76, 32, 70, 82, 79, 77, 58] : Array UInt8).size = 10 := rfl
 refine BN (c.state = 7) (fun h0 => have h0' := decide_eq_true h0; have e_ : Az c a = _ := oE h0; have h1' := trivial; have h2' := trivial; have h3' := trivial; have h4' := trivial; have h5' := trivial; have h6' := trivial; have h7' := trivial; have h8' := trivial; ?_) (fun h0 => have h0' := decide_eq_false h0; BN (c.state = 6) (fun h1 => have h1' := decide_eq_true h1; have e_ : Az c a = _ := oF h0 h1; have h2' := trivial; have h3' := trivial; have h4' := trivial; have h5' := trivial; have h6' := trivial; have h7' := trivial; have h8' := trivial; ?_) (fun h1 => have h1' := decide_eq_false h1; BN (c.state = 3) (fun h2 => have h2' := decide_eq_true h2; have e_ : Az c a = _ := oG h0 h1 h2; have h3' := trivial; have h4' := trivial; have h5' := trivial; have h6' := trivial; have h7' := trivial; have h8' := trivial; ?_) (fun h2 => have h2' := decide_eq_false h2; BN (c.state = 0) (fun h3 => have h3' := decide_eq_true h3; BN (BJ a = 220) (fun h4 => have h4' := decide_eq_true h4; have e_ : Az c a = _ := oH h0 h1 h2 h3 h4; have h5' := trivial; have h6' := trivial; have h7' := trivial; have h8' := trivial; ?_) (fun h4 => have h4' := decide_eq_false h4; have e_ : Az c a = _ := oI h0 h1 h2 h3 h4; have h5' := trivial; have h6' := trivial; have h7' := trivial; have h8' := trivial; ?_)) (fun h3 => have h3' := decide_eq_false h3; BN (c.state = 1) (fun h4 => have h4' := decide_eq_true h4; BN (BJ a = 250) (fun h5 => have h5' := decide_eq_true h5; have e_ : Az c a = _ := oJ h0 h1 h2 h3 h4 h5; have h6' := trivial; have h7' := trivial; have h8' := trivial; ?_) (fun h5 => have h5' := decide_eq_false h5; have e_ : Az c a = _ := oK h0 h1 h2 h3 h4 h5; have h6' := trivial; have h7' := trivial; have h8' := trivial; ?_)) (fun h4 => have h4' := decide_eq_false h4; BN (c.state = 2) (fun h5 => have h5' := decide_eq_true h5; BN (BJ a = 250) (fun h6 => have h6' := decide_eq_true h6; have e_ : Az c a = _ := oL h0 h1 h2 h3 h4 h5 h6; have h7' := trivial; have h8' := trivial; ?_) (fun h6 => have h6' := decide_eq_false h6; have e_ : Az c a = _ := oM h0 h1 h2 h3 h4 h5 h6; have h7' := trivial; have h8' := trivial; ?_)) (fun h5 => have h5' := decide_eq_false h5; BN (c.state = 4) (fun h6 => have h6' := decide_eq_true h6; BN (BJ a = 354) (fun h7 => have h7' := decide_eq_true h7; have e_ : Az c a = _ := oN h0 h1 h2 h3 h4 h5 h6 h7; have h8' := trivial; ?_) (fun h7 => have h7' := decide_eq_false h7; have e_ : Az c a = _ := eN h0 h1 h2 h3 h4 h5 h6 h7; have h8' := trivial; ?_)) (fun h6 => have h6' := decide_eq_false h6; BN (c.state = 5) (fun h7 => have h7' := decide_eq_true h7; BN (BJ a = 250) (fun h8 => have h8' := decide_eq_true h8; have e_ : Az c a = _ := eO h0 h1 h2 h3 h4 h5 h6 h7 h8; ?_) (fun h8 => have h8' := decide_eq_false h8; have e_ : Az c a = _ := eP h0 h1 h2 h3 h4 h5 h6 h7 h8; ?_)) (fun h7 => have h7' := decide_eq_false h7; have e_ : Az c a = _ := eQ h0 h1 h2 h3 h4 h5 h6 h7; have h8' := trivial; ?_))))))))
 all_goals
  try rw [e_]
  simp -implicitDefEqProofs only [Tryz.f237, h0', h1', h2', h3', h4', h5', h6', h7', h8', eq_self, decide_true, decide_false, Int.reduceEq, go_sem, hh, seval]
  with_reducible repeat' (first | apply ai | intro _ | ((first | apply s1 | apply s2 | apply s3 | apply s4) <;> intro hb <;> simp -implicitDefEqProofs only [hb, go_sem, hh, seval] <;> try simp only [qz] at hb))
  all_goals (try simp only [maxLen, tn, lm] at *)
  all_goals first | rfl | omega | decide | with_reducible assumption | (show AZ _ = true; rfl) | exact Ha (by assumption) | contradiction | exact hbo _ (by with_reducible assumption) | skip
end
def Tn (c : Cl) : Prop := c.outs.length = c.mail.to.length ∧ OE c.mail ∧ 0 ≤ c.pos ∧ c.pos ≤ c.outs.length ∧ (c.state = 3 → 1 ≤ c.pos) ∧ c.name.size ≤ 1000
theorem cd {c : Cl} (k : Int) (h : Tn c) : Tn (DN c k).1 ∧ (DN c k).2.size ≤ 20 := by
 unfold DN
 split
 all_goals exact ⟨⟨by show (c.outs.map _).length = _; rw [lm]; exact h.1, h.2.1, h.2.2.1, by show _ ≤ (((c.outs.map _).length : Nat) : Int); rw [lm]; exact h.2.2.2.1, fun q => by simp at q, h.2.2.2.2.2⟩, Nat.le_of_ble_eq_true rfl⟩
theorem TR {c : Cl} (h : c.outs.length = c.mail.to.length ∧ OE c.mail ∧ 0 ≤ c.pos ∧ c.pos ≤ c.outs.length ∧ c.name.size ≤ 1000) : Tn (Db c).1 ∧ (Db c).2.size ≤ 3000 := by
 obtain ⟨h1, h2, h3, h4, h5⟩ := h
 unfold Db
 split
 ·rename_i hlt
  refine ⟨⟨h1, h2, by show 0 ≤ c.pos + 1; omega, by show c.pos + 1 ≤ (c.outs.length : Int); omega, fun _ => by show 1 ≤ c.pos + 1; omega, h5⟩, ?_⟩
  show (⟨#[82, 67, 80, 84, 32, 84, 79, 58]⟩ ++ CA (c.mail.to.getD c.pos.toNat default)).size ≤ 3000
  have hps := Nv (c.mail.to.getD c.pos.toNat default)
  have ht := gp h2 (i := c.pos.toNat) (by omega)
  rw [ByteArray.size_append]
  have e8 : (⟨#[82, 67, 80, 84, 32, 84, 79, 58]⟩ : ByteArray).size = 8 := rfl
  omega
 ·split
  all_goals exact ⟨⟨h1, h2, h3, h4, fun q => by simp at q, h5⟩, Nat.le_of_ble_eq_true rfl⟩
theorem eZ {c : Cl} (k : Int) (h : Tn c) : Tn (FQ c k).1 ∧ (FQ c k).2.size ≤ 3000 := by
 have key : ∀ v : Int, Tn (Db ⟨c.name, c.mail, c.state, c.pos, c.outs.set (c.pos - 1).toNat v⟩).1 ∧ (Db ⟨c.name, c.mail, c.state, c.pos, c.outs.set (c.pos - 1).toNat v⟩).2.size ≤ 3000 := fun v =>
  TR ⟨by show (c.outs.set _ _).length = _; rw [List.length_set]; exact h.1, h.2.1, h.2.2.1, by show _ ≤ (((c.outs.set _ _).length : Nat) : Int); rw [List.length_set]; exact h.2.2.2.1, h.2.2.2.2.2⟩
 unfold FQ
 repeat' split
 all_goals exact key _
theorem mQ {l : List ByteArray} (h1 : l.length ≤ 100) (h : ∀ x ∈ l, x.size ≤ 1000) : (Ub l).size ≤ 100400 := by
 unfold Ub
 have q := XD l ⟨#[]⟩ 1000 h
 rw [ByteArray.size_append, fQ]
 have : (⟨#[]⟩ : ByteArray).size = 0 := rfl
 have : l.length * (1000 + 3) ≤ 100 * (1000 + 3) := Nat.mul_le_mul_right _ h1
 omega
theorem eS {c : Cl} (a : ByteArray) (h : Tn c) : Tn (Az c a).1 ∧ (Az c a).2.size ≤ 200000 := by
 have q1 := eZ (BJ a) h
 have q2 := cd (BJ a) h
 have q3 := TR ⟨h.1, h.2.1, h.2.2.1, h.2.2.2.1, h.2.2.2.2.2⟩
 have q4 := mQ h.2.1.2.1 h.2.1.2.2.2.2
 have q5 := Nv c.mail.frm
 have q6 := h.2.1.2.2.1
 have mk : ∀ st, ¬ st = (3 : Int) → ∀ o : List Int, o.length = c.outs.length → Tn ⟨c.name, c.mail, st, c.pos, o⟩ := fun st hs o ho => ⟨by show o.length = _; rw [ho]; exact h.1, h.2.1, h.2.2.1, by show _ ≤ ((o.length : Nat) : Int); rw [ho]; exact h.2.2.2.1, fun q => absurd q hs, h.2.2.2.2.2⟩
 unfold Az
 repeat' split
 all_goals first
  | exact ⟨h, Nat.zero_le _⟩
  | exact ⟨mk _ (by decide) _ rfl, Nat.zero_le _⟩
  | exact ⟨q1.1, by have := q1.2; omega⟩
  | exact ⟨q2.1, by have := q2.2; omega⟩
  | exact ⟨q3.1, by have := q3.2; omega⟩
  | exact ⟨mk _ (by decide) _ (lm _), Nat.le_of_ble_eq_true rfl⟩
  | exact ⟨mk _ (by decide) _ rfl, Nat.le_trans q4 (by decide)⟩
  | (refine ⟨mk _ (by decide) _ rfl, ?_⟩
     show ((⟨_⟩ : ByteArray) ++ _).size ≤ _
     rw [ByteArray.size_append]
     have e5 : (⟨#[72, 69, 76, 79, 32]⟩ : ByteArray).size = 5 := rfl
     have e10 : (⟨#[77, 65, 73, 76, 32, 70, 82, 79, 77, 58]⟩ : ByteArray).size = 10 := rfl
     have := h.2.2.2.2.2
     omega)
theorem Wa (c : Cf) (s : Ss) (l : ByteArray) : (BZ c s l).1.buf = s.buf := by
 have q1 : ∀ t, (Ec s t).1.buf = s.buf := fun t => by unfold Ec; (repeat' split) <;> rfl
 have q2 : ∀ t, (Hr c s t).1.buf = s.buf := fun t => by unfold Hr; (repeat' split) <;> rfl
 unfold BZ
 repeat' split
 all_goals first | rfl | exact q1 _ | exact q2 _
theorem Wf (s : Ss) (l : ByteArray) : (Al s l).1.1.buf = s.buf := by unfold Al; (repeat' split) <;> rfl
theorem ZS (c : Cf) (s : Ss) (l : ByteArray) : (Bj c s l).1.1.buf = s.buf := by
 unfold Bj
 repeat' split
 all_goals first | rfl | exact Wf s l | exact Wa c s l
theorem Su (c : Cf) : ∀ (L : List ByteArray) (x : Fz), (NQ c L x).1.1.buf = x.1.buf
 | [], x => rfl
 | l :: r, x => by
   rw [NQ]
   split
   ·rfl
   ·split
    ·rfl
    ·rw [Su c r]; exact ZS c x.1 l
theorem Ug (c : Cf) (s : Ss) (t : ByteArray) : (Bo c s t).1.buf.size ≤ 80 := by
 have q := Su c (OG (s.buf ++ t)) (⟨s.state, s.mail, s.bad, ⟨#[]⟩⟩, [], [])
 have e : (⟨#[]⟩ : ByteArray).size = 0 := rfl
 unfold Bo Xg
 split
 ·rw [q]; show (⟨#[]⟩ : ByteArray).size ≤ 80; omega
 ·split
  ·rw [q]; show (⟨#[]⟩ : ByteArray).size ≤ 80; omega
  ·split
   ·show (NQ c _ _).1.1.buf.size ≤ 80
    rw [q]; show (⟨#[]⟩ : ByteArray).size ≤ 80; omega
   ·show (nB (s.buf ++ t)).size ≤ 80; omega
abbrev Oc := Cl × Ss × List Ml × List ByteArray
def ZZ (q : Cl × ByteArray) : ByteArray := if q.1.state = 5 then q.2 else q.2 ++ ⟨#[13, 10]⟩
theorem gh {q : Cl × ByteArray} (h : q.1.state = 5) : ZZ q = q.2 := if_pos h
theorem gg {q : Cl × ByteArray} (h : ¬ q.1.state = 5) : ZZ q = q.2 ++ ⟨#[13, 10]⟩ := if_neg h
theorem vv (q : Cl × ByteArray) : (ZZ q).size ≤ q.2.size + 2 := by
 unfold ZZ
 split
 ·omega
 ·rw [ByteArray.size_append, NF]; omega
noncomputable def Mc (x : Oc) : Cl × ByteArray := Az x.1 (x.2.2.2.getD 0 default)
noncomputable def Zt (h : Cf) (x : Oc) : Oc := ((Mc x).1, (Bo h x.2.1 (ZZ (Mc x))).1, x.2.2.1 ++ (Bo h x.2.1 (ZZ (Mc x))).2.2, (Bo h x.2.1 (ZZ (Mc x))).2.1)
noncomputable def La (h : Cf) (cut : Int) : Nat → Nat → Oc → Cl × List Ml
 | 0, _, x => (x.1, x.2.2.1)
 | k + 1, n, x => if (x.2.2.2.length : Int) > 0 ∧ ¬ x.1.state = 7 then (if 2 * (n : Int) ≥ cut then (x.1, x.2.2.1) else if (Mc x).2 = ⟨#[]⟩ ∨ 2 * (n : Int) + 1 ≥ cut then ((Mc x).1, x.2.2.1) else La h cut k (n + 1) (Zt h x)) else (x.1, x.2.2.1)
theorem Za {h : Cf} {cut : Int} {k n : Nat} {x : Oc} (q : ¬ (x.2.2.2.length : Int) > 0 ∨ x.1.state = 7 ∨ 2 * (n : Int) ≥ cut) : La h cut k n x = (x.1, x.2.2.1) := by
 cases k with
 | zero => rfl
 | succ k =>
   rw [La]
   split
   ·rename_i z
    rw [if_pos (q.elim (fun a => absurd z.1 a) fun q => q.elim (fun a => absurd a z.2) id)]
   ·rfl
theorem gi {h : Cf} {cut : Int} {k n : Nat} {x : Oc} (hk : cut ≤ 2 * ((n : Int) + k)) (h1 : (x.2.2.2.length : Int) > 0) (h2 : ¬ x.1.state = 7) (h3 : ¬ 2 * (n : Int) ≥ cut) (h4 : (Mc x).2 = ⟨#[]⟩ ∨ 2 * (n : Int) + 1 ≥ cut) : La h cut k n x = ((Mc x).1, x.2.2.1) := by
 obtain ⟨j, rfl⟩ : ∃ j, k = j + 1 := ⟨k - 1, by omega⟩
 rw [La, if_pos ⟨h1, h2⟩, if_neg h3, if_pos h4]
theorem vw {h : Cf} {cut : Int} {k n : Nat} {x : Oc} (h1 : (x.2.2.2.length : Int) > 0) (h2 : ¬ x.1.state = 7) (h3 : ¬ 2 * (n : Int) ≥ cut) (h4 : ¬ (Mc x).2 = ⟨#[]⟩) (h5 : ¬ 2 * (n : Int) + 1 ≥ cut) : La h cut (k + 1) n x = La h cut k (n + 1) (Zt h x) := by
 rw [La, if_pos ⟨h1, h2⟩, if_neg h3, if_neg (fun q => q.elim h4 h5)]
def rl (n : Nat) (x : Oc) : Prop := Tn x.1 ∧ OZ x.2.1 ∧ x.2.1.buf.size ≤ 80 ∧ x.2.2.1.length ≤ n * 300000 ∧ ∀ m ∈ x.2.2.1, ej m
theorem R3 {n : Nat} {x : Oc} (q : rl n x) : Tn (Mc x).1 ∧ (Mc x).2.size ≤ 200000 := eS _ q.1
theorem N7 {h : Cf} {n : Nat} {x : Oc} (q : rl n x) : rl (n + 1) (Zt h x) ∧ (Bo h x.2.1 (ZZ (Mc x))).2.2.length ≤ 300000 := by
 obtain ⟨h1, h2⟩ := R3 q
 obtain ⟨q1, q2, q3, q4, q5⟩ := q
 have ha := vv (Mc x)
 have f := Xk (c := h) (t := ZZ (Mc x)) q2 (by omega)
 have fl : (Bo h x.2.1 (ZZ (Mc x))).2.2.length ≤ 300000 := by have := f.2.2.1; omega
 refine ⟨⟨h1, f.1, Ug _ _ _, ?_, fun m hm => ?_⟩, fl⟩
 ·show (x.2.2.1 ++ _).length ≤ _
  rw [List.length_append]
  omega
 ·rcases List.mem_append.1 hm with hm | hm
  ·exact q5 m hm
  ·exact f.2.2.2.2 m hm
theorem LP (h : Cf) (cut : Int) : ∀ (k n : Nat) (x : Oc), rl n x → Tn (La h cut k n x).1 ∧ (La h cut k n x).2.length ≤ (n + k) * 300000 ∧ ∀ m ∈ (La h cut k n x).2, ej m
 | 0, n, x, q => ⟨q.1, q.2.2.2.1, q.2.2.2.2⟩
 | k + 1, n, x, q => by
   have hl : x.2.2.1.length ≤ (n + (k + 1)) * 300000 := Nat.le_trans q.2.2.2.1 (Nat.mul_le_mul_right _ (Nat.le_add_right _ _))
   rw [La]
   split
   ·split
    ·exact ⟨q.1, hl, q.2.2.2.2⟩
    ·split
     ·exact ⟨(R3 q).1, hl, q.2.2.2.2⟩
     ·have z := LP h cut k (n + 1) _ (N7 (h := h) q).1
      rw [show n + (k + 1) = n + 1 + k by omega]
      exact z
   ·exact ⟨q.1, hl, q.2.2.2.2⟩
def yT : Ss := ⟨0, ⟨⟨⟨#[]⟩, ⟨#[]⟩⟩, [], []⟩, false, ⟨#[]⟩⟩
def VF (h : Cf) (nm : ByteArray) (m : Ml) : Oc := (dM nm m, yT, [], [⟨#[50, 50, 48, 32]⟩ ++ h.name])
theorem LO (h : Cf) {nm : ByteArray} {m : Ml} (hn : nm.size ≤ 1000) (hm : OE m) : rl 0 (VF h nm m) := ⟨⟨by show (List.replicate _ _).length = _; rw [List.length_replicate]; rfl, hm, Int.le_refl _, by show (0 : Int) ≤ _; omega, fun q => absurd (show (0 : Int) = 3 from q) (by decide), hn⟩, F0 yT, Nat.zero_le _, Nat.zero_le _, fun _ z => by cases z⟩
noncomputable def yU (h : Cf) (nm : ByteArray) (m : Ml) (cut : Int) : Cl × List Ml := La h cut cut.toNat 0 (VF h nm m)
noncomputable def Ek (h : Cf) (nm : ByteArray) (m : Ml) (cut : Int) : List Int × List Ml := ((yU h nm m cut).1.outs.map (GR 3), (yU h nm m cut).2)
theorem LQ {h : Cf} {nm : ByteArray} {m : Ml} {cut : Int} {c : Cl} {l : List Ml} (q : (c, l) = La h cut cut.toNat 0 (VF h nm m)) : Ek h nm m cut = (c.outs.map (GR 3), l) := by
 unfold Ek yU; rw [← q]
theorem wA {h : Cf} {x1 : Cl} {x2 : Ss} {x3 : List Ml} {x4 : List ByteArray} (e : (Az x1 (x4.getD 0 default)).1.state = 5) : Zt h (x1, x2, x3, x4) = ((Az x1 (x4.getD 0 default)).1, (Bo h x2 (Az x1 (x4.getD 0 default)).2).1, x3 ++ (Bo h x2 (Az x1 (x4.getD 0 default)).2).2.2, (Bo h x2 (Az x1 (x4.getD 0 default)).2).2.1) := by
 unfold Zt; rw [gh (show (Mc (x1, x2, x3, x4)).1.state = 5 from e)]; rfl
theorem vz {h : Cf} {x1 : Cl} {x2 : Ss} {x3 : List Ml} {x4 : List ByteArray} (e : ¬ (Az x1 (x4.getD 0 default)).1.state = 5) : Zt h (x1, x2, x3, x4) = ((Az x1 (x4.getD 0 default)).1, (Bo h x2 ((Az x1 (x4.getD 0 default)).2 ++ ⟨#[13, 10]⟩)).1, x3 ++ (Bo h x2 ((Az x1 (x4.getD 0 default)).2 ++ ⟨#[13, 10]⟩)).2.2, (Bo h x2 ((Az x1 (x4.getD 0 default)).2 ++ ⟨#[13, 10]⟩)).2.1) := by
 unfold Zt; rw [gg (show ¬ (Mc (x1, x2, x3, x4)).1.state = 5 from e)]; rfl
theorem nI (nm : ByteArray) (m : Ml) : dM nm m = ⟨nm, m, 0, 0, List.replicate m.to.length 0⟩ := rfl
def WT : Ct := Aj (lc JS.ag (lc Ak (lc aN.ag (lc BU l0)))) (fun p => p.1.name.size ≤ 1000 ∧ p.2.1.size ≤ 1000 ∧ OE p.2.2.1 ∧ 0 ≤ p.2.2.2.1 ∧ p.2.2.2.1 ≤ 1000) (fun p => .tup [.t (.sl 1 ((Ek p.1 p.2.1 p.2.2.1 p.2.2.2.1).1.map A9)), .t (.sl 4 ((Ek p.1 p.2.1 p.2.2.1 p.2.2.2.1).2.map DG))])
section
attribute [local go_sem] ka kb kc ke Jg Ai lm List.length_append List.map_append List.map_nil List.nil_append tn Int.toNat_zero Gw AS.opn AS.cls AS.nilb AS.renb AS.up Bool.not_false Bool.not_true List.set_set List.set_cons_zero List.set_cons_succ List.set_nil List.mem_singleton forall_eq
set_option maxHeartbeats 6400000 in
theorem rA {G : Gt} (hG : Ac G) (hh : G.e 236 = AA 1 ka ∧ G.e 237 = AA 1 kb ∧ G.e 238 = AA 1 kc ∧ G.e 239 = AA 0 ke) : Gd G 224 (AA 1 WT) := by
 refine PF (dp := fun n => !(Nat.beq n 24 || Nat.beq n 78 || Nat.beq n 100003)) (fn := Tryz.f224) (n := 4) rfl hG ?_
 rintro ⟨h, nm, m, cut, ⟨⟩⟩ hpre
 obtain ⟨hn, ML, hm, hc0, hc1⟩ := hpre
 try dsimp only at hn ML hm hc0 hc1 ⊢
 have hm1 := hm.1
 have hm2 := hm.2.1
 have e4 : (#[50, 50, 48, 32] : Array UInt8).size = 4 := rfl
 have e2 : (#[13, 10] : Array UInt8).size = 2 := rfl
 simp -implicitDefEqProofs only [Tryz.f224, go_sem, hh, seval]
 with_reducible repeat' (first | apply ai | intro _ | ((first | apply s1 | apply s2 | apply s3 | apply s4) <;> intro hb <;> simp -implicitDefEqProofs only [hb, go_sem, hh, seval] <;> try simp only [qz] at hb))
 all_goals (try simp only [maxLen, tn] at *)
 all_goals first | with_reducible rfl | omega | with_reducible assumption | decide | (simp only [List.mem_cons, List.mem_singleton, List.not_mem_nil] at *; omega) | skip
 refine Am (Le.nilb 1011 3 1901 true 2 rfl rfl rfl) ?_
 simp -implicitDefEqProofs only [go_sem, hh, seval]
 refine Am (Le.nilb 1011 4 1902 true 1 rfl rfl rfl) (Af ?_)
 simp -implicitDefEqProofs only [go_sem, hh, seval]
 with_reducible repeat' (first | apply ai | intro _ | ((first | apply s1 | apply s2 | apply s3 | apply s4) <;> intro hb <;> simp -implicitDefEqProofs only [hb, go_sem, hh, seval] <;> try simp only [qz] at hb))
 all_goals (try simp only [maxLen, tn] at *)
 all_goals first | with_reducible rfl | omega | with_reducible assumption | decide | (simp only [List.mem_cons, List.mem_singleton, List.not_mem_nil] at *; omega) | skip
 refine Id [1028, 1901, 1902] [(12, 902, false, 4)] (ι := {p : Nat × Nat × Oc // cut ≤ 2 * ((p.1 : Int) + p.2.1) ∧ p.1 ≤ 1000 ∧ rl p.1 p.2.2 ∧ La h cut p.2.1 p.1 p.2.2 = La h cut cut.toNat 0 (VF h nm m)}) (fun p => ⟨[(3, .t (.v (.int .i64 cut))), (4, .pb 1004 0), (10, .pb 1010 0), (11, .pb 1011 0), (12, .h 902), (13, .t (.sl 1 (p.1.2.2.2.2.2.map AG))), (14, .t (.v (.int .i64 p.1.1)))], [(1004, some (.box ((DT h).map .t))), (1010, some (.box ((Do p.1.2.2.1).map .t))), (1011, some (.box ((Eb p.1.2.2.2.1).map .t))), (902, some (.arr false 4 (p.1.2.2.2.2.1.map DG)))]⟩) (fun p => p.1.2.1) ⟨(0, cut.toNat, VF h nm m), by dsimp only; omega, Nat.zero_le _, LO h ML hm, rfl⟩ rfl ?_ ?_
 ·simp -implicitDefEqProofs only [go_sem, hh, seval]
  simp [nI, yT, VF, A9, AG]
  try trace_state
 ·rintro ⟨⟨n, k, x⟩, hk, hk2, hx, hv⟩
  obtain ⟨x1, x2, x3, x4⟩ := x
  dsimp only at hk hk2 hx hv
  have hc := hx.1
  have hc3 : x1.outs.length ≤ 1000 := by have := hc.1; have := hc.2.1.1; dsimp only at *; omega
  have hl3 := hx.2.2.2.1
  have hbf := hx.2.2.1
  obtain ⟨hq1, hq2⟩ := R3 hx
  obtain ⟨hq1, hq2⟩ : Tn (Az x1 (x4.getD 0 default)).1 ∧ (Az x1 (x4.getD 0 default)).2.size ≤ 200000 := ⟨hq1, hq2⟩
  have hq3 : (Az x1 (x4.getD 0 default)).1.outs.length ≤ 1000 := by have := hq1.1; have := hq1.2.1.1; omega
  have hf5 : (Az x1 (x4.getD 0 default)).1.state = 5 → (Bo h x2 (Az x1 (x4.getD 0 default)).2).2.2.length ≤ 300000 := fun e => by
   have z := (N7 (h := h) hx).2; rw [gh (show (Mc (x1, x2, x3, x4)).1.state = 5 from e)] at z; exact z
  have hf6 : ¬ (Az x1 (x4.getD 0 default)).1.state = 5 → (Bo h x2 ((Az x1 (x4.getD 0 default)).2 ++ ⟨#[13, 10]⟩)).2.2.length ≤ 300000 := fun e => by
   have z := (N7 (h := h) hx).2; rw [gg (show ¬ (Mc (x1, x2, x3, x4)).1.state = 5 from e)] at z; exact z
  dsimp only at hl3 hbf
  simp -implicitDefEqProofs only [go_sem, hh, seval]
  with_reducible repeat' (first | apply ai | intro _ | ((first | apply s1 | apply s2 | apply s3 | apply s4) <;> intro hb <;> simp -implicitDefEqProofs only [hb, go_sem, hh, seval] <;> try simp only [qz] at hb))
  all_goals (try simp only [maxLen, tn] at *)
  all_goals first
   | with_reducible rfl
   | omega
   | (show _ = true; rfl)
   | with_reducible assumption
   | exact hx.1.2.1
   | exact hx.1.2.2.1
   | exact hx.1.2.2.2.1
   | exact hx.1.2.2.2.2.1
   | exact Nat.le_trans hx.1.2.2.2.2.2 (by decide)
   | (rw [LQ ((Za (x := (x1, x2, x3, x4)) (.inl (by dsimp only; omega))).symm.trans hv)]; first | done | rfl)
   | (rw [LQ ((Za (x := (x1, x2, x3, x4)) (.inr (.inl (by with_reducible assumption)))).symm.trans hv)]; first | done | rfl)
   | (rw [LQ ((Za (x := (x1, x2, x3, x4)) (.inr (.inr (by with_reducible assumption)))).symm.trans hv)]; first | done | rfl)
   | (rw [LQ ((gi (x := (x1, x2, x3, x4)) hk (by with_reducible assumption) (by with_reducible assumption) (by with_reducible assumption) (.inl (show (Az x1 (x4.getD 0 default)).2 = ⟨#[]⟩ by with_reducible assumption))).symm.trans hv)]; first | done | rfl)
   | (rw [LQ ((gi (x := (x1, x2, x3, x4)) hk (by with_reducible assumption) (by with_reducible assumption) (by with_reducible assumption) (.inr (by with_reducible assumption))).symm.trans hv)]; first | done | rfl)
   | exact hc.2.2.2.2.1 (by with_reducible assumption)
   | exact hx.2.1
   | exact hq3
   | (have := hf5 (by with_reducible assumption); omega)
   | (have := hf6 (by with_reducible assumption); omega)
   | (rw [ByteArray.size_append]; show _ + (_ + 2) ≤ _; omega)
   | (obtain ⟨k, rfl⟩ : ∃ j, k = j + 1 := ⟨k - 1, by omega⟩
      refine ⟨⟨(n + 1, k, Zt h (x1, x2, x3, x4)), by dsimp only; omega, by dsimp only; omega, (N7 (h := h) hx).1, (vw (x := (x1, x2, x3, x4)) (by with_reducible assumption) (by with_reducible assumption) (by with_reducible assumption) (show ¬ (Az x1 (x4.getD 0 default)).2 = ⟨#[]⟩ by with_reducible assumption) (by with_reducible assumption)).symm.trans hv⟩, by dsimp only; omega, ?_⟩
      simp -implicitDefEqProofs only [go_sem, hh, seval]
      first
       | (have ee := wA (h := h) (x1 := x1) (x2 := x2) (x3 := x3) (x4 := x4) (by with_reducible assumption); simp only [ee]; simp; done)
       | (have ee := vz (h := h) (x1 := x1) (x2 := x2) (x3 := x3) (x4 := x4) (by with_reducible assumption); simp only [ee]; simp; done)
       | skip)
   | skip
end
open Classical in
noncomputable def GT (h : Hs) (nm : ByteArray) (m : Ml) (cut : Int) : List Int × List Ml := (if CD h.spool then Ek h.conf nm m cut else Ek h.conf nm m 0)
theorem oV {h : Hs} {nm : ByteArray} {m : Ml} {cut : Int} (h0 : CD h.spool) : GT h nm m cut = Ek h.conf nm m cut := by unfold GT; rw [if_pos h0]
theorem oW {h : Hs} {nm : ByteArray} {m : Ml} {cut : Int} (h0 : ¬ (CD h.spool)) : GT h nm m cut = Ek h.conf nm m 0 := by unfold GT; rw [if_neg h0]
def kT : Ct := Aj (lc FM.ag (lc Ak (lc aN.ag (lc BU l0)))) (fun p => p.1.conf.name.size ≤ 1000 ∧ p.2.1.size ≤ 1000 ∧ OE p.2.2.1 ∧ 0 ≤ p.2.2.2.1 ∧ p.2.2.2.1 ≤ 1000) (fun p => .tup [.t (.sl 1 ((GT p.1 p.2.1 p.2.2.1 p.2.2.2.1).1.map A9)), .t (.sl 4 ((GT p.1 p.2.1 p.2.2.1 p.2.2.2.1).2.map DG))])
section
attribute [local go_sem] KO WT AS.opn AS.cls AS.nilb AS.renb AS.up Bool.not_false Bool.not_true List.set_set List.set_cons_zero List.set_cons_succ List.set_nil List.mem_singleton forall_eq tn List.map_nil List.nil_append
set_option maxHeartbeats 1600000 in
theorem rD {G : Gt} (hG : Ac G) (hh : G.e 147 = AA 0 KO ∧ G.e 224 = AA 1 WT) : Gd G 227 (AA 1 kT) := by
 refine gr (fn := Tryz.f227) (n := 4) rfl hG ?_
 rintro ⟨h, nm, m, cut, ⟨⟩⟩ hpre
 obtain ⟨hn, ML, hm, hc0, hc1⟩ := hpre
 try dsimp only at hn ML hm hc0 hc1 ⊢
 refine BN (CD h.spool) (fun h0 => have h0' := An h0; have e_ : GT h nm m cut = _ := oV h0; ?_) (fun h0 => have h0' := AQ h0; have e_ : GT h nm m cut = _ := oW h0; ?_)
 all_goals
  try rw [e_]
  simp -implicitDefEqProofs only [Tryz.f227, h0', eq_self, decide_true, decide_false, Int.reduceEq, go_sem, hh, seval]
  with_reducible repeat' (first | apply ai | intro _ | ((first | apply s1 | apply s2 | apply s3 | apply s4) <;> intro hb <;> simp -implicitDefEqProofs only [hb, go_sem, hh, seval] <;> try simp only [qz] at hb))
  all_goals (try simp only [maxLen, tn, lm] at *)
  all_goals first | rfl | omega | decide | with_reducible assumption | (show AZ _ = true; rfl) | exact Ha (by assumption) | contradiction | skip
end
theorem Mb {α β : Type} [Inhabited α] (f : α → β) {xs : List α} {i : Nat} (h : i < xs.length) : (xs.take (i + 1)).map f = (xs.take i).map f ++ [f (xs.getD i default)] := by
 rw [List.take_add_one, List.getElem?_eq_getElem h, List.map_append]; simp [h]
def WH : Ct := Aj (lc OM.ag l0) (fun p => Gg p.1) (fun p => .agg [.o false 7 ((p.1).hosts.map AY), .t (.v (.int .i64 (p.1).now)), .t (.v (.int .i64 (p.1).marks)), .o true 3 ((p.1).given.map Ae)])
section
attribute [local go_sem] xS lm List.length_append List.map_append Ai AS.opn AS.cls AS.nilb AS.renb AS.up Bool.not_false Bool.not_true List.set_set List.set_cons_zero List.set_cons_succ List.set_nil List.mem_singleton forall_eq tn List.map_nil List.nil_append
set_option maxHeartbeats 6400000 in
theorem qA {G : Gt} (hG : Ac G) (hh : G.e 33 = AA 0 xS) : Gd G 158 (AA 1 WH) := by
 refine PF (dp := fun n => !(Nat.beq n 100002 || Nat.beq n 100004 || Nat.beq n 29 || Nat.beq n 30)) (fn := Tryz.f158) (n := 1) rfl hG ?_
 rintro ⟨w, ⟨⟩⟩ hpre
 have hw : Gg w := hpre
 have hl1 := hw.1.1
 have hl2 := hw.2.1
 simp -implicitDefEqProofs only [Tryz.f158, go_sem, hh, seval]
 with_reducible repeat' (first | apply ai | intro _ | ((first | apply s1 | apply s2 | apply s3 | apply s4) <;> intro hb <;> simp -implicitDefEqProofs only [hb, go_sem, hh, seval] <;> try simp only [qz] at hb))
 all_goals (try simp only [maxLen, tn] at *)
 all_goals first | with_reducible rfl | omega | with_reducible assumption | (show _ = true; rfl) | skip
 refine Am (Le.nilb 1003 0 1901 false 7 rfl rfl rfl) (Af ?_)
 simp -implicitDefEqProofs only [go_sem, hh, seval]
 with_reducible repeat' (first | apply ai | intro _ | ((first | apply s1 | apply s2 | apply s3 | apply s4) <;> intro hb <;> simp -implicitDefEqProofs only [hb, go_sem, hh, seval] <;> try simp only [qz] at hb))
 all_goals (try simp only [maxLen, tn] at *)
 all_goals first | with_reducible rfl | omega | with_reducible assumption | (show _ = true; rfl) | skip
 refine AC [] (ι := {i : Nat // i ≤ w.hosts.length}) (fun p => ⟨[(1, .pb 1001 0), (2, .pb 1002 0), (3, .pb 1003 0), (4, .t (.v (.int .i64 p.1)))], [(1001, some (.box ((CP w).map .t))), (1002, some (.box [.nil, .t (.v (.int .i64 0)), .t (.v (.int .i64 0)), .nil])), (1003, some (.box [.h 1901, .t (.v (.int .i64 w.now)), .t (.v (.int .i64 w.marks)), .h 1012])), (1901, some (.arr false 7 ((w.hosts.take p.1).map AY))), (1012, some (.arr true 3 (w.given.map Ae)))]⟩) (fun p => w.hosts.length - p.1) ⟨0, Nat.zero_le _⟩ rfl ?_ ?_
 ·simp -implicitDefEqProofs only [go_sem, hh, seval]
  try simp
 ·rintro ⟨i, hi⟩
  dsimp only at hi ⊢
  have hlen : (w.hosts.take i).length = i := by rw [List.length_take]; omega
  by_cases hlt : (i : Int) < w.hosts.length
  ·have hz := hw.1.at (i := i) (by omega)
   simp -implicitDefEqProofs only [hlt, decide_true, go_sem, hh, seval]
   with_reducible repeat' (first | apply ai | intro _ | ((first | apply s1 | apply s2 | apply s3 | apply s4) <;> intro hb <;> simp -implicitDefEqProofs only [hb, go_sem, hh, seval] <;> try simp only [qz] at hb))
   all_goals (try simp only [maxLen, tn] at *)
   all_goals first | with_reducible rfl | omega | with_reducible assumption | (show _ = true; rfl) | skip
   refine Am (Le.renb 1003 0 1030 1901 rfl rfl rfl rfl) (Af ?_)
   simp -implicitDefEqProofs only [go_sem, hh, seval]
   with_reducible repeat' (first | apply ai | intro _ | ((first | apply s1 | apply s2 | apply s3 | apply s4) <;> intro hb <;> simp -implicitDefEqProofs only [hb, go_sem, hh, seval] <;> try simp only [qz] at hb))
   all_goals first | with_reducible rfl | omega | skip
   refine ⟨⟨i + 1, by omega⟩, by dsimp only; omega, ?_⟩
   simp -implicitDefEqProofs only [go_sem, hh, seval]
   simp only [Mb AY (show i < w.hosts.length by omega)]
   with_reducible repeat' (first | apply ai | intro _ | ((first | apply s1 | apply s2 | apply s3 | apply s4) <;> intro hb <;> simp -implicitDefEqProofs only [hb, go_sem, hh, seval] <;> try simp only [qz] at hb))
   all_goals first | rfl | (simp; done) | skip
  ·have htk : w.hosts.take i = w.hosts := List.take_of_length_le (by omega)
   simp -implicitDefEqProofs only [hlt, htk, decide_false, go_sem, hh, seval]
   with_reducible repeat' (first | apply ai | intro _ | ((first | apply s1 | apply s2 | apply s3 | apply s4) <;> intro hb <;> simp -implicitDefEqProofs only [hb, go_sem, hh, seval] <;> try simp only [qz] at hb))
   all_goals (try simp only [maxLen] at *)
   all_goals first | with_reducible rfl | omega | with_reducible assumption | (show _ = true; rfl) | decide | skip
end
theorem Oa {s : Sp} (h : CM s) {n : Int} {a : Ad} : Ck s n a ↔ ∃ x ∈ s.items, x.id = n ∧ ∃ r ∈ x.to, r.addr = a :=
 ⟨HH, fun ⟨x, hx, e, r, hr, e2⟩ => by rw [← e, ← e2]; exact (F4 h hx hr).1⟩
theorem aq {s : Sp} {m : Ml} {w n : Int} {a : Ad} (h : CM (Lj s m w)) (q : Ck s n a) : Ck (Lj s m w) n a := by
 obtain ⟨x, hx, e⟩ := HH q
 exact (Oa h).2 ⟨x, List.mem_append_left _ hx, e⟩
theorem Kw {α : Type} [Inhabited α] {xs : List α} {i : Nat} {x y : α} (hx : x ∈ xs) (hi : i < xs.length) : x ∈ xs.set i y ∨ x = xs.getD i default := by
 obtain ⟨j, hj, rfl⟩ := List.getElem_of_mem hx
 by_cases e : i = j
 ·subst e; exact .inr (by simp [hj])
 ·exact .inl (by rw [List.mem_iff_getElem]; exact ⟨j, by simpa using hj, by rw [List.getElem_set_ne e]⟩)
theorem HZ {α : Type} {xs : List α} {i : Nat} {y : α} (hi : i < xs.length) : y ∈ xs.set i y := List.mem_set hi y
theorem ar {s : Sp} {i k : Nat} {w n : Int} {a : Ad} (h : CM (PP s i k w)) (hi : i < s.items.length) (hk : k < (s.items.getD i default).to.length) (q : Ck s n a) : Ck (PP s i k w) n a := by
 obtain ⟨x, hx, e, r, hr, e2⟩ := HH q
 refine (Oa h).2 ?_
 show ∃ y ∈ s.items.set i (RU (s.items.getD i default) k w), y.id = n ∧ ∃ r ∈ y.to, r.addr = a
 rcases Kw (y := RU (s.items.getD i default) k w) hx hi with hm | rfl
 ·exact ⟨x, hm, e, r, hr, e2⟩
 ·refine ⟨_, HZ hi, e, ?_⟩
  show ∃ r ∈ (s.items.getD i default).to.set k (Uo ((s.items.getD i default).to.getD k default) w), r.addr = a
  rcases Kw (y := Uo ((s.items.getD i default).to.getD k default) w) hr hk with hm | rfl
  ·exact ⟨r, hm, e2⟩
  ·exact ⟨_, HZ hk, e2⟩
theorem J1 {s : Sp} (h : CM s) {n : Int} {a : Ad} (q : Ck s n a) : BL a ∧ Dk (A3 s n) ∧ (A7 s n).toNat < s.items.length ∧ (B0 (A3 s n) a).toNat < (s.items.getD (A7 s n).toNat default).to.length := by
 have i1 := CU q.1
 have k1 := HN q.2
 have hx : Dk (A3 s n) := (h.1 _ (AB (xs := s.items) (j := (A7 s n).toNat) (by omega))).1
 have hr := (hx.1 _ (AB (xs := (A3 s n).to) (j := (B0 (A3 s n) a).toNat) (by omega))).1
 rw [GC q.2] at hr
 exact ⟨hr, hx, by omega, by show _ < (A3 s n).to.length; omega⟩
theorem Hg {h : Hs} {n : Int} {a : Ad} {out w : Int} (hs : CM h.spool) (q : Ck h.spool n a) (hw : 0 ≤ w ∧ w ≤ 9999) : CM (CR h (A7 h.spool n).toNat (B0 (A3 h.spool n) a).toNat a out w).spool ∧
    ∀ n' a', Ck h.spool n' a' → ¬ (n = n' ∧ a = a') → Ck (CR h (A7 h.spool n).toNat (B0 (A3 h.spool n) a).toNat a out w).spool n' a' := by
 obtain ⟨ha, hx, hi, hk⟩ := J1 hs q
 have hd := EZ hs hi hk
 have td : ∀ n' a', Ck h.spool n' a' → ¬ (n = n' ∧ a = a') → Ck (DF h.spool (A7 h.spool n).toNat (B0 (A3 h.spool n) a).toNat) n' a' := fun n' a' q' ne => SH hs q q' ne
 unfold CR
 split
 ·exact ⟨hd, td⟩
 ·split
  ·rename_i hl
   have hl2 := MR hs hi hk hl.2 hw.1
   exact ⟨hl2, fun n' a' q' _ => ar hl2 hi hk q'⟩
  ·by_cases z : AN (h.spool.items.getD (A7 h.spool n).toNat default).frm ∨ ¬ CD (DF h.spool (A7 h.spool n).toNat (B0 (A3 h.spool n) a).toNat)
   ·rw [Xs z]; exact ⟨hd, td⟩
   ·rw [Xr z]
    have hrm : CD (DF h.spool (A7 h.spool n).toNat (B0 (A3 h.spool n) a).toNat) := Classical.byContradiction fun y => z (.inr y)
    have ha2 := IB hd (UE hx ha fun y => z (.inl y)) hw hrm
    exact ⟨ha2, fun n' a' q' ne => aq ha2 (td n' a' q' ne)⟩
theorem Dv (h : Hs) (i k : Nat) (a : Ad) (out w : Int) : (CR h i k a out w).conf = h.conf ∧ (CR h i k a out w).boxes = h.boxes ∧ ((CR h i k a out w).lost = h.lost ∨ (CR h i k a out w).lost = h.lost ++ [⟨A6 (h.spool.items.getD i default).body, a⟩]) := by
 unfold CR Gz
 repeat' split
 all_goals first | exact ⟨rfl, rfl, .inl rfl⟩ | exact ⟨rfl, rfl, .inr rfl⟩
theorem Yv {h : Hs} {n : Int} {a : Ad} {out w : Int} (q : HD h) (t : Ck h.spool n a) (hw : 0 ≤ w ∧ w ≤ 9999) : HD (CR h (A7 h.spool n).toNat (B0 (A3 h.spool n) a).toNat a out w) := by
 obtain ⟨r1, r2, _⟩ := Dv h (A7 h.spool n).toNat (B0 (A3 h.spool n) a).toNat a out w
 refine ⟨fun j hj => ?_, by rw [r1]; exact q.2.1, (Hg q.2.2 t hw).1⟩
 have := q.1 j (by rw [r2] at hj; exact hj)
 unfold VY at this ⊢
 rw [r1, r2]
 exact this
theorem eX {h : Hs} {m : Ml} {w : Int} (q : HD h) (hm : DA m) (hl : m.body.length < 12) (hw : 0 ≤ w ∧ w ≤ 9999) (hr : CD h.spool) : HD (JI h m w) := ⟨q.1, q.2.1, IB q.2.2 (mm q.2.1.2.2.1 hm hl) hw hr⟩
def FS (h : Hs) : Prop := (∀ b ∈ h.boxes, iE b ∧ b.addr.domain ∈ h.conf.own) ∧ Jz h.boxes ∧ Lc h.conf ∧ CM h.spool
theorem Eo {h : Hs} : HD h ↔ FS h := by
 constructor
 ·intro q
  refine ⟨fun b hb => ?_, Ok fun j h0 hj => (q.1 j hj).2.1 h0, q.2.1, q.2.2⟩
  obtain ⟨j, hj, rfl⟩ := List.getElem_of_mem hb
  have := q.1 j hj
  unfold VY at this
  have e : h.boxes.getD j default = h.boxes[j] := by simp [hj]
  rw [e] at this
  exact ⟨this.1, this.2.2⟩
 ·intro q
  refine ⟨fun j hj => ⟨(q.1 _ (AB hj)).1, fun h0 => ?_, (q.1 _ (AB hj)).2⟩, q.2.2.1, q.2.2.2⟩
  have := List.pairwise_iff_getElem.1 q.2.1 (j - 1) j (by omega) hj (by omega)
  rw [← IF]
  simpa [hj, show j - 1 < h.boxes.length by omega] using this
theorem UF {bs : List Bx} {a : Ad} {g : Gm} {b : Bx} (h : b ∈ D9 bs a g) : b ∈ bs ∨ (∃ b0 ∈ bs, b = ⟨b0.addr, b0.mails ++ [g]⟩) ∨ b = ⟨a, [g]⟩ := by
 cases hf : Fi bs a
 ·rw [E5 hf] at h
  rcases List.mem_append.1 h with h | h
  ·exact .inl (List.mem_of_mem_take h)
  ·rcases List.mem_cons.1 h with h | h
   ·exact .inr (.inr h)
   ·exact .inl (List.mem_of_mem_drop h)
 ·rw [GE hf] at h
  rcases List.mem_or_eq_of_mem_set h with h | h
  ·exact .inl h
  ·exact .inr (.inl ⟨_, AB (Jd hf), h⟩)
def FD (N : Nat) (h : Hs) : Prop := h.boxes.length ≤ N ∧ (∀ b ∈ h.boxes, b.mails.length ≤ N) ∧ h.lost.length ≤ N ∧ ∀ l ∈ h.lost, Tp l
theorem B5 {N M : Nat} {h : Hs} (q : FD N h) (l : N ≤ M) : FD M h := ⟨Nat.le_trans q.1 l, fun b hb => Nat.le_trans (q.2.1 b hb) l, Nat.le_trans q.2.2.1 l, q.2.2.2⟩
theorem R6 {c : Cf} (h : Lc c) : Mu c := by
 obtain ⟨h1, h2, h3, h4, h5⟩ := h
 have d : ∀ {s : ByteArray}, D3 s → Bg s := fun {s} q => by have := (Ci q).2; show s.size ≤ 1048576; omega
 exact ⟨d h3, ⟨by omega, fun s hs => d (h1 s hs)⟩, ⟨by omega, fun w hw => ⟨d (h2 w hw).1, d (h2 w hw).2⟩⟩⟩
theorem EI {N : Nat} {h : Hs} (q : FS h) (n : FD N h) (hN : N ≤ 1048576) : FN h := by
 obtain ⟨n1, n2, n3, n4⟩ := n
 refine ⟨R6 q.2.2.1, HG q.2.2.2, ⟨by omega, fun b hb => ?_⟩, ⟨by omega, n4⟩⟩
 have hbo := (q.1 b hb).1
 have := n2 b hb
 exact ⟨CT (.inl hbo.2), ⟨by omega, fun g hg => ⟨CT (hbo.1 g hg).1, HC (hbo.1 g hg).2⟩⟩⟩
theorem cr {g : Hs} {x : Im} {a : Ad} {c : Cf} {R : List (Int × Ad)} (q : FS g) (k : Kp c g ((x.id, a) :: R)) (hx : Dk x) (ha : BL a) (hd : a.domain ∈ g.conf.own) : FS (FH g x a) := by
 have hk := k.step
 refine ⟨fun b hb => ?_, KJ q.2.1, q.2.2.1, hk.sp⟩
 have hg : (BL x.frm ∨ AN x.frm) ∧ Ch x.body := ⟨hx.2.2.2.1, hx.2.2.2.2.2⟩
 rcases UF hb with h | ⟨b0, h0, rfl⟩ | rfl
 ·exact q.1 b h
 ·refine ⟨⟨fun y hy => ?_, (q.1 b0 h0).1.2⟩, (q.1 b0 h0).2⟩
  rcases List.mem_append.1 hy with hy | hy
  ·exact (q.1 b0 h0).1.1 y hy
  ·rw [List.mem_singleton] at hy; subst hy; exact hg
 ·exact ⟨⟨fun y hy => by rw [List.mem_singleton] at hy; subst hy; exact hg, ha⟩, hd⟩
theorem ct {N : Nat} {g : Hs} {x : Im} {a : Ad} (n : FD N g) : FD (N + 1) (FH g x a) := ⟨Nat.le_trans (MA _ _ _) (Nat.succ_le_succ n.1), Ip n.2.1, Nat.le_succ_of_le n.2.2.1, n.2.2.2⟩
theorem S6 {x : Im} {c : Cf} (hx : Dk x) : ∀ (ads : List Ad) {g : Hs} {N : Nat} {R : List (Int × Ad)}, FS g → FD N g → Kp c g ((ads.map fun a => (x.id, a)) ++ R) → (∀ a ∈ ads, BL a ∧ a.domain ∈ c.own) → FS (FI x ads g) ∧ FD (N + ads.length) (FI x ads g) ∧ Kp c (FI x ads g) R
 | [], g, N, R, q, n, k, _ => ⟨q, n, k⟩
 | a :: r, g, N, R, q, n, k, h => by
   have ha := h a (List.mem_cons_self ..)
   have z := S6 hx r (cr q k hx ha.1 (by rw [k.cf]; exact ha.2)) (ct (x := x) (a := a) n) (k.step (x := x) (a := a)) fun b hb => h b (List.mem_cons_of_mem _ hb)
   refine ⟨z.1, ?_, z.2.2⟩
   have e : N + (a :: r).length = N + 1 + r.length := by rw [List.length_cons]; omega
   rw [e]; exact z.2.1
theorem S5 {c : Cf} {w : Int} : ∀ (xs : List Im) {g : Hs} {N : Nat}, FS g → FD N g → Kp c g (Gl c w xs) → (∀ x ∈ xs, Dk x) → FS (Cs c w xs g) ∧ FD (N + xs.length * 4) (Cs c w xs g)
 | [], g, N, q, n, _, _ => ⟨q, by show FD (N + 0 * 4) g; rw [Nat.zero_mul]; exact n⟩
 | x :: t, g, N, q, n, k, h => by
   have hx := h x (List.mem_cons_self ..)
   have z := S6 (c := c) hx (A2 c ⟨#[]⟩ w x.to) (R := Gl c w t) q n k fun a ha => by
    obtain ⟨r, hr, e, nr⟩ := Eh c ⟨#[]⟩ w x.to a ha
    rw [← e]
    refine ⟨(hx.1 r hr).1, ?_⟩
    rcases nr.2 with y | y
    ·exact y.1
    ·exact absurd rfl y.2.1
   have z2 := S5 t z.1 z.2.1 z.2.2 fun y hy => h y (List.mem_cons_of_mem _ hy)
   have hl := Eg c ⟨#[]⟩ w x.to
   have h4 := hx.2.2.2.2.1.2
   exact ⟨z2.1, B5 z2.2 (by rw [List.length_cons]; omega)⟩
theorem mn {h : Hs} {w : Int} {N : Nat} (q : FS h) (n : FD N h) (hN : N ≤ 1048576) : FS (Cs h.conf w h.spool.items h) ∧ FD (N + 40) (Cs h.conf w h.spool.items h) := by
 have k := OR (w := w) (Eo.2 q) (EI q n hN)
 have z := S5 h.spool.items q n k fun x hx => (q.2.2.2.1 x hx).1
 have hl := q.2.2.2.2.2.2
 exact ⟨z.1, B5 z.2 (by omega)⟩
theorem YT {b : List ByteArray} (h : Ch b) : Bg (A6 b) := by
 rcases Fp b with e | e
 ·rw [e]; show (⟨#[]⟩ : ByteArray).size ≤ 1048576; decide
 ·exact (HC h).2 _ e
theorem Jj {h : Hs} {n : Int} {a : Ad} {out w : Int} {N : Nat} (q : FS h) (hn : FD N h) (t : Ck h.spool n a) (hw : 0 ≤ w ∧ w ≤ 9999) : FS (CR h (A7 h.spool n).toNat (B0 (A3 h.spool n) a).toNat a out w) ∧ FD (N + 1) (CR h (A7 h.spool n).toNat (B0 (A3 h.spool n) a).toNat a out w) := by
 refine ⟨Eo.1 (Yv (Eo.2 q) t hw), ?_⟩
 obtain ⟨r1, r2, r3⟩ := Dv h (A7 h.spool n).toNat (B0 (A3 h.spool n) a).toNat a out w
 obtain ⟨t1, t2, _⟩ := J1 q.2.2.2 t
 unfold FD
 rw [r2]
 refine ⟨Nat.le_succ_of_le hn.1, fun b hb => Nat.le_succ_of_le (hn.2.1 b hb), ?_⟩
 rcases r3 with e | e
 ·rw [e]; exact ⟨Nat.le_succ_of_le hn.2.2.1, hn.2.2.2⟩
 ·rw [e]
  refine ⟨by rw [List.length_append]; exact Nat.succ_le_succ hn.2.2.1, fun l hl => ?_⟩
  rcases List.mem_append.1 hl with hl | hl
  ·exact hn.2.2.2 l hl
  ·rw [List.mem_singleton] at hl; subst hl
   exact ⟨YT t2.2.2.2.2.2, CT (.inl t1)⟩
theorem Zc {h : Hs} {m : Ml} {w : Int} {N : Nat} (q : FS h) (n : FD N h) (hm : DA m) (hl : m.body.length < 12) (hw : 0 ≤ w ∧ w ≤ 9999) (hr : CD h.spool) : FS (JI h m w) ∧ FD N (JI h m w) := ⟨Eo.1 (eX (Eo.2 q) hm hl hw hr), n⟩
def kU : Ct := Aj (lc OM.ag (lc Ak l0)) (fun p => True) (fun p => .t (.v (.int .i64 (BD (fun h : Hs => h.conf.name = p.2.1) 0 p.1.hosts))))
section
attribute [local go_sem] lm
theorem rE {G : Gt} (hG : Ac G) : Gd G 228 (AA 0 kU) := by
 refine gr (fn := Tryz.f228) (n := 2) rfl hG ?_
 rintro ⟨w, a, ⟨⟩⟩ hpre
 simp -implicitDefEqProofs only [Tryz.f228, go_sem, seval] at hpre ⊢
 refine AC [] (ι := {i : Nat // i ≤ w.hosts.length ∧ BD (fun h : Hs => h.conf.name = a) 0 w.hosts = BD (fun h : Hs => h.conf.name = a) i (w.hosts.drop i)}) (fun p => ⟨[(1, .t (.v (.string a))), (2, .pb 1002 0), (5, .t (.v (.int .i64 p.1)))], [(1002, some (.box ((CP w).map .t)))]⟩) (fun p => w.hosts.length - p.1) ⟨0, by simp, rfl⟩ rfl ?_ ?_
 ·simp -implicitDefEqProofs only [go_sem, seval]
  try simp
 ·rintro ⟨i, hi, hix⟩
  by_cases hlt : (i : Int) < w.hosts.length
  ·simp -implicitDefEqProofs only [hlt, decide_true, tn, go_sem, seval]
   with_reducible repeat' (first | apply ai | intro _ | ((first | apply s1 | apply s2 | apply s3 | apply s4) <;> intro hb <;> simp -implicitDefEqProofs only [hb, go_sem, seval] <;> try simp only [qz] at hb))
   all_goals (try simp only [maxLen, tn] at *)
   all_goals first | rfl | omega | skip
   ·rw [hix, CX (p := fun h : Hs => h.conf.name = a) (by omega) hb]
   ·refine ⟨⟨i + 1, by omega, by rw [hix, DP (p := fun h : Hs => h.conf.name = a) (by omega) hb]⟩, by dsimp only; omega, ?_⟩
    simp -implicitDefEqProofs only [go_sem, seval]
    try simp
  ·simp -implicitDefEqProofs only [hlt, decide_false, go_sem, seval]
   with_reducible repeat' (first | apply ai | intro _ | ((first | apply s1 | apply s2 | apply s3 | apply s4) <;> intro hb <;> simp -implicitDefEqProofs only [hb, go_sem, seval] <;> try simp only [qz] at hb))
   all_goals first | rfl | omega | skip
   rw [hix, CV (by omega)]
end
def Hk (a : Wd) : AV := .agg [.o false 7 (a.hosts.map AY), .t (.v (.int .i64 a.now)), .t (.v (.int .i64 a.marks)), .o true 3 (a.given.map Ae)]
def gb : AV → Option Wd
 | .agg [x0, .t (.v (.int .i64 x1)), .t (.v (.int .i64 x2)), x3] => G3 x1 x2 (FM.owD false 7 x0) (FR.owD true 3 x3)
 | _ => none
def rj : AD Wd where
 enc := Hk
 dec := gb
 ed := fun a => by
  show G3 a.now a.marks (FM.owD false 7 ((FM.aow false 7).enc a.hosts)) (FR.owD true 3 ((FR.aow true 3).enc a.given)) = _
  rw [show FM.owD false 7 ((FM.aow false 7).enc a.hosts) = some a.hosts from (FM.aow false 7).ed _, show FR.owD true 3 ((FR.aow true 3).enc a.given) = some a.given from (FR.aow true 3).ed _]
  rfl
 de := fun x m h => by
  unfold gb at h
  split at h
  ·unfold G3 at h
   split at h
   ·rename_i e0 e1
    cases h
    have q0 := (FM.aow false 7).de _ _ e0
    subst q0
    have q1 := (FR.aow true 3).de _ _ e1
    subst q1
    rfl
   ·cases h
  ·cases h
theorem Fy (a : Wd) : rj.enc a = .agg [.o false 7 (a.hosts.map AY), .t (.v (.int .i64 a.now)), .t (.v (.int .i64 a.marks)), .o true 3 (a.given.map Ae)] := rfl
theorem Fx {x0 : List (List T)} {x1 : Int} {x2 : Int} {x3 : List (List T)} : rj.dec (.agg [.o false 7 x0, .t (.v (.int .i64 x1)), .t (.v (.int .i64 x2)), .o true 3 x3]) = G3 x1 x2 (FM.decL x0) (FR.decL x3) := rfl
def Gh (N : Nat) (w : Wd) : Prop := (∀ h ∈ w.hosts, FS h ∧ FD N h) ∧ (1 ≤ w.hosts.length ∧ w.hosts.length ≤ 4) ∧ (0 ≤ w.now ∧ w.now ≤ 9999) ∧ (0 ≤ w.marks ∧ w.marks ≤ 60) ∧ w.given.length ≤ N ∧ ∀ l ∈ w.given, Tp l
def yB (w : Wd) (c : Cf) (ls : Bool) (r : Rc) : Prop := r.next ≤ w.now ∧ ¬ r.addr.domain ∈ c.own ∧ (ls = true ∨ BD (fun h : Hs => h.conf.name = P6 c r.addr.domain) 0 w.hosts < 0)
noncomputable def Hf (h : Hs) (n : Int) (a : Ad) (out w : Int) : Hs := CR h (A7 h.spool n).toNat (B0 (A3 h.spool n) a).toNat a out w
open Classical in
noncomputable def QD (w : Wd) (c : Cf) (ls : Bool) (n : Int) : List Rc → Hs × Bool → Hs × Bool
 | [], x => x
 | r :: t, x => if yB w c ls r then QD w c ls n t (Hf x.1 n r.addr 3 w.now, true) else QD w c ls n t x
theorem ta {w : Wd} {c : Cf} {ls : Bool} {n : Int} {rs : List Rc} {i : Nat} {x : Hs × Bool} (h : i < rs.length) (q : yB w c ls (rs.getD i default)) : QD w c ls n (rs.drop i) x = QD w c ls n (rs.drop (i + 1)) (Hf x.1 n (rs.getD i default).addr 3 w.now, true) := by rw [Aa h, QD, if_pos q]
theorem tZ {w : Wd} {c : Cf} {ls : Bool} {n : Int} {rs : List Rc} {i : Nat} {x : Hs × Bool} (h : i < rs.length) (q : ¬ yB w c ls (rs.getD i default)) : QD w c ls n (rs.drop i) x = QD w c ls n (rs.drop (i + 1)) x := by rw [Aa h, QD, if_neg q]
theorem f9 {w : Wd} {c : Cf} {ls : Bool} {n : Int} {rs : List Rc} {i : Nat} {x : Hs × Bool} (h : rs.length ≤ i) : QD w c ls n (rs.drop i) x = x := by rw [List.drop_of_length_le h]; rfl
noncomputable abbrev Ag (w : Wd) (k : Int) : Hs := w.hosts.getD k.toNat default
noncomputable abbrev Jf (h : Hs) (n : Int) : Im := h.spool.items.getD (A7 h.spool n).toNat default
noncomputable def PE (w : Wd) (e : Ev) : Hs × Bool := QD w (Ag w e.host).conf e.lose e.id (Jf (Ag w e.host) e.id).to (Ag w e.host, false)
def Hi (w : Wd) (k : Int) (h : Hs) : Wd := ⟨w.hosts.set k.toNat h, w.now, w.marks, w.given⟩
open Classical in
noncomputable def JD (w : Wd) (e : Ev) : Wd × Bool := if 0 ≤ e.host ∧ e.host ≤ (w.hosts.length : Int) - 1 then (if A7 (Ag w e.host).spool e.id < 0 then (w, false) else (Hi w e.host (PE w e).1, (PE w e).2)) else (w, false)
theorem mg {w : Wd} {e : Ev} (h : ¬ (0 ≤ e.host ∧ e.host ≤ (w.hosts.length : Int) - 1)) : JD w e = (w, false) := if_neg h
theorem mh {w : Wd} {e : Ev} (h : 0 ≤ e.host ∧ e.host ≤ (w.hosts.length : Int) - 1) (h2 : A7 (Ag w e.host).spool e.id < 0) : JD w e = (w, false) := by unfold JD; rw [if_pos h, if_pos h2]
theorem mi {w : Wd} {e : Ev} (h : 0 ≤ e.host ∧ e.host ≤ (w.hosts.length : Int) - 1) (h2 : ¬ A7 (Ag w e.host).spool e.id < 0) : JD w e = (Hi w e.host (PE w e).1, (PE w e).2) := by unfold JD; rw [if_pos h, if_neg h2]
theorem vM {xs : List Rc} {i j : Nat} (h : (xs.map Rc.addr).Nodup) (hi : i < j) (hj : j < xs.length) : ¬ (xs.getD i default).addr = (xs.getD j default).addr := by
 have z := List.pairwise_iff_getElem.1 h i j (by rw [lm]; omega) (by rw [lm]; omega) hi
 simpa [hj, show i < xs.length by omega] using z
def kJ : Mt := H1 (lc rj (lc QH.ag l0)) (fun p => Gh 1000000 p.1) (fun p => ([.any, QH.ag.enc p.2.1], .tup [Hk (JD p.1 p.2.1).1, .t (.v (.bool (JD p.1 p.2.1).2))]))
section
attribute [local go_sem] Ln k7 bj Qp kU k8 CN Fy Fx Hk.eq_1 G3.eq_1 Ai Bh LF lm AS.opn AS.cls AS.nilb AS.renb AS.up Bool.not_false Bool.not_true List.set_set List.set_cons_zero List.set_cons_succ List.set_nil List.mem_singleton forall_eq tn List.map_nil List.nil_append
set_option maxHeartbeats 6400000 in
theorem qq {G : Gt} (hG : Ac G) (hh : G.e 36 = AA 0 Ln ∧ G.e 34 = AA 0 k7 ∧ G.e 87 = AA 0 bj ∧ G.e 171 = AA 0 Qp ∧ G.e 228 = AA 0 kU ∧ G.e 37 = AA 1 k8) : Gd G 208 (AW kJ) := by
 refine Ke (dp := fun _ => true) (fn := Tryz.f208) (n := 2) rfl hG ?_
 rintro ⟨w, e, ⟨⟩⟩ hpre
 have hw : Gh 1000000 w := hpre
 try dsimp only
 have hl := hw.2.1
 by_cases h0 : 0 ≤ e.host ∧ e.host ≤ (w.hosts.length : Int) - 1
 ·have h0' := An h0
  by_cases h1 : A7 (Ag w e.host).spool e.id < 0
  ·skip
   rw [mh h0 h1]
   simp -implicitDefEqProofs only [Tryz.f208, h0', h1, eq_self, decide_true, decide_false, go_sem, hh, seval]
   with_reducible repeat' (first | apply ai | intro _ | ((first | apply s1 | apply s2 | apply s3 | apply s4) <;> intro hb <;> simp -implicitDefEqProofs only [hb, go_sem, hh, seval] <;> try simp only [qz] at hb))
   all_goals (try simp only [maxLen, tn, AK, AM] at *)
   all_goals first | with_reducible rfl | omega | with_reducible assumption | (show _ = true; rfl) | contradiction | decide | skip
  ·rw [mi h0 h1]
   have hH := hw.1 _ (AB (xs := w.hosts) (j := e.host.toNat) (by omega))
   have i1 : 0 ≤ BD (fun x : Im => x.id = e.id) 0 (Ag w e.host).spool.items ∧ BD (fun x : Im => x.id = e.id) 0 (Ag w e.host).spool.items < (Ag w e.host).spool.items.length := by have := CU h1; unfold A7 at this h1; omega
   have hil : (A7 (Ag w e.host).spool e.id).toNat < (Ag w e.host).spool.items.length := by have := CU h1; omega
   have hx := (hH.1.2.2.2.1 _ (AB (xs := (Ag w e.host).spool.items) (j := (A7 (Ag w e.host).spool e.id).toNat) hil)).1
   have hx4 : (Jf (Ag w e.host) e.id).to.length ≤ 4 := hx.2.2.2.2.1.2
   have hw2 := hw.2.2.1
   simp -implicitDefEqProofs only [Tryz.f208, h0', h1, eq_self, decide_true, decide_false, go_sem, hh, seval]
   with_reducible repeat' (first | apply ai | intro _ | ((first | apply s1 | apply s2 | apply s3 | apply s4) <;> intro hb <;> simp -implicitDefEqProofs only [hb, go_sem, hh, seval] <;> try simp only [qz] at hb))
   all_goals (try simp only [maxLen, tn, AK, AM] at *)
   all_goals first | with_reducible rfl | omega | exact i1.2 | with_reducible assumption | (show _ = true; rfl) | contradiction | skip
   refine AC [] (ι := {p : Nat × Hs × Bool // p.1 ≤ (Jf (Ag w e.host) e.id).to.length ∧ (FS p.2.1 ∧ FD (1000000 + p.1) p.2.1 ∧ p.2.1.conf = (Ag w e.host).conf) ∧ (∀ j, p.1 ≤ j → j < (Jf (Ag w e.host) e.id).to.length → Ck p.2.1.spool e.id ((Jf (Ag w e.host) e.id).to.getD j default).addr) ∧ QD w (Ag w e.host).conf e.lose e.id ((Jf (Ag w e.host) e.id).to.drop p.1) p.2 = PE w e}) (fun p => ⟨[(2, .pb 1002 0), (3, .pb 1003 0), (4, .pb 1004 0), (6, .pb 1006 0), (8, .t (.sl 4 ((Jf (Ag w e.host) e.id).to.map BP))), (9, .t (.v (.bool p.1.2.2))), (10, .t (.v (.int .i64 p.1.1)))], [(1002, some (.box [.h 1900, .t (.v (.int .i64 w.now)), .t (.v (.int .i64 w.marks)), .h 2900])), (1003, some (.box ((C2 e).map .t))), (1004, some (.box [.nil, .t (.v (.int .i64 0)), .t (.v (.int .i64 0)), .nil])), (1006, some (.box ((AY p.1.2.1).map .t))), (1900, some (.arr false 7 (w.hosts.map AY))), (2900, some (.arr true 3 (w.given.map Ae)))]⟩) (fun p => (Jf (Ag w e.host) e.id).to.length - p.1.1) ⟨(0, (Ag w e.host), false), Nat.zero_le _, ⟨hH.1, hH.2, rfl⟩, fun j _ hj => ?_, rfl⟩ rfl ?_ ?_
   ·have e1 := GB h1
    have z := (F4 hH.1.2.2.2 (x := Jf (Ag w e.host) e.id) (AB hil) (AB hj)).1
    have e2 : (Jf (Ag w e.host) e.id).id = e.id := e1
    rw [e2] at z
    exact z
   ·simp -implicitDefEqProofs only [go_sem, hh, seval]
    first | (simp; done) | ((repeat' (first | with_reducible apply And.intro | rfl)); done)
   ·rintro ⟨⟨k, x, dn⟩, hk, ⟨hxK, hxN, hxc⟩, htd, hv⟩
    dsimp only at hk hxK hxN hxc htd hv
    have hok := EI hxK hxN (by omega)
    have hsp := hxK.2.2.2
    have hxe : (⟨(Ag w e.host).conf, x.spool, x.boxes, x.lost⟩ : Hs) = x := by rw [← hxc]
    simp -implicitDefEqProofs only [hxc, go_sem, hh, seval]
    with_reducible repeat' (first | apply ai | intro _ | ((first | apply s1 | apply s2 | apply s3 | apply s4) <;> intro hb <;> simp -implicitDefEqProofs only [hb, go_sem, hh, seval] <;> try simp only [qz] at hb))
    all_goals (try simp only [maxLen, tn, AK, AM] at *)
    all_goals first
     | with_reducible rfl
     | omega
     | with_reducible assumption
     | (show _ = true; rfl)
     | exact hok.2.1
     | exact (htd k (Nat.le_refl _) (by omega)).1
     | exact (htd k (Nat.le_refl _) (by omega)).2
     | exact .inr ⟨hxc ▸ hok, hw2⟩
     | (rw [f9 (by omega)] at hv; rw [← hv, ← hxc]; first | done | rfl)
     | (rw [f9 (by omega)] at hv; rw [← hv]; first | done | rfl)
     | (show _ = T.v _; rfl)
     | (show _ = List.map Ae _; rfl)
     | (show List.Nodup _; decide)
     | (have hkl : k < (Jf (Ag w e.host) e.id).to.length := by omega
        have ht := htd k (Nat.le_refl _) hkl
        have z := Jj (out := 3) hxK hxN ht hw2
        refine ⟨⟨(k + 1, Hf x e.id ((Jf (Ag w e.host) e.id).to.getD k default).addr 3 w.now, true), by dsimp only; omega, ⟨z.1, z.2, (Dv _ _ _ _ _ _).1.trans hxc⟩, fun j hj hj2 => (Hg hsp ht hw2).2 _ _ (htd j (by dsimp only at hj; omega) hj2) (fun y => vM hx.2.1 (by dsimp only at hj; omega) hj2 y.2), (ta hkl ⟨by first | omega | with_reducible assumption, by with_reducible assumption, by first | exact .inl (by with_reducible assumption) | exact .inr (by with_reducible assumption)⟩).symm.trans hv⟩, by dsimp only; omega, ?_⟩
        simp -implicitDefEqProofs only [go_sem, hh, seval]
        first | (simp only [hxe, Hf]; simp; done) | skip)
     | (have hkl : k < (Jf (Ag w e.host) e.id).to.length := by omega
        refine ⟨⟨(k + 1, x, dn), by dsimp only; omega, ⟨hxK, B5 hxN (by omega), hxc⟩, fun j hj hj2 => htd j (by dsimp only at hj; omega) hj2, (tZ hkl (fun q => by first | exact absurd q.1 (by with_reducible assumption) | (have := q.1; omega) | exact q.2.1 (by with_reducible assumption) | (rcases q.2.2 with y | y <;> first | (simp_all; done) | omega))).symm.trans hv⟩, by dsimp only; omega, ?_⟩
        simp -implicitDefEqProofs only [go_sem, hh, seval]
        first | (simp; done) | (simp [hxe, hxc]; done) | skip)
     | skip
 ·have h0' := AQ h0
  rw [mg h0]
  simp -implicitDefEqProofs only [Tryz.f208, h0', eq_self, decide_true, decide_false, go_sem, hh, seval]
  with_reducible repeat' (first | apply ai | intro _ | ((first | apply s1 | apply s2 | apply s3 | apply s4) <;> intro hb <;> simp -implicitDefEqProofs only [hb, go_sem, hh, seval] <;> try simp only [qz] at hb))
  all_goals (try simp only [maxLen, tn, AK, AM] at *)
  all_goals first | with_reducible rfl | omega | with_reducible assumption | (show _ = true; rfl) | contradiction | decide | skip
end
instance wk (c : Cf) : Decidable (Lc c) := by unfold Lc; infer_instance
theorem Sg (k : Int) : (∀ c ∈ E6 k, Lc c) ∧ ((E6 k).map Cf.name).Nodup := by
 unfold E6
 split
 ·exact ⟨by decide +kernel, by decide +kernel⟩
 ·split
  ·exact ⟨by decide +kernel, by decide +kernel⟩
  ·split
   ·exact ⟨by decide +kernel, by decide +kernel⟩
   ·exact ⟨by decide +kernel, by decide +kernel⟩
theorem TO {c : Cf} (h : Lc c) : FS (FJ c) ∧ FD 0 (FJ c) := ⟨⟨fun _ q => (by cases q), List.Pairwise.nil, h, Vh⟩, Nat.le_refl _, fun _ q => (by cases q), Nat.le_refl _, fun _ q => by cases q⟩
theorem bp (k : Int) : EJ (EC (E6 k)) := by
 obtain ⟨h1, h2⟩ := Sg k
 obtain ⟨_, h3, h4⟩ := NC k
 have hl : (EC (E6 k)).hosts.length = (E6 k).length := lm _
 refine ⟨fun h hh => ?_, ?_, fun _ q => (by cases q), ⟨by omega, by omega⟩, ⟨Int.le_refl _, by show (0 : Int) ≤ 9999; decide⟩, ⟨Int.le_refl _, by show (0 : Int) ≤ 60; decide⟩⟩
 ·obtain ⟨c, hc, rfl⟩ := List.mem_map.1 hh
  exact Eo.2 (TO (h1 c hc)).1
 ·show (((E6 k).map FJ).map ML).Nodup
  rw [List.map_map]
  exact h2
def QQ (s : Ss) : Prop := (∀ a ∈ s.mail.to, BL a) ∧ s.mail.to.Nodup ∧ (BL s.mail.frm ∨ AN s.mail.frm) ∧ s.mail.to.length ≤ 4 ∧ (s.state = 3 ∨ s.state = 4 → 1 ≤ s.mail.to.length)
theorem L0 {s : Ss} (h : ¬ (s.state = 3 ∨ s.state = 4)) : QQ (Ff s) := ⟨fun _ q => (by cases q), List.nodup_nil, .inr ⟨rfl, rfl⟩, Nat.zero_le _, fun q => absurd q h⟩
theorem ma {s : Ss} (t : ByteArray) (h : QQ s) : QQ (Ec s t).1 := by
 unfold Ec
 split
 ·split
  ·rename_i q
   refine ⟨fun _ z => (by cases z), List.nodup_nil, (DZ q).1, Nat.zero_le _, fun z => absurd (show (2 : Int) = 3 ∨ (2 : Int) = 4 from z) (by decide)⟩
  ·exact h
 ·exact h
theorem wJ {s : Ss} (c : Cf) (t : ByteArray) (h : QQ s) : QQ (Hr c s t).1 := by
 unfold Hr
 split
 ·split
  ·rename_i q
   split
   ·exact h
   ·rename_i q2
    split
    ·split
     ·exact h
     ·rename_i q3
      split
      ·exact h
      ·rename_i q4
       refine ⟨fun a ha => ?_, ?_, h.2.2.1, ?_, fun _ => ?_⟩
       ·rcases List.mem_append.1 ha with ha | ha
        ·exact h.1 a ha
        ·rw [List.mem_singleton] at ha; subst ha; exact (DZ q).1.resolve_right q2
       ·show (s.mail.to ++ [A0 t]).Nodup
        rw [List.nodup_append]
        exact ⟨h.2.1, by simp, fun a ha b hb e => by rw [List.mem_singleton] at hb; subst hb; subst e; exact q3 ha⟩
       ·show (s.mail.to ++ [A0 t]).length ≤ 4
        rw [List.length_append]; show s.mail.to.length + 1 ≤ 4; omega
       ·show 1 ≤ (s.mail.to ++ [A0 t]).length
        rw [List.length_append]; show 1 ≤ s.mail.to.length + 1; omega
    ·exact h
  ·exact h
 ·exact h
theorem lU {s : Ss} (c : Cf) (l : ByteArray) (h : QQ s) : QQ (BZ c s l).1 := by
 unfold BZ
 repeat' split
 all_goals first
  | exact h
  | exact ma _ h
  | exact wJ _ _ h
  | exact L0 (by show ¬ ((1 : Int) = 3 ∨ (1 : Int) = 4); decide)
  | exact L0 (by show ¬ ((5 : Int) = 3 ∨ (5 : Int) = 4); decide)
  | exact L0 (by omega)
  | (rename_i q; exact ⟨h.1, h.2.1, h.2.2.1, h.2.2.2.1, fun _ => h.2.2.2.2 (.inl q)⟩)
theorem l5 {s : Ss} {l : ByteArray} (h : QQ s) : QQ (Al s l).1.1 ∧ ((Al s l).1.2 = ⟨#[]⟩ ∨ (Al s l).1.1.state = 1) ∧ ((Al s l).2 = true → Ch (Al s l).1.1.mail.body ∧ (Al s l).1.1.mail.to = s.mail.to) := by
 have one : ∀ b : Bool, QQ ⟨1, s.mail, b, s.buf⟩ := fun b => ⟨h.1, h.2.1, h.2.2.1, h.2.2.2.1, fun q => absurd (show (1 : Int) = 3 ∨ (1 : Int) = 4 from q) (by decide)⟩
 unfold Al
 repeat' split
 all_goals first
  | (refine ⟨one _, .inr rfl, fun _ => ⟨?_, rfl⟩⟩; assumption)
  | exact ⟨one _, .inr rfl, fun q => absurd q Bool.false_ne_true⟩
  | exact ⟨h, .inl rfl, fun q => absurd q Bool.false_ne_true⟩
theorem oT {s : Ss} {l : ByteArray} (c : Cf) (h : QQ s) : QQ (Bj c s l).1.1 ∧ ∀ m ∈ (Bj c s l).2, DA m := by
 obtain ⟨q1, q2, q3⟩ := l5 (l := l) h
 have q := lU c l h
 have e1 : ¬ (Al s l).1.2 = ⟨#[]⟩ → ¬ ((Al s l).1.1.state = 3 ∨ (Al s l).1.1.state = 4) := fun n => by have := q2.resolve_left n; omega
 unfold Bj
 split
 ·exact ⟨h, fun _ z => by cases z⟩
 ·split
  ·rename_i h4
   split
   ·exact ⟨q1, fun _ z => by cases z⟩
   ·rename_i hn
    split
    ·rename_i ht
     refine ⟨L0 (e1 hn), fun m hm => ?_⟩
     rw [List.mem_singleton] at hm; subst hm
     obtain ⟨b1, b2⟩ := q3 ht
     exact ⟨q1.1, q1.2.1, q1.2.2.1, ⟨by rw [b2]; exact h.2.2.2.2 (.inr h4), q1.2.2.2.1⟩, b1⟩
    ·exact ⟨L0 (e1 hn), fun _ z => by cases z⟩
  ·exact ⟨q, fun _ z => by cases z⟩
def iM (x : Fz) : Prop := QQ x.1 ∧ ∀ m ∈ x.2.2, DA m
theorem tT {c : Cf} {x : Fz} {l : ByteArray} (h : iM x) : iM (ce c x l) := by
 obtain ⟨q1, q2⟩ := oT (l := l) c h.1
 exact ⟨q1, fun m hm => (List.mem_append.1 hm).elim (h.2 m) (q2 m)⟩
theorem f0 {x : Fz} (h : iM x) : iM (Zq x) := ⟨L0 (by show ¬ ((5 : Int) = 3 ∨ (5 : Int) = 4); decide), h.2⟩
theorem fz {c : Cf} : ∀ (L : List ByteArray) {x : Fz}, iM x → iM (NQ c L x).1
 | [], x, h => h
 | l :: r, x, h => by
   rw [NQ]
   split
   ·exact h
   ·split
    ·exact f0 h
    ·exact fz r (tT h)
theorem cg {c : Cf} {s : Ss} {t : ByteArray} (h : QQ s) : iM (Bo c s t) := by
 have q := fz (c := c) (OG (s.buf ++ t)) (x := (⟨s.state, s.mail, s.bad, ⟨#[]⟩⟩, [], [])) ⟨h, fun _ z => by cases z⟩
 unfold Bo Xg
 split
 ·exact q
 ·split
  ·exact q
  ·split
   ·exact f0 q
   ·exact q
def w3 (x : Oc) : Prop := QQ x.2.1 ∧ ∀ m ∈ x.2.2.1, DA m
theorem v0 {h : Cf} {x : Oc} (q : w3 x) : w3 (Zt h x) := by
 have f := cg (c := h) (t := ZZ (Mc x)) q.1
 exact ⟨f.1, fun m hm => (List.mem_append.1 hm).elim (q.2 m) (f.2 m)⟩
theorem gj (h : Cf) (cut : Int) : ∀ (k n : Nat) (x : Oc), w3 x → ∀ m ∈ (La h cut k n x).2, DA m
 | 0, n, x, q => q.2
 | k + 1, n, x, q => by
   rw [La]
   split
   ·split
    ·exact q.2
    ·split
     ·exact q.2
     ·exact gj h cut k (n + 1) _ (v0 q)
   ·exact q.2
theorem Jm (h : Cf) (nm : ByteArray) (m : Ml) (cut : Int) : ∀ y ∈ (Ek h nm m cut).2, DA y :=
 gj h cut cut.toNat 0 (VF h nm m) ⟨⟨fun _ z => (by cases z), List.nodup_nil, .inr ⟨rfl, rfl⟩, Nat.zero_le _, fun z => absurd (show (0 : Int) = 3 ∨ (0 : Int) = 4 from z) (by decide)⟩, fun _ z => by cases z⟩
theorem VE {h : Cf} {nm : ByteArray} {m : Ml} {cut : Int} (hn : nm.size ≤ 1000) (hm : OE m) : ∀ y ∈ (Ek h nm m cut).2, ej y :=
 (LP h cut cut.toNat 0 (VF h nm m) (LO h hn hm)).2.2
theorem TQ (c : Cl) : (Db c).1.mail = c.mail := by unfold Db; (repeat' split) <;> rfl
theorem cc (c : Cl) (k : Int) : (DN c k).1.mail = c.mail := by unfold DN; (repeat' split) <;> rfl
theorem eY (c : Cl) (k : Int) : (FQ c k).1.mail = c.mail := by
 unfold FQ
 repeat' split
 all_goals exact TQ _
theorem Tc (c : Cl) (a : ByteArray) : (Az c a).1.mail = c.mail := by
 unfold Az
 repeat' split
 all_goals first | rfl | exact eY _ _ | exact cc _ _ | exact TQ _
theorem Zb (h : Cf) (cut : Int) : ∀ (k n : Nat) (x : Oc), (La h cut k n x).1.mail = x.1.mail
 | 0, n, x => rfl
 | k + 1, n, x => by
   rw [La]
   split
   ·split
    ·rfl
    ·split
     ·exact Tc _ _
     ·rw [Zb h cut k (n + 1) (Zt h x)]; exact Tc _ _
   ·rfl
theorem LN {h : Cf} {nm : ByteArray} {m : Ml} {cut : Int} (hn : nm.size ≤ 1000) (hm : OE m) : (Ek h nm m cut).1.length = m.to.length := by
 have q := (LP h cut cut.toNat 0 (VF h nm m) (LO h hn hm)).1.1
 rw [Zb] at q
 show (List.map _ _).length = _
 rw [lm]
 exact q
theorem bK {a : Ad} (h : BL a ∨ AN a) : a.user.size ≤ 1000 ∧ a.domain.size ≤ 1000 := by
 rcases h with h | h
 ·have h1 := (JU h.1).2
  have h2 := (Ci h.2).2
  exact ⟨by omega, by omega⟩
 ·obtain ⟨u, d⟩ := a
  obtain ⟨h1, h2⟩ := h
  dsimp only at h1 h2
  subst h1; subst h2
  exact ⟨Nat.zero_le _, Nat.zero_le _⟩
theorem iS {m : Ml} (h : DA m) : OE m := ⟨by have := h.2.2.2.1.2; omega, by have := h.2.2.2.2.2; omega, bK h.2.2.1, fun a ha => bK (.inl (h.1 a ha)), fun l hl => by have := (h.2.2.2.2.1 l hl).2; omega⟩
theorem Vg {m : Ml} {s : ByteArray} (h : DA m) (hs : s.size ≤ 1000) : OE ⟨m.frm, m.to, s :: m.body⟩ := by
 have q := iS h
 refine ⟨q.1, ?_, q.2.2.1, q.2.2.2.1, fun l hl => ?_⟩
 ·have := h.2.2.2.2.2
  show (s :: m.body).length ≤ 100
  rw [List.length_cons]; omega
 ·rcases List.mem_cons.1 hl with rfl | hl
  ·exact hs
  ·exact q.2.2.2.2 l hl
theorem nl {c : Cf} {x : Im} {to : ByteArray} {w : Int} (h : Dk x) : OE (Po c x to w) := by
 have hl := Eg c to w x.to
 refine ⟨?_, by have := h.2.2.2.2.2.2; show x.body.length ≤ 100; omega, bK h.2.2.2.1, fun a ha => ?_, fun l hl => by have := (h.2.2.2.2.2.1 l hl).2; omega⟩
 ·have := h.2.2.2.2.1.2
  show (A2 c to w x.to).length ≤ 1000
  omega
 ·obtain ⟨r, hr, e, _⟩ := Eh c to w x.to a ha
  rw [← e]
  exact bK (.inl (h.1 r hr).1)
theorem BG {N M : Nat} {w : Wd} (q : Gh N w) (l : N ≤ M) : Gh M w := ⟨fun h hh => ⟨(q.1 h hh).1, B5 (q.1 h hh).2 l⟩, q.2.1, q.2.2.1, q.2.2.2.1, Nat.le_trans q.2.2.2.2.1 l, q.2.2.2.2.2⟩
theorem Nw {N : Nat} {w : Wd} {k : Int} {h : Hs} (q : Gh N w) (hk : FS h) (hn : FD N h) : Gh N (Hi w k h) := by
 have e : (w.hosts.set k.toNat h).length = w.hosts.length := List.length_set
 refine ⟨fun x hx => ?_, ⟨by show 1 ≤ (w.hosts.set k.toNat h).length; rw [e]; exact q.2.1.1, by show (w.hosts.set k.toNat h).length ≤ 4; rw [e]; exact q.2.1.2⟩, q.2.2.1, q.2.2.2.1, q.2.2.2.2⟩
 rcases List.mem_or_eq_of_mem_set hx with hx | rfl
 ·exact q.1 x hx
 ·exact ⟨hk, hn⟩
theorem Xt {w : Wd} {c : Cf} {ls : Bool} {n : Int} (hw : 0 ≤ w.now ∧ w.now ≤ 9999) : ∀ (rs : List Rc) {x : Hs × Bool} {N : Nat}, FS x.1 → FD N x.1 → (rs.map Rc.addr).Nodup → (∀ r ∈ rs, Ck x.1.spool n r.addr) → FS (QD w c ls n rs x).1 ∧ FD (N + rs.length) (QD w c ls n rs x).1
 | [], x, N, q, hn, _, _ => ⟨q, hn⟩
 | r :: t, x, N, q, hn, hd, ht => by
   rw [List.map_cons, List.nodup_cons] at hd
   have ht0 := ht r (List.mem_cons_self ..)
   have e : N + (r :: t).length = N + 1 + t.length := by rw [List.length_cons]; omega
   rw [QD, e]
   split
   ·have z := Jj (out := 3) q hn ht0 hw
    exact Xt hw t z.1 z.2 hd.2 fun y hy => (Hg q.2.2.2 ht0 hw).2 _ _ (ht y (List.mem_cons_of_mem _ hy)) fun z => hd.1 (by rw [z.2]; exact List.mem_map_of_mem hy)
   ·exact Xt hw t q (B5 hn (Nat.le_succ _)) hd.2 fun y hy => ht y (List.mem_cons_of_mem _ hy)
theorem mj {N : Nat} {w : Wd} {e : Ev} (q : Gh N w) : Gh (N + 4) (JD w e).1 := by
 unfold JD
 split
 ·rename_i h0
  split
  ·exact BG q (Nat.le_add_right _ _)
  ·rename_i h1
   have hl := q.2.1
   have hH := q.1 _ (AB (xs := w.hosts) (j := e.host.toNat) (by omega))
   have hil : (A7 (Ag w e.host).spool e.id).toNat < (Ag w e.host).spool.items.length := by have := CU h1; omega
   have hx := (hH.1.2.2.2.1 _ (AB (xs := (Ag w e.host).spool.items) (j := (A7 (Ag w e.host).spool e.id).toNat) hil)).1
   have z := Xt (w := w) (c := (Ag w e.host).conf) (ls := e.lose) (n := e.id) q.2.2.1 (Jf (Ag w e.host) e.id).to (x := (Ag w e.host, false)) hH.1 hH.2 hx.2.1 fun r hr => by
    have y := (F4 hH.1.2.2.2 (x := Jf (Ag w e.host) e.id) (AB hil) hr).1
    have e2 : (Jf (Ag w e.host) e.id).id = e.id := GB h1
    rw [e2] at y
    exact y
   exact Nw (BG q (Nat.le_add_right _ _)) z.1 (B5 z.2 (by have := hx.2.2.2.2.1.2; show N + (Jf (Ag w e.host) e.id).to.length ≤ N + 4; have h4 : (Jf (Ag w e.host) e.id).to.length ≤ 4 := this; omega))
 ·exact BG q (Nat.le_add_right _ _)
def ac (e : Ev) : Prop := Lh e.mail ∧ 0 ≤ e.cut ∧ e.cut ≤ 1000
def Ks (mk : ByteArray) (ds : List Ad) : List Ls := ds.map fun a => ⟨mk, a⟩
noncomputable def VN (w : Wd) (k : Int) (mk : ByteArray) (y : Ml) : Wd := ⟨w.hosts.set k.toNat (JI (Ag w k) y w.now), w.now, w.marks, w.given ++ Ks mk y.to⟩
open Classical in
noncomputable def QE (k : Int) (mk : ByteArray) : List Ml → Wd → Wd
 | [], w => w
 | y :: t, w => if y.body.length < 12 ∧ CD (Ag w k).spool then QE k mk t (VN w k mk y) else QE k mk t w
theorem vo {k : Int} {mk : ByteArray} {ys : List Ml} {i : Nat} {w : Wd} (h : i < ys.length) (q : (ys.getD i default).body.length < 12 ∧ CD (Ag w k).spool) : QE k mk (ys.drop i) w = QE k mk (ys.drop (i + 1)) (VN w k mk (ys.getD i default)) := by rw [Aa h, QE, if_pos q]
theorem vn {k : Int} {mk : ByteArray} {ys : List Ml} {i : Nat} {w : Wd} (h : i < ys.length) (q : ¬ ((ys.getD i default).body.length < 12 ∧ CD (Ag w k).spool)) : QE k mk (ys.drop i) w = QE k mk (ys.drop (i + 1)) w := by rw [Aa h, QE, if_neg q]
theorem vl {k : Int} {mk : ByteArray} {ys : List Ml} {i : Nat} {w : Wd} (h : ys.length ≤ i) : QE k mk (ys.drop i) w = w := by rw [List.drop_of_length_le h]; rfl
def gC (n : Int) : ByteArray := ⟨#[73, 100, 58, 32]⟩ ++ NJ n
theorem gE (n : Int) : (gC n).size ≤ 6 := by
 unfold gC
 rw [ByteArray.size_append]
 have := (IM n).2
 show 4 + _ ≤ 6
 omega
def OI (w : Wd) (e : Ev) : Ml := ⟨e.mail.frm, e.mail.to, gC (w.marks + 1) :: e.mail.body⟩
def rv (w : Wd) (e : Ev) : Prop := (0 ≤ e.host ∧ e.host ≤ (w.hosts.length : Int) - 1) ∧ DA e.mail ∧ ¬ w.marks ≥ 60 ∧ ¬ (e.mail.body.length : Int) ≥ 10 ∧ A6 e.mail.body = ⟨#[]⟩ ∧ CD (Ag w e.host).spool
noncomputable abbrev I6 (w : Wd) (e : Ev) : List Ml := (Ek (Ag w e.host).conf ⟨#[99, 108, 105, 101, 110, 116]⟩ (OI w e) e.cut).2
noncomputable def vq (w : Wd) (e : Ev) : Wd := QE e.host (A6 (OI w e).body) (I6 w e) ⟨w.hosts, w.now, w.marks + 1, w.given⟩
open Classical in
noncomputable def VA (w : Wd) (e : Ev) : Wd × Bool := if rv w e then (vq w e, true) else (w, false)
theorem ZN {w : Wd} {e : Ev} (q : rv w e) : VA w e = (vq w e, true) := if_pos q
theorem I5 {w : Wd} {e : Ev} (q : ¬ rv w e) : VA w e = (w, false) := if_neg q
def ao (N : Nat) (k : Int) (w : Wd) : Prop := ((∀ h ∈ w.hosts, FS h ∧ FD N h) ∧ (1 ≤ w.hosts.length ∧ w.hosts.length ≤ 4) ∧ (0 ≤ w.now ∧ w.now ≤ 9999) ∧ (0 ≤ w.marks ∧ w.marks ≤ 60)) ∧ (0 ≤ k ∧ k ≤ (w.hosts.length : Int) - 1) ∧ w.given.length ≤ N + 4 * (Ag w k).spool.items.length ∧ ∀ l ∈ w.given, Tp l
theorem Lz {N : Nat} {k : Int} {w : Wd} (q : ao N k w) : FS (Ag w k) ∧ FD N (Ag w k) := q.1.1 _ (AB (xs := w.hosts) (j := k.toNat) (by have := q.2.1; omega))
theorem ew {N : Nat} {k : Int} {w : Wd} (q : ao N k w) : w.given.length ≤ N + 40 := by
 have h := (Lz q).1.2.2.2.2.2.2
 have := q.2.2.1
 omega
theorem sI {N : Nat} {k : Int} {w : Wd} (q : ao N k w) : Gh (N + 40) w := ⟨fun h hh => ⟨(q.1.1 h hh).1, B5 (q.1.1 h hh).2 (Nat.le_add_right _ _)⟩, q.1.2.1, q.1.2.2.1, q.1.2.2.2, ew q, q.2.2.2⟩
theorem dI {mk : ByteArray} (hm : Bg mk) {ds : List Ad} (ha : ∀ a ∈ ds, BL a) : ∀ l ∈ Ks mk ds, Tp l := fun l hl => by
 obtain ⟨a, h, rfl⟩ := List.mem_map.1 hl
 exact ⟨hm, CT (.inl (ha a h))⟩
theorem oU {w : Wd} {k : Int} {mk : ByteArray} {y : Ml} (h : 0 ≤ k ∧ k ≤ (w.hosts.length : Int) - 1) : Ag (VN w k mk y) k = JI (Ag w k) y w.now := by
 have e : k.toNat < w.hosts.length := by omega
 show (w.hosts.set k.toNat _).getD k.toNat default = _
 simp [e]
theorem gk {N : Nat} {k : Int} {w : Wd} {mk : ByteArray} {y : Ml} (q : ao N k w) (hm : Bg mk) (hy : DA y) (hl : y.body.length < 12) (hr : CD (Ag w k).spool) : ao N k (VN w k mk y) := by
 have z := Zc (Lz q).1 (Lz q).2 hy hl q.1.2.2.1 hr
 have e : (w.hosts.set k.toNat (JI (Ag w k) y w.now)).length = w.hosts.length := List.length_set
 refine ⟨⟨fun x hx => ?_, ?_, q.1.2.2.1, q.1.2.2.2⟩, ?_, ?_, fun l hl => ?_⟩
 ·rcases List.mem_or_eq_of_mem_set hx with hx | rfl
  ·exact q.1.1 x hx
  ·exact z
 ·show 1 ≤ (w.hosts.set k.toNat _).length ∧ (w.hosts.set k.toNat _).length ≤ 4
  rw [e]; exact q.1.2.1
 ·show 0 ≤ k ∧ k ≤ ((w.hosts.set k.toNat _).length : Int) - 1
  rw [e]; exact q.2.1
 ·rw [oU q.2.1]
  show (w.given ++ Ks mk y.to).length ≤ N + 4 * ((Ag w k).spool.items ++ [_]).length
  have h1 := q.2.2.1
  have h2 := hy.2.2.2.1.2
  have h3 : (Ks mk y.to).length = y.to.length := lm _
  rw [List.length_append, List.length_append, h3]
  show _ ≤ N + 4 * (_ + 1)
  omega
 ·rcases List.mem_append.1 hl with hl | hl
  ·exact q.2.2.2 l hl
  ·exact dI hm hy.1 l hl
theorem ZL {N : Nat} {k : Int} {mk : ByteArray} (hm : Bg mk) : ∀ (ys : List Ml) {w : Wd}, ao N k w → (∀ y ∈ ys, DA y) → ao N k (QE k mk ys w)
 | [], w, q, _ => q
 | y :: t, w, q, h => by
   rw [QE]
   split
   ·rename_i hc
    exact ZL hm t (gk q hm (h y (List.mem_cons_self ..)) hc.1 hc.2) fun x hx => h x (List.mem_cons_of_mem _ hx)
   ·exact ZL hm t q fun x hx => h x (List.mem_cons_of_mem _ hx)
theorem ga {w : Wd} {e : Ev} (h : DA e.mail) : Bg (A6 (OI w e).body) := by
 rcases Fp (OI w e).body with z | z
 ·rw [z]; show (0 : Nat) ≤ 1048576; decide
 ·rcases List.mem_cons.1 z with z | z
  ·rw [z]; have := gE (w.marks + 1); show (gC (w.marks + 1)).size ≤ 1048576; omega
  ·exact (HC h.2.2.2.2).2 _ z
theorem vt {N : Nat} {w : Wd} {e : Ev} (q : Gh N w) (h : rv w e) : ao N e.host ⟨w.hosts, w.now, w.marks + 1, w.given⟩ := by
 obtain ⟨q1, q2, q3, q4, q5, q6⟩ := q
 have h1 := h.1
 have h2 := h.2.2.1
 exact ⟨⟨q1, q2, q3, by dsimp only; omega⟩, h1, Nat.le_trans q5 (Nat.le_add_right _ _), q6⟩
theorem vr {N : Nat} {w : Wd} {e : Ev} (q : Gh N w) : Gh (N + 40) (VA w e).1 := by
 by_cases h : rv w e
 ·rw [ZN h]
  exact sI (ZL (ga h.2.1) _ (vt q h) (Jm _ _ _ _))
 ·rw [I5 h]; exact BG q (Nat.le_add_right _ _)
noncomputable def ea (now : Int) : List Ml → Hs → Hs
 | [], t => t
 | y :: r, t => ea now r (I9 t y now).1
theorem gu {now : Int} {ys : List Ml} {i : Nat} {t : Hs} (h : i < ys.length) : ea now (ys.drop i) t = ea now (ys.drop (i + 1)) (I9 t (ys.getD i default) now).1 := by rw [Aa h]; rfl
theorem wK {now : Int} {ys : List Ml} {i : Nat} {t : Hs} (h : ys.length ≤ i) : ea now (ys.drop i) t = t := by rw [List.drop_of_length_le h]; rfl
noncomputable def Zw (n now : Int) : List Ad → List Int → Hs → Hs
 | a :: r, o :: s, x => Zw n now r s (Hf x n a o now)
 | [], _, x => x
 | _ :: _, [], x => x
theorem wM {n now : Int} {ds : List Ad} {os : List Int} {i : Nat} {x : Hs} (h1 : i < ds.length) (h2 : i < os.length) : Zw n now (ds.drop i) (os.drop i) x = Zw n now (ds.drop (i + 1)) (os.drop (i + 1)) (Hf x n (ds.getD i default) (os.getD i default) now) := by rw [Aa h1, Aa h2]; rfl
theorem wL {n now : Int} {ds : List Ad} {os : List Int} {i : Nat} {x : Hs} (h : os.length ≤ i) : Zw n now (ds.drop i) (os.drop i) x = x := by
 rw [List.drop_of_length_le (l := os) h]
 cases ds.drop i <;> rfl
theorem Ve {h : Hs} {m : Ml} {w : Int} {N : Nat} (q : FS h) (n : FD N h) (hm : DA m) (hw : 0 ≤ w ∧ w ≤ 9999) : FS (I9 h m w).1 ∧ FD N (I9 h m w).1 ∧ (I9 h m w).1.conf = h.conf := by
 by_cases z : m.body.length < 12 ∧ CD h.spool
 ·rw [Jt z]
  have y := Zc q n hm z.1 hw z.2
  exact ⟨y.1, y.2, rfl⟩
 ·rw [Js z]; exact ⟨q, n, rfl⟩
theorem gq {w : Int} {N : Nat} (hw : 0 ≤ w ∧ w ≤ 9999) : ∀ (ys : List Ml) {h : Hs}, FS h → FD N h → (∀ y ∈ ys, DA y) → FS (ea w ys h) ∧ FD N (ea w ys h)
 | [], h, q, n, _ => ⟨q, n⟩
 | y :: t, h, q, n, hy => by
   have z := Ve q n (hy y (List.mem_cons_self ..)) hw
   exact gq hw t z.1 z.2.1 fun x hx => hy x (List.mem_cons_of_mem _ hx)
theorem Yt {h : Hs} {n : Int} {a : Ad} {out w : Int} {N : Nat} (q : FS h) (hn : FD N h) (t : Ck h.spool n a) (hw : 0 ≤ w ∧ w ≤ 9999) : FS (Hf h n a out w) ∧ FD (N + 1) (Hf h n a out w) ∧ (Hf h n a out w).conf = h.conf ∧ ∀ a', Ck h.spool n a' → ¬ a = a' → Ck (Hf h n a out w).spool n a' :=
 ⟨(Jj q hn t hw).1, (Jj q hn t hw).2, (Dv _ _ _ _ _ _).1, fun a' y z => (Hg q.2.2.2 t hw).2 _ _ y fun u => z u.2⟩
theorem gz {n w : Int} (hw : 0 ≤ w ∧ w ≤ 9999) : ∀ (ds : List Ad) (os : List Int) {h : Hs} {N : Nat}, FS h → FD N h → ds.Nodup → (∀ a ∈ ds, Ck h.spool n a) → FS (Zw n w ds os h) ∧ FD (N + ds.length) (Zw n w ds os h)
 | [], os, h, N, q, hn, _, _ => by cases os <;> exact ⟨q, hn⟩
 | a :: r, [], h, N, q, hn, _, _ => ⟨q, B5 hn (Nat.le_add_right _ _)⟩
 | a :: r, o :: s, h, N, q, hn, hd, ht => by
   rw [List.nodup_cons] at hd
   obtain ⟨z1, z2, _, z4⟩ := Yt (out := o) q hn (ht a (List.mem_cons_self ..)) hw
   have e : N + (a :: r).length = N + 1 + r.length := by rw [List.length_cons]; omega
   rw [e]
   exact gz hw r s z1 z2 hd.2 fun b hb => z4 b (ht b (List.mem_cons_of_mem _ hb)) fun u => hd.1 (by rw [u]; exact hb)
theorem IZ (c : Cf) (to : ByteArray) (w : Int) : ∀ rs : List Rc, List.Sublist (A2 c to w rs) (rs.map Rc.addr)
 | [] => .slnil
 | r :: t => by
   rw [A2]
   cases BA (JA c to w r)
   ·exact .cons _ (IZ c to w t)
   ·exact .cons_cons _ (IZ c to w t)
noncomputable def JJ (w : Wd) (e : Ev) : Ml := Po (Ag w e.host).conf (Jf (Ag w e.host) e.id) (Ag w e.to).conf.name w.now
noncomputable def H2 (w : Wd) (e : Ev) : List Int × List Ml := GT (Ag w e.to) (Ag w e.host).conf.name (JJ w e) e.cut
noncomputable def Zv (w : Wd) (e : Ev) : Hs := ea w.now (H2 w e).2 (Ag w e.to)
noncomputable def Zu (w : Wd) (e : Ev) : Hs := bif e.lose then Ag w e.host else Zw e.id w.now (JJ w e).to (H2 w e).1 (Ag w e.host)
def oh (w : Wd) (e : Ev) : Prop := (0 ≤ e.host ∧ e.host ≤ (w.hosts.length : Int) - 1) ∧ (0 ≤ e.to ∧ e.to ≤ (w.hosts.length : Int) - 1) ∧ ¬ e.host = e.to ∧ ¬ A7 (Ag w e.host).spool e.id < 0 ∧ ¬ ((JJ w e).to.length : Int) = 0
noncomputable def wr (w : Wd) (e : Ev) : Wd := Hi (Hi w e.to (Zv w e)) e.host (Zu w e)
open Classical in
noncomputable def Zg (w : Wd) (e : Ev) : Wd × Bool := if oh w e then (wr w e, true) else (w, false)
theorem Zh {w : Wd} {e : Ev} (q : oh w e) : Zg w e = (wr w e, true) := if_pos q
theorem LS {w : Wd} {e : Ev} (q : ¬ oh w e) : Zg w e = (w, false) := if_neg q
theorem Zd (h : Hs) (nm : ByteArray) (m : Ml) (cut : Int) : ∀ y ∈ (GT h nm m cut).2, DA y := by
 unfold GT
 split
 ·exact Jm _ _ _ _
 ·exact Jm _ _ _ _
theorem VG {h : Hs} {nm : ByteArray} {m : Ml} {cut : Int} (hn : nm.size ≤ 1000) (hm : OE m) : (GT h nm m cut).1.length = m.to.length := by
 unfold GT
 split
 ·exact LN hn hm
 ·exact LN hn hm
theorem oX {h : Hs} {nm : ByteArray} {m : Ml} {cut : Int} (hn : nm.size ≤ 1000) (hm : OE m) (hc : cut ≤ 1000) : (GT h nm m cut).2.length ≤ 300000000 := by
 have key : ∀ c : Int, c ≤ 1000 → (Ek h.conf nm m c).2.length ≤ 300000000 := fun c q => by
  have z := (LP h.conf c c.toNat 0 (VF h.conf nm m) (LO h.conf hn hm)).2.1
  show (La h.conf c c.toNat 0 (VF h.conf nm m)).2.length ≤ _
  omega
 unfold GT
 split
 ·exact key _ hc
 ·exact key _ (by decide)
theorem wO {N : Nat} {w : Wd} {h : Hs} {n : Int} (q : FS h) (h1 : ¬ A7 h.spool n < 0) : (A7 h.spool n).toNat < h.spool.items.length ∧ Dk (Jf h n) ∧ ∀ r ∈ (Jf h n).to, Ck h.spool n r.addr := by
 have hil : (A7 h.spool n).toNat < h.spool.items.length := by have := CU h1; omega
 refine ⟨hil, (q.2.2.2.1 _ (AB (xs := h.spool.items) (j := (A7 h.spool n).toNat) hil)).1, fun r hr => ?_⟩
 have y := (F4 q.2.2.2 (x := Jf h n) (AB hil) hr).1
 have e2 : (Jf h n).id = n := GB h1
 rw [e2] at y
 exact y
theorem hY {N : Nat} {w : Wd} {e : Ev} (q : Gh N w) (h : oh w e) : FS (Ag w e.host) ∧ FD N (Ag w e.host) ∧ FS (Ag w e.to) ∧ FD N (Ag w e.to) ∧ Dk (Jf (Ag w e.host) e.id) ∧ (JJ w e).to.Nodup ∧ (JJ w e).to.length ≤ 4 ∧ ∀ a ∈ (JJ w e).to, Ck (Ag w e.host).spool e.id a := by
 obtain ⟨h1, h2, h3, h4, h5⟩ := h
 have hl := q.2.1
 have hH := q.1 _ (AB (xs := w.hosts) (j := e.host.toNat) (by omega))
 have hT := q.1 _ (AB (xs := w.hosts) (j := e.to.toNat) (by omega))
 obtain ⟨t1, t2, t3⟩ := wO (N := N) (w := w) hH.1 h4
 refine ⟨hH.1, hH.2, hT.1, hT.2, t2, (IZ _ _ _ _).nodup t2.2.1, Nat.le_trans (Eg _ _ _ _) t2.2.2.2.2.1.2, fun a ha => ?_⟩
 obtain ⟨r, hr, er, _⟩ := Eh _ _ _ _ a ha
 rw [← er]; exact t3 r hr
theorem wN {N : Nat} {w : Wd} {e : Ev} (q : Gh N w) : Gh (N + 4) (Zg w e).1 := by
 by_cases h : oh w e
 ·rw [Zh h]
  obtain ⟨a1, a2, b1, b2, hi, hd, hl, ht⟩ := hY q h
  have zb := gq q.2.2.1 (H2 w e).2 b1 b2 (Zd _ _ _ _)
  have za : FS (Zu w e) ∧ FD (N + 4) (Zu w e) := by
   unfold Zu
   cases e.lose
   ·have z := gz (n := e.id) q.2.2.1 (JJ w e).to (H2 w e).1 a1 a2 hd ht
    exact ⟨z.1, B5 z.2 (by omega)⟩
   ·exact ⟨a1, B5 a2 (by omega)⟩
  exact Nw (Nw (BG q (by omega)) zb.1 (B5 zb.2 (by omega))) za.1 za.2
 ·rw [LS h]; exact BG q (Nat.le_add_right _ _)
theorem nD {mk : ByteArray} {ds : List Ad} {j : Nat} (h : j < ds.length) : (Ks mk (ds.take (j + 1))).map Ae = (Ks mk (ds.take j)).map Ae ++ [[.v (.string mk), .v (.string (ds.getD j default).user), .v (.string (ds.getD j default).domain)]] := by
 unfold Ks
 rw [List.map_map, List.map_map, Mb _ h]
 rfl
theorem nC {mk : ByteArray} {ds : List Ad} : (Ks mk ds).length = ds.length := lm _
theorem u3 (n : Int) : (⟨#[73, 100, 58, 32]⟩ : ByteArray) ++ NJ n = gC n := rfl
theorem n7 (w : Wd) (e : Ev) : (⟨e.mail.frm, e.mail.to, gC (w.marks + 1) :: e.mail.body⟩ : Ml) = OI w e := rfl
def kH : Mt := H1 (lc rj (lc QH.ag l0)) (fun p => Gh 1000000 p.1 ∧ ac p.2.1) (fun p => ([.any, QH.ag.enc p.2.1], .tup [Hk (VA p.1 p.2.1).1, .t (.v (.bool (VA p.1 p.2.1).2))]))
section
attribute [local go_sem] Ln kQ Qr KO NA bg WT WU dr Jg Sk u3 n7 CN Fy Fx Hk.eq_1 G3.eq_1 Ai Bh LF lm AS.opn AS.cls AS.nilb AS.renb AS.up Bool.not_false Bool.not_true List.set_set List.set_cons_zero List.set_cons_succ List.set_nil List.mem_singleton forall_eq tn List.map_nil List.nil_append
set_option maxHeartbeats 6400000 in
theorem qo {G : Gt} (hG : Ac G) (hh : G.e 36 = AA 0 Ln ∧ G.e 221 = AA 0 kQ ∧ G.e 61 = AA 0 Qr ∧ G.e 147 = AA 0 KO ∧ G.e 222 = AA 0 NA ∧ G.e 223 = AA 0 bg ∧ G.e 224 = AA 1 WT ∧ G.e 225 = AA 1 WU) : Gd G 206 (AW kH) := by
 refine Ke (dp := fun n => !(Nat.beq n 100006 || Nat.beq n 100007 || Nat.beq n 100015)) (fn := Tryz.f206) (n := 2) rfl hG ?_
 rintro ⟨w, e, ⟨⟩⟩ hpre
 obtain ⟨hw, hE, hc0, hc1⟩ := hpre
 try dsimp only at hw hE hc0 hc1 ⊢
 have hl := hw.2.1
 have hmk0 := hw.2.2.2.1
 have hgl := hw.2.2.2.2.1
 have hml1 := hE.2.1.1
 have hml2 := hE.2.2.1
 refine BN (0 ≤ e.host ∧ e.host ≤ (w.hosts.length : Int) - 1) (fun h0 => have h0' := An h0; BN (DA e.mail) (fun h1 => have h1' := An h1; BN (w.marks ≥ 60) (fun h2 => have e_ : VA w e = _ := I5 (fun q => q.2.2.1 h2); have h3 := trivial; have h4 := trivial; have h5' := trivial; ?_) (fun h2 => BN ((e.mail.body.length : Int) ≥ 10) (fun h3 => have e_ : VA w e = _ := I5 (fun q => q.2.2.2.1 h3); have h4 := trivial; have h5' := trivial; ?_) (fun h3 => BN (A6 e.mail.body = ⟨#[]⟩) (fun h4 => BN (CD (Ag w e.host).spool) (fun h5 => have h5' := An h5; ?w1) (fun h5 => have h5' := AQ h5; have e_ : VA w e = _ := I5 (fun q => h5 q.2.2.2.2.2); ?_)) (fun h4 => have e_ : VA w e = _ := I5 (fun q => h4 q.2.2.2.2.1); have h5' := trivial; ?_)))) (fun h1 => have h1' := AQ h1; have e_ : VA w e = _ := I5 (fun q => h1 q.2.1); have h2 := trivial; have h3 := trivial; have h4 := trivial; have h5' := trivial; ?_)) (fun h0 => have h0' := AQ h0; have e_ : VA w e = _ := I5 (fun q => h0 q.1); have h1' := trivial; have h2 := trivial; have h3 := trivial; have h4 := trivial; have h5' := trivial; ?_)
 case w1 =>
  rw [ZN ⟨h0, h1, h2, h3, h4, h5⟩]
  have hS0 := vt hw ⟨h0, h1, h2, h3, h4, h5⟩
  have hK := hw.1 _ (AB (xs := w.hosts) (j := e.host.toNat) (by omega))
  have ML := (Ci hK.1.2.2.1.2.2.1).2
  have hmk := ga (w := w) h1
  have hds := IM (w.marks + 1)
  have e4 : (#[73, 100, 58, 32] : Array UInt8).size = 4 := rfl
  have hC : OE (OI w e) := Vg h1 (by have := gE (w.marks + 1); omega)
  have hb12 := h1.2.2.2.2.2
  have hv1 : ∀ y ∈ I6 w e, DA y := Jm _ _ _ _
  have hv2 : ∀ y ∈ I6 w e, ej y := VE (nm := ⟨#[99, 108, 105, 101, 110, 116]⟩) (by show (6 : Nat) ≤ 1000; decide) hC
  have hvn : (I6 w e).length ≤ 300000000 := by
   have z := (LP (Ag w e.host).conf e.cut e.cut.toNat 0 (VF (Ag w e.host).conf ⟨#[99, 108, 105, 101, 110, 116]⟩ (OI w e)) (LO (Ag w e.host).conf (nm := ⟨#[99, 108, 105, 101, 110, 116]⟩) (by show (6 : Nat) ≤ 1000; decide) hC)).2.1
   show (La (Ag w e.host).conf e.cut e.cut.toNat 0 (VF (Ag w e.host).conf ⟨#[99, 108, 105, 101, 110, 116]⟩ (OI w e))).2.length ≤ _
   omega
  simp -implicitDefEqProofs only [Tryz.f206, h0', h1', h2, h3, h4, h5', eq_self, decide_true, decide_false, go_sem, hh, seval]
  with_reducible repeat' (first | apply ai | intro _ | ((first | apply s1 | apply s2 | apply s3 | apply s4) <;> intro hb <;> simp -implicitDefEqProofs only [hb, go_sem, hh, seval] <;> try simp only [qz] at hb))
  all_goals (try simp only [maxLen, tn, AK, AM, lm, List.length_cons] at *)
  all_goals first | with_reducible rfl | omega | with_reducible assumption | (show _ = true; rfl) | contradiction | decide | exact hC | (show (_ : Nat) ≤ _; decide) | skip
  skip
  refine Am (Le.frzL [1064, 1072]) (Af ?_)
  simp -implicitDefEqProofs only [go_sem, hh, seval]
  with_reducible repeat' (first | apply ai | intro _ | ((first | apply s1 | apply s2 | apply s3 | apply s4) <;> intro hb <;> simp -implicitDefEqProofs only [hb, go_sem, hh, seval] <;> try simp only [qz] at hb))
  all_goals (try simp only [maxLen, tn, AK, AM, lm, List.length_cons] at *)
  all_goals first | with_reducible rfl | omega | with_reducible assumption | (show _ = true; rfl) | contradiction | decide | exact hC | (show (_ : Nat) ≤ _; decide) | skip
  refine Am (Le.renb 1002 3 2900 1901 rfl rfl rfl rfl) (Af ?_)
  simp -implicitDefEqProofs only [go_sem, hh, seval]
  with_reducible repeat' (first | apply ai | intro _ | ((first | apply s1 | apply s2 | apply s3 | apply s4) <;> intro hb <;> simp -implicitDefEqProofs only [hb, go_sem, hh, seval] <;> try simp only [qz] at hb))
  all_goals first | with_reducible rfl | omega | with_reducible assumption | (show _ = true; rfl) | contradiction | decide | skip
  refine AC [] (ι := {p : Nat × Wd // p.1 ≤ (I6 w e).length ∧ ao 1000000 e.host p.2 ∧ QE e.host (A6 (OI w e).body) ((I6 w e).drop p.1) p.2 = vq w e}) (fun p => ⟨[(2, .pb 1002 0), (3, .pb 1003 0), (4, .pb 1004 0), (6, .pb 1006 0), (8, .t (.sl 4 ((I6 w e).map DG))), (9, .t (.v (.int .i64 p.1.1)))], [(1002, some (.box [.h 1900, .t (.v (.int .i64 p.1.2.now)), .t (.v (.int .i64 p.1.2.marks)), .h 1901])), (1003, some (.box ((C2 e).map .t))), (1004, some (.box [.nil, .t (.v (.int .i64 0)), .t (.v (.int .i64 0)), .nil])), (1006, some (.box [.t (.v (.string e.mail.frm.user)), .t (.v (.string e.mail.frm.domain)), .t (.sl 2 (e.mail.to.map Ap)), .t (.sl 1 ((gC (w.marks + 1) :: e.mail.body).map AG))])), (1900, some (.arr false 7 (p.1.2.hosts.map AY))), (1901, some (.arr true 3 (p.1.2.given.map Ae)))]⟩) (fun p => (I6 w e).length - p.1.1) ⟨(0, ⟨w.hosts, w.now, w.marks + 1, w.given⟩), Nat.zero_le _, hS0, rfl⟩ rfl ?_ ?_
  ·simp -implicitDefEqProofs only [go_sem, hh, seval]
   first | (simp; done) | skip
  ·rintro ⟨⟨i, x⟩, hi, hx, hv⟩
   dsimp only at hi hx hv
   have hxK := (Lz hx).1
   have hxo := EI (Lz hx).1 (Lz hx).2 (by decide)
   have hxn := (Ci hxK.2.2.1.2.2.1).2
   have hxn6 : (Ag x e.host).conf.name.size ≤ 1000000 := by omega
   have hxw := hx.1.2.2.1
   have hxg := ew hx
   have hxl := hx.2.1
   by_cases hlt : (i : Int) < (I6 w e).length
   ·have hym := AB (xs := I6 w e) (j := i) (by omega)
    have hy := hv1 _ hym
    have hyo := (hv2 _ hym).1
    have hyl := hy.2.2.2.1.2
    by_cases q : ((I6 w e).getD i default).body.length < 12 ∧ CD (Ag x e.host).spool
    ·simp -implicitDefEqProofs only [hlt, Jt q, eq_self, decide_true, decide_false, go_sem, hh, seval]
     with_reducible repeat' (first | apply ai | intro _ | ((first | apply s1 | apply s2 | apply s3 | apply s4) <;> intro hb <;> simp -implicitDefEqProofs only [hb, go_sem, hh, seval] <;> try simp only [qz] at hb))
     all_goals (try simp only [maxLen, tn, AK, AM, lm] at *)
     all_goals first | with_reducible rfl | omega | with_reducible assumption | (show _ = true; rfl) | contradiction | decide | exact hxK.2.2.2 | skip
     refine AC [] (ι := {j : Nat // j ≤ ((I6 w e).getD i default).to.length}) (fun p => ⟨[(2, .pb 1002 0), (3, .pb 1003 0), (4, .pb 1004 0), (6, .pb 1006 0), (8, .t (.sl 4 ((I6 w e).map DG))), (9, .t (.v (.int .i64 i))), (12, .t (.v (.int .i64 p.1)))], [(1002, some (.box [.h 1900, .t (.v (.int .i64 (VN x e.host (A6 (OI w e).body) ((I6 w e).getD i default)).now)), .t (.v (.int .i64 (VN x e.host (A6 (OI w e).body) ((I6 w e).getD i default)).marks)), .h 1901])), (1003, some (.box ((C2 e).map .t))), (1004, some (.box [.nil, .t (.v (.int .i64 0)), .t (.v (.int .i64 0)), .nil])), (1006, some (.box [.t (.v (.string e.mail.frm.user)), .t (.v (.string e.mail.frm.domain)), .t (.sl 2 (e.mail.to.map Ap)), .t (.sl 1 ((gC (w.marks + 1) :: e.mail.body).map AG))])), (1900, some (.arr false 7 ((VN x e.host (A6 (OI w e).body) ((I6 w e).getD i default)).hosts.map AY))), (1901, some (.arr true 3 (x.given.map Ae ++ (Ks (A6 (OI w e).body) (((I6 w e).getD i default).to.take p.1)).map Ae)))]⟩) (fun p => ((I6 w e).getD i default).to.length - p.1) ⟨0, Nat.zero_le _⟩ rfl ?_ ?_
     ·simp -implicitDefEqProofs only [go_sem, hh, seval]
      first | (simp [Ks, VN]; done) | skip
     ·rintro ⟨j, hj⟩
      try dsimp only at hj
      have hlj : (Ks (A6 (OI w e).body) (((I6 w e).getD i default).to.take j)).length = j := by rw [nC, List.length_take]; omega
      by_cases hjt : (j : Int) < ((I6 w e).getD i default).to.length
      ·simp -implicitDefEqProofs only [hjt, hlj, List.length_append, lm, eq_self, decide_true, decide_false, go_sem, hh, seval]
       with_reducible repeat' (first | apply ai | intro _ | ((first | apply s1 | apply s2 | apply s3 | apply s4) <;> intro hb <;> simp -implicitDefEqProofs only [hb, go_sem, hh, seval] <;> try simp only [qz] at hb))
       all_goals (try simp only [maxLen, tn, AK, AM, lm] at *)
       all_goals first | with_reducible rfl | omega | with_reducible assumption | (show _ = true; rfl) | contradiction | decide | (rename_i hm; rcases List.mem_append.1 hm with hm | hm <;> (obtain ⟨_, _, rfl⟩ := List.mem_map.1 hm; rfl)) | skip
       skip
       refine Am (Le.renb 1002 3 1145 1901 rfl rfl rfl rfl) (Af ?_)
       simp -implicitDefEqProofs only [go_sem, hh, seval]
       with_reducible repeat' (first | apply ai | intro _ | ((first | apply s1 | apply s2 | apply s3 | apply s4) <;> intro hb <;> simp -implicitDefEqProofs only [hb, go_sem, hh, seval] <;> try simp only [qz] at hb))
       all_goals first | with_reducible rfl | omega | with_reducible assumption | (show _ = true; rfl) | contradiction | decide | skip
       refine ⟨⟨j + 1, by omega⟩, by dsimp only; omega, ?_⟩
       simp -implicitDefEqProofs only [go_sem, hh, seval]
       simp only [nD (show j < ((I6 w e).getD i default).to.length by omega), List.append_assoc]
       first | (simp [OI]; done) | skip
      ·have htk : ((I6 w e).getD i default).to.take j = ((I6 w e).getD i default).to := List.take_of_length_le (by omega)
       simp -implicitDefEqProofs only [hjt, htk, eq_self, decide_true, decide_false, go_sem, hh, seval]
       with_reducible repeat' (first | apply ai | intro _ | ((first | apply s1 | apply s2 | apply s3 | apply s4) <;> intro hb <;> simp -implicitDefEqProofs only [hb, go_sem, hh, seval] <;> try simp only [qz] at hb))
       all_goals (try simp only [maxLen, tn, AK, AM, lm] at *)
       all_goals first | with_reducible rfl | omega | with_reducible assumption | (show _ = true; rfl) | contradiction | decide | skip
       refine ⟨⟨(i + 1, VN x e.host (A6 (OI w e).body) ((I6 w e).getD i default)), by dsimp only; omega, gk hx hmk hy q.1 q.2, (vo (by omega) q).symm.trans hv⟩, by dsimp only; omega, ?_⟩
       simp -implicitDefEqProofs only [go_sem, hh, seval]
       first | (simp [VN]; done) | skip
    ·simp -implicitDefEqProofs only [hlt, Js q, eq_self, decide_true, decide_false, go_sem, hh, seval]
     with_reducible repeat' (first | apply ai | intro _ | ((first | apply s1 | apply s2 | apply s3 | apply s4) <;> intro hb <;> simp -implicitDefEqProofs only [hb, go_sem, hh, seval] <;> try simp only [qz] at hb))
     all_goals (try simp only [maxLen, tn, AK, AM, lm] at *)
     all_goals first | with_reducible rfl | omega | with_reducible assumption | (show _ = true; rfl) | contradiction | decide | exact hxK.2.2.2 | skip
     refine ⟨⟨(i + 1, x), by dsimp only; omega, hx, (vn (by omega) q).symm.trans hv⟩, by dsimp only; omega, ?_⟩
     simp -implicitDefEqProofs only [go_sem, hh, seval]
     first | (simp; done) | skip
   ·rw [vl (by omega)] at hv
    subst hv
    simp -implicitDefEqProofs only [hlt, eq_self, decide_true, decide_false, go_sem, hh, seval]
    with_reducible repeat' (first | apply ai | intro _ | ((first | apply s1 | apply s2 | apply s3 | apply s4) <;> intro hb <;> simp -implicitDefEqProofs only [hb, go_sem, hh, seval] <;> try simp only [qz] at hb))
    all_goals (try simp only [maxLen, tn, AK, AM] at *)
    all_goals first | with_reducible rfl | omega | with_reducible assumption | (show _ = true; rfl) | contradiction | decide | skip
 all_goals
  try rw [e_]
  simp -implicitDefEqProofs only [Tryz.f206, h0', h1', h2, h3, h4, h5', eq_self, decide_true, decide_false, Int.reduceEq, go_sem, hh, seval]
  with_reducible repeat' (first | apply ai | intro _ | ((first | apply s1 | apply s2 | apply s3 | apply s4) <;> intro hb <;> simp -implicitDefEqProofs only [hb, go_sem, hh, seval] <;> try simp only [qz] at hb))
  all_goals (try simp only [maxLen, tn, lm] at *)
  all_goals first | rfl | omega | decide | with_reducible assumption | (show AZ _ = true; rfl) | exact Ha (by assumption) | contradiction | (show _ = T.v _; rfl) | (show _ = List.map Ae _; rfl) | skip
end
theorem R4 (w : Wd) (e : Ev) : Po (w.hosts.getD e.host.toNat default).conf ((w.hosts.getD e.host.toNat default).spool.items.getD (BD (fun x : Im => x.id = e.id) 0 (w.hosts.getD e.host.toNat default).spool.items).toNat default) (w.hosts.getD e.to.toNat default).conf.name w.now = JJ w e := rfl
theorem hP (w : Wd) (e : Ev) : GT (Ag w e.to) (Ag w e.host).conf.name (JJ w e) e.cut = H2 w e := rfl
theorem vL {xs : List Ad} {i j : Nat} (h : xs.Nodup) (hi : i < j) (hj : j < xs.length) : ¬ xs.getD i default = xs.getD j default := by
 have z := List.pairwise_iff_getElem.1 h i j (by omega) hj hi
 simpa [hj, show i < xs.length by omega] using z
def kI : Mt := H1 (lc rj (lc QH.ag l0)) (fun p => Gh 1000000 p.1 ∧ ac p.2.1) (fun p => ([.any, QH.ag.enc p.2.1], .tup [Hk (Zg p.1 p.2.1).1, .t (.v (.bool (Zg p.1 p.2.1).2))]))
section
attribute [local go_sem] Ln k7 kR kT WU k8 R4 hP dr CN Fy Fx Hk.eq_1 G3.eq_1 Ai Bh LF lm List.length_set AS.opn AS.cls AS.nilb AS.renb AS.up Bool.not_false Bool.not_true List.set_set List.set_cons_zero List.set_cons_succ List.set_nil List.mem_singleton forall_eq tn List.map_nil List.nil_append
set_option maxHeartbeats 6400000 in
theorem qp {G : Gt} (hG : Ac G) (hh : G.e 36 = AA 0 Ln ∧ G.e 34 = AA 0 k7 ∧ G.e 226 = AA 0 kR ∧ G.e 227 = AA 1 kT ∧ G.e 225 = AA 1 WU ∧ G.e 37 = AA 1 k8) : Gd G 207 (AW kI) := by
 refine Ke (dp := fun n => !(Nat.beq n 100011)) (fn := Tryz.f207) (n := 2) rfl hG ?_
 rintro ⟨w, e, ⟨⟩⟩ hpre
 obtain ⟨hw, hE, hc0, hc1⟩ := hpre
 try dsimp only at hw hE hc0 hc1 ⊢
 have hl := hw.2.1
 refine BN (0 ≤ e.host ∧ e.host ≤ (w.hosts.length : Int) - 1) (fun h0 => have h0' := An h0; BN (0 ≤ e.to ∧ e.to ≤ (w.hosts.length : Int) - 1) (fun h1 => have h1' := An h1; BN (e.host = e.to) (fun h2 => have e_ : Zg w e = _ := LS (fun q => q.2.2.1 h2); have h3 := trivial; ?_) (fun h2 => BN (A7 (Ag w e.host).spool e.id < 0) (fun h3 => have e_ : Zg w e = _ := LS (fun q => q.2.2.2.1 h3); ?_) (fun h3 => BN (((JJ w e).to.length : Int) = 0) (fun h4 => ?w1) (fun h4 => ?w2)))) (fun h1 => have h1' := AQ h1; have e_ : Zg w e = _ := LS (fun q => h1 q.2.1); have h2 := trivial; have h3 := trivial; ?_)) (fun h0 => have h0' := AQ h0; have e_ : Zg w e = _ := LS (fun q => h0 q.1); have h1' := trivial; have h2 := trivial; have h3 := trivial; ?_)
 case w1 =>
  have hH := hw.1 _ (AB (xs := w.hosts) (j := e.host.toNat) (by omega))
  have i1 : 0 ≤ BD (fun x : Im => x.id = e.id) 0 (Ag w e.host).spool.items ∧ BD (fun x : Im => x.id = e.id) 0 (Ag w e.host).spool.items < (Ag w e.host).spool.items.length := by have := CU h3; unfold A7 at this h3; omega
  have oa := EI hH.1 hH.2 (by decide)
  rw [LS (fun q => q.2.2.2.2 h4)]
  simp -implicitDefEqProofs only [Tryz.f207, h0', h1', h2, h3, h4, eq_self, decide_true, decide_false, R4, go_sem, hh, seval]
  with_reducible repeat' (first | apply ai | intro _ | ((first | apply s1 | apply s2 | apply s3 | apply s4) <;> intro hb <;> simp -implicitDefEqProofs only [hb, go_sem, hh, seval] <;> try simp only [qz] at hb))
  all_goals (try simp only [maxLen, tn, AK, AM, lm] at *)
  all_goals first | rfl | omega | decide | with_reducible assumption | (show AZ _ = true; rfl) | exact Ha (by assumption) | contradiction | exact i1.2 | exact i1.1 | (show _ = T.v _; rfl) | (show _ = List.map Ae _; rfl) | skip
 case w2 =>
  have hq : oh w e := ⟨h0, h1, h2, h3, h4⟩
  rw [Zh hq]
  obtain ⟨a1, a2, b1, b2, hi, hd, hl4, ht⟩ := hY hw hq
  have i1 : 0 ≤ BD (fun x : Im => x.id = e.id) 0 (Ag w e.host).spool.items ∧ BD (fun x : Im => x.id = e.id) 0 (Ag w e.host).spool.items < (Ag w e.host).spool.items.length := by have := CU h3; unfold A7 at this h3; omega
  have hC : OE (JJ w e) := nl hi
  have oa := EI a1 a2 (by decide)
  have ob := EI b1 b2 (by decide)
  have na := (Ci a1.2.2.1.2.2.1).2
  have nb := (Ci b1.2.2.1.2.2.1).2
  have na6 : (Ag w e.host).conf.name.size ≤ 1000 := by omega
  have nb6 : (Ag w e.to).conf.name.size ≤ 1000 := by omega
  have hw2 := hw.2.2.1
  have hno : (H2 w e).1.length = (JJ w e).to.length := VG (by omega) hC
  have hv1 : ∀ y ∈ (H2 w e).2, DA y := Zd _ _ _ _
  have hvn : (H2 w e).2.length ≤ 300000000 := oX (by omega) hC (by omega)
  simp -implicitDefEqProofs only [Tryz.f207, h0', h1', h2, h3, h4, eq_self, decide_true, decide_false, R4, hP, go_sem, hh, seval]
  with_reducible repeat' (first | apply ai | intro _ | ((first | apply s1 | apply s2 | apply s3 | apply s4) <;> intro hb <;> simp -implicitDefEqProofs only [hb, go_sem, hh, seval] <;> try simp only [qz] at hb))
  all_goals (try simp only [maxLen, tn, AK, AM, lm, List.length_cons] at *)
  all_goals first | with_reducible rfl | omega | with_reducible assumption | (show _ = true; rfl) | contradiction | decide | exact hC | exact i1.2 | exact i1.1 | skip
  refine Am (Le.frzL [1069, 2069]) (Af ?_)
  simp -implicitDefEqProofs only [go_sem, hh, seval]
  with_reducible repeat' (first | apply ai | intro _ | ((first | apply s1 | apply s2 | apply s3 | apply s4) <;> intro hb <;> simp -implicitDefEqProofs only [hb, go_sem, hh, seval] <;> try simp only [qz] at hb))
  all_goals (try simp only [maxLen, tn, AK, AM, lm, List.length_cons] at *)
  all_goals first | with_reducible rfl | omega | with_reducible assumption | (show _ = true; rfl) | contradiction | decide | exact hC | exact i1.2 | exact i1.1 | skip
  refine AC [] (ι := {p : Nat × Hs // p.1 ≤ (H2 w e).2.length ∧ FS p.2 ∧ FD 1000000 p.2 ∧ p.2.conf = (Ag w e.to).conf ∧ ea w.now ((H2 w e).2.drop p.1) p.2 = Zv w e}) (fun p => ⟨[(2, .pb 1002 0), (3, .pb 1003 0), (4, .pb 1004 0), (6, .pb 1006 0), (7, .pb 1007 0), (9, .pb 1009 0), (10, .t (.sl 1 ((H2 w e).1.map A9))), (11, .t (.sl 4 ((H2 w e).2.map DG))), (12, .t (.v (.int .i64 p.1.1)))], [(1002, some (.box [.h 1900, .t (.v (.int .i64 w.now)), .t (.v (.int .i64 w.marks)), .h 2900])), (1003, some (.box ((C2 e).map .t))), (1004, some (.box [.nil, .t (.v (.int .i64 0)), .t (.v (.int .i64 0)), .nil])), (1006, some (.box ((AY (Ag w e.host)).map .t))), (1007, some (.box ((AY p.1.2).map .t))), (1009, some (.box [.t (.v (.string (JJ w e).frm.user)), .t (.v (.string (JJ w e).frm.domain)), .t (.sl 2 ((JJ w e).to.map Ap)), .t (.sl 1 ((JJ w e).body.map AG))])), (1900, some (.arr false 7 (w.hosts.map AY))), (2900, some (.arr true 3 (w.given.map Ae)))]⟩) (fun p => (H2 w e).2.length - p.1.1) ⟨(0, (Ag w e.to)), Nat.zero_le _, b1, b2, rfl, rfl⟩ rfl ?_ ?_
  ·simp -implicitDefEqProofs only [go_sem, hh, seval]
   first | (simp; done) | skip
  ·rintro ⟨⟨i, x⟩, hi1, hx1, hx2, hx3, hv⟩
   dsimp only at hi1 hx1 hx2 hx3 hv
   have xo := EI hx1 hx2 (by decide)
   have nx := (Ci hx1.2.2.1.2.2.1).2
   have nx6 : x.conf.name.size ≤ 1000000 := by omega
   by_cases hlt : (i : Int) < (H2 w e).2.length
   ·have hy := hv1 _ (AB (xs := (H2 w e).2) (j := i) (by omega))
    have hyo : Lh ((H2 w e).2.getD i default) := JV hy
    have zK := Ve hx1 hx2 hy hw2
    by_cases q : ((H2 w e).2.getD i default).body.length < 12 ∧ CD x.spool
    ·simp -implicitDefEqProofs only [hlt, Jt q, eq_self, decide_true, decide_false, go_sem, hh, seval]
     with_reducible repeat' (first | apply ai | intro _ | ((first | apply s1 | apply s2 | apply s3 | apply s4) <;> intro hb <;> simp -implicitDefEqProofs only [hb, go_sem, hh, seval] <;> try simp only [qz] at hb))
     all_goals (try simp only [maxLen, tn, AK, AM, lm] at *)
     all_goals first | with_reducible rfl | omega | with_reducible assumption | (show _ = true; rfl) | contradiction | decide | exact hx1.2.2.2 | skip
     refine ⟨⟨(i + 1, (I9 x ((H2 w e).2.getD i default) w.now).1), by dsimp only; omega, zK.1, zK.2.1, zK.2.2.trans hx3, (gu (by omega)).symm.trans hv⟩, by dsimp only; omega, ?_⟩
     simp -implicitDefEqProofs only [Jt q, go_sem, hh, seval]
     first | (simp; done) | skip
    ·simp -implicitDefEqProofs only [hlt, Js q, eq_self, decide_true, decide_false, go_sem, hh, seval]
     with_reducible repeat' (first | apply ai | intro _ | ((first | apply s1 | apply s2 | apply s3 | apply s4) <;> intro hb <;> simp -implicitDefEqProofs only [hb, go_sem, hh, seval] <;> try simp only [qz] at hb))
     all_goals (try simp only [maxLen, tn, AK, AM, lm] at *)
     all_goals first | with_reducible rfl | omega | with_reducible assumption | (show _ = true; rfl) | contradiction | decide | exact hx1.2.2.2 | skip
     refine ⟨⟨(i + 1, (I9 x ((H2 w e).2.getD i default) w.now).1), by dsimp only; omega, zK.1, zK.2.1, zK.2.2.trans hx3, (gu (by omega)).symm.trans hv⟩, by dsimp only; omega, ?_⟩
     simp -implicitDefEqProofs only [Js q, go_sem, hh, seval]
     first | (simp; done) | skip
   ·rw [wK (by omega)] at hv
    subst hv
    simp -implicitDefEqProofs only [hlt, eq_self, decide_true, decide_false, go_sem, hh, seval]
    with_reducible repeat' (first | apply ai | intro _ | ((first | apply s1 | apply s2 | apply s3 | apply s4) <;> intro hb <;> simp -implicitDefEqProofs only [hb, go_sem, hh, seval] <;> try simp only [qz] at hb))
    all_goals (try simp only [maxLen, tn, AK, AM, lm] at *)
    all_goals first | with_reducible rfl | omega | with_reducible assumption | (show _ = true; rfl) | contradiction | decide | skip
    refine AC [] (ι := {p : Nat × Hs // p.1 ≤ (H2 w e).1.length ∧ FS p.2 ∧ FD (1000000 + p.1) p.2 ∧ p.2.conf = (Ag w e.host).conf ∧ (∀ j, p.1 ≤ j → j < (JJ w e).to.length → Ck p.2.spool e.id ((JJ w e).to.getD j default)) ∧ (e.lose = true → p.2 = (Ag w e.host)) ∧ Zw e.id w.now ((JJ w e).to.drop p.1) ((H2 w e).1.drop p.1) p.2 = Zw e.id w.now (JJ w e).to (H2 w e).1 (Ag w e.host)}) (fun p => ⟨[(2, .pb 1002 0), (3, .pb 1003 0), (4, .pb 1004 0), (6, .pb 1006 0), (9, .pb 1009 0), (10, .t (.sl 1 ((H2 w e).1.map A9))), (15, .t (.v (.int .i64 p.1.1)))], [(1002, some (.box [.h 1900, .t (.v (.int .i64 w.now)), .t (.v (.int .i64 w.marks)), .h 2900])), (1003, some (.box ((C2 e).map .t))), (1004, some (.box [.nil, .t (.v (.int .i64 0)), .t (.v (.int .i64 0)), .nil])), (1006, some (.box ((AY p.1.2).map .t))), (1009, some (.box [.t (.v (.string (JJ w e).frm.user)), .t (.v (.string (JJ w e).frm.domain)), .t (.sl 2 ((JJ w e).to.map Ap)), .t (.sl 1 ((JJ w e).body.map AG))])), (1900, some (.arr false 7 ((w.hosts.set e.to.toNat (Zv w e)).map AY))), (2900, some (.arr true 3 (w.given.map Ae)))]⟩) (fun p => (H2 w e).1.length - p.1.1) ⟨(0, (Ag w e.host)), Nat.zero_le _, a1, a2, rfl, fun j _ hj => ht _ (AB hj), fun _ => rfl, rfl⟩ rfl ?_ ?_
    ·simp -implicitDefEqProofs only [go_sem, hh, seval]
     first | (simp; done) | skip
    ·rintro ⟨⟨k, y⟩, hk, y1, y2, y3, y4, y5, hv⟩
     dsimp only at hk y1 y2 y3 y4 y5 hv
     have yo := EI y1 y2 (by omega)
     have ysp := y1.2.2.2
     by_cases hex : k < (H2 w e).1.length ∧ e.lose = false
     ·obtain ⟨hk1, hk2⟩ := hex
      have hk3 : (k : Int) < (H2 w e).1.length := by omega
      have htd := y4 k (Nat.le_refl _) (by omega)
      have z := Yt (out := (H2 w e).1.getD k default) y1 y2 htd hw2
      simp -implicitDefEqProofs only [hk3, hk2, Bool.not_false, eq_self, decide_true, decide_false, go_sem, hh, seval]
      with_reducible repeat' (first | apply ai | intro _ | ((first | apply s1 | apply s2 | apply s3 | apply s4) <;> intro hb <;> simp -implicitDefEqProofs only [hb, go_sem, hh, seval] <;> try simp only [qz] at hb))
      all_goals (try simp only [maxLen, tn, AK, AM, lm] at *)
      all_goals first | with_reducible rfl | omega | with_reducible assumption | (show _ = true; rfl) | contradiction | decide | exact yo.2.1 | exact htd.1 | exact htd.2 | exact .inr ⟨yo, hw2⟩ | (rw [hk2]; done) | skip
      refine ⟨⟨(k + 1, Hf y e.id ((JJ w e).to.getD k default) ((H2 w e).1.getD k default) w.now), by dsimp only; omega, z.1, z.2.1, z.2.2.1.trans y3, fun j hj hj2 => z.2.2.2 _ (y4 j (by dsimp only at hj; omega) hj2) (fun u => vL hd (by dsimp only at hj; omega) hj2 u), fun u => (by rw [hk2] at u; cases u), (wM (by omega) hk1).symm.trans hv⟩, by dsimp only; omega, ?_⟩
      simp -implicitDefEqProofs only [go_sem, hh, seval]
      first | (simp only [Hf]; simp [hk2]; done) | (simp only [Hf, hk2]; simp; done) | skip
     ·have hA : Zu w e = y := by
        unfold Zu
        cases hlo : e.lose
        ·rw [wL (Nat.le_of_not_lt fun u => hex ⟨u, hlo⟩)] at hv
         exact hv.symm
        ·exact (y5 hlo).symm
      have hR : wr w e = ⟨(w.hosts.set e.to.toNat (Zv w e)).set e.host.toNat y, w.now, w.marks, w.given⟩ := by unfold wr; rw [hA]; rfl
      rw [hR]
      simp -implicitDefEqProofs only [List.length_set, eq_self, decide_true, decide_false, go_sem, hh, seval]
      with_reducible repeat' (first | apply ai | intro _ | ((first | apply s1 | apply s2 | apply s3 | apply s4) <;> intro hb <;> simp -implicitDefEqProofs only [hb, go_sem, hh, seval] <;> try simp only [qz] at hb))
      all_goals (try simp only [maxLen, tn, AK, AM, lm] at *)
      all_goals first | with_reducible rfl | omega | with_reducible assumption | (show _ = true; rfl) | contradiction | decide | exact absurd ⟨by omega, by assumption⟩ hex | skip
 all_goals
  try rw [e_]
  simp -implicitDefEqProofs only [Tryz.f207, h0', h1', h2, h3, eq_self, decide_true, decide_false, Int.reduceEq, go_sem, hh, seval]
  with_reducible repeat' (first | apply ai | intro _ | ((first | apply s1 | apply s2 | apply s3 | apply s4) <;> intro hb <;> simp -implicitDefEqProofs only [hb, go_sem, hh, seval] <;> try simp only [qz] at hb))
  all_goals (try simp only [maxLen, tn, lm] at *)
  all_goals first | rfl | omega | decide | with_reducible assumption | (show AZ _ = true; rfl) | exact Ha (by assumption) | contradiction | (show _ = T.v _; rfl) | (show _ = List.map Ae _; rfl) | skip
end
theorem KH {d k : Nat} {xs : List AV} {s : AS} : E3 d (.agg xs) .any k s = (s, k) := rfl
theorem IE {xs : List AV} : BY (.agg xs) .any = [] := rfl
noncomputable def zM (w : Wd) (k : Int) : Wd := Hi w k (Cs (Ag w k).conf w.now (Ag w k).spool.items (Ag w k))
def zO (w : Wd) (n : Int) : Wd := ⟨w.hosts, w.now + n, w.marks, w.given⟩
open Classical in
noncomputable def EA (w : Wd) (e : Ev) : Wd × Bool :=
 if e.kind = 1 then VA w e
 else if e.kind = 2 then Zg w e
 else if e.kind = 3 then JD w e
 else if e.kind = 4 then (if 0 ≤ e.host ∧ e.host ≤ (w.hosts.length : Int) - 1 then (zM w e.host, true) else (w, false))
 else if e.kind = 5 then (if (1 ≤ e.id ∧ e.id ≤ 40) ∧ ¬ w.now + e.id > 9999 then (zO w e.id, true) else (w, false))
 else (w, false)
section
variable {w : Wd} {e : Ev}
theorem s7 (h : e.kind = 1) : EA w e = VA w e := if_pos h
theorem s8 (h : e.kind = 2) : EA w e = Zg w e := by unfold EA; rw [if_neg (by omega), if_pos h]
theorem s9 (h : e.kind = 3) : EA w e = JD w e := by unfold EA; rw [if_neg (by omega), if_neg (by omega), if_pos h]
theorem tA (h : e.kind = 4) (q : 0 ≤ e.host ∧ e.host ≤ (w.hosts.length : Int) - 1) : EA w e = (zM w e.host, true) := by unfold EA; rw [if_neg (by omega), if_neg (by omega), if_neg (by omega), if_pos h, if_pos q]
theorem mK (h : e.kind = 4) (q : ¬ (0 ≤ e.host ∧ e.host ≤ (w.hosts.length : Int) - 1)) : EA w e = (w, false) := by unfold EA; rw [if_neg (by omega), if_neg (by omega), if_neg (by omega), if_pos h, if_neg q]
theorem tB (h : e.kind = 5) (q : (1 ≤ e.id ∧ e.id ≤ 40) ∧ ¬ w.now + e.id > 9999) : EA w e = (zO w e.id, true) := by unfold EA; rw [if_neg (by omega), if_neg (by omega), if_neg (by omega), if_neg (by omega), if_pos h, if_pos q]
theorem XB (h : e.kind = 5) (q : ¬ ((1 ≤ e.id ∧ e.id ≤ 40) ∧ ¬ w.now + e.id > 9999)) : EA w e = (w, false) := by unfold EA; rw [if_neg (by omega), if_neg (by omega), if_neg (by omega), if_neg (by omega), if_pos h, if_neg q]
theorem s6 (h : ¬ e.kind = 1 ∧ ¬ e.kind = 2 ∧ ¬ e.kind = 3 ∧ ¬ e.kind = 4 ∧ ¬ e.kind = 5) : EA w e = (w, false) := by unfold EA; rw [if_neg h.1, if_neg h.2.1, if_neg h.2.2.1, if_neg h.2.2.2.1, if_neg h.2.2.2.2]
end
theorem So {N : Nat} {w : Wd} {e : Ev} (q : Gh N w) (hN : N ≤ 1000000) : Gh (N + 40) (EA w e).1 := by
 have hl := q.2.1
 unfold EA
 split
 ·exact vr q
 ·split
  ·exact BG (wN q) (by omega)
  ·split
   ·exact BG (mj q) (by omega)
   ·split
    ·split
     ·rename_i h
      have hH := q.1 _ (AB (xs := w.hosts) (j := e.host.toNat) (by omega))
      have z := mn (w := w.now) hH.1 hH.2 (by omega)
      exact Nw (BG q (by omega)) z.1 z.2
     ·exact BG q (by omega)
    ·split
     ·split
      ·rename_i h
       refine BG (N := N) ⟨q.1, q.2.1, ?_, q.2.2.2⟩ (by omega)
       have := q.2.2.1
       show 0 ≤ w.now + e.id ∧ w.now + e.id ≤ 9999
       omega
      ·exact BG q (by omega)
     ·exact BG q (by omega)
def WO : Mt := H1 (lc rj (lc QH.ag l0)) (fun p => Gh 1000000 p.1 ∧ ac p.2.1) (fun p => ([.any, QH.ag.enc p.2.1], .tup [Hk (EA p.1 p.2.1).1, .t (.v (.bool (EA p.1 p.2.1).2))]))
section
attribute [local go_sem] kH kI kJ xi Ln KH IE List.append_assoc List.nil_append CN Fy Fx Hk.eq_1 G3.eq_1 Ai Bh LF lm AS.opn AS.cls AS.nilb AS.renb AS.up Bool.not_false Bool.not_true List.set_set List.set_cons_zero List.set_cons_succ List.set_nil List.mem_singleton forall_eq tn List.map_nil
set_option maxHeartbeats 6400000 in
theorem qV {G : Gt} (hG : Ac G) (hh : G.e 206 = AW kH ∧ G.e 207 = AW kI ∧ G.e 208 = AW kJ ∧ G.e 69 = AA 1 xi ∧ G.e 36 = AA 0 Ln) : Gd G 188 (AW WO) := by
 refine Ke (dp := fun _ => true) (fn := Tryz.f188) (n := 2) rfl hG ?_
 rintro ⟨w, e, ⟨⟩⟩ hpre
 obtain ⟨hw, hE⟩ := hpre
 try dsimp only at hw hE ⊢
 have hl := hw.2.1
 refine BN (e.kind = 1) (fun k1 => have k1' := decide_eq_true k1; have e_ : EA w e = _ := s7 k1; have k2' := trivial; have k3' := trivial; have k4' := trivial; have h2' := trivial; have k5' := trivial; ?_) (fun k1 => have k1' := decide_eq_false k1; BN (e.kind = 2) (fun k2 => have k2' := decide_eq_true k2; have e_ : EA w e = _ := s8 k2; have k3' := trivial; have k4' := trivial; have h2' := trivial; have k5' := trivial; ?_) (fun k2 => have k2' := decide_eq_false k2; BN (e.kind = 3) (fun k3 => have k3' := decide_eq_true k3; have e_ : EA w e = _ := s9 k3; have k4' := trivial; have h2' := trivial; have k5' := trivial; ?_) (fun k3 => have k3' := decide_eq_false k3; BN (e.kind = 4) (fun k4 => have k4' := decide_eq_true k4; BN (0 ≤ e.host ∧ e.host ≤ (w.hosts.length : Int) - 1) (fun h2 => have h2' := An h2; ?w1) (fun h2 => have h2' := AQ h2; have e_ : EA w e = _ := mK k4 h2; have k5' := trivial; ?_)) (fun k4 => have k4' := decide_eq_false k4; BN (e.kind = 5) (fun k5 => have k5' := decide_eq_true k5; BN (1 ≤ e.id ∧ e.id ≤ 40) (fun h2 => have h2' := An h2; ?w2) (fun h2 => have h2' := AQ h2; have e_ : EA w e = _ := XB k5 (fun q => h2 q.1); ?_)) (fun k5 => have k5' := decide_eq_false k5; have e_ : EA w e = _ := s6 ⟨k1, k2, k3, k4, k5⟩; have h2' := trivial; ?_)))))
 case w1 =>
  have hH := hw.1 _ (AB (xs := w.hosts) (j := e.host.toNat) (by omega))
  have oa := EI hH.1 hH.2 (by decide)
  have hs := Eo.2 hH.1
  rw [tA k4 h2]
  simp -implicitDefEqProofs only [Tryz.f188, k1', k2', k3', k4', h2', eq_self, decide_true, decide_false, Int.reduceEq, go_sem, hh, seval]
  with_reducible repeat' (first | apply ai | intro _ | ((first | apply s1 | apply s2 | apply s3 | apply s4) <;> intro hb <;> simp -implicitDefEqProofs only [hb, go_sem, hh, seval] <;> try simp only [qz] at hb))
  all_goals (try simp only [maxLen, tn, AK, AM] at *)
  all_goals first | rfl | omega | decide | with_reducible assumption | (show AZ _ = true; rfl) | exact Ha (by assumption) | contradiction | (show _ = T.v _; rfl) | (show _ = List.map Ae _; rfl) | (show _ = List.map AY _; rfl) | skip
 case w2 =>
  have hnw := hw.2.2.1
  by_cases h3 : w.now + e.id > 9999
  ·rw [XB k5 (fun q => q.2 h3)]
   simp -implicitDefEqProofs only [Tryz.f188, h3, k1', k2', k3', k4', k5', h2', eq_self, decide_true, decide_false, Int.reduceEq, go_sem, hh, seval]
   with_reducible repeat' (first | apply ai | intro _ | ((first | apply s1 | apply s2 | apply s3 | apply s4) <;> intro hb <;> simp -implicitDefEqProofs only [hb, go_sem, hh, seval] <;> try simp only [qz] at hb))
   all_goals (try simp only [maxLen, tn, AK, AM] at *)
   all_goals first | rfl | omega | decide | with_reducible assumption | (show AZ _ = true; rfl) | exact Ha (by assumption) | contradiction | (show _ = T.v _; rfl) | (show _ = List.map Ae _; rfl) | skip
  ·rw [tB k5 ⟨h2, h3⟩]
   simp -implicitDefEqProofs only [Tryz.f188, h3, k1', k2', k3', k4', k5', h2', eq_self, decide_true, decide_false, Int.reduceEq, go_sem, hh, seval]
   with_reducible repeat' (first | apply ai | intro _ | ((first | apply s1 | apply s2 | apply s3 | apply s4) <;> intro hb <;> simp -implicitDefEqProofs only [hb, go_sem, hh, seval] <;> try simp only [qz] at hb))
   all_goals (try simp only [maxLen, tn, AK, AM] at *)
   all_goals first | rfl | omega | decide | with_reducible assumption | (show AZ _ = true; rfl) | exact Ha (by assumption) | contradiction | (show _ = T.v _; rfl) | (show _ = List.map Ae _; rfl) | (show _ = List.map AY _; rfl) | skip
 all_goals
  try rw [e_]
  simp -implicitDefEqProofs only [Tryz.f188, k1', k2', k3', k4', h2', k5', eq_self, decide_true, decide_false, Int.reduceEq, go_sem, hh, seval]
  with_reducible repeat' (first | apply ai | intro _ | ((first | apply s1 | apply s2 | apply s3 | apply s4) <;> intro hb <;> simp -implicitDefEqProofs only [hb, go_sem, hh, seval] <;> try simp only [qz] at hb))
  all_goals (try simp only [maxLen, tn, lm] at *)
  all_goals first | rfl | omega | decide | with_reducible assumption | (show AZ _ = true; rfl) | exact Ha (by assumption) | contradiction | (show _ = T.v _; rfl) | (show _ = List.map Ae _; rfl) | skip
end
def QF (cs : List Cf) : Prop := HA Mu cs ∧ (∀ c ∈ cs, Lc c) ∧ EJ (EC cs)
theorem Mp {cs : List Cf} (h : QF cs) : Gh 0 (EC cs) := by
 have hl : (EC cs).hosts.length = cs.length := lm _
 have h4 := h.2.2.2.2.2.1
 refine ⟨fun x hx => ?_, ⟨by omega, by omega⟩, ⟨Int.le_refl _, by show (0 : Int) ≤ 9999; decide⟩, ⟨Int.le_refl _, by show (0 : Int) ≤ 60; decide⟩, Nat.le_refl _, fun _ q => by cases q⟩
 obtain ⟨c, hc, rfl⟩ := List.mem_map.1 hx
 exact TO (h.2.1 c hc)
def WN : Ct := Aj (lc JS.asl l0) (fun p => QF p.1) (fun p => Hk (EC p.1))
section
attribute [local go_sem] sj sk bi Hk.eq_1 CN AK AM lm List.length_append List.length_cons List.length_nil List.map_append List.map_nil Nat.zero_add Ai AS.opn AS.cls AS.nilb AS.renb AS.up Bool.not_false Bool.not_true List.set_set List.set_cons_zero List.set_cons_succ List.set_nil List.mem_singleton forall_eq tn List.nil_append
set_option maxHeartbeats 3200000 in
theorem qU {G : Gt} (hG : Ac G) (hh : G.e 88 = AA 0 sj ∧ G.e 90 = AA 0 sk ∧ G.e 58 = AA 0 bi) : Gd G 187 (AA 1 WN) := by
 refine PF (dp := fun n => !(Nat.beq n 100002 || Nat.beq n 100004 || Nat.beq n 27 || Nat.beq n 28)) (fn := Tryz.f187) (n := 1) rfl hG ?_
 rintro ⟨cs, ⟨⟩⟩ hpre
 have hok : HA Mu cs := hpre.1
 have hcs := hpre.2.1
 have hwd := hpre.2.2
 have hmx := hok.1
 have b8 := An hwd
 simp -implicitDefEqProofs only [Tryz.f187, go_sem, hh, seval]
 with_reducible repeat' (first | apply ai | intro _ | ((first | apply s1 | apply s2 | apply s3 | apply s4) <;> intro hb <;> simp -implicitDefEqProofs only [hb, go_sem, hh, seval] <;> try simp only [qz] at hb))
 all_goals first | with_reducible rfl | omega | with_reducible assumption | (show _ = true; rfl) | contradiction | decide | skip
 refine Am (Le.nilb 1003 0 1901 false 7 rfl rfl rfl) ?_
 simp -implicitDefEqProofs only [go_sem, hh, seval]
 refine Am (Le.nilb 1003 3 1902 true 3 rfl rfl rfl) (Af ?_)
 simp -implicitDefEqProofs only [go_sem, hh, seval]
 with_reducible repeat' (first | apply ai | intro _ | ((first | apply s1 | apply s2 | apply s3 | apply s4) <;> intro hb <;> simp -implicitDefEqProofs only [hb, go_sem, hh, seval] <;> try simp only [qz] at hb))
 all_goals first | with_reducible rfl | omega | with_reducible assumption | (show _ = true; rfl) | contradiction | decide | skip
 refine AC [] (ι := {i : Nat // i ≤ cs.length}) (fun p => ⟨[(0, .t (.sl 3 (cs.map DT))), (2, .pb 1002 0), (3, .pb 1003 0), (4, .t (.v (.int .i64 p.1)))], [(1002, some (.box [.nil, .t (.v (.int .i64 0)), .t (.v (.int .i64 0)), .nil])), (1003, some (.box [.h 1901, .t (.v (.int .i64 0)), .t (.v (.int .i64 0)), .h 1902])), (1902, some (.arr true 3 [])), (1901, some (.arr false 7 (((cs.map FJ).take p.1).map AY)))]⟩) (fun p => cs.length - p.1) ⟨0, by simp⟩ rfl ?_ ?_
 ·simp -implicitDefEqProofs only [go_sem, hh, seval]
  first | (simp; done) | skip
 ·rintro ⟨i, hi⟩
  try dsimp only at hi
  have hlen : ((cs.map FJ).take i).length = i := by simp; omega
  by_cases hlt : (i : Int) < cs.length
  ·have hc := hok.at (i := i) (by omega)
   have b7 := An (hcs _ (AB (xs := cs) (j := i) (by omega)))
   simp -implicitDefEqProofs only [hlt, b7, decide_true, tn, go_sem, hh, seval]
   with_reducible repeat' (first | apply ai | intro _ | ((first | apply s1 | apply s2 | apply s3 | apply s4) <;> intro hb <;> simp -implicitDefEqProofs only [hb, go_sem, hh, seval] <;> try simp only [qz] at hb))
   all_goals (try simp only [maxLen, tn] at *)
   all_goals first | with_reducible rfl | omega | with_reducible assumption | (show _ = true; rfl) | contradiction | decide | skip
   refine Am (Le.lastR 1028 rfl (.cons (.same _) (.cons (.same _) (.cons (.same _) (.cons (.same _) (.cons (.nil 5) (.cons (.nil 3) (.cons (.nil 3) .nil)))))))) ?_
   simp -implicitDefEqProofs only [go_sem, hh, seval]
   refine Am (Le.renb 1003 0 1028 1901 rfl rfl rfl rfl) (Af ?_)
   simp -implicitDefEqProofs only [go_sem, hh, seval]
   with_reducible repeat' (first | apply ai | intro _ | ((first | apply s1 | apply s2 | apply s3 | apply s4) <;> intro hb <;> simp -implicitDefEqProofs only [hb, go_sem, hh, seval] <;> try simp only [qz] at hb))
   all_goals first | with_reducible rfl | omega | with_reducible assumption | (show _ = true; rfl) | contradiction | decide | skip
   refine ⟨⟨i + 1, by omega⟩, by dsimp only; omega, ?_⟩
   simp -implicitDefEqProofs only [go_sem, hh, seval]
   simp only [ZY (f := FJ) (show i < cs.length by omega)]
   with_reducible repeat' (first | apply ai | intro _ | ((first | apply s1 | apply s2 | apply s3 | apply s4) <;> intro hb <;> simp -implicitDefEqProofs only [hb, go_sem, hh, seval] <;> try simp only [qz] at hb))
   all_goals first | rfl | (simp; done) | skip
  ·have htk : (cs.map FJ).take i = cs.map FJ := List.take_of_length_le (by rw [lm]; omega)
   have hnw : (⟨cs.map FJ, 0, 0, []⟩ : Wd) = EC cs := rfl
   simp -implicitDefEqProofs only [hlt, decide_false, htk, hnw, b8, go_sem, hh, seval]
   with_reducible repeat' (first | apply ai | intro _ | ((first | apply s1 | apply s2 | apply s3 | apply s4) <;> intro hb <;> simp -implicitDefEqProofs only [hb, go_sem, hh, seval] <;> try simp only [qz] at hb))
   all_goals (try simp only [maxLen, tn] at *)
   all_goals first | with_reducible rfl | omega | with_reducible assumption | (show _ = true; rfl) | contradiction | decide | rfl | exact absurd hwd (by assumption) | skip
end
noncomputable def Y4 : List Ev → Wd → Wd
 | [], w => w
 | e :: t, w => Y4 t (EA w e).1
theorem gY : ∀ (es : List Ev) {w : Wd} {N : Nat}, Gh N w → N + 40 * es.length ≤ 1000000 → Gh (N + 40 * es.length) (Y4 es w)
 | [], w, N, q, _ => q
 | e :: t, w, N, q, h => by
   rw [List.length_cons] at h ⊢
   have z := gY t (So (e := e) q (by omega)) (by omega)
   have e2 : N + 40 * (t.length + 1) = N + 40 + 40 * t.length := by omega
   rw [e2]; exact z
theorem vZ {es : List Ev} {i : Nat} {w : Wd} (h : i < es.length) : Y4 (es.drop i) w = Y4 (es.drop (i + 1)) (EA w (es.getD i default)).1 := by rw [Aa h]; rfl
noncomputable def va (cs : List Cf) (es : List Ev) : Wd := Y4 (es.take 40) (EC cs)
theorem vb {cs : List Cf} (h : QF cs) (es : List Ev) : Gh 1600 (va cs es) := by
 have hl : (es.take 40).length ≤ 40 := by rw [List.length_take]; omega
 exact BG (gY (es.take 40) (Mp h) (by omega)) (by omega)
theorem N4 (w : Wd) : Hk w = .agg [.o false 7 (w.hosts.map AY), .t (.v (.int .i64 w.now)), .t (.v (.int .i64 w.marks)), .o true 3 (w.given.map Ae)] := rfl
def jy : Ct := Aj (lc JS.asl (lc QH.asl l0)) (fun p => QF p.1 ∧ (∀ e ∈ p.2.1, ac e) ∧ p.2.1.length ≤ 1000000) (fun p => Hk (va p.1 p.2.1))
section
attribute [local go_sem] WN WO N4 KH IE Fy Fx CN lm Ai G3.eq_1 AS.opn AS.cls AS.nilb AS.renb AS.up Bool.not_false Bool.not_true List.set_set List.set_cons_zero List.set_cons_succ List.set_nil List.mem_singleton forall_eq tn List.map_nil List.nil_append
set_option maxHeartbeats 3200000 in
theorem qB {G : Gt} (hG : Ac G) (hh : G.e 187 = AA 1 WN ∧ G.e 188 = AW WO) : Gd G 159 (AA 1 jy) := by
 refine PF (dp := fun n => !(Nat.beq n 100002 || Nat.beq n 100004)) (fn := Tryz.f159) (n := 2) rfl hG ?_
 rintro ⟨cs, es, ⟨⟩⟩ hpre
 obtain ⟨hc, he, hel⟩ := hpre
 try dsimp only at hc he hel ⊢
 have hl40 : (es.take 40).length ≤ 40 := by rw [List.length_take]; omega
 have hle : (es.take 40).length ≤ es.length := by rw [List.length_take]; omega
 simp -implicitDefEqProofs only [Tryz.f159, go_sem, hh, seval]
 with_reducible repeat' (first | apply ai | intro _ | ((first | apply s1 | apply s2 | apply s3 | apply s4) <;> intro hb <;> simp -implicitDefEqProofs only [hb, go_sem, hh, seval] <;> try simp only [qz] at hb))
 all_goals first | with_reducible rfl | omega | with_reducible assumption | (show _ = true; rfl) | contradiction | decide | skip
 refine Am (Le.renb 1005 0 1010 1901 rfl rfl rfl rfl) ?_
 simp -implicitDefEqProofs only [go_sem, hh, seval]
 refine Am (Le.renb 1005 3 2010 1902 rfl rfl rfl rfl) (Af ?_)
 simp -implicitDefEqProofs only [go_sem, hh, seval]
 with_reducible repeat' (first | apply ai | intro _ | ((first | apply s1 | apply s2 | apply s3 | apply s4) <;> intro hb <;> simp -implicitDefEqProofs only [hb, go_sem, hh, seval] <;> try simp only [qz] at hb))
 all_goals first | with_reducible rfl | omega | with_reducible assumption | (show _ = true; rfl) | contradiction | decide | skip
 refine AC [] (ι := {p : Nat × Wd // p.1 ≤ (es.take 40).length ∧ Gh (40 * p.1) p.2 ∧ Y4 ((es.take 40).drop p.1) p.2 = va cs es}) (fun p => ⟨[(1, .t (.sl 10 (es.map C2))), (4, .pb 1004 0), (5, .pb 1005 0), (6, .t (.v (.int .i64 p.1.1)))], [(1004, some (.box [.nil, .t (.v (.int .i64 0)), .t (.v (.int .i64 0)), .nil])), (1005, some (.box [.h 1901, .t (.v (.int .i64 p.1.2.now)), .t (.v (.int .i64 p.1.2.marks)), .h 1902])), (1901, some (.arr false 7 (p.1.2.hosts.map AY))), (1902, some (.arr true 3 (p.1.2.given.map Ae)))]⟩) (fun p => (es.take 40).length - p.1.1) ⟨(0, EC cs), Nat.zero_le _, Mp hc, rfl⟩ rfl ?_ ?_
 ·simp -implicitDefEqProofs only [go_sem, hh, seval]
  first | (simp; done) | skip
 ·rintro ⟨⟨i, x⟩, hi, hx, hv⟩
  dsimp only at hi hx hv
  have hxl := hx.2.1
  have hlm : (es.take 40).length = min 40 es.length := List.length_take
  by_cases hlt : i < (es.take 40).length
  ·have hi1 : (i : Int) < es.length := by omega
   have hi2 : (i : Int) < 40 := by omega
   have hi3 : ((x.hosts.length : Nat) : Int) > 0 := by omega
   have hE := he _ (AB (xs := es) (j := i) (by omega))
   have hg : (es.take 40).getD i default = es.getD i default := by simp [List.getD_eq_getElem?_getD, List.getElem?_take, show i < 40 by omega]
   simp -implicitDefEqProofs only [hi1, hi2, hi3, eq_self, decide_true, decide_false, go_sem, hh, seval]
   with_reducible repeat' (first | apply ai | intro _ | ((first | apply s1 | apply s2 | apply s3 | apply s4) <;> intro hb <;> simp -implicitDefEqProofs only [hb, go_sem, hh, seval] <;> try simp only [qz] at hb))
   all_goals (try simp only [maxLen, tn] at *)
   all_goals first | with_reducible rfl | omega | with_reducible assumption | (show _ = true; rfl) | contradiction | decide | exact BG hx (by omega) | exact ⟨BG hx (by omega), hE⟩ | skip
   refine Am (Le.renb 1005 0 1033 1901 rfl rfl rfl rfl) ?_
   simp -implicitDefEqProofs only [go_sem, hh, seval]
   refine Am (Le.renb 1005 3 2033 1902 rfl rfl rfl rfl) (Af ?_)
   simp -implicitDefEqProofs only [go_sem, hh, seval]
   with_reducible repeat' (first | apply ai | intro _ | ((first | apply s1 | apply s2 | apply s3 | apply s4) <;> intro hb <;> simp -implicitDefEqProofs only [hb, go_sem, hh, seval] <;> try simp only [qz] at hb))
   all_goals first | with_reducible rfl | omega | with_reducible assumption | (show _ = true; rfl) | contradiction | decide | skip
   refine ⟨⟨(i + 1, (EA x (es.getD i default)).1), by dsimp only; omega, by dsimp only; rw [Nat.mul_succ]; exact So hx (by omega), by rw [← hg]; exact (vZ hlt).symm.trans hv⟩, by dsimp only; omega, ?_⟩
   simp -implicitDefEqProofs only [go_sem, hh, seval]
   first | (simp; done) | skip
  ·rw [List.drop_of_length_le (by omega), Y4] at hv
   subst hv
   simp -implicitDefEqProofs only [go_sem, hh, seval]
   with_reducible repeat' (first | apply ai | intro _ | ((first | apply s1 | apply s2 | apply s3 | apply s4) <;> intro hb <;> simp -implicitDefEqProofs only [hb, go_sem, hh, seval] <;> try simp only [qz] at hb))
   all_goals (try simp only [maxLen, tn] at *)
   all_goals first | with_reducible rfl | omega | with_reducible assumption | (show _ = true; rfl) | contradiction | decide | exact absurd (by omega) hlt | skip
end
def Lq (w : Wd) (h n : Int) (q : Rd) : Ev × Rd :=
 if Ah q 9 = 0 ∨ Ah q 9 = 1 then (⟨1, h, 0, 0, HB (q.nx 1) [40, 40, 12, 17, 18], false, YY (q.nx 2)⟩, PU (q.nx 2))
 else if Ah q 9 = 2 ∨ Ah q 9 = 3 ∨ Ah q 9 = 4 then (⟨2, h, Ah (q.nx 1) w.hosts.length, n, HB (q.nx 2) [40, 40, 40, 3, 9, 13, 14, 15, 16, 17, 18], decide (Ah (q.nx 3) 6 = 0), Ur⟩, q.nx 4)
 else if Ah q 9 = 5 then (⟨3, h, 0, n, 0, decide (Ah (q.nx 1) 2 = 0), Ur⟩, q.nx 2)
 else if Ah q 9 = 6 then (⟨4, h, 0, 0, 0, false, Ur⟩, q.nx 1)
 else if Ah q 9 = 7 then (⟨HB (q.nx 1) [0, 6, 5], 0, 0, HB (q.nx 2) [1, 40, 0, 41], 0, false, Ur⟩, q.nx 3)
 else (⟨5, 0, 0, 1 + Ah (q.nx 1) 12, 0, false, Ur⟩, q.nx 2)
def tI (r : Rd) (xs : List Im) : Int × Rd :=
 if (xs.length : Int) > 0 then (if Ah (r.nx 2) 6 > 0 then ((xs.getD (Ah (r.nx 3) xs.length).toNat default).id, r.nx 4) else (Ah (r.nx 1) 4 + 1, r.nx 3)) else (Ah (r.nx 1) 4 + 1, r.nx 2)
abbrev QC (r : Rd) (w : Wd) : List Im := (w.hosts.getD (Ah r w.hosts.length).toNat default).spool.items
def CF (r : Rd) (w : Wd) : Ev × Rd := Lq w (Ah r w.hosts.length) (tI r (QC r w)).1 (tI r (QC r w)).2
section
variable {r q : Rd} {w : Wd} {h n : Int}
theorem XY (c : Ah q 9 = 0) : Lq w h n q = (⟨1, h, 0, 0, HB (q.nx 1) [40, 40, 12, 17, 18], false, YY (q.nx 2)⟩, PU (q.nx 2)) := if_pos (.inl c)
theorem XZ (c : Ah q 9 = 1) : Lq w h n q = (⟨1, h, 0, 0, HB (q.nx 1) [40, 40, 12, 17, 18], false, YY (q.nx 2)⟩, PU (q.nx 2)) := if_pos (.inr c)
theorem HT (c : Ah q 9 = 2 ∨ Ah q 9 = 3 ∨ Ah q 9 = 4) : Lq w h n q = (⟨2, h, Ah (q.nx 1) w.hosts.length, n, HB (q.nx 2) [40, 40, 40, 3, 9, 13, 14, 15, 16, 17, 18], decide (Ah (q.nx 3) 6 = 0), Ur⟩, q.nx 4) := by unfold Lq; rw [if_neg (by omega), if_pos c]
theorem Xa (c : Ah q 9 = 5) : Lq w h n q = (⟨3, h, 0, n, 0, decide (Ah (q.nx 1) 2 = 0), Ur⟩, q.nx 2) := by unfold Lq; rw [if_neg (by omega), if_neg (by omega), if_pos c]
theorem Xb (c : Ah q 9 = 6) : Lq w h n q = (⟨4, h, 0, 0, 0, false, Ur⟩, q.nx 1) := by unfold Lq; rw [if_neg (by omega), if_neg (by omega), if_neg (by omega), if_pos c]
theorem Xc (c : Ah q 9 = 7) : Lq w h n q = (⟨HB (q.nx 1) [0, 6, 5], 0, 0, HB (q.nx 2) [1, 40, 0, 41], 0, false, Ur⟩, q.nx 3) := by unfold Lq; rw [if_neg (by omega), if_neg (by omega), if_neg (by omega), if_neg (by omega), if_pos c]
theorem Xd (c : ¬ Ah q 9 = 0 ∧ ¬ Ah q 9 = 1 ∧ ¬ Ah q 9 = 2 ∧ ¬ Ah q 9 = 3 ∧ ¬ Ah q 9 = 4 ∧ ¬ Ah q 9 = 5 ∧ ¬ Ah q 9 = 6 ∧ ¬ Ah q 9 = 7) : Lq w h n q = (⟨5, 0, 0, 1 + Ah (q.nx 1) 12, 0, false, Ur⟩, q.nx 2) := by unfold Lq; rw [if_neg (by omega), if_neg (by omega), if_neg (by omega), if_neg (by omega), if_neg (by omega)]
theorem GY (a : ((QC r w).length : Int) > 0) (b : Ah (r.nx 2) 6 > 0) : CF r w = Lq w (Ah r w.hosts.length) ((QC r w).getD (Ah (r.nx 3) (QC r w).length).toNat default).id (r.nx 4) := by unfold CF tI; rw [if_pos a, if_pos b]
theorem GZ (a : ((QC r w).length : Int) > 0) (b : ¬ Ah (r.nx 2) 6 > 0) : CF r w = Lq w (Ah r w.hosts.length) (Ah (r.nx 1) 4 + 1) (r.nx 3) := by unfold CF tI; rw [if_pos a, if_neg b]
theorem Ga (a : ¬ ((QC r w).length : Int) > 0) : CF r w = Lq w (Ah r w.hosts.length) (Ah (r.nx 1) 4 + 1) (r.nx 2) := by unfold CF tI; rw [if_neg a]
end
theorem Kx : Lh Ur := ⟨⟨by show (0 : Nat) ≤ 1048576; decide, by show (0 : Nat) ≤ 1048576; decide⟩, ⟨by show ((0 : Nat) : Int) ≤ 1048576; decide, fun _ q => by cases q⟩, ⟨by show ((0 : Nat) : Int) ≤ 1048576; decide, fun _ q => by cases q⟩⟩
theorem RC {w : Wd} {h n : Int} {q : Rd} (h0 : 0 ≤ q.p) (h1 : q.p ≤ 999990000) : ac (Lq w h n q).1 ∧ (Lq w h n q).2.b = q.b ∧ q.p ≤ (Lq w h n q).2.p ∧ (Lq w h n q).2.p ≤ q.p + 30 := by
 have hm := gO (r := q.nx 2) (by rw [AO]; omega) (by rw [AO]; omega)
 rw [AO, B2] at hm
 have hk := Nc (r := q.nx 2) (by rw [AO]; omega) (by rw [AO]; omega)
 have g1 : 0 ≤ HB (q.nx 1) [40, 40, 12, 17, 18] ∧ HB (q.nx 1) [40, 40, 12, 17, 18] ≤ 1000 := by
  have z := Ji (r := q.nx 1) (l := [40, 40, 12, 17, 18]) (by rw [AO]; omega) (by rw [AO]; omega) (by decide)
  simp only [List.mem_cons, List.not_mem_nil, or_false] at z
  omega
 have g2 : 0 ≤ HB (q.nx 2) [40, 40, 40, 3, 9, 13, 14, 15, 16, 17, 18] ∧ HB (q.nx 2) [40, 40, 40, 3, 9, 13, 14, 15, 16, 17, 18] ≤ 1000 := by
  have z := Ji (r := q.nx 2) (l := [40, 40, 40, 3, 9, 13, 14, 15, 16, 17, 18]) (by rw [AO]; omega) (by rw [AO]; omega) (by decide)
  simp only [List.mem_cons, List.not_mem_nil, or_false] at z
  omega
 unfold Lq
 split
 ·exact ⟨⟨JV hk, g1⟩, hm.1, by dsimp only; omega, by dsimp only; omega⟩
 ·split
  ·exact ⟨⟨Kx, g2⟩, B2 .., by dsimp only; rw [AO]; omega, by dsimp only; rw [AO]; omega⟩
  ·split
   ·exact ⟨⟨Kx, by show (0 : Int) ≤ 0; decide, by show (0 : Int) ≤ 1000; decide⟩, B2 .., by dsimp only; rw [AO]; omega, by dsimp only; rw [AO]; omega⟩
   ·split
    ·exact ⟨⟨Kx, by show (0 : Int) ≤ 0; decide, by show (0 : Int) ≤ 1000; decide⟩, B2 .., by dsimp only; rw [AO]; omega, by dsimp only; rw [AO]; omega⟩
    ·split
     ·exact ⟨⟨Kx, by show (0 : Int) ≤ 0; decide, by show (0 : Int) ≤ 1000; decide⟩, B2 .., by dsimp only; rw [AO]; omega, by dsimp only; rw [AO]; omega⟩
     ·exact ⟨⟨Kx, by show (0 : Int) ≤ 0; decide, by show (0 : Int) ≤ 1000; decide⟩, B2 .., by dsimp only; rw [AO]; omega, by dsimp only; rw [AO]; omega⟩
theorem XX {r : Rd} {w : Wd} (h0 : 0 ≤ r.p) (h1 : r.p ≤ 999980000) : ac (CF r w).1 ∧ (CF r w).2.b = r.b ∧ r.p ≤ (CF r w).2.p ∧ (CF r w).2.p ≤ r.p + 34 := by
 by_cases a0 : ((QC r w).length : Int) > 0
 ·by_cases a1 : Ah (r.nx 2) 6 > 0
  ·rw [GY a0 a1]
   have z := RC (w := w) (h := Ah r w.hosts.length) (n := ((QC r w).getD (Ah (r.nx 3) (QC r w).length).toNat default).id) (q := r.nx 4) (by rw [AO]; omega) (by rw [AO]; omega)
   rw [AO, B2] at z
   exact ⟨z.1, z.2.1, by omega, by omega⟩
  ·rw [GZ a0 a1]
   have z := RC (w := w) (h := Ah r w.hosts.length) (n := Ah (r.nx 1) 4 + 1) (q := r.nx 3) (by rw [AO]; omega) (by rw [AO]; omega)
   rw [AO, B2] at z
   exact ⟨z.1, z.2.1, by omega, by omega⟩
 ·rw [Ga a0]
  have z := RC (w := w) (h := Ah r w.hosts.length) (n := Ah (r.nx 1) 4 + 1) (q := r.nx 2) (by rw [AO]; omega) (by rw [AO]; omega)
  rw [AO, B2] at z
  exact ⟨z.1, z.2.1, by omega, by omega⟩
def kG : Mt := H1 (lc ER (lc OM.ag l0)) (fun p => (0 ≤ p.1.p ∧ p.1.p ≤ 999970000) ∧ 1 ≤ p.2.1.hosts.length ∧ p.2.1.hosts.length ≤ 1000) (fun p => ([ER.enc (CF p.1 p.2.1).2, OM.ag.enc p.2.1], QH.ag.enc (CF p.1 p.2.1).1))
section
attribute [local go_sem] IJ WV WP AO B2 BK BM BT Bv Cy Bp Bt lm List.length_append List.length_cons List.length_nil List.map_append List.map_nil Nat.zero_add List.nil_append AS.opn AS.cls AS.nilb AS.renb AS.up Bool.not_false Bool.not_true List.set_set List.set_cons_zero List.set_cons_succ List.set_nil List.mem_singleton forall_eq Gv KP KQ KR Fd Fe
set_option maxHeartbeats 6400000 in
theorem qn {G : Gt} (hG : Ac G) (hh : G.e 71 = AW IJ ∧ G.e 24 = AW WV ∧ G.e 189 = AW WP) : Gd G 205 (AW kG) := by
 refine Ke (dp := fun _ => true) (fn := Tryz.f205) (n := 2) rfl hG ?_
 rintro ⟨r, w, ⟨⟩⟩ hpre
 obtain ⟨⟨h1, h2⟩, hl1, hl2⟩ := hpre
 try dsimp only at h1 h2 hl1 hl2 ⊢
 have hb := CJ (r := r) (n := w.hosts.length) h1 (by omega)
 have hb3 : ((QC r w).length : Int) > 0 → 0 ≤ Ah (r.nx 3) (QC r w).length ∧ Ah (r.nx 3) (QC r w).length < (QC r w).length := fun q => by
  have z := CJ (r := r.nx 3) (n := (QC r w).length) (by rw [AO]; omega) (by rw [AO]; omega)
  exact ⟨z.1, z.2 (by omega)⟩
 have ht : ∀ k : Int, 0 ≤ k → k ≤ 9 → 0 ≤ Ah (r.nx k) 12 ∧ Ah (r.nx k) 12 < 12 := fun k a b => by
  have z := CJ (r := r.nx k) (n := 12) (by rw [AO]; omega) (by rw [AO]; omega)
  exact ⟨z.1, z.2 (by decide)⟩
 have ht3 := ht 3 (by decide) (by decide)
 have ht4 := ht 4 (by decide) (by decide)
 have ht5 := ht 5 (by decide) (by decide)
 have hb1 := CJ (r := r.nx 1) (n := 4) (by rw [AO]; omega) (by rw [AO]; omega)
 refine BN (((QC r w).length : Int) > 0) (fun a0 => BN (Ah (r.nx 2) 6 > 0) (fun a1 => BN (Ah (r.nx 4) 9 = 0) (fun c0 => have e_ : CF r w = _ := (GY a0 a1).trans (XY c0); have c1 := trivial; have c2 := trivial; have c3 := trivial; have c4 := trivial; have c5 := trivial; have c6 := trivial; have c7 := trivial; ?_) (fun c0 => BN (Ah (r.nx 4) 9 = 1) (fun c1 => have e_ : CF r w = _ := (GY a0 a1).trans (XZ c1); have c2 := trivial; have c3 := trivial; have c4 := trivial; have c5 := trivial; have c6 := trivial; have c7 := trivial; ?_) (fun c1 => BN (Ah (r.nx 4) 9 = 2) (fun c2 => have e_ : CF r w = _ := (GY a0 a1).trans (HT (.inl c2)); have c3 := trivial; have c4 := trivial; have c5 := trivial; have c6 := trivial; have c7 := trivial; ?_) (fun c2 => BN (Ah (r.nx 4) 9 = 3) (fun c3 => have e_ : CF r w = _ := (GY a0 a1).trans (HT (.inr (.inl c3))); have c4 := trivial; have c5 := trivial; have c6 := trivial; have c7 := trivial; ?_) (fun c3 => BN (Ah (r.nx 4) 9 = 4) (fun c4 => have e_ : CF r w = _ := (GY a0 a1).trans (HT (.inr (.inr c4))); have c5 := trivial; have c6 := trivial; have c7 := trivial; ?_) (fun c4 => BN (Ah (r.nx 4) 9 = 5) (fun c5 => have e_ : CF r w = _ := (GY a0 a1).trans (Xa c5); have c6 := trivial; have c7 := trivial; ?_) (fun c5 => BN (Ah (r.nx 4) 9 = 6) (fun c6 => have e_ : CF r w = _ := (GY a0 a1).trans (Xb c6); have c7 := trivial; ?_) (fun c6 => BN (Ah (r.nx 4) 9 = 7) (fun c7 => have e_ : CF r w = _ := (GY a0 a1).trans (Xc c7); ?_) (fun c7 => have e_ : CF r w = _ := (GY a0 a1).trans (Xd ⟨c0, c1, c2, c3, c4, c5, c6, c7⟩); ?_))))))))) (fun a1 => BN (Ah (r.nx 3) 9 = 0) (fun c0 => have e_ : CF r w = _ := (GZ a0 a1).trans (XY c0); have c1 := trivial; have c2 := trivial; have c3 := trivial; have c4 := trivial; have c5 := trivial; have c6 := trivial; have c7 := trivial; ?_) (fun c0 => BN (Ah (r.nx 3) 9 = 1) (fun c1 => have e_ : CF r w = _ := (GZ a0 a1).trans (XZ c1); have c2 := trivial; have c3 := trivial; have c4 := trivial; have c5 := trivial; have c6 := trivial; have c7 := trivial; ?_) (fun c1 => BN (Ah (r.nx 3) 9 = 2) (fun c2 => have e_ : CF r w = _ := (GZ a0 a1).trans (HT (.inl c2)); have c3 := trivial; have c4 := trivial; have c5 := trivial; have c6 := trivial; have c7 := trivial; ?_) (fun c2 => BN (Ah (r.nx 3) 9 = 3) (fun c3 => have e_ : CF r w = _ := (GZ a0 a1).trans (HT (.inr (.inl c3))); have c4 := trivial; have c5 := trivial; have c6 := trivial; have c7 := trivial; ?_) (fun c3 => BN (Ah (r.nx 3) 9 = 4) (fun c4 => have e_ : CF r w = _ := (GZ a0 a1).trans (HT (.inr (.inr c4))); have c5 := trivial; have c6 := trivial; have c7 := trivial; ?_) (fun c4 => BN (Ah (r.nx 3) 9 = 5) (fun c5 => have e_ : CF r w = _ := (GZ a0 a1).trans (Xa c5); have c6 := trivial; have c7 := trivial; ?_) (fun c5 => BN (Ah (r.nx 3) 9 = 6) (fun c6 => have e_ : CF r w = _ := (GZ a0 a1).trans (Xb c6); have c7 := trivial; ?_) (fun c6 => BN (Ah (r.nx 3) 9 = 7) (fun c7 => have e_ : CF r w = _ := (GZ a0 a1).trans (Xc c7); ?_) (fun c7 => have e_ : CF r w = _ := (GZ a0 a1).trans (Xd ⟨c0, c1, c2, c3, c4, c5, c6, c7⟩); ?_)))))))))) (fun a0 => BN (Ah (r.nx 2) 9 = 0) (fun c0 => have e_ : CF r w = _ := (Ga a0).trans (XY c0); have a1 := trivial; have c1 := trivial; have c2 := trivial; have c3 := trivial; have c4 := trivial; have c5 := trivial; have c6 := trivial; have c7 := trivial; ?_) (fun c0 => BN (Ah (r.nx 2) 9 = 1) (fun c1 => have e_ : CF r w = _ := (Ga a0).trans (XZ c1); have a1 := trivial; have c2 := trivial; have c3 := trivial; have c4 := trivial; have c5 := trivial; have c6 := trivial; have c7 := trivial; ?_) (fun c1 => BN (Ah (r.nx 2) 9 = 2) (fun c2 => have e_ : CF r w = _ := (Ga a0).trans (HT (.inl c2)); have a1 := trivial; have c3 := trivial; have c4 := trivial; have c5 := trivial; have c6 := trivial; have c7 := trivial; ?_) (fun c2 => BN (Ah (r.nx 2) 9 = 3) (fun c3 => have e_ : CF r w = _ := (Ga a0).trans (HT (.inr (.inl c3))); have a1 := trivial; have c4 := trivial; have c5 := trivial; have c6 := trivial; have c7 := trivial; ?_) (fun c3 => BN (Ah (r.nx 2) 9 = 4) (fun c4 => have e_ : CF r w = _ := (Ga a0).trans (HT (.inr (.inr c4))); have a1 := trivial; have c5 := trivial; have c6 := trivial; have c7 := trivial; ?_) (fun c4 => BN (Ah (r.nx 2) 9 = 5) (fun c5 => have e_ : CF r w = _ := (Ga a0).trans (Xa c5); have a1 := trivial; have c6 := trivial; have c7 := trivial; ?_) (fun c5 => BN (Ah (r.nx 2) 9 = 6) (fun c6 => have e_ : CF r w = _ := (Ga a0).trans (Xb c6); have a1 := trivial; have c7 := trivial; ?_) (fun c6 => BN (Ah (r.nx 2) 9 = 7) (fun c7 => have e_ : CF r w = _ := (Ga a0).trans (Xc c7); have a1 := trivial; ?_) (fun c7 => have e_ : CF r w = _ := (Ga a0).trans (Xd ⟨c0, c1, c2, c3, c4, c5, c6, c7⟩); have a1 := trivial; ?_)))))))))
 all_goals
  try rw [e_]
  simp -implicitDefEqProofs only [Tryz.f205, a0, a1, c0, c1, c2, c3, c4, c5, c6, c7, Ur, eq_self, decide_true, decide_false, Int.reduceEq, go_sem, hh, Int.reduceAdd, seval]
  with_reducible repeat' (first | apply ai | intro _ | ((first | apply s1 | apply s2 | apply s3 | apply s4) <;> intro hb <;> simp -implicitDefEqProofs only [hb, go_sem, hh, Int.reduceAdd, seval] <;> try simp only [qz] at hb))
  all_goals (try simp only [maxLen, tn, AO, B2] at *)
  all_goals first | rfl | omega | decide | with_reducible assumption | (show AZ _ = true; rfl) | exact Ha (by assumption) | contradiction | exact (hb3 a0).1 | exact (hb3 a0).2 | (rename_i q; simp only [List.mem_cons, List.not_mem_nil, or_false] at q ⊢; omega) | skip
end
theorem QR {N : Nat} {w : Wd} (q : Gh N w) (h : N ≤ 1048576) : Gg w := ⟨⟨by have := q.2.1.2; omega, fun x hx => EI (q.1 x hx).1 (q.1 x hx).2 h⟩, ⟨by have := q.2.2.2.2.1; omega, q.2.2.2.2.2⟩⟩
abbrev Vd := Rd × Wd × List Ev
open Classical in
noncomputable def Xe (x : Vd) : Vd :=
 if (EA x.2.1 (CF x.1 x.2.1).1).2 = true then ((CF x.1 x.2.1).2, (EA x.2.1 (CF x.1 x.2.1).1).1, x.2.2 ++ [(CF x.1 x.2.1).1])
 else if Ah (CF x.1 x.2.1).2 6 > 0 then ((CF x.1 x.2.1).2.nx 1, x.2.1, x.2.2)
 else ((CF x.1 x.2.1).2.nx 1, (EA x.2.1 (CF x.1 x.2.1).1).1, x.2.2 ++ [(CF x.1 x.2.1).1])
theorem fx {r : Rd} {w : Wd} {l : List Ev} (h : (EA w (CF r w).1).2 = true) : Xe (r, w, l) = ((CF r w).2, (EA w (CF r w).1).1, l ++ [(CF r w).1]) := if_pos h
theorem fw {r : Rd} {w : Wd} {l : List Ev} (h : (EA w (CF r w).1).2 = false) (c : Ah (CF r w).2 6 > 0) : Xe (r, w, l) = ((CF r w).2.nx 1, w, l) := by
 unfold Xe; rw [if_neg (by show ¬ (EA w (CF r w).1).2 = true; rw [h]; exact Bool.false_ne_true), if_pos c]
theorem fu {r : Rd} {w : Wd} {l : List Ev} (h : (EA w (CF r w).1).2 = false) (c : ¬ Ah (CF r w).2 6 > 0) : Xe (r, w, l) = ((CF r w).2.nx 1, (EA w (CF r w).1).1, l ++ [(CF r w).1]) := by
 unfold Xe; rw [if_neg (by show ¬ (EA w (CF r w).1).2 = true; rw [h]; exact Bool.false_ne_true), if_neg c]
noncomputable def NP : Nat → Vd → Vd
 | 0, x => x
 | n + 1, x => NP n (Xe x)
def rk (k : Nat) (p : Int) (x : Vd) : Prop := Gh (40 * k) x.2.1 ∧ p ≤ x.1.p ∧ x.1.p ≤ p + 40 * k ∧ x.2.2.length ≤ k ∧ ∀ e ∈ x.2.2, ac e
theorem Sr {k : Nat} {p : Int} {x : Vd} (q : rk k p x) (hk : k ≤ 1000) (h0 : 0 ≤ p) (h1 : p ≤ 999900000) : rk (k + 1) p (Xe x) := by
 obtain ⟨r, w, l⟩ := x
 obtain ⟨q1, q2, q3, q4, q5⟩ := q
 dsimp only at q1 q2 q3 q4 q5
 obtain ⟨z1, z2, z3, z4⟩ := XX (r := r) (w := w) (by omega) (by omega)
 have zw : Gh (40 * (k + 1)) (EA w (CF r w).1).1 := by rw [Nat.mul_succ]; exact So q1 (by omega)
 have zl : ∀ e ∈ l ++ [(CF r w).1], ac e := fun e he => by
  rcases List.mem_append.1 he with he | he
  ·exact q5 e he
  ·rw [List.mem_singleton] at he; subst he; exact z1
 have zn : (l ++ [(CF r w).1]).length ≤ k + 1 := by rw [List.length_append]; show l.length + 1 ≤ k + 1; omega
 cases hd : (EA w (CF r w).1).2
 ·by_cases c : Ah (CF r w).2 6 > 0
  ·rw [fw hd c]; exact ⟨BG q1 (by omega), by dsimp only; rw [AO]; omega, by dsimp only; rw [AO]; omega, by dsimp only; omega, q5⟩
  ·rw [fu hd c]; exact ⟨zw, by dsimp only; rw [AO]; omega, by dsimp only; rw [AO]; omega, zn, zl⟩
 ·rw [fx hd]; exact ⟨zw, by dsimp only; omega, by dsimp only; omega, zn, zl⟩
theorem Xf {p : Int} (h0 : 0 ≤ p) (h1 : p ≤ 999900000) : ∀ (n : Nat) {k : Nat} {x : Vd}, rk k p x → k + n ≤ 1000 → rk (k + n) p (NP n x)
 | 0, k, x, q, _ => q
 | n + 1, k, x, q, h => by
   have e : k + (n + 1) = k + 1 + n := by omega
   rw [e]
   exact Xf h0 h1 n (Sr q (by omega) h0 h1) (by omega)
theorem RE {n i : Nat} {x : Vd} (h : i < n) : NP (n - i) x = NP (n - (i + 1)) (Xe x) := by
 have e : n - i = (n - (i + 1)) + 1 := by omega
 rw [e]; rfl
theorem ft {r : Rd} {cs : List Cf} (h : QF cs) : rk 0 r.p (r, EC cs, []) := ⟨Mp h, Int.le_refl _, by dsimp only; omega, Nat.le_refl _, fun _ q => by cases q⟩
noncomputable def PA (r : Rd) (cs : List Cf) (m : Int) : Vd := NP m.toNat (r, EC cs, [])
theorem HR (r : Rd) : QF (DE r) := by
 have e : E6 (Ah r 5) = DE r := rfl
 obtain ⟨h1, h2⟩ := Sg (Ah r 5)
 obtain ⟨_, h3, h4⟩ := NC (Ah r 5)
 have h5 := bp (Ah r 5)
 rw [e] at h1 h4 h5
 exact ⟨⟨by omega, fun c hc => R6 (h1 c hc)⟩, h1, h5⟩
def j9 : Mt := H1 (lc ER (lc JS.asl (lc BU l0))) (fun p => (0 ≤ p.1.p ∧ p.1.p ≤ 999800000) ∧ QF p.2.1 ∧ 0 ≤ p.2.2.1 ∧ p.2.2.1 ≤ 1000) (fun p => ([ER.enc (PA p.1 p.2.1 p.2.2.1).1, JS.asl.enc p.2.1, BU.enc p.2.2.1], .o false 10 ((PA p.1 p.2.1 p.2.2.1).2.2.map C2)))
section
attribute [local go_sem] IJ WN kG WH WO AO B2 BK BM BT Bv Cy Bp Bt lm List.length_append List.length_cons List.length_nil List.map_append List.map_nil Nat.zero_add List.nil_append AS.opn AS.cls AS.nilb AS.renb AS.up Bool.not_false Bool.not_true List.set_set List.set_cons_zero List.set_cons_succ List.set_nil List.mem_singleton forall_eq N4 KH IE Fy Fx G3.eq_1 CN Ai
set_option maxHeartbeats 6400000 in
theorem qT {G : Gt} (hG : Ac G) (hh : G.e 71 = AW IJ ∧ G.e 187 = AA 1 WN ∧ G.e 205 = AW kG ∧ G.e 158 = AA 1 WH ∧ G.e 188 = AW WO) : Gd G 186 (AW j9) := by
 refine Ke (dp := fun n => !(Nat.beq n 100002 || Nat.beq n 100005 || Nat.beq n 15 || Nat.beq n 41 || Nat.beq n 42)) (fn := Tryz.f186) (n := 3) rfl hG ?_
 rintro ⟨r, cs, m, ⟨⟩⟩ hpre
 obtain ⟨⟨h1, h2⟩, hc, hm0, hm1⟩ := hpre
 try dsimp only at h1 h2 hc hm0 hm1 ⊢
 simp -implicitDefEqProofs only [Tryz.f186, go_sem, hh, Int.reduceAdd, seval]
 with_reducible repeat' (first | apply ai | intro _ | ((first | apply s1 | apply s2 | apply s3 | apply s4) <;> intro hb <;> simp -implicitDefEqProofs only [hb, go_sem, hh, Int.reduceAdd, seval] <;> try simp only [qz] at hb))
 all_goals first | with_reducible rfl | omega | with_reducible assumption | (show _ = true; rfl) | contradiction | decide | skip
 refine Am (Le.frzL [1014, 2014]) (Af ?_)
 simp -implicitDefEqProofs only [go_sem, hh, Int.reduceAdd, seval]
 with_reducible repeat' (first | apply ai | intro _ | ((first | apply s1 | apply s2 | apply s3 | apply s4) <;> intro hb <;> simp -implicitDefEqProofs only [hb, go_sem, hh, Int.reduceAdd, seval] <;> try simp only [qz] at hb))
 all_goals first | with_reducible rfl | omega | with_reducible assumption | (show _ = true; rfl) | contradiction | decide | skip
 refine AC [(8, 908, false, 10)] (ι := {p : Nat × Vd // p.1 ≤ m.toNat ∧ rk p.1 r.p p.2 ∧ NP (m.toNat - p.1) p.2 = PA r cs m}) (fun p => ⟨[(0, .pb 1900 0), (2, .t (.v (.int .i64 m))), (7, .pb 1007 0), (8, .h 908), (9, .t (.v (.int .i64 p.1.1)))], [(1900, some (.box [.t (.sl 1 (p.1.2.1.b.map CO)), .t (.v (.int .i64 p.1.2.1.p))])), (1007, some (.box [.t (.sl 7 (p.1.2.2.1.hosts.map AY)), .t (.v (.int .i64 p.1.2.2.1.now)), .t (.v (.int .i64 p.1.2.2.1.marks)), .t (.sl 3 (p.1.2.2.1.given.map Ae))])), (908, some (.arr false 10 (p.1.2.2.2.map C2)))]⟩) (fun p => m.toNat - p.1.1) ⟨(0, (r, EC cs, [])), Nat.zero_le _, ft hc, rfl⟩ rfl ?_ ?_
 ·simp -implicitDefEqProofs only [go_sem, hh, Int.reduceAdd, seval]
  first | (simp; done) | skip
 ·rintro ⟨⟨i, q, w, l⟩, hi, hx, hv⟩
  dsimp only at hi hx hv
  have hxw := BG (M := 1000000) hx.1 (by omega)
  have hxl : 1 ≤ w.hosts.length ∧ w.hosts.length ≤ 4 := hx.1.2.1
  have hxo := QR hx.1 (by omega)
  have hxp : r.p ≤ q.p ∧ q.p ≤ r.p + 40 * i := ⟨hx.2.1, hx.2.2.1⟩
  have hxn : l.length ≤ i := hx.2.2.2.1
  obtain ⟨z1, z2, z3, z4⟩ := XX (r := q) (w := w) (by omega) (by omega)
  by_cases hlt : i < m.toNat
  ·have hlt2 : (i : Int) < m := by omega
   cases hd : (EA w (CF q w).1).2
   ·by_cases hp : Ah (CF q w).2 6 > 0
    ·simp -implicitDefEqProofs only [hlt2, hd, hp, Bool.not_false, Bool.not_true, eq_self, decide_true, decide_false, go_sem, hh, Int.reduceAdd, seval]
     with_reducible repeat' (first | apply ai | intro _ | ((first | apply s1 | apply s2 | apply s3 | apply s4) <;> intro hb <;> simp -implicitDefEqProofs only [hb, go_sem, hh, Int.reduceAdd, seval] <;> try simp only [qz] at hb))
     all_goals (try simp only [maxLen, tn, lm] at *)
     all_goals first | with_reducible rfl | omega | with_reducible assumption | (show _ = true; rfl) | contradiction | decide | exact ⟨hxw, z1⟩ | skip
     refine Af ?_
     simp -implicitDefEqProofs only [go_sem, hh, Int.reduceAdd, seval]
     with_reducible repeat' (first | apply ai | intro _ | ((first | apply s1 | apply s2 | apply s3 | apply s4) <;> intro hb <;> simp -implicitDefEqProofs only [hb, go_sem, hh, Int.reduceAdd, seval] <;> try simp only [qz] at hb))
     all_goals first | with_reducible rfl | omega | with_reducible assumption | (show _ = true; rfl) | contradiction | decide | skip
     refine ⟨⟨(i + 1, Xe (q, w, l)), by dsimp only; omega, Sr hx (by omega) h1 (by omega), (RE hlt).symm.trans hv⟩, by dsimp only; omega, ?_⟩
     simp -implicitDefEqProofs only [go_sem, hh, Int.reduceAdd, seval]
     simp only [fw hd hp, AO, B2]
     first | (simp; done) | skip
    ·simp -implicitDefEqProofs only [hlt2, hd, hp, Bool.not_false, Bool.not_true, eq_self, decide_true, decide_false, go_sem, hh, Int.reduceAdd, seval]
     with_reducible repeat' (first | apply ai | intro _ | ((first | apply s1 | apply s2 | apply s3 | apply s4) <;> intro hb <;> simp -implicitDefEqProofs only [hb, go_sem, hh, Int.reduceAdd, seval] <;> try simp only [qz] at hb))
     all_goals (try simp only [maxLen, tn, lm] at *)
     all_goals first | with_reducible rfl | omega | with_reducible assumption | (show _ = true; rfl) | contradiction | decide | exact ⟨hxw, z1⟩ | skip
     refine Am (Le.frzL [1028, 2028]) (Af ?_)
     simp -implicitDefEqProofs only [go_sem, hh, Int.reduceAdd, seval]
     with_reducible repeat' (first | apply ai | intro _ | ((first | apply s1 | apply s2 | apply s3 | apply s4) <;> intro hb <;> simp -implicitDefEqProofs only [hb, go_sem, hh, Int.reduceAdd, seval] <;> try simp only [qz] at hb))
     all_goals first | with_reducible rfl | omega | with_reducible assumption | (show _ = true; rfl) | contradiction | decide | skip
     refine ⟨⟨(i + 1, Xe (q, w, l)), by dsimp only; omega, Sr hx (by omega) h1 (by omega), (RE hlt).symm.trans hv⟩, by dsimp only; omega, ?_⟩
     simp -implicitDefEqProofs only [go_sem, hh, Int.reduceAdd, seval]
     simp only [fu hd hp, AO, B2]
     first | (simp [C2]; done) | skip
   ·simp -implicitDefEqProofs only [hlt2, hd, Bool.not_false, Bool.not_true, eq_self, decide_true, decide_false, go_sem, hh, Int.reduceAdd, seval]
    with_reducible repeat' (first | apply ai | intro _ | ((first | apply s1 | apply s2 | apply s3 | apply s4) <;> intro hb <;> simp -implicitDefEqProofs only [hb, go_sem, hh, Int.reduceAdd, seval] <;> try simp only [qz] at hb))
    all_goals (try simp only [maxLen, tn, lm] at *)
    all_goals first | with_reducible rfl | omega | with_reducible assumption | (show _ = true; rfl) | contradiction | decide | exact ⟨hxw, z1⟩ | skip
    refine Am (Le.frzL [1028, 2028]) (Af ?_)
    simp -implicitDefEqProofs only [go_sem, hh, Int.reduceAdd, seval]
    with_reducible repeat' (first | apply ai | intro _ | ((first | apply s1 | apply s2 | apply s3 | apply s4) <;> intro hb <;> simp -implicitDefEqProofs only [hb, go_sem, hh, Int.reduceAdd, seval] <;> try simp only [qz] at hb))
    all_goals first | with_reducible rfl | omega | with_reducible assumption | (show _ = true; rfl) | contradiction | decide | skip
    refine ⟨⟨(i + 1, Xe (q, w, l)), by dsimp only; omega, Sr hx (by omega) h1 (by omega), (RE hlt).symm.trans hv⟩, by dsimp only; omega, ?_⟩
    simp -implicitDefEqProofs only [go_sem, hh, Int.reduceAdd, seval]
    simp only [fx hd, AO, B2]
    first | (simp [C2]; done) | skip
  ·have hlt2 : ¬ (i : Int) < m := by omega
   have e0 : m.toNat - i = 0 := by omega
   rw [e0, NP] at hv
   obtain ⟨rfl, rfl, rfl⟩ : q = (PA r cs m).1 ∧ w = (PA r cs m).2.1 ∧ l = (PA r cs m).2.2 := by rw [← hv]; exact ⟨rfl, rfl, rfl⟩
   simp -implicitDefEqProofs only [hlt2, eq_self, decide_true, decide_false, go_sem, hh, Int.reduceAdd, seval]
   with_reducible repeat' (first | apply ai | intro _ | ((first | apply s1 | apply s2 | apply s3 | apply s4) <;> intro hb <;> simp -implicitDefEqProofs only [hb, go_sem, hh, Int.reduceAdd, seval] <;> try simp only [qz] at hb))
   all_goals (try simp only [maxLen, tn] at *)
   all_goals first | with_reducible rfl | omega | with_reducible assumption | (show _ = true; rfl) | contradiction | decide | skip
end
noncomputable def G6 (r : Rd) : Vd := PA (r.nx 2) (DE r) (HB (r.nx 1) [0, 12, 30, 60])
theorem vc {r : Rd} (h : 0 ≤ r.p) (h1 : r.p ≤ 999999900) : 0 ≤ HB (r.nx 1) [0, 12, 30, 60] ∧ HB (r.nx 1) [0, 12, 30, 60] ≤ 60 := by
 have z := Ji (r := r.nx 1) (l := [0, 12, 30, 60]) (by rw [AO]; omega) (by rw [AO]; omega) (by decide)
 simp only [List.mem_cons, List.not_mem_nil, or_false] at z
 omega
theorem TX {r : Rd} (h : 0 ≤ r.p) (h1 : r.p ≤ 999800000) : (∀ e ∈ (G6 r).2.2, ac e) ∧ (G6 r).2.2.length ≤ 60 ∧ r.p ≤ (G6 r).1.p ∧ (G6 r).1.p ≤ r.p + 2500 := by
 have hm := vc h (by omega)
 have z := Xf (p := (r.nx 2).p) (by rw [AO]; omega) (by rw [AO]; omega) (HB (r.nx 1) [0, 12, 30, 60]).toNat (ft (r := r.nx 2) (HR r)) (by omega)
 obtain ⟨_, z2, z3, z4, z5⟩ := z
 rw [AO] at z2 z3
 exact ⟨z5, Nat.le_trans z4 (by omega), by show r.p ≤ (NP _ _).1.p; omega, by show (NP _ _).1.p ≤ _; omega⟩
theorem mU (r : Rd) : PA (r.nx 2) (DE r) (HB (r.nx 1) [0, 12, 30, 60]) = G6 r := rfl
noncomputable def DK (r : Rd) : Wd := va (DE r) (G6 r).2.2
theorem wd (r : Rd) : va (DE r) (G6 r).2.2 = DK r := rfl
theorem Md (r : Rd) : Gh 1600 (DK r) := vb (HR r) _
def jx : Mt := H1 (lc ER l0) (fun p => 0 ≤ p.1.p ∧ p.1.p ≤ 999700000) (fun p => ([ER.enc (G6 p.1).1], .tup [.t (.sl 3 ((DE p.1).map DT)), .o false 10 ((G6 p.1).2.2.map C2)]))
section
attribute [local go_sem] WV WL j9 AO B2 BK BM BT Bv Cy Bp Bt lm List.length_append List.length_cons List.length_nil List.map_append List.map_nil Nat.zero_add List.nil_append AS.opn AS.cls AS.nilb AS.renb AS.up Bool.not_false Bool.not_true List.set_set List.set_cons_zero List.set_cons_succ List.set_nil List.mem_singleton forall_eq CN Gv mU KP KQ KR Fd Fe
set_option maxHeartbeats 1600000 in
theorem p9 {G : Gt} (hG : Ac G) (hh : G.e 24 = AW WV ∧ G.e 172 = AW WL ∧ G.e 186 = AW j9) : Gd G 157 (AW jx) := by
 refine Ke (dp := fun n => !(Nat.beq n 100002)) (fn := Tryz.f157) (n := 1) rfl hG ?_
 rintro ⟨r, ⟨⟩⟩ hpre
 obtain ⟨h1, h2⟩ := hpre
 try dsimp only at h1 h2 ⊢
 have hm := vc h1 (by omega)
 have hc := HR r
 simp -implicitDefEqProofs only [Tryz.f157, go_sem, hh, Int.reduceAdd, seval]
 with_reducible repeat' (first | apply ai | intro _ | ((first | apply s1 | apply s2 | apply s3 | apply s4) <;> intro hb <;> simp -implicitDefEqProofs only [hb, go_sem, hh, Int.reduceAdd, seval] <;> try simp only [qz] at hb))
 all_goals first | with_reducible rfl | omega | with_reducible assumption | (show _ = true; rfl) | contradiction | decide | skip
 refine Am (Le.frzL [1006]) (Af ?_)
 simp -implicitDefEqProofs only [go_sem, hh, Int.reduceAdd, seval]
 with_reducible repeat' (first | apply ai | intro _ | ((first | apply s1 | apply s2 | apply s3 | apply s4) <;> intro hb <;> simp -implicitDefEqProofs only [hb, go_sem, hh, Int.reduceAdd, seval] <;> try simp only [qz] at hb))
 all_goals (try simp only [maxLen, tn] at *)
 all_goals first | with_reducible rfl | omega | with_reducible assumption | (show _ = true; rfl) | contradiction | decide | skip
end
def jX : Mt := H1 (lc ER l0) (fun p => 0 ≤ p.1.p ∧ p.1.p ≤ 999600000) (fun p => ([ER.enc (G6 p.1).1], Hk (DK p.1)))
section
attribute [local go_sem] jx jy WH AO B2 BK BM BT Bv Cy Bp Bt lm List.length_append List.length_cons List.length_nil List.map_append List.map_nil Nat.zero_add List.nil_append AS.opn AS.cls AS.nilb AS.renb AS.up Bool.not_false Bool.not_true List.set_set List.set_cons_zero List.set_cons_succ List.set_nil List.mem_singleton forall_eq CN N4 wd
set_option maxHeartbeats 1600000 in
theorem pK {G : Gt} (hG : Ac G) (hh : G.e 157 = AW jx ∧ G.e 159 = AA 1 jy ∧ G.e 158 = AA 1 WH) : Gd G 111 (AW jX) := by
 refine Ke (dp := fun _ => true) (fn := Tryz.f111) (n := 1) rfl hG ?_
 rintro ⟨r, ⟨⟩⟩ hpre
 obtain ⟨h1, h2⟩ := hpre
 try dsimp only at h1 h2 ⊢
 have hc := HR r
 obtain ⟨he, hl, _, _⟩ := TX h1 (by omega)
 have hw := QR (Md r) (by decide)
 simp -implicitDefEqProofs only [Tryz.f111, go_sem, hh, Int.reduceAdd, seval]
 with_reducible repeat' (first | apply ai | intro _ | ((first | apply s1 | apply s2 | apply s3 | apply s4) <;> intro hb <;> simp -implicitDefEqProofs only [hb, go_sem, hh, Int.reduceAdd, seval] <;> try simp only [qz] at hb))
 all_goals (try simp only [maxLen, tn] at *)
 all_goals first | with_reducible rfl | omega | with_reducible assumption | (show _ = true; rfl) | contradiction | decide | exact ⟨hc, he, by omega⟩ | exact he _ (by assumption) | skip
end
noncomputable def FO (r : Rd) : Rd := (G6 r).1
noncomputable def V1 (r : Rd) : Int := Ah (FO r) (DK r).hosts.length
noncomputable def Gp (r : Rd) : Int := Ah ((FO r).nx 1) 14
noncomputable abbrev UB (r : Rd) : Hs := (DK r).hosts.getD (V1 r).toNat default
noncomputable def aw (r : Rd) : Wd × Rd :=
 if Gp r = 0 then (⟨(DK r).hosts.set (V1 r).toNat ⟨(UB r).conf, (Ll ((FO r).nx 2)).1, (UB r).boxes, (UB r).lost⟩, (DK r).now, (DK r).marks, (DK r).given⟩, (Ll ((FO r).nx 2)).2)
 else if Gp r = 1 then (⟨(DK r).hosts.set (V1 r).toNat ⟨(Dm ((FO r).nx 2)).1, (UB r).spool, (UB r).boxes, (UB r).lost⟩, (DK r).now, (DK r).marks, (DK r).given⟩, (Dm ((FO r).nx 2)).2)
 else if Gp r = 2 then (⟨(DK r).hosts, HB ((FO r).nx 2) [-1, 10000, 9990], (DK r).marks, (DK r).given⟩, (FO r).nx 3)
 else if Gp r = 3 then (⟨(DK r).hosts, (DK r).now, (DK r).marks, (DK r).given ++ [⟨OH ((FO r).nx 2) [⟨#[]⟩, ⟨#[73, 100, 58, 32, 57]⟩, ⟨#[73, 100, 58, 32]⟩], (C0 ((FO r).nx 3)).1⟩]⟩, (C0 ((FO r).nx 3)).2)
 else if Gp r = 4 then (⟨[], (DK r).now, (DK r).marks, (DK r).given⟩, (FO r).nx 2)
 else (DK r, (FO r).nx 2)
section
variable {r : Rd}
theorem jB (c : Gp r = 0) : aw r = (⟨(DK r).hosts.set (V1 r).toNat ⟨(UB r).conf, (Ll ((FO r).nx 2)).1, (UB r).boxes, (UB r).lost⟩, (DK r).now, (DK r).marks, (DK r).given⟩, (Ll ((FO r).nx 2)).2) := if_pos c
theorem jC (c : Gp r = 1) : aw r = (⟨(DK r).hosts.set (V1 r).toNat ⟨(Dm ((FO r).nx 2)).1, (UB r).spool, (UB r).boxes, (UB r).lost⟩, (DK r).now, (DK r).marks, (DK r).given⟩, (Dm ((FO r).nx 2)).2) := by unfold aw; rw [if_neg (by omega), if_pos c]
theorem jD (c : Gp r = 2) : aw r = (⟨(DK r).hosts, HB ((FO r).nx 2) [-1, 10000, 9990], (DK r).marks, (DK r).given⟩, (FO r).nx 3) := by unfold aw; rw [if_neg (by omega), if_neg (by omega), if_pos c]
theorem jE (c : Gp r = 3) : aw r = (⟨(DK r).hosts, (DK r).now, (DK r).marks, (DK r).given ++ [⟨OH ((FO r).nx 2) [⟨#[]⟩, ⟨#[73, 100, 58, 32, 57]⟩, ⟨#[73, 100, 58, 32]⟩], (C0 ((FO r).nx 3)).1⟩]⟩, (C0 ((FO r).nx 3)).2) := by unfold aw; rw [if_neg (by omega), if_neg (by omega), if_neg (by omega), if_pos c]
theorem jF (c : Gp r = 4) : aw r = (⟨[], (DK r).now, (DK r).marks, (DK r).given⟩, (FO r).nx 2) := by unfold aw; rw [if_neg (by omega), if_neg (by omega), if_neg (by omega), if_neg (by omega), if_pos c]
theorem jG (c : ¬ Gp r = 0 ∧ ¬ Gp r = 1 ∧ ¬ Gp r = 2 ∧ ¬ Gp r = 3 ∧ ¬ Gp r = 4) : aw r = (DK r, (FO r).nx 2) := by unfold aw; rw [if_neg (by omega), if_neg (by omega), if_neg (by omega), if_neg (by omega), if_neg (by omega)]
end
theorem sW (r : Rd) : (G6 r).1 = FO r := rfl
theorem sV (r : Rd) : Ah (FO r) (DK r).hosts.length = V1 r := rfl
theorem sU (r : Rd) : Ah ((FO r).nx 1) 14 = Gp r := rfl
theorem V3 {r : Rd} (h : 0 ≤ r.p) (h1 : r.p ≤ 999500000) : r.p ≤ (FO r).p ∧ (FO r).p ≤ r.p + 2500 := (TX h (by omega)).2.2
theorem V2 {r : Rd} (h : 0 ≤ r.p) (h1 : r.p ≤ 999500000) : 0 ≤ V1 r ∧ V1 r < (DK r).hosts.length := by
 have hq := V3 h h1
 have hl := (Md r).2.1
 have z := CJ (r := FO r) (n := (DK r).hosts.length) (by omega) (by omega)
 exact ⟨z.1, z.2 (by omega)⟩
def xZ : Mt := H1 (lc ER l0) (fun p => 0 ≤ p.1.p ∧ p.1.p ≤ 999500000) (fun p => ([ER.enc (aw p.1).2], OM.ag.enc (aw p.1).1))
section
attribute [local go_sem] IJ WV IH jX jY xj jZ AO B2 BK BM BT Bv Cy Bp Bt lm List.length_append List.length_cons List.length_nil List.map_append List.map_nil Nat.zero_add List.nil_append AS.opn AS.cls AS.nilb AS.renb AS.up Bool.not_false Bool.not_true List.set_set List.set_cons_zero List.set_cons_succ List.set_nil List.mem_singleton forall_eq sW sV sU N4 Gv Gw Ai Bh LF KP KQ KR Fd Fe
set_option maxHeartbeats 6400000 in
theorem uG {G : Gt} (hG : Ac G) (hh : G.e 71 = AW IJ ∧ G.e 24 = AW WV ∧ G.e 113 = AW IH ∧ G.e 111 = AW jX ∧ G.e 112 = AW jY ∧ G.e 70 = AW xj ∧ G.e 114 = AW jZ) : Gd G 51 (AW xZ) := by
 refine Ke (dp := fun _ => true) (fn := Tryz.f51) (n := 1) rfl hG ?_
 rintro ⟨r, ⟨⟩⟩ hpre
 obtain ⟨h1, h2⟩ := hpre
 try dsimp only at h1 h2 ⊢
 have hq := V3 h1 (by omega)
 have hk := V2 h1 (by omega)
 have hl := (Md r).2.1
 have hg := (Md r).2.2.2.2.1
 by_cases c0 : Gp r = 0
 ·skip
  rw [jB c0]
  simp -implicitDefEqProofs only [Tryz.f51, c0, eq_self, decide_true, decide_false, Int.reduceEq, go_sem, hh, Int.reduceAdd, seval]
  with_reducible repeat' (first | apply ai | intro _ | ((first | apply s1 | apply s2 | apply s3 | apply s4) <;> intro hb <;> simp -implicitDefEqProofs only [hb, go_sem, hh, Int.reduceAdd, seval] <;> try simp only [qz] at hb))
  all_goals (try simp only [maxLen, tn] at *)
  all_goals first | with_reducible rfl | omega | with_reducible assumption | (show _ = true; rfl) | contradiction | decide | exact hk.1 | exact hk.2 | skip
 ·by_cases c1 : Gp r = 1
  ·skip
   rw [jC c1]
   simp -implicitDefEqProofs only [Tryz.f51, c0, c1, eq_self, decide_true, decide_false, Int.reduceEq, go_sem, hh, Int.reduceAdd, seval]
   with_reducible repeat' (first | apply ai | intro _ | ((first | apply s1 | apply s2 | apply s3 | apply s4) <;> intro hb <;> simp -implicitDefEqProofs only [hb, go_sem, hh, Int.reduceAdd, seval] <;> try simp only [qz] at hb))
   all_goals (try simp only [maxLen, tn] at *)
   all_goals first | with_reducible rfl | omega | with_reducible assumption | (show _ = true; rfl) | contradiction | decide | exact hk.1 | exact hk.2 | skip
  ·by_cases c2 : Gp r = 2
   ·skip
    rw [jD c2]
    simp -implicitDefEqProofs only [Tryz.f51, c0, c1, c2, eq_self, decide_true, decide_false, Int.reduceEq, go_sem, hh, Int.reduceAdd, seval]
    with_reducible repeat' (first | apply ai | intro _ | ((first | apply s1 | apply s2 | apply s3 | apply s4) <;> intro hb <;> simp -implicitDefEqProofs only [hb, go_sem, hh, Int.reduceAdd, seval] <;> try simp only [qz] at hb))
    all_goals (try simp only [maxLen, tn] at *)
    all_goals first | with_reducible rfl | omega | with_reducible assumption | (show _ = true; rfl) | contradiction | decide | exact hk.1 | exact hk.2 | skip
   ·by_cases c3 : Gp r = 3
    ·skip
     rw [jE c3]
     simp -implicitDefEqProofs only [Tryz.f51, c0, c1, c2, c3, eq_self, decide_true, decide_false, Int.reduceEq, go_sem, hh, Int.reduceAdd, seval]
     with_reducible repeat' (first | apply ai | intro _ | ((first | apply s1 | apply s2 | apply s3 | apply s4) <;> intro hb <;> simp -implicitDefEqProofs only [hb, go_sem, hh, Int.reduceAdd, seval] <;> try simp only [qz] at hb))
     all_goals (try simp only [maxLen, tn] at *)
     all_goals first | with_reducible rfl | omega | with_reducible assumption | (show _ = true; rfl) | contradiction | decide | exact hk.1 | exact hk.2 | skip
    ·by_cases c4 : Gp r = 4
     ·skip
      rw [jF c4]
      simp -implicitDefEqProofs only [Tryz.f51, c0, c1, c2, c3, c4, eq_self, decide_true, decide_false, Int.reduceEq, go_sem, hh, Int.reduceAdd, seval]
      with_reducible repeat' (first | apply ai | intro _ | ((first | apply s1 | apply s2 | apply s3 | apply s4) <;> intro hb <;> simp -implicitDefEqProofs only [hb, go_sem, hh, Int.reduceAdd, seval] <;> try simp only [qz] at hb))
      all_goals (try simp only [maxLen, tn] at *)
      all_goals first | with_reducible rfl | omega | with_reducible assumption | (show _ = true; rfl) | contradiction | decide | exact hk.1 | exact hk.2 | skip
     ·skip
      rw [jG ⟨c0, c1, c2, c3, c4⟩]
      simp -implicitDefEqProofs only [Tryz.f51, c0, c1, c2, c3, c4, eq_self, decide_true, decide_false, Int.reduceEq, go_sem, hh, Int.reduceAdd, seval]
      with_reducible repeat' (first | apply ai | intro _ | ((first | apply s1 | apply s2 | apply s3 | apply s4) <;> intro hb <;> simp -implicitDefEqProofs only [hb, go_sem, hh, Int.reduceAdd, seval] <;> try simp only [qz] at hb))
      all_goals (try simp only [maxLen, tn] at *)
      all_goals first | with_reducible rfl | omega | with_reducible assumption | (show _ = true; rfl) | contradiction | decide | exact hk.1 | exact hk.2 | skip
end
theorem Vu {r : Rd} (h : 0 ≤ r.p) (h1 : r.p ≤ 999999900) : H6 (C0 r).1 ∧ (C0 r).2.b = r.b ∧ r.p + 3 ≤ (C0 r).2.p ∧ (C0 r).2.p ≤ r.p + 4 := by
 have z := CT (.inl (Qb (r := r) h (by omega)))
 have key : ∀ (l : List ByteArray), 1 ≤ l.length → (∀ x ∈ l, x.size ≤ 1048576) → Bg (OH (r.nx 3) l) := fun l hl q => q _ (Hb (by rw [AO]; omega) (by rw [AO]; omega) hl)
 by_cases q0 : Ah (r.nx 2) 10 = 0
 ·rw [SM q0]
  exact ⟨⟨key _ (by decide) (by decide), z.2⟩, rfl, by rw [AO]; omega, by rw [AO]; omega⟩
 ·by_cases q1 : Ah (r.nx 2) 10 = 1
  ·rw [SN q0 q1]
   exact ⟨⟨z.1, key _ (by decide) (by decide)⟩, rfl, by rw [AO]; omega, by rw [AO]; omega⟩
  ·by_cases q2 : Ah (r.nx 2) 10 = 2
   ·rw [SO q0 q1 q2]
    exact ⟨CT (.inr ⟨rfl, rfl⟩), rfl, by rw [AO]; omega, by rw [AO]; omega⟩
   ·rw [SP q0 q1 q2]
    exact ⟨z, rfl, by rw [AO]; omega, by rw [AO]; omega⟩
theorem WZ {c : Cf} (h : Ow c = true) : Mu c ∧ c.own.length ≤ 10 ∧ c.ways.length ≤ 10 := by
 unfold Ow at h
 simp only [Bool.and_eq_true, Nat.ble_eq, List.all_eq_true] at h
 obtain ⟨z1, z2, z3, z4, z5⟩ := h
 exact ⟨⟨by show c.name.size ≤ 1048576; omega, ⟨by omega, fun s hs => by have := z3 s hs; show s.size ≤ 1048576; omega⟩, ⟨by omega, fun w hw => ⟨by have := (z5 w hw).1; show w.ends.size ≤ 1048576; omega, by have := (z5 w hw).2; show w.to.size ≤ 1048576; omega⟩⟩⟩, z2, z4⟩
theorem yK {r : Rd} {l : List ByteArray} (h0 : 0 ≤ r.p) (h1 : r.p ≤ 1000000000) (hl : l.all (fun s => Nat.ble s.size 100) = true) (hn : 1 ≤ l.length) : Bg (OH r l) := by
 have := List.all_eq_true.1 hl _ (Hb h0 h1 hn)
 simp only [Nat.ble_eq] at this
 show (OH r l).size ≤ 1048576
 omega
theorem Vv {r : Rd} (h : 0 ≤ r.p) (h1 : r.p ≤ 999980000) : Mu (Dm r).1 := by
 obtain ⟨z, z1, z2⟩ := WZ (fJ h (show r.p ≤ 999999000 by omega))
 by_cases c0 : Ah (r.nx 2) 10 = 0
 ·rw [SQ c0]; exact ⟨yK (by rw [AO]; omega) (by rw [AO]; omega) (by decide +kernel) (by decide), z.2.1, z.2.2⟩
 ·by_cases c1 : Ah (r.nx 2) 10 = 1
  ·rw [SR c1]
   refine ⟨z.1, ⟨by show ((_ ++ _ : List ByteArray).length : Int) ≤ _; rw [List.length_append]; simp; omega, fun s hs => ?_⟩, z.2.2⟩
   rcases List.mem_append.1 hs with hs | hs
   ·exact z.2.1.2 s hs
   ·simp only [List.mem_cons, List.not_mem_nil, or_false] at hs
    rcases hs with rfl | rfl <;> (show ByteArray.size _ ≤ 1048576; decide)
  ·by_cases c2 : Ah (r.nx 2) 10 = 2
   ·rw [SS c2]
    refine ⟨z.1, z.2.1, ⟨by show ((_ ++ _ : List Wy).length : Int) ≤ _; rw [List.length_append]; simp; omega, fun s hs => ?_⟩⟩
    rcases List.mem_append.1 hs with hs | hs
    ·exact z.2.2.2 s hs
    ·simp only [List.mem_singleton] at hs
     subst hs
     exact ⟨yK (by rw [AO]; omega) (by rw [AO]; omega) (by decide +kernel) (by decide), by show (⟨#[116, 119, 111, 46, 111, 114, 103]⟩ : ByteArray).size ≤ 1048576; decide⟩
   ·rw [ST ⟨c0, c1, c2⟩]; exact z
theorem SE {α : Type} {P : α → Prop} {xs : List α} {i : Nat} {x : α} (h : HA P xs) (hx : P x) : HA P (xs.set i x) := ⟨by rw [List.length_set]; exact h.1, fun y hy => by
 rcases List.mem_or_eq_of_mem_set hy with hy | rfl
 ·exact h.2 y hy
 ·exact hx⟩
theorem sX {r : Rd} (h : 0 ≤ r.p) (h1 : r.p ≤ 999500000) : Gg (aw r).1 := by
 have hq := V3 h (by omega)
 have hk := V2 h (by omega)
 have z := QR (Md r) (by decide)
 have hH : FN (UB r) := z.1.2 _ (AB (by omega))
 have p2 : ((FO r).nx 2).p = (FO r).p + 2 := AO _ _
 have p3 : ((FO r).nx 3).p = (FO r).p + 3 := AO _ _
 by_cases c0 : Gp r = 0
 ·rw [jB c0]
  have q := (i7 (r := (FO r).nx 2) (by omega) (by omega)).1
  exact ⟨SE z.1 ⟨hH.1, q, hH.2.2⟩, z.2⟩
 ·by_cases c1 : Gp r = 1
  ·rw [jC c1]
   have q := Vv (r := (FO r).nx 2) (by omega) (by omega)
   exact ⟨SE z.1 ⟨q, hH.2⟩, z.2⟩
  ·by_cases c2 : Gp r = 2
   ·rw [jD c2]; exact z
   ·by_cases c3 : Gp r = 3
    ·rw [jE c3]
     have hg := (Md r).2.2.2.2.1
     have q := (Vu (r := (FO r).nx 3) (by omega) (by omega)).1
     refine ⟨z.1, ⟨by show ((_ ++ _ : List Ls).length : Int) ≤ _; rw [List.length_append]; simp; omega, fun l hl => ?_⟩⟩
     rcases List.mem_append.1 hl with hl | hl
     ·exact z.2.2 l hl
     ·simp only [List.mem_singleton] at hl
      subst hl
      exact ⟨yK (by omega) (by omega) (by decide +kernel) (by decide), q⟩
    ·by_cases c4 : Gp r = 4
     ·rw [jF c4]; exact ⟨⟨by show ((0 : Nat) : Int) ≤ _; decide, fun _ q => by cases q⟩, z.2⟩
     ·rw [jG ⟨c0, c1, c2, c3, c4⟩]; exact z
def Ep (g : Ls) (x : Im) : Prop := A6 x.body = g.mark ∧ (((∃ r ∈ x.to, r.addr = g.addr) ∧ ¬ Er x.body) ∨ (Er x.body ∧ Ei x.body = g.addr))
def H3 (g : Ls) (b : Bx) (m : Gm) : Prop := A6 m.body = g.mark ∧ ((Er m.body ∧ Ei m.body = g.addr) ∨ (b.addr = g.addr ∧ (¬ AN m.frm ∨ ¬ Er m.body)))
def DR (h : Hs) (g : Ls) : Prop := (∃ x ∈ h.spool.items, Ep g x) ∨ (∃ b ∈ h.boxes, ∃ m ∈ b.mails, H3 g b m) ∨ ∃ l ∈ h.lost, l.mark = g.mark
def wv (h : Hs) (g : Ls) : Prop := ∃ b ∈ h.boxes, b.addr = g.addr ∧ ∃ m ∈ b.mails, A6 m.body = g.mark ∧ (¬ AN m.frm ∨ ¬ Er m.body)
theorem R9 {h : Hs} {g : Ls} : ((∃ x ∈ h.spool.items, Ep g x) ∨ (∃ b ∈ h.boxes, ∃ m ∈ b.mails, A6 m.body = g.mark ∧ Er m.body ∧ Ei m.body = g.addr) ∨ (∃ l ∈ h.lost, l.mark = g.mark) ∨ wv h g) ↔ DR h g := by
 constructor
 ·rintro (q | ⟨b, hb, m, hm, q1, q2⟩ | q | ⟨b, hb, q0, m, hm, q1, q2⟩)
  ·exact .inl q
  ·exact .inr (.inl ⟨b, hb, m, hm, q1, .inl q2⟩)
  ·exact .inr (.inr q)
  ·exact .inr (.inl ⟨b, hb, m, hm, q1, .inr ⟨q0, q2⟩⟩)
 ·rintro (q | ⟨b, hb, m, hm, q1, q2 | ⟨q0, q2⟩⟩ | q)
  ·exact .inl q
  ·exact .inr (.inl ⟨b, hb, m, hm, q1, q2⟩)
  ·exact .inr (.inr (.inr ⟨b, hb, q0, m, hm, q1, q2⟩))
  ·exact .inr (.inr (.inl q))
theorem im {a b : Ad} : ((false != (decide (a.user = b.user) && decide (a.domain = b.domain))) = true) = (a = b) := by
 rw [BV]; simp
theorem io {a b : Ad} : ((false != (decide (a.user = b.user) && decide (a.domain = b.domain))) = false) = ¬ a = b := by
 rw [BV]; simp
theorem T5 {a b : Ad} : ((decide (a.user = b.user) && decide (a.domain = b.domain)) = true) = (a = b) := by
 rw [BV]; simp
theorem T6 {a b : Ad} : ((decide (a.user = b.user) && decide (a.domain = b.domain)) = false) = ¬ a = b := by
 rw [BV]; simp
theorem Gb {α : Type} [Inhabited α] {xs : List α} {P : α → Prop} (h : ∀ j, j < xs.length → ¬ P (xs.getD j default)) : ¬ ∃ x ∈ xs, P x := fun ⟨x, hx, q⟩ => BH (P := fun x => ¬ P x) h x hx q
inductive QB where
 | same (g : Ls)
def QB.enc : QB → AV
 | .same g => .t (.fn 120 [.rop [.v (.string g.mark), .v (.string g.addr.user), .v (.string g.addr.domain)]])
def QB.dec : AV → Option QB
 | .t (.fn 120 [.rop [.v (.string g0), .v (.string g1), .v (.string g2)]]) => some (.same ⟨g0, ⟨g1, g2⟩⟩)
 | _ => none
def QB.sem : QB → Ls → Prop
 | .same g, x => x.mark = g.mark
def QB.pre : QB → Ls → Prop
 | .same _, x => True
def VQ : AD QB where
 enc := QB.enc
 dec := QB.dec
 ed := fun f => by cases f <;> rfl
 de := fun x f h => by
  unfold QB.dec at h
  split at h <;> cases h <;> rfl
theorem Mh {g0 : ByteArray} {g1 : ByteArray} {g2 : ByteArray} : VQ.dec (.t (.fn 120 [.rop [.v (.string g0), .v (.string g1), .v (.string g2)]])) = some (.same ⟨g0, ⟨g1, g2⟩⟩) := rfl
theorem Mi {g : Ls} : VQ.enc (.same g) = .t (.fn 120 [.rop [.v (.string g.mark), .v (.string g.addr.user), .v (.string g.addr.domain)]]) := rfl
def je : Ct := Aj (lc FR.ag (lc FR.ap l0)) (fun p => True) (fun p => .t (.v (.bool (BA (p.1.mark = p.2.1.mark)))))
section
attribute [local go_sem] BC BB Bool.not_true Bool.not_false Bc Cv
theorem pT {G : Gt} (hG : Ac G) : Gd G 120 (AA 0 je) := by
 refine gr (fn := Tryz.f120) (n := 2) rfl hG ?_
 rintro ⟨x, g, ⟨⟩⟩ hpre
 simp -implicitDefEqProofs only [Tryz.f120, go_sem, seval] at hpre ⊢
 with_reducible repeat' (first | apply ai | intro _ | ((first | apply s1 | apply s2 | apply s3 | apply s4) <;> intro hb <;> simp -implicitDefEqProofs only [hb, go_sem, seval] <;> try simp only [qz] at hb))
 all_goals first | rfl | omega | exact hpre | skip
 all_goals (try (simp only [D8]; done))
 all_goals first | rfl | (rw [A4]; done) | (rw [A4, decide_eq_decide.2]; simp [BV]; done) | (rw [A4]; simp [BV]; done)
end
def j2 : Ct := Aj (lc FR.asl (lc VQ l0)) (fun p => ∀ x ∈ p.1, p.2.1.pre x) (fun p => .t (.v (.int .i64 (BD p.2.1.sem 0 p.1))))
section
attribute [local go_sem] je BC BB Bool.not_true Bool.not_false Bc Cv Mh Mi
theorem qF {G : Gt} (hG : Ac G) (hh : G.e 120 = AA 0 je) : Gd G 163 (AA 0 j2) := by
 refine gr (fn := Tryz.f163) (n := 2) rfl hG ?_
 rintro ⟨xs, f, ⟨⟩⟩ hpre
 have hs := hpre
 dsimp only at hs ⊢
 cases f with
 | same g =>
   simp -implicitDefEqProofs only [Tryz.f163, go_sem, hh, seval]
   with_reducible repeat' (first | apply ai | intro _ | ((first | apply s1 | apply s2 | apply s3 | apply s4) <;> intro hb <;> simp -implicitDefEqProofs only [hb, go_sem, hh, seval] <;> try simp only [qz] at hb))
   all_goals first | rfl | omega | skip
   refine AC [] (ι := {i : Nat // i ≤ xs.length ∧ BD (QB.sem (.same g)) 0 xs = BD (QB.sem (.same g)) i (xs.drop i)}) (fun p => ⟨[(0, .t (.sl 3 (xs.map Ae))), (1, VQ.enc (.same g)), (7, .t (.v (.int .i64 xs.length))), (8, .t (.v (.int .i64 p.1)))], []⟩) (fun p => xs.length - p.1) ⟨0, Nat.zero_le _, rfl⟩ rfl ?_ ?_
   ·simp -implicitDefEqProofs only [go_sem, hh, seval]
    try simp
   ·rintro ⟨i, hi, hix⟩
    by_cases hlt : (i : Int) < xs.length
    ·have hm : xs.getD (i : Int).toNat default ∈ xs := AB (by omega)
     have hsz := hs _ hm
     cases hb : BA ((xs.getD (i : Int).toNat default).mark = g.mark)
     ·have hq := hb
      simp -implicitDefEqProofs only [hlt, hq, go_sem, hh, seval]
      with_reducible repeat' (first | apply ai | intro _ | ((first | apply s1 | apply s2 | apply s3 | apply s4) <;> intro hb <;> simp -implicitDefEqProofs only [hb, go_sem, hh, seval] <;> try simp only [qz] at hb))
      all_goals (try simp only [maxLen] at *)
      all_goals first | rfl | omega | with_reducible assumption | exact hsz | exact hsz.1 | exact hsz.2 | exact hsz.2 _ (by assumption) | exact hsz.2.1 | exact hsz.2.2.1 | exact hsz.2.2.2 | trivial | skip
      rw [AM, tn] at hb
      refine ⟨⟨i + 1, by omega, ?_⟩, by dsimp only; omega, ?_⟩
      ·rw [hix, DP (p := QB.sem (.same g)) (by omega) hb]
      ·simp -implicitDefEqProofs only [go_sem, hh, seval]
       try simp
     ·have hq := hb
      simp -implicitDefEqProofs only [hlt, hq, go_sem, hh, seval]
      with_reducible repeat' (first | apply ai | intro _ | ((first | apply s1 | apply s2 | apply s3 | apply s4) <;> intro hb <;> simp -implicitDefEqProofs only [hb, go_sem, hh, seval] <;> try simp only [qz] at hb))
      all_goals (try simp only [maxLen] at *)
      all_goals first | rfl | omega | with_reducible assumption | exact hsz | exact hsz.1 | exact hsz.2 | exact hsz.2 _ (by assumption) | exact hsz.2.1 | exact hsz.2.2.1 | exact hsz.2.2.2 | trivial | skip
      rw [AK, tn] at hb
      rw [hix, CX (p := QB.sem (.same g)) (by omega) hb]
    ·simp -implicitDefEqProofs only [hlt, go_sem, hh, seval]
     with_reducible repeat' (first | apply ai | intro _ | ((first | apply s1 | apply s2 | apply s3 | apply s4) <;> intro hb <;> simp -implicitDefEqProofs only [hb, go_sem, hh, seval] <;> try simp only [qz] at hb))
     all_goals first | rfl | omega | skip
     all_goals (rw [hix, CV (by omega)])
end
def jd : Ct := Aj (lc FR.asl (lc VQ l0)) (fun p => ∀ x ∈ p.1, p.2.1.pre x) (fun p => .t (.v (.bool (BA (∃ x ∈ p.1, p.2.1.sem x)))))
section
attribute [local go_sem] j2 BC BB Bool.not_true Bool.not_false Bc Cv Mh Mi
theorem pS {G : Gt} (hG : Ac G) (hh : G.e 163 = AA 0 j2) : Gd G 119 (AA 0 jd) := by
 refine gr (fn := Tryz.f119) (n := 2) rfl hG ?_
 rintro ⟨xs, f, ⟨⟩⟩ hpre
 dsimp only at hpre ⊢
 cases f
 all_goals
  simp -implicitDefEqProofs only [Tryz.f119, go_sem, hh, seval]
  with_reducible repeat' (first | apply ai | intro _ | ((first | apply s1 | apply s2 | apply s3 | apply s4) <;> intro hb <;> simp -implicitDefEqProofs only [hb, go_sem, hh, seval] <;> try simp only [qz] at hb))
  all_goals first | rfl | omega | exact hpre | exact hpre _ (by assumption) | skip
  all_goals (rw [← AP (CW _ 0)]; rw [A4])
end
def lC : Ct := Aj (lc Ao.asl l0) (fun p => (∀ s ∈ p.1, s.size ≤ 2000000) ∧ p.1.length ≤ 2000000) (fun p => .t (.v (.bool (BA (Er p.1)))))
section
attribute [local go_sem] WE
theorem uU {G : Gt} (hG : Ac G) (hh : G.e 125 = AA 0 WE) : Gd G 63 (AA 0 lC) := by
 refine gr (fn := Tryz.f63) (n := 1) rfl hG ?_
 rintro ⟨xs, ⟨⟩⟩ hpre
 simp -implicitDefEqProofs only [Tryz.f63, go_sem, hh, seval] at hpre ⊢
 obtain ⟨hpre, hlen⟩ := hpre
 with_reducible repeat' (first | apply ai | intro _ | ((first | apply s1 | apply s2 | apply s3 | apply s4) <;> intro hb <;> simp -implicitDefEqProofs only [hb, go_sem, hh, seval] <;> try simp only [qz] at hb))
 all_goals first
  | rfl
  | exact hpre _ (by assumption)
  | assumption
  | (refine uB ?_; simp; exact Tm)
  | skip
end
def sf : Ct := Aj (lc QI.ag l0) (fun p => ∀ s ∈ p.1.body, s.size ≤ 2000000) (fun p => .t (.v (.bool (BA (¬ AN p.1.frm ∨ ¬ Er p.1.body)))))
section
attribute [local go_sem] WD M6 AK AM N0
theorem uM {G : Gt} (hG : Ac G) (hh : G.e 116 = AA 0 WD ∧ G.e 103 = AA 0 M6) : Gd G 57 (AA 0 sf) := by
 refine gr (fn := Tryz.f57) (n := 1) rfl hG ?_
 rintro ⟨g, ⟨⟩⟩ hpre
 simp -implicitDefEqProofs only [Tryz.f57, go_sem, hh, seval] at hpre ⊢
 try dsimp only at hpre
 with_reducible repeat' (first | apply ai | intro _ | ((first | apply s1 | apply s2 | apply s3 | apply s4) <;> intro hb <;> simp -implicitDefEqProofs only [hb, go_sem, hh, seval] <;> try simp only [qz] at hb))
 all_goals (try simp only [AK, AM] at *)
 all_goals first
  | rfl
  | exact hpre _ (by assumption)
  | exact uT (.inl (by assumption))
  | exact uN ⟨fun q => .inr q, fun q => q.resolve_left (fun f => f (by assumption))⟩
  | skip
end
def jh : Ct := Aj (lc FM.ag (lc FR.ag l0)) (fun p => FN p.1) (fun p => .t (.v (.bool (BA (wv p.1 p.2.1)))))
section
attribute [local go_sem] Qr NB lC lm AK AM
set_option maxHeartbeats 3200000 in
theorem pd {G : Gt} (hG : Ac G) (hh : G.e 61 = AA 0 Qr ∧ G.e 62 = AA 0 NB ∧ G.e 63 = AA 0 lC) : Gd G 127 (AA 0 jh) := by
 refine gr (fn := Tryz.f127) (n := 2) rfl hG ?_
 rintro ⟨h, g, ⟨⟩⟩ hpre
 simp -implicitDefEqProofs only [Tryz.f127, go_sem, hh, seval] at hpre ⊢
 obtain ⟨zc, zs, ⟨lb, zb⟩, ⟨ll, zl⟩⟩ := hpre
 refine AC [] (ι := {i : Nat // i ≤ h.boxes.length ∧ ∀ j, j < i → ¬ ((h.boxes.getD j default).addr = g.addr ∧ ∃ m ∈ (h.boxes.getD j default).mails, A6 m.body = g.mark ∧ (¬ AN m.frm ∨ ¬ Er m.body))}) (fun p => ⟨[(2, .pb 1002 0), (3, .pb 1003 0), (5, .t (.v (.int .i64 p.1)))], [(1002, some (.box ((AY h).map .t))), (1003, some (.box ((Ae g).map .t)))]⟩) (fun p => h.boxes.length - p.1) ⟨0, by simp, by simp⟩ rfl ?_ ?_
 ·simp -implicitDefEqProofs only [go_sem, hh, seval]
  try simp
 ·rintro ⟨i, hi, hall⟩
  by_cases hlt : (i : Int) < h.boxes.length
  ·obtain ⟨_, ⟨lm, zm⟩⟩ := zb _ (AB (xs := h.boxes) (j := i) (by omega))
   simp -implicitDefEqProofs only [hlt, decide_true, tn, go_sem, hh, seval]
   with_reducible repeat' (first | apply ai | intro _ | ((first | apply s1 | apply s2 | apply s3 | apply s4) <;> intro hb <;> simp -implicitDefEqProofs only [hb, go_sem, hh, seval] <;> try simp only [qz] at hb))
   all_goals (try simp only [maxLen, tn] at *)
   all_goals first | rfl | omega | assumption | decide | skip
   refine AC [] (ι := {k : Nat // k ≤ (h.boxes.getD i default).mails.length ∧ (∀ j, j < k → ¬ (A6 ((h.boxes.getD i default).mails.getD j default).body = g.mark ∧ (¬ AN ((h.boxes.getD i default).mails.getD j default).frm ∨ ¬ Er ((h.boxes.getD i default).mails.getD j default).body)))}) (fun p => ⟨[(2, .pb 1002 0), (3, .pb 1003 0), (5, .t (.v (.int .i64 i))), (6, .t (.v (.int .i64 p.1)))], [(1002, some (.box ((AY h).map .t))), (1003, some (.box ((Ae g).map .t)))]⟩) (fun p => (h.boxes.getD i default).mails.length - p.1) ⟨0, by simp, by simp⟩ rfl ?_ ?_
   ·simp -implicitDefEqProofs only [go_sem, hh, seval]
    try simp
   ·rintro ⟨k, hk, hk2⟩
    by_cases hlt2 : (k : Int) < (h.boxes.getD i default).mails.length
    ·obtain ⟨_, ⟨lg, zg⟩⟩ := zm _ (AB (xs := (h.boxes.getD i default).mails) (j := k) (by omega))
     have y1 : ∀ s ∈ ((h.boxes.getD i default).mails.getD k default).body, s.size ≤ 2000000 := fun s hs => by have : s.size ≤ 1048576 := zg s hs; omega
     have y2 : ((h.boxes.getD i default).mails.getD k default).body.length ≤ 2000000 := by omega
     simp -implicitDefEqProofs only [hlt2, decide_true, tn, go_sem, hh, seval]
     with_reducible repeat' (first | apply ai | intro _ | ((first | apply s1 | apply s2 | apply s3 | apply s4) <;> intro hb <;> simp -implicitDefEqProofs only [hb, go_sem, hh, seval] <;> try simp only [qz] at hb))
     all_goals (try simp only [maxLen, tn, AK, AM] at *)
     all_goals (try simp only [im, io] at *)
     all_goals first
      | rfl
      | omega
      | decide
      | with_reducible assumption
      | exact y1 _ (by assumption)
      | exact uT ⟨h.boxes.getD i default, AB (by omega), by with_reducible assumption, (h.boxes.getD i default).mails.getD k default, AB (by omega), by with_reducible assumption, by first | exact .inl (by with_reducible assumption) | exact .inr (by with_reducible assumption)⟩
      | (refine ⟨⟨k + 1, by omega, BF hk2 (by first | exact fun q => absurd q.1 (by with_reducible assumption) | exact fun q => q.2.elim (fun f => f (by with_reducible assumption)) (fun f => f (by with_reducible assumption)))⟩, by dsimp only; omega, ?_⟩
         simp -implicitDefEqProofs only [go_sem, hh, seval]
         try simp
         done)
      | (refine ⟨⟨i + 1, by omega, BF hall (fun q => absurd q.1 (by with_reducible assumption))⟩, by dsimp only; omega, ?_⟩
         simp -implicitDefEqProofs only [go_sem, hh, seval]
         try simp
         done)
      | skip
    ·simp -implicitDefEqProofs only [hlt2, decide_false, go_sem, hh, seval]
     with_reducible repeat' (first | apply ai | intro _ | ((first | apply s1 | apply s2 | apply s3 | apply s4) <;> intro hb <;> simp -implicitDefEqProofs only [hb, go_sem, hh, seval] <;> try simp only [qz] at hb))
     all_goals (try simp only [maxLen, tn] at *)
     all_goals first
      | rfl
      | omega
      | (refine ⟨⟨i + 1, by omega, BF hall (fun q => Gb (fun j hj => hk2 j (by omega)) q.2)⟩, by dsimp only; omega, ?_⟩
         simp -implicitDefEqProofs only [go_sem, hh, seval]
         try simp
         done)
      | skip
  ·simp -implicitDefEqProofs only [hlt, decide_false, go_sem, hh, seval]
   with_reducible repeat' (first | apply ai | intro _ | ((first | apply s1 | apply s2 | apply s3 | apply s4) <;> intro hb <;> simp -implicitDefEqProofs only [hb, go_sem, hh, seval] <;> try simp only [qz] at hb))
   all_goals (try simp only [maxLen, tn] at *)
   all_goals first | rfl | omega | exact uF (Gb (P := fun b : Bx => b.addr = g.addr ∧ ∃ m ∈ b.mails, A6 m.body = g.mark ∧ (¬ AN m.frm ∨ ¬ Er m.body)) fun j hj => hall j (by omega)) | skip
end
theorem Ul {g : Ls} {x : Im} (h : ¬ A6 x.body = g.mark ∨ (Er x.body ∧ ¬ Ei x.body = g.addr) ∨ (¬ Er x.body ∧ ¬ ∃ r ∈ x.to, r.addr = g.addr)) : ¬ Ep g x := fun q => by
 rcases h with h | h | h
 ·exact h q.1
 ·rcases q.2 with q | q
  ·exact q.2 h.1
  ·exact h.2 q.2
 ·rcases q.2 with q | q
  ·exact h.2 q.1
  ·exact h.1 q.1
theorem Uk {g : Ls} {b : Bx} {m : Gm} (h : ¬ A6 m.body = g.mark ∨ ((¬ Er m.body ∨ ¬ Ei m.body = g.addr) ∧ (¬ b.addr = g.addr ∨ ¬ (¬ AN m.frm ∨ ¬ Er m.body)))) : ¬ H3 g b m := fun q => by
 rcases h with h | ⟨h1, h2⟩
 ·exact h q.1
 ·rcases q.2 with q | q
  ·exact h1.elim (fun f => f q.1) (fun f => f q.2)
  ·exact h2.elim (fun f => f q.1) (fun f => f q.2)
def xc : Ct := Aj (lc FM.ag (lc FR.ag l0)) (fun p => FN p.1) (fun p => .t (.v (.bool (BA (DR p.1 p.2.1)))))
section
attribute [local go_sem] WD lB jb sf jd lm AK AM N0 BC BB Bool.not_true Bool.not_false Bc Cv Mj Mk Mh Mi
set_option maxHeartbeats 6400000 in
theorem uJ {G : Gt} (hG : Ac G) (hh : G.e 116 = AA 0 WD ∧ G.e 56 = AA 0 lB ∧ G.e 117 = AA 0 jb ∧ G.e 57 = AA 0 sf ∧ G.e 119 = AA 0 jd) : Gd G 54 (AA 0 xc) := by
 refine gr (fn := Tryz.f54) (n := 2) rfl hG ?_
 rintro ⟨h, g, ⟨⟩⟩ hpre
 simp -implicitDefEqProofs only [Tryz.f54, go_sem, hh, seval] at hpre ⊢
 obtain ⟨zc, ⟨zi, zs⟩, ⟨lb, zb⟩, ⟨ll, zl⟩⟩ := hpre
 with_reducible repeat' (first | apply ai | intro _ | ((first | apply s1 | apply s2 | apply s3 | apply s4) <;> intro hb <;> simp -implicitDefEqProofs only [hb, go_sem, hh, seval] <;> try simp only [qz] at hb))
 all_goals first | rfl | omega | skip
 refine AC [] (ι := {i : Nat // i ≤ h.spool.items.length ∧ ∀ j, j < i → ¬ Ep g (h.spool.items.getD j default)}) (fun p => ⟨[(2, .pb 1002 0), (3, .pb 1003 0), (18, .t (.sl 5 (h.spool.items.map Ar))), (19, .t (.v (.int .i64 h.spool.items.length))), (20, .t (.v (.int .i64 p.1)))], [(1002, some (.box ((AY h).map .t))), (1003, some (.box ((Ae g).map .t)))]⟩) (fun p => h.spool.items.length - p.1) ⟨0, by simp, by simp⟩ rfl ?_ ?_
 ·simp -implicitDefEqProofs only [go_sem, hh, seval]
  try simp
 ·rintro ⟨i, hi, hall⟩
  by_cases hlt : (i : Int) < h.spool.items.length
  ·obtain ⟨_, ⟨lt, zt⟩, ⟨lg, zg⟩⟩ := zs _ (AB (xs := h.spool.items) (j := i) (by omega))
   have y1 : ∀ s ∈ (h.spool.items.getD i default).body, s.size ≤ 2000000 := fun s hs => by have : s.size ≤ 1048576 := zg s hs; omega
   simp -implicitDefEqProofs only [hlt, decide_true, tn, go_sem, hh, seval]
   with_reducible repeat' (first | apply ai | intro _ | ((first | apply s1 | apply s2 | apply s3 | apply s4) <;> intro hb <;> simp -implicitDefEqProofs only [hb, go_sem, hh, seval] <;> try simp only [qz] at hb))
   all_goals (try simp only [maxLen, tn, im, io, T5, T6, AK, AM, OO.sem] at *)
   all_goals first
    | rfl
    | omega
    | decide
    | with_reducible assumption
    | exact y1 _ (by assumption)
    | exact trivial
    | contradiction
    | exact uT (.inl ⟨(h.spool.items.getD i default), AB (by omega), by with_reducible assumption, by first | exact .inl ⟨by with_reducible assumption, by with_reducible assumption⟩ | exact .inr ⟨by with_reducible assumption, by with_reducible assumption⟩⟩)
    | (refine ⟨⟨i + 1, by omega, BF hall (Ul (by first | exact .inl (by with_reducible assumption) | exact .inr (.inl ⟨by with_reducible assumption, by with_reducible assumption⟩) | exact .inr (.inr ⟨by with_reducible assumption, by with_reducible assumption⟩)))⟩, by dsimp only; omega, ?_⟩
       simp -implicitDefEqProofs only [go_sem, hh, seval]
       try simp
       done)
  ·have hA := Gb (P := fun x : Im => Ep g x) (xs := h.spool.items) fun j hj => hall j (by omega)
   simp -implicitDefEqProofs only [hlt, decide_false, go_sem, hh, seval]
   with_reducible repeat' (first | apply ai | intro _ | ((first | apply s1 | apply s2 | apply s3 | apply s4) <;> intro hb <;> simp -implicitDefEqProofs only [hb, go_sem, hh, seval] <;> try simp only [qz] at hb))
   all_goals first | rfl | omega | skip
   refine AC [] (ι := {i : Nat // i ≤ h.boxes.length ∧ ∀ j, j < i → ¬ ∃ m ∈ (h.boxes.getD j default).mails, H3 g (h.boxes.getD j default) m}) (fun p => ⟨[(2, .pb 1002 0), (3, .pb 1003 0), (58, .t (.sl 3 (h.boxes.map BQ))), (59, .t (.v (.int .i64 h.boxes.length))), (60, .t (.v (.int .i64 p.1)))], [(1002, some (.box ((AY h).map .t))), (1003, some (.box ((Ae g).map .t)))]⟩) (fun p => h.boxes.length - p.1) ⟨0, by simp, by simp⟩ rfl ?_ ?_
   ·simp -implicitDefEqProofs only [go_sem, hh, seval]
    try simp
   ·rintro ⟨i, hi, hall2⟩
    by_cases hlt2 : (i : Int) < h.boxes.length
    ·obtain ⟨_, ⟨lm, zm⟩⟩ := zb _ (AB (xs := h.boxes) (j := i) (by omega))
     simp -implicitDefEqProofs only [hlt2, decide_true, tn, go_sem, hh, seval]
     with_reducible repeat' (first | apply ai | intro _ | ((first | apply s1 | apply s2 | apply s3 | apply s4) <;> intro hb <;> simp -implicitDefEqProofs only [hb, go_sem, hh, seval] <;> try simp only [qz] at hb))
     all_goals (try simp only [maxLen] at *)
     all_goals first | rfl | omega | skip
     refine AC [] (ι := {k : Nat // k ≤ (h.boxes.getD i default).mails.length ∧ ∀ j, j < k → ¬ H3 g (h.boxes.getD i default) ((h.boxes.getD i default).mails.getD j default)}) (fun p => ⟨[(2, .pb 1002 0), (3, .pb 1003 0), (58, .t (.sl 3 (h.boxes.map BQ))), (59, .t (.v (.int .i64 h.boxes.length))), (60, .t (.v (.int .i64 i))), (11, .pb 1011 0), (65, .t (.sl 3 ((h.boxes.getD i default).mails.map Ba))), (66, .t (.v (.int .i64 (h.boxes.getD i default).mails.length))), (67, .t (.v (.int .i64 p.1)))], (1011, some (.box ((BQ (h.boxes.getD i default)).map .t))) :: [(1002, some (.box ((AY h).map .t))), (1003, some (.box ((Ae g).map .t)))]⟩) (fun p => (h.boxes.getD i default).mails.length - p.1) ⟨0, by simp, by simp⟩ rfl ?_ ?_
     ·simp -implicitDefEqProofs only [go_sem, hh, seval]
      try simp
     ·rintro ⟨k, hk, hk2⟩
      by_cases hlt3 : (k : Int) < (h.boxes.getD i default).mails.length
      ·obtain ⟨_, ⟨lg, zg⟩⟩ := zm _ (AB (xs := (h.boxes.getD i default).mails) (j := k) (by omega))
       have y1 : ∀ s ∈ ((h.boxes.getD i default).mails.getD k default).body, s.size ≤ 2000000 := fun s hs => by have : s.size ≤ 1048576 := zg s hs; omega
       simp -implicitDefEqProofs only [hlt3, decide_true, tn, go_sem, hh, seval]
       with_reducible repeat' (first | apply ai | intro _ | ((first | apply s1 | apply s2 | apply s3 | apply s4) <;> intro hb <;> simp -implicitDefEqProofs only [hb, go_sem, hh, seval] <;> try simp only [qz] at hb))
       all_goals (try simp only [maxLen, tn, im, io, T5, T6, AK, AM] at *)
       all_goals first
        | rfl
        | omega
        | decide
        | with_reducible assumption
        | exact y1 _ (by assumption)
        | exact trivial
        | contradiction
        | exact uT (.inr (.inl ⟨(h.boxes.getD i default), AB (by omega), ((h.boxes.getD i default).mails.getD k default), AB (by omega), by with_reducible assumption, by first | exact .inl ⟨by with_reducible assumption, by with_reducible assumption⟩ | exact .inr ⟨by with_reducible assumption, by with_reducible assumption⟩⟩))
        | (refine ⟨⟨k + 1, by omega, BF hk2 (Uk (by first | exact .inl (by with_reducible assumption) | (refine .inr ⟨?_, ?_⟩; (first | exact .inl (by with_reducible assumption) | exact .inr (by with_reducible assumption)); (first | exact .inl (by with_reducible assumption) | exact .inr (by with_reducible assumption)))))⟩, by dsimp only; omega, ?_⟩
           simp -implicitDefEqProofs only [go_sem, hh, seval]
           try simp
           done)
      ·simp -implicitDefEqProofs only [hlt3, decide_false, go_sem, hh, seval]
       with_reducible repeat' (first | apply ai | intro _ | ((first | apply s1 | apply s2 | apply s3 | apply s4) <;> intro hb <;> simp -implicitDefEqProofs only [hb, go_sem, hh, seval] <;> try simp only [qz] at hb))
       all_goals (try simp only [maxLen] at *)
       all_goals first | rfl | omega | skip
       refine ⟨⟨i + 1, by omega, BF hall2 (Gb (P := fun m : Gm => H3 g (h.boxes.getD i default) m) fun j hj => hk2 j (by omega))⟩, by dsimp only; omega, ?_⟩
       simp -implicitDefEqProofs only [go_sem, hh, seval]
       try simp
    ·have hB := Gb (P := fun b : Bx => ∃ m ∈ b.mails, H3 g b m) (xs := h.boxes) fun j hj => hall2 j (by omega)
     simp -implicitDefEqProofs only [hlt2, decide_false, go_sem, hh, seval]
     with_reducible repeat' (first | apply ai | intro _ | ((first | apply s1 | apply s2 | apply s3 | apply s4) <;> intro hb <;> simp -implicitDefEqProofs only [hb, go_sem, hh, seval] <;> try simp only [qz] at hb))
     all_goals (try simp only [maxLen] at *)
     all_goals first
      | rfl
      | omega
      | exact trivial
      | exact uE ⟨fun q => .inr (.inr q), fun q => q.elim (fun q => absurd q hA) fun q => q.elim (fun q => absurd q hB) id⟩
end
theorem YA {g : Ls} {x : Im} (ha : BL g.addr) (h : A6 x.body = g.mark) (h2 : (BD (fun r : Rc => r.addr = g.addr) 0 x.to ≥ 0 ∧ ¬ Er x.body) ∨ OA x.body = CA g.addr) : Ep g x :=
 ⟨h, h2.elim (fun q => .inl ⟨(CW _ 0).1 q.1, q.2⟩) fun q => .inr ((Jp ha).1 q)⟩
theorem RQ {g : Ls} {x : Im} (ha : BL g.addr) (h : ¬ A6 x.body = g.mark ∨ ((¬ BD (fun r : Rc => r.addr = g.addr) 0 x.to ≥ 0 ∨ Er x.body) ∧ ¬ OA x.body = CA g.addr)) : ¬ Ep g x := fun q => by
 rcases h with h | ⟨h1, h2⟩
 ·exact h q.1
 ·rcases q.2 with q | q
  ·exact h1.elim (fun f => f ((CW _ 0).2 q.1)) q.2
  ·exact h2 ((Jp ha).2 q)
def xe : Ct := Aj (lc FM.ag (lc FR.ag l0)) (fun p => FN p.1 ∧ BL p.2.1.addr) (fun p => .t (.v (.bool (BA (DR p.1 p.2.1)))))
section
attribute [local go_sem] Qr se lC WE M7 jh lm AK AM
set_option maxHeartbeats 6400000 in
theorem uP {G : Gt} (hG : Ac G) (hh : G.e 61 = AA 0 Qr ∧ G.e 35 = AA 0 se ∧ G.e 63 = AA 0 lC ∧ G.e 125 = AA 0 WE ∧ G.e 126 = AA 0 M7 ∧ G.e 127 = AA 0 jh) : Gd G 59 (AA 0 xe) := by
 refine gr (fn := Tryz.f59) (n := 2) rfl hG ?_
 rintro ⟨h, g, ⟨⟩⟩ hpre
 simp -implicitDefEqProofs only [Tryz.f59, go_sem, hh, seval] at hpre ⊢
 obtain ⟨⟨zc, ⟨zi, zs⟩, ⟨lb, zb⟩, ⟨ll, zl⟩⟩, ha⟩ := hpre
 have zh : FN h := ⟨zc, ⟨zi, zs⟩, ⟨lb, zb⟩, ⟨ll, zl⟩⟩
 try dsimp only at ha
 have ua : g.addr.user.size ≤ 2000000 := by have := ha.1.2.2; omega
 have ub : g.addr.domain.size ≤ 2000000 := by have := (Ci ha.2).2; omega
 refine AC [] (ι := {i : Nat // i ≤ h.spool.items.length ∧ ∀ j, j < i → ¬ Ep g (h.spool.items.getD j default)}) (fun p => ⟨[(2, .pb 1002 0), (3, .pb 1003 0), (5, .t (.v (.int .i64 p.1)))], [(1002, some (.box ((AY h).map .t))), (1003, some (.box ((Ae g).map .t)))]⟩) (fun p => h.spool.items.length - p.1) ⟨0, by simp, by simp⟩ rfl ?_ ?_
 ·simp -implicitDefEqProofs only [go_sem, hh, seval]
  try simp
 ·rintro ⟨i, hi, hall⟩
  by_cases hlt : (i : Int) < h.spool.items.length
  ·obtain ⟨_, ⟨lt, zt⟩, ⟨lg, zg⟩⟩ := zs _ (AB (xs := h.spool.items) (j := i) (by omega))
   have y1 : ∀ s ∈ (h.spool.items.getD i default).body, s.size ≤ 2000000 := fun s hs => by have : s.size ≤ 1048576 := zg s hs; omega
   have y2 : (h.spool.items.getD i default).body.length ≤ 2000000 := by omega
   simp -implicitDefEqProofs only [hlt, decide_true, tn, go_sem, hh, seval]
   with_reducible repeat' (first | apply ai | intro _ | ((first | apply s1 | apply s2 | apply s3 | apply s4) <;> intro hb <;> simp -implicitDefEqProofs only [hb, go_sem, hh, seval] <;> try simp only [qz] at hb))
   all_goals (try simp only [maxLen, tn, im, io, T5, T6, AK, AM] at *)
   all_goals first
    | rfl
    | omega
    | decide
    | with_reducible assumption
    | exact y1 _ (by assumption)
    | contradiction
    | exact uT (.inl ⟨(h.spool.items.getD i default), AB (by omega), YA ha (by with_reducible assumption) (by first | exact .inl ⟨by with_reducible assumption, by with_reducible assumption⟩ | exact .inr (by with_reducible assumption))⟩)
    | (refine ⟨⟨i + 1, by omega, BF hall (RQ ha (by first | exact .inl (by with_reducible assumption) | (refine .inr ⟨?_, by with_reducible assumption⟩; (first | exact .inl (by with_reducible assumption) | exact .inr (by with_reducible assumption)))))⟩, by dsimp only; omega, ?_⟩
       simp -implicitDefEqProofs only [go_sem, hh, seval]
       try simp
       done)
  ·have hA := Gb (P := fun x : Im => Ep g x) (xs := h.spool.items) fun j hj => hall j (by omega)
   simp -implicitDefEqProofs only [hlt, decide_false, go_sem, hh, seval]
   with_reducible repeat' (first | apply ai | intro _ | ((first | apply s1 | apply s2 | apply s3 | apply s4) <;> intro hb <;> simp -implicitDefEqProofs only [hb, go_sem, hh, seval] <;> try simp only [qz] at hb))
   all_goals first | rfl | omega | skip
   refine AC [] (ι := {i : Nat // i ≤ h.boxes.length ∧ ∀ j, j < i → ¬ ∃ m ∈ (h.boxes.getD j default).mails, A6 m.body = g.mark ∧ Er m.body ∧ Ei m.body = g.addr}) (fun p => ⟨[(2, .pb 1002 0), (3, .pb 1003 0), (7, .t (.v (.int .i64 p.1)))], [(1002, some (.box ((AY h).map .t))), (1003, some (.box ((Ae g).map .t)))]⟩) (fun p => h.boxes.length - p.1) ⟨0, by simp, by simp⟩ rfl ?_ ?_
   ·simp -implicitDefEqProofs only [go_sem, hh, seval]
    try simp
   ·rintro ⟨i, hi, hall2⟩
    by_cases hlt2 : (i : Int) < h.boxes.length
    ·obtain ⟨_, ⟨lm, zm⟩⟩ := zb _ (AB (xs := h.boxes) (j := i) (by omega))
     simp -implicitDefEqProofs only [hlt2, decide_true, tn, go_sem, hh, seval]
     with_reducible repeat' (first | apply ai | intro _ | ((first | apply s1 | apply s2 | apply s3 | apply s4) <;> intro hb <;> simp -implicitDefEqProofs only [hb, go_sem, hh, seval] <;> try simp only [qz] at hb))
     all_goals (try simp only [maxLen] at *)
     all_goals first | rfl | omega | skip
     refine AC [] (ι := {k : Nat // k ≤ (h.boxes.getD i default).mails.length ∧ ∀ j, j < k → ¬ (A6 ((h.boxes.getD i default).mails.getD j default).body = g.mark ∧ Er ((h.boxes.getD i default).mails.getD j default).body ∧ Ei ((h.boxes.getD i default).mails.getD j default).body = g.addr)}) (fun p => ⟨[(2, .pb 1002 0), (3, .pb 1003 0), (7, .t (.v (.int .i64 i))), (8, .t (.v (.int .i64 p.1)))], [(1002, some (.box ((AY h).map .t))), (1003, some (.box ((Ae g).map .t)))]⟩) (fun p => (h.boxes.getD i default).mails.length - p.1) ⟨0, by simp, by simp⟩ rfl ?_ ?_
     ·simp -implicitDefEqProofs only [go_sem, hh, seval]
      try simp
     ·rintro ⟨k, hk, hk2⟩
      by_cases hlt3 : (k : Int) < (h.boxes.getD i default).mails.length
      ·obtain ⟨_, ⟨lg, zg⟩⟩ := zm _ (AB (xs := (h.boxes.getD i default).mails) (j := k) (by omega))
       have y1 : ∀ s ∈ ((h.boxes.getD i default).mails.getD k default).body, s.size ≤ 2000000 := fun s hs => by have : s.size ≤ 1048576 := zg s hs; omega
       have y2 : ((h.boxes.getD i default).mails.getD k default).body.length ≤ 2000000 := by omega
       simp -implicitDefEqProofs only [hlt3, decide_true, tn, go_sem, hh, seval]
       with_reducible repeat' (first | apply ai | intro _ | ((first | apply s1 | apply s2 | apply s3 | apply s4) <;> intro hb <;> simp -implicitDefEqProofs only [hb, go_sem, hh, seval] <;> try simp only [qz] at hb))
       all_goals (try simp only [maxLen, tn, im, io, T5, T6, AK, AM] at *)
       all_goals first
        | rfl
        | omega
        | decide
        | with_reducible assumption
        | exact y1 _ (by assumption)
        | contradiction
        | exact uT (R9.1 (.inr (.inl ⟨(h.boxes.getD i default), AB (by omega), ((h.boxes.getD i default).mails.getD k default), AB (by omega), by with_reducible assumption, (Jp ha).1 (by with_reducible assumption)⟩)))
        | (refine ⟨⟨k + 1, by omega, BF hk2 (by first | exact fun q => absurd q.1 (by with_reducible assumption) | exact fun q => absurd ((Jp ha).2 q.2) (by with_reducible assumption))⟩, by dsimp only; omega, ?_⟩
           simp -implicitDefEqProofs only [go_sem, hh, seval]
           try simp
           done)
      ·simp -implicitDefEqProofs only [hlt3, decide_false, tn, go_sem, hh, seval]
       with_reducible repeat' (first | apply ai | intro _ | ((first | apply s1 | apply s2 | apply s3 | apply s4) <;> intro hb <;> simp -implicitDefEqProofs only [hb, go_sem, hh, seval] <;> try simp only [qz] at hb))
       all_goals (try simp only [maxLen] at *)
       all_goals first | rfl | omega | skip
       refine ⟨⟨i + 1, by omega, BF hall2 (Gb (P := fun m : Gm => A6 m.body = g.mark ∧ Er m.body ∧ Ei m.body = g.addr) fun j hj => hk2 j (by omega))⟩, by dsimp only; omega, ?_⟩
       simp -implicitDefEqProofs only [go_sem, hh, seval]
       try simp
    ·have hB := Gb (P := fun b : Bx => ∃ m ∈ b.mails, A6 m.body = g.mark ∧ Er m.body ∧ Ei m.body = g.addr) (xs := h.boxes) fun j hj => hall2 j (by omega)
     simp -implicitDefEqProofs only [hlt2, decide_false, go_sem, hh, seval]
     with_reducible repeat' (first | apply ai | intro _ | ((first | apply s1 | apply s2 | apply s3 | apply s4) <;> intro hb <;> simp -implicitDefEqProofs only [hb, go_sem, hh, seval] <;> try simp only [qz] at hb))
     all_goals (try simp only [maxLen] at *)
     all_goals first | rfl | omega | skip
     refine AC [] (ι := {i : Nat // i ≤ h.lost.length ∧ ∀ j, j < i → ¬ (h.lost.getD j default).mark = g.mark}) (fun p => ⟨[(2, .pb 1002 0), (3, .pb 1003 0), (10, .t (.v (.int .i64 p.1)))], [(1002, some (.box ((AY h).map .t))), (1003, some (.box ((Ae g).map .t)))]⟩) (fun p => h.lost.length - p.1) ⟨0, by simp, by simp⟩ rfl ?_ ?_
     ·simp -implicitDefEqProofs only [go_sem, hh, seval]
      try simp
     ·rintro ⟨i, hi, hall3⟩
      by_cases hlt3 : (i : Int) < h.lost.length
      ·simp -implicitDefEqProofs only [hlt3, decide_true, tn, go_sem, hh, seval]
       with_reducible repeat' (first | apply ai | intro _ | ((first | apply s1 | apply s2 | apply s3 | apply s4) <;> intro hb <;> simp -implicitDefEqProofs only [hb, go_sem, hh, seval] <;> try simp only [qz] at hb))
       all_goals (try simp only [maxLen, tn] at *)
       all_goals first
        | rfl
        | omega
        | decide
        | with_reducible assumption
        | exact uT (.inr (.inr ⟨h.lost.getD i default, AB (by omega), by with_reducible assumption⟩))
        | (refine ⟨⟨i + 1, by omega, BF hall3 (by with_reducible assumption)⟩, by dsimp only; omega, ?_⟩
           simp -implicitDefEqProofs only [go_sem, hh, seval]
           try simp
           done)
      ·have hC := Gb (P := fun l : Ls => l.mark = g.mark) (xs := h.lost) fun j hj => hall3 j (by omega)
       simp -implicitDefEqProofs only [hlt3, decide_false, tn, go_sem, hh, seval]
       with_reducible repeat' (first | apply ai | intro _ | ((first | apply s1 | apply s2 | apply s3 | apply s4) <;> intro hb <;> simp -implicitDefEqProofs only [hb, go_sem, hh, seval] <;> try simp only [qz] at hb))
       all_goals (try simp only [maxLen] at *)
       all_goals first
        | rfl
        | omega
        | exact zh
        | exact uE ((⟨fun q => .inr (.inr (.inr q)), fun q => q.elim (fun q => absurd q hA) fun q => q.elim (fun q => absurd q hB) fun q => q.elim (fun q => absurd q hC) id⟩ : wv h g ↔ _).trans R9)
end
end Go.V
