/- The row. No condition. -/
import Derived.Test.YtljiekcdfikafaaGreatDoorSB
namespace Go.V
open Go Go.Proofs Go.ChangeShapes Go.WideShapes Go.ChangeAt Go.RowKit
set_option maxRecDepth 100000
set_option linter.unusedVariables false
set_option maxHeartbeats 4000000 in
theorem con4 (m : Int) (s : Sp) (n : Int) (a : Ad) : Con Tryz.prog m 4 ((lc ESp.ag (lc AInt (lc EAd.ag l0))).enc (s, n, a, ())) ((lc ESp.ag (lc AInt (lc EAd.ag l0))).enc (s, n, a, ())) (.t (.v (.bool true))) := by
  have g0 : GOk Tryz.prog (Gof m []) ∧ GDet (Gof m []) := GOk_nil
  have g1 := GOk_cons g0 (good18 g0)
  have g2 := GOk_cons g1 (good128 g1 rfl)
  have g3 := GOk_cons g2 (good119 g2 rfl)
  have g4 := GOk_cons g3 (good30 g3)
  have g5 := GOk_cons g4 (good91 g4 rfl rfl rfl)
  have g6 := GOk_cons g5 (good51 g5 rfl)
  have g7 := GOk_cons g6 (good17 g6 rfl)
  have g8 := GOk_cons g7 (good21 g7)
  have g9 := GOk_cons g8 (good129 g8 rfl)
  have g10 := GOk_cons g9 (good121 g9 rfl)
  have g11 := GOk_cons g10 (good37 g10)
  have g12 := GOk_cons g11 (good94 g11 rfl rfl rfl)
  have g13 := GOk_cons g12 (good57 g12 rfl)
  have g14 := GOk_cons g13 (good20 g13 rfl)
  have g15 := GOk_cons g14 (good42 g14)
  have g16 := GOk_cons g15 (good130 g15 rfl)
  have g17 := GOk_cons g16 (good122 g16 rfl)
  have g18 := GOk_cons g17 (good44 g17)
  have g19 := GOk_cons g18 (good101 g18 rfl rfl rfl)
  have g20 := GOk_cons g19 (good63 g19 rfl)
  have g21 := GOk_cons g20 (good23 g20 rfl)
  have g22 := GOk_cons g21 (good46 g21)
  have g23 := GOk_cons g22 (good102 g22 rfl)
  have g24 := GOk_cons g23 (good48 g23 rfl)
  have g25 := GOk_cons g24 (good64 g24 rfl rfl rfl)
  have g26 := GOk_cons g25 (good24 g25 rfl)
  have g27 := GOk_cons g26 (good103 g26 rfl)
  have g28 := GOk_cons g27 (good50 g27 rfl)
  have g29 := GOk_cons g28 (good65 g28 rfl rfl rfl)
  have g30 := GOk_cons g29 (good25 g29 rfl)
  have g31 := GOk_cons g30 (good66 g30)
  have g32 := GOk_cons g31 (good106 g31 rfl)
  have g33 := GOk_cons g32 (good105 g32)
  have g34 := GOk_cons g33 (good71 g33 rfl rfl)
  have g35 := GOk_cons g34 (good72 g34 rfl rfl)
  have g36 := GOk_cons g35 (good120 g35 rfl rfl)
  have g37 := GOk_cons g36 (good73 g36)
  have g38 := GOk_cons g37 (good70 g37)
  have g39 := GOk_cons g38 (good74 g38 rfl)
  have g40 := GOk_cons g39 (good92 g39 rfl rfl rfl rfl rfl)
  have g41 := GOk_cons g40 (good52 g40 rfl rfl)
  have g42 := GOk_cons g41 (good93 g41)
  have g43 := GOk_cons g42 (good53 g42 rfl)
  have g44 := GOk_cons g43 (good54 g43)
  have g45 := GOk_cons g44 (good55 g44)
  have g46 := GOk_cons g45 (good56 g45 rfl)
  have g47 := GOk_cons g46 (good19 g46 rfl rfl rfl rfl rfl)
  have g48 := GOk_cons g47 (good82 g47)
  have g49 := GOk_cons g48 (good134 g48)
  have g50 := GOk_cons g49 (good143 g49)
  have g51 := GOk_cons g50 (good135 g50 rfl)
  have g52 := GOk_cons g51 (good136 g51 rfl)
  have g53 := GOk_cons g52 (good124 g52 rfl rfl rfl)
  have g54 := GOk_cons g53 (good112 g53 rfl rfl)
  have g55 := GOk_consX g54 (good152 m)
  have g56 := GOk_cons g55 (good142 g55 rfl)
  have g57 := GOk_consX g56 (good156 m)
  have g58 := GOk_cons g57 (good147 g57 rfl)
  have g59 := GOk_consX g58 (good148 m)
  have g60 := GOk_cons g59 (good149 g59)
  have g61 := GOk_cons g60 (good157 g60)
  have g62 := GOk_cons g61 (good150 g61 rfl)
  have g63 := GOk_cons g62 (good140 g62 rfl rfl rfl rfl)
  have g64 := GOk_cons g63 (good127 g63 rfl)
  have g65 := GOk_cons g64 (good131 g64 rfl rfl)
  have g66 := GOk_cons g65 (good123 g65 rfl)
  have g67 := GOk_cons g66 (good109 g66 rfl rfl)
  have g68 := GOk_cons g67 (good80 g67 rfl rfl)
  have g69 := GOk_cons g68 (good68 g68 rfl)
  have g70 := GOk_cons g69 (good111 g69)
  have g71 := GOk_cons g70 (good81 g70 rfl rfl)
  have g72 := GOk_cons g71 (good84 g71)
  have g73 := GOk_cons g72 (good110 g72)
  have g74 := GOk_cons g73 (good115 g73 rfl)
  have g75 := GOk_cons g74 (good125 g74 rfl)
  have g76 := GOk_cons g75 (good114 g75 rfl)
  have g77 := GOk_cons g76 (good85 g76 rfl)
  have g78 := GOk_cons g77 (good95 g77 rfl rfl rfl rfl rfl rfl)
  have g79 := GOk_cons g78 (good58 g78 rfl rfl)
  have g80 := GOk_cons g79 (good96 g79)
  have g81 := GOk_cons g80 (good87 g80)
  have g82 := GOk_cons g81 (good59 g81 rfl rfl)
  have g83 := GOk_cons g82 (good98 g82)
  have g84 := GOk_cons g83 (good97 g83 rfl)
  have g85 := GOk_cons g84 (good100 g84)
  have g86 := GOk_cons g85 (good99 g85 rfl)
  have g87 := GOk_cons g86 (good60 g86 rfl rfl)
  have g88 := GOk_cons g87 (good61 g87)
  have g89 := GOk_cons g88 (good62 g88)
  have g90 := GOk_cons g89 (good22 g89 rfl rfl rfl rfl rfl)
  have hg := good4 g90 rfl rfl rfl rfl rfl rfl rfl rfl rfl
  obtain ⟨res, h1, _, h3, _⟩ := hg.ro ((lc ESp.ag (lc AInt (lc EAd.ag l0))).enc (s, n, a, ())) (fun r => r = .t (.v (.bool true))) (by
    show c4 _ _
    rw [c4, ctR_eq, (lc ESp.ag (lc AInt (lc EAd.ag l0))).ed]
    exact ⟨trivial, rfl⟩)
  rw [h1] at h3
  exact h3

section
variable {H : Type} {enc : TypeId × Value → H} {W : World}
noncomputable def fsOf (t : TypeId) : Array Field := match Tryz.prog.underlying t with | some (.struct fs) => fs | _ => #[]
theorem v3 : Tryz.prog.underlying 3 = some (.int .i64) := by kernel_rfl
theorem w3 : Tryz.prog.cellsOf 3 = 1 := by kernel_rfl
theorem rdInt : Rd Tryz.prog W enc 3 fun ts => ∃ a, ts = EInt.enc a := fun n cs x h => Rd.int v3 n cs x h
theorem v9 : Tryz.prog.underlying 9 = some .string := by kernel_rfl
theorem w9 : Tryz.prog.cellsOf 9 = 1 := by kernel_rfl
theorem rdStr : Rd Tryz.prog W enc 9 fun ts => ∃ a, ts = EStr.enc a := fun n cs x h => Rd.str v9 n cs x h
theorem v24 : Tryz.prog.underlying 24 = some (.struct (fsOf 24)) := by kernel_rfl
theorem l24 : ((fsOf 24).toList.map fun f => (f.type, f.offset)) = [(9, 0), (9, 1)] := by kernel_rfl
theorem w24 : Tryz.prog.cellsOf 24 = 2 := by kernel_rfl
theorem rdAd : Rd Tryz.prog W enc 24 fun ts => ∃ a, ts = EAd.enc a := fun n cs x h => by
  have hl := Rd.len v24 h
  rw [w24] at hl
  obtain ⟨_, ⟨a0, rfl⟩, h0⟩ := Rd.field v24 h l24 (i := 0) rfl w9 (Rd.str v9)
  obtain ⟨_, ⟨a1, rfl⟩, h1⟩ := Rd.field v24 h l24 (i := 1) rfl w9 (Rd.str v9)
  exact ⟨_, ⟨⟨a0, a1⟩, rfl⟩, (RoL.cut 0 1 h0 (RoL.cut 1 1 h1 (RoL.stop hl)))⟩
theorem v147 : Tryz.prog.underlying 147 = some (.struct (fsOf 147)) := by kernel_rfl
theorem l147 : ((fsOf 147).toList.map fun f => (f.type, f.offset)) = [(24, 0), (3, 2), (3, 3)] := by kernel_rfl
theorem w147 : Tryz.prog.cellsOf 147 = 4 := by kernel_rfl
theorem rdRc : Rd Tryz.prog W enc 147 fun ts => ∃ a, ts = ERc.enc a := fun n cs x h => by
  have hl := Rd.len v147 h
  rw [w147] at hl
  obtain ⟨_, ⟨a0, rfl⟩, h0⟩ := Rd.field v147 h l147 (i := 0) rfl w24 (rdAd)
  obtain ⟨_, ⟨a1, rfl⟩, h1⟩ := Rd.field v147 h l147 (i := 1) rfl w3 (Rd.int v3)
  obtain ⟨_, ⟨a2, rfl⟩, h2⟩ := Rd.field v147 h l147 (i := 2) rfl w3 (Rd.int v3)
  exact ⟨_, ⟨⟨a0, a1, a2⟩, rfl⟩, (RoL.cut 0 2 h0 (RoL.cut 2 1 h1 (RoL.cut 3 1 h2 (RoL.stop hl))))⟩
theorem v120 : Tryz.prog.underlying 120 = some (.slice 147) := by kernel_rfl
theorem w120 : Tryz.prog.cellsOf 120 = 1 := by kernel_rfl
theorem v26 : Tryz.prog.underlying 26 = some (.slice 9) := by kernel_rfl
theorem w26 : Tryz.prog.cellsOf 26 = 1 := by kernel_rfl
theorem v122 : Tryz.prog.underlying 122 = some (.struct (fsOf 122)) := by kernel_rfl
theorem l122 : ((fsOf 122).toList.map fun f => (f.type, f.offset)) = [(3, 0), (24, 1), (120, 3), (26, 4)] := by kernel_rfl
theorem w122 : Tryz.prog.cellsOf 122 = 5 := by kernel_rfl
theorem rdIm : Rd Tryz.prog W enc 122 fun ts => ∃ a, ts = EIm.enc a := fun n cs x h => by
  have hl := Rd.len v122 h
  rw [w122] at hl
  obtain ⟨_, ⟨a0, rfl⟩, h0⟩ := Rd.field v122 h l122 (i := 0) rfl w3 (Rd.int v3)
  obtain ⟨_, ⟨a1, rfl⟩, h1⟩ := Rd.field v122 h l122 (i := 1) rfl w24 (rdAd)
  obtain ⟨_, ⟨a2, rfl⟩, h2⟩ := Rd.field v122 h l122 (i := 2) rfl w120 (Rd.slice ERc v120 w147 (by decide) rdRc)
  obtain ⟨_, ⟨a3, rfl⟩, h3⟩ := Rd.field v122 h l122 (i := 3) rfl w26 (Rd.slice EStr v26 w9 (by decide) rdStr)
  exact ⟨_, ⟨⟨a0, a1, a2, a3⟩, rfl⟩, (RoL.cut 0 1 h0 (RoL.cut 1 2 h1 (RoL.cut 3 1 h2 (RoL.cut 4 1 h3 (RoL.stop hl)))))⟩
theorem v45 : Tryz.prog.underlying 45 = some (.slice 122) := by kernel_rfl
theorem w45 : Tryz.prog.cellsOf 45 = 1 := by kernel_rfl
theorem v47 : Tryz.prog.underlying 47 = some (.struct (fsOf 47)) := by kernel_rfl
theorem l47 : ((fsOf 47).toList.map fun f => (f.type, f.offset)) = [(3, 0), (45, 1)] := by kernel_rfl
theorem w47 : Tryz.prog.cellsOf 47 = 2 := by kernel_rfl
theorem rdSp : Rd Tryz.prog W enc 47 fun ts => ∃ a, ts = ESp.enc a := fun n cs x h => by
  have hl := Rd.len v47 h
  rw [w47] at hl
  obtain ⟨_, ⟨a0, rfl⟩, h0⟩ := Rd.field v47 h l47 (i := 0) rfl w3 (Rd.int v3)
  obtain ⟨_, ⟨a1, rfl⟩, h1⟩ := Rd.field v47 h l47 (i := 1) rfl w45 (Rd.slice EIm v45 w122 (by decide) rdIm)
  exact ⟨_, ⟨⟨a0, a1⟩, rfl⟩, (RoL.cut 0 1 h0 (RoL.cut 1 1 h1 (RoL.stop hl)))⟩
/-- The package's number, whatever it is. -/
theorem glOk_of (h : W.ShapedOpen Tryz.prog) : ∃ m, GlOk m W (pW W) := by
  obtain ⟨cs, h1, h2, h3⟩ := h.1 0 #[.int .i64 0] 3 (Nat.lt_of_lt_of_le (Nat.lt_succ_self 0) (Nat.le_of_ble_eq_true (by kernel_rfl))) (by kernel_rfl)
  obtain ⟨ts, t1, _, t3⟩ := h3 (by kernel_rfl)
  have hts : ts = [3] := Option.some.inj (t1.symm.trans (by kernel_rfl))
  subst hts
  have hsz : cs.size = 1 := h2
  have h0 : cs[0]? = some cs[0] := Array.getElem?_eq_getElem (by omega)
  obtain ⟨u, hu, hok⟩ := t3 0 _ h0
  simp at hu
  subst hu
  unfold Cell.ok at hok
  rw [v3] at hok
  generalize cs[0] = v at h0 hok
  have hb : (0 : Nat) < W.heap.size := (Array.getElem?_eq_some_iff.1 h1).1
  cases v with
  | int k n =>
    have hk : k = .i64 := hok.1
    subst hk
    refine ⟨n, .rop _ _ [.int .i64 n] (fun _ => hb) (fun j u hj => ?_) (.cons _ _ _ _ (.v _ trivial) .nil)⟩
    cases j with
    | zero =>
      simp at hj
      subst hj
      simp [World.cell?, Addr.add, glb, h1, h0]
    | succ j => simp at hj
  | _ => exact hok.elim
end
theorem every : YtljiekcdfikafaaGreatDoor.Every := by
  intro H enc W base args ds gs before hval0 hW hS
  have hval : ∀ (j : Nat) t v, Tryz.f4.params[j]? = some t → args[j]? = some v → Value.okWide Tryz.prog W .any base t v := hval0
  have hW' := hW
  obtain ⟨p, q, hA0, hV, rfl, hfz, hnd⟩ := hW
  have hA : DataW.TrodAll enc Tryz.prog W 0 (fun _ => true) true [47, 3, 24] args.toList ds p := hA0
  rw [YtljiekcdfikafaaGreatDoor.params4] at hval
  obtain ⟨u0, u1, u2, d0, d1, d2, p0, p1, p2, rfl, rfl, rfl, h0, h1, h2⟩ := trodAll_three hA
  obtain ⟨rfl, rfl⟩ := trodVars_none hV
  have hlt : ∀ x ∈ (p0 ++ p1 ++ p2) ++ [], x.block < W.heap.size := fun x hx => hW'.lt x hx
  have k0 := h0
  obtain ⟨n0, t0⟩ := h0
  obtain ⟨_, ⟨s, rfl⟩, r0⟩ := (rdSp) _ _ _ t0
  have k1 := h1
  obtain ⟨n1, t1⟩ := h1
  obtain ⟨_, ⟨n, rfl⟩, r1⟩ := (Rd.int v3) _ _ _ t1
  have k2 := h2
  obtain ⟨n2, t2⟩ := h2
  obtain ⟨_, ⟨a, rfl⟩, r2⟩ := (rdAd) _ _ _ t2
  obtain ⟨cs0, rfl, _, _⟩ : ∃ cs, u0 = .agg cs ∧ cs.size = Tryz.prog.cellsOf 47 ∧ _ := by
    have := hval 0 47 u0 rfl rfl
    unfold Value.okWide at this
    rw [v47] at this
    exact this
  have r0' : RoL W (pW W) (ESp.enc s) cs0.toList := r0
  have a0 : AHas ρ0 W (pW W) (.agg ((ESp.enc s).map .t)) (.agg cs0) [] := by
    have ha : AHas ρ0 W (pW W) (.agg ((ESp.enc s).map .t)) (.agg cs0.toList.toArray) [] := .agg _ _ _ r0'.t r0'.ones
    rwa [Array.toArray_toList] at ha
  have e1 : u1.cells.toList = [u1] := by
    have := hval 1 3 u1 rfl rfl
    unfold Value.okWide at this
    rw [v3] at this
    cases u1 with
    | agg cs => simp only [Cell.okWide, v3, Cell.ok] at this
    | _ => rfl
  rw [e1] at r1
  have r1' : Ro W (pW W) (.v (.int .i64 n)) u1 := by
    cases r1 with | cons _ _ _ _ h _ => exact h
  have a1 : AHas ρ0 W (pW W) (.t (.v (.int .i64 n))) u1 [] := .t _ _ r1'
  obtain ⟨cs2, rfl, _, _⟩ : ∃ cs, u2 = .agg cs ∧ cs.size = Tryz.prog.cellsOf 24 ∧ _ := by
    have := hval 2 24 u2 rfl rfl
    unfold Value.okWide at this
    rw [v24] at this
    exact this
  have r2' : RoL W (pW W) (EAd.enc a) cs2.toList := r2
  have a2 : AHas ρ0 W (pW W) (.agg ((EAd.enc a).map .t)) (.agg cs2) [] := by
    have ha : AHas ρ0 W (pW W) (.agg ((EAd.enc a).map .t)) (.agg cs2.toList.toArray) [] := .agg _ _ _ r2'.t r2'.ones
    rwa [Array.toArray_toList] at ha
  obtain ⟨m, hgl⟩ := glOk_of hS
  have hargs : AHasL ρ0 W (pW W) ((lc ESp.ag (lc AInt (lc EAd.ag l0))).enc (s, n, a, ())) [.agg cs0, u1, .agg cs2] [] := .cons _ _ _ _ [] [] a0 (.cons _ _ _ _ [] [] a1 (.cons _ _ _ _ [] [] a2 .nil))
  have hcall := con4 m s n a W (pW W) [.agg cs0, u1, .agg cs2] [] hgl hargs .nil (fun b hb => by cases hb) (fun b hb => hb)
  refine Calls.mono hcall fun e W' hq => ?_
  obtain ⟨v, pr', G, F, he, hfr, _, _, _, _, hv, _, _⟩ := hq
  obtain ⟨rfl, _⟩ := hv.val
  have hb : Below W.heap.size W W' := ⟨hfr.os, hfr.tape, hfr.output, hfr.size, fun k hk => hfr.block k hk (by simp)⟩
  refine ⟨_, he, _, _, _, [], p0 ++ p1 ++ p2, [], hW', ?_, ?_, rfl, hb.frame _, fun h => by cases h⟩
  · exact trodAll_mk1 (shut_bool (show Tryz.prog.underlying 4 = some .bool by kernel_rfl) _)
  · have := trodAll_mk3 (Below.trod (by kernel_rfl) (by kernel_rfl) (of_decide_eq_true (by kernel_rfl)) k0 hb fun x hx => hlt x (by simp [hx])) (Below.trod (by kernel_rfl) (by kernel_rfl) (of_decide_eq_true (by kernel_rfl)) k1 hb fun x hx => hlt x (by simp [hx])) (Below.trod (by kernel_rfl) (by kernel_rfl) (of_decide_eq_true (by kernel_rfl)) k2 hb fun x hx => hlt x (by simp [hx]))
    simp only [List.append_assoc]
    exact this
end Go.V
namespace Go.Proofs.YtljiekcdfikafaaGreatDoor
theorem fnExactSpoolDone_card : Rows.FnExactSpoolDoneCardSaid := card_of Go.V.every
end Go.Proofs.YtljiekcdfikafaaGreatDoor
