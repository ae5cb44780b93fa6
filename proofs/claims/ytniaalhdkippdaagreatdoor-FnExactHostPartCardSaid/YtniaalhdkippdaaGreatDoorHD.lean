/- The row. No condition. -/
import Derived.Test.YtniaalhdkippdaaGreatDoorHC
namespace Go.V
open Go Go.Proofs Go.ChangeShapes Go.WideShapes Go.ChangeAt Go.RowKit
set_option maxRecDepth 100000
set_option linter.unusedVariables false
set_option maxHeartbeats 4000000 in
theorem con5 (m : Int) (h : Hs) (n : Int) (to : ByteArray) (w : Int) : Con Tryz.prog m 5 ((lc EHs.ag (lc AInt (lc AStr (lc AInt l0)))).enc (h, n, to, w, ())) ((lc EHs.ag (lc AInt (lc AStr (lc AInt l0)))).enc (h, n, to, w, ())) (.t (.v (.bool true))) := by
  have g0 : GOk Tryz.prog (Gof m []) ∧ GDet (Gof m []) := GOk_nil
  have g1 := GOk_cons g0 (good140 g0)
  have g2 := GOk_cons g1 (good75 g1)
  have g3 := GOk_cons g2 (good173 g2 rfl rfl)
  have g4 := GOk_cons g3 (good141 g3 rfl)
  have g5 := GOk_cons g4 (good104 g4 rfl rfl)
  have g6 := GOk_cons g5 (good53 g5 rfl)
  have g7 := GOk_cons g6 (good123 g6)
  have g8 := GOk_cons g7 (good76 g7 rfl)
  have g9 := GOk_cons g8 (good29 g8 rfl rfl)
  have g10 := GOk_cons g9 (good105 g9 rfl)
  have g11 := GOk_cons g10 (good54 g10 rfl)
  have g12 := GOk_cons g11 (good189 g11 rfl)
  have g13 := GOk_cons g12 (good172 g12 rfl)
  have g14 := GOk_cons g13 (good139 g13 rfl rfl rfl)
  have g15 := GOk_cons g14 (good103 g14 rfl)
  have g16 := GOk_cons g15 (good52 g15 rfl)
  have g17 := GOk_cons g16 (good20 g16 rfl rfl rfl rfl)
  have g18 := GOk_cons g17 (good146 g17)
  have g19 := GOk_cons g18 (good81 g18)
  have g20 := GOk_cons g19 (good176 g19 rfl rfl)
  have g21 := GOk_cons g20 (good147 g20 rfl)
  have g22 := GOk_cons g21 (good111 g21 rfl rfl)
  have g23 := GOk_cons g22 (good59 g22 rfl)
  have g24 := GOk_cons g23 (good125 g23)
  have g25 := GOk_cons g24 (good82 g24 rfl)
  have g26 := GOk_cons g25 (good33 g25 rfl rfl)
  have g27 := GOk_cons g26 (good112 g26 rfl)
  have g28 := GOk_cons g27 (good60 g27 rfl)
  have g29 := GOk_cons g28 (good190 g28 rfl)
  have g30 := GOk_cons g29 (good175 g29 rfl)
  have g31 := GOk_cons g30 (good145 g30 rfl rfl rfl)
  have g32 := GOk_cons g31 (good110 g31 rfl)
  have g33 := GOk_cons g32 (good58 g32 rfl)
  have g34 := GOk_cons g33 (good22 g33 rfl rfl rfl rfl)
  have g35 := GOk_cons g34 (good66 g34)
  have g36 := GOk_cons g35 (good10 g35)
  have g37 := GOk_cons g36 (good180 g36 rfl rfl)
  have g38 := GOk_cons g37 (good157 g37 rfl)
  have g39 := GOk_cons g38 (good121 g38 rfl rfl)
  have g40 := GOk_cons g39 (good69 g39 rfl)
  have g41 := GOk_cons g40 (good130 g40)
  have g42 := GOk_cons g41 (good91 g41 rfl)
  have g43 := GOk_cons g42 (good39 g42 rfl rfl)
  have g44 := GOk_cons g43 (good98 g43 rfl)
  have g45 := GOk_cons g44 (good47 g44 rfl)
  have g46 := GOk_cons g45 (good192 g45 rfl)
  have g47 := GOk_cons g46 (good179 g46 rfl)
  have g48 := GOk_cons g47 (good156 g47 rfl rfl rfl)
  have g49 := GOk_cons g48 (good120 g48 rfl)
  have g50 := GOk_cons g49 (good68 g49 rfl)
  have g51 := GOk_cons g50 (good25 g50 rfl rfl rfl rfl)
  have g52 := GOk_cons g51 (good40 g51)
  have g53 := GOk_cons g52 (good13 g52 rfl)
  have g54 := GOk_cons g53 (good122 g53 rfl rfl)
  have g55 := GOk_cons g54 (good72 g54 rfl rfl)
  have g56 := GOk_cons g55 (good41 g55 rfl)
  have g57 := GOk_cons g56 (good70 g56 rfl rfl)
  have g58 := GOk_cons g57 (good49 g57 rfl)
  have g59 := GOk_cons g58 (good136 g58 rfl)
  have g60 := GOk_cons g59 (good99 g59 rfl rfl rfl)
  have g61 := GOk_cons g60 (good71 g60 rfl)
  have g62 := GOk_cons g61 (good26 g61 rfl rfl rfl rfl)
  have g63 := GOk_cons g62 (good67 g62 rfl)
  have g64 := GOk_cons g63 (good24 g63 rfl rfl rfl)
  have g65 := GOk_cons g64 (good73 g64 rfl)
  have g66 := GOk_cons g65 (good27 g65 rfl rfl)
  have g67 := GOk_cons g66 (good74 g66 rfl)
  have g68 := GOk_cons g67 (good14 g67 rfl)
  have g69 := GOk_cons g68 (good28 g68 rfl rfl)
  have g70 := GOk_cons g69 (good55 g69)
  have g71 := GOk_cons g70 (good94 g70)
  have g72 := GOk_cons g71 (good142 g71 rfl)
  have g73 := GOk_cons g72 (good95 g72)
  have g74 := GOk_cons g73 (good78 g73 rfl)
  have g75 := GOk_cons g74 (good77 g74)
  have g76 := GOk_cons g75 (good30 g75 rfl rfl)
  have g77 := GOk_cons g76 (good92 g76 rfl rfl)
  have g78 := GOk_cons g77 (good143 g77)
  have g79 := GOk_cons g78 (good106 g78 rfl rfl rfl)
  have g80 := GOk_cons g79 (good107 g79)
  have g81 := GOk_cons g80 (good79 g80)
  have g82 := GOk_cons g81 (good42 g81 rfl)
  have g83 := GOk_cons g82 (good174 g82 rfl rfl)
  have g84 := GOk_cons g83 (good144 g83 rfl rfl rfl rfl rfl)
  have g85 := GOk_cons g84 (good108 g84 rfl rfl)
  have g86 := GOk_cons g85 (good56 g85 rfl rfl rfl rfl rfl)
  have g87 := GOk_cons g86 (good124 g86)
  have g88 := GOk_cons g87 (good80 g87 rfl)
  have g89 := GOk_cons g88 (good109 g88 rfl rfl)
  have g90 := GOk_cons g89 (good57 g89 rfl)
  have g91 := GOk_cons g90 (good21 g90 rfl rfl rfl rfl)
  have g92 := GOk_cons g91 (good62 g91)
  have g93 := GOk_cons g92 (good61 g92 rfl)
  have g94 := GOk_consX g93 (good184 m)
  have g95 := GOk_cons g94 (good160 g94 rfl)
  have g96 := GOk_consX g95 (good200 m)
  have g97 := GOk_cons g96 (good194 g96 rfl)
  have g98 := GOk_consX g97 (good195 m)
  have g99 := GOk_cons g98 (good196 g98)
  have g100 := GOk_cons g99 (good201 g99)
  have g101 := GOk_cons g100 (good197 g100 rfl)
  have g102 := GOk_cons g101 (good185 g101 rfl rfl rfl rfl)
  have g103 := GOk_cons g102 (good161 g102 rfl)
  have g104 := GOk_cons g103 (good127 g103 rfl rfl)
  have g105 := GOk_cons g104 (good88 g104 rfl)
  have g106 := GOk_cons g105 (good85 g105)
  have g107 := GOk_cons g106 (good164 g106)
  have g108 := GOk_cons g107 (good186 g107)
  have g109 := GOk_cons g108 (good165 g108 rfl)
  have g110 := GOk_cons g109 (good166 g109 rfl)
  have g111 := GOk_cons g110 (good128 g110 rfl rfl rfl)
  have g112 := GOk_cons g111 (good89 g111 rfl rfl)
  have g113 := GOk_cons g112 (good35 g112 rfl rfl)
  have g114 := GOk_cons g113 (good151 g113)
  have g115 := GOk_cons g114 (good150 g114 rfl)
  have g116 := GOk_cons g115 (good131 g115 rfl)
  have g117 := GOk_cons g116 (good170 g116 rfl rfl)
  have g118 := GOk_cons g117 (good133 g117 rfl)
  have g119 := GOk_cons g118 (good132 g118 rfl)
  have g120 := GOk_cons g119 (good171 g119 rfl)
  have g121 := GOk_cons g120 (good134 g120 rfl)
  have g122 := GOk_cons g121 (good96 g121 rfl rfl rfl)
  have g123 := GOk_cons g122 (good84 g122 rfl rfl)
  have g124 := GOk_cons g123 (good87 g123 rfl)
  have g125 := GOk_cons g124 (good149 g124)
  have g126 := GOk_cons g125 (good115 g125 rfl rfl)
  have g127 := GOk_cons g126 (good177 g126)
  have g128 := GOk_cons g127 (good116 g127 rfl)
  have g129 := GOk_cons g128 (good148 g128 rfl rfl rfl rfl rfl rfl)
  have g130 := GOk_cons g129 (good113 g129 rfl rfl)
  have g131 := GOk_cons g130 (good155 g130)
  have g132 := GOk_cons g131 (good119 g131 rfl)
  have g133 := GOk_cons g132 (good65 g132 rfl)
  have g134 := GOk_cons g133 (good114 g133 rfl rfl)
  have g135 := GOk_cons g134 (good152 g134 rfl)
  have g136 := GOk_cons g135 (good117 g135 rfl)
  have g137 := GOk_consX g136 (good191 m)
  have g138 := GOk_cons g137 (good178 g137 rfl)
  have g139 := GOk_cons g138 (good154 g138 rfl)
  have g140 := GOk_cons g139 (good153 g139)
  have g141 := GOk_cons g140 (good118 g140 rfl rfl)
  have g142 := GOk_cons g141 (good63 g141 rfl rfl rfl rfl rfl rfl)
  have g143 := GOk_cons g142 (good64 g142)
  have g144 := GOk_cons g143 (good169 g143)
  have g145 := GOk_cons g144 (good129 g144 rfl)
  have g146 := GOk_cons g145 (good90 g145 rfl rfl)
  have g147 := GOk_cons g146 (good38 g146 rfl rfl)
  have g148 := GOk_cons g147 (good23 g147 rfl rfl rfl rfl rfl rfl)
  have hg := good5 g148 rfl rfl rfl rfl rfl rfl rfl rfl rfl
  obtain ⟨res, h1, _, h3, _⟩ := hg.ro ((lc EHs.ag (lc AInt (lc AStr (lc AInt l0)))).enc (h, n, to, w, ())) (fun r => r = .t (.v (.bool true))) (by
    show c5 _ _
    rw [c5, ctR_eq, (lc EHs.ag (lc AInt (lc AStr (lc AInt l0)))).ed]
    exact ⟨trivial, rfl⟩)
  rw [h1] at h3
  exact h3

section
variable {H : Type} {enc : TypeId × Value → H} {W : World}
noncomputable def fsOf (t : TypeId) : Array Field := match Tryz.prog.underlying t with | some (.struct fs) => fs | _ => #[]
theorem v9 : Tryz.prog.underlying 9 = some .string := by kernel_rfl
theorem w9 : Tryz.prog.cellsOf 9 = 1 := by kernel_rfl
theorem rdStr : Rd Tryz.prog W enc 9 fun ts => ∃ a, ts = EStr.enc a := fun n cs x h => Rd.str v9 n cs x h
theorem v24 : Tryz.prog.underlying 24 = some (.slice 9) := by kernel_rfl
theorem w24 : Tryz.prog.cellsOf 24 = 1 := by kernel_rfl
theorem v165 : Tryz.prog.underlying 165 = some (.struct (fsOf 165)) := by kernel_rfl
theorem l165 : ((fsOf 165).toList.map fun f => (f.type, f.offset)) = [(9, 0), (9, 1)] := by kernel_rfl
theorem w165 : Tryz.prog.cellsOf 165 = 2 := by kernel_rfl
theorem rdWy : Rd Tryz.prog W enc 165 fun ts => ∃ a, ts = EWy.enc a := fun n cs x h => by
  have hl := Rd.len v165 h
  rw [w165] at hl
  obtain ⟨_, ⟨a0, rfl⟩, h0⟩ := Rd.field v165 h l165 (i := 0) rfl w9 (Rd.str v9)
  obtain ⟨_, ⟨a1, rfl⟩, h1⟩ := Rd.field v165 h l165 (i := 1) rfl w9 (Rd.str v9)
  exact ⟨_, ⟨⟨a0, a1⟩, rfl⟩, (RoL.cut 0 1 h0 (RoL.cut 1 1 h1 (RoL.stop hl)))⟩
theorem v41 : Tryz.prog.underlying 41 = some (.slice 165) := by kernel_rfl
theorem w41 : Tryz.prog.cellsOf 41 = 1 := by kernel_rfl
theorem v43 : Tryz.prog.underlying 43 = some (.struct (fsOf 43)) := by kernel_rfl
theorem l43 : ((fsOf 43).toList.map fun f => (f.type, f.offset)) = [(9, 0), (24, 1), (41, 2)] := by kernel_rfl
theorem w43 : Tryz.prog.cellsOf 43 = 3 := by kernel_rfl
theorem rdCf : Rd Tryz.prog W enc 43 fun ts => ∃ a, ts = ECf.enc a := fun n cs x h => by
  have hl := Rd.len v43 h
  rw [w43] at hl
  obtain ⟨_, ⟨a0, rfl⟩, h0⟩ := Rd.field v43 h l43 (i := 0) rfl w9 (Rd.str v9)
  obtain ⟨_, ⟨a1, rfl⟩, h1⟩ := Rd.field v43 h l43 (i := 1) rfl w24 (Rd.slice EStr v24 w9 (by decide) rdStr)
  obtain ⟨_, ⟨a2, rfl⟩, h2⟩ := Rd.field v43 h l43 (i := 2) rfl w41 (Rd.slice EWy v41 w165 (by decide) rdWy)
  exact ⟨_, ⟨⟨a0, a1, a2⟩, rfl⟩, (RoL.cut 0 1 h0 (RoL.cut 1 1 h1 (RoL.cut 2 1 h2 (RoL.stop hl))))⟩
theorem v3 : Tryz.prog.underlying 3 = some (.int .i64) := by kernel_rfl
theorem w3 : Tryz.prog.cellsOf 3 = 1 := by kernel_rfl
theorem rdInt : Rd Tryz.prog W enc 3 fun ts => ∃ a, ts = EInt.enc a := fun n cs x h => Rd.int v3 n cs x h
theorem v138 : Tryz.prog.underlying 138 = some (.struct (fsOf 138)) := by kernel_rfl
theorem l138 : ((fsOf 138).toList.map fun f => (f.type, f.offset)) = [(9, 0), (9, 1)] := by kernel_rfl
theorem w138 : Tryz.prog.cellsOf 138 = 2 := by kernel_rfl
theorem rdAd : Rd Tryz.prog W enc 138 fun ts => ∃ a, ts = EAd.enc a := fun n cs x h => by
  have hl := Rd.len v138 h
  rw [w138] at hl
  obtain ⟨_, ⟨a0, rfl⟩, h0⟩ := Rd.field v138 h l138 (i := 0) rfl w9 (Rd.str v9)
  obtain ⟨_, ⟨a1, rfl⟩, h1⟩ := Rd.field v138 h l138 (i := 1) rfl w9 (Rd.str v9)
  exact ⟨_, ⟨⟨a0, a1⟩, rfl⟩, (RoL.cut 0 1 h0 (RoL.cut 1 1 h1 (RoL.stop hl)))⟩
theorem v220 : Tryz.prog.underlying 220 = some (.struct (fsOf 220)) := by kernel_rfl
theorem l220 : ((fsOf 220).toList.map fun f => (f.type, f.offset)) = [(138, 0), (3, 2), (3, 3)] := by kernel_rfl
theorem w220 : Tryz.prog.cellsOf 220 = 4 := by kernel_rfl
theorem rdRc : Rd Tryz.prog W enc 220 fun ts => ∃ a, ts = ERc.enc a := fun n cs x h => by
  have hl := Rd.len v220 h
  rw [w220] at hl
  obtain ⟨_, ⟨a0, rfl⟩, h0⟩ := Rd.field v220 h l220 (i := 0) rfl w138 (rdAd)
  obtain ⟨_, ⟨a1, rfl⟩, h1⟩ := Rd.field v220 h l220 (i := 1) rfl w3 (Rd.int v3)
  obtain ⟨_, ⟨a2, rfl⟩, h2⟩ := Rd.field v220 h l220 (i := 2) rfl w3 (Rd.int v3)
  exact ⟨_, ⟨⟨a0, a1, a2⟩, rfl⟩, (RoL.cut 0 2 h0 (RoL.cut 2 1 h1 (RoL.cut 3 1 h2 (RoL.stop hl))))⟩
theorem v177 : Tryz.prog.underlying 177 = some (.slice 220) := by kernel_rfl
theorem w177 : Tryz.prog.cellsOf 177 = 1 := by kernel_rfl
theorem v179 : Tryz.prog.underlying 179 = some (.struct (fsOf 179)) := by kernel_rfl
theorem l179 : ((fsOf 179).toList.map fun f => (f.type, f.offset)) = [(3, 0), (138, 1), (177, 3), (24, 4)] := by kernel_rfl
theorem w179 : Tryz.prog.cellsOf 179 = 5 := by kernel_rfl
theorem rdIm : Rd Tryz.prog W enc 179 fun ts => ∃ a, ts = EIm.enc a := fun n cs x h => by
  have hl := Rd.len v179 h
  rw [w179] at hl
  obtain ⟨_, ⟨a0, rfl⟩, h0⟩ := Rd.field v179 h l179 (i := 0) rfl w3 (Rd.int v3)
  obtain ⟨_, ⟨a1, rfl⟩, h1⟩ := Rd.field v179 h l179 (i := 1) rfl w138 (rdAd)
  obtain ⟨_, ⟨a2, rfl⟩, h2⟩ := Rd.field v179 h l179 (i := 2) rfl w177 (Rd.slice ERc v177 w220 (by decide) rdRc)
  obtain ⟨_, ⟨a3, rfl⟩, h3⟩ := Rd.field v179 h l179 (i := 3) rfl w24 (Rd.slice EStr v24 w9 (by decide) rdStr)
  exact ⟨_, ⟨⟨a0, a1, a2, a3⟩, rfl⟩, (RoL.cut 0 1 h0 (RoL.cut 1 2 h1 (RoL.cut 3 1 h2 (RoL.cut 4 1 h3 (RoL.stop hl)))))⟩
theorem v44 : Tryz.prog.underlying 44 = some (.slice 179) := by kernel_rfl
theorem w44 : Tryz.prog.cellsOf 44 = 1 := by kernel_rfl
theorem v46 : Tryz.prog.underlying 46 = some (.struct (fsOf 46)) := by kernel_rfl
theorem l46 : ((fsOf 46).toList.map fun f => (f.type, f.offset)) = [(3, 0), (44, 1)] := by kernel_rfl
theorem w46 : Tryz.prog.cellsOf 46 = 2 := by kernel_rfl
theorem rdSp : Rd Tryz.prog W enc 46 fun ts => ∃ a, ts = ESp.enc a := fun n cs x h => by
  have hl := Rd.len v46 h
  rw [w46] at hl
  obtain ⟨_, ⟨a0, rfl⟩, h0⟩ := Rd.field v46 h l46 (i := 0) rfl w3 (Rd.int v3)
  obtain ⟨_, ⟨a1, rfl⟩, h1⟩ := Rd.field v46 h l46 (i := 1) rfl w44 (Rd.slice EIm v44 w179 (by decide) rdIm)
  exact ⟨_, ⟨⟨a0, a1⟩, rfl⟩, (RoL.cut 0 1 h0 (RoL.cut 1 1 h1 (RoL.stop hl)))⟩
theorem v204 : Tryz.prog.underlying 204 = some (.struct (fsOf 204)) := by kernel_rfl
theorem l204 : ((fsOf 204).toList.map fun f => (f.type, f.offset)) = [(138, 0), (24, 2)] := by kernel_rfl
theorem w204 : Tryz.prog.cellsOf 204 = 3 := by kernel_rfl
theorem rdGm : Rd Tryz.prog W enc 204 fun ts => ∃ a, ts = EGm.enc a := fun n cs x h => by
  have hl := Rd.len v204 h
  rw [w204] at hl
  obtain ⟨_, ⟨a0, rfl⟩, h0⟩ := Rd.field v204 h l204 (i := 0) rfl w138 (rdAd)
  obtain ⟨_, ⟨a1, rfl⟩, h1⟩ := Rd.field v204 h l204 (i := 1) rfl w24 (Rd.slice EStr v24 w9 (by decide) rdStr)
  exact ⟨_, ⟨⟨a0, a1⟩, rfl⟩, (RoL.cut 0 2 h0 (RoL.cut 2 1 h1 (RoL.stop hl)))⟩
theorem v139 : Tryz.prog.underlying 139 = some (.slice 204) := by kernel_rfl
theorem w139 : Tryz.prog.cellsOf 139 = 1 := by kernel_rfl
theorem v141 : Tryz.prog.underlying 141 = some (.struct (fsOf 141)) := by kernel_rfl
theorem l141 : ((fsOf 141).toList.map fun f => (f.type, f.offset)) = [(138, 0), (139, 2)] := by kernel_rfl
theorem w141 : Tryz.prog.cellsOf 141 = 3 := by kernel_rfl
theorem rdBx : Rd Tryz.prog W enc 141 fun ts => ∃ a, ts = EBx.enc a := fun n cs x h => by
  have hl := Rd.len v141 h
  rw [w141] at hl
  obtain ⟨_, ⟨a0, rfl⟩, h0⟩ := Rd.field v141 h l141 (i := 0) rfl w138 (rdAd)
  obtain ⟨_, ⟨a1, rfl⟩, h1⟩ := Rd.field v141 h l141 (i := 1) rfl w139 (Rd.slice EGm v139 w204 (by decide) rdGm)
  exact ⟨_, ⟨⟨a0, a1⟩, rfl⟩, (RoL.cut 0 2 h0 (RoL.cut 2 1 h1 (RoL.stop hl)))⟩
theorem v47 : Tryz.prog.underlying 47 = some (.slice 141) := by kernel_rfl
theorem w47 : Tryz.prog.cellsOf 47 = 1 := by kernel_rfl
theorem v144 : Tryz.prog.underlying 144 = some (.struct (fsOf 144)) := by kernel_rfl
theorem l144 : ((fsOf 144).toList.map fun f => (f.type, f.offset)) = [(9, 0), (138, 1)] := by kernel_rfl
theorem w144 : Tryz.prog.cellsOf 144 = 3 := by kernel_rfl
theorem rdLs : Rd Tryz.prog W enc 144 fun ts => ∃ a, ts = ELs.enc a := fun n cs x h => by
  have hl := Rd.len v144 h
  rw [w144] at hl
  obtain ⟨_, ⟨a0, rfl⟩, h0⟩ := Rd.field v144 h l144 (i := 0) rfl w9 (Rd.str v9)
  obtain ⟨_, ⟨a1, rfl⟩, h1⟩ := Rd.field v144 h l144 (i := 1) rfl w138 (rdAd)
  exact ⟨_, ⟨⟨a0, a1⟩, rfl⟩, (RoL.cut 0 1 h0 (RoL.cut 1 2 h1 (RoL.stop hl)))⟩
theorem v48 : Tryz.prog.underlying 48 = some (.slice 144) := by kernel_rfl
theorem w48 : Tryz.prog.cellsOf 48 = 1 := by kernel_rfl
theorem v50 : Tryz.prog.underlying 50 = some (.struct (fsOf 50)) := by kernel_rfl
theorem l50 : ((fsOf 50).toList.map fun f => (f.type, f.offset)) = [(43, 0), (46, 3), (47, 5), (48, 6)] := by kernel_rfl
theorem w50 : Tryz.prog.cellsOf 50 = 7 := by kernel_rfl
theorem rdHs : Rd Tryz.prog W enc 50 fun ts => ∃ a, ts = EHs.enc a := fun n cs x h => by
  have hl := Rd.len v50 h
  rw [w50] at hl
  obtain ⟨_, ⟨a0, rfl⟩, h0⟩ := Rd.field v50 h l50 (i := 0) rfl w43 (rdCf)
  obtain ⟨_, ⟨a1, rfl⟩, h1⟩ := Rd.field v50 h l50 (i := 1) rfl w46 (rdSp)
  obtain ⟨_, ⟨a2, rfl⟩, h2⟩ := Rd.field v50 h l50 (i := 2) rfl w47 (Rd.slice EBx v47 w141 (by decide) rdBx)
  obtain ⟨_, ⟨a3, rfl⟩, h3⟩ := Rd.field v50 h l50 (i := 3) rfl w48 (Rd.slice ELs v48 w144 (by decide) rdLs)
  exact ⟨_, ⟨⟨a0, a1, a2, a3⟩, rfl⟩, (RoL.cut 0 3 h0 (RoL.cut 3 2 h1 (RoL.cut 5 1 h2 (RoL.cut 6 1 h3 (RoL.stop hl)))))⟩
/-- The package's number, whatever it is. -/
theorem glOk_of (h : W.ShapedOpen Tryz.prog) : ∃ m, GlOk m W (pW W) := by
  obtain ⟨cs, h1, h2, h3⟩ := h.1 0 #[.int .i64 0] 3 (Nat.lt_of_lt_of_le (Nat.lt_succ_self 0) (Nat.le_of_ble_eq_true (by kernel_rfl))) (by kernel_rfl)
  obtain ⟨ts, t1, _, t3⟩ := h3 (by kernel_rfl)
  have hts : ts = [3] := Option.some.inj (t1.symm.trans (by kernel_rfl))
  subst hts
  have hsz : cs.size = 1 := h2
  have h0 : cs[0]? = some cs[0] := Array.getElem?_eq_getElem (by omega)
  obtain ⟨u, hu, hok⟩ := t3 0 _ h0
  simp at hu
  subst hu
  unfold Cell.ok at hok
  rw [v3] at hok
  generalize cs[0] = v at h0 hok
  have hb : (0 : Nat) < W.heap.size := (Array.getElem?_eq_some_iff.1 h1).1
  cases v with
  | int k n =>
    have hk : k = .i64 := hok.1
    subst hk
    refine ⟨n, .rop _ _ [.int .i64 n] (fun _ => hb) (fun j u hj => ?_) (.cons _ _ _ _ (.v _ trivial) .nil)⟩
    cases j with
    | zero =>
      simp at hj
      subst hj
      simp [World.cell?, Addr.add, glb, h1, h0]
    | succ j => simp at hj
  | _ => exact hok.elim
end
theorem every : YtniaalhdkippdaaGreatDoor.Every := by
  intro H enc W base args ds gs before hval0 hW hS
  have hval : ∀ (j : Nat) t v, Tryz.f5.params[j]? = some t → args[j]? = some v → Value.okWide Tryz.prog W .any base t v := hval0
  have hW' := hW
  obtain ⟨p, q, hA0, hV, rfl, hfz, hnd⟩ := hW
  have hA : DataW.TrodAll enc Tryz.prog W 0 (fun _ => true) true [50, 3, 9, 3] args.toList ds p := hA0
  rw [YtniaalhdkippdaaGreatDoor.params5] at hval
  obtain ⟨u0, u1, u2, u3, d0, d1, d2, d3, p0, p1, p2, p3, rfl, rfl, rfl, h0, h1, h2, h3⟩ := trodAll_four hA
  obtain ⟨rfl, rfl⟩ := trodVars_none hV
  have hlt : ∀ x ∈ (p0 ++ p1 ++ p2 ++ p3) ++ [], x.block < W.heap.size := fun x hx => hW'.lt x hx
  have k0 := h0
  obtain ⟨n0, t0⟩ := h0
  obtain ⟨_, ⟨h, rfl⟩, r0⟩ := (rdHs) _ _ _ t0
  have k1 := h1
  obtain ⟨n1, t1⟩ := h1
  obtain ⟨_, ⟨n, rfl⟩, r1⟩ := (Rd.int v3) _ _ _ t1
  have k2 := h2
  obtain ⟨n2, t2⟩ := h2
  obtain ⟨_, ⟨to, rfl⟩, r2⟩ := (Rd.str v9) _ _ _ t2
  have k3 := h3
  obtain ⟨n3, t3⟩ := h3
  obtain ⟨_, ⟨w, rfl⟩, r3⟩ := (Rd.int v3) _ _ _ t3
  obtain ⟨cs0, rfl, _, _⟩ : ∃ cs, u0 = .agg cs ∧ cs.size = Tryz.prog.cellsOf 50 ∧ _ := by
    have := hval 0 50 u0 rfl rfl
    unfold Value.okWide at this
    rw [v50] at this
    exact this
  have r0' : RoL W (pW W) (EHs.enc h) cs0.toList := r0
  have a0 : AHas ρ0 W (pW W) (.agg ((EHs.enc h).map .t)) (.agg cs0) [] := by
    have ha : AHas ρ0 W (pW W) (.agg ((EHs.enc h).map .t)) (.agg cs0.toList.toArray) [] := .agg _ _ _ r0'.t r0'.ones
    rwa [Array.toArray_toList] at ha
  have e1 : u1.cells.toList = [u1] := by
    have := hval 1 3 u1 rfl rfl
    unfold Value.okWide at this
    rw [v3] at this
    cases u1 with
    | agg cs => simp only [Cell.okWide, v3, Cell.ok] at this
    | _ => rfl
  rw [e1] at r1
  have r1' : Ro W (pW W) (.v (.int .i64 n)) u1 := by
    cases r1 with | cons _ _ _ _ h _ => exact h
  have a1 : AHas ρ0 W (pW W) (.t (.v (.int .i64 n))) u1 [] := .t _ _ r1'
  have e2 : u2.cells.toList = [u2] := by
    have := hval 2 9 u2 rfl rfl
    unfold Value.okWide at this
    rw [v9] at this
    cases u2 with
    | agg cs => simp only [Cell.okWide, v9, Cell.ok] at this
    | _ => rfl
  rw [e2] at r2
  have r2' : Ro W (pW W) (.v (.string to)) u2 := by
    cases r2 with | cons _ _ _ _ h _ => exact h
  have a2 : AHas ρ0 W (pW W) (.t (.v (.string to))) u2 [] := .t _ _ r2'
  have e3 : u3.cells.toList = [u3] := by
    have := hval 3 3 u3 rfl rfl
    unfold Value.okWide at this
    rw [v3] at this
    cases u3 with
    | agg cs => simp only [Cell.okWide, v3, Cell.ok] at this
    | _ => rfl
  rw [e3] at r3
  have r3' : Ro W (pW W) (.v (.int .i64 w)) u3 := by
    cases r3 with | cons _ _ _ _ h _ => exact h
  have a3 : AHas ρ0 W (pW W) (.t (.v (.int .i64 w))) u3 [] := .t _ _ r3'
  obtain ⟨m, hgl⟩ := glOk_of hS
  have hargs : AHasL ρ0 W (pW W) ((lc EHs.ag (lc AInt (lc AStr (lc AInt l0)))).enc (h, n, to, w, ())) [.agg cs0, u1, u2, u3] [] := .cons _ _ _ _ [] [] a0 (.cons _ _ _ _ [] [] a1 (.cons _ _ _ _ [] [] a2 (.cons _ _ _ _ [] [] a3 .nil)))
  have hcall := con5 m h n to w W (pW W) [.agg cs0, u1, u2, u3] [] hgl hargs .nil (fun b hb => by cases hb) (fun b hb => hb)
  refine Calls.mono hcall fun e W' hq => ?_
  obtain ⟨v, pr', G, F, he, hfr, _, _, _, _, hv, _, _⟩ := hq
  obtain ⟨rfl, _⟩ := hv.val
  have hb : Below W.heap.size W W' := ⟨hfr.os, hfr.tape, hfr.output, hfr.size, fun k hk => hfr.block k hk (by simp)⟩
  refine ⟨_, he, _, _, _, [], p0 ++ p1 ++ p2 ++ p3, [], hW', ?_, ?_, rfl, hb.frame _, fun h => by cases h⟩
  · exact trodAll_mk1 (shut_bool (show Tryz.prog.underlying 4 = some .bool by kernel_rfl) _)
  · have := trodAll_mk4 (Below.trod (by kernel_rfl) (by kernel_rfl) (of_decide_eq_true (by kernel_rfl)) k0 hb fun x hx => hlt x (by simp [hx])) (Below.trod (by kernel_rfl) (by kernel_rfl) (of_decide_eq_true (by kernel_rfl)) k1 hb fun x hx => hlt x (by simp [hx])) (Below.trod (by kernel_rfl) (by kernel_rfl) (of_decide_eq_true (by kernel_rfl)) k2 hb fun x hx => hlt x (by simp [hx])) (Below.trod (by kernel_rfl) (by kernel_rfl) (of_decide_eq_true (by kernel_rfl)) k3 hb fun x hx => hlt x (by simp [hx]))
    simp only [List.append_assoc]
    exact this
end Go.V
namespace Go.Proofs.YtniaalhdkippdaaGreatDoor
theorem fnExactHostPart_card : Rows.FnExactHostPartCardSaid := card_of Go.V.every
end Go.Proofs.YtniaalhdkippdaaGreatDoor
