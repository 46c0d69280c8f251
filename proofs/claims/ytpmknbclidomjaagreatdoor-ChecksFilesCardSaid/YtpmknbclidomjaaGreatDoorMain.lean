/-
  The facts on the world that the row's premises give; no other condition.
-/
import Derived.Test.YtpmknbclidomjaaGreatDoorWalk
import Derived.Test.YtpmknbclidomjaaGreatDoorRows
import Derived.Test.YtpmknbclidomjaaGreatDoorWit0
import Derived.OpenVars
import Derived.LaidMore
import Derived.ProofKit
import Derived.Test.YtpmknbclidomjaaGreatDoorWit3
import Derived.Test.YtpmknbclidomjaaGreatDoorFac1
import Derived.Test.YtpmknbclidomjaaGreatDoorFac2
import Derived.Test.YtpmknbclidomjaaGreatDoorFac3
import Derived.Test.YtpmknbclidomjaaGreatDoorFq1
import Derived.Clock
import Derived.OpenShut
import Derived.Carry
import Derived.Lay
import Derived.LaidOnce
import Derived.Test.YtpmknbclidomjaaGreatDoorCards
import Derived.Test.YtpmknbclidomjaaGreatDoorRunS
import Derived.Test.YtpmknbclidomjaaGreatDoorRunP
import Derived.Test.YtpmknbclidomjaaGreatDoorRunL
import Derived.Test.YtpmknbclidomjaaGreatDoorRunF0
import Derived.Test.YtpmknbclidomjaaGreatDoorRunF1
import Derived.Test.YtpmknbclidomjaaGreatDoorRunF2
import Derived.Test.YtpmknbclidomjaaGreatDoorRunF3
import Derived.Test.YtpmknbclidomjaaGreatDoorRunF4
import Derived.Test.YtpmknbclidomjaaGreatDoorRunF5
import Derived.Test.YtpmknbclidomjaaGreatDoorRunF6
import Derived.Test.YtpmknbclidomjaaGreatDoorRunF7
import Derived.Test.YtpmknbclidomjaaGreatDoorRunF8
import Derived.Test.YtpmknbclidomjaaGreatDoorRunF9
import Derived.Test.YtpmknbclidomjaaGreatDoorRunF10
import Derived.Test.YtpmknbclidomjaaGreatDoorRunF11
import Derived.Test.YtpmknbclidomjaaGreatDoorRunF12
import Derived.Test.YtpmknbclidomjaaGreatDoorRunF13
import Derived.Test.YtpmknbclidomjaaGreatDoorRunF14
import Derived.Test.YtpmknbclidomjaaGreatDoorRunF15
import Derived.Test.YtpmknbclidomjaaGreatDoorRunF16
import Derived.Test.YtpmknbclidomjaaGreatDoorRunF17
import Derived.Test.YtpmknbclidomjaaGreatDoorRunF18
import Derived.Test.YtpmknbclidomjaaGreatDoorRunF19
import Derived.Test.YtpmknbclidomjaaGreatDoorTn
import Derived.SevenTiedAt
set_option linter.unusedVariables false
set_option linter.unusedSimpArgs false
namespace Go.Proofs.YtpmknbclidomjaaGreatDoor
open Go Go.Abs
set_option maxRecDepth 100000
set_option maxHeartbeats 0
open Go.ChangeShapes Go.WideShapes Go.ChangeAt Go.RowKit Go.Clock
abbrev LAIDb : List (String × DataW Unit) := Rows.checksFilesRow.laid
theorem facts {W : World} (hL : laidMetH Tryz.prog LAIDb W) (hsh : W.ShapedOpen Tryz.prog) : Facts W := by
  rw [MakeChecks.laidMetH_plain _ _ _ (by kernel_rfl)] at hL
  have TA : Lib.TabIs Tryz.prog W "strings.asciiSpace" .u8 Lib.asciiSpaceTab := Lib.tabIs_of_head (g := 0) (t := 92) (e := 5) (n := 256) (by kernel_rfl) (by kernel_rfl) (by kernel_rfl) (by kernel_rfl) (by kernel_rfl) (by kernel_rfl) hL
  have T0 : Lib.TabIs Tryz.prog W "columnseven/pictures.floats" .u8 [36, 43, 45] := Lib.tabIs_of_head (g := 5) (t := 410) (e := 5) (n := 3) (by kernel_rfl) (by kernel_rfl) (by kernel_rfl) (by kernel_rfl) (by kernel_rfl) (by kernel_rfl) hL.tail.tail.tail.tail.tail.tail.tail.tail.tail
  have T1 : Lib.TabIs Tryz.prog W "columnseven/moves.legal" .u8 [63, 15, 63, 15, 61, 61] := Lib.tabIs_of_head (g := 7) (t := 470) (e := 5) (n := 6) (by kernel_rfl) (by kernel_rfl) (by kernel_rfl) (by kernel_rfl) (by kernel_rfl) (by kernel_rfl) hL.tail.tail.tail.tail.tail.tail.tail.tail.tail.tail
  have hrow : ∀ g t, g < 15 → ((((begin Tryz.prog (fun _ _ => 0) default).world.heap[g]?).bind Obj.row?).map (·.2) = some t) → ∃ cs, W.heap[g]? = some (.cells cs t) := fun g t hg h => shaped_at hsh g t (by rw [globsW]; exact hg) h
  obtain ⟨c0, h0⟩ := hrow 0 92 (by omega) (by unfold begin; rw [waiting_eq]; kernel_rfl)
  obtain ⟨c3, h3⟩ := hrow 2 3 (by omega) (by unfold begin; rw [waiting_eq]; kernel_rfl)
  obtain ⟨d0, k0⟩ := hrow 5 410 (by omega) (by unfold begin; rw [waiting_eq]; kernel_rfl)
  obtain ⟨d1, k1⟩ := hrow 7 470 (by omega) (by unfold begin; rw [waiting_eq]; kernel_rfl)
  obtain ⟨m, hm⟩ := cell_of_shapedOpen_int (P := Tryz.prog) (g := 2) (t := 3) (zero := #[.int .i64 0]) hsh (by rw [globsW]; omega) (by unfold begin; rw [waiting_eq]; kernel_rfl) rfl (by kernel_rfl) (by kernel_rfl) Tryz.underlying3
  have hsz : c3.size = 1 := by
    obtain ⟨cs, hc, hs, _⟩ := hsh.1 2 #[.int .i64 0] 3 (by rw [globsW]; omega) (by unfold begin; rw [waiting_eq]; kernel_rfl)
    rw [h3] at hc
    cases hc
    exact hs
  refine ⟨⟨(0, 0), by rw [h0, obj_of named0 h0 TA]⟩, ⟨m, (0, 0), ?_⟩, ⟨(0, 0), by rw [k0, obj_of (by kernel_rfl) k0 T0]; rfl⟩, ⟨(0, 0), by rw [k1, obj_of (by kernel_rfl) k1 T1]; rfl⟩⟩
  rw [h3]
  have : c3 = #[.int .i64 m] := by
    have h2 : c3[0]? = some (.int .i64 m) := by
      have := hm
      simp [World.cell?, h3] at this
      simpa using this
    apply Array.ext_getElem?
    intro i
    cases i with
    | zero => rw [h2]; rfl
    | succ i => rw [Array.getElem?_eq_none (by omega), Array.getElem?_eq_none (by simp)]
  rw [this]
end Go.Proofs.YtpmknbclidomjaaGreatDoor
namespace Go.Proofs.YtpmknbclidomjaaGreatDoor
open Go Go.Abs
set_option maxRecDepth 100000
set_option maxHeartbeats 0
open Go.ChangeShapes Go.WideShapes Go.ChangeAt Go.RowKit Go.Clock
theorem own : ownKnob Tryz.prog.godebug = none := by kernel_rfl
abbrev LAID : List (String × DataW Unit) := Rows.checksFilesRow.laid
/-- what the walk says -/
abbrev WalkSaid : Prop := ∀ (v : Value) (x y : Int) (W : World), (Lit.int .u8 x).wf = true → (Lit.int .u8 y).wf = true → Go.Abs.BytesOk W v → laidMetH Tryz.prog LAID W → W.ShapedOpen Tryz.prog →
    Calls Tryz.prog 3 #[v, .agg #[.int .u8 x, .int .u8 y]] W fun e w' => e = .returned (.bool true) ∧ Below W.heap.size W w'
theorem lifted (R : WalkSaid) (os : Os) (started : os.Started) (H : Type) (enc : TypeId × Value → H) (F : Stop.Interp) :
    ReturnsInHanded { calm := true } Tryz.checked os 3 .any (fun w args => (Rows.checksFilesSpec.pre enc Tryz.prog Tryz.f3 [] false w args ∧ laidMetH Tryz.prog LAID w) ∧ sizedMet enc Tryz.prog Tryz.f3 (OpenSpec.ofChange Rows.checksFilesSpec) false w args)
      ((OpenSpec.ofChange Rows.checksFilesSpec).postWith enc Tryz.prog Tryz.f3 F (outsideKept [.timePasses]) false true false) := by
  refine returns_of_change (C := Tryz.checked) (X := fun w _ => laidMetH Tryz.prog LAID w) (fun _ _ _ hh h => h.of_heap hh) own started (by kernel_rfl) Tryz.func3
    (witness_at (enc := enc) (C := Tryz.checked) (X := fun w _ => laidMetH Tryz.prog LAID w) (World.laidAll Tryz.prog os LAID) #[.slice none 0 0, .agg #[.int .u8 0, .int .u8 0]] 8 (World.laidAll_os _ _ _) (World.shaped_of_ZipB (lay_shaped1 os) (lay_shaped2 os)) (by kernel_rfl) (by kernel_rfl) (by kernel_rfl)
      (by rw [MakeChecks.laidMetH_plain _ _ _ (by kernel_rfl)]; exact laidMet_laidAll _ (lay_fits os) (lay_ifaces os))) ?_
  intro W base args ds gs before hval0 hW _ _ hL hsh
  have hval : ∀ (j : Nat) t v, Tryz.f3.params[j]? = some t → args[j]? = some v → Value.okWide Tryz.prog W .any base t v := hval0
  have hW' := hW
  have hlt := hW.lt
  obtain ⟨p, q, hA0, hV, rfl, _, _⟩ := hW
  obtain ⟨rfl, rfl⟩ := trodVars_none hV
  have hA : DataW.TrodAll enc Tryz.prog W 0 (fun _ => true) true Tryz.f3.params.toList args.toList ds p := hA0
  rw [Tryz.params3] at hA hval
  obtain ⟨v0, vs0, d0, ds0, p0, q0, hargs, rfl, rfl, h0, r0⟩ := trodAll_cons hA
  obtain ⟨v1, vs1, d1, ds1, p1, q1, rfl, rfl, rfl, h1, r1⟩ := trodAll_cons r0
  obtain ⟨rfl, rfl, rfl⟩ := trodAll_nil r1
  obtain rfl : args = #[v0, v1] := by cases args; simp_all
  have hp := Go.Abs.open_bytes' Tryz.underlying22 Tryz.underlying5 (by kernel_rfl) (hval 0 22 v0 rfl rfl) h0
  obtain ⟨x, y, hv1, _, _, hx, hy⟩ := Go.Abs.open_pair Tryz.underlying23 Tryz.underlying5 (by kernel_rfl) (by kernel_rfl) (hval 1 23 v1 rfl rfl) h1
  subst hv1
  refine (R v0 x y W hx hy hp hL hsh).mono fun e W' ⟨he, hb⟩ => ?_
  subst he
  have hsince := Since.of_below hb
  have hV0 : DataW.TrodVars enc Tryz.prog ({ W' with os := W.os } : World) (fun b => decide (b < W.heap.size)) [] [] [] := rfl
  have h0' := Below.trod laidOut_eq (by kernel_rfl) (of_decide_eq_true (by kernel_rfl)) h0 hsince.2 (fun x hx => hlt x (by simp [hx]))
  have h1' := Below.trod laidOut_eq (by kernel_rfl) (of_decide_eq_true (by kernel_rfl)) h1 hsince.2 (fun x hx => hlt x (by simp [hx]))
  exact ⟨_, rfl, ⟨_, _, _, [], _, [], hW', trodAll_mk1 (shut_bool Tryz.underlying4 _), by rw [Tryz.params3]; exact trodAll_cons_mk h0' (trodAll_cons_mk h1' trodAll_mk0), hV0, hsince.2.frame _, fun h => by cases h⟩, hsince.1⟩
theorem over (R : WalkSaid) : Rows.checksFilesRow.holds Tryz.pinned (OpenSpec.ofChange Rows.checksFilesSpec) :=
  holds_of_wide_time 3 Tryz.f3 rfl rfl rfl rfl rfl rfl rfl ⟨rfl, rfl, rfl, rfl, rfl⟩ rfl rfl rfl rfl rfl fac_named Tryz.func3 fac_closed fac_inst fac_wrap
    (fun os started H enc _ F => lifted R os started H enc F)
end Go.Proofs.YtpmknbclidomjaaGreatDoor
namespace Go.Proofs.YtpmknbclidomjaaGreatDoor
open Go Go.Abs
/-- all numbers below one -/
def Blw (p : Nat → Prop) : Nat → Prop := Nat.rec (motive := fun _ => Prop) PUnit fun i h => h ∧ p i
theorem blw {p : Nat → Prop} : ∀ {n : Nat}, Blw p n → ∀ m, m < n → p m
  | 0, _, m, h => absurd h (Nat.not_lt_zero m)
  | n + 1, h, m, hm => by
    have h : Blw p n ∧ p n := h
    rcases Nat.lt_or_ge m n with q | q
    · exact blw h.1 m q
    · have e : m = n := by omega
      rw [e]; exact h.2
theorem all_lay : Blw (fun r => layRun r = true) 16 := And.intro (And.intro (And.intro (And.intro (And.intro (And.intro (And.intro (And.intro (And.intro (And.intro (And.intro (And.intro (And.intro (And.intro (And.intro (And.intro (PUnit.unit) lay0_run) lay1_run) lay2_run) lay3_run) lay4_run) lay5_run) lay6_run) lay7_run) lay8_run) lay9_run) lay10_run) lay11_run) lay12_run) lay13_run) lay14_run) lay15_run
theorem all_sh0 : Blw (fun m => shape 0 m = true) 1 := And.intro (PUnit.unit) sh0_0
theorem all_sh1 : Blw (fun m => shape 1 m = true) 3 := And.intro (And.intro (And.intro (PUnit.unit) sh1_0) sh1_1) sh1_2
theorem all_sh2 : Blw (fun m => shape 2 m = true) 9 := And.intro (And.intro (And.intro (And.intro (And.intro (And.intro (And.intro (And.intro (And.intro (PUnit.unit) sh2_0) sh2_1) sh2_2) sh2_3) sh2_4) sh2_5) sh2_6) sh2_7) sh2_8
theorem all_sh3 : Blw (fun m => shape 3 m = true) 27 := And.intro (And.intro (And.intro (And.intro (And.intro (And.intro (And.intro (And.intro (And.intro (And.intro (And.intro (And.intro (And.intro (And.intro (And.intro (And.intro (And.intro (And.intro (And.intro (And.intro (And.intro (And.intro (And.intro (And.intro (And.intro (And.intro (And.intro (PUnit.unit) sh3_0) sh3_1) sh3_2) sh3_3) sh3_4) sh3_5) sh3_6) sh3_7) sh3_8) sh3_9) sh3_10) sh3_11) sh3_12) sh3_13) sh3_14) sh3_15) sh3_16) sh3_17) sh3_18) sh3_19) sh3_20) sh3_21) sh3_22) sh3_23) sh3_24) sh3_25) sh3_26
theorem all_sh4 : Blw (fun m => shape 4 m = true) 81 := And.intro (And.intro (And.intro (And.intro (And.intro (And.intro (And.intro (And.intro (And.intro (And.intro (And.intro (And.intro (And.intro (And.intro (And.intro (And.intro (And.intro (And.intro (And.intro (And.intro (And.intro (And.intro (And.intro (And.intro (And.intro (And.intro (And.intro (And.intro (And.intro (And.intro (And.intro (And.intro (And.intro (And.intro (And.intro (And.intro (And.intro (And.intro (And.intro (And.intro (And.intro (And.intro (And.intro (And.intro (And.intro (And.intro (And.intro (And.intro (And.intro (And.intro (And.intro (And.intro (And.intro (And.intro (And.intro (And.intro (And.intro (And.intro (And.intro (And.intro (And.intro (And.intro (And.intro (And.intro (And.intro (And.intro (And.intro (And.intro (And.intro (And.intro (And.intro (And.intro (And.intro (And.intro (And.intro (And.intro (And.intro (And.intro (And.intro (And.intro (And.intro (PUnit.unit) sh4_0) sh4_1) sh4_2) sh4_3) sh4_4) sh4_5) sh4_6) sh4_7) sh4_8) sh4_9) sh4_10) sh4_11) sh4_12) sh4_13) sh4_14) sh4_15) sh4_16) sh4_17) sh4_18) sh4_19) sh4_20) sh4_21) sh4_22) sh4_23) sh4_24) sh4_25) sh4_26) sh4_27) sh4_28) sh4_29) sh4_30) sh4_31) sh4_32) sh4_33) sh4_34) sh4_35) sh4_36) sh4_37) sh4_38) sh4_39) sh4_40) sh4_41) sh4_42) sh4_43) sh4_44) sh4_45) sh4_46) sh4_47) sh4_48) sh4_49) sh4_50) sh4_51) sh4_52) sh4_53) sh4_54) sh4_55) sh4_56) sh4_57) sh4_58) sh4_59) sh4_60) sh4_61) sh4_62) sh4_63) sh4_64) sh4_65) sh4_66) sh4_67) sh4_68) sh4_69) sh4_70) sh4_71) sh4_72) sh4_73) sh4_74) sh4_75) sh4_76) sh4_77) sh4_78) sh4_79) sh4_80
theorem all_sh5 : Blw (fun m => shape 5 m = true) 243 := And.intro (And.intro (And.intro (And.intro (And.intro (And.intro (And.intro (And.intro (And.intro (And.intro (And.intro (And.intro (And.intro (And.intro (And.intro (And.intro (And.intro (And.intro (And.intro (And.intro (And.intro (And.intro (And.intro (And.intro (And.intro (And.intro (And.intro (And.intro (And.intro (And.intro (And.intro (And.intro (And.intro (And.intro (And.intro (And.intro (And.intro (And.intro (And.intro (And.intro (And.intro (And.intro (And.intro (And.intro (And.intro (And.intro (And.intro (And.intro (And.intro (And.intro (And.intro (And.intro (And.intro (And.intro (And.intro (And.intro (And.intro (And.intro (And.intro (And.intro (And.intro (And.intro (And.intro (And.intro (And.intro (And.intro (And.intro (And.intro (And.intro (And.intro (And.intro (And.intro (And.intro (And.intro (And.intro (And.intro (And.intro (And.intro (And.intro (And.intro (And.intro (And.intro (And.intro (And.intro (And.intro (And.intro (And.intro (And.intro (And.intro (And.intro (And.intro (And.intro (And.intro (And.intro (And.intro (And.intro (And.intro (And.intro (And.intro (And.intro (And.intro (And.intro (And.intro (And.intro (And.intro (And.intro (And.intro (And.intro (And.intro (And.intro (And.intro (And.intro (And.intro (And.intro (And.intro (And.intro (And.intro (And.intro (And.intro (And.intro (And.intro (And.intro (And.intro (And.intro (And.intro (And.intro (And.intro (And.intro (And.intro (And.intro (And.intro (And.intro (And.intro (And.intro (And.intro (And.intro (And.intro (And.intro (And.intro (And.intro (And.intro (And.intro (And.intro (And.intro (And.intro (And.intro (And.intro (And.intro (And.intro (And.intro (And.intro (And.intro (And.intro (And.intro (And.intro (And.intro (And.intro (And.intro (And.intro (And.intro (And.intro (And.intro (And.intro (And.intro (And.intro (And.intro (And.intro (And.intro (And.intro (And.intro (And.intro (And.intro (And.intro (And.intro (And.intro (And.intro (And.intro (And.intro (And.intro (And.intro (And.intro (And.intro (And.intro (And.intro (And.intro (And.intro (And.intro (And.intro (And.intro (And.intro (And.intro (And.intro (And.intro (And.intro (And.intro (And.intro (And.intro (And.intro (And.intro (And.intro (And.intro (And.intro (And.intro (And.intro (And.intro (And.intro (And.intro (And.intro (And.intro (And.intro (And.intro (And.intro (And.intro (And.intro (And.intro (And.intro (And.intro (And.intro (And.intro (And.intro (And.intro (And.intro (And.intro (And.intro (And.intro (And.intro (And.intro (And.intro (And.intro (And.intro (And.intro (And.intro (And.intro (And.intro (And.intro (And.intro (And.intro (And.intro (And.intro (And.intro (And.intro (And.intro (And.intro (PUnit.unit) sh5_0) sh5_1) sh5_2) sh5_3) sh5_4) sh5_5) sh5_6) sh5_7) sh5_8) sh5_9) sh5_10) sh5_11) sh5_12) sh5_13) sh5_14) sh5_15) sh5_16) sh5_17) sh5_18) sh5_19) sh5_20) sh5_21) sh5_22) sh5_23) sh5_24) sh5_25) sh5_26) sh5_27) sh5_28) sh5_29) sh5_30) sh5_31) sh5_32) sh5_33) sh5_34) sh5_35) sh5_36) sh5_37) sh5_38) sh5_39) sh5_40) sh5_41) sh5_42) sh5_43) sh5_44) sh5_45) sh5_46) sh5_47) sh5_48) sh5_49) sh5_50) sh5_51) sh5_52) sh5_53) sh5_54) sh5_55) sh5_56) sh5_57) sh5_58) sh5_59) sh5_60) sh5_61) sh5_62) sh5_63) sh5_64) sh5_65) sh5_66) sh5_67) sh5_68) sh5_69) sh5_70) sh5_71) sh5_72) sh5_73) sh5_74) sh5_75) sh5_76) sh5_77) sh5_78) sh5_79) sh5_80) sh5_81) sh5_82) sh5_83) sh5_84) sh5_85) sh5_86) sh5_87) sh5_88) sh5_89) sh5_90) sh5_91) sh5_92) sh5_93) sh5_94) sh5_95) sh5_96) sh5_97) sh5_98) sh5_99) sh5_100) sh5_101) sh5_102) sh5_103) sh5_104) sh5_105) sh5_106) sh5_107) sh5_108) sh5_109) sh5_110) sh5_111) sh5_112) sh5_113) sh5_114) sh5_115) sh5_116) sh5_117) sh5_118) sh5_119) sh5_120) sh5_121) sh5_122) sh5_123) sh5_124) sh5_125) sh5_126) sh5_127) sh5_128) sh5_129) sh5_130) sh5_131) sh5_132) sh5_133) sh5_134) sh5_135) sh5_136) sh5_137) sh5_138) sh5_139) sh5_140) sh5_141) sh5_142) sh5_143) sh5_144) sh5_145) sh5_146) sh5_147) sh5_148) sh5_149) sh5_150) sh5_151) sh5_152) sh5_153) sh5_154) sh5_155) sh5_156) sh5_157) sh5_158) sh5_159) sh5_160) sh5_161) sh5_162) sh5_163) sh5_164) sh5_165) sh5_166) sh5_167) sh5_168) sh5_169) sh5_170) sh5_171) sh5_172) sh5_173) sh5_174) sh5_175) sh5_176) sh5_177) sh5_178) sh5_179) sh5_180) sh5_181) sh5_182) sh5_183) sh5_184) sh5_185) sh5_186) sh5_187) sh5_188) sh5_189) sh5_190) sh5_191) sh5_192) sh5_193) sh5_194) sh5_195) sh5_196) sh5_197) sh5_198) sh5_199) sh5_200) sh5_201) sh5_202) sh5_203) sh5_204) sh5_205) sh5_206) sh5_207) sh5_208) sh5_209) sh5_210) sh5_211) sh5_212) sh5_213) sh5_214) sh5_215) sh5_216) sh5_217) sh5_218) sh5_219) sh5_220) sh5_221) sh5_222) sh5_223) sh5_224) sh5_225) sh5_226) sh5_227) sh5_228) sh5_229) sh5_230) sh5_231) sh5_232) sh5_233) sh5_234) sh5_235) sh5_236) sh5_237) sh5_238) sh5_239) sh5_240) sh5_241) sh5_242
theorem runs : Runs where
  words := runW_run
  s2_true := run2_true_run
  s3_tabPic := run3_tabPic_run
  s4_tabName := run4_tabName_run
  s5_prg := run5_prg_run
  s6_tf0 := run6_tf0_run
  s6_tf1 := run6_tf1_run
  s6_tf2 := run6_tf2_run
  s6_tf3 := run6_tf3_run
  s6_tf4 := run6_tf4_run
  s6_tf5 := run6_tf5_run
  s7_pf0 := run7_pf0_run
  s7_pf1 := run7_pf1_run
  s7_pf2 := run7_pf2_run
  s7_pf3 := run7_pf3_run
  s7_pf4 := run7_pf4_run
  s7_pf5 := run7_pf5_run
  s8_sc0 := run8_sc0_run
  s8_sc1 := run8_sc1_run
  s8_sc2 := run8_sc2_run
  s8_sc3 := run8_sc3_run
  s8_sc4 := run8_sc4_run
  s8_sc5 := run8_sc5_run
  big := big_run
  ents := fun k hk => match k, hk with
    | 0, _ => ents0
    | 1, _ => ents1
    | 2, _ => ents2
    | 3, _ => ents3
    | 4, _ => ents4
  lay := fun r hr => blw all_lay r hr
  shapes := fun n hn m hm => match n, hn, hm with
    | 0, _, hm => blw all_sh0 m (Nat.lt_of_lt_of_le hm (by decide))
    | 1, _, hm => blw all_sh1 m (Nat.lt_of_lt_of_le hm (by decide))
    | 2, _, hm => blw all_sh2 m (Nat.lt_of_lt_of_le hm (by decide))
    | 3, _, hm => blw all_sh3 m (Nat.lt_of_lt_of_le hm (by decide))
    | 4, _, hm => blw all_sh4 m (Nat.lt_of_lt_of_le hm (by decide))
    | 5, _, hm => blw all_sh5 m (Nat.lt_of_lt_of_le hm (by decide))
theorem checksFiles_proved : Rows.checksFilesRow.holds Tryz.pinned (OpenSpec.ofChange Rows.checksFilesSpec) := over fun v x y W hx hy hp hL hsh => walk runs v x y hx hy hp (facts hL hsh)

theorem checks_files_card : Rows.ChecksFilesCardSaid :=
  Claim7.holds_tied_plain_at .later [] [.data, .listed, .pinned, .data, .sentinel, .sentinel, .data, .data, .data, .data, .data, .data] true (true, "73d8a5311b92df8531e95212b172f168187b7a4ae495ebfa5f8ab52845135fa0") true checksFiles_proved (fun _ h => by cases h) card_wf (fun _ h => by cases h) checksFiles_row_tie rfl ⟨rfl, rfl⟩ card_main rfl
    (fun f fn hf hfn => by
      obtain rfl : f = 3 := (Option.some.inj (fac_named.symm.trans hf)).symm
      obtain rfl : fn = Tryz.f3 := (Option.some.inj (Tryz.func3.symm.trans hfn)).symm
      exact ⟨card_looks, fun j t ht => by
        rw [Tryz.params3] at ht
        have hm : t ∈ [22, 23] := by simpa using Array.mem_of_getElem? ht
        exact (show Tryz.prog.wantsStandIn t = false by simpa using List.all_eq_true.1 card_wants t hm)⟩)
    card_goes
end Go.Proofs.YtpmknbclidomjaaGreatDoor
