/-
  CodesOutside (columnsevenlaw28): for every number of times, every range, every number of steps and every last answer the call returns true and leaves its arguments as they were. Conditions: those of the given card (the listed variables lie as the text lays them, and that is tied; calm; time passes).
-/
import Derived.Test.YtjbibfedjhjdlaaGreatDoorORow
import Derived.Test.YtjbibfedjhjdlaaGreatDoorOWalkW
import Derived.Test.YtjbibfedjhjdlaaGreatDoorCards
import Derived.Test.YtjbibfedjhjdlaaGreatDoorORunS0
import Derived.Test.YtjbibfedjhjdlaaGreatDoorORunS1
import Derived.Test.YtjbibfedjhjdlaaGreatDoorORunS2
import Derived.Test.YtjbibfedjhjdlaaGreatDoorORunO0
import Derived.Test.YtjbibfedjhjdlaaGreatDoorORunO1
import Derived.Test.YtjbibfedjhjdlaaGreatDoorORunO2
import Derived.Test.YtjbibfedjhjdlaaGreatDoorORunO3
import Derived.Test.YtjbibfedjhjdlaaGreatDoorORunO4
import Derived.Test.YtjbibfedjhjdlaaGreatDoorORunO5
import Derived.Test.YtjbibfedjhjdlaaGreatDoorORunO6
import Derived.Test.YtjbibfedjhjdlaaGreatDoorORunO7
import Derived.Test.YtjbibfedjhjdlaaGreatDoorORunO8
import Derived.Test.YtjbibfedjhjdlaaGreatDoorOFac4
import Derived.Test.YtjbibfedjhjdlaaGreatDoorOTn
import Derived.SevenTiedAt
set_option linter.unusedVariables false
set_option linter.unusedSimpArgs false
namespace Go.Proofs.YtjbibfedjhjdlaaGreatDoor
open Go Go.Abs
theorem runs : Runs where
  words := runW_run
  s2_true := run2_true_run
  s3_bld := run3_bld_run
  s4_prv := run4_prv_run
  s5_val := run5_val_run
  s6_mac := run6_mac_run
  s6_mac2 := run6_mac2_run
  s7_ck0 := run7_ck0_run
  s7_ck1 := run7_ck1_run
  s7_ck2 := run7_ck2_run
  s7_ck3 := run7_ck3_run
  s7_ck4 := run7_ck4_run
  casesN := fun j hj => by
    simp only [kns, List.mem_cons, List.mem_nil_iff, or_false] at hj
    rcases hj with rfl | rfl | rfl | rfl | rfl | rfl | rfl | rfl | rfl | rfl | rfl | rfl | rfl | rfl | rfl | rfl | rfl | rfl | rfl | rfl | rfl | rfl | rfl | rfl | rfl | rfl | rfl | rfl | rfl | rfl | rfl | rfl | rfl | rfl | rfl | rfl | rfl | rfl | rfl | rfl | rfl | rfl | rfl | rfl | rfl | rfl | rfl | rfl | rfl | rfl | rfl | rfl | rfl | rfl | rfl | rfl | rfl | rfl | rfl | rfl | rfl | rfl | rfl | rfl | rfl | rfl | rfl | rfl | rfl | rfl | rfl | rfl | rfl | rfl | rfl | rfl | rfl | rfl | rfl | rfl | rfl | rfl | rfl | rfl | rfl | rfl | rfl | rfl | rfl | rfl | rfl | rfl | rfl | rfl | rfl | rfl | rfl | rfl | rfl | rfl | rfl | rfl | rfl | rfl | rfl | rfl | rfl | rfl | rfl | rfl | rfl | rfl | rfl | rfl | rfl | rfl | rfl | rfl | rfl | rfl | rfl | rfl | rfl | rfl | rfl | rfl | rfl | rfl | rfl | rfl | rfl | rfl | rfl | rfl | rfl | rfl | rfl | rfl | rfl | rfl
    · exact ⟨ky0, case0⟩
    · exact ⟨ky1, case1⟩
    · exact ⟨ky2, case2⟩
    · exact ⟨ky3, case3⟩
    · exact ⟨ky4, case4⟩
    · exact ⟨ky5, case5⟩
    · exact ⟨ky6, case6⟩
    · exact ⟨ky7, case7⟩
    · exact ⟨ky8, case8⟩
    · exact ⟨ky9, case9⟩
    · exact ⟨ky10, case10⟩
    · exact ⟨ky11, case11⟩
    · exact ⟨ky12, case12⟩
    · exact ⟨ky13, case13⟩
    · exact ⟨ky14, case14⟩
    · exact ⟨ky15, case15⟩
    · exact ⟨ky16, case16⟩
    · exact ⟨ky17, case17⟩
    · exact ⟨ky18, case18⟩
    · exact ⟨ky19, case19⟩
    · exact ⟨ky20, case20⟩
    · exact ⟨ky21, case21⟩
    · exact ⟨ky22, case22⟩
    · exact ⟨ky23, case23⟩
    · exact ⟨ky24, case24⟩
    · exact ⟨ky25, case25⟩
    · exact ⟨ky26, case26⟩
    · exact ⟨ky27, case27⟩
    · exact ⟨ky28, case28⟩
    · exact ⟨ky29, case29⟩
    · exact ⟨ky30, case30⟩
    · exact ⟨ky31, case31⟩
    · exact ⟨ky32, case32⟩
    · exact ⟨ky33, case33⟩
    · exact ⟨ky34, case34⟩
    · exact ⟨ky35, case35⟩
    · exact ⟨ky36, case36⟩
    · exact ⟨ky37, case37⟩
    · exact ⟨ky38, case38⟩
    · exact ⟨ky39, case39⟩
    · exact ⟨ky40, case40⟩
    · exact ⟨ky41, case41⟩
    · exact ⟨ky42, case42⟩
    · exact ⟨ky43, case43⟩
    · exact ⟨ky44, case44⟩
    · exact ⟨ky45, case45⟩
    · exact ⟨ky46, case46⟩
    · exact ⟨ky47, case47⟩
    · exact ⟨ky48, case48⟩
    · exact ⟨ky49, case49⟩
    · exact ⟨ky50, case50⟩
    · exact ⟨ky51, case51⟩
    · exact ⟨ky52, case52⟩
    · exact ⟨ky53, case53⟩
    · exact ⟨ky54, case54⟩
    · exact ⟨ky55, case55⟩
    · exact ⟨ky56, case56⟩
    · exact ⟨ky57, case57⟩
    · exact ⟨ky58, case58⟩
    · exact ⟨ky59, case59⟩
    · exact ⟨ky60, case60⟩
    · exact ⟨ky61, case61⟩
    · exact ⟨ky62, case62⟩
    · exact ⟨ky63, case63⟩
    · exact ⟨ky64, case64⟩
    · exact ⟨ky65, case65⟩
    · exact ⟨ky66, case66⟩
    · exact ⟨ky67, case67⟩
    · exact ⟨ky68, case68⟩
    · exact ⟨ky69, case69⟩
    · exact ⟨ky70, case70⟩
    · exact ⟨ky71, case71⟩
    · exact ⟨ky72, case72⟩
    · exact ⟨ky73, case73⟩
    · exact ⟨ky74, case74⟩
    · exact ⟨ky75, case75⟩
    · exact ⟨ky76, case76⟩
    · exact ⟨ky77, case77⟩
    · exact ⟨ky78, case78⟩
    · exact ⟨ky79, case79⟩
    · exact ⟨ky80, case80⟩
    · exact ⟨ky81, case81⟩
    · exact ⟨ky82, case82⟩
    · exact ⟨ky83, case83⟩
    · exact ⟨ky84, case84⟩
    · exact ⟨ky85, case85⟩
    · exact ⟨ky86, case86⟩
    · exact ⟨ky87, case87⟩
    · exact ⟨ky88, case88⟩
    · exact ⟨ky89, case89⟩
    · exact ⟨ky90, case90⟩
    · exact ⟨ky91, case91⟩
    · exact ⟨ky92, case92⟩
    · exact ⟨ky93, case93⟩
    · exact ⟨ky94, case94⟩
    · exact ⟨ky95, case95⟩
    · exact ⟨ky96, case96⟩
    · exact ⟨ky97, case97⟩
    · exact ⟨ky98, case98⟩
    · exact ⟨ky99, case99⟩
    · exact ⟨ky100, case100⟩
    · exact ⟨ky101, case101⟩
    · exact ⟨ky102, case102⟩
    · exact ⟨ky103, case103⟩
    · exact ⟨ky104, case104⟩
    · exact ⟨ky105, case105⟩
    · exact ⟨ky106, case106⟩
    · exact ⟨ky107, case107⟩
    · exact ⟨ky108, case108⟩
    · exact ⟨ky109, case109⟩
    · exact ⟨ky110, case110⟩
    · exact ⟨ky111, case111⟩
    · exact ⟨ky112, case112⟩
    · exact ⟨ky113, case113⟩
    · exact ⟨ky114, case114⟩
    · exact ⟨ky115, case115⟩
    · exact ⟨ky116, case116⟩
    · exact ⟨ky117, case117⟩
    · exact ⟨ky118, case118⟩
    · exact ⟨ky119, case119⟩
    · exact ⟨ky120, case120⟩
    · exact ⟨ky121, case121⟩
    · exact ⟨ky122, case122⟩
    · exact ⟨ky123, case123⟩
    · exact ⟨ky124, case124⟩
    · exact ⟨ky125, case125⟩
    · exact ⟨ky126, case126⟩
    · exact ⟨ky127, case127⟩
    · exact ⟨ky128, case128⟩
    · exact ⟨ky129, case129⟩
    · exact ⟨ky130, case130⟩
    · exact ⟨ky131, case131⟩
    · exact ⟨ky132, case132⟩
    · exact ⟨ky133, case133⟩
    · exact ⟨ky134, case134⟩
    · exact ⟨ky135, case135⟩
    · exact ⟨ky136, case136⟩
    · exact ⟨ky137, case137⟩
    · exact ⟨ky138, case138⟩
    · exact ⟨ky139, case139⟩
  casesY := fun j hj => by
    simp only [kys, List.mem_cons, List.mem_nil_iff, or_false] at hj
    rcases hj with rfl | rfl | rfl | rfl | rfl | rfl | rfl | rfl | rfl | rfl | rfl | rfl | rfl | rfl | rfl | rfl | rfl | rfl | rfl | rfl | rfl | rfl | rfl | rfl | rfl | rfl | rfl | rfl | rfl | rfl | rfl | rfl | rfl | rfl | rfl | rfl | rfl | rfl | rfl | rfl | rfl | rfl | rfl | rfl | rfl | rfl | rfl | rfl | rfl | rfl | rfl | rfl | rfl | rfl | rfl | rfl | rfl | rfl | rfl | rfl | rfl | rfl | rfl | rfl | rfl | rfl | rfl | rfl | rfl | rfl | rfl | rfl | rfl | rfl | rfl | rfl | rfl | rfl | rfl | rfl | rfl | rfl | rfl | rfl | rfl | rfl | rfl | rfl | rfl | rfl | rfl | rfl | rfl | rfl | rfl | rfl | rfl | rfl | rfl | rfl | rfl | rfl | rfl | rfl | rfl | rfl | rfl | rfl | rfl | rfl | rfl | rfl | rfl | rfl | rfl | rfl | rfl | rfl | rfl | rfl | rfl | rfl | rfl | rfl | rfl | rfl | rfl | rfl | rfl | rfl | rfl | rfl | rfl | rfl | rfl | rfl | rfl | rfl | rfl | rfl
    · exact ⟨kn0, case0⟩
    · exact ⟨kn1, case1⟩
    · exact ⟨kn2, case2⟩
    · exact ⟨kn3, case3⟩
    · exact ⟨kn4, case4⟩
    · exact ⟨kn5, case5⟩
    · exact ⟨kn6, case6⟩
    · exact ⟨kn7, case7⟩
    · exact ⟨kn8, case8⟩
    · exact ⟨kn9, case9⟩
    · exact ⟨kn10, case10⟩
    · exact ⟨kn11, case11⟩
    · exact ⟨kn12, case12⟩
    · exact ⟨kn13, case13⟩
    · exact ⟨kn14, case14⟩
    · exact ⟨kn15, case15⟩
    · exact ⟨kn16, case16⟩
    · exact ⟨kn17, case17⟩
    · exact ⟨kn18, case18⟩
    · exact ⟨kn19, case19⟩
    · exact ⟨kn20, case20⟩
    · exact ⟨kn21, case21⟩
    · exact ⟨kn22, case22⟩
    · exact ⟨kn23, case23⟩
    · exact ⟨kn24, case24⟩
    · exact ⟨kn25, case25⟩
    · exact ⟨kn26, case26⟩
    · exact ⟨kn27, case27⟩
    · exact ⟨kn28, case28⟩
    · exact ⟨kn29, case29⟩
    · exact ⟨kn30, case30⟩
    · exact ⟨kn31, case31⟩
    · exact ⟨kn32, case32⟩
    · exact ⟨kn33, case33⟩
    · exact ⟨kn34, case34⟩
    · exact ⟨kn35, case35⟩
    · exact ⟨kn36, case36⟩
    · exact ⟨kn37, case37⟩
    · exact ⟨kn38, case38⟩
    · exact ⟨kn39, case39⟩
    · exact ⟨kn40, case40⟩
    · exact ⟨kn41, case41⟩
    · exact ⟨kn42, case42⟩
    · exact ⟨kn43, case43⟩
    · exact ⟨kn44, case44⟩
    · exact ⟨kn45, case45⟩
    · exact ⟨kn46, case46⟩
    · exact ⟨kn47, case47⟩
    · exact ⟨kn48, case48⟩
    · exact ⟨kn49, case49⟩
    · exact ⟨kn50, case50⟩
    · exact ⟨kn51, case51⟩
    · exact ⟨kn52, case52⟩
    · exact ⟨kn53, case53⟩
    · exact ⟨kn54, case54⟩
    · exact ⟨kn55, case55⟩
    · exact ⟨kn56, case56⟩
    · exact ⟨kn57, case57⟩
    · exact ⟨kn58, case58⟩
    · exact ⟨kn59, case59⟩
    · exact ⟨kn60, case60⟩
    · exact ⟨kn61, case61⟩
    · exact ⟨kn62, case62⟩
    · exact ⟨kn63, case63⟩
    · exact ⟨kn64, case64⟩
    · exact ⟨kn65, case65⟩
    · exact ⟨kn66, case66⟩
    · exact ⟨kn67, case67⟩
    · exact ⟨kn68, case68⟩
    · exact ⟨kn69, case69⟩
    · exact ⟨kn70, case70⟩
    · exact ⟨kn71, case71⟩
    · exact ⟨kn72, case72⟩
    · exact ⟨kn73, case73⟩
    · exact ⟨kn74, case74⟩
    · exact ⟨kn75, case75⟩
    · exact ⟨kn76, case76⟩
    · exact ⟨kn77, case77⟩
    · exact ⟨kn78, case78⟩
    · exact ⟨kn79, case79⟩
    · exact ⟨kn80, case80⟩
    · exact ⟨kn81, case81⟩
    · exact ⟨kn82, case82⟩
    · exact ⟨kn83, case83⟩
    · exact ⟨kn84, case84⟩
    · exact ⟨kn85, case85⟩
    · exact ⟨kn86, case86⟩
    · exact ⟨kn87, case87⟩
    · exact ⟨kn88, case88⟩
    · exact ⟨kn89, case89⟩
    · exact ⟨kn90, case90⟩
    · exact ⟨kn91, case91⟩
    · exact ⟨kn92, case92⟩
    · exact ⟨kn93, case93⟩
    · exact ⟨kn94, case94⟩
    · exact ⟨kn95, case95⟩
    · exact ⟨kn96, case96⟩
    · exact ⟨kn97, case97⟩
    · exact ⟨kn98, case98⟩
    · exact ⟨kn99, case99⟩
    · exact ⟨kn100, case100⟩
    · exact ⟨kn101, case101⟩
    · exact ⟨kn102, case102⟩
    · exact ⟨kn103, case103⟩
    · exact ⟨kn104, case104⟩
    · exact ⟨kn105, case105⟩
    · exact ⟨kn106, case106⟩
    · exact ⟨kn107, case107⟩
    · exact ⟨kn108, case108⟩
    · exact ⟨kn109, case109⟩
    · exact ⟨kn110, case110⟩
    · exact ⟨kn111, case111⟩
    · exact ⟨kn112, case112⟩
    · exact ⟨kn113, case113⟩
    · exact ⟨kn114, case114⟩
    · exact ⟨kn115, case115⟩
    · exact ⟨kn116, case116⟩
    · exact ⟨kn117, case117⟩
    · exact ⟨kn118, case118⟩
    · exact ⟨kn119, case119⟩
    · exact ⟨kn120, case120⟩
    · exact ⟨kn121, case121⟩
    · exact ⟨kn122, case122⟩
    · exact ⟨kn123, case123⟩
    · exact ⟨kn124, case124⟩
    · exact ⟨kn125, case125⟩
    · exact ⟨kn126, case126⟩
    · exact ⟨kn127, case127⟩
    · exact ⟨kn128, case128⟩
    · exact ⟨kn129, case129⟩
    · exact ⟨kn130, case130⟩
    · exact ⟨kn131, case131⟩
    · exact ⟨kn132, case132⟩
    · exact ⟨kn133, case133⟩
    · exact ⟨kn134, case134⟩
    · exact ⟨kn135, case135⟩
    · exact ⟨kn136, case136⟩
    · exact ⟨kn137, case137⟩
    · exact ⟨kn138, case138⟩
    · exact ⟨kn139, case139⟩
theorem codesOutside_proved : Rows.codesOutsideRow.holds Tryz.pinned (OpenSpec.ofChange Rows.codesOutsideSpec) := over fun a0 b0 b1 c0 w0 w1 w2 w3 W hL hsh => walk runs a0 b0 b1 c0 w0 w1 w2 w3 (facts hL hsh)

theorem codes_outside_card : Rows.CodesOutsideCardSaid :=
  Claim7.holds_tied_plain_at .later [] [.data, .listed, .pinned, .data, .sentinel, .sentinel, .data, .data, .data, .data, .data, .data] true (true, "150a2771c79d1c9eb91114329e4c3cfa7d511ab3c25821d00096c6dafa1c0a07") true codesOutside_proved (fun _ h => by cases h) card_wf (fun _ h => by cases h) codesOutside_row_tie rfl ⟨rfl, rfl⟩ card_main rfl
    (fun f fn hf hfn => by
      obtain rfl : f = 4 := (Option.some.inj (fac_named.symm.trans hf)).symm
      obtain rfl : fn = Tryz.f4 := (Option.some.inj (Tryz.func4.symm.trans hfn)).symm
      exact ⟨card_looks, fun j t ht => by
        rw [Tryz.params4] at ht
        have hm : t ∈ [5, 65, 5] := by simpa using Array.mem_of_getElem? ht
        exact (show Tryz.prog.wantsStandIn t = false by simpa using List.all_eq_true.1 card_wants t hm)⟩)
    card_goes
end Go.Proofs.YtjbibfedjhjdlaaGreatDoor
