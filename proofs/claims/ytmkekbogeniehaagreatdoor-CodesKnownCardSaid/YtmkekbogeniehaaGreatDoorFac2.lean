/-
  The row's closed facts, but for what goes over the functions that it leads to (Cf) and over all types; the row's function and the card; no condition.
-/
import Derived.Test.YtmkekbogeniehaaGreatDoorProg
import GoSem.Claims
import Derived.ProofKit
import Derived.KernelRfl
import Derived.Test.YtmkekbogeniehaaGreatDoorClos
import Derived.Clock
import Derived.JoinedOf
import Derived.Test.YtmkekbogeniehaaGreatDoorRows
import Derived.Test.YtmkekbogeniehaaGreatDoorCf
import Derived.Test.YtmkekbogeniehaaGreatDoorFq1
import Derived.Test.YtmkekbogeniehaaGreatDoorFq2
import Derived.Test.YtmkekbogeniehaaGreatDoorFq3
import Derived.Test.YtmkekbogeniehaaGreatDoorFq4
import Derived.SevenTiedAt
set_option linter.unusedVariables false
set_option linter.unusedSimpArgs false
namespace Go.Proofs.YtmkekbogeniehaaGreatDoor
open Go
set_option maxRecDepth 100000
set_option maxHeartbeats 0
theorem fac_named0 : Tryz.prog.funcNamed "columnseven/columnsevenlaw28.CodesKnown" = some 3 := by kernel_rfl
end Go.Proofs.YtmkekbogeniehaaGreatDoor
set_option linter.unusedVariables false
set_option linter.unusedSimpArgs false
namespace Go.Proofs.YtmkekbogeniehaaGreatDoor
open Go
set_option maxRecDepth 100000
set_option maxHeartbeats 0
theorem fac_closed : joinedFacts Tryz.pinned.checked.prog 3 Tryz.f3 Rows.codesKnownSpec Rows.codesKnownRow = true := by
  unfold joinedFacts
  rw [show Tryz.pinned.checked.prog = Tryz.prog from rfl, inPlace_eq, unfollowed_eq, recurses_eq, varsNamed_eq, laidOut_eq, mapsRowed_eq, plainKeys_eq, stopsHeard_eq, mayEnter_eq]
  simp only [Bool.and_eq_true]
  and_intros <;> first | exact True.intro | (as_aux_lemma => kernel_rfl)
end Go.Proofs.YtmkekbogeniehaaGreatDoor
set_option linter.unusedVariables false
set_option linter.unusedSimpArgs false
namespace Go.Proofs.YtmkekbogeniehaaGreatDoor
open Go
set_option maxRecDepth 100000
set_option maxHeartbeats 0
theorem fac_named : Tryz.pinned.checked.prog.funcNamed Rows.codesKnownRow.func = some 3 := fac_named0
theorem fac_inst : Tryz.f3.isInstance Tryz.pinned.checked.prog Rows.codesKnownRow.origin Rows.codesKnownRow.targs := of_decide_eq_true (by kernel_rfl)
theorem fac_wrap : Tryz.f3.isWrapper Tryz.pinned.checked.prog Rows.codesKnownRow.wrapper Rows.codesKnownRow.mainSum := by unfold Func.isWrapper; first | (rw [if_pos (by decide +kernel)]; kernel_rfl) | (rw [if_neg (by decide +kernel)]; exact ⟨rfl, rfl⟩)
theorem card_wf : Rows.codesKnownRow.wfByText (OpenSpec.ofChange Rows.codesKnownSpec) = true := by kernel_rfl
theorem card_main : Tryz.pinned.checked.prog.mainIs = some (true, "18aed9cc94196939d513a1ff3e71020ee8f9622373dc9fb2f74bdfde9ab48bed".toList) := by kernel_rfl
theorem card_looks : true = Tryz.pinned.checked.prog.looks [] := by kernel_rfl
theorem card_wants : ([].all fun u => !Tryz.prog.wantsStandIn u) = true := by kernel_rfl
end Go.Proofs.YtmkekbogeniehaaGreatDoor
namespace Go.Proofs.YtmkekbogeniehaaGreatDoor
open Go
set_option maxRecDepth 100000
theorem none_goes (g : Nat) : ((Tryz.prog.funcs[g]?).any Func.goes) = false := by
  cases hq : Tryz.prog.funcs[g]? with
  | none => rfl
  | some fn =>
    show Func.goes fn = false
    cases hg : Func.goes fn with
    | false => rfl
    | true =>
      obtain ⟨hl, he⟩ := Array.getElem?_eq_some_iff.1 hq
      have h2 : Tryz.prog.funcs.any Func.goes = true := Array.any_eq_true.2 ⟨g, hl, by rw [he]; exact hg⟩
      rw [no_goes] at h2
      cases h2
theorem goes_no (f : FuncId) : Tryz.prog.goes f = false := by
  unfold Program.goes
  rw [no_goes, Bool.and_false, Bool.or_false]
  rw [Bool.eq_false_iff]
  intro h
  obtain ⟨g, _, hg⟩ := List.any_eq_true.1 h
  rw [none_goes] at hg
  cases hg
theorem any_goes (o : Option FuncId) : o.any Tryz.prog.goes = false := by
  cases o with
  | none => rfl
  | some f => rw [Option.any_some]; exact goes_no f
theorem card_goes : false = Rows.codesKnownRow.goesBy Tryz.pinned.checked.prog := by
  unfold OpenClaim.goesBy Program.goesAt Program.goesFrom
  rw [show Tryz.pinned.checked.prog = Tryz.prog from rfl, any_goes]
  rfl
end Go.Proofs.YtmkekbogeniehaaGreatDoor
