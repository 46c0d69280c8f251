/-
  A closed fact of the tie of the card; no condition.
-/
import Derived.Test.YtkghfmfciekbdaaGreatDoorTa
import Derived.KernelRfl
set_option linter.unusedVariables false
set_option linter.unusedSimpArgs false
namespace Go.Proofs.YtkghfmfciekbdaaGreatDoor
open Go
set_option maxRecDepth 100000
set_option maxHeartbeats 0
def placeKey : MemPlace → Nat
  | .cell b off => Nat.add (Nat.mul b 1024) off
  | .map b => Nat.mul b 1024
def placesB : List MemPlace → Nat → Bool
  | [], _ => true
  | x :: l, m => !Nat.testBit m (placeKey x) && placesB l (Nat.lor m (Nat.shiftLeft 1 (placeKey x)))
theorem placesB_true : ∀ (l : List MemPlace) (m : Nat), placesB l m = true → (∀ x ∈ l, m.testBit (placeKey x) = false) ∧ l.Nodup
  | [], _, _ => ⟨(fun x h => by cases h), List.nodup_nil⟩
  | x :: l, m, h => by
    unfold placesB at h
    rw [Bool.and_eq_true, Bool.not_eq_true'] at h
    obtain ⟨h1, h2⟩ := placesB_true l _ h.2
    have e : ∀ k, (Nat.lor m (Nat.shiftLeft 1 (placeKey x))).testBit k = (m.testBit k || (1 <<< placeKey x).testBit k) := fun k => Nat.testBit_or m (1 <<< placeKey x) k
    refine ⟨fun y hy => ?_, List.nodup_cons.2 ⟨fun hx => ?_, h2⟩⟩
    · rcases List.mem_cons.1 hy with rfl | hy
      · exact h.1
      · have := h1 y hy
        rw [e, Bool.or_eq_false_iff] at this
        exact this.1
    · have := h1 x hx
      rw [e, Bool.or_eq_false_iff] at this
      have h3 := this.2
      rw [Nat.one_shiftLeft, Nat.testBit_two_pow_self] at h3
      cases h3
theorem tie_h2k : ∀ os tape, (DataW.laidRun Tryz.prog (varsWorld Tryz.prog 400 515 os tape).memory 8 (tieLaid.map (·.1))).map (fun x => placesB x.2 0) = some true := fun _ _ => by kernel_rfl
theorem tie_h2a : ∀ os tape, (DataW.laidRun Tryz.prog (varsWorld Tryz.prog 400 515 os tape).memory 8 (tieLaid.map (·.1))).map (fun x => decide x.2.Nodup) = some true := fun os tape => by
  have h := tie_h2k os tape
  generalize (DataW.laidRun Tryz.prog (varsWorld Tryz.prog 400 515 os tape).memory 8 (tieLaid.map (·.1))) = r at h ⊢
  cases r with
  | none => cases h
  | some x =>
    have h : some (placesB x.2 0) = some true := h
    show some (decide x.2.Nodup) = some true
    rw [decide_eq_true (placesB_true x.2 0 (Option.some.inj h)).2]
end Go.Proofs.YtkghfmfciekbdaaGreatDoor
