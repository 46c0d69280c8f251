/-
  The runs of layouts with symbols for names: definitions alone.
-/
import Derived.Test.YtpmknbclidomjaaGreatDoorTabs
set_option linter.unusedVariables false
set_option linter.unusedSimpArgs false
namespace Go.Proofs.YtpmknbclidomjaaGreatDoor
open Go Go.Abs
set_option maxRecDepth 100000
noncomputable section
noncomputable def symsOf (R : Nat) : Nat → List (AV × AV) := Nat.rec (motive := fun _ => Nat → List (AV × AV)) (fun _ => []) (fun _ ih r => (.sym .u8 (Nat.add 2100 (Nat.mul 2 r)), .sym .u8 (Nat.add 2101 (Nat.mul 2 r))) :: ih (Nat.succ r)) R
noncomputable def layS (R : Nat) : Memo2 := layG R (symsOf R 0)
/-- a record's entries are checked: the names are symbols -/
noncomputable def pats : Nat → List (List AV) := Nat.rec (motive := fun _ => List (List AV)) [] fun r ih => [.agg (eRow1 (.sym .u8 (Nat.add 2100 (Nat.mul 2 r))))] :: [.agg (eRow2 (.sym .u8 (Nat.add 2101 (Nat.mul 2 r))))] :: ih
noncomputable def ents30 : List (List AV) := List.flatten ((List.range 5).map fun i => List.flatten ((List.range 3).map fun k => [[.agg (eRow1 (nmOf (i, k)).1)], [.agg (eRow2 (nmOf (i, k)).2)]]))
noncomputable def entsRun (lo k : Nat) : Bool := mkTblZ Tryz.prog [] (346, 0) 92 fnsE tab8 (fun t => allRuns t 66 hs (mI 0) ((ents30.drop lo).take k))
noncomputable def chkD : FnD := oneOfD (pats 15) (mI 0) failD
/-- the layout of R records, with symbols for their names -/
noncomputable def layRun (R : Nat) : Bool := mkTblZ Tryz.prog [] (346, 0) 92 fnsE tab8 (fun t => T4.getK TD 66 t fun d => T4.setK TD 66 (oneOfD (pats 15) (mI 0) d) t fun t => mkTblZ Tryz.prog [] (346, 0) 92 fnsB t (fun t =>
  layGK R (symsOf R 0) fun M => forceN (Nat.add 338 (Nat.mul 16 R)) fun tot => forceN (Nat.add 138 (Nat.mul 0 R)) fun o0 => forceN (Nat.add 191 (Nat.mul 6 R)) fun o1 => forceN (Nat.add 196 (Nat.mul 6 R)) fun o2 => tri3K o0 o1 o2 fun out =>
  runF t 60 16 M.args (M.h0 gls 16) (memoKS2 ⟨M.args, M.ins, M.src, M.c, M.n, tot, M.res, out, M.sub, M.refs⟩ 16) (fun _ _ => false)))
/-- the kept call with the numbers of the run with symbols -/
noncomputable def layA (R : Nat) (M : Memo2) : Memo2 := ⟨M.args, M.ins, M.src, M.c, M.n, Nat.add 338 (Nat.mul 16 R), M.res, tri3 (Nat.add 138 (Nat.mul 0 R)) (Nat.add 191 (Nat.mul 6 R)) (Nat.add 196 (Nat.mul 6 R)), M.sub, M.refs⟩
end
end Go.Proofs.YtpmknbclidomjaaGreatDoor
