/-
  A verified evaluator, text 3 of 4: code of the model compiled to closures over abstract values and run by the kernel; each theorem says that such a run speaks of every real run. It holds for every program; no condition.
-/
import Derived.Test.YtkghfmfciekbdaaGreatDoorAbs2
import Derived.Lib.Index
import Derived.Lib.Fields
import Derived.Lib.LaidTab
import Derived.Lib.IndexBytes
import Derived.Lib.IndexAny
import Derived.Lib.ConvBytes
import Derived.Laws.AppendOwn
import Derived.ChangeKeysEq
import Derived.Recover
import Derived.Lib.CutLaws
import Derived.RangeFuncGives
import Derived.Lib.AppendZeros
set_option linter.unusedVariables false
set_option linter.unusedSimpArgs false

/-
  A verified evaluator: functions of the library by their contracts.
-/
namespace Go.Abs
noncomputable section
open Go.RowKit (Below)
theorem below_drew (w : World) : Below w.heap.size w w.drew := ⟨rfl, rfl, rfl, Nat.le_refl _, fun _ _ => rfl⟩
def hasBody (P : Program) (f : FuncId) : Bool := match P.funcs[f]? with
  | none => false
  | some fn => fn.body.isSome && !(fn.name == "runtime.NumGoroutine")
theorem hasBody_true {P : Program} {f : FuncId} (h : hasBody P f = true) (args : Array Value) (w : World) : (callFunc f args).run P w = .ok (.enter f args) w := by
  unfold hasBody at h
  split at h
  · cases h
  · rename_i fn hf
    simp only [Bool.and_eq_true, Bool.not_eq_true', Option.isSome_iff_exists] at h
    obtain ⟨⟨c, hc⟩, hn⟩ := h
    exact callFunc_enter hf hc hn args w
theorem FnGood.plain {P : Program} {ν : Nu} {f : FuncId} (hb : hasBody P f = true) {d : FnD}
    (h : ∀ cf args h φ w vs kr kp, d cf args h kr kp = true → HR φ ν h w → VRs φ ν args vs → ∃ v av, Calls P f ⟨vs⟩ w (fun e w' => e = .returned v ∧ Below w.heap.size w w') ∧ VR φ ν av v ∧ kr av h = true) : FnGood P ν f d := by
  intro cf _ args h0 kr kp hk φ w vs hr hv
  obtain ⟨v, av, hc, hvr, hkr⟩ := h cf args h0 φ w vs kr kp hk hr hv
  refine .inl ⟨hasBody_true hb _ _, hc.mono fun e w' hp => ?_⟩
  obtain ⟨rfl, hbel⟩ := hp
  obtain ⟨h1, h2⟩ := hr.below hbel
  exact ⟨φ, av, h0, hvr, h1, h2 _, rfl, rfl, hkr⟩
theorem FnGood.fresh {P : Program} {ν : Nu} {f : FuncId} (hb : hasBody P f = true) {d : FnD}
    (h : ∀ cf args h φ w vs kr kp, d cf args h kr kp = true → HR φ ν h w → VRs φ ν args vs → ∃ v av φ' h' w1, Calls P f ⟨vs⟩ w (fun e w' => e = .returned v ∧ w' = w1) ∧ HR φ' ν h' w1 ∧ Ext h.ro φ w φ' w1 ∧ h'.ro = h.ro ∧ h'.ds = h.ds ∧ VR φ' ν av v ∧ kr av h' = true) : FnGood P ν f d := by
  intro cf _ args h0 kr kp hk φ w vs hr hv
  obtain ⟨v, av, φ', h', w1, hc, hr1, hx, hro, hds, hvr, hkr⟩ := h cf args h0 φ w vs kr kp hk hr hv
  refine .inl ⟨hasBody_true hb _ _, hc.mono fun e w' hp => ?_⟩
  obtain ⟨rfl, rfl⟩ := hp
  exact ⟨φ', av, h', hvr, hr1, hx, hro, hds, hkr⟩
/-! ### arguments -/
def args1 (l : List AV) (k : AV → Bool) : Bool := List.rec (motive := fun _ => Bool) false (fun x t _ => List.rec (motive := fun _ => Bool) (k x) (fun _ _ _ => false) t) l
def args2 (l : List AV) (k : AV → AV → Bool) : Bool := List.rec (motive := fun _ => Bool) false (fun x t _ => args1 t fun y => k x y) l
theorem args1_true {l : List AV} {k : AV → Bool} (h : args1 l k = true) : ∃ x, l = [x] ∧ k x = true := by
  match l, h with
  | [x], h => exact ⟨x, rfl, h⟩
  | [], h => cases h
  | x :: y :: t, h => cases h
theorem args2_true {l : List AV} {k : AV → AV → Bool} (h : args2 l k = true) : ∃ x y, l = [x, y] ∧ k x y = true := by
  match l, h with
  | [], h => cases h
  | x :: t, h =>
    obtain ⟨y, rfl, h⟩ := args1_true (l := t) h
    exact ⟨x, y, rfl, h⟩
/-! ### bytes of a number -/
def decL (l c : Nat) : List UInt8 :=
  Nat.rec (motive := fun _ => Nat → List UInt8) (fun _ => []) (fun _ ih c => UInt8.ofNat (Nat.mod c 256) :: ih (Nat.div c 256)) l c
theorem decL_enc : ∀ (l : List UInt8), decL l.length (enc l) = l
  | [] => rfl
  | b :: l => by
    show UInt8.ofNat (Nat.mod (b.toNat + 256 * enc l) 256) :: decL l.length (Nat.div (b.toNat + 256 * enc l) 256) = b :: l
    have hb : b.toNat < 256 := b.toNat_lt
    have h1 : Nat.mod (b.toNat + 256 * enc l) 256 = b.toNat := by show (b.toNat + 256 * enc l) % 256 = _; omega
    have h2 : Nat.div (b.toNat + 256 * enc l) 256 = enc l := by show (b.toNat + 256 * enc l) / 256 = _; omega
    rw [h1, h2, decL_enc l]
    simp
theorem IsStr.dec {l c : Nat} {s : ByteArray} (h : IsStr l c s) : s.data.toList = decL l c := by
  obtain ⟨h1, h2⟩ := h
  rw [← h2, ← h1, show s.size = s.data.toList.length by simp, decL_enc]
theorem IsStr.of_list (l : List UInt8) : IsStr l.length (enc l) ⟨l.toArray⟩ := ⟨by simp [ByteArray.size], by simp⟩
end
end Go.Abs

/-
  A verified evaluator: functions on strings by their contracts: where a string lies in another.
-/
namespace Go.Abs
noncomputable section
def idxK (m d pm : Nat) (l : Nat) : Nat → Nat → (Nat → Bool) → Bool → Bool :=
  Nat.rec (motive := fun _ => Nat → Nat → (Nat → Bool) → Bool → Bool) (fun _ i found non => Bool.rec (motive := fun _ => Bool) non (found i) (Nat.beq m 0))
    (fun l ih c i found non => Bool.rec (motive := fun _ => Bool) (forceN (Nat.div c 256) fun c => forceN (Nat.succ i) fun i => ih c i found non) (found i) (andB (Nat.ble m (Nat.succ l)) (Nat.beq (Nat.mod c pm) d))) l
theorem isPrefix_enc (s sub : List UInt8) : sub.isPrefixOf s = (Nat.ble sub.length s.length && Nat.beq (enc s % 256 ^ sub.length) (enc sub)) := by
  rw [Bool.eq_iff_iff, List.isPrefixOf_iff_prefix, Bool.and_eq_true]
  constructor
  · intro h
    have h1 := h.length_le
    have h2 : s.take sub.length = sub := (List.prefix_iff_eq_take.1 h).symm
    refine ⟨Nat.ble_eq.symm ▸ h1, ?_⟩
    rw [← enc_take, h2]; exact Nat.beq_refl _
  · rintro ⟨h1, h2⟩
    have h1 := nlT h1
    have h2 := nbT h2
    rw [← enc_take] at h2
    have h3 := enc_inj _ _ (by simp; omega) h2
    exact List.prefix_iff_eq_take.2 h3.symm
theorem idxK_true (sub : List UInt8) : ∀ (s : List UInt8) (i : Nat) (found : Nat → Bool) (non : Bool), idxK sub.length (enc sub) (256 ^ sub.length) s.length (enc s) i found non = true →
    (Lib.index s sub = -1 ∧ non = true) ∨ ∃ j : Nat, Lib.index s sub = j ∧ found (i + j) = true
  | [], i, found, non, h => by
    have h' : Bool.rec (motive := fun _ => Bool) non (found i) (Nat.beq sub.length 0) = true := h
    cases sub with
    | nil => exact .inr ⟨0, rfl, h'⟩
    | cons b l => exact .inl ⟨rfl, h'⟩
  | b :: l, i, found, non, h => by
    have h' : Bool.rec (motive := fun _ => Bool) (forceN (Nat.div (enc (b :: l)) 256) fun c => forceN (Nat.succ i) fun i => idxK sub.length (enc sub) (256 ^ sub.length) l.length c i found non) (found i)
      (andB (Nat.ble sub.length (Nat.succ l.length)) (Nat.beq (Nat.mod (enc (b :: l)) (256 ^ sub.length)) (enc sub))) = true := h
    have hp := isPrefix_enc (b :: l) sub
    have hand : andB (Nat.ble sub.length (Nat.succ l.length)) (Nat.beq (Nat.mod (enc (b :: l)) (256 ^ sub.length)) (enc sub)) = sub.isPrefixOf (b :: l) := by
      rw [hp]
      show andB (Nat.ble sub.length (l.length + 1)) (Nat.beq (enc (b :: l) % 256 ^ sub.length) (enc sub)) = _
      cases Nat.ble sub.length (l.length + 1) <;> simp [andB]
    rw [hand] at h'
    cases q : sub.isPrefixOf (b :: l) with
    | true =>
      rw [q] at h'
      exact .inr ⟨0, by simp [Lib.index, q], h'⟩
    | false =>
      rw [q] at h'
      simp only [forceN_eq] at h'
      have hdiv : Nat.div (enc (b :: l)) 256 = enc l := by
        have hb : b.toNat < 256 := b.toNat_lt
        show (b.toNat + 256 * enc l) / 256 = enc l; omega
      rw [hdiv] at h'
      rcases idxK_true sub l (Nat.succ i) found non h' with ⟨h1, h2⟩ | ⟨j, h1, h2⟩
      · exact .inl ⟨by simp [Lib.index, q, h1], h2⟩
      · refine .inr ⟨j + 1, ?_, by have e : i + (j + 1) = Nat.succ i + j := by omega
                                   rw [e]; exact h2⟩
        have hne : ¬ ((j : Int) = -1) := by omega
        simp [Lib.index, q, h1, hne]
def IntCell (ν : Nu) (g : Nat) : Prop := ∃ m el fr, (g, Obj.cells #[.int .i64 m] el fr) ∈ ν.G
theorem IntCell.cell {φ : Phi} {ν : Nu} {h : H} {w : World} (hr : HR φ ν h w) {g : Nat} (hg : IntCell ν g) : ∃ m, w.cell? ⟨g, 0, none⟩ = some (.int .i64 m) := by
  obtain ⟨m, el, fr, hm⟩ := hg
  obtain ⟨g1, _⟩ := hr.gl _ _ hm
  exact ⟨m, by rw [cell?_of g1]; rfl⟩
def indexD : FnD := fun _ args h kr _ => args2 args fun x y => vStr x fun l c => vStr y fun m d => chk (Nat.blt l 4294967281)
  (forceN (Nat.pow 256 m) fun pm => idxK m d pm l c 0 (fun i => kr (.int .i64 (.ofNat i)) h) (kr (.int .i64 (.negSucc 0)) h))
theorem index_good {P : Program} {ν : Nu} {f g : Nat} (hb : hasBody P f = true) (hg : IntCell ν g)
    (hC : ∀ (s sub : ByteArray) (m : Int) (w : World), s.size < 4294967281 → w.cell? ⟨g, 0, none⟩ = some (.int .i64 m) →
      Calls P f #[.string s, .string sub] w fun e w' => e = .returned (.int .i64 (Lib.index s.data.toList sub.data.toList)) ∧ w' = w) : FnGood P ν f indexD := by
  refine FnGood.plain hb fun cf args h φ w vs kr kp hk hr hv => ?_
  obtain ⟨x, y, e0, hk1⟩ := args2_true hk
  obtain ⟨l, c, e1, hk2⟩ := vStr_true hk1
  obtain ⟨m, d, e2, hk3⟩ := vStr_true hk2
  obtain ⟨c1, hk4⟩ := chk_true hk3
  rw [Nat.blt_eq] at c1
  subst e0 e1 e2
  cases hv with
  | cons h1 hv =>
    cases hv with
    | cons h2 hv =>
      cases hv with
      | nil =>
        cases h1 with
        | str hs =>
          rename_i s
          cases h2 with
          | str ht =>
            rename_i t
            obtain ⟨mm, hm⟩ := hg.cell hr
            have hcall := (hC s t mm w (by rw [hs.1]; exact c1) hm).mono (R' := fun e w' => e = .returned (.int .i64 (Lib.index s.data.toList t.data.toList)) ∧ Go.RowKit.Below w.heap.size w w')
              fun e w' hp => ⟨hp.1, by rw [hp.2]; exact Go.RowKit.Below.refl _ _⟩
            rw [forceN_eq] at hk4
            have hl := hs.data
            have hml := ht.data
            have hk' : idxK t.data.toList.length (enc t.data.toList) (256 ^ t.data.toList.length) s.data.toList.length (enc s.data.toList) 0 (fun i => kr (.int .i64 (.ofNat i)) h) (kr (.int .i64 (.negSucc 0)) h) = true := by
              rw [hl, hml, hs.2, ht.2]; exact hk4
            rcases idxK_true _ _ _ _ _ hk' with ⟨h3, h4⟩ | ⟨j, h3, h4⟩
            · rw [h3] at hcall
              exact ⟨_, _, hcall, .int _ _, h4⟩
            · rw [h3] at hcall
              rw [Nat.zero_add] at h4
              exact ⟨_, _, hcall, .int _ _, h4⟩
def containsD : FnD := fun _ args h kr _ => args2 args fun x y => vStr x fun l c => vStr y fun m d => chk (Nat.blt l 4294967281)
  (forceN (Nat.pow 256 m) fun pm => idxK m d pm l c 0 (fun _ => kr (.bool true) h) (kr (.bool false) h))
theorem contains_good {P : Program} {ν : Nu} {f g : Nat} (hb : hasBody P f = true) (hg : IntCell ν g)
    (hC : ∀ (s sub : ByteArray) (m : Int) (w : World), s.size < 4294967281 → w.cell? ⟨g, 0, none⟩ = some (.int .i64 m) →
      Calls P f #[.string s, .string sub] w fun e w' => e = .returned (.bool (decide (0 ≤ Lib.index s.data.toList sub.data.toList))) ∧ w' = w) : FnGood P ν f containsD := by
  refine FnGood.plain hb fun cf args h φ w vs kr kp hk hr hv => ?_
  obtain ⟨x, y, e0, hk1⟩ := args2_true hk
  obtain ⟨l, c, e1, hk2⟩ := vStr_true hk1
  obtain ⟨m, d, e2, hk3⟩ := vStr_true hk2
  obtain ⟨c1, hk4⟩ := chk_true hk3
  rw [Nat.blt_eq] at c1
  subst e0 e1 e2
  cases hv with
  | cons h1 hv =>
    cases hv with
    | cons h2 hv =>
      cases hv with
      | nil =>
        cases h1 with
        | str hs =>
          rename_i s
          cases h2 with
          | str ht =>
            rename_i t
            obtain ⟨mm, hm⟩ := hg.cell hr
            have hcall := (hC s t mm w (by rw [hs.1]; exact c1) hm).mono (R' := fun e w' => e = .returned (.bool (decide (0 ≤ Lib.index s.data.toList t.data.toList))) ∧ Go.RowKit.Below w.heap.size w w')
              fun e w' hp => ⟨hp.1, by rw [hp.2]; exact Go.RowKit.Below.refl _ _⟩
            rw [forceN_eq] at hk4
            have hl := hs.data
            have hml := ht.data
            have hk' : idxK t.data.toList.length (enc t.data.toList) (256 ^ t.data.toList.length) s.data.toList.length (enc s.data.toList) 0 (fun _ => kr (.bool true) h) (kr (.bool false) h) = true := by
              rw [hl, hml, hs.2, ht.2]; exact hk4
            rcases idxK_true _ _ _ _ _ hk' with ⟨h3, h4⟩ | ⟨j, h3, h4⟩
            · rw [h3] at hcall
              exact ⟨_, _, hcall, .bool _, h4⟩
            · rw [h3] at hcall
              have hj : decide ((0 : Int) ≤ (j : Int)) = true := by simp
              rw [hj] at hcall
              exact ⟨_, _, hcall, .bool _, h4⟩
end
end Go.Abs

/-
  A verified evaluator: strings.Fields by its contract.
-/
namespace Go.Abs
noncomputable section
def strsK (ws : List (List UInt8)) : (List AV → Bool) → Bool :=
  List.rec (motive := fun _ => (List AV → Bool) → Bool) (fun k => k []) (fun w _ ih k => forceN w.length fun n => forceN (enc w) fun c => ih fun avs => k (.str n c :: avs)) ws
theorem strsK_true (φ : Phi) (ν : Nu) : ∀ {ws : List (List UInt8)} {k : List AV → Bool}, strsK ws k = true → ∃ avs, VRs φ ν avs (ws.map fun l => Value.string ⟨l.toArray⟩) ∧ k avs = true
  | [], k, h => ⟨[], .nil, h⟩
  | w :: ws, k, h => by
    have h' : (forceN w.length fun n => forceN (enc w) fun c => strsK ws fun avs => k (.str n c :: avs)) = true := h
    rw [forceN_eq, forceN_eq] at h'
    obtain ⟨avs, h1, h2⟩ := strsK_true φ ν h'
    exact ⟨_, .cons (.str (IsStr.of_list w)) h1, h2⟩
def ascii (l : List UInt8) : Bool := List.rec (motive := fun _ => Bool) true (fun b _ ih => andB (Nat.blt b.toNat 128) ih) l
theorem ascii_true : ∀ {l : List UInt8}, ascii l = true → ∀ (j : Nat) b, l[j]? = some b → b.toNat < 128
  | [], _, j, b, h => by simp at h
  | x :: l, ha, j, b, h => by
    obtain ⟨h1, h2⟩ := andB_true (show andB (Nat.blt x.toNat 128) (ascii l) = true from ha)
    cases j with
    | zero => simp at h; subst h; simpa [Nat.blt_eq] using h1
    | succ j => exact ascii_true h2 j b (by simpa using h)
def newStrs (el : TypeId) (ws : List (List UInt8)) (h : H) (k : AV → H → Bool) : Bool :=
  strsK ws fun avs => forceN (List.length avs) fun n => chk (Nat.ble n 4096) (pushRows 1 n 0 avs (RT.e RD) fun rows => newB (.cells 1 n 0 0 false el rows) h fun id h => k (.sl id n 0 n n true) h)
theorem newStrs_true {φ : Phi} {ν : Nu} {el : TypeId} {ws : List (List UInt8)} {h : H} {w : World} {k : AV → H → Bool} (hr : HR φ ν h w) (hk : newStrs el ws h k = true) :
    ∃ φ' h' av, HR φ' ν h' (w.alloc (.cells (ws.map fun l => Value.string ⟨l.toArray⟩).toArray el)) ∧ (∀ ro, Ext ro φ w φ' (w.alloc (.cells (ws.map fun l => Value.string ⟨l.toArray⟩).toArray el))) ∧ h'.ro = h.ro ∧ h'.ds = h.ds ∧
      VR φ' ν av (.slice (some ⟨w.heap.size, 0, none⟩) ws.length ws.length) ∧ k av h' = true := by
  obtain ⟨avs, hv, hk⟩ := strsK_true φ ν hk
  rw [forceN_eq] at hk
  obtain ⟨c1, hk⟩ := chk_true hk
  have c1 := nlT c1
  have hlen := hv.length
  rw [List.length_map] at hlen
  have hone : ∀ v ∈ ws.map (fun l => Value.string ⟨l.toArray⟩), v.oneCell' = true := fun v hm => by
    obtain ⟨l, _, rfl⟩ := List.mem_map.1 hm; rfl
  obtain ⟨rows, hcr, _, hk⟩ := pushRows_true (φ := φ) (ν := ν) (s := 1) (by omega) (c := (ws.map fun l => Value.string ⟨l.toArray⟩).toArray) hk (by rw [show 4 ^ RD = 4096 from rfl]; omega)
    (fun j hj => by omega) hv hone (fun i u hi => by simpa using hi)
  obtain ⟨hn, hk⟩ := newB_true hk
  have hcr' : CR φ ν 1 rows avs.length (ws.map fun l => Value.string ⟨l.toArray⟩).toArray := by
    have e : (0 + avs.length) * 1 = avs.length := by omega
    rw [e] at hcr; exact hcr
  have hsz : (ws.map fun l => Value.string ⟨l.toArray⟩).toArray.size = avs.length := by simp [hlen]
  obtain ⟨h1, h2, h3⟩ := hr.newCells hn (by_ := 16) (el := el) (opn := false) (s := 1) (by omega) hcr' (by omega) (fun _ => hsz)
  refine ⟨_, _, _, h1, h2, rfl, rfl, ?_, hk⟩
  rw [← hlen]
  exact .sl (Phi.new_self _ _ _ _) (Nat.le_refl _) (Nat.le_refl _) (fun _ => rfl) (fun h => by cases h)
def TabCell (P : Program) (ν : Nu) (name : String) (k : IntKind) (zs : List Int) : Prop := ∃ g el fr, P.globalNamed name = some g ∧ (g, Obj.cells (zs.map fun z => Value.int k z).toArray el fr) ∈ ν.G
theorem TabCell.is {P : Program} {φ : Phi} {ν : Nu} {h : H} {w : World} (hr : HR φ ν h w) {name : String} {k : IntKind} {zs : List Int} (ht : TabCell P ν name k zs) : Lib.TabIs P w name k zs := by
  obtain ⟨g, el, fr, h1, h2⟩ := ht
  obtain ⟨g1, _⟩ := hr.gl _ _ h2
  unfold Lib.TabIs World.var?
  rw [h1]; simp [g1]
def fieldsD (el : TypeId) : FnD := fun _ args h kr _ => args1 args fun x => vStr x fun l c => chk (Nat.blt l 4294967281) (chk (ascii (decL l c)) (newStrs el (Lib.fields (decL l c)) h kr))
theorem fields_good {P : Program} {ν : Nu} {f : Nat} {el : TypeId} (hb : hasBody P f = true) (hg : TabCell P ν "strings.asciiSpace" .u8 Lib.asciiSpaceTab)
    (hC : ∀ (s : ByteArray) (w : World), s.size < 4294967281 → (∀ (j : Nat) b, s.data.toList[j]? = some b → b.toNat < 128) → Lib.TabIs P w "strings.asciiSpace" .u8 Lib.asciiSpaceTab →
      Calls P f #[.string s] w fun e w' => e = .returned (.slice (some ⟨w.heap.size, 0, none⟩) (Lib.fields s.data.toList).length (Lib.fields s.data.toList).length) ∧
        w' = w.alloc (.cells ((Lib.fields s.data.toList).map fun l => Value.string ⟨l.toArray⟩).toArray el)) : FnGood P ν f (fieldsD el) := by
  refine FnGood.fresh hb fun cf args h φ w vs kr kp hk hr hv => ?_
  obtain ⟨x, e0, hk1⟩ := args1_true hk
  obtain ⟨l, c, e1, hk2⟩ := vStr_true hk1
  obtain ⟨c1, hk3⟩ := chk_true hk2
  obtain ⟨c2, hk4⟩ := chk_true hk3
  rw [Nat.blt_eq] at c1
  subst e0 e1
  cases hv with
  | cons h1 hv =>
    cases hv with
    | nil =>
      cases h1 with
      | str hs =>
        rename_i s
        have hdec := hs.dec
        rw [← hdec] at c2 hk4
        obtain ⟨φ', h', av, g1, g2, g3, g4, g5, g6⟩ := newStrs_true hr hk4
        exact ⟨_, av, φ', h', _, hC s w (by rw [hs.1]; exact c1) (ascii_true c2) (hg.is hr), g1, g2 _, g3, g4, g5, g6⟩
end
end Go.Abs

/-
  A verified evaluator: slices made by their length.
-/
namespace Go.Abs
noncomputable section
def mkMakeSlice (P : Program) (L N : Nat) (t : TypeId) (l c : Operand) (r : A L → Bool) : Bool :=
  match undX P t with
  | some (.slice el) => match infoX P el, zeroOf P el with
    | some i, some zs => mkE L N l fun fl => mkE L N c fun fc => forceN zs.length fun size => forceN i.bytes fun by_ => (fun rows => r fun ts h k => fl ts fun xl => vNat xl fun ln => fc ts fun xc => vNat xc fun cp =>
        chk (Nat.ble ln cp) (chk (Nat.ble cp 4096) (chk (Nat.ble (Nat.mul cp by_) 1048576) (forceN (Nat.mul cp size) fun n => newB (.cells size n 0 0 false el rows) h fun id h => k (.sl id n 0 ln cp true) h)))) (RT.full (zs.map ofVal1) RD)
    | _, _ => false
  | _ => false
theorem run_makeSlice {P : Program} {w : World} {t el : TypeId} {i : TypeInfo} {z : Value} {zs : List Value} (hd : P.underlying t = some (.slice el)) (hi : P.info? el = some i) (hz : i.zero = some z) (hzc : z.cells = ⟨zs⟩) (hzl : zs.length = i.size) (hpos : 0 < zs.length)
    {j j' : IntKind} {ln cp : Nat} (h1 : ln ≤ cp) (h2 : cp ≤ 4096) (h3 : cp * i.bytes ≤ 1048576) :
    (Instr.makeSlice t (.int j (.ofNat ln)) (.int j' (.ofNat cp))).run P w = .ok (.slice (some ⟨w.heap.size, 0, none⟩) ln cp) (w.alloc (.cells ((Array.range (cp * zs.length)).map fun q => (⟨zs⟩ : Array Value)[q % (⟨zs⟩ : Array Value).size]!) el)) := by
  have hhi : hiK .i64 = 9223372036854775808 := rfl
  have w1 : IntKind.i64.wrap (ln : Int) = (ln : Int) := wrap_small .i64 _ (by omega) (by rw [hhi]; omega)
  have w2 : IntKind.i64.wrap (cp : Int) = (cp : Int) := wrap_small .i64 _ (by omega) (by rw [hhi]; omega)
  have hb' : ¬ ((281474976710656 : Int) < (i.bytes : Int) * (cp : Int)) := by
    have : i.bytes * cp ≤ 1048576 := by rw [Nat.mul_comm]; exact h3
    have h : ((i.bytes * cp : Nat) : Int) ≤ ((1048576 : Nat) : Int) := Int.ofNat_le.2 this
    have e : ((i.bytes * cp : Nat) : Int) = (i.bytes : Int) * (cp : Int) := Int.natCast_mul _ _
    rw [e] at h
    intro q
    have := Int.lt_of_lt_of_le q h
    exact absurd this (by decide)
  have hl0 : ¬ ((ln : Int) < 0) := by omega
  have hc0 : ¬ ((cp : Int) < 0) := by omega
  have hlc : ¬ ((cp : Int) < (ln : Int)) := by omega
  unfold Instr.makeSlice
  by_cases h0 : cp * zs.length = 0
  · have hs0 : cp * i.size = 0 := by rw [← hzl]; exact h0
    have e1 : (Array.range (cp * zs.length)).map (fun q => (⟨zs⟩ : Array Value)[q % (⟨zs⟩ : Array Value).size]!) = #[] := by rw [h0]; simp
    rw [e1]
    simp [run_underlying' hd, asInt, asIntOf, run_typeInfo' hi, w1, w2, hb', hc0, hl0, hlc, askRoom, run_sizeOf' hi, hs0, newRow]
    have er : Array.range 0 = #[] := by apply Array.ext <;> simp
    rw [er, Array.map_empty]
  · have hs0 : ¬ cp * i.size = 0 := by rw [← hzl]; exact h0
    simp [run_underlying' hd, asInt, asIntOf, run_typeInfo' hi, w1, w2, hb', hc0, hl0, hlc, askRoom, run_sizeOf' hi, hs0, newRow, run_zeroValue' hi hz, hzc, hzl]
theorem mkMakeSlice_true {P : Program} {ν : Nu} {L N : Nat} {o : Oper} {t : TypeId} {l c : Operand} (ho : o.op = .makeSlice t l c) {r : A L → Bool} (h : mkMakeSlice P L N t l c r = true) :
    ∃ e, GoodA P ν L N o e ∧ r e = true := by
  unfold mkMakeSlice at h
  simp only [infoX_eq, undX_eq, shapeX_eq] at h
  split at h
  · rename_i el hd
    try simp only [infoX_eq, undX_eq, shapeX_eq] at h
    split at h
    · rename_i i zs hi hzs
      obtain ⟨fl, hfl, h⟩ := mkE_true h
      obtain ⟨fc, hfc, h⟩ := mkE_true h
      rw [forceN_eq, forceN_eq] at h
      obtain ⟨i', z, hi', hzz, hzc, hzl, hone, hpos⟩ := zeroOf_some hzs
      rw [hi] at hi'; cases hi'
      refine ⟨_, fun φ ts h' a w hst k hk => .inl ?_, h⟩
      obtain ⟨j1, ln, e1, hk1⟩ := vNat_true hk
      obtain ⟨j2, cp, e2, hk2⟩ := vNat_true hk1
      obtain ⟨c1, hk3⟩ := chk_true hk2
      obtain ⟨c2, hk4⟩ := chk_true hk3
      obtain ⟨c3, hk5⟩ := chk_true hk4
      rw [forceN_eq] at hk5
      have c1 := nlT c1
      have c2 := nlT c2
      have c3 : cp * i.bytes ≤ 1048576 := nlT c3
      obtain ⟨hn, hk6⟩ := newB_true hk5
      have hcr := full_CR (φ := φ) (ν := ν) hpos hone (cp * zs.length) (fun j => (⟨zs⟩ : Array Value)[j % (⟨zs⟩ : Array Value).size]!) (fun j => zero_at hpos j)
      obtain ⟨h1, h2, h3⟩ := hst.hr.newCells hn (by_ := i.bytes) (el := el) (opn := false) hpos hcr (by simp) (fun _ => by simp)
      have hv1 := hfl φ ν ts a hst.fr
      have hv2 := hfc φ ν ts a hst.fr
      rw [e1] at hv1
      rw [e2] at hv2
      generalize hvx : a.eval l = vx at hv1
      generalize hvy : a.eval c = vy at hv2
      cases hv1
      cases hv2
      refine ⟨_, _, _, _, _, _, ?_, .inl rfl, .sl (Phi.new_self _ _ _ _) (Nat.le_refl _) c1 (fun _ => rfl) (fun h => by cases h), h1, h2 _, rfl, rfl, hk6⟩
      unfold execOp; rw [ho]
      simp only [Sem.run_bind, hvx, hvy, run_makeSlice hd hi hzz hzc hzl hpos c1 c2 c3, Result.andThen_ok, Sem.run_pure]
    · cases h
  · cases h
end
end Go.Abs

/-
  A verified evaluator: makers of new memory, as they are read in regions that draw their order.
-/
namespace Go.Abs
noncomputable section
def mkQAlloc (P : Program) (L : Nat) (t : TypeId) (r : QK L → Bool) : Bool :=
  match zeroOf P t with
  | none => false
  | some zs => forceN zs.length fun n => r fun _ k => k n n t (row1 (zs.map ofVal1)) (fun id => .ptr id n 0) false
theorem mkQAlloc_true {P : Program} {ν : Nu} {L N : Nat} {o : Oper} {t : TypeId} (ho : o.op = .alloc t) {r : QK L → Bool} (h : mkQAlloc P L t r = true) : ∃ q, GoodQ P ν L N o q ∧ r q = true := by
  unfold mkQAlloc at h
  split at h
  · cases h
  · rename_i zs hz
    rw [forceN_eq] at h
    refine ⟨_, fun φ ts a k hfr hk => ?_, h⟩
    obtain ⟨i, z, hi, hzz, hzc, hlen, hone, hpos⟩ := zeroOf_some hz
    refine ⟨_, _, _, _, _, _, fun _ => ⟨zs⟩, _, _, fun w => .pointer (some ⟨w.heap.size, 0, none⟩), i.bytes, fun w => ?_, fun w => made_alloc w _ _, hpos, fun _ => row1_cell (ofVals_VR φ ν zs) hone hpos, fun _ => ⟨Nat.le_refl _, fun _ => ⟨rfl, NFE.zero⟩⟩, fun w φ' id hp => .ptr hp, hk⟩
    unfold execOp; rw [ho]
    simp [Instr.alloc, run_zeroValue' hi hzz, newVar, newRow, hzc]
def mkQBox (P : Program) (L N : Nat) (t : TypeId) (x : Operand) (r : QK L → Bool) : Bool :=
  mkE L N x fun e => match infoX P t with
  | none => false
  | some i => forceN i.size fun n => bif Nat.blt 0 n then r fun ts k => e ts fun x => vCells x fun l => lenIs l n (k n n t (row1 l) (fun id => .ptr id n 0) false) else false
theorem mkQBox_true {P : Program} {ν : Nu} {L N : Nat} {o : Oper} {t : TypeId} {x : Operand} (ho : o.op = .box t x) {r : QK L → Bool} (h : mkQBox P L N t x r = true) : ∃ q, GoodQ P ν L N o q ∧ r q = true := by
  obtain ⟨e, he, h⟩ := mkE_true h
  simp only [infoX_eq] at h
  split at h
  · cases h
  · rename_i i hi
    rw [forceN_eq] at h
    cases hp : Nat.blt 0 i.size with
    | false => rw [hp] at h; cases h
    | true =>
      rw [hp, cond_true] at h
      rw [Nat.blt_eq] at hp
      refine ⟨_, fun φ ts a k hfr hk => ?_, h⟩
      obtain ⟨l, hl, hone, hk1⟩ := vCells_true (he φ ν ts a hfr) hk
      obtain ⟨hlen, hk2⟩ := lenIs_true hk1
      have hlen2 := hl.length
      have hcr := row1_cell hl hone (by omega)
      rw [← hlen2, hlen] at hcr
      have hsz : (a.eval x).cells.size = i.size := by rw [← Array.length_toList, ← hlen2, hlen]
      refine ⟨_, _, _, _, _, _, fun _ => (a.eval x).cells, _, _, fun w => .pointer (some ⟨w.heap.size, 0, none⟩), i.bytes, fun w => ?_, fun w => made_alloc w _ _, hp, fun _ => hcr, fun _ => ⟨Nat.le_of_eq hsz.symm, fun _ => ⟨hsz, NFE.zero⟩⟩, fun w φ' id hp => .ptr hp, hk2⟩
      unfold execOp; rw [ho]
      simp [Instr.box, newVar, newRow]
def mkQSlice (P : Program) (L N : Nat) (t : TypeId) (l c : Operand) (r : QK L → Bool) : Bool :=
  match undX P t with
  | some (.slice el) => match infoX P el, zeroOf P el with
    | some i, some zs => mkE L N l fun fl => mkE L N c fun fc => forceN zs.length fun size => forceN i.bytes fun by_ => (fun rows => r fun ts k => fl ts fun xl => vNat xl fun ln => fc ts fun xc => vNat xc fun cp =>
        chk (Nat.ble ln cp) (chk (Nat.ble cp 4096) (chk (Nat.ble (Nat.mul cp by_) 1048576) (forceN (Nat.mul cp size) fun n => k size n el rows (fun id => .sl id n 0 ln cp true) false)))) (RT.full (zs.map ofVal1) RD)
    | _, _ => false
  | _ => false
theorem mkQSlice_true {P : Program} {ν : Nu} {L N : Nat} {o : Oper} {t : TypeId} {l c : Operand} (ho : o.op = .makeSlice t l c) {r : QK L → Bool} (h : mkQSlice P L N t l c r = true) : ∃ q, GoodQ P ν L N o q ∧ r q = true := by
  unfold mkQSlice at h
  simp only [infoX_eq, undX_eq] at h
  split at h
  · rename_i el hd
    split at h
    · rename_i i zs hi hzs
      obtain ⟨fl, hfl, h⟩ := mkE_true h
      obtain ⟨fc, hfc, h⟩ := mkE_true h
      rw [forceN_eq, forceN_eq] at h
      obtain ⟨i', z, hi', hzz, hzc, hzl, hone, hpos⟩ := zeroOf_some hzs
      rw [hi] at hi'; cases hi'
      refine ⟨_, fun φ ts a k hfr hk => ?_, h⟩
      obtain ⟨j1, ln, e1, hk1⟩ := vNat_true hk
      obtain ⟨j2, cp, e2, hk2⟩ := vNat_true hk1
      obtain ⟨c1, hk3⟩ := chk_true hk2
      obtain ⟨c2, hk4⟩ := chk_true hk3
      obtain ⟨c3, hk5⟩ := chk_true hk4
      rw [forceN_eq] at hk5
      have c1 := nlT c1; have c2 := nlT c2; have c3 := nlT c3
      have hv1 := hfl φ ν ts a hfr
      have hv2 := hfc φ ν ts a hfr
      rw [e1] at hv1; rw [e2] at hv2
      generalize hx1 : a.eval l = v1 at hv1
      generalize hx2 : a.eval c = v2 at hv2
      cases hv1; cases hv2
      have hcr := full_CR (φ := φ) (ν := ν) hpos hone (cp * zs.length) (fun j => (⟨zs⟩ : Array Value)[j % (⟨zs⟩ : Array Value).size]!) (fun j => zero_at hpos j)
      refine ⟨_, _, _, _, _, _, fun _ => _, _, _, fun w => .slice (some ⟨w.heap.size, 0, none⟩) ln cp, i.bytes, fun w => ?_, fun w => made_alloc w _ _, hpos, fun _ => hcr, fun _ => ⟨by simp, fun _ => ⟨by simp, NFE.zero⟩⟩, fun w φ' id hp => .sl hp (Nat.le_refl _) c1 (fun _ => rfl) (fun h => by cases h), hk5⟩
      unfold execOp; rw [ho]
      simp only [Sem.run_bind, hx1, hx2, run_makeSlice hd hi hzz hzc hzl hpos c1 c2 c3]
      rfl
    · cases h
  · cases h
def mkQBuild (P : Program) (L N : Nat) (t : TypeId) (len : Nat) (parts : Array (Nat × Operand)) (r : QK L → Bool) : Bool :=
  match undX P t with
  | some (.slice el) => match zeroOf P el with
    | some zs => forceN zs.length fun size => forceN (Nat.mul len size) fun n => bif Nat.ble len 4096 && Nat.ble n 16777216 && parts.toList.all (fun p => Nat.blt p.1 len) then
        mkRows L N size parts.toList fun f => (fun rows => r fun ts k => f ts rows fun rows => k size n el rows (fun id => .sl id n 0 len len true) false) (RT.full (zs.map ofVal1) RD) else false
    | none => false
  | _ => false
theorem mkQBuild_true {P : Program} {ν : Nu} {L N : Nat} {o : Oper} {t : TypeId} {len : Nat} {parts : Array (Nat × Operand)} (ho : o.op = .buildSlice t len parts) {r : QK L → Bool} (h : mkQBuild P L N t len parts r = true) : ∃ q, GoodQ P ν L N o q ∧ r q = true := by
  unfold mkQBuild at h
  simp only [undX_eq] at h
  split at h
  · rename_i el hd
    split at h
    · rename_i zs hz
      rw [forceN_eq, forceN_eq] at h
      cases hc : (Nat.ble len 4096 && Nat.ble (Nat.mul len zs.length) 16777216 && parts.toList.all (fun p => Nat.blt p.1 len)) with
      | false => rw [hc] at h; cases h
      | true =>
        rw [hc, cond_true] at h
        simp only [Bool.and_eq_true] at hc
        obtain ⟨i, z, hi, hzz, hzc, hzl, hone, hpos⟩ := zeroOf_some hz
        have hlen : len ≤ 4 ^ RD := nlT hc.1.1
        have hn : len * zs.length ≤ 16777216 := nlT hc.1.2
        obtain ⟨f, hf, h⟩ := mkRows_true hpos hlen h hc.2
        refine ⟨_, fun φ ts a k hfr hk => ?_, h⟩
        have hcr := full_CR (φ := φ) (ν := ν) hpos hone (len * zs.length) (fun j => (⟨zs⟩ : Array Value)[j % (⟨zs⟩ : Array Value).size]!) (fun j => zero_at hpos j)
        obtain ⟨c', l', hfill, hcr', hsz', hk2⟩ := hf φ ν ts a _ _ _ hfr hcr (by simp) (RowsOk.full (by simp)) hk
        refine ⟨_, _, _, _, _, _, fun _ => c', _, _, fun w => .slice (some ⟨w.heap.size, 0, none⟩) len len, i.bytes, fun w => ?_, fun w => made_alloc w _ _, hpos, fun _ => hcr', fun _ => ⟨Nat.le_of_eq hsz'.symm, fun _ => ⟨hsz', NFE.zero⟩⟩, fun w φ' id hp => .sl hp (Nat.le_refl _) (Nat.le_refl _) (fun _ => rfl) (fun h => by cases h), hk2⟩
        unfold execOp; rw [ho]
        have hfill' : Instr.fill (fun i => some (i * zs.length, zs.length)) ((Array.range (len * zs.length)).map fun j => (⟨zs⟩ : Array Value)[j % (⟨zs⟩ : Array Value).size]!) (parts.map fun (p : Nat × Operand) => (p.1, a.eval p.2)).toList = some c' := by
          simpa using hfill
        have hgt : ¬ (len * zs.length > 2 ^ 24) := by simpa using hn
        by_cases h0 : len * zs.length = 0
        · have hrange : ((Array.range (len * zs.length)).map fun j => (⟨zs⟩ : Array Value)[j % (⟨zs⟩ : Array Value).size]!) = #[] := by rw [h0]; simp
          rw [hrange] at hfill'
          have hr0 : (Array.range (len * zs.length)).map (fun x => (#[] : Array Value)[x % (#[] : Array Value).size]!) = #[] := by rw [h0]; simp
          simp only [Instr.buildSlice, Sem.run_bind, run_underlying' hd, Result.andThen_ok, run_sizeOf' hi, ← hzl, if_neg hgt, if_pos h0, Sem.run_pure, hr0, hfill']
          simp [newRow]
        · simp only [Instr.buildSlice, Sem.run_bind, run_underlying' hd, Result.andThen_ok, run_sizeOf' hi, ← hzl, if_neg hgt, if_neg h0, run_zeroValue' hi hzz, Sem.run_pure, hzc, hfill']
          simp [newRow]
    · cases h
  · cases h
def mkQT (P : Program) (L N : Nat) (o : Oper) (r : QK L → Bool) : Bool :=
  match o.op with
  | .alloc t => mkQAlloc P L t r
  | .box t x => mkQBox P L N t x r
  | .makeSlice t l c => mkQSlice P L N t l c r
  | .buildSlice t n ps => mkQBuild P L N t n ps r
  | _ => false
theorem mkQT_true {P : Program} {ν : Nu} {L N : Nat} {o : Oper} {r : QK L → Bool} (h : mkQT P L N o r = true) : (∃ q, GoodQ P ν L N o q ∧ r q = true) ∧ NoSel o := by
  unfold mkQT at h
  split at h
  · rename_i t ho; exact ⟨mkQAlloc_true ho h, fun cs b q => by rw [ho] at q; cases q⟩
  · rename_i t x ho; exact ⟨mkQBox_true ho h, fun cs b q => by rw [ho] at q; cases q⟩
  · rename_i t l c ho; exact ⟨mkQSlice_true ho h, fun cs b q => by rw [ho] at q; cases q⟩
  · rename_i t n ps ho; exact ⟨mkQBuild_true ho h, fun cs b q => by rw [ho] at q; cases q⟩
  · cases h
theorem mkQT_nd {P : Program} {L N : Nat} {o : Oper} {r : QK L → Bool} (h : mkQT P L N o r = true) : NoDefer o := by
  intro c hc
  unfold mkQT at h
  rw [hc] at h
  cases h
end
end Go.Abs

/-
  A verified evaluator: ranging over a string of ASCII bytes; cap.
-/
namespace Go.Abs
noncomputable section
theorem HR.setObj {φ : Phi} {ν : Nu} {h : H} {w : World} (hr : HR φ ν h w) {id : Nat} {p : PB} (hp : φ id 0 = some p) {o : Obj} {b : AB} (hro : h.ro.lim ≤ id) (hb : BR φ ν { w with heap := w.heap.setIfInBounds p.blk o } id b) :
    HR φ ν { h with bl := T4.set HD id b h.bl } { w with heap := w.heap.setIfInBounds p.blk o } ∧ Ext h.ro φ w φ { w with heap := w.heap.setIfInBounds p.blk o } := by
  have hid := (hr.dom _ _ _ hp).1
  have hlim := hr.lim
  refine ⟨⟨fun i v q hq => ⟨(hr.dom i v q hq).1, by simpa using (hr.dom i v q hq).2⟩, hr.inj, fun i x hi hx => ?_, hr.lim, hr.ro, hr.gp, fun b' o' hbo => ?_, hr.ub⟩,
    ⟨φ.le_refl, by simp, rfl, rfl, rfl, fun i v q hq => .inl ⟨v, q, hq, rfl⟩, fun b' _ hn => Array.getElem?_setIfInBounds_ne (hn id 0 p hp hro), fun _ _ _ h _ _ => h⟩⟩
  · simp only at hx hi
    rw [T4.get_set HD _ _ (by omega) (by omega)] at hx
    by_cases e : id = i
    · rw [if_pos e] at hx; cases hx; subst e; exact hb
    · rw [if_neg e] at hx
      refine BR.keep φ.le_refl (fun _ _ h => h) (fun v q hq => ?_) (hr.bl i x hi hx)
      have hne : p.blk ≠ q.blk := fun e' => e (hr.inj _ _ _ _ _ _ hp hq e')
      show (w.heap.setIfInBounds p.blk o)[q.blk]? = w.heap[q.blk]?
      exact Array.getElem?_setIfInBounds_ne hne
  · obtain ⟨g1, g2⟩ := hr.gl b' o' hbo
    refine ⟨?_, g2⟩
    have hne : p.blk ≠ b' := fun e => by have := g2 _ _ _ hp e; omega
    show (w.heap.setIfInBounds p.blk o)[b']? = some o'
    rw [Array.getElem?_setIfInBounds_ne hne]; exact g1
def mkRangeS (P : Program) (L N : Nat) (t : TypeId) (x : Operand) (r : A L → Bool) : Bool :=
  mkE L N x fun ex => match undX P t with
  | some .string => r fun ts h k => ex ts fun x => vStr x fun l c => newB (.siter l c 0) h fun id h => k (.ptr id 0 0) h
  | _ => false
theorem mkRangeS_true {P : Program} {ν : Nu} {L N : Nat} {o : Oper} {t : TypeId} {x : Operand} (ho : o.op = .range t x) {r : A L → Bool} (h : mkRangeS P L N t x r = true) : ∃ e, GoodA P ν L N o e ∧ r e = true := by
  obtain ⟨ex, hex, h⟩ := mkE_true h
  try simp only [infoX_eq, undX_eq, shapeX_eq] at h
  split at h
  · rename_i hd
    refine ⟨_, fun φ ts h' a w hst k hk => .inl ?_, h⟩
    obtain ⟨l, c, e1, hk1⟩ := vStr_true hk
    obtain ⟨hn, hk2⟩ := newB_true hk1
    have hv := hex φ ν ts a hst.fr
    rw [e1] at hv
    generalize hvx : a.eval x = vx at hv
    cases hv with
    | str hs =>
      rename_i s
      have hr := hst.hr
      obtain ⟨h1, h2, h3⟩ := hr.newObj hn (ver := 0) (p := ⟨w.heap.size, 0, 0, 0⟩) rfl (o := .stringIter s 0) (b := .siter l c 0)
        ⟨fun ver q hq => by
          rcases Phi.new_inv hq with ⟨_, e, _⟩ | hq
          · exact e
          · have := (hr.dom _ _ _ hq).1; omega, _, Phi.new_self .., s, heap_push_new w _, hs⟩
      refine ⟨_, _, _, _, _, _, ?_, .inl rfl, .ptr (Phi.new_self φ h'.next 0 ⟨w.heap.size, 0, 0, 0⟩), h1, h2 _, rfl, rfl, hk2⟩
      unfold execOp; rw [ho]
      simp [Instr.range, hvx, run_underlying' hd]
  · cases h
theorem decode_ascii {s : ByteArray} {pos : Nat} {b : UInt8} (hb : s.data.toList[pos]? = some b) (h : b.toNat < 128) : Utf8.decode s pos = (b.toNat, 1) := by
  have e : s.get! pos = b := by
    rw [Array.getElem?_toList] at hb
    obtain ⟨hlt, hq⟩ := Array.getElem?_eq_some_iff.1 hb
    show s.data[pos]! = b
    rw [getElem!_pos s.data pos hlt, hq]
  unfold Utf8.decode
  simp [e, h]
def mkNextS (L N : Nat) (it : Operand) (r : A L → Bool) : Bool :=
  mkE L N it fun ei => r fun ts h k => ei ts fun x => vPtr x fun id ver off => chk (Nat.beq ver 0) (chk (Nat.beq off 0) (chk (Nat.ble h.ro.lim id)
    (T4.getK HD id h.bl fun b => AB.rec (motive := fun _ => Bool) (fun _ _ _ _ _ _ _ => false) (fun _ _ => false)
      (fun l c pos => Bool.rec (motive := fun _ => Bool) (k (.tup [.bool false]) h)
        (forceN (Nat.mod (Nat.div c (Nat.pow 2 (Nat.mul 8 pos))) 256) fun by_ => chk (Nat.blt by_ 128) (forceN (Nat.succ pos) fun p1 => T4.setK HD id (.siter l c p1) h.bl fun bl =>
          k (.tup [.bool true, .int .i64 (.ofNat pos), .int .i32 (.ofNat by_)]) ⟨h.ds, h.ro, h.next, bl⟩)) (Nat.blt pos l)) (fun _ => false) b)))
theorem mkNextS_true {P : Program} {ν : Nu} {L N : Nat} {o : Oper} {it : Operand} (ho : o.op = .next it true) {r : A L → Bool} (h : mkNextS L N it r = true) : ∃ e, GoodA P ν L N o e ∧ r e = true := by
  obtain ⟨ei, hei, h⟩ := mkE_true h
  refine ⟨_, fun φ ts h' a w hst k hk => .inl ?_, h⟩
  obtain ⟨id, ver, off, e1, hk1⟩ := vPtr_true hk
  obtain ⟨c1, hk2⟩ := chk_true hk1
  obtain ⟨c2, hk3⟩ := chk_true hk2
  obtain ⟨c3, hk4⟩ := chk_true hk3
  rw [Nat.beq_eq] at c1 c2
  have c3 := nlT c3
  obtain ⟨b, hb, hk5⟩ := T4.getK_true _ _ _ _ hk4
  have hv := hei φ ν ts a hst.fr
  rw [e1, c1, c2] at hv
  generalize hvx : a.eval it = vx at hv
  cases hv with
  | ptr hp =>
    rename_i p
    cases b with
    | cells s n lw fz opn el rows => cases hk5
    | mapo es c => cases hk5
    | dfr o => cases hk5
    | siter l c pos =>
      obtain ⟨h0, p', hp', s, hw, hs⟩ := hst.hr.bl id _ (hst.hr.dom _ _ _ hp).1 hb
      rw [hp] at hp'; cases hp'
      have hget : (getObj p.blk).run P w = .ok (.stringIter s pos) w := by simp [getObj, Sem.run, hw]
      have hk6 : Bool.rec (motive := fun _ => Bool) (k (.tup [.bool false]) h')
        (forceN (Nat.mod (Nat.div c (Nat.pow 2 (Nat.mul 8 pos))) 256) fun by_ => chk (Nat.blt by_ 128) (forceN (Nat.succ pos) fun p1 => T4.setK HD id (.siter l c p1) h'.bl fun bl =>
          k (.tup [.bool true, .int .i64 (.ofNat pos), .int .i32 (.ofNat by_)]) ⟨h'.ds, h'.ro, h'.next, bl⟩)) (Nat.blt pos l) = true := hk5
      cases hlt : Nat.blt pos l with
      | false =>
        rw [hlt] at hk6
        have hge : ¬ pos < s.size := by
          intro q
          rw [hs.1] at q
          have : Nat.blt pos l = true := by rw [Nat.blt_eq]; exact q
          rw [hlt] at this; cases this
        refine ⟨_, .tuple #[.bool false], _, φ, h', w, ?_, .inl rfl, .tup (.cons (.bool _) .nil), hst.hr, Ext.refl _ _ _, rfl, rfl, hk6⟩
        unfold execOp; rw [ho]
        simp [Instr.next, hvx, hget, hge]
      | true =>
        rw [hlt] at hk6
        rw [Nat.blt_eq] at hlt
        simp only [forceN_eq] at hk6
        obtain ⟨c4, hk7⟩ := chk_true hk6
        rw [Nat.blt_eq] at c4
        rw [T4.setK_eq] at hk7
        obtain ⟨by_, _, hb1, hb3⟩ := hs.get pos hlt
        have hbn : Nat.mod (Nat.div c (Nat.pow 2 (Nat.mul 8 pos))) 256 = by_.toNat := hb3
        rw [hbn] at c4 hk7
        have hlt' : pos < s.size := by rw [hs.1]; exact hlt
        have hset : (setObj p.blk (.stringIter s (pos + 1))).run P w = .ok () { w with heap := w.heap.setIfInBounds p.blk (.stringIter s (pos + 1)) } := by simp [setObj, Sem.run, hw]
        have hblk := (hst.hr.dom _ _ _ hp).2
        obtain ⟨g1, g2⟩ := hst.hr.setObj hp (o := .stringIter s (pos + 1)) (b := .siter l c (Nat.succ pos)) c3 ⟨h0, p, hp, s, by simp [hblk], hs⟩
        refine ⟨_, .tuple #[.bool true, goInt pos, .int .i32 by_.toNat], _, φ, _, _, ?_, .inl rfl, .tup (.cons (.bool _) (.cons (.int _ _) (.cons (.int _ _) .nil))), g1, g2, rfl, rfl, hk7⟩
        unfold execOp; rw [ho]
        simp [Instr.next, hvx, hget, hlt', decode_ascii hb1 c4, hset]
def mkCap (P : Program) (L N : Nat) (t : TypeId) (x : Operand) (r : V L → Bool) : Bool :=
  mkE L N x fun e => match undX P t with
  | some (.slice _) => r fun ts _ k => e ts fun x => vSl x (k (.int .i64 (Int.ofNat 0))) fun _ _ _ _ mc ex => Bool.rec (motive := fun _ => Bool) (k .unk) (k (.int .i64 (Int.ofNat mc))) ex
  | _ => false
theorem mkCap_true {P : Program} {ν : Nu} {L N : Nat} {o : Oper} {t : TypeId} {x : Operand} {ts' : List TypeId} (ho : o.op = .call { callee := .builtin .cap, args := ⟨[x]⟩, argTypes := ⟨t :: ts'⟩ }) {r : V L → Bool} (h : mkCap P L N t x r = true) :
    ∃ e, GoodV P ν L N o e ∧ r e = true := by
  obtain ⟨e, he, h⟩ := mkE_true h
  try simp only [infoX_eq, undX_eq, shapeX_eq] at h
  split at h
  · rename_i el hd
    refine ⟨_, fun φ ts h' a w hst k hk => ?_, h⟩
    have h1 := he φ ν ts a hst.fr
    generalize hvx : a.eval x = vx at h1
    rcases vSl_true hk with ⟨e1, hk1⟩ | ⟨id, v, off, len, mc, ex, e1, hk1⟩
    · rw [e1] at h1
      cases h1
      refine ⟨goInt 0, _, ?_, .int _ _, hk1⟩
      rw [execOp_builtin ho]
      simp [builtin, Builtin.cap_, hvx, run_underlying' hd]
    · rw [e1] at h1
      cases h1 with
      | sl hp hm hl hx ho' hf =>
        rename_i cap p off'
        cases ex with
        | false =>
          refine ⟨goInt cap, _, ?_, .unk _, hk1⟩
          rw [execOp_builtin ho]
          simp [builtin, Builtin.cap_, hvx, run_underlying' hd]
        | true =>
          refine ⟨goInt cap, _, ?_, by rw [hx rfl]; exact .int _ _, hk1⟩
          rw [execOp_builtin ho]
          simp [builtin, Builtin.cap_, hvx, run_underlying' hd]
  · cases h
end
end Go.Abs

/-
  A verified evaluator: one operation, all kinds; the code of a function.
-/
namespace Go.Abs
noncomputable section
def mkValX (P : Program) (L N : Nat) (op : Op) (r : V L → Bool) : Bool :=
  match op with
  | .lookup t x ix ok => mkLookup P L N t x ix ok r
  | .call { callee := .builtin .cap, args := ⟨[x]⟩, argTypes := ⟨t :: _⟩ } => mkCap P L N t x r
  | op => mkVal P L N op r
theorem mkValX_true {P : Program} {ν : Nu} {L N : Nat} {o : Oper} {r : V L → Bool} (h : mkValX P L N o.op r = true) : ∃ e, GoodV P ν L N o e ∧ r e = true := by
  unfold mkValX at h
  split at h
  · rename_i t x ix ok ho; exact mkLookup_true ho h
  · rename_i x t ts ho; exact mkCap_true ho h
  · exact mkVal_true h
def mkMemX (P : Program) (L N : Nat) (op : Op) (r : A L → Bool) : Bool :=
  match op with
  | .makeSlice t l c => mkMakeSlice P L N t l c r
  | .makeMap t rs => mkMakeMap P L N t rs r
  | .insert t m x y => mkInsert P L N t m x y r
  | .mapUpdate t m x y => mkInsert P L N t m x y r
  | .range t x => mkRangeS P L N t x r
  | .next it true => mkNextS L N it r
  | op => mkMem P L N op r
theorem mkMemX_true {P : Program} {ν : Nu} {L N : Nat} {o : Oper} {r : A L → Bool} (h : mkMemX P L N o.op r = true) : ∃ e, GoodA P ν L N o e ∧ r e = true := by
  unfold mkMemX at h
  split at h
  · rename_i t l c ho; exact mkMakeSlice_true ho h
  · rename_i t rs ho; exact mkMakeMap_true ho h
  · rename_i t m x y ho; exact mkInsert_true (.inl ho) h
  · rename_i t m x y ho; exact mkInsert_true (.inr ho) h
  · rename_i t x ho; exact mkRangeS_true ho h
  · rename_i it ho; exact mkNextS_true ho h
  · exact mkMem_true h
def mkOpX (P : Program) (L N : Nat) (o : Oper) (r : D L → Bool) : Bool :=
  match o.op with
  | .alloc _ | .box .. | .buildSlice .. | .store .. | .makeSlice .. | .makeMap .. | .insert .. | .mapUpdate .. | .range .. | .next .. => mkMemX P L N o.op (putA L N o.dst r)
  | .call { callee := .builtin .append, .. } => mkMemX P L N o.op (putA L N o.dst r)
  | .lookup .. => mkValX P L N o.op (putV L N o.dst r)
  | .call { callee := .builtin .cap, .. } => mkValX P L N o.op (putV L N o.dst r)
  | _ => mkOp P L N o r
theorem mkOpX_true {P : Program} {ν : Nu} {L N : Nat} {o : Oper} {r : D L → Bool} (h : mkOpX P L N o r = true) : ∃ d, GoodO P ν L N o d ∧ r d = true := by
  unfold mkOpX at h
  split at h
  · obtain ⟨e, he, h⟩ := mkMemX_true h; exact he.good h
  · obtain ⟨e, he, h⟩ := mkMemX_true h; exact he.good h
  · obtain ⟨e, he, h⟩ := mkMemX_true h; exact he.good h
  · obtain ⟨e, he, h⟩ := mkMemX_true h; exact he.good h
  · obtain ⟨e, he, h⟩ := mkMemX_true h; exact he.good h
  · obtain ⟨e, he, h⟩ := mkMemX_true h; exact he.good h
  · obtain ⟨e, he, h⟩ := mkMemX_true h; exact he.good h
  · obtain ⟨e, he, h⟩ := mkMemX_true h; exact he.good h
  · obtain ⟨e, he, h⟩ := mkMemX_true h; exact he.good h
  · obtain ⟨e, he, h⟩ := mkMemX_true h; exact he.good h
  · obtain ⟨e, he, h⟩ := mkMemX_true h; exact he.good h
  · obtain ⟨e, he, h⟩ := mkValX_true h; exact he.good h
  · obtain ⟨e, he, h⟩ := mkValX_true h; exact he.good h
  · exact mkOp_true h
def isSliceT (P : Program) (t : TypeId) : Bool := match shapeX P t with | some (.slice _) => true | _ => false
def isVal (P : Program) (o : Oper) : Bool :=
  match o.op with
  | .alloc _ | .box .. | .buildSlice .. | .store .. | .insert .. | .makeMap .. | .makeSlice .. | .defer _ | .panic _ | .mapUpdate .. | .mapEntry .. | .entryStore .. | .range .. | .next .. | .go _ | .send .. | .recv .. | .select .. => false
  | .convert s d _ => !(isSliceT P s || isSliceT P d)
  | .call { callee := .builtin .len, .. } | .call { callee := .builtin .min, .. } | .call { callee := .builtin .max, .. } | .call { callee := .builtin .cap, .. } => true
  | .call _ => false
  | _ => true
end
end Go.Abs

/-
  A verified evaluator: where a byte lies in a string, by contract; which of some bytes comes first; how often a string lies in another.
-/
namespace Go.Abs
noncomputable section
theorem enc_one (n : Nat) (h : n < 256) : enc [n.toUInt8] = n := by
  show (n.toUInt8).toNat + 256 * 0 = n
  have : (n.toUInt8).toNat = n % 256 := rfl
  omega
def indexByteD (K : IntKind) (B : Nat) : FnD := fun _ args h kr _ => args2 args fun x y => vStr x fun l c => vInt y fun J n => chk (isIntK J K) (Int.rec (motive := fun _ => Bool)
  (fun n => chk (Nat.blt n B) (idxK 1 n 256 l c 0 (fun i => kr (.int .i64 (.ofNat i)) h) (kr (.int .i64 (.negSucc 0)) h))) (fun _ => false) n)
theorem indexByte_good {P : Program} {ν : Nu} {f B : Nat} {K : IntKind} (hb : hasBody P f = true) (hB : B ≤ 256)
    (hC : ∀ (s : ByteArray) (n : Nat) (w : World), n < B → Calls P f #[.string s, .int K n] w fun e w' => e = .returned (.int .i64 (Lib.indexByte s.data.toList n.toUInt8)) ∧ w' = w) : FnGood P ν f (indexByteD K B) := by
  refine FnGood.plain hb fun cf args h φ w vs kr kp hk hr hv => ?_
  obtain ⟨x, y, e0, hk1⟩ := args2_true hk
  obtain ⟨l, c, e1, hk2⟩ := vStr_true hk1
  obtain ⟨k, n, e2, hk30⟩ := vInt_true hk2
  obtain ⟨cK, hk3⟩ := chk_true hk30
  have cK := isIntK_true cK
  clear hk30
  subst cK
  cases n with
  | negSucc m => cases hk3
  | ofNat n =>
    obtain ⟨c1, hk4⟩ := chk_true hk3
    rw [Nat.blt_eq] at c1
    subst e0 e1 e2
    cases hv with
    | cons h1 hv =>
      cases hv with
      | cons h2 hv =>
        cases hv with
        | nil =>
          cases h1 with
          | str hs =>
            rename_i s
            have hcall : ∀ v, VR φ ν (.int k (.ofNat n)) v → Calls P f #[.string s, v] w fun e w' => e = .returned (.int .i64 (Lib.index s.data.toList [n.toUInt8])) ∧ Go.RowKit.Below w.heap.size w w' := by
              intro v hv2
              rw [Lib.index_one]
              cases hv2
              exact (hC s n w c1).mono fun e w' hp => ⟨hp.1, by rw [hp.2]; exact Go.RowKit.Below.refl _ _⟩
            have hc := hcall _ h2
            have hk' : idxK [n.toUInt8].length (enc [n.toUInt8]) (256 ^ [n.toUInt8].length) s.data.toList.length (enc s.data.toList) 0 (fun i => kr (.int .i64 (.ofNat i)) h) (kr (.int .i64 (.negSucc 0)) h) = true := by
              rw [hs.data, hs.2, enc_one n (by omega)]; exact hk4
            rcases idxK_true _ _ _ _ _ hk' with ⟨h3, h4⟩ | ⟨j, h3, h4⟩
            · rw [h3] at hc
              exact ⟨_, _, hc, .int _ _, h4⟩
            · rw [h3] at hc
              rw [Nat.zero_add] at h4
              exact ⟨_, _, hc, .int _ _, h4⟩
end
end Go.Abs

/-
  A verified evaluator: a new block that somebody else has laid; strings made bytes.
-/
namespace Go.Abs
noncomputable section
open Go.RowKit (Below)
/-! ### a string made bytes -/
def bytesKK (l : Nat) : Nat → (List AV → Bool) → Bool :=
  Nat.rec (motive := fun _ => Nat → (List AV → Bool) → Bool) (fun _ k => k []) (fun _ ih c k => forceN (Nat.mod c 256) fun b => forceN (Nat.div c 256) fun c => ih c fun avs => k (.int .u8 (.ofNat b) :: avs)) l
theorem bytesKK_true (φ : Phi) (ν : Nu) : ∀ {l : List UInt8} {k : List AV → Bool}, bytesKK l.length (enc l) k = true → ∃ avs, VRs φ ν avs (l.map fun b => Value.int .u8 b.toNat) ∧ k avs = true
  | [], k, h => ⟨[], .nil, h⟩
  | b :: l, k, h => by
    have h' : (forceN (Nat.mod (enc (b :: l)) 256) fun b' => forceN (Nat.div (enc (b :: l)) 256) fun c => bytesKK l.length c fun avs => k (.int .u8 (.ofNat b') :: avs)) = true := h
    rw [forceN_eq, forceN_eq] at h'
    have hb : b.toNat < 256 := b.toNat_lt
    have h1 : Nat.mod (enc (b :: l)) 256 = b.toNat := by show (b.toNat + 256 * enc l) % 256 = _; omega
    have h2 : Nat.div (enc (b :: l)) 256 = enc l := by show (b.toNat + 256 * enc l) / 256 = _; omega
    rw [h1, h2] at h'
    obtain ⟨avs, h3, h4⟩ := bytesKK_true φ ν h'
    exact ⟨_, .cons (.int _ _) h3, h4⟩
def mkConvB (P : Program) (L N : Nat) (src dst : TypeId) (x : Operand) (r : A L → Bool) : Bool :=
  mkE L N x fun ex => match undX P src, undX P dst with
  | some .string, some (.slice e) => match undX P e with
    | some (.int .u8) => r fun ts h k => ex ts fun x => vStr x fun l c => chk (Nat.ble l 4096) (bytesKK l c fun avs => pushRows 1 l 0 avs (RT.e RD) fun rows => newB (.cells 1 l 0 0 true e rows) h fun id h => k (.sl id l 0 l l false) h)
    | _ => false
  | _, _ => false
theorem mkConvB_true {P : Program} {ν : Nu} {L N : Nat} {o : Oper} {src dst : TypeId} {x : Operand} (ho : o.op = .convert src dst x) {r : A L → Bool} (h : mkConvB P L N src dst x r = true) : ∃ e, GoodA P ν L N o e ∧ r e = true := by
  obtain ⟨ex, hex, h⟩ := mkE_true h
  try simp only [infoX_eq, undX_eq, shapeX_eq] at h
  split at h
  · rename_i e hsrc hdst
    try simp only [infoX_eq, undX_eq, shapeX_eq] at h
    split at h
    · rename_i he
      refine ⟨_, fun φ ts h' a w hst k hk => .inl ?_, h⟩
      obtain ⟨l, c, e1, hk1⟩ := vStr_true hk
      obtain ⟨c1, hk2⟩ := chk_true hk1
      have c1 := nlT c1
      have hv := hex φ ν ts a hst.fr
      rw [e1] at hv
      generalize hvx : a.eval x = vx at hv
      cases hv with
      | str hs =>
        rename_i s
        have hk3 : bytesKK s.data.toList.length (enc s.data.toList) (fun avs => pushRows 1 l 0 avs (RT.e RD) fun rows => newB (.cells 1 l 0 0 true e rows) h' fun id h => k (.sl id l 0 l l false) h) = true := by rw [hs.data, hs.2]; exact hk2
        obtain ⟨avs, g1, g2⟩ := bytesKK_true φ ν hk3
        have hgc := grownCap_ge w s.size 0 e
        have hsz : (Lib.bytesCells w e s).size = grownCap w s.size 0 e := by
          have : s.data.size = s.size := rfl
          simp [Lib.bytesCells, this]; omega
        have hone : ∀ v ∈ s.data.toList.map (fun b => Value.int .u8 b.toNat), v.oneCell' = true := fun v hm => by
          obtain ⟨b, _, rfl⟩ := List.mem_map.1 hm; rfl
        obtain ⟨rows, hcr, _, hk4⟩ := pushRows_true (φ := φ) (ν := ν) (s := 1) (by omega) (c := Lib.bytesCells w e s) g2 (by rw [show 4 ^ RD = 4096 from rfl]; omega) (fun j hj => by omega) g1 hone (fun i u hi => by
          have hlt : i < s.data.size := by
            have := (List.getElem?_eq_some_iff.1 hi).1
            simpa using this
          simp only [Lib.bytesCells, Nat.zero_mul, Nat.zero_add]
          rw [Array.getElem?_append_left (by simpa using hlt)]
          simpa using hi)
        obtain ⟨hn, hk5⟩ := newB_true hk4
        have hcr' : CR φ ν 1 rows l (Lib.bytesCells w e s) := by
          have e2 : (0 + l) * 1 = l := by omega
          rw [e2] at hcr; exact hcr
        have hbel : Below w.heap.size w (Lib.bytesWorld w e s) := ⟨rfl, rfl, rfl, by rw [Lib.bytesWorld_size]; omega, fun j hj => Lib.bytesWorld_at_old w e s j hj⟩
        have hsl := hs.1
        obtain ⟨h1, h2, h3⟩ := hst.hr.newIn hbel hn (by_ := 0) (opn := true) (s := 1) (Nat.le_refl _) (by rw [Lib.bytesWorld_size]; omega) (by omega) (Lib.bytesWorld_at_new w e s) hcr' (by omega) (fun h => by cases h) (fun j _ hj q => by omega)
        refine ⟨_, _, _, _, _, _, ?_, .inl rfl, .sl (cap := grownCap w s.size 0 e) (off' := 0) (Phi.new_self _ _ _ _) (by omega) (Nat.le_refl _) (fun h => by cases h) (fun _ => ⟨by simp only; omega, by simp⟩), h1, h2 _, rfl, rfl, hk5⟩
        unfold execOp; rw [ho]
        simp only [Sem.run_bind, hvx, Lib.run_convert_string_bytes w src dst e s hsrc hdst he, Result.andThen_ok, Sem.run_pure, hsl]
    · cases h
  · cases h
end
end Go.Abs

/-
  A verified evaluator: strings made bytes, as a maker of new memory in regions that draw their order.
-/
namespace Go.Abs
noncomputable section
def mkQConv (P : Program) (L N : Nat) (src dst : TypeId) (x : Operand) (r : QK L → Bool) : Bool :=
  mkE L N x fun ex => match undX P src, undX P dst with
  | some .string, some (.slice e) => match undX P e with
    | some (.int .u8) => r fun ts k => ex ts fun x => vStr x fun l c => chk (Nat.ble l 4096) (bytesKK l c fun avs => pushRows 1 l 0 avs (RT.e RD) fun rows => k 1 l e rows (fun id => .sl id l 0 l l false) true)
    | _ => false
  | _, _ => false
theorem mkQConv_true {P : Program} {ν : Nu} {L N : Nat} {o : Oper} {src dst : TypeId} {x : Operand} (ho : o.op = .convert src dst x) {r : QK L → Bool} (h : mkQConv P L N src dst x r = true) : ∃ q, GoodQ P ν L N o q ∧ r q = true := by
  obtain ⟨ex, hex, h⟩ := mkE_true h
  try simp only [infoX_eq, undX_eq, shapeX_eq] at h
  split at h
  · rename_i e hsrc hdst
    try simp only [infoX_eq, undX_eq, shapeX_eq] at h
    split at h
    · rename_i he
      refine ⟨_, fun φ ts a k hfr hk => ?_, h⟩
      obtain ⟨l, c, e1, hk1⟩ := vStr_true hk
      obtain ⟨c1, hk2⟩ := chk_true hk1
      have c1 := nlT c1
      have hv := hex φ ν ts a hfr
      rw [e1] at hv
      generalize hvx : a.eval x = vx at hv
      cases hv with
      | str hs =>
        rename_i s
        have hk3 : bytesKK s.data.toList.length (enc s.data.toList) (fun avs => pushRows 1 l 0 avs (RT.e RD) fun rows => k 1 l e rows (fun id => .sl id l 0 l l false) true) = true := by rw [hs.data, hs.2]; exact hk2
        obtain ⟨avs, g1, g2⟩ := bytesKK_true φ ν hk3
        have hsz : ∀ w : World, (Lib.bytesCells w e s).size = grownCap w s.size 0 e := fun w => by
          have hgc := grownCap_ge w s.size 0 e
          have : s.data.size = s.size := rfl
          simp [Lib.bytesCells, this]; omega
        have hone : ∀ v ∈ s.data.toList.map (fun b => Value.int .u8 b.toNat), v.oneCell' = true := fun v hm => by
          obtain ⟨b, _, rfl⟩ := List.mem_map.1 hm; rfl
        have hsl := hs.1
        obtain ⟨rows, hcr0, _, hk4⟩ := pushRows_true (φ := φ) (ν := ν) (s := 1) (by omega) (c := s.data.map fun b => Value.int .u8 b.toNat) g2 (by rw [show 4 ^ RD = 4096 from rfl]; omega) (fun j hj => by omega) g1 hone (fun i u hi => by
          simp only [Nat.zero_mul, Nat.zero_add]
          simpa using hi)
        have hcr : ∀ w : World, CR φ ν 1 rows l (Lib.bytesCells w e s) := fun w j hj => by
          have e2 : (0 + l) * 1 = l := by omega
          rw [e2] at hcr0
          obtain ⟨v, g3, g4, g5⟩ := hcr0 j hj
          refine ⟨v, ?_, g4, g5⟩
          unfold Lib.bytesCells
          rw [Array.getElem?_append_left (Array.getElem?_eq_some_iff.1 g3).1]
          exact g3
        refine ⟨_, _, _, _, _, _, fun w => Lib.bytesCells w e s, _, fun w => Lib.bytesWorld w e s, fun w => .slice (some ⟨w.heap.size, 0, none⟩) s.size (grownCap w s.size 0 e), 0, fun w => ?_,
          fun w => ⟨⟨rfl, rfl, rfl, by rw [Lib.bytesWorld_size]; omega, fun j hj => Lib.bytesWorld_at_old w e s j hj⟩, Lib.bytesWorld_at_new w e s, fun j _ hj q => Nat.not_lt.2 q.1 hj⟩, by omega, hcr,
          fun w => ⟨by rw [hsz w]; have := grownCap_ge w s.size 0 e; omega, fun h => by cases h⟩, fun w φ' id hp => ?_, hk4⟩
        · unfold execOp; rw [ho]
          simp only [Sem.run_bind, hvx, Lib.run_convert_string_bytes w src dst e s hsrc hdst he, Result.andThen_ok, Sem.run_pure]
        · have hgc := grownCap_ge w s.size 0 e
          show VR φ' ν (.sl id l 0 l l false) (.slice (some ⟨w.heap.size, 0, none⟩) s.size (grownCap w s.size 0 e))
          rw [hsl] at hgc ⊢
          refine VR.sl (ex := false) (mc := l) (len := l) (cap := grownCap w l 0 e) (off' := 0) hp hgc (Nat.le_refl _) (fun h => by cases h) (fun _ => ⟨?_, by simp⟩)
          have hz := hsz w
          rw [hsl] at hz
          show 0 + grownCap w l 0 e * 1 ≤ (Lib.bytesCells w e s).size
          omega
    · cases h
  · cases h
def mkQU (P : Program) (L N : Nat) (o : Oper) (r : QK L → Bool) : Bool :=
  match o.op with
  | .convert src dst x => mkQConv P L N src dst x r
  | _ => mkQT P L N o r
theorem mkQU_true {P : Program} {ν : Nu} {L N : Nat} {o : Oper} {r : QK L → Bool} (h : mkQU P L N o r = true) : (∃ q, GoodQ P ν L N o q ∧ r q = true) ∧ NoSel o := by
  unfold mkQU at h
  split at h
  · rename_i ho
    exact ⟨mkQConv_true ho h, fun cs b e => by rw [ho] at e; cases e⟩
  · exact mkQT_true h
theorem mkQU_nd {P : Program} {L N : Nat} {o : Oper} {r : QK L → Bool} (h : mkQU P L N o r = true) : NoDefer o := by
  intro c hc
  unfold mkQU at h
  rw [hc] at h
  exact mkQT_nd h c hc
end
end Go.Abs

/-
  A verified evaluator: '==' between structs and arrays of numbers, strings and truth values.
-/
namespace Go.Abs
noncomputable section
abbrev EqF := AV → AV → (Bool → Bool) → Bool
abbrev EqFs := List AV → List AV → (Bool → Bool) → Bool
def EqOk (P : Program) (d : Nat) (t : TypeId) (f : EqF) : Prop :=
  ∀ φ ν x y v u (w : World) k, VR φ ν x v → VR φ ν y u → f x y k = true → ∃ b, (Op.equalIn d t v u).run P w = .ok b w ∧ k b = true
def EqFsOk (P : Program) (d : Nat) (fs : List Field) (f : EqFs) : Prop :=
  ∀ φ ν l m (xs ys : List Value) (w : World) k, VRs φ ν l xs → VRs φ ν m ys → (∀ v ∈ xs, v.oneCell' = true) → (∀ v ∈ ys, v.oneCell' = true) → f l m k = true →
    ∃ b, (Op.eqFields d ⟨xs⟩ ⟨ys⟩ fs).run P w = .ok b w ∧ k b = true
def mkEqFs (P : Program) (mk : TypeId → (EqF → Bool) → Bool) : List Field → (EqFs → Bool) → Bool
  | [], r => r fun _ _ k => k true
  | f :: fs, r => bif f.name == "_" then false else
      mk f.type fun g => mkPart P f.type fun p => forceN f.offset fun off => mkEqFs P mk fs fun gs => r fun l m k => p l off fun a => p m off fun b => g a b fun t => Bool.rec (motive := fun _ => Bool) (k false) (gs l m k) t
theorem mkEqFs_true {P : Program} {d : Nat} {mk : TypeId → (EqF → Bool) → Bool} (hmk : ∀ t r, mk t r = true → ∃ f, EqOk P d t f ∧ r f = true) : ∀ {fs : List Field} {r : EqFs → Bool}, mkEqFs P mk fs r = true → ∃ f, EqFsOk P d fs f ∧ r f = true
  | [], r, h => ⟨_, fun φ ν l m xs ys w k _ _ _ _ hk => ⟨true, by simp [Op.eqFields], hk⟩, h⟩
  | f :: fs, r, h => by
    simp only [mkEqFs] at h
    cases hn : (f.name == "_") with
    | true => rw [hn] at h; cases h
    | false =>
      rw [hn, cond_false] at h
      obtain ⟨g, hg, h⟩ := hmk _ _ h
      obtain ⟨p, hp, h⟩ := mkPart_true h
      rw [forceN_eq] at h
      obtain ⟨gs, hgs, h⟩ := mkEqFs_true hmk h
      refine ⟨_, fun φ ν l m xs ys w k hl hm ho ho' hk => ?_, h⟩
      obtain ⟨v, av, h1, h2, hk⟩ := hp φ ν l xs f.offset w _ hl ho hk
      obtain ⟨u, au, h3, h4, hk⟩ := hp φ ν m ys f.offset w _ hm ho' hk
      obtain ⟨b, h5, hk⟩ := hg φ ν av au v u w _ h2 h4 hk
      have hne : f.name ≠ "_" := by simpa using hn
      cases b with
      | false => exact ⟨false, by simp [Op.eqFields, hne, h1, h3, h5], hk⟩
      | true =>
        obtain ⟨b, h6, hk⟩ := hgs φ ν l m xs ys w k hl hm ho ho' hk
        exact ⟨b, by simp [Op.eqFields, hne, h1, h3, h5, h6], hk⟩
def eqItK (f : EqF) (p : List AV → Nat → (AV → Bool) → Bool) (c : Nat) (l m : List AV) (k : Bool → Bool) (n : Nat) : Nat → Bool :=
  Nat.rec (motive := fun _ => Nat → Bool) (fun _ => k true) (fun _ ih off => p l off fun a => p m off fun b => f a b fun t => Bool.rec (motive := fun _ => Bool) (k false) (forceN (Nat.add off c) ih) t) n
theorem eqItK_true {P : Program} {d : Nat} {e : TypeId} {f : EqF} (hf : EqOk P d e f) {p : List AV → Nat → (AV → Bool) → Bool}
    (hp : ∀ φ ν (cs : List AV) (vs : List Value) (off : Nat) (w : World) k, VRs φ ν cs vs → (∀ v ∈ vs, v.oneCell' = true) → p cs off k = true → ∃ v av, (part e ⟨vs⟩ off).run P w = .ok v w ∧ VR φ ν av v ∧ k av = true)
    {φ : Phi} {ν : Nu} {l m : List AV} {xs ys : List Value} {w : World} {k : Bool → Bool} (hl : VRs φ ν l xs) (hm : VRs φ ν m ys) (ho : ∀ v ∈ xs, v.oneCell' = true) (ho' : ∀ v ∈ ys, v.oneCell' = true) {c : Nat} :
    ∀ (n i : Nat), eqItK f p c l m k n (i * c) = true → ∃ b, (Op.eqItems d e c ⟨xs⟩ ⟨ys⟩ (List.range' i n)).run P w = .ok b w ∧ k b = true
  | 0, i, hk => ⟨true, by simp [Op.eqItems], hk⟩
  | n + 1, i, hk => by
    have hk' : (p l (i * c) fun a => p m (i * c) fun b => f a b fun t => Bool.rec (motive := fun _ => Bool) (k false) (forceN (Nat.add (i * c) c) fun o => eqItK f p c l m k n o) t) = true := hk
    obtain ⟨v, av, h1, h2, hk⟩ := hp φ ν l xs (i * c) w _ hl ho hk'
    obtain ⟨u, au, h3, h4, hk⟩ := hp φ ν m ys (i * c) w _ hm ho' hk
    obtain ⟨b, h5, hk⟩ := hf φ ν av au v u w _ h2 h4 hk
    rw [List.range'_succ]
    cases b with
    | false => exact ⟨false, by simp [Op.eqItems, h1, h3, h5], hk⟩
    | true =>
      simp only [forceN_eq] at hk
      have e1 : Nat.add (i * c) c = (i + 1) * c := by rw [Nat.succ_mul]; rfl
      rw [e1] at hk
      obtain ⟨b, h6, hk⟩ := eqItK_true (w := w) hf hp hl hm ho ho' n (i + 1) hk
      exact ⟨b, by simp [Op.eqItems, h1, h3, h5, h6], hk⟩
def mkEqT (P : Program) (d : Nat) : TypeId → (EqF → Bool) → Bool :=
  Nat.rec (motive := fun _ => TypeId → (EqF → Bool) → Bool) (fun _ _ => false) (fun _ ih t r => match undX P t with
    | some (.int K) => mkIsK K fun isk => r fun x y k => vInt x fun j a => isk j (vInt y fun j' b => isk j' (Bool.rec (motive := fun _ => Bool) (k false) (k true) (ieq a b)))
    | some .string => r fun x y k => vStr x fun l c => vStr y fun l' c' => Bool.rec (motive := fun _ => Bool) (k false) (k true) (strEq l c l' c')
    | some .bool => r fun x y k => vBool x fun a => vBool y fun b => Bool.rec (motive := fun _ => Bool) (Bool.rec (motive := fun _ => Bool) (k true) (k false) b) (Bool.rec (motive := fun _ => Bool) (k false) (k true) b) a
    | some (.struct fs) => bif P.stoodInHeld t then false else mkEqFs P ih fs.toList fun f => r fun x y k => vAgg x fun l => vAgg y fun m => f l m k
    | some (.array n e) => match infoX P e with
      | some i => ih e fun f => mkPart P e fun p => forceN i.size fun c => r fun x y k => vAgg x fun l => vAgg y fun m => eqItK f p c l m k n 0
      | none => false
    | _ => false) d
theorem rec_bool (b : Bool) (k : Bool → Bool) : Bool.rec (motive := fun _ => Bool) (k false) (k true) b = k b := by cases b <;> rfl
theorem mkEqT_true {P : Program} : ∀ (d : Nat) (t : TypeId) (r : EqF → Bool), mkEqT P d t r = true → ∃ f, EqOk P d t f ∧ r f = true
  | 0, t, r, h => by cases h
  | d + 1, t, r, h => by
    have ih := fun t r h => mkEqT_true (P := P) d t r h
    have h' : (match undX P t with
    | some (.int K) => mkIsK K fun isk => r fun x y k => vInt x fun j a => isk j (vInt y fun j' b => isk j' (Bool.rec (motive := fun _ => Bool) (k false) (k true) (ieq a b)))
    | some .string => r fun x y k => vStr x fun l c => vStr y fun l' c' => Bool.rec (motive := fun _ => Bool) (k false) (k true) (strEq l c l' c')
    | some .bool => r fun x y k => vBool x fun a => vBool y fun b => Bool.rec (motive := fun _ => Bool) (Bool.rec (motive := fun _ => Bool) (k true) (k false) b) (Bool.rec (motive := fun _ => Bool) (k false) (k true) b) a
    | some (.struct fs) => bif P.stoodInHeld t then false else mkEqFs P (mkEqT P d) fs.toList fun f => r fun x y k => vAgg x fun l => vAgg y fun m => f l m k
    | some (.array n e) => match infoX P e with
      | some i => mkEqT P d e fun f => mkPart P e fun p => forceN i.size fun c => r fun x y k => vAgg x fun l => vAgg y fun m => eqItK f p c l m k n 0
      | none => false
    | _ => false) = true := h
    try simp only [infoX_eq, undX_eq, shapeX_eq] at h'
    split at h'
    · rename_i K hd
      obtain ⟨isk, hisk, h'⟩ := mkIsK_true h'
      refine ⟨_, fun φ ν x y v u w k hx hy hk => ?_, h'⟩
      obtain ⟨j, n, e1, hk⟩ := vInt_true hk
      obtain ⟨e2, hk⟩ := hisk _ _ hk
      obtain ⟨j', m, e3, hk⟩ := vInt_true hk
      obtain ⟨e4, hk⟩ := hisk _ _ hk
      rw [rec_bool, ieq_eq] at hk
      rw [e1] at hx; rw [e3] at hy
      cases hx; cases hy
      rw [e2, e4]
      exact ⟨_, run_equalIn_int w d t _ _ n m hd, hk⟩
    · rename_i hd
      refine ⟨_, fun φ ν x y v u w k hx hy hk => ?_, h'⟩
      obtain ⟨l, c, e1, hk⟩ := vStr_true hk
      obtain ⟨l', c', e2, hk⟩ := vStr_true hk
      rw [rec_bool, strEq_eq] at hk
      rw [e1] at hx; rw [e2] at hy
      cases hx with
      | str hs => cases hy with
        | str ht =>
          rw [← hs.beqL ht] at hk
          exact ⟨_, run_equalIn_string w d t _ _ hd, hk⟩
    · rename_i hd
      refine ⟨_, fun φ ν x y v u w k hx hy hk => ?_, h'⟩
      obtain ⟨a, e1, hk⟩ := vBool_true hk
      obtain ⟨b, e2, hk⟩ := vBool_true hk
      rw [e1] at hx; rw [e2] at hy
      cases hx; cases hy
      refine ⟨_, run_equalIn_bool' w d t a b hd, ?_⟩
      cases a <;> cases b <;> exact hk
    · rename_i fs hd
      cases hst : P.stoodInHeld t with
      | true => rw [hst] at h'; cases h'
      | false =>
        rw [hst, cond_false] at h'
        obtain ⟨f, hf, h'⟩ := mkEqFs_true ih h'
        refine ⟨_, fun φ ν x y v u w k hx hy hk => ?_, h'⟩
        obtain ⟨l, e1, hk⟩ := vAgg_true hk
        obtain ⟨m, e2, hk⟩ := vAgg_true hk
        rw [e1] at hx; rw [e2] at hy
        cases hx with
        | agg hl ho => cases hy with
          | agg hm ho' =>
            obtain ⟨b, h1, hk⟩ := hf φ ν l m _ _ w k hl hm ho ho' hk
            have hfo : P.fieldsOf t = fs := by simp [Program.fieldsOf, hd]
            refine ⟨b, ?_, hk⟩
            rw [run_equalIn_struct w d t _ _ (by rw [hfo]; exact hd) hst, hfo]
            exact h1
    · rename_i n e hd
      try simp only [infoX_eq, undX_eq, shapeX_eq] at h'
      split at h'
      · rename_i i hi
        obtain ⟨f, hf, h'⟩ := ih _ _ h'
        obtain ⟨p, hp, h'⟩ := mkPart_true h'
        rw [forceN_eq] at h'
        refine ⟨_, fun φ ν x y v u w k hx hy hk => ?_, h'⟩
        obtain ⟨l, e1, hk⟩ := vAgg_true hk
        obtain ⟨m, e2, hk⟩ := vAgg_true hk
        rw [e1] at hx; rw [e2] at hy
        cases hx with
        | agg hl ho => cases hy with
          | agg hm ho' =>
            obtain ⟨b, h1, hk⟩ := eqItK_true (w := w) hf hp hl hm ho ho' (c := i.size) n 0 (by rw [Nat.zero_mul]; exact hk)
            have hc : P.cellsOf e = i.size := by simp [Program.cellsOf, hi]
            refine ⟨b, ?_, hk⟩
            rw [run_equalIn_array w d _ _ hd hi, hc, List.range_eq_range']
            exact h1
      · cases h'
    · cases h'
def aggOp (P : Program) (t : TypeId) : Bool := match undX P t with | some d => isAggD d | none => false
def mkBinE (P : Program) (L N : Nat) (op : BinOp) (t : TypeId) (x y : Operand) (r : V L → Bool) : Bool :=
  bif P.eqGuardType P.depth t then false else mkE L N x fun ex => mkE L N y fun ey => mkEqT P 10000 t fun f => match op with
  | .eql => r fun ts _ k => ex ts fun vx => vAgg vx fun l => ey ts fun vy => vAgg vy fun m => f (.agg l) (.agg m) fun b => kBool b k
  | .neq => r fun ts _ k => ex ts fun vx => vAgg vx fun l => ey ts fun vy => vAgg vy fun m => f (.agg l) (.agg m) fun b => Bool.rec (motive := fun _ => Bool) (k (.bool true)) (k (.bool false)) b
  | _ => false
theorem mkBinE_true {P : Program} {ν : Nu} {L N : Nat} {o : Oper} {op : BinOp} {t yt : TypeId} {x y : Operand} (ho : o.op = .binOp op t x y yt) {r : V L → Bool} (h : mkBinE P L N op t x y r = true) :
    ∃ e, GoodV P ν L N o e ∧ r e = true := by
  unfold mkBinE at h
  cases hg : P.eqGuardType P.depth t with
  | true => rw [hg] at h; cases h
  | false =>
    rw [hg, cond_false] at h
    obtain ⟨ex, hex, h⟩ := mkE_true h
    obtain ⟨ey, hey, h⟩ := mkE_true h
    obtain ⟨f, hf, h⟩ := mkEqT_true _ _ _ h
    split at h
    · refine ⟨_, fun φ ts h' a w hst k hk => ?_, h⟩
      obtain ⟨l, e1, hk⟩ := vAgg_true hk
      obtain ⟨m, e2, hk⟩ := vAgg_true hk
      have h1 := hex φ ν ts a hst.fr
      have h2 := hey φ ν ts a hst.fr
      rw [e1] at h1; rw [e2] at h2
      obtain ⟨b, hb, hk⟩ := hf φ ν _ _ _ _ w _ h1 h2 hk
      generalize hvx : a.eval x = vx at h1 hb
      generalize hvy : a.eval y = vy at h2 hb
      cases h1; cases h2
      rw [kBool_eq] at hk
      exact ⟨.bool b, .bool b, execOp_bin ho (by rw [hvx, hvy]; exact run_eqGuard_agg w _ _ _ _ _ _ hg) (by rw [hvx, hvy, run_eql_struct, hb]; rfl), .bool _, hk⟩
    · refine ⟨_, fun φ ts h' a w hst k hk => ?_, h⟩
      obtain ⟨l, e1, hk⟩ := vAgg_true hk
      obtain ⟨m, e2, hk⟩ := vAgg_true hk
      have h1 := hex φ ν ts a hst.fr
      have h2 := hey φ ν ts a hst.fr
      rw [e1] at h1; rw [e2] at h2
      obtain ⟨b, hb, hk⟩ := hf φ ν _ _ _ _ w _ h1 h2 hk
      generalize hvx : a.eval x = vx at h1 hb
      generalize hvy : a.eval y = vy at h2 hb
      cases h1; cases h2
      rw [kNot_eq] at hk
      exact ⟨.bool !b, .bool !b, execOp_bin ho (by rw [hvx, hvy]; exact run_eqGuard_agg w _ _ _ _ _ _ hg) (by rw [hvx, hvy, run_neq_struct, hb]; rfl), .bool _, hk⟩
    · cases h
end
end Go.Abs

/-
  A verified evaluator: an interface value taken for one of its own type.
-/
namespace Go.Abs
noncomputable section
def isIfc (d : TypeDesc) : Bool := match d with | .interface _ => true | _ => false
def mkAssert (P : Program) (L N : Nat) (x : Operand) (asserted : TypeId) (ok : Bool) (r : V L → Bool) : Bool :=
  match undX P asserted with
  | some d => bif isIfc d then false else mkE L N x fun e => bif ok then r fun ts _ k => e ts fun x => vIface x false fun t v => chk (Nat.beq t asserted) (k (.tup [v, .bool true]))
      else r fun ts _ k => e ts fun x => vIface x false fun t v => chk (Nat.beq t asserted) (k v)
  | none => false
theorem run_assert {P : Program} {w : World} {d : TypeDesc} {t xT : TypeId} (hd : P.underlying t = some d) (hi : isIfc d = false) (v : Value) (ok : Bool) :
    (Instr.typeAssert (.iface t v) xT t ok).run P w = .ok (if ok then .tuple #[v, .bool true] else v) w := by
  unfold Instr.typeAssert
  cases d <;> first | (cases hi; done) | (cases ok <;> simp [run_underlying' hd])
theorem mkAssert_true {P : Program} {ν : Nu} {L N : Nat} {o : Oper} {x : Operand} {xT asserted : TypeId} {ok : Bool} (ho : o.op = .typeAssert x xT asserted ok) {r : V L → Bool} (h : mkAssert P L N x asserted ok r = true) :
    ∃ e, GoodV P ν L N o e ∧ r e = true := by
  unfold mkAssert at h
  simp only [infoX_eq, undX_eq, shapeX_eq] at h
  split at h
  · rename_i d hd
    cases hi : isIfc d with
    | true => rw [hi] at h; cases h
    | false =>
      rw [hi, cond_false] at h
      obtain ⟨e, he, h⟩ := mkE_true h
      cases ok with
      | true =>
        refine ⟨_, fun φ ts h' a w hst k hk => ?_, h⟩
        rcases vIface_true hk with ⟨_, hf⟩ | ⟨t, v, e1, hk1⟩
        · cases hf
        · obtain ⟨c, hk2⟩ := chk_true hk1
          rw [nbT c] at e1
          have hv := he φ ν ts a hst.fr
          rw [e1] at hv
          generalize hvx : a.eval x = vx at hv
          cases hv with
          | iface hv =>
            rename_i u
            refine ⟨.tuple ⟨[u, .bool true]⟩, _, ?_, .tup (.cons hv (.cons (.bool true) .nil)), hk2⟩
            unfold execOp; rw [ho]
            simp [hvx, run_assert hd hi]
      | false =>
        refine ⟨_, fun φ ts h' a w hst k hk => ?_, h⟩
        rcases vIface_true hk with ⟨_, hf⟩ | ⟨t, v, e1, hk1⟩
        · cases hf
        · obtain ⟨c, hk2⟩ := chk_true hk1
          rw [nbT c] at e1
          have hv := he φ ν ts a hst.fr
          rw [e1] at hv
          generalize hvx : a.eval x = vx at hv
          cases hv with
          | iface hv =>
            rename_i u
            refine ⟨u, _, ?_, hv, hk2⟩
            unfold execOp; rw [ho]
            simp [hvx, run_assert hd hi]
  · cases h
end
end Go.Abs

/-
  A verified evaluator: a function that defers one function that recovers.
-/
namespace Go.Abs
noncomputable section
/-! ### values in a row -/
abbrev VsF (L : Nat) := FT L → H → (FT L → Bool) → Bool
def mkVals (L N : Nat) (mkV : MkV L) : List Oper → (VsF L → Bool) → Bool
  | [], r => r fun ts _ k => k ts
  | o :: l, r => match o.guard with
    | some _ => false
    | none => mkV o fun e => mkPut L N o.dst fun s => mkVals L N mkV l fun es => r fun ts h k => e ts h fun av => s ts av fun ts => es ts h k
theorem mkVals_true {P : Program} {ν : Nu} {L N : Nat} {mkV : MkV L} (hV : ∀ o r, mkV o r = true → ∃ e, GoodV P ν L N o e ∧ r e = true) {ops : Array Oper} :
    ∀ (l : List Oper) (i : Nat), ops.toList.drop i = l → ∀ r, mkVals L N mkV l r = true →
      ∃ es : VsF L, (∀ φ ts h a cs w k (Q : Exit → Act → List Frame → World → Prop), St φ ν L N ts h a w → es ts h k = true →
        (∀ a' ts', St φ ν L N ts' h a' w → k ts' = true → Q .normal a' cs w) → wpOpsS P ops Q (List.range' i l.length) a cs w) ∧ r es = true
  | [], i, _, r, h => ⟨_, fun φ ts h' a cs w k Q hs hk hq => hq a ts hs hk, h⟩
  | o :: rest, i, hl, r, h => by
    simp only [mkVals] at h
    split at h
    · cases h
    · rename_i hg
      obtain ⟨e, he, h⟩ := hV _ _ h
      obtain ⟨s, hs, h⟩ := mkPut_true h
      have hrest : ops.toList.drop (i + 1) = rest := by rw [← List.drop_drop, hl]; rfl
      obtain ⟨es, hes, h⟩ := mkVals_true hV rest (i + 1) hrest _ h
      refine ⟨_, fun φ ts h' a cs w k Q hst hk hq => ?_, h⟩
      have ho : ops[i]? = some o := by
        have : (ops.toList.drop i)[0]? = some o := by rw [hl]; rfl
        rw [List.getElem?_drop] at this; simpa using this
      obtain ⟨v, av, h1, h2, hk⟩ := he φ ts h' a w hst _ hk
      obtain ⟨ts', hf, hk⟩ := hs φ ν ts a av v _ hst.fr h2 hk
      simp only [List.length_cons, List.range'_succ, wpOpsS, ho]
      rw [if_pos (by simp [Region.wanted, hg]), h1]
      exact hes φ ts' h' (a.put o.dst v) cs w k Q ⟨hf, hst.hr, by rw [put_defers]; exact hst.dr⟩ hk hq
/-! ### the deferred function -/
abbrev DefD := Fun → List AV → H → AV → (H → Bool) → Bool
def RecStep (u : FrameMode) (v : Value) (u' : FrameMode) : Prop :=
  (u = .returning ∧ v = .nilIface ∧ u' = .returning) ∨ (u = .panicking [{ v := v, recovered := false }] ∧ u' = .panicking [{ v := v, recovered := true }])
def DefPost (φ : Phi) (ν : Nu) (h : H) (w : World) (u' : FrameMode) (k : H → Bool) : Ending → FrameMode → World → Prop
  | .returned _, u'', w' => u'' = u' ∧ ∃ φ' h', HR φ' ν h' w' ∧ Ext h.ro φ w φ' w' ∧ h'.ro = h.ro ∧ h'.ds = h.ds ∧ k h' = true
  | .panicked _, _, _ => False
  | .outgrown, _, _ => False
def DefGood (P : Program) (ν : Nu) (g : FuncId) (dd : DefD) : Prop :=
  hasBody P g = true ∧ ∀ cf, FunOk P ν cf → ∀ args h av k, dd cf args h av k = true → ∀ φ w (vs : List Value) v, HR φ ν h w → VRs φ ν args vs → VR φ ν av v → ∀ u u', RecStep u v u' → CallsD P g ⟨vs⟩ u w (DefPost φ ν h w u' k)
def isRecover (o : Oper) : Bool := match o.op, o.guard with
  | .call { callee := .builtin .recover, .. }, none => true
  | _, _ => false
theorem isRecover_true {P : Program} {o : Oper} (h : isRecover o = true) (ρ : Operand → Value) (w : World) : o.guard = none ∧ (execOp ρ o).run P w = .ok .recover w := by
  unfold isRecover at h
  split at h
  · rename_i args at_ ho hg
    refine ⟨hg, ?_⟩
    rw [execOp_builtin ho]
    simp [builtin]
  · cases h
def mkDef (P : Program) (mk : MkCode) (mkV : (L N : Nat) → MkV L) (g : FuncId) (r : DefD → Bool) : Bool :=
  match P.funcs[g]? with
  | none => false
  | some fn => match fn.body with
    | some (.seq (.region _ ops false) rest) => match ops.toList with
      | o0 :: tl => bif isRecover o0 && fn.results.toList.isEmpty && Nat.ble fn.ntmps (4 ^ levels fn.ntmps) && Nat.ble (fn.params.size + fn.nfree) fn.ntmps && !(fn.name == "runtime.NumGoroutine") then
          (fun L => mkPut L fn.ntmps o0.dst fun s0 => mkVals L fn.ntmps (mkV L fn.ntmps) tl fun es => mk false L fn.ntmps rest fun d => mkArgs L (fn.params.size + fn.nfree) 0 fun ent => (fun unk =>
            r fun cf args h av k => ent args unk fun ts => s0 ts av fun ts => es ts ⟨[], h.ro, h.next, h.bl⟩ fun ts => d cf ts ⟨[], h.ro, h.next, h.bl⟩
              (fun _ h' => isNil h'.ds (k ⟨h.ds, h'.ro, h'.next, h'.bl⟩)) ⟨fun _ _ _ => false, fun _ h' => isNil h'.ds (k ⟨h.ds, h'.ro, h'.next, h'.bl⟩), fun _ _ _ => false⟩) (FT.unk L)) (levels fn.ntmps) else false
      | [] => false
    | _ => false
theorem DR.nil {φ : Phi} {ν : Nu} {l : List ADef} {m : List Deferred} (hl : l = []) (h : DR φ ν l m) : m = [] := by
  subst hl
  cases m with
  | nil => rfl
  | cons q l => exact h.elim
theorem mkDef_true {P : Program} {ν : Nu} {mk : MkCode} (hmk : GoodMk P ν mk) {mkV : (L N : Nat) → MkV L} (hV : ∀ L N o r, mkV L N o r = true → ∃ e, GoodV P ν L N o e ∧ r e = true) {g : FuncId} {r : DefD → Bool} (h : mkDef P mk mkV g r = true) :
    ∃ d, DefGood P ν g d ∧ r d = true := by
  unfold mkDef at h
  split at h
  · cases h
  · rename_i fn hf
    split at h
    · rename_i id ops rest hb
      split at h
      · rename_i o0 tl hops
        cases hcond : (isRecover o0 && fn.results.toList.isEmpty && Nat.ble fn.ntmps (4 ^ levels fn.ntmps) && Nat.ble (fn.params.size + fn.nfree) fn.ntmps && !(fn.name == "runtime.NumGoroutine")) with
        | false => rw [hcond] at h; cases h
        | true =>
          rw [hcond, cond_true] at h
          simp only [Bool.and_eq_true, Bool.not_eq_true'] at hcond
          obtain ⟨⟨⟨⟨hrec, hres⟩, hN⟩, hm⟩, hname⟩ := hcond
          have hN := nlT hN
          have hm := nlT hm
          generalize levels fn.ntmps = L at h hN
          obtain ⟨s0, hs0, h⟩ := mkPut_true h
          obtain ⟨es, hes, h⟩ := mkVals_true (P := P) (ν := ν) (ops := ops) (hV L fn.ntmps) tl 1 (by rw [hops]; rfl) _ h
          obtain ⟨d, hd, h⟩ := hmk _ _ _ _ _ h
          obtain ⟨ent, hent, h⟩ := mkArgs_true h
          have hbody : hasBody P g = true := by simp [hasBody, hf, hb, hname]
          refine ⟨_, ⟨hbody, fun cf hc args hh av k hk φ w vs v hr hv hav u u' hu => ?_⟩, h⟩
          obtain ⟨ts, hal, hfr, hk1⟩ := hent φ ν fn.ntmps args vs _ (Array.replicate fn.ntmps undef) _ hN (by omega) hv (FR.enter hr.gp ν L fn.ntmps) hk
          have hvl := hv.length
          rw [enter_tmps vs fn.ntmps (by omega)] at hfr
          refine callsD_of_wpS hf hb fun c₀ cs hc0 => ?_
          generalize hA : (⟨(⟨vs⟩ : Array Value) ++ Array.replicate (fn.ntmps - (⟨vs⟩ : Array Value).size) undef, []⟩ : Act) = A
          have hA1 : A.tmps = (⟨vs⟩ : Array Value) ++ Array.replicate (fn.ntmps - (⟨vs⟩ : Array Value).size) undef := by rw [← hA]
          have hA2 : A.defers = [] := by rw [← hA]
          rw [← hA1] at hfr
          refine wpS_seq (wpS_region ?_)
          have hsz : ops.size = tl.length + 1 := by
            have : ops.toList.length = tl.length + 1 := by rw [hops]; rfl
            simpa using this
          have h0 : ops[0]? = some o0 := by
            have : ops.toList[0]? = some o0 := by rw [hops]; rfl
            simpa using this
          rw [hsz, List.range_eq_range', List.range'_succ]
          obtain ⟨hg, hrun⟩ := isRecover_true (P := P) hrec A.eval w
          -- behind the recovering
          have key : wpOpsS P ops (Exit.thenS (rest.wpS P (bodyPostS P fn c₀ cs (DefPost φ ν hh w u' k))) (bodyPostS P fn c₀ cs (DefPost φ ν hh w u' k))) (List.range' 1 tl.length) (A.put o0.dst v) (({ c₀ with mode := u' } : Frame) :: cs) w := by
            obtain ⟨ts1, hf1, hk2⟩ := hs0 φ ν ts A av v _ hfr hav hk1
            refine hes φ ts1 ⟨[], hh.ro, hh.next, hh.bl⟩ (A.put o0.dst v) _ w _ _ ⟨hf1, hr.ds [], by rw [put_defers, hA2]; trivial⟩ hk2 fun a' ts' hst hk3 => ?_
            refine wpS_of_wp (wp_mono (wpW_none.1 (hd cf hc none (.inl rfl) φ ts' _ a' w _ _ hst hk3)) fun e a2 w' hp => ?_)
            have hend : At φ ν L fn.ntmps hh.ro w a2 w' (fun _ h' => isNil h'.ds (k ⟨hh.ds, h'.ro, h'.next, h'.bl⟩)) → a2.defers = [] ∧ ∃ u1, (({ c₀ with mode := u' } : Frame) :: cs) = { c₀ with mode := u1 } :: cs ∧ ∃ v, (results fn a2.tmps).run P w' = .ok v w' ∧ DefPost φ ν hh w u' k (.returned v) u1 w' := by
              rintro ⟨φ', ts2, h2, hst2, hx, hro, hk4⟩
              obtain ⟨hds, hk5⟩ := isNil_true hk4
              refine ⟨hst2.dr.nil hds, u', rfl, packV [], ?_, rfl, φ', _, hst2.hr.ds hh.ds, hx, hro, rfl, hk5⟩
              refine run_results ?_
              rw [List.isEmpty_iff.1 hres]; rfl
            cases e with
            | normal => exact hend hp
            | ret => exact hend hp
            | exit id => obtain ⟨_, _, _, _, _, _, hk2⟩ := hp; cases hk2
            | goto l => exact hp.elim
            | panic chain => obtain ⟨_, _, _, _, _, _, _, _, _, _, hk2⟩ := hp; cases hk2
            | outgrown => exact hp.elim
          simp only [wpOpsS, h0]
          rw [if_pos (by simp [Region.wanted, hg]), hrun]
          simp only
          rcases hu with ⟨e1, e2, e3⟩ | ⟨e1, e2⟩
          · rw [show recoverD (c₀ :: cs) = none from by simp [recoverD, hc0, e1]]
            have hcc : ({ c₀ with mode := u' } : Frame) = c₀ := by rw [e3, ← e1, ← hc0]
            rw [hcc, e2] at key
            exact key
          · rw [show recoverD (c₀ :: cs) = some (v, ({ c₀ with mode := u' } : Frame) :: cs) from by simp [recoverD, hc0, e1, e2]]
            exact key
      · cases h
    · cases h
/-! ### the function that defers -/
def defK (g : FuncId) (dd : DefD) (cf : Fun) (ad : ADef) (h : H) (av : AV) (k : H → Bool) : Bool :=
  ADef.rec (motive := fun _ => Bool) (fun f args => vFn f fun fn fs cs => Fn.rec (motive := fun _ => Bool) (fun f => chk (Nat.beq f g) (dd cf (fs ++ (args ++ cs)) h av k)) (fun _ => false) (fun _ _ => false) (fun _ _ _ _ => false) (fun _ => false) fn) ad
def noneOne (l : List ADef) (x : Bool) (y : ADef → Bool) : Bool := List.rec (motive := fun _ => Bool) x (fun a t _ => isNil t (y a)) l
theorem noneOne_true {l : List ADef} {x : Bool} {y : ADef → Bool} (h : noneOne l x y = true) : (l = [] ∧ x = true) ∨ ∃ a, l = [a] ∧ y a = true := by
  cases l with
  | nil => exact .inl ⟨rfl, h⟩
  | cons a t =>
    obtain ⟨rfl, h⟩ := isNil_true (show isNil t (y a) = true from h)
    exact .inr ⟨a, rfl, h⟩
theorem DR.one {φ : Phi} {ν : Nu} {l : List ADef} {m : List Deferred} {a : ADef} (hl : l = [a]) (h : DR φ ν l m) : ∃ d, m = [d] ∧ DR1 φ ν a d := by
  subst hl
  match m, h with
  | [d], h => exact ⟨d, rfl, h.1⟩
  | d :: e :: m, h => exact h.2.elim
theorem defK_leaves {P : Program} {ν : Nu} {g : FuncId} {dd : DefD} (hd : DefGood P ν g dd) {cf : Fun} (hc : FunOk P ν cf) {fn : Func} {tmps : Array Value} {R : Ending → World → Prop} {φ : Phi} {h : H} {w : World} (hr : HR φ ν h w)
    {a : ADef} {d : Deferred} (h1 : DR1 φ ν a d) {av : AV} {v : Value} (hav : VR φ ν av v) {k : H → Bool} (hk : defK g dd cf a h av k = true) {u u' : FrameMode} (hu : RecStep u v u') (hs : settle u' = .returning)
    (hfin : ∀ φ' h' w', HR φ' ν h' w' → Ext h.ro φ w φ' w' → h'.ro = h.ro → h'.ds = h.ds → k h' = true → ∃ v, (results fn tmps).run P w' = .ok v w' ∧ R (.returned v) w') :
    Leaves P fn tmps R [d] u w := by
  obtain ⟨af, aargs⟩ := a
  rcases h1 with ⟨id0, p0, e0, hp0, hd0⟩ | ⟨f, fs, cs, xs, ys, zs, e1, h2, h3, h4, hde⟩
  · simp only at e0
    have hk' : (vFn af fun fn fs cs => Fn.rec (motive := fun _ => Bool) (fun f => chk (Nat.beq f g) (dd cf (fs ++ (aargs ++ cs)) h av k)) (fun _ => false) (fun _ _ => false) (fun _ _ _ _ => false) (fun _ => false) fn) = true := hk
    rw [e0] at hk'; cases hk'
  simp only at e1 h4
  have hk' : (vFn af fun fn fs cs => Fn.rec (motive := fun _ => Bool) (fun f => chk (Nat.beq f g) (dd cf (fs ++ (aargs ++ cs)) h av k)) (fun _ => false) (fun _ _ => false) (fun _ _ _ _ => false) (fun _ => false) fn) = true := hk
  rw [e1] at hk'
  cases f <;> first | (cases hk'; done) | skip
  rename_i f
  obtain ⟨c, hk2⟩ := chk_true (show chk (Nat.beq f g) (dd cf (fs ++ (aargs ++ cs)) h av k) = true from hk')
  have c := nbT c
  rw [c] at hde
  rw [hde]
  refine leaves_cons (f := g) (args := ⟨xs ++ (zs ++ ys)⟩) ?_ ?_ ?_
  · rcases hu with ⟨e, _, _⟩ | ⟨e, _⟩ <;> rw [e] <;> simp
  · have := hasBody_true hd.1 ⟨xs ++ (zs ++ ys)⟩ w
    simpa [invoke] using this
  · refine (hd.2 cf hc _ h av k hk2 φ w (xs ++ (zs ++ ys)) v hr (h2.append (h4.append h3)) hav u u' hu).mono fun e u'' w' hp => ?_
    cases e with
    | returned v0 =>
      obtain ⟨rfl, φ', h', hr', hx, hro, hds, hk3⟩ := hp
      obtain ⟨v1, hv1, hR1⟩ := hfin φ' h' w' hr' hx hro hds hk3
      show Leaves P fn tmps R [] (settle u'') w'
      rw [hs]
      exact ⟨v1, hv1, hR1⟩
    | panicked ch => exact hp.elim
    | outgrown => exact hp.elim
def mkFunD (P : Program) (mk : MkCode) (mkV : (L N : Nat) → MkV L) (f g : FuncId) (r : FnD → Bool) : Bool :=
  match P.funcs[f]? with
  | none => false
  | some fn => match fn.body with
    | none => false
    | some c => bif Nat.ble fn.ntmps (4 ^ levels fn.ntmps) && Nat.ble (fn.params.size + fn.nfree) fn.ntmps && !(fn.name == "runtime.NumGoroutine") then
        (fun L => mkDef P mk mkV g fun dd => mk false L fn.ntmps c fun d => mkRess P L fn.ntmps fn.results.toList fun res => mkArgs L (fn.params.size + fn.nfree) 0 fun ent => (fun unk =>
          r fun cf args h kr kp => ent args unk fun ts => d cf ts ⟨[], h.ro, h.next, h.bl⟩
            (fun ts h' => noneOne h'.ds (res ts h' fun l => packK (isOneL fn.results.toList.length) l fun av => kr av ⟨h.ds, h'.ro, h'.next, h'.bl⟩)
              fun a => defK g dd cf a ⟨[], h'.ro, h'.next, h'.bl⟩ .nili fun h' => res ts h' fun l => packK (isOneL fn.results.toList.length) l fun av => kr av ⟨h.ds, h'.ro, h'.next, h'.bl⟩)
            ⟨fun _ _ _ => false, fun ts h' => noneOne h'.ds (res ts h' fun l => packK (isOneL fn.results.toList.length) l fun av => kr av ⟨h.ds, h'.ro, h'.next, h'.bl⟩)
              fun a => defK g dd cf a ⟨[], h'.ro, h'.next, h'.bl⟩ .nili fun h' => res ts h' fun l => packK (isOneL fn.results.toList.length) l fun av => kr av ⟨h.ds, h'.ro, h'.next, h'.bl⟩,
             fun ts av h' => noneOne h'.ds (kp av ⟨h.ds, h'.ro, h'.next, h'.bl⟩)
              fun a => defK g dd cf a ⟨[], h'.ro, h'.next, h'.bl⟩ av fun h' => res ts h' fun l => packK (isOneL fn.results.toList.length) l fun av => kr av ⟨h.ds, h'.ro, h'.next, h'.bl⟩⟩) (FT.unk L)) (levels fn.ntmps) else false
theorem mkFunD_true {P : Program} {ν : Nu} {mk : MkCode} (hmk : GoodMk P ν mk) {mkV : (L N : Nat) → MkV L} (hV : ∀ L N o r, mkV L N o r = true → ∃ e, GoodV P ν L N o e ∧ r e = true) {f g : FuncId} {r : FnD → Bool} (h : mkFunD P mk mkV f g r = true) :
    ∃ d, FnGood P ν f d ∧ r d = true := by
  unfold mkFunD at h
  split at h
  · cases h
  · rename_i fn hf
    split at h
    · cases h
    · rename_i c hb
      cases hcond : (Nat.ble fn.ntmps (4 ^ levels fn.ntmps) && Nat.ble (fn.params.size + fn.nfree) fn.ntmps && !(fn.name == "runtime.NumGoroutine")) with
      | false => rw [hcond] at h; cases h
      | true =>
        rw [hcond, cond_true] at h
        simp only [Bool.and_eq_true, Bool.not_eq_true'] at hcond
        obtain ⟨⟨hN, hm⟩, hname⟩ := hcond
        have hN := nlT hN
        have hm := nlT hm
        generalize levels fn.ntmps = L at h hN
        obtain ⟨dd, hdd, h⟩ := mkDef_true hmk hV h
        obtain ⟨d, hd, h⟩ := hmk _ _ _ _ _ h
        obtain ⟨res, hres, h⟩ := mkRess_true (ν := ν) h
        obtain ⟨ent, hent, h⟩ := mkArgs_true h
        refine ⟨_, fun cf hc args h0 kr kp hk φ w vs hr hv => .inl ⟨callFunc_enter hf hb hname _ _, ?_⟩, h⟩
        obtain ⟨ts, hal, hfr, hk1⟩ := hent φ ν fn.ntmps args vs _ (Array.replicate fn.ntmps undef) _ hN (by omega) hv (FR.enter hr.gp ν L fn.ntmps) hk
        have hvl := hv.length
        rw [enter_tmps vs fn.ntmps (by omega)] at hfr
        refine calls_of_wp_defers hf hb (wp_mono (wpW_none.1 (hd cf hc none (.inl rfl) φ ts ⟨[], h0.ro, h0.next, h0.bl⟩ ⟨_, []⟩ w _ _ ⟨hfr, hr.ds [], trivial⟩ hk1)) fun e a' w' hp => ?_)
        -- the results, read in a heap behind
        have fin : ∀ φ1 ts1 h1 w1, FR φ1 ν L fn.ntmps ts1 a'.tmps → HR φ1 ν h1 w1 → Ext h0.ro φ w φ1 w1 → h1.ro = h0.ro → h1.ds = [] → res ts1 h1 (fun l => packK (isOneL fn.results.toList.length) l fun av => kr av ⟨h0.ds, h1.ro, h1.next, h1.bl⟩) = true →
            ∃ v, (results fn a'.tmps).run P w1 = .ok v w1 ∧ FPost φ ν h0.ro w h0.ds kr kp (.returned v) w1 := by
          intro φ1 ts1 h1 w1 hfr1 hr1 hx hro hds1 hk4
          obtain ⟨rs, avs, hrun, hvs, hl, hk5⟩ := hres φ1 ts1 h1 ⟨a'.tmps, []⟩ w1 _ ⟨hfr1, hr1, by rw [hds1]; trivial⟩ hk4
          obtain ⟨av, hav, hk6⟩ := packK_true hvs hl hk5
          exact ⟨_, run_results hrun, φ1, av, _, hav, hr1.ds h0.ds, hx, hro, rfl, hk6⟩
        have hend : At φ ν L fn.ntmps h0.ro w a' w' (fun ts h' => noneOne h'.ds (res ts h' fun l => packK (isOneL fn.results.toList.length) l fun av => kr av ⟨h0.ds, h'.ro, h'.next, h'.bl⟩)
              fun a => defK g dd cf a ⟨[], h'.ro, h'.next, h'.bl⟩ .nili fun h' => res ts h' fun l => packK (isOneL fn.results.toList.length) l fun av => kr av ⟨h0.ds, h'.ro, h'.next, h'.bl⟩) →
            Leaves P fn a'.tmps (FPost φ ν h0.ro w h0.ds kr kp) a'.defers .returning w' := by
          rintro ⟨φ', ts', h', hst, hx, hro, hk2⟩
          rcases noneOne_true hk2 with ⟨hds, hk3⟩ | ⟨ad, hds, hk3⟩
          · rw [hst.dr.nil hds]
            exact fin φ' ts' h' w' hst.fr hst.hr hx hro hds hk3
          · obtain ⟨d1, hd1, hdr⟩ := hst.dr.one hds
            rw [hd1]
            refine defK_leaves hdd hc (hst.hr.ds []) hdr .nili hk3 (.inl ⟨rfl, rfl, rfl⟩) rfl fun φ2 h2 w2 hr2 hx2 hro2 hds2 hk4 => ?_
            have hx2' : Ext h0.ro φ' w' φ2 w2 := hro ▸ hx2
            exact fin φ2 ts' h2 w2 (hst.fr.mono hx2.le) hr2 (hx.trans hx2') (hro2.trans hro) hds2 hk4
        cases e with
        | normal => exact hend hp
        | ret => exact hend hp
        | exit id => obtain ⟨_, _, _, _, _, _, hk2⟩ := hp; cases hk2
        | goto l => exact hp.elim
        | panic chain =>
          obtain ⟨φ', ts', h', v, av, hch, hvr, hst, hx, hro, hk2⟩ := hp
          show Leaves P fn a'.tmps (FPost φ ν h0.ro w h0.ds kr kp) a'.defers (.panicking chain) w'
          rcases noneOne_true hk2 with ⟨hds, hk3⟩ | ⟨ad, hds, hk3⟩
          · rw [hst.dr.nil hds]
            exact ⟨φ', av, _, v, hch, hvr, hst.hr.ds h0.ds, hx, hro, rfl, hk3⟩
          · obtain ⟨d1, hd1, hdr⟩ := hst.dr.one hds
            rw [hd1]
            refine defK_leaves hdd hc (hst.hr.ds []) hdr hvr hk3 (.inr ⟨by rw [hch], rfl⟩) rfl fun φ2 h2 w2 hr2 hx2 hro2 hds2 hk4 => ?_
            have hx2' : Ext h0.ro φ' w' φ2 w2 := hro ▸ hx2
            exact fin φ2 ts' h2 w2 (hst.fr.mono hx2.le) hr2 (hx.trans hx2') (hro2.trans hro) hds2 hk4
        | outgrown => exact hp.elim
end
end Go.Abs

/-
  A verified evaluator: the iterator of strings.SplitSeq by contract.
-/
namespace Go.Abs
noncomputable section
/-! ### walking operations one by one -/
section
variable {n : Nat} {P : Program} {ops : Array Oper} {Q : Exit → Act → World → Prop} {i : Nat} {rest : List Nat} {A : Act} {W W' : World} {o : Oper}
theorem stepV (ho : ops[i]? = some o) (hg : o.guard = none) {v : Value} (hr : (execOp A.eval o).run P W = .ok (.value v) W') (h : wpOpsIn (FW none) n P ops Q rest (A.put o.dst v) W') : wpOpsIn (FW none) n P ops Q (i :: rest) A W := by
  simp only [wpOpsIn, ho]
  rw [if_pos (by simp [Region.wanted, hg])]
  refine ⟨fun _ _ => trivial, ?_⟩
  rw [show o.semAt (FW none).round A.eval = execOp A.eval o from rfl, hr]
  exact h
theorem stepS (ho : ops[i]? = some o) (hg : o.guard = none) (hr : (execOp A.eval o).run P W = .ok .skip W') (h : wpOpsIn (FW none) n P ops Q rest (A.put o.dst undef) W') : wpOpsIn (FW none) n P ops Q (i :: rest) A W := by
  simp only [wpOpsIn, ho]
  rw [if_pos (by simp [Region.wanted, hg])]
  refine ⟨fun _ _ => trivial, ?_⟩
  rw [show o.semAt (FW none).round A.eval = execOp A.eval o from rfl, hr]
  exact h
theorem stepC (ho : ops[i]? = some o) (hg : o.guard = none) {f : FuncId} {args : Array Value} (hr : (execOp A.eval o).run P W = .ok (.enter f args) W')
    (h : Calls P f args W' fun | .returned v, w => wpOpsIn (FW none) n P ops Q rest (A.put o.dst v) w | .panicked ch, w => Q (.panic ch) A w | .outgrown, _ => LetsOut Q) : wpOpsIn (FW none) n P ops Q (i :: rest) A W := by
  simp only [wpOpsIn, ho]
  rw [if_pos (by simp [Region.wanted, hg])]
  refine ⟨fun _ _ => trivial, ?_⟩
  rw [show o.semAt (FW none).round A.eval = execOp A.eval o from rfl, hr, Oper.uponIn_enter]
  refine ⟨fun h => (by simp [Fence.wide] at h), callsW.2 (h.mono fun e w hp => ?_)⟩
  cases e <;> exact hp
theorem stepY (ho : ops[i]? = some o) (hg : o.guard = none) {l : Nat} {f : FuncId} {tmps : Array Value} {asg body : Code} (hr : (execOp A.eval o).run P W = .ok (.round l f tmps asg body) W')
    (h : RoundIn (FW none) (n - 1) P l f tmps asg body W' fun | .returned v, w => wpOpsIn (FW none) n P ops Q rest (A.put o.dst v) w | .panicked ch, w => Q (.panic ch) A w | .outgrown, _ => LetsOut Q) : wpOpsIn (FW none) n P ops Q (i :: rest) A W := by
  simp only [wpOpsIn, ho]
  rw [if_pos (by simp [Region.wanted, hg])]
  refine ⟨fun _ _ => trivial, ?_⟩
  rw [show o.semAt (FW none).round A.eval = execOp A.eval o from rfl, hr, Oper.uponIn_round]
  refine ⟨fun h => (by simp [Fence.wide] at h), h.mono fun e w hp => ?_⟩
  cases e <;> exact hp
end
theorem eval_put_same {A : Act} {d : Tmp} (v : Value) (h : d < A.tmps.size) : (A.put (some d) v).eval (.tmp d) = v := by simp [Act.put, Act.eval, h]
theorem eval_put_ne {A : Act} {d t : Tmp} (v : Value) (h : d ≠ t) : (A.put (some d) v).eval (.tmp t) = A.eval (.tmp t) := by
  simp [Act.put, Act.eval, Array.getElem?_setIfInBounds_ne h]
abbrev OKey := Option Tmp × Op × Option (Nat × Bool)
def okey (o : Oper) : OKey := (o.dst, o.op, o.guard)
theorem key_at {ops : Array Oper} {l : List OKey} (h : ops.toList.map okey = l) (i : Nat) {d : Option Tmp} {op : Op} {g : Option (Nat × Bool)} (hi : l[i]? = some (d, op, g)) : ∃ o, ops[i]? = some o ∧ o.dst = d ∧ o.op = op ∧ o.guard = g := by
  rw [← h, List.getElem?_map] at hi
  cases ho : ops.toList[i]? with
  | none => rw [ho] at hi; cases hi
  | some o =>
    rw [ho] at hi
    simp only [Option.map_some, Option.some.injEq, okey, Prod.mk.injEq] at hi
    exact ⟨o, by simpa using ho, hi.1, hi.2.1, hi.2.2⟩
theorem run_load1 {P : Program} {ρ : Operand → Value} {o : Oper} {t : TypeId} {x : Operand} {b : Nat} {d : TypeDesc} {v : Value} {W : World} (ho : o.op = .load t x) (hd : P.underlying t = some d) (hag : isAggD d = false)
    (hx : ρ x = .pointer (some ⟨b, 0, none⟩)) (hc : W.cell? ⟨b, 0, none⟩ = some v) : (execOp ρ o).run P W = .ok (.value v) W := by
  unfold execOp; rw [ho]
  simp [hx, Instr.loadAt, Instr.sureAddr, run_loadVar1 hd hag hc]
theorem run_move1 {P : Program} {ρ : Operand → Value} {o : Oper} {x : Operand} {W : World} (ho : o.op = .move x ∨ o.op = .assign x) : (execOp ρ o).run P W = .ok (.value (ρ x)) W := by
  rcases ho with ho | ho <;> (unfold execOp; rw [ho]; rfl)
theorem run_call1 {P : Program} {A : Act} {o : Oper} {f : FuncId} {args : Array Operand} {at_ : Array TypeId} {W : World} (ho : o.op = .call { callee := .value (.func f), args, argTypes := at_ }) (hb : hasBody P f = true) :
    (execOp A.eval o).run P W = .ok (.enter f (args.map A.eval)) W := by
  rw [execOp_call ho, resolve_value (g := .func f) (fs := #[]) (cs := #[]) rfl]
  simp [hasBody_true hb]
theorem run_yield1 {P : Program} {ρ : Operand → Value} {o : Oper} {t : Tmp} {x : Operand} {at_ : Array TypeId} {W : World} {l : Nat} {R : Result Next} (ho : o.op = .call { callee := .value (.tmp t), args := #[x], argTypes := at_ }) (ht : ρ (.tmp t) = .func (.yield l) #[] #[])
    (hy : (Instr.yield l #[ρ x]).run P W = R) : (execOp ρ o).run P W = R := by
  rw [execOp_call ho]
  simp [resolve, ht, Deferred.ofValue, invoke, hy]
theorem run_slice1 {P : Program} {ρ : Operand → Value} {o : Oper} {t : TypeId} {x : Operand} {lo hi : Option Operand} {s : ByteArray} {l h : Nat} {W : World} (ho : o.op = .slice t x lo hi none) (hd : P.underlying t = some .string)
    (hx : ρ x = .string s) (hl : Bd (lo.map ρ) 0 l) (hh : Bd (hi.map ρ) s.size h) (h1 : l ≤ h) (h2 : h ≤ s.size) : (execOp ρ o).run P W = .ok (.value (.string (s.extract l h))) W := by
  unfold execOp; rw [ho]
  have hb : (Instr.sliceBounds false s.size s.size (lo.map ρ) (hi.map ρ) none).run P W = .ok (l, h, s.size) W := run_sliceBounds (by simp) rfl hh hl (Nat.le_refl _) h2 h1
  simp [hx, Instr.sliceAt, Instr.slice, run_underlying' hd, hb]
theorem run_len1 {P : Program} {ρ : Operand → Value} {o : Oper} {t : TypeId} {x : Operand} {s : ByteArray} {W : World} (ho : o.op = .call { callee := .builtin .len, args := #[x], argTypes := #[t] }) (hd : P.underlying t = some .string) (hx : ρ x = .string s) :
    (execOp ρ o).run P W = .ok (.value (goInt s.size)) W := by
  rw [execOp_builtin ho]
  simp [builtin, Builtin.len_, hx, run_underlying' hd]
theorem run_bin1 {P : Program} {ρ : Operand → Value} {o : Oper} {op : BinOp} {t yt : TypeId} {x y : Operand} {a b : Int} {v : Value} {W : World} (ho : o.op = .binOp op t x y yt) (hx : ρ x = .int .i64 a) (hy : ρ y = .int .i64 b)
    (hb : (binOp op t (.int .i64 a) (.int .i64 b)).run P W = .ok v W) : (execOp ρ o).run P W = .ok (.value v) W :=
  execOp_bin ho (by rw [hx, hy]; exact eqGuard_plain _ _ _ _ _ _ rfl) (by rw [hx, hy]; exact hb)
theorem run_store1 {P : Program} {ρ : Operand → Value} {o : Oper} {t : TypeId} {x y : Operand} {inf : TypeInfo} {b : Nat} {v u : Value} {W : World} (ho : o.op = .store t x y) (hi : P.info? t = some inf) (hs : inf.size = 1)
    (hx : ρ x = .pointer (some ⟨b, 0, none⟩)) (hy : ρ y = v) (h1 : v.cells = #[v]) (h2 : v.oneCell' = true) (hc : W.cell? ⟨b, 0, none⟩ = some u) (hf : W.frozen? ⟨b, 0, none⟩ = false) : (execOp ρ o).run P W = .ok .skip (W.setCell ⟨b, 0, none⟩ v) := by
  unfold execOp; rw [ho]
  have hst : (storeCells ⟨b, 0, none⟩ [v]).run P W = .ok () (W.setCell ⟨b, 0, none⟩ v) := by
    cases v <;> first | (cases h2; done) | simp [storeCells, store, Sem.run, addr_add, hc, hf]
  simp [hx, hy, Instr.storeAt, Instr.sureAddr, storeVar, h1, run_sizeOf' hi, hs, hst]
/-! ### the iterator's text -/
structure SplitShape (P : Program) (g : FuncId) (S I B fi : Nat) : Prop where
  ex : ∃ fn i0 r0 X i5 r5 i6 r6 i7 r7 i8 r8 i9 r9 i10 r10, P.funcs[g]? = some fn ∧ (fn.name == "runtime.NumGoroutine") = false ∧ fn.ntmps = 52 ∧ fn.results = #[] ∧
    fn.body = some (.seq (.seq (.region i0 r0 false) (.cond (.tmp 11) X .skip)) (.seq (.block 2 (.loop (.block 3 (.seq (.region i5 r5 false) (.seq (.seq (.region i6 r6 false) (.cond (.tmp 33) (.exit 2) .skip))
      (.seq (.region i7 r7 false) (.seq (.seq (.region i8 r8 false) (.cond (.tmp 42) .ret .skip)) (.region i9 r9 false)))))))) (.region i10 r10 false))) ∧
    r0.toList.map okey = [(some 9, .load S (.tmp 1), none), (some 10, .call { callee := .builtin .len, args := #[.tmp 9], argTypes := #[S] }, none), (some 11, .binOp .eql I (.tmp 10) (.const (.int .i64 0)) I, none)] ∧
    r5.toList.map okey = [(some 29, .load S (.tmp 2), none), (some 30, .load S (.tmp 1), none), (some 31, .call { callee := .value (.func fi), args := #[.tmp 29, .tmp 30], argTypes := #[S, S] }, none), (some 7, .assign (.tmp 31), none)] ∧
    r6.toList.map okey = [(some 32, .move (.tmp 7), none), (some 33, .binOp .lss I (.tmp 32) (.const (.int .i64 0)) I, none)] ∧
    r7.toList.map okey = [(some 34, .load S (.tmp 2), none), (some 35, .move (.tmp 7), none), (some 36, .load I (.tmp 3), none), (some 37, .binOp .add I (.tmp 35) (.tmp 36) I, none), (some 38, .slice S (.tmp 34) none (some (.tmp 37)) none, none), (some 8, .assign (.tmp 38), none)] ∧
    r8.toList.map okey = [(some 39, .move (.tmp 0), none), (some 40, .move (.tmp 8), none), (some 41, .call { callee := .value (.tmp 39), args := #[.tmp 40], argTypes := #[S] }, none), (some 42, .unOp .not B (.tmp 41), none)] ∧
    r9.toList.map okey = [(some 43, .load S (.tmp 2), none), (some 44, .move (.tmp 7), none), (some 45, .load S (.tmp 1), none), (some 46, .call { callee := .builtin .len, args := #[.tmp 45], argTypes := #[S] }, none), (some 47, .binOp .add I (.tmp 44) (.tmp 46) I, none),
      (some 48, .slice S (.tmp 43) (some (.tmp 47)) none none, none), (none, .store S (.tmp 2) (.tmp 48), none)] ∧
    r10.toList.map okey = [(some 49, .move (.tmp 0), none), (some 50, .load S (.tmp 2), none), (some 51, .call { callee := .value (.tmp 49), args := #[.tmp 50], argTypes := #[S] }, none)]
  tS : P.underlying S = some .string
  tI : P.underlying I = some (.int .i64)
  iS : ∃ inf, P.info? S = some inf ∧ inf.size = 1
  fi : hasBody P fi = true
/-! ### the walk -/
structure SInv (a b c l : Nat) (A : Act) : Prop where
  sz : A.tmps.size = 52
  t0 : A.eval (.tmp 0) = .func (.yield l) #[] #[]
  t1 : A.eval (.tmp 1) = .pointer (some ⟨a, 0, none⟩)
  t2 : A.eval (.tmp 2) = .pointer (some ⟨b, 0, none⟩)
  t3 : A.eval (.tmp 3) = .pointer (some ⟨c, 0, none⟩)
  df : A.defers = []
theorem SInv.put {a b c l : Nat} {A : Act} (h : SInv a b c l A) {d : Tmp} (hd : 4 ≤ d) (v : Value) : SInv a b c l (A.put (some d) v) := by
  refine ⟨by rw [size_put]; exact h.sz, ?_, ?_, ?_, ?_, h.df⟩
  · rw [eval_put_ne _ (fun e => by rw [e] at hd; exact absurd hd (by decide))]; exact h.t0
  · rw [eval_put_ne _ (fun e => by rw [e] at hd; exact absurd hd (by decide))]; exact h.t1
  · rw [eval_put_ne _ (fun e => by rw [e] at hd; exact absurd hd (by decide))]; exact h.t2
  · rw [eval_put_ne _ (fun e => by rw [e] at hd; exact absurd hd (by decide))]; exact h.t3
structure SRd (P : Program) (fi a b c : Nat) (sep s : ByteArray) (W : World) : Prop where
  ca : W.cell? ⟨a, 0, none⟩ = some (.string sep)
  cb : W.cell? ⟨b, 0, none⟩ = some (.string s)
  cc : W.cell? ⟨c, 0, none⟩ = some (.int .i64 0)
  fz : W.frozen? ⟨b, 0, none⟩ = false
  sz : s.size < 4294967281
  ix : Calls P fi #[.string s, .string sep] W fun e W' => e = .returned (.int .i64 (Lib.index s.data.toList sep.data.toList)) ∧ W' = W
theorem range_key {ops : Array Oper} {l : List OKey} (h : ops.toList.map okey = l) : List.range ops.size = List.range l.length := by
  rw [← h, List.length_map, Array.length_toList]
def YRound (P : Program) (l : Nat) (x : ByteArray) (W : World) (T F : World → Prop) : Prop :=
  YieldAt (FW none) 0 P l #[.string x] W fun e W' => match e with
    | .returned v => (v = .bool true ∧ T W') ∨ (v = .bool false ∧ F W')
    | .outgrown => False
    | .panicked _ => False
def Fx (A : Act) (l : List (Nat × Value)) : Prop := A.tmps.size = 52 ∧ ∀ (i : Nat) (t : Nat) (v : Value), l[i]? = some (t, v) → A.eval (.tmp t) = v
theorem Fx.get {A : Act} {l : List (Nat × Value)} (h : Fx A l) (i : Nat) {t : Nat} {v : Value} (e : l[i]? = some (t, v)) : A.eval (.tmp t) = v := h.2 i t v e
theorem Fx.put {A : Act} {l : List (Nat × Value)} (h : Fx A l) (d : Nat) (v : Value) (hd : Nat.blt d 52 = true) (hn : l.all (fun p => !Nat.beq p.1 d) = true) : Fx (A.put (some d) v) ((d, v) :: l) := by
  refine ⟨by rw [size_put]; exact h.1, fun i t u e => ?_⟩
  cases i with
  | zero =>
    simp at e
    obtain ⟨rfl, rfl⟩ := e
    exact eval_put_same _ (by rw [h.1]; simpa [Nat.blt_eq] using hd)
  | succ i =>
    have e' : l[i]? = some (t, u) := by simpa using e
    have hne : d ≠ t := by
      rintro rfl
      have := List.all_eq_true.1 hn _ (List.mem_of_getElem? e')
      simp at this
    rw [eval_put_ne _ hne]
    exact h.2 i t u e'
theorem put_df (A : Act) (d : Option Tmp) (v : Value) : (A.put d v).defers = A.defers := by cases d <;> rfl
theorem SInv.fx {a b c l : Nat} {A : Act} (h : SInv a b c l A) : Fx A [(0, .func (.yield l) #[] #[]), (1, .pointer (some ⟨a, 0, none⟩)), (2, .pointer (some ⟨b, 0, none⟩)), (3, .pointer (some ⟨c, 0, none⟩))] := by
  refine ⟨h.sz, fun i t v e => ?_⟩
  match i, e with
  | 0, e => simp at e; obtain ⟨rfl, rfl⟩ := e; exact h.t0
  | 1, e => simp at e; obtain ⟨rfl, rfl⟩ := e; exact h.t1
  | 2, e => simp at e; obtain ⟨rfl, rfl⟩ := e; exact h.t2
  | 3, e => simp at e; obtain ⟨rfl, rfl⟩ := e; exact h.t3
  | i + 4, e => simp at e
section
variable {P : Program} {S I B fi a b c l : Nat} {sep s : ByteArray} {A : Act} {W : World} {Q : Exit → Act → World → Prop}
theorem walk5 {i5 : Nat} {r5 : Array Oper}
    (k5 : r5.toList.map okey = [(some 29, .load S (.tmp 2), none), (some 30, .load S (.tmp 1), none), (some 31, .call { callee := .value (.func fi), args := #[.tmp 29, .tmp 30], argTypes := #[S, S] }, none), (some 7, .assign (.tmp 31), none)])
    (tS : P.underlying S = some .string) (hfi : hasBody P fi = true) (hI : SInv a b c l A) (hr : SRd P fi a b c sep s W)
    (h : ∀ A', SInv a b c l A' → A'.eval (.tmp 7) = .int .i64 (Lib.index s.data.toList sep.data.toList) → Q .normal A' W) : (Code.region i5 r5 false).wpIn (FW none) 1 P Q A W := by
  refine wpIn_region ?_
  rw [range_key k5]
  obtain ⟨o0, h0, d0, p0, g0⟩ := key_at k5 0 rfl
  obtain ⟨o1, h1, d1, p1, g1⟩ := key_at k5 1 rfl
  obtain ⟨o2, h2, d2, p2, g2⟩ := key_at k5 2 rfl
  obtain ⟨o3, h3, d3, p3, g3⟩ := key_at k5 3 rfl
  refine stepV h0 g0 (run_load1 p0 tS rfl hI.t2 hr.cb) ?_
  have f0 := hI.fx.put 29 (.string s) rfl rfl
  have I0 := hI.put (d := 29) (by decide) (.string s)
  rw [d0]
  generalize A.put (some 29) (.string s) = A0 at f0 I0 ⊢
  refine stepV h1 g1 (run_load1 p1 tS rfl I0.t1 hr.ca) ?_
  have f1 := f0.put 30 (.string sep) rfl rfl
  have I1 := I0.put (d := 30) (by decide) (.string sep)
  rw [d1]
  generalize A0.put (some 30) (.string sep) = A1 at f1 I1 ⊢
  refine stepC h2 g2 (run_call1 p2 hfi) ?_
  have e1 : A1.eval (.tmp 29) = .string s := f1.get 1 rfl
  have e2 : A1.eval (.tmp 30) = .string sep := f1.get 0 rfl
  rw [show (#[Operand.tmp 29, .tmp 30] : Array Operand).map A1.eval = #[.string s, .string sep] from by simp [e1, e2]]
  refine hr.ix.mono fun e W' hp => ?_
  obtain ⟨rfl, rfl⟩ := hp
  have f2 := f1.put 31 (.int .i64 (Lib.index s.data.toList sep.data.toList)) rfl rfl
  have I2 := I1.put (d := 31) (by decide) (.int .i64 (Lib.index s.data.toList sep.data.toList))
  simp only [d2]
  generalize A1.put (some 31) (.int .i64 (Lib.index s.data.toList sep.data.toList)) = A2 at f2 I2 ⊢
  refine stepV h3 g3 (run_move1 (.inr p3)) ?_
  rw [d3, f2.get 0 rfl]
  exact h _ (I2.put (by decide) _) (eval_put_same _ (by rw [I2.sz]; decide))
theorem walk6 {i6 : Nat} {r6 : Array Oper} {x : Int}
    (k6 : r6.toList.map okey = [(some 32, .move (.tmp 7), none), (some 33, .binOp .lss I (.tmp 32) (.const (.int .i64 0)) I, none)])
    (hI : SInv a b c l A) (h7 : A.eval (.tmp 7) = .int .i64 x)
    (h : ∀ A', SInv a b c l A' → A'.eval (.tmp 7) = .int .i64 x → A'.eval (.tmp 33) = .bool (decide (x < 0)) → Q .normal A' W) : (Code.region i6 r6 false).wpIn (FW none) 1 P Q A W := by
  refine wpIn_region ?_
  rw [range_key k6]
  obtain ⟨o0, h0, d0, p0, g0⟩ := key_at k6 0 rfl
  obtain ⟨o1, h1, d1, p1, g1⟩ := key_at k6 1 rfl
  have f : Fx A [(7, .int .i64 x)] := ⟨hI.sz, fun i t v e => by
    match i, e with
    | 0, e => simp at e; obtain ⟨rfl, rfl⟩ := e; exact h7
    | i + 1, e => simp at e⟩
  refine stepV h0 g0 (run_move1 (.inl p0)) ?_
  rw [d0, h7]
  have f0 := f.put 32 (.int .i64 x) rfl rfl
  have I0 := hI.put (d := 32) (by decide) (.int .i64 x)
  generalize A.put (some 32) (.int .i64 x) = A0 at f0 I0 ⊢
  refine stepV h1 g1 (run_bin1 p1 (f0.get 0 rfl) rfl (v := .bool (decide (x < 0))) (by simp [binOp, Op.intCmp])) ?_
  rw [d1]
  have f1 := f0.put 33 (.bool (decide (x < 0))) rfl rfl
  exact h _ (I0.put (by decide) _) (f1.get 2 rfl) (f1.get 0 rfl)
theorem walk7 {i7 : Nat} {r7 : Array Oper} {x : Nat}
    (k7 : r7.toList.map okey = [(some 34, .load S (.tmp 2), none), (some 35, .move (.tmp 7), none), (some 36, .load I (.tmp 3), none), (some 37, .binOp .add I (.tmp 35) (.tmp 36) I, none), (some 38, .slice S (.tmp 34) none (some (.tmp 37)) none, none), (some 8, .assign (.tmp 38), none)])
    (tS : P.underlying S = some .string) (tI : P.underlying I = some (.int .i64)) (hI : SInv a b c l A) (hr : SRd P fi a b c sep s W) (h7 : A.eval (.tmp 7) = .int .i64 x) (hx : x ≤ s.size)
    (h : ∀ A', SInv a b c l A' → A'.eval (.tmp 7) = .int .i64 x → A'.eval (.tmp 8) = .string (s.extract 0 x) → Q .normal A' W) : (Code.region i7 r7 false).wpIn (FW none) 1 P Q A W := by
  refine wpIn_region ?_
  rw [range_key k7]
  obtain ⟨o0, h0, d0, p0, g0⟩ := key_at k7 0 rfl
  obtain ⟨o1, h1, d1, p1, g1⟩ := key_at k7 1 rfl
  obtain ⟨o2, h2, d2, p2, g2⟩ := key_at k7 2 rfl
  obtain ⟨o3, h3, d3, p3, g3⟩ := key_at k7 3 rfl
  obtain ⟨o4, h4, d4, p4, g4⟩ := key_at k7 4 rfl
  obtain ⟨o5, h5, d5, p5, g5⟩ := key_at k7 5 rfl
  have hsz := hr.sz
  have f : Fx A [(7, .int .i64 x)] := ⟨hI.sz, fun i t v e => by
    match i, e with
    | 0, e => simp at e; obtain ⟨rfl, rfl⟩ := e; exact h7
    | i + 1, e => simp at e⟩
  refine stepV h0 g0 (run_load1 p0 tS rfl hI.t2 hr.cb) ?_
  rw [d0]
  have f0 := f.put 34 (.string s) rfl rfl
  have I0 := hI.put (d := 34) (by decide) (.string s)
  generalize A.put (some 34) (.string s) = A0 at f0 I0 ⊢
  refine stepV h1 g1 (run_move1 (.inl p1)) ?_
  rw [d1, f0.get 1 rfl]
  have f1 := f0.put 35 (.int .i64 x) rfl rfl
  have I1 := I0.put (d := 35) (by decide) (.int .i64 x)
  generalize A0.put (some 35) (.int .i64 x) = A1 at f1 I1 ⊢
  refine stepV h2 g2 (run_load1 p2 tI rfl I1.t3 hr.cc) ?_
  rw [d2]
  have f2 := f1.put 36 (.int .i64 0) rfl rfl
  have I2 := I1.put (d := 36) (by decide) (.int .i64 0)
  generalize A1.put (some 36) (.int .i64 0) = A2 at f2 I2 ⊢
  refine stepV h3 g3 (run_bin1 p3 (f2.get 1 rfl) (f2.get 0 rfl) (v := .int .i64 x) (by
    have hw := wrap_small .i64 (x : Int) (by omega) (by simp [hiK]; omega)
    simp [binOp, Op.intArith, hw])) ?_
  rw [d3]
  have f3 := f2.put 37 (.int .i64 x) rfl rfl
  have I3 := I2.put (d := 37) (by decide) (.int .i64 x)
  generalize A2.put (some 37) (.int .i64 x) = A3 at f3 I3 ⊢
  refine stepV h4 g4 (run_slice1 p4 tS (l := 0) (h := x) (f3.get 3 rfl) ?_ ?_ (Nat.zero_le _) hx) ?_
  · exact rfl
  · have e := f3.get 0 (t := 37) rfl
    show Bd (some (A3.eval (.tmp 37))) s.size x
    rw [e]; exact ⟨_, rfl⟩
  rw [d4]
  have f4 := f3.put 38 (.string (s.extract 0 x)) rfl rfl
  have I4 := I3.put (d := 38) (by decide) (.string (s.extract 0 x))
  generalize A3.put (some 38) (.string (s.extract 0 x)) = A4 at f4 I4 ⊢
  refine stepV h5 g5 (run_move1 (.inr p5)) ?_
  rw [d5, f4.get 0 rfl]
  have f5 := f4.put 8 (.string (s.extract 0 x)) rfl rfl
  exact h _ (I4.put (by decide) _) (f5.get 6 rfl) (f5.get 0 rfl)
theorem fx1 {A : Act} {t : Nat} {v : Value} (hs : A.tmps.size = 52) (h : A.eval (.tmp t) = v) : Fx A [(t, v)] := ⟨hs, fun i t' v' e => by
  match i, e with
  | 0, e => simp at e; obtain ⟨rfl, rfl⟩ := e; exact h
  | i + 1, e => simp at e⟩
theorem walk9 {i9 : Nat} {r9 : Array Oper} {x : Nat}
    (k9 : r9.toList.map okey = [(some 43, .load S (.tmp 2), none), (some 44, .move (.tmp 7), none), (some 45, .load S (.tmp 1), none), (some 46, .call { callee := .builtin .len, args := #[.tmp 45], argTypes := #[S] }, none), (some 47, .binOp .add I (.tmp 44) (.tmp 46) I, none),
      (some 48, .slice S (.tmp 43) (some (.tmp 47)) none none, none), (none, .store S (.tmp 2) (.tmp 48), none)])
    (tS : P.underlying S = some .string) (iS : ∃ inf, P.info? S = some inf ∧ inf.size = 1) (hI : SInv a b c l A) (hr : SRd P fi a b c sep s W) (h7 : A.eval (.tmp 7) = .int .i64 x) (hx : x + sep.size ≤ s.size)
    (h : ∀ A', SInv a b c l A' → Q .normal A' (W.setCell ⟨b, 0, none⟩ (.string (s.extract (x + sep.size) s.size)))) : (Code.region i9 r9 false).wpIn (FW none) 1 P Q A W := by
  refine wpIn_region ?_
  rw [range_key k9]
  obtain ⟨o0, h0, d0, p0, g0⟩ := key_at k9 0 rfl
  obtain ⟨o1, h1, d1, p1, g1⟩ := key_at k9 1 rfl
  obtain ⟨o2, h2, d2, p2, g2⟩ := key_at k9 2 rfl
  obtain ⟨o3, h3, d3, p3, g3⟩ := key_at k9 3 rfl
  obtain ⟨o4, h4, d4, p4, g4⟩ := key_at k9 4 rfl
  obtain ⟨o5, h5, d5, p5, g5⟩ := key_at k9 5 rfl
  obtain ⟨o6, h6, d6, p6, g6⟩ := key_at k9 6 rfl
  obtain ⟨inf, hi, hs1⟩ := iS
  have hsz := hr.sz
  have f := fx1 hI.sz h7
  refine stepV h0 g0 (run_load1 p0 tS rfl hI.t2 hr.cb) ?_
  rw [d0]
  have f0 := f.put 43 (.string s) rfl rfl
  have I0 := hI.put (d := 43) (by decide) (.string s)
  generalize A.put (some 43) (.string s) = A0 at f0 I0 ⊢
  refine stepV h1 g1 (run_move1 (.inl p1)) ?_
  rw [d1, f0.get 1 rfl]
  have f1 := f0.put 44 (.int .i64 x) rfl rfl
  have I1 := I0.put (d := 44) (by decide) (.int .i64 x)
  generalize A0.put (some 44) (.int .i64 x) = A1 at f1 I1 ⊢
  refine stepV h2 g2 (run_load1 p2 tS rfl I1.t1 hr.ca) ?_
  rw [d2]
  have f2 := f1.put 45 (.string sep) rfl rfl
  have I2 := I1.put (d := 45) (by decide) (.string sep)
  generalize A1.put (some 45) (.string sep) = A2 at f2 I2 ⊢
  refine stepV h3 g3 (run_len1 p3 tS (f2.get 0 rfl)) ?_
  rw [d3]
  have f3 := f2.put 46 (goInt sep.size) rfl rfl
  have I3 := I2.put (d := 46) (by decide) (goInt sep.size)
  generalize A2.put (some 46) (goInt sep.size) = A3 at f3 I3 ⊢
  refine stepV h4 g4 (run_bin1 p4 (f3.get 2 rfl) (f3.get 0 rfl) (v := .int .i64 ((x + sep.size : Nat) : Int)) (by
    have hw := wrap_small .i64 ((x : Int) + (sep.size : Int)) (by omega) (by simp [hiK]; omega)
    simp [binOp, Op.intArith, hw])) ?_
  rw [d4]
  have f4 := f3.put 47 (.int .i64 ((x + sep.size : Nat) : Int)) rfl rfl
  have I4 := I3.put (d := 47) (by decide) (.int .i64 ((x + sep.size : Nat) : Int))
  generalize A3.put (some 47) (.int .i64 ((x + sep.size : Nat) : Int)) = A4 at f4 I4 ⊢
  refine stepV h5 g5 (run_slice1 p5 tS (l := x + sep.size) (h := s.size) (f4.get 4 rfl) ?_ ?_ hx (Nat.le_refl _)) ?_
  · have e := f4.get 0 (t := 47) rfl
    show Bd (some (A4.eval (.tmp 47))) 0 (x + sep.size)
    rw [e]; exact ⟨_, rfl⟩
  · exact rfl
  rw [d5]
  have f5 := f4.put 48 (.string (s.extract (x + sep.size) s.size)) rfl rfl
  have I5 := I4.put (d := 48) (by decide) (.string (s.extract (x + sep.size) s.size))
  generalize A4.put (some 48) (.string (s.extract (x + sep.size) s.size)) = A5 at f5 I5 ⊢
  refine stepS h6 g6 (run_store1 p6 hi hs1 I5.t2 (f5.get 0 rfl) rfl rfl hr.cb hr.fz) ?_
  rw [d6]
  exact h _ I5
theorem walk8 {i8 : Nat} {r8 : Array Oper} {x : ByteArray} {T F : World → Prop}
    (k8 : r8.toList.map okey = [(some 39, .move (.tmp 0), none), (some 40, .move (.tmp 8), none), (some 41, .call { callee := .value (.tmp 39), args := #[.tmp 40], argTypes := #[S] }, none), (some 42, .unOp .not B (.tmp 41), none)])
    (hI : SInv a b c l A) {x7 : Value} (h7 : A.eval (.tmp 7) = x7) (h8 : A.eval (.tmp 8) = .string x) (hy : YRound P l x W T F)
    (h : ∀ A' t W', SInv a b c l A' → A'.eval (.tmp 7) = x7 → A'.eval (.tmp 42) = .bool (!t) → (t = true → T W') → (t = false → F W') → Q .normal A' W') : (Code.region i8 r8 false).wpIn (FW none) 1 P Q A W := by
  refine wpIn_region ?_
  rw [range_key k8]
  obtain ⟨o0, h0, d0, p0, g0⟩ := key_at k8 0 rfl
  obtain ⟨o1, h1, d1, p1, g1⟩ := key_at k8 1 rfl
  obtain ⟨o2, h2, d2, p2, g2⟩ := key_at k8 2 rfl
  obtain ⟨o3, h3, d3, p3, g3⟩ := key_at k8 3 rfl
  have f : Fx A [(7, x7), (8, .string x)] := ⟨hI.sz, fun i t v e => by
    match i, e with
    | 0, e => simp at e; obtain ⟨rfl, rfl⟩ := e; exact h7
    | 1, e => simp at e; obtain ⟨rfl, rfl⟩ := e; exact h8
    | i + 2, e => simp at e⟩
  refine stepV h0 g0 (run_move1 (.inl p0)) ?_
  rw [d0, hI.t0]
  have f0 := f.put 39 (.func (.yield l) #[] #[]) rfl rfl
  have I0 := hI.put (d := 39) (by decide) (.func (.yield l) #[] #[])
  generalize A.put (some 39) (.func (.yield l) #[] #[]) = A0 at f0 I0 ⊢
  refine stepV h1 g1 (run_move1 (.inl p1)) ?_
  rw [d1, f0.get 2 rfl]
  have f1 := f0.put 40 (.string x) rfl rfl
  have I1 := I0.put (d := 40) (by decide) (.string x)
  generalize A0.put (some 40) (.string x) = A1 at f1 I1 ⊢
  obtain ⟨fn, tmps, asg, body, hrun, hround⟩ := hy
  have e40 : A1.eval (.tmp 40) = .string x := f1.get 0 rfl
  refine stepY h2 g2 (run_yield1 p2 (f1.get 1 rfl) (by rw [e40]; exact hrun)) ?_
  refine hround.mono fun e W' hp => ?_
  cases e with
  | outgrown => exact hp.elim
  | panicked ch => exact hp.elim
  | returned v =>
    have key : ∀ t : Bool, v = .bool t → (t = true → T W') → (t = false → F W') → wpOpsIn (FW none) 1 P r8 Q [3] (A1.put o2.dst v) W' := by
      intro t ev ht hf
      rw [ev, d2]
      have f2 := f1.put 41 (.bool t) rfl rfl
      have I2 := I1.put (d := 41) (by decide) (.bool t)
      generalize A1.put (some 41) (.bool t) = A2 at f2 I2 ⊢
      have e41 : A2.eval (.tmp 41) = .bool t := f2.get 0 rfl
      refine stepV h3 g3 (show (execOp A2.eval o3).run P W' = .ok (.value (.bool (!t))) W' from by unfold execOp; rw [p3]; simp [e41, Op.unary]) ?_
      rw [d3]
      have f3 := f2.put 42 (.bool (!t)) rfl rfl
      exact h _ t W' (I2.put (by decide) _) (f3.get 4 rfl) (f3.get 0 rfl) ht hf
    rcases hp with ⟨e, hT⟩ | ⟨e, hF⟩
    · exact key true e (fun _ => hT) (fun h => by cases h)
    · exact key false e (fun h => by cases h) (fun _ => hF)
theorem walk10 {i10 : Nat} {r10 : Array Oper} {T F : World → Prop}
    (k10 : r10.toList.map okey = [(some 49, .move (.tmp 0), none), (some 50, .load S (.tmp 2), none), (some 51, .call { callee := .value (.tmp 49), args := #[.tmp 50], argTypes := #[S] }, none)])
    (tS : P.underlying S = some .string) (hI : SInv a b c l A) (hr : SRd P fi a b c sep s W) (hy : YRound P l s W T F)
    (h : ∀ A' W', SInv a b c l A' → (T W' ∨ F W') → Q .normal A' W') : (Code.region i10 r10 false).wpIn (FW none) 1 P Q A W := by
  refine wpIn_region ?_
  rw [range_key k10]
  obtain ⟨o0, h0, d0, p0, g0⟩ := key_at k10 0 rfl
  obtain ⟨o1, h1, d1, p1, g1⟩ := key_at k10 1 rfl
  obtain ⟨o2, h2, d2, p2, g2⟩ := key_at k10 2 rfl
  refine stepV h0 g0 (run_move1 (.inl p0)) ?_
  rw [d0, hI.t0]
  have f0 := hI.fx.put 49 (.func (.yield l) #[] #[]) rfl rfl
  have I0 := hI.put (d := 49) (by decide) (.func (.yield l) #[] #[])
  generalize A.put (some 49) (.func (.yield l) #[] #[]) = A0 at f0 I0 ⊢
  refine stepV h1 g1 (run_load1 p1 tS rfl I0.t2 hr.cb) ?_
  rw [d1]
  have f1 := f0.put 50 (.string s) rfl rfl
  have I1 := I0.put (d := 50) (by decide) (.string s)
  generalize A0.put (some 50) (.string s) = A1 at f1 I1 ⊢
  obtain ⟨fn, tmps, asg, body, hrun, hround⟩ := hy
  have e50 : A1.eval (.tmp 50) = .string s := f1.get 0 rfl
  refine stepY h2 g2 (run_yield1 p2 (f1.get 1 rfl) (by rw [e50]; exact hrun)) ?_
  refine hround.mono fun e W' hp => ?_
  cases e with
  | outgrown => exact hp.elim
  | panicked ch => exact hp.elim
  | returned v =>
    show wpOpsIn (FW none) 1 P r10 Q [] (A1.put o2.dst v) W'
    rw [d2]
    exact h _ W' (I1.put (by decide) _) (hp.imp (fun q => q.2) fun q => q.2)
theorem walk0 {i0 : Nat} {r0 : Array Oper}
    (k0 : r0.toList.map okey = [(some 9, .load S (.tmp 1), none), (some 10, .call { callee := .builtin .len, args := #[.tmp 9], argTypes := #[S] }, none), (some 11, .binOp .eql I (.tmp 10) (.const (.int .i64 0)) I, none)])
    (tS : P.underlying S = some .string) (hI : SInv a b c l A) (hr : SRd P fi a b c sep s W)
    (h : ∀ A', SInv a b c l A' → A'.eval (.tmp 11) = .bool ((sep.size : Int) == 0) → Q .normal A' W) : (Code.region i0 r0 false).wpIn (FW none) 1 P Q A W := by
  refine wpIn_region ?_
  rw [range_key k0]
  obtain ⟨o0, h0, d0, p0, g0⟩ := key_at k0 0 rfl
  obtain ⟨o1, h1, d1, p1, g1⟩ := key_at k0 1 rfl
  obtain ⟨o2, h2, d2, p2, g2⟩ := key_at k0 2 rfl
  refine stepV h0 g0 (run_load1 p0 tS rfl hI.t1 hr.ca) ?_
  rw [d0]
  have f0 := hI.fx.put 9 (.string sep) rfl rfl
  have I0 := hI.put (d := 9) (by decide) (.string sep)
  generalize A.put (some 9) (.string sep) = A0 at f0 I0 ⊢
  refine stepV h1 g1 (run_len1 p1 tS (f0.get 0 rfl)) ?_
  rw [d1]
  have f1 := f0.put 10 (goInt sep.size) rfl rfl
  have I1 := I0.put (d := 10) (by decide) (goInt sep.size)
  generalize A0.put (some 10) (goInt sep.size) = A1 at f1 I1 ⊢
  refine stepV h2 g2 (run_bin1 p2 (f1.get 0 rfl) rfl (v := .bool ((sep.size : Int) == 0)) (by simp [binOp, Op.intCmp])) ?_
  rw [d2]
  exact h _ (I1.put (by decide) _) (eval_put_same _ (by rw [I1.sz]; decide))
/-! ### the whole -/
structure SHyp (P : Program) (fi a b c l : Nat) (sep : ByteArray) (J : ByteArray → World → Prop) (M : ByteArray → Nat → World → Prop) (Z : World → Prop) : Prop where
  rJ : ∀ s W, J s W → SRd P fi a b c sep s W
  rM : ∀ s i W, M s i W → SRd P fi a b c sep s W
  piece : ∀ s W (i : Nat), J s W → Lib.index s.data.toList sep.data.toList = i → i + sep.size ≤ s.size → YRound P l (s.extract 0 i) W (M s i) Z
  left : ∀ s i W, M s i W → J (s.extract (i + sep.size) s.size) (W.setCell ⟨b, 0, none⟩ (.string (s.extract (i + sep.size) s.size)))
  last : ∀ s W, J s W → Lib.index s.data.toList sep.data.toList = -1 → YRound P l s W Z Z
def SEnd (Z : World → Prop) : Ending → World → Prop
  | .returned _, W => Z W
  | .outgrown, _ => False
  | .panicked _, _ => False
theorem index_cases (s sub : ByteArray) : Lib.index s.data.toList sub.data.toList = -1 ∨ ∃ i : Nat, Lib.index s.data.toList sub.data.toList = i ∧ i + sub.size ≤ s.size := Lib.indexB_cases s sub
theorem split_calls {P : Program} {g S I B fi : Nat} (sh : SplitShape P g S I B fi) {a b c l : Nat} {sep : ByteArray} (hsep : 0 < sep.size) {J : ByteArray → World → Prop} {M : ByteArray → Nat → World → Prop} {Z : World → Prop}
    (hy : SHyp P fi a b c l sep J M Z) {s : ByteArray} {W : World} (h0 : J s W) :
    CallsIn (FW none) 1 P g (#[.func (.yield l) #[] #[]] ++ #[.pointer (some ⟨a, 0, none⟩), .pointer (some ⟨b, 0, none⟩), .pointer (some ⟨c, 0, none⟩)]) W (SEnd Z) := by
  obtain ⟨⟨fn, i0, r0, X, i5, r5, i6, r6, i7, r7, i8, r8, i9, r9, i10, r10, hf, hname, hnt, hres, hbody, k0, k5, k6, k7, k8, k9, k10⟩, tS, tI, iS, hfi⟩ := sh
  refine callsIn_of_wp hf hbody trivial ?_
  rw [hnt]
  generalize hA : (⟨#[.func (.yield l) #[] #[]] ++ #[.pointer (some ⟨a, 0, none⟩), .pointer (some ⟨b, 0, none⟩), .pointer (some ⟨c, 0, none⟩)] ++
    Array.replicate (52 - (#[.func (.yield l) #[] #[]] ++ #[.pointer (some ⟨a, 0, none⟩), .pointer (some ⟨b, 0, none⟩), .pointer (some ⟨c, 0, none⟩)] : Array Value).size) undef, []⟩ : Act) = A
  have hI : SInv a b c l A := by
    subst hA
    exact ⟨by simp, by simp [Act.eval], by simp [Act.eval], by simp [Act.eval], by simp [Act.eval], rfl⟩
  clear hA
  have hres' : ∀ (A : Act) (W : World), (results fn A.tmps).run P W = .ok (.tuple #[]) W := fun A W => by simp [results, hres]
  have hend : ∀ A W, A.defers = [] → Z W → bodyPost P fn (SEnd Z) .ret A W := fun A W hd hz => ⟨hd, _, hres' A W, hz⟩
  -- the loop
  have hloop : ∀ (Q : Exit → Act → World → Prop), (∀ A W, A.defers = [] → Z W → Q .ret A W) → (∀ A s W, SInv a b c l A → J s W → Lib.index s.data.toList sep.data.toList = -1 → Q (.exit 2) A W) → ∀ (m : Nat) (s : ByteArray) (A : Act) (W : World), s.size < m → SInv a b c l A → J s W →
      Code.roundsIn (FW none) 1 P (.block 3 (.seq (.region i5 r5 false) (.seq (.seq (.region i6 r6 false) (.cond (.tmp 33) (.exit 2) .skip)) (.seq (.region i7 r7 false) (.seq (.seq (.region i8 r8 false) (.cond (.tmp 42) .ret .skip)) (.region i9 r9 false)))))) Q m A W := by
    intro Q hret hexit m
    induction m with
    | zero => intro s A W h; omega
    | succ m ih =>
      intro s A W hm hI hJ
      have hr := hy.rJ s W hJ
      rw [roundsIn_succ]
      refine wpIn_block (wpIn_seq (walk5 k5 tS hfi hI hr fun A1 I1 e7 => ?_))
      refine wpIn_seq (wpIn_seq (walk6 k6 I1 e7 fun A2 I2 e7b e33 => ?_))
      rcases index_cases s sep with hix | ⟨i, hix, hroom⟩
      · rw [hix] at e33
        refine wpIn_cond_true e33 (wpIn_exit ?_)
        exact hexit A2 s W I2 hJ hix
      · rw [hix] at e33 e7b
        have hn : decide ((i : Int) < 0) = false := by simp
        rw [hn] at e33
        refine wpIn_cond_false e33 (wpIn_skip ?_)
        refine wpIn_seq (walk7 k7 tS tI I2 hr e7b (by omega) fun A3 I3 e7c e8 => ?_)
        refine wpIn_seq (wpIn_seq (walk8 k8 I3 e7c e8 (hy.piece s W i hJ hix hroom) (fun A4 t W4 I4 e7d e42 hT hF => ?_)))
        cases t with
        | true =>
          refine wpIn_cond_false e42 (wpIn_skip ?_)
          have hM := hT rfl
          refine walk9 k9 tS iS I4 (hy.rM s i W4 hM) e7d hroom fun A5 I5 => ?_
          refine ih (s.extract (i + sep.size) s.size) A5 _ ?_ I5 (hy.left s i W4 hM)
          rw [ByteArray.size_extract]; omega
        | false => exact wpIn_cond_true e42 (wpIn_ret (hret A4 W4 I4.df (hF rfl)))
  have hr := hy.rJ s W h0
  refine wpIn_seq (wpIn_seq (walk0 k0 tS hI hr fun A1 I1 e11 => ?_))
  have hn : ((sep.size : Int) == 0) = false := by simp; intro h; rw [h] at hsep; simp at hsep
  rw [hn] at e11
  refine wpIn_cond_false e11 (wpIn_skip ?_)
  refine wpIn_seq (wpIn_block (wpIn_loop_rounds (s.size + 1) (hloop (Exit.inBlock 2 (Exit.then (Code.wpIn (FW none) 1 P (Code.region i10 r10 false) (bodyPost P fn (SEnd Z))) (bodyPost P fn (SEnd Z)))) hend (fun A2 s2 W2 I2 hJ2 hix2 => ?_) (s.size + 1) s A1 W (by omega) I1 h0)))
  show Code.wpIn _ _ _ _ _ _ _
  refine walk10 k10 tS I2 (hy.rJ s2 W2 hJ2) (hy.last s2 W2 hJ2 hix2) (fun A3 W3 I3 hz => ?_)
  exact ⟨I3.df, _, hres' A3 W3, hz.elim (fun q => q) fun q => q⟩
end
end
end Go.Abs

/-
  A verified evaluator: a range over strings.SplitSeq.
-/
namespace Go.Abs
noncomputable section
/-! ### a round -/
def roundPostO (P : Program) (l : Nat) (R : Ending → World → Prop) : Exit → Act → World → Prop
  | .normal, _, w => ∃ v w', (Instr.endRound l none).run P w = .ok v w' ∧ R (.returned v) w'
  | .ret, _, w => ∃ v w', (Instr.endRound l (some .ret)).run P w = .ok v w' ∧ R (.returned v) w'
  | .exit id, _, w => ∃ v w', (Instr.endRound l (some (.exit id))).run P w = .ok v w' ∧ R (.returned v) w'
  | .goto _, _, _ => False
  | .panic _, _, _ => False
  | .outgrown, _, _ => False
def asgPostO (next : Act → World → Prop) : Exit → Act → World → Prop
  | .normal, a, w => next a w
  | .outgrown, _, _ => False
  | _, _, _ => False
theorem roundW {P : Program} {n l : Nat} {f : FuncId} {tmps : Array Value} {assign body : Code} {w : World} {R : Ending → World → Prop}
    (h : assign.wpIn (FW (some l)) 1 P (asgPostO fun a₁ w₁ => ∃ w₂, (Instr.beginRound l).run P w₁ = .ok () w₂ ∧ body.wpIn (FW (some l)) 1 P (roundPostO P l R) a₁ w₂) { tmps := tmps, defers := [] } w) :
    RoundIn (FW none) n P l f tmps assign body w R := by
  refine ⟨trivial, fun c cs _ => ?_⟩
  let b : Frame := { (default : Frame) with fn := f, kind := .normal, roundOf := some l }
  have hb0 : Frame.round l f tmps assign body .normal = b.atR { tmps := tmps, defers := [] } [.code assign, .beginRound, .code body] := by
    simp [Frame.round, Frame.atR, b]
  obtain ⟨e, a₁, w₁, hq, harr⟩ := h b [.beginRound, .code body] (c :: cs) rfl trivial (roomW _ _)
  rw [← hb0] at harr
  have hst : ∀ {m m' : Machine}, StepsIn (Machine.fenced P (FW (some l))) P m m' → StepsIn (Machine.fenced P (FW none)) P m m' := fun h => stepsW.2 (stepsW.1 h)
  cases e with
  | normal =>
    obtain ⟨w₂, hbr, hbody⟩ := hq
    have s1 : StepsIn (Machine.fenced P (FW none)) P (lone (b.atR a₁ [.beginRound, .code body]) (c :: cs) w₁) (lone (b.atR a₁ [.code body]) (c :: cs) w₂) := stepsW.2 (.one (stepR_beginRound rfl hbr))
    obtain ⟨e₂, a₂, w₃, hq₂, harr₂⟩ := hbody b [] (c :: cs) rfl trivial (roomW _ _)
    cases e₂ with
    | normal =>
      obtain ⟨v, w₄, hend, hR⟩ := hq₂
      exact ⟨.returned v, w₄, hR, (StepsIn.trans (hst harr) s1).trans (StepsIn.trans (hst harr₂) (stepsW.2 (.one (stepR_round_end rfl rfl hend))))⟩
    | ret =>
      obtain ⟨v, w₄, hend, hR⟩ := hq₂
      obtain ⟨k₁, hs⟩ := harr₂.2 rfl
      exact ⟨.returned v, w₄, hR, (StepsIn.trans (hst harr) s1).trans (StepsIn.trans (hst hs) (stepsW.2 (.one (stepR_round_ret rfl rfl hend))))⟩
    | exit id =>
      obtain ⟨v, w₄, hend, hR⟩ := hq₂
      obtain ⟨k₁, hk, hs⟩ := harr₂.2 rfl rfl
      exact ⟨.returned v, w₄, hR, (StepsIn.trans (hst harr) s1).trans (StepsIn.trans (hst hs) (stepsW.2 (.one (stepR_round_exit rfl rfl hk hend))))⟩
    | goto t => exact hq₂.elim
    | panic chain => exact hq₂.elim
    | outgrown => exact hq₂.elim
  | exit id => exact hq.elim
  | goto t => exact hq.elim
  | ret => exact hq.elim
  | panic chain => exact hq.elim
  | outgrown => exact hq.elim
/-! ### an object that no id names -/
theorem HR.unm {φ : Phi} {ν : Nu} {h : H} {w : World} (hr : HR φ ν h w) {l : Nat} (hl : ∀ id ver p, φ id ver = some p → p.blk ≠ l) (hg : ∀ b o, (b, o) ∈ ν.G → b ≠ l) (o : Obj) : HR φ ν h { w with heap := w.heap.setIfInBounds l o } := by
  refine ⟨fun i v q hq => ⟨(hr.dom i v q hq).1, by simpa using (hr.dom i v q hq).2⟩, hr.inj, fun i x hi hx => ?_, hr.lim, hr.ro, hr.gp, fun b o' hb => ?_, hr.ub⟩
  · exact BR.keep φ.le_refl (fun _ _ h => h) (fun v q hq => Array.getElem?_setIfInBounds_ne (hl i v q hq).symm) (hr.bl i x hi hx)
  · obtain ⟨g1, g2⟩ := hr.gl b o' hb
    exact ⟨by rw [Array.getElem?_setIfInBounds_ne (hg b o' hb).symm]; exact g1, g2⟩
theorem Ext.unm {ro : RO} {φ φ' : Phi} {w w' : World} (h : Ext ro φ w φ' w') {l : Nat} (hl : w.heap.size ≤ l) (o : Obj) : Ext ro φ w φ' { w' with heap := w'.heap.setIfInBounds l o } :=
  ⟨h.le, by simpa using h.size, h.os, h.tape, h.output, h.img, fun b hb hn => by
    show (w'.heap.setIfInBounds l o)[b]? = _
    rw [Array.getElem?_setIfInBounds_ne (by omega)]; exact h.same b hb hn, h.old⟩
/-! ### reading single cells -/
def rdStr (id ver : Nat) (h : H) (k : Nat → Nat → Bool) : Bool := getB id ver h fun s _ _ _ _ rows => chk (Nat.blt 0 ver) (cellK s rows 0 fun v => vStr v k)
theorem rdStr_true {φ : Phi} {ν : Nu} {id ver : Nat} {h : H} {w : World} {k : Nat → Nat → Bool} (hr : HR φ ν h w) {p : PB} (hp : φ id ver = some p) (hk : rdStr id ver h k = true) :
    ∃ l c str, w.cell? ⟨p.blk, 0, none⟩ = some (.string str) ∧ IsStr l c str ∧ k l c = true := by
  obtain ⟨s, n, lw, fz, opn, el, rows, hb, hl, hs, hbr, hk⟩ := getB_true hr hp hk
  obtain ⟨c1, hk⟩ := chk_true hk
  rw [Nat.blt_eq] at c1
  have hk2 := cellK_true hk
  obtain ⟨l, c, e1, hk3⟩ := vStr_true hk2
  obtain ⟨_, _, hcc⟩ := hbr
  obtain ⟨cc, fr, hb2, _, _, hcell, _, _⟩ := hcc hl
  obtain ⟨v, hv, _, hvr⟩ := hcell 0 c1
  rw [e1] at hvr
  cases hvr with
  | str hst => exact ⟨l, c, _, by rw [cell?_of hb2]; exact hv, hst, hk3⟩
def strAt (id ver l c : Nat) (h : H) (x : Bool) : Bool := getB id ver h fun s n fz _ _ rows => chk (Nat.blt 0 ver) (chk (Nat.beq fz 0 && Nat.beq ver n) (cellK s rows 0 fun v => vStr v fun l' c' => chk (Nat.beq l l') (chk (Nat.beq c c') x)))
theorem strAt_true {φ : Phi} {ν : Nu} {id ver l c : Nat} {h : H} {w : World} {x : Bool} (hr : HR φ ν h w) {p : PB} (hp : φ id ver = some p) (hk : strAt id ver l c h x = true) :
    ∃ str, w.cell? ⟨p.blk, 0, none⟩ = some (.string str) ∧ IsStr l c str ∧ w.frozen? ⟨p.blk, 0, none⟩ = false ∧ x = true := by
  obtain ⟨s, n, lw, fz, opn, el, rows, hb, hl, hs, hbr, hk⟩ := getB_true hr hp hk
  obtain ⟨c1, hk⟩ := chk_true hk
  obtain ⟨c2, hk⟩ := chk_true hk
  rw [Nat.blt_eq] at c1
  rw [Bool.and_eq_true] at c2
  have hfz := nbT c2.1
  have hvn := nbT c2.2
  have hk2 := cellK_true hk
  obtain ⟨l', c', e1, hk3⟩ := vStr_true hk2
  obtain ⟨c3, hk4⟩ := chk_true hk3
  obtain ⟨c4, hk5⟩ := chk_true hk4
  have e3 := nbT c3
  have e4 := nbT c4
  obtain ⟨_, _, hcc⟩ := hbr
  obtain ⟨cc, fr, hb2, hsz, hv, hcell, hfr, _⟩ := hcc hl
  obtain ⟨v, hv0, _, hvr⟩ := hcell 0 c1
  rw [e1, ← e3, ← e4] at hvr
  cases hvr with
  | str hst =>
    refine ⟨_, by rw [cell?_of hb2]; exact hv0, hst, ?_, hk5⟩
    have := hfr hvn 0 (by omega) (by omega)
    simp [World.frozen?, hb2]
    omega
def intAt (id ver : Nat) (h : H) (x : Bool) : Bool := getB id ver h fun s _ _ _ _ rows => chk (Nat.blt 0 ver) (cellK s rows 0 fun v => vInt v fun K n => chk (isIntK K .i64) (chk (ieq n 0) x))
theorem intAt_true {φ : Phi} {ν : Nu} {id ver : Nat} {h : H} {w : World} {x : Bool} (hr : HR φ ν h w) {p : PB} (hp : φ id ver = some p) (hk : intAt id ver h x = true) :
    w.cell? ⟨p.blk, 0, none⟩ = some (.int .i64 0) ∧ x = true := by
  obtain ⟨s, n, lw, fz, opn, el, rows, hb, hl, hs, hbr, hk⟩ := getB_true hr hp hk
  obtain ⟨c1, hk⟩ := chk_true hk
  rw [Nat.blt_eq] at c1
  have hk2 := cellK_true hk
  obtain ⟨K, m, e1, hk3⟩ := vInt_true hk2
  obtain ⟨c3, hk4⟩ := chk_true hk3
  obtain ⟨c4, hk5⟩ := chk_true hk4
  rw [ieq_eq] at c4
  have c4 : m = 0 := by simpa using c4
  obtain ⟨_, _, hcc⟩ := hbr
  obtain ⟨cc, fr, hb2, _, _, hcell, _, _⟩ := hcc hl
  obtain ⟨v, hv, _, hvr⟩ := hcell 0 c1
  rw [e1, isIntK_true c3, c4] at hvr
  cases hvr
  exact ⟨by rw [cell?_of hb2]; exact hv, hk5⟩
theorem IsStr.drop {l c : Nat} {s : ByteArray} (h : IsStr l c s) (n : Nat) (hn : n ≤ l) : IsStr (l - n) (c / 256 ^ n) (s.extract n s.size) := by
  have hs := h.1
  refine ⟨by rw [ByteArray.size_extract]; omega, ?_⟩
  have e : (s.extract n s.size).data.toList = s.data.toList.drop n := by
    rw [ByteArray.data_extract, Array.toList_extract, List.extract_eq_take_drop]
    apply List.take_of_length_le
    simp
  rw [e, enc_drop, h.2]
theorem IsStr.take {l c : Nat} {s : ByteArray} (h : IsStr l c s) (n : Nat) (hn : n ≤ l) : IsStr n (c % 256 ^ n) (s.extract 0 n) := by
  have := h.extract 0 n (Nat.zero_le _) hn
  simpa [Nat.pow_mul] using this
/-! ### one round, by the evaluator -/
def roundK {L : Nat} (cf : Fun) (ts : FT L) (ks : Ks L) (ds0 : List ADef) (mk : ADef) (sp : Setter (FT L)) (da db : D L) (xl xc : Nat) (h : H) (kn : H → Bool) : Bool :=
  sp ts (.str xl xc) fun ts1 => da cf ts1 h (fun ts2 h2 => isNil h2.ds (db cf ts2 h2 (fun _ h3 => isNil h3.ds (kn h3))
    ⟨fun id _ h3 => isNil h3.ds (ks.ex id ts ⟨mk :: ds0, h3.ro, h3.next, h3.bl⟩), fun _ h3 => isNil h3.ds (ks.rt ts ⟨mk :: ds0, h3.ro, h3.next, h3.bl⟩), fun _ _ _ => false⟩)) ⟨fun _ _ _ => false, fun _ _ => false, fun _ _ _ => false⟩
def lrec (fnid : FuncId) (a : Act) (p : Tmp) (asg body : Code) (D : Nat) (st : LoopState) (pe : Option Code) : Loop :=
  { state := st, pending := pe, fn := fnid, tmps := a.tmps, params := #[p], assign := asg, body, defers := D }
def fin {L : Nat} (ts : FT L) (k : K L) (ks : Ks L) (ds0 : List ADef) (mk : ADef) : Option Code → H → Prop
  | none, h => k ts ⟨mk :: ds0, h.ro, h.next, h.bl⟩ = true
  | some .ret, h => ks.rt ts ⟨mk :: ds0, h.ro, h.next, h.bl⟩ = true
  | some (.exit id), h => ks.ex id ts ⟨mk :: ds0, h.ro, h.next, h.bl⟩ = true
  | _, _ => False
structure Jn (ν : Nu) (φ : Phi) (w : World) (ro : RO) (l idD D : Nat) (lr : LoopState → Option Code → Loop) (φ' : Phi) (h' : H) (W : World) : Prop where
  lp : W.heap[l]? = some (.loop (lr .ready none))
  hr : HR φ' ν h' W
  ex : Ext ro φ w φ' W
  ro : h'.ro = ro
  ds : h'.ds = []
  un : ∀ id ver q, φ' id ver = some q → q.blk ≠ l
  dd : ∃ pD, φ' idD 0 = some pD ∧ pD.blk = D
def Zz (ν : Nu) (φ : Phi) (w : World) (ro : RO) (l idD D : Nat) (lr : LoopState → Option Code → Loop) (fn : Option Code → H → Prop) (W : World) : Prop :=
  ∃ φ' h' st pe, W.heap[l]? = some (.loop (lr st pe)) ∧ (st == .busy) = false ∧ HR φ' ν h' W ∧ Ext ro φ w φ' W ∧ h'.ro = ro ∧ (∀ id ver q, φ' id ver = some q → q.blk ≠ l) ∧ (∃ pD, φ' idD 0 = some pD ∧ pD.blk = D) ∧ fn pe h'
theorem set_at {w : World} {l : Nat} {o o' : Obj} (h : w.heap[l]? = some o) : ({ w with heap := w.heap.setIfInBounds l o' } : World).heap[l]? = some o' := by
  have : l < w.heap.size := (Array.getElem?_eq_some_iff.1 h).1
  simp [this]
theorem run_getLoop {P : Program} {w : World} {l : Nat} {r : Loop} (h : w.heap[l]? = some (.loop r)) : (Instr.getLoop l).run P w = .ok r w := by
  simp [Instr.getLoop, getObj, Sem.run, h]
theorem run_setLoop {P : Program} {w : World} {l : Nat} {r r' : Loop} (h : w.heap[l]? = some (.loop r)) : (setObj l (.loop r')).run P w = .ok () { w with heap := w.heap.setIfInBounds l (.loop r') } := by
  simp [setObj, Sem.run, h]
theorem round_true {P : Program} {ν : Nu} {L N : Nat} {cf : Fun} (hc : FunOk P ν cf) {asg body : Code} {da db : D L} (hda : Good P ν true L N asg da) (hdb : Good P ν true L N body db) {p : Tmp} (hp : p < N) (hN : N ≤ 4 ^ L) {φ : Phi} {w : World} {a : Act} {ts : FT L}
    {ro : RO} (hfr : FR φ ν L N ts a.tmps) {l : Nat} (hl : w.heap.size ≤ l) (hg : ∀ b o, (b, o) ∈ ν.G → b < w.heap.size) {fnid : FuncId} {k : K L} {ks : Ks L} {ds0 : List ADef} {mk : ADef} {idD D : Nat} {sp : Setter (FT L)} (hsp : ∀ x v k, sp x v k = k (FT.put L p v x))
    {φ' : Phi} {h' : H} {W : World} (jn : Jn ν φ w ro l idD D (lrec fnid a p asg body D) φ' h' W) {xl xc : Nat} {x : ByteArray} (hx : IsStr xl xc x) {kn : H → Bool} (hk : roundK cf ts ks ds0 mk sp da db xl xc h' kn = true) {T : World → Prop}
    (hT : ∀ φ'' h'' W', Jn ν φ w ro l idD D (lrec fnid a p asg body D) φ'' h'' W' → kn h'' = true → T W') :
    YRound P l x W T (Zz ν φ w ro l idD D (lrec fnid a p asg body D) (fin ts k ks ds0 mk)) := by
  refine ⟨fnid, a.tmps.setIfInBounds p (.string x), asg, body, ?_, roundW ?_⟩
  · simp [Instr.yield, run_getLoop jn.lp, lrec]
  unfold roundK at hk
  rw [hsp] at hk
  have hlW : l < W.heap.size := (Array.getElem?_eq_some_iff.1 jn.lp).1
  have hgl : ∀ b o, (b, o) ∈ ν.G → b ≠ l := fun b o hb e => by have := hg b o hb; omega
  have hst : St φ' ν L N (FT.put L p (.str xl xc) ts) h' ⟨a.tmps.setIfInBounds p (.string x), []⟩ W := ⟨(hfr.mono jn.ex.le).put hN hp (.str hx), jn.hr, by rw [jn.ds]; trivial⟩
  have hw := hda cf hc (some l) (.inr rfl) φ' _ h' _ W _ _ hst hk
  refine wpIn_mono hw fun e a1 W1 hp1 => ?_
  cases e with
  | exit id => obtain ⟨_, _, _, _, _, _, hk2⟩ := hp1; cases hk2
  | goto t => exact hp1.elim
  | ret => obtain ⟨_, _, _, _, _, _, hk2⟩ := hp1; cases hk2
  | panic ch => obtain ⟨_, _, _, _, _, _, _, _, _, _, hk2⟩ := hp1; cases hk2
  | outgrown => exact hp1.elim
  | normal =>
    obtain ⟨φ2, ts2, h2, st2, ex2, ro2, hk2⟩ := hp1
    obtain ⟨ds2, hk3⟩ := isNil_true hk2
    have hroE : h'.ro = ro := jn.ro
    rw [hroE] at ex2 ro2
    obtain ⟨un2, lp2⟩ := un_ext' ex2 hlW jn.un
    rw [jn.lp] at lp2
    have hx2 : Ext ro φ w φ2 W1 := jn.ex.trans ex2
    have hbr : (Instr.beginRound l).run P W1 = .ok () { W1 with heap := W1.heap.setIfInBounds l (.loop (lrec fnid a p asg body D .busy none)) } := by
      simp [Instr.beginRound, run_getLoop lp2, run_setLoop lp2, lrec]
    refine ⟨_, hbr, ?_⟩
    have lp2b : ({ W1 with heap := W1.heap.setIfInBounds l (.loop (lrec fnid a p asg body D .busy none)) } : World).heap[l]? = some (.loop (lrec fnid a p asg body D .busy none)) := set_at lp2
    have hx2b := hx2.unm hl (.loop (lrec fnid a p asg body D .busy none))
    have hr2b := st2.hr.unm un2 hgl (.loop (lrec fnid a p asg body D .busy none))
    have hl2 : l < ({ W1 with heap := W1.heap.setIfInBounds l (.loop (lrec fnid a p asg body D .busy none)) } : World).heap.size := (Array.getElem?_eq_some_iff.1 lp2b).1
    generalize ({ W1 with heap := W1.heap.setIfInBounds l (.loop (lrec fnid a p asg body D .busy none)) } : World) = W2 at lp2b hx2b hr2b hl2 ⊢
    have hw2 := hdb cf hc (some l) (.inr rfl) φ2 ts2 h2 a1 W2 _ _ ⟨st2.fr, hr2b, st2.dr⟩ hk3
    obtain ⟨pD, hpD, hpD'⟩ := jn.dd
    refine wpIn_mono hw2 fun e a3 W3 hp3 => ?_
    have wrap : ∀ (φ3 : Phi) (h3 : H), HR φ3 ν h3 W3 → Ext h2.ro φ2 W2 φ3 W3 → h3.ro = h2.ro → ∀ st pe, (∀ W4, W4 = ({ W3 with heap := W3.heap.setIfInBounds l (.loop (lrec fnid a p asg body D st pe)) } : World) →
        W4.heap[l]? = some (.loop (lrec fnid a p asg body D st pe)) ∧ HR φ3 ν h3 W4 ∧ Ext ro φ w φ3 W4 ∧ h3.ro = ro ∧ (∀ id ver q, φ3 id ver = some q → q.blk ≠ l) ∧ (∃ pD, φ3 idD 0 = some pD ∧ pD.blk = D)) ∧ W3.heap[l]? = some (.loop (lrec fnid a p asg body D .busy none)) := by
      intro φ3 h3 hr3 ex3 ro3 st pe
      rw [ro2] at ex3 ro3
      obtain ⟨un3, lp3⟩ := un_ext' ex3 hl2 un2
      rw [lp2b] at lp3
      refine ⟨fun W4 e4 => ?_, lp3⟩
      subst e4
      exact ⟨set_at lp3, hr3.unm un3 hgl _, (hx2b.trans ex3).unm hl _, ro3, un3, pD, ex3.le _ _ _ (ex2.le _ _ _ hpD), hpD'⟩
    cases e with
    | goto t => exact hp3.elim
    | outgrown => exact hp3.elim
    | panic ch => obtain ⟨_, _, _, _, _, _, _, _, _, _, hk4⟩ := hp3; cases hk4
    | normal =>
      obtain ⟨φ3, ts3, h3, st3, ex3, ro3, hk4⟩ := hp3
      obtain ⟨ds3, hk5⟩ := isNil_true hk4
      obtain ⟨hw4, lp3⟩ := wrap φ3 h3 st3.hr ex3 ro3 .ready none
      obtain ⟨a1, a2, a3, a4, a5, a6⟩ := hw4 _ rfl
      exact ⟨.bool true, _, by simp [Instr.endRound, run_getLoop lp3, run_setLoop lp3, lrec], .inl ⟨rfl, hT φ3 h3 _ ⟨a1, a2, a3, a4, ds3, a5, a6⟩ hk5⟩⟩
    | ret =>
      obtain ⟨φ3, ts3, h3, st3, ex3, ro3, hk4⟩ := hp3
      obtain ⟨ds3, hk5⟩ := isNil_true hk4
      obtain ⟨hw4, lp3⟩ := wrap φ3 h3 st3.hr ex3 ro3 .done (some .ret)
      obtain ⟨a1, a2, a3, a4, a5, a6⟩ := hw4 _ rfl
      exact ⟨.bool false, _, by simp [Instr.endRound, run_getLoop lp3, run_setLoop lp3, lrec], .inr ⟨rfl, φ3, h3, _, _, a1, rfl, a2, a3, a4, a5, a6, hk5⟩⟩
    | exit id =>
      obtain ⟨φ3, ts3, h3, st3, ex3, ro3, hk4⟩ := hp3
      obtain ⟨ds3, hk5⟩ := isNil_true hk4
      obtain ⟨hw4, lp3⟩ := wrap φ3 h3 st3.hr ex3 ro3 .done (some (.exit id))
      obtain ⟨a1, a2, a3, a4, a5, a6⟩ := hw4 _ rfl
      exact ⟨.bool false, _, by simp [Instr.endRound, run_getLoop lp3, run_setLoop lp3, lrec], .inr ⟨rfl, φ3, h3, _, _, a1, rfl, a2, a3, a4, a5, a6, hk5⟩⟩
/-! ### all rounds -/
def chk3 (ida va idb vb idc vc ls cs l c : Nat) (h : H) (x : Bool) : Bool := chk (Nat.blt l 4294967281) (strAt ida va ls cs h (strAt idb vb l c h (intAt idc vc h x)))
def aftK (ida va idb vb idc vc ls cs l c i : Nat) (h : H) (go : Nat → Nat → H → Bool) : Bool :=
  chk3 ida va idb vb idc vc ls cs l c h (forceN (Nat.sub (Nat.sub l i) ls) fun l2 => forceN (Nat.div c (Nat.pow 256 (Nat.add i ls))) fun c2 => storeK idb vb 0 [.str l2 c2] 1 h fun h => go l2 c2 h)
def loopK {L : Nat} (cf : Fun) (ts : FT L) (k : K L) (ks : Ks L) (ds0 : List ADef) (mk : ADef) (sp : Setter (FT L)) (da db : D L) (ida va idb vb idc vc ls cs pm : Nat) (n : Nat) : Nat → Nat → H → Bool :=
  Nat.rec (motive := fun _ => Nat → Nat → H → Bool) (fun _ _ _ => false) (fun _ ih l c h => chk3 ida va idb vb idc vc ls cs l c h
    (idxK ls cs pm l c 0 (fun i => forceN (Nat.mod c (Nat.pow 256 i)) fun x => roundK cf ts ks ds0 mk sp da db i x h fun h => aftK ida va idb vb idc vc ls cs l c i h ih)
      (roundK cf ts ks ds0 mk sp da db l c h fun h => k ts ⟨mk :: ds0, h.ro, h.next, h.bl⟩))) n
theorem chk3_true {P : Program} {ν : Nu} {φ φ' : Phi} (hle : φ.le φ') {ida va idb vb idc vc ls cs l c fi : Nat} {pa pb pc : PB} (ha : φ ida va = some pa) (hb : φ idb vb = some pb) (hc : φ idc vc = some pc) {sep s : ByteArray} (hsep : IsStr ls cs sep) (hs : IsStr l c s)
    (hidx : ∀ φ h W (s sep : ByteArray), HR φ ν h W → s.size < 4294967281 → Calls P fi #[.string s, .string sep] W fun e W' => e = .returned (.int .i64 (Lib.index s.data.toList sep.data.toList)) ∧ W' = W)
    {h : H} {W : World} (hr : HR φ' ν h W) {x : Bool} (hk : chk3 ida va idb vb idc vc ls cs l c h x = true) : SRd P fi pa.blk pb.blk pc.blk sep s W ∧ x = true := by
  obtain ⟨c1, hk⟩ := chk_true hk
  rw [Nat.blt_eq] at c1
  obtain ⟨s1, g1, g2, _, hk⟩ := strAt_true hr (hle _ _ _ ha) hk
  obtain ⟨s2, g3, g4, g5, hk⟩ := strAt_true hr (hle _ _ _ hb) hk
  obtain ⟨g6, hk⟩ := intAt_true hr (hle _ _ _ hc) hk
  have e1 : s1 = sep := (g2.eq hsep).2 ⟨rfl, rfl⟩
  have e2 : s2 = s := (g4.eq hs).2 ⟨rfl, rfl⟩
  subst e1 e2
  exact ⟨⟨g1, g3, g6, g5, by rw [hs.1]; exact c1, hidx φ' h W _ _ hr (by rw [hs.1]; exact c1)⟩, hk⟩
theorem run_store_cell {P : Program} {W : World} {b : Nat} {s u : ByteArray} (hc : W.cell? ⟨b, 0, none⟩ = some (.string u)) (hf : W.frozen? ⟨b, 0, none⟩ = false) : (storeCells ⟨b, 0, none⟩ [.string s]).run P W = .ok () (W.setCell ⟨b, 0, none⟩ (.string s)) := by
  simp [storeCells, store, Sem.run, addr_add, hc, hf]
theorem loop_hyp {P : Program} {ν : Nu} {L N : Nat} {cf : Fun} (hcf : FunOk P ν cf) {asg body : Code} {da db : D L} (hda : Good P ν true L N asg da) (hdb : Good P ν true L N body db) {p : Tmp} (hp : p < N) (hN : N ≤ 4 ^ L) {φ : Phi} {w : World} {a : Act} {ts : FT L}
    {ro : RO} (hfr : FR φ ν L N ts a.tmps) {l : Nat} (hl : w.heap.size ≤ l) (hg : ∀ b o, (b, o) ∈ ν.G → b < w.heap.size) {fnid : FuncId} {k : K L} {ks : Ks L} {ds0 : List ADef} {mk : ADef} {idD D : Nat} {sp : Setter (FT L)} (hsp : ∀ x v k, sp x v k = k (FT.put L p v x))
    {ida va idb vb idc vc ls cs fi : Nat} {pa pb pc : PB} (ha : φ ida va = some pa) (hb : φ idb vb = some pb) (hc : φ idc vc = some pc) {sep : ByteArray} (hsep : IsStr ls cs sep)
    (hidx : ∀ φ h W (s sep : ByteArray), HR φ ν h W → s.size < 4294967281 → Calls P fi #[.string s, .string sep] W fun e W' => e = .returned (.int .i64 (Lib.index s.data.toList sep.data.toList)) ∧ W' = W) :
    SHyp P fi pa.blk pb.blk pc.blk l sep
      (fun s W => ∃ φ' h' l' c' n, Jn ν φ w ro l idD D (lrec fnid a p asg body D) φ' h' W ∧ IsStr l' c' s ∧ loopK cf ts k ks ds0 mk sp da db ida va idb vb idc vc ls cs (256 ^ ls) n l' c' h' = true)
      (fun s i W => ∃ φ' h' l' c' n, Jn ν φ w ro l idD D (lrec fnid a p asg body D) φ' h' W ∧ IsStr l' c' s ∧ i + ls ≤ l' ∧ aftK ida va idb vb idc vc ls cs l' c' i h' (loopK cf ts k ks ds0 mk sp da db ida va idb vb idc vc ls cs (256 ^ ls) n) = true)
      (Zz ν φ w ro l idD D (lrec fnid a p asg body D) (fin ts k ks ds0 mk)) := by
  have open1 : ∀ {n l' c' : Nat} {h' : H}, loopK cf ts k ks ds0 mk sp da db ida va idb vb idc vc ls cs (256 ^ ls) n l' c' h' = true → ∃ m, chk3 ida va idb vb idc vc ls cs l' c' h'
      (idxK ls cs (256 ^ ls) l' c' 0 (fun i => forceN (Nat.mod c' (Nat.pow 256 i)) fun x => roundK cf ts ks ds0 mk sp da db i x h' fun h => aftK ida va idb vb idc vc ls cs l' c' i h (loopK cf ts k ks ds0 mk sp da db ida va idb vb idc vc ls cs (256 ^ ls) m))
        (roundK cf ts ks ds0 mk sp da db l' c' h' fun h => k ts ⟨mk :: ds0, h.ro, h.next, h.bl⟩)) = true := by
    intro n l' c' h' h
    cases n with
    | zero => cases h
    | succ m => exact ⟨m, h⟩
  have idx : ∀ {s : ByteArray} {l' c' : Nat} {f : Nat → Bool} {g : Bool}, IsStr l' c' s → idxK ls cs (256 ^ ls) l' c' 0 f g = true →
      (Lib.index s.data.toList sep.data.toList = -1 ∧ g = true) ∨ ∃ j : Nat, Lib.index s.data.toList sep.data.toList = j ∧ f j = true := by
    intro s l' c' f g hs h
    have h' : idxK sep.data.toList.length (enc sep.data.toList) (256 ^ sep.data.toList.length) s.data.toList.length (enc s.data.toList) 0 f g = true := by
      rw [hsep.data, hsep.2, hs.data, hs.2]; exact h
    rcases idxK_true _ _ _ _ _ h' with h1 | ⟨j, h1, h2⟩
    · exact .inl h1
    · exact .inr ⟨j, h1, by rw [Nat.zero_add] at h2; exact h2⟩
  refine ⟨?_, ?_, ?_, ?_, ?_⟩
  · rintro s W ⟨φ', h', l', c', n, jn, hs, hk⟩
    obtain ⟨m, hk⟩ := open1 hk
    exact (chk3_true jn.ex.le ha hb hc hsep hs hidx jn.hr hk).1
  · rintro s i W ⟨φ', h', l', c', n, jn, hs, _, hk⟩
    exact (chk3_true jn.ex.le ha hb hc hsep hs hidx jn.hr hk).1
  · rintro s W i ⟨φ', h', l', c', n, jn, hs, hk⟩ hix hroom
    obtain ⟨m, hk⟩ := open1 hk
    obtain ⟨_, hk⟩ := chk3_true jn.ex.le ha hb hc hsep hs hidx jn.hr hk
    rw [hsep.1, hs.1] at hroom
    rcases idx hs hk with ⟨h1, _⟩ | ⟨j, h1, h2⟩
    · rw [hix] at h1; omega
    · rw [hix] at h1
      have : i = j := by omega
      subst this
      rw [forceN_eq] at h2
      exact round_true hcf hda hdb hp hN hfr hl hg hsp jn (hs.take i (by omega)) h2 fun φ'' h'' W' jn' hk' => ⟨φ'', h'', l', c', m, jn', hs, hroom, hk'⟩
  · rintro s i W ⟨φ', h', l', c', n, jn, hs, hroom, hk⟩
    obtain ⟨hrd, hk⟩ := chk3_true jn.ex.le ha hb hc hsep hs hidx jn.hr hk
    rw [forceN_eq, forceN_eq] at hk
    have hs2 : IsStr (l' - i - ls) (c' / 256 ^ (i + ls)) (s.extract (i + ls) s.size) := by
      have := hs.drop (i + ls) hroom
      rwa [show l' - (i + ls) = l' - i - ls from by omega] at this
    have hpb := jn.ex.le _ _ _ hb
    obtain ⟨h2, w2, hrun, hr2, hx2, hro2, hds2, _, hk2⟩ := storeK_true (P := P) jn.hr hpb (vs := [.string (s.extract (i + ls) s.size)]) (.cons (.str hs2) .nil) (fun v hv => by simp at hv; subst hv; rfl) (sz := 1) rfl (by decide) hk
    have hrun2 := run_store_cell (P := P) (s := s.extract (i + ls) s.size) hrd.cb hrd.fz
    rw [hrun] at hrun2
    have e2 : w2 = W.setCell ⟨pb.blk, 0, none⟩ (.string (s.extract (i + ls) s.size)) := by injection hrun2
    rw [hsep.1, ← e2]
    have hlW : l < W.heap.size := (Array.getElem?_eq_some_iff.1 jn.lp).1
    rw [jn.ro] at hx2 hro2
    obtain ⟨un2, lp2⟩ := un_ext' hx2 hlW jn.un
    obtain ⟨pD, hpD, hpD'⟩ := jn.dd
    exact ⟨φ', h2, _, _, n, ⟨by rw [lp2]; exact jn.lp, hr2, jn.ex.trans hx2, hro2, by rw [hds2]; exact jn.ds, un2, pD, hpD, hpD'⟩, hs2, hk2⟩
  · rintro s W ⟨φ', h', l', c', n, jn, hs, hk⟩ hix
    obtain ⟨m, hk⟩ := open1 hk
    obtain ⟨_, hk⟩ := chk3_true jn.ex.le ha hb hc hsep hs hidx jn.hr hk
    rcases idx hs hk with ⟨_, h2⟩ | ⟨j, h1, _⟩
    · exact round_true hcf hda hdb hp hN hfr hl hg hsp jn hs h2 fun φ'' h'' W' jn' hk' => ⟨φ'', h'', _, _, jn'.lp, rfl, jn'.hr, jn'.ex, jn'.ro, jn'.un, jn'.dd, hk'⟩
    · rw [hix] at h1; omega
/-! ### the statement -/
def args3 (l : List AV) (k : AV → AV → AV → Bool) : Bool := List.rec (motive := fun _ => Bool) false (fun x t _ => args2 t fun y z => k x y z) l
theorem args3_true {l : List AV} {k : AV → AV → AV → Bool} (h : args3 l k = true) : ∃ x y z, l = [x, y, z] ∧ k x y z = true := by
  match l, h with
  | [], h => cases h
  | x :: t, h =>
    obtain ⟨y, z, rfl, h⟩ := args2_true (l := t) h
    exact ⟨x, y, z, rfl, h⟩
def isNilA (l : List AV) (x : Bool) : Bool := List.rec (motive := fun _ => Bool) x (fun _ _ _ => false) l
theorem isNilA_true {l : List AV} {x : Bool} (h : isNilA l x = true) : l = [] ∧ x = true := by
  cases l with
  | nil => exact ⟨rfl, h⟩
  | cons a b => cases h
def rangeD {L : Nat} (ef : Gt L) (sp : Setter (FT L)) (da db : D L) (gs : FuncId) : D L := fun cf ts h k ks => ef ts fun vf => vFn vf fun fn fs caps => Fn.rec (motive := fun _ => Bool)
  (fun g => chk (Nat.beq g gs) (isNilA fs (args3 caps fun pa pb pc => vPtr pa fun ida va oa => vPtr pb fun idb vb ob => vPtr pc fun idc vc oc => chk (Nat.beq oa 0) (chk (Nat.beq ob 0) (chk (Nat.beq oc 0)
    (rdStr ida va h fun ls cs => chk (Nat.blt 0 ls) (rdStr idb vb h fun l0 c0 => newB (.dfr true) h fun idD h1 => forceN (Nat.pow 256 ls) fun pm =>
      loopK cf ts k ks h.ds ⟨.mp idD, []⟩ sp da db ida va idb vb idc vc ls cs pm (Nat.succ l0) l0 c0 ⟨[], h1.ro, h1.next, h1.bl⟩)))))))
  (fun _ => false) (fun _ _ => false) (fun _ _ _ _ => false) (fun _ => false) fn
def SplitOk1 (P : Program) (ν : Nu) (gs : FuncId) : Prop := hasBody P gs = true ∧ ∃ S I B fi, SplitShape P gs S I B fi ∧
  ∀ φ h W (s sep : ByteArray), HR φ ν h W → s.size < 4294967281 → Calls P fi #[.string s, .string sep] W fun e W' => e = .returned (.int .i64 (Lib.index s.data.toList sep.data.toList)) ∧ W' = W
theorem rangeD_good {P : Program} {ν : Nu} {L N : Nat} {gs : FuncId} (hok : SplitOk1 P ν gs) {f : Operand} {p : Tmp} {asg body : Code} {ef : FT L → AV} (hef : ∀ φ ν ts (a : Act), FR φ ν L N ts a.tmps → VR φ ν (ef ts) (a.eval f)) {sp : Setter (FT L)}
    (hsp : ∀ x v k, sp x v k = k (FT.put L p v x)) {da db : D L} (hda : Good P ν true L N asg da) (hdb : Good P ν true L N body db) (hp : p < N) (hN : N ≤ 4 ^ L) : Good P ν false L N (.rangeFunc f #[p] asg body) (rangeD (fun ts k => k (ef ts)) sp da db gs) := by
  intro cf hcf rd hrd φ ts h a w k ks hst hk
  have hrd : rd = none := hrd.resolve_right (by simp)
  subst hrd
  obtain ⟨hgb, S, I, B, fi, shape, hidx⟩ := hok
  unfold rangeD at hk
  obtain ⟨fn, fs, caps, e1, hk⟩ := vFn_true hk
  cases fn <;> first | (cases hk; done) | skip
  rename_i g
  obtain ⟨c1, hk⟩ := chk_true (show chk _ _ = true from hk)
  have c1 := nbT c1
  obtain ⟨e2, hk⟩ := isNilA_true hk
  obtain ⟨xa, xb, xc, e3, hk⟩ := args3_true hk
  obtain ⟨ida, va, oa, e4, hk⟩ := vPtr_true hk
  obtain ⟨idb, vb, ob, e5, hk⟩ := vPtr_true hk
  obtain ⟨idc, vc, oc, e6, hk⟩ := vPtr_true hk
  obtain ⟨c2, hk⟩ := chk_true hk
  obtain ⟨c3, hk⟩ := chk_true hk
  obtain ⟨c4, hk⟩ := chk_true hk
  have c2 := nbT c2
  have c3 := nbT c3
  have c4 := nbT c4
  have hv := hef φ ν ts a hst.fr
  rw [e1, c1, e2, e3, e4, e5, e6, c2, c3, c4] at hv
  generalize hvf : a.eval f = vf at hv
  cases hv with
  | fn hfs hcs =>
    cases hfs
    cases hcs with
    | cons h1 hcs => cases hcs with
      | cons h2 hcs => cases hcs with
        | cons h3 hcs =>
          cases hcs
          cases h1 with
          | ptr ha =>
            rename_i pa
            cases h2 with
            | ptr hb =>
              rename_i pb
              cases h3 with
              | ptr hc =>
                rename_i pc
                obtain ⟨ls, cs, sep, _, hsep, hk⟩ := rdStr_true hst.hr ha hk
                obtain ⟨c5, hk⟩ := chk_true hk
                rw [Nat.blt_eq] at c5
                obtain ⟨l0, c0, s0, _, hs0, hk⟩ := rdStr_true hst.hr hb hk
                obtain ⟨hn, hk⟩ := newB_true hk
                rw [forceN_eq] at hk
                have hr := hst.hr
                obtain ⟨r1, x1, le1⟩ := hr.newObj hn (ver := 0) (p := ⟨w.heap.size, 0, 0, 0⟩) rfl (o := .deferred (some [])) (b := .dfr true)
                  ⟨fun ver q hq => by
                    rcases Phi.new_inv hq with ⟨_, e, _⟩ | hq
                    · exact e
                    · have := (hr.dom _ _ _ hq).1; omega, _, Phi.new_self .., heap_push_new w _⟩
                refine wpIn_rangeFunc fun fnid _ => ?_
                obtain ⟨W1, hW1⟩ : ∃ W1, (w.alloc (.deferred (some []))).alloc (.loop (lrec fnid a p asg body w.heap.size .ready none)) = W1 := ⟨_, rfl⟩
                have hbel : Go.RowKit.Below (w.alloc (.deferred (some []))).heap.size (w.alloc (.deferred (some []))) W1 := by rw [← hW1]; exact (Go.RowKit.Below.refl _ _).alloc (Nat.le_refl _) _
                obtain ⟨r2, x2⟩ := r1.below hbel
                have hlp : W1.heap[w.heap.size + 1]? = some (.loop (lrec fnid a p asg body w.heap.size .ready none)) := by
                  rw [← hW1]; have := World.alloc_heap_new (w.alloc (.deferred (some []))) (.loop (lrec fnid a p asg body w.heap.size .ready none)); rwa [World.size_alloc] at this
                have hgsz : ∀ b o, (b, o) ∈ ν.G → b < w.heap.size := fun b o hbo => (Array.getElem?_eq_some_iff.1 (hr.gl b o hbo).1).1
                have hjn : Jn ν φ w h.ro (w.heap.size + 1) h.next w.heap.size (lrec fnid a p asg body w.heap.size) (φ.new h.next 0 ⟨w.heap.size, 0, 0, 0⟩) ⟨[], h.ro, h.next + 1, T4.set HD h.next (.dfr true) h.bl⟩ W1 := by
                  refine ⟨hlp, r2.ds [], (x1 _).trans (x2 _), rfl, rfl, fun id ver q hq e => ?_, _, Phi.new_self .., rfl⟩
                  have := (r1.dom id ver q hq).2
                  rw [World.size_alloc] at this
                  omega
                have hyp := loop_hyp (P := P) (ν := ν) hcf hda hdb hp hN hst.fr (l := w.heap.size + 1) (by omega) hgsz (fnid := fnid) (k := k) (ks := ks) (ds0 := h.ds) (mk := ⟨.mp h.next, []⟩) (idD := h.next) (D := w.heap.size) (ro := h.ro) hsp ha hb hc hsep hidx
                have hcall := split_calls shape (by rw [hsep.1]; exact c5) hyp (s := s0) (W := W1) ⟨_, _, l0, c0, Nat.succ l0, hjn, hs0, hk⟩
                refine ⟨w.heap.size + 1, [{ target := .collected w.heap.size, args := #[] }], W1, { target := .fn (.func gs) ⟨[.pointer (some ⟨pa.blk, 0, none⟩), .pointer (some ⟨pb.blk, 0, none⟩), .pointer (some ⟨pc.blk, 0, none⟩)]⟩, args := #[.func (.yield (w.heap.size + 1)) #[] #[]] }, W1, gs,
                  #[.func (.yield (w.heap.size + 1)) #[] #[]] ++ #[.pointer (some ⟨pa.blk, 0, none⟩), .pointer (some ⟨pb.blk, 0, none⟩), .pointer (some ⟨pc.blk, 0, none⟩)], W1, ?_, ?_, ?_, ?_, ?_, ?_⟩
                · rw [← hW1]; exact run_enterLoop_outer _ _ _ _ _
                · have ec : ∀ v, a.eval (.const v) = v := fun _ => rfl
                  simp [resolve, hvf, ec, Deferred.ofValue]
                · intro _ _; trivial
                · simp [invoke, hasBody_true hgb]
                · intro h; simp [Fence.wide] at h
                · refine callsW.2 ((callsW.1 hcall).mono fun e W hp => ?_)
                  cases e with
                  | outgrown => exact hp.elim
                  | panicked ch => exact hp.elim
                  | returned v =>
                    obtain ⟨φ', h', st, pe, lp, hst', hr', hx', hro', un', ⟨pD, hpD, hpD'⟩, hfin⟩ := hp
                    refine ⟨pe, { W with heap := W.heap.setIfInBounds (w.heap.size + 1) (.loop { lrec fnid a p asg body w.heap.size st pe with state := .exhausted }) }, ?_, ?_⟩
                    · have hs' : ((lrec fnid a p asg body w.heap.size st pe).state == .busy) = false := hst'
                      simp only [Instr.endLoop, Sem.run_bind, run_getLoop lp, Result.andThen_ok, hs', Bool.false_eq_true, if_false, run_setLoop lp, Sem.run_pure]
                      rfl
                    · have hgl : ∀ b o, (b, o) ∈ ν.G → b ≠ w.heap.size + 1 := fun b o hbo e => by have := hgsz b o hbo; omega
                      have hr4 := hr'.unm un' hgl (.loop { lrec fnid a p asg body w.heap.size st pe with state := .exhausted })
                      have hx4 := hx'.unm (by omega : w.heap.size ≤ w.heap.size + 1) (.loop { lrec fnid a p asg body w.heap.size st pe with state := .exhausted })
                      generalize ({ W with heap := W.heap.setIfInBounds (w.heap.size + 1) (.loop { lrec fnid a p asg body w.heap.size st pe with state := .exhausted }) } : World) = W4 at hr4 hx4 ⊢
                      have hst4 : St φ' ν L N ts ⟨⟨.mp h.next, []⟩ :: h.ds, h'.ro, h'.next, h'.bl⟩ { a with defers := [{ target := .collected w.heap.size, args := #[] }] ++ a.defers } W4 :=
                        ⟨hst.fr.mono hx4.le, hr4.ds _, ⟨.inl ⟨h.next, pD, rfl, hpD, by rw [hpD']⟩, hst.dr.mono hx4.le⟩⟩
                      cases pe with
                      | none => exact ⟨φ', ts, _, hst4, hx4, hro', hfin⟩
                      | some c =>
                        cases c <;> first | (exact hfin.elim) | skip
                        · exact wpIn_exit ⟨φ', ts, _, hst4, hx4, hro', hfin⟩
                        · exact wpIn_ret ⟨φ', ts, _, hst4, hx4, hro', hfin⟩
def mkRangeF1 (L N : Nat) (gs : FuncId) (decR : Code → (D L → Bool) → Bool) (f : Operand) (ps : Array Tmp) (asg body : Code) (r : D L → Bool) : Bool :=
  match ps with
  | ⟨[p]⟩ => bif Nat.blt p N && Nat.ble N (4 ^ L) then mkE L N f fun ef => mkS L p fun sp => decR asg fun da => decR body fun db => r (rangeD ef sp da db gs) else false
  | _ => false
theorem mkRangeF1_true {P : Program} {ν : Nu} {L N : Nat} {gs : FuncId} (hok : SplitOk1 P ν gs) {decR : Code → (D L → Bool) → Bool} (hdec : ∀ c r, decR c r = true → ∃ d, Good P ν true L N c d ∧ r d = true) {f : Operand} {ps : Array Tmp} {asg body : Code} {r : D L → Bool}
    (h : mkRangeF1 L N gs decR f ps asg body r = true) : ∃ d, Good P ν false L N (.rangeFunc f ps asg body) d ∧ r d = true := by
  unfold mkRangeF1 at h
  split at h
  · rename_i p
    cases hb : (Nat.blt p N && Nat.ble N (4 ^ L)) with
    | false => rw [hb] at h; cases h
    | true =>
      rw [hb, cond_true] at h
      simp only [Bool.and_eq_true] at hb
      obtain ⟨ef, hef, h⟩ := mkE_true h
      rw [mkS_eq] at h
      obtain ⟨da, hda, h⟩ := hdec _ _ h
      obtain ⟨db, hdb, h⟩ := hdec _ _ h
      exact ⟨_, rangeD_good hok hef (fun _ _ _ => rfl) hda hdb (by simpa [Nat.blt_eq] using hb.1) (nlT hb.2), h⟩
  · cases h
/-! ### a function that holds such a statement: the marks among its deferred calls -/
def marksK (ds : List ADef) (k : H → Bool) : H → Bool :=
  List.rec (motive := fun _ => H → Bool) k (fun a _ ih h => ADef.rec (motive := fun _ => Bool) (fun f _ => vMap f false fun id => chk (Nat.ble h.ro.lim id) (T4.getK HD id h.bl fun b => AB.rec (motive := fun _ => Bool) (fun _ _ _ _ _ _ _ => false) (fun _ _ => false) (fun _ _ _ => false)
    (fun o => chk o (T4.setK HD id (.dfr false) h.bl fun bl => ih ⟨h.ds, h.ro, h.next, bl⟩)) b)) a) ds
theorem marks_leave {P : Program} {ν : Nu} {fn : Func} {tmps : Array Value} {R : Ending → World → Prop} {u : FrameMode} (hu : u ≠ .run) {φ0 : Phi} {w0 : World} {ro : RO} {k : H → Bool}
    (hfin : ∀ φ h w, HR φ ν h w → Ext ro φ0 w0 φ w → φ0.le φ → h.ro = ro → k h = true → LeavesIn (FW none) 1 P fn tmps R [] u w) :
    ∀ (as : List ADef) (ds : List Deferred) (φ : Phi) (h : H) (w : World), DR φ ν as ds → HR φ ν h w → Ext ro φ0 w0 φ w → h.ro = ro → marksK as k h = true → LeavesInM (FW none) 1 P fn tmps R ds u w
  | [], ds, φ, h, w, hd, hr, hx, hro, hk => by
    cases ds with
    | nil => exact hfin φ h w hr hx hx.le hro hk
    | cons d ds => exact hd.elim
  | a :: as, ds, φ, h, w, hd, hr, hx, hro, hk => by
    cases ds with
    | nil => exact hd.elim
    | cons d ds =>
      obtain ⟨hd1, hd2⟩ := hd
      obtain ⟨af, aa⟩ := a
      have hk' : (vMap af false fun id => chk (Nat.ble h.ro.lim id) (T4.getK HD id h.bl fun b => AB.rec (motive := fun _ => Bool) (fun _ _ _ _ _ _ _ => false) (fun _ _ => false) (fun _ _ _ => false)
        (fun o => chk o (T4.setK HD id (.dfr false) h.bl fun bl => marksK as k ⟨h.ds, h.ro, h.next, bl⟩)) b)) = true := hk
      rcases vMap_true hk' with ⟨_, hf⟩ | ⟨id, e1, hk1⟩
      · cases hf
      · obtain ⟨c1, hk2⟩ := chk_true hk1
        obtain ⟨b, hb, hk3⟩ := T4.getK_true _ _ _ _ hk2
        cases b with
        | cells s n lw fz opn el rows => cases hk3
        | mapo es c => cases hk3
        | siter a b c => cases hk3
        | dfr o =>
          obtain ⟨c2, hk4⟩ := chk_true (show chk o _ = true from hk3)
          rw [T4.setK_eq] at hk4
          rw [c2] at hb
          rcases hd1 with ⟨id', p, e2, hp, hde⟩ | ⟨f, fs, cs, xs, ys, zs, e2, _, _, _, _⟩
          · simp only at e2
            rw [e1] at e2
            injection e2 with e2
            subst e2
            obtain ⟨h0, p', hp', hw⟩ := hr.bl id _ (hr.dom _ _ _ hp).1 hb
            rw [hp] at hp'; cases hp'
            have hw : w.heap[p.blk]? = some (.deferred (some [])) := by simpa using hw
            have hpb : p.blk < w.heap.size := (Array.getElem?_eq_some_iff.1 hw).1
            obtain ⟨g1, g2⟩ := hr.setObj hp (o := .deferred none) (b := .dfr false) (nlT c1) ⟨h0, p, hp, by simp [hpb]⟩
            have htake : (Instr.takeDeferred p.blk).run P w = .ok [] { w with heap := w.heap.setIfInBounds p.blk (.deferred none) } := by
              simp [Instr.takeDeferred, getObj, setObj, Sem.run, hw]
            refine ⟨hu, .inl ⟨p.blk, _, by rw [hde], htake, ?_⟩⟩
            exact marks_leave hu hfin as ds φ _ _ hd2 g1 (hx.trans (hro ▸ g2)) hro hk4
          · simp only at e2
            rw [e1] at e2; cases e2
def mkFunM (P : Program) (mk : MkCode) (f : FuncId) (r : FnD → Bool) : Bool :=
  match P.funcs[f]? with
  | none => false
  | some fn => match fn.body with
    | none => false
    | some c => bif Nat.ble fn.ntmps (4 ^ levels fn.ntmps) && Nat.ble (fn.params.size + fn.nfree) fn.ntmps && !(fn.name == "runtime.NumGoroutine") then
        (fun L => mk false L fn.ntmps c fun d => mkRess P L fn.ntmps fn.results.toList fun res => mkArgs L (fn.params.size + fn.nfree) 0 fun ent => (fun unk =>
          r fun cf args h kr kp => ent args unk fun ts => d cf ts ⟨[], h.ro, h.next, h.bl⟩
            (fun ts h' => marksK h'.ds (fun h' => res ts ⟨[], h'.ro, h'.next, h'.bl⟩ fun l => packK (isOneL fn.results.toList.length) l fun av => kr av ⟨h.ds, h'.ro, h'.next, h'.bl⟩) h')
            ⟨fun _ _ _ => false, fun ts h' => marksK h'.ds (fun h' => res ts ⟨[], h'.ro, h'.next, h'.bl⟩ fun l => packK (isOneL fn.results.toList.length) l fun av => kr av ⟨h.ds, h'.ro, h'.next, h'.bl⟩) h',
              fun _ av h' => marksK h'.ds (fun h' => kp av ⟨h.ds, h'.ro, h'.next, h'.bl⟩) h'⟩) (FT.unk L)) (levels fn.ntmps) else false
theorem mkFunM_true {P : Program} {ν : Nu} {mk : MkCode} (hmk : GoodMk P ν mk) {f : FuncId} {r : FnD → Bool} (h : mkFunM P mk f r = true) : ∃ d, FnGood P ν f d ∧ r d = true := by
  unfold mkFunM at h
  split at h
  · cases h
  · rename_i fn hf
    split at h
    · cases h
    · rename_i c hb
      cases hcond : (Nat.ble fn.ntmps (4 ^ levels fn.ntmps) && Nat.ble (fn.params.size + fn.nfree) fn.ntmps && !(fn.name == "runtime.NumGoroutine")) with
      | false => rw [hcond] at h; cases h
      | true =>
        rw [hcond, cond_true] at h
        simp only [Bool.and_eq_true, Bool.not_eq_true'] at hcond
        obtain ⟨⟨hN, hm⟩, hname⟩ := hcond
        have hN := nlT hN
        have hm := nlT hm
        generalize levels fn.ntmps = L at h hN
        obtain ⟨d, hd, h⟩ := hmk _ _ _ _ _ h
        obtain ⟨res, hres, h⟩ := mkRess_true (ν := ν) h
        obtain ⟨ent, hent, h⟩ := mkArgs_true h
        refine ⟨_, fun cf hc args h0 kr kp hk φ w vs hr hv => .inl ⟨callFunc_enter hf hb hname _ _, ?_⟩, h⟩
        obtain ⟨ts, hal, hfr, hk1⟩ := hent φ ν fn.ntmps args vs _ (Array.replicate fn.ntmps undef) _ hN (by omega) hv (FR.enter hr.gp ν L fn.ntmps) hk
        have hvl := hv.length
        rw [enter_tmps vs fn.ntmps (by omega)] at hfr
        refine callsW.1 (callsIn_of_wp_marks (F := FW none) (n := 1) hf hb trivial (wpIn_mono (hd cf hc none (.inl rfl) φ ts ⟨[], h0.ro, h0.next, h0.bl⟩ ⟨_, []⟩ w _ _ ⟨hfr, hr.ds [], trivial⟩ hk1) fun e a' w' hp => ?_))
        have hend : At φ ν L fn.ntmps h0.ro w a' w' (fun ts h' => marksK h'.ds (fun h' => res ts ⟨[], h'.ro, h'.next, h'.bl⟩ fun l => packK (isOneL fn.results.toList.length) l fun av => kr av ⟨h0.ds, h'.ro, h'.next, h'.bl⟩) h') →
            LeavesInM (FW none) 1 P fn a'.tmps (FPost φ ν h0.ro w h0.ds kr kp) a'.defers .returning w' := by
          rintro ⟨φ', ts', h', hst, hx, hro, hk2⟩
          refine marks_leave (φ0 := φ') (w0 := w') (ro := h0.ro) (by simp) (fun φ2 h2 w2 hr2 hx2 hle2 hro2 hk3 => ?_) h'.ds a'.defers φ' h' w' hst.dr hst.hr (Ext.refl _ _ _) hro hk2
          obtain ⟨rs, avs, hrun, hvs, hl, hk5⟩ := hres φ2 ts' ⟨[], h2.ro, h2.next, h2.bl⟩ ⟨a'.tmps, []⟩ w2 _ ⟨hst.fr.mono hle2, hr2.ds [], trivial⟩ hk3
          obtain ⟨av, hav, hk6⟩ := packK_true hvs hl hk5
          exact ⟨_, run_results hrun, φ2, av, _, hav, hr2.ds h0.ds, hx.trans hx2, hro2, rfl, hk6⟩
        cases e with
        | normal => exact hend hp
        | ret => exact hend hp
        | exit id => obtain ⟨_, _, _, _, _, _, hk2⟩ := hp; cases hk2
        | goto l => exact hp.elim
        | panic chain =>
          obtain ⟨φ', ts', h', v, av, hch, hvr, hst, hx, hro, hk2⟩ := hp
          refine marks_leave (φ0 := φ') (w0 := w') (ro := h0.ro) (by simp) (fun φ2 h2 w2 hr2 hx2 hle2 hro2 hk3 => ?_) h'.ds a'.defers φ' h' w' hst.dr hst.hr (Ext.refl _ _ _) hro hk2
          exact ⟨φ2, av, _, v, hch, hvr.mono hle2, hr2.ds h0.ds, hx.trans hx2, hro2, rfl, hk3⟩
        | outgrown => exact hp.elim
end
end Go.Abs

/-
  A verified evaluator: the iterator of slices.Backward by contract.
-/
namespace Go.Abs
noncomputable section
/-! ### the iterator's text -/
structure BackShape (P : Program) (g : FuncId) (TS I B : Nat) : Prop where
  ex : ∃ fn i0 r0 i1 r1 i3 r3 i2 r2, P.funcs[g]? = some fn ∧ (fn.name == "runtime.NumGoroutine") = false ∧ fn.ntmps = 19 ∧ fn.results = #[] ∧
    fn.body = some (.seq (.region i0 r0 false) (.block 0 (.loop (.seq (.seq (.region i1 r1 false) (.cond (.tmp 8) .skip (.exit 0))) (.seq (.block 1 (.seq (.region i3 r3 false) (.cond (.tmp 18) .ret .skip))) (.region i2 r2 false)))))) ∧
    r0.toList.map okey = [(some 4, .load TS (.tmp 1), none), (some 5, .call { callee := .builtin .len, args := #[.tmp 4], argTypes := #[TS] }, none), (some 6, .binOp .sub I (.tmp 5) (.const (.int .i64 1)) I, none), (some 3, .assign (.tmp 6), none)] ∧
    r1.toList.map okey = [(some 7, .move (.tmp 3), none), (some 8, .binOp .geq I (.tmp 7) (.const (.int .i64 0)) I, none)] ∧
    r3.toList.map okey = [(some 11, .move (.tmp 0), none), (some 12, .move (.tmp 3), none), (some 13, .load TS (.tmp 1), none), (some 14, .move (.tmp 3), none), (some 15, .indexAddr TS (.tmp 13) (.tmp 14), none), (some 16, .load I (.tmp 15), none),
      (some 17, .call { callee := .value (.tmp 11), args := #[.tmp 12, .tmp 16], argTypes := #[I, I] }, none), (some 18, .unOp .not B (.tmp 17), none)] ∧
    r2.toList.map okey = [(some 9, .move (.tmp 3), none), (some 10, .binOp .sub I (.tmp 9) (.const (.int .i64 1)) I, none), (some 3, .assign (.tmp 10), none)]
  tS : P.underlying TS = some (.slice I)
  tI : P.underlying I = some (.int .i64)
  iI : ∃ inf, P.info? I = some inf ∧ inf.size = 1
/-! ### the walk -/
structure BInv (b l : Nat) (A : Act) : Prop where
  sz : A.tmps.size = 19
  t0 : A.eval (.tmp 0) = .func (.yield l) #[] #[]
  t1 : A.eval (.tmp 1) = .pointer (some ⟨b, 0, none⟩)
  df : A.defers = []
theorem BInv.put {b l : Nat} {A : Act} (h : BInv b l A) {d : Tmp} (hd : 2 ≤ d) (v : Value) : BInv b l (A.put (some d) v) := by
  refine ⟨by rw [size_put]; exact h.sz, ?_, ?_, h.df⟩
  · rw [eval_put_ne _ (fun e => by rw [e] at hd; exact absurd hd (by decide))]; exact h.t0
  · rw [eval_put_ne _ (fun e => by rw [e] at hd; exact absurd hd (by decide))]; exact h.t1
def Fy (A : Act) (l : List (Nat × Value)) : Prop := A.tmps.size = 19 ∧ ∀ (i : Nat) (t : Nat) (v : Value), l[i]? = some (t, v) → A.eval (.tmp t) = v
theorem Fy.get {A : Act} {l : List (Nat × Value)} (h : Fy A l) (i : Nat) {t : Nat} {v : Value} (e : l[i]? = some (t, v)) : A.eval (.tmp t) = v := h.2 i t v e
theorem Fy.put {A : Act} {l : List (Nat × Value)} (h : Fy A l) (d : Nat) (v : Value) (hd : Nat.blt d 19 = true) (hn : l.all (fun p => !Nat.beq p.1 d) = true) : Fy (A.put (some d) v) ((d, v) :: l) := by
  refine ⟨by rw [size_put]; exact h.1, fun i t u e => ?_⟩
  cases i with
  | zero =>
    simp at e
    obtain ⟨rfl, rfl⟩ := e
    exact eval_put_same _ (by rw [h.1]; simpa [Nat.blt_eq] using hd)
  | succ i =>
    have e' : l[i]? = some (t, u) := by simpa using e
    have hne : d ≠ t := by
      rintro rfl
      have := List.all_eq_true.1 hn _ (List.mem_of_getElem? e')
      simp at this
    rw [eval_put_ne _ hne]
    exact h.2 i t u e'
theorem fy0 {A : Act} (hs : A.tmps.size = 19) : Fy A [] := ⟨hs, fun i t' v' e => by simp at e⟩
theorem fy1 {A : Act} {t : Nat} {v : Value} (hs : A.tmps.size = 19) (h : A.eval (.tmp t) = v) : Fy A [(t, v)] := ⟨hs, fun i t' v' e => by
  match i, e with
  | 0, e => simp at e; obtain ⟨rfl, rfl⟩ := e; exact h
  | i + 1, e => simp at e⟩
def YRound2 (P : Program) (l : Nat) (x y : Value) (W : World) (T F : World → Prop) : Prop :=
  YieldAt (FW none) 0 P l #[x, y] W fun e W' => match e with
    | .returned v => (v = .bool true ∧ T W') ∨ (v = .bool false ∧ F W')
    | .outgrown => False
    | .panicked _ => False
theorem run_yield2 {P : Program} {ρ : Operand → Value} {o : Oper} {t : Tmp} {x y : Operand} {at_ : Array TypeId} {W : World} {l : Nat} {R : Result Next} (ho : o.op = .call { callee := .value (.tmp t), args := #[x, y], argTypes := at_ }) (ht : ρ (.tmp t) = .func (.yield l) #[] #[])
    (hy : (Instr.yield l #[ρ x, ρ y]).run P W = R) : (execOp ρ o).run P W = R := by
  rw [execOp_call ho]
  simp [resolve, ht, Deferred.ofValue, invoke, hy]
theorem run_lenS {P : Program} {ρ : Operand → Value} {o : Oper} {t el : TypeId} {x : Operand} {base : Option Addr} {n cap : Nat} {W : World} (ho : o.op = .call { callee := .builtin .len, args := #[x], argTypes := #[t] }) (hd : P.underlying t = some (.slice el)) (hx : ρ x = .slice base n cap) :
    (execOp ρ o).run P W = .ok (.value (goInt n)) W := by
  rw [execOp_builtin ho]
  simp [builtin, Builtin.len_, hx, run_underlying' hd]
theorem run_index1 {P : Program} {ρ : Operand → Value} {o : Oper} {t el : TypeId} {x y : Operand} {base off n cap i : Nat} {inf : TypeInfo} {W : World} (ho : o.op = .indexAddr t x y) (hd : P.underlying t = some (.slice el)) (hi : P.info? el = some inf) (hs : inf.size = 1)
    (hx : ρ x = .slice (some ⟨base, off, none⟩) n cap) (hy : ρ y = .int .i64 (i : Int)) (hb : i < n) : (execOp ρ o).run P W = .ok (.value (.pointer (some ⟨base, off + i, none⟩))) W := by
  unfold execOp; rw [ho]
  simp [hx, hy, Instr.indexAt, asIntOf, run_underlying' hd, run_sizeOf' hi, hs, hb, addr_add]
theorem run_load2 {P : Program} {ρ : Operand → Value} {o : Oper} {t : TypeId} {x : Operand} {b j : Nat} {d : TypeDesc} {v : Value} {W : World} (ho : o.op = .load t x) (hd : P.underlying t = some d) (hag : isAggD d = false)
    (hx : ρ x = .pointer (some ⟨b, j, none⟩)) (hc : W.cell? ⟨b, j, none⟩ = some v) : (execOp ρ o).run P W = .ok (.value v) W := by
  unfold execOp; rw [ho]
  simp [hx, Instr.loadAt, Instr.sureAddr, run_loadVar1 hd hag hc]
section
variable {P : Program} {TS I B b l : Nat} {A : Act} {W : World} {Q : Exit → Act → World → Prop}
theorem wk0 {i0 : Nat} {r0 : Array Oper} {base : Option Addr} {n cap : Nat}
    (k0 : r0.toList.map okey = [(some 4, .load TS (.tmp 1), none), (some 5, .call { callee := .builtin .len, args := #[.tmp 4], argTypes := #[TS] }, none), (some 6, .binOp .sub I (.tmp 5) (.const (.int .i64 1)) I, none), (some 3, .assign (.tmp 6), none)])
    (tS : P.underlying TS = some (.slice I)) (hI : BInv b l A) (hc : W.cell? ⟨b, 0, none⟩ = some (.slice base n cap)) (hn : n < 4294967281)
    (h : ∀ A', BInv b l A' → A'.eval (.tmp 3) = .int .i64 ((n : Int) - 1) → Q .normal A' W) : (Code.region i0 r0 false).wpIn (FW none) 1 P Q A W := by
  refine wpIn_region ?_
  rw [range_key k0]
  obtain ⟨o0, h0, d0, p0, g0⟩ := key_at k0 0 rfl
  obtain ⟨o1, h1, d1, p1, g1⟩ := key_at k0 1 rfl
  obtain ⟨o2, h2, d2, p2, g2⟩ := key_at k0 2 rfl
  obtain ⟨o3, h3, d3, p3, g3⟩ := key_at k0 3 rfl
  refine stepV h0 g0 (run_load1 p0 tS rfl hI.t1 hc) ?_
  rw [d0]
  have f0 := (fy0 hI.sz).put 4 (.slice base n cap) rfl rfl
  have I0 := hI.put (d := 4) (by decide) (.slice base n cap)
  generalize A.put (some 4) (.slice base n cap) = A0 at f0 I0 ⊢
  refine stepV h1 g1 (run_lenS p1 tS (f0.get 0 rfl)) ?_
  rw [d1]
  have f1 := f0.put 5 (goInt n) rfl rfl
  have I1 := I0.put (d := 5) (by decide) (goInt n)
  generalize A0.put (some 5) (goInt n) = A1 at f1 I1 ⊢
  refine stepV h2 g2 (run_bin1 p2 (f1.get 0 rfl) rfl (v := .int .i64 ((n : Int) - 1)) (by
    have hw := wrap_small .i64 ((n : Int) - 1) (by simp [loK]; omega) (by simp [hiK]; omega)
    simp [binOp, Op.intArith, hw])) ?_
  rw [d2]
  have f2 := f1.put 6 (.int .i64 ((n : Int) - 1)) rfl rfl
  have I2 := I1.put (d := 6) (by decide) (.int .i64 ((n : Int) - 1))
  generalize A1.put (some 6) (.int .i64 ((n : Int) - 1)) = A2 at f2 I2 ⊢
  refine stepV h3 g3 (run_move1 (.inr p3)) ?_
  rw [d3, f2.get 0 rfl]
  exact h _ (I2.put (by decide) _) (eval_put_same _ (by rw [I2.sz]; decide))
theorem wk1 {i1 : Nat} {r1 : Array Oper} {z : Int}
    (k1 : r1.toList.map okey = [(some 7, .move (.tmp 3), none), (some 8, .binOp .geq I (.tmp 7) (.const (.int .i64 0)) I, none)])
    (hI : BInv b l A) (h3 : A.eval (.tmp 3) = .int .i64 z)
    (h : ∀ A', BInv b l A' → A'.eval (.tmp 3) = .int .i64 z → A'.eval (.tmp 8) = .bool (decide (z ≥ 0)) → Q .normal A' W) : (Code.region i1 r1 false).wpIn (FW none) 1 P Q A W := by
  refine wpIn_region ?_
  rw [range_key k1]
  obtain ⟨o0, h0, d0, p0, g0⟩ := key_at k1 0 rfl
  obtain ⟨o1, h1, d1, p1, g1⟩ := key_at k1 1 rfl
  have f := fy1 hI.sz h3
  refine stepV h0 g0 (run_move1 (.inl p0)) ?_
  rw [d0, h3]
  have f0 := f.put 7 (.int .i64 z) rfl rfl
  have I0 := hI.put (d := 7) (by decide) (.int .i64 z)
  generalize A.put (some 7) (.int .i64 z) = A0 at f0 I0 ⊢
  refine stepV h1 g1 (run_bin1 p1 (f0.get 0 rfl) rfl (v := .bool (decide (z ≥ 0))) (by simp [binOp, Op.intCmp])) ?_
  rw [d1]
  have f1 := f0.put 8 (.bool (decide (z ≥ 0))) rfl rfl
  exact h _ (I0.put (by decide) _) (f1.get 2 rfl) (f1.get 0 rfl)
theorem wk3 {i3 : Nat} {r3 : Array Oper} {base off n cap i : Nat} {x : Value} {T F : World → Prop}
    (k3 : r3.toList.map okey = [(some 11, .move (.tmp 0), none), (some 12, .move (.tmp 3), none), (some 13, .load TS (.tmp 1), none), (some 14, .move (.tmp 3), none), (some 15, .indexAddr TS (.tmp 13) (.tmp 14), none), (some 16, .load I (.tmp 15), none),
      (some 17, .call { callee := .value (.tmp 11), args := #[.tmp 12, .tmp 16], argTypes := #[I, I] }, none), (some 18, .unOp .not B (.tmp 17), none)])
    (tS : P.underlying TS = some (.slice I)) (tI : P.underlying I = some (.int .i64)) (iI : ∃ inf, P.info? I = some inf ∧ inf.size = 1) (hI : BInv b l A) (h3 : A.eval (.tmp 3) = .int .i64 (i : Int))
    (hc : W.cell? ⟨b, 0, none⟩ = some (.slice (some ⟨base, off, none⟩) n cap)) (hin : i < n) (hx : W.cell? ⟨base, off + i, none⟩ = some x) (hy : YRound2 P l (goInt i) x W T F)
    (h : ∀ A' t W', BInv b l A' → A'.eval (.tmp 3) = .int .i64 (i : Int) → A'.eval (.tmp 18) = .bool (!t) → (t = true → T W') → (t = false → F W') → Q .normal A' W') : (Code.region i3 r3 false).wpIn (FW none) 1 P Q A W := by
  refine wpIn_region ?_
  rw [range_key k3]
  obtain ⟨o0, h0, d0, p0, g0⟩ := key_at k3 0 rfl
  obtain ⟨o1, h1, d1, p1, g1⟩ := key_at k3 1 rfl
  obtain ⟨o2, h2, d2, p2, g2⟩ := key_at k3 2 rfl
  obtain ⟨o3, h3', d3, p3, g3⟩ := key_at k3 3 rfl
  obtain ⟨o4, h4, d4, p4, g4⟩ := key_at k3 4 rfl
  obtain ⟨o5, h5, d5, p5, g5⟩ := key_at k3 5 rfl
  obtain ⟨o6, h6, d6, p6, g6⟩ := key_at k3 6 rfl
  obtain ⟨o7, h7, d7, p7, g7⟩ := key_at k3 7 rfl
  obtain ⟨inf, hinf, hsz⟩ := iI
  have f := fy1 hI.sz h3
  refine stepV h0 g0 (run_move1 (.inl p0)) ?_
  rw [d0, hI.t0]
  have f0 := f.put 11 (.func (.yield l) #[] #[]) rfl rfl
  have I0 := hI.put (d := 11) (by decide) (.func (.yield l) #[] #[])
  generalize A.put (some 11) (.func (.yield l) #[] #[]) = A0 at f0 I0 ⊢
  refine stepV h1 g1 (run_move1 (.inl p1)) ?_
  rw [d1, f0.get 1 rfl]
  have f1 := f0.put 12 (.int .i64 (i : Int)) rfl rfl
  have I1 := I0.put (d := 12) (by decide) (.int .i64 (i : Int))
  generalize A0.put (some 12) (.int .i64 (i : Int)) = A1 at f1 I1 ⊢
  refine stepV h2 g2 (run_load1 p2 tS rfl I1.t1 hc) ?_
  rw [d2]
  have f2 := f1.put 13 (.slice (some ⟨base, off, none⟩) n cap) rfl rfl
  have I2 := I1.put (d := 13) (by decide) (.slice (some ⟨base, off, none⟩) n cap)
  generalize A1.put (some 13) (.slice (some ⟨base, off, none⟩) n cap) = A2 at f2 I2 ⊢
  refine stepV h3' g3 (run_move1 (.inl p3)) ?_
  rw [d3, f2.get 3 rfl]
  have f3 := f2.put 14 (.int .i64 (i : Int)) rfl rfl
  have I3 := I2.put (d := 14) (by decide) (.int .i64 (i : Int))
  generalize A2.put (some 14) (.int .i64 (i : Int)) = A3 at f3 I3 ⊢
  refine stepV h4 g4 (run_index1 p4 tS hinf hsz (f3.get 1 rfl) (f3.get 0 rfl) hin) ?_
  rw [d4]
  have f4 := f3.put 15 (.pointer (some ⟨base, off + i, none⟩)) rfl rfl
  have I4 := I3.put (d := 15) (by decide) (.pointer (some ⟨base, off + i, none⟩))
  generalize A3.put (some 15) (.pointer (some ⟨base, off + i, none⟩)) = A4 at f4 I4 ⊢
  refine stepV h5 g5 (run_load2 p5 tI rfl (f4.get 0 rfl) hx) ?_
  rw [d5]
  have f5 := f4.put 16 x rfl rfl
  have I5 := I4.put (d := 16) (by decide) x
  generalize A4.put (some 16) x = A5 at f5 I5 ⊢
  obtain ⟨fn, tmps, asg, body, hrun, hround⟩ := hy
  have e12 : A5.eval (.tmp 12) = goInt i := f5.get 4 rfl
  have e16 : A5.eval (.tmp 16) = x := f5.get 0 rfl
  refine stepY h6 g6 (run_yield2 p6 (f5.get 5 rfl) (by rw [e12, e16]; exact hrun)) ?_
  refine hround.mono fun e W' hp => ?_
  cases e with
  | outgrown => exact hp.elim
  | panicked ch => exact hp.elim
  | returned v =>
    have key : ∀ t : Bool, v = .bool t → (t = true → T W') → (t = false → F W') → wpOpsIn (FW none) 1 P r3 Q [7] (A5.put o6.dst v) W' := by
      intro t ev ht hf
      rw [ev, d6]
      have f6 := f5.put 17 (.bool t) rfl rfl
      have I6 := I5.put (d := 17) (by decide) (.bool t)
      generalize A5.put (some 17) (.bool t) = A6 at f6 I6 ⊢
      have e17 : A6.eval (.tmp 17) = .bool t := f6.get 0 rfl
      refine stepV h7 g7 (show (execOp A6.eval o7).run P W' = .ok (.value (.bool (!t))) W' from by unfold execOp; rw [p7]; simp [e17, Op.unary]) ?_
      rw [d7]
      have f7 := f6.put 18 (.bool (!t)) rfl rfl
      exact h _ t W' (I6.put (by decide) _) (f7.get 8 rfl) (f7.get 0 rfl) ht hf
    rcases hp with ⟨e, hT⟩ | ⟨e, hF⟩
    · exact key true e (fun _ => hT) (fun h => by cases h)
    · exact key false e (fun h => by cases h) (fun _ => hF)
theorem wk2 {i2 : Nat} {r2 : Array Oper} {i : Nat}
    (k2 : r2.toList.map okey = [(some 9, .move (.tmp 3), none), (some 10, .binOp .sub I (.tmp 9) (.const (.int .i64 1)) I, none), (some 3, .assign (.tmp 10), none)])
    (hI : BInv b l A) (h3 : A.eval (.tmp 3) = .int .i64 (i : Int)) (hi : i < 4294967281)
    (h : ∀ A', BInv b l A' → A'.eval (.tmp 3) = .int .i64 ((i : Int) - 1) → Q .normal A' W) : (Code.region i2 r2 false).wpIn (FW none) 1 P Q A W := by
  refine wpIn_region ?_
  rw [range_key k2]
  obtain ⟨o0, h0, d0, p0, g0⟩ := key_at k2 0 rfl
  obtain ⟨o1, h1, d1, p1, g1⟩ := key_at k2 1 rfl
  obtain ⟨o2, h2, d2, p2, g2⟩ := key_at k2 2 rfl
  have f := fy1 hI.sz h3
  refine stepV h0 g0 (run_move1 (.inl p0)) ?_
  rw [d0, h3]
  have f0 := f.put 9 (.int .i64 (i : Int)) rfl rfl
  have I0 := hI.put (d := 9) (by decide) (.int .i64 (i : Int))
  generalize A.put (some 9) (.int .i64 (i : Int)) = A0 at f0 I0 ⊢
  refine stepV h1 g1 (run_bin1 p1 (f0.get 0 rfl) rfl (v := .int .i64 ((i : Int) - 1)) (by
    have hw := wrap_small .i64 ((i : Int) - 1) (by simp [loK]; omega) (by simp [hiK]; omega)
    simp [binOp, Op.intArith, hw])) ?_
  rw [d1]
  have f1 := f0.put 10 (.int .i64 ((i : Int) - 1)) rfl rfl
  have I1 := I0.put (d := 10) (by decide) (.int .i64 ((i : Int) - 1))
  generalize A0.put (some 10) (.int .i64 ((i : Int) - 1)) = A1 at f1 I1 ⊢
  refine stepV h2 g2 (run_move1 (.inr p2)) ?_
  rw [d2, f1.get 0 rfl]
  exact h _ (I1.put (by decide) _) (eval_put_same _ (by rw [I1.sz]; decide))
structure BHyp (P : Program) (b l : Nat) (J : Nat → World → Prop) (Z : World → Prop) : Prop where
  step : ∀ i W, J (i + 1) W → ∃ base off n cap x, W.cell? ⟨b, 0, none⟩ = some (.slice (some ⟨base, off, none⟩) n cap) ∧ i < n ∧ W.cell? ⟨base, off + i, none⟩ = some x ∧ YRound2 P l (goInt i) x W (J i) Z
  done : ∀ W, J 0 W → Z W
theorem back_calls {g : FuncId} (sh : BackShape P g TS I B) {J : Nat → World → Prop} {Z : World → Prop} (hy : BHyp P b l J Z) {base : Option Addr} {n cap : Nat} {W : World} (h0 : J n W) (hc : W.cell? ⟨b, 0, none⟩ = some (.slice base n cap)) (hn : n < 4294967281) :
    CallsIn (FW none) 1 P g (#[.func (.yield l) #[] #[]] ++ #[.pointer (some ⟨b, 0, none⟩)]) W (SEnd Z) := by
  obtain ⟨⟨fn, i0, r0, i1, r1, i3, r3, i2, r2, hf, hname, hnt, hres, hbody, k0, k1, k3, k2⟩, tS, tI, iI⟩ := sh
  refine callsIn_of_wp hf hbody trivial ?_
  rw [hnt]
  generalize hA : (⟨#[.func (.yield l) #[] #[]] ++ #[.pointer (some ⟨b, 0, none⟩)] ++ Array.replicate (19 - (#[.func (.yield l) #[] #[]] ++ #[.pointer (some ⟨b, 0, none⟩)] : Array Value).size) undef, []⟩ : Act) = A
  have hI : BInv b l A := by
    subst hA
    exact ⟨by simp, by simp [Act.eval], by simp [Act.eval], rfl⟩
  clear hA
  have hres' : ∀ (A : Act) (W : World), (results fn A.tmps).run P W = .ok (.tuple #[]) W := fun A W => by simp [results, hres]
  have hend : ∀ A W, A.defers = [] → Z W → bodyPost P fn (SEnd Z) .ret A W := fun A W hd hz => ⟨hd, _, hres' A W, hz⟩
  have hend' : ∀ A W, A.defers = [] → Z W → bodyPost P fn (SEnd Z) .normal A W := fun A W hd hz => ⟨hd, _, hres' A W, hz⟩
  have hloop : ∀ (Q : Exit → Act → World → Prop), (∀ A W, A.defers = [] → Z W → Q .ret A W) → (∀ A W, A.defers = [] → Z W → Q (.exit 0) A W) → ∀ (m i : Nat) (A : Act) (W : World), i < m → i < 4294967281 → BInv b l A → A.eval (.tmp 3) = .int .i64 ((i : Int) - 1) → J i W →
      Code.roundsIn (FW none) 1 P (.seq (.seq (.region i1 r1 false) (.cond (.tmp 8) .skip (.exit 0))) (.seq (.block 1 (.seq (.region i3 r3 false) (.cond (.tmp 18) .ret .skip))) (.region i2 r2 false))) Q m A W := by
    intro Q hret hexit m
    induction m with
    | zero => intro i A W h; omega
    | succ m ih =>
      intro i A W hm hb hI h3 hJ
      rw [roundsIn_succ]
      refine wpIn_seq (wpIn_seq (wk1 k1 hI h3 fun A1 I1 e3 e8 => ?_))
      cases i with
      | zero =>
        have hz : decide (((0 : Nat) : Int) - 1 ≥ 0) = false := by decide
        rw [hz] at e8
        exact wpIn_cond_false e8 (wpIn_exit (hexit A1 W I1.df (hy.done W hJ)))
      | succ i =>
        have hz : decide (((i + 1 : Nat) : Int) - 1 ≥ 0) = true := by simp
        rw [hz] at e8
        have e3' : A1.eval (.tmp 3) = .int .i64 (i : Int) := by rw [e3]; congr 1; omega
        refine wpIn_cond_true e8 (wpIn_skip ?_)
        obtain ⟨base, off, n, cap, x, c1, c2, c3, c4⟩ := hy.step i W hJ
        refine wpIn_seq (wpIn_block (wpIn_seq (wk3 k3 tS tI iI I1 e3' c1 c2 c3 c4 fun A2 t W2 I2 e3b e18 hT hF => ?_)))
        cases t with
        | true =>
          refine wpIn_cond_false e18 (wpIn_skip ?_)
          exact wk2 k2 I2 e3b (by omega) fun A3 I3 e3c => ih i A3 W2 (by omega) (by omega) I3 e3c (hT rfl)
        | false => exact wpIn_cond_true e18 (wpIn_ret (hret A2 W2 I2.df (hF rfl)))
  refine wpIn_seq (wk0 k0 tS hI hc hn fun A1 I1 e3 => ?_)
  exact wpIn_block (wpIn_loop_rounds (n + 1) (hloop (Exit.inBlock 0 (bodyPost P fn (SEnd Z))) hend hend' (n + 1) n A1 W (by omega) hn I1 e3 h0))
end
end
end Go.Abs

/-
  A verified evaluator: a range over slices.Backward.
-/
namespace Go.Abs
noncomputable section
/-! ### one round, by the evaluator -/
def roundK2 {L : Nat} (cf : Fun) (ts : FT L) (ks : Ks L) (ds0 : List ADef) (mk : ADef) (sp sq : Setter (FT L)) (da db : D L) (x y : AV) (h : H) (kn : H → Bool) : Bool :=
  sp ts x fun ts0 => sq ts0 y fun ts1 => da cf ts1 h (fun ts2 h2 => isNil h2.ds (db cf ts2 h2 (fun _ h3 => isNil h3.ds (kn h3))
    ⟨fun id _ h3 => isNil h3.ds (ks.ex id ts ⟨mk :: ds0, h3.ro, h3.next, h3.bl⟩), fun _ h3 => isNil h3.ds (ks.rt ts ⟨mk :: ds0, h3.ro, h3.next, h3.bl⟩), fun _ _ _ => false⟩)) ⟨fun _ _ _ => false, fun _ _ => false, fun _ _ _ => false⟩
def lrec2 (fnid : FuncId) (a : Act) (p q : Tmp) (asg body : Code) (D : Nat) (st : LoopState) (pe : Option Code) : Loop :=
  { state := st, pending := pe, fn := fnid, tmps := a.tmps, params := #[p, q], assign := asg, body, defers := D }
theorem round2_true {P : Program} {ν : Nu} {L N : Nat} {cf : Fun} (hc : FunOk P ν cf) {asg body : Code} {da db : D L} (hda : Good P ν true L N asg da) (hdb : Good P ν true L N body db) {p q : Tmp} (hp : p < N) (hq : q < N) (hN : N ≤ 4 ^ L) {φ : Phi} {w : World} {a : Act} {ts : FT L}
    {ro : RO} (hfr : FR φ ν L N ts a.tmps) {l : Nat} (hl : w.heap.size ≤ l) (hg : ∀ b o, (b, o) ∈ ν.G → b < w.heap.size) {fnid : FuncId} {k : K L} {ks : Ks L} {ds0 : List ADef} {mk : ADef} {idD D : Nat} {sp sq : Setter (FT L)} (hsp : ∀ x v k, sp x v k = k (FT.put L p v x)) (hsq : ∀ x v k, sq x v k = k (FT.put L q v x))
    {φ' : Phi} {h' : H} {W : World} (jn : Jn ν φ w ro l idD D (lrec2 fnid a p q asg body D) φ' h' W) {ax ay : AV} {x y : Value} (hx : VR φ' ν ax x) (hy : VR φ' ν ay y) {kn : H → Bool} (hk : roundK2 cf ts ks ds0 mk sp sq da db ax ay h' kn = true) {T : World → Prop}
    (hT : ∀ φ'' h'' W', Jn ν φ w ro l idD D (lrec2 fnid a p q asg body D) φ'' h'' W' → kn h'' = true → T W') :
    YRound2 P l x y W T (Zz ν φ w ro l idD D (lrec2 fnid a p q asg body D) (fin ts k ks ds0 mk)) := by
  refine ⟨fnid, (a.tmps.setIfInBounds p x).setIfInBounds q y, asg, body, ?_, roundW ?_⟩
  · simp [Instr.yield, run_getLoop jn.lp, lrec2]
  unfold roundK2 at hk
  rw [hsp, hsq] at hk
  have hlW : l < W.heap.size := (Array.getElem?_eq_some_iff.1 jn.lp).1
  have hgl : ∀ b o, (b, o) ∈ ν.G → b ≠ l := fun b o hb e => by have := hg b o hb; omega
  have hst : St φ' ν L N (FT.put L q ay (FT.put L p ax ts)) h' ⟨(a.tmps.setIfInBounds p x).setIfInBounds q y, []⟩ W := ⟨((hfr.mono jn.ex.le).put hN hp hx).put hN hq hy, jn.hr, by rw [jn.ds]; trivial⟩
  have hw := hda cf hc (some l) (.inr rfl) φ' _ h' _ W _ _ hst hk
  refine wpIn_mono hw fun e a1 W1 hp1 => ?_
  cases e with
  | exit id => obtain ⟨_, _, _, _, _, _, hk2⟩ := hp1; cases hk2
  | goto t => exact hp1.elim
  | ret => obtain ⟨_, _, _, _, _, _, hk2⟩ := hp1; cases hk2
  | panic ch => obtain ⟨_, _, _, _, _, _, _, _, _, _, hk2⟩ := hp1; cases hk2
  | outgrown => exact hp1.elim
  | normal =>
    obtain ⟨φ2, ts2, h2, st2, ex2, ro2, hk2⟩ := hp1
    obtain ⟨ds2, hk3⟩ := isNil_true hk2
    have hroE : h'.ro = ro := jn.ro
    rw [hroE] at ex2 ro2
    obtain ⟨un2, lp2⟩ := un_ext' ex2 hlW jn.un
    rw [jn.lp] at lp2
    have hx2 : Ext ro φ w φ2 W1 := jn.ex.trans ex2
    have hbr : (Instr.beginRound l).run P W1 = .ok () { W1 with heap := W1.heap.setIfInBounds l (.loop (lrec2 fnid a p q asg body D .busy none)) } := by
      simp [Instr.beginRound, run_getLoop lp2, run_setLoop lp2, lrec2]
    refine ⟨_, hbr, ?_⟩
    have lp2b : ({ W1 with heap := W1.heap.setIfInBounds l (.loop (lrec2 fnid a p q asg body D .busy none)) } : World).heap[l]? = some (.loop (lrec2 fnid a p q asg body D .busy none)) := set_at lp2
    have hx2b := hx2.unm hl (.loop (lrec2 fnid a p q asg body D .busy none))
    have hr2b := st2.hr.unm un2 hgl (.loop (lrec2 fnid a p q asg body D .busy none))
    have hl2 : l < ({ W1 with heap := W1.heap.setIfInBounds l (.loop (lrec2 fnid a p q asg body D .busy none)) } : World).heap.size := (Array.getElem?_eq_some_iff.1 lp2b).1
    generalize ({ W1 with heap := W1.heap.setIfInBounds l (.loop (lrec2 fnid a p q asg body D .busy none)) } : World) = W2 at lp2b hx2b hr2b hl2 ⊢
    have hw2 := hdb cf hc (some l) (.inr rfl) φ2 ts2 h2 a1 W2 _ _ ⟨st2.fr, hr2b, st2.dr⟩ hk3
    obtain ⟨pD, hpD, hpD'⟩ := jn.dd
    refine wpIn_mono hw2 fun e a3 W3 hp3 => ?_
    have wrap : ∀ (φ3 : Phi) (h3 : H), HR φ3 ν h3 W3 → Ext h2.ro φ2 W2 φ3 W3 → h3.ro = h2.ro → ∀ st pe, (∀ W4, W4 = ({ W3 with heap := W3.heap.setIfInBounds l (.loop (lrec2 fnid a p q asg body D st pe)) } : World) →
        W4.heap[l]? = some (.loop (lrec2 fnid a p q asg body D st pe)) ∧ HR φ3 ν h3 W4 ∧ Ext ro φ w φ3 W4 ∧ h3.ro = ro ∧ (∀ id ver q, φ3 id ver = some q → q.blk ≠ l) ∧ (∃ pD, φ3 idD 0 = some pD ∧ pD.blk = D)) ∧ W3.heap[l]? = some (.loop (lrec2 fnid a p q asg body D .busy none)) := by
      intro φ3 h3 hr3 ex3 ro3 st pe
      rw [ro2] at ex3 ro3
      obtain ⟨un3, lp3⟩ := un_ext' ex3 hl2 un2
      rw [lp2b] at lp3
      refine ⟨fun W4 e4 => ?_, lp3⟩
      subst e4
      exact ⟨set_at lp3, hr3.unm un3 hgl _, (hx2b.trans ex3).unm hl _, ro3, un3, pD, ex3.le _ _ _ (ex2.le _ _ _ hpD), hpD'⟩
    cases e with
    | goto t => exact hp3.elim
    | outgrown => exact hp3.elim
    | panic ch => obtain ⟨_, _, _, _, _, _, _, _, _, _, hk4⟩ := hp3; cases hk4
    | normal =>
      obtain ⟨φ3, ts3, h3, st3, ex3, ro3, hk4⟩ := hp3
      obtain ⟨ds3, hk5⟩ := isNil_true hk4
      obtain ⟨hw4, lp3⟩ := wrap φ3 h3 st3.hr ex3 ro3 .ready none
      obtain ⟨a1, a2, a3, a4, a5, a6⟩ := hw4 _ rfl
      exact ⟨.bool true, _, by simp [Instr.endRound, run_getLoop lp3, run_setLoop lp3, lrec2], .inl ⟨rfl, hT φ3 h3 _ ⟨a1, a2, a3, a4, ds3, a5, a6⟩ hk5⟩⟩
    | ret =>
      obtain ⟨φ3, ts3, h3, st3, ex3, ro3, hk4⟩ := hp3
      obtain ⟨ds3, hk5⟩ := isNil_true hk4
      obtain ⟨hw4, lp3⟩ := wrap φ3 h3 st3.hr ex3 ro3 .done (some .ret)
      obtain ⟨a1, a2, a3, a4, a5, a6⟩ := hw4 _ rfl
      exact ⟨.bool false, _, by simp [Instr.endRound, run_getLoop lp3, run_setLoop lp3, lrec2], .inr ⟨rfl, φ3, h3, _, _, a1, rfl, a2, a3, a4, a5, a6, hk5⟩⟩
    | exit id =>
      obtain ⟨φ3, ts3, h3, st3, ex3, ro3, hk4⟩ := hp3
      obtain ⟨ds3, hk5⟩ := isNil_true hk4
      obtain ⟨hw4, lp3⟩ := wrap φ3 h3 st3.hr ex3 ro3 .done (some (.exit id))
      obtain ⟨a1, a2, a3, a4, a5, a6⟩ := hw4 _ rfl
      exact ⟨.bool false, _, by simp [Instr.endRound, run_getLoop lp3, run_setLoop lp3, lrec2], .inr ⟨rfl, φ3, h3, _, _, a1, rfl, a2, a3, a4, a5, a6, hk5⟩⟩
/-! ### all rounds -/
def slcK (id ver : Nat) (h : H) (z : Bool) (k : Nat → Nat → Nat → Nat → Bool) : Bool := getB id ver h fun s _ _ _ _ rows => chk (Nat.blt 0 ver) (cellK s rows 0 fun v => vSl v z fun si sv so len _ _ => k si sv so len)
theorem slcK_true {φ : Phi} {ν : Nu} {id ver : Nat} {h : H} {w : World} {z : Bool} {k : Nat → Nat → Nat → Nat → Bool} (hr : HR φ ν h w) {p : PB} (hp : φ id ver = some p) (hk : slcK id ver h z k = true) :
    (w.cell? ⟨p.blk, 0, none⟩ = some (.slice none 0 0) ∧ z = true) ∨ ∃ si sv so len q off cap, φ si sv = some q ∧ w.cell? ⟨p.blk, 0, none⟩ = some (.slice (some ⟨q.blk, off, none⟩) len cap) ∧ (0 < len → off = so) ∧ k si sv so len = true := by
  obtain ⟨s, n, lw, fz, opn, el, rows, hb, hl, hs, hbr, hk⟩ := getB_true hr hp hk
  obtain ⟨c1, hk⟩ := chk_true hk
  rw [Nat.blt_eq] at c1
  have hk2 := cellK_true hk
  obtain ⟨_, _, hcc⟩ := hbr
  obtain ⟨cc, fr, hb2, _, _, hcell, _, _⟩ := hcc hl
  obtain ⟨v, hv, _, hvr⟩ := hcell 0 c1
  rcases vSl_true hk2 with ⟨e1, hz⟩ | ⟨si, sv, so, len, mc, ex, e1, hk3⟩
  · rw [e1] at hvr
    cases hvr
    exact .inl ⟨by rw [cell?_of hb2]; exact hv, hz⟩
  · rw [e1] at hvr
    cases hvr with
    | sl hq hm hl hx ho hf => exact .inr ⟨_, _, _, _, _, _, _, hq, by rw [cell?_of hb2]; exact hv, fun h0 => hf (by omega), hk3⟩
def elmK (id ver off : Nat) (h : H) (k : AV → Bool) : Bool := getB id ver h fun s _ _ _ _ rows => chk (Nat.blt off ver) (cellK s rows off k)
theorem elmK_true {φ : Phi} {ν : Nu} {id ver off : Nat} {h : H} {w : World} {k : AV → Bool} (hr : HR φ ν h w) {p : PB} (hp : φ id ver = some p) (hk : elmK id ver off h k = true) :
    ∃ v av, w.cell? ⟨p.blk, off, none⟩ = some v ∧ VR φ ν av v ∧ k av = true := by
  obtain ⟨s, n, lw, fz, opn, el, rows, hb, hl, hs, hbr, hk⟩ := getB_true hr hp hk
  obtain ⟨c, hk⟩ := chk_true hk
  rw [Nat.blt_eq] at c
  have hk2 := cellK_true hk
  obtain ⟨_, _, hcc⟩ := hbr
  obtain ⟨cc, fr, hb2, _, _, hcell, _, _⟩ := hcc hl
  obtain ⟨v, hv, _, hvr⟩ := hcell off c
  exact ⟨v, _, by rw [cell?_of hb2]; exact hv, hvr, hk2⟩
def loopB {L : Nat} (cf : Fun) (ts : FT L) (k : K L) (ks : Ks L) (ds0 : List ADef) (mk : ADef) (sp sq : Setter (FT L)) (da db : D L) (id ver : Nat) (n : Nat) : H → Bool :=
  Nat.rec (motive := fun _ => H → Bool) (fun h => k ts ⟨mk :: ds0, h.ro, h.next, h.bl⟩)
    (fun i ih h => slcK id ver h false fun si sv so len => chk (Nat.blt i len) (forceN (Nat.add so i) fun o => elmK si sv o h fun y => roundK2 cf ts ks ds0 mk sp sq da db (.int .i64 (Int.ofNat i)) y h fun h => ih h)) n
theorem loopB_hyp {P : Program} {ν : Nu} {L N : Nat} {cf : Fun} (hcf : FunOk P ν cf) {asg body : Code} {da db : D L} (hda : Good P ν true L N asg da) (hdb : Good P ν true L N body db) {p q : Tmp} (hp : p < N) (hq : q < N) (hN : N ≤ 4 ^ L) {φ : Phi} {w : World} {a : Act} {ts : FT L}
    {ro : RO} (hfr : FR φ ν L N ts a.tmps) {l : Nat} (hl : w.heap.size ≤ l) (hg : ∀ b o, (b, o) ∈ ν.G → b < w.heap.size) {fnid : FuncId} {k : K L} {ks : Ks L} {ds0 : List ADef} {mk : ADef} {idD D : Nat} {sp sq : Setter (FT L)} (hsp : ∀ x v k, sp x v k = k (FT.put L p v x)) (hsq : ∀ x v k, sq x v k = k (FT.put L q v x))
    {id ver : Nat} {pb : PB} (hb : φ id ver = some pb) :
    BHyp P pb.blk l (fun i W => ∃ φ' h', Jn ν φ w ro l idD D (lrec2 fnid a p q asg body D) φ' h' W ∧ loopB cf ts k ks ds0 mk sp sq da db id ver i h' = true)
      (Zz ν φ w ro l idD D (lrec2 fnid a p q asg body D) (fin ts k ks ds0 mk)) := by
  refine ⟨?_, ?_⟩
  · rintro i W ⟨φ', h', jn, hk⟩
    have hk : (slcK id ver h' false fun si sv so len => chk (Nat.blt i len) (forceN (Nat.add so i) fun o => elmK si sv o h' fun y => roundK2 cf ts ks ds0 mk sp sq da db (.int .i64 (Int.ofNat i)) y h' fun h => loopB cf ts k ks ds0 mk sp sq da db id ver i h)) = true := hk
    rcases slcK_true jn.hr (jn.ex.le _ _ _ hb) hk with ⟨_, hf⟩ | ⟨si, sv, so, len, qb, off, cap, hqb, hc, hoff, hk⟩
    · cases hf
    · obtain ⟨c1, hk⟩ := chk_true hk
      rw [Nat.blt_eq] at c1
      have hoff := hoff (by omega)
      subst hoff
      rw [forceN_eq] at hk
      obtain ⟨y, ay, hy, hyr, hk⟩ := elmK_true jn.hr hqb hk
      exact ⟨qb.blk, off, len, cap, y, hc, c1, hy, round2_true hcf hda hdb hp hq hN hfr hl hg hsp hsq jn (.int .i64 (Int.ofNat i)) hyr hk fun φ'' h'' W' jn' hk' => ⟨φ'', h'', jn', hk'⟩⟩
  · rintro W ⟨φ', h', jn, hk⟩
    exact ⟨φ', h', _, _, jn.lp, rfl, jn.hr, jn.ex, jn.ro, jn.un, jn.dd, hk⟩
/-! ### the statement -/
def backD {L : Nat} (ef : Gt L) (sp sq : Setter (FT L)) (da db : D L) (gb : FuncId) : D L := fun cf ts h k ks => ef ts fun vf => vFn vf fun fn fs caps => Fn.rec (motive := fun _ => Bool)
  (fun g => chk (Nat.beq g gb) (isNilA fs (args1 caps fun pa => vPtr pa fun id ver o => chk (Nat.beq o 0) ((fun go : Nat → Bool => slcK id ver h (go 0) fun _ _ _ len => chk (Nat.blt len 4294967281) (go len))
    fun n => newB (.dfr true) h fun idD h1 => loopB cf ts k ks h.ds ⟨.mp idD, []⟩ sp sq da db id ver n ⟨[], h1.ro, h1.next, h1.bl⟩))))
  (fun _ => false) (fun _ _ => false) (fun _ _ _ _ => false) (fun _ => false) fn
def BackOk (P : Program) (gb : FuncId) : Prop := Nat.beq gb 0 = false → hasBody P gb = true ∧ ∃ TS I B, BackShape P gb TS I B
theorem backD_good {P : Program} {ν : Nu} {L N : Nat} {gb : FuncId} (hok : BackOk P gb) (hg0 : Nat.beq gb 0 = false) {f : Operand} {p q : Tmp} {asg body : Code} {ef : FT L → AV} (hef : ∀ φ ν ts (a : Act), FR φ ν L N ts a.tmps → VR φ ν (ef ts) (a.eval f)) {sp sq : Setter (FT L)}
    (hsp : ∀ x v k, sp x v k = k (FT.put L p v x)) (hsq : ∀ x v k, sq x v k = k (FT.put L q v x)) {da db : D L} (hda : Good P ν true L N asg da) (hdb : Good P ν true L N body db) (hp : p < N) (hq : q < N) (hN : N ≤ 4 ^ L) : Good P ν false L N (.rangeFunc f #[p, q] asg body) (backD (fun ts k => k (ef ts)) sp sq da db gb) := by
  intro cf hcf rd hrd φ ts h a w k ks hst hk
  have hrd : rd = none := hrd.resolve_right (by simp)
  subst hrd
  obtain ⟨hgb, TS, I, B, shape⟩ := hok hg0
  unfold backD at hk
  obtain ⟨fn, fs, caps, e1, hk⟩ := vFn_true hk
  cases fn <;> first | (cases hk; done) | skip
  rename_i g
  obtain ⟨c1, hk⟩ := chk_true (show chk _ _ = true from hk)
  have c1 := nbT c1
  obtain ⟨e2, hk⟩ := isNilA_true hk
  obtain ⟨xa, e3, hk⟩ := args1_true hk
  obtain ⟨id, ver, oa, e4, hk⟩ := vPtr_true hk
  obtain ⟨c2, hk⟩ := chk_true hk
  have c2 := nbT c2
  have hv := hef φ ν ts a hst.fr
  rw [e1, c1, e2, e3, e4, c2] at hv
  generalize hvf : a.eval f = vf at hv
  cases hv with
  | fn hfs hcs =>
    cases hfs
    cases hcs with
    | cons h1 hcs =>
      cases hcs
      cases h1 with
      | ptr ha =>
        rename_i pa
        have hgo : ∃ base n cap, w.cell? ⟨pa.blk, 0, none⟩ = some (.slice base n cap) ∧ n < 4294967281 ∧ (newB (.dfr true) h fun idD h1 => loopB cf ts k ks h.ds ⟨.mp idD, []⟩ sp sq da db id ver n ⟨[], h1.ro, h1.next, h1.bl⟩) = true := by
          rcases slcK_true hst.hr ha hk with ⟨hc, hz⟩ | ⟨_, _, _, len, qb, off, cap, _, hc, _, hk⟩
          · exact ⟨_, _, _, hc, by decide, hz⟩
          · obtain ⟨c3, hk⟩ := chk_true hk
            rw [Nat.blt_eq] at c3
            exact ⟨_, _, _, hc, c3, hk⟩
        obtain ⟨base, n, cap, hcell, hn1, hk⟩ := hgo
        obtain ⟨hn, hk⟩ := newB_true hk
        have hr := hst.hr
        obtain ⟨r1, x1, le1⟩ := hr.newObj hn (ver := 0) (p := ⟨w.heap.size, 0, 0, 0⟩) rfl (o := .deferred (some [])) (b := .dfr true)
          ⟨fun ver q hq => by
            rcases Phi.new_inv hq with ⟨_, e, _⟩ | hq
            · exact e
            · have := (hr.dom _ _ _ hq).1; omega, _, Phi.new_self .., heap_push_new w _⟩
        refine wpIn_rangeFunc fun fnid _ => ?_
        obtain ⟨W1, hW1⟩ : ∃ W1, (w.alloc (.deferred (some []))).alloc (.loop (lrec2 fnid a p q asg body w.heap.size .ready none)) = W1 := ⟨_, rfl⟩
        have hbel : Go.RowKit.Below (w.alloc (.deferred (some []))).heap.size (w.alloc (.deferred (some []))) W1 := by rw [← hW1]; exact (Go.RowKit.Below.refl _ _).alloc (Nat.le_refl _) _
        obtain ⟨r2, x2⟩ := r1.below hbel
        have hlp : W1.heap[w.heap.size + 1]? = some (.loop (lrec2 fnid a p q asg body w.heap.size .ready none)) := by
          rw [← hW1]; have := World.alloc_heap_new (w.alloc (.deferred (some []))) (.loop (lrec2 fnid a p q asg body w.heap.size .ready none)); rwa [World.size_alloc] at this
        have hgsz : ∀ b o, (b, o) ∈ ν.G → b < w.heap.size := fun b o hbo => (Array.getElem?_eq_some_iff.1 (hr.gl b o hbo).1).1
        have hx12 := (x1 h.ro).trans (x2 h.ro)
        have hjn : Jn ν φ w h.ro (w.heap.size + 1) h.next w.heap.size (lrec2 fnid a p q asg body w.heap.size) (φ.new h.next 0 ⟨w.heap.size, 0, 0, 0⟩) ⟨[], h.ro, h.next + 1, T4.set HD h.next (.dfr true) h.bl⟩ W1 := by
          refine ⟨hlp, r2.ds [], hx12, rfl, rfl, fun id ver q hq e => ?_, _, Phi.new_self .., rfl⟩
          have := (r1.dom id ver q hq).2
          rw [World.size_alloc] at this
          omega
        have hcell1 : W1.cell? ⟨pa.blk, 0, none⟩ = some (.slice base n cap) := by
          have hpb : pa.blk < w.heap.size := (hr.dom id ver pa ha).2
          have h1 : W1.heap[pa.blk]? = w.heap[pa.blk]? := by
            rw [← hW1, heap_push_old _ _ _ (by rw [World.size_alloc]; omega), heap_push_old _ _ _ hpb]
          simp only [World.cell?, h1] at hcell ⊢
          exact hcell
        have hyp := loopB_hyp (P := P) (ν := ν) hcf hda hdb hp hq hN hst.fr (l := w.heap.size + 1) (by omega) hgsz (fnid := fnid) (k := k) (ks := ks) (ds0 := h.ds) (mk := ⟨.mp h.next, []⟩) (idD := h.next) (D := w.heap.size) (ro := h.ro) hsp hsq ha
        have hcall := back_calls shape hyp (W := W1) ⟨_, _, hjn, hk⟩ hcell1 hn1
        refine ⟨w.heap.size + 1, [{ target := .collected w.heap.size, args := #[] }], W1, { target := .fn (.func gb) ⟨[.pointer (some ⟨pa.blk, 0, none⟩)]⟩, args := #[.func (.yield (w.heap.size + 1)) #[] #[]] }, W1, gb,
          #[.func (.yield (w.heap.size + 1)) #[] #[]] ++ #[.pointer (some ⟨pa.blk, 0, none⟩)], W1, ?_, ?_, ?_, ?_, ?_, ?_⟩
        · rw [← hW1]; exact run_enterLoop_outer _ _ _ _ _
        · have ec : ∀ v, a.eval (.const v) = v := fun _ => rfl
          simp [resolve, hvf, ec, Deferred.ofValue]
        · intro _ _; trivial
        · simp [invoke, hasBody_true hgb]
        · intro h; simp [Fence.wide] at h
        · refine callsW.2 ((callsW.1 hcall).mono fun e W hp => ?_)
          cases e with
          | outgrown => exact hp.elim
          | panicked ch => exact hp.elim
          | returned v =>
            obtain ⟨φ', h', st, pe, lp, hst', hr', hx', hro', un', ⟨pD, hpD, hpD'⟩, hfin⟩ := hp
            refine ⟨pe, { W with heap := W.heap.setIfInBounds (w.heap.size + 1) (.loop { lrec2 fnid a p q asg body w.heap.size st pe with state := .exhausted }) }, ?_, ?_⟩
            · have hs' : ((lrec2 fnid a p q asg body w.heap.size st pe).state == .busy) = false := hst'
              simp only [Instr.endLoop, Sem.run_bind, run_getLoop lp, Result.andThen_ok, hs', Bool.false_eq_true, if_false, run_setLoop lp, Sem.run_pure]
              rfl
            · have hgl : ∀ b o, (b, o) ∈ ν.G → b ≠ w.heap.size + 1 := fun b o hbo e => by have := hgsz b o hbo; omega
              have hr4 := hr'.unm un' hgl (.loop { lrec2 fnid a p q asg body w.heap.size st pe with state := .exhausted })
              have hx4 := hx'.unm (by omega : w.heap.size ≤ w.heap.size + 1) (.loop { lrec2 fnid a p q asg body w.heap.size st pe with state := .exhausted })
              generalize ({ W with heap := W.heap.setIfInBounds (w.heap.size + 1) (.loop { lrec2 fnid a p q asg body w.heap.size st pe with state := .exhausted }) } : World) = W4 at hr4 hx4 ⊢
              have hst4 : St φ' ν L N ts ⟨⟨.mp h.next, []⟩ :: h.ds, h'.ro, h'.next, h'.bl⟩ { a with defers := [{ target := .collected w.heap.size, args := #[] }] ++ a.defers } W4 :=
                ⟨hst.fr.mono hx4.le, hr4.ds _, ⟨.inl ⟨h.next, pD, rfl, hpD, by rw [hpD']⟩, hst.dr.mono hx4.le⟩⟩
              cases pe with
              | none => exact ⟨φ', ts, _, hst4, hx4, hro', hfin⟩
              | some c =>
                cases c <;> first | (exact hfin.elim) | skip
                · exact wpIn_exit ⟨φ', ts, _, hst4, hx4, hro', hfin⟩
                · exact wpIn_ret ⟨φ', ts, _, hst4, hx4, hro', hfin⟩
def SplitOk (P : Program) (ν : Nu) (gs : FuncId × FuncId) : Prop := SplitOk1 P ν gs.1 ∧ BackOk P gs.2
def mkRangeF (L N : Nat) (gs : FuncId × FuncId) (decR : Code → (D L → Bool) → Bool) (f : Operand) (ps : Array Tmp) (asg body : Code) (r : D L → Bool) : Bool :=
  match ps with
  | ⟨[p]⟩ => mkRangeF1 L N gs.1 decR f ⟨[p]⟩ asg body r
  | ⟨[p, q]⟩ => bif Nat.blt p N && Nat.blt q N && Nat.ble N (4 ^ L) && !(Nat.beq gs.2 0) then forceN gs.2 fun gb => mkE L N f fun ef => mkS L p fun sp => mkS L q fun sq => decR asg fun da => decR body fun db => r (backD ef sp sq da db gb) else false
  | _ => false
theorem mkRangeF_true {P : Program} {ν : Nu} {L N : Nat} {gs : FuncId × FuncId} (hok : SplitOk P ν gs) {decR : Code → (D L → Bool) → Bool} (hdec : ∀ c r, decR c r = true → ∃ d, Good P ν true L N c d ∧ r d = true) {f : Operand} {ps : Array Tmp} {asg body : Code} {r : D L → Bool}
    (h : mkRangeF L N gs decR f ps asg body r = true) : ∃ d, Good P ν false L N (.rangeFunc f ps asg body) d ∧ r d = true := by
  unfold mkRangeF at h
  split at h
  · exact mkRangeF1_true hok.1 hdec h
  · rename_i p q
    cases hb : (Nat.blt p N && Nat.blt q N && Nat.ble N (4 ^ L) && !(Nat.beq gs.2 0)) with
    | false => rw [hb] at h; cases h
    | true =>
      rw [hb, cond_true, forceN_eq] at h
      simp only [Bool.and_eq_true, Bool.not_eq_true'] at hb
      obtain ⟨ef, hef, h⟩ := mkE_true h
      rw [mkS_eq, mkS_eq] at h
      obtain ⟨da, hda, h⟩ := hdec _ _ h
      obtain ⟨db, hdb, h⟩ := hdec _ _ h
      exact ⟨_, backD_good hok.2 hb.2 hef (fun _ _ _ => rfl) (fun _ _ _ => rfl) hda hdb (by simpa [Nat.blt_eq] using hb.1.1.1) (by simpa [Nat.blt_eq] using hb.1.1.2) (nlT hb.1.2), h⟩
  · cases h
end
end Go.Abs

/-
  A verified evaluator: slices cleared; slices grown by zeroes.
-/
namespace Go.Abs
noncomputable section
theorem run_storeCells_shift (P : Program) (g o i : Nat) : ∀ (vs : List Value) (k : Nat) (w : World), (storeCells ⟨g, o, none⟩ vs (i + k)).run P w = (storeCells ⟨g, o + i, none⟩ vs k).run P w
  | [], k, w => rfl
  | v :: vs, k, w => by
    simp only [storeCells, Sem.run_bind, addr_add]
    rw [show o + (i + k) = o + i + k by omega]
    congr 1
    funext u w'
    rw [show i + k + 1 = i + (k + 1) by omega]
    exact run_storeCells_shift P g o i vs (k + 1) w'
theorem run_storeCells_append (P : Program) (g o : Nat) (ys : List Value) : ∀ (xs : List Value) (i : Nat) (w w1 : World), (storeCells ⟨g, o, none⟩ xs i).run P w = .ok () w1 → (storeCells ⟨g, o, none⟩ (xs ++ ys) i).run P w = (storeCells ⟨g, o, none⟩ ys (i + xs.length)).run P w1
  | [], i, w, w1, h => by
    have : w = w1 := by
      have h : (pure () : Sem Unit).run P w = .ok () w1 := h
      rw [Sem.run_pure] at h
      exact (Result.ok.inj h).2
    subst this
    simp
  | v :: xs, i, w, w1, h => by
    simp only [storeCells, List.cons_append, Sem.run_bind] at h ⊢
    cases hs : (store ((⟨g, o, none⟩ : Addr).add i) v).run P w with
    | ok u w2 =>
      rw [hs] at h
      simp only [Result.andThen_ok] at h ⊢
      rw [run_storeCells_append P g o ys xs (i + 1) w2 w1 h]
      congr 2
      simp; omega
    | _ => rw [hs] at h; cases h
theorem zeroCells_succ {zs : List Value} (hpos : 0 < zs.length) (n : Nat) : (Builtin.zeroCells ⟨zs⟩ (n + 1)).toList = zs ++ (Builtin.zeroCells ⟨zs⟩ n).toList := by
  have hs : (⟨zs⟩ : Array Value).size = zs.length := rfl
  apply List.ext_getElem?
  intro i
  unfold Builtin.zeroCells
  simp only [Array.toList_map, Array.toList_range, hs, List.getElem?_map]
  by_cases h : i < zs.length
  · rw [List.getElem?_append_left h, List.getElem?_range (by rw [Nat.succ_mul]; omega), Option.map_some]
    have := zero_at hpos i
    rw [hs] at this
    rw [this, Nat.mod_eq_of_lt h, List.getElem?_eq_getElem h]
    rfl
  · rw [List.getElem?_append_right (by omega), List.getElem?_map]
    by_cases h2 : i < (n + 1) * zs.length
    · rw [List.getElem?_range h2, List.getElem?_range (by rw [Nat.succ_mul] at h2; omega), Option.map_some, Option.map_some]
      congr 2
      rw [← Nat.mod_eq_sub_mod (by omega)]
    · rw [List.getElem?_eq_none (by simpa using h2), List.getElem?_eq_none (by simp; rw [Nat.succ_mul] at h2; omega)]
/-! ### clear, of a slice -/
def clrK (id ver size : Nat) (zs : List AV) (h : H) (k : H → Bool) : Nat → Nat → Bool := fun n => Nat.rec (motive := fun _ => Nat → H → Bool) (fun _ h => k h) (fun _ ih off h => storeK id ver off zs size h fun h => forceN (Nat.add off size) fun off => ih off h) n |> fun f off => f off h
theorem clrK_true {P : Program} {φ : Phi} {ν : Nu} {id ver : Nat} {p : PB} {zs : List Value} (hpos : 0 < zs.length) (h1 : ∀ v ∈ zs, v.oneCell' = true) {k : H → Bool} :
    ∀ {n off : Nat} {h : H} {w : World}, HR φ ν h w → φ id ver = some p → clrK id ver zs.length (zs.map ofVal1) h k n off = true →
      ∃ h' w', (storeCells ⟨p.blk, off, none⟩ (Builtin.zeroCells ⟨zs⟩ n).toList).run P w = .ok () w' ∧ HR φ ν h' w' ∧ Ext h.ro φ w φ w' ∧ h'.ro = h.ro ∧ h'.ds = h.ds ∧ k h' = true
  | 0, off, h, w, hr, hp, hk => by
    refine ⟨h, w, ?_, hr, Ext.refl _ _ _, rfl, rfl, hk⟩
    have : (Builtin.zeroCells ⟨zs⟩ 0).toList = [] := by simp [Builtin.zeroCells]
    rw [this]
    rfl
  | n + 1, off, h, w, hr, hp, hk => by
    have hk' : storeK id ver off (zs.map ofVal1) zs.length h (fun h => forceN (Nat.add off zs.length) fun off => clrK id ver zs.length (zs.map ofVal1) h k n off) = true := hk
    have hvs : VRs φ ν (zs.map ofVal1) zs := ofVals_VR φ ν zs
    obtain ⟨h2, w2, g1, g2, g3, g4, g5, _, g6⟩ := storeK_true (P := P) hr hp hvs h1 (by simp) hpos hk'
    rw [forceN_eq] at g6
    obtain ⟨h3, w3, q1, q2, q3, q4, q5, q6⟩ := clrK_true (P := P) hpos h1 g2 hp g6
    refine ⟨h3, w3, ?_, q2, g3.trans (by rw [← g4]; exact q3), by rw [q4, g4], by rw [q5, g5], q6⟩
    rw [zeroCells_succ hpos, run_storeCells_append P p.blk off _ zs 0 w w2 g1, Nat.zero_add]
    have := run_storeCells_shift P p.blk off zs.length (Builtin.zeroCells ⟨zs⟩ n).toList 0 w2
    rw [Nat.add_zero] at this
    rw [this]
    exact q1
def mkClear (P : Program) (L N : Nat) (t : TypeId) (x : Operand) (r : A L → Bool) : Bool :=
  match undX P t with
  | some (.slice el) => match zeroOf P el with
    | some zs => mkE L N x fun ex => (fun avs => forceN zs.length fun size => r fun ts h k => ex ts fun x => vSl x (k (.tup []) h) fun id ver off len _ _ => clrK id ver size avs h (fun h => k (.tup []) h) len off) (zs.map ofVal1)
    | none => false
  | _ => false
theorem mkClear_true {P : Program} {ν : Nu} {L N : Nat} {o : Oper} {t : TypeId} {x : Operand} (ho : o.op = .call { callee := .builtin .clear, args := ⟨[x]⟩, argTypes := ⟨[t]⟩ }) {r : A L → Bool} (h : mkClear P L N t x r = true) :
    ∃ e, GoodA P ν L N o e ∧ r e = true := by
  unfold mkClear at h
  simp only [infoX_eq, undX_eq, shapeX_eq] at h
  split at h
  · rename_i el hd
    try simp only [infoX_eq, undX_eq, shapeX_eq] at h
    split at h
    · rename_i zs hzs
      obtain ⟨ex, hex, h⟩ := mkE_true h
      simp only [forceN_eq] at h
      obtain ⟨i, z, hi, hzz, hzc, hzl, hone, hpos⟩ := zeroOf_some hzs
      refine ⟨_, fun φ ts h' a w hst k hk => .inl ?_, h⟩
      have hv := hex φ ν ts a hst.fr
      generalize hvx : a.eval x = vx at hv
      have e : (⟨[x]⟩ : Array Operand).map a.eval = #[a.eval x] := by simp
      rcases vSl_true hk with ⟨e3, hk3⟩ | ⟨id, ver, off, len, mc, exx, e3, hk3⟩
      · rw [e3] at hv
        cases hv
        refine ⟨.value (.tuple #[]), .tuple #[], _, φ, h', w, ?_, .inl rfl, .tup .nil, hst.hr, Ext.refl _ _ _, rfl, rfl, hk3⟩
        rw [execOp_builtin ho, e, hvx]
        simp [builtin, Builtin.clear_, run_underlying' hd]
      · rw [e3] at hv
        cases hv with
        | sl hp hm hl hx hob hf =>
          rename_i cap p off'
          obtain ⟨h2, w2, g1, g2, g3, g4, g5, g6⟩ := clrK_true (P := P) hpos hone hst.hr hp hk3
          refine ⟨.value (.tuple #[]), .tuple #[], _, φ, h2, w2, ?_, .inl rfl, .tup .nil, g2, g3, g4, g5, g6⟩
          rw [execOp_builtin ho, e, hvx]
          cases len with
          | zero =>
            have e0 : (Builtin.zeroCells ⟨zs⟩ 0).toList = [] := by simp [Builtin.zeroCells]
            rw [e0] at g1
            have g1 : (pure () : Sem Unit).run P w = .ok () w2 := g1
            rw [Sem.run_pure] at g1
            have := (Result.ok.inj g1).2
            subst this
            simp [builtin, Builtin.clear_, run_underlying' hd]
          | succ n =>
            have hoo := hf (by omega)
            subst hoo
            simp [builtin, Builtin.clear_, run_underlying' hd, run_zeroValue' hi hzz, hzc, g1]
    · cases h
  · cases h
/-! ### append(nil, make([]E, n)...) -/
def mkAppendZ (P : Program) (L N : Nat) (t tn : TypeId) (x y : Operand) (r : A L → Bool) : Bool :=
  match undX P t, undX P tn with
  | some (.slice el), some (.int _) => match infoX P el, zeroOf P el with
    | some i, some zs => mkE L N x fun fx => mkE L N y fun fy => (fun rows => forceN i.size fun size => r fun ts h k => fx ts fun x => vSl x (fy ts fun y => vNat y fun n => chk (Nat.blt 0 n) (chk (Nat.ble n 4096) (chk (Nat.ble (Nat.mul n i.bytes) 1048576)
        (forceN (Nat.mul n size) fun m => newB (.cells size m 0 0 true el rows) h fun id h => k (.sl id m 0 n n false) h)))) fun _ _ _ _ _ _ => false) (RT.full (zs.map ofVal1) RD)
    | _, _ => false
  | _, _ => false
theorem mkAppendZ_true {P : Program} {ν : Nu} {L N : Nat} {o : Oper} {t tn : TypeId} {x y : Operand} (ho : o.op = .call { callee := .builtin .append, args := ⟨[x, y]⟩, argTypes := ⟨[t, tn]⟩ }) {r : A L → Bool} (h : mkAppendZ P L N t tn x y r = true) :
    ∃ e, GoodA P ν L N o e ∧ r e = true := by
  unfold mkAppendZ at h
  simp only [infoX_eq, undX_eq, shapeX_eq] at h
  split at h
  · rename_i el kn hd htn
    try simp only [infoX_eq, undX_eq, shapeX_eq] at h
    split at h
    · rename_i i zs hi hzs
      obtain ⟨fx, hfx, h⟩ := mkE_true h
      obtain ⟨fy, hfy, h⟩ := mkE_true h
      simp only [forceN_eq] at h
      obtain ⟨i', z, hi', hzz, hzc, hzl, hone, hpos⟩ := zeroOf_some hzs
      rw [hi] at hi'; cases hi'
      refine ⟨_, fun φ ts h' a w hst k hk => .inl ?_, h⟩
      rcases vSl_true hk with ⟨e1, hk1⟩ | ⟨id, ver, off, len, mc, exx, e1, hk1⟩
      · obtain ⟨K, n, e2, hk2⟩ := vNat_true hk1
        obtain ⟨c1, hk3⟩ := chk_true hk2
        obtain ⟨c2, hk4⟩ := chk_true hk3
        obtain ⟨c3, hk5⟩ := chk_true hk4
        rw [Nat.blt_eq] at c1
        have c2 := nlT c2
        have c3 : n * i.bytes ≤ 1048576 := nlT c3
        have hv1 := hfx φ ν ts a hst.fr
        have hv2 := hfy φ ν ts a hst.fr
        rw [e1] at hv1
        rw [e2] at hv2
        generalize hvx : a.eval x = vx at hv1
        generalize hvy : a.eval y = vy at hv2
        cases hv1
        cases hv2
        have hrun := Lib.run_append_nil_zeros (P := P) w t tn o.type el i z K kn hd htn hi hzz n c1 (by omega) (by omega) (by omega)
        have hge := grownCap_ge w n 0 el
        generalize grownCap w n 0 el = cap at hrun hge
        rw [hzc] at hrun
        rw [show Nat.mul n i.size = n * zs.length by rw [hzl]; rfl, ← hzl] at hk5
        obtain ⟨hnx, hk6⟩ := newB_true hk5
        have hs : (⟨zs⟩ : Array Value).size = zs.length := rfl
        have hcs : (Builtin.zeroCells ⟨zs⟩ n ++ Builtin.zeroCells ⟨zs⟩ (cap - n)).size = cap * zs.length := by
          simp [Builtin.zeroCells, hs]
          rw [← Nat.add_mul]
          congr 1
          omega
        have hcr : CR φ ν zs.length (RT.full (zs.map ofVal1) RD) (n * zs.length) (Builtin.zeroCells ⟨zs⟩ n ++ Builtin.zeroCells ⟨zs⟩ (cap - n)) := by
          have h0 := full_CR (φ := φ) (ν := ν) hpos hone (n * zs.length) (fun j => (⟨zs⟩ : Array Value)[j % (⟨zs⟩ : Array Value).size]!) (fun j => zero_at hpos j)
          intro j hj
          obtain ⟨v, g1, g2, g3⟩ := h0 j hj
          refine ⟨v, ?_, g2, g3⟩
          rw [Array.getElem?_append_left (by simpa [Builtin.zeroCells, hs] using hj)]
          exact g1
        obtain ⟨g1, g2, g3⟩ := (hst.hr.drew (w.drawn + 1)).newCells hnx (by_ := 0) (el := el) (opn := true) hpos hcr (by rw [hcs]; exact Nat.mul_le_mul_right _ hge) (fun h => by cases h)
        refine ⟨_, _, _, _, _, _, run_append_op ho (by rw [hvx, hvy]; exact hrun), .inl rfl, .sl (Phi.new_self _ _ _ _) hge (Nat.le_refl _) (fun h => by cases h) (fun _ => ⟨?_, by simp⟩), g1, ?_, rfl, rfl, hk6⟩
        · show 0 + cap * zs.length ≤ (Builtin.zeroCells ⟨zs⟩ n ++ Builtin.zeroCells ⟨zs⟩ (cap - n)).size
          rw [hcs]; omega
        · exact (Ext.refl _ _ _).drew _ |>.trans (g2 _)
      · cases hk1
    · cases h
  · cases h
end
end Go.Abs

/-
  A verified evaluator: numbers of which only some rests are known.
-/
namespace Go.Abs
noncomputable section
inductive Rule where
  | mk (op : BinOp) (K : IntKind) (s : Nat) (K' : IntKind) (c : Int) (av : AV)
  | rng (op : BinOp) (K : IntKind) (s : Nat) (lo hi : Nat) (av : AV)
  | rnl (op : BinOp) (K : IntKind) (s : Nat) (lo hi : Nat) (av : AV)
  | conv (K : IntKind) (s : Nat) (K' : IntKind) (s' : Nat)
  | mn (K : IntKind) (s : Nat) (c : Int)
  | len (K : IntKind) (s : Nat) (t : TypeId) (av : AV)
  | ix (K : IntKind) (s : Nat) (t : TypeId) (n : Nat) (s' : Nat)
  | ld (K : IntKind) (s : Nat) (t : TypeId) (av : AV)
  | fa (K : IntKind) (s : Nat) (t : TypeId) (n : Nat) (s' : Nat)
  | sl (K : IntKind) (s : Nat) (t : TypeId) (lo : Nat) (hi : Option Nat) (s' : Nat)
def Rule.Ok (P : Program) (ν : Nu) : Rule → Prop
  | .mk op K s K' c av => s < 1000 ∧ ∀ (t : TypeId) (w : World), ∃ v, (binOp op t (.int K (ν.f s)) (.int K' c)).run P w = .ok v w ∧ ∀ φ, VR φ ν av v
  | .rng op K s lo hi av => s < 1000 ∧ ∀ (t : TypeId) (w : World) (n : Nat), lo ≤ n → n < hi → ∃ v, (binOp op t (.int K (.ofNat n)) (.int K (ν.f s))).run P w = .ok v w ∧ ∀ φ, VR φ ν av v
  | .rnl op K s lo hi av => s < 1000 ∧ ∀ (t : TypeId) (w : World) (n : Nat), lo ≤ n → n < hi → ∃ v, (binOp op t (.int K (ν.f s)) (.int K (.ofNat n))).run P w = .ok v w ∧ ∀ φ, VR φ ν av v
  | .conv _ s K' s' => s < 1000 ∧ s' < 1000 ∧ K'.wrap (ν.f s) = ν.f s'
  | .mn _ s c => s < 1000 ∧ ν.f s ≤ c
  | .len K s t av => ∀ (w : World) (rt : TypeId) (ts : List TypeId), ∃ v, (Builtin.len_ ⟨t :: ts⟩ rt #[ν.val K s]).run P w = .ok v w ∧ ∀ φ, VR φ ν av v
  | .ix K s t n s' => ∀ (w : World) (J : IntKind), (Instr.indexAt t (ν.val K s) (.int J (.ofNat n))).run P w = .ok (ν.val K s') w
  | .ld K s t av => ∀ (w : World), (∀ b o, (b, o) ∈ ν.G → w.heap[b]? = some o) → ∃ v, (Instr.loadAt t (ν.val K s)).run P w = .ok v w ∧ ∀ φ, VR φ ν av v
  | .fa K s t n s' => ∀ (w : World), (Instr.fieldAt t (ν.val K s) n).run P w = .ok (ν.val K s') w
  | .sl K s t lo hi s' => ∀ (w : World) (vl vh : Option Value), Bd vl 0 lo → (match hi with | none => vh = none | some n => ∃ J, vh = some (.int J (.ofNat n))) → (Instr.sliceAt t (ν.val K s) vl vh none).run P w = .ok (ν.val K s') w
def SymOk (P : Program) (ν : Nu) (S : List Rule) : Prop := ∀ q ∈ S, q.Ok P ν
def symOr (v : AV) (a : IntKind → Nat → Bool) (b : Bool) : Bool :=
  AV.rec (motive_1 := fun _ => Bool) (motive_2 := fun _ => Bool) b a b (fun _ => b) b (fun _ _ _ _ _ => b) (fun _ _ => b) b (fun _ _ _ => b) b b
    (fun _ _ => b) (fun _ _ _ => b) (fun _ _ _ _ _ _ => b) (fun _ _ => b) (fun _ => b) (fun _ _ => b) false (fun _ _ _ _ => false) v
theorem symOr_true {v : AV} {a : IntKind → Nat → Bool} {b : Bool} (h : symOr v a b = true) : (∃ K s, v = .sym K s ∧ a K s = true) ∨ b = true := by
  cases v <;> first | exact .inl ⟨_, _, rfl, h⟩ | exact .inr h
def ruleK {α : Type} (K : IntKind) (s : Nat) (S : List (IntKind × Nat × α)) (k : α → Bool) : Bool :=
  List.rec (motive := fun _ => Bool) false (fun q _ ih => bif isIntK q.1 K && Nat.beq q.2.1 s then k q.2.2 else ih) S
theorem ruleK_true {α : Type} {K : IntKind} {s : Nat} {k : α → Bool} : ∀ {S : List (IntKind × Nat × α)}, ruleK K s S k = true → ∃ a, (K, s, a) ∈ S ∧ k a = true
  | [], h => by cases h
  | q :: S, h => by
    have h' : (bif isIntK q.1 K && Nat.beq q.2.1 s then k q.2.2 else ruleK K s S k) = true := h
    cases hb : (isIntK q.1 K && Nat.beq q.2.1 s) with
    | true =>
      rw [hb] at h'
      rw [Bool.and_eq_true] at hb
      obtain ⟨K1, s1, a⟩ := q
      have e1 := isIntK_true hb.1
      have e2 := nbT hb.2
      simp only at e1 e2
      subst e1 e2
      exact ⟨a, List.mem_cons_self, h'⟩
    | false =>
      rw [hb] at h'
      obtain ⟨a, g1, g2⟩ := ruleK_true (S := S) h'
      exact ⟨a, List.mem_cons_of_mem _ g1, g2⟩
def selB (op : BinOp) (K' : IntKind) (c : Int) : Rule → Option (IntKind × Nat × AV)
  | .mk op1 K s K1 c1 av => if decide (op1 = op) && decide (K1 = K') && decide (c1 = c) then some (K, s, av) else none
  | _ => none
def selR (op : BinOp) : Rule → Option (IntKind × Nat × (Nat × Nat × AV))
  | .rng op1 K s lo hi av => if op1 = op then some (K, s, (lo, hi, av)) else none
  | _ => none
def selRl (op : BinOp) : Rule → Option (IntKind × Nat × (Nat × Nat × AV))
  | .rnl op1 K s lo hi av => if op1 = op then some (K, s, (lo, hi, av)) else none
  | _ => none
def selC (K K' : IntKind) : Rule → Option (IntKind × Nat × Nat)
  | .conv K1 s K1' s' => if decide (K1 = K) && decide (K1' = K') then some (K, s, s') else none
  | _ => none
def selM (c : Int) : Rule → Option (IntKind × Nat × Unit)
  | .mn K s c1 => if c1 = c then some (K, s, ()) else none
  | _ => none
theorem mem_selB {op : BinOp} {K' : IntKind} {c : Int} {S : List Rule} {K : IntKind} {s : Nat} {av : AV} (h : (K, s, av) ∈ S.filterMap (selB op K' c)) : Rule.mk op K s K' c av ∈ S := by
  obtain ⟨q, hq, e⟩ := List.mem_filterMap.1 h
  cases q <;> simp only [selB] at e <;> try cases e
  split at e
  · rename_i hc
    simp only [Bool.and_eq_true, decide_eq_true_eq] at hc
    obtain ⟨⟨rfl, rfl⟩, rfl⟩ := hc
    cases e; exact hq
  · cases e
theorem mem_selR {op : BinOp} {S : List Rule} {K : IntKind} {s lo hi : Nat} {av : AV} (h : (K, s, (lo, hi, av)) ∈ S.filterMap (selR op)) : Rule.rng op K s lo hi av ∈ S := by
  obtain ⟨q, hq, e⟩ := List.mem_filterMap.1 h
  cases q <;> simp only [selR] at e <;> try cases e
  split at e
  · rename_i hc
    subst hc
    cases e; exact hq
  · cases e
theorem mem_selRl {op : BinOp} {S : List Rule} {K : IntKind} {s lo hi : Nat} {av : AV} (h : (K, s, (lo, hi, av)) ∈ S.filterMap (selRl op)) : Rule.rnl op K s lo hi av ∈ S := by
  obtain ⟨q, hq, e⟩ := List.mem_filterMap.1 h
  cases q <;> simp only [selRl] at e <;> try cases e
  split at e
  · rename_i hc
    subst hc
    cases e; exact hq
  · cases e
theorem mem_selC {K K' : IntKind} {S : List Rule} {K1 : IntKind} {s s' : Nat} (h : (K1, s, s') ∈ S.filterMap (selC K K')) : K1 = K ∧ Rule.conv K s K' s' ∈ S := by
  obtain ⟨q, hq, e⟩ := List.mem_filterMap.1 h
  cases q <;> simp only [selC] at e <;> try cases e
  split at e
  · rename_i hc
    simp only [Bool.and_eq_true, decide_eq_true_eq] at hc
    obtain ⟨rfl, rfl⟩ := hc
    cases e; exact ⟨rfl, hq⟩
  · cases e
theorem mem_selM {c : Int} {S : List Rule} {K : IntKind} {s : Nat} (h : (K, s, ()) ∈ S.filterMap (selM c)) : Rule.mn K s c ∈ S := by
  obtain ⟨q, hq, e⟩ := List.mem_filterMap.1 h
  cases q <;> simp only [selM] at e <;> try cases e
  split at e
  · rename_i hc
    subst hc
    cases e; exact hq
  · cases e
/-! ### texts that are symbols -/
def ub4 (l : List Nat) (k : Nat → Nat → Nat → Nat → Bool) : Bool :=
  List.rec (motive := fun _ => Bool) false (fun A l _ => List.rec (motive := fun _ => Bool) false (fun K l _ => List.rec (motive := fun _ => Bool) false (fun B l _ => List.rec (motive := fun _ => Bool) false (fun b _ _ => k A K B b) l) l) l) l
theorem ub4_true {l : List Nat} {k : Nat → Nat → Nat → Nat → Bool} (h : ub4 l k = true) : ∃ A K B b t, l = A :: K :: B :: b :: t ∧ k A K B b = true := by
  match l, h with
  | A :: K :: B :: b :: t, h => exact ⟨A, K, B, b, t, rfl, h⟩
  | [], h => cases h
  | [_], h => cases h
  | [_, _], h => cases h
  | [_, _, _], h => cases h
def negB (neg : Nat) (b : Bool) : Bool := bif Nat.beq neg 0 then b else not b
def factS (ub : List Nat) (neg s s' : Nat) (k : AV → Bool) : Bool :=
  ub4 ub fun A K B b => bif Nat.ble 2000 s && Nat.blt s 2032 then
    forceN (Nat.sub s 2000) fun d => forceN (Nat.div d 2) fun i => bif Nat.beq (Nat.mod d 2) 0 then (bif Nat.beq s' 9000 then k (.bool (negB neg (bitM A i))) else false) else (bif Nat.beq s' b then
      (bif bitM K i then k (.bool (negB neg (bitM B i))) else bif Nat.blt s' 9002 && Nat.blt neg 2 then forceN (Nat.add 8000 (Nat.add (Nat.mul 4 i) (Nat.add (Nat.mul 2 (Nat.sub s' 9000)) neg))) fun z => k (.sym .u8 z) else false) else false) else false
theorem factS_true {ub : List Nat} {neg s s' : Nat} {k : AV → Bool} (h : factS ub neg s s' k = true) {ν : Nu} (hu : FactU ν ub) : (2000 ≤ s ∧ s < 8000) ∧ 9000 ≤ s' ∧ ∃ av, (∀ φ, VR φ ν av (.bool (negB neg ((ν.str s).toList == (ν.str s').toList)))) ∧ k av = true := by
  obtain ⟨A, K, B, b, t, rfl, h9⟩ := ub4_true h
  clear h
  obtain ⟨u1, u2, u3⟩ := hu
  have h := h9
  clear h9
  cases hb : (Nat.ble 2000 s && Nat.blt s 2032) with
  | false => rw [hb] at h; cases h
  | true =>
    rw [hb, cond_true, forceN_eq, forceN_eq] at h
    simp only [Bool.and_eq_true, Nat.ble_eq, Nat.blt_eq] at hb
    obtain ⟨h1, h2⟩ := hb
    have hi : (s - 2000) / 2 < 16 := by omega
    cases hm : Nat.beq (Nat.mod (Nat.sub s 2000) 2) 0 with
    | true =>
      rw [hm, cond_true] at h
      have hm : (s - 2000) % 2 = 0 := nbT hm
      cases hc : Nat.beq s' 9000 with
      | false => rw [hc] at h; cases h
      | true =>
        rw [hc, cond_true] at h
        have hc := nbT hc
        subst hc
        have e := u2 ((s - 2000) / 2) hi
        rw [show 2000 + 2 * ((s - 2000) / 2) = s by omega] at e
        exact ⟨⟨h1, by omega⟩, by decide, _, fun φ => .bool _, by rw [e]; exact h⟩
    | false =>
      rw [hm, cond_false] at h
      have hm : (s - 2000) % 2 ≠ 0 := Nat.ne_of_beq_eq_false hm
      cases hc : Nat.beq s' b with
      | false => rw [hc] at h; cases h
      | true =>
        rw [hc, cond_true] at h
        have hc := nbT hc
        subst hc
        cases hk : bitM K (Nat.div (Nat.sub s 2000) 2) with
        | false =>
          rw [hk, cond_false] at h
          cases hg : (Nat.blt s' 9002 && Nat.blt neg 2) with
          | false => rw [hg] at h; cases h
          | true =>
            rw [hg, cond_true, forceN_eq] at h
            simp only [Bool.and_eq_true, Nat.blt_eq] at hg
            obtain ⟨g1, g2⟩ := hg
            obtain ⟨z, hz⟩ : ∃ z, z = 8000 + (4 * ((s - 2000) / 2) + (2 * (s' - 9000) + neg)) := ⟨_, rfl⟩
            refine ⟨⟨h1, by omega⟩, by omega, .sym .u8 z, fun φ => ?_, by rw [hz]; exact h⟩
            have e1 : (z - 8000) / 4 = (s - 2000) / 2 := by omega
            have e2 : 9000 + (z - 8000) % 4 / 2 = s' := by omega
            have e3 : (z - 8000) % 2 = neg := by omega
            refine .sym .u8 z ?_
            rw [Nu.val_bool _ _ (show 8000 ≤ z by omega) (show z < 9000 by omega)]
            unfold Nu.bs negB
            rw [e1, e2, e3, show 2001 + 2 * ((s - 2000) / 2) = s by omega]
        | true =>
          rw [hk, cond_true] at h
          have e := u3 ((s - 2000) / 2) hi hk
          rw [show 2001 + 2 * ((s - 2000) / 2) = s by omega] at e
          exact ⟨⟨h1, by omega⟩, by omega, _, fun φ => .bool _, by rw [e]; exact h⟩
def strOr (v : AV) (a : Nat → Bool) (b : Bool) : Bool :=
  AV.rec (motive_1 := fun _ => Bool) (motive_2 := fun _ => Bool) b (fun _ _ => b) b (fun _ => b) b (fun _ _ _ _ _ => b) (fun _ _ => b) b (fun _ _ _ => b) b b
    (fun _ _ => b) (fun _ _ _ => b) (fun _ _ _ _ _ _ => b) (fun l _ => a l) (fun _ => b) (fun _ _ => b) false (fun _ _ _ _ => false) v
theorem strOr_true {v : AV} {a : Nat → Bool} {b : Bool} (h : strOr v a b = true) : (∃ l c, v = .str l c ∧ a l = true) ∨ b = true := by
  cases v <;> first | exact .inl ⟨_, _, rfl, h⟩ | exact .inr h
def txtEq (ub : List Nat) (neg : Nat) (vx vy : AV) (k : AV → Bool) (no : Bool) : Bool :=
  symOr vx (fun _ s => symOr vy (fun _ s' => factS ub neg s s' k) (strOr vy (fun l => bif Nat.ble 9000 s && Nat.beq l 0 then k (.bool (negB neg false)) else false) false)) no
theorem txtEq_true {ub : List Nat} {neg : Nat} {vx vy : AV} {k : AV → Bool} {no : Bool} (h : txtEq ub neg vx vy k no = true) {φ : Phi} {ν : Nu} (hu : FactU ν ub) {x y : Value} (hx : VR φ ν vx x) (hy : VR φ ν vy y) :
    (∃ a b av, x = .string a ∧ y = .string b ∧ VR φ ν av (.bool (negB neg (a.toList == b.toList))) ∧ k av = true) ∨ no = true := by
  rcases symOr_true h with ⟨K, s, e1, h1⟩ | h1
  · subst e1
    rcases symOr_true h1 with ⟨K', s', e2, h2⟩ | h2
    · subst e2
      obtain ⟨g1, g2, av, g3, g4⟩ := factS_true h2 hu
      cases hx with
      | sym _ _ hx =>
      cases hy with
      | sym _ _ hy =>
      rw [Nu.val_str _ _ g1.1 (.inl g1.2)] at hx
      rw [Nu.val_str _ _ (by omega) (.inr g2)] at hy
      exact .inl ⟨_, _, av, hx, hy, g3 φ, g4⟩
    · rcases strOr_true h2 with ⟨l, c, e2, h3⟩ | h3
      · subst e2
        cases hb : (Nat.ble 9000 s && Nat.beq l 0) with
        | false => rw [hb] at h3; cases h3
        | true =>
          rw [hb, cond_true] at h3
          simp only [Bool.and_eq_true, Nat.ble_eq] at hb
          have hl := nbT hb.2
          subst hl
          cases hx with
          | sym _ _ hx =>
          cases hy with
          | str hy =>
          rw [Nu.val_str _ _ (by omega) (.inr hb.1)] at hx
          refine .inl ⟨_, _, _, hx, rfl, ?_, h3⟩
          have hne := Nu.str_size ν hb.1
          rename_i sy
          have hf : ((ν.str s).toList == sy.toList) = false := by
            rw [Bool.eq_false_iff]
            intro e
            have e2 := congrArg List.length (eq_of_beq e)
            rw [ByteArray.toList_eq, ByteArray.toList_eq] at e2
            have e3 : (ν.str s).size = sy.size := by simpa using e2
            exact hne (e3.trans hy.1)
          rw [hf]
          exact .bool _
      · cases h3
  · exact .inr h1
def isStrT (P : Program) (t : TypeId) : Bool := match undX P t with | some .string => true | _ => false
theorem run_str_eql {P : Program} {t : TypeId} {w : World} (a b : ByteArray) : (binOp .eql t (.string a) (.string b)).run P w = .ok (.bool (a.toList == b.toList)) w := rfl
theorem run_str_neq {P : Program} {t : TypeId} {w : World} (a b : ByteArray) : (binOp .neq t (.string a) (.string b)).run P w = .ok (.bool (!(a.toList == b.toList))) w := rfl
def mkBinT (P : Program) (L N : Nat) (op : BinOp) (t : TypeId) (x y : Operand) (r : V L → Bool) : Bool :=
  match op with
  | .eql => bif isStrT P t then mkE L N x fun ex => mkE L N y fun ey => mkBin P L N .eql t x y fun e => r fun ts h k => ex ts fun vx => ey ts fun vy => txtEq h.ro.ub 0 vx vy k (e ts h k) else mkBin P L N .eql t x y r
  | .neq => bif isStrT P t then mkE L N x fun ex => mkE L N y fun ey => mkBin P L N .neq t x y fun e => r fun ts h k => ex ts fun vx => ey ts fun vy => txtEq h.ro.ub 1 vx vy k (e ts h k) else mkBin P L N .neq t x y r
  | op => mkBin P L N op t x y r
theorem mkBinT_true {P : Program} {ν : Nu} {L N : Nat} {o : Oper} {op : BinOp} {t yt : TypeId} {x y : Operand} (ho : o.op = .binOp op t x y yt) {r : V L → Bool} (h : mkBinT P L N op t x y r = true) :
    ∃ e, GoodV P ν L N o e ∧ r e = true := by
  unfold mkBinT at h
  split at h
  · cases hi : isStrT P t with
    | false => rw [hi] at h; exact mkBin_true ho h
    | true =>
      rw [hi, cond_true] at h
      obtain ⟨ex, hex, h⟩ := mkE_true h
      obtain ⟨ey, hey, h⟩ := mkE_true h
      obtain ⟨e, he, h⟩ := mkBin_true (ν := ν) ho h
      refine ⟨_, fun φ ts h' a w hst k hk => ?_, h⟩
      have h1 := hex φ ν ts a hst.fr
      have h2 := hey φ ν ts a hst.fr
      rcases txtEq_true hk hst.hr.ub h1 h2 with ⟨sa, sb, av, e1, e2, hav, hk1⟩ | hk1
      · exact ⟨.bool (sa.toList == sb.toList), av, execOp_bin ho (by rw [e1, e2]; exact eqGuard_plain _ _ _ _ _ _ rfl) (by rw [e1, e2]; exact run_str_eql _ _), hav, hk1⟩
      · exact he φ ts h' a w hst k hk1
  · cases hi : isStrT P t with
    | false => rw [hi] at h; exact mkBin_true ho h
    | true =>
      rw [hi, cond_true] at h
      obtain ⟨ex, hex, h⟩ := mkE_true h
      obtain ⟨ey, hey, h⟩ := mkE_true h
      obtain ⟨e, he, h⟩ := mkBin_true (ν := ν) ho h
      refine ⟨_, fun φ ts h' a w hst k hk => ?_, h⟩
      have h1 := hex φ ν ts a hst.fr
      have h2 := hey φ ν ts a hst.fr
      rcases txtEq_true hk hst.hr.ub h1 h2 with ⟨sa, sb, av, e1, e2, hav, hk1⟩ | hk1
      · exact ⟨.bool (!(sa.toList == sb.toList)), av, execOp_bin ho (by rw [e1, e2]; exact eqGuard_plain _ _ _ _ _ _ rfl) (by rw [e1, e2]; exact run_str_neq _ _), hav, hk1⟩
      · exact he φ ts h' a w hst k hk1
  · exact mkBin_true ho h
def mkBinQ (P : Program) (L N : Nat) (op : BinOp) (t : TypeId) (x y : Operand) (r : V L → Bool) : Bool :=
  match op with
  | .eql => bif isStrT P t then mkBinT P L N .eql t x y r else mkE L N x fun ex => mkE L N y fun ey => mkBin P L N .eql t x y fun e => r fun ts h k => ex ts fun vx => ey ts fun vy => symOr vx (fun K s => symOr vy (fun K' s' => bif isIntK K K' && (Nat.beq s s' && Nat.blt s 1000) then k (.bool true) else false) false) (e ts h k)
  | .neq => bif isStrT P t then mkBinT P L N .neq t x y r else mkE L N x fun ex => mkE L N y fun ey => mkBin P L N .neq t x y fun e => r fun ts h k => ex ts fun vx => ey ts fun vy => symOr vx (fun K s => symOr vy (fun K' s' => bif isIntK K K' && (Nat.beq s s' && Nat.blt s 1000) then k (.bool false) else false) false) (e ts h k)
  | op => mkBin P L N op t x y r
theorem mkBinQ_true {P : Program} {ν : Nu} {L N : Nat} {o : Oper} {op : BinOp} {t yt : TypeId} {x y : Operand} (ho : o.op = .binOp op t x y yt) {r : V L → Bool} (h : mkBinQ P L N op t x y r = true) :
    ∃ e, GoodV P ν L N o e ∧ r e = true := by
  unfold mkBinQ at h
  split at h
  · cases hi : isStrT P t with
    | true => rw [hi, cond_true] at h; exact mkBinT_true ho h
    | false =>
      rw [hi, cond_false] at h
      obtain ⟨ex, hex, h⟩ := mkE_true h
      obtain ⟨ey, hey, h⟩ := mkE_true h
      obtain ⟨e, he, h⟩ := mkBin_true (ν := ν) ho h
      refine ⟨_, fun φ ts h' a w hst k hk => ?_, h⟩
      rcases symOr_true hk with ⟨K, s, e1, hk1⟩ | hk1
      · rcases symOr_true hk1 with ⟨K', s', e2, hk2⟩ | hk2
        · cases hb : (isIntK K K' && (Nat.beq s s' && Nat.blt s 1000)) with
          | false => rw [hb] at hk2; cases hk2
          | true =>
            rw [hb, cond_true] at hk2
            rw [Bool.and_eq_true, Bool.and_eq_true] at hb
            have h1 := hex φ ν ts a hst.fr
            have h2 := hey φ ν ts a hst.fr
            rw [e1] at h1
            rw [e2] at h2
            have hK := isIntK_true hb.1
            have hs := nbT hb.2.1
            have hlt : s < 1000 := by simpa [Nat.blt_eq] using hb.2.2
            subst hK hs
            generalize hvx : a.eval x = vx at h1
            generalize hvy : a.eval y = vy at h2
            cases h1 with
            | sym _ _ h1 =>
            cases h2 with
            | sym _ _ h2 =>
            rw [Nu.val_num _ _ hlt] at h1 h2
            subst h1 h2
            exact ⟨.bool true, .bool true, execOp_bin ho (by rw [hvx, hvy]; exact eqGuard_plain _ _ _ _ _ _ rfl) (by rw [hvx, hvy]; simp [binOp, Op.intCmp]), .bool true, hk2⟩
        · cases hk2
      · exact he φ ts h' a w hst k hk1
  · cases hi : isStrT P t with
    | true => rw [hi, cond_true] at h; exact mkBinT_true ho h
    | false =>
      rw [hi, cond_false] at h
      obtain ⟨ex, hex, h⟩ := mkE_true h
      obtain ⟨ey, hey, h⟩ := mkE_true h
      obtain ⟨e, he, h⟩ := mkBin_true (ν := ν) ho h
      refine ⟨_, fun φ ts h' a w hst k hk => ?_, h⟩
      rcases symOr_true hk with ⟨K, s, e1, hk1⟩ | hk1
      · rcases symOr_true hk1 with ⟨K', s', e2, hk2⟩ | hk2
        · cases hb : (isIntK K K' && (Nat.beq s s' && Nat.blt s 1000)) with
          | false => rw [hb] at hk2; cases hk2
          | true =>
            rw [hb, cond_true] at hk2
            rw [Bool.and_eq_true, Bool.and_eq_true] at hb
            have h1 := hex φ ν ts a hst.fr
            have h2 := hey φ ν ts a hst.fr
            rw [e1] at h1
            rw [e2] at h2
            have hK := isIntK_true hb.1
            have hs := nbT hb.2.1
            have hlt : s < 1000 := by simpa [Nat.blt_eq] using hb.2.2
            subst hK hs
            generalize hvx : a.eval x = vx at h1
            generalize hvy : a.eval y = vy at h2
            cases h1 with
            | sym _ _ h1 =>
            cases h2 with
            | sym _ _ h2 =>
            rw [Nu.val_num _ _ hlt] at h1 h2
            subst h1 h2
            exact ⟨.bool false, .bool false, execOp_bin ho (by rw [hvx, hvy]; exact eqGuard_plain _ _ _ _ _ _ rfl) (by rw [hvx, hvy]; simp [binOp, Op.intCmp]), .bool false, hk2⟩
        · cases hk2
      · exact he φ ts h' a w hst k hk1
  · exact mkBin_true ho h
def inRng (lo hi : Nat) (n : Int) (k : Bool) : Bool := Int.rec (motive := fun _ => Bool) (fun m => bif Nat.ble lo m && Nat.blt m hi then k else false) (fun _ => false) n
theorem inRng_true {lo hi : Nat} {n : Int} {k : Bool} (h : inRng lo hi n k = true) : ∃ m : Nat, n = .ofNat m ∧ lo ≤ m ∧ m < hi ∧ k = true := by
  cases n with
  | negSucc m => cases h
  | ofNat m =>
    have h' : (bif Nat.ble lo m && Nat.blt m hi then k else false) = true := h
    cases hb : (Nat.ble lo m && Nat.blt m hi) with
    | false => rw [hb] at h'; cases h'
    | true =>
      rw [hb] at h'
      rw [Bool.and_eq_true] at hb
      exact ⟨m, rfl, nlT hb.1, by simpa [Nat.blt_eq] using hb.2, h'⟩
def mkBinR (P : Program) (S : List Rule) (L N : Nat) (op : BinOp) (t : TypeId) (x y : Operand) (r : V L → Bool) : Bool :=
  (fun S' => match S' with
    | [] => mkBinQ P L N op t x y r
    | q :: S'' => mkE L N x fun ex => mkE L N y fun ey => mkBinQ P L N op t x y fun e => r fun ts h k => ex ts fun vx => ey ts fun vy => symOr vy (fun K s => ruleK K s (q :: S'') fun z => vInt vx fun K' n => bif isIntK K K' then inRng z.1 z.2.1 n (k z.2.2) else false) (e ts h k)) (S.filterMap (selR op))
theorem mkBinR_true {P : Program} {ν : Nu} {S : List Rule} (hS : SymOk P ν S) {L N : Nat} {o : Oper} {op : BinOp} {t yt : TypeId} {x y : Operand} (ho : o.op = .binOp op t x y yt) {r : V L → Bool} (h : mkBinR P S L N op t x y r = true) :
    ∃ e, GoodV P ν L N o e ∧ r e = true := by
  unfold mkBinR at h
  have hmem : ∀ K s z, (K, s, z) ∈ S.filterMap (selR op) → Rule.rng op K s z.1 z.2.1 z.2.2 ∈ S := fun K s z h => mem_selR h
  dsimp only at h
  generalize S.filterMap (selR op) = S' at h hmem
  split at h
  · exact mkBinQ_true ho h
  · rename_i q S''
    obtain ⟨ex, hex, h⟩ := mkE_true h
    obtain ⟨ey, hey, h⟩ := mkE_true h
    obtain ⟨e, he, h⟩ := mkBinQ_true (ν := ν) ho h
    refine ⟨_, fun φ ts h' a w hst k hk => ?_, h⟩
    rcases symOr_true hk with ⟨K, s, e1, hk1⟩ | hk1
    · obtain ⟨z, g1, hk2⟩ := ruleK_true hk1
      obtain ⟨K', n, e2, hk3⟩ := vInt_true hk2
      cases hb : isIntK K K' with
      | false => rw [hb] at hk3; cases hk3
      | true =>
        rw [hb, cond_true] at hk3
        have hK := isIntK_true hb
        subst hK
        obtain ⟨m, rfl, l1, l2, hk4⟩ := inRng_true hk3
        obtain ⟨hlt, hS⟩ := hS _ (hmem K s z g1)
        obtain ⟨v, hrun, hv⟩ := hS t w m l1 l2
        have h1 := hex φ ν ts a hst.fr
        have h2 := hey φ ν ts a hst.fr
        rw [e2] at h1
        rw [e1] at h2
        generalize hvx : a.eval x = vx at h1
        generalize hvy : a.eval y = vy at h2
        cases h1
        cases h2 with
        | sym _ _ h2 =>
        rw [Nu.val_num _ _ hlt] at h2
        subst h2
        exact ⟨v, z.2.2, execOp_bin ho (by rw [hvx, hvy]; exact eqGuard_plain _ _ _ _ _ _ rfl) (by rw [hvx, hvy]; exact hrun), hv φ, hk4⟩
    · exact he φ ts h' a w hst k hk1
def mkBinL (P : Program) (S : List Rule) (L N : Nat) (op : BinOp) (t : TypeId) (x y : Operand) (r : V L → Bool) : Bool :=
  (fun S' => match S' with
    | [] => mkBinR P S L N op t x y r
    | q :: S'' => mkE L N x fun ex => mkE L N y fun ey => mkBinR P S L N op t x y fun e => r fun ts h k => ex ts fun vx => ey ts fun vy => symOr vx (fun K s => ruleK K s (q :: S'') fun z => vInt vy fun K' n => bif isIntK K K' then inRng z.1 z.2.1 n (k z.2.2) else false) (e ts h k)) (S.filterMap (selRl op))
theorem mkBinL_true {P : Program} {ν : Nu} {S : List Rule} (hS : SymOk P ν S) {L N : Nat} {o : Oper} {op : BinOp} {t yt : TypeId} {x y : Operand} (ho : o.op = .binOp op t x y yt) {r : V L → Bool} (h : mkBinL P S L N op t x y r = true) :
    ∃ e, GoodV P ν L N o e ∧ r e = true := by
  unfold mkBinL at h
  have hmem : ∀ K s z, (K, s, z) ∈ S.filterMap (selRl op) → Rule.rnl op K s z.1 z.2.1 z.2.2 ∈ S := fun K s z h => mem_selRl h
  dsimp only at h
  generalize S.filterMap (selRl op) = S' at h hmem
  split at h
  · exact mkBinR_true hS ho h
  · rename_i q S''
    obtain ⟨ex, hex, h⟩ := mkE_true h
    obtain ⟨ey, hey, h⟩ := mkE_true h
    obtain ⟨e, he, h⟩ := mkBinR_true hS ho h
    refine ⟨_, fun φ ts h' a w hst k hk => ?_, h⟩
    rcases symOr_true hk with ⟨K, s, e1, hk1⟩ | hk1
    · obtain ⟨z, g1, hk2⟩ := ruleK_true hk1
      obtain ⟨K', n, e2, hk3⟩ := vInt_true hk2
      cases hb : isIntK K K' with
      | false => rw [hb] at hk3; cases hk3
      | true =>
        rw [hb, cond_true] at hk3
        have hK := isIntK_true hb
        subst hK
        obtain ⟨m, rfl, l1, l2, hk4⟩ := inRng_true hk3
        obtain ⟨hlt, hS⟩ := hS _ (hmem K s z g1)
        obtain ⟨v, hrun, hv⟩ := hS t w m l1 l2
        have h1 := hex φ ν ts a hst.fr
        have h2 := hey φ ν ts a hst.fr
        rw [e1] at h1
        rw [e2] at h2
        generalize hvx : a.eval x = vx at h1
        generalize hvy : a.eval y = vy at h2
        cases h2
        cases h1 with
        | sym _ _ h1 =>
        rw [Nu.val_num _ _ hlt] at h1
        subst h1
        exact ⟨v, z.2.2, execOp_bin ho (by rw [hvx, hvy]; exact eqGuard_plain _ _ _ _ _ _ rfl) (by rw [hvx, hvy]; exact hrun), hv φ, hk4⟩
    · exact he φ ts h' a w hst k hk1
def mkBinS (P : Program) (S : List Rule) (L N : Nat) (op : BinOp) (t : TypeId) (x y : Operand) (r : V L → Bool) : Bool :=
  match y with
  | .const (.int K' c) => (fun S' => match S' with
      | [] => mkBin P L N op t x y r
      | q :: S'' => mkE L N x fun ex => mkBin P L N op t x y fun e => r fun ts h k => ex ts fun vx => symOr vx (fun K s => ruleK K s (q :: S'') k) (e ts h k)) (S.filterMap (selB op K' c))
  | _ => mkBinL P S L N op t x y r
theorem mkBinS_true {P : Program} {ν : Nu} {S : List Rule} (hS : SymOk P ν S) {L N : Nat} {o : Oper} {op : BinOp} {t yt : TypeId} {x y : Operand} (ho : o.op = .binOp op t x y yt) {r : V L → Bool} (h : mkBinS P S L N op t x y r = true) :
    ∃ e, GoodV P ν L N o e ∧ r e = true := by
  unfold mkBinS at h
  split at h
  · rename_i K' c
    have hmem : ∀ K s av, (K, s, av) ∈ S.filterMap (selB op K' c) → Rule.mk op K s K' c av ∈ S := fun K s av h => mem_selB h
    dsimp only at h
    generalize S.filterMap (selB op K' c) = S' at h hmem
    split at h
    · exact mkBin_true ho h
    · rename_i q S''
      obtain ⟨ex, hex, h⟩ := mkE_true h
      obtain ⟨e, he, h⟩ := mkBin_true (ν := ν) ho h
      refine ⟨_, fun φ ts h' a w hst k hk => ?_, h⟩
      rcases symOr_true hk with ⟨K, s, e1, hk1⟩ | hk1
      · obtain ⟨av, g1, hk2⟩ := ruleK_true hk1
        obtain ⟨hlt, hS⟩ := hS _ (hmem K s av g1)
        obtain ⟨v, hrun, hv⟩ := hS t w
        have h1 := hex φ ν ts a hst.fr
        rw [e1] at h1
        generalize hvx : a.eval x = vx at h1
        cases h1 with
        | sym _ _ h1 =>
        rw [Nu.val_num _ _ hlt] at h1
        subst h1
        exact ⟨v, av, execOp_bin ho (by rw [hvx]; exact eqGuard_plain _ _ _ _ _ _ rfl) (by rw [hvx]; exact hrun), hv φ, hk2⟩
      · exact he φ ts h' a w hst k hk1
  · exact mkBinL_true hS ho h
def mkConvR (P : Program) (S : List Rule) (L N : Nat) (src dst : TypeId) (x : Operand) (r : V L → Bool) : Bool :=
  bif S.isEmpty then mkConv P L N src dst x r else
  match undX P src, undX P dst with
    | some (.int K), some (.int K') => (fun S' => match S' with
      | [] => mkConv P L N src dst x r
      | q :: S'' => mkE L N x fun ex => mkConv P L N src dst x fun e => r fun ts h k => ex ts fun vx => symOr vx (fun K1 s => ruleK K1 s (q :: S'') fun s' => k (.sym K' s')) (e ts h k)) (S.filterMap (selC K K'))
    | _, _ => mkConv P L N src dst x r
theorem mkConvR_true {P : Program} {ν : Nu} {S : List Rule} (hS : SymOk P ν S) {L N : Nat} {o : Oper} {src dst : TypeId} {x : Operand} (ho : o.op = .convert src dst x) {r : V L → Bool} (h : mkConvR P S L N src dst x r = true) :
    ∃ e, GoodV P ν L N o e ∧ r e = true := by
  unfold mkConvR at h
  cases hE : S.isEmpty with
  | true => rw [hE, cond_true] at h; exact mkConv_true ho h
  | false =>
    rw [hE, cond_false] at h
    simp only [undX_eq] at h
    split at h
    · rename_i K K' hsrc hdst
      have hmem : ∀ K1 s s', (K1, s, s') ∈ S.filterMap (selC K K') → K1 = K ∧ Rule.conv K s K' s' ∈ S := fun K1 s s' h => mem_selC h
      generalize S.filterMap (selC K K') = S' at h hmem
      split at h
      · exact mkConv_true ho h
      · rename_i q S''
        obtain ⟨ex, hex, h⟩ := mkE_true h
        obtain ⟨e, he, h⟩ := mkConv_true (ν := ν) ho h
        refine ⟨_, fun φ ts h' a w hst k hk => ?_, h⟩
        rcases symOr_true hk with ⟨K1, s, e1, hk1⟩ | hk1
        · obtain ⟨s', g1, hk2⟩ := ruleK_true hk1
          obtain ⟨rfl, g2⟩ := hmem K1 s s' g1
          obtain ⟨l1, l2, hw⟩ : s < 1000 ∧ s' < 1000 ∧ K'.wrap (ν.f s) = ν.f s' := hS _ g2
          have h1 := hex φ ν ts a hst.fr
          rw [e1] at h1
          generalize hvx : a.eval x = vx at h1
          cases h1 with
          | sym _ _ h1 =>
          rw [Nu.val_num _ _ l1] at h1
          subst h1
          refine ⟨.int K' (ν.f s'), .sym K' s', ?_, .sym K' s' (Nu.val_num _ _ l2).symm, hk2⟩
          unfold execOp; rw [ho]
          simp only [hvx, Go.convert, Sem.run_bind, run_underlying' hsrc, run_underlying' hdst, Result.andThen_ok]
          simp [Conv.intToInt, hw]
        · exact he φ ts h' a w hst k hk1
    · exact mkConv_true ho h
def mkMinR (S : List Rule) (L N : Nat) (x y : Operand) (r : V L → Bool) : Bool :=
  match y with
  | .const (.int K' c) => (fun S' => match S' with
      | [] => mkMinMax L N false x y r
      | q :: S'' => mkE L N x fun ex => mkMinMax L N false x y fun e => r fun ts h k => ex ts fun vx => symOr vx (fun K s => ruleK K s (q :: S'') fun _ => k (.sym K s)) (e ts h k)) (S.filterMap (selM c))
  | _ => mkMinMax L N false x y r
theorem mkMinR_true {P : Program} {ν : Nu} {S : List Rule} (hS : SymOk P ν S) {L N : Nat} {o : Oper} {x y : Operand} {at_ : Array TypeId} (ho : o.op = .call { callee := .builtin .min, args := ⟨[x, y]⟩, argTypes := at_ }) {r : V L → Bool}
    (h : mkMinR S L N x y r = true) : ∃ e, GoodV P ν L N o e ∧ r e = true := by
  unfold mkMinR at h
  split at h
  · rename_i K' c
    have hmem : ∀ K s, (K, s, ()) ∈ S.filterMap (selM c) → Rule.mn K s c ∈ S := fun K s h => mem_selM h
    dsimp only at h
    generalize S.filterMap (selM c) = S' at h hmem
    split at h
    · exact mkMinMax_true (mx := false) ho h
    · rename_i q S''
      obtain ⟨ex, hex, h⟩ := mkE_true h
      obtain ⟨e, he, h⟩ := mkMinMax_true (ν := ν) (mx := false) ho h
      refine ⟨_, fun φ ts h' a w hst k hk => ?_, h⟩
      rcases symOr_true hk with ⟨K, s, e1, hk1⟩ | hk1
      · obtain ⟨⟨⟩, g1, hk2⟩ := ruleK_true hk1
        obtain ⟨l1, hle⟩ : s < 1000 ∧ ν.f s ≤ c := hS _ (hmem K s g1)
        have h1 := hex φ ν ts a hst.fr
        rw [e1] at h1
        generalize hvx : a.eval x = vx at h1
        cases h1 with
        | sym _ _ h1 =>
        rw [Nu.val_num _ _ l1] at h1
        subst h1
        have hlt : ¬ c < ν.f s := by omega
        refine ⟨.int K (ν.f s), .sym K s, ?_, .sym K s (Nu.val_num _ _ l1).symm, hk2⟩
        rw [execOp_builtin ho]
        have hc : a.eval (.const (.int K' c)) = .int K' c := rfl
        simp [builtin, Builtin.min_, hvx, hc, Builtin.min2, hlt]
      · exact he φ ts h' a w hst k hk1
  · exact mkMinMax_true (mx := false) ho h
/-! ### slices and pointers that are symbols -/
def selL (t : TypeId) : Rule → Option (IntKind × Nat × AV)
  | .len K s t1 av => if t1 = t then some (K, s, av) else none
  | _ => none
def selI (t : TypeId) : Rule → Option (IntKind × Nat × (Nat × Nat))
  | .ix K s t1 n s' => if t1 = t then some (K, s, (n, s')) else none
  | _ => none
def selD (t : TypeId) : Rule → Option (IntKind × Nat × AV)
  | .ld K s t1 av => if t1 = t then some (K, s, av) else none
  | _ => none
theorem mem_selL {t : TypeId} {S : List Rule} {K : IntKind} {s : Nat} {av : AV} (h : (K, s, av) ∈ S.filterMap (selL t)) : Rule.len K s t av ∈ S := by
  obtain ⟨q, hq, e⟩ := List.mem_filterMap.1 h
  cases q <;> simp only [selL] at e <;> try cases e
  split at e
  · rename_i hc
    subst hc
    cases e; exact hq
  · cases e
theorem mem_selI {t : TypeId} {S : List Rule} {K : IntKind} {s n s' : Nat} (h : (K, s, (n, s')) ∈ S.filterMap (selI t)) : Rule.ix K s t n s' ∈ S := by
  obtain ⟨q, hq, e⟩ := List.mem_filterMap.1 h
  cases q <;> simp only [selI] at e <;> try cases e
  split at e
  · rename_i hc
    subst hc
    cases e; exact hq
  · cases e
theorem mem_selD {t : TypeId} {S : List Rule} {K : IntKind} {s : Nat} {av : AV} (h : (K, s, av) ∈ S.filterMap (selD t)) : Rule.ld K s t av ∈ S := by
  obtain ⟨q, hq, e⟩ := List.mem_filterMap.1 h
  cases q <;> simp only [selD] at e <;> try cases e
  split at e
  · rename_i hc
    subst hc
    cases e; exact hq
  · cases e
def mkLenR (P : Program) (S : List Rule) (L N : Nat) (t : TypeId) (x : Operand) (r : V L → Bool) : Bool :=
  (fun S' => match S' with
    | [] => mkLen P L N t x r
    | q :: S'' => mkE L N x fun ex => mkLen P L N t x fun e => r fun ts h k => ex ts fun vx => symOr vx (fun K s => ruleK K s (q :: S'') k) (e ts h k)) (S.filterMap (selL t))
theorem mkLenR_true {P : Program} {ν : Nu} {S : List Rule} (hS : SymOk P ν S) {L N : Nat} {o : Oper} {t : TypeId} {x : Operand} {ts' : List TypeId} (ho : o.op = .call { callee := .builtin .len, args := ⟨[x]⟩, argTypes := ⟨t :: ts'⟩ }) {r : V L → Bool}
    (h : mkLenR P S L N t x r = true) : ∃ e, GoodV P ν L N o e ∧ r e = true := by
  unfold mkLenR at h
  have hmem : ∀ K s av, (K, s, av) ∈ S.filterMap (selL t) → Rule.len K s t av ∈ S := fun K s av h => mem_selL h
  dsimp only at h
  generalize S.filterMap (selL t) = S' at h hmem
  split at h
  · exact mkLen_true ho h
  · rename_i q S''
    obtain ⟨ex, hex, h⟩ := mkE_true h
    obtain ⟨e, he, h⟩ := mkLen_true (ν := ν) ho h
    refine ⟨_, fun φ ts h' a w hst k hk => ?_, h⟩
    rcases symOr_true hk with ⟨K, s, e1, hk1⟩ | hk1
    · obtain ⟨av, g1, hk2⟩ := ruleK_true hk1
      have h1 := hex φ ν ts a hst.fr
      rw [e1] at h1
      generalize hvx : a.eval x = vx at h1
      cases h1 with
      | sym _ _ h1 =>
      subst h1
      obtain ⟨v, hrun, hv⟩ := hS _ (hmem K s av g1) w o.type ts'
      refine ⟨v, av, ?_, hv φ, hk2⟩
      rw [execOp_builtin ho]
      have e3 : (⟨[x]⟩ : Array Operand).map a.eval = #[ν.val K s] := by rw [← hvx]; simp
      rw [e3]
      simp only [builtin]
      rw [Sem.run_bind, hrun]
      rfl
    · exact he φ ts h' a w hst k hk1
def ruleI (K : IntKind) (s : Nat) (n : Int) (S : List (IntKind × Nat × Nat × Nat)) (k : Nat → Bool) : Bool :=
  List.rec (motive := fun _ => Bool) false (fun q _ ih => bif isIntK q.1 K && (Nat.beq q.2.1 s && eqInt n (.ofNat q.2.2.1)) then k q.2.2.2 else ih) S
theorem ruleI_true {K : IntKind} {s : Nat} {n : Int} {k : Nat → Bool} : ∀ {S : List (IntKind × Nat × Nat × Nat)}, ruleI K s n S k = true → ∃ m z, (K, s, m, z) ∈ S ∧ n = .ofNat m ∧ k z = true
  | [], h => by cases h
  | q :: S, h => by
    have h' : (bif isIntK q.1 K && (Nat.beq q.2.1 s && eqInt n (.ofNat q.2.2.1)) then k q.2.2.2 else ruleI K s n S k) = true := h
    cases hb : (isIntK q.1 K && (Nat.beq q.2.1 s && eqInt n (.ofNat q.2.2.1))) with
    | true =>
      rw [hb] at h'
      simp only [Bool.and_eq_true] at hb
      obtain ⟨K1, s1, m, z⟩ := q
      have e1 := isIntK_true hb.1
      have e2 := nbT hb.2.1
      have e3 := eqInt_true hb.2.2
      simp only at e1 e2 e3
      subst e1 e2
      exact ⟨m, z, List.mem_cons_self, e3, h'⟩
    | false =>
      rw [hb] at h'
      obtain ⟨m, z, g1, g2⟩ := ruleI_true (S := S) h'
      exact ⟨m, z, List.mem_cons_of_mem _ g1, g2⟩
def mkIxR (P : Program) (S : List Rule) (L N : Nat) (t : TypeId) (x ix : Operand) (r : V L → Bool) : Bool :=
  (fun S' => match S' with
    | [] => mkIndexAddr P L N t x ix r
    | q :: S'' => mkE L N x fun ex => mkE L N ix fun ei => mkIndexAddr P L N t x ix fun e => r fun ts h k =>
        ex ts fun vx => ei ts fun vi => symOr vx (fun K s => vInt vi fun _ n => ruleI K s n (q :: S'') fun z => k (.sym K z)) (e ts h k)) (S.filterMap (selI t))
theorem mkIxR_true {P : Program} {ν : Nu} {S : List Rule} (hS : SymOk P ν S) {L N : Nat} {o : Oper} {t : TypeId} {x ix : Operand} (ho : o.op = .indexAddr t x ix) {r : V L → Bool}
    (h : mkIxR P S L N t x ix r = true) : ∃ e, GoodV P ν L N o e ∧ r e = true := by
  unfold mkIxR at h
  have hmem : ∀ K s z, (K, s, z) ∈ S.filterMap (selI t) → Rule.ix K s t z.1 z.2 ∈ S := fun K s z h => mem_selI h
  dsimp only at h
  generalize S.filterMap (selI t) = S' at h hmem
  split at h
  · exact mkIndexAddr_true ho h
  · rename_i q S''
    obtain ⟨ex, hex, h⟩ := mkE_true h
    obtain ⟨ei, hei, h⟩ := mkE_true h
    obtain ⟨e, he, h⟩ := mkIndexAddr_true (ν := ν) ho h
    refine ⟨_, fun φ ts h' a w hst k hk => ?_, h⟩
    rcases symOr_true hk with ⟨K, s, e1, hk1⟩ | hk1
    · obtain ⟨J, n, e2, hk2⟩ := vInt_true hk1
      obtain ⟨m, z, g1, rfl, hk4⟩ := ruleI_true hk2
      have h1 := hex φ ν ts a hst.fr
      have h2 := hei φ ν ts a hst.fr
      rw [e1] at h1
      rw [e2] at h2
      generalize hvx : a.eval x = vx at h1
      generalize hvi : a.eval ix = vi at h2
      cases h2
      cases h1 with
      | sym _ _ h1 =>
      subst h1
      have hrun := hS _ (hmem K s (m, z) g1) w J
      refine ⟨ν.val K z, .sym K z, ?_, .sym K z, hk4⟩
      unfold execOp; rw [ho]
      simp only [hvx, hvi]
      rw [Sem.run_bind, hrun]
      rfl
    · exact he φ ts h' a w hst k hk1
def mkLdR (P : Program) (S : List Rule) (L N : Nat) (t : TypeId) (x : Operand) (r : V L → Bool) : Bool :=
  (fun S' => match S' with
    | [] => mkLoad P L N t x r
    | q :: S'' => mkE L N x fun ex => mkLoad P L N t x fun e => r fun ts h k => ex ts fun vx => symOr vx (fun K s => ruleK K s (q :: S'') k) (e ts h k)) (S.filterMap (selD t))
theorem mkLdR_true {P : Program} {ν : Nu} {S : List Rule} (hS : SymOk P ν S) {L N : Nat} {o : Oper} {t : TypeId} {x : Operand} (ho : o.op = .load t x) {r : V L → Bool}
    (h : mkLdR P S L N t x r = true) : ∃ e, GoodV P ν L N o e ∧ r e = true := by
  unfold mkLdR at h
  have hmem : ∀ K s av, (K, s, av) ∈ S.filterMap (selD t) → Rule.ld K s t av ∈ S := fun K s av h => mem_selD h
  dsimp only at h
  generalize S.filterMap (selD t) = S' at h hmem
  split at h
  · exact mkLoad_true ho h
  · rename_i q S''
    obtain ⟨ex, hex, h⟩ := mkE_true h
    obtain ⟨e, he, h⟩ := mkLoad_true (ν := ν) ho h
    refine ⟨_, fun φ ts h' a w hst k hk => ?_, h⟩
    rcases symOr_true hk with ⟨K, s, e1, hk1⟩ | hk1
    · obtain ⟨av, g1, hk2⟩ := ruleK_true hk1
      have h1 := hex φ ν ts a hst.fr
      rw [e1] at h1
      generalize hvx : a.eval x = vx at h1
      cases h1 with
      | sym _ _ h1 =>
      subst h1
      obtain ⟨v, hrun, hv⟩ := hS _ (hmem K s av g1) w (fun b o hbo => (hst.hr.gl b o hbo).1)
      refine ⟨v, av, ?_, hv φ, hk2⟩
      unfold execOp; rw [ho]
      simp only [hvx]
      rw [Sem.run_bind, hrun]
      rfl
    · exact he φ ts h' a w hst k hk1
/-! ### a field of what a symbol points to; a part of a slice that is a symbol -/
def selF (t : TypeId) (n : Nat) : Rule → Option (IntKind × Nat × Nat)
  | .fa K s t1 n1 s' => if t1 = t ∧ n1 = n then some (K, s, s') else none
  | _ => none
theorem mem_selF {t : TypeId} {n : Nat} {S : List Rule} {K : IntKind} {s s' : Nat} (h : (K, s, s') ∈ S.filterMap (selF t n)) : Rule.fa K s t n s' ∈ S := by
  obtain ⟨q, hq, e⟩ := List.mem_filterMap.1 h
  cases q <;> simp only [selF] at e <;> try cases e
  split at e
  · rename_i hc
    obtain ⟨rfl, rfl⟩ := hc
    cases e; exact hq
  · cases e
def mkFaR (P : Program) (S : List Rule) (L N : Nat) (t : TypeId) (x : Operand) (f : Nat) (r : V L → Bool) : Bool :=
  (fun S' => match S' with
    | [] => mkFieldAddr P L N t x f r
    | q :: S'' => mkE L N x fun ex => mkFieldAddr P L N t x f fun e => r fun ts h k => ex ts fun vx => symOr vx (fun K s => ruleK K s (q :: S'') fun z => k (.sym K z)) (e ts h k)) (S.filterMap (selF t f))
theorem mkFaR_true {P : Program} {ν : Nu} {S : List Rule} (hS : SymOk P ν S) {L N : Nat} {o : Oper} {t : TypeId} {x : Operand} {f : Nat} (ho : o.op = .fieldAddr t x f) {r : V L → Bool}
    (h : mkFaR P S L N t x f r = true) : ∃ e, GoodV P ν L N o e ∧ r e = true := by
  unfold mkFaR at h
  have hmem : ∀ K s z, (K, s, z) ∈ S.filterMap (selF t f) → Rule.fa K s t f z ∈ S := fun K s z h => mem_selF h
  dsimp only at h
  generalize S.filterMap (selF t f) = S' at h hmem
  split at h
  · exact mkFieldAddr_true ho h
  · rename_i q S''
    obtain ⟨ex, hex, h⟩ := mkE_true h
    obtain ⟨e, he, h⟩ := mkFieldAddr_true (ν := ν) ho h
    refine ⟨_, fun φ ts h' a w hst k hk => ?_, h⟩
    rcases symOr_true hk with ⟨K, s, e1, hk1⟩ | hk1
    · obtain ⟨z, g1, hk2⟩ := ruleK_true hk1
      have h1 := hex φ ν ts a hst.fr
      rw [e1] at h1
      generalize hvx : a.eval x = vx at h1
      cases h1 with
      | sym _ _ h1 =>
      subst h1
      have hrun := hS _ (hmem K s z g1) w
      refine ⟨ν.val K z, .sym K z, ?_, .sym K z, hk2⟩
      unfold execOp; rw [ho]
      simp only [hvx]
      rw [Sem.run_bind, hrun]
      rfl
    · exact he φ ts h' a w hst k hk1
def selS (t : TypeId) : Rule → Option (IntKind × Nat × (Nat × Option Nat × Nat))
  | .sl K s t1 lo hi s' => if t1 = t then some (K, s, (lo, hi, s')) else none
  | _ => none
theorem mem_selS {t : TypeId} {S : List Rule} {K : IntKind} {s s' lo : Nat} {hi : Option Nat} (h : (K, s, (lo, hi, s')) ∈ S.filterMap (selS t)) : Rule.sl K s t lo hi s' ∈ S := by
  obtain ⟨q, hq, e⟩ := List.mem_filterMap.1 h
  cases q <;> simp only [selS] at e <;> try cases e
  split at e
  · rename_i hc
    subst hc
    cases e; exact hq
  · cases e
def eqON (a b : Option Nat) : Bool := Option.rec (motive := fun _ => Bool) (Option.rec (motive := fun _ => Bool) true (fun _ => false) b) (fun x => Option.rec (motive := fun _ => Bool) false (fun y => Nat.beq x y) b) a
theorem eqON_true {a b : Option Nat} (h : eqON a b = true) : a = b := by
  cases a <;> cases b <;> first | rfl | cases h | exact congrArg some (nbT h)
def ruleS (K : IntKind) (s lo : Nat) (hi : Option Nat) (S : List (IntKind × Nat × (Nat × Option Nat × Nat))) (k : Nat → Bool) : Bool :=
  List.rec (motive := fun _ => Bool) false (fun q _ ih => bif isIntK q.1 K && (Nat.beq q.2.1 s && (Nat.beq q.2.2.1 lo && eqON q.2.2.2.1 hi)) then k q.2.2.2.2 else ih) S
theorem ruleS_true {K : IntKind} {s lo : Nat} {hi : Option Nat} {k : Nat → Bool} : ∀ {S : List (IntKind × Nat × (Nat × Option Nat × Nat))}, ruleS K s lo hi S k = true → ∃ z, (K, s, (lo, hi, z)) ∈ S ∧ k z = true
  | [], h => by cases h
  | q :: S, h => by
    have h' : (bif isIntK q.1 K && (Nat.beq q.2.1 s && (Nat.beq q.2.2.1 lo && eqON q.2.2.2.1 hi)) then k q.2.2.2.2 else ruleS K s lo hi S k) = true := h
    cases hb : (isIntK q.1 K && (Nat.beq q.2.1 s && (Nat.beq q.2.2.1 lo && eqON q.2.2.2.1 hi))) with
    | true =>
      rw [hb] at h'
      simp only [Bool.and_eq_true] at hb
      obtain ⟨K1, s1, l1, h1, z⟩ := q
      have e1 := isIntK_true hb.1
      have e2 := nbT hb.2.1
      have e3 := nbT hb.2.2.1
      have e4 := eqON_true hb.2.2.2
      simp only at e1 e2 e3 e4
      subst e1 e2 e3 e4
      exact ⟨z, List.mem_cons_self, h'⟩
    | false =>
      rw [hb] at h'
      obtain ⟨z, g1, g2⟩ := ruleS_true (S := S) h'
      exact ⟨z, List.mem_cons_of_mem _ g1, g2⟩
def mkSlR (P : Program) (S : List Rule) (L N : Nat) (t : TypeId) (x : Operand) (lo hi mx : Option Operand) (r : V L → Bool) : Bool :=
  (fun S' => match S', mx with
    | q :: S'', none => mkE L N x fun ex => mkB L N lo fun fl => mkB L N hi fun fh => mkSlice P L N t x lo hi none fun e => r fun ts h k => ex ts fun vx => symOr vx (fun K s => fl ts 0 fun l =>
        (bif hi.isSome then fh ts 0 fun hh => ruleS K s l (some hh) (q :: S'') fun z => k (.sym K z) else ruleS K s l none (q :: S'') fun z => k (.sym K z))) (e ts h k)
    | _, mx => mkSlice P L N t x lo hi mx r) (S.filterMap (selS t))
theorem mkSlR_true {P : Program} {ν : Nu} {S : List Rule} (hS : SymOk P ν S) {L N : Nat} {o : Oper} {t : TypeId} {x : Operand} {lo hi mx : Option Operand} (ho : o.op = .slice t x lo hi mx) {r : V L → Bool}
    (h : mkSlR P S L N t x lo hi mx r = true) : ∃ e, GoodV P ν L N o e ∧ r e = true := by
  unfold mkSlR at h
  have hmem : ∀ K s z, (K, s, z) ∈ S.filterMap (selS t) → Rule.sl K s t z.1 z.2.1 z.2.2 ∈ S := fun K s z h => mem_selS h
  dsimp only at h
  generalize S.filterMap (selS t) = S' at h hmem
  split at h
  · rename_i q S''
    obtain ⟨ex, hex, h⟩ := mkE_true h
    obtain ⟨fl, hfl, h⟩ := mkB_true h
    obtain ⟨fh, hfh, h⟩ := mkB_true h
    obtain ⟨e, he, h⟩ := mkSlice_true (ν := ν) ho h
    refine ⟨_, fun φ ts h' a w hst k hk => ?_, h⟩
    rcases symOr_true hk with ⟨K, s, e1, hk1⟩ | hk1
    · obtain ⟨l, bl, hk2⟩ := hfl φ ν ts a _ _ hst.fr hk1
      have h1 := hex φ ν ts a hst.fr
      rw [e1] at h1
      generalize hvx : a.eval x = vx at h1
      cases h1 with
      | sym _ _ h1 =>
      subst h1
      have fin : ∀ (hb : Option Nat) z, (K, s, (l, hb, z)) ∈ q :: S'' → (match hb with | none => hi.map a.eval = none | some n => ∃ J, hi.map a.eval = some (.int J (.ofNat n))) → k (.sym K z) = true →
          ∃ v av, (execOp a.eval o).run P w = .ok (.value v) w ∧ VR φ ν av v ∧ k av = true := by
        intro hb z g1 g2 g3
        have hrun := hS _ (hmem K s (l, hb, z) g1) w (lo.map a.eval) (hi.map a.eval) bl g2
        refine ⟨ν.val K z, .sym K z, ?_, .sym K z, g3⟩
        unfold execOp; rw [ho]
        simp only [hvx, Option.map_none]
        rw [Sem.run_bind, hrun]
        rfl
      cases hi with
      | none =>
        simp only [Option.isSome_none, cond_false] at hk2
        obtain ⟨z, g1, g2⟩ := ruleS_true hk2
        exact fin none z g1 rfl g2
      | some y =>
        simp only [Option.isSome_some, cond_true] at hk2
        obtain ⟨hh, ⟨J, bh⟩, hk3⟩ := hfh φ ν ts a _ _ hst.fr hk2
        obtain ⟨z, g1, g2⟩ := ruleS_true hk3
        exact fin (some hh) z g1 ⟨J, by simp [bh]⟩ g2
    · exact he φ ts h' a w hst k hk1
  · exact mkSlice_true ho h
end
end Go.Abs
