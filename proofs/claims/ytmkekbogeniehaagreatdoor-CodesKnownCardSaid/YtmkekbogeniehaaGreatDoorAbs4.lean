/-
  A verified evaluator, text 4 of 4: code of the model compiled to closures over abstract values and run by the kernel; each theorem says that such a run speaks of every real run. It holds for every program; no condition.
-/
import Derived.Test.YtmkekbogeniehaaGreatDoorAbs3
import Derived.Lib.Repeat
import Derived.Lib.SlTrimSet
import Derived.Lib.ItoaNum
set_option linter.unusedVariables false
set_option linter.unusedSimpArgs false

/-
  A verified evaluator: the code of a function: what is not covered answers false when it is run.
-/
namespace Go.Abs
noncomputable section
def dFalse (L : Nat) : D L := fun _ _ _ _ _ => false
theorem dFalse_good {P : Program} {ν : Nu} {R : Bool} {L N : Nat} {c : Code} : Good P ν R L N c (dFalse L) := fun _ _ _ _ _ _ _ _ _ _ _ _ hk => by cases hk
theorem dFalse_goodO {P : Program} {ν : Nu} {L N : Nat} {o : Oper} : GoodO P ν L N o (dFalse L) := fun _ _ _ _ _ _ _ _ _ _ hk => by cases hk
def safeD {L : Nat} (mk : (D L → Bool) → Bool) (r : D L → Bool) : Bool := bif mk (fun _ => true) then mk r else r (dFalse L)
theorem safeD_true {L : Nat} {mk : (D L → Bool) → Bool} {p : D L → Prop} (hp : p (dFalse L)) (hm : ∀ r, mk r = true → ∃ d, p d ∧ r d = true) {r : D L → Bool} (h : safeD mk r = true) : ∃ d, p d ∧ r d = true := by
  unfold safeD at h
  cases hb : mk (fun _ => true) with
  | true => rw [hb] at h; exact hm r h
  | false => rw [hb] at h; exact ⟨_, hp, h⟩
def safeB {L : Nat} (sf : Bool) (mk : (D L → Bool) → Bool) (r : D L → Bool) : Bool := bif sf then safeD mk r else mk r
theorem safeB_true {L : Nat} {sf : Bool} {mk : (D L → Bool) → Bool} {p : D L → Prop} (hp : p (dFalse L)) (hm : ∀ r, mk r = true → ∃ d, p d ∧ r d = true) {r : D L → Bool} (h : safeB sf mk r = true) : ∃ d, p d ∧ r d = true := by
  unfold safeB at h
  cases sf with
  | true => exact safeD_true hp hm h
  | false => exact hm r h
def mkValY (P : Program) (S : List Rule) (L N : Nat) (op : Op) (r : V L → Bool) : Bool :=
  match op with
  | .typeAssert x _ asserted ok => mkAssert P L N x asserted ok r
  | .binOp op t x y _ => bif aggOp P t then mkBinE P L N op t x y r else mkBinS P S L N op t x y r
  | .convert src dst x => bif isSliceT P src && !isSliceT P dst then mkConvS P L N src dst x r else mkConvR P S L N src dst x r
  | .call { callee := .builtin .min, args := ⟨[x, y]⟩, .. } => mkMinR S L N x y r
  | .call { callee := .builtin .len, args := ⟨[x]⟩, argTypes := ⟨t :: _⟩ } => mkLenR P S L N t x r
  | .indexAddr t x ix => mkIxR P S L N t x ix r
  | .load t x => mkLdR P S L N t x r
  | op => mkValX P L N op r
theorem mkValY_true {P : Program} {ν : Nu} {S : List Rule} (hS : SymOk P ν S) {L N : Nat} {o : Oper} {r : V L → Bool} (h : mkValY P S L N o.op r = true) : ∃ e, GoodV P ν L N o e ∧ r e = true := by
  unfold mkValY at h
  split at h
  · rename_i x xT asserted ok ho; exact mkAssert_true ho h
  · rename_i op t x y yt ho
    cases hb : aggOp P t with
    | true => rw [hb] at h; exact mkBinE_true ho h
    | false => rw [hb] at h; exact mkBinS_true hS ho h
  · rename_i src dst x ho
    cases hb : (isSliceT P src && !isSliceT P dst) with
    | true => rw [hb] at h; exact mkConvS_true ho h
    | false => rw [hb] at h; exact mkConvR_true hS ho h
  · rename_i x y at_ ho; exact mkMinR_true hS ho h
  · rename_i x t ts ho; exact mkLenR_true hS ho h
  · rename_i t x ix ho; exact mkIxR_true hS ho h
  · rename_i t x ho; exact mkLdR_true hS ho h
  · exact mkValX_true h
def isValY (P : Program) (o : Oper) : Bool := match o.op with | .defer _ => false | .alloc _ => false | _ => isVal P o
def isIntT (P : Program) (t : TypeId) : Bool := match undX P t with | some (.int _) => true | _ => false
def mkOpY (P : Program) (S : List Rule) (L N : Nat) (o : Oper) (r : D L → Bool) : Bool :=
  match o.op with
  | .typeAssert .. | .binOp .. => mkValY P S L N o.op (putV L N o.dst r)
  | .convert src dst x => bif Nat.beq src dst && isSliceT P dst then mkConvI P L N src x (putA L N o.dst r) else bif isSliceT P dst then mkConvB P L N src dst x (putA L N o.dst r) else bif isSliceT P src then mkConvS P L N src dst x (putV L N o.dst r) else mkConvR P S L N src dst x (putV L N o.dst r)
  | .call { callee := .builtin .min, args := ⟨[x, y]⟩, .. } => mkMinR S L N x y (putV L N o.dst r)
  | .call { callee := .builtin .len, args := ⟨[x]⟩, argTypes := ⟨t :: _⟩ } => mkLenR P S L N t x (putV L N o.dst r)
  | .indexAddr t x ix => mkIxR P S L N t x ix (putV L N o.dst r)
  | .load t x => mkLdR P S L N t x (putV L N o.dst r)
  | .call { callee := .builtin .clear, args := ⟨[x]⟩, argTypes := ⟨[t]⟩ } => mkClear P L N t x (putA L N o.dst r)
  | .call { callee := .builtin .copy, args := ⟨[x, y]⟩, argTypes := ⟨[t, tx]⟩ } => mkCopy P L N t tx x y (putA L N o.dst r)
  | .call { callee := .builtin .append, args := ⟨[x, y]⟩, argTypes := ⟨[t, tx]⟩ } => bif isIntT P tx then mkAppendZ P L N t tx x y (putA L N o.dst r) else mkOpX P L N o r
  | .call { callee := .invoke x name, args, .. } => mkInv P L N o.dst x name args r
  | _ => mkOpX P L N o r
theorem mkOpY_true {P : Program} {ν : Nu} {S : List Rule} (hS : SymOk P ν S) {L N : Nat} {o : Oper} {r : D L → Bool} (h : mkOpY P S L N o r = true) : ∃ d, GoodO P ν L N o d ∧ r d = true := by
  unfold mkOpY at h
  split at h
  · obtain ⟨e, he, h⟩ := mkValY_true hS h; exact he.good h
  · obtain ⟨e, he, h⟩ := mkValY_true hS h; exact he.good h
  · rename_i src dst x ho
    cases hb0 : (Nat.beq src dst && isSliceT P dst) with
    | true =>
      rw [hb0] at h
      have e0 : src = dst := nbT (by rw [Bool.and_eq_true] at hb0; exact hb0.1)
      subst e0
      obtain ⟨e, he, h⟩ := mkConvI_true ho h; exact he.good h
    | false =>
    rw [hb0] at h
    cases hb : isSliceT P dst with
    | true => rw [hb] at h; obtain ⟨e, he, h⟩ := mkConvB_true ho h; exact he.good h
    | false =>
      rw [hb] at h
      cases hb2 : isSliceT P src with
      | true => rw [hb2] at h; obtain ⟨e, he, h⟩ := mkConvS_true ho h; exact he.good h
      | false => rw [hb2] at h; obtain ⟨e, he, h⟩ := mkConvR_true hS ho h; exact he.good h
  · rename_i x y at_ ho; obtain ⟨e, he, h⟩ := mkMinR_true hS ho h; exact he.good h
  · rename_i x t ts ho; obtain ⟨e, he, h⟩ := mkLenR_true hS ho h; exact he.good h
  · rename_i t x ix ho; obtain ⟨e, he, h⟩ := mkIxR_true hS ho h; exact he.good h
  · rename_i t x ho; obtain ⟨e, he, h⟩ := mkLdR_true hS ho h; exact he.good h
  · rename_i x t ho; obtain ⟨e, he, h⟩ := mkClear_true ho h; exact he.good h
  · rename_i x y t tx ho; obtain ⟨e, he, h⟩ := mkCopy_true ho h; exact he.good h
  · rename_i x y t tx ho
    cases hb : isIntT P tx with
    | true => rw [hb] at h; obtain ⟨e, he, h⟩ := mkAppendZ_true ho h; exact he.good h
    | false => rw [hb] at h; exact mkOpX_true h
  · rename_i x name args at_ ho; exact mkInv_true ho h
  · exact mkOpX_true h
def ndR (R : Bool) (o : Oper) : Bool := match R, o.op with | true, .defer _ => false | _, _ => true
theorem ndR_true {o : Oper} (h : ndR true o = true) : NoDefer o := by
  intro c hc
  unfold ndR at h
  rw [hc] at h
  cases h
def mkOpR (P : Program) (S : List Rule) (R : Bool) (L N : Nat) (o : Oper) (r : D L → Bool) : Bool := bif ndR R o then mkOpY P S L N o r else false
theorem isValY_nd {P : Program} (o : Oper) (h : isValY P o = true) : NoDefer o := by
  intro c hc
  unfold isValY at h
  rw [hc] at h
  cases h
theorem isValY_al {P : Program} (o : Oper) (t : TypeId) (hc : o.op = .alloc t) : isValY P o = false := by
  unfold isValY
  rw [hc]
end
end Go.Abs

/-
  A verified evaluator: the same code of a function, found quicker (one look at an operation, every way a closed term).
-/
namespace Go.Abs
noncomputable section
abbrev VT := (P : Program) → (S : List Rule) → (L N : Nat) → (V L → Bool) → Bool
abbrev OT := (P : Program) → (S : List Rule) → (L N : Nat) → (dst : Option Tmp) → (r : D L → Bool) → Bool
def noV : VT := fun _ _ _ _ _ => false
def noO : OT := fun _ _ _ _ _ _ => false
def callV (b : Builtin) : List Operand → List TypeId → VT :=
  Builtin.rec (motive := fun _ => List Operand → List TypeId → VT)
    (fun _ _ => noV) /- append -/
    (fun a t => match a, t with | [x], t :: _ => fun P _ L N r => mkCap P L N t x r | _, _ => noV) /- cap -/
    (fun _ _ => noV) (fun _ _ => noV) (fun _ _ => noV) (fun _ _ => noV) (fun _ _ => noV) (fun _ _ => noV) /- clear close complex copy delete imag -/
    (fun a t => match a, t with | [x], t :: _ => fun P S L N r => mkLenR P S L N t x r | _, _ => noV) /- len -/
    (fun _ _ => noV) /- make -/
    (fun a _ => match a with | [x, y] => fun _ _ L N r => mkMinMax L N true x y r | _ => noV) /- max -/
    (fun a _ => match a with | [x, y] => fun _ S L N r => mkMinR S L N x y r | _ => noV) /- min -/
    (fun _ _ => noV) (fun _ _ => noV) (fun _ _ => noV) (fun _ _ => noV) (fun _ _ => noV) (fun _ _ => noV) (fun _ _ => noV) (fun _ _ => noV) (fun _ _ => noV) (fun _ _ => noV) (fun _ _ => noV) (fun _ _ => noV) (fun _ _ => noV) (fun _ _ => noV) b
def valT (op : Op) : VT :=
  Op.rec (motive := fun _ => VT)
    (fun x => fun _ _ L N r => mkMove L N x r)
    (fun x => fun _ _ L N r => mkMove L N x r)
    (fun c a b => fun _ _ L N r => mkPick L N c a b r)
    (fun _ => noV) (fun _ _ => noV)
    (fun t parts => fun P _ L N r => mkBuild P L N t parts r)
    (fun _ _ _ => noV) (fun _ _ _ _ => noV)
    (fun t x => fun P S L N r => mkLdR P S L N t x r)
    (fun _ _ _ => noV) (fun _ => noV) (fun _ => noV)
    (fun x => fun _ _ L N r => mkNil L N x r)
    (fun op t x y _ => fun P S L N r => bif aggOp P t then mkBinE P L N op t x y r else mkBinS P S L N op t x y r)
    (fun op _ x => fun _ _ L N r => mkUn L N op x r)
    (fun src dst x => fun P S L N r => bif isSliceT P src && !isSliceT P dst then mkConvS P L N src dst x r else mkConvR P S L N src dst x r)
    (fun _ _ => noV)
    (fun t x => fun P _ L N r => mkIface P L N t x r)
    (fun f fs cs => fun _ _ L N r => mkMakeFunc L N f fs cs r)
    (fun _ _ => noV) (fun _ _ => noV) (fun _ _ _ => noV)
    (fun t x lo hi mx => fun P _ L N r => mkSlice P L N t x lo hi mx r)
    (fun t x f => fun P _ L N r => mkFieldAddr P L N t x f r)
    (fun t x f => fun P _ L N r => mkField P L N t x f r)
    (fun t x i => fun P S L N r => mkIxR P S L N t x i r)
    (fun t x i => fun P _ L N r => mkIndex P L N t x i r)
    (fun t x ix ok => fun P _ L N r => mkLookup P L N t x ix ok r)
    (fun _ _ _ _ => noV) (fun _ _ _ => noV) (fun _ _ _ _ => noV) (fun _ _ => noV) (fun _ _ => noV) (fun _ => noV)
    (fun x _ asserted ok => fun P _ L N r => mkAssert P L N x asserted ok r)
    (fun x i => fun _ _ L N r => mkExtract L N x i r)
    (fun c => Callee.rec (motive := fun _ => List Operand → List TypeId → VT) (fun _ _ _ => noV) (fun _ _ _ _ => noV) callV c.callee c.args.toList c.argTypes.toList)
    (fun _ => noV) (fun _ => noV) (fun _ => noV) (fun _ _ => noV) (fun _ _ _ => noV) (fun _ _ => noV) op
theorem valT_imp {P : Program} {S : List Rule} {L N : Nat} {op : Op} {r : V L → Bool} (h : valT op P S L N r = true) : mkValY P S L N op r = true := by
  cases op with
  | call c =>
    obtain ⟨callee, ⟨args⟩, ⟨ts⟩⟩ := c
    cases callee with
    | value x => cases h
    | invoke x s => cases h
    | builtin b =>
      cases b with
      | cap =>
        match args, ts, h with
        | [], _, h => cases h
        | [x], [], h => cases h
        | [x], t :: ts, h => exact h
        | x :: y :: l, _, h => cases h
      | len =>
        match args, ts, h with
        | [], _, h => cases h
        | [x], [], h => cases h
        | [x], t :: ts, h => exact h
        | x :: y :: l, _, h => cases h
      | max =>
        match args, h with
        | [], h => cases h
        | [x], h => cases h
        | [x, y], h => exact h
        | x :: y :: z :: l, h => cases h
      | min =>
        match args, h with
        | [], h => cases h
        | [x], h => cases h
        | [x, y], h => exact h
        | x :: y :: z :: l, h => cases h
      | _ => cases h
  | _ => first | exact h | cases h
def callO (b : Builtin) : List Operand → List TypeId → OT :=
  Builtin.rec (motive := fun _ => List Operand → List TypeId → OT)
    (fun a t => match a, t with | [x, y], [t, tx] => fun P _ L N dst r => bif isIntT P tx then mkAppendZ P L N t tx x y (putA L N dst r) else mkAppend P L N t tx x y (putA L N dst r) | _, _ => noO)
    (fun a t => match a, t with | [x], t :: _ => fun P _ L N dst r => mkCap P L N t x (putV L N dst r) | _, _ => noO)
    (fun a t => match a, t with | [x], [t] => fun P _ L N dst r => mkClear P L N t x (putA L N dst r) | _, _ => noO)
    (fun _ _ => noO) (fun _ _ => noO)
    (fun a t => match a, t with | [x, y], [t, tx] => fun P _ L N dst r => mkCopy P L N t tx x y (putA L N dst r) | _, _ => noO)
    (fun _ _ => noO) (fun _ _ => noO)
    (fun a t => match a, t with | [x], t :: _ => fun P S L N dst r => mkLenR P S L N t x (putV L N dst r) | _, _ => noO)
    (fun _ _ => noO)
    (fun a _ => match a with | [x, y] => fun _ _ L N dst r => mkMinMax L N true x y (putV L N dst r) | _ => noO)
    (fun a _ => match a with | [x, y] => fun _ S L N dst r => mkMinR S L N x y (putV L N dst r) | _ => noO)
    (fun _ _ => noO) (fun _ _ => noO) (fun _ _ => noO) (fun _ _ => noO) (fun _ _ => noO) (fun _ _ => noO) (fun _ _ => noO) (fun _ _ => noO) (fun _ _ => noO) (fun _ _ => noO) (fun _ _ => noO) (fun _ _ => noO) (fun _ _ => noO) (fun _ _ => noO) b
def callFO (x : Operand) : List Operand → OT :=
  Operand.rec (motive := fun _ => List Operand → OT) (fun t a => fun _ _ L N dst r => mkCallV L N dst (.tmp t) ⟨a⟩ r) (fun v a => fun _ _ L N dst r => mkCallV L N dst (.const v) ⟨a⟩ r)
    (fun g a => fun _ _ L N dst r => mkCallV L N dst (.global g) ⟨a⟩ r) (fun f a => fun _ _ L N dst r => mkCallF L N dst f ⟨a⟩ r) x
def opT (op : Op) : OT :=
  Op.rec (motive := fun _ => OT)
    (fun x => fun _ _ L N dst r => mkMove L N x (putV L N dst r))
    (fun x => fun _ _ L N dst r => mkMove L N x (putV L N dst r))
    (fun c a b => fun _ _ L N dst r => mkPick L N c a b (putV L N dst r))
    (fun t => fun P _ L N dst r => mkAlloc P L t (putA L N dst r))
    (fun t x => fun P _ L N dst r => mkBox P L N t x (putA L N dst r))
    (fun t parts => fun P _ L N dst r => mkBuild P L N t parts (putV L N dst r))
    (fun t n parts => fun P _ L N dst r => mkBuildSlice P L N t n parts (putA L N dst r))
    (fun t m x y => fun P _ L N dst r => mkInsert P L N t m x y (putA L N dst r))
    (fun t x => fun P S L N dst r => mkLdR P S L N t x (putV L N dst r))
    (fun t x y => fun P _ L N dst r => mkStore P L N t x y (putA L N dst r))
    (fun _ => noO) (fun _ => noO)
    (fun x => fun _ _ L N dst r => mkNil L N x (putV L N dst r))
    (fun op t x y _ => fun P S L N dst r => bif aggOp P t then mkBinE P L N op t x y (putV L N dst r) else mkBinS P S L N op t x y (putV L N dst r))
    (fun op _ x => fun _ _ L N dst r => mkUn L N op x (putV L N dst r))
    (fun src d x => fun P S L N dst r => bif Nat.beq src d && isSliceT P d then mkConvI P L N src x (putA L N dst r) else bif isSliceT P d then mkConvB P L N src d x (putA L N dst r) else bif isSliceT P src then mkConvS P L N src d x (putV L N dst r) else mkConvR P S L N src d x (putV L N dst r))
    (fun _ _ => noO)
    (fun t x => fun P _ L N dst r => mkIface P L N t x (putV L N dst r))
    (fun f fs cs => fun _ _ L N dst r => mkMakeFunc L N f fs cs (putV L N dst r))
    (fun t rs => fun P _ L N dst r => mkMakeMap P L N t rs (putA L N dst r))
    (fun _ _ => noO)
    (fun t l c => fun P _ L N dst r => mkMakeSlice P L N t l c (putA L N dst r))
    (fun t x lo hi mx => fun P _ L N dst r => mkSlice P L N t x lo hi mx (putV L N dst r))
    (fun t x f => fun P _ L N dst r => mkFieldAddr P L N t x f (putV L N dst r))
    (fun t x f => fun P _ L N dst r => mkField P L N t x f (putV L N dst r))
    (fun t x i => fun P S L N dst r => mkIxR P S L N t x i (putV L N dst r))
    (fun t x i => fun P _ L N dst r => mkIndex P L N t x i (putV L N dst r))
    (fun t x ix ok => fun P _ L N dst r => mkLookup P L N t x ix ok (putV L N dst r))
    (fun t m x y => fun P _ L N dst r => mkInsert P L N t m x y (putA L N dst r))
    (fun _ _ _ => noO) (fun _ _ _ _ => noO)
    (fun t x => fun P _ L N dst r => mkRangeS P L N t x (putA L N dst r))
    (fun it b => Bool.rec (motive := fun _ => OT) noO (fun _ _ L N dst r => mkNextS L N it (putA L N dst r)) b)
    (fun _ => noO)
    (fun x _ asserted ok => fun P _ L N dst r => mkAssert P L N x asserted ok (putV L N dst r))
    (fun x i => fun _ _ L N dst r => mkExtract L N x i (putV L N dst r))
    (fun c => Callee.rec (motive := fun _ => List Operand → List TypeId → OT) (fun x a _ => callFO x a) (fun x nm a _ => fun P _ L N dst r => mkInv P L N dst x nm ⟨a⟩ r) callO c.callee c.args.toList c.argTypes.toList)
    (fun _ => noO)
    (fun c => Callee.rec (motive := fun _ => List Operand → OT) (fun g a => fun _ _ L N dst r => mkDefer L N g ⟨a⟩ (putA L N dst r)) (fun _ _ _ => noO) (fun _ _ => noO) c.callee c.args.toList)
    (fun x => fun _ _ L N _ r => mkE L N x fun e => r fun _ ts h _ ks => e ts fun x => vIface x false fun t v => ks.pn ts (.iface t v) h)
    (fun _ _ => noO) (fun _ _ _ => noO) (fun _ _ => noO) op
theorem opT_imp {P : Program} {S : List Rule} {L N : Nat} {o : Oper} {r : D L → Bool} (h : opT o.op P S L N o.dst r = true) : mkOpY P S L N o r = true := by
  obtain ⟨dst, op, ty, pos, aft, g⟩ := o
  cases op with
  | call c =>
    obtain ⟨callee, ⟨args⟩, ⟨ts⟩⟩ := c
    cases callee with
    | value x => cases x <;> exact h
    | invoke x s => exact h
    | builtin b =>
      cases b with
      | append =>
        match args, ts, h with
        | [], _, h => cases h
        | [x], _, h => cases h
        | [x, y], [], h => cases h
        | [x, y], [t], h => cases h
        | [x, y], [t, tx], h => exact h
        | [x, y], t :: tx :: tz :: ts, h => cases h
        | x :: y :: z :: l, _, h => cases h
      | copy =>
        match args, ts, h with
        | [], _, h => cases h
        | [x], _, h => cases h
        | [x, y], [], h => cases h
        | [x, y], [t], h => cases h
        | [x, y], [t, tx], h => exact h
        | [x, y], t :: tx :: tz :: ts, h => cases h
        | x :: y :: z :: l, _, h => cases h
      | clear =>
        match args, ts, h with
        | [], _, h => cases h
        | [x], [], h => cases h
        | [x], [t], h => exact h
        | [x], t :: u :: ts, h => cases h
        | x :: y :: l, _, h => cases h
      | cap =>
        match args, ts, h with
        | [], _, h => cases h
        | [x], [], h => cases h
        | [x], t :: ts, h => exact h
        | x :: y :: l, _, h => cases h
      | len =>
        match args, ts, h with
        | [], _, h => cases h
        | [x], [], h => cases h
        | [x], t :: ts, h => exact h
        | x :: y :: l, _, h => cases h
      | max =>
        match args, h with
        | [], h => cases h
        | [x], h => cases h
        | [x, y], h => exact h
        | x :: y :: z :: l, h => cases h
      | min =>
        match args, h with
        | [], h => cases h
        | [x], h => cases h
        | [x, y], h => exact h
        | x :: y :: z :: l, h => cases h
      | _ => cases h
  | «defer» c =>
    obtain ⟨callee, ⟨args⟩, ⟨ts⟩⟩ := c
    cases callee with
    | value x => exact h
    | invoke x s => cases h
    | builtin b => cases h
  | next it b => cases b <;> first | exact h | cases h
  | _ => first | exact h | cases h
def isValB (b : Builtin) : Bool := Builtin.rec (motive := fun _ => Bool) false true false false false false false false true false true true false false false false false false false false false false false false false false b
def isValT (op : Op) : Program → Bool := Op.rec (motive := fun _ => Program → Bool) (fun _ => fun _ => true) (fun _ => fun _ => true) (fun _ _ _ => fun _ => true) (fun _ => fun _ => false) (fun _ _ => fun _ => false) (fun _ _ => fun _ => true) (fun _ _ _ => fun _ => false) (fun _ _ _ _ => fun _ => false) (fun _ _ => fun _ => true) (fun _ _ _ => fun _ => false) (fun _ => fun _ => false) (fun _ => fun _ => false) (fun _ => fun _ => true) (fun _ _ _ _ _ => fun _ => true) (fun _ _ _ => fun _ => true) (fun _ d _ => fun P => !isSliceT P d) (fun _ _ => fun _ => false) (fun _ _ => fun _ => true) (fun _ _ _ => fun _ => true) (fun _ _ => fun _ => false) (fun _ _ => fun _ => false) (fun _ _ _ => fun _ => false) (fun _ _ _ _ _ => fun _ => true) (fun _ _ _ => fun _ => true) (fun _ _ _ => fun _ => true) (fun _ _ _ => fun _ => true) (fun _ _ _ => fun _ => true) (fun _ _ _ _ => fun _ => true) (fun _ _ _ _ => fun _ => false) (fun _ _ _ => fun _ => false) (fun _ _ _ _ => fun _ => false) (fun _ _ => fun _ => false) (fun _ _ => fun _ => false) (fun _ => fun _ => false) (fun _ _ _ _ => fun _ => true) (fun _ _ => fun _ => true) (fun c => fun _ => Callee.rec (motive := fun _ => Bool) (fun _ => false) (fun _ _ => false) isValB c.callee) (fun _ => fun _ => false) (fun _ => fun _ => false) (fun _ => fun _ => false) (fun _ _ => fun _ => false) (fun _ _ _ => fun _ => false) (fun _ _ => fun _ => false) op
def ndT (op : Op) : Bool := Op.rec (motive := fun _ => Bool) (fun _ => true) (fun _ => true) (fun _ _ _ => true) (fun _ => true) (fun _ _ => true) (fun _ _ => true) (fun _ _ _ => true) (fun _ _ _ _ => true) (fun _ _ => true) (fun _ _ _ => true) (fun _ => true) (fun _ => true) (fun _ => true) (fun _ _ _ _ _ => true) (fun _ _ _ => true) (fun _ _ _ => true) (fun _ _ => true) (fun _ _ => true) (fun _ _ _ => true) (fun _ _ => true) (fun _ _ => true) (fun _ _ _ => true) (fun _ _ _ _ _ => true) (fun _ _ _ => true) (fun _ _ _ => true) (fun _ _ _ => true) (fun _ _ _ => true) (fun _ _ _ _ => true) (fun _ _ _ _ => true) (fun _ _ _ => true) (fun _ _ _ _ => true) (fun _ _ => true) (fun _ _ => true) (fun _ => true) (fun _ _ _ _ => true) (fun _ _ => true) (fun _ => true) (fun _ => true) (fun _ => false) (fun _ => true) (fun _ _ => true) (fun _ _ _ => true) (fun _ _ => true) op
def ndZ (R : Bool) (o : Oper) : Bool := Bool.rec (motive := fun _ => Bool) true (ndT o.op) R
theorem ndT_true {o : Oper} (h : ndT o.op = true) : NoDefer o := by
  intro c hc
  rw [hc] at h
  cases h
theorem ndZ_true {o : Oper} (h : ndZ true o = true) : NoDefer o := ndT_true h
theorem isValT_nd {P : Program} (o : Oper) (h : isValT o.op P = true) : NoDefer o := by
  intro c hc
  rw [hc] at h
  cases h
theorem isValT_al {P : Program} (o : Oper) (t : TypeId) (hc : o.op = .alloc t) : isValT o.op P = false := by
  rw [hc]; rfl
def mkOpRZ (P : Program) (S : List Rule) (R : Bool) (L N : Nat) (o : Oper) (r : D L → Bool) : Bool := bif ndZ R o then opT o.op P S L N o.dst r else false
def mkOpSZ (P : Program) (S : List Rule) (sf R : Bool) (L N : Nat) (o : Oper) (r : D L → Bool) : Bool := bif ndZ R o then safeB sf (opT o.op P S L N o.dst) r else false
theorem opT_true {P : Program} {ν : Nu} {S : List Rule} (hS : SymOk P ν S) {L N : Nat} {o : Oper} {r : D L → Bool} (h : opT o.op P S L N o.dst r = true) : ∃ d, GoodO P ν L N o d ∧ r d = true := mkOpY_true hS (opT_imp h)
theorem valT_true {P : Program} {ν : Nu} {S : List Rule} (hS : SymOk P ν S) {L N : Nat} {o : Oper} {r : V L → Bool} (h : valT o.op P S L N r = true) : ∃ e, GoodV P ν L N o e ∧ r e = true := mkValY_true hS (valT_imp h)
theorem mkOpRZ_true {P : Program} {ν : Nu} {S : List Rule} (hS : SymOk P ν S) {R : Bool} {L N : Nat} {o : Oper} {r : D L → Bool} (h : mkOpRZ P S R L N o r = true) : (∃ d, GoodO P ν L N o d ∧ r d = true) ∧ ndZ R o = true := by
  unfold mkOpRZ at h
  cases hb : ndZ R o with
  | false => rw [hb] at h; cases h
  | true => rw [hb] at h; exact ⟨opT_true hS h, rfl⟩
theorem mkOpSZ_true {P : Program} {ν : Nu} {S : List Rule} (hS : SymOk P ν S) {sf R : Bool} {L N : Nat} {o : Oper} {r : D L → Bool} (h : mkOpSZ P S sf R L N o r = true) : (∃ d, GoodO P ν L N o d ∧ r d = true) ∧ ndZ R o = true := by
  unfold mkOpSZ at h
  cases hb : ndZ R o with
  | false => rw [hb] at h; cases h
  | true => rw [hb] at h; exact ⟨safeB_true dFalse_goodO (fun _ h => opT_true hS h) h, rfl⟩
def mkRndZ (P : Program) (S : List Rule) (sf : Bool) (L N : Nat) (c : Code) (r : D L → Bool) : Bool :=
  dec L N (mkOpSZ P S sf true L N) (fun ops => safeB sf (mkDraw P L N (fun o r => valT o.op P S L N r) (mkOpRZ P S true L N) (mkQU P L N) (fun o => isValT o.op P) ops)) (fun _ _ _ _ _ => false) c r
theorem mkRndZ_true {P : Program} {ν : Nu} {S : List Rule} (hS : SymOk P ν S) {sf : Bool} {L N : Nat} (c : Code) (r : D L → Bool) (h : mkRndZ P S sf L N c r = true) : ∃ d, Good P ν true L N c d ∧ r d = true := by
  refine dec_sound (mkOp := mkOpSZ P S sf true L N) (fun o r h => (mkOpSZ_true hS h).1) (fun _ o r h => ndZ_true (mkOpSZ_true hS (ν := ν) h).2) (fun id ops r h => ?_) (fun _ _ _ _ r h => by cases h) c r h
  exact safeB_true dFalse_good (fun r h => mkDraw_true (fun o r h => valT_true hS h) (fun o r h => (mkOpRZ_true hS h).1) (fun _ o r h => ndZ_true (mkOpRZ_true hS (ν := ν) h).2) (fun o r h => mkQU_true h) (fun o r h => mkQU_nd h) (fun o h => isValT_nd o h) h) h
def mkCodeZ (P : Program) (S : List Rule) (sf : Bool) (gs : FuncId × FuncId) : MkCode := fun R L N c r =>
  dec L N (mkOpSZ P S sf R L N) (fun ops => safeB sf (mkDraw P L N (fun o r => valT o.op P S L N r) (mkOpRZ P S R L N) (mkQU P L N) (fun o => isValT o.op P) ops))
    (fun f ps asg body => bif R then (fun r => r (dFalse L)) else safeB sf (mkRangeF L N gs (mkRndZ P S sf L N) f ps asg body)) c r
theorem mkCodeZ_good (P : Program) (S : List Rule) (sf : Bool) (ν : Nu) (hS : SymOk P ν S) (gs : FuncId × FuncId) (hok : SplitOk P ν gs) : GoodMk P ν (mkCodeZ P S sf gs) := fun R L N c r h => by
  refine dec_sound (mkOp := mkOpSZ P S sf R L N) (fun o r h => (mkOpSZ_true hS h).1) (fun hR o r h => by subst hR; exact ndZ_true (mkOpSZ_true hS (ν := ν) h).2) (fun id ops r h => ?_) (fun f ps asg body r h => ?_) c r h
  · exact safeB_true dFalse_good (fun r h => mkDraw_true (fun o r h => valT_true hS h) (fun o r h => (mkOpRZ_true hS h).1) (fun hR o r h => by subst hR; exact ndZ_true (mkOpRZ_true hS (ν := ν) h).2) (fun o r h => mkQU_true h) (fun o r h => mkQU_nd h) (fun o h => isValT_nd o h) h) h
  · cases R with
    | true => exact ⟨_, dFalse_good, h⟩
    | false => exact safeB_true dFalse_good (fun r h => mkRangeF_true hok (fun c r h => mkRndZ_true hS c r h) h) h
end
end Go.Abs

/-
  A verified evaluator: strings.Builder by what its functions leave.
-/
namespace Go.Abs
noncomputable section
open Go.RowKit (Below)
/-! ### strings.Repeat -/
def repK (l c : Nat) (k : Nat → Nat → Bool) : Nat → Nat → Nat → Bool := fun n => Nat.rec (motive := fun _ => Nat → Nat → Bool) (fun len code => k len code) (fun _ ih len code => forceN (Nat.add l len) fun len => forceN (Nat.add c (Nat.mul (Nat.pow 256 l) code)) fun code => ih len code) n
theorem repK_true (s : List UInt8) {k : Nat → Nat → Bool} : ∀ (n m : Nat), repK s.length (enc s) k n (Lib.repeatL s m).length (enc (Lib.repeatL s m)) = true → k (Lib.repeatL s (n + m)).length (enc (Lib.repeatL s (n + m))) = true
  | 0, m, h => by rw [Nat.zero_add]; exact h
  | n + 1, m, h => by
    have h' : (forceN (Nat.add s.length (Lib.repeatL s m).length) fun len => forceN (Nat.add (enc s) (Nat.mul (Nat.pow 256 s.length) (enc (Lib.repeatL s m)))) fun code => repK s.length (enc s) k n len code) = true := h
    rw [forceN_eq, forceN_eq] at h'
    have e1 : Nat.add s.length (Lib.repeatL s m).length = (Lib.repeatL s (m + 1)).length := by
      show s.length + (Lib.repeatL s m).length = (s ++ Lib.repeatL s m).length
      rw [List.length_append]
    have e2 : Nat.add (enc s) (Nat.mul (Nat.pow 256 s.length) (enc (Lib.repeatL s m))) = enc (Lib.repeatL s (m + 1)) := by
      show enc s + 256 ^ s.length * enc (Lib.repeatL s m) = enc (s ++ Lib.repeatL s m)
      rw [enc_append]
    rw [e1, e2] at h'
    have := repK_true s n (m + 1) h'
    rwa [show n + (m + 1) = n + 1 + m by omega] at this
def repeatD : FnD := fun _ args h kr _ => args2 args fun x y => vStr x fun l c => vInt y fun K n => chk (isIntK K .i64) (Int.rec (motive := fun _ => Bool) (fun n => chk (Nat.ble n 65536) (chk (Nat.ble (Nat.mul l n) 65536) (repK l c (fun len code => kr (.str len code) h) n 0 0))) (fun _ => false) n)
theorem repeat_good {P : Program} {ν : Nu} {f : Nat} (hb : hasBody P f = true)
    (hC : ∀ (s : ByteArray) (c : Nat) (w : World), c ≤ 9223372036854775807 → s.size * c ≤ 140737488355328 → Calls P f #[.string s, .int .i64 c] w fun e w' => e = .returned (.string ⟨(Lib.repeatL s.data.toList c).toArray⟩) ∧ Below w.heap.size w w') :
    FnGood P ν f repeatD := by
  refine FnGood.plain hb fun cf args h φ w vs kr kp hk hr hv => ?_
  obtain ⟨x, y, e0, hk1⟩ := args2_true hk
  obtain ⟨l, c, e1, hk2⟩ := vStr_true hk1
  obtain ⟨K, n, e2, hk3⟩ := vInt_true hk2
  obtain ⟨c0, hk3⟩ := chk_true hk3
  have hK := isIntK_true c0
  cases n with
  | negSucc m => cases hk3
  | ofNat n =>
    obtain ⟨c1, hk4⟩ := chk_true hk3
    obtain ⟨c2, hk5⟩ := chk_true hk4
    have c1 := nlT c1
    have c2 : l * n ≤ 65536 := nlT c2
    subst e0 e1 e2 hK
    cases hv with
    | cons h1 hv =>
      cases hv with
      | cons h2 hv =>
        cases hv with
        | nil =>
          cases h1 with
          | str hs =>
            rename_i s
            cases h2
            have hsz := hs.1
            have hk6 : repK s.data.toList.length (enc s.data.toList) (fun len code => kr (.str len code) h) n (Lib.repeatL s.data.toList 0).length (enc (Lib.repeatL s.data.toList 0)) = true := by
              rw [hs.data, hs.2]; exact hk5
            have hk7 := repK_true s.data.toList n 0 hk6
            rw [Nat.add_zero] at hk7
            exact ⟨_, _, hC s n w (by omega) (by rw [hsz]; omega), .str (IsStr.of_list _), hk7⟩
/-! ### what a builder is -/
def ptrOrNil (v : AV) (a : Bool) (k : Nat → Nat → Nat → Bool) : Bool :=
  AV.rec (motive_1 := fun _ => Bool) (motive_2 := fun _ => Bool) false (fun _ _ => false) false (fun _ => false) false (fun _ _ _ _ _ => false) (fun _ _ => false) false (fun _ _ _ => false) a false
    (fun _ _ => false) k (fun _ _ _ _ _ _ => false) (fun _ _ => false) (fun _ => false) (fun _ _ => false) false (fun _ _ _ _ => false) v
theorem ptrOrNil_true {v : AV} {a : Bool} {k : Nat → Nat → Nat → Bool} (h : ptrOrNil v a k = true) : (v = .nilp ∧ a = true) ∨ ∃ i j n, v = .ptr i j n ∧ k i j n = true := by
  cases v <;> first | exact .inr ⟨_, _, _, rfl, h⟩ | exact .inl ⟨rfl, h⟩ | cases h
def bldC (T : TypeId) (ver : Nat) (k : AV → AV → Bool) (s n fz : Nat) (opn : Bool) (el : TypeId) (rows : RT (List AV) RD) : Bool :=
  chk (Nat.beq n 2 && Nat.beq ver 2 && Nat.beq fz 0 && !opn && Nat.beq el T) (cellK s rows 0 fun v0 => cellK s rows 1 fun v1 => k v0 v1)
def bldK (T : TypeId) (x : AV) (h : H) (k : Nat → Nat → AV → AV → Bool) : Bool :=
  vPtr x fun id ver off => chk (Nat.beq off 0) (getB id ver h (bldC T ver (k id ver)))
theorem bldK_true {φ : Phi} {ν : Nu} {T : TypeId} {x : AV} {h : H} {w : World} {k : Nat → Nat → AV → AV → Bool} {v : Value} (hr : HR φ ν h w) (hv : VR φ ν x v) (hk : bldK T x h k = true) :
    ∃ id ver p fr u0 u1 v0 v1, x = .ptr id ver 0 ∧ φ id ver = some p ∧ v = .pointer (some ⟨p.blk, 0, none⟩) ∧ w.heap[p.blk]? = some (.cells #[u0, u1] T fr) ∧ (∀ j, j < 2 → w.frozen? ⟨p.blk, j, none⟩ = false) ∧
      VR φ ν v0 u0 ∧ VR φ ν v1 u1 ∧ u0.oneCell' = true ∧ u1.oneCell' = true ∧ k id ver v0 v1 = true := by
  obtain ⟨id, ver, off, e1, hk⟩ := vPtr_true hk
  obtain ⟨c1, hk⟩ := chk_true hk
  have c1 := nbT c1
  subst e1 c1
  cases hv with
  | ptr hp =>
    rename_i p
    obtain ⟨s, n, lw, fz, opn, el, rows, hb, hl, hs, hbr, hk⟩ := getB_true hr hp hk
    unfold bldC at hk
    obtain ⟨c2, hk9⟩ := chk_true hk
    clear hk
    simp only [Bool.and_eq_true, Bool.not_eq_true'] at c2
    obtain ⟨⟨⟨⟨c2, c3⟩, c4⟩, c5⟩, c6⟩ := c2
    have c2 := nbT c2
    have c3 := nbT c3
    have c4 := nbT c4
    have c6 := nbT c6
    subst c2 c3 c4 c6
    have hk2 := cellK_true (cellK_true hk9)
    obtain ⟨_, _, hcc⟩ := hbr
    obtain ⟨cc, fr, hb2, hsz, hv, hcell, hfr, hcl⟩ := hcc hl
    obtain ⟨h2, _⟩ := hcl rfl c5
    obtain ⟨u0, g1, g2, g3⟩ := hcell 0 (by omega)
    obtain ⟨u1, g4, g5, g6⟩ := hcell 1 (by omega)
    have hcc : cc = #[u0, u1] := by
      apply Array.ext'
      apply List.ext_getElem?
      intro i
      rcases i with _ | _ | i
      · simpa using g1
      · simpa using g4
      · rw [List.getElem?_eq_none (by simpa using (by omega : cc.size ≤ i + 2))]; simp
    subst hcc
    refine ⟨_, _, p, fr, u0, u1, _, _, rfl, hp, rfl, hb2, fun j hj => ?_, g3, g6, g2, g5, hk2⟩
    have := hfr rfl j (by omega) (by rw [h2]; exact hj)
    simp [World.frozen?, hb2]
    omega
theorem run_storeB {P : Program} {W : World} {b j : Nat} {v u : Value} (h1 : v.oneCell' = true) (hc : W.cell? ⟨b, j, none⟩ = some u) (hf : W.frozen? ⟨b, j, none⟩ = false) : (storeCells ⟨b, j, none⟩ [v]).run P W = .ok () (W.setCell ⟨b, j, none⟩ v) := by
  have hst : (store ((⟨b, j, none⟩ : Addr).add 0) v).run P W = .ok () (W.setCell ⟨b, j, none⟩ v) := by
    rw [addr_add, run_store P W _ v _ h1, Nat.add_zero, hc]
    simp [hf]
  show (do store ((⟨b, j, none⟩ : Addr).add 0) v; pure () : Sem Unit).run P W = _
  simp only [Sem.run_bind, hst, Result.andThen_ok, Sem.run_pure]
theorem HR.setObjV {φ : Phi} {ν : Nu} {h : H} {w : World} (hr : HR φ ν h w) {id ver : Nat} {p : PB} (hp : φ id ver = some p) {o : Obj} {b : AB} (hro : h.ro.lim ≤ id) (hb : BR φ ν { w with heap := w.heap.setIfInBounds p.blk o } id b) :
    HR φ ν { h with bl := T4.set HD id b h.bl } { w with heap := w.heap.setIfInBounds p.blk o } ∧ Ext h.ro φ w φ { w with heap := w.heap.setIfInBounds p.blk o } := by
  have hid := (hr.dom _ _ _ hp).1
  have hlim := hr.lim
  refine ⟨⟨fun i v q hq => ⟨(hr.dom i v q hq).1, by simpa using (hr.dom i v q hq).2⟩, hr.inj, fun i x hi hx => ?_, hr.lim, hr.ro, hr.gp, fun b' o' hbo => ?_, hr.ub⟩,
    ⟨φ.le_refl, by simp, rfl, rfl, rfl, fun i v q hq => .inl ⟨v, q, hq, rfl⟩, fun b' _ hn => Array.getElem?_setIfInBounds_ne (hn id ver p hp hro), fun _ _ _ h _ _ => h⟩⟩
  · simp only at hx hi
    rw [T4.get_set HD _ _ (by omega) (by omega)] at hx
    by_cases e : id = i
    · rw [if_pos e] at hx; cases hx; subst e; exact hb
    · rw [if_neg e] at hx
      refine BR.keep φ.le_refl (fun _ _ h => h) (fun v q hq => ?_) (hr.bl i x hi hx)
      have hne : p.blk ≠ q.blk := fun e' => e (hr.inj _ _ _ _ _ _ hp hq e')
      show (w.heap.setIfInBounds p.blk o)[q.blk]? = w.heap[q.blk]?
      exact Array.getElem?_setIfInBounds_ne hne
  · obtain ⟨g1, g2⟩ := hr.gl b' o' hbo
    refine ⟨?_, g2⟩
    have hne : p.blk ≠ b' := fun e => by have := g2 _ _ _ hp e; omega
    show (w.heap.setIfInBounds p.blk o)[b']? = some o'
    rw [Array.getElem?_setIfInBounds_ne hne]; exact g1
/-! ### copyCheck -/
def copyCheckD (T : TypeId) : FnD := fun _ args h kr _ => args1 args fun x => bldK T x h fun id ver v0 _ =>
  ptrOrNil v0 (storeK id ver 0 [.ptr id ver 0] 1 h fun h => kr (.tup []) h) fun id' ver' off' => chk (Nat.beq id' id && Nat.beq ver' ver && Nat.beq off' 0) (kr (.tup []) h)
theorem shape_of {w : World} {b : Nat} {c : Array Value} {T : TypeId} {fr : Nat × Nat} (h : w.heap[b]? = some (.cells c T fr)) : w.shape? b = some (T, c.size) := by simp [World.shape?, h]
theorem copyCheck_good {P : Program} {ν : Nu} {f : Nat} {T : TypeId} (hb : hasBody P f = true)
    (hU : ∀ (b : Nat) (w : World), w.cell? ⟨b, 0, none⟩ = some (.pointer (some ⟨b, 0, none⟩)) → Calls P f #[.pointer (some ⟨b, 0, none⟩)] w fun e w' => e = .returned (.tuple #[]) ∧ w' = w)
    (hF : ∀ (b : Nat) (w : World), w.cell? ⟨b, 0, none⟩ = some (.pointer none) → w.shape? b = some (T, 2) → w.frozen? ⟨b, 0, none⟩ = false → Calls P f #[.pointer (some ⟨b, 0, none⟩)] w fun e w' => e = .returned (.tuple #[]) ∧ w' = w.setCell ⟨b, 0, none⟩ (.pointer (some ⟨b, 0, none⟩))) :
    FnGood P ν f (copyCheckD T) := by
  refine FnGood.fresh hb fun cf args h φ w vs kr kp hk hr hv => ?_
  obtain ⟨x, e0, hk1⟩ := args1_true hk
  subst e0
  cases hv with
  | cons h1 hv =>
    cases hv with
    | nil =>
      obtain ⟨id, ver, p, fr, u0, u1, v0, v1, e1, hp, e2, hb2, hfz, hv0, _, ho0, _, hk2⟩ := bldK_true hr h1 hk1
      subst e2
      have hc0 : w.cell? ⟨p.blk, 0, none⟩ = some u0 := by rw [cell?_of hb2]; rfl
      rcases ptrOrNil_true hk2 with ⟨e3, hk3⟩ | ⟨i, j, n, e3, hk3⟩
      · subst e3
        cases hv0
        obtain ⟨h2, w2, g1, g2, g3, g4, g5, _, g6⟩ := storeK_true (P := P) (sz := 1) (vs := [.pointer (some ⟨p.blk, 0, none⟩)]) hr hp (.cons (.ptr hp) .nil) (fun v hm => by rw [List.mem_singleton.1 hm]; rfl) rfl (by omega) hk3
        have hs := run_storeB (P := P) (W := w) (b := p.blk) (j := 0) (v := .pointer (some ⟨p.blk, 0, none⟩)) rfl hc0 (hfz 0 (by omega))
        rw [g1] at hs
        cases hs
        exact ⟨_, _, φ, h2, _, hF p.blk w hc0 (shape_of hb2) (hfz 0 (by omega)), g2, g3, g4, g5, .tup .nil, g6⟩
      · subst e3
        obtain ⟨c1, hk4⟩ := chk_true hk3
        simp only [Bool.and_eq_true] at c1
        obtain ⟨⟨c1, c2⟩, c3⟩ := c1
        have c1 := nbT c1
        have c2 := nbT c2
        have c3 := nbT c3
        subst c1 c2 c3
        cases hv0 with
        | ptr hp2 =>
          rw [hp] at hp2
          cases hp2
          exact ⟨_, _, φ, h, w, hU p.blk w hc0, hr, Ext.refl _ _ _, rfl, rfl, .tup .nil, hk4⟩
/-! ### String -/
def strK (T5 : TypeId) (id ver len : Nat) (h : H) (k : Nat → H → Bool) : Bool :=
  T4.getK HD id h.bl fun b => AB.rec (motive := fun _ => Bool) (fun s n lw fz opn el rows =>
      chk (Nat.ble lw ver && Nat.beq s 1 && Nat.beq el T5 && Nat.ble len ver && Nat.ble h.ro.lim id && Nat.ble len 65536) (bytesOfK rows len 0 fun c => T4.setK HD id (.cells s (Nat.succ n) lw fz opn el rows) h.bl fun bl => k c ⟨h.ds, h.ro, h.next, bl⟩))
    (fun _ _ => false) (fun _ _ _ => false) (fun _ => false) b
def isZ (n : Nat) (a b : Bool) : Bool := Nat.rec (motive := fun _ => Bool) a (fun _ _ => b) n
def stringD (T T5 : TypeId) : FnD := fun _ args h kr _ => args1 args fun x => bldK T x h fun _ _ _ v1 => vSl v1 (kr (.str 0 0) h) fun id ver off len mc _ =>
  chk (Nat.beq off 0) (isZ len (chk (Nat.blt 0 mc) (kr (.str 0 0) h)) (strK T5 id ver len h fun c h => kr (.str len c) h))
theorem freeze_eq {w : World} {g n : Nat} {c : Array Value} {el : TypeId} {fr : Nat × Nat} (hw : w.heap[g]? = some (.cells c el fr)) (hn : n ≠ 0) : ∃ fr', w.freeze ⟨g, 0, none⟩ n = { w with heap := w.heap.setIfInBounds g (.cells c el fr') } := by
  obtain ⟨lo, hi⟩ := fr
  refine ⟨if lo == hi then (0, 0 + n) else (min lo 0, max hi (0 + n)), ?_⟩
  · unfold World.freeze
    rw [if_neg hn]
    congr 1
    apply Array.ext_getElem?
    intro i
    rw [Array.getElem?_modify, Array.getElem?_setIfInBounds]
    by_cases e : g = i
    · subst e
      have hlt : g < w.heap.size := (Array.getElem?_eq_some_iff.1 hw).1
      rw [if_pos rfl, if_pos rfl, if_pos hlt, hw]
      rfl
    · rw [if_neg e, if_neg e]
theorem string_good {P : Program} {ν : Nu} {f : Nat} {T T5 : TypeId} (hb : hasBody P f = true)
    (hN : ∀ (B b : Nat) (p : Value) (fr : Nat × Nat) (w : World), w.heap[b]? = some (.cells #[p, .slice none 0 0] T fr) → Calls P f #[.pointer (some ⟨b, 0, none⟩)] w fun e w' => e = .returned (.string ⟨#[]⟩) ∧ Below B w w')
    (hR : ∀ (B b g cap : Nat) (p : Value) (fr : Nat × Nat) (w : World), cap ≠ 0 → w.heap[b]? = some (.cells #[p, .slice (some ⟨g, 0, none⟩) 0 cap] T fr) → Calls P f #[.pointer (some ⟨b, 0, none⟩)] w fun e w' => e = .returned (.string ⟨#[]⟩) ∧ Below B w w')
    (hS : ∀ (b g cap : Nat) (p : Value) (cur : Array Value) (fr fr2 : Nat × Nat) (l : List UInt8) (w : World), l ≠ [] → w.heap[b]? = some (.cells #[p, .slice (some ⟨g, 0, none⟩) l.length cap] T fr) → w.heap[g]? = some (.cells cur T5 fr2) → l.length ≤ cur.size → cap ≠ 0 → l.length ≤ 9223372036854775807 →
      (∀ (j : Nat) (x : UInt8), l[j]? = some x → cur[j]? = some (Value.int .u8 x.toNat)) → Calls P f #[.pointer (some ⟨b, 0, none⟩)] w fun e w' => e = .returned (.string ⟨l.toArray⟩) ∧ w' = w.drew.freeze ⟨g, 0, none⟩ l.length) :
    FnGood P ν f (stringD T T5) := by
  intro cf _ args h kr kp hk φ w vs hr hv
  obtain ⟨x, e0, hk1⟩ := args1_true hk
  subst e0
  cases hv with
  | cons h1 hv =>
    cases hv with
    | nil =>
      obtain ⟨id, ver, p, fr, u0, u1, v0, v1, e1, hp, e2, hb2, hfz, hv0, hv1, ho0, ho1, hk2⟩ := bldK_true hr h1 hk1
      subst e2
      have hempty : (∃ B, Calls P f #[.pointer (some ⟨p.blk, 0, none⟩)] w fun e w' => e = .returned (.string ⟨#[]⟩) ∧ Below B w w') → True := fun _ => trivial
      rcases vSl_true hk2 with ⟨e3, hk3⟩ | ⟨i, j, off, len, mc, ex, e3, hk3⟩
      · subst e3
        cases hv1
        refine .inl ⟨hasBody_true hb _ _, (hN w.heap.size p.blk u0 fr w hb2).mono fun e w' hp => ?_⟩
        obtain ⟨rfl, hbel⟩ := hp
        obtain ⟨g1, g2⟩ := hr.below hbel
        exact ⟨φ, _, h, .str ⟨rfl, rfl⟩, g1, g2 _, rfl, rfl, hk3⟩
      · subst e3
        obtain ⟨c1, hk4⟩ := chk_true hk3
        have c1 := nbT c1
        subst c1
        cases hv1 with
        | sl hq hm hl hx ho hf =>
          rename_i cap q off'
          cases len with
          | zero =>
            obtain ⟨c2, hk5⟩ := chk_true (show chk (Nat.blt 0 mc) (kr (.str 0 0) h) = true from hk4)
            rw [Nat.blt_eq] at c2
            have hoo := hf (by omega)
            subst hoo
            refine .inl ⟨hasBody_true hb _ _, (hR w.heap.size p.blk q.blk cap u0 fr w (by omega) hb2).mono fun e w' hp => ?_⟩
            obtain ⟨rfl, hbel⟩ := hp
            obtain ⟨g1, g2⟩ := hr.below hbel
            exact ⟨φ, _, h, .str ⟨rfl, rfl⟩, g1, g2 _, rfl, rfl, hk5⟩
          | succ m =>
            have hoo := hf (by omega)
            subst hoo
            have hk5 : strK T5 i j (m + 1) h (fun c h => kr (.str (m + 1) c) h) = true := hk4
            obtain ⟨b, hbl, hk6⟩ := T4.getK_true _ _ _ _ hk5
            cases b with
            | mapo es c => cases hk6
            | siter a b c => cases hk6
            | dfr o => cases hk6
            | cells s n lw fz opn el rows =>
              obtain ⟨c2, hk7⟩ := chk_true hk6
              simp only [Bool.and_eq_true] at c2
              obtain ⟨⟨⟨⟨⟨c2, c3⟩, c4⟩, c5⟩, c6⟩, c7⟩ := c2
              have c2 := nlT c2
              have c3 := nbT c3
              have c4 := nbT c4
              have c5 := nlT c5
              have c6 := nlT c6
              have c7 := nlT c7
              obtain ⟨l, g1, g2, g3⟩ := bytesOfK_true hk7
              rw [T4.setK_eq] at g3
              have hbr := hr.bl i _ (hr.dom _ _ _ hq).1 hbl
              obtain ⟨_, hlw, hs, hbv⟩ := hbr
              obtain ⟨a1, a2, a3⟩ := hbv j q hq
              obtain ⟨cc, fr2, f1, f2, f3, f4, f5, f6⟩ := a3 c2
              rw [c4] at f1
              have hcells : ∀ (t : Nat) (x : UInt8), l[t]? = some x → cc[t]? = some (Value.int .u8 x.toNat) := by
                intro t x ht
                have htl : t < m + 1 := by have := (List.getElem?_eq_some_iff.1 ht).1; omega
                obtain ⟨v, d1, _, d3⟩ := f4 t (by omega)
                have d4 := g2 t x ht
                rw [Nat.zero_add] at d4
                rw [c3, d4] at d3
                cases d3
                exact d1
              have hcall := hS p.blk q.blk cap u0 cc fr fr2 l w (by intro e; rw [e] at g1; simp at g1) (by rw [g1]; exact hb2) f1 (by omega) (by omega) (by omega) hcells
              obtain ⟨r1, r2⟩ := hr.below (w' := w.drew) (Go.RowKit.Below.drew (Go.RowKit.Below.refl _ _))
              have f1' : w.drew.heap[q.blk]? = some (.cells cc T5 fr2) := f1
              obtain ⟨fr', hfe⟩ := freeze_eq f1' (n := l.length) (by omega)
              have hBR : BR φ ν { w.drew with heap := w.drew.heap.setIfInBounds q.blk (.cells cc T5 fr') } i (.cells s (Nat.succ n) lw fz opn el rows) := by
                refine ⟨trivial, by omega, hs, fun ver' q' hq' => ?_⟩
                obtain ⟨b1, b2, b3⟩ := hbv ver' q' hq'
                refine ⟨by omega, b2, fun hl' => ?_⟩
                obtain ⟨cq, frq, d1, d2, d3, d4, d5, d6⟩ := b3 hl'
                by_cases e : q.blk = q'.blk
                · rw [← e, f1] at d1
                  cases d1
                  refine ⟨cc, fr', ?_, d2, d3, d4, fun e => by omega, fun e => by omega⟩
                  show (w.heap.setIfInBounds q.blk (.cells cc _ fr'))[q'.blk]? = _
                  rw [← e, Array.getElem?_setIfInBounds_self_of_lt (Array.getElem?_eq_some_iff.1 f1).1]
                · refine ⟨cq, frq, ?_, d2, d3, d4, fun e => by omega, fun e => by omega⟩
                  show (w.heap.setIfInBounds q.blk (.cells cc T5 fr'))[q'.blk]? = _
                  rw [Array.getElem?_setIfInBounds_ne e]; exact d1
              obtain ⟨k1, k2⟩ := r1.setObjV hq c6 hBR
              refine .inl ⟨hasBody_true hb _ _, hcall.mono fun e w' hp => ?_⟩
              obtain ⟨rfl, rfl⟩ := hp
              rw [hfe]
              exact ⟨φ, _, _, .str (by rw [← g1]; exact IsStr.of_list l), k1, (r2 _).trans k2, rfl, rfl, g3⟩
/-! ### grow, of a builder without a buffer -/
def isNils (v : AV) (a : Bool) : Bool := vSl v a fun _ _ _ _ _ _ => false
def growD (T T5 : TypeId) : FnD := fun _ args h kr _ => args2 args fun x y => bldK T x h fun id ver _ v1 => isNils v1 (vInt y fun K n => chk (isIntK K .i64) (Int.rec (motive := fun _ => Bool) (fun n => chk (Nat.ble n 65536)
  (newB (.cells 1 0 0 0 true T5 (RT.e RD)) h fun id2 h => storeK id ver 1 [.sl id2 0 0 0 n false] 1 h fun h => kr (.tup []) h)) (fun _ => false) n))
theorem alloc_setCell {w : World} {o : Obj} {b j : Nat} {v : Value} (hb : b < w.heap.size) : (w.alloc o).setCell ⟨b, j, none⟩ v = (w.setCell ⟨b, j, none⟩ v).alloc o := by
  unfold World.setCell World.alloc
  congr 1
  apply Array.ext_getElem?
  intro i
  simp only [Array.getElem?_modify, Array.getElem?_push, Array.size_modify]
  by_cases e : b = i
  · subst e
    rw [if_pos rfl, if_neg (by omega), if_neg (by omega), if_pos rfl]
  · rw [if_neg e, if_neg e]
theorem grow_good {P : Program} {ν : Nu} {f : Nat} {T T5 : TypeId} (hb : hasBody P f = true)
    (hG : ∀ (b n : Nat) (q : Value) (fr : Nat × Nat) (w : World), w.heap[b]? = some (.cells #[q, .slice none 0 0] T fr) → w.frozen? ⟨b, 1, none⟩ = false → n ≤ 281474976710656 →
      ∃ cs : Array Value, n ≤ cs.size ∧ Calls P f #[.pointer (some ⟨b, 0, none⟩), .int .i64 n] w fun e w' => e = .returned (.tuple #[]) ∧ w' = ((w.setCell ⟨b, 1, none⟩ (.slice (some ⟨w.heap.size, 0, none⟩) 0 cs.size)).alloc (.cells cs T5)).drew.drew.drew) :
    FnGood P ν f (growD T T5) := by
  refine FnGood.fresh hb fun cf args h φ w vs kr kp hk hr hv => ?_
  obtain ⟨x, y, e0, hk1⟩ := args2_true hk
  subst e0
  cases hv with
  | cons h1 hv =>
    cases hv with
    | cons h2 hv =>
      cases hv with
      | nil =>
        obtain ⟨id, ver, p, fr, u0, u1, v0, v1, e1, hp, e2, hb2, hfz, hv0, hv1, ho0, ho1, hk2⟩ := bldK_true hr h1 hk1
        subst e2
        rcases vSl_true hk2 with ⟨e3, hk3⟩ | ⟨i, j, off, len, mc, ex, e3, hk3⟩
        · subst e3
          cases hv1
          obtain ⟨K, n, e4, hk4⟩ := vInt_true hk3
          obtain ⟨c1, hk5⟩ := chk_true hk4
          have hK := isIntK_true c1
          subst e4 hK
          cases n with
          | negSucc m => cases hk5
          | ofNat n =>
            obtain ⟨c2, hk6⟩ := chk_true hk5
            have c2 := nlT c2
            cases h2
            obtain ⟨cs, hle, hcall⟩ := hG p.blk n u0 fr w hb2 (hfz 1 (by omega)) (by omega)
            obtain ⟨hn, hk7⟩ := newB_true hk6
            obtain ⟨r1, r2, r3⟩ := hr.newCells (c := cs) (rows := RT.e RD) (s := 1) (n := 0) hn (by_ := 0) (el := T5) (opn := true) (Nat.le_refl _) (fun j hj => by omega) (by omega) (fun h => by cases h)
            have hlt := (hr.dom _ _ _ hp).2
            have hp' := r3 _ _ _ hp
            have hb2' : (w.alloc (.cells cs T5)).heap[p.blk]? = some (.cells #[u0, .slice none 0 0] T fr) := by
              show (w.heap.push _)[p.blk]? = _
              rw [Array.getElem?_push_lt hlt, ← hb2, Array.getElem?_eq_getElem hlt]
            have hnew := Phi.new_self φ h.next 0 ⟨w.heap.size, cs.size, 1, 0⟩
            have hfz' : (w.alloc (.cells cs T5)).frozen? ⟨p.blk, 1, none⟩ = false := by
              have := hfz 1 (by omega)
              simp only [World.frozen?, hb2, hb2'] at this ⊢
              exact this
            have hvs : VRs (φ.new h.next 0 ⟨w.heap.size, cs.size, 1, 0⟩) ν [.sl h.next 0 0 0 n false] [.slice (some ⟨w.heap.size, 0, none⟩) 0 cs.size] :=
              .cons (.sl hnew hle (Nat.zero_le _) (fun h => by cases h) (fun _ => ⟨by simp, by simp⟩)) .nil
            obtain ⟨h2, w2, g1, g2, g3, g4, g5, _, g6⟩ := storeK_true (P := P) (sz := 1) r1 hp' hvs (fun v hm => by rw [List.mem_singleton.1 hm]; rfl) rfl (by omega) hk7
            have hs := run_storeB (P := P) (W := w.alloc (.cells cs T5)) (b := p.blk) (j := 1) (v := .slice (some ⟨w.heap.size, 0, none⟩) 0 cs.size) rfl (by rw [cell?_of hb2']; rfl) hfz'
            rw [g1] at hs
            have hs := Result.ok.inj hs
            have e5 : w2 = (w.setCell ⟨p.blk, 1, none⟩ (.slice (some ⟨w.heap.size, 0, none⟩) 0 cs.size)).alloc (.cells cs T5) := by rw [← alloc_setCell hlt]; exact hs.2
            rw [← e5] at hcall
            obtain ⟨q1, q2⟩ := g2.below (w' := w2.drew.drew.drew) (Go.RowKit.Below.drew (Go.RowKit.Below.drew (Go.RowKit.Below.drew (Go.RowKit.Below.refl _ _))))
            refine ⟨_, _, _, h2, _, hcall, q1, ?_, g4, g5, .tup .nil, g6⟩
            have := ((r2 h.ro).trans g3).trans (q2 _)
            exact this
        · cases hk3
end
end Go.Abs

/-
  A verified evaluator: how often a byte lies in a string, by contract.
-/
namespace Go.Abs
noncomputable section
def cntK (b : Nat) (l : Nat) : Nat → Nat → (Nat → Bool) → Bool :=
  Nat.rec (motive := fun _ => Nat → Nat → (Nat → Bool) → Bool) (fun _ n k => k n)
    (fun _ ih c n k => Bool.rec (motive := fun _ => Bool) (forceN (Nat.div c 256) fun c => ih c n k) (forceN (Nat.div c 256) fun c => forceN (Nat.succ n) fun n => ih c n k) (Nat.beq (Nat.mod c 256) b)) l
theorem cntK_true {b : UInt8} {k : Nat → Bool} : ∀ (l : List UInt8) (n : Nat), cntK b.toNat l.length (enc l) n k = true → k (n + l.count b) = true
  | [], n, h => h
  | x :: l, n, h => by
    have h' : Bool.rec (motive := fun _ => Bool) (forceN (Nat.div (enc (x :: l)) 256) fun c => cntK b.toNat l.length c n k) (forceN (Nat.div (enc (x :: l)) 256) fun c => forceN (Nat.succ n) fun n => cntK b.toNat l.length c n k) (Nat.beq (Nat.mod (enc (x :: l)) 256) b.toNat) = true := h
    have hx : x.toNat < 256 := x.toNat_lt
    have h1 : Nat.mod (enc (x :: l)) 256 = x.toNat := by show (x.toNat + 256 * enc l) % 256 = _; omega
    have h2 : Nat.div (enc (x :: l)) 256 = enc l := by show (x.toNat + 256 * enc l) / 256 = _; omega
    rw [h1, h2] at h'
    rw [List.count_cons]
    cases hb : Nat.beq x.toNat b.toNat with
    | true =>
      rw [hb] at h'
      simp only [forceN_eq] at h'
      have e : x = b := UInt8.toNat_inj.1 (nbT hb)
      have := cntK_true l (n + 1) h'
      rw [e]
      simpa [Nat.add_assoc, Nat.add_comm 1] using this
    | false =>
      rw [hb] at h'
      simp only [forceN_eq] at h'
      have e : ¬ x = b := by
        rintro rfl
        rw [Nat.beq_refl] at hb
        cases hb
      have := cntK_true l n h'
      simpa [e] using this
def isOne (n : Nat) (x : Bool) : Bool := chk (Nat.beq n 1) x
def countD : FnD := fun _ args h kr _ => args2 args fun x y => vStr x fun l c => vStr y fun m d => chk (Nat.beq m 1) (cntK d l c 0 fun n => kr (.int .i64 (.ofNat n)) h)
theorem count_good {P : Program} {ν : Nu} {f : Nat} (hb : hasBody P f = true)
    (hC : ∀ (s : ByteArray) (c : UInt8) (w : World), Calls P f #[.string s, .string ⟨#[c]⟩] w fun e w' => e = .returned (.int .i64 (s.data.toList.count c)) ∧ w' = w) : FnGood P ν f countD := by
  refine FnGood.plain hb fun cf args h φ w vs kr kp hk hr hv => ?_
  obtain ⟨x, y, e0, hk1⟩ := args2_true hk
  obtain ⟨l, c, e1, hk2⟩ := vStr_true hk1
  obtain ⟨m, d, e2, hk3⟩ := vStr_true hk2
  obtain ⟨c1, hk4⟩ := chk_true hk3
  have c1 := nbT c1
  subst e0 e1 e2 c1
  cases hv with
  | cons h1 hv =>
    cases hv with
    | cons h2 hv =>
      cases hv with
      | nil =>
        cases h1 with
        | str hs =>
          cases h2 with
          | str ht =>
            rename_i s t
            obtain ⟨b, hb2⟩ : ∃ b, t.data.toList = [b] := by
              have := ht.data
              match hq : t.data.toList, this with
              | [b], _ => exact ⟨b, rfl⟩
            have ht2 : t = ⟨#[b]⟩ := by
              have : t.data = #[b] := Array.toList_inj.1 hb2
              cases t; simp_all
            have hd : d = b.toNat := by
              have := ht.2
              rw [hb2] at this
              rw [← this]
              show b.toNat + 256 * 0 = _
              omega
            have hk5 : cntK b.toNat s.data.toList.length (enc s.data.toList) 0 (fun n => kr (.int .i64 (.ofNat n)) h) = true := by
              rw [hs.data, hs.2, ← hd]; exact hk4
            have hk6 := cntK_true s.data.toList 0 hk5
            rw [Nat.zero_add] at hk6
            subst ht2
            exact ⟨_, _, (hC s b w).mono fun e w' hp => ⟨hp.1, by rw [hp.2]; exact Go.RowKit.Below.refl _ _⟩, .int _ _, hk6⟩
end
end Go.Abs

/-
  A verified evaluator: the table of all functions, some given by contract.
-/
namespace Go.Abs
set_option linter.unusedVariables false
noncomputable section
theorem TblOk.empty {P : Program} {ν : Nu} : TblOk P ν (T4.e TD) := fun f d _ h => by
  rw [T4.get_e] at h
  cases h
theorem TblOk.set {P : Program} {ν : Nu} {t : T4 FnD TD} (ht : TblOk P ν t) {f : Nat} {d : FnD} (hf : f < 4096) (hd : FnGood P ν f d) : TblOk P ν (T4.set TD f d t) := by
  intro g e hg he
  rw [T4.get_set TD f g (show f < 4096 from hf) hg] at he
  by_cases q : f = g
  · rw [if_pos q] at he; cases he; subst q; exact hd
  · rw [if_neg q] at he; exact ht g e hg he
def mkFunW (P : Program) (mk : MkCode) (f : FuncId) (fn : Func) (r : FnD → Bool) : Bool :=
  match fn.body with
    | none => false
    | some c => bif Nat.ble fn.ntmps (4 ^ levels fn.ntmps) && Nat.ble (fn.params.size + fn.nfree) fn.ntmps && !(fn.name == "runtime.NumGoroutine") then
        (fun L => mk false L fn.ntmps c fun d => mkRess P L fn.ntmps fn.results.toList fun res => mkArgs L (fn.params.size + fn.nfree) 0 fun ent => (fun unk =>
          r fun cf args h kr kp => ent args unk fun ts => d cf ts ⟨[], h.ro, h.next, h.bl⟩
            (fun ts h' => isNil h'.ds (res ts h' fun l => packK (isOneL fn.results.toList.length) l fun av => kr av ⟨h.ds, h'.ro, h'.next, h'.bl⟩))
            ⟨fun _ _ _ => false, fun ts h' => isNil h'.ds (res ts h' fun l => packK (isOneL fn.results.toList.length) l fun av => kr av ⟨h.ds, h'.ro, h'.next, h'.bl⟩), fun _ av h' => isNil h'.ds (kp av ⟨h.ds, h'.ro, h'.next, h'.bl⟩)⟩) (FT.unk L)) (levels fn.ntmps) else false
def mkFunDW (P : Program) (mk : MkCode) (mkV : (L N : Nat) → MkV L) (f g : FuncId) (fn : Func) (r : FnD → Bool) : Bool :=
  match fn.body with
    | none => false
    | some c => bif Nat.ble fn.ntmps (4 ^ levels fn.ntmps) && Nat.ble (fn.params.size + fn.nfree) fn.ntmps && !(fn.name == "runtime.NumGoroutine") then
        (fun L => mkDef P mk mkV g fun dd => mk false L fn.ntmps c fun d => mkRess P L fn.ntmps fn.results.toList fun res => mkArgs L (fn.params.size + fn.nfree) 0 fun ent => (fun unk =>
          r fun cf args h kr kp => ent args unk fun ts => d cf ts ⟨[], h.ro, h.next, h.bl⟩
            (fun ts h' => noneOne h'.ds (res ts h' fun l => packK (isOneL fn.results.toList.length) l fun av => kr av ⟨h.ds, h'.ro, h'.next, h'.bl⟩)
              fun a => defK g dd cf a ⟨[], h'.ro, h'.next, h'.bl⟩ .nili fun h' => res ts h' fun l => packK (isOneL fn.results.toList.length) l fun av => kr av ⟨h.ds, h'.ro, h'.next, h'.bl⟩)
            ⟨fun _ _ _ => false, fun ts h' => noneOne h'.ds (res ts h' fun l => packK (isOneL fn.results.toList.length) l fun av => kr av ⟨h.ds, h'.ro, h'.next, h'.bl⟩)
              fun a => defK g dd cf a ⟨[], h'.ro, h'.next, h'.bl⟩ .nili fun h' => res ts h' fun l => packK (isOneL fn.results.toList.length) l fun av => kr av ⟨h.ds, h'.ro, h'.next, h'.bl⟩,
             fun ts av h' => noneOne h'.ds (kp av ⟨h.ds, h'.ro, h'.next, h'.bl⟩)
              fun a => defK g dd cf a ⟨[], h'.ro, h'.next, h'.bl⟩ av fun h' => res ts h' fun l => packK (isOneL fn.results.toList.length) l fun av => kr av ⟨h.ds, h'.ro, h'.next, h'.bl⟩⟩) (FT.unk L)) (levels fn.ntmps) else false
def mkFunMW (P : Program) (mk : MkCode) (f : FuncId) (fn : Func) (r : FnD → Bool) : Bool :=
  match fn.body with
    | none => false
    | some c => bif Nat.ble fn.ntmps (4 ^ levels fn.ntmps) && Nat.ble (fn.params.size + fn.nfree) fn.ntmps && !(fn.name == "runtime.NumGoroutine") then
        (fun L => mk false L fn.ntmps c fun d => mkRess P L fn.ntmps fn.results.toList fun res => mkArgs L (fn.params.size + fn.nfree) 0 fun ent => (fun unk =>
          r fun cf args h kr kp => ent args unk fun ts => d cf ts ⟨[], h.ro, h.next, h.bl⟩
            (fun ts h' => marksK h'.ds (fun h' => res ts ⟨[], h'.ro, h'.next, h'.bl⟩ fun l => packK (isOneL fn.results.toList.length) l fun av => kr av ⟨h.ds, h'.ro, h'.next, h'.bl⟩) h')
            ⟨fun _ _ _ => false, fun ts h' => marksK h'.ds (fun h' => res ts ⟨[], h'.ro, h'.next, h'.bl⟩ fun l => packK (isOneL fn.results.toList.length) l fun av => kr av ⟨h.ds, h'.ro, h'.next, h'.bl⟩) h',
              fun _ av h' => marksK h'.ds (fun h' => kp av ⟨h.ds, h'.ro, h'.next, h'.bl⟩) h'⟩) (FT.unk L)) (levels fn.ntmps) else false
def FnsOk (P : Program) : List (FuncId × Func × Bool) → Prop
  | [] => True
  | (f, fn, _) :: l => P.funcs[f]? = some fn ∧ FnsOk P l
end
end Go.Abs

/-
  A verified evaluator: the table of functions, found quicker.
-/
namespace Go.Abs
set_option linter.unusedVariables false
noncomputable section
def NoNG (P : Program) : Prop := ∀ (f : FuncId) (fn : Func), P.funcs[f]? = some fn → (fn.name == "runtime.NumGoroutine") = false
def mkPre (fn : Func) (k : (N L A : Nat) → Bool → Bool) : Bool :=
  forceN fn.ntmps fun N => forceN (levels N) fun L => forceN (Nat.add fn.params.size fn.nfree) fun A => Bool.rec (motive := fun _ => Bool) (k N L A false) (k N L A true) (isOneL fn.results.toList.length)
theorem mkPre_eq (fn : Func) (k : (N L A : Nat) → Bool → Bool) : mkPre fn k = k fn.ntmps (levels fn.ntmps) (fn.params.size + fn.nfree) (isOneL fn.results.toList.length) := by
  unfold mkPre
  rw [forceN_eq, forceN_eq, forceN_eq]
  cases isOneL fn.results.toList.length <;> rfl
def mkFunZ (P : Program) (mk : MkCode) (fn : Func) (r : FnD → Bool) : Bool :=
  Option.rec (motive := fun _ => Bool) false (fun c => mkPre fn fun N L A one => bif Nat.ble N (Nat.pow 4 L) && Nat.ble A N then
    mk false L N c fun d => mkRess P L N fn.results.toList fun res => mkArgs L A 0 fun ent => unkK L fun unk =>
          r fun cf args h kr kp => ent args unk fun ts => d cf ts ⟨[], h.ro, h.next, h.bl⟩
            (fun ts h' => isNil h'.ds (res ts h' fun l => packK one l fun av => kr av ⟨h.ds, h'.ro, h'.next, h'.bl⟩))
            ⟨fun _ _ _ => false, fun ts h' => isNil h'.ds (res ts h' fun l => packK one l fun av => kr av ⟨h.ds, h'.ro, h'.next, h'.bl⟩), fun _ av h' => isNil h'.ds (kp av ⟨h.ds, h'.ro, h'.next, h'.bl⟩)⟩ else false) fn.body
def mkFunDZ (P : Program) (mk : MkCode) (mkV : (L N : Nat) → MkV L) (g : FuncId) (fn : Func) (r : FnD → Bool) : Bool :=
  Option.rec (motive := fun _ => Bool) false (fun c => mkPre fn fun N L A one => bif Nat.ble N (Nat.pow 4 L) && Nat.ble A N then
    mkDef P mk mkV g fun dd => mk false L N c fun d => mkRess P L N fn.results.toList fun res => mkArgs L A 0 fun ent => unkK L fun unk =>
          r fun cf args h kr kp => ent args unk fun ts => d cf ts ⟨[], h.ro, h.next, h.bl⟩
            (fun ts h' => noneOne h'.ds (res ts h' fun l => packK one l fun av => kr av ⟨h.ds, h'.ro, h'.next, h'.bl⟩)
              fun a => defK g dd cf a ⟨[], h'.ro, h'.next, h'.bl⟩ .nili fun h' => res ts h' fun l => packK one l fun av => kr av ⟨h.ds, h'.ro, h'.next, h'.bl⟩)
            ⟨fun _ _ _ => false, fun ts h' => noneOne h'.ds (res ts h' fun l => packK one l fun av => kr av ⟨h.ds, h'.ro, h'.next, h'.bl⟩)
              fun a => defK g dd cf a ⟨[], h'.ro, h'.next, h'.bl⟩ .nili fun h' => res ts h' fun l => packK one l fun av => kr av ⟨h.ds, h'.ro, h'.next, h'.bl⟩,
             fun ts av h' => noneOne h'.ds (kp av ⟨h.ds, h'.ro, h'.next, h'.bl⟩)
              fun a => defK g dd cf a ⟨[], h'.ro, h'.next, h'.bl⟩ av fun h' => res ts h' fun l => packK one l fun av => kr av ⟨h.ds, h'.ro, h'.next, h'.bl⟩⟩ else false) fn.body
def mkFunMZ (P : Program) (mk : MkCode) (fn : Func) (r : FnD → Bool) : Bool :=
  Option.rec (motive := fun _ => Bool) false (fun c => mkPre fn fun N L A one => bif Nat.ble N (Nat.pow 4 L) && Nat.ble A N then
    mk false L N c fun d => mkRess P L N fn.results.toList fun res => mkArgs L A 0 fun ent => unkK L fun unk =>
          r fun cf args h kr kp => ent args unk fun ts => d cf ts ⟨[], h.ro, h.next, h.bl⟩
            (fun ts h' => marksK h'.ds (fun h' => res ts ⟨[], h'.ro, h'.next, h'.bl⟩ fun l => packK one l fun av => kr av ⟨h.ds, h'.ro, h'.next, h'.bl⟩) h')
            ⟨fun _ _ _ => false, fun ts h' => marksK h'.ds (fun h' => res ts ⟨[], h'.ro, h'.next, h'.bl⟩ fun l => packK one l fun av => kr av ⟨h.ds, h'.ro, h'.next, h'.bl⟩) h',
              fun _ av h' => marksK h'.ds (fun h' => kp av ⟨h.ds, h'.ro, h'.next, h'.bl⟩) h'⟩ else false) fn.body
theorem mkFunZ_eq {P : Program} (hN : NoNG P) {mk : MkCode} {f : FuncId} {fn : Func} (hf : P.funcs[f]? = some fn) (r : FnD → Bool) : mkFunZ P mk fn r = mkFunW P mk f fn r := by
  unfold mkFunZ mkFunW
  cases fn.body with
  | none => rfl
  | some c =>
    simp only [mkPre_eq, unkK_eq]
    rw [hN f fn hf, Bool.not_false, Bool.and_true]
    rfl
theorem mkFunDZ_eq {P : Program} (hN : NoNG P) {mk : MkCode} {mkV : (L N : Nat) → MkV L} {f g : FuncId} {fn : Func} (hf : P.funcs[f]? = some fn) (r : FnD → Bool) : mkFunDZ P mk mkV g fn r = mkFunDW P mk mkV f g fn r := by
  unfold mkFunDZ mkFunDW
  cases fn.body with
  | none => rfl
  | some c =>
    simp only [mkPre_eq, unkK_eq]
    rw [hN f fn hf, Bool.not_false, Bool.and_true]
    rfl
theorem mkFunMZ_eq {P : Program} (hN : NoNG P) {mk : MkCode} {f : FuncId} {fn : Func} (hf : P.funcs[f]? = some fn) (r : FnD → Bool) : mkFunMZ P mk fn r = mkFunMW P mk f fn r := by
  unfold mkFunMZ mkFunMW
  cases fn.body with
  | none => rfl
  | some c =>
    simp only [mkPre_eq, unkK_eq]
    rw [hN f fn hf, Bool.not_false, Bool.and_true]
    rfl
theorem mkFunW_eq {P : Program} {mk : MkCode} {f : FuncId} {fn : Func} (h : P.funcs[f]? = some fn) (r : FnD → Bool) : mkFun P mk f r = mkFunW P mk f fn r := by
  unfold mkFun mkFunW; rw [h]; first | done | (dsimp only; cases fn.body <;> rfl)
theorem mkFunDW_eq {P : Program} {mk : MkCode} {mkV : (L N : Nat) → MkV L} {f g : FuncId} {fn : Func} (h : P.funcs[f]? = some fn) (r : FnD → Bool) : mkFunD P mk mkV f g r = mkFunDW P mk mkV f g fn r := by
  unfold mkFunD mkFunDW; rw [h]; first | done | (dsimp only; cases fn.body <;> rfl)
theorem mkFunMW_eq {P : Program} {mk : MkCode} {f : FuncId} {fn : Func} (h : P.funcs[f]? = some fn) (r : FnD → Bool) : mkFunM P mk f r = mkFunMW P mk f fn r := by
  unfold mkFunM mkFunMW; rw [h]; first | done | (dsimp only; cases fn.body <;> rfl)
def mkAnyZ (P : Program) (S : List Rule) (gs : FuncId × FuncId) (gd : FuncId) (sf : Bool) (kd : Nat) (fn : Func) (r : FnD → Bool) : Bool :=
  Nat.rec (motive := fun _ => Bool) (mkFunZ P (mkCodeZ P S sf gs) fn r)
    (fun n _ => Nat.rec (motive := fun _ => Bool) (mkFunDZ P (mkCodeZ P S sf gs) (fun L N o r => valT o.op P S L N r) gd fn r) (fun _ _ => mkFunMZ P (mkCodeZ P S sf gs) fn r) n) kd
theorem mkAnyZ_true {P : Program} (hN : NoNG P) {ν : Nu} {S : List Rule} (hS : SymOk P ν S) {gs : FuncId × FuncId} {gd : FuncId} (hok : SplitOk P ν gs) {sf : Bool} {kd : Nat} {f : FuncId} {fn : Func} (hf : P.funcs[f]? = some fn) {r : FnD → Bool}
    (h : mkAnyZ P S gs gd sf kd fn r = true) : ∃ d, FnGood P ν f d ∧ r d = true := by
  match kd with
  | 0 =>
    change mkFunZ P (mkCodeZ P S sf gs) fn r = true at h
    rw [mkFunZ_eq hN hf, ← mkFunW_eq hf] at h
    exact mkFun_true (mkCodeZ_good P S sf ν hS gs hok) h
  | 1 =>
    change mkFunDZ P (mkCodeZ P S sf gs) (fun L N o r => valT o.op P S L N r) gd fn r = true at h
    rw [mkFunDZ_eq hN hf, ← mkFunDW_eq hf] at h
    exact mkFunD_true (mkCodeZ_good P S sf ν hS gs hok) (fun L N o r h => valT_true hS h) h
  | n + 2 =>
    change mkFunMZ P (mkCodeZ P S sf gs) fn r = true at h
    rw [mkFunMZ_eq hN hf, ← mkFunMW_eq hf] at h
    exact mkFunM_true (mkCodeZ_good P S sf ν hS gs hok) h
structure FnE where
  f : FuncId
  fn : Func
  sf : Bool
  kd : Nat
def FnsOkZ (P : Program) : List FnE → Prop
  | [] => True
  | e :: l => P.funcs[e.f]? = some e.fn ∧ FnsOkZ P l
def mkTblZ (P : Program) (S : List Rule) (gs : FuncId × FuncId) (gd : FuncId) (l : List FnE) : T4 FnD TD → (T4 FnD TD → Bool) → Bool :=
  List.rec (motive := fun _ => T4 FnD TD → (T4 FnD TD → Bool) → Bool) (fun t r => r t)
    (fun e _ ih t r => FnE.rec (motive := fun _ => Bool) (fun f fn sf kd => bif Nat.blt f 4096 then mkAnyZ P S gs gd sf kd fn fun d => T4.setK TD f d t fun t => ih t r else false) e) l
theorem mkTblZ_true {P : Program} (hN : NoNG P) {ν : Nu} {S : List Rule} (hS : SymOk P ν S) {gs : FuncId × FuncId} {gd : FuncId} (hok : SplitOk P ν gs) : ∀ {l : List FnE} {t : T4 FnD TD} {r : T4 FnD TD → Bool}, FnsOkZ P l → TblOk P ν t → mkTblZ P S gs gd l t r = true → ∃ t', TblOk P ν t' ∧ r t' = true
  | [], t, r, _, ht, h => ⟨t, ht, h⟩
  | ⟨f, fn, sf, kd⟩ :: l, t, r, hl, ht, h => by
    change (bif Nat.blt f 4096 then mkAnyZ P S gs gd sf kd fn fun d => T4.setK TD f d t fun t => mkTblZ P S gs gd l t r else false) = true at h
    cases hb : Nat.blt f 4096 with
    | false => rw [hb] at h; cases h
    | true =>
      rw [hb, cond_true] at h
      rw [Nat.blt_eq] at hb
      obtain ⟨d, hd, h⟩ := mkAnyZ_true hN hS hok hl.1 h
      rw [T4.setK_eq] at h
      exact mkTblZ_true hN hS hok hl.2 (ht.set hb hd) h
end
end Go.Abs

/-
  A verified evaluator: what is called without arguments and gives no reference is run once.
-/
namespace Go.Abs
noncomputable section
open Go.RowKit (Below)
def isTrueK (av : AV) (_ : H) : Bool := vBool av fun b => b
def trueD : FnD := fun _ args h kr _ => isNilA args (kr (.bool true) h)
theorem below_of_ext {ro : RO} {φ φ' : Phi} {w w' : World} (hx : Ext ro φ w φ' w') (hl : ∀ id ver p, φ id ver = some p → id < ro.lim) : Below w.heap.size w w' :=
  ⟨hx.os, hx.tape, hx.output, hx.size, fun b hb => hx.same b hb fun id ver p hp h => by have := hl id ver p hp; omega⟩
theorem FnGood.closed_true {P : Program} {ν : Nu} {t : T4 FnD TD} (ht : TblOk P ν t) {n f : Nat} {h0 : H} {φ0 : Phi} (hrun : runF t n f [] h0 isTrueK (fun _ _ => false) = true)
    (h0G : ∀ w : World, (∀ b o, (b, o) ∈ ν.G → w.heap[b]? = some o) → HR φ0 ν h0 w) (hlim : ∀ id ver p, φ0 id ver = some p → id < h0.ro.lim) : FnGood P ν f trueD := by
  intro cf _ args h kr kp hk φ w vs hr hv
  obtain ⟨e1, hk1⟩ := isNilA_true (show isNilA args (kr (.bool true) h) = true from hk)
  subst e1
  cases hv
  have hr0 := h0G w fun b o hbo => (hr.gl b o hbo).1
  have hc := runF_ok ht n f [] h0 isTrueK (fun _ _ => false) hrun φ0 w [] hr0 .nil
  have hpost : ∀ e w', FPost φ0 ν h0.ro w h0.ds isTrueK (fun _ _ => false) e w' → FPost φ ν h.ro w h.ds kr kp e w' := by
    intro e w' hp
    cases e with
    | returned v =>
      obtain ⟨φ', av, h', hvr, hr', hx, _, _, hav⟩ := hp
      have hb := below_of_ext hx hlim
      obtain ⟨b, e2, hb2⟩ := vBool_true (show vBool av (fun b => b) = true from hav)
      subst e2 hb2
      cases hvr
      obtain ⟨g1, g2⟩ := hr.below hb
      exact ⟨φ, _, h, .bool _, g1, g2 _, rfl, rfl, hk1⟩
    | panicked chain =>
      obtain ⟨φ', av, h', v, _, _, _, _, _, _, hav⟩ := hp
      cases hav
    | _ => first | exact hp | trivial
  rcases hc with ⟨h1, h2⟩ | ⟨v, w', h1, h2⟩
  · exact .inl ⟨h1, h2.mono hpost⟩
  · exact .inr ⟨v, w', h1, hpost _ _ h2⟩
end
end Go.Abs

/-
  A verified evaluator: a map that a function without arguments makes is laid at once.
-/
namespace Go.Abs
noncomputable section
open Go.RowKit (Below)
theorem HR.newInMap {φ : Phi} {ν : Nu} {h : H} {w w1 : World} (hr : HR φ ν h w) (hb : Below w.heap.size w w1) (hn : h.next < 4 ^ HD) {B : Nat} (hB : w.heap.size ≤ B) (hB1 : B < w1.heap.size) {ms : Array MapEntry} {clock : Nat} {es : List (AV × AV × Nat)}
    (hw : w1.heap[B]? = some (.map ms clock)) (hc : ∀ φ, MEs φ ν es ms.toList) :
    HR (φ.new h.next 0 ⟨B, 0, 0, 0⟩) ν { h with next := h.next + 1, bl := T4.set HD h.next (.mapo es clock) h.bl } w1 ∧ (∀ ro, Ext ro φ w (φ.new h.next 0 ⟨B, 0, 0, 0⟩) w1) ∧ φ.le (φ.new h.next 0 ⟨B, 0, 0, 0⟩) := by
  have hnone : ∀ v, φ h.next v = none := by
    intro v
    cases e : φ h.next v with
    | none => rfl
    | some q => have := (hr.dom _ _ _ e).1; omega
  have hle := Phi.new_le (p := ⟨B, 0, 0, 0⟩) (hnone 0)
  refine ⟨⟨?_, ?_, ?_, ?_, ?_, hr.gp.mono hle, ?_, hr.ub⟩, ?_, hle⟩
  · intro i v q hq
    rcases Phi.new_inv hq with ⟨rfl, rfl, rfl⟩ | hq
    · exact ⟨by simp, hB1⟩
    · have := hr.dom _ _ _ hq
      have := hb.size
      exact ⟨by simp; omega, by omega⟩
  · intro i v q i' v' q' hq hq' e
    rcases Phi.new_inv hq with ⟨e1, e2, e3⟩ | hq1 <;> rcases Phi.new_inv hq' with ⟨e4, e5, e6⟩ | hq2
    · rw [e1, e4]
    · have := (hr.dom _ _ _ hq2).2; rw [e3] at e; simp only at e; omega
    · have := (hr.dom _ _ _ hq1).2; rw [e6] at e; simp only at e; omega
    · exact hr.inj _ _ _ _ _ _ hq1 hq2 e
  · intro i x hi hx
    simp only at hi hx
    rw [T4.get_set HD _ _ hn (by have := hr.lim; omega)] at hx
    by_cases e : h.next = i
    · rw [if_pos e] at hx; cases hx; subst e
      refine ⟨fun ver p hp => ?_, _, Phi.new_self _ _ _ _, ms, hw, hc _⟩
      rcases Phi.new_inv hp with ⟨_, rfl, rfl⟩ | hp
      · rfl
      · rw [hnone] at hp; cases hp
    · rw [if_neg e] at hx
      have hi' : i < h.next := by omega
      refine BR.keep hle (fun v q hq => ?_) (fun v q hq => hb.block _ (hr.dom _ _ _ hq).2) (hr.bl i x hi' hx)
      rcases Phi.new_inv hq with ⟨rfl, _⟩ | hq
      · omega
      · exact hq
  · simp; omega
  · have := hr.ro; simp; omega
  · intro b' o' hb'
    obtain ⟨g1, g2⟩ := hr.gl b' o' hb'
    have hlt : b' < w.heap.size := (Array.getElem?_eq_some_iff.1 g1).1
    refine ⟨by rw [hb.block _ hlt]; exact g1, fun i v q hq e => ?_⟩
    rcases Phi.new_inv hq with ⟨_, _, e3⟩ | hq
    · rw [e3] at e; simp only at e; omega
    · exact g2 i v q hq e
  · intro ro
    refine ⟨hle, hb.size, hb.os, hb.tape, hb.output, ?_, fun b hlt _ => hb.block b hlt, fun i v q hq _ hk => ?_⟩
    rotate_left
    · obtain ⟨v0, p0, h0⟩ := hk
      rcases Phi.new_inv hq with ⟨rfl, _, _⟩ | hq
      · have := (hr.dom _ _ _ h0).1
        omega
      · exact hq
    intro i v q hq
    rcases Phi.new_inv hq with ⟨rfl, rfl, rfl⟩ | hq
    · exact .inr hB
    · exact .inl ⟨v, q, hq, rfl⟩
structure ME where
  l : Nat
  c : Nat
  K : IntKind
  n : Nat
  b : Nat
def ME.av (m : ME) : AV × AV × Nat := (.str m.l m.c, .int m.K (.ofNat m.n), m.b)
def meqK : List ME → List (AV × AV × Nat) → Bool → Bool
  | [], [], x => x
  | m :: ms, e :: es, x => vStr e.1 fun l c => vInt e.2.1 fun K n => chk (Nat.beq l m.l) (chk (Nat.beq c m.c) (chk (isIntK K m.K) (chk (ieq n (.ofNat m.n)) (chk (Nat.beq e.2.2 m.b) (meqK ms es x)))))
  | _, _, _ => false
theorem of_beq_int {a b : Int} (h : ieq a b = true) : a = b := by
  rw [ieq_eq] at h
  exact beq_iff_eq.1 h
theorem meqK_true : ∀ {ms : List ME} {es : List (AV × AV × Nat)} {x : Bool}, meqK ms es x = true → es = ms.map ME.av ∧ x = true
  | [], [], x, h => ⟨rfl, h⟩
  | m :: ms, (k, v, b) :: es, x, h => by
    have h' : (vStr k fun l c => vInt v fun K n => chk (Nat.beq l m.l) (chk (Nat.beq c m.c) (chk (isIntK K m.K) (chk (ieq n (.ofNat m.n)) (chk (Nat.beq b m.b) (meqK ms es x)))))) = true := h
    obtain ⟨l, c, e1, h⟩ := vStr_true h'
    obtain ⟨K, n, e2, h⟩ := vInt_true h
    obtain ⟨c1, h⟩ := chk_true h
    obtain ⟨c2, h⟩ := chk_true h
    obtain ⟨c3, h⟩ := chk_true h
    obtain ⟨c4, h⟩ := chk_true h
    obtain ⟨c5, h⟩ := chk_true h
    obtain ⟨h1, h2⟩ := meqK_true h
    refine ⟨?_, h2⟩
    rw [h1, List.map_cons, e1, e2, nbT c1, nbT c2, isIntK_true c3, of_beq_int c4, nbT c5]
    rfl
  | [], _ :: _, x, h => by cases h
  | _ :: _, [], x, h => by cases h
def mpOf (v : AV) (k : Nat → Bool) : Bool :=
  AV.rec (motive_1 := fun _ => Bool) (motive_2 := fun _ => Bool) false (fun _ _ => false) false k false (fun _ _ _ _ _ => false) (fun _ _ => false) false (fun _ _ _ => false) false false
    (fun _ _ => false) (fun _ _ _ => false) (fun _ _ _ _ _ _ => false) (fun _ _ => false) (fun _ => false) (fun _ _ => false) false (fun _ _ _ _ => false) v
theorem mpOf_true {v : AV} {k : Nat → Bool} (h : mpOf v k = true) : ∃ id, v = .mp id ∧ k id = true := by
  cases v <;> first | exact ⟨_, rfl, h⟩ | cases h
def isMapK (ms : List ME) (clock : Nat) (av : AV) (h : H) : Bool := mpOf av fun id => chk (Nat.ble h.ro.lim id) (T4.getK HD id h.bl fun b =>
  AB.rec (motive := fun _ => Bool) (fun _ _ _ _ _ _ _ => false) (fun es c => meqK ms es (Nat.beq c clock)) (fun _ _ _ => false) (fun _ => false) b)
def mapD (ms : List ME) (clock : Nat) : FnD := fun _ args h kr _ => isNilA args (newB (.mapo (ms.map ME.av) clock) h fun id h => kr (.mp id) h)
theorem MEs_free {φ φ' : Phi} {ν : Nu} : ∀ {ms : List ME} {l : List MapEntry}, MEs φ ν (ms.map ME.av) l → MEs φ' ν (ms.map ME.av) l
  | [], [], h => trivial
  | m :: ms, e :: l, h => by
    obtain ⟨h1, h2, h3, h4⟩ := (show VR φ ν (.str m.l m.c) e.key ∧ VR φ ν (.int m.K (.ofNat m.n)) e.val ∧ e.born = m.b ∧ MEs φ ν (ms.map ME.av) l from h)
    refine (show VR φ' ν (.str m.l m.c) e.key ∧ VR φ' ν (.int m.K (.ofNat m.n)) e.val ∧ e.born = m.b ∧ MEs φ' ν (ms.map ME.av) l from ⟨?_, ?_, h3, MEs_free h4⟩)
    · generalize e.key = k at h1
      cases h1 with
      | str hs => exact .str hs
    · generalize e.val = k at h2
      cases h2
      exact .int _ _
  | [], _ :: _, h => h.elim
  | _ :: _, [], h => h.elim
theorem FnGood.closed_map {P : Program} {ν : Nu} {t : T4 FnD TD} (ht : TblOk P ν t) {n f : Nat} {h0 : H} {φ0 : Phi} {ms : List ME} {clock : Nat} (hrun : runF t n f [] h0 (isMapK ms clock) (fun _ _ => false) = true)
    (h0G : ∀ w : World, (∀ b o, (b, o) ∈ ν.G → w.heap[b]? = some o) → HR φ0 ν h0 w) (hlim : ∀ id ver p, φ0 id ver = some p → id < h0.ro.lim) : FnGood P ν f (mapD ms clock) := by
  intro cf _ args h kr kp hk φ w vs hr hv
  obtain ⟨e1, hk1⟩ := isNilA_true (show isNilA args (newB (.mapo (ms.map ME.av) clock) h fun id h => kr (.mp id) h) = true from hk)
  subst e1
  cases hv
  have hr0 := h0G w fun b o hbo => (hr.gl b o hbo).1
  obtain ⟨hn, hk2⟩ := newB_true hk1
  have hc := runF_ok ht n f [] h0 (isMapK ms clock) (fun _ _ => false) hrun φ0 w [] hr0 .nil
  have hpost : ∀ e w', FPost φ0 ν h0.ro w h0.ds (isMapK ms clock) (fun _ _ => false) e w' → FPost φ ν h.ro w h.ds kr kp e w' := by
    intro e w' hp
    cases e with
    | returned v =>
      obtain ⟨φ', av, h', hvr, hr', hx, hro, _, hav⟩ := hp
      have hb := below_of_ext hx hlim
      obtain ⟨id, e2, hk3⟩ := mpOf_true (show mpOf av _ = true from hav)
      obtain ⟨c1, hk4⟩ := chk_true hk3
      have c1 := nlT c1
      obtain ⟨b, hbl, hk5⟩ := T4.getK_true _ _ _ _ hk4
      cases b with
      | cells s n lw fz opn el rows => cases hk5
      | siter a b c => cases hk5
      | dfr o => cases hk5
      | mapo es ck =>
        obtain ⟨e3, e4⟩ := meqK_true (show meqK ms es (Nat.beq ck clock) = true from hk5)
        have e4 := nbT e4
        subst e2 e3 e4
        cases hvr with
        | mp hp =>
          rename_i p
          obtain ⟨_, p2, hp2, mm, hheap, hme⟩ := hr'.bl id _ (hr'.dom _ _ _ hp).1 hbl
          rw [hp] at hp2
          cases hp2
          have hB : w.heap.size ≤ p.blk := by
            rcases hx.img id 0 p hp with ⟨v0, p0, g1, g2⟩ | g
            · have g3 := hlim id v0 p0 g1
              rw [hro] at c1
              omega
            · exact g
          obtain ⟨q1, q2, q3⟩ := hr.newInMap hb hn hB (hr'.dom _ _ _ hp).2 hheap (fun φ => MEs_free hme)
          exact ⟨φ.new h.next 0 ⟨p.blk, 0, 0, 0⟩, _, { h with next := h.next + 1, bl := T4.set HD h.next (.mapo (ms.map ME.av) ck) h.bl }, .mp (p := ⟨p.blk, 0, 0, 0⟩) (Phi.new_self _ _ _ _), q1, q2 _, rfl, rfl, hk2⟩
    | panicked chain =>
      obtain ⟨φ', av, h', v, _, _, _, _, _, _, hav⟩ := hp
      cases hav
    | _ => first | exact hp | trivial
  rcases hc with ⟨h1, h2⟩ | ⟨v, w', h1, h2⟩
  · exact .inl ⟨h1, h2.mono hpost⟩
  · exact .inr ⟨v, w', h1, hpost _ _ h2⟩
end
end Go.Abs

/-
  A verified evaluator: the heap at the start: the package-level variables that may be read.
-/
namespace Go.Abs
noncomputable section
inductive GC where
  | i (k : IntKind) (n : Nat)
  | t (b : List UInt8)
def GC.av : GC → AV := GC.rec (motive := fun _ => AV) (fun k n => .int k (.ofNat n)) (fun b => .str b.length (enc b))
def GC.val : GC → Value := GC.rec (motive := fun _ => Value) (fun k n => .int k (.ofNat n)) (fun b => .string ⟨b.toArray⟩)
theorem GC.vr {φ : Phi} {ν : Nu} (c : GC) : VR φ ν c.av c.val := by
  cases c with
  | i k n => exact .int _ _
  | t b => exact .str (IsStr.of_list b)
theorem GC.one (c : GC) : c.val.oneCell' = true := by cases c <;> rfl
def gU (l : List Nat) : List GC := l.map (.i .u8)
structure Gl where
  g : Nat
  l : List GC
  el : TypeId
def Gl.row (q : Gl) : List AV := q.l.map GC.av
def rowT (d : Nat) (x : List AV) : RT (List AV) d := ⟨some x, T4.e d⟩
def Gl.blk (q : Gl) : AB := .cells q.l.length (Nat.succ q.l.length) 0 0 true q.el (rowT RD q.row)
def glHeap (gs : List Gl) : T4 AB HD := List.rec (motive := fun _ => T4 AB HD) (T4.e HD) (fun q _ t => T4.set HD q.g q.blk t) gs
def h0Of (gs : List Gl) (lim : Nat) : H := ⟨[], ⟨lim, []⟩, lim, glHeap gs⟩
def Gl.obj (q : Gl) (fr : Nat × Nat) : Obj := .cells (q.l.map GC.val).toArray q.el fr
def phiOf (gs : List Gl) : Phi := fun id ver => match gs.find? (fun q => Nat.beq q.g id && Nat.beq q.l.length ver) with
  | some q => some ⟨q.g, q.l.length, q.l.length, 0⟩
  | none => none
theorem phiOf_some {gs : List Gl} {id ver : Nat} {p : PB} (h : phiOf gs id ver = some p) : ∃ q ∈ gs, q.g = id ∧ q.l.length = ver ∧ p = ⟨q.g, q.l.length, q.l.length, 0⟩ := by
  unfold phiOf at h
  split at h
  · rename_i q hq
    have h1 := List.find?_some hq
    rw [Bool.and_eq_true] at h1
    exact ⟨q, List.mem_of_find?_eq_some hq, nbT h1.1, nbT h1.2, (Option.some.inj h).symm⟩
  · cases h
theorem glHeap_get : ∀ {gs : List Gl} {id : Nat} {b : AB}, (∀ q ∈ gs, q.g < 4 ^ HD) → id < 4 ^ HD → T4.get HD id (glHeap gs) = some b → ∃ q ∈ gs, q.g = id ∧ b = q.blk
  | [], id, b, _, _, h => by
    rw [show glHeap [] = T4.e HD from rfl, T4.get_e] at h
    cases h
  | q :: gs, id, b, hg, hi, h => by
    have h' : T4.get HD id (T4.set HD q.g q.blk (glHeap gs)) = some b := h
    rw [T4.get_set HD q.g id (hg q List.mem_cons_self) hi] at h'
    by_cases e : q.g = id
    · rw [if_pos e] at h'
      exact ⟨q, List.mem_cons_self, e, (Option.some.inj h').symm⟩
    · rw [if_neg e] at h'
      obtain ⟨q', g1, g2⟩ := glHeap_get (fun q hq => hg q (List.mem_cons_of_mem _ hq)) hi h'
      exact ⟨q', List.mem_cons_of_mem _ g1, g2⟩
theorem rowT_get (x : List AV) (d : Nat) : RT.get 0 (rowT d x) = some x := by
  unfold RT.get rowT
  rw [if_pos rfl]
theorem h0_HR {ν : Nu} {gs : List Gl} {lim : Nat} {w : World} (hlim : lim ≤ 4 ^ HD) (hlt : ∀ q ∈ gs, q.g < lim) (hpos : ∀ q ∈ gs, 0 < q.l.length) (hnd : (gs.map (·.g)).Nodup) (hgv : ∀ g, 0 < gver g → ∃ q ∈ gs, q.g = g ∧ q.l.length = gver g)
    (hG : ∀ q ∈ gs, ∃ fr, (q.g, q.obj fr) ∈ ν.G) (hw : ∀ b o, (b, o) ∈ ν.G → w.heap[b]? = some o) : HR (phiOf gs) ν (h0Of gs lim) w := by
  have hblk : ∀ q ∈ gs, ∃ fr, w.heap[q.g]? = some (q.obj fr) := fun q hq => let ⟨fr, h⟩ := hG q hq; ⟨fr, hw _ _ h⟩
  have huniq : ∀ q ∈ gs, ∀ q' ∈ gs, q.g = q'.g → q = q' := by
    intro q hq q' hq' e
    obtain ⟨i, hi, rfl⟩ := List.getElem_of_mem hq
    obtain ⟨j, hj, rfl⟩ := List.getElem_of_mem hq'
    have h1 : i < (gs.map (·.g)).length := by simpa using hi
    have h2 : j < (gs.map (·.g)).length := by simpa using hj
    have : i = j := (List.getElem_inj (h₀ := h1) (h₁ := h2) hnd).1 (by simpa using e)
    subst this; rfl
  refine ⟨?_, ?_, ?_, hlim, Nat.le_refl _, ?_, ?_, trivial⟩
  · intro id ver p hp
    obtain ⟨q, hq, h1, h2, rfl⟩ := phiOf_some hp
    obtain ⟨fr, hb⟩ := hblk q hq
    exact ⟨by rw [← h1]; exact hlt q hq, (Array.getElem?_eq_some_iff.1 hb).1⟩
  · intro id ver p id' ver' p' hp hp' e
    obtain ⟨q, hq, h1, h2, rfl⟩ := phiOf_some hp
    obtain ⟨q', hq', h1', h2', rfl⟩ := phiOf_some hp'
    rw [← h1, ← h1']; exact e
  · intro id b hid hb
    have hid : id < lim := hid
    obtain ⟨q, hq, h1, rfl⟩ := glHeap_get (fun q hq => by have := hlt q hq; omega) (by omega) hb
    refine ⟨trivial, Nat.zero_le _, hpos q hq, fun ver p hp => ?_⟩
    obtain ⟨q', hq', h1', h2', rfl⟩ := phiOf_some hp
    have := huniq q hq q' hq' (by rw [h1, h1'])
    subst this
    subst h2'
    obtain ⟨fr, hb2⟩ := hblk q hq
    refine ⟨Nat.le_succ _, rfl, fun _ => ⟨_, fr, hb2, by simp, by simp, fun j hj => ?_, fun e => by omega, fun e => by omega⟩⟩
    refine ⟨q.l[j].val, by simp [hj], GC.one _, ?_⟩
    have hc : cellAt q.l.length (rowT RD q.row) j = q.l[j].av := by
      unfold cellAt
      rw [Nat.div_eq_of_lt hj, rowT_get, Nat.mod_eq_of_lt hj]
      simp [Gl.row, hj]
    rw [hc]
    exact GC.vr _
  · intro g hg
    obtain ⟨q, hq, h1, h2⟩ := hgv g hg
    have hf : ∃ q', gs.find? (fun q => Nat.beq q.g g && Nat.beq q.l.length (gver g)) = some q' := by
      rw [← Option.isSome_iff_exists, List.find?_isSome]
      exact ⟨q, hq, by rw [h1, h2]; simp⟩
    obtain ⟨q', hq'⟩ := hf
    have h3 := List.find?_some hq'
    rw [Bool.and_eq_true] at h3
    refine ⟨⟨q'.g, q'.l.length, q'.l.length, 0⟩, by unfold phiOf; rw [hq'], nbT h3.1⟩
  · intro b o hbo
    refine ⟨hw b o hbo, fun id ver p hp e => ?_⟩
    obtain ⟨q, hq, h1, h2, rfl⟩ := phiOf_some hp
    show id < lim
    rw [← h1]; exact hlt q hq
end
end Go.Abs

/-
  The table of the program's words, as words.table makes it (printed by program).
-/
namespace Go.Abs
def wordsClock : Nat := 262
def wordsMs : List ME := [⟨6, 91617109427009, .u8, 1, 0⟩,
  ⟨9, 1315359943245019104321, .u8, 1, 1⟩,
  ⟨5, 353350469185, .u8, 1, 2⟩,
  ⟨3, 5000257, .u8, 1, 3⟩,
  ⟨10, 317751239002167759096897, .u8, 1, 4⟩,
  ⟨4, 1330859073, .u8, 1, 5⟩,
  ⟨9, 1278896560973888638017, .u8, 1, 6⟩,
  ⟨3, 4476481, .u8, 1, 7⟩,
  ⟨3, 5852737, .u8, 1, 8⟩,
  ⟨3, 4543041, .u8, 1, 9⟩,
  ⟨4, 1095062081, .u8, 1, 10⟩,
  ⟨5, 357577347649, .u8, 1, 11⟩,
  ⟨9, 1315359944344596599617, .u8, 1, 12⟩,
  ⟨6, 86068079842113, .u8, 1, 13⟩,
  ⟨2, 21569, .u8, 1, 14⟩,
  ⟨14, 1608828531497585684031718530570049, .u8, 1, 15⟩,
  ⟨6, 76219819640130, .u8, 1, 16⟩,
  ⟨6, 98209817839938, .u8, 1, 17⟩,
  ⟨5, 323435449410, .u8, 1, 18⟩,
  ⟨5, 323251817538, .u8, 1, 19⟩,
  ⟨2, 22850, .u8, 1, 20⟩,
  ⟨2, 17987, .u8, 1, 21⟩,
  ⟨2, 18499, .u8, 1, 22⟩,
  ⟨9, 1517628705878675900483, .u8, 1, 23⟩,
  ⟨10, 393474046784059228637251, .u8, 1, 24⟩,
  ⟨5, 357879073859, .u8, 1, 25⟩,
  ⟨6, 86094050512707, .u8, 1, 26⟩,
  ⟨4, 1347243843, .u8, 1, 27⟩,
  ⟨6, 56269713788739, .u8, 1, 28⟩,
  ⟨13, 6041551547356042718232915562307, .u8, 1, 29⟩,
  ⟨15, 265725889768987890266851172013657923, .u8, 1, 30⟩,
  ⟨13, 6204334641357092112960926404419, .u8, 1, 31⟩,
  ⟨8, 6002815898267569987, .u8, 1, 32⟩,
  ⟨7, 23729957717823299, .u8, 1, 33⟩,
  ⟨7, 21479313250340675, .u8, 1, 34⟩,
  ⟨8, 6002259618398359363, .u8, 1, 35⟩,
  ⟨10, 336732150260214721826627, .u8, 1, 36⟩,
  ⟨4, 1498435395, .u8, 1, 37⟩,
  ⟨4, 1381125955, .u8, 1, 38⟩,
  ⟨13, 5649427943429146784801458638659, .u8, 1, 39⟩,
  ⟨5, 362091466563, .u8, 1, 40⟩,
  ⟨4, 1096040772, .u8, 1, 41⟩,
  ⟨2, 17732, .u8, 1, 42⟩,
  ⟨12, 25771079172926118500575167812, .u8, 1, 43⟩,
  ⟨9, 1259374295495201277252, .u8, 1, 44⟩,
  ⟨9, 1517628712527134999876, .u8, 1, 45⟩,
  ⟨9, 1315359944344597448004, .u8, 1, 46⟩,
  ⟨10, 336732145752216729503044, .u8, 1, 47⟩,
  ⟨6, 83877512365380, .u8, 1, 48⟩,
  ⟨8, 5642809480180025668, .u8, 1, 49⟩,
  ⟨4, 1314344772, .u8, 1, 50⟩,
  ⟨10, 393235314627021275944260, .u8, 1, 51⟩,
  ⟨7, 18939419596577092, .u8, 1, 52⟩,
  ⟨4, 1163086917, .u8, 1, 53⟩,
  ⟨3, 4476485, .u8, 1, 54⟩,
  ⟨7, 19215345139338821, .u8, 1, 55⟩,
  ⟨8, 5497841001890598469, .u8, 1, 56⟩,
  ⟨11, 83814134097584974746373701, .u8, 1, 57⟩,
  ⟨10, 327397807262443088662085, .u8, 1, 58⟩,
  ⟨10, 327102950406787701165637, .u8, 1, 59⟩,
  ⟨12, 21456323973809839260416888389, .u8, 1, 60⟩,
  ⟨6, 77280106008133, .u8, 1, 61⟩,
  ⟨12, 27636423378395693673573797445, .u8, 1, 62⟩,
  ⟨11, 93475984521892321818857029, .u8, 1, 63⟩,
  ⟨8, 4918288487314378309, .u8, 1, 64⟩,
  ⟨10, 369863367293487026556485, .u8, 1, 65⟩,
  ⟨11, 83813912883575097382948421, .u8, 1, 66⟩,
  ⟨10, 341252245714361135681093, .u8, 1, 67⟩,
  ⟨9, 1555453613492417089093, .u8, 1, 68⟩,
  ⟨10, 336732149699523232681541, .u8, 1, 69⟩,
  ⟨12, 26078047327433075562087992901, .u8, 1, 70⟩,
  ⟨12, 22068078162707990933361937989, .u8, 1, 71⟩,
  ⟨9, 1278898817192819969605, .u8, 1, 72⟩,
  ⟨11, 101919391829110772901236293, .u8, 1, 73⟩,
  ⟨5, 327513624901, .u8, 1, 74⟩,
  ⟨5, 353518113349, .u8, 1, 75⟩,
  ⟨9, 1444559228055377369157, .u8, 1, 76⟩,
  ⟨6, 75102961293381, .u8, 1, 77⟩,
  ⟨5, 297750249798, .u8, 1, 78⟩,
  ⟨2, 17478, .u8, 1, 79⟩,
  ⟨4, 1162627398, .u8, 1, 80⟩,
  ⟨12, 23616754675392681150228744518, .u8, 1, 81⟩,
  ⟨6, 90457586288966, .u8, 1, 82⟩,
  ⟨5, 327513164102, .u8, 1, 83⟩,
  ⟨5, 362175154502, .u8, 1, 84⟩,
  ⟨7, 20070800200519494, .u8, 1, 85⟩,
  ⟨3, 5394246, .u8, 1, 86⟩,
  ⟨4, 1297044038, .u8, 1, 87⟩,
  ⟨6, 78401563412807, .u8, 1, 88⟩,
  ⟨7, 23157176264905287, .u8, 1, 89⟩,
  ⟨5, 345028645447, .u8, 1, 90⟩,
  ⟨7, 20070799931163976, .u8, 1, 91⟩,
  ⟨3, 5188937, .u8, 1, 92⟩,
  ⟨11, 92252947950752660743728457, .u8, 1, 93⟩,
  ⟨14, 1588309668187138014784348213298249, .u8, 1, 94⟩,
  ⟨2, 20041, .u8, 1, 95⟩,
  ⟨7, 19216543837867593, .u8, 1, 96⟩,
  ⟨8, 4995689643908550217, .u8, 1, 97⟩,
  ⟨7, 21463881432518217, .u8, 1, 98⟩,
  ⟨5, 362208579145, .u8, 1, 99⟩,
  ⟨12, 26099878864652542872566910537, .u8, 1, 100⟩,
  ⟨4, 1330925129, .u8, 1, 101⟩,
  ⟨7, 19220890278841929, .u8, 1, 102⟩,
  ⟨2, 21321, .u8, 1, 103⟩,
  ⟨4, 1414747466, .u8, 1, 104⟩,
  ⟨9, 1259371195954927719754, .u8, 1, 105⟩,
  ⟨3, 5850443, .u8, 1, 106⟩,
  ⟨5, 327579484492, .u8, 1, 107⟩,
  ⟨4, 1414742348, .u8, 1, 108⟩,
  ⟨7, 20070799931163980, .u8, 1, 109⟩,
  ⟨4, 1413891404, .u8, 1, 110⟩,
  ⟨4, 1397966156, .u8, 1, 111⟩,
  ⟨5, 362007054668, .u8, 1, 112⟩,
  ⟨6, 91621472160076, .u8, 1, 113⟩,
  ⟨4, 1162758476, .u8, 1, 114⟩,
  ⟨5, 357645044044, .u8, 1, 115⟩,
  ⟨7, 19500119154903372, .u8, 1, 116⟩,
  ⟨4, 1162104653, .u8, 1, 117⟩,
  ⟨22, 29677648179017929415112773370000495247019887617459534, .u8, 1, 118⟩,
  ⟨12, 24223654047227519835983398222, .u8, 1, 119⟩,
  ⟨19, 1768925677479199813221270968476238158843954510, .u8, 1, 120⟩,
  ⟨8, 4996261462835414350, .u8, 1, 121⟩,
  ⟨4, 1415071054, .u8, 1, 122⟩,
  ⟨2, 20302, .u8, 1, 123⟩,
  ⟨3, 5525326, .u8, 1, 124⟩,
  ⟨6, 90457418585422, .u8, 1, 125⟩,
  ⟨7, 18939441138455886, .u8, 1, 126⟩,
  ⟨6, 91613082895183, .u8, 1, 127⟩,
  ⟨2, 17999, .u8, 1, 128⟩,
  ⟨3, 4605519, .u8, 1, 129⟩,
  ⟨7, 19216526909984079, .u8, 1, 130⟩,
  ⟨2, 20047, .u8, 1, 131⟩,
  ⟨8, 5494759122808361039, .u8, 1, 132⟩,
  ⟨2, 21071, .u8, 1, 133⟩,
  ⟨5, 353349423695, .u8, 1, 134⟩,
  ⟨12, 24235682192803379701858390607, .u8, 1, 135⟩,
  ⟨5, 353349686351, .u8, 1, 136⟩,
  ⟨6, 92725396657487, .u8, 1, 137⟩,
  ⟨8, 6291331069371569743, .u8, 1, 138⟩,
  ⟨14, 1546636879355971501952978141790544, .u8, 1, 139⟩,
  ⟨4, 1162297680, .u8, 1, 140⟩,
  ⟨2, 18000, .u8, 1, 141⟩,
  ⟨2, 18512, .u8, 1, 142⟩,
  ⟨3, 4409680, .u8, 1, 143⟩,
  ⟨7, 19512299832428880, .u8, 1, 144⟩,
  ⟨4, 1398099024, .u8, 1, 145⟩,
  ⟨7, 23157176483270480, .u8, 1, 146⟩,
  ⟨8, 4996261462970421072, .u8, 1, 147⟩,
  ⟨9, 1278758064234362262096, .u8, 1, 148⟩,
  ⟨7, 19216462200656464, .u8, 1, 149⟩,
  ⟨7, 21745394846224976, .u8, 1, 150⟩,
  ⟨10, 322470797489643224781392, .u8, 1, 151⟩,
  ⟨10, 322399819634676832621136, .u8, 1, 152⟩,
  ⟨6, 85002843734354, .u8, 1, 153⟩,
  ⟨2, 17490, .u8, 1, 154⟩,
  ⟨6, 75120307815762, .u8, 1, 155⟩,
  ⟨7, 23437543374800210, .u8, 1, 156⟩,
  ⟨9, 1536073767720851883346, .u8, 1, 157⟩,
  ⟨9, 1277675231154335532370, .u8, 1, 158⟩,
  ⟨8, 4996261462835742034, .u8, 1, 159⟩,
  ⟨9, 1517624214407751746898, .u8, 1, 160⟩,
  ⟨7, 23438621177431378, .u8, 1, 161⟩,
  ⟨9, 1315359943189368685906, .u8, 1, 162⟩,
  ⟨6, 92712494712146, .u8, 1, 163⟩,
  ⟨9, 1315359961954131133778, .u8, 1, 164⟩,
  ⟨7, 23455135561696594, .u8, 1, 165⟩,
  ⟨5, 361940338002, .u8, 1, 166⟩,
  ⟨2, 18002, .u8, 1, 167⟩,
  ⟨2, 18514, .u8, 1, 168⟩,
  ⟨5, 361989884242, .u8, 1, 169⟩,
  ⟨7, 19216458090630994, .u8, 1, 170⟩,
  ⟨3, 5133650, .u8, 1, 171⟩,
  ⟨6, 86059422729043, .u8, 1, 172⟩,
  ⟨2, 17491, .u8, 1, 173⟩,
  ⟨7, 22042224548332883, .u8, 1, 174⟩,
  ⟨6, 92647902168403, .u8, 1, 175⟩,
  ⟨8, 4990918871730767187, .u8, 1, 176⟩,
  ⟨8, 4995689708199626067, .u8, 1, 177⟩,
  ⟨8, 4990918871747741011, .u8, 1, 178⟩,
  ⟨10, 360104174997206660629843, .u8, 1, 179⟩,
  ⟨4, 1313294675, .u8, 1, 180⟩,
  ⟨4, 1163544915, .u8, 1, 181⟩,
  ⟨6, 76155446447955, .u8, 1, 182⟩,
  ⟨8, 4923069104295859283, .u8, 1, 183⟩,
  ⟨6, 91625950893139, .u8, 1, 184⟩,
  ⟨3, 5068115, .u8, 1, 185⟩,
  ⟨8, 5138124872757297492, .u8, 1, 186⟩,
  ⟨4, 1414743380, .u8, 1, 187⟩,
  ⟨4, 1312901204, .u8, 1, 188⟩,
  ⟨4, 1313163348, .u8, 1, 189⟩,
  ⟨7, 20344630051752020, .u8, 1, 190⟩,
  ⟨4, 1431455828, .u8, 1, 191⟩,
  ⟨5, 357644978516, .u8, 1, 192⟩,
  ⟨2, 20308, .u8, 1, 193⟩,
  ⟨14, 1668650406361285531157018797625172, .u8, 1, 194⟩,
  ⟨13, 6518164525925109044541534981972, .u8, 1, 195⟩,
  ⟨8, 5138124816871674452, .u8, 1, 196⟩,
  ⟨4, 1163219540, .u8, 1, 197⟩,
  ⟨10, 369807162365675526509140, .u8, 1, 198⟩,
  ⟨4, 1162893652, .u8, 1, 199⟩,
  ⟨5, 327647776341, .u8, 1, 200⟩,
  ⟨2, 20565, .u8, 1, 201⟩,
  ⟨4, 1313820757, .u8, 1, 202⟩,
  ⟨5, 297548206933, .u8, 1, 203⟩,
  ⟨5, 306256106325, .u8, 1, 204⟩,
  ⟨5, 297783804246, .u8, 1, 205⟩,
  ⟨6, 91557248909654, .u8, 1, 206⟩,
  ⟨7, 20070800284598614, .u8, 1, 207⟩,
  ⟨4, 1313163351, .u8, 1, 208⟩,
  ⟨4, 1213483351, .u8, 1, 209⟩,
  ⟨15, 359713709624999960377481121995312983, .u8, 1, 210⟩,
  ⟨6, 92703736152897, .u8, 2, 211⟩,
  ⟨3, 4473921, .u8, 2, 212⟩,
  ⟨5, 353350470721, .u8, 2, 213⟩,
  ⟨4, 1280065859, .u8, 2, 214⟩,
  ⟨6, 83860365656387, .u8, 2, 215⟩,
  ⟨5, 297750449219, .u8, 2, 216⟩,
  ⟨7, 19514498789232451, .u8, 2, 217⟩,
  ⟨8, 4995985438491430723, .u8, 2, 218⟩,
  ⟨6, 76228242195780, .u8, 2, 219⟩,
  ⟨7, 25123068948203844, .u8, 2, 220⟩,
  ⟨6, 76159590484292, .u8, 2, 221⟩,
  ⟨8, 4995689721268098629, .u8, 2, 222⟩,
  ⟨4, 1414092869, .u8, 2, 223⟩,
  ⟨8, 4995689708266603847, .u8, 2, 224⟩,
  ⟨2, 20295, .u8, 2, 225⟩,
  ⟨2, 17993, .u8, 2, 226⟩,
  ⟨10, 327508775952885580648009, .u8, 2, 227⟩,
  ⟨8, 4995689669863231049, .u8, 2, 228⟩,
  ⟨7, 23717863023136329, .u8, 2, 229⟩,
  ⟨5, 297549317453, .u8, 2, 230⟩,
  ⟨4, 1163284301, .u8, 2, 231⟩,
  ⟨8, 6434606243482719565, .u8, 2, 232⟩,
  ⟨4, 1313165391, .u8, 2, 233⟩,
  ⟨7, 21764073642411344, .u8, 2, 234⟩,
  ⟨4, 1145128274, .u8, 2, 235⟩,
  ⟨7, 19513313193641298, .u8, 2, 236⟩,
  ⟨6, 86115525870930, .u8, 2, 237⟩,
  ⟨7, 19514447283832146, .u8, 2, 238⟩,
  ⟨6, 79453980018003, .u8, 2, 239⟩,
  ⟨3, 5522771, .u8, 2, 240⟩,
  ⟨4, 1414680403, .u8, 2, 241⟩,
  ⟨5, 362157266003, .u8, 2, 242⟩,
  ⟨4, 1347376211, .u8, 2, 243⟩,
  ⟨6, 78401563153491, .u8, 2, 244⟩,
  ⟨8, 6071768544482317651, .u8, 2, 245⟩,
  ⟨8, 6004218948052079955, .u8, 2, 246⟩,
  ⟨9, 1278896560935368017236, .u8, 2, 247⟩,
  ⟨8, 5138124842827206229, .u8, 2, 248⟩,
  ⟨3, 4543317, .u8, 2, 249⟩,
  ⟨5, 297766834775, .u8, 2, 250⟩,
  ⟨4, 1330791770, .u8, 3, 251⟩,
  ⟨5, 357813077338, .u8, 3, 252⟩,
  ⟨6, 91557148640602, .u8, 3, 253⟩,
  ⟨5, 297481097299, .u8, 3, 254⟩,
  ⟨6, 91556946202707, .u8, 3, 255⟩,
  ⟨10, 327416755332043686496584, .u8, 3, 256⟩,
  ⟨11, 100668259783346265187109192, .u8, 3, 257⟩,
  ⟨9, 1278971700515796635468, .u8, 3, 258⟩,
  ⟨10, 393235389778696349372236, .u8, 3, 259⟩,
  ⟨5, 297767228753, .u8, 3, 260⟩,
  ⟨6, 91557232334161, .u8, 3, 261⟩]
end Go.Abs

/-
  A verified evaluator: a function of two strings that gives a string, by its contract (strings.Trim and its like).
-/
namespace Go.Abs
noncomputable section
open Go.RowKit (Below)
def strOf (l : List UInt8) (k : AV → Bool) : Bool := forceN l.length fun n => forceN (enc l) fun c => k (.str n c)
def bothD (g : List UInt8 → List UInt8 → List UInt8) : FnD := fun _ args h kr _ => args2 args fun x y => vStr x fun l c => vStr y fun m d => chk (Nat.blt l 4294967281) (chk (Nat.blt m 4294967281)
  (chk (ascii (decL m d)) (strOf (g (decL l c) (decL m d)) fun v => kr v h)))
theorem both_good {P : Program} {ν : Nu} {f : Nat} {g : List UInt8 → List UInt8 → List UInt8} (hb : hasBody P f = true)
    (hC : ∀ (s t : ByteArray) (w : World), s.size < 4294967281 → t.size < 4294967281 → (∀ (j : Nat) b, t.data.toList[j]? = some b → b.toNat < 128) →
      Calls P f #[.string s, .string t] w fun e w' => e = .returned (.string ⟨(g s.data.toList t.data.toList).toArray⟩) ∧ Below w.heap.size w w') : FnGood P ν f (bothD g) := by
  refine FnGood.plain hb fun cf args h φ w vs kr kp hk hr hv => ?_
  obtain ⟨x, y, e0, hk1⟩ := args2_true hk
  obtain ⟨l, c, e1, hk2⟩ := vStr_true hk1
  obtain ⟨m, d, e2, hk3⟩ := vStr_true hk2
  obtain ⟨c1, hk4⟩ := chk_true hk3
  obtain ⟨c2, hk5⟩ := chk_true hk4
  obtain ⟨c3, hk6⟩ := chk_true hk5
  rw [Nat.blt_eq] at c1 c2
  subst e0 e1 e2
  cases hv with
  | cons h1 hv =>
    cases hv with
    | cons h2 hv =>
      cases hv with
      | nil =>
        cases h1 with
        | str hs =>
          cases h2 with
          | str ht =>
            rename_i s t
            have hk7 : strOf (g s.data.toList t.data.toList) (fun v => kr v h) = true := by rw [hs.dec, ht.dec]; exact hk6
            unfold strOf at hk7
            rw [forceN_eq, forceN_eq] at hk7
            exact ⟨_, _, hC s t w (by rw [hs.1]; exact c1) (by rw [ht.1]; exact c2) (ascii_true (by rw [ht.dec]; exact c3)), .str (IsStr.of_list _), hk7⟩
end
end Go.Abs

/-
  A verified evaluator: a call that has been run once is not run again: its result is laid in.
-/
namespace Go.Abs
set_option linter.unusedVariables false
noncomputable section
/-! ### the same value, but for the ids -/
mutual
def eqR (e : Nat → Nat → Bool) : AV → AV → Bool
  | .unk, _ => true
  | .nilm, .nilm => true
  | .mp i, .mp j => e i j
  | .nilf, .nilf => true
  | .fn f a b, .fn g c d => andB (eqFn f g) (andB (eqRs e a c) (eqRs e b d))
  | .tup a, .tup b => eqRs e a b
  | .nili, .nili => true
  | .iface t a, .iface u b => andB (Nat.beq t u) (eqR e a b)
  | .nilp, .nilp => true
  | .nils, .nils => true
  | .agg a, .agg b => eqRs e a b
  | .ptr a b c, .ptr d f g => andB (e a d) (andB (Nat.beq b f) (Nat.beq c g))
  | .sl a b c d k x, .sl f g h i j y => andB (e a f) (andB (Nat.beq b g) (andB (Nat.beq c h) (andB (Nat.beq d i) (andB (Nat.beq k j) (eqBool x y)))))
  | .str a b, .str c d => andB (Nat.beq a c) (Nat.beq b d)
  | .bool a, .bool b => eqBool a b
  | .int k a, .int j b => andB (isIntK k j) (eqInt a b)
  | _, _ => false
def eqRs (e : Nat → Nat → Bool) : List AV → List AV → Bool
  | [], [] => true
  | a :: l, b :: m => andB (eqR e a b) (eqRs e l m)
  | _, _ => false
end
section
variable {e : Nat → Nat → Bool} {φ φ0 : Phi} {ν : Nu}
mutual
theorem eqR_VR (he : ∀ i j, e i j = true → ∀ ver, φ0 i ver = φ j ver) : ∀ {a b : AV} {v : Value}, eqR e a b = true → VR φ ν b v → VR φ0 ν a v
  | .unk, b, v, h, hv => .unk v
  | .sym k s, b, v, h, hv => by cases b <;> simp [eqR] at h
  | .nilm, b, v, h, hv => by cases b <;> simp only [eqR] at h <;> first | (cases hv; exact .nilm) | cases h
  | .mp i, b, v, h, hv => by
    cases b <;> simp only [eqR] at h <;> first | (cases hv with | mp hp => exact .mp (by rw [he _ _ h]; exact hp)) | cases h
  | .nilf, b, v, h, hv => by cases b <;> simp only [eqR] at h <;> first | (cases hv; exact .nilf) | cases h
  | .fn f x y, b, v, h, hv => by
    cases b <;> simp only [eqR] at h <;> first
      | (obtain ⟨h1, h2⟩ := andB_true h; obtain ⟨h2, h3⟩ := andB_true h2; cases hv with | fn p q => rw [eqFn_true h1]; exact .fn (eqRs_VR he h2 p) (eqRs_VR he h3 q))
      | cases h
  | .tup x, b, v, h, hv => by
    cases b <;> simp only [eqR] at h <;> first | (cases hv with | tup p => exact .tup (eqRs_VR he h p)) | cases h
  | .nili, b, v, h, hv => by cases b <;> simp only [eqR] at h <;> first | (cases hv; exact .nili) | cases h
  | .iface t x, b, v, h, hv => by
    cases b <;> simp only [eqR] at h <;> first
      | (obtain ⟨h1, h2⟩ := andB_true h; cases hv with | iface p => rw [nbT h1]; exact .iface (eqR_VR he h2 p))
      | cases h
  | .nilp, b, v, h, hv => by cases b <;> simp only [eqR] at h <;> first | (cases hv; exact .nilp) | cases h
  | .nils, b, v, h, hv => by cases b <;> simp only [eqR] at h <;> first | (cases hv; exact .nils) | cases h
  | .agg x, b, v, h, hv => by
    cases b <;> simp only [eqR] at h <;> first | (cases hv with | agg p q => exact .agg (eqRs_VR he h p) q) | cases h
  | .ptr i j k, b, v, h, hv => by
    cases b <;> simp only [eqR] at h <;> first
      | (obtain ⟨h1, h2⟩ := andB_true h; obtain ⟨h2, h3⟩ := andB_true h2
         cases hv with | ptr hp => rw [nbT h2, nbT h3]; exact .ptr (by rw [he _ _ h1]; exact hp))
      | cases h
  | .sl i j k l m x, b, v, h, hv => by
    cases b <;> simp only [eqR] at h <;> first
      | (obtain ⟨h1, h2⟩ := andB_true h; obtain ⟨h2, h3⟩ := andB_true h2; obtain ⟨h3, h4⟩ := andB_true h3; obtain ⟨h4, h5⟩ := andB_true h4; obtain ⟨h5, h6⟩ := andB_true h5
         cases hv with
         | sl hp g1 g2 g3 g4 g5 =>
           rw [nbT h2, nbT h3, nbT h4, nbT h5, eqBool_true h6]
           exact .sl (by rw [he _ _ h1]; exact hp) g1 g2 g3 g4 g5)
      | cases h
  | .str i j, b, v, h, hv => by
    cases b <;> simp only [eqR] at h <;> first | (obtain ⟨h1, h2⟩ := andB_true h; cases hv with | str p => rw [nbT h1, nbT h2]; exact .str p) | cases h
  | .bool x, b, v, h, hv => by cases b <;> simp only [eqR] at h <;> first | (cases hv; rw [eqBool_true h]; exact .bool _) | cases h
  | .int k n, b, v, h, hv => by
    cases b <;> simp only [eqR] at h <;> first | (obtain ⟨h1, h2⟩ := andB_true h; cases hv; rw [isIntK_true h1, eqInt_true h2]; exact .int _ _) | cases h
theorem eqRs_VR (he : ∀ i j, e i j = true → ∀ ver, φ0 i ver = φ j ver) : ∀ {a b : List AV} {v : List Value}, eqRs e a b = true → VRs φ ν b v → VRs φ0 ν a v
  | [], b, v, h, hv => by cases b <;> simp only [eqRs] at h <;> first | (cases hv; exact .nil) | cases h
  | x :: l, b, v, h, hv => by
    cases b <;> simp only [eqRs] at h <;> first | (obtain ⟨h1, h2⟩ := andB_true h; cases hv with | cons p q => exact .cons (eqR_VR he h1 p) (eqRs_VR he h2 q)) | cases h
end
theorem eqRs_getD (he : ∀ i j, e i j = true → ∀ ver, φ0 i ver = φ j ver) : ∀ {a b : List AV}, eqRs e a b = true → ∀ (k : Nat) (v : Value), VR φ ν (b.getD k .unk) v → VR φ0 ν (a.getD k .unk) v
  | [], b, h, k, v, hv => by simp; exact .unk v
  | x :: l, b, h, k, v, hv => by
    cases b with
    | nil => simp [eqRs] at h
    | cons y m =>
      simp only [eqRs] at h
      obtain ⟨h1, h2⟩ := andB_true h
      cases k with
      | zero => simpa using eqR_VR he h1 (by simpa using hv)
      | succ k => simpa using eqRs_getD he h2 k v (by simpa using hv)
end
def eqRows (e : Nat → Nat → Bool) (rows rows' : RT (List AV) RD) (n : Nat) : Bool :=
  Nat.rec (motive := fun _ => Bool) true (fun i ih => RT.getK i rows fun l => RT.getK i rows' fun l' => andB (eqRs e l l') ih) n
theorem eqRows_true {e : Nat → Nat → Bool} {rows rows' : RT (List AV) RD} : ∀ {n : Nat}, eqRows e rows rows' n = true → ∀ i, i < n → ∃ l l', RT.get i rows = some l ∧ RT.get i rows' = some l' ∧ eqRs e l l' = true
  | 0, _, i, hi => by omega
  | n + 1, h, i, hi => by
    change RT.getK n rows (fun l => RT.getK n rows' fun l' => andB (eqRs e l l') (eqRows e rows rows' n)) = true at h
    obtain ⟨l, hl, h⟩ := RT.getK_true h
    obtain ⟨l', hl', h⟩ := RT.getK_true h
    obtain ⟨h1, h2⟩ := andB_true h
    rcases Nat.lt_or_ge i n with q | q
    · exact eqRows_true h2 i q
    · have : i = n := by omega
      subst this
      exact ⟨l, l', hl, hl', h1⟩
def eqMs (e : Nat → Nat → Bool) : List (AV × AV × Nat) → List (AV × AV × Nat) → Bool
  | [], [] => true
  | (a, b, n) :: l, (c, d, m) :: l' => andB (eqR e a c) (andB (eqR e b d) (andB (Nat.beq n m) (eqMs e l l')))
  | _, _ => false
theorem eqMs_MEs {e : Nat → Nat → Bool} {φ φ0 : Phi} {ν : Nu} (he : ∀ i j, e i j = true → ∀ ver, φ0 i ver = φ j ver) : ∀ {a b : List (AV × AV × Nat)} {m : List MapEntry}, eqMs e a b = true → MEs φ ν b m → MEs φ0 ν a m
  | [], b, m, h, hv => by
    cases b <;> simp only [eqMs] at h <;> first | (cases m <;> first | trivial | exact hv.elim) | cases h
  | (x, y, n) :: l, b, m, h, hv => by
    cases b with
    | nil => simp [eqMs] at h
    | cons q b =>
      obtain ⟨c, d, k⟩ := q
      simp only [eqMs] at h
      obtain ⟨h1, h2⟩ := andB_true h
      obtain ⟨h2, h3⟩ := andB_true h2
      obtain ⟨h3, h4⟩ := andB_true h3
      cases m with
      | nil => exact hv.elim
      | cons u m =>
        obtain ⟨g1, g2, g3, g4⟩ := hv
        exact ⟨eqR_VR he h1 g1, eqR_VR he h2 g2, by rw [g3, nbT h3], eqMs_MEs he h4 g4⟩
def eqAB (e : Nat → Nat → Bool) : AB → AB → Bool
  | .cells s n lw fz opn el rows, .cells s' n' lw' fz' opn' el' rows' =>
    andB (Nat.beq s s') (andB (Nat.beq n n') (andB (Nat.beq lw lw') (andB (Nat.beq fz fz') (andB (eqBool opn opn') (andB (Nat.beq el el') (eqRows e rows rows' (Nat.div (Nat.sub (Nat.add n s) 1) s)))))))
  | .mapo es c, .mapo es' c' => andB (Nat.beq c c') (eqMs e es es')
  | _, _ => false
theorem eqAB_BR {e : Nat → Nat → Bool} {φ φ0 : Phi} {ν : Nu} {w : World} (he : ∀ i j, e i j = true → ∀ ver, φ0 i ver = φ j ver) {i j : Nat} (hij : ∀ ver, φ0 i ver = φ j ver) {b b' : AB} (h : eqAB e b b' = true) (hb : BR φ ν w j b') : BR φ0 ν w i b := by
  cases b <;> cases b' <;> simp only [eqAB] at h <;> try (cases h; done)
  · rename_i s n lw fz opn el rows s' n' lw' fz' opn' el' rows'
    obtain ⟨h1, h⟩ := andB_true h
    obtain ⟨h2, h⟩ := andB_true h
    obtain ⟨h3, h⟩ := andB_true h
    obtain ⟨h4, h⟩ := andB_true h
    obtain ⟨h5, h⟩ := andB_true h
    obtain ⟨h6, hrow⟩ := andB_true h
    clear h
    have h1 := nbT h1; have h2 := nbT h2; have h3 := nbT h3; have h4 := nbT h4
    have h5 := eqBool_true h5; have h6 := nbT h6
    subst h1 h2 h3 h4 h5 h6
    obtain ⟨_, g1, g2, g3⟩ := hb
    refine ⟨trivial, g1, g2, fun ver p hp => ?_⟩
    obtain ⟨a1, a2, a3⟩ := g3 ver p (by rw [← hij]; exact hp)
    refine ⟨a1, a2, fun hl => ?_⟩
    obtain ⟨c, fr, e1, e2, e3, e4, e5, e6⟩ := a3 hl
    refine ⟨c, fr, e1, e2, e3, fun k hk => ?_, e5, e6⟩
    obtain ⟨v, v1, v2, v3⟩ := e4 k hk
    refine ⟨v, v1, v2, ?_⟩
    have hkn : k / s < (n + s - 1) / s := by
      rw [Nat.div_lt_iff_lt_mul g2]
      have h0 := Nat.div_add_mod (n + s - 1) s
      have h1 := Nat.mod_lt (n + s - 1) g2
      rw [Nat.mul_comm]
      omega
    obtain ⟨l, l', q1, q2, q3⟩ := eqRows_true hrow _ hkn
    unfold cellAt at v3 ⊢
    rw [q2] at v3
    rw [q1]
    exact eqRs_getD he q3 _ _ v3
  · rename_i es c es' c'
    obtain ⟨h1, h2⟩ := andB_true h
    have h1 := nbT h1
    subst h1
    obtain ⟨g0, p, hp, ms, hm, hes⟩ := hb
    exact ⟨fun ver q hq => g0 ver q (by rw [← hij]; exact hq), p, by rw [hij]; exact hp, ms, hm, eqMs_MEs he h2 hes⟩
/-! ### a trie cut off at a key -/
def T4.trunc {α : Type} : (d : Nat) → Nat → T4 α d → T4 α d
  | 0, i, t => if i = 0 then (none : Option α) else t
  | d + 1, i, t => (⟨if 0 < i / 4 ^ d then Q.a (α := T4 α d) t else if i / 4 ^ d = 0 then T4.trunc d (i % 4 ^ d) (Q.a (α := T4 α d) t) else T4.e d,
      if 1 < i / 4 ^ d then Q.b (α := T4 α d) t else if i / 4 ^ d = 1 then T4.trunc d (i % 4 ^ d) (Q.b (α := T4 α d) t) else T4.e d,
      if 2 < i / 4 ^ d then Q.c (α := T4 α d) t else if i / 4 ^ d = 2 then T4.trunc d (i % 4 ^ d) (Q.c (α := T4 α d) t) else T4.e d,
      if 3 < i / 4 ^ d then Q.d (α := T4 α d) t else if i / 4 ^ d = 3 then T4.trunc d (i % 4 ^ d) (Q.d (α := T4 α d) t) else T4.e d⟩ : Q (T4 α d))
theorem T4.get_trunc {α : Type} : ∀ (d i j : Nat), j < 4 ^ d → ∀ (t : T4 α d), T4.get d j (T4.trunc d i t) = if j < i then T4.get d j t else none
  | 0, i, j, hj, t => by
    have : j = 0 := by simp at hj; omega
    subst this
    show (if i = 0 then (none : Option α) else t) = if 0 < i then t else none
    by_cases h : i = 0
    · rw [if_pos h, if_neg (by omega)]
    · rw [if_neg h, if_pos (by omega)]
  | d + 1, i, j, hj, t => by
    have hq : ∀ k, k < 4 → Q.get (α := T4 α d) k (T4.trunc (d + 1) i t) = if k < i / 4 ^ d then Q.get (α := T4 α d) k t else if i / 4 ^ d = k then T4.trunc d (i % 4 ^ d) (Q.get (α := T4 α d) k t) else T4.e d := by
      intro k hk
      match k, hk with
      | 0, _ | 1, _ | 2, _ | 3, _ => rfl
    simp only [T4.get]
    rw [hq _ (div4_lt hj)]
    have hij : j < i ↔ j / 4 ^ d < i / 4 ^ d ∨ (i / 4 ^ d = j / 4 ^ d ∧ j % 4 ^ d < i % 4 ^ d) := by
      have h1 := Nat.div_add_mod i (4 ^ d)
      have h2 := Nat.div_add_mod j (4 ^ d)
      have h3 := mod4_lt d i
      have h4 := mod4_lt d j
      generalize i / 4 ^ d = a at *
      generalize j / 4 ^ d = b at *
      generalize 4 ^ d = m at *
      constructor
      · intro h
        rcases Nat.lt_trichotomy b a with q | q | q
        · exact .inl q
        · subst q; exact .inr ⟨rfl, by omega⟩
        · have : m * (a + 1) ≤ m * b := Nat.mul_le_mul_left m q
          rw [Nat.mul_add, Nat.mul_one] at this
          omega
      · rintro (q | ⟨q1, q2⟩)
        · have : m * (b + 1) ≤ m * a := Nat.mul_le_mul_left m q
          rw [Nat.mul_add, Nat.mul_one] at this
          omega
        · subst q1; omega
    by_cases h1 : j / 4 ^ d < i / 4 ^ d
    · rw [if_pos h1, if_pos (hij.2 (.inl h1))]
    · rw [if_neg h1]
      by_cases h2 : i / 4 ^ d = j / 4 ^ d
      · rw [if_pos h2, T4.get_trunc d _ _ (mod4_lt d j)]
        by_cases h3 : j % 4 ^ d < i % 4 ^ d
        · rw [if_pos h3, if_pos (hij.2 (.inr ⟨h2, h3⟩))]
        · rw [if_neg h3, if_neg (fun q => (hij.1 q).elim h1 fun q => h3 q.2)]
      · rw [if_neg h2, if_neg (fun q => (hij.1 q).elim h1 fun q => h2 q.1), T4.get_e]
def T4.truncK {α : Type} (d : Nat) : Nat → T4 α d → (T4 α d → Bool) → Bool :=
  Nat.rec (motive := fun d => Nat → T4 α d → (T4 α d → Bool) → Bool) (fun i t k => Nat.rec (motive := fun _ => Bool) (k (none : Option α)) (fun _ _ => k t) i)
    (fun n ih i t k => Q.rec (motive := fun _ => Bool) (fun a b c d => sel (Nat.div i (Nat.pow (nat_lit 4) n)) (ih (Nat.mod i (Nat.pow (nat_lit 4) n)) a fun y => k (⟨y, T4.e n, T4.e n, T4.e n⟩ : Q (T4 α n))) (ih (Nat.mod i (Nat.pow (nat_lit 4) n)) b fun y => k (⟨a, y, T4.e n, T4.e n⟩ : Q (T4 α n)))
      (ih (Nat.mod i (Nat.pow (nat_lit 4) n)) c fun y => k (⟨a, b, y, T4.e n⟩ : Q (T4 α n))) (ih (Nat.mod i (Nat.pow (nat_lit 4) n)) d fun y => k (⟨a, b, c, y⟩ : Q (T4 α n)))) (show Q (T4 α n) from t)) d
theorem T4.truncK_eq {α : Type} : ∀ (d i : Nat) (t : T4 α d) (k : T4 α d → Bool), i < 4 ^ d → T4.truncK d i t k = k (T4.trunc d i t)
  | 0, i, t, k, hi => by
    have : i = 0 := by simp at hi; omega
    subst this; rfl
  | d + 1, i, t, k, hi => by
    have hk := fun (t : T4 α d) (k : T4 α d → Bool) => T4.truncK_eq d (i % 4 ^ d) t k (mod4_lt d i)
    have hd := div4_lt hi
    obtain ⟨a, b, c, g⟩ := (show Q (T4 α d) from t)
    show sel (i / 4 ^ d) (T4.truncK d (i % 4 ^ d) a fun y => k (⟨y, T4.e d, T4.e d, T4.e d⟩ : Q (T4 α d))) (T4.truncK d (i % 4 ^ d) b fun y => k (⟨a, y, T4.e d, T4.e d⟩ : Q (T4 α d))) (T4.truncK d (i % 4 ^ d) c fun y => k (⟨a, b, y, T4.e d⟩ : Q (T4 α d))) (T4.truncK d (i % 4 ^ d) g fun y => k (⟨a, b, c, y⟩ : Q (T4 α d))) =
      k (⟨if 0 < i / 4 ^ d then a else if i / 4 ^ d = 0 then T4.trunc d (i % 4 ^ d) a else T4.e d, if 1 < i / 4 ^ d then b else if i / 4 ^ d = 1 then T4.trunc d (i % 4 ^ d) b else T4.e d,
        if 2 < i / 4 ^ d then c else if i / 4 ^ d = 2 then T4.trunc d (i % 4 ^ d) c else T4.e d, if 3 < i / 4 ^ d then g else if i / 4 ^ d = 3 then T4.trunc d (i % 4 ^ d) g else T4.e d⟩ : Q (T4 α d))
    rw [sel_eq]; simp only [hk]
    generalize i / 4 ^ d = q at hd ⊢
    match q, hd with
    | 0, _ | 1, _ | 2, _ | 3, _ => rfl
end
end Go.Abs

/-
  A verified evaluator: what a call of a function comes to, kept.
-/
namespace Go.Abs
set_option linter.unusedVariables false
noncomputable section
structure Memo where
  args : List AV
  ins : List AB
  src : List (Nat × Nat)
  c : Nat
  n : Nat
  res : AV
  sub : T4 AB 5
def insHeap (lim : Nat) : List AB → T4 AB HD → T4 AB HD
  | [], t => t
  | b :: l, t => insHeap (Nat.succ lim) l (T4.set HD lim b t)
theorem insHeap_get : ∀ {l : List AB} {lim : Nat} {t : T4 AB HD} {id : Nat}, lim + l.length ≤ 4 ^ HD → id < 4 ^ HD → T4.get HD id (insHeap lim l t) = if lim ≤ id ∧ id < lim + l.length then l[id - lim]? else T4.get HD id t
  | [], lim, t, id, _, _ => by
    rw [if_neg (by simp only [List.length_nil]; omega)]; rfl
  | b :: l, lim, t, id, h, hi => by
    show T4.get HD id (insHeap (lim + 1) l (T4.set HD lim b t)) = _
    simp only [List.length_cons] at h ⊢
    rw [insHeap_get (by omega) hi, T4.get_set HD lim id (by omega) hi]
    by_cases h1 : lim = id
    · subst h1
      rw [if_neg (by omega), if_pos rfl, if_pos (by omega)]
      simp
    · rw [if_neg h1]
      by_cases h2 : lim + 1 ≤ id ∧ id < lim + 1 + l.length
      · rw [if_pos h2, if_pos (by omega), show id - lim = (id - (lim + 1)) + 1 by omega, List.getElem?_cons_succ]
      · rw [if_neg h2, if_neg (by omega)]
def Memo.h0 (m : Memo) (gs : List Gl) (lim : Nat) : H := ⟨[], ⟨lim + m.ins.length, []⟩, m.c * 1024, insHeap lim m.ins (glHeap gs)⟩
def relIn (lim : Nat) (ρ : List Nat) (i j : Nat) : Bool := bif Nat.ble lim i then Option.rec (motive := fun _ => Bool) false (fun k => Nat.beq k j) (nthO ρ (Nat.sub i lim)) else false
def relNew (B i j : Nat) : Bool := bif Nat.ble B i then Nat.beq i j else false
theorem relIn_true {lim : Nat} {ρ : List Nat} {i j : Nat} (h : relIn lim ρ i j = true) : lim ≤ i ∧ ρ[i - lim]? = some j := by
  unfold relIn at h
  cases hb : Nat.ble lim i with
  | false => rw [hb] at h; cases h
  | true =>
    rw [hb, cond_true] at h
    refine ⟨nlT hb, ?_⟩
    rw [nthO_eq] at h
    have h : Option.rec (motive := fun _ => Bool) false (fun k => Nat.beq k j) (ρ[i - lim]?) = true := h
    cases hq : ρ[i - lim]? with
    | none => rw [hq] at h; cases h
    | some k => rw [hq] at h; rw [nbT h]
theorem relNew_true {B i j : Nat} (h : relNew B i j = true) : B ≤ i ∧ i = j := by
  unfold relNew at h
  cases hb : Nat.ble B i with
  | false => rw [hb] at h; cases h
  | true => rw [hb, cond_true] at h; exact ⟨nlT hb, nbT h⟩
def insB (lim : Nat) (ρ : List Nat) (h : H) : List AB → List Nat → Bool
  | [], [] => true
  | b :: l, j :: q => bif Nat.ble h.ro.lim j then bif Nat.blt j h.next then T4.getK HD j h.bl fun b' => andB (eqAB (relIn lim ρ) b b') (insB lim ρ h l q) else false else false
  | _, _ => false
theorem insB_true {lim : Nat} {ρ : List Nat} {h : H} : ∀ {l : List AB} {q : List Nat}, insB lim ρ h l q = true → l.length = q.length ∧ ∀ (i : Nat) (b : AB), l[i]? = some b → ∃ (j : Nat) (b' : AB), q[i]? = some j ∧ h.ro.lim ≤ j ∧ j < h.next ∧ T4.get HD j h.bl = some b' ∧ eqAB (relIn lim ρ) b b' = true
  | [], [], _ => ⟨rfl, fun i b h => by simp at h⟩
  | b :: l, j :: q, hh => by
    unfold insB at hh
    cases h1 : Nat.ble h.ro.lim j with
    | false => rw [h1] at hh; cases hh
    | true =>
      rw [h1, cond_true] at hh
      cases h2 : Nat.blt j h.next with
      | false => rw [h2] at hh; cases hh
      | true =>
        rw [h2, cond_true] at hh
        obtain ⟨b', g1, hh⟩ := T4.getK_true _ _ _ _ hh
        obtain ⟨g2, g3⟩ := andB_true hh
        obtain ⟨r1, r2⟩ := insB_true g3
        refine ⟨by simp [r1], fun i x hx => ?_⟩
        cases i with
        | zero => simp at hx; subst hx; exact ⟨j, b', rfl, nlT h1, by simpa [Nat.blt_eq] using h2, g1, g2⟩
        | succ i => simpa using r2 i x (by simpa using hx)
  | [], _ :: _, hh => by cases hh
  | _ :: _, [], hh => by cases hh
def nodupB : List Nat → Bool
  | [] => true
  | x :: l => bif List.any l (Nat.beq x) then false else nodupB l
theorem nodupB_true : ∀ {l : List Nat}, nodupB l = true → l.Nodup
  | [], _ => List.nodup_nil
  | x :: l, h => by
    unfold nodupB at h
    cases hb : l.any (Nat.beq x) with
    | true => rw [hb] at h; cases h
    | false =>
      rw [hb, cond_false] at h
      refine List.nodup_cons.2 ⟨fun hx => ?_, nodupB_true h⟩
      have : l.any (Nat.beq x) = true := List.any_eq_true.2 ⟨x, hx, Nat.beq_refl x⟩
      rw [hb] at this; cases this
def T4.getV {α : Type} (d : Nat) : Nat → T4 α d → Option α :=
  Nat.rec (motive := fun d => Nat → T4 α d → Option α) (fun _ t => t)
    (fun n ih i t => ih (Nat.mod i (Nat.pow (nat_lit 4) n)) (sel (Nat.div i (Nat.pow (nat_lit 4) n)) (Q.a (α := T4 α n) t) (Q.b (α := T4 α n) t) (Q.c (α := T4 α n) t) (Q.d (α := T4 α n) t))) d
theorem T4.getV_eq {α : Type} : ∀ (d i : Nat) (t : T4 α d), T4.getV d i t = T4.get d i t
  | 0, _, _ => rfl
  | d + 1, i, t => by
    show T4.getV d (i % 4 ^ d) (sel (i / 4 ^ d) (Q.a (α := T4 α d) t) (Q.b (α := T4 α d) t) (Q.c (α := T4 α d) t) (Q.d (α := T4 α d) t)) = _
    rw [sel_get (α := T4 α d)]
    exact T4.getV_eq d _ _
def outsB (e : Nat → Nat → Bool) (B : Nat) (sub : T4 AB 5) (bl : T4 AB HD) (n : Nat) : Bool :=
  Nat.rec (motive := fun _ => Bool) true (fun i ih => Option.rec (motive := fun _ => Bool) ih (fun b => T4.getK HD (Nat.add B i) bl fun b' => andB (eqAB e b b') ih) (T4.getV 5 i sub)) n
theorem outsB_true {e : Nat → Nat → Bool} {B : Nat} {sub : T4 AB 5} {bl : T4 AB HD} : ∀ {n : Nat}, outsB e B sub bl n = true → ∀ i, i < n → ∀ b, T4.get 5 i sub = some b → ∃ b', T4.get HD (B + i) bl = some b' ∧ eqAB e b b' = true
  | 0, _, i, hi, b, hb => by omega
  | n + 1, h, i, hi, b, hb => by
    change Option.rec (motive := fun _ => Bool) (outsB e B sub bl n) (fun b => T4.getK HD (B + n) bl fun b' => andB (eqAB e b b') (outsB e B sub bl n)) (T4.getV 5 n sub) = true at h
    rw [T4.getV_eq] at h
    rcases Nat.lt_or_ge i n with q | q
    · refine outsB_true ?_ i q b hb
      cases hq : T4.get 5 n sub with
      | none => rw [hq] at h; exact h
      | some b0 =>
        rw [hq] at h
        obtain ⟨b', _, h⟩ := T4.getK_true _ _ _ _ h
        exact (andB_true h).2
    · have : i = n := by omega
      subst this
      rw [hb] at h
      obtain ⟨b', g1, h⟩ := T4.getK_true _ _ _ _ h
      exact ⟨b', g1, (andB_true h).1⟩
def memoK (m : Memo) (av : AV) (h : H) : Bool :=
  bif Nat.beq h.next (Nat.add (Nat.mul m.c 1024) m.n) then andB (eqR (relNew (Nat.mul m.c 1024)) m.res av) (outsB (relNew (Nat.mul m.c 1024)) (Nat.mul m.c 1024) m.sub h.bl m.n) else false
/-! ### where the arguments' blocks are -/
def flatA (l : List AV) : List AV := List.rec (motive := fun _ => List AV) [] (fun a _ ih =>
  AV.rec (motive_1 := fun _ => List AV) (motive_2 := fun _ => List AV) (a :: ih) (fun _ _ => a :: ih) (a :: ih) (fun _ => a :: ih) (a :: ih) (fun _ _ _ _ _ => a :: ih) (fun _ _ => a :: ih) (a :: ih) (fun _ _ _ => a :: ih) (a :: ih) (a :: ih)
    (fun cs _ => cs ++ ih) (fun _ _ _ => a :: ih) (fun _ _ _ _ _ _ => a :: ih) (fun _ _ => a :: ih) (fun _ => a :: ih) (fun _ _ => a :: ih) [] (fun _ _ _ _ => []) a) l
def idOf (v : AV) (no : Bool) (k : Nat → Bool) : Bool :=
  AV.rec (motive_1 := fun _ => Bool) (motive_2 := fun _ => Bool) no (fun _ _ => no) no k no (fun _ _ _ _ _ => no) (fun _ _ => no) no (fun _ _ ih => ih) no no
    (fun _ _ => no) (fun id _ _ => k id) (fun id _ _ _ _ _ => k id) (fun _ _ => no) (fun _ => no) (fun _ _ => no) no (fun _ _ _ _ => no) v
def cellV (b : AB) (j : Nat) : Option AV := AB.rec (motive := fun _ => Option AV)
  (fun s _ _ _ _ _ rows => Option.rec (motive := fun _ => Option AV) none (fun l => nthO l (Nat.mod j s)) (Nat.rec (motive := fun _ => Option (List AV)) rows.r0 (fun _ _ => T4.getV RD (Nat.div j s) rows.rest) (Nat.div j s))) (fun _ _ => none) (fun _ _ _ => none) (fun _ => none) b
def rhoK (args : List AV) (h : H) (no : Bool) (src : List (Nat × Nat)) : List Nat → (List Nat → Bool) → Bool :=
  List.rec (motive := fun _ => List Nat → (List Nat → Bool) → Bool) (fun ρ k => k ρ)
    (fun p _ ih ρ k => Option.rec (motive := fun _ => Bool) no (fun v => idOf v no fun id => ih (ρ ++ [id]) k)
      (Nat.rec (motive := fun _ => Option AV) (nthO args p.2) (fun i _ => Option.rec (motive := fun _ => Option AV) none (fun id => Option.rec (motive := fun _ => Option AV) none (fun b => cellV b p.2) (T4.getV HD id h.bl)) (nthO ρ i)) p.1)) src
theorem idOf_true {v : AV} {no : Bool} {k : Nat → Bool} (h : idOf v no k = true) : no = true ∨ ∃ id, k id = true := by
  match v, h with
  | .unk, h => exact .inl h
  | .sym _ _, h => exact .inl h
  | .nilm, h => exact .inl h
  | .mp _, h => exact .inr ⟨_, h⟩
  | .nilf, h => exact .inl h
  | .fn _ _ _, h => exact .inl h
  | .tup _, h => exact .inl h
  | .nili, h => exact .inl h
  | .iface _ v, h => exact idOf_true (v := v) h
  | .nilp, h => exact .inl h
  | .nils, h => exact .inl h
  | .agg _, h => exact .inl h
  | .ptr _ _ _, h => exact .inr ⟨_, h⟩
  | .sl _ _ _ _ _ _, h => exact .inr ⟨_, h⟩
  | .str _ _, h => exact .inl h
  | .bool _, h => exact .inl h
  | .int _ _, h => exact .inl h
theorem rhoK_true {args : List AV} {h : H} {no : Bool} : ∀ {src : List (Nat × Nat)} {ρ : List Nat} {k : List Nat → Bool}, rhoK args h no src ρ k = true → no = true ∨ ∃ ρ, k ρ = true
  | [], ρ, k, hh => .inr ⟨ρ, hh⟩
  | p :: l, ρ, k, hh => by
    change Option.rec (motive := fun _ => Bool) no (fun v => idOf v no fun id => rhoK args h no l (ρ ++ [id]) k) (Nat.rec (motive := fun _ => Option AV) (nthO args p.2) (fun i _ => Option.rec (motive := fun _ => Option AV) none (fun id => Option.rec (motive := fun _ => Option AV) none (fun b => cellV b p.2) (T4.getV HD id h.bl)) (nthO ρ i)) p.1) = true at hh
    revert hh
    generalize (Nat.rec (motive := fun _ => Option AV) (nthO args p.2) (fun i _ => Option.rec (motive := fun _ => Option AV) none (fun id => Option.rec (motive := fun _ => Option AV) none (fun b => cellV b p.2) (T4.getV HD id h.bl)) (nthO ρ i)) p.1) = o
    intro hh
    cases o with
    | none => exact .inl hh
    | some v =>
      rcases idOf_true hh with hh | ⟨id, hh⟩
      · exact .inl hh
      · exact rhoK_true hh
def memoD (m : Memo) (lim : Nat) (next : FnD) : FnD := fun cf args h kr kp =>
  (fun no => bif Nat.ble h.next (Nat.mul m.c 1024) then rhoK (flatA args) h no m.src [] fun ρ =>
    Bool.rec (motive := fun _ => Bool) no (T4.truncK HD h.next h.bl fun bl => T4.graftK 5 4 m.c m.sub bl fun bl => kr m.res ⟨h.ds, h.ro, Nat.add (Nat.mul m.c 1024) m.n, bl⟩)
      (andB (nodupB ρ) (andB (eqRs (relIn lim ρ) m.args args) (insB lim ρ h m.ins ρ))) else no) (next cf args h kr kp)
theorem FnGood.memo {P : Program} {ν : Nu} {t : T4 FnD TD} (ht : TblOk P ν t) {n f : Nat} {gs : List Gl} {lim : Nat} (m : Memo) (hrun : runF t n f m.args (m.h0 gs lim) (memoK m) (fun _ _ => false) = true)
    (h0G : ∀ w : World, (∀ b o, (b, o) ∈ ν.G → w.heap[b]? = some o) → HR (phiOf gs) ν (h0Of gs lim) w) (hgG : ∀ id ver p, phiOf gs id ver = some p → ∃ o, (p.blk, o) ∈ ν.G)
    (hs1 : lim + m.ins.length ≤ m.c * 1024) (hs2 : m.c < 256) (hs3 : m.n ≤ 1024) {next : FnD} (hnext : FnGood P ν f next) : FnGood P ν f (memoD m lim next) := by
  intro cf hcf args h kr kp hk φ w vs hr hv
  have hk' : (bif Nat.ble h.next (m.c * 1024) then rhoK (flatA args) h (next cf args h kr kp) m.src [] fun ρ =>
    Bool.rec (motive := fun _ => Bool) (next cf args h kr kp) (T4.truncK HD h.next h.bl fun bl => T4.graftK 5 4 m.c m.sub bl fun bl => kr m.res ⟨h.ds, h.ro, m.c * 1024 + m.n, bl⟩)
      (andB (nodupB ρ) (andB (eqRs (relIn lim ρ) m.args args) (insB lim ρ h m.ins ρ))) else next cf args h kr kp) = true := hk
  cases hB : Nat.ble h.next (m.c * 1024) with
  | false => rw [hB] at hk'; exact hnext cf hcf args h kr kp hk' φ w vs hr hv
  | true =>
    rw [hB, cond_true] at hk'
    have hB := nlT hB
    rcases rhoK_true hk' with hk' | ⟨ρ, hk'⟩
    · exact hnext cf hcf args h kr kp hk' φ w vs hr hv
    cases hm : andB (nodupB ρ) (andB (eqRs (relIn lim ρ) m.args args) (insB lim ρ h m.ins ρ)) with
    | false => rw [hm] at hk'; exact hnext cf hcf args h kr kp hk' φ w vs hr hv
    | true =>
      rw [hm] at hk'
      obtain ⟨m1, m2⟩ := andB_true hm
      obtain ⟨m2, m3⟩ := andB_true m2
      have m1 := nodupB_true m1
      obtain ⟨m3, m4⟩ := insB_true m3
      obtain ⟨B, hB0⟩ : ∃ B, B = m.c * 1024 := ⟨_, rfl⟩
      have eB : Nat.mul m.c 1024 = B := hB0.symm
      have h8 : (4 : Nat) ^ HD = 262144 := by decide
      have hBn : B + m.n ≤ 4 ^ HD := Nat.le_trans (show B + m.n ≤ 262144 by omega) (Nat.le_of_eq h8.symm)
      have hB8 : B ≤ 4 ^ HD := Nat.le_trans (Nat.le_add_right _ _) hBn
      rw [← hB0] at hB hs1 hk'
      have hnx0 : (m.h0 gs lim).next = B := hB0.symm
      -- the frame of the kept call
      have hh0 := h0G w fun b o hbo => (hr.gl b o hbo).1
      let φ0 : Phi := fun id ver => if id < lim then phiOf gs id ver else match ρ[id - lim]? with | some j => φ j ver | none => none
      have p0lt : ∀ {id ver}, id < lim → φ0 id ver = phiOf gs id ver := fun h => if_pos h
      have p0ge : ∀ {id ver}, lim ≤ id → φ0 id ver = match ρ[id - lim]? with | some j => φ j ver | none => none := fun h => if_neg (by omega)
      have p0in : ∀ i j, relIn lim ρ i j = true → ∀ ver, φ0 i ver = φ j ver := fun i j hij ver => by
        obtain ⟨g1, g2⟩ := relIn_true hij
        rw [p0ge g1, g2]
      have hpl : ∀ id ver p, phiOf gs id ver = some p → id < lim := fun id ver p h => (hh0.dom id ver p h).1
      have p0some : ∀ {id ver p}, φ0 id ver = some p → (id < lim ∧ phiOf gs id ver = some p) ∨ (lim ≤ id ∧ id < lim + m.ins.length ∧ ∃ j, ρ[id - lim]? = some j ∧ φ j ver = some p) := by
        intro id ver p hp
        by_cases hl : id < lim
        · rw [p0lt hl] at hp; exact .inl ⟨hl, hp⟩
        · rw [p0ge (by omega)] at hp
          cases hq : ρ[id - lim]? with
          | none => rw [hq] at hp; cases hp
          | some j =>
            rw [hq] at hp
            have := (List.getElem?_eq_some_iff.1 hq).1
            exact .inr ⟨by omega, by omega, j, rfl, hp⟩
      have hin : HR φ0 ν (m.h0 gs lim) w := by
        refine ⟨?_, ?_, ?_, ?_, ?_, ?_, ?_, trivial⟩
        · intro id ver p hp
          rcases p0some hp with ⟨g1, g2⟩ | ⟨g1, g2, j, g3, g4⟩
          · exact ⟨by rw [hnx0]; exact Nat.lt_of_lt_of_le g1 (Nat.le_trans (Nat.le_add_right _ _) hs1), (hh0.dom _ _ _ g2).2⟩
          · exact ⟨by rw [hnx0]; exact Nat.lt_of_lt_of_le g2 hs1, (hr.dom _ _ _ g4).2⟩
        · intro id ver p id' ver' p' hp hp' he
          have hmix : ∀ {id ver p j ver' p'}, phiOf gs id ver = some p → φ j ver' = some p' → p.blk = p'.blk → (∃ i : Nat, ρ[i]? = some j) → False := by
            intro id ver p j ver' p' g1 g2 ge ⟨i, hi⟩
            obtain ⟨o, ho⟩ := hgG _ _ _ g1
            have h1 := (hr.gl _ _ ho).2 j ver' p' g2 ge.symm
            have hlt := (List.getElem?_eq_some_iff.1 hi).1
            obtain ⟨b, hb⟩ : ∃ b, m.ins[i]? = some b := ⟨m.ins[i]'(by omega), List.getElem?_eq_getElem _⟩
            obtain ⟨j', b', q1, q2, _⟩ := m4 i b hb
            rw [hi] at q1; cases q1
            omega
          rcases p0some hp with ⟨g1, g2⟩ | ⟨g1, g2, j, g3, g4⟩ <;> rcases p0some hp' with ⟨g1', g2'⟩ | ⟨g1', g2', j', g3', g4'⟩
          · exact hh0.inj _ _ _ _ _ _ g2 g2' he
          · exact (hmix g2 g4' he ⟨_, g3'⟩).elim
          · exact (hmix g2' g4 he.symm ⟨_, g3⟩).elim
          · have := hr.inj _ _ _ _ _ _ g4 g4' he
            subst this
            have h1 := (List.getElem?_eq_some_iff.1 g3).1
            have h2 := (List.getElem?_eq_some_iff.1 g3').1
            have : id - lim = id' - lim := (List.getElem_inj (h₀ := h1) (h₁ := h2) m1).1 (by rw [(List.getElem?_eq_some_iff.1 g3).2, (List.getElem?_eq_some_iff.1 g3').2])
            omega
        · intro id b hid hb
          rw [hnx0] at hid
          have hid8 : id < 4 ^ HD := Nat.lt_of_lt_of_le hid hB8
          have hb : T4.get HD id (insHeap lim m.ins (glHeap gs)) = some b := hb
          rw [insHeap_get (Nat.le_trans hs1 hB8) hid8] at hb
          by_cases hq : lim ≤ id ∧ id < lim + m.ins.length
          · rw [if_pos hq] at hb
            obtain ⟨j, b', q1, q2, q3, q4, q5⟩ := m4 _ _ hb
            refine eqAB_BR (φ := φ) (j := j) p0in (fun ver => ?_) q5 (hr.bl j b' q3 q4)
            rw [p0ge hq.1, q1]
          · rw [if_neg hq] at hb
            by_cases hl : id < lim
            · refine BR.keep (φ := phiOf gs) (w := w) (fun i v p hp => by rw [p0lt (hpl _ _ _ hp)]; exact hp) (fun v p hp => by rw [p0lt hl] at hp; exact hp) (fun v p hp => rfl) (hh0.bl id b hl hb)
            · exfalso
              have hgl : ∀ q ∈ gs, q.g < lim := fun q hq => by
                have hf : ∃ q', gs.find? (fun r => Nat.beq r.g q.g && Nat.beq r.l.length q.l.length) = some q' := by
                  rw [← Option.isSome_iff_exists, List.find?_isSome]
                  exact ⟨q, hq, by simp⟩
                obtain ⟨q', hq'⟩ := hf
                exact hpl q.g q.l.length ⟨q'.g, q'.l.length, q'.l.length, 0⟩ (by unfold phiOf; rw [hq'])
              obtain ⟨q, hq1, hq2, _⟩ := glHeap_get (fun q hq => Nat.lt_of_lt_of_le (hgl q hq) hh0.lim) hid8 hb
              exact hl (hq2 ▸ hgl q hq1)
        · rw [hnx0]; exact hB8
        · rw [hnx0]; exact hs1
        · intro g hg
          obtain ⟨p, g1, g2⟩ := hh0.gp g hg
          exact ⟨p, by rw [p0lt (hpl _ _ _ g1)]; exact g1, g2⟩
        · intro b o hbo
          refine ⟨(hr.gl b o hbo).1, fun id ver p hp _ => ?_⟩
          show id < lim + m.ins.length
          rcases p0some hp with ⟨g1, g2⟩ | ⟨g1, g2, _⟩
          · omega
          · exact g2
      have hro : (m.h0 gs lim).ro.lim = lim + m.ins.length := rfl
      have hc := runF_ok ht n f m.args (m.h0 gs lim) (memoK m) (fun _ _ => false) hrun φ0 w vs hin (eqRs_VR p0in m2 hv)
      have hpost : ∀ e w', FPost φ0 ν (m.h0 gs lim).ro w (m.h0 gs lim).ds (memoK m) (fun _ _ => false) e w' → FPost φ ν h.ro w h.ds kr kp e w' := by
        intro e w' hp
        cases e with
        | returned v =>
          obtain ⟨φ', av, h', hvr, hr', hx, hro', _, hav⟩ := hp
          unfold memoK at hav
          rw [eB] at hav
          cases hnx : Nat.beq h'.next (Nat.add B m.n) with
          | false => rw [hnx] at hav; cases hav
          | true =>
            rw [hnx, cond_true] at hav
            have hnx : h'.next = B + m.n := nbT hnx
            obtain ⟨a1, a2⟩ := andB_true hav
            have a2 := outsB_true a2
            have hnone : ∀ id ver, B ≤ id → φ0 id ver = none := by
              intro id ver hid
              cases hq : φ0 id ver with
              | none => rfl
              | some p =>
                rcases p0some hq with ⟨g1, _⟩ | ⟨_, g2, _⟩ <;> omega
            have hfresh : ∀ id ver p, B ≤ id → φ' id ver = some p → w.heap.size ≤ p.blk := by
              intro id ver p hid hp
              rcases hx.img id ver p hp with ⟨v0, q0, g1, _⟩ | g
              · rw [hnone id v0 hid] at g1; cases g1
              · exact g
            let φ2 : Phi := fun id ver => if id < B then φ id ver else φ' id ver
            have q2lt : ∀ {id ver}, id < B → φ2 id ver = φ id ver := fun h => if_pos h
            have q2ge : ∀ {id ver}, B ≤ id → φ2 id ver = φ' id ver := fun h => if_neg (by omega)
            have q2new : ∀ i j, relNew (B) i j = true → ∀ ver, φ2 i ver = φ' j ver := fun i j hij ver => by
              obtain ⟨g1, g2⟩ := relNew_true hij
              rw [q2ge g1, g2]
            have hle : φ.le φ2 := fun i v p hp => by
              rw [q2lt (Nat.lt_of_lt_of_le (hr.dom _ _ _ hp).1 hB)]; exact hp
            have hsame : ∀ b, b < w.heap.size → w'.heap[b]? = w.heap[b]? := fun b hb => hx.same b hb fun id ver p hp hl => by
              rw [hro] at hl
              rcases p0some hp with ⟨g1, _⟩ | ⟨_, g2, _⟩ <;> omega
            have hnl : h.next < 4 ^ HD ∨ h.next = 4 ^ HD := by have := hr.lim; omega
            have hn8 : h.next < 4 ^ HD := Nat.lt_of_le_of_lt hB (Nat.lt_of_lt_of_le (show B < 262144 by omega) (Nat.le_of_eq h8.symm))
            simp only [T4.truncK_eq _ _ _ _ hn8, T4.graftK_eq] at hk'
            · refine ⟨φ2, m.res, ⟨h.ds, h.ro, B + m.n, T4.graft 5 4 m.c m.sub (T4.trunc HD h.next h.bl)⟩, eqR_VR q2new a1 hvr, ?_, ?_, rfl, rfl, hk'⟩
              · refine ⟨?_, ?_, ?_, hBn, ?_, hr.gp.mono hle, ?_, ?_⟩
                · intro id ver p hp
                  by_cases hl : id < B
                  · rw [q2lt hl] at hp
                    obtain ⟨g1, g2⟩ := hr.dom _ _ _ hp
                    exact ⟨Nat.lt_of_lt_of_le hl (Nat.le_add_right _ _), Nat.lt_of_lt_of_le g2 hx.size⟩
                  · rw [q2ge (by omega)] at hp
                    obtain ⟨g1, g2⟩ := hr'.dom _ _ _ hp
                    exact ⟨by rw [hnx] at g1; exact g1, g2⟩
                · intro id ver p id' ver' p' hp hp' he
                  by_cases hl : id < B <;> by_cases hl' : id' < B
                  · rw [q2lt hl] at hp; rw [q2lt hl'] at hp'; exact hr.inj _ _ _ _ _ _ hp hp' he
                  · rw [q2lt hl] at hp; rw [q2ge (by omega)] at hp'
                    have g1 := (hr.dom _ _ _ hp).2
                    have g2 := hfresh _ _ _ (by omega) hp'
                    omega
                  · rw [q2ge (by omega)] at hp; rw [q2lt hl'] at hp'
                    have g1 := (hr.dom _ _ _ hp').2
                    have g2 := hfresh _ _ _ (by omega) hp
                    omega
                  · rw [q2ge (by omega)] at hp hp'; exact hr'.inj _ _ _ _ _ _ hp hp' he
                · intro id b hid hb
                  have hid : id < B + m.n := hid
                  have hid8 : id < 4 ^ HD := Nat.lt_of_lt_of_le hid hBn
                  have hb : T4.get (5 + 4) id (T4.graft 5 4 m.c m.sub (T4.trunc HD h.next h.bl)) = some b := hb
                  rw [T4.get_graft 5 4 m.c id (by omega) hid8] at hb
                  have h1024 : (4 : Nat) ^ 5 = 1024 := by decide
                  rw [h1024] at hb
                  by_cases hq : id / 1024 = m.c
                  · rw [if_pos hq] at hb
                    have hge : B ≤ id := by omega
                    obtain ⟨b', r1, r2⟩ := a2 (id % 1024) (by omega) b hb
                    have e1 : B + id % 1024 = id := by omega
                    rw [e1] at r1
                    exact eqAB_BR (φ := φ') (j := id) q2new (fun ver => q2ge hge) r2 (hr'.bl id b' (by rw [hnx]; exact hid) r1)
                  · rw [if_neg hq] at hb
                    have hlt : id < B := by omega
                    have hb : T4.get HD id (T4.trunc HD h.next h.bl) = some b := hb
                    rw [T4.get_trunc _ _ _ hid8] at hb
                    by_cases hn : id < h.next
                    · rw [if_pos hn] at hb
                      exact BR.keep hle (fun v p hp => by rw [q2lt hlt] at hp; exact hp) (fun v p hp => hsame _ (hr.dom _ _ _ hp).2) (hr.bl id b hn hb)
                    · rw [if_neg hn] at hb; cases hb
                · show h.ro.lim ≤ B + m.n
                  have := hr.ro
                  omega
                · intro b o hbo
                  obtain ⟨g1, g2⟩ := hr.gl b o hbo
                  refine ⟨(hr'.gl b o hbo).1, fun id ver p hp he => ?_⟩
                  show id < h.ro.lim
                  by_cases hl : id < B
                  · rw [q2lt hl] at hp; exact g2 id ver p hp he
                  · rw [q2ge (by omega)] at hp
                    have g3 := hfresh _ _ _ (by omega) hp
                    have g4 := (Array.getElem?_eq_some_iff.1 g1).1
                    omega
                · exact hr.ub
              · refine ⟨hle, hx.size, hx.os, hx.tape, hx.output, ?_, fun b hb _ => hsame b hb, fun id ver p hp _ hk => ?_⟩
                rotate_left
                · obtain ⟨v0, p0, h0⟩ := hk
                  have := (hr.dom _ _ _ h0).1
                  rwa [q2lt (by omega)] at hp
                intro id ver p hp
                by_cases hl : id < B
                · rw [q2lt hl] at hp; exact .inl ⟨ver, p, hp, rfl⟩
                · rw [q2ge (by omega)] at hp; exact .inr (hfresh _ _ _ (by omega) hp)
        | panicked chain =>
          obtain ⟨φ', av, h', v, _, _, _, _, _, _, hav⟩ := hp
          cases hav
        | outgrown => exact hp
      rcases hc with ⟨h1, h2⟩ | ⟨v, w', h1, h2⟩
      · exact .inl ⟨h1, h2.mono hpost⟩
      · exact .inr ⟨v, w', h1, hpost _ _ h2⟩
end
end Go.Abs

/-
  A verified evaluator: kept calls, their new blocks numbered close together.
-/
namespace Go.Abs
noncomputable section
structure Memo2 where
  args : List AV
  ins : List (Option AB)
  src : List (Nat × Nat)
  c : Nat
  n : Nat
  tot : Nat
  res : AV
  out : T4 Nat 5
  sub : T4 AB 5
  refs : List (Nat × Nat)
def insHeapO (lim : Nat) : List (Option AB) → T4 AB HD → T4 AB HD
  | [], t => t
  | some b :: l, t => insHeapO (Nat.succ lim) l (T4.set HD lim b t)
  | none :: l, t => insHeapO (Nat.succ lim) l t
theorem insHeapO_get : ∀ {l : List (Option AB)} {lim : Nat} {t : T4 AB HD} {id : Nat} {b : AB}, lim + l.length ≤ 4 ^ HD → id < 4 ^ HD → T4.get HD id (insHeapO lim l t) = some b → (lim ≤ id ∧ l[id - lim]? = some (some b)) ∨ T4.get HD id t = some b
  | [], lim, t, id, b, _, _, h => .inr h
  | some c :: l, lim, t, id, b, hl, hi, h => by
    simp only [List.length_cons] at hl
    have h : T4.get HD id (insHeapO (lim + 1) l (T4.set HD lim c t)) = some b := h
    rcases insHeapO_get (by omega) hi h with ⟨g1, g2⟩ | g
    · exact .inl ⟨by omega, by rw [show id - lim = (id - (lim + 1)) + 1 by omega, List.getElem?_cons_succ]; exact g2⟩
    · rw [T4.get_set HD lim id (by omega) hi] at g
      by_cases e : lim = id
      · rw [if_pos e] at g
        cases g
        subst e
        exact .inl ⟨Nat.le_refl _, by simp⟩
      · rw [if_neg e] at g; exact .inr g
  | none :: l, lim, t, id, b, hl, hi, h => by
    simp only [List.length_cons] at hl
    have h : T4.get HD id (insHeapO (lim + 1) l t) = some b := h
    rcases insHeapO_get (by omega) hi h with ⟨g1, g2⟩ | g
    · exact .inl ⟨by omega, by rw [show id - lim = (id - (lim + 1)) + 1 by omega, List.getElem?_cons_succ]; exact g2⟩
    · exact .inr g
def insBO (lim : Nat) (ρ : List Nat) (h : H) : List (Option AB) → List Nat → Bool
  | [], [] => true
  | some b :: l, j :: q => bif Nat.ble h.ro.lim j then bif Nat.blt j h.next then T4.getK HD j h.bl fun b' => andB (eqAB (relIn lim ρ) b b') (insBO lim ρ h l q) else false else false
  | none :: l, j :: q => bif Nat.ble h.ro.lim j then insBO lim ρ h l q else false
  | _, _ => false
theorem insBO_true {lim : Nat} {ρ : List Nat} {h : H} : ∀ {l : List (Option AB)} {q : List Nat}, insBO lim ρ h l q = true → l.length = q.length ∧ (∀ (i j : Nat), q[i]? = some j → h.ro.lim ≤ j) ∧
    ∀ (i : Nat) (b : AB), l[i]? = some (some b) → ∃ (j : Nat) (b' : AB), q[i]? = some j ∧ h.ro.lim ≤ j ∧ j < h.next ∧ T4.get HD j h.bl = some b' ∧ eqAB (relIn lim ρ) b b' = true
  | [], [], _ => ⟨rfl, fun i j h => by simp at h, fun i b h => by simp at h⟩
  | some b :: l, j :: q, hh => by
    unfold insBO at hh
    cases h1 : Nat.ble h.ro.lim j with
    | false => rw [h1] at hh; cases hh
    | true =>
      rw [h1, cond_true] at hh
      cases h2 : Nat.blt j h.next with
      | false => rw [h2] at hh; cases hh
      | true =>
        rw [h2, cond_true] at hh
        obtain ⟨b', g1, hh⟩ := T4.getK_true _ _ _ _ hh
        obtain ⟨g2, g3⟩ := andB_true hh
        obtain ⟨r1, r0, r2⟩ := insBO_true g3
        refine ⟨by simp [r1], fun i x hx => ?_, fun i x hx => ?_⟩
        · cases i with
          | zero => simp at hx; subst hx; exact nlT h1
          | succ i => exact r0 i x (by simpa using hx)
        · cases i with
          | zero => simp at hx; subst hx; exact ⟨j, b', rfl, nlT h1, by simpa [Nat.blt_eq] using h2, g1, g2⟩
          | succ i => simpa using r2 i x (by simpa using hx)
  | none :: l, j :: q, hh => by
    unfold insBO at hh
    cases h1 : Nat.ble h.ro.lim j with
    | false => rw [h1] at hh; cases hh
    | true =>
      rw [h1, cond_true] at hh
      obtain ⟨r1, r0, r2⟩ := insBO_true hh
      refine ⟨by simp [r1], fun i x hx => ?_, fun i x hx => ?_⟩
      · cases i with
        | zero => simp at hx; subst hx; exact nlT h1
        | succ i => exact r0 i x (by simpa using hx)
      · cases i with
        | zero => simp at hx
        | succ i => simpa using r2 i x (by simpa using hx)
  | [], _ :: _, hh => by cases hh
  | some _ :: _, [], hh => by cases hh
  | none :: _, [], hh => by cases hh
def Memo2.h0 (m : Memo2) (gs : List Gl) (lim : Nat) : H := ⟨[], ⟨lim + m.ins.length, []⟩, 1024, insHeapO lim m.ins (glHeap gs)⟩
def relOut (B : Nat) (out : T4 Nat 5) (n i j : Nat) : Bool :=
  bif Nat.ble B i then bif Nat.blt (Nat.sub i B) n then Option.rec (motive := fun _ => Bool) false (fun k => Nat.beq (Nat.add 1024 k) j) (T4.getV 5 (Nat.sub i B) out) else false else false
theorem relOut_true {B : Nat} {out : T4 Nat 5} {n i j : Nat} (h : relOut B out n i j = true) : B ≤ i ∧ i - B < n ∧ ∃ k, T4.get 5 (i - B) out = some k ∧ 1024 + k = j := by
  unfold relOut at h
  rw [T4.getV_eq] at h
  cases hb : Nat.ble B i with
  | false => rw [hb] at h; cases h
  | true =>
    rw [hb, cond_true] at h
    cases hc : Nat.blt (Nat.sub i B) n with
    | false => rw [hc] at h; cases h
    | true =>
      rw [hc, cond_true] at h
      cases hq : T4.get 5 (Nat.sub i B) out with
      | none => rw [hq] at h; cases h
      | some k =>
        rw [hq] at h
        exact ⟨nlT hb, by simpa [Nat.blt_eq] using hc, k, rfl, nbT h⟩
def relRef (lim : Nat) (refs : List (Nat × Nat)) (i j : Nat) : Bool := List.rec (motive := fun _ => Bool) false (fun q _ ih => bif Nat.beq q.1 i then bif Nat.beq (Nat.add lim q.2) j then true else ih else ih) refs
theorem relRef_true {lim i j : Nat} : ∀ {refs : List (Nat × Nat)}, relRef lim refs i j = true → ∃ k, (i, k) ∈ refs ∧ lim + k = j
  | [], h => by cases h
  | q :: l, h => by
    change (bif Nat.beq q.1 i then bif Nat.beq (lim + q.2) j then true else relRef lim l i j else relRef lim l i j) = true at h
    have go : relRef lim l i j = true → ∃ k, (i, k) ∈ q :: l ∧ lim + k = j := fun h =>
      let ⟨k, g1, g2⟩ := relRef_true h
      ⟨k, List.mem_cons_of_mem _ g1, g2⟩
    cases h1 : Nat.beq q.1 i with
    | false => rw [h1] at h; exact go h
    | true =>
      rw [h1, cond_true] at h
      cases h2 : Nat.beq (lim + q.2) j with
      | false => rw [h2] at h; exact go h
      | true => exact ⟨q.2, by rw [← nbT h1]; exact List.mem_cons_self, nbT h2⟩
def relX (B lim : Nat) (out : T4 Nat 5) (n : Nat) (refs : List (Nat × Nat)) (i j : Nat) : Bool := bif relOut B out n i j then true else relRef lim refs i j
theorem relX_true {B lim n i j : Nat} {out : T4 Nat 5} {refs : List (Nat × Nat)} (h : relX B lim out n refs i j = true) : relOut B out n i j = true ∨ ∃ k, (i, k) ∈ refs ∧ lim + k = j := by
  unfold relX at h
  cases hb : relOut B out n i j with
  | true => exact .inl rfl
  | false => rw [hb] at h; exact .inr (relRef_true h)
def names1 (v : AV) (q : Nat) : Bool := match v with
  | .ptr i _ _ => Nat.beq i q
  | .iface _ (.ptr i _ _) => Nat.beq i q
  | .sl i _ _ _ _ _ => Nat.beq i q
  | _ => false
theorem names1_true {φ : Phi} {ν : Nu} {a : AV} {v : Value} {q : Nat} (h : names1 a q = true) (hv : VR φ ν a v) : ∃ ver p, φ q ver = some p := by
  unfold names1 at h
  split at h
  · have := nbT h
    subst this
    cases hv with
    | ptr hp => exact ⟨_, _, hp⟩
  · have := nbT h
    subst this
    cases hv with
    | iface hv =>
      cases hv with
      | ptr hp => exact ⟨_, _, hp⟩
  · have := nbT h
    subst this
    cases hv with
    | sl hp => exact ⟨_, _, hp⟩
  · cases h
def names1L (l : List AV) (q : Nat) : Bool := l.any fun v => names1 v q
theorem names1L_true {φ : Phi} {ν : Nu} {q : Nat} : ∀ {l : List AV} {vs : List Value}, names1L l q = true → VRs φ ν l vs → ∃ ver p, φ q ver = some p
  | [], _, h, _ => by simp [names1L] at h
  | a :: l, _, h, .cons hv hvs => by
    have h : (names1 a q || names1L l q) = true := h
    rw [Bool.or_eq_true] at h
    rcases h with h | h
    · exact names1_true h hv
    · exact names1L_true h hvs
def namesA (v : AV) (q : Nat) : Bool := match v with
  | .agg cs => names1L cs q
  | v => names1 v q
theorem namesA_true {φ : Phi} {ν : Nu} {a : AV} {v : Value} {q : Nat} (h : namesA a q = true) (hv : VR φ ν a v) : ∃ ver p, φ q ver = some p := by
  unfold namesA at h
  split at h
  · cases hv with
    | agg hvs _ => exact names1L_true h hvs
  · exact names1_true h hv
def namesL (l : List AV) (q : Nat) : Bool := l.any fun v => namesA v q
theorem namesL_true {φ : Phi} {ν : Nu} {q : Nat} : ∀ {l : List AV} {vs : List Value}, namesL l q = true → VRs φ ν l vs → ∃ ver p, φ q ver = some p
  | [], _, h, _ => by simp [namesL] at h
  | a :: l, _, h, .cons hv hvs => by
    have h : (namesA a q || namesL l q) = true := h
    rw [Bool.or_eq_true] at h
    rcases h with h | h
    · exact namesA_true h hv
    · exact namesL_true h hvs
def refsB (ρ : List Nat) (args : List AV) (refs : List (Nat × Nat)) : Bool := refs.all fun q => match ρ[q.2]? with | some j => Nat.beq j q.1 && namesL args q.1 | none => false
theorem refsB_true {ρ : List Nat} {args : List AV} {refs : List (Nat × Nat)} (h : refsB ρ args refs = true) {i k : Nat} (hm : (i, k) ∈ refs) : ρ[k]? = some i ∧ namesL args i = true := by
  have h1 := List.all_eq_true.1 h _ hm
  cases hq : ρ[k]? with
  | none => simp only [hq] at h1; cases h1
  | some j =>
    simp only [hq, Bool.and_eq_true] at h1
    have := nbT h1.1
    subst this
    exact ⟨rfl, h1.2⟩
def growB (out : T4 Nat 5) (tot n : Nat) : Bool :=
  (Nat.rec (motive := fun _ => Nat → Bool) (fun _ => true) (fun i ih up => Option.rec (motive := fun _ => Bool) false (fun k => bif Nat.blt k up then ih k else false) (T4.getV 5 i out)) n) tot
theorem growB_true {out : T4 Nat 5} : ∀ {n tot : Nat}, growB out tot n = true → ∀ i, i < n → ∃ k, T4.get 5 i out = some k ∧ k < tot ∧ ∀ i' k', i < i' → i' < n → T4.get 5 i' out = some k' → k < k'
  | 0, _, _, i, hi => by omega
  | n + 1, tot, h, i, hi => by
    change Option.rec (motive := fun _ => Bool) false (fun k => bif Nat.blt k tot then growB out k n else false) (T4.getV 5 n out) = true at h
    rw [T4.getV_eq] at h
    cases hq : T4.get 5 n out with
    | none => rw [hq] at h; cases h
    | some k =>
      rw [hq] at h
      change (bif Nat.blt k tot then growB out k n else false) = true at h
      cases hb : Nat.blt k tot with
      | false => rw [hb] at h; cases h
      | true =>
        rw [hb, cond_true] at h
        have hk : k < tot := by simpa [Nat.blt_eq] using hb
        rcases Nat.lt_or_ge i n with q | q
        · obtain ⟨k0, g1, g2, g3⟩ := growB_true h i q
          refine ⟨k0, g1, Nat.lt_trans g2 hk, fun i' k' h1 h2 h3 => ?_⟩
          rcases Nat.lt_or_ge i' n with q' | q'
          · exact g3 i' k' h1 q' h3
          · have : i' = n := by omega
            subst this
            rw [hq] at h3; cases h3
            exact g2
        · have : i = n := by omega
          subst this
          exact ⟨k, hq, hk, fun i' k' h1 h2 h3 => by omega⟩
def outsB2 (e : Nat → Nat → Bool) (out : T4 Nat 5) (sub : T4 AB 5) (bl : T4 AB HD) (n : Nat) : Bool :=
  Nat.rec (motive := fun _ => Bool) true (fun i ih => Option.rec (motive := fun _ => Bool) ih (fun b => Option.rec (motive := fun _ => Bool) false (fun k => T4.getK HD (Nat.add 1024 k) bl fun b' => andB (eqAB e b b') ih) (T4.getV 5 i out)) (T4.getV 5 i sub)) n
theorem outsB2_true {e : Nat → Nat → Bool} {out : T4 Nat 5} {sub : T4 AB 5} {bl : T4 AB HD} : ∀ {n : Nat}, outsB2 e out sub bl n = true → ∀ i, i < n → ∀ b, T4.get 5 i sub = some b → ∃ k b', T4.get 5 i out = some k ∧ T4.get HD (1024 + k) bl = some b' ∧ eqAB e b b' = true
  | 0, _, i, hi, b, hb => by omega
  | n + 1, h, i, hi, b, hb => by
    change Option.rec (motive := fun _ => Bool) (outsB2 e out sub bl n) (fun b => Option.rec (motive := fun _ => Bool) false (fun k => T4.getK HD (1024 + k) bl fun b' => andB (eqAB e b b') (outsB2 e out sub bl n)) (T4.getV 5 n out)) (T4.getV 5 n sub) = true at h
    rw [T4.getV_eq, T4.getV_eq] at h
    rcases Nat.lt_or_ge i n with q | q
    · refine outsB2_true ?_ i q b hb
      cases hq : T4.get 5 n sub with
      | none => rw [hq] at h; exact h
      | some b0 =>
        rw [hq] at h
        cases hk : T4.get 5 n out with
        | none => rw [hk] at h; cases h
        | some k =>
          rw [hk] at h
          obtain ⟨b', _, h⟩ := T4.getK_true _ _ _ _ h
          exact (andB_true h).2
    · have : i = n := by omega
      subst this
      rw [hb] at h
      cases hk : T4.get 5 i out with
      | none => rw [hk] at h; cases h
      | some k =>
        rw [hk] at h
        obtain ⟨b', g1, h⟩ := T4.getK_true _ _ _ _ h
        exact ⟨k, b', rfl, g1, (andB_true h).1⟩
def memoK2 (m : Memo2) (lim : Nat) (av : AV) (h : H) : Bool :=
  (fun B => bif Nat.beq h.next (Nat.add 1024 m.tot) then andB (growB m.out m.tot m.n) (andB (eqR (relX B lim m.out m.n m.refs) m.res av) (outsB2 (relX B lim m.out m.n m.refs) m.out m.sub h.bl m.n)) else false) (Nat.mul m.c 1024)
def memoD2 (m : Memo2) (lim : Nat) (next : FnD) : FnD := fun cf args h kr kp =>
  (fun no => bif Nat.ble h.next (Nat.mul m.c 1024) then rhoK (flatA args) h no m.src [] fun ρ =>
    Bool.rec (motive := fun _ => Bool) no (T4.truncK HD h.next h.bl fun bl => T4.graftK 5 4 m.c m.sub bl fun bl => kr m.res ⟨h.ds, h.ro, Nat.add (Nat.mul m.c 1024) m.n, bl⟩)
      (andB (refsB ρ args m.refs) (andB (nodupB ρ) (andB (eqRs (relIn lim ρ) m.args args) (insBO lim ρ h m.ins ρ)))) else no) (next cf args h kr kp)
theorem FnGood.memo2 {P : Program} {ν : Nu} {t : T4 FnD TD} (ht : TblOk P ν t) {n f : Nat} {gs : List Gl} {lim : Nat} (m : Memo2) (hrun : runF t n f m.args (m.h0 gs lim) (memoK2 m lim) (fun _ _ => false) = true)
    (h0G : ∀ w : World, (∀ b o, (b, o) ∈ ν.G → w.heap[b]? = some o) → HR (phiOf gs) ν (h0Of gs lim) w) (hgG : ∀ id ver p, phiOf gs id ver = some p → ∃ o, (p.blk, o) ∈ ν.G)
    (hs1 : lim + m.ins.length ≤ 1024) (hs2 : m.c < 256) (hs3 : m.n ≤ 1024) {next : FnD} (hnext : FnGood P ν f next) : FnGood P ν f (memoD2 m lim next) := by
  intro cf hcf args h kr kp hk φ w vs hr hv
  have hk' : (bif Nat.ble h.next (m.c * 1024) then rhoK (flatA args) h (next cf args h kr kp) m.src [] fun ρ =>
    Bool.rec (motive := fun _ => Bool) (next cf args h kr kp) (T4.truncK HD h.next h.bl fun bl => T4.graftK 5 4 m.c m.sub bl fun bl => kr m.res ⟨h.ds, h.ro, m.c * 1024 + m.n, bl⟩)
      (andB (refsB ρ args m.refs) (andB (nodupB ρ) (andB (eqRs (relIn lim ρ) m.args args) (insBO lim ρ h m.ins ρ)))) else next cf args h kr kp) = true := hk
  cases hB : Nat.ble h.next (m.c * 1024) with
  | false => rw [hB] at hk'; exact hnext cf hcf args h kr kp hk' φ w vs hr hv
  | true =>
    rw [hB, cond_true] at hk'
    have hB := nlT hB
    rcases rhoK_true hk' with hk' | ⟨ρ, hk'⟩
    · exact hnext cf hcf args h kr kp hk' φ w vs hr hv
    cases hm : andB (refsB ρ args m.refs) (andB (nodupB ρ) (andB (eqRs (relIn lim ρ) m.args args) (insBO lim ρ h m.ins ρ))) with
    | false => rw [hm] at hk'; exact hnext cf hcf args h kr kp hk' φ w vs hr hv
    | true =>
      rw [hm] at hk'
      obtain ⟨m0, hm⟩ := andB_true hm
      obtain ⟨m1, m2⟩ := andB_true hm
      obtain ⟨m2, m3⟩ := andB_true m2
      have m1 := nodupB_true m1
      obtain ⟨m3, m5, m4⟩ := insBO_true m3
      obtain ⟨B, hB0⟩ : ∃ B, B = m.c * 1024 := ⟨_, rfl⟩
      have eB : Nat.mul m.c 1024 = B := hB0.symm
      have h8 : (4 : Nat) ^ HD = 262144 := by decide
      have hBn : B + m.n ≤ 4 ^ HD := Nat.le_trans (show B + m.n ≤ 262144 by omega) (Nat.le_of_eq h8.symm)
      have hB8 : B ≤ 4 ^ HD := Nat.le_trans (Nat.le_add_right _ _) hBn
      rw [← hB0] at hB hk'
      have hnx0 : (m.h0 gs lim).next = 1024 := rfl
      have hR8 : 1024 ≤ 4 ^ HD := by decide
      -- the frame of the kept call
      have hh0 := h0G w fun b o hbo => (hr.gl b o hbo).1
      let φ0 : Phi := fun id ver => if id < lim then phiOf gs id ver else match ρ[id - lim]? with | some j => φ j ver | none => none
      have p0lt : ∀ {id ver}, id < lim → φ0 id ver = phiOf gs id ver := fun h => if_pos h
      have p0ge : ∀ {id ver}, lim ≤ id → φ0 id ver = match ρ[id - lim]? with | some j => φ j ver | none => none := fun h => if_neg (by omega)
      have p0in : ∀ i j, relIn lim ρ i j = true → ∀ ver, φ0 i ver = φ j ver := fun i j hij ver => by
        obtain ⟨g1, g2⟩ := relIn_true hij
        rw [p0ge g1, g2]
      have hpl : ∀ id ver p, phiOf gs id ver = some p → id < lim := fun id ver p h => (hh0.dom id ver p h).1
      have p0some : ∀ {id ver p}, φ0 id ver = some p → (id < lim ∧ phiOf gs id ver = some p) ∨ (lim ≤ id ∧ id < lim + m.ins.length ∧ ∃ j, ρ[id - lim]? = some j ∧ φ j ver = some p) := by
        intro id ver p hp
        by_cases hl : id < lim
        · rw [p0lt hl] at hp; exact .inl ⟨hl, hp⟩
        · rw [p0ge (by omega)] at hp
          cases hq : ρ[id - lim]? with
          | none => rw [hq] at hp; cases hp
          | some j =>
            rw [hq] at hp
            have := (List.getElem?_eq_some_iff.1 hq).1
            exact .inr ⟨by omega, by omega, j, rfl, hp⟩
      have hin : HR φ0 ν (m.h0 gs lim) w := by
        refine ⟨?_, ?_, ?_, ?_, ?_, ?_, ?_, trivial⟩
        · intro id ver p hp
          rcases p0some hp with ⟨g1, g2⟩ | ⟨g1, g2, j, g3, g4⟩
          · exact ⟨by rw [hnx0]; exact Nat.lt_of_lt_of_le g1 (Nat.le_trans (Nat.le_add_right _ _) hs1), (hh0.dom _ _ _ g2).2⟩
          · exact ⟨by rw [hnx0]; exact Nat.lt_of_lt_of_le g2 hs1, (hr.dom _ _ _ g4).2⟩
        · intro id ver p id' ver' p' hp hp' he
          have hmix : ∀ {id ver p j ver' p'}, phiOf gs id ver = some p → φ j ver' = some p' → p.blk = p'.blk → (∃ i : Nat, ρ[i]? = some j) → False := by
            intro id ver p j ver' p' g1 g2 ge ⟨i, hi⟩
            obtain ⟨o, ho⟩ := hgG _ _ _ g1
            have h1 := (hr.gl _ _ ho).2 j ver' p' g2 ge.symm
            have q2 := m5 i _ hi
            omega
          rcases p0some hp with ⟨g1, g2⟩ | ⟨g1, g2, j, g3, g4⟩ <;> rcases p0some hp' with ⟨g1', g2'⟩ | ⟨g1', g2', j', g3', g4'⟩
          · exact hh0.inj _ _ _ _ _ _ g2 g2' he
          · exact (hmix g2 g4' he ⟨_, g3'⟩).elim
          · exact (hmix g2' g4 he.symm ⟨_, g3⟩).elim
          · have := hr.inj _ _ _ _ _ _ g4 g4' he
            subst this
            have h1 := (List.getElem?_eq_some_iff.1 g3).1
            have h2 := (List.getElem?_eq_some_iff.1 g3').1
            have : id - lim = id' - lim := (List.getElem_inj (h₀ := h1) (h₁ := h2) m1).1 (by rw [(List.getElem?_eq_some_iff.1 g3).2, (List.getElem?_eq_some_iff.1 g3').2])
            omega
        · intro id b hid hb
          rw [hnx0] at hid
          have hid8 : id < 4 ^ HD := Nat.lt_of_lt_of_le hid hR8
          have hb : T4.get HD id (insHeapO lim m.ins (glHeap gs)) = some b := hb
          rcases insHeapO_get (Nat.le_trans hs1 hR8) hid8 hb with ⟨hq, hb⟩ | hb
          · obtain ⟨j, b', q1, q2, q3, q4, q5⟩ := m4 _ _ hb
            refine eqAB_BR (φ := φ) (j := j) p0in (fun ver => ?_) q5 (hr.bl j b' q3 q4)
            rw [p0ge hq, q1]
          · by_cases hl : id < lim
            · refine BR.keep (φ := phiOf gs) (w := w) (fun i v p hp => by rw [p0lt (hpl _ _ _ hp)]; exact hp) (fun v p hp => by rw [p0lt hl] at hp; exact hp) (fun v p hp => rfl) (hh0.bl id b hl hb)
            · exfalso
              have hgl : ∀ q ∈ gs, q.g < lim := fun q hq => by
                have hf : ∃ q', gs.find? (fun r => Nat.beq r.g q.g && Nat.beq r.l.length q.l.length) = some q' := by
                  rw [← Option.isSome_iff_exists, List.find?_isSome]
                  exact ⟨q, hq, by simp⟩
                obtain ⟨q', hq'⟩ := hf
                exact hpl q.g q.l.length ⟨q'.g, q'.l.length, q'.l.length, 0⟩ (by unfold phiOf; rw [hq'])
              obtain ⟨q, hq1, hq2, _⟩ := glHeap_get (fun q hq => Nat.lt_of_lt_of_le (hgl q hq) hh0.lim) hid8 hb
              exact hl (hq2 ▸ hgl q hq1)
        · rw [hnx0]; exact hR8
        · rw [hnx0]; exact hs1
        · intro g hg
          obtain ⟨p, g1, g2⟩ := hh0.gp g hg
          exact ⟨p, by rw [p0lt (hpl _ _ _ g1)]; exact g1, g2⟩
        · intro b o hbo
          refine ⟨(hr.gl b o hbo).1, fun id ver p hp _ => ?_⟩
          show id < lim + m.ins.length
          rcases p0some hp with ⟨g1, g2⟩ | ⟨g1, g2, _⟩
          · omega
          · exact g2
      have hro : (m.h0 gs lim).ro.lim = lim + m.ins.length := rfl
      have hc := runF_ok ht n f m.args (m.h0 gs lim) (memoK2 m lim) (fun _ _ => false) hrun φ0 w vs hin (eqRs_VR p0in m2 hv)
      have hpost : ∀ e w', FPost φ0 ν (m.h0 gs lim).ro w (m.h0 gs lim).ds (memoK2 m lim) (fun _ _ => false) e w' → FPost φ ν h.ro w h.ds kr kp e w' := by
        intro e w' hp
        cases e with
        | returned v =>
          obtain ⟨φ', av, h', hvr, hr', hx, hro', _, hav⟩ := hp
          have hav : (bif Nat.beq h'.next (1024 + m.tot) then andB (growB m.out m.tot m.n) (andB (eqR (relX (Nat.mul m.c 1024) lim m.out m.n m.refs) m.res av) (outsB2 (relX (Nat.mul m.c 1024) lim m.out m.n m.refs) m.out m.sub h'.bl m.n)) else false) = true := hav
          rw [eB] at hav
          cases hnx : Nat.beq h'.next (1024 + m.tot) with
          | false => rw [hnx] at hav; cases hav
          | true =>
            rw [hnx, cond_true] at hav
            have hnx : h'.next = 1024 + m.tot := nbT hnx
            obtain ⟨a0, hav⟩ := andB_true hav
            have a0 := growB_true a0
            obtain ⟨a1, a2⟩ := andB_true hav
            have a2 := outsB2_true a2
            have hnone : ∀ id ver, 1024 ≤ id → φ0 id ver = none := by
              intro id ver hid
              cases hq : φ0 id ver with
              | none => rfl
              | some p =>
                rcases p0some hq with ⟨g1, _⟩ | ⟨_, g2, _⟩ <;> omega
            have hfresh : ∀ id ver p, 1024 ≤ id → φ' id ver = some p → w.heap.size ≤ p.blk := by
              intro id ver p hid hp
              rcases hx.img id ver p hp with ⟨v0, q0, g1, _⟩ | g
              · rw [hnone id v0 hid] at g1; cases g1
              · exact g
            let φ2 : Phi := fun id ver => if id < B then φ id ver else if id - B < m.n then match T4.get 5 (id - B) m.out with | some k => φ' (1024 + k) ver | none => none else none
            have q2lt : ∀ {id ver}, id < B → φ2 id ver = φ id ver := fun h => if_pos h
            have q2ge : ∀ {id ver k}, B ≤ id → id - B < m.n → T4.get 5 (id - B) m.out = some k → φ2 id ver = φ' (1024 + k) ver := fun {id ver k} h1 h2 h3 => by
              show (if id < B then φ id ver else if id - B < m.n then match T4.get 5 (id - B) m.out with | some k => φ' (1024 + k) ver | none => none else none) = _
              rw [if_neg (by omega), if_pos h2, h3]
            have q2some : ∀ {id ver p}, B ≤ id → φ2 id ver = some p → ∃ k, id - B < m.n ∧ T4.get 5 (id - B) m.out = some k ∧ φ' (1024 + k) ver = some p := by
              intro id ver p h1 hp
              have hp : (if id < B then φ id ver else if id - B < m.n then match T4.get 5 (id - B) m.out with | some k => φ' (1024 + k) ver | none => none else none) = some p := hp
              rw [if_neg (by omega)] at hp
              by_cases hn : id - B < m.n
              · rw [if_pos hn] at hp
                cases hk : T4.get 5 (id - B) m.out with
                | none => rw [hk] at hp; cases hp
                | some k => rw [hk] at hp; exact ⟨k, hn, rfl, hp⟩
              · rw [if_neg hn] at hp; cases hp
            have q2new : ∀ i j, relX B lim m.out m.n m.refs i j = true → ∀ ver, φ2 i ver = φ' j ver := fun i j hij ver => by
              rcases relX_true hij with hij | ⟨k, g1, g2⟩
              · obtain ⟨g1, g2, k, g3, g4⟩ := relOut_true hij
                rw [q2ge g1 g2 g3, g4]
              · obtain ⟨g3, g4⟩ := refsB_true m0 g1
                obtain ⟨v0, p0, h0⟩ := namesL_true g4 hv
                have hi := (hr.dom _ _ _ h0).1
                have hk1 : k < ρ.length := (List.getElem?_eq_some_iff.1 g3).1
                have e0 : ∀ ver, φ0 j ver = φ i ver := fun ver => by
                  rw [p0ge (by omega), show j - lim = k by omega, g3]
                rw [q2lt (by omega)]
                cases hq : φ' j ver with
                | some p => rw [← e0, hx.old j ver p hq (by rw [hro]; omega) ⟨v0, p0, by rw [e0]; exact h0⟩]
                | none =>
                  cases hq2 : φ i ver with
                  | none => rfl
                  | some p => rw [hx.le j ver p (by rw [e0]; exact hq2)] at hq; cases hq
            have hle : φ.le φ2 := fun i v p hp => by
              rw [q2lt (Nat.lt_of_lt_of_le (hr.dom _ _ _ hp).1 hB)]; exact hp
            have hsame : ∀ b, b < w.heap.size → w'.heap[b]? = w.heap[b]? := fun b hb => hx.same b hb fun id ver p hp hl => by
              rw [hro] at hl
              rcases p0some hp with ⟨g1, _⟩ | ⟨_, g2, _⟩ <;> omega
            have hnl : h.next < 4 ^ HD ∨ h.next = 4 ^ HD := by have := hr.lim; omega
            have hn8 : h.next < 4 ^ HD := Nat.lt_of_le_of_lt hB (Nat.lt_of_lt_of_le (show B < 262144 by omega) (Nat.le_of_eq h8.symm))
            simp only [T4.truncK_eq _ _ _ _ hn8, T4.graftK_eq] at hk'
            · refine ⟨φ2, m.res, ⟨h.ds, h.ro, B + m.n, T4.graft 5 4 m.c m.sub (T4.trunc HD h.next h.bl)⟩, eqR_VR q2new a1 hvr, ?_, ?_, rfl, rfl, hk'⟩
              · refine ⟨?_, ?_, ?_, hBn, ?_, hr.gp.mono hle, ?_, ?_⟩
                · intro id ver p hp
                  by_cases hl : id < B
                  · rw [q2lt hl] at hp
                    obtain ⟨g1, g2⟩ := hr.dom _ _ _ hp
                    exact ⟨Nat.lt_of_lt_of_le hl (Nat.le_add_right _ _), Nat.lt_of_lt_of_le g2 hx.size⟩
                  · obtain ⟨k, g1, g2, hp⟩ := q2some (by omega) hp
                    exact ⟨by show id < B + m.n; omega, (hr'.dom _ _ _ hp).2⟩
                · intro id ver p id' ver' p' hp hp' he
                  by_cases hl : id < B <;> by_cases hl' : id' < B
                  · rw [q2lt hl] at hp; rw [q2lt hl'] at hp'; exact hr.inj _ _ _ _ _ _ hp hp' he
                  · rw [q2lt hl] at hp; obtain ⟨k, _, _, hp'⟩ := q2some (by omega) hp'
                    have g1 := (hr.dom _ _ _ hp).2
                    have g2 := hfresh _ _ _ (by omega) hp'
                    omega
                  · obtain ⟨k, _, _, hp⟩ := q2some (by omega) hp; rw [q2lt hl'] at hp'
                    have g1 := (hr.dom _ _ _ hp').2
                    have g2 := hfresh _ _ _ (by omega) hp
                    omega
                  · obtain ⟨k, g1, g2, hp⟩ := q2some (by omega) hp
                    obtain ⟨k', g1', g2', hp'⟩ := q2some (by omega) hp'
                    have hkk := hr'.inj _ _ _ _ _ _ hp hp' he
                    obtain ⟨k0, q1, _, q3⟩ := a0 (id - B) g1
                    obtain ⟨k1, q1', _, q3'⟩ := a0 (id' - B) g1'
                    rw [g2] at q1; cases q1
                    rw [g2'] at q1'; cases q1'
                    rcases Nat.lt_trichotomy (id - B) (id' - B) with q | q | q
                    · have := q3 _ _ q g1' g2'; omega
                    · omega
                    · have := q3' _ _ q g1 g2; omega
                · intro id b hid hb
                  have hid : id < B + m.n := hid
                  have hid8 : id < 4 ^ HD := Nat.lt_of_lt_of_le hid hBn
                  have hb : T4.get (5 + 4) id (T4.graft 5 4 m.c m.sub (T4.trunc HD h.next h.bl)) = some b := hb
                  rw [T4.get_graft 5 4 m.c id (by omega) hid8] at hb
                  have h1024 : (4 : Nat) ^ 5 = 1024 := by decide
                  rw [h1024] at hb
                  by_cases hq : id / 1024 = m.c
                  · rw [if_pos hq] at hb
                    have hge : B ≤ id := by omega
                    obtain ⟨k, b', r0, r1, r2⟩ := a2 (id % 1024) (by omega) b hb
                    have e1 : id - B = id % 1024 := by omega
                    have hlt : id - B < m.n := by omega
                    obtain ⟨k0, q1, q2, _⟩ := a0 (id % 1024) (by omega)
                    rw [r0] at q1; cases q1
                    exact eqAB_BR (φ := φ') (j := 1024 + k) q2new (fun ver => q2ge hge hlt (by rw [e1]; exact r0)) r2 (hr'.bl (1024 + k) b' (by rw [hnx]; omega) r1)
                  · rw [if_neg hq] at hb
                    have hlt : id < B := by omega
                    have hb : T4.get HD id (T4.trunc HD h.next h.bl) = some b := hb
                    rw [T4.get_trunc _ _ _ hid8] at hb
                    by_cases hn : id < h.next
                    · rw [if_pos hn] at hb
                      exact BR.keep hle (fun v p hp => by rw [q2lt hlt] at hp; exact hp) (fun v p hp => hsame _ (hr.dom _ _ _ hp).2) (hr.bl id b hn hb)
                    · rw [if_neg hn] at hb; cases hb
                · show h.ro.lim ≤ B + m.n
                  have := hr.ro
                  omega
                · intro b o hbo
                  obtain ⟨g1, g2⟩ := hr.gl b o hbo
                  refine ⟨(hr'.gl b o hbo).1, fun id ver p hp he => ?_⟩
                  show id < h.ro.lim
                  by_cases hl : id < B
                  · rw [q2lt hl] at hp; exact g2 id ver p hp he
                  · obtain ⟨k, _, _, hp⟩ := q2some (by omega) hp
                    have g3 := hfresh _ _ _ (by omega) hp
                    have g4 := (Array.getElem?_eq_some_iff.1 g1).1
                    omega
                · exact hr.ub
              · refine ⟨hle, hx.size, hx.os, hx.tape, hx.output, ?_, fun b hb _ => hsame b hb, fun id ver p hp _ hk => ?_⟩
                rotate_left
                · obtain ⟨v0, p0, h0⟩ := hk
                  have := (hr.dom _ _ _ h0).1
                  rwa [q2lt (by omega)] at hp
                intro id ver p hp
                by_cases hl : id < B
                · rw [q2lt hl] at hp; exact .inl ⟨ver, p, hp, rfl⟩
                · obtain ⟨k, _, _, hp⟩ := q2some (by omega) hp; exact .inr (hfresh _ _ _ (by omega) hp)
        | panicked chain =>
          obtain ⟨φ', av, h', v, _, _, _, _, _, _, hav⟩ := hp
          cases hav
        | outgrown => exact hp
      rcases hc with ⟨h1, h2⟩ | ⟨v, w', h1, h2⟩
      · exact .inl ⟨h1, h2.mono hpost⟩
      · exact .inr ⟨v, w', h1, hpost _ _ h2⟩
end
end Go.Abs

/-
  A verified evaluator: kept calls whose result holds no block: they leave the heap as it is, and may be used as often as one likes.
-/
namespace Go.Abs
noncomputable section
def noB (_ _ : Nat) : Bool := false
def memoK0 (m : Memo2) (av : AV) (_ : H) : Bool := eqR noB m.res av
def memoD0 (m : Memo2) (lim : Nat) (next : FnD) : FnD := fun cf args h kr kp =>
  (fun no => rhoK (flatA args) h no m.src [] fun ρ =>
    Bool.rec (motive := fun _ => Bool) no (kr m.res h)
      (andB (nodupB ρ) (andB (eqRs (relIn lim ρ) m.args args) (insBO lim ρ h m.ins ρ)))) (next cf args h kr kp)
theorem FnGood.memo0 {P : Program} {ν : Nu} {t : T4 FnD TD} (ht : TblOk P ν t) {n f : Nat} {gs : List Gl} {lim : Nat} (m : Memo2) (hrun : runF t n f m.args (m.h0 gs lim) (memoK0 m) (fun _ _ => false) = true)
    (h0G : ∀ w : World, (∀ b o, (b, o) ∈ ν.G → w.heap[b]? = some o) → HR (phiOf gs) ν (h0Of gs lim) w) (hgG : ∀ id ver p, phiOf gs id ver = some p → ∃ o, (p.blk, o) ∈ ν.G)
    (hs1 : lim + m.ins.length ≤ 1024) {next : FnD} (hnext : FnGood P ν f next) : FnGood P ν f (memoD0 m lim next) := by
  intro cf hcf args h kr kp hk φ w vs hr hv
  have hk' : (rhoK (flatA args) h (next cf args h kr kp) m.src [] fun ρ =>
    Bool.rec (motive := fun _ => Bool) (next cf args h kr kp) (kr m.res h)
      (andB (nodupB ρ) (andB (eqRs (relIn lim ρ) m.args args) (insBO lim ρ h m.ins ρ)))) = true := hk
  rcases rhoK_true hk' with hk' | ⟨ρ, hk'⟩
  · exact hnext cf hcf args h kr kp hk' φ w vs hr hv
  cases hm : andB (nodupB ρ) (andB (eqRs (relIn lim ρ) m.args args) (insBO lim ρ h m.ins ρ)) with
  | false => rw [hm] at hk'; exact hnext cf hcf args h kr kp hk' φ w vs hr hv
  | true =>
    rw [hm] at hk'
    obtain ⟨m1, m2⟩ := andB_true hm
    obtain ⟨m2, m3⟩ := andB_true m2
    have m1 := nodupB_true m1
    obtain ⟨m3, m5, m4⟩ := insBO_true m3
    have hnx0 : (m.h0 gs lim).next = 1024 := rfl
    have hR8 : 1024 ≤ 4 ^ HD := by decide
    -- the frame of the kept call
    have hh0 := h0G w fun b o hbo => (hr.gl b o hbo).1
    let φ0 : Phi := fun id ver => if id < lim then phiOf gs id ver else match ρ[id - lim]? with | some j => φ j ver | none => none
    have p0lt : ∀ {id ver}, id < lim → φ0 id ver = phiOf gs id ver := fun h => if_pos h
    have p0ge : ∀ {id ver}, lim ≤ id → φ0 id ver = match ρ[id - lim]? with | some j => φ j ver | none => none := fun h => if_neg (by omega)
    have p0in : ∀ i j, relIn lim ρ i j = true → ∀ ver, φ0 i ver = φ j ver := fun i j hij ver => by
      obtain ⟨g1, g2⟩ := relIn_true hij
      rw [p0ge g1, g2]
    have hpl : ∀ id ver p, phiOf gs id ver = some p → id < lim := fun id ver p h => (hh0.dom id ver p h).1
    have p0some : ∀ {id ver p}, φ0 id ver = some p → (id < lim ∧ phiOf gs id ver = some p) ∨ (lim ≤ id ∧ id < lim + m.ins.length ∧ ∃ j, ρ[id - lim]? = some j ∧ φ j ver = some p) := by
      intro id ver p hp
      by_cases hl : id < lim
      · rw [p0lt hl] at hp; exact .inl ⟨hl, hp⟩
      · rw [p0ge (by omega)] at hp
        cases hq : ρ[id - lim]? with
        | none => rw [hq] at hp; cases hp
        | some j =>
          rw [hq] at hp
          have := (List.getElem?_eq_some_iff.1 hq).1
          exact .inr ⟨by omega, by omega, j, rfl, hp⟩
    have hin : HR φ0 ν (m.h0 gs lim) w := by
      refine ⟨?_, ?_, ?_, ?_, ?_, ?_, ?_, trivial⟩
      · intro id ver p hp
        rcases p0some hp with ⟨g1, g2⟩ | ⟨g1, g2, j, g3, g4⟩
        · exact ⟨by rw [hnx0]; exact Nat.lt_of_lt_of_le g1 (Nat.le_trans (Nat.le_add_right _ _) hs1), (hh0.dom _ _ _ g2).2⟩
        · exact ⟨by rw [hnx0]; exact Nat.lt_of_lt_of_le g2 hs1, (hr.dom _ _ _ g4).2⟩
      · intro id ver p id' ver' p' hp hp' he
        have hmix : ∀ {id ver p j ver' p'}, phiOf gs id ver = some p → φ j ver' = some p' → p.blk = p'.blk → (∃ i : Nat, ρ[i]? = some j) → False := by
          intro id ver p j ver' p' g1 g2 ge ⟨i, hi⟩
          obtain ⟨o, ho⟩ := hgG _ _ _ g1
          have h1 := (hr.gl _ _ ho).2 j ver' p' g2 ge.symm
          have q2 := m5 i _ hi
          omega
        rcases p0some hp with ⟨g1, g2⟩ | ⟨g1, g2, j, g3, g4⟩ <;> rcases p0some hp' with ⟨g1', g2'⟩ | ⟨g1', g2', j', g3', g4'⟩
        · exact hh0.inj _ _ _ _ _ _ g2 g2' he
        · exact (hmix g2 g4' he ⟨_, g3'⟩).elim
        · exact (hmix g2' g4 he.symm ⟨_, g3⟩).elim
        · have := hr.inj _ _ _ _ _ _ g4 g4' he
          subst this
          have h1 := (List.getElem?_eq_some_iff.1 g3).1
          have h2 := (List.getElem?_eq_some_iff.1 g3').1
          have : id - lim = id' - lim := (List.getElem_inj (h₀ := h1) (h₁ := h2) m1).1 (by rw [(List.getElem?_eq_some_iff.1 g3).2, (List.getElem?_eq_some_iff.1 g3').2])
          omega
      · intro id b hid hb
        rw [hnx0] at hid
        have hid8 : id < 4 ^ HD := Nat.lt_of_lt_of_le hid hR8
        have hb : T4.get HD id (insHeapO lim m.ins (glHeap gs)) = some b := hb
        rcases insHeapO_get (Nat.le_trans hs1 hR8) hid8 hb with ⟨hq, hb⟩ | hb
        · obtain ⟨j, b', q1, q2, q3, q4, q5⟩ := m4 _ _ hb
          refine eqAB_BR (φ := φ) (j := j) p0in (fun ver => ?_) q5 (hr.bl j b' q3 q4)
          rw [p0ge hq, q1]
        · by_cases hl : id < lim
          · refine BR.keep (φ := phiOf gs) (w := w) (fun i v p hp => by rw [p0lt (hpl _ _ _ hp)]; exact hp) (fun v p hp => by rw [p0lt hl] at hp; exact hp) (fun v p hp => rfl) (hh0.bl id b hl hb)
          · exfalso
            have hgl : ∀ q ∈ gs, q.g < lim := fun q hq => by
              have hf : ∃ q', gs.find? (fun r => Nat.beq r.g q.g && Nat.beq r.l.length q.l.length) = some q' := by
                rw [← Option.isSome_iff_exists, List.find?_isSome]
                exact ⟨q, hq, by simp⟩
              obtain ⟨q', hq'⟩ := hf
              exact hpl q.g q.l.length ⟨q'.g, q'.l.length, q'.l.length, 0⟩ (by unfold phiOf; rw [hq'])
            obtain ⟨q, hq1, hq2, _⟩ := glHeap_get (fun q hq => Nat.lt_of_lt_of_le (hgl q hq) hh0.lim) hid8 hb
            exact hl (hq2 ▸ hgl q hq1)
      · rw [hnx0]; exact hR8
      · rw [hnx0]; exact hs1
      · intro g hg
        obtain ⟨p, g1, g2⟩ := hh0.gp g hg
        exact ⟨p, by rw [p0lt (hpl _ _ _ g1)]; exact g1, g2⟩
      · intro b o hbo
        refine ⟨(hr.gl b o hbo).1, fun id ver p hp _ => ?_⟩
        show id < lim + m.ins.length
        rcases p0some hp with ⟨g1, g2⟩ | ⟨g1, g2, _⟩
        · omega
        · exact g2
    have hro : (m.h0 gs lim).ro.lim = lim + m.ins.length := rfl
    have hc := runF_ok ht n f m.args (m.h0 gs lim) (memoK0 m) (fun _ _ => false) hrun φ0 w vs hin (eqRs_VR p0in m2 hv)
    have hpost : ∀ e w', FPost φ0 ν (m.h0 gs lim).ro w (m.h0 gs lim).ds (memoK0 m) (fun _ _ => false) e w' → FPost φ ν h.ro w h.ds kr kp e w' := by
      intro e w' hp
      cases e with
      | returned v =>
        obtain ⟨φ', av, h', hvr, hr', hx, hro', _, hav⟩ := hp
        have hav : eqR noB m.res av = true := hav
        have hsame : ∀ b, b < w.heap.size → w'.heap[b]? = w.heap[b]? := fun b hb => hx.same b hb fun id ver p hp hl => by
          rw [hro] at hl
          rcases p0some hp with ⟨g1, _⟩ | ⟨_, g2, _⟩ <;> omega
        refine ⟨φ, m.res, h, eqR_VR (fun i j hij => by cases hij) hav hvr, ?_, ?_, rfl, rfl, hk'⟩
        · refine ⟨?_, hr.inj, ?_, hr.lim, hr.ro, hr.gp, ?_, hr.ub⟩
          · intro id ver p hp
            obtain ⟨g1, g2⟩ := hr.dom _ _ _ hp
            exact ⟨g1, Nat.lt_of_lt_of_le g2 hx.size⟩
          · intro id b hid hb
            exact BR.keep (fun i v p hp => hp) (fun v p hp => hp) (fun v p hp => hsame _ (hr.dom _ _ _ hp).2) (hr.bl id b hid hb)
          · intro b o hbo
            exact ⟨(hr'.gl b o hbo).1, (hr.gl b o hbo).2⟩
        · exact ⟨fun i v p hp => hp, hx.size, hx.os, hx.tape, hx.output, fun id ver p hp => .inl ⟨ver, p, hp, rfl⟩, fun b hb _ => hsame b hb, fun id ver p hp _ _ => hp⟩
      | panicked chain =>
        obtain ⟨φ', av, h', v, _, _, _, _, _, _, hav⟩ := hp
        cases hav
      | outgrown => exact hp
    rcases hc with ⟨h1, h2⟩ | ⟨v, w', h1, h2⟩
    · exact .inl ⟨h1, h2.mono hpost⟩
    · exact .inr ⟨v, w', h1, hpost _ _ h2⟩
end
end Go.Abs

/-
  A verified evaluator: a function of one text whose results (no references) are listed; over every program.
-/
namespace Go.Abs
set_option linter.unusedVariables false
noncomputable section
open Go.RowKit (Below)
def strOr3 (v : AV) (a : Nat → Nat → Bool) (b : Bool) : Bool :=
  AV.rec (motive_1 := fun _ => Bool) (motive_2 := fun _ => Bool) b (fun _ _ => b) b (fun _ => b) b (fun _ _ _ _ _ => b) (fun _ _ => b) b (fun _ _ _ => b) b b
    (fun _ _ => b) (fun _ _ _ => b) (fun _ _ _ _ _ _ => b) (fun l c => a l c) (fun _ => b) (fun _ _ => b) false (fun _ _ _ _ => false) v
theorem strOr3_true {v : AV} {a : Nat → Nat → Bool} {b : Bool} (h : strOr3 v a b = true) : (∃ l c, v = .str l c ∧ a l c = true) ∨ b = true := by
  cases v <;> first | exact .inl ⟨_, _, rfl, h⟩ | exact .inr h
def lookS (l c : Nat) (k : AV → Bool) (no : Bool) (T : List (Nat × Nat × AV)) : Bool :=
  List.rec (motive := fun _ => Bool) no (fun q _ ih => bif Nat.beq q.2.1 c && Nat.beq q.1 l then k q.2.2 else ih) T
theorem lookS_true {l c : Nat} {k : AV → Bool} {no : Bool} : ∀ {T : List (Nat × Nat × AV)}, lookS l c k no T = true → (∃ r, (l, c, r) ∈ T ∧ k r = true) ∨ no = true
  | [], h => .inr h
  | q :: T, h => by
    have h' : (bif Nat.beq q.2.1 c && Nat.beq q.1 l then k q.2.2 else lookS l c k no T) = true := h
    cases hb : (Nat.beq q.2.1 c && Nat.beq q.1 l) with
    | true =>
      rw [hb, cond_true] at h'
      rw [Bool.and_eq_true] at hb
      have e1 := nbT hb.1
      have e2 := nbT hb.2
      obtain ⟨a, b, r⟩ := q
      simp only at e1 e2 h'
      subst e1 e2
      exact .inl ⟨r, List.mem_cons_self, h'⟩
    | false =>
      rw [hb, cond_false] at h'
      rcases lookS_true h' with ⟨r, h1, h2⟩ | h1
      · exact .inl ⟨r, List.mem_cons_of_mem _ h1, h2⟩
      · exact .inr h1
def strTabD (T : List (Nat × Nat × AV)) (next : FnD) : FnD := fun cf args h kr kp =>
  (fun no => args1 args fun v => strOr3 v (fun l c => lookS l c (fun r => kr r h) no T) no) (next cf args h kr kp)
theorem FnsOkZ.app {P : Program} : ∀ {a b : List FnE}, FnsOkZ P a → FnsOkZ P b → FnsOkZ P (a ++ b)
  | [], _, _, h => h
  | _ :: _, _, ⟨h1, h2⟩, h => ⟨h1, FnsOkZ.app h2 h⟩
def strRuns (t : T4 FnD TD) (f : Nat) (h0 : H) (T : List (Nat × Nat × AV)) : Bool :=
  List.rec (motive := fun _ => Bool) true (fun q _ ih => andB (runF t 60 f [.str q.1 q.2.1] h0 (fun av _ => eqR noB q.2.2 av) (fun _ _ => false)) ih) T
theorem strRuns_true {t : T4 FnD TD} {f : Nat} {h0 : H} : ∀ {T : List (Nat × Nat × AV)}, strRuns t f h0 T = true → ∀ q ∈ T, runF t 60 f [.str q.1 q.2.1] h0 (fun av _ => eqR noB q.2.2 av) (fun _ _ => false) = true
  | [], _, q, hq => by cases hq
  | a :: T, h, q, hq => by
    obtain ⟨h1, h2⟩ := andB_true (show andB (runF t 60 f [.str a.1 a.2.1] h0 (fun av _ => eqR noB a.2.2 av) (fun _ _ => false)) (strRuns t f h0 T) = true from h)
    rcases List.mem_cons.1 hq with rfl | hq
    · exact h1
    · exact strRuns_true h2 q hq
theorem FnGood.strTab {P : Program} {ν : Nu} {t : T4 FnD TD} (ht : TblOk P ν t) {f : Nat} (hb : hasBody P f = true) {h0 : H} {φ0 : Phi} {T : List (Nat × Nat × AV)} (hrun : strRuns t f h0 T = true)
    (h0G : ∀ w : World, (∀ b o, (b, o) ∈ ν.G → w.heap[b]? = some o) → HR φ0 ν h0 w) (hlim : ∀ id ver p, φ0 id ver = some p → id < h0.ro.lim) {next : FnD} (hnext : FnGood P ν f next) : FnGood P ν f (strTabD T next) := by
  intro cf hcf args h kr kp hk φ w vs hr hv
  obtain ⟨v, hv1, hk1⟩ := args1_true (show args1 args (fun v => strOr3 v (fun l c => lookS l c (fun r => kr r h) (next cf args h kr kp) T) (next cf args h kr kp)) = true from hk)
  have other : next cf args h kr kp = true → CallOut P f vs w (FPost φ ν h.ro w h.ds kr kp) := fun hn => hnext cf hcf args h kr kp hn φ w vs hr hv
  rcases strOr3_true hk1 with ⟨l, c, e1, hk2⟩ | hk2
  · rcases lookS_true hk2 with ⟨r, hT, hkr⟩ | hk3
    · skip
      have hrun1 := strRuns_true hrun _ hT
      subst hv1 e1
      have hr0 := h0G w fun b o hbo => (hr.gl b o hbo).1
      have hv0 : VRs φ0 ν [.str l c] vs := by
        cases hv with
        | cons a b =>
          cases b
          cases a with
          | str hs => exact .cons (.str hs) .nil
      have hco := runF_ok ht 60 f [.str l c] h0 (fun av _ => eqR noB r av) (fun _ _ => false) hrun1 φ0 w vs hr0 hv0
      have hpost : ∀ e w', FPost φ0 ν h0.ro w h0.ds (fun av _ => eqR noB r av) (fun _ _ => false) e w' → FPost φ ν h.ro w h.ds kr kp e w' := by
        intro e w' hp
        cases e with
        | returned x =>
          obtain ⟨φ', av, h', hvr, hr', hx, _, _, hav⟩ := hp
          obtain ⟨g1, g2⟩ := hr.below (below_of_ext hx hlim)
          exact ⟨φ, r, h, eqR_VR (φ0 := φ) (fun i j hij => by cases hij) (show eqR noB r av = true from hav) hvr, g1, g2 _, rfl, rfl, hkr⟩
        | panicked chain =>
          obtain ⟨φ', av, h', v, _, _, _, _, _, _, hav⟩ := hp
          cases hav
        | outgrown => exact hp
      rcases hco with ⟨h1, h2⟩ | ⟨x, w', h1, h2⟩
      · exact .inl ⟨h1, h2.mono hpost⟩
      · exact .inr ⟨x, w', h1, hpost _ _ h2⟩
    · exact other hk3
  · exact other hk2
end
end Go.Abs

/-
  A verified evaluator: a number's decimal numeral (strconv.Itoa), by contract.
-/
namespace Go.Abs
noncomputable section
def decK (fuel : Nat) : Nat → (Nat → Nat → Bool) → Bool :=
  Nat.rec (motive := fun _ => Nat → (Nat → Nat → Bool) → Bool) (fun _ _ => false)
    (fun _ ih u k => Bool.rec (motive := fun _ => Bool) (forceN (Nat.div u 10) fun v => ih v fun l c => forceN (Nat.add c (Nat.mul (Nat.pow 256 l) (Nat.add 48 (Nat.mod u 10)))) fun c => forceN (Nat.succ l) fun l => k l c)
      (forceN (Nat.add 48 u) fun c => k 1 c) (Nat.blt u 10)) fuel
theorem toNat_ofNat_small {n : Nat} (h : n < 256) : (UInt8.ofNat n).toNat = n := by
  show n % 256 = n
  omega
theorem decK_true : ∀ {fuel u : Nat} {k : Nat → Nat → Bool}, decK fuel u k = true → k (Lib.decDigits u).length (enc (Lib.decDigits u)) = true
  | 0, u, k, h => by cases h
  | n + 1, u, k, h => by
    have h' : Bool.rec (motive := fun _ => Bool) (forceN (Nat.div u 10) fun v => decK n v fun l c => forceN (Nat.add c (Nat.mul (Nat.pow 256 l) (Nat.add 48 (Nat.mod u 10)))) fun c => forceN (Nat.succ l) fun l => k l c)
      (forceN (Nat.add 48 u) fun c => k 1 c) (Nat.blt u 10) = true := h
    rw [Lib.decDigits]
    cases hb : Nat.blt u 10 with
    | true =>
      rw [hb] at h'
      have hu : u < 10 := by rw [Nat.blt_eq] at hb; exact hb
      simp only [forceN_eq] at h'
      rw [dif_pos hu]
      have e : enc [UInt8.ofNat (48 + u)] = Nat.add 48 u := by
        show (UInt8.ofNat (48 + u)).toNat + 256 * 0 = 48 + u
        rw [toNat_ofNat_small (by omega)]; omega
      rw [e]
      exact h'
    | false =>
      rw [hb] at h'
      have hu : ¬ u < 10 := by
        intro hu
        have : Nat.blt u 10 = true := by rw [Nat.blt_eq]; exact hu
        rw [hb] at this; cases this
      simp only [forceN_eq] at h'
      have h2 := decK_true (u := u / 10) h'
      rw [dif_neg hu]
      have e : enc (Lib.decDigits (u / 10) ++ [UInt8.ofNat (48 + u % 10)]) = Nat.add (enc (Lib.decDigits (u / 10))) (Nat.mul (Nat.pow 256 (Lib.decDigits (u / 10)).length) (Nat.add 48 (Nat.mod u 10))) := by
        rw [enc_append]
        show _ = enc (Lib.decDigits (u / 10)) + 256 ^ (Lib.decDigits (u / 10)).length * (48 + u % 10)
        congr 1
        show _ * ((UInt8.ofNat (48 + u % 10)).toNat + 256 * 0) = _
        rw [toNat_ofNat_small (by omega)]; rfl
      rw [e, List.length_append]
      exact h2
def itoaD : FnD := fun _ args h kr _ => args1 args fun x => vInt x fun K n => chk (isIntK K .i64) (Int.rec (motive := fun _ => Bool)
  (fun m => chk (Nat.blt m 9223372036854775808) (decK 25 m fun l c => kr (.str l c) h))
  (fun m => chk (Nat.blt m 9223372036854775808) (forceN (Nat.succ m) fun m => decK 25 m fun l c => forceN (Nat.succ l) fun l => forceN (Nat.add 45 (Nat.mul 256 c)) fun c => kr (.str l c) h)) n)
theorem isStr_list (l : List UInt8) : IsStr l.length (enc l) ⟨l.toArray⟩ := ⟨by simp [ByteArray.size], by simp⟩
theorem itoa_good {P : Program} {ν : Nu} {f : Nat} (hb : hasBody P f = true) (hg : TabCell P ν "internal/strconv.uint64pow10" .u64 Lib.pow10Tab)
    (hC : ∀ (n : Int) (w : World), -9223372036854775808 ≤ n → n ≤ 9223372036854775807 → Lib.TabIs P w "internal/strconv.uint64pow10" .u64 Lib.pow10Tab →
      Calls P f #[.int .i64 n] w fun e w' => e = .returned (.string ⟨(Lib.itoa n).toArray⟩) ∧ Go.RowKit.Below w.heap.size w w') : FnGood P ν f itoaD := by
  refine FnGood.plain hb fun cf args h φ w vs kr kp hk hr hv => ?_
  obtain ⟨x, e0, hk1⟩ := args1_true hk
  obtain ⟨K, n, e1, hk2⟩ := vInt_true hk1
  obtain ⟨c1, hk3⟩ := chk_true hk2
  have hK := isIntK_true c1
  subst e0 e1 hK
  cases hv with
  | cons h1 hv =>
    cases hv with
    | nil =>
      cases h1 with
      | int =>
        cases n with
        | ofNat m =>
          obtain ⟨c2, hk4⟩ := chk_true hk3
          rw [Nat.blt_eq] at c2
          have hk5 := decK_true hk4
          have e : Lib.itoa (Int.ofNat m) = Lib.decDigits m := by
            unfold Lib.itoa
            rw [if_neg (by simp)]; rfl
          refine ⟨_, _, hC (Int.ofNat m) w (by have : Int.ofNat m = (m : Int) := rfl; omega) (by have : Int.ofNat m = (m : Int) := rfl; omega) (hg.is hr), ?_, hk5⟩
          rw [e]
          exact .str (isStr_list _)
        | negSucc m =>
          obtain ⟨c2, hk4⟩ := chk_true hk3
          rw [Nat.blt_eq] at c2
          rw [forceN_eq] at hk4
          have hk5 := decK_true hk4
          simp only [forceN_eq] at hk5
          have e : Lib.itoa (Int.negSucc m) = 45 :: Lib.decDigits (Nat.succ m) := by
            unfold Lib.itoa
            rw [if_pos (Int.negSucc_lt_zero m)]; rfl
          refine ⟨_, _, hC (Int.negSucc m) w (by omega) (by omega) (hg.is hr), ?_, hk5⟩
          rw [e]
          exact .str (isStr_list (45 :: Lib.decDigits (Nat.succ m)))
end
end Go.Abs

/-
  A verified evaluator: blocks compared with patterns, quickly: rows that the pattern does not bear, and cells behind its rows' ends, are not looked at.
-/
namespace Go.Abs
set_option linter.unusedVariables false
noncomputable section
def isNiliB (v : AV) : Bool := AV.rec (motive_1 := fun _ => Bool) (motive_2 := fun _ => Bool) false (fun _ _ => false) false (fun _ => false) false (fun _ _ _ _ _ => false) (fun _ _ => false) true (fun _ _ _ => false) false false
    (fun _ _ => false) (fun _ _ _ => false) (fun _ _ _ _ _ _ => false) (fun _ _ => false) (fun _ => false) (fun _ _ => false) false (fun _ _ _ _ => false) v
theorem isNiliB_true {v : AV} (h : isNiliB v = true) : v = .nili := by cases v <;> first | rfl | cases h
def isNilpB (v : AV) : Bool := AV.rec (motive_1 := fun _ => Bool) (motive_2 := fun _ => Bool) false (fun _ _ => false) false (fun _ => false) false (fun _ _ _ _ _ => false) (fun _ _ => false) false (fun _ _ _ => false) true false
    (fun _ _ => false) (fun _ _ _ => false) (fun _ _ _ _ _ _ => false) (fun _ _ => false) (fun _ => false) (fun _ _ => false) false (fun _ _ _ _ => false) v
theorem isNilpB_true {v : AV} (h : isNilpB v = true) : v = .nilp := by cases v <;> first | rfl | cases h
def eqF (e : Nat → Nat → Bool) (p : AV) : AV → Bool := AV.rec (motive_1 := fun _ => AV → Bool) (motive_2 := fun _ => Bool) (fun _ => true) (fun _ _ _ => false) (fun _ => false) (fun _ _ => false) (fun _ => false) (fun _ _ _ _ _ _ => false) (fun _ _ _ => false)
    isNiliB (fun _ _ _ _ => false) isNilpB (fun b => vSl b true fun _ _ _ _ _ _ => false)
    (fun _ _ _ => false) (fun i v o b => vPtr b fun i' v' o' => andB (e i i') (andB (Nat.beq v v') (Nat.beq o o')))
    (fun i v o l m x b => vSl b false fun i' v' o' l' m' x' => andB (e i i') (andB (Nat.beq v v') (andB (Nat.beq o o') (andB (Nat.beq l l') (andB (Nat.beq m m') (eqBool x x'))))))
    (fun l c b => vStr b fun l' c' => andB (Nat.beq l l') (Nat.beq c c')) (fun x b => vBool b fun y => eqBool x y) (fun k n b => vInt b fun k' n' => andB (isIntK k k') (eqInt n n')) false (fun _ _ _ _ => false) p
section
variable {e : Nat → Nat → Bool} {φ φ0 : Phi} {ν ν' : Nu}
theorem eqF_VR (he : ∀ i j, e i j = true → ∀ ver p, φ j ver = some p → φ0 i ver = some p) {a b : AV} {v : Value} (h : eqF e a b = true) (hv : VR φ ν b v) : VR φ0 ν' a v := by
  cases a with
  | unk => exact .unk v
  | nili => have h' : isNiliB b = true := h; cases isNiliB_true h'; cases hv; exact .nili
  | nilp => have h' : isNilpB b = true := h; cases isNilpB_true h'; cases hv; exact .nilp
  | nils =>
    have h' : vSl b true (fun _ _ _ _ _ _ => false) = true := h
    rcases vSl_true h' with ⟨e1, _⟩ | ⟨_, _, _, _, _, _, _, e2⟩
    · subst e1; cases hv; exact .nils
    · cases e2
  | ptr i k o =>
    have h' : vPtr b (fun i' v' o' => andB (e i i') (andB (Nat.beq k v') (Nat.beq o o'))) = true := h
    obtain ⟨i', v', o', e1, h'⟩ := vPtr_true h'
    obtain ⟨h1, h2⟩ := andB_true h'; obtain ⟨h2, h3⟩ := andB_true h2
    subst e1
    cases hv with | ptr hp => rw [nbT h2, nbT h3]; exact .ptr (he _ _ h1 _ _ hp)
  | sl i k o l m x =>
    have h' : vSl b false (fun i' v' o' l' m' x' => andB (e i i') (andB (Nat.beq k v') (andB (Nat.beq o o') (andB (Nat.beq l l') (andB (Nat.beq m m') (eqBool x x')))))) = true := h
    rcases vSl_true h' with ⟨_, e2⟩ | ⟨i', v', o', l', m', x', e1, h'⟩
    · cases e2
    · obtain ⟨h1, h2⟩ := andB_true h'; obtain ⟨h2, h3⟩ := andB_true h2; obtain ⟨h3, h4⟩ := andB_true h3; obtain ⟨h4, h5⟩ := andB_true h4; obtain ⟨h5, h6⟩ := andB_true h5
      subst e1
      cases hv with
      | sl hp g1 g2 g3 g4 g5 =>
        rw [nbT h2, nbT h3, nbT h4, nbT h5, eqBool_true h6]
        exact .sl (he _ _ h1 _ _ hp) g1 g2 g3 g4 g5
  | str l c =>
    have h' : vStr b (fun l' c' => andB (Nat.beq l l') (Nat.beq c c')) = true := h
    obtain ⟨l', c', e1, h'⟩ := vStr_true h'
    obtain ⟨h1, h2⟩ := andB_true h'
    subst e1
    cases hv with | str p => rw [nbT h1, nbT h2]; exact .str p
  | bool x =>
    have h' : vBool b (fun y => eqBool x y) = true := h
    obtain ⟨y, e1, h'⟩ := vBool_true h'
    subst e1
    cases hv; rw [eqBool_true h']; exact .bool _
  | int k n =>
    have h' : vInt b (fun k' n' => andB (isIntK k k') (eqInt n n')) = true := h
    obtain ⟨k', n', e1, h'⟩ := vInt_true h'
    obtain ⟨h1, h2⟩ := andB_true h'
    subst e1
    cases hv; rw [isIntK_true h1, eqInt_true h2]; exact .int _ _
  | sym _ _ => cases h
  | nilm => cases h
  | mp _ => cases h
  | nilf => cases h
  | fn _ _ _ => cases h
  | tup _ => cases h
  | iface _ _ => cases h
  | agg _ => cases h
def eqPre (e : Nat → Nat → Bool) (l : List AV) : List AV → Bool :=
  List.rec (motive := fun _ => List AV → Bool) (fun _ => true) (fun a _ ih m => List.rec (motive := fun _ => Bool) false (fun b m' _ => andB (eqF e a b) (ih m')) m) l
theorem eqPre_getD (he : ∀ i j, e i j = true → ∀ ver p, φ j ver = some p → φ0 i ver = some p) : ∀ {a b : List AV}, eqPre e a b = true → ∀ (k : Nat) (v : Value), VR φ ν (b.getD k .unk) v → VR φ0 ν' (a.getD k .unk) v
  | [], b, h, k, v, hv => by simp; exact .unk v
  | x :: l, [], h, k, v, hv => by cases h
  | x :: l, y :: m, h, k, v, hv => by
    have h' : andB (eqF e x y) (eqPre e l m) = true := h
    obtain ⟨h1, h2⟩ := andB_true h'
    cases k with
    | zero => simpa using eqF_VR he h1 (by simpa using hv)
    | succ k => simpa using eqPre_getD he h2 k v (by simpa using hv)
end
def leafO (e : Nat → Nat → Bool) (o o' : Option (List AV)) : Bool := Option.rec (motive := fun _ => Bool) true (fun l => Option.rec (motive := fun _ => Bool) false (fun l' => eqPre e l l') o') o
theorem leafO_true {e : Nat → Nat → Bool} {o o' : Option (List AV)} (h : leafO e o o' = true) {l : List AV} (hl : o = some l) : ∃ l', o' = some l' ∧ eqPre e l l' = true := by
  subst hl
  cases o' with
  | none => cases h
  | some l' => exact ⟨l', rfl, h⟩
def eqT (e : Nat → Nat → Bool) : (d : Nat) → T4 (List AV) d → T4 (List AV) d → Nat → Bool :=
  Nat.rec (motive := fun d => T4 (List AV) d → T4 (List AV) d → Nat → Bool) (fun t t' n => Bool.rec (motive := fun _ => Bool) true (leafO e t t') (Nat.blt 0 n))
    (fun d ih t t' n => Q.rec (motive := fun _ => Bool) (fun a b c g => Q.rec (motive := fun _ => Bool) (fun a' b' c' g' => forceN (Nat.pow (nat_lit 4) d) fun w =>
      andB (ih a a' n) (Bool.rec (motive := fun _ => Bool) true (forceN (Nat.sub n w) fun n => andB (ih b b' n) (Bool.rec (motive := fun _ => Bool) true (forceN (Nat.sub n w) fun n => andB (ih c c' n) (Bool.rec (motive := fun _ => Bool) true (forceN (Nat.sub n w) fun n => ih g g' n) (Nat.blt w n))) (Nat.blt w n))) (Nat.blt w n))) t') t)
theorem eqT_true {e : Nat → Nat → Bool} : ∀ {d : Nat} {t t' : T4 (List AV) d} {n : Nat}, eqT e d t t' n = true → ∀ i, i < n → i < 4 ^ d → ∀ l, T4.get d i t = some l → ∃ l', T4.get d i t' = some l' ∧ eqPre e l l' = true
  | 0, t, t', n, h, i, hi, h4, l, hl => by
    have h' : Bool.rec (motive := fun _ => Bool) true (leafO e t t') (Nat.blt 0 n) = true := h
    have hb : Nat.blt 0 n = true := by rw [Nat.blt_eq]; omega
    rw [hb] at h'
    exact leafO_true h' hl
  | d + 1, t, t', n, h, i, hi, h4, l, hl => by
    match t, t' with
    | ⟨a, b, c, g⟩, ⟨a', b', c', g'⟩ =>
      have h' : forceN (Nat.pow 4 d) (fun w =>
        andB (eqT e d a a' n) (Bool.rec (motive := fun _ => Bool) true (forceN (Nat.sub n w) fun n => andB (eqT e d b b' n) (Bool.rec (motive := fun _ => Bool) true (forceN (Nat.sub n w) fun n => andB (eqT e d c c' n) (Bool.rec (motive := fun _ => Bool) true (forceN (Nat.sub n w) fun n => eqT e d g g' n) (Nat.blt w n))) (Nat.blt w n))) (Nat.blt w n))) = true := h
      simp only [forceN_eq] at h'
      obtain ⟨k0, h'⟩ := andB_true h'
      have hp : 0 < 4 ^ d := Nat.pow_pos (by decide)
      have hw : Nat.pow 4 d = 4 ^ d := rfl
      rw [hw] at h'
      have hq : i / 4 ^ d < 4 := by rw [Nat.div_lt_iff_lt_mul hp]; rw [Nat.pow_succ] at h4; omega
      have hdm := Nat.div_add_mod i (4 ^ d)
      have hm := Nat.mod_lt i hp
      have hl : T4.get d (i % 4 ^ d) (Q.get (α := T4 (List AV) d) (i / 4 ^ d) ⟨a, b, c, g⟩) = some l := hl
      show ∃ l', T4.get d (i % 4 ^ d) (Q.get (α := T4 (List AV) d) (i / 4 ^ d) ⟨a', b', c', g'⟩) = some l' ∧ eqPre e l l' = true
      generalize hi4 : i / 4 ^ d = q at hq hdm hl ⊢
      rcases q with _ | _ | _ | _ | q
      · exact eqT_true k0 _ (by omega) hm l hl
      · have hb : Nat.blt (4 ^ d) n = true := by rw [Nat.blt_eq]; omega
        rw [hb] at h'
        obtain ⟨k1, h'⟩ := andB_true h'
        exact eqT_true k1 _ (by show i % 4 ^ d < n - 4 ^ d; omega) hm l hl
      · have hb : Nat.blt (4 ^ d) n = true := by rw [Nat.blt_eq]; omega
        rw [hb] at h'
        obtain ⟨k1, h'⟩ := andB_true h'
        have hb : Nat.blt (4 ^ d) (Nat.sub n (4 ^ d)) = true := by rw [Nat.blt_eq]; show 4 ^ d < n - 4 ^ d; omega
        rw [hb] at h'
        obtain ⟨k2, h'⟩ := andB_true h'
        exact eqT_true k2 _ (by show i % 4 ^ d < n - 4 ^ d - 4 ^ d; omega) hm l hl
      · have hb : Nat.blt (4 ^ d) n = true := by rw [Nat.blt_eq]; omega
        rw [hb] at h'
        obtain ⟨k1, h'⟩ := andB_true h'
        have hb : Nat.blt (4 ^ d) (Nat.sub n (4 ^ d)) = true := by rw [Nat.blt_eq]; show 4 ^ d < n - 4 ^ d; omega
        rw [hb] at h'
        obtain ⟨k2, h'⟩ := andB_true h'
        have hb : Nat.blt (4 ^ d) (Nat.sub (Nat.sub n (4 ^ d)) (4 ^ d)) = true := by rw [Nat.blt_eq]; show 4 ^ d < n - 4 ^ d - 4 ^ d; omega
        rw [hb] at h'
        exact eqT_true h' _ (by show i % 4 ^ d < n - 4 ^ d - 4 ^ d - 4 ^ d; omega) hm l hl
      · omega
def eqRT (e : Nat → Nat → Bool) (rows rows' : RT (List AV) RD) (n : Nat) : Bool := andB (leafO e rows.r0 rows'.r0) (eqT e RD rows.rest rows'.rest n)
def eqCB (e : Nat → Nat → Bool) (b b' : AB) : Bool :=
  AB.rec (motive := fun _ => AB → Bool) (fun s n lw fz opn el rows b' => AB.rec (motive := fun _ => Bool) (fun s' n' lw' fz' opn' el' rows' =>
    andB (Nat.beq s s') (andB (Nat.beq n n') (andB (andB (Nat.ble lw' lw) (Nat.ble lw n)) (andB (Nat.beq fz fz') (andB (eqBool opn opn') (andB (Nat.beq el el') (forceN (Nat.div (Nat.sub (Nat.add n s) 1) s) fun k => andB (Nat.ble k 4096) (eqRT e rows rows' k)))))))) (fun _ _ => false) (fun _ _ _ => false) (fun _ => false) b')
    (fun _ _ _ => false) (fun _ _ _ _ => false) (fun _ _ => false) b b'
theorem eqCB_BR {e : Nat → Nat → Bool} {φ φ0 : Phi} {ν ν' : Nu} {w : World} (he : ∀ i j, e i j = true → ∀ ver p, φ j ver = some p → φ0 i ver = some p) {i j : Nat} (hij : ∀ ver p, φ0 i ver = some p → φ j ver = some p) {b b' : AB} (h : eqCB e b b' = true) (hb : BR φ ν w j b') : BR φ0 ν' w i b := by
  cases b <;> cases b' <;> try (cases h; done)
  rename_i s n lw fz opn el rows s' n' lw' fz' opn' el' rows'
  have h : andB (Nat.beq s s') (andB (Nat.beq n n') (andB (andB (Nat.ble lw' lw) (Nat.ble lw n)) (andB (Nat.beq fz fz') (andB (eqBool opn opn') (andB (Nat.beq el el') (forceN (Nat.div (Nat.sub (Nat.add n s) 1) s) fun k => andB (Nat.ble k 4096) (eqRT e rows rows' k))))))) = true := h
  rw [forceN_eq] at h
  obtain ⟨h1, h⟩ := andB_true h
  obtain ⟨h2, h⟩ := andB_true h
  obtain ⟨h3, h⟩ := andB_true h
  obtain ⟨h4, h⟩ := andB_true h
  obtain ⟨h5, h⟩ := andB_true h
  obtain ⟨h6, h⟩ := andB_true h
  obtain ⟨h8, h⟩ := andB_true h
  obtain ⟨r1, r2⟩ := andB_true h
  clear h
  obtain ⟨h3, h7⟩ := andB_true h3
  have h1 := nbT h1; have h2 := nbT h2; have h3 := nlT h3; have h4 := nbT h4
  have h7 := nlT h7
  have h8 : (n + s - 1) / s ≤ 4096 := nlT h8
  have h5 := eqBool_true h5; have h6 := nbT h6
  subst h1 h2 h4 h5 h6
  obtain ⟨_, g1, g2, g3⟩ := hb
  refine ⟨trivial, h7, g2, fun ver p hp => ?_⟩
  obtain ⟨a1, a2, a3⟩ := g3 ver p (hij _ _ hp)
  refine ⟨a1, a2, fun hl => ?_⟩
  obtain ⟨c, fr, e1, e2, e3, e4, e5, e6⟩ := a3 (Nat.le_trans h3 hl)
  refine ⟨c, fr, e1, e2, e3, fun k hk => ?_, e5, e6⟩
  obtain ⟨v, v1, v2, v3⟩ := e4 k hk
  refine ⟨v, v1, v2, ?_⟩
  have hkn : k / s < (n + s - 1) / s := by
    rw [Nat.div_lt_iff_lt_mul g2]
    have h0 := Nat.div_add_mod (n + s - 1) s
    have h1 := Nat.mod_lt (n + s - 1) g2
    rw [Nat.mul_comm]
    omega
  unfold cellAt at v3 ⊢
  cases hq : RT.get (k / s) rows with
  | none => exact .unk v
  | some l =>
    have hex : ∃ l', RT.get (k / s) rows' = some l' ∧ eqPre e l l' = true := by
      generalize k / s = q at hq hkn
      cases q with
      | zero => exact leafO_true r1 hq
      | succ q =>
        have hR : (4 : Nat) ^ RD = 4096 := by decide
        exact eqT_true r2 (q + 1) hkn (by omega) l hq
    obtain ⟨l', q1, q2⟩ := hex
    rw [q1] at v3
    exact eqPre_getD he q2 _ _ v3
/-! ### the same in continuations: nothing of it is kept by the kernel -/
def vIntN (v : AV) (no : Bool) (k : IntKind → Int → Bool) : Bool :=
  AV.rec (motive_1 := fun _ => Bool) (motive_2 := fun _ => Bool) no (fun _ _ => no) no (fun _ => no) no (fun _ _ _ _ _ => no) (fun _ _ => no) no (fun _ _ _ => no) no no
    (fun _ _ => no) (fun _ _ _ => no) (fun _ _ _ _ _ _ => no) (fun _ _ => no) (fun _ => no) k no (fun _ _ _ _ => no) v
def vStrN (v : AV) (no : Bool) (k : Nat → Nat → Bool) : Bool :=
  AV.rec (motive_1 := fun _ => Bool) (motive_2 := fun _ => Bool) no (fun _ _ => no) no (fun _ => no) no (fun _ _ _ _ _ => no) (fun _ _ => no) no (fun _ _ _ => no) no no
    (fun _ _ => no) (fun _ _ _ => no) (fun _ _ _ _ _ _ => no) k (fun _ => no) (fun _ _ => no) no (fun _ _ _ _ => no) v
def ifK (c k no : Bool) : Bool := Bool.rec (motive := fun _ => Bool) no k c
theorem ifK_true {c k no : Bool} (h : ifK c k no = true) : (c = true ∧ k = true) ∨ no = true := by
  cases c
  · exact .inr h
  · exact .inl ⟨rfl, h⟩
def eqIntC (a b : Int) (k no : Bool) : Bool := Int.rec (motive := fun _ => Bool) (fun n => Int.rec (motive := fun _ => Bool) (fun m => ifK (Nat.beq n m) k no) (fun _ => no) b) (fun n => Int.rec (motive := fun _ => Bool) (fun _ => no) (fun m => ifK (Nat.beq n m) k no) b) a
theorem eqIntC_true {a b : Int} {k no : Bool} (h : eqIntC a b k no = true) : (eqInt a b = true ∧ k = true) ∨ no = true := by
  cases a <;> cases b
  · exact ifK_true h
  · exact .inr h
  · exact .inr h
  · exact ifK_true h
def eqFK (e : Nat → Nat → Bool) (a b : AV) (k no : Bool) : Bool :=
  AV.rec (motive_1 := fun _ => Bool) (motive_2 := fun _ => Bool) k (fun x y => ifK (eqF e (.sym x y) b) k no) (ifK (eqF e .nilm b) k no) (fun x => ifK (eqF e (.mp x) b) k no) (ifK (eqF e .nilf b) k no) (fun x y z _ _ => ifK (eqF e (.fn x y z) b) k no) (fun x _ => ifK (eqF e (.tup x) b) k no)
    (ifK (eqF e .nili b) k no) (fun x y _ => ifK (eqF e (.iface x y) b) k no) (ifK (eqF e .nilp b) k no) (ifK (eqF e .nils b) k no)
    (fun x _ => ifK (eqF e (.agg x) b) k no) (fun i v o => ifK (eqF e (.ptr i v o) b) k no) (fun i v o l m x => ifK (eqF e (.sl i v o l m x) b) k no)
    (fun l c => vStrN b no fun l' c' => ifK (Nat.beq l l') (ifK (Nat.beq c c') k no) no) (fun x => ifK (eqF e (.bool x) b) k no) (fun K n => vIntN b no fun K' n' => ifK (isIntK K K') (eqIntC n n' k no) no) no (fun _ _ _ _ => no) a
theorem eqFK_true {e : Nat → Nat → Bool} {a b : AV} {k no : Bool} (h : eqFK e a b k no = true) : (eqF e a b = true ∧ k = true) ∨ no = true := by
  cases a with
  | unk => exact .inl ⟨rfl, h⟩
  | int K n =>
    cases b with
    | int K' n' =>
      rcases ifK_true (show ifK (isIntK K K') (eqIntC n n' k no) no = true from h) with ⟨h1, h2⟩ | h2
      · rcases eqIntC_true h2 with ⟨h3, h4⟩ | h4
        · exact .inl ⟨by show andB (isIntK K K') (eqInt n n') = true; rw [h1, h3]; rfl, h4⟩
        · exact .inr h4
      · exact .inr h2
    | _ => exact .inr h
  | str l c =>
    cases b with
    | str l' c' =>
      rcases ifK_true (show ifK (Nat.beq l l') (ifK (Nat.beq c c') k no) no = true from h) with ⟨h1, h2⟩ | h2
      · rcases ifK_true h2 with ⟨h3, h4⟩ | h4
        · exact .inl ⟨by show andB (Nat.beq l l') (Nat.beq c c') = true; rw [h1, h3]; rfl, h4⟩
        · exact .inr h4
      · exact .inr h2
    | _ => exact .inr h
  | _ => exact ifK_true h
def eqPreK (e : Nat → Nat → Bool) (l m : List AV) (k no : Bool) : Bool :=
  List.rec (motive := fun _ => List AV → Bool) (fun _ => k) (fun a _ ih m => List.rec (motive := fun _ => Bool) no (fun b m' _ => eqFK e a b (ih m') no) m) l m
theorem eqPreK_true {e : Nat → Nat → Bool} : ∀ {l m : List AV} {k no : Bool}, eqPreK e l m k no = true → (eqPre e l m = true ∧ k = true) ∨ no = true
  | [], m, k, no, h => .inl ⟨rfl, h⟩
  | a :: l, [], k, no, h => .inr h
  | a :: l, b :: m, k, no, h => by
    rcases eqFK_true (show eqFK e a b (eqPreK e l m k no) no = true from h) with ⟨h1, h2⟩ | h2
    · rcases eqPreK_true h2 with ⟨h3, h4⟩ | h4
      · exact .inl ⟨by show andB (eqF e a b) (eqPre e l m) = true; rw [h1, h3]; rfl, h4⟩
      · exact .inr h4
    · exact .inr h2
def leafOK (e : Nat → Nat → Bool) (o o' : Option (List AV)) (k no : Bool) : Bool := Option.rec (motive := fun _ => Bool) k (fun l => Option.rec (motive := fun _ => Bool) no (fun l' => eqPreK e l l' k no) o') o
theorem leafOK_true {e : Nat → Nat → Bool} {o o' : Option (List AV)} {k no : Bool} (h : leafOK e o o' k no = true) : (leafO e o o' = true ∧ k = true) ∨ no = true := by
  cases o with
  | none => exact .inl ⟨rfl, h⟩
  | some l =>
    cases o' with
    | none => exact .inr h
    | some l' => exact eqPreK_true h
def eqTK (e : Nat → Nat → Bool) (no : Bool) : (d : Nat) → T4 (List AV) d → T4 (List AV) d → Nat → Bool → Bool :=
  Nat.rec (motive := fun d => T4 (List AV) d → T4 (List AV) d → Nat → Bool → Bool) (fun t t' n k => ifK (Nat.blt 0 n) (leafOK e t t' k no) k)
    (fun d ih t t' n k => Q.rec (motive := fun _ => Bool) (fun a b c g => Q.rec (motive := fun _ => Bool) (fun a' b' c' g' => forceN (Nat.pow (nat_lit 4) d) fun w =>
      ih a a' n (ifK (Nat.blt w n) (forceN (Nat.sub n w) fun n => ih b b' n (ifK (Nat.blt w n) (forceN (Nat.sub n w) fun n => ih c c' n (ifK (Nat.blt w n) (forceN (Nat.sub n w) fun n => ih g g' n k) k)) k)) k)) t') t)
theorem ifK_or {c a k no : Bool} (h : ifK c a k = true) {x : Bool} (hx : a = true → (x = true ∧ k = true) ∨ no = true) : (Bool.rec (motive := fun _ => Bool) true x c = true ∧ k = true) ∨ no = true := by
  cases c
  · exact .inl ⟨rfl, h⟩
  · exact hx h
theorem andB_or {x y k no r : Bool} (h : (x = true ∧ r = true) ∨ no = true) (hr : r = true → (y = true ∧ k = true) ∨ no = true) : (andB x y = true ∧ k = true) ∨ no = true := by
  rcases h with ⟨h1, h2⟩ | h
  · rcases hr h2 with ⟨h3, h4⟩ | h4
    · exact .inl ⟨by rw [h1, h3]; rfl, h4⟩
    · exact .inr h4
  · exact .inr h
theorem eqTK_true {e : Nat → Nat → Bool} {no : Bool} : ∀ {d : Nat} {t t' : T4 (List AV) d} {n : Nat} {k : Bool}, eqTK e no d t t' n k = true → (eqT e d t t' n = true ∧ k = true) ∨ no = true
  | 0, t, t', n, k, h => ifK_or (show ifK (Nat.blt 0 n) (leafOK e t t' k no) k = true from h) fun h => leafOK_true h
  | d + 1, t, t', n, k, h => by
    match t, t' with
    | ⟨a, b, c, g⟩, ⟨a', b', c', g'⟩ =>
      have h' : forceN (Nat.pow 4 d) (fun w =>
        eqTK e no d a a' n (ifK (Nat.blt w n) (forceN (Nat.sub n w) fun n => eqTK e no d b b' n (ifK (Nat.blt w n) (forceN (Nat.sub n w) fun n => eqTK e no d c c' n (ifK (Nat.blt w n) (forceN (Nat.sub n w) fun n => eqTK e no d g g' n k) k)) k)) k)) = true := h
      show (forceN (Nat.pow 4 d) (fun w =>
        andB (eqT e d a a' n) (Bool.rec (motive := fun _ => Bool) true (forceN (Nat.sub n w) fun n => andB (eqT e d b b' n) (Bool.rec (motive := fun _ => Bool) true (forceN (Nat.sub n w) fun n => andB (eqT e d c c' n) (Bool.rec (motive := fun _ => Bool) true (forceN (Nat.sub n w) fun n => eqT e d g g' n) (Nat.blt w n))) (Nat.blt w n))) (Nat.blt w n))) = true ∧ k = true) ∨ no = true
      simp only [forceN_eq] at h' ⊢
      refine andB_or (eqTK_true h') fun h' => ifK_or h' fun h' => andB_or (eqTK_true h') fun h' => ifK_or h' fun h' => andB_or (eqTK_true h') fun h' => ifK_or h' fun h' => eqTK_true h'
def eqCBK (e : Nat → Nat → Bool) (b b' : AB) (k no : Bool) : Bool :=
  AB.rec (motive := fun _ => AB → Bool) (fun s n lw fz opn el rows b' => AB.rec (motive := fun _ => Bool) (fun s' n' lw' fz' opn' el' rows' =>
    ifK (Nat.beq s s') (ifK (Nat.beq n n') (ifK (andB (Nat.ble lw' lw) (Nat.ble lw n)) (ifK (Nat.beq fz fz') (ifK (eqBool opn opn') (ifK (Nat.beq el el') (forceN (Nat.div (Nat.sub (Nat.add n s) 1) s) fun j => ifK (Nat.ble j 4096) (leafOK e rows.r0 rows'.r0 (eqTK e no RD rows.rest rows'.rest j k) no) no) no) no) no) no) no) no) (fun _ _ => no) (fun _ _ _ => no) (fun _ => no) b')
    (fun _ _ _ => no) (fun _ _ _ _ => no) (fun _ _ => no) b b'
theorem eqCBK_true {e : Nat → Nat → Bool} {b b' : AB} {k no : Bool} (h : eqCBK e b b' k no = true) : (eqCB e b b' = true ∧ k = true) ∨ no = true := by
  cases b <;> try exact .inr h
  cases b' <;> try exact .inr h
  rename_i s n lw fz opn el rows s' n' lw' fz' opn' el' rows'
  have h : ifK (Nat.beq s s') (ifK (Nat.beq n n') (ifK (andB (Nat.ble lw' lw) (Nat.ble lw n)) (ifK (Nat.beq fz fz') (ifK (eqBool opn opn') (ifK (Nat.beq el el') (forceN (Nat.div (Nat.sub (Nat.add n s) 1) s) fun j => ifK (Nat.ble j 4096) (leafOK e rows.r0 rows'.r0 (eqTK e no RD rows.rest rows'.rest j k) no) no) no) no) no) no) no) no = true := h
  show (andB (Nat.beq s s') (andB (Nat.beq n n') (andB (andB (Nat.ble lw' lw) (Nat.ble lw n)) (andB (Nat.beq fz fz') (andB (eqBool opn opn') (andB (Nat.beq el el') (forceN (Nat.div (Nat.sub (Nat.add n s) 1) s) fun k => andB (Nat.ble k 4096) (eqRT e rows rows' k))))))) = true ∧ k = true) ∨ no = true
  rw [forceN_eq] at h ⊢
  exact andB_or (ifK_true h) fun h => andB_or (ifK_true h) fun h => andB_or (ifK_true h) fun h => andB_or (ifK_true h) fun h => andB_or (ifK_true h) fun h => andB_or (ifK_true h) fun h => andB_or (ifK_true h) fun h => andB_or (leafOK_true h) fun h => eqTK_true h
end
end Go.Abs

/-
  A verified evaluator: kept calls that write: one block of one row gets a new cell, a slice of a new block; the rest is as it was.
-/
namespace Go.Abs
set_option linter.unusedVariables false
noncomputable section
section
variable {e : Nat → Nat → Bool} {φ φ0 : Phi} {ν ν' : Nu}
mutual
theorem eqR_VR2 (he : ∀ i j, e i j = true → ∀ ver p, φ j ver = some p → φ0 i ver = some p) : ∀ {a b : AV} {v : Value}, eqR e a b = true → VR φ ν b v → VR φ0 ν' a v
  | .unk, b, v, h, hv => .unk v
  | .sym k s, b, v, h, hv => by cases b <;> simp [eqR] at h
  | .nilm, b, v, h, hv => by cases b <;> simp only [eqR] at h <;> first | (cases hv; exact .nilm) | cases h
  | .mp i, b, v, h, hv => by
    cases b <;> simp only [eqR] at h <;> first | (cases hv with | mp hp => exact .mp (he _ _ h _ _ hp)) | cases h
  | .nilf, b, v, h, hv => by cases b <;> simp only [eqR] at h <;> first | (cases hv; exact .nilf) | cases h
  | .fn f x y, b, v, h, hv => by
    cases b <;> simp only [eqR] at h <;> first
      | (obtain ⟨h1, h2⟩ := andB_true h; obtain ⟨h2, h3⟩ := andB_true h2; cases hv with | fn p q => rw [eqFn_true h1]; exact .fn (eqRs_VR2 he h2 p) (eqRs_VR2 he h3 q))
      | cases h
  | .tup x, b, v, h, hv => by
    cases b <;> simp only [eqR] at h <;> first | (cases hv with | tup p => exact .tup (eqRs_VR2 he h p)) | cases h
  | .nili, b, v, h, hv => by cases b <;> simp only [eqR] at h <;> first | (cases hv; exact .nili) | cases h
  | .iface t x, b, v, h, hv => by
    cases b <;> simp only [eqR] at h <;> first
      | (obtain ⟨h1, h2⟩ := andB_true h; cases hv with | iface p => rw [nbT h1]; exact .iface (eqR_VR2 he h2 p))
      | cases h
  | .nilp, b, v, h, hv => by cases b <;> simp only [eqR] at h <;> first | (cases hv; exact .nilp) | cases h
  | .nils, b, v, h, hv => by cases b <;> simp only [eqR] at h <;> first | (cases hv; exact .nils) | cases h
  | .agg x, b, v, h, hv => by
    cases b <;> simp only [eqR] at h <;> first | (cases hv with | agg p q => exact .agg (eqRs_VR2 he h p) q) | cases h
  | .ptr i j k, b, v, h, hv => by
    cases b <;> simp only [eqR] at h <;> first
      | (obtain ⟨h1, h2⟩ := andB_true h; obtain ⟨h2, h3⟩ := andB_true h2
         cases hv with | ptr hp => rw [nbT h2, nbT h3]; exact .ptr (he _ _ h1 _ _ hp))
      | cases h
  | .sl i j k l m x, b, v, h, hv => by
    cases b <;> simp only [eqR] at h <;> first
      | (obtain ⟨h1, h2⟩ := andB_true h; obtain ⟨h2, h3⟩ := andB_true h2; obtain ⟨h3, h4⟩ := andB_true h3; obtain ⟨h4, h5⟩ := andB_true h4; obtain ⟨h5, h6⟩ := andB_true h5
         cases hv with
         | sl hp g1 g2 g3 g4 g5 =>
           rw [nbT h2, nbT h3, nbT h4, nbT h5, eqBool_true h6]
           exact .sl (he _ _ h1 _ _ hp) g1 g2 g3 g4 g5)
      | cases h
  | .str i j, b, v, h, hv => by
    cases b <;> simp only [eqR] at h <;> first | (obtain ⟨h1, h2⟩ := andB_true h; cases hv with | str p => rw [nbT h1, nbT h2]; exact .str p) | cases h
  | .bool x, b, v, h, hv => by cases b <;> simp only [eqR] at h <;> first | (cases hv; rw [eqBool_true h]; exact .bool _) | cases h
  | .int k n, b, v, h, hv => by
    cases b <;> simp only [eqR] at h <;> first | (obtain ⟨h1, h2⟩ := andB_true h; cases hv; rw [isIntK_true h1, eqInt_true h2]; exact .int _ _) | cases h
theorem eqRs_VR2 (he : ∀ i j, e i j = true → ∀ ver p, φ j ver = some p → φ0 i ver = some p) : ∀ {a b : List AV} {v : List Value}, eqRs e a b = true → VRs φ ν b v → VRs φ0 ν' a v
  | [], b, v, h, hv => by cases b <;> simp only [eqRs] at h <;> first | (cases hv; exact .nil) | cases h
  | x :: l, b, v, h, hv => by
    cases b <;> simp only [eqRs] at h <;> first | (obtain ⟨h1, h2⟩ := andB_true h; cases hv with | cons p q => exact .cons (eqR_VR2 he h1 p) (eqRs_VR2 he h2 q)) | cases h
end
end
def insC (lim : Nat) (ρ : List Nat) (h : H) : List (Option AB) → List Nat → Bool
  | [], [] => true
  | some b :: l, j :: q => bif Nat.ble h.ro.lim j then bif Nat.blt j h.next then T4.getK HD j h.bl fun b' => andB (eqCB (relIn lim ρ) b b') (insC lim ρ h l q) else false else false
  | none :: l, j :: q => bif Nat.ble h.ro.lim j then insC lim ρ h l q else false
  | _, _ => false
theorem insC_true {lim : Nat} {ρ : List Nat} {h : H} : ∀ {l : List (Option AB)} {q : List Nat}, insC lim ρ h l q = true → l.length = q.length ∧ (∀ (i j : Nat), q[i]? = some j → h.ro.lim ≤ j) ∧
    ∀ (i : Nat) (b : AB), l[i]? = some (some b) → ∃ (j : Nat) (b' : AB), q[i]? = some j ∧ h.ro.lim ≤ j ∧ j < h.next ∧ T4.get HD j h.bl = some b' ∧ eqCB (relIn lim ρ) b b' = true
  | [], [], _ => ⟨rfl, fun i j h => by simp at h, fun i b h => by simp at h⟩
  | some b :: l, j :: q, hh => by
    unfold insC at hh
    cases h1 : Nat.ble h.ro.lim j with
    | false => rw [h1] at hh; cases hh
    | true =>
      rw [h1, cond_true] at hh
      cases h2 : Nat.blt j h.next with
      | false => rw [h2] at hh; cases hh
      | true =>
        rw [h2, cond_true] at hh
        obtain ⟨b', g1, hh⟩ := T4.getK_true _ _ _ _ hh
        obtain ⟨g2, g3⟩ := andB_true hh
        obtain ⟨r1, r0, r2⟩ := insC_true g3
        refine ⟨by simp [r1], fun i x hx => ?_, fun i x hx => ?_⟩
        · cases i with
          | zero => simp at hx; subst hx; exact nlT h1
          | succ i => exact r0 i x (by simpa using hx)
        · cases i with
          | zero => simp at hx; subst hx; exact ⟨j, b', rfl, nlT h1, by simpa [Nat.blt_eq] using h2, g1, g2⟩
          | succ i => simpa using r2 i x (by simpa using hx)
  | none :: l, j :: q, hh => by
    unfold insC at hh
    cases h1 : Nat.ble h.ro.lim j with
    | false => rw [h1] at hh; cases hh
    | true =>
      rw [h1, cond_true] at hh
      obtain ⟨r1, r0, r2⟩ := insC_true hh
      refine ⟨by simp [r1], fun i x hx => ?_, fun i x hx => ?_⟩
      · cases i with
        | zero => simp at hx; subst hx; exact nlT h1
        | succ i => exact r0 i x (by simpa using hx)
      · cases i with
        | zero => simp at hx
        | succ i => simpa using r2 i x (by simpa using hx)
  | [], _ :: _, hh => by cases hh
  | some _ :: _, [], hh => by cases hh
  | none :: _, [], hh => by cases hh
theorem T4.getK_get {α : Type} : ∀ {d i : Nat} {t : T4 α d} {x : α} {k : α → Bool}, T4.get d i t = some x → T4.getK d i t k = k x
  | 0, i, t, x, k, h => by
    have h' : (t : Option α) = some x := h
    show optK t k = k x
    rw [h']; rfl
  | d + 1, i, t, x, k, h => by
    rw [T4.getK_eq]
    exact T4.getK_get (d := d) h
def insCK (lim : Nat) (ρ : List Nat) (h : H) (no : Bool) : List (Option AB) → List Nat → Bool → Bool
  | [], [], k => k
  | some b :: l, j :: q, k => ifK (Nat.ble h.ro.lim j) (ifK (Nat.blt j h.next) (T4.getK HD j h.bl fun b' => eqCBK (relIn lim ρ) b b' (insCK lim ρ h no l q k) no) no) no
  | none :: l, j :: q, k => ifK (Nat.ble h.ro.lim j) (insCK lim ρ h no l q k) no
  | _, _, _ => no
theorem insCK_true {lim : Nat} {ρ : List Nat} {h : H} {no : Bool} : ∀ {l : List (Option AB)} {q : List Nat} {k : Bool}, insCK lim ρ h no l q k = true → (insC lim ρ h l q = true ∧ k = true) ∨ no = true
  | [], [], k, hh => .inl ⟨rfl, by unfold insCK at hh; exact hh⟩
  | some b :: l, j :: q, k, hh => by
    unfold insCK at hh
    unfold insC
    rcases ifK_true hh with ⟨h1, hh⟩ | hh
    · rcases ifK_true hh with ⟨h2, hh⟩ | hh
      · rw [h1, h2, cond_true, cond_true]
        obtain ⟨b', g1, hh⟩ := T4.getK_true _ _ _ _ hh
        rcases andB_or (eqCBK_true hh) fun hh => insCK_true hh with ⟨g2, g3⟩ | g3
        · exact .inl ⟨by rw [T4.getK_get g1]; exact g2, g3⟩
        · exact .inr g3
      · exact .inr hh
    · exact .inr hh
  | none :: l, j :: q, k, hh => by
    unfold insCK at hh
    unfold insC
    rcases ifK_true hh with ⟨h1, hh⟩ | hh
    · rw [h1, cond_true]; exact insCK_true hh
    · exact .inr hh
  | [], _ :: _, k, hh => .inr (by unfold insCK at hh; exact hh)
  | some _ :: _, [], k, hh => .inr (by unfold insCK at hh; exact hh)
  | none :: _, [], k, hh => .inr (by unfold insCK at hh; exact hh)
def memoDF (m : Memo2) (lim : Nat) (next : FnD) : FnD := fun cf args h kr kp =>
  (fun no => rhoK (flatA args) h no m.src [] fun ρ =>
    ifK (andB (nodupB ρ) (eqRs (relIn lim ρ) m.args args)) (insCK lim ρ h no m.ins ρ (kr m.res h)) no) (next cf args h kr kp)
theorem FnGood.memo0f {P : Program} {ν : Nu} {t : T4 FnD TD} (ht : TblOk P ν t) {n f : Nat} {gs : List Gl} {lim : Nat} (m : Memo2) (hrun : runF t n f m.args (m.h0 gs lim) (memoK0 m) (fun _ _ => false) = true)
    (h0G : ∀ w : World, (∀ b o, (b, o) ∈ ν.G → w.heap[b]? = some o) → HR (phiOf gs) ν (h0Of gs lim) w) (hgG : ∀ id ver p, phiOf gs id ver = some p → ∃ o, (p.blk, o) ∈ ν.G)
    (hs1 : lim + m.ins.length ≤ 1024) {next : FnD} (hnext : FnGood P ν f next) : FnGood P ν f (memoDF m lim next) := by
  intro cf hcf args h kr kp hk φ w vs hr hv
  have hk' : (rhoK (flatA args) h (next cf args h kr kp) m.src [] fun ρ =>
    ifK (andB (nodupB ρ) (eqRs (relIn lim ρ) m.args args)) (insCK lim ρ h (next cf args h kr kp) m.ins ρ (kr m.res h)) (next cf args h kr kp)) = true := hk
  rcases rhoK_true hk' with hk' | ⟨ρ, hk'⟩
  · exact hnext cf hcf args h kr kp hk' φ w vs hr hv
  rcases ifK_true hk' with ⟨hm, hk'⟩ | hk'
  rotate_left
  · exact hnext cf hcf args h kr kp hk' φ w vs hr hv
  rcases insCK_true hk' with ⟨m3, hk'⟩ | hk'
  rotate_left
  · exact hnext cf hcf args h kr kp hk' φ w vs hr hv
  · obtain ⟨m1, m2⟩ := andB_true hm
    have m1 := nodupB_true m1
    obtain ⟨m3, m5, m4⟩ := insC_true m3
    have hnx0 : (m.h0 gs lim).next = 1024 := rfl
    have hR8 : 1024 ≤ 4 ^ HD := by decide
    -- the frame of the kept call
    have hh0 := h0G w fun b o hbo => (hr.gl b o hbo).1
    let φ0 : Phi := fun id ver => if id < lim then phiOf gs id ver else match ρ[id - lim]? with | some j => φ j ver | none => none
    have p0lt : ∀ {id ver}, id < lim → φ0 id ver = phiOf gs id ver := fun h => if_pos h
    have p0ge : ∀ {id ver}, lim ≤ id → φ0 id ver = match ρ[id - lim]? with | some j => φ j ver | none => none := fun h => if_neg (by omega)
    have p0in : ∀ i j, relIn lim ρ i j = true → ∀ ver, φ0 i ver = φ j ver := fun i j hij ver => by
      obtain ⟨g1, g2⟩ := relIn_true hij
      rw [p0ge g1, g2]
    have hpl : ∀ id ver p, phiOf gs id ver = some p → id < lim := fun id ver p h => (hh0.dom id ver p h).1
    have p0some : ∀ {id ver p}, φ0 id ver = some p → (id < lim ∧ phiOf gs id ver = some p) ∨ (lim ≤ id ∧ id < lim + m.ins.length ∧ ∃ j, ρ[id - lim]? = some j ∧ φ j ver = some p) := by
      intro id ver p hp
      by_cases hl : id < lim
      · rw [p0lt hl] at hp; exact .inl ⟨hl, hp⟩
      · rw [p0ge (by omega)] at hp
        cases hq : ρ[id - lim]? with
        | none => rw [hq] at hp; cases hp
        | some j =>
          rw [hq] at hp
          have := (List.getElem?_eq_some_iff.1 hq).1
          exact .inr ⟨by omega, by omega, j, rfl, hp⟩
    have hin : HR φ0 ν (m.h0 gs lim) w := by
      refine ⟨?_, ?_, ?_, ?_, ?_, ?_, ?_, trivial⟩
      · intro id ver p hp
        rcases p0some hp with ⟨g1, g2⟩ | ⟨g1, g2, j, g3, g4⟩
        · exact ⟨by rw [hnx0]; exact Nat.lt_of_lt_of_le g1 (Nat.le_trans (Nat.le_add_right _ _) hs1), (hh0.dom _ _ _ g2).2⟩
        · exact ⟨by rw [hnx0]; exact Nat.lt_of_lt_of_le g2 hs1, (hr.dom _ _ _ g4).2⟩
      · intro id ver p id' ver' p' hp hp' he
        have hmix : ∀ {id ver p j ver' p'}, phiOf gs id ver = some p → φ j ver' = some p' → p.blk = p'.blk → (∃ i : Nat, ρ[i]? = some j) → False := by
          intro id ver p j ver' p' g1 g2 ge ⟨i, hi⟩
          obtain ⟨o, ho⟩ := hgG _ _ _ g1
          have h1 := (hr.gl _ _ ho).2 j ver' p' g2 ge.symm
          have q2 := m5 i _ hi
          omega
        rcases p0some hp with ⟨g1, g2⟩ | ⟨g1, g2, j, g3, g4⟩ <;> rcases p0some hp' with ⟨g1', g2'⟩ | ⟨g1', g2', j', g3', g4'⟩
        · exact hh0.inj _ _ _ _ _ _ g2 g2' he
        · exact (hmix g2 g4' he ⟨_, g3'⟩).elim
        · exact (hmix g2' g4 he.symm ⟨_, g3⟩).elim
        · have := hr.inj _ _ _ _ _ _ g4 g4' he
          subst this
          have h1 := (List.getElem?_eq_some_iff.1 g3).1
          have h2 := (List.getElem?_eq_some_iff.1 g3').1
          have : id - lim = id' - lim := (List.getElem_inj (h₀ := h1) (h₁ := h2) m1).1 (by rw [(List.getElem?_eq_some_iff.1 g3).2, (List.getElem?_eq_some_iff.1 g3').2])
          omega
      · intro id b hid hb
        rw [hnx0] at hid
        have hid8 : id < 4 ^ HD := Nat.lt_of_lt_of_le hid hR8
        have hb : T4.get HD id (insHeapO lim m.ins (glHeap gs)) = some b := hb
        rcases insHeapO_get (Nat.le_trans hs1 hR8) hid8 hb with ⟨hq, hb⟩ | hb
        · obtain ⟨j, b', q1, q2, q3, q4, q5⟩ := m4 _ _ hb
          refine eqCB_BR (φ := φ) (j := j) (fun i j hij ver p hp => by rw [p0in i j hij]; exact hp) (fun ver p hp => ?_) q5 (hr.bl j b' q3 q4)
          rw [p0ge hq, q1] at hp
          exact hp
        · by_cases hl : id < lim
          · refine BR.keep (φ := phiOf gs) (w := w) (fun i v p hp => by rw [p0lt (hpl _ _ _ hp)]; exact hp) (fun v p hp => by rw [p0lt hl] at hp; exact hp) (fun v p hp => rfl) (hh0.bl id b hl hb)
          · exfalso
            have hgl : ∀ q ∈ gs, q.g < lim := fun q hq => by
              have hf : ∃ q', gs.find? (fun r => Nat.beq r.g q.g && Nat.beq r.l.length q.l.length) = some q' := by
                rw [← Option.isSome_iff_exists, List.find?_isSome]
                exact ⟨q, hq, by simp⟩
              obtain ⟨q', hq'⟩ := hf
              exact hpl q.g q.l.length ⟨q'.g, q'.l.length, q'.l.length, 0⟩ (by unfold phiOf; rw [hq'])
            obtain ⟨q, hq1, hq2, _⟩ := glHeap_get (fun q hq => Nat.lt_of_lt_of_le (hgl q hq) hh0.lim) hid8 hb
            exact hl (hq2 ▸ hgl q hq1)
      · rw [hnx0]; exact hR8
      · rw [hnx0]; exact hs1
      · intro g hg
        obtain ⟨p, g1, g2⟩ := hh0.gp g hg
        exact ⟨p, by rw [p0lt (hpl _ _ _ g1)]; exact g1, g2⟩
      · intro b o hbo
        refine ⟨(hr.gl b o hbo).1, fun id ver p hp _ => ?_⟩
        show id < lim + m.ins.length
        rcases p0some hp with ⟨g1, g2⟩ | ⟨g1, g2, _⟩
        · omega
        · exact g2
    have hro : (m.h0 gs lim).ro.lim = lim + m.ins.length := rfl
    have hc := runF_ok ht n f m.args (m.h0 gs lim) (memoK0 m) (fun _ _ => false) hrun φ0 w vs hin (eqRs_VR p0in m2 hv)
    have hpost : ∀ e w', FPost φ0 ν (m.h0 gs lim).ro w (m.h0 gs lim).ds (memoK0 m) (fun _ _ => false) e w' → FPost φ ν h.ro w h.ds kr kp e w' := by
      intro e w' hp
      cases e with
      | returned v =>
        obtain ⟨φ', av, h', hvr, hr', hx, hro', _, hav⟩ := hp
        have hav : eqR noB m.res av = true := hav
        have hsame : ∀ b, b < w.heap.size → w'.heap[b]? = w.heap[b]? := fun b hb => hx.same b hb fun id ver p hp hl => by
          rw [hro] at hl
          rcases p0some hp with ⟨g1, _⟩ | ⟨_, g2, _⟩ <;> omega
        refine ⟨φ, m.res, h, eqR_VR (fun i j hij => by cases hij) hav hvr, ?_, ?_, rfl, rfl, hk'⟩
        · refine ⟨?_, hr.inj, ?_, hr.lim, hr.ro, hr.gp, ?_, hr.ub⟩
          · intro id ver p hp
            obtain ⟨g1, g2⟩ := hr.dom _ _ _ hp
            exact ⟨g1, Nat.lt_of_lt_of_le g2 hx.size⟩
          · intro id b hid hb
            exact BR.keep (fun i v p hp => hp) (fun v p hp => hp) (fun v p hp => hsame _ (hr.dom _ _ _ hp).2) (hr.bl id b hid hb)
          · intro b o hbo
            exact ⟨(hr'.gl b o hbo).1, (hr.gl b o hbo).2⟩
        · exact ⟨fun i v p hp => hp, hx.size, hx.os, hx.tape, hx.output, fun id ver p hp => .inl ⟨ver, p, hp, rfl⟩, fun b hb _ => hsame b hb, fun id ver p hp _ _ => hp⟩
      | panicked chain =>
        obtain ⟨φ', av, h', v, _, _, _, _, _, _, hav⟩ := hp
        cases hav
      | outgrown => exact hp
    rcases hc with ⟨h1, h2⟩ | ⟨v, w', h1, h2⟩
    · exact .inl ⟨h1, h2.mono hpost⟩
    · exact .inr ⟨v, w', h1, hpost _ _ h2⟩
structure MemoW where
  args : List AV
  ins : List (Option AB)
  src : List (Nat × Nat)
  s : Nat
  fz : Nat
  opn : Bool
  el : TypeId
  row : List AV
  ps : Nat
  res : AV
  k : Nat
  nb : AB
  pos : Nat
  ver : Nat
  off : Nat
  len : Nat
  mc : Nat
  fz1 : Nat
  opn1 : Bool
def MemoW.st (m : MemoW) : AB := .cells m.s m.s m.s m.fz m.opn m.el (row1 m.row)
def MemoW.all (m : MemoW) : List (Option AB) := m.ins ++ [some m.st]
def MemoW.h0 (m : MemoW) (gs : List Gl) (lim : Nat) : H := ⟨[], ⟨lim + m.ins.length, []⟩, 1024, insHeapO lim m.all (glHeap gs)⟩
def slB : AV → Bool
  | .nils => true
  | .sl _ _ _ _ _ _ => true
  | _ => false
def isSym : AV → Bool
  | .sym .u8 s => Nat.beq s 1000
  | _ => false
def putL (x : AV) : Nat → List AV → List AV
  | _, [] => []
  | 0, _ :: l => x :: l
  | i + 1, a :: l => a :: putL x i l
def rotL : List Nat → List Nat
  | [] => []
  | a :: l => l ++ [a]
end
end Go.Abs

/-
  A verified evaluator: the check of a storage ((*machines.State).Sum) by contract.
-/
namespace Go.Abs
noncomputable section
def fnv1 (h b : Nat) : Nat := Nat.mod (Nat.mul (Nat.xor h b) 1099511628211) 18446744073709551616
def foldS (s : Nat → Nat → Nat) (l : List UInt8) (h : Nat) : Nat := List.foldl (fun h b => s h b.toNat) h l
/-! ### the function's text -/
structure SumShape (P : Program) (f : FuncId) (TP TS TL U8 U64 I fld foff : Nat) : Prop where
  ex : ∃ fn i0 r0 i1 r1 i2 r2 i3 r3 i4 r4 i5 r5 i6 r6 i7 r7 i8 r8 i9 r9, P.funcs[f]? = some fn ∧ (fn.name == "runtime.NumGoroutine") = false ∧ fn.ntmps = 25 ∧ fn.results = #[.tmp 2] ∧
    fn.body = some (.seq (.region i0 r0 false) (.seq (.region i1 r1 false) (.seq (.seq (.region i2 r2 false) (.cond (.tmp 7) (.seq (.region i3 r3 false) .ret) .skip))
      (.seq (.seq (.region i4 r4 false) (.block 0 (.loop (.seq (.region i5 r5 false) (.seq (.cond (.tmp 15) .skip (.exit 0)) (.seq (.block 1 (.seq (.region i6 r6 false) (.region i7 r7 false))) (.region i8 r8 false))))))) (.seq (.region i9 r9 false) .ret))))) ∧
    r0.toList.map okey = [(some 2, .assign (.const (.int .u64 0)), none)] ∧
    r1.toList.map okey = [(some 3, .assign (.const (.int .u64 14695981039346656037)), none)] ∧
    r2.toList.map okey = [(some 6, .move (.tmp 0), none), (some 7, .binOp .eql TP (.tmp 6) (.const (.pointer none)) TP, none)] ∧
    r4.toList.map okey = [(some 9, .move (.tmp 0), none), (some 10, .nilCheck (.tmp 9), none), (some 11, .fieldAddr TS (.tmp 10) fld, none), (some 12, .load TL (.tmp 11), none), (some 13, .call { callee := .builtin .len, args := #[.tmp 12], argTypes := #[TL] }, none), (some 14, .move (.const (.int .i64 0)), none)] ∧
    r5.toList.map okey = [(some 15, .binOp .lss I (.tmp 14) (.tmp 13) I, none)] ∧
    r6.toList.map okey = [(some 16, .indexAddr TL (.tmp 12) (.tmp 14), none), (some 17, .load U8 (.tmp 16), none), (some 5, .assign (.tmp 17), none)] ∧
    r7.toList.map okey = [(some 18, .move (.tmp 3), none), (some 19, .move (.tmp 5), none), (some 20, .convert U8 U64 (.tmp 19), none), (some 21, .binOp .xor U64 (.tmp 18) (.tmp 20) U64, none), (some 22, .binOp .mul U64 (.tmp 21) (.const (.int .u64 1099511628211)) U64, none), (some 3, .assign (.tmp 22), none)] ∧
    r8.toList.map okey = [(some 23, .binOp .add I (.tmp 14) (.const (.int .i64 1)) I, none), (some 14, .move (.tmp 23), none)] ∧
    r9.toList.map okey = [(some 24, .move (.tmp 3), none), (some 2, .assign (.tmp 24), none)]
  tP : ∃ e, P.underlying TP = some (.pointer e)
  tS : ∃ fs g, P.underlying TS = some (.struct fs) ∧ fs[fld]? = some g ∧ g.offset = foff ∧ sizePos P g.type = true
  tL : P.underlying TL = some (.slice U8)
  tU : P.underlying U8 = some (.int .u8)
  tV : P.underlying U64 = some (.int .u64)
  iU : ∃ inf, P.info? U8 = some inf ∧ inf.size = 1
/-! ### what slots hold -/
def Fz (n : Nat) (A : Act) (l : List (Nat × Value)) : Prop := A.tmps.size = n ∧ A.defers = [] ∧ ∀ p ∈ l, A.eval (.tmp p.1) = p.2
theorem Fz.get {n : Nat} {A : Act} {l : List (Nat × Value)} (h : Fz n A l) (i : Nat) {t : Nat} {v : Value} (e : l[i]? = some (t, v)) : A.eval (.tmp t) = v := h.2.2 (t, v) (List.mem_of_getElem? e)
theorem Fz.put {n : Nat} {A : Act} {l : List (Nat × Value)} (h : Fz n A l) (d : Nat) (v : Value) (hd : Nat.blt d n = true) (hn : l.all (fun p => !Nat.beq p.1 d) = true) : Fz n (A.put (some d) v) ((d, v) :: l) := by
  refine ⟨by rw [size_put]; exact h.1, h.2.1, fun p hp => ?_⟩
  rcases List.mem_cons.1 hp with rfl | hp
  · exact eval_put_same _ (by rw [h.1]; simpa [Nat.blt_eq] using hd)
  · have hne : d ≠ p.1 := by
      intro e
      have h2 := List.all_eq_true.1 hn p hp
      rw [e] at h2
      simp at h2
    rw [eval_put_ne _ hne]
    exact h.2.2 p hp
theorem Fz.pick {n : Nat} {A : Act} {l : List (Nat × Value)} (h : Fz n A l) (is : List Nat) : Fz n A (is.filterMap fun i => l[i]?) := by
  refine ⟨h.1, h.2.1, fun p hp => ?_⟩
  obtain ⟨i, _, hi⟩ := List.mem_filterMap.1 hp
  exact h.2.2 p (List.mem_of_getElem? hi)
/-! ### operations -/
theorem run_field1 {P : Program} {ρ : Operand → Value} {o : Oper} {t : TypeId} {x : Operand} {fld b : Nat} {fs : Array Field} {g : Field} {W : World} (ho : o.op = .fieldAddr t x fld) (hd : P.underlying t = some (.struct fs)) (hg : fs[fld]? = some g) (hs : sizePos P g.type = true)
    (hx : ρ x = .pointer (some ⟨b, 0, none⟩)) : (execOp ρ o).run P W = .ok (.value (.pointer (some ⟨b, g.offset, none⟩))) W := by
  obtain ⟨inf, hinf, hsz⟩ := sizePos_true hs
  unfold execOp; rw [ho]
  simp [hx, Instr.fieldAt, run_underlying' hd, hg, Instr.sureAddr, fieldPlace, run_sizeOf' hinf, hsz, addr_add]
theorem run_nilc1 {P : Program} {ρ : Operand → Value} {o : Oper} {x : Operand} {a : Addr} {W : World} (ho : o.op = .nilCheck x) (hx : ρ x = .pointer (some a)) : (execOp ρ o).run P W = .ok (.value (.pointer (some a))) W := by
  unfold execOp; rw [ho]; simp [hx]
theorem run_nil1 {P : Program} {ρ : Operand → Value} {o : Oper} {t yt : TypeId} {x : Operand} {b j : Nat} {W : World} (ho : o.op = .binOp .eql t x (.const (.pointer none)) yt) {e : TypeId} (hd : P.underlying t = some (.pointer e)) (hx : ρ x = .pointer (some ⟨b, j, none⟩)) (hc : ρ (.const (.pointer none)) = .pointer none) : (execOp ρ o).run P W = .ok (.value (.bool false)) W := by
  have h1 : (Op.equal t (.pointer (some ⟨b, j, none⟩)) (.pointer none)).run P W = .ok false W := by
    rw [equal_succ]; generalize 9999 = n9; simp [Op.equalIn, run_underlying' hd]
  refine execOp_bin ho (by rw [hx, hc]; exact eqGuard_plain _ _ _ _ _ _ rfl) ?_
  rw [hx, hc]
  show ((do let b ← Op.equal t (.pointer (some ⟨b, j, none⟩)) (.pointer none); pure (.bool b) : Sem Value)).run P W = _
  simp [h1]
theorem run_binK {P : Program} {ρ : Operand → Value} {o : Oper} {op : BinOp} {t yt : TypeId} {x y : Operand} {K : IntKind} {a b : Int} {v : Value} {W : World} (ho : o.op = .binOp op t x y yt) (hx : ρ x = .int K a) (hy : ρ y = .int K b)
    (hb : (binOp op t (.int K a) (.int K b)).run P W = .ok v W) : (execOp ρ o).run P W = .ok (.value v) W :=
  execOp_bin ho (by rw [hx, hy]; exact eqGuard_plain _ _ _ _ _ _ rfl) (by rw [hx, hy]; exact hb)
theorem run_conv1 {P : Program} {ρ : Operand → Value} {o : Oper} {s t : TypeId} {x : Operand} {n : Nat} {W : World} (ho : o.op = .convert s t x) (hs : P.underlying s = some (.int .u8)) (ht : P.underlying t = some (.int .u64)) (hx : ρ x = .int .u8 (n : Int)) (hn : n < 256) : (execOp ρ o).run P W = .ok (.value (.int .u64 (n : Int))) W := by
  unfold execOp; rw [ho]
  have e : IntKind.wrap .u64 (n : Int) = n := wrap_small .u64 (n : Int) (by simp [loK]) (by simp [hiK]; omega)
  simp [hx, convert, run_underlying' hs, run_underlying' ht, Conv.intToInt, e]
theorem xor_nat {P : Program} {W : World} {t h b : Nat} (hh : h < 18446744073709551616) (hb : b < 256) : (binOp .xor t (.int .u64 (h : Int)) (.int .u64 (b : Int))).run P W = .ok (.int .u64 ((Nat.xor h b : Nat) : Int)) W := by
  have e1 : (BitVec.ofInt 64 (h : Int) ^^^ BitVec.ofInt 64 (b : Int)).toNat = Nat.xor h b := by
    have a1 : (BitVec.ofInt 64 (h : Int)).toNat = h := by simp; omega
    have a2 : (BitVec.ofInt 64 (b : Int)).toNat = b := by simp; omega
    rw [BitVec.toNat_xor, a1, a2]; rfl
  have lt : Nat.xor h b < 18446744073709551616 := Nat.xor_lt_two_pow (n := 64) (by omega) (by omega)
  generalize hx : Nat.xor h b = x at e1 lt ⊢
  have e2 : IntKind.wrap .u64 (x : Int) = (x : Int) := wrap_small .u64 _ (by simp [loK]) (by simp [hiK]; omega)
  have e3 : binOp .xor t (.int .u64 (h : Int)) (.int .u64 (b : Int)) = (pure (.int .u64 (IntKind.wrap .u64 ((BitVec.ofInt 64 (h : Int) ^^^ BitVec.ofInt 64 (b : Int)).toNat : Int))) : Sem Value) := by simp only [binOp, Op.intBits]; rfl
  rw [e3, e1, e2]; rfl
theorem mul_nat {P : Program} {W : World} {t h : Nat} : (binOp .mul t (.int .u64 (h : Int)) (.int .u64 1099511628211)).run P W = .ok (.int .u64 ((Nat.mod (Nat.mul h 1099511628211) 18446744073709551616 : Nat) : Int)) W := by
  have e : IntKind.wrap .u64 ((h : Int) * 1099511628211) = ((Nat.mod (Nat.mul h 1099511628211) 18446744073709551616 : Nat) : Int) := by
    show _ = (((h * 1099511628211) % 18446744073709551616 : Nat) : Int)
    simp [IntKind.wrap, IntKind.signed, IntKind.bits]
  simp [binOp, Op.intArith, e]
/-! ### the walk; the step as a variable -/
structure StepOk (s : Nat → Nat → Nat) (M pr : Nat) : Prop where
  xr : ∀ (P : Program) (W : World) (t h b : Nat), h < M → b < 256 → ∃ x : Nat, (binOp .xor t (.int .u64 (h : Int)) (.int .u64 (b : Int))).run P W = .ok (.int .u64 (x : Int)) W ∧
    ∀ t' : Nat, (binOp .mul t' (.int .u64 (x : Int)) (.int .u64 (pr : Int))).run P W = .ok (.int .u64 ((s h b : Nat) : Int)) W
  lt : ∀ h b, s h b < M
theorem foldS_snoc (s : Nat → Nat → Nat) (l : List UInt8) (b : UInt8) (h : Nat) : foldS s (l ++ [b]) h = s (foldS s l h) b.toNat := by simp [foldS]
theorem foldS_lt {s : Nat → Nat → Nat} {M : Nat} (hs : ∀ h b, s h b < M) (l : List UInt8) (h : Nat) (hh : h < M) : foldS s l h < M := by
  induction l generalizing h with
  | nil => exact hh
  | cons a l ih => exact ih _ (hs _ _)
theorem foldS_take (s : Nat → Nat → Nat) (l : List UInt8) (h i : Nat) (x : UInt8) (hx : l[i]? = some x) : foldS s (l.take (i + 1)) h = s (foldS s (l.take i) h) x.toNat := by
  rw [List.take_add_one, hx]; exact foldS_snoc s _ x h
section
variable {P : Program} {TP TS TL U8 U64 I fld foff : Nat} {f : FuncId} {s : Nat → Nat → Nat} {M pr h0 : Nat}
def SLoop (s : Nat → Nat → Nat) (h0 : Nat) (base off cap : Nat) (l : List UInt8) (i : Nat) (A : Act) : Prop :=
  Fz 25 A [(12, .slice (some ⟨base, off, none⟩) l.length cap), (13, goInt l.length), (14, .int .i64 (i : Int)), (3, .int .u64 ((foldS s (l.take i) h0 : Nat) : Int))]
theorem wr5 {i5 : Nat} {r5 : Array Oper} {base off cap i : Nat} {l : List UInt8} {A : Act} {W : World} {Q : Exit → Act → World → Prop}
    (k5 : r5.toList.map okey = [(some 15, .binOp .lss I (.tmp 14) (.tmp 13) I, none)]) (hI : SLoop s h0 base off cap l i A)
    (h : ∀ A', SLoop s h0 base off cap l i A' → A'.eval (.tmp 15) = .bool (decide (i < l.length)) → Q .normal A' W) : (Code.region i5 r5 false).wpIn (FW none) 1 P Q A W := by
  refine wpIn_region ?_
  rw [range_key k5]
  obtain ⟨o0, e0, d0, p0, g0⟩ := key_at k5 0 rfl
  refine stepV e0 g0 (run_binK p0 (hI.get 2 rfl) (hI.get 1 rfl) (v := .bool (decide (i < l.length))) (by simp [binOp, Op.intCmp])) ?_
  rw [d0]
  have F := Fz.put hI 15 (.bool (decide (i < l.length))) rfl rfl
  exact h _ (F.pick [1, 2, 3, 4]) (F.get 0 rfl)
theorem wr67 {i6 i7 : Nat} {r6 r7 : Array Oper} {base off cap i : Nat} {l : List UInt8} {A : Act} {W : World} {Q : Exit → Act → World → Prop} (hs : StepOk s M pr) (hh : h0 < M)
    (k6 : r6.toList.map okey = [(some 16, .indexAddr TL (.tmp 12) (.tmp 14), none), (some 17, .load U8 (.tmp 16), none), (some 5, .assign (.tmp 17), none)])
    (k7 : r7.toList.map okey = [(some 18, .move (.tmp 3), none), (some 19, .move (.tmp 5), none), (some 20, .convert U8 U64 (.tmp 19), none), (some 21, .binOp .xor U64 (.tmp 18) (.tmp 20) U64, none), (some 22, .binOp .mul U64 (.tmp 21) (.const (.int .u64 (pr : Int))) U64, none), (some 3, .assign (.tmp 22), none)])
    (tL : P.underlying TL = some (.slice U8)) (tU : P.underlying U8 = some (.int .u8)) (tV : P.underlying U64 = some (.int .u64)) (iU : ∃ inf, P.info? U8 = some inf ∧ inf.size = 1)
    (hl : ∀ (i : Nat) (x : UInt8), l[i]? = some x → W.cell? ⟨base, off + i, none⟩ = some (.int .u8 (x.toNat : Int))) (hI : SLoop s h0 base off cap l i A) (hi : i < l.length)
    (h : ∀ A', Fz 25 A' [(12, .slice (some ⟨base, off, none⟩) l.length cap), (13, goInt l.length), (14, .int .i64 (i : Int)), (3, .int .u64 ((foldS s (l.take (i + 1)) h0 : Nat) : Int))] → Q .normal A' W) :
    (Code.seq (.region i6 r6 false) (.region i7 r7 false)).wpIn (FW none) 1 P Q A W := by
  obtain ⟨inf, hinf, hsz⟩ := iU
  have hx : l[i]? = some l[i] := List.getElem?_eq_getElem hi
  have hb : (l[i]).toNat < 256 := (l[i]).toNat_lt
  have hlt := foldS_lt hs.lt (l.take i) h0 hh
  refine wpIn_seq (wpIn_region ?_)
  rw [range_key k6]
  obtain ⟨o0, e0, d0, p0, g0⟩ := key_at k6 0 rfl
  obtain ⟨o1, e1, d1, p1, g1⟩ := key_at k6 1 rfl
  obtain ⟨o2, e2, d2, p2, g2⟩ := key_at k6 2 rfl
  refine stepV e0 g0 (run_index1 p0 tL hinf hsz (hI.get 0 rfl) (hI.get 2 rfl) hi) ?_
  rw [d0]
  have F0 := Fz.put hI 16 (.pointer (some ⟨base, off + i, none⟩)) rfl rfl
  generalize A.put (some 16) _ = A0 at F0 ⊢
  refine stepV e1 g1 (run_load2 p1 tU rfl (F0.get 0 rfl) (hl i l[i] hx)) ?_
  rw [d1]
  have F1 := F0.put 17 (.int .u8 (l[i].toNat : Int)) rfl rfl
  generalize A0.put (some 17) _ = A1 at F1 ⊢
  refine stepV e2 g2 (run_move1 (.inr p2)) ?_
  rw [d2, F1.get 0 rfl]
  have F2 := F1.put 5 (.int .u8 (l[i].toNat : Int)) rfl rfl
  generalize A1.put (some 5) _ = A2 at F2 ⊢
  show (Code.region i7 r7 false).wpIn (FW none) 1 P Q A2 W
  clear e0 e1 e2 d0 d1 d2 p0 p1 p2 g0 g1 g2
  refine wpIn_region ?_
  rw [range_key k7]
  obtain ⟨o0, e0, d0, p0, g0⟩ := key_at k7 0 rfl
  obtain ⟨o1, e1, d1, p1, g1⟩ := key_at k7 1 rfl
  obtain ⟨o2, e2, d2, p2, g2⟩ := key_at k7 2 rfl
  obtain ⟨o3, e3, d3, p3, g3⟩ := key_at k7 3 rfl
  obtain ⟨o4, e4, d4, p4, g4⟩ := key_at k7 4 rfl
  obtain ⟨o5, e5, d5, p5, g5⟩ := key_at k7 5 rfl
  refine stepV e0 g0 (run_move1 (.inl p0)) ?_
  rw [d0, F2.get 6 rfl]
  have F3 := F2.put 18 (.int .u64 ((foldS s (l.take i) h0 : Nat) : Int)) rfl rfl
  generalize A2.put (some 18) _ = A3 at F3 ⊢
  refine stepV e1 g1 (run_move1 (.inl p1)) ?_
  rw [d1, F3.get 1 rfl]
  have F4 := F3.put 19 (.int .u8 (l[i].toNat : Int)) rfl rfl
  generalize A3.put (some 19) _ = A4 at F4 ⊢
  refine stepV e2 g2 (run_conv1 p2 tU tV (F4.get 0 rfl) hb) ?_
  rw [d2]
  have F5 := F4.put 20 (.int .u64 (l[i].toNat : Int)) rfl rfl
  generalize A4.put (some 20) _ = A5 at F5 ⊢
  obtain ⟨x, hx1, hx2⟩ := hs.xr P W U64 (foldS s (l.take i) h0) l[i].toNat hlt hb
  refine stepV e3 g3 (run_binK p3 (F5.get 2 rfl) (F5.get 0 rfl) hx1) ?_
  rw [d3]
  have F6 := F5.put 21 (.int .u64 (x : Int)) rfl rfl
  generalize A5.put (some 21) _ = A6 at F6 ⊢
  refine stepV e4 g4 (run_binK p4 (F6.get 0 rfl) rfl (hx2 U64)) ?_
  rw [d4]
  have F7 := F6.put 22 (.int .u64 ((s (foldS s (l.take i) h0) l[i].toNat : Nat) : Int)) rfl rfl
  generalize A6.put (some 22) _ = A7 at F7 ⊢
  refine stepV e5 g5 (run_move1 (.inr p5)) ?_
  rw [d5, F7.get 0 rfl]
  have F8 := (F7.pick [8, 9, 10]).put 3 (.int .u64 ((s (foldS s (l.take i) h0) l[i].toNat : Nat) : Int)) rfl rfl
  generalize A7.put (some 3) _ = A8 at F8 ⊢
  have := F8.pick [1, 2, 3, 0]
  rw [← foldS_take s l h0 i l[i] hx] at this
  exact h _ this
theorem wr8 {i8 : Nat} {r8 : Array Oper} {base off cap i : Nat} {l : List UInt8} {A : Act} {W : World} {Q : Exit → Act → World → Prop} {v : Value}
    (k8 : r8.toList.map okey = [(some 23, .binOp .add I (.tmp 14) (.const (.int .i64 1)) I, none), (some 14, .move (.tmp 23), none)]) (hi : i < 4294967281)
    (hI : Fz 25 A [(12, .slice (some ⟨base, off, none⟩) l.length cap), (13, goInt l.length), (14, .int .i64 (i : Int)), (3, v)])
    (h : ∀ A', Fz 25 A' [(12, .slice (some ⟨base, off, none⟩) l.length cap), (13, goInt l.length), (14, .int .i64 ((i + 1 : Nat) : Int)), (3, v)] → Q .normal A' W) : (Code.region i8 r8 false).wpIn (FW none) 1 P Q A W := by
  refine wpIn_region ?_
  rw [range_key k8]
  obtain ⟨o0, e0, d0, p0, g0⟩ := key_at k8 0 rfl
  obtain ⟨o1, e1, d1, p1, g1⟩ := key_at k8 1 rfl
  refine stepV e0 g0 (run_bin1 p0 (hI.get 2 rfl) rfl (v := .int .i64 ((i + 1 : Nat) : Int)) (by
    have hw := wrap_small .i64 ((i : Int) + 1) (by simp [loK]; omega) (by simp [hiK]; omega)
    simp [binOp, Op.intArith, hw])) ?_
  rw [d0]
  have F0 := hI.put 23 (.int .i64 ((i + 1 : Nat) : Int)) rfl rfl
  generalize A.put (some 23) _ = A0 at F0 ⊢
  refine stepV e1 g1 (run_move1 (.inl p1)) ?_
  rw [d1, F0.get 0 rfl]
  have F1 := (F0.pick [1, 2, 4]).put 14 (.int .i64 ((i + 1 : Nat) : Int)) rfl rfl
  exact h _ (F1.pick [1, 2, 0, 3])
theorem sum_calls {sig : Nat} (sh : SumShape P f TP TS TL U8 U64 I fld foff) (hs : StepOk s M 1099511628211) (hsig : (Operand.const (.int .u64 14695981039346656037)) = .const (.int .u64 (sig : Int))) (hM : sig < M) {b base off cap : Nat} {l : List UInt8} {W : World}
    (hc : W.cell? ⟨b, foff, none⟩ = some (.slice (some ⟨base, off, none⟩) l.length cap))
    (hl : ∀ (i : Nat) (x : UInt8), l[i]? = some x → W.cell? ⟨base, off + i, none⟩ = some (.int .u8 (x.toNat : Int))) (hn : l.length < 4294967281) :
    Calls P f #[.pointer (some ⟨b, 0, none⟩)] W fun e w' => e = .returned (.int .u64 ((foldS s l sig : Nat) : Int)) ∧ w' = W := by
  obtain ⟨⟨fn, i0, r0, i1, r1, i2, r2, i3, r3, i4, r4, i5, r5, i6, r6, i7, r7, i8, r8, i9, r9, hf, hname, hnt, hres, hbody, k0, k1, k2, k4, k5, k6, k7, k8, k9⟩, ⟨eP, tP⟩, ⟨fs, g, tS, hg, hoff, hgs⟩, tL, tU, tV, iU⟩ := sh
  refine (callsW (n := 1) (rd := none)).1 (callsIn_of_wp hf hbody trivial ?_)
  rw [hnt]
  generalize hA : (⟨#[.pointer (some ⟨b, 0, none⟩)] ++ Array.replicate (25 - (#[.pointer (some ⟨b, 0, none⟩)] : Array Value).size) undef, []⟩ : Act) = A
  have F : Fz 25 A [(0, .pointer (some ⟨b, 0, none⟩))] := by
    subst hA
    refine ⟨by simp, rfl, fun p hp => ?_⟩
    cases List.mem_singleton.1 hp
    simp [Act.eval]
  clear hA
  refine wpIn_seq (wpIn_region ?_)
  rw [range_key k0]
  obtain ⟨o0, e0, d0, p0, g0⟩ := key_at k0 0 rfl
  refine stepV e0 g0 (run_move1 (.inr p0)) ?_
  rw [d0]
  have F1 := F.put 2 (A.eval (.const (.int .u64 0))) rfl rfl
  generalize A.put (some 2) _ = A1 at F1 ⊢
  clear e0 d0 p0 g0
  refine wpIn_seq (wpIn_region ?_)
  rw [range_key k1]
  obtain ⟨o0, e0, d0, p0, g0⟩ := key_at k1 0 rfl
  rw [hsig] at p0
  refine stepV e0 g0 (run_move1 (.inr p0)) ?_
  rw [d0]
  have F2 := (F1.pick [1]).put 3 (.int .u64 (sig : Int)) rfl rfl
  show (Code.seq _ _).wpIn (FW none) 1 P _ (A1.put (some 3) (.int .u64 (sig : Int))) W
  generalize A1.put (some 3) _ = A2 at F2 ⊢
  clear e0 d0 p0 g0
  refine wpIn_seq (wpIn_seq (wpIn_region ?_))
  rw [range_key k2]
  obtain ⟨o0, e0, d0, p0, g0⟩ := key_at k2 0 rfl
  obtain ⟨o1, e1, d1, p1, g1⟩ := key_at k2 1 rfl
  refine stepV e0 g0 (run_move1 (.inl p0)) ?_
  rw [d0, F2.get 1 rfl]
  have F3 := F2.put 6 (.pointer (some ⟨b, 0, none⟩)) rfl rfl
  generalize A2.put (some 6) _ = A3 at F3 ⊢
  refine stepV e1 g1 (run_nil1 p1 tP (F3.get 0 rfl) rfl) ?_
  rw [d1]
  have F4 := F3.put 7 (.bool false) rfl rfl
  generalize A3.put (some 7) _ = A4 at F4 ⊢
  refine wpIn_cond_false (F4.get 0 rfl) (wpIn_skip ?_)
  clear e0 d0 p0 g0 e1 d1 p1 g1
  refine wpIn_seq (wpIn_seq (wpIn_region ?_))
  rw [range_key k4]
  obtain ⟨o0, e0, d0, p0, g0⟩ := key_at k4 0 rfl
  obtain ⟨o1, e1, d1, p1, g1⟩ := key_at k4 1 rfl
  obtain ⟨o2, e2, d2, p2, g2⟩ := key_at k4 2 rfl
  obtain ⟨o3, e3, d3, p3, g3⟩ := key_at k4 3 rfl
  obtain ⟨o4, e4, d4, p4, g4⟩ := key_at k4 4 rfl
  obtain ⟨o5, e5, d5, p5, g5⟩ := key_at k4 5 rfl
  refine stepV e0 g0 (run_move1 (.inl p0)) ?_
  rw [d0, F4.get 3 rfl]
  have F5 := F4.put 9 (.pointer (some ⟨b, 0, none⟩)) rfl rfl
  generalize A4.put (some 9) _ = A5 at F5 ⊢
  refine stepV e1 g1 (run_nilc1 p1 (F5.get 0 rfl)) ?_
  rw [d1]
  have F6 := F5.put 10 (.pointer (some ⟨b, 0, none⟩)) rfl rfl
  generalize A5.put (some 10) _ = A6 at F6 ⊢
  refine stepV e2 g2 (run_field1 p2 tS hg hgs (F6.get 0 rfl)) ?_
  rw [d2, hoff]
  have F7 := F6.put 11 (.pointer (some ⟨b, foff, none⟩)) rfl rfl
  generalize A6.put (some 11) _ = A7 at F7 ⊢
  refine stepV e3 g3 (run_load2 p3 tL rfl (F7.get 0 rfl) hc) ?_
  rw [d3]
  have F8 := F7.put 12 (.slice (some ⟨base, off, none⟩) l.length cap) rfl rfl
  generalize A7.put (some 12) _ = A8 at F8 ⊢
  refine stepV e4 g4 (run_lenS p4 tL (F8.get 0 rfl)) ?_
  rw [d4]
  have F9 := F8.put 13 (goInt l.length) rfl rfl
  generalize A8.put (some 13) _ = A9 at F9 ⊢
  refine stepV e5 g5 (run_move1 (.inl p5)) ?_
  rw [d5]
  have F10 := F9.put 14 (.int .i64 ((0 : Nat) : Int)) rfl rfl
  show (Code.block 0 _).wpIn (FW none) 1 P _ (A9.put (some 14) (.int .i64 ((0 : Nat) : Int))) W
  generalize A9.put (some 14) _ = A10 at F10 ⊢
  clear e0 d0 p0 g0 e1 d1 p1 g1 e2 d2 p2 g2 e3 d3 p3 g3 e4 d4 p4 g4 e5 d5 p5 g5
  have hL : SLoop s sig base off cap l 0 A10 := F10.pick [2, 1, 0, 8]
  have hout : ∀ A, SLoop s sig base off cap l l.length A → (Code.seq (.region i9 r9 false) .ret).wpIn (FW none) 1 P (bodyPost P fn fun e w' => e = .returned (.int .u64 ((foldS s l sig : Nat) : Int)) ∧ w' = W) A W := by
    intro A hA
    refine wpIn_seq (wpIn_region ?_)
    rw [range_key k9]
    obtain ⟨o0, e0, d0, p0, g0⟩ := key_at k9 0 rfl
    obtain ⟨o1, e1, d1, p1, g1⟩ := key_at k9 1 rfl
    have e3 : A.eval (.tmp 3) = .int .u64 ((foldS s l sig : Nat) : Int) := by
      have := Fz.get hA 3 rfl
      rwa [List.take_length] at this
    refine stepV e0 g0 (run_move1 (.inl p0)) ?_
    rw [d0, e3]
    have G0 := (Fz.pick hA [0]).put 24 (.int .u64 ((foldS s l sig : Nat) : Int)) rfl rfl
    generalize A.put (some 24) _ = B0 at G0 ⊢
    refine stepV e1 g1 (run_move1 (.inr p1)) ?_
    rw [d1, G0.get 0 rfl]
    have G1 := G0.put 2 (.int .u64 ((foldS s l sig : Nat) : Int)) rfl rfl
    generalize B0.put (some 2) _ = B1 at G1 ⊢
    refine wpIn_ret ⟨G1.2.1, .int .u64 ((foldS s l sig : Nat) : Int), ?_, rfl, rfl⟩
    have := G1.get 0 rfl
    have h2 : B1.tmps.getD 2 undef = .int .u64 ((foldS s l sig : Nat) : Int) := this
    simp only [results, hres]
    simp
    simpa [Array.getD_eq_getD_getElem?] using h2
  have hloop : ∀ (Q : Exit → Act → World → Prop), (∀ A, SLoop s sig base off cap l l.length A → Q (.exit 0) A W) → ∀ (m i : Nat) (A : Act), l.length - i < m → i ≤ l.length → SLoop s sig base off cap l i A →
      Code.roundsIn (FW none) 1 P (.seq (.region i5 r5 false) (.seq (.cond (.tmp 15) .skip (.exit 0)) (.seq (.block 1 (.seq (.region i6 r6 false) (.region i7 r7 false))) (.region i8 r8 false)))) Q m A W := by
    intro Q hQ m
    induction m with
    | zero => intro i A h; omega
    | succ m ih =>
      intro i A hm hi hI
      rw [roundsIn_succ]
      refine wpIn_seq (wr5 k5 hI fun A1 I1 e15 => ?_)
      by_cases hlt : i < l.length
      · rw [decide_eq_true hlt] at e15
        refine wpIn_seq (wpIn_cond_true e15 (wpIn_skip ?_))
        refine wpIn_seq (wpIn_block (wr67 hs hM k6 k7 tL tU tV iU hl I1 hlt fun A2 F2 => ?_))
        exact wr8 k8 (by omega) F2 fun A3 F3 => ih (i + 1) A3 (by omega) (by omega) F3
      · rw [decide_eq_false hlt] at e15
        refine wpIn_seq (wpIn_cond_false e15 (wpIn_exit ?_))
        have : i = l.length := by omega
        subst this
        exact hQ A1 I1
  refine wpIn_block (wpIn_loop_rounds (l.length + 1) (hloop _ (fun A hA => ?_) (l.length + 1) 0 A10 (by omega) (by omega) hL))
  simp only [Exit.inBlock, if_pos]
  exact hout A hA
end
/-! ### the step of the check -/
theorem fnv1_lt (h b : Nat) : fnv1 h b < 18446744073709551616 := by
  show Nat.mod _ _ < _
  exact Nat.mod_lt _ (by decide)
theorem fnv_step : StepOk fnv1 18446744073709551616 1099511628211 where
  xr P W t h b hh hb := ⟨Nat.xor h b, xor_nat hh hb, fun t' => mul_nat⟩
  lt := fnv1_lt
/-! ### the evaluator's side -/
def fnvK (st : Nat → Nat → Nat) (rows : RT (List AV) RD) (len : Nat) : Nat → Nat → (Nat → Bool) → Bool :=
  Nat.rec (motive := fun _ => Nat → Nat → (Nat → Bool) → Bool) (fun _ s k => k s) (fun _ ih j s k => cellK 1 rows j fun v => vInt v fun K m => chk (isIntK K .u8) (Int.rec (motive := fun _ => Bool) (fun b => chk (Nat.blt b 256)
    (forceN (Nat.add j 1) fun j => forceN (st s b) fun s => ih j s k)) (fun _ => false) m)) len
theorem fnvK_true {st : Nat → Nat → Nat} {rows : RT (List AV) RD} : ∀ {len j s : Nat} {k : Nat → Bool}, fnvK st rows len j s k = true → ∃ l : List UInt8, l.length = len ∧ (∀ (i : Nat) (b : UInt8), l[i]? = some b → cellAt 1 rows (j + i) = .int .u8 b.toNat) ∧ k (foldS st l s) = true
  | 0, j, s, k, h => ⟨[], rfl, fun i b hi => by simp at hi, h⟩
  | n + 1, j, s, k, h => by
    have h' : (cellK 1 rows j fun v => vInt v fun K m => chk (isIntK K .u8) (Int.rec (motive := fun _ => Bool) (fun b => chk (Nat.blt b 256)
      (forceN (Nat.add j 1) fun j => forceN (st s b) fun s => fnvK st rows n j s k)) (fun _ => false) m)) = true := h
    have h1 := cellK_true h'
    obtain ⟨K, m, e1, h2⟩ := vInt_true h1
    obtain ⟨c1, h3⟩ := chk_true h2
    have hK := isIntK_true c1
    subst hK
    cases m with
    | negSucc m => cases h3
    | ofNat b =>
      obtain ⟨c2, h4⟩ := chk_true h3
      rw [forceN_eq, forceN_eq] at h4
      rw [Nat.blt_eq] at c2
      obtain ⟨l, g1, g2, g3⟩ := fnvK_true h4
      have hb : b.toUInt8.toNat = b := by
        have : (b.toUInt8).toNat = b % 256 := rfl
        omega
      refine ⟨b.toUInt8 :: l, by simp [g1], fun i x hi => ?_, ?_⟩
      · rcases i with _ | i
        · simp at hi
          rw [Nat.add_zero, e1, ← hi, hb]; rfl
        · have := g2 i x (by simpa using hi)
          rw [← this]
          congr 1
          show j + (i + 1) = j + 1 + i
          omega
      · have e : foldS st (b.toUInt8 :: l) s = foldS st l (st s b) := by
          show foldS st l (st s b.toUInt8.toNat) = _
          rw [hb]
        rw [e]
        exact g3
def sumC (st : Nat → Nat → Nat) (sig off len : Nat) (ver : Nat) (k : AV → Bool) (s _n _fz : Nat) (_opn : Bool) (_el : TypeId) (rows : RT (List AV) RD) : Bool :=
  chk (Nat.beq s 1 && Nat.ble (Nat.add off len) ver && Nat.blt 0 len && Nat.blt len 4294967281) (fnvK st rows len off sig fun n => k (.int .u64 (.ofNat n)))
def sumB (st : Nat → Nat → Nat) (sig foff ver : Nat) (h : H) (k : AV → Bool) (s _n _fz : Nat) (_opn : Bool) (_el : TypeId) (rows : RT (List AV) RD) : Bool :=
  chk (Nat.blt foff ver) (cellK s rows foff fun v => vSl v false fun id ver off len _ _ => getB id ver h (sumC st sig off len ver k))
def sumDG (st : Nat → Nat → Nat) (sig foff : Nat) : FnD := fun _ args h kr _ => args1 args fun x => vPtr x fun id ver o => chk (Nat.beq o 0) (getB id ver h (sumB st sig foff ver h fun av => kr av h))
theorem sumDG_good {P : Program} {ν : Nu} {TP TS TL U8 U64 I fld foff M sig : Nat} {st : Nat → Nat → Nat} {f : FuncId} (hb : hasBody P f = true) (sh : SumShape P f TP TS TL U8 U64 I fld foff) (hs0 : StepOk st M 1099511628211) (hsig : (Operand.const (.int .u64 14695981039346656037)) = .const (.int .u64 (sig : Int))) (hM : sig < M) : FnGood P ν f (sumDG st sig foff) := by
  refine FnGood.plain hb fun cf args h φ w vs kr kp hk hr hv => ?_
  unfold sumDG at hk
  obtain ⟨x, rfl, hk⟩ := args1_true hk
  obtain ⟨id, ver, o, rfl, hk⟩ := vPtr_true hk
  obtain ⟨c0, hk⟩ := chk_true hk
  have c0 := nbT c0
  subst c0
  cases hv with
  | cons h1 ht =>
    cases ht
    cases h1 with
    | ptr hp =>
      rename_i p
      obtain ⟨s, n, lw, fz, opn, el, rows, _, hl2, hs, hbr, hk⟩ := getB_true hr hp hk
      unfold sumB at hk
      obtain ⟨c1, hk⟩ := chk_true hk
      rw [Nat.blt_eq] at c1
      have hk := cellK_true hk
      obtain ⟨_, _, hcc⟩ := hbr
      obtain ⟨cc, fr, hb2, _, _, hcell, _, _⟩ := hcc hl2
      obtain ⟨v, d1, _, d3⟩ := hcell foff c1
      rcases vSl_true hk with ⟨_, e⟩ | ⟨id2, ver2, off, len, mc, ex, e1, hk⟩
      · cases e
      · rw [e1] at d3
        cases d3 with
        | sl hp2 hm hl hx hob hf =>
          rename_i cap p2 off' _
          obtain ⟨s2, n2, lw2, fz2, opn2, el2, rows2, _, hl3, hs2, hbr2, hk⟩ := getB_true hr hp2 hk
          unfold sumC at hk
          obtain ⟨c2, hk⟩ := chk_true hk
          simp only [Bool.and_eq_true] at c2
          obtain ⟨⟨⟨c3, c4⟩, c5⟩, c6⟩ := c2
          have c3 := nbT c3
          have c4 : off + len ≤ ver2 := nlT c4
          rw [Nat.blt_eq] at c5 c6
          obtain ⟨l, g1, g2, g3⟩ := fnvK_true hk
          obtain ⟨_, _, hcc2⟩ := hbr2
          obtain ⟨cc2, fr2, hb3, _, _, hcell2, _, _⟩ := hcc2 hl3
          have hoo := hf (by omega)
          subst hoo
          have hb4 : ∀ (i : Nat) (x : UInt8), l[i]? = some x → w.cell? ⟨p2.blk, off' + i, none⟩ = some (.int .u8 (x.toNat : Int)) := by
            intro i x hi
            have hi' : i < l.length := (List.getElem?_eq_some_iff.1 hi).1
            obtain ⟨v, q1, _, q3⟩ := hcell2 (off' + i) (by omega)
            have q4 := g2 i x hi
            rw [c3, q4] at q3
            cases q3
            rw [cell?_of hb3, q1]
          subst g1
          have hcl := sum_calls (s := st) (sig := sig) (M := M) (l := l) (W := w) (b := p.blk) (base := p2.blk) (off := off') (cap := cap) sh hs0 hsig hM (by rw [cell?_of hb2, d1]) hb4 c6
          refine ⟨.int .u64 ((foldS st l sig : Nat) : Int), .int .u64 (.ofNat (foldS st l sig)), ?_, ?_, g3⟩
          · exact hcl.mono fun e w' hp => ⟨hp.1, by rw [hp.2]; exact .refl _ _⟩
          · exact .int _ _
def sumD (foff : Nat) : FnD := sumDG fnv1 14695981039346656037 foff
theorem sumD_good {P : Program} {ν : Nu} {TP TS TL U8 U64 I fld foff : Nat} {f : FuncId} (hb : hasBody P f = true) (sh : SumShape P f TP TS TL U8 U64 I fld foff) : FnGood P ν f (sumD foff) :=
  sumDG_good hb sh fnv_step rfl (by decide)
end
end Go.Abs
