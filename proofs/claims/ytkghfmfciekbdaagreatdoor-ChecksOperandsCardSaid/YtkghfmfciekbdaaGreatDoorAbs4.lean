/-
  A verified evaluator, text 4 of 4: code of the model compiled to closures over abstract values and run by the kernel; each theorem says that such a run speaks of every real run. It holds for every program; no condition.
-/
import Derived.Test.YtkghfmfciekbdaaGreatDoorAbs3
import Derived.Laws.IdiomStrings
import Derived.Laws.BytesArg
import Derived.Lib.Repeat
import Derived.Lib.SlTrimSet
import Derived.ChangeSlices
set_option linter.unusedVariables false
set_option linter.unusedSimpArgs false

/-
  A verified evaluator: bytes made a string.
-/
namespace Go.Abs
noncomputable section
def bytesOfK (rows : RT (List AV) RD) (len : Nat) : Nat → (Nat → Bool) → Bool :=
  Nat.rec (motive := fun _ => Nat → (Nat → Bool) → Bool) (fun _ k => k 0) (fun _ ih j k => cellK 1 rows j fun v => vInt v fun K m => chk (isIntK K .u8) (Int.rec (motive := fun _ => Bool) (fun b => chk (Nat.blt b 256)
    (forceN (Nat.add j 1) fun j => ih j fun c => forceN (Nat.add b (Nat.mul 256 c)) k)) (fun _ => false) m)) len
theorem bytesOfK_true {rows : RT (List AV) RD} : ∀ {len j : Nat} {k : Nat → Bool}, bytesOfK rows len j k = true → ∃ l : List UInt8, l.length = len ∧ (∀ (i : Nat) (b : UInt8), l[i]? = some b → cellAt 1 rows (j + i) = .int .u8 b.toNat) ∧ k (enc l) = true
  | 0, j, k, h => ⟨[], rfl, fun i b hi => by simp at hi, h⟩
  | n + 1, j, k, h => by
    have h' : (cellK 1 rows j fun v => vInt v fun K m => chk (isIntK K .u8) (Int.rec (motive := fun _ => Bool) (fun b => chk (Nat.blt b 256)
      (forceN (Nat.add j 1) fun j => bytesOfK rows n j fun c => forceN (Nat.add b (Nat.mul 256 c)) k)) (fun _ => false) m)) = true := h
    have h1 := cellK_true h'
    obtain ⟨K, m, e1, h2⟩ := vInt_true h1
    obtain ⟨c1, h3⟩ := chk_true h2
    have hK := isIntK_true c1
    subst hK
    cases m with
    | negSucc m => cases h3
    | ofNat b =>
      obtain ⟨c2, h4⟩ := chk_true h3
      rw [forceN_eq] at h4
      rw [Nat.blt_eq] at c2
      obtain ⟨l, g1, g2, g3⟩ := bytesOfK_true h4
      rw [forceN_eq] at g3
      have hb : b.toUInt8.toNat = b := by
        have : (b.toUInt8).toNat = b % 256 := rfl
        omega
      refine ⟨b.toUInt8 :: l, by simp [g1], fun i x hi => ?_, ?_⟩
      · rcases i with _ | i
        · simp at hi
          rw [Nat.add_zero, e1, ← hi, hb]; rfl
        · have := g2 i x (by simpa using hi)
          rw [← this]
          congr 1
          show j + (i + 1) = j + 1 + i
          omega
      · have e : Nat.add b (Nat.mul 256 (enc l)) = enc (b.toUInt8 :: l) := by
          show b + 256 * enc l = b.toUInt8.toNat + 256 * enc l
          rw [hb]
        rw [e] at g3
        exact g3
def csC (ver off len : Nat) (k : AV → Bool) (s _n _fz : Nat) (_opn : Bool) (_el : TypeId) (rows : RT (List AV) RD) : Bool :=
  chk (Nat.beq s 1 && Nat.ble (Nat.add off len) ver) (bytesOfK rows len off fun c => k (.str len c))
def mkConvS (P : Program) (L N : Nat) (src dst : TypeId) (x : Operand) (r : V L → Bool) : Bool :=
  mkE L N x fun ex => match undX P src, undX P dst with
  | some (.slice e), some .string => match undX P e with
    | some (.int .u8) => r fun ts h k => ex ts fun x => vSl x (k (.str 0 0)) fun id ver off len _ _ => getB id ver h (csC ver off len k)
    | _ => false
  | _, _ => false
theorem mkConvS_true {P : Program} {ν : Nu} {L N : Nat} {o : Oper} {src dst : TypeId} {x : Operand} (ho : o.op = .convert src dst x) {r : V L → Bool} (h : mkConvS P L N src dst x r = true) : ∃ e, GoodV P ν L N o e ∧ r e = true := by
  obtain ⟨ex, hex, h⟩ := mkE_true h
  try simp only [infoX_eq, undX_eq, shapeX_eq] at h
  split at h
  · rename_i e hsrc hdst
    try simp only [infoX_eq, undX_eq, shapeX_eq] at h
    split at h
    · rename_i he
      refine ⟨_, fun φ ts h' a w hst k hk => ?_, h⟩
      have hv := hex φ ν ts a hst.fr
      generalize hvx : a.eval x = vx at hv
      rcases vSl_true hk with ⟨e1, hk1⟩ | ⟨id, ver, off, len, mc, exx, e1, hk1⟩
      · rw [e1] at hv
        cases hv
        refine ⟨.string ByteArray.empty, _, ?_, .str ⟨rfl, rfl⟩, hk1⟩
        unfold execOp; rw [ho]
        simp only [Sem.run_bind, hvx, run_convert_bytes_nil (P := P) (w := w) src e hsrc he 0 0 dst hdst, Result.andThen_ok, Sem.run_pure]
      · rw [e1] at hv
        cases hv with
        | sl hp hm hl hx hob hf =>
          rename_i cap p off'
          obtain ⟨s, n, lw, fz, opn, el, rows, hb, hl2, hs, hbr, hk2⟩ := getB_true hst.hr hp hk1
          unfold csC at hk2
          obtain ⟨c1, hk3⟩ := chk_true hk2
          rw [Bool.and_eq_true] at c1
          have c2 := nbT c1.1
          have c3 : off + len ≤ ver := nlT c1.2
          obtain ⟨l, g1, g2, g3⟩ := bytesOfK_true hk3
          obtain ⟨_, _, hcc⟩ := hbr
          obtain ⟨cc, fr, hb2, hsz, hv, hcell, _, _⟩ := hcc hl2
          have hc : ∀ j (hj : j < l.length), w.cell? ((⟨p.blk, off', none⟩ : Addr).add j) = some (.int .u8 (l[j].toNat : Int)) := by
            intro j hj
            have hoo := hf (by omega)
            rw [hoo]
            obtain ⟨v, d1, _, d3⟩ := hcell (off + j) (by omega)
            have d4 := g2 j l[j] (List.getElem?_eq_getElem hj)
            rw [c2, d4] at d3
            cases d3
            rw [addr_add, cell?_of hb2, d1]
          have hrun := run_convert_bytes_back (P := P) w src dst e ⟨p.blk, off', none⟩ cap l hsrc he hdst hc
          rw [g1] at hrun
          refine ⟨.string ⟨l.toArray⟩, _, ?_, .str (by rw [← g1]; exact IsStr.of_list l), g3⟩
          unfold execOp; rw [ho]
          simp only [Sem.run_bind, hvx, hrun, Result.andThen_ok, Sem.run_pure]
    · cases h
  · cases h
end
end Go.Abs

/-
  A verified evaluator: copy.
-/
namespace Go.Abs
noncomputable section
theorem copy_run {P : Program} {w w' : World} {t tx ty e : TypeId} {i : TypeInfo} (ht : P.underlying t = some (.slice e)) (hi : P.info? e = some i) {b off dLen cap n : Nat} {x : Value} {news : List Value} (hs : Src P i.size tx x n news w) (hlen : Builtin.lenOf x = Sem.pure n)
    (hl : n ≤ dLen) (hst : (storeCells ⟨b, off, none⟩ news).run P w = .ok () w') :
    (Builtin.copy_ #[t, tx] ty #[.slice (some ⟨b, off, none⟩) dLen cap, x]).run P w = .ok (goInt n) w' := by
  have hm : Nat.min n dLen = n := Nat.min_eq_left hl
  have hc := hs.cells
  simp [Builtin.copy_, run_underlying' ht, sizeOf, typeInfo, hi, hlen, hm, hc, hst]
theorem srcLess {P : Program} {φ : Phi} {ν : Nu} {size : Nat} {x : AV} {v : Value} {h : H} {w : World} {k : Nat → List AV → Bool} (hr : HR φ ν h w) (hv : VR φ ν x v) (hk : srcK size x h k = true) (hx : ∃ a b c d e f, x = .sl a b c d e f) :
    ∃ n xs news, Builtin.lenOf v = Sem.pure n ∧ VRs φ ν xs news ∧ k n xs = true ∧ news.length = n * size ∧ (∀ u ∈ news, u.oneCell' = true) ∧ ∀ m, m ≤ n → (Builtin.firstCells size m v).run P w = .ok (news.take (m * size)).toArray w := by
  obtain ⟨id, ver, off, len, mc, ex, rfl⟩ := hx
  cases hv with
  | sl hp hm hl hx ho hf =>
    rename_i cap p off'
    obtain ⟨s, n, lw, fz, opn, el, rows, hb, hlw, hs, hbr, hk⟩ := getB_true hr hp hk
    obtain ⟨c, hk⟩ := chk_true hk
    have hk2 := aggK_true hs hk
    obtain ⟨vs, hlen, hvs, hone, hc⟩ := hbr.cells hlw off (len * size) (nlT c)
    refine ⟨len, _, vs, rfl, hvs, hk2, hlen, hone, fun m hm' => ?_⟩
    have hmm : m * size ≤ len * size := Nat.mul_le_mul_right _ hm'
    refine run_firstCells_some w size m _ len cap (vs.take (m * size)) (by simp; omega) fun j u hj => ?_
    have hj' : vs[j]? = some u := by
      rw [List.getElem?_take] at hj
      split at hj
      · exact hj
      · cases hj
    have hjl : j < vs.length := (List.getElem?_eq_some_iff.1 hj').1
    have hl0 : len ≠ 0 := by rintro rfl; rw [Nat.zero_mul] at hlen; omega
    have hoo := hf (by omega)
    subst hoo
    rw [addr_add]; exact hc j u hj'
theorem copy_run2 {P : Program} {w w' : World} {t tx ty e : TypeId} {i : TypeInfo} (ht : P.underlying t = some (.slice e)) (hi : P.info? e = some i) {b off dLen cap n : Nat} {x : Value} {news : List Value} (hlen : Builtin.lenOf x = Sem.pure n) (hl : dLen ≤ n)
    (hc : (Builtin.firstCells i.size dLen x).run P w = .ok news.toArray w) (hst : (storeCells ⟨b, off, none⟩ news).run P w = .ok () w') :
    (Builtin.copy_ #[t, tx] ty #[.slice (some ⟨b, off, none⟩) dLen cap, x]).run P w = .ok (goInt dLen) w' := by
  have hm : Nat.min n dLen = dLen := Nat.min_eq_right hl
  simp [Builtin.copy_, run_underlying' ht, sizeOf, typeInfo, hi, hlen, hm, hc, hst]
def copyK (size : Nat) (d x : AV) (h : H) (k : AV → H → Bool) : Bool :=
  srcK size x h fun n xs => vSl d false fun id ver off len _ _ => ite' (Nat.blt len n)
    (chk (Nat.blt 0 len) (vSl x false fun _ _ _ _ _ _ => takeK (Nat.mul len size) xs fun ys => storeRows size id ver len off ys h fun h => k (.int .i64 (.ofNat len)) h))
    (ite' (Nat.beq n 0) (k (.int .i64 (.ofNat 0)) h) (storeRows size id ver n off xs h fun h => k (.int .i64 (.ofNat n)) h))
def mkCopy (P : Program) (L N : Nat) (t tx : TypeId) (x y : Operand) (r : A L → Bool) : Bool :=
  mkE L N x fun ex => mkE L N y fun ey => match undX P t, undX P tx with
  | some (.slice el), some d => match zeroOf P el, infoX P el with
    | some zs, some i => forceN zs.length fun size => bif isSrcD d then r fun ts h k => ex ts fun vx => ey ts fun vy => copyK size vx vy h k else false
    | _, _ => false
  | _, _ => false
theorem mkCopy_true {P : Program} {ν : Nu} {L N : Nat} {o : Oper} {t tx : TypeId} {x y : Operand} (ho : o.op = .call { callee := .builtin .copy, args := ⟨[x, y]⟩, argTypes := ⟨[t, tx]⟩ }) {r : A L → Bool}
    (h : mkCopy P L N t tx x y r = true) : ∃ e, GoodA P ν L N o e ∧ r e = true := by
  obtain ⟨ex, hex, h⟩ := mkE_true h
  obtain ⟨ey, hey, h⟩ := mkE_true h
  try simp only [infoX_eq, undX_eq, shapeX_eq] at h
  split at h
  · rename_i el d ht htx
    try simp only [infoX_eq, undX_eq, shapeX_eq] at h
    split at h
    · rename_i zs i hz hi
      rw [forceN_eq] at h
      cases hc : isSrcD d with
      | false => rw [hc] at h; cases h
      | true =>
        rw [hc, cond_true] at h
        have hd : (∃ e, d = .slice e) ∨ d = .string := by
          cases d <;> first | (cases hc; done) | exact .inl ⟨_, rfl⟩ | exact .inr rfl
        refine ⟨_, fun φ ts h' a w hst k hk => .inl ?_, h⟩
        obtain ⟨i', z, hi', hzz, hzc, hzl, hone0, hpos⟩ := zeroOf_some hz
        rw [hi] at hi'; cases hi'
        have hk : copyK zs.length (ex ts) (ey ts) h' k = true := hk
        rw [hzl] at hk hpos
        have hx := hey φ ν ts a hst.fr
        have hs := hex φ ν ts a hst.fr
        have e : (⟨[x, y]⟩ : Array Operand).map a.eval = #[a.eval x, a.eval y] := by simp
        obtain ⟨n, xs, news, hsrc, hlenOf, hv, hk0⟩ := srcK_true htx hd hst.hr hx hk
        rcases vSl_true hk0 with ⟨_, e⟩ | ⟨id, ver, off, len, mc, exx, e1, hk1⟩
        · cases e
        · rw [e1] at hs
          generalize hvX : a.eval x = vX at hs
          cases hs with
          | sl hp hm hl hx2 hob hf =>
            rename_i cap p off'
            rcases ite'_true hk1 with ⟨c1, hk2⟩ | ⟨c1, hk2⟩
            · obtain ⟨c0, hk3⟩ := chk_true hk2
              rw [Nat.blt_eq] at c0 c1
              rcases vSl_true hk3 with ⟨_, e⟩ | ⟨_, _, _, _, _, _, ey1, _⟩
              · cases e
              have hoo := hf (by omega)
              subst hoo
              obtain ⟨n', xs', news', hlenOf', hv', hk0', hnl, hone, hfc⟩ := srcLess (P := P) hst.hr hx hk ⟨_, _, _, _, _, _, ey1⟩
              rcases vSl_true hk0' with ⟨_, e⟩ | ⟨id2, ver2, off2, len2, mc2, ex2, e2, hk1'⟩
              · cases e
              rw [e1] at e2
              injection e2 with q1 q2 q3 q4 q5 q6
              subst q1 q2 q3 q4 q5 q6
              have hnn : n' = n := by
                have h1 := congrArg (fun s : Sem Nat => s.run P w) hlenOf
                have h2 := congrArg (fun s : Sem Nat => s.run P w) hlenOf'
                rw [h1] at h2
                injection h2 with h2
                exact h2.symm
              subst hnn
              rcases ite'_true hk1' with ⟨_, hk2'⟩ | ⟨c2, _⟩
              · obtain ⟨_, hk3'⟩ := chk_true hk2'
                rcases vSl_true hk3' with ⟨_, e⟩ | ⟨_, _, _, _, _, _, _, hk4⟩
                · cases e
                have htk : (takeK (Nat.mul len i.size) xs' fun ys => storeRows i.size id ver len off' ys h' fun h => k (.int .i64 (.ofNat len)) h) = true := hk4
                obtain ⟨_, hk5⟩ := takeK_true htk
                have hmul : len * i.size ≤ n' * i.size := Nat.mul_le_mul_right _ (by omega)
                obtain ⟨h2, w', hstr, hr', hx', hro', hds', hk6⟩ := storeRows_true (P := P) hpos hp hk5 hst.hr (hv'.take (len * i.size)) (fun v hm => hone v (List.mem_of_mem_take hm)) (by simp; omega)
                refine ⟨.value (goInt len), goInt len, _, φ, h2, w', ?_, .inl rfl, .int _ _, hr', hx', hro', hds', hk6⟩
                rw [execOp_builtin ho, e, hvX]
                have h'' := copy_run2 (tx := tx) (ty := o.type) ht hi hlenOf' (by omega : len ≤ n') (hfc len (by omega)) hstr (cap := cap)
                simp [builtin, h'']
              · rw [Nat.blt_eq.mpr c1] at c2; cases c2
            · have c1' : n ≤ len := Nat.le_of_not_lt fun hlt => by rw [Nat.blt_eq.mpr hlt] at c1; cases c1
              rcases ite'_true hk2 with ⟨c0, hk3⟩ | ⟨c0, hk3⟩
              · have c0 := nbT c0
                subst c0
                have hn0 : news = [] := by have := hsrc.newsLen; rw [Nat.zero_mul] at this; exact List.eq_nil_of_length_eq_zero this
                subst hn0
                refine ⟨.value (goInt 0), goInt 0, _, φ, h', w, ?_, .inl rfl, .int _ _, hst.hr, Ext.refl _ _ _, rfl, rfl, hk3⟩
                rw [execOp_builtin ho, e, hvX]
                have h'' := copy_run (ty := o.type) (b := p.blk) (off := off') ht hi hsrc hlenOf c1' (w' := w) rfl (cap := cap)
                simp [builtin, h'']
              · have c0' : n ≠ 0 := fun h0 => by rw [h0] at c0; cases c0
                have hoo := hf (by omega)
                subst hoo
                obtain ⟨h2, w', hstr, hr', hx', hro', hds', hk4⟩ := storeRows_true (P := P) hpos hp hk3 hst.hr hv hsrc.one hsrc.newsLen
                refine ⟨.value (goInt n), goInt n, _, φ, h2, w', ?_, .inl rfl, .int _ _, hr', hx', hro', hds', hk4⟩
                rw [execOp_builtin ho, e, hvX]
                have h'' := copy_run (ty := o.type) ht hi hsrc hlenOf c1' hstr (cap := cap)
                simp [builtin, h'']
    · cases h
  · cases h
end
end Go.Abs

/-
  A verified evaluator: calls by an interface, of a pointer's own methods.
-/
namespace Go.Abs
noncomputable section
def invF (P : Program) (name : String) (t : TypeId) : Option FuncId :=
  match infoX P t with
  | some i => match i.methods.find? (fun m => m.name == name) with
    | some m => match m.path.toList with
      | [] => match m.func with
        | some (f, true) => match undX P t with
          | some (.pointer _) => some f
          | _ => none
        | _ => none
      | _ => none
    | none => none
  | none => none
theorem invF_run {P : Program} {name : String} {t : TypeId} {f : FuncId} (h : invF P name t = some f) (n : Nat) (v : Value) (w : World) : (method (n + 1) t v name).run P w = .ok (f, v) w := by
  unfold invF at h
  rw [infoX_eq] at h
  cases hi : P.info? t with
  | none => rw [hi] at h; cases h
  | some i =>
    rw [hi] at h
    simp only at h
    cases hm : i.methods.find? (fun m => m.name == name) with
    | none => rw [hm] at h; cases h
    | some m =>
      rw [hm] at h
      simp only at h
      cases hp : m.path.toList with
      | cons a l => rw [hp] at h; cases h
      | nil =>
        rw [hp] at h
        simp only at h
        cases hf : m.func with
        | none => rw [hf] at h; cases h
        | some q =>
          obtain ⟨g, b⟩ := q
          rw [hf] at h
          cases b with
          | false => cases h
          | true =>
            simp only at h
            rw [undX_eq] at h
            cases hu : P.underlying t with
            | none => rw [hu] at h; cases h
            | some d =>
              rw [hu] at h
              cases d <;> first | (cases h; done) | skip
              rename_i e
              cases h
              have hti : (typeInfo t).run P w = .ok i w := by simp [typeInfo, hi]
              have hun : (underlying t).run P w = .ok (.pointer e) w := run_underlying' hu w
              unfold method
              simp [hti, hm, hp, follow, hf, receiverAt, hun, Place.get]
def mkInv (P : Program) (L N : Nat) (dst : Option Tmp) (x : Operand) (name : String) (args : Array Operand) (r : D L → Bool) : Bool :=
  mkE L N x fun ex => mkEs L N args.toList fun es => mkPut L N dst fun s => r fun cf ts h k ks => ex ts fun vx => vIface vx false fun t v =>
    Option.rec (motive := fun _ => Bool) false (fun f => es ts fun l => cf f (v :: l) h (fun av h => s ts av fun ts => k ts h) fun av h => ks.pn ts av h) (invF P name t)
theorem mkInv_true {P : Program} {ν : Nu} {L N : Nat} {o : Oper} {x : Operand} {name : String} {args : Array Operand} {at_ : Array TypeId} (ho : o.op = .call { callee := .invoke x name, args, argTypes := at_ }) {r : D L → Bool}
    (h : mkInv P L N o.dst x name args r = true) : ∃ d, GoodO P ν L N o d ∧ r d = true := by
  obtain ⟨ex, hex, h⟩ := mkE_true h
  obtain ⟨es, hes, h⟩ := mkEs_true h
  obtain ⟨s, hs, h⟩ := mkPut_true h
  refine ⟨_, fun cf hc φ ts h' a w k ks hst hk next Q h1 h2 h3 => .inl ?_, h⟩
  rcases vIface_true hk with ⟨_, hf⟩ | ⟨t, v, e1, hk1⟩
  · cases hf
  · have hv := hex φ ν ts a hst.fr
    rw [e1] at hv
    generalize hvx : a.eval x = vx at hv
    cases hv with
    | iface hv =>
      rename_i u
      cases hq : invF P name t with
      | none => rw [hq] at hk1; cases hk1
      | some f =>
        rw [hq] at hk1
        refine call_good hst ?_ hs (hc f _ h' _ _ hk1 φ w _ hst.hr (.cons hv (hes φ ν ts a hst.fr))) h1 h2 h3
        rw [execOp_call ho]
        have hm := invF_run hq (P.types.size + Made.depth - 1) u w
        have hpos : P.types.size + Made.depth - 1 + 1 = P.types.size + Made.depth := by
          have : 0 < Made.depth := by decide
          omega
        rw [hpos] at hm
        have hpr : (program : Sem Program).run P w = .ok P w := rfl
        simp [resolve, invoke, callMethod, hvx, map_mk, hm]
        rw [List.take_of_length_le (by simp)]
end
end Go.Abs

/-
  A verified evaluator: the bytes of a constant, made a slice of their own type (the row gets the run-time's mark behind its end).
-/
namespace Go.Abs
noncomputable section
theorem HR.setObjW {φ : Phi} {ν : Nu} {h : H} {w : World} (hr : HR φ ν h w) {id ver : Nat} {p : PB} (hp : φ id ver = some p) {o : Obj} {b : AB} (hro : h.ro.lim ≤ id) (hb : BR φ ν { w with heap := w.heap.setIfInBounds p.blk o } id b) :
    HR φ ν { h with bl := T4.set HD id b h.bl } { w with heap := w.heap.setIfInBounds p.blk o } ∧ Ext h.ro φ w φ { w with heap := w.heap.setIfInBounds p.blk o } := by
  have hid := (hr.dom _ _ _ hp).1
  have hlim := hr.lim
  refine ⟨⟨fun i v q hq => ⟨(hr.dom i v q hq).1, by simpa using (hr.dom i v q hq).2⟩, hr.inj, fun i x hi hx => ?_, hr.lim, hr.ro, hr.gp, fun b' o' hbo => ?_, hr.ub⟩,
    ⟨φ.le_refl, by simp, rfl, rfl, rfl, fun i v q hq => .inl ⟨v, q, hq, rfl⟩, fun b' _ hn => Array.getElem?_setIfInBounds_ne (hn id ver p hp hro), fun _ _ _ h _ _ => h⟩⟩
  · simp only at hx hi
    rw [T4.get_set HD _ _ (by omega) (by omega)] at hx
    by_cases e : id = i
    · rw [if_pos e] at hx; cases hx; subst e; exact hb
    · rw [if_neg e] at hx
      refine BR.keep φ.le_refl (fun _ _ h => h) (fun v q hq => ?_) (hr.bl i x hi hx)
      have hne : p.blk ≠ q.blk := fun e' => e (hr.inj _ _ _ _ _ _ hp hq e')
      show (w.heap.setIfInBounds p.blk o)[q.blk]? = w.heap[q.blk]?
      exact Array.getElem?_setIfInBounds_ne hne
  · obtain ⟨g1, g2⟩ := hr.gl b' o' hbo
    refine ⟨?_, g2⟩
    have hne : p.blk ≠ b' := fun e => by have := g2 _ _ _ hp e; omega
    show (w.heap.setIfInBounds p.blk o)[b']? = some o'
    rw [Array.getElem?_setIfInBounds_ne hne]; exact g1
theorem freeze_at {w : World} {g o n : Nat} {c : Array Value} {el : TypeId} {fr : Nat × Nat} (hw : w.heap[g]? = some (.cells c el fr)) (hn : n ≠ 0) : ∃ fr', w.freeze ⟨g, o, none⟩ n = { w with heap := w.heap.setIfInBounds g (.cells c el fr') } := by
  obtain ⟨lo, hi⟩ := fr
  refine ⟨if lo == hi then (o, o + n) else (min lo o, max hi (o + n)), ?_⟩
  · unfold World.freeze
    rw [if_neg hn]
    congr 1
    apply Array.ext_getElem?
    intro i
    rw [Array.getElem?_modify, Array.getElem?_setIfInBounds]
    by_cases e : g = i
    · subst e
      have hlt : g < w.heap.size := (Array.getElem?_eq_some_iff.1 hw).1
      rw [if_pos rfl, if_pos rfl, if_pos hlt, hw]
      rfl
    · rw [if_neg e, if_neg e]
def mkConvI (P : Program) (L N : Nat) (t : TypeId) (x : Operand) (r : A L → Bool) : Bool :=
  mkE L N x fun ex => match undX P t with
    | some (.slice e) => match undX P e with
      | some (.int .u8) => r fun ts h k => ex ts fun x => vSl x false fun id ver off len mc exx => chk (Nat.ble h.ro.lim id) (T4.getK HD id h.bl fun b =>
          AB.rec (motive := fun _ => Bool) (fun s n lw fz opn el rows => chk (Nat.ble lw ver) (T4.setK HD id (.cells s (Nat.succ n) lw fz opn el rows) h.bl fun bl => k (.sl id ver off len mc exx) ⟨h.ds, h.ro, h.next, bl⟩)) (fun _ _ => false) (fun _ _ _ => false) (fun _ => false) b)
      | _ => false
    | _ => false
theorem mkConvI_true {P : Program} {ν : Nu} {L N : Nat} {o : Oper} {t : TypeId} {x : Operand} (ho : o.op = .convert t t x) {r : A L → Bool} (h : mkConvI P L N t x r = true) : ∃ e, GoodA P ν L N o e ∧ r e = true := by
  obtain ⟨ex, hex, h⟩ := mkE_true h
  try simp only [undX_eq] at h
  split at h
  · rename_i e ht
    try simp only [undX_eq] at h
    split at h
    · rename_i he
      refine ⟨_, fun φ ts h' a w hst k hk => .inl ?_, h⟩
      rcases vSl_true hk with ⟨_, hf⟩ | ⟨id, ver, off, len, mc, exx, e1, hk1⟩
      · cases hf
      · obtain ⟨c1, hk2⟩ := chk_true hk1
        have c1 := nlT c1
        obtain ⟨b, hbl, hk3⟩ := T4.getK_true _ _ _ _ hk2
        cases b with
        | mapo es c => cases hk3
        | siter a b c => cases hk3
        | dfr o => cases hk3
        | cells s n lw fz opn el rows =>
          obtain ⟨c2, hk4⟩ := chk_true hk3
          have c2 := nlT c2
          rw [T4.setK_eq] at hk4
          have hv := hex φ ν ts a hst.fr
          rw [e1] at hv
          generalize hvx : a.eval x = vx at hv
          have hv0 := hv
          cases hv with
          | sl hq hm hl hx hob hf =>
            rename_i cap q off'
            have hr := hst.hr
            obtain ⟨_, hlw, hs, hbv⟩ := hr.bl id _ (hr.dom _ _ _ hq).1 hbl
            obtain ⟨a1, a2, a3⟩ := hbv ver q hq
            obtain ⟨cc, fr2, f1, f2, f3, f4, f5, f6⟩ := a3 c2
            obtain ⟨fr', hfe⟩ := freeze_at (w := w) (o := cc.size) (n := 1) f1 (by omega)
            have hBR : BR φ ν { w with heap := w.heap.setIfInBounds q.blk (.cells cc el fr') } id (.cells s (Nat.succ n) lw fz opn el rows) := by
              refine ⟨trivial, by omega, hs, fun ver' q' hq' => ?_⟩
              obtain ⟨b1, b2, b3⟩ := hbv ver' q' hq'
              refine ⟨by omega, b2, fun hl' => ?_⟩
              obtain ⟨cq, frq, d1, d2, d3, d4, d5, d6⟩ := b3 hl'
              by_cases e : q.blk = q'.blk
              · rw [← e, f1] at d1
                cases d1
                refine ⟨cc, fr', ?_, d2, d3, d4, fun e => by omega, fun e => by omega⟩
                show (w.heap.setIfInBounds q.blk (.cells cc _ fr'))[q'.blk]? = _
                rw [← e, Array.getElem?_setIfInBounds_self_of_lt (Array.getElem?_eq_some_iff.1 f1).1]
              · refine ⟨cq, frq, ?_, d2, d3, d4, fun e => by omega, fun e => by omega⟩
                show (w.heap.setIfInBounds q.blk (.cells cc el fr'))[q'.blk]? = _
                rw [Array.getElem?_setIfInBounds_ne e]; exact d1
            obtain ⟨k1, k2⟩ := hr.setObjW hq c1 hBR
            have hsh : w.shape? q.blk = some (el, cc.size) := by simp [World.shape?, f1]
            refine ⟨_, _, _, φ, _, _, ?_, .inl rfl, hv0, k1, k2, rfl, rfl, hk4⟩
            unfold execOp; rw [ho]
            simp only [Sem.run_bind, hvx]
            have hcv : (convert t t (.slice (some ⟨q.blk, off', none⟩) len cap)).run P w = .ok (.slice (some ⟨q.blk, off', none⟩) len cap) { w with heap := w.heap.setIfInBounds q.blk (.cells cc el fr') } := by
              rw [← hfe]
              simp [convert, run_underlying' ht, run_underlying' he, markStringish, hsh]
            rw [hcv]
            simp
    · cases h
  · cases h
end
end Go.Abs

/-
  A verified evaluator: the code of a function: what is not covered answers false when it is run.
-/
namespace Go.Abs
noncomputable section
def dFalse (L : Nat) : D L := fun _ _ _ _ _ => false
theorem dFalse_good {P : Program} {ν : Nu} {R : Bool} {L N : Nat} {c : Code} : Good P ν R L N c (dFalse L) := fun _ _ _ _ _ _ _ _ _ _ _ _ hk => by cases hk
theorem dFalse_goodO {P : Program} {ν : Nu} {L N : Nat} {o : Oper} : GoodO P ν L N o (dFalse L) := fun _ _ _ _ _ _ _ _ _ _ hk => by cases hk
def safeD {L : Nat} (mk : (D L → Bool) → Bool) (r : D L → Bool) : Bool := bif mk (fun _ => true) then mk r else r (dFalse L)
theorem safeD_true {L : Nat} {mk : (D L → Bool) → Bool} {p : D L → Prop} (hp : p (dFalse L)) (hm : ∀ r, mk r = true → ∃ d, p d ∧ r d = true) {r : D L → Bool} (h : safeD mk r = true) : ∃ d, p d ∧ r d = true := by
  unfold safeD at h
  cases hb : mk (fun _ => true) with
  | true => rw [hb] at h; exact hm r h
  | false => rw [hb] at h; exact ⟨_, hp, h⟩
def safeB {L : Nat} (sf : Bool) (mk : (D L → Bool) → Bool) (r : D L → Bool) : Bool := bif sf then safeD mk r else mk r
theorem safeB_true {L : Nat} {sf : Bool} {mk : (D L → Bool) → Bool} {p : D L → Prop} (hp : p (dFalse L)) (hm : ∀ r, mk r = true → ∃ d, p d ∧ r d = true) {r : D L → Bool} (h : safeB sf mk r = true) : ∃ d, p d ∧ r d = true := by
  unfold safeB at h
  cases sf with
  | true => exact safeD_true hp hm h
  | false => exact hm r h
def mkValY (P : Program) (S : List Rule) (L N : Nat) (op : Op) (r : V L → Bool) : Bool :=
  match op with
  | .typeAssert x _ asserted ok => mkAssert P L N x asserted ok r
  | .binOp op t x y _ => bif aggOp P t then mkBinE P L N op t x y r else mkBinS P S L N op t x y r
  | .convert src dst x => bif isSliceT P src && !isSliceT P dst then mkConvS P L N src dst x r else mkConvR P S L N src dst x r
  | .call { callee := .builtin .min, args := ⟨[x, y]⟩, .. } => mkMinR S L N x y r
  | .call { callee := .builtin .len, args := ⟨[x]⟩, argTypes := ⟨t :: _⟩ } => mkLenR P S L N t x r
  | .indexAddr t x ix => mkIxR P S L N t x ix r
  | .load t x => mkLdR P S L N t x r
  | .fieldAddr t x f => mkFaR P S L N t x f r
  | .slice t x lo hi mx => mkSlR P S L N t x lo hi mx r
  | op => mkValX P L N op r
theorem mkValY_true {P : Program} {ν : Nu} {S : List Rule} (hS : SymOk P ν S) {L N : Nat} {o : Oper} {r : V L → Bool} (h : mkValY P S L N o.op r = true) : ∃ e, GoodV P ν L N o e ∧ r e = true := by
  unfold mkValY at h
  split at h
  · rename_i x xT asserted ok ho; exact mkAssert_true ho h
  · rename_i op t x y yt ho
    cases hb : aggOp P t with
    | true => rw [hb] at h; exact mkBinE_true ho h
    | false => rw [hb] at h; exact mkBinS_true hS ho h
  · rename_i src dst x ho
    cases hb : (isSliceT P src && !isSliceT P dst) with
    | true => rw [hb] at h; exact mkConvS_true ho h
    | false => rw [hb] at h; exact mkConvR_true hS ho h
  · rename_i x y at_ ho; exact mkMinR_true hS ho h
  · rename_i x t ts ho; exact mkLenR_true hS ho h
  · rename_i t x ix ho; exact mkIxR_true hS ho h
  · rename_i t x ho; exact mkLdR_true hS ho h
  · rename_i t x f ho; exact mkFaR_true hS ho h
  · rename_i t x lo hi mx ho; exact mkSlR_true hS ho h
  · exact mkValX_true h
def isValY (P : Program) (o : Oper) : Bool := match o.op with | .defer _ => false | .alloc _ => false | _ => isVal P o
def isIntT (P : Program) (t : TypeId) : Bool := match undX P t with | some (.int _) => true | _ => false
def mkOpY (P : Program) (S : List Rule) (L N : Nat) (o : Oper) (r : D L → Bool) : Bool :=
  match o.op with
  | .typeAssert .. | .binOp .. => mkValY P S L N o.op (putV L N o.dst r)
  | .convert src dst x => bif Nat.beq src dst && isSliceT P dst then mkConvI P L N src x (putA L N o.dst r) else bif isSliceT P dst then mkConvB P L N src dst x (putA L N o.dst r) else bif isSliceT P src then mkConvS P L N src dst x (putV L N o.dst r) else mkConvR P S L N src dst x (putV L N o.dst r)
  | .call { callee := .builtin .min, args := ⟨[x, y]⟩, .. } => mkMinR S L N x y (putV L N o.dst r)
  | .call { callee := .builtin .len, args := ⟨[x]⟩, argTypes := ⟨t :: _⟩ } => mkLenR P S L N t x (putV L N o.dst r)
  | .indexAddr t x ix => mkIxR P S L N t x ix (putV L N o.dst r)
  | .load t x => mkLdR P S L N t x (putV L N o.dst r)
  | .fieldAddr t x f => mkFaR P S L N t x f (putV L N o.dst r)
  | .slice t x lo hi mx => mkSlR P S L N t x lo hi mx (putV L N o.dst r)
  | .call { callee := .builtin .clear, args := ⟨[x]⟩, argTypes := ⟨[t]⟩ } => mkClear P L N t x (putA L N o.dst r)
  | .call { callee := .builtin .copy, args := ⟨[x, y]⟩, argTypes := ⟨[t, tx]⟩ } => mkCopy P L N t tx x y (putA L N o.dst r)
  | .call { callee := .builtin .append, args := ⟨[x, y]⟩, argTypes := ⟨[t, tx]⟩ } => bif isIntT P tx then mkAppendZ P L N t tx x y (putA L N o.dst r) else mkOpX P L N o r
  | .call { callee := .invoke x name, args, .. } => mkInv P L N o.dst x name args r
  | _ => mkOpX P L N o r
theorem mkOpY_true {P : Program} {ν : Nu} {S : List Rule} (hS : SymOk P ν S) {L N : Nat} {o : Oper} {r : D L → Bool} (h : mkOpY P S L N o r = true) : ∃ d, GoodO P ν L N o d ∧ r d = true := by
  unfold mkOpY at h
  split at h
  · obtain ⟨e, he, h⟩ := mkValY_true hS h; exact he.good h
  · obtain ⟨e, he, h⟩ := mkValY_true hS h; exact he.good h
  · rename_i src dst x ho
    cases hb0 : (Nat.beq src dst && isSliceT P dst) with
    | true =>
      rw [hb0] at h
      have e0 : src = dst := nbT (by rw [Bool.and_eq_true] at hb0; exact hb0.1)
      subst e0
      obtain ⟨e, he, h⟩ := mkConvI_true ho h; exact he.good h
    | false =>
    rw [hb0] at h
    cases hb : isSliceT P dst with
    | true => rw [hb] at h; obtain ⟨e, he, h⟩ := mkConvB_true ho h; exact he.good h
    | false =>
      rw [hb] at h
      cases hb2 : isSliceT P src with
      | true => rw [hb2] at h; obtain ⟨e, he, h⟩ := mkConvS_true ho h; exact he.good h
      | false => rw [hb2] at h; obtain ⟨e, he, h⟩ := mkConvR_true hS ho h; exact he.good h
  · rename_i x y at_ ho; obtain ⟨e, he, h⟩ := mkMinR_true hS ho h; exact he.good h
  · rename_i x t ts ho; obtain ⟨e, he, h⟩ := mkLenR_true hS ho h; exact he.good h
  · rename_i t x ix ho; obtain ⟨e, he, h⟩ := mkIxR_true hS ho h; exact he.good h
  · rename_i t x ho; obtain ⟨e, he, h⟩ := mkLdR_true hS ho h; exact he.good h
  · rename_i t x f ho; obtain ⟨e, he, h⟩ := mkFaR_true hS ho h; exact he.good h
  · rename_i t x lo hi mx ho; obtain ⟨e, he, h⟩ := mkSlR_true hS ho h; exact he.good h
  · rename_i x t ho; obtain ⟨e, he, h⟩ := mkClear_true ho h; exact he.good h
  · rename_i x y t tx ho; obtain ⟨e, he, h⟩ := mkCopy_true ho h; exact he.good h
  · rename_i x y t tx ho
    cases hb : isIntT P tx with
    | true => rw [hb] at h; obtain ⟨e, he, h⟩ := mkAppendZ_true ho h; exact he.good h
    | false => rw [hb] at h; exact mkOpX_true h
  · rename_i x name args at_ ho; exact mkInv_true ho h
  · exact mkOpX_true h
def ndR (R : Bool) (o : Oper) : Bool := match R, o.op with | true, .defer _ => false | _, _ => true
theorem ndR_true {o : Oper} (h : ndR true o = true) : NoDefer o := by
  intro c hc
  unfold ndR at h
  rw [hc] at h
  cases h
def mkOpR (P : Program) (S : List Rule) (R : Bool) (L N : Nat) (o : Oper) (r : D L → Bool) : Bool := bif ndR R o then mkOpY P S L N o r else false
theorem isValY_nd {P : Program} (o : Oper) (h : isValY P o = true) : NoDefer o := by
  intro c hc
  unfold isValY at h
  rw [hc] at h
  cases h
theorem isValY_al {P : Program} (o : Oper) (t : TypeId) (hc : o.op = .alloc t) : isValY P o = false := by
  unfold isValY
  rw [hc]
end
end Go.Abs

/-
  A verified evaluator: the same code of a function, found quicker (one look at an operation, every way a closed term).
-/
namespace Go.Abs
noncomputable section
abbrev VT := (P : Program) → (S : List Rule) → (L N : Nat) → (V L → Bool) → Bool
abbrev OT := (P : Program) → (S : List Rule) → (L N : Nat) → (dst : Option Tmp) → (r : D L → Bool) → Bool
def noV : VT := fun _ _ _ _ _ => false
def noO : OT := fun _ _ _ _ _ _ => false
def callV (b : Builtin) : List Operand → List TypeId → VT :=
  Builtin.rec (motive := fun _ => List Operand → List TypeId → VT)
    (fun _ _ => noV) /- append -/
    (fun a t => match a, t with | [x], t :: _ => fun P _ L N r => mkCap P L N t x r | _, _ => noV) /- cap -/
    (fun _ _ => noV) (fun _ _ => noV) (fun _ _ => noV) (fun _ _ => noV) (fun _ _ => noV) (fun _ _ => noV) /- clear close complex copy delete imag -/
    (fun a t => match a, t with | [x], t :: _ => fun P S L N r => mkLenR P S L N t x r | _, _ => noV) /- len -/
    (fun _ _ => noV) /- make -/
    (fun a _ => match a with | [x, y] => fun _ _ L N r => mkMinMax L N true x y r | _ => noV) /- max -/
    (fun a _ => match a with | [x, y] => fun _ S L N r => mkMinR S L N x y r | _ => noV) /- min -/
    (fun _ _ => noV) (fun _ _ => noV) (fun _ _ => noV) (fun _ _ => noV) (fun _ _ => noV) (fun _ _ => noV) (fun _ _ => noV) (fun _ _ => noV) (fun _ _ => noV) (fun _ _ => noV) (fun _ _ => noV) (fun _ _ => noV) (fun _ _ => noV) (fun _ _ => noV) b
def valT (op : Op) : VT :=
  Op.rec (motive := fun _ => VT)
    (fun x => fun _ _ L N r => mkMove L N x r)
    (fun x => fun _ _ L N r => mkMove L N x r)
    (fun c a b => fun _ _ L N r => mkPick L N c a b r)
    (fun _ => noV) (fun _ _ => noV)
    (fun t parts => fun P _ L N r => mkBuild P L N t parts r)
    (fun _ _ _ => noV) (fun _ _ _ _ => noV)
    (fun t x => fun P S L N r => mkLdR P S L N t x r)
    (fun _ _ _ => noV) (fun _ => noV) (fun _ => noV)
    (fun x => fun _ _ L N r => mkNil L N x r)
    (fun op t x y _ => fun P S L N r => bif aggOp P t then mkBinE P L N op t x y r else mkBinS P S L N op t x y r)
    (fun op _ x => fun _ _ L N r => mkUn L N op x r)
    (fun src dst x => fun P S L N r => bif isSliceT P src && !isSliceT P dst then mkConvS P L N src dst x r else mkConvR P S L N src dst x r)
    (fun _ _ => noV)
    (fun t x => fun P _ L N r => mkIface P L N t x r)
    (fun f fs cs => fun _ _ L N r => mkMakeFunc L N f fs cs r)
    (fun _ _ => noV) (fun _ _ => noV) (fun _ _ _ => noV)
    (fun t x lo hi mx => fun P S L N r => mkSlR P S L N t x lo hi mx r)
    (fun t x f => fun P S L N r => mkFaR P S L N t x f r)
    (fun t x f => fun P _ L N r => mkField P L N t x f r)
    (fun t x i => fun P S L N r => mkIxR P S L N t x i r)
    (fun t x i => fun P _ L N r => mkIndex P L N t x i r)
    (fun t x ix ok => fun P _ L N r => mkLookup P L N t x ix ok r)
    (fun _ _ _ _ => noV) (fun _ _ _ => noV) (fun _ _ _ _ => noV) (fun _ _ => noV) (fun _ _ => noV) (fun _ => noV)
    (fun x _ asserted ok => fun P _ L N r => mkAssert P L N x asserted ok r)
    (fun x i => fun _ _ L N r => mkExtract L N x i r)
    (fun c => Callee.rec (motive := fun _ => List Operand → List TypeId → VT) (fun _ _ _ => noV) (fun _ _ _ _ => noV) callV c.callee c.args.toList c.argTypes.toList)
    (fun _ => noV) (fun _ => noV) (fun _ => noV) (fun _ _ => noV) (fun _ _ _ => noV) (fun _ _ => noV) op
theorem valT_imp {P : Program} {S : List Rule} {L N : Nat} {op : Op} {r : V L → Bool} (h : valT op P S L N r = true) : mkValY P S L N op r = true := by
  cases op with
  | call c =>
    obtain ⟨callee, ⟨args⟩, ⟨ts⟩⟩ := c
    cases callee with
    | value x => cases h
    | invoke x s => cases h
    | builtin b =>
      cases b with
      | cap =>
        match args, ts, h with
        | [], _, h => cases h
        | [x], [], h => cases h
        | [x], t :: ts, h => exact h
        | x :: y :: l, _, h => cases h
      | len =>
        match args, ts, h with
        | [], _, h => cases h
        | [x], [], h => cases h
        | [x], t :: ts, h => exact h
        | x :: y :: l, _, h => cases h
      | max =>
        match args, h with
        | [], h => cases h
        | [x], h => cases h
        | [x, y], h => exact h
        | x :: y :: z :: l, h => cases h
      | min =>
        match args, h with
        | [], h => cases h
        | [x], h => cases h
        | [x, y], h => exact h
        | x :: y :: z :: l, h => cases h
      | _ => cases h
  | _ => first | exact h | cases h
def callO (b : Builtin) : List Operand → List TypeId → OT :=
  Builtin.rec (motive := fun _ => List Operand → List TypeId → OT)
    (fun a t => match a, t with | [x, y], [t, tx] => fun P _ L N dst r => bif isIntT P tx then mkAppendZ P L N t tx x y (putA L N dst r) else mkAppend P L N t tx x y (putA L N dst r) | _, _ => noO)
    (fun a t => match a, t with | [x], t :: _ => fun P _ L N dst r => mkCap P L N t x (putV L N dst r) | _, _ => noO)
    (fun a t => match a, t with | [x], [t] => fun P _ L N dst r => mkClear P L N t x (putA L N dst r) | _, _ => noO)
    (fun _ _ => noO) (fun _ _ => noO)
    (fun a t => match a, t with | [x, y], [t, tx] => fun P _ L N dst r => mkCopy P L N t tx x y (putA L N dst r) | _, _ => noO)
    (fun _ _ => noO) (fun _ _ => noO)
    (fun a t => match a, t with | [x], t :: _ => fun P S L N dst r => mkLenR P S L N t x (putV L N dst r) | _, _ => noO)
    (fun _ _ => noO)
    (fun a _ => match a with | [x, y] => fun _ _ L N dst r => mkMinMax L N true x y (putV L N dst r) | _ => noO)
    (fun a _ => match a with | [x, y] => fun _ S L N dst r => mkMinR S L N x y (putV L N dst r) | _ => noO)
    (fun _ _ => noO) (fun _ _ => noO) (fun _ _ => noO) (fun _ _ => noO) (fun _ _ => noO) (fun _ _ => noO) (fun _ _ => noO) (fun _ _ => noO) (fun _ _ => noO) (fun _ _ => noO) (fun _ _ => noO) (fun _ _ => noO) (fun _ _ => noO) (fun _ _ => noO) b
def callFO (x : Operand) : List Operand → OT :=
  Operand.rec (motive := fun _ => List Operand → OT) (fun t a => fun _ _ L N dst r => mkCallV L N dst (.tmp t) ⟨a⟩ r) (fun v a => fun _ _ L N dst r => mkCallV L N dst (.const v) ⟨a⟩ r)
    (fun g a => fun _ _ L N dst r => mkCallV L N dst (.global g) ⟨a⟩ r) (fun f a => fun _ _ L N dst r => mkCallF L N dst f ⟨a⟩ r) x
def opT (op : Op) : OT :=
  Op.rec (motive := fun _ => OT)
    (fun x => fun _ _ L N dst r => mkMove L N x (putV L N dst r))
    (fun x => fun _ _ L N dst r => mkMove L N x (putV L N dst r))
    (fun c a b => fun _ _ L N dst r => mkPick L N c a b (putV L N dst r))
    (fun t => fun P _ L N dst r => mkAlloc P L t (putA L N dst r))
    (fun t x => fun P _ L N dst r => mkBox P L N t x (putA L N dst r))
    (fun t parts => fun P _ L N dst r => mkBuild P L N t parts (putV L N dst r))
    (fun t n parts => fun P _ L N dst r => mkBuildSlice P L N t n parts (putA L N dst r))
    (fun t m x y => fun P _ L N dst r => mkInsert P L N t m x y (putA L N dst r))
    (fun t x => fun P S L N dst r => mkLdR P S L N t x (putV L N dst r))
    (fun t x y => fun P _ L N dst r => mkStore P L N t x y (putA L N dst r))
    (fun _ => noO) (fun _ => noO)
    (fun x => fun _ _ L N dst r => mkNil L N x (putV L N dst r))
    (fun op t x y _ => fun P S L N dst r => bif aggOp P t then mkBinE P L N op t x y (putV L N dst r) else mkBinS P S L N op t x y (putV L N dst r))
    (fun op _ x => fun _ _ L N dst r => mkUn L N op x (putV L N dst r))
    (fun src d x => fun P S L N dst r => bif Nat.beq src d && isSliceT P d then mkConvI P L N src x (putA L N dst r) else bif isSliceT P d then mkConvB P L N src d x (putA L N dst r) else bif isSliceT P src then mkConvS P L N src d x (putV L N dst r) else mkConvR P S L N src d x (putV L N dst r))
    (fun _ _ => noO)
    (fun t x => fun P _ L N dst r => mkIface P L N t x (putV L N dst r))
    (fun f fs cs => fun _ _ L N dst r => mkMakeFunc L N f fs cs (putV L N dst r))
    (fun t rs => fun P _ L N dst r => mkMakeMap P L N t rs (putA L N dst r))
    (fun _ _ => noO)
    (fun t l c => fun P _ L N dst r => mkMakeSlice P L N t l c (putA L N dst r))
    (fun t x lo hi mx => fun P S L N dst r => mkSlR P S L N t x lo hi mx (putV L N dst r))
    (fun t x f => fun P S L N dst r => mkFaR P S L N t x f (putV L N dst r))
    (fun t x f => fun P _ L N dst r => mkField P L N t x f (putV L N dst r))
    (fun t x i => fun P S L N dst r => mkIxR P S L N t x i (putV L N dst r))
    (fun t x i => fun P _ L N dst r => mkIndex P L N t x i (putV L N dst r))
    (fun t x ix ok => fun P _ L N dst r => mkLookup P L N t x ix ok (putV L N dst r))
    (fun t m x y => fun P _ L N dst r => mkInsert P L N t m x y (putA L N dst r))
    (fun _ _ _ => noO) (fun _ _ _ _ => noO)
    (fun t x => fun P _ L N dst r => mkRangeS P L N t x (putA L N dst r))
    (fun it b => Bool.rec (motive := fun _ => OT) noO (fun _ _ L N dst r => mkNextS L N it (putA L N dst r)) b)
    (fun _ => noO)
    (fun x _ asserted ok => fun P _ L N dst r => mkAssert P L N x asserted ok (putV L N dst r))
    (fun x i => fun _ _ L N dst r => mkExtract L N x i (putV L N dst r))
    (fun c => Callee.rec (motive := fun _ => List Operand → List TypeId → OT) (fun x a _ => callFO x a) (fun x nm a _ => fun P _ L N dst r => mkInv P L N dst x nm ⟨a⟩ r) callO c.callee c.args.toList c.argTypes.toList)
    (fun _ => noO)
    (fun c => Callee.rec (motive := fun _ => List Operand → OT) (fun g a => fun _ _ L N dst r => mkDefer L N g ⟨a⟩ (putA L N dst r)) (fun _ _ _ => noO) (fun _ _ => noO) c.callee c.args.toList)
    (fun x => fun _ _ L N _ r => mkE L N x fun e => r fun _ ts h _ ks => e ts fun x => vIface x false fun t v => ks.pn ts (.iface t v) h)
    (fun _ _ => noO) (fun _ _ _ => noO) (fun _ _ => noO) op
theorem opT_imp {P : Program} {S : List Rule} {L N : Nat} {o : Oper} {r : D L → Bool} (h : opT o.op P S L N o.dst r = true) : mkOpY P S L N o r = true := by
  obtain ⟨dst, op, ty, pos, aft, g⟩ := o
  cases op with
  | call c =>
    obtain ⟨callee, ⟨args⟩, ⟨ts⟩⟩ := c
    cases callee with
    | value x => cases x <;> exact h
    | invoke x s => exact h
    | builtin b =>
      cases b with
      | append =>
        match args, ts, h with
        | [], _, h => cases h
        | [x], _, h => cases h
        | [x, y], [], h => cases h
        | [x, y], [t], h => cases h
        | [x, y], [t, tx], h => exact h
        | [x, y], t :: tx :: tz :: ts, h => cases h
        | x :: y :: z :: l, _, h => cases h
      | copy =>
        match args, ts, h with
        | [], _, h => cases h
        | [x], _, h => cases h
        | [x, y], [], h => cases h
        | [x, y], [t], h => cases h
        | [x, y], [t, tx], h => exact h
        | [x, y], t :: tx :: tz :: ts, h => cases h
        | x :: y :: z :: l, _, h => cases h
      | clear =>
        match args, ts, h with
        | [], _, h => cases h
        | [x], [], h => cases h
        | [x], [t], h => exact h
        | [x], t :: u :: ts, h => cases h
        | x :: y :: l, _, h => cases h
      | cap =>
        match args, ts, h with
        | [], _, h => cases h
        | [x], [], h => cases h
        | [x], t :: ts, h => exact h
        | x :: y :: l, _, h => cases h
      | len =>
        match args, ts, h with
        | [], _, h => cases h
        | [x], [], h => cases h
        | [x], t :: ts, h => exact h
        | x :: y :: l, _, h => cases h
      | max =>
        match args, h with
        | [], h => cases h
        | [x], h => cases h
        | [x, y], h => exact h
        | x :: y :: z :: l, h => cases h
      | min =>
        match args, h with
        | [], h => cases h
        | [x], h => cases h
        | [x, y], h => exact h
        | x :: y :: z :: l, h => cases h
      | _ => cases h
  | «defer» c =>
    obtain ⟨callee, ⟨args⟩, ⟨ts⟩⟩ := c
    cases callee with
    | value x => exact h
    | invoke x s => cases h
    | builtin b => cases h
  | next it b => cases b <;> first | exact h | cases h
  | _ => first | exact h | cases h
def isValB (b : Builtin) : Bool := Builtin.rec (motive := fun _ => Bool) false true false false false false false false true false true true false false false false false false false false false false false false false false b
def isValT (op : Op) : Program → Bool := Op.rec (motive := fun _ => Program → Bool) (fun _ => fun _ => true) (fun _ => fun _ => true) (fun _ _ _ => fun _ => true) (fun _ => fun _ => false) (fun _ _ => fun _ => false) (fun _ _ => fun _ => true) (fun _ _ _ => fun _ => false) (fun _ _ _ _ => fun _ => false) (fun _ _ => fun _ => true) (fun _ _ _ => fun _ => false) (fun _ => fun _ => false) (fun _ => fun _ => false) (fun _ => fun _ => true) (fun _ _ _ _ _ => fun _ => true) (fun _ _ _ => fun _ => true) (fun _ d _ => fun P => !isSliceT P d) (fun _ _ => fun _ => false) (fun _ _ => fun _ => true) (fun _ _ _ => fun _ => true) (fun _ _ => fun _ => false) (fun _ _ => fun _ => false) (fun _ _ _ => fun _ => false) (fun _ _ _ _ _ => fun _ => true) (fun _ _ _ => fun _ => true) (fun _ _ _ => fun _ => true) (fun _ _ _ => fun _ => true) (fun _ _ _ => fun _ => true) (fun _ _ _ _ => fun _ => true) (fun _ _ _ _ => fun _ => false) (fun _ _ _ => fun _ => false) (fun _ _ _ _ => fun _ => false) (fun _ _ => fun _ => false) (fun _ _ => fun _ => false) (fun _ => fun _ => false) (fun _ _ _ _ => fun _ => true) (fun _ _ => fun _ => true) (fun c => fun _ => Callee.rec (motive := fun _ => Bool) (fun _ => false) (fun _ _ => false) isValB c.callee) (fun _ => fun _ => false) (fun _ => fun _ => false) (fun _ => fun _ => false) (fun _ _ => fun _ => false) (fun _ _ _ => fun _ => false) (fun _ _ => fun _ => false) op
def ndT (op : Op) : Bool := Op.rec (motive := fun _ => Bool) (fun _ => true) (fun _ => true) (fun _ _ _ => true) (fun _ => true) (fun _ _ => true) (fun _ _ => true) (fun _ _ _ => true) (fun _ _ _ _ => true) (fun _ _ => true) (fun _ _ _ => true) (fun _ => true) (fun _ => true) (fun _ => true) (fun _ _ _ _ _ => true) (fun _ _ _ => true) (fun _ _ _ => true) (fun _ _ => true) (fun _ _ => true) (fun _ _ _ => true) (fun _ _ => true) (fun _ _ => true) (fun _ _ _ => true) (fun _ _ _ _ _ => true) (fun _ _ _ => true) (fun _ _ _ => true) (fun _ _ _ => true) (fun _ _ _ => true) (fun _ _ _ _ => true) (fun _ _ _ _ => true) (fun _ _ _ => true) (fun _ _ _ _ => true) (fun _ _ => true) (fun _ _ => true) (fun _ => true) (fun _ _ _ _ => true) (fun _ _ => true) (fun _ => true) (fun _ => true) (fun _ => false) (fun _ => true) (fun _ _ => true) (fun _ _ _ => true) (fun _ _ => true) op
def ndZ (R : Bool) (o : Oper) : Bool := Bool.rec (motive := fun _ => Bool) true (ndT o.op) R
theorem ndT_true {o : Oper} (h : ndT o.op = true) : NoDefer o := by
  intro c hc
  rw [hc] at h
  cases h
theorem ndZ_true {o : Oper} (h : ndZ true o = true) : NoDefer o := ndT_true h
theorem isValT_nd {P : Program} (o : Oper) (h : isValT o.op P = true) : NoDefer o := by
  intro c hc
  rw [hc] at h
  cases h
theorem isValT_al {P : Program} (o : Oper) (t : TypeId) (hc : o.op = .alloc t) : isValT o.op P = false := by
  rw [hc]; rfl
def mkOpRZ (P : Program) (S : List Rule) (R : Bool) (L N : Nat) (o : Oper) (r : D L → Bool) : Bool := bif ndZ R o then opT o.op P S L N o.dst r else false
def mkOpSZ (P : Program) (S : List Rule) (sf R : Bool) (L N : Nat) (o : Oper) (r : D L → Bool) : Bool := bif ndZ R o then safeB sf (opT o.op P S L N o.dst) r else false
theorem opT_true {P : Program} {ν : Nu} {S : List Rule} (hS : SymOk P ν S) {L N : Nat} {o : Oper} {r : D L → Bool} (h : opT o.op P S L N o.dst r = true) : ∃ d, GoodO P ν L N o d ∧ r d = true := mkOpY_true hS (opT_imp h)
theorem valT_true {P : Program} {ν : Nu} {S : List Rule} (hS : SymOk P ν S) {L N : Nat} {o : Oper} {r : V L → Bool} (h : valT o.op P S L N r = true) : ∃ e, GoodV P ν L N o e ∧ r e = true := mkValY_true hS (valT_imp h)
theorem mkOpRZ_true {P : Program} {ν : Nu} {S : List Rule} (hS : SymOk P ν S) {R : Bool} {L N : Nat} {o : Oper} {r : D L → Bool} (h : mkOpRZ P S R L N o r = true) : (∃ d, GoodO P ν L N o d ∧ r d = true) ∧ ndZ R o = true := by
  unfold mkOpRZ at h
  cases hb : ndZ R o with
  | false => rw [hb] at h; cases h
  | true => rw [hb] at h; exact ⟨opT_true hS h, rfl⟩
theorem mkOpSZ_true {P : Program} {ν : Nu} {S : List Rule} (hS : SymOk P ν S) {sf R : Bool} {L N : Nat} {o : Oper} {r : D L → Bool} (h : mkOpSZ P S sf R L N o r = true) : (∃ d, GoodO P ν L N o d ∧ r d = true) ∧ ndZ R o = true := by
  unfold mkOpSZ at h
  cases hb : ndZ R o with
  | false => rw [hb] at h; cases h
  | true => rw [hb] at h; exact ⟨safeB_true dFalse_goodO (fun _ h => opT_true hS h) h, rfl⟩
def mkRndZ (P : Program) (S : List Rule) (sf : Bool) (L N : Nat) (c : Code) (r : D L → Bool) : Bool :=
  dec L N (mkOpSZ P S sf true L N) (fun ops => safeB sf (mkDraw P L N (fun o r => valT o.op P S L N r) (mkOpRZ P S true L N) (mkQU P L N) (fun o => isValT o.op P) ops)) (fun _ _ _ _ _ => false) c r
theorem mkRndZ_true {P : Program} {ν : Nu} {S : List Rule} (hS : SymOk P ν S) {sf : Bool} {L N : Nat} (c : Code) (r : D L → Bool) (h : mkRndZ P S sf L N c r = true) : ∃ d, Good P ν true L N c d ∧ r d = true := by
  refine dec_sound (mkOp := mkOpSZ P S sf true L N) (fun o r h => (mkOpSZ_true hS h).1) (fun _ o r h => ndZ_true (mkOpSZ_true hS (ν := ν) h).2) (fun id ops r h => ?_) (fun _ _ _ _ r h => by cases h) c r h
  exact safeB_true dFalse_good (fun r h => mkDraw_true (fun o r h => valT_true hS h) (fun o r h => (mkOpRZ_true hS h).1) (fun _ o r h => ndZ_true (mkOpRZ_true hS (ν := ν) h).2) (fun o r h => mkQU_true h) (fun o r h => mkQU_nd h) (fun o h => isValT_nd o h) h) h
def mkCodeZ (P : Program) (S : List Rule) (sf : Bool) (gs : FuncId × FuncId) : MkCode := fun R L N c r =>
  dec L N (mkOpSZ P S sf R L N) (fun ops => safeB sf (mkDraw P L N (fun o r => valT o.op P S L N r) (mkOpRZ P S R L N) (mkQU P L N) (fun o => isValT o.op P) ops))
    (fun f ps asg body => bif R then (fun r => r (dFalse L)) else safeB sf (mkRangeF L N gs (mkRndZ P S sf L N) f ps asg body)) c r
theorem mkCodeZ_good (P : Program) (S : List Rule) (sf : Bool) (ν : Nu) (hS : SymOk P ν S) (gs : FuncId × FuncId) (hok : SplitOk P ν gs) : GoodMk P ν (mkCodeZ P S sf gs) := fun R L N c r h => by
  refine dec_sound (mkOp := mkOpSZ P S sf R L N) (fun o r h => (mkOpSZ_true hS h).1) (fun hR o r h => by subst hR; exact ndZ_true (mkOpSZ_true hS (ν := ν) h).2) (fun id ops r h => ?_) (fun f ps asg body r h => ?_) c r h
  · exact safeB_true dFalse_good (fun r h => mkDraw_true (fun o r h => valT_true hS h) (fun o r h => (mkOpRZ_true hS h).1) (fun hR o r h => by subst hR; exact ndZ_true (mkOpRZ_true hS (ν := ν) h).2) (fun o r h => mkQU_true h) (fun o r h => mkQU_nd h) (fun o h => isValT_nd o h) h) h
  · cases R with
    | true => exact ⟨_, dFalse_good, h⟩
    | false => exact safeB_true dFalse_good (fun r h => mkRangeF_true hok (fun c r h => mkRndZ_true hS c r h) h) h
end
end Go.Abs

/-
  A verified evaluator: strings.Builder by what its functions leave.
-/
namespace Go.Abs
noncomputable section
open Go.RowKit (Below)
/-! ### strings.Repeat -/
def repK (l c : Nat) (k : Nat → Nat → Bool) : Nat → Nat → Nat → Bool := fun n => Nat.rec (motive := fun _ => Nat → Nat → Bool) (fun len code => k len code) (fun _ ih len code => forceN (Nat.add l len) fun len => forceN (Nat.add c (Nat.mul (Nat.pow 256 l) code)) fun code => ih len code) n
theorem repK_true (s : List UInt8) {k : Nat → Nat → Bool} : ∀ (n m : Nat), repK s.length (enc s) k n (Lib.repeatL s m).length (enc (Lib.repeatL s m)) = true → k (Lib.repeatL s (n + m)).length (enc (Lib.repeatL s (n + m))) = true
  | 0, m, h => by rw [Nat.zero_add]; exact h
  | n + 1, m, h => by
    have h' : (forceN (Nat.add s.length (Lib.repeatL s m).length) fun len => forceN (Nat.add (enc s) (Nat.mul (Nat.pow 256 s.length) (enc (Lib.repeatL s m)))) fun code => repK s.length (enc s) k n len code) = true := h
    rw [forceN_eq, forceN_eq] at h'
    have e1 : Nat.add s.length (Lib.repeatL s m).length = (Lib.repeatL s (m + 1)).length := by
      show s.length + (Lib.repeatL s m).length = (s ++ Lib.repeatL s m).length
      rw [List.length_append]
    have e2 : Nat.add (enc s) (Nat.mul (Nat.pow 256 s.length) (enc (Lib.repeatL s m))) = enc (Lib.repeatL s (m + 1)) := by
      show enc s + 256 ^ s.length * enc (Lib.repeatL s m) = enc (s ++ Lib.repeatL s m)
      rw [enc_append]
    rw [e1, e2] at h'
    have := repK_true s n (m + 1) h'
    rwa [show n + (m + 1) = n + 1 + m by omega] at this
def repeatD : FnD := fun _ args h kr _ => args2 args fun x y => vStr x fun l c => vInt y fun K n => chk (isIntK K .i64) (Int.rec (motive := fun _ => Bool) (fun n => chk (Nat.ble n 65536) (chk (Nat.ble (Nat.mul l n) 65536) (repK l c (fun len code => kr (.str len code) h) n 0 0))) (fun _ => false) n)
theorem repeat_good {P : Program} {ν : Nu} {f : Nat} (hb : hasBody P f = true)
    (hC : ∀ (s : ByteArray) (c : Nat) (w : World), c ≤ 9223372036854775807 → s.size * c ≤ 140737488355328 → Calls P f #[.string s, .int .i64 c] w fun e w' => e = .returned (.string ⟨(Lib.repeatL s.data.toList c).toArray⟩) ∧ Below w.heap.size w w') :
    FnGood P ν f repeatD := by
  refine FnGood.plain hb fun cf args h φ w vs kr kp hk hr hv => ?_
  obtain ⟨x, y, e0, hk1⟩ := args2_true hk
  obtain ⟨l, c, e1, hk2⟩ := vStr_true hk1
  obtain ⟨K, n, e2, hk3⟩ := vInt_true hk2
  obtain ⟨c0, hk3⟩ := chk_true hk3
  have hK := isIntK_true c0
  cases n with
  | negSucc m => cases hk3
  | ofNat n =>
    obtain ⟨c1, hk4⟩ := chk_true hk3
    obtain ⟨c2, hk5⟩ := chk_true hk4
    have c1 := nlT c1
    have c2 : l * n ≤ 65536 := nlT c2
    subst e0 e1 e2 hK
    cases hv with
    | cons h1 hv =>
      cases hv with
      | cons h2 hv =>
        cases hv with
        | nil =>
          cases h1 with
          | str hs =>
            rename_i s
            cases h2
            have hsz := hs.1
            have hk6 : repK s.data.toList.length (enc s.data.toList) (fun len code => kr (.str len code) h) n (Lib.repeatL s.data.toList 0).length (enc (Lib.repeatL s.data.toList 0)) = true := by
              rw [hs.data, hs.2]; exact hk5
            have hk7 := repK_true s.data.toList n 0 hk6
            rw [Nat.add_zero] at hk7
            exact ⟨_, _, hC s n w (by omega) (by rw [hsz]; omega), .str (IsStr.of_list _), hk7⟩
/-! ### what a builder is -/
def ptrOrNil (v : AV) (a : Bool) (k : Nat → Nat → Nat → Bool) : Bool :=
  AV.rec (motive_1 := fun _ => Bool) (motive_2 := fun _ => Bool) false (fun _ _ => false) false (fun _ => false) false (fun _ _ _ _ _ => false) (fun _ _ => false) false (fun _ _ _ => false) a false
    (fun _ _ => false) k (fun _ _ _ _ _ _ => false) (fun _ _ => false) (fun _ => false) (fun _ _ => false) false (fun _ _ _ _ => false) v
theorem ptrOrNil_true {v : AV} {a : Bool} {k : Nat → Nat → Nat → Bool} (h : ptrOrNil v a k = true) : (v = .nilp ∧ a = true) ∨ ∃ i j n, v = .ptr i j n ∧ k i j n = true := by
  cases v <;> first | exact .inr ⟨_, _, _, rfl, h⟩ | exact .inl ⟨rfl, h⟩ | cases h
def bldC (T : TypeId) (ver : Nat) (k : AV → AV → Bool) (s n fz : Nat) (opn : Bool) (el : TypeId) (rows : RT (List AV) RD) : Bool :=
  chk (Nat.beq n 2 && Nat.beq ver 2 && Nat.beq fz 0 && !opn && Nat.beq el T) (cellK s rows 0 fun v0 => cellK s rows 1 fun v1 => k v0 v1)
def bldK (T : TypeId) (x : AV) (h : H) (k : Nat → Nat → AV → AV → Bool) : Bool :=
  vPtr x fun id ver off => chk (Nat.beq off 0) (getB id ver h (bldC T ver (k id ver)))
theorem bldK_true {φ : Phi} {ν : Nu} {T : TypeId} {x : AV} {h : H} {w : World} {k : Nat → Nat → AV → AV → Bool} {v : Value} (hr : HR φ ν h w) (hv : VR φ ν x v) (hk : bldK T x h k = true) :
    ∃ id ver p fr u0 u1 v0 v1, x = .ptr id ver 0 ∧ φ id ver = some p ∧ v = .pointer (some ⟨p.blk, 0, none⟩) ∧ w.heap[p.blk]? = some (.cells #[u0, u1] T fr) ∧ (∀ j, j < 2 → w.frozen? ⟨p.blk, j, none⟩ = false) ∧
      VR φ ν v0 u0 ∧ VR φ ν v1 u1 ∧ u0.oneCell' = true ∧ u1.oneCell' = true ∧ k id ver v0 v1 = true := by
  obtain ⟨id, ver, off, e1, hk⟩ := vPtr_true hk
  obtain ⟨c1, hk⟩ := chk_true hk
  have c1 := nbT c1
  subst e1 c1
  cases hv with
  | ptr hp =>
    rename_i p
    obtain ⟨s, n, lw, fz, opn, el, rows, hb, hl, hs, hbr, hk⟩ := getB_true hr hp hk
    unfold bldC at hk
    obtain ⟨c2, hk9⟩ := chk_true hk
    clear hk
    simp only [Bool.and_eq_true, Bool.not_eq_true'] at c2
    obtain ⟨⟨⟨⟨c2, c3⟩, c4⟩, c5⟩, c6⟩ := c2
    have c2 := nbT c2
    have c3 := nbT c3
    have c4 := nbT c4
    have c6 := nbT c6
    subst c2 c3 c4 c6
    have hk2 := cellK_true (cellK_true hk9)
    obtain ⟨_, _, hcc⟩ := hbr
    obtain ⟨cc, fr, hb2, hsz, hv, hcell, hfr, hcl⟩ := hcc hl
    obtain ⟨h2, _⟩ := hcl rfl c5
    obtain ⟨u0, g1, g2, g3⟩ := hcell 0 (by omega)
    obtain ⟨u1, g4, g5, g6⟩ := hcell 1 (by omega)
    have hcc : cc = #[u0, u1] := by
      apply Array.ext'
      apply List.ext_getElem?
      intro i
      rcases i with _ | _ | i
      · simpa using g1
      · simpa using g4
      · rw [List.getElem?_eq_none (by simpa using (by omega : cc.size ≤ i + 2))]; simp
    subst hcc
    refine ⟨_, _, p, fr, u0, u1, _, _, rfl, hp, rfl, hb2, fun j hj => ?_, g3, g6, g2, g5, hk2⟩
    have := hfr rfl j (by omega) (by rw [h2]; exact hj)
    simp [World.frozen?, hb2]
    omega
theorem run_storeB {P : Program} {W : World} {b j : Nat} {v u : Value} (h1 : v.oneCell' = true) (hc : W.cell? ⟨b, j, none⟩ = some u) (hf : W.frozen? ⟨b, j, none⟩ = false) : (storeCells ⟨b, j, none⟩ [v]).run P W = .ok () (W.setCell ⟨b, j, none⟩ v) := by
  have hst : (store ((⟨b, j, none⟩ : Addr).add 0) v).run P W = .ok () (W.setCell ⟨b, j, none⟩ v) := by
    rw [addr_add, run_store P W _ v _ h1, Nat.add_zero, hc]
    simp [hf]
  show (do store ((⟨b, j, none⟩ : Addr).add 0) v; pure () : Sem Unit).run P W = _
  simp only [Sem.run_bind, hst, Result.andThen_ok, Sem.run_pure]
theorem HR.setObjV {φ : Phi} {ν : Nu} {h : H} {w : World} (hr : HR φ ν h w) {id ver : Nat} {p : PB} (hp : φ id ver = some p) {o : Obj} {b : AB} (hro : h.ro.lim ≤ id) (hb : BR φ ν { w with heap := w.heap.setIfInBounds p.blk o } id b) :
    HR φ ν { h with bl := T4.set HD id b h.bl } { w with heap := w.heap.setIfInBounds p.blk o } ∧ Ext h.ro φ w φ { w with heap := w.heap.setIfInBounds p.blk o } := by
  have hid := (hr.dom _ _ _ hp).1
  have hlim := hr.lim
  refine ⟨⟨fun i v q hq => ⟨(hr.dom i v q hq).1, by simpa using (hr.dom i v q hq).2⟩, hr.inj, fun i x hi hx => ?_, hr.lim, hr.ro, hr.gp, fun b' o' hbo => ?_, hr.ub⟩,
    ⟨φ.le_refl, by simp, rfl, rfl, rfl, fun i v q hq => .inl ⟨v, q, hq, rfl⟩, fun b' _ hn => Array.getElem?_setIfInBounds_ne (hn id ver p hp hro), fun _ _ _ h _ _ => h⟩⟩
  · simp only at hx hi
    rw [T4.get_set HD _ _ (by omega) (by omega)] at hx
    by_cases e : id = i
    · rw [if_pos e] at hx; cases hx; subst e; exact hb
    · rw [if_neg e] at hx
      refine BR.keep φ.le_refl (fun _ _ h => h) (fun v q hq => ?_) (hr.bl i x hi hx)
      have hne : p.blk ≠ q.blk := fun e' => e (hr.inj _ _ _ _ _ _ hp hq e')
      show (w.heap.setIfInBounds p.blk o)[q.blk]? = w.heap[q.blk]?
      exact Array.getElem?_setIfInBounds_ne hne
  · obtain ⟨g1, g2⟩ := hr.gl b' o' hbo
    refine ⟨?_, g2⟩
    have hne : p.blk ≠ b' := fun e => by have := g2 _ _ _ hp e; omega
    show (w.heap.setIfInBounds p.blk o)[b']? = some o'
    rw [Array.getElem?_setIfInBounds_ne hne]; exact g1
/-! ### copyCheck -/
def copyCheckD (T : TypeId) : FnD := fun _ args h kr _ => args1 args fun x => bldK T x h fun id ver v0 _ =>
  ptrOrNil v0 (storeK id ver 0 [.ptr id ver 0] 1 h fun h => kr (.tup []) h) fun id' ver' off' => chk (Nat.beq id' id && Nat.beq ver' ver && Nat.beq off' 0) (kr (.tup []) h)
theorem shape_of {w : World} {b : Nat} {c : Array Value} {T : TypeId} {fr : Nat × Nat} (h : w.heap[b]? = some (.cells c T fr)) : w.shape? b = some (T, c.size) := by simp [World.shape?, h]
theorem copyCheck_good {P : Program} {ν : Nu} {f : Nat} {T : TypeId} (hb : hasBody P f = true)
    (hU : ∀ (b : Nat) (w : World), w.cell? ⟨b, 0, none⟩ = some (.pointer (some ⟨b, 0, none⟩)) → Calls P f #[.pointer (some ⟨b, 0, none⟩)] w fun e w' => e = .returned (.tuple #[]) ∧ w' = w)
    (hF : ∀ (b : Nat) (w : World), w.cell? ⟨b, 0, none⟩ = some (.pointer none) → w.shape? b = some (T, 2) → w.frozen? ⟨b, 0, none⟩ = false → Calls P f #[.pointer (some ⟨b, 0, none⟩)] w fun e w' => e = .returned (.tuple #[]) ∧ w' = w.setCell ⟨b, 0, none⟩ (.pointer (some ⟨b, 0, none⟩))) :
    FnGood P ν f (copyCheckD T) := by
  refine FnGood.fresh hb fun cf args h φ w vs kr kp hk hr hv => ?_
  obtain ⟨x, e0, hk1⟩ := args1_true hk
  subst e0
  cases hv with
  | cons h1 hv =>
    cases hv with
    | nil =>
      obtain ⟨id, ver, p, fr, u0, u1, v0, v1, e1, hp, e2, hb2, hfz, hv0, _, ho0, _, hk2⟩ := bldK_true hr h1 hk1
      subst e2
      have hc0 : w.cell? ⟨p.blk, 0, none⟩ = some u0 := by rw [cell?_of hb2]; rfl
      rcases ptrOrNil_true hk2 with ⟨e3, hk3⟩ | ⟨i, j, n, e3, hk3⟩
      · subst e3
        cases hv0
        obtain ⟨h2, w2, g1, g2, g3, g4, g5, _, g6⟩ := storeK_true (P := P) (sz := 1) (vs := [.pointer (some ⟨p.blk, 0, none⟩)]) hr hp (.cons (.ptr hp) .nil) (fun v hm => by rw [List.mem_singleton.1 hm]; rfl) rfl (by omega) hk3
        have hs := run_storeB (P := P) (W := w) (b := p.blk) (j := 0) (v := .pointer (some ⟨p.blk, 0, none⟩)) rfl hc0 (hfz 0 (by omega))
        rw [g1] at hs
        cases hs
        exact ⟨_, _, φ, h2, _, hF p.blk w hc0 (shape_of hb2) (hfz 0 (by omega)), g2, g3, g4, g5, .tup .nil, g6⟩
      · subst e3
        obtain ⟨c1, hk4⟩ := chk_true hk3
        simp only [Bool.and_eq_true] at c1
        obtain ⟨⟨c1, c2⟩, c3⟩ := c1
        have c1 := nbT c1
        have c2 := nbT c2
        have c3 := nbT c3
        subst c1 c2 c3
        cases hv0 with
        | ptr hp2 =>
          rw [hp] at hp2
          cases hp2
          exact ⟨_, _, φ, h, w, hU p.blk w hc0, hr, Ext.refl _ _ _, rfl, rfl, .tup .nil, hk4⟩
/-! ### String -/
def strK (T5 : TypeId) (id ver len : Nat) (h : H) (k : Nat → H → Bool) : Bool :=
  T4.getK HD id h.bl fun b => AB.rec (motive := fun _ => Bool) (fun s n lw fz opn el rows =>
      chk (Nat.ble lw ver && Nat.beq s 1 && Nat.beq el T5 && Nat.ble len ver && Nat.ble h.ro.lim id && Nat.ble len 65536) (bytesOfK rows len 0 fun c => T4.setK HD id (.cells s (Nat.succ n) lw fz opn el rows) h.bl fun bl => k c ⟨h.ds, h.ro, h.next, bl⟩))
    (fun _ _ => false) (fun _ _ _ => false) (fun _ => false) b
def isZ (n : Nat) (a b : Bool) : Bool := Nat.rec (motive := fun _ => Bool) a (fun _ _ => b) n
def stringD (T T5 : TypeId) : FnD := fun _ args h kr _ => args1 args fun x => bldK T x h fun _ _ _ v1 => vSl v1 (kr (.str 0 0) h) fun id ver off len mc _ =>
  chk (Nat.beq off 0) (isZ len (chk (Nat.blt 0 mc) (kr (.str 0 0) h)) (strK T5 id ver len h fun c h => kr (.str len c) h))
theorem freeze_eq {w : World} {g n : Nat} {c : Array Value} {el : TypeId} {fr : Nat × Nat} (hw : w.heap[g]? = some (.cells c el fr)) (hn : n ≠ 0) : ∃ fr', w.freeze ⟨g, 0, none⟩ n = { w with heap := w.heap.setIfInBounds g (.cells c el fr') } := by
  obtain ⟨lo, hi⟩ := fr
  refine ⟨if lo == hi then (0, 0 + n) else (min lo 0, max hi (0 + n)), ?_⟩
  · unfold World.freeze
    rw [if_neg hn]
    congr 1
    apply Array.ext_getElem?
    intro i
    rw [Array.getElem?_modify, Array.getElem?_setIfInBounds]
    by_cases e : g = i
    · subst e
      have hlt : g < w.heap.size := (Array.getElem?_eq_some_iff.1 hw).1
      rw [if_pos rfl, if_pos rfl, if_pos hlt, hw]
      rfl
    · rw [if_neg e, if_neg e]
theorem string_good {P : Program} {ν : Nu} {f : Nat} {T T5 : TypeId} (hb : hasBody P f = true)
    (hN : ∀ (B b : Nat) (p : Value) (fr : Nat × Nat) (w : World), w.heap[b]? = some (.cells #[p, .slice none 0 0] T fr) → Calls P f #[.pointer (some ⟨b, 0, none⟩)] w fun e w' => e = .returned (.string ⟨#[]⟩) ∧ Below B w w')
    (hR : ∀ (B b g cap : Nat) (p : Value) (fr : Nat × Nat) (w : World), cap ≠ 0 → w.heap[b]? = some (.cells #[p, .slice (some ⟨g, 0, none⟩) 0 cap] T fr) → Calls P f #[.pointer (some ⟨b, 0, none⟩)] w fun e w' => e = .returned (.string ⟨#[]⟩) ∧ Below B w w')
    (hS : ∀ (b g cap : Nat) (p : Value) (cur : Array Value) (fr fr2 : Nat × Nat) (l : List UInt8) (w : World), l ≠ [] → w.heap[b]? = some (.cells #[p, .slice (some ⟨g, 0, none⟩) l.length cap] T fr) → w.heap[g]? = some (.cells cur T5 fr2) → l.length ≤ cur.size → cap ≠ 0 → l.length ≤ 9223372036854775807 →
      (∀ (j : Nat) (x : UInt8), l[j]? = some x → cur[j]? = some (Value.int .u8 x.toNat)) → Calls P f #[.pointer (some ⟨b, 0, none⟩)] w fun e w' => e = .returned (.string ⟨l.toArray⟩) ∧ w' = w.drew.freeze ⟨g, 0, none⟩ l.length) :
    FnGood P ν f (stringD T T5) := by
  intro cf _ args h kr kp hk φ w vs hr hv
  obtain ⟨x, e0, hk1⟩ := args1_true hk
  subst e0
  cases hv with
  | cons h1 hv =>
    cases hv with
    | nil =>
      obtain ⟨id, ver, p, fr, u0, u1, v0, v1, e1, hp, e2, hb2, hfz, hv0, hv1, ho0, ho1, hk2⟩ := bldK_true hr h1 hk1
      subst e2
      have hempty : (∃ B, Calls P f #[.pointer (some ⟨p.blk, 0, none⟩)] w fun e w' => e = .returned (.string ⟨#[]⟩) ∧ Below B w w') → True := fun _ => trivial
      rcases vSl_true hk2 with ⟨e3, hk3⟩ | ⟨i, j, off, len, mc, ex, e3, hk3⟩
      · subst e3
        cases hv1
        refine .inl ⟨hasBody_true hb _ _, (hN w.heap.size p.blk u0 fr w hb2).mono fun e w' hp => ?_⟩
        obtain ⟨rfl, hbel⟩ := hp
        obtain ⟨g1, g2⟩ := hr.below hbel
        exact ⟨φ, _, h, .str ⟨rfl, rfl⟩, g1, g2 _, rfl, rfl, hk3⟩
      · subst e3
        obtain ⟨c1, hk4⟩ := chk_true hk3
        have c1 := nbT c1
        subst c1
        cases hv1 with
        | sl hq hm hl hx ho hf =>
          rename_i cap q off'
          cases len with
          | zero =>
            obtain ⟨c2, hk5⟩ := chk_true (show chk (Nat.blt 0 mc) (kr (.str 0 0) h) = true from hk4)
            rw [Nat.blt_eq] at c2
            have hoo := hf (by omega)
            subst hoo
            refine .inl ⟨hasBody_true hb _ _, (hR w.heap.size p.blk q.blk cap u0 fr w (by omega) hb2).mono fun e w' hp => ?_⟩
            obtain ⟨rfl, hbel⟩ := hp
            obtain ⟨g1, g2⟩ := hr.below hbel
            exact ⟨φ, _, h, .str ⟨rfl, rfl⟩, g1, g2 _, rfl, rfl, hk5⟩
          | succ m =>
            have hoo := hf (by omega)
            subst hoo
            have hk5 : strK T5 i j (m + 1) h (fun c h => kr (.str (m + 1) c) h) = true := hk4
            obtain ⟨b, hbl, hk6⟩ := T4.getK_true _ _ _ _ hk5
            cases b with
            | mapo es c => cases hk6
            | siter a b c => cases hk6
            | dfr o => cases hk6
            | cells s n lw fz opn el rows =>
              obtain ⟨c2, hk7⟩ := chk_true hk6
              simp only [Bool.and_eq_true] at c2
              obtain ⟨⟨⟨⟨⟨c2, c3⟩, c4⟩, c5⟩, c6⟩, c7⟩ := c2
              have c2 := nlT c2
              have c3 := nbT c3
              have c4 := nbT c4
              have c5 := nlT c5
              have c6 := nlT c6
              have c7 := nlT c7
              obtain ⟨l, g1, g2, g3⟩ := bytesOfK_true hk7
              rw [T4.setK_eq] at g3
              have hbr := hr.bl i _ (hr.dom _ _ _ hq).1 hbl
              obtain ⟨_, hlw, hs, hbv⟩ := hbr
              obtain ⟨a1, a2, a3⟩ := hbv j q hq
              obtain ⟨cc, fr2, f1, f2, f3, f4, f5, f6⟩ := a3 c2
              rw [c4] at f1
              have hcells : ∀ (t : Nat) (x : UInt8), l[t]? = some x → cc[t]? = some (Value.int .u8 x.toNat) := by
                intro t x ht
                have htl : t < m + 1 := by have := (List.getElem?_eq_some_iff.1 ht).1; omega
                obtain ⟨v, d1, _, d3⟩ := f4 t (by omega)
                have d4 := g2 t x ht
                rw [Nat.zero_add] at d4
                rw [c3, d4] at d3
                cases d3
                exact d1
              have hcall := hS p.blk q.blk cap u0 cc fr fr2 l w (by intro e; rw [e] at g1; simp at g1) (by rw [g1]; exact hb2) f1 (by omega) (by omega) (by omega) hcells
              obtain ⟨r1, r2⟩ := hr.below (w' := w.drew) (Go.RowKit.Below.drew (Go.RowKit.Below.refl _ _))
              have f1' : w.drew.heap[q.blk]? = some (.cells cc T5 fr2) := f1
              obtain ⟨fr', hfe⟩ := freeze_eq f1' (n := l.length) (by omega)
              have hBR : BR φ ν { w.drew with heap := w.drew.heap.setIfInBounds q.blk (.cells cc T5 fr') } i (.cells s (Nat.succ n) lw fz opn el rows) := by
                refine ⟨trivial, by omega, hs, fun ver' q' hq' => ?_⟩
                obtain ⟨b1, b2, b3⟩ := hbv ver' q' hq'
                refine ⟨by omega, b2, fun hl' => ?_⟩
                obtain ⟨cq, frq, d1, d2, d3, d4, d5, d6⟩ := b3 hl'
                by_cases e : q.blk = q'.blk
                · rw [← e, f1] at d1
                  cases d1
                  refine ⟨cc, fr', ?_, d2, d3, d4, fun e => by omega, fun e => by omega⟩
                  show (w.heap.setIfInBounds q.blk (.cells cc _ fr'))[q'.blk]? = _
                  rw [← e, Array.getElem?_setIfInBounds_self_of_lt (Array.getElem?_eq_some_iff.1 f1).1]
                · refine ⟨cq, frq, ?_, d2, d3, d4, fun e => by omega, fun e => by omega⟩
                  show (w.heap.setIfInBounds q.blk (.cells cc T5 fr'))[q'.blk]? = _
                  rw [Array.getElem?_setIfInBounds_ne e]; exact d1
              obtain ⟨k1, k2⟩ := r1.setObjV hq c6 hBR
              refine .inl ⟨hasBody_true hb _ _, hcall.mono fun e w' hp => ?_⟩
              obtain ⟨rfl, rfl⟩ := hp
              rw [hfe]
              exact ⟨φ, _, _, .str (by rw [← g1]; exact IsStr.of_list l), k1, (r2 _).trans k2, rfl, rfl, g3⟩
/-! ### grow, of a builder without a buffer -/
def isNils (v : AV) (a : Bool) : Bool := vSl v a fun _ _ _ _ _ _ => false
def growD (T T5 : TypeId) : FnD := fun _ args h kr _ => args2 args fun x y => bldK T x h fun id ver _ v1 => isNils v1 (vInt y fun K n => chk (isIntK K .i64) (Int.rec (motive := fun _ => Bool) (fun n => chk (Nat.ble n 65536)
  (newB (.cells 1 0 0 0 true T5 (RT.e RD)) h fun id2 h => storeK id ver 1 [.sl id2 0 0 0 n false] 1 h fun h => kr (.tup []) h)) (fun _ => false) n))
theorem alloc_setCell {w : World} {o : Obj} {b j : Nat} {v : Value} (hb : b < w.heap.size) : (w.alloc o).setCell ⟨b, j, none⟩ v = (w.setCell ⟨b, j, none⟩ v).alloc o := by
  unfold World.setCell World.alloc
  congr 1
  apply Array.ext_getElem?
  intro i
  simp only [Array.getElem?_modify, Array.getElem?_push, Array.size_modify]
  by_cases e : b = i
  · subst e
    rw [if_pos rfl, if_neg (by omega), if_neg (by omega), if_pos rfl]
  · rw [if_neg e, if_neg e]
theorem grow_good {P : Program} {ν : Nu} {f : Nat} {T T5 : TypeId} (hb : hasBody P f = true)
    (hG : ∀ (b n : Nat) (q : Value) (fr : Nat × Nat) (w : World), w.heap[b]? = some (.cells #[q, .slice none 0 0] T fr) → w.frozen? ⟨b, 1, none⟩ = false → n ≤ 281474976710656 →
      ∃ cs : Array Value, n ≤ cs.size ∧ Calls P f #[.pointer (some ⟨b, 0, none⟩), .int .i64 n] w fun e w' => e = .returned (.tuple #[]) ∧ w' = ((w.setCell ⟨b, 1, none⟩ (.slice (some ⟨w.heap.size, 0, none⟩) 0 cs.size)).alloc (.cells cs T5)).drew.drew.drew) :
    FnGood P ν f (growD T T5) := by
  refine FnGood.fresh hb fun cf args h φ w vs kr kp hk hr hv => ?_
  obtain ⟨x, y, e0, hk1⟩ := args2_true hk
  subst e0
  cases hv with
  | cons h1 hv =>
    cases hv with
    | cons h2 hv =>
      cases hv with
      | nil =>
        obtain ⟨id, ver, p, fr, u0, u1, v0, v1, e1, hp, e2, hb2, hfz, hv0, hv1, ho0, ho1, hk2⟩ := bldK_true hr h1 hk1
        subst e2
        rcases vSl_true hk2 with ⟨e3, hk3⟩ | ⟨i, j, off, len, mc, ex, e3, hk3⟩
        · subst e3
          cases hv1
          obtain ⟨K, n, e4, hk4⟩ := vInt_true hk3
          obtain ⟨c1, hk5⟩ := chk_true hk4
          have hK := isIntK_true c1
          subst e4 hK
          cases n with
          | negSucc m => cases hk5
          | ofNat n =>
            obtain ⟨c2, hk6⟩ := chk_true hk5
            have c2 := nlT c2
            cases h2
            obtain ⟨cs, hle, hcall⟩ := hG p.blk n u0 fr w hb2 (hfz 1 (by omega)) (by omega)
            obtain ⟨hn, hk7⟩ := newB_true hk6
            obtain ⟨r1, r2, r3⟩ := hr.newCells (c := cs) (rows := RT.e RD) (s := 1) (n := 0) hn (by_ := 0) (el := T5) (opn := true) (Nat.le_refl _) (fun j hj => by omega) (by omega) (fun h => by cases h)
            have hlt := (hr.dom _ _ _ hp).2
            have hp' := r3 _ _ _ hp
            have hb2' : (w.alloc (.cells cs T5)).heap[p.blk]? = some (.cells #[u0, .slice none 0 0] T fr) := by
              show (w.heap.push _)[p.blk]? = _
              rw [Array.getElem?_push_lt hlt, ← hb2, Array.getElem?_eq_getElem hlt]
            have hnew := Phi.new_self φ h.next 0 ⟨w.heap.size, cs.size, 1, 0⟩
            have hfz' : (w.alloc (.cells cs T5)).frozen? ⟨p.blk, 1, none⟩ = false := by
              have := hfz 1 (by omega)
              simp only [World.frozen?, hb2, hb2'] at this ⊢
              exact this
            have hvs : VRs (φ.new h.next 0 ⟨w.heap.size, cs.size, 1, 0⟩) ν [.sl h.next 0 0 0 n false] [.slice (some ⟨w.heap.size, 0, none⟩) 0 cs.size] :=
              .cons (.sl hnew hle (Nat.zero_le _) (fun h => by cases h) (fun _ => ⟨by simp, by simp⟩)) .nil
            obtain ⟨h2, w2, g1, g2, g3, g4, g5, _, g6⟩ := storeK_true (P := P) (sz := 1) r1 hp' hvs (fun v hm => by rw [List.mem_singleton.1 hm]; rfl) rfl (by omega) hk7
            have hs := run_storeB (P := P) (W := w.alloc (.cells cs T5)) (b := p.blk) (j := 1) (v := .slice (some ⟨w.heap.size, 0, none⟩) 0 cs.size) rfl (by rw [cell?_of hb2']; rfl) hfz'
            rw [g1] at hs
            have hs := Result.ok.inj hs
            have e5 : w2 = (w.setCell ⟨p.blk, 1, none⟩ (.slice (some ⟨w.heap.size, 0, none⟩) 0 cs.size)).alloc (.cells cs T5) := by rw [← alloc_setCell hlt]; exact hs.2
            rw [← e5] at hcall
            obtain ⟨q1, q2⟩ := g2.below (w' := w2.drew.drew.drew) (Go.RowKit.Below.drew (Go.RowKit.Below.drew (Go.RowKit.Below.drew (Go.RowKit.Below.refl _ _))))
            refine ⟨_, _, _, h2, _, hcall, q1, ?_, g4, g5, .tup .nil, g6⟩
            have := ((r2 h.ro).trans g3).trans (q2 _)
            exact this
        · cases hk3
end
end Go.Abs

/-
  A verified evaluator: how often a byte lies in a string, by contract.
-/
namespace Go.Abs
noncomputable section
def cntK (b : Nat) (l : Nat) : Nat → Nat → (Nat → Bool) → Bool :=
  Nat.rec (motive := fun _ => Nat → Nat → (Nat → Bool) → Bool) (fun _ n k => k n)
    (fun _ ih c n k => Bool.rec (motive := fun _ => Bool) (forceN (Nat.div c 256) fun c => ih c n k) (forceN (Nat.div c 256) fun c => forceN (Nat.succ n) fun n => ih c n k) (Nat.beq (Nat.mod c 256) b)) l
theorem cntK_true {b : UInt8} {k : Nat → Bool} : ∀ (l : List UInt8) (n : Nat), cntK b.toNat l.length (enc l) n k = true → k (n + l.count b) = true
  | [], n, h => h
  | x :: l, n, h => by
    have h' : Bool.rec (motive := fun _ => Bool) (forceN (Nat.div (enc (x :: l)) 256) fun c => cntK b.toNat l.length c n k) (forceN (Nat.div (enc (x :: l)) 256) fun c => forceN (Nat.succ n) fun n => cntK b.toNat l.length c n k) (Nat.beq (Nat.mod (enc (x :: l)) 256) b.toNat) = true := h
    have hx : x.toNat < 256 := x.toNat_lt
    have h1 : Nat.mod (enc (x :: l)) 256 = x.toNat := by show (x.toNat + 256 * enc l) % 256 = _; omega
    have h2 : Nat.div (enc (x :: l)) 256 = enc l := by show (x.toNat + 256 * enc l) / 256 = _; omega
    rw [h1, h2] at h'
    rw [List.count_cons]
    cases hb : Nat.beq x.toNat b.toNat with
    | true =>
      rw [hb] at h'
      simp only [forceN_eq] at h'
      have e : x = b := UInt8.toNat_inj.1 (nbT hb)
      have := cntK_true l (n + 1) h'
      rw [e]
      simpa [Nat.add_assoc, Nat.add_comm 1] using this
    | false =>
      rw [hb] at h'
      simp only [forceN_eq] at h'
      have e : ¬ x = b := by
        rintro rfl
        rw [Nat.beq_refl] at hb
        cases hb
      have := cntK_true l n h'
      simpa [e] using this
def isOne (n : Nat) (x : Bool) : Bool := chk (Nat.beq n 1) x
def countD : FnD := fun _ args h kr _ => args2 args fun x y => vStr x fun l c => vStr y fun m d => chk (Nat.beq m 1) (cntK d l c 0 fun n => kr (.int .i64 (.ofNat n)) h)
theorem count_good {P : Program} {ν : Nu} {f : Nat} (hb : hasBody P f = true)
    (hC : ∀ (s : ByteArray) (c : UInt8) (w : World), Calls P f #[.string s, .string ⟨#[c]⟩] w fun e w' => e = .returned (.int .i64 (s.data.toList.count c)) ∧ w' = w) : FnGood P ν f countD := by
  refine FnGood.plain hb fun cf args h φ w vs kr kp hk hr hv => ?_
  obtain ⟨x, y, e0, hk1⟩ := args2_true hk
  obtain ⟨l, c, e1, hk2⟩ := vStr_true hk1
  obtain ⟨m, d, e2, hk3⟩ := vStr_true hk2
  obtain ⟨c1, hk4⟩ := chk_true hk3
  have c1 := nbT c1
  subst e0 e1 e2 c1
  cases hv with
  | cons h1 hv =>
    cases hv with
    | cons h2 hv =>
      cases hv with
      | nil =>
        cases h1 with
        | str hs =>
          cases h2 with
          | str ht =>
            rename_i s t
            obtain ⟨b, hb2⟩ : ∃ b, t.data.toList = [b] := by
              have := ht.data
              match hq : t.data.toList, this with
              | [b], _ => exact ⟨b, rfl⟩
            have ht2 : t = ⟨#[b]⟩ := by
              have : t.data = #[b] := Array.toList_inj.1 hb2
              cases t; simp_all
            have hd : d = b.toNat := by
              have := ht.2
              rw [hb2] at this
              rw [← this]
              show b.toNat + 256 * 0 = _
              omega
            have hk5 : cntK b.toNat s.data.toList.length (enc s.data.toList) 0 (fun n => kr (.int .i64 (.ofNat n)) h) = true := by
              rw [hs.data, hs.2, ← hd]; exact hk4
            have hk6 := cntK_true s.data.toList 0 hk5
            rw [Nat.zero_add] at hk6
            subst ht2
            exact ⟨_, _, (hC s b w).mono fun e w' hp => ⟨hp.1, by rw [hp.2]; exact Go.RowKit.Below.refl _ _⟩, .int _ _, hk6⟩
end
end Go.Abs

/-
  A verified evaluator: the table of all functions, some given by contract.
-/
namespace Go.Abs
set_option linter.unusedVariables false
noncomputable section
theorem TblOk.empty {P : Program} {ν : Nu} : TblOk P ν (T4.e TD) := fun f d _ h => by
  rw [T4.get_e] at h
  cases h
theorem TblOk.set {P : Program} {ν : Nu} {t : T4 FnD TD} (ht : TblOk P ν t) {f : Nat} {d : FnD} (hf : f < 4096) (hd : FnGood P ν f d) : TblOk P ν (T4.set TD f d t) := by
  intro g e hg he
  rw [T4.get_set TD f g (show f < 4096 from hf) hg] at he
  by_cases q : f = g
  · rw [if_pos q] at he; cases he; subst q; exact hd
  · rw [if_neg q] at he; exact ht g e hg he
def mkFunW (P : Program) (mk : MkCode) (f : FuncId) (fn : Func) (r : FnD → Bool) : Bool :=
  match fn.body with
    | none => false
    | some c => bif Nat.ble fn.ntmps (4 ^ levels fn.ntmps) && Nat.ble (fn.params.size + fn.nfree) fn.ntmps && !(fn.name == "runtime.NumGoroutine") then
        (fun L => mk false L fn.ntmps c fun d => mkRess P L fn.ntmps fn.results.toList fun res => mkArgs L (fn.params.size + fn.nfree) 0 fun ent => (fun unk =>
          r fun cf args h kr kp => ent args unk fun ts => d cf ts ⟨[], h.ro, h.next, h.bl⟩
            (fun ts h' => isNil h'.ds (res ts h' fun l => packK (isOneL fn.results.toList.length) l fun av => kr av ⟨h.ds, h'.ro, h'.next, h'.bl⟩))
            ⟨fun _ _ _ => false, fun ts h' => isNil h'.ds (res ts h' fun l => packK (isOneL fn.results.toList.length) l fun av => kr av ⟨h.ds, h'.ro, h'.next, h'.bl⟩), fun _ av h' => isNil h'.ds (kp av ⟨h.ds, h'.ro, h'.next, h'.bl⟩)⟩) (FT.unk L)) (levels fn.ntmps) else false
def mkFunDW (P : Program) (mk : MkCode) (mkV : (L N : Nat) → MkV L) (f g : FuncId) (fn : Func) (r : FnD → Bool) : Bool :=
  match fn.body with
    | none => false
    | some c => bif Nat.ble fn.ntmps (4 ^ levels fn.ntmps) && Nat.ble (fn.params.size + fn.nfree) fn.ntmps && !(fn.name == "runtime.NumGoroutine") then
        (fun L => mkDef P mk mkV g fun dd => mk false L fn.ntmps c fun d => mkRess P L fn.ntmps fn.results.toList fun res => mkArgs L (fn.params.size + fn.nfree) 0 fun ent => (fun unk =>
          r fun cf args h kr kp => ent args unk fun ts => d cf ts ⟨[], h.ro, h.next, h.bl⟩
            (fun ts h' => noneOne h'.ds (res ts h' fun l => packK (isOneL fn.results.toList.length) l fun av => kr av ⟨h.ds, h'.ro, h'.next, h'.bl⟩)
              fun a => defK g dd cf a ⟨[], h'.ro, h'.next, h'.bl⟩ .nili fun h' => res ts h' fun l => packK (isOneL fn.results.toList.length) l fun av => kr av ⟨h.ds, h'.ro, h'.next, h'.bl⟩)
            ⟨fun _ _ _ => false, fun ts h' => noneOne h'.ds (res ts h' fun l => packK (isOneL fn.results.toList.length) l fun av => kr av ⟨h.ds, h'.ro, h'.next, h'.bl⟩)
              fun a => defK g dd cf a ⟨[], h'.ro, h'.next, h'.bl⟩ .nili fun h' => res ts h' fun l => packK (isOneL fn.results.toList.length) l fun av => kr av ⟨h.ds, h'.ro, h'.next, h'.bl⟩,
             fun ts av h' => noneOne h'.ds (kp av ⟨h.ds, h'.ro, h'.next, h'.bl⟩)
              fun a => defK g dd cf a ⟨[], h'.ro, h'.next, h'.bl⟩ av fun h' => res ts h' fun l => packK (isOneL fn.results.toList.length) l fun av => kr av ⟨h.ds, h'.ro, h'.next, h'.bl⟩⟩) (FT.unk L)) (levels fn.ntmps) else false
def mkFunMW (P : Program) (mk : MkCode) (f : FuncId) (fn : Func) (r : FnD → Bool) : Bool :=
  match fn.body with
    | none => false
    | some c => bif Nat.ble fn.ntmps (4 ^ levels fn.ntmps) && Nat.ble (fn.params.size + fn.nfree) fn.ntmps && !(fn.name == "runtime.NumGoroutine") then
        (fun L => mk false L fn.ntmps c fun d => mkRess P L fn.ntmps fn.results.toList fun res => mkArgs L (fn.params.size + fn.nfree) 0 fun ent => (fun unk =>
          r fun cf args h kr kp => ent args unk fun ts => d cf ts ⟨[], h.ro, h.next, h.bl⟩
            (fun ts h' => marksK h'.ds (fun h' => res ts ⟨[], h'.ro, h'.next, h'.bl⟩ fun l => packK (isOneL fn.results.toList.length) l fun av => kr av ⟨h.ds, h'.ro, h'.next, h'.bl⟩) h')
            ⟨fun _ _ _ => false, fun ts h' => marksK h'.ds (fun h' => res ts ⟨[], h'.ro, h'.next, h'.bl⟩ fun l => packK (isOneL fn.results.toList.length) l fun av => kr av ⟨h.ds, h'.ro, h'.next, h'.bl⟩) h',
              fun _ av h' => marksK h'.ds (fun h' => kp av ⟨h.ds, h'.ro, h'.next, h'.bl⟩) h'⟩) (FT.unk L)) (levels fn.ntmps) else false
def FnsOk (P : Program) : List (FuncId × Func × Bool) → Prop
  | [] => True
  | (f, fn, _) :: l => P.funcs[f]? = some fn ∧ FnsOk P l
end
end Go.Abs

/-
  A verified evaluator: the table of functions, found quicker.
-/
namespace Go.Abs
set_option linter.unusedVariables false
noncomputable section
def NoNG (P : Program) : Prop := ∀ (f : FuncId) (fn : Func), P.funcs[f]? = some fn → (fn.name == "runtime.NumGoroutine") = false
def mkPre (fn : Func) (k : (N L A : Nat) → Bool → Bool) : Bool :=
  forceN fn.ntmps fun N => forceN (levels N) fun L => forceN (Nat.add fn.params.size fn.nfree) fun A => Bool.rec (motive := fun _ => Bool) (k N L A false) (k N L A true) (isOneL fn.results.toList.length)
theorem mkPre_eq (fn : Func) (k : (N L A : Nat) → Bool → Bool) : mkPre fn k = k fn.ntmps (levels fn.ntmps) (fn.params.size + fn.nfree) (isOneL fn.results.toList.length) := by
  unfold mkPre
  rw [forceN_eq, forceN_eq, forceN_eq]
  cases isOneL fn.results.toList.length <;> rfl
def mkFunZ (P : Program) (mk : MkCode) (fn : Func) (r : FnD → Bool) : Bool :=
  Option.rec (motive := fun _ => Bool) false (fun c => mkPre fn fun N L A one => bif Nat.ble N (Nat.pow 4 L) && Nat.ble A N then
    mk false L N c fun d => mkRess P L N fn.results.toList fun res => mkArgs L A 0 fun ent => unkK L fun unk =>
          r fun cf args h kr kp => ent args unk fun ts => d cf ts ⟨[], h.ro, h.next, h.bl⟩
            (fun ts h' => isNil h'.ds (res ts h' fun l => packK one l fun av => kr av ⟨h.ds, h'.ro, h'.next, h'.bl⟩))
            ⟨fun _ _ _ => false, fun ts h' => isNil h'.ds (res ts h' fun l => packK one l fun av => kr av ⟨h.ds, h'.ro, h'.next, h'.bl⟩), fun _ av h' => isNil h'.ds (kp av ⟨h.ds, h'.ro, h'.next, h'.bl⟩)⟩ else false) fn.body
def mkFunDZ (P : Program) (mk : MkCode) (mkV : (L N : Nat) → MkV L) (g : FuncId) (fn : Func) (r : FnD → Bool) : Bool :=
  Option.rec (motive := fun _ => Bool) false (fun c => mkPre fn fun N L A one => bif Nat.ble N (Nat.pow 4 L) && Nat.ble A N then
    mkDef P mk mkV g fun dd => mk false L N c fun d => mkRess P L N fn.results.toList fun res => mkArgs L A 0 fun ent => unkK L fun unk =>
          r fun cf args h kr kp => ent args unk fun ts => d cf ts ⟨[], h.ro, h.next, h.bl⟩
            (fun ts h' => noneOne h'.ds (res ts h' fun l => packK one l fun av => kr av ⟨h.ds, h'.ro, h'.next, h'.bl⟩)
              fun a => defK g dd cf a ⟨[], h'.ro, h'.next, h'.bl⟩ .nili fun h' => res ts h' fun l => packK one l fun av => kr av ⟨h.ds, h'.ro, h'.next, h'.bl⟩)
            ⟨fun _ _ _ => false, fun ts h' => noneOne h'.ds (res ts h' fun l => packK one l fun av => kr av ⟨h.ds, h'.ro, h'.next, h'.bl⟩)
              fun a => defK g dd cf a ⟨[], h'.ro, h'.next, h'.bl⟩ .nili fun h' => res ts h' fun l => packK one l fun av => kr av ⟨h.ds, h'.ro, h'.next, h'.bl⟩,
             fun ts av h' => noneOne h'.ds (kp av ⟨h.ds, h'.ro, h'.next, h'.bl⟩)
              fun a => defK g dd cf a ⟨[], h'.ro, h'.next, h'.bl⟩ av fun h' => res ts h' fun l => packK one l fun av => kr av ⟨h.ds, h'.ro, h'.next, h'.bl⟩⟩ else false) fn.body
def mkFunMZ (P : Program) (mk : MkCode) (fn : Func) (r : FnD → Bool) : Bool :=
  Option.rec (motive := fun _ => Bool) false (fun c => mkPre fn fun N L A one => bif Nat.ble N (Nat.pow 4 L) && Nat.ble A N then
    mk false L N c fun d => mkRess P L N fn.results.toList fun res => mkArgs L A 0 fun ent => unkK L fun unk =>
          r fun cf args h kr kp => ent args unk fun ts => d cf ts ⟨[], h.ro, h.next, h.bl⟩
            (fun ts h' => marksK h'.ds (fun h' => res ts ⟨[], h'.ro, h'.next, h'.bl⟩ fun l => packK one l fun av => kr av ⟨h.ds, h'.ro, h'.next, h'.bl⟩) h')
            ⟨fun _ _ _ => false, fun ts h' => marksK h'.ds (fun h' => res ts ⟨[], h'.ro, h'.next, h'.bl⟩ fun l => packK one l fun av => kr av ⟨h.ds, h'.ro, h'.next, h'.bl⟩) h',
              fun _ av h' => marksK h'.ds (fun h' => kp av ⟨h.ds, h'.ro, h'.next, h'.bl⟩) h'⟩ else false) fn.body
theorem mkFunZ_eq {P : Program} (hN : NoNG P) {mk : MkCode} {f : FuncId} {fn : Func} (hf : P.funcs[f]? = some fn) (r : FnD → Bool) : mkFunZ P mk fn r = mkFunW P mk f fn r := by
  unfold mkFunZ mkFunW
  cases fn.body with
  | none => rfl
  | some c =>
    simp only [mkPre_eq, unkK_eq]
    rw [hN f fn hf, Bool.not_false, Bool.and_true]
    rfl
theorem mkFunDZ_eq {P : Program} (hN : NoNG P) {mk : MkCode} {mkV : (L N : Nat) → MkV L} {f g : FuncId} {fn : Func} (hf : P.funcs[f]? = some fn) (r : FnD → Bool) : mkFunDZ P mk mkV g fn r = mkFunDW P mk mkV f g fn r := by
  unfold mkFunDZ mkFunDW
  cases fn.body with
  | none => rfl
  | some c =>
    simp only [mkPre_eq, unkK_eq]
    rw [hN f fn hf, Bool.not_false, Bool.and_true]
    rfl
theorem mkFunMZ_eq {P : Program} (hN : NoNG P) {mk : MkCode} {f : FuncId} {fn : Func} (hf : P.funcs[f]? = some fn) (r : FnD → Bool) : mkFunMZ P mk fn r = mkFunMW P mk f fn r := by
  unfold mkFunMZ mkFunMW
  cases fn.body with
  | none => rfl
  | some c =>
    simp only [mkPre_eq, unkK_eq]
    rw [hN f fn hf, Bool.not_false, Bool.and_true]
    rfl
theorem mkFunW_eq {P : Program} {mk : MkCode} {f : FuncId} {fn : Func} (h : P.funcs[f]? = some fn) (r : FnD → Bool) : mkFun P mk f r = mkFunW P mk f fn r := by
  unfold mkFun mkFunW; rw [h]; first | done | (dsimp only; cases fn.body <;> rfl)
theorem mkFunDW_eq {P : Program} {mk : MkCode} {mkV : (L N : Nat) → MkV L} {f g : FuncId} {fn : Func} (h : P.funcs[f]? = some fn) (r : FnD → Bool) : mkFunD P mk mkV f g r = mkFunDW P mk mkV f g fn r := by
  unfold mkFunD mkFunDW; rw [h]; first | done | (dsimp only; cases fn.body <;> rfl)
theorem mkFunMW_eq {P : Program} {mk : MkCode} {f : FuncId} {fn : Func} (h : P.funcs[f]? = some fn) (r : FnD → Bool) : mkFunM P mk f r = mkFunMW P mk f fn r := by
  unfold mkFunM mkFunMW; rw [h]; first | done | (dsimp only; cases fn.body <;> rfl)
def mkAnyZ (P : Program) (S : List Rule) (gs : FuncId × FuncId) (gd : FuncId) (sf : Bool) (kd : Nat) (fn : Func) (r : FnD → Bool) : Bool :=
  Nat.rec (motive := fun _ => Bool) (mkFunZ P (mkCodeZ P S sf gs) fn r)
    (fun n _ => Nat.rec (motive := fun _ => Bool) (mkFunDZ P (mkCodeZ P S sf gs) (fun L N o r => valT o.op P S L N r) gd fn r) (fun _ _ => mkFunMZ P (mkCodeZ P S sf gs) fn r) n) kd
theorem mkAnyZ_true {P : Program} (hN : NoNG P) {ν : Nu} {S : List Rule} (hS : SymOk P ν S) {gs : FuncId × FuncId} {gd : FuncId} (hok : SplitOk P ν gs) {sf : Bool} {kd : Nat} {f : FuncId} {fn : Func} (hf : P.funcs[f]? = some fn) {r : FnD → Bool}
    (h : mkAnyZ P S gs gd sf kd fn r = true) : ∃ d, FnGood P ν f d ∧ r d = true := by
  match kd with
  | 0 =>
    change mkFunZ P (mkCodeZ P S sf gs) fn r = true at h
    rw [mkFunZ_eq hN hf, ← mkFunW_eq hf] at h
    exact mkFun_true (mkCodeZ_good P S sf ν hS gs hok) h
  | 1 =>
    change mkFunDZ P (mkCodeZ P S sf gs) (fun L N o r => valT o.op P S L N r) gd fn r = true at h
    rw [mkFunDZ_eq hN hf, ← mkFunDW_eq hf] at h
    exact mkFunD_true (mkCodeZ_good P S sf ν hS gs hok) (fun L N o r h => valT_true hS h) h
  | n + 2 =>
    change mkFunMZ P (mkCodeZ P S sf gs) fn r = true at h
    rw [mkFunMZ_eq hN hf, ← mkFunMW_eq hf] at h
    exact mkFunM_true (mkCodeZ_good P S sf ν hS gs hok) h
structure FnE where
  f : FuncId
  fn : Func
  sf : Bool
  kd : Nat
def FnsOkZ (P : Program) : List FnE → Prop
  | [] => True
  | e :: l => P.funcs[e.f]? = some e.fn ∧ FnsOkZ P l
def mkTblZ (P : Program) (S : List Rule) (gs : FuncId × FuncId) (gd : FuncId) (l : List FnE) : T4 FnD TD → (T4 FnD TD → Bool) → Bool :=
  List.rec (motive := fun _ => T4 FnD TD → (T4 FnD TD → Bool) → Bool) (fun t r => r t)
    (fun e _ ih t r => FnE.rec (motive := fun _ => Bool) (fun f fn sf kd => bif Nat.blt f 4096 then mkAnyZ P S gs gd sf kd fn fun d => T4.setK TD f d t fun t => ih t r else false) e) l
theorem mkTblZ_true {P : Program} (hN : NoNG P) {ν : Nu} {S : List Rule} (hS : SymOk P ν S) {gs : FuncId × FuncId} {gd : FuncId} (hok : SplitOk P ν gs) : ∀ {l : List FnE} {t : T4 FnD TD} {r : T4 FnD TD → Bool}, FnsOkZ P l → TblOk P ν t → mkTblZ P S gs gd l t r = true → ∃ t', TblOk P ν t' ∧ r t' = true
  | [], t, r, _, ht, h => ⟨t, ht, h⟩
  | ⟨f, fn, sf, kd⟩ :: l, t, r, hl, ht, h => by
    change (bif Nat.blt f 4096 then mkAnyZ P S gs gd sf kd fn fun d => T4.setK TD f d t fun t => mkTblZ P S gs gd l t r else false) = true at h
    cases hb : Nat.blt f 4096 with
    | false => rw [hb] at h; cases h
    | true =>
      rw [hb, cond_true] at h
      rw [Nat.blt_eq] at hb
      obtain ⟨d, hd, h⟩ := mkAnyZ_true hN hS hok hl.1 h
      rw [T4.setK_eq] at h
      exact mkTblZ_true hN hS hok hl.2 (ht.set hb hd) h
end
end Go.Abs

/-
  A verified evaluator: what is called without arguments and gives no reference is run once.
-/
namespace Go.Abs
noncomputable section
open Go.RowKit (Below)
def isTrueK (av : AV) (_ : H) : Bool := vBool av fun b => b
def trueD : FnD := fun _ args h kr _ => isNilA args (kr (.bool true) h)
theorem below_of_ext {ro : RO} {φ φ' : Phi} {w w' : World} (hx : Ext ro φ w φ' w') (hl : ∀ id ver p, φ id ver = some p → id < ro.lim) : Below w.heap.size w w' :=
  ⟨hx.os, hx.tape, hx.output, hx.size, fun b hb => hx.same b hb fun id ver p hp h => by have := hl id ver p hp; omega⟩
theorem FnGood.closed_true {P : Program} {ν : Nu} {t : T4 FnD TD} (ht : TblOk P ν t) {n f : Nat} {h0 : H} {φ0 : Phi} (hrun : runF t n f [] h0 isTrueK (fun _ _ => false) = true)
    (h0G : ∀ w : World, (∀ b o, (b, o) ∈ ν.G → w.heap[b]? = some o) → HR φ0 ν h0 w) (hlim : ∀ id ver p, φ0 id ver = some p → id < h0.ro.lim) : FnGood P ν f trueD := by
  intro cf _ args h kr kp hk φ w vs hr hv
  obtain ⟨e1, hk1⟩ := isNilA_true (show isNilA args (kr (.bool true) h) = true from hk)
  subst e1
  cases hv
  have hr0 := h0G w fun b o hbo => (hr.gl b o hbo).1
  have hc := runF_ok ht n f [] h0 isTrueK (fun _ _ => false) hrun φ0 w [] hr0 .nil
  have hpost : ∀ e w', FPost φ0 ν h0.ro w h0.ds isTrueK (fun _ _ => false) e w' → FPost φ ν h.ro w h.ds kr kp e w' := by
    intro e w' hp
    cases e with
    | returned v =>
      obtain ⟨φ', av, h', hvr, hr', hx, _, _, hav⟩ := hp
      have hb := below_of_ext hx hlim
      obtain ⟨b, e2, hb2⟩ := vBool_true (show vBool av (fun b => b) = true from hav)
      subst e2 hb2
      cases hvr
      obtain ⟨g1, g2⟩ := hr.below hb
      exact ⟨φ, _, h, .bool _, g1, g2 _, rfl, rfl, hk1⟩
    | panicked chain =>
      obtain ⟨φ', av, h', v, _, _, _, _, _, _, hav⟩ := hp
      cases hav
    | _ => first | exact hp | trivial
  rcases hc with ⟨h1, h2⟩ | ⟨v, w', h1, h2⟩
  · exact .inl ⟨h1, h2.mono hpost⟩
  · exact .inr ⟨v, w', h1, hpost _ _ h2⟩
end
end Go.Abs

/-
  A verified evaluator: a map that a function without arguments makes is laid at once.
-/
namespace Go.Abs
noncomputable section
open Go.RowKit (Below)
theorem HR.newInMap {φ : Phi} {ν : Nu} {h : H} {w w1 : World} (hr : HR φ ν h w) (hb : Below w.heap.size w w1) (hn : h.next < 4 ^ HD) {B : Nat} (hB : w.heap.size ≤ B) (hB1 : B < w1.heap.size) {ms : Array MapEntry} {clock : Nat} {es : List (AV × AV × Nat)}
    (hw : w1.heap[B]? = some (.map ms clock)) (hc : ∀ φ, MEs φ ν es ms.toList) :
    HR (φ.new h.next 0 ⟨B, 0, 0, 0⟩) ν { h with next := h.next + 1, bl := T4.set HD h.next (.mapo es clock) h.bl } w1 ∧ (∀ ro, Ext ro φ w (φ.new h.next 0 ⟨B, 0, 0, 0⟩) w1) ∧ φ.le (φ.new h.next 0 ⟨B, 0, 0, 0⟩) := by
  have hnone : ∀ v, φ h.next v = none := by
    intro v
    cases e : φ h.next v with
    | none => rfl
    | some q => have := (hr.dom _ _ _ e).1; omega
  have hle := Phi.new_le (p := ⟨B, 0, 0, 0⟩) (hnone 0)
  refine ⟨⟨?_, ?_, ?_, ?_, ?_, hr.gp.mono hle, ?_, hr.ub⟩, ?_, hle⟩
  · intro i v q hq
    rcases Phi.new_inv hq with ⟨rfl, rfl, rfl⟩ | hq
    · exact ⟨by simp, hB1⟩
    · have := hr.dom _ _ _ hq
      have := hb.size
      exact ⟨by simp; omega, by omega⟩
  · intro i v q i' v' q' hq hq' e
    rcases Phi.new_inv hq with ⟨e1, e2, e3⟩ | hq1 <;> rcases Phi.new_inv hq' with ⟨e4, e5, e6⟩ | hq2
    · rw [e1, e4]
    · have := (hr.dom _ _ _ hq2).2; rw [e3] at e; simp only at e; omega
    · have := (hr.dom _ _ _ hq1).2; rw [e6] at e; simp only at e; omega
    · exact hr.inj _ _ _ _ _ _ hq1 hq2 e
  · intro i x hi hx
    simp only at hi hx
    rw [T4.get_set HD _ _ hn (by have := hr.lim; omega)] at hx
    by_cases e : h.next = i
    · rw [if_pos e] at hx; cases hx; subst e
      refine ⟨fun ver p hp => ?_, _, Phi.new_self _ _ _ _, ms, hw, hc _⟩
      rcases Phi.new_inv hp with ⟨_, rfl, rfl⟩ | hp
      · rfl
      · rw [hnone] at hp; cases hp
    · rw [if_neg e] at hx
      have hi' : i < h.next := by omega
      refine BR.keep hle (fun v q hq => ?_) (fun v q hq => hb.block _ (hr.dom _ _ _ hq).2) (hr.bl i x hi' hx)
      rcases Phi.new_inv hq with ⟨rfl, _⟩ | hq
      · omega
      · exact hq
  · simp; omega
  · have := hr.ro; simp; omega
  · intro b' o' hb'
    obtain ⟨g1, g2⟩ := hr.gl b' o' hb'
    have hlt : b' < w.heap.size := (Array.getElem?_eq_some_iff.1 g1).1
    refine ⟨by rw [hb.block _ hlt]; exact g1, fun i v q hq e => ?_⟩
    rcases Phi.new_inv hq with ⟨_, _, e3⟩ | hq
    · rw [e3] at e; simp only at e; omega
    · exact g2 i v q hq e
  · intro ro
    refine ⟨hle, hb.size, hb.os, hb.tape, hb.output, ?_, fun b hlt _ => hb.block b hlt, fun i v q hq _ hk => ?_⟩
    rotate_left
    · obtain ⟨v0, p0, h0⟩ := hk
      rcases Phi.new_inv hq with ⟨rfl, _, _⟩ | hq
      · have := (hr.dom _ _ _ h0).1
        omega
      · exact hq
    intro i v q hq
    rcases Phi.new_inv hq with ⟨rfl, rfl, rfl⟩ | hq
    · exact .inr hB
    · exact .inl ⟨v, q, hq, rfl⟩
structure ME where
  l : Nat
  c : Nat
  K : IntKind
  n : Nat
  b : Nat
def ME.av (m : ME) : AV × AV × Nat := (.str m.l m.c, .int m.K (.ofNat m.n), m.b)
def meqK : List ME → List (AV × AV × Nat) → Bool → Bool
  | [], [], x => x
  | m :: ms, e :: es, x => vStr e.1 fun l c => vInt e.2.1 fun K n => chk (Nat.beq l m.l) (chk (Nat.beq c m.c) (chk (isIntK K m.K) (chk (ieq n (.ofNat m.n)) (chk (Nat.beq e.2.2 m.b) (meqK ms es x)))))
  | _, _, _ => false
theorem of_beq_int {a b : Int} (h : ieq a b = true) : a = b := by
  rw [ieq_eq] at h
  exact beq_iff_eq.1 h
theorem meqK_true : ∀ {ms : List ME} {es : List (AV × AV × Nat)} {x : Bool}, meqK ms es x = true → es = ms.map ME.av ∧ x = true
  | [], [], x, h => ⟨rfl, h⟩
  | m :: ms, (k, v, b) :: es, x, h => by
    have h' : (vStr k fun l c => vInt v fun K n => chk (Nat.beq l m.l) (chk (Nat.beq c m.c) (chk (isIntK K m.K) (chk (ieq n (.ofNat m.n)) (chk (Nat.beq b m.b) (meqK ms es x)))))) = true := h
    obtain ⟨l, c, e1, h⟩ := vStr_true h'
    obtain ⟨K, n, e2, h⟩ := vInt_true h
    obtain ⟨c1, h⟩ := chk_true h
    obtain ⟨c2, h⟩ := chk_true h
    obtain ⟨c3, h⟩ := chk_true h
    obtain ⟨c4, h⟩ := chk_true h
    obtain ⟨c5, h⟩ := chk_true h
    obtain ⟨h1, h2⟩ := meqK_true h
    refine ⟨?_, h2⟩
    rw [h1, List.map_cons, e1, e2, nbT c1, nbT c2, isIntK_true c3, of_beq_int c4, nbT c5]
    rfl
  | [], _ :: _, x, h => by cases h
  | _ :: _, [], x, h => by cases h
def mpOf (v : AV) (k : Nat → Bool) : Bool :=
  AV.rec (motive_1 := fun _ => Bool) (motive_2 := fun _ => Bool) false (fun _ _ => false) false k false (fun _ _ _ _ _ => false) (fun _ _ => false) false (fun _ _ _ => false) false false
    (fun _ _ => false) (fun _ _ _ => false) (fun _ _ _ _ _ _ => false) (fun _ _ => false) (fun _ => false) (fun _ _ => false) false (fun _ _ _ _ => false) v
theorem mpOf_true {v : AV} {k : Nat → Bool} (h : mpOf v k = true) : ∃ id, v = .mp id ∧ k id = true := by
  cases v <;> first | exact ⟨_, rfl, h⟩ | cases h
def isMapK (ms : List ME) (clock : Nat) (av : AV) (h : H) : Bool := mpOf av fun id => chk (Nat.ble h.ro.lim id) (T4.getK HD id h.bl fun b =>
  AB.rec (motive := fun _ => Bool) (fun _ _ _ _ _ _ _ => false) (fun es c => meqK ms es (Nat.beq c clock)) (fun _ _ _ => false) (fun _ => false) b)
def mapD (ms : List ME) (clock : Nat) : FnD := fun _ args h kr _ => isNilA args (newB (.mapo (ms.map ME.av) clock) h fun id h => kr (.mp id) h)
theorem MEs_free {φ φ' : Phi} {ν : Nu} : ∀ {ms : List ME} {l : List MapEntry}, MEs φ ν (ms.map ME.av) l → MEs φ' ν (ms.map ME.av) l
  | [], [], h => trivial
  | m :: ms, e :: l, h => by
    obtain ⟨h1, h2, h3, h4⟩ := (show VR φ ν (.str m.l m.c) e.key ∧ VR φ ν (.int m.K (.ofNat m.n)) e.val ∧ e.born = m.b ∧ MEs φ ν (ms.map ME.av) l from h)
    refine (show VR φ' ν (.str m.l m.c) e.key ∧ VR φ' ν (.int m.K (.ofNat m.n)) e.val ∧ e.born = m.b ∧ MEs φ' ν (ms.map ME.av) l from ⟨?_, ?_, h3, MEs_free h4⟩)
    · generalize e.key = k at h1
      cases h1 with
      | str hs => exact .str hs
    · generalize e.val = k at h2
      cases h2
      exact .int _ _
  | [], _ :: _, h => h.elim
  | _ :: _, [], h => h.elim
theorem FnGood.closed_map {P : Program} {ν : Nu} {t : T4 FnD TD} (ht : TblOk P ν t) {n f : Nat} {h0 : H} {φ0 : Phi} {ms : List ME} {clock : Nat} (hrun : runF t n f [] h0 (isMapK ms clock) (fun _ _ => false) = true)
    (h0G : ∀ w : World, (∀ b o, (b, o) ∈ ν.G → w.heap[b]? = some o) → HR φ0 ν h0 w) (hlim : ∀ id ver p, φ0 id ver = some p → id < h0.ro.lim) : FnGood P ν f (mapD ms clock) := by
  intro cf _ args h kr kp hk φ w vs hr hv
  obtain ⟨e1, hk1⟩ := isNilA_true (show isNilA args (newB (.mapo (ms.map ME.av) clock) h fun id h => kr (.mp id) h) = true from hk)
  subst e1
  cases hv
  have hr0 := h0G w fun b o hbo => (hr.gl b o hbo).1
  obtain ⟨hn, hk2⟩ := newB_true hk1
  have hc := runF_ok ht n f [] h0 (isMapK ms clock) (fun _ _ => false) hrun φ0 w [] hr0 .nil
  have hpost : ∀ e w', FPost φ0 ν h0.ro w h0.ds (isMapK ms clock) (fun _ _ => false) e w' → FPost φ ν h.ro w h.ds kr kp e w' := by
    intro e w' hp
    cases e with
    | returned v =>
      obtain ⟨φ', av, h', hvr, hr', hx, hro, _, hav⟩ := hp
      have hb := below_of_ext hx hlim
      obtain ⟨id, e2, hk3⟩ := mpOf_true (show mpOf av _ = true from hav)
      obtain ⟨c1, hk4⟩ := chk_true hk3
      have c1 := nlT c1
      obtain ⟨b, hbl, hk5⟩ := T4.getK_true _ _ _ _ hk4
      cases b with
      | cells s n lw fz opn el rows => cases hk5
      | siter a b c => cases hk5
      | dfr o => cases hk5
      | mapo es ck =>
        obtain ⟨e3, e4⟩ := meqK_true (show meqK ms es (Nat.beq ck clock) = true from hk5)
        have e4 := nbT e4
        subst e2 e3 e4
        cases hvr with
        | mp hp =>
          rename_i p
          obtain ⟨_, p2, hp2, mm, hheap, hme⟩ := hr'.bl id _ (hr'.dom _ _ _ hp).1 hbl
          rw [hp] at hp2
          cases hp2
          have hB : w.heap.size ≤ p.blk := by
            rcases hx.img id 0 p hp with ⟨v0, p0, g1, g2⟩ | g
            · have g3 := hlim id v0 p0 g1
              rw [hro] at c1
              omega
            · exact g
          obtain ⟨q1, q2, q3⟩ := hr.newInMap hb hn hB (hr'.dom _ _ _ hp).2 hheap (fun φ => MEs_free hme)
          exact ⟨φ.new h.next 0 ⟨p.blk, 0, 0, 0⟩, _, { h with next := h.next + 1, bl := T4.set HD h.next (.mapo (ms.map ME.av) ck) h.bl }, .mp (p := ⟨p.blk, 0, 0, 0⟩) (Phi.new_self _ _ _ _), q1, q2 _, rfl, rfl, hk2⟩
    | panicked chain =>
      obtain ⟨φ', av, h', v, _, _, _, _, _, _, hav⟩ := hp
      cases hav
    | _ => first | exact hp | trivial
  rcases hc with ⟨h1, h2⟩ | ⟨v, w', h1, h2⟩
  · exact .inl ⟨h1, h2.mono hpost⟩
  · exact .inr ⟨v, w', h1, hpost _ _ h2⟩
end
end Go.Abs

/-
  A verified evaluator: the heap at the start: the package-level variables that may be read.
-/
namespace Go.Abs
noncomputable section
inductive GC where
  | i (k : IntKind) (n : Nat)
  | t (b : List UInt8)
def GC.av : GC → AV := GC.rec (motive := fun _ => AV) (fun k n => .int k (.ofNat n)) (fun b => .str b.length (enc b))
def GC.val : GC → Value := GC.rec (motive := fun _ => Value) (fun k n => .int k (.ofNat n)) (fun b => .string ⟨b.toArray⟩)
theorem GC.vr {φ : Phi} {ν : Nu} (c : GC) : VR φ ν c.av c.val := by
  cases c with
  | i k n => exact .int _ _
  | t b => exact .str (IsStr.of_list b)
theorem GC.one (c : GC) : c.val.oneCell' = true := by cases c <;> rfl
def gU (l : List Nat) : List GC := l.map (.i .u8)
structure Gl where
  g : Nat
  l : List GC
  el : TypeId
def Gl.row (q : Gl) : List AV := q.l.map GC.av
def rowT (d : Nat) (x : List AV) : RT (List AV) d := ⟨some x, T4.e d⟩
def Gl.blk (q : Gl) : AB := .cells q.l.length (Nat.succ q.l.length) 0 0 true q.el (rowT RD q.row)
def glHeap (gs : List Gl) : T4 AB HD := List.rec (motive := fun _ => T4 AB HD) (T4.e HD) (fun q _ t => T4.set HD q.g q.blk t) gs
def h0Of (gs : List Gl) (lim : Nat) : H := ⟨[], ⟨lim, []⟩, lim, glHeap gs⟩
def Gl.obj (q : Gl) (fr : Nat × Nat) : Obj := .cells (q.l.map GC.val).toArray q.el fr
def phiOf (gs : List Gl) : Phi := fun id ver => match gs.find? (fun q => Nat.beq q.g id && Nat.beq q.l.length ver) with
  | some q => some ⟨q.g, q.l.length, q.l.length, 0⟩
  | none => none
theorem phiOf_some {gs : List Gl} {id ver : Nat} {p : PB} (h : phiOf gs id ver = some p) : ∃ q ∈ gs, q.g = id ∧ q.l.length = ver ∧ p = ⟨q.g, q.l.length, q.l.length, 0⟩ := by
  unfold phiOf at h
  split at h
  · rename_i q hq
    have h1 := List.find?_some hq
    rw [Bool.and_eq_true] at h1
    exact ⟨q, List.mem_of_find?_eq_some hq, nbT h1.1, nbT h1.2, (Option.some.inj h).symm⟩
  · cases h
theorem glHeap_get : ∀ {gs : List Gl} {id : Nat} {b : AB}, (∀ q ∈ gs, q.g < 4 ^ HD) → id < 4 ^ HD → T4.get HD id (glHeap gs) = some b → ∃ q ∈ gs, q.g = id ∧ b = q.blk
  | [], id, b, _, _, h => by
    rw [show glHeap [] = T4.e HD from rfl, T4.get_e] at h
    cases h
  | q :: gs, id, b, hg, hi, h => by
    have h' : T4.get HD id (T4.set HD q.g q.blk (glHeap gs)) = some b := h
    rw [T4.get_set HD q.g id (hg q List.mem_cons_self) hi] at h'
    by_cases e : q.g = id
    · rw [if_pos e] at h'
      exact ⟨q, List.mem_cons_self, e, (Option.some.inj h').symm⟩
    · rw [if_neg e] at h'
      obtain ⟨q', g1, g2⟩ := glHeap_get (fun q hq => hg q (List.mem_cons_of_mem _ hq)) hi h'
      exact ⟨q', List.mem_cons_of_mem _ g1, g2⟩
theorem rowT_get (x : List AV) (d : Nat) : RT.get 0 (rowT d x) = some x := by
  unfold RT.get rowT
  rw [if_pos rfl]
theorem h0_HR {ν : Nu} {gs : List Gl} {lim : Nat} {w : World} (hlim : lim ≤ 4 ^ HD) (hlt : ∀ q ∈ gs, q.g < lim) (hpos : ∀ q ∈ gs, 0 < q.l.length) (hnd : (gs.map (·.g)).Nodup) (hgv : ∀ g, 0 < gver g → ∃ q ∈ gs, q.g = g ∧ q.l.length = gver g)
    (hG : ∀ q ∈ gs, ∃ fr, (q.g, q.obj fr) ∈ ν.G) (hw : ∀ b o, (b, o) ∈ ν.G → w.heap[b]? = some o) : HR (phiOf gs) ν (h0Of gs lim) w := by
  have hblk : ∀ q ∈ gs, ∃ fr, w.heap[q.g]? = some (q.obj fr) := fun q hq => let ⟨fr, h⟩ := hG q hq; ⟨fr, hw _ _ h⟩
  have huniq : ∀ q ∈ gs, ∀ q' ∈ gs, q.g = q'.g → q = q' := by
    intro q hq q' hq' e
    obtain ⟨i, hi, rfl⟩ := List.getElem_of_mem hq
    obtain ⟨j, hj, rfl⟩ := List.getElem_of_mem hq'
    have h1 : i < (gs.map (·.g)).length := by simpa using hi
    have h2 : j < (gs.map (·.g)).length := by simpa using hj
    have : i = j := (List.getElem_inj (h₀ := h1) (h₁ := h2) hnd).1 (by simpa using e)
    subst this; rfl
  refine ⟨?_, ?_, ?_, hlim, Nat.le_refl _, ?_, ?_, trivial⟩
  · intro id ver p hp
    obtain ⟨q, hq, h1, h2, rfl⟩ := phiOf_some hp
    obtain ⟨fr, hb⟩ := hblk q hq
    exact ⟨by rw [← h1]; exact hlt q hq, (Array.getElem?_eq_some_iff.1 hb).1⟩
  · intro id ver p id' ver' p' hp hp' e
    obtain ⟨q, hq, h1, h2, rfl⟩ := phiOf_some hp
    obtain ⟨q', hq', h1', h2', rfl⟩ := phiOf_some hp'
    rw [← h1, ← h1']; exact e
  · intro id b hid hb
    have hid : id < lim := hid
    obtain ⟨q, hq, h1, rfl⟩ := glHeap_get (fun q hq => by have := hlt q hq; omega) (by omega) hb
    refine ⟨trivial, Nat.zero_le _, hpos q hq, fun ver p hp => ?_⟩
    obtain ⟨q', hq', h1', h2', rfl⟩ := phiOf_some hp
    have := huniq q hq q' hq' (by rw [h1, h1'])
    subst this
    subst h2'
    obtain ⟨fr, hb2⟩ := hblk q hq
    refine ⟨Nat.le_succ _, rfl, fun _ => ⟨_, fr, hb2, by simp, by simp, fun j hj => ?_, fun e => by omega, fun e => by omega⟩⟩
    refine ⟨q.l[j].val, by simp [hj], GC.one _, ?_⟩
    have hc : cellAt q.l.length (rowT RD q.row) j = q.l[j].av := by
      unfold cellAt
      rw [Nat.div_eq_of_lt hj, rowT_get, Nat.mod_eq_of_lt hj]
      simp [Gl.row, hj]
    rw [hc]
    exact GC.vr _
  · intro g hg
    obtain ⟨q, hq, h1, h2⟩ := hgv g hg
    have hf : ∃ q', gs.find? (fun q => Nat.beq q.g g && Nat.beq q.l.length (gver g)) = some q' := by
      rw [← Option.isSome_iff_exists, List.find?_isSome]
      exact ⟨q, hq, by rw [h1, h2]; simp⟩
    obtain ⟨q', hq'⟩ := hf
    have h3 := List.find?_some hq'
    rw [Bool.and_eq_true] at h3
    refine ⟨⟨q'.g, q'.l.length, q'.l.length, 0⟩, by unfold phiOf; rw [hq'], nbT h3.1⟩
  · intro b o hbo
    refine ⟨hw b o hbo, fun id ver p hp e => ?_⟩
    obtain ⟨q, hq, h1, h2, rfl⟩ := phiOf_some hp
    show id < lim
    rw [← h1]; exact hlt q hq
end
end Go.Abs

/-
  The table of the program's words, as words.table makes it (printed by program).
-/
namespace Go.Abs
def wordsClock : Nat := 262
def wordsMs : List ME := [⟨6, 91617109427009, .u8, 1, 0⟩,
  ⟨9, 1315359943245019104321, .u8, 1, 1⟩,
  ⟨5, 353350469185, .u8, 1, 2⟩,
  ⟨3, 5000257, .u8, 1, 3⟩,
  ⟨10, 317751239002167759096897, .u8, 1, 4⟩,
  ⟨4, 1330859073, .u8, 1, 5⟩,
  ⟨9, 1278896560973888638017, .u8, 1, 6⟩,
  ⟨3, 4476481, .u8, 1, 7⟩,
  ⟨3, 5852737, .u8, 1, 8⟩,
  ⟨3, 4543041, .u8, 1, 9⟩,
  ⟨4, 1095062081, .u8, 1, 10⟩,
  ⟨5, 357577347649, .u8, 1, 11⟩,
  ⟨9, 1315359944344596599617, .u8, 1, 12⟩,
  ⟨6, 86068079842113, .u8, 1, 13⟩,
  ⟨2, 21569, .u8, 1, 14⟩,
  ⟨14, 1608828531497585684031718530570049, .u8, 1, 15⟩,
  ⟨6, 76219819640130, .u8, 1, 16⟩,
  ⟨6, 98209817839938, .u8, 1, 17⟩,
  ⟨5, 323435449410, .u8, 1, 18⟩,
  ⟨5, 323251817538, .u8, 1, 19⟩,
  ⟨2, 22850, .u8, 1, 20⟩,
  ⟨2, 17987, .u8, 1, 21⟩,
  ⟨2, 18499, .u8, 1, 22⟩,
  ⟨9, 1517628705878675900483, .u8, 1, 23⟩,
  ⟨10, 393474046784059228637251, .u8, 1, 24⟩,
  ⟨5, 357879073859, .u8, 1, 25⟩,
  ⟨6, 86094050512707, .u8, 1, 26⟩,
  ⟨4, 1347243843, .u8, 1, 27⟩,
  ⟨6, 56269713788739, .u8, 1, 28⟩,
  ⟨13, 6041551547356042718232915562307, .u8, 1, 29⟩,
  ⟨15, 265725889768987890266851172013657923, .u8, 1, 30⟩,
  ⟨13, 6204334641357092112960926404419, .u8, 1, 31⟩,
  ⟨8, 6002815898267569987, .u8, 1, 32⟩,
  ⟨7, 23729957717823299, .u8, 1, 33⟩,
  ⟨7, 21479313250340675, .u8, 1, 34⟩,
  ⟨8, 6002259618398359363, .u8, 1, 35⟩,
  ⟨10, 336732150260214721826627, .u8, 1, 36⟩,
  ⟨4, 1498435395, .u8, 1, 37⟩,
  ⟨4, 1381125955, .u8, 1, 38⟩,
  ⟨13, 5649427943429146784801458638659, .u8, 1, 39⟩,
  ⟨5, 362091466563, .u8, 1, 40⟩,
  ⟨4, 1096040772, .u8, 1, 41⟩,
  ⟨2, 17732, .u8, 1, 42⟩,
  ⟨12, 25771079172926118500575167812, .u8, 1, 43⟩,
  ⟨9, 1259374295495201277252, .u8, 1, 44⟩,
  ⟨9, 1517628712527134999876, .u8, 1, 45⟩,
  ⟨9, 1315359944344597448004, .u8, 1, 46⟩,
  ⟨10, 336732145752216729503044, .u8, 1, 47⟩,
  ⟨6, 83877512365380, .u8, 1, 48⟩,
  ⟨8, 5642809480180025668, .u8, 1, 49⟩,
  ⟨4, 1314344772, .u8, 1, 50⟩,
  ⟨10, 393235314627021275944260, .u8, 1, 51⟩,
  ⟨7, 18939419596577092, .u8, 1, 52⟩,
  ⟨4, 1163086917, .u8, 1, 53⟩,
  ⟨3, 4476485, .u8, 1, 54⟩,
  ⟨7, 19215345139338821, .u8, 1, 55⟩,
  ⟨8, 5497841001890598469, .u8, 1, 56⟩,
  ⟨11, 83814134097584974746373701, .u8, 1, 57⟩,
  ⟨10, 327397807262443088662085, .u8, 1, 58⟩,
  ⟨10, 327102950406787701165637, .u8, 1, 59⟩,
  ⟨12, 21456323973809839260416888389, .u8, 1, 60⟩,
  ⟨6, 77280106008133, .u8, 1, 61⟩,
  ⟨12, 27636423378395693673573797445, .u8, 1, 62⟩,
  ⟨11, 93475984521892321818857029, .u8, 1, 63⟩,
  ⟨8, 4918288487314378309, .u8, 1, 64⟩,
  ⟨10, 369863367293487026556485, .u8, 1, 65⟩,
  ⟨11, 83813912883575097382948421, .u8, 1, 66⟩,
  ⟨10, 341252245714361135681093, .u8, 1, 67⟩,
  ⟨9, 1555453613492417089093, .u8, 1, 68⟩,
  ⟨10, 336732149699523232681541, .u8, 1, 69⟩,
  ⟨12, 26078047327433075562087992901, .u8, 1, 70⟩,
  ⟨12, 22068078162707990933361937989, .u8, 1, 71⟩,
  ⟨9, 1278898817192819969605, .u8, 1, 72⟩,
  ⟨11, 101919391829110772901236293, .u8, 1, 73⟩,
  ⟨5, 327513624901, .u8, 1, 74⟩,
  ⟨5, 353518113349, .u8, 1, 75⟩,
  ⟨9, 1444559228055377369157, .u8, 1, 76⟩,
  ⟨6, 75102961293381, .u8, 1, 77⟩,
  ⟨5, 297750249798, .u8, 1, 78⟩,
  ⟨2, 17478, .u8, 1, 79⟩,
  ⟨4, 1162627398, .u8, 1, 80⟩,
  ⟨12, 23616754675392681150228744518, .u8, 1, 81⟩,
  ⟨6, 90457586288966, .u8, 1, 82⟩,
  ⟨5, 327513164102, .u8, 1, 83⟩,
  ⟨5, 362175154502, .u8, 1, 84⟩,
  ⟨7, 20070800200519494, .u8, 1, 85⟩,
  ⟨3, 5394246, .u8, 1, 86⟩,
  ⟨4, 1297044038, .u8, 1, 87⟩,
  ⟨6, 78401563412807, .u8, 1, 88⟩,
  ⟨7, 23157176264905287, .u8, 1, 89⟩,
  ⟨5, 345028645447, .u8, 1, 90⟩,
  ⟨7, 20070799931163976, .u8, 1, 91⟩,
  ⟨3, 5188937, .u8, 1, 92⟩,
  ⟨11, 92252947950752660743728457, .u8, 1, 93⟩,
  ⟨14, 1588309668187138014784348213298249, .u8, 1, 94⟩,
  ⟨2, 20041, .u8, 1, 95⟩,
  ⟨7, 19216543837867593, .u8, 1, 96⟩,
  ⟨8, 4995689643908550217, .u8, 1, 97⟩,
  ⟨7, 21463881432518217, .u8, 1, 98⟩,
  ⟨5, 362208579145, .u8, 1, 99⟩,
  ⟨12, 26099878864652542872566910537, .u8, 1, 100⟩,
  ⟨4, 1330925129, .u8, 1, 101⟩,
  ⟨7, 19220890278841929, .u8, 1, 102⟩,
  ⟨2, 21321, .u8, 1, 103⟩,
  ⟨4, 1414747466, .u8, 1, 104⟩,
  ⟨9, 1259371195954927719754, .u8, 1, 105⟩,
  ⟨3, 5850443, .u8, 1, 106⟩,
  ⟨5, 327579484492, .u8, 1, 107⟩,
  ⟨4, 1414742348, .u8, 1, 108⟩,
  ⟨7, 20070799931163980, .u8, 1, 109⟩,
  ⟨4, 1413891404, .u8, 1, 110⟩,
  ⟨4, 1397966156, .u8, 1, 111⟩,
  ⟨5, 362007054668, .u8, 1, 112⟩,
  ⟨6, 91621472160076, .u8, 1, 113⟩,
  ⟨4, 1162758476, .u8, 1, 114⟩,
  ⟨5, 357645044044, .u8, 1, 115⟩,
  ⟨7, 19500119154903372, .u8, 1, 116⟩,
  ⟨4, 1162104653, .u8, 1, 117⟩,
  ⟨22, 29677648179017929415112773370000495247019887617459534, .u8, 1, 118⟩,
  ⟨12, 24223654047227519835983398222, .u8, 1, 119⟩,
  ⟨19, 1768925677479199813221270968476238158843954510, .u8, 1, 120⟩,
  ⟨8, 4996261462835414350, .u8, 1, 121⟩,
  ⟨4, 1415071054, .u8, 1, 122⟩,
  ⟨2, 20302, .u8, 1, 123⟩,
  ⟨3, 5525326, .u8, 1, 124⟩,
  ⟨6, 90457418585422, .u8, 1, 125⟩,
  ⟨7, 18939441138455886, .u8, 1, 126⟩,
  ⟨6, 91613082895183, .u8, 1, 127⟩,
  ⟨2, 17999, .u8, 1, 128⟩,
  ⟨3, 4605519, .u8, 1, 129⟩,
  ⟨7, 19216526909984079, .u8, 1, 130⟩,
  ⟨2, 20047, .u8, 1, 131⟩,
  ⟨8, 5494759122808361039, .u8, 1, 132⟩,
  ⟨2, 21071, .u8, 1, 133⟩,
  ⟨5, 353349423695, .u8, 1, 134⟩,
  ⟨12, 24235682192803379701858390607, .u8, 1, 135⟩,
  ⟨5, 353349686351, .u8, 1, 136⟩,
  ⟨6, 92725396657487, .u8, 1, 137⟩,
  ⟨8, 6291331069371569743, .u8, 1, 138⟩,
  ⟨14, 1546636879355971501952978141790544, .u8, 1, 139⟩,
  ⟨4, 1162297680, .u8, 1, 140⟩,
  ⟨2, 18000, .u8, 1, 141⟩,
  ⟨2, 18512, .u8, 1, 142⟩,
  ⟨3, 4409680, .u8, 1, 143⟩,
  ⟨7, 19512299832428880, .u8, 1, 144⟩,
  ⟨4, 1398099024, .u8, 1, 145⟩,
  ⟨7, 23157176483270480, .u8, 1, 146⟩,
  ⟨8, 4996261462970421072, .u8, 1, 147⟩,
  ⟨9, 1278758064234362262096, .u8, 1, 148⟩,
  ⟨7, 19216462200656464, .u8, 1, 149⟩,
  ⟨7, 21745394846224976, .u8, 1, 150⟩,
  ⟨10, 322470797489643224781392, .u8, 1, 151⟩,
  ⟨10, 322399819634676832621136, .u8, 1, 152⟩,
  ⟨6, 85002843734354, .u8, 1, 153⟩,
  ⟨2, 17490, .u8, 1, 154⟩,
  ⟨6, 75120307815762, .u8, 1, 155⟩,
  ⟨7, 23437543374800210, .u8, 1, 156⟩,
  ⟨9, 1536073767720851883346, .u8, 1, 157⟩,
  ⟨9, 1277675231154335532370, .u8, 1, 158⟩,
  ⟨8, 4996261462835742034, .u8, 1, 159⟩,
  ⟨9, 1517624214407751746898, .u8, 1, 160⟩,
  ⟨7, 23438621177431378, .u8, 1, 161⟩,
  ⟨9, 1315359943189368685906, .u8, 1, 162⟩,
  ⟨6, 92712494712146, .u8, 1, 163⟩,
  ⟨9, 1315359961954131133778, .u8, 1, 164⟩,
  ⟨7, 23455135561696594, .u8, 1, 165⟩,
  ⟨5, 361940338002, .u8, 1, 166⟩,
  ⟨2, 18002, .u8, 1, 167⟩,
  ⟨2, 18514, .u8, 1, 168⟩,
  ⟨5, 361989884242, .u8, 1, 169⟩,
  ⟨7, 19216458090630994, .u8, 1, 170⟩,
  ⟨3, 5133650, .u8, 1, 171⟩,
  ⟨6, 86059422729043, .u8, 1, 172⟩,
  ⟨2, 17491, .u8, 1, 173⟩,
  ⟨7, 22042224548332883, .u8, 1, 174⟩,
  ⟨6, 92647902168403, .u8, 1, 175⟩,
  ⟨8, 4990918871730767187, .u8, 1, 176⟩,
  ⟨8, 4995689708199626067, .u8, 1, 177⟩,
  ⟨8, 4990918871747741011, .u8, 1, 178⟩,
  ⟨10, 360104174997206660629843, .u8, 1, 179⟩,
  ⟨4, 1313294675, .u8, 1, 180⟩,
  ⟨4, 1163544915, .u8, 1, 181⟩,
  ⟨6, 76155446447955, .u8, 1, 182⟩,
  ⟨8, 4923069104295859283, .u8, 1, 183⟩,
  ⟨6, 91625950893139, .u8, 1, 184⟩,
  ⟨3, 5068115, .u8, 1, 185⟩,
  ⟨8, 5138124872757297492, .u8, 1, 186⟩,
  ⟨4, 1414743380, .u8, 1, 187⟩,
  ⟨4, 1312901204, .u8, 1, 188⟩,
  ⟨4, 1313163348, .u8, 1, 189⟩,
  ⟨7, 20344630051752020, .u8, 1, 190⟩,
  ⟨4, 1431455828, .u8, 1, 191⟩,
  ⟨5, 357644978516, .u8, 1, 192⟩,
  ⟨2, 20308, .u8, 1, 193⟩,
  ⟨14, 1668650406361285531157018797625172, .u8, 1, 194⟩,
  ⟨13, 6518164525925109044541534981972, .u8, 1, 195⟩,
  ⟨8, 5138124816871674452, .u8, 1, 196⟩,
  ⟨4, 1163219540, .u8, 1, 197⟩,
  ⟨10, 369807162365675526509140, .u8, 1, 198⟩,
  ⟨4, 1162893652, .u8, 1, 199⟩,
  ⟨5, 327647776341, .u8, 1, 200⟩,
  ⟨2, 20565, .u8, 1, 201⟩,
  ⟨4, 1313820757, .u8, 1, 202⟩,
  ⟨5, 297548206933, .u8, 1, 203⟩,
  ⟨5, 306256106325, .u8, 1, 204⟩,
  ⟨5, 297783804246, .u8, 1, 205⟩,
  ⟨6, 91557248909654, .u8, 1, 206⟩,
  ⟨7, 20070800284598614, .u8, 1, 207⟩,
  ⟨4, 1313163351, .u8, 1, 208⟩,
  ⟨4, 1213483351, .u8, 1, 209⟩,
  ⟨15, 359713709624999960377481121995312983, .u8, 1, 210⟩,
  ⟨6, 92703736152897, .u8, 2, 211⟩,
  ⟨3, 4473921, .u8, 2, 212⟩,
  ⟨5, 353350470721, .u8, 2, 213⟩,
  ⟨4, 1280065859, .u8, 2, 214⟩,
  ⟨6, 83860365656387, .u8, 2, 215⟩,
  ⟨5, 297750449219, .u8, 2, 216⟩,
  ⟨7, 19514498789232451, .u8, 2, 217⟩,
  ⟨8, 4995985438491430723, .u8, 2, 218⟩,
  ⟨6, 76228242195780, .u8, 2, 219⟩,
  ⟨7, 25123068948203844, .u8, 2, 220⟩,
  ⟨6, 76159590484292, .u8, 2, 221⟩,
  ⟨8, 4995689721268098629, .u8, 2, 222⟩,
  ⟨4, 1414092869, .u8, 2, 223⟩,
  ⟨8, 4995689708266603847, .u8, 2, 224⟩,
  ⟨2, 20295, .u8, 2, 225⟩,
  ⟨2, 17993, .u8, 2, 226⟩,
  ⟨10, 327508775952885580648009, .u8, 2, 227⟩,
  ⟨8, 4995689669863231049, .u8, 2, 228⟩,
  ⟨7, 23717863023136329, .u8, 2, 229⟩,
  ⟨5, 297549317453, .u8, 2, 230⟩,
  ⟨4, 1163284301, .u8, 2, 231⟩,
  ⟨8, 6434606243482719565, .u8, 2, 232⟩,
  ⟨4, 1313165391, .u8, 2, 233⟩,
  ⟨7, 21764073642411344, .u8, 2, 234⟩,
  ⟨4, 1145128274, .u8, 2, 235⟩,
  ⟨7, 19513313193641298, .u8, 2, 236⟩,
  ⟨6, 86115525870930, .u8, 2, 237⟩,
  ⟨7, 19514447283832146, .u8, 2, 238⟩,
  ⟨6, 79453980018003, .u8, 2, 239⟩,
  ⟨3, 5522771, .u8, 2, 240⟩,
  ⟨4, 1414680403, .u8, 2, 241⟩,
  ⟨5, 362157266003, .u8, 2, 242⟩,
  ⟨4, 1347376211, .u8, 2, 243⟩,
  ⟨6, 78401563153491, .u8, 2, 244⟩,
  ⟨8, 6071768544482317651, .u8, 2, 245⟩,
  ⟨8, 6004218948052079955, .u8, 2, 246⟩,
  ⟨9, 1278896560935368017236, .u8, 2, 247⟩,
  ⟨8, 5138124842827206229, .u8, 2, 248⟩,
  ⟨3, 4543317, .u8, 2, 249⟩,
  ⟨5, 297766834775, .u8, 2, 250⟩,
  ⟨4, 1330791770, .u8, 3, 251⟩,
  ⟨5, 357813077338, .u8, 3, 252⟩,
  ⟨6, 91557148640602, .u8, 3, 253⟩,
  ⟨5, 297481097299, .u8, 3, 254⟩,
  ⟨6, 91556946202707, .u8, 3, 255⟩,
  ⟨10, 327416755332043686496584, .u8, 3, 256⟩,
  ⟨11, 100668259783346265187109192, .u8, 3, 257⟩,
  ⟨9, 1278971700515796635468, .u8, 3, 258⟩,
  ⟨10, 393235389778696349372236, .u8, 3, 259⟩,
  ⟨5, 297767228753, .u8, 3, 260⟩,
  ⟨6, 91557232334161, .u8, 3, 261⟩]
end Go.Abs

/-
  A verified evaluator: a function of two strings that gives a string, by its contract (strings.Trim and its like).
-/
namespace Go.Abs
noncomputable section
open Go.RowKit (Below)
def strOf (l : List UInt8) (k : AV → Bool) : Bool := forceN l.length fun n => forceN (enc l) fun c => k (.str n c)
def bothD (g : List UInt8 → List UInt8 → List UInt8) : FnD := fun _ args h kr _ => args2 args fun x y => vStr x fun l c => vStr y fun m d => chk (Nat.blt l 4294967281) (chk (Nat.blt m 4294967281)
  (chk (ascii (decL m d)) (strOf (g (decL l c) (decL m d)) fun v => kr v h)))
theorem both_good {P : Program} {ν : Nu} {f : Nat} {g : List UInt8 → List UInt8 → List UInt8} (hb : hasBody P f = true)
    (hC : ∀ (s t : ByteArray) (w : World), s.size < 4294967281 → t.size < 4294967281 → (∀ (j : Nat) b, t.data.toList[j]? = some b → b.toNat < 128) →
      Calls P f #[.string s, .string t] w fun e w' => e = .returned (.string ⟨(g s.data.toList t.data.toList).toArray⟩) ∧ Below w.heap.size w w') : FnGood P ν f (bothD g) := by
  refine FnGood.plain hb fun cf args h φ w vs kr kp hk hr hv => ?_
  obtain ⟨x, y, e0, hk1⟩ := args2_true hk
  obtain ⟨l, c, e1, hk2⟩ := vStr_true hk1
  obtain ⟨m, d, e2, hk3⟩ := vStr_true hk2
  obtain ⟨c1, hk4⟩ := chk_true hk3
  obtain ⟨c2, hk5⟩ := chk_true hk4
  obtain ⟨c3, hk6⟩ := chk_true hk5
  rw [Nat.blt_eq] at c1 c2
  subst e0 e1 e2
  cases hv with
  | cons h1 hv =>
    cases hv with
    | cons h2 hv =>
      cases hv with
      | nil =>
        cases h1 with
        | str hs =>
          cases h2 with
          | str ht =>
            rename_i s t
            have hk7 : strOf (g s.data.toList t.data.toList) (fun v => kr v h) = true := by rw [hs.dec, ht.dec]; exact hk6
            unfold strOf at hk7
            rw [forceN_eq, forceN_eq] at hk7
            exact ⟨_, _, hC s t w (by rw [hs.1]; exact c1) (by rw [ht.1]; exact c2) (ascii_true (by rw [ht.dec]; exact c3)), .str (IsStr.of_list _), hk7⟩
end
end Go.Abs

/-
  A verified evaluator: a call that has been run once is not run again: its result is laid in.
-/
namespace Go.Abs
set_option linter.unusedVariables false
noncomputable section
/-! ### the same value, but for the ids -/
mutual
def eqR (e : Nat → Nat → Bool) : AV → AV → Bool
  | .unk, _ => true
  | .nilm, .nilm => true
  | .mp i, .mp j => e i j
  | .nilf, .nilf => true
  | .fn f a b, .fn g c d => andB (eqFn f g) (andB (eqRs e a c) (eqRs e b d))
  | .tup a, .tup b => eqRs e a b
  | .nili, .nili => true
  | .iface t a, .iface u b => andB (Nat.beq t u) (eqR e a b)
  | .nilp, .nilp => true
  | .nils, .nils => true
  | .agg a, .agg b => eqRs e a b
  | .ptr a b c, .ptr d f g => andB (e a d) (andB (Nat.beq b f) (Nat.beq c g))
  | .sl a b c d k x, .sl f g h i j y => andB (e a f) (andB (Nat.beq b g) (andB (Nat.beq c h) (andB (Nat.beq d i) (andB (Nat.beq k j) (eqBool x y)))))
  | .str a b, .str c d => andB (Nat.beq a c) (Nat.beq b d)
  | .bool a, .bool b => eqBool a b
  | .int k a, .int j b => andB (isIntK k j) (eqInt a b)
  | _, _ => false
def eqRs (e : Nat → Nat → Bool) : List AV → List AV → Bool
  | [], [] => true
  | a :: l, b :: m => andB (eqR e a b) (eqRs e l m)
  | _, _ => false
end
section
variable {e : Nat → Nat → Bool} {φ φ0 : Phi} {ν : Nu}
mutual
theorem eqR_VR (he : ∀ i j, e i j = true → ∀ ver, φ0 i ver = φ j ver) : ∀ {a b : AV} {v : Value}, eqR e a b = true → VR φ ν b v → VR φ0 ν a v
  | .unk, b, v, h, hv => .unk v
  | .sym k s, b, v, h, hv => by cases b <;> simp [eqR] at h
  | .nilm, b, v, h, hv => by cases b <;> simp only [eqR] at h <;> first | (cases hv; exact .nilm) | cases h
  | .mp i, b, v, h, hv => by
    cases b <;> simp only [eqR] at h <;> first | (cases hv with | mp hp => exact .mp (by rw [he _ _ h]; exact hp)) | cases h
  | .nilf, b, v, h, hv => by cases b <;> simp only [eqR] at h <;> first | (cases hv; exact .nilf) | cases h
  | .fn f x y, b, v, h, hv => by
    cases b <;> simp only [eqR] at h <;> first
      | (obtain ⟨h1, h2⟩ := andB_true h; obtain ⟨h2, h3⟩ := andB_true h2; cases hv with | fn p q => rw [eqFn_true h1]; exact .fn (eqRs_VR he h2 p) (eqRs_VR he h3 q))
      | cases h
  | .tup x, b, v, h, hv => by
    cases b <;> simp only [eqR] at h <;> first | (cases hv with | tup p => exact .tup (eqRs_VR he h p)) | cases h
  | .nili, b, v, h, hv => by cases b <;> simp only [eqR] at h <;> first | (cases hv; exact .nili) | cases h
  | .iface t x, b, v, h, hv => by
    cases b <;> simp only [eqR] at h <;> first
      | (obtain ⟨h1, h2⟩ := andB_true h; cases hv with | iface p => rw [nbT h1]; exact .iface (eqR_VR he h2 p))
      | cases h
  | .nilp, b, v, h, hv => by cases b <;> simp only [eqR] at h <;> first | (cases hv; exact .nilp) | cases h
  | .nils, b, v, h, hv => by cases b <;> simp only [eqR] at h <;> first | (cases hv; exact .nils) | cases h
  | .agg x, b, v, h, hv => by
    cases b <;> simp only [eqR] at h <;> first | (cases hv with | agg p q => exact .agg (eqRs_VR he h p) q) | cases h
  | .ptr i j k, b, v, h, hv => by
    cases b <;> simp only [eqR] at h <;> first
      | (obtain ⟨h1, h2⟩ := andB_true h; obtain ⟨h2, h3⟩ := andB_true h2
         cases hv with | ptr hp => rw [nbT h2, nbT h3]; exact .ptr (by rw [he _ _ h1]; exact hp))
      | cases h
  | .sl i j k l m x, b, v, h, hv => by
    cases b <;> simp only [eqR] at h <;> first
      | (obtain ⟨h1, h2⟩ := andB_true h; obtain ⟨h2, h3⟩ := andB_true h2; obtain ⟨h3, h4⟩ := andB_true h3; obtain ⟨h4, h5⟩ := andB_true h4; obtain ⟨h5, h6⟩ := andB_true h5
         cases hv with
         | sl hp g1 g2 g3 g4 g5 =>
           rw [nbT h2, nbT h3, nbT h4, nbT h5, eqBool_true h6]
           exact .sl (by rw [he _ _ h1]; exact hp) g1 g2 g3 g4 g5)
      | cases h
  | .str i j, b, v, h, hv => by
    cases b <;> simp only [eqR] at h <;> first | (obtain ⟨h1, h2⟩ := andB_true h; cases hv with | str p => rw [nbT h1, nbT h2]; exact .str p) | cases h
  | .bool x, b, v, h, hv => by cases b <;> simp only [eqR] at h <;> first | (cases hv; rw [eqBool_true h]; exact .bool _) | cases h
  | .int k n, b, v, h, hv => by
    cases b <;> simp only [eqR] at h <;> first | (obtain ⟨h1, h2⟩ := andB_true h; cases hv; rw [isIntK_true h1, eqInt_true h2]; exact .int _ _) | cases h
theorem eqRs_VR (he : ∀ i j, e i j = true → ∀ ver, φ0 i ver = φ j ver) : ∀ {a b : List AV} {v : List Value}, eqRs e a b = true → VRs φ ν b v → VRs φ0 ν a v
  | [], b, v, h, hv => by cases b <;> simp only [eqRs] at h <;> first | (cases hv; exact .nil) | cases h
  | x :: l, b, v, h, hv => by
    cases b <;> simp only [eqRs] at h <;> first | (obtain ⟨h1, h2⟩ := andB_true h; cases hv with | cons p q => exact .cons (eqR_VR he h1 p) (eqRs_VR he h2 q)) | cases h
end
theorem eqRs_getD (he : ∀ i j, e i j = true → ∀ ver, φ0 i ver = φ j ver) : ∀ {a b : List AV}, eqRs e a b = true → ∀ (k : Nat) (v : Value), VR φ ν (b.getD k .unk) v → VR φ0 ν (a.getD k .unk) v
  | [], b, h, k, v, hv => by simp; exact .unk v
  | x :: l, b, h, k, v, hv => by
    cases b with
    | nil => simp [eqRs] at h
    | cons y m =>
      simp only [eqRs] at h
      obtain ⟨h1, h2⟩ := andB_true h
      cases k with
      | zero => simpa using eqR_VR he h1 (by simpa using hv)
      | succ k => simpa using eqRs_getD he h2 k v (by simpa using hv)
end
def eqRows (e : Nat → Nat → Bool) (rows rows' : RT (List AV) RD) (n : Nat) : Bool :=
  Nat.rec (motive := fun _ => Bool) true (fun i ih => RT.getK i rows fun l => RT.getK i rows' fun l' => andB (eqRs e l l') ih) n
theorem eqRows_true {e : Nat → Nat → Bool} {rows rows' : RT (List AV) RD} : ∀ {n : Nat}, eqRows e rows rows' n = true → ∀ i, i < n → ∃ l l', RT.get i rows = some l ∧ RT.get i rows' = some l' ∧ eqRs e l l' = true
  | 0, _, i, hi => by omega
  | n + 1, h, i, hi => by
    change RT.getK n rows (fun l => RT.getK n rows' fun l' => andB (eqRs e l l') (eqRows e rows rows' n)) = true at h
    obtain ⟨l, hl, h⟩ := RT.getK_true h
    obtain ⟨l', hl', h⟩ := RT.getK_true h
    obtain ⟨h1, h2⟩ := andB_true h
    rcases Nat.lt_or_ge i n with q | q
    · exact eqRows_true h2 i q
    · have : i = n := by omega
      subst this
      exact ⟨l, l', hl, hl', h1⟩
def eqMs (e : Nat → Nat → Bool) : List (AV × AV × Nat) → List (AV × AV × Nat) → Bool
  | [], [] => true
  | (a, b, n) :: l, (c, d, m) :: l' => andB (eqR e a c) (andB (eqR e b d) (andB (Nat.beq n m) (eqMs e l l')))
  | _, _ => false
theorem eqMs_MEs {e : Nat → Nat → Bool} {φ φ0 : Phi} {ν : Nu} (he : ∀ i j, e i j = true → ∀ ver, φ0 i ver = φ j ver) : ∀ {a b : List (AV × AV × Nat)} {m : List MapEntry}, eqMs e a b = true → MEs φ ν b m → MEs φ0 ν a m
  | [], b, m, h, hv => by
    cases b <;> simp only [eqMs] at h <;> first | (cases m <;> first | trivial | exact hv.elim) | cases h
  | (x, y, n) :: l, b, m, h, hv => by
    cases b with
    | nil => simp [eqMs] at h
    | cons q b =>
      obtain ⟨c, d, k⟩ := q
      simp only [eqMs] at h
      obtain ⟨h1, h2⟩ := andB_true h
      obtain ⟨h2, h3⟩ := andB_true h2
      obtain ⟨h3, h4⟩ := andB_true h3
      cases m with
      | nil => exact hv.elim
      | cons u m =>
        obtain ⟨g1, g2, g3, g4⟩ := hv
        exact ⟨eqR_VR he h1 g1, eqR_VR he h2 g2, by rw [g3, nbT h3], eqMs_MEs he h4 g4⟩
def eqAB (e : Nat → Nat → Bool) : AB → AB → Bool
  | .cells s n lw fz opn el rows, .cells s' n' lw' fz' opn' el' rows' =>
    andB (Nat.beq s s') (andB (Nat.beq n n') (andB (Nat.beq lw lw') (andB (Nat.beq fz fz') (andB (eqBool opn opn') (andB (Nat.beq el el') (eqRows e rows rows' (Nat.div (Nat.sub (Nat.add n s) 1) s)))))))
  | .mapo es c, .mapo es' c' => andB (Nat.beq c c') (eqMs e es es')
  | _, _ => false
theorem eqAB_BR {e : Nat → Nat → Bool} {φ φ0 : Phi} {ν : Nu} {w : World} (he : ∀ i j, e i j = true → ∀ ver, φ0 i ver = φ j ver) {i j : Nat} (hij : ∀ ver, φ0 i ver = φ j ver) {b b' : AB} (h : eqAB e b b' = true) (hb : BR φ ν w j b') : BR φ0 ν w i b := by
  cases b <;> cases b' <;> simp only [eqAB] at h <;> try (cases h; done)
  · rename_i s n lw fz opn el rows s' n' lw' fz' opn' el' rows'
    obtain ⟨h1, h⟩ := andB_true h
    obtain ⟨h2, h⟩ := andB_true h
    obtain ⟨h3, h⟩ := andB_true h
    obtain ⟨h4, h⟩ := andB_true h
    obtain ⟨h5, h⟩ := andB_true h
    obtain ⟨h6, hrow⟩ := andB_true h
    clear h
    have h1 := nbT h1; have h2 := nbT h2; have h3 := nbT h3; have h4 := nbT h4
    have h5 := eqBool_true h5; have h6 := nbT h6
    subst h1 h2 h3 h4 h5 h6
    obtain ⟨_, g1, g2, g3⟩ := hb
    refine ⟨trivial, g1, g2, fun ver p hp => ?_⟩
    obtain ⟨a1, a2, a3⟩ := g3 ver p (by rw [← hij]; exact hp)
    refine ⟨a1, a2, fun hl => ?_⟩
    obtain ⟨c, fr, e1, e2, e3, e4, e5, e6⟩ := a3 hl
    refine ⟨c, fr, e1, e2, e3, fun k hk => ?_, e5, e6⟩
    obtain ⟨v, v1, v2, v3⟩ := e4 k hk
    refine ⟨v, v1, v2, ?_⟩
    have hkn : k / s < (n + s - 1) / s := by
      rw [Nat.div_lt_iff_lt_mul g2]
      have h0 := Nat.div_add_mod (n + s - 1) s
      have h1 := Nat.mod_lt (n + s - 1) g2
      rw [Nat.mul_comm]
      omega
    obtain ⟨l, l', q1, q2, q3⟩ := eqRows_true hrow _ hkn
    unfold cellAt at v3 ⊢
    rw [q2] at v3
    rw [q1]
    exact eqRs_getD he q3 _ _ v3
  · rename_i es c es' c'
    obtain ⟨h1, h2⟩ := andB_true h
    have h1 := nbT h1
    subst h1
    obtain ⟨g0, p, hp, ms, hm, hes⟩ := hb
    exact ⟨fun ver q hq => g0 ver q (by rw [← hij]; exact hq), p, by rw [hij]; exact hp, ms, hm, eqMs_MEs he h2 hes⟩
/-! ### a trie cut off at a key -/
def T4.trunc {α : Type} : (d : Nat) → Nat → T4 α d → T4 α d
  | 0, i, t => if i = 0 then (none : Option α) else t
  | d + 1, i, t => (⟨if 0 < i / 4 ^ d then Q.a (α := T4 α d) t else if i / 4 ^ d = 0 then T4.trunc d (i % 4 ^ d) (Q.a (α := T4 α d) t) else T4.e d,
      if 1 < i / 4 ^ d then Q.b (α := T4 α d) t else if i / 4 ^ d = 1 then T4.trunc d (i % 4 ^ d) (Q.b (α := T4 α d) t) else T4.e d,
      if 2 < i / 4 ^ d then Q.c (α := T4 α d) t else if i / 4 ^ d = 2 then T4.trunc d (i % 4 ^ d) (Q.c (α := T4 α d) t) else T4.e d,
      if 3 < i / 4 ^ d then Q.d (α := T4 α d) t else if i / 4 ^ d = 3 then T4.trunc d (i % 4 ^ d) (Q.d (α := T4 α d) t) else T4.e d⟩ : Q (T4 α d))
theorem T4.get_trunc {α : Type} : ∀ (d i j : Nat), j < 4 ^ d → ∀ (t : T4 α d), T4.get d j (T4.trunc d i t) = if j < i then T4.get d j t else none
  | 0, i, j, hj, t => by
    have : j = 0 := by simp at hj; omega
    subst this
    show (if i = 0 then (none : Option α) else t) = if 0 < i then t else none
    by_cases h : i = 0
    · rw [if_pos h, if_neg (by omega)]
    · rw [if_neg h, if_pos (by omega)]
  | d + 1, i, j, hj, t => by
    have hq : ∀ k, k < 4 → Q.get (α := T4 α d) k (T4.trunc (d + 1) i t) = if k < i / 4 ^ d then Q.get (α := T4 α d) k t else if i / 4 ^ d = k then T4.trunc d (i % 4 ^ d) (Q.get (α := T4 α d) k t) else T4.e d := by
      intro k hk
      match k, hk with
      | 0, _ | 1, _ | 2, _ | 3, _ => rfl
    simp only [T4.get]
    rw [hq _ (div4_lt hj)]
    have hij : j < i ↔ j / 4 ^ d < i / 4 ^ d ∨ (i / 4 ^ d = j / 4 ^ d ∧ j % 4 ^ d < i % 4 ^ d) := by
      have h1 := Nat.div_add_mod i (4 ^ d)
      have h2 := Nat.div_add_mod j (4 ^ d)
      have h3 := mod4_lt d i
      have h4 := mod4_lt d j
      generalize i / 4 ^ d = a at *
      generalize j / 4 ^ d = b at *
      generalize 4 ^ d = m at *
      constructor
      · intro h
        rcases Nat.lt_trichotomy b a with q | q | q
        · exact .inl q
        · subst q; exact .inr ⟨rfl, by omega⟩
        · have : m * (a + 1) ≤ m * b := Nat.mul_le_mul_left m q
          rw [Nat.mul_add, Nat.mul_one] at this
          omega
      · rintro (q | ⟨q1, q2⟩)
        · have : m * (b + 1) ≤ m * a := Nat.mul_le_mul_left m q
          rw [Nat.mul_add, Nat.mul_one] at this
          omega
        · subst q1; omega
    by_cases h1 : j / 4 ^ d < i / 4 ^ d
    · rw [if_pos h1, if_pos (hij.2 (.inl h1))]
    · rw [if_neg h1]
      by_cases h2 : i / 4 ^ d = j / 4 ^ d
      · rw [if_pos h2, T4.get_trunc d _ _ (mod4_lt d j)]
        by_cases h3 : j % 4 ^ d < i % 4 ^ d
        · rw [if_pos h3, if_pos (hij.2 (.inr ⟨h2, h3⟩))]
        · rw [if_neg h3, if_neg (fun q => (hij.1 q).elim h1 fun q => h3 q.2)]
      · rw [if_neg h2, if_neg (fun q => (hij.1 q).elim h1 fun q => h2 q.1), T4.get_e]
def T4.truncK {α : Type} (d : Nat) : Nat → T4 α d → (T4 α d → Bool) → Bool :=
  Nat.rec (motive := fun d => Nat → T4 α d → (T4 α d → Bool) → Bool) (fun i t k => Nat.rec (motive := fun _ => Bool) (k (none : Option α)) (fun _ _ => k t) i)
    (fun n ih i t k => Q.rec (motive := fun _ => Bool) (fun a b c d => sel (Nat.div i (Nat.pow (nat_lit 4) n)) (ih (Nat.mod i (Nat.pow (nat_lit 4) n)) a fun y => k (⟨y, T4.e n, T4.e n, T4.e n⟩ : Q (T4 α n))) (ih (Nat.mod i (Nat.pow (nat_lit 4) n)) b fun y => k (⟨a, y, T4.e n, T4.e n⟩ : Q (T4 α n)))
      (ih (Nat.mod i (Nat.pow (nat_lit 4) n)) c fun y => k (⟨a, b, y, T4.e n⟩ : Q (T4 α n))) (ih (Nat.mod i (Nat.pow (nat_lit 4) n)) d fun y => k (⟨a, b, c, y⟩ : Q (T4 α n)))) (show Q (T4 α n) from t)) d
theorem T4.truncK_eq {α : Type} : ∀ (d i : Nat) (t : T4 α d) (k : T4 α d → Bool), i < 4 ^ d → T4.truncK d i t k = k (T4.trunc d i t)
  | 0, i, t, k, hi => by
    have : i = 0 := by simp at hi; omega
    subst this; rfl
  | d + 1, i, t, k, hi => by
    have hk := fun (t : T4 α d) (k : T4 α d → Bool) => T4.truncK_eq d (i % 4 ^ d) t k (mod4_lt d i)
    have hd := div4_lt hi
    obtain ⟨a, b, c, g⟩ := (show Q (T4 α d) from t)
    show sel (i / 4 ^ d) (T4.truncK d (i % 4 ^ d) a fun y => k (⟨y, T4.e d, T4.e d, T4.e d⟩ : Q (T4 α d))) (T4.truncK d (i % 4 ^ d) b fun y => k (⟨a, y, T4.e d, T4.e d⟩ : Q (T4 α d))) (T4.truncK d (i % 4 ^ d) c fun y => k (⟨a, b, y, T4.e d⟩ : Q (T4 α d))) (T4.truncK d (i % 4 ^ d) g fun y => k (⟨a, b, c, y⟩ : Q (T4 α d))) =
      k (⟨if 0 < i / 4 ^ d then a else if i / 4 ^ d = 0 then T4.trunc d (i % 4 ^ d) a else T4.e d, if 1 < i / 4 ^ d then b else if i / 4 ^ d = 1 then T4.trunc d (i % 4 ^ d) b else T4.e d,
        if 2 < i / 4 ^ d then c else if i / 4 ^ d = 2 then T4.trunc d (i % 4 ^ d) c else T4.e d, if 3 < i / 4 ^ d then g else if i / 4 ^ d = 3 then T4.trunc d (i % 4 ^ d) g else T4.e d⟩ : Q (T4 α d))
    rw [sel_eq]; simp only [hk]
    generalize i / 4 ^ d = q at hd ⊢
    match q, hd with
    | 0, _ | 1, _ | 2, _ | 3, _ => rfl
end
end Go.Abs

/-
  A verified evaluator: what a call of a function comes to, kept.
-/
namespace Go.Abs
set_option linter.unusedVariables false
noncomputable section
structure Memo where
  args : List AV
  ins : List AB
  src : List (Nat × Nat)
  c : Nat
  n : Nat
  res : AV
  sub : T4 AB 5
def insHeap (lim : Nat) : List AB → T4 AB HD → T4 AB HD
  | [], t => t
  | b :: l, t => insHeap (Nat.succ lim) l (T4.set HD lim b t)
theorem insHeap_get : ∀ {l : List AB} {lim : Nat} {t : T4 AB HD} {id : Nat}, lim + l.length ≤ 4 ^ HD → id < 4 ^ HD → T4.get HD id (insHeap lim l t) = if lim ≤ id ∧ id < lim + l.length then l[id - lim]? else T4.get HD id t
  | [], lim, t, id, _, _ => by
    rw [if_neg (by simp only [List.length_nil]; omega)]; rfl
  | b :: l, lim, t, id, h, hi => by
    show T4.get HD id (insHeap (lim + 1) l (T4.set HD lim b t)) = _
    simp only [List.length_cons] at h ⊢
    rw [insHeap_get (by omega) hi, T4.get_set HD lim id (by omega) hi]
    by_cases h1 : lim = id
    · subst h1
      rw [if_neg (by omega), if_pos rfl, if_pos (by omega)]
      simp
    · rw [if_neg h1]
      by_cases h2 : lim + 1 ≤ id ∧ id < lim + 1 + l.length
      · rw [if_pos h2, if_pos (by omega), show id - lim = (id - (lim + 1)) + 1 by omega, List.getElem?_cons_succ]
      · rw [if_neg h2, if_neg (by omega)]
def Memo.h0 (m : Memo) (gs : List Gl) (lim : Nat) : H := ⟨[], ⟨lim + m.ins.length, []⟩, m.c * 1024, insHeap lim m.ins (glHeap gs)⟩
def relIn (lim : Nat) (ρ : List Nat) (i j : Nat) : Bool := bif Nat.ble lim i then Option.rec (motive := fun _ => Bool) false (fun k => Nat.beq k j) (nthO ρ (Nat.sub i lim)) else false
def relNew (B i j : Nat) : Bool := bif Nat.ble B i then Nat.beq i j else false
theorem relIn_true {lim : Nat} {ρ : List Nat} {i j : Nat} (h : relIn lim ρ i j = true) : lim ≤ i ∧ ρ[i - lim]? = some j := by
  unfold relIn at h
  cases hb : Nat.ble lim i with
  | false => rw [hb] at h; cases h
  | true =>
    rw [hb, cond_true] at h
    refine ⟨nlT hb, ?_⟩
    rw [nthO_eq] at h
    have h : Option.rec (motive := fun _ => Bool) false (fun k => Nat.beq k j) (ρ[i - lim]?) = true := h
    cases hq : ρ[i - lim]? with
    | none => rw [hq] at h; cases h
    | some k => rw [hq] at h; rw [nbT h]
theorem relNew_true {B i j : Nat} (h : relNew B i j = true) : B ≤ i ∧ i = j := by
  unfold relNew at h
  cases hb : Nat.ble B i with
  | false => rw [hb] at h; cases h
  | true => rw [hb, cond_true] at h; exact ⟨nlT hb, nbT h⟩
def insB (lim : Nat) (ρ : List Nat) (h : H) : List AB → List Nat → Bool
  | [], [] => true
  | b :: l, j :: q => bif Nat.ble h.ro.lim j then bif Nat.blt j h.next then T4.getK HD j h.bl fun b' => andB (eqAB (relIn lim ρ) b b') (insB lim ρ h l q) else false else false
  | _, _ => false
theorem insB_true {lim : Nat} {ρ : List Nat} {h : H} : ∀ {l : List AB} {q : List Nat}, insB lim ρ h l q = true → l.length = q.length ∧ ∀ (i : Nat) (b : AB), l[i]? = some b → ∃ (j : Nat) (b' : AB), q[i]? = some j ∧ h.ro.lim ≤ j ∧ j < h.next ∧ T4.get HD j h.bl = some b' ∧ eqAB (relIn lim ρ) b b' = true
  | [], [], _ => ⟨rfl, fun i b h => by simp at h⟩
  | b :: l, j :: q, hh => by
    unfold insB at hh
    cases h1 : Nat.ble h.ro.lim j with
    | false => rw [h1] at hh; cases hh
    | true =>
      rw [h1, cond_true] at hh
      cases h2 : Nat.blt j h.next with
      | false => rw [h2] at hh; cases hh
      | true =>
        rw [h2, cond_true] at hh
        obtain ⟨b', g1, hh⟩ := T4.getK_true _ _ _ _ hh
        obtain ⟨g2, g3⟩ := andB_true hh
        obtain ⟨r1, r2⟩ := insB_true g3
        refine ⟨by simp [r1], fun i x hx => ?_⟩
        cases i with
        | zero => simp at hx; subst hx; exact ⟨j, b', rfl, nlT h1, by simpa [Nat.blt_eq] using h2, g1, g2⟩
        | succ i => simpa using r2 i x (by simpa using hx)
  | [], _ :: _, hh => by cases hh
  | _ :: _, [], hh => by cases hh
def nodupB : List Nat → Bool
  | [] => true
  | x :: l => bif List.any l (Nat.beq x) then false else nodupB l
theorem nodupB_true : ∀ {l : List Nat}, nodupB l = true → l.Nodup
  | [], _ => List.nodup_nil
  | x :: l, h => by
    unfold nodupB at h
    cases hb : l.any (Nat.beq x) with
    | true => rw [hb] at h; cases h
    | false =>
      rw [hb, cond_false] at h
      refine List.nodup_cons.2 ⟨fun hx => ?_, nodupB_true h⟩
      have : l.any (Nat.beq x) = true := List.any_eq_true.2 ⟨x, hx, Nat.beq_refl x⟩
      rw [hb] at this; cases this
def T4.getV {α : Type} (d : Nat) : Nat → T4 α d → Option α :=
  Nat.rec (motive := fun d => Nat → T4 α d → Option α) (fun _ t => t)
    (fun n ih i t => ih (Nat.mod i (Nat.pow (nat_lit 4) n)) (sel (Nat.div i (Nat.pow (nat_lit 4) n)) (Q.a (α := T4 α n) t) (Q.b (α := T4 α n) t) (Q.c (α := T4 α n) t) (Q.d (α := T4 α n) t))) d
theorem T4.getV_eq {α : Type} : ∀ (d i : Nat) (t : T4 α d), T4.getV d i t = T4.get d i t
  | 0, _, _ => rfl
  | d + 1, i, t => by
    show T4.getV d (i % 4 ^ d) (sel (i / 4 ^ d) (Q.a (α := T4 α d) t) (Q.b (α := T4 α d) t) (Q.c (α := T4 α d) t) (Q.d (α := T4 α d) t)) = _
    rw [sel_get (α := T4 α d)]
    exact T4.getV_eq d _ _
def outsB (e : Nat → Nat → Bool) (B : Nat) (sub : T4 AB 5) (bl : T4 AB HD) (n : Nat) : Bool :=
  Nat.rec (motive := fun _ => Bool) true (fun i ih => Option.rec (motive := fun _ => Bool) ih (fun b => T4.getK HD (Nat.add B i) bl fun b' => andB (eqAB e b b') ih) (T4.getV 5 i sub)) n
theorem outsB_true {e : Nat → Nat → Bool} {B : Nat} {sub : T4 AB 5} {bl : T4 AB HD} : ∀ {n : Nat}, outsB e B sub bl n = true → ∀ i, i < n → ∀ b, T4.get 5 i sub = some b → ∃ b', T4.get HD (B + i) bl = some b' ∧ eqAB e b b' = true
  | 0, _, i, hi, b, hb => by omega
  | n + 1, h, i, hi, b, hb => by
    change Option.rec (motive := fun _ => Bool) (outsB e B sub bl n) (fun b => T4.getK HD (B + n) bl fun b' => andB (eqAB e b b') (outsB e B sub bl n)) (T4.getV 5 n sub) = true at h
    rw [T4.getV_eq] at h
    rcases Nat.lt_or_ge i n with q | q
    · refine outsB_true ?_ i q b hb
      cases hq : T4.get 5 n sub with
      | none => rw [hq] at h; exact h
      | some b0 =>
        rw [hq] at h
        obtain ⟨b', _, h⟩ := T4.getK_true _ _ _ _ h
        exact (andB_true h).2
    · have : i = n := by omega
      subst this
      rw [hb] at h
      obtain ⟨b', g1, h⟩ := T4.getK_true _ _ _ _ h
      exact ⟨b', g1, (andB_true h).1⟩
def memoK (m : Memo) (av : AV) (h : H) : Bool :=
  bif Nat.beq h.next (Nat.add (Nat.mul m.c 1024) m.n) then andB (eqR (relNew (Nat.mul m.c 1024)) m.res av) (outsB (relNew (Nat.mul m.c 1024)) (Nat.mul m.c 1024) m.sub h.bl m.n) else false
/-! ### where the arguments' blocks are -/
def flatA (l : List AV) : List AV := List.rec (motive := fun _ => List AV) [] (fun a _ ih =>
  AV.rec (motive_1 := fun _ => List AV) (motive_2 := fun _ => List AV) (a :: ih) (fun _ _ => a :: ih) (a :: ih) (fun _ => a :: ih) (a :: ih) (fun _ _ _ _ _ => a :: ih) (fun _ _ => a :: ih) (a :: ih) (fun _ _ _ => a :: ih) (a :: ih) (a :: ih)
    (fun cs _ => cs ++ ih) (fun _ _ _ => a :: ih) (fun _ _ _ _ _ _ => a :: ih) (fun _ _ => a :: ih) (fun _ => a :: ih) (fun _ _ => a :: ih) [] (fun _ _ _ _ => []) a) l
def idOf (v : AV) (no : Bool) (k : Nat → Bool) : Bool :=
  AV.rec (motive_1 := fun _ => Bool) (motive_2 := fun _ => Bool) no (fun _ _ => no) no k no (fun _ _ _ _ _ => no) (fun _ _ => no) no (fun _ _ ih => ih) no no
    (fun _ _ => no) (fun id _ _ => k id) (fun id _ _ _ _ _ => k id) (fun _ _ => no) (fun _ => no) (fun _ _ => no) no (fun _ _ _ _ => no) v
def cellV (b : AB) (j : Nat) : Option AV := AB.rec (motive := fun _ => Option AV)
  (fun s _ _ _ _ _ rows => Option.rec (motive := fun _ => Option AV) none (fun l => nthO l (Nat.mod j s)) (Nat.rec (motive := fun _ => Option (List AV)) rows.r0 (fun _ _ => T4.getV RD (Nat.div j s) rows.rest) (Nat.div j s))) (fun _ _ => none) (fun _ _ _ => none) (fun _ => none) b
def rhoK (args : List AV) (h : H) (no : Bool) (src : List (Nat × Nat)) : List Nat → (List Nat → Bool) → Bool :=
  List.rec (motive := fun _ => List Nat → (List Nat → Bool) → Bool) (fun ρ k => k ρ)
    (fun p _ ih ρ k => Option.rec (motive := fun _ => Bool) no (fun v => idOf v no fun id => ih (ρ ++ [id]) k)
      (Nat.rec (motive := fun _ => Option AV) (nthO args p.2) (fun i _ => Option.rec (motive := fun _ => Option AV) none (fun id => Option.rec (motive := fun _ => Option AV) none (fun b => cellV b p.2) (T4.getV HD id h.bl)) (nthO ρ i)) p.1)) src
theorem idOf_true {v : AV} {no : Bool} {k : Nat → Bool} (h : idOf v no k = true) : no = true ∨ ∃ id, k id = true := by
  match v, h with
  | .unk, h => exact .inl h
  | .sym _ _, h => exact .inl h
  | .nilm, h => exact .inl h
  | .mp _, h => exact .inr ⟨_, h⟩
  | .nilf, h => exact .inl h
  | .fn _ _ _, h => exact .inl h
  | .tup _, h => exact .inl h
  | .nili, h => exact .inl h
  | .iface _ v, h => exact idOf_true (v := v) h
  | .nilp, h => exact .inl h
  | .nils, h => exact .inl h
  | .agg _, h => exact .inl h
  | .ptr _ _ _, h => exact .inr ⟨_, h⟩
  | .sl _ _ _ _ _ _, h => exact .inr ⟨_, h⟩
  | .str _ _, h => exact .inl h
  | .bool _, h => exact .inl h
  | .int _ _, h => exact .inl h
theorem rhoK_true {args : List AV} {h : H} {no : Bool} : ∀ {src : List (Nat × Nat)} {ρ : List Nat} {k : List Nat → Bool}, rhoK args h no src ρ k = true → no = true ∨ ∃ ρ, k ρ = true
  | [], ρ, k, hh => .inr ⟨ρ, hh⟩
  | p :: l, ρ, k, hh => by
    change Option.rec (motive := fun _ => Bool) no (fun v => idOf v no fun id => rhoK args h no l (ρ ++ [id]) k) (Nat.rec (motive := fun _ => Option AV) (nthO args p.2) (fun i _ => Option.rec (motive := fun _ => Option AV) none (fun id => Option.rec (motive := fun _ => Option AV) none (fun b => cellV b p.2) (T4.getV HD id h.bl)) (nthO ρ i)) p.1) = true at hh
    revert hh
    generalize (Nat.rec (motive := fun _ => Option AV) (nthO args p.2) (fun i _ => Option.rec (motive := fun _ => Option AV) none (fun id => Option.rec (motive := fun _ => Option AV) none (fun b => cellV b p.2) (T4.getV HD id h.bl)) (nthO ρ i)) p.1) = o
    intro hh
    cases o with
    | none => exact .inl hh
    | some v =>
      rcases idOf_true hh with hh | ⟨id, hh⟩
      · exact .inl hh
      · exact rhoK_true hh
def memoD (m : Memo) (lim : Nat) (next : FnD) : FnD := fun cf args h kr kp =>
  (fun no => bif Nat.ble h.next (Nat.mul m.c 1024) then rhoK (flatA args) h no m.src [] fun ρ =>
    Bool.rec (motive := fun _ => Bool) no (T4.truncK HD h.next h.bl fun bl => T4.graftK 5 4 m.c m.sub bl fun bl => kr m.res ⟨h.ds, h.ro, Nat.add (Nat.mul m.c 1024) m.n, bl⟩)
      (andB (nodupB ρ) (andB (eqRs (relIn lim ρ) m.args args) (insB lim ρ h m.ins ρ))) else no) (next cf args h kr kp)
theorem FnGood.memo {P : Program} {ν : Nu} {t : T4 FnD TD} (ht : TblOk P ν t) {n f : Nat} {gs : List Gl} {lim : Nat} (m : Memo) (hrun : runF t n f m.args (m.h0 gs lim) (memoK m) (fun _ _ => false) = true)
    (h0G : ∀ w : World, (∀ b o, (b, o) ∈ ν.G → w.heap[b]? = some o) → HR (phiOf gs) ν (h0Of gs lim) w) (hgG : ∀ id ver p, phiOf gs id ver = some p → ∃ o, (p.blk, o) ∈ ν.G)
    (hs1 : lim + m.ins.length ≤ m.c * 1024) (hs2 : m.c < 256) (hs3 : m.n ≤ 1024) {next : FnD} (hnext : FnGood P ν f next) : FnGood P ν f (memoD m lim next) := by
  intro cf hcf args h kr kp hk φ w vs hr hv
  have hk' : (bif Nat.ble h.next (m.c * 1024) then rhoK (flatA args) h (next cf args h kr kp) m.src [] fun ρ =>
    Bool.rec (motive := fun _ => Bool) (next cf args h kr kp) (T4.truncK HD h.next h.bl fun bl => T4.graftK 5 4 m.c m.sub bl fun bl => kr m.res ⟨h.ds, h.ro, m.c * 1024 + m.n, bl⟩)
      (andB (nodupB ρ) (andB (eqRs (relIn lim ρ) m.args args) (insB lim ρ h m.ins ρ))) else next cf args h kr kp) = true := hk
  cases hB : Nat.ble h.next (m.c * 1024) with
  | false => rw [hB] at hk'; exact hnext cf hcf args h kr kp hk' φ w vs hr hv
  | true =>
    rw [hB, cond_true] at hk'
    have hB := nlT hB
    rcases rhoK_true hk' with hk' | ⟨ρ, hk'⟩
    · exact hnext cf hcf args h kr kp hk' φ w vs hr hv
    cases hm : andB (nodupB ρ) (andB (eqRs (relIn lim ρ) m.args args) (insB lim ρ h m.ins ρ)) with
    | false => rw [hm] at hk'; exact hnext cf hcf args h kr kp hk' φ w vs hr hv
    | true =>
      rw [hm] at hk'
      obtain ⟨m1, m2⟩ := andB_true hm
      obtain ⟨m2, m3⟩ := andB_true m2
      have m1 := nodupB_true m1
      obtain ⟨m3, m4⟩ := insB_true m3
      obtain ⟨B, hB0⟩ : ∃ B, B = m.c * 1024 := ⟨_, rfl⟩
      have eB : Nat.mul m.c 1024 = B := hB0.symm
      have h8 : (4 : Nat) ^ HD = 262144 := by decide
      have hBn : B + m.n ≤ 4 ^ HD := Nat.le_trans (show B + m.n ≤ 262144 by omega) (Nat.le_of_eq h8.symm)
      have hB8 : B ≤ 4 ^ HD := Nat.le_trans (Nat.le_add_right _ _) hBn
      rw [← hB0] at hB hs1 hk'
      have hnx0 : (m.h0 gs lim).next = B := hB0.symm
      -- the frame of the kept call
      have hh0 := h0G w fun b o hbo => (hr.gl b o hbo).1
      let φ0 : Phi := fun id ver => if id < lim then phiOf gs id ver else match ρ[id - lim]? with | some j => φ j ver | none => none
      have p0lt : ∀ {id ver}, id < lim → φ0 id ver = phiOf gs id ver := fun h => if_pos h
      have p0ge : ∀ {id ver}, lim ≤ id → φ0 id ver = match ρ[id - lim]? with | some j => φ j ver | none => none := fun h => if_neg (by omega)
      have p0in : ∀ i j, relIn lim ρ i j = true → ∀ ver, φ0 i ver = φ j ver := fun i j hij ver => by
        obtain ⟨g1, g2⟩ := relIn_true hij
        rw [p0ge g1, g2]
      have hpl : ∀ id ver p, phiOf gs id ver = some p → id < lim := fun id ver p h => (hh0.dom id ver p h).1
      have p0some : ∀ {id ver p}, φ0 id ver = some p → (id < lim ∧ phiOf gs id ver = some p) ∨ (lim ≤ id ∧ id < lim + m.ins.length ∧ ∃ j, ρ[id - lim]? = some j ∧ φ j ver = some p) := by
        intro id ver p hp
        by_cases hl : id < lim
        · rw [p0lt hl] at hp; exact .inl ⟨hl, hp⟩
        · rw [p0ge (by omega)] at hp
          cases hq : ρ[id - lim]? with
          | none => rw [hq] at hp; cases hp
          | some j =>
            rw [hq] at hp
            have := (List.getElem?_eq_some_iff.1 hq).1
            exact .inr ⟨by omega, by omega, j, rfl, hp⟩
      have hin : HR φ0 ν (m.h0 gs lim) w := by
        refine ⟨?_, ?_, ?_, ?_, ?_, ?_, ?_, trivial⟩
        · intro id ver p hp
          rcases p0some hp with ⟨g1, g2⟩ | ⟨g1, g2, j, g3, g4⟩
          · exact ⟨by rw [hnx0]; exact Nat.lt_of_lt_of_le g1 (Nat.le_trans (Nat.le_add_right _ _) hs1), (hh0.dom _ _ _ g2).2⟩
          · exact ⟨by rw [hnx0]; exact Nat.lt_of_lt_of_le g2 hs1, (hr.dom _ _ _ g4).2⟩
        · intro id ver p id' ver' p' hp hp' he
          have hmix : ∀ {id ver p j ver' p'}, phiOf gs id ver = some p → φ j ver' = some p' → p.blk = p'.blk → (∃ i : Nat, ρ[i]? = some j) → False := by
            intro id ver p j ver' p' g1 g2 ge ⟨i, hi⟩
            obtain ⟨o, ho⟩ := hgG _ _ _ g1
            have h1 := (hr.gl _ _ ho).2 j ver' p' g2 ge.symm
            have hlt := (List.getElem?_eq_some_iff.1 hi).1
            obtain ⟨b, hb⟩ : ∃ b, m.ins[i]? = some b := ⟨m.ins[i]'(by omega), List.getElem?_eq_getElem _⟩
            obtain ⟨j', b', q1, q2, _⟩ := m4 i b hb
            rw [hi] at q1; cases q1
            omega
          rcases p0some hp with ⟨g1, g2⟩ | ⟨g1, g2, j, g3, g4⟩ <;> rcases p0some hp' with ⟨g1', g2'⟩ | ⟨g1', g2', j', g3', g4'⟩
          · exact hh0.inj _ _ _ _ _ _ g2 g2' he
          · exact (hmix g2 g4' he ⟨_, g3'⟩).elim
          · exact (hmix g2' g4 he.symm ⟨_, g3⟩).elim
          · have := hr.inj _ _ _ _ _ _ g4 g4' he
            subst this
            have h1 := (List.getElem?_eq_some_iff.1 g3).1
            have h2 := (List.getElem?_eq_some_iff.1 g3').1
            have : id - lim = id' - lim := (List.getElem_inj (h₀ := h1) (h₁ := h2) m1).1 (by rw [(List.getElem?_eq_some_iff.1 g3).2, (List.getElem?_eq_some_iff.1 g3').2])
            omega
        · intro id b hid hb
          rw [hnx0] at hid
          have hid8 : id < 4 ^ HD := Nat.lt_of_lt_of_le hid hB8
          have hb : T4.get HD id (insHeap lim m.ins (glHeap gs)) = some b := hb
          rw [insHeap_get (Nat.le_trans hs1 hB8) hid8] at hb
          by_cases hq : lim ≤ id ∧ id < lim + m.ins.length
          · rw [if_pos hq] at hb
            obtain ⟨j, b', q1, q2, q3, q4, q5⟩ := m4 _ _ hb
            refine eqAB_BR (φ := φ) (j := j) p0in (fun ver => ?_) q5 (hr.bl j b' q3 q4)
            rw [p0ge hq.1, q1]
          · rw [if_neg hq] at hb
            by_cases hl : id < lim
            · refine BR.keep (φ := phiOf gs) (w := w) (fun i v p hp => by rw [p0lt (hpl _ _ _ hp)]; exact hp) (fun v p hp => by rw [p0lt hl] at hp; exact hp) (fun v p hp => rfl) (hh0.bl id b hl hb)
            · exfalso
              have hgl : ∀ q ∈ gs, q.g < lim := fun q hq => by
                have hf : ∃ q', gs.find? (fun r => Nat.beq r.g q.g && Nat.beq r.l.length q.l.length) = some q' := by
                  rw [← Option.isSome_iff_exists, List.find?_isSome]
                  exact ⟨q, hq, by simp⟩
                obtain ⟨q', hq'⟩ := hf
                exact hpl q.g q.l.length ⟨q'.g, q'.l.length, q'.l.length, 0⟩ (by unfold phiOf; rw [hq'])
              obtain ⟨q, hq1, hq2, _⟩ := glHeap_get (fun q hq => Nat.lt_of_lt_of_le (hgl q hq) hh0.lim) hid8 hb
              exact hl (hq2 ▸ hgl q hq1)
        · rw [hnx0]; exact hB8
        · rw [hnx0]; exact hs1
        · intro g hg
          obtain ⟨p, g1, g2⟩ := hh0.gp g hg
          exact ⟨p, by rw [p0lt (hpl _ _ _ g1)]; exact g1, g2⟩
        · intro b o hbo
          refine ⟨(hr.gl b o hbo).1, fun id ver p hp _ => ?_⟩
          show id < lim + m.ins.length
          rcases p0some hp with ⟨g1, g2⟩ | ⟨g1, g2, _⟩
          · omega
          · exact g2
      have hro : (m.h0 gs lim).ro.lim = lim + m.ins.length := rfl
      have hc := runF_ok ht n f m.args (m.h0 gs lim) (memoK m) (fun _ _ => false) hrun φ0 w vs hin (eqRs_VR p0in m2 hv)
      have hpost : ∀ e w', FPost φ0 ν (m.h0 gs lim).ro w (m.h0 gs lim).ds (memoK m) (fun _ _ => false) e w' → FPost φ ν h.ro w h.ds kr kp e w' := by
        intro e w' hp
        cases e with
        | returned v =>
          obtain ⟨φ', av, h', hvr, hr', hx, hro', _, hav⟩ := hp
          unfold memoK at hav
          rw [eB] at hav
          cases hnx : Nat.beq h'.next (Nat.add B m.n) with
          | false => rw [hnx] at hav; cases hav
          | true =>
            rw [hnx, cond_true] at hav
            have hnx : h'.next = B + m.n := nbT hnx
            obtain ⟨a1, a2⟩ := andB_true hav
            have a2 := outsB_true a2
            have hnone : ∀ id ver, B ≤ id → φ0 id ver = none := by
              intro id ver hid
              cases hq : φ0 id ver with
              | none => rfl
              | some p =>
                rcases p0some hq with ⟨g1, _⟩ | ⟨_, g2, _⟩ <;> omega
            have hfresh : ∀ id ver p, B ≤ id → φ' id ver = some p → w.heap.size ≤ p.blk := by
              intro id ver p hid hp
              rcases hx.img id ver p hp with ⟨v0, q0, g1, _⟩ | g
              · rw [hnone id v0 hid] at g1; cases g1
              · exact g
            let φ2 : Phi := fun id ver => if id < B then φ id ver else φ' id ver
            have q2lt : ∀ {id ver}, id < B → φ2 id ver = φ id ver := fun h => if_pos h
            have q2ge : ∀ {id ver}, B ≤ id → φ2 id ver = φ' id ver := fun h => if_neg (by omega)
            have q2new : ∀ i j, relNew (B) i j = true → ∀ ver, φ2 i ver = φ' j ver := fun i j hij ver => by
              obtain ⟨g1, g2⟩ := relNew_true hij
              rw [q2ge g1, g2]
            have hle : φ.le φ2 := fun i v p hp => by
              rw [q2lt (Nat.lt_of_lt_of_le (hr.dom _ _ _ hp).1 hB)]; exact hp
            have hsame : ∀ b, b < w.heap.size → w'.heap[b]? = w.heap[b]? := fun b hb => hx.same b hb fun id ver p hp hl => by
              rw [hro] at hl
              rcases p0some hp with ⟨g1, _⟩ | ⟨_, g2, _⟩ <;> omega
            have hnl : h.next < 4 ^ HD ∨ h.next = 4 ^ HD := by have := hr.lim; omega
            have hn8 : h.next < 4 ^ HD := Nat.lt_of_le_of_lt hB (Nat.lt_of_lt_of_le (show B < 262144 by omega) (Nat.le_of_eq h8.symm))
            simp only [T4.truncK_eq _ _ _ _ hn8, T4.graftK_eq] at hk'
            · refine ⟨φ2, m.res, ⟨h.ds, h.ro, B + m.n, T4.graft 5 4 m.c m.sub (T4.trunc HD h.next h.bl)⟩, eqR_VR q2new a1 hvr, ?_, ?_, rfl, rfl, hk'⟩
              · refine ⟨?_, ?_, ?_, hBn, ?_, hr.gp.mono hle, ?_, ?_⟩
                · intro id ver p hp
                  by_cases hl : id < B
                  · rw [q2lt hl] at hp
                    obtain ⟨g1, g2⟩ := hr.dom _ _ _ hp
                    exact ⟨Nat.lt_of_lt_of_le hl (Nat.le_add_right _ _), Nat.lt_of_lt_of_le g2 hx.size⟩
                  · rw [q2ge (by omega)] at hp
                    obtain ⟨g1, g2⟩ := hr'.dom _ _ _ hp
                    exact ⟨by rw [hnx] at g1; exact g1, g2⟩
                · intro id ver p id' ver' p' hp hp' he
                  by_cases hl : id < B <;> by_cases hl' : id' < B
                  · rw [q2lt hl] at hp; rw [q2lt hl'] at hp'; exact hr.inj _ _ _ _ _ _ hp hp' he
                  · rw [q2lt hl] at hp; rw [q2ge (by omega)] at hp'
                    have g1 := (hr.dom _ _ _ hp).2
                    have g2 := hfresh _ _ _ (by omega) hp'
                    omega
                  · rw [q2ge (by omega)] at hp; rw [q2lt hl'] at hp'
                    have g1 := (hr.dom _ _ _ hp').2
                    have g2 := hfresh _ _ _ (by omega) hp
                    omega
                  · rw [q2ge (by omega)] at hp hp'; exact hr'.inj _ _ _ _ _ _ hp hp' he
                · intro id b hid hb
                  have hid : id < B + m.n := hid
                  have hid8 : id < 4 ^ HD := Nat.lt_of_lt_of_le hid hBn
                  have hb : T4.get (5 + 4) id (T4.graft 5 4 m.c m.sub (T4.trunc HD h.next h.bl)) = some b := hb
                  rw [T4.get_graft 5 4 m.c id (by omega) hid8] at hb
                  have h1024 : (4 : Nat) ^ 5 = 1024 := by decide
                  rw [h1024] at hb
                  by_cases hq : id / 1024 = m.c
                  · rw [if_pos hq] at hb
                    have hge : B ≤ id := by omega
                    obtain ⟨b', r1, r2⟩ := a2 (id % 1024) (by omega) b hb
                    have e1 : B + id % 1024 = id := by omega
                    rw [e1] at r1
                    exact eqAB_BR (φ := φ') (j := id) q2new (fun ver => q2ge hge) r2 (hr'.bl id b' (by rw [hnx]; exact hid) r1)
                  · rw [if_neg hq] at hb
                    have hlt : id < B := by omega
                    have hb : T4.get HD id (T4.trunc HD h.next h.bl) = some b := hb
                    rw [T4.get_trunc _ _ _ hid8] at hb
                    by_cases hn : id < h.next
                    · rw [if_pos hn] at hb
                      exact BR.keep hle (fun v p hp => by rw [q2lt hlt] at hp; exact hp) (fun v p hp => hsame _ (hr.dom _ _ _ hp).2) (hr.bl id b hn hb)
                    · rw [if_neg hn] at hb; cases hb
                · show h.ro.lim ≤ B + m.n
                  have := hr.ro
                  omega
                · intro b o hbo
                  obtain ⟨g1, g2⟩ := hr.gl b o hbo
                  refine ⟨(hr'.gl b o hbo).1, fun id ver p hp he => ?_⟩
                  show id < h.ro.lim
                  by_cases hl : id < B
                  · rw [q2lt hl] at hp; exact g2 id ver p hp he
                  · rw [q2ge (by omega)] at hp
                    have g3 := hfresh _ _ _ (by omega) hp
                    have g4 := (Array.getElem?_eq_some_iff.1 g1).1
                    omega
                · exact hr.ub
              · refine ⟨hle, hx.size, hx.os, hx.tape, hx.output, ?_, fun b hb _ => hsame b hb, fun id ver p hp _ hk => ?_⟩
                rotate_left
                · obtain ⟨v0, p0, h0⟩ := hk
                  have := (hr.dom _ _ _ h0).1
                  rwa [q2lt (by omega)] at hp
                intro id ver p hp
                by_cases hl : id < B
                · rw [q2lt hl] at hp; exact .inl ⟨ver, p, hp, rfl⟩
                · rw [q2ge (by omega)] at hp; exact .inr (hfresh _ _ _ (by omega) hp)
        | panicked chain =>
          obtain ⟨φ', av, h', v, _, _, _, _, _, _, hav⟩ := hp
          cases hav
        | outgrown => exact hp
      rcases hc with ⟨h1, h2⟩ | ⟨v, w', h1, h2⟩
      · exact .inl ⟨h1, h2.mono hpost⟩
      · exact .inr ⟨v, w', h1, hpost _ _ h2⟩
end
end Go.Abs

/-
  A verified evaluator: kept calls, their new blocks numbered close together.
-/
namespace Go.Abs
noncomputable section
structure Memo2 where
  args : List AV
  ins : List (Option AB)
  src : List (Nat × Nat)
  c : Nat
  n : Nat
  tot : Nat
  res : AV
  out : T4 Nat 5
  sub : T4 AB 5
  refs : List (Nat × Nat)
def insHeapO (lim : Nat) : List (Option AB) → T4 AB HD → T4 AB HD
  | [], t => t
  | some b :: l, t => insHeapO (Nat.succ lim) l (T4.set HD lim b t)
  | none :: l, t => insHeapO (Nat.succ lim) l t
def Memo2.h0 (m : Memo2) (gs : List Gl) (lim : Nat) : H := ⟨[], ⟨lim + m.ins.length, []⟩, 1024, insHeapO lim m.ins (glHeap gs)⟩
def names1 (v : AV) (q : Nat) : Bool := match v with
  | .ptr i _ _ => Nat.beq i q
  | .iface _ (.ptr i _ _) => Nat.beq i q
  | .sl i _ _ _ _ _ => Nat.beq i q
  | _ => false
def names1L (l : List AV) (q : Nat) : Bool := l.any fun v => names1 v q
def namesA (v : AV) (q : Nat) : Bool := match v with
  | .agg cs => names1L cs q
  | v => names1 v q
def namesL (l : List AV) (q : Nat) : Bool := l.any fun v => namesA v q
end
end Go.Abs

/-
  A verified evaluator: kept calls whose result holds no block: they leave the heap as it is, and may be used as often as one likes.
-/
namespace Go.Abs
noncomputable section
def noB (_ _ : Nat) : Bool := false
def memoK0 (m : Memo2) (av : AV) (_ : H) : Bool := eqR noB m.res av
end
end Go.Abs

/-
  A verified evaluator: blocks compared with patterns, quickly: rows that the pattern does not bear, and cells behind its rows' ends, are not looked at.
-/
namespace Go.Abs
set_option linter.unusedVariables false
noncomputable section
def isNiliB (v : AV) : Bool := AV.rec (motive_1 := fun _ => Bool) (motive_2 := fun _ => Bool) false (fun _ _ => false) false (fun _ => false) false (fun _ _ _ _ _ => false) (fun _ _ => false) true (fun _ _ _ => false) false false
    (fun _ _ => false) (fun _ _ _ => false) (fun _ _ _ _ _ _ => false) (fun _ _ => false) (fun _ => false) (fun _ _ => false) false (fun _ _ _ _ => false) v
theorem isNiliB_true {v : AV} (h : isNiliB v = true) : v = .nili := by cases v <;> first | rfl | cases h
def isNilpB (v : AV) : Bool := AV.rec (motive_1 := fun _ => Bool) (motive_2 := fun _ => Bool) false (fun _ _ => false) false (fun _ => false) false (fun _ _ _ _ _ => false) (fun _ _ => false) false (fun _ _ _ => false) true false
    (fun _ _ => false) (fun _ _ _ => false) (fun _ _ _ _ _ _ => false) (fun _ _ => false) (fun _ => false) (fun _ _ => false) false (fun _ _ _ _ => false) v
theorem isNilpB_true {v : AV} (h : isNilpB v = true) : v = .nilp := by cases v <;> first | rfl | cases h
def eqF (e : Nat → Nat → Bool) (p : AV) : AV → Bool := AV.rec (motive_1 := fun _ => AV → Bool) (motive_2 := fun _ => Bool) (fun _ => true) (fun _ _ _ => false) (fun _ => false) (fun _ _ => false) (fun _ => false) (fun _ _ _ _ _ _ => false) (fun _ _ _ => false)
    isNiliB (fun _ _ _ _ => false) isNilpB (fun b => vSl b true fun _ _ _ _ _ _ => false)
    (fun _ _ _ => false) (fun i v o b => vPtr b fun i' v' o' => andB (e i i') (andB (Nat.beq v v') (Nat.beq o o')))
    (fun i v o l m x b => vSl b false fun i' v' o' l' m' x' => andB (e i i') (andB (Nat.beq v v') (andB (Nat.beq o o') (andB (Nat.beq l l') (andB (Nat.beq m m') (eqBool x x'))))))
    (fun l c b => vStr b fun l' c' => andB (Nat.beq l l') (Nat.beq c c')) (fun x b => vBool b fun y => eqBool x y) (fun k n b => vInt b fun k' n' => andB (isIntK k k') (eqInt n n')) false (fun _ _ _ _ => false) p
section
variable {e : Nat → Nat → Bool} {φ φ0 : Phi} {ν ν' : Nu}
def eqPre (e : Nat → Nat → Bool) (l : List AV) : List AV → Bool :=
  List.rec (motive := fun _ => List AV → Bool) (fun _ => true) (fun a _ ih m => List.rec (motive := fun _ => Bool) false (fun b m' _ => andB (eqF e a b) (ih m')) m) l
end
def leafO (e : Nat → Nat → Bool) (o o' : Option (List AV)) : Bool := Option.rec (motive := fun _ => Bool) true (fun l => Option.rec (motive := fun _ => Bool) false (fun l' => eqPre e l l') o') o
def eqT (e : Nat → Nat → Bool) : (d : Nat) → T4 (List AV) d → T4 (List AV) d → Nat → Bool :=
  Nat.rec (motive := fun d => T4 (List AV) d → T4 (List AV) d → Nat → Bool) (fun t t' n => Bool.rec (motive := fun _ => Bool) true (leafO e t t') (Nat.blt 0 n))
    (fun d ih t t' n => Q.rec (motive := fun _ => Bool) (fun a b c g => Q.rec (motive := fun _ => Bool) (fun a' b' c' g' => forceN (Nat.pow (nat_lit 4) d) fun w =>
      andB (ih a a' n) (Bool.rec (motive := fun _ => Bool) true (forceN (Nat.sub n w) fun n => andB (ih b b' n) (Bool.rec (motive := fun _ => Bool) true (forceN (Nat.sub n w) fun n => andB (ih c c' n) (Bool.rec (motive := fun _ => Bool) true (forceN (Nat.sub n w) fun n => ih g g' n) (Nat.blt w n))) (Nat.blt w n))) (Nat.blt w n))) t') t)
def eqRT (e : Nat → Nat → Bool) (rows rows' : RT (List AV) RD) (n : Nat) : Bool := andB (leafO e rows.r0 rows'.r0) (eqT e RD rows.rest rows'.rest n)
def eqCB (e : Nat → Nat → Bool) (b b' : AB) : Bool :=
  AB.rec (motive := fun _ => AB → Bool) (fun s n lw fz opn el rows b' => AB.rec (motive := fun _ => Bool) (fun s' n' lw' fz' opn' el' rows' =>
    andB (Nat.beq s s') (andB (Nat.beq n n') (andB (andB (Nat.ble lw' lw) (Nat.ble lw n)) (andB (Nat.beq fz fz') (andB (eqBool opn opn') (andB (Nat.beq el el') (forceN (Nat.div (Nat.sub (Nat.add n s) 1) s) fun k => andB (Nat.ble k 4096) (eqRT e rows rows' k)))))))) (fun _ _ => false) (fun _ _ _ => false) (fun _ => false) b')
    (fun _ _ _ => false) (fun _ _ _ _ => false) (fun _ _ => false) b b'
/-! ### the same in continuations: nothing of it is kept by the kernel -/
def ifK (c k no : Bool) : Bool := Bool.rec (motive := fun _ => Bool) no k c
end
end Go.Abs

/-
  A verified evaluator: kept calls that write: one block of one row gets a new cell, a slice of a new block; the rest is as it was.
-/
namespace Go.Abs
set_option linter.unusedVariables false
noncomputable section
section
variable {e : Nat → Nat → Bool} {φ φ0 : Phi} {ν ν' : Nu}
mutual
theorem eqR_VR2 (he : ∀ i j, e i j = true → ∀ ver p, φ j ver = some p → φ0 i ver = some p) : ∀ {a b : AV} {v : Value}, eqR e a b = true → VR φ ν b v → VR φ0 ν' a v
  | .unk, b, v, h, hv => .unk v
  | .sym k s, b, v, h, hv => by cases b <;> simp [eqR] at h
  | .nilm, b, v, h, hv => by cases b <;> simp only [eqR] at h <;> first | (cases hv; exact .nilm) | cases h
  | .mp i, b, v, h, hv => by
    cases b <;> simp only [eqR] at h <;> first | (cases hv with | mp hp => exact .mp (he _ _ h _ _ hp)) | cases h
  | .nilf, b, v, h, hv => by cases b <;> simp only [eqR] at h <;> first | (cases hv; exact .nilf) | cases h
  | .fn f x y, b, v, h, hv => by
    cases b <;> simp only [eqR] at h <;> first
      | (obtain ⟨h1, h2⟩ := andB_true h; obtain ⟨h2, h3⟩ := andB_true h2; cases hv with | fn p q => rw [eqFn_true h1]; exact .fn (eqRs_VR2 he h2 p) (eqRs_VR2 he h3 q))
      | cases h
  | .tup x, b, v, h, hv => by
    cases b <;> simp only [eqR] at h <;> first | (cases hv with | tup p => exact .tup (eqRs_VR2 he h p)) | cases h
  | .nili, b, v, h, hv => by cases b <;> simp only [eqR] at h <;> first | (cases hv; exact .nili) | cases h
  | .iface t x, b, v, h, hv => by
    cases b <;> simp only [eqR] at h <;> first
      | (obtain ⟨h1, h2⟩ := andB_true h; cases hv with | iface p => rw [nbT h1]; exact .iface (eqR_VR2 he h2 p))
      | cases h
  | .nilp, b, v, h, hv => by cases b <;> simp only [eqR] at h <;> first | (cases hv; exact .nilp) | cases h
  | .nils, b, v, h, hv => by cases b <;> simp only [eqR] at h <;> first | (cases hv; exact .nils) | cases h
  | .agg x, b, v, h, hv => by
    cases b <;> simp only [eqR] at h <;> first | (cases hv with | agg p q => exact .agg (eqRs_VR2 he h p) q) | cases h
  | .ptr i j k, b, v, h, hv => by
    cases b <;> simp only [eqR] at h <;> first
      | (obtain ⟨h1, h2⟩ := andB_true h; obtain ⟨h2, h3⟩ := andB_true h2
         cases hv with | ptr hp => rw [nbT h2, nbT h3]; exact .ptr (he _ _ h1 _ _ hp))
      | cases h
  | .sl i j k l m x, b, v, h, hv => by
    cases b <;> simp only [eqR] at h <;> first
      | (obtain ⟨h1, h2⟩ := andB_true h; obtain ⟨h2, h3⟩ := andB_true h2; obtain ⟨h3, h4⟩ := andB_true h3; obtain ⟨h4, h5⟩ := andB_true h4; obtain ⟨h5, h6⟩ := andB_true h5
         cases hv with
         | sl hp g1 g2 g3 g4 g5 =>
           rw [nbT h2, nbT h3, nbT h4, nbT h5, eqBool_true h6]
           exact .sl (he _ _ h1 _ _ hp) g1 g2 g3 g4 g5)
      | cases h
  | .str i j, b, v, h, hv => by
    cases b <;> simp only [eqR] at h <;> first | (obtain ⟨h1, h2⟩ := andB_true h; cases hv with | str p => rw [nbT h1, nbT h2]; exact .str p) | cases h
  | .bool x, b, v, h, hv => by cases b <;> simp only [eqR] at h <;> first | (cases hv; rw [eqBool_true h]; exact .bool _) | cases h
  | .int k n, b, v, h, hv => by
    cases b <;> simp only [eqR] at h <;> first | (obtain ⟨h1, h2⟩ := andB_true h; cases hv; rw [isIntK_true h1, eqInt_true h2]; exact .int _ _) | cases h
theorem eqRs_VR2 (he : ∀ i j, e i j = true → ∀ ver p, φ j ver = some p → φ0 i ver = some p) : ∀ {a b : List AV} {v : List Value}, eqRs e a b = true → VRs φ ν b v → VRs φ0 ν' a v
  | [], b, v, h, hv => by cases b <;> simp only [eqRs] at h <;> first | (cases hv; exact .nil) | cases h
  | x :: l, b, v, h, hv => by
    cases b <;> simp only [eqRs] at h <;> first | (obtain ⟨h1, h2⟩ := andB_true h; cases hv with | cons p q => exact .cons (eqR_VR2 he h1 p) (eqRs_VR2 he h2 q)) | cases h
end
end
def insC (lim : Nat) (ρ : List Nat) (h : H) : List (Option AB) → List Nat → Bool
  | [], [] => true
  | some b :: l, j :: q => bif Nat.ble h.ro.lim j then bif Nat.blt j h.next then T4.getK HD j h.bl fun b' => andB (eqCB (relIn lim ρ) b b') (insC lim ρ h l q) else false else false
  | none :: l, j :: q => bif Nat.ble h.ro.lim j then insC lim ρ h l q else false
  | _, _ => false
structure MemoW where
  args : List AV
  ins : List (Option AB)
  src : List (Nat × Nat)
  s : Nat
  fz : Nat
  opn : Bool
  el : TypeId
  row : List AV
  ps : Nat
  res : AV
  k : Nat
  nb : AB
  pos : Nat
  ver : Nat
  off : Nat
  len : Nat
  mc : Nat
  fz1 : Nat
  opn1 : Bool
def MemoW.st (m : MemoW) : AB := .cells m.s m.s m.s m.fz m.opn m.el (row1 m.row)
def MemoW.all (m : MemoW) : List (Option AB) := m.ins ++ [some m.st]
def MemoW.h0 (m : MemoW) (gs : List Gl) (lim : Nat) : H := ⟨[], ⟨lim + m.ins.length, []⟩, 1024, insHeapO lim m.all (glHeap gs)⟩
def slB : AV → Bool
  | .nils => true
  | .sl _ _ _ _ _ _ => true
  | _ => false
def isSym : AV → Bool
  | .sym .u8 s => Nat.beq s 1000
  | _ => false
def putL (x : AV) : Nat → List AV → List AV
  | _, [] => []
  | 0, _ :: l => x :: l
  | i + 1, a :: l => a :: putL x i l
def rotL : List Nat → List Nat
  | [] => []
  | a :: l => l ++ [a]
end
end Go.Abs

/-
  A verified evaluator: what is known of symbols, put together: rules that hold, over every program.
-/
namespace Go.Abs
open Go.ChangeShapes
theorem Rule.rem_ok {P : Program} {ν : Nu} {s : Nat} {c r : Int} (hs : s < 1000) (h0 : 0 ≤ ν.f s) (h1 : ν.f s ≤ 255) (hc : 0 < c) (hc2 : c ≤ 255) (hr : ν.f s % c = r) : (Rule.mk .rem .u8 s .u8 c (.int .u8 r)).Ok P ν := by
  refine ⟨hs, fun t w => ⟨.int .u8 r, ?_, fun φ => .int _ _⟩⟩
  have h1 : ¬ (c = 0) := by omega
  simp [binOp, Op.intDiv, h1, Int.tmod_eq_emod_of_nonneg h0, hr]
theorem Rule.gtr_ok {P : Program} {ν : Nu} {s : Nat} {K : IntKind} {c : Int} (hs : s < 1000) (h : c < ν.f s) : (Rule.mk .gtr K s K c (.bool true)).Ok P ν := by
  refine ⟨hs, fun t w => ⟨.bool true, ?_, fun φ => .bool _⟩⟩
  simp [binOp, Op.intCmp, h]
theorem Rule.conv_ok {P : Program} {ν : Nu} {s s' : Nat} (hs : s < 1000) (hs' : s' < 1000) (h0 : 0 ≤ ν.f s) (h1 : ν.f s ≤ 255) (h : ν.f s' = ν.f s) : (Rule.conv .u8 s .i64 s').Ok P ν := by
  refine ⟨hs, hs', ?_⟩
  rw [h]
  exact wrap_small .i64 _ (by simp [loK]; omega) (by simp [hiK]; omega)
theorem Nu.val_slice {ν : Nu} {s : Nat} {K : IntKind} {a : Option Addr} {l c : Nat} (hs : 1000 ≤ s ∧ s < 2000) (h : ν.v s = .slice a l c) : ν.val K s = .slice a l c := by
  unfold Nu.val
  rw [if_neg (by omega), if_pos hs.2, h]
theorem Nu.val_ptr {ν : Nu} {s : Nat} {K : IntKind} {a : Option Addr} (hs : 1000 ≤ s ∧ s < 2000) (h : ν.v s = .pointer a) : ν.val K s = .pointer a := by
  unfold Nu.val
  rw [if_neg (by omega), if_pos hs.2, h]
theorem Rule.len_ok {P : Program} {ν : Nu} {s : Nat} {K : IntKind} {t e : TypeId} {a : Option Addr} {l c : Nat} (hs : 1000 ≤ s ∧ s < 2000) (h : ν.v s = .slice a l c) (hd : P.underlying t = some (.slice e)) {av : AV} (hv : ∀ φ, VR φ ν av (goInt l)) :
    (Rule.len K s t av).Ok P ν := by
  intro w rt ts
  refine ⟨goInt l, ?_, hv⟩
  rw [Nu.val_slice hs h]
  simp [Builtin.len_, run_underlying' hd]
theorem Rule.ld_ok {P : Program} {ν : Nu} {s : Nat} {K : IntKind} {t : TypeId} {d : TypeDesc} {inf : TypeInfo} {a : Addr} {vs : List Value} (hs : 1000 ≤ s ∧ s < 2000) (h : ν.v s = .pointer (some a)) (hd : P.underlying t = some d) (hi : P.info? t = some inf) (hag : isAggD d = true)
    (hl : vs.length = inf.size) (hc : ∀ w : World, (∀ b o, (b, o) ∈ ν.G → w.heap[b]? = some o) → ∀ i v, vs[i]? = some v → w.cell? (a.add i) = some v) {cs : List AV} (hv : ∀ φ, VRs φ ν cs vs) (h1 : ∀ v ∈ vs, v.oneCell' = true) :
    (Rule.ld K s t (.agg cs)).Ok P ν := by
  intro w hw
  refine ⟨.agg ⟨vs⟩, ?_, fun φ => .agg (hv φ) h1⟩
  rw [Nu.val_ptr hs h]
  have := run_loadCells_list (P := P) w a vs (hc w hw)
  simp only [Instr.loadAt, Instr.sureAddr, loadVar, Sem.run_bind, run_isAgg' hd, Result.andThen_ok, hag, if_true, run_sizeOf' hi, ← hl, this, Sem.run_pure]
theorem Rule.ixs_ok {P : Program} {ν : Nu} {s s' n : Nat} {K : IntKind} {t e : TypeId} {a : Addr} {l c : Nat} (hs : 1000 ≤ s ∧ s < 2000) (hs' : 1000 ≤ s' ∧ s' < 2000) (h : ν.v s = .slice (some a) l c) (hl : n < l) {inf : TypeInfo} (h' : ν.v s' = .pointer (some (a.add (n * inf.size)))) (hd : P.underlying t = some (.slice e)) (hi : P.info? e = some inf) :
    (Rule.ix K s t n s').Ok P ν := by
  intro w J
  rw [Nu.val_slice hs h, Nu.val_ptr hs' h']
  simp [Instr.indexAt, asIntOf, run_underlying' hd, run_sizeOf' hi]
  exact fun h2 => absurd h2 (by omega)
theorem Rule.ixa_ok {P : Program} {ν : Nu} {s s' n : Nat} {K : IntKind} {t e : TypeId} {a : Addr} {l : Nat} (hs : 1000 ≤ s ∧ s < 2000) (hs' : 1000 ≤ s' ∧ s' < 2000) (h : ν.v s = .pointer (some a)) (hl : n < l) {inf : TypeInfo} (h' : ν.v s' = .pointer (some (a.add (n * inf.size)))) (hd : P.underlying t = some (.array l e)) (hi : P.info? e = some inf) :
    (Rule.ix K s t n s').Ok P ν := by
  intro w J
  rw [Nu.val_ptr hs h, Nu.val_ptr hs' h']
  simp [Instr.indexAt, Instr.sureAddr, asIntOf, run_underlying' hd, run_sizeOf' hi]
  exact fun h2 => absurd h2 (by omega)
theorem Rule.ld1_ok {P : Program} {ν : Nu} {s : Nat} {K : IntKind} {t : TypeId} {d : TypeDesc} {a : Addr} {v : Value} (hs : 1000 ≤ s ∧ s < 2000) (h : ν.v s = .pointer (some a)) (hd : P.underlying t = some d) (hag : isAggD d = false)
    (hc : ∀ w : World, (∀ b o, (b, o) ∈ ν.G → w.heap[b]? = some o) → w.cell? a = some v) {av : AV} (hv : ∀ φ, VR φ ν av v) :
    (Rule.ld K s t av).Ok P ν := by
  intro w hw
  refine ⟨v, ?_, hv⟩
  rw [Nu.val_ptr hs h]
  simp only [Instr.loadAt, Instr.sureAddr, loadVar, Sem.run_bind, run_isAgg' hd, Result.andThen_ok, hag, Sem.run_pure]
  simp [hc w hw]
end Go.Abs

/-
  A verified evaluator: a piece of code run by itself from a state that is known in part (for rounds of loops that are walked by hand); over every program.
-/
namespace Go.Abs
set_option linter.unusedVariables false
noncomputable section
theorem FR.ofUnk {φ : Phi} {ν : Nu} {L N : Nat} {tmps : Array Value} (hs : tmps.size = N) (hg : GP φ) : FR φ ν L N (FT.unk L) tmps :=
  ⟨hs, fun i hi => ⟨tmps[i]'(by omega), by simp [hs, hi], by rw [FT.get_unk]; exact .unk _⟩, hg⟩
theorem FR.know {φ : Phi} {ν : Nu} {L N : Nat} {ts : FT L} {tmps : Array Value} (h : FR φ ν L N ts tmps) (hN : N ≤ 4 ^ L) {d : Nat} (hd : d < N) {a : AV} {v : Value} (hv : tmps.getD d undef = v) (hr : VR φ ν a v) : FR φ ν L N (FT.put L d a ts) tmps := by
  refine ⟨h.size, fun i hi => ?_, h.gp⟩
  rw [FT.get_put L d i (by omega) (by omega)]
  by_cases e : d = i
  · subst e
    rw [if_pos rfl]
    refine ⟨v, ?_, hr⟩
    have hlt : d < tmps.size := by rw [h.size]; exact hd
    rw [Array.getD_eq_getD_getElem?, Array.getElem?_eq_getElem hlt] at hv
    rw [Array.getElem?_eq_getElem hlt]
    exact congrArg some hv
  · rw [if_neg e]
    exact h.slot i hi
end
end Go.Abs

/-
  A verified evaluator: slices of tokens at any place of memory, as symbols: what is known of their first elements, as rules; over every program.
-/
namespace Go.Abs
open Go.ChangeShapes
set_option linter.unusedVariables false
structure TokTy (P : Program) (tS tT tK tX : TypeId) : Prop where
  sl : P.underlying tS = some (.slice tT)
  inf : ∃ i, P.info? tT = some i ∧ i.size = 5
  st : ∃ fs g0 g1, P.underlying tT = some (.struct fs) ∧ fs[0]? = some g0 ∧ fs[1]? = some g1 ∧ g0.offset = 0 ∧ g1.offset = 1 ∧ sizePos P g0.type = true ∧ sizePos P g1.type = true
  kd : ∃ d, P.underlying tK = some d ∧ isAggD d = false
  tx : ∃ d, P.underlying tX = some d ∧ isAggD d = false
structure TokAt (ν : Nu) (B M b q L cap n : Nat) : Prop where
  rb : 1000 ≤ B ∧ B + 300 ≤ 2000
  rn : n ≤ 20 ∧ n ≤ L ∧ L ≤ cap
  rm : M + 20 < 1000
  sl : ∀ k, k < n → ν.v (B + k) = .slice (some ⟨b, q + 5 * k, none⟩) (L - k) (cap - k)
  pt : ∀ i, i < n → ν.v (B + 100 + i) = .pointer (some ⟨b, q + 5 * i, none⟩)
  fl : ∀ i f, i < n → f < 2 → ν.v (B + 200 + 5 * i + f) = .pointer (some ⟨b, q + 5 * i + f, none⟩)
  ln : ∀ k, k < n → ν.f (M + k) = ((L - k : Nat) : Int)
def tkAV (t : Nat × Nat × Nat) : AV := .agg [.int .u8 (.ofNat t.1), .str t.2.1 t.2.2, .unk, .unk, .unk]
structure TokCells (C : Nat → Value) (tks : List (Nat × Nat × Nat)) : Prop where
  one : ∀ j, (C j).oneCell' = true
  tok : ∀ i t, tks[i]? = some t → C (5 * i) = .int .u8 (.ofNat t.1) ∧ ∃ s, C (5 * i + 1) = .string s ∧ IsStr t.2.1 t.2.2 s
def tokRulesI (tT tK tX B : Nat) : Nat → List (Nat × Nat × Nat) → List Rule
  | _, [] => []
  | i, t :: l => .fa .i64 (B + 100 + i) tT 0 (B + 200 + 5 * i) :: .fa .i64 (B + 100 + i) tT 1 (B + 200 + 5 * i + 1) :: .ld .i64 (B + 100 + i) tT (tkAV t) :: .ld .i64 (B + 200 + 5 * i) tK (.int .u8 (.ofNat t.1)) ::
    .ld .i64 (B + 200 + 5 * i + 1) tX (.str t.2.1 t.2.2) :: tokRulesI tT tK tX B (i + 1) l
def tokIxI (tS B k : Nat) : Nat → List Rule
  | 0 => []
  | j + 1 => .ix .i64 (B + k) tS j (B + 100 + (k + j)) :: tokIxI tS B k j
def tokMkI (M k : Nat) : Nat → List Rule
  | 0 => []
  | j + 1 => .mk .eql .i64 (M + k) .i64 (.ofNat j) (.bool false) :: tokMkI M k j
def tokEnd (tS B M n : Nat) (ex : Bool) (k : Nat) : List Rule :=
  (if ex then [.len .i64 (B + k) tS (.int .i64 (.ofNat (n - k)))] else [.len .i64 (B + k) tS (.sym .i64 (M + k)), .rng .lss .i64 (M + k) 0 (n - k) (.bool true), .rng .eql .i64 (M + k) 0 (n - k) (.bool false)] ++ tokMkI M k (n - k))
    ++ (.sl .i64 B tS k none (B + k) :: tokIxI tS B k (n - k))
def tokEnds (tS B M n : Nat) (ex : Bool) : Nat → List Rule
  | 0 => []
  | k + 1 => tokEnd tS B M n ex k ++ tokEnds tS B M n ex k
def tokRules (tS tT tK tX B M : Nat) (ex : Bool) (tks : List (Nat × Nat × Nat)) : List Rule :=
  tokEnds tS B M tks.length ex tks.length ++ tokRulesI tT tK tX B 0 tks
theorem Rule.sl_ok {P : Program} {ν : Nu} {s s' k : Nat} {K : IntKind} {t e : TypeId} {b q L cap : Nat} {inf : TypeInfo} (hs : 1000 ≤ s ∧ s < 2000) (hs' : 1000 ≤ s' ∧ s' < 2000) (h : ν.v s = .slice (some ⟨b, q, none⟩) L cap) (h' : ν.v s' = .slice (some ⟨b, q + k * inf.size, none⟩) (L - k) (cap - k))
    (hd : P.underlying t = some (.slice e)) (hi : P.info? e = some inf) (hk : k < L) (hL : L ≤ cap) : (Rule.sl K s t k none s').Ok P ν := by
  intro w vl vh hl hh
  have hh : vh = none := hh
  subst hh
  rw [Nu.val_slice hs h, Nu.val_slice hs' h']
  have hb := run_sliceBounds (P := P) (w := w) (b := true) (len := L) (cap := cap) (l := k) (h := L) (m := cap) (lo := vl) (hi := none) (mx := none) (by simp) rfl rfl hl (Nat.le_refl _) hL (by omega)
  simp [Instr.sliceAt, Instr.slice, run_underlying' hd, hb, run_sizeOf' hi, addr_add]
  omega
theorem Rule.fa_ok {P : Program} {ν : Nu} {s s' f : Nat} {K : IntKind} {t : TypeId} {b q : Nat} {fs : Array Field} {g : Field} (hs : 1000 ≤ s ∧ s < 2000) (hs' : 1000 ≤ s' ∧ s' < 2000) (h : ν.v s = .pointer (some ⟨b, q, none⟩)) (h' : ν.v s' = .pointer (some ⟨b, q + g.offset, none⟩))
    (hd : P.underlying t = some (.struct fs)) (hg : fs[f]? = some g) (hp : sizePos P g.type = true) : (Rule.fa K s t f s').Ok P ν := by
  obtain ⟨inf, hinf, hsz⟩ := sizePos_true hp
  intro w
  rw [Nu.val_ptr hs h, Nu.val_ptr hs' h']
  simp [Instr.fieldAt, run_underlying' hd, hg, Instr.sureAddr, fieldPlace, run_sizeOf' hinf, hsz, addr_add]
theorem Rule.lss_ok {P : Program} {ν : Nu} {s hi : Nat} {K : IntKind} (hs : s < 1000) (h : (hi : Int) ≤ ν.f s) : (Rule.rng .lss K s 0 hi (.bool true)).Ok P ν := by
  refine ⟨hs, fun t w n _ hn => ⟨.bool true, ?_, fun φ => .bool _⟩⟩
  have : Int.ofNat n < ν.f s := by
    have e : Int.ofNat n = (n : Int) := rfl
    rw [e]; omega
  simp [binOp, Op.intCmp]
  omega
theorem Rule.eqlR_ok {P : Program} {ν : Nu} {s hi : Nat} {K : IntKind} (hs : s < 1000) (h : (hi : Int) ≤ ν.f s) : (Rule.rng .eql K s 0 hi (.bool false)).Ok P ν := by
  refine ⟨hs, fun t w n _ hn => ⟨.bool false, ?_, fun φ => .bool _⟩⟩
  have : Int.ofNat n ≠ ν.f s := by
    have e : Int.ofNat n = (n : Int) := rfl
    rw [e]; omega
  simp [binOp, Op.intCmp]
  omega
theorem Rule.eqlM_ok {P : Program} {ν : Nu} {s n : Nat} {K : IntKind} (hs : s < 1000) (h : (n : Int) < ν.f s) : (Rule.mk .eql K s K (.ofNat n) (.bool false)).Ok P ν := by
  refine ⟨hs, fun t w => ⟨.bool false, ?_, fun φ => .bool _⟩⟩
  have : ν.f s ≠ Int.ofNat n := by
    have e : Int.ofNat n = (n : Int) := rfl
    rw [e]; omega
  simp [binOp, Op.intCmp]
  omega
theorem tokMk_ok {P : Program} {ν : Nu} {M k : Nat} (hm : M + k < 1000) : ∀ j : Nat, (j : Int) ≤ ν.f (M + k) → ∀ r ∈ tokMkI M k j, r.Ok P ν
  | 0, _, r, hr => by cases hr
  | j + 1, hj, r, hr => by
    rcases List.mem_cons.1 hr with rfl | hr
    · exact Rule.eqlM_ok hm (by omega)
    · exact tokMk_ok hm j (by omega) r hr
section
variable {P : Program} {tS tT tK tX : TypeId} {ν : Nu} {B M b q L cap : Nat} {C : Nat → Value} {tks : List (Nat × Nat × Nat)}
theorem tokIx_ok (hT : TokTy P tS tT tK tX) {n k : Nat} (hA : TokAt ν B M b q L cap n) (hk : k < n) : ∀ j, k + j ≤ n → ∀ r ∈ tokIxI tS B k j, r.Ok P ν
  | 0, _, r, hr => by cases hr
  | j + 1, hj, r, hr => by
    obtain ⟨hb1, hb2⟩ := hA.rb
    obtain ⟨hn1, hn2, hn3⟩ := hA.rn
    rcases List.mem_cons.1 hr with rfl | hr
    · obtain ⟨i, hi, hsz⟩ := hT.inf
      refine Rule.ixs_ok (by omega) (by omega) (hA.sl k hk) (by omega) (inf := i) ?_ hT.sl hi
      rw [hA.pt (k + j) (by omega), addr_add, hsz, show q + 5 * (k + j) = q + 5 * k + j * 5 by omega]
    · exact tokIx_ok hT hA hk j (by omega) r hr
theorem tokEnd_ok (hT : TokTy P tS tT tK tX) {n k : Nat} (hA : TokAt ν B M b q L cap n) (hk : k < n) {ex : Bool} (hex : ex = true → L = n) : ∀ r ∈ tokEnd tS B M n ex k, r.Ok P ν := by
  obtain ⟨hb1, hb2⟩ := hA.rb
  obtain ⟨hn1, hn2, hn3⟩ := hA.rn
  have hm := hA.rm
  intro r hr
  rcases List.mem_append.1 hr with hr | hr
  · cases ex with
    | true =>
      rw [if_pos rfl, List.mem_singleton] at hr
      subst hr
      refine Rule.len_ok (by omega) (hA.sl k hk) hT.sl fun φ => ?_
      rw [hex rfl]
      exact .int _ _
    | false =>
      rw [if_neg (by simp)] at hr
      have hl : ((n - k : Nat) : Int) ≤ ν.f (M + k) := by rw [hA.ln k hk]; omega
      rcases List.mem_append.1 hr with hr | hr
      rotate_left
      · exact tokMk_ok (by omega) _ hl r hr
      simp only [List.mem_cons, List.mem_nil_iff, or_false] at hr
      rcases hr with rfl | rfl | rfl
      · refine Rule.len_ok (by omega) (hA.sl k hk) hT.sl fun φ => .sym _ _ ?_
        rw [Nu.val_num _ _ (by omega), hA.ln k hk]
        rfl
      · exact Rule.lss_ok (by omega) hl
      · exact Rule.eqlR_ok (by omega) hl
  · rcases List.mem_cons.1 hr with rfl | hr
    · obtain ⟨i, hi, hsz⟩ := hT.inf
      have h0 := hA.sl 0 (by omega)
      simp only [Nat.add_zero, Nat.mul_zero, Nat.sub_zero] at h0
      refine Rule.sl_ok (inf := i) (by omega) (by omega) h0 ?_ hT.sl hi (by omega) hn3
      rw [hA.sl k hk, hsz, Nat.mul_comm 5 k]
    · exact tokIx_ok hT hA hk (n - k) (by omega) r hr
theorem tokEnds_ok (hT : TokTy P tS tT tK tX) {n : Nat} (hA : TokAt ν B M b q L cap n) {ex : Bool} (hex : ex = true → L = n) : ∀ k, k ≤ n → ∀ r ∈ tokEnds tS B M n ex k, r.Ok P ν
  | 0, _, r, hr => by cases hr
  | k + 1, hk, r, hr => by
    rcases List.mem_append.1 hr with hr | hr
    · exact tokEnd_ok hT hA (by omega) hex r hr
    · exact tokEnds_ok hT hA hex k (by omega) r hr
theorem tokRulesI_ok (hT : TokTy P tS tT tK tX) {n : Nat} (hA : TokAt ν B M b q L cap n) (hC : TokCells C tks) (hn : tks.length = n)
    (hw : ∀ w : World, (∀ b o, (b, o) ∈ ν.G → w.heap[b]? = some o) → ∀ j, j < 5 * n → w.cell? ⟨b, q + j, none⟩ = some (C j)) : ∀ (l : List (Nat × Nat × Nat)) (i : Nat), tks.drop i = l → ∀ r ∈ tokRulesI tT tK tX B i l, r.Ok P ν
  | [], i, _, r, hr => by cases hr
  | t :: l, i, hl, r, hr => by
    obtain ⟨hb1, hb2⟩ := hA.rb
    obtain ⟨hn1, hn2, hn3⟩ := hA.rn
    have ht : tks[i]? = some t := by
      have := congrArg (·[0]?) hl
      simpa using this
    have hi : i < n := by rw [← hn]; exact (List.getElem?_eq_some_iff.1 ht).1
    obtain ⟨c0, s, c1, hs⟩ := hC.tok i t ht
    obtain ⟨fs, g0, g1, hfs, hg0, hg1, ho0, ho1, hp0, hp1⟩ := hT.st
    have f0 := hA.fl i 0 hi (by omega)
    have f1 := hA.fl i 1 hi (by omega)
    simp only [Nat.add_zero] at f0
    have e0 := hA.pt i hi
    unfold tokRulesI at hr
    simp only [List.mem_cons] at hr
    rcases hr with rfl | rfl | rfl | rfl | rfl | hr
    · refine Rule.fa_ok (g := g0) (by omega) (by omega) e0 ?_ hfs hg0 hp0
      rw [f0, ho0]; rfl
    · refine Rule.fa_ok (g := g1) (by omega) (by omega) e0 ?_ hfs hg1 hp1
      rw [f1, ho1]
    · obtain ⟨inf, hinf, hsz⟩ := hT.inf
      refine Rule.ld_ok (vs := [C (5 * i), C (5 * i + 1), C (5 * i + 2), C (5 * i + 3), C (5 * i + 4)]) (by omega) e0 hfs hinf rfl hsz.symm ?_ ?_ ?_
      · intro w hG j v hj
        have key : ∀ j, j < 5 → w.cell? ((⟨b, q + 5 * i, none⟩ : Addr).add j) = some (C (5 * i + j)) := fun j hj => by
          rw [addr_add, show q + 5 * i + j = q + (5 * i + j) by omega]
          exact hw w hG _ (by omega)
        match j, hj with
        | 0, hj => simp at hj; subst hj; exact key 0 (by omega)
        | 1, hj => simp at hj; subst hj; exact key 1 (by omega)
        | 2, hj => simp at hj; subst hj; exact key 2 (by omega)
        | 3, hj => simp at hj; subst hj; exact key 3 (by omega)
        | 4, hj => simp at hj; subst hj; exact key 4 (by omega)
        | j + 5, hj => simp at hj
      · intro φ
        rw [c0, c1]
        exact .cons (.int _ _) (.cons (.str hs) (.cons (.unk _) (.cons (.unk _) (.cons (.unk _) .nil))))
      · intro v hv
        simp only [List.mem_cons, List.mem_nil_iff, or_false] at hv
        rcases hv with rfl | rfl | rfl | rfl | rfl <;> exact hC.one _
    · obtain ⟨d, hd, ha⟩ := hT.kd
      refine Rule.ld1_ok (v := .int .u8 (.ofNat t.1)) (by omega) f0 hd ha (fun w hG => ?_) fun φ => .int _ _
      rw [← c0]; exact hw w hG (5 * i) (by omega)
    · obtain ⟨d, hd, ha⟩ := hT.tx
      refine Rule.ld1_ok (v := .string s) (by omega) f1 hd ha (fun w hG => ?_) fun φ => .str hs
      rw [← c1]; exact hw w hG (5 * i + 1) (by omega)
    · refine tokRulesI_ok hT hA hC hn hw l (i + 1) ?_ r hr
      rw [← List.drop_drop, hl]; rfl
theorem tokRules_ok (hT : TokTy P tS tT tK tX) (hA : TokAt ν B M b q L cap tks.length) (hC : TokCells C tks) {ex : Bool} (hex : ex = true → L = tks.length)
    (hw : ∀ w : World, (∀ b o, (b, o) ∈ ν.G → w.heap[b]? = some o) → ∀ j, j < 5 * tks.length → w.cell? ⟨b, q + j, none⟩ = some (C j)) : SymOk P ν (tokRules tS tT tK tX B M ex tks) := by
  intro r hr
  rcases List.mem_append.1 hr with hr | hr
  · exact tokEnds_ok hT hA hex _ (Nat.le_refl _) r hr
  · exact tokRulesI_ok hT hA hC rfl hw tks 0 rfl r hr
end
theorem SymOk.append {P : Program} {ν : Nu} {S T : List Rule} (h : SymOk P ν S) (h' : SymOk P ν T) : SymOk P ν (S ++ T) := by
  intro r hr
  rcases List.mem_append.1 hr with hr | hr
  · exact h r hr
  · exact h' r hr
theorem SymOk.nil {P : Program} {ν : Nu} : SymOk P ν [] := fun _ h => by cases h
def tokV (B b q L cap : Nat) (s : Nat) : Value :=
  if s < B + 100 then .slice (some ⟨b, q + 5 * (s - B), none⟩) (L - (s - B)) (cap - (s - B)) else if s < B + 200 then .pointer (some ⟨b, q + 5 * (s - (B + 100)), none⟩) else .pointer (some ⟨b, q + (s - (B + 200)), none⟩)
def tokF (M L : Nat) (s : Nat) : Int := ((L - (s - M) : Nat) : Int)
theorem tokAt_of {ν : Nu} {B M b q L cap n : Nat} (rb : 1000 ≤ B ∧ B + 300 ≤ 2000) (rn : n ≤ 20 ∧ n ≤ L ∧ L ≤ cap) (rm : M + 20 < 1000) (hv : ∀ s, B ≤ s → s < B + 300 → ν.v s = tokV B b q L cap s) (hf : ∀ s, M ≤ s → s < M + 20 → ν.f s = tokF M L s) :
    TokAt ν B M b q L cap n := by
  refine ⟨rb, rn, rm, fun k hk => ?_, fun i hi => ?_, fun i f hi hf' => ?_, fun k hk => ?_⟩
  · rw [hv _ (by omega) (by omega)]
    unfold tokV
    rw [if_pos (by omega), show B + k - B = k by omega]
  · rw [hv _ (by omega) (by omega)]
    unfold tokV
    rw [if_neg (by omega), if_pos (by omega), show B + 100 + i - (B + 100) = i by omega]
  · rw [hv _ (by omega) (by omega)]
    unfold tokV
    rw [if_neg (by omega), if_neg (by omega), show B + 200 + 5 * i + f - (B + 200) = 5 * i + f by omega, ← Nat.add_assoc]
  · rw [hf _ (by omega) (by omega)]
    unfold tokF
    rw [show M + k - M = k by omega]
end Go.Abs

/-
  A verified evaluator: what a run by itself says of a real call, where the result holds no block; a heap with one block more; over every program.
-/
namespace Go.Abs
set_option linter.unusedVariables false
noncomputable section
open Go.RowKit (Below)
/-! ### values without blocks -/
def txB (l c : Nat) : ByteArray := ⟨(decL l c).toArray⟩
theorem IsStr.txB {l c : Nat} {b : ByteArray} (h : IsStr l c b) : b = Go.Abs.txB l c := by
  have := h.dec
  unfold Go.Abs.txB
  rw [← this]
def closed1 : AV → Option Value
  | .bool b => some (.bool b)
  | .int k n => some (.int k n)
  | .str l c => some (.string (txB l c))
  | .nils => some (.slice none 0 0)
  | _ => none
def closedL (c : AV → Option Value) : List AV → Option (List Value)
  | [] => some []
  | a :: l => match c a, closedL c l with
    | some v, some m => some (v :: m)
    | _, _ => none
def closed2 : AV → Option Value
  | .agg cs => match closedL closed1 cs with
    | some l => some (.agg ⟨l⟩)
    | none => none
  | a => closed1 a
def closed3 : AV → Option Value
  | .tup cs => match closedL closed2 cs with
    | some l => some (.tuple ⟨l⟩)
    | none => none
  | a => closed2 a
section
variable {φ : Phi} {ν : Nu}
theorem closed1_VR {a : AV} {v x : Value} (h : closed1 a = some v) (hx : VR φ ν a x) : x = v := by
  cases a <;> simp only [closed1] at h <;> try cases h
  all_goals cases hx
  all_goals first | rfl | (rename_i hs; rw [hs.txB])
theorem closedL_VRs {c : AV → Option Value} (hc : ∀ a v x, c a = some v → VR φ ν a x → x = v) : ∀ {l : List AV} {m xs : List Value}, closedL c l = some m → VRs φ ν l xs → xs = m
  | [], m, xs, h, hx => by
    cases hx
    simp only [closedL, Option.some.injEq] at h
    exact h
  | a :: l, m, xs, h, hx => by
    cases hx with
    | cons h1 h2 =>
    unfold closedL at h
    split at h
    · rename_i v m' e1 e2
      cases h
      rw [hc _ _ _ e1 h1, closedL_VRs hc e2 h2]
    · cases h
theorem closed2_VR {a : AV} {v x : Value} (h : closed2 a = some v) (hx : VR φ ν a x) : x = v := by
  unfold closed2 at h
  split at h
  · split at h
    · rename_i l e
      cases h
      cases hx with
      | agg h1 h2 => rw [closedL_VRs (fun a v x => closed1_VR) e h1]
    · cases h
  · exact closed1_VR h hx
theorem closed3_VR {a : AV} {v x : Value} (h : closed3 a = some v) (hx : VR φ ν a x) : x = v := by
  unfold closed3 at h
  split at h
  · split at h
    · rename_i l e
      cases h
      cases hx with
      | tup h1 => rw [closedL_VRs (fun a v x => closed2_VR) e h1]
    · cases h
  · exact closed2_VR h hx
end
/-! ### a run by itself -/
def isK (av a : AV) (_ : H) : Bool := eqR noB av a
def noK (_ : AV) (_ : H) : Bool := false
theorem said {P : Program} {ν : Nu} {t : T4 FnD TD} (ht : TblOk P ν t) {f : Nat} (hb : hasBody P f = true) {n : Nat} {h0 : H} {φ0 : Phi} {args : List AV} {vs : List Value} {av : AV} {v : Value} (hav : closed3 av = some v)
    (hrun : runF t n f args h0 (isK av) noK = true) {w : World} (hr : HR φ0 ν h0 w) (hlim : ∀ id ver p, φ0 id ver = some p → id < h0.ro.lim) (hv : VRs φ0 ν args vs) :
    Calls P f ⟨vs⟩ w fun e w' => e = .returned v ∧ Below w.heap.size w w' := by
  have hco := runF_ok ht n f args h0 (isK av) noK hrun φ0 w vs hr hv
  have key : ∀ e w', FPost φ0 ν h0.ro w h0.ds (isK av) noK e w' → e = .returned v ∧ Below w.heap.size w w' := by
    intro e w' hp
    cases e with
    | returned x =>
      obtain ⟨φ', a, h', hvr, hr', hx, _, _, hk⟩ := hp
      have hv := eqR_VR (φ0 := φ') (fun i j hij => by cases hij) (show eqR noB av a = true from hk) hvr
      exact ⟨by rw [closed3_VR hav hv], below_of_ext hx hlim⟩
    | panicked chain =>
      obtain ⟨φ', a, h', x, _, _, _, _, _, _, hk⟩ := hp
      cases hk
    | outgrown => exact hp.elim
  rcases hco with ⟨_, h2⟩ | ⟨x, w', h2, _⟩
  · exact h2.mono key
  · exfalso
    rw [hasBody_true hb] at h2
    cases h2
theorem said_any {P : Program} {ν : Nu} {t : T4 FnD TD} (ht : TblOk P ν t) {f : Nat} (hb : hasBody P f = true) {n : Nat} {h0 : H} {φ0 : Phi} {args : List AV} {vs : List Value} {k : AV → H → Bool}
    (hrun : runF t n f args h0 k noK = true) {w : World} (hr : HR φ0 ν h0 w) (hlim : ∀ id ver p, φ0 id ver = some p → id < h0.ro.lim) (hv : VRs φ0 ν args vs) :
    Calls P f ⟨vs⟩ w fun e w' => ∃ x φ' a h, e = .returned x ∧ VR φ' ν a x ∧ HR φ' ν h w' ∧ Ext h0.ro φ0 w φ' w' ∧ h.ro = h0.ro ∧ h.ds = h0.ds ∧ k a h = true ∧ Below w.heap.size w w' := by
  have hco := runF_ok ht n f args h0 k noK hrun φ0 w vs hr hv
  have key : ∀ e w', FPost φ0 ν h0.ro w h0.ds k noK e w' → ∃ x φ' a h, e = .returned x ∧ VR φ' ν a x ∧ HR φ' ν h w' ∧ Ext h0.ro φ0 w φ' w' ∧ h.ro = h0.ro ∧ h.ds = h0.ds ∧ k a h = true ∧ Below w.heap.size w w' := by
    intro e w' hp
    cases e with
    | returned x =>
      obtain ⟨φ', a, h', hvr, hr', hx, h1, h2, hk⟩ := hp
      exact ⟨x, φ', a, h', rfl, hvr, hr', hx, h1, h2, hk, below_of_ext hx hlim⟩
    | panicked chain =>
      obtain ⟨φ', a, h', x, _, _, _, _, _, _, hk⟩ := hp
      cases hk
    | outgrown => exact hp.elim
  rcases hco with ⟨_, h2⟩ | ⟨x, w', h2, _⟩
  · exact h2.mono key
  · exfalso
    rw [hasBody_true hb] at h2
    cases h2
/-! ### the heap at the start, and one block more -/
structure Xb where
  s : Nat
  n : Nat
  el : TypeId
  rows : RT (List AV) RD
def Xb.blk (x : Xb) : AB := .cells x.s (Nat.succ x.n) 0 0 true x.el x.rows
def h1Of (gs : List Gl) (lim : Nat) (x : Xb) : H := ⟨[], ⟨Nat.succ lim, []⟩, Nat.succ lim, T4.set HD lim x.blk (glHeap gs)⟩
def Xb.At (x : Xb) (W : World) (B : Nat) : Prop :=
  ∃ c fr, W.heap[B]? = some (.cells c x.el fr) ∧ x.n ≤ c.size ∧ ∀ j, j < x.n → ∃ v, c[j]? = some v ∧ v.oneCell' = true ∧ ∀ φ ν, VR φ ν (cellAt x.s x.rows j) v
def phi1 (gs : List Gl) (lim : Nat) (x : Xb) (B sz : Nat) : Phi := fun id ver => if id = lim then (if ver = x.n then some ⟨B, sz, x.s, 0⟩ else none) else phiOf gs id ver
theorem Xb.At.below {x : Xb} {W W' : World} {B : Nat} (h : x.At W B) (hb : Below W.heap.size W W') : x.At W' B := by
  obtain ⟨c, fr, h1, h2, h3⟩ := h
  exact ⟨c, fr, by rw [hb.block B (Array.getElem?_eq_some_iff.1 h1).1]; exact h1, h2, h3⟩
theorem h1_HR {ν : Nu} {gs : List Gl} {lim : Nat} {x : Xb} {w : World} {B : Nat} (h : HR (phiOf gs) ν (h0Of gs lim) w) (hx : x.At w B) (hs : 0 < x.s) (hlim : Nat.succ lim ≤ 4 ^ HD) (hg : ∀ q ∈ gs, q.g < lim ∧ q.g ≠ B) :
    ∃ sz, HR (phi1 gs lim x B sz) ν (h1Of gs lim x) w ∧ (∀ id ver p, phi1 gs lim x B sz id ver = some p → id < (h1Of gs lim x).ro.lim) ∧ phi1 gs lim x B sz lim x.n = some ⟨B, sz, x.s, 0⟩ := by
  obtain ⟨c, fr, hb, hn, hc⟩ := hx
  have hpl : ∀ id ver p, phiOf gs id ver = some p → id < lim ∧ p.blk ≠ B := fun id ver p hp => by
    obtain ⟨q, hq, h1, h2, rfl⟩ := phiOf_some hp
    exact ⟨by rw [← h1]; exact (hg q hq).1, (hg q hq).2⟩
  have some1 : ∀ {id ver p}, phi1 gs lim x B c.size id ver = some p → (id = lim ∧ ver = x.n ∧ p = ⟨B, c.size, x.s, 0⟩) ∨ (id < lim ∧ phiOf gs id ver = some p) := by
    intro id ver p hp
    unfold phi1 at hp
    split at hp
    · rename_i e1
      split at hp
      · rename_i e2; cases hp; exact .inl ⟨e1, e2, rfl⟩
      · cases hp
    · exact .inr ⟨(hpl _ _ _ hp).1, hp⟩
  have old : ∀ {id ver p}, id < lim → phiOf gs id ver = some p → phi1 gs lim x B c.size id ver = some p := fun hl hp => by
    unfold phi1; rw [if_neg (by omega)]; exact hp
  have le : (phiOf gs).le (phi1 gs lim x B c.size) := fun id ver p hp => old (hpl _ _ _ hp).1 hp
  refine ⟨c.size, ⟨?_, ?_, ?_, hlim, Nat.le_refl _, GP.mono h.gp le, ?_, trivial⟩, fun id ver p hp => ?_, by unfold phi1; rw [if_pos rfl, if_pos rfl]⟩
  · intro id ver p hp
    rcases some1 hp with ⟨rfl, rfl, rfl⟩ | ⟨h1, h2⟩
    · exact ⟨Nat.lt_succ_self _, (Array.getElem?_eq_some_iff.1 hb).1⟩
    · exact ⟨Nat.lt_succ_of_lt h1, (h.dom _ _ _ h2).2⟩
  · intro id ver p id' ver' p' hp hp' e
    rcases some1 hp with ⟨rfl, rfl, rfl⟩ | ⟨h1, h2⟩ <;> rcases some1 hp' with ⟨rfl, rfl, rfl⟩ | ⟨h1', h2'⟩
    · rfl
    · exact absurd e.symm (hpl _ _ _ h2').2
    · exact absurd e (hpl _ _ _ h2).2
    · exact h.inj _ _ _ _ _ _ h2 h2' e
  · intro id b hid hbk
    have hid : id < Nat.succ lim := hid
    have hbk : T4.get HD id (T4.set HD lim x.blk (glHeap gs)) = some b := hbk
    rw [T4.get_set HD lim id (by omega) (by omega)] at hbk
    by_cases e : lim = id
    · rw [if_pos e] at hbk
      cases hbk
      subst e
      refine ⟨trivial, Nat.zero_le _, hs, fun ver p hp => ?_⟩
      rcases some1 hp with ⟨_, rfl, rfl⟩ | ⟨h1, _⟩
      · refine ⟨Nat.le_succ _, rfl, fun _ => ⟨c, fr, hb, rfl, hn, fun j hj => ?_, fun e => by omega, fun e => by omega⟩⟩
        obtain ⟨v, e1, e2, e3⟩ := hc j hj
        exact ⟨v, e1, e2, e3 _ _⟩
      · omega
    · rw [if_neg e] at hbk
      have hbr := h.bl id b (show id < lim by omega) hbk
      cases b with
      | cells s n lw fz opn el rows =>
        obtain ⟨_, h1, h2, h3⟩ := hbr
        refine ⟨trivial, h1, h2, fun ver p hp => ?_⟩
        rcases some1 hp with ⟨rfl, _, _⟩ | ⟨_, h5⟩
        · exact absurd rfl e
        · obtain ⟨g1, g2, g3⟩ := h3 ver p h5
          refine ⟨g1, g2, fun hl => ?_⟩
          obtain ⟨c', fr', k1, k2, k3, k4, k5, k6⟩ := g3 hl
          exact ⟨c', fr', k1, k2, k3, fun j hj => let ⟨v, q1, q2, q3⟩ := k4 j hj; ⟨v, q1, q2, q3.mono le⟩, k5, k6⟩
      | mapo es clock =>
        obtain ⟨q, hq, h1, e2⟩ := glHeap_get (fun q hq => by have := (hg q hq).1; omega) (by omega) hbk
        cases e2
      | siter len code pos =>
        obtain ⟨q, hq, h1, e2⟩ := glHeap_get (fun q hq => by have := (hg q hq).1; omega) (by omega) hbk
        cases e2
      | dfr o =>
        obtain ⟨q, hq, h1, e2⟩ := glHeap_get (fun q hq => by have := (hg q hq).1; omega) (by omega) hbk
        cases e2
  · intro b o hbo
    refine ⟨(h.gl b o hbo).1, fun id ver p hp e => ?_⟩
    rcases some1 hp with ⟨rfl, _, _⟩ | ⟨h1, _⟩
    · exact Nat.lt_succ_self _
    · exact Nat.lt_succ_of_lt h1
  · rcases some1 hp with ⟨rfl, _, _⟩ | ⟨h1, _⟩
    · exact Nat.lt_succ_self _
    · exact Nat.lt_succ_of_lt h1
end
end Go.Abs

/-
  A verified evaluator: a structure of twelve cells, of which one is a slice of rows that are known: what a run that gives it says of the world; over every program.
-/
namespace Go.Abs
set_option linter.unusedVariables false
noncomputable section
open Go.RowKit (Below)
def rowsB (x : Xb) (rows : RT (List AV) RD) : Nat → Bool
  | 0 => true
  | k + 1 => andB (match RT.get k x.rows with
    | none => true
    | some pr => match RT.get k rows with
      | some r => eqRs noB pr r
      | none => false) (rowsB x rows k)
theorem rowsB_true {x : Xb} {rows : RT (List AV) RD} : ∀ {k : Nat}, rowsB x rows k = true → ∀ i, i < k → ∀ pr, RT.get i x.rows = some pr → ∃ r, RT.get i rows = some r ∧ eqRs noB pr r = true
  | 0, _, i, hi, _, _ => by omega
  | k + 1, h, i, hi, pr, hp => by
    obtain ⟨h1, h2⟩ := andB_true (show andB _ (rowsB x rows k) = true from h)
    by_cases e : i = k
    · subst e
      rw [hp] at h1
      dsimp only at h1
      split at h1
      · rename_i r hr; exact ⟨r, hr, h1⟩
      · cases h1
    · exact rowsB_true h2 i (by omega) pr hp
theorem eqRs_getU {φ : Phi} {ν : Nu} : ∀ {pr r : List AV} (i : Nat) {v : Value}, eqRs noB pr r = true → VR φ ν (r.getD i .unk) v → ∀ φ' ν', VR φ' ν' (pr.getD i .unk) v
  | [], r, i, v, h, hv => fun _ _ => by simpa using VR.unk v
  | p :: pr, [], i, v, h, hv => by simp [eqRs] at h
  | p :: pr, a :: r, 0, v, h, hv => fun φ' ν' => by
    obtain ⟨h1, _⟩ := andB_true (show andB (eqR noB p a) (eqRs noB pr r) = true by simpa [eqRs] using h)
    exact eqR_VR2 (fun i j hij => by cases hij) h1 (by simpa using hv)
  | p :: pr, a :: r, i + 1, v, h, hv => fun φ' ν' => by
    obtain ⟨_, h2⟩ := andB_true (show andB (eqR noB p a) (eqRs noB pr r) = true by simpa [eqRs] using h)
    simpa using eqRs_getU i h2 (by simpa using hv) φ' ν'
def z3 : AV := .agg [.int .i64 (.ofNat 0), .int .i64 (.ofNat 0), .int .i64 (.ofNat 0)]
def layB (x : Xb) (k len lim sz : Nat) (id ver off ln mc : Nat) (ex : Bool) (f n : AV) (h : H) : Bool :=
  andB (eqR noB z3 f) (andB (eqR noB (.int .i64 (.ofNat sz)) n) (andB (Nat.beq off 0) (andB (Nat.beq ln len) (andB (Nat.beq mc len) (andB ex (andB (Nat.ble lim id) (andB (Nat.beq ver x.n) (andB (Nat.blt id h.next) (match T4.get HD id h.bl with
    | some (.cells s n lw fz opn el rows) => andB (Nat.beq s x.s) (andB (Nat.beq el x.el) (andB (Nat.ble lw ver) (rowsB x rows k)))
    | _ => false)))))))))
def isSlB : AV → Bool
  | .sl _ _ _ _ _ _ => true
  | .nils => true
  | _ => false
theorem isSlB_VR {φ : Phi} {ν : Nu} {a : AV} {v : Value} (h : isSlB a = true) (hv : VR φ ν a v) : ∃ p l c, v = .slice p l c := by
  cases a <;> simp only [isSlB] at h <;> try cases h
  all_goals cases hv
  all_goals exact ⟨_, _, _, rfl⟩
def isStB : AV → Bool
  | .str _ _ => true
  | _ => false
theorem isStB_VR {φ : Phi} {ν : Nu} {a : AV} {v : Value} (h : isStB a = true) (hv : VR φ ν a v) : ∃ s, v = .string s := by
  cases a <;> simp only [isStB] at h <;> try cases h
  cases hv
  exact ⟨_, rfl⟩
def layK (x : Xb) (k len lim sz : Nat) (a : AV) (h : H) : Bool := match a with
  | .tup [.agg [a0, a1, a2, a3, a4, a5, a6, a7, a8, .sl id ver off ln mc ex, n, a11], f] => andB (isStB a0) (andB (isSlB a1) (andB (isSlB a2) (andB (isSlB a3) (andB (isSlB a4) (andB (isSlB a5) (andB (isSlB a6) (andB (isSlB a7) (andB (isSlB a8) (andB (isSlB a11) (layB x k len lim sz id ver off ln mc ex f n h))))))))))
  | _ => false
theorem layK_at {x : Xb} {k len lim sz : Nat} {a : AV} {h : H} (hk : layK x k len lim sz a h = true) {φ : Phi} {ν : Nu} {v : Value} {w : World} (hv : VR φ ν a v) (hr : HR φ ν h w) (hx : x.n ≤ k * x.s) (hs : 0 < x.s) (hlen : 0 < len) {gs : List Gl} (hle : (phiOf gs).le φ)
    (hg : ∀ q ∈ gs, q.g < lim ∧ ∃ p, phiOf gs q.g q.l.length = some p ∧ p.blk = q.g) :
    ∃ (s : ByteArray) (u : Nat → Option Addr × Nat × Nat) (B : Nat), v = .tuple #[.agg #[.string s, .slice (u 1).1 (u 1).2.1 (u 1).2.2, .slice (u 2).1 (u 2).2.1 (u 2).2.2, .slice (u 3).1 (u 3).2.1 (u 3).2.2, .slice (u 4).1 (u 4).2.1 (u 4).2.2, .slice (u 5).1 (u 5).2.1 (u 5).2.2, .slice (u 6).1 (u 6).2.1 (u 6).2.2,
      .slice (u 7).1 (u 7).2.1 (u 7).2.2, .slice (u 8).1 (u 8).2.1 (u 8).2.2, .slice (some ⟨B, 0, none⟩) len len, .int .i64 sz, .slice (u 11).1 (u 11).2.1 (u 11).2.2], .agg #[.int .i64 0, .int .i64 0, .int .i64 0]] ∧ x.At w B ∧ ∀ q ∈ gs, q.g ≠ B := by
  unfold layK at hk
  split at hk
  · rename_i a0 a1 a2 a3 a4 a5 a6 a7 a8 id ver off ln mc ex n a11 f
    obtain ⟨x0, hk⟩ := andB_true hk
    obtain ⟨x1, hk⟩ := andB_true hk
    obtain ⟨x2, hk⟩ := andB_true hk
    obtain ⟨x3, hk⟩ := andB_true hk
    obtain ⟨x4, hk⟩ := andB_true hk
    obtain ⟨x5, hk⟩ := andB_true hk
    obtain ⟨x6, hk⟩ := andB_true hk
    obtain ⟨x7, hk⟩ := andB_true hk
    obtain ⟨x8, hk⟩ := andB_true hk
    obtain ⟨x11, hk0⟩ := andB_true hk
    clear hk
    unfold layB at hk0
    obtain ⟨q1, k1⟩ := andB_true hk0
    clear hk0
    obtain ⟨q2, k2⟩ := andB_true k1
    clear k1
    obtain ⟨q3, k3⟩ := andB_true k2
    clear k2
    obtain ⟨q4, k4⟩ := andB_true k3
    clear k3
    obtain ⟨q5, k5⟩ := andB_true k4
    clear k4
    obtain ⟨q6, k6⟩ := andB_true k5
    clear k5
    obtain ⟨q7, k7⟩ := andB_true k6
    clear k6
    obtain ⟨q8, k8⟩ := andB_true k7
    clear k7
    obtain ⟨q9, k9⟩ := andB_true k8
    clear k8
    have q3 := nbT q3
    have q4 := nbT q4
    have q5 := nbT q5
    have q7 := nlT q7
    have q8 := nbT q8
    have q9 : id < h.next := by simpa [Nat.blt_eq] using q9
    subst q3 q4 q5 q6 q8
    split at k9
    · rename_i s n' lw fz opn el rows hget
      obtain ⟨r1, m1⟩ := andB_true k9
      obtain ⟨r2, m2⟩ := andB_true m1
      obtain ⟨r3, m3⟩ := andB_true m2
      clear k9 m1 m2
      have r1 := nbT r1
      have r2 := nbT r2
      have r3 := nlT r3
      subst r1 r2
      cases hv with | tup hv =>
      cases hv with | cons ha hv =>
      cases hv with | cons hf hv =>
      cases hv
      cases ha with | agg ha h1 =>
      cases ha with | cons g0 ha =>
      cases ha with | cons g1 ha =>
      cases ha with | cons g2 ha =>
      cases ha with | cons g3 ha =>
      cases ha with | cons g4 ha =>
      cases ha with | cons g5 ha =>
      cases ha with | cons g6 ha =>
      cases ha with | cons g7 ha =>
      cases ha with | cons g8 ha =>
      cases ha with | cons g9 ha =>
      cases ha with | cons g10 ha =>
      cases ha with | cons g11 ha =>
      cases ha
      have e1 := closed3_VR (φ := φ) (ν := ν) (a := z3) (v := .agg #[.int .i64 0, .int .i64 0, .int .i64 0]) rfl (eqR_VR2 (fun i j hij => by cases hij) q1 hf)
      have e2 := closed3_VR (φ := φ) (ν := ν) (a := .int .i64 (.ofNat sz)) (v := .int .i64 sz) rfl (eqR_VR2 (fun i j hij => by cases hij) q2 g10)
      subst e1 e2
      cases g9 with | @sl _ _ _ _ _ _ cap p off' hp hm hl hxx ho hf2 =>
      have hcap := hxx rfl
      have hoff := hf2 (by omega)
      subst hcap hoff
      obtain ⟨_, b1, b2, b3⟩ := hr.bl _ _ q9 hget
      obtain ⟨b4, b5, b6⟩ := b3 _ _ hp
      obtain ⟨c, fr, c1, c2, c3, c4, _, _⟩ := b6 r3
      obtain ⟨s0, rfl⟩ := isStB_VR x0 g0
      obtain ⟨p1, l1, c1', rfl⟩ := isSlB_VR x1 g1
      obtain ⟨p2, l2, c2', rfl⟩ := isSlB_VR x2 g2
      obtain ⟨p3, l3, c3', rfl⟩ := isSlB_VR x3 g3
      obtain ⟨p4, l4, c4', rfl⟩ := isSlB_VR x4 g4
      obtain ⟨p5, l5, c5', rfl⟩ := isSlB_VR x5 g5
      obtain ⟨p6, l6, c6', rfl⟩ := isSlB_VR x6 g6
      obtain ⟨p7, l7, c7', rfl⟩ := isSlB_VR x7 g7
      obtain ⟨p8, l8, c8', rfl⟩ := isSlB_VR x8 g8
      obtain ⟨p11, l11, c11', rfl⟩ := isSlB_VR x11 g11
      refine ⟨s0, fun i => [(none, 0, 0), (p1, l1, c1'), (p2, l2, c2'), (p3, l3, c3'), (p4, l4, c4'), (p5, l5, c5'), (p6, l6, c6'), (p7, l7, c7'), (p8, l8, c8'), (none, 0, 0), (none, 0, 0), (p11, l11, c11')].getD i (none, 0, 0), p.blk, rfl, ⟨c, fr, c1, c3, fun j hj => ?_⟩, fun q hq e => ?_⟩
      · obtain ⟨u, d1, d2, d3⟩ := c4 j hj
        refine ⟨u, d1, d2, fun φ' ν' => ?_⟩
        unfold cellAt
        have hjk : j / x.s < k := by rw [Nat.div_lt_iff_lt_mul hs]; omega
        cases hpr : RT.get (j / x.s) x.rows with
        | none => exact .unk _
        | some pr =>
          obtain ⟨r, k1, k2⟩ := rowsB_true m3 _ hjk pr hpr
          unfold cellAt at d3
          rw [k1] at d3
          exact eqRs_getU _ k2 d3 φ' ν'
      · obtain ⟨g1, p', g2, g3⟩ := hg q hq
        have := hr.inj _ _ _ _ _ _ (hle _ _ _ g2) hp (by rw [g3]; exact e)
        omega
    · cases k9
  · cases hk
end
end Go.Abs
