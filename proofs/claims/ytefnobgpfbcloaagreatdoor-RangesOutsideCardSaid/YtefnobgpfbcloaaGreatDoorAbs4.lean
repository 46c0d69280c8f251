/-
  A verified evaluator, text 4 of 4: code of the model compiled to closures over abstract values and run by the kernel; each theorem says that such a run speaks of every real run. It holds for every program; no condition.
-/
import Derived.Test.YtefnobgpfbcloaaGreatDoorAbs3
import Derived.Lib.AppendZeros
import Derived.Laws.IdiomStrings
import Derived.Laws.BytesArg
import Derived.Lib.Repeat
import Derived.Lib.SlTrimSet
set_option linter.unusedVariables false
set_option linter.unusedSimpArgs false

/-
  A verified evaluator: a range over strings.SplitSeq.
-/
namespace Go.Abs
noncomputable section

/-! ### a round -/
def roundPostO (P : Program) (l : Nat) (R : Ending → World → Prop) : Exit → Act → World → Prop
  | .normal, _, w => ∃ v w', (Instr.endRound l none).run P w = .ok v w' ∧ R (.returned v) w'
  | .ret, _, w => ∃ v w', (Instr.endRound l (some .ret)).run P w = .ok v w' ∧ R (.returned v) w'
  | .exit id, _, w => ∃ v w', (Instr.endRound l (some (.exit id))).run P w = .ok v w' ∧ R (.returned v) w'
  | .goto _, _, _ => False
  | .panic _, _, _ => False
  | .outgrown, _, _ => False

def asgPostO (next : Act → World → Prop) : Exit → Act → World → Prop
  | .normal, a, w => next a w
  | .outgrown, _, _ => False
  | _, _, _ => False

theorem roundW {P : Program} {n l : Nat} {f : FuncId} {tmps : Array Value} {assign body : Code} {w : World} {R : Ending → World → Prop}
    (h : assign.wpIn (FW (some l)) 1 P (asgPostO fun a₁ w₁ => ∃ w₂, (Instr.beginRound l).run P w₁ = .ok () w₂ ∧ body.wpIn (FW (some l)) 1 P (roundPostO P l R) a₁ w₂) { tmps := tmps, defers := [] } w) :
    RoundIn (FW none) n P l f tmps assign body w R := by
  refine ⟨trivial, fun c cs _ => ?_⟩
  let b : Frame := { (default : Frame) with fn := f, kind := .normal, roundOf := some l }
  have hb0 : Frame.round l f tmps assign body .normal = b.atR { tmps := tmps, defers := [] } [.code assign, .beginRound, .code body] := by
    simp [Frame.round, Frame.atR, b]
  obtain ⟨e, a₁, w₁, hq, harr⟩ := h b [.beginRound, .code body] (c :: cs) rfl trivial (roomW _ _)
  rw [← hb0] at harr
  have hst : ∀ {m m' : Machine}, StepsIn (Machine.fenced P (FW (some l))) P m m' → StepsIn (Machine.fenced P (FW none)) P m m' := fun h => stepsW.2 (stepsW.1 h)
  cases e with
  | normal =>
    obtain ⟨w₂, hbr, hbody⟩ := hq
    have s1 : StepsIn (Machine.fenced P (FW none)) P (lone (b.atR a₁ [.beginRound, .code body]) (c :: cs) w₁) (lone (b.atR a₁ [.code body]) (c :: cs) w₂) := stepsW.2 (.one (stepR_beginRound rfl hbr))
    obtain ⟨e₂, a₂, w₃, hq₂, harr₂⟩ := hbody b [] (c :: cs) rfl trivial (roomW _ _)
    cases e₂ with
    | normal =>
      obtain ⟨v, w₄, hend, hR⟩ := hq₂
      exact ⟨.returned v, w₄, hR, (StepsIn.trans (hst harr) s1).trans (StepsIn.trans (hst harr₂) (stepsW.2 (.one (stepR_round_end rfl rfl hend))))⟩
    | ret =>
      obtain ⟨v, w₄, hend, hR⟩ := hq₂
      obtain ⟨k₁, hs⟩ := harr₂.2 rfl
      exact ⟨.returned v, w₄, hR, (StepsIn.trans (hst harr) s1).trans (StepsIn.trans (hst hs) (stepsW.2 (.one (stepR_round_ret rfl rfl hend))))⟩
    | exit id =>
      obtain ⟨v, w₄, hend, hR⟩ := hq₂
      obtain ⟨k₁, hk, hs⟩ := harr₂.2 rfl rfl
      exact ⟨.returned v, w₄, hR, (StepsIn.trans (hst harr) s1).trans (StepsIn.trans (hst hs) (stepsW.2 (.one (stepR_round_exit rfl rfl hk hend))))⟩
    | goto t => exact hq₂.elim
    | panic chain => exact hq₂.elim
    | outgrown => exact hq₂.elim
  | exit id => exact hq.elim
  | goto t => exact hq.elim
  | ret => exact hq.elim
  | panic chain => exact hq.elim
  | outgrown => exact hq.elim

/-! ### an object that no id names -/
theorem HR.unm {φ : Phi} {ν : Nu} {h : H} {w : World} (hr : HR φ ν h w) {l : Nat} (hl : ∀ id ver p, φ id ver = some p → p.blk ≠ l) (hg : ∀ b o, (b, o) ∈ ν.G → b ≠ l) (o : Obj) : HR φ ν h { w with heap := w.heap.setIfInBounds l o } := by
  refine ⟨fun i v q hq => ⟨(hr.dom i v q hq).1, by simpa using (hr.dom i v q hq).2⟩, hr.inj, fun i x hi hx => ?_, hr.lim, hr.ro, hr.gp, fun b o' hb => ?_, hr.ub⟩
  · exact BR.keep φ.le_refl (fun _ _ h => h) (fun v q hq => Array.getElem?_setIfInBounds_ne (hl i v q hq).symm) (hr.bl i x hi hx)
  · obtain ⟨g1, g2⟩ := hr.gl b o' hb
    exact ⟨by rw [Array.getElem?_setIfInBounds_ne (hg b o' hb).symm]; exact g1, g2⟩

theorem Ext.unm {ro : RO} {φ φ' : Phi} {w w' : World} (h : Ext ro φ w φ' w') {l : Nat} (hl : w.heap.size ≤ l) (o : Obj) : Ext ro φ w φ' { w' with heap := w'.heap.setIfInBounds l o } :=
  ⟨h.le, by simpa using h.size, h.os, h.tape, h.output, h.img, fun b hb hn => by
    show (w'.heap.setIfInBounds l o)[b]? = _
    rw [Array.getElem?_setIfInBounds_ne (by omega)]; exact h.same b hb hn⟩

/-! ### reading single cells -/
def rdStr (id ver : Nat) (h : H) (k : Nat → Nat → Bool) : Bool := getB id ver h fun s _ _ _ _ rows => chk (Nat.blt 0 ver) (cellK s rows 0 fun v => vStr v k)
theorem rdStr_true {φ : Phi} {ν : Nu} {id ver : Nat} {h : H} {w : World} {k : Nat → Nat → Bool} (hr : HR φ ν h w) {p : PB} (hp : φ id ver = some p) (hk : rdStr id ver h k = true) :
    ∃ l c str, w.cell? ⟨p.blk, 0, none⟩ = some (.string str) ∧ IsStr l c str ∧ k l c = true := by
  obtain ⟨s, n, lw, fz, opn, el, rows, hb, hl, hs, hbr, hk⟩ := getB_true hr hp hk
  obtain ⟨c1, hk⟩ := chk_true hk
  rw [Nat.blt_eq] at c1
  have hk2 := cellK_true hk
  obtain ⟨l, c, e1, hk3⟩ := vStr_true hk2
  obtain ⟨_, _, hcc⟩ := hbr
  obtain ⟨cc, fr, hb2, _, _, hcell, _, _⟩ := hcc hl
  obtain ⟨v, hv, _, hvr⟩ := hcell 0 c1
  rw [e1] at hvr
  cases hvr with
  | str hst => exact ⟨l, c, _, by rw [cell?_of hb2]; exact hv, hst, hk3⟩

def strAt (id ver l c : Nat) (h : H) (x : Bool) : Bool := getB id ver h fun s n fz _ _ rows => chk (Nat.blt 0 ver) (chk (Nat.beq fz 0 && Nat.beq ver n) (cellK s rows 0 fun v => vStr v fun l' c' => chk (Nat.beq l l') (chk (Nat.beq c c') x)))
theorem strAt_true {φ : Phi} {ν : Nu} {id ver l c : Nat} {h : H} {w : World} {x : Bool} (hr : HR φ ν h w) {p : PB} (hp : φ id ver = some p) (hk : strAt id ver l c h x = true) :
    ∃ str, w.cell? ⟨p.blk, 0, none⟩ = some (.string str) ∧ IsStr l c str ∧ w.frozen? ⟨p.blk, 0, none⟩ = false ∧ x = true := by
  obtain ⟨s, n, lw, fz, opn, el, rows, hb, hl, hs, hbr, hk⟩ := getB_true hr hp hk
  obtain ⟨c1, hk⟩ := chk_true hk
  obtain ⟨c2, hk⟩ := chk_true hk
  rw [Nat.blt_eq] at c1
  rw [Bool.and_eq_true] at c2
  have hfz := Nat.eq_of_beq_eq_true c2.1
  have hvn := Nat.eq_of_beq_eq_true c2.2
  have hk2 := cellK_true hk
  obtain ⟨l', c', e1, hk3⟩ := vStr_true hk2
  obtain ⟨c3, hk4⟩ := chk_true hk3
  obtain ⟨c4, hk5⟩ := chk_true hk4
  have e3 := Nat.eq_of_beq_eq_true c3
  have e4 := Nat.eq_of_beq_eq_true c4
  obtain ⟨_, _, hcc⟩ := hbr
  obtain ⟨cc, fr, hb2, hsz, hv, hcell, hfr, _⟩ := hcc hl
  obtain ⟨v, hv0, _, hvr⟩ := hcell 0 c1
  rw [e1, ← e3, ← e4] at hvr
  cases hvr with
  | str hst =>
    refine ⟨_, by rw [cell?_of hb2]; exact hv0, hst, ?_, hk5⟩
    have := hfr hvn 0 (by omega) (by omega)
    simp [World.frozen?, hb2]
    omega

def intAt (id ver : Nat) (h : H) (x : Bool) : Bool := getB id ver h fun s _ _ _ _ rows => chk (Nat.blt 0 ver) (cellK s rows 0 fun v => vInt v fun K n => chk (isIntK K .i64) (chk (ieq n 0) x))
theorem intAt_true {φ : Phi} {ν : Nu} {id ver : Nat} {h : H} {w : World} {x : Bool} (hr : HR φ ν h w) {p : PB} (hp : φ id ver = some p) (hk : intAt id ver h x = true) :
    w.cell? ⟨p.blk, 0, none⟩ = some (.int .i64 0) ∧ x = true := by
  obtain ⟨s, n, lw, fz, opn, el, rows, hb, hl, hs, hbr, hk⟩ := getB_true hr hp hk
  obtain ⟨c1, hk⟩ := chk_true hk
  rw [Nat.blt_eq] at c1
  have hk2 := cellK_true hk
  obtain ⟨K, m, e1, hk3⟩ := vInt_true hk2
  obtain ⟨c3, hk4⟩ := chk_true hk3
  obtain ⟨c4, hk5⟩ := chk_true hk4
  rw [ieq_eq] at c4
  have c4 : m = 0 := by simpa using c4
  obtain ⟨_, _, hcc⟩ := hbr
  obtain ⟨cc, fr, hb2, _, _, hcell, _, _⟩ := hcc hl
  obtain ⟨v, hv, _, hvr⟩ := hcell 0 c1
  rw [e1, isIntK_true c3, c4] at hvr
  cases hvr
  exact ⟨by rw [cell?_of hb2]; exact hv, hk5⟩

theorem IsStr.drop {l c : Nat} {s : ByteArray} (h : IsStr l c s) (n : Nat) (hn : n ≤ l) : IsStr (l - n) (c / 256 ^ n) (s.extract n s.size) := by
  have hs := h.1
  refine ⟨by rw [ByteArray.size_extract]; omega, ?_⟩
  have e : (s.extract n s.size).data.toList = s.data.toList.drop n := by
    rw [ByteArray.data_extract, Array.toList_extract, List.extract_eq_take_drop]
    apply List.take_of_length_le
    simp
  rw [e, enc_drop, h.2]

theorem IsStr.take {l c : Nat} {s : ByteArray} (h : IsStr l c s) (n : Nat) (hn : n ≤ l) : IsStr n (c % 256 ^ n) (s.extract 0 n) := by
  have := h.extract 0 n (Nat.zero_le _) hn
  simpa [Nat.pow_mul] using this

/-! ### one round, by the evaluator -/
def roundK {L : Nat} (cf : Fun) (ts : FT L) (ks : Ks L) (ds0 : List ADef) (mk : ADef) (sp : Setter (FT L)) (da db : D L) (xl xc : Nat) (h : H) (kn : H → Bool) : Bool :=
  sp ts (.str xl xc) fun ts1 => da cf ts1 h (fun ts2 h2 => isNil h2.ds (db cf ts2 h2 (fun _ h3 => isNil h3.ds (kn h3))
    ⟨fun id _ h3 => isNil h3.ds (ks.ex id ts ⟨mk :: ds0, h3.ro, h3.next, h3.bl⟩), fun _ h3 => isNil h3.ds (ks.rt ts ⟨mk :: ds0, h3.ro, h3.next, h3.bl⟩), fun _ _ _ => false⟩)) ⟨fun _ _ _ => false, fun _ _ => false, fun _ _ _ => false⟩

def lrec (fnid : FuncId) (a : Act) (p : Tmp) (asg body : Code) (D : Nat) (st : LoopState) (pe : Option Code) : Loop :=
  { state := st, pending := pe, fn := fnid, tmps := a.tmps, params := #[p], assign := asg, body, defers := D }

def fin {L : Nat} (ts : FT L) (k : K L) (ks : Ks L) (ds0 : List ADef) (mk : ADef) : Option Code → H → Prop
  | none, h => k ts ⟨mk :: ds0, h.ro, h.next, h.bl⟩ = true
  | some .ret, h => ks.rt ts ⟨mk :: ds0, h.ro, h.next, h.bl⟩ = true
  | some (.exit id), h => ks.ex id ts ⟨mk :: ds0, h.ro, h.next, h.bl⟩ = true
  | _, _ => False

structure Jn (ν : Nu) (φ : Phi) (w : World) (ro : RO) (l idD D : Nat) (lr : LoopState → Option Code → Loop) (φ' : Phi) (h' : H) (W : World) : Prop where
  lp : W.heap[l]? = some (.loop (lr .ready none))
  hr : HR φ' ν h' W
  ex : Ext ro φ w φ' W
  ro : h'.ro = ro
  ds : h'.ds = []
  un : ∀ id ver q, φ' id ver = some q → q.blk ≠ l
  dd : ∃ pD, φ' idD 0 = some pD ∧ pD.blk = D

def Zz (ν : Nu) (φ : Phi) (w : World) (ro : RO) (l idD D : Nat) (lr : LoopState → Option Code → Loop) (fn : Option Code → H → Prop) (W : World) : Prop :=
  ∃ φ' h' st pe, W.heap[l]? = some (.loop (lr st pe)) ∧ (st == .busy) = false ∧ HR φ' ν h' W ∧ Ext ro φ w φ' W ∧ h'.ro = ro ∧ (∀ id ver q, φ' id ver = some q → q.blk ≠ l) ∧ (∃ pD, φ' idD 0 = some pD ∧ pD.blk = D) ∧ fn pe h'

theorem set_at {w : World} {l : Nat} {o o' : Obj} (h : w.heap[l]? = some o) : ({ w with heap := w.heap.setIfInBounds l o' } : World).heap[l]? = some o' := by
  have : l < w.heap.size := (Array.getElem?_eq_some_iff.1 h).1
  simp [this]

theorem run_getLoop {P : Program} {w : World} {l : Nat} {r : Loop} (h : w.heap[l]? = some (.loop r)) : (Instr.getLoop l).run P w = .ok r w := by
  simp [Instr.getLoop, getObj, Sem.run, h]
theorem run_setLoop {P : Program} {w : World} {l : Nat} {r r' : Loop} (h : w.heap[l]? = some (.loop r)) : (setObj l (.loop r')).run P w = .ok () { w with heap := w.heap.setIfInBounds l (.loop r') } := by
  simp [setObj, Sem.run, h]

theorem round_true {P : Program} {ν : Nu} {L N : Nat} {cf : Fun} (hc : FunOk P ν cf) {asg body : Code} {da db : D L} (hda : Good P ν true L N asg da) (hdb : Good P ν true L N body db) {p : Tmp} (hp : p < N) (hN : N ≤ 4 ^ L) {φ : Phi} {w : World} {a : Act} {ts : FT L}
    {ro : RO} (hfr : FR φ ν L N ts a.tmps) {l : Nat} (hl : w.heap.size ≤ l) (hg : ∀ b o, (b, o) ∈ ν.G → b < w.heap.size) {fnid : FuncId} {k : K L} {ks : Ks L} {ds0 : List ADef} {mk : ADef} {idD D : Nat} {sp : Setter (FT L)} (hsp : ∀ x v k, sp x v k = k (FT.put L p v x))
    {φ' : Phi} {h' : H} {W : World} (jn : Jn ν φ w ro l idD D (lrec fnid a p asg body D) φ' h' W) {xl xc : Nat} {x : ByteArray} (hx : IsStr xl xc x) {kn : H → Bool} (hk : roundK cf ts ks ds0 mk sp da db xl xc h' kn = true) {T : World → Prop}
    (hT : ∀ φ'' h'' W', Jn ν φ w ro l idD D (lrec fnid a p asg body D) φ'' h'' W' → kn h'' = true → T W') :
    YRound P l x W T (Zz ν φ w ro l idD D (lrec fnid a p asg body D) (fin ts k ks ds0 mk)) := by
  refine ⟨fnid, a.tmps.setIfInBounds p (.string x), asg, body, ?_, roundW ?_⟩
  · simp [Instr.yield, run_getLoop jn.lp, lrec]
  unfold roundK at hk
  rw [hsp] at hk
  have hlW : l < W.heap.size := (Array.getElem?_eq_some_iff.1 jn.lp).1
  have hgl : ∀ b o, (b, o) ∈ ν.G → b ≠ l := fun b o hb e => by have := hg b o hb; omega
  have hst : St φ' ν L N (FT.put L p (.str xl xc) ts) h' ⟨a.tmps.setIfInBounds p (.string x), []⟩ W := ⟨(hfr.mono jn.ex.le).put hN hp (.str hx), jn.hr, by rw [jn.ds]; trivial⟩
  have hw := hda cf hc (some l) (.inr rfl) φ' _ h' _ W _ _ hst hk
  refine wpIn_mono hw fun e a1 W1 hp1 => ?_
  cases e with
  | exit id => obtain ⟨_, _, _, _, _, _, hk2⟩ := hp1; cases hk2
  | goto t => exact hp1.elim
  | ret => obtain ⟨_, _, _, _, _, _, hk2⟩ := hp1; cases hk2
  | panic ch => obtain ⟨_, _, _, _, _, _, _, _, _, _, hk2⟩ := hp1; cases hk2
  | outgrown => exact hp1.elim
  | normal =>
    obtain ⟨φ2, ts2, h2, st2, ex2, ro2, hk2⟩ := hp1
    obtain ⟨ds2, hk3⟩ := isNil_true hk2
    have hroE : h'.ro = ro := jn.ro
    rw [hroE] at ex2 ro2
    obtain ⟨un2, lp2⟩ := un_ext' ex2 hlW jn.un
    rw [jn.lp] at lp2
    have hx2 : Ext ro φ w φ2 W1 := jn.ex.trans ex2
    have hbr : (Instr.beginRound l).run P W1 = .ok () { W1 with heap := W1.heap.setIfInBounds l (.loop (lrec fnid a p asg body D .busy none)) } := by
      simp [Instr.beginRound, run_getLoop lp2, run_setLoop lp2, lrec]
    refine ⟨_, hbr, ?_⟩
    have lp2b : ({ W1 with heap := W1.heap.setIfInBounds l (.loop (lrec fnid a p asg body D .busy none)) } : World).heap[l]? = some (.loop (lrec fnid a p asg body D .busy none)) := set_at lp2
    have hx2b := hx2.unm hl (.loop (lrec fnid a p asg body D .busy none))
    have hr2b := st2.hr.unm un2 hgl (.loop (lrec fnid a p asg body D .busy none))
    have hl2 : l < ({ W1 with heap := W1.heap.setIfInBounds l (.loop (lrec fnid a p asg body D .busy none)) } : World).heap.size := (Array.getElem?_eq_some_iff.1 lp2b).1
    generalize ({ W1 with heap := W1.heap.setIfInBounds l (.loop (lrec fnid a p asg body D .busy none)) } : World) = W2 at lp2b hx2b hr2b hl2 ⊢
    have hw2 := hdb cf hc (some l) (.inr rfl) φ2 ts2 h2 a1 W2 _ _ ⟨st2.fr, hr2b, st2.dr⟩ hk3
    obtain ⟨pD, hpD, hpD'⟩ := jn.dd
    refine wpIn_mono hw2 fun e a3 W3 hp3 => ?_
    have wrap : ∀ (φ3 : Phi) (h3 : H), HR φ3 ν h3 W3 → Ext h2.ro φ2 W2 φ3 W3 → h3.ro = h2.ro → ∀ st pe, (∀ W4, W4 = ({ W3 with heap := W3.heap.setIfInBounds l (.loop (lrec fnid a p asg body D st pe)) } : World) →
        W4.heap[l]? = some (.loop (lrec fnid a p asg body D st pe)) ∧ HR φ3 ν h3 W4 ∧ Ext ro φ w φ3 W4 ∧ h3.ro = ro ∧ (∀ id ver q, φ3 id ver = some q → q.blk ≠ l) ∧ (∃ pD, φ3 idD 0 = some pD ∧ pD.blk = D)) ∧ W3.heap[l]? = some (.loop (lrec fnid a p asg body D .busy none)) := by
      intro φ3 h3 hr3 ex3 ro3 st pe
      rw [ro2] at ex3 ro3
      obtain ⟨un3, lp3⟩ := un_ext' ex3 hl2 un2
      rw [lp2b] at lp3
      refine ⟨fun W4 e4 => ?_, lp3⟩
      subst e4
      exact ⟨set_at lp3, hr3.unm un3 hgl _, (hx2b.trans ex3).unm hl _, ro3, un3, pD, ex3.le _ _ _ (ex2.le _ _ _ hpD), hpD'⟩
    cases e with
    | goto t => exact hp3.elim
    | outgrown => exact hp3.elim
    | panic ch => obtain ⟨_, _, _, _, _, _, _, _, _, _, hk4⟩ := hp3; cases hk4
    | normal =>
      obtain ⟨φ3, ts3, h3, st3, ex3, ro3, hk4⟩ := hp3
      obtain ⟨ds3, hk5⟩ := isNil_true hk4
      obtain ⟨hw4, lp3⟩ := wrap φ3 h3 st3.hr ex3 ro3 .ready none
      obtain ⟨a1, a2, a3, a4, a5, a6⟩ := hw4 _ rfl
      exact ⟨.bool true, _, by simp [Instr.endRound, run_getLoop lp3, run_setLoop lp3, lrec], .inl ⟨rfl, hT φ3 h3 _ ⟨a1, a2, a3, a4, ds3, a5, a6⟩ hk5⟩⟩
    | ret =>
      obtain ⟨φ3, ts3, h3, st3, ex3, ro3, hk4⟩ := hp3
      obtain ⟨ds3, hk5⟩ := isNil_true hk4
      obtain ⟨hw4, lp3⟩ := wrap φ3 h3 st3.hr ex3 ro3 .done (some .ret)
      obtain ⟨a1, a2, a3, a4, a5, a6⟩ := hw4 _ rfl
      exact ⟨.bool false, _, by simp [Instr.endRound, run_getLoop lp3, run_setLoop lp3, lrec], .inr ⟨rfl, φ3, h3, _, _, a1, rfl, a2, a3, a4, a5, a6, hk5⟩⟩
    | exit id =>
      obtain ⟨φ3, ts3, h3, st3, ex3, ro3, hk4⟩ := hp3
      obtain ⟨ds3, hk5⟩ := isNil_true hk4
      obtain ⟨hw4, lp3⟩ := wrap φ3 h3 st3.hr ex3 ro3 .done (some (.exit id))
      obtain ⟨a1, a2, a3, a4, a5, a6⟩ := hw4 _ rfl
      exact ⟨.bool false, _, by simp [Instr.endRound, run_getLoop lp3, run_setLoop lp3, lrec], .inr ⟨rfl, φ3, h3, _, _, a1, rfl, a2, a3, a4, a5, a6, hk5⟩⟩

/-! ### all rounds -/
def chk3 (ida va idb vb idc vc ls cs l c : Nat) (h : H) (x : Bool) : Bool := chk (Nat.blt l 4294967281) (strAt ida va ls cs h (strAt idb vb l c h (intAt idc vc h x)))

def aftK (ida va idb vb idc vc ls cs l c i : Nat) (h : H) (go : Nat → Nat → H → Bool) : Bool :=
  chk3 ida va idb vb idc vc ls cs l c h (forceN (Nat.sub (Nat.sub l i) ls) fun l2 => forceN (Nat.div c (Nat.pow 256 (Nat.add i ls))) fun c2 => storeK idb vb 0 [.str l2 c2] 1 h fun h => go l2 c2 h)

def loopK {L : Nat} (cf : Fun) (ts : FT L) (k : K L) (ks : Ks L) (ds0 : List ADef) (mk : ADef) (sp : Setter (FT L)) (da db : D L) (ida va idb vb idc vc ls cs pm : Nat) (n : Nat) : Nat → Nat → H → Bool :=
  Nat.rec (motive := fun _ => Nat → Nat → H → Bool) (fun _ _ _ => false) (fun _ ih l c h => chk3 ida va idb vb idc vc ls cs l c h
    (idxK ls cs pm l c 0 (fun i => forceN (Nat.mod c (Nat.pow 256 i)) fun x => roundK cf ts ks ds0 mk sp da db i x h fun h => aftK ida va idb vb idc vc ls cs l c i h ih)
      (roundK cf ts ks ds0 mk sp da db l c h fun h => k ts ⟨mk :: ds0, h.ro, h.next, h.bl⟩))) n

theorem chk3_true {P : Program} {ν : Nu} {φ φ' : Phi} (hle : φ.le φ') {ida va idb vb idc vc ls cs l c fi : Nat} {pa pb pc : PB} (ha : φ ida va = some pa) (hb : φ idb vb = some pb) (hc : φ idc vc = some pc) {sep s : ByteArray} (hsep : IsStr ls cs sep) (hs : IsStr l c s)
    (hidx : ∀ φ h W (s sep : ByteArray), HR φ ν h W → s.size < 4294967281 → Calls P fi #[.string s, .string sep] W fun e W' => e = .returned (.int .i64 (Lib.index s.data.toList sep.data.toList)) ∧ W' = W)
    {h : H} {W : World} (hr : HR φ' ν h W) {x : Bool} (hk : chk3 ida va idb vb idc vc ls cs l c h x = true) : SRd P fi pa.blk pb.blk pc.blk sep s W ∧ x = true := by
  obtain ⟨c1, hk⟩ := chk_true hk
  rw [Nat.blt_eq] at c1
  obtain ⟨s1, g1, g2, _, hk⟩ := strAt_true hr (hle _ _ _ ha) hk
  obtain ⟨s2, g3, g4, g5, hk⟩ := strAt_true hr (hle _ _ _ hb) hk
  obtain ⟨g6, hk⟩ := intAt_true hr (hle _ _ _ hc) hk
  have e1 : s1 = sep := (g2.eq hsep).2 ⟨rfl, rfl⟩
  have e2 : s2 = s := (g4.eq hs).2 ⟨rfl, rfl⟩
  subst e1 e2
  exact ⟨⟨g1, g3, g6, g5, by rw [hs.1]; exact c1, hidx φ' h W _ _ hr (by rw [hs.1]; exact c1)⟩, hk⟩

theorem run_store_cell {P : Program} {W : World} {b : Nat} {s u : ByteArray} (hc : W.cell? ⟨b, 0, none⟩ = some (.string u)) (hf : W.frozen? ⟨b, 0, none⟩ = false) : (storeCells ⟨b, 0, none⟩ [.string s]).run P W = .ok () (W.setCell ⟨b, 0, none⟩ (.string s)) := by
  simp [storeCells, store, Sem.run, addr_add, hc, hf]

theorem loop_hyp {P : Program} {ν : Nu} {L N : Nat} {cf : Fun} (hcf : FunOk P ν cf) {asg body : Code} {da db : D L} (hda : Good P ν true L N asg da) (hdb : Good P ν true L N body db) {p : Tmp} (hp : p < N) (hN : N ≤ 4 ^ L) {φ : Phi} {w : World} {a : Act} {ts : FT L}
    {ro : RO} (hfr : FR φ ν L N ts a.tmps) {l : Nat} (hl : w.heap.size ≤ l) (hg : ∀ b o, (b, o) ∈ ν.G → b < w.heap.size) {fnid : FuncId} {k : K L} {ks : Ks L} {ds0 : List ADef} {mk : ADef} {idD D : Nat} {sp : Setter (FT L)} (hsp : ∀ x v k, sp x v k = k (FT.put L p v x))
    {ida va idb vb idc vc ls cs fi : Nat} {pa pb pc : PB} (ha : φ ida va = some pa) (hb : φ idb vb = some pb) (hc : φ idc vc = some pc) {sep : ByteArray} (hsep : IsStr ls cs sep)
    (hidx : ∀ φ h W (s sep : ByteArray), HR φ ν h W → s.size < 4294967281 → Calls P fi #[.string s, .string sep] W fun e W' => e = .returned (.int .i64 (Lib.index s.data.toList sep.data.toList)) ∧ W' = W) :
    SHyp P fi pa.blk pb.blk pc.blk l sep
      (fun s W => ∃ φ' h' l' c' n, Jn ν φ w ro l idD D (lrec fnid a p asg body D) φ' h' W ∧ IsStr l' c' s ∧ loopK cf ts k ks ds0 mk sp da db ida va idb vb idc vc ls cs (256 ^ ls) n l' c' h' = true)
      (fun s i W => ∃ φ' h' l' c' n, Jn ν φ w ro l idD D (lrec fnid a p asg body D) φ' h' W ∧ IsStr l' c' s ∧ i + ls ≤ l' ∧ aftK ida va idb vb idc vc ls cs l' c' i h' (loopK cf ts k ks ds0 mk sp da db ida va idb vb idc vc ls cs (256 ^ ls) n) = true)
      (Zz ν φ w ro l idD D (lrec fnid a p asg body D) (fin ts k ks ds0 mk)) := by
  have open1 : ∀ {n l' c' : Nat} {h' : H}, loopK cf ts k ks ds0 mk sp da db ida va idb vb idc vc ls cs (256 ^ ls) n l' c' h' = true → ∃ m, chk3 ida va idb vb idc vc ls cs l' c' h'
      (idxK ls cs (256 ^ ls) l' c' 0 (fun i => forceN (Nat.mod c' (Nat.pow 256 i)) fun x => roundK cf ts ks ds0 mk sp da db i x h' fun h => aftK ida va idb vb idc vc ls cs l' c' i h (loopK cf ts k ks ds0 mk sp da db ida va idb vb idc vc ls cs (256 ^ ls) m))
        (roundK cf ts ks ds0 mk sp da db l' c' h' fun h => k ts ⟨mk :: ds0, h.ro, h.next, h.bl⟩)) = true := by
    intro n l' c' h' h
    cases n with
    | zero => cases h
    | succ m => exact ⟨m, h⟩
  have idx : ∀ {s : ByteArray} {l' c' : Nat} {f : Nat → Bool} {g : Bool}, IsStr l' c' s → idxK ls cs (256 ^ ls) l' c' 0 f g = true →
      (Lib.index s.data.toList sep.data.toList = -1 ∧ g = true) ∨ ∃ j : Nat, Lib.index s.data.toList sep.data.toList = j ∧ f j = true := by
    intro s l' c' f g hs h
    have h' : idxK sep.data.toList.length (enc sep.data.toList) (256 ^ sep.data.toList.length) s.data.toList.length (enc s.data.toList) 0 f g = true := by
      rw [hsep.data, hsep.2, hs.data, hs.2]; exact h
    rcases idxK_true _ _ _ _ _ h' with h1 | ⟨j, h1, h2⟩
    · exact .inl h1
    · exact .inr ⟨j, h1, by rw [Nat.zero_add] at h2; exact h2⟩
  refine ⟨?_, ?_, ?_, ?_, ?_⟩
  · rintro s W ⟨φ', h', l', c', n, jn, hs, hk⟩
    obtain ⟨m, hk⟩ := open1 hk
    exact (chk3_true jn.ex.le ha hb hc hsep hs hidx jn.hr hk).1
  · rintro s i W ⟨φ', h', l', c', n, jn, hs, _, hk⟩
    exact (chk3_true jn.ex.le ha hb hc hsep hs hidx jn.hr hk).1
  · rintro s W i ⟨φ', h', l', c', n, jn, hs, hk⟩ hix hroom
    obtain ⟨m, hk⟩ := open1 hk
    obtain ⟨_, hk⟩ := chk3_true jn.ex.le ha hb hc hsep hs hidx jn.hr hk
    rw [hsep.1, hs.1] at hroom
    rcases idx hs hk with ⟨h1, _⟩ | ⟨j, h1, h2⟩
    · rw [hix] at h1; omega
    · rw [hix] at h1
      have : i = j := by omega
      subst this
      rw [forceN_eq] at h2
      exact round_true hcf hda hdb hp hN hfr hl hg hsp jn (hs.take i (by omega)) h2 fun φ'' h'' W' jn' hk' => ⟨φ'', h'', l', c', m, jn', hs, hroom, hk'⟩
  · rintro s i W ⟨φ', h', l', c', n, jn, hs, hroom, hk⟩
    obtain ⟨hrd, hk⟩ := chk3_true jn.ex.le ha hb hc hsep hs hidx jn.hr hk
    rw [forceN_eq, forceN_eq] at hk
    have hs2 : IsStr (l' - i - ls) (c' / 256 ^ (i + ls)) (s.extract (i + ls) s.size) := by
      have := hs.drop (i + ls) hroom
      rwa [show l' - (i + ls) = l' - i - ls from by omega] at this
    have hpb := jn.ex.le _ _ _ hb
    obtain ⟨h2, w2, hrun, hr2, hx2, hro2, hds2, _, hk2⟩ := storeK_true (P := P) jn.hr hpb (vs := [.string (s.extract (i + ls) s.size)]) (.cons (.str hs2) .nil) (fun v hv => by simp at hv; subst hv; rfl) (sz := 1) rfl (by decide) hk
    have hrun2 := run_store_cell (P := P) (s := s.extract (i + ls) s.size) hrd.cb hrd.fz
    rw [hrun] at hrun2
    have e2 : w2 = W.setCell ⟨pb.blk, 0, none⟩ (.string (s.extract (i + ls) s.size)) := by injection hrun2
    rw [hsep.1, ← e2]
    have hlW : l < W.heap.size := (Array.getElem?_eq_some_iff.1 jn.lp).1
    rw [jn.ro] at hx2 hro2
    obtain ⟨un2, lp2⟩ := un_ext' hx2 hlW jn.un
    obtain ⟨pD, hpD, hpD'⟩ := jn.dd
    exact ⟨φ', h2, _, _, n, ⟨by rw [lp2]; exact jn.lp, hr2, jn.ex.trans hx2, hro2, by rw [hds2]; exact jn.ds, un2, pD, hpD, hpD'⟩, hs2, hk2⟩
  · rintro s W ⟨φ', h', l', c', n, jn, hs, hk⟩ hix
    obtain ⟨m, hk⟩ := open1 hk
    obtain ⟨_, hk⟩ := chk3_true jn.ex.le ha hb hc hsep hs hidx jn.hr hk
    rcases idx hs hk with ⟨_, h2⟩ | ⟨j, h1, _⟩
    · exact round_true hcf hda hdb hp hN hfr hl hg hsp jn hs h2 fun φ'' h'' W' jn' hk' => ⟨φ'', h'', _, _, jn'.lp, rfl, jn'.hr, jn'.ex, jn'.ro, jn'.un, jn'.dd, hk'⟩
    · rw [hix] at h1; omega

/-! ### the statement -/
def args3 (l : List AV) (k : AV → AV → AV → Bool) : Bool := List.rec (motive := fun _ => Bool) false (fun x t _ => args2 t fun y z => k x y z) l
theorem args3_true {l : List AV} {k : AV → AV → AV → Bool} (h : args3 l k = true) : ∃ x y z, l = [x, y, z] ∧ k x y z = true := by
  match l, h with
  | [], h => cases h
  | x :: t, h =>
    obtain ⟨y, z, rfl, h⟩ := args2_true (l := t) h
    exact ⟨x, y, z, rfl, h⟩
def isNilA (l : List AV) (x : Bool) : Bool := List.rec (motive := fun _ => Bool) x (fun _ _ _ => false) l
theorem isNilA_true {l : List AV} {x : Bool} (h : isNilA l x = true) : l = [] ∧ x = true := by
  cases l with
  | nil => exact ⟨rfl, h⟩
  | cons a b => cases h

def rangeD {L : Nat} (ef : FT L → AV) (sp : Setter (FT L)) (da db : D L) (gs : FuncId) : D L := fun cf ts h k ks => vFn (ef ts) fun fn fs caps => Fn.rec (motive := fun _ => Bool)
  (fun g => chk (Nat.beq g gs) (isNilA fs (args3 caps fun pa pb pc => vPtr pa fun ida va oa => vPtr pb fun idb vb ob => vPtr pc fun idc vc oc => chk (Nat.beq oa 0) (chk (Nat.beq ob 0) (chk (Nat.beq oc 0)
    (rdStr ida va h fun ls cs => chk (Nat.blt 0 ls) (rdStr idb vb h fun l0 c0 => newB (.dfr true) h fun idD h1 => forceN (Nat.pow 256 ls) fun pm =>
      loopK cf ts k ks h.ds ⟨.mp idD, []⟩ sp da db ida va idb vb idc vc ls cs pm (Nat.succ l0) l0 c0 ⟨[], h1.ro, h1.next, h1.bl⟩)))))))
  (fun _ => false) (fun _ _ => false) (fun _ _ _ _ => false) (fun _ => false) fn

/-- the iterator of SplitSeq and what it calls -/
def SplitOk (P : Program) (ν : Nu) (gs : FuncId) : Prop := hasBody P gs = true ∧ ∃ S I B fi, SplitShape P gs S I B fi ∧
  ∀ φ h W (s sep : ByteArray), HR φ ν h W → s.size < 4294967281 → Calls P fi #[.string s, .string sep] W fun e W' => e = .returned (.int .i64 (Lib.index s.data.toList sep.data.toList)) ∧ W' = W

theorem rangeD_good {P : Program} {ν : Nu} {L N : Nat} {gs : FuncId} (hok : SplitOk P ν gs) {f : Operand} {p : Tmp} {asg body : Code} {ef : FT L → AV} (hef : ∀ φ ν ts (a : Act), FR φ ν L N ts a.tmps → VR φ ν (ef ts) (a.eval f)) {sp : Setter (FT L)}
    (hsp : ∀ x v k, sp x v k = k (FT.put L p v x)) {da db : D L} (hda : Good P ν true L N asg da) (hdb : Good P ν true L N body db) (hp : p < N) (hN : N ≤ 4 ^ L) : Good P ν false L N (.rangeFunc f #[p] asg body) (rangeD ef sp da db gs) := by
  intro cf hcf rd hrd φ ts h a w k ks hst hk
  have hrd : rd = none := hrd.resolve_right (by simp)
  subst hrd
  obtain ⟨hgb, S, I, B, fi, shape, hidx⟩ := hok
  unfold rangeD at hk
  obtain ⟨fn, fs, caps, e1, hk⟩ := vFn_true hk
  cases fn <;> first | (cases hk; done) | skip
  rename_i g
  obtain ⟨c1, hk⟩ := chk_true (show chk _ _ = true from hk)
  have c1 := Nat.eq_of_beq_eq_true c1
  obtain ⟨e2, hk⟩ := isNilA_true hk
  obtain ⟨xa, xb, xc, e3, hk⟩ := args3_true hk
  obtain ⟨ida, va, oa, e4, hk⟩ := vPtr_true hk
  obtain ⟨idb, vb, ob, e5, hk⟩ := vPtr_true hk
  obtain ⟨idc, vc, oc, e6, hk⟩ := vPtr_true hk
  obtain ⟨c2, hk⟩ := chk_true hk
  obtain ⟨c3, hk⟩ := chk_true hk
  obtain ⟨c4, hk⟩ := chk_true hk
  have c2 := Nat.eq_of_beq_eq_true c2
  have c3 := Nat.eq_of_beq_eq_true c3
  have c4 := Nat.eq_of_beq_eq_true c4
  have hv := hef φ ν ts a hst.fr
  rw [e1, c1, e2, e3, e4, e5, e6, c2, c3, c4] at hv
  generalize hvf : a.eval f = vf at hv
  cases hv with
  | fn hfs hcs =>
    cases hfs
    cases hcs with
    | cons h1 hcs => cases hcs with
      | cons h2 hcs => cases hcs with
        | cons h3 hcs =>
          cases hcs
          cases h1 with
          | ptr ha =>
            rename_i pa
            cases h2 with
            | ptr hb =>
              rename_i pb
              cases h3 with
              | ptr hc =>
                rename_i pc
                obtain ⟨ls, cs, sep, _, hsep, hk⟩ := rdStr_true hst.hr ha hk
                obtain ⟨c5, hk⟩ := chk_true hk
                rw [Nat.blt_eq] at c5
                obtain ⟨l0, c0, s0, _, hs0, hk⟩ := rdStr_true hst.hr hb hk
                obtain ⟨hn, hk⟩ := newB_true hk
                rw [forceN_eq] at hk
                have hr := hst.hr
                obtain ⟨r1, x1, le1⟩ := hr.newObj hn (ver := 0) (p := ⟨w.heap.size, 0, 0, 0⟩) rfl (o := .deferred (some [])) (b := .dfr true)
                  ⟨fun ver q hq => by
                    rcases Phi.new_inv hq with ⟨_, e, _⟩ | hq
                    · exact e
                    · have := (hr.dom _ _ _ hq).1; omega, _, Phi.new_self .., heap_push_new w _⟩
                refine wpIn_rangeFunc fun fnid _ => ?_
                obtain ⟨W1, hW1⟩ : ∃ W1, (w.alloc (.deferred (some []))).alloc (.loop (lrec fnid a p asg body w.heap.size .ready none)) = W1 := ⟨_, rfl⟩
                have hbel : Go.RowKit.Below (w.alloc (.deferred (some []))).heap.size (w.alloc (.deferred (some []))) W1 := by rw [← hW1]; exact (Go.RowKit.Below.refl _ _).alloc (Nat.le_refl _) _
                obtain ⟨r2, x2⟩ := r1.below hbel
                have hlp : W1.heap[w.heap.size + 1]? = some (.loop (lrec fnid a p asg body w.heap.size .ready none)) := by
                  rw [← hW1]; have := World.alloc_heap_new (w.alloc (.deferred (some []))) (.loop (lrec fnid a p asg body w.heap.size .ready none)); rwa [World.size_alloc] at this
                have hgsz : ∀ b o, (b, o) ∈ ν.G → b < w.heap.size := fun b o hbo => (Array.getElem?_eq_some_iff.1 (hr.gl b o hbo).1).1
                have hjn : Jn ν φ w h.ro (w.heap.size + 1) h.next w.heap.size (lrec fnid a p asg body w.heap.size) (φ.new h.next 0 ⟨w.heap.size, 0, 0, 0⟩) ⟨[], h.ro, h.next + 1, T4.set HD h.next (.dfr true) h.bl⟩ W1 := by
                  refine ⟨hlp, r2.ds [], (x1 _).trans (x2 _), rfl, rfl, fun id ver q hq e => ?_, _, Phi.new_self .., rfl⟩
                  have := (r1.dom id ver q hq).2
                  rw [World.size_alloc] at this
                  omega
                have hyp := loop_hyp (P := P) (ν := ν) hcf hda hdb hp hN hst.fr (l := w.heap.size + 1) (by omega) hgsz (fnid := fnid) (k := k) (ks := ks) (ds0 := h.ds) (mk := ⟨.mp h.next, []⟩) (idD := h.next) (D := w.heap.size) (ro := h.ro) hsp ha hb hc hsep hidx
                have hcall := split_calls shape (by rw [hsep.1]; exact c5) hyp (s := s0) (W := W1) ⟨_, _, l0, c0, Nat.succ l0, hjn, hs0, hk⟩
                refine ⟨w.heap.size + 1, [{ target := .collected w.heap.size, args := #[] }], W1, { target := .fn (.func gs) ⟨[.pointer (some ⟨pa.blk, 0, none⟩), .pointer (some ⟨pb.blk, 0, none⟩), .pointer (some ⟨pc.blk, 0, none⟩)]⟩, args := #[.func (.yield (w.heap.size + 1)) #[] #[]] }, W1, gs,
                  #[.func (.yield (w.heap.size + 1)) #[] #[]] ++ #[.pointer (some ⟨pa.blk, 0, none⟩), .pointer (some ⟨pb.blk, 0, none⟩), .pointer (some ⟨pc.blk, 0, none⟩)], W1, ?_, ?_, ?_, ?_, ?_, ?_⟩
                · rw [← hW1]; exact run_enterLoop_outer _ _ _ _ _
                · have ec : ∀ v, a.eval (.const v) = v := fun _ => rfl
                  simp [resolve, hvf, ec, Deferred.ofValue]
                · intro _ _; trivial
                · simp [invoke, hasBody_true hgb]
                · intro h; simp [Fence.wide] at h
                · refine callsW.2 ((callsW.1 hcall).mono fun e W hp => ?_)
                  cases e with
                  | outgrown => exact hp.elim
                  | panicked ch => exact hp.elim
                  | returned v =>
                    obtain ⟨φ', h', st, pe, lp, hst', hr', hx', hro', un', ⟨pD, hpD, hpD'⟩, hfin⟩ := hp
                    refine ⟨pe, { W with heap := W.heap.setIfInBounds (w.heap.size + 1) (.loop { lrec fnid a p asg body w.heap.size st pe with state := .exhausted }) }, ?_, ?_⟩
                    · have hs' : ((lrec fnid a p asg body w.heap.size st pe).state == .busy) = false := hst'
                      simp only [Instr.endLoop, Sem.run_bind, run_getLoop lp, Result.andThen_ok, hs', Bool.false_eq_true, if_false, run_setLoop lp, Sem.run_pure]
                      rfl
                    · have hgl : ∀ b o, (b, o) ∈ ν.G → b ≠ w.heap.size + 1 := fun b o hbo e => by have := hgsz b o hbo; omega
                      have hr4 := hr'.unm un' hgl (.loop { lrec fnid a p asg body w.heap.size st pe with state := .exhausted })
                      have hx4 := hx'.unm (by omega : w.heap.size ≤ w.heap.size + 1) (.loop { lrec fnid a p asg body w.heap.size st pe with state := .exhausted })
                      generalize ({ W with heap := W.heap.setIfInBounds (w.heap.size + 1) (.loop { lrec fnid a p asg body w.heap.size st pe with state := .exhausted }) } : World) = W4 at hr4 hx4 ⊢
                      have hst4 : St φ' ν L N ts ⟨⟨.mp h.next, []⟩ :: h.ds, h'.ro, h'.next, h'.bl⟩ { a with defers := [{ target := .collected w.heap.size, args := #[] }] ++ a.defers } W4 :=
                        ⟨hst.fr.mono hx4.le, hr4.ds _, ⟨.inl ⟨h.next, pD, rfl, hpD, by rw [hpD']⟩, hst.dr.mono hx4.le⟩⟩
                      cases pe with
                      | none => exact ⟨φ', ts, _, hst4, hx4, hro', hfin⟩
                      | some c =>
                        cases c <;> first | (exact hfin.elim) | skip
                        · exact wpIn_exit ⟨φ', ts, _, hst4, hx4, hro', hfin⟩
                        · exact wpIn_ret ⟨φ', ts, _, hst4, hx4, hro', hfin⟩

def mkRangeF (L N : Nat) (gs : FuncId) (decR : Code → (D L → Bool) → Bool) (f : Operand) (ps : Array Tmp) (asg body : Code) (r : D L → Bool) : Bool :=
  match ps with
  | ⟨[p]⟩ => bif Nat.blt p N && Nat.ble N (4 ^ L) then mkE L N f fun ef => mkS L p fun sp => decR asg fun da => decR body fun db => r (rangeD ef sp da db gs) else false
  | _ => false

theorem mkRangeF_true {P : Program} {ν : Nu} {L N : Nat} {gs : FuncId} (hok : SplitOk P ν gs) {decR : Code → (D L → Bool) → Bool} (hdec : ∀ c r, decR c r = true → ∃ d, Good P ν true L N c d ∧ r d = true) {f : Operand} {ps : Array Tmp} {asg body : Code} {r : D L → Bool}
    (h : mkRangeF L N gs decR f ps asg body r = true) : ∃ d, Good P ν false L N (.rangeFunc f ps asg body) d ∧ r d = true := by
  unfold mkRangeF at h
  split at h
  · rename_i p
    cases hb : (Nat.blt p N && Nat.ble N (4 ^ L)) with
    | false => rw [hb] at h; cases h
    | true =>
      rw [hb, cond_true] at h
      simp only [Bool.and_eq_true] at hb
      obtain ⟨ef, hef, h⟩ := mkE_true h
      rw [mkS_eq] at h
      obtain ⟨da, hda, h⟩ := hdec _ _ h
      obtain ⟨db, hdb, h⟩ := hdec _ _ h
      exact ⟨_, rangeD_good hok hef (fun _ _ _ => rfl) hda hdb (by simpa [Nat.blt_eq] using hb.1) (Nat.le_of_ble_eq_true hb.2), h⟩
  · cases h

/-! ### a function that holds such a statement: the marks among its deferred calls -/
def marksK (ds : List ADef) (k : H → Bool) : H → Bool :=
  List.rec (motive := fun _ => H → Bool) k (fun a _ ih h => ADef.rec (motive := fun _ => Bool) (fun f _ => vMap f false fun id => chk (Nat.ble h.ro.lim id) (T4.getK HD id h.bl fun b => AB.rec (motive := fun _ => Bool) (fun _ _ _ _ _ _ _ => false) (fun _ _ => false) (fun _ _ _ => false)
    (fun o => chk o (T4.setK HD id (.dfr false) h.bl fun bl => ih ⟨h.ds, h.ro, h.next, bl⟩)) b)) a) ds

theorem marks_leave {P : Program} {ν : Nu} {fn : Func} {tmps : Array Value} {R : Ending → World → Prop} {u : FrameMode} (hu : u ≠ .run) {φ0 : Phi} {w0 : World} {ro : RO} {k : H → Bool}
    (hfin : ∀ φ h w, HR φ ν h w → Ext ro φ0 w0 φ w → φ0.le φ → h.ro = ro → k h = true → LeavesIn (FW none) 1 P fn tmps R [] u w) :
    ∀ (as : List ADef) (ds : List Deferred) (φ : Phi) (h : H) (w : World), DR φ ν as ds → HR φ ν h w → Ext ro φ0 w0 φ w → h.ro = ro → marksK as k h = true → LeavesInM (FW none) 1 P fn tmps R ds u w
  | [], ds, φ, h, w, hd, hr, hx, hro, hk => by
    cases ds with
    | nil => exact hfin φ h w hr hx hx.le hro hk
    | cons d ds => exact hd.elim
  | a :: as, ds, φ, h, w, hd, hr, hx, hro, hk => by
    cases ds with
    | nil => exact hd.elim
    | cons d ds =>
      obtain ⟨hd1, hd2⟩ := hd
      obtain ⟨af, aa⟩ := a
      have hk' : (vMap af false fun id => chk (Nat.ble h.ro.lim id) (T4.getK HD id h.bl fun b => AB.rec (motive := fun _ => Bool) (fun _ _ _ _ _ _ _ => false) (fun _ _ => false) (fun _ _ _ => false)
        (fun o => chk o (T4.setK HD id (.dfr false) h.bl fun bl => marksK as k ⟨h.ds, h.ro, h.next, bl⟩)) b)) = true := hk
      rcases vMap_true hk' with ⟨_, hf⟩ | ⟨id, e1, hk1⟩
      · cases hf
      · obtain ⟨c1, hk2⟩ := chk_true hk1
        obtain ⟨b, hb, hk3⟩ := T4.getK_true _ _ _ _ hk2
        cases b with
        | cells s n lw fz opn el rows => cases hk3
        | mapo es c => cases hk3
        | siter a b c => cases hk3
        | dfr o =>
          obtain ⟨c2, hk4⟩ := chk_true (show chk o _ = true from hk3)
          rw [T4.setK_eq] at hk4
          rw [c2] at hb
          rcases hd1 with ⟨id', p, e2, hp, hde⟩ | ⟨f, fs, cs, xs, ys, zs, e2, _, _, _, _⟩
          · simp only at e2
            rw [e1] at e2
            injection e2 with e2
            subst e2
            obtain ⟨h0, p', hp', hw⟩ := hr.bl id _ (hr.dom _ _ _ hp).1 hb
            rw [hp] at hp'; cases hp'
            have hw : w.heap[p.blk]? = some (.deferred (some [])) := by simpa using hw
            have hpb : p.blk < w.heap.size := (Array.getElem?_eq_some_iff.1 hw).1
            obtain ⟨g1, g2⟩ := hr.setObj hp (o := .deferred none) (b := .dfr false) (Nat.le_of_ble_eq_true c1) ⟨h0, p, hp, by simp [hpb]⟩
            have htake : (Instr.takeDeferred p.blk).run P w = .ok [] { w with heap := w.heap.setIfInBounds p.blk (.deferred none) } := by
              simp [Instr.takeDeferred, getObj, setObj, Sem.run, hw]
            refine ⟨hu, .inl ⟨p.blk, _, by rw [hde], htake, ?_⟩⟩
            exact marks_leave hu hfin as ds φ _ _ hd2 g1 (hx.trans (hro ▸ g2)) hro hk4
          · simp only at e2
            rw [e1] at e2; cases e2

def mkFunM (P : Program) (mk : MkCode) (f : FuncId) (r : FnD → Bool) : Bool :=
  match P.funcs[f]? with
  | none => false
  | some fn => match fn.body with
    | none => false
    | some c => bif Nat.ble fn.ntmps (4 ^ levels fn.ntmps) && Nat.ble (fn.params.size + fn.nfree) fn.ntmps && !(fn.name == "runtime.NumGoroutine") then
        (fun L => mk false L fn.ntmps c fun d => mkRess P L fn.ntmps fn.results.toList fun res => mkArgs L (fn.params.size + fn.nfree) 0 fun ent => (fun unk =>
          r fun cf args h kr kp => ent args unk fun ts => d cf ts ⟨[], h.ro, h.next, h.bl⟩
            (fun ts h' => marksK h'.ds (fun h' => res ts ⟨[], h'.ro, h'.next, h'.bl⟩ fun l => packK (isOneL fn.results.toList.length) l fun av => kr av ⟨h.ds, h'.ro, h'.next, h'.bl⟩) h')
            ⟨fun _ _ _ => false, fun ts h' => marksK h'.ds (fun h' => res ts ⟨[], h'.ro, h'.next, h'.bl⟩ fun l => packK (isOneL fn.results.toList.length) l fun av => kr av ⟨h.ds, h'.ro, h'.next, h'.bl⟩) h',
              fun _ av h' => marksK h'.ds (fun h' => kp av ⟨h.ds, h'.ro, h'.next, h'.bl⟩) h'⟩) (FT.unk L)) (levels fn.ntmps) else false

theorem mkFunM_true {P : Program} {ν : Nu} {mk : MkCode} (hmk : GoodMk P ν mk) {f : FuncId} {r : FnD → Bool} (h : mkFunM P mk f r = true) : ∃ d, FnGood P ν f d ∧ r d = true := by
  unfold mkFunM at h
  split at h
  · cases h
  · rename_i fn hf
    split at h
    · cases h
    · rename_i c hb
      cases hcond : (Nat.ble fn.ntmps (4 ^ levels fn.ntmps) && Nat.ble (fn.params.size + fn.nfree) fn.ntmps && !(fn.name == "runtime.NumGoroutine")) with
      | false => rw [hcond] at h; cases h
      | true =>
        rw [hcond, cond_true] at h
        simp only [Bool.and_eq_true, Bool.not_eq_true'] at hcond
        obtain ⟨⟨hN, hm⟩, hname⟩ := hcond
        have hN := Nat.le_of_ble_eq_true hN
        have hm := Nat.le_of_ble_eq_true hm
        generalize levels fn.ntmps = L at h hN
        obtain ⟨d, hd, h⟩ := hmk _ _ _ _ _ h
        obtain ⟨res, hres, h⟩ := mkRess_true (ν := ν) h
        obtain ⟨ent, hent, h⟩ := mkArgs_true h
        refine ⟨_, fun cf hc args h0 kr kp hk φ w vs hr hv => .inl ⟨callFunc_enter hf hb hname _ _, ?_⟩, h⟩
        obtain ⟨ts, hal, hfr, hk1⟩ := hent φ ν fn.ntmps args vs _ (Array.replicate fn.ntmps undef) _ hN (by omega) hv (FR.enter hr.gp ν L fn.ntmps) hk
        have hvl := hv.length
        rw [enter_tmps vs fn.ntmps (by omega)] at hfr
        refine callsW.1 (callsIn_of_wp_marks (F := FW none) (n := 1) hf hb trivial (wpIn_mono (hd cf hc none (.inl rfl) φ ts ⟨[], h0.ro, h0.next, h0.bl⟩ ⟨_, []⟩ w _ _ ⟨hfr, hr.ds [], trivial⟩ hk1) fun e a' w' hp => ?_))
        have hend : At φ ν L fn.ntmps h0.ro w a' w' (fun ts h' => marksK h'.ds (fun h' => res ts ⟨[], h'.ro, h'.next, h'.bl⟩ fun l => packK (isOneL fn.results.toList.length) l fun av => kr av ⟨h0.ds, h'.ro, h'.next, h'.bl⟩) h') →
            LeavesInM (FW none) 1 P fn a'.tmps (FPost φ ν h0.ro w h0.ds kr kp) a'.defers .returning w' := by
          rintro ⟨φ', ts', h', hst, hx, hro, hk2⟩
          refine marks_leave (φ0 := φ') (w0 := w') (ro := h0.ro) (by simp) (fun φ2 h2 w2 hr2 hx2 hle2 hro2 hk3 => ?_) h'.ds a'.defers φ' h' w' hst.dr hst.hr (Ext.refl _ _ _) hro hk2
          obtain ⟨rs, avs, hrun, hvs, hl, hk5⟩ := hres φ2 ts' ⟨[], h2.ro, h2.next, h2.bl⟩ ⟨a'.tmps, []⟩ w2 _ ⟨hst.fr.mono hle2, hr2.ds [], trivial⟩ hk3
          obtain ⟨av, hav, hk6⟩ := packK_true hvs hl hk5
          exact ⟨_, run_results hrun, φ2, av, _, hav, hr2.ds h0.ds, hx.trans hx2, hro2, rfl, hk6⟩
        cases e with
        | normal => exact hend hp
        | ret => exact hend hp
        | exit id => obtain ⟨_, _, _, _, _, _, hk2⟩ := hp; cases hk2
        | goto l => exact hp.elim
        | panic chain =>
          obtain ⟨φ', ts', h', v, av, hch, hvr, hst, hx, hro, hk2⟩ := hp
          refine marks_leave (φ0 := φ') (w0 := w') (ro := h0.ro) (by simp) (fun φ2 h2 w2 hr2 hx2 hle2 hro2 hk3 => ?_) h'.ds a'.defers φ' h' w' hst.dr hst.hr (Ext.refl _ _ _) hro hk2
          exact ⟨φ2, av, _, v, hch, hvr.mono hle2, hr2.ds h0.ds, hx.trans hx2, hro2, rfl, hk3⟩
        | outgrown => exact hp.elim

end
end Go.Abs

/-
  A verified evaluator: slices cleared; slices grown by zeroes.
-/
namespace Go.Abs
noncomputable section

theorem run_storeCells_shift (P : Program) (g o i : Nat) : ∀ (vs : List Value) (k : Nat) (w : World), (storeCells ⟨g, o, none⟩ vs (i + k)).run P w = (storeCells ⟨g, o + i, none⟩ vs k).run P w
  | [], k, w => rfl
  | v :: vs, k, w => by
    simp only [storeCells, Sem.run_bind, addr_add]
    rw [show o + (i + k) = o + i + k by omega]
    congr 1
    funext u w'
    rw [show i + k + 1 = i + (k + 1) by omega]
    exact run_storeCells_shift P g o i vs (k + 1) w'

theorem run_storeCells_append (P : Program) (g o : Nat) (ys : List Value) : ∀ (xs : List Value) (i : Nat) (w w1 : World), (storeCells ⟨g, o, none⟩ xs i).run P w = .ok () w1 → (storeCells ⟨g, o, none⟩ (xs ++ ys) i).run P w = (storeCells ⟨g, o, none⟩ ys (i + xs.length)).run P w1
  | [], i, w, w1, h => by
    have : w = w1 := by
      have h : (pure () : Sem Unit).run P w = .ok () w1 := h
      rw [Sem.run_pure] at h
      exact (Result.ok.inj h).2
    subst this
    simp
  | v :: xs, i, w, w1, h => by
    simp only [storeCells, List.cons_append, Sem.run_bind] at h ⊢
    cases hs : (store ((⟨g, o, none⟩ : Addr).add i) v).run P w with
    | ok u w2 =>
      rw [hs] at h
      simp only [Result.andThen_ok] at h ⊢
      rw [run_storeCells_append P g o ys xs (i + 1) w2 w1 h]
      congr 2
      simp; omega
    | _ => rw [hs] at h; cases h

theorem zeroCells_succ {zs : List Value} (hpos : 0 < zs.length) (n : Nat) : (Builtin.zeroCells ⟨zs⟩ (n + 1)).toList = zs ++ (Builtin.zeroCells ⟨zs⟩ n).toList := by
  have hs : (⟨zs⟩ : Array Value).size = zs.length := rfl
  apply List.ext_getElem?
  intro i
  unfold Builtin.zeroCells
  simp only [Array.toList_map, Array.toList_range, hs, List.getElem?_map]
  by_cases h : i < zs.length
  · rw [List.getElem?_append_left h, List.getElem?_range (by rw [Nat.succ_mul]; omega), Option.map_some]
    have := zero_at hpos i
    rw [hs] at this
    rw [this, Nat.mod_eq_of_lt h, List.getElem?_eq_getElem h]
    rfl
  · rw [List.getElem?_append_right (by omega), List.getElem?_map]
    by_cases h2 : i < (n + 1) * zs.length
    · rw [List.getElem?_range h2, List.getElem?_range (by rw [Nat.succ_mul] at h2; omega), Option.map_some, Option.map_some]
      congr 2
      rw [← Nat.mod_eq_sub_mod (by omega)]
    · rw [List.getElem?_eq_none (by simpa using h2), List.getElem?_eq_none (by simp; rw [Nat.succ_mul] at h2; omega)]

/-! ### clear, of a slice -/
def clrK (id ver size : Nat) (zs : List AV) (h : H) (k : H → Bool) : Nat → Nat → Bool := fun n => Nat.rec (motive := fun _ => Nat → H → Bool) (fun _ h => k h) (fun _ ih off h => storeK id ver off zs size h fun h => forceN (Nat.add off size) fun off => ih off h) n |> fun f off => f off h

theorem clrK_true {P : Program} {φ : Phi} {ν : Nu} {id ver : Nat} {p : PB} {zs : List Value} (hpos : 0 < zs.length) (h1 : ∀ v ∈ zs, v.oneCell' = true) {k : H → Bool} :
    ∀ {n off : Nat} {h : H} {w : World}, HR φ ν h w → φ id ver = some p → clrK id ver zs.length (zs.map ofVal1) h k n off = true →
      ∃ h' w', (storeCells ⟨p.blk, off, none⟩ (Builtin.zeroCells ⟨zs⟩ n).toList).run P w = .ok () w' ∧ HR φ ν h' w' ∧ Ext h.ro φ w φ w' ∧ h'.ro = h.ro ∧ h'.ds = h.ds ∧ k h' = true
  | 0, off, h, w, hr, hp, hk => by
    refine ⟨h, w, ?_, hr, Ext.refl _ _ _, rfl, rfl, hk⟩
    have : (Builtin.zeroCells ⟨zs⟩ 0).toList = [] := by simp [Builtin.zeroCells]
    rw [this]
    rfl
  | n + 1, off, h, w, hr, hp, hk => by
    have hk' : storeK id ver off (zs.map ofVal1) zs.length h (fun h => forceN (Nat.add off zs.length) fun off => clrK id ver zs.length (zs.map ofVal1) h k n off) = true := hk
    have hvs : VRs φ ν (zs.map ofVal1) zs := ofVals_VR φ ν zs
    obtain ⟨h2, w2, g1, g2, g3, g4, g5, _, g6⟩ := storeK_true (P := P) hr hp hvs h1 (by simp) hpos hk'
    rw [forceN_eq] at g6
    obtain ⟨h3, w3, q1, q2, q3, q4, q5, q6⟩ := clrK_true (P := P) hpos h1 g2 hp g6
    refine ⟨h3, w3, ?_, q2, g3.trans (by rw [← g4]; exact q3), by rw [q4, g4], by rw [q5, g5], q6⟩
    rw [zeroCells_succ hpos, run_storeCells_append P p.blk off _ zs 0 w w2 g1, Nat.zero_add]
    have := run_storeCells_shift P p.blk off zs.length (Builtin.zeroCells ⟨zs⟩ n).toList 0 w2
    rw [Nat.add_zero] at this
    rw [this]
    exact q1

def mkClear (P : Program) (L N : Nat) (t : TypeId) (x : Operand) (r : A L → Bool) : Bool :=
  match P.underlying t with
  | some (.slice el) => match zeroOf P el with
    | some zs => mkE L N x fun ex => (fun avs => forceN zs.length fun size => r fun ts h k => vSl (ex ts) (k (.tup []) h) fun id ver off len _ _ => clrK id ver size avs h (fun h => k (.tup []) h) len off) (zs.map ofVal1)
    | none => false
  | _ => false

theorem mkClear_true {P : Program} {ν : Nu} {L N : Nat} {o : Oper} {t : TypeId} {x : Operand} (ho : o.op = .call { callee := .builtin .clear, args := ⟨[x]⟩, argTypes := ⟨[t]⟩ }) {r : A L → Bool} (h : mkClear P L N t x r = true) :
    ∃ e, GoodA P ν L N o e ∧ r e = true := by
  unfold mkClear at h
  split at h
  · rename_i el hd
    split at h
    · rename_i zs hzs
      obtain ⟨ex, hex, h⟩ := mkE_true h
      simp only [forceN_eq] at h
      obtain ⟨i, z, hi, hzz, hzc, hzl, hone, hpos⟩ := zeroOf_some hzs
      refine ⟨_, fun φ ts h' a w hst k hk => .inl ?_, h⟩
      have hv := hex φ ν ts a hst.fr
      generalize hvx : a.eval x = vx at hv
      have e : (⟨[x]⟩ : Array Operand).map a.eval = #[a.eval x] := by simp
      rcases vSl_true hk with ⟨e3, hk3⟩ | ⟨id, ver, off, len, mc, exx, e3, hk3⟩
      · rw [e3] at hv
        cases hv
        refine ⟨.value (.tuple #[]), .tuple #[], _, φ, h', w, ?_, .inl rfl, .tup .nil, hst.hr, Ext.refl _ _ _, rfl, rfl, hk3⟩
        rw [execOp_builtin ho, e, hvx]
        simp [builtin, Builtin.clear_, run_underlying' hd]
      · rw [e3] at hv
        cases hv with
        | sl hp hm hl hx hob hf =>
          rename_i cap p off'
          obtain ⟨h2, w2, g1, g2, g3, g4, g5, g6⟩ := clrK_true (P := P) hpos hone hst.hr hp hk3
          refine ⟨.value (.tuple #[]), .tuple #[], _, φ, h2, w2, ?_, .inl rfl, .tup .nil, g2, g3, g4, g5, g6⟩
          rw [execOp_builtin ho, e, hvx]
          cases len with
          | zero =>
            have e0 : (Builtin.zeroCells ⟨zs⟩ 0).toList = [] := by simp [Builtin.zeroCells]
            rw [e0] at g1
            have g1 : (pure () : Sem Unit).run P w = .ok () w2 := g1
            rw [Sem.run_pure] at g1
            have := (Result.ok.inj g1).2
            subst this
            simp [builtin, Builtin.clear_, run_underlying' hd]
          | succ n =>
            have hoo := hf (by omega)
            subst hoo
            simp [builtin, Builtin.clear_, run_underlying' hd, run_zeroValue' hi hzz, hzc, g1]
    · cases h
  · cases h

/-! ### append(nil, make([]E, n)...) -/
def mkAppendZ (P : Program) (L N : Nat) (t tn : TypeId) (x y : Operand) (r : A L → Bool) : Bool :=
  match P.underlying t, P.underlying tn with
  | some (.slice el), some (.int _) => match P.info? el, zeroOf P el with
    | some i, some zs => mkE L N x fun fx => mkE L N y fun fy => (fun rows => forceN i.size fun size => r fun ts h k => vSl (fx ts) (vNat (fy ts) fun n => chk (Nat.blt 0 n) (chk (Nat.ble n 4096) (chk (Nat.ble (Nat.mul n i.bytes) 1048576)
        (forceN (Nat.mul n size) fun m => newB (.cells size m 0 0 true el rows) h fun id h => k (.sl id m 0 n n false) h)))) fun _ _ _ _ _ _ => false) (T4.full (zs.map ofVal1) RD)
    | _, _ => false
  | _, _ => false

theorem mkAppendZ_true {P : Program} {ν : Nu} {L N : Nat} {o : Oper} {t tn : TypeId} {x y : Operand} (ho : o.op = .call { callee := .builtin .append, args := ⟨[x, y]⟩, argTypes := ⟨[t, tn]⟩ }) {r : A L → Bool} (h : mkAppendZ P L N t tn x y r = true) :
    ∃ e, GoodA P ν L N o e ∧ r e = true := by
  unfold mkAppendZ at h
  split at h
  · rename_i el kn hd htn
    split at h
    · rename_i i zs hi hzs
      obtain ⟨fx, hfx, h⟩ := mkE_true h
      obtain ⟨fy, hfy, h⟩ := mkE_true h
      simp only [forceN_eq] at h
      obtain ⟨i', z, hi', hzz, hzc, hzl, hone, hpos⟩ := zeroOf_some hzs
      rw [hi] at hi'; cases hi'
      refine ⟨_, fun φ ts h' a w hst k hk => .inl ?_, h⟩
      rcases vSl_true hk with ⟨e1, hk1⟩ | ⟨id, ver, off, len, mc, exx, e1, hk1⟩
      · obtain ⟨K, n, e2, hk2⟩ := vNat_true hk1
        obtain ⟨c1, hk3⟩ := chk_true hk2
        obtain ⟨c2, hk4⟩ := chk_true hk3
        obtain ⟨c3, hk5⟩ := chk_true hk4
        rw [Nat.blt_eq] at c1
        have c2 := Nat.le_of_ble_eq_true c2
        have c3 : n * i.bytes ≤ 1048576 := Nat.le_of_ble_eq_true c3
        have hv1 := hfx φ ν ts a hst.fr
        have hv2 := hfy φ ν ts a hst.fr
        rw [e1] at hv1
        rw [e2] at hv2
        generalize hvx : a.eval x = vx at hv1
        generalize hvy : a.eval y = vy at hv2
        cases hv1
        cases hv2
        have hrun := Lib.run_append_nil_zeros (P := P) w t tn o.type el i z K kn hd htn hi hzz n c1 (by omega) (by omega) (by omega)
        have hge := grownCap_ge w n 0 el
        generalize grownCap w n 0 el = cap at hrun hge
        rw [hzc] at hrun
        rw [show Nat.mul n i.size = n * zs.length by rw [hzl]; rfl, ← hzl] at hk5
        obtain ⟨hnx, hk6⟩ := newB_true hk5
        have hs : (⟨zs⟩ : Array Value).size = zs.length := rfl
        have hcs : (Builtin.zeroCells ⟨zs⟩ n ++ Builtin.zeroCells ⟨zs⟩ (cap - n)).size = cap * zs.length := by
          simp [Builtin.zeroCells, hs]
          rw [← Nat.add_mul]
          congr 1
          omega
        have hcr : CR φ ν zs.length (T4.full (zs.map ofVal1) RD) (n * zs.length) (Builtin.zeroCells ⟨zs⟩ n ++ Builtin.zeroCells ⟨zs⟩ (cap - n)) := by
          have h0 := full_CR (φ := φ) (ν := ν) hpos hone (n * zs.length) (fun j => (⟨zs⟩ : Array Value)[j % (⟨zs⟩ : Array Value).size]!) (fun j => zero_at hpos j)
          intro j hj
          obtain ⟨v, g1, g2, g3⟩ := h0 j hj
          refine ⟨v, ?_, g2, g3⟩
          rw [Array.getElem?_append_left (by simpa [Builtin.zeroCells, hs] using hj)]
          exact g1
        obtain ⟨g1, g2, g3⟩ := (hst.hr.drew (w.drawn + 1)).newCells hnx (by_ := 0) (el := el) (opn := true) hpos hcr (by rw [hcs]; exact Nat.mul_le_mul_right _ hge) (fun h => by cases h)
        refine ⟨_, _, _, _, _, _, run_append_op ho (by rw [hvx, hvy]; exact hrun), .inl rfl, .sl (Phi.new_self _ _ _ _) hge (Nat.le_refl _) (fun h => by cases h) (fun _ => ⟨?_, by simp⟩), g1, ?_, rfl, rfl, hk6⟩
        · show 0 + cap * zs.length ≤ (Builtin.zeroCells ⟨zs⟩ n ++ Builtin.zeroCells ⟨zs⟩ (cap - n)).size
          rw [hcs]; omega
        · exact (Ext.refl _ _ _).drew _ |>.trans (g2 _)
      · cases hk1
    · cases h
  · cases h

end
end Go.Abs

/-
  A verified evaluator: numbers of which only some rests are known.
-/
namespace Go.Abs
noncomputable section

/-- what an operation by a constant gives of a symbol -/
structure Rule where
  op : BinOp
  K : IntKind
  s : Nat
  K' : IntKind
  c : Int
  av : AV

def SymOk (P : Program) (ν : Nu) (S : List Rule) : Prop := ∀ q ∈ S, ∀ (t : TypeId) (w : World), ∃ v, (binOp q.op t (.int q.K (ν.f q.s)) (.int q.K' q.c)).run P w = .ok v w ∧ ∀ φ, VR φ ν q.av v

def symOr (v : AV) (a : IntKind → Nat → Bool) (b : Bool) : Bool :=
  AV.rec (motive_1 := fun _ => Bool) (motive_2 := fun _ => Bool) b a b (fun _ => b) b (fun _ _ _ _ _ => b) (fun _ _ => b) b (fun _ _ _ => b) b b
    (fun _ _ => b) (fun _ _ _ => b) (fun _ _ _ _ _ _ => b) (fun _ _ => b) (fun _ => b) (fun _ _ => b) false (fun _ _ _ _ => false) v
theorem symOr_true {v : AV} {a : IntKind → Nat → Bool} {b : Bool} (h : symOr v a b = true) : (∃ K s, v = .sym K s ∧ a K s = true) ∨ b = true := by
  cases v <;> first | exact .inl ⟨_, _, rfl, h⟩ | exact .inr h

def ruleK (K : IntKind) (s : Nat) (S : List Rule) (k : AV → Bool) : Bool :=
  List.rec (motive := fun _ => Bool) false (fun q _ ih => bif isIntK q.K K && Nat.beq q.s s then k q.av else ih) S
theorem ruleK_true {K : IntKind} {s : Nat} {k : AV → Bool} : ∀ {S : List Rule}, ruleK K s S k = true → ∃ q ∈ S, q.K = K ∧ q.s = s ∧ k q.av = true
  | [], h => by cases h
  | q :: S, h => by
    have h' : (bif isIntK q.K K && Nat.beq q.s s then k q.av else ruleK K s S k) = true := h
    cases hb : (isIntK q.K K && Nat.beq q.s s) with
    | true =>
      rw [hb] at h'
      rw [Bool.and_eq_true] at hb
      exact ⟨q, List.mem_cons_self, isIntK_true hb.1, Nat.eq_of_beq_eq_true hb.2, h'⟩
    | false =>
      rw [hb] at h'
      obtain ⟨q', g1, g2⟩ := ruleK_true (S := S) h'
      exact ⟨q', List.mem_cons_of_mem _ g1, g2⟩

def ruleB (op : BinOp) (K' : IntKind) (c : Int) (q : Rule) : Bool := decide (q.op = op) && decide (q.K' = K') && decide (q.c = c)

def mkBinS (P : Program) (S : List Rule) (L N : Nat) (op : BinOp) (t : TypeId) (x y : Operand) (r : V L → Bool) : Bool :=
  match y with
  | .const (.int K' c) => (fun S' => match S' with
      | [] => mkBin P L N op t x y r
      | q :: S'' => mkE L N x fun ex => mkBin P L N op t x y fun e => r fun ts h k => symOr (ex ts) (fun K s => ruleK K s (q :: S'') k) (e ts h k)) (S.filter (ruleB op K' c))
  | _ => mkBin P L N op t x y r

theorem mkBinS_true {P : Program} {ν : Nu} {S : List Rule} (hS : SymOk P ν S) {L N : Nat} {o : Oper} {op : BinOp} {t yt : TypeId} {x y : Operand} (ho : o.op = .binOp op t x y yt) {r : V L → Bool} (h : mkBinS P S L N op t x y r = true) :
    ∃ e, GoodV P ν L N o e ∧ r e = true := by
  unfold mkBinS at h
  split at h
  · rename_i K' c
    have hmem : ∀ q, q ∈ S.filter (ruleB op K' c) → q ∈ S ∧ q.op = op ∧ q.K' = K' ∧ q.c = c := by
      intro q hq
      rw [List.mem_filter] at hq
      obtain ⟨g1, g2⟩ := hq
      simp only [ruleB, Bool.and_eq_true, decide_eq_true_eq] at g2
      exact ⟨g1, g2.1.1, g2.1.2, g2.2⟩
    dsimp only at h
    generalize S.filter (ruleB op K' c) = S' at h hmem
    split at h
    · exact mkBin_true ho h
    · rename_i q S''
      obtain ⟨ex, hex, h⟩ := mkE_true h
      obtain ⟨e, he, h⟩ := mkBin_true (ν := ν) ho h
      refine ⟨_, fun φ ts h' a w hst k hk => ?_, h⟩
      rcases symOr_true hk with ⟨K, s, e1, hk1⟩ | hk1
      · obtain ⟨q', g1, g2, g3, hk2⟩ := ruleK_true hk1
        obtain ⟨m1, m2, m3, m4⟩ := hmem q' g1
        obtain ⟨v, hrun, hv⟩ := hS q' m1 t w
        have h1 := hex φ ν ts a hst.fr
        rw [e1] at h1
        generalize hvx : a.eval x = vx at h1
        cases h1
        rw [m2, g2, g3, m3, m4] at hrun
        exact ⟨v, q'.av, execOp_bin ho (by rw [hvx]; exact eqGuard_plain _ _ _ _ _ _ rfl) (by rw [hvx]; exact hrun), hv φ, hk2⟩
      · exact he φ ts h' a w hst k hk1
  · exact mkBin_true ho h

end
end Go.Abs

/-
  A verified evaluator: bytes made a string.
-/
namespace Go.Abs
noncomputable section

def bytesOfK (rows : T4 (List AV)) (len : Nat) : Nat → (Nat → Bool) → Bool :=
  Nat.rec (motive := fun _ => Nat → (Nat → Bool) → Bool) (fun _ k => k 0) (fun _ ih j k => cellK 1 rows j fun v => vInt v fun K m => chk (isIntK K .u8) (Int.rec (motive := fun _ => Bool) (fun b => chk (Nat.blt b 256)
    (forceN (Nat.add j 1) fun j => ih j fun c => forceN (Nat.add b (Nat.mul 256 c)) k)) (fun _ => false) m)) len

theorem bytesOfK_true {rows : T4 (List AV)} : ∀ {len j : Nat} {k : Nat → Bool}, bytesOfK rows len j k = true → ∃ l : List UInt8, l.length = len ∧ (∀ (i : Nat) (b : UInt8), l[i]? = some b → cellAt 1 rows (j + i) = .int .u8 b.toNat) ∧ k (enc l) = true
  | 0, j, k, h => ⟨[], rfl, fun i b hi => by simp at hi, h⟩
  | n + 1, j, k, h => by
    have h' : (cellK 1 rows j fun v => vInt v fun K m => chk (isIntK K .u8) (Int.rec (motive := fun _ => Bool) (fun b => chk (Nat.blt b 256)
      (forceN (Nat.add j 1) fun j => bytesOfK rows n j fun c => forceN (Nat.add b (Nat.mul 256 c)) k)) (fun _ => false) m)) = true := h
    have h1 := cellK_true h'
    obtain ⟨K, m, e1, h2⟩ := vInt_true h1
    obtain ⟨c1, h3⟩ := chk_true h2
    have hK := isIntK_true c1
    subst hK
    cases m with
    | negSucc m => cases h3
    | ofNat b =>
      obtain ⟨c2, h4⟩ := chk_true h3
      rw [forceN_eq] at h4
      rw [Nat.blt_eq] at c2
      obtain ⟨l, g1, g2, g3⟩ := bytesOfK_true h4
      rw [forceN_eq] at g3
      have hb : b.toUInt8.toNat = b := by
        have : (b.toUInt8).toNat = b % 256 := rfl
        omega
      refine ⟨b.toUInt8 :: l, by simp [g1], fun i x hi => ?_, ?_⟩
      · rcases i with _ | i
        · simp at hi
          rw [Nat.add_zero, e1, ← hi, hb]; rfl
        · have := g2 i x (by simpa using hi)
          rw [← this]
          congr 1
          show j + (i + 1) = j + 1 + i
          omega
      · have e : Nat.add b (Nat.mul 256 (enc l)) = enc (b.toUInt8 :: l) := by
          show b + 256 * enc l = b.toUInt8.toNat + 256 * enc l
          rw [hb]
        rw [e] at g3
        exact g3


def csC (ver off len : Nat) (k : AV → Bool) (s _n _fz : Nat) (_opn : Bool) (_el : TypeId) (rows : T4 (List AV)) : Bool :=
  chk (Nat.beq s 1 && Nat.ble (Nat.add off len) ver) (bytesOfK rows len off fun c => k (.str len c))

def mkConvS (P : Program) (L N : Nat) (src dst : TypeId) (x : Operand) (r : V L → Bool) : Bool :=
  mkE L N x fun ex => match P.underlying src, P.underlying dst with
  | some (.slice e), some .string => match P.underlying e with
    | some (.int .u8) => r fun ts h k => vSl (ex ts) (k (.str 0 0)) fun id ver off len _ _ => getB id ver h (csC ver off len k)
    | _ => false
  | _, _ => false

theorem mkConvS_true {P : Program} {ν : Nu} {L N : Nat} {o : Oper} {src dst : TypeId} {x : Operand} (ho : o.op = .convert src dst x) {r : V L → Bool} (h : mkConvS P L N src dst x r = true) : ∃ e, GoodV P ν L N o e ∧ r e = true := by
  obtain ⟨ex, hex, h⟩ := mkE_true h
  split at h
  · rename_i e hsrc hdst
    split at h
    · rename_i he
      refine ⟨_, fun φ ts h' a w hst k hk => ?_, h⟩
      have hv := hex φ ν ts a hst.fr
      generalize hvx : a.eval x = vx at hv
      rcases vSl_true hk with ⟨e1, hk1⟩ | ⟨id, ver, off, len, mc, exx, e1, hk1⟩
      · rw [e1] at hv
        cases hv
        refine ⟨.string ByteArray.empty, _, ?_, .str ⟨rfl, rfl⟩, hk1⟩
        unfold execOp; rw [ho]
        simp only [Sem.run_bind, hvx, run_convert_bytes_nil (P := P) (w := w) src e hsrc he 0 0 dst hdst, Result.andThen_ok, Sem.run_pure]
      · rw [e1] at hv
        cases hv with
        | sl hp hm hl hx hob hf =>
          rename_i cap p off'
          obtain ⟨s, n, lw, fz, opn, el, rows, hb, hl2, hs, hbr, hk2⟩ := getB_true hst.hr hp hk1
          unfold csC at hk2
          obtain ⟨c1, hk3⟩ := chk_true hk2
          rw [Bool.and_eq_true] at c1
          have c2 := Nat.eq_of_beq_eq_true c1.1
          have c3 : off + len ≤ ver := Nat.le_of_ble_eq_true c1.2
          obtain ⟨l, g1, g2, g3⟩ := bytesOfK_true hk3
          obtain ⟨_, _, hcc⟩ := hbr
          obtain ⟨cc, fr, hb2, hsz, hv, hcell, _, _⟩ := hcc hl2
          have hc : ∀ j (hj : j < l.length), w.cell? ((⟨p.blk, off', none⟩ : Addr).add j) = some (.int .u8 (l[j].toNat : Int)) := by
            intro j hj
            have hoo := hf (by omega)
            rw [hoo]
            obtain ⟨v, d1, _, d3⟩ := hcell (off + j) (by omega)
            have d4 := g2 j l[j] (List.getElem?_eq_getElem hj)
            rw [c2, d4] at d3
            cases d3
            rw [addr_add, cell?_of hb2, d1]
          have hrun := run_convert_bytes_back (P := P) w src dst e ⟨p.blk, off', none⟩ cap l hsrc he hdst hc
          rw [g1] at hrun
          refine ⟨.string ⟨l.toArray⟩, _, ?_, .str (by rw [← g1]; exact IsStr.of_list l), g3⟩
          unfold execOp; rw [ho]
          simp only [Sem.run_bind, hvx, hrun, Result.andThen_ok, Sem.run_pure]
    · cases h
  · cases h

end
end Go.Abs

/-
  A verified evaluator: the code of a function: what is not covered answers false when it is run.
-/
namespace Go.Abs
noncomputable section

def dFalse (L : Nat) : D L := fun _ _ _ _ _ => false
theorem dFalse_good {P : Program} {ν : Nu} {R : Bool} {L N : Nat} {c : Code} : Good P ν R L N c (dFalse L) := fun _ _ _ _ _ _ _ _ _ _ _ _ hk => by cases hk
theorem dFalse_goodO {P : Program} {ν : Nu} {L N : Nat} {o : Oper} : GoodO P ν L N o (dFalse L) := fun _ _ _ _ _ _ _ _ _ _ hk => by cases hk

def safeD {L : Nat} (mk : (D L → Bool) → Bool) (r : D L → Bool) : Bool := bif mk (fun _ => true) then mk r else r (dFalse L)
theorem safeD_true {L : Nat} {mk : (D L → Bool) → Bool} {p : D L → Prop} (hp : p (dFalse L)) (hm : ∀ r, mk r = true → ∃ d, p d ∧ r d = true) {r : D L → Bool} (h : safeD mk r = true) : ∃ d, p d ∧ r d = true := by
  unfold safeD at h
  cases hb : mk (fun _ => true) with
  | true => rw [hb] at h; exact hm r h
  | false => rw [hb] at h; exact ⟨_, hp, h⟩

/-- made safely, or not (which is quicker) -/
def safeB {L : Nat} (sf : Bool) (mk : (D L → Bool) → Bool) (r : D L → Bool) : Bool := bif sf then safeD mk r else mk r
theorem safeB_true {L : Nat} {sf : Bool} {mk : (D L → Bool) → Bool} {p : D L → Prop} (hp : p (dFalse L)) (hm : ∀ r, mk r = true → ∃ d, p d ∧ r d = true) {r : D L → Bool} (h : safeB sf mk r = true) : ∃ d, p d ∧ r d = true := by
  unfold safeB at h
  cases sf with
  | true => exact safeD_true hp hm h
  | false => exact hm r h

def mkValY (P : Program) (S : List Rule) (L N : Nat) (op : Op) (r : V L → Bool) : Bool :=
  match op with
  | .typeAssert x _ asserted ok => mkAssert P L N x asserted ok r
  | .binOp op t x y _ => bif aggOp P t then mkBinE P L N op t x y r else mkBinS P S L N op t x y r
  | op => mkValX P L N op r

theorem mkValY_true {P : Program} {ν : Nu} {S : List Rule} (hS : SymOk P ν S) {L N : Nat} {o : Oper} {r : V L → Bool} (h : mkValY P S L N o.op r = true) : ∃ e, GoodV P ν L N o e ∧ r e = true := by
  unfold mkValY at h
  split at h
  · rename_i x xT asserted ok ho; exact mkAssert_true ho h
  · rename_i op t x y yt ho
    cases hb : aggOp P t with
    | true => rw [hb] at h; exact mkBinE_true ho h
    | false => rw [hb] at h; exact mkBinS_true hS ho h
  · exact mkValX_true h

/-- does the operation leave memory alone? -/
def isValY (P : Program) (o : Oper) : Bool := match o.op with | .defer _ => false | .alloc _ => false | _ => isVal P o

def isIntT (P : Program) (t : TypeId) : Bool := match P.underlying t with | some (.int _) => true | _ => false

def mkOpY (P : Program) (S : List Rule) (L N : Nat) (o : Oper) (r : D L → Bool) : Bool :=
  match o.op with
  | .typeAssert .. | .binOp .. => mkValY P S L N o.op (putV L N o.dst r)
  | .convert src dst x => bif isSliceT P dst then mkConvB P L N src dst x (putA L N o.dst r) else bif isSliceT P src then mkConvS P L N src dst x (putV L N o.dst r) else mkOpX P L N o r
  | .call { callee := .builtin .clear, args := ⟨[x]⟩, argTypes := ⟨[t]⟩ } => mkClear P L N t x (putA L N o.dst r)
  | .call { callee := .builtin .append, args := ⟨[x, y]⟩, argTypes := ⟨[t, tx]⟩ } => bif isIntT P tx then mkAppendZ P L N t tx x y (putA L N o.dst r) else mkOpX P L N o r
  | _ => mkOpX P L N o r

theorem mkOpY_true {P : Program} {ν : Nu} {S : List Rule} (hS : SymOk P ν S) {L N : Nat} {o : Oper} {r : D L → Bool} (h : mkOpY P S L N o r = true) : ∃ d, GoodO P ν L N o d ∧ r d = true := by
  unfold mkOpY at h
  split at h
  · obtain ⟨e, he, h⟩ := mkValY_true hS h; exact he.good h
  · obtain ⟨e, he, h⟩ := mkValY_true hS h; exact he.good h
  · rename_i src dst x ho
    cases hb : isSliceT P dst with
    | true => rw [hb] at h; obtain ⟨e, he, h⟩ := mkConvB_true ho h; exact he.good h
    | false =>
      rw [hb] at h
      cases hb2 : isSliceT P src with
      | true => rw [hb2] at h; obtain ⟨e, he, h⟩ := mkConvS_true ho h; exact he.good h
      | false => rw [hb2] at h; exact mkOpX_true h
  · rename_i x t ho; obtain ⟨e, he, h⟩ := mkClear_true ho h; exact he.good h
  · rename_i x y t tx ho
    cases hb : isIntT P tx with
    | true => rw [hb] at h; obtain ⟨e, he, h⟩ := mkAppendZ_true ho h; exact he.good h
    | false => rw [hb] at h; exact mkOpX_true h
  · exact mkOpX_true h

/-- in a round of a range over a function nothing is deferred -/
def ndR (R : Bool) (o : Oper) : Bool := match R, o.op with | true, .defer _ => false | _, _ => true
theorem ndR_true {o : Oper} (h : ndR true o = true) : NoDefer o := by
  intro c hc
  unfold ndR at h
  rw [hc] at h
  cases h

def mkOpR (P : Program) (S : List Rule) (R : Bool) (L N : Nat) (o : Oper) (r : D L → Bool) : Bool := bif ndR R o then mkOpY P S L N o r else false
def mkOpS (P : Program) (S : List Rule) (sf R : Bool) (L N : Nat) (o : Oper) (r : D L → Bool) : Bool := bif ndR R o then safeB sf (mkOpY P S L N o) r else false

theorem mkOpR_true {P : Program} {ν : Nu} {S : List Rule} (hS : SymOk P ν S) {R : Bool} {L N : Nat} {o : Oper} {r : D L → Bool} (h : mkOpR P S R L N o r = true) : (∃ d, GoodO P ν L N o d ∧ r d = true) ∧ ndR R o = true := by
  unfold mkOpR at h
  cases hb : ndR R o with
  | false => rw [hb] at h; cases h
  | true => rw [hb] at h; exact ⟨mkOpY_true hS h, rfl⟩
theorem mkOpS_true {P : Program} {ν : Nu} {S : List Rule} (hS : SymOk P ν S) {sf R : Bool} {L N : Nat} {o : Oper} {r : D L → Bool} (h : mkOpS P S sf R L N o r = true) : (∃ d, GoodO P ν L N o d ∧ r d = true) ∧ ndR R o = true := by
  unfold mkOpS at h
  cases hb : ndR R o with
  | false => rw [hb] at h; cases h
  | true => rw [hb] at h; exact ⟨safeB_true dFalse_goodO (fun _ h => mkOpY_true hS h) h, rfl⟩

/-- a piece of code without ranges over functions -/
def mkRnd (P : Program) (S : List Rule) (sf : Bool) (L N : Nat) (c : Code) (r : D L → Bool) : Bool :=
  dec L N (mkOpS P S sf true L N) (fun ops => safeB sf (mkDraw P L N (fun o r => mkValY P S L N o.op r) (mkOpR P S true L N) (isValY P) ops)) (fun _ _ _ _ _ => false) c r

theorem isValY_nd {P : Program} (o : Oper) (h : isValY P o = true) : NoDefer o := by
  intro c hc
  unfold isValY at h
  rw [hc] at h
  cases h
theorem isValY_al {P : Program} (o : Oper) (t : TypeId) (hc : o.op = .alloc t) : isValY P o = false := by
  unfold isValY
  rw [hc]

theorem mkRnd_true {P : Program} {ν : Nu} {S : List Rule} (hS : SymOk P ν S) {sf : Bool} {L N : Nat} (c : Code) (r : D L → Bool) (h : mkRnd P S sf L N c r = true) : ∃ d, Good P ν true L N c d ∧ r d = true := by
  refine dec_sound (mkOp := mkOpS P S sf true L N) (fun o r h => (mkOpS_true hS h).1) (fun _ o r h => ndR_true (mkOpS_true hS (ν := ν) h).2) (fun id ops r h => ?_) (fun _ _ _ _ r h => by cases h) c r h
  exact safeB_true dFalse_good (fun r h => mkDraw_true (fun o r h => mkValY_true hS h) (fun o r h => (mkOpR_true hS h).1) (fun _ o r h => ndR_true (mkOpR_true hS (ν := ν) h).2) (fun o h => isValY_nd o h) (fun o t h => isValY_al o t h) h) h

/-- the code of a function; 'gs' is the function that strings.SplitSeq gives -/
def mkCode (P : Program) (S : List Rule) (sf : Bool) (gs : FuncId) : MkCode := fun R L N c r =>
  dec L N (mkOpS P S sf R L N) (fun ops => safeB sf (mkDraw P L N (fun o r => mkValY P S L N o.op r) (mkOpR P S R L N) (isValY P) ops))
    (fun f ps asg body => bif R then (fun r => r (dFalse L)) else safeB sf (mkRangeF L N gs (mkRnd P S sf L N) f ps asg body)) c r

theorem mkCode_good (P : Program) (S : List Rule) (sf : Bool) (ν : Nu) (hS : SymOk P ν S) (gs : FuncId) (hok : SplitOk P ν gs) : GoodMk P ν (mkCode P S sf gs) := fun R L N c r h => by
  refine dec_sound (mkOp := mkOpS P S sf R L N) (fun o r h => (mkOpS_true hS h).1) (fun hR o r h => by subst hR; exact ndR_true (mkOpS_true hS (ν := ν) h).2) (fun id ops r h => ?_) (fun f ps asg body r h => ?_) c r h
  · exact safeB_true dFalse_good (fun r h => mkDraw_true (fun o r h => mkValY_true hS h) (fun o r h => (mkOpR_true hS h).1) (fun hR o r h => by subst hR; exact ndR_true (mkOpR_true hS (ν := ν) h).2) (fun o h => isValY_nd o h) (fun o t h => isValY_al o t h) h) h
  · cases R with
    | true => exact ⟨_, dFalse_good, h⟩
    | false => exact safeB_true dFalse_good (fun r h => mkRangeF_true hok (fun c r h => mkRnd_true hS c r h) h) h

/-- of what make is a function: 0 plain, 1 it defers, 2 it ranges over a function -/
def fnKind (c : Code) : Nat :=
  Code.rec (motive := fun _ => Nat) 0 (fun _ ops _ => bif ops.toList.any (fun o => match o.op with | .defer _ => true | _ => false) then 1 else 0) (fun _ _ a b => max a b) (fun _ _ _ a b => max a b) (fun _ _ a => a) (fun _ a => a)
    (fun _ _ _ _ _ _ => 2) (fun _ => 0) (fun _ a => a) (fun _ => 0) (fun _ => 0) 0 (fun _ => 0) c

/-- 'gs': the function that strings.SplitSeq gives; 'gd': the function that recovers -/
def mkAny (P : Program) (S : List Rule) (sf : Bool) (gs gd : FuncId) (f : FuncId) (r : FnD → Bool) : Bool :=
  match (P.funcs[f]?).bind (·.body) with
  | none => false
  | some c => match fnKind c with
    | 0 => mkFun P (mkCode P S sf gs) f r
    | 1 => mkFunD P (mkCode P S sf gs) (fun L N o r => mkValY P S L N o.op r) f gd r
    | _ => mkFunM P (mkCode P S sf gs) f r

theorem mkAny_true {P : Program} {ν : Nu} {S : List Rule} (hS : SymOk P ν S) {sf : Bool} {gs gd : FuncId} (hok : SplitOk P ν gs) {f : FuncId} {r : FnD → Bool} (h : mkAny P S sf gs gd f r = true) : ∃ d, FnGood P ν f d ∧ r d = true := by
  unfold mkAny at h
  split at h
  · cases h
  · split at h
    · exact mkFun_true (mkCode_good P S sf ν hS gs hok) h
    · exact mkFunD_true (mkCode_good P S sf ν hS gs hok) (fun L N o r h => mkValY_true hS h) h
    · exact mkFunM_true (mkCode_good P S sf ν hS gs hok) h

end
end Go.Abs

/-
  A verified evaluator: strings.Builder by what its functions leave.
-/
namespace Go.Abs
noncomputable section
open Go.RowKit (Below)

/-! ### strings.Repeat -/
def repK (l c : Nat) (k : Nat → Nat → Bool) : Nat → Nat → Nat → Bool := fun n => Nat.rec (motive := fun _ => Nat → Nat → Bool) (fun len code => k len code) (fun _ ih len code => forceN (Nat.add l len) fun len => forceN (Nat.add c (Nat.mul (Nat.pow 256 l) code)) fun code => ih len code) n

theorem repK_true (s : List UInt8) {k : Nat → Nat → Bool} : ∀ (n m : Nat), repK s.length (enc s) k n (Lib.repeatL s m).length (enc (Lib.repeatL s m)) = true → k (Lib.repeatL s (n + m)).length (enc (Lib.repeatL s (n + m))) = true
  | 0, m, h => by rw [Nat.zero_add]; exact h
  | n + 1, m, h => by
    have h' : (forceN (Nat.add s.length (Lib.repeatL s m).length) fun len => forceN (Nat.add (enc s) (Nat.mul (Nat.pow 256 s.length) (enc (Lib.repeatL s m)))) fun code => repK s.length (enc s) k n len code) = true := h
    rw [forceN_eq, forceN_eq] at h'
    have e1 : Nat.add s.length (Lib.repeatL s m).length = (Lib.repeatL s (m + 1)).length := by
      show s.length + (Lib.repeatL s m).length = (s ++ Lib.repeatL s m).length
      rw [List.length_append]
    have e2 : Nat.add (enc s) (Nat.mul (Nat.pow 256 s.length) (enc (Lib.repeatL s m))) = enc (Lib.repeatL s (m + 1)) := by
      show enc s + 256 ^ s.length * enc (Lib.repeatL s m) = enc (s ++ Lib.repeatL s m)
      rw [enc_append]
    rw [e1, e2] at h'
    have := repK_true s n (m + 1) h'
    rwa [show n + (m + 1) = n + 1 + m by omega] at this

def repeatD : FnD := fun _ args h kr _ => args2 args fun x y => vStr x fun l c => vInt y fun K n => chk (isIntK K .i64) (Int.rec (motive := fun _ => Bool) (fun n => chk (Nat.ble n 65536) (chk (Nat.ble (Nat.mul l n) 65536) (repK l c (fun len code => kr (.str len code) h) n 0 0))) (fun _ => false) n)

theorem repeat_good {P : Program} {ν : Nu} {f : Nat} (hb : hasBody P f = true)
    (hC : ∀ (s : ByteArray) (c : Nat) (w : World), c ≤ 9223372036854775807 → s.size * c ≤ 140737488355328 → Calls P f #[.string s, .int .i64 c] w fun e w' => e = .returned (.string ⟨(Lib.repeatL s.data.toList c).toArray⟩) ∧ Below w.heap.size w w') :
    FnGood P ν f repeatD := by
  refine FnGood.plain hb fun cf args h φ w vs kr kp hk hr hv => ?_
  obtain ⟨x, y, e0, hk1⟩ := args2_true hk
  obtain ⟨l, c, e1, hk2⟩ := vStr_true hk1
  obtain ⟨K, n, e2, hk3⟩ := vInt_true hk2
  obtain ⟨c0, hk3⟩ := chk_true hk3
  have hK := isIntK_true c0
  cases n with
  | negSucc m => cases hk3
  | ofNat n =>
    obtain ⟨c1, hk4⟩ := chk_true hk3
    obtain ⟨c2, hk5⟩ := chk_true hk4
    have c1 := Nat.le_of_ble_eq_true c1
    have c2 : l * n ≤ 65536 := Nat.le_of_ble_eq_true c2
    subst e0 e1 e2 hK
    cases hv with
    | cons h1 hv =>
      cases hv with
      | cons h2 hv =>
        cases hv with
        | nil =>
          cases h1 with
          | str hs =>
            rename_i s
            cases h2
            have hsz := hs.1
            have hk6 : repK s.data.toList.length (enc s.data.toList) (fun len code => kr (.str len code) h) n (Lib.repeatL s.data.toList 0).length (enc (Lib.repeatL s.data.toList 0)) = true := by
              rw [hs.data, hs.2]; exact hk5
            have hk7 := repK_true s.data.toList n 0 hk6
            rw [Nat.add_zero] at hk7
            exact ⟨_, _, hC s n w (by omega) (by rw [hsz]; omega), .str (IsStr.of_list _), hk7⟩

/-! ### what a builder is -/
def ptrOrNil (v : AV) (a : Bool) (k : Nat → Nat → Nat → Bool) : Bool :=
  AV.rec (motive_1 := fun _ => Bool) (motive_2 := fun _ => Bool) false (fun _ _ => false) false (fun _ => false) false (fun _ _ _ _ _ => false) (fun _ _ => false) false (fun _ _ _ => false) a false
    (fun _ _ => false) k (fun _ _ _ _ _ _ => false) (fun _ _ => false) (fun _ => false) (fun _ _ => false) false (fun _ _ _ _ => false) v
theorem ptrOrNil_true {v : AV} {a : Bool} {k : Nat → Nat → Nat → Bool} (h : ptrOrNil v a k = true) : (v = .nilp ∧ a = true) ∨ ∃ i j n, v = .ptr i j n ∧ k i j n = true := by
  cases v <;> first | exact .inr ⟨_, _, _, rfl, h⟩ | exact .inl ⟨rfl, h⟩ | cases h

/-- the two cells of a builder in a block of its own -/
def bldC (T : TypeId) (ver : Nat) (k : AV → AV → Bool) (s n fz : Nat) (opn : Bool) (el : TypeId) (rows : T4 (List AV)) : Bool :=
  chk (Nat.beq n 2 && Nat.beq ver 2 && Nat.beq fz 0 && !opn && Nat.beq el T) (cellK s rows 0 fun v0 => cellK s rows 1 fun v1 => k v0 v1)
def bldK (T : TypeId) (x : AV) (h : H) (k : Nat → Nat → AV → AV → Bool) : Bool :=
  vPtr x fun id ver off => chk (Nat.beq off 0) (getB id ver h (bldC T ver (k id ver)))

theorem bldK_true {φ : Phi} {ν : Nu} {T : TypeId} {x : AV} {h : H} {w : World} {k : Nat → Nat → AV → AV → Bool} {v : Value} (hr : HR φ ν h w) (hv : VR φ ν x v) (hk : bldK T x h k = true) :
    ∃ id ver p fr u0 u1 v0 v1, x = .ptr id ver 0 ∧ φ id ver = some p ∧ v = .pointer (some ⟨p.blk, 0, none⟩) ∧ w.heap[p.blk]? = some (.cells #[u0, u1] T fr) ∧ (∀ j, j < 2 → w.frozen? ⟨p.blk, j, none⟩ = false) ∧
      VR φ ν v0 u0 ∧ VR φ ν v1 u1 ∧ u0.oneCell' = true ∧ u1.oneCell' = true ∧ k id ver v0 v1 = true := by
  obtain ⟨id, ver, off, e1, hk⟩ := vPtr_true hk
  obtain ⟨c1, hk⟩ := chk_true hk
  have c1 := Nat.eq_of_beq_eq_true c1
  subst e1 c1
  cases hv with
  | ptr hp =>
    rename_i p
    obtain ⟨s, n, lw, fz, opn, el, rows, hb, hl, hs, hbr, hk⟩ := getB_true hr hp hk
    unfold bldC at hk
    obtain ⟨c2, hk9⟩ := chk_true hk
    clear hk
    simp only [Bool.and_eq_true, Bool.not_eq_true'] at c2
    obtain ⟨⟨⟨⟨c2, c3⟩, c4⟩, c5⟩, c6⟩ := c2
    have c2 := Nat.eq_of_beq_eq_true c2
    have c3 := Nat.eq_of_beq_eq_true c3
    have c4 := Nat.eq_of_beq_eq_true c4
    have c6 := Nat.eq_of_beq_eq_true c6
    subst c2 c3 c4 c6
    have hk2 := cellK_true (cellK_true hk9)
    obtain ⟨_, _, hcc⟩ := hbr
    obtain ⟨cc, fr, hb2, hsz, hv, hcell, hfr, hcl⟩ := hcc hl
    have h2 := hcl rfl c5
    obtain ⟨u0, g1, g2, g3⟩ := hcell 0 (by omega)
    obtain ⟨u1, g4, g5, g6⟩ := hcell 1 (by omega)
    have hcc : cc = #[u0, u1] := by
      apply Array.ext'
      apply List.ext_getElem?
      intro i
      rcases i with _ | _ | i
      · simpa using g1
      · simpa using g4
      · rw [List.getElem?_eq_none (by simpa using (by omega : cc.size ≤ i + 2))]; simp
    subst hcc
    refine ⟨_, _, p, fr, u0, u1, _, _, rfl, hp, rfl, hb2, fun j hj => ?_, g3, g6, g2, g5, hk2⟩
    have := hfr rfl j (by omega) (by rw [h2]; exact hj)
    simp [World.frozen?, hb2]
    omega

theorem run_storeB {P : Program} {W : World} {b j : Nat} {v u : Value} (h1 : v.oneCell' = true) (hc : W.cell? ⟨b, j, none⟩ = some u) (hf : W.frozen? ⟨b, j, none⟩ = false) : (storeCells ⟨b, j, none⟩ [v]).run P W = .ok () (W.setCell ⟨b, j, none⟩ v) := by
  have hst : (store ((⟨b, j, none⟩ : Addr).add 0) v).run P W = .ok () (W.setCell ⟨b, j, none⟩ v) := by
    rw [addr_add, run_store P W _ v _ h1, Nat.add_zero, hc]
    simp [hf]
  show (do store ((⟨b, j, none⟩ : Addr).add 0) v; pure () : Sem Unit).run P W = _
  simp only [Sem.run_bind, hst, Result.andThen_ok, Sem.run_pure]

theorem HR.setObjV {φ : Phi} {ν : Nu} {h : H} {w : World} (hr : HR φ ν h w) {id ver : Nat} {p : PB} (hp : φ id ver = some p) {o : Obj} {b : AB} (hro : h.ro.lim ≤ id) (hb : BR φ ν { w with heap := w.heap.setIfInBounds p.blk o } id b) :
    HR φ ν { h with bl := T4.set HD id b h.bl } { w with heap := w.heap.setIfInBounds p.blk o } ∧ Ext h.ro φ w φ { w with heap := w.heap.setIfInBounds p.blk o } := by
  have hid := (hr.dom _ _ _ hp).1
  have hlim := hr.lim
  refine ⟨⟨fun i v q hq => ⟨(hr.dom i v q hq).1, by simpa using (hr.dom i v q hq).2⟩, hr.inj, fun i x hi hx => ?_, hr.lim, hr.ro, hr.gp, fun b' o' hbo => ?_, hr.ub⟩,
    ⟨φ.le_refl, by simp, rfl, rfl, rfl, fun i v q hq => .inl ⟨v, q, hq, rfl⟩, fun b' _ hn => Array.getElem?_setIfInBounds_ne (hn id ver p hp hro)⟩⟩
  · simp only at hx hi
    rw [T4.get_set HD _ _ (by omega) (by omega)] at hx
    by_cases e : id = i
    · rw [if_pos e] at hx; cases hx; subst e; exact hb
    · rw [if_neg e] at hx
      refine BR.keep φ.le_refl (fun _ _ h => h) (fun v q hq => ?_) (hr.bl i x hi hx)
      have hne : p.blk ≠ q.blk := fun e' => e (hr.inj _ _ _ _ _ _ hp hq e')
      show (w.heap.setIfInBounds p.blk o)[q.blk]? = w.heap[q.blk]?
      exact Array.getElem?_setIfInBounds_ne hne
  · obtain ⟨g1, g2⟩ := hr.gl b' o' hbo
    refine ⟨?_, g2⟩
    have hne : p.blk ≠ b' := fun e => by have := g2 _ _ _ hp e; omega
    show (w.heap.setIfInBounds p.blk o)[b']? = some o'
    rw [Array.getElem?_setIfInBounds_ne hne]; exact g1

/-! ### copyCheck -/
def copyCheckD (T : TypeId) : FnD := fun _ args h kr _ => args1 args fun x => bldK T x h fun id ver v0 _ =>
  ptrOrNil v0 (storeK id ver 0 [.ptr id ver 0] 1 h fun h => kr (.tup []) h) fun id' ver' off' => chk (Nat.beq id' id && Nat.beq ver' ver && Nat.beq off' 0) (kr (.tup []) h)

theorem shape_of {w : World} {b : Nat} {c : Array Value} {T : TypeId} {fr : Nat × Nat} (h : w.heap[b]? = some (.cells c T fr)) : w.shape? b = some (T, c.size) := by simp [World.shape?, h]

theorem copyCheck_good {P : Program} {ν : Nu} {f : Nat} {T : TypeId} (hb : hasBody P f = true)
    (hU : ∀ (b : Nat) (w : World), w.cell? ⟨b, 0, none⟩ = some (.pointer (some ⟨b, 0, none⟩)) → Calls P f #[.pointer (some ⟨b, 0, none⟩)] w fun e w' => e = .returned (.tuple #[]) ∧ w' = w)
    (hF : ∀ (b : Nat) (w : World), w.cell? ⟨b, 0, none⟩ = some (.pointer none) → w.shape? b = some (T, 2) → w.frozen? ⟨b, 0, none⟩ = false → Calls P f #[.pointer (some ⟨b, 0, none⟩)] w fun e w' => e = .returned (.tuple #[]) ∧ w' = w.setCell ⟨b, 0, none⟩ (.pointer (some ⟨b, 0, none⟩))) :
    FnGood P ν f (copyCheckD T) := by
  refine FnGood.fresh hb fun cf args h φ w vs kr kp hk hr hv => ?_
  obtain ⟨x, e0, hk1⟩ := args1_true hk
  subst e0
  cases hv with
  | cons h1 hv =>
    cases hv with
    | nil =>
      obtain ⟨id, ver, p, fr, u0, u1, v0, v1, e1, hp, e2, hb2, hfz, hv0, _, ho0, _, hk2⟩ := bldK_true hr h1 hk1
      subst e2
      have hc0 : w.cell? ⟨p.blk, 0, none⟩ = some u0 := by rw [cell?_of hb2]; rfl
      rcases ptrOrNil_true hk2 with ⟨e3, hk3⟩ | ⟨i, j, n, e3, hk3⟩
      · subst e3
        cases hv0
        obtain ⟨h2, w2, g1, g2, g3, g4, g5, _, g6⟩ := storeK_true (P := P) (sz := 1) (vs := [.pointer (some ⟨p.blk, 0, none⟩)]) hr hp (.cons (.ptr hp) .nil) (fun v hm => by rw [List.mem_singleton.1 hm]; rfl) rfl (by omega) hk3
        have hs := run_storeB (P := P) (W := w) (b := p.blk) (j := 0) (v := .pointer (some ⟨p.blk, 0, none⟩)) rfl hc0 (hfz 0 (by omega))
        rw [g1] at hs
        cases hs
        exact ⟨_, _, φ, h2, _, hF p.blk w hc0 (shape_of hb2) (hfz 0 (by omega)), g2, g3, g4, g5, .tup .nil, g6⟩
      · subst e3
        obtain ⟨c1, hk4⟩ := chk_true hk3
        simp only [Bool.and_eq_true] at c1
        obtain ⟨⟨c1, c2⟩, c3⟩ := c1
        have c1 := Nat.eq_of_beq_eq_true c1
        have c2 := Nat.eq_of_beq_eq_true c2
        have c3 := Nat.eq_of_beq_eq_true c3
        subst c1 c2 c3
        cases hv0 with
        | ptr hp2 =>
          rw [hp] at hp2
          cases hp2
          exact ⟨_, _, φ, h, w, hU p.blk w hc0, hr, Ext.refl _ _ _, rfl, rfl, .tup .nil, hk4⟩

/-! ### String -/
def strK (T5 : TypeId) (id ver len : Nat) (h : H) (k : Nat → H → Bool) : Bool :=
  T4.getK HD id h.bl fun b => AB.rec (motive := fun _ => Bool) (fun s n lw fz opn el rows =>
      chk (Nat.ble lw ver && Nat.beq s 1 && Nat.beq el T5 && Nat.ble len ver && Nat.ble h.ro.lim id && Nat.ble len 65536) (bytesOfK rows len 0 fun c => T4.setK HD id (.cells s (Nat.succ n) lw fz opn el rows) h.bl fun bl => k c ⟨h.ds, h.ro, h.next, bl⟩))
    (fun _ _ => false) (fun _ _ _ => false) (fun _ => false) b

def isZ (n : Nat) (a b : Bool) : Bool := Nat.rec (motive := fun _ => Bool) a (fun _ _ => b) n

def stringD (T T5 : TypeId) : FnD := fun _ args h kr _ => args1 args fun x => bldK T x h fun _ _ _ v1 => vSl v1 (kr (.str 0 0) h) fun id ver off len mc _ =>
  chk (Nat.beq off 0) (isZ len (chk (Nat.blt 0 mc) (kr (.str 0 0) h)) (strK T5 id ver len h fun c h => kr (.str len c) h))

theorem freeze_eq {w : World} {g n : Nat} {c : Array Value} {el : TypeId} {fr : Nat × Nat} (hw : w.heap[g]? = some (.cells c el fr)) (hn : n ≠ 0) : ∃ fr', w.freeze ⟨g, 0, none⟩ n = { w with heap := w.heap.setIfInBounds g (.cells c el fr') } := by
  obtain ⟨lo, hi⟩ := fr
  refine ⟨if lo == hi then (0, 0 + n) else (min lo 0, max hi (0 + n)), ?_⟩
  · unfold World.freeze
    rw [if_neg hn]
    congr 1
    apply Array.ext_getElem?
    intro i
    rw [Array.getElem?_modify, Array.getElem?_setIfInBounds]
    by_cases e : g = i
    · subst e
      have hlt : g < w.heap.size := (Array.getElem?_eq_some_iff.1 hw).1
      rw [if_pos rfl, if_pos rfl, if_pos hlt, hw]
      rfl
    · rw [if_neg e, if_neg e]

theorem string_good {P : Program} {ν : Nu} {f : Nat} {T T5 : TypeId} (hb : hasBody P f = true)
    (hN : ∀ (B b : Nat) (p : Value) (fr : Nat × Nat) (w : World), w.heap[b]? = some (.cells #[p, .slice none 0 0] T fr) → Calls P f #[.pointer (some ⟨b, 0, none⟩)] w fun e w' => e = .returned (.string ⟨#[]⟩) ∧ Below B w w')
    (hR : ∀ (B b g cap : Nat) (p : Value) (fr : Nat × Nat) (w : World), cap ≠ 0 → w.heap[b]? = some (.cells #[p, .slice (some ⟨g, 0, none⟩) 0 cap] T fr) → Calls P f #[.pointer (some ⟨b, 0, none⟩)] w fun e w' => e = .returned (.string ⟨#[]⟩) ∧ Below B w w')
    (hS : ∀ (b g cap : Nat) (p : Value) (cur : Array Value) (fr fr2 : Nat × Nat) (l : List UInt8) (w : World), l ≠ [] → w.heap[b]? = some (.cells #[p, .slice (some ⟨g, 0, none⟩) l.length cap] T fr) → w.heap[g]? = some (.cells cur T5 fr2) → l.length ≤ cur.size → cap ≠ 0 → l.length ≤ 9223372036854775807 →
      (∀ (j : Nat) (x : UInt8), l[j]? = some x → cur[j]? = some (Value.int .u8 x.toNat)) → Calls P f #[.pointer (some ⟨b, 0, none⟩)] w fun e w' => e = .returned (.string ⟨l.toArray⟩) ∧ w' = w.drew.freeze ⟨g, 0, none⟩ l.length) :
    FnGood P ν f (stringD T T5) := by
  intro cf _ args h kr kp hk φ w vs hr hv
  obtain ⟨x, e0, hk1⟩ := args1_true hk
  subst e0
  cases hv with
  | cons h1 hv =>
    cases hv with
    | nil =>
      obtain ⟨id, ver, p, fr, u0, u1, v0, v1, e1, hp, e2, hb2, hfz, hv0, hv1, ho0, ho1, hk2⟩ := bldK_true hr h1 hk1
      subst e2
      have hempty : (∃ B, Calls P f #[.pointer (some ⟨p.blk, 0, none⟩)] w fun e w' => e = .returned (.string ⟨#[]⟩) ∧ Below B w w') → True := fun _ => trivial
      rcases vSl_true hk2 with ⟨e3, hk3⟩ | ⟨i, j, off, len, mc, ex, e3, hk3⟩
      · subst e3
        cases hv1
        refine .inl ⟨hasBody_true hb _ _, (hN w.heap.size p.blk u0 fr w hb2).mono fun e w' hp => ?_⟩
        obtain ⟨rfl, hbel⟩ := hp
        obtain ⟨g1, g2⟩ := hr.below hbel
        exact ⟨φ, _, h, .str ⟨rfl, rfl⟩, g1, g2 _, rfl, rfl, hk3⟩
      · subst e3
        obtain ⟨c1, hk4⟩ := chk_true hk3
        have c1 := Nat.eq_of_beq_eq_true c1
        subst c1
        cases hv1 with
        | sl hq hm hl hx ho hf =>
          rename_i cap q off'
          cases len with
          | zero =>
            obtain ⟨c2, hk5⟩ := chk_true (show chk (Nat.blt 0 mc) (kr (.str 0 0) h) = true from hk4)
            rw [Nat.blt_eq] at c2
            have hoo := hf (by omega)
            subst hoo
            refine .inl ⟨hasBody_true hb _ _, (hR w.heap.size p.blk q.blk cap u0 fr w (by omega) hb2).mono fun e w' hp => ?_⟩
            obtain ⟨rfl, hbel⟩ := hp
            obtain ⟨g1, g2⟩ := hr.below hbel
            exact ⟨φ, _, h, .str ⟨rfl, rfl⟩, g1, g2 _, rfl, rfl, hk5⟩
          | succ m =>
            have hoo := hf (by omega)
            subst hoo
            have hk5 : strK T5 i j (m + 1) h (fun c h => kr (.str (m + 1) c) h) = true := hk4
            obtain ⟨b, hbl, hk6⟩ := T4.getK_true _ _ _ _ hk5
            cases b with
            | mapo es c => cases hk6
            | siter a b c => cases hk6
            | dfr o => cases hk6
            | cells s n lw fz opn el rows =>
              obtain ⟨c2, hk7⟩ := chk_true hk6
              simp only [Bool.and_eq_true] at c2
              obtain ⟨⟨⟨⟨⟨c2, c3⟩, c4⟩, c5⟩, c6⟩, c7⟩ := c2
              have c2 := Nat.le_of_ble_eq_true c2
              have c3 := Nat.eq_of_beq_eq_true c3
              have c4 := Nat.eq_of_beq_eq_true c4
              have c5 := Nat.le_of_ble_eq_true c5
              have c6 := Nat.le_of_ble_eq_true c6
              have c7 := Nat.le_of_ble_eq_true c7
              obtain ⟨l, g1, g2, g3⟩ := bytesOfK_true hk7
              rw [T4.setK_eq] at g3
              have hbr := hr.bl i _ (hr.dom _ _ _ hq).1 hbl
              obtain ⟨_, hlw, hs, hbv⟩ := hbr
              obtain ⟨a1, a2, a3⟩ := hbv j q hq
              obtain ⟨cc, fr2, f1, f2, f3, f4, f5, f6⟩ := a3 c2
              rw [c4] at f1
              have hcells : ∀ (t : Nat) (x : UInt8), l[t]? = some x → cc[t]? = some (Value.int .u8 x.toNat) := by
                intro t x ht
                have htl : t < m + 1 := by have := (List.getElem?_eq_some_iff.1 ht).1; omega
                obtain ⟨v, d1, _, d3⟩ := f4 t (by omega)
                have d4 := g2 t x ht
                rw [Nat.zero_add] at d4
                rw [c3, d4] at d3
                cases d3
                exact d1
              have hcall := hS p.blk q.blk cap u0 cc fr fr2 l w (by intro e; rw [e] at g1; simp at g1) (by rw [g1]; exact hb2) f1 (by omega) (by omega) (by omega) hcells
              obtain ⟨r1, r2⟩ := hr.below (w' := w.drew) (Go.RowKit.Below.drew (Go.RowKit.Below.refl _ _))
              have f1' : w.drew.heap[q.blk]? = some (.cells cc T5 fr2) := f1
              obtain ⟨fr', hfe⟩ := freeze_eq f1' (n := l.length) (by omega)
              have hBR : BR φ ν { w.drew with heap := w.drew.heap.setIfInBounds q.blk (.cells cc T5 fr') } i (.cells s (Nat.succ n) lw fz opn el rows) := by
                refine ⟨trivial, by omega, hs, fun ver' q' hq' => ?_⟩
                obtain ⟨b1, b2, b3⟩ := hbv ver' q' hq'
                refine ⟨by omega, b2, fun hl' => ?_⟩
                obtain ⟨cq, frq, d1, d2, d3, d4, d5, d6⟩ := b3 hl'
                by_cases e : q.blk = q'.blk
                · rw [← e, f1] at d1
                  cases d1
                  refine ⟨cc, fr', ?_, d2, d3, d4, fun e => by omega, fun e => by omega⟩
                  show (w.heap.setIfInBounds q.blk (.cells cc _ fr'))[q'.blk]? = _
                  rw [← e, Array.getElem?_setIfInBounds_self_of_lt (Array.getElem?_eq_some_iff.1 f1).1]
                · refine ⟨cq, frq, ?_, d2, d3, d4, fun e => by omega, fun e => by omega⟩
                  show (w.heap.setIfInBounds q.blk (.cells cc T5 fr'))[q'.blk]? = _
                  rw [Array.getElem?_setIfInBounds_ne e]; exact d1
              obtain ⟨k1, k2⟩ := r1.setObjV hq c6 hBR
              refine .inl ⟨hasBody_true hb _ _, hcall.mono fun e w' hp => ?_⟩
              obtain ⟨rfl, rfl⟩ := hp
              rw [hfe]
              exact ⟨φ, _, _, .str (by rw [← g1]; exact IsStr.of_list l), k1, (r2 _).trans k2, rfl, rfl, g3⟩

/-! ### grow, of a builder without a buffer -/
def isNils (v : AV) (a : Bool) : Bool := vSl v a fun _ _ _ _ _ _ => false
def growD (T T5 : TypeId) : FnD := fun _ args h kr _ => args2 args fun x y => bldK T x h fun id ver _ v1 => isNils v1 (vInt y fun K n => chk (isIntK K .i64) (Int.rec (motive := fun _ => Bool) (fun n => chk (Nat.ble n 65536)
  (newB (.cells 1 0 0 0 true T5 .e) h fun id2 h => storeK id ver 1 [.sl id2 0 0 0 n false] 1 h fun h => kr (.tup []) h)) (fun _ => false) n))

theorem alloc_setCell {w : World} {o : Obj} {b j : Nat} {v : Value} (hb : b < w.heap.size) : (w.alloc o).setCell ⟨b, j, none⟩ v = (w.setCell ⟨b, j, none⟩ v).alloc o := by
  unfold World.setCell World.alloc
  congr 1
  apply Array.ext_getElem?
  intro i
  simp only [Array.getElem?_modify, Array.getElem?_push, Array.size_modify]
  by_cases e : b = i
  · subst e
    rw [if_pos rfl, if_neg (by omega), if_neg (by omega), if_pos rfl]
  · rw [if_neg e, if_neg e]

theorem grow_good {P : Program} {ν : Nu} {f : Nat} {T T5 : TypeId} (hb : hasBody P f = true)
    (hG : ∀ (b n : Nat) (q : Value) (fr : Nat × Nat) (w : World), w.heap[b]? = some (.cells #[q, .slice none 0 0] T fr) → w.frozen? ⟨b, 1, none⟩ = false → n ≤ 281474976710656 →
      ∃ cs : Array Value, n ≤ cs.size ∧ Calls P f #[.pointer (some ⟨b, 0, none⟩), .int .i64 n] w fun e w' => e = .returned (.tuple #[]) ∧ w' = ((w.setCell ⟨b, 1, none⟩ (.slice (some ⟨w.heap.size, 0, none⟩) 0 cs.size)).alloc (.cells cs T5)).drew.drew.drew) :
    FnGood P ν f (growD T T5) := by
  refine FnGood.fresh hb fun cf args h φ w vs kr kp hk hr hv => ?_
  obtain ⟨x, y, e0, hk1⟩ := args2_true hk
  subst e0
  cases hv with
  | cons h1 hv =>
    cases hv with
    | cons h2 hv =>
      cases hv with
      | nil =>
        obtain ⟨id, ver, p, fr, u0, u1, v0, v1, e1, hp, e2, hb2, hfz, hv0, hv1, ho0, ho1, hk2⟩ := bldK_true hr h1 hk1
        subst e2
        rcases vSl_true hk2 with ⟨e3, hk3⟩ | ⟨i, j, off, len, mc, ex, e3, hk3⟩
        · subst e3
          cases hv1
          obtain ⟨K, n, e4, hk4⟩ := vInt_true hk3
          obtain ⟨c1, hk5⟩ := chk_true hk4
          have hK := isIntK_true c1
          subst e4 hK
          cases n with
          | negSucc m => cases hk5
          | ofNat n =>
            obtain ⟨c2, hk6⟩ := chk_true hk5
            have c2 := Nat.le_of_ble_eq_true c2
            cases h2
            obtain ⟨cs, hle, hcall⟩ := hG p.blk n u0 fr w hb2 (hfz 1 (by omega)) (by omega)
            obtain ⟨hn, hk7⟩ := newB_true hk6
            obtain ⟨r1, r2, r3⟩ := hr.newCells (c := cs) (rows := .e) (s := 1) (n := 0) hn (by_ := 0) (el := T5) (opn := true) (Nat.le_refl _) (fun j hj => by omega) (by omega) (fun h => by cases h)
            have hlt := (hr.dom _ _ _ hp).2
            have hp' := r3 _ _ _ hp
            have hb2' : (w.alloc (.cells cs T5)).heap[p.blk]? = some (.cells #[u0, .slice none 0 0] T fr) := by
              show (w.heap.push _)[p.blk]? = _
              rw [Array.getElem?_push_lt hlt, ← hb2, Array.getElem?_eq_getElem hlt]
            have hnew := Phi.new_self φ h.next 0 ⟨w.heap.size, cs.size, 1, 0⟩
            have hfz' : (w.alloc (.cells cs T5)).frozen? ⟨p.blk, 1, none⟩ = false := by
              have := hfz 1 (by omega)
              simp only [World.frozen?, hb2, hb2'] at this ⊢
              exact this
            have hvs : VRs (φ.new h.next 0 ⟨w.heap.size, cs.size, 1, 0⟩) ν [.sl h.next 0 0 0 n false] [.slice (some ⟨w.heap.size, 0, none⟩) 0 cs.size] :=
              .cons (.sl hnew hle (Nat.zero_le _) (fun h => by cases h) (fun _ => ⟨by simp, by simp⟩)) .nil
            obtain ⟨h2, w2, g1, g2, g3, g4, g5, _, g6⟩ := storeK_true (P := P) (sz := 1) r1 hp' hvs (fun v hm => by rw [List.mem_singleton.1 hm]; rfl) rfl (by omega) hk7
            have hs := run_storeB (P := P) (W := w.alloc (.cells cs T5)) (b := p.blk) (j := 1) (v := .slice (some ⟨w.heap.size, 0, none⟩) 0 cs.size) rfl (by rw [cell?_of hb2']; rfl) hfz'
            rw [g1] at hs
            have hs := Result.ok.inj hs
            have e5 : w2 = (w.setCell ⟨p.blk, 1, none⟩ (.slice (some ⟨w.heap.size, 0, none⟩) 0 cs.size)).alloc (.cells cs T5) := by rw [← alloc_setCell hlt]; exact hs.2
            rw [← e5] at hcall
            obtain ⟨q1, q2⟩ := g2.below (w' := w2.drew.drew.drew) (Go.RowKit.Below.drew (Go.RowKit.Below.drew (Go.RowKit.Below.drew (Go.RowKit.Below.refl _ _))))
            refine ⟨_, _, _, h2, _, hcall, q1, ?_, g4, g5, .tup .nil, g6⟩
            have := ((r2 h.ro).trans g3).trans (q2 _)
            exact this
        · cases hk3

end
end Go.Abs

/-
  A verified evaluator: how often a byte lies in a string, by contract.
-/
namespace Go.Abs
noncomputable section

def cntK (b : Nat) (l : Nat) : Nat → Nat → (Nat → Bool) → Bool :=
  Nat.rec (motive := fun _ => Nat → Nat → (Nat → Bool) → Bool) (fun _ n k => k n)
    (fun _ ih c n k => Bool.rec (motive := fun _ => Bool) (forceN (Nat.div c 256) fun c => ih c n k) (forceN (Nat.div c 256) fun c => forceN (Nat.succ n) fun n => ih c n k) (Nat.beq (Nat.mod c 256) b)) l

theorem cntK_true {b : UInt8} {k : Nat → Bool} : ∀ (l : List UInt8) (n : Nat), cntK b.toNat l.length (enc l) n k = true → k (n + l.count b) = true
  | [], n, h => h
  | x :: l, n, h => by
    have h' : Bool.rec (motive := fun _ => Bool) (forceN (Nat.div (enc (x :: l)) 256) fun c => cntK b.toNat l.length c n k) (forceN (Nat.div (enc (x :: l)) 256) fun c => forceN (Nat.succ n) fun n => cntK b.toNat l.length c n k) (Nat.beq (Nat.mod (enc (x :: l)) 256) b.toNat) = true := h
    have hx : x.toNat < 256 := x.toNat_lt
    have h1 : Nat.mod (enc (x :: l)) 256 = x.toNat := by show (x.toNat + 256 * enc l) % 256 = _; omega
    have h2 : Nat.div (enc (x :: l)) 256 = enc l := by show (x.toNat + 256 * enc l) / 256 = _; omega
    rw [h1, h2] at h'
    rw [List.count_cons]
    cases hb : Nat.beq x.toNat b.toNat with
    | true =>
      rw [hb] at h'
      simp only [forceN_eq] at h'
      have e : x = b := UInt8.toNat_inj.1 (Nat.eq_of_beq_eq_true hb)
      have := cntK_true l (n + 1) h'
      rw [e]
      simpa [Nat.add_assoc, Nat.add_comm 1] using this
    | false =>
      rw [hb] at h'
      simp only [forceN_eq] at h'
      have e : ¬ x = b := by
        rintro rfl
        rw [Nat.beq_refl] at hb
        cases hb
      have := cntK_true l n h'
      simpa [e] using this

def isOne (n : Nat) (x : Bool) : Bool := chk (Nat.beq n 1) x
def countD : FnD := fun _ args h kr _ => args2 args fun x y => vStr x fun l c => vStr y fun m d => chk (Nat.beq m 1) (cntK d l c 0 fun n => kr (.int .i64 (.ofNat n)) h)

theorem count_good {P : Program} {ν : Nu} {f : Nat} (hb : hasBody P f = true)
    (hC : ∀ (s : ByteArray) (c : UInt8) (w : World), Calls P f #[.string s, .string ⟨#[c]⟩] w fun e w' => e = .returned (.int .i64 (s.data.toList.count c)) ∧ w' = w) : FnGood P ν f countD := by
  refine FnGood.plain hb fun cf args h φ w vs kr kp hk hr hv => ?_
  obtain ⟨x, y, e0, hk1⟩ := args2_true hk
  obtain ⟨l, c, e1, hk2⟩ := vStr_true hk1
  obtain ⟨m, d, e2, hk3⟩ := vStr_true hk2
  obtain ⟨c1, hk4⟩ := chk_true hk3
  have c1 := Nat.eq_of_beq_eq_true c1
  subst e0 e1 e2 c1
  cases hv with
  | cons h1 hv =>
    cases hv with
    | cons h2 hv =>
      cases hv with
      | nil =>
        cases h1 with
        | str hs =>
          cases h2 with
          | str ht =>
            rename_i s t
            obtain ⟨b, hb2⟩ : ∃ b, t.data.toList = [b] := by
              have := ht.data
              match hq : t.data.toList, this with
              | [b], _ => exact ⟨b, rfl⟩
            have ht2 : t = ⟨#[b]⟩ := by
              have : t.data = #[b] := Array.toList_inj.1 hb2
              cases t; simp_all
            have hd : d = b.toNat := by
              have := ht.2
              rw [hb2] at this
              rw [← this]
              show b.toNat + 256 * 0 = _
              omega
            have hk5 : cntK b.toNat s.data.toList.length (enc s.data.toList) 0 (fun n => kr (.int .i64 (.ofNat n)) h) = true := by
              rw [hs.data, hs.2, ← hd]; exact hk4
            have hk6 := cntK_true s.data.toList 0 hk5
            rw [Nat.zero_add] at hk6
            subst ht2
            exact ⟨_, _, (hC s b w).mono fun e w' hp => ⟨hp.1, by rw [hp.2]; exact Go.RowKit.Below.refl _ _⟩, .int _ _, hk6⟩

end
end Go.Abs

/-
  A verified evaluator: the table of all functions, some given by contract.
-/
namespace Go.Abs
set_option linter.unusedVariables false
noncomputable section

theorem TblOk.empty {P : Program} {ν : Nu} : TblOk P ν .e := fun f d _ h => by
  rw [T4.get_e] at h
  cases h

theorem TblOk.set {P : Program} {ν : Nu} {t : T4 FnD} (ht : TblOk P ν t) {f : Nat} {d : FnD} (hf : f < 4096) (hd : FnGood P ν f d) : TblOk P ν (T4.set TD f d t) := by
  intro g e hg he
  rw [T4.get_set TD f g (show f < 4096 from hf) hg] at he
  by_cases q : f = g
  · rw [if_pos q] at he; cases he; subst q; exact hd
  · rw [if_neg q] at he; exact ht g e hg he

/-- the functions of a list, made by their text -/
def mkTblA (P : Program) (S : List Rule) (gs gd : FuncId) : List (FuncId × Bool) → T4 FnD → (T4 FnD → Bool) → Bool
  | [], t, r => r t
  | (f, sf) :: l, t, r => bif Nat.blt f 4096 then mkAny P S sf gs gd f fun d => T4.setK TD f d t fun t => mkTblA P S gs gd l t r else false

theorem mkTblA_true {P : Program} {ν : Nu} {S : List Rule} (hS : SymOk P ν S) {gs gd : FuncId} (hok : SplitOk P ν gs) : ∀ {l : List (FuncId × Bool)} {t : T4 FnD} {r : T4 FnD → Bool}, TblOk P ν t → mkTblA P S gs gd l t r = true → ∃ t', TblOk P ν t' ∧ r t' = true
  | [], t, r, ht, h => ⟨t, ht, h⟩
  | (f, sf) :: l, t, r, ht, h => by
    simp only [mkTblA] at h
    cases hb : Nat.blt f 4096 with
    | false => rw [hb] at h; cases h
    | true =>
      rw [hb, cond_true] at h
      rw [Nat.blt_eq] at hb
      obtain ⟨d, hd, h⟩ := mkAny_true hS hok h
      rw [T4.setK_eq] at h
      exact mkTblA_true hS hok (ht.set hb hd) h

def mkFunW (P : Program) (mk : MkCode) (f : FuncId) (fn : Func) (r : FnD → Bool) : Bool :=
  match fn.body with
    | none => false
    | some c => bif Nat.ble fn.ntmps (4 ^ levels fn.ntmps) && Nat.ble (fn.params.size + fn.nfree) fn.ntmps && !(fn.name == "runtime.NumGoroutine") then
        (fun L => mk false L fn.ntmps c fun d => mkRess P L fn.ntmps fn.results.toList fun res => mkArgs L (fn.params.size + fn.nfree) 0 fun ent => (fun unk =>
          r fun cf args h kr kp => ent args unk fun ts => d cf ts ⟨[], h.ro, h.next, h.bl⟩
            (fun ts h' => isNil h'.ds (res ts h' fun l => packK (isOneL fn.results.toList.length) l fun av => kr av ⟨h.ds, h'.ro, h'.next, h'.bl⟩))
            ⟨fun _ _ _ => false, fun ts h' => isNil h'.ds (res ts h' fun l => packK (isOneL fn.results.toList.length) l fun av => kr av ⟨h.ds, h'.ro, h'.next, h'.bl⟩), fun _ av h' => isNil h'.ds (kp av ⟨h.ds, h'.ro, h'.next, h'.bl⟩)⟩) (FT.unk L)) (levels fn.ntmps) else false

def mkFunDW (P : Program) (mk : MkCode) (mkV : (L N : Nat) → MkV L) (f g : FuncId) (fn : Func) (r : FnD → Bool) : Bool :=
  match fn.body with
    | none => false
    | some c => bif Nat.ble fn.ntmps (4 ^ levels fn.ntmps) && Nat.ble (fn.params.size + fn.nfree) fn.ntmps && !(fn.name == "runtime.NumGoroutine") then
        (fun L => mkDef P mk mkV g fun dd => mk false L fn.ntmps c fun d => mkRess P L fn.ntmps fn.results.toList fun res => mkArgs L (fn.params.size + fn.nfree) 0 fun ent => (fun unk =>
          r fun cf args h kr kp => ent args unk fun ts => d cf ts ⟨[], h.ro, h.next, h.bl⟩
            (fun ts h' => noneOne h'.ds (res ts h' fun l => packK (isOneL fn.results.toList.length) l fun av => kr av ⟨h.ds, h'.ro, h'.next, h'.bl⟩)
              fun a => defK g dd cf a ⟨[], h'.ro, h'.next, h'.bl⟩ .nili fun h' => res ts h' fun l => packK (isOneL fn.results.toList.length) l fun av => kr av ⟨h.ds, h'.ro, h'.next, h'.bl⟩)
            ⟨fun _ _ _ => false, fun ts h' => noneOne h'.ds (res ts h' fun l => packK (isOneL fn.results.toList.length) l fun av => kr av ⟨h.ds, h'.ro, h'.next, h'.bl⟩)
              fun a => defK g dd cf a ⟨[], h'.ro, h'.next, h'.bl⟩ .nili fun h' => res ts h' fun l => packK (isOneL fn.results.toList.length) l fun av => kr av ⟨h.ds, h'.ro, h'.next, h'.bl⟩,
             fun ts av h' => noneOne h'.ds (kp av ⟨h.ds, h'.ro, h'.next, h'.bl⟩)
              fun a => defK g dd cf a ⟨[], h'.ro, h'.next, h'.bl⟩ av fun h' => res ts h' fun l => packK (isOneL fn.results.toList.length) l fun av => kr av ⟨h.ds, h'.ro, h'.next, h'.bl⟩⟩) (FT.unk L)) (levels fn.ntmps) else false

def mkFunMW (P : Program) (mk : MkCode) (f : FuncId) (fn : Func) (r : FnD → Bool) : Bool :=
  match fn.body with
    | none => false
    | some c => bif Nat.ble fn.ntmps (4 ^ levels fn.ntmps) && Nat.ble (fn.params.size + fn.nfree) fn.ntmps && !(fn.name == "runtime.NumGoroutine") then
        (fun L => mk false L fn.ntmps c fun d => mkRess P L fn.ntmps fn.results.toList fun res => mkArgs L (fn.params.size + fn.nfree) 0 fun ent => (fun unk =>
          r fun cf args h kr kp => ent args unk fun ts => d cf ts ⟨[], h.ro, h.next, h.bl⟩
            (fun ts h' => marksK h'.ds (fun h' => res ts ⟨[], h'.ro, h'.next, h'.bl⟩ fun l => packK (isOneL fn.results.toList.length) l fun av => kr av ⟨h.ds, h'.ro, h'.next, h'.bl⟩) h')
            ⟨fun _ _ _ => false, fun ts h' => marksK h'.ds (fun h' => res ts ⟨[], h'.ro, h'.next, h'.bl⟩ fun l => packK (isOneL fn.results.toList.length) l fun av => kr av ⟨h.ds, h'.ro, h'.next, h'.bl⟩) h',
              fun _ av h' => marksK h'.ds (fun h' => kp av ⟨h.ds, h'.ro, h'.next, h'.bl⟩) h'⟩) (FT.unk L)) (levels fn.ntmps) else false

def mkAnyW (P : Program) (S : List Rule) (sf : Bool) (gs gd : FuncId) (f : FuncId) (fn : Func) (r : FnD → Bool) : Bool :=
  match fn.body with
  | none => false
  | some c => match fnKind c with
    | 0 => mkFunW P (mkCode P S sf gs) f fn r
    | 1 => mkFunDW P (mkCode P S sf gs) (fun L N o r => mkValY P S L N o.op r) f gd fn r
    | _ => mkFunMW P (mkCode P S sf gs) f fn r

theorem mkAnyW_eq {P : Program} {f : FuncId} {fn : Func} (h : P.funcs[f]? = some fn) (S : List Rule) (sf : Bool) (gs gd : FuncId) (r : FnD → Bool) : mkAny P S sf gs gd f r = mkAnyW P S sf gs gd f fn r := by
  unfold mkAny mkAnyW
  rw [h]
  show (match fn.body with | none => false | some c => _) = _
  cases fn.body with
  | none => rfl
  | some c =>
    dsimp only
    generalize fnKind c = n
    match n with
    | 0 => show mkFun _ _ _ _ = mkFunW _ _ _ _ _; unfold mkFun mkFunW; rw [h]; first | done | (dsimp only; cases fn.body <;> rfl)
    | 1 => show mkFunD _ _ _ _ _ _ = mkFunDW _ _ _ _ _ _ _; unfold mkFunD mkFunDW; rw [h]; first | done | (dsimp only; cases fn.body <;> rfl)
    | n + 2 => show mkFunM _ _ _ _ = mkFunMW _ _ _ _ _; unfold mkFunM mkFunMW; rw [h]; first | done | (dsimp only; cases fn.body <;> rfl)

/-- the functions of a list, each with its text -/
def FnsOk (P : Program) : List (FuncId × Func × Bool) → Prop
  | [] => True
  | (f, fn, _) :: l => P.funcs[f]? = some fn ∧ FnsOk P l

def mkTblW (P : Program) (S : List Rule) (gs gd : FuncId) : List (FuncId × Func × Bool) → T4 FnD → (T4 FnD → Bool) → Bool
  | [], t, r => r t
  | (f, fn, sf) :: l, t, r => bif Nat.blt f 4096 then mkAnyW P S sf gs gd f fn fun d => T4.setK TD f d t fun t => mkTblW P S gs gd l t r else false

theorem mkTblW_true {P : Program} {ν : Nu} {S : List Rule} (hS : SymOk P ν S) {gs gd : FuncId} (hok : SplitOk P ν gs) : ∀ {l : List (FuncId × Func × Bool)} {t : T4 FnD} {r : T4 FnD → Bool}, FnsOk P l → TblOk P ν t → mkTblW P S gs gd l t r = true → ∃ t', TblOk P ν t' ∧ r t' = true
  | [], t, r, _, ht, h => ⟨t, ht, h⟩
  | (f, fn, sf) :: l, t, r, hl, ht, h => by
    simp only [mkTblW] at h
    cases hb : Nat.blt f 4096 with
    | false => rw [hb] at h; cases h
    | true =>
      rw [hb, cond_true] at h
      rw [Nat.blt_eq] at hb
      rw [← mkAnyW_eq hl.1] at h
      obtain ⟨d, hd, h⟩ := mkAny_true hS hok h
      rw [T4.setK_eq] at h
      exact mkTblW_true hS hok hl.2 (ht.set hb hd) h

end
end Go.Abs

/-
  A verified evaluator: what is called without arguments and gives no reference is run once.
-/
namespace Go.Abs
noncomputable section
open Go.RowKit (Below)

def isTrueK (av : AV) (_ : H) : Bool := vBool av fun b => b
def trueD : FnD := fun _ args h kr _ => isNilA args (kr (.bool true) h)

theorem below_of_ext {ro : RO} {φ φ' : Phi} {w w' : World} (hx : Ext ro φ w φ' w') (hl : ∀ id ver p, φ id ver = some p → id < ro.lim) : Below w.heap.size w w' :=
  ⟨hx.os, hx.tape, hx.output, hx.size, fun b hb => hx.same b hb fun id ver p hp h => by have := hl id ver p hp; omega⟩

theorem FnGood.closed_true {P : Program} {ν : Nu} {t : T4 FnD} (ht : TblOk P ν t) {n f : Nat} {h0 : H} {φ0 : Phi} (hrun : runF t n f [] h0 isTrueK (fun _ _ => false) = true)
    (h0G : ∀ w : World, (∀ b o, (b, o) ∈ ν.G → w.heap[b]? = some o) → HR φ0 ν h0 w) (hlim : ∀ id ver p, φ0 id ver = some p → id < h0.ro.lim) : FnGood P ν f trueD := by
  intro cf _ args h kr kp hk φ w vs hr hv
  obtain ⟨e1, hk1⟩ := isNilA_true (show isNilA args (kr (.bool true) h) = true from hk)
  subst e1
  cases hv
  have hr0 := h0G w fun b o hbo => (hr.gl b o hbo).1
  have hc := runF_ok ht n f [] h0 isTrueK (fun _ _ => false) hrun φ0 w [] hr0 .nil
  have hpost : ∀ e w', FPost φ0 ν h0.ro w h0.ds isTrueK (fun _ _ => false) e w' → FPost φ ν h.ro w h.ds kr kp e w' := by
    intro e w' hp
    cases e with
    | returned v =>
      obtain ⟨φ', av, h', hvr, hr', hx, _, _, hav⟩ := hp
      have hb := below_of_ext hx hlim
      obtain ⟨b, e2, hb2⟩ := vBool_true (show vBool av (fun b => b) = true from hav)
      subst e2 hb2
      cases hvr
      obtain ⟨g1, g2⟩ := hr.below hb
      exact ⟨φ, _, h, .bool _, g1, g2 _, rfl, rfl, hk1⟩
    | panicked chain =>
      obtain ⟨φ', av, h', v, _, _, _, _, _, _, hav⟩ := hp
      cases hav
    | _ => first | exact hp | trivial
  rcases hc with ⟨h1, h2⟩ | ⟨v, w', h1, h2⟩
  · exact .inl ⟨h1, h2.mono hpost⟩
  · exact .inr ⟨v, w', h1, hpost _ _ h2⟩

end
end Go.Abs

/-
  A verified evaluator: a map that a function without arguments makes is laid at once.
-/
namespace Go.Abs
noncomputable section
open Go.RowKit (Below)

/-- a world with a map more, laid by somebody else -/
theorem HR.newInMap {φ : Phi} {ν : Nu} {h : H} {w w1 : World} (hr : HR φ ν h w) (hb : Below w.heap.size w w1) (hn : h.next < 4 ^ HD) {B : Nat} (hB : w.heap.size ≤ B) (hB1 : B < w1.heap.size) {ms : Array MapEntry} {clock : Nat} {es : List (AV × AV × Nat)}
    (hw : w1.heap[B]? = some (.map ms clock)) (hc : ∀ φ, MEs φ ν es ms.toList) :
    HR (φ.new h.next 0 ⟨B, 0, 0, 0⟩) ν { h with next := h.next + 1, bl := T4.set HD h.next (.mapo es clock) h.bl } w1 ∧ (∀ ro, Ext ro φ w (φ.new h.next 0 ⟨B, 0, 0, 0⟩) w1) ∧ φ.le (φ.new h.next 0 ⟨B, 0, 0, 0⟩) := by
  have hnone : ∀ v, φ h.next v = none := by
    intro v
    cases e : φ h.next v with
    | none => rfl
    | some q => have := (hr.dom _ _ _ e).1; omega
  have hle := Phi.new_le (p := ⟨B, 0, 0, 0⟩) (hnone 0)
  refine ⟨⟨?_, ?_, ?_, ?_, ?_, hr.gp.mono hle, ?_, ub_new hr.ub _ _⟩, ?_, hle⟩
  · intro i v q hq
    rcases Phi.new_inv hq with ⟨rfl, rfl, rfl⟩ | hq
    · exact ⟨by simp, hB1⟩
    · have := hr.dom _ _ _ hq
      have := hb.size
      exact ⟨by simp; omega, by omega⟩
  · intro i v q i' v' q' hq hq' e
    rcases Phi.new_inv hq with ⟨e1, e2, e3⟩ | hq1 <;> rcases Phi.new_inv hq' with ⟨e4, e5, e6⟩ | hq2
    · rw [e1, e4]
    · have := (hr.dom _ _ _ hq2).2; rw [e3] at e; simp only at e; omega
    · have := (hr.dom _ _ _ hq1).2; rw [e6] at e; simp only at e; omega
    · exact hr.inj _ _ _ _ _ _ hq1 hq2 e
  · intro i x hi hx
    simp only at hi hx
    rw [T4.get_set HD _ _ hn (by have := hr.lim; omega)] at hx
    by_cases e : h.next = i
    · rw [if_pos e] at hx; cases hx; subst e
      refine ⟨fun ver p hp => ?_, _, Phi.new_self _ _ _ _, ms, hw, hc _⟩
      rcases Phi.new_inv hp with ⟨_, rfl, rfl⟩ | hp
      · rfl
      · rw [hnone] at hp; cases hp
    · rw [if_neg e] at hx
      have hi' : i < h.next := by omega
      refine BR.keep hle (fun v q hq => ?_) (fun v q hq => hb.block _ (hr.dom _ _ _ hq).2) (hr.bl i x hi' hx)
      rcases Phi.new_inv hq with ⟨rfl, _⟩ | hq
      · omega
      · exact hq
  · simp; omega
  · have := hr.ro; simp; omega
  · intro b' o' hb'
    obtain ⟨g1, g2⟩ := hr.gl b' o' hb'
    have hlt : b' < w.heap.size := (Array.getElem?_eq_some_iff.1 g1).1
    refine ⟨by rw [hb.block _ hlt]; exact g1, fun i v q hq e => ?_⟩
    rcases Phi.new_inv hq with ⟨_, _, e3⟩ | hq
    · rw [e3] at e; simp only at e; omega
    · exact g2 i v q hq e
  · intro ro
    refine ⟨hle, hb.size, hb.os, hb.tape, hb.output, ?_, fun b hlt _ => hb.block b hlt⟩
    intro i v q hq
    rcases Phi.new_inv hq with ⟨rfl, rfl, rfl⟩ | hq
    · exact .inr hB
    · exact .inl ⟨v, q, hq, rfl⟩

/-- an entry whose key is a string and whose value is a number: length, code, kind, number, when it was born -/
structure ME where
  l : Nat
  c : Nat
  K : IntKind
  n : Nat
  b : Nat

def ME.av (m : ME) : AV × AV × Nat := (.str m.l m.c, .int m.K (.ofNat m.n), m.b)

def meqK : List ME → List (AV × AV × Nat) → Bool → Bool
  | [], [], x => x
  | m :: ms, e :: es, x => vStr e.1 fun l c => vInt e.2.1 fun K n => chk (Nat.beq l m.l) (chk (Nat.beq c m.c) (chk (isIntK K m.K) (chk (ieq n (.ofNat m.n)) (chk (Nat.beq e.2.2 m.b) (meqK ms es x)))))
  | _, _, _ => false

theorem of_beq_int {a b : Int} (h : ieq a b = true) : a = b := by
  rw [ieq_eq] at h
  exact beq_iff_eq.1 h

theorem meqK_true : ∀ {ms : List ME} {es : List (AV × AV × Nat)} {x : Bool}, meqK ms es x = true → es = ms.map ME.av ∧ x = true
  | [], [], x, h => ⟨rfl, h⟩
  | m :: ms, (k, v, b) :: es, x, h => by
    have h' : (vStr k fun l c => vInt v fun K n => chk (Nat.beq l m.l) (chk (Nat.beq c m.c) (chk (isIntK K m.K) (chk (ieq n (.ofNat m.n)) (chk (Nat.beq b m.b) (meqK ms es x)))))) = true := h
    obtain ⟨l, c, e1, h⟩ := vStr_true h'
    obtain ⟨K, n, e2, h⟩ := vInt_true h
    obtain ⟨c1, h⟩ := chk_true h
    obtain ⟨c2, h⟩ := chk_true h
    obtain ⟨c3, h⟩ := chk_true h
    obtain ⟨c4, h⟩ := chk_true h
    obtain ⟨c5, h⟩ := chk_true h
    obtain ⟨h1, h2⟩ := meqK_true h
    refine ⟨?_, h2⟩
    rw [h1, List.map_cons, e1, e2, Nat.eq_of_beq_eq_true c1, Nat.eq_of_beq_eq_true c2, isIntK_true c3, of_beq_int c4, Nat.eq_of_beq_eq_true c5]
    rfl
  | [], _ :: _, x, h => by cases h
  | _ :: _, [], x, h => by cases h

def mpOf (v : AV) (k : Nat → Bool) : Bool :=
  AV.rec (motive_1 := fun _ => Bool) (motive_2 := fun _ => Bool) false (fun _ _ => false) false k false (fun _ _ _ _ _ => false) (fun _ _ => false) false (fun _ _ _ => false) false false
    (fun _ _ => false) (fun _ _ _ => false) (fun _ _ _ _ _ _ => false) (fun _ _ => false) (fun _ => false) (fun _ _ => false) false (fun _ _ _ _ => false) v
theorem mpOf_true {v : AV} {k : Nat → Bool} (h : mpOf v k = true) : ∃ id, v = .mp id ∧ k id = true := by
  cases v <;> first | exact ⟨_, rfl, h⟩ | cases h

def isMapK (ms : List ME) (clock : Nat) (av : AV) (h : H) : Bool := mpOf av fun id => chk (Nat.ble h.ro.lim id) (T4.getK HD id h.bl fun b =>
  AB.rec (motive := fun _ => Bool) (fun _ _ _ _ _ _ _ => false) (fun es c => meqK ms es (Nat.beq c clock)) (fun _ _ _ => false) (fun _ => false) b)

def mapD (ms : List ME) (clock : Nat) : FnD := fun _ args h kr _ => isNilA args (newB (.mapo (ms.map ME.av) clock) h fun id h => kr (.mp id) h)

theorem MEs_free {φ φ' : Phi} {ν : Nu} : ∀ {ms : List ME} {l : List MapEntry}, MEs φ ν (ms.map ME.av) l → MEs φ' ν (ms.map ME.av) l
  | [], [], h => trivial
  | m :: ms, e :: l, h => by
    obtain ⟨h1, h2, h3, h4⟩ := (show VR φ ν (.str m.l m.c) e.key ∧ VR φ ν (.int m.K (.ofNat m.n)) e.val ∧ e.born = m.b ∧ MEs φ ν (ms.map ME.av) l from h)
    refine (show VR φ' ν (.str m.l m.c) e.key ∧ VR φ' ν (.int m.K (.ofNat m.n)) e.val ∧ e.born = m.b ∧ MEs φ' ν (ms.map ME.av) l from ⟨?_, ?_, h3, MEs_free h4⟩)
    · generalize e.key = k at h1
      cases h1 with
      | str hs => exact .str hs
    · generalize e.val = k at h2
      cases h2
      exact .int _ _
  | [], _ :: _, h => h.elim
  | _ :: _, [], h => h.elim

theorem FnGood.closed_map {P : Program} {ν : Nu} {t : T4 FnD} (ht : TblOk P ν t) {n f : Nat} {h0 : H} {φ0 : Phi} {ms : List ME} {clock : Nat} (hrun : runF t n f [] h0 (isMapK ms clock) (fun _ _ => false) = true)
    (h0G : ∀ w : World, (∀ b o, (b, o) ∈ ν.G → w.heap[b]? = some o) → HR φ0 ν h0 w) (hlim : ∀ id ver p, φ0 id ver = some p → id < h0.ro.lim) : FnGood P ν f (mapD ms clock) := by
  intro cf _ args h kr kp hk φ w vs hr hv
  obtain ⟨e1, hk1⟩ := isNilA_true (show isNilA args (newB (.mapo (ms.map ME.av) clock) h fun id h => kr (.mp id) h) = true from hk)
  subst e1
  cases hv
  have hr0 := h0G w fun b o hbo => (hr.gl b o hbo).1
  obtain ⟨hn, hk2⟩ := newB_true hk1
  have hc := runF_ok ht n f [] h0 (isMapK ms clock) (fun _ _ => false) hrun φ0 w [] hr0 .nil
  have hpost : ∀ e w', FPost φ0 ν h0.ro w h0.ds (isMapK ms clock) (fun _ _ => false) e w' → FPost φ ν h.ro w h.ds kr kp e w' := by
    intro e w' hp
    cases e with
    | returned v =>
      obtain ⟨φ', av, h', hvr, hr', hx, hro, _, hav⟩ := hp
      have hb := below_of_ext hx hlim
      obtain ⟨id, e2, hk3⟩ := mpOf_true (show mpOf av _ = true from hav)
      obtain ⟨c1, hk4⟩ := chk_true hk3
      have c1 := Nat.le_of_ble_eq_true c1
      obtain ⟨b, hbl, hk5⟩ := T4.getK_true _ _ _ _ hk4
      cases b with
      | cells s n lw fz opn el rows => cases hk5
      | siter a b c => cases hk5
      | dfr o => cases hk5
      | mapo es ck =>
        obtain ⟨e3, e4⟩ := meqK_true (show meqK ms es (Nat.beq ck clock) = true from hk5)
        have e4 := Nat.eq_of_beq_eq_true e4
        subst e2 e3 e4
        cases hvr with
        | mp hp =>
          rename_i p
          obtain ⟨_, p2, hp2, mm, hheap, hme⟩ := hr'.bl id _ (hr'.dom _ _ _ hp).1 hbl
          rw [hp] at hp2
          cases hp2
          have hB : w.heap.size ≤ p.blk := by
            rcases hx.img id 0 p hp with ⟨v0, p0, g1, g2⟩ | g
            · have g3 := hlim id v0 p0 g1
              rw [hro] at c1
              omega
            · exact g
          obtain ⟨q1, q2, q3⟩ := hr.newInMap hb hn hB (hr'.dom _ _ _ hp).2 hheap (fun φ => MEs_free hme)
          exact ⟨φ.new h.next 0 ⟨p.blk, 0, 0, 0⟩, _, { h with next := h.next + 1, bl := T4.set HD h.next (.mapo (ms.map ME.av) ck) h.bl }, .mp (p := ⟨p.blk, 0, 0, 0⟩) (Phi.new_self _ _ _ _), q1, q2 _, rfl, rfl, hk2⟩
    | panicked chain =>
      obtain ⟨φ', av, h', v, _, _, _, _, _, _, hav⟩ := hp
      cases hav
    | _ => first | exact hp | trivial
  rcases hc with ⟨h1, h2⟩ | ⟨v, w', h1, h2⟩
  · exact .inl ⟨h1, h2.mono hpost⟩
  · exact .inr ⟨v, w', h1, hpost _ _ h2⟩

end
end Go.Abs

/-
  A verified evaluator: the heap at the start: the package-level variables that may be read.
-/
namespace Go.Abs
noncomputable section

structure Gl where
  g : Nat
  l : List Nat
  el : TypeId

def Gl.row (q : Gl) : List AV := q.l.map fun n => .int .u8 (.ofNat n)
def rowT (d : Nat) (x : List AV) : T4 (List AV) := Nat.rec (motive := fun _ => T4 (List AV)) (.l x) (fun _ t => .n t .e .e .e) d
def Gl.blk (q : Gl) : AB := .cells q.l.length (Nat.succ q.l.length) 0 0 true q.el (rowT RD q.row)
def glHeap (gs : List Gl) : T4 AB := List.rec (motive := fun _ => T4 AB) .e (fun q _ t => T4.set HD q.g q.blk t) gs
def h0Of (gs : List Gl) (lim : Nat) : H := ⟨[], ⟨lim, []⟩, lim, glHeap gs⟩
def Gl.obj (q : Gl) (fr : Nat × Nat) : Obj := .cells (q.l.map fun n => Value.int .u8 (.ofNat n)).toArray q.el fr
def phiOf (gs : List Gl) : Phi := fun id ver => match gs.find? (fun q => Nat.beq q.g id && Nat.beq q.l.length ver) with
  | some q => some ⟨q.g, q.l.length, q.l.length, 0⟩
  | none => none

theorem phiOf_some {gs : List Gl} {id ver : Nat} {p : PB} (h : phiOf gs id ver = some p) : ∃ q ∈ gs, q.g = id ∧ q.l.length = ver ∧ p = ⟨q.g, q.l.length, q.l.length, 0⟩ := by
  unfold phiOf at h
  split at h
  · rename_i q hq
    have h1 := List.find?_some hq
    rw [Bool.and_eq_true] at h1
    exact ⟨q, List.mem_of_find?_eq_some hq, Nat.eq_of_beq_eq_true h1.1, Nat.eq_of_beq_eq_true h1.2, (Option.some.inj h).symm⟩
  · cases h

theorem glHeap_get : ∀ {gs : List Gl} {id : Nat} {b : AB}, (∀ q ∈ gs, q.g < 4 ^ HD) → id < 4 ^ HD → T4.get HD id (glHeap gs) = some b → ∃ q ∈ gs, q.g = id ∧ b = q.blk
  | [], id, b, _, _, h => by
    rw [show glHeap [] = .e from rfl, T4.get_e] at h
    cases h
  | q :: gs, id, b, hg, hi, h => by
    have h' : T4.get HD id (T4.set HD q.g q.blk (glHeap gs)) = some b := h
    rw [T4.get_set HD q.g id (hg q List.mem_cons_self) hi] at h'
    by_cases e : q.g = id
    · rw [if_pos e] at h'
      exact ⟨q, List.mem_cons_self, e, (Option.some.inj h').symm⟩
    · rw [if_neg e] at h'
      obtain ⟨q', g1, g2⟩ := glHeap_get (fun q hq => hg q (List.mem_cons_of_mem _ hq)) hi h'
      exact ⟨q', List.mem_cons_of_mem _ g1, g2⟩

theorem rowT_get (x : List AV) : ∀ d, T4.get d 0 (rowT d x) = some x
  | 0 => rfl
  | d + 1 => by
    show T4.get d (0 / 4) (T4.kid (0 % 4) (.n (rowT d x) .e .e .e)) = _
    simpa [T4.kid] using rowT_get x d

theorem h0_HR {ν : Nu} {gs : List Gl} {lim : Nat} {w : World} (hlim : lim ≤ 4 ^ HD) (hlt : ∀ q ∈ gs, q.g < lim) (hpos : ∀ q ∈ gs, 0 < q.l.length) (hnd : (gs.map (·.g)).Nodup) (hgv : ∀ g, 0 < gver g → ∃ q ∈ gs, q.g = g ∧ q.l.length = gver g)
    (hG : ∀ q ∈ gs, ∃ fr, (q.g, q.obj fr) ∈ ν.G) (hw : ∀ b o, (b, o) ∈ ν.G → w.heap[b]? = some o) : HR (phiOf gs) ν (h0Of gs lim) w := by
  have hblk : ∀ q ∈ gs, ∃ fr, w.heap[q.g]? = some (q.obj fr) := fun q hq => let ⟨fr, h⟩ := hG q hq; ⟨fr, hw _ _ h⟩
  have huniq : ∀ q ∈ gs, ∀ q' ∈ gs, q.g = q'.g → q = q' := by
    intro q hq q' hq' e
    obtain ⟨i, hi, rfl⟩ := List.getElem_of_mem hq
    obtain ⟨j, hj, rfl⟩ := List.getElem_of_mem hq'
    have h1 : i < (gs.map (·.g)).length := by simpa using hi
    have h2 : j < (gs.map (·.g)).length := by simpa using hj
    have : i = j := (List.getElem_inj (h₀ := h1) (h₁ := h2) hnd).1 (by simpa using e)
    subst this; rfl
  refine ⟨?_, ?_, ?_, hlim, Nat.le_refl _, ?_, ?_, fun i hi => by cases hi⟩
  · intro id ver p hp
    obtain ⟨q, hq, h1, h2, rfl⟩ := phiOf_some hp
    obtain ⟨fr, hb⟩ := hblk q hq
    exact ⟨by rw [← h1]; exact hlt q hq, (Array.getElem?_eq_some_iff.1 hb).1⟩
  · intro id ver p id' ver' p' hp hp' e
    obtain ⟨q, hq, h1, h2, rfl⟩ := phiOf_some hp
    obtain ⟨q', hq', h1', h2', rfl⟩ := phiOf_some hp'
    rw [← h1, ← h1']; exact e
  · intro id b hid hb
    have hid : id < lim := hid
    obtain ⟨q, hq, h1, rfl⟩ := glHeap_get (fun q hq => by have := hlt q hq; omega) (by omega) hb
    refine ⟨trivial, Nat.zero_le _, hpos q hq, fun ver p hp => ?_⟩
    obtain ⟨q', hq', h1', h2', rfl⟩ := phiOf_some hp
    have := huniq q hq q' hq' (by rw [h1, h1'])
    subst this
    subst h2'
    obtain ⟨fr, hb2⟩ := hblk q hq
    refine ⟨Nat.le_succ _, rfl, fun _ => ⟨_, fr, hb2, by simp, by simp, fun j hj => ?_, fun e => by omega, fun e => by omega⟩⟩
    refine ⟨.int .u8 (.ofNat q.l[j]), by simp [hj], rfl, ?_⟩
    have hc : cellAt q.l.length (rowT RD q.row) j = .int .u8 (.ofNat q.l[j]) := by
      unfold cellAt
      rw [Nat.div_eq_of_lt hj, rowT_get, Nat.mod_eq_of_lt hj]
      simp [Gl.row, hj]
    rw [hc]
    exact .int _ _
  · intro g hg
    obtain ⟨q, hq, h1, h2⟩ := hgv g hg
    have hf : ∃ q', gs.find? (fun q => Nat.beq q.g g && Nat.beq q.l.length (gver g)) = some q' := by
      rw [← Option.isSome_iff_exists, List.find?_isSome]
      exact ⟨q, hq, by rw [h1, h2]; simp⟩
    obtain ⟨q', hq'⟩ := hf
    have h3 := List.find?_some hq'
    rw [Bool.and_eq_true] at h3
    refine ⟨⟨q'.g, q'.l.length, q'.l.length, 0⟩, by unfold phiOf; rw [hq'], Nat.eq_of_beq_eq_true h3.1⟩
  · intro b o hbo
    refine ⟨hw b o hbo, fun id ver p hp e => ?_⟩
    obtain ⟨q, hq, h1, h2, rfl⟩ := phiOf_some hp
    show id < lim
    rw [← h1]; exact hlt q hq

end
end Go.Abs

/-
  The table of the program's words, as words.table makes it (printed by program).
-/
namespace Go.Abs
def wordsClock : Nat := 262
def wordsMs : List ME := [⟨6, 91617109427009, .u8, 1, 0⟩,
  ⟨9, 1315359943245019104321, .u8, 1, 1⟩,
  ⟨5, 353350469185, .u8, 1, 2⟩,
  ⟨3, 5000257, .u8, 1, 3⟩,
  ⟨10, 317751239002167759096897, .u8, 1, 4⟩,
  ⟨4, 1330859073, .u8, 1, 5⟩,
  ⟨9, 1278896560973888638017, .u8, 1, 6⟩,
  ⟨3, 4476481, .u8, 1, 7⟩,
  ⟨3, 5852737, .u8, 1, 8⟩,
  ⟨3, 4543041, .u8, 1, 9⟩,
  ⟨4, 1095062081, .u8, 1, 10⟩,
  ⟨5, 357577347649, .u8, 1, 11⟩,
  ⟨9, 1315359944344596599617, .u8, 1, 12⟩,
  ⟨6, 86068079842113, .u8, 1, 13⟩,
  ⟨2, 21569, .u8, 1, 14⟩,
  ⟨14, 1608828531497585684031718530570049, .u8, 1, 15⟩,
  ⟨6, 76219819640130, .u8, 1, 16⟩,
  ⟨6, 98209817839938, .u8, 1, 17⟩,
  ⟨5, 323435449410, .u8, 1, 18⟩,
  ⟨5, 323251817538, .u8, 1, 19⟩,
  ⟨2, 22850, .u8, 1, 20⟩,
  ⟨2, 17987, .u8, 1, 21⟩,
  ⟨2, 18499, .u8, 1, 22⟩,
  ⟨9, 1517628705878675900483, .u8, 1, 23⟩,
  ⟨10, 393474046784059228637251, .u8, 1, 24⟩,
  ⟨5, 357879073859, .u8, 1, 25⟩,
  ⟨6, 86094050512707, .u8, 1, 26⟩,
  ⟨4, 1347243843, .u8, 1, 27⟩,
  ⟨6, 56269713788739, .u8, 1, 28⟩,
  ⟨13, 6041551547356042718232915562307, .u8, 1, 29⟩,
  ⟨15, 265725889768987890266851172013657923, .u8, 1, 30⟩,
  ⟨13, 6204334641357092112960926404419, .u8, 1, 31⟩,
  ⟨8, 6002815898267569987, .u8, 1, 32⟩,
  ⟨7, 23729957717823299, .u8, 1, 33⟩,
  ⟨7, 21479313250340675, .u8, 1, 34⟩,
  ⟨8, 6002259618398359363, .u8, 1, 35⟩,
  ⟨10, 336732150260214721826627, .u8, 1, 36⟩,
  ⟨4, 1498435395, .u8, 1, 37⟩,
  ⟨4, 1381125955, .u8, 1, 38⟩,
  ⟨13, 5649427943429146784801458638659, .u8, 1, 39⟩,
  ⟨5, 362091466563, .u8, 1, 40⟩,
  ⟨4, 1096040772, .u8, 1, 41⟩,
  ⟨2, 17732, .u8, 1, 42⟩,
  ⟨12, 25771079172926118500575167812, .u8, 1, 43⟩,
  ⟨9, 1259374295495201277252, .u8, 1, 44⟩,
  ⟨9, 1517628712527134999876, .u8, 1, 45⟩,
  ⟨9, 1315359944344597448004, .u8, 1, 46⟩,
  ⟨10, 336732145752216729503044, .u8, 1, 47⟩,
  ⟨6, 83877512365380, .u8, 1, 48⟩,
  ⟨8, 5642809480180025668, .u8, 1, 49⟩,
  ⟨4, 1314344772, .u8, 1, 50⟩,
  ⟨10, 393235314627021275944260, .u8, 1, 51⟩,
  ⟨7, 18939419596577092, .u8, 1, 52⟩,
  ⟨4, 1163086917, .u8, 1, 53⟩,
  ⟨3, 4476485, .u8, 1, 54⟩,
  ⟨7, 19215345139338821, .u8, 1, 55⟩,
  ⟨8, 5497841001890598469, .u8, 1, 56⟩,
  ⟨11, 83814134097584974746373701, .u8, 1, 57⟩,
  ⟨10, 327397807262443088662085, .u8, 1, 58⟩,
  ⟨10, 327102950406787701165637, .u8, 1, 59⟩,
  ⟨12, 21456323973809839260416888389, .u8, 1, 60⟩,
  ⟨6, 77280106008133, .u8, 1, 61⟩,
  ⟨12, 27636423378395693673573797445, .u8, 1, 62⟩,
  ⟨11, 93475984521892321818857029, .u8, 1, 63⟩,
  ⟨8, 4918288487314378309, .u8, 1, 64⟩,
  ⟨10, 369863367293487026556485, .u8, 1, 65⟩,
  ⟨11, 83813912883575097382948421, .u8, 1, 66⟩,
  ⟨10, 341252245714361135681093, .u8, 1, 67⟩,
  ⟨9, 1555453613492417089093, .u8, 1, 68⟩,
  ⟨10, 336732149699523232681541, .u8, 1, 69⟩,
  ⟨12, 26078047327433075562087992901, .u8, 1, 70⟩,
  ⟨12, 22068078162707990933361937989, .u8, 1, 71⟩,
  ⟨9, 1278898817192819969605, .u8, 1, 72⟩,
  ⟨11, 101919391829110772901236293, .u8, 1, 73⟩,
  ⟨5, 327513624901, .u8, 1, 74⟩,
  ⟨5, 353518113349, .u8, 1, 75⟩,
  ⟨9, 1444559228055377369157, .u8, 1, 76⟩,
  ⟨6, 75102961293381, .u8, 1, 77⟩,
  ⟨5, 297750249798, .u8, 1, 78⟩,
  ⟨2, 17478, .u8, 1, 79⟩,
  ⟨4, 1162627398, .u8, 1, 80⟩,
  ⟨12, 23616754675392681150228744518, .u8, 1, 81⟩,
  ⟨6, 90457586288966, .u8, 1, 82⟩,
  ⟨5, 327513164102, .u8, 1, 83⟩,
  ⟨5, 362175154502, .u8, 1, 84⟩,
  ⟨7, 20070800200519494, .u8, 1, 85⟩,
  ⟨3, 5394246, .u8, 1, 86⟩,
  ⟨4, 1297044038, .u8, 1, 87⟩,
  ⟨6, 78401563412807, .u8, 1, 88⟩,
  ⟨7, 23157176264905287, .u8, 1, 89⟩,
  ⟨5, 345028645447, .u8, 1, 90⟩,
  ⟨7, 20070799931163976, .u8, 1, 91⟩,
  ⟨3, 5188937, .u8, 1, 92⟩,
  ⟨11, 92252947950752660743728457, .u8, 1, 93⟩,
  ⟨14, 1588309668187138014784348213298249, .u8, 1, 94⟩,
  ⟨2, 20041, .u8, 1, 95⟩,
  ⟨7, 19216543837867593, .u8, 1, 96⟩,
  ⟨8, 4995689643908550217, .u8, 1, 97⟩,
  ⟨7, 21463881432518217, .u8, 1, 98⟩,
  ⟨5, 362208579145, .u8, 1, 99⟩,
  ⟨12, 26099878864652542872566910537, .u8, 1, 100⟩,
  ⟨4, 1330925129, .u8, 1, 101⟩,
  ⟨7, 19220890278841929, .u8, 1, 102⟩,
  ⟨2, 21321, .u8, 1, 103⟩,
  ⟨4, 1414747466, .u8, 1, 104⟩,
  ⟨9, 1259371195954927719754, .u8, 1, 105⟩,
  ⟨3, 5850443, .u8, 1, 106⟩,
  ⟨5, 327579484492, .u8, 1, 107⟩,
  ⟨4, 1414742348, .u8, 1, 108⟩,
  ⟨7, 20070799931163980, .u8, 1, 109⟩,
  ⟨4, 1413891404, .u8, 1, 110⟩,
  ⟨4, 1397966156, .u8, 1, 111⟩,
  ⟨5, 362007054668, .u8, 1, 112⟩,
  ⟨6, 91621472160076, .u8, 1, 113⟩,
  ⟨4, 1162758476, .u8, 1, 114⟩,
  ⟨5, 357645044044, .u8, 1, 115⟩,
  ⟨7, 19500119154903372, .u8, 1, 116⟩,
  ⟨4, 1162104653, .u8, 1, 117⟩,
  ⟨22, 29677648179017929415112773370000495247019887617459534, .u8, 1, 118⟩,
  ⟨12, 24223654047227519835983398222, .u8, 1, 119⟩,
  ⟨19, 1768925677479199813221270968476238158843954510, .u8, 1, 120⟩,
  ⟨8, 4996261462835414350, .u8, 1, 121⟩,
  ⟨4, 1415071054, .u8, 1, 122⟩,
  ⟨2, 20302, .u8, 1, 123⟩,
  ⟨3, 5525326, .u8, 1, 124⟩,
  ⟨6, 90457418585422, .u8, 1, 125⟩,
  ⟨7, 18939441138455886, .u8, 1, 126⟩,
  ⟨6, 91613082895183, .u8, 1, 127⟩,
  ⟨2, 17999, .u8, 1, 128⟩,
  ⟨3, 4605519, .u8, 1, 129⟩,
  ⟨7, 19216526909984079, .u8, 1, 130⟩,
  ⟨2, 20047, .u8, 1, 131⟩,
  ⟨8, 5494759122808361039, .u8, 1, 132⟩,
  ⟨2, 21071, .u8, 1, 133⟩,
  ⟨5, 353349423695, .u8, 1, 134⟩,
  ⟨12, 24235682192803379701858390607, .u8, 1, 135⟩,
  ⟨5, 353349686351, .u8, 1, 136⟩,
  ⟨6, 92725396657487, .u8, 1, 137⟩,
  ⟨8, 6291331069371569743, .u8, 1, 138⟩,
  ⟨14, 1546636879355971501952978141790544, .u8, 1, 139⟩,
  ⟨4, 1162297680, .u8, 1, 140⟩,
  ⟨2, 18000, .u8, 1, 141⟩,
  ⟨2, 18512, .u8, 1, 142⟩,
  ⟨3, 4409680, .u8, 1, 143⟩,
  ⟨7, 19512299832428880, .u8, 1, 144⟩,
  ⟨4, 1398099024, .u8, 1, 145⟩,
  ⟨7, 23157176483270480, .u8, 1, 146⟩,
  ⟨8, 4996261462970421072, .u8, 1, 147⟩,
  ⟨9, 1278758064234362262096, .u8, 1, 148⟩,
  ⟨7, 19216462200656464, .u8, 1, 149⟩,
  ⟨7, 21745394846224976, .u8, 1, 150⟩,
  ⟨10, 322470797489643224781392, .u8, 1, 151⟩,
  ⟨10, 322399819634676832621136, .u8, 1, 152⟩,
  ⟨6, 85002843734354, .u8, 1, 153⟩,
  ⟨2, 17490, .u8, 1, 154⟩,
  ⟨6, 75120307815762, .u8, 1, 155⟩,
  ⟨7, 23437543374800210, .u8, 1, 156⟩,
  ⟨9, 1536073767720851883346, .u8, 1, 157⟩,
  ⟨9, 1277675231154335532370, .u8, 1, 158⟩,
  ⟨8, 4996261462835742034, .u8, 1, 159⟩,
  ⟨9, 1517624214407751746898, .u8, 1, 160⟩,
  ⟨7, 23438621177431378, .u8, 1, 161⟩,
  ⟨9, 1315359943189368685906, .u8, 1, 162⟩,
  ⟨6, 92712494712146, .u8, 1, 163⟩,
  ⟨9, 1315359961954131133778, .u8, 1, 164⟩,
  ⟨7, 23455135561696594, .u8, 1, 165⟩,
  ⟨5, 361940338002, .u8, 1, 166⟩,
  ⟨2, 18002, .u8, 1, 167⟩,
  ⟨2, 18514, .u8, 1, 168⟩,
  ⟨5, 361989884242, .u8, 1, 169⟩,
  ⟨7, 19216458090630994, .u8, 1, 170⟩,
  ⟨3, 5133650, .u8, 1, 171⟩,
  ⟨6, 86059422729043, .u8, 1, 172⟩,
  ⟨2, 17491, .u8, 1, 173⟩,
  ⟨7, 22042224548332883, .u8, 1, 174⟩,
  ⟨6, 92647902168403, .u8, 1, 175⟩,
  ⟨8, 4990918871730767187, .u8, 1, 176⟩,
  ⟨8, 4995689708199626067, .u8, 1, 177⟩,
  ⟨8, 4990918871747741011, .u8, 1, 178⟩,
  ⟨10, 360104174997206660629843, .u8, 1, 179⟩,
  ⟨4, 1313294675, .u8, 1, 180⟩,
  ⟨4, 1163544915, .u8, 1, 181⟩,
  ⟨6, 76155446447955, .u8, 1, 182⟩,
  ⟨8, 4923069104295859283, .u8, 1, 183⟩,
  ⟨6, 91625950893139, .u8, 1, 184⟩,
  ⟨3, 5068115, .u8, 1, 185⟩,
  ⟨8, 5138124872757297492, .u8, 1, 186⟩,
  ⟨4, 1414743380, .u8, 1, 187⟩,
  ⟨4, 1312901204, .u8, 1, 188⟩,
  ⟨4, 1313163348, .u8, 1, 189⟩,
  ⟨7, 20344630051752020, .u8, 1, 190⟩,
  ⟨4, 1431455828, .u8, 1, 191⟩,
  ⟨5, 357644978516, .u8, 1, 192⟩,
  ⟨2, 20308, .u8, 1, 193⟩,
  ⟨14, 1668650406361285531157018797625172, .u8, 1, 194⟩,
  ⟨13, 6518164525925109044541534981972, .u8, 1, 195⟩,
  ⟨8, 5138124816871674452, .u8, 1, 196⟩,
  ⟨4, 1163219540, .u8, 1, 197⟩,
  ⟨10, 369807162365675526509140, .u8, 1, 198⟩,
  ⟨4, 1162893652, .u8, 1, 199⟩,
  ⟨5, 327647776341, .u8, 1, 200⟩,
  ⟨2, 20565, .u8, 1, 201⟩,
  ⟨4, 1313820757, .u8, 1, 202⟩,
  ⟨5, 297548206933, .u8, 1, 203⟩,
  ⟨5, 306256106325, .u8, 1, 204⟩,
  ⟨5, 297783804246, .u8, 1, 205⟩,
  ⟨6, 91557248909654, .u8, 1, 206⟩,
  ⟨7, 20070800284598614, .u8, 1, 207⟩,
  ⟨4, 1313163351, .u8, 1, 208⟩,
  ⟨4, 1213483351, .u8, 1, 209⟩,
  ⟨15, 359713709624999960377481121995312983, .u8, 1, 210⟩,
  ⟨6, 92703736152897, .u8, 2, 211⟩,
  ⟨3, 4473921, .u8, 2, 212⟩,
  ⟨5, 353350470721, .u8, 2, 213⟩,
  ⟨4, 1280065859, .u8, 2, 214⟩,
  ⟨6, 83860365656387, .u8, 2, 215⟩,
  ⟨5, 297750449219, .u8, 2, 216⟩,
  ⟨7, 19514498789232451, .u8, 2, 217⟩,
  ⟨8, 4995985438491430723, .u8, 2, 218⟩,
  ⟨6, 76228242195780, .u8, 2, 219⟩,
  ⟨7, 25123068948203844, .u8, 2, 220⟩,
  ⟨6, 76159590484292, .u8, 2, 221⟩,
  ⟨8, 4995689721268098629, .u8, 2, 222⟩,
  ⟨4, 1414092869, .u8, 2, 223⟩,
  ⟨8, 4995689708266603847, .u8, 2, 224⟩,
  ⟨2, 20295, .u8, 2, 225⟩,
  ⟨2, 17993, .u8, 2, 226⟩,
  ⟨10, 327508775952885580648009, .u8, 2, 227⟩,
  ⟨8, 4995689669863231049, .u8, 2, 228⟩,
  ⟨7, 23717863023136329, .u8, 2, 229⟩,
  ⟨5, 297549317453, .u8, 2, 230⟩,
  ⟨4, 1163284301, .u8, 2, 231⟩,
  ⟨8, 6434606243482719565, .u8, 2, 232⟩,
  ⟨4, 1313165391, .u8, 2, 233⟩,
  ⟨7, 21764073642411344, .u8, 2, 234⟩,
  ⟨4, 1145128274, .u8, 2, 235⟩,
  ⟨7, 19513313193641298, .u8, 2, 236⟩,
  ⟨6, 86115525870930, .u8, 2, 237⟩,
  ⟨7, 19514447283832146, .u8, 2, 238⟩,
  ⟨6, 79453980018003, .u8, 2, 239⟩,
  ⟨3, 5522771, .u8, 2, 240⟩,
  ⟨4, 1414680403, .u8, 2, 241⟩,
  ⟨5, 362157266003, .u8, 2, 242⟩,
  ⟨4, 1347376211, .u8, 2, 243⟩,
  ⟨6, 78401563153491, .u8, 2, 244⟩,
  ⟨8, 6071768544482317651, .u8, 2, 245⟩,
  ⟨8, 6004218948052079955, .u8, 2, 246⟩,
  ⟨9, 1278896560935368017236, .u8, 2, 247⟩,
  ⟨8, 5138124842827206229, .u8, 2, 248⟩,
  ⟨3, 4543317, .u8, 2, 249⟩,
  ⟨5, 297766834775, .u8, 2, 250⟩,
  ⟨4, 1330791770, .u8, 3, 251⟩,
  ⟨5, 357813077338, .u8, 3, 252⟩,
  ⟨6, 91557148640602, .u8, 3, 253⟩,
  ⟨5, 297481097299, .u8, 3, 254⟩,
  ⟨6, 91556946202707, .u8, 3, 255⟩,
  ⟨10, 327416755332043686496584, .u8, 3, 256⟩,
  ⟨11, 100668259783346265187109192, .u8, 3, 257⟩,
  ⟨9, 1278971700515796635468, .u8, 3, 258⟩,
  ⟨10, 393235389778696349372236, .u8, 3, 259⟩,
  ⟨5, 297767228753, .u8, 3, 260⟩,
  ⟨6, 91557232334161, .u8, 3, 261⟩]
end Go.Abs

/-
  A verified evaluator: a function of two strings that gives a string, by its contract (strings.Trim and its like).
-/
namespace Go.Abs
noncomputable section
open Go.RowKit (Below)

def strOf (l : List UInt8) (k : AV → Bool) : Bool := forceN l.length fun n => forceN (enc l) fun c => k (.str n c)

def bothD (g : List UInt8 → List UInt8 → List UInt8) : FnD := fun _ args h kr _ => args2 args fun x y => vStr x fun l c => vStr y fun m d => chk (Nat.blt l 4294967281) (chk (Nat.blt m 4294967281)
  (chk (ascii (decL m d)) (strOf (g (decL l c) (decL m d)) fun v => kr v h)))

theorem both_good {P : Program} {ν : Nu} {f : Nat} {g : List UInt8 → List UInt8 → List UInt8} (hb : hasBody P f = true)
    (hC : ∀ (s t : ByteArray) (w : World), s.size < 4294967281 → t.size < 4294967281 → (∀ (j : Nat) b, t.data.toList[j]? = some b → b.toNat < 128) →
      Calls P f #[.string s, .string t] w fun e w' => e = .returned (.string ⟨(g s.data.toList t.data.toList).toArray⟩) ∧ Below w.heap.size w w') : FnGood P ν f (bothD g) := by
  refine FnGood.plain hb fun cf args h φ w vs kr kp hk hr hv => ?_
  obtain ⟨x, y, e0, hk1⟩ := args2_true hk
  obtain ⟨l, c, e1, hk2⟩ := vStr_true hk1
  obtain ⟨m, d, e2, hk3⟩ := vStr_true hk2
  obtain ⟨c1, hk4⟩ := chk_true hk3
  obtain ⟨c2, hk5⟩ := chk_true hk4
  obtain ⟨c3, hk6⟩ := chk_true hk5
  rw [Nat.blt_eq] at c1 c2
  subst e0 e1 e2
  cases hv with
  | cons h1 hv =>
    cases hv with
    | cons h2 hv =>
      cases hv with
      | nil =>
        cases h1 with
        | str hs =>
          cases h2 with
          | str ht =>
            rename_i s t
            have hk7 : strOf (g s.data.toList t.data.toList) (fun v => kr v h) = true := by rw [hs.dec, ht.dec]; exact hk6
            unfold strOf at hk7
            rw [forceN_eq, forceN_eq] at hk7
            exact ⟨_, _, hC s t w (by rw [hs.1]; exact c1) (by rw [ht.1]; exact c2) (ascii_true (by rw [ht.dec]; exact c3)), .str (IsStr.of_list _), hk7⟩

end
end Go.Abs
