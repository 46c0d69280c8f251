/-
  The texts of the senders and of the targets: their words, and the tokens that Tokens makes of them; under what is stated of the world.
-/
import Derived.Test.YtkghfmfciekbdaaGreatDoorWRoot
import Derived.Test.YtkghfmfciekbdaaGreatDoorWTok
set_option linter.unusedVariables false
set_option linter.unusedSimpArgs false
namespace Go.Proofs.YtkghfmfciekbdaaGreatDoor
open Go Go.Abs Go.RowKit Go.Lib
set_option linter.unusedVariables false
set_option linter.unusedSimpArgs false
set_option maxRecDepth 100000
theorem fieldsGo_app : ∀ (s cur t : List UInt8), fieldsGo cur (s ++ 32 :: t) = fieldsGo cur s ++ fieldsGo [] (32 :: t)
  | [], cur, t => by
    have h : isSp 32 = true := by decide
    cases cur <;> simp [fieldsGo, h]
  | b :: s, cur, t => by
    cases hb : isSp b
    · simp only [List.cons_append, fieldsGo, hb]
      exact fieldsGo_app s (cur ++ [b]) t
    · cases cur with
      | nil => simpa [fieldsGo, hb] using fieldsGo_app s [] t
      | cons c cs => simpa [fieldsGo, hb] using fieldsGo_app s [] t
/-- the words of a text and a piece behind a blank -/
theorem fields_snoc (s t : List UInt8) : fields (s ++ 32 :: t) = fields s ++ fields t := by
  have h : isSp 32 = true := by decide
  unfold fields
  rw [fieldsGo_app, fieldsGo_sp 32 t h]

/-! ### pairs of lists -/
def All2 {α β : Type} (R : α → β → Prop) : List α → List β → Prop
  | [], [] => True
  | a :: l, b :: m => R a b ∧ All2 R l m
  | _, _ => False
theorem All2.append {α β : Type} {R : α → β → Prop} : ∀ {l l' : List α} {m m' : List β}, All2 R l m → All2 R l' m' → All2 R (l ++ l') (m ++ m')
  | [], _, [], _, _, h' => h'
  | a :: l, _, b :: m, _, h, h' => ⟨h.1, All2.append h.2 h'⟩
  | [], _, _ :: _, _, h, _ => h.elim
  | _ :: _, _, [], _, h, _ => h.elim
theorem All2.length {α β : Type} {R : α → β → Prop} : ∀ {l : List α} {m : List β}, All2 R l m → l.length = m.length
  | [], [], _ => rfl
  | a :: l, b :: m, h => congrArg (· + 1) (All2.length h.2)
  | [], _ :: _, h => h.elim
  | _ :: _, [], h => h.elim
theorem All2.getD {α β : Type} {R : α → β → Prop} : ∀ {l : List α} {m : List β} (a0 : α) (b0 : β), All2 R l m → ∀ k, k < m.length → R (l.getD k a0) (m.getD k b0)
  | [], [], _, _, _, k, hk => by simp at hk
  | a :: l, b :: m, _, _, h, 0, _ => h.1
  | a :: l, b :: m, a0, b0, h, k + 1, hk => by simpa using All2.getD a0 b0 h.2 k (by simpa using hk)
  | [], _ :: _, _, _, h, _, _ => h.elim
  | _ :: _, [], _, _, h, _, _ => h.elim

/-! ### tokens -/
def tokOf (t : Nat × Nat × Nat) : Int × ByteArray := (.ofNat t.1, txB t.2.1 t.2.2)
noncomputable def sndK (k : Nat) : List (Int × ByteArray) := (sndA k).map tokOf
noncomputable def tgtK (k : Nat) : List (Int × ByteArray) := (tgtA k).map tokOf
noncomputable def modK (k : Nat) : List (Int × ByteArray) := (modA k).map tokOf
def WT (w : List UInt8) (t : Int × ByteArray) : Prop := TokW ⟨w.toArray⟩ t.1 t.2
theorem tokW_word {x : ByteArray} (hp : 0 < x.size) (h1 : (x[0]'hp).toNat ≠ 34) (h2 : ¬ (48 ≤ (x[0]'hp).toNat ∧ (x[0]'hp).toNat ≤ 57)) (h3 : x.data.toList ≠ [46]) (h4 : Lib.contains sgn x.data.toList = false) : TokW x 1 x := ⟨hp, .inr (.inr ⟨h1, h2, by rw [ByteArray.toList_eq]; exact h3, rfl, .inr ⟨h4, rfl⟩⟩)⟩
theorem tokW_sign {x : ByteArray} (hp : 0 < x.size) (h1 : (x[0]'hp).toNat ≠ 34) (h2 : ¬ (48 ≤ (x[0]'hp).toNat ∧ (x[0]'hp).toNat ≤ 57)) (h3 : x.data.toList ≠ [46]) (h4 : Lib.contains sgn x.data.toList = true) : TokW x 5 x := ⟨hp, .inr (.inr ⟨h1, h2, by rw [ByteArray.toList_eq]; exact h3, rfl, .inl ⟨h4, rfl⟩⟩)⟩
theorem tokW_num {x : ByteArray} (hp : 0 < x.size) (h1 : 48 ≤ (x[0]'hp).toNat ∧ (x[0]'hp).toNat ≤ 57) : TokW x 2 x := ⟨hp, .inr (.inl ⟨h1.1, h1.2, rfl, rfl⟩)⟩
theorem tokW_quote {x t : ByteArray} (hp : 0 < x.size) (h1 : (x[0]'hp).toNat = 34) (h2 : t = ⟨(Lib.trimS x.data.toList [34]).toArray⟩) (h3 : x.size < 4294967281) : TokW x 3 t := ⟨hp, .inl ⟨h1, rfl, h2, h3⟩⟩
theorem wordsS {k : Nat} (hk : k < 8) : All2 WT (fields (sndB k).data.toList) (sndK k) := by
  match k, hk with
  | 0, _ => exact ⟨tokW_word (x := ⟨#[65]⟩) (by decide) (by decide) (by decide) (by decide) (by decide), trivial⟩
  | 1, _ => exact ⟨tokW_word (x := ⟨#[84]⟩) (by decide) (by decide) (by decide) (by decide) (by decide), tokW_sign (x := ⟨#[40]⟩) (by decide) (by decide) (by decide) (by decide) (by decide), tokW_num (x := ⟨#[49]⟩) (by decide) (by decide), tokW_sign (x := ⟨#[58]⟩) (by decide) (by decide) (by decide) (by decide) (by decide), tokW_num (x := ⟨#[50]⟩) (by decide) (by decide), tokW_sign (x := ⟨#[41]⟩) (by decide) (by decide) (by decide) (by decide) (by decide), trivial⟩
  | 2, _ => exact ⟨tokW_num (x := ⟨#[53]⟩) (by decide) (by decide), trivial⟩
  | 3, _ => exact ⟨tokW_word (x := ⟨#[83, 80, 65, 67, 69, 83]⟩) (by decide) (by decide) (by decide) (by decide) (by decide), trivial⟩
  | 4, _ => exact ⟨tokW_word (x := ⟨#[78]⟩) (by decide) (by decide) (by decide) (by decide) (by decide), tokW_sign (x := ⟨#[40]⟩) (by decide) (by decide) (by decide) (by decide) (by decide), tokW_word (x := ⟨#[73]⟩) (by decide) (by decide) (by decide) (by decide) (by decide), tokW_sign (x := ⟨#[43]⟩) (by decide) (by decide) (by decide) (by decide) (by decide), tokW_num (x := ⟨#[49]⟩) (by decide) (by decide), tokW_sign (x := ⟨#[41]⟩) (by decide) (by decide) (by decide) (by decide) (by decide), trivial⟩
  | 5, _ => exact ⟨tokW_word (x := ⟨#[71, 66]⟩) (by decide) (by decide) (by decide) (by decide) (by decide), tokW_word (x := ⟨#[79, 70]⟩) (by decide) (by decide) (by decide) (by decide) (by decide), tokW_word (x := ⟨#[72]⟩) (by decide) (by decide) (by decide) (by decide) (by decide), trivial⟩
  | 6, _ => exact ⟨tokW_quote (x := ⟨#[34, 120, 34]⟩) (by decide) (by decide) (by rfl) (by decide), trivial⟩
  | 7, _ => exact ⟨tokW_word (x := ⟨#[69]⟩) (by decide) (by decide) (by decide) (by decide) (by decide), trivial⟩
theorem wordsT {k : Nat} (hk : k < 4) : All2 WT (fields (tgtB k).data.toList) (tgtK k) := by
  match k, hk with
  | 0, _ => exact ⟨tokW_word (x := ⟨#[65]⟩) (by decide) (by decide) (by decide) (by decide) (by decide), trivial⟩
  | 1, _ => exact ⟨tokW_word (x := ⟨#[69]⟩) (by decide) (by decide) (by decide) (by decide) (by decide), trivial⟩
  | 2, _ => exact ⟨tokW_word (x := ⟨#[78]⟩) (by decide) (by decide) (by decide) (by decide) (by decide), tokW_sign (x := ⟨#[40]⟩) (by decide) (by decide) (by decide) (by decide) (by decide), tokW_num (x := ⟨#[50]⟩) (by decide) (by decide), tokW_sign (x := ⟨#[41]⟩) (by decide) (by decide) (by decide) (by decide) (by decide), trivial⟩
  | 3, _ => exact ⟨tokW_word (x := ⟨#[71, 65]⟩) (by decide) (by decide) (by decide) (by decide) (by decide), tokW_word (x := ⟨#[79, 70]⟩) (by decide) (by decide) (by decide) (by decide) (by decide), tokW_word (x := ⟨#[72]⟩) (by decide) (by decide) (by decide) (by decide) (by decide), trivial⟩
theorem wordsM {k : Nat} (hk : k < 5) : All2 WT (fields (modB k).data.toList) (modK k) := by
  have hR : TokW ⟨#[82, 79, 85, 78, 68, 69, 68]⟩ 1 ⟨#[82, 79, 85, 78, 68, 69, 68]⟩ := tokW_word (by decide) (by decide) (by decide) (by decide) (by decide)
  have hM : TokW ⟨#[77, 79, 68, 69]⟩ 1 ⟨#[77, 79, 68, 69]⟩ := tokW_word (by decide) (by decide) (by decide) (by decide) (by decide)
  have hI : TokW ⟨#[73, 83]⟩ 1 ⟨#[73, 83]⟩ := tokW_word (by decide) (by decide) (by decide) (by decide) (by decide)
  match k, hk with
  | 0, _ => exact trivial
  | 1, _ => exact ⟨hR, trivial⟩
  | 2, _ => exact ⟨hR, hM, hI, tokW_word (x := ⟨#[78, 69, 65, 82, 69, 83, 84, 45, 69, 86, 69, 78]⟩) (by decide) (by decide) (by decide) (by decide) (by decide), trivial⟩
  | 3, _ => exact ⟨hR, hM, tokW_word (x := ⟨#[84, 82, 85, 78, 67, 65, 84, 73, 79, 78]⟩) (by decide) (by decide) (by decide) (by decide) (by decide), trivial⟩
  | 4, _ => exact ⟨hR, hM, hI, tokW_word (x := ⟨#[84, 79, 87, 65, 82, 68, 45, 76, 69, 83, 83, 69, 82]⟩) (by decide) (by decide) (by decide) (by decide) (by decide), trivial⟩

/-! ### pieces put one behind the other -/
def cat {α : Type} (E : Nat → List α) : Nat → List α
  | 0 => []
  | k + 1 => cat E k ++ E k
theorem cat_at {α : Type} (E : Nat → List α) : ∀ {m k : Nat}, k < m → ∃ r, cat E m = cat E k ++ (E k ++ r)
  | m + 1, k, h => by
    by_cases e : k = m
    · subst e; exact ⟨[], by simp [cat]⟩
    · obtain ⟨r, hr⟩ := cat_at E (m := m) (k := k) (by omega)
      exact ⟨r ++ E m, by simp [cat, hr]⟩
theorem cat_get {α : Type} {E : Nat → List α} {m k i : Nat} (hk : k < m) (hi : i < (E k).length) : (cat E m)[(cat E k).length + i]? = (E k)[i]? := by
  obtain ⟨r, hr⟩ := cat_at E hk
  rw [hr, List.getElem?_append_right (by omega), show (cat E k).length + i - (cat E k).length = i by omega, List.getElem?_append_left hi]
theorem cat_len {α : Type} (E : Nat → List α) (k : Nat) : (cat E (k + 1)).length = (cat E k).length + (E k).length := by simp [cat]
theorem cat_le {α : Type} (E : Nat → List α) {m k : Nat} (h : k ≤ m) : (cat E k).length ≤ (cat E m).length := by
  induction m with
  | zero =>
    have : k = 0 := by omega
    subst this; exact Nat.le_refl _
  | succ m ih =>
    by_cases e : k = m + 1
    · subst e; exact Nat.le_refl _
    · have := ih (by omega)
      rw [cat_len]; omega

/-! ### the texts -/
noncomputable def eS (x : Nat → Int) (k : Nat) : List (Int × ByteArray) := sndK (kS x k)
noncomputable def eT (x : Nat → Int) (k : Nat) : List (Int × ByteArray) := tgtK (kT x k) ++ modK (kM x k)
theorem ba_app (a b : ByteArray) : (a ++ b).data.toList = a.data.toList ++ b.data.toList := by simp [ByteArray.data_append]
theorem fields_nil : fields [] = [] := rfl
theorem txS_words (x : Nat → Int) : ∀ k, All2 WT (fields (txS x k).data.toList) (cat (eS x) k)
  | 0 => trivial
  | k + 1 => by
    have e : (txS x (k + 1)).data.toList = (txS x k).data.toList ++ 32 :: (sndB (kS x k)).data.toList := by simp only [txS, ba_app]; simp
    rw [e, fields_snoc]
    exact (txS_words x k).append (wordsS (kS_lt x k))
theorem fieldsTM {τ μ : Nat} (hτ : τ < 4) (hμ : μ < 5) : fields ((tgtB τ).data.toList ++ (modB μ).data.toList) = fields (tgtB τ).data.toList ++ fields (modB μ).data.toList := by
  match τ, hτ, μ, hμ with
  | 0, _, 0, _ | 0, _, 1, _ | 0, _, 2, _ | 0, _, 3, _ | 0, _, 4, _ | 1, _, 0, _ | 1, _, 1, _ | 1, _, 2, _ | 1, _, 3, _ | 1, _, 4, _ => rfl
  | 2, _, 0, _ | 2, _, 1, _ | 2, _, 2, _ | 2, _, 3, _ | 2, _, 4, _ | 3, _, 0, _ | 3, _, 1, _ | 3, _, 2, _ | 3, _, 3, _ | 3, _, 4, _ => rfl
theorem txT_words (x : Nat → Int) : ∀ k, All2 WT (fields (txT x k).data.toList) (cat (eT x) k)
  | 0 => trivial
  | k + 1 => by
    have e : (txT x (k + 1)).data.toList = (txT x k).data.toList ++ 32 :: ((tgtB (kT x k)).data.toList ++ (modB (kM x k)).data.toList) := by simp only [txT, ba_app]; simp
    rw [e, fields_snoc, fieldsTM (kT_lt x k) (kM_lt x k)]
    exact (txT_words x k).append ((wordsT (kT_lt x k)).append (wordsM (kM_lt x k)))
def AsciiB (s : ByteArray) : Prop := ∀ (j : Nat) b, s.data.toList[j]? = some b → b.toNat < 128
theorem ascii_app {a b : ByteArray} (ha : AsciiB a) (hb : AsciiB b) : AsciiB (a ++ b) := by
  intro j c h
  rw [ba_app] at h
  by_cases hj : j < a.data.toList.length
  · rw [List.getElem?_append_left hj] at h; exact ha j c h
  · rw [List.getElem?_append_right (by omega)] at h; exact hb _ c h
theorem ascii_lit {s : ByteArray} (h : (s.data.toList.all fun b => decide (b.toNat < 128)) = true) : AsciiB s := by
  intro j b hb
  have := List.all_eq_true.1 h b (List.mem_of_getElem? hb)
  simpa using this
theorem ascii_snd (k : Nat) : AsciiB (sndB k) := by
  match k with
  | 0 | 1 | 2 | 3 | 4 | 5 | 6 | 7 => exact ascii_lit (by decide)
  | k + 8 => exact ascii_lit (s := ⟨#[]⟩) rfl
theorem ascii_tgt (k : Nat) : AsciiB (tgtB k) := by
  match k with
  | 0 | 1 | 2 | 3 => exact ascii_lit (by decide)
  | k + 4 => exact ascii_lit (s := ⟨#[]⟩) rfl
theorem ascii_mod (k : Nat) : AsciiB (modB k) := by
  match k with
  | 0 | 1 | 2 | 3 | 4 => exact ascii_lit (by decide)
  | k + 5 => exact ascii_lit (s := ⟨#[]⟩) rfl
theorem txS_ascii (x : Nat → Int) : ∀ k, AsciiB (txS x k)
  | 0 => ascii_lit rfl
  | k + 1 => ascii_app (ascii_app (txS_ascii x k) (ascii_lit (by decide))) (ascii_snd _)
theorem txT_ascii (x : Nat → Int) : ∀ k, AsciiB (txT x k)
  | 0 => ascii_lit rfl
  | k + 1 => ascii_app (ascii_app (ascii_app (txT_ascii x k) (ascii_lit (by decide))) (ascii_tgt _)) (ascii_mod _)

/-! ### the cells of tokens -/
theorem toksC_len (l : List (Int × ByteArray)) : ∀ k, (toksC l k).length = 5 * k
  | 0 => rfl
  | k + 1 => by rw [toksC_succ, List.length_append, toksC_len l k]; simp [tokR]; omega
theorem toksC_get (l : List (Int × ByteArray)) : ∀ {k i e : Nat}, i < k → e < 5 → (toksC l k)[5 * i + e]? = (tokR i (l.getD i (1, ByteArray.empty)).1 (l.getD i (1, ByteArray.empty)).2)[e]?
  | k + 1, i, e, hi, he => by
    rw [toksC_succ]
    by_cases h : i = k
    · subst h
      rw [List.getElem?_append_right (by rw [toksC_len]; omega), toksC_len, show 5 * i + e - 5 * i = e by omega]
    · rw [List.getElem?_append_left (by rw [toksC_len]; omega)]
      exact toksC_get l (by omega) he
/-- the cells of a list of tokens -/
def cellsC (l : List (Int × ByteArray)) (j : Nat) : Value := (toksC l l.length).getD j (.bool false)
theorem cellsC_one (l : List (Int × ByteArray)) (j : Nat) : (cellsC l j).oneCell' = true := by
  unfold cellsC
  rw [List.getD_eq_getElem?_getD]
  cases h : (toksC l l.length)[j]? with
  | none => rfl
  | some v =>
    have hm := List.mem_of_getElem? h
    unfold toksC at hm
    obtain ⟨i, _, hi⟩ := List.mem_flatMap.1 hm
    exact tokR_one _ _ _ v hi
def StrOk (t : Nat × Nat × Nat) : Prop := IsStr t.2.1 t.2.2 (txB t.2.1 t.2.2)
theorem tokCells_of {l : List (Int × ByteArray)} {o : Nat} {tks : List (Nat × Nat × Nat)} (h : ∀ i t, tks[i]? = some t → l[o + i]? = some (tokOf t)) (hs : ∀ t ∈ tks, StrOk t) : TokCells (fun j => cellsC l (o * 5 + j)) tks := by
  refine ⟨fun j => cellsC_one l _, fun i t ht => ?_⟩
  have h1 := h i t ht
  have hlt := (List.getElem?_eq_some_iff.1 h1).1
  have h2 : l.getD (o + i) (1, ByteArray.empty) = tokOf t := by rw [List.getD_eq_getElem?_getD, h1]; rfl
  have key : ∀ e, e < 5 → cellsC l (o * 5 + (5 * i + e)) = (tokR (o + i) (tokOf t).1 (tokOf t).2).getD e (.bool false) := by
    intro e he
    unfold cellsC
    rw [List.getD_eq_getElem?_getD, show o * 5 + (5 * i + e) = 5 * (o + i) + e by omega, toksC_get l hlt he, h2, List.getD_eq_getElem?_getD]
  refine ⟨key 0 (by omega), txB t.2.1 t.2.2, key 1 (by omega), hs t (List.mem_of_getElem? ht)⟩
def strB (t : Nat × Nat × Nat) : Bool := Nat.beq (txB t.2.1 t.2.2).size t.2.1 && Nat.beq (enc (txB t.2.1 t.2.2).data.toList) t.2.2
theorem strB_true {l : List (Nat × Nat × Nat)} (h : l.all strB = true) : ∀ t ∈ l, StrOk t := by
  intro t ht
  have := List.all_eq_true.1 h t ht
  unfold strB at this
  rw [Bool.and_eq_true] at this
  exact ⟨Nat.eq_of_beq_eq_true this.1, Nat.eq_of_beq_eq_true this.2⟩
theorem strS {k : Nat} (hk : k < 8) : ∀ t ∈ sndA k, StrOk t := by
  match k, hk with
  | 0, _ | 1, _ | 2, _ | 3, _ | 4, _ | 5, _ | 6, _ | 7, _ => exact strB_true (by kernel_rfl)
theorem strT {k : Nat} (hk : k < 4) : ∀ t ∈ tgtA k, StrOk t := by
  match k, hk with
  | 0, _ | 1, _ | 2, _ | 3, _ => exact strB_true (by kernel_rfl)
theorem strM {k : Nat} (hk : k < 5) : ∀ t ∈ modA k, StrOk t := by
  match k, hk with
  | 0, _ | 1, _ | 2, _ | 3, _ | 4, _ => exact strB_true (by kernel_rfl)
end Go.Proofs.YtkghfmfciekbdaaGreatDoor
