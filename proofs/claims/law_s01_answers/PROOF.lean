import PyProof.Rows.All
import Wide.All
import OpenK.AllK
import Wide.FinOn
import Open.SpecLaws
import KE.OsGo
import KE.KDictKeyed
import HandS.ForSpec
import HandS.Comp
import HandS.Iter
import HandS.Text
import HandS.Flow
import HandS.Style
import HandS.Codes
import HandS.TupAny
import HandS.IsInst
import HandS.Conv
import HandS.Flt
import HandS.Walk
import HandS.ExcCtx
import HandS.Hot
import HandS.HotCalls
import HandS.ExcInit
import HandS.ExcField
import HandS.ExcInitHot
import PySem.Challenge.RW_stabletokens_s01_answers
set_option Elab.async false
set_option linter.all false
section
/-! The plain law, part 1: a token is read off the positions that it examines. -/
namespace Law
open R7253e.Spec

theorem pl_le (f : UInt16 → Bool) : ∀ u : Units, prefixLength f u ≤ u.length
  | [] => Nat.le_refl _
  | c :: r => by
    unfold prefixLength
    split
    · exact Nat.succ_le_succ (pl_le f r)
    · exact Nat.zero_le _

theorem pl_local (f : UInt16 → Bool) : ∀ (u v : Units), (∀ i, i ≤ prefixLength f u → u[i]? = v[i]?) → prefixLength f v = prefixLength f u
  | [], v, h => by
    have h0 := h 0 (Nat.zero_le _)
    cases v with
    | nil => rfl
    | cons d s => simp at h0
  | c :: r, v, h => by
    have h0 := h 0 (Nat.zero_le _)
    cases v with
    | nil => simp at h0
    | cons d s =>
      have e : c = d := by simpa using h0
      subst e
      unfold prefixLength
      by_cases hf : f c = true
      · rw [if_pos hf, if_pos hf]
        rw [pl_local f r s fun i hi => by
          have := h (i + 1) (by unfold prefixLength; rw [if_pos hf]; omega)
          simpa using this]
      · rw [if_neg hf, if_neg hf]

/-- where a prefix ends, its condition ends -/
theorem pl_stop (f : UInt16 → Bool) : ∀ (u : Units) (c : UInt16), u[prefixLength f u]? = some c → f c = false
  | [], c, h => by simp [prefixLength] at h
  | d :: r, c, h => by
    unfold prefixLength at h
    by_cases hf : f d = true
    · rw [if_pos hf] at h
      exact pl_stop f r c (by simpa using h)
    · rw [if_neg hf] at h
      have e : d = c := by simpa using h
      subst e
      simpa using hf
theorem pl_all (f : UInt16 → Bool) : ∀ (u : Units) (i : Nat) (c : UInt16), i < prefixLength f u → u[i]? = some c → f c = true
  | [], i, c, h, _ => by simp [prefixLength] at h
  | d :: r, i, c, h, e => by
    unfold prefixLength at h
    by_cases hf : f d = true
    · rw [if_pos hf] at h
      cases i with
      | zero =>
        have e : d = c := by simpa using e
        subst e
        exact hf
      | succ i => exact pl_all f r i c (by omega) (by simpa using e)
    · rw [if_neg hf] at h
      omega

/-! ### strings -/
theorem se_ge : ∀ (u : Units) (n : Nat), n ≤ (stringEnd u n).2 ∧ (stringEnd u n).2 ≤ n + u.length
  | [], n => ⟨Nat.le_refl _, Nat.le_refl _⟩
  | [c], n => by
    unfold stringEnd
    by_cases h : c = 34
    · rw [if_pos h]
      exact ⟨Nat.le_succ _, Nat.le_refl _⟩
    · rw [if_neg h]
      exact ⟨Nat.le_succ _, Nat.le_refl _⟩
  | c :: d :: q, n => by
    unfold stringEnd
    by_cases h : c = 34
    · rw [if_pos h]
      by_cases h2 : d = 34
      · simp only [if_pos h2]
        have := se_ge q (n + 2)
        simp only [List.length_cons]
        omega
      · simp only [if_neg h2, List.length_cons]
        omega
    · rw [if_neg h]
      have := se_ge (d :: q) (n + 1)
      simp only [List.length_cons] at this ⊢
      omega

theorem se_local : ∀ (u v : Units) (n : Nat), (∀ i, n + i ≤ (stringEnd u n).2 → u[i]? = v[i]?) → stringEnd v n = stringEnd u n
  | [], v, n, h => by
    have h0 := h 0 (Nat.le_refl _)
    cases v with
    | nil => rfl
    | cons d s => simp at h0
  | [c], v, n, h => by
    have hl := se_ge [c] n
    have h0 := h 0 (by omega)
    cases v with
    | nil => simp at h0
    | cons d s =>
      have e : c = d := by simpa using h0
      subst e
      have h1 := h 1 (by
        unfold stringEnd
        by_cases hc : c = 34
        · rw [if_pos hc]; exact Nat.le_refl _
        · rw [if_neg hc]; exact Nat.le_refl _)
      cases s with
      | nil => rfl
      | cons x y => simp at h1
  | c :: d :: q, v, n, h => by
    have hl := se_ge (c :: d :: q) n
    have h0 := h 0 (by omega)
    cases v with
    | nil => simp at h0
    | cons c' s =>
      have e : c = c' := by simpa using h0
      subst e
      by_cases hc : c = 34
      · have e1 : stringEnd (c :: d :: q) n = if d = 34 then stringEnd q (n + 2) else (true, n + 1) := by
          rw [stringEnd]; rw [if_pos hc]
        have hq := se_ge q (n + 2)
        have h1 := h 1 (by
          rw [e1]
          by_cases hd : d = 34
          · rw [if_pos hd]; omega
          · rw [if_neg hd]; exact Nat.le_refl _)
        cases s with
        | nil => simp at h1
        | cons d' s' =>
          have e : d = d' := by simpa using h1
          subst e
          have e2 : stringEnd (c :: d :: s') n = if d = 34 then stringEnd s' (n + 2) else (true, n + 1) := by
            rw [stringEnd]; rw [if_pos hc]
          rw [e1, e2]
          by_cases hd : d = 34
          · rw [if_pos hd, if_pos hd]
            refine se_local q s' (n + 2) fun i hi => ?_
            have := h (i + 2) (by rw [e1, if_pos hd]; omega)
            simpa using this
          · rw [if_neg hd, if_neg hd]
      · have e1 : stringEnd (c :: d :: q) n = stringEnd (d :: q) (n + 1) := by
          rw [stringEnd]; rw [if_neg hc]
        have e2 : stringEnd (c :: s) n = stringEnd s (n + 1) := by
          cases s with
          | nil =>
            show (if c = 34 then ((true, n + 1) : Bool × Nat) else stringEnd [] (n + 1)) = _
            rw [if_neg hc]
          | cons x y => rw [stringEnd]; rw [if_neg hc]
        rw [e1, e2]
        refine se_local (d :: q) s (n + 1) fun i hi => ?_
        have := h (i + 1) (by rw [e1]; omega)
        simpa using this

/-! ### tokens -/
theorem take_agree {u v : Units} {n : Nat} (h : ∀ i, i < n → u[i]? = v[i]?) : u.take n = v.take n := by
  apply List.ext_getElem?
  intro i
  by_cases hi : i < n
  · rw [List.getElem?_take_of_lt hi, List.getElem?_take_of_lt hi, h i hi]
  · rw [List.getElem?_eq_none (by rw [List.length_take]; omega), List.getElem?_eq_none (by rw [List.length_take]; omega)]

theorem readToken_cons (c : UInt16) (r : Units) : readToken (c :: r) =
    if c = 32 then (1, prefixLength (fun d => d == 32) (c :: r), prefixLength (fun d => d == 32) (c :: r) + 1)
    else if c = 10 then (2, 1, 1)
    else if c = 35 then (3, prefixLength (fun d => d != 10) (c :: r), prefixLength (fun d => d != 10) (c :: r) + 1)
    else if isLetter c then (keywordKind ((c :: r).take (prefixLength isIdentifierPart (c :: r))), prefixLength isIdentifierPart (c :: r), prefixLength isIdentifierPart (c :: r) + 1)
    else if isDigit c then (if ((c :: r).drop (prefixLength isDigit (c :: r))).head? = some 46 then
        (if prefixLength isDigit (((c :: r).drop (prefixLength isDigit (c :: r))).drop 1) = 0 then (5, prefixLength isDigit (c :: r), prefixLength isDigit (c :: r) + 2)
          else (5, prefixLength isDigit (c :: r) + 1 + prefixLength isDigit (((c :: r).drop (prefixLength isDigit (c :: r))).drop 1), prefixLength isDigit (c :: r) + 2 + prefixLength isDigit (((c :: r).drop (prefixLength isDigit (c :: r))).drop 1)))
        else (5, prefixLength isDigit (c :: r), prefixLength isDigit (c :: r) + 1))
    else if c = 34 then (if (stringEnd r 1).1 then 6 else 7, (stringEnd r 1).2, (stringEnd r 1).2 + 1)
    else if c = 61 then operatorKind r 26 28 else if c = 33 then operatorKind r 27 8 else if c = 60 then operatorKind r 25 24 else (symbolKind c, 1, 1) := rfl

theorem pl_pos {f : UInt16 → Bool} {c : UInt16} {r : Units} (h : f c = true) : prefixLength f (c :: r) = prefixLength f r + 1 := by
  rw [prefixLength, if_pos h]

theorem opk (r : Units) (k l : Nat) : (operatorKind r k l).2.2 = 2 ∧ ((operatorKind r k l).2.1 = 1 ∨ ((operatorKind r k l).2.1 = 2 ∧ r ≠ [])) := by
  unfold operatorKind
  by_cases h : r.head? = some 61
  · rw [if_pos h]
    refine ⟨rfl, .inr ⟨rfl, fun e => ?_⟩⟩
    rw [e] at h
    simp at h
  · rw [if_neg h]
    exact ⟨rfl, .inl rfl⟩

/-- a token has at least one unit, lies in the text, and examines its own units -/
theorem readToken_len (c : UInt16) (r : Units) : 1 ≤ (readToken (c :: r)).2.1 ∧ (readToken (c :: r)).2.1 ≤ (c :: r).length ∧ (readToken (c :: r)).2.1 ≤ (readToken (c :: r)).2.2 := by
  rw [readToken_cons]
  by_cases h1 : c = 32
  · rw [if_pos h1]
    have := pl_le (fun d => d == 32) (c :: r)
    have hp := pl_pos (f := fun d => d == 32) (c := c) (r := r) (by simp [h1])
    simp only
    omega
  rw [if_neg h1]
  by_cases h2 : c = 10
  · rw [if_pos h2]
    simp
  rw [if_neg h2]
  by_cases h3 : c = 35
  · rw [if_pos h3]
    have := pl_le (fun d => d != 10) (c :: r)
    have hp := pl_pos (f := fun d => d != 10) (c := c) (r := r) (by simp [h3])
    simp only
    omega
  rw [if_neg h3]
  by_cases h4 : isLetter c = true
  · rw [if_pos h4]
    have := pl_le isIdentifierPart (c :: r)
    have hp := pl_pos (f := isIdentifierPart) (c := c) (r := r) (by simp [isIdentifierPart, h4])
    simp only
    omega
  rw [if_neg h4]
  by_cases h5 : isDigit c = true
  · rw [if_pos h5]
    have hl := pl_le isDigit (c :: r)
    have hp := pl_pos (f := isDigit) (c := c) (r := r) h5
    by_cases h6 : ((c :: r).drop (prefixLength isDigit (c :: r))).head? = some 46
    · rw [if_pos h6]
      have hm := pl_le isDigit (((c :: r).drop (prefixLength isDigit (c :: r))).drop 1)
      by_cases h7 : prefixLength isDigit (((c :: r).drop (prefixLength isDigit (c :: r))).drop 1) = 0
      · rw [if_pos h7]
        simp only
        omega
      · rw [if_neg h7]
        simp only [List.length_drop] at hm ⊢
        have : prefixLength isDigit (c :: r) < (c :: r).length := by
          by_cases hlt : prefixLength isDigit (c :: r) < (c :: r).length
          · exact hlt
          · rw [List.drop_eq_nil_of_le (by omega)] at h6
            simp at h6
        omega
    · rw [if_neg h6]
      simp only
      omega
  rw [if_neg h5]
  by_cases h6 : c = 34
  · rw [if_pos h6]
    have := se_ge r 1
    simp only [List.length_cons]
    omega
  rw [if_neg h6]
  have hop : ∀ k l, 1 ≤ (operatorKind r k l).2.1 ∧ (operatorKind r k l).2.1 ≤ (c :: r).length ∧ (operatorKind r k l).2.1 ≤ (operatorKind r k l).2.2 := fun k l => by
    obtain ⟨e, h | ⟨h, hr⟩⟩ := opk r k l
    · rw [e, h]
      simp
    · rw [e, h]
      cases r with
      | nil => exact absurd rfl hr
      | cons x y => simp
  by_cases h7 : c = 61
  · rw [if_pos h7]
    exact hop _ _
  rw [if_neg h7]
  by_cases h8 : c = 33
  · rw [if_pos h8]
    exact hop _ _
  rw [if_neg h8]
  by_cases h9 : c = 60
  · rw [if_pos h9]
    exact hop _ _
  rw [if_neg h9]
  simp

theorem drop_get (u : Units) (n i : Nat) : (u.drop n)[i]? = u[n + i]? := by rw [List.getElem?_drop]
theorem head_get (u : Units) (n : Nat) : (u.drop n).head? = u[n]? := by
  rw [← List.head?_drop]

theorem readToken_local (u v : Units) (h : ∀ i, i < (readToken u).2.2 → u[i]? = v[i]?) : readToken v = readToken u := by
  cases u with
  | nil =>
    have h0 := h 0 (by show 0 < 1; decide)
    cases v with
    | nil => rfl
    | cons d s => simp at h0
  | cons c r =>
    have hlen := readToken_len c r
    have h0 := h 0 (by omega)
    cases v with
    | nil => simp at h0
    | cons c' s =>
      have e : c = c' := by simpa using h0
      subst e
      have pl : ∀ (f : UInt16 → Bool), (∀ i, i ≤ prefixLength f (c :: r) → i < (readToken (c :: r)).2.2) → prefixLength f (c :: s) = prefixLength f (c :: r) :=
        fun f hf => pl_local f _ _ fun i hi => h i (hf i hi)
      rw [readToken_cons c r] at h hlen pl ⊢
      rw [readToken_cons c s]
      by_cases h1 : c = 32
      · rw [if_pos h1] at h pl ⊢
        rw [if_pos h1, pl _ fun i hi => by simp only; omega]
      rw [if_neg h1] at h pl ⊢
      rw [if_neg h1]
      by_cases h2 : c = 10
      · rw [if_pos h2, if_pos h2]
      rw [if_neg h2] at h pl ⊢
      rw [if_neg h2]
      by_cases h3 : c = 35
      · rw [if_pos h3] at h pl ⊢
        rw [if_pos h3, pl _ fun i hi => by simp only; omega]
      rw [if_neg h3] at h pl ⊢
      rw [if_neg h3]
      by_cases h4 : isLetter c = true
      · rw [if_pos h4] at h pl ⊢
        rw [if_pos h4, pl _ fun i hi => by simp only; omega]
        rw [take_agree (u := c :: s) (v := c :: r) fun i hi => (h i (by simp only; omega)).symm]
      rw [if_neg h4] at h pl ⊢
      rw [if_neg h4]
      by_cases h5 : isDigit c = true
      · rw [if_pos h5] at h pl ⊢
        rw [if_pos h5]
        by_cases h6 : ((c :: r).drop (prefixLength isDigit (c :: r))).head? = some 46
        · rw [if_pos h6] at h pl ⊢
          by_cases h7 : prefixLength isDigit (((c :: r).drop (prefixLength isDigit (c :: r))).drop 1) = 0
          · rw [if_pos h7] at h pl ⊢
            have en := pl isDigit fun i hi => by simp only; omega
            rw [en]
            have h6' : ((c :: s).drop (prefixLength isDigit (c :: r))).head? = some 46 := by
              rw [head_get, ← h _ (by simp only; omega), ← head_get]; exact h6
            rw [if_pos h6']
            have em : prefixLength isDigit (((c :: s).drop (prefixLength isDigit (c :: r))).drop 1) = prefixLength isDigit (((c :: r).drop (prefixLength isDigit (c :: r))).drop 1) :=
              pl_local _ _ _ fun i hi => by
                rw [drop_get, drop_get, drop_get, drop_get]
                exact h _ (by simp only; omega)
            rw [em, if_pos h7]
          · rw [if_neg h7] at h pl ⊢
            have en := pl isDigit fun i hi => by simp only; omega
            rw [en]
            have h6' : ((c :: s).drop (prefixLength isDigit (c :: r))).head? = some 46 := by
              rw [head_get, ← h _ (by simp only; omega), ← head_get]; exact h6
            rw [if_pos h6']
            have em : prefixLength isDigit (((c :: s).drop (prefixLength isDigit (c :: r))).drop 1) = prefixLength isDigit (((c :: r).drop (prefixLength isDigit (c :: r))).drop 1) :=
              pl_local _ _ _ fun i hi => by
                rw [drop_get, drop_get, drop_get, drop_get]
                exact h _ (by simp only; omega)
            rw [em, if_neg h7]
        · rw [if_neg h6] at h pl ⊢
          have en := pl isDigit fun i hi => by simp only; omega
          rw [en]
          have h6' : ¬ ((c :: s).drop (prefixLength isDigit (c :: r))).head? = some 46 := by
            rw [head_get, ← h _ (by simp only; omega), ← head_get]; exact h6
          rw [if_neg h6']
      rw [if_neg h5] at h pl ⊢
      rw [if_neg h5]
      by_cases h6 : c = 34
      · rw [if_pos h6] at h pl ⊢
        rw [if_pos h6]
        have e := se_local r s 1 fun i hi => by
          have := h (i + 1) (by simp only; omega)
          simpa using this
        rw [e]
      rw [if_neg h6] at h pl ⊢
      rw [if_neg h6]
      have hop : ∀ k l, (∀ i, i < (operatorKind r k l).2.2 → (c :: r)[i]? = (c :: s)[i]?) → operatorKind s k l = operatorKind r k l := fun k l hh => by
        have h1 := hh 1 (by rw [(opk r k l).1]; decide)
        have e : r.head? = s.head? := by
          rw [List.head?_eq_getElem?, List.head?_eq_getElem?]
          simpa using h1
        unfold operatorKind
        rw [e]
      by_cases h7 : c = 61
      · rw [if_pos h7] at h ⊢
        rw [if_pos h7]
        exact hop _ _ h
      rw [if_neg h7] at h ⊢
      rw [if_neg h7]
      by_cases h8 : c = 33
      · rw [if_pos h8] at h ⊢
        rw [if_pos h8]
        exact hop _ _ h
      rw [if_neg h8] at h ⊢
      rw [if_neg h8]
      by_cases h9 : c = 60
      · rw [if_pos h9] at h ⊢
        rw [if_pos h9]
        exact hop _ _ h
      rw [if_neg h9, if_neg h9]
end Law
end
section
set_option linter.all false
/-! The plain law, part 2: changes; tokens that are reused are those that are read. -/
namespace Law
open R7253e.Spec

/-- a change's replacements stand one behind another between p and n -/
def Valid : Nat → Nat → Change → Prop
  | p, n, [] => p ≤ n
  | p, n, r :: q => p ≤ r.lo ∧ r.lo ≤ r.hi ∧ Valid r.hi n q

theorem Valid.le : ∀ {c : Change} {p n : Nat}, Valid p n c → p ≤ n
  | [], _, _, h => h
  | r :: q, _, _, ⟨h1, h2, h3⟩ => by
    have := Valid.le h3
    omega
theorem Valid.mem : ∀ {c : Change} {p n : Nat}, Valid p n c → ∀ r ∈ c, p ≤ r.lo ∧ r.lo ≤ r.hi ∧ r.hi ≤ n
  | [], _, _, _, r, hr => by cases hr
  | r :: q, p, n, ⟨h1, h2, h3⟩, x, hx => by
    rcases List.mem_cons.mp hx with rfl | hx
    · exact ⟨h1, h2, h3.le⟩
    · have := Valid.mem h3 x hx
      omega
theorem Valid.low {c : Change} {p q n : Nat} (h : Valid p n c) (hq : q ≤ p) : Valid q n c := by
  cases c with
  | nil =>
    have : p ≤ n := h
    exact Nat.le_trans hq this
  | cons r c => exact ⟨Nat.le_trans hq h.1, h.2⟩

theorem mo_nil (s : Nat) : mapOffset [] s = s := rfl
theorem mo_eq (c : Change) (s : Nat) : mapOffset c s = s + ((c.filter fun r => decide (r.hi ≤ s)).map fun r => r.text.length).sum - ((c.filter fun r => decide (r.hi ≤ s)).map fun r => r.hi - r.lo).sum := rfl
/-- all of it lies behind s -/
theorem mo_before {c : Change} {p n s : Nat} (h : Valid p n c) (hs : ∀ r ∈ c, s < r.hi) : mapOffset c s = s := by
  have e : (c.filter fun r => decide (r.hi ≤ s)) = [] := List.filter_eq_nil_iff.mpr fun r hr => by
    have := hs r hr
    simp
    omega
  rw [mo_eq, e]
  simp
/-- what is removed ahead of s -/
theorem rem_le : ∀ {c : Change} {p n s : Nat}, Valid p n c → p ≤ s → ((c.filter fun r => decide (r.hi ≤ s)).map fun r => r.hi - r.lo).sum + p ≤ s
  | [], p, n, s, _, hs => by simpa using hs
  | r :: q, p, n, s, ⟨h1, h2, h3⟩, hs => by
    by_cases hr : r.hi ≤ s
    · have := rem_le h3 hr
      rw [List.filter_cons, if_pos (by simpa using hr), List.map_cons, List.sum_cons]
      omega
    · have e : (q.filter fun r => decide (r.hi ≤ s)) = [] := List.filter_eq_nil_iff.mpr fun x hx => by
        have := h3.mem x hx
        simp
        omega
      rw [List.filter_cons, if_neg (by simpa using hr), e]
      simpa using hs
theorem mo_ge {c : Change} {p n s : Nat} (h : Valid p n c) (hs : p ≤ s) : p ≤ mapOffset c s := by
  have := rem_le h hs
  rw [mo_eq]
  omega
theorem mo_in {r : Replacement} {q : Change} {p n s : Nat} (h : Valid p n (r :: q)) (hs : r.hi ≤ s) : mapOffset (r :: q) s + (r.hi - r.lo) = mapOffset q s + r.text.length := by
  obtain ⟨h1, h2, h3⟩ := h
  have := rem_le h3 hs
  rw [mo_eq, mo_eq, List.filter_cons, if_pos (by simpa using hs), List.map_cons, List.map_cons, List.sum_cons, List.sum_cons]
  omega
theorem mo_out {r : Replacement} {q : Change} {p n s : Nat} (h : Valid p n (r :: q)) (hs : s < r.hi) : mapOffset (r :: q) s = s := by
  refine mo_before h fun x hx => ?_
  rcases List.mem_cons.mp hx with rfl | hx
  · exact hs
  · have := h.2.2.mem x hx
    omega

/-- what no replacement reaches stands, moved, in the new text -/
theorem apply_at : ∀ {c : Change} {p n s e : Nat} {u : Units}, Valid p n c → u.length = n - p → p ≤ s → 1 ≤ e → (∀ r ∈ c, s + e ≤ r.lo ∨ r.hi ≤ s) →
    ∀ i, i < e → (applyFrom p c u)[mapOffset c s - p + i]? = u[s - p + i]?
  | [], p, n, s, e, u, _, _, _, _, _, i, _ => rfl
  | r :: q, p, n, s, e, u, h, hu, hs, he, ha, i, hi => by
    obtain ⟨h1, h2, h3⟩ := id h
    have hn := h3.le
    have lt : (u.take (r.lo - p)).length = r.lo - p := by rw [List.length_take]; omega
    show (u.take (r.lo - p) ++ r.text ++ applyFrom r.hi q (u.drop (r.hi - p)))[_]? = _
    rcases ha r (List.mem_cons_self ..) with k | k
    · rw [mo_out h (by omega), List.append_assoc, List.getElem?_append_left (by omega), List.getElem?_take_of_lt (by omega)]
    · have ih := apply_at (u := u.drop (r.hi - p)) h3 (by rw [List.length_drop]; omega) k he (fun x hx => ha x (List.mem_cons_of_mem _ hx)) i hi
      rw [List.getElem?_drop] at ih
      have em := mo_in h k
      have eg := mo_ge h3 k
      rw [List.getElem?_append_right (by rw [List.length_append]; omega), List.length_append, lt]
      rw [show mapOffset (r :: q) s - p + i - (r.lo - p + r.text.length) = mapOffset q s - r.hi + i by omega, ih]
      congr 1
      omega

theorem changed_at {c : Change} {s e : Nat} {u : Units} (h : Valid 0 u.length c) (he : 1 ≤ e) (ha : ∀ r ∈ c, s + e ≤ r.lo ∨ r.hi ≤ s) {i : Nat} (hi : i < e) :
    (changedText c u)[mapOffset c s + i]? = u[s + i]? := by
  have := apply_at (u := u) h rfl (Nat.zero_le s) he ha i hi
  simpa [changedText] using this

/-- tokens that stand stay apart -/
theorem mo_apart : ∀ {c : Change} {p n s l s2 : Nat}, Valid p n c → p ≤ s → 1 ≤ l → s + l ≤ s2 → (∀ r ∈ c, s + l ≤ r.lo ∨ r.hi ≤ s) → mapOffset c s + l ≤ mapOffset c s2
  | [], p, n, s, l, s2, _, _, _, h, _ => h
  | r :: q, p, n, s, l, s2, h, hs, hl, hs2, ha => by
    rcases ha r (List.mem_cons_self ..) with k | k
    · rw [mo_out h (by have := h.2.1; omega)]
      have h' : Valid (s + l) n (r :: q) := ⟨k, h.2⟩
      exact mo_ge h' hs2
    · have ih := mo_apart (s2 := s2) h.2.2 k hl hs2 fun x hx => ha x (List.mem_cons_of_mem _ hx)
      have e1 := mo_in h k
      have e2 := mo_in (s := s2) h (by omega)
      omega

/-! ### the tokens of a text -/
theorem scanFrom_nil (k p : Nat) : scanFrom k [] p = [] := by
  cases k <;> rfl
theorem scanFrom_cons (k p : Nat) (c : UInt16) (r : Units) : scanFrom (k + 1) (c :: r) p = ⟨(readToken (c :: r)).1, p, (readToken (c :: r)).2.1, (readToken (c :: r)).2.2⟩ :: scanFrom k ((c :: r).drop (readToken (c :: r)).2.1) (p + (readToken (c :: r)).2.1) := rfl

/-- a token of the text u that begins at its place -/
structure IsTok (u : Units) (t : RawToken) : Prop where
  read : readToken (u.drop t.start) = (t.kind, t.length, t.examined)
  pos : 1 ≤ t.length
  fits : t.start + t.length ≤ u.length
  own : t.length ≤ t.examined

theorem scan_toks : ∀ (k : Nat) (u : Units) (p : Nat), p ≤ u.length → (∀ t ∈ scanFrom k (u.drop p) p, p ≤ t.start ∧ IsTok u t) ∧ (scanFrom k (u.drop p) p).Pairwise fun a b => a.start + a.length ≤ b.start
  | 0, u, p, _ => ⟨fun t ht => (by cases ht), List.Pairwise.nil⟩
  | k + 1, u, p, hp => by
    cases e : u.drop p with
    | nil => rw [scanFrom_nil]; exact ⟨fun t ht => (by cases ht), List.Pairwise.nil⟩
    | cons c r =>
      have hlen := readToken_len c r
      have hl : (c :: r).length = u.length - p := by rw [← e, List.length_drop]
      rw [scanFrom_cons, ← e, List.drop_drop]
      rw [← e] at hlen hl
      have ih := scan_toks k u (p + (readToken (u.drop p)).2.1) (by omega)
      refine ⟨fun t ht => ?_, List.Pairwise.cons (fun t ht => ?_) ih.2⟩
      · rcases List.mem_cons.mp ht with rfl | ht
        · exact ⟨Nat.le_refl _, rfl, hlen.1, by show p + (readToken (u.drop p)).2.1 ≤ u.length; omega, hlen.2.2⟩
        · have := ih.1 t ht
          exact ⟨by omega, this.2⟩
      · exact (ih.1 t ht).1
theorem scan_tok {u : Units} {t : RawToken} (h : t ∈ scan u) : IsTok u t := ((scan_toks (u.length + 1) u 0 (Nat.zero_le _)).1 t h).2
theorem scan_apart (u : Units) : (scan u).Pairwise fun a b => a.start + a.length ≤ b.start := (scan_toks (u.length + 1) u 0 (Nat.zero_le _)).2

theorem untouched_iff {c : Change} {t : RawToken} : isUntouched c t = true ↔ ∀ r ∈ c, t.start + t.examined ≤ r.lo ∨ r.hi ≤ t.start := by
  unfold isUntouched
  rw [List.all_eq_true]
  constructor
  · intro h r hr
    simpa using h r hr
  · intro h r hr
    simpa using h r hr
theorem outside_iff {c : Change} {t : RawToken} : isOutside c t = true ↔ ∀ r ∈ c, t.start + t.length ≤ r.lo ∨ r.hi ≤ t.start := by
  unfold isOutside
  rw [List.all_eq_true]
  constructor
  · intro h r hr
    simpa using h r hr
  · intro h r hr
    simpa using h r hr

/-- reused tokens are those that would be read -/
theorem rescanFrom_eq {old : List Token} {c : Change} {u : Units} (ho : ∀ o ∈ old, IsTok u o.raw) (hv : Valid 0 u.length c) : ∀ (k p : Nat) (v : Units), v = (changedText c u).drop p →
    (rescanFrom old c k v p).map Prod.fst = scanFrom k v p
  | 0, _, _, _ => rfl
  | k + 1, p, [], _ => rfl
  | k + 1, p, x :: y, e => by
    rw [scanFrom_cons]
    show (match reusableAt old c p with
      | some t => ((⟨t.kind, p, t.length, t.examined⟩ : RawToken), false) :: rescanFrom old c k ((x :: y).drop t.length) (p + t.length)
      | none => ((⟨(readToken (x :: y)).1, p, (readToken (x :: y)).2.1, (readToken (x :: y)).2.2⟩ : RawToken), true) :: rescanFrom old c k ((x :: y).drop (readToken (x :: y)).2.1) (p + (readToken (x :: y)).2.1)).map Prod.fst = _
    cases hr : reusableAt old c p with
    | none =>
      simp only [List.map_cons]
      rw [rescanFrom_eq ho hv k _ _ (by rw [e, List.drop_drop])]
    | some t =>
      have he : readToken (x :: y) = (t.kind, t.length, t.examined) := by
        unfold reusableAt at hr
        cases hf : old.find? fun t => isUntouched c t.raw && mapOffset c t.raw.start == p with
        | none => rw [hf] at hr; cases hr
        | some o =>
          rw [hf] at hr
          have hro : o.raw = t := Option.some.inj hr
          have hm := List.mem_of_find?_eq_some hf
          have hp := List.find?_some hf
          rw [Bool.and_eq_true] at hp
          have hu := untouched_iff.mp hp.1
          have hmo : mapOffset c o.raw.start = p := by simpa using hp.2
          have T := ho o hm
          rw [hro] at hu hmo T
          have own := T.own
          have pos := T.pos
          have loc := readToken_local (u.drop t.start) (x :: y) fun i hi => by
            rw [T.read] at hi
            rw [e, List.getElem?_drop, List.getElem?_drop, ← hmo]
            exact (changed_at hv (by omega) hu hi).symm
          rw [loc, T.read]
      simp only [List.map_cons]
      rw [rescanFrom_eq ho hv k _ _ (by rw [e, List.drop_drop]), he]
theorem rescan_eq {old : List Token} {c : Change} {u : Units} (ho : ∀ o ∈ old, IsTok u o.raw) (hv : Valid 0 u.length c) : (rescan old c (changedText c u)).map Prod.fst = scan (changedText c u) :=
  rescanFrom_eq ho hv _ 0 _ rfl

/-! ### ids -/
/-- which old token gives its id: outside, moved here, of the same kind and length -/
def Fits (c : Change) (o t : RawToken) : Prop := isOutside c o = true ∧ mapOffset c o.start = t.start ∧ o.kind = t.kind ∧ o.length = t.length
theorem fits_one {c : Change} {u : Units} {a b t : RawToken} (hv : Valid 0 u.length c) (ha : IsTok u a) (hb : IsTok u b) (ap : a.start + a.length ≤ b.start ∨ b.start + b.length ≤ a.start)
    (oa : isOutside c a = true) (ob : isOutside c b = true) (e : mapOffset c a.start = mapOffset c b.start) : False := by
  rcases ap with h | h
  · have := mo_apart hv (Nat.zero_le _) ha.pos h (outside_iff.mp oa)
    have := ha.pos
    omega
  · have := mo_apart hv (Nat.zero_le _) hb.pos h (outside_iff.mp ob)
    have := hb.pos
    omega
theorem slice_get (u : Units) (p n i : Nat) : (slice u p n)[i]? = if i < n then u[p + i]? else none := by
  unfold slice
  by_cases h : i < n
  · rw [if_pos h, List.getElem?_take_of_lt h, List.getElem?_drop]
  · rw [if_neg h, List.getElem?_eq_none]
    rw [List.length_take]
    omega
/-- an outside token's text stands in the new text -/
theorem slice_moved {c : Change} {u : Units} {o : RawToken} (hv : Valid 0 u.length c) (ho : IsTok u o) (h : isOutside c o = true) : slice (changedText c u) (mapOffset c o.start) o.length = slice u o.start o.length := by
  apply List.ext_getElem?
  intro i
  rw [slice_get, slice_get]
  by_cases hi : i < o.length
  · rw [if_pos hi, if_pos hi, changed_at hv ho.pos (outside_iff.mp h) hi]
  · rw [if_neg hi, if_neg hi]
theorem slice_len {u : Units} {t : RawToken} (h : IsTok u t) : (slice u t.start t.length).length = t.length := by
  unfold slice
  rw [List.length_take, List.length_drop]
  have := h.fits
  omega
/-- same place, same text: same length -/
theorem fits_iff {c : Change} {u : Units} {o t : RawToken} (hv : Valid 0 u.length c) (ho : IsTok u o) (ht : IsTok (changedText c u) t) (h : isOutside c o = true) (hm : mapOffset c o.start = t.start) :
    slice u o.start o.length = slice (changedText c u) t.start t.length ↔ o.length = t.length := by
  constructor
  · intro e
    rw [← slice_len ho, ← slice_len ht, e]
  · intro e
    rw [← slice_moved hv ho h, hm, e]
end Law
end
section
set_option linter.all false
/-! The plain law, part 3: pieces tell the text; a change in its normal form. -/
namespace Law
open R7253e.Spec

def src (o a : Units) (p : Piece) : Units := if p.added then a else o
def cutP (o a : Units) (p : Piece) : Units := ((src o a p).drop p.start).take p.length
def POk (o a : Units) (p : Piece) : Prop := p.start + p.length ≤ (src o a p).length
theorem pt_eq (o a : Units) (l : List Piece) : piecesText o a l = l.flatMap (cutP o a) := rfl
theorem pt_nil (o a : Units) : piecesText o a [] = [] := rfl
theorem pt_cons (o a : Units) (p : Piece) (l : List Piece) : piecesText o a (p :: l) = cutP o a p ++ piecesText o a l := by
  rw [pt_eq, pt_eq, List.flatMap_cons]
theorem pt_app (o a : Units) (l m : List Piece) : piecesText o a (l ++ m) = piecesText o a l ++ piecesText o a m := by
  rw [pt_eq, pt_eq, pt_eq, List.flatMap_append]
theorem cutP_len {o a : Units} {p : Piece} (h : POk o a p) : (cutP o a p).length = p.length := by
  unfold cutP
  unfold POk at h
  rw [List.length_take, List.length_drop]
  omega
theorem pok_grow {o a : Units} {p : Piece} (x : Units) (h : POk o a p) : POk o (a ++ x) p := by
  unfold POk src at h ⊢
  cases hp : p.added with
  | true =>
    rw [hp, if_pos rfl] at h
    rw [if_pos rfl, List.length_append]
    omega
  | false =>
    rw [hp, if_neg Bool.false_ne_true] at h
    rw [if_neg Bool.false_ne_true]
    exact h
theorem cutP_grow {o a : Units} {p : Piece} (x : Units) (h : POk o a p) : cutP o (a ++ x) p = cutP o a p := by
  unfold POk src at h
  unfold cutP src
  cases hp : p.added with
  | true =>
    rw [hp, if_pos rfl] at h
    rw [if_pos rfl, if_pos rfl, List.drop_append_of_le_length (by omega), List.take_append_of_le_length (by rw [List.length_drop]; omega)]
  | false => rw [if_neg Bool.false_ne_true, if_neg Bool.false_ne_true]
theorem pt_grow {o a : Units} (x : Units) : ∀ {l : List Piece}, (∀ p ∈ l, POk o a p) → piecesText o (a ++ x) l = piecesText o a l
  | [], _ => rfl
  | p :: l, h => by
    rw [pt_cons, pt_cons, cutP_grow x (h p (List.mem_cons_self ..)), pt_grow x fun q hq => h q (List.mem_cons_of_mem _ hq)]

theorem take_pieces {o a : Units} : ∀ {l : List Piece} (n : Nat), (∀ p ∈ l, POk o a p) → piecesText o a (takePieces n l) = (piecesText o a l).take n ∧ ∀ p ∈ takePieces n l, POk o a p
  | [], n, _ => ⟨by rw [takePieces, pt_nil, List.take_nil], fun p hp => by rw [takePieces] at hp; cases hp⟩
  | p :: l, n, h => by
    have hp := h p (List.mem_cons_self ..)
    have hl : ∀ q ∈ l, POk o a q := fun q hq => h q (List.mem_cons_of_mem _ hq)
    have len := cutP_len hp
    rw [takePieces]
    by_cases h0 : n = 0
    · rw [if_pos h0, h0, List.take_zero]
      exact ⟨rfl, fun q hq => by cases hq⟩
    rw [if_neg h0]
    by_cases h1 : n ≤ p.length
    · rw [if_pos h1, pt_cons, pt_cons, pt_nil, List.append_nil, List.take_append_of_le_length (by omega)]
      refine ⟨?_, fun q hq => ?_⟩
      · show ((src o a p).drop p.start).take n = (((src o a p).drop p.start).take p.length).take n
        rw [List.take_take, Nat.min_eq_left h1]
      · have e : q = ⟨p.added, p.start, n⟩ := by simpa using hq
        subst e
        unfold POk at hp ⊢
        show p.start + n ≤ (src o a p).length
        omega
    · rw [if_neg h1]
      have ih := take_pieces (n - p.length) hl
      rw [pt_cons, pt_cons, ih.1]
      refine ⟨?_, fun q hq => ?_⟩
      · rw [List.take_append, len, List.take_of_length_le (l := cutP o a p) (by omega)]
      · rcases List.mem_cons.mp hq with rfl | hq
        · exact hp
        · exact ih.2 q hq
theorem drop_pieces {o a : Units} : ∀ {l : List Piece} (n : Nat), (∀ p ∈ l, POk o a p) → piecesText o a (dropPieces n l) = (piecesText o a l).drop n ∧ ∀ p ∈ dropPieces n l, POk o a p
  | [], n, _ => ⟨by rw [dropPieces, pt_nil, List.drop_nil], fun p hp => by rw [dropPieces] at hp; cases hp⟩
  | p :: l, n, h => by
    have hp := h p (List.mem_cons_self ..)
    have hl : ∀ q ∈ l, POk o a q := fun q hq => h q (List.mem_cons_of_mem _ hq)
    have len := cutP_len hp
    rw [dropPieces]
    by_cases h1 : n < p.length
    · rw [if_pos h1, pt_cons, pt_cons, List.drop_append_of_le_length (by omega)]
      refine ⟨?_, fun q hq => ?_⟩
      · congr 1
        show ((src o a p).drop (p.start + n)).take (p.length - n) = (((src o a p).drop p.start).take p.length).drop n
        rw [List.drop_take, List.drop_drop]
      · rcases List.mem_cons.mp hq with rfl | hq
        · unfold POk at hp ⊢
          show p.start + n + (p.length - n) ≤ (src o a p).length
          omega
        · exact hl q hq
    · rw [if_neg h1]
      have ih := drop_pieces (n - p.length) hl
      refine ⟨?_, ih.2⟩
      rw [ih.1, pt_cons, List.drop_append, len, List.drop_eq_nil_of_le (as := cutP o a p) (i := n) (by omega), List.nil_append]
theorem join_pieces {o a : Units} : ∀ {l : List Piece}, (∀ p ∈ l, POk o a p) → piecesText o a (joinPieces l) = piecesText o a l ∧ ∀ p ∈ joinPieces l, POk o a p
  | [], _ => ⟨rfl, fun p hp => by cases hp⟩
  | p :: l, h => by
    have hp := h p (List.mem_cons_self ..)
    have ih := join_pieces (l := l) fun q hq => h q (List.mem_cons_of_mem _ hq)
    rw [joinPieces]
    cases hj : joinPieces l with
    | nil =>
      rw [hj] at ih
      simp only
      refine ⟨?_, fun q hq => ?_⟩
      · rw [pt_cons, pt_cons, ih.1]
      · have e : q = p := by simpa using hq
        subst e
        exact hp
    | cons q t =>
      rw [hj] at ih
      simp only
      have hq := ih.2 q (List.mem_cons_self ..)
      have ht : ∀ x ∈ t, POk o a x := fun x hx => ih.2 x (List.mem_cons_of_mem _ hx)
      by_cases hc : (p.added == q.added && decide (p.start + p.length = q.start)) = true
      · rw [if_pos hc]
        rw [Bool.and_eq_true] at hc
        have e1 : p.added = q.added := by simpa using hc.1
        have e2 : p.start + p.length = q.start := by simpa using hc.2
        have es : src o a q = src o a p := by unfold src; rw [e1]
        refine ⟨?_, fun x hx => ?_⟩
        · rw [pt_cons, pt_cons, ← ih.1, pt_cons, ← List.append_assoc]
          congr 1
          show ((src o a p).drop p.start).take (p.length + q.length) = ((src o a p).drop p.start).take p.length ++ ((src o a q).drop q.start).take q.length
          rw [es, List.take_add, List.drop_drop, e2]
        · rcases List.mem_cons.mp hx with rfl | hx
          · unfold POk at hp hq ⊢
            show p.start + (p.length + q.length) ≤ (src o a p).length
            rw [es] at hq
            omega
          · exact ht x hx
      · rw [if_neg hc]
        refine ⟨?_, fun x hx => ?_⟩
        · rw [pt_cons, ih.1, ← pt_cons]
        · rcases List.mem_cons.mp hx with rfl | hx
          · exact hp
          · exact ih.2 x hx

theorem change_pieces {o : Units} : ∀ (c : Change) (b z : Units) (p : Nat) (l : List Piece), (∀ x ∈ l, POk o (b ++ c.flatMap (fun r => r.text) ++ z) x) →
    piecesText o (b ++ c.flatMap (fun r => r.text) ++ z) (changePiecesFrom b.length p c l) = applyFrom p c (piecesText o (b ++ c.flatMap (fun r => r.text) ++ z) l) ∧
    ∀ x ∈ changePiecesFrom b.length p c l, POk o (b ++ c.flatMap (fun r => r.text) ++ z) x
  | [], b, z, p, l, h => ⟨rfl, h⟩
  | r :: q, b, z, p, l, h => by
    have ea : b ++ (r :: q).flatMap (fun r => r.text) ++ z = (b ++ r.text) ++ q.flatMap (fun r => r.text) ++ z := by
      rw [List.flatMap_cons]
      simp only [List.append_assoc]
    generalize hA : b ++ (r :: q).flatMap (fun r => r.text) ++ z = A at h ea ⊢
    have ht := take_pieces (r.lo - p) h
    have hd := drop_pieces (r.hi - p) h
    have ih := change_pieces (o := o) q (b ++ r.text) z r.hi (dropPieces (r.hi - p) l) (by rw [← ea]; exact hd.2)
    rw [← ea, List.length_append] at ih
    rw [changePiecesFrom]
    have hm : piecesText o A (if r.text.isEmpty then [] else [⟨true, b.length, r.text.length⟩]) = r.text ∧ ∀ x ∈ (if r.text.isEmpty then ([] : List Piece) else [⟨true, b.length, r.text.length⟩]), POk o A x := by
      by_cases he : r.text.isEmpty = true
      · rw [if_pos he]
        refine ⟨?_, fun x hx => by cases hx⟩
        rw [pt_nil]
        exact (List.isEmpty_iff.mp he).symm
      · rw [if_neg he]
        refine ⟨?_, fun x hx => ?_⟩
        · rw [pt_cons, pt_nil, List.append_nil]
          show (A.drop b.length).take r.text.length = r.text
          rw [ea, List.append_assoc, List.append_assoc, List.drop_left, List.take_left]
        · have e : x = ⟨true, b.length, r.text.length⟩ := by simpa using hx
          subst e
          show b.length + r.text.length ≤ A.length
          rw [ea]
          simp only [List.length_append]
          omega
    refine ⟨?_, fun x hx => ?_⟩
    · rw [pt_app, pt_app, ht.1, hm.1, ih.1, hd.1]
      rfl
    · rcases List.mem_append.mp hx with hx | hx
      · rcases List.mem_append.mp hx with hx | hx
        · exact ht.2 x hx
        · exact hm.2 x hx
      · exact ih.2 x hx
/-- the new version's text -/
theorem changed_text {o a : Units} (c : Change) (l : List Piece) (h : ∀ x ∈ l, POk o a x) :
    piecesText o (a ++ c.flatMap fun r => r.text) (changePieces a.length c l) = changedText c (piecesText o a l) ∧ ∀ x ∈ changePieces a.length c l, POk o (a ++ c.flatMap fun r => r.text) x := by
  have h1 := change_pieces (o := o) c a [] 0 l (by
    rw [List.append_nil]
    exact fun x hx => pok_grow _ (h x hx))
  rw [List.append_nil] at h1
  have h2 := join_pieces h1.2
  refine ⟨?_, h2.2⟩
  show piecesText _ _ (joinPieces _) = applyFrom 0 c (piecesText o a l)
  rw [h2.1, h1.1, pt_grow _ h]
theorem initial_text (u : Units) : piecesText u [] (initialPieces u) = u ∧ ∀ x ∈ initialPieces u, POk u [] x := by
  unfold initialPieces
  by_cases h : u.isEmpty = true
  · rw [if_pos h]
    exact ⟨(List.isEmpty_iff.mp h).symm, fun x hx => by cases hx⟩
  · rw [if_neg h]
    refine ⟨?_, fun x hx => ?_⟩
    · rw [pt_cons, pt_nil, List.append_nil]
      show (u.drop 0).take u.length = u
      rw [List.drop_zero, List.take_length]
    · have e : x = ⟨false, 0, u.length⟩ := by simpa using hx
      subst e
      show 0 + u.length ≤ u.length
      omega

/-! ### the normal form -/
theorem valid_drop : ∀ {c : Change} {p n : Nat}, Valid p n c → Valid p n (dropEmpty c)
  | [], _, _, h => h
  | r :: q, p, n, ⟨h1, h2, h3⟩ => by
    unfold dropEmpty
    rw [List.filter_cons]
    by_cases hr : (decide (r.lo < r.hi) || !r.text.isEmpty) = true
    · rw [if_pos hr]
      exact ⟨h1, h2, valid_drop h3⟩
    · rw [if_neg hr]
      exact (valid_drop h3).low (by omega)
theorem valid_merge : ∀ {c : Change} {p n : Nat}, Valid p n c → Valid p n (mergeAdjacent c)
  | [], _, _, h => h
  | r :: q, p, n, ⟨h1, h2, h3⟩ => by
    have ih := valid_merge h3
    rw [mergeAdjacent]
    cases hm : mergeAdjacent q with
    | nil => rw [hm] at ih; exact ⟨h1, h2, ih⟩
    | cons s t =>
      rw [hm] at ih
      simp only
      obtain ⟨i1, i2, i3⟩ := ih
      by_cases he : r.hi = s.lo
      · rw [if_pos he]
        exact ⟨h1, by show r.lo ≤ s.hi; omega, i3⟩
      · rw [if_neg he]
        exact ⟨h1, h2, i1, i2, i3⟩
theorem valid_normal {c : Change} {p n : Nat} (h : Valid p n c) : Valid p n (normalize c) := valid_merge (valid_drop h)
theorem valid_check : ∀ {l : List (Int × Int × Units)} {n i p : Nat} {c : Change}, checkReplacements n i p l = .ok c → p ≤ n → Valid p n c
  | [], n, i, p, c, h, hp => by
    have e : ([] : Change) = c := by
      unfold checkReplacements at h
      injection h
    subst e
    exact hp
  | e :: r, n, i, p, c, h, hp => by
    unfold checkReplacements at h
    by_cases h1 : 0 ≤ e.1 ∧ e.1 ≤ e.2.1 ∧ e.2.1 ≤ Int.ofNat n
    · rw [if_pos h1] at h
      by_cases h2 : Int.ofNat p ≤ e.1
      · rw [if_pos h2] at h
        cases hc : checkReplacements n (i + 1) e.2.1.toNat r with
        | error x => rw [hc] at h; cases h
        | ok l =>
          rw [hc] at h
          have hl := valid_check hc (by
            have := h1.2.2
            simp only [Int.ofNat_eq_natCast] at this
            omega)
          have e2 : (⟨e.1.toNat, e.2.1.toNat, e.2.2⟩ :: l : Change) = c := by
            unfold andThen at h
            injection h
          subst e2
          simp only [Int.ofNat_eq_natCast] at h1 h2
          exact ⟨by show p ≤ e.1.toNat; omega, by show e.1.toNat ≤ e.2.1.toNat; omega, hl⟩
      · rw [if_neg h2] at h
        cases h
    · rw [if_neg h1] at h
      cases h
theorem valid_arg {n : Nat} {x : Plain} {c : Change} (h : changeArg n x = .ok c) : Valid 0 n c := by
  unfold changeArg at h
  split at h
  · split at h
    · split at h
      · exact valid_check h (Nat.zero_le _)
      · cases h
    · cases h
  · cases h
end Law
end
section
set_option linter.all false
/-! The plain law: what the tokenizer's defs reckon, unit by unit. -/
namespace Law
open R7253e.Spec

theorem drop_c {u : Units} {j : Nat} {c : UInt16} (h : u[j]? = some c) : u.drop j = c :: u.drop (j + 1) := by
  obtain ⟨hj, e⟩ := List.getElem?_eq_some_iff.mp h
  rw [List.drop_eq_getElem_cons hj, e]
theorem drop_n {u : Units} {j : Nat} (h : u[j]? = none) : u.drop j = [] := List.drop_eq_nil_of_le (List.getElem?_eq_none_iff.mp h)
theorem pl_yes {f : UInt16 → Bool} {u : Units} {j : Nat} {c : UInt16} (h : u[j]? = some c) (hf : f c = true) : prefixLength f (u.drop j) = prefixLength f (u.drop (j + 1)) + 1 := by
  rw [drop_c h, prefixLength, if_pos hf]
theorem pl_no {f : UInt16 → Bool} {u : Units} {j : Nat} {c : UInt16} (h : u[j]? = some c) (hf : f c = false) : prefixLength f (u.drop j) = 0 := by
  rw [drop_c h, prefixLength, if_neg (by rw [hf]; decide)]
theorem pl_end {f : UInt16 → Bool} {u : Units} {j : Nat} (h : u[j]? = none) : prefixLength f (u.drop j) = 0 := by
  rw [drop_n h]
  rfl

def uAt (u : Units) (i : Nat) : Int := match u[i]? with
  | some c => (c.toNat : Int)
  | none => -1
theorem uAt_some {u : Units} {i : Nat} {c : UInt16} (h : u[i]? = some c) : uAt u i = (c.toNat : Int) := by
  unfold uAt
  rw [h]
theorem uAt_none {u : Units} {i : Nat} (h : u[i]? = none) : uAt u i = -1 := by
  unfold uAt
  rw [h]
def letB (i : Int) : Bool := decide ((97 ≤ i ∧ i ≤ 122) ∨ (65 ≤ i ∧ i ≤ 90))
def digB (i : Int) : Bool := decide (48 ≤ i ∧ i ≤ 57)
theorem digB_c (c : UInt16) : digB (c.toNat : Int) = isDigit c := by
  unfold digB isDigit
  rw [Bool.eq_iff_iff, decide_eq_true_eq, decide_eq_true_eq, UInt16.le_iff_toNat_le, UInt16.le_iff_toNat_le]
  show _ ↔ 48 ≤ c.toNat ∧ c.toNat ≤ 57
  omega
theorem letB_c (c : UInt16) : letB (c.toNat : Int) = isLetter c := by
  unfold letB isLetter
  rw [Bool.eq_iff_iff, decide_eq_true_eq, decide_eq_true_eq, UInt16.le_iff_toNat_le, UInt16.le_iff_toNat_le, UInt16.le_iff_toNat_le, UInt16.le_iff_toNat_le]
  show _ ↔ (97 ≤ c.toNat ∧ c.toNat ≤ 122) ∨ (65 ≤ c.toNat ∧ c.toNat ≤ 90)
  omega
theorem c_eq (c : UInt16) (n : Nat) (hn : n < 65536) : (c.toNat : Int) = (n : Int) ↔ c = UInt16.ofNat n := by
  constructor
  · intro h
    have h : c.toNat = n := by omega
    rw [← h, UInt16.ofNat_toNat]
  · intro h
    rw [h, UInt16.toNat_ofNat']
    have : n % 2 ^ 16 = n := Nat.mod_eq_of_lt hn
    omega
theorem digB_at (u : Units) (j : Nat) : digB (uAt u j) = true ↔ ∃ c, u[j]? = some c ∧ isDigit c = true := by
  cases h : u[j]? with
  | none =>
    rw [uAt_none h]
    constructor
    · intro z; exact absurd z (by decide)
    · rintro ⟨c, z, _⟩; cases z
  | some c =>
    rw [uAt_some h, digB_c]
    constructor
    · intro z; exact ⟨c, rfl, z⟩
    · rintro ⟨d, z, y⟩; cases z; exact y
theorem letB_at (u : Units) (j : Nat) : letB (uAt u j) = true ↔ ∃ c, u[j]? = some c ∧ isLetter c = true := by
  cases h : u[j]? with
  | none =>
    rw [uAt_none h]
    constructor
    · intro z; exact absurd z (by decide)
    · rintro ⟨c, z, _⟩; cases z
  | some c =>
    rw [uAt_some h, letB_c]
    constructor
    · intro z; exact ⟨c, rfl, z⟩
    · rintro ⟨d, z, y⟩; cases z; exact y
theorem uAt_eq (u : Units) (j n : Nat) (hn : n < 65536) : uAt u j = (n : Int) ↔ u[j]? = some (UInt16.ofNat n) := by
  cases h : u[j]? with
  | none =>
    rw [uAt_none h]
    constructor
    · intro z; omega
    · intro z; cases z
  | some c =>
    rw [uAt_some h, c_eq c n hn]
    constructor
    · intro z; rw [z]
    · intro z; exact Option.some.inj z
/-- a prefix, one step -/
theorem pl_if {f : UInt16 → Bool} {u : Units} {j : Nat} (h : ∃ c, u[j]? = some c ∧ f c = true) : prefixLength f (u.drop j) = prefixLength f (u.drop (j + 1)) + 1 := by
  obtain ⟨c, h1, h2⟩ := h
  exact pl_yes h1 h2
theorem pl_ifn {f : UInt16 → Bool} {u : Units} {j : Nat} (h : ¬ ∃ c, u[j]? = some c ∧ f c = true) : prefixLength f (u.drop j) = 0 := by
  cases e : u[j]? with
  | none => exact pl_end e
  | some c =>
    refine pl_no e ?_
    cases hf : f c with
    | false => rfl
    | true => exact absurd ⟨c, e, hf⟩ h

/-! ### the parts of readToken -/
def numLen (v : Units) : Nat := if (v.drop (prefixLength isDigit v)).head? = some 46 then
  (if prefixLength isDigit ((v.drop (prefixLength isDigit v)).drop 1) = 0 then prefixLength isDigit v else prefixLength isDigit v + 1 + prefixLength isDigit ((v.drop (prefixLength isDigit v)).drop 1)) else prefixLength isDigit v
theorem read_num {c : UInt16} {r : Units} (h0 : ¬ c = 32) (h1 : ¬ c = 10) (h2 : ¬ c = 35) (h3 : isLetter c = false) (h4 : isDigit c = true) : (readToken (c :: r)).1 = 5 ∧ (readToken (c :: r)).2.1 = numLen (c :: r) := by
  rw [readToken_cons, if_neg h0, if_neg h1, if_neg h2, if_neg (by rw [h3]; decide), if_pos h4]
  unfold numLen
  split
  · split
    · exact ⟨rfl, rfl⟩
    · exact ⟨rfl, rfl⟩
  · exact ⟨rfl, rfl⟩
theorem read_sign {c : UInt16} {r : Units} (h0 : ¬ c = 32) (h1 : ¬ c = 10) (h2 : ¬ c = 35) (h3 : isLetter c = false) (h4 : isDigit c = false) (h5 : ¬ c = 34) : readToken (c :: r) =
    if c = 61 then operatorKind r 26 28 else if c = 33 then operatorKind r 27 8 else if c = 60 then operatorKind r 25 24 else (symbolKind c, 1, 1) := by
  rw [readToken_cons, if_neg h0, if_neg h1, if_neg h2, if_neg (by rw [h3]; decide), if_neg (by rw [h4]; decide), if_neg h5]

/-! ### where a string ends -/
theorem se_shift : ∀ (v : Units) (n : Nat), stringEnd v (n + 1) = ((stringEnd v n).1, (stringEnd v n).2 + 1)
  | [], n => rfl
  | [c], n => by
    by_cases h : c = 34
    · subst h
      rfl
    · show (if c = 34 then ((true, n + 1 + 1) : Bool × Nat) else stringEnd [] (n + 1 + 1)) = _
      rw [if_neg h]
      have e : stringEnd [c] n = (if c = 34 then ((true, n + 1) : Bool × Nat) else stringEnd [] (n + 1)) := rfl
      rw [e, if_neg h]
      rfl
  | c :: d :: q, n => by
    by_cases h : c = 34
    · rw [stringEnd, if_pos h, stringEnd, if_pos h]
      by_cases h2 : d = 34
      · rw [if_pos h2, if_pos h2, show n + 1 + 2 = (n + 2) + 1 by omega, se_shift q (n + 2)]
      · rw [if_neg h2, if_neg h2]
    · rw [stringEnd, if_neg h, stringEnd, if_neg h, se_shift (d :: q) (n + 1)]
def strEnd (u : Units) (i : Int) : Int := if (stringEnd (u.drop i.toNat) 1).1 = true then i + (stringEnd (u.drop i.toNat) 1).2 - 1 else -1
theorem str_none {u : Units} {i : Int} (h : u[i.toNat]? = none) : strEnd u i = -1 := by
  unfold strEnd
  rw [drop_n h]
  rfl
theorem str_other {u : Units} {i : Int} {c : UInt16} (h0 : 0 ≤ i) (h : u[i.toNat]? = some c) (hc : ¬ c = 34) : strEnd u i = strEnd u (i + 1) := by
  have e : stringEnd (u.drop i.toNat) 1 = ((stringEnd (u.drop (i + 1).toNat) 1).1, (stringEnd (u.drop (i + 1).toNat) 1).2 + 1) := by
    rw [drop_c h, show (i + 1).toNat = i.toNat + 1 by omega, ← se_shift]
    cases u.drop (i.toNat + 1) with
    | nil =>
      show (if c = 34 then ((true, 1 + 1) : Bool × Nat) else stringEnd [] (1 + 1)) = _
      rw [if_neg hc]
    | cons x y => rw [stringEnd, if_neg hc]
  unfold strEnd
  rw [e]
  split
  · simp only
    omega
  · rfl
theorem str_two {u : Units} {i : Int} (h0 : 0 ≤ i) (h : u[i.toNat]? = some 34) (h2 : u[i.toNat + 1]? = some 34) : strEnd u i = strEnd u (i + 2) := by
  have e : stringEnd (u.drop i.toNat) 1 = ((stringEnd (u.drop (i + 2).toNat) 1).1, (stringEnd (u.drop (i + 2).toNat) 1).2 + 2) := by
    rw [drop_c h, drop_c h2, show (i + 2).toNat = i.toNat + 1 + 1 by omega, stringEnd, if_pos rfl, if_pos rfl, se_shift, se_shift]
  unfold strEnd
  rw [e]
  split
  · simp only
    omega
  · rfl
theorem str_one {u : Units} {i : Int} (h0 : 0 ≤ i) (h : u[i.toNat]? = some 34) (h2 : ¬ u[i.toNat + 1]? = some 34) : strEnd u i = i + 1 := by
  have e : stringEnd (u.drop i.toNat) 1 = (true, 2) := by
    rw [drop_c h]
    cases hd : u.drop (i.toNat + 1) with
    | nil => rfl
    | cons d q =>
      have hd0 : u[i.toNat + 1]? = some d := by rw [← head_get, hd]; rfl
      rw [stringEnd, if_pos rfl, if_neg fun z => h2 (by rw [hd0, z])]
  unfold strEnd
  rw [e, if_pos rfl]
  show i + 2 - 1 = i + 1
  omega
theorem read_str {c : UInt16} {r : Units} (h0 : ¬ c = 32) (h1 : ¬ c = 10) (h2 : ¬ c = 35) (h3 : isLetter c = false) (h4 : isDigit c = false) (h5 : c = 34) : readToken (c :: r) = (if (stringEnd r 1).1 then 6 else 7, (stringEnd r 1).2, (stringEnd r 1).2 + 1) := by
  rw [readToken_cons, if_neg h0, if_neg h1, if_neg h2, if_neg (by rw [h3]; decide), if_neg (by rw [h4]; decide), if_pos h5]
theorem se_all : ∀ (v : Units) (n : Nat), (stringEnd v n).1 = false → (stringEnd v n).2 = n + v.length
  | [], n, _ => rfl
  | [c], n, h => by
    by_cases hc : c = 34
    · subst hc
      cases h
    · have e : stringEnd [c] n = (if c = 34 then ((true, n + 1) : Bool × Nat) else stringEnd [] (n + 1)) := rfl
      rw [e, if_neg hc]
      rfl
  | c :: d :: q, n, h => by
    by_cases hc : c = 34
    · rw [stringEnd, if_pos hc] at h ⊢
      by_cases h2 : d = 34
      · rw [if_pos h2] at h ⊢
        rw [se_all q (n + 2) h]
        simp only [List.length_cons]
        omega
      · rw [if_neg h2] at h
        cases h
    · rw [stringEnd, if_neg hc] at h ⊢
      rw [se_all (d :: q) (n + 1) h]
      simp only [List.length_cons]
      omega
theorem keyword_eq (u : Units) : keywordKind u = if u = R7253e.Spec.units "let" then 10 else if u = R7253e.Spec.units "set" then 11 else if u = R7253e.Spec.units "fn" then 12 else if u = R7253e.Spec.units "if" then 13 else if u = R7253e.Spec.units "else" then 14 else if u = R7253e.Spec.units "while" then 15 else if u = R7253e.Spec.units "return" then 16 else 4 := rfl

/-! ### kinds -/
def kinds : List Nat := [1, 2, 3, 4, 5, 6, 7, 8, 10, 11, 12, 13, 14, 15, 16, 20, 21, 22, 23, 24, 25, 26, 27, 28, 30, 31, 32, 33, 34, 35]
theorem ite_kinds {c : Prop} [Decidable c] {a b : Nat} (ha : a ∈ kinds) (hb : b ∈ kinds) : (if c then a else b) ∈ kinds := by
  split
  · exact ha
  · exact hb
theorem kw_kinds (u : Units) : keywordKind u ∈ kinds :=
  ite_kinds (by decide) (ite_kinds (by decide) (ite_kinds (by decide) (ite_kinds (by decide) (ite_kinds (by decide) (ite_kinds (by decide) (ite_kinds (by decide) (by decide)))))))
theorem sy_kinds (c : UInt16) : symbolKind c ∈ kinds :=
  ite_kinds (by decide) (ite_kinds (by decide) (ite_kinds (by decide) (ite_kinds (by decide) (ite_kinds (by decide) (ite_kinds (by decide) (ite_kinds (by decide) (ite_kinds (by decide) (ite_kinds (by decide) (ite_kinds (by decide) (by decide))))))))))
theorem op_kinds (r : Units) (k l : Nat) (hk : k ∈ kinds) (hl : l ∈ kinds) : (operatorKind r k l).1 ∈ kinds := by
  unfold operatorKind
  split
  · exact hk
  · exact hl
theorem read_kinds (c : UInt16) (r : Units) : (readToken (c :: r)).1 ∈ kinds := by
  rw [readToken_cons]
  split
  · exact (by decide : (1 : Nat) ∈ kinds)
  split
  · exact (by decide : (2 : Nat) ∈ kinds)
  split
  · exact (by decide : (3 : Nat) ∈ kinds)
  split
  · exact kw_kinds _
  split
  · split
    · split
      · exact (by decide : (5 : Nat) ∈ kinds)
      · exact (by decide : (5 : Nat) ∈ kinds)
    · exact (by decide : (5 : Nat) ∈ kinds)
  split
  · show (if (stringEnd r 1).1 = true then 6 else 7) ∈ kinds
    split
    · decide
    · decide
  split
  · exact op_kinds _ _ _ (by decide) (by decide)
  split
  · exact op_kinds _ _ _ (by decide) (by decide)
  split
  · exact op_kinds _ _ _ (by decide) (by decide)
  · exact sy_kinds c
theorem scanFrom_kinds : ∀ (k : Nat) (u : Units) (p : Nat), ∀ t ∈ scanFrom k u p, t.kind ∈ kinds
  | 0, _, _, t, h => by cases h
  | k + 1, [], p, t, h => by cases h
  | k + 1, c :: r, p, t, h => by
    rw [scanFrom_cons] at h
    rcases List.mem_cons.mp h with rfl | h
    · exact read_kinds c r
    · exact scanFrom_kinds k _ _ t h
theorem scan_kinds {u : Units} {t : RawToken} (h : t ∈ scan u) : t.kind ∈ kinds := scanFrom_kinds _ _ _ t h

/-! ### depth: the counters and the greatest of them -/
structure Dp where
  b : Int
  p : Int
  m : Int
def dpStep (s : Dp) (k : Nat) : Dp :=
  let b := if k = 32 then s.b + 1 else if k = 33 then max 0 (s.b - 1) else s.b
  let p := if k = 32 ∨ k = 33 ∨ k = 35 then 0 else if k = 30 then s.p + 1 else if k = 31 then max 0 (s.p - 1) else s.p
  ⟨b, p, max (max s.m b) p⟩
def dpRun (l : List Nat) : Dp := l.foldl dpStep ⟨0, 0, 0⟩
theorem dp_mono : ∀ (l : List Nat) (s : Dp), s.m ≤ (l.foldl dpStep s).m
  | [], s => Int.le_refl _
  | k :: r, s => by
    rw [List.foldl_cons]
    refine Int.le_trans ?_ (dp_mono r _)
    show s.m ≤ max (max s.m _) _
    omega
theorem dp_nest : ∀ (l : List Nat) (s : Dp) (b p : Nat), s.b = b → s.p = p → b ≤ 12 → p ≤ 12 → s.m ≤ 12 → (12 < (l.foldl dpStep s).m ↔ nestingFrom (l.filter isSignificant) b p = false)
  | [], s, b, p, _, _, _, _, hm => by
    rw [List.filter_nil]
    constructor
    · intro h
      have h : 12 < s.m := h
      omega
    · intro h
      cases h
  | k :: r, s, b, p, hb, hp, lb, lp, hm => by
    rw [List.foldl_cons]
    by_cases k32 : k = 32
    · have e : (k :: r).filter isSignificant = k :: r.filter isSignificant := List.filter_cons_of_pos (by rw [k32]; rfl)
      have es : dpStep s k = ⟨s.b + 1, 0, max (max s.m (s.b + 1)) 0⟩ := by rw [k32]; rfl
      rw [e, es, nestingFrom, if_pos k32]
      by_cases hlt : b < maxNesting
      · rw [decide_eq_true hlt, Bool.true_and]
        have hlt' : b < 12 := hlt
        exact dp_nest r _ (b + 1) 0 (by show s.b + 1 = _; omega) rfl (by omega) (by omega) (by show max (max s.m (s.b + 1)) 0 ≤ 12; omega)
      · rw [decide_eq_false hlt, Bool.false_and]
        have hlt' : ¬ b < 12 := hlt
        refine ⟨fun _ => rfl, fun _ => ?_⟩
        have h := dp_mono r ⟨s.b + 1, 0, max (max s.m (s.b + 1)) 0⟩
        have h : max (max s.m (s.b + 1)) 0 ≤ _ := h
        omega
    by_cases k33 : k = 33
    · have e : (k :: r).filter isSignificant = k :: r.filter isSignificant := List.filter_cons_of_pos (by rw [k33]; rfl)
      have es : dpStep s k = ⟨max 0 (s.b - 1), 0, max (max s.m (max 0 (s.b - 1))) 0⟩ := by rw [k33]; rfl
      rw [e, es, nestingFrom, if_neg k32, if_pos k33]
      exact dp_nest r _ (b - 1) 0 (by show max 0 (s.b - 1) = _; omega) rfl (by omega) (by omega) (by show max (max s.m (max 0 (s.b - 1))) 0 ≤ 12; omega)
    by_cases k35 : k = 35
    · have e : (k :: r).filter isSignificant = k :: r.filter isSignificant := List.filter_cons_of_pos (by rw [k35]; rfl)
      have es : dpStep s k = ⟨s.b, 0, max (max s.m s.b) 0⟩ := by rw [k35]; rfl
      rw [e, es, nestingFrom, if_neg k32, if_neg k33, if_pos k35]
      exact dp_nest r _ b 0 hb rfl lb (by omega) (by show max (max s.m s.b) 0 ≤ 12; omega)
    by_cases k30 : k = 30
    · have e : (k :: r).filter isSignificant = k :: r.filter isSignificant := List.filter_cons_of_pos (by rw [k30]; rfl)
      have es : dpStep s k = ⟨s.b, s.p + 1, max (max s.m s.b) (s.p + 1)⟩ := by rw [k30]; rfl
      rw [e, es, nestingFrom, if_neg k32, if_neg k33, if_neg k35, if_pos k30]
      by_cases hlt : p < maxNesting
      · rw [decide_eq_true hlt, Bool.true_and]
        have hlt' : p < 12 := hlt
        exact dp_nest r _ b (p + 1) hb (by show s.p + 1 = _; omega) lb (by omega) (by show max (max s.m s.b) (s.p + 1) ≤ 12; omega)
      · rw [decide_eq_false hlt, Bool.false_and]
        have hlt' : ¬ p < 12 := hlt
        refine ⟨fun _ => rfl, fun _ => ?_⟩
        have h := dp_mono r ⟨s.b, s.p + 1, max (max s.m s.b) (s.p + 1)⟩
        have h : max (max s.m s.b) (s.p + 1) ≤ _ := h
        omega
    by_cases k31 : k = 31
    · have e : (k :: r).filter isSignificant = k :: r.filter isSignificant := List.filter_cons_of_pos (by rw [k31]; rfl)
      have es : dpStep s k = ⟨s.b, max 0 (s.p - 1), max (max s.m s.b) (max 0 (s.p - 1))⟩ := by rw [k31]; rfl
      rw [e, es, nestingFrom, if_neg k32, if_neg k33, if_neg k35, if_neg k30, if_pos k31]
      exact dp_nest r _ b (p - 1) hb (by show max 0 (s.p - 1) = _; omega) lb (by omega) (by show max (max s.m s.b) (max 0 (s.p - 1)) ≤ 12; omega)
    · have es : dpStep s k = ⟨s.b, s.p, max (max s.m s.b) s.p⟩ := by
        unfold dpStep
        rw [if_neg k32, if_neg k33, if_neg (by omega), if_neg k30, if_neg k31]
      have ih := dp_nest r (dpStep s k) b p (by rw [es]; exact hb) (by rw [es]; exact hp) lb lp (by rw [es]; show max (max s.m s.b) s.p ≤ 12; omega)
      by_cases hs : isSignificant k = true
      · rw [List.filter_cons_of_pos hs, nestingFrom, if_neg k32, if_neg k33, if_neg k35, if_neg k30, if_neg k31]
        exact ih
      · rw [List.filter_cons_of_neg hs]
        exact ih
theorem sig_map (l : List RawToken) : (l.filter fun t => isSignificant t.kind).map (fun t => t.kind) = (l.map fun t => t.kind).filter isSignificant := by
  rw [List.filter_map]
  rfl
theorem too_deep (l : List RawToken) : decide (12 < (dpRun (l.map fun t => t.kind)).m) = !nestingOk l := by
  have h := dp_nest (l.map fun t => t.kind) ⟨0, 0, 0⟩ 0 0 rfl rfl (by omega) (by omega) (by decide)
  unfold nestingOk nestingWithinLimit
  rw [sig_map]
  cases hn : nestingFrom ((l.map fun t => t.kind).filter isSignificant) 0 0 with
  | true =>
    rw [hn] at h
    exact decide_eq_false fun z => Bool.noConfusion (h.mp z)
  | false =>
    exact decide_eq_true (h.mpr hn)
end Law
end
section
set_option linter.all false
/-! The plain law: numbers and texts in octets. -/
namespace Law
open RWire

theorem front_some : ∀ {k : Nat} {b x r : Octets}, front k b = some (x, r) → k ≤ b.length ∧ x = b.take k ∧ r = b.drop k
  | 0, b, x, r, h => by
    have e := Option.some.inj h
    cases e
    exact ⟨Nat.zero_le _, by rw [List.take_zero], rfl⟩
  | k + 1, [], x, r, h => by cases h
  | k + 1, a :: b, x, r, h => by
    rw [front] at h
    cases hf : front k b with
    | none => rw [hf] at h; cases h
    | some p =>
      rw [hf] at h
      have e := Option.some.inj h
      cases e
      obtain ⟨h1, h2, h3⟩ := front_some (x := p.1) (r := p.2) hf
      exact ⟨Nat.succ_le_succ h1, by rw [List.take_succ_cons, ← h2], h3⟩
theorem num_some {k : Nat} {b r : Octets} {n : Nat} (h : readNum k b = some (n, r)) : k ≤ b.length ∧ n = numOf (b.take k) ∧ r = b.drop k := by
  unfold readNum at h
  cases hf : front k b with
  | none => rw [hf] at h; cases h
  | some p =>
    rw [hf] at h
    have e := Option.some.inj h
    cases e
    obtain ⟨h1, h2, h3⟩ := front_some (x := p.1) (r := p.2) hf
    exact ⟨h1, by rw [← h2], h3⟩
theorem numOf_lt : ∀ l : Octets, numOf l < 256 ^ l.length
  | [] => Nat.one_pos
  | a :: r => by
    have h := numOf_lt r
    have h1 : a.toNat < 256 := a.toNat_lt
    rw [numOf, List.length_cons, Nat.pow_succ]
    omega
theorem numOf_snoc : ∀ (l : Octets) (a : UInt8), numOf (l ++ [a]) = numOf l + a.toNat * 256 ^ l.length
  | [], a => by simp [numOf]
  | c :: l, a => by
    rw [List.cons_append, numOf, numOf, numOf_snoc l a, List.length_cons, Nat.pow_succ, Nat.mul_add]
    rw [show 256 * (a.toNat * 256 ^ l.length) = a.toNat * (256 ^ l.length * 256) by rw [Nat.mul_comm 256, Nat.mul_assoc]]
    omega
theorem text_some {b x r : Octets} (h : readText b = some (x, r)) : 4 ≤ b.length ∧ numOf (b.take 4) ≤ (b.drop 4).length ∧ x = (b.drop 4).take (numOf (b.take 4)) ∧ r = (b.drop 4).drop (numOf (b.take 4)) := by
  unfold readText at h
  cases hn : readNum 4 b with
  | none => rw [hn] at h; cases h
  | some p =>
    rw [hn] at h
    obtain ⟨h1, h2, h3⟩ := num_some (n := p.1) (r := p.2) hn
    have h : front p.1 p.2 = some (x, r) := h
    obtain ⟨f1, f2, f3⟩ := front_some h
    rw [h2, h3] at f2 f3
    rw [h2, h3] at f1
    exact ⟨h1, f1, f2, f3⟩
theorem low_len : ∀ k n : Nat, (low k n).length = k
  | 0, _ => rfl
  | k + 1, n => by rw [low, List.length_cons, low_len k]
theorem low_get : ∀ (k n i : Nat), i < k → (low k n)[i]? = some (UInt8.ofNat (n / 256 ^ i))
  | 0, n, i, h => by omega
  | k + 1, n, 0, h => by rw [low, List.getElem?_cons_zero, Nat.pow_zero, Nat.div_one]
  | k + 1, n, i + 1, h => by
    rw [low, List.getElem?_cons_succ, low_get k (n / 256) i (by omega), Nat.div_div_eq_div_mul, Nat.pow_succ, Nat.mul_comm]
theorem octet_nat (n : Nat) : (UInt8.ofNat n).toNat = n % 256 := UInt8.toNat_ofNat'
theorem readMany_zero {α : Type} (f : Octets → Option (α × Octets)) (b : Octets) : readMany f 0 b = some ([], b) := rfl
theorem readMany_succ {α : Type} {f : Octets → Option (α × Octets)} {n : Nat} {b r : Octets} {l : List α} (h : readMany f (n + 1) b = some (l, r)) :
    ∃ v b' l', f b = some (v, b') ∧ readMany f n b' = some (l', r) ∧ l = v :: l' := by
  rw [readMany] at h
  cases hf : f b with
  | none => rw [hf] at h; cases h
  | some p =>
    rw [hf] at h
    cases hm : readMany f n p.2 with
    | none => simp only [hm] at h; cases h
    | some q =>
      simp only [hm] at h
      have e := Option.some.inj h
      cases e
      exact ⟨p.1, p.2, q.1, rfl, hm, rfl⟩
theorem entry_some {f : Octets → Option (Value × Octets)} {b r : Octets} {e : Text × Value} (h : readEntry f b = some (e, r)) : ∃ b', readText b = some (e.1, b') ∧ f b' = some (e.2, r) := by
  unfold readEntry at h
  cases ht : readText b with
  | none => rw [ht] at h; cases h
  | some p =>
    rw [ht] at h
    cases hf : f p.2 with
    | none => simp only [hf] at h; cases h
    | some q =>
      simp only [hf] at h
      have z := Option.some.inj h
      cases z
      exact ⟨p.2, rfl, hf⟩
theorem list_some {f : Octets → Option (Value × Octets)} {b r : Octets} {v : Value} (h : readList f b = some (v, r)) : ∃ n b' l, readNum 4 b = some (n, b') ∧ readMany f n b' = some (l, r) ∧ v = .list l := by
  unfold readList at h
  cases hn : readNum 4 b with
  | none => rw [hn] at h; cases h
  | some p =>
    rw [hn] at h
    cases hm : readMany f p.1 p.2 with
    | none => simp only [hm] at h; cases h
    | some q =>
      simp only [hm] at h
      have z := Option.some.inj h
      cases z
      exact ⟨p.1, p.2, q.1, rfl, hm, rfl⟩
theorem record_some {f : Octets → Option (Value × Octets)} {b r : Octets} {v : Value} (h : readRecord f b = some (v, r)) : ∃ n b' l, readNum 4 b = some (n, b') ∧ readMany (readEntry f) n b' = some (l, r) ∧ v = .record l := by
  unfold readRecord at h
  cases hn : readNum 4 b with
  | none => rw [hn] at h; cases h
  | some p =>
    rw [hn] at h
    cases hm : readMany (readEntry f) p.1 p.2 with
    | none => simp only [hm] at h; cases h
    | some q =>
      simp only [hm] at h
      by_cases ha : apart q.1 = true
      · rw [if_pos ha] at h
        have z := Option.some.inj h
        cases z
        exact ⟨p.1, p.2, q.1, rfl, hm, rfl⟩
      · rw [if_neg ha] at h
        cases h
theorem int_some {b r : Octets} {v : Value} (h : readInt b = some (v, r)) : 8 ≤ b.length ∧ v = .int (intOf (numOf (b.take 8))) ∧ r = b.drop 8 := by
  unfold readInt at h
  cases hn : readNum 8 b with
  | none => rw [hn] at h; cases h
  | some p =>
    rw [hn] at h
    obtain ⟨h1, h2, h3⟩ := num_some (n := p.1) (r := p.2) hn
    have h : (if Nat.ble (intOf p.1).natAbs intMost then some (Value.int (intOf p.1), p.2) else none) = some (v, r) := h
    by_cases ha : Nat.ble (intOf p.1).natAbs intMost = true
    · rw [if_pos ha] at h
      have z := Option.some.inj h
      cases z
      exact ⟨h1, by rw [← h2], h3⟩
    · rw [if_neg ha] at h
      cases h
theorem words_some {b r : Octets} {v : Value} (h : readWords b = some (v, r)) : ∃ u, readText b = some (u, r) ∧ v = .text u := by
  unfold readWords at h
  cases ht : readText b with
  | none => rw [ht] at h; cases h
  | some p =>
    rw [ht] at h
    have z := Option.some.inj h
    cases z
    exact ⟨p.1, rfl, rfl⟩
theorem octets_some {b r : Octets} {v : Value} (h : readOctets b = some (v, r)) : ∃ u, readText b = some (u, r) ∧ v = .octets u := by
  unfold readOctets at h
  cases ht : readText b with
  | none => rw [ht] at h; cases h
  | some p =>
    rw [ht] at h
    have z := Option.some.inj h
    cases z
    exact ⟨p.1, rfl, rfl⟩
theorem readF_some {n : Nat} {b r : Octets} {v : Value} (h : readF n b = some (v, r)) : ∃ m k b', n = m + 1 ∧ b = k :: b' ∧ readKind (readF m) k.toNat b' = some (v, r) := by
  cases n with
  | zero => cases h
  | succ m =>
    cases b with
    | nil => cases h
    | cons k b' => exact ⟨m, k, b', rfl, rfl, h⟩
theorem big_some {b r : Octets} {v : Value} (h : readBig b = some (v, r)) : ∃ i, v = .big i := by
  cases b with
  | nil => cases h
  | cons s b =>
    unfold readBig at h
    simp only at h
    split at h
    · cases h
    · split at h
      · cases h
      · split at h
        · cases h
        · have z := Option.some.inj h
          cases z
          exact ⟨_, rfl⟩
theorem wide_some {b r : Octets} {v : Value} (h : readWide b = some (v, r)) : ∃ i, v = .wide i := by
  unfold readWide at h
  split at h
  · cases h
  · split at h
    · cases h
    · split at h
      · have z := Option.some.inj h
        cases z
        exact ⟨_, rfl⟩
      · cases h
/-- which kinds of values are read -/
theorem kind_some {f : Octets → Option (Value × Octets)} {k : Nat} {b r : Octets} {v : Value} (h : readKind f k b = some (v, r)) (hb : noBig v = true) (hw : noWide v = true) :
    (k = 0 ∧ v = .nothing ∧ r = b) ∨ (k = 1 ∧ v = .null ∧ r = b) ∨ (k = 2 ∧ v = .bool false ∧ r = b) ∨ (k = 3 ∧ v = .bool true ∧ r = b) ∨ (k = 4 ∧ readInt b = some (v, r)) ∨ (k = 6 ∧ readWords b = some (v, r)) ∨ (k = 7 ∧ readList f b = some (v, r)) ∨
    (k = 8 ∧ readRecord f b = some (v, r)) ∨ (k = 10 ∧ readOctets b = some (v, r)) := by
  unfold readKind at h
  split at h
  · have z := Option.some.inj h
    cases z
    exact .inl ⟨rfl, rfl, rfl⟩
  · have z := Option.some.inj h
    cases z
    exact .inr (.inl ⟨rfl, rfl, rfl⟩)
  · have z := Option.some.inj h
    cases z
    exact .inr (.inr (.inl ⟨rfl, rfl, rfl⟩))
  · have z := Option.some.inj h
    cases z
    exact .inr (.inr (.inr (.inl ⟨rfl, rfl, rfl⟩)))
  · exact .inr (.inr (.inr (.inr (.inl ⟨rfl, h⟩))))
  · obtain ⟨i, rfl⟩ := big_some h
    cases hb
  · exact .inr (.inr (.inr (.inr (.inr (.inl ⟨rfl, h⟩)))))
  · exact .inr (.inr (.inr (.inr (.inr (.inr (.inl ⟨rfl, h⟩))))))
  · exact .inr (.inr (.inr (.inr (.inr (.inr (.inr (.inl ⟨rfl, h⟩)))))))
  · exact .inr (.inr (.inr (.inr (.inr (.inr (.inr (.inr ⟨rfl, h⟩)))))))
  · obtain ⟨i, rfl⟩ := wide_some h
    cases hw
  · cases h
theorem noBig_list {l : List Value} (h : noBig (.list l) = true) : noBigMany l = true := by rw [noBig] at h; exact h
theorem noWide_list {l : List Value} (h : noWide (.list l) = true) : noWideMany l = true := by rw [noWide] at h; exact h
theorem noBig_rec {l : List (Text × Value)} (h : noBig (.record l) = true) : noBigEntries l = true := by rw [noBig] at h; exact h
theorem noWide_rec {l : List (Text × Value)} (h : noWide (.record l) = true) : noWideEntries l = true := by rw [noWide] at h; exact h
theorem noBig_cons {v : Value} {l : List Value} (h : noBigMany (v :: l) = true) : noBig v = true ∧ noBigMany l = true := by rw [noBigMany, Bool.and_eq_true] at h; exact h
theorem noWide_cons {v : Value} {l : List Value} (h : noWideMany (v :: l) = true) : noWide v = true ∧ noWideMany l = true := by rw [noWideMany, Bool.and_eq_true] at h; exact h
theorem noBig_ent {v : Text × Value} {l : List (Text × Value)} (h : noBigEntries (v :: l) = true) : noBig v.2 = true ∧ noBigEntries l = true := by rw [noBigEntries, Bool.and_eq_true] at h; exact h
theorem noWide_ent {v : Text × Value} {l : List (Text × Value)} (h : noWideEntries (v :: l) = true) : noWide v.2 = true ∧ noWideEntries l = true := by rw [noWideEntries, Bool.and_eq_true] at h; exact h
end Law
end
section
set_option linter.all false
/-! The plain law: documents as they are kept. -/
namespace Law
open R7253e.Spec
/-- a version: its text, its tokens, its parent and its redo target (-1: none) -/
structure MVer where
  text : Units
  toks : List Token
  par : Int
  redo : Int
structure MDoc where
  vers : List MVer
  cur : Nat
  next : Nat
  added : Nat
def MVer.none : MVer := ⟨[], [], -1, -1⟩
def MDoc.now (d : MDoc) : MVer := d.vers.getD d.cur MVer.none
def MVer.redoTo (v : MVer) (n : Int) : MVer := { v with redo := n }
def mUp : Nat → Nat → List MVer → List MVer
  | 0, _, l => l
  | k + 1, n, l => if 0 ≤ (l.getD n MVer.none).par then mUp k (l.getD n MVer.none).par.toNat (l.set (l.getD n MVer.none).par.toNat ((l.getD (l.getD n MVer.none).par.toNat MVer.none).redoTo n)) else l
def mGo (n : Nat) (d : MDoc) : MDoc := if n = d.cur then d else { d with cur := n, vers := mUp d.vers.length n d.vers }
def freshs (l : List (RawToken × Option Nat)) : Nat := (l.filter fun t => t.2.isNone).length
def mNew (u : Units) : MDoc := ⟨[⟨u, assignIds 1 ((scan u).map fun t => (t, Option.none)), -1, -1⟩], 0, (scan u).length + 1, 0⟩
def nos (d : MDoc) (c : Change) (u : Units) : List (RawToken × Option Nat) := (scan u).map fun t => (t, reusedId d.now.toks c t)
def mEdit (d : MDoc) (c : Change) (u : Units) : MDoc :=
  mGo d.vers.length { vers := d.vers ++ [⟨u, assignIds d.next (nos d c u), d.cur, -1⟩], cur := d.cur, next := d.next + freshs (nos d c u), added := d.added + insertedLength c }
/-- the parents stand ahead -/
def Ahead (l : List MVer) : Prop := ∀ (i : Nat) (v : MVer), l[i]? = some v → -1 ≤ v.par ∧ v.par < (i : Int)
structure Good (d : MDoc) : Prop where
  cur : d.cur < d.vers.length
  most : d.vers.length ≤ 100
  ahead : Ahead d.vers
  pars : ∀ (i : Nat) (v : MVer), d.vers[i]? = some v → 0 < i → 0 ≤ v.par
  narrow : ∀ v ∈ d.vers, ∀ c ∈ v.text, c.toNat < 256
  redo : ∀ v ∈ d.vers, -1 ≤ v.redo ∧ v.redo < (d.vers.length : Int)
  text : ∀ v ∈ d.vers, v.text.length ≤ 600
  toks : ∀ v ∈ d.vers, v.toks.map (fun t => t.raw) = scan v.text
  ids : ∀ v ∈ d.vers, ∀ t ∈ v.toks, 1 ≤ t.id ∧ t.id < d.next
  next : d.next ≤ 1 + 600 * d.vers.length
  added : d.added ≤ 5000
  pos : 1 ≤ d.next
theorem set_par {l : List MVer} {i j : Nat} {n : Int} : ((l.set i ((l.getD i MVer.none).redoTo n)).getD j MVer.none).par = (l.getD j MVer.none).par := by
  rw [List.getD_eq_getElem?_getD, List.getD_eq_getElem?_getD, List.getD_eq_getElem?_getD, List.getElem?_set]
  by_cases h : i = j
  · subst h
    rw [if_pos rfl]
    by_cases hl : i < l.length
    · rw [if_pos hl]; rfl
    · rw [if_neg hl, List.getElem?_eq_none (by omega)]
  · rw [if_neg h]
theorem Ahead.set {l : List MVer} (h : Ahead l) (i : Nat) (n : Int) : Ahead (l.set i ((l.getD i MVer.none).redoTo n)) := fun j v e => by
  rw [List.getElem?_set] at e
  by_cases hij : i = j
  · subst hij
    rw [if_pos rfl] at e
    by_cases hl : i < l.length
    · rw [if_pos hl] at e
      have e := Option.some.inj e
      subst e
      have h1 := h i _ (List.getElem?_eq_getElem hl)
      rw [List.getD_eq_getElem?_getD, List.getElem?_eq_getElem hl]
      exact h1
    · rw [if_neg hl] at e
      cases e
  · rw [if_neg hij] at e
    exact h j v e
theorem Ahead.snoc {l : List MVer} {v : MVer} (h : Ahead l) (hv : -1 ≤ v.par ∧ v.par < (l.length : Int)) : Ahead (l ++ [v]) := fun j x e => by
  by_cases hj : j < l.length
  · rw [List.getElem?_append_left hj] at e
    exact h j x e
  · rw [List.getElem?_append_right (by omega)] at e
    have hz : j - l.length = 0 := by
      have := (List.getElem?_eq_some_iff.mp e).1
      have e1 : [v].length = 1 := rfl
      omega
    rw [hz] at e
    have e := Option.some.inj e
    subst e
    exact ⟨hv.1, by omega⟩
theorem Ahead.at {l : List MVer} (h : Ahead l) {n : Nat} (hn : n < l.length) : -1 ≤ (l.getD n MVer.none).par ∧ (l.getD n MVer.none).par < (n : Int) := by
  rw [List.getD_eq_getElem?_getD, List.getElem?_eq_getElem hn]
  exact h n _ (List.getElem?_eq_getElem hn)
theorem assign_snoc : ∀ (l : List (RawToken × Option Nat)) (n : Nat) (t : RawToken) (o : Option Nat), assignIds n (l ++ [(t, o)]) = assignIds n l ++ [⟨match o with | some k => k | none => n + freshs l, t⟩]
  | [], n, t, none => rfl
  | [], n, t, some k => rfl
  | (a, some k) :: l, n, t, o => by
    rw [List.cons_append, assignIds, assignIds, assign_snoc l n t o]
    rfl
  | (a, none) :: l, n, t, o => by
    rw [List.cons_append, assignIds, assignIds, assign_snoc l (n + 1) t o]
    have e : freshs ((a, none) :: l) = freshs l + 1 := rfl
    rw [e]
    cases o with
    | some k => rfl
    | none => rw [show n + 1 + freshs l = n + (freshs l + 1) by omega]; rfl
theorem freshs_snoc (l : List (RawToken × Option Nat)) (x : RawToken × Option Nat) : freshs (l ++ [x]) = freshs l + if x.2.isNone then 1 else 0 := by
  unfold freshs
  rw [List.filter_append, List.length_append]
  congr 1
  obtain ⟨a, o⟩ := x
  cases o <;> rfl
/-- normalized: from the left -/
def nStep (acc : Change) (r : Replacement) : Change :=
  if r.lo < r.hi ∨ r.text ≠ [] then (match acc.getLast? with | some s => if s.hi = r.lo then acc.dropLast ++ [⟨s.lo, r.hi, s.text ++ r.text⟩] else acc ++ [r] | none => acc ++ [r]) else acc
theorem ins_app (a b : Change) : insertedLength (a ++ b) = insertedLength a + insertedLength b := by
  unfold insertedLength
  rw [List.map_append, List.sum_append]
theorem ins_one (r : Replacement) : insertedLength [r] = r.text.length := by
  show r.text.length + 0 = _
  rfl
theorem ins_mem {c : Change} {r : Replacement} (h : r ∈ c) : r.text.length ≤ insertedLength c := by
  obtain ⟨a, b, rfl⟩ := List.append_of_mem h
  rw [ins_app]
  show _ ≤ insertedLength a + (r.text.length + insertedLength b)
  omega
theorem last_split {acc : Change} {s : Replacement} (h : acc.getLast? = some s) : acc = acc.dropLast ++ [s] := by
  cases acc with
  | nil => cases h
  | cons a l =>
    rw [List.getLast?_eq_some_getLast (List.cons_ne_nil a l)] at h
    rw [← Option.some.inj h, List.dropLast_concat_getLast]
theorem nStep_len (acc : Change) (r : Replacement) : (nStep acc r).length ≤ acc.length + 1 ∧ insertedLength (nStep acc r) ≤ insertedLength acc + r.text.length := by
  unfold nStep
  by_cases h : r.lo < r.hi ∨ r.text ≠ []
  · rw [if_pos h]
    have e1 : (acc ++ [r]).length ≤ acc.length + 1 ∧ insertedLength (acc ++ [r]) ≤ insertedLength acc + r.text.length := by
      rw [List.length_append, ins_app, ins_one]
      exact ⟨Nat.le_refl _, Nat.le_refl _⟩
    cases hl : acc.getLast? with
    | none => exact e1
    | some s =>
      show (if s.hi = r.lo then _ else _ : Change).length ≤ _ ∧ insertedLength (if s.hi = r.lo then _ else _ : Change) ≤ _
      by_cases hs : s.hi = r.lo
      · rw [if_pos hs]
        have e := last_split hl
        have e2 := congrArg List.length e
        have e3 := congrArg insertedLength e
        rw [List.length_append] at e2
        rw [ins_app, ins_one] at e3
        rw [List.length_append, ins_app, ins_one]
        show _ + 1 ≤ _ ∧ _ + (s.text ++ r.text).length ≤ _
        rw [List.length_append]
        have e4 : [s].length = 1 := rfl
        omega
      · rw [if_neg hs]
        exact e1
  · rw [if_neg h]
    omega
theorem ins_take (c : Change) (j : Nat) : insertedLength (c.take j) ≤ insertedLength c := by
  have h := ins_app (c.take j) (c.drop j)
  rw [List.take_append_drop] at h
  omega
theorem nFold_len (c : Change) : ∀ j, ((c.take j).foldl nStep []).length ≤ j ∧ insertedLength ((c.take j).foldl nStep []) ≤ insertedLength (c.take j)
  | 0 => by rw [List.take_zero]; exact ⟨Nat.le_refl _, Nat.le_refl _⟩
  | j + 1 => by
    have h := nFold_len c j
    by_cases hj : j < c.length
    · rw [List.take_succ_eq_append_getElem hj, List.foldl_append, ins_app, ins_one]
      have := nStep_len ((c.take j).foldl nStep []) c[j]
      show (nStep _ c[j]).length ≤ _ ∧ insertedLength (nStep _ c[j]) ≤ _
      omega
    · rw [List.take_of_length_le (by omega)] at h ⊢
      omega
theorem sum_diff : ∀ l : Change, (∀ r ∈ l, r.lo ≤ r.hi) → (l.map fun r => (r.text.length : Int) - ((r.hi : Int) - (r.lo : Int))).sum + ((l.map fun r => r.hi - r.lo).sum : Nat) = ((l.map fun r => r.text.length).sum : Nat)
  | [], _ => rfl
  | r :: l, h => by
    have h1 := sum_diff l fun x hx => h x (List.mem_cons_of_mem _ hx)
    have h2 := h r (List.mem_cons_self ..)
    rw [List.map_cons, List.map_cons, List.map_cons, List.sum_cons, List.sum_cons, List.sum_cons]
    omega
theorem moved_sum {c : Change} {n i : Nat} (h : Valid 0 n c) : (i : Int) + ((c.filter fun r => decide (r.hi ≤ i)).map fun r => (r.text.length : Int) - ((r.hi : Int) - (r.lo : Int))).sum = (mapOffset c i : Nat) := by
  have h1 := rem_le h (Nat.zero_le i)
  have h2 := sum_diff (c.filter fun r => decide (r.hi ≤ i)) fun r hr => (h.mem r ((List.mem_filter.mp hr).1)).2.1
  rw [mo_eq]
  omega
end Law
end
section
set_option linter.all false
set_option maxRecDepth 10000
/-! The plain law: documents of the specification, as they are kept. -/
namespace Law
open R7253e.Spec
def ofOpt : Option Nat → Int
  | none => -1
  | some n => (n : Int)
def absVer (o a : Units) (v : Version) : MVer := ⟨piecesText o a v.pieces, v.tokens, ofOpt v.parent, ofOpt v.redoTarget⟩
def absDoc (d : Document) : MDoc := ⟨d.versions.map (absVer d.original d.added), d.current, d.next, d.added.length⟩
structure SOk (d : Document) : Prop where
  good : Good (absDoc d)
  tr : d.transactions = []
  stop : ∀ v ∈ d.versions, v.undoStop = true
  pieces : ∀ v ∈ d.versions, ∀ p ∈ v.pieces, POk d.original d.added p
theorem abs_getD (o a : Units) (l : List Version) (n : Nat) : (l.map (absVer o a)).getD n MVer.none = absVer o a (l.getD n emptyVersion) := by
  rw [List.getD_eq_getElem?_getD, List.getD_eq_getElem?_getD, List.getElem?_map]
  cases l[n]? with
  | none => rfl
  | some v => rfl
theorem abs_text (d : Document) (n : Nat) : d.textAt n = ((absDoc d).vers.getD n MVer.none).text := by
  unfold absDoc
  rw [abs_getD]
  rfl
theorem abs_now (d : Document) : (absDoc d).now = absVer d.original d.added (d.version d.current) := abs_getD ..
theorem abs_up (o a : Units) : ∀ (k n : Nat) (l : List Version), (updateRedoTargets k n l).map (absVer o a) = mUp k n (l.map (absVer o a))
  | 0, _, _ => rfl
  | k + 1, n, l => by
    rw [updateRedoTargets, mUp, abs_getD]
    cases hn : l[n]? with
    | none =>
      have e : l.getD n emptyVersion = emptyVersion := by rw [List.getD_eq_getElem?_getD, hn]; rfl
      rw [e]
      rfl
    | some s =>
      have e : l.getD n emptyVersion = s := by rw [List.getD_eq_getElem?_getD, hn]; rfl
      rw [e]
      cases hp : s.parent with
      | none =>
        have e2 : (absVer o a s).par = -1 := by unfold absVer; rw [hp]; rfl
        simp only [hp]
        rw [e2]
        rfl
      | some p =>
        have e2 : (absVer o a s).par = (p : Int) := by unfold absVer; rw [hp]; rfl
        simp only [hp]
        rw [e2, if_pos (by omega), Int.toNat_natCast, abs_getD, abs_up o a k p, List.map_set]
        rfl
/-! ### what going somewhere leaves -/
structure Kept (l l' : List MVer) : Prop where
  len : l'.length = l.length
  at_ : ∀ (i : Nat) (v' : MVer), l'[i]? = some v' → ∃ v, l[i]? = some v ∧ v'.text = v.text ∧ v'.toks = v.toks ∧ v'.par = v.par ∧ (v'.redo = v.redo ∨ (0 ≤ v'.redo ∧ v'.redo < (l.length : Int)))
theorem Kept.refl (l : List MVer) : Kept l l := ⟨rfl, fun i v h => ⟨v, h, rfl, rfl, rfl, .inl rfl⟩⟩
theorem Kept.trans {a b c : List MVer} (h : Kept a b) (g : Kept b c) : Kept a c := ⟨g.len.trans h.len, fun i v e => by
  obtain ⟨w, h1, h2, h3, h4, h5⟩ := g.at_ i v e
  obtain ⟨x, g1, g2, g3, g4, g5⟩ := h.at_ i w h1
  refine ⟨x, g1, h2.trans g2, h3.trans g3, h4.trans g4, ?_⟩
  rcases h5 with z | z
  · rw [z]
    exact g5
  · rw [h.len] at z
    exact .inr z⟩
theorem Kept.set (l : List MVer) (p n : Nat) (hn : n < l.length) : Kept l (l.set p ((l.getD p MVer.none).redoTo n)) := ⟨List.length_set .., fun i v e => by
  rw [List.getElem?_set] at e
  by_cases h : p = i
  · subst h
    rw [if_pos rfl] at e
    by_cases hl : p < l.length
    · rw [if_pos hl] at e
      have e := Option.some.inj e
      refine ⟨l[p], List.getElem?_eq_getElem hl, ?_⟩
      have e2 : l.getD p MVer.none = l[p] := by rw [List.getD_eq_getElem?_getD, List.getElem?_eq_getElem hl]; rfl
      rw [e2] at e
      subst e
      refine ⟨rfl, rfl, rfl, .inr ?_⟩
      show (0 : Int) ≤ (n : Int) ∧ (n : Int) < _
      omega
    · rw [if_neg hl] at e
      cases e
  · rw [if_neg h] at e
    exact ⟨v, e, rfl, rfl, rfl, .inl rfl⟩⟩
theorem up_kept : ∀ (k n : Nat) (l : List MVer), n < l.length → Ahead l → Kept l (mUp k n l)
  | 0, _, l, _, _ => Kept.refl l
  | k + 1, n, l, hn, ha => by
    rw [mUp]
    have h := ha.at hn
    by_cases hp : 0 ≤ (l.getD n MVer.none).par
    · rw [if_pos hp]
      have h1 := Kept.set l (l.getD n MVer.none).par.toNat n hn
      exact h1.trans (up_kept k _ _ (by rw [List.length_set]; omega) (ha.set _ _))
    · rw [if_neg hp]
      exact Kept.refl l
theorem good_kept {d : MDoc} {l : List MVer} {n : Nat} (h : Good d) (k : Kept d.vers l) (hn : n < d.vers.length) : Good { d with vers := l, cur := n } := by
  have mem : ∀ v' ∈ l, ∃ v ∈ d.vers, v'.text = v.text ∧ v'.toks = v.toks ∧ v'.par = v.par ∧ (v'.redo = v.redo ∨ (0 ≤ v'.redo ∧ v'.redo < (d.vers.length : Int))) := fun v' hv => by
    obtain ⟨i, hi⟩ := List.getElem?_of_mem hv
    obtain ⟨v, h1, h2⟩ := k.at_ i v' hi
    exact ⟨v, List.mem_of_getElem? h1, h2⟩
  refine ⟨?_, ?_, ?_, ?_, ?_, ?_, ?_, ?_, ?_, ?_, h.added, h.pos⟩
  · show n < l.length
    rw [k.len]
    exact hn
  · show l.length ≤ 100
    rw [k.len]
    exact h.most
  · intro i v' e
    obtain ⟨v, h1, _, _, h4, _⟩ := k.at_ i v' e
    rw [h4]
    exact h.ahead i v h1
  · intro i v' e hi
    obtain ⟨v, h1, _, _, h4, _⟩ := k.at_ i v' e
    rw [h4]
    exact h.pars i v h1 hi
  · intro v' hv
    obtain ⟨v, h1, h2, _⟩ := mem v' hv
    rw [h2]
    exact h.narrow v h1
  · intro v' hv
    obtain ⟨v, h1, _, _, _, h5⟩ := mem v' hv
    show _ ∧ _ < (l.length : Int)
    rw [k.len]
    rcases h5 with z | z
    · rw [z]
      exact h.redo v h1
    · omega
  · intro v' hv
    obtain ⟨v, h1, h2, _⟩ := mem v' hv
    rw [h2]
    exact h.text v h1
  · intro v' hv
    obtain ⟨v, h1, h2, h3, _⟩ := mem v' hv
    rw [h2, h3]
    exact h.toks v h1
  · intro v' hv
    obtain ⟨v, h1, h2, h3, _⟩ := mem v' hv
    rw [h3]
    exact h.ids v h1
  · show d.next ≤ 1 + 600 * l.length
    rw [k.len]
    exact h.next
theorem go_good {d : MDoc} {n : Nat} (h : Good d) (hn : n < d.vers.length) : Good (mGo n d) := by
  unfold mGo
  by_cases e : n = d.cur
  · rw [if_pos e]
    exact h
  · rw [if_neg e]
    exact good_kept h (up_kept _ _ _ hn h.ahead) hn
def fixed (v : Version) : Bool × List Piece := (v.undoStop, v.pieces)
theorem upd_fixed : ∀ (k n : Nat) (l : List Version), (updateRedoTargets k n l).map fixed = l.map fixed
  | 0, _, _ => rfl
  | k + 1, n, l => by
    rw [updateRedoTargets]
    cases hn : l[n]? with
    | none => rfl
    | some s =>
      cases hp : s.parent with
      | none => simp only [hp]
      | some p =>
        simp only [hp]
        rw [upd_fixed k p, List.map_set]
        by_cases hl : p < l.length
        · have e : fixed { l.getD p emptyVersion with redoTarget := some n } = (l.map fixed)[p]'(by rw [List.length_map]; exact hl) := by
            rw [List.getElem_map, List.getD_eq_getElem?_getD, List.getElem?_eq_getElem hl]
            rfl
          rw [e, List.set_getElem_self]
        · rw [List.set_eq_of_length_le (by rw [List.length_map]; omega)]
theorem fixed_all {l l' : List Version} {Φ : Bool × List Piece → Prop} (e : l'.map fixed = l.map fixed) (h : ∀ v ∈ l, Φ (fixed v)) : ∀ v ∈ l', Φ (fixed v) := fun v hv => by
  have : fixed v ∈ l.map fixed := by
    rw [← e]
    exact List.mem_map.mpr ⟨v, hv, rfl⟩
  obtain ⟨w, hw, z⟩ := List.mem_map.mp this
  rw [← z]
  exact h w hw
theorem switch_abs {d : Document} (h : SOk d) {n : Nat} (hn : n < d.versions.length) : absDoc (d.switchTo n).1 = mGo n (absDoc d) ∧ SOk (d.switchTo n).1 := by
  have hl : (absDoc d).vers.length = d.versions.length := List.length_map ..
  have hg := go_good h.good (n := n) (by rw [hl]; exact hn)
  unfold Document.switchTo
  by_cases e : n = d.current
  · rw [if_pos e]
    exact ⟨(if_pos e).symm, h⟩
  · rw [if_neg e]
    have ea : absDoc (({ d with current := n, versions := updateRedoTargets d.versions.length n d.versions } : Document).notifyWaiters).1 = mGo n (absDoc d) := by
      unfold mGo
      rw [if_neg (show ¬ n = (absDoc d).cur from e), hl]
      show (⟨(updateRedoTargets d.versions.length n d.versions).map (absVer d.original d.added), n, d.next, d.added.length⟩ : MDoc) = _
      rw [abs_up]
      rfl
    refine ⟨ea, by rw [ea]; exact hg, h.tr, ?_, ?_⟩
    · exact fixed_all (Φ := fun x => x.1 = true) (upd_fixed _ _ _) h.stop
    · exact fixed_all (Φ := fun x => ∀ p ∈ x.2, POk d.original d.added p) (upd_fixed _ _ _) h.pieces
/-! ### new documents -/
theorem toks_raw : ∀ (l : List (RawToken × Option Nat)) (n : Nat), (assignIds n l).map (fun t => t.raw) = l.map (fun t => t.1)
  | [], _ => rfl
  | (t, some k) :: l, n => by rw [assignIds, List.map_cons, List.map_cons, toks_raw l n]
  | (t, none) :: l, n => by rw [assignIds, List.map_cons, List.map_cons, toks_raw l (n + 1)]
theorem ids_of : ∀ (l : List (RawToken × Option Nat)) (n : Nat), 1 ≤ n → (∀ x ∈ l, ∀ k, x.2 = some k → 1 ≤ k ∧ k < n) → ∀ t ∈ assignIds n l, 1 ≤ t.id ∧ t.id < n + freshs l
  | [], _, _, _, t, ht => by cases ht
  | (a, some k) :: l, n, hn, h, t, ht => by
    have e : freshs ((a, some k) :: l) = freshs l := rfl
    rw [e]
    rw [assignIds] at ht
    rcases List.mem_cons.mp ht with rfl | ht
    · have := h _ (List.mem_cons_self ..) k rfl
      show 1 ≤ k ∧ k < _
      omega
    · exact ids_of l n hn (fun x hx => h x (List.mem_cons_of_mem _ hx)) t ht
  | (a, none) :: l, n, hn, h, t, ht => by
    have e : freshs ((a, none) :: l) = freshs l + 1 := rfl
    rw [e]
    rw [assignIds] at ht
    rcases List.mem_cons.mp ht with rfl | ht
    · show 1 ≤ n ∧ n < _
      omega
    · have := ids_of l (n + 1) (by omega) (fun x hx k hk => by
        have := h x (List.mem_cons_of_mem _ hx) k hk
        omega) t ht
      omega
theorem freshs_all (l : List RawToken) : freshs (l.map fun t => (t, none)) = l.length := by
  unfold freshs
  rw [List.filter_eq_self.mpr, List.length_map]
  intro x hx
  obtain ⟨t, _, rfl⟩ := List.mem_map.mp hx
  rfl
theorem freshs_le (l : List (RawToken × Option Nat)) : freshs l ≤ l.length := List.length_filter_le ..
theorem scan_length : ∀ (k : Nat) (u : Units) (p : Nat), (scanFrom k u p).length ≤ u.length
  | 0, _, _ => Nat.zero_le _
  | k + 1, [], _ => Nat.le_refl _
  | k + 1, c :: r, p => by
    rw [scanFrom_cons, List.length_cons]
    have h := scan_length k ((c :: r).drop (readToken (c :: r)).2.1) (p + (readToken (c :: r)).2.1)
    have l := readToken_len c r
    rw [List.length_drop] at h
    omega
theorem new_abs {u : Units} (hu : u.length ≤ 600) (hn : ∀ c ∈ u, c.toNat < 256) : absDoc (newDocument u) = mNew u ∧ SOk (newDocument u) := by
  have h1 := initial_text u
  have hlen : (initialTokens u).length = (scan u).length := by
    have := congrArg List.length (toks_raw ((scan u).map fun t => (t, none)) 1)
    rw [List.length_map, List.length_map, List.length_map] at this
    exact this
  have e : absDoc (newDocument u) = mNew u := by
    show (⟨[absVer u [] _], 0, (initialTokens u).length + 1, 0⟩ : MDoc) = _
    rw [hlen]
    unfold absVer mNew
    simp only
    rw [h1.1]
    rfl
  have hsl : (scan u).length ≤ u.length := scan_length ..
  refine ⟨e, ?_, rfl, ?_, ?_⟩
  · rw [e]
    have one : ∀ {Φ : MVer → Prop}, Φ ⟨u, assignIds 1 ((scan u).map fun t => (t, none)), -1, -1⟩ → ∀ v ∈ (mNew u).vers, Φ v := fun h v hv => by
      obtain rfl := List.mem_singleton.mp hv
      exact h
    refine ⟨Nat.one_pos, (by decide : 1 ≤ 100), ?_, ?_, one hn, one (show (-1 : Int) ≤ -1 ∧ (-1 : Int) < ((1 : Nat) : Int) by decide), one hu, one ?_, one ?_, ?_, Nat.zero_le _, ?_⟩
    · intro i v hv
      match i, hv with
      | 0, hv =>
        have hv := Option.some.inj hv
        subst hv
        show (-1 : Int) ≤ -1 ∧ (-1 : Int) < ((0 : Nat) : Int)
        decide
    · intro i v hv hi
      match i, hv with
      | i + 1, hv => cases hv
    · show (assignIds 1 _).map (fun t => t.raw) = _
      rw [toks_raw, List.map_map]
      exact List.map_id _
    · intro t ht
      have := ids_of _ 1 (Nat.le_refl _) (fun x hx k hk => by
        obtain ⟨_, _, rfl⟩ := List.mem_map.mp hx
        cases hk) t ht
      rw [freshs_all] at this
      show _ ∧ _ < (scan u).length + 1
      omega
    · show (scan u).length + 1 ≤ 1 + 600 * 1
      omega
    · show 1 ≤ (scan u).length + 1
      omega
  · intro v hv
    obtain rfl := List.mem_singleton.mp hv
    rfl
  · intro v hv
    obtain rfl := List.mem_singleton.mp hv
    exact h1.2
/-! ### changes -/
theorem mem_apply : ∀ {c : Change} {p : Nat} {u : Units} {x : UInt16}, x ∈ applyFrom p c u → x ∈ u ∨ ∃ r ∈ c, x ∈ r.text
  | [], _, _, _, h => .inl h
  | r :: q, p, u, x, h => by
    rw [applyFrom] at h
    rcases List.mem_append.mp h with h | h
    · rcases List.mem_append.mp h with h | h
      · exact .inl (List.mem_of_mem_take h)
      · exact .inr ⟨r, List.mem_cons_self .., h⟩
    · rcases mem_apply h with h | ⟨y, hy, h⟩
      · exact .inl (List.mem_of_mem_drop h)
      · exact .inr ⟨y, List.mem_cons_of_mem _ hy, h⟩
abbrev addT (c : Change) : Units := c.flatMap fun r => r.text
theorem flat_len (c : Change) : (addT c).length = insertedLength c := by
  unfold insertedLength
  rw [List.length_flatMap]
theorem add_abs {d : Document} (h : SOk d) {c : Change} {sel : List Selection} (hv : Valid 0 d.text.length c) (hn : ∀ r ∈ c, ∀ x ∈ r.text, x.toNat < 256) (h600 : (changedText c d.text).length ≤ 600) (h100 : d.versions.length < 100) (h5000 : d.added.length + insertedLength c ≤ 5000) :
    absDoc (d.addVersion d.current c sel true) = { vers := (absDoc d).vers ++ [⟨changedText c d.text, assignIds (absDoc d).next (nos (absDoc d) c (changedText c d.text)), (d.current : Int), -1⟩], cur := d.current, next := d.next + freshs (nos (absDoc d) c (changedText c d.text)), added := d.added.length + insertedLength c } ∧
    SOk (d.addVersion d.current c sel true) := by
  have hg := h.good
  have hl : (absDoc d).vers.length = d.versions.length := List.length_map ..
  have hcur : d.current < d.versions.length := by rw [← hl]; exact hg.cur
  have hmem : (absDoc d).now ∈ (absDoc d).vers := by
    unfold MDoc.now
    rw [List.getD_eq_getElem?_getD, List.getElem?_eq_getElem hg.cur]
    exact List.getElem_mem hg.cur
  have htext : (absDoc d).now.text = d.text := (abs_text d d.current).symm
  have htoks : (absDoc d).now.toks = (d.version d.current).tokens := by rw [abs_now]; rfl
  have hscan := hg.toks _ hmem
  rw [htext] at hscan
  have hvm : d.version d.current ∈ d.versions := by
    unfold Document.version
    rw [List.getD_eq_getElem?_getD, List.getElem?_eq_getElem hcur]
    exact List.getElem_mem hcur
  have htok : ∀ o ∈ (d.version d.current).tokens, IsTok d.text o.raw := fun o ho => by
    refine scan_tok ?_
    rw [← hscan, htoks]
    exact List.mem_map.mpr ⟨o, ho, rfl⟩
  have hre := rescan_eq htok hv
  have hct := changed_text c (d.version d.current).pieces (h.pieces _ hvm)
  have hnos : d.newTokens d.current c (changedText c d.text) = nos (absDoc d) c (changedText c d.text) := by
    unfold Document.newTokens nos
    rw [htoks, ← hre, List.map_map]
    rfl
  have eadd : (d.added ++ addT c).length = d.added.length + insertedLength c := by rw [List.length_append, flat_len]
  have hnl : (nos (absDoc d) c (changedText c d.text)).length = (scan (changedText c d.text)).length := List.length_map ..
  have hold : d.versions.map (absVer d.original (d.added ++ addT c)) = d.versions.map (absVer d.original d.added) := List.map_congr_left fun v hv => by
    unfold absVer
    rw [pt_grow _ (h.pieces v hv)]
  have e : absDoc (d.addVersion d.current c sel true) = { vers := (absDoc d).vers ++ [⟨changedText c d.text, assignIds (absDoc d).next (nos (absDoc d) c (changedText c d.text)), (d.current : Int), -1⟩], cur := d.current, next := d.next + freshs (nos (absDoc d) c (changedText c d.text)), added := d.added.length + insertedLength c } := by
    show ({ vers := (d.versions ++ [_]).map (absVer d.original (d.added ++ addT c)), cur := d.current, next := d.next + freshs (d.newTokens d.current c (changedText c d.text)), added := (d.added ++ addT c).length } : MDoc) = _
    rw [List.map_append, hold, eadd, hnos]
    show (⟨(absDoc d).vers ++ [⟨piecesText d.original (d.added ++ addT c) (changePieces d.added.length c (d.version d.current).pieces), assignIds d.next (d.newTokens d.current c (changedText c d.text)), (d.current : Int), -1⟩], _, _, _⟩ : MDoc) = _
    rw [hct.1, hnos]
    rfl
  refine ⟨e, ?_, h.tr, ?_, ?_⟩
  · rw [e]
    have hsl : (scan (changedText c d.text)).length ≤ (changedText c d.text).length := scan_length ..
    have hfr := freshs_le (nos (absDoc d) c (changedText c d.text))
    have mem : ∀ {Φ : MVer → Prop}, (∀ v ∈ (absDoc d).vers, Φ v) → Φ ⟨changedText c d.text, assignIds (absDoc d).next (nos (absDoc d) c (changedText c d.text)), (d.current : Int), -1⟩ → ∀ v ∈ (absDoc d).vers ++ [⟨changedText c d.text, assignIds (absDoc d).next (nos (absDoc d) c (changedText c d.text)), (d.current : Int), -1⟩], Φ v := fun h1 h2 v hv => by
      rcases List.mem_append.mp hv with hv | hv
      · exact h1 v hv
      · obtain rfl := List.mem_singleton.mp hv
        exact h2
    have lnew : ((absDoc d).vers ++ [(⟨changedText c d.text, assignIds (absDoc d).next (nos (absDoc d) c (changedText c d.text)), (d.current : Int), -1⟩ : MVer)]).length = d.versions.length + 1 := by rw [List.length_append, hl]; rfl
    have hnx := hg.next
    have hnx1 : 1 ≤ (absDoc d).next ∨ (absDoc d).next = 0 := by omega
    refine ⟨?_, ?_, ?_, ?_, ?_, ?_, ?_, ?_, ?_, ?_, ?_, ?_⟩
    · show d.current < List.length _
      rw [lnew]
      omega
    · show List.length _ ≤ 100
      rw [lnew]
      omega
    · exact hg.ahead.snoc (by show (-1 : Int) ≤ (d.current : Int) ∧ (d.current : Int) < _; rw [hl]; omega)
    · intro i v hi h0
      rw [List.getElem?_append] at hi
      split at hi
      · exact hg.pars i v hi h0
      · have : v = ⟨changedText c d.text, assignIds (absDoc d).next (nos (absDoc d) c (changedText c d.text)), (d.current : Int), -1⟩ := List.mem_singleton.mp (List.mem_of_getElem? hi)
        subst this
        show (0 : Int) ≤ (d.current : Int)
        omega
    · refine mem hg.narrow fun x hx => ?_
      rcases mem_apply hx with hx | ⟨r, hr, hx⟩
      · refine hg.narrow _ hmem x ?_
        rw [htext]
        exact hx
      · exact hn r hr x hx
    · refine mem (fun v hv => ?_) ?_
      · have := hg.redo v hv
        show -1 ≤ v.redo ∧ v.redo < ((List.length _ : Nat) : Int)
        rw [lnew]
        rw [hl] at this
        omega
      · show (-1 : Int) ≤ -1 ∧ (-1 : Int) < ((List.length _ : Nat) : Int)
        rw [lnew]
        omega
    · exact mem hg.text h600
    · refine mem hg.toks ?_
      show (assignIds _ _).map (fun t => t.raw) = _
      rw [toks_raw]
      unfold nos
      rw [List.map_map]
      exact List.map_id _
    · refine mem (fun v hv t ht => ?_) fun t ht => ?_
      · have := hg.ids v hv t ht
        show 1 ≤ t.id ∧ t.id < d.next + _
        have h2 : t.id < d.next := this.2
        omega
      · exact ids_of _ _ hg.pos (fun x hx k hk => by
          obtain ⟨y, hy, rfl⟩ := List.mem_map.mp hx
          have hk : reusedId (absDoc d).now.toks c y = some k := hk
          unfold reusedId at hk
          obtain ⟨o, ho, rfl⟩ := Option.map_eq_some_iff.mp hk
          exact hg.ids _ hmem o (List.mem_of_find?_eq_some ho)) t ht
    · show d.next + _ ≤ 1 + 600 * List.length _
      rw [lnew]
      rw [hl] at hnx
      have hnx : d.next ≤ 1 + 600 * d.versions.length := hnx
      omega
    · exact h5000
    · have := hg.pos
      have : 1 ≤ d.next := this
      show 1 ≤ d.next + _
      omega
  · intro v hv
    rcases List.mem_append.mp hv with hv | hv
    · exact h.stop v hv
    · obtain rfl := List.mem_singleton.mp hv
      rfl
  · intro v hv
    rcases List.mem_append.mp hv with hv | hv
    · exact fun p hp => pok_grow _ (h.pieces v hv p hp)
    · obtain rfl := List.mem_singleton.mp hv
      exact hct.2
end Law
end
section
set_option linter.all false
/-! The plain law: a change's normal form, from the left. -/
namespace Law
open R7253e.Spec
def Merged : Change → Prop
  | a :: b :: r => a.hi ≠ b.lo ∧ Merged (b :: r)
  | _ => True
theorem merge_cons (r : Replacement) (q : Change) : mergeAdjacent (r :: q) = match mergeAdjacent q with
    | s :: t => if r.hi = s.lo then ⟨r.lo, s.hi, r.text ++ s.text⟩ :: t else r :: s :: t
    | [] => [r] := rfl
theorem merge_id : ∀ {l : Change}, Merged l → mergeAdjacent l = l
  | [], _ => rfl
  | [r], _ => rfl
  | a :: b :: r, h => by
    rw [merge_cons, merge_id h.2]
    exact if_neg h.1
theorem merge_join {s r : Replacement} (h : s.hi = r.lo) (q : Change) : mergeAdjacent (s :: r :: q) = mergeAdjacent (⟨s.lo, r.hi, s.text ++ r.text⟩ :: q) := by
  rw [merge_cons, merge_cons r q, merge_cons _ q]
  cases mergeAdjacent q with
  | nil =>
    show (if s.hi = r.lo then _ else _) = _
    rw [if_pos h]
  | cons t tt =>
    show (match (if r.hi = t.lo then (⟨r.lo, t.hi, r.text ++ t.text⟩ :: tt : Change) else r :: t :: tt) with | x :: y => if s.hi = x.lo then _ else _ | [] => _) = if r.hi = t.lo then _ else _
    by_cases h2 : r.hi = t.lo
    · rw [if_pos h2, if_pos h2]
      show (if s.hi = r.lo then _ else _) = _
      rw [if_pos h, List.append_assoc]
    · rw [if_neg h2, if_neg h2]
      show (if s.hi = r.lo then _ else _) = _
      rw [if_pos h]
theorem merge_same : ∀ (a : Change) {l l' : Change}, mergeAdjacent l = mergeAdjacent l' → mergeAdjacent (a ++ l) = mergeAdjacent (a ++ l')
  | [], _, _, h => h
  | r :: a, l, l', h => by
    rw [List.cons_append, List.cons_append, merge_cons, merge_cons, merge_same a h]
theorem merged_last : ∀ {a : Change} {s s' : Replacement}, Merged (a ++ [s]) → s'.lo = s.lo → Merged (a ++ [s'])
  | [], _, _, _, _ => True.intro
  | [x], s, s', h, e => by
    have h1 : x.hi ≠ s.lo := h.1
    exact ⟨by rw [e]; exact h1, True.intro⟩
  | x :: y :: a, s, s', h, e => ⟨h.1, merged_last (a := y :: a) h.2 e⟩
theorem merged_snoc : ∀ {a : Change} {s r : Replacement}, Merged (a ++ [s]) → s.hi ≠ r.lo → Merged (a ++ [s] ++ [r])
  | [], _, _, _, h => ⟨h, True.intro⟩
  | [x], s, r, h, h2 => ⟨h.1, h2, True.intro⟩
  | x :: y :: a, s, r, h, h2 => ⟨h.1, merged_snoc (a := y :: a) h.2 h2⟩
theorem fold_merge : ∀ (l acc : Change), Merged acc → l.foldl nStep acc = mergeAdjacent (acc ++ dropEmpty l)
  | [], acc, h => by
    show acc = mergeAdjacent (acc ++ [])
    rw [List.append_nil, merge_id h]
  | r :: l, acc, h => by
    rw [List.foldl_cons]
    by_cases hr : r.lo < r.hi ∨ r.text ≠ []
    · have ed : dropEmpty (r :: l) = r :: dropEmpty l := by
        unfold dropEmpty
        rw [List.filter_cons, if_pos]
        rcases hr with z | z
        · rw [decide_eq_true z, Bool.true_or]
        · cases ht : r.text with
          | nil => exact absurd ht z
          | cons a b => rw [Bool.or_eq_true]; exact .inr rfl
      rw [ed]
      cases hl : acc.getLast? with
      | none =>
        have e0 : acc = [] := List.getLast?_eq_none_iff.mp hl
        subst e0
        have e : nStep [] r = [r] := by unfold nStep; rw [if_pos hr]; rfl
        rw [e, fold_merge l [r] True.intro]
        rfl
      | some s =>
        have es := last_split hl
        by_cases hs : s.hi = r.lo
        · have e : nStep acc r = acc.dropLast ++ [⟨s.lo, r.hi, s.text ++ r.text⟩] := by
            unfold nStep
            rw [if_pos hr, hl]
            exact if_pos hs
          rw [es] at h
          rw [e, fold_merge l _ (merged_last (s' := ⟨s.lo, r.hi, s.text ++ r.text⟩) h rfl)]
          conv => rhs; rw [es]
          rw [List.append_assoc, List.append_assoc]
          exact merge_same _ (merge_join hs _).symm
        · have e : nStep acc r = acc ++ [r] := by
            unfold nStep
            rw [if_pos hr, hl]
            exact if_neg hs
          have hm : Merged (acc ++ [r]) := by
            rw [es] at h ⊢
            exact merged_snoc h hs
          rw [e, fold_merge l _ hm, List.append_assoc]
          rfl
    · have e : nStep acc r = acc := if_neg hr
      have ed : dropEmpty (r :: l) = dropEmpty l := by
        unfold dropEmpty
        rw [List.filter_cons, if_neg]
        intro z
        rw [Bool.or_eq_true] at z
        rcases z with z | z
        · exact hr (.inl (of_decide_eq_true z))
        · refine hr (.inr fun y => ?_)
          rw [y] at z
          cases z
      rw [e, ed, fold_merge l acc h]
theorem normal_fold (c : Change) : c.foldl nStep [] = normalize c := fold_merge c [] True.intro
end Law
end
section
set_option Elab.async false
set_option linter.all false
set_option maxRecDepth 100000
set_option maxHeartbeats 2000000
/-! The walk, part 0: where the defs stand, how they are called, how the heap grows. -/
namespace Tk
open PySem PySem.Spec PyProof.Rows L2

/-- the i-th statement of the program -/
def top (i : Nat) : Stmt := PySem.Challenge.pw_stabletokens_s01_answers.main.body.getD i (.Pass ⟨0, 0, 0, 0⟩)

/-! ### defs by their names -/
/-- the def st stands under the name x, its parameters ps -/
structure DefAt (K : PySem.W.Frag) (mg : Str → Option Value) (x : Str) (st : Stmt) (ps : List Str) : Prop where
  ex : ∃ (f : Addr) (fd : FuncData), Fun K x x st f fd ∧ mg x = some (.ref f) ∧ Binds K fd ps []
/-- what is called by the name x keeps the promise sp -/
structure Fn (P : Program) (w : World) (K : PySem.W.Frag) (mg : Str → Option Value) (base : Heap) (CX : CXT) (k : Nat) (x : Str) (ps : List Str) (sp : Sp) : Prop where
  ex : ∃ (f : Addr) (fd : FuncData), mg x = some (.ref f) ∧ PySem.W.keepIn K (.ref f) = true ∧ Binds K fd ps [] ∧ FnOk P w K mg base CX k f fd ps sp
/-- .. within an except suite -/
structure FnHot (P : Program) (w : World) (K : PySem.W.Frag) (mg : Str → Option Value) (base : Heap) (CX : CXT) (k : Nat) (x : Str) (ps : List Str) (sp : Sp) : Prop where
  ex : ∃ (f : Addr) (fd : FuncData), mg x = some (.ref f) ∧ PySem.W.keepIn K (.ref f) = true ∧ Binds K fd ps [] ∧ L2H.FnH P w K mg base CX k f fd ps sp
/-- the method m of the class at C -/
structure MtAt (K : PySem.W.Frag) (C : Addr) (m qual : Str) (st : Stmt) (ps : List Str) : Prop where
  ex : ∃ (f : Addr) (fd : FuncData), Fun K m qual st f fd ∧ Meth K C m f ∧ Cls K C ∧ Binds K fd ps []
structure Mt (P : Program) (w : World) (K : PySem.W.Frag) (mg : Str → Option Value) (base : Heap) (CX : CXT) (k : Nat) (C : Addr) (m : Str) (ps : List Str) (sp : Sp) : Prop where
  ex : ∃ (f : Addr) (fd : FuncData), Meth K C m f ∧ Cls K C ∧ Binds K fd ps [] ∧ FnOk P w K mg base CX k f fd ps sp
/-- the class x at C, its __init__ -/
structure ClAt (K : PySem.W.Frag) (mg : Str → Option Value) (C : Addr) (x qual : Str) (st : Stmt) (ps : List Str) : Prop where
  ex : ∃ (f : Addr) (fd : FuncData), Fun K "__init__" qual st f fd ∧ Mk K C f ∧ mg x = some (.ref C) ∧ Binds K fd ps []
structure Cl (P : Program) (w : World) (K : PySem.W.Frag) (mg : Str → Option Value) (base : Heap) (CX : CXT) (k : Nat) (C : Addr) (x : Str) (ps : List Str) (sp : Sp) : Prop where
  ex : ∃ (f : Addr) (fd : FuncData), Mk K C f ∧ mg x = some (.ref C) ∧ Binds K fd ps [] ∧ FnOk P w K mg base CX k f fd ps sp

section
variable {P : Program} {w : World} {K : PySem.W.Frag} {mg : Str → Option Value} {base : Heap}
theorem DefAt.ok {x : Str} {st : Stmt} {N ps : List Str} {k : Nat} {sp : Sp} (D : DefAt K mg x st ps) (S : FnScope N ps (defScope st)) (len : ∀ vs H Q E, sp vs H Q E → vs.length = ps.length)
    (hbody : ∀ (f : Addr) (cdv : Value) (A : Around) (outer : List Env) (s : Shared) (H : Hp) (vs : List V) (Q : VK) (E : XK), Room k (A.deeper (envOfC x (defScope st) s.heap.objs.size f cdv)) → sp vs H Q E →
      ∃ t, PSs (cxOf CX0 P w K mg base N x (defScope st) f cdv A outer s H E).nox (defBody st) t ∧ t { nx := fun _ H' => Q .non H', rt := Q } (start N vs) H) : Fn P w K mg base CX0 (k + 1) x ps sp := by
  obtain ⟨f, fd, F, hm, b⟩ := D.ex
  exact ⟨f, fd, hm, F.kp, b, F.ok S len fun cdv A outer s H vs Q E => hbody f cdv A outer s H vs Q E⟩
/-- a def that may raise -/
theorem DefAt.okN {x : Str} {st : Stmt} {N ps : List Str} {k : Nat} {sp : Sp} (D : DefAt K mg x st ps) (S : FnScope N ps (defScope st)) (len : ∀ vs H Q E, sp vs H Q E → vs.length = ps.length)
    (hbody : ∀ (f : Addr) (cdv : Value) (A : Around) (outer : List Env) (s : Shared) (H : Hp) (vs : List V) (Q : VK) (E : XK), Room k (A.deeper (envOfC x (defScope st) s.heap.objs.size f cdv)) → sp vs H Q E →
      ∃ t, PSs (cxOf (L2N.CX P w) P w K mg base N x (defScope st) f cdv A outer s H E) (defBody st) t ∧ t { nx := fun _ H' => Q .non H', rt := Q } (start N vs) H) : Fn P w K mg base (L2N.CX P w) (k + 1) x ps sp := by
  obtain ⟨f, fd, F, hm, b⟩ := D.ex
  obtain ⟨oc, od, kV, doc, pm, an, cdv, ct, osl, rfl, lk, hcd⟩ := F.ex
  exact ⟨f, _, hm, F.kp, b, fn_of lk hcd S len fun A outer s H vs Q E hr hsp => hbody f cdv A outer s H vs Q E hr hsp⟩
/-- a def within an except suite -/
theorem DefAt.okH {x : Str} {st : Stmt} {N ps : List Str} {k : Nat} {sp : Sp} (D : DefAt K mg x st ps) (S : FnScope N ps (defScope st)) (len : ∀ vs H Q E, sp vs H Q E → vs.length = ps.length)
    (hbody : ∀ (f : Addr) (cdv : Value) (A : Around) (outer : List Env) (s : Shared) (H : Hp) (vs : List V) (Q : VK) (E : XK) (p : Addr × Obj), L2H.Hot1 A p → L2H.RoomH k (A.deeper (envOfC x (defScope st) s.heap.objs.size f cdv)) → sp vs H Q E →
      ∃ t, PSs (L2H.cxH CX0 P w K mg base N x (defScope st) f cdv A outer s H E p) (defBody st) t ∧ t { nx := fun _ H' => Q .non H', rt := Q } (start N vs) H) : FnHot P w K mg base CX0 (k + 1) x ps sp := by
  obtain ⟨f, fd, F, hm, b⟩ := D.ex
  obtain ⟨oc, od, kV, doc, pm, an, cdv, ct, osl, rfl, lk, hcd⟩ := F.ex
  exact ⟨f, _, hm, F.kp, b, L2H.fn_ofH lk hcd S len fun A outer s H vs Q E p hot hr hsp => hbody f cdv A outer s H vs Q E p hot hr hsp⟩
theorem MtAt.ok {C : Addr} {m qual : Str} {st : Stmt} {N ps : List Str} {k : Nat} {sp : Sp} (D : MtAt K C m qual st ps) (S : FnScope N ps (defScope st)) (len : ∀ vs H Q E, sp vs H Q E → vs.length = ps.length)
    (hbody : ∀ (f : Addr) (cdv : Value) (A : Around) (outer : List Env) (s : Shared) (H : Hp) (vs : List V) (Q : VK) (E : XK), Room k (A.deeper (envOfC qual (defScope st) s.heap.objs.size f cdv)) → sp vs H Q E →
      ∃ t, PSs (cxOf CX0 P w K mg base N qual (defScope st) f cdv A outer s H E).nox (defBody st) t ∧ t { nx := fun _ H' => Q .non H', rt := Q } (start N vs) H) : Mt P w K mg base CX0 (k + 1) C m ps sp := by
  obtain ⟨f, fd, F, hm, c, b⟩ := D.ex
  exact ⟨f, fd, hm, c, b, F.ok S len fun cdv A outer s H vs Q E => hbody f cdv A outer s H vs Q E⟩
theorem ClAt.ok {C : Addr} {x qual : Str} {st : Stmt} {N ps : List Str} {k : Nat} {sp : Sp} (D : ClAt K mg C x qual st ps) (S : FnScope N ps (defScope st)) (len : ∀ vs H Q E, sp vs H Q E → vs.length = ps.length)
    (hbody : ∀ (f : Addr) (cdv : Value) (A : Around) (outer : List Env) (s : Shared) (H : Hp) (vs : List V) (Q : VK) (E : XK), Room k (A.deeper (envOfC qual (defScope st) s.heap.objs.size f cdv)) → sp vs H Q E →
      ∃ t, PSs (cxOf CX0 P w K mg base N qual (defScope st) f cdv A outer s H E).nox (defBody st) t ∧ t { nx := fun _ H' => Q .non H', rt := Q } (start N vs) H) : Cl P w K mg base CX0 (k + 1) C x ps sp := by
  obtain ⟨f, fd, F, hm, c, b⟩ := D.ex
  exact ⟨f, fd, hm, c, b, F.ok S len fun cdv A outer s H vs Q E => hbody f cdv A outer s H vs Q E⟩
end

section
variable {X : Cx} {CX : CXT} {k j : Nat} {C : Addr} {x m : Str} {ps : List Str} {sp : Sp} {p pos apos : Pos} {e o : Expr} {es : List Expr} {ta : TE} {t : TA}
theorem pe_f (c : Fn X.prog X.w X.K X.mg X.base CX0 k x ps sp) (hr : Room j X.A) (hk : k ≤ j) (ha : PA X (e :: es) t) (hg : Gl X x := by rfl)
    (hdb : (x == ("__debug__" : Str)) = false := by decide) (he : starEach (e :: es) X.env = (false, eval e X.env) :: starEach es X.env := by rfl) (hpl : (backTo pos (starEach es X.env)).any (·.1) = false := by rfl) :
    PE X (.Call (.Name x p) (e :: es) [] pos) (tCall sp [] E0 t) := by
  obtain ⟨f, fd, hm, kp, b, F⟩ := c.ex
  exact pe_call F (hr.mono hk) hg hm kp b .nil pass0 ha hdb he hpl
theorem pe_fS {W : WX} (c : Fn X.prog X.w X.K X.mg X.base (L2N.CX X.prog X.w) k x ps sp) (hr : Room j X.A) (hk : k ≤ j) (tk : L2N.Takes X W) (ha : PA X (e :: es) t) (hg : Gl X x := by rfl)
    (hdb : (x == ("__debug__" : Str)) = false := by decide) (he : starEach (e :: es) X.env = (false, eval e X.env) :: starEach es X.env := by rfl) (hpl : (backTo pos (starEach es X.env)).any (·.1) = false := by rfl) :
    PE X (.Call (.Name x p) (e :: es) [] pos) (tCallS sp (WE W) t) := by
  obtain ⟨f, fd, hm, kp, b, F⟩ := c.ex
  exact pe_callS F (hr.mono hk) hg hm kp b (fun σ => L2N.passAt tk σ) ha hdb he hpl
theorem pe_fH (c : FnHot X.prog X.w X.K X.mg X.base CX0 k x ps sp) (hr : L2H.RoomH j X.A) (hot : L2H.HotC X) (hk : k ≤ j) (ha : PA X (e :: es) t) (hg : Gl X x := by rfl)
    (hdb : (x == ("__debug__" : Str)) = false := by decide) (he : starEach (e :: es) X.env = (false, eval e X.env) :: starEach es X.env := by rfl) (hpl : (backTo pos (starEach es X.env)).any (·.1) = false := by rfl) :
    PE X (.Call (.Name x p) (e :: es) [] pos) (tCallS sp (fun _ => E0) t) := by
  obtain ⟨f, fd, hm, kp, b, F⟩ := c.ex
  exact L2H.pe_callH F (hr.mono hk) hot hg hm kp b (fun _ _ _ _ _ _ _ h => h.elim) ha hdb he hpl
theorem pe_mtf {pl : Sem Bool} (c : Mt X.prog X.w X.K X.mg X.base CX0 k C m ps sp) (hr : Room j X.A) (hk : k ≤ j) (he : PE X o ta) (ha : PA X (e :: es) t)
    (hst : starEach (e :: es) X.env = (false, eval e X.env) :: starEach es X.env := by rfl) (hpl : (backTo pos (starEach es X.env)).any (·.1) = false := by rfl)
    (ht : eval (.Call (.Attribute o m apos) (e :: es) [] pos) X.env = (do
      let ov ← eval o X.env
      standAt apos.atName
      let (f, first) ← holding [ov] (getMethod ov m pl)
      callWith pos f first (backTo pos (starEach (e :: es) X.env)) (backToKw pos (keywordEach [] X.env))) := by rfl) :
    PE X (.Call (.Attribute o m apos) (e :: es) [] pos) (tMeth C m sp [] E0 ta t) := by
  obtain ⟨f, fd, hm, hc, b, F⟩ := c.ex
  exact pe_meth (pl := pl) he hc hm F (hr.mono hk) b .nil pass0 ha hst hpl ht
theorem pe_mt0f {pl : Sem Bool} (c : Mt X.prog X.w X.K X.mg X.base CX0 k C m ps sp) (hr : Room j X.A) (hk : k ≤ j) (he : PE X o ta)
    (ht : eval (.Call (.Attribute o m apos) [] [] pos) X.env = (do
      let ov ← eval o X.env
      standAt apos.atName
      let (f, first) ← holding [ov] (getMethod ov m pl)
      callWith pos f first (backTo pos (starEach [] X.env)) (backToKw pos (keywordEach [] X.env))) := by rfl) :
    PE X (.Call (.Attribute o m apos) [] [] pos) (tMeth C m sp [] E0 ta tNil) := by
  obtain ⟨f, fd, hm, hc, b, F⟩ := c.ex
  exact pe_meth0 (pl := pl) he hc hm F (hr.mono hk) b .nil pass0 ht
theorem pe_mkf (c : Cl X.prog X.w X.K X.mg X.base CX0 k C x ps sp) (hr : Room j X.A) (hk : k + 1 ≤ j) (ha : PA X (e :: es) t) (hg : Gl X x := by rfl)
    (hdb : (x == ("__debug__" : Str)) = false := by decide) (he : starEach (e :: es) X.env = (false, eval e X.env) :: starEach es X.env := by rfl) (hpl : (backTo pos (starEach es X.env)).any (·.1) = false := by rfl) :
    PE X (.Call (.Name x p) (e :: es) [] pos) (tMake C sp [] E0 t) := by
  obtain ⟨f, fd, M, hm, b, F⟩ := c.ex
  exact pe_make M F (hr.mono hk) hg hm b .nil pass0 ha hdb he hpl
theorem pe_mk0f (c : Cl X.prog X.w X.K X.mg X.base CX0 k C x ps sp) (hr : Room j X.A) (hk : k + 1 ≤ j) (hg : Gl X x := by rfl) (hdb : (x == ("__debug__" : Str)) = false := by decide) :
    PE X (.Call (.Name x p) [] [] pos) (tMake C sp [] E0 tNil) := by
  obtain ⟨f, fd, M, hm, b, F⟩ := c.ex
  exact pe_make0 M F (hr.mono hk) hg hm b .nil pass0 hdb
end

section
variable {P : Program} {w : World} {K : PySem.W.Frag} {mg : Str → Option Value} {base : Heap} {CX : CXT} {N : List Str} {q : Str} {sc : Scope} {f : Addr} {cd : Value} {A : Around} {outer : List Env} {s : Shared} {H : Hp} {E : XK} {p : Addr × Obj}
theorem cxK : (cxOf CX P w K mg base N q sc f cd A outer s H E).K = K := rfl
theorem cxNK : (cxOf CX P w K mg base N q sc f cd A outer s H E).nox.K = K := rfl
theorem cxNN : (cxOf CX P w K mg base N q sc f cd A outer s H E).N = N := rfl
theorem cxHK : (L2H.cxH CX P w K mg base N q sc f cd A outer s H E p).K = K := rfl
end
theorem call_max3 {X : Cx} (hc : X.calm = true) : CallR X (.builtin "max") (fun xs H Q => ∃ i j l : Int, xs = [.int i, .int j, .int l] ∧ Q (.int (max (max i j) l)) H) := by
  intro pins s σ H xs us Q I r h
  obtain ⟨i, j, l, rfl, q⟩ := h
  refine call_max3Nu hc pins s σ H _ us Q I r ⟨.int i, .int j, .int l, .int (max (max i j) l), rfl, ?_, q⟩
  have m2 : ∀ a b : Int, nuMax2 (.int a) (.int b) = some (.int (max a b)) := fun a b => by
    show some (if decide (a < b) = true then V.int b else V.int a) = _
    by_cases h : a < b
    · rw [if_pos (decide_eq_true h), Int.max_eq_right (by omega)]
    · rw [if_neg (by simpa using h), Int.max_eq_left (by omega)]
  show ((nuMax2 (.int i) (.int j)).bind fun m => nuMax2 m (.int l)) = _
  rw [m2]
  exact m2 _ _
/-- a op1 b op2 c op3 d -/
def tChain3 (r1 r2 r3 : R2) (ta tb tc td : TE) : TE := fun σ H Q => ta σ H fun x H1 => tb σ H1 fun y H2 => r1 x y H2 fun z H3 => ∃ k, z = .bl k ∧
  (if k = true then tc σ H3 fun y2 H4 => r2 y y2 H4 fun z2 H5 => ∃ k2, z2 = .bl k2 ∧ (if k2 = true then td σ H5 fun y3 H6 => r3 y2 y3 H6 Q else Q (.bl false) H5) else Q (.bl false) H3)
theorem pe_chain3 {X : Cx} {a b c d : Expr} {o1 o2 o3 : CmpOp} {r1 r2 r3 : R2} {ta tb tc td : TE} {pos : Pos} (h1 : OpR X (compareOp o1) r1) (h2 : OpR X (compareOp o2) r2) (h3 : OpR X (compareOp o3) r3) (ha : PE X a ta) (hb : PE X b tb) (hc : PE X c tc) (hd : PE X d td)
    (hm : lastMarks [o1, o2, o3] [b, c, d] = false := by with_unfolding_all rfl) : PE X (.Compare a [o1, o2, o3] [b, c, d] pos) (tChain3 r1 r2 r3 ta tb tc td) := by
  refine ⟨fun pins s σ H Q I h => ?_⟩
  refine Compare_chain (thn (ha.run pins s σ H _ I h) fun v s1 ⟨x, H1, I1, e1, q1⟩ => chain_link (thn (hb.run pins s1 σ H1 _ I1 q1) fun u s2 ⟨y, H2, I2, e2, q2⟩ =>
    thn (h1 pins s2 σ H2 x y v u _ I2 e1 e2 q2) fun z1 s3 ⟨z, H3, I3, e3, k, ek, q3⟩ => ?_)) hm
  subst ek
  cases e3
  refine wpAny_truthy_bool ?_
  cases k with
  | false => exact ite_ff ⟨.bl false, H3, I3, rfl, q3⟩
  | true =>
    refine ite_tt (chain_link (thn (hc.run pins s3 σ H3 _ I3 q3) fun u2 s4 ⟨y2, H4, I4, e4, q4⟩ => thn (h2 pins s4 σ H4 y y2 u u2 _ I4 e2 e4 q4) fun z2 s5 ⟨z', H5, I5, e5, k2, ek2, q5⟩ => ?_))
    subst ek2
    cases e5
    refine wpAny_truthy_bool ?_
    cases k2 with
    | false => exact ite_ff ⟨.bl false, H5, I5, rfl, q5⟩
    | true => exact ite_tt (chain_last (thn (hd.run pins s5 σ H5 _ I5 q5) fun u3 s6 ⟨y3, H6, I6, e6, q6⟩ => h3 pins s6 σ H6 y2 y3 u2 u3 Q I6 e4 e6 q6))
/-! ### what the top has written -/
structure Ads where
  cN : Addr
  cR : Addr
  cF : Addr
  cD : Addr
  cV : Addr
  cO : Addr
  cW : Addr
  cK : Addr
  kw : Addr
def Gv (mg : Str → Option Value) (x : Str) (v : V) : Prop := ∃ u, mg x = some u ∧ RelV v u
structure Top (K : PySem.W.Frag) (mg : Str → Option Value) (A : Ads) : Prop where
  n_len : mg "len" = none
  n_ord : mg "ord" = none
  n_max : mg "max" = none
  n_sum : mg "sum" = none
  n_all : mg "all" = none
  n_str : mg "str" = none
  n_tuple : mg "tuple" = none
  n_list : mg "list" = none
  n_int : mg "int" = none
  n_bool : mg "bool" = none
  n_isinstance : mg "isinstance" = none
  n_range : mg "range" = none
  n_enumerate : mg "enumerate" = none
  g_WRONG_KIND : Gv mg "WRONG_KIND" (.int 1)
  g_OUT_OF_RANGE : Gv mg "OUT_OF_RANGE" (.int 2)
  g_KEYWORDS : Gv mg "KEYWORDS" (.ref A.kw)
  sq_KEYWORDS : ∀ H, SqT K H A.kw [.str "let", .str "set", .str "fn", .str "if", .str "else", .str "while", .str "return"]
  g_SINGLES : Gv mg "SINGLES" (.str "+-*/(){},;")
  g_MOST_DEPTH : Gv mg "MOST_DEPTH" (.int 12)
  g_BLANK : Gv mg "BLANK" (.int 32)
  g_LINE_FEED : Gv mg "LINE_FEED" (.int 10)
  g_HASH : Gv mg "HASH" (.int 35)
  g_MARK : Gv mg "MARK" (.int 34)
  g_POINT : Gv mg "POINT" (.int 46)
  g_EQUAL : Gv mg "EQUAL" (.int 61)
  g_MOST_TEXT : Gv mg "MOST_TEXT" (.int 600)
  g_MOST_REPLACEMENTS : Gv mg "MOST_REPLACEMENTS" (.int 20)
  g_MOST_VERSIONS : Gv mg "MOST_VERSIONS" (.int 100)
  g_MOST_ADDED : Gv mg "MOST_ADDED" (.int 5000)
  g_Nothing : Gv mg "Nothing" (.ref A.cN)
  clN : Cls K A.cN
  clR : Cls K A.cR
  clD : Cls K A.cD
  clV : Cls K A.cV
  clO : Cls K A.cO
  clW : Cls K A.cW
  clK : Cls K A.cK
  a_there : NoAttr K A.cN "is_there"
  a_members : NoAttr K A.cR "members"
  a_row : NoAttr K A.cD "row"
  a_at : NoAttr K A.cD "at"
  a_text : NoAttr K A.cV "text"
  a_tokens : NoAttr K A.cV "tokens"
  a_parent : NoAttr K A.cV "parent"
  a_redo : NoAttr K A.cV "redo"
  a_versions : NoAttr K A.cO "versions"
  a_current : NoAttr K A.cO "current"
  a_next_id : NoAttr K A.cO "next_id"
  a_many_added : NoAttr K A.cO "many_added"
  a_left : NoAttr K A.cW "left"
  a_documents : NoAttr K A.cK "documents"
  a_walks : NoAttr K A.cK "walks"
  -- isinstance
  iN_class : PySem.W.findIn K (.ref A.cN) "__class__" = some (some (.builtin "object.__class__"))
  iR_class : PySem.W.findIn K (.ref A.cR) "__class__" = some (some (.builtin "object.__class__"))
  i_get : PySem.W.specialIn K (.builtin "object.__class__") "__get__" = some (some (.builtin "getset_descriptor.__get__"))
  i_takes : PySem.W.takesIn K (.builtin "object.__class__") = some true
  iN_obj : PySem.W.mroIn K A.cN (.type "object") = some true
  iR_obj : PySem.W.mroIn K A.cR (.type "object") = some true
  kNN : PySem.W.kitOne K (.ref A.cN) (.ref A.cN) = some true
  kRN : PySem.W.kitOne K (.ref A.cR) (.ref A.cN) = some false
  kN : ∀ t ∈ (["int", "bool", "tuple", "list"] : List String), PySem.W.kitOne K (.ref A.cN) (.type t) = some false
  kR : ∀ t ∈ (["int", "bool", "tuple", "list"] : List String), PySem.W.kitOne K (.ref A.cR) (.type t) = some false
  kT : ∀ t ∈ (["NoneType", "int", "bool", "tuple", "list"] : List String), PySem.W.kitOne K (.type t) (.ref A.cN) = some false

/-! ### how the heap grows: G what never changes any more, H all that is tracked -/
structure Grow (S : Addr → Prop) (G H G' H' : Hp) : Prop where
  g : Same G G'
  h : ∀ b o, H b = some o → ¬ S b → H' b = some o
  s : Same G' H'
  n : ∀ b, G' b ≠ none → G b = none → H b = none
  l : ∀ b, H b ≠ none → H' b ≠ none
def Sno : Addr → Prop := fun _ => False
section
variable {S S1 : Addr → Prop} {G H G1 H1 G2 H2 : Hp} {p : Addr} {o : HO}
theorem Same.none {H H' : Hp} (e : Same H H') {b : Addr} (h : H' b = none) : H b = none := e.free h
theorem Grow.refl (e : Same G H) : Grow S G H G H := ⟨Same.refl G, fun _ _ h _ => h, e, fun _ h1 h2 => absurd h2 h1, fun _ h => h⟩
theorem Grow.trans (a : Grow S G H G1 H1) (b : Grow S1 G1 H1 G2 H2) (hs : ∀ b, S1 b → S b ∨ H b = none) : Grow S G H G2 H2 where
  g := a.g.trans b.g
  h := fun c o e n => b.h c o (a.h c o e n) fun z => (hs c z).elim n fun y => by rw [y] at e; cases e
  s := b.s
  n := fun c h1 h2 => by
    by_cases h : G1 c = none
    · have h3 := b.n c h1 h
      by_cases hc : H c = none
      · exact hc
      · exact absurd h3 (a.l c hc)
    · exact a.n c h h2
  l := fun c h => b.l c (a.l c h)
theorem Grow.transN (a : Grow S G H G1 H1) (b : Grow Sno G1 H1 G2 H2) : Grow S G H G2 H2 := a.trans b fun _ z => z.elim
theorem Grow.same (a : Grow Sno G H G1 H1) : Same H H1 := fun b o e => a.h b o e fun z => z
/-- a new object that will not change -/
theorem Grow.new (a : Grow S G H G1 H1) (hp : H1 p = none) : Grow S G H (upd G1 p o) (upd H1 p o) where
  g := fun b u e => by
    have e1 := a.g b u e
    rw [upd_ne (ne_of_none (a.s b u e1) hp)]
    exact e1
  h := fun b u e n => by
    have e1 := a.h b u e n
    rw [upd_ne (ne_of_none e1 hp)]
    exact e1
  s := fun b u e => by
    by_cases hb : b = p
    · rw [hb] at e ⊢
      rw [upd_same] at e ⊢
      exact e
    · rw [upd_ne hb] at e ⊢
      exact a.s b u e
  n := fun b h1 h2 => by
    by_cases hb : b = p
    · rw [hb]
      by_cases hc : H p = none
      · exact hc
      · exact absurd hp (a.l p hc)
    · rw [upd_ne hb] at h1
      exact a.n b h1 h2
  l := fun b h => by
    by_cases hb : b = p
    · rw [hb, upd_same]
      exact fun z => by cases z
    · rw [upd_ne hb]
      exact a.l b h
/-- a new object that may change yet -/
theorem Grow.tmp (a : Grow S G H G1 H1) (hp : H1 p = none) : Grow S G H G1 (upd H1 p o) where
  g := a.g
  h := fun b u e n => by
    have e1 := a.h b u e n
    rw [upd_ne (ne_of_none e1 hp)]
    exact e1
  s := fun b u e => by
    have e1 := a.s b u e
    rw [upd_ne (ne_of_none e1 hp)]
    exact e1
  n := a.n
  l := fun b h => by
    by_cases hb : b = p
    · rw [hb, upd_same]
      exact fun z => by cases z
    · rw [upd_ne hb]
      exact a.l b h
/-- an object that may change is changed -/
theorem Grow.put (a : Grow S G H G1 H1) (hg : G1 p = none) (hs : S p ∨ H p = none) : Grow S G H G1 (upd H1 p o) where
  g := a.g
  h := fun b u e n => by
    have hb : b ≠ p := fun z => hs.elim (fun y => n (z ▸ y)) fun y => by rw [z, y] at e; cases e
    rw [upd_ne hb]
    exact a.h b u e n
  s := fun b u e => by
    rw [upd_ne (ne_of_none e hg)]
    exact a.s b u e
  n := a.n
  l := fun b h => by
    by_cases hb : b = p
    · rw [hb, upd_same]
      exact fun z => by cases z
    · rw [upd_ne hb]
      exact a.l b h
/-- an object of ours changes no more -/
theorem Grow.fix (a : Grow S G H G1 H1) (hp : H p = none) (h1 : H1 p = some o) (hg : G1 p = none) : Grow S G H (upd G1 p o) H1 where
  g := fun b u e => by
    have e1 := a.g b u e
    rw [upd_ne (ne_of_none e1 hg)]
    exact e1
  h := a.h
  s := fun b u e => by
    by_cases hb : b = p
    · rw [hb, upd_same] at e
      rw [hb, h1, e]
    · rw [upd_ne hb] at e
      exact a.s b u e
  n := fun b h1 h2 => by
    by_cases hb : b = p
    · rw [hb]
      exact hp
    · rw [upd_ne hb] at h1
      exact a.n b h1 h2
  l := a.l
/-- what may change stays out of what never changes -/
theorem Grow.out (a : Grow S G H G1 H1) (hg : G p = none) (hh : H p ≠ none) : G1 p = none := by
  by_cases h : G1 p = none
  · exact h
  · exact absurd (a.n p h hg) hh
theorem Grow.keep (a : Grow S G H G1 H1) (hs : ¬ S p) (hh : H p = some o) : H1 p = some o := a.h p o hh hs
theorem Grow.wide (a : Grow Sno G H G1 H1) : Grow S G H G1 H1 := ⟨a.g, fun b o e _ => a.h b o e fun z => z, a.s, a.n, a.l⟩
theorem Grow.junk (a : Grow S G H G1 H1) (e : Same H1 H2) : Grow S G H G1 H2 := ⟨a.g, fun b o h n => e _ _ (a.h b o h n), a.s.trans e, a.n, fun b h z => a.l b h (e.free z)⟩
theorem Grow.back (a : Grow S G H G1 H1) (hp : H1 p = none) : H p = none := by
  by_cases h : H p = none
  · exact h
  · exact absurd hp (a.l p h)
end
theorem some_ne {o : HO} {x : Option HO} (h : x = some o) : x ≠ none := by rw [h]; exact fun z => by cases z

/-- a comprehension whose items are reckoned without a change of the heap -/
theorem lc_pure {J : It} {n : Nat} {Gd : Hp → Prop} {Y : Nat → Hp → V → Hp → Prop} {g : TG} {te : TE} {vs : List Nat} {σ : L2.St} {H1 : Hp} {D : Addr} {Qd : Hp → Prop} (w : Walk J n Gd Y) (v : Nat → V) (hn : n ≤ sizeLine) (hG : ∀ acc, Gd (upd H1 D (.lst acc)))
    (hs : ∀ (i : Nat) (x : V) (acc : List V) (H' : Hp) (Qe : VK), i < n → Y i (upd H1 D (.lst acc)) x H' → Qe (v i) (upd H1 D (.lst acc)) → g x (wipe σ vs) H' fun σ2 H2 => wipe σ2 vs = wipe σ vs ∧ te σ2 H2 Qe)
    (hd : Qd (upd H1 D (.lst ((List.range n).map v)))) :
    ∃ W : Nat → Nat → Hp → Prop, (∃ m, W 0 m (upd H1 D (.lst []))) ∧ ∀ i m H, W i m H →
      (J.stop i H ∧ Qd H) ∨ (J.go i H ∧ ∃ Nx : Hp → Prop, (∀ H', Nx H' → ∃ m', m' < m ∧ W (i + 1) m' H') ∧ ∀ x H', J.yld i H x H' → g x (wipe σ vs) H' fun σ2 H2 => wipe σ2 vs = wipe σ vs ∧ tYes σ2 H2 fun b H3 =>
        if b = true then te σ2 H3 fun y H4 => ∃ acc, H4 D = some (.lst acc) ∧ acc.length < sizeLine ∧ Nx (upd H4 D (.lst (acc ++ [y]))) else Nx H3) := by
  refine lc_it w (fun i H => H = upd H1 D (.lst ((List.range i).map v))) rfl (fun i H _ e => by rw [e]; exact hG _) (fun i x H H' hi e y => ?_) (fun H e => by rw [e]; exact hd)
  subst e
  refine hs i x _ H' _ hi y ⟨(List.range i).map v, upd_same, ?_, ?_⟩
  · rw [List.length_map, List.length_range]
    omega
  · rw [upd_upd, List.range_succ, List.map_append]
    rfl
theorem range_map {α : Type} {l : List α} {v : Nat → α} (h : ∀ i x, l[i]? = some x → v i = x) : (List.range l.length).map v = l := by
  apply List.ext_getElem?
  intro i
  rw [List.getElem?_map]
  by_cases hi : i < l.length
  · rw [List.getElem?_range hi, List.getElem?_eq_getElem hi]
    exact congrArg some (h i _ (List.getElem?_eq_getElem hi))
  · rw [List.getElem?_eq_none (by rw [List.length_range]; omega), List.getElem?_eq_none (by omega)]
    rfl
theorem same_new {H : Hp} {p : Addr} {o : HO} (hp : H p = none) : Same H (upd H p o) := fun b u e => by
  rw [upd_ne (ne_of_none e hp)]
  exact e
theorem lk_here {k : Str} {v : V} {r : List (Str × V)} : List.lookup k ((k, v) :: r) = some v := by
  have e : (k == k) = true := beq_self_eq_true k
  simp only [List.lookup, e]
theorem lk_past {k g : Str} {v : V} {r : List (Str × V)} (h : (k == g) = false) : List.lookup k ((g, v) :: r) = List.lookup k r := by
  simp only [List.lookup, h]
theorem put_here {f : Str} {v x : V} {r : List (Str × V)} : putF f v ((f, x) :: r) = (f, v) :: r := if_pos rfl
theorem put_past {f g : Str} {v x : V} {r : List (Str × V)} (h : ¬ g = f) : putF f v ((g, x) :: r) = (g, x) :: putF f v r := if_neg h
/-- insN: a new instance, its own dict at dx -/
def insN (H : Hp) (C x dx : Addr) (fs : List (Str × V)) : Hp := upd (upd H dx (.own x)) x (.ins C dx fs)
theorem insN_at {H : Hp} {C x dx : Addr} {fs : List (Str × V)} : insN H C x dx fs x = some (.ins C dx fs) := upd_same
theorem insN_set {H : Hp} {C x dx : Addr} {fs gs : List (Str × V)} : upd (insN H C x dx fs) x (.ins C dx gs) = insN H C x dx gs := upd_upd
theorem Grow.insTmp {S : Addr → Prop} {G H G1 H1 : Hp} {C x dx : Addr} {fs : List (Str × V)} (a : Grow S G H G1 H1) (hx : H1 x = none) (hd : H1 dx = none) (ne : dx ≠ x) : Grow S G H G1 (insN H1 C x dx fs) :=
  (a.tmp hd).tmp (by rw [upd_ne (Ne.symm ne)]; exact hx)
theorem Grow.insNew {S : Addr → Prop} {G H G1 H1 : Hp} {C x dx : Addr} {fs : List (Str × V)} (a : Grow S G H G1 H1) (hx : H1 x = none) (hd : H1 dx = none) (ne : dx ≠ x) : Grow S G H (upd G1 x (.ins C dx fs)) (insN H1 C x dx fs) :=
  (a.tmp hd).new (by rw [upd_ne (Ne.symm ne)]; exact hx)
/-- an __init__ that sets these fields to what they are told -/
def spFields (C : Addr) (fs : List V → List (Str × V)) (n : Nat) : Sp := fun vs H Q _ => ∃ (x dx : Addr) (args : List V) (H0 : Hp), vs = .ref x :: args ∧ args.length = n ∧ H = insN H0 C x dx [] ∧ Q .non (insN H0 C x dx (fs args))
/-! ### texts -/
def codes (z : Str) : List V := z.cps.toList.map fun (c : Nat) => V.int (c : Int)
abbrev Units := R7253e.Spec.Units
def U (u : Units) : List V := u.map fun c => .int (c.toNat : Int)
theorem U_len (u : Units) : (U u).length = u.length := List.length_map ..
theorem U_get {u : Units} {i : Nat} {c : UInt16} (h : u[i]? = some c) : (U u)[i]? = some (.int (c.toNat : Int)) := by
  unfold U
  rw [List.getElem?_map, h]
  rfl
def Ud (u : Units) : List PyData := u.map fun c => .int (c.toNat : Int)
theorem eqv_U : ∀ u v : Units, PyData.eqvAll (Ud u) (Ud v) = decide (u = v)
  | [], [] => rfl
  | [], c :: v => rfl
  | c :: u, [] => rfl
  | c :: u, d :: v => by
    show PyData.eqvAll (.int (c.toNat : Int) :: Ud u) (.int (d.toNat : Int) :: Ud v) = _
    rw [PyData.eqvAll, PyData.eqv, eqv_U u v, Bool.eq_iff_iff, Bool.and_eq_true, beq_iff_eq, decide_eq_true_eq, decide_eq_true_eq, List.cons.injEq]
    constructor
    · rintro ⟨h, e⟩
      exact ⟨UInt16.toNat_inj.mp (by omega), e⟩
    · rintro ⟨h, e⟩
      exact ⟨by rw [h], e⟩
theorem shaped_U (u : Units) : SeqAt.shaped (.tuple (Ud u)) = true := by
  have h1 : PyData.canLayAll0 (Ud u) = true := by
    induction u with
    | nil => rfl
    | cons c u ih =>
      show PyData.canLayAll0 (.int (c.toNat : Int) :: Ud u) = true
      rw [PyData.canLayAll0, PyData.canLay0, ih]
      rfl
  have h2 : PyData.depthAll (Ud u) = 0 := by
    induction u with
    | nil => rfl
    | cons c u ih =>
      show PyData.depthAll (.int (c.toNat : Int) :: Ud u) = 0
      rw [PyData.depthAll, PyData.depth, ih (by
        have h1 : PyData.canLayAll0 (.int (c.toNat : Int) :: Ud u) = true := h1
        rw [PyData.canLayAll0, PyData.canLay0, Bool.true_and] at h1
        exact h1)]
      rfl
  unfold SeqAt.shaped
  rw [PyData.canLay0, h1, PyData.depth, h2]
  rfl
theorem dp_U {K : PySem.W.Frag} {H : Hp} : ∀ u : Units, DpAll K H (U u) (Ud u)
  | [] => .nil
  | c :: u => .cons (.int _) (dp_U u)
def Tx (H : Hp) (a : Addr) (u : Units) : Prop := H a = some (.tup (U u))
theorem six_of {n : Nat} {i : Int} (h0 : 0 ≤ i) (h : i ≤ n) (d : Nat) : HT.sIx n d (some i) = i.toNat := by
  show (if i < 0 then (i + (n : Int)).toNat else min i.toNat n) = _
  rw [if_neg (by omega)]
  omega
theorem cut_U (u : Units) {lo hi : Int} (h0 : 0 ≤ lo) (h1 : lo ≤ hi) (h2 : hi ≤ u.length) : cutV (U u) (some lo) (some hi) = U ((u.drop lo.toNat).take (hi.toNat - lo.toNat)) := by
  unfold cutV
  rw [U_len, six_of h0 (by omega), six_of (by omega) h2]
  unfold U
  rw [List.map_take, List.map_drop]
theorem cut_U2 (u : Units) {lo : Int} (h0 : 0 ≤ lo) (h1 : lo ≤ u.length) : cutV (U u) (some lo) none = U (u.drop lo.toNat) := by
  unfold cutV
  rw [U_len, six_of h0 h1, HT.sIx_none]
  unfold U
  rw [← List.map_drop]
  rw [List.take_of_length_le (by rw [List.length_map, List.length_drop]; omega)]
/-- a slice of a text -/
theorem sl_U {K : PySem.W.Frag} {S : Addr → Prop} {G0 H0 G H : Hp} {a : Addr} {u : Units} {lo hi : Int} {Q : VK} (g : Grow S G0 H0 G H) (hu : Tx G a u) (h0 : 0 ≤ lo) (h1 : lo ≤ hi) (h2 : hi ≤ u.length)
    (q : ∀ p G' H', Grow S G0 H0 G' H' → Grow Sno G H G' H' → Tx G' p ((u.drop lo.toNat).take (hi.toNat - lo.toNat)) → Q (.ref p) H') : rSlA K (.ref a) (some lo) (some hi) H Q := by
  refine ⟨a, U u, rfl, SqT.of (g.s _ _ hu), fun hw => ?_, fun _ p hp => ?_⟩
  · refine q a G H g (Grow.refl g.s) ?_
    rw [U_len, six_of h0 (by omega), six_of (by omega) h2] at hw
    rw [hw.1, hw.2, List.drop_zero, Nat.sub_zero, List.take_length]
    exact hu
  · rw [cut_U u h0 h1 h2]
    exact q p _ _ (g.new hp) ((Grow.refl g.s).new hp) upd_same
theorem sl_U2 {K : PySem.W.Frag} {S : Addr → Prop} {G0 H0 G H : Hp} {a : Addr} {u : Units} {lo : Int} {Q : VK} (g : Grow S G0 H0 G H) (hu : Tx G a u) (h0 : 0 ≤ lo) (h1 : lo ≤ u.length)
    (q : ∀ p G' H', Grow S G0 H0 G' H' → Grow Sno G H G' H' → Tx G' p (u.drop lo.toNat) → Q (.ref p) H') : rSlA K (.ref a) (some lo) none H Q := by
  refine ⟨a, U u, rfl, SqT.of (g.s _ _ hu), fun hw => ?_, fun _ p hp => ?_⟩
  · refine q a G H g (Grow.refl g.s) ?_
    rw [U_len, six_of h0 h1] at hw
    rw [hw.1, List.drop_zero]
    exact hu
  · rw [cut_U2 u h0 h1]
    exact q p _ _ (g.new hp) ((Grow.refl g.s).new hp) upd_same
end Tk
end
section
set_option Elab.async false
set_option linter.all false
set_option maxRecDepth 100000
set_option maxHeartbeats 2000000
/-! The walk, part 1: tokens.py. -/
namespace Tk
open PySem PySem.Spec PyProof.Rows L2
open Law (uAt letB digB numLen strEnd)
open R7253e.Spec (prefixLength stringEnd readToken keywordKind symbolKind operatorKind kindName RawToken scan nestingOk)
def kn (k : Nat) : Str := Str.ofString (kindName k)
def sp_is_letter : Sp := fun vs H Q _ => ∃ i : Int, vs = [.int i] ∧ Q (.bl (letB i)) H
def sp_is_digit : Sp := fun vs H Q _ => ∃ i : Int, vs = [.int i] ∧ Q (.bl (digB i)) H
def sp_unit_at : Sp := fun vs H Q _ => ∃ (a : Addr) (i : Int), vs = [.ref a, .int i] ∧ ∃ (u : Units), Tx H a u ∧ 0 ≤ i ∧ Q (.int (uAt u i.toNat)) H
def sp_digits_end : Sp := fun vs H Q _ => ∃ (a : Addr) (i : Int), vs = [.ref a, .int i] ∧ ∃ (u : Units), Tx H a u ∧ 0 ≤ i ∧ Q (.int (i + prefixLength R7253e.Spec.isDigit (u.drop i.toNat))) H
def sp_word_end : Sp := fun vs H Q _ => ∃ (a : Addr) (i : Int), vs = [.ref a, .int i] ∧ ∃ (u : Units), Tx H a u ∧ 0 ≤ i ∧ Q (.int (i + prefixLength R7253e.Spec.isIdentifierPart (u.drop i.toNat))) H
def sp_number_end : Sp := fun vs H Q _ => ∃ (a : Addr) (i : Int), vs = [.ref a, .int i] ∧ ∃ (u : Units), Tx H a u ∧ 0 ≤ i ∧ Q (.int (i + numLen (u.drop i.toNat))) H
def sp_string_end : Sp := fun vs H Q _ => ∃ (a : Addr) (i : Int), vs = [.ref a, .int i] ∧ ∃ (u : Units), Tx H a u ∧ 0 ≤ i ∧ Q (.int (strEnd u i)) H
local macro_rules | `(tactic| walk_at "rd") => `(tactic| simp only [sp_is_letter, sp_is_digit, sp_unit_at, sp_digits_end, sp_word_end, sp_number_end, sp_string_end, cxK, cxNK, cxNN, cxHK, tRet, tRetN, tChain, tC, tVar, rI0, rI, tOp, tUn, rU, tIf, tTest, tB, tNot, tAnd, tOr, tAndV, tOrV, tNotV, tCB, tCons, tNil, tNext, tSeq, tIfS, tDrop, tAsg, gName, tPar, tPar3, tAug, ipI, tCall, tCallS, E0, rEq, rNe, scal, rIxT, rIxL,  tTup, tLst, gTup, gCons, gNil, iTup, iList, iStr, iRng1, wipe, tSl, tPart, tNoPart, rIn,  tFld, sFld, sFldAug, tMeth, tMake, rAdd, tYes, tBM, rAppend, rExtend, rCat, rSetL, gSub,
  L2.start, List.map_cons, List.map_nil, List.length_cons, List.length_nil, Nat.reduceAdd, Nat.reduceSub, List.replicate_succ, List.replicate_zero, List.cons_append, List.nil_append, List.append_nil,
  List.getElem?_cons_zero, List.getElem?_cons_succ, List.set_cons_zero, List.set_cons_succ, Option.some.injEq, exists_eq_left, exists_eq_left', exists_eq_right, exists_eq_right', V.int.injEq, V.bl.injEq, V.str.injEq, V.ref.injEq, List.cons.injEq, true_and, and_true, and_assoc, exists_and_left, decide_eq_true_eq, Bool.false_eq_true, if_true, if_false, ite_true, ite_false, reduceIte, reduceCtorEq])

section
variable {P : Program} {w : World} {K : PySem.W.Frag} {mg : Str → Option Value} {base : Heap} {A : Ads}
abbrev s_is_digit : Stmt := top 25
theorem sc_is_digit : FnScope ["unit"] ["unit"] (defScope s_is_digit) := ⟨rfl, rfl, rfl, by decide +kernel, rfl, by decide +kernel, by decide +kernel⟩
theorem ok_is_digit (T : Top K mg A) (D : DefAt K mg "is_digit" s_is_digit ["unit"]) : Fn P w K mg base CX0 1 "is_digit" ["unit"] sp_is_digit := by
  refine D.ok sc_is_digit (fun vs H Q E h => ?_) (fun f cdv A outer s H vs Q E hr h => ?_)
  · obtain ⟨i, rfl, _⟩ := h
    rfl
  · obtain ⟨i, rfl, q⟩ := h
    refine ⟨_, (pss_one (ps_ret (pe_chain op_le op_le pe_int (pv 0) pe_int))), ?_⟩
    walk_at "rd"
    by_cases h1 : 48 ≤ i
    · rw [if_pos h1]
      have e : digB i = decide (i ≤ 57) := by unfold digB; rw [Bool.eq_iff_iff]; simp; omega
      rw [← e]
      exact q
    · rw [if_neg h1]
      have e : digB i = false := by unfold digB; simp; omega
      rw [← e]
      exact q
abbrev s_is_letter : Stmt := top 24
theorem sc_is_letter : FnScope ["unit"] ["unit"] (defScope s_is_letter) := ⟨rfl, rfl, rfl, by decide +kernel, rfl, by decide +kernel, by decide +kernel⟩
theorem ok_is_letter (T : Top K mg A) (D : DefAt K mg "is_letter" s_is_letter ["unit"]) : Fn P w K mg base CX0 1 "is_letter" ["unit"] sp_is_letter := by
  refine D.ok sc_is_letter (fun vs H Q E h => ?_) (fun f cdv A outer s H vs Q E hr h => ?_)
  · obtain ⟨i, rfl, _⟩ := h
    rfl
  · obtain ⟨i, rfl, q⟩ := h
    refine ⟨_, (pss_one (ps_ret (pe_or (pe_chain op_le op_le pe_int (pv 0) pe_int) (pe_one (pe_chain op_le op_le pe_int (pv 0) pe_int))))), ?_⟩
    walk_at "rd"
    have go : ∀ b : Bool, (b = true ↔ (97 ≤ i ∧ i ≤ 122) ∨ (65 ≤ i ∧ i ≤ 90)) → Q (.bl b) H := fun b hb => by
      have e : letB i = b := by unfold letB; rw [Bool.eq_iff_iff, decide_eq_true_eq]; exact hb.symm
      rw [← e]
      exact q
    by_cases h1 : 97 ≤ i
    · rw [if_pos h1]
      by_cases h2 : i ≤ 122
      · rw [if_pos h2]
        exact go _ (by simp; omega)
      · rw [if_neg h2]
        by_cases h3 : 65 ≤ i
        · rw [if_pos h3]
          exact go _ (by simp; omega)
        · rw [if_neg h3]
          exact go _ (by simp; omega)
    · rw [if_neg h1]
      by_cases h3 : 65 ≤ i
      · rw [if_pos h3]
        exact go _ (by simp; omega)
      · rw [if_neg h3]
        exact go _ (by simp; omega)
theorem tx_at {xs : List V} {u : Units} {i : Int} {c : UInt16} (e : xs = U u) (h0 : 0 ≤ i) (h : u[i.toNat]? = some c) : atI xs i = some (.int (c.toNat : Int)) := by
  rw [e]
  exact at_of (j := i.toNat) (by omega) (U_get h)
theorem while_scan {c : TT} {tb : TS} {D : Ends} (R : Hp → Hp → Prop) (rr : ∀ H, R H H) (rt : ∀ H1 H2 H3, R H1 H2 → R H2 H3 → R H1 H3) (σ0 : Int → L2.St) {H : Hp} {u : Units} {f : UInt16 → Bool} {i : Int} (h0 : 0 ≤ i)
    (hc : ∀ (k : Int) (H1 : Hp) (Q : Bool → Hp → Prop), i ≤ k → R H H1 → ((∃ c, u[k.toNat]? = some c ∧ f c = true) → ∀ H2, R H1 H2 → Q true H2) → ((¬ ∃ c, u[k.toNat]? = some c ∧ f c = true) → ∀ H2, R H1 H2 → Q false H2) → c (σ0 k) H1 Q)
    (hb : ∀ (k : Int) (D' : Ends) (H1 : Hp), i ≤ k → D'.nx (σ0 (k + 1)) H1 → tb D' (σ0 k) H1)
    (q : ∀ H1, R H H1 → D.nx (σ0 (i + prefixLength f (u.drop i.toNat))) H1) : tWhile c tb D (σ0 i) H := by
  refine ⟨fun m σ H' => ∃ k : Nat, m = prefixLength f (u.drop (i.toNat + k)) ∧ σ = σ0 (i + k) ∧ R H H' ∧ prefixLength f (u.drop i.toNat) = k + prefixLength f (u.drop (i.toNat + k)), ⟨_, 0, rfl, by simp, rr H, by simp⟩, ?_⟩
  rintro m σ H' ⟨k, rfl, rfl, hR, hk⟩
  have ek : (i + (k : Int)).toNat = i.toNat + k := by omega
  refine hc _ _ _ (by omega) hR (fun y H2 hR2 => ?_) fun n H2 hR2 => ?_
  · rw [if_pos rfl]
    rw [ek] at y
    have e := Law.pl_if y
    refine ⟨fun s h => s = σ0 (i + k + 1) ∧ R H h, fun s h ⟨e1, e2⟩ => ⟨_, ?_, k + 1, rfl, ?_, e2, ?_⟩, hb _ _ _ (by omega) ⟨rfl, rt _ _ _ hR hR2⟩⟩
    · rw [e]; exact Nat.lt_succ_self _
    · rw [e1]
      congr 1
      omega
    · rw [hk, e, Nat.add_assoc i.toNat k 1]
      omega
  · rw [if_neg Bool.false_ne_true]
    rw [ek] at n
    have e := Law.pl_ifn n
    rw [hk, e] at q
    exact q H2 (rt _ _ _ hR hR2)
abbrev s_unit_at : Stmt := top 26
theorem sc_unit_at : FnScope ["text", "at"] ["text", "at"] (defScope s_unit_at) := ⟨rfl, rfl, rfl, by decide +kernel, rfl, by decide +kernel, by decide +kernel⟩
theorem ok_unit_at (T : Top K mg A) (D : DefAt K mg "unit_at" s_unit_at ["text", "at"]) : Fn P w K mg base CX0 1 "unit_at" ["text", "at"] sp_unit_at := by
  refine D.ok sc_unit_at (fun vs H Q E h => ?_) (fun f cdv A outer s H vs Q E hr h => ?_)
  · obtain ⟨a, i, rfl, _⟩ := h
    rfl
  · obtain ⟨a, i, rfl, u, hu, h0, q⟩ := h
    refine ⟨_, (pss_one (ps_ret (pe_ifExp (pt_cmpR op_lt (pv 1) (pe_callB call_len_seq (by rfl) T.n_len PySem.boot_len (pa_cons (pv 0) pa_nil)) (nomark _)) (pe_ix ix_tup (pv 0) (pv 1) (fun _ _ => rfl)) (pe_un un_neg pe_int)))), ?_⟩
    walk_at "rd"
    refine ⟨U u, .inr (SqT.of hu), ?_⟩
    rw [U_len]
    by_cases h1 : i < u.length
    · rw [if_pos h1]
      obtain ⟨c, hc⟩ : ∃ c, u[i.toNat]? = some c := ⟨_, List.getElem?_eq_getElem (by omega)⟩
      rw [Law.uAt_some hc] at q
      exact ⟨U u, SqT.of hu, _, tx_at rfl h0 hc, q⟩
    · rw [if_neg h1]
      rw [Law.uAt_none (List.getElem?_eq_none (by omega))] at q
      exact q
abbrev s_digits_end : Stmt := top 27
theorem sc_digits_end : FnScope ["text", "at"] ["text", "at"] (defScope s_digits_end) := ⟨rfl, rfl, rfl, by decide +kernel, rfl, by decide +kernel, by decide +kernel⟩
theorem ok_digits_end (T : Top K mg A) (D : DefAt K mg "digits_end" s_digits_end ["text", "at"]) (C_is_digit : Fn P w K mg base CX0 1 "is_digit" ["unit"] sp_is_digit) (C_unit_at : Fn P w K mg base CX0 1 "unit_at" ["text", "at"] sp_unit_at) :
    Fn P w K mg base CX0 2 "digits_end" ["text", "at"] sp_digits_end := by
  refine D.ok sc_digits_end (fun vs H Q E h => ?_) (fun f cdv A outer s H vs Q E hr h => ?_)
  · obtain ⟨a, i, rfl, _⟩ := h
    rfl
  · obtain ⟨a, i, rfl, u, hu, h0, q⟩ := h
    refine ⟨_, (pss_cons (ps_while PassesOwn.never (pt_val (pe_f C_is_digit hr (by first | decide | omega) (pa_cons (pe_f C_unit_at hr (by first | decide | omega) (pa_cons (pv 0) (pa_cons (pv 1) pa_nil))) pa_nil))) (pss_one (ps_aug (i := 1) sc_digits_end.nd rfl (.inl rfl) pe_int ip_add)))
      (pss_one (ps_ret (pv 1)))), ?_⟩
    refine while_scan (f := R7253e.Spec.isDigit) (u := u) Eq (fun _ => rfl) (fun _ _ _ => Eq.trans) (fun x => [some (.ref a), some (.int x)]) h0 (fun k H1 Q1 hk e y n => ?_) (fun k D' H1 hk q1 => ?_) (fun H1 e => ?_)
    · subst e
      walk_at "rd"
      refine ⟨u, hu, by omega, ?_⟩
      cases hd : digB (uAt u k.toNat) with
      | true => exact y ((Law.digB_at u _).mp hd) _ rfl
      | false => exact n (fun z => by rw [(Law.digB_at u _).mpr z] at hd; cases hd) _ rfl
    · walk_at "rd"
      exact q1
    · subst e
      walk_at "rd"
      exact q
abbrev s_word_end : Stmt := top 28
theorem sc_word_end : FnScope ["text", "at"] ["text", "at"] (defScope s_word_end) := ⟨rfl, rfl, rfl, by decide +kernel, rfl, by decide +kernel, by decide +kernel⟩
theorem ok_word_end (T : Top K mg A) (D : DefAt K mg "word_end" s_word_end ["text", "at"]) (C_is_letter : Fn P w K mg base CX0 1 "is_letter" ["unit"] sp_is_letter) (C_is_digit : Fn P w K mg base CX0 1 "is_digit" ["unit"] sp_is_digit) (C_unit_at : Fn P w K mg base CX0 1 "unit_at" ["text", "at"] sp_unit_at) :
    Fn P w K mg base CX0 2 "word_end" ["text", "at"] sp_word_end := by
  refine D.ok sc_word_end (fun vs H Q E h => ?_) (fun f cdv A outer s H vs Q E hr h => ?_)
  · obtain ⟨a, i, rfl, _⟩ := h
    rfl
  · obtain ⟨a, i, rfl, u, hu, h0, q⟩ := h
    refine ⟨_, (pss_cons (ps_while PassesOwn.never (PW.pt (pw_or (pt_val (pe_f C_is_letter hr (by first | decide | omega) (pa_cons (pe_f C_unit_at hr (by first | decide | omega) (pa_cons (pv 0) (pa_cons (pv 1) pa_nil))) pa_nil))) (pw_or1 (pt_val (pe_f C_is_digit hr (by first | decide | omega) (pa_cons (pe_f C_unit_at hr (by first | decide | omega) (pa_cons (pv 0) (pa_cons (pv 1) pa_nil))) pa_nil)))))) (pss_one (ps_aug (i := 1) sc_word_end.nd rfl (.inl rfl) pe_int ip_add)))
      (pss_one (ps_ret (pv 1)))), ?_⟩
    refine while_scan (f := R7253e.Spec.isIdentifierPart) (u := u) Eq (fun _ => rfl) (fun _ _ _ => Eq.trans) (fun x => [some (.ref a), some (.int x)]) h0 (fun k H1 Q1 hk e y n => ?_) (fun k D' H1 hk q1 => ?_) (fun H1 e => ?_)
    · subst e
      walk_at "rd"
      refine ⟨u, hu, by omega, ?_⟩
      by_cases hl : letB (uAt u k.toNat) = true
      · rw [if_pos hl]
        obtain ⟨c, hc, hl⟩ := (Law.letB_at u _).mp hl
        exact y ⟨c, hc, by unfold R7253e.Spec.isIdentifierPart; rw [hl]; rfl⟩ _ rfl
      · rw [if_neg hl]
        refine ⟨u, hu, by omega, ?_⟩
        cases hd : digB (uAt u k.toNat) with
        | true =>
          obtain ⟨c, hc, hd⟩ := (Law.digB_at u _).mp hd
          exact y ⟨c, hc, by unfold R7253e.Spec.isIdentifierPart; rw [hd, Bool.or_true]⟩ _ rfl
        | false =>
          refine n (fun ⟨c, hc, hp⟩ => ?_) _ rfl
          unfold R7253e.Spec.isIdentifierPart at hp
          rcases Bool.or_eq_true_iff.mp hp with z | z
          · exact hl ((Law.letB_at u _).mpr ⟨c, hc, z⟩)
          · rw [(Law.digB_at u _).mpr ⟨c, hc, z⟩] at hd
            cases hd
    · walk_at "rd"
      exact q1
    · subst e
      walk_at "rd"
      exact q
abbrev s_number_end : Stmt := top 29
theorem sc_number_end : FnScope ["text", "at", "end"] ["text", "at"] (defScope s_number_end) := ⟨rfl, rfl, rfl, by decide +kernel, rfl, by decide +kernel, by decide +kernel⟩
theorem ok_number_end (T : Top K mg A) (D : DefAt K mg "number_end" s_number_end ["text", "at"]) (C_is_digit : Fn P w K mg base CX0 1 "is_digit" ["unit"] sp_is_digit) (C_unit_at : Fn P w K mg base CX0 1 "unit_at" ["text", "at"] sp_unit_at)
    (C_digits_end : Fn P w K mg base CX0 2 "digits_end" ["text", "at"] sp_digits_end) : Fn P w K mg base CX0 3 "number_end" ["text", "at"] sp_number_end := by
  refine D.ok sc_number_end (fun vs H Q E h => ?_) (fun f cdv A outer s H vs Q E hr h => ?_)
  · obtain ⟨a, i, rfl, _⟩ := h
    rfl
  · obtain ⟨a, i, rfl, u, hu, h0, q⟩ := h
    refine ⟨_, (pss_cons (ps_set (i := 2) sc_number_end.nd rfl (.inl rfl) (pe_f C_digits_end hr (by first | decide | omega) (pa_cons (pv 0) (pa_cons (pv 1) pa_nil))))
      (pss_cons (ps_if (PW.pt (pw_and (pt_cmpR op_eq (pe_f C_unit_at hr (by first | decide | omega) (pa_cons (pv 0) (pa_cons (pv 2) pa_nil))) (C8.pe_gc (by rfl) T.g_POINT) (nomark _)) (pw_and1 (pt_val (pe_f C_is_digit hr (by first | decide | omega) (pa_cons (pe_f C_unit_at hr (by first | decide | omega) (pa_cons (pv 0) (pa_cons (pe_op op_add (pv 2) pe_int) pa_nil))) pa_nil)))))) (pss_one (ps_ret (pe_f C_digits_end hr (by first | decide | omega) (pa_cons (pv 0) (pa_cons (pe_op op_add (pv 2) pe_int) pa_nil))))) pss_nil)
      (pss_one (ps_ret (pv 2))))), ?_⟩
    walk_at "rd"
    generalize hn : prefixLength R7253e.Spec.isDigit (u.drop i.toNat) = n
    have hq : numLen (u.drop i.toNat) = if u[i.toNat + n]? = some 46 then (if prefixLength R7253e.Spec.isDigit (u.drop (i.toNat + n + 1)) = 0 then n else n + 1 + prefixLength R7253e.Spec.isDigit (u.drop (i.toNat + n + 1))) else n := by
      unfold numLen
      rw [hn, List.drop_drop, List.drop_drop, Law.head_get]
    rw [hq] at q
    refine ⟨u, hu, h0, u, hu, by omega, ?_⟩
    rw [hn, show (i + (n : Int)).toNat = i.toNat + n by omega]
    by_cases h46 : uAt u (i.toNat + n) = 46
    · rw [if_pos h46]
      rw [if_pos (show u[i.toNat + n]? = some 46 from (Law.uAt_eq u _ 46 (by decide)).mp h46)] at q
      refine ⟨u, hu, by omega, ?_⟩
      rw [show (i + (n : Int) + 1).toNat = i.toNat + n + 1 by omega]
      by_cases hd : digB (uAt u (i.toNat + n + 1)) = true
      · rw [if_pos hd]
        have e := Law.pl_if ((Law.digB_at u _).mp hd)
        rw [if_neg (by rw [e]; omega)] at q
        refine ⟨u, hu, by omega, ?_⟩
        rw [show i + (n : Int) + 1 + (prefixLength R7253e.Spec.isDigit (u.drop (i.toNat + n + 1)) : Nat) = i + ((n + 1 + prefixLength R7253e.Spec.isDigit (u.drop (i.toNat + n + 1)) : Nat) : Int) by omega]
        exact q
      · rw [if_neg hd]
        have e := Law.pl_ifn fun z => hd ((Law.digB_at u _).mpr z)
        rw [if_pos e] at q
        exact q
    · rw [if_neg h46]
      rw [if_neg fun (z : u[i.toNat + n]? = some 46) => h46 ((Law.uAt_eq u _ 46 (by decide)).mpr z)] at q
      exact q
end
end Tk
end
section
set_option Elab.async false
set_option linter.all false
set_option maxRecDepth 100000
set_option maxHeartbeats 2000000
/-! The walk, part 2: text_of; words, signs, tokens. -/
namespace Tk
open PySem PySem.Spec PyProof.Rows L2
open Law (uAt letB digB numLen strEnd)
open R7253e.Spec (prefixLength stringEnd readToken keywordKind symbolKind operatorKind kindName RawToken scan nestingOk)
def sp_text_of : Sp := fun vs H Q _ => ∃ (z : Str), vs = [.str z] ∧ z.cps.size ≤ sizeLine ∧ ∃ G, Same G H ∧ ∀ p G' H', Grow Sno G H G' H' → G' p = some (.tup (codes z)) → Q (.ref p) H'
def sp_word_kind : Sp := fun vs H Q _ => ∃ (a : Addr), vs = [.ref a] ∧ ∃ (u : Units), Tx H a u ∧ u.length ≤ 600 ∧ ∀ H', Same H H' → Q (.str (kn (keywordKind u))) H'
/-- a token as the tokenizer tells it -/
def rawV (k p e : Nat) : List V := [.str (kn k), .int (p : Int), .int (e : Int)]
def sp_sign_at : Sp := fun vs H Q _ => ∃ (a : Addr) (i : Int), vs = [.ref a, .int i] ∧ ∃ (u : Units) (c : UInt16) (r : Units) (j : Nat) (G : Hp), Same G H ∧ Tx G a u ∧ i = j ∧ u.drop j = c :: r ∧ ¬ c = 32 ∧ ¬ c = 10 ∧ ¬ c = 35 ∧ R7253e.Spec.isLetter c = false ∧ R7253e.Spec.isDigit c = false ∧ ¬ c = 34 ∧
  ∀ p G' H', Grow Sno G H G' H' → G' p = some (.tup (rawV (readToken (c :: r)).1 j (j + (readToken (c :: r)).2.1))) → Q (.ref p) H'
def sp_token_at : Sp := fun vs H Q _ => ∃ (a : Addr) (i : Int), vs = [.ref a, .int i] ∧ ∃ (u : Units) (j : Nat) (G : Hp), Same G H ∧ Tx G a u ∧ i = j ∧ j < u.length ∧ u.length ≤ 600 ∧
  ∀ p G' H', Grow Sno G H G' H' → G' p = some (.tup (rawV (readToken (u.drop j)).1 j (j + (readToken (u.drop j)).2.1))) → Q (.ref p) H'
local macro_rules | `(tactic| walk_at "rd") => `(tactic| simp only [sp_is_letter, sp_is_digit, sp_unit_at, sp_digits_end, sp_word_end, sp_number_end, sp_string_end, sp_text_of, sp_word_kind, sp_sign_at, sp_token_at, cxK, cxNK, cxNN, cxHK, tRet, tRetN, tChain, tC, tVar, rI0, rI, tOp, tUn, rU, tIf, tTest, tB, tNot, tAnd, tOr, tAndV, tOrV, tNotV, tCB, tCons, tNil, tNext, tSeq, tIfS, tDrop, tAsg, gName, tPar, tPar3, tAug, ipI, tCall, tCallS, E0, rEq, rNe, scal, rIxT, rIxL,  tTup, tLst, gTup, gCons, gNil, iTup, iList, iStr, iRng1, wipe, tSl, tPart, tNoPart, rIn,  tFld, sFld, sFldAug, tMeth, tMake, rAdd, tYes, tBM, rAppend, rExtend, rCat, rSetL, gSub,
  L2.start, List.map_cons, List.map_nil, List.length_cons, List.length_nil, Nat.reduceAdd, Nat.reduceSub, List.replicate_succ, List.replicate_zero, List.cons_append, List.nil_append, List.append_nil,
  List.getElem?_cons_zero, List.getElem?_cons_succ, List.set_cons_zero, List.set_cons_succ, Option.some.injEq, exists_eq_left, exists_eq_left', exists_eq_right, exists_eq_right', V.int.injEq, V.bl.injEq, V.str.injEq, V.ref.injEq, List.cons.injEq, true_and, and_true, and_assoc, exists_and_left, decide_eq_true_eq, Bool.false_eq_true, if_true, if_false, ite_true, ite_false, reduceIte, reduceCtorEq])

section
variable {P : Program} {w : World} {K : PySem.W.Frag} {mg : Str → Option Value} {base : Heap} {A : Ads}
abbrev s_text_of : Stmt := top 7
theorem sc_text_of : FnScope ["words", "sign"] ["words"] (defScope s_text_of) := ⟨rfl, rfl, rfl, by decide +kernel, rfl, by decide +kernel, by decide +kernel⟩
theorem ok_text_of (T : Top K mg A) (D : DefAt K mg "text_of" s_text_of ["words"]) : Fn P w K mg base CX0 1 "text_of" ["words"] sp_text_of := by
  refine D.ok sc_text_of (fun vs H Q E h => ?_) (fun f cdv A outer s H vs Q E hr h => ?_)
  · obtain ⟨z, rfl, _⟩ := h
    rfl
  · obtain ⟨z, rfl, hz, G, hG, q⟩ := h
    refine ⟨_, (pss_one (ps_ret (pe_callTy call_tuple_of (by rfl) T.n_tuple (by decide +kernel) (pa_cons (pe_lc (own := [("sign", 1)]) (g := (gName 1)) rfl sc_text_of.nd (pi_str (pv 0)) (blkOk_by (N := ["words", "sign"]) (sc := defScope s_text_of) (by decide +kernel)) (fun _ _ _ _ _ => (pg_name (i := 1) sc_text_of.nd rfl (Or.inl rfl))) (fun _ _ _ _ _ => pts_nil) (fun _ _ _ _ _ => (pe_callB call_ord (by rfl) T.n_ord (by decide +kernel) (pa_cons (pv 1) pa_nil)))) pa_nil)))), ?_⟩
    walk_at "rd"
    refine ⟨_, rfl, z, rfl, fun D hD => lc_pure walk_str (fun i => .int ((z.cps.getD i 0 : Nat) : Int)) hz (fun _ => True.intro) (fun i x acc H' Qe hi ⟨e, c, hc, ex⟩ qe => ?_) ?_⟩
    · subst e ex
      refine ⟨rfl, ?_⟩
      walk_at "rd"
      refine ⟨rfl, ?_⟩
      have e1 : (#[c] : Array Nat).getD 0 0 = z.cps.getD i 0 := by
        rw [Array.getD_eq_getD_getElem?, Array.getD_eq_getD_getElem?, hc]
        rfl
      rw [e1]
      exact qe
    · have e : (List.range z.cps.size).map (fun i => V.int ((z.cps.getD i 0 : Nat) : Int)) = codes z := by
        have e1 : z.cps.size = (codes z).length := by unfold codes; rw [List.length_map]; exact Array.length_toList.symm
        rw [e1]
        refine range_map fun i x hx => ?_
        unfold codes at hx
        rw [List.getElem?_map, Array.getElem?_toList] at hx
        cases hc : z.cps[i]? with
        | none => rw [hc] at hx; cases hx
        | some c =>
          rw [hc] at hx
          rw [Array.getD_eq_getD_getElem?, hc]
          exact Option.some.inj hx
      rw [e]
      refine ⟨D, rfl, codes z, .inl ⟨SqL.of upd_same, fun l hl => ?_⟩⟩
      exact q l _ _ (((Grow.refl hG).tmp hD).new hl) upd_same
def kwl : List String := ["let", "set", "fn", "if", "else", "while", "return"]
theorem kw_codes : ∀ s ∈ kwl, codes (Str.ofString s) = U (R7253e.Spec.units s) ∧ (Str.ofString s).cps.size ≤ 10 ∧ Str.ofString s = kn (keywordKind (R7253e.Spec.units s)) := by
  unfold kwl
  simp only [List.forall_mem_cons, List.not_mem_nil, false_imp_iff, implies_true, and_true]
  refine ⟨⟨?_, ?_, ?_⟩, ⟨?_, ?_, ?_⟩, ⟨?_, ?_, ?_⟩, ⟨?_, ?_, ?_⟩, ⟨?_, ?_, ?_⟩, ⟨?_, ?_, ?_⟩, ⟨?_, ?_, ?_⟩⟩ <;> decide +kernel
theorem kw_none {u : Units} (h : ∀ s ∈ kwl, ¬ u = R7253e.Spec.units s) : keywordKind u = 4 := by
  rw [Law.keyword_eq, if_neg (h "let" (by decide)), if_neg (h "set" (by decide)), if_neg (h "fn" (by decide)), if_neg (h "if" (by decide)), if_neg (h "else" (by decide)), if_neg (h "while" (by decide)), if_neg (h "return" (by decide))]
abbrev s_word_kind : Stmt := top 31
theorem sc_word_kind : FnScope ["word", "keyword"] ["word"] (defScope s_word_kind) := ⟨rfl, rfl, rfl, by decide +kernel, rfl, by decide +kernel, by decide +kernel⟩
theorem ok_word_kind (T : Top K mg A) (D : DefAt K mg "word_kind" s_word_kind ["word"]) (C_text_of : Fn P w K mg base CX0 1 "text_of" ["words"] sp_text_of) : Fn P w K mg base CX0 2 "word_kind" ["word"] sp_word_kind := by
  refine D.ok sc_word_kind (fun vs H Q E h => ?_) (fun f cdv A outer s H vs Q E hr h => ?_)
  · obtain ⟨a, rfl, _⟩ := h
    rfl
  · obtain ⟨a, rfl, u, hu, hl, q⟩ := h
    refine ⟨_, (pss_cons (ps_for PassesOwn.never rfl (pi_tup (C8.pe_gc (by rfl) T.g_KEYWORDS)) (pg_name (i := 1) sc_word_kind.nd rfl (Or.inl rfl)) (pss_one (ps_if (pt_cmpR (op_eqD hr.units) (pv 0) (pe_f C_text_of hr (by first | decide | omega) (pa_cons (pv 1) pa_nil)) (nomark _)) (pss_one (ps_ret (pv 1))) pss_nil)))
      (pss_one (ps_ret pe_str))), ?_⟩
    have esq : ∀ H', SqT K H' _ (kwl.map fun s => V.str (Str.ofString s)) := T.sq_KEYWORDS
    refine ⟨_, rfl, ⟨_, esq H⟩, for_tup (xs := kwl.map fun s => V.str (Str.ofString s)) (fun i σ H' => ∃ v, σ = [some (.ref a), v] ∧ Same H H' ∧ ∀ s ∈ kwl.take i, ¬ u = R7253e.Spec.units s) ⟨none, rfl, Same.refl H, fun s hs => by cases hs⟩ (fun i σ H' _ _ => esq H') ?_ ?_⟩
    · rintro i x σ H' hx ⟨v, rfl, hS, hn⟩
      rw [List.getElem?_map] at hx
      obtain ⟨k, hk, ex⟩ := Option.map_eq_some_iff.mp hx
      subst ex
      obtain ⟨k1, k2, k3⟩ := kw_codes k (List.mem_of_getElem? hk)
      walk_at "rd"
      refine ⟨by have : (10 : Nat) ≤ sizeLine := by decide
                 omega, H', Same.refl H', fun p G' H'' hg hp => ?_⟩
      rw [k1] at hp
      refine ⟨_, _, .tup (SqT.of (hg.same _ _ (hS _ _ hu))) (dp_U u), .tup (SqT.of (hg.s _ _ hp)) (dp_U _), shaped_U _, shaped_U _, ?_⟩
      rw [PyData.eqv, eqv_U]
      walk_at "rd"
      by_cases he : u = R7253e.Spec.units k
      · rw [if_pos he]
        have := q H'' (hS.trans hg.same)
        rw [he, ← k3] at this
        exact this
      · rw [if_neg he]
        refine ⟨hS.trans hg.same, fun s hs => ?_⟩
        rw [List.take_succ, hk] at hs
        rcases List.mem_append.mp hs with hs | hs
        · exact hn s hs
        · have : s = k := by simpa using hs
          rw [this]
          exact he
    · rintro σ H' ⟨v, rfl, hS, hn⟩
      have := q H' hS
      rw [kw_none (u := u) hn] at this
      exact this
abbrev s_string_end : Stmt := top 30
theorem sc_string_end : FnScope ["text", "at"] ["text", "at"] (defScope s_string_end) := ⟨rfl, rfl, rfl, by decide +kernel, rfl, by decide +kernel, by decide +kernel⟩
theorem ok_string_end (T : Top K mg A) (D : DefAt K mg "string_end" s_string_end ["text", "at"]) (C_unit_at : Fn P w K mg base CX0 1 "unit_at" ["text", "at"] sp_unit_at) :
    Fn P w K mg base CX0 2 "string_end" ["text", "at"] sp_string_end := by
  refine D.ok sc_string_end (fun vs H Q E h => ?_) (fun f cdv A outer s H vs Q E hr h => ?_)
  · obtain ⟨a, i, rfl, _⟩ := h
    rfl
  · obtain ⟨a, i, rfl, u, hu, h0, q⟩ := h
    refine ⟨_, (pss_cons (ps_while PassesOwn.never (pt_cmpR op_lt (pv 1) (pe_callB call_len_seq (by rfl) T.n_len PySem.boot_len (pa_cons (pv 0) pa_nil)) (nomark _)) (pss_one (ps_if (pt_cmpR op_ne (pe_ix ix_tup (pv 0) (pv 1) (fun _ _ => rfl)) (C8.pe_gc (by rfl) T.g_MARK) (nomark _)) (pss_one (ps_aug (i := 1) sc_string_end.nd rfl (.inl rfl) pe_int ip_add)) (pss_one (ps_if (pt_cmpR op_eq (pe_f C_unit_at hr (by first | decide | omega) (pa_cons (pv 0) (pa_cons (pe_op op_add (pv 1) pe_int) pa_nil))) (C8.pe_gc (by rfl) T.g_MARK) (nomark _)) (pss_one (ps_aug (i := 1) sc_string_end.nd rfl (.inl rfl) pe_int ip_add)) (pss_one (ps_ret (pe_op op_add (pv 1) pe_int))))))))
      (pss_one (ps_ret (pe_un un_neg pe_int)))), ?_⟩
    refine ⟨fun m σ H' => ∃ k : Int, i ≤ k ∧ m = (u.length - k.toNat) ∧ σ = [some (.ref a), some (.int k)] ∧ H' = H ∧ strEnd u i = strEnd u k, ⟨_, i, Int.le_refl _, rfl, rfl, rfl, rfl⟩, ?_⟩
    rintro m σ H' ⟨k, hk, rfl, rfl, rfl, he⟩
    walk_at "rd"
    refine ⟨U u, .inr (SqT.of hu), ?_⟩
    rw [U_len]
    by_cases h1 : k < u.length
    · rw [if_pos h1]
      obtain ⟨c, hc⟩ : ∃ c, u[k.toNat]? = some c := ⟨_, List.getElem?_eq_getElem (by omega)⟩
      have again : ∀ n : Int, 1 ≤ n → strEnd u k = strEnd u (k + n) → ∃ m', m' < u.length - k.toNat ∧ ∃ k1 : Int, i ≤ k1 ∧ m' = u.length - k1.toNat ∧ k + n = k1 ∧ strEnd u i = strEnd u k1 :=
        fun n hn e => ⟨u.length - (k + n).toNat, by omega, k + n, by omega, rfl, rfl, he.trans e⟩
      refine ⟨fun σ' H'' => ∃ m', m' < u.length - k.toNat ∧ ∃ k : Int, i ≤ k ∧ m' = u.length - k.toNat ∧ σ' = [some (.ref a), some (.int k)] ∧ H'' = H' ∧ strEnd u i = strEnd u k, fun _ _ z => z, U u, SqT.of hu, _, tx_at rfl (by omega) hc, ?_⟩
      walk_at "rd"
      by_cases h34 : c = 34
      · subst h34
        rw [if_neg (by decide)]
        refine ⟨u, hu, by omega, ?_⟩
        rw [show (k + 1).toNat = k.toNat + 1 by omega]
        by_cases h2 : u[k.toNat + 1]? = some 34
        · rw [if_pos (show uAt u (k.toNat + 1) = 34 from (Law.uAt_eq u _ 34 (by decide)).mpr h2)]
          exact again 2 (by omega) (Law.str_two (by omega) hc h2)
        · rw [if_neg fun (z : uAt u (k.toNat + 1) = 34) => h2 ((Law.uAt_eq u _ 34 (by decide)).mp z)]
          rw [he, Law.str_one (by omega) hc h2] at q
          exact q
      · have hn : ¬ (c.toNat : Int) = 34 := fun z => h34 ((Law.c_eq c 34 (by decide)).mp z)
        rw [if_pos (by simpa using hn)]
        exact again 1 (by omega) (Law.str_other (by omega) hc h34)
    · rw [if_neg h1]
      rw [he, Law.str_none (List.getElem?_eq_none (by omega))] at q
      exact q
def sgl : List Nat := [43, 45, 42, 47, 40, 41, 123, 125, 44, 59]
theorem sg_kn : ∀ n ∈ sgl, (⟨#[n]⟩ : Str) = kn (symbolKind (UInt16.ofNat n)) := by
  unfold sgl
  simp only [List.forall_mem_cons, List.not_mem_nil, false_imp_iff, implies_true, and_true]
  refine ⟨?_, ?_, ?_, ?_, ?_, ?_, ?_, ?_, ?_, ?_⟩ <;> decide +kernel
theorem sg_none {c : UInt16} (h : ∀ n ∈ sgl, ¬ c = UInt16.ofNat n) : symbolKind c = 8 := by
  unfold symbolKind
  rw [if_neg (show ¬ c = 43 from h 43 (by decide)), if_neg (show ¬ c = 45 from h 45 (by decide)), if_neg (show ¬ c = 42 from h 42 (by decide)), if_neg (show ¬ c = 47 from h 47 (by decide)), if_neg (show ¬ c = 40 from h 40 (by decide)), if_neg (show ¬ c = 41 from h 41 (by decide)), if_neg (show ¬ c = 123 from h 123 (by decide)), if_neg (show ¬ c = 125 from h 125 (by decide)), if_neg (show ¬ c = 44 from h 44 (by decide)), if_neg (show ¬ c = 59 from h 59 (by decide))]
theorem take_one {α : Type} {l : List α} {i : Nat} {x : α} (h : l[i]? = some x) : l.take (i + 1) = l.take i ++ [x] := by
  rw [List.take_succ, h]
  rfl
abbrev s_sign_at : Stmt := top 33
theorem sc_sign_at : FnScope ["text", "at", "sign"] ["text", "at"] (defScope s_sign_at) := ⟨rfl, rfl, rfl, by decide +kernel, rfl, by decide +kernel, by decide +kernel⟩
theorem ok_sign_at (T : Top K mg A) (D : DefAt K mg "sign_at" s_sign_at ["text", "at"]) (C_unit_at : Fn P w K mg base CX0 1 "unit_at" ["text", "at"] sp_unit_at) :
    Fn P w K mg base CX0 2 "sign_at" ["text", "at"] sp_sign_at := by
  refine D.ok sc_sign_at (fun vs H Q E h => ?_) (fun f cdv A outer s H vs Q E hr h => ?_)
  · obtain ⟨a, i, rfl, _⟩ := h
    rfl
  · obtain ⟨a, i, rfl, u, c, r, j, G, hG, hu, rfl, hd, n1, n2, n3, n4, n5, n6, q⟩ := h
    have hc : u[j]? = some c := by rw [← Law.head_get, hd]; rfl
    have hr1 : r.head? = u[j + 1]? := by
      rw [← Law.head_get, ← List.drop_drop, hd]
      rfl
    refine ⟨_, (pss_cons (ps_for PassesOwn.never rfl (pi_tup (pe_tup (pa_cons pe_str (pa_cons pe_str (pa_cons pe_str pa_nil))))) (pg_name (i := 2) sc_sign_at.nd rfl (Or.inl rfl)) (pss_one (ps_if (pt_cmpR op_eq (pe_ix ix_tup (pv 0) (pv 1) (fun _ _ => rfl)) (pe_callB call_ord (by rfl) T.n_ord (by decide +kernel) (pa_cons (pv 2) pa_nil)) (nomark _)) (pss_cons (ps_if (pt_cmpR op_eq (pe_f C_unit_at hr (by first | decide | omega) (pa_cons (pv 0) (pa_cons (pe_op op_add (pv 1) pe_int) pa_nil))) (C8.pe_gc (by rfl) T.g_EQUAL) (nomark _)) (pss_one (ps_ret (pe_tup (pa_cons (pe_op op_add_str (pv 2) pe_str) (pa_cons (pv 1) (pa_cons (pe_op op_add (pv 1) pe_int) pa_nil)))))) pss_nil)
      (pss_one (ps_ret (pe_tup (pa_cons (pe_ifExp (pt_cmpR op_eq (pv 2) pe_str (nomark _)) pe_str (pv 2)) (pa_cons (pv 1) (pa_cons (pe_op op_add (pv 1) pe_int) pa_nil))))))) pss_nil)))
      (pss_cons (ps_for PassesOwn.never rfl (pi_str (C8.pe_gc (by rfl) T.g_SINGLES)) (pg_name (i := 2) sc_sign_at.nd rfl (Or.inl rfl)) (pss_one (ps_if (pt_cmpR op_eq (pe_ix ix_tup (pv 0) (pv 1) (fun _ _ => rfl)) (pe_callB call_ord (by rfl) T.n_ord (by decide +kernel) (pa_cons (pv 2) pa_nil)) (nomark _)) (pss_one (ps_ret (pe_tup (pa_cons (pv 2) (pa_cons (pv 1) (pa_cons (pe_op op_add (pv 1) pe_int) pa_nil)))))) pss_nil)))
      (pss_one (ps_ret (pe_tup (pa_cons pe_str (pa_cons (pv 1) (pa_cons (pe_op op_add (pv 1) pe_int) pa_nil)))))))), ?_⟩
    have ret : ∀ {H1 : Hp} {k e : Nat} (x : V), Grow Sno G H G H1 → x = .str (kn k) → (readToken (c :: r)).1 = k → j + (readToken (c :: r)).2.1 = e → ∀ p, H1 p = none → Q (.ref p) (upd H1 p (.tup [x, .int (j : Int), .int (e : Int)])) := fun x g ex e1 e2 p hp => by
      subst ex e1 e2
      exact q p _ _ (g.new hp) upd_same
    refine ⟨(by show 3 ≤ sizeLine; decide), fun p hp => ⟨p, rfl, ⟨_, SqT.of upd_same⟩, for_tup (K := K) (a := p) (xs := [.str "=", .str "!", .str "<"]) (fun i σ H' => ∃ v, σ = [some (.ref a), some (.int (j : Int)), v] ∧ H' = upd H p (.tup [.str "=", .str "!", .str "<"]) ∧ ∀ n ∈ ([61, 33, 60] : List Nat).take i, ¬ c = UInt16.ofNat n) ⟨none, rfl, rfl, fun s hs => by cases hs⟩ (fun i σ H' _ ⟨_, _, e, _⟩ => by rw [e]; exact SqT.of upd_same) ?_ ?_⟩⟩
    · rintro i x σ H' hx ⟨v, rfl, rfl, hn⟩
      generalize hH1 : upd H p (.tup [.str "=", .str "!", .str "<"]) = H1
      have g1 : Grow Sno G H G H1 := by rw [← hH1]; exact (Grow.refl hG).tmp hp
      have hu1 : Tx H1 a u := g1.s _ _ hu
      have e2 : ((j : Int) + 1).toNat = j + 1 := by omega
      have a61 : (uAt u (j + 1) = 61) ↔ r.head? = some 61 := by rw [hr1]; exact Law.uAt_eq u _ 61 (by decide)
      have one : ∀ (y : Str) (n k l : Nat) (B : Prop), n < 65536 → y.cps.getD 0 0 = n → y ++ Str.ofString "=" = kn k → (if y = Str.ofString "!" then Str.ofString "invalid" else y) = kn l → y.length = 1 → (c = UInt16.ofNat n → readToken (c :: r) = operatorKind r k l) → (¬ c = UInt16.ofNat n → B) →
          (if (c.toNat : Int) = ((y.cps.getD 0 0 : Nat) : Int) then
            ∃ u : Units, Tx H1 a u ∧ 0 ≤ (j : Int) + 1 ∧ (if uAt u ((j : Int) + 1).toNat = 61 then y.length + (Str.ofString "=").length ≤ sizeLine ∧ 3 ≤ sizeLine ∧ ∀ p, H1 p = none → Q (V.ref p) (upd H1 p (HO.tup [V.str (y ++ Str.ofString "="), V.int (j : Int), V.int ((j : Int) + 2)]))
              else if y = Str.ofString "!" then 3 ≤ sizeLine ∧ ∀ p, H1 p = none → Q (V.ref p) (upd H1 p (HO.tup [V.str (Str.ofString "invalid"), V.int (j : Int), V.int ((j : Int) + 1)]))
              else 3 ≤ sizeLine ∧ ∀ p, H1 p = none → Q (V.ref p) (upd H1 p (HO.tup [V.str y, V.int (j : Int), V.int ((j : Int) + 1)])))
          else B) := fun y n k l B hn1 y0 yk yl ylen ye yB => by
        rw [y0]
        by_cases hcn : c = UInt16.ofNat n
        · rw [if_pos ((Law.c_eq c n hn1).mpr hcn)]
          have er := ye hcn
          refine ⟨u, hu1, by omega, ?_⟩
          rw [e2]
          by_cases h61 : uAt u (j + 1) = 61
          · rw [if_pos h61]
            refine ⟨by rw [ylen]; decide, by decide, fun p hp => ?_⟩
            have eo : operatorKind r k l = (k, 2, 2) := if_pos (a61.mp h61)
            rw [yk]
            exact ret (e := j + 2) _ g1 rfl (by rw [er, eo]) (by rw [er, eo]) p hp
          · rw [if_neg h61]
            have eo : operatorKind r k l = (l, 1, 2) := if_neg fun z => h61 (a61.mpr z)
            by_cases hy : y = Str.ofString "!"
            · rw [if_pos hy]
              rw [if_pos hy] at yl
              refine ⟨by decide, fun p hp => ?_⟩
              rw [yl]
              exact ret (e := j + 1) _ g1 rfl (by rw [er, eo]) (by rw [er, eo]) p hp
            · rw [if_neg hy]
              rw [if_neg hy] at yl
              refine ⟨by decide, fun p hp => ?_⟩
              rw [yl]
              exact ret (e := j + 1) _ g1 rfl (by rw [er, eo]) (by rw [er, eo]) p hp
        · rw [if_neg fun z => hcn ((Law.c_eq c n hn1).mp z)]
          exact yB hcn
      match i, hx, hn with
      | 0, hx, hn =>
        cases hx
        walk_at "rd"
        refine ⟨U u, SqT.of hu1, _, tx_at rfl (by omega) hc, ?_⟩
        walk_at "rd"
        refine ⟨by decide, one "=" 61 26 28 _ (by decide) (by decide +kernel) (by decide +kernel) (by decide +kernel) (by decide +kernel) (fun z => ?_) (fun z n hm => ?_)⟩
        · rw [Law.read_sign n1 n2 n3 n4 n5 n6, if_pos (show c = 61 from z)]
        · have e : n = 61 := by simpa using hm
          rw [e]
          exact z
      | 1, hx, hn =>
        cases hx
        have m61 : ¬ c = 61 := hn 61 (by decide)
        walk_at "rd"
        refine ⟨U u, SqT.of hu1, _, tx_at rfl (by omega) hc, ?_⟩
        walk_at "rd"
        refine ⟨by decide, one "!" 33 27 8 _ (by decide) (by decide +kernel) (by decide +kernel) (by decide +kernel) (by decide +kernel) (fun z => ?_) (fun z n hm => ?_)⟩
        · rw [Law.read_sign n1 n2 n3 n4 n5 n6, if_neg m61, if_pos (show c = 33 from z)]
        · have e : n = 61 ∨ n = 33 := by simpa using hm
          rcases e with e | e
          · rw [e]; exact m61
          · rw [e]; exact z
      | 2, hx, hn =>
        cases hx
        have m61 : ¬ c = 61 := hn 61 (by decide)
        have m33 : ¬ c = 33 := hn 33 (by decide)
        walk_at "rd"
        refine ⟨U u, SqT.of hu1, _, tx_at rfl (by omega) hc, ?_⟩
        walk_at "rd"
        refine ⟨by decide, one "<" 60 25 24 _ (by decide) (by decide +kernel) (by decide +kernel) (by decide +kernel) (by decide +kernel) (fun z => ?_) (fun z n hm => ?_)⟩
        · rw [Law.read_sign n1 n2 n3 n4 n5 n6, if_neg m61, if_neg m33, if_pos (show c = 60 from z)]
        · have e : n = 61 ∨ n = 33 ∨ n = 60 := by simpa using hm
          rcases e with e | e | e
          · rw [e]; exact m61
          · rw [e]; exact m33
          · rw [e]; exact z
      | i + 3, hx, _ => cases hx
    · rintro σ H' ⟨v, rfl, rfl, hn⟩
      generalize hH1 : upd H p (.tup [.str "=", .str "!", .str "<"]) = H1
      have g1 : Grow Sno G H G H1 := by rw [← hH1]; exact (Grow.refl hG).tmp hp
      have hu1 : Tx H1 a u := g1.s _ _ hu
      have er : readToken (c :: r) = (symbolKind c, 1, 1) := by
        rw [Law.read_sign n1 n2 n3 n4 n5 n6, if_neg (show ¬ c = 61 from hn 61 (by decide)), if_neg (show ¬ c = 33 from hn 33 (by decide)), if_neg (show ¬ c = 60 from hn 60 (by decide))]
      refine ⟨_, rfl, for_it walk_str (fun i σ H' => ∃ v, σ = [some (.ref a), some (.int (j : Int)), v] ∧ H' = H1 ∧ ∀ n ∈ sgl.take i, ¬ c = UInt16.ofNat n) ⟨v, rfl, rfl, fun s hs => by cases hs⟩ (fun _ _ _ _ _ => True.intro) ?_ ?_⟩
      · rintro i x σ H2 H3 hi ⟨v, rfl, rfl, hm⟩ ⟨rfl, cc, hcc, rfl⟩
        have hs : sgl[i]? = some cc := by
          have e : (Str.ofString "+-*/(){},;").cps = sgl.toArray := by decide +kernel
          rw [e] at hcc
          simpa using hcc
        have hs2 := List.mem_of_getElem? hs
        have lt : cc < 65536 := by
          have : ∀ n ∈ sgl, n < 65536 := by decide
          exact this cc hs2
        walk_at "rd"
        refine ⟨U u, SqT.of hu1, _, tx_at rfl (by omega) hc, ?_⟩
        walk_at "rd"
        refine ⟨rfl, ?_⟩
        rw [show (#[cc] : Array Nat).getD 0 0 = cc from rfl]
        by_cases hcn : c = UInt16.ofNat cc
        · rw [if_pos ((Law.c_eq c cc lt).mpr hcn)]
          refine ⟨by decide, fun p hp => ?_⟩
          have := sg_kn cc hs2
          rw [← hcn] at this
          rw [this]
          exact ret (e := j + 1) _ g1 rfl (by rw [er]) (by rw [er]) p hp
        · rw [if_neg fun z => hcn ((Law.c_eq c cc lt).mp z)]
          intro n hn2
          rw [take_one hs] at hn2
          rcases List.mem_append.mp hn2 with hn2 | hn2
          · exact hm n hn2
          · have e : n = cc := by simpa using hn2
            rw [e]
            exact hcn
      · rintro σ H2 ⟨v, rfl, rfl, hm⟩
        walk_at "rd"
        refine ⟨by decide, fun p hp => ?_⟩
        have e8 : symbolKind c = 8 := sg_none fun n hn2 => hm n (by
          have : (Str.ofString "+-*/(){},;").cps.size = 10 := by decide +kernel
          rw [this]
          exact hn2)
        exact ret (k := 8) (e := j + 1) _ g1 (by rfl) (by rw [er, e8]) (by rw [er]) p hp
abbrev s_token_at : Stmt := top 32
theorem sc_token_at : FnScope ["text", "at", "unit", "end"] ["text", "at"] (defScope s_token_at) := ⟨rfl, rfl, rfl, by decide +kernel, rfl, by decide +kernel, by decide +kernel⟩
theorem ok_token_at (T : Top K mg A) (D : DefAt K mg "token_at" s_token_at ["text", "at"]) (C_unit_at : Fn P w K mg base CX0 1 "unit_at" ["text", "at"] sp_unit_at) (C_is_letter : Fn P w K mg base CX0 1 "is_letter" ["unit"] sp_is_letter) (C_is_digit : Fn P w K mg base CX0 1 "is_digit" ["unit"] sp_is_digit)
    (C_word_end : Fn P w K mg base CX0 2 "word_end" ["text", "at"] sp_word_end) (C_word_kind : Fn P w K mg base CX0 2 "word_kind" ["word"] sp_word_kind) (C_number_end : Fn P w K mg base CX0 3 "number_end" ["text", "at"] sp_number_end) (C_string_end : Fn P w K mg base CX0 2 "string_end" ["text", "at"] sp_string_end)
    (C_sign_at : Fn P w K mg base CX0 2 "sign_at" ["text", "at"] sp_sign_at) : Fn P w K mg base CX0 4 "token_at" ["text", "at"] sp_token_at := by
  refine D.ok sc_token_at (fun vs H Q E h => ?_) (fun f cdv A outer s H vs Q E hr h => ?_)
  · obtain ⟨a, i, rfl, _⟩ := h
    rfl
  · obtain ⟨a, i, rfl, u, j, G, hG, hu, rfl, hj, hl, q⟩ := h
    obtain ⟨c, hc⟩ : ∃ c, u[j]? = some c := ⟨_, List.getElem?_eq_getElem hj⟩
    obtain ⟨r, hr1⟩ : ∃ r, u.drop (j + 1) = r := ⟨_, rfl⟩
    have hd : u.drop j = c :: r := by rw [Law.drop_c hc, hr1]
    have hrl : r.length + j + 1 = u.length := by
      have := congrArg List.length hr1
      rw [List.length_drop] at this
      omega
    rw [hd] at q
    have ret : ∀ {H1 : Hp} {k e : Nat} (x : V), Grow Sno G H G H1 → x = .str (kn k) → (readToken (c :: r)).1 = k → j + (readToken (c :: r)).2.1 = e → ∀ p, H1 p = none → Q (.ref p) (upd H1 p (.tup [x, .int (j : Int), .int (e : Int)])) := fun x g ex e1 e2 p hp => by
      subst ex e1 e2
      exact q p _ _ (g.new hp) upd_same
    have huH : Tx H a u := hG _ _ hu
    refine ⟨_, (pss_cons (ps_par (i := 2) (j := 3) (by rfl) sc_token_at.nd rfl rfl (by decide) rfl rfl (pa_cons (pe_ix ix_tup (pv 0) (pv 1) (fun _ _ => rfl)) (pa_cons (pe_op op_add (pv 1) pe_int) pa_nil)) (by rfl))
      (pss_cons (ps_if (pt_cmpR op_eq (pv 2) (C8.pe_gc (by rfl) T.g_BLANK) (nomark _)) (pss_cons (ps_while PassesOwn.never (pt_cmpR op_eq (pe_f C_unit_at hr (by first | decide | omega) (pa_cons (pv 0) (pa_cons (pv 3) pa_nil))) (C8.pe_gc (by rfl) T.g_BLANK) (nomark _)) (pss_one (ps_aug (i := 3) sc_token_at.nd rfl (.inl rfl) pe_int ip_add)))
      (pss_one (ps_ret (pe_tup (pa_cons pe_str (pa_cons (pv 1) (pa_cons (pv 3) pa_nil))))))) pss_nil)
      (pss_cons (ps_if (pt_cmpR op_eq (pv 2) (C8.pe_gc (by rfl) T.g_LINE_FEED) (nomark _)) (pss_one (ps_ret (pe_tup (pa_cons pe_str (pa_cons (pv 1) (pa_cons (pv 3) pa_nil)))))) pss_nil)
      (pss_cons (ps_if (pt_cmpR op_eq (pv 2) (C8.pe_gc (by rfl) T.g_HASH) (nomark _)) (pss_cons (ps_while PassesOwn.never (pt_cmpR op_notIn_seq (pe_f C_unit_at hr (by first | decide | omega) (pa_cons (pv 0) (pa_cons (pv 3) pa_nil))) (pe_tup (pa_cons (C8.pe_gc (by rfl) T.g_LINE_FEED) (pa_cons (pe_un un_neg pe_int) pa_nil))) (by rfl)) (pss_one (ps_aug (i := 3) sc_token_at.nd rfl (.inl rfl) pe_int ip_add)))
      (pss_one (ps_ret (pe_tup (pa_cons pe_str (pa_cons (pv 1) (pa_cons (pv 3) pa_nil))))))) pss_nil)
      (pss_cons (ps_if (pt_val (pe_f C_is_letter hr (by first | decide | omega) (pa_cons (pv 2) pa_nil))) (pss_cons (ps_set (i := 3) sc_token_at.nd rfl (.inl rfl) (pe_f C_word_end hr (by first | decide | omega) (pa_cons (pv 0) (pa_cons (pv 1) pa_nil))))
      (pss_one (ps_ret (pe_tup (pa_cons (pe_f C_word_kind hr (by first | decide | omega) (pa_cons (pe_slice sl_tupA (pv 0) (po_some (pv 1)) (po_some (pv 3))) pa_nil)) (pa_cons (pv 1) (pa_cons (pv 3) pa_nil))))))) pss_nil)
      (pss_cons (ps_if (pt_val (pe_f C_is_digit hr (by first | decide | omega) (pa_cons (pv 2) pa_nil))) (pss_one (ps_ret (pe_tup (pa_cons pe_str (pa_cons (pv 1) (pa_cons (pe_f C_number_end hr (by first | decide | omega) (pa_cons (pv 0) (pa_cons (pv 1) pa_nil))) pa_nil)))))) pss_nil)
      (pss_cons (ps_if (pt_cmpR op_eq (pv 2) (C8.pe_gc (by rfl) T.g_MARK) (nomark _)) (pss_cons (ps_set (i := 3) sc_token_at.nd rfl (.inl rfl) (pe_f C_string_end hr (by first | decide | omega) (pa_cons (pv 0) (pa_cons (pe_op op_add (pv 1) pe_int) pa_nil))))
      (pss_one (ps_ret (pe_ifExp (pt_cmpR op_lt (pv 3) pe_int (nomark _)) (pe_tup (pa_cons pe_str (pa_cons (pv 1) (pa_cons (pe_callB call_len_seq (by rfl) T.n_len PySem.boot_len (pa_cons (pv 0) pa_nil)) pa_nil)))) (pe_tup (pa_cons pe_str (pa_cons (pv 1) (pa_cons (pv 3) pa_nil)))))))) pss_nil)
      (pss_one (ps_ret (pe_f C_sign_at hr (by first | decide | omega) (pa_cons (pv 0) (pa_cons (pv 1) pa_nil)))))))))))), ?_⟩
    walk_at "rd"
    refine ⟨U u, SqT.of huH, _, tx_at rfl (by omega) (by rw [Int.toNat_natCast]; exact hc), ?_⟩
    walk_at "rd"
    by_cases h32 : c = 32
    · subst h32
      rw [if_pos (by decide)]
      have er : readToken (32 :: r) = (1, prefixLength (fun d => d == 32) r + 1, prefixLength (fun d => d == 32) r + 2) := by
        rw [Law.readToken_cons, if_pos rfl, Law.pl_pos (by decide)]
      refine while_scan (f := fun d => d == 32) (u := u) Eq (fun _ => rfl) (fun _ _ _ => Eq.trans) (fun x => [some (.ref a), some (.int (j : Int)), some (.int ((32 : UInt16).toNat : Int)), some (.int x)]) (i := (j : Int) + 1) (by omega) (fun k H1 Q1 hk e y n => ?_) (fun k D' H1 hk q1 => ?_) (fun H1 e => ?_)
      · subst e
        walk_at "rd"
        refine ⟨u, huH, by omega, ?_⟩
        by_cases h : uAt u k.toNat = 32
        · rw [decide_eq_true h]
          exact y ⟨32, (Law.uAt_eq u _ 32 (by decide)).mp h, by decide⟩ _ rfl
        · rw [decide_eq_false h]
          refine n (fun ⟨c, h1, h2⟩ => h ?_) _ rfl
          have h2 : c = 32 := by simpa using h2
          exact (Law.uAt_eq u _ 32 (by decide)).mpr (by rw [h1, h2]; rfl)
      · walk_at "rd"
        exact q1
      · subst e
        walk_at "rd"
        refine ⟨by decide, fun p hp => ?_⟩
        rw [show ((j : Int) + 1).toNat = j + 1 by omega, hr1, show (j : Int) + 1 + (prefixLength (fun d => d == 32) r : Nat) = ((j + (prefixLength (fun d => d == 32) r + 1) : Nat) : Int) by omega]
        exact ret (k := 1) _ (Grow.refl hG) (by rfl) (by rw [er]) (by rw [er]) p hp
    rw [if_neg (show ¬ (c.toNat : Int) = 32 from fun z => h32 ((Law.c_eq c 32 (by decide)).mp z))]
    by_cases h10 : c = 10
    · subst h10
      rw [if_pos (by decide)]
      refine ⟨by decide, fun p hp => ?_⟩
      exact ret (k := 2) (e := j + 1) _ (Grow.refl hG) (by rfl) rfl rfl p hp
    rw [if_neg (show ¬ (c.toNat : Int) = 10 from fun z => h10 ((Law.c_eq c 10 (by decide)).mp z))]
    by_cases h35 : c = 35
    · subst h35
      rw [if_pos (by decide)]
      have er : readToken (35 :: r) = (3, prefixLength (fun d => d != 10) r + 1, prefixLength (fun d => d != 10) r + 2) := by
        rw [Law.readToken_cons, if_neg (by decide), if_neg (by decide), if_pos rfl, Law.pl_pos (by decide)]
      refine while_scan (f := fun d => d != 10) (u := u) Same Same.refl (fun _ _ _ => Same.trans) (fun x => [some (.ref a), some (.int (j : Int)), some (.int ((35 : UInt16).toNat : Int)), some (.int x)]) (i := (j : Int) + 1) (by omega) (fun k H1 Q1 hk e y n => ?_) (fun k D' H1 hk q1 => ?_) (fun H1 e => ?_)
      · walk_at "rd"
        refine ⟨u, e _ _ huH, by omega, by decide, fun p hp => ⟨_, .inr (SqT.of upd_same), rfl, rfl, ?_⟩⟩
        have e3 : (!inV (V.int (uAt u k.toNat)) [V.int 10, V.int (-1)]) = true ↔ ∃ c, u[k.toNat]? = some c ∧ (c != 10) = true := by
          unfold inV
          simp only [List.any_cons, List.any_nil, eqV, Bool.or_false, Bool.not_eq_true', Bool.or_eq_false_iff, beq_eq_false_iff_ne]
          cases h : u[k.toNat]? with
          | none =>
            rw [Law.uAt_none h]
            constructor
            · intro z; exact absurd rfl z.2
            · rintro ⟨c, z, _⟩; cases z
          | some c =>
            rw [Law.uAt_some h]
            constructor
            · intro z
              refine ⟨c, rfl, ?_⟩
              rw [bne_iff_ne]
              intro z2
              subst z2
              exact z.1 (by decide)
            · rintro ⟨d, z, z2⟩
              cases z
              rw [bne_iff_ne] at z2
              refine ⟨fun z3 => z2 ((Law.c_eq c 10 (by decide)).mp (by omega)), by omega⟩
        cases hb : (!inV (V.int (uAt u k.toNat)) [V.int 10, V.int (-1)]) with
        | true => exact y (e3.mp hb) _ (same_new hp)
        | false => exact n (fun z => by rw [e3.mpr z] at hb; cases hb) _ (same_new hp)
      · walk_at "rd"
        exact q1
      · walk_at "rd"
        refine ⟨by decide, fun p hp => ?_⟩
        rw [show ((j : Int) + 1).toNat = j + 1 by omega, hr1, show (j : Int) + 1 + (prefixLength (fun d => d != 10) r : Nat) = ((j + (prefixLength (fun d => d != 10) r + 1) : Nat) : Int) by omega]
        exact ret (k := 3) _ ((Grow.refl hG).junk e) (by rfl) (by rw [er]) (by rw [er]) p hp
    rw [if_neg (show ¬ (c.toNat : Int) = 35 from fun z => h35 ((Law.c_eq c 35 (by decide)).mp z))]
    rw [Law.letB_c, Law.digB_c]
    by_cases hlt : R7253e.Spec.isLetter c = true
    · rw [if_pos hlt]
      have er : readToken (c :: r) = (keywordKind ((c :: r).take (prefixLength R7253e.Spec.isIdentifierPart (c :: r))), prefixLength R7253e.Spec.isIdentifierPart (c :: r), prefixLength R7253e.Spec.isIdentifierPart (c :: r) + 1) := by
        rw [Law.readToken_cons, if_neg h32, if_neg h10, if_neg h35, if_pos hlt]
      have hpl := Law.pl_le R7253e.Spec.isIdentifierPart (c :: r)
      rw [List.length_cons] at hpl
      generalize hn : prefixLength R7253e.Spec.isIdentifierPart (c :: r) = n at er hpl
      refine ⟨u, huH, by omega, ?_⟩
      rw [Int.toNat_natCast, hd, hn]
      refine sl_U (S := Sno) (Grow.refl hG) hu (by omega) (by omega) (by omega) fun p G' H' g _ hp => ?_
      refine ⟨p, rfl, _, g.s _ _ hp, by rw [List.length_take, List.length_drop]; omega, fun H2 hS => ⟨by decide, fun p2 hp2 => ?_⟩⟩
      rw [Int.toNat_natCast, show ((j : Int) + (n : Int)).toNat - j = n by omega, hd]
      exact ret (e := j + n) _ ((Grow.refl hG).junk (g.same.trans hS)) rfl (by rw [er]) (by rw [er]) p2 hp2
    rw [if_neg hlt]
    by_cases hdg : R7253e.Spec.isDigit c = true
    · rw [if_pos hdg]
      obtain ⟨r1, r2⟩ := Law.read_num (r := r) h32 h10 h35 (by simpa using hlt) hdg
      refine ⟨u, huH, by omega, by decide, fun p hp => ?_⟩
      rw [Int.toNat_natCast, hd]
      exact ret (k := 5) (e := j + numLen (c :: r)) _ (Grow.refl hG) (by rfl) r1 (by rw [r2]) p hp
    rw [if_neg hdg]
    by_cases h34 : c = 34
    · subst h34
      rw [if_pos (by decide)]
      have er := Law.read_str (r := r) h32 h10 h35 (by simpa using hlt) (by simpa using hdg) rfl
      refine ⟨u, huH, by omega, ?_⟩
      have es : strEnd u ((j : Int) + 1) = if (stringEnd r 1).1 = true then (j : Int) + (stringEnd r 1).2 else -1 := by
        unfold strEnd
        rw [show ((j : Int) + 1).toNat = j + 1 by omega, hr1]
        split
        · omega
        · rfl
      rw [es]
      cases hb : (stringEnd r 1).1 with
      | true =>
        rw [hb] at er
        rw [if_pos rfl, if_neg (by omega)]
        refine ⟨by decide, fun p hp => ?_⟩
        exact ret (k := 6) (e := j + (stringEnd r 1).2) _ (Grow.refl hG) (by rfl) (by rw [er]; rfl) (by rw [er]) p hp
      | false =>
        rw [hb] at er
        rw [if_neg Bool.false_ne_true, if_pos (by decide)]
        refine ⟨U u, .inr (SqT.of huH), by decide, fun p hp => ?_⟩
        rw [U_len]
        have ea := Law.se_all r 1 hb
        exact ret (k := 7) (e := u.length) _ (Grow.refl hG) (by rfl) (by rw [er]; rfl) (by rw [er]; show j + (stringEnd r 1).2 = _; omega) p hp
    rw [if_neg (show ¬ (c.toNat : Int) = 34 from fun z => h34 ((Law.c_eq c 34 (by decide)).mp z))]
    exact ⟨u, c, r, j, G, hG, hu, rfl, hd, h32, h10, h35, by simpa using hlt, by simpa using hdg, h34, q⟩
end
end Tk
end
section
set_option Elab.async false
set_option linter.all false
set_option maxRecDepth 100000
set_option maxHeartbeats 2000000
/-! The walk, part 3: tokens_of, is_too_deep. -/
namespace Tk
open PySem PySem.Spec PyProof.Rows L2
open Law (uAt letB digB numLen strEnd dpStep dpRun Dp)
open R7253e.Spec (prefixLength stringEnd readToken keywordKind symbolKind operatorKind kindName RawToken scan scanFrom nestingOk)
/-- a list of tuples -/
def Ls {α : Type} (F : α → List V) (G : Hp) (p : Addr) (ts : List α) : Prop := ∃ as : List Addr, G p = some (.lst (as.map V.ref)) ∧ Paired (fun b t => G b = some (.tup (F t))) as ts
theorem paired_mono {α β : Type} {R R' : α → β → Prop} (h : ∀ a b, R a b → R' a b) : ∀ {l : List α} {m : List β}, Paired R l m → Paired R' l m
  | _, _, .nil => .nil
  | _, _, .cons r t => .cons (h _ _ r) (paired_mono h t)
theorem paired_snoc {α β : Type} {R : α → β → Prop} {a : α} {b : β} (r : R a b) : ∀ {l : List α} {m : List β}, Paired R l m → Paired R (l ++ [a]) (m ++ [b])
  | _, _, .nil => .cons r .nil
  | _, _, .cons q t => .cons q (paired_snoc r t)
theorem paired_get {α β : Type} {R : α → β → Prop} : ∀ {l : List α} {m : List β} {i : Nat} {a : α}, Paired R l m → l[i]? = some a → ∃ b, m[i]? = some b ∧ R a b
  | _, _, _, _, .nil, e => by simp at e
  | _, _, 0, _, .cons r _, e => by
    have e := Option.some.inj e
    subst e
    exact ⟨_, rfl, r⟩
  | _, _, i + 1, a, .cons _ t, e => by
    obtain ⟨b, h1, h2⟩ := paired_get (i := i) (a := a) t (by simpa using e)
    exact ⟨b, by simpa using h1, h2⟩
theorem paired_len {α β : Type} {R : α → β → Prop} : ∀ {l : List α} {m : List β}, Paired R l m → l.length = m.length
  | _, _, .nil => rfl
  | _, _, .cons _ t => by rw [List.length_cons, List.length_cons, paired_len t]
theorem Ls.mono {α : Type} {F : α → List V} {G G' : Hp} {p : Addr} {ts : List α} (h : Ls F G p ts) (e : Same G G') : Ls F G' p ts := by
  obtain ⟨as, h1, h2⟩ := h
  exact ⟨as, e _ _ h1, paired_mono (fun _ _ h => e _ _ h) h2⟩
def rawT (t : RawToken) : List V := rawV t.kind t.start (t.start + t.length)
def sp_tokens_of : Sp := fun vs H Q _ => ∃ (a : Addr), vs = [.ref a] ∧ ∃ (u : Units) (G : Hp), Same G H ∧ Tx G a u ∧ u.length ≤ 600 ∧ ∀ p G' H', Grow Sno G H G' H' → H p = none → Ls rawT G' p (scan u) → Q (.ref p) H'
def sp_is_too_deep : Sp := fun vs H Q _ => ∃ (a : Addr), vs = [.ref a] ∧ ∃ (u : Units), Tx H a u ∧ u.length ≤ 600 ∧ ∀ H', Same H H' → Q (.bl (!nestingOk (scan u))) H'
local macro_rules | `(tactic| walk_at "rd") => `(tactic| simp only [sp_token_at, sp_tokens_of, cxK, cxNK, cxNN, cxHK, tRet, tRetN, tChain, tC, tVar, rI0, rI, tOp, tUn, rU, tIf, tTest, tB, tNot, tAnd, tOr, tAndV, tOrV, tNotV, tCB, tCons, tNil, tNext, tSeq, tIfS, tDrop, tAsg, gName, tPar, tPar3, tAug, ipI, tCall, tCallS, E0, rEq, rNe, scal, rIxT, rIxL,  tTup, tLst, gTup, gCons, gNil, iTup, iList, iStr, iRng1, wipe, tSl, tPart, tNoPart, rIn,  tFld, sFld, sFldAug, tMeth, tMake, rAdd, tYes, tBM, rAppend, rExtend, rCat, rSetL, gSub,
  L2.start, List.map_cons, List.map_nil, List.length_cons, List.length_nil, Nat.reduceAdd, Nat.reduceSub, List.replicate_succ, List.replicate_zero, List.cons_append, List.nil_append, List.append_nil,
  List.getElem?_cons_zero, List.getElem?_cons_succ, List.set_cons_zero, List.set_cons_succ, Option.some.injEq, exists_eq_left, exists_eq_left', exists_eq_right, exists_eq_right', V.int.injEq, V.bl.injEq, V.str.injEq, V.ref.injEq, List.cons.injEq, true_and, and_true, and_assoc, exists_and_left, decide_eq_true_eq, Bool.false_eq_true, if_true, if_false, ite_true, ite_false, reduceIte, reduceCtorEq])

section
variable {P : Program} {w : World} {K : PySem.W.Frag} {mg : Str → Option Value} {base : Heap} {A : Ads}
theorem scan_more {k j : Nat} {u : Units} {c : UInt16} {r : Units} (hk : u.length - j < k) (hj : j < u.length) : ∃ k', k = k' + 1 := ⟨k - 1, by omega⟩
theorem scan_len : ∀ (k : Nat) (u : Units) (p : Nat), (scanFrom k u p).length ≤ u.length
  | 0, _, _ => Nat.zero_le _
  | k + 1, [], _ => Nat.le_refl _
  | k + 1, c :: r, p => by
    rw [Law.scanFrom_cons, List.length_cons]
    have h := scan_len k ((c :: r).drop (readToken (c :: r)).2.1) (p + (readToken (c :: r)).2.1)
    have l := Law.readToken_len c r
    rw [List.length_drop] at h
    omega
abbrev s_tokens_of : Stmt := top 34
theorem sc_tokens_of : FnScope ["text", "found", "at"] ["text"] (defScope s_tokens_of) := ⟨rfl, rfl, rfl, by decide +kernel, rfl, by decide +kernel, by decide +kernel⟩
theorem ok_tokens_of (T : Top K mg A) (D : DefAt K mg "tokens_of" s_tokens_of ["text"]) (C_token_at : Fn P w K mg base CX0 4 "token_at" ["text", "at"] sp_token_at) : Fn P w K mg base CX0 5 "tokens_of" ["text"] sp_tokens_of := by
  refine D.ok sc_tokens_of (fun vs H Q E h => ?_) (fun f cdv A outer s H vs Q E hr h => ?_)
  · obtain ⟨a, rfl, _⟩ := h
    rfl
  · obtain ⟨a, rfl, u, G, hG, hu, hl, q⟩ := h
    refine ⟨_, (pss_cons (ps_par (i := 1) (j := 2) (by rfl) sc_tokens_of.nd rfl rfl (by decide) rfl rfl (pa_cons (pe_lst pa_nil) (pa_cons pe_int pa_nil)) (by rfl))
      (pss_cons (ps_while PassesOwn.never (pt_cmpR op_lt (pv 2) (pe_callB call_len_seq (by rfl) T.n_len PySem.boot_len (pa_cons (pv 0) pa_nil)) (nomark _)) (pss_cons (ps_expr (pe_bm PySem.F.plainAttrs_list PySem.F.slot_list_append PySem.F.type_list_append mt_append (pv 1) (pa_cons (pe_f C_token_at hr (by first | decide | omega) (pa_cons (pv 0) (pa_cons (pv 2) pa_nil))) pa_nil)))
      (pss_one (ps_set (i := 2) sc_tokens_of.nd rfl (.inl rfl) (pe_ix ix_tup (pe_ix ix_list (pv 1) (pe_un un_neg pe_int) (fun _ _ => rfl)) pe_int (fun _ _ => rfl))))))
      (pss_one (ps_ret (pv 1))))), ?_⟩
    walk_at "rd"
    refine ⟨Nat.zero_le _, fun p hp => ?_⟩
    refine ⟨fun m σ H' => ∃ (k j : Nat) (ds : List RawToken) (as : List Addr) (G1 : Hp), m = u.length - j ∧ σ = [some (.ref a), some (.ref p), some (.int (j : Int))] ∧ scan u = ds ++ scanFrom k (u.drop j) j ∧ u.length - j < k ∧ j ≤ u.length ∧ Grow Sno G H G1 H' ∧ H' p = some (.lst (as.map V.ref)) ∧ G1 p = none ∧ Paired (fun b t => G1 b = some (.tup (rawT t))) as ds,
      ⟨_, u.length + 1, 0, [], [], G, rfl, rfl, rfl, by omega, by omega, (Grow.refl hG).tmp hp, upd_same, hG.free hp, .nil⟩, ?_⟩
    rintro m σ H' ⟨k, j, ds, as, G1, rfl, rfl, hs, hk, hj, g, hH, hGp, hP⟩
    have hu1 : Tx G1 a u := g.g _ _ hu
    walk_at "rd"
    refine ⟨U u, .inr (SqT.of (g.s _ _ hu1)), ?_⟩
    rw [U_len]
    by_cases hlt : j < u.length
    · rw [if_pos (by omega)]
      obtain ⟨k', rfl⟩ : ∃ k', k = k' + 1 := ⟨k - 1, by omega⟩
      obtain ⟨c, hc⟩ : ∃ c, u[j]? = some c := ⟨_, List.getElem?_eq_getElem hlt⟩
      have hd := Law.drop_c hc
      have hrl := Law.readToken_len c (u.drop (j + 1))
      rw [hd, Law.scanFrom_cons, ← hd, List.drop_drop] at hs
      rw [← hd] at hrl
      generalize hrt : readToken (u.drop j) = rt at hs hrl
      have hlen : ds.length ≤ 600 := by
        have h := scan_len (u.length + 1) u 0
        have h : (scan u).length ≤ u.length := h
        rw [hs, List.length_append] at h
        omega
      refine ⟨_, fun _ _ z => z, ?_⟩
      walk_at "rd"
      refine ⟨.inl ⟨rfl, _, SqL.of hH⟩, u, j, G1, g.s, hu1, rfl, hlt, hl, fun p2 G2 H2 g2 hp2 => ?_⟩
      rw [hrt] at hp2
      have hH2 : H2 p = some (.lst (as.map V.ref)) := g2.same _ _ hH
      have hGp2 : G2 p = none := g2.out hGp (some_ne hH)
      have g3 : Grow Sno G H G2 H2 := g.transN g2
      have e2 : H2 p2 = some (.tup (rawV rt.1 j (j + rt.2.1))) := g2.s _ _ hp2
      have ne : p2 ≠ p := fun z => by rw [z, hH2] at e2; cases e2
      refine ⟨_, hH2, by rw [List.length_map, paired_len hP]; exact Nat.lt_of_le_of_lt hlen (by decide), _, SqL.of upd_same, .ref p2, ?_, p2, rfl, rawV rt.1 j (j + rt.2.1), SqT.of (by rw [upd_ne ne]; exact e2), .int ((j + rt.2.1 : Nat) : Int), rfl, ?_⟩
      · exact atI_last _ _
      · rw [List.length_drop] at hrl
        refine ⟨u.length - (j + rt.2.1), by omega, k', j + rt.2.1, rfl, rfl, ds ++ [⟨rt.1, j, rt.2.1, rt.2.2⟩], by rw [hs, List.append_assoc]; rfl, by omega, by omega, as ++ [p2], G2, g3.put hGp2 (.inr hp), ?_, hGp2, ?_⟩
        · rw [upd_same, List.map_append]
          rfl
        · exact paired_snoc (R := fun b t => G2 b = some (.tup (rawT t))) hp2 (paired_mono (fun _ _ h => g2.g _ _ h) hP)
    · rw [if_neg (by omega)]
      have e0 : u.drop j = [] := List.drop_eq_nil_of_le (by omega)
      rw [e0, Law.scanFrom_nil, List.append_nil] at hs
      refine q p (upd G1 p (.lst (as.map V.ref))) H' (g.fix hp hH hGp) hp ⟨as, upd_same, ?_⟩
      rw [hs]
      refine paired_mono (fun b t hb => ?_) hP
      rw [upd_ne (ne_of_none hb hGp)]
      exact hb
theorem kn_is : ∀ k ∈ Law.kinds, (kn k = "{" ↔ k = 32) ∧ (kn k = "}" ↔ k = 33) ∧ (kn k = "(" ↔ k = 30) ∧ (kn k = ")" ↔ k = 31) ∧ (kn k = ";" ↔ k = 35) := by
  decide +kernel
theorem in3 (x a b c : Str) : inV (.str x) [.str a, .str b, .str c] = true ↔ (x = a ∨ x = b ∨ x = c) := by
  unfold inV
  simp only [List.any_cons, List.any_nil, eqV, Bool.or_false, Bool.or_eq_true, beq_iff_eq]
  constructor
  · rintro (h | h | h)
    · exact .inl h.symm
    · exact .inr (.inl h.symm)
    · exact .inr (.inr h.symm)
  · rintro (h | h | h)
    · exact .inl h.symm
    · exact .inr (.inl h.symm)
    · exact .inr (.inr h.symm)
abbrev s_is_too_deep : Stmt := top 35
theorem sc_is_too_deep : FnScope ["text", "braces", "brackets", "most", "kind", "begin", "end"] ["text"] (defScope s_is_too_deep) := ⟨rfl, rfl, rfl, by decide +kernel, rfl, by decide +kernel, by decide +kernel⟩
theorem ok_is_too_deep (T : Top K mg A) (D : DefAt K mg "is_too_deep" s_is_too_deep ["text"]) (C_tokens_of : Fn P w K mg base CX0 5 "tokens_of" ["text"] sp_tokens_of) : Fn P w K mg base CX0 6 "is_too_deep" ["text"] sp_is_too_deep := by
  refine D.ok sc_is_too_deep (fun vs H Q E h => ?_) (fun f cdv A outer s H vs Q E hr h => ?_)
  · obtain ⟨a, rfl, _⟩ := h
    rfl
  · obtain ⟨a, rfl, u, hu, hl, q⟩ := h
    refine ⟨_, (pss_cons (ps_asg (pe_tup (pa_cons pe_int (pa_cons pe_int (pa_cons pe_int pa_nil)))) (pg_tup (n := 3) rfl (pgs_cons (pg_name (i := 1) sc_is_too_deep.nd rfl (Or.inl rfl)) (pgs_cons (pg_name (i := 2) sc_is_too_deep.nd rfl (Or.inl rfl)) (pgs_cons (pg_name (i := 3) sc_is_too_deep.nd rfl (Or.inl rfl)) pgs_nil)))))
      (pss_cons (ps_for PassesOwn.never rfl (pi_list (pe_f C_tokens_of hr (by first | decide | omega) (pa_cons (pv 0) pa_nil))) (pg_tup (n := 3) rfl (pgs_cons (pg_name (i := 4) sc_is_too_deep.nd rfl (Or.inl rfl)) (pgs_cons (pg_name (i := 5) sc_is_too_deep.nd rfl (Or.inl rfl)) (pgs_cons (pg_name (i := 6) sc_is_too_deep.nd rfl (Or.inl rfl)) pgs_nil)))) (pss_cons (ps_if (pt_cmpR op_eq (pv 4) pe_str (nomark _)) (pss_one (ps_aug (i := 1) sc_is_too_deep.nd rfl (.inl rfl) pe_int ip_add)) (pss_one (ps_if (pt_cmpR op_eq (pv 4) pe_str (nomark _)) (pss_one (ps_set (i := 1) sc_is_too_deep.nd rfl (.inl rfl) (pe_callB (call_max2 rfl) (by rfl) T.n_max (by decide +kernel) (pa_cons pe_int (pa_cons (pe_op op_sub (pv 1) pe_int) pa_nil))))) (pss_one (ps_if (pt_cmpR op_eq (pv 4) pe_str (nomark _)) (pss_one (ps_aug (i := 2) sc_is_too_deep.nd rfl (.inl rfl) pe_int ip_add)) (pss_one (ps_if (pt_cmpR op_eq (pv 4) pe_str (nomark _)) (pss_one (ps_set (i := 2) sc_is_too_deep.nd rfl (.inl rfl) (pe_callB (call_max2 rfl) (by rfl) T.n_max (by decide +kernel) (pa_cons pe_int (pa_cons (pe_op op_sub (pv 2) pe_int) pa_nil))))) pss_nil)))))))
      (pss_cons (ps_if (pt_cmpR op_in_seq (pv 4) (pe_tup (pa_cons pe_str (pa_cons pe_str (pa_cons pe_str pa_nil)))) (by rfl)) (pss_one (ps_set (i := 2) sc_is_too_deep.nd rfl (.inl rfl) pe_int)) pss_nil)
      (pss_one (ps_set (i := 3) sc_is_too_deep.nd rfl (.inl rfl) (pe_callB (call_max3 rfl) (by rfl) T.n_max (by decide +kernel) (pa_cons (pv 3) (pa_cons (pv 1) (pa_cons (pv 2) pa_nil)))))))))
      (pss_one (ps_ret (pe_cmpR op_gt (pv 3) (C8.pe_gc (by rfl) T.g_MOST_DEPTH) (nomark _)))))), ?_⟩
    walk_at "rd"
    refine ⟨by decide, fun p0 hp0 => ⟨_, SqT.of upd_same, rfl, ?_⟩⟩
    walk_at "rd"
    have s0 : Same H (upd H p0 (.tup [.int 0, .int 0, .int 0])) := same_new hp0
    generalize upd H p0 (.tup [.int 0, .int 0, .int 0]) = H0 at s0 ⊢
    refine ⟨_, rfl, a, rfl, u, H0, Same.refl H0, s0 _ _ hu, hl, fun p G' H1 g hp hL => ?_⟩
    obtain ⟨as, h1, h2⟩ := hL
    have hlen := paired_len h2
    refine ⟨p, rfl, ⟨_, SqL.of (g.s _ _ h1)⟩, for_list (K := K) (a := p) (xs := as.map V.ref) (fun i σ H' => ∃ (v1 v2 v3 : Option V), σ = [some (.ref a), some (.int (((scan u).map fun t => t.kind).take i |>.foldl dpStep ⟨0, 0, 0⟩).b), some (.int (((scan u).map fun t => t.kind).take i |>.foldl dpStep ⟨0, 0, 0⟩).p), some (.int (((scan u).map fun t => t.kind).take i |>.foldl dpStep ⟨0, 0, 0⟩).m), v1, v2, v3] ∧ Same H1 H')
      ⟨none, none, none, rfl, Same.refl _⟩ (fun i σ H' _ ⟨_, _, _, _, e⟩ => SqL.of (e _ _ (g.s _ _ h1))) ?_ ?_⟩
    · rintro i x σ H' hx ⟨v1, v2, v3, rfl, hS⟩
      rw [List.getElem?_map] at hx
      obtain ⟨b, hb, ex⟩ := Option.map_eq_some_iff.mp hx
      subst ex
      obtain ⟨t, ht, hbt⟩ := paired_get h2 hb
      have hk : t.kind ∈ Law.kinds := Law.scan_kinds (List.mem_of_getElem? ht)
      have et : ((scan u).map fun t => t.kind)[i]? = some t.kind := by rw [List.getElem?_map, ht]; rfl
      rw [take_one et, List.foldl_append]
      generalize (((scan u).map fun t => t.kind).take i).foldl dpStep ⟨0, 0, 0⟩ = d
      have hbH : H' b = some (.tup (rawT t)) := hS _ _ (g.s _ _ hbt)
      obtain ⟨k1, k2, k3, k4, k5⟩ := kn_is t.kind hk
      generalize hkk : t.kind = k at k1 k2 k3 k4 k5
      have hrt : rawT t = [.str (kn k), .int (t.start : Int), .int ((t.start + t.length : Nat) : Int)] := by unfold rawT rawV; rw [hkk]
      rw [hrt] at hbH
      refine ⟨b, _, rfl, SqT.of hbH, rfl, ?_⟩
      walk_at "rd"
      generalize hF : List.foldl dpStep d [k] = F
      have hF' : dpStep d k = F := hF
      have fb : F.b = if k = 32 then d.b + 1 else if k = 33 then max 0 (d.b - 1) else d.b := by rw [← hF']; rfl
      have fp : F.p = if k = 32 ∨ k = 33 ∨ k = 35 then 0 else if k = 30 then d.p + 1 else if k = 31 then max 0 (d.p - 1) else d.p := by rw [← hF']; rfl
      have fm : F.m = max (max d.m F.b) F.p := by rw [← hF']; rfl
      have hi : inV (.str (kn k)) [.str "{", .str "}", .str ";"] = true ↔ (k = 32 ∨ k = 33 ∨ k = 35) := by rw [in3, k1, k2, k5]
      have rest : ∀ b1 p1 : Int, b1 = F.b → (¬ (k = 32 ∨ k = 33 ∨ k = 35) → p1 = F.p) → 3 ≤ sizeLine ∧ ∀ p, H' p = none → ∃ x, (SqL K (upd H' p (HO.tup [V.str (Str.ofString "{"), V.str (Str.ofString "}"), V.str (Str.ofString ";")])) p x ∨ SqT K (upd H' p (HO.tup [V.str (Str.ofString "{"), V.str (Str.ofString "}"), V.str (Str.ofString ";")])) p x) ∧ flatV (V.str (kn k)) = true ∧ x.all flatV = true ∧
          if inV (V.str (kn k)) x = true then b1 = F.b ∧ 0 = F.p ∧ max (max d.m b1) 0 = F.m ∧ Same H1 (upd H' p (HO.tup [V.str (Str.ofString "{"), V.str (Str.ofString "}"), V.str (Str.ofString ";")]))
          else b1 = F.b ∧ p1 = F.p ∧ max (max d.m b1) p1 = F.m ∧ Same H1 (upd H' p (HO.tup [V.str (Str.ofString "{"), V.str (Str.ofString "}"), V.str (Str.ofString ";")])) := fun b1 p1 e1 e2 => by
        refine ⟨by decide, fun p hp => ⟨_, .inr (SqT.of upd_same), rfl, rfl, ?_⟩⟩
        by_cases hin : k = 32 ∨ k = 33 ∨ k = 35
        · rw [if_pos (hi.mpr hin)]
          have e0 : 0 = F.p := by rw [fp, if_pos hin]
          exact ⟨e1, e0, by rw [fm, ← e1, ← e0], hS.trans (same_new hp)⟩
        · rw [if_neg fun z => hin (hi.mp z)]
          exact ⟨e1, e2 hin, by rw [fm, ← e1, ← e2 hin], hS.trans (same_new hp)⟩
      by_cases h32 : k = 32
      · rw [if_pos (k1.mpr h32)]
        exact rest _ _ (by rw [fb, if_pos h32]) fun z => absurd (.inl h32) z
      rw [if_neg fun z => h32 (k1.mp z)]
      by_cases h33 : k = 33
      · rw [if_pos (k2.mpr h33)]
        refine rest _ _ ?_ fun z => absurd (.inr (.inl h33)) z
        rw [fb, if_neg h32, if_pos h33]
        split <;> omega
      rw [if_neg fun z => h33 (k2.mp z)]
      by_cases h30 : k = 30
      · rw [if_pos (k3.mpr h30)]
        exact rest _ _ (by rw [fb, if_neg h32, if_neg h33]) fun z => by rw [fp, if_neg z, if_pos h30]
      rw [if_neg fun z => h30 (k3.mp z)]
      by_cases h31 : k = 31
      · rw [if_pos (k4.mpr h31)]
        refine rest _ _ (by rw [fb, if_neg h32, if_neg h33]) fun z => ?_
        rw [fp, if_neg z, if_neg h30, if_pos h31]
        split <;> omega
      rw [if_neg fun z => h31 (k4.mp z)]
      exact rest _ _ (by rw [fb, if_neg h32, if_neg h33]) fun z => by rw [fp, if_neg z, if_neg h30, if_neg h31]
    · rintro σ H' ⟨v1, v2, v3, rfl, hS⟩
      walk_at "rd"
      have := q H' ((s0.trans g.same).trans hS)
      rw [← Law.too_deep] at this
      rw [List.length_map, hlen, List.take_of_length_le (by rw [List.length_map]; exact Nat.le_refl _)]
      exact this
end
end Tk
end
section
set_option Elab.async false
set_option linter.all false
set_option maxRecDepth 100000
set_option maxHeartbeats 2000000
/-! The walk, part 4: values.py: values, how they are written. -/
namespace Tk
open PySem PySem.Spec PyProof.Rows L2
open RWire (Value Octets write writeText writeCount writeInt writeEntries low numOf)

/-! ### values as they lie in the heap -/
def Oc (l : Octets) : List V := l.map fun o => .int (o.toNat : Int)
theorem Oc_len (l : Octets) : (Oc l).length = l.length := List.length_map ..
theorem Oc_app (l m : Octets) : Oc (l ++ m) = Oc l ++ Oc m := List.map_append
mutual
inductive Vl (A : Ads) (G : Hp) : V → RWire.Value → Prop
  | nothing {a dx : Addr} : G a = some (.ins A.cN dx [("is_there", .bl false)]) → Vl A G (.ref a) .nothing
  | null : Vl A G .non .null
  | bool (b : Bool) : Vl A G (.bl b) (.bool b)
  | int (i : Int) : Vl A G (.int i) (.int i)
  | text {a : Addr} {u : Octets} : G a = some (.tup (Oc u)) → Vl A G (.ref a) (.text u)
  | octets {a : Addr} {u : Octets} : G a = some (.lst (Oc u)) → Vl A G (.ref a) (.octets u)
  | list {a : Addr} {xs : List V} {l : List RWire.Value} : G a = some (.lst xs) → VlAll A G xs l → Vl A G (.ref a) (.list l)
  | record {a m dx : Addr} {ms : List Addr} {l : List (RWire.Text × RWire.Value)} : G a = some (.ins A.cR dx [("members", .ref m)]) → G m = some (.lst (ms.map V.ref)) → VlEnt A G ms l → Vl A G (.ref a) (.record l)
inductive VlAll (A : Ads) (G : Hp) : List V → List RWire.Value → Prop
  | nil : VlAll A G [] []
  | cons {x : V} {xs : List V} {v : RWire.Value} {l : List RWire.Value} : Vl A G x v → VlAll A G xs l → VlAll A G (x :: xs) (v :: l)
inductive VlEnt (A : Ads) (G : Hp) : List Addr → List (RWire.Text × RWire.Value) → Prop
  | nil : VlEnt A G [] []
  | cons {m n : Addr} {x : V} {ms : List Addr} {e : RWire.Text × RWire.Value} {l : List (RWire.Text × RWire.Value)} : G m = some (.tup [.ref n, x]) → G n = some (.tup (Oc e.1)) → Vl A G x e.2 → VlEnt A G ms l → VlEnt A G (m :: ms) (e :: l)
end
section
variable {A : Ads} {G G' : Hp}
mutual
theorem Vl.mono (e : Same G G') : ∀ {v : RWire.Value} {x : V}, Vl A G x v → Vl A G' x v
  | _, _, .nothing h => .nothing (e _ _ h)
  | _, _, .null => .null
  | _, _, .bool b => .bool b
  | _, _, .int i => .int i
  | _, _, .text h => .text (e _ _ h)
  | _, _, .octets h => .octets (e _ _ h)
  | _, _, .list h a => .list (e _ _ h) (VlAll.mono e a)
  | _, _, .record h1 h2 a => .record (e _ _ h1) (e _ _ h2) (VlEnt.mono e a)
theorem VlAll.mono (e : Same G G') : ∀ {l : List RWire.Value} {xs : List V}, VlAll A G xs l → VlAll A G' xs l
  | _, _, .nil => .nil
  | _, _, .cons h t => .cons (Vl.mono e h) (VlAll.mono e t)
theorem VlEnt.mono (e : Same G G') : ∀ {l : List (RWire.Text × RWire.Value)} {ms : List Addr}, VlEnt A G ms l → VlEnt A G' ms l
  | _, _, .nil => .nil
  | _, _, .cons h1 h2 h t => .cons (e _ _ h1) (e _ _ h2) (Vl.mono e h) (VlEnt.mono e t)
end
theorem VlAll.snoc {x : V} {v : RWire.Value} (h : Vl A G x v) : ∀ {l : List RWire.Value} {xs : List V}, VlAll A G xs l → VlAll A G (xs ++ [x]) (l ++ [v])
  | _, _, .nil => .cons h .nil
  | _, _, .cons q t => .cons q (VlAll.snoc h t)
theorem VlEnt.snoc {m n : Addr} {x : V} {e : RWire.Text × RWire.Value} (h1 : G m = some (.tup [.ref n, x])) (h2 : G n = some (.tup (Oc e.1))) (h : Vl A G x e.2) : ∀ {l : List (RWire.Text × RWire.Value)} {ms : List Addr}, VlEnt A G ms l → VlEnt A G (ms ++ [m]) (l ++ [e])
  | _, _, .nil => .cons h1 h2 h .nil
  | _, _, .cons q1 q2 q t => .cons q1 q2 q (VlEnt.snoc h1 h2 h t)
theorem VlAll.len : ∀ {l : List RWire.Value} {xs : List V}, VlAll A G xs l → xs.length = l.length
  | _, _, .nil => rfl
  | _, _, .cons _ t => by rw [List.length_cons, List.length_cons, VlAll.len t]
theorem VlEnt.len : ∀ {l : List (RWire.Text × RWire.Value)} {ms : List Addr}, VlEnt A G ms l → ms.length = l.length
  | _, _, .nil => rfl
  | _, _, .cons _ _ _ t => by rw [List.length_cons, List.length_cons, VlEnt.len t]
theorem VlEnt.get : ∀ {l : List (RWire.Text × RWire.Value)} {ms : List Addr} {i : Nat} {m : Addr}, VlEnt A G ms l → ms[i]? = some m → ∃ (n : Addr) (x : V) (e : RWire.Text × RWire.Value), l[i]? = some e ∧ G m = some (.tup [.ref n, x]) ∧ G n = some (.tup (Oc e.1)) ∧ Vl A G x e.2
  | _, _, _, _, .nil, h => by simp at h
  | _, _, 0, _, .cons h1 h2 h t, e => by
    have e := Option.some.inj e
    subst e
    exact ⟨_, _, _, rfl, h1, h2, h⟩
  | _, _, i + 1, m, .cons _ _ _ t, e => by
    obtain ⟨n, x, v, q1, q2, q3, q4⟩ := VlEnt.get (i := i) (m := m) t (by simpa using e)
    exact ⟨n, x, v, by simpa using q1, q2, q3, q4⟩
end
/-- the class that isinstance sees -/
def tyOf (A : Ads) : RWire.Value → PySem.Value
  | .nothing => .ref A.cN
  | .null => .type "NoneType"
  | .bool _ => .type "bool"
  | .int _ => .type "int"
  | .big _ => .type "int"
  | .text _ => .type "tuple"
  | .octets _ => .type "list"
  | .wide _ => .type "tuple"
  | .list _ => .type "list"
  | .record _ => .ref A.cR
def tNm (v : RWire.Value) : String := match v with
  | .nothing => "Nothing"
  | .null => "NoneType"
  | .bool _ => "bool"
  | .int _ => "int"
  | .big _ => "int"
  | .text _ => "tuple"
  | .octets _ => "list"
  | .wide _ => "tuple"
  | .list _ => "list"
  | .record _ => "Record"
def isT (v : RWire.Value) (t : String) : Bool := tNm v == t || (tNm v == "bool" && t == "int")
def isNo (v : RWire.Value) : Bool := match v with
  | .nothing => true
  | _ => false
section
variable {K : PySem.W.Frag} {mg : Str → Option PySem.Value} {A : Ads} {G H : Hp} {x : V} {v : RWire.Value}
theorem Vl.ty (T : Top K mg A) (h : Vl A G x v) (e : Same G H) : TyX K H x (tyOf A v) := by
  cases h with
  | nothing h => exact .base (.ins (e _ _ h) T.clN T.iN_class T.i_get T.i_takes T.iN_obj)
  | null => exact .base .non
  | bool b => exact .base (.bl b)
  | int i => exact .base (.int i)
  | text h => exact .base (.tup (e _ _ h))
  | octets h => exact .base (.lst (e _ _ h))
  | list h a => exact .base (.lst (e _ _ h))
  | record h1 h2 a => exact .base (.ins (e _ _ h1) T.clR T.iR_class T.i_get T.i_takes T.iR_obj)
theorem Vl.kit (T : Top K mg A) (h : Vl A G x v) {t : String} (ht : t ∈ (["int", "bool", "tuple", "list"] : List String)) : PySem.W.kitOne K (tyOf A v) (.type t) = some (isT v t) := by
  have k : ∀ a ∈ (["NoneType", "bool", "int", "tuple", "list"] : List String), ∀ b ∈ (["int", "bool", "tuple", "list"] : List String), kitB a b = some ((a == b) || (a == "bool" && b == "int")) := by decide +kernel
  have kn : ∀ t ∈ (["int", "bool", "tuple", "list"] : List String), (("Nothing" == t) || ("Nothing" == "bool" && t == "int")) = false := by decide +kernel
  have kr : ∀ t ∈ (["int", "bool", "tuple", "list"] : List String), (("Record" == t) || ("Record" == "bool" && t == "int")) = false := by decide +kernel
  cases h with
  | nothing h => exact (T.kN t ht).trans (congrArg some (kn t ht).symm)
  | null => exact kit_ty (k "NoneType" (by decide) t ht)
  | bool b => exact kit_ty (k "bool" (by decide) t ht)
  | int i => exact kit_ty (k "int" (by decide) t ht)
  | text h => exact kit_ty (k "tuple" (by decide) t ht)
  | octets h => exact kit_ty (k "list" (by decide) t ht)
  | list h a => exact kit_ty (k "list" (by decide) t ht)
  | record h1 h2 a => exact (T.kR t ht).trans (congrArg some (kr t ht).symm)
theorem Vl.kitN (T : Top K mg A) (h : Vl A G x v) : PySem.W.kitOne K (tyOf A v) (.ref A.cN) = some (isNo v) := by
  cases h with
  | nothing h => exact T.kNN
  | null => exact T.kT _ (by decide)
  | bool b => exact T.kT _ (by decide)
  | int i => exact T.kT _ (by decide)
  | text h => exact T.kT _ (by decide)
  | octets h => exact T.kT _ (by decide)
  | list h a => exact T.kT _ (by decide)
  | record h1 h2 a => exact T.kRN
theorem rIsi_ty (T : Top K mg A) (h : Vl A G x v) (e : Same G H) {t : String} (ht : t ∈ (["int", "bool", "tuple", "list"] : List String)) {Q : VK} (q : Q (.bl (isT v t)) H) : rIsi K [x, .ty t] H Q :=
  ⟨x, .ty t, _, _, _, rfl, .ty t, h.ty T e, h.kit T ht, q⟩
theorem rIsi_N (T : Top K mg A) (h : Vl A G x v) (e : Same G H) {Q : VK} (q : Q (.bl (isNo v)) H) : rIsi K [x, .ref A.cN] H Q :=
  ⟨x, .ref A.cN, _, _, _, rfl, .own A.cN, h.ty T e, h.kitN T, q⟩
end
end Tk
end
section
set_option Elab.async false
set_option linter.all false
set_option maxRecDepth 100000
set_option maxHeartbeats 2000000
/-! The walk, part 5: values.py: classes, numbers in octets. -/
namespace Tk
open PySem PySem.Spec PyProof.Rows L2
open RWire (Octets write writeText writeCount writeInt writeEntries low numOf)
def sp_Nothing : Ads → Sp := fun A => spFields A.cN (fun _ => [("is_there", .bl false)]) 0
def sp_Record : Ads → Sp := fun A => spFields A.cR (fun vs => match vs with | [m] => [("members", m)] | _ => []) 1
def sp_Reader : Ads → Sp := fun A => spFields A.cD (fun vs => match vs with | [m] => [("row", m), ("at", .int 0)] | _ => []) 1
def sp_is_integer : Ads → Sp := fun A vs H Q _ => ∃ (x : V) (v : RWire.Value) (G : Hp), vs = [x] ∧ Same G H ∧ Vl A G x v ∧ Q (.bl (isT v "int" && !isT v "bool")) H
def sp_number_at : Sp := fun vs H Q _ => ∃ (a : Addr) (i k : Int), vs = [.ref a, .int i, .int k] ∧ ∃ l : Octets, H a = some (.lst (Oc l)) ∧ 0 ≤ i ∧ 0 ≤ k ∧ k ≤ 8 ∧ i.toNat + k.toNat ≤ l.length ∧ Q (.int (numOf ((l.drop i.toNat).take k.toNat) : Nat)) H
def sp_octets_of : Sp := fun vs H Q _ => ∃ (i : Int) (k : Nat), vs = [.int i, .int k] ∧ k ≤ 8 ∧ 0 ≤ i ∧ ∃ G, Same G H ∧ ∀ p G' H', Grow Sno G H G' H' → H p = none → G' p = some (.lst (Oc (low k i.toNat))) → Q (.ref p) H'
local macro_rules | `(tactic| walk_at "rd") => `(tactic| simp only [sp_Nothing, sp_Record, sp_is_integer, sp_number_at, sp_octets_of, cxK, cxNK, cxNN, cxHK, tRet, tRetN, tChain, tC, tVar, rI0, rI, tOp, tUn, rU, tIf, tTest, tB, tNot, tAnd, tOr, tAndV, tOrV, tNotV, tCB, tCons, tNil, tNext, tSeq, tIfS, tDrop, tAsg, gName, tPar, tPar3, tAug, ipI, tCall, tCallS, E0, rEq, rNe, scal, rIxT, rIxL,  tTup, tLst, gTup, gCons, gNil, iTup, iList, iStr, iRng1, wipe, tSl, tPart, tNoPart, rIn,  tFld, sFld, sFldAug, tMeth, tMake, rAdd, tYes, tBM, rAppend, rExtend, rCat, rSetL, gSub,
  L2.start, List.map_cons, List.map_nil, List.length_cons, List.length_nil, Nat.reduceAdd, Nat.reduceSub, List.replicate_succ, List.replicate_zero, List.cons_append, List.nil_append, List.append_nil,
  List.getElem?_cons_zero, List.getElem?_cons_succ, List.set_cons_zero, List.set_cons_succ, Option.some.injEq, exists_eq_left, exists_eq_left', exists_eq_right, exists_eq_right', V.int.injEq, V.bl.injEq, V.str.injEq, V.ref.injEq, List.cons.injEq, true_and, and_true, and_assoc, exists_and_left, decide_eq_true_eq, Bool.false_eq_true, if_true, if_false, ite_true, ite_false, reduceIte, reduceCtorEq])

section
variable {P : Program} {w : World} {K : PySem.W.Frag} {mg : Str → Option Value} {base : Heap} {A : Ads}
abbrev s_Nothing_init : Stmt := inClass (top 4) 0
theorem sc_Nothing_init : FnScope ["self"] ["self"] (defScope s_Nothing_init) := ⟨rfl, rfl, rfl, by decide +kernel, rfl, by decide +kernel, by decide +kernel⟩
theorem ok_Nothing (T : Top K mg A) (D : ClAt K mg A.cN "Nothing" "Nothing.__init__" s_Nothing_init ["self"]) : Cl P w K mg base CX0 1 A.cN "Nothing" ["self"] (sp_Nothing A) := by
  refine D.ok sc_Nothing_init (fun vs H Q E h => ?_) (fun f cdv Ar outer s H vs Q E hr h => ?_)
  · obtain ⟨x, dx, args, H0, rfl, h, _⟩ := h
    rw [List.length_cons, h]
    rfl
  · obtain ⟨x, dx, args, H0, rfl, h, rfl, q⟩ := h
    obtain rfl := List.length_eq_zero_iff.mp h
    refine ⟨_, (pss_one (ps_fld (pv 0) pe_bl rfl)), ?_⟩
    walk_at "rd"
    refine ⟨_, dx, [], insN_at, T.clN, T.a_there, by decide, ?_⟩
    rw [insN_set]
    exact q
abbrev s_Record_init : Stmt := inClass (top 5) 0
theorem sc_Record_init : FnScope ["self", "members"] ["self", "members"] (defScope s_Record_init) := ⟨rfl, rfl, rfl, by decide +kernel, rfl, by decide +kernel, by decide +kernel⟩
theorem ok_Record (T : Top K mg A) (D : ClAt K mg A.cR "Record" "Record.__init__" s_Record_init ["self", "members"]) : Cl P w K mg base CX0 1 A.cR "Record" ["self", "members"] (sp_Record A) := by
  refine D.ok sc_Record_init (fun vs H Q E h => ?_) (fun f cdv Ar outer s H vs Q E hr h => ?_)
  · obtain ⟨x, dx, args, H0, rfl, h, _⟩ := h
    rw [List.length_cons, h]
    rfl
  · obtain ⟨x, dx, args, H0, rfl, h, rfl, q⟩ := h
    obtain ⟨m, rfl⟩ : ∃ m, args = [m] := by
      match args, h with
      | [m], _ => exact ⟨m, rfl⟩
    refine ⟨_, (pss_one (ps_fld (pv 0) (pv 1) rfl)), ?_⟩
    walk_at "rd"
    refine ⟨_, dx, [], insN_at, T.clR, T.a_members, by decide, ?_⟩
    rw [insN_set]
    exact q
abbrev s_Reader_init : Stmt := inClass (top 11) 0
theorem sc_Reader_init : FnScope ["self", "row"] ["self", "row"] (defScope s_Reader_init) := ⟨rfl, rfl, rfl, by decide +kernel, rfl, by decide +kernel, by decide +kernel⟩
theorem ok_Reader (T : Top K mg A) (D : ClAt K mg A.cD "Reader" "Reader.__init__" s_Reader_init ["self", "row"]) : Cl P w K mg base CX0 1 A.cD "Reader" ["self", "row"] (sp_Reader A) := by
  refine D.ok sc_Reader_init (fun vs H Q E h => ?_) (fun f cdv Ar outer s H vs Q E hr h => ?_)
  · obtain ⟨x, dx, args, H0, rfl, h, _⟩ := h
    rw [List.length_cons, h]
    rfl
  · obtain ⟨x, dx, args, H0, rfl, h, rfl, q⟩ := h
    obtain ⟨m, rfl⟩ : ∃ m, args = [m] := by
      match args, h with
      | [m], _ => exact ⟨m, rfl⟩
    refine ⟨_, (pss_cons (ps_fld (pv 0) (pv 1) rfl)
      (pss_one (ps_fld (pv 0) pe_int rfl))), ?_⟩
    walk_at "rd"
    refine ⟨_, dx, [], insN_at, T.clD, T.a_row, by decide, _, dx, putF "row" m [], by rw [insN_set]; exact insN_at, T.clD, T.a_at, (by decide : 1 < 1000), ?_⟩
    rw [insN_set, insN_set]
    exact q
abbrev s_is_integer : Stmt := top 8
theorem sc_is_integer : FnScope ["value"] ["value"] (defScope s_is_integer) := ⟨rfl, rfl, rfl, by decide +kernel, rfl, by decide +kernel, by decide +kernel⟩
theorem ok_is_integer (T : Top K mg A) (D : DefAt K mg "is_integer" s_is_integer ["value"]) : Fn P w K mg base CX0 1 "is_integer" ["value"] (sp_is_integer A) := by
  refine D.ok sc_is_integer (fun vs H Q E h => ?_) (fun f cdv Ar outer s H vs Q E hr h => ?_)
  · obtain ⟨x, v, G, rfl, _⟩ := h
    rfl
  · obtain ⟨x, v, G, rfl, hG, hv, q⟩ := h
    refine ⟨_, (pss_one (ps_ret (pe_and (pe_callB call_isi (by rfl) T.n_isinstance (by decide +kernel) (pa_cons (pv 0) (pa_cons (pe_bltn (v := .ty "int") (by rfl) T.n_int (by decide +kernel) rfl) pa_nil))) (pe_one (pe_not (pe_callB call_isi (by rfl) T.n_isinstance (by decide +kernel) (pa_cons (pv 0) (pa_cons (pe_bltn (v := .ty "bool") (by rfl) T.n_bool (by decide +kernel) rfl) pa_nil)))))))), ?_⟩
    walk_at "rd"
    refine rIsi_ty T hv hG (t := "int") (by decide) ?_
    refine ⟨_, rfl, ?_⟩
    cases hi : isT v "int" with
    | false => rw [hi] at q; exact q
    | true =>
      rw [hi] at q
      rw [if_pos rfl]
      refine rIsi_ty T hv hG (t := "bool") (by decide) ?_
      exact ⟨_, rfl, q⟩
theorem oc_get {l : Octets} {i : Nat} {c : UInt8} (h : l[i]? = some c) : (Oc l)[i]? = some (.int (c.toNat : Int)) := by
  unfold Oc
  rw [List.getElem?_map, h]
  rfl
abbrev s_number_at : Stmt := top 9
theorem sc_number_at : FnScope ["row", "at", "many", "found", "place"] ["row", "at", "many"] (defScope s_number_at) := ⟨rfl, rfl, rfl, by decide +kernel, rfl, by decide +kernel, by decide +kernel⟩
theorem ok_number_at (T : Top K mg A) (D : DefAt K mg "number_at" s_number_at ["row", "at", "many"]) : Fn P w K mg base CX0 1 "number_at" ["row", "at", "many"] sp_number_at := by
  refine D.ok sc_number_at (fun vs H Q E h => ?_) (fun f cdv Ar outer s H vs Q E hr h => ?_)
  · obtain ⟨a, i, k, rfl, _⟩ := h
    rfl
  · obtain ⟨a, i, k, rfl, l, hl, h0, k0, hk, hle, q⟩ := h
    refine ⟨_, (pss_cons (ps_set (i := 3) sc_number_at.nd rfl (.inl rfl) pe_int)
      (pss_cons (ps_for PassesOwn.never rfl (pi_range1 (by rfl) T.n_range (pa_cons (pv 2) pa_nil)) (pg_name (i := 4) sc_number_at.nd rfl (Or.inl rfl)) (pss_one (ps_aug (i := 3) sc_number_at.nd rfl (.inl rfl) (pe_op op_shl (pe_ix ix_list (pv 0) (pe_op op_add (pv 1) (pv 4)) (fun _ _ => rfl)) (pe_op op_mul pe_int (pv 4))) ip_add)))
      (pss_one (ps_ret (pv 3))))), ?_⟩
    walk_at "rd"
    refine ⟨_, rfl, k, rfl, by omega, by omega, ?_⟩
    refine for_range (n := k.toNat) (fun j σ H' => ∃ v, σ = [some (.ref a), some (.int i), some (.int k), some (.int (numOf ((l.drop i.toNat).take j) : Nat)), v] ∧ H' = H) ⟨none, rfl, rfl⟩ ?_ ?_
    · rintro j σ H' hj ⟨v, rfl, rfl⟩
      walk_at "rd"
      obtain ⟨c, hc⟩ : ∃ c, l[i.toNat + j]? = some c := ⟨_, List.getElem?_eq_getElem (by omega)⟩
      have hc8 := c.toNat_lt
      refine ⟨_, SqL.of hl, _, at_of (j := i.toNat + j) (by omega) (oc_get hc), .inl ⟨by decide, by decide⟩, _, rfl, ⟨by omega, by omega, by omega⟩, ?_⟩
      have hd : (l.drop i.toNat)[j]? = some c := by rw [List.getElem?_drop]; exact hc
      rw [take_one hd, Law.numOf_snoc, List.length_take, List.length_drop, Nat.min_eq_left (by omega), show (8 * (0 + (j : Int))).toNat = 8 * j by omega, Int.natCast_add, Int.natCast_mul, Int.natCast_pow, Int.pow_mul]
      rfl
    · rintro σ H' ⟨v, rfl, rfl⟩
      walk_at "rd"
      exact q
abbrev s_octets_of : Stmt := top 10
theorem sc_octets_of : FnScope ["number", "many", "place"] ["number", "many"] (defScope s_octets_of) := ⟨rfl, rfl, rfl, by decide +kernel, rfl, by decide +kernel, by decide +kernel⟩
theorem ok_octets_of (T : Top K mg A) (D : DefAt K mg "octets_of" s_octets_of ["number", "many"]) : Fn P w K mg base CX0 1 "octets_of" ["number", "many"] sp_octets_of := by
  refine D.ok sc_octets_of (fun vs H Q E h => ?_) (fun f cdv Ar outer s H vs Q E hr h => ?_)
  · obtain ⟨i, k, rfl, _⟩ := h
    rfl
  · obtain ⟨i, k, rfl, hk, h0, G, hG, q⟩ := h
    refine ⟨_, (pss_one (ps_ret (pe_lc (own := [("place", 2)]) (g := (gName 2)) rfl sc_octets_of.nd (pi_range1 (by rfl) T.n_range (pa_cons (pv 1) pa_nil)) (blkOk_by (N := ["number", "many", "place"]) (sc := defScope s_octets_of) (by decide +kernel)) (fun _ _ _ _ _ => (pg_name (i := 2) sc_octets_of.nd rfl (Or.inl rfl))) (fun _ _ _ _ _ => pts_nil) (fun _ _ _ _ _ => (pe_op op_and (pe_op op_shr (pv 0) (pe_op op_mul pe_int (pv 2))) pe_int))))), ?_⟩
    walk_at "rd"
    have s8 : (8 : Nat) ≤ sizeLine := by decide
    refine ⟨_, rfl, (k : Int), rfl, by omega, by omega, fun D hD => lc_pure walk_range (fun j => .int ((i / 2 ^ (8 * j)) % 256)) (by omega) (fun _ => True.intro) (fun j x acc H' Qe hj ⟨e, ex⟩ qe => ?_) ?_⟩
    · subst e ex
      refine ⟨rfl, ?_⟩
      walk_at "rd"
      refine ⟨.inl ⟨by decide, by decide⟩, by omega, ?_⟩
      rw [show (8 * (0 + (j : Int))).toNat = 8 * j by omega, show (255 : Int) = 2 ^ 8 - 1 by decide, Bits.bitAnd_mask 8 (Int.ediv_nonneg h0 (two_pow_nn _))]
      exact qe
    · refine q D _ _ ((Grow.refl hG).new hD) hD ?_
      rw [upd_same]
      congr 2
      rw [Int.toNat_natCast]
      have e := Law.low_len k i.toNat
      have e2 : k = (Oc (low k i.toNat)).length := by rw [Oc_len, e]
      conv => lhs; rw [e2]
      refine range_map fun j x hx => ?_
      have hj : j < k := by
        have h := (List.getElem?_eq_some_iff.mp hx).1
        rw [← e2] at h
        exact h
      rw [oc_get (Law.low_get k i.toNat j hj)] at hx
      rw [← Option.some.inj hx, Law.octet_nat]
      congr 1
      have e1 : i = (i.toNat : Int) := by omega
      conv => lhs; rw [e1]
      rw [Int.natCast_emod, Int.natCast_ediv, Int.natCast_pow, Int.pow_mul]
      rfl
end
end Tk
end
section
set_option Elab.async false
set_option linter.all false
set_option maxRecDepth 100000
set_option maxHeartbeats 2000000
/-! The walk, part 6: values.py: the reader. -/
namespace Tk
open PySem PySem.Spec PyProof.Rows L2
open RWire (Octets numOf readF readKind readMany readEntry readText noBig noWide)
/-- the reader at b stands at the i-th octet of the list at r -/
def Rd (A : Ads) (H : Hp) (b r : Addr) (i : Nat) : Prop := ∃ dx, H b = some (.ins A.cD dx [("row", .ref r), ("at", .int (i : Int))])
structure Rds (A : Ads) (G H : Hp) (b r : Addr) (i : Nat) (row : Octets) : Prop where
  s : Same G H
  nb : G b = none
  hr : G r = some (.lst (Oc row))
  d : Rd A H b r i
  l : i ≤ row.length
  z : row.length < 100000
def sp_number_told : Ads → Sp := fun A vs H Q _ => ∃ (b r : Addr) (k : Nat) (i : Nat) (row : Octets) (G : Hp), vs = [.ref b, .int k] ∧ Rds A G H b r i row ∧ k ≤ 8 ∧ i + k ≤ row.length ∧
  ∀ H', Grow (· = b) G H G H' → Rd A H' b r (i + k) → Q (.int (numOf ((row.drop i).take k) : Nat)) H'
def sp_octets : Ads → Sp := fun A vs H Q _ => ∃ (b r : Addr) (i : Nat) (row u rest : Octets) (G : Hp), vs = [.ref b] ∧ Rds A G H b r i row ∧ readText (row.drop i) = some (u, rest) ∧
  ∀ p G' H' i', Grow (· = b) G H G' H' → i < i' → i' ≤ row.length → rest = row.drop i' → Rd A H' b r i' → G' p = some (.lst (Oc u)) → Q (.ref p) H'
def sp_value : Ads → Nat → Sp := fun A m vs H Q _ => ∃ (b r : Addr) (i : Nat) (row rest : Octets) (v : RWire.Value) (G : Hp), vs = [.ref b] ∧ Rds A G H b r i row ∧ readF m (row.drop i) = some (v, rest) ∧ noBig v = true ∧ noWide v = true ∧
  ∀ x G' H' i', Grow (· = b) G H G' H' → i < i' → i' ≤ row.length → rest = row.drop i' → Rd A H' b r i' → Vl A G' x v → Q x H'
theorem Rds.on {A : Ads} {G H G' H' : Hp} {b r : Addr} {i i' : Nat} {row : Octets} (h : Rds A G H b r i row) (g : Grow (· = b) G H G' H') (d : Rd A H' b r i') (l : i' ≤ row.length) : Rds A G' H' b r i' row :=
  ⟨g.s, g.out h.nb (let ⟨_, e⟩ := h.d; some_ne e), g.g _ _ h.hr, d, l, h.z⟩
theorem rd_row {x y : V} : List.lookup ("row" : Str) [("row", x), ("at", y)] = some x := lk_here
theorem rd_at {x y : V} : List.lookup ("at" : Str) [("row", x), ("at", y)] = some y := (lk_past (by decide)).trans lk_here
theorem rd_put {x y z : V} : putF ("at" : Str) z [("row", x), ("at", y)] = [(("row" : Str), x), (("at" : Str), z)] := by rw [put_past (by decide), put_here]
theorem rd_no {k : Str} {x y : V} (h1 : (k == ("row" : Str)) = false) (h2 : (k == ("at" : Str)) = false) : List.lookup k [("row", x), ("at", y)] = none := (lk_past h1).trans ((lk_past h2).trans rfl)
theorem cut_Oc (u : Octets) {lo hi : Int} (h0 : 0 ≤ lo) (h1 : lo ≤ hi) (h2 : hi ≤ u.length) : cutV (Oc u) (some lo) (some hi) = Oc ((u.drop lo.toNat).take (hi.toNat - lo.toNat)) := by
  unfold cutV
  rw [Oc_len, six_of h0 (by omega), six_of (by omega) h2]
  unfold Oc
  rw [List.map_take, List.map_drop]
def sp_request : Ads → Sp := fun A vs H Q _ => ∃ (b r : Addr) (row : Octets) (d : Nat) (l : List RWire.Value) (G : Hp), vs = [.ref b] ∧ Rds A G H b r 0 row ∧ RWire.readRequest row = some (d, l) ∧ RWire.noBigMany l = true ∧ RWire.noWideMany l = true ∧
  ∀ t p xs G' H', Grow (· = b) G H G' H' → G' t = some (.tup [.int d, .ref p]) → G' p = some (.lst xs) → VlAll A G' xs l → Q (.ref t) H'
local macro_rules | `(tactic| walk_at "rd") => `(tactic| simp only [sp_number_at, sp_number_told, sp_octets, sp_value, cxK, cxNK, cxNN, cxHK, tRet, tRetN, tChain, tC, tVar, rI0, rI, tOp, tUn, rU, tIf, tTest, tB, tNot, tAnd, tOr, tAndV, tOrV, tNotV, tCB, tCons, tNil, tNext, tSeq, tIfS, tDrop, tAsg, gName, tPar, tPar3, tAug, ipI, tCall, tCallS, E0, rEq, rNe, scal, rIxT, rIxL,  tTup, tLst, gTup, gCons, gNil, iTup, iList, iStr, iRng1, wipe, tSl, tPart, tNoPart, rIn,  tFld, sFld, sFldAug, tMeth, tMake, rAdd, tYes, tBM, rAppend, rExtend, rCat, rSetL, gSub,
  L2.start, List.map_cons, List.map_nil, List.length_cons, List.length_nil, Nat.reduceAdd, Nat.reduceSub, List.replicate_succ, List.replicate_zero, List.cons_append, List.nil_append, List.append_nil,
  List.getElem?_cons_zero, List.getElem?_cons_succ, List.set_cons_zero, List.set_cons_succ, Option.some.injEq, exists_eq_left, exists_eq_left', exists_eq_right, exists_eq_right', V.int.injEq, V.bl.injEq, V.str.injEq, V.ref.injEq, List.cons.injEq, true_and, and_true, and_assoc, exists_and_left, decide_eq_true_eq, Bool.false_eq_true, if_true, if_false, ite_true, ite_false, reduceIte, reduceCtorEq])

section
variable {P : Program} {w : World} {K : PySem.W.Frag} {mg : Str → Option Value} {base : Heap} {A : Ads}
abbrev s_Reader_number_told : Stmt := inClass (top 11) 1
theorem sc_Reader_number_told : FnScope ["self", "many"] ["self", "many"] (defScope s_Reader_number_told) := ⟨rfl, rfl, rfl, by decide +kernel, rfl, by decide +kernel, by decide +kernel⟩
theorem ok_number_told (T : Top K mg A) (D : MtAt K A.cD "number_told" "Reader.number_told" s_Reader_number_told ["self", "many"]) (C_number_at : Fn P w K mg base CX0 1 "number_at" ["row", "at", "many"] sp_number_at) :
    Mt P w K mg base CX0 2 A.cD "number_told" ["self", "many"] (sp_number_told A) := by
  refine D.ok sc_Reader_number_told (fun vs H Q E h => ?_) (fun f cdv Ar outer s H vs Q E hr h => ?_)
  · obtain ⟨b, r, k, i, row, G, rfl, _⟩ := h
    rfl
  · obtain ⟨b, r, k, i, row, G, rfl, h, hk, hl, q⟩ := h
    obtain ⟨dx, hb⟩ := h.d
    refine ⟨_, (pss_cons (ps_fldaug (pv 0) (pv 1) in_add)
      (pss_one (ps_ret (pe_f C_number_at hr (by first | decide | omega) (pa_cons (pe_fld (pv 0) rfl) (pa_cons (pe_op op_sub (pe_fld (pv 0) rfl) (pv 1)) (pa_cons (pv 1) pa_nil))))))), ?_⟩
    walk_at "rd"
    refine ⟨_, _, _, hb, T.clD, T.a_at, _, rd_at, _, rfl, _, _, hb, (by decide : 2 < 1000), ?_⟩
    rw [rd_put]
    refine ⟨_, _, _, upd_same, T.clD, T.a_row, _, rd_row, _, _, _, upd_same, T.clD, T.a_at, _, rd_at, _, rfl, _, rfl, row, ?_, ?_⟩
    · exact ((Grow.refl (S := (· = b)) h.s).put h.nb (.inl rfl)).s _ _ h.hr
    · rw [show ((i : Int) + k - k).toNat = i by omega, Int.toNat_natCast, show ((i : Int) + k) = ((i + k : Nat) : Int) by omega]
      exact ⟨by omega, by omega, by omega, hl, q _ ((Grow.refl h.s).put h.nb (.inl rfl)) ⟨dx, upd_same⟩⟩
abbrev s_Reader_octets : Stmt := inClass (top 11) 2
theorem sc_Reader_octets : FnScope ["self", "many"] ["self"] (defScope s_Reader_octets) := ⟨rfl, rfl, rfl, by decide +kernel, rfl, by decide +kernel, by decide +kernel⟩
theorem ok_octets (T : Top K mg A) (D : MtAt K A.cD "octets" "Reader.octets" s_Reader_octets ["self"]) (M_number_told : Mt P w K mg base CX0 2 A.cD "number_told" ["self", "many"] (sp_number_told A)) :
    Mt P w K mg base CX0 3 A.cD "octets" ["self"] (sp_octets A) := by
  refine D.ok sc_Reader_octets (fun vs H Q E h => ?_) (fun f cdv Ar outer s H vs Q E hr h => ?_)
  · obtain ⟨b, r, i, row, u, rest, G, rfl, _⟩ := h
    rfl
  · obtain ⟨b, r, i, row, u, rest, G, rfl, h, ht, q⟩ := h
    obtain ⟨dx, hb⟩ := h.d
    obtain ⟨t1, t2, t3, t4⟩ := Law.text_some ht
    rw [List.length_drop] at t1
    rw [List.drop_drop] at t2 t3 t4
    rw [List.length_drop] at t2
    generalize hn : numOf ((row.drop i).take 4) = n at t2 t3 t4
    refine ⟨_, (pss_cons (ps_set (i := 1) sc_Reader_octets.nd rfl (.inl rfl) (pe_mtf M_number_told hr (by first | decide | omega) (pv 0) (pa_cons pe_int pa_nil)))
      (pss_cons (ps_fldaug (pv 0) (pv 1) in_add)
      (pss_one (ps_ret (pe_slice sl_list (pe_fld (pv 0) rfl) (po_some (pe_op op_sub (pe_fld (pv 0) rfl) (pv 1))) (po_some (pe_fld (pv 0) rfl))))))), ?_⟩
    walk_at "rd"
    refine ⟨_, _, hb, rd_no (by decide) (by decide), ?_⟩
    refine ⟨r, 4, rfl, i, row, G, h, by omega, by omega, fun H1 g1 d1 => ?_⟩
    rw [hn]
    obtain ⟨dx1, hb1⟩ := d1
    refine ⟨_, _, _, hb1, T.clD, T.a_at, _, rd_at, _, rfl, _, _, hb1, (by decide : 2 < 1000), ?_⟩
    rw [rd_put]
    rw [show ((i + 4 : Nat) : Int) + (n : Int) = ((i + 4 + n : Nat) : Int) by omega]
    have h1 := h.on g1 ⟨dx1, hb1⟩ (by omega)
    have g2 : Grow (· = b) G H G (upd H1 b (.ins A.cD dx1 [("row", .ref r), ("at", .int ((i + 4 + n : Nat) : Int))])) := g1.put h1.nb (.inl rfl)
    refine ⟨_, _, _, upd_same, T.clD, T.a_row, _, rd_row, _, _, _, upd_same, T.clD, T.a_at, _, rd_at, _, rfl, _, _, _, upd_same, T.clD, T.a_at, _, rd_at, _, rfl, r, Oc row, rfl, SqL.of (g2.s _ _ h.hr), fun p hp => ?_⟩
    rw [cut_Oc row (by omega) (by omega) (by omega), show (((i + 4 + n : Nat) : Int) - (n : Int)).toNat = i + 4 by omega, Int.toNat_natCast, show i + 4 + n - (i + 4) = n by omega, ← t3]
    refine q p _ _ (i + 4 + n) (g2.new hp) (by omega) (by omega) (by rw [t4, List.drop_drop, Nat.add_assoc]) ⟨dx1, ?_⟩ upd_same
    rw [upd_ne (ne_of_none upd_same hp)]
    exact upd_same
theorem nk {row : Octets} {i : Nat} {k : UInt8} {b : Octets} (e : row.drop i = k :: b) : numOf ((row.drop i).take 1) = k.toNat ∧ b = row.drop (i + 1) ∧ i + 1 ≤ row.length := by
  refine ⟨?_, ?_, ?_⟩
  · rw [e]
    show k.toNat + 256 * 0 = k.toNat
    omega
  · rw [← List.drop_drop, e]
    rfl
  · have h := congrArg List.length e
    rw [List.length_drop, List.length_cons] at h
    omega
theorem nothing_new {A : Ads} {S : Addr → Prop} {G0 H0 G H : Hp} {Q : VK} (g : Grow S G0 H0 G H) (q : ∀ x G' H', Grow S G0 H0 G' H' → Grow Sno G H G' H' → Vl A G' (.ref x) .nothing → Q (.ref x) H') {x dx : Addr} (hx : H x = none) (hd : H dx = none) (ne : dx ≠ x) :
    sp_Nothing A [.ref x] (upd (upd H dx (.own x)) x (.ins A.cN dx [])) (fun v H2 => v = .non ∧ Q (.ref x) H2) E0 :=
  ⟨x, dx, [], H, rfl, rfl, rfl, rfl, q x _ _ (g.insNew hx hd ne) ((Grow.refl g.s).insNew hx hd ne) (.nothing upd_same)⟩
theorem record_new {A : Ads} {S : Addr → Prop} {G0 H0 G H : Hp} {Q : VK} {m : Addr} {ms : List Addr} {l : List (RWire.Text × RWire.Value)} (g : Grow S G0 H0 G H) (hm : G m = some (.lst (ms.map V.ref))) (hl : VlEnt A G ms l)
    (q : ∀ x G' H', Grow S G0 H0 G' H' → Grow Sno G H G' H' → Vl A G' (.ref x) (.record l) → Q (.ref x) H') {x dx : Addr} (hx : H x = none) (hd : H dx = none) (ne : dx ≠ x) :
    sp_Record A [.ref x, .ref m] (upd (upd H dx (.own x)) x (.ins A.cR dx [])) (fun v H2 => v = .non ∧ Q (.ref x) H2) E0 := by
  have g2 : Grow Sno G H (upd G x (.ins A.cR dx [("members", .ref m)])) (insN H A.cR x dx [("members", .ref m)]) := (Grow.refl g.s).insNew hx hd ne
  exact ⟨x, dx, [.ref m], H, rfl, rfl, rfl, rfl, q x _ _ (g.insNew hx hd ne) g2 (.record upd_same (g2.g _ _ hm) (hl.mono g2.g))⟩
structure InvL (A : Ads) (G H : Hp) (b r D : Addr) (row rest : Octets) (m n i0 : Nat) (l : List RWire.Value) (j : Nat) (H' : Hp) : Prop where
  ex : ∃ (i' : Nat) (xs : List V) (ls lr : List RWire.Value) (G1 : Hp), ls.length = j ∧ l = ls ++ lr ∧ readMany (readF m) (n - j) (row.drop i') = some (lr, rest) ∧ i0 + j ≤ i' ∧ i' ≤ row.length ∧ Grow (· = b) G H G1 H' ∧ Rd A H' b r i' ∧
    H' D = some (.lst xs) ∧ G1 D = none ∧ VlAll A G1 xs ls ∧ RWire.noBigMany lr = true ∧ RWire.noWideMany lr = true
theorem invL_step {A : Ads} {G H H' : Hp} {Q : VK} {b r D : Addr} {row rest : Octets} {m n i0 j : Nat} {l : List RWire.Value} (h0 : Rds A G H b r i0 row) (hD : H D = none) (hj : j < n) (h : InvL A G H b r D row rest m n i0 l j H') 
    (q : ∀ x H2 acc, H2 D = some (.lst acc) → acc.length < sizeLine → InvL A G H b r D row rest m n i0 l (j + 1) (upd H2 D (.lst (acc ++ [x]))) → Q x H2) : sp_value A m [.ref b] H' Q E0 := by
  obtain ⟨i', xs, ls, lr, G1, e1, e2, e3, e4, e5, g, d, hD', hGD, hv, n1, n2⟩ := h.ex
  obtain ⟨n', en⟩ : ∃ n', n - j = n' + 1 := ⟨n - j - 1, by omega⟩
  rw [en] at e3
  obtain ⟨v, b', lr', f1, f2, rfl⟩ := Law.readMany_succ e3
  have h1 := h0.on g d e5
  refine ⟨b, r, i', row, b', v, G1, rfl, h1, f1, (Law.noBig_cons n1).1, (Law.noWide_cons n2).1, fun x G2 H2 i2 g2 l1 l2 eb d2 hx => ?_⟩
  subst eb
  have neb : D ≠ b := fun z => by
    obtain ⟨dx, hb⟩ := d
    rw [z, hb] at hD'
    cases hD'
  have hD2 : H2 D = some (.lst xs) := g2.keep neb hD'
  have hGD2 : G2 D = none := g2.out hGD (some_ne hD')
  have hz := h0.z
  have hsz : 100000 ≤ sizeLine := by decide
  refine q x H2 xs hD2 (by rw [hv.len]; omega) ⟨i2, xs ++ [x], ls ++ [v], lr', G2, by rw [List.length_append, e1]; rfl, by rw [e2, List.append_assoc]; rfl, by rw [show n - (j + 1) = n' by omega]; exact f2, by omega, l2, (g.trans g2 fun _ z => .inl z).put hGD2 (.inr hD), ?_, upd_same, hGD2,
    (hv.mono g2.g).snoc hx, (Law.noBig_cons n1).2, (Law.noWide_cons n2).2⟩
  obtain ⟨dx, hb⟩ := d2
  exact ⟨dx, by rw [upd_ne (Ne.symm neb)]; exact hb⟩
structure InvR (A : Ads) (G H : Hp) (b r D : Addr) (row rest : Octets) (m n i0 : Nat) (l : List (RWire.Text × RWire.Value)) (j : Nat) (H' : Hp) : Prop where
  ex : ∃ (i' : Nat) (xs : List Addr) (ls lr : List (RWire.Text × RWire.Value)) (G1 : Hp), ls.length = j ∧ l = ls ++ lr ∧ readMany (readEntry (readF m)) (n - j) (row.drop i') = some (lr, rest) ∧ i0 + j ≤ i' ∧ i' ≤ row.length ∧ Grow (· = b) G H G1 H' ∧ Rd A H' b r i' ∧
    H' D = some (.lst (xs.map V.ref)) ∧ G1 D = none ∧ VlEnt A G1 xs ls ∧ RWire.noBigEntries lr = true ∧ RWire.noWideEntries lr = true
abbrev s_Reader_value : Stmt := inClass (top 11) 3
theorem sc_Reader_value : FnScope ["self", "kind", "found", "members", "turn", "name"] ["self"] (defScope s_Reader_value) := ⟨rfl, rfl, rfl, by decide +kernel, rfl, by decide +kernel, by decide +kernel⟩
theorem ok_value1 (T : Top K mg A) (D : MtAt K A.cD "value" "Reader.value" s_Reader_value ["self"]) (C_Nothing : Cl P w K mg base CX0 1 A.cN "Nothing" ["self"] (sp_Nothing A)) (C_Record : Cl P w K mg base CX0 1 A.cR "Record" ["self", "members"] (sp_Record A))
    (M_number_told : Mt P w K mg base CX0 2 A.cD "number_told" ["self", "many"] (sp_number_told A)) (M_octets : Mt P w K mg base CX0 3 A.cD "octets" ["self"] (sp_octets A)) (m : Nat) (M_value : Mt P w K mg base CX0 (m + 4) A.cD "value" ["self"] (sp_value A m)) : 
    Mt P w K mg base CX0 (m + 1 + 4) A.cD "value" ["self"] (sp_value A (m + 1)) := by
  refine D.ok sc_Reader_value (fun vs H Q E h => ?_) (fun f cdv Ar outer s H vs Q E hr h => ?_)
  · obtain ⟨b, r, i, row, rest, v, G, rfl, _⟩ := h
    rfl
  · obtain ⟨b, r, i, row, rest, v, G, rfl, h, hv, hb, hw, q⟩ := h
    obtain ⟨dx, hb0⟩ := h.d
    obtain ⟨m', k, b', em, eb, hk⟩ := Law.readF_some hv
    obtain rfl := Nat.succ.inj em
    obtain ⟨n1, n2, n3⟩ := nk eb
    subst n2
    refine ⟨_, (pss_cons (ps_set (i := 1) sc_Reader_value.nd rfl (.inl rfl) (pe_mtf M_number_told hr (by first | decide | omega) (pv 0) (pa_cons pe_int pa_nil)))
      (pss_cons (ps_if (pt_cmpR op_eq (pv 1) pe_int (nomark _)) (pss_one (ps_ret (pe_mk0f C_Nothing hr (by first | decide | omega)))) pss_nil)
      (pss_cons (ps_if (pt_cmpR op_eq (pv 1) pe_int (nomark _)) (pss_one (ps_ret pe_non)) pss_nil)
      (pss_cons (ps_if (PW.pt (pw_or (pt_cmpR op_eq (pv 1) pe_int (nomark _)) (pw_or1 (pt_cmpR op_eq (pv 1) pe_int (nomark _))))) (pss_one (ps_ret (pe_cmpR op_eq (pv 1) pe_int (nomark _)))) pss_nil)
      (pss_cons (ps_if (pt_cmpR op_eq (pv 1) pe_int (nomark _)) (pss_cons (ps_set (i := 2) sc_Reader_value.nd rfl (.inl rfl) (pe_mtf M_number_told hr (by first | decide | omega) (pv 0) (pa_cons pe_int pa_nil)))
      (pss_one (ps_ret (pe_ifExp (pt_cmpR op_eq (pe_op op_shr (pv 2) pe_int) pe_int (nomark _)) (pe_op op_sub (pv 2) (pe_op op_shl pe_int pe_int)) (pv 2))))) pss_nil)
      (pss_cons (ps_if (pt_cmpR op_eq (pv 1) pe_int (nomark _)) (pss_one (ps_ret (pe_callTy call_tuple_of (by rfl) T.n_tuple (by decide +kernel) (pa_cons (pe_mt0f M_octets hr (by first | decide | omega) (pv 0)) pa_nil)))) pss_nil)
      (pss_cons (ps_if (pt_cmpR op_eq (pv 1) pe_int (nomark _)) (pss_one (ps_ret (pe_callTy call_list_of (by rfl) T.n_list (by decide +kernel) (pa_cons (pe_mt0f M_octets hr (by first | decide | omega) (pv 0)) pa_nil)))) pss_nil)
      (pss_cons (ps_if (pt_cmpR op_eq (pv 1) pe_int (nomark _)) (pss_one (ps_ret (pe_lc (own := [("turn", 4)]) (g := (gName 4)) rfl sc_Reader_value.nd (pi_range1 (by rfl) T.n_range (pa_cons (pe_mtf M_number_told hr (by first | decide | omega) (pv 0) (pa_cons pe_int pa_nil)) pa_nil)) (blkOk_by (N := ["self", "kind", "found", "members", "turn", "name"]) (sc := defScope s_Reader_value) (by decide +kernel)) (fun _ _ _ _ _ => (pg_name (i := 4) sc_Reader_value.nd rfl (Or.inl rfl))) (fun _ _ _ _ _ => pts_nil) (fun _ _ _ _ _ => (pe_mt0f M_value hr (by first | decide | omega) (pv 0)))))) pss_nil)
      (pss_cons (ps_set (i := 3) sc_Reader_value.nd rfl (.inl rfl) (pe_lst pa_nil))
      (pss_cons (ps_for PassesOwn.never rfl (pi_range1 (by rfl) T.n_range (pa_cons (pe_mtf M_number_told hr (by first | decide | omega) (pv 0) (pa_cons pe_int pa_nil)) pa_nil)) (pg_name (i := 4) sc_Reader_value.nd rfl (Or.inl rfl)) (pss_cons (ps_set (i := 5) sc_Reader_value.nd rfl (.inl rfl) (pe_callTy call_tuple_of (by rfl) T.n_tuple (by decide +kernel) (pa_cons (pe_mt0f M_octets hr (by first | decide | omega) (pv 0)) pa_nil)))
      (pss_one (ps_expr (pe_bm PySem.F.plainAttrs_list PySem.F.slot_list_append PySem.F.type_list_append mt_append (pv 3) (pa_cons (pe_tup (pa_cons (pv 5) (pa_cons (pe_mt0f M_value hr (by first | decide | omega) (pv 0)) pa_nil))) pa_nil))))))
      (pss_one (ps_ret (pe_mkf C_Record hr (by first | decide | omega) (pa_cons (pv 3) pa_nil)))))))))))))), ?_⟩
    walk_at "rd"
    refine ⟨_, _, hb0, rd_no (by decide) (by decide), ?_⟩
    refine ⟨r, 1, rfl, i, row, G, h, by omega, by omega, fun H1 g1 d1 => ?_⟩
    rw [n1]
    have h1 := h.on g1 d1 (by omega)
    obtain ⟨dx1, hb1⟩ := d1
    rcases Law.kind_some hk hb hw with ⟨e, rfl, rfl⟩ | ⟨e, rfl, rfl⟩ | ⟨e, rfl, rfl⟩ | ⟨e, rfl, rfl⟩ | ⟨e, z⟩ | ⟨e, z⟩ | ⟨e, z⟩ | ⟨e, z⟩ | ⟨e, z⟩ <;> rw [e]
    · rw [if_pos (by decide)]
      intro x dy hx hd ne
      refine nothing_new g1 (fun x G2 H2 g2 g3 hv2 => ?_) hx hd ne
      exact q _ G2 H2 (i + 1) g2 (by omega) n3 rfl ⟨dx1, g3.same _ _ hb1⟩ hv2
    · rw [if_neg (by decide), if_pos (by decide)]
      exact q _ G H1 (i + 1) g1 (by omega) n3 rfl ⟨dx1, hb1⟩ .null
    · rw [if_neg (by decide), if_neg (by decide), if_pos (by decide)]
      exact q _ G H1 (i + 1) g1 (by omega) n3 rfl ⟨dx1, hb1⟩ (.bool false)
    · rw [if_neg (by decide), if_neg (by decide), if_neg (by decide), if_pos (by decide)]
      exact q _ G H1 (i + 1) g1 (by omega) n3 rfl ⟨dx1, hb1⟩ (.bool true)
    · rw [if_neg (by decide), if_neg (by decide), if_neg (by decide), if_neg (by decide), if_pos (by decide)]
      obtain ⟨z1, rfl, rfl⟩ := Law.int_some z
      rw [List.length_drop] at z1
      refine ⟨_, _, hb1, rd_no (by decide) (by decide), r, 8, rfl, i + 1, row, G, h1, by omega, by omega, fun H2 g2 d2 => ⟨by decide, ?_⟩⟩
      generalize hN : numOf ((row.drop (i + 1)).take 8) = N at q ⊢
      have hlt : N < 2 ^ 64 := by
        rw [← hN]
        refine Nat.lt_of_lt_of_le (Law.numOf_lt _) (Nat.le_trans (Nat.pow_le_pow_right (by decide) (by rw [List.length_take]; exact Nat.min_le_left _ _)) (by decide : 256 ^ 8 ≤ 2 ^ 64))
      have e63 : (2 : Int) ^ Int.toNat 63 = 9223372036854775808 := by decide
      have e64 : (1 : Int) * 2 ^ Int.toNat 64 = 18446744073709551616 := by decide
      rw [e63, e64]
      have fin : ∀ j : Int, j = RWire.intOf N → Q (.int j) H2 := fun j e => by
        subst e
        exact q _ G H2 (i + 1 + 8) (g1.trans g2 fun _ z => .inl z) (by omega) (by omega) (by rw [List.drop_drop]) d2 (.int _)
      unfold RWire.intOf at fin
      by_cases hN2 : N < 9223372036854775808
      · rw [if_neg (by omega)]
        exact fin _ (if_pos (decide_eq_true hN2)).symm
      · rw [if_pos (by omega)]
        refine ⟨⟨by decide, by decide, by decide⟩, fin _ ?_⟩
        rw [if_neg (by simpa using hN2)]
        rfl
    · rw [if_neg (by decide), if_neg (by decide), if_neg (by decide), if_neg (by decide), if_neg (by decide), if_pos (by decide)]
      obtain ⟨u, z1, rfl⟩ := Law.words_some z
      refine ⟨_, _, hb1, rd_no (by decide) (by decide), r, i + 1, row, u, rest, G, h1, z1, fun p G2 H2 i2 g2 l1 l2 er d2 hp => ⟨Oc u, .inl ⟨SqL.of (g2.s _ _ hp), fun l hl => ?_⟩⟩⟩
      have g3 : Grow (· = b) G H G2 H2 := g1.trans g2 fun _ z => .inl z
      obtain ⟨dx2, hb2⟩ := d2
      exact q _ _ _ i2 (g3.new hl) (by omega) l2 er ⟨dx2, same_new hl _ _ hb2⟩ (.text upd_same)
    · rw [if_neg (by decide), if_neg (by decide), if_neg (by decide), if_neg (by decide), if_neg (by decide), if_neg (by decide), if_neg (by decide), if_pos (by decide)]
      obtain ⟨n, b', l, z1, z2, rfl⟩ := Law.list_some z
      obtain ⟨y1, y2, rfl⟩ := Law.num_some z1
      rw [List.length_drop] at y1
      rw [List.drop_drop] at z2
      subst y2
      have hlt : numOf ((row.drop (i + 1)).take 4) < 2 ^ 32 := Nat.lt_of_lt_of_le (Law.numOf_lt _) (Nat.le_trans (Nat.pow_le_pow_right (by decide) (by rw [List.length_take]; exact Nat.min_le_left _ _)) (by decide : 256 ^ 4 ≤ 2 ^ 32))
      generalize hN : numOf ((row.drop (i + 1)).take 4) = N at z2 hlt
      refine ⟨V.ref b, rfl, b, _, _, rfl, hb1, rd_no (by decide) (by decide), b, r, 4, i + 1, row, G, rfl, h1, by omega, by omega, fun H2 g2 d2 => ⟨_, rfl, ?_⟩⟩
      rw [hN]
      refine ⟨by omega, by omega, fun D hD => ?_⟩
      have h2 := h1.on g2 d2 (by omega)
      have g3 : Grow (· = b) G H G H2 := g1.trans g2 fun _ z => .inl z
      have neb : D ≠ b := fun z => by
        obtain ⟨dx, hb⟩ := d2
        rw [z, hb] at hD
        cases hD
      refine lc_it walk_range (InvL A G H2 b r D row rest m N (i + 1 + 4) l) ⟨i + 1 + 4, [], [], l, G, rfl, rfl, z2, by omega, by omega, (Grow.refl h2.s).tmp hD, ?_, upd_same, h2.s.free hD, .nil, Law.noBig_list hb, Law.noWide_list hw⟩ (fun _ _ _ _ => True.intro) (fun j x H' H3 hj hi ⟨e1, e2⟩ => ?_) fun H3 hi => ?_
      · obtain ⟨dx, hb⟩ := d2
        exact ⟨dx, by rw [upd_ne (Ne.symm neb)]; exact hb⟩
      · subst e1
        refine ⟨rfl, ?_⟩
        rw [Int.toNat_natCast] at hj
        have hdb : ∃ dx, H3 b = some (.ins A.cD dx [("row", .ref r), ("at", .int (hi.ex.choose : Int))]) := hi.ex.choose_spec.choose_spec.choose_spec.choose_spec.choose_spec.2.2.2.2.2.2.1
        obtain ⟨dx3, hb3⟩ := hdb
        exact ⟨V.ref b, rfl, b, _, _, rfl, hb3, rd_no (by decide) (by decide), invL_step h2 hD hj hi fun x H2 acc e4 e5 e6 => ⟨acc, e4, e5, e6⟩⟩
      · rw [Int.toNat_natCast] at hi
        obtain ⟨i', xs, ls, lr, G1, e1, e2, e3, e4, e5, g, d, hD', hGD, hv, n1, n2⟩ := hi.ex
        rw [Nat.sub_self, Law.readMany_zero] at e3
        have e3 := Option.some.inj e3
        cases e3
        rw [List.append_nil] at e2
        subst e2
        exact q _ _ _ i' ((g3.trans g fun _ z => .inl z).fix (g3.back hD) hD' hGD) (by omega) e5 rfl d (.list upd_same (hv.mono (same_new hGD)))
    · rw [if_neg (by decide), if_neg (by decide), if_neg (by decide), if_neg (by decide), if_neg (by decide), if_neg (by decide), if_neg (by decide), if_neg (by decide)]
      obtain ⟨n, b', l, z1, z2, rfl⟩ := Law.record_some z
      obtain ⟨y1, y2, rfl⟩ := Law.num_some z1
      rw [List.length_drop] at y1
      rw [List.drop_drop] at z2
      subst y2
      have hlt : numOf ((row.drop (i + 1)).take 4) < 2 ^ 32 := Nat.lt_of_lt_of_le (Law.numOf_lt _) (Nat.le_trans (Nat.pow_le_pow_right (by decide) (by rw [List.length_take]; exact Nat.min_le_left _ _)) (by decide : 256 ^ 4 ≤ 2 ^ 32))
      generalize hN : numOf ((row.drop (i + 1)).take 4) = N at z2 hlt
      refine ⟨Nat.zero_le _, fun D hD => ?_⟩
      have neb : D ≠ b := fun z => by rw [z, hb1] at hD; cases hD
      have hb1' : upd H1 D (.lst []) b = some (.ins A.cD dx1 [("row", .ref r), ("at", .int ((i + 1 : Nat) : Int))]) := by rw [upd_ne (Ne.symm neb)]; exact hb1
      have h1' : Rds A G (upd H1 D (.lst [])) b r (i + 1) row := ⟨((Grow.refl h1.s).tmp (S := (· = b)) hD).s, h1.nb, h1.hr, ⟨dx1, hb1'⟩, n3, h1.z⟩
      refine ⟨V.ref b, rfl, b, _, _, rfl, hb1', rd_no (by decide) (by decide), b, r, 4, i + 1, row, G, rfl, h1', by omega, by omega, fun H2 g2 d2 => ⟨_, rfl, ?_⟩⟩
      rw [hN]
      refine ⟨by omega, by omega, ?_⟩
      have h2 := h1'.on g2 d2 (by omega)
      have g3 : Grow (· = b) G H G H2 := (g1.tmp hD).trans g2 fun _ z => .inl z
      have hHD : H D = none := g1.back hD
      have hD2 : H2 D = some (.lst []) := g2.keep neb upd_same
      refine for_range (fun j σ H' => ∃ v4 v5, σ = [some (.ref b), some (.int ((8 : Nat) : Int)), none, some (.ref D), v4, v5] ∧ InvR A G H b r D row rest m N (i + 1 + 4) l j H')
        ⟨none, none, rfl, i + 1 + 4, [], [], l, G, rfl, rfl, z2, by omega, by omega, g3, d2, hD2, h1.s.free hD, .nil, Law.noBig_rec hb, Law.noWide_rec hw⟩ (fun j σ H' hj hi => ?_) fun σ H' hi => ?_
      · rw [Int.toNat_natCast] at hj
        obtain ⟨v4, v5, rfl, hi⟩ := hi
        obtain ⟨i', xs, ls, lr, G1, e1, e2, e3, e4, e5, g, d, hD', hGD, hv, w1, w2⟩ := hi.ex
        obtain ⟨n', en⟩ : ∃ n', N - j = n' + 1 := ⟨N - j - 1, by omega⟩
        rw [en] at e3
        obtain ⟨v, b', lr', f1, f2, rfl⟩ := Law.readMany_succ e3
        obtain ⟨b2, f3, f4⟩ := Law.entry_some f1
        have hr1 := h.on g d e5
        obtain ⟨dx3, hb3⟩ := d
        walk_at "rd"
        refine ⟨_, _, hb3, rd_no (by decide) (by decide), r, i', row, v.1, b2, G1, hr1, f3, fun p G2 H2 i2 g4 l1 l2 er d4 hp => ⟨Oc v.1, .inl ⟨SqL.of (g4.s _ _ hp), fun l hl => ?_⟩⟩⟩
        subst er
        have g5 : Grow (· = b) G1 H' (upd G2 l (.tup (Oc v.1))) (upd H2 l (.tup (Oc v.1))) := g4.new hl
        obtain ⟨dx4, hb4⟩ := d4
        have hb5 := same_new hl (o := .tup (Oc v.1)) _ _ hb4
        have hr2 := hr1.on g5 ⟨dx4, hb5⟩ l2
        have hD5 : upd H2 l (.tup (Oc v.1)) D = some (.lst (xs.map V.ref)) := g5.keep neb hD'
        refine ⟨.inl ⟨rfl, _, SqL.of hD5⟩, _, _, hb5, rd_no (by decide) (by decide), r, i2, row, b', v.2, _, hr2, f4, (Law.noBig_ent w1).1, (Law.noWide_ent w2).1, fun x G3 H3 i3 g6 l3 l4 er d6 hx => ?_⟩
        subst er
        refine ⟨by decide, fun p5 hp5 => ?_⟩
        have g7 := g6.new (o := .tup [.ref l, x]) hp5
        have g8 : Grow (· = b) G H _ _ := (g.trans (g5) fun _ z => .inl z).trans g7 fun _ z => .inl z
        have hD7 : upd H3 p5 (.tup [.ref l, x]) D = some (.lst (xs.map V.ref)) := g7.keep neb hD5
        have hGD7 := g7.out (g5.out hGD (some_ne hD')) (some_ne hD5)
        obtain ⟨dx6, hb6⟩ := d6
        have hz := h.z
        have hsz : 100000 ≤ sizeLine := by decide
        have hlen := hv.len
        refine ⟨_, hD7, by rw [List.length_map]; omega, i3, xs ++ [p5], ls ++ [v], lr', _, by rw [List.length_append, e1]; rfl, by rw [e2, List.append_assoc]; rfl, by rw [show N - (j + 1) = n' by omega]; exact f2, by omega, l4, g8.put hGD7 (.inr hHD), ?_, ?_, hGD7, ?_, (Law.noBig_ent w1).2, (Law.noWide_ent w2).2⟩
        · refine ⟨dx6, ?_⟩
          rw [upd_ne (Ne.symm neb)]
          exact same_new hp5 _ _ hb6
        · rw [upd_same, List.map_append]
          rfl
        · have sg := same_new (H := G3) (p := p5) (o := .tup [.ref l, x])
          refine (hv.mono (g5.g.trans g7.g)).snoc (n := l) (x := x) upd_same ?_ (hx.mono ?_)
          · exact g7.g _ _ upd_same
          · exact same_new ((Grow.refl hr2.s).trans g6 (fun _ z => .inl z) |>.s.free hp5)
      · rw [Int.toNat_natCast] at hi
        obtain ⟨v4, v5, rfl, hi⟩ := hi
        obtain ⟨i', xs, ls, lr, G1, e1, e2, e3, e4, e5, g, d, hD', hGD, hv, n1, n2⟩ := hi.ex
        rw [Nat.sub_self, Law.readMany_zero] at e3
        have e3 := Option.some.inj e3
        cases e3
        rw [List.append_nil] at e2
        subst e2
        have gf := g.fix hHD hD' hGD
        walk_at "rd"
        intro x dy hx hd ne
        refine record_new gf upd_same (hv.mono (same_new hGD)) (fun x G2 H2 g2 g3 hv2 => ?_) hx hd ne
        obtain ⟨dx5, hb5⟩ := d
        exact q _ G2 H2 i' g2 (by omega) e5 rfl ⟨dx5, g3.same _ _ hb5⟩ hv2
    · rw [if_neg (by decide), if_neg (by decide), if_neg (by decide), if_neg (by decide), if_neg (by decide), if_neg (by decide), if_pos (by decide)]
      obtain ⟨u, z1, rfl⟩ := Law.octets_some z
      refine ⟨_, _, hb1, rd_no (by decide) (by decide), r, i + 1, row, u, rest, G, h1, z1, fun p G2 H2 i2 g2 l1 l2 er d2 hp => ⟨Oc u, .inl (SqL.of (g2.s _ _ hp)), fun l hl => ?_⟩⟩
      have g3 : Grow (· = b) G H G2 H2 := g1.trans g2 fun _ z => .inl z
      obtain ⟨dx2, hb2⟩ := d2
      exact q _ _ _ i2 (g3.new hl) (by omega) l2 er ⟨dx2, same_new hl _ _ hb2⟩ (.octets upd_same)
theorem ok_value (T : Top K mg A) (D : MtAt K A.cD "value" "Reader.value" s_Reader_value ["self"]) (C_Nothing : Cl P w K mg base CX0 1 A.cN "Nothing" ["self"] (sp_Nothing A)) (C_Record : Cl P w K mg base CX0 1 A.cR "Record" ["self", "members"] (sp_Record A))
    (M_number_told : Mt P w K mg base CX0 2 A.cD "number_told" ["self", "many"] (sp_number_told A)) (M_octets : Mt P w K mg base CX0 3 A.cD "octets" ["self"] (sp_octets A)) : ∀ m : Nat, Mt P w K mg base CX0 (m + 4) A.cD "value" ["self"] (sp_value A m)
  | 0 => by
    refine D.ok sc_Reader_value (fun vs H Q E h => ?_) (fun f cdv Ar outer s H vs Q E hr h => ?_)
    · obtain ⟨b, r, i, row, rest, v, G, rfl, _⟩ := h
      rfl
    · obtain ⟨b, r, i, row, rest, v, G, _, _, h, _⟩ := h
      cases h
  | m + 1 => ok_value1 T D C_Nothing C_Record M_number_told M_octets m (ok_value T D C_Nothing C_Record M_number_told M_octets m)
theorem request_some {row : Octets} {d : Nat} {l : List RWire.Value} (h : RWire.readRequest row = some (d, l)) : 3 ≤ row.length ∧ d = numOf (row.take 2) ∧ readMany (readF 32) (numOf ((row.drop 2).take 1)) (row.drop 3) = some (l, []) := by
  match row, h with
  | a :: b :: n :: r, h =>
    unfold RWire.readRequest at h
    simp only at h
    cases ha : RWire.readArgs n.toNat r with
    | none => rw [ha] at h; cases h
    | some x =>
      rw [ha] at h
      have h := Option.some.inj h
      cases h
      refine ⟨by simp, ?_, ?_⟩
      · show a.toNat + 256 * b.toNat = a.toNat + 256 * (b.toNat + 256 * 0)
        omega
      · unfold RWire.readArgs at ha
        have e : numOf (((a :: b :: n :: r).drop 2).take 1) = n.toNat := by
          show n.toNat + 256 * 0 = n.toNat
          omega
        rw [e]
        show readMany (readF RWire.nestMost) n.toNat r = _
        split at ha
        · rename_i q
          have z := Option.some.inj ha
          subst z
          exact q
        · cases ha
abbrev s_Reader_request : Stmt := inClass (top 11) 4
theorem sc_Reader_request : FnScope ["self", "door", "many", "turn"] ["self"] (defScope s_Reader_request) := ⟨rfl, rfl, rfl, by decide +kernel, rfl, by decide +kernel, by decide +kernel⟩
theorem ok_request (T : Top K mg A) (D : MtAt K A.cD "request" "Reader.request" s_Reader_request ["self"]) (M_number_told : Mt P w K mg base CX0 2 A.cD "number_told" ["self", "many"] (sp_number_told A)) (M_value : Mt P w K mg base CX0 36 A.cD "value" ["self"] (sp_value A 32)) :
    Mt P w K mg base CX0 37 A.cD "request" ["self"] (sp_request A) := by
  refine D.ok sc_Reader_request (fun vs H Q E h => ?_) (fun f cdv Ar outer s H vs Q E hr h => ?_)
  · obtain ⟨b, r, row, d, l, G, rfl, _⟩ := h
    rfl
  · obtain ⟨b, r, row, d, l, G, rfl, h, hq, hb, hw, q⟩ := h
    obtain ⟨r1, r2, r3⟩ := request_some hq
    obtain ⟨dx0, hb0⟩ := h.d
    refine ⟨_, (pss_cons (ps_par (i := 1) (j := 2) (by rfl) sc_Reader_request.nd rfl rfl (by decide) rfl rfl (pa_cons (pe_mtf M_number_told hr (by first | decide | omega) (pv 0) (pa_cons pe_int pa_nil)) (pa_cons (pe_mtf M_number_told hr (by first | decide | omega) (pv 0) (pa_cons pe_int pa_nil)) pa_nil)) (by rfl))
      (pss_one (ps_ret (pe_tup (pa_cons (pv 1) (pa_cons (pe_lc (own := [("turn", 3)]) (g := (gName 3)) rfl sc_Reader_request.nd (pi_range1 (by rfl) T.n_range (pa_cons (pv 2) pa_nil)) (blkOk_by (N := ["self", "door", "many", "turn"]) (sc := defScope s_Reader_request) (by decide +kernel)) (fun _ _ _ _ _ => (pg_name (i := 3) sc_Reader_request.nd rfl (Or.inl rfl))) (fun _ _ _ _ _ => pts_nil) (fun _ _ _ _ _ => (pe_mt0f M_value hr (by first | decide | omega) (pv 0)))) pa_nil)))))), ?_⟩
    walk_at "rd"
    refine ⟨_, _, hb0, rd_no (by decide) (by decide), r, 2, rfl, 0, row, G, h, by omega, by omega, fun H1 g1 d1 => ?_⟩
    have h1 := h.on g1 d1 (by omega)
    obtain ⟨dx1, hb1⟩ := d1
    refine ⟨_, _, hb1, rd_no (by decide) (by decide), r, 1, rfl, 2, row, G, h1, by omega, by omega, fun H2 g2 d2 => ?_⟩
    have h2 := h1.on g2 d2 (by omega)
    have g3 : Grow (· = b) G H G H2 := g1.trans g2 fun _ z => .inl z
    have hlt : numOf ((row.drop 2).take 1) < 2 ^ 32 := Nat.lt_of_lt_of_le (Law.numOf_lt _) (Nat.le_trans (Nat.pow_le_pow_right (by decide) (by rw [List.length_take]; exact Nat.min_le_left _ _)) (by decide : 256 ^ 1 ≤ 2 ^ 32))
    rw [List.drop_zero, ← r2]
    generalize hN : numOf ((row.drop 2).take 1) = N at r3 hlt ⊢
    refine ⟨V.int N, rfl, N, rfl, by omega, by omega, fun D hD => ?_⟩
    have neb : D ≠ b := fun z => by
      obtain ⟨dx, hb⟩ := d2
      rw [z, hb] at hD
      cases hD
    refine lc_it walk_range (InvL A G H2 b r D row [] 32 N 3 l) ⟨3, [], [], l, G, rfl, rfl, r3, by omega, by omega, (Grow.refl h2.s).tmp hD, ?_, upd_same, h2.s.free hD, .nil, hb, hw⟩ (fun _ _ _ _ => True.intro) (fun j x H' H3 hj hi ⟨e1, e2⟩ => ?_) fun H3 hi => ?_
    · obtain ⟨dx, hb⟩ := d2
      exact ⟨dx, by rw [upd_ne (Ne.symm neb)]; exact hb⟩
    · subst e1
      refine ⟨rfl, ?_⟩
      rw [Int.toNat_natCast] at hj
      have hdb : ∃ dx, H3 b = some (.ins A.cD dx [("row", .ref r), ("at", .int (hi.ex.choose : Int))]) := hi.ex.choose_spec.choose_spec.choose_spec.choose_spec.choose_spec.2.2.2.2.2.2.1
      obtain ⟨dx3, hb3⟩ := hdb
      exact ⟨V.ref b, rfl, b, _, _, rfl, hb3, rd_no (by decide) (by decide), invL_step h2 hD hj hi fun x H2 acc e4 e5 e6 => ⟨acc, e4, e5, e6⟩⟩
    · rw [Int.toNat_natCast] at hi
      obtain ⟨i', xs, ls, lr, G1, e1, e2, e3, e4, e5, g, dd, hD', hGD, hv, n1, n2⟩ := hi.ex
      rw [Nat.sub_self, Law.readMany_zero] at e3
      have e3 := (Prod.mk.inj (Option.some.inj e3)).1
      subst e3
      rw [List.append_nil] at e2
      subst e2
      have g5 := (g3.trans g fun _ z => .inl z).fix (g3.back hD) hD' hGD
      refine ⟨by decide, fun p hp => ?_⟩
      have g6 := g5.new (o := .tup [V.int (d : Int), .ref D]) hp
      refine q p D xs _ _ g6 upd_same ?_ ((hv.mono (same_new hGD)).mono (same_new (g5.s.free hp)))
      exact same_new (g5.s.free hp) _ _ upd_same
end
end Tk
end
section
set_option Elab.async false
set_option linter.all false
set_option maxRecDepth 100000
set_option maxHeartbeats 2000000
/-! The walk, part 7: values.py: how values are written. -/
namespace Tk
open PySem PySem.Spec PyProof.Rows L2
open RWire (Octets low write writeText writeCount writeInt writeEntries)
mutual
def wOk : RWire.Value → Bool
  | .nothing => true
  | .null => true
  | .bool _ => true
  | .int i => decide (0 ≤ i ∧ i < RWire.wordMost)
  | .text _ => true
  | .record l => wOkE l
  | _ => false
def wOkE : List (RWire.Text × RWire.Value) → Bool
  | [] => true
  | e :: l => wOk e.2 && wOkE l
end
def sp_counted : Sp := fun vs H Q _ => ∃ (a : Addr) (l : Octets) (G : Hp), vs = [.ref a] ∧ Same G H ∧ (G a = some (.tup (Oc l)) ∨ G a = some (.lst (Oc l))) ∧ l.length ≤ 100000 ∧ ∀ p G' H', Grow Sno G H G' H' → H p = none → G' p = some (.lst (Oc (writeText l))) → Q (.ref p) H'
def sp_written : Ads → Nat → Sp := fun A m vs H Q _ => ∃ (x : V) (v : RWire.Value) (G : Hp), vs = [x] ∧ Same G H ∧ Vl A G x v ∧ RWire.depth v ≤ m ∧ wOk v = true ∧ (write v).length ≤ 100000 ∧
  ∀ p G' H', Grow Sno G H G' H' → H p = none → G' p = some (.lst (Oc (write v))) → Q (.ref p) H'
local macro_rules | `(tactic| walk_at "rd") => `(tactic| simp only [sp_octets_of, sp_counted, sp_written, cxK, cxNK, cxNN, cxHK, tRet, tRetN, tChain, tC, tVar, rI0, rI, tOp, tUn, rU, tIf, tTest, tB, tNot, tAnd, tOr, tAndV, tOrV, tNotV, tCB, tCons, tNil, tNext, tSeq, tIfS, tDrop, tAsg, gName, tPar, tPar3, tAug, ipI, tCall, tCallS, E0, rEq, rNe, scal, rIxT, rIxL,  tTup, tLst, gTup, gCons, gNil, iTup, iList, iStr, iRng1, wipe, tSl, tPart, tNoPart, rIn,  tFld, sFld, sFldAug, tMeth, tMake, rAdd, tYes, tBM, rAppend, rExtend, rCat, rSetL, gSub,
  L2.start, List.map_cons, List.map_nil, List.length_cons, List.length_nil, Nat.reduceAdd, Nat.reduceSub, List.replicate_succ, List.replicate_zero, List.cons_append, List.nil_append, List.append_nil,
  List.getElem?_cons_zero, List.getElem?_cons_succ, List.set_cons_zero, List.set_cons_succ, Option.some.injEq, exists_eq_left, exists_eq_left', exists_eq_right, exists_eq_right', V.int.injEq, V.bl.injEq, V.str.injEq, V.ref.injEq, List.cons.injEq, true_and, and_true, and_assoc, exists_and_left, decide_eq_true_eq, Bool.false_eq_true, if_true, if_false, ite_true, ite_false, reduceIte, reduceCtorEq])

section
variable {P : Program} {w : World} {K : PySem.W.Frag} {mg : Str → Option Value} {base : Heap} {A : Ads}
/-- a new list of two -/
theorem cat_new {S : Addr → Prop} {G0 H0 G H : Hp} {Q : VK} {a b : Addr} {xs ys : List V} (g : Grow S G0 H0 G H) (ha : H a = some (.lst xs)) (hb : H b = some (.lst ys)) (hz : xs.length + ys.length ≤ sizeLine)
    (q : ∀ p G' H', H p = none → Grow S G0 H0 G' H' → Grow Sno G H G' H' → G' p = some (.lst (xs ++ ys)) → Q (.ref p) H') :
    ∃ x, H a = some (.lst x) ∧ ∃ y, H b = some (.lst y) ∧ x.length + y.length ≤ sizeLine ∧ ∀ p, H p = none → Q (.ref p) (upd H p (.lst (x ++ y))) :=
  ⟨xs, ha, ys, hb, hz, fun p hp => q p _ _ hp (g.new hp) ((Grow.refl g.s).new hp) upd_same⟩
abbrev s_counted : Stmt := top 12
theorem sc_counted : FnScope ["row"] ["row"] (defScope s_counted) := ⟨rfl, rfl, rfl, by decide +kernel, rfl, by decide +kernel, by decide +kernel⟩
theorem ok_counted (T : Top K mg A) (D : DefAt K mg "counted" s_counted ["row"]) (C_octets_of : Fn P w K mg base CX0 1 "octets_of" ["number", "many"] sp_octets_of) : Fn P w K mg base CX0 2 "counted" ["row"] sp_counted := by
  refine D.ok sc_counted (fun vs H Q E h => ?_) (fun f cdv Ar outer s H vs Q E hr h => ?_)
  · obtain ⟨a, l, G, rfl, _⟩ := h
    rfl
  · obtain ⟨a, l, G, rfl, hG, hl, hz, q⟩ := h
    have hs : 100000 + 8 ≤ sizeLine := by decide
    have ha : ∀ {H'}, Same G H' → SqL K H' a (Oc l) ∨ SqT K H' a (Oc l) := fun e => hl.elim (fun h => .inr (SqT.of (e _ _ h))) fun h => .inl (SqL.of (e _ _ h))
    refine ⟨_, (pss_one (ps_ret (pe_op op_cat (pe_f C_octets_of hr (by first | decide | omega) (pa_cons (pe_callB call_len_seq (by rfl) T.n_len PySem.boot_len (pa_cons (pv 0) pa_nil)) (pa_cons pe_int pa_nil))) (pe_callTy call_list_of (by rfl) T.n_list (by decide +kernel) (pa_cons (pv 0) pa_nil))))), ?_⟩
    walk_at "rd"
    refine ⟨Oc l, ha hG, ?_⟩
    rw [Oc_len]
    refine ⟨4, rfl, by decide, by omega, G, hG, fun p G1 H1 g1 hp h1 => ⟨Oc l, ha (hG.trans g1.same), fun c hc => ?_⟩⟩
    have e1 : H1 p = some (.lst (Oc (low 4 ((l.length : Nat) : Int).toNat))) := g1.s _ _ h1
    refine cat_new (g1.new hc) (xs := Oc (low 4 ((l.length : Nat) : Int).toNat)) (ys := Oc l) (same_new hc _ _ e1) upd_same (by rw [Oc_len, Oc_len, Law.low_len]; omega) fun p2 G2 H2 hp2 g2 g3 h2 => q p2 G2 H2 g2 ?_ ?_
    · exact (g1.new hc).back hp2
    · rw [h2, ← Oc_app, Int.toNat_natCast]
      rfl
theorem entries_app : ∀ l m : List (RWire.Text × RWire.Value), writeEntries (l ++ m) = writeEntries l ++ writeEntries m
  | [], m => by rw [List.nil_append, writeEntries, List.nil_append]
  | e :: l, m => by rw [List.cons_append, writeEntries, entries_app l m, writeEntries, List.append_assoc, List.append_assoc]
theorem depth_ent {m : Nat} : ∀ {l : List (RWire.Text × RWire.Value)}, RWire.depthEntries l ≤ m → ∀ e ∈ l, RWire.depth e.2 ≤ m
  | [], _, e, he => by cases he
  | a :: l, h, e, he => by
    rw [RWire.depthEntries] at h
    have h1 : RWire.depth a.2 ≤ Nat.max (RWire.depth a.2) (RWire.depthEntries l) := Nat.le_max_left _ _
    have h2 : RWire.depthEntries l ≤ Nat.max (RWire.depth a.2) (RWire.depthEntries l) := Nat.le_max_right _ _
    rcases List.mem_cons.mp he with rfl | he
    · omega
    · exact depth_ent (by omega) e he
theorem wOk_ent : ∀ {l : List (RWire.Text × RWire.Value)}, wOkE l = true → ∀ e ∈ l, wOk e.2 = true
  | [], _, e, he => by cases he
  | a :: l, h, e, he => by
    rw [wOkE, Bool.and_eq_true] at h
    rcases List.mem_cons.mp he with rfl | he
    · exact h.1
    · exact wOk_ent h.2 e he
theorem isT_eval {v : RWire.Value} {n t : String} {b : Bool} (h : tNm v = n) (e : ((n == t) || (n == "bool" && t == "int")) = b) : isT v t = b := by
  unfold isT
  rw [h]
  exact e
abbrev s_written : Stmt := top 13
theorem sc_written : FnScope ["value", "found", "one", "name"] ["value"] (defScope s_written) := ⟨rfl, rfl, rfl, by decide +kernel, rfl, by decide +kernel, by decide +kernel⟩
theorem ok_written1 (T : Top K mg A) (D : DefAt K mg "written" s_written ["value"]) (C_octets_of : Fn P w K mg base CX0 1 "octets_of" ["number", "many"] sp_octets_of) (C_counted : Fn P w K mg base CX0 2 "counted" ["row"] sp_counted) (m : Nat)
    (C_written : Fn P w K mg base CX0 (m + 2) "written" ["value"] (sp_written A m)) : Fn P w K mg base CX0 (m + 1 + 2) "written" ["value"] (sp_written A (m + 1)) := by
  refine D.ok sc_written (fun vs H Q E h => ?_) (fun f cdv Ar outer s H vs Q E hr h => ?_)
  · obtain ⟨x, v, G, rfl, _⟩ := h
    rfl
  · obtain ⟨x, v, G, rfl, hG, hv, hd, hw, hl, q⟩ := h
    have hs : 100000 + 8 ≤ sizeLine := by decide
    refine ⟨_, (pss_cons (ps_if (pt_val (pe_callB call_isi (by rfl) T.n_isinstance (by decide +kernel) (pa_cons (pv 0) (pa_cons (C8.pe_gc (by rfl) T.g_Nothing) pa_nil)))) (pss_one (ps_ret (pe_lst (pa_cons pe_int pa_nil)))) pss_nil)
      (pss_cons (ps_if (pt_cmpR op_isN (pv 0) pe_non (nomark _)) (pss_one (ps_ret (pe_lst (pa_cons pe_int pa_nil)))) pss_nil)
      (pss_cons (ps_if (pt_val (pe_callB call_isi (by rfl) T.n_isinstance (by decide +kernel) (pa_cons (pv 0) (pa_cons (pe_bltn (v := .ty "bool") (by rfl) T.n_bool (by decide +kernel) rfl) pa_nil)))) (pss_one (ps_ret (pe_ifExp (pt_truth (pv 0) (by intro _; rfl)) (pe_lst (pa_cons pe_int pa_nil)) (pe_lst (pa_cons pe_int pa_nil))))) pss_nil)
      (pss_cons (ps_if (pt_val (pe_callB call_isi (by rfl) T.n_isinstance (by decide +kernel) (pa_cons (pv 0) (pa_cons (pe_bltn (v := .ty "int") (by rfl) T.n_int (by decide +kernel) rfl) pa_nil)))) (pss_one (ps_ret (pe_op op_cat (pe_lst (pa_cons pe_int pa_nil)) (pe_f C_octets_of hr (by first | decide | omega) (pa_cons (pv 0) (pa_cons pe_int pa_nil)))))) pss_nil)
      (pss_cons (ps_if (pt_val (pe_callB call_isi (by rfl) T.n_isinstance (by decide +kernel) (pa_cons (pv 0) (pa_cons (pe_bltn (v := .ty "tuple") (by rfl) T.n_tuple (by decide +kernel) rfl) pa_nil)))) (pss_one (ps_ret (pe_op op_cat (pe_lst (pa_cons pe_int pa_nil)) (pe_f C_counted hr (by first | decide | omega) (pa_cons (pv 0) pa_nil))))) pss_nil)
      (pss_cons (ps_if (pt_val (pe_callB call_isi (by rfl) T.n_isinstance (by decide +kernel) (pa_cons (pv 0) (pa_cons (pe_bltn (v := .ty "list") (by rfl) T.n_list (by decide +kernel) rfl) pa_nil)))) (pss_cons (ps_set (i := 1) sc_written.nd rfl (.inl rfl) (pe_op op_cat (pe_lst (pa_cons pe_int pa_nil)) (pe_f C_octets_of hr (by first | decide | omega) (pa_cons (pe_callB call_len_seq (by rfl) T.n_len PySem.boot_len (pa_cons (pv 0) pa_nil)) (pa_cons pe_int pa_nil)))))
      (pss_cons (ps_for PassesOwn.never rfl (pi_list (pv 0)) (pg_name (i := 2) sc_written.nd rfl (Or.inl rfl)) (pss_one (ps_expr (pe_bm PySem.F.plainAttrs_list PySem.F.slot_list_extend PySem.F.type_list_extend mt_extend (pv 1) (pa_cons (pe_f C_written hr (by first | decide | omega) (pa_cons (pv 2) pa_nil)) pa_nil)))))
      (pss_one (ps_ret (pv 1))))) pss_nil)
      (pss_cons (ps_set (i := 1) sc_written.nd rfl (.inl rfl) (pe_op op_cat (pe_lst (pa_cons pe_int pa_nil)) (pe_f C_octets_of hr (by first | decide | omega) (pa_cons (pe_callB call_len_seq (by rfl) T.n_len PySem.boot_len (pa_cons (pe_fld (pv 0) rfl) pa_nil)) (pa_cons pe_int pa_nil)))))
      (pss_cons (ps_for PassesOwn.never rfl (pi_list (pe_fld (pv 0) rfl)) (pg_tup (n := 2) rfl (pgs_cons (pg_name (i := 3) sc_written.nd rfl (Or.inl rfl)) (pgs_cons (pg_name (i := 2) sc_written.nd rfl (Or.inl rfl)) pgs_nil))) (pss_one (ps_expr (pe_bm PySem.F.plainAttrs_list PySem.F.slot_list_extend PySem.F.type_list_extend mt_extend (pv 1) (pa_cons (pe_op op_cat (pe_f C_counted hr (by first | decide | omega) (pa_cons (pv 3) pa_nil)) (pe_f C_written hr (by first | decide | omega) (pa_cons (pv 2) pa_nil))) pa_nil)))))
      (pss_one (ps_ret (pv 1))))))))))), ?_⟩
    walk_at "rd"
    refine rIsi_N T hv hG ⟨_, rfl, ?_⟩
    have hv' := hv
    cases hv with
    | nothing h1 =>
      rw [show isNo .nothing = true from rfl, if_pos rfl]
      exact ⟨by decide, fun p hp => q p _ _ ((Grow.refl hG).new hp) hp upd_same⟩
    | null =>
      rw [if_neg (fun z => by cases z), if_pos rfl]
      exact ⟨by decide, fun p hp => q p _ _ ((Grow.refl hG).new hp) hp upd_same⟩
    | bool b =>
      rw [if_neg (fun z => by cases z), if_neg (fun z => by cases z)]
      refine rIsi_ty T hv' hG (t := "bool") (by decide) ?_
      refine ⟨_, rfl, ?_⟩
      rw [isT_eval (n := "bool") (b := true) rfl (by decide), if_pos rfl]
      refine ⟨b, rfl, ?_⟩
      cases b with
      | true => exact ⟨by decide, fun p hp => q p _ _ ((Grow.refl hG).new hp) hp upd_same⟩
      | false => exact ⟨by decide, fun p hp => q p _ _ ((Grow.refl hG).new hp) hp upd_same⟩
    | int i =>
      have hw : decide (0 ≤ i ∧ i < RWire.wordMost) = true := hw
      have hi := of_decide_eq_true hw
      unfold RWire.wordMost at hi
      rw [if_neg (fun z => by cases z), if_neg (fun z => by cases z)]
      refine rIsi_ty T hv' hG (t := "bool") (by decide) ?_
      refine ⟨_, rfl, ?_⟩
      rw [isT_eval (n := "int") (b := false) rfl (by decide), if_neg Bool.false_ne_true]
      refine rIsi_ty T hv' hG (t := "int") (by decide) ?_
      refine ⟨_, rfl, ?_⟩
      rw [isT_eval (n := "int") (b := true) rfl (by decide), if_pos rfl]
      refine ⟨by decide, fun p hp => ⟨i, rfl, 8, rfl, by decide, hi.1, _, ((Grow.refl (S := Sno) hG).new hp).s, fun p2 G2 H2 g2 hp2 h2 => ?_⟩⟩
      have g1 : Grow Sno G H _ _ := (Grow.refl hG).new (o := .lst [V.int 4]) hp
      refine cat_new (g1.transN g2) (xs := [.int 4]) (g2.same _ _ upd_same) (g2.s _ _ h2) (by rw [Oc_len, Law.low_len]; exact by decide) fun p3 G3 H3 hp3 g3 g4 h3 => q p3 G3 H3 g3 ((g1.transN g2).back hp3) ?_
      rw [h3]
      have e : write (.int i) = 4 :: low 8 i.toNat := by
        rw [write, writeInt, show i % RWire.wordMost = i from Int.emod_eq_of_lt hi.1 hi.2]
      rw [e]
      rfl
    | text h1 =>
      rename_i a u
      rw [if_neg (fun z => by cases z), if_neg (fun z => by cases z)]
      refine rIsi_ty T hv' hG (t := "bool") (by decide) ?_
      refine ⟨_, rfl, ?_⟩
      rw [isT_eval (n := "tuple") (b := false) rfl (by decide), if_neg Bool.false_ne_true]
      refine rIsi_ty T hv' hG (t := "int") (by decide) ?_
      refine ⟨_, rfl, ?_⟩
      rw [isT_eval (n := "tuple") (b := false) rfl (by decide), if_neg Bool.false_ne_true]
      refine rIsi_ty T hv' hG (t := "tuple") (by decide) ?_
      refine ⟨_, rfl, ?_⟩
      rw [isT_eval (n := "tuple") (b := true) rfl (by decide), if_pos rfl]
      have e : write (.text u) = 6 :: writeText u := by rw [write]
      rw [e] at hl q
      have hl2 : u.length ≤ 100000 ∧ (writeText u).length ≤ 100000 := by
        rw [List.length_cons, writeText, List.length_append] at hl
        rw [writeText, List.length_append]
        omega
      refine ⟨by decide, fun p hp => ⟨a, rfl, u, _, ((Grow.refl (S := Sno) hG).new hp).s, .inl (same_new (hG.free hp) _ _ h1), hl2.1, fun p2 G2 H2 g2 hp2 h2 => ?_⟩⟩
      have g1 : Grow Sno G H _ _ := (Grow.refl hG).new (o := .lst [V.int 6]) hp
      refine cat_new (g1.transN g2) (xs := [.int 6]) (g2.same _ _ upd_same) (g2.s _ _ h2) (by rw [Oc_len]; show 1 + _ ≤ _; omega) fun p3 G3 H3 hp3 g3 g4 h3 => q p3 G3 H3 g3 ((g1.transN g2).back hp3) ?_
      rw [h3]
      rfl
    | octets h1 => cases hw
    | list h1 h2 => cases hw
    | record h1 h2 h3 =>
      rename_i a c dx ms l
      have e : write (.record l) = 8 :: (writeCount l.length ++ writeEntries l) := by rw [write]
      rw [e] at hl q
      have hw : wOkE l = true := hw
      have hd : RWire.depthEntries l + 1 ≤ m + 1 := by rw [RWire.depth] at hd; exact hd
      rw [List.length_cons, List.length_append] at hl
      rw [if_neg (fun z => by cases z), if_neg (fun z => by cases z)]
      refine rIsi_ty T hv' hG (t := "bool") (by decide) ?_
      refine ⟨_, rfl, ?_⟩
      rw [isT_eval (n := "Record") (b := false) rfl (by decide), if_neg Bool.false_ne_true]
      refine rIsi_ty T hv' hG (t := "int") (by decide) ?_
      refine ⟨_, rfl, ?_⟩
      rw [isT_eval (n := "Record") (b := false) rfl (by decide), if_neg Bool.false_ne_true]
      refine rIsi_ty T hv' hG (t := "tuple") (by decide) ?_
      refine ⟨_, rfl, ?_⟩
      rw [isT_eval (n := "Record") (b := false) rfl (by decide), if_neg Bool.false_ne_true]
      refine rIsi_ty T hv' hG (t := "list") (by decide) ?_
      refine ⟨_, rfl, ?_⟩
      rw [isT_eval (n := "Record") (b := false) rfl (by decide), if_neg Bool.false_ne_true]
      have hlen := h3.len
      refine ⟨by decide, fun p hp => ?_⟩
      have g1 : Grow Sno G H G (upd H p (.lst [.int 8])) := (Grow.refl hG).tmp hp
      refine ⟨a, rfl, _, _, _, g1.s _ _ h1, T.clR, T.a_members, _, lk_here, c, rfl, ms.map V.ref, .inl (SqL.of (g1.s _ _ h2)), ?_⟩
      rw [List.length_map, hlen]
      refine ⟨4, rfl, by decide, by omega, G, g1.s, fun p2 G2 H2 g2 hp2 hw2 => ⟨_, g2.same _ _ upd_same, _, g2.s _ _ hw2, by rw [Oc_len, Law.low_len]; exact by decide, fun p3 hp3 => ?_⟩⟩
      have g3 : Grow Sno G H G2 (upd H2 p3 (.lst ([.int 8] ++ Oc (low 4 ((l.length : Nat) : Int).toNat)))) := (g1.transN g2).tmp hp3
      have hHp3 : H p3 = none := (g1.transN g2).back hp3
      rw [Int.toNat_natCast] at g3 ⊢
      refine ⟨V.ref a, rfl, a, A.cR, dx, _, _, rfl, g3.s _ _ (g2.g _ _ h1), T.clR, T.a_members, lk_here, c, rfl, ⟨_, SqL.of (g3.s _ _ (g2.g _ _ h2))⟩, for_list (K := K) (a := c) (xs := ms.map V.ref) (fun j σ H' => ∃ v2 v3 G3, σ = [some (.ref a), some (.ref p3), v2, v3] ∧
        Grow Sno G H G3 H' ∧ G3 p3 = none ∧ H' p3 = some (.lst (Oc (8 :: (writeCount l.length ++ writeEntries (l.take j)))))) ⟨none, none, G2, rfl, g3, (g1.transN g2).s.free hp3, ?_⟩ (fun j σ H' _ ⟨_, _, G3, _, g, _, _⟩ => SqL.of (g.s _ _ (g.g _ _ h2))) ?_ ?_⟩
      · rw [upd_same, List.take_zero, writeEntries, List.append_nil]
        rfl
      · rintro j x σ H' hx ⟨v2, v3, G3, rfl, g, hG3, hH3⟩
        rw [List.getElem?_map] at hx
        obtain ⟨b, hb, ex⟩ := Option.map_eq_some_iff.mp hx
        subst ex
        obtain ⟨n, y, e1, he, hb1, hn1, hv1⟩ := h3.get hb
        have hmem := List.mem_of_getElem? he
        have hsz : (writeEntries (l.take j)).length + ((writeText e1.1).length + ((write e1.2).length + 0)) ≤ (writeEntries l).length := by
          have z : l = l.take j ++ (e1 :: l.drop (j + 1)) := by
            obtain ⟨hj, z⟩ := List.getElem?_eq_some_iff.mp he
            rw [← z, ← List.drop_eq_getElem_cons hj, List.take_append_drop]
          conv => rhs; rw [z, entries_app, writeEntries]
          rw [List.length_append, List.length_append, List.length_append]
          omega
        refine ⟨b, _, rfl, SqT.of (g.s _ _ (g.g _ _ hb1)), rfl, ?_⟩
        walk_at "rd"
        have hwl : (writeText e1.1).length = 4 + e1.1.length := by rw [writeText, List.length_append, writeCount, Law.low_len]
        have hcl : (writeCount l.length).length = 4 := Law.low_len _ _
        refine ⟨.inl ⟨rfl, _, SqL.of hH3⟩, e1.1, G3, g.s, .inl (g.g _ _ hn1), by omega, fun p4 G4 H4 g4 hp4 h4 => ?_⟩
        refine ⟨e1.2, G4, g4.s, (hv1.mono g.g).mono g4.g, depth_ent (Nat.le_of_succ_le_succ hd) e1 hmem, wOk_ent hw e1 hmem, by omega, fun p5 G5 H5 g5 hp5 h5 => ?_⟩
        refine ⟨_, g5.same _ _ (g4.s _ _ h4), _, g5.s _ _ h5, by rw [Oc_len, Oc_len]; omega, fun p6 hp6 => ?_⟩
        have g6 := (g.transN (g4.transN g5)).new (o := .lst (Oc (writeText e1.1) ++ Oc (write e1.2))) hp6
        have g7 := (Grow.refl (S := Sno) g5.s).new (o := .lst (Oc (writeText e1.1) ++ Oc (write e1.2))) hp6
        have h6 : upd G5 p6 (.lst (Oc (writeText e1.1) ++ Oc (write e1.2))) p6 = some (.lst (Oc (writeText e1.1) ++ Oc (write e1.2))) := upd_same
        generalize upd H5 p6 (.lst (Oc (writeText e1.1) ++ Oc (write e1.2))) = H6 at g6 g7 ⊢
        generalize upd G5 p6 (.lst (Oc (writeText e1.1) ++ Oc (write e1.2))) = G6 at g6 g7 h6
        have e6 : H6 p3 = some (.lst (Oc (8 :: (writeCount l.length ++ writeEntries (l.take j))))) := g7.same _ _ (g5.same _ _ (g4.same _ _ hH3))
        have hG6 : G6 p3 = none := g7.out (g5.out (g4.out hG3 (some_ne hH3)) (some_ne (g4.same _ _ hH3))) (some_ne (g5.same _ _ (g4.same _ _ hH3)))
        refine ⟨_, e6, _, g6.s _ _ h6, by rw [Oc_len, List.length_append, Oc_len, Oc_len, List.length_cons, List.length_append]; omega, G6, g6.put hG6 (.inr hHp3), hG6, ?_⟩
        rw [upd_same, take_one he, entries_app, writeEntries, writeEntries, List.append_nil, ← Oc_app, ← Oc_app, List.cons_append, List.append_assoc]
      · rintro σ H' ⟨v2, v3, G3, rfl, g, hG3, hH3⟩
        walk_at "rd"
        refine q p3 _ _ (g.fix hHp3 hH3 hG3) hHp3 ?_
        rw [upd_same, List.length_map, hlen, List.take_length]
theorem depth_pos (v : RWire.Value) : 1 ≤ RWire.depth v := by
  cases v <;> rw [RWire.depth] <;> omega
theorem ok_written (T : Top K mg A) (D : DefAt K mg "written" s_written ["value"]) (C_octets_of : Fn P w K mg base CX0 1 "octets_of" ["number", "many"] sp_octets_of) (C_counted : Fn P w K mg base CX0 2 "counted" ["row"] sp_counted) :
    ∀ m : Nat, Fn P w K mg base CX0 (m + 2) "written" ["value"] (sp_written A m)
  | 0 => by
    refine D.ok sc_written (fun vs H Q E h => ?_) (fun f cdv Ar outer s H vs Q E hr h => ?_)
    · obtain ⟨x, v, G, rfl, _⟩ := h
      rfl
    · obtain ⟨x, v, G, _, _, _, h, _⟩ := h
      have := depth_pos v
      omega
  | m + 1 => ok_written1 T D C_octets_of C_counted m (ok_written T D C_octets_of C_counted m)
end
end Tk
end
section
set_option Elab.async false
set_option linter.all false
set_option maxRecDepth 100000
set_option maxHeartbeats 2000000
/-! The walk, part 8: comprehensions while an exception is handled. -/
namespace Tk
open PySem PySem.Spec PyProof.Rows L2 HotX
open RWire (Octets low writeText)
section
variable {prog : Program} {w : World} {A : Around} {E : Value → Shared → Prop} {s : Shared}
/-- the text's walk is at its end, an exception is being handled -/
theorem ascii_end_hot {it x1 : Addr} {x : Str} {t : Tok} {i : Nat} {Q : Option Value → Shared → Prop} (hot : HotAt A x1 s.heap) (ne : x1 ≠ it) (hit : s.heap.IsStrIter it "str_ascii_iterator" x t i) (hx : x.cps[i]? = none)
    (hQ : ∀ h', (∀ b o, b ≠ it → s.heap.get? b = some o → h'.get? b = some o) → Q none { s with heap := h' }) : wpAny (model prog w) A (pyNext (.ref it)) Q E s := by
  obtain ⟨hh, o1, vs1, h1, d1, c1⟩ := hot
  obtain ⟨o, ho, hc, hd⟩ := id hit
  unfold pyNext
  refine wpAny_bind (wpAny_attempt (wpAny_callSpecial?_slot (name := Str.ofString "__next__") hit.typeIs F.slot_str_ascii_iterator_next
    (wpAny_call_entry F.slot_str_ascii_iterator_next hit.typeIs F.entry_str_ascii_iterator_next ?_ (F.args_str_ascii_iterator_next_1 _))))
  show wpAny _ _ (field (.ref it) 0 >>= _) _ _ s
  refine wpAny_bind (wpAny_field ho hd (x := .str x t) rfl ?_)
  show wpAny _ _ (field (.ref it) 1 >>= _) _ _ s
  refine wpAny_bind (wpAny_field ho hd (x := .int i 0) rfl ?_)
  simp only [Int.toNat_natCast, hx]
  refine wpAny_bind (wpAny_rule (wpAny_bind (wpAny_setField ho hd (by simp) (wpAny_bind (wpAny_letGo ?_)))))
  show wpAny _ _ (newExc (.type "StopIteration") [] >>= _) _ _ _
  refine wpAny_bind ?_
  simp only [newExc, newTuple]
  refine wpAny_bind (wpAny_newObj_type ?_ (by size_fits))
  refine wpAny_bind (m := firstArgMember _ _) (wpAny_of_eq (a := Value.none) (by first | rfl | (simp only [firstArgMember]; rfl)) ?_)
  refine wpAny_newObj_type ?_ (by size_fits)
  have k : ∀ b ob, b ≠ it → s.heap.get? b = some ob → (s.heap.update it (Obj.mapFields (·.setIfInBounds 0 .none))).get? b = some ob := fun b ob nb e => by
    rw [Heap.get?_update_other _ _ (Ne.symm nb)]
    exact e
  have h2 := Heap.get?_push_of_some ({ cls := .type "tuple", data := .seq #[] } : Obj) (k x1 o1 ne h1)
  refine raiseNew_hot ⟨hh, o1, vs1, Heap.get?_push_of_some _ h2, d1, c1⟩ (Nat.ne_of_lt (Heap.lt_size h2)) (Heap.get?_push_size _ rfl) rfl (by first | (simp; done) | (simp; omega) | (simp only [Array.size_append]; simp; omega)) ?_
  refine wpAny_bind (wpAny_isInstance (T := "StopIteration") (b := true) ⟨_, Heap.get?_update_self _ (Heap.get?_push_size _ rfl) rfl, rfl⟩ isSubtype_stop ?_)
  refine wpAny_pure (hQ _ fun b ob nb e => ?_)
  have e2 := Heap.get?_push_of_some ({ cls := .type "tuple", data := .seq #[] } : Obj) (k b ob nb e)
  rw [Heap.get?_update_other _ _ (Nat.ne_of_gt (Heap.lt_size e2))]
  exact Heap.get?_push_of_some _ e2
end
theorem turn_strH {P : Program} {w : World} {K : PySem.W.Frag} {tg : Expr} (it : Addr) (x : Str) (t : Tok) : L2H.TurnH P w K tg (Its x) [it] it (fun i h => h.IsStrIter it "str_ascii_iterator" x t i) where
  mem := List.mem_singleton.mpr rfl
  obj := fun i h st b hb => by
    obtain rfl := List.mem_singleton.mp hb
    obtain ⟨o, e, c, d⟩ := st
    exact ⟨o, e, fun v z => by rw [d] at z; cases z⟩
  keep := fun i h h' st k => let ⟨o, ho, r⟩ := st; ⟨o, k it (List.mem_singleton.mpr rfl) o ho, r⟩
  item := by
    intro X hP hw hK hc i pins s σ H E I hf st hg
    subst hP hw hK
    obtain ⟨f0, f1, f2, f3, f4, f5⟩ := hf it (List.mem_singleton.mpr rfl)
    have hlt : i < x.cps.size := hg
    refine wpAny_pyNext_ascii_item st (Array.getElem?_eq_getElem hlt) fun h' st' sb => ?_
    have I1 : Inv X pins σ H { s with heap := h', toks := s.toks + 1 } := I.turned (fun b o hb e => (sb.2 b hb).trans e) f0 f1 f3 f4 f5
    obtain ⟨oi, e, cc, dd⟩ := id st'
    exact ⟨_, rfl, go_of (s := { s with heap := h', toks := s.toks + 1 }) e cc dd (by decide) ⟨.str ⟨#[x.cps[i]]⟩, H, I1, ⟨s.toks, rfl⟩, ⟨rfl, x.cps[i], Array.getElem?_eq_getElem hlt, rfl⟩, st', fun b hb => (hf b hb).1⟩⟩
  done := by
    intro X hP hw hK hc i pins s σ H E I hf st hg
    subst hP hw hK
    obtain ⟨f0, f1, f2, f3, f4, f5⟩ := hf it (List.mem_singleton.mpr rfl)
    obtain ⟨p, ⟨hh, v1, e1, c1⟩, hp⟩ := hc
    refine ascii_end_hot (x1 := p.1) ⟨hh, p.2, v1, (I.pin p (List.mem_append_left _ hp)).1, e1, c1⟩ (f5 p (List.mem_append_left _ hp)) st (Array.getElem?_eq_none hg) fun h' eb => ⟨rfl, I.turned (t' := s.toks) eb f0 f1 f3 f4 f5⟩
  self := fun A i s Q E st h => wpAny_pyIter_striter_ascii st h
def iStrH (te : TE) : TI := fun σ H R => te σ H fun v H1 => ∃ x, v = .str x ∧ x.cps.all (· < 128) = true ∧ R (Its x) H1
theorem pi_strH {X : Cx} {tg e : Expr} {te : TE} (he : PE X e te) : L2H.PIH X tg e (iStrH te) := by
  refine ⟨fun pins s σ H R I h => ?_⟩
  refine thn (he.run pins s σ H _ I h) fun v s1 ⟨y, H1, I1, r1, x, ex, ha, q⟩ => ?_
  subst ex
  obtain ⟨t, rfl⟩ := r1
  refine wpAny_pyIter_ascii ha ?_
  have I2 := I1.kept (t' := s1.toks) fun b ob e => Heap.get?_push_of_some ({ cls := .type "str_ascii_iterator", data := .fields #[.str x t, .int 0 0] } : Obj) e
  refine ⟨s1.heap.objs.size, [s1.heap.objs.size], _, Its x, H1, rfl, I2, turn_strH _ x t, ⟨_, Heap.get?_push_size _ rfl, rfl, rfl⟩, fun b hb => ?_, q⟩
  obtain rfl := List.mem_singleton.mp hb
  exact I1.fpOk (Nat.le_refl _) (I1.hok.fresh (Nat.le_refl _))
/-- a context with other pins -/
theorem repin {X : Cx} {pn pins : List (Addr × Obj)} {σ : L2.St} {H : Hp} {s : Shared} (I : Inv X pins σ H s) (h : ∀ p ∈ pn ++ pins, s.heap.get? p.1 = some p.2 ∧ H p.1 = none ∧ p.1 ≠ X.env.locals ∧ p.1 ∉ X.fs ∧ ∀ v, p.2.data ≠ .cell v) : Inv { X with pn := pn } pins σ H s :=
  ⟨⟨I.ok.mod, I.ok.kind, I.ok.glob, I.ok.blt, I.ok.above, I.ok.inj, I.ok.has, I.ok.cab, I.ok.hd, I.ok.frames, I.ok.stk, I.ok.exf, I.ok.bs, I.ok.bsz, I.ok.noex, I.ok.exfs, I.ok.funs, I.ok.frf⟩, I.os, I.bare, I.base, I.loc, I.cell, I.free, I.freeC, h, I.hok, I.len⟩
/-- a comprehension's block that runs while p is handled -/
abbrev blkH (X : Cx) (p : Addr × Obj) (s : Shared) (H : Hp) (scope : Scope) (cenv : Env) (fp : List Addr) : Cx := { X.blk s H scope cenv fp with pn := [p] }
theorem notin_stack {X : Cx} (ok : X.Ok) {b : Addr} (h1 : b ≠ X.env.locals) (h2 : b ∉ X.fs) : b ∉ frs X.stack := by
  rcases ok.stk with e | ⟨e, f⟩
  · rw [e]
    exact h2
  · rw [e]
    unfold frs
    rw [List.filterMap_cons, f]
    exact fun z => (List.mem_cons.mp z).elim h1 h2
section
variable {X : Cx}
theorem pe_lcH {elt tg iter : Expr} {ifs : List Expr} {scope : Scope} {own : List (Str × Nat)} {pos : Pos} {wi : TI} {g : TG} {tt : TT} {te : TE} (hot : L2H.HotC X) (hN : X.N.Nodup) (hi : L2H.PIH X tg iter wi) (ok : BlkOk X.N X.env.scope scope own)
    (hg : ∀ (p : Addr × Obj) (s : Shared) (H : Hp) (C : Addr) (cl : List (Str × Addr)) (fp : List Addr), PG (blkH X p s H scope (compEnvC scope cl C X.env) fp) tg g)
    (ht : ∀ (p : Addr × Obj) (s : Shared) (H : Hp) (C : Addr) (cl : List (Str × Addr)) (fp : List Addr), PTs (blkH X p s H scope (compEnvC scope cl C X.env) fp) ifs tt)
    (he : ∀ (p : Addr × Obj) (s : Shared) (H : Hp) (C : Addr) (cl : List (Str × Addr)) (fp : List Addr), PE (blkH X p s H scope (compEnvC scope cl C X.env) fp) elt te) (hs : ∀ x, foldedSetIterable iter X.env x = pure x := by intro _; rfl) :
    PE X (.ListComp elt [⟨tg, iter, ifs, 0⟩] scope pos) (tLc wi g tt te (own.map (·.2))) := by
  refine ⟨fun pins s σ H Q I h => ?_⟩
  rw [eval_ListComp]
  obtain ⟨p, hot1, hp⟩ := hot
  have clo : ∀ y ∈ scope.names, y.2 = .free → ∃ c, X.env.cells.lookup y.1 = some c := fun y hy e => I.ok.has _ (ok.free y hy e)
  refine wpAny_comprehension_free (use := none) rfl hs (closure_ok clo) ok.kind (fun y hy e => by rw [ok.uniq y hy, e]) (thn (hi.run pins s σ H _ I h) fun xv s1 hx => thn hx fun itv s2 h2 => ?_)
  obtain ⟨it, fp, tn, J, H2, e, I2, T, st2, f2, q⟩ := h2
  subst e
  refine wpAny_newObj_type (newEnv_comp ?_) (Nat.zero_le _)
  -- D: the new list
  obtain ⟨D, hD⟩ : ∃ D, s2.heap.objs.size = D := ⟨_, rfl⟩
  have hDn : H2 D = none := I2.hok.fresh (Nat.le_of_eq hD)
  obtain ⟨W, ⟨m0, w0⟩, turn⟩ := q D hDn
  rw [hD]
  obtain ⟨s3, hs3⟩ : ∃ s3 : Shared, ({ s2 with heap := s2.heap.push { cls := .type "list", data := .seq ([] : List Value).toArray } } : Shared) = s3 := ⟨_, rfl⟩
  have push : ∀ b o, s2.heap.get? b = some o → s3.heap.get? b = some o := fun b o e => by
    rw [← hs3]
    exact Heap.get?_push_of_some _ e
  have I3 : Inv X pins σ (upd H2 D (.lst [])) s3 := by
    rw [← hs3]
    exact I2.laid (t' := s2.toks) (fun b o e => Heap.get?_push_of_some _ e) (Nat.le_of_eq hD) ⟨Nat.zero_le _, [], 0, .nil, by rw [← hD]; exact Heap.get?_push_size _ rfl⟩
  have sz3 : s3.heap.objs.size = s2.heap.objs.size + 1 := by
    rw [← hs3]
    exact Heap.size_push ..
  have f3 : ∀ b ∈ fp, FpOk X pins (upd H2 D (.lst [])) b ∧ b < s3.heap.objs.size := fun b hb => by
    obtain ⟨o, e, _⟩ := T.obj _ _ st2 b hb
    have hlt := Heap.lt_size e
    refine ⟨⟨?_, (f2 b hb).2⟩, by rw [sz3]; exact Nat.lt_succ_of_lt hlt⟩
    rw [upd_ne (by rw [← hD]; exact Nat.ne_of_lt hlt)]
    exact (f2 b hb).1
  have st3 : tn 0 s3.heap := T.keep _ _ _ st2 fun b _ o e => push b o e
  rw [hs3]
  have I4' := block_start I3 ok hN f3
  obtain ⟨cl, hcl⟩ : ∃ cl, cellsFrom (s3.heap.objs.size + 1) scope.names (cloFrom X.env.cells scope.names []) = cl := ⟨_, rfl⟩
  rw [hcl] at I4'
  have hb4 : ∀ b o, s3.heap.get? b = some o → (pushCells (s3.heap.push { cls := .type "dict", data := .dict #[] }) scope.names).get? b = some o := fun b o e => pushCells_keeps _ _ _ _ (Heap.get?_push_of_some _ e)
  obtain ⟨s4, hs4⟩ : ∃ s4 : Shared, ({ s3 with heap := pushCells (s3.heap.push { cls := .type "dict", data := .dict #[] }) scope.names } : Shared) = s4 := ⟨_, rfl⟩
  have keep4 : ∀ b o, s3.heap.get? b = some o → s4.heap.get? b = some o := by
    rw [← hs4]
    exact hb4
  rw [hs4] at I4'
  obtain ⟨H3, hH3⟩ : ∃ H3, upd H2 D (.lst []) = H3 := ⟨_, rfl⟩
  rw [hH3] at I3 I4' w0 f3
  obtain ⟨p1, p2, p3, p4, p5⟩ := I3.pin p (List.mem_append_left _ hp)
  have I4 : Inv (blkH X p s3 H3 scope (compEnvC scope cl s3.heap.objs.size X.env) fp) [] (wipe σ (own.map (·.2))) H3 s4 := repin I4' fun q hq => by
    have eq : q = p := List.mem_singleton.mp (by simpa using hq)
    rw [eq]
    exact ⟨keep4 _ _ p1, p2, Nat.ne_of_lt (Heap.lt_size p1), notin_stack I3.ok p3 p4, p5⟩
  have hot4 : L2H.HotC (blkH X p s3 H3 scope (compEnvC scope cl s3.heap.objs.size X.env) fp) := ⟨p, hot1, List.mem_singleton.mpr rfl⟩
  have pg := hg p s3 H3 s3.heap.objs.size cl fp
  have pt := ht p s3 H3 s3.heap.objs.size cl fp
  have pe := he p s3 H3 s3.heap.objs.size cl fp
  have st4 : tn 0 s4.heap := T.keep _ _ _ st3 fun b _ o e => keep4 b o e
  obtain ⟨ce, hce⟩ : ∃ ce, compEnvC scope cl s3.heap.objs.size X.env = ce := ⟨_, rfl⟩
  have cL : ce.locals = s3.heap.objs.size := by rw [← hce]; rfl
  rw [hce] at I4 hot4 pg pt pe
  obtain ⟨B, hB⟩ : ∃ B : Cx, blkH X p s3 H3 scope ce fp = B := ⟨_, rfl⟩
  have fpB : ∀ {σ' : L2.St} {H' : Hp} {s' : Shared}, Inv (blkH X p s3 H3 scope ce fp) [] σ' H' s' → (∀ b ∈ fp, H' b = none) → ∀ b ∈ fp, FpOk (blkH X p s3 H3 scope ce fp) [] H' b := fun {σ' H' s'} I' hn b hb =>
    ⟨hn b hb, (I'.ok.exf b hb).1, I'.ok.exfs b hb, .inl hb, fun x c e => (I'.ok.exf b hb).2 x c e, fun q hq => by
      have eq : q = p := List.mem_singleton.mp (by simpa using hq)
      rw [eq]
      exact (f3 b hb).1.2.2.2.2.2 p (List.mem_append_left _ hp)⟩
  have loop : codeAny (model X.prog X.w) X.A (.compLoop (.ListComp elt [⟨tg, iter, ifs, 0⟩] scope pos) 0 (.ref it) (.ref D) ce) (compPost (model X.prog X.w) X.A X.xe none (EP X pins σ Q) (.ref D) s3.heap.objs.size) s4 := by
    refine compLoop_any (fun n s' => ∃ i H', Inv (blkH X p s3 H3 scope ce fp) [] (wipe σ (own.map (·.2))) H' s' ∧ tn i s'.heap ∧ (∀ b ∈ fp, H' b = none) ∧ W i n H') ?_ m0 ⟨0, H3, I4, st4, fun b hb => (f3 b hb).1.1, w0⟩
    rintro n s5 ⟨i, H5, I5, st5, n5, w5⟩
    rcases turn i n H5 w5 with ⟨stop, qq⟩ | ⟨go, Nx, hNx, step⟩
    · refine thnF (T.done (blkH X p s3 H3 scope ce fp) rfl rfl rfl hot4 i [] s5 _ H5 (fun _ _ => False) I5 (fpB I5 n5) st5 stop) fun r s6 ⟨hr, I6⟩ => ?_
      subst hr
      have I7 : Inv X pins σ H5 s6 := I3.call' (ch := fp) I6.os I6.base I6.hok I6.bare fun b hb => ⟨(f3 b hb).1.2.2.2.1, (f3 b hb).1.2.1, (f3 b hb).1.2.2.2.2.1, (f3 b hb).1.2.2.2.2.2⟩
      have nC : H5 s3.heap.objs.size = none := by
        have z : H5 ce.locals = none := I6.free
        rw [cL] at z
        exact z
      obtain ⟨m, hn, _⟩ := I6.loc
      have hn : s6.heap.Ns ce.locals m := hn
      rw [cL] at hn
      have fC := I3.fpOk (Nat.le_refl _) nC
      refine ⟨m, hn, fun h'' sb => ?_⟩
      obtain ⟨f0, f1, f2, f3, f4, f5⟩ := fC
      exact ⟨.ref D, H5, I7.turned (t' := s6.toks) (fun b o hb e => (sb.2 b hb).trans e) f0 f1 f3 f4 f5, rfl, qq⟩
    · refine thnF (T.item (blkH X p s3 H3 scope ce fp) rfl rfl rfl hot4 i [] s5 _ H5 (fun _ _ => False) I5 (fpB I5 n5) st5 go) fun r s6 ⟨u, hr, h6⟩ => ?_
      subst hr
      refine thnF h6 fun _ s7 ⟨x, H7, I7, r7, y7, st7, n7⟩ => ?_
      have I7' := I7.pinned (fpB I7 n7) (T.obj _ _ st7)
      refine thnF (pg.run _ s7 _ H7 x u _ I7' r7 (step x H7 y7)) fun _ s8 ⟨σ8, H8, I8, hw8, q8⟩ => ?_
      refine thnF (pt.run _ s8 σ8 H8 _ I8 q8) fun b s9 ⟨H9, I9, q9⟩ => ?_
      have next : ∀ (s' : Shared) (H' : Hp), Inv (blkH X p s3 H3 scope ce fp) ([] ++ pinsAt fp s7.heap) σ8 H' s' → Nx H' → ∃ m, m < n ∧ ∃ i H', Inv (blkH X p s3 H3 scope ce fp) [] (wipe σ (own.map (·.2))) H' s' ∧ tn i s'.heap ∧ (∀ b ∈ fp, H' b = none) ∧ W i m H' := fun s' H' I' nx => by
        obtain ⟨m', hm, w'⟩ := hNx H' nx
        have at7 : ∀ b ∈ fp, ∀ o, s7.heap.get? b = some o → s'.heap.get? b = some o ∧ H' b = none := fun b hb o e => by
          have z := I'.pin (b, o) (List.mem_append_right _ (List.mem_append_right _ (mem_pinsAt hb e)))
          exact ⟨z.1, z.2.1⟩
        have hl : (wipe σ (own.map (·.2))).length = σ8.length := by rw [← hw8, wipe_length]
        refine ⟨m', hm, i + 1, H', (I'.unpinned (pins := [])).weak hl (fun j v e => ?_), T.keep _ _ _ st7 fun b hb o e => (at7 b hb o e).1, fun b hb => ?_, w'⟩
        · rw [← hw8] at e
          exact (wipe_some e).1
        · obtain ⟨o, e, _⟩ := T.obj _ _ st7 b hb
          exact (at7 b hb o e).2
      cases b with
      | false => exact next _ _ I9 q9
      | true => exact thnF (pe.run _ s9 σ8 H9 _ I9 q9) fun z s10 ⟨yv, H10, I10, r10, acc, hD10, hz10, nx⟩ => app_ok (X := blkH X p s3 H3 scope ce fp) I10 hD10 hz10 r10 fun s11 I11 => next _ _ I11 nx
  have start := codeAny_compStart_list loop (T.self X.A 0 _ _ _ st4 loop)
  rw [← hs4, ← hce, ← hcl] at start
  exact start
end
def sp_text_ofH : Sp := fun vs H Q _ => ∃ z : Str, vs = [.str z] ∧ z.cps.size ≤ sizeLine ∧ z.cps.all (· < 128) = true ∧ ∃ G, Same G H ∧ ∀ p G' H', Grow Sno G H G' H' → G' p = some (.tup (codes z)) → Q (.ref p) H'
local macro_rules | `(tactic| walk_at "rd") => `(tactic| simp only [sp_octets_of, sp_text_ofH, sp_counted, cxK, cxNK, cxNN, cxHK, tRet, tRetN, tChain, tC, tVar, rI0, rI, tOp, tUn, rU, tIf, tTest, tB, tNot, tAnd, tOr, tAndV, tOrV, tNotV, tCB, tCons, tNil, tNext, tSeq, tIfS, tDrop, tAsg, gName, tPar, tPar3, tAug, ipI, tCall, tCallS, E0, rEq, rNe, scal, rIxT, rIxL,  tTup, tLst, gTup, gCons, gNil, iTup, iList, iStr, iRng1, wipe, tSl, tPart, tNoPart, rIn,  tFld, sFld, sFldAug, tMeth, tMake, rAdd, tYes, tBM, rAppend, rExtend, rCat, rSetL, gSub,
  L2.start, List.map_cons, List.map_nil, List.length_cons, List.length_nil, Nat.reduceAdd, Nat.reduceSub, List.replicate_succ, List.replicate_zero, List.cons_append, List.nil_append, List.append_nil,
  List.getElem?_cons_zero, List.getElem?_cons_succ, List.set_cons_zero, List.set_cons_succ, Option.some.injEq, exists_eq_left, exists_eq_left', exists_eq_right, exists_eq_right', V.int.injEq, V.bl.injEq, V.str.injEq, V.ref.injEq, List.cons.injEq, true_and, and_true, and_assoc, exists_and_left, decide_eq_true_eq, Bool.false_eq_true, if_true, if_false, ite_true, ite_false, reduceIte, reduceCtorEq])

section
variable {P : Program} {w : World} {K : PySem.W.Frag} {mg : Str → Option Value} {base : Heap} {A : Ads}
theorem ok_text_ofH (T : Top K mg A) (D : DefAt K mg "text_of" s_text_of ["words"]) : FnHot P w K mg base CX0 1 "text_of" ["words"] sp_text_ofH := by
  refine D.okH sc_text_of (fun vs H Q E h => ?_) (fun f cdv A outer s H vs Q E p hot1 hr h => ?_)
  · obtain ⟨z, rfl, _⟩ := h
    rfl
  · obtain ⟨z, rfl, hz, ha, G, hG, q⟩ := h
    refine ⟨_, (pss_one (ps_ret (pe_callTy call_tuple_of (by rfl) T.n_tuple (by decide +kernel) (pa_cons (pe_lcH ⟨p, hot1, List.mem_singleton.mpr rfl⟩ (own := [("sign", 1)]) (g := (gName 1)) sc_text_of.nd (pi_strH (pv 0)) (blkOk_by (N := ["words", "sign"]) (sc := defScope s_text_of) (by decide +kernel)) (fun _ _ _ _ _ _ => (pg_name (i := 1) sc_text_of.nd rfl (Or.inl rfl))) (fun _ _ _ _ _ _ => pts_nil) (fun _ _ _ _ _ _ => (pe_callB call_ord (by rfl) T.n_ord (by decide +kernel) (pa_cons (pv 1) pa_nil)))) pa_nil)))), ?_⟩
    walk_at "rd"
    refine ⟨_, rfl, z, rfl, ha, fun D hD => lc_pure walk_str (fun i => .int ((z.cps.getD i 0 : Nat) : Int)) hz (fun _ => True.intro) (fun i x acc H' Qe hi ⟨e, c, hc, ex⟩ qe => ?_) ?_⟩
    · subst e ex
      refine ⟨rfl, ?_⟩
      walk_at "rd"
      refine ⟨rfl, ?_⟩
      have e1 : (#[c] : Array Nat).getD 0 0 = z.cps.getD i 0 := by
        rw [Array.getD_eq_getD_getElem?, Array.getD_eq_getD_getElem?, hc]
        rfl
      rw [e1]
      exact qe
    · have e : (List.range z.cps.size).map (fun i => V.int ((z.cps.getD i 0 : Nat) : Int)) = codes z := by
        have e1 : z.cps.size = (codes z).length := by unfold codes; rw [List.length_map]; exact Array.length_toList.symm
        rw [e1]
        refine range_map fun i x hx => ?_
        unfold codes at hx
        rw [List.getElem?_map, Array.getElem?_toList] at hx
        cases hc : z.cps[i]? with
        | none => rw [hc] at hx; cases hx
        | some c =>
          rw [hc] at hx
          rw [Array.getD_eq_getD_getElem?, hc]
          exact Option.some.inj hx
      rw [e]
      refine ⟨D, rfl, codes z, .inl ⟨SqL.of upd_same, fun l hl => ?_⟩⟩
      exact q l _ _ (((Grow.refl hG).tmp hD).new hl) upd_same
theorem ok_octets_ofH (T : Top K mg A) (D : DefAt K mg "octets_of" s_octets_of ["number", "many"]) : FnHot P w K mg base CX0 1 "octets_of" ["number", "many"] sp_octets_of := by
  refine D.okH sc_octets_of (fun vs H Q E h => ?_) (fun f cdv Ar outer s H vs Q E p hot1 hr h => ?_)
  · obtain ⟨i, k, rfl, _⟩ := h
    rfl
  · obtain ⟨i, k, rfl, hk, h0, G, hG, q⟩ := h
    refine ⟨_, (pss_one (ps_ret (pe_lcH ⟨p, hot1, List.mem_singleton.mpr rfl⟩ (own := [("place", 2)]) (g := (gName 2)) sc_octets_of.nd (L2H.pi_range1H (by rfl) T.n_range (pa_cons (pv 1) pa_nil)) (blkOk_by (N := ["number", "many", "place"]) (sc := defScope s_octets_of) (by decide +kernel)) (fun _ _ _ _ _ _ => (pg_name (i := 2) sc_octets_of.nd rfl (Or.inl rfl))) (fun _ _ _ _ _ _ => pts_nil) (fun _ _ _ _ _ _ => (pe_op op_and (pe_op op_shr (pv 0) (pe_op op_mul pe_int (pv 2))) pe_int))))), ?_⟩
    walk_at "rd"
    have s8 : (8 : Nat) ≤ sizeLine := by decide
    refine ⟨_, rfl, (k : Int), rfl, by omega, by omega, fun D hD => lc_pure walk_range (fun j => .int ((i / 2 ^ (8 * j)) % 256)) (by omega) (fun _ => True.intro) (fun j x acc H' Qe hj ⟨e, ex⟩ qe => ?_) ?_⟩
    · subst e ex
      refine ⟨rfl, ?_⟩
      walk_at "rd"
      refine ⟨.inl ⟨by decide, by decide⟩, by omega, ?_⟩
      rw [show (8 * (0 + (j : Int))).toNat = 8 * j by omega, show (255 : Int) = 2 ^ 8 - 1 by decide, Bits.bitAnd_mask 8 (Int.ediv_nonneg h0 (two_pow_nn _))]
      exact qe
    · refine q D _ _ ((Grow.refl hG).new hD) hD ?_
      rw [upd_same]
      congr 2
      rw [Int.toNat_natCast]
      have e := Law.low_len k i.toNat
      have e2 : k = (Oc (low k i.toNat)).length := by rw [Oc_len, e]
      conv => lhs; rw [e2]
      refine range_map fun j x hx => ?_
      have hj : j < k := by
        have h := (List.getElem?_eq_some_iff.mp hx).1
        rw [← e2] at h
        exact h
      rw [oc_get (Law.low_get k i.toNat j hj)] at hx
      rw [← Option.some.inj hx, Law.octet_nat]
      congr 1
      have e1 : i = (i.toNat : Int) := by omega
      conv => lhs; rw [e1]
      rw [Int.natCast_emod, Int.natCast_ediv, Int.natCast_pow, Int.pow_mul]
      rfl
theorem ok_countedH (T : Top K mg A) (D : DefAt K mg "counted" s_counted ["row"]) (C_octets_ofH : FnHot P w K mg base CX0 1 "octets_of" ["number", "many"] sp_octets_of) : FnHot P w K mg base CX0 2 "counted" ["row"] sp_counted := by
  refine D.okH sc_counted (fun vs H Q E h => ?_) (fun f cdv Ar outer s H vs Q E p hot1 hr h => ?_)
  · obtain ⟨a, l, G, rfl, _⟩ := h
    rfl
  · obtain ⟨a, l, G, rfl, hG, hl, hz, q⟩ := h
    have hs : 100000 + 8 ≤ sizeLine := by decide
    have ha : ∀ {H'}, Same G H' → SqL K H' a (Oc l) ∨ SqT K H' a (Oc l) := fun e => hl.elim (fun h => .inr (SqT.of (e _ _ h))) fun h => .inl (SqL.of (e _ _ h))
    refine ⟨_, (pss_one (ps_ret (pe_op op_cat (pe_fH C_octets_ofH hr ⟨p, hot1, List.mem_singleton.mpr rfl⟩ (by decide) (pa_cons (pe_callB call_len_seq (by rfl) T.n_len PySem.boot_len (pa_cons (pv 0) pa_nil)) (pa_cons pe_int pa_nil))) (pe_callTy call_list_of (by rfl) T.n_list (by decide +kernel) (pa_cons (pv 0) pa_nil))))), ?_⟩
    walk_at "rd"
    refine ⟨Oc l, ha hG, ?_⟩
    rw [Oc_len]
    refine ⟨4, rfl, by decide, by omega, G, hG, fun p G1 H1 g1 hp h1 => ⟨Oc l, ha (hG.trans g1.same), fun c hc => ?_⟩⟩
    have e1 : H1 p = some (.lst (Oc (low 4 ((l.length : Nat) : Int).toNat))) := g1.s _ _ h1
    refine cat_new (g1.new hc) (xs := Oc (low 4 ((l.length : Nat) : Int).toNat)) (ys := Oc l) (same_new hc _ _ e1) upd_same (by rw [Oc_len, Oc_len, Law.low_len]; omega) fun p2 G2 H2 hp2 g2 g3 h2 => q p2 G2 H2 g2 ?_ ?_
    · exact (g1.new hc).back hp2
    · rw [h2, ← Oc_app, Int.toNat_natCast]
      rfl
end
end Tk
end
section
set_option Elab.async false
set_option linter.all false
set_option maxRecDepth 100000
set_option maxHeartbeats 2000000
/-! The walk, part 9: a dict whose keys are (text, number, text of units). -/
namespace Tk
open PySem PySem.Spec PyProof.Rows L2
abbrev DKey := Str × Int × Units
def keyT (k : DKey) : NestedKey := .tup [.text k.1, .num k.2.1, .tup (k.2.2.map fun c => .num (c.toNat : Int))]
theorem units_inj : ∀ {u v : Units}, (u.map fun c => NestedKey.num (c.toNat : Int)) = (v.map fun c => NestedKey.num (c.toNat : Int)) → u = v
  | [], [], _ => rfl
  | [], _ :: _, h => by cases h
  | _ :: _, [], h => by cases h
  | a :: u, b :: v, h => by
    rw [List.map_cons, List.map_cons, List.cons.injEq] at h
    have h1 : (a.toNat : Int) = (b.toNat : Int) := NestedKey.num.inj h.1
    rw [units_inj h.2, UInt16.toNat_inj.mp (Int.ofNat.inj h1)]
theorem keyT_inj {k l : DKey} (h : keyT k = keyT l) : k = l := by
  obtain ⟨a, b, c⟩ := k
  obtain ⟨a', b', c'⟩ := l
  have h := NestedKey.tup.inj h
  rw [List.cons.injEq, List.cons.injEq, List.cons.injEq] at h
  obtain ⟨h1, h2, h3, _⟩ := h
  exact Prod.ext (NestedKey.text.inj h1) (Prod.ext (NestedKey.num.inj h2) (units_inj (NestedKey.tup.inj h3)))
def KeyIn (H : Hp) (b : Addr) (k : DKey) : Prop := ∃ t, H b = some (.tup [.str k.1, .int k.2.1, .ref t]) ∧ Tx H t k.2.2
theorem KeyIn.mono {H H' : Hp} {b : Addr} {k : DKey} (x : KeyIn H b k) (e : Same H H') : KeyIn H' b k := let ⟨t, h1, h2⟩ := x; ⟨t, e _ _ h1, e _ _ h2⟩
theorem nested_U {h : Heap} : ∀ {u : Units} {its : List Value}, Vals (U u) its → NestedAll h (u.map fun c => .num (c.toNat : Int)) its
  | [], _, r => by
    cases r
    exact .nil
  | c :: u, _, r => by
    cases r with
    | cons r1 r2 =>
      obtain ⟨t, rfl⟩ := r1
      exact .cons (.int _ t) (nested_U r2)
theorem depth_nums : ∀ u : Units, NestedKey.depthAll (u.map fun c => .num (c.toNat : Int)) = 0
  | [] => rfl
  | c :: u => by
    rw [List.map_cons, NestedKey.depthAll, NestedKey.depth, depth_nums u]
    rfl
theorem KeyIn.is {P : Program} {w : World} {H : Hp} {h : Heap} {b : Addr} {k : DKey} (ok : HOk P w H h) (x : KeyIn H b k) : (nestedKind P w).is h (keyT k) b := by
  obtain ⟨t, h1, h2⟩ := x
  obtain ⟨_, its, r, o, g1, g2, n, g3⟩ := (show ObjOk P w H h b (.tup [.str k.1, .int k.2.1, .ref t]) from ok _ _ h1)
  obtain ⟨_, its2, r2, o2, e1, e2, n2, e3⟩ := (show ObjOk P w H h t (.tup (U k.2.2)) from ok _ _ h2)
  obtain ⟨a1, a2, a3, rfl, ⟨t1, rfl⟩, ⟨t2, rfl⟩, r3⟩ := vals3 r
  cases (show a3 = Value.ref t from r3)
  refine ⟨NestedIs.tup g1 g2 g3 (.cons (.text _ _) (.cons (.int _ _) (.cons (NestedIs.tup e1 e2 e3 (nested_U r2)) .nil))), ?_⟩
  unfold keyT
  rw [NestedKey.depth, NestedKey.depthAll, NestedKey.depthAll, NestedKey.depthAll, NestedKey.depth, NestedKey.depth, NestedKey.depth, depth_nums, NestedKey.depthAll]
  decide
abbrev NEntry := NestedKey × Addr × Value
def NRaw (P : Program) (w : World) (d : Addr) (xs : List NEntry) (h : Heap) : Prop := (d == sysModules) = false ∧ ∃ o es ep, h.get? d = some o ∧ o.ExactDict ∧ o.data = .dict es ep ∧ es.toList = xs.map (entryOfKey (nestedKind P w)) ∧ (xs.map (·.1)).Nodup
structure NDict (P : Program) (w : World) (G H : Hp) (d : Addr) (n : Nat) (f : DKey → Option Nat) : Prop where
  ex : ∃ xs : List NEntry, H d = some (.ext (NRaw P w d xs)) ∧ xs.length ≤ n ∧ (∀ x ∈ xs, ∃ k, x.1 = keyT k ∧ KeyIn G x.2.1 k) ∧ ∀ k, match f k with | none => atKey xs (keyT k) = none | some m => ∃ b t, atKey xs (keyT k) = some (b, .int (m : Int) t)
theorem NDict.mono {P : Program} {w : World} {G H G' H' : Hp} {d : Addr} {n : Nat} {f : DKey → Option Nat} (x : NDict P w G H d n f) (e : Same G G') (k : H' d = H d) : NDict P w G' H' d n f := by
  obtain ⟨xs, h1, h2, h3, h4⟩ := x.ex
  exact ⟨xs, by rw [k]; exact h1, h2, fun x hx => let ⟨k, a, b⟩ := h3 x hx; ⟨k, a, b.mono e⟩, h4⟩
theorem NDict.more {P : Program} {w : World} {G H G' H' : Hp} {d : Addr} {n : Nat} {f : DKey → Option Nat} (x : NDict P w G H d n f) (e : Same G G') (k : Same H H') : NDict P w G' H' d n f := by
  obtain ⟨xs, h1, h2, h3, h4⟩ := x.ex
  exact ⟨xs, k _ _ h1, h2, fun x hx => let ⟨k, a, b⟩ := h3 x hx; ⟨k, a, b.mono e⟩, h4⟩
section
variable {P : Program} {w : World} {K : PySem.W.Frag} {mg : Str → Option Value} {base : Heap} {CX : CXT} {N : List Str} {q : Str} {sc : Scope} {f : Addr} {cd : Value} {A : Around} {outer : List Env} {s : Shared} {H : Hp} {E : XK}
theorem cxPr : (cxOf CX P w K mg base N q sc f cd A outer s H E).prog = P := rfl
theorem cxWo : (cxOf CX P w K mg base N q sc f cd A outer s H E).w = w := rfl
end
theorem NDict.has {P : Program} {w : World} {G H : Hp} {d : Addr} {n : Nat} {f : DKey → Option Nat} (x : NDict P w G H d n f) : H d ≠ none := by
  obtain ⟨xs, h1, _⟩ := x.ex
  exact some_ne h1
theorem NDict.dict {P : Program} {w : World} {G H : Hp} {h : Heap} {d : Addr} {xs : List NEntry} (ok : HOk P w H h) (eG : Same G H) (e : H d = some (.ext (NRaw P w d xs))) (hx : ∀ x ∈ xs, ∃ k, x.1 = keyT k ∧ KeyIn G x.2.1 k) : (d == sysModules) = false ∧ h.DictOfH (nestedKind P w) d xs := by
  obtain ⟨hd, o, es, ep, h1, h2, h3, h4, h5⟩ := (show ObjOk P w H h d (.ext (NRaw P w d xs)) from ok _ _ e).1
  refine ⟨hd, o, es, ep, h1, h2, h3, h4, fun x m => ?_, h5⟩
  obtain ⟨k, e1, e2⟩ := hx x m
  rw [e1]
  exact (e2.mono eG).is ok
theorem ext_ok {P : Program} {w : World} {H : Hp} {h : Heap} {d : Addr} {xs : List NEntry} (hd : (d == sysModules) = false) (ex : ∃ o es ep, h.get? d = some o ∧ o.ExactDict ∧ o.data = .dict es ep ∧ es.toList = xs.map (entryOfKey (nestedKind P w)) ∧ (xs.map (·.1)).Nodup) : ObjOk P w H h d (.ext (NRaw P w d xs)) := by
  refine ⟨⟨hd, ex⟩, let ⟨o, _, _, e, _⟩ := ex; ⟨o, e⟩, fun h1 h2 x k => ?_⟩
  obtain ⟨hd, o, es, ep, e, r⟩ := x
  exact ⟨hd, o, es, ep, k o e, r⟩
theorem atKey_put {xs : List NEntry} {k l : NestedKey} {b : Addr} {v : Value} : atKey (storedH xs k b v) l = if l = k then some (match atKey xs k with | some p => (p.1, v) | none => (b, v)) else atKey xs l := by
  have map : ∀ ys : List NEntry, atKey (ys.map (putAt k v)) l = if l = k then (atKey ys k).map (fun p => (p.1, v)) else atKey ys l := fun ys => by
    induction ys with
    | nil =>
      by_cases hl : l = k
      · rw [if_pos hl]; rfl
      · rw [if_neg hl]; rfl
    | cons y ys ih =>
      unfold atKey at ih ⊢
      rw [List.map_cons, List.find?_cons]
      by_cases hy : y.1 = k
      · have e1 : putAt k v y = (k, y.2.1, v) := by unfold putAt; rw [if_pos hy, hy]
        rw [e1]
        by_cases hl : l = k
        · rw [if_pos hl, hl, List.find?_cons]
          simp [hy]
        · have hkl : ¬ k = l := fun z => hl z.symm
          rw [if_neg hl] at ih ⊢
          rw [List.find?_cons]
          have hyl : ¬ y.1 = l := fun z => hl (z.symm.trans hy)
          simp only [decide_eq_false hkl, decide_eq_false hyl]
          exact ih
      · have e1 : putAt k v y = y := by unfold putAt; rw [if_neg hy]
        rw [e1]
        by_cases hyl : y.1 = l
        · have hl : ¬ l = k := fun z => hy (hyl.trans z)
          rw [if_neg hl, List.find?_cons]
          simp only [decide_eq_true hyl]
        · simp only [decide_eq_false hyl]
          rw [ih]
          by_cases hl : l = k
          · rw [if_pos hl, if_pos hl, List.find?_cons]
            simp only [decide_eq_false hy]
          · rw [if_neg hl, if_neg hl, List.find?_cons]
            simp only [decide_eq_false hyl]
  cases hk : atKey xs k with
  | some p =>
    rw [storedH_old hk, map, hk]
    rfl
  | none =>
    rw [storedH_new hk]
    unfold atKey at hk ⊢
    rw [List.find?_append]
    by_cases hl : l = k
    · rw [if_pos hl, hl]
      have e : xs.find? (fun x => decide (x.1 = k)) = none := Option.map_eq_none_iff.mp hk
      rw [e]
      simp
    · rw [if_neg hl]
      have hkl : ¬ k = l := fun z => hl z.symm
      rw [List.find?_cons]
      simp only [decide_eq_false hkl, List.find?_nil, Option.or_none]
theorem mem_put {xs : List NEntry} {k : NestedKey} {b : Addr} {v : Value} {Φ : NestedKey → Addr → Prop} (h : ∀ x ∈ xs, Φ x.1 x.2.1) (hb : Φ k b) : ∀ x ∈ storedH xs k b v, Φ x.1 x.2.1 := by
  unfold storedH
  split
  · intro x hx
    obtain ⟨y, hy, rfl⟩ := List.mem_map.mp hx
    have := h y hy
    unfold putAt
    split
    · exact this
    · exact this
  · intro x hx
    rcases List.mem_append.mp hx with hx | hx
    · exact h x hx
    · obtain rfl := List.mem_singleton.mp hx
      exact hb
theorem len_put {xs : List NEntry} {k : NestedKey} {b : Addr} {v : Value} : (storedH xs k b v).length ≤ xs.length + 1 := by
  unfold storedH
  split
  · rw [List.length_map]
    exact Nat.le_succ _
  · rw [List.length_append]
    exact Nat.le_refl _
def tNNew (P : Program) (w : World) : TE := fun _ H Q => ∀ p o, H p = none → (∀ G, NDict P w G (upd H p o) p 0 (fun _ => none)) → Q (.ref p) (upd H p o)
def sNPut (P : Program) (w : World) (td ty tv : TE) : TS := fun D σ H => tv σ H fun v H1 => td σ H1 fun x H2 => ty σ H2 fun y H3 => ∃ (a b : Addr) (k : DKey) (m n : Nat) (f : DKey → Option Nat) (G : Hp), x = .ref a ∧ y = .ref b ∧ v = .int (m : Int) ∧ Same G H3 ∧ G a = none ∧ NDict P w G H3 a n f ∧ n < sizeLine ∧ KeyIn G b k ∧
  ∀ o, NDict P w G (upd H3 a o) a (n + 1) (fun l => if l = k then some m else f l) → D.nx σ (upd H3 a o)
def tNGet (P : Program) (w : World) (td ty tx : TE) : TE := fun σ H Q => td σ H fun x H1 => ∃ (a : Addr) (n : Nat) (f : DKey → Option Nat) (G : Hp), x = .ref a ∧ Same G H1 ∧ NDict P w G H1 a n f ∧ ty σ H1 fun y H2 => tx σ H2 fun z H3 => ∃ (b : Addr) (k : DKey) (n : Nat) (f : DKey → Option Nat) (m : Int) (G : Hp), y = .ref b ∧ z = .int m ∧
  Same G H3 ∧ NDict P w G H3 a n f ∧ KeyIn G b k ∧ Q (match f k with | some j => .int (j : Int) | none => .int m) H3
section
variable {X : Cx} {o i e f value : Expr} {pos pos' apos cpos : Pos} {td ty tv tx : TE}
theorem pe_nnew : PE X (.Dict [] [] pos) (tNNew X.prog X.w) := by
  refine ⟨fun pins s σ H Q I h => ?_⟩
  have hd : (s.heap.objs.size == sysModules) = false := beq_eq_false_iff_ne.mpr (Ne.symm (Nat.ne_of_lt I.big))
  refine wpAny_Dict_empty ⟨.ref s.heap.objs.size, _, I.laid (a := s.heap.objs.size) (o := .ext (NRaw X.prog X.w s.heap.objs.size [])) (t' := s.toks) (fun _ _ q => Heap.get?_push_of_some _ q) (Nat.le_refl _)
    (ext_ok hd ⟨_, #[], 0, Heap.get?_push_size _ rfl, ⟨rfl, rfl, rfl⟩, rfl, rfl, List.nodup_nil⟩), rfl, h _ _ (I.hok.fresh (Nat.le_refl _)) fun _ => ⟨[], upd_same, Nat.le_refl _, (fun _ hx => by cases hx), fun _ => rfl⟩⟩
theorem ps_nput (hu : X.A.units + 20 < cLine) (ho : PE X o td) (hi : PE X i ty) (hv : PE X value tv) (hs : swapsWith value (some (.Subscript o i pos')) pos.line X.env = pure false := by rfl) : PS X (.Assign [.Subscript o i pos'] value pos) (sNPut X.prog X.w td ty tv) := by
  refine ⟨fun pins s σ H D I h => ?_⟩
  refine wpAny_Assign_Subscript (thn (hv.run pins s σ H _ I h) fun r s1 ⟨v, H1, I1, rv, q1⟩ => thn (ho.run pins s1 σ H1 _ I1 q1) fun u s2 ⟨x, H2, I2, rx, q2⟩ => thn (hi.run pins s2 σ H2 _ I2 q2) fun iv s3 ⟨y, H3, I3, ry, a, b, k, m, n, f, G, ex, ey, ev, hG, hGa, nd, hn, hk, q3⟩ => ?_) hs
  subst ex ey ev
  obtain rfl : u = Value.ref a := rx
  obtain rfl : iv = Value.ref b := ry
  obtain ⟨t, rfl⟩ := rv
  obtain ⟨xs, h1, h2, h3, h4⟩ := nd.ex
  obtain ⟨hd, dd⟩ := NDict.dict I3.hok hG h1 h3
  refine wpAny_setItem_heap (hsz := by omega) (by show X.A.in1.units + 8 < cLine; show X.A.units + 1 + 8 < cLine; omega) ((hk.mono hG).is I3.hok) dd fun h' dd' hs => ?_
  obtain ⟨q, es, ep, hq, g2, g3, g4, _, g5⟩ := dd'
  have I4 := d_write (t' := s3.toks + (nestedKind X.prog X.w).draws (keyT k)) (ob := .ext (NRaw X.prog X.w a (storedH xs (keyT k) b (.int (m : Int) t)))) I3 (by rw [h1]; exact True.intro) hs ⟨q, hq⟩ (ext_ok hd ⟨q, es, ep, hq, g2, g3, g4, g5⟩)
  refine ⟨σ, _, I4, q3 _ ⟨_, upd_same, Nat.le_trans len_put (Nat.succ_le_succ h2), ?_, fun l => ?_⟩⟩
  · exact mem_put (Φ := fun c e => ∃ k, c = keyT k ∧ KeyIn _ e k) (fun x hx => h3 x hx) ⟨k, rfl, hk⟩
  · rw [atKey_put]
    by_cases hl : l = k
    · rw [if_pos hl, if_pos (by rw [hl])]
      cases atKey xs (keyT k) with
      | none => exact ⟨b, t, rfl⟩
      | some p => exact ⟨p.1, t, rfl⟩
    · rw [if_neg hl, if_neg (fun z => hl (keyT_inj z))]
      exact h4 l
theorem pe_nget (hu : X.A.units + 20 < cLine) (ho : PE X o td) (he : PE X e ty) (hf : PE X f tx) (m : M2 X o "get" apos e f cpos) : PE X (.Call (.Attribute o "get" apos) [e, f] [] cpos) (tNGet X.prog X.w td ty tx) := by
  refine ⟨fun pins s σ H Q I h => ?_⟩
  refine wpAny_Call_method m.base m.few m.line PySem.F.plainAttrs_dict PySem.F.slot_dict_get PySem.F.type_dict_get (thn (ho.run pins s σ H _ I h) fun u s1 ⟨x, H1, I1, rx, a, n, f0, G0, ex, hG0, nd, q1⟩ => ?_)
  subst ex
  obtain rfl : u = Value.ref a := rx
  obtain ⟨xs, h1, h2, h3, h4⟩ := nd.ex
  obtain ⟨hd, dd⟩ := NDict.dict I1.hok hG0 h1 h3
  refine ⟨dd.typeIs, ?_, ?_⟩
  · intro b q
    cases q
    obtain ⟨ob, _, _, g1, g2, _⟩ := dd
    exact ⟨ob, g1, g2.2.1⟩
  rw [m.trees]
  refine Calls.callWith_builtin rfl (Calls.evalArgs_plain (Calls.spliced_cons (thn (he.run pins s1 σ H1 _ I1 q1) fun iv s2 ⟨y, H2, I2, ry, q2⟩ =>
    Calls.spliced_cons (thn (hf.run pins s2 σ H2 _ I2 q2) fun fv s3 ⟨z, H3, I3, rz, b, k, n3, f3, j, G3, ey, ez, hG3, nd3, hk, q3⟩ => Calls.spliced_nil ?_))))
  subst ey ez
  obtain rfl : iv = Value.ref b := ry
  obtain ⟨t, rfl⟩ := rz
  obtain ⟨xs3, g1, g2, g3, g4⟩ := nd3.ex
  obtain ⟨hd3, dd3⟩ := NDict.dict I3.hok hG3 g1 g3
  refine call_meetsIn PySem.F.slot_dict_get dd3.typeIs PySem.F.entry_dict_get (PySem.F.args_dict_get_3 _ _ _) (meetsH_dict_get_default (nestedKind X.prog X.w) a b hd3 _) ⟨(by show X.A.in1.units + 8 < cLine; show X.A.units + 1 + 8 < cLine; omega), keyT k, xs3, (hk.mono hG3).is I3.hok, dd3, ?_⟩
  have g := g4 k
  cases hf3 : f3 k with
  | none =>
    rw [hf3] at g q3
    rw [show atKey xs3 (keyT k) = none from g]
    exact ⟨V.int j, H3, I3.tok _, ⟨t, rfl⟩, q3⟩
  | some v =>
    rw [hf3] at g q3
    obtain ⟨c, t', e⟩ := g
    rw [e]
    exact ⟨V.int (v : Int), H3, I3.tok _, ⟨t', rfl⟩, q3⟩
end
end Tk
end
section
set_option Elab.async false
set_option linter.all false
set_option maxRecDepth 100000
set_option maxHeartbeats 2000000
/-! The walk, part 10: documents.py: changes. -/
namespace Tk
open PySem PySem.Spec PyProof.Rows L2
open R7253e.Spec (Replacement Change applyFrom changedText insertedLength isOutside mapOffset)
open Law (nStep Valid)
def RepAt (G : Hp) (b : Addr) (r : Replacement) : Prop := ∃ t, G b = some (.tup [.int r.lo, .int r.hi, .ref t]) ∧ Tx G t r.text
theorem RepAt.mono {G G' : Hp} {b : Addr} {r : Replacement} (h : RepAt G b r) (e : Same G G') : RepAt G' b r := let ⟨t, h1, h2⟩ := h; ⟨t, e _ _ h1, e _ _ h2⟩
def Chg (G : Hp) (p : Addr) (c : Change) : Prop := ∃ as : List Addr, G p = some (.lst (as.map V.ref)) ∧ Paired (fun b r => RepAt G b r) as c
theorem Chg.mono {G G' : Hp} {p : Addr} {c : Change} (h : Chg G p c) (e : Same G G') : Chg G' p c := let ⟨as, h1, h2⟩ := h; ⟨as, e _ _ h1, paired_mono (fun _ _ h => h.mono e) h2⟩
def sp_normalized : Sp := fun vs H Q _ => ∃ (p : Addr) (c : Change) (G : Hp), vs = [.ref p] ∧ Same G H ∧ Chg G p c ∧ c.length ≤ 20 ∧ insertedLength c ≤ 100000 ∧ ∀ q G' H', Grow Sno G H G' H' → H q = none → Chg G' q (c.foldl nStep []) → Q (.ref q) H'
def sp_changed_text : Sp := fun vs H Q _ => ∃ (a p : Addr) (u : Units) (c : Change) (G : Hp), vs = [.ref a, .ref p] ∧ Same G H ∧ Tx G a u ∧ Chg G p c ∧ Valid 0 u.length c ∧ u.length ≤ 600 ∧ insertedLength c ≤ 100000 ∧ ∀ q G' H', Grow Sno G H G' H' → Tx G' q (changedText c u) → Q (.ref q) H'
def sp_added : Sp := fun vs H Q _ => ∃ (p : Addr) (c : Change) (G : Hp), vs = [.ref p] ∧ Same G H ∧ Chg G p c ∧ c.length ≤ 20 ∧ ∀ H', Same H H' → Q (.int (insertedLength c : Nat)) H'
def sp_moved : Sp := fun vs H Q _ => ∃ (p : Addr) (i n : Nat) (c : Change) (G : Hp), vs = [.ref p, .int i] ∧ Same G H ∧ Chg G p c ∧ c.length ≤ 20 ∧ Valid 0 n c ∧ ∀ H', Same H H' → Q (.int (mapOffset c i : Nat)) H'
def sp_is_outside : Sp := fun vs H Q _ => ∃ (p : Addr) (i j : Nat) (c : Change) (G : Hp), vs = [.ref p, .int i, .int j] ∧ Same G H ∧ Chg G p c ∧ c.length ≤ 20 ∧ ∀ H', Same H H' → Q (.bl (c.all fun r => decide (j ≤ r.lo) || decide (r.hi ≤ i))) H'
def sp_Version : Ads → Sp := fun A => spFields A.cV (fun vs => match vs with | [t, k, p] => [("text", t), ("tokens", k), ("parent", p), ("redo", .int (-1))] | _ => []) 3
theorem call_lenK {X : Cx} {K : PySem.W.Frag} (hK : X.K = K) : CallR X (.builtin "len") (fun xs H Q => ∃ p ys, xs = [.ref p] ∧ (SqL K H p ys ∨ SqT K H p ys) ∧ Q (.int ys.length) H) := by
  subst hK
  exact call_len_seq
theorem call_tupleK {X : Cx} {K : PySem.W.Frag} (hK : X.K = K) : CallR X (.type "tuple") (fun xs H Q => ∃ p ys, xs = [.ref p] ∧ ((SqL K H p ys ∧ ∀ l, H l = none → Q (.ref l) (upd H l (.tup ys))) ∨ (SqT K H p ys ∧ Q (.ref p) H))) := by
  subst hK
  exact call_tuple_of
theorem range_mapN {α : Type} {n : Nat} {l : List α} {v : Nat → α} (hn : n = l.length) (h : ∀ i x, l[i]? = some x → v i = x) : (List.range n).map v = l := by
  rw [hn]
  exact range_map h
theorem int_sum {α : Type} (f : α → Nat) : ∀ l : List α, (l.map fun r => (f r : Int)).sum = ((l.map f).sum : Nat)
  | [] => rfl
  | a :: l => by
    rw [List.map_cons, List.map_cons, List.sum_cons, List.sum_cons, int_sum f l, Int.natCast_add]
local macro_rules | `(tactic| walk_at "rd") => `(tactic| simp only [sp_normalized, sp_changed_text, sp_added, sp_moved, sp_is_outside, cxK, cxNK, cxNN, cxHK, tRet, tRetN, tChain, tC, tVar, rI0, rI, tOp, tUn, rU, tIf, tTest, tB, tNot, tAnd, tOr, tAndV, tOrV, tNotV, tCB, tCons, tNil, tNext, tSeq, tIfS, tDrop, tAsg, gName, tPar, tPar3, tAug, ipI, tCall, tCallS, E0, rEq, rNe, scal, rIxT, rIxL,  tTup, tLst, gTup, gCons, gNil, iTup, iList, iStr, iRng1, wipe, tSl, tPart, tNoPart, rIn,  tFld, sFld, sFldAug, tMeth, tMake, rAdd, tYes, tBM, rAppend, rExtend, rCat, rSetL, gSub,
  L2.start, List.map_cons, List.map_nil, List.length_cons, List.length_nil, Nat.reduceAdd, Nat.reduceSub, List.replicate_succ, List.replicate_zero, List.cons_append, List.nil_append, List.append_nil,
  List.getElem?_cons_zero, List.getElem?_cons_succ, List.set_cons_zero, List.set_cons_succ, Option.some.injEq, exists_eq_left, exists_eq_left', exists_eq_right, exists_eq_right', V.int.injEq, V.bl.injEq, V.str.injEq, V.ref.injEq, List.cons.injEq, true_and, and_true, and_assoc, exists_and_left, decide_eq_true_eq, Bool.false_eq_true, if_true, if_false, ite_true, ite_false, reduceIte, reduceCtorEq])

section
variable {P : Program} {w : World} {K : PySem.W.Frag} {mg : Str → Option Value} {base : Heap} {A : Ads}
abbrev s_Version_init : Stmt := inClass (top 37) 0
theorem sc_Version_init : FnScope ["self", "text", "tokens", "parent"] ["self", "text", "tokens", "parent"] (defScope s_Version_init) := ⟨rfl, rfl, rfl, by decide +kernel, rfl, by decide +kernel, by decide +kernel⟩
theorem ok_Version (T : Top K mg A) (D : ClAt K mg A.cV "Version" "Version.__init__" s_Version_init ["self", "text", "tokens", "parent"]) : Cl P w K mg base CX0 1 A.cV "Version" ["self", "text", "tokens", "parent"] (sp_Version A) := by
  refine D.ok sc_Version_init (fun vs H Q E h => ?_) (fun f cdv Ar outer s H vs Q E hr h => ?_)
  · obtain ⟨x, dx, args, H0, rfl, h, _⟩ := h
    rw [List.length_cons, h]
    rfl
  · obtain ⟨x, dx, args, H0, rfl, h, rfl, q⟩ := h
    obtain ⟨t, k, p, rfl⟩ : ∃ t k p, args = [t, k, p] := by
      match args, h with
      | [t, k, p], _ => exact ⟨t, k, p, rfl⟩
    refine ⟨_, (pss_cons (ps_fld (pv 0) (pv 1) rfl)
      (pss_cons (ps_fld (pv 0) (pv 2) rfl)
      (pss_cons (ps_fld (pv 0) (pv 3) rfl)
      (pss_one (ps_fld (pv 0) (pe_un un_neg pe_int) rfl))))), ?_⟩
    walk_at "rd"
    refine ⟨_, dx, [], insN_at, T.clV, T.a_text, by decide, _, dx, putF "text" t [], by rw [insN_set]; exact insN_at, T.clV, T.a_tokens, (by decide : 1 < 1000), _, dx, putF "tokens" k (putF "text" t []), by rw [insN_set, insN_set]; exact insN_at, T.clV, T.a_parent, (by decide : 2 < 1000), _, dx, putF "parent" p (putF "tokens" k (putF "text" t [])), by rw [insN_set, insN_set, insN_set]; exact insN_at, T.clV, T.a_redo, (by decide : 3 < 1000), ?_⟩
    rw [insN_set, insN_set, insN_set, insN_set]
    exact q
theorem U_app (u v : Units) : U (u ++ v) = U u ++ U v := List.map_append
theorem cat_U {K : PySem.W.Frag} {S : Addr → Prop} {G0 H0 G H : Hp} {a b : Addr} {u v : Units} {Q : VK} (g : Grow S G0 H0 G H) (ha : Tx G a u) (hb : Tx G b v) (hz : u.length + v.length ≤ sizeLine)
    (q : ∀ p G' H', Grow S G0 H0 G' H' → Grow Sno G H G' H' → Tx G' p (u ++ v) → Q (.ref p) H') : rCatA K (.ref a) (.ref b) H Q := by
  refine ⟨a, b, U u, U v, rfl, rfl, SqT.of (g.s _ _ ha), SqT.of (g.s _ _ hb), by rw [U_len, U_len]; exact hz, fun e => ?_, fun _ e => ?_, fun _ _ p hp => ?_⟩
  · have e : u = [] := List.map_eq_nil_iff.mp e
    subst e
    exact q b G H g (Grow.refl g.s) hb
  · have e : v = [] := List.map_eq_nil_iff.mp e
    subst e
    exact q a G H g (Grow.refl g.s) (by rw [List.append_nil]; exact ha)
  · rw [← U_app]
    exact q p _ _ (g.new hp) ((Grow.refl g.s).new hp) upd_same
theorem ix_last (n : Nat) : ixN (n + 1) (-1) = some n := by
  unfold ixN
  rw [if_neg (by decide), if_pos (by omega)]
  congr 1
  omega
theorem set_last {α : Type} (l : List α) (a b : α) : (l ++ [a]).set l.length b = l ++ [b] := by
  rw [List.set_append_right _ _ (Nat.le_refl _), Nat.sub_self]
  rfl
theorem or_split {c : Prop} [Decidable c] {B N : Prop} {tv : Bool → Prop} {k : Bool} (hk : tv k) (h1 : c ∨ k = true → B) (h2 : ¬ c → k = false → N) : if c then B else ∃ k, tv k ∧ if k = true then B else N := by
  by_cases h : c
  · rw [if_pos h]
    exact h1 (.inl h)
  · rw [if_neg h]
    refine ⟨k, hk, ?_⟩
    cases k with
    | true => exact h1 (.inr rfl)
    | false => exact h2 h rfl
theorem U_empty {u : Units} : (!(U u).isEmpty) = true ↔ u ≠ [] := by
  cases u <;> simp [U]
theorem paired_last {α β : Type} {R : α → β → Prop} : ∀ {l : List α} {m : List β} {b : β}, Paired R l m → m.getLast? = some b → ∃ a, l = l.dropLast ++ [a] ∧ R a b ∧ Paired R l.dropLast m.dropLast
  | _, _, _, .nil, h => by cases h
  | [a], [b], _, .cons r .nil, h => by
    have h := Option.some.inj h
    subst h
    exact ⟨a, rfl, r, .nil⟩
  | a :: a' :: l, b :: b' :: m, c, .cons r t, h => by
    rw [List.getLast?_cons_cons] at h
    obtain ⟨x, e, r', t'⟩ := paired_last t h
    refine ⟨x, ?_, r', ?_⟩
    · rw [List.dropLast_cons_cons, List.cons_append, ← e]
    · rw [List.dropLast_cons_cons, List.dropLast_cons_cons]
      exact .cons r t'
abbrev s_normalized : Stmt := top 38
theorem sc_normalized : FnScope ["change", "found", "begin", "end", "text"] ["change"] (defScope s_normalized) := ⟨rfl, rfl, rfl, by decide +kernel, rfl, by decide +kernel, by decide +kernel⟩
theorem ok_normalized (T : Top K mg A) (D : DefAt K mg "normalized" s_normalized ["change"]) : Fn P w K mg base CX0 1 "normalized" ["change"] sp_normalized := by
  refine D.ok sc_normalized (fun vs H Q E h => ?_) (fun f cdv Ar outer s H vs Q E hr h => ?_)
  · obtain ⟨p, c, G, rfl, _⟩ := h
    rfl
  · obtain ⟨p, c, G, rfl, hG, ⟨as, hp, hc⟩, hl, hz, q⟩ := h
    refine ⟨_, (pss_cons (ps_set (i := 1) sc_normalized.nd rfl (.inl rfl) (pe_lst pa_nil))
      (pss_cons (ps_for PassesOwn.never rfl (pi_list (pv 0)) (pg_tup (n := 3) rfl (pgs_cons (pg_name (i := 2) sc_normalized.nd rfl (Or.inl rfl)) (pgs_cons (pg_name (i := 3) sc_normalized.nd rfl (Or.inl rfl)) (pgs_cons (pg_name (i := 4) sc_normalized.nd rfl (Or.inl rfl)) pgs_nil)))) (pss_one (ps_if (PW.pt (pw_or (pt_cmpR op_lt (pv 2) (pv 3) (nomark _)) (pw_or1 (pt_truth (pv 4) (by intro _; rfl))))) (pss_one (ps_if (PW.pt (pw_and (pt_truth (pv 1) (by intro _; rfl)) (pw_and1 (pt_cmpR op_eq (pe_ix ix_tup (pe_ix ix_list (pv 1) (pe_un un_neg pe_int) (fun _ _ => rfl)) pe_int (fun _ _ => rfl)) (pv 2) (nomark _))))) (pss_one (ps_asg (pe_tup (pa_cons (pe_ix ix_tup (pe_ix ix_list (pv 1) (pe_un un_neg pe_int) (fun _ _ => rfl)) pe_int (fun _ _ => rfl)) (pa_cons (pv 3) (pa_cons (pe_op op_catA (pe_ix ix_tup (pe_ix ix_list (pv 1) (pe_un un_neg pe_int) (fun _ _ => rfl)) pe_int (fun _ _ => rfl)) (pv 4)) pa_nil)))) (pg_sub (pv 1) (pe_un un_neg pe_int) set_list))) (pss_one (ps_expr (pe_bm PySem.F.plainAttrs_list PySem.F.slot_list_append PySem.F.type_list_append mt_append (pv 1) (pa_cons (pe_tup (pa_cons (pv 2) (pa_cons (pv 3) (pa_cons (pv 4) pa_nil)))) pa_nil)))))) pss_nil)))
      (pss_one (ps_ret (pv 1))))), ?_⟩
    walk_at "rd"
    refine ⟨Nat.zero_le _, fun D hD => ?_⟩
    have g0 : Grow Sno G H G (upd H D (.lst [])) := (Grow.refl hG).tmp hD
    have hlen := paired_len hc
    refine ⟨V.ref p, rfl, p, rfl, ⟨_, SqL.of (g0.s _ _ hp)⟩, for_list (K := K) (a := p) (xs := as.map V.ref) (fun j σ H' => ∃ v2 v3 v4 bs G1, σ = [some (.ref p), some (.ref D), v2, v3, v4] ∧ Grow Sno G H G1 H' ∧ G1 D = none ∧ H' D = some (.lst (bs.map V.ref)) ∧ Paired (RepAt G1) bs ((c.take j).foldl nStep []))
      ⟨none, none, none, [], G, rfl, g0, hG.free hD, upd_same, .nil⟩ (fun j σ H' _ ⟨_, _, _, _, G1, _, g, _, _⟩ => SqL.of (g.s _ _ (g.g _ _ hp))) ?_ ?_⟩
    · rintro j x σ H' hx ⟨v2, v3, v4, bs, G1, rfl, g, hGD, hHD, hP⟩
      rw [List.getElem?_map] at hx
      obtain ⟨b, hb, ex⟩ := Option.map_eq_some_iff.mp hx
      subst ex
      obtain ⟨r, hr, t, hb1, ht⟩ := paired_get hc hb
      rw [take_one hr, List.foldl_append]
      obtain ⟨z1, z2⟩ := Law.nFold_len c j
      generalize (c.take j).foldl nStep [] = acc at hP z1 z2
      show gTup K _ _ _ _ _ _
      have hrl : r.text.length ≤ insertedLength c := Law.ins_mem (List.mem_of_getElem? hr)
      have hfold : ∀ l, List.foldl nStep l [r] = nStep l r := fun _ => rfl
      rw [hfold]
      refine ⟨b, _, rfl, SqT.of (g.s _ _ (g.g _ _ hb1)), rfl, ?_⟩
      walk_at "rd"
      have sz : 100000 + 100000 ≤ sizeLine := by decide
      have hbl := paired_len hP
      have hjl : j < as.length := (List.getElem?_eq_some_iff.mp hb).1
      have hH' := g.s
      have stepA : nStep acc r = acc ++ [r] → 3 ≤ sizeLine ∧ ∀ p_1, H' p_1 = none → ∃ x, upd H' p_1 (.tup [V.int r.lo, V.int r.hi, V.ref t]) D = some (.lst x) ∧ x.length < sizeLine ∧
          ∃ bs' G2, Grow Sno G H G2 (upd (upd H' p_1 (.tup [V.int r.lo, V.int r.hi, V.ref t])) D (.lst (x ++ [V.ref p_1]))) ∧ G2 D = none ∧ upd (upd H' p_1 (.tup [V.int r.lo, V.int r.hi, V.ref t])) D (.lst (x ++ [V.ref p_1])) D = some (.lst (bs'.map V.ref)) ∧ Paired (RepAt G2) bs' (nStep acc r) := fun e => by
        refine ⟨by decide, fun p1 hp1 => ?_⟩
        have g1 := g.new (o := .tup [V.int r.lo, V.int r.hi, V.ref t]) hp1
        have ne : D ≠ p1 := ne_of_none hHD hp1
        refine ⟨bs.map V.ref, by rw [upd_ne ne]; exact hHD, by rw [List.length_map]; omega, bs ++ [p1], _, g1.put (by rw [upd_ne ne]; exact hGD) (.inr hD), by rw [upd_ne ne]; exact hGD, by rw [upd_same, List.map_append]; rfl, ?_⟩
        rw [e]
        exact paired_snoc ⟨t, upd_same, same_new (g.s.free hp1) _ _ (g.g _ _ ht)⟩ (paired_mono (fun _ _ h => h.mono (same_new (g.s.free hp1))) hP)
      refine or_split (tv := TruV K (.ref t) H') (.inr (.inl ⟨_, SqT.of (g.s _ _ (g.g _ _ ht)), rfl⟩)) (fun hk => ?_) (fun h1 h2 => ?_)
      · have hcond : r.lo < r.hi ∨ r.text ≠ [] := hk.imp (fun h => by omega) U_empty.mp
        refine ⟨!(bs.map V.ref).isEmpty, .inl ⟨_, SqL.of hHD, rfl⟩, ?_⟩
        cases hla : acc.getLast? with
        | none =>
          have e0 : acc = [] := List.getLast?_eq_none_iff.mp hla
          have eb : bs = [] := List.length_eq_zero_iff.mp (by rw [hbl, e0]; rfl)
          rw [if_neg (by rw [eb]; decide)]
          exact ⟨.inl ⟨rfl, _, SqL.of hHD⟩, stepA (by unfold Law.nStep; rw [if_pos hcond, hla])⟩
        | some s =>
          obtain ⟨b9, eb, ⟨t9, hb9, ht9⟩, hP9⟩ := paired_last hP hla
          have em : bs.map V.ref = bs.dropLast.map V.ref ++ [V.ref b9] := by
            conv => lhs; rw [eb, List.map_append]
            rfl
          rw [if_pos (by rw [em]; cases bs.dropLast.map V.ref <;> rfl)]
          have hla' : atI (bs.map V.ref) (-1) = some (V.ref b9) := by rw [em]; exact atI_last _ _
          have s9 := SqT.of (K := K) (g.s _ _ hb9)
          refine ⟨_, SqL.of hHD, _, hla', b9, rfl, _, s9, _, rfl, rfl, ?_⟩
          by_cases hs : s.hi = r.lo
          · rw [if_pos (by rw [hs])]
            have en : nStep acc r = acc.dropLast ++ [⟨s.lo, r.hi, s.text ++ r.text⟩] := by
              unfold Law.nStep
              rw [if_pos hcond, hla]
              exact if_pos hs
            have hsz : s.text.length ≤ insertedLength acc := Law.ins_mem (List.mem_of_getLast? hla)
            have hil := Law.ins_take c j
            refine ⟨_, SqL.of hHD, _, hla', b9, rfl, _, s9, _, rfl, _, SqL.of hHD, _, hla', b9, rfl, _, s9, _, rfl, cat_U g ht9 (g.g _ _ ht) (by omega) fun p1 G2 H2 g2 g3 hp1 => ⟨by decide, fun p2 hp2 => ?_⟩⟩
            have g4 := g2.new (o := .tup [V.int (s.lo : Nat), V.int (r.hi : Nat), .ref p1]) hp2
            have hD2 : H2 D = some (.lst (bs.map V.ref)) := g3.same _ _ hHD
            have ne : D ≠ p2 := ne_of_none hD2 hp2
            have hGD2 : G2 D = none := g3.out hGD (some_ne hHD)
            refine ⟨bs.dropLast.map V.ref ++ [V.ref b9], by rw [upd_ne ne, ← em]; exact hD2, _, by rw [List.length_append]; exact ix_last _, ?_⟩
            rw [set_last]
            refine ⟨bs.dropLast ++ [p2], _, g4.put (by rw [upd_ne ne]; exact hGD2) (.inr hD), by rw [upd_ne ne]; exact hGD2, by rw [upd_same, List.map_append]; rfl, ?_⟩
            rw [en]
            exact paired_snoc ⟨p1, upd_same, same_new (g2.s.free hp2) _ _ hp1⟩ (paired_mono (fun _ _ h => (h.mono g3.g).mono (same_new (g2.s.free hp2))) hP9)
          · rw [if_neg (by intro z; exact hs (by have := V.int.inj z; omega))]
            refine ⟨.inl ⟨rfl, _, SqL.of hHD⟩, stepA ?_⟩
            unfold Law.nStep
            rw [if_pos hcond, hla]
            exact if_neg hs
      · have en : nStep acc r = acc := by
          unfold Law.nStep
          refine if_neg fun z => ?_
          rcases z with z | z
          · omega
          · rw [U_empty.mpr z] at h2
            cases h2
        rw [en]
        exact ⟨bs, G1, g, hGD, hHD, hP⟩
    · rintro σ H' ⟨v2, v3, v4, bs, G1, rfl, g, hGD, hHD, hP⟩
      walk_at "rd"
      rw [List.length_map, hlen, List.take_length] at hP
      exact q D _ _ (g.fix hD hHD hGD) hD ⟨bs, upd_same, paired_mono (fun _ _ h => h.mono (same_new hGD)) hP⟩
abbrev s_changed_text : Stmt := top 39
theorem sc_changed_text : FnScope ["text", "change", "found", "here", "begin", "end", "new"] ["text", "change"] (defScope s_changed_text) := ⟨rfl, rfl, rfl, by decide +kernel, rfl, by decide +kernel, by decide +kernel⟩
theorem ok_changed_text (T : Top K mg A) (D : DefAt K mg "changed_text" s_changed_text ["text", "change"]) : Fn P w K mg base CX0 1 "changed_text" ["text", "change"] sp_changed_text := by
  refine D.ok sc_changed_text (fun vs H Q E h => ?_) (fun f cdv Ar outer s H vs Q E hr h => ?_)
  · obtain ⟨a, p, u, c, G, rfl, _⟩ := h
    rfl
  · obtain ⟨a, p, u, c, G, rfl, hG, hu, ⟨as, hp, hc⟩, hv, hl, hz, q⟩ := h
    refine ⟨_, (pss_cons (ps_asg (pe_tup (pa_cons (pe_tup pa_nil) (pa_cons pe_int pa_nil))) (pg_tup (n := 2) rfl (pgs_cons (pg_name (i := 2) sc_changed_text.nd rfl (Or.inl rfl)) (pgs_cons (pg_name (i := 3) sc_changed_text.nd rfl (Or.inl rfl)) pgs_nil))))
      (pss_cons (ps_for PassesOwn.never rfl (pi_list (pv 1)) (pg_tup (n := 3) rfl (pgs_cons (pg_name (i := 4) sc_changed_text.nd rfl (Or.inl rfl)) (pgs_cons (pg_name (i := 5) sc_changed_text.nd rfl (Or.inl rfl)) (pgs_cons (pg_name (i := 6) sc_changed_text.nd rfl (Or.inl rfl)) pgs_nil)))) (pss_cons (ps_set (i := 2) sc_changed_text.nd rfl (.inl rfl) (pe_op op_catA (pe_op op_catA (pv 2) (pe_slice sl_tupA (pv 0) (po_some (pv 3)) (po_some (pv 4)))) (pv 6)))
      (pss_one (ps_set (i := 3) sc_changed_text.nd rfl (.inl rfl) (pv 5)))))
      (pss_one (ps_ret (pe_op op_catA (pv 2) (pe_slice sl_tupA (pv 0) (po_some (pv 3)) po_none)))))), ?_⟩
    walk_at "rd"
    refine ⟨by decide, fun p0 hp0 => ⟨by decide, fun p1 hp1 => ⟨_, SqT.of upd_same, rfl, _, _, rfl, _, _, rfl, rfl, ?_⟩⟩⟩
    have g0 : Grow Sno G H _ _ := ((Grow.refl hG).new hp0).tmp (o := .tup [V.ref p0, .int 0]) hp1
    have hc0 : Tx (upd G p0 (.tup [])) p0 [] := upd_same
    generalize upd (upd H p0 (HO.tup [])) p1 (HO.tup [V.ref p0, .int 0]) = H1 at g0 ⊢
    generalize upd G p0 (HO.tup []) = G0 at g0 hc0
    have hlen := paired_len hc
    have sz : 100000 + 100000 + 600 ≤ sizeLine := by decide
    refine ⟨V.ref p, rfl, p, rfl, ⟨_, SqL.of (g0.s _ _ (g0.g _ _ hp))⟩, for_list (K := K) (a := p) (xs := as.map V.ref) (fun j σ H' => ∃ v4 v5 v6 b e fu G1, σ = [some (.ref a), some (.ref p), some (.ref b), some (.int ((e : Nat) : Int)), v4, v5, v6] ∧ Grow Sno G H G1 H' ∧ Tx G1 b fu ∧
      fu.length ≤ e + insertedLength (c.take j) ∧ Valid e u.length (c.drop j) ∧ changedText c u = fu ++ applyFrom e (c.drop j) (u.drop e))
      ⟨none, none, none, p0, 0, [], G0, rfl, g0, hc0, Nat.zero_le _, hv, rfl⟩ (fun j σ H' _ ⟨_, _, _, _, _, _, G1, _, g, _, _⟩ => SqL.of (g.s _ _ (g.g _ _ hp))) ?_ ?_⟩
    · rintro j x σ H' hx ⟨v4, v5, v6, b, e, fu, G1, rfl, g, hfu, hfl, hvj, hch⟩
      rw [List.getElem?_map] at hx
      obtain ⟨b9, hb, ex⟩ := Option.map_eq_some_iff.mp hx
      subst ex
      obtain ⟨r, hr, t, hb1, ht⟩ := paired_get hc hb
      have hdr : c.drop j = r :: c.drop (j + 1) := by
        obtain ⟨hj, z⟩ := List.getElem?_eq_some_iff.mp hr
        rw [← z]
        exact List.drop_eq_getElem_cons hj
      rw [hdr] at hvj hch
      obtain ⟨w1, w2, w3⟩ := hvj
      have w4 := w3.le
      have hit : insertedLength (c.take (j + 1)) = insertedLength (c.take j) + r.text.length := by rw [take_one hr, Law.ins_app, Law.ins_one]
      have hit2 := Law.ins_take c (j + 1)
      refine ⟨b9, _, rfl, SqT.of (g.s _ _ (g.g _ _ hb1)), rfl, ?_⟩
      walk_at "rd"
      refine sl_U g (g.g _ _ hu) (by omega) (by omega) (by omega) fun p3 G3 H3 g3 g4 h3 => ?_
      rw [Int.toNat_natCast, Int.toNat_natCast] at h3
      have hsl : ((u.drop e).take (r.lo - e)).length = r.lo - e := by rw [List.length_take, List.length_drop]; omega
      refine cat_U g3 (g4.g _ _ hfu) h3 (by omega) fun p5 G5 H5 g5 g6 h5 => ?_
      refine cat_U g5 h5 (g5.g _ _ ht) (by rw [List.length_append]; omega) fun p7 G7 H7 g7 g8 h7 => ?_
      refine ⟨_, _, _, p7, rfl, r.hi, rfl, rfl, rfl, rfl, _, G7, g7, h7, ?_, w3, ?_⟩
      · rw [List.length_append, List.length_append]
        omega
      · rw [hch, applyFrom, List.drop_drop, show e + (r.hi - e) = r.hi by omega, List.append_assoc, List.append_assoc, List.append_assoc]
    · rintro σ H' ⟨v4, v5, v6, b, e, fu, G1, rfl, g, hfu, hfl, hvj, hch⟩
      rw [List.length_map, hlen, List.drop_length] at hvj hch
      have hit2 := Law.ins_take c (as.map V.ref).length
      have hvj : e ≤ u.length := hvj
      walk_at "rd"
      refine sl_U2 g (g.g _ _ hu) (by omega) (by omega) fun p3 G3 H3 g3 g4 h3 => ?_
      rw [Int.toNat_natCast] at h3
      refine cat_U g3 (g4.g _ _ hfu) h3 (by rw [List.length_drop]; omega) fun p5 G5 H5 g5 g6 h5 => q p5 G5 H5 g5 ?_
      rw [hch]
      exact h5
abbrev s_added : Stmt := top 40
theorem sc_added : FnScope ["change", "begin", "end", "text"] ["change"] (defScope s_added) := ⟨rfl, rfl, rfl, by decide +kernel, rfl, by decide +kernel, by decide +kernel⟩
theorem ok_added (T : Top K mg A) (D : DefAt K mg "added" s_added ["change"]) : Fn P w K mg base CX0 1 "added" ["change"] sp_added := by
  refine D.ok sc_added (fun vs H Q E h => ?_) (fun f cdv Ar outer s H vs Q E hr h => ?_)
  · obtain ⟨p, c, G, rfl, _⟩ := h
    rfl
  · obtain ⟨p, c, G, rfl, hG, ⟨as, hp, hc⟩, hl, q⟩ := h
    refine ⟨_, (pss_one (ps_ret (pe_callB (cr_sum rfl) (by rfl) T.n_sum (by decide +kernel) (pa_cons (pe_lc (own := [("begin", 1), ("end", 2), ("text", 3)]) (g := (gTup K 3 (gCons (gName 1) (gCons (gName 2) (gCons (gName 3) gNil))))) rfl sc_added.nd (pi_list (pv 0)) (blkOk_by (N := ["change", "begin", "end", "text"]) (sc := defScope s_added) (by decide +kernel)) (fun _ _ _ _ _ => (pg_tup (n := 3) rfl (pgs_cons (pg_name (i := 1) sc_added.nd rfl (Or.inl rfl)) (pgs_cons (pg_name (i := 2) sc_added.nd rfl (Or.inl rfl)) (pgs_cons (pg_name (i := 3) sc_added.nd rfl (Or.inl rfl)) pgs_nil))))) (fun _ _ _ _ _ => pts_nil) (fun _ _ _ _ _ => (pe_callB (call_lenK (K := K) rfl) (by rfl) T.n_len PySem.boot_len (pa_cons (pv 3) pa_nil)))) pa_nil)))), ?_⟩
    walk_at "rd"
    have hlen := paired_len hc
    refine ⟨V.ref p, rfl, p, rfl, ⟨_, SqL.of (hG _ _ hp)⟩, fun D hD => ?_⟩
    have s20 : 21 ≤ sizeLine := by decide
    refine lc_pure (walk_list (K := K) (a := p) (xs := as.map V.ref)) (fun i => .int (((c.map fun r => r.text.length).getD i 0 : Nat) : Int)) (by rw [List.length_map]; omega) (fun acc => SqL.of (((Grow.refl (S := Sno) hG).tmp hD).s _ _ hp)) (fun i x acc H' Qe hi ⟨e, hx⟩ qe => ?_) ?_
    · subst e
      rw [List.getElem?_map] at hx
      obtain ⟨b9, hb, ex⟩ := Option.map_eq_some_iff.mp hx
      subst ex
      obtain ⟨r, hr, t, hb1, ht⟩ := paired_get hc hb
      have sH := ((Grow.refl (S := Sno) hG).tmp (o := .lst acc) hD).s
      refine ⟨b9, _, rfl, SqT.of (sH _ _ hb1), rfl, ?_⟩
      walk_at "rd"
      refine ⟨_, .inr (SqT.of (sH _ _ ht)), ?_⟩
      rw [U_len]
      have e : (c.map fun r => r.text.length).getD i 0 = r.text.length := by rw [List.getD_eq_getElem?_getD, List.getElem?_map, hr]; rfl
      rw [← e]
      exact qe
    · refine ⟨D, c.map fun r => (r.text.length : Int), rfl, SqL.of ?_, ?_⟩
      · rw [upd_same]
        congr 2
        refine range_mapN (by rw [List.length_map, List.length_map, List.length_map, hlen]) fun i x hx => ?_
        rw [List.getElem?_map, List.getElem?_map] at hx
        cases hr : c[i]? with
        | none => rw [hr] at hx; cases hx
        | some r =>
          rw [hr] at hx
          rw [← Option.some.inj hx, List.getD_eq_getElem?_getD, List.getElem?_map, hr]
          rfl
      · rw [int_sum]
        exact q _ (same_new hD)
abbrev s_is_outside : Stmt := top 42
theorem sc_is_outside : FnScope ["change", "begin", "end", "first", "last", "text"] ["change", "begin", "end"] (defScope s_is_outside) := ⟨rfl, rfl, rfl, by decide +kernel, rfl, by decide +kernel, by decide +kernel⟩
theorem ok_is_outside (T : Top K mg A) (D : DefAt K mg "is_outside" s_is_outside ["change", "begin", "end"]) : Fn P w K mg base CX0 1 "is_outside" ["change", "begin", "end"] sp_is_outside := by
  refine D.ok sc_is_outside (fun vs H Q E h => ?_) (fun f cdv Ar outer s H vs Q E hr h => ?_)
  · obtain ⟨p, i, j, c, G, rfl, _⟩ := h
    rfl
  · obtain ⟨p, i, j, c, G, rfl, hG, ⟨as, hp, hc⟩, hl, q⟩ := h
    refine ⟨_, (pss_one (ps_ret (pe_callB (cr_all rfl) (by rfl) T.n_all (by decide +kernel) (pa_cons (pe_lc (own := [("first", 3), ("last", 4), ("text", 5)]) (g := (gTup K 3 (gCons (gName 3) (gCons (gName 4) (gCons (gName 5) gNil))))) rfl sc_is_outside.nd (pi_list (pv 0)) (blkOk_by (N := ["change", "begin", "end", "first", "last", "text"]) (sc := defScope s_is_outside) (by decide +kernel)) (fun _ _ _ _ _ => (pg_tup (n := 3) rfl (pgs_cons (pg_name (i := 3) sc_is_outside.nd rfl (Or.inl rfl)) (pgs_cons (pg_name (i := 4) sc_is_outside.nd rfl (Or.inl rfl)) (pgs_cons (pg_name (i := 5) sc_is_outside.nd rfl (Or.inl rfl)) pgs_nil))))) (fun _ _ _ _ _ => pts_nil) (fun _ _ _ _ _ => (pe_or (pe_cmpR op_le (pv 2) (pv 3) (nomark _)) (pe_one (pe_cmpR op_ge (pv 1) (pv 4) (nomark _)))))) pa_nil)))), ?_⟩
    walk_at "rd"
    have hlen := paired_len hc
    refine ⟨V.ref p, rfl, p, rfl, ⟨_, SqL.of (hG _ _ hp)⟩, fun D hD => ?_⟩
    have s20 : 21 ≤ sizeLine := by decide
    refine lc_pure (walk_list (K := K) (a := p) (xs := as.map V.ref)) (fun k => .bl ((c.map fun r => decide (j ≤ r.lo) || decide (r.hi ≤ i)).getD k false)) (by rw [List.length_map]; omega) (fun acc => SqL.of (((Grow.refl (S := Sno) hG).tmp hD).s _ _ hp)) (fun k x acc H' Qe hi ⟨e, hx⟩ qe => ?_) ?_
    · subst e
      rw [List.getElem?_map] at hx
      obtain ⟨b9, hb, ex⟩ := Option.map_eq_some_iff.mp hx
      subst ex
      obtain ⟨r, hr, t, hb1, ht⟩ := paired_get hc hb
      have sH := ((Grow.refl (S := Sno) hG).tmp (o := .lst acc) hD).s
      refine ⟨b9, _, rfl, SqT.of (sH _ _ hb1), rfl, ?_⟩
      walk_at "rd"
      have e : (c.map fun r => decide (j ≤ r.lo) || decide (r.hi ≤ i)).getD k false = (decide (j ≤ r.lo) || decide (r.hi ≤ i)) := by rw [List.getD_eq_getElem?_getD, List.getElem?_map, hr]; rfl
      rw [e] at qe
      by_cases h1 : j ≤ r.lo
      · rw [if_pos (by omega)]
        rw [decide_eq_true h1, Bool.true_or] at qe
        exact qe
      · rw [if_neg (by omega)]
        rw [decide_eq_false h1, Bool.false_or] at qe
        rw [show decide ((r.hi : Int) ≤ (i : Int)) = decide (r.hi ≤ i) from decide_eq_decide.mpr (by omega)]
        exact qe
    · refine ⟨D, c.map fun r => decide (j ≤ r.lo) || decide (r.hi ≤ i), rfl, SqL.of ?_, ?_⟩
      · rw [upd_same]
        congr 2
        refine range_mapN (by rw [List.length_map, List.length_map, List.length_map, hlen]) fun k x hx => ?_
        rw [List.getElem?_map, List.getElem?_map] at hx
        cases hr : c[k]? with
        | none => rw [hr] at hx; cases hx
        | some r =>
          rw [hr] at hx
          rw [← Option.some.inj hx, List.getD_eq_getElem?_getD, List.getElem?_map, hr]
          rfl
      · rw [List.all_map]
        exact q _ (same_new hD)
abbrev s_moved : Stmt := top 41
theorem sc_moved : FnScope ["change", "offset", "begin", "end", "text"] ["change", "offset"] (defScope s_moved) := ⟨rfl, rfl, rfl, by decide +kernel, rfl, by decide +kernel, by decide +kernel⟩
theorem ok_moved (T : Top K mg A) (D : DefAt K mg "moved" s_moved ["change", "offset"]) : Fn P w K mg base CX0 1 "moved" ["change", "offset"] sp_moved := by
  refine D.ok sc_moved (fun vs H Q E h => ?_) (fun f cdv Ar outer s H vs Q E hr h => ?_)
  · obtain ⟨p, i, n, c, G, rfl, _⟩ := h
    rfl
  · obtain ⟨p, i, n, c, G, rfl, hG, ⟨as, hp, hc⟩, hl, hv, q⟩ := h
    refine ⟨_, (pss_one (ps_ret (pe_op op_add (pv 1) (pe_callB (cr_sum rfl) (by rfl) T.n_sum (by decide +kernel) (pa_cons (pe_lc (own := [("begin", 2), ("end", 3), ("text", 4)]) (g := (gTup K 3 (gCons (gName 2) (gCons (gName 3) (gCons (gName 4) gNil))))) rfl sc_moved.nd (pi_list (pv 0)) (blkOk_by (N := ["change", "offset", "begin", "end", "text"]) (sc := defScope s_moved) (by decide +kernel)) (fun _ _ _ _ _ => (pg_tup (n := 3) rfl (pgs_cons (pg_name (i := 2) sc_moved.nd rfl (Or.inl rfl)) (pgs_cons (pg_name (i := 3) sc_moved.nd rfl (Or.inl rfl)) (pgs_cons (pg_name (i := 4) sc_moved.nd rfl (Or.inl rfl)) pgs_nil))))) (fun _ _ _ _ _ => (pts_one (pt_cmpR op_le (pv 3) (pv 1) (nomark _)))) (fun _ _ _ _ _ => (pe_op op_sub (pe_callB (call_lenK (K := K) rfl) (by rfl) T.n_len PySem.boot_len (pa_cons (pv 4) pa_nil)) (pe_op op_sub (pv 3) (pv 2))))) pa_nil))))), ?_⟩
    walk_at "rd"
    have hlen := paired_len hc
    refine ⟨V.ref p, rfl, p, rfl, ⟨_, SqL.of (hG _ _ hp)⟩, fun D hD => ?_⟩
    have s20 : 21 ≤ sizeLine := by decide
    have sD : ∀ {o}, Same G (upd H D o) := fun {o} => ((Grow.refl (S := Sno) hG).tmp (o := o) hD).s
    refine lc_it (walk_list (K := K) (a := p) (xs := as.map V.ref)) (fun k H' => H' = upd H D (.lst (((c.take k).filter fun r => decide (r.hi ≤ i)).map fun r => .int ((r.text.length : Int) - ((r.hi : Int) - (r.lo : Int)))))) rfl (fun k H' _ e => by rw [e]; exact SqL.of (sD _ _ hp)) (fun k x H' H2 hk e ⟨e2, hx⟩ => ?_) (fun H' e => ?_)
    · subst e
      subst e2
      rw [List.getElem?_map] at hx
      obtain ⟨b9, hb, ex⟩ := Option.map_eq_some_iff.mp hx
      subst ex
      obtain ⟨r, hr, t, hb1, ht⟩ := paired_get hc hb
      rw [take_one hr, List.filter_append]
      refine ⟨b9, _, rfl, SqT.of (sD _ _ hb1), rfl, ?_⟩
      have hfl : ((c.take k).filter fun r => decide (r.hi ≤ i)).length ≤ 20 := Nat.le_trans (List.length_filter_le _ _) (by rw [List.length_take]; omega)
      generalize (c.take k).filter (fun r => decide (r.hi ≤ i)) = fl at hfl ⊢
      walk_at "rd"
      by_cases h1 : r.hi ≤ i
      · rw [if_pos (by omega)]
        refine ⟨U r.text, .inr (SqT.of (sD _ _ ht)), _, upd_same, by rw [List.length_map]; omega, ?_⟩
        rw [upd_upd, List.filter_cons, if_pos (decide_eq_true h1), List.filter_nil, List.map_append, U_len]
        rfl
      · rw [if_neg (by omega), List.filter_cons, if_neg (by simpa using h1), List.filter_nil, List.append_nil]
    · subst e
      rw [List.length_map, hlen, List.take_length]
      refine ⟨D, (c.filter fun r => decide (r.hi ≤ i)).map fun r => (r.text.length : Int) - ((r.hi : Int) - (r.lo : Int)), rfl, SqL.of ?_, _, rfl, ?_⟩
      · rw [upd_same, List.map_map]
        rfl
      · rw [Law.moved_sum hv]
        exact q _ (same_new hD)
end
end Tk
end
section
set_option Elab.async false
set_option linter.all false
set_option maxRecDepth 100000
set_option maxHeartbeats 2000000
/-! The walk, part 11: documents.py: documents. -/
namespace Tk
open PySem PySem.Spec PyProof.Rows L2
open R7253e.Spec (Replacement Change Token RawToken scan changedText insertedLength isOutside mapOffset reusedId assignIds)
open Law (Valid MVer MDoc mUp mGo mNew mEdit Good Ahead)
def tokT (t : Token) : List V := [.int t.id, .str (kn t.raw.kind), .int t.raw.start, .int ((t.raw.start + t.raw.length : Nat) : Int)]
def vFs (ta tk : Addr) (v : MVer) : List (Str × V) := [("text", .ref ta), ("tokens", .ref tk), ("parent", .int v.par), ("redo", .int v.redo)]
def dFs (vl : Addr) (d : MDoc) : List (Str × V) := [("versions", .ref vl), ("current", .int d.cur), ("next_id", .int d.next), ("many_added", .int d.added)]
def VerAt (A : Ads) (G H : Hp) (b : Addr) (v : MVer) : Prop := ∃ dx ta tk, H b = some (.ins A.cV dx (vFs ta tk v)) ∧ G b = none ∧ Tx G ta v.text ∧ Ls tokT G tk v.toks
structure DocAt (A : Ads) (G H : Hp) (a vl : Addr) (bs : List Addr) (d : MDoc) : Prop where
  s : Same G H
  na : G a = none
  nl : G vl = none
  ha : ∃ dx, H a = some (.ins A.cO dx (dFs vl d))
  hl : H vl = some (.lst (bs.map V.ref))
  hv : Paired (VerAt A G H) bs d.vers
  nd : bs.Nodup
theorem vf_text {ta tk : Addr} {v : MVer} : List.lookup ("text" : Str) (vFs ta tk v) = some (.ref ta) := lk_here
theorem vf_tokens {ta tk : Addr} {v : MVer} : List.lookup ("tokens" : Str) (vFs ta tk v) = some (.ref tk) := (lk_past (by decide)).trans lk_here
theorem vf_parent {ta tk : Addr} {v : MVer} : List.lookup ("parent" : Str) (vFs ta tk v) = some (.int v.par) := (lk_past (by decide)).trans ((lk_past (by decide)).trans lk_here)
theorem vf_redo {ta tk : Addr} {v : MVer} : List.lookup ("redo" : Str) (vFs ta tk v) = some (.int v.redo) := (lk_past (by decide)).trans ((lk_past (by decide)).trans ((lk_past (by decide)).trans lk_here))
theorem vf_put {ta tk : Addr} {v : MVer} {n : Int} : putF ("redo" : Str) (.int n) (vFs ta tk v) = vFs ta tk (v.redoTo n) := by
  unfold vFs
  rw [put_past (by decide), put_past (by decide), put_past (by decide), put_here]
  rfl
theorem df_versions {vl : Addr} {d : MDoc} : List.lookup ("versions" : Str) (dFs vl d) = some (.ref vl) := lk_here
theorem df_current {vl : Addr} {d : MDoc} : List.lookup ("current" : Str) (dFs vl d) = some (.int d.cur) := (lk_past (by decide)).trans lk_here
theorem df_next {vl : Addr} {d : MDoc} : List.lookup ("next_id" : Str) (dFs vl d) = some (.int d.next) := (lk_past (by decide)).trans ((lk_past (by decide)).trans lk_here)
theorem df_added {vl : Addr} {d : MDoc} : List.lookup ("many_added" : Str) (dFs vl d) = some (.int d.added) := (lk_past (by decide)).trans ((lk_past (by decide)).trans ((lk_past (by decide)).trans lk_here))
theorem df_no {vl : Addr} {d : MDoc} {k : Str} (h1 : (k == ("versions" : Str)) = false) (h2 : (k == ("current" : Str)) = false) (h3 : (k == ("next_id" : Str)) = false) (h4 : (k == ("many_added" : Str)) = false) : List.lookup k (dFs vl d) = none :=
  (lk_past h1).trans ((lk_past h2).trans ((lk_past h3).trans ((lk_past h4).trans rfl)))
theorem df_put_current {vl : Addr} {d : MDoc} {n : Nat} : putF ("current" : Str) (.int (n : Int)) (dFs vl d) = dFs vl { d with cur := n } := by
  unfold dFs
  rw [put_past (by decide), put_here]
theorem df_put_next {vl : Addr} {d : MDoc} {n : Nat} : putF ("next_id" : Str) (.int (n : Int)) (dFs vl d) = dFs vl { d with next := n } := by
  unfold dFs
  rw [put_past (by decide), put_past (by decide), put_here]
theorem df_put_added {vl : Addr} {d : MDoc} {n : Nat} : putF ("many_added" : Str) (.int (n : Int)) (dFs vl d) = dFs vl { d with added := n } := by
  unfold dFs
  rw [put_past (by decide), put_past (by decide), put_past (by decide), put_here]
theorem VerAt.mono {A : Ads} {G H G' H' : Hp} {b : Addr} {v : MVer} (h : VerAt A G H b v) (e : Same G G') (n : G' b = none) (k : H' b = H b) : VerAt A G' H' b v := by
  obtain ⟨dx, ta, tk, h1, h2, h3, h4⟩ := h
  exact ⟨dx, ta, tk, by rw [k]; exact h1, n, e _ _ h3, h4.mono e⟩
theorem paired_at {α β : Type} {R : α → β → Prop} : ∀ {l : List α} {m : List β} {i : Nat} {b : β}, Paired R l m → m[i]? = some b → ∃ a, l[i]? = some a ∧ R a b
  | _, _, _, _, .nil, e => by simp at e
  | _, _, 0, _, .cons r _, e => by
    have e := Option.some.inj e
    subst e
    exact ⟨_, rfl, r⟩
  | _, _, i + 1, b, .cons _ t, e => by
    obtain ⟨a, h1, h2⟩ := paired_at (i := i) (b := b) t (by simpa using e)
    exact ⟨a, by simpa using h1, h2⟩
theorem paired_off {α β : Type} {R R' : α → β → Prop} {a : α} (h : ∀ x y, x ≠ a → R x y → R' x y) : ∀ {l : List α} {m : List β}, Paired R l m → a ∉ l → Paired R' l m
  | _, _, .nil, _ => .nil
  | _, _, .cons r t, hn => .cons (h _ _ (fun z => hn (z ▸ List.mem_cons_self ..)) r) (paired_off h t fun z => hn (List.mem_cons_of_mem _ z))
theorem paired_set {α β : Type} {R R' : α → β → Prop} : ∀ {l : List α} {m : List β} {i : Nat} {a : α} {b : β}, Paired R l m → l.Nodup → l[i]? = some a → (∀ x y, x ≠ a → R x y → R' x y) → R' a b → Paired R' l (m.set i b)
  | _, _, _, _, _, .nil, _, e, _, _ => by simp at e
  | _, _, 0, _, _, .cons r t, nd, e, h, hb => by
    have e := Option.some.inj e
    subst e
    refine .cons hb ?_
    exact paired_off h t (List.nodup_cons.mp nd).1
  | x :: l, y :: m, i + 1, a, b, .cons r t, nd, e, h, hb => by
    have e : l[i]? = some a := by simpa using e
    refine .cons (h _ _ (fun z => ?_) r) (paired_set t (List.nodup_cons.mp nd).2 e h hb)
    subst z
    exact (List.nodup_cons.mp nd).1 (List.mem_of_getElem? e)
theorem at_ref {bs : List Addr} {i : Nat} {b : Addr} (h : bs[i]? = some b) : atI (bs.map V.ref) (i : Int) = some (.ref b) := at_of (j := i) rfl (by rw [List.getElem?_map, h]; rfl)
theorem getD_at {l : List MVer} {i : Nat} (h : i < l.length) : l[i]? = some (l.getD i MVer.none) := by
  rw [List.getD_eq_getElem?_getD, List.getElem?_eq_getElem h]
  rfl
theorem ne_doc_ver {H : Hp} {a b C C' dx dx' vl ta tk : Addr} {d : MDoc} {v : MVer} (h1 : H a = some (.ins C dx (dFs vl d))) (h2 : H b = some (.ins C' dx' (vFs ta tk v))) : a ≠ b := by
  intro e
  rw [e, h2] at h1
  have e := (HO.ins.inj (Option.some.inj h1)).2.2
  have e := (Prod.mk.inj (List.cons.inj e).1).1
  revert e
  decide
theorem assign_len : ∀ (l : List (RawToken × Option Nat)) (n : Nat), (assignIds n l).length = l.length
  | [], _ => rfl
  | (t, some k) :: l, n => by rw [assignIds, List.length_cons, List.length_cons, assign_len l n]
  | (t, none) :: l, n => by rw [assignIds, List.length_cons, List.length_cons, assign_len l (n + 1)]
theorem version_new {A : Ads} {H : Hp} {Q : VK} {x dx ta tk : Addr} {u : Units} {ts : List Token} {par : Int} (q : Q .non (insN H A.cV x dx (vFs ta tk ⟨u, ts, par, -1⟩))) : sp_Version A [.ref x, .ref ta, .ref tk, .int par] (upd (upd H dx (.own x)) x (.ins A.cV dx [])) Q E0 :=
  ⟨x, dx, _, H, rfl, rfl, rfl, q⟩
def sp_now : Ads → Sp := fun A vs H Q _ => ∃ (a vl : Addr) (bs : List Addr) (d : MDoc) (G : Hp), vs = [.ref a] ∧ DocAt A G H a vl bs d ∧ d.cur < d.vers.length ∧ ∀ b, bs[d.cur]? = some b → VerAt A G H b d.now → Q (.ref b) H
def sp_go_to : Ads → Sp := fun A vs H Q _ => ∃ (a vl : Addr) (n : Nat) (bs : List Addr) (d : MDoc) (G : Hp), vs = [.ref a, .int n] ∧ DocAt A G H a vl bs d ∧ n < d.vers.length ∧ Ahead d.vers ∧
  ∀ H', Grow (fun b => b ∈ a :: vl :: bs) G H G H' → DocAt A G H' a vl bs (mGo n d) → Q .non H'
def sp_Document : Ads → Sp := fun A vs H Q _ => ∃ (x dx ta : Addr) (u : Units) (G H0 : Hp), vs = [.ref x, .ref ta] ∧ H = insN H0 A.cO x dx [] ∧ H0 x = none ∧ H0 dx = none ∧ dx ≠ x ∧ Same G H0 ∧ Tx G ta u ∧ u.length ≤ 600 ∧
  ∀ vl b G' H', Grow Sno G H0 G' H' → H0 vl = none → H0 b = none → DocAt A G' H' x vl [b] (mNew u) → Q .non H'
local macro_rules | `(tactic| walk_at "rd") => `(tactic| simp only [sp_now, sp_go_to, sp_tokens_of, sp_Document, cxK, cxNK, cxNN, cxHK, tRet, tRetN, tChain, tC, tVar, rI0, rI, tOp, tUn, rU, tIf, tTest, tB, tNot, tAnd, tOr, tAndV, tOrV, tNotV, tCB, tCons, tNil, tNext, tSeq, tIfS, tDrop, tAsg, gName, tPar, tPar3, tAug, ipI, tCall, tCallS, E0, rEq, rNe, scal, rIxT, rIxL,  tTup, tLst, gTup, gCons, gNil, iTup, iList, iStr, iRng1, wipe, tSl, tPart, tNoPart, rIn,  tFld, sFld, sFldAug, tMeth, tMake, rAdd, tYes, tBM, rAppend, rExtend, rCat, rSetL, gSub,
  L2.start, List.map_cons, List.map_nil, List.length_cons, List.length_nil, Nat.reduceAdd, Nat.reduceSub, List.replicate_succ, List.replicate_zero, List.cons_append, List.nil_append, List.append_nil,
  List.getElem?_cons_zero, List.getElem?_cons_succ, List.set_cons_zero, List.set_cons_succ, Option.some.injEq, exists_eq_left, exists_eq_left', exists_eq_right, exists_eq_right', V.int.injEq, V.bl.injEq, V.str.injEq, V.ref.injEq, List.cons.injEq, true_and, and_true, and_assoc, exists_and_left, decide_eq_true_eq, Bool.false_eq_true, if_true, if_false, ite_true, ite_false, reduceIte, reduceCtorEq])

section
variable {P : Program} {w : World} {K : PySem.W.Frag} {mg : Str → Option Value} {base : Heap} {A : Ads}
abbrev s_Document_now : Stmt := inClass (top 43) 1
theorem sc_Document_now : FnScope ["self"] ["self"] (defScope s_Document_now) := ⟨rfl, rfl, rfl, by decide +kernel, rfl, by decide +kernel, by decide +kernel⟩
theorem ok_now (T : Top K mg A) (D : MtAt K A.cO "now" "Document.now" s_Document_now ["self"]) : Mt P w K mg base CX0 1 A.cO "now" ["self"] (sp_now A) := by
  refine D.ok sc_Document_now (fun vs H Q E h => ?_) (fun f cdv Ar outer s H vs Q E hr h => ?_)
  · obtain ⟨a, vl, bs, d, G, rfl, _⟩ := h
    rfl
  · obtain ⟨a, vl, bs, d, G, rfl, h, hc, q⟩ := h
    obtain ⟨dx, ha⟩ := h.ha
    refine ⟨_, (pss_one (ps_ret (pe_ix ix_list (pe_fld (pv 0) rfl) (pe_fld (pv 0) rfl) (fun _ _ => rfl)))), ?_⟩
    walk_at "rd"
    obtain ⟨b, hb, hvb⟩ := paired_at h.hv (getD_at hc)
    exact ⟨_, _, _, ha, T.clO, T.a_versions, _, df_versions, _, _, _, ha, T.clO, T.a_current, _, df_current, vl, rfl, _, _, rfl, SqL.of h.hl, _, at_ref hb, q b hb hvb⟩
abbrev s_Document_go_to : Stmt := inClass (top 43) 2
theorem sc_Document_go_to : FnScope ["self", "number", "versions", "parent"] ["self", "number"] (defScope s_Document_go_to) := ⟨rfl, rfl, rfl, by decide +kernel, rfl, by decide +kernel, by decide +kernel⟩
theorem ok_go_to (T : Top K mg A) (D : MtAt K A.cO "go_to" "Document.go_to" s_Document_go_to ["self", "number"]) : Mt P w K mg base CX0 1 A.cO "go_to" ["self", "number"] (sp_go_to A) := by
  refine D.ok sc_Document_go_to (fun vs H Q E h => ?_) (fun f cdv Ar outer s H vs Q E hr h => ?_)
  · obtain ⟨a, vl, n, bs, d, G, rfl, _⟩ := h
    rfl
  · obtain ⟨a, vl, n, bs, d, G, rfl, h, hn, hA, q⟩ := h
    obtain ⟨dx, ha⟩ := h.ha
    refine ⟨_, (pss_one (ps_if (pt_cmpR op_ne (pv 1) (pe_fld (pv 0) rfl) (nomark _)) (pss_cons (ps_fld (pv 0) (pv 1) rfl)
      (pss_cons (ps_set (i := 2) sc_Document_go_to.nd rfl (.inl rfl) (pe_fld (pv 0) rfl))
      (pss_one (ps_while PassesOwn.never (pt_cmpR op_ge (pe_fld (pe_ix ix_list (pv 2) (pv 1) (fun _ _ => rfl)) rfl) pe_int (nomark _)) (pss_cons (ps_set (i := 3) sc_Document_go_to.nd rfl (.inl rfl) (pe_ix ix_list (pv 2) (pe_fld (pe_ix ix_list (pv 2) (pv 1) (fun _ _ => rfl)) rfl) (fun _ _ => rfl)))
      (pss_cons (ps_fld (pv 3) (pv 1) rfl)
      (pss_one (ps_set (i := 1) sc_Document_go_to.nd rfl (.inl rfl) (pe_fld (pe_ix ix_list (pv 2) (pv 1) (fun _ _ => rfl)) rfl))))))))) pss_nil)), ?_⟩
    walk_at "rd"
    refine ⟨_, _, _, ha, T.clO, T.a_current, _, df_current, rfl, ?_⟩
    by_cases he : n = d.cur
    · rw [if_neg (by rw [he]; simp)]
      have e : mGo n d = d := if_pos he
      rw [e] at q
      exact q H (Grow.refl h.s) h
    · rw [if_pos (by rw [decide_eq_false (fun z => he (by have := V.int.inj z; omega))]; rfl)]
      have e : mGo n d = { d with cur := n, vers := mUp d.vers.length n d.vers } := if_neg he
      rw [e] at q
      refine ⟨_, _, _, ha, T.clO, T.a_current, (by decide : 4 < 1000), ?_⟩
      rw [df_put_current]
      refine ⟨_, _, _, upd_same, T.clO, T.a_versions, _, df_versions, ?_⟩
      have g0 : Grow (fun b => b ∈ a :: vl :: bs) G H G (upd H a (.ins A.cO dx (dFs vl { d with cur := n }))) := (Grow.refl h.s).put h.na (.inl (List.mem_cons_self ..))
      have hbl := paired_len h.hv
      have hP0 : Paired (VerAt A G (upd H a (.ins A.cO dx (dFs vl { d with cur := n })))) bs d.vers := paired_mono (fun b v hb => by
        obtain ⟨dx2, ta, tk, h1, h2⟩ := id hb
        exact hb.mono (Same.refl _) h2.1 (upd_ne (ne_doc_ver ha h1).symm)) h.hv
      have hvl0 : upd H a (.ins A.cO dx (dFs vl { d with cur := n })) vl = some (.lst (bs.map V.ref)) := by
        rw [upd_ne (ne_of h.hl ha (fun z => by cases z))]
        exact h.hl
      refine ⟨fun m σ H' => ∃ (i : Nat) (l : List MVer) (k : Nat) (v3 : Option V), m = i ∧ σ = [some (.ref a), some (.int (i : Int)), some (.ref vl), v3] ∧ Grow (fun b => b ∈ a :: vl :: bs) G H G H' ∧ (∃ dx, H' a = some (.ins A.cO dx (dFs vl { d with cur := n }))) ∧ H' vl = some (.lst (bs.map V.ref)) ∧
        Paired (VerAt A G H') bs l ∧ mUp k i l = mUp d.vers.length n d.vers ∧ i < k ∧ Ahead l ∧ i < l.length, ⟨_, n, d.vers, d.vers.length, none, rfl, rfl, g0, ⟨dx, upd_same⟩, hvl0, hP0, rfl, hn, hA, hn⟩, ?_⟩
      rintro i σ H' ⟨_, l, k, v3, rfl, rfl, g, ⟨dx', ha'⟩, hvl, hP, hup, hk, hAl, hi⟩
      obtain ⟨k', rfl⟩ : ∃ k', k = k' + 1 := ⟨k - 1, by omega⟩
      have hat := hAl.at hi
      obtain ⟨b1, hb1, dx1, ta1, tk1, hv1, hv1n, hv1t, hv1k⟩ := paired_at hP (getD_at hi)
      rw [mUp] at hup
      walk_at "rd"
      refine ⟨_, SqL.of hvl, _, at_ref hb1, b1, rfl, _, _, _, hv1, T.clV, T.a_parent, _, vf_parent, _, rfl, ?_⟩
      generalize hpar : (l.getD i MVer.none) = v1 at hat hv1 hv1t hv1k hup ⊢
      by_cases h0 : 0 ≤ v1.par
      · rw [if_pos h0] at hup ⊢
        have hp : v1.par.toNat < l.length := by omega
        obtain ⟨b2, hb2, dx2, ta2, tk2, hv2, hv2n, hv2t, hv2k⟩ := paired_at hP (getD_at hp)
        have e2 : v1.par = ((v1.par.toNat : Nat) : Int) := by omega
        refine ⟨_, fun _ _ z => z, ?_⟩
        walk_at "rd"
        refine ⟨_, SqL.of hvl, _, at_ref hb1, b1, rfl, _, _, _, hv1, T.clV, T.a_parent, _, vf_parent, _, _, rfl, SqL.of hvl, .ref b2, by rw [e2]; exact at_ref hb2, b2, rfl, _, _, _, hv2, T.clV, T.a_redo, (by decide : 4 < 1000), ?_⟩
        rw [vf_put]
        have hbm : b2 ∈ a :: vl :: bs := List.mem_cons_of_mem _ (List.mem_cons_of_mem _ (List.mem_of_getElem? hb2))
        have g2 := g.put (o := .ins A.cV dx2 (vFs ta2 tk2 ((l.getD v1.par.toNat MVer.none).redoTo i))) hv2n (.inl hbm)
        have ne12 : b1 ≠ b2 := fun z => by
          rw [z] at hb1
          have := (List.getElem?_inj (List.getElem?_eq_some_iff.mp hb1).1 h.nd).mp (hb1.trans hb2.symm)
          omega
        have hvl2 : upd H' b2 (.ins A.cV dx2 (vFs ta2 tk2 ((l.getD v1.par.toNat MVer.none).redoTo i))) vl = some (.lst (bs.map V.ref)) := by
          rw [upd_ne (ne_of hvl hv2 (fun z => by cases z))]
          exact hvl
        have ha2 : upd H' b2 (.ins A.cV dx2 (vFs ta2 tk2 ((l.getD v1.par.toNat MVer.none).redoTo i))) a = some (.ins A.cO dx' (dFs vl { d with cur := n })) := by
          rw [upd_ne (ne_doc_ver ha' hv2)]
          exact ha'
        have hP2 : Paired (VerAt A G (upd H' b2 (.ins A.cV dx2 (vFs ta2 tk2 ((l.getD v1.par.toNat MVer.none).redoTo i))))) bs (l.set v1.par.toNat ((l.getD v1.par.toNat MVer.none).redoTo i)) :=
          paired_set hP h.nd hb2 (fun x y nx hx => by
            obtain ⟨_, _, _, _, hxn, _⟩ := id hx
            exact hx.mono (Same.refl _) hxn (upd_ne nx)) ⟨dx2, ta2, tk2, upd_same, hv2n, hv2t, hv2k⟩
        refine ⟨_, SqL.of hvl2, _, at_ref hb1, b1, rfl, _, _, _, by rw [upd_ne ne12]; exact hv1, T.clV, T.a_parent, _, vf_parent, ?_⟩
        exact ⟨v1.par.toNat, by omega, congrArg V.int e2, g2, ⟨dx', ha2⟩, hvl2, _, hP2, k', hup, by omega, hAl.set _ _, by rw [List.length_set]; exact hp⟩
      · rw [if_neg h0] at hup ⊢
        rw [hup] at hP
        exact q H' g ⟨g.s, h.na, h.nl, ⟨dx', ha'⟩, hvl, hP, h.nd⟩
theorem freshs_none (l : List RawToken) : Law.freshs (l.map fun t => (t, none)) = l.length := by
  unfold Law.freshs
  rw [List.filter_eq_self.mpr, List.length_map]
  intro x hx
  obtain ⟨t, _, rfl⟩ := List.mem_map.mp hx
  rfl
abbrev s_Document_init : Stmt := inClass (top 43) 0
theorem sc_Document_init : FnScope ["self", "text", "tokens", "kind", "begin", "end"] ["self", "text"] (defScope s_Document_init) := ⟨rfl, rfl, rfl, by decide +kernel, rfl, by decide +kernel, by decide +kernel⟩
theorem ok_Document (T : Top K mg A) (D : ClAt K mg A.cO "Document" "Document.__init__" s_Document_init ["self", "text"]) (C_tokens_of : Fn P w K mg base CX0 5 "tokens_of" ["text"] sp_tokens_of) (C_Version : Cl P w K mg base CX0 1 A.cV "Version" ["self", "text", "tokens", "parent"] (sp_Version A)) :
    Cl P w K mg base CX0 6 A.cO "Document" ["self", "text"] (sp_Document A) := by
  refine D.ok sc_Document_init (fun vs H Q E h => ?_) (fun f cdv Ar outer s H vs Q E hr h => ?_)
  · obtain ⟨x, dx, ta, u, G, H0, rfl, _⟩ := h
    rfl
  · obtain ⟨x, dx, ta, u, G, H0, rfl, rfl, hx, hdx, nx, hG, hu, hl, q⟩ := h
    refine ⟨_, (pss_cons (ps_set (i := 2) sc_Document_init.nd rfl (.inl rfl) (pe_lst pa_nil))
      (pss_cons (ps_for PassesOwn.never rfl (pi_list (pe_f C_tokens_of hr (by first | decide | omega) (pa_cons (pv 1) pa_nil))) (pg_tup (n := 3) rfl (pgs_cons (pg_name (i := 3) sc_Document_init.nd rfl (Or.inl rfl)) (pgs_cons (pg_name (i := 4) sc_Document_init.nd rfl (Or.inl rfl)) (pgs_cons (pg_name (i := 5) sc_Document_init.nd rfl (Or.inl rfl)) pgs_nil)))) (pss_one (ps_expr (pe_bm PySem.F.plainAttrs_list PySem.F.slot_list_append PySem.F.type_list_append mt_append (pv 2) (pa_cons (pe_tup (pa_cons (pe_op op_add (pe_callB call_len_seq (by rfl) T.n_len PySem.boot_len (pa_cons (pv 2) pa_nil)) pe_int) (pa_cons (pv 3) (pa_cons (pv 4) (pa_cons (pv 5) pa_nil))))) pa_nil)))))
      (pss_cons (ps_fld (pv 0) (pe_lst (pa_cons (pe_mkf C_Version hr (by first | decide | omega) (pa_cons (pv 1) (pa_cons (pv 2) (pa_cons (pe_un un_neg pe_int) pa_nil)))) pa_nil)) rfl)
      (pss_cons (ps_fld (pv 0) pe_int rfl)
      (pss_cons (ps_fld (pv 0) (pe_op op_add (pe_callB call_len_seq (by rfl) T.n_len PySem.boot_len (pa_cons (pv 2) pa_nil)) pe_int) rfl)
      (pss_one (ps_fld (pv 0) pe_int rfl))))))), ?_⟩
    walk_at "rd"
    have gx : Grow Sno G H0 G (insN H0 A.cO x dx []) := (Grow.refl hG).insTmp hx hdx nx
    refine ⟨Nat.zero_le _, fun D hD => ?_⟩
    have gD := gx.tmp (o := .lst []) hD
    have hxD : upd (insN H0 A.cO x dx []) D (.lst []) x = some (.ins A.cO dx []) := by
      rw [upd_ne (ne_of_none insN_at hD)]
      exact insN_at
    have hDD : upd (insN H0 A.cO x dx []) D (.lst []) D = some (.lst []) := upd_same
    generalize upd (insN H0 A.cO x dx []) D (.lst []) = H1 at gD hxD hDD ⊢
    have hD0 : H0 D = none := gx.back hD
    refine ⟨V.ref ta, rfl, ta, rfl, u, G, gD.s, hu, hl, fun p G2 H2 g2 hp hL => ?_⟩
    obtain ⟨as, h1, h2⟩ := hL
    have hlen := paired_len h2
    have hsl := scan_len (u.length + 1) u 0
    have hsl : (scan u).length ≤ u.length := hsl
    have sz : 700 ≤ sizeLine := by decide
    refine ⟨p, rfl, ⟨_, SqL.of (g2.s _ _ h1)⟩, for_list (K := K) (a := p) (xs := as.map V.ref) (fun i σ H' => ∃ v3 v4 v5 bs G3, σ = [some (.ref x), some (.ref ta), some (.ref D), v3, v4, v5] ∧ Grow Sno G H0 G3 H' ∧ Same G2 G3 ∧ H' x = some (.ins A.cO dx []) ∧ G3 x = none ∧ G3 D = none ∧
      H' D = some (.lst (bs.map V.ref)) ∧ Paired (fun b t => G3 b = some (.tup (tokT t))) bs (assignIds 1 (((scan u).take i).map fun t => (t, none))))
      ⟨none, none, none, [], G2, rfl, gD.transN g2, Same.refl _, g2.same _ _ hxD, g2.out (hG.free hx) (some_ne hxD), g2.out (hG.free hD0) (some_ne hDD), g2.same _ _ hDD, .nil⟩ (fun i σ H' _ ⟨_, _, _, _, G3, _, g, e, _⟩ => SqL.of (g.s _ _ (e _ _ h1))) ?_ ?_⟩
    · rintro i y σ H' hy ⟨v3, v4, v5, bs, G3, rfl, g, e, hx3, hGx, hGD, hHD, hP⟩
      rw [List.getElem?_map] at hy
      obtain ⟨b, hb, ex⟩ := Option.map_eq_some_iff.mp hy
      subst ex
      obtain ⟨t, ht, hbt⟩ := paired_get h2 hb
      have hil : i < as.length := (List.getElem?_eq_some_iff.mp hb).1
      have hbl := paired_len hP
      have hal : (assignIds 1 (((scan u).take i).map fun t => (t, none))).length = i := by
        rw [assign_len, List.length_map, List.length_take]
        omega
      refine ⟨b, _, rfl, SqT.of (g.s _ _ (e _ _ hbt)), rfl, ?_⟩
      unfold rawT rawV
      walk_at "rd"
      refine ⟨.inl ⟨rfl, _, SqL.of hHD⟩, _, .inl (SqL.of hHD), by decide, fun p1 hp1 => ?_⟩
      rw [List.length_map, hbl, hal]
      have ne : D ≠ p1 := ne_of_none hHD hp1
      have nx1 : x ≠ p1 := ne_of_none hx3 hp1
      have nxD : x ≠ D := ne_of hx3 hHD (fun z => by cases z)
      have g4 := g.new (o := .tup [V.int ((i : Int) + 1), V.str (kn t.kind), V.int (t.start : Nat), V.int ((t.start + t.length : Nat) : Int)]) hp1
      refine ⟨bs.map V.ref, by rw [upd_ne ne]; exact hHD, by rw [List.length_map, hbl, hal]; omega, bs ++ [p1], _, g4.put (by rw [upd_ne ne]; exact hGD) (.inr hD0), e.trans (same_new (g.s.free hp1)), by rw [upd_ne nxD, upd_ne nx1]; exact hx3, by rw [upd_ne nx1]; exact hGx, by rw [upd_ne ne]; exact hGD, by rw [upd_same, List.map_append]; rfl, ?_⟩
      rw [take_one ht, List.map_append]
      show Paired _ _ (assignIds 1 (_ ++ [(t, none)]))
      rw [Law.assign_snoc]
      refine paired_snoc ?_ (paired_mono (fun _ _ h => same_new (g.s.free hp1) _ _ h) hP)
      rw [upd_same]
      show _ = some (HO.tup (tokT ⟨1 + Law.freshs _, t⟩))
      rw [freshs_none, List.length_take, Nat.min_eq_left (by omega)]
      unfold tokT
      rw [show (((1 + i : Nat) : Int)) = (i : Int) + 1 by omega]
    · rintro σ H' ⟨v3, v4, v5, bs, G3, rfl, g, e, hx3, hGx, hGD, hHD, hP⟩
      rw [List.length_map, hlen, List.take_length] at hP
      have hbl := paired_len hP
      rw [assign_len, List.length_map] at hbl
      walk_at "rd"
      intro b db hb hdb nb
      have gf := g.fix hD0 hHD hGD
      have gv := gf.insTmp (C := A.cV) (fs := vFs ta D ⟨u, assignIds 1 ((scan u).map fun t => (t, none)), -1, -1⟩) hb hdb nb
      refine version_new (u := u) (ts := assignIds 1 ((scan u).map fun t => (t, none))) (par := -1) ⟨rfl, by decide, fun p1 hp1 => ?_⟩
      have nbx : b ≠ x := (ne_of_none hx3 hb).symm
      have np1x : x ≠ p1 := ne_of_none (show insN H' A.cV b db (vFs ta D ⟨u, assignIds 1 ((scan u).map fun t => (t, none)), -1, -1⟩) x = some (.ins A.cO dx []) by
        show upd (upd _ _ _) _ _ x = _
        rw [upd_ne nbx.symm, upd_ne (ne_of_none hx3 hdb)]
        exact hx3) hp1
      have hxv : upd (insN H' A.cV b db (vFs ta D ⟨u, assignIds 1 ((scan u).map fun t => (t, none)), -1, -1⟩)) p1 (.lst [.ref b]) x = some (.ins A.cO dx []) := by
        rw [upd_ne np1x]
        show upd (upd _ _ _) _ _ x = _
        rw [upd_ne nbx.symm, upd_ne (ne_of_none hx3 hdb)]
        exact hx3
      have gl := gv.tmp (o := .lst [.ref b]) hp1
      have nbp : b ≠ p1 := ne_of_none insN_at hp1
      have hbv : upd (insN H' A.cV b db (vFs ta D ⟨u, assignIds 1 ((scan u).map fun t => (t, none)), -1, -1⟩)) p1 (.lst [.ref b]) b = some (.ins A.cV db (vFs ta D ⟨u, assignIds 1 ((scan u).map fun t => (t, none)), -1, -1⟩)) := by
        rw [upd_ne nbp]
        exact insN_at
      have hpv : upd (insN H' A.cV b db (vFs ta D ⟨u, assignIds 1 ((scan u).map fun t => (t, none)), -1, -1⟩)) p1 (.lst [.ref b]) p1 = some (.lst [.ref b]) := upd_same
      have hb0 : H0 b = none := gf.back hb
      have hp0 : H0 p1 = none := gv.back hp1
      have hGf : (upd G3 D (.lst (bs.map V.ref))) x = none := by
        rw [upd_ne (ne_of hx3 hHD (fun z => by cases z))]
        exact hGx
      have hGb : (upd G3 D (.lst (bs.map V.ref))) b = none := gf.s.free hb
      have hGp : (upd G3 D (.lst (bs.map V.ref))) p1 = none := gv.s.free hp1
      have hLs : Ls tokT (upd G3 D (.lst (bs.map V.ref))) D (assignIds 1 ((scan u).map fun t => (t, none))) := ⟨bs, upd_same, paired_mono (fun _ _ h => same_new hGD _ _ h) hP⟩
      have hTu : Tx (upd G3 D (.lst (bs.map V.ref))) ta u := same_new hGD _ _ (e _ _ (g2.g _ _ hu))
      have hDG : (upd G3 D (.lst (bs.map V.ref))) D = some (.lst (bs.map V.ref)) := upd_same
      generalize upd G3 D (.lst (bs.map V.ref)) = G4 at gl hGf hGb hGp hLs hTu hDG
      show ∃ x_2 x_3 x_4, upd (insN H' A.cV b db (vFs ta D ⟨u, assignIds 1 ((scan u).map fun t => (t, none)), -1, -1⟩)) p1 (.lst [.ref b]) x = some (.ins x_2 x_3 x_4) ∧ _
      generalize upd (insN H' A.cV b db (vFs ta D ⟨u, assignIds 1 ((scan u).map fun t => (t, none)), -1, -1⟩)) p1 (.lst [.ref b]) = H5 at gl hxv hbv hpv ⊢
      have gp : ∀ o, Grow Sno G H0 G4 (upd H5 x o) := fun o => gl.put hGf (.inr hx)
      refine ⟨_, dx, [], hxv, T.clO, T.a_versions, by decide, _, dx, _, upd_same, T.clO, T.a_current, (by decide : 1 < 1000), bs.map V.ref, .inl ?_, ?_⟩
      · rw [upd_upd]
        exact SqL.of ((gp _).s _ _ hDG)
      refine ⟨_, dx, _, upd_same, T.clO, T.a_next_id, (by decide : 2 < 1000), _, dx, _, upd_same, T.clO, T.a_many_added, (by decide : 3 < 1000), ?_⟩
      rw [upd_upd, upd_upd, upd_upd, List.length_map, hbl, show (((scan u).length : Int) + 1) = (((scan u).length + 1 : Nat) : Int) by omega]
      refine q p1 b G4 _ (gp _) hp0 hb0 ⟨(gp _).s, hGf, hGp, ⟨dx, upd_same⟩, by rw [upd_ne np1x.symm]; exact hpv, .cons ⟨db, ta, D, by rw [upd_ne nbx]; exact hbv, hGb, hTu, hLs⟩ .nil, by simp⟩
end
/-! ### which old token gives its id -/
def keyOf (c : Change) (txt : Units) (o : RawToken) : DKey := (kn o.kind, (mapOffset c o.start : Nat), (txt.drop o.start).take o.length)
def oldStep (c : Change) (txt : Units) (f : DKey → Option Nat) (o : Token) : DKey → Option Nat := if isOutside c o.raw then (fun l => if l = keyOf c txt o.raw then some o.id else f l) else f
def oldMap (c : Change) (txt : Units) (l : List Token) : DKey → Option Nat := l.foldl (oldStep c txt) fun _ => none
theorem kn_inj : ∀ a ∈ Law.kinds, ∀ b ∈ Law.kinds, kn a = kn b → a = b := by
  decide +kernel
theorem fold_one {c : Change} {txt : Units} {k : DKey} {Pb : Token → Bool} : ∀ (l : List Token) (f0 : DKey → Option Nat), (∀ o ∈ l, Pb o = true ↔ isOutside c o.raw = true ∧ k = keyOf c txt o.raw) → l.Pairwise (fun a b => ¬ (Pb a = true ∧ Pb b = true)) →
    l.foldl (oldStep c txt) f0 k = ((l.find? Pb).map fun o => o.id).or (f0 k)
  | [], f0, _, _ => rfl
  | o :: l, f0, h, hp => by
    rw [List.foldl_cons, fold_one l _ (fun x hx => h x (List.mem_cons_of_mem _ hx)) (List.pairwise_cons.mp hp).2, List.find?_cons]
    have ho := h o (List.mem_cons_self ..)
    cases hPo : Pb o with
    | true =>
      have e : l.find? Pb = none := List.find?_eq_none.mpr fun x hx hPx => (List.pairwise_cons.mp hp).1 x hx ⟨hPo, hPx⟩
      rw [e]
      obtain ⟨z1, z2⟩ := ho.mp hPo
      show oldStep c txt f0 o k = some o.id
      unfold oldStep
      rw [if_pos z1, if_pos z2]
    | false =>
      congr 1
      unfold oldStep
      by_cases z1 : isOutside c o.raw = true
      · rw [if_pos z1]
        refine if_neg fun z2 => ?_
        rw [ho.mpr ⟨z1, z2⟩] at hPo
        cases hPo
      · rw [if_neg z1]
theorem old_law {c : Change} {txt u : Units} {toks : List Token} {t : RawToken} (hv : Valid 0 txt.length c) (hs : toks.map (fun t => t.raw) = scan txt) (hu : u = changedText c txt) (ht : t ∈ scan u) :
    oldMap c txt toks (kn t.kind, (t.start : Int), (u.drop t.start).take t.length) = reusedId toks c t := by
  subst hu
  have htk := Law.scan_tok ht
  have hmem : ∀ o ∈ toks, o.raw ∈ scan txt := fun o ho => by rw [← hs]; exact List.mem_map.mpr ⟨o, ho, rfl⟩
  have key : ∀ o ∈ toks, isOutside c o.raw = true → (((kn t.kind, (t.start : Int), ((changedText c txt).drop t.start).take t.length) : DKey) = keyOf c txt o.raw ↔ mapOffset c o.raw.start = t.start ∧ o.raw.kind = t.kind ∧ o.raw.length = t.length) := fun o ho hout => by
    have hok := Law.scan_tok (hmem o ho)
    have hk1 : o.raw.kind ∈ Law.kinds := Law.scan_kinds (hmem o ho)
    have hk2 : t.kind ∈ Law.kinds := Law.scan_kinds ht
    unfold keyOf
    rw [Prod.mk.injEq, Prod.mk.injEq]
    constructor
    · rintro ⟨z1, z2, z3⟩
      have hm : mapOffset c o.raw.start = t.start := by omega
      refine ⟨hm, (kn_inj _ hk2 _ hk1 z1).symm, (Law.fits_iff hv hok htk hout hm).mp z3.symm⟩
    · rintro ⟨hm, z1, z2⟩
      exact ⟨by rw [z1], by rw [hm], ((Law.fits_iff hv hok htk hout hm).mpr z2).symm⟩
  have hfits : ∀ o ∈ toks, (isOutside c o.raw && mapOffset c o.raw.start == t.start && o.raw.kind == t.kind && o.raw.length == t.length) = true ↔ isOutside c o.raw = true ∧ ((kn t.kind, (t.start : Int), ((changedText c txt).drop t.start).take t.length) : DKey) = keyOf c txt o.raw := fun o ho => by
    rw [Bool.and_eq_true, Bool.and_eq_true, Bool.and_eq_true, beq_iff_eq, beq_iff_eq, beq_iff_eq]
    constructor
    · rintro ⟨⟨⟨z1, z2⟩, z3⟩, z4⟩
      exact ⟨z1, (key o ho z1).mpr ⟨z2, z3, z4⟩⟩
    · rintro ⟨z1, z2⟩
      obtain ⟨a, b, d⟩ := (key o ho z1).mp z2
      exact ⟨⟨⟨z1, a⟩, b⟩, d⟩
  unfold oldMap
  rw [fold_one toks _ hfits, Option.or_none]
  · rfl
  · have hp : toks.Pairwise fun a b => a.raw.start + a.raw.length ≤ b.raw.start := by
      have := Law.scan_apart txt
      rw [← hs] at this
      exact List.pairwise_map.mp this
    refine hp.imp_of_mem fun {a b} ha hb hab => ?_
    rw [Bool.and_eq_true, Bool.and_eq_true, Bool.and_eq_true, Bool.and_eq_true, Bool.and_eq_true, Bool.and_eq_true, beq_iff_eq, beq_iff_eq]
    rintro ⟨⟨⟨⟨z1, z2⟩, _⟩, _⟩, ⟨⟨⟨y1, y2⟩, _⟩, _⟩⟩
    exact Law.fits_one (t := t) hv (Law.scan_tok (hmem a ha)) (Law.scan_tok (hmem b hb)) (.inl hab) z1 y1 (z2.trans (beq_iff_eq.mp y2).symm)
def sp_edit : Ads → Sp := fun A vs H Q _ => ∃ (a vl p ta : Addr) (bs : List Addr) (d : MDoc) (c : Change) (u : Units) (G : Hp), vs = [.ref a, .ref p, .ref ta] ∧ DocAt A G H a vl bs d ∧ Good d ∧ Chg G p c ∧ c.length ≤ 20 ∧ Valid 0 d.now.text.length c ∧ u = changedText c d.now.text ∧ Tx G ta u ∧ u.length ≤ 600 ∧
  d.vers.length < 100 ∧ ∀ G' H' b, Grow (fun b => b ∈ a :: vl :: bs) G H G' H' → H b = none → DocAt A G' H' a vl (bs ++ [b]) (mEdit d c u) → Q .non H'
local macro_rules | `(tactic| walk_at "rd") => `(tactic| simp only [sp_now, sp_go_to, sp_tokens_of, sp_is_outside, sp_moved, sp_added, tNNew, sNPut, tNGet, cxPr, cxWo, cxK, cxNK, cxNN, cxHK, tRet, tRetN, tChain, tC, tVar, rI0, rI, tOp, tUn, rU, tIf, tTest, tB, tNot, tAnd, tOr, tAndV, tOrV, tNotV, tCB, tCons, tNil, tNext, tSeq, tIfS, tDrop, tAsg, gName, tPar, tPar3, tAug, ipI, tCall, tCallS, E0, rEq, rNe, scal, rIxT, rIxL,  tTup, tLst, gTup, gCons, gNil, iTup, iList, iStr, iRng1, wipe, tSl, tPart, tNoPart, rIn,  tFld, sFld, sFldAug, tMeth, tMake, rAdd, tYes, tBM, rAppend, rExtend, rCat, rSetL, gSub,
  L2.start, List.map_cons, List.map_nil, List.length_cons, List.length_nil, Nat.reduceAdd, Nat.reduceSub, List.replicate_succ, List.replicate_zero, List.cons_append, List.nil_append, List.append_nil,
  List.getElem?_cons_zero, List.getElem?_cons_succ, List.set_cons_zero, List.set_cons_succ, Option.some.injEq, exists_eq_left, exists_eq_left', exists_eq_right, exists_eq_right', V.int.injEq, V.bl.injEq, V.str.injEq, V.ref.injEq, List.cons.injEq, true_and, and_true, and_assoc, exists_and_left, decide_eq_true_eq, Bool.false_eq_true, if_true, if_false, ite_true, ite_false, reduceIte, reduceCtorEq])

section
variable {P : Program} {w : World} {K : PySem.W.Frag} {mg : Str → Option Value} {base : Heap} {A : Ads}
theorem DocAt.grow {A : Ads} {G H G' H' : Hp} {a vl : Addr} {bs : List Addr} {d : MDoc} (h : DocAt A G H a vl bs d) (g : Grow Sno G H G' H') : DocAt A G' H' a vl bs d := by
  obtain ⟨dx, ha⟩ := h.ha
  refine ⟨g.s, g.out h.na (some_ne ha), g.out h.nl (some_ne h.hl), ⟨dx, g.same _ _ ha⟩, g.same _ _ h.hl, paired_mono (fun b v hb => ?_) h.hv, h.nd⟩
  obtain ⟨dx2, ta, tk, h1, h2, _⟩ := id hb
  exact hb.mono g.g (g.out h2 (some_ne h1)) ((g.same _ _ h1).trans h1.symm)
/-- the document's own fields are set -/
theorem DocAt.put {A : Ads} {G H : Hp} {a vl : Addr} {bs : List Addr} {d d' : MDoc} (h : DocAt A G H a vl bs d) (e : d'.vers = d.vers) {dx : Addr} (hs : Same G (upd H a (.ins A.cO dx (dFs vl d')))) : DocAt A G (upd H a (.ins A.cO dx (dFs vl d'))) a vl bs d' := by
  obtain ⟨dx0, ha⟩ := h.ha
  refine ⟨hs, h.na, h.nl, ⟨dx, upd_same⟩, ?_, ?_, h.nd⟩
  · rw [upd_ne (ne_of h.hl ha (fun z => by cases z))]
    exact h.hl
  · rw [e]
    refine paired_mono (fun b v hb => ?_) h.hv
    obtain ⟨dx2, ta, tk, h1, h2, _⟩ := id hb
    exact hb.mono (Same.refl _) h2 (upd_ne (ne_doc_ver ha h1).symm)
theorem DocAt.other {A : Ads} {G H H' : Hp} {a vl : Addr} {bs : List Addr} {d : MDoc} (h : DocAt A G H a vl bs d) (hs : Same G H') (k : ∀ b ∈ a :: vl :: bs, H' b = H b) : DocAt A G H' a vl bs d := by
  obtain ⟨dx, ha⟩ := h.ha
  refine ⟨hs, h.na, h.nl, ⟨dx, (k a (List.mem_cons_self ..)).trans ha⟩, (k vl (List.mem_cons_of_mem _ (List.mem_cons_self ..))).trans h.hl, ?_, h.nd⟩
  have go : ∀ {l : List Addr} {m : List MVer}, Paired (VerAt A G H) l m → (∀ b ∈ l, H' b = H b) → Paired (VerAt A G H') l m := fun {l m} p => by
    induction p with
    | nil => exact fun _ => .nil
    | cons r t ih =>
      intro e
      obtain ⟨dx2, ta, tk, h1, h2, _⟩ := id r
      exact .cons (r.mono (Same.refl _) h2 (e _ (List.mem_cons_self ..))) (ih fun b hb => e b (List.mem_cons_of_mem _ hb))
  exact go h.hv fun b hb => k b (List.mem_cons_of_mem _ (List.mem_cons_of_mem _ hb))
theorem DocAt.all {A : Ads} {G H : Hp} {a vl : Addr} {bs : List Addr} {d : MDoc} (h : DocAt A G H a vl bs d) : ∀ b ∈ a :: vl :: bs, H b ≠ none := fun b hb => by
  obtain ⟨dx, ha⟩ := h.ha
  rcases List.mem_cons.mp hb with rfl | hb
  · exact some_ne ha
  rcases List.mem_cons.mp hb with rfl | hb
  · exact some_ne h.hl
  obtain ⟨i, hi⟩ := List.getElem?_of_mem hb
  obtain ⟨v, _, dx2, _, _, h1, _⟩ := paired_get h.hv hi
  exact some_ne h1
theorem DocAt.fix {A : Ads} {G H : Hp} {a vl b : Addr} {bs : List Addr} {d : MDoc} {o : HO} (h : DocAt A G H a vl bs d) (hs : Same (upd G b o) H) (hg : G b = none) (k : ∀ x ∈ a :: vl :: bs, x ≠ b) : DocAt A (upd G b o) H a vl bs d := by
  refine ⟨hs, by rw [upd_ne (k _ (List.mem_cons_self ..))]; exact h.na, by rw [upd_ne (k _ (List.mem_cons_of_mem _ (List.mem_cons_self ..)))]; exact h.nl, h.ha, h.hl, ?_, h.nd⟩
  have go : ∀ {l : List Addr} {m : List MVer}, Paired (VerAt A G H) l m → (∀ x ∈ l, x ≠ b) → Paired (VerAt A (upd G b o) H) l m := fun {l m} p => by
    induction p with
    | nil => exact fun _ => .nil
    | cons r t ih =>
      intro e
      obtain ⟨dx2, ta, tk, h1, h2, _⟩ := id r
      exact .cons (r.mono (same_new hg) (by rw [upd_ne (e _ (List.mem_cons_self ..))]; exact h2) rfl) (ih fun b hb => e b (List.mem_cons_of_mem _ hb))
  exact go h.hv fun b hb => k b (List.mem_cons_of_mem _ (List.mem_cons_of_mem _ hb))
theorem NDict.off {P : Program} {w : World} {G H : Hp} {d b : Addr} {n : Nat} {f : DKey → Option Nat} {xs : List V} {o : HO} (x : NDict P w G H d n f) (hb : H b = some (.lst xs)) : NDict P w G (upd H b o) d n f := by
  obtain ⟨ys, h1, _⟩ := x.ex
  exact x.mono (Same.refl _) (upd_ne (ne_of h1 hb (fun z => by cases z)))
theorem NDict.offI {P : Program} {w : World} {G H : Hp} {d b C dx : Addr} {n : Nat} {f : DKey → Option Nat} {xs : List (Str × V)} {o : HO} (x : NDict P w G H d n f) (hb : H b = some (.ins C dx xs)) : NDict P w G (upd H b o) d n f := by
  obtain ⟨ys, h1, _⟩ := x.ex
  exact x.mono (Same.refl _) (upd_ne (ne_of h1 hb (fun z => by cases z)))
theorem un20 {k : Nat} {A : Around} (r : Room k A) : A.units + 20 < cLine := by
  have := r.units
  omega
abbrev s_Document_edit : Stmt := inClass (top 43) 3
theorem sc_Document_edit : FnScope ["self", "change", "text", "before", "old", "number", "kind", "begin", "end", "tokens"] ["self", "change", "text"] (defScope s_Document_edit) := ⟨rfl, rfl, rfl, by decide +kernel, rfl, by decide +kernel, by decide +kernel⟩
theorem ok_edit (T : Top K mg A) (D : MtAt K A.cO "edit" "Document.edit" s_Document_edit ["self", "change", "text"]) (C_tokens_of : Fn P w K mg base CX0 5 "tokens_of" ["text"] sp_tokens_of) (C_Version : Cl P w K mg base CX0 1 A.cV "Version" ["self", "text", "tokens", "parent"] (sp_Version A))
    (C_is_outside : Fn P w K mg base CX0 1 "is_outside" ["change", "begin", "end"] sp_is_outside) (C_moved : Fn P w K mg base CX0 1 "moved" ["change", "offset"] sp_moved) (C_added : Fn P w K mg base CX0 1 "added" ["change"] sp_added) (M_now : Mt P w K mg base CX0 1 A.cO "now" ["self"] (sp_now A))
    (M_go_to : Mt P w K mg base CX0 1 A.cO "go_to" ["self", "number"] (sp_go_to A)) : Mt P w K mg base CX0 6 A.cO "edit" ["self", "change", "text"] (sp_edit A) := by
  refine D.ok sc_Document_edit (fun vs H Q E h => ?_) (fun f cdv Ar outer s H vs Q E hr h => ?_)
  · obtain ⟨a, vl, p, ta, bs, d, c, u, G, rfl, _⟩ := h
    rfl
  · obtain ⟨a, vl, p, ta, bs, d, c, u, G, rfl, h, hgood, hc, hcl, hv, hu, hta, hul, hmost, q⟩ := h
    obtain ⟨dx, ha⟩ := h.ha
    refine ⟨_, (pss_cons (ps_par (i := 3) (j := 4) (by rfl) sc_Document_edit.nd rfl rfl (by decide) rfl rfl (pa_cons (pe_mt0f M_now hr (by first | decide | omega) (pv 0)) (pa_cons pe_nnew pa_nil)) (by rfl))
      (pss_cons (ps_for PassesOwn.never rfl (pi_list (pe_fld (pv 3) rfl)) (pg_tup (n := 4) rfl (pgs_cons (pg_name (i := 5) sc_Document_edit.nd rfl (Or.inl rfl)) (pgs_cons (pg_name (i := 6) sc_Document_edit.nd rfl (Or.inl rfl)) (pgs_cons (pg_name (i := 7) sc_Document_edit.nd rfl (Or.inl rfl)) (pgs_cons (pg_name (i := 8) sc_Document_edit.nd rfl (Or.inl rfl)) pgs_nil))))) (pss_one (ps_if (pt_val (pe_f C_is_outside hr (by first | decide | omega) (pa_cons (pv 1) (pa_cons (pv 7) (pa_cons (pv 8) pa_nil))))) (pss_one (ps_nput (un20 hr) (pv 4) (pe_tup (pa_cons (pv 6) (pa_cons (pe_f C_moved hr (by first | decide | omega) (pa_cons (pv 1) (pa_cons (pv 7) pa_nil))) (pa_cons (pe_slice sl_tupA (pe_fld (pv 3) rfl) (po_some (pv 7)) (po_some (pv 8))) pa_nil)))) (pv 5))) pss_nil)))
      (pss_cons (ps_set (i := 9) sc_Document_edit.nd rfl (.inl rfl) (pe_lst pa_nil))
      (pss_cons (ps_for PassesOwn.never rfl (pi_list (pe_f C_tokens_of hr (by first | decide | omega) (pa_cons (pv 2) pa_nil))) (pg_tup (n := 3) rfl (pgs_cons (pg_name (i := 6) sc_Document_edit.nd rfl (Or.inl rfl)) (pgs_cons (pg_name (i := 7) sc_Document_edit.nd rfl (Or.inl rfl)) (pgs_cons (pg_name (i := 8) sc_Document_edit.nd rfl (Or.inl rfl)) pgs_nil)))) (pss_cons (ps_set (i := 5) sc_Document_edit.nd rfl (.inl rfl) (pe_nget (un20 hr) (pv 4) (pe_tup (pa_cons (pv 6) (pa_cons (pv 7) (pa_cons (pe_slice sl_tupA (pv 2) (po_some (pv 7)) (po_some (pv 8))) pa_nil)))) pe_int ⟨by rfl, by rfl, by rfl, by rfl⟩))
      (pss_cons (ps_if (pt_cmpR op_eq (pv 5) pe_int (nomark _)) (pss_cons (ps_set (i := 5) sc_Document_edit.nd rfl (.inl rfl) (pe_fld (pv 0) rfl))
      (pss_one (ps_fldaug (pv 0) pe_int in_add))) pss_nil)
      (pss_one (ps_expr (pe_bm PySem.F.plainAttrs_list PySem.F.slot_list_append PySem.F.type_list_append mt_append (pv 9) (pa_cons (pe_tup (pa_cons (pv 5) (pa_cons (pv 6) (pa_cons (pv 7) (pa_cons (pv 8) pa_nil))))) pa_nil)))))))
      (pss_cons (ps_expr (pe_bm PySem.F.plainAttrs_list PySem.F.slot_list_append PySem.F.type_list_append mt_append (pe_fld (pv 0) rfl) (pa_cons (pe_mkf C_Version hr (by first | decide | omega) (pa_cons (pv 2) (pa_cons (pv 9) (pa_cons (pe_fld (pv 0) rfl) pa_nil)))) pa_nil)))
      (pss_cons (ps_fldaug (pv 0) (pe_f C_added hr (by first | decide | omega) (pa_cons (pv 1) pa_nil)) in_add)
      (pss_one (ps_expr (pe_mtf M_go_to hr (by first | decide | omega) (pv 0) (pa_cons (pe_op op_sub (pe_callB call_len_seq (by rfl) T.n_len PySem.boot_len (pa_cons (pe_fld (pv 0) rfl) pa_nil)) pe_int) pa_nil)))))))))), ?_⟩
    walk_at "rd"
    obtain ⟨b0, hb0, _⟩ := paired_at h.hv (getD_at hgood.cur)
    refine ⟨_, _, ha, df_no (by decide) (by decide) (by decide) (by decide), vl, bs, d, G, h, hgood.cur, fun b hb hvb p0 o hp0 hN0 => ?_⟩
    obtain ⟨dxv, tt, tk, hb1, hbn, htt, as, hk1, hk2⟩ := hvb
    have hnm : d.now ∈ d.vers := List.mem_of_getElem? (getD_at hgood.cur)
    have htoks := hgood.toks _ hnm
    have hlen := paired_len hk2
    have g0 : Grow Sno G H G (upd H p0 o) := (Grow.refl h.s).tmp hp0
    have sz : 100000 ≤ sizeLine := by decide
    have hscan := scan_len (d.now.text.length + 1) d.now.text 0
    have hscan : (scan d.now.text).length ≤ d.now.text.length := hscan
    have htl : d.now.toks.length = (scan d.now.text).length := by rw [← htoks, List.length_map]
    have h600 := hgood.text _ hnm
    refine ⟨V.ref b, rfl, b, A.cV, dxv, _, _, rfl, g0.same _ _ hb1, T.clV, T.a_tokens, vf_tokens, tk, rfl, ⟨_, SqL.of (g0.s _ _ hk1)⟩, for_list (K := K) (a := tk) (xs := as.map V.ref) (fun i σ H' => ∃ v5 v6 v7 v8 G1, σ = [some (.ref a), some (.ref p), some (.ref ta), some (.ref b), some (.ref p0), v5, v6, v7, v8, none] ∧ Grow Sno G H G1 H' ∧ G1 p0 = none ∧ NDict P w G1 H' p0 i (oldMap c d.now.text (d.now.toks.take i)))
      ⟨none, none, none, none, G, rfl, g0, h.s.free hp0, hN0 G⟩ (fun i σ H' _ ⟨_, _, _, _, G1, _, g, _, _⟩ => SqL.of (g.s _ _ (g.g _ _ hk1))) ?_ ?_⟩
    · rintro i y σ H' hy ⟨v5, v6, v7, v8, G1, rfl, g, hGp, nd⟩
      rw [List.getElem?_map] at hy
      obtain ⟨b9, hb9, ex⟩ := Option.map_eq_some_iff.mp hy
      subst ex
      obtain ⟨o9, ho9, hbt⟩ := paired_get hk2 hb9
      have hil : i < as.length := (List.getElem?_eq_some_iff.mp hb9).1
      have hraw : o9.raw ∈ scan d.now.text := by rw [← htoks]; exact List.mem_map.mpr ⟨o9, List.mem_of_getElem? ho9, rfl⟩
      have hok := (Law.scan_tok hraw).fits
      rw [take_one ho9]
      have efold : oldMap c d.now.text (d.now.toks.take i ++ [o9]) = oldStep c d.now.text (oldMap c d.now.text (d.now.toks.take i)) o9 := by unfold oldMap; rw [List.foldl_append]; rfl
      rw [efold]
      refine ⟨b9, _, rfl, SqT.of (g.s _ _ (g.g _ _ hbt)), rfl, ?_⟩
      unfold tokT
      walk_at "rd"
      refine ⟨_, rfl, _, rfl, c, G1, g.s, hc.mono g.g, hcl, fun H3 e3 => ?_⟩
      have g3 := g.junk e3
      have nd3 := nd.more (Same.refl _) e3
      by_cases hout : isOutside c o9.raw = true
      · rw [if_pos (show (List.all c fun r => decide (o9.raw.start + o9.raw.length ≤ r.lo) || decide (r.hi ≤ o9.raw.start)) = true from hout)]
        refine ⟨_, rfl, d.now.text.length, c, G1, g3.s, hc.mono g.g, hcl, hv, fun H4 e4 => ?_⟩
        have g4 := g3.junk e4
        have nd4 := nd3.more (Same.refl _) e4
        refine ⟨_, _, _, g4.same _ _ hb1, T.clV, T.a_text, _, vf_text, sl_U g4 (g.g _ _ htt) (by omega) (by omega) (by omega) fun p5 G5 H5 g5 g6 h5 => ⟨by decide, fun p7 hp7 => ?_⟩⟩
        rw [Int.toNat_natCast, Int.toNat_natCast, Nat.add_sub_cancel_left] at h5
        have g7 := g5.new (o := .tup [V.str (kn o9.raw.kind), V.int (mapOffset c o9.raw.start : Nat), V.ref p5]) hp7
        have g8 := (g6.new (o := .tup [V.str (kn o9.raw.kind), V.int (mapOffset c o9.raw.start : Nat), V.ref p5]) hp7)
        have nd7 := nd4.more g8.g g8.same
        have nGp : (upd G5 p7 (.tup [V.str (kn o9.raw.kind), V.int (mapOffset c o9.raw.start : Nat), V.ref p5])) p0 = none := g8.out hGp nd4.has
        refine ⟨keyOf c d.now.text o9.raw, o9.id, rfl, i, _, _, g7.s, nGp, nd7, by omega, ⟨p5, upd_same, same_new (g5.s.free hp7) _ _ h5⟩, fun o10 nd10 => ?_⟩
        refine ⟨_, g7.put nGp (.inr hp0), nGp, ?_⟩
        have e : oldStep c d.now.text (oldMap c d.now.text (d.now.toks.take i)) o9 = fun l => if l = keyOf c d.now.text o9.raw then some o9.id else oldMap c d.now.text (d.now.toks.take i) l := if_pos hout
        rw [e]
        exact nd10
      · rw [if_neg (show ¬ (List.all c fun r => decide (o9.raw.start + o9.raw.length ≤ r.lo) || decide (r.hi ≤ o9.raw.start)) = true from hout)]
        have e : oldStep c d.now.text (oldMap c d.now.text (d.now.toks.take i)) o9 = oldMap c d.now.text (d.now.toks.take i) := if_neg hout
        rw [e]
        obtain ⟨xs, z1, z2, z3⟩ := nd3.ex
        exact ⟨G1, g3, hGp, xs, z1, by omega, z3⟩
    · rintro σ H' ⟨v5, v6, v7, v8, G1, rfl, g, hGp, nd⟩
      rw [List.length_map, hlen, List.take_length] at nd
      walk_at "rd"
      refine ⟨Nat.zero_le _, fun D hD => ?_⟩
      have gD := g.tmp (o := .lst []) hD
      have hDD : upd H' D (.lst []) D = some (.lst []) := upd_same
      have nd0 := nd.more (Same.refl _) (same_new (o := .lst []) hD)
      have hD0 : H D = none := g.back hD
      generalize upd H' D (.lst []) = H1 at gD hDD nd0 ⊢
      refine ⟨V.ref ta, rfl, ta, rfl, u, G1, gD.s, g.g _ _ hta, hul, fun q2 G2 H2 g2 hq2 hL => ?_⟩
      obtain ⟨as2, h1, h2⟩ := hL
      have hlen2 := paired_len h2
      have hsl : (scan u).length ≤ u.length := scan_len (u.length + 1) u 0
      have hnl : (Law.nos d c u).length = (scan u).length := List.length_map ..
      have nd2 := nd0.more g2.g g2.same
      have d2 : DocAt A G2 H2 a vl bs d := h.grow (gD.transN g2)
      refine ⟨q2, rfl, ⟨_, SqL.of (g2.s _ _ h1)⟩, for_list (K := K) (a := q2) (xs := as2.map V.ref) (fun i σ H' => ∃ v5 v6 v7 v8 bs2 G3, σ = [some (.ref a), some (.ref p), some (.ref ta), some (.ref b), some (.ref p0), v5, v6, v7, v8, some (.ref D)] ∧ Grow (fun b => b ∈ a :: vl :: bs) G H G3 H' ∧ Same G2 G3 ∧
        NDict P w G3 H' p0 d.now.toks.length (oldMap c d.now.text d.now.toks) ∧ G3 p0 = none ∧ G3 D = none ∧ H' D = some (.lst (bs2.map V.ref)) ∧ Paired (fun b t => G3 b = some (.tup (tokT t))) bs2 (assignIds d.next ((Law.nos d c u).take i)) ∧
        DocAt A G3 H' a vl bs { d with next := d.next + Law.freshs ((Law.nos d c u).take i) })
        ⟨_, _, _, _, [], G2, rfl, (gD.transN g2).wide, Same.refl _, nd2, g2.out hGp nd0.has, g2.out (g.s.free hD) (some_ne hDD), g2.same _ _ hDD, .nil, d2⟩ (fun i σ H' _ ⟨_, _, _, _, _, G3, _, g, e, _⟩ => SqL.of (g.s _ _ (e _ _ h1))) ?_ ?_⟩
      · rintro i y σ H' hy ⟨v5, v6, v7, v8, bs2, G3, rfl, g3, e3, nd3, hGp3, hGD3, hHD, hP, hdoc⟩
        rw [List.getElem?_map] at hy
        obtain ⟨b9, hb9, ex⟩ := Option.map_eq_some_iff.mp hy
        subst ex
        obtain ⟨t, ht, hbt⟩ := paired_get h2 hb9
        have hil : i < as2.length := (List.getElem?_eq_some_iff.mp hb9).1
        have hraw : t ∈ scan u := List.mem_of_getElem? ht
        have hok := (Law.scan_tok hraw).fits
        have hno : (Law.nos d c u)[i]? = some (t, reusedId d.now.toks c t) := by unfold Law.nos; rw [List.getElem?_map, ht]; rfl
        have hbl := paired_len hP
        rw [assign_len, List.length_take, hnl, Nat.min_eq_left (by omega)] at hbl
        rw [take_one hno]
        generalize (Law.nos d c u).take i = ds at hP hdoc ⊢
        rw [Law.assign_snoc, Law.freshs_snoc]
        have hlaw := old_law hv htoks hu hraw
        refine ⟨b9, _, rfl, SqT.of (g3.s _ _ (e3 _ _ hbt)), rfl, ?_⟩
        unfold rawT rawV
        walk_at "rd"
        have hout : ∀ b ∈ a :: vl :: bs, b ≠ D := fun b hb z => h.all b hb (z ▸ hD0)
        have fin : ∀ (m nx : Nat) (G9 H9 : Hp), Grow (fun b => b ∈ a :: vl :: bs) G H G9 H9 → Same G2 G9 → NDict P w G9 H9 p0 d.now.toks.length (oldMap c d.now.text d.now.toks) → G9 p0 = none → G9 D = none → H9 D = some (.lst (bs2.map V.ref)) → Paired (fun b t => G9 b = some (.tup (tokT t))) bs2 (assignIds d.next ds) →
            DocAt A G9 H9 a vl bs { d with next := nx } → 4 ≤ sizeLine ∧ ∀ p1, H9 p1 = none → ∃ xs, upd H9 p1 (.tup [V.int (m : Int), V.str (kn t.kind), V.int (t.start : Int), V.int ((t.start + t.length : Nat) : Int)]) D = some (.lst xs) ∧ xs.length < sizeLine ∧ ∃ bs' G',
              Grow (fun b => b ∈ a :: vl :: bs) G H G' (upd (upd H9 p1 (.tup [V.int (m : Int), V.str (kn t.kind), V.int (t.start : Int), V.int ((t.start + t.length : Nat) : Int)])) D (.lst (xs ++ [.ref p1]))) ∧ Same G2 G' ∧
              NDict P w G' (upd (upd H9 p1 (.tup [V.int (m : Int), V.str (kn t.kind), V.int (t.start : Int), V.int ((t.start + t.length : Nat) : Int)])) D (.lst (xs ++ [.ref p1]))) p0 d.now.toks.length (oldMap c d.now.text d.now.toks) ∧ G' p0 = none ∧ G' D = none ∧
              upd (upd H9 p1 (.tup [V.int (m : Int), V.str (kn t.kind), V.int (t.start : Int), V.int ((t.start + t.length : Nat) : Int)])) D (.lst (xs ++ [.ref p1])) D = some (.lst (bs'.map V.ref)) ∧ Paired (fun b t => G' b = some (.tup (tokT t))) bs' (assignIds d.next ds ++ [⟨m, t⟩]) ∧
              DocAt A G' (upd (upd H9 p1 (.tup [V.int (m : Int), V.str (kn t.kind), V.int (t.start : Int), V.int ((t.start + t.length : Nat) : Int)])) D (.lst (xs ++ [.ref p1]))) a vl bs { d with next := nx } := fun m nx G9 H9 g9 e9 nd9 hGp9 hGD9 hHD9 hP9 hd9 => by
          refine ⟨by decide, fun p1 hp1 => ?_⟩
          have g10 := (Grow.refl (S := Sno) g9.s).new (o := .tup [V.int (m : Int), V.str (kn t.kind), V.int (t.start : Int), V.int ((t.start + t.length : Nat) : Int)]) hp1
          have g11 := g9.new (o := .tup [V.int (m : Int), V.str (kn t.kind), V.int (t.start : Int), V.int ((t.start + t.length : Nat) : Int)]) hp1
          have nd10 := nd9.more g10.g g10.same
          have hd10 := hd9.grow g10
          have hHD10 := g10.same _ _ hHD9
          have hGD10 := g10.out hGD9 (some_ne hHD9)
          have hGp10 := g10.out hGp9 nd9.has
          have hP10 : Paired _ (bs2 ++ [p1]) (assignIds d.next ds ++ [⟨m, t⟩]) := paired_snoc (R := fun b t => upd G9 p1 (.tup [V.int (m : Int), V.str (kn _), V.int _, V.int _]) b = some (.tup (tokT t))) upd_same (paired_mono (fun _ _ h => g10.g _ _ h) hP9)
          refine ⟨_, hHD10, by rw [List.length_map, hbl]; omega, bs2 ++ [p1], _, g11.put hGD10 (.inr hD0), e9.trans g10.g, nd10.off hHD10, hGp10, hGD10, by rw [upd_same, List.map_append]; rfl, hP10, hd10.other (g11.put hGD10 (.inr hD0)).s fun b hb => upd_ne (hout b hb)⟩
        refine ⟨_, _, G3, g3.s, nd3, sl_U g3 (e3 _ _ (g2.g _ _ (g.g _ _ hta))) (by omega) (by omega) (by omega) fun p5 G5 H5 g5 g6 h5 => ⟨by decide, fun p7 hp7 => ?_⟩⟩
        rw [Int.toNat_natCast, Int.toNat_natCast, Nat.add_sub_cancel_left] at h5
        have g7 := g5.new (o := .tup [V.str (kn t.kind), V.int (t.start : Int), V.ref p5]) hp7
        have g8 := g6.new (o := .tup [V.str (kn t.kind), V.int (t.start : Int), V.ref p5]) hp7
        have nd7 := nd3.more g8.g g8.same
        have hd7 := hdoc.grow g8
        refine ⟨(kn t.kind, (t.start : Int), (u.drop t.start).take t.length), _, _, _, g7.s, nd7, ⟨p5, upd_same, same_new (g5.s.free hp7) _ _ h5⟩, ?_⟩
        rw [hlaw]
        have hHD7 := g8.same _ _ hHD
        have hGD7 := g8.out hGD3 (some_ne hHD)
        have hGp7 := g8.out hGp3 nd3.has
        have hP7 := paired_mono (fun _ _ h => g8.g _ _ h) hP
        cases hid : reusedId d.now.toks c t with
        | some j =>
          have hj : 1 ≤ j := by
            unfold reusedId at hid
            obtain ⟨o9, ho9, rfl⟩ := Option.map_eq_some_iff.mp hid
            exact (hgood.ids _ hnm o9 (List.mem_of_find?_eq_some ho9)).1
          refine ⟨rfl, ?_⟩
          rw [if_neg (fun z => by have := V.int.inj z; omega)]
          refine ⟨.inl ⟨rfl, _, SqL.of hHD7⟩, ?_⟩
          exact fin j (d.next + Law.freshs ds) _ _ g7 (e3.trans g8.g) nd7 hGp7 hGD7 hHD7 hP7 hd7
        | none =>
          refine ⟨rfl, ?_⟩
          rw [if_pos rfl]
          obtain ⟨dx7, ha7⟩ := hd7.ha
          refine ⟨_, _, _, ha7, T.clO, T.a_next_id, _, df_next, _, _, _, ha7, T.clO, T.a_next_id, _, df_next, _, rfl, _, _, ha7, (by decide : 4 < 1000), ?_⟩
          have en : ((d.next + Law.freshs ds : Nat) : Int) + 1 = ((d.next + Law.freshs ds + 1 : Nat) : Int) := by omega
          rw [en, df_put_next]
          have hna7 := hd7.na
          have g9 := g7.put (o := .ins A.cO dx7 (dFs vl { d with next := d.next + Law.freshs ds + 1 })) hna7 (.inl (List.mem_cons_self ..))
          have hDa : D ≠ a := (hout a (List.mem_cons_self ..)).symm
          have hHD9 : upd (upd H5 p7 (.tup [V.str (kn t.kind), V.int (t.start : Int), V.ref p5])) a (.ins A.cO dx7 (dFs vl { d with next := d.next + Law.freshs ds + 1 })) D = some (.lst (bs2.map V.ref)) := by
            rw [upd_ne hDa]
            exact hHD7
          refine ⟨.inl ⟨rfl, _, SqL.of hHD9⟩, ?_⟩
          exact fin (d.next + Law.freshs ds) (d.next + Law.freshs ds + 1) _ _ g9 (e3.trans g8.g) (nd7.offI ha7) hGp7 hGD7 hHD9 hP7 (hd7.put (d' := { d with next := d.next + Law.freshs ds + 1 }) rfl g9.s)
      · rintro σ H' ⟨v5, v6, v7, v8, bs2, G3, rfl, g3, e3, nd3, hGp3, hGD3, hHD, hP, hdoc⟩
        rw [List.length_map, hlen2, ← hnl, List.take_length] at hP hdoc
        have hbl := paired_len hP
        rw [assign_len, hnl] at hbl
        have hout : ∀ b ∈ a :: vl :: bs, b ≠ D := fun b hb z => h.all b hb (z ▸ hD0)
        walk_at "rd"
        have gf := g3.fix hD0 hHD hGD3
        have hdf := hdoc.fix gf.s hGD3 hout
        have hLs : Ls tokT (upd G3 D (.lst (bs2.map V.ref))) D (assignIds d.next (Law.nos d c u)) := ⟨bs2, upd_same, paired_mono (fun _ _ h => same_new hGD3 _ _ h) hP⟩
        have eG : Same G (upd G3 D (.lst (bs2.map V.ref))) := gf.g
        generalize upd G3 D (.lst (bs2.map V.ref)) = G4 at gf hdf hLs eG
        obtain ⟨dx3, ha3⟩ := hdf.ha
        have hvl3 := hdf.hl
        refine ⟨_, _, _, ha3, T.clO, T.a_versions, _, df_versions, .inl ⟨rfl, _, SqL.of hvl3⟩, _, _, _, ha3, T.clO, T.a_current, _, df_current, fun b9 db hb9 hdb nb => ?_⟩
        have gv := gf.insTmp (C := A.cV) (fs := vFs ta D ⟨u, assignIds d.next (Law.nos d c u), d.cur, -1⟩) hb9 hdb nb
        have keep : ∀ x o, H' x = some o → insN H' A.cV b9 db (vFs ta D ⟨u, assignIds d.next (Law.nos d c u), d.cur, -1⟩) x = some o := fun x o hx => by
          show upd (upd _ _ _) _ _ x = _
          rw [upd_ne (ne_of_none hx hb9), upd_ne (ne_of_none hx hdb)]
          exact hx
        have hb5 : insN H' A.cV b9 db (vFs ta D ⟨u, assignIds d.next (Law.nos d c u), d.cur, -1⟩) b9 = some (.ins A.cV db (vFs ta D ⟨u, assignIds d.next (Law.nos d c u), d.cur, -1⟩)) := insN_at
        have hd5 := hdf.other gv.s (fun x hx => by
          cases hx' : H' x with
          | none => exact absurd hx' (hdf.all x hx)
          | some o => exact keep x o hx')
        have hGb : G4 b9 = none := gf.s.free hb9
        have hHb : H b9 = none := gf.back hb9
        refine version_new (u := u) (ts := assignIds d.next (Law.nos d c u)) (par := d.cur) ?_
        generalize insN H' A.cV b9 db (vFs ta D ⟨u, assignIds d.next (Law.nos d c u), d.cur, -1⟩) = H5 at gv hb5 hd5 keep ⊢
        have hvbl := paired_len hdf.hv
        have hvbl : bs.length = d.vers.length := hvbl
        refine ⟨rfl, vl, rfl, _, hd5.hl, by rw [List.length_map]; omega, ?_⟩
        have hnb : ∀ x ∈ a :: vl :: bs, x ≠ b9 := fun x hx z => hdf.all x hx (z ▸ hb9)
        have g6 := gv.put (o := .lst (bs.map V.ref ++ [.ref b9])) hd5.nl (.inl (List.mem_cons_of_mem _ (List.mem_cons_self ..)))
        obtain ⟨dx5, ha5⟩ := hd5.ha
        have hd6 : DocAt A G4 (upd H5 vl (.lst (bs.map V.ref ++ [.ref b9]))) a vl (bs ++ [b9]) { vers := d.vers ++ [⟨u, assignIds d.next (Law.nos d c u), d.cur, -1⟩], cur := d.cur, next := d.next + Law.freshs (Law.nos d c u), added := d.added } := by
          refine ⟨g6.s, hd5.na, hd5.nl, ⟨dx5, by rw [upd_ne (ne_of ha5 hd5.hl (fun z => by cases z))]; exact ha5⟩, by rw [upd_same, List.map_append]; rfl, ?_, ?_⟩
          · have hold : Paired (VerAt A G4 (upd H5 vl (.lst (bs.map V.ref ++ [.ref b9])))) bs d.vers := paired_mono (fun x v hx => by
              obtain ⟨_, _, _, z1, z2, _⟩ := id hx
              exact hx.mono (Same.refl _) z2 (upd_ne (ne_of z1 hd5.hl (fun z => by cases z)))) hd5.hv
            refine paired_snoc ⟨db, ta, D, ?_, hGb, eG _ _ hta, hLs⟩ hold
            rw [upd_ne (hnb vl (List.mem_cons_of_mem _ (List.mem_cons_self ..))).symm]
            exact hb5
          · rw [List.nodup_append]
            refine ⟨h.nd, by simp, fun x hx y hy => ?_⟩
            obtain rfl := List.mem_singleton.mp hy
            exact hnb x (List.mem_cons_of_mem _ (List.mem_cons_of_mem _ hx))
        generalize upd H5 vl (.lst (bs.map V.ref ++ [.ref b9])) = H6 at g6 hd6 ⊢
        obtain ⟨dx6, ha6⟩ := hd6.ha
        refine ⟨_, _, _, ha6, T.clO, T.a_many_added, _, df_added, c, G4, g6.s, hc.mono eG, hcl, fun H7 e7 => ⟨_, rfl, _, _, e7 _ _ ha6, (by decide : 4 < 1000), ?_⟩⟩
        rw [show ((d.added : Nat) : Int) + (insertedLength c : Nat) = ((d.added + insertedLength c : Nat) : Int) by omega, df_put_added]
        have g7 := g6.junk e7
        have hd7 := hd6.grow ((Grow.refl (S := Sno) g6.s).junk e7)
        have g8 := g7.put (o := .ins A.cO dx6 (dFs vl { vers := d.vers ++ [⟨u, assignIds d.next (Law.nos d c u), d.cur, -1⟩], cur := d.cur, next := d.next + Law.freshs (Law.nos d c u), added := d.added + insertedLength c })) hd7.na (.inl (List.mem_cons_self ..))
        have hd8 := hd7.put (d' := { vers := d.vers ++ [⟨u, assignIds d.next (Law.nos d c u), d.cur, -1⟩], cur := d.cur, next := d.next + Law.freshs (Law.nos d c u), added := d.added + insertedLength c }) rfl g8.s
        refine ⟨_, _, upd_same, df_no (by decide) (by decide) (by decide) (by decide), _, _, _, upd_same, T.clO, T.a_versions, _, df_versions, vl, rfl, _, .inl (SqL.of hd8.hl), vl, d.vers.length, ?_, bs ++ [b9], _, G4, hd8, ?_, ?_, fun H9 g9 hd9 => q G4 H9 b9 (g8.trans g9 fun x hx => ?_) hHb hd9⟩
        · rw [List.length_map, List.length_append, hvbl]
          show ((d.vers.length + 1 : Nat) : Int) - 1 = _
          omega
        · show _ < (d.vers ++ _).length
          rw [List.length_append]
          exact Nat.lt_succ_self _
        · exact hgood.ahead.snoc (by have := hgood.cur; show (-1 : Int) ≤ (d.cur : Int) ∧ (d.cur : Int) < _; omega)
        · rcases List.mem_cons.mp hx with rfl | hx
          · exact .inl (List.mem_cons_self ..)
          rcases List.mem_cons.mp hx with rfl | hx
          · exact .inl (List.mem_cons_of_mem _ (List.mem_cons_self ..))
          rcases List.mem_append.mp hx with hx | hx
          · exact .inl (List.mem_cons_of_mem _ (List.mem_cons_of_mem _ hx))
          · obtain rfl := List.mem_singleton.mp hx
            exact .inr hHb
end
end Tk
end
section
set_option Elab.async false
set_option linter.all false
set_option maxRecDepth 100000
set_option maxHeartbeats 2000000
/-! The walk, part 12: desk.py: refusals, records. -/
namespace Tk
open PySem PySem.Spec PyProof.Rows L2
open RWire (Octets)
/-- what the written part says of Refusal -/
structure TopF (K : PySem.W.Frag) (A : Ads) : Prop where
  ex : OexC K A.cF
  xf : XfC K A.cF
  kind : PySem.W.findIn K (.ref A.cF) "kind" = some none
  message : PySem.W.findIn K (.ref A.cF) "message" = some none
structure ExAt (K : PySem.W.Frag) (mg : Str → Option Value) (C : Addr) (x qual : Str) (st : Stmt) (ps : List Str) : Prop where
  ex : ∃ (f : Addr) (fd : FuncData), Fun K "__init__" qual st f fd ∧ PySem.W.findIn K (.ref C) "__init__" = some (some (.ref f)) ∧ PySem.W.typeIn K (.ref f) = some (.type "function") ∧ mg x = some (.ref C) ∧ Binds K fd ps []
structure Ex (P : Program) (w : World) (K : PySem.W.Frag) (mg : Str → Option Value) (base : Heap) (CX : CXT) (k : Nat) (C : Addr) (x : Str) (ps : List Str) (sp : Sp) : Prop where
  ex : ∃ (f : Addr) (fd : FuncData), PySem.W.findIn K (.ref C) "__init__" = some (some (.ref f)) ∧ PySem.W.typeIn K (.ref f) = some (.type "function") ∧ mg x = some (.ref C) ∧ Binds K fd ps [] ∧ FnOk P w K mg base CX k f fd ps sp
theorem ExAt.ok {P : Program} {w : World} {K : PySem.W.Frag} {mg : Str → Option Value} {base : Heap} {C : Addr} {x qual : Str} {st : Stmt} {N ps : List Str} {k : Nat} {sp : Sp} (D : ExAt K mg C x qual st ps) (S : FnScope N ps (defScope st)) (len : ∀ vs H Q E, sp vs H Q E → vs.length = ps.length)
    (hbody : ∀ (f : Addr) (cdv : Value) (A : Around) (outer : List Env) (s : Shared) (H : Hp) (vs : List V) (Q : VK) (E : XK), Room k (A.deeper (envOfC qual (defScope st) s.heap.objs.size f cdv)) → sp vs H Q E →
      ∃ t, PSs (cxOf CX0 P w K mg base N qual (defScope st) f cdv A outer s H E).nox (defBody st) t ∧ t { nx := fun _ H' => Q .non H', rt := Q } (start N vs) H) : Ex P w K mg base CX0 (k + 1) C x ps sp := by
  obtain ⟨f, fd, F, h1, h2, hm, b⟩ := D.ex
  exact ⟨f, fd, h1, h2, hm, b, F.ok S len fun cdv A outer s H vs Q E => hbody f cdv A outer s H vs Q E⟩
/-- an own exception with its own __init__, its context kept -/
theorem pmk_oexN {X : Cx} {e : Expr} {es : List Expr} {ta : TA} {p pos : Pos} {x : Str} {C : Addr} {k j : Nat} {ps : List Str} {sp : Sp} (T : OexC X.K C) (c : Ex X.prog X.w X.K X.mg X.base CX0 k C x ps sp) (hr : Room j X.A) (hk : k + 1 ≤ j) (ha : PA X (e :: es) ta) (hg : Gl X x := by rfl)
    (hdb : (x == ("__debug__" : Str)) = false := by decide) (he : starEach (e :: es) X.env = (false, eval e X.env) :: starEach es X.env := by rfl) (hpl : (backTo pos (starEach es X.env)).any (·.1) = false := by rfl) :
    L2N.PMk X (.Call (.Name x p) (e :: es) [] pos) (tMkO C sp [] ta) := by
  obtain ⟨fI, fd, iC, tI, hm, hb, F1⟩ := c.ex
  have hr := hr.mono hk
  intro pins s σ H Q I h
  obtain ⟨nm, q, N, bs, bm, sn, sub, ab, col, dd, k0, k1, k2, k3, k5, hC, hbm⟩ := T.cls
  refine wpAny_Call_Name_kw (ld_glob I hg hm (PySem.W.callWith_K (h₀ := X.base) I.ok.mod.kin T.kC (thn (ha.run pos pins s σ H _ I h) fun us s1 ⟨vs, H1, I1, r1, hz, q1⟩ => ⟨I1.kIn, ?_⟩) he hpl) hdb)
  show wpAny _ _ (call (.ref C) us) _ _ _
  obtain ⟨hp, g, dr, tk, os⟩ := s1
  -- e: where the exception is laid
  obtain ⟨a, hae⟩ : ∃ a, hp.objs.size + 1 = a := ⟨_, rfl⟩
  have hsz : hp.objs.size ≤ a := by rw [← hae]; exact Nat.le_succ _
  have hq := q1 a (I1.hok.fresh hsz)
  have there : ((hp.push (PySem.W.kdv_tup us)).push (PySem.HandSPX.excO C hp.objs.size)).get? a = some (PySem.HandSPX.excO C hp.objs.size) := by
    rw [← hae]
    heap_get
  have kk : ∀ b o, hp.get? b = some o → ((hp.push (PySem.W.kdv_tup us)).push (PySem.HandSPX.excO C hp.objs.size)).get? b = some o := fun b o e => Heap.get?_push_of_some _ (Heap.get?_push_of_some _ e)
  have I2 := I1.laid (t' := tk) (a := a) (o := exo a C none) (h' := (hp.push (PySem.W.kdv_tup us)).push (PySem.HandSPX.excO C hp.objs.size)) kk hsz (exo_ok there)
  have r2 : Vals (V.ref a :: (vs ++ [])) (Value.ref a :: (us ++ [])) := .cons rfl (r1.append .nil)
  have hl : (Value.ref a :: us ++ []).length = ps.length := (r2.length.symm.trans (F1.len _ _ _ _ hq))
  have hus : us.length ≤ sizeLine := by
    rw [← Paired.length r1, sizeLine_eq]
    omega
  subst hae
  refine wpAny_call (PySem.HandSPX.call_own F.excBase_ValueError (fun Y => PySem.HandSPX.refsVE_contains Y bm hbm) (I1.kIn _ _ hC) (PySem.W.looks_findIn I1.kIn iC) (fun self => PySem.W.bind_fn I1.kIn self tI) hus
    (codeAny_mono (F1.run _ X.stack _ _ ⟨Value.ref _ :: us, []⟩ _ _ _ (fun _ _ _ => False) (hr.make C us []) (I2.env0.make C us []) (hb _ (Value.ref _ :: us) I2.kIn hl) r2 hq) fun r s' hq' => ?_))
  match r, hq' with
  | .error er, hq' => exact hq'.elim
  | .ok (.ret u), ⟨v, H2, os2, bare2, un2, hok2, rv, ev, d, fs, ea, ed, hd1, q2⟩ =>
    subst ev
    obtain ⟨h2, g2, d2, t2, os'⟩ := s'
    obtain ⟨t0, G, J, kG, ge, hoe, na⟩ := mk_end0 (d2 := d2) (t2 := t2) I1 hsz kk un2 hok2 os2 bare2 ea ed hd1
    exact ⟨rv, _, _, _, ⟨G, g2, d2, t2, os'⟩, _, .ref C, some d, rfl, J, kG, ge, hoe, ⟨rfl, rfl, fun vs hv => by cases hv; rfl⟩, rfl, rfl, na, rfl, bare2, raises_own T.exC T.tyC, q2⟩
  | .ok .next, hq' => exact hq'.elim
  | .ok .brk, hq' => exact hq'.elim
  | .ok .cont, hq' => exact hq'.elim
def sp_Refusal : Ads → Sp := fun A vs H Q _ => ∃ (a : Addr) (k m : V) (H1 : Hp), vs = [.ref a, k, m] ∧ H = upd H1 a (exo a A.cF none) ∧ H1 a = none ∧
  ∀ dx, H1 dx = none → dx ≠ a → Q .non (upd (upd (upd (upd H1 a (exo a A.cF none)) dx (exd dx [("kind", k)])) a (exo a A.cF (some dx))) dx (exd dx [("message", m), ("kind", k)]))
/-- a refusal is on its way -/
def Ref (A : Ads) (E : XK) (H : Hp) (k : Int) (z : Str) : Prop := ∀ d H', Same H H' → H' d = some (.xd [("message", .str z), ("kind", .int k)]) → E (.ref A.cF) (some d) H'
theorem Ref.on {A : Ads} {E : XK} {H H1 : Hp} {k : Int} {z : Str} (h : Ref A E H k z) (e : Same H H1) : Ref A E H1 k z := fun d H' e2 hd => h d H' (e.trans e2) hd
def sp_need : Ads → Sp := fun A vs H Q E => ∃ (b : Bool) (k : Int) (z : Str), vs = [.bl b, .int k, .str z] ∧ (b = true → Q .non H) ∧ (b = false → Ref A E H k z)
local macro_rules | `(tactic| walk_at "rd") => `(tactic| simp only [sp_Refusal, sp_need, tMkO, tOst, cxK, cxNK, cxNN, cxHK, tRet, tRetN, tChain, tC, tVar, rI0, rI, tOp, tUn, rU, tIf, tTest, tB, tNot, tAnd, tOr, tAndV, tOrV, tNotV, tCB, tCons, tNil, tNext, tSeq, tIfS, tDrop, tAsg, gName, tPar, tPar3, tAug, ipI, tCall, tCallS, E0, rEq, rNe, scal, rIxT, rIxL,  tTup, tLst, gTup, gCons, gNil, iTup, iList, iStr, iRng1, wipe, tSl, tPart, tNoPart, rIn,  tFld, sFld, sFldAug, tMeth, tMake, rAdd, tYes, tBM, rAppend, rExtend, rCat, rSetL, gSub,
  L2.start, List.map_cons, List.map_nil, List.length_cons, List.length_nil, Nat.reduceAdd, Nat.reduceSub, List.replicate_succ, List.replicate_zero, List.cons_append, List.nil_append, List.append_nil,
  List.getElem?_cons_zero, List.getElem?_cons_succ, List.set_cons_zero, List.set_cons_succ, Option.some.injEq, exists_eq_left, exists_eq_left', exists_eq_right, exists_eq_right', V.int.injEq, V.bl.injEq, V.str.injEq, V.ref.injEq, List.cons.injEq, true_and, and_true, and_assoc, exists_and_left, decide_eq_true_eq, Bool.false_eq_true, if_true, if_false, ite_true, ite_false, reduceIte, reduceCtorEq])

section
variable {P : Program} {w : World} {K : PySem.W.Frag} {mg : Str → Option Value} {base : Heap} {A : Ads}
abbrev s_Refusal_init : Stmt := inClass (top 6) 0
theorem sc_Refusal_init : FnScope ["self", "kind", "message"] ["self", "kind", "message"] (defScope s_Refusal_init) := ⟨rfl, rfl, rfl, by decide +kernel, rfl, by decide +kernel, by decide +kernel⟩
theorem ok_Refusal (F : TopF K A) (D : ExAt K mg A.cF "Refusal" "Refusal.__init__" s_Refusal_init ["self", "kind", "message"]) : Ex P w K mg base CX0 1 A.cF "Refusal" ["self", "kind", "message"] (sp_Refusal A) := by
  refine D.ok sc_Refusal_init (fun vs H Q E h => ?_) (fun f cdv Ar outer s H vs Q E hr h => ?_)
  · obtain ⟨a, k, m, H1, rfl, _⟩ := h
    rfl
  · obtain ⟨a, k, m, H1, rfl, rfl, ha, q⟩ := h
    refine ⟨_, (pss_cons (ps_ost (pv 0) (pv 1) rfl)
      (pss_one (ps_ost (pv 0) (pv 2) rfl))), ?_⟩
    walk_at "rd"
    refine ⟨A.cF, F.ex, F.kind, .inl ⟨upd_same, fun dx hd ne => ⟨A.cF, F.ex, F.message, .inr ⟨dx, upd_same, [("kind", k)], by rw [upd_ne ne]; exact upd_same, (by decide : 1 ≤ 900), q dx (by rw [upd_ne ne] at hd; exact hd) ne⟩⟩⟩⟩
abbrev s_need : Stmt := top 51
theorem sc_need : FnScope ["is_right", "kind", "message"] ["is_right", "kind", "message"] (defScope s_need) := ⟨rfl, rfl, rfl, by decide +kernel, rfl, by decide +kernel, by decide +kernel⟩
theorem ok_need (T : Top K mg A) (F : TopF K A) (D : DefAt K mg "need" s_need ["is_right", "kind", "message"]) (C_Refusal : Ex P w K mg base CX0 1 A.cF "Refusal" ["self", "kind", "message"] (sp_Refusal A)) : Fn P w K mg base (L2N.CX P w) 3 "need" ["is_right", "kind", "message"] (sp_need A) := by
  refine D.okN sc_need (fun vs H Q E h => ?_) (fun f cdv Ar outer s H vs Q E hr h => ?_)
  · obtain ⟨b, k, z, rfl, _⟩ := h
    rfl
  · obtain ⟨b, k, z, rfl, q, e⟩ := h
    refine ⟨_, (pss_one (ps_if (pt_not (pt_val (pv 0))) (pss_one (L2N.ps_raise rfl (L2N.takes_of rfl rfl rfl rfl) (pmk_oexN F.ex C_Refusal hr (by first | decide | omega) (pa_cons (pv 1) (pa_cons (pv 2) pa_nil))))) pss_nil)), ?_⟩
    walk_at "rd"
    cases b with
    | true => exact q rfl
    | false =>
      rw [if_pos (show (!false) = true from rfl)]
      refine ⟨by decide, fun a ha => ⟨H, rfl, ha, fun dx hdx ne => ⟨dx, by rw [upd_ne ne.symm]; exact upd_same, _, upd_same, hdx, e rfl dx _ (fun b o hb => ?_) upd_same⟩⟩⟩
      have n1 : b ≠ a := ne_of_none hb ha
      have n2 : b ≠ dx := ne_of_none hb hdx
      rw [upd_ne n2, del_ne n1, upd_ne n2, upd_ne n1, upd_ne n2, upd_ne n1]
      exact hb
end
/-- a string as a text of octets -/
def txtOf (z : Str) : Octets := z.cps.toList.map UInt8.ofNat
theorem codes_txt {z : Str} (h : z.cps.all (· < 128) = true) : codes z = Oc (txtOf z) := by
  unfold codes txtOf Oc
  rw [List.map_map]
  refine List.map_congr_left fun c hc => ?_
  have h1 := Array.all_eq_true'.mp h c (Array.mem_toList_iff.mp hc)
  have h1 : c < 128 := by simpa using h1
  show V.int (c : Int) = V.int ((UInt8.ofNat c).toNat : Int)
  rw [UInt8.toNat_ofNat', Nat.mod_eq_of_lt (by omega)]
def pairV (l : List (Str × RWire.Value)) : List (RWire.Text × RWire.Value) := l.map fun e => (txtOf e.1, e.2)
structure PrsAt (A : Ads) (G : Hp) (b : Addr) (e : Str × RWire.Value) : Prop where
  ex : ∃ x, G b = some (.tup [.str e.1, x]) ∧ Vl A G x e.2
def Prs (A : Ads) (G : Hp) (p : Addr) (l : List (Str × RWire.Value)) : Prop := ∃ as : List Addr, G p = some (.lst (as.map V.ref)) ∧ Paired (PrsAt A G) as l
def asc (z : Str) : Prop := z.cps.all (· < 128) = true ∧ z.cps.size ≤ 1000
def sp_record : Ads → Sp := fun A vs H Q _ => ∃ (p : Addr) (l : List (Str × RWire.Value)) (G : Hp), vs = [.ref p] ∧ Same G H ∧ Prs A G p l ∧ l.length ≤ 10 ∧ (∀ e ∈ l, asc e.1) ∧ ∀ x G' H', Grow Sno G H G' H' → Vl A G' (.ref x) (.record (pairV l)) → Q (.ref x) H'
def tokV (t : R7253e.Spec.Token) : RWire.Value := .record (pairV [("id", .int t.id), ("kind", .text (txtOf (kn t.raw.kind))), ("from", .int t.raw.start), ("to", .int ((t.raw.start + t.raw.length : Nat) : Int))])
def stepV (v : RWire.Value) (b : Bool) : RWire.Value := .record (pairV [("value", v), ("done", .bool b)])
def sp_token_told : Ads → Sp := fun A vs H Q _ => ∃ (a : Addr) (t : R7253e.Spec.Token) (G : Hp), vs = [.ref a] ∧ Same G H ∧ G a = some (.tup (tokT t)) ∧ t.raw.kind ∈ Law.kinds ∧ ∀ x G' H', Grow Sno G H G' H' → Vl A G' (.ref x) (tokV t) → Q (.ref x) H'
def sp_stepped : Ads → Sp := fun A vs H Q _ => ∃ (y : V) (b : Bool) (v : RWire.Value) (G : Hp), vs = [y, .bl b] ∧ Same G H ∧ Vl A G y v ∧ ∀ x G' H', Grow Sno G H G' H' → Vl A G' (.ref x) (stepV v b) → Q (.ref x) H'
theorem kn_asc : ∀ k ∈ Law.kinds, asc (kn k) := by
  unfold asc
  decide +kernel
local macro_rules | `(tactic| walk_at "rd") => `(tactic| simp only [sp_text_of, sp_record, sp_token_told, sp_stepped, cxK, cxNK, cxNN, cxHK, tRet, tRetN, tChain, tC, tVar, rI0, rI, tOp, tUn, rU, tIf, tTest, tB, tNot, tAnd, tOr, tAndV, tOrV, tNotV, tCB, tCons, tNil, tNext, tSeq, tIfS, tDrop, tAsg, gName, tPar, tPar3, tAug, ipI, tCall, tCallS, E0, rEq, rNe, scal, rIxT, rIxL,  tTup, tLst, gTup, gCons, gNil, iTup, iList, iStr, iRng1, wipe, tSl, tPart, tNoPart, rIn,  tFld, sFld, sFldAug, tMeth, tMake, rAdd, tYes, tBM, rAppend, rExtend, rCat, rSetL, gSub,
  L2.start, List.map_cons, List.map_nil, List.length_cons, List.length_nil, Nat.reduceAdd, Nat.reduceSub, List.replicate_succ, List.replicate_zero, List.cons_append, List.nil_append, List.append_nil,
  List.getElem?_cons_zero, List.getElem?_cons_succ, List.set_cons_zero, List.set_cons_succ, Option.some.injEq, exists_eq_left, exists_eq_left', exists_eq_right, exists_eq_right', V.int.injEq, V.bl.injEq, V.str.injEq, V.ref.injEq, List.cons.injEq, true_and, and_true, and_assoc, exists_and_left, decide_eq_true_eq, Bool.false_eq_true, if_true, if_false, ite_true, ite_false, reduceIte, reduceCtorEq])

section
variable {P : Program} {w : World} {K : PySem.W.Frag} {mg : Str → Option Value} {base : Heap} {A : Ads}
abbrev s_record : Stmt := top 52
theorem sc_record : FnScope ["pairs", "name", "value"] ["pairs"] (defScope s_record) := ⟨rfl, rfl, rfl, by decide +kernel, rfl, by decide +kernel, by decide +kernel⟩
theorem ok_record (T : Top K mg A) (D : DefAt K mg "record" s_record ["pairs"]) (C_text_of : Fn P w K mg base CX0 1 "text_of" ["words"] sp_text_of) (C_Record : Cl P w K mg base CX0 1 A.cR "Record" ["self", "members"] (sp_Record A)) : Fn P w K mg base CX0 3 "record" ["pairs"] (sp_record A) := by
  refine D.ok sc_record (fun vs H Q E h => ?_) (fun f cdv Ar outer s H vs Q E hr h => ?_)
  · obtain ⟨p, l, G, rfl, _⟩ := h
    rfl
  · obtain ⟨p, l, G, rfl, hG, ⟨as, hp, hP⟩, hl, ha, q⟩ := h
    have hlen := paired_len hP
    have s20 : 21 ≤ sizeLine := by decide
    have s1000 : 1000 ≤ sizeLine := by decide
    refine ⟨_, (pss_one (ps_ret (pe_mkf C_Record hr (by first | decide | omega) (pa_cons (pe_lc (own := [("name", 1), ("value", 2)]) (g := (gTup K 2 (gCons (gName 1) (gCons (gName 2) gNil)))) rfl sc_record.nd (pi_list (pv 0)) (blkOk_by (N := ["pairs", "name", "value"]) (sc := defScope s_record) (by decide +kernel)) (fun _ _ _ _ _ => (pg_tup (n := 2) rfl (pgs_cons (pg_name (i := 1) sc_record.nd rfl (Or.inl rfl)) (pgs_cons (pg_name (i := 2) sc_record.nd rfl (Or.inl rfl)) pgs_nil)))) (fun _ _ _ _ _ => pts_nil) (fun _ _ _ _ _ => (pe_tup (pa_cons (pe_f C_text_of hr (by first | decide | omega) (pa_cons (pv 1) pa_nil)) (pa_cons (pv 2) pa_nil))))) pa_nil)))), ?_⟩
    walk_at "rd"
    refine ⟨V.ref p, rfl, p, rfl, ⟨_, SqL.of (hG _ _ hp)⟩, fun D hD => ?_⟩
    refine lc_it (walk_list (K := K) (a := p) (xs := as.map V.ref)) (fun k H' => ∃ bs G1, Grow Sno G H G1 H' ∧ H' D = some (.lst (bs.map V.ref)) ∧ G1 D = none ∧ VlEnt A G1 bs (pairV (l.take k))) ⟨[], G, (Grow.refl hG).tmp hD, upd_same, hG.free hD, .nil⟩ (fun k H' _ ⟨_, G1, g, _⟩ => SqL.of (g.s _ _ (g.g _ _ hp))) (fun k x H' H2 hk ⟨bs, G1, g, hDD, hGD, hE⟩ ⟨e2, hx⟩ => ?_) (fun H' ⟨bs, G1, g, hDD, hGD, hE⟩ => ?_)
    · subst e2
      rw [List.getElem?_map] at hx
      obtain ⟨b9, hb, ex⟩ := Option.map_eq_some_iff.mp hx
      subst ex
      obtain ⟨e, he, ⟨x, hb1, hx1⟩⟩ := paired_get hP hb
      obtain ⟨a1, a2⟩ := ha e (List.mem_of_getElem? he)
      have hbl := hE.len
      have hil : k < as.length := (List.getElem?_eq_some_iff.mp hb).1
      unfold pairV at hbl
      rw [List.length_map, List.length_take] at hbl
      refine ⟨b9, _, rfl, SqT.of (g.s _ _ (g.g _ _ hb1)), rfl, ?_⟩
      walk_at "rd"
      refine ⟨Nat.le_trans a2 s1000, G1, g.s, fun p1 G2 H3 g2 h2 => ⟨by decide, fun p3 hp3 => ?_⟩⟩
      have g3 := (g.transN g2).new (o := .tup [V.ref p1, x]) hp3
      have g4 := g2.new (o := .tup [V.ref p1, x]) hp3
      refine ⟨_, g4.same _ _ hDD, by rw [List.length_map]; omega, bs ++ [p3], _, g3.put (g4.out hGD (some_ne hDD)) (.inr hD), by rw [upd_same, List.map_append]; rfl, g4.out hGD (some_ne hDD), ?_⟩
      rw [take_one he]
      have ep : pairV (l.take k ++ [e]) = pairV (l.take k) ++ [(txtOf e.1, e.2)] := List.map_append
      rw [ep]
      rw [codes_txt a1] at h2
      exact (hE.mono g4.g).snoc (n := p1) (x := x) upd_same (same_new (g2.s.free hp3) _ _ h2) ((hx1.mono g.g).mono g4.g)
    · rw [List.length_map, hlen, List.take_length] at hE
      intro x dx hx hdx ne
      have gf := g.fix hD hDD hGD
      refine record_new gf upd_same (hE.mono (same_new hGD)) (fun x G2 H2 g2 g3 hv2 => ?_) hx hdx ne
      exact q x G2 H2 g2 hv2
abbrev s_token_told : Stmt := top 57
theorem sc_token_told : FnScope ["token"] ["token"] (defScope s_token_told) := ⟨rfl, rfl, rfl, by decide +kernel, rfl, by decide +kernel, by decide +kernel⟩
theorem ok_token_told (T : Top K mg A) (D : DefAt K mg "token_told" s_token_told ["token"]) (C_text_of : Fn P w K mg base CX0 1 "text_of" ["words"] sp_text_of) (C_record : Fn P w K mg base CX0 3 "record" ["pairs"] (sp_record A)) : Fn P w K mg base CX0 4 "token_told" ["token"] (sp_token_told A) := by
  refine D.ok sc_token_told (fun vs H Q E h => ?_) (fun f cdv Ar outer s H vs Q E hr h => ?_)
  · obtain ⟨a, t, G, rfl, _⟩ := h
    rfl
  · obtain ⟨a, t, G, rfl, hG, ha, hk, q⟩ := h
    refine ⟨_, (pss_one (ps_ret (pe_f C_record hr (by first | decide | omega) (pa_cons (pe_lst (pa_cons (pe_tup (pa_cons pe_str (pa_cons (pe_ix ix_tup (pv 0) pe_int (fun _ _ => rfl)) pa_nil))) (pa_cons (pe_tup (pa_cons pe_str (pa_cons (pe_f C_text_of hr (by first | decide | omega) (pa_cons (pe_ix ix_tup (pv 0) pe_int (fun _ _ => rfl)) pa_nil)) pa_nil))) (pa_cons (pe_tup (pa_cons pe_str (pa_cons (pe_ix ix_tup (pv 0) pe_int (fun _ _ => rfl)) pa_nil))) (pa_cons (pe_tup (pa_cons pe_str (pa_cons (pe_ix ix_tup (pv 0) pe_int (fun _ _ => rfl)) pa_nil))) pa_nil))))) pa_nil)))), ?_⟩
    walk_at "rd"
    unfold tokT at ha
    have s1000 : 1000 ≤ sizeLine := by decide
    have hkn := kn_asc _ hk
    have sa : ∀ {H'}, Same G H' → SqT K H' a [.int t.id, .str (kn t.raw.kind), .int t.raw.start, .int ((t.raw.start + t.raw.length : Nat) : Int)] := fun e => SqT.of (e _ _ ha)
    refine ⟨_, sa hG, _, rfl, by decide, fun p1 hp1 => ?_⟩
    have g1 : Grow Sno G H _ _ := (Grow.refl hG).new (o := .tup [V.str "id", .int t.id]) hp1
    refine ⟨_, sa (hG.trans g1.same), _, rfl, _, rfl, Nat.le_trans hkn.2 s1000, _, g1.s, fun p2 G2 H2 g2 h2 => ⟨by decide, fun p3 hp3 => ?_⟩⟩
    have g3 := (g1.transN g2).new (o := .tup [V.str "kind", .ref p2]) hp3
    have i3 := g2.new (o := .tup [V.str "kind", .ref p2]) hp3
    refine ⟨_, sa (hG.trans g3.same), _, rfl, by decide, fun p4 hp4 => ?_⟩
    have g4 := g3.new (o := .tup [V.str "from", .int t.raw.start]) hp4
    have i4 := (Grow.refl (S := Sno) g3.s).new (o := .tup [V.str "from", .int t.raw.start]) hp4
    refine ⟨_, sa (hG.trans g4.same), _, rfl, by decide, fun p5 hp5 => ⟨by decide, fun p6 hp6 => ?_⟩⟩
    have g5 := g4.new (o := .tup [V.str "to", .int ((t.raw.start + t.raw.length : Nat) : Int)]) hp5
    have i5 := (Grow.refl (S := Sno) g4.s).new (o := .tup [V.str "to", .int ((t.raw.start + t.raw.length : Nat) : Int)]) hp5
    have g6 := g5.new (o := .lst [V.ref p1, .ref p3, .ref p4, .ref p5]) hp6
    have i6 := (Grow.refl (S := Sno) g5.s).new (o := .lst [V.ref p1, .ref p3, .ref p4, .ref p5]) hp6
    rw [codes_txt hkn.1] at h2
    refine ⟨[("id", .int t.id), ("kind", .text (txtOf (kn t.raw.kind))), ("from", .int t.raw.start), ("to", .int ((t.raw.start + t.raw.length : Nat) : Int))], _, g6.s, ⟨[p1, p3, p4, p5], upd_same, .cons ⟨_, i6.g _ _ (i5.g _ _ (i4.g _ _ (i3.g _ _ upd_same))), .int _⟩ (.cons ⟨_, i6.g _ _ (i5.g _ _ (i4.g _ _ upd_same)), .text (i6.g _ _ (i5.g _ _ (i4.g _ _ (same_new ((g1.transN g2).s.free hp3) _ _ h2))))⟩ (.cons ⟨_, i6.g _ _ (i5.g _ _ upd_same), .int _⟩ (.cons ⟨_, i6.g _ _ upd_same, .int _⟩ .nil)))⟩, (by decide : 4 ≤ 10), fun e he => ?_, fun x G7 H7 g7 h7 => q x G7 H7 (g6.transN g7) h7⟩
    have all : ∀ z ∈ (["id", "kind", "from", "to"] : List Str), z.cps.all (· < 128) = true ∧ z.cps.size ≤ 1000 := by decide +kernel
    have key : e.1 ∈ (["id", "kind", "from", "to"] : List Str) := List.mem_map.mpr ⟨e, he, rfl⟩
    exact all _ key
abbrev s_stepped : Stmt := top 60
theorem sc_stepped : FnScope ["value", "is_done"] ["value", "is_done"] (defScope s_stepped) := ⟨rfl, rfl, rfl, by decide +kernel, rfl, by decide +kernel, by decide +kernel⟩
theorem ok_stepped (T : Top K mg A) (D : DefAt K mg "stepped" s_stepped ["value", "is_done"]) (C_record : Fn P w K mg base CX0 3 "record" ["pairs"] (sp_record A)) : Fn P w K mg base CX0 4 "stepped" ["value", "is_done"] (sp_stepped A) := by
  refine D.ok sc_stepped (fun vs H Q E h => ?_) (fun f cdv Ar outer s H vs Q E hr h => ?_)
  · obtain ⟨y, b, v, G, rfl, _⟩ := h
    rfl
  · obtain ⟨y, b, v, G, rfl, hG, hv, q⟩ := h
    refine ⟨_, (pss_one (ps_ret (pe_f C_record hr (by first | decide | omega) (pa_cons (pe_lst (pa_cons (pe_tup (pa_cons pe_str (pa_cons (pv 0) pa_nil))) (pa_cons (pe_tup (pa_cons pe_str (pa_cons (pv 1) pa_nil))) pa_nil))) pa_nil)))), ?_⟩
    walk_at "rd"
    refine ⟨by decide, fun p1 hp1 => ⟨by decide, fun p2 hp2 => ⟨by decide, fun p3 hp3 => ?_⟩⟩⟩
    have g1 : Grow Sno G H _ _ := (Grow.refl hG).new (o := .tup [V.str "value", y]) hp1
    have g2 := g1.new (o := .tup [V.str "done", .bl b]) hp2
    have i2 := (Grow.refl (S := Sno) g1.s).new (o := .tup [V.str "done", .bl b]) hp2
    have g3 := g2.new (o := .lst [V.ref p1, .ref p2]) hp3
    have i3 := (Grow.refl (S := Sno) g2.s).new (o := .lst [V.ref p1, .ref p2]) hp3
    refine ⟨[("value", v), ("done", .bool b)], _, g3.s, ⟨[p1, p2], upd_same, .cons ⟨y, i3.g _ _ (i2.g _ _ upd_same), hv.mono g3.g⟩ (.cons ⟨_, i3.g _ _ upd_same, .bool b⟩ .nil)⟩, (by decide : 2 ≤ 10), fun e he => ?_, fun x G7 H7 g7 h7 => q x G7 H7 (g3.transN g7) h7⟩
    have all : ∀ z ∈ (["value", "done"] : List Str), z.cps.all (· < 128) = true ∧ z.cps.size ≤ 1000 := by decide +kernel
    have key : e.1 ∈ (["value", "done"] : List Str) := List.mem_map.mpr ⟨e, he, rfl⟩
    exact all _ key
end
end Tk
end
section
set_option Elab.async false
set_option linter.all false
set_option maxRecDepth 100000
set_option maxHeartbeats 2000000
/-! The walk, part 13: desk.py: what a change is. -/
namespace Tk
open PySem PySem.Spec PyProof.Rows L2
open RWire (Octets)
open R7253e.Spec (Replacement Change insertedLength)
open Law (nStep MDoc MVer)
abbrev RepT := Int × Int × Octets
def repOf : RWire.Value → Option RepT
  | .list [.int a, .int b, .text u] => some (a, b, u)
  | _ => none
def allSome {α : Type} : List (Option α) → Option (List α)
  | [] => some []
  | some x :: r => (allSome r).map fun l => x :: l
  | none :: _ => none
def repsOf : RWire.Value → Option (List RepT)
  | .list l => if l.length ≤ 20 then allSome (l.map repOf) else none
  | .octets [] => some []
  | _ => none
theorem repsOf_list (l : List RWire.Value) : repsOf (.list l) = if l.length ≤ 20 then allSome (l.map repOf) else none := rfl
def toRep (e : RepT) : Replacement := ⟨e.1.toNat, e.2.1.toNat, e.2.2.map Rust.unitOf⟩
def numS (i : Nat) : Str := "replacement " ++ (toString (i : Int) : Str)
def checkR (n : Nat) : Nat → Int → List RepT → Option Str
  | _, _, [] => none
  | i, p, e :: r => if 0 ≤ e.1 ∧ e.1 ≤ e.2.1 ∧ e.2.1 ≤ (n : Int) then (if p ≤ e.1 then checkR n (i + 1) e.2.1 r else some (numS i ++ " overlaps the previous one")) else some (numS i ++ " is out of range")
def msgR : Str := "replacements must be a list of at most 20 lists [from, to, text]"
def chgOf (n : Nat) (v : RWire.Value) : Except (Int × Str) Change :=
  match repsOf v with
  | none => .error (1, msgR)
  | some l => match checkR n 1 0 l with
    | some z => .error (2, z)
    | none => .ok ((l.map toRep).foldl nStep [])
theorem U_unit (u : Octets) : U (u.map Rust.unitOf) = Oc u := by
  unfold U Oc
  rw [List.map_map]
  refine List.map_congr_left fun o _ => ?_
  show V.int ((UInt16.ofNat o.toNat).toNat : Int) = _
  rw [UInt16.toNat_ofNat', Nat.mod_eq_of_lt (by have := o.toNat_lt; omega)]
theorem VlAll.get {A : Ads} {G : Hp} : ∀ {l : List RWire.Value} {xs : List V} {i : Nat} {x : V}, VlAll A G xs l → xs[i]? = some x → ∃ v, l[i]? = some v ∧ Vl A G x v
  | _, _, _, _, .nil, e => by simp at e
  | _, _, 0, _, .cons h _, e => by
    have e := Option.some.inj e
    subst e
    exact ⟨_, rfl, h⟩
  | _, _, i + 1, x, .cons _ t, e => by
    obtain ⟨v, h1, h2⟩ := VlAll.get (i := i) (x := x) t (by simpa using e)
    exact ⟨v, by simpa using h1, h2⟩
def isI (v : RWire.Value) : Bool := isT v "int" && !isT v "bool"
theorem Vl.isI {A : Ads} {G : Hp} {x : V} {v : RWire.Value} (h : Vl A G x v) : (isI v = true ∧ ∃ i, v = .int i ∧ x = .int i) ∨ (isI v = false ∧ ∀ i, v ≠ .int i) := by
  have ev : ∀ {v : RWire.Value} {n : String} {b c : Bool}, tNm v = n → ((n == "int") || (n == "bool" && "int" == "int")) = b → ((n == "bool") || (n == "bool" && "bool" == "int")) = c → Tk.isI v = (b && !c) := fun h e1 e2 => by
    unfold Tk.isI
    rw [isT_eval h e1, isT_eval h e2]
  cases h with
  | nothing h => exact .inr ⟨ev (n := "Nothing") (b := false) (c := false) rfl (by decide) (by decide), fun i z => by cases z⟩
  | null => exact .inr ⟨ev (n := "NoneType") (b := false) (c := false) rfl (by decide) (by decide), fun i z => by cases z⟩
  | bool b => exact .inr ⟨ev (n := "bool") (b := true) (c := true) rfl (by decide) (by decide), fun i z => by cases z⟩
  | int i => exact .inl ⟨ev (n := "int") (b := true) (c := false) rfl (by decide) (by decide), i, rfl, rfl⟩
  | text h => exact .inr ⟨ev (n := "tuple") (b := false) (c := false) rfl (by decide) (by decide), fun i z => by cases z⟩
  | octets h => exact .inr ⟨ev (n := "list") (b := false) (c := false) rfl (by decide) (by decide), fun i z => by cases z⟩
  | list h a => exact .inr ⟨ev (n := "list") (b := false) (c := false) rfl (by decide) (by decide), fun i z => by cases z⟩
  | record h1 h2 a => exact .inr ⟨ev (n := "Record") (b := false) (c := false) rfl (by decide) (by decide), fun i z => by cases z⟩
theorem Vl.isTx {A : Ads} {G : Hp} {x : V} {v : RWire.Value} (h : Vl A G x v) : (isT v "tuple" = true ∧ ∃ a u, v = .text u ∧ x = .ref a ∧ G a = some (.tup (Oc u))) ∨ (isT v "tuple" = false ∧ ∀ u, v ≠ .text u) := by
  cases h with
  | nothing h => exact .inr ⟨isT_eval (n := "Nothing") rfl (by decide), fun i z => by cases z⟩
  | null => exact .inr ⟨isT_eval (n := "NoneType") rfl (by decide), fun i z => by cases z⟩
  | bool b => exact .inr ⟨isT_eval (n := "bool") rfl (by decide), fun i z => by cases z⟩
  | int i => exact .inr ⟨isT_eval (n := "int") rfl (by decide), fun i z => by cases z⟩
  | text h => exact .inl ⟨isT_eval (n := "tuple") rfl (by decide), _, _, rfl, rfl, h⟩
  | octets h => exact .inr ⟨isT_eval (n := "list") rfl (by decide), fun i z => by cases z⟩
  | list h a => exact .inr ⟨isT_eval (n := "list") rfl (by decide), fun i z => by cases z⟩
  | record h1 h2 a => exact .inr ⟨isT_eval (n := "Record") rfl (by decide), fun i z => by cases z⟩
/-- a list of Python's -/
theorem Vl.isL {A : Ads} {G : Hp} {x : V} {v : RWire.Value} (h : Vl A G x v) : (isT v "list" = true ∧ ∃ a xs l, x = .ref a ∧ G a = some (.lst xs) ∧ VlAll A G xs l ∧ ((v = .list l) ∨ ∃ u, v = .octets u ∧ l = u.map fun o => .int (o.toNat : Int))) ∨ (isT v "list" = false ∧ (∀ l, v ≠ .list l) ∧ ∀ l, v ≠ .octets l) := by
  cases h with
  | nothing h => exact .inr ⟨isT_eval (n := "Nothing") rfl (by decide), (fun i z => by cases z), fun i z => by cases z⟩
  | null => exact .inr ⟨isT_eval (n := "NoneType") rfl (by decide), (fun i z => by cases z), fun i z => by cases z⟩
  | bool b => exact .inr ⟨isT_eval (n := "bool") rfl (by decide), (fun i z => by cases z), fun i z => by cases z⟩
  | int i => exact .inr ⟨isT_eval (n := "int") rfl (by decide), (fun i z => by cases z), fun i z => by cases z⟩
  | text h => exact .inr ⟨isT_eval (n := "tuple") rfl (by decide), (fun i z => by cases z), fun i z => by cases z⟩
  | @octets a u h =>
    refine .inl ⟨isT_eval (n := "list") rfl (by decide), _, _, _, rfl, h, ?_, .inr ⟨_, rfl, rfl⟩⟩
    have go : ∀ u : Octets, VlAll A G (Oc u) (u.map fun o => .int (o.toNat : Int)) := fun u => by
      induction u with
      | nil => exact .nil
      | cons o u ih => exact .cons (.int _) ih
    exact go u
  | list h a => exact .inl ⟨isT_eval (n := "list") rfl (by decide), _, _, _, rfl, h, a, .inl rfl⟩
  | record h1 h2 a => exact .inr ⟨isT_eval (n := "Record") rfl (by decide), (fun i z => by cases z), fun i z => by cases z⟩
theorem rep_some {v : RWire.Value} {e : RepT} (h : repOf v = some e) : v = .list [.int e.1, .int e.2.1, .text e.2.2] := by
  unfold repOf at h
  split at h
  · have z := Option.some.inj h
    rw [← z]
  · cases h
theorem rep_none {v : RWire.Value} (h : ∀ e : RepT, v ≠ .list [.int e.1, .int e.2.1, .text e.2.2]) : (repOf v).isSome = false := by
  cases hr : repOf v with
  | none => rfl
  | some e => exact absurd (rep_some hr) (h e)
def sp_is_replacement : Ads → Sp := fun A vs H Q _ => ∃ (x : V) (v : RWire.Value) (G : Hp), vs = [x] ∧ Same G H ∧ Vl A G x v ∧ Q (.bl (repOf v).isSome) H
local macro_rules | `(tactic| walk_at "rd") => `(tactic| simp only [sp_is_integer, sp_is_replacement, cxK, cxNK, cxNN, cxHK, tRet, tRetN, tChain, tC, tVar, rI0, rI, tOp, tUn, rU, tIf, tTest, tB, tNot, tAnd, tOr, tAndV, tOrV, tNotV, tCB, tCons, tNil, tNext, tSeq, tIfS, tDrop, tAsg, gName, tPar, tPar3, tAug, ipI, tCall, tCallS, E0, rEq, rNe, scal, rIxT, rIxL,  tTup, tLst, gTup, gCons, gNil, iTup, iList, iStr, iRng1, wipe, tSl, tPart, tNoPart, rIn,  tFld, sFld, sFldAug, tMeth, tMake, rAdd, tYes, tBM, rAppend, rExtend, rCat, rSetL, gSub,
  L2.start, List.map_cons, List.map_nil, List.length_cons, List.length_nil, Nat.reduceAdd, Nat.reduceSub, List.replicate_succ, List.replicate_zero, List.cons_append, List.nil_append, List.append_nil,
  List.getElem?_cons_zero, List.getElem?_cons_succ, List.set_cons_zero, List.set_cons_succ, Option.some.injEq, exists_eq_left, exists_eq_left', exists_eq_right, exists_eq_right', V.int.injEq, V.bl.injEq, V.str.injEq, V.ref.injEq, List.cons.injEq, true_and, and_true, and_assoc, exists_and_left, decide_eq_true_eq, Bool.false_eq_true, if_true, if_false, ite_true, ite_false, reduceIte, reduceCtorEq])

section
variable {P : Program} {w : World} {K : PySem.W.Frag} {mg : Str → Option Value} {base : Heap} {A : Ads}
abbrev s_is_replacement : Stmt := top 54
theorem sc_is_replacement : FnScope ["value"] ["value"] (defScope s_is_replacement) := ⟨rfl, rfl, rfl, by decide +kernel, rfl, by decide +kernel, by decide +kernel⟩
theorem ok_is_replacement (T : Top K mg A) (D : DefAt K mg "is_replacement" s_is_replacement ["value"]) (C_is_integer : Fn P w K mg base CX0 1 "is_integer" ["value"] (sp_is_integer A)) : Fn P w K mg base CX0 2 "is_replacement" ["value"] (sp_is_replacement A) := by
  refine D.ok sc_is_replacement (fun vs H Q E h => ?_) (fun f cdv Ar outer s H vs Q E hr h => ?_)
  · obtain ⟨x, v, G, rfl, _⟩ := h
    rfl
  · obtain ⟨x, v, G, rfl, hG, hv, q⟩ := h
    refine ⟨_, (pss_cons (ps_if (PW.pt (pw_or (pt_not (pt_val (pe_callB call_isi (by rfl) T.n_isinstance (by decide +kernel) (pa_cons (pv 0) (pa_cons (pe_bltn (v := .ty "list") (by rfl) T.n_list (by decide +kernel) rfl) pa_nil))))) (pw_or1 (pt_cmpR op_ne (pe_callB call_len_seq (by rfl) T.n_len PySem.boot_len (pa_cons (pv 0) pa_nil)) pe_int (nomark _))))) (pss_one (ps_ret pe_bl)) pss_nil)
      (pss_one (ps_ret (pe_and (pe_f C_is_integer hr (by first | decide | omega) (pa_cons (pe_ix ix_list (pv 0) pe_int (fun _ _ => rfl)) pa_nil)) (pe_and (pe_f C_is_integer hr (by first | decide | omega) (pa_cons (pe_ix ix_list (pv 0) pe_int (fun _ _ => rfl)) pa_nil)) (pe_one (pe_callB call_isi (by rfl) T.n_isinstance (by decide +kernel) (pa_cons (pe_ix ix_list (pv 0) pe_int (fun _ _ => rfl)) (pa_cons (pe_bltn (v := .ty "tuple") (by rfl) T.n_tuple (by decide +kernel) rfl) pa_nil))))))))), ?_⟩
    walk_at "rd"
    refine rIsi_ty T hv hG (t := "list") (by decide) ?_
    refine ⟨_, rfl, ?_⟩
    rcases hv.isL with ⟨hl, a, xs, l, rfl, ha, hall, hvl⟩ | ⟨hl, n1, n2⟩
    · rw [hl, if_neg (by decide)]
      refine ⟨a, rfl, xs, .inl (SqL.of (hG _ _ ha)), ?_⟩
      have hlen := hall.len
      by_cases h3 : xs.length = 3
      · rw [if_neg (by rw [decide_eq_true (by omega : (xs.length : Int) = 3)]; decide)]
        match xs, l, hall, h3 with
        | [x0, x1, x2], [v0, v1, v2], .cons h0 (.cons h1 (.cons h2 .nil)), _ =>
          have hs := SqL.of (K := K) (hG _ _ ha)
          refine ⟨a, rfl, _, hs, x0, rfl, v0, G, hG, h0, ?_⟩
          have nrep : (∀ i j u, ¬ (v0 = .int i ∧ v1 = .int j ∧ v2 = .text u)) → (repOf v).isSome = false := fun hn => by
            rcases hvl with rfl | ⟨u, rfl, _⟩
            · refine rep_none fun e z => ?_
              have z := RWire.Value.list.inj z
              rw [List.cons.injEq, List.cons.injEq, List.cons.injEq] at z
              exact hn _ _ _ ⟨z.1, z.2.1, z.2.2.1⟩
            · rfl
          rcases h0.isI with ⟨i0, i, rfl, rfl⟩ | ⟨i0, ni⟩
          · rw [if_pos (show (isT (RWire.Value.int i) "int" && !isT (RWire.Value.int i) "bool") = true from i0)]
            refine ⟨a, rfl, _, hs, x1, rfl, v1, G, hG, h1, ?_⟩
            rcases h1.isI with ⟨j0, j, rfl, rfl⟩ | ⟨j0, nj⟩
            · rw [if_pos (show (isT (RWire.Value.int j) "int" && !isT (RWire.Value.int j) "bool") = true from j0)]
              refine ⟨a, rfl, _, hs, x2, rfl, rIsi_ty T h2 hG (t := "tuple") (by decide) ?_⟩
              rcases h2.isTx with ⟨t0, b, u, rfl, rfl, _⟩ | ⟨t0, nt⟩
              · rw [t0]
                rcases hvl with rfl | ⟨u', _, e⟩
                · exact q
                · exfalso
                  have := List.mem_of_getElem? (show ([.int i, .int j, .text u] : List RWire.Value)[2]? = some (.text u) from rfl)
                  rw [e] at this
                  obtain ⟨_, _, z⟩ := List.mem_map.mp this
                  cases z
              · rw [t0]
                rw [nrep fun _ _ u z => nt u z.2.2] at q
                exact q
            · rw [if_neg (by rw [show (isT v1 "int" && !isT v1 "bool") = false from j0]; decide)]
              rw [nrep fun _ j _ z => nj j z.2.1] at q
              exact q
          · rw [if_neg (by rw [show (isT v0 "int" && !isT v0 "bool") = false from i0]; decide)]
            rw [nrep fun i _ _ z => ni i z.1] at q
            exact q
      · rw [if_pos (by rw [decide_eq_false (by omega : ¬ (xs.length : Int) = 3)]; rfl)]
        have e : (repOf v).isSome = false := by
          rcases hvl with rfl | ⟨u, rfl, _⟩
          · refine rep_none fun e z => ?_
            have z := congrArg List.length (RWire.Value.list.inj z)
            have z3 : ([.int e.1, .int e.2.1, .text e.2.2] : List RWire.Value).length = 3 := rfl
            omega
          · rfl
        rw [e] at q
        exact q
    · rw [hl, if_pos (by decide)]
      rw [rep_none fun e z => n1 _ z] at q
      exact q
end
theorem vl_rep {A : Ads} {G : Hp} {x : V} {v : RWire.Value} {e : RepT} (h : Vl A G x v) (he : repOf v = some e) : ∃ b t, x = .ref b ∧ G b = some (.lst [.int e.1, .int e.2.1, .ref t]) ∧ G t = some (.tup (Oc e.2.2)) := by
  have z := rep_some he
  subst z
  cases h with
  | list h a =>
    match a with
    | .cons h0 (.cons h1 (.cons h2 .nil)) =>
      cases h0
      cases h1
      cases h2 with
      | text ht => exact ⟨_, _, rfl, h, ht⟩
theorem allSome_map {α : Type} : ∀ {l : List (Option α)} {r : List α}, allSome l = some r → l = r.map some
  | [], r, h => by
    have z := Option.some.inj h
    rw [← z]
    rfl
  | some x :: l, r, h => by
    rw [allSome] at h
    obtain ⟨r', h1, rfl⟩ := Option.map_eq_some_iff.mp h
    rw [List.map_cons, ← allSome_map h1]
  | none :: l, r, h => by cases h
theorem allSome_all {α : Type} : ∀ (l : List (Option α)), (l.all fun o => o.isSome) = true → ∃ r, allSome l = some r
  | [], _ => ⟨[], rfl⟩
  | some x :: l, h => by
    rw [List.all_cons, Bool.and_eq_true] at h
    obtain ⟨r, hr⟩ := allSome_all l h.2
    exact ⟨x :: r, by rw [allSome, hr]; rfl⟩
  | none :: l, h => by cases h
theorem reps_all {v : RWire.Value} {l : List RWire.Value} (hvl : v = .list l ∨ ∃ u, v = .octets u ∧ l = u.map fun o => .int (o.toNat : Int)) (h20 : l.length ≤ 20) :
    ((l.all fun v => (repOf v).isSome) = true ∧ ∃ reps, repsOf v = some reps ∧ l.map repOf = reps.map some) ∨ ((l.all fun v => (repOf v).isSome) = false ∧ repsOf v = none) := by
  cases ha : l.all fun v => (repOf v).isSome with
  | true =>
    refine .inl ⟨rfl, ?_⟩
    rcases hvl with rfl | ⟨u, rfl, rfl⟩
    · obtain ⟨r, hr⟩ := allSome_all (l.map repOf) (by rw [List.all_map]; exact ha)
      exact ⟨r, by rw [repsOf_list, if_pos h20, hr], allSome_map hr⟩
    · cases u with
      | nil => exact ⟨[], rfl, rfl⟩
      | cons o u => cases ha
  | false =>
    refine .inr ⟨rfl, ?_⟩
    rcases hvl with rfl | ⟨u, rfl, rfl⟩
    · cases hr : repsOf (.list l) with
      | none => rfl
      | some r =>
        exfalso
        rw [repsOf_list, if_pos h20] at hr
        have e := allSome_map hr
        have : (l.all fun v => (repOf v).isSome) = true := by
          have e2 : (l.map repOf).all (fun o => o.isSome) = true := by rw [e, List.all_map]; exact List.all_eq_true.mpr fun _ _ => rfl
          rw [List.all_map] at e2
          exact e2
        rw [ha] at this
        cases this
    · cases u with
      | nil => cases ha
      | cons o u => rfl
theorem reps_many {v : RWire.Value} {l : List RWire.Value} (hvl : v = .list l ∨ ∃ u, v = .octets u ∧ l = u.map fun o => .int (o.toNat : Int)) (h20 : ¬ l.length ≤ 20) : repsOf v = none := by
  rcases hvl with rfl | ⟨u, rfl, rfl⟩
  · exact if_neg h20
  · cases u with
    | nil => exact absurd (Nat.zero_le _) h20
    | cons o u => rfl
theorem len_app (a b : Str) : (a ++ b).length = a.length + b.length := Array.size_append
theorem checkR_ok {n : Nat} : ∀ {l : List RepT} {i : Nat} {p : Int}, checkR n i p l = none → ∀ e ∈ l, 0 ≤ e.1 ∧ e.1 ≤ e.2.1 ∧ e.2.1 ≤ (n : Int)
  | [], _, _, _, e, he => by cases he
  | a :: l, i, p, h, e, he => by
    rw [checkR] at h
    by_cases h1 : 0 ≤ a.1 ∧ a.1 ≤ a.2.1 ∧ a.2.1 ≤ (n : Int)
    · rw [if_pos h1] at h
      by_cases h2 : p ≤ a.1
      · rw [if_pos h2] at h
        rcases List.mem_cons.mp he with rfl | he
        · exact h1
        · exact checkR_ok h e he
      · rw [if_neg h2] at h
        cases h
    · rw [if_neg h1] at h
      cases h
theorem chg_none {n : Nat} {v : RWire.Value} (h : repsOf v = none) : chgOf n v = .error (1, msgR) := by
  unfold chgOf
  rw [h]
def sp_change_of : Ads → Sp := fun A vs H Q E => ∃ (a vl : Addr) (bs : List Addr) (d : MDoc) (x : V) (v : RWire.Value) (G : Hp), vs = [.ref a, x] ∧ DocAt A G H a vl bs d ∧ d.cur < d.vers.length ∧ d.now.text.length ≤ 600 ∧ Vl A G x v ∧ (∀ l, repsOf v = some l → insertedLength (l.map toRep) ≤ 100000) ∧
  match chgOf d.now.text.length v with
  | .error e => Ref A E H e.1 e.2
  | .ok c => ∀ p G' H', Grow Sno G H G' H' → Chg G' p c → Q (.ref p) H'
local macro_rules | `(tactic| walk_at "rd") => `(tactic| simp only [sp_is_replacement, sp_now, sp_need, sp_normalized, iEnum, tChain3, cxK, cxNK, cxNN, cxHK, tRet, tRetN, tChain, tC, tVar, rI0, rI, tOp, tUn, rU, tIf, tTest, tB, tNot, tAnd, tOr, tAndV, tOrV, tNotV, tCB, tCons, tNil, tNext, tSeq, tIfS, tDrop, tAsg, gName, tPar, tPar3, tAug, ipI, tCall, tCallS, E0, rEq, rNe, scal, rIxT, rIxL,  tTup, tLst, gTup, gCons, gNil, iTup, iList, iStr, iRng1, wipe, tSl, tPart, tNoPart, rIn,  tFld, sFld, sFldAug, tMeth, tMake, rAdd, tYes, tBM, rAppend, rExtend, rCat, rSetL, gSub,
  L2.start, List.map_cons, List.map_nil, List.length_cons, List.length_nil, Nat.reduceAdd, Nat.reduceSub, List.replicate_succ, List.replicate_zero, List.cons_append, List.nil_append, List.append_nil,
  List.getElem?_cons_zero, List.getElem?_cons_succ, List.set_cons_zero, List.set_cons_succ, Option.some.injEq, exists_eq_left, exists_eq_left', exists_eq_right, exists_eq_right', V.int.injEq, V.bl.injEq, V.str.injEq, V.ref.injEq, List.cons.injEq, true_and, and_true, and_assoc, exists_and_left, decide_eq_true_eq, Bool.false_eq_true, if_true, if_false, ite_true, ite_false, reduceIte, reduceCtorEq])

section
variable {P : Program} {w : World} {K : PySem.W.Frag} {mg : Str → Option Value} {base : Heap} {A : Ads}
abbrev s_change_of : Stmt := top 55
theorem sc_change_of : FnScope ["document", "value", "is_right", "size", "last", "at", "told", "words", "one"] ["document", "value"] (defScope s_change_of) := ⟨rfl, rfl, rfl, by decide +kernel, rfl, by decide +kernel, by decide +kernel⟩
theorem ok_change_of (T : Top K mg A) (F : TopF K A) (D : DefAt K mg "change_of" s_change_of ["document", "value"]) (C_is_replacement : Fn P w K mg base CX0 2 "is_replacement" ["value"] (sp_is_replacement A)) (M_now : Mt P w K mg base CX0 1 A.cO "now" ["self"] (sp_now A))
    (C_need : Fn P w K mg base (L2N.CX P w) 3 "need" ["is_right", "kind", "message"] (sp_need A)) (C_normalized : Fn P w K mg base CX0 1 "normalized" ["change"] sp_normalized) : Fn P w K mg base (L2N.CX P w) 4 "change_of" ["document", "value"] (sp_change_of A) := by
  refine D.okN sc_change_of (fun vs H Q E h => ?_) (fun f cdv Ar outer s H vs Q E hr h => ?_)
  · obtain ⟨a, vl, bs, d, x, v, G, rfl, _⟩ := h
    rfl
  · obtain ⟨a, vl, bs, d, x, v, G, rfl, h, hcur, h600, hv, hz, q⟩ := h
    have hG := h.s
    refine ⟨_, (pss_cons (ps_set (i := 2) sc_change_of.nd rfl (.inl rfl) (pe_and (pe_callB call_isi (by rfl) T.n_isinstance (by decide +kernel) (pa_cons (pv 1) (pa_cons (pe_bltn (v := .ty "list") (by rfl) T.n_list (by decide +kernel) rfl) pa_nil))) (pe_one (pe_cmpR op_le (pe_callB call_len_seq (by rfl) T.n_len PySem.boot_len (pa_cons (pv 1) pa_nil)) (C8.pe_gc (by rfl) T.g_MOST_REPLACEMENTS) (nomark _)))))
      (pss_cons (ps_set (i := 2) sc_change_of.nd rfl (.inl rfl) (pe_and (pv 2) (pe_one (pe_callB (cr_all rfl) (by rfl) T.n_all (by decide +kernel) (pa_cons (pe_lc (own := [("one", 8)]) (g := (gName 8)) rfl sc_change_of.nd (pi_list (pv 1)) (blkOk_by (N := ["document", "value", "is_right", "size", "last", "at", "told", "words", "one"]) (sc := defScope s_change_of) (by decide +kernel)) (fun _ _ _ _ _ => (pg_name (i := 8) sc_change_of.nd rfl (Or.inl rfl))) (fun _ _ _ _ _ => pts_nil) (fun _ _ _ _ _ => (pe_f C_is_replacement hr (by first | decide | omega) (pa_cons (pv 8) pa_nil)))) pa_nil)))))
      (pss_cons (ps_expr (pe_fS C_need hr (by first | decide | omega) (tk := L2N.takes_of rfl rfl rfl rfl) (pa_cons (pv 2) (pa_cons (C8.pe_gc (by rfl) T.g_WRONG_KIND) (pa_cons pe_str pa_nil)))))
      (pss_cons (ps_par (i := 3) (j := 4) (by rfl) sc_change_of.nd rfl rfl (by decide) rfl rfl (pa_cons (pe_callB call_len_seq (by rfl) T.n_len PySem.boot_len (pa_cons (pe_fld (pe_mt0f M_now hr (by first | decide | omega) (pv 0)) rfl) pa_nil)) (pa_cons pe_int pa_nil)) (by rfl))
      (pss_cons (ps_for PassesOwn.leaving rfl (pi_enum (by rfl) T.n_enumerate (pa_cons (pv 1) pa_nil)) (pg_tup (n := 2) rfl (pgs_cons (pg_name (i := 5) sc_change_of.nd rfl (Or.inl rfl)) (pgs_cons (pg_name (i := 6) sc_change_of.nd rfl (Or.inl rfl)) pgs_nil))) (pss_cons (ps_set (i := 7) sc_change_of.nd rfl (.inl rfl) (pe_op op_add_str pe_str (pe_callTy call_str_int (by rfl) T.n_str (by decide +kernel) (pa_cons (pe_op op_add (pv 5) pe_int) pa_nil))))
      (pss_cons (ps_expr (pe_fS C_need hr (by first | decide | omega) (tk := L2N.takes_of rfl rfl rfl rfl) (pa_cons (pe_chain3 op_le op_le op_le pe_int (pe_ix ix_list (pv 6) pe_int (fun _ _ => rfl)) (pe_ix ix_list (pv 6) pe_int (fun _ _ => rfl)) (pv 3)) (pa_cons (C8.pe_gc (by rfl) T.g_OUT_OF_RANGE) (pa_cons (pe_op op_add_str (pv 7) pe_str) pa_nil)))))
      (pss_cons (ps_expr (pe_fS C_need hr (by first | decide | omega) (tk := L2N.takes_of rfl rfl rfl rfl) (pa_cons (pe_cmpR op_ge (pe_ix ix_list (pv 6) pe_int (fun _ _ => rfl)) (pv 4) (nomark _)) (pa_cons (C8.pe_gc (by rfl) T.g_OUT_OF_RANGE) (pa_cons (pe_op op_add_str (pv 7) pe_str) pa_nil)))))
      (pss_one (ps_set (i := 4) sc_change_of.nd rfl (.inl rfl) (pe_ix ix_list (pv 6) pe_int (fun _ _ => rfl))))))))
      (pss_one (ps_ret (pe_f C_normalized hr (by first | decide | omega) (pa_cons (pe_lc (own := [("told", 6)]) (g := (gName 6)) rfl sc_change_of.nd (pi_list (pv 1)) (blkOk_by (N := ["document", "value", "is_right", "size", "last", "at", "told", "words", "one"]) (sc := defScope s_change_of) (by decide +kernel)) (fun _ _ _ _ _ => (pg_name (i := 6) sc_change_of.nd rfl (Or.inl rfl))) (fun _ _ _ _ _ => pts_nil) (fun _ _ _ _ _ => (pe_callTy (call_tupleK (K := K) rfl) (by rfl) T.n_tuple (by decide +kernel) (pa_cons (pv 6) pa_nil)))) pa_nil))))))))), ?_⟩
    walk_at "rd"
    refine rIsi_ty T hv hG (t := "list") (by decide) ?_
    refine ⟨_, rfl, ?_⟩
    rcases hv.isL with ⟨hl, b, xs, l, rfl, hb, hall, hvl⟩ | ⟨hl, n1, n2⟩
    · rw [hl, if_pos rfl]
      have hlen := hall.len
      refine ⟨b, rfl, xs, .inl (SqL.of (hG _ _ hb)), ?_⟩
      by_cases h20 : xs.length ≤ 20
      · rw [if_pos (by omega)]
        refine ⟨V.ref b, rfl, b, rfl, ⟨_, SqL.of (hG _ _ hb)⟩, fun D hD => ?_⟩
        have s20 : 21 ≤ sizeLine := by decide
        have sD : ∀ {o}, Same G (upd H D o) := fun {o} => ((Grow.refl (S := Sno) hG).tmp (o := o) hD).s
        refine lc_pure (walk_list (K := K) (a := b) (xs := xs)) (fun k => .bl ((l.map fun v => (repOf v).isSome).getD k false)) (by omega) (fun acc => SqL.of (sD _ _ hb)) (fun k y acc H' Qe hi ⟨e, hy⟩ qe => ?_) ?_
        · subst e
          obtain ⟨v9, hv9, hvy⟩ := hall.get hy
          refine ⟨rfl, ?_⟩
          walk_at "rd"
          refine ⟨v9, G, sD, hvy, ?_⟩
          have e : (l.map fun v => (repOf v).isSome).getD k false = (repOf v9).isSome := by rw [List.getD_eq_getElem?_getD, List.getElem?_map, hv9]; rfl
          rw [← e]
          exact qe
        · have eD : (List.range xs.length).map (fun k => V.bl ((l.map fun v => (repOf v).isSome).getD k false)) = (l.map fun v => (repOf v).isSome).map V.bl := by
            refine range_mapN (by rw [List.length_map, List.length_map, hlen]) fun k z hz => ?_
            rw [List.getElem?_map, List.getElem?_map] at hz
            cases hk : l[k]? with
            | none => rw [hk] at hz; cases hz
            | some v9 =>
              rw [hk] at hz
              rw [← Option.some.inj hz, List.getD_eq_getElem?_getD, List.getElem?_map, hk]
              rfl
          rw [eD]
          have g0 : Grow Sno G H G (upd H D (.lst ((l.map fun v => (repOf v).isSome).map V.bl))) := (Grow.refl hG).tmp hD
          refine ⟨D, _, rfl, SqL.of upd_same, _, rfl, ?_⟩
          generalize upd H D (.lst ((l.map fun v => (repOf v).isSome).map V.bl)) = H1 at g0 ⊢
          rw [List.all_map]
          rcases reps_all hvl (by omega) with ⟨hA, reps, hr, hmap⟩ | ⟨hA, hr⟩
          · refine ⟨fun _ => ?_, fun z => by rw [show (l.all (id ∘ fun v => (repOf v).isSome)) = (l.all fun v => (repOf v).isSome) from rfl, hA] at z; cases z⟩
            have h1 := h.grow g0
            obtain ⟨dx1, ha1⟩ := h1.ha
            refine ⟨_, _, ha1, df_no (by decide) (by decide) (by decide) (by decide), vl, bs, d, G, h1, hcur, fun b2 hb2 hv2 => ?_⟩
            obtain ⟨dx2, ta, tk, hv3, hv3n, htx, _⟩ := hv2
            refine ⟨_, _, _, hv3, T.clV, T.a_text, _, vf_text, ta, rfl, _, .inr (SqT.of (g0.s _ _ htx)), ?_⟩
            rw [U_len, show (l.all (id ∘ fun v => (repOf v).isSome)) = true from hA]
            have hrl : reps.length = xs.length := by
              have := congrArg List.length hmap
              rw [List.length_map, List.length_map] at this
              omega
            have hzr := hz _ hr
            have eq : chgOf d.now.text.length v = match checkR d.now.text.length 1 0 reps with | some z => .error (2, z) | none => .ok ((reps.map toRep).foldl nStep []) := by
              unfold chgOf
              rw [hr]
            rw [eq] at q
            generalize d.now.text.length = n at h600 q ⊢
            have elem : ∀ {k : Nat} {y : V}, xs[k]? = some y → ∃ e b9 t, reps[k]? = some e ∧ y = .ref b9 ∧ G b9 = some (.lst [.int e.1, .int e.2.1, .ref t]) ∧ G t = some (.tup (Oc e.2.2)) := fun {k y} hy => by
              obtain ⟨v9, hv9, hvy⟩ := hall.get hy
              have h9 : (l.map repOf)[k]? = some (repOf v9) := by rw [List.getElem?_map, hv9]; rfl
              rw [hmap, List.getElem?_map] at h9
              cases hk : reps[k]? with
              | none => rw [hk] at h9; cases h9
              | some e =>
                rw [hk] at h9
                obtain ⟨b9, t, z1, z2, z3⟩ := vl_rep hvy (Option.some.inj h9).symm
                exact ⟨e, b9, t, rfl, z1, z2, z3⟩
            refine ⟨V.ref b, rfl, b, xs, rfl, SqL.of (g0.s _ _ hb), for_it (walk_enum (K := K) (a := b) (xs := xs)) (fun i σ H' => ∃ (last : Int) (v5 v6 v7 : Option V) (G1 : Hp), σ = [some (.ref a), some (.ref b), some (.bl true), some (.int (n : Int)), some (.int last), v5, v6, v7, none] ∧ Grow Sno G H G1 H' ∧
              checkR n (i + 1) last (reps.drop i) = checkR n 1 0 reps) ⟨0, none, none, none, G, rfl, g0, rfl⟩ (fun i σ H' _ ⟨_, _, _, _, G1, _, g, _⟩ => SqL.of (g.s _ _ (g.g _ _ hb))) (fun i y σ H' H2 hi hPv hY => ?_) (fun σ H' hPv => ?_)⟩
            · obtain ⟨last, v5, v6, v7, G1, rfl, g, hck⟩ := hPv
              obtain ⟨T9, x9, y9, rfl, hT, rfl, ex, ey⟩ := hY
              have ex := Option.some.inj ex
              subst ex
              obtain ⟨e, b9, t9, he, rfl, hb9, ht9⟩ := elem ey
              have g1 := g.new (o := .tup [V.int (i : Int), .ref b9]) hT
              have hd9 : reps.drop i = e :: reps.drop (i + 1) := by
                obtain ⟨hj, z⟩ := List.getElem?_eq_some_iff.mp he
                rw [← z]
                exact List.drop_eq_getElem_cons hj
              rw [hd9, checkR] at hck
              have hil : i < 20 := by omega
              have hlog : ((i : Int) + 1).natAbs.log2 < 1920 := by
                have : ((i : Int) + 1).natAbs < 2 ^ 5 := by omega
                have := (Nat.log2_lt (by omega)).mpr this
                omega
              have hns : ∀ i, i < 20 → ("replacement " : Str).length + (Str.ofString (toString ((i : Nat) + 1 : Int))).length + 30 ≤ 100 := by decide +kernel
              have hns := hns i hil
              have s100 : 100 ≤ sizeLine := by decide
              have l1 : (" is out of range" : Str).length ≤ 30 := by decide
              have l2 : (" overlaps the previous one" : Str).length ≤ 30 := by decide
              have hb9' := SqL.of (K := K) (g1.s _ _ (g1.g _ _ hb9))
              refine ⟨T9, _, rfl, SqT.of upd_same, rfl, ?_⟩
              walk_at "rd"
              have e1 : ("replacement " : Str) ++ Str.ofString (toString ((i : Int) + 1)) = numS (i + 1) := rfl
              have hz1 : (numS (i + 1)).length ≤ 70 := by
                rw [← e1, len_app]
                omega
              rw [e1]
              refine ⟨hlog, by omega, _, hb9', .int e.1, rfl, e.1, rfl, ?_⟩
              have q1 : ¬ (0 ≤ e.1 ∧ e.1 ≤ e.2.1 ∧ e.2.1 ≤ (n : Int)) → Ref A E H 2 (numS (i + 1) ++ " is out of range") := fun h => by
                rw [if_neg h] at hck
                rw [← hck] at q
                exact q
              have q2 : (0 ≤ e.1 ∧ e.1 ≤ e.2.1 ∧ e.2.1 ≤ (n : Int)) → ¬ last ≤ e.1 → Ref A E H 2 (numS (i + 1) ++ " overlaps the previous one") := fun h h' => by
                rw [if_pos h, if_neg h'] at hck
                rw [← hck] at q
                exact q
              have q3 : (0 ≤ e.1 ∧ e.1 ≤ e.2.1 ∧ e.2.1 ≤ (n : Int)) → last ≤ e.1 → checkR n (i + 1 + 1) e.2.1 (reps.drop (i + 1)) = checkR n 1 0 reps := fun h h' => by
                rw [if_pos h, if_pos h'] at hck
                exact hck
              by_cases h1 : 0 ≤ e.1
              · rw [if_pos h1]
                refine ⟨_, hb9', .int e.2.1, rfl, e.1, rfl, e.2.1, rfl, ?_⟩
                by_cases h2 : e.1 ≤ e.2.1
                · rw [if_pos h2]
                  refine ⟨e.2.1, rfl, by omega, fun h3 => ?_, fun h3 => (q1 fun z => by rw [decide_eq_true z.2.2] at h3; cases h3).on g1.same⟩
                  refine ⟨_, hb9', .int e.1, rfl, e.1, rfl, by omega, fun h4 => ?_, fun h4 => (q2 ⟨h1, h2, h3⟩ fun z => by rw [decide_eq_true z] at h4; cases h4).on g1.same⟩
                  exact ⟨_, hb9', .int e.2.1, rfl, e.2.1, rfl, _, g1, q3 ⟨h1, h2, h3⟩ h4⟩
                · rw [if_neg h2]
                  exact ⟨by omega, fun z => z.elim, fun _ => (q1 fun z => h2 z.2.1).on g1.same⟩
              · rw [if_neg h1]
                exact ⟨by omega, fun z => z.elim, fun _ => (q1 fun z => h1 z.1).on g1.same⟩
            · obtain ⟨last, v5, v6, v7, G1, rfl, g, hck⟩ := hPv
              rw [← hrl, List.drop_length] at hck
              have hck : none = checkR n 1 0 reps := hck
              rw [← hck] at q
              have hok := checkR_ok hck.symm
              refine ⟨V.ref b, rfl, b, rfl, ⟨_, SqL.of (g.s _ _ (g.g _ _ hb))⟩, fun D2 hD2 => ?_⟩
              refine lc_it (walk_list (K := K) (a := b) (xs := xs)) (fun k H' => ∃ bs2 G2, Grow Sno G H G2 H' ∧ H' D2 = some (.lst (bs2.map V.ref)) ∧ G2 D2 = none ∧ Paired (RepAt G2) bs2 ((reps.map toRep).take k)) ⟨[], G1, g.tmp hD2, upd_same, g.s.free hD2, .nil⟩ (fun k H' _ ⟨_, G2, g2, _⟩ => SqL.of (g2.s _ _ (g2.g _ _ hb))) (fun k y H3 H4 hk ⟨bs2, G2, g2, hDD, hGD, hP⟩ ⟨e2, hy⟩ => ?_) (fun H3 ⟨bs2, G2, g2, hDD, hGD, hP⟩ => ?_)
              · subst e2
                obtain ⟨e, b9, t9, he, rfl, hb9, ht9⟩ := elem hy
                obtain ⟨o1, o2, o3⟩ := hok e (List.mem_of_getElem? he)
                have hbl := paired_len hP
                rw [List.length_take, List.length_map] at hbl
                have he2 : (reps.map toRep)[k]? = some (toRep e) := by rw [List.getElem?_map, he]; rfl
                rw [take_one he2]
                refine ⟨rfl, ?_⟩
                walk_at "rd"
                refine ⟨_, .inl ⟨SqL.of (g2.s _ _ (g2.g _ _ hb9)), fun l hl => ?_⟩⟩
                have g3 := g2.new (o := .tup [V.int e.1, .int e.2.1, .ref t9]) hl
                have i3 := (Grow.refl (S := Sno) g2.s).new (o := .tup [V.int e.1, .int e.2.1, .ref t9]) hl
                refine ⟨_, i3.same _ _ hDD, by rw [List.length_map]; omega, bs2 ++ [l], _, g3.put (i3.out hGD (some_ne hDD)) (.inr (g.back hD2)), by rw [upd_same, List.map_append]; rfl, i3.out hGD (some_ne hDD), ?_⟩
                refine paired_snoc ⟨t9, ?_, ?_⟩ (paired_mono (fun _ _ h => h.mono i3.g) hP)
                · rw [upd_same]
                  show _ = some (HO.tup [V.int ((e.1.toNat : Nat) : Int), V.int ((e.2.1.toNat : Nat) : Int), V.ref t9])
                  rw [show ((e.1.toNat : Nat) : Int) = e.1 by omega, show ((e.2.1.toNat : Nat) : Int) = e.2.1 by omega]
                · show _ = some (HO.tup (U (e.2.2.map Rust.unitOf)))
                  rw [U_unit]
                  exact i3.g _ _ (g2.g _ _ ht9)
              · rw [List.take_of_length_le (by rw [List.length_map, hrl]; exact Nat.le_refl _)] at hP
                have hb2 : H D2 = none := g.back hD2
                have gf := g2.fix hb2 hDD hGD
                refine ⟨D2, reps.map toRep, _, rfl, gf.s, ⟨bs2, upd_same, paired_mono (fun _ _ h => h.mono (same_new hGD)) hP⟩, by rw [List.length_map]; omega, hzr, fun p5 G5 H5 g5 hp5 hc5 => q p5 G5 H5 (gf.transN g5) hc5⟩
          · rw [chg_none hr] at q
            exact ⟨fun z => absurd (z.symm.trans hA) (by decide), fun _ => q.on g0.same⟩
      · rw [if_neg (by omega)]
        rw [chg_none (reps_many hvl (by omega))] at q
        exact ⟨fun z => z.elim, fun _ => q⟩
    · rw [hl, if_neg Bool.false_ne_true]
      have hr : repsOf v = none := by
        unfold repsOf
        split
        · rename_i l
          exact absurd rfl (n1 l)
        · exact absurd rfl (n2 [])
        · rfl
      rw [chg_none hr] at q
      exact ⟨fun z => z.elim, fun _ => q⟩
end
end Tk
end
section
set_option Elab.async false
set_option linter.all false
set_option maxRecDepth 100000
set_option maxHeartbeats 2000000
/-! The walk, part 14: desk.py: the desk in the heap. -/
namespace Tk
open PySem PySem.Spec PyProof.Rows L2
open R7253e.Spec (Token)
open Law (MDoc MVer Good mNew)
structure MDesk where
  docs : List (Option MDoc)
  walks : List (Option (List Token))
abbrev DocRef := Addr × Addr × List Addr
def foot (x : DocRef) : List Addr := x.1 :: x.2.1 :: x.2.2
def docV : Option DocRef → V
  | none => .non
  | some x => .ref x.1
def walkV : Option Addr → V
  | none => .non
  | some w => .ref w
def DocIs (A : Ads) (G H : Hp) : Option DocRef → Option MDoc → Prop
  | none, none => True
  | some x, some d => DocAt A G H x.1 x.2.1 x.2.2 d
  | _, _ => False
def WalkIs (A : Ads) (G H : Hp) : Option Addr → Option (List Token) → Prop
  | none, none => True
  | some w, some l => ∃ dx p, H w = some (.ins A.cW dx [("left", .ref p)]) ∧ G w = none ∧ Ls tokT G p l
  | _, _ => False
structure DeskAt (A : Ads) (G H : Hp) (own : Addr → Nat) (k dl wl : Addr) (ds : List (Option DocRef)) (ws : List (Option Addr)) (m : MDesk) : Prop where
  s : Same G H
  nk : G k = none
  nd : G dl = none
  nw : G wl = none
  hk : ∃ dx, H k = some (.ins A.cK dx [("documents", .ref dl), ("walks", .ref wl)])
  hd : H dl = some (.lst (ds.map docV))
  hw : H wl = some (.lst (ws.map walkV))
  ld : ds.length = 2 ∧ m.docs.length = 2
  lw : ws.length = 2 ∧ m.walks.length = 2
  docs : ∀ (i : Nat) o md, ds[i]? = some o → m.docs[i]? = some md → DocIs A G H o md
  walks : ∀ (i : Nat) o mw, ws[i]? = some o → m.walks[i]? = some mw → WalkIs A G H o mw
  ok : own k = 0
  od : own dl = 1
  ow : own wl = 2
  odoc : ∀ (i : Nat) x, ds[i]? = some (some x) → ∀ b ∈ foot x, own b = 3 + 2 * i
  owalk : ∀ (i : Nat) w, ws[i]? = some (some w) → own w = 4 + 2 * i
theorem DocAt.keep {A : Ads} {S : Addr → Prop} {G H G' H' : Hp} {a vl : Addr} {bs : List Addr} {d : MDoc} (h : DocAt A G H a vl bs d) (g : Grow S G H G' H') (n : ∀ b ∈ a :: vl :: bs, ¬ S b) : DocAt A G' H' a vl bs d := by
  obtain ⟨dx, ha⟩ := h.ha
  have hal := h.all
  refine ⟨g.s, g.out h.na (some_ne ha), g.out h.nl (some_ne h.hl), ⟨dx, g.keep (n _ (List.mem_cons_self ..)) ha⟩, g.keep (n _ (List.mem_cons_of_mem _ (List.mem_cons_self ..))) h.hl, ?_, h.nd⟩
  have go : ∀ {l : List Addr} {m : List MVer}, Paired (VerAt A G H) l m → (∀ b ∈ l, ¬ S b) → Paired (VerAt A G' H') l m := fun {l m} p => by
    induction p with
    | nil => exact fun _ => .nil
    | cons r t ih =>
      intro e
      obtain ⟨dx2, ta, tk, h1, h2, _⟩ := id r
      exact .cons (r.mono g.g (g.out h2 (some_ne h1)) ((g.keep (e _ (List.mem_cons_self ..)) h1).trans h1.symm)) (ih fun b hb => e b (List.mem_cons_of_mem _ hb))
  exact go h.hv fun b hb => n b (List.mem_cons_of_mem _ (List.mem_cons_of_mem _ hb))
section
variable {A : Ads} {S : Addr → Prop} {G H G' H' : Hp} {own : Addr → Nat} {k dl wl : Addr} {ds : List (Option DocRef)} {ws : List (Option Addr)} {m : MDesk} {t : Nat}
theorem DeskAt.doc_keep (h : DeskAt A G H own k dl wl ds ws m) (g : Grow S G H G' H') (hS : ∀ b, S b → own b = t) {i : Nat} {o : Option DocRef} {md : Option MDoc} (h1 : ds[i]? = some o) (h2 : m.docs[i]? = some md) (ht : 3 + 2 * i ≠ t) : DocIs A G' H' o md := by
  have hi := h.docs i o md h1 h2
  cases o with
  | none =>
    cases md with
    | none => exact True.intro
    | some d => exact hi.elim
  | some x =>
    cases md with
    | none => exact hi.elim
    | some d => exact DocAt.keep hi g fun b hb z => ht ((h.odoc i x h1 b hb).symm.trans (hS b z))
theorem DeskAt.walk_keep (h : DeskAt A G H own k dl wl ds ws m) (g : Grow S G H G' H') (hS : ∀ b, S b → own b = t) {i : Nat} {o : Option Addr} {mw : Option (List Token)} (h1 : ws[i]? = some o) (h2 : m.walks[i]? = some mw) (ht : 4 + 2 * i ≠ t) : WalkIs A G' H' o mw := by
  have hi := h.walks i o mw h1 h2
  cases o with
  | none =>
    cases mw with
    | none => exact True.intro
    | some d => exact hi.elim
  | some x =>
    cases mw with
    | none => exact hi.elim
    | some d =>
      obtain ⟨dx, p, z1, z2, z3⟩ := hi
      exact ⟨dx, p, g.keep (fun z => ht ((h.owalk i x h1).symm.trans (hS x z))) z1, g.out z2 (some_ne z1), z3.mono g.g⟩
theorem DeskAt.grow (h : DeskAt A G H own k dl wl ds ws m) (g : Grow Sno G H G' H') : DeskAt A G' H' own k dl wl ds ws m := by
  obtain ⟨dx, hk⟩ := h.hk
  exact ⟨g.s, g.out h.nk (some_ne hk), g.out h.nd (some_ne h.hd), g.out h.nw (some_ne h.hw), ⟨dx, g.same _ _ hk⟩, g.same _ _ h.hd, g.same _ _ h.hw, h.ld, h.lw, fun i o md h1 h2 => h.doc_keep (t := 0) g (fun b z => z.elim) h1 h2 (by omega),
    fun i o md h1 h2 => h.walk_keep (t := 0) g (fun b z => z.elim) h1 h2 (by omega), h.ok, h.od, h.ow, h.odoc, h.owalk⟩
/-- every address of the desk's -/
def Mine (k dl wl : Addr) (ds : List (Option DocRef)) (ws : List (Option Addr)) (b : Addr) : Prop := b = k ∨ b = dl ∨ b = wl ∨ (∃ (i : Nat) (x : DocRef), ds[i]? = some (some x) ∧ b ∈ foot x) ∨ ∃ i : Nat, ws[i]? = some (some b)
theorem DeskAt.mine_some (h : DeskAt A G H own k dl wl ds ws m) {b : Addr} (hb : Mine k dl wl ds ws b) : H b ≠ none := by
  rcases hb with rfl | rfl | rfl | ⟨i, x, h1, h2⟩ | ⟨i, h1⟩
  · obtain ⟨dx, hk⟩ := h.hk
    exact some_ne hk
  · exact some_ne h.hd
  · exact some_ne h.hw
  · have hi : i < m.docs.length := by
      have := (List.getElem?_eq_some_iff.mp h1).1
      have h1 := h.ld.1
      have h2 := h.ld.2
      omega
    have := h.docs i _ _ h1 (List.getElem?_eq_getElem hi)
    cases hm : m.docs[i] with
    | none => rw [hm] at this; exact this.elim
    | some d =>
      rw [hm] at this
      exact DocAt.all this b h2
  · have hi : i < m.walks.length := by
      have := (List.getElem?_eq_some_iff.mp h1).1
      have h1 := h.lw.1
      have h2 := h.lw.2
      omega
    have := h.walks i _ _ h1 (List.getElem?_eq_getElem hi)
    cases hm : m.walks[i] with
    | none => rw [hm] at this; exact this.elim
    | some d =>
      rw [hm] at this
      obtain ⟨dx, p, z1, _⟩ := this
      exact some_ne z1
theorem set_get {α : Type} {l : List α} {i j : Nat} {x y : α} (h : (l.set i x)[j]? = some y) : (i = j ∧ y = x) ∨ (i ≠ j ∧ l[j]? = some y) := by
  rw [List.getElem?_set] at h
  by_cases e : i = j
  · rw [if_pos e] at h
    split at h
    · exact .inl ⟨e, (Option.some.inj h).symm⟩
    · cases h
  · rw [if_neg e] at h
    exact .inr ⟨e, h⟩
/-- a document is changed -/
theorem DeskAt.doc_set (h : DeskAt A G H own k dl wl ds ws m) {i : Nat} {x : DocRef} {bs' : List Addr} {d' : MDoc} (hx : ds[i]? = some (some x)) (g : Grow (fun b => b ∈ foot x) G H G' H') (hd : DocAt A G' H' x.1 x.2.1 bs' d') (fresh : ∀ b ∈ bs', b ∈ x.2.2 ∨ H b = none) :
    ∃ own', DeskAt A G' H' own' k dl wl (ds.set i (some (x.1, x.2.1, bs'))) ws { m with docs := m.docs.set i (some d') } := by
  obtain ⟨dx, hk⟩ := h.hk
  have hS : ∀ b, b ∈ foot x → own b = 3 + 2 * i := fun b hb => h.odoc i x hx b hb
  have kp : ∀ {b o}, H b = some o → own b ≠ 3 + 2 * i → H' b = some o := fun {b o} e n => g.keep (fun z => n (hS b z)) e
  have ow : ∀ {b}, H b ≠ none → (if H b = none then 3 + 2 * i else own b) = own b := fun {b} n => if_neg n
  refine ⟨fun b => if H b = none then 3 + 2 * i else own b, g.s, g.out h.nk (some_ne hk), g.out h.nd (some_ne h.hd), g.out h.nw (some_ne h.hw), ⟨dx, kp hk (by rw [h.ok]; omega)⟩, ?_, kp h.hw (by rw [h.ow]; omega), ⟨by rw [List.length_set]; exact h.ld.1, by show (m.docs.set i _).length = 2; rw [List.length_set]; exact h.ld.2⟩, h.lw, fun j o md h1 h2 => ?_,
    fun j o mw h1 h2 => h.walk_keep (t := 3 + 2 * i) g hS h1 h2 (by omega), (ow (some_ne hk)).trans h.ok, (ow (some_ne h.hd)).trans h.od, (ow (some_ne h.hw)).trans h.ow, fun j y hy b hb => ?_, fun j w hw => ?_⟩
  · rw [kp h.hd (by rw [h.od]; omega)]
    have e : (ds.set i (some (x.1, x.2.1, bs'))).map docV = ds.map docV := by
      rw [List.map_set]
      have : (ds.map docV)[i]? = some (docV (some (x.1, x.2.1, bs'))) := by rw [List.getElem?_map, hx]; rfl
      obtain ⟨hi, z⟩ := List.getElem?_eq_some_iff.mp this
      rw [← z, List.set_getElem_self]
    rw [e]
  · rcases set_get h1 with ⟨rfl, rfl⟩ | ⟨n1, h1⟩
    · rcases set_get h2 with ⟨_, rfl⟩ | ⟨n2, _⟩
      · exact hd
      · exact absurd rfl n2
    · rcases set_get h2 with ⟨e, _⟩ | ⟨_, h2⟩
      · exact absurd e n1
      · exact h.doc_keep (t := 3 + 2 * i) g hS h1 h2 (by omega)
  · rcases set_get hy with ⟨rfl, e⟩ | ⟨n1, hy⟩
    · have e := Option.some.inj e
      subst e
      have old : ∀ b ∈ foot x, (if H b = none then 3 + 2 * i else own b) = 3 + 2 * i := fun b hb => by
        split
        · rfl
        · exact hS b hb
      rcases List.mem_cons.mp hb with rfl | hb
      · exact old _ (List.mem_cons_self ..)
      rcases List.mem_cons.mp hb with rfl | hb
      · exact old _ (List.mem_cons_of_mem _ (List.mem_cons_self ..))
      rcases fresh b hb with z | z
      · exact old _ (List.mem_cons_of_mem _ (List.mem_cons_of_mem _ z))
      · exact if_pos z
    · rw [ow (h.mine_some (.inr (.inr (.inr (.inl ⟨j, y, hy, hb⟩)))))]
      exact h.odoc j y hy b hb
  · rw [ow (h.mine_some (.inr (.inr (.inr (.inr ⟨j, hw⟩)))))]
    exact h.owalk j w hw
/-- a new document -/
theorem DeskAt.doc_new (h : DeskAt A G H own k dl wl ds ws m) {i : Nat} {x vl : Addr} {bs : List Addr} {d : MDoc} (g : Grow Sno G H G' H') (hd : DocAt A G' H' x vl bs d) (fresh : ∀ b ∈ x :: vl :: bs, H b = none) :
    ∃ own', Grow (· = dl) G H G' (upd H' dl (.lst ((ds.map docV).set i (.ref x)))) ∧ DeskAt A G' (upd H' dl (.lst ((ds.map docV).set i (.ref x)))) own' k dl wl (ds.set i (some (x, vl, bs))) ws { m with docs := m.docs.set i (some d) } := by
  obtain ⟨dx, hk⟩ := h.hk
  have h1 := h.grow g
  have gp : Grow (· = dl) G H G' (upd H' dl (.lst ((ds.map docV).set i (.ref x)))) := g.wide.put h1.nd (.inl rfl)
  have g1 : Grow (· = dl) G' H' G' (upd H' dl (.lst ((ds.map docV).set i (.ref x)))) := (Grow.refl h1.s).put h1.nd (.inl rfl)
  have hS : ∀ b, b = dl → own b = 1 := fun b hb => by rw [hb]; exact h.od
  have ow : ∀ {b}, H b ≠ none → (if H b = none then 3 + 2 * i else own b) = own b := fun {b} n => if_neg n
  have ne : ∀ {b : Addr}, H b = none → b ≠ dl := fun {b} z e => by rw [e, h.hd] at z; cases z
  have hkd : k ≠ dl := fun e => by have := h.ok; rw [e, h.od] at this; cases this
  have hwd : wl ≠ dl := fun e => by have := h.ow; rw [e, h.od] at this; cases this
  obtain ⟨dx1, hk1⟩ := h1.hk
  refine ⟨fun b => if H b = none then 3 + 2 * i else own b, gp, gp.s, h1.nk, h1.nd, h1.nw, ⟨dx1, by rw [upd_ne hkd]; exact hk1⟩, by rw [upd_same, List.map_set]; rfl, by rw [upd_ne hwd]; exact h1.hw, ⟨by rw [List.length_set]; exact h.ld.1, by show (m.docs.set i _).length = 2; rw [List.length_set]; exact h.ld.2⟩, h.lw, fun j o md z1 z2 => ?_,
    fun j o mw z1 z2 => h1.walk_keep (t := 1) g1 hS z1 z2 (by omega), (ow (some_ne hk)).trans h.ok, (ow (some_ne h.hd)).trans h.od, (ow (some_ne h.hw)).trans h.ow, fun j y hy b hb => ?_, fun j w hw => ?_⟩
  · rcases set_get z1 with ⟨rfl, rfl⟩ | ⟨n1, z1⟩
    · rcases set_get z2 with ⟨_, rfl⟩ | ⟨n2, _⟩
      · exact hd.keep g1 fun b hb => ne (fresh b hb)
      · exact absurd rfl n2
    · rcases set_get z2 with ⟨e, _⟩ | ⟨_, z2⟩
      · exact absurd e n1
      · exact h1.doc_keep (t := 1) g1 hS z1 z2 (by omega)
  · rcases set_get hy with ⟨rfl, e⟩ | ⟨n1, hy⟩
    · have e := Option.some.inj e
      subst e
      exact if_pos (fresh b hb)
    · rw [ow (h.mine_some (.inr (.inr (.inr (.inl ⟨j, y, hy, hb⟩)))))]
      exact h.odoc j y hy b hb
  · rw [ow (h.mine_some (.inr (.inr (.inr (.inr ⟨j, hw⟩)))))]
    exact h.owalk j w hw
/-- a new walk -/
theorem DeskAt.walk_new (h : DeskAt A G H own k dl wl ds ws m) {i : Nat} {x dw p : Addr} {l : List Token} (g : Grow Sno G H G' H') (hx : H' x = some (.ins A.cW dw [("left", .ref p)])) (hG : G' x = none) (hl : Ls tokT G' p l) (fresh : H x = none) :
    ∃ own', Grow (· = wl) G H G' (upd H' wl (.lst ((ws.map walkV).set i (.ref x)))) ∧ DeskAt A G' (upd H' wl (.lst ((ws.map walkV).set i (.ref x)))) own' k dl wl ds (ws.set i (some x)) { m with walks := m.walks.set i (some l) } := by
  obtain ⟨dx, hk⟩ := h.hk
  have h1 := h.grow g
  have gp : Grow (· = wl) G H G' (upd H' wl (.lst ((ws.map walkV).set i (.ref x)))) := g.wide.put h1.nw (.inl rfl)
  have g1 : Grow (· = wl) G' H' G' (upd H' wl (.lst ((ws.map walkV).set i (.ref x)))) := (Grow.refl h1.s).put h1.nw (.inl rfl)
  have hS : ∀ b, b = wl → own b = 2 := fun b hb => by rw [hb]; exact h.ow
  have ow : ∀ {b}, H b ≠ none → (if H b = none then 4 + 2 * i else own b) = own b := fun {b} n => if_neg n
  have hkd : k ≠ wl := fun e => by have := h.ok; rw [e, h.ow] at this; cases this
  have hwd : dl ≠ wl := fun e => by have := h.od; rw [e, h.ow] at this; cases this
  have hxw : x ≠ wl := fun e => by rw [e, h.hw] at fresh; cases fresh
  obtain ⟨dx1, hk1⟩ := h1.hk
  refine ⟨fun b => if H b = none then 4 + 2 * i else own b, gp, gp.s, h1.nk, h1.nd, h1.nw, ⟨dx1, by rw [upd_ne hkd]; exact hk1⟩, by rw [upd_ne hwd]; exact h1.hd, by rw [upd_same, List.map_set]; rfl, h.ld, ⟨by rw [List.length_set]; exact h.lw.1, by show (m.walks.set i _).length = 2; rw [List.length_set]; exact h.lw.2⟩,
    fun j o md z1 z2 => h1.doc_keep (t := 2) g1 hS z1 z2 (by omega), fun j o mw z1 z2 => ?_, (ow (some_ne hk)).trans h.ok, (ow (some_ne h.hd)).trans h.od, (ow (some_ne h.hw)).trans h.ow, fun j y hy b hb => ?_, fun j w hw => ?_⟩
  · rcases set_get z1 with ⟨rfl, rfl⟩ | ⟨n1, z1⟩
    · rcases set_get z2 with ⟨_, rfl⟩ | ⟨n2, _⟩
      · exact ⟨dw, p, by rw [upd_ne hxw]; exact hx, hG, hl⟩
      · exact absurd rfl n2
    · rcases set_get z2 with ⟨e, _⟩ | ⟨_, z2⟩
      · exact absurd e n1
      · exact h1.walk_keep (t := 2) g1 hS z1 z2 (by omega)
  · rw [ow (h.mine_some (.inr (.inr (.inr (.inl ⟨j, y, hy, hb⟩)))))]
    exact h.odoc j y hy b hb
  · rcases set_get hw with ⟨rfl, e⟩ | ⟨n1, hw⟩
    · have e := Option.some.inj e
      subst e
      exact if_pos fresh
    · rw [ow (h.mine_some (.inr (.inr (.inr (.inr ⟨j, hw⟩)))))]
      exact h.owalk j w hw
/-- a walk goes on -/
theorem DeskAt.walk_set (h : DeskAt A G H own k dl wl ds ws m) {i : Nat} {x dw p : Addr} {l : List Token} (hx : ws[i]? = some (some x)) (hs : Same G (upd H x (.ins A.cW dw [("left", .ref p)]))) (hG : G x = none) (hl : Ls tokT G p l) :
    DeskAt A G (upd H x (.ins A.cW dw [("left", .ref p)])) own k dl wl ds ws { m with walks := m.walks.set i (some l) } := by
  obtain ⟨dx, hk⟩ := h.hk
  have ho := h.owalk i x hx
  have g1 : Grow (· = x) G H G (upd H x (.ins A.cW dw [("left", .ref p)])) := (Grow.refl h.s).put hG (.inl rfl)
  have hS : ∀ b, b = x → own b = 4 + 2 * i := fun b hb => by rw [hb]; exact ho
  have n1 : k ≠ x := fun e => by have := h.ok; rw [e, ho] at this; omega
  have n2 : dl ≠ x := fun e => by have := h.od; rw [e, ho] at this; omega
  have n3 : wl ≠ x := fun e => by have := h.ow; rw [e, ho] at this; omega
  refine ⟨hs, h.nk, h.nd, h.nw, ⟨dx, by rw [upd_ne n1]; exact hk⟩, by rw [upd_ne n2]; exact h.hd, by rw [upd_ne n3]; exact h.hw, h.ld, ⟨h.lw.1, by show (m.walks.set i _).length = 2; rw [List.length_set]; exact h.lw.2⟩, fun j o md z1 z2 => h.doc_keep (t := 4 + 2 * i) g1 hS z1 z2 (by omega), fun j o mw z1 z2 => ?_, h.ok, h.od, h.ow, h.odoc, h.owalk⟩
  rcases set_get z2 with ⟨rfl, rfl⟩ | ⟨n2, z2⟩
  · rw [hx] at z1
    have z1 := Option.some.inj z1
    subst z1
    exact ⟨dw, p, upd_same, hG, hl⟩
  · exact h.walk_keep (t := 4 + 2 * i) g1 hS z1 z2 (by omega)
end
end Tk
end
section
set_option Elab.async false
set_option linter.all false
set_option maxRecDepth 100000
set_option maxHeartbeats 2000000
/-! The walk, part 15: desk.py: what the doors do. -/
namespace Tk
open PySem PySem.Spec PyProof.Rows L2
open RWire (Octets)
open R7253e.Spec (Token Change changedText insertedLength nestingOk scan)
open Law (MDoc MVer Good mNew mEdit mGo)
abbrev Refused := Int × Str
def newOf : RWire.Value → Except Refused Units
  | .text u => if u.length ≤ 600 then (if nestingOk (scan (u.map Rust.unitOf)) = true then .ok (u.map Rust.unitOf) else .error (2, "nesting deeper than 12")) else .error (1, "text must be a text of at most 600 octets")
  | _ => .error (1, "text must be a text of at most 600 octets")
def editTo (d : MDoc) (c : Change) : Except Refused MDoc :=
  if c = [] then .ok d else if (changedText c d.now.text).length ≤ 600 then (if d.vers.length < 100 then (if d.added + insertedLength c ≤ 5000 then (if nestingOk (scan (changedText c d.now.text)) = true then .ok (mEdit d c (changedText c d.now.text))
    else .error (2, "nesting deeper than 12")) else .error (2, "more than 5000 octets added")) else .error (2, "document has 100 versions")) else .error (2, "text would be longer than 600 octets")
def editOf (d : MDoc) (v : RWire.Value) : Except Refused MDoc := match chgOf d.now.text.length v with
  | .error e => .error e
  | .ok c => editTo d c
def tokIn (l : List Token) (v : RWire.Value) : RWire.Value := match v with
  | .int i => (match l.find? fun t => decide ((t.id : Int) = i) with | some t => tokV t | none => .null)
  | _ => .null
theorem tokIn_cons (o : Token) (l : List Token) (j : Int) : tokIn (o :: l) (.int j) = if (o.id : Int) = j then tokV o else tokIn l (.int j) := by
  show (match (o :: l).find? fun t => decide ((t.id : Int) = j) with | some t => tokV t | none => .null) = _
  rw [List.find?_cons]
  by_cases h : (o.id : Int) = j
  · rw [if_pos h, decide_eq_true h]
  · rw [if_neg h, decide_eq_false h]
    rfl
theorem tokIn_no {l : List Token} {v : RWire.Value} (h : ∀ i, v ≠ .int i) : tokIn l v = .null := by
  unfold tokIn
  split
  · exact absurd rfl (h _)
  · rfl
def tokOf (d : MDoc) (v : RWire.Value) : RWire.Value := tokIn d.now.toks v
def versOf (door : Nat) (d : MDoc) (v : RWire.Value) : Except Refused MDoc :=
  if door = 4 then (if 0 < d.cur then .ok (mGo d.now.par.toNat d) else .error (2, "nothing to undo"))
  else if door = 5 then (if 0 ≤ d.now.redo then .ok (mGo d.now.redo.toNat d) else .error (2, "nothing to redo"))
  else match v with
    | .int i => if 0 ≤ i ∧ i < (d.vers.length : Int) then .ok (mGo i.toNat d) else .error (2, "unknown version")
    | _ => .error (2, "unknown version")
/-- the desk afterwards -/
def Step (A : Ads) (G H : Hp) (k dl wl : Addr) (ds : List (Option DocRef)) (ws : List (Option Addr)) (m' : MDesk) (G' H' : Hp) : Prop :=
  ∃ own' ds' ws', Grow (Mine k dl wl ds ws) G H G' H' ∧ DeskAt A G' H' own' k dl wl ds' ws' m' ∧ ∀ b, Mine k dl wl ds' ws' b → Mine k dl wl ds ws b ∨ H b = none
theorem nones {α : Type} {i : Nat} {o : Option α} (h : ([none, none] : List (Option α))[i]? = some o) : o = none := by
  match i, h with
  | 0, h => exact (Option.some.inj h).symm
  | 1, h => exact (Option.some.inj h).symm
theorem Grow.wider {S S' : Addr → Prop} {G H G' H' : Hp} (g : Grow S G H G' H') (hs : ∀ b, S b → S' b) : Grow S' G H G' H' := ⟨g.g, fun b o e n => g.h b o e fun z => n (hs b z), g.s, g.n, g.l⟩
theorem Step.more {A : Ads} {G H G1 H1 G' H' : Hp} {k dl wl : Addr} {ds : List (Option DocRef)} {ws : List (Option Addr)} {m' : MDesk} (h : Step A G1 H1 k dl wl ds ws m' G' H') (e : Grow Sno G H G1 H1) : Step A G H k dl wl ds ws m' G' H' := by
  obtain ⟨own', ds', ws', g, h1, h2⟩ := h
  exact ⟨own', ds', ws', (e.wide (S := Mine k dl wl ds ws)).trans g fun b z => .inl z, h1, fun b hb => (h2 b hb).imp id fun z => e.back z⟩
theorem Step.then {A : Ads} {G H G1 H1 G' H' : Hp} {k dl wl : Addr} {ds : List (Option DocRef)} {ws : List (Option Addr)} {m' : MDesk} (h : Step A G H k dl wl ds ws m' G1 H1) (e : Grow Sno G1 H1 G' H') : Step A G H k dl wl ds ws m' G' H' := by
  obtain ⟨own', ds', ws', g, h1, h2⟩ := h
  exact ⟨own', ds', ws', g.transN e, h1.grow e, h2⟩
theorem DeskAt.step_new {A : Ads} {G H G' H' : Hp} {own : Addr → Nat} {k dl wl : Addr} {ds : List (Option DocRef)} {ws : List (Option Addr)} {m : MDesk} (h : DeskAt A G H own k dl wl ds ws m) {i : Nat} {x vl : Addr} {bs : List Addr} {d : MDoc} (g : Grow Sno G H G' H') (hd : DocAt A G' H' x vl bs d) (fresh : ∀ b ∈ x :: vl :: bs, H b = none) :
    Step A G H k dl wl ds ws { m with docs := m.docs.set i (some d) } G' (upd H' dl (.lst ((ds.map docV).set i (.ref x)))) := by
  obtain ⟨own', z1, z2⟩ := h.doc_new (i := i) g hd fresh
  refine ⟨own', _, ws, z1.wider fun b hb => .inr (.inl hb), z2, fun b hb => ?_⟩
  rcases hb with z | z | z | ⟨j, y, hy, hb⟩ | z
  · exact .inl (.inl z)
  · exact .inl (.inr (.inl z))
  · exact .inl (.inr (.inr (.inl z)))
  · rcases set_get hy with ⟨_, e⟩ | ⟨_, hy⟩
    · have e := Option.some.inj e
      subst e
      exact .inr (fresh b hb)
    · exact .inl (.inr (.inr (.inr (.inl ⟨j, y, hy, hb⟩))))
  · exact .inl (.inr (.inr (.inr (.inr z))))
theorem DeskAt.step_doc {A : Ads} {G H G' H' : Hp} {own : Addr → Nat} {k dl wl : Addr} {ds : List (Option DocRef)} {ws : List (Option Addr)} {m : MDesk} (h : DeskAt A G H own k dl wl ds ws m) {i : Nat} {x : DocRef} {bs' : List Addr} {d' : MDoc} (hx : ds[i]? = some (some x)) (g : Grow (fun b => b ∈ foot x) G H G' H') (hd : DocAt A G' H' x.1 x.2.1 bs' d')
    (fresh : ∀ b ∈ bs', b ∈ x.2.2 ∨ H b = none) : Step A G H k dl wl ds ws { m with docs := m.docs.set i (some d') } G' H' := by
  obtain ⟨own', z⟩ := h.doc_set hx g hd fresh
  have old : ∀ b ∈ foot x, Mine k dl wl ds ws b := fun b hb => .inr (.inr (.inr (.inl ⟨i, x, hx, hb⟩)))
  refine ⟨own', _, ws, g.wider old, z, fun b hb => ?_⟩
  rcases hb with z | z | z | ⟨j, y, hy, hb⟩ | z
  · exact .inl (.inl z)
  · exact .inl (.inr (.inl z))
  · exact .inl (.inr (.inr (.inl z)))
  · rcases set_get hy with ⟨_, e⟩ | ⟨_, hy⟩
    · have e := Option.some.inj e
      subst e
      rcases List.mem_cons.mp hb with rfl | hb
      · exact .inl (old _ (List.mem_cons_self ..))
      rcases List.mem_cons.mp hb with rfl | hb
      · exact .inl (old _ (List.mem_cons_of_mem _ (List.mem_cons_self ..)))
      rcases fresh b hb with z | z
      · exact .inl (old _ (List.mem_cons_of_mem _ (List.mem_cons_of_mem _ z)))
      · exact .inr z
    · exact .inl (.inr (.inr (.inr (.inl ⟨j, y, hy, hb⟩))))
  · exact .inl (.inr (.inr (.inr (.inr z))))
theorem DeskAt.step_walk {A : Ads} {G H G' H' : Hp} {own : Addr → Nat} {k dl wl : Addr} {ds : List (Option DocRef)} {ws : List (Option Addr)} {m : MDesk} (h : DeskAt A G H own k dl wl ds ws m) {i : Nat} {x dw p : Addr} {l : List Token} (g : Grow Sno G H G' H') (hx : H' x = some (.ins A.cW dw [("left", .ref p)])) (hG : G' x = none) (hl : Ls tokT G' p l) (fresh : H x = none) :
    Step A G H k dl wl ds ws { m with walks := m.walks.set i (some l) } G' (upd H' wl (.lst ((ws.map walkV).set i (.ref x)))) := by
  obtain ⟨own', z1, z2⟩ := h.walk_new (i := i) g hx hG hl fresh
  refine ⟨own', ds, _, z1.wider fun b hb => .inr (.inr (.inl hb)), z2, fun b hb => ?_⟩
  rcases hb with z | z | z | z | ⟨j, hw⟩
  · exact .inl (.inl z)
  · exact .inl (.inr (.inl z))
  · exact .inl (.inr (.inr (.inl z)))
  · exact .inl (.inr (.inr (.inr (.inl z))))
  · rcases set_get hw with ⟨_, e⟩ | ⟨_, hw⟩
    · have e := Option.some.inj e
      subst e
      exact .inr fresh
    · exact .inl (.inr (.inr (.inr (.inr ⟨j, hw⟩))))
theorem DeskAt.step_left {A : Ads} {G H : Hp} {own : Addr → Nat} {k dl wl : Addr} {ds : List (Option DocRef)} {ws : List (Option Addr)} {m : MDesk} (h : DeskAt A G H own k dl wl ds ws m) {i : Nat} {x dw p : Addr} {l : List Token} (hx : ws[i]? = some (some x)) (hG : G x = none) (hl : Ls tokT G p l) :
    Step A G H k dl wl ds ws { m with walks := m.walks.set i (some l) } G (upd H x (.ins A.cW dw [("left", .ref p)])) := by
  have g : Grow (Mine k dl wl ds ws) G H G (upd H x (.ins A.cW dw [("left", .ref p)])) := (Grow.refl h.s).put hG (.inl (.inr (.inr (.inr (.inr ⟨i, hx⟩)))))
  exact ⟨own, ds, ws, g, h.walk_set hx g.s hG hl, fun b hb => .inl hb⟩
def sp_Walk : Ads → Sp := fun A => spFields A.cW (fun vs => match vs with | [m] => [("left", m)] | _ => []) 1
def sp_Desk : Ads → Sp := fun A vs H Q _ => ∃ (x dx : Addr) (H0 : Hp), vs = [.ref x] ∧ H = insN H0 A.cK x dx [] ∧ H0 x = none ∧ H0 dx = none ∧ dx ≠ x ∧ ∃ G, Same G H0 ∧
  ∀ H' own dl wl, Grow Sno G H0 G H' → H0 dl = none → H0 wl = none → DeskAt A G H' own x dl wl [none, none] [none, none] ⟨[none, none], [none, none]⟩ → Q .non H'
def sp_document_new : Ads → Sp := fun A vs H Q E => ∃ (k : Addr) (s : Nat) (x : V) (v : RWire.Value) (G : Hp) (own : Addr → Nat) (dl wl : Addr) (ds : List (Option DocRef)) (ws : List (Option Addr)) (m : MDesk), vs = [.ref k, .int s, x] ∧ DeskAt A G H own k dl wl ds ws m ∧ s < 2 ∧ Vl A G x v ∧
  match newOf v with
  | .error e => Ref A E H e.1 e.2
  | .ok u => ∀ y G' H', Step A G H k dl wl ds ws { m with docs := m.docs.set s (some (mNew u)) } G' H' → Vl A G' (.ref y) .nothing → Q (.ref y) H'
local macro_rules | `(tactic| walk_at "rd") => `(tactic| simp only [sp_Desk, sp_document_new, sp_need, sp_is_too_deep, cxK, cxNK, cxNN, cxHK, tRet, tRetN, tChain, tC, tVar, rI0, rI, tOp, tUn, rU, tIf, tTest, tB, tNot, tAnd, tOr, tAndV, tOrV, tNotV, tCB, tCons, tNil, tNext, tSeq, tIfS, tDrop, tAsg, gName, tPar, tPar3, tAug, ipI, tCall, tCallS, E0, rEq, rNe, scal, rIxT, rIxL,  tTup, tLst, gTup, gCons, gNil, iTup, iList, iStr, iRng1, wipe, tSl, tPart, tNoPart, rIn,  tFld, sFld, sFldAug, tMeth, tMake, rAdd, tYes, tBM, rAppend, rExtend, rCat, rSetL, gSub,
  L2.start, List.map_cons, List.map_nil, List.length_cons, List.length_nil, Nat.reduceAdd, Nat.reduceSub, List.replicate_succ, List.replicate_zero, List.cons_append, List.nil_append, List.append_nil,
  List.getElem?_cons_zero, List.getElem?_cons_succ, List.set_cons_zero, List.set_cons_succ, Option.some.injEq, exists_eq_left, exists_eq_left', exists_eq_right, exists_eq_right', V.int.injEq, V.bl.injEq, V.str.injEq, V.ref.injEq, List.cons.injEq, true_and, and_true, and_assoc, exists_and_left, decide_eq_true_eq, Bool.false_eq_true, if_true, if_false, ite_true, ite_false, reduceIte, reduceCtorEq])

section
variable {P : Program} {w : World} {K : PySem.W.Frag} {mg : Str → Option Value} {base : Heap} {A : Ads}
abbrev s_Walk_init : Stmt := inClass (top 49) 0
theorem sc_Walk_init : FnScope ["self", "tokens"] ["self", "tokens"] (defScope s_Walk_init) := ⟨rfl, rfl, rfl, by decide +kernel, rfl, by decide +kernel, by decide +kernel⟩
theorem ok_Walk (T : Top K mg A) (D : ClAt K mg A.cW "Walk" "Walk.__init__" s_Walk_init ["self", "tokens"]) : Cl P w K mg base CX0 1 A.cW "Walk" ["self", "tokens"] (sp_Walk A) := by
  refine D.ok sc_Walk_init (fun vs H Q E h => ?_) (fun f cdv Ar outer s H vs Q E hr h => ?_)
  · obtain ⟨x, dx, args, H0, rfl, h, _⟩ := h
    rw [List.length_cons, h]
    rfl
  · obtain ⟨x, dx, args, H0, rfl, h, rfl, q⟩ := h
    obtain ⟨m, rfl⟩ : ∃ m, args = [m] := by
      match args, h with
      | [m], _ => exact ⟨m, rfl⟩
    refine ⟨_, (pss_one (ps_fld (pv 0) (pv 1) rfl)), ?_⟩
    walk_at "rd"
    refine ⟨_, dx, [], insN_at, T.clW, T.a_left, by decide, ?_⟩
    rw [insN_set]
    exact q
abbrev s_Desk_init : Stmt := inClass (top 50) 0
theorem sc_Desk_init : FnScope ["self"] ["self"] (defScope s_Desk_init) := ⟨rfl, rfl, rfl, by decide +kernel, rfl, by decide +kernel, by decide +kernel⟩
theorem ok_Desk (T : Top K mg A) (D : ClAt K mg A.cK "Desk" "Desk.__init__" s_Desk_init ["self"]) : Cl P w K mg base CX0 1 A.cK "Desk" ["self"] (sp_Desk A) := by
  refine D.ok sc_Desk_init (fun vs H Q E h => ?_) (fun f cdv Ar outer s H vs Q E hr h => ?_)
  · obtain ⟨x, dx, H0, rfl, _⟩ := h
    rfl
  · obtain ⟨x, dx, H0, rfl, rfl, hx, hdx, nx, G, hG, q⟩ := h
    refine ⟨_, (pss_cons (ps_fld (pv 0) (pe_lst (pa_cons pe_non (pa_cons pe_non pa_nil))) rfl)
      (pss_one (ps_fld (pv 0) (pe_lst (pa_cons pe_non (pa_cons pe_non pa_nil))) rfl))), ?_⟩
    walk_at "rd"
    have gx : Grow Sno G H0 G (insN H0 A.cK x dx []) := (Grow.refl hG).insTmp hx hdx nx
    refine ⟨by decide, fun dl hdl => ?_⟩
    have g1 := gx.tmp (o := .lst [.non, .non]) hdl
    have n1 : x ≠ dl := ne_of_none insN_at hdl
    have hx1 : upd (insN H0 A.cK x dx []) dl (.lst [.non, .non]) x = some (.ins A.cK dx []) := by rw [upd_ne n1]; exact insN_at
    have hd1 : upd (insN H0 A.cK x dx []) dl (.lst [.non, .non]) dl = some (.lst [.non, .non]) := upd_same
    generalize upd (insN H0 A.cK x dx []) dl (.lst [.non, .non]) = H1 at g1 hx1 hd1 ⊢
    have hGx : G x = none := hG.free hx
    have g2 := g1.put (o := .ins A.cK dx [("documents", .ref dl)]) hGx (.inr hx)
    refine ⟨_, dx, [], hx1, T.clK, T.a_documents, by decide, by decide, fun wl hwl => ?_⟩
    have hwl' : upd H1 x (.ins A.cK dx [("documents", .ref dl)]) wl = none := hwl
    have n2 : wl ≠ x := fun e => by rw [e, upd_same] at hwl'; cases hwl'
    have n3 : wl ≠ dl := fun e => by rw [e, upd_ne n1.symm, hd1] at hwl'; cases hwl'
    have g3 := g2.tmp (o := .lst [.non, .non]) hwl'
    have g4 := g3.put (o := .ins A.cK dx [("documents", .ref dl), ("walks", .ref wl)]) hGx (.inr hx)
    refine ⟨_, dx, [("documents", .ref dl)], by rw [upd_ne n2.symm]; exact upd_same, T.clK, T.a_walks, (by decide : 1 < 1000), ?_⟩
    refine q _ (fun b => if b = x then 0 else if b = dl then 1 else 2) dl wl g4 (gx.back hdl) (g2.back hwl') ⟨g4.s, hGx, hG.free (gx.back hdl), hG.free (g2.back hwl'), ⟨dx, upd_same⟩, ?_, ?_, ⟨rfl, rfl⟩, ⟨rfl, rfl⟩, ?_, ?_, if_pos rfl, ?_, ?_, ?_, ?_⟩
    · rw [upd_ne n1.symm, upd_ne n3.symm, upd_ne n1.symm]
      exact hd1
    · rw [upd_ne n2]
      exact upd_same
    · intro i o md h1 h2
      rw [nones h1, nones h2]
      exact True.intro
    · intro i o md h1 h2
      rw [nones h1, nones h2]
      exact True.intro
    · show (if dl = x then 0 else if dl = dl then 1 else 2) = 1
      rw [if_neg n1.symm, if_pos rfl]
    · show (if wl = x then 0 else if wl = dl then 1 else 2) = 2
      rw [if_neg n2, if_neg n3]
    · intro i x h1
      cases nones h1
    · intro i x h1
      cases nones h1
abbrev s_document_new : Stmt := top 53
theorem sc_document_new : FnScope ["desk", "slot", "text", "is_right", "documents"] ["desk", "slot", "text"] (defScope s_document_new) := ⟨rfl, rfl, rfl, by decide +kernel, rfl, by decide +kernel, by decide +kernel⟩
theorem ok_document_new (T : Top K mg A) (F : TopF K A) (D : DefAt K mg "document_new" s_document_new ["desk", "slot", "text"]) (C_need : Fn P w K mg base (L2N.CX P w) 3 "need" ["is_right", "kind", "message"] (sp_need A)) (C_is_too_deep : Fn P w K mg base CX0 6 "is_too_deep" ["text"] sp_is_too_deep)
    (C_Document : Cl P w K mg base CX0 6 A.cO "Document" ["self", "text"] (sp_Document A)) (C_Nothing : Cl P w K mg base CX0 1 A.cN "Nothing" ["self"] (sp_Nothing A)) : Fn P w K mg base (L2N.CX P w) 8 "document_new" ["desk", "slot", "text"] (sp_document_new A) := by
  refine D.okN sc_document_new (fun vs H Q E h => ?_) (fun f cdv Ar outer s H vs Q E hr h => ?_)
  · obtain ⟨k, s, x, v, G, own, dl, wl, ds, ws, m, rfl, _⟩ := h
    rfl
  · obtain ⟨k, s, x, v, G, own, dl, wl, ds, ws, m, rfl, h, hs, hv, q⟩ := h
    have hG := h.s
    refine ⟨_, (pss_cons (ps_set (i := 3) sc_document_new.nd rfl (.inl rfl) (pe_and (pe_callB call_isi (by rfl) T.n_isinstance (by decide +kernel) (pa_cons (pv 2) (pa_cons (pe_bltn (v := .ty "tuple") (by rfl) T.n_tuple (by decide +kernel) rfl) pa_nil))) (pe_one (pe_cmpR op_le (pe_callB call_len_seq (by rfl) T.n_len PySem.boot_len (pa_cons (pv 2) pa_nil)) (C8.pe_gc (by rfl) T.g_MOST_TEXT) (nomark _)))))
      (pss_cons (ps_expr (pe_fS C_need hr (by first | decide | omega) (tk := L2N.takes_of rfl rfl rfl rfl) (pa_cons (pv 3) (pa_cons (C8.pe_gc (by rfl) T.g_WRONG_KIND) (pa_cons pe_str pa_nil)))))
      (pss_cons (ps_expr (pe_fS C_need hr (by first | decide | omega) (tk := L2N.takes_of rfl rfl rfl rfl) (pa_cons (pe_not (pe_f C_is_too_deep hr (by first | decide | omega) (pa_cons (pv 2) pa_nil))) (pa_cons (C8.pe_gc (by rfl) T.g_OUT_OF_RANGE) (pa_cons pe_str pa_nil)))))
      (pss_cons (ps_set (i := 4) sc_document_new.nd rfl (.inl rfl) (pe_fld (pv 0) rfl))
      (pss_cons (ps_asg (pe_mkf C_Document hr (by first | decide | omega) (pa_cons (pv 2) pa_nil)) (pg_sub (pv 4) (pv 1) set_list))
      (pss_one (ps_ret (pe_mk0f C_Nothing hr (by first | decide | omega))))))))), ?_⟩
    walk_at "rd"
    refine rIsi_ty T hv hG (t := "tuple") (by decide) ?_
    refine ⟨_, rfl, ?_⟩
    rcases hv.isTx with ⟨t1, a, u, rfl, rfl, ha⟩ | ⟨t1, nt⟩
    · rw [t1, if_pos rfl]
      refine ⟨a, rfl, _, .inr (SqT.of (hG _ _ ha)), ?_⟩
      rw [Oc_len]
      have hTx : Tx G a (u.map Rust.unitOf) := by
        show G a = some (.tup (U (u.map Rust.unitOf)))
        rw [U_unit]
        exact ha
      have hul : (u.map Rust.unitOf).length = u.length := List.length_map ..
      by_cases h600 : u.length ≤ 600
      · refine ⟨fun _ => ⟨a, rfl, u.map Rust.unitOf, hG _ _ hTx, by omega, fun H1 e1 => ?_⟩, fun z => by rw [decide_eq_true (by omega)] at z; cases z⟩
        have eq : newOf (.text u) = if nestingOk (scan (u.map Rust.unitOf)) = true then .ok (u.map Rust.unitOf) else .error (2, "nesting deeper than 12") := if_pos h600
        rw [eq] at q
        have g1 : Grow Sno G H G H1 := (Grow.refl hG).junk e1
        have h1 := h.grow g1
        obtain ⟨dxk, hk1⟩ := h1.hk
        cases hn : nestingOk (scan (u.map Rust.unitOf)) with
        | false =>
          rw [hn, if_neg Bool.false_ne_true] at q
          exact ⟨fun z => Bool.noConfusion (show false = true from z), fun _ => q.on e1⟩
        | true =>
          rw [hn, if_pos rfl] at q
          refine ⟨fun _ => ⟨_, _, _, hk1, T.clK, T.a_documents, _, lk_here, fun y dy hy hdy ny => ?_⟩, fun z => by cases z⟩
          refine ⟨y, dy, a, u.map Rust.unitOf, G, H1, rfl, rfl, hy, hdy, ny, g1.s, hTx, by omega, fun vl b G2 H2 g2 hvl hb hd2 => ⟨rfl, dl, rfl, _, (h1.grow g2).hd, s, ?_, fun y3 dy3 hy3 hdy3 ny3 => ?_⟩⟩
          · unfold ixN
            rw [if_pos (by omega), if_pos (by rw [List.length_map, h.ld.1]; omega), Int.toNat_natCast]
          · have hst := (h1.step_new (i := s) g2 hd2 (fun b' hb' => by
              rcases List.mem_cons.mp hb' with rfl | hb'
              · exact hy
              rcases List.mem_cons.mp hb' with rfl | hb'
              · exact hvl
              · obtain rfl := List.mem_singleton.mp hb'
                exact hb)).more g1
            have hst2 := hst
            obtain ⟨_, _, _, _, hdk, _⟩ := hst2
            refine nothing_new (Grow.refl (S := Sno) hdk.s) (fun y4 G4 H4 g4 _ hv4 => ?_) hy3 hdy3 ny3
            exact q y4 G4 H4 (hst.then g4) hv4
      · have eq : newOf (.text u) = .error (1, "text must be a text of at most 600 octets") := if_neg h600
        rw [eq] at q
        exact ⟨fun z => absurd z (by omega), fun _ => q⟩
    · rw [t1, if_neg Bool.false_ne_true]
      have eq : newOf v = .error (1, "text must be a text of at most 600 octets") := by
        unfold newOf
        split
        · exact absurd rfl (nt _)
        · rfl
      rw [eq] at q
      exact ⟨fun z => z.elim, fun _ => q⟩
end
/-- what may be done to a document: its heap afterwards -/
def DocStep (A : Ads) (G H : Hp) (a vl : Addr) (bs : List Addr) (d' : MDoc) (G' H' : Hp) : Prop := ∃ bs', Grow (fun b => b ∈ a :: vl :: bs) G H G' H' ∧ DocAt A G' H' a vl bs' d' ∧ ∀ b ∈ bs', b ∈ bs ∨ H b = none
def sp_dedit : Ads → Sp := fun A vs H Q E => ∃ (a vl : Addr) (bs : List Addr) (d : MDoc) (x : V) (v : RWire.Value) (G : Hp), vs = [.ref a, x] ∧ DocAt A G H a vl bs d ∧ Good d ∧ Vl A G x v ∧ (∀ l, repsOf v = some l → insertedLength (l.map toRep) ≤ 100000) ∧ (∀ c, chgOf d.now.text.length v = .ok c → Law.Valid 0 d.now.text.length c ∧ c.length ≤ 20 ∧ insertedLength c ≤ 100000) ∧
  match editOf d v with
  | .error e => Ref A E H e.1 e.2
  | .ok d' => ∀ G' H', DocStep A G H a vl bs d' G' H' → Q (.int d'.cur) H'
def sp_token : Ads → Sp := fun A vs H Q E => ∃ (a vl : Addr) (bs : List Addr) (d : MDoc) (x : V) (v : RWire.Value) (G : Hp), vs = [.ref a, x] ∧ DocAt A G H a vl bs d ∧ Good d ∧ Vl A G x v ∧ ∀ y G' H', Grow Sno G H G' H' → Vl A G' y (tokOf d v) → Q y H'
def sp_of_versions : Ads → Sp := fun A vs H Q E => ∃ (a vl : Addr) (bs : List Addr) (d : MDoc) (door : Nat) (x : V) (v : RWire.Value) (G : Hp), vs = [.ref a, .int door, x] ∧ DocAt A G H a vl bs d ∧ Good d ∧ Vl A G x v ∧
  match versOf door d v with
  | .error e => Ref A E H e.1 e.2
  | .ok d' => ∀ G' H', DocStep A G H a vl bs d' G' H' → Q (.int d'.cur) H'
local macro_rules | `(tactic| walk_at "rd") => `(tactic| simp only [sp_change_of, sp_changed_text, sp_need, sp_is_too_deep, sp_added, sp_edit, sp_now, sp_go_to, sp_is_integer, sp_token_told, cxK, cxNK, cxNN, cxHK, tRet, tRetN, tChain, tC, tVar, rI0, rI, tOp, tUn, rU, tIf, tTest, tB, tNot, tAnd, tOr, tAndV, tOrV, tNotV, tCB, tCons, tNil, tNext, tSeq, tIfS, tDrop, tAsg, gName, tPar, tPar3, tAug, ipI, tCall, tCallS, E0, rEq, rNe, scal, rIxT, rIxL,  tTup, tLst, gTup, gCons, gNil, iTup, iList, iStr, iRng1, wipe, tSl, tPart, tNoPart, rIn,  tFld, sFld, sFldAug, tMeth, tMake, rAdd, tYes, tBM, rAppend, rExtend, rCat, rSetL, gSub,
  L2.start, List.map_cons, List.map_nil, List.length_cons, List.length_nil, Nat.reduceAdd, Nat.reduceSub, List.replicate_succ, List.replicate_zero, List.cons_append, List.nil_append, List.append_nil,
  List.getElem?_cons_zero, List.getElem?_cons_succ, List.set_cons_zero, List.set_cons_succ, Option.some.injEq, exists_eq_left, exists_eq_left', exists_eq_right, exists_eq_right', V.int.injEq, V.bl.injEq, V.str.injEq, V.ref.injEq, List.cons.injEq, true_and, and_true, and_assoc, exists_and_left, decide_eq_true_eq, Bool.false_eq_true, if_true, if_false, ite_true, ite_false, reduceIte, reduceCtorEq])

section
variable {P : Program} {w : World} {K : PySem.W.Frag} {mg : Str → Option Value} {base : Heap} {A : Ads}
abbrev s_edit : Stmt := top 56
theorem sc_edit : FnScope ["document", "value", "change", "text", "total"] ["document", "value"] (defScope s_edit) := ⟨rfl, rfl, rfl, by decide +kernel, rfl, by decide +kernel, by decide +kernel⟩
theorem ok_dedit (T : Top K mg A) (F : TopF K A) (D : DefAt K mg "edit" s_edit ["document", "value"]) (C_need : Fn P w K mg base (L2N.CX P w) 3 "need" ["is_right", "kind", "message"] (sp_need A)) (C_is_too_deep : Fn P w K mg base CX0 6 "is_too_deep" ["text"] sp_is_too_deep)
    (C_change_of : Fn P w K mg base (L2N.CX P w) 4 "change_of" ["document", "value"] (sp_change_of A)) (C_changed_text : Fn P w K mg base CX0 1 "changed_text" ["text", "change"] sp_changed_text) (C_added : Fn P w K mg base CX0 1 "added" ["change"] sp_added)
    (M_now : Mt P w K mg base CX0 1 A.cO "now" ["self"] (sp_now A)) (M_edit : Mt P w K mg base CX0 6 A.cO "edit" ["self", "change", "text"] (sp_edit A)) : Fn P w K mg base (L2N.CX P w) 7 "edit" ["document", "value"] (sp_dedit A) := by
  refine D.okN sc_edit (fun vs H Q E h => ?_) (fun f cdv Ar outer s H vs Q E hr h => ?_)
  · obtain ⟨a, vl, bs, d, x, v, G, rfl, _⟩ := h
    rfl
  · obtain ⟨a, vl, bs, d, x, v, G, rfl, h, hgood, hv, hz, hc, q⟩ := h
    have hG := h.s
    have hnm : d.now ∈ d.vers := List.mem_of_getElem? (getD_at hgood.cur)
    refine ⟨_, (pss_cons (ps_set (i := 2) sc_edit.nd rfl (.inl rfl) (pe_fS C_change_of hr (by first | decide | omega) (tk := L2N.takes_of rfl rfl rfl rfl) (pa_cons (pv 0) (pa_cons (pv 1) pa_nil))))
      (pss_cons (ps_if (pt_truth (pv 2) (by intro _; rfl)) (pss_cons (ps_set (i := 3) sc_edit.nd rfl (.inl rfl) (pe_f C_changed_text hr (by first | decide | omega) (pa_cons (pe_fld (pe_mt0f M_now hr (by first | decide | omega) (pv 0)) rfl) (pa_cons (pv 2) pa_nil))))
      (pss_cons (ps_expr (pe_fS C_need hr (by first | decide | omega) (tk := L2N.takes_of rfl rfl rfl rfl) (pa_cons (pe_cmpR op_le (pe_callB call_len_seq (by rfl) T.n_len PySem.boot_len (pa_cons (pv 3) pa_nil)) (C8.pe_gc (by rfl) T.g_MOST_TEXT) (nomark _)) (pa_cons (C8.pe_gc (by rfl) T.g_OUT_OF_RANGE) (pa_cons pe_str pa_nil)))))
      (pss_cons (ps_expr (pe_fS C_need hr (by first | decide | omega) (tk := L2N.takes_of rfl rfl rfl rfl) (pa_cons (pe_cmpR op_lt (pe_callB call_len_seq (by rfl) T.n_len PySem.boot_len (pa_cons (pe_fld (pv 0) rfl) pa_nil)) (C8.pe_gc (by rfl) T.g_MOST_VERSIONS) (nomark _)) (pa_cons (C8.pe_gc (by rfl) T.g_OUT_OF_RANGE) (pa_cons pe_str pa_nil)))))
      (pss_cons (ps_set (i := 4) sc_edit.nd rfl (.inl rfl) (pe_op op_add (pe_fld (pv 0) rfl) (pe_f C_added hr (by first | decide | omega) (pa_cons (pv 2) pa_nil))))
      (pss_cons (ps_expr (pe_fS C_need hr (by first | decide | omega) (tk := L2N.takes_of rfl rfl rfl rfl) (pa_cons (pe_cmpR op_le (pv 4) (C8.pe_gc (by rfl) T.g_MOST_ADDED) (nomark _)) (pa_cons (C8.pe_gc (by rfl) T.g_OUT_OF_RANGE) (pa_cons pe_str pa_nil)))))
      (pss_cons (ps_expr (pe_fS C_need hr (by first | decide | omega) (tk := L2N.takes_of rfl rfl rfl rfl) (pa_cons (pe_not (pe_f C_is_too_deep hr (by first | decide | omega) (pa_cons (pv 3) pa_nil))) (pa_cons (C8.pe_gc (by rfl) T.g_OUT_OF_RANGE) (pa_cons pe_str pa_nil)))))
      (pss_one (ps_expr (pe_mtf M_edit hr (by first | decide | omega) (pv 0) (pa_cons (pv 2) (pa_cons (pv 3) pa_nil))))))))))) pss_nil)
      (pss_one (ps_ret (pe_fld (pv 0) rfl))))), ?_⟩
    walk_at "rd"
    refine ⟨vl, bs, d, v, G, h, hgood.cur, hgood.text _ hnm, hv, hz, ?_⟩
    cases hch : chgOf d.now.text.length v with
    | error e =>
      have eq : editOf d v = .error e := by
        unfold editOf
        rw [hch]
      rw [eq] at q
      exact q
    | ok c =>
      have eq : editOf d v = editTo d c := by
        unfold editOf
        rw [hch]
      rw [eq] at q
      obtain ⟨c1, c2, c3⟩ := hc c hch
      intro p G1 H1 g1 hp
      obtain ⟨as, hp1, hp2⟩ := id hp
      have hpl := paired_len hp2
      have h1 := h.grow g1
      obtain ⟨dx1, ha1⟩ := h1.ha
      refine ⟨!(as.map V.ref).isEmpty, .inl ⟨_, SqL.of (g1.s _ _ hp1), rfl⟩, ?_⟩
      by_cases hc0 : c = []
      · have e : as = [] := List.length_eq_zero_iff.mp (by rw [hpl, hc0]; rfl)
        rw [if_neg (by rw [e]; decide)]
        rw [show editTo d c = .ok d from if_pos hc0] at q
        refine ⟨_, _, _, ha1, T.clO, T.a_current, _, df_current, q G1 H1 ⟨bs, g1.wide, h1, fun b hb => .inl hb⟩⟩
      · have hne : (!(as.map V.ref).isEmpty) = true := by
          cases as with
          | nil => exact absurd (List.length_eq_zero_iff.mp hpl.symm) hc0
          | cons b as => rfl
        rw [if_pos hne]
        rw [show editTo d c = _ from if_neg hc0] at q
        refine ⟨_, _, ha1, df_no (by decide) (by decide) (by decide) (by decide), vl, bs, d, G1, h1, hgood.cur, fun b hb hvb => ?_⟩
        obtain ⟨dxv, tt, tk, hb1, hbn, htt, _⟩ := hvb
        refine ⟨_, _, _, hb1, T.clV, T.a_text, _, vf_text, tt, rfl, d.now.text, c, G1, g1.s, htt, hp, c1, hgood.text _ hnm, c3, fun p2 G2 H2 g2 ht2 => ?_⟩
        have h2 := h1.grow g2
        have e2 : Same H H2 := (g1.transN g2).same
        obtain ⟨dx2, ha2⟩ := h2.ha
        have hbl := paired_len h2.hv
        refine ⟨_, .inr (SqT.of (g2.s _ _ ht2)), ?_⟩
        rw [U_len]
        by_cases h600 : (changedText c d.now.text).length ≤ 600
        · rw [if_pos h600] at q
          refine ⟨fun _ => ⟨_, _, _, ha2, T.clO, T.a_versions, _, df_versions, vl, rfl, _, .inl (SqL.of h2.hl), ?_⟩, fun z => by rw [decide_eq_true (by omega)] at z; cases z⟩
          rw [List.length_map, hbl]
          by_cases h100 : d.vers.length < 100
          · rw [if_pos h100] at q
            refine ⟨fun _ => ⟨_, _, _, ha2, T.clO, T.a_many_added, _, df_added, c, G2, g2.s, hp.mono g2.g, c2, fun H3 e3 => ⟨_, rfl, ?_⟩⟩, fun z => by rw [decide_eq_true (by omega)] at z; cases z⟩
            by_cases h5000 : d.added + insertedLength c ≤ 5000
            · rw [if_pos h5000] at q
              refine ⟨fun _ => ?_, fun z => by rw [decide_eq_true (by omega)] at z; cases z⟩
              have i3 : Grow Sno G2 H2 G2 H3 := (Grow.refl g2.s).junk e3
              refine ⟨_, i3.s _ _ ht2, h600, fun H4 e4 => ?_⟩
              have i4 : Grow Sno G2 H2 G2 H4 := i3.junk e4
              have h4 := h2.grow i4
              obtain ⟨dx4, ha4⟩ := h4.ha
              cases hn : nestingOk (scan (changedText c d.now.text)) with
              | false =>
                rw [hn, if_neg Bool.false_ne_true] at q
                exact ⟨fun z => Bool.noConfusion (show false = true from z), fun _ => q.on ((e2.trans e3).trans e4)⟩
              | true =>
                rw [hn, if_pos rfl] at q
                refine ⟨fun _ => ⟨_, _, ha4, df_no (by decide) (by decide) (by decide) (by decide), vl, bs, d, c, _, G2, h4, hgood, hp.mono g2.g, c2, c1, rfl, ht2, h600, h100, fun G5 H5 b5 g5 hb5 hd5 => ?_⟩, fun z => Bool.noConfusion (show true = false from z)⟩
                obtain ⟨dx5, ha5⟩ := hd5.ha
                have g04 : Grow Sno G H G2 H4 := (g1.transN g2).transN i4
                refine ⟨_, _, _, ha5, T.clO, T.a_current, _, df_current, q G5 H5 ⟨bs ++ [b5], (g04.wide (S := fun b => b ∈ a :: vl :: bs)).trans g5 (fun b z => .inl z), hd5, fun b hb => ?_⟩⟩
                rcases List.mem_append.mp hb with z | z
                · exact .inl z
                · obtain rfl := List.mem_singleton.mp z
                  exact .inr (g04.back hb5)
            · rw [if_neg h5000] at q
              exact ⟨fun z => absurd z (by omega), fun _ => q.on (e2.trans e3)⟩
          · rw [if_neg h100] at q
            exact ⟨fun z => absurd z (by omega), fun _ => q.on e2⟩
        · rw [if_neg h600] at q
          exact ⟨fun z => absurd z (by omega), fun _ => q.on e2⟩
abbrev s_token : Stmt := top 58
theorem sc_token : FnScope ["document", "value", "one"] ["document", "value"] (defScope s_token) := ⟨rfl, rfl, rfl, by decide +kernel, rfl, by decide +kernel, by decide +kernel⟩
theorem ok_token (T : Top K mg A) (D : DefAt K mg "token" s_token ["document", "value"]) (C_is_integer : Fn P w K mg base CX0 1 "is_integer" ["value"] (sp_is_integer A)) (C_token_told : Fn P w K mg base CX0 4 "token_told" ["token"] (sp_token_told A)) (M_now : Mt P w K mg base CX0 1 A.cO "now" ["self"] (sp_now A)) :
    Fn P w K mg base CX0 5 "token" ["document", "value"] (sp_token A) := by
  refine D.ok sc_token (fun vs H Q E h => ?_) (fun f cdv Ar outer s H vs Q E hr h => ?_)
  · obtain ⟨a, vl, bs, d, x, v, G, rfl, _⟩ := h
    rfl
  · obtain ⟨a, vl, bs, d, x, v, G, rfl, h, hgood, hv, q⟩ := h
    have hG := h.s
    have hnm : d.now ∈ d.vers := List.mem_of_getElem? (getD_at hgood.cur)
    obtain ⟨dx, ha⟩ := h.ha
    obtain ⟨b, hb, hvb⟩ := paired_at h.hv (getD_at hgood.cur)
    obtain ⟨dxv, tt, tk, hb1, hbn, htt, as, hk1, hk2⟩ := hvb
    have hlen := paired_len hk2
    have htoks := hgood.toks _ hnm
    refine ⟨_, (pss_cons (ps_for PassesOwn.never rfl (pi_list (pe_fld (pe_mt0f M_now hr (by first | decide | omega) (pv 0)) rfl)) (pg_name (i := 2) sc_token.nd rfl (Or.inl rfl)) (pss_one (ps_if (PW.pt (pw_and (pt_val (pe_f C_is_integer hr (by first | decide | omega) (pa_cons (pv 1) pa_nil))) (pw_and1 (pt_cmpR op_eq (pe_ix ix_tup (pv 2) pe_int (fun _ _ => rfl)) (pv 1) (nomark _))))) (pss_one (ps_ret (pe_f C_token_told hr (by first | decide | omega) (pa_cons (pv 2) pa_nil)))) pss_nil)))
      (pss_one (ps_ret pe_non))), ?_⟩
    refine ⟨V.ref a, rfl, a, _, _, rfl, ha, df_no (by decide) (by decide) (by decide) (by decide), a, vl, bs, d, G, rfl, h, hgood.cur, fun b' hb' hvb' => ?_⟩
    obtain rfl : b' = b := by rw [hb] at hb'; exact (Option.some.inj hb').symm
    refine ⟨b', A.cV, dxv, _, _, rfl, hb1, T.clV, T.a_tokens, vf_tokens, tk, rfl, ⟨_, SqL.of (hG _ _ hk1)⟩, for_list (K := K) (a := tk) (xs := as.map V.ref) (fun i σ H' => ∃ v2, σ = [some (.ref a), some x, v2] ∧ H' = H ∧ tokOf d v = tokIn (d.now.toks.drop i) v)
      ⟨none, rfl, rfl, rfl⟩ (fun i σ H' _ ⟨_, _, e, _⟩ => by rw [e]; exact SqL.of (hG _ _ hk1)) ?_ ?_⟩
    · rintro i y σ H' hy ⟨v2, rfl, rfl, htk⟩
      rw [List.getElem?_map] at hy
      obtain ⟨b9, hb9, ex⟩ := Option.map_eq_some_iff.mp hy
      subst ex
      obtain ⟨o9, ho9, hbt⟩ := paired_get hk2 hb9
      have hraw : o9.raw ∈ scan d.now.text := by
        rw [← htoks]
        exact List.mem_map.mpr ⟨o9, List.mem_of_getElem? ho9, rfl⟩
      have hd9 : d.now.toks.drop i = o9 :: d.now.toks.drop (i + 1) := by
        obtain ⟨hj, z⟩ := List.getElem?_eq_some_iff.mp ho9
        rw [← z]
        exact List.drop_eq_getElem_cons hj
      rw [hd9] at htk
      walk_at "rd"
      refine ⟨v, G, hG, hv, ?_⟩
      have hbt' : G b9 = some (.tup [.int o9.id, .str (kn o9.raw.kind), .int o9.raw.start, .int ((o9.raw.start + o9.raw.length : Nat) : Int)]) := hbt
      rcases hv.isI with ⟨i0, j, rfl, rfl⟩ | ⟨i0, ni⟩
      · rw [if_pos (show (isT (RWire.Value.int j) "int" && !isT (RWire.Value.int j) "bool") = true from i0)]
        refine ⟨_, SqT.of (hG _ _ hbt'), _, rfl, rfl, ?_⟩
        by_cases hid : (o9.id : Int) = j
        · rw [if_pos (by rw [hid])]
          refine ⟨o9, G, hG, hbt, Law.scan_kinds hraw, fun y G2 H2 g2 hy2 => q (.ref y) G2 H2 g2 ?_⟩
          rw [htk, tokIn_cons, if_pos hid]
          exact hy2
        · rw [if_neg (fun z => hid (V.int.inj z))]
          rw [htk, tokIn_cons, if_neg hid]
      · rw [if_neg (by rw [show (isT v "int" && !isT v "bool") = false from i0]; decide)]
        rw [htk, tokIn_no ni, tokIn_no ni]
    · rintro σ H' ⟨v2, rfl, rfl, htk⟩
      rw [List.length_map, hlen, show (d.vers.getD d.cur MVer.none).toks = d.now.toks from rfl, List.drop_length] at htk
      walk_at "rd"
      refine q _ G H' (Grow.refl hG) ?_
      rw [htk]
      cases v <;> exact .null
abbrev s_of_versions : Stmt := top 59
theorem sc_of_versions : FnScope ["document", "door", "value", "is_right"] ["document", "door", "value"] (defScope s_of_versions) := ⟨rfl, rfl, rfl, by decide +kernel, rfl, by decide +kernel, by decide +kernel⟩
theorem ok_of_versions (T : Top K mg A) (F : TopF K A) (D : DefAt K mg "of_versions" s_of_versions ["document", "door", "value"]) (C_need : Fn P w K mg base (L2N.CX P w) 3 "need" ["is_right", "kind", "message"] (sp_need A)) (C_is_integer : Fn P w K mg base CX0 1 "is_integer" ["value"] (sp_is_integer A))
    (M_now : Mt P w K mg base CX0 1 A.cO "now" ["self"] (sp_now A)) (M_go_to : Mt P w K mg base CX0 1 A.cO "go_to" ["self", "number"] (sp_go_to A)) : Fn P w K mg base (L2N.CX P w) 4 "of_versions" ["document", "door", "value"] (sp_of_versions A) := by
  refine D.okN sc_of_versions (fun vs H Q E h => ?_) (fun f cdv Ar outer s H vs Q E hr h => ?_)
  · obtain ⟨a, vl, bs, d, door, x, v, G, rfl, _⟩ := h
    rfl
  · obtain ⟨a, vl, bs, d, door, x, v, G, rfl, h, hgood, hv, q⟩ := h
    have hG := h.s
    have hnm : d.now ∈ d.vers := List.mem_of_getElem? (getD_at hgood.cur)
    refine ⟨_, (pss_cons (ps_if (pt_cmpR op_eq (pv 1) pe_int (nomark _)) (pss_cons (ps_expr (pe_fS C_need hr (by first | decide | omega) (tk := L2N.takes_of rfl rfl rfl rfl) (pa_cons (pe_cmpR op_gt (pe_fld (pv 0) rfl) pe_int (nomark _)) (pa_cons (C8.pe_gc (by rfl) T.g_OUT_OF_RANGE) (pa_cons pe_str pa_nil)))))
      (pss_one (ps_expr (pe_mtf M_go_to hr (by first | decide | omega) (pv 0) (pa_cons (pe_fld (pe_mt0f M_now hr (by first | decide | omega) (pv 0)) rfl) pa_nil))))) (pss_one (ps_if (pt_cmpR op_eq (pv 1) pe_int (nomark _)) (pss_cons (ps_expr (pe_fS C_need hr (by first | decide | omega) (tk := L2N.takes_of rfl rfl rfl rfl) (pa_cons (pe_cmpR op_ge (pe_fld (pe_mt0f M_now hr (by first | decide | omega) (pv 0)) rfl) pe_int (nomark _)) (pa_cons (C8.pe_gc (by rfl) T.g_OUT_OF_RANGE) (pa_cons pe_str pa_nil)))))
      (pss_one (ps_expr (pe_mtf M_go_to hr (by first | decide | omega) (pv 0) (pa_cons (pe_fld (pe_mt0f M_now hr (by first | decide | omega) (pv 0)) rfl) pa_nil))))) (pss_cons (ps_set (i := 3) sc_of_versions.nd rfl (.inl rfl) (pe_and (pe_f C_is_integer hr (by first | decide | omega) (pa_cons (pv 2) pa_nil)) (pe_one (pe_chain op_le op_lt pe_int (pv 2) (pe_callB call_len_seq (by rfl) T.n_len PySem.boot_len (pa_cons (pe_fld (pv 0) rfl) pa_nil))))))
      (pss_cons (ps_expr (pe_fS C_need hr (by first | decide | omega) (tk := L2N.takes_of rfl rfl rfl rfl) (pa_cons (pv 3) (pa_cons (C8.pe_gc (by rfl) T.g_OUT_OF_RANGE) (pa_cons pe_str pa_nil)))))
      (pss_one (ps_expr (pe_mtf M_go_to hr (by first | decide | omega) (pv 0) (pa_cons (pv 2) pa_nil)))))))))
      (pss_one (ps_ret (pe_fld (pv 0) rfl)))), ?_⟩
    walk_at "rd"
    obtain ⟨dx, ha⟩ := h.ha
    unfold versOf at q
    have go : ∀ n, n < d.vers.length → (∀ G' H', DocStep A G H a vl bs (mGo n d) G' H' → Q (.int (mGo n d).cur) H') → ∀ H', Grow (fun b => b ∈ a :: vl :: bs) G H G H' → DocAt A G H' a vl bs (mGo n d) → Q (.int (mGo n d).cur) H' := fun n hn q H' g hd => q G H' ⟨bs, g, hd, fun b hb => .inl hb⟩
    by_cases h4 : door = 4
    · rw [if_pos (by omega)]
      rw [if_pos h4] at q
      refine ⟨_, _, _, ha, T.clO, T.a_current, _, df_current, _, rfl, fun hpos => ?_, fun z => ?_⟩
      · have hpos : 0 < d.cur := by omega
        rw [if_pos hpos] at q
        have hp1 := hgood.pars _ _ (getD_at hgood.cur) hpos
        have hp2 := hgood.ahead _ _ (getD_at hgood.cur)
        have hcl := hgood.cur
        have e1 : d.now.par = ((d.now.par.toNat : Nat) : Int) := by
          have : 0 ≤ d.now.par := hp1
          omega
        have hlt : d.now.par.toNat < d.vers.length := by
          have : d.now.par < (d.cur : Int) := hp2.2
          omega
        refine ⟨_, _, ha, df_no (by decide) (by decide) (by decide) (by decide), _, _, ha, df_no (by decide) (by decide) (by decide) (by decide), vl, bs, d, G, h, hgood.cur, fun b hb hvb => ?_⟩
        obtain ⟨dxv, tt, tk, hb1, hbn, htt, _⟩ := hvb
        refine ⟨_, _, _, hb1, T.clV, T.a_parent, _, vf_parent, vl, d.now.par.toNat, by rw [← e1], bs, d, G, h, hlt, hgood.ahead, fun H1 g1 hd1 => ?_⟩
        obtain ⟨dx1, ha1⟩ := hd1.ha
        exact ⟨_, _, _, ha1, T.clO, T.a_current, _, df_current, go _ hlt q H1 g1 hd1⟩
      · have hz : ¬ 0 < d.cur := fun y => by rw [decide_eq_true (by omega)] at z; cases z
        rw [if_neg hz] at q
        exact q
    · rw [if_neg (by omega)]
      rw [if_neg h4] at q
      by_cases h5 : door = 5
      · rw [if_pos (by omega)]
        rw [if_pos h5] at q
        refine ⟨_, _, ha, df_no (by decide) (by decide) (by decide) (by decide), vl, bs, d, G, h, hgood.cur, fun b hb hvb => ?_⟩
        obtain ⟨dxv, tt, tk, hb1, hbn, htt, hLk⟩ := id hvb
        refine ⟨_, _, _, hb1, T.clV, T.a_redo, _, vf_redo, _, rfl, fun hpos => ?_, fun z => ?_⟩
        · rw [if_pos hpos] at q
          have hr2 := hgood.redo _ hnm
          have e1 : d.now.redo = ((d.now.redo.toNat : Nat) : Int) := by omega
          have hlt : d.now.redo.toNat < d.vers.length := by omega
          refine ⟨_, _, ha, df_no (by decide) (by decide) (by decide) (by decide), _, _, ha, df_no (by decide) (by decide) (by decide) (by decide), vl, bs, d, G, h, hgood.cur, fun b hb hvb => ?_⟩
          obtain ⟨dxv, tt, tk, hb1, hbn, htt, _⟩ := hvb
          refine ⟨_, _, _, hb1, T.clV, T.a_redo, _, vf_redo, vl, d.now.redo.toNat, by rw [← e1], bs, d, G, h, hlt, hgood.ahead, fun H1 g1 hd1 => ?_⟩
          obtain ⟨dx1, ha1⟩ := hd1.ha
          exact ⟨_, _, _, ha1, T.clO, T.a_current, _, df_current, go _ hlt q H1 g1 hd1⟩
        · rw [if_neg (fun y => by rw [decide_eq_true y] at z; cases z)] at q
          exact q
      · rw [if_neg (by omega)]
        rw [if_neg h5] at q
        refine ⟨v, G, hG, hv, ?_⟩
        rcases hv.isI with ⟨i0, i, rfl, rfl⟩ | ⟨i0, ni⟩
        · rw [if_pos (show (isT (RWire.Value.int i) "int" && !isT (RWire.Value.int i) "bool") = true from i0)]
          have q : match (if 0 ≤ i ∧ i < (d.vers.length : Int) then .ok (mGo i.toNat d) else .error (2, "unknown version") : Except Refused MDoc) with
            | .error e => Ref A E H e.1 e.2
            | .ok d' => ∀ G' H', DocStep A G H a vl bs d' G' H' → Q (.int d'.cur) H' := q
          refine ⟨i, rfl, ?_⟩
          have hbl := paired_len h.hv
          by_cases h0 : 0 ≤ i
          · rw [if_pos h0]
            refine ⟨_, _, _, ha, T.clO, T.a_versions, _, df_versions, vl, rfl, _, .inl (SqL.of h.hl), i, rfl, ?_⟩
            rw [List.length_map, hbl]
            by_cases hlt : i < (d.vers.length : Int)
            · rw [if_pos ⟨h0, hlt⟩] at q
              have e1 : i = ((i.toNat : Nat) : Int) := by omega
              refine ⟨fun _ => ⟨_, _, ha, df_no (by decide) (by decide) (by decide) (by decide), vl, i.toNat, by rw [← e1], bs, d, G, h, by omega, hgood.ahead, fun H1 g1 hd1 => ?_⟩, fun z => by rw [decide_eq_true hlt] at z; cases z⟩
              obtain ⟨dx1, ha1⟩ := hd1.ha
              exact ⟨_, _, _, ha1, T.clO, T.a_current, _, df_current, go _ (by omega) q H1 g1 hd1⟩
            · rw [if_neg fun z => hlt z.2] at q
              exact ⟨fun z => absurd z hlt, fun _ => q⟩
          · rw [if_neg h0]
            rw [if_neg fun z => h0 z.1] at q
            exact ⟨fun z => z.elim, fun _ => q⟩
        · rw [if_neg (by rw [show (isT v "int" && !isT v "bool") = false from i0]; decide)]
          have e : (match v with | .int i => (if 0 ≤ i ∧ i < (d.vers.length : Int) then .ok (mGo i.toNat d) else .error (2, "unknown version") : Except Refused MDoc) | _ => .error (2, "unknown version")) = .error (2, "unknown version") := by
            split
            · exact absurd rfl (ni _)
            · rfl
          rw [e] at q
          exact ⟨fun z => z.elim, fun _ => q⟩
end
end Tk
end
section
set_option Elab.async false
set_option linter.all false
set_option maxRecDepth 100000
set_option maxHeartbeats 2000000
/-! The walk, part 16: desk.py: walks, every door. -/
namespace Tk
open PySem PySem.Spec PyProof.Rows L2
open RWire (Octets)
open R7253e.Spec (Token Change changedText insertedLength nestingOk scan)
open Law (MDoc MVer Good mNew mEdit mGo)
def walkOf (m : MDesk) (door s : Nat) (v : RWire.Value) : MDesk × RWire.Value :=
  if door = 8 then (match v with
    | .int j => (match m.docs.getD j.toNat none with
      | some d => ({ m with walks := m.walks.set s (some d.now.toks) }, .nothing)
      | none => (m, .nothing))
    | _ => (m, .nothing))
  else match m.walks.getD s none with
    | none => (m, .nothing)
    | some l => if door = 10 then ({ m with walks := m.walks.set s (some []) }, stepV .nothing true) else (match l with
      | [] => ({ m with walks := m.walks.set s (some []) }, stepV .nothing true)
      | t :: r => ({ m with walks := m.walks.set s (some r) }, stepV (tokV t) false))
def mDone (m : MDesk) (door s : Nat) (v : RWire.Value) : Except Refused (MDesk × RWire.Value) :=
  if door = 0 then (match newOf v with
    | .error e => .error e
    | .ok u => .ok ({ m with docs := m.docs.set s (some (mNew u)) }, .nothing))
  else if 8 ≤ door then .ok (walkOf m door s v)
  else match m.docs.getD s none with
    | none => .ok (m, .nothing)
    | some d => if door = 1 then .ok (m, .text (d.now.text.map Rust.octetOf)) else if door = 2 then .ok (m, .int d.cur) else if door = 3 then (match editOf d v with
        | .error e => .error e
        | .ok d' => .ok ({ m with docs := m.docs.set s (some d') }, .int d'.cur))
      else if door = 7 then .ok (m, tokOf d v) else (match versOf door d v with
        | .error e => .error e
        | .ok d' => .ok ({ m with docs := m.docs.set s (some d') }, .int d'.cur))
/-- what a call may ask of a desk -/
structure MayCall (m : MDesk) (door s : Nat) (v : RWire.Value) : Prop where
  most : door ≤ 10
  slot : s < 2
  doc : 1 ≤ door → door ≤ 7 → ∃ d, m.docs[s]? = some (some d)
  src : door = 8 → ∃ (j : Nat) (d : MDoc), v = .int (j : Int) ∧ m.docs[j]? = some (some d)
  walk : 9 ≤ door → ∃ l, m.walks[s]? = some (some l)
structure GoodDesk (m : MDesk) : Prop where
  docs : ∀ (i : Nat) (d : MDoc), m.docs[i]? = some (some d) → Good d
  walks : ∀ (i : Nat) (l : List Token), m.walks[i]? = some (some l) → ∀ t ∈ l, t.raw.kind ∈ Law.kinds
structure FineArg (v : RWire.Value) : Prop where
  reps : ∀ l, repsOf v = some l → insertedLength (l.map toRep) ≤ 100000
  chg : ∀ n c, chgOf n v = .ok c → Law.Valid 0 n c ∧ c.length ≤ 20 ∧ insertedLength c ≤ 100000
theorem DeskAt.step_refl {A : Ads} {G H G' H' : Hp} {own : Addr → Nat} {k dl wl : Addr} {ds : List (Option DocRef)} {ws : List (Option Addr)} {m : MDesk} (h : DeskAt A G H own k dl wl ds ws m) (g : Grow Sno G H G' H') : Step A G H k dl wl ds ws m G' H' :=
  ⟨own, ds, ws, g.wide, h.grow g, fun b hb => .inl hb⟩
theorem DeskAt.doc_at {A : Ads} {G H : Hp} {own : Addr → Nat} {k dl wl : Addr} {ds : List (Option DocRef)} {ws : List (Option Addr)} {m : MDesk} (h : DeskAt A G H own k dl wl ds ws m) {i : Nat} {d : MDoc} (hd : m.docs[i]? = some (some d)) : ∃ x, ds[i]? = some (some x) ∧ DocAt A G H x.1 x.2.1 x.2.2 d := by
  have hi := (List.getElem?_eq_some_iff.mp hd).1
  have h1 := h.ld.1
  have h2 := h.ld.2
  have hx := h.docs i _ _ (List.getElem?_eq_getElem (by omega)) hd
  have e : ds[i]? = some (ds[i]'(by omega)) := List.getElem?_eq_getElem (by omega)
  cases ho : ds[i]'(by omega) with
  | none => rw [ho] at hx; exact hx.elim
  | some x =>
    rw [ho] at hx e
    exact ⟨x, e, hx⟩
theorem DeskAt.walk_at' {A : Ads} {G H : Hp} {own : Addr → Nat} {k dl wl : Addr} {ds : List (Option DocRef)} {ws : List (Option Addr)} {m : MDesk} (h : DeskAt A G H own k dl wl ds ws m) {i : Nat} {l : List Token} (hd : m.walks[i]? = some (some l)) :
    ∃ x, ws[i]? = some (some x) ∧ ∃ dx p, H x = some (.ins A.cW dx [("left", .ref p)]) ∧ G x = none ∧ Ls tokT G p l := by
  have hi := (List.getElem?_eq_some_iff.mp hd).1
  have h1 := h.lw.1
  have h2 := h.lw.2
  have hx := h.walks i _ _ (List.getElem?_eq_getElem (by omega)) hd
  have e : ws[i]? = some (ws[i]'(by omega)) := List.getElem?_eq_getElem (by omega)
  cases ho : ws[i]'(by omega) with
  | none => rw [ho] at hx; exact hx.elim
  | some x =>
    rw [ho] at hx e
    exact ⟨x, e, hx⟩
theorem atV {α : Type} {l : List α} {f : α → V} {i : Nat} {x : α} (h : l[i]? = some x) : atI (l.map f) (i : Int) = some (f x) := at_of (j := i) rfl (by rw [List.getElem?_map, h]; rfl)
theorem U_octets {u : Units} (h : ∀ c ∈ u, c.toNat < 256) : U u = Oc (u.map Rust.octetOf) := by
  unfold U Oc
  rw [List.map_map]
  refine List.map_congr_left fun c hc => ?_
  show V.int (c.toNat : Int) = V.int ((UInt8.ofNat c.toNat).toNat : Int)
  rw [UInt8.toNat_ofNat', Nat.mod_eq_of_lt (h c hc)]
theorem cut_one (x : V) (l : List V) : cutV (x :: l) (some 1) none = l := by
  unfold cutV
  rw [six_of (by decide) (by rw [List.length_cons]; omega), HT.sIx_none]
  show ((x :: l).drop 1).take _ = l
  rw [List.drop_one, List.tail_cons, List.take_of_length_le (by rw [List.length_cons]; show _ ≤ l.length + 1 - 1; omega)]
def Asks (A : Ads) (G H : Hp) (own : Addr → Nat) (k dl wl : Addr) (ds : List (Option DocRef)) (ws : List (Option Addr)) (m : MDesk) (p : Addr) (s : Nat) (x : V) (v : RWire.Value) : Prop :=
  DeskAt A G H own k dl wl ds ws m ∧ G p = some (.lst [.int s, x]) ∧ Vl A G x v
def sp_of_walks : Ads → Sp := fun A vs H Q E => ∃ (k p : Addr) (door s : Nat) (x : V) (v : RWire.Value) (G : Hp) (own : Addr → Nat) (dl wl : Addr) (ds : List (Option DocRef)) (ws : List (Option Addr)) (m : MDesk), vs = [.ref k, .int door, .ref p] ∧ Asks A G H own k dl wl ds ws m p s x v ∧ MayCall m door s v ∧ GoodDesk m ∧ 8 ≤ door ∧
  ∀ y G' H', Step A G H k dl wl ds ws (walkOf m door s v).1 G' H' → Vl A G' y (walkOf m door s v).2 → Q y H'
def sp_done : Ads → Sp := fun A vs H Q E => ∃ (k p : Addr) (door s : Nat) (x : V) (v : RWire.Value) (G : Hp) (own : Addr → Nat) (dl wl : Addr) (ds : List (Option DocRef)) (ws : List (Option Addr)) (m : MDesk), vs = [.ref k, .int door, .ref p] ∧ Asks A G H own k dl wl ds ws m p s x v ∧ MayCall m door s v ∧ GoodDesk m ∧ FineArg v ∧
  match mDone m door s v with
  | .error e => Ref A E H e.1 e.2
  | .ok r => ∀ y G' H', Step A G H k dl wl ds ws r.1 G' H' → Vl A G' y r.2 → Q y H'
local macro_rules | `(tactic| walk_at "rd") => `(tactic| simp only [sp_of_walks, sp_done, sp_stepped, sp_token_told, sp_now, sp_document_new, sp_dedit, sp_token, sp_of_versions, cxK, cxNK, cxNN, cxHK, tRet, tRetN, tChain, tC, tVar, rI0, rI, tOp, tUn, rU, tIf, tTest, tB, tNot, tAnd, tOr, tAndV, tOrV, tNotV, tCB, tCons, tNil, tNext, tSeq, tIfS, tDrop, tAsg, gName, tPar, tPar3, tAug, ipI, tCall, tCallS, E0, rEq, rNe, scal, rIxT, rIxL,  tTup, tLst, gTup, gCons, gNil, iTup, iList, iStr, iRng1, wipe, tSl, tPart, tNoPart, rIn,  tFld, sFld, sFldAug, tMeth, tMake, rAdd, tYes, tBM, rAppend, rExtend, rCat, rSetL, gSub,
  L2.start, List.map_cons, List.map_nil, List.length_cons, List.length_nil, Nat.reduceAdd, Nat.reduceSub, List.replicate_succ, List.replicate_zero, List.cons_append, List.nil_append, List.append_nil,
  List.getElem?_cons_zero, List.getElem?_cons_succ, List.set_cons_zero, List.set_cons_succ, Option.some.injEq, exists_eq_left, exists_eq_left', exists_eq_right, exists_eq_right', V.int.injEq, V.bl.injEq, V.str.injEq, V.ref.injEq, List.cons.injEq, true_and, and_true, and_assoc, exists_and_left, decide_eq_true_eq, Bool.false_eq_true, if_true, if_false, ite_true, ite_false, reduceIte, reduceCtorEq])

section
variable {P : Program} {w : World} {K : PySem.W.Frag} {mg : Str → Option Value} {base : Heap} {A : Ads}
abbrev s_of_walks : Stmt := top 61
theorem sc_of_walks : FnScope ["desk", "door", "arguments", "walks", "walk", "found"] ["desk", "door", "arguments"] (defScope s_of_walks) := ⟨rfl, rfl, rfl, by decide +kernel, rfl, by decide +kernel, by decide +kernel⟩
theorem ok_of_walks (T : Top K mg A) (D : DefAt K mg "of_walks" s_of_walks ["desk", "door", "arguments"]) (C_Walk : Cl P w K mg base CX0 1 A.cW "Walk" ["self", "tokens"] (sp_Walk A)) (C_Nothing : Cl P w K mg base CX0 1 A.cN "Nothing" ["self"] (sp_Nothing A))
    (C_stepped : Fn P w K mg base CX0 4 "stepped" ["value", "is_done"] (sp_stepped A)) (C_token_told : Fn P w K mg base CX0 4 "token_told" ["token"] (sp_token_told A)) (M_now : Mt P w K mg base CX0 1 A.cO "now" ["self"] (sp_now A)) :
    Fn P w K mg base CX0 5 "of_walks" ["desk", "door", "arguments"] (sp_of_walks A) := by
  refine D.ok sc_of_walks (fun vs H Q E h => ?_) (fun f cdv Ar outer s H vs Q E hr h => ?_)
  · obtain ⟨k, p, door, s, x, v, G, own, dl, wl, ds, ws, m, rfl, _⟩ := h
    rfl
  · obtain ⟨k, p, door, s, x, v, G, own, dl, wl, ds, ws, m, rfl, ⟨h, hp, hv⟩, hmay, hgood, h8, q⟩ := h
    have hG := h.s
    obtain ⟨dxk, hk⟩ := h.hk
    have l0 : List.lookup ("documents" : Str) [("documents", V.ref dl), ("walks", V.ref wl)] = some (.ref dl) := lk_here
    have l1 : List.lookup ("walks" : Str) [("documents", V.ref dl), ("walks", V.ref wl)] = some (.ref wl) := (lk_past (by decide)).trans lk_here
    refine ⟨_, (pss_cons (ps_set (i := 3) sc_of_walks.nd rfl (.inl rfl) (pe_fld (pv 0) rfl))
      (pss_cons (ps_if (pt_cmpR op_eq (pv 1) pe_int (nomark _)) (pss_cons (ps_asg (pe_mkf C_Walk hr (by first | decide | omega) (pa_cons (pe_fld (pe_mt0f M_now hr (by first | decide | omega) (pe_ix ix_list (pe_fld (pv 0) rfl) (pe_ix ix_list (pv 2) pe_int (fun _ _ => rfl)) (fun _ _ => rfl))) rfl) pa_nil)) (pg_sub (pv 3) (pe_ix ix_list (pv 2) pe_int (fun _ _ => rfl)) set_list))
      (pss_one (ps_ret (pe_mk0f C_Nothing hr (by first | decide | omega))))) pss_nil)
      (pss_cons (ps_set (i := 4) sc_of_walks.nd rfl (.inl rfl) (pe_ix ix_list (pv 3) (pe_ix ix_list (pv 2) pe_int (fun _ _ => rfl)) (fun _ _ => rfl)))
      (pss_cons (ps_if (PW.pt (pw_or (pt_cmpR op_eq (pv 1) pe_int (nomark _)) (pw_or1 (pt_not (pt_truth (pe_fld (pv 4) rfl) (by intro _; rfl)))))) (pss_cons (ps_fld (pv 4) (pe_lst pa_nil) rfl)
      (pss_one (ps_ret (pe_f C_stepped hr (by first | decide | omega) (pa_cons (pe_mk0f C_Nothing hr (by first | decide | omega)) (pa_cons pe_bl pa_nil)))))) pss_nil)
      (pss_cons (ps_set (i := 5) sc_of_walks.nd rfl (.inl rfl) (pe_ix ix_list (pe_fld (pv 4) rfl) pe_int (fun _ _ => rfl)))
      (pss_cons (ps_fld (pv 4) (pe_slice sl_list (pe_fld (pv 4) rfl) (po_some pe_int) po_none) rfl)
      (pss_one (ps_ret (pe_f C_stepped hr (by first | decide | omega) (pa_cons (pe_f C_token_told hr (by first | decide | omega) (pa_cons (pv 5) pa_nil)) (pa_cons pe_bl pa_nil))))))))))), ?_⟩
    walk_at "rd"
    refine ⟨_, _, _, hk, T.clK, T.a_walks, _, l1, ?_⟩
    have hs2 := hmay.slot
    by_cases h8d : door = 8
    · rw [if_pos (by omega)]
      obtain ⟨j, d, rfl, hd⟩ := hmay.src h8d
      cases hv
      obtain ⟨xr, hxr, hdoc⟩ := h.doc_at hd
      have hg := hgood.docs j d hd
      obtain ⟨dxd, had⟩ := hdoc.ha
      have eq : walkOf m door s (.int (j : Int)) = ({ m with walks := m.walks.set s (some d.now.toks) }, .nothing) := by
        unfold walkOf
        rw [if_pos h8d]
        show (match m.docs.getD (j : Int).toNat none with | some d => _ | none => _) = _
        rw [Int.toNat_natCast, List.getD_eq_getElem?_getD, hd]
        rfl
      rw [eq] at q
      refine ⟨_, _, _, hk, T.clK, T.a_documents, _, l0, _, SqL.of (hG _ _ hp), _, rfl, dl, rfl, _, _, rfl, SqL.of h.hd, _, atV hxr, xr.1, rfl, _, _, had, df_no (by decide) (by decide) (by decide) (by decide), xr.1, rfl, xr.2.1, xr.2.2, d, G, hdoc, hg.cur, fun b hb hvb => ?_⟩
      obtain ⟨dxv, tt, tk, hb1, hbn, htt, hLk⟩ := hvb
      refine ⟨_, _, _, hb1, T.clV, T.a_tokens, _, vf_tokens, fun y dy hy hdy ny => ?_⟩
      have g1 : Grow Sno G H G (insN H A.cW y dy [("left", .ref tk)]) := (Grow.refl hG).insTmp hy hdy ny
      refine ⟨y, dy, [.ref tk], H, rfl, rfl, rfl, rfl, _, SqL.of (g1.s _ _ hp), _, rfl, wl, rfl, _, _, rfl, (h.grow g1).hw, s, ?_, fun y2 dy2 hy2 hdy2 ny2 => ?_⟩
      · unfold ixN
        rw [if_pos (by omega), if_pos (by rw [List.length_map, h.lw.1]; omega), Int.toNat_natCast]
      · have hst := h.step_walk (i := s) (x := y) (dw := dy) (p := tk) (l := d.now.toks) g1 insN_at (hG.free hy) hLk hy
        have hst2 := hst
        obtain ⟨_, _, _, _, hdk, _⟩ := hst2
        refine nothing_new (Grow.refl (S := Sno) hdk.s) (fun y4 G4 H4 g4 _ hv4 => ?_) hy2 hdy2 ny2
        exact q (.ref y4) G4 H4 (hst.then g4) hv4
    · rw [if_neg (by omega)]
      obtain ⟨l, hl⟩ := hmay.walk (by omega)
      obtain ⟨xw, hxw, dxw, pw, hw1, hw2, hw3⟩ := h.walk_at' hl
      refine ⟨_, SqL.of (hG _ _ hp), _, rfl, wl, rfl, _, _, rfl, SqL.of h.hw, _, atV hxw, ?_⟩
      have e10 : walkOf m door s v = if door = 10 then ({ m with walks := m.walks.set s (some []) }, stepV .nothing true) else (match l with
          | [] => ({ m with walks := m.walks.set s (some []) }, stepV .nothing true)
          | t :: r => ({ m with walks := m.walks.set s (some r) }, stepV (tokV t) false)) := by
        unfold walkOf
        rw [if_neg h8d, List.getD_eq_getElem?_getD, hl]
        rfl
      have fin : walkOf m door s v = ({ m with walks := m.walks.set s (some []) }, stepV .nothing true) → ∀ p9, H p9 = none → ∀ y dy, upd (upd H p9 (.lst [])) xw (.ins A.cW dxw [("left", .ref p9)]) y = none → upd (upd H p9 (.lst [])) xw (.ins A.cW dxw [("left", .ref p9)]) dy = none → dy ≠ y →
          sp_Nothing A [V.ref y] (upd (upd (upd (upd H p9 (.lst [])) xw (.ins A.cW dxw [("left", .ref p9)])) dy (.own y)) y (.ins A.cN dy [])) (fun v H2 => v = .non ∧ ∃ x7 G7, Same G7 H2 ∧ Vl A G7 (.ref y) x7 ∧ ∀ x8 G' H', Grow Sno G7 H2 G' H' → Vl A G' (.ref x8) (stepV x7 true) → Q (.ref x8) H') E0 := fun e p9 hp9 y dy hy hdy ny => by
        rw [e] at q
        have g9 : Grow Sno G H (upd G p9 (.lst [])) (upd H p9 (.lst [])) := (Grow.refl hG).new hp9
        have h9 := h.grow g9
        have hst := (h9.step_left (dw := dxw) (p := p9) (l := []) hxw (g9.out hw2 (some_ne hw1)) ⟨[], upd_same, .nil⟩).more g9
        obtain ⟨_, _, _, _, hdk, _⟩ := id hst
        refine nothing_new (A := A) (Q := fun vr H2 => ∃ x7 G7, Same G7 H2 ∧ Vl A G7 vr x7 ∧ ∀ x8 G' H', Grow Sno G7 H2 G' H' → Vl A G' (.ref x8) (stepV x7 true) → Q (.ref x8) H') (Grow.refl (S := Sno) hdk.s) (fun y4 G4 H4 g4 _ hv4 => ?_) hy hdy ny
        exact ⟨.nothing, G4, g4.s, hv4, fun y5 G5 H5 g5 hv5 => q (.ref y5) G5 H5 ((hst.then g4).then g5) hv5⟩
      by_cases h10 : door = 10
      · rw [if_pos (by omega)]
        rw [if_pos h10] at e10
        refine ⟨Nat.zero_le _, fun p9 hp9 => ⟨xw, rfl, _, dxw, [("left", V.ref pw)], (by rw [upd_ne (ne_of_none hw1 hp9)]; exact hw1), T.clW, T.a_left, (by decide : 1 < 1000), ?_⟩⟩
        exact fin e10 p9 hp9
      · rw [if_neg (by omega)]
        rw [if_neg h10] at e10
        obtain ⟨asw, hpw, hlw⟩ := id hw3
        refine ⟨xw, rfl, _, dxw, _, hw1, T.clW, T.a_left, _, lk_here, !(asw.map V.ref).isEmpty, .inl ⟨_, SqL.of (hG _ _ hpw), rfl⟩, ?_⟩
        cases hlw with
        | nil =>
          rw [if_pos (by rfl)]
          refine ⟨Nat.zero_le _, fun p9 hp9 => ⟨xw, rfl, _, dxw, [("left", V.ref pw)], (by rw [upd_ne (ne_of_none hw1 hp9)]; exact hw1), T.clW, T.a_left, (by decide : 1 < 1000), ?_⟩⟩
          exact fin e10 p9 hp9
        | @cons b9 t9 as9 l9 hb9 hr9 =>
          rw [if_neg (show ¬ (!!((b9 :: as9).map V.ref).isEmpty) = true from Bool.false_ne_true)]
          have el : cutV ((b9 :: as9).map V.ref) (some 1) none = as9.map V.ref := cut_one _ _
          refine ⟨xw, rfl, _, dxw, _, hw1, T.clW, T.a_left, _, lk_here, pw, rfl, _, SqL.of (hG _ _ hpw), .ref b9, at_of (j := 0) rfl rfl, xw, rfl, _, dxw, _, hw1, T.clW, T.a_left, _, lk_here, pw, _, rfl, SqL.of (hG _ _ hpw), fun p9 hp9 => ?_⟩
          rw [el]
          refine ⟨xw, rfl, _, dxw, [("left", V.ref pw)], (by rw [upd_ne (ne_of_none hw1 hp9)]; exact hw1), T.clW, T.a_left, (by decide : 1 < 1000), ?_⟩
          have g9 : Grow Sno G H (upd G p9 (.lst (as9.map V.ref))) (upd H p9 (.lst (as9.map V.ref))) := (Grow.refl hG).new hp9
          have h9 := h.grow g9
          have hst := (h9.step_left (dw := dxw) (p := p9) (l := l9) hxw (g9.out hw2 (some_ne hw1)) ⟨as9, upd_same, paired_mono (fun _ _ h => g9.g _ _ h) hr9⟩).more g9
          rw [e10] at q
          have hst' := hst
          obtain ⟨_, _, _, _, hdk, _⟩ := hst'
          refine ⟨b9, rfl, t9, _, hdk.s, g9.g _ _ hb9, hgood.walks s _ hl t9 (List.mem_cons_self ..), fun y5 G5 H5 g5 hv5 => ⟨_, G5, g5.s, hv5, fun y6 G6 H6 g6 hv6 => q (.ref y6) G6 H6 ((hst.then g5).then g6) hv6⟩⟩
abbrev s_done : Stmt := top 62
theorem sc_done : FnScope ["desk", "door", "arguments", "document"] ["desk", "door", "arguments"] (defScope s_done) := ⟨rfl, rfl, rfl, by decide +kernel, rfl, by decide +kernel, by decide +kernel⟩
theorem ok_done (T : Top K mg A) (D : DefAt K mg "done" s_done ["desk", "door", "arguments"]) (C_document_new : Fn P w K mg base (L2N.CX P w) 8 "document_new" ["desk", "slot", "text"] (sp_document_new A)) (C_of_walks : Fn P w K mg base CX0 5 "of_walks" ["desk", "door", "arguments"] (sp_of_walks A))
    (C_edit : Fn P w K mg base (L2N.CX P w) 7 "edit" ["document", "value"] (sp_dedit A)) (C_token : Fn P w K mg base CX0 5 "token" ["document", "value"] (sp_token A)) (C_of_versions : Fn P w K mg base (L2N.CX P w) 4 "of_versions" ["document", "door", "value"] (sp_of_versions A))
    (M_now : Mt P w K mg base CX0 1 A.cO "now" ["self"] (sp_now A)) : Fn P w K mg base (L2N.CX P w) 9 "done" ["desk", "door", "arguments"] (sp_done A) := by
  refine D.okN sc_done (fun vs H Q E h => ?_) (fun f cdv Ar outer s H vs Q E hr h => ?_)
  · obtain ⟨k, p, door, s, x, v, G, own, dl, wl, ds, ws, m, rfl, _⟩ := h
    rfl
  · obtain ⟨k, p, door, s, x, v, G, own, dl, wl, ds, ws, m, rfl, ⟨h, hp, hv⟩, hmay, hgood, hfine, q⟩ := h
    have hG := h.s
    obtain ⟨dxk, hk⟩ := h.hk
    have l0 : List.lookup ("documents" : Str) [("documents", V.ref dl), ("walks", V.ref wl)] = some (.ref dl) := lk_here
    have hs2 := hmay.slot
    have hm10 := hmay.most
    refine ⟨_, (pss_cons (ps_if (pt_cmpR op_eq (pv 1) pe_int (nomark _)) (pss_one (ps_ret (pe_fS C_document_new hr (by first | decide | omega) (tk := L2N.takes_of rfl rfl rfl rfl) (pa_cons (pv 0) (pa_cons (pe_ix ix_list (pv 2) pe_int (fun _ _ => rfl)) (pa_cons (pe_ix ix_list (pv 2) pe_int (fun _ _ => rfl)) pa_nil)))))) pss_nil)
      (pss_cons (ps_if (pt_cmpR op_ge (pv 1) pe_int (nomark _)) (pss_one (ps_ret (pe_f C_of_walks hr (by first | decide | omega) (pa_cons (pv 0) (pa_cons (pv 1) (pa_cons (pv 2) pa_nil)))))) pss_nil)
      (pss_cons (ps_set (i := 3) sc_done.nd rfl (.inl rfl) (pe_ix ix_list (pe_fld (pv 0) rfl) (pe_ix ix_list (pv 2) pe_int (fun _ _ => rfl)) (fun _ _ => rfl)))
      (pss_cons (ps_if (pt_cmpR op_eq (pv 1) pe_int (nomark _)) (pss_one (ps_ret (pe_fld (pe_mt0f M_now hr (by first | decide | omega) (pv 3)) rfl))) pss_nil)
      (pss_cons (ps_if (pt_cmpR op_eq (pv 1) pe_int (nomark _)) (pss_one (ps_ret (pe_fld (pv 3) rfl))) pss_nil)
      (pss_cons (ps_if (pt_cmpR op_eq (pv 1) pe_int (nomark _)) (pss_one (ps_ret (pe_fS C_edit hr (by first | decide | omega) (tk := L2N.takes_of rfl rfl rfl rfl) (pa_cons (pv 3) (pa_cons (pe_ix ix_list (pv 2) pe_int (fun _ _ => rfl)) pa_nil))))) pss_nil)
      (pss_one (ps_ret (pe_ifExp (pt_cmpR op_eq (pv 1) pe_int (nomark _)) (pe_f C_token hr (by first | decide | omega) (pa_cons (pv 3) (pa_cons (pe_ix ix_list (pv 2) pe_int (fun _ _ => rfl)) pa_nil))) (pe_fS C_of_versions hr (by first | decide | omega) (tk := L2N.takes_of rfl rfl rfl rfl) (pa_cons (pv 3) (pa_cons (pv 1) (pa_cons (pe_ix ix_list (pv 2) pe_int (fun _ _ => rfl)) pa_nil))))))))))))), ?_⟩
    walk_at "rd"
    have a0 := SqL.of (K := K) (hG _ _ hp)
    by_cases h0 : door = 0
    · rw [if_pos (by omega)]
      refine ⟨_, a0, _, rfl, _, a0, _, rfl, s, rfl, v, G, own, dl, wl, ds, ws, m, h, hs2, hv, ?_⟩
      have eq : mDone m door s v = (match newOf v with
        | .error e => .error e
        | .ok u => .ok ({ m with docs := m.docs.set s (some (mNew u)) }, .nothing)) := if_pos h0
      rw [eq] at q
      cases hn : newOf v with
      | error e =>
        rw [hn] at q
        exact q
      | ok u =>
        rw [hn] at q
        exact fun y G' H' hst hy => q (.ref y) G' H' hst hy
    · rw [if_neg (by omega)]
      by_cases h8 : 8 ≤ door
      · rw [if_pos (by omega)]
        have eq : mDone m door s v = .ok (walkOf m door s v) := by
          unfold mDone
          rw [if_neg h0, if_pos h8]
        rw [eq] at q
        exact ⟨p, door, rfl, rfl, s, x, v, G, own, dl, wl, ds, ws, m, ⟨h, hp, hv⟩, hmay, hgood, h8, q⟩
      · rw [if_neg (by omega)]
        obtain ⟨d, hd⟩ := hmay.doc (by omega) (by omega)
        obtain ⟨xr, hxr, hdoc⟩ := h.doc_at hd
        have hg := hgood.docs s d hd
        obtain ⟨dxd, had⟩ := hdoc.ha
        refine ⟨_, _, _, hk, T.clK, T.a_documents, _, l0, _, a0, _, rfl, dl, rfl, _, _, rfl, SqL.of h.hd, _, atV hxr, ?_⟩
        have eq : mDone m door s v = if door = 1 then .ok (m, .text (d.now.text.map Rust.octetOf)) else if door = 2 then .ok (m, .int d.cur) else if door = 3 then (match editOf d v with
            | .error e => .error e
            | .ok d' => .ok ({ m with docs := m.docs.set s (some d') }, .int d'.cur))
          else if door = 7 then .ok (m, tokOf d v) else (match versOf door d v with
            | .error e => .error e
            | .ok d' => .ok ({ m with docs := m.docs.set s (some d') }, .int d'.cur)) := by
          unfold mDone
          rw [if_neg h0, if_neg h8, List.getD_eq_getElem?_getD, hd]
          rfl
        rw [eq] at q
        by_cases h1 : door = 1
        · rw [if_pos (by omega)]
          rw [if_pos h1] at q
          refine ⟨xr.1, rfl, _, _, had, df_no (by decide) (by decide) (by decide) (by decide), xr.1, rfl, xr.2.1, xr.2.2, d, G, hdoc, hg.cur, fun b hb hvb => ?_⟩
          obtain ⟨dxv, tt, tk, hb1, hbn, htt, hLk⟩ := hvb
          refine ⟨_, _, _, hb1, T.clV, T.a_text, _, vf_text, q _ G H (h.step_refl (Grow.refl hG)) (.text ?_)⟩
          show G tt = _
          rw [show G tt = some (.tup (U d.now.text)) from htt, U_octets (u := d.now.text) (hg.narrow _ (List.mem_of_getElem? (getD_at hg.cur)))]
        · rw [if_neg (by omega)]
          rw [if_neg h1] at q
          by_cases h2 : door = 2
          · rw [if_pos (by omega)]
            rw [if_pos h2] at q
            exact ⟨xr.1, rfl, _, _, _, had, T.clO, T.a_current, _, df_current, q _ G H (h.step_refl (Grow.refl hG)) (.int _)⟩
          · rw [if_neg (by omega)]
            rw [if_neg h2] at q
            by_cases h3 : door = 3
            · rw [if_pos (by omega)]
              rw [if_pos h3] at q
              refine ⟨_, a0, _, rfl, xr.1, rfl, xr.2.1, xr.2.2, d, v, G, hdoc, hg, hv, hfine.reps, fun c => hfine.chg _ c, ?_⟩
              cases he : editOf d v with
              | error e =>
                rw [he] at q
                exact q
              | ok d' =>
                rw [he] at q
                exact fun G' H' ⟨bs', g, hd', fr⟩ => q _ G' H' (h.step_doc hxr g hd' fr) (.int _)
            · rw [if_neg (by omega)]
              rw [if_neg h3] at q
              by_cases h7 : door = 7
              · rw [if_pos (by omega)]
                rw [if_pos h7] at q
                refine ⟨_, a0, _, rfl, xr.1, rfl, xr.2.1, xr.2.2, d, v, G, hdoc, hg, hv, fun y G' H' g hy => q y G' H' (h.step_refl g) hy⟩
              · rw [if_neg (by omega)]
                rw [if_neg h7] at q
                refine ⟨_, a0, _, rfl, xr.1, rfl, xr.2.1, xr.2.2, d, door, rfl, v, G, hdoc, hg, hv, ?_⟩
                cases he : versOf door d v with
                | error e =>
                  rw [he] at q
                  exact q
                | ok d' =>
                  rw [he] at q
                  exact fun G' H' ⟨bs', g, hd', fr⟩ => q _ G' H' (h.step_doc hxr g hd' fr) (.int _)
end
end Tk
end
section
set_option Elab.async false
set_option linter.all false
set_option maxRecDepth 100000
set_option maxHeartbeats 2000000
/-! The walk, part 17: desk.py: requests and their answers. -/
namespace Tk
open PySem PySem.Spec PyProof.Rows L2
open RWire (Octets write writeText numOf)
open R7253e.Spec (Token)
open Law (MDoc MVer Good)
/-- what is asked of the written part beyond TopF -/
structure TopE (K : PySem.W.Frag) (A : Ads) : Prop where
  em : PySem.W.exmOne K (.ref A.cF) (.ref A.cF) = some true
theorem no_takes {X : Cx} : L2N.Takes X (fun _ _ _ _ => False) := fun u s' x => by
  obtain ⟨_, _, _, _, _, _, _, _, _, _, _, _, _, _, _, _, w⟩ := x
  exact w.elim
theorem hot_suite {X : Cx} {a : Addr} {oe : Obj} {cls : Value} {d : Option Addr} {pn : List (Addr × Obj)} (hz : L2N.Zn cls d oe) (hf : ∃ vs, oe.data = .fields vs) : L2H.HotC (X.suite a ((a, oe) :: pn)) := by
  obtain ⟨vs, hd⟩ := hf
  exact ⟨(a, oe), ⟨rfl, vs, hd, hz.2.2 vs hd⟩, List.mem_cons_self⟩
theorem Grow.strict {S : Addr → Prop} {G H G' H' : Hp} (g : Grow S G H G' H') (hs : ∀ b, S b → H b = none) : Grow Sno G H G' H' := ⟨g.g, fun b o e _ => g.h b o e fun z => absurd (hs b z) (some_ne e), g.s, g.n, g.l⟩
def nextOf (m : MDesk) (door s : Nat) (v : RWire.Value) : MDesk := match mDone m door s v with
  | .error _ => m
  | .ok r => r.1
def ansOf (m : MDesk) (door s : Nat) (v : RWire.Value) : Octets := match mDone m door s v with
  | .error e => 1 :: UInt8.ofNat e.1.toNat :: writeText (txtOf e.2)
  | .ok r => 0 :: write r.2
/-- the answer can be told -/
def Tells (m : MDesk) (door s : Nat) (v : RWire.Value) : Prop := match mDone m door s v with
  | .error e => asc e.2 ∧ 0 ≤ e.1 ∧ e.1 < 256
  | .ok r => wOk r.2 = true ∧ RWire.depth r.2 ≤ 4 ∧ (write r.2).length ≤ 90000
structure ReqOk (m : MDesk) (row : Octets) (door s : Nat) (v : RWire.Value) : Prop where
  ex : ∃ l, RWire.readRequest row = some (door, .int (s : Int) :: l) ∧ l.length ≤ 1 ∧ v = l.getD 0 .nothing ∧ RWire.noBigMany (.int (s : Int) :: l) = true ∧ RWire.noWideMany (.int (s : Int) :: l) = true
  len : row.length < 100000
  may : MayCall m door s v
  fine : FineArg v
  tells : Tells m door s v
def sp_answer_of : Ads → Sp := fun A vs H Q E => ∃ (k r : Addr) (row : Octets) (door s : Nat) (v : RWire.Value) (G : Hp) (own : Addr → Nat) (dl wl : Addr) (ds : List (Option DocRef)) (ws : List (Option Addr)) (m : MDesk), vs = [.ref k, .ref r] ∧ DeskAt A G H own k dl wl ds ws m ∧ G r = some (.lst (Oc row)) ∧ GoodDesk m ∧ ReqOk m row door s v ∧
  ∀ y G' H', Step A G H k dl wl ds ws (nextOf m door s v) G' H' → H y = none → G' y = some (.lst (Oc (ansOf m door s v))) → Q (.ref y) H'
local macro_rules | `(tactic| walk_at "rd") => `(tactic| simp only [sp_request, sp_answer_of, sp_done, sp_written, sp_counted, sp_text_ofH, tXf, cxK, cxNK, cxNN, cxHK, tRet, tRetN, tChain, tC, tVar, rI0, rI, tOp, tUn, rU, tIf, tTest, tB, tNot, tAnd, tOr, tAndV, tOrV, tNotV, tCB, tCons, tNil, tNext, tSeq, tIfS, tDrop, tAsg, gName, tPar, tPar3, tAug, ipI, tCall, tCallS, E0, rEq, rNe, scal, rIxT, rIxL,  tTup, tLst, gTup, gCons, gNil, iTup, iList, iStr, iRng1, wipe, tSl, tPart, tNoPart, rIn,  tFld, sFld, sFldAug, tMeth, tMake, rAdd, tYes, tBM, rAppend, rExtend, rCat, rSetL, gSub,
  L2.start, List.map_cons, List.map_nil, List.length_cons, List.length_nil, Nat.reduceAdd, Nat.reduceSub, List.replicate_succ, List.replicate_zero, List.cons_append, List.nil_append, List.append_nil,
  List.getElem?_cons_zero, List.getElem?_cons_succ, List.set_cons_zero, List.set_cons_succ, Option.some.injEq, exists_eq_left, exists_eq_left', exists_eq_right, exists_eq_right', V.int.injEq, V.bl.injEq, V.str.injEq, V.ref.injEq, List.cons.injEq, true_and, and_true, and_assoc, exists_and_left, decide_eq_true_eq, Bool.false_eq_true, if_true, if_false, ite_true, ite_false, reduceIte, reduceCtorEq])

section
variable {P : Program} {w : World} {K : PySem.W.Frag} {mg : Str → Option Value} {base : Heap} {A : Ads}
abbrev s_answer_of : Stmt := top 63
theorem sc_answer_of : FnScope ["desk", "row", "door", "arguments", "e", "turn"] ["desk", "row"] (defScope s_answer_of) := ⟨rfl, rfl, rfl, by decide +kernel, rfl, by decide +kernel, by decide +kernel⟩
theorem ok_answer_of (T : Top K mg A) (F : TopF K A) (B : TopE K A) (hmF : mg "Refusal" = some (.ref A.cF)) (D : DefAt K mg "answer_of" s_answer_of ["desk", "row"]) (C_Reader : Cl P w K mg base CX0 1 A.cD "Reader" ["self", "row"] (sp_Reader A)) (M_request : Mt P w K mg base CX0 37 A.cD "request" ["self"] (sp_request A))
    (C_Nothing : Cl P w K mg base CX0 1 A.cN "Nothing" ["self"] (sp_Nothing A)) (C_written : Fn P w K mg base CX0 6 "written" ["value"] (sp_written A 4)) (C_done : Fn P w K mg base (L2N.CX P w) 9 "done" ["desk", "door", "arguments"] (sp_done A))
    (C_countedH : FnHot P w K mg base CX0 2 "counted" ["row"] sp_counted) (C_text_ofH : FnHot P w K mg base CX0 1 "text_of" ["words"] sp_text_ofH) : Fn P w K mg base CX0 38 "answer_of" ["desk", "row"] (sp_answer_of A) := by
  refine D.ok sc_answer_of (fun vs H Q E h => ?_) (fun f cdv Ar outer s9 H vs Q E hr h => ?_)
  · obtain ⟨k, r, row, door, s, v, G, own, dl, wl, ds, ws, m, rfl, _⟩ := h
    rfl
  · obtain ⟨k, r, row, door, s, v, G, own, dl, wl, ds, ws, m, rfl, h, hrow, hgood, hreq, q⟩ := h
    have hG := h.s
    refine ⟨_, (pss_cons (ps_asg (pe_mt0f M_request hr (by first | decide | omega) (pe_mkf C_Reader hr (by first | decide | omega) (pa_cons (pv 1) pa_nil))) (pg_tup (n := 2) rfl (pgs_cons (pg_name (i := 2) sc_answer_of.nd rfl (Or.inl rfl)) (pgs_cons (pg_name (i := 3) sc_answer_of.nd rfl (Or.inl rfl)) pgs_nil))))
      (pss_cons (ps_set (i := 3) sc_answer_of.nd rfl (.inl rfl) (pe_op op_cat (pv 3) (pe_lc (own := [("turn", 5)]) (g := (gName 5)) rfl sc_answer_of.nd (pi_range1 (by rfl) T.n_range (pa_cons (pe_op op_sub pe_int (pe_callB call_len_seq (by rfl) T.n_len PySem.boot_len (pa_cons (pv 3) pa_nil))) pa_nil)) (blkOk_by (N := ["desk", "row", "door", "arguments", "e", "turn"]) (sc := defScope s_answer_of) (by decide +kernel)) (fun _ _ _ _ _ => (pg_name (i := 5) sc_answer_of.nd rfl (Or.inl rfl))) (fun _ _ _ _ _ => pts_nil) (fun _ _ _ _ _ => (pe_mk0f C_Nothing hr (by first | decide | omega))))))
      (pss_one (L2N.ps_try_as (i := 4) rfl rfl sc_answer_of.nd rfl (by rfl) ⟨by rfl, by decide, .inl hmF⟩ no_takes (fun W pn xe tk po => (pss_one (ps_ret (pe_op op_cat (pe_lst (pa_cons pe_int pa_nil)) (pe_f C_written hr (by first | decide | omega) (pa_cons (pe_fS C_done hr (by first | decide | omega) (tk := tk) (pa_cons (pv 0) (pa_cons (pv 2) (pa_cons (pv 3) pa_nil)))) pa_nil)))))) (fun a oe cls d pn hz hf => (pss_one (ps_ret (pe_op op_cat (pe_lst (pa_cons pe_int (pa_cons (pe_xf F.xf F.kind hz.zc hf (pv 4)) pa_nil))) (pe_fH C_countedH (L2H.roomH_mark hr _) (hot_suite hz hf) (by decide) (pa_cons (pe_fH C_text_ofH (L2H.roomH_mark hr _) (hot_suite hz hf) (by decide) (pa_cons (pe_xf F.xf F.message hz.zc hf (pv 4)) pa_nil)) pa_nil)))))))))), ?_⟩
    walk_at "rd"
    obtain ⟨l, hq, hll, hv, nb1, nw1⟩ := hreq.ex
    intro b db hb hdb nb
    have g0 : Grow Sno G H G (insN H A.cD b db [("row", .ref r), ("at", .int 0)]) := (Grow.refl hG).insTmp hb hdb nb
    refine ⟨b, db, [.ref r], H, rfl, rfl, rfl, rfl, _, _, insN_at, rd_no (by decide) (by decide), r, row, door, _, G, ⟨g0.s, hG.free hb, hrow, ⟨db, insN_at⟩, Nat.zero_le _, hreq.len⟩, hq, nb1, nw1, fun t p xs G1 H1 g1 ht hp hall => ?_⟩
    have g2 : Grow Sno G H G1 H1 := ((g0.wide (S := (· = b))).trans g1 fun _ z => .inl z).strict fun c z => by rw [z]; exact hb
    have h1 := h.grow g2
    refine ⟨[.int door, .ref p], SqT.of (g2.s _ _ ht), rfl, _, _, rfl, _, _, rfl, rfl, ?_⟩
    cases hall with
    | @cons x0 xs' _ _ hx0 hxs =>
      cases hx0
      have hxl := hxs.len
      have hlen2 : (V.int (s : Int) :: xs').length = xs'.length + 1 := rfl
      have s8 : 8 ≤ sizeLine := by decide
      refine ⟨.ref p, rfl, p, rfl, _, .inl (SqL.of (g2.s _ _ hp)), 2, _, rfl, rfl, _, rfl, by omega, by omega, fun D hD => ?_⟩
      have hn : ((2 : Int) - ((V.int (s : Int) :: xs').length : Nat)).toNat = 1 - xs'.length := by omega
      rw [hn]
      refine lc_it walk_range (fun j H' => ∃ ys G2, Grow Sno G1 H1 G2 H' ∧ H' D = some (.lst ys) ∧ G2 D = none ∧ VlAll A G2 ys (List.replicate j .nothing)) ⟨[], G1, (Grow.refl g2.s).tmp hD, upd_same, g2.s.free hD, .nil⟩ (fun _ _ _ _ => True.intro) (fun j y H2 H3 hj ⟨ys, G2, g3, hDD, hGD, hys⟩ ⟨e1, e2⟩ => ?_) (fun H2 ⟨ys, G2, g3, hDD, hGD, hys⟩ => ?_)
      · subst e1
        refine ⟨rfl, ?_⟩
        intro b3 db3 hb3 hdb3 nb3
        refine nothing_new (A := A) (Q := fun y H4 => ∃ acc, H4 D = some (.lst acc) ∧ acc.length < sizeLine ∧ ∃ ys G2, Grow Sno G1 H1 G2 (upd H4 D (.lst (acc ++ [y]))) ∧ (upd H4 D (.lst (acc ++ [y]))) D = some (.lst ys) ∧ G2 D = none ∧ VlAll A G2 ys (List.replicate (j + 1) .nothing)) g3 (fun y4 G4 H4 g4 i4 hv4 => ?_) hb3 hdb3 nb3
        have hyl := hys.len
        rw [List.length_replicate] at hyl
        refine ⟨ys, i4.same _ _ hDD, by omega, ys ++ [.ref y4], G4, g4.put (i4.out hGD (some_ne hDD)) (.inr hD), upd_same, i4.out hGD (some_ne hDD), ?_⟩
        rw [List.replicate_succ']
        exact (hys.mono i4.g).snoc hv4
      · have gf := g3.fix hD hDD hGD
        have hyl := hys.len
        rw [List.length_replicate] at hyl
        refine ⟨p, rfl, D, rfl, _, gf.s _ _ (gf.g _ _ hp), _, hDD, by omega, fun p2 hp2 => ⟨by decide, ?_⟩⟩
        have g5 := gf.new (o := .lst ((V.int (s : Int) :: xs') ++ ys)) hp2
        have g6 := g2.transN g5
        -- the two arguments
        have hargs : ∃ x, (V.int (s : Int) :: xs') ++ ys = [.int s, x] ∧ Vl A (upd G2 D (.lst ys)) x v := by
          have eG : Same G1 (upd G2 D (.lst ys)) := gf.g
          have eG2 : Same G2 (upd G2 D (.lst ys)) := same_new hGD
          match l, xs', ys, hxs, hys, hll, hxl, hyl with
          | [], [], [y], _, hys, _, _, _ =>
            refine ⟨y, rfl, ?_⟩
            rw [hv]
            have hys : VlAll A G2 [y] (List.replicate 1 .nothing) := hys
            cases hys with
            | cons h1 _ => exact h1.mono eG2
          | [v0], [y], [], hxs, _, _, _, _ =>
            refine ⟨y, rfl, ?_⟩
            rw [hv]
            cases hxs with
            | cons h1 _ => exact h1.mono eG
        obtain ⟨x, ex, hvx⟩ := hargs
        rw [ex] at g5 g6 ⊢
        have hd6 := h.grow g6
        have hp6 : upd (upd G2 D (.lst ys)) p2 (.lst [.int s, x]) p2 = some (.lst [.int s, x]) := upd_same
        have hvx6 := hvx.mono (same_new (o := .lst [.int s, x]) (gf.s.free hp2))
        generalize upd (upd G2 D (.lst ys)) p2 (.lst [.int s, x]) = G6 at g5 g6 hd6 hp6 hvx6
        generalize upd H2 p2 (.lst [.int s, x]) = H6 at g5 g6 hd6 ⊢
        intro p3 hp3
        have g7 := g6.new (o := .lst [.int 0]) hp3
        have hd7 := h.grow g7
        have i7 := (Grow.refl (S := Sno) g6.s).new (o := .lst [.int 0]) hp3
        have hp7 := i7.g _ _ hp6
        have hvx7 := hvx6.mono i7.g
        have h37 : upd G6 p3 (.lst [.int 0]) p3 = some (.lst [.int 0]) := upd_same
        generalize upd G6 p3 (.lst [.int 0]) = G7 at g7 hd7 hp7 hvx7 h37
        generalize upd H6 p3 (.lst [.int 0]) = H7 at g7 hd7 ⊢
        refine ⟨p2, door, rfl, rfl, s, x, v, G7, own, dl, wl, ds, ws, m, ⟨hd7, hp7, hvx7⟩, hreq.may, hgood, hreq.fine, ?_⟩
        have htell := hreq.tells
        unfold Tells at htell
        unfold nextOf ansOf at q
        cases hmd : mDone m door s v with
        | error e =>
          rw [hmd] at htell q
          obtain ⟨⟨t1, t2⟩, t3, t4⟩ := htell
          intro d H8 e8 hd8
          refine ⟨true, B.em, fun _ a9 ha9 => ?_, fun z => Bool.noConfusion (show true = false from z)⟩
          have g8 := g7.junk e8
          walk_at "rd"
          have lkk : List.lookup ("kind" : Str) [("message", V.str e.2), ("kind", V.int e.1)] = some (.int e.1) := (lk_past (by decide)).trans lk_here
          have s1000 : 2000 ≤ sizeLine := by decide
          refine ⟨_, hd8, _, lkk, by decide, fun p9 hp9 => ?_⟩
          have g9 := g8.new (o := .lst [V.int 1, .int e.1]) hp9
          refine ⟨_, by rw [upd_ne (ne_of_none hd8 hp9)]; exact hd8, _, lk_here, _, rfl, by omega, t1, _, g9.s, fun p10 G10 H10 g10 h10 => ?_⟩
          rw [codes_txt t1] at h10
          have htl : (txtOf e.2).length = e.2.cps.size := by unfold txtOf; rw [List.length_map]; exact Array.length_toList
          have hwl : (writeText (txtOf e.2)).length = 4 + e.2.cps.size := by rw [writeText, List.length_append, RWire.writeCount, Law.low_len, htl]
          refine ⟨txtOf e.2, G10, g10.s, .inl h10, by omega, fun p11 G11 H11 g11 hp11 h11 => ⟨_, g11.same _ _ (g10.same _ _ upd_same), _, g11.s _ _ h11, by rw [Oc_len, hwl]; show 2 + _ ≤ _; omega, fun p12 hp12 => ?_⟩⟩
          have g11' := (g9.transN g10).transN g11
          have g12 := g11'.new (o := .lst ([V.int 1, .int e.1] ++ Oc (writeText (txtOf e.2)))) hp12
          refine q p12 _ _ (h.step_refl g12) (g11'.back hp12) ?_
          rw [upd_same]
          show some (HO.lst (V.int 1 :: V.int e.1 :: Oc (writeText (txtOf e.2)))) = some (HO.lst (V.int (((1 : UInt8).toNat : Nat) : Int) :: V.int (((UInt8.ofNat e.1.toNat).toNat : Nat) : Int) :: Oc (writeText (txtOf e.2))))
          rw [UInt8.toNat_ofNat', Nat.mod_eq_of_lt (by omega), show ((e.1.toNat : Nat) : Int) = e.1 by omega]
          rfl
        | ok r =>
          rw [hmd] at htell q
          obtain ⟨t1, t2, t3⟩ := htell
          intro y G8 H8 hst hy8
          have hst2 := hst
          obtain ⟨_, _, _, gst, hdk, _⟩ := hst2
          have hG8 : G8 p3 = some (.lst [.int 0]) := gst.g _ _ h37
          refine ⟨r.2, G8, hdk.s, hy8, t2, t1, by omega, fun p9 G9 H9 g9 hp9 h9 => ?_⟩
          have s100 : 100000 ≤ sizeLine := by decide
          refine ⟨_, g9.s _ _ (g9.g _ _ hG8), _, g9.s _ _ h9, by rw [Oc_len]; show 1 + _ ≤ _; omega, fun p12 hp12 => ?_⟩
          have g12 := g9.new (o := .lst ([V.int 0] ++ Oc (write r.2))) hp12
          have hst3 := (hst.more g7).then g12
          refine q p12 _ _ hst3 ?_ ?_
          · exact ((g7.wide (S := Mine k dl wl ds ws)).trans gst (fun b z => .inl z)).back (g9.back hp12)
          · rw [upd_same]
            rfl
end
end Tk
end
section
set_option Elab.async false
set_option linter.all false
set_option maxRecDepth 100000
set_option maxHeartbeats 2000000
/-! The walk, part 18: desk.py: a row of requests. -/
namespace Tk
open PySem PySem.Spec PyProof.Rows L2
open RWire (Octets)
structure Req where
  row : Octets
  door : Nat
  s : Nat
  v : RWire.Value
def nums (l : Octets) : List Int := l.map fun o => (o.toNat : Int)
theorem nums_V (l : Octets) : (nums l).map V.int = Oc l := by
  unfold nums Oc
  rw [List.map_map]
  rfl
theorem nums_len (l : Octets) : (nums l).length = l.length := List.length_map ..
def flat : List Req → List Int
  | [] => []
  | b :: r => 0 :: (b.row.length : Int) :: (nums b.row ++ flat r)
def playOk : MDesk → List Req → Prop
  | m, [] => GoodDesk m
  | m, b :: r => GoodDesk m ∧ ReqOk m b.row b.door b.s b.v ∧ playOk (nextOf m b.door b.s b.v) r
def outsOf : MDesk → List Req → List Int
  | _, [] => []
  | m, b :: r => ((ansOf m b.door b.s b.v).length : Int) :: (nums (ansOf m b.door b.s b.v) ++ outsOf (nextOf m b.door b.s b.v) r)
def desk0 : MDesk := ⟨[none, none], [none, none]⟩
theorem flat_app : ∀ a b : List Req, flat (a ++ b) = flat a ++ flat b
  | [], b => rfl
  | x :: a, b => by
    rw [List.cons_append, flat, flat, flat_app a b, List.cons_append, List.cons_append, List.append_assoc]
def sp_answers : PySem.W.Frag → Sp := fun K vs H Q E => ∃ (c : Addr) (reqs : List Req) (G : Hp), vs = [.ref c] ∧ Same G H ∧ SqL K H c ((flat reqs).map V.int) ∧ playOk desk0 reqs ∧ (outsOf desk0 reqs).length ≤ 10000000 ∧
  ∀ p G' H', Grow Sno G H G' H' → H p = none → G' p = some (.lst ((outsOf desk0 reqs).map V.int)) → Q (.ref p) H'
theorem cut_at (a : List Int) (x y : Int) (r : Octets) (b : List Int) : cutV ((a ++ x :: y :: (nums r ++ b)).map V.int) (some ((a.length : Int) + 2)) (some ((a.length : Int) + 2 + (r.length : Nat))) = Oc r := by
  unfold cutV
  have hl : ((a ++ x :: y :: (nums r ++ b)).map V.int).length = a.length + 2 + r.length + b.length := by
    rw [List.length_map, List.length_append, List.length_cons, List.length_cons, List.length_append, nums_len]
    omega
  rw [hl, six_of (by omega) (by omega), six_of (by omega) (by omega)]
  rw [show ((a.length : Int) + 2).toNat = a.length + 2 by omega, show ((a.length : Int) + 2 + (r.length : Nat)).toNat = a.length + 2 + r.length by omega, show a.length + 2 + r.length - (a.length + 2) = r.length by omega]
  rw [List.map_append, List.map_cons, List.map_cons, List.map_append, nums_V]
  have e : (a.map V.int ++ .int x :: .int y :: (Oc r ++ b.map V.int)) = (a.map V.int ++ [.int x, .int y]) ++ (Oc r ++ b.map V.int) := by rw [List.append_assoc]; rfl
  rw [e, List.drop_left' (by rw [List.length_append, List.length_map]; rfl), List.take_left' (Oc_len r)]
theorem DeskAt.off {A : Ads} {S : Addr → Prop} {G H G' H' : Hp} {own : Addr → Nat} {k dl wl : Addr} {ds : List (Option DocRef)} {ws : List (Option Addr)} {m : MDesk} (h : DeskAt A G H own k dl wl ds ws m) (g : Grow S G H G' H') (hn : ∀ b, Mine k dl wl ds ws b → ¬ S b) : DeskAt A G' H' own k dl wl ds ws m := by
  obtain ⟨dx, hk⟩ := h.hk
  refine ⟨g.s, g.out h.nk (some_ne hk), g.out h.nd (some_ne h.hd), g.out h.nw (some_ne h.hw), ⟨dx, g.keep (hn _ (.inl rfl)) hk⟩, g.keep (hn _ (.inr (.inl rfl))) h.hd, g.keep (hn _ (.inr (.inr (.inl rfl)))) h.hw, h.ld, h.lw, fun i o md h1 h2 => ?_, fun i o mw h1 h2 => ?_, h.ok, h.od, h.ow, h.odoc, h.owalk⟩
  · have hi := h.docs i o md h1 h2
    cases o with
    | none =>
      cases md with
      | none => exact True.intro
      | some d => exact hi.elim
    | some x =>
      cases md with
      | none => exact hi.elim
      | some d => exact DocAt.keep hi g fun b hb => hn b (.inr (.inr (.inr (.inl ⟨i, x, h1, hb⟩))))
  · have hi := h.walks i o mw h1 h2
    cases o with
    | none =>
      cases mw with
      | none => exact True.intro
      | some d => exact hi.elim
    | some x =>
      cases mw with
      | none => exact hi.elim
      | some d =>
        obtain ⟨dx, p, z1, z2, z3⟩ := hi
        exact ⟨dx, p, g.keep (hn x (.inr (.inr (.inr (.inr ⟨i, h1⟩))))) z1, g.out z2 (some_ne z1), z3.mono g.g⟩
local macro_rules | `(tactic| walk_at "rd") => `(tactic| simp only [sp_Desk, sp_answer_of, sp_answers, cxK, cxNK, cxNN, cxHK, tRet, tRetN, tChain, tC, tVar, rI0, rI, tOp, tUn, rU, tIf, tTest, tB, tNot, tAnd, tOr, tAndV, tOrV, tNotV, tCB, tCons, tNil, tNext, tSeq, tIfS, tDrop, tAsg, gName, tPar, tPar3, tAug, ipI, tCall, tCallS, E0, rEq, rNe, scal, rIxT, rIxL,  tTup, tLst, gTup, gCons, gNil, iTup, iList, iStr, iRng1, wipe, tSl, tPart, tNoPart, rIn,  tFld, sFld, sFldAug, tMeth, tMake, rAdd, tYes, tBM, rAppend, rExtend, rCat, rSetL, gSub,
  L2.start, List.map_cons, List.map_nil, List.length_cons, List.length_nil, Nat.reduceAdd, Nat.reduceSub, List.replicate_succ, List.replicate_zero, List.cons_append, List.nil_append, List.append_nil,
  List.getElem?_cons_zero, List.getElem?_cons_succ, List.set_cons_zero, List.set_cons_succ, Option.some.injEq, exists_eq_left, exists_eq_left', exists_eq_right, exists_eq_right', V.int.injEq, V.bl.injEq, V.str.injEq, V.ref.injEq, List.cons.injEq, true_and, and_true, and_assoc, exists_and_left, decide_eq_true_eq, Bool.false_eq_true, if_true, if_false, ite_true, ite_false, reduceIte, reduceCtorEq])

section
variable {P : Program} {w : World} {K : PySem.W.Frag} {mg : Str → Option Value} {base : Heap} {A : Ads}
abbrev s_answers : Stmt := top 64
theorem sc_answers : FnScope ["calls", "desk", "found", "at", "size", "answer"] ["calls"] (defScope s_answers) := ⟨rfl, rfl, rfl, by decide +kernel, rfl, by decide +kernel, by decide +kernel⟩
theorem ok_answers {f : Addr} {fd : FuncData} (T : Top K mg A) (D : Fun K "answers" "answers" s_answers f fd) (C_Desk : Cl P w K mg base CX0 1 A.cK "Desk" ["self"] (sp_Desk A)) (C_answer_of : Fn P w K mg base CX0 38 "answer_of" ["desk", "row"] (sp_answer_of A)) : FnOk P w K mg base CX0 39 f fd ["calls"] (sp_answers K) := by
  refine D.ok sc_answers (fun vs H Q E h => ?_) (fun cdv Ar outer s9 H vs Q E hr h => ?_)
  · obtain ⟨c, reqs, G, rfl, _⟩ := h
    rfl
  · obtain ⟨c, reqs, G, rfl, hG, hc, hok, hsz, q⟩ := h
    refine ⟨_, (pss_cons (ps_par3 (i := 1) (j := 2) (l := 3) (by rfl) sc_answers.nd rfl rfl rfl (by decide) (by decide) (by decide) rfl rfl rfl (pa_cons (pe_mk0f C_Desk hr (by first | decide | omega)) (pa_cons (pe_lst pa_nil) (pa_cons pe_int pa_nil))) (by rfl))
      (pss_cons (ps_while PassesOwn.never (pt_cmpR op_lt (pv 3) (pe_callB call_len_seq (by rfl) T.n_len PySem.boot_len (pa_cons (pv 0) pa_nil)) (nomark _)) (pss_cons (ps_set (i := 4) sc_answers.nd rfl (.inl rfl) (pe_ix ix_list (pv 0) (pe_op op_add (pv 3) pe_int) (fun _ _ => rfl)))
      (pss_cons (ps_set (i := 5) sc_answers.nd rfl (.inl rfl) (pe_f C_answer_of hr (by first | decide | omega) (pa_cons (pv 1) (pa_cons (pe_slice sl_list (pv 0) (po_some (pe_op op_add (pv 3) pe_int)) (po_some (pe_op op_add (pe_op op_add (pv 3) pe_int) (pv 4)))) pa_nil))))
      (pss_cons (ps_aug (i := 3) sc_answers.nd rfl (.inl rfl) (pe_op op_add pe_int (pv 4)) ip_add)
      (pss_cons (ps_expr (pe_bm PySem.F.plainAttrs_list PySem.F.slot_list_append PySem.F.type_list_append mt_append (pv 2) (pa_cons (pe_callB call_len_seq (by rfl) T.n_len PySem.boot_len (pa_cons (pv 5) pa_nil)) pa_nil)))
      (pss_one (ps_expr (pe_bm PySem.F.plainAttrs_list PySem.F.slot_list_extend PySem.F.type_list_extend mt_extend (pv 2) (pa_cons (pv 5) pa_nil)))))))))
      (pss_one (ps_ret (pv 2))))), ?_⟩
    walk_at "rd"
    intro k dk hk hdk nk
    refine ⟨dk, H, rfl, hk, hdk, nk, G, hG, fun H1 own dl wl g1 hdl hwl h1 => ⟨Nat.zero_le _, fun D hD => ?_⟩⟩
    have sz : 10000000 ≤ sizeLine := by decide
    have hm0 : ∀ b, Mine k dl wl [none, none] [none, none] b → H b = none := fun b hb => by
      rcases hb with rfl | rfl | rfl | ⟨i, x, z, _⟩ | ⟨i, z⟩
      · exact hk
      · exact hdl
      · exact hwl
      · cases nones z
      · cases nones z
    have g2 := g1.tmp (o := .lst []) hD
    have i2 := (Grow.refl (S := Sno) g1.s).tmp (o := .lst []) hD
    have h2 := h1.grow i2
    have hD0 : H D = none := g1.back hD
    refine ⟨fun n σ H' => ∃ (pre rest : List Req) (m : MDesk) (own : Addr → Nat) (ds : List (Option DocRef)) (ws : List (Option Addr)) (out : List Int) (v4 v5 : Option V) (G1 : Hp), n = rest.length ∧ σ = [some (.ref c), some (.ref k), some (.ref D), some (.int ((flat pre).length : Nat)), v4, v5] ∧ reqs = pre ++ rest ∧
      playOk m rest ∧ outsOf desk0 reqs = out ++ outsOf m rest ∧ Grow Sno G H G1 H' ∧ DeskAt A G1 H' own k dl wl ds ws m ∧ (∀ b, Mine k dl wl ds ws b → H b = none) ∧ ¬ Mine k dl wl ds ws D ∧ G1 D = none ∧ H' D = some (.lst (out.map V.int)),
      ⟨_, [], reqs, desk0, own, [none, none], [none, none], [], none, none, G, rfl, rfl, rfl, hok, rfl, g2, h2, hm0, fun z => h1.mine_some z hD, hG.free hD0, upd_same⟩, ?_⟩
    rintro n σ H' ⟨pre, rest, m, own, ds, ws, out, v4, v5, G1, rfl, rfl, rfl, hpl, hout, g, hdesk, hmine, hnD, hGD, hHD⟩
    walk_at "rd"
    refine ⟨_, .inl (g.same.seq hc), ?_⟩
    rw [List.length_map, flat_app, List.length_append]
    cases rest with
    | nil =>
      rw [if_neg (by show ¬ _; rw [flat]; simp)]
      have hout' : outsOf desk0 (pre ++ []) = out := by rw [hout, outsOf, List.append_nil]
      refine q D _ H' (g.fix hD0 hHD hGD) hD0 ?_
      rw [upd_same, hout']
    | cons b r =>
      rw [if_pos (by rw [flat, List.length_cons]; omega)]
      obtain ⟨hgd, hrq, hpl'⟩ := hpl
      refine ⟨_, fun _ _ z => z, ?_⟩
      walk_at "rd"
      have hc1 := g.same.seq hc
      have ef : flat (pre ++ b :: r) = flat pre ++ 0 :: (b.row.length : Int) :: (nums b.row ++ flat r) := by rw [flat_app, flat]
      rw [ef] at hc1
      have eat : atI ((flat pre ++ 0 :: (b.row.length : Int) :: (nums b.row ++ flat r)).map V.int) (((flat pre).length : Int) + 1) = some (.int (b.row.length : Int)) := by
        refine at_of (j := (flat pre).length + 1) (by omega) ?_
        rw [List.getElem?_map, List.getElem?_append_right (by omega), show (flat pre).length + 1 - (flat pre).length = 1 by omega]
        rfl
      refine ⟨_, hc1, _, eat, _, rfl, c, _, rfl, hc1, fun p1 hp1 => ?_⟩
      rw [cut_at]
      have i1 : Grow Sno G1 H' _ _ := (Grow.refl g.s).new (o := .lst (Oc b.row)) hp1
      have g1' := g.transN i1
      have hd1 := hdesk.grow i1
      have hDD1 := i1.same _ _ hHD
      have hGD1 := i1.out hGD (some_ne hHD)
      refine ⟨p1, rfl, b.row, b.door, b.s, b.v, _, own, dl, wl, ds, ws, m, hd1, upd_same, hgd, hrq, fun y G2 H2 hst hy hy2 => ?_⟩
      obtain ⟨own', ds', ws', gst, hdk, hmi⟩ := hst
      have hDD2 : H2 D = some (.lst (out.map V.int)) := gst.keep hnD hDD1
      have hGD2 : G2 D = none := gst.out hGD1 (some_ne hDD1)
      have g2' : Grow Sno G H G2 H2 := ((g1'.wide (S := Mine k dl wl ds ws)).trans gst fun b z => .inl z).strict hmine
      have hlo : (outsOf desk0 (pre ++ b :: r)).length = out.length + (1 + ((ansOf m b.door b.s b.v).length + (outsOf (nextOf m b.door b.s b.v) r).length)) := by
        rw [hout, List.length_append, outsOf, List.length_cons, List.length_append, nums_len]
        omega
      have hH1D : upd H' p1 (.lst (Oc b.row)) D ≠ none := some_ne hDD1
      have hnD' : ¬ Mine k dl wl ds' ws' D := fun z => (hmi D z).elim hnD fun y => hH1D y
      have hmine' : ∀ b, Mine k dl wl ds' ws' b → H b = none := fun b z => (hmi b z).elim (hmine b) fun y => g1'.back y
      have hyD : y ≠ D := fun e => hH1D (e ▸ hy)
      have hy2' := g2'.s _ _ hy2
      refine ⟨_, rfl, .inl ⟨rfl, _, SqL.of hDD2⟩, _, .inl (SqL.of hy2'), _, hDD2, by rw [List.length_map]; omega, .inl ⟨rfl, _, SqL.of upd_same⟩, _, upd_same, _, by rw [upd_ne hyD]; exact hy2', by rw [List.length_append, List.length_map, Oc_len]; show _ + 1 + _ ≤ _; omega, ?_⟩
      rw [upd_upd, Oc_len]
      have gD := (Grow.refl (S := (· = D)) hdk.s).put (o := .lst (out.map V.int ++ [V.int ((ansOf m b.door b.s b.v).length : Nat)] ++ Oc (ansOf m b.door b.s b.v))) hGD2 (.inl rfl)
      have gE := g2'.put (o := .lst (out.map V.int ++ [V.int ((ansOf m b.door b.s b.v).length : Nat)] ++ Oc (ansOf m b.door b.s b.v))) hGD2 (.inr hD0)
      refine ⟨r.length, Nat.lt_succ_self _, pre ++ [b], r, rfl, ?_, by rw [List.append_assoc]; rfl, nextOf m b.door b.s b.v, hpl', own', ds', ws', out ++ (((ansOf m b.door b.s b.v).length : Int) :: nums (ansOf m b.door b.s b.v)), ?_, G2, gE, hdk.off gD (fun b z e => hnD' (e ▸ z)), hmine', hnD', hGD2, ?_⟩
      · rw [flat_app, List.length_append]
        show _ = ((_ + (0 :: (b.row.length : Int) :: (nums b.row ++ [])).length : Nat) : Int)
        rw [List.length_cons, List.length_cons, List.append_nil, nums_len]
        omega
      · rw [hout, outsOf, List.append_assoc]
        rfl
      · rw [upd_same, List.map_append, List.map_cons, nums_V, List.append_assoc]
        rfl
end
end Tk
end
section
set_option Elab.async false
set_option linter.all false
set_option maxRecDepth 100000
/-! The answers, part 1: documents. -/
namespace Tk
open R7253e.Spec (Document Change Replacement Err Res Units andThen require normalize changedText insertedLength nestingOk scan rescan changeArg Selection Plain beyond wrong)
open Law (MDoc MVer Good SOk absDoc Valid mGo mEdit mNew nStep)
def errIs (e : Refused) (x : Err) : Prop := e.1 = (Rust.classOf x.cls : Int) ∧ txtOf e.2 = x.msg.map Rust.octetOf ∧ asc e.2
def ResIs {α β : Type} (R : α → β → Prop) : Except Refused α → Res β → Prop
  | .ok a, .ok b => R a b
  | .error e, .error x => errIs e x
  | _, _ => False
def DocIs' (m : MDoc) (y : Document × List Nat) : Prop := m = absDoc y.1 ∧ SOk y.1
theorem req_true {β : Type} {γ : Type} {m : String} {f : Unit → Res β} {k : β → Res γ} : andThen (andThen (require true m) f) k = andThen (f ()) k := rfl
theorem req_false {β γ : Type} {m : String} {f : Unit → Res β} {k : β → Res γ} : andThen (andThen (require false m) f) k = .error (beyond m) := rfl
theorem edit_law {d : Document} (h : SOk d) {c : Change} (sel : Change → List Selection) (hv : Valid 0 d.text.length c) (hn : ∀ r ∈ normalize c, ∀ x ∈ r.text, x.toNat < 256) : ResIs DocIs' (editTo (absDoc d) (normalize c)) (d.change c sel) := by
  have hg := h.good
  have htext : (absDoc d).now.text = d.text := (Law.abs_text d d.current).symm
  have hl : (absDoc d).vers.length = d.versions.length := List.length_map ..
  have hvn := Law.valid_normal hv
  unfold Document.change
  show ResIs DocIs' _ (if (normalize c).isEmpty then _ else _)
  by_cases h0 : normalize c = []
  · rw [if_pos (by rw [h0]; rfl), show editTo (absDoc d) (normalize c) = .ok (absDoc d) from if_pos h0]
    exact ⟨rfl, h⟩
  · have hne : ¬ (normalize c).isEmpty = true := fun z => h0 (List.isEmpty_iff.mp z)
    rw [if_neg hne, show editTo (absDoc d) (normalize c) = _ from if_neg h0, htext, hl]
    have hmem : (absDoc d).now ∈ (absDoc d).vers := by
      unfold MDoc.now
      rw [List.getD_eq_getElem?_getD, List.getElem?_eq_getElem hg.cur]
      exact List.getElem_mem hg.cur
    have hscan := hg.toks _ hmem
    rw [htext] at hscan
    have htoks : (absDoc d).now.toks = (d.version d.current).tokens := by rw [Law.abs_now]; rfl
    have htok : ∀ o ∈ (d.version d.current).tokens, Law.IsTok d.text o.raw := fun o ho => by
      refine Law.scan_tok ?_
      rw [← hscan, htoks]
      exact List.mem_map.mpr ⟨o, ho, rfl⟩
    have hre : (rescan (d.version d.current).tokens (normalize c) (changedText (normalize c) d.text)).map (fun t => t.1) = scan (changedText (normalize c) d.text) := Law.rescan_eq htok hvn
    have e1 : d.checkLimits d.current (normalize c) = andThen (require (decide ((changedText (normalize c) d.text).length ≤ R7253e.Spec.maxTextLength)) "text would be longer than 600 octets") fun _ => andThen (require (decide (d.versions.length < R7253e.Spec.maxVersions)) "document has 100 versions") fun _ =>
        andThen (require (decide (d.added.length + insertedLength (normalize c) ≤ R7253e.Spec.maxAddedLength)) "more than 5000 octets added") fun _ => require (nestingOk (scan (changedText (normalize c) d.text))) "nesting deeper than 12" := by
      rw [← hre]
      rfl
    rw [e1]
    by_cases h600 : (changedText (normalize c) d.text).length ≤ 600
    · rw [if_pos h600, decide_eq_true (show _ ≤ R7253e.Spec.maxTextLength from h600), req_true]
      by_cases h100 : d.versions.length < 100
      · rw [if_pos h100, decide_eq_true (show _ < R7253e.Spec.maxVersions from h100), req_true]
        by_cases h5000 : d.added.length + insertedLength (normalize c) ≤ 5000
        · rw [if_pos (show (absDoc d).added + insertedLength (normalize c) ≤ 5000 from h5000), decide_eq_true (show _ ≤ R7253e.Spec.maxAddedLength from h5000), req_true]
          cases hnest : nestingOk (scan (changedText (normalize c) d.text)) with
          | false =>
            show errIs _ _
            unfold errIs asc
            decide +kernel
          | true =>
            rw [if_pos rfl]
            have htr : d.transactions.isEmpty = true := by rw [h.tr]; rfl
            have ha := Law.add_abs (sel := sel (normalize c)) h hvn hn h600 h100 h5000
            have hlen : (d.addVersion d.current (normalize c) (sel (normalize c)) true).versions.length = d.versions.length + 1 := List.length_append
            have hs := Law.switch_abs ha.2 (n := d.versions.length) (by rw [hlen]; exact Nat.lt_succ_self _)
            show DocIs' (mEdit (absDoc d) (normalize c) (changedText (normalize c) d.text)) ((d.addVersion d.current (normalize c) (sel (normalize c)) d.transactions.isEmpty).switchTo d.versions.length)
            rw [htr]
            refine ⟨?_, hs.2⟩
            rw [hs.1, ha.1]
            unfold mEdit
            rw [hl]
            rfl
        · rw [if_neg (show ¬ (absDoc d).added + insertedLength (normalize c) ≤ 5000 from h5000), decide_eq_false (show ¬ _ ≤ R7253e.Spec.maxAddedLength from h5000), req_false]
          show errIs _ _
          unfold errIs asc
          decide +kernel
      · rw [if_neg h100, decide_eq_false (show ¬ _ < R7253e.Spec.maxVersions from h100), req_false]
        show errIs _ _
        unfold errIs asc
        decide +kernel
    · rw [if_neg h600, decide_eq_false (show ¬ _ ≤ R7253e.Spec.maxTextLength from h600), req_false]
      show errIs _ _
      unfold errIs asc
      decide +kernel
theorem undo_law {d : Document} (h : SOk d) (v : RWire.Value) : ResIs DocIs' (versOf 4 (absDoc d) v) d.undo := by
  have hg := h.good
  have hl : (absDoc d).vers.length = d.versions.length := List.length_map ..
  have hcur : d.current < d.versions.length := by rw [← hl]; exact hg.cur
  have htr : d.transactions.isEmpty = true := by rw [h.tr]; rfl
  have e : d.undo = andThen (require (d.current != 0) "nothing to undo") fun _ => .ok (d.switchTo (R7253e.Spec.undoVersion d.versions d.versions.length d.current)) := by
    unfold Document.undo Document.checkNoTransaction
    rw [htr]
    rfl
  rw [e]
  unfold versOf
  rw [if_pos rfl]
  by_cases h0 : 0 < d.current
  · rw [if_pos (show 0 < (absDoc d).cur from h0), show (d.current != 0) = true from bne_iff_ne.mpr (by omega)]
    have hp := hg.pars _ _ (getD_at hg.cur) h0
    have hp2 := (hg.ahead _ _ (getD_at hg.cur)).2
    have en : (absDoc d).vers.getD (absDoc d).cur MVer.none = Law.absVer d.original d.added (d.version d.current) := Law.abs_now d
    rw [en] at hp hp2
    cases hpar : (d.version d.current).parent with
    | none =>
      have : (Law.absVer d.original d.added (d.version d.current)).par = -1 := by unfold Law.absVer; rw [hpar]; rfl
      rw [this] at hp
      omega
    | some p =>
      have e2 : (Law.absVer d.original d.added (d.version d.current)).par = (p : Int) := by unfold Law.absVer; rw [hpar]; rfl
      rw [e2] at hp2
      have hp2 : (p : Int) < (d.current : Int) := hp2
      have hun : R7253e.Spec.undoVersion d.versions d.versions.length d.current = p := by
        obtain ⟨k, hk⟩ : ∃ k, d.versions.length = k + 1 := ⟨d.versions.length - 1, by omega⟩
        rw [hk, R7253e.Spec.undoVersion]
        have e3 : (d.versions.getD d.current R7253e.Spec.emptyVersion).parent = some p := hpar
        rw [e3]
        have hpl : p < d.versions.length := by omega
        have hs : (d.versions.getD p R7253e.Spec.emptyVersion).undoStop = true := by
          refine h.stop _ ?_
          rw [List.getD_eq_getElem?_getD, List.getElem?_eq_getElem hpl]
          exact List.getElem_mem hpl
        show (if (d.versions.getD p R7253e.Spec.emptyVersion).undoStop = true then p else _) = p
        rw [if_pos hs]
      rw [hun]
      have hs := Law.switch_abs h (n := p) (by omega)
      show DocIs' (mGo (absDoc d).now.par.toNat (absDoc d)) (d.switchTo p)
      rw [Law.abs_now, e2, Int.toNat_natCast]
      exact ⟨hs.1.symm, hs.2⟩
  · rw [if_neg (show ¬ 0 < (absDoc d).cur from h0), show (d.current != 0) = false by rw [show d.current = 0 by omega]; rfl]
    show errIs _ _
    unfold errIs asc
    decide +kernel
theorem redo_law {d : Document} (h : SOk d) (v : RWire.Value) : ResIs DocIs' (versOf 5 (absDoc d) v) d.redo := by
  have hg := h.good
  have hl : (absDoc d).vers.length = d.versions.length := List.length_map ..
  have hcur : d.current < d.versions.length := by rw [← hl]; exact hg.cur
  have htr : d.transactions.isEmpty = true := by rw [h.tr]; rfl
  have hmem : (absDoc d).now ∈ (absDoc d).vers := List.mem_of_getElem? (getD_at hg.cur)
  have hr := hg.redo _ hmem
  rw [hl] at hr
  have e : d.redo = (match R7253e.Spec.redoVersion d.versions d.versions.length d.current with
    | some n => .ok (d.switchTo n)
    | none => R7253e.Spec.bad "nothing to redo") := by
    unfold Document.redo Document.checkNoTransaction
    rw [htr]
    rfl
  rw [e]
  unfold versOf
  rw [if_neg (by decide), if_pos rfl]
  obtain ⟨k, hk⟩ : ∃ k, d.versions.length = k + 1 := ⟨d.versions.length - 1, by omega⟩
  cases hrt : (d.version d.current).redoTarget with
  | none =>
    have e2 : (absDoc d).now.redo = -1 := by rw [Law.abs_now]; unfold Law.absVer; rw [hrt]; rfl
    have e3 : (d.versions.getD d.current R7253e.Spec.emptyVersion).redoTarget = none := hrt
    rw [e2, if_neg (by decide), hk, R7253e.Spec.redoVersion, e3]
    show errIs _ _
    unfold errIs asc
    decide +kernel
  | some q =>
    have e2 : (absDoc d).now.redo = (q : Int) := by rw [Law.abs_now]; unfold Law.absVer; rw [hrt]; rfl
    have e3 : (d.versions.getD d.current R7253e.Spec.emptyVersion).redoTarget = some q := hrt
    rw [e2] at hr
    have hql : q < d.versions.length := by omega
    have hs : (d.versions.getD q R7253e.Spec.emptyVersion).undoStop = true := by
      refine h.stop _ ?_
      rw [List.getD_eq_getElem?_getD, List.getElem?_eq_getElem hql]
      exact List.getElem_mem hql
    have e4 : R7253e.Spec.redoVersion d.versions d.versions.length d.current = some q := by
      rw [hk, R7253e.Spec.redoVersion, e3]
      show (if (d.versions.getD q R7253e.Spec.emptyVersion).undoStop = true then some q else _) = some q
      rw [if_pos hs]
    rw [e4, e2, if_pos (by omega), Int.toNat_natCast]
    have hs := Law.switch_abs h (n := q) hql
    exact ⟨hs.1.symm, hs.2⟩
theorem setv_abs {d : Document} (h : SOk d) {n : Nat} (hn : n < d.versions.length) : absDoc (R7253e.Spec.setVersion d n { d.version n with undoStop := true }) = absDoc d ∧ SOk (R7253e.Spec.setVersion d n { d.version n with undoStop := true }) := by
  have hv : d.version n = d.versions[n] := by
    unfold Document.version
    rw [List.getD_eq_getElem?_getD, List.getElem?_eq_getElem hn]
    rfl
  have hst := h.stop _ (List.getElem_mem hn)
  have e : ({ d.version n with undoStop := true } : R7253e.Spec.Version) = d.versions[n] := by
    rw [hv]
    have : d.versions[n] = { d.versions[n] with undoStop := d.versions[n].undoStop } := rfl
    rw [this, hst]
  have e2 : R7253e.Spec.setVersion d n { d.version n with undoStop := true } = d := by
    unfold R7253e.Spec.setVersion
    rw [e, List.set_getElem_self]
  rw [e2]
  exact ⟨rfl, h⟩
theorem checkout_law {d : Document} (h : SOk d) {door : Nat} (h4 : door ≠ 4) (h5 : door ≠ 5) {v : RWire.Value} : ResIs DocIs' (versOf door (absDoc d) v) (andThen d.checkNoTransaction fun _ => andThen (R7253e.Spec.versionArg d (Rust.taken v)) fun n => d.checkout n) := by
  have hg := h.good
  have hl : (absDoc d).vers.length = d.versions.length := List.length_map ..
  have hcur : d.current < d.versions.length := by rw [← hl]; exact hg.cur
  have htr : d.transactions.isEmpty = true := by rw [h.tr]; rfl
  have e0 : (andThen d.checkNoTransaction fun _ => andThen (R7253e.Spec.versionArg d (Rust.taken v)) fun n => d.checkout n) = andThen (R7253e.Spec.versionArg d (Rust.taken v)) fun n => d.checkout n := by
    unfold Document.checkNoTransaction
    rw [htr]
    rfl
  rw [e0]
  have hco : ∀ n, n < d.versions.length → d.checkout n = .ok ((R7253e.Spec.setVersion d n { d.version n with undoStop := true }).switchTo n) := fun n hn => by
    unfold Document.checkout Document.checkNoTransaction
    rw [htr, decide_eq_true hn]
    rfl
  unfold versOf
  rw [if_neg h4, if_neg h5]
  have no : R7253e.Spec.rangeIn 0 (d.versions.length - 1) (Rust.taken v) = none → ResIs DocIs' (.error (2, "unknown version")) (andThen (R7253e.Spec.versionArg d (Rust.taken v)) fun n => d.checkout n) := fun e => by
    unfold R7253e.Spec.versionArg
    rw [e]
    show errIs _ _
    unfold errIs asc
    decide +kernel
  by_cases hv : ∃ i, v = .int i
  · obtain ⟨i, rfl⟩ := hv
    have er : R7253e.Spec.rangeIn 0 (d.versions.length - 1) (Rust.taken (.int i)) = if (0 : Int) ≤ i ∧ i ≤ ((d.versions.length - 1 : Nat) : Int) then some i.toNat else none := by
      rw [Rust.taken]
      rfl
    show ResIs DocIs' (if 0 ≤ i ∧ i < ((absDoc d).vers.length : Int) then .ok (mGo i.toNat (absDoc d)) else .error (2, "unknown version")) _
    rw [hl]
    by_cases hi : 0 ≤ i ∧ i < (d.versions.length : Int)
    · rw [if_pos hi]
      rw [if_pos (by omega)] at er
      unfold R7253e.Spec.versionArg
      rw [er]
      show ResIs DocIs' _ (d.checkout i.toNat)
      have hn : i.toNat < d.versions.length := by omega
      rw [hco _ hn]
      have hse := setv_abs h hn
      have hs := Law.switch_abs hse.2 (n := i.toNat) (by show i.toNat < (d.versions.set _ _).length; rw [List.length_set]; exact hn)
      refine ⟨?_, hs.2⟩
      rw [hs.1, hse.1]
    · rw [if_neg hi]
      rw [if_neg (by omega)] at er
      exact no er
  · cases v <;> first | exact absurd ⟨_, rfl⟩ hv | exact no (by rw [Rust.taken]; rfl)
end Tk
end
section
set_option Elab.async false
set_option linter.all false
set_option maxRecDepth 100000
/-! The answers, part 2: changes from arguments. -/
namespace Tk
open R7253e.Spec (Document Change Replacement Err Res Units andThen require normalize changedText insertedLength nestingOk scan changeArg Plain beyond wrong parseReplacement checkReplacements whole)
open Law (MDoc MVer Good SOk absDoc Valid nStep)
def tripOf (e : RepT) : Int × Int × Units := (e.1, e.2.1, e.2.2.map Rust.unitOf)
theorem takenAll_map : ∀ l : List RWire.Value, Rust.takenAll l = l.map Rust.taken
  | [] => by rw [Rust.takenAll]; rfl
  | v :: l => by rw [Rust.takenAll, takenAll_map l]; rfl
theorem whole_taken (v : RWire.Value) : whole (Rust.taken v) = match v with | .int i => some i | _ => none := by
  cases v <;> rw [Rust.taken] <;> rfl
theorem parse_none {p : Plain} (h : ∀ a b u, p ≠ .arr [a, b, .str u]) : parseReplacement p = none := by
  unfold parseReplacement
  split
  · exact absurd rfl (h _ _ _)
  · rfl
theorem parse_taken {v : RWire.Value} (hw : RWire.noWide v = true) : parseReplacement (Rust.taken v) = (repOf v).map tripOf := by
  by_cases hr : ∃ v0 v1 u, v = .list [v0, v1, .text u]
  · obtain ⟨v0, v1, u, rfl⟩ := hr
    have e : Rust.taken (.list [v0, v1, .text u]) = .arr [Rust.taken v0, Rust.taken v1, .str (u.map Rust.unitOf)] := by
      rw [Rust.taken, takenAll_map, List.map_cons, List.map_cons, List.map_cons, Rust.taken]
      rfl
    rw [e]
    show (match whole (Rust.taken v0), whole (Rust.taken v1) with | some i, some j => some (i, j, u.map Rust.unitOf) | _, _ => none) = _
    rw [whole_taken, whole_taken]
    cases v0 <;> first | rfl | (cases v1 <;> rfl)
  · have h1 : (repOf v) = none := by
      cases h : repOf v with
      | none => rfl
      | some e => exact absurd ⟨_, _, _, rep_some h⟩ hr
    rw [h1]
    refine parse_none fun a b u e => ?_
    cases v with
    | list l =>
      rw [Rust.taken, takenAll_map] at e
      have e := Plain.arr.inj e
      match l, e with
      | [v0, v1, v2], e =>
        rw [List.map_cons, List.map_cons, List.map_cons, List.cons.injEq, List.cons.injEq, List.cons.injEq] at e
        have e2 := e.2.2.1
        cases v2 with
        | text u' => exact hr ⟨v0, v1, u', rfl⟩
        | wide u' =>
          have h1 := (Law.noWide_cons (Law.noWide_cons (Law.noWide_cons (Law.noWide_list hw)).2).2).1
          cases h1
        | nothing => rw [Rust.taken] at e2; cases e2
        | null => rw [Rust.taken] at e2; cases e2
        | bool b => rw [Rust.taken] at e2; cases e2
        | int b => rw [Rust.taken] at e2; cases e2
        | big b => rw [Rust.taken] at e2; cases e2
        | octets b => rw [Rust.taken] at e2; cases e2
        | list b => rw [Rust.taken] at e2; cases e2
        | record b => rw [Rust.taken] at e2; cases e2
      | v0 :: v1 :: v2 :: v3 :: r, e => exact absurd (congrArg List.length e) (by simp)
    | octets l =>
      rw [Rust.taken] at e
      have e := Plain.arr.inj e
      match l, e with
      | [v0, v1, v2], e =>
        rw [List.map_cons, List.map_cons, List.map_cons, List.cons.injEq, List.cons.injEq, List.cons.injEq] at e
        cases e.2.2.1
      | v0 :: v1 :: v2 :: v3 :: r, e => exact absurd (congrArg List.length e) (by simp)
    | nothing => rw [Rust.taken] at e; cases e
    | null => rw [Rust.taken] at e; cases e
    | bool b => rw [Rust.taken] at e; cases e
    | int b => rw [Rust.taken] at e; cases e
    | big b => rw [Rust.taken] at e; cases e
    | text b => rw [Rust.taken] at e; cases e
    | wide b => rw [Rust.taken] at e; cases e
    | record b => rw [Rust.taken] at e; cases e
theorem all_spec {α β : Type} (f : α → β) : ∀ l : List (Option α), R7253e.Spec.allSome (l.map fun o => o.map f) = (allSome l).map fun r => r.map f
  | [] => rfl
  | none :: l => rfl
  | some x :: l => by
    show (R7253e.Spec.allSome (l.map fun o => o.map f)).map (fun r => f x :: r) = ((allSome l).map fun r => x :: r).map fun r => r.map f
    rw [all_spec f l]
    cases allSome l with
    | none => rfl
    | some r => rfl
theorem msgs : ∀ i, i < 22 → errIs (2, numS i ++ " is out of range") (beyond ("replacement " ++ toString i ++ " is out of range")) ∧ errIs (2, numS i ++ " overlaps the previous one") (beyond ("replacement " ++ toString i ++ " overlaps the previous one")) := by
  unfold errIs asc
  decide +kernel
theorem check_law {n : Nat} : ∀ (l : List RepT) (i p : Nat), i + l.length ≤ 21 → match checkR n i (p : Int) l with
    | none => checkReplacements n i p (l.map tripOf) = .ok (l.map toRep)
    | some z => ∃ x, checkReplacements n i p (l.map tripOf) = .error x ∧ errIs (2, z) x
  | [], _, _, _ => rfl
  | e :: l, i, p, h => by
    rw [List.length_cons] at h
    have hm := msgs i (by omega)
    rw [checkR, List.map_cons, checkReplacements]
    by_cases h1 : 0 ≤ e.1 ∧ e.1 ≤ e.2.1 ∧ e.2.1 ≤ (n : Int)
    · rw [if_pos h1, if_pos (show 0 ≤ (tripOf e).1 ∧ (tripOf e).1 ≤ (tripOf e).2.1 ∧ (tripOf e).2.1 ≤ Int.ofNat n from h1)]
      by_cases h2 : (p : Int) ≤ e.1
      · rw [if_pos h2, if_pos (show Int.ofNat p ≤ (tripOf e).1 from h2)]
        have ih := check_law (n := n) l (i + 1) e.2.1.toNat (by omega)
        rw [show ((e.2.1.toNat : Nat) : Int) = e.2.1 by omega] at ih
        cases hc : checkR n (i + 1) e.2.1 l with
        | none =>
          rw [hc] at ih
          have ih : checkReplacements n (i + 1) e.2.1.toNat (l.map tripOf) = .ok (l.map toRep) := ih
          show andThen (checkReplacements n (i + 1) e.2.1.toNat (l.map tripOf)) _ = _
          rw [ih]
          rfl
        | some z =>
          rw [hc] at ih
          obtain ⟨x, hx, hz⟩ := ih
          refine ⟨x, ?_, hz⟩
          show andThen (checkReplacements n (i + 1) e.2.1.toNat (l.map tripOf)) _ = _
          rw [hx]
          rfl
      · rw [if_neg h2, if_neg (show ¬ Int.ofNat p ≤ (tripOf e).1 from h2)]
        exact ⟨_, rfl, hm.2⟩
    · rw [if_neg h1, if_neg (show ¬ (0 ≤ (tripOf e).1 ∧ (tripOf e).1 ≤ (tripOf e).2.1 ∧ (tripOf e).2.1 ≤ Int.ofNat n) from h1)]
      exact ⟨_, rfl, hm.1⟩
/-- what a change is that is taken -/
def ChgIs (n : Nat) (c' c : Change) : Prop := c' = normalize c ∧ Valid 0 n c ∧ ∀ r ∈ normalize c, ∀ x ∈ r.text, x.toNat < 256
theorem mem_merge : ∀ {c : Change} {r : Replacement} {x : UInt16}, r ∈ R7253e.Spec.mergeAdjacent c → x ∈ r.text → ∃ r' ∈ c, x ∈ r'.text
  | [], r, x, h, _ => by cases h
  | a :: q, r, x, h, hx => by
    rw [Law.merge_cons] at h
    cases hm : R7253e.Spec.mergeAdjacent q with
    | nil =>
      rw [hm] at h
      obtain rfl := List.mem_singleton.mp h
      exact ⟨_, List.mem_cons_self .., hx⟩
    | cons s t =>
      rw [hm] at h
      have h : r ∈ (if a.hi = s.lo then (⟨a.lo, s.hi, a.text ++ s.text⟩ : Replacement) :: t else a :: s :: t) := h
      have sub : ∀ y ∈ s :: t, x ∈ y.text → ∃ r' ∈ a :: q, x ∈ r'.text := fun y hy hxy => by
        obtain ⟨z, hz, hxz⟩ := mem_merge (c := q) (r := y) (by rw [hm]; exact hy) hxy
        exact ⟨z, List.mem_cons_of_mem _ hz, hxz⟩
      by_cases he : a.hi = s.lo
      · rw [if_pos he] at h
        rcases List.mem_cons.mp h with rfl | h
        · rcases List.mem_append.mp hx with hx | hx
          · exact ⟨a, List.mem_cons_self .., hx⟩
          · exact sub s (List.mem_cons_self ..) hx
        · exact sub r (List.mem_cons_of_mem _ h) hx
      · rw [if_neg he] at h
        rcases List.mem_cons.mp h with rfl | h
        · exact ⟨_, List.mem_cons_self .., hx⟩
        · exact sub r h hx
theorem mem_normal {c : Change} {r : Replacement} {x : UInt16} (h : r ∈ normalize c) (hx : x ∈ r.text) : ∃ r' ∈ c, x ∈ r'.text := by
  obtain ⟨y, hy, hxy⟩ := mem_merge h hx
  exact ⟨y, (List.mem_filter.mp hy).1, hxy⟩
theorem unit_lt (u : RWire.Octets) : ∀ x ∈ u.map Rust.unitOf, x.toNat < 256 := fun x hx => by
  obtain ⟨o, _, rfl⟩ := List.mem_map.mp hx
  show (UInt16.ofNat o.toNat).toNat < 256
  rw [UInt16.toNat_ofNat', Nat.mod_eq_of_lt (by have := o.toNat_lt; omega)]
  have := o.toNat_lt
  omega
theorem args_law {n : Nat} {v : RWire.Value} (hw : RWire.noWide v = true) : ResIs (ChgIs n) (chgOf n v) (changeArg n (Rust.taken v)) := by
  have bad : ResIs (ChgIs n) (.error (1, msgR)) (R7253e.Spec.invalidReplacements : Res Change) := by
    show errIs _ _
    unfold errIs asc
    decide +kernel
  have known : ∀ reps : List RepT, reps.length ≤ 20 → repsOf v = some reps → changeArg n (Rust.taken v) = checkReplacements n 1 0 (reps.map tripOf) → ResIs (ChgIs n) (chgOf n v) (changeArg n (Rust.taken v)) := fun reps h20 hr he => by
    have hva : ∀ c, changeArg n (Rust.taken v) = .ok c → Valid 0 n c := fun c h => Law.valid_arg h
    have hch := check_law (n := n) reps 1 0 (by omega)
    unfold chgOf
    rw [hr, he]
    show ResIs (ChgIs n) (match checkR n 1 0 reps with | some z => .error (2, z) | none => .ok ((reps.map toRep).foldl nStep [])) _
    have e0 : checkR n 1 ((0 : Nat) : Int) reps = checkR n 1 0 reps := rfl
    rw [e0] at hch
    cases hc : checkR n 1 0 reps with
    | none =>
      rw [hc] at hch
      have hch : checkReplacements n 1 0 (reps.map tripOf) = .ok (reps.map toRep) := hch
      rw [hch]
      refine ⟨Law.normal_fold _, hva _ (he.trans hch), fun r hr x hx => ?_⟩
      obtain ⟨r', hr', hx'⟩ := mem_normal hr hx
      obtain ⟨e, _, rfl⟩ := List.mem_map.mp hr'
      exact unit_lt e.2.2 x hx'
    | some z =>
      rw [hc] at hch
      obtain ⟨x, hx, hz⟩ := hch
      rw [hx]
      exact hz
  cases v with
  | list l =>
    have et : Rust.taken (.list l) = .arr (l.map Rust.taken) := by rw [Rust.taken, takenAll_map]
    have hp : (l.map Rust.taken).map parseReplacement = (l.map repOf).map fun o => o.map tripOf := by
      rw [List.map_map, List.map_map]
      refine List.map_congr_left fun x hx => parse_taken ?_
      have hm := Law.noWide_list hw
      have go : ∀ {l : List RWire.Value}, RWire.noWideMany l = true → ∀ x ∈ l, RWire.noWide x = true := fun {l} => by
        induction l with
        | nil => intro _ x hx; cases hx
        | cons a l ih =>
          intro h x hx
          obtain ⟨h1, h2⟩ := Law.noWide_cons h
          rcases List.mem_cons.mp hx with rfl | hx
          · exact h1
          · exact ih h2 x hx
      exact go hm x hx
    have ec : changeArg n (Rust.taken (.list l)) = if l.length ≤ 20 then (match R7253e.Spec.allSome ((l.map repOf).map fun o => o.map tripOf) with | some k => checkReplacements n 1 0 k | none => R7253e.Spec.invalidReplacements) else R7253e.Spec.invalidReplacements := by
      rw [et, ← hp]
      unfold changeArg
      simp only [List.length_map]
      rfl
    by_cases h20 : l.length ≤ 20
    · rw [if_pos h20, all_spec] at ec
      cases ha : allSome (l.map repOf) with
      | none =>
        rw [ha] at ec
        rw [chg_none (by rw [repsOf_list, if_pos h20, ha]), show changeArg n (Rust.taken (.list l)) = R7253e.Spec.invalidReplacements from ec]
        exact bad
      | some reps =>
        rw [ha] at ec
        have hl := congrArg List.length (allSome_map ha)
        rw [List.length_map, List.length_map] at hl
        exact known reps (by omega) (by rw [repsOf_list, if_pos h20, ha]) ec
    · rw [if_neg h20] at ec
      rw [chg_none (by rw [repsOf_list, if_neg h20]), ec]
      exact bad
  | octets u =>
    cases u with
    | nil => exact known [] (by decide) rfl (by rw [Rust.taken]; rfl)
    | cons o u =>
      rw [chg_none rfl]
      have ec : changeArg n (Rust.taken (.octets (o :: u))) = R7253e.Spec.invalidReplacements := by
        rw [Rust.taken]
        unfold changeArg
        simp only [List.map_cons]
        split
        · rfl
        · rfl
      rw [ec]
      exact bad
  | nothing => rw [chg_none rfl, Rust.taken]; exact bad
  | null => rw [chg_none rfl, Rust.taken]; exact bad
  | bool b => rw [chg_none rfl, Rust.taken]; exact bad
  | int b => rw [chg_none rfl, Rust.taken]; exact bad
  | big b => rw [chg_none rfl, Rust.taken]; exact bad
  | text b => rw [chg_none rfl, Rust.taken]; exact bad
  | wide b => rw [chg_none rfl, Rust.taken]; exact bad
  | record b => rw [chg_none rfl, Rust.taken]; exact bad
end Tk
end
section
set_option Elab.async false
set_option linter.all false
set_option maxRecDepth 100000
/-! The answers, part 3: a new document, tokens by their numbers. -/
namespace Tk
open R7253e.Spec (Document Change Replacement Err Res Units andThen require normalize changedText insertedLength nestingOk scan rescan changeArg Selection Plain beyond wrong newDocument Token textArg evalQuery tokenValue orNull)
open Law (MDoc MVer Good SOk absDoc Valid mGo mEdit mNew nStep)
def NewIs (u' u : Units) : Prop := u' = u ∧ absDoc (newDocument u) = mNew u ∧ SOk (newDocument u)
theorem new_law {v : RWire.Value} (hw : RWire.noWide v = true) : ResIs NewIs (newOf v) (andThen (textArg (Rust.taken v)) fun u => andThen (require (nestingOk (scan u)) "nesting deeper than 12") fun _ => (.ok u : Res Units)) := by
  have bad : ∀ z, ResIs NewIs (.error (1, "text must be a text of at most 600 octets")) (andThen (R7253e.Spec.kind "text must be a text of at most 600 octets" : Res Units) z) := fun z => by
    show errIs _ _
    unfold errIs asc
    decide +kernel
  cases v with
  | text u =>
    show ResIs NewIs (if u.length ≤ 600 then _ else _) (andThen (if (u.map Rust.unitOf).length ≤ R7253e.Spec.maxTextLength then _ else _) _)
    rw [List.length_map]
    by_cases h : u.length ≤ 600
    · rw [if_pos h, if_pos (show u.length ≤ R7253e.Spec.maxTextLength from h)]
      show ResIs NewIs _ (andThen (require (nestingOk (scan (u.map Rust.unitOf))) _) _)
      cases hn : nestingOk (scan (u.map Rust.unitOf)) with
      | true =>
        rw [if_pos rfl]
        exact ⟨rfl, Law.new_abs (by rw [List.length_map]; exact h) (unit_lt u)⟩
      | false =>
        rw [if_neg (fun z => Bool.noConfusion z)]
        show errIs _ _
        unfold errIs asc
        decide +kernel
    · rw [if_neg h, if_neg (show ¬ u.length ≤ R7253e.Spec.maxTextLength from h)]
      exact bad _
  | wide u => exact absurd hw (fun z => Bool.noConfusion z)
  | nothing => exact bad _
  | null => exact bad _
  | bool b => exact bad _
  | int i => exact bad _
  | big i => exact bad _
  | octets u => exact bad _
  | list l => exact bad _
  | record l => exact bad _

theorem kind_units : ∀ k ∈ Law.kinds, (R7253e.Spec.units (R7253e.Spec.kindName k)).map Rust.octetOf = txtOf (kn k) := by decide +kernel
theorem nm_units : ∀ s ∈ ["id", "kind", "from", "to", "value", "done"], (R7253e.Spec.units s).map Rust.octetOf = txtOf (PySem.Str.ofString s) := by decide +kernel
theorem given_nat (n : Nat) : Rust.given (R7253e.Spec.nat n) = .int (n : Int) := rfl
theorem given_text (s : String) : Rust.given (R7253e.Spec.text s) = .text ((R7253e.Spec.units s).map Rust.octetOf) := rfl
theorem given_token {t : Token} (h : t.raw.kind ∈ Law.kinds) : Rust.given (tokenValue t) = tokV t := by
  show RWire.Value.record [((R7253e.Spec.units "id").map Rust.octetOf, Rust.given (R7253e.Spec.nat t.id)), ((R7253e.Spec.units "kind").map Rust.octetOf, Rust.given (R7253e.Spec.text (R7253e.Spec.kindName t.raw.kind))), ((R7253e.Spec.units "from").map Rust.octetOf, Rust.given (R7253e.Spec.nat t.raw.start)), ((R7253e.Spec.units "to").map Rust.octetOf, Rust.given (R7253e.Spec.nat (t.raw.start + t.raw.length)))] = _
  rw [given_nat, given_nat, given_nat, given_text, kind_units _ h, nm_units "id" (by decide), nm_units "kind" (by decide), nm_units "from" (by decide), nm_units "to" (by decide)]
  rfl
theorem given_step (v : Plain) (b : Bool) : Rust.given (R7253e.Spec.iteratorResult v b) = stepV (Rust.given v) b := by
  show RWire.Value.record [((R7253e.Spec.units "value").map Rust.octetOf, Rust.given v), ((R7253e.Spec.units "done").map Rust.octetOf, RWire.Value.bool b)] = _
  rw [nm_units "value" (by decide), nm_units "done" (by decide)]
  rfl
theorem now_mem {m : MDoc} (h : Good m) : m.now ∈ m.vers := by
  unfold MDoc.now
  rw [List.getD_eq_getElem?_getD, List.getElem?_eq_getElem h.cur]
  exact List.getElem_mem h.cur
theorem good_kinds {m : MDoc} (h : Good m) : ∀ t ∈ m.now.toks, t.raw.kind ∈ Law.kinds := fun t ht => by
  have hs := h.toks _ (now_mem h)
  exact Law.scan_kinds (u := m.now.text) (by rw [← hs]; exact List.mem_map.mpr ⟨t, ht, rfl⟩)
theorem toks_kinds {d : Document} (h : SOk d) : ∀ t ∈ (absDoc d).now.toks, t.raw.kind ∈ Law.kinds := good_kinds h.good
theorem tok_law {d : Document} (h : SOk d) (v : RWire.Value) : ∃ p, evalQuery d (.tokenById (Rust.taken v)) = .ok p ∧ Rust.given p = tokOf (absDoc d) v := by
  refine ⟨_, rfl, ?_⟩
  unfold tokOf tokIn
  rw [whole_taken]
  have hk := toks_kinds h
  cases v with
  | int i =>
    show Rust.given (if 0 ≤ i then orNull tokenValue (d.snapshot.token i.toNat) else .null) = _
    have et : d.snapshot.token i.toNat = (absDoc d).now.toks.find? fun t => t.id == i.toNat := by rw [Law.abs_now]; rfl
    by_cases h0 : 0 ≤ i
    · have ef : (absDoc d).now.toks.find? (fun t => t.id == i.toNat) = (absDoc d).now.toks.find? fun t => decide ((t.id : Int) = i) := by
        congr 1
        funext t
        by_cases he : t.id = i.toNat
        · rw [he, beq_self_eq_true, decide_eq_true (by omega)]
        · rw [beq_eq_false_iff_ne.mpr he, decide_eq_false (by omega)]
      rw [if_pos h0, et, ef]
      show _ = match List.find? (fun t => decide ((t.id : Int) = i)) (absDoc d).now.toks with | some t => tokV t | none => .null
      cases hf : (absDoc d).now.toks.find? fun t => decide ((t.id : Int) = i) with
      | none => rfl
      | some t => exact given_token (hk t (List.mem_of_find?_eq_some hf))
    · rw [if_neg h0]
      show _ = match List.find? (fun t => decide ((t.id : Int) = i)) (absDoc d).now.toks with | some t => tokV t | none => .null
      cases hf : (absDoc d).now.toks.find? fun t => decide ((t.id : Int) = i) with
      | none => rfl
      | some t =>
        have := List.find?_some hf
        have := of_decide_eq_true this
        omega
  | _ => rfl

theorem text_law {d : Document} : Rust.given (.str d.text) = .text ((absDoc d).now.text.map Rust.octetOf) := by
  rw [show d.text = (absDoc d).now.text from Law.abs_text d d.current]
  rfl
/-- what is refused, as an answer -/
theorem err_answer {e : Refused} {x : Err} (h : errIs e x) : (1 :: UInt8.ofNat e.1.toNat :: RWire.writeText (txtOf e.2)) = RWire.writeAnswer (Rust.answerOf (.fail x)) ∧ asc e.2 ∧ 0 ≤ e.1 ∧ e.1 < 256 := by
  obtain ⟨h1, h2, h3⟩ := h
  have hc : Rust.classOf x.cls < 256 := by cases x.cls <;> decide
  refine ⟨?_, h3, by omega, by omega⟩
  rw [h1, h2]
  rfl
end Tk
end
section
set_option Elab.async false
set_option linter.all false
set_option maxRecDepth 100000
/-! The answers, part 4: how much an argument puts in. -/
namespace Tk
open R7253e.Spec (Document Change Replacement Err Res Units andThen require normalize changedText insertedLength nestingOk scan rescan changeArg Selection Plain beyond wrong newDocument Token textArg evalQuery tokenValue orNull mergeAdjacent dropEmpty)
open Law (MDoc MVer Good SOk absDoc Valid mGo mEdit mNew nStep)
theorem ins_cons (r : Replacement) (c : Change) : insertedLength (r :: c) = r.text.length + insertedLength c := by
  unfold insertedLength
  rw [List.map_cons, List.sum_cons]
theorem ins_merge : ∀ c : Change, insertedLength (mergeAdjacent c) = insertedLength c ∧ (mergeAdjacent c).length ≤ c.length
  | [] => ⟨rfl, Nat.le_refl _⟩
  | r :: q => by
    obtain ⟨h1, h2⟩ := ins_merge q
    rw [mergeAdjacent]
    cases he : mergeAdjacent q with
    | nil =>
      rw [he] at h1 h2
      refine ⟨?_, by rw [List.length_cons, List.length_cons, List.length_nil]; omega⟩
      show insertedLength [r] = _
      rw [ins_cons, ins_cons, ← h1]
    | cons s t =>
      rw [he] at h1 h2
      rw [ins_cons] at h1
      rw [List.length_cons] at h2
      show insertedLength (if r.hi = s.lo then _ else _) = _ ∧ List.length (if r.hi = s.lo then _ else _) ≤ _
      by_cases e : r.hi = s.lo
      · rw [if_pos e, ins_cons, ins_cons, ← h1, List.length_append, List.length_cons, List.length_cons]
        exact ⟨by omega, by omega⟩
      · rw [if_neg e, ins_cons, ins_cons, ins_cons, ← h1, List.length_cons, List.length_cons, List.length_cons]
        exact ⟨rfl, by omega⟩
theorem ins_drop : ∀ c : Change, insertedLength (dropEmpty c) ≤ insertedLength c ∧ (dropEmpty c).length ≤ c.length
  | [] => ⟨Nat.le_refl _, Nat.le_refl _⟩
  | r :: q => by
    obtain ⟨h1, h2⟩ := ins_drop q
    unfold dropEmpty at h1 h2 ⊢
    rw [List.filter_cons]
    by_cases e : (decide (r.lo < r.hi) || !r.text.isEmpty) = true
    · rw [if_pos e, ins_cons, ins_cons, List.length_cons, List.length_cons]
      exact ⟨by omega, by omega⟩
    · rw [if_neg e, ins_cons, List.length_cons]
      exact ⟨by omega, by omega⟩
theorem ins_normal (c : Change) : insertedLength (normalize c) ≤ insertedLength c ∧ (normalize c).length ≤ c.length := by
  have h1 := ins_merge (dropEmpty c)
  have h2 := ins_drop c
  unfold normalize
  exact ⟨by omega, by omega⟩
theorem size_rep {n : Nat} {v : RWire.Value} {e : RepT} (h : repOf v = some e) : e.2.2.length ≤ Plain.size (n + 1) (Rust.taken v) := by
  unfold repOf at h
  split at h
  · injection h with h
    subst h
    show _ ≤ ([_, _, _].map (Plain.size n)).sum + 1
    simp only [List.map_cons, List.map_nil, List.sum_cons, List.sum_nil]
    show List.length _ ≤ _ + (_ + (Plain.size n (.str _) + 0)) + 1
    rw [Plain.size, List.length_map]
    omega
  · cases h
theorem size_all {n : Nat} : ∀ {xs : List RWire.Value} {l : List RepT}, allSome (xs.map repOf) = some l → l.length = xs.length ∧ insertedLength (l.map toRep) ≤ ((Rust.takenAll xs).map (Plain.size (n + 1))).sum
  | [], l, h => by
    injection h with h
    subst h
    exact ⟨rfl, Nat.le_refl _⟩
  | x :: xs, l, h => by
    rw [List.map_cons] at h
    cases hx : repOf x with
    | none => rw [hx] at h; cases h
    | some e =>
      rw [hx, allSome] at h
      cases hr : allSome (xs.map repOf) with
      | none => rw [hr] at h; cases h
      | some q =>
        rw [hr] at h
        injection h with h
        subst h
        obtain ⟨h1, h2⟩ := size_all (n := n) hr
        have h3 := size_rep (n := n) hx
        refine ⟨by rw [List.length_cons, List.length_cons, h1], ?_⟩
        rw [List.map_cons, ins_cons, Rust.takenAll, List.map_cons, List.sum_cons]
        have h4 : (toRep e).text.length = e.2.2.length := List.length_map ..
        omega
theorem size_reps {v : RWire.Value} {l : List RepT} (h : repsOf v = some l) (hs : Plain.size 8 (Rust.taken v) ≤ 4000) : l.length ≤ 20 ∧ insertedLength (l.map toRep) ≤ 4000 := by
  unfold repsOf at h
  split at h
  · rename_i xs
    by_cases h20 : xs.length ≤ 20
    · rw [if_pos h20] at h
      obtain ⟨h1, h2⟩ := size_all (n := 6) h
      have hs : ((Rust.takenAll xs).map (Plain.size (6 + 1))).sum + 1 ≤ 4000 := hs
      exact ⟨by omega, by omega⟩
    · rw [if_neg h20] at h
      cases h
  · injection h with h
    subst h
    exact ⟨by decide, by decide⟩
  · cases h
theorem fine_arg {v : RWire.Value} (hw : RWire.noWide v = true) (hs : Plain.size 8 (Rust.taken v) ≤ 4000) : FineArg v := by
  refine ⟨fun l hl => Nat.le_trans (size_reps hl hs).2 (by decide), fun n c hc => ?_⟩
  have hv : Valid 0 n c := by
    have ha := args_law (n := n) hw
    rw [hc] at ha
    cases hx : changeArg n (Rust.taken v) with
    | error e => rw [hx] at ha; exact ha.elim
    | ok c0 =>
      rw [hx] at ha
      obtain ⟨h1, h2, _⟩ := ha
      rw [h1]
      exact Law.valid_normal h2
  refine ⟨hv, ?_⟩
  unfold chgOf at hc
  cases hl : repsOf v with
  | none => rw [hl] at hc; cases hc
  | some l =>
    rw [hl] at hc
    cases hz : checkR n 1 0 l with
    | some z => simp only [hz] at hc; cases hc
    | none =>
      simp only [hz] at hc
      injection hc with hc
      obtain ⟨h1, h2⟩ := size_reps hl hs
      rw [Law.normal_fold] at hc
      have h3 := ins_normal (l.map toRep)
      rw [hc, List.length_map] at h3
      exact ⟨by omega, by omega⟩
end Tk
end
section
set_option Elab.async false
set_option linter.all false
set_option maxRecDepth 100000
/-! The answers, part 5: what a request asks. -/
namespace Tk
open R7253e.Spec (Document Change Replacement Err Res Units andThen require normalize changedText insertedLength nestingOk scan rescan changeArg Selection Plain beyond wrong newDocument Token textArg evalQuery tokenValue orNull World)
open Law (MDoc MVer Good SOk absDoc Valid mGo mEdit mNew nStep)
def CallIs (door s : Nat) (v : RWire.Value) (c : R7253e.Spec.Call) : Prop := match door with
  | 0 => c = .document s (Rust.taken v)
  | 1 => c = .query s .text ∧ v = .nothing
  | 2 => c = .query s .version ∧ v = .nothing
  | 3 => c = .command s (.edit (Rust.taken v))
  | 4 => c = .command s .undo ∧ v = .nothing
  | 5 => c = .command s .redo ∧ v = .nothing
  | 6 => c = .command s (.checkout (Rust.taken v))
  | 7 => c = .query s (.tokenById (Rust.taken v))
  | 8 => ∃ j : Nat, j < 2 ∧ v = .int (j : Int) ∧ c = .tokenIterator s j
  | 9 => c = .tokenNext s ∧ v = .nothing
  | 10 => c = .tokenReturn s ∧ v = .nothing
  | _ => False
theorem slot_law {x : RWire.Value} {s : Nat} (h : Rust.slotOf 1 (Rust.taken x) = some s) : x = .int (s : Int) ∧ s < 2 := by
  cases x with
  | int i =>
    have h : (if decide (0 ≤ i) && Nat.ble i.toNat 1 then some i.toNat else none) = some s := h
    by_cases hc : (decide (0 ≤ i) && Nat.ble i.toNat 1) = true
    · rw [if_pos hc] at h
      injection h with h
      rw [Bool.and_eq_true] at hc
      have h1 := of_decide_eq_true hc.1
      have h2 := Nat.le_of_ble_eq_true hc.2
      subst h
      exact ⟨congrArg _ (by omega), by omega⟩
    · rw [if_neg hc] at h
      cases h
  | _ => cases h
theorem taking_law {n : Nat} {l : List Plain} {c : Option R7253e.Spec.Call} {d : R7253e.Spec.Call} (h : Rust.taking n l c = some d) : l.length ≤ n ∧ c = some d := by
  unfold Rust.taking at h
  by_cases hc : Nat.ble l.length n = true
  · rw [if_pos hc] at h
    exact ⟨Nat.le_of_ble_eq_true hc, h⟩
  · rw [if_neg hc] at h
    cases h
theorem taken_len (l : List RWire.Value) : (Rust.takenAll l).length = l.length := by rw [takenAll_map, List.length_map]
/-- one argument at least; the first is a slot -/
theorem first_law {l : List RWire.Value} {s : Nat} (h : Rust.slotAt (Rust.takenAll l) 0 1 = some s) : s < 2 ∧ ∃ r, l = .int (s : Int) :: r := by
  cases l with
  | nil => cases h
  | cons x r =>
    obtain ⟨h1, h2⟩ := slot_law (x := x) h
    exact ⟨h2, r, by rw [h1]⟩
theorem arg_law (x : RWire.Value) (r : List RWire.Value) : Rust.argAt (Rust.takenAll (x :: r)) 1 = Rust.taken (r.getD 0 .nothing) := by
  cases r <;> rfl
theorem calls_law {door : Nat} {l : List RWire.Value} {c : R7253e.Spec.Call} (h : Rust.calls0 door (Rust.takenAll l) = some c) : ∃ (s : Nat) (r : List RWire.Value), s < 2 ∧ l = .int (s : Int) :: r ∧ r.length ≤ 1 ∧ CallIs door s (r.getD 0 .nothing) c := by
  have one : ∀ {k : Nat → R7253e.Spec.Call}, Rust.taking 1 (Rust.takenAll l) ((Rust.slotAt (Rust.takenAll l) 0 1).bind fun s0 => some (k s0)) = some c → ∃ s : Nat, s < 2 ∧ l = [.int (s : Int)] ∧ c = k s := fun {k} h => by
    obtain ⟨h1, h2⟩ := taking_law h
    cases hs : Rust.slotAt (Rust.takenAll l) 0 1 with
    | none => rw [hs] at h2; cases h2
    | some s =>
      rw [hs] at h2
      injection h2 with h2
      obtain ⟨h3, r, h4⟩ := first_law hs
      rw [taken_len, h4, List.length_cons] at h1
      have : r = [] := List.length_eq_zero_iff.mp (by omega)
      exact ⟨s, h3, by rw [h4, this], h2.symm⟩
  have two : ∀ {k : Nat → Plain → R7253e.Spec.Call}, Rust.taking 2 (Rust.takenAll l) ((Rust.slotAt (Rust.takenAll l) 0 1).bind fun s0 => some (k s0 (Rust.argAt (Rust.takenAll l) 1))) = some c → ∃ (s : Nat) (r : List RWire.Value), s < 2 ∧ l = .int (s : Int) :: r ∧ r.length ≤ 1 ∧ c = k s (Rust.taken (r.getD 0 .nothing)) := fun {k} h => by
    obtain ⟨h1, h2⟩ := taking_law h
    cases hs : Rust.slotAt (Rust.takenAll l) 0 1 with
    | none => rw [hs] at h2; cases h2
    | some s =>
      rw [hs] at h2
      injection h2 with h2
      obtain ⟨h3, r, h4⟩ := first_law hs
      rw [taken_len, h4, List.length_cons] at h1
      rw [h4, arg_law] at h2
      exact ⟨s, r, h3, h4, by omega, h2.symm⟩
  unfold Rust.calls0 at h
  split at h
  · obtain ⟨s, r, a, b, c, d⟩ := two (k := fun s0 x => .document s0 x) h; exact ⟨s, r, a, b, c, d⟩
  · obtain ⟨s, a, b, c⟩ := one (k := fun s0 => .query s0 .text) h; exact ⟨s, [], a, b, Nat.zero_le _, c, rfl⟩
  · obtain ⟨s, a, b, c⟩ := one (k := fun s0 => .query s0 .version) h; exact ⟨s, [], a, b, Nat.zero_le _, c, rfl⟩
  · obtain ⟨s, r, a, b, c, d⟩ := two (k := fun s0 x => .command s0 (.edit x)) h; exact ⟨s, r, a, b, c, d⟩
  · obtain ⟨s, a, b, c⟩ := one (k := fun s0 => .command s0 .undo) h; exact ⟨s, [], a, b, Nat.zero_le _, c, rfl⟩
  · obtain ⟨s, a, b, c⟩ := one (k := fun s0 => .command s0 .redo) h; exact ⟨s, [], a, b, Nat.zero_le _, c, rfl⟩
  · obtain ⟨s, r, a, b, c, d⟩ := two (k := fun s0 x => .command s0 (.checkout x)) h; exact ⟨s, r, a, b, c, d⟩
  · obtain ⟨s, r, a, b, c, d⟩ := two (k := fun s0 x => .query s0 (.tokenById x)) h; exact ⟨s, r, a, b, c, d⟩
  · obtain ⟨h1, h2⟩ := taking_law h
    cases hs : Rust.slotAt (Rust.takenAll l) 0 1 with
    | none => rw [hs] at h2; cases h2
    | some s =>
      rw [hs] at h2
      obtain ⟨h3, r, h4⟩ := first_law hs
      cases hj : Rust.slotAt (Rust.takenAll l) 1 1 with
      | none => rw [hj] at h2; cases h2
      | some j =>
        rw [hj] at h2
        injection h2 with h2
        rw [taken_len, h4, List.length_cons] at h1
        have hj : Rust.slotOf 1 (Rust.argAt (Rust.takenAll l) 1) = some j := hj
        rw [h4, arg_law] at hj
        obtain ⟨h5, h6⟩ := slot_law hj
        exact ⟨s, r, h3, h4, by omega, j, h6, h5, h2.symm⟩
  · obtain ⟨s, a, b, c⟩ := one (k := fun s0 => .tokenNext s0) h; exact ⟨s, [], a, b, Nat.zero_le _, c, rfl⟩
  · obtain ⟨s, a, b, c⟩ := one (k := fun s0 => .tokenReturn s0) h; exact ⟨s, [], a, b, Nat.zero_le _, c, rfl⟩
  · cases h
theorem asked_law {b : RWire.Octets} {c : R7253e.Spec.Call} (h : Rust.asked b = some c) : ∃ (door s : Nat) (r : List RWire.Value), RWire.readRequest b = some (door, .int (s : Int) :: r) ∧ r.length ≤ 1 ∧ RWire.noBigMany (.int (s : Int) :: r) = true ∧ RWire.noWideMany (.int (s : Int) :: r) = true ∧ s < 2 ∧ CallIs door s (r.getD 0 .nothing) c := by
  unfold Rust.asked at h
  split at h
  · rename_i d l hr
    by_cases hk : Rust.ofKinds l = true
    · rw [if_pos hk] at h
      unfold Rust.callOf at h
      split at h
      · obtain ⟨s, r, h1, h2, h3, h4⟩ := calls_law h
        subst h2
        have hk : ((false || RWire.noBigMany (.int (s : Int) :: r)) && (true || RWire.noOctetsMany (.int (s : Int) :: r)) && (false || RWire.noWideMany (.int (s : Int) :: r))) = true := hk
        rw [Bool.false_or, Bool.false_or, Bool.true_or, Bool.and_true, Bool.and_eq_true] at hk
        exact ⟨d, s, r, hr, h3, hk.1, hk.2, h1, h4⟩
      · cases h
    · rw [if_neg hk] at h
      cases h
  · cases h
end Tk
end
section
set_option Elab.async false
set_option linter.all false
set_option maxRecDepth 100000
/-! The answers, part 6: what is answered can be told. -/
namespace Tk
open R7253e.Spec (Document Change Replacement Err Res Units andThen require normalize changedText insertedLength nestingOk scan rescan changeArg Selection Plain beyond wrong newDocument Token textArg evalQuery tokenValue orNull World documentAt)
open Law (MDoc MVer Good SOk absDoc Valid mGo mEdit mNew nStep)
def YOk (y : RWire.Value) : Prop := wOk y = true ∧ RWire.depth y ≤ 4 ∧ (RWire.write y).length ≤ 90000
theorem low_len : ∀ k n, (RWire.low k n).length = k
  | 0, _ => rfl
  | k + 1, n => by rw [RWire.low, List.length_cons, low_len k]
theorem count_len (n : Nat) : (RWire.writeCount n).length = 4 := low_len 4 n
theorem wtext_len (u : RWire.Text) : (RWire.writeText u).length = 4 + u.length := by rw [RWire.writeText, List.length_append, count_len]
theorem wint_len (i : Int) : (RWire.write (.int i)).length = 9 := by
  rw [RWire.write, RWire.writeInt, List.length_cons, low_len]
theorem y_nothing : YOk .nothing := ⟨by rw [wOk], by decide, by decide⟩
theorem y_null : YOk .null := ⟨by rw [wOk], by decide, by decide⟩
theorem y_int {n : Nat} (h : n < 1000000) : YOk (.int (n : Int)) := ⟨by rw [wOk]; exact decide_eq_true ⟨by omega, by show (n : Int) < 18446744073709551616; omega⟩, by rw [RWire.depth]; decide, by rw [wint_len]; decide⟩
theorem y_text {u : RWire.Text} (h : u.length ≤ 600) : YOk (.text u) := ⟨by rw [wOk], by rw [RWire.depth]; decide, by rw [RWire.write, List.length_cons, wtext_len]; omega⟩
theorem w_int {n : Nat} (h : RWire.fine (.int (n : Int)) = true) : wOk (.int (n : Int)) = true := by
  rw [RWire.fine] at h
  have h := Nat.le_of_ble_eq_true h
  have h : n ≤ 9007199254740991 := h
  rw [wOk]
  exact decide_eq_true ⟨by omega, by show (n : Int) < 18446744073709551616; omega⟩
theorem kn_len : ∀ k ∈ Law.kinds, (txtOf (kn k)).length ≤ 100 := by decide +kernel
theorem nm_len : ∀ s ∈ (["id", "kind", "from", "to", "value", "done"] : List PySem.Str), (txtOf s).length ≤ 10 := by decide +kernel
theorem y_tok {t : Token} (h : RWire.fine (tokV t) = true) (hk : t.raw.kind ∈ Law.kinds) : wOk (tokV t) = true ∧ RWire.depth (tokV t) = 2 ∧ (RWire.write (tokV t)).length ≤ 1000 := by
  refine ⟨?_, ?_, ?_⟩
  · unfold tokV pairV at h ⊢
    simp only [List.map_cons, List.map_nil, RWire.fine, RWire.fineEntries, Bool.and_eq_true] at h
    obtain ⟨_, ⟨⟨_, h1, ⟨_, _, ⟨_, h2, ⟨_, h3, _⟩⟩⟩⟩, _⟩⟩ := h
    have e1 := w_int (n := t.id) (by rw [RWire.fine]; exact h1)
    have e2 := w_int (n := t.raw.start) (by rw [RWire.fine]; exact h2)
    have e3 := w_int (n := t.raw.start + t.raw.length) (by rw [RWire.fine]; exact h3)
    simp only [List.map_cons, List.map_nil]
    rw [wOk, wOkE, wOkE, wOkE, wOkE, wOkE, e1, e2, e3, wOk]
    rfl
  · unfold tokV pairV
    simp only [List.map_cons, List.map_nil, RWire.depth, RWire.depthEntries]
    rfl
  · unfold tokV pairV
    have l1 := nm_len "id" (by decide)
    have l2 := nm_len "kind" (by decide)
    have l3 := nm_len "from" (by decide)
    have l4 := nm_len "to" (by decide)
    have l5 := kn_len _ hk
    simp only [List.map_cons, List.map_nil, RWire.write, RWire.writeEntries, RWire.writeInt, List.length_append, List.length_cons, List.length_nil, low_len, count_len, wtext_len]
    omega
theorem y_step {y : RWire.Value} {b : Bool} (h1 : wOk y = true) (h2 : RWire.depth y ≤ 2) (h3 : (RWire.write y).length ≤ 1000) : YOk (stepV y b) := by
  refine ⟨?_, ?_, ?_⟩
  · unfold stepV pairV
    simp only [List.map_cons, List.map_nil]
    rw [wOk, wOkE, wOkE, wOkE, h1, wOk]
    rfl
  · unfold stepV pairV
    simp only [List.map_cons, List.map_nil, RWire.depth, RWire.depthEntries]
    have : Nat.max 1 0 = 1 := rfl
    rw [this]
    have : Nat.max (RWire.depth y) 1 ≤ 2 := Nat.max_le.mpr ⟨h2, by decide⟩
    omega
  · unfold stepV pairV
    have l1 := nm_len "value" (by decide)
    have l2 := nm_len "done" (by decide)
    simp only [List.map_cons, List.map_nil, RWire.write, RWire.writeEntries, List.length_append, List.length_cons, List.length_nil, count_len, wtext_len]
    omega
theorem fine_step {y : RWire.Value} {b : Bool} (h : RWire.fine (stepV y b) = true) : RWire.fine y = true := by
  unfold stepV pairV at h
  simp only [List.map_cons, List.map_nil, RWire.fine, RWire.fineEntries, Bool.and_eq_true] at h
  exact h.2.1.2.1
end Tk
end
section
set_option Elab.async false
set_option linter.all false
set_option maxRecDepth 100000
/-! The answers, part 7: the specification's world against the desk. -/
namespace Tk
open R7253e.Spec (Document Change Replacement Err Res Units andThen require normalize changedText insertedLength nestingOk scan rescan changeArg Selection Plain beyond wrong newDocument Token textArg evalQuery tokenValue orNull World documentAt runCommand)
open Law (MDoc MVer Good SOk absDoc Valid mGo mEdit mNew nStep)
structure WRel (w : World) (m : MDesk) : Prop where
  docs : m.docs = w.documentSlots.map fun o => o.map fun i => absDoc (documentAt w i)
  walks : m.walks = w.tokenSlots
  dlen : w.documentSlots.length = 2
  tlen : w.tokenSlots.length = 2
  ok : ∀ p i : Nat, w.documentSlots[p]? = some (some i) → i < w.documents.length ∧ SOk (documentAt w i)
  apart : ∀ p q i : Nat, w.documentSlots[p]? = some (some i) → w.documentSlots[q]? = some (some i) → p = q
  kinds : ∀ (i : Nat) (l : List Token), w.tokenSlots[i]? = some (some l) → ∀ t ∈ l, t.raw.kind ∈ Law.kinds
theorem getD_some {α : Type} {l : List (Option α)} {p : Nat} {a : α} (h : l.getD p none = some a) : l[p]? = some (some a) := by
  rw [List.getD_eq_getElem?_getD] at h
  cases hl : l[p]? with
  | none => rw [hl] at h; cases h
  | some o => rw [hl] at h; exact congrArg some h
theorem WRel.good {w : World} {m : MDesk} (h : WRel w m) : GoodDesk m := by
  refine ⟨fun i d hd => ?_, fun i l hl => ?_⟩
  · rw [h.docs, List.getElem?_map] at hd
    cases hs : w.documentSlots[i]? with
    | none => rw [hs] at hd; cases hd
    | some o =>
      rw [hs] at hd
      cases o with
      | none => injection hd with hd; cases hd
      | some k =>
        injection hd with hd
        injection hd with hd
        rw [← hd]
        exact (h.ok i k hs).2.good
  · rw [h.walks] at hl
    exact h.kinds i l hl
theorem WRel.doc {w : World} {m : MDesk} (h : WRel w m) {s : Nat} (hd : R7253e.Spec.hasDocument w s = true) : ∃ i, w.documentSlots.getD s none = some i ∧ w.documentSlots[s]? = some (some i) ∧ i < w.documents.length ∧ SOk (documentAt w i) ∧ m.docs.getD s none = some (absDoc (documentAt w i)) ∧ m.docs[s]? = some (some (absDoc (documentAt w i))) := by
  unfold R7253e.Spec.hasDocument at hd
  rw [Bool.and_eq_true] at hd
  obtain ⟨i, hi⟩ := Option.isSome_iff_exists.mp hd.2
  have hs := getD_some hi
  obtain ⟨h1, h2⟩ := h.ok s i hs
  have hm : m.docs[s]? = some (some (absDoc (documentAt w i))) := by
    rw [h.docs, List.getElem?_map, hs]
    rfl
  exact ⟨i, hi, hs, h1, h2, by rw [List.getD_eq_getElem?_getD, hm]; rfl, hm⟩
theorem WRel.walk {w : World} {m : MDesk} (h : WRel w m) {s : Nat} (hd : R7253e.Spec.hasTokens w s = true) : ∃ l, w.tokenSlots.getD s none = some l ∧ m.walks.getD s none = some l ∧ m.walks[s]? = some (some l) ∧ ∀ t ∈ l, t.raw.kind ∈ Law.kinds := by
  unfold R7253e.Spec.hasTokens at hd
  rw [Bool.and_eq_true] at hd
  obtain ⟨l, hl⟩ := Option.isSome_iff_exists.mp hd.2
  have hs := getD_some hl
  exact ⟨l, hl, by rw [h.walks]; exact hl, by rw [h.walks]; exact hs, h.kinds s l hs⟩
theorem docAt_set {w : World} {i j : Nat} {d : Document} (hi : i < w.documents.length) : documentAt (R7253e.Spec.setDocument w i d) j = if i = j then d else documentAt w j := by
  show (w.documents.set i d).getD j R7253e.Spec.emptyDocument = if i = j then d else w.documents.getD j R7253e.Spec.emptyDocument
  rw [List.getD_eq_getElem?_getD, List.getD_eq_getElem?_getD, List.getElem?_set]
  by_cases h : i = j
  · rw [if_pos h, if_pos h, if_pos (by omega)]
    rfl
  · rw [if_neg h, if_neg h]
/-- a document changed -/
theorem WRel.put {w : World} {m : MDesk} (h : WRel w m) {s i : Nat} (hs : w.documentSlots[s]? = some (some i)) {d : Document} (hd : SOk d) : WRel (R7253e.Spec.setDocument w i d) { m with docs := m.docs.set s (some (absDoc d)) } := by
  obtain ⟨hi, _⟩ := h.ok s i hs
  refine ⟨?_, h.walks, h.dlen, h.tlen, fun p k hp => ?_, h.apart, h.kinds⟩
  · show m.docs.set s (some (absDoc d)) = w.documentSlots.map fun o => o.map fun k => absDoc (documentAt (R7253e.Spec.setDocument w i d) k)
    refine List.ext_getElem? fun p => ?_
    rw [List.getElem?_set, h.docs, List.getElem?_map, List.getElem?_map, List.length_map]
    by_cases hp : s = p
    · subst hp
      have hl : s < w.documentSlots.length := by
        rcases Nat.lt_or_ge s w.documentSlots.length with hl | hl
        · exact hl
        · rw [List.getElem?_eq_none hl] at hs; cases hs
      rw [if_pos rfl, if_pos hl, hs]
      show _ = some (some (absDoc (documentAt (R7253e.Spec.setDocument w i d) i)))
      rw [docAt_set hi, if_pos rfl]
    · rw [if_neg hp]
      cases hq : w.documentSlots[p]? with
      | none => rfl
      | some o =>
        cases o with
        | none => rfl
        | some k =>
          show some (some (absDoc (documentAt w k))) = some (some (absDoc (documentAt (R7253e.Spec.setDocument w i d) k)))
          rw [docAt_set hi, if_neg (fun e => hp (h.apart s p i hs (by rw [hq, e])))]
  · have hp : w.documentSlots[p]? = some (some k) := hp
    obtain ⟨h1, h2⟩ := h.ok p k hp
    refine ⟨by show k < (w.documents.set i d).length; rw [List.length_set]; exact h1, ?_⟩
    rw [docAt_set hi]
    by_cases e : i = k
    · rw [if_pos e]; exact hd
    · rw [if_neg e]; exact h2
/-- a token walk changed -/
theorem WRel.walked {w : World} {m : MDesk} (h : WRel w m) {s : Nat} {l : List Token} (hl : ∀ t ∈ l, t.raw.kind ∈ Law.kinds) : WRel { w with tokenSlots := w.tokenSlots.set s (some l) } { m with walks := m.walks.set s (some l) } := by
  refine ⟨h.docs, by show m.walks.set s (some l) = _; rw [h.walks], h.dlen, by show (w.tokenSlots.set s (some l)).length = 2; rw [List.length_set]; exact h.tlen, h.ok, h.apart, fun i l' hi => ?_⟩
  have hi : (w.tokenSlots.set s (some l))[i]? = some (some l') := hi
  rw [List.getElem?_set] at hi
  by_cases e : s = i
  · rw [if_pos e] at hi
    by_cases e2 : s < w.tokenSlots.length
    · rw [if_pos e2] at hi
      injection hi with hi
      injection hi with hi
      rw [← hi]
      exact hl
    · rw [if_neg e2] at hi
      cases hi
  · rw [if_neg e] at hi
    exact h.kinds i l' hi
/-- a new document -/
theorem WRel.fresh {w : World} {m : MDesk} (h : WRel w m) {s : Nat} (hs : s < 2) {d : Document} (hd : SOk d) : WRel { w with documents := w.documents ++ [d], documentSlots := w.documentSlots.set s (some w.documents.length) } { m with docs := m.docs.set s (some (absDoc d)) } := by
  have new : (w.documents ++ [d]).getD w.documents.length R7253e.Spec.emptyDocument = d := by
    rw [List.getD_eq_getElem?_getD, List.getElem?_append_right (Nat.le_refl _), Nat.sub_self]
    rfl
  have old : ∀ k, k < w.documents.length → (w.documents ++ [d]).getD k R7253e.Spec.emptyDocument = documentAt w k := fun k hk => by
    rw [List.getD_eq_getElem?_getD, List.getElem?_append_left hk]
    exact (List.getD_eq_getElem?_getD ..).symm
  have at_ : ∀ p k, (w.documentSlots.set s (some w.documents.length))[p]? = some (some k) → (p = s ∧ k = w.documents.length) ∨ (p ≠ s ∧ w.documentSlots[p]? = some (some k)) := fun p k hp => by
    rw [List.getElem?_set] at hp
    by_cases e : s = p
    · rw [if_pos e, if_pos (by rw [h.dlen]; exact hs)] at hp
      injection hp with hp
      injection hp with hp
      exact Or.inl ⟨e.symm, hp.symm⟩
    · rw [if_neg e] at hp
      exact Or.inr ⟨fun z => e z.symm, hp⟩
  refine ⟨?_, h.walks, by show (w.documentSlots.set _ _).length = 2; rw [List.length_set]; exact h.dlen, h.tlen, fun p k hp => ?_, fun p q k hp hq => ?_, h.kinds⟩
  · show m.docs.set s (some (absDoc d)) = (w.documentSlots.set s (some w.documents.length)).map fun o => o.map fun k => absDoc ((w.documents ++ [d]).getD k R7253e.Spec.emptyDocument)
    refine List.ext_getElem? fun p => ?_
    rw [List.getElem?_set, h.docs, List.getElem?_map, List.getElem?_map, List.length_map, List.getElem?_set]
    by_cases hp : s = p
    · rw [if_pos hp, if_pos hp, if_pos (by rw [h.dlen]; exact hs), if_pos (by rw [h.dlen]; exact hs)]
      show _ = some (some (absDoc _))
      rw [new]
    · rw [if_neg hp, if_neg hp]
      cases hq : w.documentSlots[p]? with
      | none => rfl
      | some o =>
        cases o with
        | none => rfl
        | some k =>
          show some (some (absDoc (documentAt w k))) = some (some (absDoc _))
          rw [old k (h.ok p k hq).1]
  · show k < (w.documents ++ [d]).length ∧ SOk ((w.documents ++ [d]).getD k R7253e.Spec.emptyDocument)
    rw [List.length_append]
    rcases at_ p k hp with ⟨_, rfl⟩ | ⟨_, hp⟩
    · rw [new]
      exact ⟨Nat.lt_succ_self _, hd⟩
    · obtain ⟨h1, h2⟩ := h.ok p k hp
      rw [old k h1]
      exact ⟨by omega, h2⟩
  · rcases at_ p k hp with ⟨h1, h2⟩ | ⟨h1, h2⟩
    · rcases at_ q k hq with ⟨h3, h4⟩ | ⟨h3, h4⟩
      · omega
      · have := (h.ok q k h4).1
        omega
    · rcases at_ q k hq with ⟨h3, h4⟩ | ⟨h3, h4⟩
      · have := (h.ok p k h2).1
        omega
      · exact h.apart p q k h2 h4
end Tk
end
section
set_option Elab.async false
set_option linter.all false
set_option maxRecDepth 100000
/-! The answers, part 8: one request. -/
namespace Tk
open R7253e.Spec (Document Change Replacement Err Res Units andThen require normalize changedText insertedLength nestingOk scan rescan changeArg Selection Plain beyond wrong newDocument Token textArg evalQuery tokenValue orNull World documentAt runCommand)
open Law (MDoc MVer Good SOk absDoc Valid mGo mEdit mNew nStep)
structure Ends (w : World) (m : MDesk) (door s : Nat) (v : RWire.Value) (c : R7253e.Spec.Call) : Prop where
  tells : Tells m door s v
  ans : RWire.writeAnswer (Rust.answerOf (R7253e.Spec.step w c).2) = ansOf m door s v
  next : WRel (R7253e.Spec.step w c).1 (nextOf m door s v)
theorem ends_ok {w w' : World} {m m' : MDesk} {door s : Nat} {v y : RWire.Value} {c : R7253e.Spec.Call} {p : Plain} (hs : R7253e.Spec.step w c = (w', .ret p)) (hm : mDone m door s v = .ok (m', y)) (hg : Rust.given p = y) (hy : YOk y) (hr : WRel w' m') : Ends w m door s v c := by
  refine ⟨?_, ?_, ?_⟩
  · unfold Tells
    rw [hm]
    exact hy
  · unfold ansOf
    rw [hm, hs, ← hg]
    rfl
  · unfold nextOf
    rw [hm, hs]
    exact hr
theorem ends_err {w : World} {m : MDesk} {door s : Nat} {v : RWire.Value} {c : R7253e.Spec.Call} {e : Refused} {x : Err} (hs : R7253e.Spec.step w c = (w, .fail x)) (hm : mDone m door s v = .error e) (he : errIs e x) (hr : WRel w m) : Ends w m door s v c := by
  obtain ⟨h1, h2⟩ := err_answer he
  refine ⟨?_, ?_, ?_⟩
  · unfold Tells
    rw [hm]
    exact h2
  · unfold ansOf
    rw [hm, hs]
    exact h1.symm
  · unfold nextOf
    rw [hm, hs]
    exact hr
theorem done_doc {m : MDesk} {door s : Nat} {v : RWire.Value} {d : MDoc} (h1 : door ≠ 0) (h2 : door < 8) (hd : m.docs.getD s none = some d) : mDone m door s v = if door = 1 then .ok (m, .text (d.now.text.map Rust.octetOf)) else if door = 2 then .ok (m, .int d.cur) else if door = 3 then (match editOf d v with
        | .error e => .error e
        | .ok d' => .ok ({ m with docs := m.docs.set s (some d') }, .int d'.cur))
      else if door = 7 then .ok (m, tokOf d v) else (match versOf door d v with
        | .error e => .error e
        | .ok d' => .ok ({ m with docs := m.docs.set s (some d') }, .int d'.cur)) := by
  unfold mDone
  rw [if_neg h1, if_neg (by omega), hd]
  all_goals rfl
theorem with_doc {w : World} {s i : Nat} (h : w.documentSlots.getD s none = some i) (f : Nat → World × R7253e.Spec.Ans) : R7253e.Spec.withDocument w s f = f i := by
  unfold R7253e.Spec.withDocument
  rw [h]
theorem with_toks {w : World} {s : Nat} {l : List Token} (h : w.tokenSlots.getD s none = some l) (f : List Token → World × R7253e.Spec.Ans) : R7253e.Spec.withTokens w s f = f l := by
  unfold R7253e.Spec.withTokens
  rw [h]
/-- a command on a document -/
theorem command_ends {w : World} {m : MDesk} (h : WRel w m) {door s i : Nat} {v : RWire.Value} {a : R7253e.Spec.Command} {x : Except Refused MDoc} {y : Res R7253e.Spec.Update} (hi : w.documentSlots.getD s none = some i)
    (hm : mDone m door s v = match x with | .error e => .error e | .ok d' => .ok ({ m with docs := m.docs.set s (some d') }, .int d'.cur))
    (hc : runCommand (documentAt w i) a = R7253e.Spec.reporting y) (hr : ResIs DocIs' x y) : Ends w m door s v (.command s a) := by
  have es : R7253e.Spec.step w (.command s a) = match runCommand (documentAt w i) a with
    | .ok m => (R7253e.Spec.setDocument w i m.1.1, .ret (R7253e.Spec.commandResult m))
    | .error e => (w, .fail e) := with_doc hi _
  rw [hc] at es
  cases x with
  | error e =>
    cases y with
    | ok u => exact hr.elim
    | error z => exact ends_err es hm hr h
  | ok d' =>
    cases y with
    | error z => exact hr.elim
    | ok u =>
      obtain ⟨h1, h2⟩ := hr
      subst h1
      refine ends_ok (w' := R7253e.Spec.setDocument w i u.1) (p := R7253e.Spec.nat u.1.current) es hm rfl (y_int ?_) (h.put (getD_some hi) h2)
      have := h2.good.cur
      have := h2.good.most
      show (absDoc u.1).cur < 1000000
      omega

theorem fits_one {v : RWire.Value} (h : R7253e.Spec.fits [Rust.taken v] = true) : Plain.size 8 (Rust.taken v) ≤ 4000 := by
  unfold R7253e.Spec.fits at h
  rw [Bool.and_eq_true] at h
  have h := of_decide_eq_true h.2
  have h : Plain.size 8 (Rust.taken v) + 0 ≤ 4000 := h
  omega
theorem fine_nothing : FineArg .nothing := fine_arg rfl (by decide)
theorem fine_int (i : Int) : FineArg (.int i) := fine_arg rfl (by show Plain.size 8 (.num _) ≤ 4000; rw [Plain.size]; decide; all_goals (intros; contradiction))
theorem slot_lt {w : World} {s : Nat} (h : R7253e.Spec.hasDocument w s = true) : s < 2 := by
  unfold R7253e.Spec.hasDocument at h
  rw [Bool.and_eq_true] at h
  exact of_decide_eq_true h.1
end Tk
end
section
set_option Elab.async false
set_option linter.all false
set_option maxRecDepth 100000
/-! The answers, part 9: the eleven doors. -/
namespace Tk
open R7253e.Spec (Document Change Replacement Err Res Units andThen require normalize changedText insertedLength nestingOk scan rescan changeArg Selection Plain beyond wrong newDocument Token textArg evalQuery tokenValue orNull World documentAt runCommand)
open Law (MDoc MVer Good SOk absDoc Valid mGo mEdit mNew nStep)
theorem reporting_then {x : Res Change} {f : Change → Res R7253e.Spec.Update} : R7253e.Spec.reporting (andThen x f) = R7253e.Spec.reporting (andThen x f) := rfl
theorem edits_law {d : Document} (h : SOk d) {v : RWire.Value} (hw : RWire.noWide v = true) : ResIs DocIs' (editOf (absDoc d) v) (andThen (changeArg d.text.length (Rust.taken v)) fun c => d.edit c) := by
  have htext : (absDoc d).now.text = d.text := (Law.abs_text d d.current).symm
  have ha := args_law (n := d.text.length) hw
  unfold editOf
  rw [htext]
  cases hx : chgOf d.text.length v with
  | error e =>
    rw [hx] at ha
    cases hy : changeArg d.text.length (Rust.taken v) with
    | error z => rw [hy] at ha; exact ha
    | ok c => rw [hy] at ha; exact ha.elim
  | ok c =>
    rw [hx] at ha
    cases hy : changeArg d.text.length (Rust.taken v) with
    | error z => rw [hy] at ha; exact ha.elim
    | ok c0 =>
      rw [hy] at ha
      obtain ⟨h1, h2, h3⟩ := ha
      rw [h1]
      show ResIs DocIs' (editTo (absDoc d) (normalize c0)) (d.change c0 fun k => R7253e.Spec.mapSelections k d.selections)
      exact edit_law h _ h2 h3
theorem may_doc {m : MDesk} {door s : Nat} {v : RWire.Value} {d : MDoc} (hs : s < 2) (hd : m.docs[s]? = some (some d)) (h : door < 8) : MayCall m door s v :=
  ⟨by omega, hs, fun _ _ => ⟨d, hd⟩, fun e => by omega, fun e => by omega⟩
theorem door_law {w : World} {m : MDesk} (h : WRel w m) {door s : Nat} {v : RWire.Value} {c : R7253e.Spec.Call} (hs : s < 2) (hc : CallIs door s v c) (hw : RWire.noWide v = true) (hin : R7253e.Spec.within w c = true) (ht : Rust.tellable (R7253e.Spec.step w c).2 = true) : MayCall m door s v ∧ FineArg v ∧ Ends w m door s v c := by
  unfold CallIs at hc
  split at hc
  · subst hc
    have hin : (decide (s < 2) && R7253e.Spec.fits [Rust.taken v]) = true := hin
    rw [Bool.and_eq_true] at hin
    refine ⟨⟨by omega, hs, fun e => by omega, fun e => by omega, fun e => by omega⟩, fine_arg hw (fits_one hin.2), ?_⟩
    have hn := new_law hw
    have hm : mDone m 0 s v = match newOf v with
      | .error e => .error e
      | .ok u => .ok ({ m with docs := m.docs.set s (some (mNew u)) }, .nothing) := by
      unfold mDone
      rw [if_pos rfl]
      all_goals rfl
    have es : R7253e.Spec.step w (.document s (Rust.taken v)) = match andThen (textArg (Rust.taken v)) fun u => andThen (require (nestingOk (scan u)) "nesting deeper than 12") fun _ => (.ok u : Res Units) with
      | .ok u => ({ w with documents := w.documents ++ [newDocument u], documentSlots := w.documentSlots.set s (some w.documents.length) }, .ret .undef)
      | .error e => (w, .fail e) := rfl
    cases hx : newOf v with
    | error e =>
      rw [hx] at hn hm
      cases hy : andThen (textArg (Rust.taken v)) fun u => andThen (require (nestingOk (scan u)) "nesting deeper than 12") fun _ => (.ok u : Res Units) with
      | error z =>
        rw [hy] at hn es
        exact ends_err es hm hn h
      | ok u => rw [hy] at hn; exact hn.elim
    | ok u =>
      rw [hx] at hn hm
      cases hy : andThen (textArg (Rust.taken v)) fun u => andThen (require (nestingOk (scan u)) "nesting deeper than 12") fun _ => (.ok u : Res Units) with
      | error z => rw [hy] at hn; exact hn.elim
      | ok u' =>
        rw [hy] at hn es
        obtain ⟨h1, h2, h3⟩ := hn
        subst h1
        refine ends_ok es hm rfl y_nothing ?_
        rw [← h2]
        exact h.fresh hs h3
  · obtain ⟨rfl, rfl⟩ := hc
    rw [show R7253e.Spec.within w (.query s .text) = (R7253e.Spec.hasDocument w s && R7253e.Spec.queryWithin .text) from rfl, Bool.and_eq_true] at hin
    obtain ⟨i, h1, h2, h3, h4, h5, h6⟩ := h.doc hin.1
    refine ⟨may_doc hs h6 (by decide), fine_nothing, ?_⟩
    exact ends_ok (with_doc h1 _) (by rw [done_doc (by decide) (by decide) h5, if_pos rfl]) text_law (y_text (by rw [List.length_map]; exact h4.good.text _ (now_mem h4.good))) h
  · obtain ⟨rfl, rfl⟩ := hc
    rw [show R7253e.Spec.within w (.query s .version) = (R7253e.Spec.hasDocument w s && R7253e.Spec.queryWithin .version) from rfl, Bool.and_eq_true] at hin
    obtain ⟨i, h1, h2, h3, h4, h5, h6⟩ := h.doc hin.1
    refine ⟨may_doc hs h6 (by decide), fine_nothing, ?_⟩
    have := h4.good.cur
    have := h4.good.most
    exact ends_ok (y := .int ((absDoc (documentAt w i)).cur : Int)) (with_doc h1 _) (by rw [done_doc (by decide) (by decide) h5, if_neg (by decide), if_pos rfl]) rfl (y_int (by show (absDoc (documentAt w i)).cur < 1000000; omega)) h
  · subst hc
    rw [show R7253e.Spec.within w (.command s (.edit (Rust.taken v))) = (R7253e.Spec.hasDocument w s && R7253e.Spec.fits [Rust.taken v]) from rfl, Bool.and_eq_true] at hin
    obtain ⟨i, h1, h2, h3, h4, h5, h6⟩ := h.doc hin.1
    refine ⟨may_doc hs h6 (by decide), fine_arg hw (fits_one hin.2), ?_⟩
    exact command_ends h h1 (by rw [done_doc (by decide) (by decide) h5, if_neg (by decide), if_neg (by decide), if_pos rfl]) rfl (edits_law h4 hw)
  · obtain ⟨rfl, rfl⟩ := hc
    rw [show R7253e.Spec.within w (.command s .undo) = (R7253e.Spec.hasDocument w s && R7253e.Spec.fits []) from rfl, Bool.and_eq_true] at hin
    obtain ⟨i, h1, h2, h3, h4, h5, h6⟩ := h.doc hin.1
    refine ⟨may_doc hs h6 (by decide), fine_nothing, ?_⟩
    exact command_ends h h1 (by rw [done_doc (by decide) (by decide) h5, if_neg (by decide), if_neg (by decide), if_neg (by decide), if_neg (by decide)]) rfl (undo_law h4 _)
  · obtain ⟨rfl, rfl⟩ := hc
    rw [show R7253e.Spec.within w (.command s .redo) = (R7253e.Spec.hasDocument w s && R7253e.Spec.fits []) from rfl, Bool.and_eq_true] at hin
    obtain ⟨i, h1, h2, h3, h4, h5, h6⟩ := h.doc hin.1
    refine ⟨may_doc hs h6 (by decide), fine_nothing, ?_⟩
    exact command_ends h h1 (by rw [done_doc (by decide) (by decide) h5, if_neg (by decide), if_neg (by decide), if_neg (by decide), if_neg (by decide)]) rfl (redo_law h4 _)
  · subst hc
    rw [show R7253e.Spec.within w (.command s (.checkout (Rust.taken v))) = (R7253e.Spec.hasDocument w s && R7253e.Spec.fits [Rust.taken v]) from rfl, Bool.and_eq_true] at hin
    obtain ⟨i, h1, h2, h3, h4, h5, h6⟩ := h.doc hin.1
    refine ⟨may_doc hs h6 (by decide), fine_arg hw (fits_one hin.2), ?_⟩
    exact command_ends h h1 (by rw [done_doc (by decide) (by decide) h5, if_neg (by decide), if_neg (by decide), if_neg (by decide), if_neg (by decide)]) rfl (checkout_law h4 (by decide) (by decide))
  · subst hc
    rw [show R7253e.Spec.within w (.query s (.tokenById (Rust.taken v))) = (R7253e.Spec.hasDocument w s && R7253e.Spec.fits [Rust.taken v]) from rfl, Bool.and_eq_true] at hin
    obtain ⟨i, h1, h2, h3, h4, h5, h6⟩ := h.doc hin.1
    refine ⟨may_doc hs h6 (by decide), fine_arg hw (fits_one hin.2), ?_⟩
    obtain ⟨p, hp, hg⟩ := tok_law h4 v
    have es : R7253e.Spec.step w (.query s (.tokenById (Rust.taken v))) = (w, R7253e.Spec.answer id (evalQuery (documentAt w i) (.tokenById (Rust.taken v)))) := with_doc h1 _
    rw [hp] at es
    have es : R7253e.Spec.step w (.query s (.tokenById (Rust.taken v))) = (w, .ret p) := es
    refine ends_ok es (by rw [done_doc (by decide) (by decide) h5, if_neg (by decide), if_neg (by decide), if_neg (by decide), if_pos rfl]) hg ?_ h
    rw [es] at ht
    have ht : (Rust.narrow p && RWire.writable (Rust.given p)) = true := ht
    rw [hg, Bool.and_eq_true] at ht
    have hf := ht.2
    unfold RWire.writable at hf
    rw [Bool.and_eq_true] at hf
    have hf := hf.1
    unfold tokOf tokIn at hf ⊢
    split
    · split
      · rename_i t hft
        have hk := good_kinds h4.good t (List.mem_of_find?_eq_some hft)
        simp only [hft] at hf
        obtain ⟨a, b, c⟩ := y_tok hf hk
        exact ⟨a, by omega, by omega⟩
      · exact y_null
    · exact y_null
  · obtain ⟨j, hj, rfl, rfl⟩ := hc
    rw [show R7253e.Spec.within w (.tokenIterator s j) = (decide (s < 2) && R7253e.Spec.hasDocument w j) from rfl, Bool.and_eq_true] at hin
    obtain ⟨i, h1, h2, h3, h4, h5, h6⟩ := h.doc hin.2
    refine ⟨⟨by omega, hs, fun _ _ => by omega, fun _ => ⟨j, _, rfl, h6⟩, fun e => by omega⟩, fine_int _, ?_⟩
    have hm : mDone m 8 s (.int (j : Int)) = .ok ({ m with walks := m.walks.set s (some (absDoc (documentAt w i)).now.toks) }, .nothing) := by
      unfold mDone
      rw [if_neg (by decide), if_pos (by decide)]
      unfold walkOf
      rw [if_pos rfl]
      show Except.ok (match m.docs.getD ((j : Int)).toNat none with | some d => _ | none => _) = _
      rw [Int.toNat_natCast, h5]
    have et : (documentAt w i).snapshot.tokens = (absDoc (documentAt w i)).now.toks := by rw [Law.abs_now]; rfl
    refine ends_ok (with_doc h1 _) hm rfl y_nothing ?_
    rw [← et]
    exact h.walked (by rw [et]; exact good_kinds h4.good)
  · obtain ⟨rfl, rfl⟩ := hc
    obtain ⟨l, h1, h2, h3, h4⟩ := h.walk hin
    refine ⟨⟨by omega, hs, fun _ _ => by omega, fun e => by omega, fun _ => ⟨l, h3⟩⟩, fine_nothing, ?_⟩
    have hm : ∀ r, walkOf m 9 s .nothing = r → mDone m 9 s .nothing = .ok r := fun r hr => by
      unfold mDone
      rw [if_neg (by decide), if_pos (by decide), hr]
    cases l with
    | nil =>
      have es : R7253e.Spec.step w (.tokenNext s) = (w, .ret (R7253e.Spec.iteratorResult .undef true)) := with_toks h1 _
      have ew : walkOf m 9 s .nothing = ({ m with walks := m.walks.set s (some []) }, stepV .nothing true) := by
        unfold walkOf
        rw [if_neg (by decide), h2]
        rfl
      have eset : m.walks.set s (some []) = m.walks := by
        refine List.ext_getElem? fun p => ?_
        rw [List.getElem?_set]
        by_cases hp : s = p
        · subst hp
          have hl : s < m.walks.length := by
            rcases Nat.lt_or_ge s m.walks.length with hl | hl
            · exact hl
            · rw [List.getElem?_eq_none hl] at h3; cases h3
          rw [if_pos rfl, if_pos hl, h3]
        · rw [if_neg hp]
      rw [eset] at ew
      exact ends_ok es (hm _ ew) (given_step _ _) (y_step (y_nothing.1) (by decide) (by decide)) h
    | cons x r =>
      have es : R7253e.Spec.step w (.tokenNext s) = ({ w with tokenSlots := w.tokenSlots.set s (some r) }, .ret (R7253e.Spec.iteratorResult (tokenValue x) false)) := with_toks h1 _
      have ew : walkOf m 9 s .nothing = ({ m with walks := m.walks.set s (some r) }, stepV (tokV x) false) := by
        unfold walkOf
        rw [if_neg (by decide), h2]
        rfl
      have hk := h4 x List.mem_cons_self
      have hg : Rust.given (R7253e.Spec.iteratorResult (tokenValue x) false) = stepV (tokV x) false := by rw [given_step, given_token hk]
      rw [es] at ht
      have ht : (Rust.narrow _ && RWire.writable (Rust.given (R7253e.Spec.iteratorResult (tokenValue x) false))) = true := ht
      rw [hg, Bool.and_eq_true] at ht
      have hf := ht.2
      unfold RWire.writable at hf
      rw [Bool.and_eq_true] at hf
      obtain ⟨a, b, c⟩ := y_tok (fine_step hf.1) hk
      exact ends_ok es (hm _ ew) hg (y_step a (by omega) c) (h.walked fun t ht => h4 t (List.mem_cons_of_mem _ ht))
  · obtain ⟨rfl, rfl⟩ := hc
    obtain ⟨l, h1, h2, h3, h4⟩ := h.walk hin
    refine ⟨⟨by omega, hs, fun _ _ => by omega, fun e => by omega, fun _ => ⟨l, h3⟩⟩, fine_nothing, ?_⟩
    have es : R7253e.Spec.step w (.tokenReturn s) = ({ w with tokenSlots := w.tokenSlots.set s (some []) }, .ret (R7253e.Spec.iteratorResult .undef true)) := with_toks h1 _
    have hm : mDone m 10 s .nothing = .ok ({ m with walks := m.walks.set s (some []) }, stepV .nothing true) := by
      unfold mDone
      rw [if_neg (by decide), if_pos (by decide)]
      unfold walkOf
      rw [if_neg (by decide), h2]
      rfl
    exact ends_ok es hm (given_step _ _) (y_step (y_nothing.1) (by decide) (by decide)) (h.walked fun t ht => by cases ht)
  · exact hc.elim
end Tk
end
section
set_option Elab.async false
set_option linter.all false
set_option maxRecDepth 100000
/-! The answers, part 10: all requests. -/
namespace Tk
open R7253e.Spec (World)
open Law (MDoc MVer Good SOk absDoc)
/-- the answers of the specification, one behind the other -/
def outsS : Rust.St → List (List UInt8) → List Int
  | _, [] => []
  | w, b :: r => ((Rust.step w b).2.length : Int) :: (nums (Rust.step w b).2 ++ outsS (Rust.step w b).1 r)
theorem play_law : ∀ (bs : List (List UInt8)) (w : World) (m : MDesk) (left : Nat), WRel w m → Rust.goes w left bs = true → (∀ b ∈ bs, b.length ≤ 60000) → ∃ reqs : List Req, reqs.map (fun q => q.row) = bs ∧ playOk m reqs ∧ outsOf m reqs = outsS w bs ∧ (outsS w bs).length ≤ left + bs.length
  | [], w, m, left, h, _, _ => ⟨[], rfl, h.good, rfl, Nat.zero_le _⟩
  | b :: r, w, m, left, h, hg, hl => by
    rw [Rust.goes] at hg
    cases ha : Rust.asked b with
    | none => rw [ha] at hg; cases hg
    | some c =>
      rw [ha] at hg
      simp only [Bool.and_eq_true] at hg
      obtain ⟨⟨⟨⟨hc, ht⟩, _⟩, hleft⟩, hg⟩ := hg
      have hleft := Nat.le_of_ble_eq_true hleft
      obtain ⟨door, s, a, h1, h2, h3, h4, h5, h6⟩ := asked_law ha
      have hin : R7253e.Spec.within w c = true := by
        unfold Rust.canBe at hc
        rw [Bool.and_eq_true] at hc
        exact hc.1
      have hwv : RWire.noWide (a.getD 0 .nothing) = true := by
        obtain ⟨_, h4⟩ := Law.noWide_cons h4
        cases a with
        | nil => rfl
        | cons x a => exact (Law.noWide_cons h4).1
      obtain ⟨d1, d2, d3⟩ := door_law h h5 h6 hwv hin ht
      have es : Rust.step w b = ((R7253e.Spec.step w c).1, RWire.writeAnswer (Rust.answerOf (R7253e.Spec.step w c).2)) := by
        unfold Rust.step
        rw [ha]
        exact if_pos hc
      obtain ⟨reqs, e1, e2, e3, e4⟩ := play_law r _ _ _ d3.next hg fun b' hb => hl b' (List.mem_cons_of_mem _ hb)
      have hb := hl b List.mem_cons_self
      refine ⟨⟨b, door, s, a.getD 0 .nothing⟩ :: reqs, by rw [List.map_cons, e1], ⟨h.good, ⟨⟨a, h1, h2, rfl, h3, h4⟩, by show b.length < 100000; omega, d1, d2, d3.tells⟩, e2⟩, ?_, ?_⟩
      · rw [outsOf, outsS, e3, es, ← d3.ans]
      · rw [outsS, es] 
        rw [es] at hleft e4
        show List.length (_ :: _) ≤ _
        rw [List.length_cons, List.length_append, List.length_cons]
        have : (nums (RWire.writeAnswer (Rust.answerOf (R7253e.Spec.step w c).2))).length = (RWire.writeAnswer (Rust.answerOf (R7253e.Spec.step w c).2)).length := List.length_map ..
        have hleft : (RWire.writeAnswer (Rust.answerOf (R7253e.Spec.step w c).2)).length ≤ left := hleft
        have e4 : (outsS (R7253e.Spec.step w c).1 r).length ≤ left - (RWire.writeAnswer (Rust.answerOf (R7253e.Spec.step w c).2)).length + r.length := e4
        show List.length (nums (RWire.writeAnswer (Rust.answerOf (R7253e.Spec.step w c).2))) + (outsS (R7253e.Spec.step w c).1 r).length + 1 ≤ left + (r.length + 1)
        rw [this]
        omega
end Tk
end
section
set_option Elab.async false
set_option linter.all false
set_option maxRecDepth 100000
/-! The answers, part 11: the list of numbers. -/
namespace Tk
open R7253e.Spec (World)
open Law (MDoc MVer Good SOk absDoc)
theorem rel_start : WRel World.start desk0 := by
  refine ⟨rfl, rfl, rfl, rfl, fun p i h => ?_, fun p q i h => ?_, fun i l h => ?_⟩
  · rcases p with _ | _ | p <;> cases h
  · rcases p with _ | _ | p <;> cases h
  · rcases i with _ | _ | i <;> cases h
theorem row_law {l x s : List Int} (h : PyFlat.row l = some (x, s)) : l = (x.length : Int) :: (x ++ s) := by
  cases l with
  | nil => cases h
  | cons n r =>
    unfold PyFlat.row at h
    by_cases hc : 0 ≤ n ∧ n.toNat ≤ r.length
    · simp only [if_pos hc] at h
      injection h with h
      injection h with h1 h2
      subst h1; subst h2
      rw [List.take_append_drop, List.length_take, Nat.min_eq_left hc.2]
      congr 1
      omega
    · simp only [if_neg hc] at h
      cases h
def flatI : List (List Int) → List Int
  | [] => []
  | x :: r => 0 :: (x.length : Int) :: (x ++ flatI r)
theorem calls_flat : ∀ (f : Nat) (l : List Int) (cs : List (List (List Int))), PyFlat.calls PyZq48.shape f l = some cs → ∃ rows : List (List Int), cs.map PyZq48.whole = rows.map (fun x => [x]) ∧ l = flatI rows
  | _, [], cs, h => by
    rw [PyFlat.calls] at h
    injection h with h
    subst h
    exact ⟨[], rfl, rfl⟩
  | 0, _ :: _, cs, h => by rw [PyFlat.calls] at h; cases h
  | f + 1, p :: r, cs, h => by
    rw [PyFlat.calls] at h
    cases hc : PyFlat.call PyZq48.shape (p :: r) with
    | none => rw [hc] at h; cases h
    | some q =>
      obtain ⟨c, t⟩ := q
      rw [hc] at h
      cases hr : PyFlat.calls PyZq48.shape f t with
      | none => simp only [hr] at h; cases h
      | some cs' =>
        simp only [hr] at h
        injection h with h
        subst h
        obtain ⟨rows, e1, e2⟩ := calls_flat f t cs' hr
        unfold PyFlat.call PyZq48.shape at hc
        by_cases hp : p = 0
        · subst hp
          simp only [if_true, if_neg (Nat.not_lt_zero _), List.drop_zero, List.take_zero, PyFlat.rows] at hc
          cases hx : PyFlat.row r with
          | none => simp only [hx] at hc; cases hc
          | some z =>
            obtain ⟨x, s⟩ := z
            simp only [hx] at hc
            injection hc with hc
            injection hc with hc1 hc2
            subst hc1; subst hc2
            refine ⟨x :: rows, ?_, ?_⟩
            · rw [List.map_cons, List.map_cons, e1]
              rfl
            · rw [flatI, row_law hx, ← e2]
        · simp only [if_neg hp] at hc
          cases hc
theorem nums_bytes : ∀ {x : List Int}, NeutralIO.bytes x = true → nums (Zq48Neutral.bytesOf x) = x
  | [], _ => rfl
  | n :: x, h => by
    unfold NeutralIO.bytes at h
    rw [List.all_cons, Bool.and_eq_true, Bool.and_eq_true] at h
    have h1 := of_decide_eq_true h.1.1
    have h2 := of_decide_eq_true h.1.2
    have ih := nums_bytes (x := x) h.2
    show (((UInt8.ofNat n.toNat).toNat : Nat) : Int) :: nums (Zq48Neutral.bytesOf x) = _
    rw [ih, UInt8.toNat_ofNat', Nat.mod_eq_of_lt (by omega)]
    congr 1
    omega
theorem told_law : ∀ (rows : List (List Int)) (w : World), PyFlat.told (PyFlat.played (fun s c => Zq48Neutral.step s (c.headD [])) w (rows.map fun x => [x])) = outsS w (rows.map Zq48Neutral.bytesOf)
  | [], w => rfl
  | x :: r, w => by
    have ih := told_law r (Rust.step w (Zq48Neutral.bytesOf x)).1
    show ((Zq48Neutral.numbersOf (Rust.step w (Zq48Neutral.bytesOf x)).2).length : Int) :: (Zq48Neutral.numbersOf (Rust.step w (Zq48Neutral.bytesOf x)).2 ++ PyFlat.told (PyFlat.played (fun s c => Zq48Neutral.step s (c.headD [])) (Rust.step w (Zq48Neutral.bytesOf x)).1 (r.map fun x => [x]))) = _
    rw [ih]
    have e : (Zq48Neutral.numbersOf (Rust.step w (Zq48Neutral.bytesOf x)).2).length = (Rust.step w (Zq48Neutral.bytesOf x)).2.length := List.length_map ..
    rw [e]
    rfl
theorem flat_law : ∀ (rows : List (List Int)) (reqs : List Req), (∀ x ∈ rows, NeutralIO.bytes x = true) → reqs.map (fun q => q.row) = rows.map Zq48Neutral.bytesOf → flat reqs = flatI rows
  | [], reqs, _, h => by
    have : reqs = [] := List.map_eq_nil_iff.mp h
    subst this
    rfl
  | x :: r, reqs, hb, h => by
    cases reqs with
    | nil => cases h
    | cons q reqs =>
      rw [List.map_cons, List.map_cons] at h
      injection h with h1 h2
      have ih := flat_law r reqs (fun y hy => hb y (List.mem_cons_of_mem _ hy)) h2
      have hx := nums_bytes (hb x List.mem_cons_self)
      have hl : (Zq48Neutral.bytesOf x).length = x.length := List.length_map ..
      rw [flat, flatI, ih, h1, hx, hl]
theorem plain_law {l : List Int} (h : PyZq48.answers_asked l = true) : ∃ reqs : List Req, flat reqs = l ∧ playOk desk0 reqs ∧ outsOf desk0 reqs = PyZq48.answers l ∧ (outsOf desk0 reqs).length ≤ 10000000 := by
  unfold PyZq48.answers_asked PyZq48.calls at h
  unfold PyZq48.answers PyZq48.calls
  cases hc : PyFlat.calls PyZq48.shape l.length l with
  | none => rw [hc] at h; cases h
  | some cs =>
    obtain ⟨rows, e1, e2⟩ := calls_flat _ _ _ hc
    simp only [hc, e1, Bool.and_eq_true] at h ⊢
    obtain ⟨⟨_, h1⟩, h2⟩ := h
    have eh : (rows.map fun x => [x]).map (fun c => c.headD []) = rows := by
      rw [List.map_map]
      exact List.map_id' rows
    rw [eh] at h1
    unfold Zq48Neutral.asked Rust.fits at h1
    simp only [Bool.and_eq_true] at h1
    obtain ⟨hb, _, ⟨⟨_, hl⟩, _⟩, hg⟩ := h1
    have hb : ∀ x ∈ rows, NeutralIO.bytes x = true := fun x hx => List.all_eq_true.mp hb x hx
    obtain ⟨reqs, r1, r2, r3, r4⟩ := play_law _ _ _ _ rel_start hg (fun b hb => Nat.le_of_ble_eq_true (List.all_eq_true.mp hl b hb))
    have hs : (PyFlat.told (PyFlat.played (fun s c => Zq48Neutral.step s (c.headD [])) Zq48Neutral.start (rows.map fun x => [x]))).length ≤ 10000000 := by
      unfold PyZq48.answers PyZq48.calls at h2
      simp only [hc, e1] at h2
      exact of_decide_eq_true h2
    have ht := told_law rows World.start
    refine ⟨reqs, by rw [flat_law rows reqs hb r1, e2], r2, by rw [r3]; exact ht.symm, ?_⟩
    rw [r3, ← ht]
    exact hs
end Tk
end
section
set_option Elab.async false
set_option linter.all false
set_option maxRecDepth 100000
/-! The end, part 1: what the top has written, and the last def's promise from it. -/
namespace Tk
open PySem PySem.Spec PyProof.Rows L2
structure Txt (K : PySem.W.Frag) (mg : Str → Option Value) (A : Ads) : Prop where
  T : Top K mg A
  F : TopF K A
  B : TopE K A
  hmF : mg "Refusal" = some (.ref A.cF)
  d_is_digit : DefAt K mg "is_digit" s_is_digit ["unit"]
  d_is_letter : DefAt K mg "is_letter" s_is_letter ["unit"]
  d_unit_at : DefAt K mg "unit_at" s_unit_at ["text", "at"]
  d_digits_end : DefAt K mg "digits_end" s_digits_end ["text", "at"]
  d_word_end : DefAt K mg "word_end" s_word_end ["text", "at"]
  d_number_end : DefAt K mg "number_end" s_number_end ["text", "at"]
  d_text_of : DefAt K mg "text_of" s_text_of ["words"]
  d_word_kind : DefAt K mg "word_kind" s_word_kind ["word"]
  d_string_end : DefAt K mg "string_end" s_string_end ["text", "at"]
  d_sign_at : DefAt K mg "sign_at" s_sign_at ["text", "at"]
  d_token_at : DefAt K mg "token_at" s_token_at ["text", "at"]
  d_tokens_of : DefAt K mg "tokens_of" s_tokens_of ["text"]
  d_is_too_deep : DefAt K mg "is_too_deep" s_is_too_deep ["text"]
  d_Nothing : ClAt K mg A.cN "Nothing" "Nothing.__init__" s_Nothing_init ["self"]
  d_Record : ClAt K mg A.cR "Record" "Record.__init__" s_Record_init ["self", "members"]
  d_Reader : ClAt K mg A.cD "Reader" "Reader.__init__" s_Reader_init ["self", "row"]
  d_is_integer : DefAt K mg "is_integer" s_is_integer ["value"]
  d_number_at : DefAt K mg "number_at" s_number_at ["row", "at", "many"]
  d_octets_of : DefAt K mg "octets_of" s_octets_of ["number", "many"]
  d_number_told : MtAt K A.cD "number_told" "Reader.number_told" s_Reader_number_told ["self", "many"]
  d_octets : MtAt K A.cD "octets" "Reader.octets" s_Reader_octets ["self"]
  d_value : MtAt K A.cD "value" "Reader.value" s_Reader_value ["self"]
  d_request : MtAt K A.cD "request" "Reader.request" s_Reader_request ["self"]
  d_counted : DefAt K mg "counted" s_counted ["row"]
  d_written : DefAt K mg "written" s_written ["value"]
  d_Version : ClAt K mg A.cV "Version" "Version.__init__" s_Version_init ["self", "text", "tokens", "parent"]
  d_normalized : DefAt K mg "normalized" s_normalized ["change"]
  d_changed_text : DefAt K mg "changed_text" s_changed_text ["text", "change"]
  d_added : DefAt K mg "added" s_added ["change"]
  d_is_outside : DefAt K mg "is_outside" s_is_outside ["change", "begin", "end"]
  d_moved : DefAt K mg "moved" s_moved ["change", "offset"]
  d_now : MtAt K A.cO "now" "Document.now" s_Document_now ["self"]
  d_go_to : MtAt K A.cO "go_to" "Document.go_to" s_Document_go_to ["self", "number"]
  d_Document : ClAt K mg A.cO "Document" "Document.__init__" s_Document_init ["self", "text"]
  d_edit : MtAt K A.cO "edit" "Document.edit" s_Document_edit ["self", "change", "text"]
  d_Refusal : ExAt K mg A.cF "Refusal" "Refusal.__init__" s_Refusal_init ["self", "kind", "message"]
  d_need : DefAt K mg "need" s_need ["is_right", "kind", "message"]
  d_record : DefAt K mg "record" s_record ["pairs"]
  d_token_told : DefAt K mg "token_told" s_token_told ["token"]
  d_stepped : DefAt K mg "stepped" s_stepped ["value", "is_done"]
  d_is_replacement : DefAt K mg "is_replacement" s_is_replacement ["value"]
  d_change_of : DefAt K mg "change_of" s_change_of ["document", "value"]
  d_Walk : ClAt K mg A.cW "Walk" "Walk.__init__" s_Walk_init ["self", "tokens"]
  d_Desk : ClAt K mg A.cK "Desk" "Desk.__init__" s_Desk_init ["self"]
  d_document_new : DefAt K mg "document_new" s_document_new ["desk", "slot", "text"]
  d_dedit : DefAt K mg "edit" s_edit ["document", "value"]
  d_token : DefAt K mg "token" s_token ["document", "value"]
  d_of_versions : DefAt K mg "of_versions" s_of_versions ["document", "door", "value"]
  d_of_walks : DefAt K mg "of_walks" s_of_walks ["desk", "door", "arguments"]
  d_done : DefAt K mg "done" s_done ["desk", "door", "arguments"]
  d_answer_of : DefAt K mg "answer_of" s_answer_of ["desk", "row"]
theorem all_ok {P : Program} {w : World} {K : PySem.W.Frag} {mg : Str → Option Value} {base : Heap} {A : Ads} {f : Addr} {fd : FuncData} (X : Txt K mg A) (D : Fun K "answers" "answers" s_answers f fd) : FnOk P w K mg base CX0 39 f fd ["calls"] (sp_answers K) := by
  have C_is_digit := ok_is_digit (P := P) (w := w) (base := base) X.T X.d_is_digit
  have C_is_letter := ok_is_letter (P := P) (w := w) (base := base) X.T X.d_is_letter
  have C_unit_at := ok_unit_at (P := P) (w := w) (base := base) X.T X.d_unit_at
  have C_digits_end := ok_digits_end (P := P) (w := w) (base := base) X.T X.d_digits_end C_is_digit C_unit_at
  have C_word_end := ok_word_end (P := P) (w := w) (base := base) X.T X.d_word_end C_is_letter C_is_digit C_unit_at
  have C_number_end := ok_number_end (P := P) (w := w) (base := base) X.T X.d_number_end C_is_digit C_unit_at C_digits_end
  have C_text_of := ok_text_of (P := P) (w := w) (base := base) X.T X.d_text_of
  have C_word_kind := ok_word_kind (P := P) (w := w) (base := base) X.T X.d_word_kind C_text_of
  have C_string_end := ok_string_end (P := P) (w := w) (base := base) X.T X.d_string_end C_unit_at
  have C_sign_at := ok_sign_at (P := P) (w := w) (base := base) X.T X.d_sign_at C_unit_at
  have C_token_at := ok_token_at (P := P) (w := w) (base := base) X.T X.d_token_at C_unit_at C_is_letter C_is_digit C_word_end C_word_kind C_number_end C_string_end C_sign_at
  have C_tokens_of := ok_tokens_of (P := P) (w := w) (base := base) X.T X.d_tokens_of C_token_at
  have C_is_too_deep := ok_is_too_deep (P := P) (w := w) (base := base) X.T X.d_is_too_deep C_tokens_of
  have C_Nothing := ok_Nothing (P := P) (w := w) (base := base) X.T X.d_Nothing
  have C_Record := ok_Record (P := P) (w := w) (base := base) X.T X.d_Record
  have C_Reader := ok_Reader (P := P) (w := w) (base := base) X.T X.d_Reader
  have C_is_integer := ok_is_integer (P := P) (w := w) (base := base) X.T X.d_is_integer
  have C_number_at := ok_number_at (P := P) (w := w) (base := base) X.T X.d_number_at
  have C_octets_of := ok_octets_of (P := P) (w := w) (base := base) X.T X.d_octets_of
  have M_number_told := ok_number_told (P := P) (w := w) (base := base) X.T X.d_number_told C_number_at
  have M_octets := ok_octets (P := P) (w := w) (base := base) X.T X.d_octets M_number_told
  have M_value := (ok_value (P := P) (w := w) (base := base) X.T X.d_value C_Nothing C_Record M_number_told M_octets) 32
  have M_request := ok_request (P := P) (w := w) (base := base) X.T X.d_request M_number_told M_value
  have C_counted := ok_counted (P := P) (w := w) (base := base) X.T X.d_counted C_octets_of
  have C_written := (ok_written (P := P) (w := w) (base := base) X.T X.d_written C_octets_of C_counted) 4
  have C_text_ofH := ok_text_ofH (P := P) (w := w) (base := base) X.T X.d_text_of
  have C_octets_ofH := ok_octets_ofH (P := P) (w := w) (base := base) X.T X.d_octets_of
  have C_countedH := ok_countedH (P := P) (w := w) (base := base) X.T X.d_counted C_octets_ofH
  have C_Version := ok_Version (P := P) (w := w) (base := base) X.T X.d_Version
  have C_normalized := ok_normalized (P := P) (w := w) (base := base) X.T X.d_normalized
  have C_changed_text := ok_changed_text (P := P) (w := w) (base := base) X.T X.d_changed_text
  have C_added := ok_added (P := P) (w := w) (base := base) X.T X.d_added
  have C_is_outside := ok_is_outside (P := P) (w := w) (base := base) X.T X.d_is_outside
  have C_moved := ok_moved (P := P) (w := w) (base := base) X.T X.d_moved
  have M_now := ok_now (P := P) (w := w) (base := base) X.T X.d_now
  have M_go_to := ok_go_to (P := P) (w := w) (base := base) X.T X.d_go_to
  have C_Document := ok_Document (P := P) (w := w) (base := base) X.T X.d_Document C_tokens_of C_Version
  have M_edit := ok_edit (P := P) (w := w) (base := base) X.T X.d_edit C_tokens_of C_Version C_is_outside C_moved C_added M_now M_go_to
  have C_Refusal := ok_Refusal (P := P) (w := w) (base := base) X.F X.d_Refusal
  have C_need := ok_need (P := P) (w := w) (base := base) X.T X.F X.d_need C_Refusal
  have C_record := ok_record (P := P) (w := w) (base := base) X.T X.d_record C_text_of C_Record
  have C_token_told := ok_token_told (P := P) (w := w) (base := base) X.T X.d_token_told C_text_of C_record
  have C_stepped := ok_stepped (P := P) (w := w) (base := base) X.T X.d_stepped C_record
  have C_is_replacement := ok_is_replacement (P := P) (w := w) (base := base) X.T X.d_is_replacement C_is_integer
  have C_change_of := ok_change_of (P := P) (w := w) (base := base) X.T X.F X.d_change_of C_is_replacement M_now C_need C_normalized
  have C_Walk := ok_Walk (P := P) (w := w) (base := base) X.T X.d_Walk
  have C_Desk := ok_Desk (P := P) (w := w) (base := base) X.T X.d_Desk
  have C_document_new := ok_document_new (P := P) (w := w) (base := base) X.T X.F X.d_document_new C_need C_is_too_deep C_Document C_Nothing
  have C_edit := ok_dedit (P := P) (w := w) (base := base) X.T X.F X.d_dedit C_need C_is_too_deep C_change_of C_changed_text C_added M_now M_edit
  have C_token := ok_token (P := P) (w := w) (base := base) X.T X.d_token C_is_integer C_token_told M_now
  have C_of_versions := ok_of_versions (P := P) (w := w) (base := base) X.T X.F X.d_of_versions C_need C_is_integer M_now M_go_to
  have C_of_walks := ok_of_walks (P := P) (w := w) (base := base) X.T X.d_of_walks C_Walk C_Nothing C_stepped C_token_told M_now
  have C_done := ok_done (P := P) (w := w) (base := base) X.T X.d_done C_document_new C_of_walks C_edit C_token C_of_versions M_now
  have C_answer_of := ok_answer_of (P := P) (w := w) (base := base) X.T X.F X.B X.hmF X.d_answer_of C_Reader M_request C_Nothing C_written C_done C_countedH C_text_ofH
  exact ok_answers (P := P) (w := w) (base := base) X.T D C_Desk C_answer_of
end Tk
end
section
set_option Elab.async false
set_option linter.all false
set_option maxRecDepth 100000
/-! The end, part 2: what k_is finds of the top, made what the walk asks of it. Printed by fin.py. -/
namespace Tk
open PySem PySem.Spec PyProof.Rows L2
/-- how the arguments of a def meet its parameters -/
def Bd (x q : Str) (st : Stmt) (ps : List Str) : Prop := ∀ (kV doc pm : Value) (an : Option Addr) (cdv ct : Value) (us : List Value), us.length = ps.length → bindArgs (PySem.W.fnOf x q (defArgs st) (defBody st) (defScope st) .none kV doc pm an cdv ct) ⟨us, []⟩ = pure (ps.zip us)
section
variable {K : PySem.W.Frag} {h : Heap} {mg : Str → Option Value} {x m q : Str} {st : Stmt} {ps : List Str} {f C : Addr} {oc : Value} {od an : Option Addr} {osl : Array (Option Value)} {kV doc pm cdv ct : Value}
theorem defAt_mk (X : K.In h) (G : h.Ns mainGlobals mg) (b : Bd x x st ps) (a : PySem.W.nsIn K mainGlobals x = some (some (.ref f))) (l : K.lookup f = some ⟨oc, od, .func (PySem.W.fnOf x x (defArgs st) (defBody st) (defScope st) .none kV doc pm an cdv ct), osl⟩)
    (c : PySem.W.codeIn K cdv x = true) (k : PySem.W.keepIn K (.ref f) = true) : DefAt K mg x st ps := ⟨f, _, fun_mk l c k, PySem.W.mg_of X G a, (fun_mk l c k).binds b⟩
theorem clAt_mk (X : K.In h) (G : h.Ns mainGlobals mg) (b : Bd "__init__" q st ps) (g : PySem.W.nsIn K mainGlobals x = some (some (.ref C))) (a : PySem.W.findIn K (.ref C) "__init__" = some (some (.ref f))) (l : K.lookup f = some ⟨oc, od, .func (PySem.W.fnOf "__init__" q (defArgs st) (defBody st) (defScope st) .none kV doc pm an cdv ct), osl⟩)
    (c : PySem.W.codeIn K cdv q = true) (k : PySem.W.keepIn K (.ref f) = true) (i : PySem.W.isFn K (.ref f) = true) (n : PySem.W.makesIn K C = true) (kc : PySem.W.keepIn K (.ref C) = true) : ClAt K mg C x q st ps := ⟨f, _, fun_mk l c k, ⟨n, a, i, kc⟩, PySem.W.mg_of X G g, (fun_mk l c k).binds b⟩
theorem mtAt_mk (b : Bd m q st ps) (z : Cls K C) (a : PySem.W.findIn K (.ref C) m = some (some (.ref f))) (l : K.lookup f = some ⟨oc, od, .func (PySem.W.fnOf m q (defArgs st) (defBody st) (defScope st) .none kV doc pm an cdv ct), osl⟩)
    (c : PySem.W.codeIn K cdv q = true) (k : PySem.W.keepIn K (.ref f) = true) (i : PySem.W.isFn K (.ref f) = true) : MtAt K C m q st ps := ⟨f, _, fun_mk l c k, ⟨a, i, k⟩, z, (fun_mk l c k).binds b⟩
theorem exAt_mk (X : K.In h) (G : h.Ns mainGlobals mg) (b : Bd "__init__" q st ps) (g : PySem.W.nsIn K mainGlobals x = some (some (.ref C))) (a : PySem.W.findIn K (.ref C) "__init__" = some (some (.ref f))) (l : K.lookup f = some ⟨oc, od, .func (PySem.W.fnOf "__init__" q (defArgs st) (defBody st) (defScope st) .none kV doc pm an cdv ct), osl⟩)
    (c : PySem.W.codeIn K cdv q = true) (k : PySem.W.keepIn K (.ref f) = true) (t : PySem.W.typeIn K (.ref f) = some (.type "function")) : ExAt K mg C x q st ps := ⟨f, _, fun_mk l c k, a, t, PySem.W.mg_of X G g, (fun_mk l c k).binds b⟩
/-- a class or none: what isinstance says -/
theorem kit_own {t : Value} (e : (t == Value.ref C) = false) (i : PySem.W.isClsIn K C = true) (y : PySem.W.typeIn K (.ref C) = some (.type "type")) (s : PySem.W.subIn K t (.ref C) = some false) : PySem.W.kitOne K t (.ref C) = some false := by
  have e2 : ((PySem.W.clsIn K C).isSome && PySem.W.typeIn K (.ref C) == some (.type "type")) = true := by
    have i' : (PySem.W.clsIn K C).isSome = true := i
    rw [i', y] <;> rfl
  show (if (t == Value.ref C) = true then some true else (if ((PySem.W.clsIn K C).isSome && PySem.W.typeIn K (.ref C) == some (.type "type")) = true then PySem.W.subIn K t (.ref C) else none)) = some false
  rw [e, if_neg Bool.false_ne_true, if_pos e2]
  exact s
theorem kit_self : PySem.W.kitOne K (.ref C) (.ref C) = some true := if_pos (beq_self_eq_true _)
theorem kit_type {t : String} (e : PySem.W.kitMeta t = true) (s : PySem.W.subIn K (.ref C) (.type t) = some false) : PySem.W.kitOne K (.ref C) (.type t) = some false := by
  show (if (Value.ref C == Value.type t) = true then some true else (if PySem.W.kitMeta t = true then PySem.W.subIn K (.ref C) (.type t) else none)) = some false
  rw [show (Value.ref C == Value.type t) = false from rfl, if_neg Bool.false_ne_true, if_pos e]
  exact s
theorem exm_self {S : Addr} (h1 : PySem.W.subIn K (.ref S) (.type "BaseException") = some true) (h2 : PySem.W.isClsIn K S = true) (h3 : PySem.W.typeIn K (.ref S) = some (.type "type")) (h4 : PySem.W.subIn K (.ref S) (.ref S) = some true) :
    PySem.W.exmOne K (.ref S) (.ref S) = some true := by
  have e1 : (PySem.W.subIn K (.ref S) (.type "BaseException") == some true) = true := by rw [h1] <;> rfl
  have e2 : ((PySem.W.clsIn K S).isSome && PySem.W.typeIn K (.ref S) == some (.type "type")) = true := by
    have h2' : (PySem.W.clsIn K S).isSome = true := h2
    rw [h2', h3] <;> rfl
  show (if (PySem.W.subIn K (.ref S) (.type "BaseException") == some true) = true then (if ((PySem.W.clsIn K S).isSome && PySem.W.typeIn K (.ref S) == some (.type "type")) = true then PySem.W.subIn K (.ref S) (.ref S) else none) else none) = some true
  rw [if_pos e1, if_pos e2]
  exact h4
theorem gv_mk {v : V} {u : Value} (X : K.In h) (G : h.Ns mainGlobals mg) (e : PySem.W.nsIn K mainGlobals x = some (some u)) (r : RelV v u) : Gv mg x v := ⟨u, PySem.W.mg_of X G e, r⟩
end
theorem b_is_digit : Bd "is_digit" "is_digit" s_is_digit ["unit"] := fun _ _ _ _ _ _ us hl => match us, hl with | [_], _ => rfl
theorem b_is_letter : Bd "is_letter" "is_letter" s_is_letter ["unit"] := fun _ _ _ _ _ _ us hl => match us, hl with | [_], _ => rfl
theorem b_unit_at : Bd "unit_at" "unit_at" s_unit_at ["text", "at"] := fun _ _ _ _ _ _ us hl => match us, hl with | [_, _], _ => rfl
theorem b_digits_end : Bd "digits_end" "digits_end" s_digits_end ["text", "at"] := fun _ _ _ _ _ _ us hl => match us, hl with | [_, _], _ => rfl
theorem b_word_end : Bd "word_end" "word_end" s_word_end ["text", "at"] := fun _ _ _ _ _ _ us hl => match us, hl with | [_, _], _ => rfl
theorem b_number_end : Bd "number_end" "number_end" s_number_end ["text", "at"] := fun _ _ _ _ _ _ us hl => match us, hl with | [_, _], _ => rfl
theorem b_text_of : Bd "text_of" "text_of" s_text_of ["words"] := fun _ _ _ _ _ _ us hl => match us, hl with | [_], _ => rfl
theorem b_word_kind : Bd "word_kind" "word_kind" s_word_kind ["word"] := fun _ _ _ _ _ _ us hl => match us, hl with | [_], _ => rfl
theorem b_string_end : Bd "string_end" "string_end" s_string_end ["text", "at"] := fun _ _ _ _ _ _ us hl => match us, hl with | [_, _], _ => rfl
theorem b_sign_at : Bd "sign_at" "sign_at" s_sign_at ["text", "at"] := fun _ _ _ _ _ _ us hl => match us, hl with | [_, _], _ => rfl
theorem b_token_at : Bd "token_at" "token_at" s_token_at ["text", "at"] := fun _ _ _ _ _ _ us hl => match us, hl with | [_, _], _ => rfl
theorem b_tokens_of : Bd "tokens_of" "tokens_of" s_tokens_of ["text"] := fun _ _ _ _ _ _ us hl => match us, hl with | [_], _ => rfl
theorem b_is_too_deep : Bd "is_too_deep" "is_too_deep" s_is_too_deep ["text"] := fun _ _ _ _ _ _ us hl => match us, hl with | [_], _ => rfl
theorem b_Nothing : Bd "__init__" "Nothing.__init__" s_Nothing_init ["self"] := fun _ _ _ _ _ _ us hl => match us, hl with | [_], _ => rfl
theorem b_Record : Bd "__init__" "Record.__init__" s_Record_init ["self", "members"] := fun _ _ _ _ _ _ us hl => match us, hl with | [_, _], _ => rfl
theorem b_Reader : Bd "__init__" "Reader.__init__" s_Reader_init ["self", "row"] := fun _ _ _ _ _ _ us hl => match us, hl with | [_, _], _ => rfl
theorem b_is_integer : Bd "is_integer" "is_integer" s_is_integer ["value"] := fun _ _ _ _ _ _ us hl => match us, hl with | [_], _ => rfl
theorem b_number_at : Bd "number_at" "number_at" s_number_at ["row", "at", "many"] := fun _ _ _ _ _ _ us hl => match us, hl with | [_, _, _], _ => rfl
theorem b_octets_of : Bd "octets_of" "octets_of" s_octets_of ["number", "many"] := fun _ _ _ _ _ _ us hl => match us, hl with | [_, _], _ => rfl
theorem b_number_told : Bd "number_told" "Reader.number_told" s_Reader_number_told ["self", "many"] := fun _ _ _ _ _ _ us hl => match us, hl with | [_, _], _ => rfl
theorem b_octets : Bd "octets" "Reader.octets" s_Reader_octets ["self"] := fun _ _ _ _ _ _ us hl => match us, hl with | [_], _ => rfl
theorem b_value : Bd "value" "Reader.value" s_Reader_value ["self"] := fun _ _ _ _ _ _ us hl => match us, hl with | [_], _ => rfl
theorem b_request : Bd "request" "Reader.request" s_Reader_request ["self"] := fun _ _ _ _ _ _ us hl => match us, hl with | [_], _ => rfl
theorem b_counted : Bd "counted" "counted" s_counted ["row"] := fun _ _ _ _ _ _ us hl => match us, hl with | [_], _ => rfl
theorem b_written : Bd "written" "written" s_written ["value"] := fun _ _ _ _ _ _ us hl => match us, hl with | [_], _ => rfl
theorem b_Version : Bd "__init__" "Version.__init__" s_Version_init ["self", "text", "tokens", "parent"] := fun _ _ _ _ _ _ us hl => match us, hl with | [_, _, _, _], _ => rfl
theorem b_normalized : Bd "normalized" "normalized" s_normalized ["change"] := fun _ _ _ _ _ _ us hl => match us, hl with | [_], _ => rfl
theorem b_changed_text : Bd "changed_text" "changed_text" s_changed_text ["text", "change"] := fun _ _ _ _ _ _ us hl => match us, hl with | [_, _], _ => rfl
theorem b_added : Bd "added" "added" s_added ["change"] := fun _ _ _ _ _ _ us hl => match us, hl with | [_], _ => rfl
theorem b_is_outside : Bd "is_outside" "is_outside" s_is_outside ["change", "begin", "end"] := fun _ _ _ _ _ _ us hl => match us, hl with | [_, _, _], _ => rfl
theorem b_moved : Bd "moved" "moved" s_moved ["change", "offset"] := fun _ _ _ _ _ _ us hl => match us, hl with | [_, _], _ => rfl
theorem b_now : Bd "now" "Document.now" s_Document_now ["self"] := fun _ _ _ _ _ _ us hl => match us, hl with | [_], _ => rfl
theorem b_go_to : Bd "go_to" "Document.go_to" s_Document_go_to ["self", "number"] := fun _ _ _ _ _ _ us hl => match us, hl with | [_, _], _ => rfl
theorem b_Document : Bd "__init__" "Document.__init__" s_Document_init ["self", "text"] := fun _ _ _ _ _ _ us hl => match us, hl with | [_, _], _ => rfl
theorem b_edit : Bd "edit" "Document.edit" s_Document_edit ["self", "change", "text"] := fun _ _ _ _ _ _ us hl => match us, hl with | [_, _, _], _ => rfl
theorem b_Refusal : Bd "__init__" "Refusal.__init__" s_Refusal_init ["self", "kind", "message"] := fun _ _ _ _ _ _ us hl => match us, hl with | [_, _, _], _ => rfl
theorem b_need : Bd "need" "need" s_need ["is_right", "kind", "message"] := fun _ _ _ _ _ _ us hl => match us, hl with | [_, _, _], _ => rfl
theorem b_record : Bd "record" "record" s_record ["pairs"] := fun _ _ _ _ _ _ us hl => match us, hl with | [_], _ => rfl
theorem b_token_told : Bd "token_told" "token_told" s_token_told ["token"] := fun _ _ _ _ _ _ us hl => match us, hl with | [_], _ => rfl
theorem b_stepped : Bd "stepped" "stepped" s_stepped ["value", "is_done"] := fun _ _ _ _ _ _ us hl => match us, hl with | [_, _], _ => rfl
theorem b_is_replacement : Bd "is_replacement" "is_replacement" s_is_replacement ["value"] := fun _ _ _ _ _ _ us hl => match us, hl with | [_], _ => rfl
theorem b_change_of : Bd "change_of" "change_of" s_change_of ["document", "value"] := fun _ _ _ _ _ _ us hl => match us, hl with | [_, _], _ => rfl
theorem b_Walk : Bd "__init__" "Walk.__init__" s_Walk_init ["self", "tokens"] := fun _ _ _ _ _ _ us hl => match us, hl with | [_, _], _ => rfl
theorem b_Desk : Bd "__init__" "Desk.__init__" s_Desk_init ["self"] := fun _ _ _ _ _ _ us hl => match us, hl with | [_], _ => rfl
theorem b_document_new : Bd "document_new" "document_new" s_document_new ["desk", "slot", "text"] := fun _ _ _ _ _ _ us hl => match us, hl with | [_, _, _], _ => rfl
theorem b_dedit : Bd "edit" "edit" s_edit ["document", "value"] := fun _ _ _ _ _ _ us hl => match us, hl with | [_, _], _ => rfl
theorem b_token : Bd "token" "token" s_token ["document", "value"] := fun _ _ _ _ _ _ us hl => match us, hl with | [_, _], _ => rfl
theorem b_of_versions : Bd "of_versions" "of_versions" s_of_versions ["document", "door", "value"] := fun _ _ _ _ _ _ us hl => match us, hl with | [_, _, _], _ => rfl
theorem b_of_walks : Bd "of_walks" "of_walks" s_of_walks ["desk", "door", "arguments"] := fun _ _ _ _ _ _ us hl => match us, hl with | [_, _, _], _ => rfl
theorem b_done : Bd "done" "done" s_done ["desk", "door", "arguments"] := fun _ _ _ _ _ _ us hl => match us, hl with | [_, _, _], _ => rfl
theorem b_answer_of : Bd "answer_of" "answer_of" s_answer_of ["desk", "row"] := fun _ _ _ _ _ _ us hl => match us, hl with | [_, _], _ => rfl
theorem b_answers : Bd "answers" "answers" s_answers ["calls"] := fun _ _ _ _ _ _ us hl => match us, hl with | [_], _ => rfl
section
variable {K : PySem.W.Frag} {h : Heap} {mg : Str → Option Value} {cN cR cF cD cV cO cW cK kw : Addr}
theorem top_mk {t_WRONG_KIND t_OUT_OF_RANGE t_MOST_DEPTH t_BLANK t_LINE_FEED t_HASH t_MARK t_POINT t_EQUAL t_MOST_TEXT t_MOST_REPLACEMENTS t_MOST_VERSIONS t_MOST_ADDED t_SINGLES t_k0 t_k1 t_k2 t_k3 t_k4 t_k5 t_k6 : _} {dkw : Option Addr} {nkw : Nat} {skw : Array (Option Value)} (X : K.In h) (G : h.Ns mainGlobals mg)
    (n_len : PySem.W.nsIn K mainGlobals "len" = some none)
    (n_ord : PySem.W.nsIn K mainGlobals "ord" = some none)
    (n_max : PySem.W.nsIn K mainGlobals "max" = some none)
    (n_sum : PySem.W.nsIn K mainGlobals "sum" = some none)
    (n_all : PySem.W.nsIn K mainGlobals "all" = some none)
    (n_str : PySem.W.nsIn K mainGlobals "str" = some none)
    (n_tuple : PySem.W.nsIn K mainGlobals "tuple" = some none)
    (n_list : PySem.W.nsIn K mainGlobals "list" = some none)
    (n_int : PySem.W.nsIn K mainGlobals "int" = some none)
    (n_bool : PySem.W.nsIn K mainGlobals "bool" = some none)
    (n_isinstance : PySem.W.nsIn K mainGlobals "isinstance" = some none)
    (n_range : PySem.W.nsIn K mainGlobals "range" = some none)
    (n_enumerate : PySem.W.nsIn K mainGlobals "enumerate" = some none)
    (g_WRONG_KIND : PySem.W.nsIn K mainGlobals "WRONG_KIND" = some (some (.int 1 t_WRONG_KIND)))
    (g_OUT_OF_RANGE : PySem.W.nsIn K mainGlobals "OUT_OF_RANGE" = some (some (.int 2 t_OUT_OF_RANGE)))
    (g_MOST_DEPTH : PySem.W.nsIn K mainGlobals "MOST_DEPTH" = some (some (.int 12 t_MOST_DEPTH)))
    (g_BLANK : PySem.W.nsIn K mainGlobals "BLANK" = some (some (.int 32 t_BLANK)))
    (g_LINE_FEED : PySem.W.nsIn K mainGlobals "LINE_FEED" = some (some (.int 10 t_LINE_FEED)))
    (g_HASH : PySem.W.nsIn K mainGlobals "HASH" = some (some (.int 35 t_HASH)))
    (g_MARK : PySem.W.nsIn K mainGlobals "MARK" = some (some (.int 34 t_MARK)))
    (g_POINT : PySem.W.nsIn K mainGlobals "POINT" = some (some (.int 46 t_POINT)))
    (g_EQUAL : PySem.W.nsIn K mainGlobals "EQUAL" = some (some (.int 61 t_EQUAL)))
    (g_MOST_TEXT : PySem.W.nsIn K mainGlobals "MOST_TEXT" = some (some (.int 600 t_MOST_TEXT)))
    (g_MOST_REPLACEMENTS : PySem.W.nsIn K mainGlobals "MOST_REPLACEMENTS" = some (some (.int 20 t_MOST_REPLACEMENTS)))
    (g_MOST_VERSIONS : PySem.W.nsIn K mainGlobals "MOST_VERSIONS" = some (some (.int 100 t_MOST_VERSIONS)))
    (g_MOST_ADDED : PySem.W.nsIn K mainGlobals "MOST_ADDED" = some (some (.int 5000 t_MOST_ADDED)))
    (g_KEYWORDS : PySem.W.nsIn K mainGlobals "KEYWORDS" = some (some (.ref kw)))
    (g_SINGLES : PySem.W.nsIn K mainGlobals "SINGLES" = some (some (.str "+-*/(){},;" t_SINGLES)))
    (l_kw : K.lookup kw = some ⟨.type "tuple", dkw, .seq #[.str "let" t_k0, .str "set" t_k1, .str "fn" t_k2, .str "if" t_k3, .str "else" t_k4, .str "while" t_k5, .str "return" t_k6] nkw, skw⟩)
    (g_Nothing : PySem.W.nsIn K mainGlobals "Nothing" = some (some (.ref cN)))
    (pgcN : PySem.W.plainGet K cN Str.empty = true)
    (hdcN : PySem.W.hasDictIn K cN = true)
    (pocN : PySem.W.plainOver K cN = true)
    (sacN : PySem.W.findIn K (.ref cN) "__setattr__" = some (some (.builtin "object.__setattr__")))
    (pgcR : PySem.W.plainGet K cR Str.empty = true)
    (hdcR : PySem.W.hasDictIn K cR = true)
    (pocR : PySem.W.plainOver K cR = true)
    (sacR : PySem.W.findIn K (.ref cR) "__setattr__" = some (some (.builtin "object.__setattr__")))
    (pgcD : PySem.W.plainGet K cD Str.empty = true)
    (hdcD : PySem.W.hasDictIn K cD = true)
    (pocD : PySem.W.plainOver K cD = true)
    (sacD : PySem.W.findIn K (.ref cD) "__setattr__" = some (some (.builtin "object.__setattr__")))
    (pgcV : PySem.W.plainGet K cV Str.empty = true)
    (hdcV : PySem.W.hasDictIn K cV = true)
    (pocV : PySem.W.plainOver K cV = true)
    (sacV : PySem.W.findIn K (.ref cV) "__setattr__" = some (some (.builtin "object.__setattr__")))
    (pgcO : PySem.W.plainGet K cO Str.empty = true)
    (hdcO : PySem.W.hasDictIn K cO = true)
    (pocO : PySem.W.plainOver K cO = true)
    (sacO : PySem.W.findIn K (.ref cO) "__setattr__" = some (some (.builtin "object.__setattr__")))
    (pgcW : PySem.W.plainGet K cW Str.empty = true)
    (hdcW : PySem.W.hasDictIn K cW = true)
    (pocW : PySem.W.plainOver K cW = true)
    (sacW : PySem.W.findIn K (.ref cW) "__setattr__" = some (some (.builtin "object.__setattr__")))
    (pgcK : PySem.W.plainGet K cK Str.empty = true)
    (hdcK : PySem.W.hasDictIn K cK = true)
    (pocK : PySem.W.plainOver K cK = true)
    (sacK : PySem.W.findIn K (.ref cK) "__setattr__" = some (some (.builtin "object.__setattr__")))
    (a_there : PySem.W.findIn K (.ref cN) "is_there" = some none)
    (a_members : PySem.W.findIn K (.ref cR) "members" = some none)
    (a_row : PySem.W.findIn K (.ref cD) "row" = some none)
    (a_at : PySem.W.findIn K (.ref cD) "at" = some none)
    (a_text : PySem.W.findIn K (.ref cV) "text" = some none)
    (a_tokens : PySem.W.findIn K (.ref cV) "tokens" = some none)
    (a_parent : PySem.W.findIn K (.ref cV) "parent" = some none)
    (a_redo : PySem.W.findIn K (.ref cV) "redo" = some none)
    (a_versions : PySem.W.findIn K (.ref cO) "versions" = some none)
    (a_current : PySem.W.findIn K (.ref cO) "current" = some none)
    (a_next_id : PySem.W.findIn K (.ref cO) "next_id" = some none)
    (a_many_added : PySem.W.findIn K (.ref cO) "many_added" = some none)
    (a_left : PySem.W.findIn K (.ref cW) "left" = some none)
    (a_documents : PySem.W.findIn K (.ref cK) "documents" = some none)
    (a_walks : PySem.W.findIn K (.ref cK) "walks" = some none)
    (iN_class : PySem.W.findIn K (.ref cN) "__class__" = some (some (.builtin "object.__class__")))
    (iR_class : PySem.W.findIn K (.ref cR) "__class__" = some (some (.builtin "object.__class__")))
    (i_get : PySem.W.specialIn K (.builtin "object.__class__") "__get__" = some (some (.builtin "getset_descriptor.__get__")))
    (i_takes : PySem.W.takesIn K (.builtin "object.__class__") = some true)
    (iN_obj : PySem.W.mroIn K cN (.type "object") = some true)
    (iR_obj : PySem.W.mroIn K cR (.type "object") = some true)
    (neRN : (Value.ref cR == Value.ref cN) = false)
    (isN : PySem.W.isClsIn K cN = true)
    (tyN : PySem.W.typeIn K (.ref cN) = some (.type "type"))
    (sRN : PySem.W.subIn K (.ref cR) (.ref cN) = some false)
    (sN_int : PySem.W.subIn K (.ref cN) (.type "int") = some false)
    (sN_bool : PySem.W.subIn K (.ref cN) (.type "bool") = some false)
    (sN_tuple : PySem.W.subIn K (.ref cN) (.type "tuple") = some false)
    (sN_list : PySem.W.subIn K (.ref cN) (.type "list") = some false)
    (sR_int : PySem.W.subIn K (.ref cR) (.type "int") = some false)
    (sR_bool : PySem.W.subIn K (.ref cR) (.type "bool") = some false)
    (sR_tuple : PySem.W.subIn K (.ref cR) (.type "tuple") = some false)
    (sR_list : PySem.W.subIn K (.ref cR) (.type "list") = some false)
    (sT_NoneType : PySem.W.subIn K (.type "NoneType") (.ref cN) = some false)
    (sT_int : PySem.W.subIn K (.type "int") (.ref cN) = some false)
    (sT_bool : PySem.W.subIn K (.type "bool") (.ref cN) = some false)
    (sT_tuple : PySem.W.subIn K (.type "tuple") (.ref cN) = some false)
    (sT_list : PySem.W.subIn K (.type "list") (.ref cN) = some false) : Top K mg ⟨cN, cR, cF, cD, cV, cO, cW, cK, kw⟩ where
  n_len := PySem.W.mg_none_of X G n_len
  n_ord := PySem.W.mg_none_of X G n_ord
  n_max := PySem.W.mg_none_of X G n_max
  n_sum := PySem.W.mg_none_of X G n_sum
  n_all := PySem.W.mg_none_of X G n_all
  n_str := PySem.W.mg_none_of X G n_str
  n_tuple := PySem.W.mg_none_of X G n_tuple
  n_list := PySem.W.mg_none_of X G n_list
  n_int := PySem.W.mg_none_of X G n_int
  n_bool := PySem.W.mg_none_of X G n_bool
  n_isinstance := PySem.W.mg_none_of X G n_isinstance
  n_range := PySem.W.mg_none_of X G n_range
  n_enumerate := PySem.W.mg_none_of X G n_enumerate
  g_WRONG_KIND := gv_mk X G g_WRONG_KIND ⟨_, rfl⟩
  g_OUT_OF_RANGE := gv_mk X G g_OUT_OF_RANGE ⟨_, rfl⟩
  g_MOST_DEPTH := gv_mk X G g_MOST_DEPTH ⟨_, rfl⟩
  g_BLANK := gv_mk X G g_BLANK ⟨_, rfl⟩
  g_LINE_FEED := gv_mk X G g_LINE_FEED ⟨_, rfl⟩
  g_HASH := gv_mk X G g_HASH ⟨_, rfl⟩
  g_MARK := gv_mk X G g_MARK ⟨_, rfl⟩
  g_POINT := gv_mk X G g_POINT ⟨_, rfl⟩
  g_EQUAL := gv_mk X G g_EQUAL ⟨_, rfl⟩
  g_MOST_TEXT := gv_mk X G g_MOST_TEXT ⟨_, rfl⟩
  g_MOST_REPLACEMENTS := gv_mk X G g_MOST_REPLACEMENTS ⟨_, rfl⟩
  g_MOST_VERSIONS := gv_mk X G g_MOST_VERSIONS ⟨_, rfl⟩
  g_MOST_ADDED := gv_mk X G g_MOST_ADDED ⟨_, rfl⟩
  g_KEYWORDS := gv_mk X G g_KEYWORDS rfl
  g_SINGLES := gv_mk X G g_SINGLES ⟨_, rfl⟩
  g_Nothing := gv_mk X G g_Nothing rfl
  sq_KEYWORDS := fun H => .inr ⟨_, _, _, l_kw, rfl, rfl, (by show 7 ≤ sizeLine; decide), .cons ⟨_, rfl⟩ (.cons ⟨_, rfl⟩ (.cons ⟨_, rfl⟩ (.cons ⟨_, rfl⟩ (.cons ⟨_, rfl⟩ (.cons ⟨_, rfl⟩ (.cons ⟨_, rfl⟩ (.nil)))))))⟩
  clN := ⟨pgcN, hdcN, pocN, sacN⟩
  clR := ⟨pgcR, hdcR, pocR, sacR⟩
  clD := ⟨pgcD, hdcD, pocD, sacD⟩
  clV := ⟨pgcV, hdcV, pocV, sacV⟩
  clO := ⟨pgcO, hdcO, pocO, sacO⟩
  clW := ⟨pgcW, hdcW, pocW, sacW⟩
  clK := ⟨pgcK, hdcK, pocK, sacK⟩
  a_there := a_there
  a_members := a_members
  a_row := a_row
  a_at := a_at
  a_text := a_text
  a_tokens := a_tokens
  a_parent := a_parent
  a_redo := a_redo
  a_versions := a_versions
  a_current := a_current
  a_next_id := a_next_id
  a_many_added := a_many_added
  a_left := a_left
  a_documents := a_documents
  a_walks := a_walks
  iN_class := iN_class
  iR_class := iR_class
  i_get := i_get
  i_takes := i_takes
  iN_obj := iN_obj
  iR_obj := iR_obj
  kNN := kit_self
  kRN := kit_own neRN isN tyN sRN
  kN := List.forall_mem_cons.mpr ⟨kit_type (by decide +kernel) sN_int, List.forall_mem_cons.mpr ⟨kit_type (by decide +kernel) sN_bool, List.forall_mem_cons.mpr ⟨kit_type (by decide +kernel) sN_tuple, List.forall_mem_cons.mpr ⟨kit_type (by decide +kernel) sN_list, fun _ h => nomatch h⟩⟩⟩⟩
  kR := List.forall_mem_cons.mpr ⟨kit_type (by decide +kernel) sR_int, List.forall_mem_cons.mpr ⟨kit_type (by decide +kernel) sR_bool, List.forall_mem_cons.mpr ⟨kit_type (by decide +kernel) sR_tuple, List.forall_mem_cons.mpr ⟨kit_type (by decide +kernel) sR_list, fun _ h => nomatch h⟩⟩⟩⟩
  kT := List.forall_mem_cons.mpr ⟨kit_own rfl isN tyN sT_NoneType, List.forall_mem_cons.mpr ⟨kit_own rfl isN tyN sT_int, List.forall_mem_cons.mpr ⟨kit_own rfl isN tyN sT_bool, List.forall_mem_cons.mpr ⟨kit_own rfl isN tyN sT_tuple, List.forall_mem_cons.mpr ⟨kit_own rfl isN tyN sT_list, fun _ h => nomatch h⟩⟩⟩⟩⟩
theorem topF_mk {nm q : Str} {N : Addr} {bs : List Value} {sn : List Str} {sub : List Value} {ab : Bool} {col : Option Bool} {dd : Option Addr} {m0 m1 m2 m3 m5 : Option Value}
    (xF : K.lookup cF = some (excClassObj nm q cF N bs [.type "ValueError", .type "Exception", .type "BaseException", .type "object"] true sn sub ab col dd m0 m1 m2 m3 m5 "ValueError.__new__"))
    (saF : PySem.W.findIn K (.ref cF) "__setattr__" = some (some (.builtin "object.__setattr__")))
    (eF : PySem.W.subIn K (.ref cF) (.type "BaseException") = some true)
    (tF : PySem.W.typeIn K (.ref cF) = some (.type "type"))
    (kF : PySem.W.keepIn K (.ref cF) = true)
    (gaF : PySem.W.findIn K (.ref cF) "__getattribute__" = some (some (.builtin "BaseException.__getattribute__")))
    (ggF : PySem.W.findIn K (.ref cF) "__getattr__" = some none)
    (hdF : PySem.W.hasDictIn K cF = true)
    (nkF : PySem.W.findIn K (.ref cF) "kind" = some none)
    (nmF : PySem.W.findIn K (.ref cF) "message" = some none) : TopF K ⟨cN, cR, cF, cD, cV, cO, cW, cK, kw⟩ := ⟨⟨⟨nm, q, N, bs, _, sn, sub, ab, col, dd, m0, m1, m2, m3, m5, xF, by decide +kernel⟩, saF, eF, tF, kF⟩, ⟨gaF, ggF, eF, hdF⟩, nkF, nmF⟩
theorem topE_mk (eF : PySem.W.subIn K (.ref cF) (.type "BaseException") = some true) (iF : PySem.W.isClsIn K cF = true) (tF : PySem.W.typeIn K (.ref cF) = some (.type "type")) (sF : PySem.W.subIn K (.ref cF) (.ref cF) = some true) : TopE K ⟨cN, cR, cF, cD, cV, cO, cW, cK, kw⟩ := ⟨exm_self eF iF tF sF⟩
/-- all that the top has written: the row's def keeps its promise -/
theorem end_mk {P : Program} {w : World} {fa f : Addr} {oc : Value} {od an : Option Addr} {osl : Array (Option Value)} {kV doc pm cdv ct : Value} (X : K.In h) (G : h.Ns mainGlobals mg) (hfa : mg "answers" = some (.ref fa))
    (gcN : PySem.W.nsIn K mainGlobals "Nothing" = some (some (.ref cN)))
    (gcR : PySem.W.nsIn K mainGlobals "Record" = some (some (.ref cR)))
    (gcF : PySem.W.nsIn K mainGlobals "Refusal" = some (some (.ref cF)))
    (gcD : PySem.W.nsIn K mainGlobals "Reader" = some (some (.ref cD)))
    (gcV : PySem.W.nsIn K mainGlobals "Version" = some (some (.ref cV)))
    (gcO : PySem.W.nsIn K mainGlobals "Document" = some (some (.ref cO)))
    (gcW : PySem.W.nsIn K mainGlobals "Walk" = some (some (.ref cW)))
    (gcK : PySem.W.nsIn K mainGlobals "Desk" = some (some (.ref cK)))
    (gkw : PySem.W.nsIn K mainGlobals "KEYWORDS" = some (some (.ref kw)))
    (T : Top K mg ⟨cN, cR, cF, cD, cV, cO, cW, cK, kw⟩) (F : TopF K ⟨cN, cR, cF, cD, cV, cO, cW, cK, kw⟩) (B : TopE K ⟨cN, cR, cF, cD, cV, cO, cW, cK, kw⟩)
    (d_is_digit : DefAt K mg "is_digit" s_is_digit ["unit"])
    (d_is_letter : DefAt K mg "is_letter" s_is_letter ["unit"])
    (d_unit_at : DefAt K mg "unit_at" s_unit_at ["text", "at"])
    (d_digits_end : DefAt K mg "digits_end" s_digits_end ["text", "at"])
    (d_word_end : DefAt K mg "word_end" s_word_end ["text", "at"])
    (d_number_end : DefAt K mg "number_end" s_number_end ["text", "at"])
    (d_text_of : DefAt K mg "text_of" s_text_of ["words"])
    (d_word_kind : DefAt K mg "word_kind" s_word_kind ["word"])
    (d_string_end : DefAt K mg "string_end" s_string_end ["text", "at"])
    (d_sign_at : DefAt K mg "sign_at" s_sign_at ["text", "at"])
    (d_token_at : DefAt K mg "token_at" s_token_at ["text", "at"])
    (d_tokens_of : DefAt K mg "tokens_of" s_tokens_of ["text"])
    (d_is_too_deep : DefAt K mg "is_too_deep" s_is_too_deep ["text"])
    (d_Nothing : ClAt K mg cN "Nothing" "Nothing.__init__" s_Nothing_init ["self"])
    (d_Record : ClAt K mg cR "Record" "Record.__init__" s_Record_init ["self", "members"])
    (d_Reader : ClAt K mg cD "Reader" "Reader.__init__" s_Reader_init ["self", "row"])
    (d_is_integer : DefAt K mg "is_integer" s_is_integer ["value"])
    (d_number_at : DefAt K mg "number_at" s_number_at ["row", "at", "many"])
    (d_octets_of : DefAt K mg "octets_of" s_octets_of ["number", "many"])
    (d_number_told : MtAt K cD "number_told" "Reader.number_told" s_Reader_number_told ["self", "many"])
    (d_octets : MtAt K cD "octets" "Reader.octets" s_Reader_octets ["self"])
    (d_value : MtAt K cD "value" "Reader.value" s_Reader_value ["self"])
    (d_request : MtAt K cD "request" "Reader.request" s_Reader_request ["self"])
    (d_counted : DefAt K mg "counted" s_counted ["row"])
    (d_written : DefAt K mg "written" s_written ["value"])
    (d_Version : ClAt K mg cV "Version" "Version.__init__" s_Version_init ["self", "text", "tokens", "parent"])
    (d_normalized : DefAt K mg "normalized" s_normalized ["change"])
    (d_changed_text : DefAt K mg "changed_text" s_changed_text ["text", "change"])
    (d_added : DefAt K mg "added" s_added ["change"])
    (d_is_outside : DefAt K mg "is_outside" s_is_outside ["change", "begin", "end"])
    (d_moved : DefAt K mg "moved" s_moved ["change", "offset"])
    (d_now : MtAt K cO "now" "Document.now" s_Document_now ["self"])
    (d_go_to : MtAt K cO "go_to" "Document.go_to" s_Document_go_to ["self", "number"])
    (d_Document : ClAt K mg cO "Document" "Document.__init__" s_Document_init ["self", "text"])
    (d_edit : MtAt K cO "edit" "Document.edit" s_Document_edit ["self", "change", "text"])
    (d_Refusal : ExAt K mg cF "Refusal" "Refusal.__init__" s_Refusal_init ["self", "kind", "message"])
    (d_need : DefAt K mg "need" s_need ["is_right", "kind", "message"])
    (d_record : DefAt K mg "record" s_record ["pairs"])
    (d_token_told : DefAt K mg "token_told" s_token_told ["token"])
    (d_stepped : DefAt K mg "stepped" s_stepped ["value", "is_done"])
    (d_is_replacement : DefAt K mg "is_replacement" s_is_replacement ["value"])
    (d_change_of : DefAt K mg "change_of" s_change_of ["document", "value"])
    (d_Walk : ClAt K mg cW "Walk" "Walk.__init__" s_Walk_init ["self", "tokens"])
    (d_Desk : ClAt K mg cK "Desk" "Desk.__init__" s_Desk_init ["self"])
    (d_document_new : DefAt K mg "document_new" s_document_new ["desk", "slot", "text"])
    (d_dedit : DefAt K mg "edit" s_edit ["document", "value"])
    (d_token : DefAt K mg "token" s_token ["document", "value"])
    (d_of_versions : DefAt K mg "of_versions" s_of_versions ["document", "door", "value"])
    (d_of_walks : DefAt K mg "of_walks" s_of_walks ["desk", "door", "arguments"])
    (d_done : DefAt K mg "done" s_done ["desk", "door", "arguments"])
    (d_answer_of : DefAt K mg "answer_of" s_answer_of ["desk", "row"])
    (a : PySem.W.nsIn K mainGlobals "answers" = some (some (.ref f))) (l : K.lookup f = some ⟨oc, od, .func (PySem.W.fnOf "answers" "answers" (defArgs s_answers) (defBody s_answers) (defScope s_answers) .none kV doc pm an cdv ct), osl⟩)
    (c : PySem.W.codeIn K cdv "answers" = true) (k : PySem.W.keepIn K (.ref f) = true) :
    ∃ fd : FuncData, (∀ (s : Shared) (us : List Value), us.length = (["calls"] : List Str).length → BindsTo s fd ⟨us, []⟩ ((["calls"] : List Str).zip us)) ∧ ∀ base : Heap, K.In base → base.Ns mainGlobals mg → FnOk P w K mg base CX0 39 fa fd ["calls"] (sp_answers K) := by
  have e := hfa.symm.trans (PySem.W.mg_of X G a)
  cases e
  have X1 : Txt K mg ⟨cN, cR, cF, cD, cV, cO, cW, cK, kw⟩ := ⟨T, F, B, PySem.W.mg_of X G gcF, d_is_digit, d_is_letter, d_unit_at, d_digits_end, d_word_end, d_number_end, d_text_of, d_word_kind, d_string_end, d_sign_at, d_token_at, d_tokens_of, d_is_too_deep, d_Nothing, d_Record, d_Reader, d_is_integer, d_number_at, d_octets_of, d_number_told, d_octets, d_value, d_request, d_counted, d_written, d_Version, d_normalized, d_changed_text, d_added, d_is_outside, d_moved, d_now, d_go_to, d_Document, d_edit, d_Refusal, d_need, d_record, d_token_told, d_stepped, d_is_replacement, d_change_of, d_Walk, d_Desk, d_document_new, d_dedit, d_token, d_of_versions, d_of_walks, d_done, d_answer_of⟩
  exact ⟨_, fun s us hu => .of_eq (b_answers kV doc pm an cdv ct us hu), fun base _ _ => all_ok X1 (fun_mk l c k)⟩
end
/-- the request -/
theorem end_ask {K : PySem.W.Frag} {H : Hp} {a : Addr} {l : List Int} {E : XK} (ha : SqL K H a (l.map V.int)) (hq : PyZq48.answers_asked l = true) :
    sp_answers K [.ref a] H (fun v H' => Dw K H' v (.list ((PyZq48.answers l).map PySem.W.WData.int))) E := by
  obtain ⟨reqs, rfl, hok, e, hsz⟩ := plain_law hq
  refine ⟨a, reqs, fun _ => none, rfl, fun _ _ z => (by cases z), ha, hok, hsz, fun p G' H' g _ hp => ?_⟩
  rw [e] at hp
  exact .lst (SqL.of (g.s _ _ hp)) (dw_ints _)
end Tk
end
section
set_option maxRecDepth 100000
open PySem PySem.W PyProof.Rows
set_option maxRecDepth 100000 in
set_option maxHeartbeats 0 in
theorem PySem.Challenge.cw_stabletokens_s01_answers_holds : PySem.Challenge.rw_stabletokens_s01_answers.Holds := by
  w_on; k_headS; (case hw => exact ⟨[.list ([0, 17, 0, 0, 2, 4, 0, 0, 0, 0, 0, 0, 0, 0, 6, 0, 0, 0, 0].map WData.int)], by decide +kernel, by decide +kernel⟩)
  k_fillS
  refine L2.walk_specK (r := PySem.Challenge.rw_stabletokens_s01_answers) (k := 39) (CX := L2.CX0) (ps := ["calls"]) (sp := Tk.sp_answers) (by decide +kernel) rfl rfl ⟨rfl, by decide, by decide⟩ (fun w h Y => PySem.W.kIn_of Y) ?F ?S (fun _ _ _ _ z => z)
  case F =>
    intro w mg fa h Y KX G hmg
    refine' Tk.end_mk KX G hmg ?gcN ?gcR ?gcF ?gcD ?gcV ?gcO ?gcW ?gcK ?gkw ?T ?F ?B ?d_is_digit ?d_is_letter ?d_unit_at ?d_digits_end ?d_word_end ?d_number_end ?d_text_of ?d_word_kind ?d_string_end ?d_sign_at ?d_token_at ?d_tokens_of ?d_is_too_deep ?d_Nothing ?d_Record ?d_Reader ?d_is_integer ?d_number_at ?d_octets_of ?d_number_told ?d_octets ?d_value ?d_request ?d_counted ?d_written ?d_Version ?d_normalized ?d_changed_text ?d_added ?d_is_outside ?d_moved ?d_now ?d_go_to ?d_Document ?d_edit ?d_Refusal ?d_need ?d_record ?d_token_told ?d_stepped ?d_is_replacement ?d_change_of ?d_Walk ?d_Desk ?d_document_new ?d_dedit ?d_token ?d_of_versions ?d_of_walks ?d_done ?d_answer_of ?a ?l ?c ?k
    (case gcN => k_is)
    (case gcR => k_is)
    (case gcF => k_is)
    (case gcD => k_is)
    (case gcV => k_is)
    (case gcO => k_is)
    (case gcW => k_is)
    (case gcK => k_is)
    (case gkw => k_is)
    (case T =>
      refine' Tk.top_mk KX G ?n_len_T ?n_ord_T ?n_max_T ?n_sum_T ?n_all_T ?n_str_T ?n_tuple_T ?n_list_T ?n_int_T ?n_bool_T ?n_isinstance_T ?n_range_T ?n_enumerate_T ?g_WRONG_KIND_T ?g_OUT_OF_RANGE_T ?g_MOST_DEPTH_T ?g_BLANK_T ?g_LINE_FEED_T ?g_HASH_T ?g_MARK_T ?g_POINT_T ?g_EQUAL_T ?g_MOST_TEXT_T ?g_MOST_REPLACEMENTS_T ?g_MOST_VERSIONS_T ?g_MOST_ADDED_T ?g_KEYWORDS_T ?g_SINGLES_T ?l_kw_T ?g_Nothing_T ?pgcN_T ?hdcN_T ?pocN_T ?sacN_T ?pgcR_T ?hdcR_T ?pocR_T ?sacR_T ?pgcD_T ?hdcD_T ?pocD_T ?sacD_T ?pgcV_T ?hdcV_T ?pocV_T ?sacV_T ?pgcO_T ?hdcO_T ?pocO_T ?sacO_T ?pgcW_T ?hdcW_T ?pocW_T ?sacW_T ?pgcK_T ?hdcK_T ?pocK_T ?sacK_T ?a_there_T ?a_members_T ?a_row_T ?a_at_T ?a_text_T ?a_tokens_T ?a_parent_T ?a_redo_T ?a_versions_T ?a_current_T ?a_next_id_T ?a_many_added_T ?a_left_T ?a_documents_T ?a_walks_T ?iN_class_T ?iR_class_T ?i_get_T ?i_takes_T ?iN_obj_T ?iR_obj_T ?neRN_T ?isN_T ?tyN_T ?sRN_T ?sN_int_T ?sN_bool_T ?sN_tuple_T ?sN_list_T ?sR_int_T ?sR_bool_T ?sR_tuple_T ?sR_list_T ?sT_NoneType_T ?sT_int_T ?sT_bool_T ?sT_tuple_T ?sT_list_T
      (case n_len_T => k_is)
      (case n_ord_T => k_is)
      (case n_max_T => k_is)
      (case n_sum_T => k_is)
      (case n_all_T => k_is)
      (case n_str_T => k_is)
      (case n_tuple_T => k_is)
      (case n_list_T => k_is)
      (case n_int_T => k_is)
      (case n_bool_T => k_is)
      (case n_isinstance_T => k_is)
      (case n_range_T => k_is)
      (case n_enumerate_T => k_is)
      (case g_WRONG_KIND_T => k_is)
      (case g_OUT_OF_RANGE_T => k_is)
      (case g_MOST_DEPTH_T => k_is)
      (case g_BLANK_T => k_is)
      (case g_LINE_FEED_T => k_is)
      (case g_HASH_T => k_is)
      (case g_MARK_T => k_is)
      (case g_POINT_T => k_is)
      (case g_EQUAL_T => k_is)
      (case g_MOST_TEXT_T => k_is)
      (case g_MOST_REPLACEMENTS_T => k_is)
      (case g_MOST_VERSIONS_T => k_is)
      (case g_MOST_ADDED_T => k_is)
      (case g_KEYWORDS_T => k_is)
      (case g_SINGLES_T => k_is)
      (case l_kw_T => k_is)
      (case g_Nothing_T => k_is)
      (case pgcN_T => k_is)
      (case hdcN_T => k_is)
      (case pocN_T => k_is)
      (case sacN_T => k_is)
      (case pgcR_T => k_is)
      (case hdcR_T => k_is)
      (case pocR_T => k_is)
      (case sacR_T => k_is)
      (case pgcD_T => k_is)
      (case hdcD_T => k_is)
      (case pocD_T => k_is)
      (case sacD_T => k_is)
      (case pgcV_T => k_is)
      (case hdcV_T => k_is)
      (case pocV_T => k_is)
      (case sacV_T => k_is)
      (case pgcO_T => k_is)
      (case hdcO_T => k_is)
      (case pocO_T => k_is)
      (case sacO_T => k_is)
      (case pgcW_T => k_is)
      (case hdcW_T => k_is)
      (case pocW_T => k_is)
      (case sacW_T => k_is)
      (case pgcK_T => k_is)
      (case hdcK_T => k_is)
      (case pocK_T => k_is)
      (case sacK_T => k_is)
      (case a_there_T => k_is)
      (case a_members_T => k_is)
      (case a_row_T => k_is)
      (case a_at_T => k_is)
      (case a_text_T => k_is)
      (case a_tokens_T => k_is)
      (case a_parent_T => k_is)
      (case a_redo_T => k_is)
      (case a_versions_T => k_is)
      (case a_current_T => k_is)
      (case a_next_id_T => k_is)
      (case a_many_added_T => k_is)
      (case a_left_T => k_is)
      (case a_documents_T => k_is)
      (case a_walks_T => k_is)
      (case iN_class_T => k_is)
      (case iR_class_T => k_is)
      (case i_get_T => k_is)
      (case i_takes_T => k_is)
      (case iN_obj_T => k_is)
      (case iR_obj_T => k_is)
      (case neRN_T => first | rfl | decide)
      (case isN_T => k_is)
      (case tyN_T => k_is)
      (case sRN_T => k_is)
      (case sN_int_T => k_is)
      (case sN_bool_T => k_is)
      (case sN_tuple_T => k_is)
      (case sN_list_T => k_is)
      (case sR_int_T => k_is)
      (case sR_bool_T => k_is)
      (case sR_tuple_T => k_is)
      (case sR_list_T => k_is)
      (case sT_NoneType_T => k_is)
      (case sT_int_T => k_is)
      (case sT_bool_T => k_is)
      (case sT_tuple_T => k_is)
      (case sT_list_T => k_is))
    (case F =>
      refine' Tk.topF_mk ?xF_F ?saF_F ?eF_F ?tF_F ?kF_F ?gaF_F ?ggF_F ?hdF_F ?nkF_F ?nmF_F
      (case xF_F => k_is)
      (case saF_F => k_is)
      (case eF_F => k_is)
      (case tF_F => k_is)
      (case kF_F => k_is)
      (case gaF_F => k_is)
      (case ggF_F => k_is)
      (case hdF_F => k_is)
      (case nkF_F => k_is)
      (case nmF_F => k_is))
    (case B =>
      refine' Tk.topE_mk ?eF_B ?iF_B ?tF_B ?sF_B
      (case eF_B => k_is)
      (case iF_B => k_is)
      (case tF_B => k_is)
      (case sF_B => first | rfl | k_is))
    (case d_is_digit =>
      refine' Tk.defAt_mk KX G Tk.b_is_digit ?a_d_is_digit ?l_d_is_digit ?c_d_is_digit ?k_d_is_digit
      (case a_d_is_digit => k_is)
      (case l_d_is_digit => k_is)
      (case c_d_is_digit => k_is)
      (case k_d_is_digit => k_is))
    (case d_is_letter =>
      refine' Tk.defAt_mk KX G Tk.b_is_letter ?a_d_is_letter ?l_d_is_letter ?c_d_is_letter ?k_d_is_letter
      (case a_d_is_letter => k_is)
      (case l_d_is_letter => k_is)
      (case c_d_is_letter => k_is)
      (case k_d_is_letter => k_is))
    (case d_unit_at =>
      refine' Tk.defAt_mk KX G Tk.b_unit_at ?a_d_unit_at ?l_d_unit_at ?c_d_unit_at ?k_d_unit_at
      (case a_d_unit_at => k_is)
      (case l_d_unit_at => k_is)
      (case c_d_unit_at => k_is)
      (case k_d_unit_at => k_is))
    (case d_digits_end =>
      refine' Tk.defAt_mk KX G Tk.b_digits_end ?a_d_digits_end ?l_d_digits_end ?c_d_digits_end ?k_d_digits_end
      (case a_d_digits_end => k_is)
      (case l_d_digits_end => k_is)
      (case c_d_digits_end => k_is)
      (case k_d_digits_end => k_is))
    (case d_word_end =>
      refine' Tk.defAt_mk KX G Tk.b_word_end ?a_d_word_end ?l_d_word_end ?c_d_word_end ?k_d_word_end
      (case a_d_word_end => k_is)
      (case l_d_word_end => k_is)
      (case c_d_word_end => k_is)
      (case k_d_word_end => k_is))
    (case d_number_end =>
      refine' Tk.defAt_mk KX G Tk.b_number_end ?a_d_number_end ?l_d_number_end ?c_d_number_end ?k_d_number_end
      (case a_d_number_end => k_is)
      (case l_d_number_end => k_is)
      (case c_d_number_end => k_is)
      (case k_d_number_end => k_is))
    (case d_text_of =>
      refine' Tk.defAt_mk KX G Tk.b_text_of ?a_d_text_of ?l_d_text_of ?c_d_text_of ?k_d_text_of
      (case a_d_text_of => k_is)
      (case l_d_text_of => k_is)
      (case c_d_text_of => k_is)
      (case k_d_text_of => k_is))
    (case d_word_kind =>
      refine' Tk.defAt_mk KX G Tk.b_word_kind ?a_d_word_kind ?l_d_word_kind ?c_d_word_kind ?k_d_word_kind
      (case a_d_word_kind => k_is)
      (case l_d_word_kind => k_is)
      (case c_d_word_kind => k_is)
      (case k_d_word_kind => k_is))
    (case d_string_end =>
      refine' Tk.defAt_mk KX G Tk.b_string_end ?a_d_string_end ?l_d_string_end ?c_d_string_end ?k_d_string_end
      (case a_d_string_end => k_is)
      (case l_d_string_end => k_is)
      (case c_d_string_end => k_is)
      (case k_d_string_end => k_is))
    (case d_sign_at =>
      refine' Tk.defAt_mk KX G Tk.b_sign_at ?a_d_sign_at ?l_d_sign_at ?c_d_sign_at ?k_d_sign_at
      (case a_d_sign_at => k_is)
      (case l_d_sign_at => k_is)
      (case c_d_sign_at => k_is)
      (case k_d_sign_at => k_is))
    (case d_token_at =>
      refine' Tk.defAt_mk KX G Tk.b_token_at ?a_d_token_at ?l_d_token_at ?c_d_token_at ?k_d_token_at
      (case a_d_token_at => k_is)
      (case l_d_token_at => k_is)
      (case c_d_token_at => k_is)
      (case k_d_token_at => k_is))
    (case d_tokens_of =>
      refine' Tk.defAt_mk KX G Tk.b_tokens_of ?a_d_tokens_of ?l_d_tokens_of ?c_d_tokens_of ?k_d_tokens_of
      (case a_d_tokens_of => k_is)
      (case l_d_tokens_of => k_is)
      (case c_d_tokens_of => k_is)
      (case k_d_tokens_of => k_is))
    (case d_is_too_deep =>
      refine' Tk.defAt_mk KX G Tk.b_is_too_deep ?a_d_is_too_deep ?l_d_is_too_deep ?c_d_is_too_deep ?k_d_is_too_deep
      (case a_d_is_too_deep => k_is)
      (case l_d_is_too_deep => k_is)
      (case c_d_is_too_deep => k_is)
      (case k_d_is_too_deep => k_is))
    (case d_Nothing =>
      refine' Tk.clAt_mk KX G Tk.b_Nothing ?g_d_Nothing ?a_d_Nothing ?l_d_Nothing ?c_d_Nothing ?k_d_Nothing ?i_d_Nothing ?n_d_Nothing ?kc_d_Nothing
      (case g_d_Nothing => k_is)
      (case a_d_Nothing => k_is)
      (case l_d_Nothing => k_is)
      (case c_d_Nothing => k_is)
      (case k_d_Nothing => k_is)
      (case i_d_Nothing => k_is)
      (case n_d_Nothing => k_is)
      (case kc_d_Nothing => k_is))
    (case d_Record =>
      refine' Tk.clAt_mk KX G Tk.b_Record ?g_d_Record ?a_d_Record ?l_d_Record ?c_d_Record ?k_d_Record ?i_d_Record ?n_d_Record ?kc_d_Record
      (case g_d_Record => k_is)
      (case a_d_Record => k_is)
      (case l_d_Record => k_is)
      (case c_d_Record => k_is)
      (case k_d_Record => k_is)
      (case i_d_Record => k_is)
      (case n_d_Record => k_is)
      (case kc_d_Record => k_is))
    (case d_Reader =>
      refine' Tk.clAt_mk KX G Tk.b_Reader ?g_d_Reader ?a_d_Reader ?l_d_Reader ?c_d_Reader ?k_d_Reader ?i_d_Reader ?n_d_Reader ?kc_d_Reader
      (case g_d_Reader => k_is)
      (case a_d_Reader => k_is)
      (case l_d_Reader => k_is)
      (case c_d_Reader => k_is)
      (case k_d_Reader => k_is)
      (case i_d_Reader => k_is)
      (case n_d_Reader => k_is)
      (case kc_d_Reader => k_is))
    (case d_is_integer =>
      refine' Tk.defAt_mk KX G Tk.b_is_integer ?a_d_is_integer ?l_d_is_integer ?c_d_is_integer ?k_d_is_integer
      (case a_d_is_integer => k_is)
      (case l_d_is_integer => k_is)
      (case c_d_is_integer => k_is)
      (case k_d_is_integer => k_is))
    (case d_number_at =>
      refine' Tk.defAt_mk KX G Tk.b_number_at ?a_d_number_at ?l_d_number_at ?c_d_number_at ?k_d_number_at
      (case a_d_number_at => k_is)
      (case l_d_number_at => k_is)
      (case c_d_number_at => k_is)
      (case k_d_number_at => k_is))
    (case d_octets_of =>
      refine' Tk.defAt_mk KX G Tk.b_octets_of ?a_d_octets_of ?l_d_octets_of ?c_d_octets_of ?k_d_octets_of
      (case a_d_octets_of => k_is)
      (case l_d_octets_of => k_is)
      (case c_d_octets_of => k_is)
      (case k_d_octets_of => k_is))
    (case d_number_told =>
      refine' Tk.mtAt_mk Tk.b_number_told ?z_d_number_told ?a_d_number_told ?l_d_number_told ?c_d_number_told ?k_d_number_told ?i_d_number_told
      (case z_d_number_told => refine' ⟨?pg_d_number_told, ?hd_d_number_told, ?po_d_number_told, ?sa_d_number_told⟩; (case pg_d_number_told => k_is); (case hd_d_number_told => k_is); (case po_d_number_told => k_is); (case sa_d_number_told => k_is))
      (case a_d_number_told => k_is)
      (case l_d_number_told => k_is)
      (case c_d_number_told => k_is)
      (case k_d_number_told => k_is)
      (case i_d_number_told => k_is))
    (case d_octets =>
      refine' Tk.mtAt_mk Tk.b_octets ?z_d_octets ?a_d_octets ?l_d_octets ?c_d_octets ?k_d_octets ?i_d_octets
      (case z_d_octets => refine' ⟨?pg_d_octets, ?hd_d_octets, ?po_d_octets, ?sa_d_octets⟩; (case pg_d_octets => k_is); (case hd_d_octets => k_is); (case po_d_octets => k_is); (case sa_d_octets => k_is))
      (case a_d_octets => k_is)
      (case l_d_octets => k_is)
      (case c_d_octets => k_is)
      (case k_d_octets => k_is)
      (case i_d_octets => k_is))
    (case d_value =>
      refine' Tk.mtAt_mk Tk.b_value ?z_d_value ?a_d_value ?l_d_value ?c_d_value ?k_d_value ?i_d_value
      (case z_d_value => refine' ⟨?pg_d_value, ?hd_d_value, ?po_d_value, ?sa_d_value⟩; (case pg_d_value => k_is); (case hd_d_value => k_is); (case po_d_value => k_is); (case sa_d_value => k_is))
      (case a_d_value => k_is)
      (case l_d_value => k_is)
      (case c_d_value => k_is)
      (case k_d_value => k_is)
      (case i_d_value => k_is))
    (case d_request =>
      refine' Tk.mtAt_mk Tk.b_request ?z_d_request ?a_d_request ?l_d_request ?c_d_request ?k_d_request ?i_d_request
      (case z_d_request => refine' ⟨?pg_d_request, ?hd_d_request, ?po_d_request, ?sa_d_request⟩; (case pg_d_request => k_is); (case hd_d_request => k_is); (case po_d_request => k_is); (case sa_d_request => k_is))
      (case a_d_request => k_is)
      (case l_d_request => k_is)
      (case c_d_request => k_is)
      (case k_d_request => k_is)
      (case i_d_request => k_is))
    (case d_counted =>
      refine' Tk.defAt_mk KX G Tk.b_counted ?a_d_counted ?l_d_counted ?c_d_counted ?k_d_counted
      (case a_d_counted => k_is)
      (case l_d_counted => k_is)
      (case c_d_counted => k_is)
      (case k_d_counted => k_is))
    (case d_written =>
      refine' Tk.defAt_mk KX G Tk.b_written ?a_d_written ?l_d_written ?c_d_written ?k_d_written
      (case a_d_written => k_is)
      (case l_d_written => k_is)
      (case c_d_written => k_is)
      (case k_d_written => k_is))
    (case d_Version =>
      refine' Tk.clAt_mk KX G Tk.b_Version ?g_d_Version ?a_d_Version ?l_d_Version ?c_d_Version ?k_d_Version ?i_d_Version ?n_d_Version ?kc_d_Version
      (case g_d_Version => k_is)
      (case a_d_Version => k_is)
      (case l_d_Version => k_is)
      (case c_d_Version => k_is)
      (case k_d_Version => k_is)
      (case i_d_Version => k_is)
      (case n_d_Version => k_is)
      (case kc_d_Version => k_is))
    (case d_normalized =>
      refine' Tk.defAt_mk KX G Tk.b_normalized ?a_d_normalized ?l_d_normalized ?c_d_normalized ?k_d_normalized
      (case a_d_normalized => k_is)
      (case l_d_normalized => k_is)
      (case c_d_normalized => k_is)
      (case k_d_normalized => k_is))
    (case d_changed_text =>
      refine' Tk.defAt_mk KX G Tk.b_changed_text ?a_d_changed_text ?l_d_changed_text ?c_d_changed_text ?k_d_changed_text
      (case a_d_changed_text => k_is)
      (case l_d_changed_text => k_is)
      (case c_d_changed_text => k_is)
      (case k_d_changed_text => k_is))
    (case d_added =>
      refine' Tk.defAt_mk KX G Tk.b_added ?a_d_added ?l_d_added ?c_d_added ?k_d_added
      (case a_d_added => k_is)
      (case l_d_added => k_is)
      (case c_d_added => k_is)
      (case k_d_added => k_is))
    (case d_is_outside =>
      refine' Tk.defAt_mk KX G Tk.b_is_outside ?a_d_is_outside ?l_d_is_outside ?c_d_is_outside ?k_d_is_outside
      (case a_d_is_outside => k_is)
      (case l_d_is_outside => k_is)
      (case c_d_is_outside => k_is)
      (case k_d_is_outside => k_is))
    (case d_moved =>
      refine' Tk.defAt_mk KX G Tk.b_moved ?a_d_moved ?l_d_moved ?c_d_moved ?k_d_moved
      (case a_d_moved => k_is)
      (case l_d_moved => k_is)
      (case c_d_moved => k_is)
      (case k_d_moved => k_is))
    (case d_now =>
      refine' Tk.mtAt_mk Tk.b_now ?z_d_now ?a_d_now ?l_d_now ?c_d_now ?k_d_now ?i_d_now
      (case z_d_now => refine' ⟨?pg_d_now, ?hd_d_now, ?po_d_now, ?sa_d_now⟩; (case pg_d_now => k_is); (case hd_d_now => k_is); (case po_d_now => k_is); (case sa_d_now => k_is))
      (case a_d_now => k_is)
      (case l_d_now => k_is)
      (case c_d_now => k_is)
      (case k_d_now => k_is)
      (case i_d_now => k_is))
    (case d_go_to =>
      refine' Tk.mtAt_mk Tk.b_go_to ?z_d_go_to ?a_d_go_to ?l_d_go_to ?c_d_go_to ?k_d_go_to ?i_d_go_to
      (case z_d_go_to => refine' ⟨?pg_d_go_to, ?hd_d_go_to, ?po_d_go_to, ?sa_d_go_to⟩; (case pg_d_go_to => k_is); (case hd_d_go_to => k_is); (case po_d_go_to => k_is); (case sa_d_go_to => k_is))
      (case a_d_go_to => k_is)
      (case l_d_go_to => k_is)
      (case c_d_go_to => k_is)
      (case k_d_go_to => k_is)
      (case i_d_go_to => k_is))
    (case d_Document =>
      refine' Tk.clAt_mk KX G Tk.b_Document ?g_d_Document ?a_d_Document ?l_d_Document ?c_d_Document ?k_d_Document ?i_d_Document ?n_d_Document ?kc_d_Document
      (case g_d_Document => k_is)
      (case a_d_Document => k_is)
      (case l_d_Document => k_is)
      (case c_d_Document => k_is)
      (case k_d_Document => k_is)
      (case i_d_Document => k_is)
      (case n_d_Document => k_is)
      (case kc_d_Document => k_is))
    (case d_edit =>
      refine' Tk.mtAt_mk Tk.b_edit ?z_d_edit ?a_d_edit ?l_d_edit ?c_d_edit ?k_d_edit ?i_d_edit
      (case z_d_edit => refine' ⟨?pg_d_edit, ?hd_d_edit, ?po_d_edit, ?sa_d_edit⟩; (case pg_d_edit => k_is); (case hd_d_edit => k_is); (case po_d_edit => k_is); (case sa_d_edit => k_is))
      (case a_d_edit => k_is)
      (case l_d_edit => k_is)
      (case c_d_edit => k_is)
      (case k_d_edit => k_is)
      (case i_d_edit => k_is))
    (case d_Refusal =>
      refine' Tk.exAt_mk KX G Tk.b_Refusal ?g_d_Refusal ?a_d_Refusal ?l_d_Refusal ?c_d_Refusal ?k_d_Refusal ?t_d_Refusal
      (case g_d_Refusal => k_is)
      (case a_d_Refusal => k_is)
      (case l_d_Refusal => k_is)
      (case c_d_Refusal => k_is)
      (case k_d_Refusal => k_is)
      (case t_d_Refusal => k_is))
    (case d_need =>
      refine' Tk.defAt_mk KX G Tk.b_need ?a_d_need ?l_d_need ?c_d_need ?k_d_need
      (case a_d_need => k_is)
      (case l_d_need => k_is)
      (case c_d_need => k_is)
      (case k_d_need => k_is))
    (case d_record =>
      refine' Tk.defAt_mk KX G Tk.b_record ?a_d_record ?l_d_record ?c_d_record ?k_d_record
      (case a_d_record => k_is)
      (case l_d_record => k_is)
      (case c_d_record => k_is)
      (case k_d_record => k_is))
    (case d_token_told =>
      refine' Tk.defAt_mk KX G Tk.b_token_told ?a_d_token_told ?l_d_token_told ?c_d_token_told ?k_d_token_told
      (case a_d_token_told => k_is)
      (case l_d_token_told => k_is)
      (case c_d_token_told => k_is)
      (case k_d_token_told => k_is))
    (case d_stepped =>
      refine' Tk.defAt_mk KX G Tk.b_stepped ?a_d_stepped ?l_d_stepped ?c_d_stepped ?k_d_stepped
      (case a_d_stepped => k_is)
      (case l_d_stepped => k_is)
      (case c_d_stepped => k_is)
      (case k_d_stepped => k_is))
    (case d_is_replacement =>
      refine' Tk.defAt_mk KX G Tk.b_is_replacement ?a_d_is_replacement ?l_d_is_replacement ?c_d_is_replacement ?k_d_is_replacement
      (case a_d_is_replacement => k_is)
      (case l_d_is_replacement => k_is)
      (case c_d_is_replacement => k_is)
      (case k_d_is_replacement => k_is))
    (case d_change_of =>
      refine' Tk.defAt_mk KX G Tk.b_change_of ?a_d_change_of ?l_d_change_of ?c_d_change_of ?k_d_change_of
      (case a_d_change_of => k_is)
      (case l_d_change_of => k_is)
      (case c_d_change_of => k_is)
      (case k_d_change_of => k_is))
    (case d_Walk =>
      refine' Tk.clAt_mk KX G Tk.b_Walk ?g_d_Walk ?a_d_Walk ?l_d_Walk ?c_d_Walk ?k_d_Walk ?i_d_Walk ?n_d_Walk ?kc_d_Walk
      (case g_d_Walk => k_is)
      (case a_d_Walk => k_is)
      (case l_d_Walk => k_is)
      (case c_d_Walk => k_is)
      (case k_d_Walk => k_is)
      (case i_d_Walk => k_is)
      (case n_d_Walk => k_is)
      (case kc_d_Walk => k_is))
    (case d_Desk =>
      refine' Tk.clAt_mk KX G Tk.b_Desk ?g_d_Desk ?a_d_Desk ?l_d_Desk ?c_d_Desk ?k_d_Desk ?i_d_Desk ?n_d_Desk ?kc_d_Desk
      (case g_d_Desk => k_is)
      (case a_d_Desk => k_is)
      (case l_d_Desk => k_is)
      (case c_d_Desk => k_is)
      (case k_d_Desk => k_is)
      (case i_d_Desk => k_is)
      (case n_d_Desk => k_is)
      (case kc_d_Desk => k_is))
    (case d_document_new =>
      refine' Tk.defAt_mk KX G Tk.b_document_new ?a_d_document_new ?l_d_document_new ?c_d_document_new ?k_d_document_new
      (case a_d_document_new => k_is)
      (case l_d_document_new => k_is)
      (case c_d_document_new => k_is)
      (case k_d_document_new => k_is))
    (case d_dedit =>
      refine' Tk.defAt_mk KX G Tk.b_dedit ?a_d_dedit ?l_d_dedit ?c_d_dedit ?k_d_dedit
      (case a_d_dedit => k_is)
      (case l_d_dedit => k_is)
      (case c_d_dedit => k_is)
      (case k_d_dedit => k_is))
    (case d_token =>
      refine' Tk.defAt_mk KX G Tk.b_token ?a_d_token ?l_d_token ?c_d_token ?k_d_token
      (case a_d_token => k_is)
      (case l_d_token => k_is)
      (case c_d_token => k_is)
      (case k_d_token => k_is))
    (case d_of_versions =>
      refine' Tk.defAt_mk KX G Tk.b_of_versions ?a_d_of_versions ?l_d_of_versions ?c_d_of_versions ?k_d_of_versions
      (case a_d_of_versions => k_is)
      (case l_d_of_versions => k_is)
      (case c_d_of_versions => k_is)
      (case k_d_of_versions => k_is))
    (case d_of_walks =>
      refine' Tk.defAt_mk KX G Tk.b_of_walks ?a_d_of_walks ?l_d_of_walks ?c_d_of_walks ?k_d_of_walks
      (case a_d_of_walks => k_is)
      (case l_d_of_walks => k_is)
      (case c_d_of_walks => k_is)
      (case k_d_of_walks => k_is))
    (case d_done =>
      refine' Tk.defAt_mk KX G Tk.b_done ?a_d_done ?l_d_done ?c_d_done ?k_d_done
      (case a_d_done => k_is)
      (case l_d_done => k_is)
      (case c_d_done => k_is)
      (case k_d_done => k_is))
    (case d_answer_of =>
      refine' Tk.defAt_mk KX G Tk.b_answer_of ?a_d_answer_of ?l_d_answer_of ?c_d_answer_of ?k_d_answer_of
      (case a_d_answer_of => k_is)
      (case l_d_answer_of => k_is)
      (case c_d_answer_of => k_is)
      (case k_d_answer_of => k_is))
    (case a => k_is)
    (case l => k_is)
    (case c => k_is)
    (case k => k_is)
  case S =>
    intro K H xs a hO hwi hask hx
    cases hx with
    | cons h1 h2 =>
      cases h2
      cases h1 with
      | lst hs ha =>
        have e := L2.ints_dw a.1 _ ha
        subst e
        exact Tk.end_ask hs hask
end
#print axioms PySem.Challenge.cw_stabletokens_s01_answers_holds
