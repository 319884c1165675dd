/- A token by itself, with a blank behind it, is the token. -/
import Derived.Test.YtleepjnpnbkgdaaPureF
namespace Go.Proofs.Ytleepjnpnbkgdaa.Lex
open Go.RowKit Go.Proofs.Ytleepjnpnbkgdaa.P Go.Proofs.YtleepjnpnbkgdaaW.PrintWords Go.Proofs.YtleepjnpnbkgdaaW.PrintLast
theorem nbTake {l : List UInt8} {m i : Nat} (h : i < m) : nb (l.take m) i = nb l i := by
  unfold nb
  rw [List.getD_eq_getElem?_getD, List.getElem?_take, if_pos h, ← List.getD_eq_getElem?_getD]
theorem nbLeft {l r : List UInt8} {i : Nat} (h : i < l.length) : nb (l ++ r) i = nb l i := by
  unfold nb
  rw [List.getD_eq_getElem?_getD, List.getElem?_append_left h, ← List.getD_eq_getElem?_getD]
theorem spnUpto {p : Int → Bool} : ∀ (l r : List UInt8), (∀ i, i < l.length → p (nb l i) = true) → p (nb r 0) = false → spn p (l ++ r) = l.length
  | [], r, _, h => by
    cases r with
    | nil => rfl
    | cons c r =>
      have hc : p (c.toNat : Int) = false := h
      rw [List.nil_append, spn, if_neg (by rw [hc]; decide)]
      rfl
  | c :: l, r, h, hr => by
    have h0 : p (c.toNat : Int) = true := h 0 (by simp)
    rw [List.cons_append, spn, if_pos h0, spnUpto l r (fun i hi => h (i + 1) (by simpa using hi)) hr, List.length_cons]
/-- A byte that ends a token: a blank, or a remark's first. -/
def pStop (c : Int) : Bool := pBlank c || c == 59
theorem stop_cases {c : Int} (h : pStop c = true) : c = 32 ∨ c = 9 ∨ c = 10 ∨ c = 13 ∨ c = 59 := by
  unfold pStop pBlank at h
  simp only [Bool.or_eq_true, beq_iff_eq] at h
  omega
theorem stop_inner {c : Int} (h : pStop c = true) : pInner c = false := by
  rcases stop_cases h with rfl | rfl | rfl | rfl | rfl <;> decide
theorem stop_digit {c : Int} (h : pStop c = true) : pDigit c = false := by
  rcases stop_cases h with rfl | rfl | rfl | rfl | rfl <;> decide
theorem inner_stop {c : Int} (h : pInner c = true) : pStop c = false := by
  cases hs : pStop c with
  | false => rfl
  | true =>
    have := stop_inner hs
    rw [h] at this
    exact absurd this (by decide)
theorem digit_stop {c : Int} (h : pDigit c = true) : pStop c = false := by
  cases hs : pStop c with
  | false => rfl
  | true =>
    have := stop_digit hs
    rw [h] at this
    exact absurd this (by decide)
theorem dig_range {c : Int} (h : pDigit c = true) : 48 ≤ c ∧ c ≤ 57 := by
  unfold pDigit at h
  simpa using h
theorem one_stop {l : List UInt8} {v : Int} (hv : nb l 0 = v) (h : pStop v = false) : ∀ i, i < 1 → pStop (nb (l.take 1) i) = false := by
  intro i hi
  obtain rfl : i = 0 := by omega
  rw [nbTake (by omega), hv]
  exact h
theorem nextT_local {l r : List UInt8} {k n e : Int} {m : Nat} (hn : nextT l = (k, n, m, e)) (he : e = 0) (h0 : 0 < l.length) (hr : pStop (nb r 0) = true) :
    (∀ i, i < m → pStop (nb (l.take m) i) = false) ∧ nextT (l.take m ++ r) = (k, n, m, 0) := by
  subst he
  have hlen := nextT_len h0 (by rw [hn])
  rw [hn] at hlen
  have hl1 : 1 ≤ m := hlen.1
  have hl2 : m ≤ l.length := hlen.2
  have ht : (l.take m).length = m := by rw [List.length_take]; omega
  have a0 : nb (l.take m ++ r) 0 = nb l 0 := by rw [nbLeft (by omega), nbTake (by omega)]
  unfold nextT at hn
  by_cases h1 : nb l 0 = 40
  · rw [if_pos h1] at hn
    simp only [Prod.mk.injEq] at hn
    obtain ⟨rfl, rfl, rfl, -⟩ := hn
    refine ⟨one_stop h1 (by decide), ?_⟩
    unfold nextT
    rw [a0, if_pos h1]
  rw [if_neg h1] at hn
  by_cases h2 : nb l 0 = 41
  · rw [if_pos h2] at hn
    simp only [Prod.mk.injEq] at hn
    obtain ⟨rfl, rfl, rfl, -⟩ := hn
    refine ⟨one_stop h2 (by decide), ?_⟩
    unfold nextT
    rw [a0, if_neg h1, if_pos h2]
  rw [if_neg h2] at hn
  by_cases h3 : nb l 0 = 42
  · rw [if_pos h3] at hn
    simp only [Prod.mk.injEq] at hn
    obtain ⟨rfl, rfl, rfl, -⟩ := hn
    refine ⟨one_stop h3 (by decide), ?_⟩
    unfold nextT
    rw [a0, if_neg h1, if_neg h2, if_pos h3]
  rw [if_neg h3] at hn
  by_cases h4 : nb l 0 = 45 ∧ 1 < l.length ∧ nb l 1 = 62
  · rw [if_pos h4] at hn
    simp only [Prod.mk.injEq] at hn
    obtain ⟨rfl, rfl, rfl, -⟩ := hn
    have a1 : nb (l.take 2 ++ r) 1 = nb l 1 := by rw [nbLeft (by omega), nbTake (by omega)]
    refine ⟨?_, ?_⟩
    · intro i hi
      rw [nbTake hi]
      obtain rfl | rfl : i = 0 ∨ i = 1 := by omega
      · rw [h4.1]
        decide
      · rw [h4.2.2]
        decide
    · unfold nextT
      rw [a0, a1, if_neg h1, if_neg h2, if_neg h3, if_pos ⟨h4.1, by rw [List.length_append]; omega, h4.2.2⟩]
  rw [if_neg h4] at hn
  by_cases h5 : pFront (nb l 0) = true
  · rw [if_pos h5] at hn
    by_cases h6 : spn pInner l > 20
    · rw [if_pos h6] at hn
      simp only [Prod.mk.injEq] at hn
      exact absurd hn.2.2.2 (by decide)
    · rw [if_neg h6] at hn
      simp only [Prod.mk.injEq] at hn
      obtain ⟨rfl, rfl, hm, -⟩ := hn
      have hin : ∀ i, i < m → pInner (nb (l.take m) i) = true := by
        intro i hi
        rw [nbTake hi]
        exact spn_in pInner l i (by omega)
      refine ⟨fun i hi => inner_stop (hin i hi), ?_⟩
      have n4 : nb l 0 ≠ 45 := by
        intro h
        rw [h] at h5
        exact absurd h5 (by decide)
      unfold nextT
      rw [a0, if_neg h1, if_neg h2, if_neg h3, if_neg (fun h => n4 h.1), if_pos h5, spnUpto (l.take m) r (by rw [ht]; exact hin) (stop_inner hr), ht, if_neg (by omega)]
  rw [if_neg h5] at hn
  by_cases h6 : sgn l = 0
  · rw [if_pos h6] at hn
    simp only [Prod.mk.injEq] at hn
    exact absurd hn.2.2.2 (by decide)
  rw [if_neg h6] at hn
  cases hv : num (l.take (sgn l)) with
  | none =>
    rw [hv] at hn
    simp only [Prod.mk.injEq] at hn
    exact absurd hn.2.2.2 (by decide)
  | some v =>
    rw [hv] at hn
    simp only [Prod.mk.injEq] at hn
    obtain ⟨rfl, rfl, hm, -⟩ := hn
    rw [hm] at hv h6
    by_cases h7 : nb l 0 = 45
    · have hs : sgn l = 1 + spn pDigit (l.drop 1) ∧ 0 < spn pDigit (l.drop 1) := by
        have h8 := hm
        unfold sgn at h8 ⊢
        rw [if_pos h7] at h8 ⊢
        by_cases h9 : 0 < spn pDigit (l.drop 1)
        · rw [if_pos h9]
          exact ⟨rfl, h9⟩
        · rw [if_neg h9] at h8
          omega
      have hd : ∀ i, i < m - 1 → pDigit (nb l (i + 1)) = true := by
        intro i hi
        have := spn_in pDigit (l.drop 1) i (by omega)
        rw [nb_drop, Nat.add_comm] at this
        exact this
      have hD : (l.take m ++ r).drop 1 = (l.take m).drop 1 ++ r := by rw [List.drop_append_of_le_length (by omega)]
      have hlD : ((l.take m).drop 1).length = m - 1 := by rw [List.length_drop, ht]
      have hsp : spn pDigit ((l.take m ++ r).drop 1) = m - 1 := by
        rw [hD, spnUpto _ r (by
          intro i hi
          rw [hlD] at hi
          rw [nb_drop, Nat.add_comm, nbTake (by omega)]
          exact hd i hi) (stop_digit hr), hlD]
      have hsg : sgn (l.take m ++ r) = m := by
        unfold sgn
        rw [a0, if_pos h7, hsp, if_pos (by omega)]
        omega
      have n1 : nb (l.take m ++ r) 1 ≠ 62 := by
        rw [nbLeft (by omega), nbTake (by omega)]
        have := dig_range (hd 0 (by omega))
        have h9 : 48 ≤ nb l 1 ∧ nb l 1 ≤ 57 := this
        omega
      refine ⟨?_, ?_⟩
      · intro i hi
        rw [nbTake hi]
        by_cases hz : i = 0
        · subst hz
          rw [h7]
          decide
        · have := hd (i - 1) (by omega)
          rw [Nat.sub_add_cancel (by omega)] at this
          exact digit_stop this
      · unfold nextT
        rw [a0, if_neg h1, if_neg h2, if_neg h3, if_neg (fun h => n1 h.2.2), if_neg h5, hsg, if_neg h6, List.take_append_of_le_length (by omega), List.take_take, Nat.min_self, hv]
    · have hs : sgn l = spn pDigit l := by
        unfold sgn
        rw [if_neg h7]
      have hd : ∀ i, i < m → pDigit (nb l i) = true := fun i hi => spn_in pDigit l i (by omega)
      have hsg : sgn (l.take m ++ r) = m := by
        unfold sgn
        rw [a0, if_neg h7, spnUpto _ r (by
          intro i hi
          rw [ht] at hi
          rw [nbTake hi]
          exact hd i hi) (stop_digit hr), ht]
      refine ⟨?_, ?_⟩
      · intro i hi
        rw [nbTake hi]
        exact digit_stop (hd i hi)
      · unfold nextT
        rw [a0, if_neg h1, if_neg h2, if_neg h3, if_neg (fun h => h7 h.1), if_neg h5, hsg, if_neg h6, List.take_append_of_le_length (by omega), List.take_take, Nat.min_self, hv]
/-- Blanks and whole remarks. -/
def Blk (b : List UInt8) : Prop := (∀ R, blk false (b ++ R) = blk false R + b.length) ∧ pStop (nb b 0) = true ∧ 1 ≤ b.length ∧ b.length ≤ 7
theorem toks_blank {b : List UInt8} (h : Blk b) (f : Nat) (R : List UInt8) (p : Nat) (acc : List S29) : toks (f + 1) (b ++ R) p acc = toks (f + 1) R (p + b.length) acc := by
  rw [toks_succ, toks_succ, h.1 R, Nat.add_comm (blk false R) b.length, List.drop_append, show p + (b.length + blk false R) = p + b.length + blk false R by omega]
  rw [List.drop_of_length_le (by omega), List.nil_append, Nat.add_sub_cancel_left]
theorem blk_first {l : List UInt8} (h : 0 < blk false l) : 0 < l.length ∧ pStop (nb l 0) = true := by
  have h0 : 0 < l.length := by
    have := blk_le false l
    omega
  refine ⟨h0, ?_⟩
  cases hs : pStop (nb l 0) with
  | true => rfl
  | false =>
    unfold pStop at hs
    simp only [Bool.or_eq_false_iff, beq_eq_false_iff_ne] at hs
    have := blk_stop h0 hs.1 hs.2
    omega
theorem stop_blk {l : List UInt8} (h0 : 0 < l.length) (h : pStop (nb l 0) = false) : blk false l = 0 := by
  unfold pStop at h
  simp only [Bool.or_eq_false_iff, beq_eq_false_iff_ne] at h
  exact blk_stop h0 h.1 h.2
end Go.Proofs.Ytleepjnpnbkgdaa.Lex
