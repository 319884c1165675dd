/- The document's tokens (the reference) are the model's: what is behind blanks; numbers. -/
import Derived.Test.YtkkmgahgejjhgaaDoorCHandT
import Derived.Test.YtkkmgahgejjhgaaDoorCPx2
namespace Go.Proofs.YtkkmgahgejjhgaaDoor.Lex
open Go.RowKit Go.Proofs.YtkkmgahgejjhgaaDoor.P Go.Proofs.YtkkmgahgejjhgaaDoorW.PrintWords Go.Proofs.YtkkmgahgejjhgaaDoorW.PrintLast
theorem digit_r (c : Int) : thyrsusref2_digit.f c = some (pDigit c) := digit_f c
theorem first_r (c : Int) : thyrsusref2_first.f c = some (pFront c) := front_f c
theorem inner_r (c : Int) : thyrsusref2_inner.f c = some (pInner c) := by
  unfold thyrsusref2_inner.f pInner
  rw [first_r, digit_r]
  cases pFront c <;> simp
/-! ### Blanks -/
theorem skip_l0 {s : ByteArray} {i : Nat} (h : i < s.size) (k : Nat) : thyrsusref2_skip.l0 (k + 1) s i = thyrsusref2_skip.j1 k s i (pBlank (nb (lst s) i)) := by
  rw [thyrsusref2_skip.l0, if_pos (by omega), if_pos (by omega), bt_nb]
  unfold pBlank
  by_cases h1 : nb (lst s) i = 32
  · rw [if_pos h1, h1]
    rfl
  · rw [if_neg h1]
    by_cases h2 : nb (lst s) i = 9
    · rw [if_pos h2, h2]
      rfl
    · rw [if_neg h2]
      by_cases h3 : nb (lst s) i = 10
      · rw [if_pos h3, h3]
        rfl
      · rw [if_neg h3]
        have e1 : (nb (lst s) i == 32) = false := by simpa using h1
        have e2 : (nb (lst s) i == 9) = false := by simpa using h2
        have e3 : (nb (lst s) i == 10) = false := by simpa using h3
        rw [e1, e2, e3]
        rfl
theorem skip_end {s : ByteArray} (k : Nat) : thyrsusref2_skip.l0 (k + 1) s (s.size : Int) = some (s.size : Int) := by
  rw [thyrsusref2_skip.l0, if_neg (by omega)]
theorem drop_size (s : ByteArray) : (lst s).drop s.size = [] := List.drop_of_length_le (by rw [lst_len]; exact Nat.le_refl _)
theorem blk_drop_f {s : ByteArray} {i : Nat} (h : i < s.size) : blk false ((lst s).drop i) = if pBlank (nb (lst s) i) = true then blk false ((lst s).drop (i + 1)) + 1 else if nb (lst s) i = 59 then blk true ((lst s).drop (i + 1)) + 1 else 0 := by
  rw [drop_cons (by rw [lst_len]; exact h), blk_f]
  rfl
theorem blk_drop_t {s : ByteArray} {i : Nat} (h : i < s.size) : blk true ((lst s).drop i) = if nb (lst s) i = 10 then blk false ((lst s).drop i) else blk true ((lst s).drop (i + 1)) + 1 := by
  have e : (((lst s).getD i 0).toNat : Int) = nb (lst s) i := rfl
  by_cases h1 : nb (lst s) i = 10
  · rw [if_pos h1, blk_drop_f h, if_pos (by rw [h1]; decide), drop_cons (by rw [lst_len]; exact h), blk_t, e, if_pos h1]
  · rw [if_neg h1, drop_cons (by rw [lst_len]; exact h), blk_t, e, if_neg h1]
theorem skip_all {s : ByteArray} (hs : s.size ≤ 4000) : ∀ d i k, s.size - i ≤ d → i ≤ s.size →
    (4 * (s.size - i) + 2 ≤ k → thyrsusref2_skip.l0 k s (i : Int) = some ((i + blk false ((lst s).drop i) : Nat) : Int)) ∧
    (4 * (s.size - i) + 3 ≤ k → thyrsusref2_skip.l1 k s (i : Int) = some ((i + blk true ((lst s).drop i) : Nat) : Int))
  | d, i, k, hd, hi => by
    by_cases hlt : i < s.size
    · obtain ⟨d, rfl⟩ : ∃ d', d = d' + 1 := ⟨d - 1, by omega⟩
      have IH := fun k => skip_all hs d (i + 1) k (by omega) (by omega)
      have e1 : wrap64 ((i : Int) + 1) = ((i + 1 : Nat) : Int) := w1 i (by omega)
      have A : ∀ k, 4 * (s.size - i) + 2 ≤ k → thyrsusref2_skip.l0 k s (i : Int) = some ((i + blk false ((lst s).drop i) : Nat) : Int) := by
        intro k hk
        obtain ⟨k, rfl⟩ : ∃ k', k = k' + 2 := ⟨k - 2, by omega⟩
        rw [skip_l0 hlt, blk_drop_f hlt]
        cases hb : pBlank (nb (lst s) i) with
        | true =>
          rw [thyrsusref2_skip.j1, if_pos rfl, e1, (IH k).1 (by omega), if_pos rfl]
          congr 2
          omega
        | false =>
          rw [thyrsusref2_skip.j1]
          simp only [Bool.false_eq_true, if_false]
          rw [if_pos (by omega), if_pos (by omega), bt_nb]
          by_cases h5 : nb (lst s) i = 59
          · rw [if_pos h5, if_pos h5]
            obtain ⟨k, rfl⟩ : ∃ k', k = k' + 1 := ⟨k - 1, by omega⟩
            rw [thyrsusref2_skip.l1, if_pos (by omega), if_pos (by omega), bt_nb, if_neg (by omega), e1, (IH k).2 (by omega)]
            congr 2
            omega
          · rw [if_neg h5, if_neg h5]
            rfl
      refine ⟨A k, fun hk => ?_⟩
      obtain ⟨k, rfl⟩ : ∃ k', k = k' + 1 := ⟨k - 1, by omega⟩
      rw [thyrsusref2_skip.l1, if_pos (by omega), if_pos (by omega), bt_nb, blk_drop_t hlt]
      by_cases h1 : nb (lst s) i = 10
      · rw [if_pos h1, if_pos h1, A k (by omega)]
      · rw [if_neg h1, if_neg h1, e1, (IH k).2 (by omega)]
        congr 2
        omega
    · obtain rfl : i = s.size := by omega
      rw [drop_size]
      refine ⟨fun hk => ?_, fun hk => ?_⟩
      · obtain ⟨k, rfl⟩ : ∃ k', k = k' + 1 := ⟨k - 1, by omega⟩
        rw [skip_end]
        rfl
      · obtain ⟨k, rfl⟩ : ∃ k', k = k' + 2 := ⟨k - 2, by omega⟩
        rw [thyrsusref2_skip.l1, if_neg (by omega), skip_end]
        rfl
theorem skip_f {s : ByteArray} (hs : s.size ≤ 4000) {i k : Nat} (hi : i ≤ s.size) (hk : 4 * (s.size - i) + 2 ≤ k) : thyrsusref2_skip.f k s (i : Int) = some ((i + blk false ((lst s).drop i) : Nat) : Int) :=
  (skip_all hs _ i k (Nat.le_refl _) hi).1 hk
/-! ### Numbers -/
theorem u64_w (n : Int) (h0 : 0 ≤ n) (h1 : n < 18446744073709551616) : IntKind.u64.wrap n = n := by
  show n % 18446744073709551616 = n
  omega
theorem wrap_id (n : Int) (h0 : -9223372036854775808 ≤ n) (h1 : n ≤ 9223372036854775807) : wrap64 n = n := by
  unfold wrap64
  omega
theorem number_l0 {s : ByteArray} (hs : s.size ≤ 4000) (b : Bool) : ∀ d i k n, s.size - i ≤ d → i ≤ s.size → s.size - i < k → (∀ j, i ≤ j → j < s.size → nb (lst s) j ≠ 45) → 0 ≤ n → n ≤ 4611686018427387904 →
    thyrsusref2_number.l0 k s n b (i : Int) = some (match numD ((lst s).drop i) n with | none => (0, false) | some v => (if b = true then -v else v, true))
  | d, i, k, n, hd, hi, hk, hj, h0, h1 => by
    obtain ⟨k, rfl⟩ : ∃ k', k = k' + 1 := ⟨k - 1, by omega⟩
    by_cases hlt : i < s.size
    · obtain ⟨d, rfl⟩ : ∃ d', d = d' + 1 := ⟨d - 1, by omega⟩
      have e1 : wrap64 ((i : Int) + 1) = ((i + 1 : Nat) : Int) := w1 i (by omega)
      rw [thyrsusref2_number.l0, if_pos (by omega), if_pos (by omega), bt_nb, if_neg (hj i (Nat.le_refl _) hlt), drop_cons (by rw [lst_len]; exact hlt), numD, e1]
      have e2 : (((lst s).getD i 0).toNat : Int) = nb (lst s) i := rfl
      rw [e2]
      have d1 : 0 ≤ (nb (lst s) i - 48) % 256 := Int.emod_nonneg _ (by decide)
      have d2 : (nb (lst s) i - 48) % 256 < 256 := Int.emod_lt_of_pos _ (by decide)
      generalize (nb (lst s) i - 48) % 256 = q at *
      by_cases hq : n > (4611686018427387904 - q) / 10
      · rw [if_pos hq, if_pos hq]
      · rw [if_neg hq, if_neg hq, u64_w (10 * n) (by omega) (by omega), u64_w _ (by omega) (by omega)]
        exact number_l0 hs b d (i + 1) k (10 * n + q) (by omega) (by omega) (by omega) (fun j a b => hj j (by omega) b) (by omega) (by omega)
    · obtain rfl : i = s.size := by omega
      rw [thyrsusref2_number.l0, if_neg (by omega), drop_size, numD]
      cases b with
      | true =>
        rw [if_pos rfl]
        rw [wrap_id n (by omega) (by omega), wrap_id (-n) (by omega) (by omega)]
        rfl
      | false =>
        rw [if_neg (by decide)]
        rw [wrap_id n (by omega) (by omega)]
        rfl
theorem number_r {s : ByteArray} (hs : s.size ≤ 4000) (h0 : 0 < s.size) {k : Nat} (hk : s.size + 1 < k) (hj : ∀ j, 1 ≤ j → j < s.size → nb (lst s) j ≠ 45) :
    thyrsusref2_number.f k s = some (match num (lst s) with | none => (0, false) | some v => (v, true)) := by
  unfold thyrsusref2_number.f num
  have e0 : bt s 0 = nb (lst s) 0 := bt_nb s 0
  rw [if_pos (by omega), e0]
  by_cases h : nb (lst s) 0 = 45
  · rw [if_pos h, h]
    obtain ⟨k, rfl⟩ : ∃ k', k = k' + 1 := ⟨k - 1, by omega⟩
    rw [thyrsusref2_number.l0, if_pos (by omega), if_pos (by decide), e0, if_pos h]
    have := number_l0 hs true _ 1 k 0 (Nat.le_refl _) (by omega) (by omega) hj (by decide) (by decide)
    rw [show ((45 : Int) == 45) = true from rfl, show wrap64 (0 + 1) = ((1 : Nat) : Int) from (wrap_id (0 + 1) (by decide) (by decide)).trans rfl, this]
    cases numD ((lst s).drop 1) 0 <;> rfl
  · rw [if_neg h]
    have e : (nb (lst s) 0 == 45) = false := by simpa using h
    rw [e]
    have := number_l0 hs false _ 0 k 0 (Nat.le_refl _) (by omega) (by omega) (fun j a b => by
      by_cases hz : j = 0
      · subst hz
        exact h
      · exact hj j (by omega) b) (by decide) (by decide)
    refine Eq.trans this ?_
    rw [List.drop_zero]
    cases numD (lst s) 0 <;> rfl
end Go.Proofs.YtkkmgahgejjhgaaDoor.Lex
