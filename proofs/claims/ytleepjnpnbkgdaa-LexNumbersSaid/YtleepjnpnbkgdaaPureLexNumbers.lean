/- LexNumbers, the plain law: a number is read as it is written; beyond its bounds it is refused. No conditions but that the numbers are whole numbers of 64 bits. -/
import Derived.Test.YtleepjnpnbkgdaaPx6
import Derived.Test.YtleepjnpnbkgdaaPureD
namespace Go.Proofs.Ytleepjnpnbkgdaa.Pure
open Go.RowKit Go.Proofs.Ytleepjnpnbkgdaa.P Go.Proofs.YtleepjnpnbkgdaaW.PrintWords Go.Proofs.YtleepjnpnbkgdaaW.PrintLast Go.Proofs.Ytleepjnpnbkgdaa.Lex
theorem numbers_j2 (m : Int) (k : Nat) (hk : 40 ≤ k) (hm : -9223372036854775808 ≤ m ∧ m ≤ 9223372036854775807) : thyrsuslaw2_LexNumbers.j2 k m = some true := by
  obtain ⟨k, rfl⟩ : ∃ k', k = k' + 1 := ⟨k - 1, by omega⟩
  obtain ⟨s, D, h1, h2, h3⟩ := digits_any hm (show 30 ≤ k by omega)
  have hz := lst_len s
  have hz2 : s.size ≤ 30 := by
    have := h3.2.1
    rw [← hz, h2]
    split
    · rw [List.length_cons]
      omega
    · omega
  have ht := tokens_digits (pre := [32]) (Or.inr rfl) h2 h3
  have e : lst ((⟨#[32]⟩ : ByteArray) ++ s) = [32] ++ lst s := by rw [lst_append]; rfl
  rw [thyrsuslaw2_LexNumbers.j2, h1, Option.bind_some, if_pos (by omega)]
  unfold lex_Tokens.f
  rw [e, ht, Option.bind_some]
  by_cases hf : -4611686018427387904 ≤ m ∧ m ≤ 4611686018427387904
  · rw [if_pos hf, if_neg (by omega), if_neg (by omega)]
    simp [rd_T29, ByteArray.toList_eq]
  · rw [if_neg hf]
    by_cases hg : m > 4611686018427387904
    · rw [if_pos hg]
      simp
    · rw [if_neg hg, if_pos (by omega)]
      simp
theorem numbers_j1 (a1 a2 : Int) (k : Nat) (hk : 45 ≤ k) (w1 : -9223372036854775808 ≤ a1 ∧ a1 ≤ 9223372036854775807) (w2 : -9223372036854775808 ≤ a2 ∧ a2 ≤ 9223372036854775807) : thyrsuslaw2_LexNumbers.j1 k a1 a2 false = some true := by
  obtain ⟨k, rfl⟩ : ∃ k', k = k' + 1 := ⟨k - 1, by omega⟩
  obtain ⟨t, ht, e⟩ := within_ex w2 (n := 5) (by decide) (by decide)
  obtain ⟨u, hu, e2⟩ := within_ex w1 (n := 2) (by decide) (by decide)
  rw [thyrsuslaw2_LexNumbers.j1, if_neg (by decide), e, Option.bind_some, e2, Option.bind_some, wrap_ok (4611686018427387902 + (t : Int)) (by omega) (by omega), wrap_ok (-(4611686018427387902 + (t : Int))) (by omega) (by omega)]
  split
  · exact numbers_j2 _ k (by omega) (by omega)
  · exact numbers_j2 _ k (by omega) (by omega)
theorem LexNumbers : thyrsuslaw2_LexNumbers.Pure := by
  intro a0 a1 a2 w0 w1 w2
  have w0 := i64_of w0
  have w1 := i64_of w1
  have w2 := i64_of w2
  refine ⟨50, ?_⟩
  obtain ⟨s, D, h1, h2, h3⟩ := digits_any w0 (show 30 ≤ 50 by decide)
  have ht := tokens_digits (pre := []) (Or.inl rfl) h2 h3
  rw [List.nil_append] at ht
  have J := fun k hk => numbers_j1 a1 a2 k hk w1 w2
  unfold thyrsuslaw2_LexNumbers.f lex_Tokens.f
  rw [known_f, Option.bind_some, if_pos rfl, h1, Option.bind_some, ht, Option.bind_some]
  by_cases hf : -4611686018427387904 ≤ a0 ∧ a0 ≤ 4611686018427387904
  · rw [if_pos hf, if_neg (by omega), decide_eq_false (by omega), thyrsuslaw2_LexNumbers.j0]
    have e := J 49 (by decide)
    simp [rd_T29, e]
  · rw [if_neg hf]
    have e := J 49 (by decide)
    by_cases hg : a0 < -4611686018427387904
    · rw [if_pos hg, thyrsuslaw2_LexNumbers.j0]
      simp [e]
    · rw [if_neg hg, decide_eq_true (by omega), thyrsuslaw2_LexNumbers.j0]
      simp [e]
end Go.Proofs.Ytleepjnpnbkgdaa.Pure
