/- What the laws of chapter 2 share: the chapter's example, a number from 0 to n - 1, two rows that are the same. -/
import Derived.Test.YtleepjnpnbkgdaaPx2
import Derived.Test.YtleepjnpnbkgdaaHandT
namespace Go.Proofs.Ytleepjnpnbkgdaa.Lex
open Go.RowKit Go.Proofs.Ytleepjnpnbkgdaa.P Go.Proofs.YtleepjnpnbkgdaaW.PrintWords Go.Proofs.YtleepjnpnbkgdaaW.PrintLast
theorem known_tokens : tokens (lst ⟨#[40, 97, 32, 45, 49, 41]⟩) = ([⟨1, 0, 0, ⟨#[]⟩⟩, ⟨3, 0, 1, ⟨#[97]⟩⟩, ⟨4, -1, 3, ⟨#[]⟩⟩, ⟨2, 0, 5, ⟨#[]⟩⟩], 0, 0) := by rfl
theorem known_f : thyrsuslaw2_known.f = some true := by
  unfold thyrsuslaw2_known.f lex_Tokens.f
  rw [known_tokens]
  rfl
theorem wrap_ok (n : Int) (h0 : -9223372036854775808 ≤ n) (h1 : n ≤ 9223372036854775807) : wrap64 n = n := by
  unfold wrap64
  omega
theorem i64_of {n : Int} (h : (Lit.int .i64 n).wf = true) : -9223372036854775808 ≤ n ∧ n ≤ 9223372036854775807 := by
  have h1 : IntKind.i64.min ≤ n ∧ n ≤ 9223372036854775807 := by simpa [Lit.wf] using h
  exact h1

theorem within_val {a n : Int} (ha : -9223372036854775808 ≤ a ∧ a ≤ 9223372036854775807) (h0 : 0 < n) (hn : n ≤ 4611686018427387904) : thyrsuslaw2_within.f a n = some (a % n) := by
  unfold thyrsuslaw2_within.f
  rw [if_neg (by omega)]
  have h1 := Int.emod_nonneg a (show n ≠ 0 by omega)
  have h2 := Int.emod_lt_of_pos a h0
  by_cases h : 0 ≤ a
  · rw [Int.tmod_eq_emod_of_nonneg h, if_neg (by omega)]
  · have e := Int.tmod_eq_emod (a := a) (b := n)
    by_cases hd : n ∣ a
    · rw [if_pos (.inr hd)] at e
      have h3 := Int.emod_eq_zero_of_dvd hd
      rw [if_neg (by omega)]
      simp only [Option.some.injEq]
      omega
    · rw [if_neg (by omega)] at e
      rw [if_pos (by omega)]
      simp only [Option.some.injEq]
      unfold wrap64
      omega

theorem within_ex {a n : Int} (ha : -9223372036854775808 ≤ a ∧ a ≤ 9223372036854775807) (h0 : 0 < n) (hn : n ≤ 4611686018427387904) : ∃ t : Nat, (t : Int) < n ∧ thyrsuslaw2_within.f a n = some (t : Int) := by
  have h1 := Int.emod_nonneg a (show n ≠ 0 by omega)
  have h2 := Int.emod_lt_of_pos a h0
  refine ⟨(a % n).toNat, by omega, ?_⟩
  rw [within_val ha h0 hn]
  congr 1
  omega
theorem first_r' (c : Int) : thyrsusref2_first.f c = some (pFront c) := front_f c
theorem inner_r' (c : Int) : thyrsusref2_inner.f c = some (pInner c) := by
  unfold thyrsusref2_inner.f pInner
  rw [first_r', show thyrsusref2_digit.f c = some (pDigit c) from digit_f c]
  cases pFront c <;> simp
end Go.Proofs.Ytleepjnpnbkgdaa.Lex
