/- Two rows of tokens that are the same are told to be. -/
import Derived.Test.YtleepjnpnbkgdaaPx7
import Derived.Test.YtleepjnpnbkgdaaPureC
namespace Go.Proofs.Ytleepjnpnbkgdaa.Lex
open Go.RowKit Go.Proofs.Ytleepjnpnbkgdaa.P Go.Proofs.YtleepjnpnbkgdaaW.PrintWords Go.Proofs.YtleepjnpnbkgdaaW.PrintLast
theorem same_l0 {xs : List S29} (hx : xs.length ≤ 5000) : ∀ d i k, xs.length - i ≤ d → i ≤ xs.length → d < k → thyrsuslaw2_same.l0 k xs xs (i : Int) = some true
  | d, i, k, hd, hi, hk => by
    obtain ⟨k, rfl⟩ : ∃ k', k = k' + 1 := ⟨k - 1, by omega⟩
    by_cases hlt : i < xs.length
    · obtain ⟨d, rfl⟩ : ∃ d', d = d' + 1 := ⟨d - 1, by omega⟩
      rw [thyrsuslaw2_same.l0, if_pos (by omega), if_pos (by omega), if_pos (by omega), if_neg (by simp), wrap_ok _ (by omega) (by omega)]
      exact same_l0 hx d (i + 1) k (by omega) (by omega) (by omega)
    · rw [thyrsuslaw2_same.l0, if_neg (by omega)]
theorem same_eq {xs ys : List S29} {k : Nat} (h : xs = ys) (hx : xs.length ≤ 5000) (hk : xs.length < k) : thyrsuslaw2_same.f k xs ys = some true := by
  subst h
  unfold thyrsuslaw2_same.f
  rw [if_pos rfl]
  exact same_l0 hx xs.length 0 k (by omega) (by omega) hk
theorem bind_of {α β : Type} {o : Option α} {a : α} {F : α → Option β} {b : β} (h : o = some a) (h2 : F a = some b) : o.bind F = some b := by
  rw [h]
  exact h2
end Go.Proofs.Ytleepjnpnbkgdaa.Lex
