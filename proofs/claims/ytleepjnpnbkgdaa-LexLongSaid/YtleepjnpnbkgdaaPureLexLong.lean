/- LexLong, the plain law: four thousand bytes may be, more may not, whatever they are. No conditions but that the numbers are whole numbers of 64 bits. -/
import Derived.Test.YtleepjnpnbkgdaaPx8
import Derived.Test.YtleepjnpnbkgdaaPureE
import Derived.Test.YtleepjnpnbkgdaaPureF
namespace Go.Proofs.Ytleepjnpnbkgdaa.Pure
open Go.RowKit Go.Proofs.Ytleepjnpnbkgdaa.P Go.Proofs.YtleepjnpnbkgdaaW.PrintWords Go.Proofs.YtleepjnpnbkgdaaW.PrintLast Go.Proofs.Ytleepjnpnbkgdaa.Lex
def fives : List ByteArray := [(⟨#[32]⟩ : ByteArray), (⟨#[40]⟩ : ByteArray), (⟨#[97]⟩ : ByteArray), (⟨#[49, 32]⟩ : ByteArray), (⟨#[33]⟩ : ByteArray)]
theorem fives_ok : ∀ t : Nat, t < 5 → 1 ≤ (rdOf ByteArray.empty fives (t : Int)).size ∧ (rdOf ByteArray.empty fives (t : Int)).size ≤ 2 := by
  intro t ht
  have : t = 0 ∨ t = 1 ∨ t = 2 ∨ t = 3 ∨ t = 4 := by omega
  rcases this with rfl | rfl | rfl | rfl | rfl <;> exact ⟨by decide, by decide⟩
theorem long_l0 (c : Nat) (hc : Aside0 (4005 ≤ c)) (n : Nat) (hn : Aside0 (n ≤ 4010)) (a1 : Int) (w1 : -9223372036854775808 ≤ a1 ∧ a1 ≤ 9223372036854775807) : ∀ (d k : Nat) (s : ByteArray), n - s.size ≤ d → s.size ≤ n + 2 → d + c ≤ k → thyrsuslaw2_LexLong.l0 k (n : Int) a1 s = some true
  | d, k, s, hd, hs, hk => by
    obtain ⟨k, rfl⟩ : ∃ k', k = k' + 1 := ⟨k - 1, by have := hc.out; omega⟩
    have hn' := hn.out
    rw [thyrsuslaw2_LexLong.l0]
    by_cases h : s.size < n
    · obtain ⟨d, rfl⟩ : ∃ d', d = d' + 1 := ⟨d - 1, by omega⟩
      obtain ⟨t, ht, e⟩ := within_ex w1 (n := 5) (by decide) (by decide)
      obtain ⟨p1, p2⟩ := fives_ok t (by omega)
      rw [if_pos (by omega), Option.bind_some, e, Option.bind_some, if_pos (by omega), if_pos (by show (t : Int) < 5; omega)]
      rw [show ([(⟨#[32]⟩ : ByteArray), (⟨#[40]⟩ : ByteArray), (⟨#[97]⟩ : ByteArray), (⟨#[49, 32]⟩ : ByteArray), (⟨#[33]⟩ : ByteArray)] : List ByteArray) = fives from rfl]
      generalize rdOf ByteArray.empty fives (t : Int) = q at *
      have hz : (s ++ q).size = s.size + q.size := ByteArray.size_append
      rw [if_pos (by omega)]
      exact long_l0 c hc n hn a1 w1 d k (s ++ q) (by omega) (by omega) (by omega)
    · rw [if_neg (by omega), if_pos (by omega), if_pos (by omega), Int.toNat_natCast]
      have hl : (lst (s.extract 0 n)).length = n := by
        rw [lst_len, ByteArray.size_extract]
        omega
      unfold lex_Tokens.f
      rw [Option.bind_some]
      by_cases hg : n > 4000
      · have ht : tokens (lst (s.extract 0 n)) = ([], 0, 4) := by
          unfold tokens
          rw [if_pos (by omega)]
        rw [ht, if_pos (by omega)]
        rfl
      · have hc' := hc.out
        have hc := tokens_count (lst (s.extract 0 n))
        rw [if_neg (by omega)]
        unfold thyrsusref2_Tokens.f
        rw [Option.bind_some, same_eq rfl (by omega) (by omega), Option.bind_some, if_pos rfl, if_pos rfl]
        simp
theorem LexLong : thyrsuslaw2_LexLong.Pure := by
  intro a0 a1 w0 w1
  have w0 := i64_of w0
  have w1 := i64_of w1
  obtain ⟨t, ht, e⟩ := within_ex w0 (n := 11) (by decide) (by decide)
  refine ⟨10000, ?_⟩
  unfold thyrsuslaw2_LexLong.f
  rw [known_f, Option.bind_some, if_pos rfl, e, Option.bind_some, wrap_ok _ (by omega) (by omega), show (3995 : Int) + (t : Int) = ((3995 + t : Nat) : Int) by omega]
  exact long_l0 5000 ⟨by omega⟩ (3995 + t) ⟨by omega⟩ a1 w1 4010 10000 ⟨#[]⟩ (by omega) (Nat.zero_le _) (by omega)
end Go.Proofs.Ytleepjnpnbkgdaa.Pure
