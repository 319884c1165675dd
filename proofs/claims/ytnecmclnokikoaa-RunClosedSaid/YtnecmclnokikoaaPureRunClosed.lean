/- RunClosed, the plain law: a function keeps what was known where it was made, whatever is bound where it is called. No conditions but that the numbers are whole numbers of 64 bits. -/
import Derived.Test.YtnecmclnokikoaaPureA
import Derived.Test.YtnecmclnokikoaaPx3
import Derived.Test.YtnecmclnokikoaaPx7
namespace Go.Proofs.Ytnecmclnokikoaa.Pure
open Go.RowKit Go.Proofs.Ytnecmclnokikoaa.P Go.Proofs.YtnecmclnokikoaaW.PrintWords Go.Proofs.YtnecmclnokikoaaW.PrintLast Go.Proofs.Ytnecmclnokikoaa.Run
/-- A call of a function so far ahead, with so many lets of b around it. -/
def cterm (b : Int) (n : Int) : Nat → S29
  | 0 => ⟨21, 0, [⟨1, n, []⟩, ⟨25, 1, []⟩]⟩
  | i + 1 => ⟨28, 0, [⟨25, b, []⟩, cterm b n i]⟩
def cwhole (a b : Int) (n : Nat) : S29 := ⟨28, 0, [⟨25, a, []⟩, ⟨28, 0, [⟨20, 0, [⟨15, 0, []⟩, ⟨26, 0, [⟨1, 1, []⟩, ⟨1, 0, []⟩]⟩]⟩, cterm b n n]⟩]⟩
theorem run_c0 (a b : Int) : Run.run 30 (cwhole a b 0) 5 = some (⟨1, wrap64 (a + 1), []⟩, 1, 0) := by kernel_rfl
theorem run_c1 (a b : Int) : Run.run 30 (cwhole a b 1) 5 = some (⟨1, wrap64 (a + 1), []⟩, 1, 0) := by kernel_rfl
theorem run_c2 (a b : Int) : Run.run 30 (cwhole a b 2) 5 = some (⟨1, wrap64 (a + 1), []⟩, 1, 0) := by kernel_rfl
theorem run_c3 (a b : Int) : Run.run 30 (cwhole a b 3) 5 = some (⟨1, wrap64 (a + 1), []⟩, 1, 0) := by kernel_rfl
theorem run_c4 (a b : Int) : Run.run 30 (cwhole a b 4) 5 = some (⟨1, wrap64 (a + 1), []⟩, 1, 0) := by kernel_rfl
theorem run_c5 (a b : Int) : Run.run 30 (cwhole a b 5) 5 = some (⟨1, wrap64 (a + 1), []⟩, 1, 0) := by kernel_rfl
theorem run_c6 (a b : Int) : Run.run 30 (cwhole a b 6) 5 = some (⟨1, wrap64 (a + 1), []⟩, 1, 0) := by kernel_rfl
theorem run_c7 (a b : Int) : Run.run 30 (cwhole a b 7) 5 = some (⟨1, wrap64 (a + 1), []⟩, 1, 0) := by kernel_rfl
theorem run_c8 (a b : Int) : Run.run 30 (cwhole a b 8) 5 = some (⟨1, wrap64 (a + 1), []⟩, 1, 0) := by kernel_rfl
theorem run_c9 (a b : Int) : Run.run 30 (cwhole a b 9) 5 = some (⟨1, wrap64 (a + 1), []⟩, 1, 0) := by kernel_rfl
theorem run_cwhole (a b : Int) (n : Nat) (hn : n < 10) : Run.run 30 (cwhole a b n) 5 = some (⟨1, wrap64 (a + 1), []⟩, 1, 0) := by
  have : n = 0 ∨ n = 1 ∨ n = 2 ∨ n = 3 ∨ n = 4 ∨ n = 5 ∨ n = 6 ∨ n = 7 ∨ n = 8 ∨ n = 9 := by omega
  rcases this with rfl | rfl | rfl | rfl | rfl | rfl | rfl | rfl | rfl | rfl
  · exact run_c0 a b
  · exact run_c1 a b
  · exact run_c2 a b
  · exact run_c3 a b
  · exact run_c4 a b
  · exact run_c5 a b
  · exact run_c6 a b
  · exact run_c7 a b
  · exact run_c8 a b
  · exact run_c9 a b
theorem closed_l0 (a b : Int) (n : Nat) (hn : n < 10) : ∀ (d i k : Nat), i + d = n → 31 + d ≤ k → thyrsuslaw12_RunClosed.l0 k a b (n : Int) (i : Int) 15 0 [] (cterm b n i).f0 (cterm b n i).f1 (cterm b n i).f2 = some true
  | 0, i, k, hi, hk => by
    obtain ⟨k, rfl⟩ : ∃ m, k = m + 1 := ⟨k - 1, by omega⟩
    obtain rfl : i = n := by omega
    rw [thyrsuslaw12_RunClosed.l0, if_neg (by omega)]
    have h := run_more (run_cwhole a b i hn) (k - 30)
    rw [show 30 + (k - 30) = k by omega] at h
    show (run_Run.f k 28 0 [⟨25, a, []⟩, ⟨28, 0, [⟨20, 0, [⟨15, 0, []⟩, ⟨26, 0, [⟨1, 1, []⟩, ⟨1, 0, []⟩]⟩]⟩, ⟨(cterm b i i).f0, (cterm b i i).f1, (cterm b i i).f2⟩]⟩] 5).bind _ = _
    rw [show (⟨(cterm b i i).f0, (cterm b i i).f1, (cterm b i i).f2⟩ : S29) = cterm b i i by cases cterm b i i; rfl]
    rw [show run_Run.f k 28 0 [⟨25, a, []⟩, ⟨28, 0, [⟨20, 0, [⟨15, 0, []⟩, ⟨26, 0, [⟨1, 1, []⟩, ⟨1, 0, []⟩]⟩]⟩, cterm b i i]⟩] 5 = _ from h, Option.bind_some, if_pos rfl, if_pos rfl]
    rfl
  | d + 1, i, k, hi, hk => by
    obtain ⟨k, rfl⟩ : ∃ m, k = m + 1 := ⟨k - 1, by omega⟩
    rw [thyrsuslaw12_RunClosed.l0, if_pos (by omega), wrap_ok _ (by omega) (by omega), show (i : Int) + 1 = ((i + 1 : Nat) : Int) by omega]
    show thyrsuslaw12_RunClosed.l0 k a b (n : Int) ((i + 1 : Nat) : Int) 15 0 [] 28 0 [⟨25, b, []⟩, ⟨(cterm b n i).f0, (cterm b n i).f1, (cterm b n i).f2⟩] = _
    rw [show (⟨(cterm b n i).f0, (cterm b n i).f1, (cterm b n i).f2⟩ : S29) = cterm b n i by cases cterm b n i; rfl]
    exact closed_l0 a b n hn d (i + 1) k (by omega) (by omega)
theorem RunClosed : thyrsuslaw12_RunClosed.Pure := by
  intro a0 a1 a2 w0 w1 w2
  obtain ⟨n, hn, e⟩ := within_ex (i64_of w2) (n := 10) (by decide) (by decide)
  refine ⟨20 + 30, ?_⟩
  unfold thyrsuslaw12_RunClosed.f
  rw [known_f, Option.bind_some, if_pos rfl, e, Option.bind_some]
  exact closed_l0 a0 a1 n (by omega) n 0 50 (by omega) (by omega)
end Go.Proofs.Ytnecmclnokikoaa.Pure
