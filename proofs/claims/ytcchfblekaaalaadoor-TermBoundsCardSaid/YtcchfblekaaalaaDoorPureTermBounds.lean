/- TermBounds, the plain law: each number of a term at its bound, and beyond it; terms as great as may be, and greater ones. No conditions but that the numbers are whole numbers of 64 bits. -/
import Derived.Test.YtcchfblekaaalaaDoorPureA
import Derived.Test.YtcchfblekaaalaaDoorTB
namespace Go.Proofs.YtcchfblekaaalaaDoor.Pure
open Go.RowKit Go.Proofs.YtcchfblekaaalaaDoor.P Go.Proofs.YtcchfblekaaalaaDoorW.PrintWords Go.Proofs.YtcchfblekaaalaaDoorW.PrintLast Go.Proofs.YtcchfblekaaalaaDoor.Run
theorem chk_leaf (d : Nat) (op n : Int) (h : kidsOf op = 0) : (chk (d + 1) ⟨op, n, []⟩ 0).2 = if numOk op n = true then 0 else 1 := by
  rw [chk, if_neg (by decide)]
  by_cases hn : numOk op n = true
  · rw [if_neg (by rw [h, hn]; simp), if_pos hn]
    rfl
  · rw [if_pos (Or.inr (by simpa using hn)), if_neg hn]
theorem chk_two (d : Nat) (n : Int) : (chk (d + 2) ⟨26, n, [⟨11, 0, []⟩, ⟨11, 0, []⟩]⟩ 0).2 = if numOk 26 n = true then 0 else 1 := by
  rw [chk, if_neg (by decide)]
  by_cases hn : numOk 26 n = true
  · rw [if_neg (by rw [hn]; simp; decide), if_pos hn]
    rfl
  · rw [if_pos (Or.inr (by simpa using hn)), if_neg hn]
/-- Zero, with so many Suc around it. -/
def sucs : Nat → S29
  | 0 => ⟨11, 0, []⟩
  | m + 1 => ⟨12, 0, [sucs m]⟩
theorem chk_sucs : ∀ (m d : Nat) (n : Int), 0 ≤ n → n + m + 1 ≤ 3000 → (chk d (sucs m) n).2 = if m < d then 0 else 5
  | _, 0, n, h0, h1 => by
    rw [if_neg (by omega)]
    rfl
  | 0, d + 1, n, h0, h1 => by
    rw [if_pos (by omega), sucs, chk, if_neg (by omega), if_neg (by decide)]
    rfl
  | m + 1, d + 1, n, h0, h1 => by
    have ih := chk_sucs m d (n + 1) (by omega) (by omega)
    rw [sucs, chk, if_neg (by omega), if_neg (by show ¬ (kidsOf 12 ≠ ((1 : Nat) : Int) ∨ numOk 12 0 = false); decide)]
    show (chkAll (chk d) [sucs m] (n + 1)).2 = _
    rw [chkAll]
    by_cases hm : m < d
    · rw [if_pos hm] at ih
      rw [if_neg (by rw [ih]; decide), if_pos (by omega)]
      rfl
    · rw [if_neg hm] at ih
      rw [if_pos (by rw [ih]; decide), ih, if_neg (by omega)]
theorem sucs_loop (x7 : Int) (t : Nat) (ht : t < 9) (hw : thyrsuslaw4_within.f x7 9 = some (t : Int)) : ∀ (d i k : Nat), i + d = 119 + t → d + 1 ≤ k → thyrsuslaw4_TermBounds.l0 k x7 ((i + 1 : Nat) : Int) (sucs i).f0 (sucs i).f1 (sucs i).f2 = some true
  | 0, i, k, hi, hk => by
    obtain ⟨k, rfl⟩ : ∃ k', k = k' + 1 := ⟨k - 1, by omega⟩
    rw [thyrsuslaw4_TermBounds.l0, hw, Option.bind_some, wrap_ok _ (by omega) (by omega), if_neg (by omega), Option.bind_some]
    have e : term_Check.f (sucs i).f0 (sucs i).f1 (sucs i).f2 = some (if i < 120 then 0 else 5) := by
      obtain ⟨f, hf⟩ : ∃ f, f = 120 := ⟨_, rfl⟩
      unfold term_Check.f
      rw [← hf, show (⟨(sucs i).f0, (sucs i).f1, (sucs i).f2⟩ : S29) = sucs i by cases sucs i; rfl, chk_sucs i f 0 (by omega) (by omega)]
    rw [e, Option.bind_some]
    by_cases h : (t : Int) > 0
    · rw [if_pos h, if_pos (by rw [if_neg (by omega)])]
    · rw [if_neg h, if_pos (by omega)]
      rfl
  | d + 1, i, k, hi, hk => by
    obtain ⟨k, rfl⟩ : ∃ k', k = k' + 1 := ⟨k - 1, by omega⟩
    rw [thyrsuslaw4_TermBounds.l0, hw, Option.bind_some, wrap_ok _ (by omega) (by omega), if_pos (by omega), wrap_ok _ (by omega) (by omega), show ((i + 1 : Nat) : Int) + 1 = ((i + 1 + 1 : Nat) : Int) by omega]
    rw [show (⟨(sucs i).f0, (sucs i).f1, (sucs i).f2⟩ : S29) = sucs i by cases sucs i; rfl]
    exact sucs_loop x7 t ht hw d (i + 1) k (by omega) (by omega)
theorem check_leaf (op n : Int) (h : kidsOf op = 0) : term_Check.f op n [] = some (if numOk op n = true then 0 else 1) := congrArg some (chk_leaf 119 op n h)
theorem check_two (n : Int) : term_Check.f 26 n [⟨11, 0, []⟩, ⟨11, 0, []⟩] = some (if numOk 26 n = true then 0 else 1) := congrArg some (chk_two 118 n)
theorem bounds_j0 (a0 x : Int) (ab : Bool) (w0 : -9223372036854775808 ≤ a0 ∧ a0 ≤ 9223372036854775807) (hx : if ab = true then 1 ≤ x ∧ x ≤ 1000 else x = 0) : thyrsuslaw4_TermBounds.j0 200 a0 ab x = some true := by
  obtain ⟨t, ht, e⟩ := within_ex w0 (n := 9) (by decide) (by decide)
  rw [show (200 : Nat) = 199 + 1 from rfl, thyrsuslaw4_TermBounds.j0, e, Option.bind_some]
  have hr : 0 ≤ x ∧ x ≤ 1000 := by
    cases ab <;> simp at hx <;> omega
  have fin : ∀ (q : Bool), (q = true ↔ ab = false) → ((some (if q = true then (0 : Int) else 1)).bind fun t126 => (if ab = true then (if t126 = 1 then (some true) else (none)) else (some (t126 == 0)))) = some true := by
    intro q hq
    cases ab <;> cases q <;> simp at hq ⊢
  have hab : ab = false ↔ x = 0 := by
    cases ab <;> simp at hx <;> simp <;> omega
  have hc : t = 0 ∨ t = 1 ∨ t = 2 ∨ t = 3 ∨ t = 4 ∨ t = 5 ∨ t = 6 ∨ t = 7 ∨ t = 8 := by omega
  rcases hc with rfl | rfl | rfl | rfl | rfl | rfl | rfl | rfl | rfl
  · rw [if_pos (by decide), wrap_ok _ (by omega) (by omega), check_leaf 1 _ (by decide)]
    refine fin _ ?_
    rw [hab]
    simp [numOk]
    omega
  · rw [if_neg (by decide), if_pos (by decide), wrap_ok _ (by omega) (by omega), check_leaf 1 _ (by decide)]
    refine fin _ ?_
    rw [hab]
    simp [numOk]
    omega
  · rw [if_neg (by decide), if_neg (by decide), if_pos (by decide), wrap_ok _ (by omega) (by omega), check_leaf 2 _ (by decide)]
    refine fin _ ?_
    rw [hab]
    simp [numOk]
    omega
  · rw [if_neg (by decide), if_neg (by decide), if_neg (by decide), if_pos (by decide), wrap_ok _ (by omega) (by omega), check_leaf 2 _ (by decide)]
    refine fin _ ?_
    rw [hab]
    simp [numOk]
    omega
  · rw [if_neg (by decide), if_neg (by decide), if_neg (by decide), if_neg (by decide), if_pos (by decide), wrap_ok _ (by omega) (by omega), check_two]
    refine fin _ ?_
    rw [hab]
    simp [numOk]
    omega
  · rw [if_neg (by decide), if_neg (by decide), if_neg (by decide), if_neg (by decide), if_neg (by decide), if_pos (by decide), wrap_ok _ (by omega) (by omega), check_two]
    refine fin _ ?_
    rw [hab]
    simp [numOk]
    omega
  · rw [if_neg (by decide), if_neg (by decide), if_neg (by decide), if_neg (by decide), if_neg (by decide), if_neg (by decide), if_pos (by decide), check_leaf 10 _ (by decide)]
    refine fin _ ?_
    rw [hab]
    simp [numOk]
  · rw [if_neg (by decide), if_neg (by decide), if_neg (by decide), if_neg (by decide), if_neg (by decide), if_neg (by decide), if_neg (by decide), if_pos (by decide)]
    obtain ⟨u, hu, eu⟩ := within_ex (a := x) (by omega) (n := 9) (by decide) (by decide)
    exact sucs_loop x u (by omega) eu (119 + u) 0 199 (by omega) (by omega)
  · rw [if_neg (by decide), if_neg (by decide), if_neg (by decide), if_neg (by decide), if_neg (by decide), if_neg (by decide), if_neg (by decide), if_neg (by decide), if_pos (by decide)]
    have e1 : term_Check.f 11 0 [⟨11, 0, []⟩] = some 1 := congrArg some (show (chk (119 + 1) ⟨11, 0, [⟨11, 0, []⟩]⟩ 0).2 = 1 by rw [chk, if_neg (by decide), if_pos (by decide)])
    have e2 : term_Check.f 11 0 [] = some 0 := by rw [check_leaf 11 0 (by decide)]; rfl
    cases ab
    · rw [if_neg (by decide), e2]
      rfl
    · rw [if_pos (by decide), e1]
      rfl
theorem TermBounds : thyrsuslaw4_TermBounds.Pure := by
  intro a0 a1 a2 w0 w2
  refine ⟨200, ?_⟩
  unfold thyrsuslaw4_TermBounds.f
  rw [known_k (by decide), Option.bind_some, if_pos rfl]
  cases a1
  · rw [if_neg (by decide)]
    exact bounds_j0 a0 0 false (i64_of w0) (by simp)
  · rw [if_pos rfl]
    obtain ⟨t, ht, e⟩ := within_ex (i64_of w2) (n := 1000) (by decide) (by decide)
    rw [e, Option.bind_some, wrap_ok _ (by omega) (by omega)]
    exact bounds_j0 a0 (1 + t) true (i64_of w0) (by simp; omega)
end Go.Proofs.YtcchfblekaaalaaDoor.Pure
