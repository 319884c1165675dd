-- Printed by mkprint.py (a program of this session, over the kit's print). Lean checks it.
import Derived.Test.YtfbjdfgadhlhlaaPx0
import Derived.Test.YtfbjdfgadhlhlaaPx1
import Derived.Test.YtfbjdfgadhlhlaaPx2
import Derived.Test.YtfbjdfgadhlhlaaPx4
import Derived.Test.YtfbjdfgadhlhlaaHandF
namespace Go.Proofs.Ytfbjdfgadhlhlaa.P
open Go.RowKit Go.Proofs.YtfbjdfgadhlhlaaW.PrintWords Go.Proofs.YtfbjdfgadhlhlaaW.PrintLast Go.Proofs.YtfbjdfgadhlhlaaW.PrintMore
attribute [local go_sem] max2_int min2_int max_two min_two max_three min_three max_four min_four   -- for this text's walks alone
set_option linter.unusedVariables false
set_option linter.unusedSimpArgs false

/-! ### thyrsuslaw1_CodeUnlike: function 4 -/
def thyrsuslaw1_CodeUnlike.j0 : Nat → Bool → Int → Int → List (S24) → Int → Int → List (S24) → Option (Bool)
  | 0, _, _, _, _, _, _, _ => none
  | k + 1, x16, x143000, x143001, x143002, x144000, x144001, x144002 => if x16 = true then (some true) else ((thyrsuslaw1_Plain.f k x143000 x143001 x143002).bind fun bt147 => ((thyrsuslaw1_Plain.f k x144000 x144001 x144002).bind fun bt152 => ((code_Bytes.f bt147.1 bt147.2.1 bt147.2.2).bind fun t159 => ((code_Bytes.f bt152.1 bt152.2.1 bt152.2.2).bind fun t162 => ((thyrsusref4_Same.f k bt147.1 bt147.2.1 bt147.2.2 bt152.1 bt152.2.1 bt152.2.2).bind fun t165 => (some (((strOfNums t159).toList == (strOfNums t162).toList) == t165)))))))
def thyrsuslaw1_CodeUnlike.f (k : Nat) (a0_0 : Int) (a0_1 : Int) (l0_2 : List (S24)) (a1_0 : Int) (a1_1 : Int) (l1_2 : List (S24)) : Option (Bool) := (thyrsuslaw1_known.f).bind fun t144 => (if t144 = true then ((thyrsuslaw1_Few.f k a0_0 a0_1 l0_2).bind fun t145 => (if t145 = true then ((thyrsuslaw1_Few.f k a1_0 a1_1 l1_2).bind fun t146 => (thyrsuslaw1_CodeUnlike.j0 k (!t146) a0_0 a0_1 l0_2 a1_0 a1_1 l1_2)) else (thyrsuslaw1_CodeUnlike.j0 k true a0_0 a0_1 l0_2 a1_0 a1_1 l1_2))) else (none))
theorem thyrsuslaw1_CodeUnlike.mono_l : ∀ k, (∀ y0 y1 y2 y3 y4 y5 y6, LeO (thyrsuslaw1_CodeUnlike.j0 k y0 y1 y2 y3 y4 y5 y6) (thyrsuslaw1_CodeUnlike.j0 (k + 1) y0 y1 y2 y3 y4 y5 y6))
  | 0 => fun _ _ _ _ _ _ _ r h => by simp [thyrsuslaw1_CodeUnlike.j0] at h
  | k + 1 => by
    have ih0 := thyrsuslaw1_CodeUnlike.mono_l k
    · intro y0 y1 y2 y3 y4 y5 y6
      unfold thyrsuslaw1_CodeUnlike.j0
      repeat' first
      | (with_reducible exact ih0 _ _ _ _ _ _ _)
      | (with_reducible exact thyrsuslaw1_Few.mono _ _ _ _)
      | (with_reducible exact thyrsuslaw1_Plain.mono _ _ _ _)
      | (with_reducible exact thyrsusref4_Same.mono _ _ _ _ _ _ _)
      | (with_reducible exact LeO.refl _)
      | (with_reducible exact LeO.none _)
      | (with_reducible refine LeO.ite ?_ ?_)
      | (with_reducible refine LeO.bind ?_ (fun _ => ?_))
      | exact ih0 _ _ _ _ _ _ _
      | exact thyrsuslaw1_Few.mono _ _ _ _
      | exact thyrsuslaw1_Plain.mono _ _ _ _
      | exact thyrsusref4_Same.mono _ _ _ _ _ _ _
      | exact LeO.none _
      | refine LeO.ite ?_ ?_
      | refine LeO.bind ?_ (fun _ => ?_)
theorem thyrsuslaw1_CodeUnlike.mono : ∀ a0 a1 a2 a3 a4 a5 k, LeO (thyrsuslaw1_CodeUnlike.f k a0 a1 a2 a3 a4 a5) (thyrsuslaw1_CodeUnlike.f (k + 1) a0 a1 a2 a3 a4 a5) := by
  intro a0 a1 a2 a3 a4 a5 k
  have ih0 := thyrsuslaw1_CodeUnlike.mono_l k
  unfold thyrsuslaw1_CodeUnlike.f
  repeat' first
      | (with_reducible exact ih0 _ _ _ _ _ _ _)
      | (with_reducible exact thyrsuslaw1_Few.mono _ _ _ _)
      | (with_reducible exact thyrsuslaw1_Plain.mono _ _ _ _)
      | (with_reducible exact thyrsusref4_Same.mono _ _ _ _ _ _ _)
      | (with_reducible exact LeO.refl _)
      | (with_reducible exact LeO.none _)
      | (with_reducible refine LeO.ite ?_ ?_)
      | (with_reducible refine LeO.bind ?_ (fun _ => ?_))
      | exact ih0 _ _ _ _ _ _ _
      | exact thyrsuslaw1_Few.mono _ _ _ _
      | exact thyrsuslaw1_Plain.mono _ _ _ _
      | exact thyrsusref4_Same.mono _ _ _ _ _ _ _
      | exact LeO.none _
      | refine LeO.ite ?_ ?_
      | refine LeO.bind ?_ (fun _ => ?_)
def thyrsuslaw1_CodeUnlike.T5 : Bool × List (List Nat × List Nat) := (true, [([], []), ([0], [0]), ([], []), ([2, 1], [2]), ([], []), ([], []), ([4, 1, 3, 0, 1, 4, 5], [1, 4]), ([5, 3, 6, 0, 1, 2, 3, 4, 5, 6], [3, 5])])
def thyrsuslaw1_CodeUnlike.B5 : List Nat := [0, 1, 0, 7, 0, 0, 63, 127]
theorem thyrsuslaw1_CodeUnlike.tab5 : rtab .any (opsOf Try.f4 5) = thyrsuslaw1_CodeUnlike.T5 := by kernel_rfl
theorem thyrsuslaw1_CodeUnlike.bits5 : waitsOk thyrsuslaw1_CodeUnlike.T5.2 thyrsuslaw1_CodeUnlike.B5 = true := by kernel_rfl
def thyrsuslaw1_CodeUnlike.T6 : Bool × List (List Nat × List Nat) := (true, [([], []), ([0], [0]), ([1], [1]), ([], []), ([3, 1], [3]), ([4], [4]), ([2, 5], [2, 5]), ([], []), ([], []), ([7, 8, 4], [7, 8]), ([6, 9], [6, 9]), ([10, 9, 0, 1, 2, 3, 4, 5, 6, 7, 8, 9, 10], [10])])
def thyrsuslaw1_CodeUnlike.B6 : List Nat := [0, 1, 3, 0, 11, 27, 63, 0, 0, 411, 1023, 2047]
theorem thyrsuslaw1_CodeUnlike.tab6 : rtab .any (opsOf Try.f4 6) = thyrsuslaw1_CodeUnlike.T6 := by kernel_rfl
theorem thyrsuslaw1_CodeUnlike.bits6 : waitsOk thyrsuslaw1_CodeUnlike.T6.2 thyrsuslaw1_CodeUnlike.B6 = true := by kernel_rfl
end Go.Proofs.Ytfbjdfgadhlhlaa.P
