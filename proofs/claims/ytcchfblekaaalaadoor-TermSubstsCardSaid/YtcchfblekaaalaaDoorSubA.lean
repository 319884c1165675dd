-- Printed by mkprint.py (a program of this session, over the kit's print). Lean checks it.
import Derived.Test.YtcchfblekaaalaaDoorPx0
import Derived.Test.YtcchfblekaaalaaDoorQx1
import Derived.Test.YtcchfblekaaalaaDoorQx3
import Derived.Test.YtcchfblekaaalaaDoorQx6
import Derived.Test.YtcchfblekaaalaaDoorHandShift
import Derived.Test.YtcchfblekaaalaaDoorHandSubst
import Derived.Test.YtcchfblekaaalaaDoorPx1
namespace Go.Proofs.YtcchfblekaaalaaDoor.P
open Go.RowKit Go.Proofs.YtcchfblekaaalaaDoorW.PrintWords Go.Proofs.YtcchfblekaaalaaDoorW.PrintLast Go.Proofs.YtcchfblekaaalaaDoorW.PrintMore
attribute [local go_sem] max2_int min2_int max_two min_two max_three min_three max_four min_four   -- for this text's walks alone
set_option linter.unusedVariables false
set_option linter.unusedSimpArgs false

/-! ### thyrsuslaw4_TermSubsts: function 5 -/
def thyrsuslaw4_TermSubsts.j0 : Nat → Int → Bool → Int → Int → List (S24) → Int → Int → List (S24) → Int → Int → List (S24) → Option (Bool)
  | 0, _, _, _, _, _, _, _, _, _, _, _ => none
  | k + 1, x3, x30, x403000, x403001, x403002, x404000, x404001, x404002, x405000, x405001, x405002 => if x30 = true then (some true) else ((thyrsuslaw1_Make.f k x403000 x403001 x403002 5 4).bind fun bt409 => ((thyrsuslaw1_Make.f k x404000 x404001 x404002 3 3).bind fun bt414 => ((thyrsuslaw1_Make.f k x405000 x405001 x405002 3 3).bind fun bt419 => ((thyrsuslaw4_within.f x3 4).bind fun t427 => ((term_Shift.f k bt414.1 bt414.2.1 bt414.2.2 1 0).bind fun bt428 => ((term_Subst.f k bt409.1 bt409.2.1 bt409.2.2 0 bt428.1 bt428.2.1 bt428.2.2).bind fun bt433 => ((term_Subst.f k bt433.1 bt433.2.1 bt433.2.2 0 bt419.1 bt419.2.1 bt419.2.2).bind fun bt438 => ((term_Shift.f k bt419.1 bt419.2.1 bt419.2.2 1 0).bind fun bt444 => ((term_Subst.f k bt409.1 bt409.2.1 bt409.2.2 1 bt444.1 bt444.2.1 bt444.2.2).bind fun bt449 => ((term_Subst.f k bt449.1 bt449.2.1 bt449.2.2 0 bt414.1 bt414.2.1 bt414.2.2).bind fun bt454 => ((term_Subst.f k bt409.1 bt409.2.1 bt409.2.2 0 bt414.1 bt414.2.1 bt414.2.2).bind fun bt460 => ((term_Shift.f k bt460.1 bt460.2.1 bt460.2.2 t427 0).bind fun bt465 => ((term_Shift.f k bt409.1 bt409.2.1 bt409.2.2 t427 1).bind fun bt471 => ((term_Shift.f k bt414.1 bt414.2.1 bt414.2.2 t427 0).bind fun bt476 => ((term_Subst.f k bt471.1 bt471.2.1 bt471.2.2 0 bt476.1 bt476.2.1 bt476.2.2).bind fun bt481 => ((thyrsusref4_Same.f k bt438.1 bt438.2.1 bt438.2.2 bt454.1 bt454.2.1 bt454.2.2).bind fun t487 => (if t487 = true then ((thyrsusref4_Same.f k bt465.1 bt465.2.1 bt465.2.2 bt481.1 bt481.2.1 bt481.2.2).bind fun t488 => (some t488)) else (none))))))))))))))))))
def thyrsuslaw4_TermSubsts.f (k : Nat) (a0_0 : Int) (a0_1 : Int) (l0_2 : List (S24)) (a1_0 : Int) (a1_1 : Int) (l1_2 : List (S24)) (a2_0 : Int) (a2_1 : Int) (l2_2 : List (S24)) (a3 : Int) : Option (Bool) := (thyrsuslaw4_known.f k).bind fun t405 => (if t405 = true then ((thyrsuslaw1_Few.f k a0_0 a0_1 l0_2).bind fun t406 => (if t406 = true then ((thyrsuslaw1_Few.f k a1_0 a1_1 l1_2).bind fun t407 => (if t407 = true then ((thyrsuslaw1_Few.f k a2_0 a2_1 l2_2).bind fun t408 => (thyrsuslaw4_TermSubsts.j0 k a3 (!t408) a0_0 a0_1 l0_2 a1_0 a1_1 l1_2 a2_0 a2_1 l2_2)) else (thyrsuslaw4_TermSubsts.j0 k a3 true a0_0 a0_1 l0_2 a1_0 a1_1 l1_2 a2_0 a2_1 l2_2))) else (thyrsuslaw4_TermSubsts.j0 k a3 true a0_0 a0_1 l0_2 a1_0 a1_1 l1_2 a2_0 a2_1 l2_2))) else (none))
theorem thyrsuslaw4_TermSubsts.mono_l : ∀ k, (∀ y0 y1 y2 y3 y4 y5 y6 y7 y8 y9 y10, LeO (thyrsuslaw4_TermSubsts.j0 k y0 y1 y2 y3 y4 y5 y6 y7 y8 y9 y10) (thyrsuslaw4_TermSubsts.j0 (k + 1) y0 y1 y2 y3 y4 y5 y6 y7 y8 y9 y10))
  | 0 => fun _ _ _ _ _ _ _ _ _ _ _ r h => by simp [thyrsuslaw4_TermSubsts.j0] at h
  | k + 1 => by
    have ih0 := thyrsuslaw4_TermSubsts.mono_l k
    · intro y0 y1 y2 y3 y4 y5 y6 y7 y8 y9 y10
      unfold thyrsuslaw4_TermSubsts.j0
      repeat' first
      | (with_reducible exact ih0 _ _ _ _ _ _ _ _ _ _ _)
      | (with_reducible exact term_Shift.mono _ _ _ _ _ _)
      | (with_reducible exact term_Subst.mono _ _ _ _ _ _ _ _)
      | (with_reducible exact thyrsuslaw1_Few.mono _ _ _ _)
      | (with_reducible exact thyrsuslaw1_Make.mono _ _ _ _ _ _)
      | (with_reducible exact thyrsuslaw4_known.mono _)
      | (with_reducible exact thyrsusref4_Same.mono _ _ _ _ _ _ _)
      | (with_reducible exact LeO.refl _)
      | (with_reducible exact LeO.none _)
      | (with_reducible refine LeO.ite ?_ ?_)
      | (with_reducible refine LeO.bind ?_ (fun _ => ?_))
      | exact ih0 _ _ _ _ _ _ _ _ _ _ _
      | exact term_Shift.mono _ _ _ _ _ _
      | exact term_Subst.mono _ _ _ _ _ _ _ _
      | exact thyrsuslaw1_Few.mono _ _ _ _
      | exact thyrsuslaw1_Make.mono _ _ _ _ _ _
      | exact thyrsuslaw4_known.mono _
      | exact thyrsusref4_Same.mono _ _ _ _ _ _ _
      | exact LeO.none _
      | refine LeO.ite ?_ ?_
      | refine LeO.bind ?_ (fun _ => ?_)
theorem thyrsuslaw4_TermSubsts.mono : ∀ a0 a1 a2 a3 a4 a5 a6 a7 a8 a9 k, LeO (thyrsuslaw4_TermSubsts.f k a0 a1 a2 a3 a4 a5 a6 a7 a8 a9) (thyrsuslaw4_TermSubsts.f (k + 1) a0 a1 a2 a3 a4 a5 a6 a7 a8 a9) := by
  intro a0 a1 a2 a3 a4 a5 a6 a7 a8 a9 k
  have ih0 := thyrsuslaw4_TermSubsts.mono_l k
  unfold thyrsuslaw4_TermSubsts.f
  repeat' first
      | (with_reducible exact ih0 _ _ _ _ _ _ _ _ _ _ _)
      | (with_reducible exact term_Shift.mono _ _ _ _ _ _)
      | (with_reducible exact term_Subst.mono _ _ _ _ _ _ _ _)
      | (with_reducible exact thyrsuslaw1_Few.mono _ _ _ _)
      | (with_reducible exact thyrsuslaw1_Make.mono _ _ _ _ _ _)
      | (with_reducible exact thyrsuslaw4_known.mono _)
      | (with_reducible exact thyrsusref4_Same.mono _ _ _ _ _ _ _)
      | (with_reducible exact LeO.refl _)
      | (with_reducible exact LeO.none _)
      | (with_reducible refine LeO.ite ?_ ?_)
      | (with_reducible refine LeO.bind ?_ (fun _ => ?_))
      | exact ih0 _ _ _ _ _ _ _ _ _ _ _
      | exact term_Shift.mono _ _ _ _ _ _
      | exact term_Subst.mono _ _ _ _ _ _ _ _
      | exact thyrsuslaw1_Few.mono _ _ _ _
      | exact thyrsuslaw1_Make.mono _ _ _ _ _ _
      | exact thyrsuslaw4_known.mono _
      | exact thyrsusref4_Same.mono _ _ _ _ _ _ _
      | exact LeO.none _
      | refine LeO.ite ?_ ?_
      | refine LeO.bind ?_ (fun _ => ?_)
def thyrsuslaw4_TermSubsts.T5 : Bool × List (List Nat × List Nat) := (true, [([], []), ([0], [0]), ([], []), ([2, 1], [2]), ([], []), ([4, 3], [4]), ([], []), ([], []), ([], []), ([6, 1, 5, 0, 1, 6, 7, 8], [1, 6]), ([7, 3, 9, 0, 1, 2, 3, 6, 7, 8, 9], [3, 7]), ([8, 5, 10, 0, 1, 2, 3, 4, 5, 6, 7, 8, 9, 10], [5, 8])])
def thyrsuslaw4_TermSubsts.B5 : List Nat := [0, 1, 0, 7, 0, 31, 0, 0, 0, 511, 1023, 2047]
theorem thyrsuslaw4_TermSubsts.tab5 : rtab .any (opsOf Tryd.f5 5) = thyrsuslaw4_TermSubsts.T5 := by kernel_rfl
theorem thyrsuslaw4_TermSubsts.bits5 : waitsOk thyrsuslaw4_TermSubsts.T5.2 thyrsuslaw4_TermSubsts.B5 = true := by kernel_rfl
def thyrsuslaw4_TermSubsts.T7 : Bool × List (List Nat × List Nat) := (true, [([], []), ([], []), ([1], [1]), ([0, 2, 2], [0, 2]), ([], []), ([3, 4, 3], [3, 4]), ([], []), ([6, 5, 5, 0, 1, 2, 3, 4, 5, 6], [5, 6])])
def thyrsuslaw4_TermSubsts.B7 : List Nat := [0, 0, 2, 7, 0, 31, 0, 127]
theorem thyrsuslaw4_TermSubsts.tab7 : rtab .any (opsOf Tryd.f5 7) = thyrsuslaw4_TermSubsts.T7 := by kernel_rfl
theorem thyrsuslaw4_TermSubsts.bits7 : waitsOk thyrsuslaw4_TermSubsts.T7.2 thyrsuslaw4_TermSubsts.B7 = true := by kernel_rfl
def thyrsuslaw4_TermSubsts.T8 : Bool × List (List Nat × List Nat) := (true, [([], []), ([], []), ([1], [1]), ([0, 2, 2], [0, 2]), ([], []), ([3, 4, 3], [3, 4]), ([], []), ([6, 5, 5, 0, 1, 2, 3, 4, 5, 6], [5, 6])])
def thyrsuslaw4_TermSubsts.B8 : List Nat := [0, 0, 2, 7, 0, 31, 0, 127]
theorem thyrsuslaw4_TermSubsts.tab8 : rtab .any (opsOf Tryd.f5 8) = thyrsuslaw4_TermSubsts.T8 := by kernel_rfl
theorem thyrsuslaw4_TermSubsts.bits8 : waitsOk thyrsuslaw4_TermSubsts.T8.2 thyrsuslaw4_TermSubsts.B8 = true := by kernel_rfl
def thyrsuslaw4_TermSubsts.T10 : Bool × List (List Nat × List Nat) := (true, [([], []), ([], []), ([0, 1], [0, 1]), ([], []), ([], []), ([3, 4, 2], [3, 4]), ([2, 5, 5], [2, 5]), ([], []), ([7, 6, 6, 0, 1, 2, 3, 4, 5, 6, 7], [6, 7])])
def thyrsuslaw4_TermSubsts.B10 : List Nat := [0, 0, 3, 0, 0, 31, 63, 0, 255]
theorem thyrsuslaw4_TermSubsts.tab10 : rtab .any (opsOf Tryd.f5 10) = thyrsuslaw4_TermSubsts.T10 := by kernel_rfl
theorem thyrsuslaw4_TermSubsts.bits10 : waitsOk thyrsuslaw4_TermSubsts.T10.2 thyrsuslaw4_TermSubsts.B10 = true := by kernel_rfl
end Go.Proofs.YtcchfblekaaalaaDoor.P
