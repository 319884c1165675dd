-- Printed by mkprint.py (a program of this session, over the kit's print). Lean checks it.
import Derived.Test.YtcchfblekaaalaaDoorPx0
import Derived.Test.YtcchfblekaaalaaDoorQx1
import Derived.Test.YtcchfblekaaalaaDoorQx3
import Derived.Test.YtcchfblekaaalaaDoorQx6
import Derived.Test.YtcchfblekaaalaaDoorHandFree
import Derived.Test.YtcchfblekaaalaaDoorHandShift
import Derived.Test.YtcchfblekaaalaaDoorHandSubst
import Derived.Test.YtcchfblekaaalaaDoorPx1
namespace Go.Proofs.YtcchfblekaaalaaDoor.P
open Go.RowKit Go.Proofs.YtcchfblekaaalaaDoorW.PrintWords Go.Proofs.YtcchfblekaaalaaDoorW.PrintLast Go.Proofs.YtcchfblekaaalaaDoorW.PrintMore
attribute [local go_sem] max2_int min2_int max_two min_two max_three min_three max_four min_four   -- for this text's walks alone
set_option linter.unusedVariables false
set_option linter.unusedSimpArgs false

/-! ### thyrsuslaw4_TermClosed: function 12 -/
mutual
def thyrsuslaw4_TermClosed.j0 : Nat → Int → Bool → Int → Int → List (S24) → Int → Int → List (S24) → Int → Int → List (S24) → Option (Bool)
  | 0, _, _, _, _, _, _, _, _, _, _, _ => none
  | k + 1, x3, x26, x352000, x352001, x352002, x353000, x353001, x353002, x354000, x354001, x354002 => if x26 = true then (some true) else ((thyrsuslaw1_Make.f k x352000 x352001 x352002 6 3).bind fun bt358 => ((thyrsuslaw1_Make.f k x353000 x353001 x353002 3 2).bind fun bt363 => ((thyrsuslaw1_Make.f k x354000 x354001 x354002 3 2).bind fun bt368 => ((thyrsuslaw4_within.f x3 6).bind fun t376 => ((term_Free.f k bt358.1 bt358.2.1 bt358.2.2 t376).bind fun t377 => (if t377 = true then (thyrsuslaw4_TermClosed.j1 k t376 false bt358.1 bt358.2.1 bt358.2.2 bt363.1 bt363.2.1 bt363.2.2) else ((term_Subst.f k bt358.1 bt358.2.1 bt358.2.2 t376 bt363.1 bt363.2.1 bt363.2.2).bind fun bt378 => ((term_Subst.f k bt358.1 bt358.2.1 bt358.2.2 t376 bt368.1 bt368.2.1 bt368.2.2).bind fun bt383 => ((thyrsusref4_Same.f k bt378.1 bt378.2.1 bt378.2.2 bt383.1 bt383.2.1 bt383.2.2).bind fun t388 => (thyrsuslaw4_TermClosed.j1 k t376 (!t388) bt358.1 bt358.2.1 bt358.2.2 bt363.1 bt363.2.1 bt363.2.2))))))))))
def thyrsuslaw4_TermClosed.j1 : Nat → Int → Bool → Int → Int → List (S29) → Int → Int → List (S29) → Option (Bool)
  | 0, _, _, _, _, _, _, _, _ => none
  | k + 1, x3, x50, x374000, x374001, x374002, x375000, x375001, x375002 => if x50 = true then (none) else ((term_Below.f k x374000 x374001 x374002 x3).bind fun t389 => (if t389 = true then ((term_Subst.f k x374000 x374001 x374002 x3 x375000 x375001 x375002).bind fun bt390 => ((thyrsusref4_Same.f k bt390.1 bt390.2.1 bt390.2.2 x374000 x374001 x374002).bind fun t395 => (if t395 = true then ((term_Shift.f k x374000 x374001 x374002 5 x3).bind fun bt396 => ((thyrsusref4_Same.f k bt396.1 bt396.2.1 bt396.2.2 x374000 x374001 x374002).bind fun t401 => (some t401))) else (none)))) else (some true)))
end
def thyrsuslaw4_TermClosed.f (k : Nat) (a0_0 : Int) (a0_1 : Int) (l0_2 : List (S24)) (a1_0 : Int) (a1_1 : Int) (l1_2 : List (S24)) (a2_0 : Int) (a2_1 : Int) (l2_2 : List (S24)) (a3 : Int) : Option (Bool) := (thyrsuslaw4_known.f k).bind fun t354 => (if t354 = true then ((thyrsuslaw1_Few.f k a0_0 a0_1 l0_2).bind fun t355 => (if t355 = true then ((thyrsuslaw1_Few.f k a1_0 a1_1 l1_2).bind fun t356 => (if t356 = true then ((thyrsuslaw1_Few.f k a2_0 a2_1 l2_2).bind fun t357 => (thyrsuslaw4_TermClosed.j0 k a3 (!t357) a0_0 a0_1 l0_2 a1_0 a1_1 l1_2 a2_0 a2_1 l2_2)) else (thyrsuslaw4_TermClosed.j0 k a3 true a0_0 a0_1 l0_2 a1_0 a1_1 l1_2 a2_0 a2_1 l2_2))) else (thyrsuslaw4_TermClosed.j0 k a3 true a0_0 a0_1 l0_2 a1_0 a1_1 l1_2 a2_0 a2_1 l2_2))) else (none))
theorem thyrsuslaw4_TermClosed.mono_l : ∀ k, (∀ y0 y1 y2 y3 y4 y5 y6 y7 y8 y9 y10, LeO (thyrsuslaw4_TermClosed.j0 k y0 y1 y2 y3 y4 y5 y6 y7 y8 y9 y10) (thyrsuslaw4_TermClosed.j0 (k + 1) y0 y1 y2 y3 y4 y5 y6 y7 y8 y9 y10)) ∧ (∀ y0 y1 y2 y3 y4 y5 y6 y7, LeO (thyrsuslaw4_TermClosed.j1 k y0 y1 y2 y3 y4 y5 y6 y7) (thyrsuslaw4_TermClosed.j1 (k + 1) y0 y1 y2 y3 y4 y5 y6 y7))
  | 0 => ⟨fun _ _ _ _ _ _ _ _ _ _ _ r h => by simp [thyrsuslaw4_TermClosed.j0] at h, fun _ _ _ _ _ _ _ _ r h => by simp [thyrsuslaw4_TermClosed.j1] at h⟩
  | k + 1 => by
    obtain ⟨ih0, ih1⟩ := thyrsuslaw4_TermClosed.mono_l k
    refine ⟨?_, ?_⟩
    · intro y0 y1 y2 y3 y4 y5 y6 y7 y8 y9 y10
      unfold thyrsuslaw4_TermClosed.j0
      repeat' first
      | (with_reducible exact ih0 _ _ _ _ _ _ _ _ _ _ _)
      | (with_reducible exact ih1 _ _ _ _ _ _ _ _)
      | (with_reducible exact term_Below.mono _ _ _ _ _)
      | (with_reducible exact term_Free.mono _ _ _ _ _)
      | (with_reducible exact term_Shift.mono _ _ _ _ _ _)
      | (with_reducible exact term_Subst.mono _ _ _ _ _ _ _ _)
      | (with_reducible exact thyrsuslaw1_Few.mono _ _ _ _)
      | (with_reducible exact thyrsuslaw1_Make.mono _ _ _ _ _ _)
      | (with_reducible exact thyrsuslaw4_known.mono _)
      | (with_reducible exact thyrsusref4_Same.mono _ _ _ _ _ _ _)
      | (with_reducible exact LeO.refl _)
      | (with_reducible exact LeO.none _)
      | (with_reducible refine LeO.ite ?_ ?_)
      | (with_reducible refine LeO.bind ?_ (fun _ => ?_))
      | exact ih0 _ _ _ _ _ _ _ _ _ _ _
      | exact ih1 _ _ _ _ _ _ _ _
      | exact term_Below.mono _ _ _ _ _
      | exact term_Free.mono _ _ _ _ _
      | exact term_Shift.mono _ _ _ _ _ _
      | exact term_Subst.mono _ _ _ _ _ _ _ _
      | exact thyrsuslaw1_Few.mono _ _ _ _
      | exact thyrsuslaw1_Make.mono _ _ _ _ _ _
      | exact thyrsuslaw4_known.mono _
      | exact thyrsusref4_Same.mono _ _ _ _ _ _ _
      | exact LeO.none _
      | refine LeO.ite ?_ ?_
      | refine LeO.bind ?_ (fun _ => ?_)
    · intro y0 y1 y2 y3 y4 y5 y6 y7
      unfold thyrsuslaw4_TermClosed.j1
      repeat' first
      | (with_reducible exact ih0 _ _ _ _ _ _ _ _ _ _ _)
      | (with_reducible exact ih1 _ _ _ _ _ _ _ _)
      | (with_reducible exact term_Below.mono _ _ _ _ _)
      | (with_reducible exact term_Free.mono _ _ _ _ _)
      | (with_reducible exact term_Shift.mono _ _ _ _ _ _)
      | (with_reducible exact term_Subst.mono _ _ _ _ _ _ _ _)
      | (with_reducible exact thyrsuslaw1_Few.mono _ _ _ _)
      | (with_reducible exact thyrsuslaw1_Make.mono _ _ _ _ _ _)
      | (with_reducible exact thyrsuslaw4_known.mono _)
      | (with_reducible exact thyrsusref4_Same.mono _ _ _ _ _ _ _)
      | (with_reducible exact LeO.refl _)
      | (with_reducible exact LeO.none _)
      | (with_reducible refine LeO.ite ?_ ?_)
      | (with_reducible refine LeO.bind ?_ (fun _ => ?_))
      | exact ih0 _ _ _ _ _ _ _ _ _ _ _
      | exact ih1 _ _ _ _ _ _ _ _
      | exact term_Below.mono _ _ _ _ _
      | exact term_Free.mono _ _ _ _ _
      | exact term_Shift.mono _ _ _ _ _ _
      | exact term_Subst.mono _ _ _ _ _ _ _ _
      | exact thyrsuslaw1_Few.mono _ _ _ _
      | exact thyrsuslaw1_Make.mono _ _ _ _ _ _
      | exact thyrsuslaw4_known.mono _
      | exact thyrsusref4_Same.mono _ _ _ _ _ _ _
      | exact LeO.none _
      | refine LeO.ite ?_ ?_
      | refine LeO.bind ?_ (fun _ => ?_)
theorem thyrsuslaw4_TermClosed.mono : ∀ a0 a1 a2 a3 a4 a5 a6 a7 a8 a9 k, LeO (thyrsuslaw4_TermClosed.f k a0 a1 a2 a3 a4 a5 a6 a7 a8 a9) (thyrsuslaw4_TermClosed.f (k + 1) a0 a1 a2 a3 a4 a5 a6 a7 a8 a9) := by
  intro a0 a1 a2 a3 a4 a5 a6 a7 a8 a9 k
  obtain ⟨ih0, ih1⟩ := thyrsuslaw4_TermClosed.mono_l k
  unfold thyrsuslaw4_TermClosed.f
  repeat' first
      | (with_reducible exact ih0 _ _ _ _ _ _ _ _ _ _ _)
      | (with_reducible exact ih1 _ _ _ _ _ _ _ _)
      | (with_reducible exact term_Below.mono _ _ _ _ _)
      | (with_reducible exact term_Free.mono _ _ _ _ _)
      | (with_reducible exact term_Shift.mono _ _ _ _ _ _)
      | (with_reducible exact term_Subst.mono _ _ _ _ _ _ _ _)
      | (with_reducible exact thyrsuslaw1_Few.mono _ _ _ _)
      | (with_reducible exact thyrsuslaw1_Make.mono _ _ _ _ _ _)
      | (with_reducible exact thyrsuslaw4_known.mono _)
      | (with_reducible exact thyrsusref4_Same.mono _ _ _ _ _ _ _)
      | (with_reducible exact LeO.refl _)
      | (with_reducible exact LeO.none _)
      | (with_reducible refine LeO.ite ?_ ?_)
      | (with_reducible refine LeO.bind ?_ (fun _ => ?_))
      | exact ih0 _ _ _ _ _ _ _ _ _ _ _
      | exact ih1 _ _ _ _ _ _ _ _
      | exact term_Below.mono _ _ _ _ _
      | exact term_Free.mono _ _ _ _ _
      | exact term_Shift.mono _ _ _ _ _ _
      | exact term_Subst.mono _ _ _ _ _ _ _ _
      | exact thyrsuslaw1_Few.mono _ _ _ _
      | exact thyrsuslaw1_Make.mono _ _ _ _ _ _
      | exact thyrsuslaw4_known.mono _
      | exact thyrsusref4_Same.mono _ _ _ _ _ _ _
      | exact LeO.none _
      | refine LeO.ite ?_ ?_
      | refine LeO.bind ?_ (fun _ => ?_)
def thyrsuslaw4_TermClosed.T5 : Bool × List (List Nat × List Nat) := (true, [([], []), ([0], [0]), ([], []), ([2, 1], [2]), ([], []), ([4, 3], [4]), ([], []), ([], []), ([], []), ([6, 1, 5, 0, 1, 6, 7, 8], [1, 6]), ([7, 3, 9, 0, 1, 2, 3, 6, 7, 8, 9], [3, 7]), ([8, 5, 10, 0, 1, 2, 3, 4, 5, 6, 7, 8, 9, 10], [5, 8])])
def thyrsuslaw4_TermClosed.B5 : List Nat := [0, 1, 0, 7, 0, 31, 0, 0, 0, 511, 1023, 2047]
theorem thyrsuslaw4_TermClosed.tab5 : rtab .any (opsOf Tryd.f12 5) = thyrsuslaw4_TermClosed.T5 := by kernel_rfl
theorem thyrsuslaw4_TermClosed.bits5 : waitsOk thyrsuslaw4_TermClosed.T5.2 thyrsuslaw4_TermClosed.B5 = true := by kernel_rfl
def thyrsuslaw4_TermClosed.T7 : Bool × List (List Nat × List Nat) := (true, [([], []), ([], []), ([0, 1], [0, 1]), ([2], [2]), ([3, 2], [3]), ([4], [4]), ([4], [4]), ([4], [4]), ([5, 6, 7, 4, 4], [4, 5, 6, 7]), ([4], [4]), ([4], [4]), ([4], [4]), ([9, 10, 11, 8, 4], [4, 9, 10, 11]), ([8, 12, 12, 4], [4, 8, 12]), ([13, 4], [4, 13]), ([4, 14], [4, 14])])
def thyrsuslaw4_TermClosed.B7 : List Nat := [0, 0, 3, 7, 15, 31, 31, 31, 255, 31, 31, 31, 4095, 8191, 16383, 32767]
theorem thyrsuslaw4_TermClosed.tab7 : rtab .any (opsOf Tryd.f12 7) = thyrsuslaw4_TermClosed.T7 := by kernel_rfl
theorem thyrsuslaw4_TermClosed.bits7 : waitsOk thyrsuslaw4_TermClosed.T7.2 thyrsuslaw4_TermClosed.B7 = true := by kernel_rfl
def thyrsuslaw4_TermClosed.T9 : Bool × List (List Nat × List Nat) := (true, [([], []), ([], []), ([0, 1], [0, 1]), ([2], [2]), ([3, 2], [3]), ([4], [4]), ([4], [4]), ([4], [4]), ([5, 6, 7, 4, 4], [4, 5, 6, 7]), ([4], [4]), ([8, 9, 8, 4], [4, 8, 9]), ([10, 10, 4], [4, 10]), ([11], [11]), ([11], [11]), ([12, 13, 11, 11], [11, 12, 13]), ([11], [11]), ([14, 15, 14, 11], [11, 14, 15]), ([11, 16, 4], [4, 11, 16]), ([4, 17], [4, 17]), ([18, 16, 0, 1, 2, 3, 4, 5, 6, 7, 8, 9, 10, 11, 12, 13, 14, 15, 16, 17, 18], [18])])
def thyrsuslaw4_TermClosed.B9 : List Nat := [0, 0, 3, 7, 15, 31, 31, 31, 255, 31, 1023, 2047, 4095, 4095, 16383, 4095, 65535, 131071, 262143, 524287]
theorem thyrsuslaw4_TermClosed.tab9 : rtab .any (opsOf Tryd.f12 9) = thyrsuslaw4_TermClosed.T9 := by kernel_rfl
theorem thyrsuslaw4_TermClosed.bits9 : waitsOk thyrsuslaw4_TermClosed.T9.2 thyrsuslaw4_TermClosed.B9 = true := by kernel_rfl
end Go.Proofs.YtcchfblekaaalaaDoor.P
