-- Printed by mkprint.py (a program of this session, over the kit's print). Lean checks it.
import Derived.Test.YtcchfblekaaalaaDoorPx0
import Derived.Test.YtcchfblekaaalaaDoorQx1
import Derived.Test.YtcchfblekaaalaaDoorQx3
import Derived.Test.YtcchfblekaaalaaDoorQx6
import Derived.Test.YtcchfblekaaalaaDoorHandFree
import Derived.Test.YtcchfblekaaalaaDoorHandShift
import Derived.Test.YtcchfblekaaalaaDoorHandSubst
import Derived.Test.YtcchfblekaaalaaDoorPx1
namespace Go.Proofs.YtcchfblekaaalaaDoor.P
open Go.RowKit Go.Proofs.YtcchfblekaaalaaDoorW.PrintWords Go.Proofs.YtcchfblekaaalaaDoorW.PrintLast Go.Proofs.YtcchfblekaaalaaDoorW.PrintMore
attribute [local go_sem] max2_int min2_int max_two min_two max_three min_three max_four min_four   -- for this text's walks alone
set_option linter.unusedVariables false
set_option linter.unusedSimpArgs false

/-! ### thyrsuslaw4_TermShifts: function 10 -/
def thyrsuslaw4_TermShifts.j0 : Nat → Int → Int → Int → Bool → Int → Int → List (S24) → Int → Int → List (S24) → Option (Bool)
  | 0, _, _, _, _, _, _, _, _, _, _ => none
  | k + 1, x2, x3, x4, x22, x206000, x206001, x206002, x207000, x207001, x207002 => if x22 = true then (some true) else ((thyrsuslaw1_Make.f k x206000 x206001 x206002 6 4).bind fun bt210 => ((thyrsuslaw1_Make.f k x207000 x207001 x207002 4 4).bind fun bt215 => ((thyrsuslaw4_within.f x2 5).bind fun t222 => ((thyrsuslaw4_within.f x3 5).bind fun t223 => ((thyrsuslaw4_within.f x4 6).bind fun t224 => ((term_Shift.f k bt210.1 bt210.2.1 bt210.2.2 0 t224).bind fun bt225 => ((thyrsusref4_Same.f k bt225.1 bt225.2.1 bt225.2.2 bt210.1 bt210.2.1 bt210.2.2).bind fun t230 => (if t230 = true then ((term_Shift.f k bt210.1 bt210.2.1 bt210.2.2 t222 t224).bind fun bt231 => ((term_Shift.f k bt231.1 bt231.2.1 bt231.2.2 t223 t224).bind fun bt236 => ((term_Shift.f k bt210.1 bt210.2.1 bt210.2.2 (wrap64 (t222 + t223)) t224).bind fun bt241 => ((thyrsusref4_Same.f k bt236.1 bt236.2.1 bt236.2.2 bt241.1 bt241.2.1 bt241.2.2).bind fun t246 => (if t246 = true then ((term_Shift.f k bt210.1 bt210.2.1 bt210.2.2 1 t224).bind fun bt247 => ((term_Subst.f k bt247.1 bt247.2.1 bt247.2.2 t224 bt215.1 bt215.2.1 bt215.2.2).bind fun bt252 => ((thyrsusref4_Same.f k bt252.1 bt252.2.1 bt252.2.2 bt210.1 bt210.2.1 bt210.2.2).bind fun t257 => (if t257 = true then ((term_Shift.f k bt210.1 bt210.2.1 bt210.2.2 1 t224).bind fun bt258 => ((term_Free.f k bt258.1 bt258.2.1 bt258.2.2 t224).bind fun t263 => (some (!t263)))) else (none))))) else (none)))))) else (none)))))))))
def thyrsuslaw4_TermShifts.f (k : Nat) (a0_0 : Int) (a0_1 : Int) (l0_2 : List (S24)) (a1_0 : Int) (a1_1 : Int) (l1_2 : List (S24)) (a2 : Int) (a3 : Int) (a4 : Int) : Option (Bool) := (thyrsuslaw4_known.f k).bind fun t207 => (if t207 = true then ((thyrsuslaw1_Few.f k a0_0 a0_1 l0_2).bind fun t208 => (if t208 = true then ((thyrsuslaw1_Few.f k a1_0 a1_1 l1_2).bind fun t209 => (thyrsuslaw4_TermShifts.j0 k a2 a3 a4 (!t209) a0_0 a0_1 l0_2 a1_0 a1_1 l1_2)) else (thyrsuslaw4_TermShifts.j0 k a2 a3 a4 true a0_0 a0_1 l0_2 a1_0 a1_1 l1_2))) else (none))
theorem thyrsuslaw4_TermShifts.mono_l : ∀ k, (∀ y0 y1 y2 y3 y4 y5 y6 y7 y8 y9, LeO (thyrsuslaw4_TermShifts.j0 k y0 y1 y2 y3 y4 y5 y6 y7 y8 y9) (thyrsuslaw4_TermShifts.j0 (k + 1) y0 y1 y2 y3 y4 y5 y6 y7 y8 y9))
  | 0 => fun _ _ _ _ _ _ _ _ _ _ r h => by simp [thyrsuslaw4_TermShifts.j0] at h
  | k + 1 => by
    have ih0 := thyrsuslaw4_TermShifts.mono_l k
    · intro y0 y1 y2 y3 y4 y5 y6 y7 y8 y9
      unfold thyrsuslaw4_TermShifts.j0
      repeat' first
      | (with_reducible exact ih0 _ _ _ _ _ _ _ _ _ _)
      | (with_reducible exact term_Free.mono _ _ _ _ _)
      | (with_reducible exact term_Shift.mono _ _ _ _ _ _)
      | (with_reducible exact term_Subst.mono _ _ _ _ _ _ _ _)
      | (with_reducible exact thyrsuslaw1_Few.mono _ _ _ _)
      | (with_reducible exact thyrsuslaw1_Make.mono _ _ _ _ _ _)
      | (with_reducible exact thyrsuslaw4_known.mono _)
      | (with_reducible exact thyrsusref4_Same.mono _ _ _ _ _ _ _)
      | (with_reducible exact LeO.refl _)
      | (with_reducible exact LeO.none _)
      | (with_reducible refine LeO.ite ?_ ?_)
      | (with_reducible refine LeO.bind ?_ (fun _ => ?_))
      | exact ih0 _ _ _ _ _ _ _ _ _ _
      | exact term_Free.mono _ _ _ _ _
      | exact term_Shift.mono _ _ _ _ _ _
      | exact term_Subst.mono _ _ _ _ _ _ _ _
      | exact thyrsuslaw1_Few.mono _ _ _ _
      | exact thyrsuslaw1_Make.mono _ _ _ _ _ _
      | exact thyrsuslaw4_known.mono _
      | exact thyrsusref4_Same.mono _ _ _ _ _ _ _
      | exact LeO.none _
      | refine LeO.ite ?_ ?_
      | refine LeO.bind ?_ (fun _ => ?_)
theorem thyrsuslaw4_TermShifts.mono : ∀ a0 a1 a2 a3 a4 a5 a6 a7 a8 k, LeO (thyrsuslaw4_TermShifts.f k a0 a1 a2 a3 a4 a5 a6 a7 a8) (thyrsuslaw4_TermShifts.f (k + 1) a0 a1 a2 a3 a4 a5 a6 a7 a8) := by
  intro a0 a1 a2 a3 a4 a5 a6 a7 a8 k
  have ih0 := thyrsuslaw4_TermShifts.mono_l k
  unfold thyrsuslaw4_TermShifts.f
  repeat' first
      | (with_reducible exact ih0 _ _ _ _ _ _ _ _ _ _)
      | (with_reducible exact term_Free.mono _ _ _ _ _)
      | (with_reducible exact term_Shift.mono _ _ _ _ _ _)
      | (with_reducible exact term_Subst.mono _ _ _ _ _ _ _ _)
      | (with_reducible exact thyrsuslaw1_Few.mono _ _ _ _)
      | (with_reducible exact thyrsuslaw1_Make.mono _ _ _ _ _ _)
      | (with_reducible exact thyrsuslaw4_known.mono _)
      | (with_reducible exact thyrsusref4_Same.mono _ _ _ _ _ _ _)
      | (with_reducible exact LeO.refl _)
      | (with_reducible exact LeO.none _)
      | (with_reducible refine LeO.ite ?_ ?_)
      | (with_reducible refine LeO.bind ?_ (fun _ => ?_))
      | exact ih0 _ _ _ _ _ _ _ _ _ _
      | exact term_Free.mono _ _ _ _ _
      | exact term_Shift.mono _ _ _ _ _ _
      | exact term_Subst.mono _ _ _ _ _ _ _ _
      | exact thyrsuslaw1_Few.mono _ _ _ _
      | exact thyrsuslaw1_Make.mono _ _ _ _ _ _
      | exact thyrsuslaw4_known.mono _
      | exact thyrsusref4_Same.mono _ _ _ _ _ _ _
      | exact LeO.none _
      | refine LeO.ite ?_ ?_
      | refine LeO.bind ?_ (fun _ => ?_)
def thyrsuslaw4_TermShifts.T5 : Bool × List (List Nat × List Nat) := (true, [([], []), ([0], [0]), ([], []), ([2, 1], [2]), ([], []), ([], []), ([4, 1, 3, 0, 1, 4, 5], [1, 4]), ([5, 3, 6, 0, 1, 2, 3, 4, 5, 6], [3, 5])])
def thyrsuslaw4_TermShifts.B5 : List Nat := [0, 1, 0, 7, 0, 0, 63, 127]
theorem thyrsuslaw4_TermShifts.tab5 : rtab .any (opsOf Tryd.f10 5) = thyrsuslaw4_TermShifts.T5 := by kernel_rfl
theorem thyrsuslaw4_TermShifts.bits5 : waitsOk thyrsuslaw4_TermShifts.T5.2 thyrsuslaw4_TermShifts.B5 = true := by kernel_rfl
def thyrsuslaw4_TermShifts.T7 : Bool × List (List Nat × List Nat) := (true, [([], []), ([], []), ([0, 1], [0, 1]), ([], []), ([2, 3, 2], [2, 3]), ([4, 4], [4]), ([5], [5]), ([5], [5]), ([5], [5]), ([6, 7, 8, 5, 5], [5, 6, 7, 8]), ([5], [5]), ([5], [5]), ([9, 10, 11, 9, 5], [5, 9, 10, 11]), ([5], [5]), ([5], [5]), ([5], [5]), ([14, 15, 5], [5, 14, 15]), ([5], [5]), ([13, 16, 17, 12, 5], [5, 13, 16, 17]), ([12, 18, 18, 5], [5, 12, 18]), ([5, 19], [5, 19]), ([20, 19], [20]), ([21], [21]), ([21], [21]), ([22, 23, 21, 21], [21, 22, 23]), ([21], [21]), ([21], [21]), ([24, 25, 26, 24, 21], [21, 24, 25, 26]), ([21], [21]), ([27, 28, 27, 21], [21, 27, 28]), ([21, 29], [21, 29]), ([30, 29], [30]), ([31], [31]), ([31], [31]), ([32, 33, 31, 31], [31, 32, 33]), ([31], [31]), ([34, 35, 34, 31], [31, 34, 35]), ([36, 31], [31, 36]), ([31, 37], [31, 37]), ([38, 36, 0, 1, 2, 3, 4, 5, 6, 7, 8, 9, 10, 11, 12, 13, 14, 15, 16, 17, 18, 19, 20, 21, 22, 23, 24, 25, 26, 27, 28, 29, 30, 31, 32, 33, 34, 35, 36, 37, 38], [38])])
def thyrsuslaw4_TermShifts.B7 : List Nat := [0, 0, 3, 0, 15, 31, 63, 63, 63, 511, 63, 63, 4095, 63, 63, 63, 49215, 63, 262143, 524287, 1048575, 2097151, 4194303, 4194303, 16777215, 4194303, 4194303, 134217727, 4194303, 536870911, 1073741823, 2147483647, 4294967295, 4294967295, 17179869183, 4294967295, 68719476735, 137438953471, 274877906943, 549755813887]
theorem thyrsuslaw4_TermShifts.tab7 : rtab .any (opsOf Tryd.f10 7) = thyrsuslaw4_TermShifts.T7 := by kernel_rfl
theorem thyrsuslaw4_TermShifts.bits7 : waitsOk thyrsuslaw4_TermShifts.T7.2 thyrsuslaw4_TermShifts.B7 = true := by kernel_rfl
end Go.Proofs.YtcchfblekaaalaaDoor.P
