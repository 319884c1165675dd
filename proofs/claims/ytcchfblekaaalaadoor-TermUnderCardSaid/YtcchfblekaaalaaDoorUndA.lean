-- Printed by mkprint.py (a program of this session, over the kit's print). Lean checks it.
import Derived.Test.YtcchfblekaaalaaDoorPx0
import Derived.Test.YtcchfblekaaalaaDoorQx1
import Derived.Test.YtcchfblekaaalaaDoorQx3
import Derived.Test.YtcchfblekaaalaaDoorQx6
import Derived.Test.YtcchfblekaaalaaDoorHandFree
import Derived.Test.YtcchfblekaaalaaDoorHandShift
import Derived.Test.YtcchfblekaaalaaDoorHandSubst
import Derived.Test.YtcchfblekaaalaaDoorPx1
namespace Go.Proofs.YtcchfblekaaalaaDoor.P
open Go.RowKit Go.Proofs.YtcchfblekaaalaaDoorW.PrintWords Go.Proofs.YtcchfblekaaalaaDoorW.PrintLast Go.Proofs.YtcchfblekaaalaaDoorW.PrintMore
attribute [local go_sem] max2_int min2_int max_two min_two max_three min_three max_four min_four   -- for this text's walks alone
set_option linter.unusedVariables false
set_option linter.unusedSimpArgs false
/-! ### thyrsuslaw4_TermUnder: function 7 -/
mutual
def thyrsuslaw4_TermUnder.j0 : Nat → Int → Int → Bool → Int → Int → List (S24) → Int → Int → List (S24) → Option (Bool)
  | 0, _, _, _, _, _, _, _, _, _ => none
  | k + 1, x2, x3, x24, x164000, x164001, x164002, x165000, x165001, x165002 => if x24 = true then (some true) else ((thyrsuslaw1_Make.f k x164000 x164001 x164002 6 3).bind fun bt168 => ((thyrsuslaw1_Make.f k x165000 x165001 x165002 3 2).bind fun bt173 => ((thyrsuslaw4_within.f x2 4).bind fun t180 => ((thyrsuslaw4_within.f x3 4).bind fun t181 => ((term_Shift.f k bt168.1 bt168.2.1 bt168.2.2 t181 t180).bind fun bt182 => ((term_Subst.f k bt168.1 bt168.2.1 bt168.2.2 t180 bt173.1 bt173.2.1 bt173.2.2).bind fun bt187 => (if bt168.1 = 1 then (some true) else (if (bt182.2.2.length : Int) = (bt168.2.2.length : Int) then (if (bt187.2.2.length : Int) = (bt168.2.2.length : Int) then (if bt182.1 = bt168.1 then (thyrsuslaw4_TermUnder.j1 k t180 t181 (bt187.1 != bt168.1) bt168.1 bt168.2.1 bt168.2.2 bt173.1 bt173.2.1 bt173.2.2 bt182.1 bt182.2.1 bt182.2.2 bt187.1 bt187.2.1 bt187.2.2) else (thyrsuslaw4_TermUnder.j1 k t180 t181 true bt168.1 bt168.2.1 bt168.2.2 bt173.1 bt173.2.1 bt173.2.2 bt182.1 bt182.2.1 bt182.2.2 bt187.1 bt187.2.1 bt187.2.2)) else (thyrsuslaw4_TermUnder.j1 k t180 t181 true bt168.1 bt168.2.1 bt168.2.2 bt173.1 bt173.2.1 bt173.2.2 bt182.1 bt182.2.1 bt182.2.2 bt187.1 bt187.2.1 bt187.2.2)) else (thyrsuslaw4_TermUnder.j1 k t180 t181 true bt168.1 bt168.2.1 bt168.2.2 bt173.1 bt173.2.1 bt173.2.2 bt182.1 bt182.2.1 bt182.2.2 bt187.1 bt187.2.1 bt187.2.2)))))))))
def thyrsuslaw4_TermUnder.j1 : Nat → Int → Int → Bool → Int → Int → List (S29) → Int → Int → List (S29) → Int → Int → List (S29) → Int → Int → List (S29) → Option (Bool)
  | 0, _, _, _, _, _, _, _, _, _, _, _, _, _, _, _ => none
  | k + 1, x2, x3, x73, x179000, x179001, x179002, x180000, x180001, x180002, x193000, x193001, x193002, x194000, x194001, x194002 => if x73 = true then (none) else (thyrsuslaw4_TermUnder.l0 k x2 x3 0 x179000 x179001 x179002 x180000 x180001 x180002 x193000 x193001 x193002 x194000 x194001 x194002)
def thyrsuslaw4_TermUnder.l0 : Nat → Int → Int → Int → Int → Int → List (S29) → Int → Int → List (S29) → Int → Int → List (S29) → Int → Int → List (S29) → Option (Bool)
  | 0, _, _, _, _, _, _, _, _, _, _, _, _, _, _, _ => none
  | k + 1, x2, x3, x13, x179000, x179001, x179002, x180000, x180001, x180002, x193000, x193001, x193002, x194000, x194001, x194002 => if x13 < (x179002.length : Int) then ((term_Binders.f x179000 x13).bind fun t194 => (if 0 ≤ x13 then (if x13 < (x193002.length : Int) then ((term_Shift.f k ((rd_T29 x179002 x13).f0) ((rd_T29 x179002 x13).f1) ((rd_T29 x179002 x13).f2) x3 (wrap64 (x2 + t194))).bind fun bt197 => ((thyrsusref4_Same.f k ((rd_T29 x193002 x13).f0) ((rd_T29 x193002 x13).f1) ((rd_T29 x193002 x13).f2) bt197.1 bt197.2.1 bt197.2.2).bind fun t202 => (if t202 = true then (if x13 < (x194002.length : Int) then ((term_Shift.f k x180000 x180001 x180002 t194 0).bind fun bt205 => ((term_Subst.f k ((rd_T29 x179002 x13).f0) ((rd_T29 x179002 x13).f1) ((rd_T29 x179002 x13).f2) (wrap64 (x2 + t194)) bt205.1 bt205.2.1 bt205.2.2).bind fun bt210 => ((thyrsusref4_Same.f k ((rd_T29 x194002 x13).f0) ((rd_T29 x194002 x13).f1) ((rd_T29 x194002 x13).f2) bt210.1 bt210.2.1 bt210.2.2).bind fun t215 => (if t215 = true then (thyrsuslaw4_TermUnder.l0 k x2 x3 (wrap64 (x13 + 1)) x179000 x179001 x179002 x180000 x180001 x180002 x193000 x193001 x193002 x194000 x194001 x194002) else (none))))) else (none)) else (none)))) else (none)) else (none))) else (some true)
end
def thyrsuslaw4_TermUnder.f (k : Nat) (a0_0 : Int) (a0_1 : Int) (l0_2 : List (S24)) (a1_0 : Int) (a1_1 : Int) (l1_2 : List (S24)) (a2 : Int) (a3 : Int) : Option (Bool) := (thyrsuslaw4_known.f k).bind fun t165 => (if t165 = true then ((thyrsuslaw1_Few.f k a0_0 a0_1 l0_2).bind fun t166 => (if t166 = true then ((thyrsuslaw1_Few.f k a1_0 a1_1 l1_2).bind fun t167 => (thyrsuslaw4_TermUnder.j0 k a2 a3 (!t167) a0_0 a0_1 l0_2 a1_0 a1_1 l1_2)) else (thyrsuslaw4_TermUnder.j0 k a2 a3 true a0_0 a0_1 l0_2 a1_0 a1_1 l1_2))) else (none))
theorem thyrsuslaw4_TermUnder.mono_l : ∀ k, (∀ y0 y1 y2 y3 y4 y5 y6 y7 y8, LeO (thyrsuslaw4_TermUnder.j0 k y0 y1 y2 y3 y4 y5 y6 y7 y8) (thyrsuslaw4_TermUnder.j0 (k + 1) y0 y1 y2 y3 y4 y5 y6 y7 y8)) ∧ (∀ y0 y1 y2 y3 y4 y5 y6 y7 y8 y9 y10 y11 y12 y13 y14, LeO (thyrsuslaw4_TermUnder.j1 k y0 y1 y2 y3 y4 y5 y6 y7 y8 y9 y10 y11 y12 y13 y14) (thyrsuslaw4_TermUnder.j1 (k + 1) y0 y1 y2 y3 y4 y5 y6 y7 y8 y9 y10 y11 y12 y13 y14)) ∧ (∀ y0 y1 y2 y3 y4 y5 y6 y7 y8 y9 y10 y11 y12 y13 y14, LeO (thyrsuslaw4_TermUnder.l0 k y0 y1 y2 y3 y4 y5 y6 y7 y8 y9 y10 y11 y12 y13 y14) (thyrsuslaw4_TermUnder.l0 (k + 1) y0 y1 y2 y3 y4 y5 y6 y7 y8 y9 y10 y11 y12 y13 y14))
  | 0 => ⟨fun _ _ _ _ _ _ _ _ _ r h => by simp [thyrsuslaw4_TermUnder.j0] at h, fun _ _ _ _ _ _ _ _ _ _ _ _ _ _ _ r h => by simp [thyrsuslaw4_TermUnder.j1] at h, fun _ _ _ _ _ _ _ _ _ _ _ _ _ _ _ r h => by simp [thyrsuslaw4_TermUnder.l0] at h⟩
  | k + 1 => by
    obtain ⟨ih0, ih1, ih2⟩ := thyrsuslaw4_TermUnder.mono_l k
    refine ⟨?_, ?_, ?_⟩
    · intro y0 y1 y2 y3 y4 y5 y6 y7 y8
      unfold thyrsuslaw4_TermUnder.j0
      repeat' first
      | (with_reducible exact ih0 _ _ _ _ _ _ _ _ _)
      | (with_reducible exact ih1 _ _ _ _ _ _ _ _ _ _ _ _ _ _ _)
      | (with_reducible exact ih2 _ _ _ _ _ _ _ _ _ _ _ _ _ _ _)
      | (with_reducible exact term_Shift.mono _ _ _ _ _ _)
      | (with_reducible exact term_Subst.mono _ _ _ _ _ _ _ _)
      | (with_reducible exact thyrsuslaw1_Few.mono _ _ _ _)
      | (with_reducible exact thyrsuslaw1_Make.mono _ _ _ _ _ _)
      | (with_reducible exact thyrsuslaw4_known.mono _)
      | (with_reducible exact thyrsusref4_Same.mono _ _ _ _ _ _ _)
      | (with_reducible exact LeO.refl _)
      | (with_reducible exact LeO.none _)
      | (with_reducible refine LeO.ite ?_ ?_)
      | (with_reducible refine LeO.bind ?_ (fun _ => ?_))
      | exact ih0 _ _ _ _ _ _ _ _ _
      | exact ih1 _ _ _ _ _ _ _ _ _ _ _ _ _ _ _
      | exact ih2 _ _ _ _ _ _ _ _ _ _ _ _ _ _ _
      | exact term_Shift.mono _ _ _ _ _ _
      | exact term_Subst.mono _ _ _ _ _ _ _ _
      | exact thyrsuslaw1_Few.mono _ _ _ _
      | exact thyrsuslaw1_Make.mono _ _ _ _ _ _
      | exact thyrsuslaw4_known.mono _
      | exact thyrsusref4_Same.mono _ _ _ _ _ _ _
      | exact LeO.none _
      | refine LeO.ite ?_ ?_
      | refine LeO.bind ?_ (fun _ => ?_)
    · intro y0 y1 y2 y3 y4 y5 y6 y7 y8 y9 y10 y11 y12 y13 y14
      unfold thyrsuslaw4_TermUnder.j1
      repeat' first
      | (with_reducible exact ih0 _ _ _ _ _ _ _ _ _)
      | (with_reducible exact ih1 _ _ _ _ _ _ _ _ _ _ _ _ _ _ _)
      | (with_reducible exact ih2 _ _ _ _ _ _ _ _ _ _ _ _ _ _ _)
      | (with_reducible exact term_Shift.mono _ _ _ _ _ _)
      | (with_reducible exact term_Subst.mono _ _ _ _ _ _ _ _)
      | (with_reducible exact thyrsuslaw1_Few.mono _ _ _ _)
      | (with_reducible exact thyrsuslaw1_Make.mono _ _ _ _ _ _)
      | (with_reducible exact thyrsuslaw4_known.mono _)
      | (with_reducible exact thyrsusref4_Same.mono _ _ _ _ _ _ _)
      | (with_reducible exact LeO.refl _)
      | (with_reducible exact LeO.none _)
      | (with_reducible refine LeO.ite ?_ ?_)
      | (with_reducible refine LeO.bind ?_ (fun _ => ?_))
      | exact ih0 _ _ _ _ _ _ _ _ _
      | exact ih1 _ _ _ _ _ _ _ _ _ _ _ _ _ _ _
      | exact ih2 _ _ _ _ _ _ _ _ _ _ _ _ _ _ _
      | exact term_Shift.mono _ _ _ _ _ _
      | exact term_Subst.mono _ _ _ _ _ _ _ _
      | exact thyrsuslaw1_Few.mono _ _ _ _
      | exact thyrsuslaw1_Make.mono _ _ _ _ _ _
      | exact thyrsuslaw4_known.mono _
      | exact thyrsusref4_Same.mono _ _ _ _ _ _ _
      | exact LeO.none _
      | refine LeO.ite ?_ ?_
      | refine LeO.bind ?_ (fun _ => ?_)
    · intro y0 y1 y2 y3 y4 y5 y6 y7 y8 y9 y10 y11 y12 y13 y14
      unfold thyrsuslaw4_TermUnder.l0
      repeat' first
      | (with_reducible exact ih0 _ _ _ _ _ _ _ _ _)
      | (with_reducible exact ih1 _ _ _ _ _ _ _ _ _ _ _ _ _ _ _)
      | (with_reducible exact ih2 _ _ _ _ _ _ _ _ _ _ _ _ _ _ _)
      | (with_reducible exact term_Shift.mono _ _ _ _ _ _)
      | (with_reducible exact term_Subst.mono _ _ _ _ _ _ _ _)
      | (with_reducible exact thyrsuslaw1_Few.mono _ _ _ _)
      | (with_reducible exact thyrsuslaw1_Make.mono _ _ _ _ _ _)
      | (with_reducible exact thyrsuslaw4_known.mono _)
      | (with_reducible exact thyrsusref4_Same.mono _ _ _ _ _ _ _)
      | (with_reducible exact LeO.refl _)
      | (with_reducible exact LeO.none _)
      | (with_reducible refine LeO.ite ?_ ?_)
      | (with_reducible refine LeO.bind ?_ (fun _ => ?_))
      | exact ih0 _ _ _ _ _ _ _ _ _
      | exact ih1 _ _ _ _ _ _ _ _ _ _ _ _ _ _ _
      | exact ih2 _ _ _ _ _ _ _ _ _ _ _ _ _ _ _
      | exact term_Shift.mono _ _ _ _ _ _
      | exact term_Subst.mono _ _ _ _ _ _ _ _
      | exact thyrsuslaw1_Few.mono _ _ _ _
      | exact thyrsuslaw1_Make.mono _ _ _ _ _ _
      | exact thyrsuslaw4_known.mono _
      | exact thyrsusref4_Same.mono _ _ _ _ _ _ _
      | exact LeO.none _
      | refine LeO.ite ?_ ?_
      | refine LeO.bind ?_ (fun _ => ?_)
theorem thyrsuslaw4_TermUnder.mono : ∀ a0 a1 a2 a3 a4 a5 a6 a7 k, LeO (thyrsuslaw4_TermUnder.f k a0 a1 a2 a3 a4 a5 a6 a7) (thyrsuslaw4_TermUnder.f (k + 1) a0 a1 a2 a3 a4 a5 a6 a7) := by
  intro a0 a1 a2 a3 a4 a5 a6 a7 k
  obtain ⟨ih0, ih1, ih2⟩ := thyrsuslaw4_TermUnder.mono_l k
  unfold thyrsuslaw4_TermUnder.f
  repeat' first
      | (with_reducible exact ih0 _ _ _ _ _ _ _ _ _)
      | (with_reducible exact ih1 _ _ _ _ _ _ _ _ _ _ _ _ _ _ _)
      | (with_reducible exact ih2 _ _ _ _ _ _ _ _ _ _ _ _ _ _ _)
      | (with_reducible exact term_Shift.mono _ _ _ _ _ _)
      | (with_reducible exact term_Subst.mono _ _ _ _ _ _ _ _)
      | (with_reducible exact thyrsuslaw1_Few.mono _ _ _ _)
      | (with_reducible exact thyrsuslaw1_Make.mono _ _ _ _ _ _)
      | (with_reducible exact thyrsuslaw4_known.mono _)
      | (with_reducible exact thyrsusref4_Same.mono _ _ _ _ _ _ _)
      | (with_reducible exact LeO.refl _)
      | (with_reducible exact LeO.none _)
      | (with_reducible refine LeO.ite ?_ ?_)
      | (with_reducible refine LeO.bind ?_ (fun _ => ?_))
      | exact ih0 _ _ _ _ _ _ _ _ _
      | exact ih1 _ _ _ _ _ _ _ _ _ _ _ _ _ _ _
      | exact ih2 _ _ _ _ _ _ _ _ _ _ _ _ _ _ _
      | exact term_Shift.mono _ _ _ _ _ _
      | exact term_Subst.mono _ _ _ _ _ _ _ _
      | exact thyrsuslaw1_Few.mono _ _ _ _
      | exact thyrsuslaw1_Make.mono _ _ _ _ _ _
      | exact thyrsuslaw4_known.mono _
      | exact thyrsusref4_Same.mono _ _ _ _ _ _ _
      | exact LeO.none _
      | refine LeO.ite ?_ ?_
      | refine LeO.bind ?_ (fun _ => ?_)
def thyrsuslaw4_TermUnder.T5 : Bool × List (List Nat × List Nat) := (true, [([], []), ([0], [0]), ([], []), ([2, 1], [2]), ([], []), ([], []), ([4, 1, 3, 0, 1, 4, 5], [1, 4]), ([5, 3, 6, 0, 1, 2, 3, 4, 5, 6], [3, 5])])
def thyrsuslaw4_TermUnder.B5 : List Nat := [0, 1, 0, 7, 0, 0, 63, 127]
theorem thyrsuslaw4_TermUnder.tab5 : rtab .any (opsOf Tryd.f7 5) = thyrsuslaw4_TermUnder.T5 := by kernel_rfl
theorem thyrsuslaw4_TermUnder.bits5 : waitsOk thyrsuslaw4_TermUnder.T5.2 thyrsuslaw4_TermUnder.B5 = true := by kernel_rfl
def thyrsuslaw4_TermUnder.T7 : Bool × List (List Nat × List Nat) := (true, [([], []), ([], []), ([], []), ([0, 1, 2], [0, 1, 2]), ([], []), ([], []), ([], []), ([4, 5, 6, 3], [4, 5, 6]), ([], []), ([], []), ([8, 3, 7, 0, 1, 2, 3, 8, 9], [3, 8]), ([9, 7, 10, 0, 1, 2, 3, 4, 5, 6, 7, 8, 9, 10], [7, 9])])
def thyrsuslaw4_TermUnder.B7 : List Nat := [0, 0, 0, 7, 0, 0, 0, 127, 0, 0, 1023, 2047]
theorem thyrsuslaw4_TermUnder.tab7 : rtab .any (opsOf Tryd.f7 7) = thyrsuslaw4_TermUnder.T7 := by kernel_rfl
theorem thyrsuslaw4_TermUnder.bits7 : waitsOk thyrsuslaw4_TermUnder.T7.2 thyrsuslaw4_TermUnder.B7 = true := by kernel_rfl
def thyrsuslaw4_TermUnder.T16 : Bool × List (List Nat × List Nat) := (true, [([], []), ([0], [0]), ([], []), ([1, 2], [1, 2]), ([3], [3]), ([], []), ([5], [5]), ([], []), ([6, 7], [6, 7]), ([8], [8]), ([], []), ([], []), ([], []), ([11, 12], [11, 12]), ([9, 10, 13], [9, 10, 13]), ([4, 14, 14], [4, 14]), ([15], [15]), ([16, 15], [16]), ([17], [17]), ([18, 17], [17, 18]), ([17], [17]), ([19, 20, 17], [17, 19, 20]), ([21, 17], [17, 21]), ([17], [17]), ([23, 17], [17, 23]), ([17], [17]), ([24, 25, 17], [17, 24, 25]), ([26, 17], [17, 26]), ([17], [17]), ([17], [17]), ([28, 29, 17], [17, 28, 29]), ([17], [17]), ([17], [17]), ([31, 32, 17, 17], [17, 31, 32]), ([27, 30, 33, 33, 17], [17, 27, 30, 33]), ([22, 34, 34, 17], [17, 22, 34]), ([35, 17], [17, 35]), ([17, 36], [17, 36])])
def thyrsuslaw4_TermUnder.B16 : List Nat := [0, 1, 0, 7, 15, 0, 32, 0, 224, 480, 0, 0, 0, 6144, 16352, 32767, 65535, 131071, 262143, 524287, 262143, 2097151, 4194303, 262143, 8650751, 262143, 58982399, 126091263, 262143, 262143, 805568511, 262143, 262143, 6442713087, 17171742719, 34359738367, 68719476735, 137438953471]
theorem thyrsuslaw4_TermUnder.tab16 : rtab .any (opsOf Tryd.f7 16) = thyrsuslaw4_TermUnder.T16 := by kernel_rfl
theorem thyrsuslaw4_TermUnder.bits16 : waitsOk thyrsuslaw4_TermUnder.T16.2 thyrsuslaw4_TermUnder.B16 = true := by kernel_rfl
end Go.Proofs.YtcchfblekaaalaaDoor.P
