-- Printed by mkprint.py (a program of this session, over the kit's print). Lean checks it.
import Derived.Test.YtcchfblekaaalaaDoorPx0
import Derived.Test.YtcchfblekaaalaaDoorQx1
import Derived.Test.YtcchfblekaaalaaDoorQx3
import Derived.Test.YtcchfblekaaalaaDoorQx6
import Derived.Test.YtcchfblekaaalaaDoorQx10
import Derived.Test.YtcchfblekaaalaaDoorHandFree
import Derived.Test.YtcchfblekaaalaaDoorHandSubst
import Derived.Test.YtcchfblekaaalaaDoorPx1
namespace Go.Proofs.YtcchfblekaaalaaDoor.P
open Go.RowKit Go.Proofs.YtcchfblekaaalaaDoorW.PrintWords Go.Proofs.YtcchfblekaaalaaDoorW.PrintLast Go.Proofs.YtcchfblekaaalaaDoorW.PrintMore
attribute [local go_sem] max2_int min2_int max_two min_two max_three min_three max_four min_four   -- for this text's walks alone
set_option linter.unusedVariables false
set_option linter.unusedSimpArgs false

/-! ### thyrsuslaw4_TermFree: function 11 -/
mutual
def thyrsuslaw4_TermFree.j0 : Nat → Int → Bool → Int → Int → List (S24) → Int → Int → List (S24) → Option (Bool)
  | 0, _, _, _, _, _, _, _, _ => none
  | k + 1, x2, x22, x322000, x322001, x322002, x323000, x323001, x323002 => if x22 = true then (some true) else ((thyrsuslaw1_Make.f k x322000 x322001 x322002 6 3).bind fun bt326 => ((thyrsuslaw1_Make.f k x323000 x323001 x323002 4 3).bind fun bt331 => ((thyrsuslaw4_within.f x2 8).bind fun t338 => (thyrsuslaw4_TermFree.l0 k t338 true t338 bt326.1 bt326.2.1 bt326.2.2 bt331.1 bt331.2.1 bt331.2.2))))
def thyrsuslaw4_TermFree.l0 : Nat → Int → Bool → Int → Int → Int → List (S29) → Int → Int → List (S29) → Option (Bool)
  | 0, _, _, _, _, _, _, _, _, _ => none
  | k + 1, x2, x9, x10, x337000, x337001, x337002, x338000, x338001, x338002 => if x10 < 12 then (if x9 = true then ((term_Free.f k x337000 x337001 x337002 x10).bind fun t339 => (thyrsuslaw4_TermFree.l0 k x2 (!t339) (wrap64 (x10 + 1)) x337000 x337001 x337002 x338000 x338001 x338002)) else (thyrsuslaw4_TermFree.l0 k x2 false (wrap64 (x10 + 1)) x337000 x337001 x337002 x338000 x338001 x338002)) else ((term_Subst.f k x337000 x337001 x337002 0 x338000 x338001 x338002).bind fun bt340 => (thyrsuslaw4_TermFree.l1 k x2 x9 0 x337000 x337001 x337002 x338000 x338001 x338002 bt340.1 bt340.2.1 bt340.2.2))
def thyrsuslaw4_TermFree.l1 : Nat → Int → Bool → Int → Int → Int → List (S29) → Int → Int → List (S29) → Int → Int → List (S29) → Option (Bool)
  | 0, _, _, _, _, _, _, _, _, _, _, _, _ => none
  | k + 1, x2, x9, x12, x337000, x337001, x337002, x338000, x338001, x338002, x346000, x346001, x346002 => if x12 < 8 then ((term_Free.f k x346000 x346001 x346002 x12).bind fun t347 => ((thyrsusref4_Free.f k x337000 x337001 x337002 (wrap64 (x12 + 1))).bind fun t348 => (if t348 = true then (if (t347 != true) = true then (none) else (thyrsuslaw4_TermFree.l1 k x2 x9 (wrap64 (x12 + 1)) x337000 x337001 x337002 x338000 x338001 x338002 x346000 x346001 x346002)) else ((thyrsusref4_Free.f k x337000 x337001 x337002 0).bind fun t349 => (if t349 = true then ((thyrsusref4_Free.f k x338000 x338001 x338002 x12).bind fun t350 => (if (t347 != t350) = true then (none) else (thyrsuslaw4_TermFree.l1 k x2 x9 (wrap64 (x12 + 1)) x337000 x337001 x337002 x338000 x338001 x338002 x346000 x346001 x346002))) else (if (t347 != false) = true then (none) else (thyrsuslaw4_TermFree.l1 k x2 x9 (wrap64 (x12 + 1)) x337000 x337001 x337002 x338000 x338001 x338002 x346000 x346001 x346002))))))) else ((term_Below.f k x337000 x337001 x337002 x2).bind fun t346 => (some (t346 == x9)))
end
def thyrsuslaw4_TermFree.f (k : Nat) (a0_0 : Int) (a0_1 : Int) (l0_2 : List (S24)) (a1_0 : Int) (a1_1 : Int) (l1_2 : List (S24)) (a2 : Int) : Option (Bool) := (thyrsuslaw4_known.f k).bind fun t323 => (if t323 = true then ((thyrsuslaw1_Few.f k a0_0 a0_1 l0_2).bind fun t324 => (if t324 = true then ((thyrsuslaw1_Few.f k a1_0 a1_1 l1_2).bind fun t325 => (thyrsuslaw4_TermFree.j0 k a2 (!t325) a0_0 a0_1 l0_2 a1_0 a1_1 l1_2)) else (thyrsuslaw4_TermFree.j0 k a2 true a0_0 a0_1 l0_2 a1_0 a1_1 l1_2))) else (none))
theorem thyrsuslaw4_TermFree.mono_l : ∀ k, (∀ y0 y1 y2 y3 y4 y5 y6 y7, LeO (thyrsuslaw4_TermFree.j0 k y0 y1 y2 y3 y4 y5 y6 y7) (thyrsuslaw4_TermFree.j0 (k + 1) y0 y1 y2 y3 y4 y5 y6 y7)) ∧ (∀ y0 y1 y2 y3 y4 y5 y6 y7 y8, LeO (thyrsuslaw4_TermFree.l0 k y0 y1 y2 y3 y4 y5 y6 y7 y8) (thyrsuslaw4_TermFree.l0 (k + 1) y0 y1 y2 y3 y4 y5 y6 y7 y8)) ∧ (∀ y0 y1 y2 y3 y4 y5 y6 y7 y8 y9 y10 y11, LeO (thyrsuslaw4_TermFree.l1 k y0 y1 y2 y3 y4 y5 y6 y7 y8 y9 y10 y11) (thyrsuslaw4_TermFree.l1 (k + 1) y0 y1 y2 y3 y4 y5 y6 y7 y8 y9 y10 y11))
  | 0 => ⟨fun _ _ _ _ _ _ _ _ r h => by simp [thyrsuslaw4_TermFree.j0] at h, fun _ _ _ _ _ _ _ _ _ r h => by simp [thyrsuslaw4_TermFree.l0] at h, fun _ _ _ _ _ _ _ _ _ _ _ _ r h => by simp [thyrsuslaw4_TermFree.l1] at h⟩
  | k + 1 => by
    obtain ⟨ih0, ih1, ih2⟩ := thyrsuslaw4_TermFree.mono_l k
    refine ⟨?_, ?_, ?_⟩
    · intro y0 y1 y2 y3 y4 y5 y6 y7
      unfold thyrsuslaw4_TermFree.j0
      repeat' first
      | (with_reducible exact ih0 _ _ _ _ _ _ _ _)
      | (with_reducible exact ih1 _ _ _ _ _ _ _ _ _)
      | (with_reducible exact ih2 _ _ _ _ _ _ _ _ _ _ _ _)
      | (with_reducible exact term_Below.mono _ _ _ _ _)
      | (with_reducible exact term_Free.mono _ _ _ _ _)
      | (with_reducible exact term_Subst.mono _ _ _ _ _ _ _ _)
      | (with_reducible exact thyrsuslaw1_Few.mono _ _ _ _)
      | (with_reducible exact thyrsuslaw1_Make.mono _ _ _ _ _ _)
      | (with_reducible exact thyrsuslaw4_known.mono _)
      | (with_reducible exact thyrsusref4_Free.mono _ _ _ _ _)
      | (with_reducible exact LeO.refl _)
      | (with_reducible exact LeO.none _)
      | (with_reducible refine LeO.ite ?_ ?_)
      | (with_reducible refine LeO.bind ?_ (fun _ => ?_))
      | exact ih0 _ _ _ _ _ _ _ _
      | exact ih1 _ _ _ _ _ _ _ _ _
      | exact ih2 _ _ _ _ _ _ _ _ _ _ _ _
      | exact term_Below.mono _ _ _ _ _
      | exact term_Free.mono _ _ _ _ _
      | exact term_Subst.mono _ _ _ _ _ _ _ _
      | exact thyrsuslaw1_Few.mono _ _ _ _
      | exact thyrsuslaw1_Make.mono _ _ _ _ _ _
      | exact thyrsuslaw4_known.mono _
      | exact thyrsusref4_Free.mono _ _ _ _ _
      | exact LeO.none _
      | refine LeO.ite ?_ ?_
      | refine LeO.bind ?_ (fun _ => ?_)
    · intro y0 y1 y2 y3 y4 y5 y6 y7 y8
      unfold thyrsuslaw4_TermFree.l0
      repeat' first
      | (with_reducible exact ih0 _ _ _ _ _ _ _ _)
      | (with_reducible exact ih1 _ _ _ _ _ _ _ _ _)
      | (with_reducible exact ih2 _ _ _ _ _ _ _ _ _ _ _ _)
      | (with_reducible exact term_Below.mono _ _ _ _ _)
      | (with_reducible exact term_Free.mono _ _ _ _ _)
      | (with_reducible exact term_Subst.mono _ _ _ _ _ _ _ _)
      | (with_reducible exact thyrsuslaw1_Few.mono _ _ _ _)
      | (with_reducible exact thyrsuslaw1_Make.mono _ _ _ _ _ _)
      | (with_reducible exact thyrsuslaw4_known.mono _)
      | (with_reducible exact thyrsusref4_Free.mono _ _ _ _ _)
      | (with_reducible exact LeO.refl _)
      | (with_reducible exact LeO.none _)
      | (with_reducible refine LeO.ite ?_ ?_)
      | (with_reducible refine LeO.bind ?_ (fun _ => ?_))
      | exact ih0 _ _ _ _ _ _ _ _
      | exact ih1 _ _ _ _ _ _ _ _ _
      | exact ih2 _ _ _ _ _ _ _ _ _ _ _ _
      | exact term_Below.mono _ _ _ _ _
      | exact term_Free.mono _ _ _ _ _
      | exact term_Subst.mono _ _ _ _ _ _ _ _
      | exact thyrsuslaw1_Few.mono _ _ _ _
      | exact thyrsuslaw1_Make.mono _ _ _ _ _ _
      | exact thyrsuslaw4_known.mono _
      | exact thyrsusref4_Free.mono _ _ _ _ _
      | exact LeO.none _
      | refine LeO.ite ?_ ?_
      | refine LeO.bind ?_ (fun _ => ?_)
    · intro y0 y1 y2 y3 y4 y5 y6 y7 y8 y9 y10 y11
      unfold thyrsuslaw4_TermFree.l1
      repeat' first
      | (with_reducible exact ih0 _ _ _ _ _ _ _ _)
      | (with_reducible exact ih1 _ _ _ _ _ _ _ _ _)
      | (with_reducible exact ih2 _ _ _ _ _ _ _ _ _ _ _ _)
      | (with_reducible exact term_Below.mono _ _ _ _ _)
      | (with_reducible exact term_Free.mono _ _ _ _ _)
      | (with_reducible exact term_Subst.mono _ _ _ _ _ _ _ _)
      | (with_reducible exact thyrsuslaw1_Few.mono _ _ _ _)
      | (with_reducible exact thyrsuslaw1_Make.mono _ _ _ _ _ _)
      | (with_reducible exact thyrsuslaw4_known.mono _)
      | (with_reducible exact thyrsusref4_Free.mono _ _ _ _ _)
      | (with_reducible exact LeO.refl _)
      | (with_reducible exact LeO.none _)
      | (with_reducible refine LeO.ite ?_ ?_)
      | (with_reducible refine LeO.bind ?_ (fun _ => ?_))
      | exact ih0 _ _ _ _ _ _ _ _
      | exact ih1 _ _ _ _ _ _ _ _ _
      | exact ih2 _ _ _ _ _ _ _ _ _ _ _ _
      | exact term_Below.mono _ _ _ _ _
      | exact term_Free.mono _ _ _ _ _
      | exact term_Subst.mono _ _ _ _ _ _ _ _
      | exact thyrsuslaw1_Few.mono _ _ _ _
      | exact thyrsuslaw1_Make.mono _ _ _ _ _ _
      | exact thyrsuslaw4_known.mono _
      | exact thyrsusref4_Free.mono _ _ _ _ _
      | exact LeO.none _
      | refine LeO.ite ?_ ?_
      | refine LeO.bind ?_ (fun _ => ?_)
theorem thyrsuslaw4_TermFree.mono : ∀ a0 a1 a2 a3 a4 a5 a6 k, LeO (thyrsuslaw4_TermFree.f k a0 a1 a2 a3 a4 a5 a6) (thyrsuslaw4_TermFree.f (k + 1) a0 a1 a2 a3 a4 a5 a6) := by
  intro a0 a1 a2 a3 a4 a5 a6 k
  obtain ⟨ih0, ih1, ih2⟩ := thyrsuslaw4_TermFree.mono_l k
  unfold thyrsuslaw4_TermFree.f
  repeat' first
      | (with_reducible exact ih0 _ _ _ _ _ _ _ _)
      | (with_reducible exact ih1 _ _ _ _ _ _ _ _ _)
      | (with_reducible exact ih2 _ _ _ _ _ _ _ _ _ _ _ _)
      | (with_reducible exact term_Below.mono _ _ _ _ _)
      | (with_reducible exact term_Free.mono _ _ _ _ _)
      | (with_reducible exact term_Subst.mono _ _ _ _ _ _ _ _)
      | (with_reducible exact thyrsuslaw1_Few.mono _ _ _ _)
      | (with_reducible exact thyrsuslaw1_Make.mono _ _ _ _ _ _)
      | (with_reducible exact thyrsuslaw4_known.mono _)
      | (with_reducible exact thyrsusref4_Free.mono _ _ _ _ _)
      | (with_reducible exact LeO.refl _)
      | (with_reducible exact LeO.none _)
      | (with_reducible refine LeO.ite ?_ ?_)
      | (with_reducible refine LeO.bind ?_ (fun _ => ?_))
      | exact ih0 _ _ _ _ _ _ _ _
      | exact ih1 _ _ _ _ _ _ _ _ _
      | exact ih2 _ _ _ _ _ _ _ _ _ _ _ _
      | exact term_Below.mono _ _ _ _ _
      | exact term_Free.mono _ _ _ _ _
      | exact term_Subst.mono _ _ _ _ _ _ _ _
      | exact thyrsuslaw1_Few.mono _ _ _ _
      | exact thyrsuslaw1_Make.mono _ _ _ _ _ _
      | exact thyrsuslaw4_known.mono _
      | exact thyrsusref4_Free.mono _ _ _ _ _
      | exact LeO.none _
      | refine LeO.ite ?_ ?_
      | refine LeO.bind ?_ (fun _ => ?_)
def thyrsuslaw4_TermFree.T5 : Bool × List (List Nat × List Nat) := (true, [([], []), ([0], [0]), ([], []), ([2, 1], [2]), ([], []), ([], []), ([4, 1, 3, 0, 1, 4, 5], [1, 4]), ([5, 3, 6, 0, 1, 2, 3, 4, 5, 6], [3, 5])])
def thyrsuslaw4_TermFree.B5 : List Nat := [0, 1, 0, 7, 0, 0, 63, 127]
theorem thyrsuslaw4_TermFree.tab5 : rtab .any (opsOf Tryd.f11 5) = thyrsuslaw4_TermFree.T5 := by kernel_rfl
theorem thyrsuslaw4_TermFree.bits5 : waitsOk thyrsuslaw4_TermFree.T5.2 thyrsuslaw4_TermFree.B5 = true := by kernel_rfl
def thyrsuslaw4_TermFree.T16 : Bool × List (List Nat × List Nat) := (true, [([], []), ([], []), ([0, 1], [0, 1]), ([], []), ([], []), ([4], [4]), ([3, 5, 2], [3, 5]), ([6, 6], [6]), ([7], [7]), ([8, 7, 7], [7, 8]), ([9, 9, 7], [7, 9]), ([10], [10]), ([10], [10]), ([11, 12, 10, 10], [10, 11, 12]), ([10, 13, 7], [7, 10, 13]), ([7, 14], [7, 14]), ([2, 15], [2, 15])])
def thyrsuslaw4_TermFree.B16 : List Nat := [0, 0, 3, 0, 0, 16, 63, 127, 255, 511, 1023, 2047, 2047, 8191, 16383, 32767, 65535]
theorem thyrsuslaw4_TermFree.tab16 : rtab .any (opsOf Tryd.f11 16) = thyrsuslaw4_TermFree.T16 := by kernel_rfl
theorem thyrsuslaw4_TermFree.bits16 : waitsOk thyrsuslaw4_TermFree.T16.2 thyrsuslaw4_TermFree.B16 = true := by kernel_rfl
end Go.Proofs.YtcchfblekaaalaaDoor.P
