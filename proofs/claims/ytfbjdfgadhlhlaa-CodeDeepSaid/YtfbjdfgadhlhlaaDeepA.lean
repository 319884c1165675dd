-- Printed by mkprint.py (a program of this session, over the kit's print). Lean checks it.
import Derived.Test.YtfbjdfgadhlhlaaPx0
import Derived.Test.YtfbjdfgadhlhlaaPx1
import Derived.Test.YtfbjdfgadhlhlaaPx4
import Derived.Test.YtfbjdfgadhlhlaaPx8
import Derived.Test.YtfbjdfgadhlhlaaHandD
import Derived.Test.YtfbjdfgadhlhlaaRefD
namespace Go.Proofs.Ytfbjdfgadhlhlaa.P
open Go.RowKit Go.Proofs.YtfbjdfgadhlhlaaW.PrintWords Go.Proofs.YtfbjdfgadhlhlaaW.PrintLast Go.Proofs.YtfbjdfgadhlhlaaW.PrintMore
attribute [local go_sem] max2_int min2_int max_two min_two max_three min_three max_four min_four   -- for this text's walks alone
set_option linter.unusedVariables false
set_option linter.unusedSimpArgs false

/-! ### thyrsuslaw1_CodeDeep: function 7 -/
mutual
def thyrsuslaw1_CodeDeep.j3 : Nat → Int → Bool → Int → Int → Int → List (S29) → Option (Bool)
  | 0, _, _, _, _, _, _ => none
  | k + 1, x0, x1, x2, x234000, x234001, x234002 => (thyrsusref1_Bytes.f k x234000 x234001 x234002).bind fun t244 => ((code_Parse.f t244).bind fun bt247 => ((thyrsuslaw1_within.f x2 40).bind fun t254 => (if 0 ≤ (wrap64 ((t244.length : Int) - t254)) then (if (wrap64 ((t244.length : Int) - t254)) ≤ (t244.length : Int) then ((code_Parse.f (t244.take ((wrap64 ((t244.length : Int) - t254)) : Int).toNat)).bind fun bt260 => ((thyrsuslaw1_within.f x2 40).bind fun t267 => (if 0 ≤ (wrap64 ((t244.length : Int) - t267)) then (if (wrap64 ((t244.length : Int) - t267)) ≤ (t244.length : Int) then ((thyrsusref1_Parse.f (t244.take ((wrap64 ((t244.length : Int) - t267)) : Int).toNat)).bind fun bt273 => (if x1 = true then (if x0 > 2 then (if bt247.2.2.2 = 5 then (if (bt247.2.2.1.length : Int) = 0 then (if bt260.2.2.2 = bt273.2.2.2 then (some ((bt260.2.2.1.length : Int) == 0)) else (none)) else (none)) else (none)) else (if bt247.2.2.2 = 0 then ((thyrsusref4_Same.f k bt247.1 bt247.2.1 bt247.2.2.1 x234000 x234001 x234002).bind fun t280 => (if t280 = true then (some (bt260.2.2.2 == bt273.2.2.2)) else (none))) else (none))) else (if x0 > 2 then (if bt247.2.2.2 = 5 then (if (bt247.2.2.1.length : Int) = 0 then (if bt260.2.2.2 = bt273.2.2.2 then (some ((bt260.2.2.1.length : Int) == 0)) else (none)) else (none)) else (none)) else (if bt247.2.2.2 = 0 then ((thyrsusref4_Same.f k bt247.1 bt247.2.1 bt247.2.2.1 x234000 x234001 x234002).bind fun t281 => (if t281 = true then (some (bt260.2.2.2 == bt273.2.2.2)) else (none))) else (none))))) else (none)) else (none)))) else (none)) else (none))))
def thyrsuslaw1_CodeDeep.l0 : Nat → Int → Bool → Int → Int → Int → Int → List (S29) → Option (Bool)
  | 0, _, _, _, _, _, _, _ => none
  | k + 1, x0, x1, x2, x8, x234000, x234001, x234002 => if x8 > 0 then (thyrsuslaw1_CodeDeep.l1 k x0 x1 x2 x8 (mn x8 250) 1 x234000 x234001 x234002 5 0 ([] : List (S29))) else (thyrsuslaw1_CodeDeep.j3 k x0 x1 x2 x234000 x234001 x234002)
def thyrsuslaw1_CodeDeep.l1 : Nat → Int → Bool → Int → Int → Int → Int → Int → Int → List (S29) → Int → Int → List (S29) → Option (Bool)
  | 0, _, _, _, _, _, _, _, _, _, _, _, _ => none
  | k + 1, x0, x1, x2, x8, x9, x11, x234000, x234001, x234002, x235000, x235001, x235002 => if x11 < x9 then (if x235002.length < 3518437208883 then (thyrsuslaw1_CodeDeep.l1 k x0 x1 x2 x8 x9 (wrap64 (x11 + 1)) x234000 x234001 x234002 x235000 x235001 (x235002 ++ [(⟨7, 0, ([] : List (S29))⟩ : S29)])) else (none)) else (if x234002.length < 3518437208883 then (thyrsuslaw1_CodeDeep.l0 k x0 x1 x2 (wrap64 (x8 - x9)) x234000 x234001 (x234002 ++ [(⟨x235000, x235001, x235002⟩ : S29)])) else (none))
def thyrsuslaw1_CodeDeep.l2 : Nat → Int → Bool → Int → Int → Int → Int → List (S29) → Option (Bool)
  | 0, _, _, _, _, _, _, _ => none
  | k + 1, x0, x1, x2, x12, x234000, x234001, x234002 => if x12 < (wrap64 (117 + x0)) then (thyrsuslaw1_CodeDeep.l2 k x0 x1 x2 (wrap64 (x12 + 1)) 12 0 (([(⟨x234000, x234001, x234002⟩ : S29)] : List (S29)))) else (thyrsuslaw1_CodeDeep.j3 k x0 x1 x2 x234000 x234001 x234002)
end
def thyrsuslaw1_CodeDeep.f (k : Nat) (a0 : Int) (a1 : Bool) (a2 : Int) : Option (Bool) := (thyrsuslaw1_known.f).bind fun t231 => (if t231 = true then ((thyrsuslaw1_within.f a0 5).bind fun t232 => (if a1 = true then (thyrsuslaw1_CodeDeep.l0 k t232 a1 a2 (wrap64 (2997 + t232)) 11 0 ([] : List (S29))) else (thyrsuslaw1_CodeDeep.l2 k t232 a1 a2 0 11 0 ([] : List (S29))))) else (none))
theorem thyrsuslaw1_CodeDeep.mono_l : ∀ k, (∀ y0 y1 y2 y3 y4 y5, LeO (thyrsuslaw1_CodeDeep.j3 k y0 y1 y2 y3 y4 y5) (thyrsuslaw1_CodeDeep.j3 (k + 1) y0 y1 y2 y3 y4 y5)) ∧ (∀ y0 y1 y2 y3 y4 y5 y6, LeO (thyrsuslaw1_CodeDeep.l0 k y0 y1 y2 y3 y4 y5 y6) (thyrsuslaw1_CodeDeep.l0 (k + 1) y0 y1 y2 y3 y4 y5 y6)) ∧ (∀ y0 y1 y2 y3 y4 y5 y6 y7 y8 y9 y10 y11, LeO (thyrsuslaw1_CodeDeep.l1 k y0 y1 y2 y3 y4 y5 y6 y7 y8 y9 y10 y11) (thyrsuslaw1_CodeDeep.l1 (k + 1) y0 y1 y2 y3 y4 y5 y6 y7 y8 y9 y10 y11)) ∧ (∀ y0 y1 y2 y3 y4 y5 y6, LeO (thyrsuslaw1_CodeDeep.l2 k y0 y1 y2 y3 y4 y5 y6) (thyrsuslaw1_CodeDeep.l2 (k + 1) y0 y1 y2 y3 y4 y5 y6))
  | 0 => ⟨fun _ _ _ _ _ _ r h => by simp [thyrsuslaw1_CodeDeep.j3] at h, fun _ _ _ _ _ _ _ r h => by simp [thyrsuslaw1_CodeDeep.l0] at h, fun _ _ _ _ _ _ _ _ _ _ _ _ r h => by simp [thyrsuslaw1_CodeDeep.l1] at h, fun _ _ _ _ _ _ _ r h => by simp [thyrsuslaw1_CodeDeep.l2] at h⟩
  | k + 1 => by
    obtain ⟨ih0, ih1, ih2, ih3⟩ := thyrsuslaw1_CodeDeep.mono_l k
    refine ⟨?_, ?_, ?_, ?_⟩
    · intro y0 y1 y2 y3 y4 y5
      unfold thyrsuslaw1_CodeDeep.j3
      repeat' first
      | (with_reducible exact ih0 _ _ _ _ _ _)
      | (with_reducible exact ih1 _ _ _ _ _ _ _)
      | (with_reducible exact ih2 _ _ _ _ _ _ _ _ _ _ _ _)
      | (with_reducible exact ih3 _ _ _ _ _ _ _)
      | (with_reducible exact thyrsusref1_Bytes.mono _ _ _ _)
      | (with_reducible exact thyrsusref4_Same.mono _ _ _ _ _ _ _)
      | (with_reducible exact LeO.refl _)
      | (with_reducible exact LeO.none _)
      | (with_reducible refine LeO.ite ?_ ?_)
      | (with_reducible refine LeO.bind ?_ (fun _ => ?_))
      | exact ih0 _ _ _ _ _ _
      | exact ih1 _ _ _ _ _ _ _
      | exact ih2 _ _ _ _ _ _ _ _ _ _ _ _
      | exact ih3 _ _ _ _ _ _ _
      | exact thyrsusref1_Bytes.mono _ _ _ _
      | exact thyrsusref4_Same.mono _ _ _ _ _ _ _
      | exact LeO.none _
      | refine LeO.ite ?_ ?_
      | refine LeO.bind ?_ (fun _ => ?_)
    · intro y0 y1 y2 y3 y4 y5 y6
      unfold thyrsuslaw1_CodeDeep.l0
      repeat' first
      | (with_reducible exact ih0 _ _ _ _ _ _)
      | (with_reducible exact ih1 _ _ _ _ _ _ _)
      | (with_reducible exact ih2 _ _ _ _ _ _ _ _ _ _ _ _)
      | (with_reducible exact ih3 _ _ _ _ _ _ _)
      | (with_reducible exact thyrsusref1_Bytes.mono _ _ _ _)
      | (with_reducible exact thyrsusref4_Same.mono _ _ _ _ _ _ _)
      | (with_reducible exact LeO.refl _)
      | (with_reducible exact LeO.none _)
      | (with_reducible refine LeO.ite ?_ ?_)
      | (with_reducible refine LeO.bind ?_ (fun _ => ?_))
      | exact ih0 _ _ _ _ _ _
      | exact ih1 _ _ _ _ _ _ _
      | exact ih2 _ _ _ _ _ _ _ _ _ _ _ _
      | exact ih3 _ _ _ _ _ _ _
      | exact thyrsusref1_Bytes.mono _ _ _ _
      | exact thyrsusref4_Same.mono _ _ _ _ _ _ _
      | exact LeO.none _
      | refine LeO.ite ?_ ?_
      | refine LeO.bind ?_ (fun _ => ?_)
    · intro y0 y1 y2 y3 y4 y5 y6 y7 y8 y9 y10 y11
      unfold thyrsuslaw1_CodeDeep.l1
      repeat' first
      | (with_reducible exact ih0 _ _ _ _ _ _)
      | (with_reducible exact ih1 _ _ _ _ _ _ _)
      | (with_reducible exact ih2 _ _ _ _ _ _ _ _ _ _ _ _)
      | (with_reducible exact ih3 _ _ _ _ _ _ _)
      | (with_reducible exact thyrsusref1_Bytes.mono _ _ _ _)
      | (with_reducible exact thyrsusref4_Same.mono _ _ _ _ _ _ _)
      | (with_reducible exact LeO.refl _)
      | (with_reducible exact LeO.none _)
      | (with_reducible refine LeO.ite ?_ ?_)
      | (with_reducible refine LeO.bind ?_ (fun _ => ?_))
      | exact ih0 _ _ _ _ _ _
      | exact ih1 _ _ _ _ _ _ _
      | exact ih2 _ _ _ _ _ _ _ _ _ _ _ _
      | exact ih3 _ _ _ _ _ _ _
      | exact thyrsusref1_Bytes.mono _ _ _ _
      | exact thyrsusref4_Same.mono _ _ _ _ _ _ _
      | exact LeO.none _
      | refine LeO.ite ?_ ?_
      | refine LeO.bind ?_ (fun _ => ?_)
    · intro y0 y1 y2 y3 y4 y5 y6
      unfold thyrsuslaw1_CodeDeep.l2
      repeat' first
      | (with_reducible exact ih0 _ _ _ _ _ _)
      | (with_reducible exact ih1 _ _ _ _ _ _ _)
      | (with_reducible exact ih2 _ _ _ _ _ _ _ _ _ _ _ _)
      | (with_reducible exact ih3 _ _ _ _ _ _ _)
      | (with_reducible exact thyrsusref1_Bytes.mono _ _ _ _)
      | (with_reducible exact thyrsusref4_Same.mono _ _ _ _ _ _ _)
      | (with_reducible exact LeO.refl _)
      | (with_reducible exact LeO.none _)
      | (with_reducible refine LeO.ite ?_ ?_)
      | (with_reducible refine LeO.bind ?_ (fun _ => ?_))
      | exact ih0 _ _ _ _ _ _
      | exact ih1 _ _ _ _ _ _ _
      | exact ih2 _ _ _ _ _ _ _ _ _ _ _ _
      | exact ih3 _ _ _ _ _ _ _
      | exact thyrsusref1_Bytes.mono _ _ _ _
      | exact thyrsusref4_Same.mono _ _ _ _ _ _ _
      | exact LeO.none _
      | refine LeO.ite ?_ ?_
      | refine LeO.bind ?_ (fun _ => ?_)
theorem thyrsuslaw1_CodeDeep.mono : ∀ a0 a1 a2 k, LeO (thyrsuslaw1_CodeDeep.f k a0 a1 a2) (thyrsuslaw1_CodeDeep.f (k + 1) a0 a1 a2) := by
  intro a0 a1 a2 k
  obtain ⟨ih0, ih1, ih2, ih3⟩ := thyrsuslaw1_CodeDeep.mono_l k
  unfold thyrsuslaw1_CodeDeep.f
  repeat' first
      | (with_reducible exact ih0 _ _ _ _ _ _)
      | (with_reducible exact ih1 _ _ _ _ _ _ _)
      | (with_reducible exact ih2 _ _ _ _ _ _ _ _ _ _ _ _)
      | (with_reducible exact ih3 _ _ _ _ _ _ _)
      | (with_reducible exact thyrsusref1_Bytes.mono _ _ _ _)
      | (with_reducible exact thyrsusref4_Same.mono _ _ _ _ _ _ _)
      | (with_reducible exact LeO.refl _)
      | (with_reducible exact LeO.none _)
      | (with_reducible refine LeO.ite ?_ ?_)
      | (with_reducible refine LeO.bind ?_ (fun _ => ?_))
      | exact ih0 _ _ _ _ _ _
      | exact ih1 _ _ _ _ _ _ _
      | exact ih2 _ _ _ _ _ _ _ _ _ _ _ _
      | exact ih3 _ _ _ _ _ _ _
      | exact thyrsusref1_Bytes.mono _ _ _ _
      | exact thyrsusref4_Same.mono _ _ _ _ _ _ _
      | exact LeO.none _
      | refine LeO.ite ?_ ?_
      | refine LeO.bind ?_ (fun _ => ?_)
end Go.Proofs.Ytfbjdfgadhlhlaa.P
