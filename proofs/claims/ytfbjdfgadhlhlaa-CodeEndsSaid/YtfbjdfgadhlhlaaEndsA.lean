-- Printed by mkprint.py (a program of this session, over the kit's print). Lean checks it.
import Derived.Test.YtfbjdfgadhlhlaaPx0
import Derived.Test.YtfbjdfgadhlhlaaPx1
import Derived.Test.YtfbjdfgadhlhlaaPx4
import Derived.Test.YtfbjdfgadhlhlaaPx7
import Derived.Test.YtfbjdfgadhlhlaaPx8
import Derived.Test.YtfbjdfgadhlhlaaHandD
import Derived.Test.YtfbjdfgadhlhlaaHandF
namespace Go.Proofs.Ytfbjdfgadhlhlaa.P
open Go.RowKit Go.Proofs.YtfbjdfgadhlhlaaW.PrintWords Go.Proofs.YtfbjdfgadhlhlaaW.PrintLast Go.Proofs.YtfbjdfgadhlhlaaW.PrintMore
attribute [local go_sem] max2_int min2_int max_two min_two max_three min_three max_four min_four   -- for this text's walks alone
set_option linter.unusedVariables false
set_option linter.unusedSimpArgs false

/-! ### thyrsuslaw1_CodeEnds: function 8 -/
def thyrsuslaw1_CodeEnds.f (k : Nat) (a0_0 : Int) (a0_1 : Int) (l0_2 : List (S24)) (a1 : Int) (a2 : Int) : Option (Bool) := (thyrsuslaw1_known.f).bind fun t363 => (if t363 = true then ((thyrsuslaw1_Few.f k a0_0 a0_1 l0_2).bind fun t364 => (if t364 = true then ((thyrsuslaw1_Make.f k a0_0 a0_1 l0_2 4 2).bind fun bt365 => ((some (([9223372036854775807, (-9223372036854775808), (-1), a1] : List Int) : List Int)).bind fun y371 => ((thyrsuslaw1_within.f a1 4).bind fun t374 => (if 0 ≤ t374 then (if t374 < (y371.length : Int) then ((some (([(⟨bt365.1, bt365.2.1, bt365.2.2⟩ : S29)] : List (S29)) : List (S29))).bind fun y376 => ((code_Bytes.f 7 (rd y371 t374) y376).bind fun t379 => ((code_Parse.f t379).bind fun bt382 => ((some (([] : List Int) : List Int)).bind fun y389 => (if y389.length + t379.length < 140737488355328 then ((some (y389 ++ t379 : List Int)).bind fun y392 => (if y392.length < 140737488355328 then ((code_Parse.f (y392 ++ [a2])).bind fun bt398 => (if (t379.length : Int) = 0 then (none) else (if 0 ≤ (wrap64 ((t379.length : Int) - 1)) then (if (wrap64 ((t379.length : Int) - 1)) ≤ (t379.length : Int) then ((code_Parse.f (t379.take ((wrap64 ((t379.length : Int) - 1)) : Int).toNat)).bind fun bt410 => (if bt382.2.2.2 = 0 then ((thyrsusref4_Same.f k bt382.1 bt382.2.1 bt382.2.2.1 7 (rd y371 t374) y376).bind fun t417 => (if t417 = true then (if bt398.2.2.2 = 3 then (if bt410.2.2.2 = 2 then ((thyrsusref1_Bytes.f k 7 (rd y371 t374) y376).bind fun t418 => (some ((strOfNums t379).toList == (strOfNums t418).toList))) else (none)) else (none)) else (none))) else (none))) else (none)) else (none)))) else (none))) else (none)))))) else (none)) else (none))))) else (some true))) else (none))
theorem thyrsuslaw1_CodeEnds.mono : ∀ a0 a1 a2 a3 a4 k, LeO (thyrsuslaw1_CodeEnds.f k a0 a1 a2 a3 a4) (thyrsuslaw1_CodeEnds.f (k + 1) a0 a1 a2 a3 a4) := by
  intro a0 a1 a2 a3 a4 k
  unfold thyrsuslaw1_CodeEnds.f
  repeat' first
      | (with_reducible exact thyrsuslaw1_Few.mono _ _ _ _)
      | (with_reducible exact thyrsuslaw1_Make.mono _ _ _ _ _ _)
      | (with_reducible exact thyrsusref1_Bytes.mono _ _ _ _)
      | (with_reducible exact thyrsusref4_Same.mono _ _ _ _ _ _ _)
      | (with_reducible exact LeO.refl _)
      | (with_reducible exact LeO.none _)
      | (with_reducible refine LeO.ite ?_ ?_)
      | (with_reducible refine LeO.bind ?_ (fun _ => ?_))
      | exact thyrsuslaw1_Few.mono _ _ _ _
      | exact thyrsuslaw1_Make.mono _ _ _ _ _ _
      | exact thyrsusref1_Bytes.mono _ _ _ _
      | exact thyrsusref4_Same.mono _ _ _ _ _ _ _
      | exact LeO.none _
      | refine LeO.ite ?_ ?_
      | refine LeO.bind ?_ (fun _ => ?_)
def thyrsuslaw1_CodeEnds.T6 : Bool × List (List Nat × List Nat) := (true, [([], []), ([0], [0]), ([], []), ([2], [2]), ([1, 3], [1, 3]), ([4], [4]), ([], []), ([6], [6]), ([5, 7], [5, 7]), ([8, 3, 0, 1, 2, 3, 4, 5, 6, 7, 8], [8])])
def thyrsuslaw1_CodeEnds.B6 : List Nat := [0, 1, 0, 4, 15, 31, 0, 64, 255, 511]
theorem thyrsuslaw1_CodeEnds.tab6 : rtab .any (opsOf Try.f8 6) = thyrsuslaw1_CodeEnds.T6 := by kernel_rfl
theorem thyrsuslaw1_CodeEnds.bits6 : waitsOk thyrsuslaw1_CodeEnds.T6.2 thyrsuslaw1_CodeEnds.B6 = true := by kernel_rfl
def thyrsuslaw1_CodeEnds.T13 : Bool × List (List Nat × List Nat) := (true, [([], []), ([0], [0]), ([1], [1]), ([2], [2]), ([2], [2]), ([3, 4, 2, 2], [2, 3, 4]), ([2, 5], [2, 5]), ([6, 5], [6]), ([7], [7]), ([8, 7], [7, 8]), ([7, 9], [7, 9]), ([10, 7], [10]), ([11], [11]), ([12, 11], [11, 12]), ([11, 13], [11, 13]), ([14, 11], [14]), ([15], [15]), ([16, 15], [15, 16]), ([15], [15]), ([18, 15, 15], [15, 18]), ([19, 15], [15, 19]), ([17, 20, 15], [15, 17, 20]), ([15, 21], [15, 21]), ([22, 19, 0, 1, 2, 3, 4, 5, 6, 7, 8, 9, 10, 11, 12, 13, 14, 15, 16, 17, 18, 19, 20, 21, 22], [22])])
def thyrsuslaw1_CodeEnds.B13 : List Nat := [0, 1, 3, 7, 7, 31, 63, 127, 255, 511, 1023, 2047, 4095, 8191, 16383, 32767, 65535, 131071, 65535, 327679, 851967, 2097151, 4194303, 8388607]
theorem thyrsuslaw1_CodeEnds.tab13 : rtab .any (opsOf Try.f8 13) = thyrsuslaw1_CodeEnds.T13 := by kernel_rfl
theorem thyrsuslaw1_CodeEnds.bits13 : waitsOk thyrsuslaw1_CodeEnds.T13.2 thyrsuslaw1_CodeEnds.B13 = true := by kernel_rfl
set_option maxHeartbeats 8000000 in
set_option maxRecDepth 100000 in
theorem thyrsuslaw1_CodeEnds.calls (k : Nat) (a0_0 : Int) (a0_1 : Int) (A0_2 : Option Addr) (c0_2 : Nat) (l0_2 : List (S24)) (a1 : Int) (a2 : Int) (r : Bool) (w : World) (hr0_2 : Kd.C k24 w A0_2 l0_2.length l0_2) (hc0_2 : l0_2.length ≤ c0_2) (h : thyrsuslaw1_CodeEnds.f k a0_0 a0_1 l0_2 a1 a2 = some r) :
    Calls Try.prog 8 #[.agg #[.int .i64 a0_0, .int .i64 a0_1, .slice A0_2 l0_2.length c0_2], .int .i64 a1, .int .u8 a2] w fun e w' => e = .returned (.bool r) ∧ Below w.heap.size w w' := by
  have hu24 := Try.underlying24
  have hu29 := Try.underlying29
  have HR0_2 := Aside0.mk hr0_2
  have HC0_2 := Aside0.mk hc0_2
  clear hr0_2 hc0_2
  have HB := Aside0.mk (Below.refl w.heap.size w)
  have H : ((thyrsuslaw1_known.f).bind fun t363 => (if t363 = true then ((thyrsuslaw1_Few.f k a0_0 a0_1 l0_2).bind fun t364 => (if t364 = true then ((thyrsuslaw1_Make.f k a0_0 a0_1 l0_2 4 2).bind fun bt365 => ((some (([9223372036854775807, (-9223372036854775808), (-1), a1] : List Int) : List Int)).bind fun y371 => ((thyrsuslaw1_within.f a1 4).bind fun t374 => (if 0 ≤ t374 then (if t374 < (y371.length : Int) then ((some (([(⟨bt365.1, bt365.2.1, bt365.2.2⟩ : S29)] : List (S29)) : List (S29))).bind fun y376 => ((code_Bytes.f 7 (rd y371 t374) y376).bind fun t379 => ((code_Parse.f t379).bind fun bt382 => ((some (([] : List Int) : List Int)).bind fun y389 => (if y389.length + t379.length < 140737488355328 then ((some (y389 ++ t379 : List Int)).bind fun y392 => (if y392.length < 140737488355328 then ((code_Parse.f (y392 ++ [a2])).bind fun bt398 => (if (t379.length : Int) = 0 then (none) else (if 0 ≤ (wrap64 ((t379.length : Int) - 1)) then (if (wrap64 ((t379.length : Int) - 1)) ≤ (t379.length : Int) then ((code_Parse.f (t379.take ((wrap64 ((t379.length : Int) - 1)) : Int).toNat)).bind fun bt410 => (if bt382.2.2.2 = 0 then ((thyrsusref4_Same.f k bt382.1 bt382.2.1 bt382.2.2.1 7 (rd y371 t374) y376).bind fun t417 => (if t417 = true then (if bt398.2.2.2 = 3 then (if bt410.2.2.2 = 2 then ((thyrsusref1_Bytes.f k 7 (rd y371 t374) y376).bind fun t418 => (some ((strOfNums t379).toList == (strOfNums t418).toList))) else (none)) else (none)) else (none))) else (none))) else (none)) else (none)))) else (none))) else (none)))))) else (none)) else (none))))) else (some true))) else (none))) = some r := h
  clear h
  replace H := Option.bind_eq_some_iff.mp H
  obtain ⟨t363, A40, H⟩ := H
  replace H : (if t363 = true then ((thyrsuslaw1_Few.f k a0_0 a0_1 l0_2).bind fun t364 => (if t364 = true then ((thyrsuslaw1_Make.f k a0_0 a0_1 l0_2 4 2).bind fun bt365 => ((some (([9223372036854775807, (-9223372036854775808), (-1), a1] : List Int) : List Int)).bind fun y371 => ((thyrsuslaw1_within.f a1 4).bind fun t374 => (if 0 ≤ t374 then (if t374 < (y371.length : Int) then ((some (([(⟨bt365.1, bt365.2.1, bt365.2.2⟩ : S29)] : List (S29)) : List (S29))).bind fun y376 => ((code_Bytes.f 7 (rd y371 t374) y376).bind fun t379 => ((code_Parse.f t379).bind fun bt382 => ((some (([] : List Int) : List Int)).bind fun y389 => (if y389.length + t379.length < 140737488355328 then ((some (y389 ++ t379 : List Int)).bind fun y392 => (if y392.length < 140737488355328 then ((code_Parse.f (y392 ++ [a2])).bind fun bt398 => (if (t379.length : Int) = 0 then (none) else (if 0 ≤ (wrap64 ((t379.length : Int) - 1)) then (if (wrap64 ((t379.length : Int) - 1)) ≤ (t379.length : Int) then ((code_Parse.f (t379.take ((wrap64 ((t379.length : Int) - 1)) : Int).toNat)).bind fun bt410 => (if bt382.2.2.2 = 0 then ((thyrsusref4_Same.f k bt382.1 bt382.2.1 bt382.2.2.1 7 (rd y371 t374) y376).bind fun t417 => (if t417 = true then (if bt398.2.2.2 = 3 then (if bt410.2.2.2 = 2 then ((thyrsusref1_Bytes.f k 7 (rd y371 t374) y376).bind fun t418 => (some ((strOfNums t379).toList == (strOfNums t418).toList))) else (none)) else (none)) else (none))) else (none))) else (none)) else (none)))) else (none))) else (none)))))) else (none)) else (none))))) else (some true))) else (none)) = some r := H
  have A4 := Aside0.mk A40
  clear A40
  by_cases c5 : t363 = true
  · subst c5
    have H1 : ((thyrsuslaw1_Few.f k a0_0 a0_1 l0_2).bind fun t364 => (if t364 = true then ((thyrsuslaw1_Make.f k a0_0 a0_1 l0_2 4 2).bind fun bt365 => ((some (([9223372036854775807, (-9223372036854775808), (-1), a1] : List Int) : List Int)).bind fun y371 => ((thyrsuslaw1_within.f a1 4).bind fun t374 => (if 0 ≤ t374 then (if t374 < (y371.length : Int) then ((some (([(⟨bt365.1, bt365.2.1, bt365.2.2⟩ : S29)] : List (S29)) : List (S29))).bind fun y376 => ((code_Bytes.f 7 (rd y371 t374) y376).bind fun t379 => ((code_Parse.f t379).bind fun bt382 => ((some (([] : List Int) : List Int)).bind fun y389 => (if y389.length + t379.length < 140737488355328 then ((some (y389 ++ t379 : List Int)).bind fun y392 => (if y392.length < 140737488355328 then ((code_Parse.f (y392 ++ [a2])).bind fun bt398 => (if (t379.length : Int) = 0 then (none) else (if 0 ≤ (wrap64 ((t379.length : Int) - 1)) then (if (wrap64 ((t379.length : Int) - 1)) ≤ (t379.length : Int) then ((code_Parse.f (t379.take ((wrap64 ((t379.length : Int) - 1)) : Int).toNat)).bind fun bt410 => (if bt382.2.2.2 = 0 then ((thyrsusref4_Same.f k bt382.1 bt382.2.1 bt382.2.2.1 7 (rd y371 t374) y376).bind fun t417 => (if t417 = true then (if bt398.2.2.2 = 3 then (if bt410.2.2.2 = 2 then ((thyrsusref1_Bytes.f k 7 (rd y371 t374) y376).bind fun t418 => (some ((strOfNums t379).toList == (strOfNums t418).toList))) else (none)) else (none)) else (none))) else (none))) else (none)) else (none)))) else (none))) else (none)))))) else (none)) else (none))))) else (some true))) = some r := by rw [if_pos rfl] at H; exact H
    clear H
    have H := H1
    clear H1
    replace H := Option.bind_eq_some_iff.mp H
    obtain ⟨t364, A60, H⟩ := H
    replace H : (if t364 = true then ((thyrsuslaw1_Make.f k a0_0 a0_1 l0_2 4 2).bind fun bt365 => ((some (([9223372036854775807, (-9223372036854775808), (-1), a1] : List Int) : List Int)).bind fun y371 => ((thyrsuslaw1_within.f a1 4).bind fun t374 => (if 0 ≤ t374 then (if t374 < (y371.length : Int) then ((some (([(⟨bt365.1, bt365.2.1, bt365.2.2⟩ : S29)] : List (S29)) : List (S29))).bind fun y376 => ((code_Bytes.f 7 (rd y371 t374) y376).bind fun t379 => ((code_Parse.f t379).bind fun bt382 => ((some (([] : List Int) : List Int)).bind fun y389 => (if y389.length + t379.length < 140737488355328 then ((some (y389 ++ t379 : List Int)).bind fun y392 => (if y392.length < 140737488355328 then ((code_Parse.f (y392 ++ [a2])).bind fun bt398 => (if (t379.length : Int) = 0 then (none) else (if 0 ≤ (wrap64 ((t379.length : Int) - 1)) then (if (wrap64 ((t379.length : Int) - 1)) ≤ (t379.length : Int) then ((code_Parse.f (t379.take ((wrap64 ((t379.length : Int) - 1)) : Int).toNat)).bind fun bt410 => (if bt382.2.2.2 = 0 then ((thyrsusref4_Same.f k bt382.1 bt382.2.1 bt382.2.2.1 7 (rd y371 t374) y376).bind fun t417 => (if t417 = true then (if bt398.2.2.2 = 3 then (if bt410.2.2.2 = 2 then ((thyrsusref1_Bytes.f k 7 (rd y371 t374) y376).bind fun t418 => (some ((strOfNums t379).toList == (strOfNums t418).toList))) else (none)) else (none)) else (none))) else (none))) else (none)) else (none)))) else (none))) else (none)))))) else (none)) else (none))))) else (some true)) = some r := H
    have A6 := Aside0.mk A60
    clear A60
    by_cases c7 : t364 = true
    · subst c7
      have H1 : ((thyrsuslaw1_Make.f k a0_0 a0_1 l0_2 4 2).bind fun bt365 => ((some (([9223372036854775807, (-9223372036854775808), (-1), a1] : List Int) : List Int)).bind fun y371 => ((thyrsuslaw1_within.f a1 4).bind fun t374 => (if 0 ≤ t374 then (if t374 < (y371.length : Int) then ((some (([(⟨bt365.1, bt365.2.1, bt365.2.2⟩ : S29)] : List (S29)) : List (S29))).bind fun y376 => ((code_Bytes.f 7 (rd y371 t374) y376).bind fun t379 => ((code_Parse.f t379).bind fun bt382 => ((some (([] : List Int) : List Int)).bind fun y389 => (if y389.length + t379.length < 140737488355328 then ((some (y389 ++ t379 : List Int)).bind fun y392 => (if y392.length < 140737488355328 then ((code_Parse.f (y392 ++ [a2])).bind fun bt398 => (if (t379.length : Int) = 0 then (none) else (if 0 ≤ (wrap64 ((t379.length : Int) - 1)) then (if (wrap64 ((t379.length : Int) - 1)) ≤ (t379.length : Int) then ((code_Parse.f (t379.take ((wrap64 ((t379.length : Int) - 1)) : Int).toNat)).bind fun bt410 => (if bt382.2.2.2 = 0 then ((thyrsusref4_Same.f k bt382.1 bt382.2.1 bt382.2.2.1 7 (rd y371 t374) y376).bind fun t417 => (if t417 = true then (if bt398.2.2.2 = 3 then (if bt410.2.2.2 = 2 then ((thyrsusref1_Bytes.f k 7 (rd y371 t374) y376).bind fun t418 => (some ((strOfNums t379).toList == (strOfNums t418).toList))) else (none)) else (none)) else (none))) else (none))) else (none)) else (none)))) else (none))) else (none)))))) else (none)) else (none))))) = some r := by rw [if_pos rfl] at H; exact H
      clear H
      have H := H1
      clear H1
      replace H := Option.bind_eq_some_iff.mp H
      obtain ⟨⟨t365, t366, t367⟩, A80, H⟩ := H
      replace H : ((some (([9223372036854775807, (-9223372036854775808), (-1), a1] : List Int) : List Int)).bind fun y371 => ((thyrsuslaw1_within.f a1 4).bind fun t374 => (if 0 ≤ t374 then (if t374 < (y371.length : Int) then ((some (([(⟨t365, t366, t367⟩ : S29)] : List (S29)) : List (S29))).bind fun y376 => ((code_Bytes.f 7 (rd y371 t374) y376).bind fun t379 => ((code_Parse.f t379).bind fun bt382 => ((some (([] : List Int) : List Int)).bind fun y389 => (if y389.length + t379.length < 140737488355328 then ((some (y389 ++ t379 : List Int)).bind fun y392 => (if y392.length < 140737488355328 then ((code_Parse.f (y392 ++ [a2])).bind fun bt398 => (if (t379.length : Int) = 0 then (none) else (if 0 ≤ (wrap64 ((t379.length : Int) - 1)) then (if (wrap64 ((t379.length : Int) - 1)) ≤ (t379.length : Int) then ((code_Parse.f (t379.take ((wrap64 ((t379.length : Int) - 1)) : Int).toNat)).bind fun bt410 => (if bt382.2.2.2 = 0 then ((thyrsusref4_Same.f k bt382.1 bt382.2.1 bt382.2.2.1 7 (rd y371 t374) y376).bind fun t417 => (if t417 = true then (if bt398.2.2.2 = 3 then (if bt410.2.2.2 = 2 then ((thyrsusref1_Bytes.f k 7 (rd y371 t374) y376).bind fun t418 => (some ((strOfNums t379).toList == (strOfNums t418).toList))) else (none)) else (none)) else (none))) else (none))) else (none)) else (none)))) else (none))) else (none)))))) else (none)) else (none)))) = some r := H
      have A8 := Aside0.mk A80
      clear A80
      obtain ⟨y371, hy371⟩ : ∃ y_ : List Int, y_ = (([9223372036854775807, (-9223372036854775808), (-1), a1] : List Int)) := ⟨_, rfl⟩
      replace H : ((thyrsuslaw1_within.f a1 4).bind fun t374 => (if 0 ≤ t374 then (if t374 < (y371.length : Int) then ((some (([(⟨t365, t366, t367⟩ : S29)] : List (S29)) : List (S29))).bind fun y376 => ((code_Bytes.f 7 (rd y371 t374) y376).bind fun t379 => ((code_Parse.f t379).bind fun bt382 => ((some (([] : List Int) : List Int)).bind fun y389 => (if y389.length + t379.length < 140737488355328 then ((some (y389 ++ t379 : List Int)).bind fun y392 => (if y392.length < 140737488355328 then ((code_Parse.f (y392 ++ [a2])).bind fun bt398 => (if (t379.length : Int) = 0 then (none) else (if 0 ≤ (wrap64 ((t379.length : Int) - 1)) then (if (wrap64 ((t379.length : Int) - 1)) ≤ (t379.length : Int) then ((code_Parse.f (t379.take ((wrap64 ((t379.length : Int) - 1)) : Int).toNat)).bind fun bt410 => (if bt382.2.2.2 = 0 then ((thyrsusref4_Same.f k bt382.1 bt382.2.1 bt382.2.2.1 7 (rd y371 t374) y376).bind fun t417 => (if t417 = true then (if bt398.2.2.2 = 3 then (if bt410.2.2.2 = 2 then ((thyrsusref1_Bytes.f k 7 (rd y371 t374) y376).bind fun t418 => (some ((strOfNums t379).toList == (strOfNums t418).toList))) else (none)) else (none)) else (none))) else (none))) else (none)) else (none)))) else (none))) else (none)))))) else (none)) else (none))) = some r := by first | (rw [hy371]; with_reducible exact H) | (have H2_ := (Option.bind_some _ _).symm.trans H; rw [hy371]; with_reducible exact H2_) | (have H2_ := (Option.bind_some _ _).symm.trans H; with_reducible exact H2_) | with_reducible exact H | (rw [hy371]; exact H) | exact H
      have Ny371 := Aside0.mk hy371
      clear hy371
      replace H := Option.bind_eq_some_iff.mp H
      obtain ⟨t374, A90, H⟩ := H
      replace H : (if 0 ≤ t374 then (if t374 < (y371.length : Int) then ((some (([(⟨t365, t366, t367⟩ : S29)] : List (S29)) : List (S29))).bind fun y376 => ((code_Bytes.f 7 (rd y371 t374) y376).bind fun t379 => ((code_Parse.f t379).bind fun bt382 => ((some (([] : List Int) : List Int)).bind fun y389 => (if y389.length + t379.length < 140737488355328 then ((some (y389 ++ t379 : List Int)).bind fun y392 => (if y392.length < 140737488355328 then ((code_Parse.f (y392 ++ [a2])).bind fun bt398 => (if (t379.length : Int) = 0 then (none) else (if 0 ≤ (wrap64 ((t379.length : Int) - 1)) then (if (wrap64 ((t379.length : Int) - 1)) ≤ (t379.length : Int) then ((code_Parse.f (t379.take ((wrap64 ((t379.length : Int) - 1)) : Int).toNat)).bind fun bt410 => (if bt382.2.2.2 = 0 then ((thyrsusref4_Same.f k bt382.1 bt382.2.1 bt382.2.2.1 7 (rd y371 t374) y376).bind fun t417 => (if t417 = true then (if bt398.2.2.2 = 3 then (if bt410.2.2.2 = 2 then ((thyrsusref1_Bytes.f k 7 (rd y371 t374) y376).bind fun t418 => (some ((strOfNums t379).toList == (strOfNums t418).toList))) else (none)) else (none)) else (none))) else (none))) else (none)) else (none)))) else (none))) else (none)))))) else (none)) else (none)) = some r := H
      have A9 := Aside0.mk A90
      clear A90
      by_cases c10 : 0 ≤ t374
      · rw [if_pos c10] at H
        have c10b0 : decide (0 ≤ t374) = true := decide_eq_true c10
        clear c10
        by_cases c11 : t374 < (y371.length : Int)
        · rw [if_pos c11] at H
          have c11b0 : decide (t374 < (y371.length : Int)) = true := decide_eq_true c11
          clear c11
          obtain ⟨y376, hy376⟩ : ∃ y_ : List (S29), y_ = (([(⟨t365, t366, t367⟩ : S29)] : List (S29))) := ⟨_, rfl⟩
          replace H : ((code_Bytes.f 7 (rd y371 t374) y376).bind fun t379 => ((code_Parse.f t379).bind fun bt382 => ((some (([] : List Int) : List Int)).bind fun y389 => (if y389.length + t379.length < 140737488355328 then ((some (y389 ++ t379 : List Int)).bind fun y392 => (if y392.length < 140737488355328 then ((code_Parse.f (y392 ++ [a2])).bind fun bt398 => (if (t379.length : Int) = 0 then (none) else (if 0 ≤ (wrap64 ((t379.length : Int) - 1)) then (if (wrap64 ((t379.length : Int) - 1)) ≤ (t379.length : Int) then ((code_Parse.f (t379.take ((wrap64 ((t379.length : Int) - 1)) : Int).toNat)).bind fun bt410 => (if bt382.2.2.2 = 0 then ((thyrsusref4_Same.f k bt382.1 bt382.2.1 bt382.2.2.1 7 (rd y371 t374) y376).bind fun t417 => (if t417 = true then (if bt398.2.2.2 = 3 then (if bt410.2.2.2 = 2 then ((thyrsusref1_Bytes.f k 7 (rd y371 t374) y376).bind fun t418 => (some ((strOfNums t379).toList == (strOfNums t418).toList))) else (none)) else (none)) else (none))) else (none))) else (none)) else (none)))) else (none))) else (none))))) = some r := by first | (rw [hy376]; with_reducible exact H) | (have H2_ := (Option.bind_some _ _).symm.trans H; rw [hy376]; with_reducible exact H2_) | (have H2_ := (Option.bind_some _ _).symm.trans H; with_reducible exact H2_) | with_reducible exact H | (rw [hy376]; exact H) | exact H
          have Ny376 := Aside0.mk hy376
          clear hy376
          replace H := Option.bind_eq_some_iff.mp H
          obtain ⟨t379, A120, H⟩ := H
          replace H : ((code_Parse.f t379).bind fun bt382 => ((some (([] : List Int) : List Int)).bind fun y389 => (if y389.length + t379.length < 140737488355328 then ((some (y389 ++ t379 : List Int)).bind fun y392 => (if y392.length < 140737488355328 then ((code_Parse.f (y392 ++ [a2])).bind fun bt398 => (if (t379.length : Int) = 0 then (none) else (if 0 ≤ (wrap64 ((t379.length : Int) - 1)) then (if (wrap64 ((t379.length : Int) - 1)) ≤ (t379.length : Int) then ((code_Parse.f (t379.take ((wrap64 ((t379.length : Int) - 1)) : Int).toNat)).bind fun bt410 => (if bt382.2.2.2 = 0 then ((thyrsusref4_Same.f k bt382.1 bt382.2.1 bt382.2.2.1 7 (rd y371 t374) y376).bind fun t417 => (if t417 = true then (if bt398.2.2.2 = 3 then (if bt410.2.2.2 = 2 then ((thyrsusref1_Bytes.f k 7 (rd y371 t374) y376).bind fun t418 => (some ((strOfNums t379).toList == (strOfNums t418).toList))) else (none)) else (none)) else (none))) else (none))) else (none)) else (none)))) else (none))) else (none)))) = some r := H
          have A12 := Aside0.mk A120
          clear A120
          replace H := Option.bind_eq_some_iff.mp H
          obtain ⟨⟨t382, t383, t384, t387⟩, A130, H⟩ := H
          replace H : ((some (([] : List Int) : List Int)).bind fun y389 => (if y389.length + t379.length < 140737488355328 then ((some (y389 ++ t379 : List Int)).bind fun y392 => (if y392.length < 140737488355328 then ((code_Parse.f (y392 ++ [a2])).bind fun bt398 => (if (t379.length : Int) = 0 then (none) else (if 0 ≤ (wrap64 ((t379.length : Int) - 1)) then (if (wrap64 ((t379.length : Int) - 1)) ≤ (t379.length : Int) then ((code_Parse.f (t379.take ((wrap64 ((t379.length : Int) - 1)) : Int).toNat)).bind fun bt410 => (if t387 = 0 then ((thyrsusref4_Same.f k t382 t383 t384 7 (rd y371 t374) y376).bind fun t417 => (if t417 = true then (if bt398.2.2.2 = 3 then (if bt410.2.2.2 = 2 then ((thyrsusref1_Bytes.f k 7 (rd y371 t374) y376).bind fun t418 => (some ((strOfNums t379).toList == (strOfNums t418).toList))) else (none)) else (none)) else (none))) else (none))) else (none)) else (none)))) else (none))) else (none))) = some r := H
          have A13 := Aside0.mk A130
          clear A130
          obtain ⟨y389, hy389⟩ : ∃ y_ : List Int, y_ = (([] : List Int)) := ⟨_, rfl⟩
          replace H : (if y389.length + t379.length < 140737488355328 then ((some (y389 ++ t379 : List Int)).bind fun y392 => (if y392.length < 140737488355328 then ((code_Parse.f (y392 ++ [a2])).bind fun bt398 => (if (t379.length : Int) = 0 then (none) else (if 0 ≤ (wrap64 ((t379.length : Int) - 1)) then (if (wrap64 ((t379.length : Int) - 1)) ≤ (t379.length : Int) then ((code_Parse.f (t379.take ((wrap64 ((t379.length : Int) - 1)) : Int).toNat)).bind fun bt410 => (if t387 = 0 then ((thyrsusref4_Same.f k t382 t383 t384 7 (rd y371 t374) y376).bind fun t417 => (if t417 = true then (if bt398.2.2.2 = 3 then (if bt410.2.2.2 = 2 then ((thyrsusref1_Bytes.f k 7 (rd y371 t374) y376).bind fun t418 => (some ((strOfNums t379).toList == (strOfNums t418).toList))) else (none)) else (none)) else (none))) else (none))) else (none)) else (none)))) else (none))) else (none)) = some r := by first | (rw [hy389]; with_reducible exact H) | (have H2_ := (Option.bind_some _ _).symm.trans H; rw [hy389]; with_reducible exact H2_) | (have H2_ := (Option.bind_some _ _).symm.trans H; with_reducible exact H2_) | with_reducible exact H | (rw [hy389]; exact H) | exact H
          have Ny389 := Aside0.mk hy389
          clear hy389
          by_cases c14 : y389.length + t379.length < 140737488355328
          · rw [if_pos c14] at H
            have LMc14 := Aside0.mk c14
            clear c14
            obtain ⟨y392, hy392⟩ : ∃ y_ : List Int, y_ = (y389 ++ t379) := ⟨_, rfl⟩
            replace H : (if y392.length < 140737488355328 then ((code_Parse.f (y392 ++ [a2])).bind fun bt398 => (if (t379.length : Int) = 0 then (none) else (if 0 ≤ (wrap64 ((t379.length : Int) - 1)) then (if (wrap64 ((t379.length : Int) - 1)) ≤ (t379.length : Int) then ((code_Parse.f (t379.take ((wrap64 ((t379.length : Int) - 1)) : Int).toNat)).bind fun bt410 => (if t387 = 0 then ((thyrsusref4_Same.f k t382 t383 t384 7 (rd y371 t374) y376).bind fun t417 => (if t417 = true then (if bt398.2.2.2 = 3 then (if bt410.2.2.2 = 2 then ((thyrsusref1_Bytes.f k 7 (rd y371 t374) y376).bind fun t418 => (some ((strOfNums t379).toList == (strOfNums t418).toList))) else (none)) else (none)) else (none))) else (none))) else (none)) else (none)))) else (none)) = some r := by first | (rw [hy392]; with_reducible exact H) | (have H2_ := (Option.bind_some _ _).symm.trans H; rw [hy392]; with_reducible exact H2_) | (have H2_ := (Option.bind_some _ _).symm.trans H; with_reducible exact H2_) | with_reducible exact H | (rw [hy392]; exact H) | exact H
            have Ny392 := Aside0.mk hy392
            clear hy392
            by_cases c15 : y392.length < 140737488355328
            · rw [if_pos c15] at H
              have LMc15 := Aside0.mk c15
              clear c15
              obtain ⟨y395, hy395⟩ : ∃ y_ : List Int, y_ = (y392 ++ [a2]) := ⟨_, rfl⟩
              replace H : ((code_Parse.f y395).bind fun bt398 => (if (t379.length : Int) = 0 then (none) else (if 0 ≤ (wrap64 ((t379.length : Int) - 1)) then (if (wrap64 ((t379.length : Int) - 1)) ≤ (t379.length : Int) then ((code_Parse.f (t379.take ((wrap64 ((t379.length : Int) - 1)) : Int).toNat)).bind fun bt410 => (if t387 = 0 then ((thyrsusref4_Same.f k t382 t383 t384 7 (rd y371 t374) y376).bind fun t417 => (if t417 = true then (if bt398.2.2.2 = 3 then (if bt410.2.2.2 = 2 then ((thyrsusref1_Bytes.f k 7 (rd y371 t374) y376).bind fun t418 => (some ((strOfNums t379).toList == (strOfNums t418).toList))) else (none)) else (none)) else (none))) else (none))) else (none)) else (none)))) = some r := by first | (rw [hy395]; with_reducible exact H) | (have H2_ := (Option.bind_some _ _).symm.trans H; rw [hy395]; with_reducible exact H2_) | (have H2_ := (Option.bind_some _ _).symm.trans H; with_reducible exact H2_) | with_reducible exact H | (rw [hy395]; exact H) | exact H
              have Ny395 := Aside0.mk hy395
              clear hy395
              replace H := Option.bind_eq_some_iff.mp H
              obtain ⟨⟨t398, t399, t400, t403⟩, A160, H⟩ := H
              replace H : (if (t379.length : Int) = 0 then (none) else (if 0 ≤ (wrap64 ((t379.length : Int) - 1)) then (if (wrap64 ((t379.length : Int) - 1)) ≤ (t379.length : Int) then ((code_Parse.f (t379.take ((wrap64 ((t379.length : Int) - 1)) : Int).toNat)).bind fun bt410 => (if t387 = 0 then ((thyrsusref4_Same.f k t382 t383 t384 7 (rd y371 t374) y376).bind fun t417 => (if t417 = true then (if t403 = 3 then (if bt410.2.2.2 = 2 then ((thyrsusref1_Bytes.f k 7 (rd y371 t374) y376).bind fun t418 => (some ((strOfNums t379).toList == (strOfNums t418).toList))) else (none)) else (none)) else (none))) else (none))) else (none)) else (none))) = some r := H
              have A16 := Aside0.mk A160
              clear A160
              by_cases c17 : (t379.length : Int) = 0
              · rw [if_pos c17] at H
                exact absurd H (by simp)
              · rw [if_neg c17] at H
                have c17b0 : ((t379.length : Int) == 0) = false := beq_eq_false_iff_ne.mpr c17
                have c17b1 : ((t379.length : Int) != 0) = true := bne_iff_ne.mpr c17
                have c17b2 : ¬ (t379 = []) := fun h_ => c17 (by rw [h_]; rfl)
                obtain ⟨ji18, hji18⟩ : ∃ j_ : Int, (wrap64 ((t379.length : Int) - 1)) = j_ := ⟨_, rfl⟩
                replace H : (if 0 ≤ (ji18) then (if (ji18) ≤ (t379.length : Int) then ((code_Parse.f (t379.take ((ji18) : Int).toNat)).bind fun bt410 => (if t387 = 0 then ((thyrsusref4_Same.f k t382 t383 t384 7 (rd y371 t374) y376).bind fun t417 => (if t417 = true then (if t403 = 3 then (if bt410.2.2.2 = 2 then ((thyrsusref1_Bytes.f k 7 (rd y371 t374) y376).bind fun t418 => (some ((strOfNums t379).toList == (strOfNums t418).toList))) else (none)) else (none)) else (none))) else (none))) else (none)) else (none)) = some r := by first | (rw [hji18] at H; exact H) | (simp only [hji18] at H ⊢; exact H)
                (try rw [hji18] at A4)
                (try rw [hji18] at A6)
                (try rw [hji18] at A8)
                (try rw [hji18] at A9)
                (try rw [hji18] at A12)
                (try rw [hji18] at A13)
                (try rw [hji18] at A16)
                have hji18w : (IntKind.i64.wrap ((t379.length : Int) - 1)) = ji18 := (i64_w _).trans hji18
                by_cases c19 : 0 ≤ (ji18)
                · rw [if_pos c19] at H
                  have c19b0 := eq_true c19
                  have c19b1 : decide (0 ≤ (ji18)) = true := decide_eq_true c19
                  clear c19
                  by_cases c20 : (ji18) ≤ (t379.length : Int)
                  · rw [if_pos c20] at H
                    have c20b0 := eq_true c20
                    have c20b1 : decide ((ji18) ≤ (t379.length : Int)) = true := decide_eq_true c20
                    clear c20
                    obtain ⟨y405, hy405⟩ : ∃ y_ : List Int, y_ = (t379.take ((ji18) : Int).toNat) := ⟨_, rfl⟩
                    replace H : ((code_Parse.f y405).bind fun bt410 => (if t387 = 0 then ((thyrsusref4_Same.f k t382 t383 t384 7 (rd y371 t374) y376).bind fun t417 => (if t417 = true then (if t403 = 3 then (if bt410.2.2.2 = 2 then ((thyrsusref1_Bytes.f k 7 (rd y371 t374) y376).bind fun t418 => (some ((strOfNums t379).toList == (strOfNums t418).toList))) else (none)) else (none)) else (none))) else (none))) = some r := by first | (rw [hy405]; with_reducible exact H) | (have H2_ := (Option.bind_some _ _).symm.trans H; rw [hy405]; with_reducible exact H2_) | (have H2_ := (Option.bind_some _ _).symm.trans H; with_reducible exact H2_) | with_reducible exact H | (rw [hy405]; exact H) | exact H
                    have Ny405 := Aside0.mk hy405
                    clear hy405
                    replace H := Option.bind_eq_some_iff.mp H
                    obtain ⟨⟨t410, t411, t412, t415⟩, A210, H⟩ := H
                    replace H : (if t387 = 0 then ((thyrsusref4_Same.f k t382 t383 t384 7 (rd y371 t374) y376).bind fun t417 => (if t417 = true then (if t403 = 3 then (if t415 = 2 then ((thyrsusref1_Bytes.f k 7 (rd y371 t374) y376).bind fun t418 => (some ((strOfNums t379).toList == (strOfNums t418).toList))) else (none)) else (none)) else (none))) else (none)) = some r := H
                    have A21 := Aside0.mk A210
                    clear A210
                    by_cases c22 : t387 = 0
                    · rw [if_pos c22] at H
                      have c22b0 : (t387 == 0) = true := beq_iff_eq.mpr c22
                      have c22b1 : (t387 != 0) = false := bne_eq_false_iff_eq.mpr c22
                      clear c22
                      replace H := Option.bind_eq_some_iff.mp H
                      obtain ⟨t417, A230, H⟩ := H
                      replace H : (if t417 = true then (if t403 = 3 then (if t415 = 2 then ((thyrsusref1_Bytes.f k 7 (rd y371 t374) y376).bind fun t418 => (some ((strOfNums t379).toList == (strOfNums t418).toList))) else (none)) else (none)) else (none)) = some r := H
                      have A23 := Aside0.mk A230
                      clear A230
                      by_cases c24 : t417 = true
                      · subst c24
                        have H1 : (if t403 = 3 then (if t415 = 2 then ((thyrsusref1_Bytes.f k 7 (rd y371 t374) y376).bind fun t418 => (some ((strOfNums t379).toList == (strOfNums t418).toList))) else (none)) else (none)) = some r := by rw [if_pos rfl] at H; exact H
                        clear H
                        have H := H1
                        clear H1
                        by_cases c25 : t403 = 3
                        · rw [if_pos c25] at H
                          have c25b0 : (t403 == 3) = true := beq_iff_eq.mpr c25
                          have c25b1 : (t403 != 3) = false := bne_eq_false_iff_eq.mpr c25
                          clear c25
                          by_cases c26 : t415 = 2
                          · rw [if_pos c26] at H
                            have c26b0 : (t415 == 2) = true := beq_iff_eq.mpr c26
                            have c26b1 : (t415 != 2) = false := bne_eq_false_iff_eq.mpr c26
                            clear c26
                            replace H := Option.bind_eq_some_iff.mp H
                            obtain ⟨t418, A270, H⟩ := H
                            replace H : (some ((strOfNums t379).toList == (strOfNums t418).toList)) = some r := H
                            have A27 := Aside0.mk A270
                            clear A270
                            obtain rfl := Option.some.inj H
                            go_enter Try.func8, Try.ntmps8
                            try go_wp2_with (first | ((with_reducible refine gate_dst (N := 3) rfl ?_); refine box_event ?hg (N := 3) ?hd (cs := #[.int .i64 a0_0, .int .i64 a0_1, .slice A0_2 l0_2.length c0_2]) (t := 24) ?hr ?_; (case hd => rfl); (case hg => rfl); (case hr => first | (go_simp; done) | (go_simp; rfl)); intro gb362 hg w28 hbox hb; have n0_ := Aside0.mk (below_step (by repeat (first | (with_reducible first | exact HB.out | apply below_alloc | apply pw_below_drewN | apply below_drew1) | exact HB.out)) hb); have n1_ := Aside0.mk (hbox); have n2_ := Aside0.mk ((by rw [hg]; exact (below_size (by repeat (first | (with_reducible first | exact HB.out | apply below_alloc | apply pw_below_drewN | apply below_drew1) | exact HB.out))) : w.heap.size ≤ gb362)); have n3_ := Aside0.mk ((by rw [hg]; exact (below_size (by repeat (first | (with_reducible first | exact HB.out | apply below_alloc | apply pw_below_drewN | apply below_drew1) | exact HB.out))) : w.heap.size ≤ gb362)); clear HB; have HB := n0_; have BK362 := n1_; have GW362 := n2_; have GE362 := n3_; clear n0_ n1_ n2_ n3_; clear hb hbox hg) | ((with_reducible refine gate_callee (f := 9) rfl ?_); refine goesL_ (some 15) rfl rfl Try.func9 (by kernel_rfl) rfl #[] rfl (by (try simp only [List.map_toArray, List.map_cons, List.map_nil]); first | done | rfl | (simp only [List.length_drop, List.length_take]; rfl)) ?_; (with_reducible refine (thyrsuslaw1_known.calls  true _ A4.out).mono ?_); rintro e w29 ⟨rfl, hb⟩; refine ⟨_, rfl, ?_⟩; have n0_ := Aside0.mk (blk_below (g := gb362) (o := .cells #[.int .i64 a0_0, .int .i64 a0_1, .slice A0_2 l0_2.length c0_2] 24 (0, 0)) (by (with_reducible repeat (first | refine blk_drewN ?_ _ | refine blk_drew ?_ | refine blk_alloc ?_ _)); exact BK362.out) hb); have n1_ := Aside0.mk (below_step (by repeat (first | (with_reducible first | exact HB.out | apply below_alloc | apply pw_below_drewN | apply below_drew1 | refine below_set ?_ GE362.out) | exact HB.out)) hb); clear BK362; clear HB; have BK362 := n0_; have HB := n1_; clear n0_ n1_; (try clear hb); (try clear hb2); (try clear hk); (try clear hi); have hcz30_0 : w29.cell? ⟨gb362, 0, none⟩ = some (.int .i64 a0_0) := (blk_cell BK362.out 0).trans rfl; have hcz30_1 : w29.cell? ⟨gb362, 1, none⟩ = some (.int .i64 a0_1) := (blk_cell BK362.out 1).trans rfl; have hcz30_2 : w29.cell? ⟨gb362, 2, none⟩ = some (.slice A0_2 l0_2.length c0_2) := (blk_cell BK362.out 2).trans rfl; have hfz30_0 := blk_frozen BK362.out 0; have hfz30_1 := blk_frozen BK362.out 1; have hfz30_2 := blk_frozen BK362.out 2) | ((with_reducible refine gate_callee (f := 10) rfl ?_); refine goesL_ (some 18) rfl rfl Try.func10 (by kernel_rfl) rfl #[.agg #[.int .i64 a0_0, .int .i64 a0_1, .slice A0_2 l0_2.length c0_2]] rfl (by (try simp only [List.map_toArray, List.map_cons, List.map_nil]); first | done | rfl | (simp only [List.length_drop, List.length_take]; rfl)) ?_; (with_reducible refine (thyrsuslaw1_Few.calls k a0_0 a0_1 _ _ l0_2 true _ ?side1 ?side2 A6.out).mono ?_); (case side1 => repeat (first | exact (Kd.C_below HR0_2.out HB.out) | (with_reducible refine Kd.C_alloc ?_ _) | (with_reducible refine Kd.C_drewN ?_ _) | (with_reducible refine Kd.C_drew ?_))); (case side2 => exact HC0_2.out); rintro e w31 ⟨rfl, hb⟩; refine ⟨_, rfl, ?_⟩; have n0_ := Aside0.mk (blk_below (g := gb362) (o := .cells #[.int .i64 a0_0, .int .i64 a0_1, .slice A0_2 l0_2.length c0_2] 24 (0, 0)) (by (with_reducible repeat (first | refine blk_drewN ?_ _ | refine blk_drew ?_ | refine blk_alloc ?_ _)); exact BK362.out) hb); have n1_ := Aside0.mk (below_step (by repeat (first | (with_reducible first | exact HB.out | apply below_alloc | apply pw_below_drewN | apply below_drew1 | refine below_set ?_ GE362.out) | exact HB.out)) hb); clear BK362; clear HB; have BK362 := n0_; have HB := n1_; clear n0_ n1_; (try clear hb); (try clear hb2); (try clear hk); (try clear hi); have hcz32_0 : w31.cell? ⟨gb362, 0, none⟩ = some (.int .i64 a0_0) := (blk_cell BK362.out 0).trans rfl; have hcz32_1 : w31.cell? ⟨gb362, 1, none⟩ = some (.int .i64 a0_1) := (blk_cell BK362.out 1).trans rfl; have hcz32_2 : w31.cell? ⟨gb362, 2, none⟩ = some (.slice A0_2 l0_2.length c0_2) := (blk_cell BK362.out 2).trans rfl; have hfz32_0 := blk_frozen BK362.out 0; have hfz32_1 := blk_frozen BK362.out 1; have hfz32_2 := blk_frozen BK362.out 2) | ((with_reducible refine gate_callee (f := 15) rfl ?_); refine goesL_ (some 21) rfl rfl Try.func15 (by kernel_rfl) rfl #[.agg #[.int .i64 a0_0, .int .i64 a0_1, .slice A0_2 l0_2.length c0_2], .int .i64 4, .int .i64 2] rfl (by (try simp only [List.map_toArray, List.map_cons, List.map_nil]); first | done | rfl | (simp only [List.length_drop, List.length_take]; rfl)) ?_; (with_reducible refine (thyrsuslaw1_Make.calls k a0_0 a0_1 _ _ l0_2 4 2 t365 t366 t367 _ ?side1 ?side2 A8.out).mono ?_); (case side1 => repeat (first | exact (Kd.C_below HR0_2.out HB.out) | (with_reducible refine Kd.C_alloc ?_ _) | (with_reducible refine Kd.C_drewN ?_ _) | (with_reducible refine Kd.C_drew ?_))); (case side2 => exact HC0_2.out); rintro e w33 ⟨v368, rfl, ho0, hb⟩; refine ⟨_, rfl, ?_⟩; have n0_ := Aside0.mk (Kd.N_lower (Kd.N_mono (ok' := fun k_ => k_ ≠ gb362) (Kd.R_N (Kd.R_bound ho0)) (fun k_ hk_ => (Kd.freshB (g := gb362) (o := .cells #[.int .i64 a0_0, .int .i64 a0_1, .slice A0_2 l0_2.length c0_2] 24 (0, 0)) (by (with_reducible repeat (first | refine blk_drewN ?_ _ | refine blk_drew ?_ | refine blk_alloc ?_ _)); exact BK362.out) k_ hk_.2.1))) (below_size (by repeat (first | (with_reducible first | exact HB.out | apply below_alloc | apply pw_below_drewN | apply below_drew1 | refine below_set ?_ GE362.out) | exact HB.out)))); have n1_ := Aside0.mk (blk_below (g := gb362) (o := .cells #[.int .i64 a0_0, .int .i64 a0_1, .slice A0_2 l0_2.length c0_2] 24 (0, 0)) (by (with_reducible repeat (first | refine blk_drewN ?_ _ | refine blk_drew ?_ | refine blk_alloc ?_ _)); exact BK362.out) hb); have n2_ := Aside0.mk (below_step (by repeat (first | (with_reducible first | exact HB.out | apply below_alloc | apply pw_below_drewN | apply below_drew1 | refine below_set ?_ GE362.out) | exact HB.out)) hb); clear BK362; clear HB; have HO369 := n0_; have BK362 := n1_; have HB := n2_; clear n0_ n1_ n2_; (try clear hb); (try clear hb2); (try clear hk); (try clear hi); (try clear ho0)) | ((with_reducible refine gate_dst (N := 7) rfl ?_); refine box_event ?hg (N := 7) ?hd (cs := #[.int .i64 0, .int .i64 0, .slice none 0 0]) (t := 29) ?hr ?_; (case hd => rfl); (case hg => rfl); (case hr => first | (go_simp; done) | (go_simp; rfl)); intro gb370 hg w34 hbox hb; have n0_ := Aside0.mk (Kd.N_below (Kd.N_elderB (by (with_reducible repeat (first | apply Kd.N_alloc | apply Kd.N_drewN | apply Kd.N_drew)); exact HO369.out) gb370 (Nat.le_of_eq hg.symm)) hb); have n1_ := Aside0.mk (blk_below (g := gb362) (o := .cells #[.int .i64 a0_0, .int .i64 a0_1, .slice A0_2 l0_2.length c0_2] 24 (0, 0)) (by (with_reducible repeat (first | refine blk_drewN ?_ _ | refine blk_drew ?_ | refine blk_alloc ?_ _)); exact BK362.out) hb); have n2_ := Aside0.mk (below_step (by repeat (first | (with_reducible first | exact HB.out | apply below_alloc | apply pw_below_drewN | apply below_drew1 | refine below_set ?_ GE362.out) | exact HB.out)) hb); have n3_ := Aside0.mk (hbox); have n4_ := Aside0.mk ((by rw [hg]; exact (below_size (by repeat (first | (with_reducible first | exact HB.out | apply below_alloc | apply pw_below_drewN | apply below_drew1 | refine below_set ?_ GE362.out) | exact HB.out))) : w.heap.size ≤ gb370)); have n5_ := Aside0.mk ((by rw [hg]; exact (below_size (by repeat (first | (with_reducible first | exact HB.out | apply below_alloc | apply pw_below_drewN | apply below_drew1 | refine below_set ?_ GE362.out) | exact HB.out))) : w.heap.size ≤ gb370)); have n6_ := Aside0.mk ((by rw [hg]; exact Nat.ne_of_lt (blk_lt (g := gb362) (o := .cells #[.int .i64 a0_0, .int .i64 a0_1, .slice A0_2 l0_2.length c0_2] 24 (0, 0)) (by (with_reducible repeat (first | refine blk_drewN ?_ _ | refine blk_drew ?_ | refine blk_alloc ?_ _)); exact BK362.out)) : gb362 ≠ gb370)); have n7_ := Aside0.mk ((by rw [hg]; exact Nat.ne_of_gt (blk_lt (g := gb362) (o := .cells #[.int .i64 a0_0, .int .i64 a0_1, .slice A0_2 l0_2.length c0_2] 24 (0, 0)) (by (with_reducible repeat (first | refine blk_drewN ?_ _ | refine blk_drew ?_ | refine blk_alloc ?_ _)); exact BK362.out)) : gb370 ≠ gb362)); clear HO369; clear BK362; clear HB; have HO369 := n0_; have BK362 := n1_; have HB := n2_; have BK370 := n3_; have GW370 := n4_; have GE370 := n5_; have NB362_370 := n6_; have NB370_362 := n7_; clear n0_ n1_ n2_ n3_ n4_ n5_ n6_ n7_; clear hb hbox hg; have hnb35 := NB370_362.out; have hnc35 := NB362_370.out; have hcz36_0 : w34.cell? ⟨gb370, 0, none⟩ = some (.int .i64 0) := (blk_cell BK370.out 0).trans rfl; have hcz36_1 : w34.cell? ⟨gb370, 1, none⟩ = some (.int .i64 0) := (blk_cell BK370.out 1).trans rfl; have hcz36_2 : w34.cell? ⟨gb370, 2, none⟩ = some (.slice none 0 0) := (blk_cell BK370.out 2).trans rfl; have hfz36_0 := blk_frozen BK370.out 0; have hfz36_1 := blk_frozen BK370.out 1; have hfz36_2 := blk_frozen BK370.out 2; obtain ⟨Ao37, co37, eo37⟩ := Kd.N_slice HO369.out; subst eo37))
                            have pi375 : (0 ≤ (t374 : Int)) = True := eq_true (of_decide_eq_true (by first | (with_reducible assumption) | assumption))
                            have qi375 : (t374 < (y371.length : Int)) = True := eq_true (of_decide_eq_true (by first | (with_reducible assumption) | assumption))
                            have n0_ : Aside0 (Kd.N k29 29 (((w34.setCell ⟨gb370, 0, none⟩ (.int .i64 t365)).setCell ⟨gb370, 1, none⟩ (.int .i64 t366)).setCell ⟨gb370, 2, none⟩ (.slice Ao37 t367.length co37)) w.heap.size (fun k_ => k_ ≠ gb362 ∧ k_ ≠ gb370) (.slice Ao37 t367.length co37) t367) := ⟨by (with_reducible repeat (first | apply Kd.N_alloc | apply Kd.N_drewN | apply Kd.N_drew)); exact Kd.N_mono (Kd.N_far (p := ⟨gb370, 2, none⟩) (Kd.N_far (p := ⟨gb370, 1, none⟩) (Kd.N_far (p := ⟨gb370, 0, none⟩) (Kd.N_mono HO369.out (fun k_ hk => (⟨hk, hk.2⟩ : _ ∧ k_ ≠ gb370))) (fun _ hk => hk.2) (.int .i64 t365)) (fun _ hk => hk.2) (.int .i64 t366)) (fun _ hk => hk.2) (.slice Ao37 t367.length co37)) (fun _ hk => ⟨hk.1.1, hk.1.2⟩)⟩
                            have n1_ : Aside0 ((((w34.setCell ⟨gb370, 0, none⟩ (.int .i64 t365)).setCell ⟨gb370, 1, none⟩ (.int .i64 t366)).setCell ⟨gb370, 2, none⟩ (.slice Ao37 t367.length co37)).heap[gb362]? = some (.cells #[.int .i64 a0_0, .int .i64 a0_1, .slice A0_2 l0_2.length c0_2] 24 (0, 0))) := ⟨by (with_reducible repeat (first | refine blk_drewN ?_ _ | refine blk_drew ?_ | refine blk_alloc ?_ _)); refine blk_far ?_ NB362_370.out _; (with_reducible repeat (first | refine blk_drewN ?_ _ | refine blk_drew ?_ | refine blk_alloc ?_ _)); refine blk_far ?_ NB362_370.out _; (with_reducible repeat (first | refine blk_drewN ?_ _ | refine blk_drew ?_ | refine blk_alloc ?_ _)); refine blk_far ?_ NB362_370.out _; (with_reducible repeat (first | refine blk_drewN ?_ _ | refine blk_drew ?_ | refine blk_alloc ?_ _)); exact BK362.out⟩
                            have n2_ : Aside0 ((((w34.setCell ⟨gb370, 0, none⟩ (.int .i64 t365)).setCell ⟨gb370, 1, none⟩ (.int .i64 t366)).setCell ⟨gb370, 2, none⟩ (.slice Ao37 t367.length co37)).heap[gb370]? = some (.cells #[.int .i64 t365, .int .i64 t366, .slice Ao37 t367.length co37] 29 (0, 0))) := ⟨by (with_reducible repeat (first | refine blk_drewN ?_ _ | refine blk_drew ?_ | refine blk_alloc ?_ _)); refine blk_put (cs := #[.int .i64 t365, .int .i64 t366, .slice none 0 0]) ?_ 2 _ rfl; (with_reducible repeat (first | refine blk_drewN ?_ _ | refine blk_drew ?_ | refine blk_alloc ?_ _)); refine blk_put (cs := #[.int .i64 t365, .int .i64 0, .slice none 0 0]) ?_ 1 _ rfl; (with_reducible repeat (first | refine blk_drewN ?_ _ | refine blk_drew ?_ | refine blk_alloc ?_ _)); refine blk_put (cs := #[.int .i64 0, .int .i64 0, .slice none 0 0]) ?_ 0 _ rfl; (with_reducible repeat (first | refine blk_drewN ?_ _ | refine blk_drew ?_ | refine blk_alloc ?_ _)); exact BK370.out⟩
                            have n3_ : Aside0 (Below w.heap.size w (((w34.setCell ⟨gb370, 0, none⟩ (.int .i64 t365)).setCell ⟨gb370, 1, none⟩ (.int .i64 t366)).setCell ⟨gb370, 2, none⟩ (.slice Ao37 t367.length co37))) := ⟨by repeat (first | (with_reducible first | exact HB.out | apply below_alloc | apply pw_below_drewN | apply below_drew1 | refine below_set ?_ GE362.out | refine below_set ?_ GE370.out) | exact HB.out)⟩
                            (try clear HO369)
                            (try clear BK362)
                            (try clear BK370)
                            (try clear HB)
                            generalize (((w34.setCell ⟨gb370, 0, none⟩ (.int .i64 t365)).setCell ⟨gb370, 1, none⟩ (.int .i64 t366)).setCell ⟨gb370, 2, none⟩ (.slice Ao37 t367.length co37)) = w38 at n0_ n1_ n2_ n3_ ⊢
                            have HO369 := n0_
                            have BK362 := n1_
                            have BK370 := n2_
                            have HB := n3_
                            clear n0_ n1_ n2_ n3_
                            have n0_ := Aside0.mk (Kd.N_drew HO369.out)
                            have n1_ := Aside0.mk (blk_drew BK362.out)
                            have n2_ := Aside0.mk (blk_drew BK370.out)
                            have n3_ := Aside0.mk (below_drew1 HB.out)
                            clear HO369
                            clear BK362
                            clear BK370
                            clear HB
                            have HO369 := n0_
                            have BK362 := n1_
                            have BK370 := n2_
                            have HB := n3_
                            clear n0_ n1_ n2_ n3_
                            refine start_ (n := 10) (S := fun w' => w'.cell? ⟨gb370, 0, none⟩ = some (.int .i64 t365) ∧ w'.cell? ⟨gb370, 1, none⟩ = some (.int .i64 t366) ∧ w'.cell? ⟨gb370, 2, none⟩ = some (.slice Ao37 t367.length co37)) (ds := [9]) #[false, false, false, false, false, false, false, false, false, false] (by kernel_rfl) rfl rfl ⟨(blk_cell BK370.out 0).trans rfl, (blk_cell BK370.out 1).trans rfl, (blk_cell BK370.out 2).trans rfl⟩ (fun hHeld => ?_); refine with_tabW thyrsuslaw1_CodeEnds.tab6 thyrsuslaw1_CodeEnds.bits6 (fun HT_ HW_ => ?_)
                            generalize w38.drew = w39 at HO369 BK362 BK370 HB hHeld ⊢
                            refine pure_ (i := 0) (N := some 22) (v := ?_) (a' := ?_) #[true, false, false, false, false, false, false, false, false, false] rfl rfl (any_of HT_.out (by kernel_rfl)) (fun _ _ _ h => h) (Or.inl ⟨by rfl, ?_⟩) ?_ ?_
                            rotate_left
                            · intro w'
                              go_simp
                              with_reducible rfl
                            rotate_left
                            · simp only [Act.put, List.setIfInBounds_toArray, List.set_cons_zero, List.set_cons_succ, i64_w, i32_w, u8_w, u32_w]
                              rfl
                            refine pure_ (i := 2) (N := some 24) (v := ?_) (a' := ?_) #[true, false, true, false, false, false, false, false, false, false] rfl rfl (any_of HT_.out (by kernel_rfl)) (fun _ _ _ h => h) (Or.inl ⟨by rfl, ?_⟩) ?_ ?_
                            rotate_left
                            · intro w'
                              go_simp
                              with_reducible rfl
                            rotate_left
                            · simp only [Act.put, List.setIfInBounds_toArray, List.set_cons_zero, List.set_cons_succ, i64_w, i32_w, u8_w, u32_w]
                              rfl
                            refine take_ (i := 6) (N := some 28) (v := ?_) (a' := ?_) #[true, false, true, false, false, false, true, false, false, false] rfl rfl (take_ofW HT_.out HW_.out (by kernel_rfl)) (fun _ _ _ h => h) (Or.inl ⟨by rfl, ?_⟩) hHeld ?_ ?_
                            rotate_left
                            · rintro w' ⟨s0, s1, s2⟩
                              go_simp
                              with_reducible rfl
                            rotate_left
                            · simp only [Act.put, List.setIfInBounds_toArray, List.set_cons_zero, List.set_cons_succ, i64_w, i32_w, u8_w, u32_w]
                              rfl
                            refine join_ (σ := Value × Addr × Value) 2 #[true, true, true, true, true, true, true, true, false, false] (fun s_ => [(23, s_.1), (25, .int .i64 t374), (27, .int .i64 (rd y371 t374)), (29, s_.2.2), (26, .pointer (some (s_.2.1.add (t374).toNat)))]) (fun s_ w' => (w'.cell? ⟨gb370, 0, none⟩ = some (.int .i64 t365) ∧ w'.cell? ⟨gb370, 1, none⟩ = some (.int .i64 t366) ∧ w'.cell? ⟨gb370, 2, none⟩ = some (.slice Ao37 t367.length co37)) ∧ (Kd.R (Kd.int .i64) 3 w' w.heap.size (fun _ => True) s_.1 y371) ∧ (Kd.N k29 29 w' w.heap.size (fun k_ => some k_ ≠ (s_.1 : Value).ownBlock ∧ k_ ≠ gb362 ∧ k_ ≠ gb370) s_.2.2 y376) ∧ (∃ c_, (s_.1 : Value) = .slice (some s_.2.1) y371.length c_) ∧ (w'.heap[gb362]? = some (.cells #[.int .i64 a0_0, .int .i64 a0_1, .slice A0_2 l0_2.length c0_2] 24 (0, 0))) ∧ (w'.heap[gb370]? = some (.cells #[.int .i64 t365, .int .i64 t366, .slice Ao37 t367.length co37] 29 (0, 0))) ∧ (Below w.heap.size w w')) ?_ ?_
                            rotate_left
                            · intro hJ1_3_5_7
                              refine join_ (σ := Value × Addr) 3 #[true, true, true, true, true, true, true, false, false, false] (fun s_ => [(23, s_.1), (25, .int .i64 t374), (27, .int .i64 (rd y371 t374)), (26, .pointer (some (s_.2.add (t374).toNat)))]) (fun s_ w' => (w'.cell? ⟨gb370, 0, none⟩ = some (.int .i64 t365) ∧ w'.cell? ⟨gb370, 1, none⟩ = some (.int .i64 t366) ∧ w'.cell? ⟨gb370, 2, none⟩ = some (.slice Ao37 t367.length co37)) ∧ (Kd.N k29 29 w' w.heap.size (fun k_ => some k_ ≠ (s_.1 : Value).ownBlock ∧ k_ ≠ gb362 ∧ k_ ≠ gb370) (.slice Ao37 t367.length co37) t367) ∧ (Kd.R (Kd.int .i64) 3 w' w.heap.size (fun _ => True) s_.1 y371) ∧ (∃ c_, (s_.1 : Value) = .slice (some s_.2) y371.length c_) ∧ (w'.heap[gb362]? = some (.cells #[.int .i64 a0_0, .int .i64 a0_1, .slice A0_2 l0_2.length c0_2] 24 (0, 0))) ∧ (w'.heap[gb370]? = some (.cells #[.int .i64 t365, .int .i64 t366, .slice Ao37 t367.length co37] 29 (0, 0))) ∧ (Below w.heap.size w w')) ?_ ?_
                              rotate_left
                              · intro hJ1_3_5
                                refine join_ (σ := Value × Addr × Value) 3 #[true, true, true, true, true, false, true, true, false, false] (fun s_ => [(23, s_.1), (25, .int .i64 t374), (29, s_.2.2), (26, .pointer (some (s_.2.1.add (t374).toNat)))]) (fun s_ w' => (w'.cell? ⟨gb370, 0, none⟩ = some (.int .i64 t365) ∧ w'.cell? ⟨gb370, 1, none⟩ = some (.int .i64 t366) ∧ w'.cell? ⟨gb370, 2, none⟩ = some (.slice Ao37 t367.length co37)) ∧ (Kd.R (Kd.int .i64) 3 w' w.heap.size (fun _ => True) s_.1 y371) ∧ (Kd.N k29 29 w' w.heap.size (fun k_ => some k_ ≠ (s_.1 : Value).ownBlock ∧ k_ ≠ gb362 ∧ k_ ≠ gb370) s_.2.2 y376) ∧ (∃ c_, (s_.1 : Value) = .slice (some s_.2.1) y371.length c_) ∧ (w'.heap[gb362]? = some (.cells #[.int .i64 a0_0, .int .i64 a0_1, .slice A0_2 l0_2.length c0_2] 24 (0, 0))) ∧ (w'.heap[gb370]? = some (.cells #[.int .i64 t365, .int .i64 t366, .slice Ao37 t367.length co37] 29 (0, 0))) ∧ (Below w.heap.size w w')) ?_ ?_
                                rotate_left
                                · intro hJ1_3_7
                                  refine join_ (σ := Value × Addr) 4 #[true, true, true, true, true, false, true, false, false, false] (fun s_ => [(23, s_.1), (25, .int .i64 t374), (26, .pointer (some (s_.2.add (t374).toNat)))]) (fun s_ w' => (w'.cell? ⟨gb370, 0, none⟩ = some (.int .i64 t365) ∧ w'.cell? ⟨gb370, 1, none⟩ = some (.int .i64 t366) ∧ w'.cell? ⟨gb370, 2, none⟩ = some (.slice Ao37 t367.length co37)) ∧ (Kd.N k29 29 w' w.heap.size (fun k_ => some k_ ≠ (s_.1 : Value).ownBlock ∧ k_ ≠ gb362 ∧ k_ ≠ gb370) (.slice Ao37 t367.length co37) t367) ∧ (Kd.R (Kd.int .i64) 3 w' w.heap.size (fun _ => True) s_.1 y371) ∧ (∃ c_, (s_.1 : Value) = .slice (some s_.2) y371.length c_) ∧ (w'.heap[gb362]? = some (.cells #[.int .i64 a0_0, .int .i64 a0_1, .slice A0_2 l0_2.length c0_2] 24 (0, 0))) ∧ (w'.heap[gb370]? = some (.cells #[.int .i64 t365, .int .i64 t366, .slice Ao37 t367.length co37] 29 (0, 0))) ∧ (Below w.heap.size w w')) ?_ ?_
                                  rotate_left
                                  · intro hJ1_3
                                    refine join_ (σ := Value × Addr × Value) 5 #[true, true, true, false, false, false, true, true, false, false] (fun s_ => [(23, s_.1), (29, s_.2.2)]) (fun s_ w' => (w'.cell? ⟨gb370, 0, none⟩ = some (.int .i64 t365) ∧ w'.cell? ⟨gb370, 1, none⟩ = some (.int .i64 t366) ∧ w'.cell? ⟨gb370, 2, none⟩ = some (.slice Ao37 t367.length co37)) ∧ (Kd.R (Kd.int .i64) 3 w' w.heap.size (fun _ => True) s_.1 y371) ∧ (Kd.N k29 29 w' w.heap.size (fun k_ => some k_ ≠ (s_.1 : Value).ownBlock ∧ k_ ≠ gb362 ∧ k_ ≠ gb370) s_.2.2 y376) ∧ (∃ c_, (s_.1 : Value) = .slice (some s_.2.1) y371.length c_) ∧ (w'.heap[gb362]? = some (.cells #[.int .i64 a0_0, .int .i64 a0_1, .slice A0_2 l0_2.length c0_2] 24 (0, 0))) ∧ (w'.heap[gb370]? = some (.cells #[.int .i64 t365, .int .i64 t366, .slice Ao37 t367.length co37] 29 (0, 0))) ∧ (Below w.heap.size w w')) ?_ ?_
                                    rotate_left
                                    · intro hJ1_7
                                      refine join_ (σ := Value) 5 #[true, false, true, true, false, false, true, true, false, false] (fun s_ => [(25, .int .i64 t374), (29, s_)]) (fun s_ w' => (w'.cell? ⟨gb370, 0, none⟩ = some (.int .i64 t365) ∧ w'.cell? ⟨gb370, 1, none⟩ = some (.int .i64 t366) ∧ w'.cell? ⟨gb370, 2, none⟩ = some (.slice Ao37 t367.length co37)) ∧ (Kd.N k29 29 w' w.heap.size (fun k_ => k_ ≠ gb362 ∧ k_ ≠ gb370) s_ y376) ∧ (w'.heap[gb362]? = some (.cells #[.int .i64 a0_0, .int .i64 a0_1, .slice A0_2 l0_2.length c0_2] 24 (0, 0))) ∧ (w'.heap[gb370]? = some (.cells #[.int .i64 t365, .int .i64 t366, .slice Ao37 t367.length co37] 29 (0, 0))) ∧ (Below w.heap.size w w')) ?_ ?_
                                      rotate_left
                                      · intro hJ3_7
                                        refine join_ (σ := Value × Addr) 6 #[true, true, true, false, false, false, true, false, false, false] (fun s_ => [(23, s_.1)]) (fun s_ w' => (w'.cell? ⟨gb370, 0, none⟩ = some (.int .i64 t365) ∧ w'.cell? ⟨gb370, 1, none⟩ = some (.int .i64 t366) ∧ w'.cell? ⟨gb370, 2, none⟩ = some (.slice Ao37 t367.length co37)) ∧ (Kd.N k29 29 w' w.heap.size (fun k_ => some k_ ≠ (s_.1 : Value).ownBlock ∧ k_ ≠ gb362 ∧ k_ ≠ gb370) (.slice Ao37 t367.length co37) t367) ∧ (Kd.R (Kd.int .i64) 3 w' w.heap.size (fun _ => True) s_.1 y371) ∧ (∃ c_, (s_.1 : Value) = .slice (some s_.2) y371.length c_) ∧ (w'.heap[gb362]? = some (.cells #[.int .i64 a0_0, .int .i64 a0_1, .slice A0_2 l0_2.length c0_2] 24 (0, 0))) ∧ (w'.heap[gb370]? = some (.cells #[.int .i64 t365, .int .i64 t366, .slice Ao37 t367.length co37] 29 (0, 0))) ∧ (Below w.heap.size w w')) ?_ ?_
                                        rotate_left
                                        · intro hJ1
                                          refine join_ (σ := Unit) 6 #[true, false, true, true, false, false, true, false, false, false] (fun s_ => [(25, .int .i64 t374)]) (fun s_ w' => (w'.cell? ⟨gb370, 0, none⟩ = some (.int .i64 t365) ∧ w'.cell? ⟨gb370, 1, none⟩ = some (.int .i64 t366) ∧ w'.cell? ⟨gb370, 2, none⟩ = some (.slice Ao37 t367.length co37)) ∧ (Kd.N k29 29 w' w.heap.size (fun k_ => k_ ≠ gb362 ∧ k_ ≠ gb370) (.slice Ao37 t367.length co37) t367) ∧ (w'.heap[gb362]? = some (.cells #[.int .i64 a0_0, .int .i64 a0_1, .slice A0_2 l0_2.length c0_2] 24 (0, 0))) ∧ (w'.heap[gb370]? = some (.cells #[.int .i64 t365, .int .i64 t366, .slice Ao37 t367.length co37] 29 (0, 0))) ∧ (Below w.heap.size w w')) ?_ ?_
                                          rotate_left
                                          · intro hJ3
                                            refine join_ (σ := Value) 6 #[true, false, true, false, false, false, true, true, false, false] (fun s_ => [(29, s_)]) (fun s_ w' => (w'.cell? ⟨gb370, 0, none⟩ = some (.int .i64 t365) ∧ w'.cell? ⟨gb370, 1, none⟩ = some (.int .i64 t366) ∧ w'.cell? ⟨gb370, 2, none⟩ = some (.slice Ao37 t367.length co37)) ∧ (Kd.N k29 29 w' w.heap.size (fun k_ => k_ ≠ gb362 ∧ k_ ≠ gb370) s_ y376) ∧ (w'.heap[gb362]? = some (.cells #[.int .i64 a0_0, .int .i64 a0_1, .slice A0_2 l0_2.length c0_2] 24 (0, 0))) ∧ (w'.heap[gb370]? = some (.cells #[.int .i64 t365, .int .i64 t366, .slice Ao37 t367.length co37] 29 (0, 0))) ∧ (Below w.heap.size w w')) ?_ ?_
                                            rotate_left
                                            · intro hJ7
                                              refine three_ (i := 1) (j := 3) (k := 7) (Ni := some 23) (Nj := some 25) (Nk := some 29) #[true, true, true, false, false, false, true, false, false, false] #[true, false, true, true, false, false, true, false, false, false] #[true, false, true, false, false, false, true, true, false, false] rfl rfl rfl rfl rfl rfl (three_of HT_.out (by kernel_rfl)) (by decide) (by decide) (by decide) (fun K hK => ?_) (fun K hK => ?_) (fun K hK => ?_)
                                              · skip
                                                refine Kd.R_lit_step (Kd.int .i64) _ 3 ?hg (N := 23) ?hd (xs := ([9223372036854775807, (-9223372036854775808), (-1), a1] : List Int)) (inner := [.int .i64 9223372036854775807, .int .i64 (-9223372036854775808), .int .i64 (-1), .int .i64 a1]) (ok := fun _ => True) (okp := fun _ => True) ?hr ?hp (fun _ hk => hk) trivial (Below.refl _ _) (Nat.le_refl _) (by simp) ?_; (case hd => rfl); (case hg => rfl); (case hr => first | (go_simp; done) | (go_simp; rfl)); (case hp => exact (Reps.one (show Kd.M (Kd.int .i64) _ _ _ 9223372036854775807 [.int .i64 9223372036854775807] from rfl) (Reps.one (show Kd.M (Kd.int .i64) _ _ _ (-9223372036854775808) [.int .i64 (-9223372036854775808)] from rfl) (Reps.one (show Kd.M (Kd.int .i64) _ _ _ (-1) [.int .i64 (-1)] from rfl) (Reps.one (show Kd.M (Kd.int .i64) _ _ _ a1 [.int .i64 a1] from rfl) (Reps.none _ _))))))
                                                intro v372 w40 ho41 hb hg_ hnew_
                                                clear hg_ hnew_
                                                (first | rw [← Ny371.out] at ho41 | (simp only [Int.reduceToNat] at ho41; rw [← Ny371.out] at ho41))
                                                have n0_ := Aside0.mk (Kd.N_elder' (by (with_reducible repeat (first | apply Kd.N_alloc | apply Kd.N_drewN | apply Kd.N_drew)); exact HO369.out) (Kd.R_base ho41) hb)
                                                have n1_ := Aside0.mk (Kd.R_lower ho41 (below_size (by repeat (first | (with_reducible first | exact HB.out | apply below_alloc | apply pw_below_drewN | apply below_drew1 | refine below_set ?_ GE362.out | refine below_set ?_ GE370.out) | exact HB.out))))
                                                have n2_ := Aside0.mk (blk_below (g := gb362) (o := .cells #[.int .i64 a0_0, .int .i64 a0_1, .slice A0_2 l0_2.length c0_2] 24 (0, 0)) (by (with_reducible repeat (first | refine blk_drewN ?_ _ | refine blk_drew ?_ | refine blk_alloc ?_ _)); exact BK362.out) hb)
                                                have n3_ := Aside0.mk (blk_below (g := gb370) (o := .cells #[.int .i64 t365, .int .i64 t366, .slice Ao37 t367.length co37] 29 (0, 0)) (by (with_reducible repeat (first | refine blk_drewN ?_ _ | refine blk_drew ?_ | refine blk_alloc ?_ _)); exact BK370.out) hb)
                                                have n4_ := Aside0.mk (below_step (by repeat (first | (with_reducible first | exact HB.out | apply below_alloc | apply pw_below_drewN | apply below_drew1 | refine below_set ?_ GE362.out | refine below_set ?_ GE370.out) | exact HB.out)) hb)
                                                clear HO369
                                                clear BK362
                                                clear BK370
                                                clear HB
                                                have HO369 := n0_
                                                have HO373 := n1_
                                                have BK362 := n2_
                                                have BK370 := n3_
                                                have HB := n4_
                                                clear n0_ n1_ n2_ n3_ n4_
                                                clear hb ho41
                                                obtain ⟨Ao42, co42, eo42⟩ := Kd.R_slice HO373.out
                                                subst eo42
                                                obtain ⟨ado42, fo42, _⟩ := Kd.at_int (Kd.R_reads' HO373.out).2.2 0 (by decide) (by rw [Ny371.out]; simp)
                                                cases fo42
                                                refine hK.out _ _ ⟨(blk_cell BK370.out 0).trans rfl, (blk_cell BK370.out 1).trans rfl, (blk_cell BK370.out 2).trans rfl⟩ (fun hHeld => ?_)
                                                clear hK K
                                                refine norm_ (a' := ?_) ?_ ?_
                                                rotate_left
                                                · show Act.put _ (some 23) _ = _
                                                  simp only [Act.put, List.setIfInBounds_toArray, List.set_cons_zero, List.set_cons_succ, i64_w, i32_w, u8_w, u32_w]
                                                  rfl
                                                exact norm_ (by first | (simp only [putAll, Act.put, List.setIfInBounds_toArray, List.set_cons_zero, List.set_cons_succ]; done) | (simp only [putAll, Act.put, List.setIfInBounds_toArray, List.set_cons_zero, List.set_cons_succ]; rfl)) (hJ1 (.slice (some ado42) y371.length co42, ado42) _ ⟨hHeld, (by (with_reducible repeat (first | apply Kd.N_alloc | apply Kd.N_drewN | apply Kd.N_drew)); exact Kd.N_mono HO369.out (fun _ hk => ⟨hk.2, ⟨hk.1.1, hk.1.2⟩⟩)), (by (with_reducible repeat (first | apply Kd.R_alloc | apply Kd.R_drewN | apply Kd.R_drew)); exact HO373.out), ⟨_, rfl⟩, (by (with_reducible repeat (first | refine blk_drewN ?_ _ | refine blk_drew ?_ | refine blk_alloc ?_ _)); exact BK362.out), (by (with_reducible repeat (first | refine blk_drewN ?_ _ | refine blk_drew ?_ | refine blk_alloc ?_ _)); exact BK370.out), (by repeat (first | (with_reducible first | exact HB.out | apply below_alloc | apply pw_below_drewN | apply below_drew1 | refine below_set ?_ GE362.out | refine below_set ?_ GE370.out) | exact HB.out))⟩)
                                              · skip
                                                refine goes_ Try.func19 (by kernel_rfl) rfl #[.int .i64 a1, .int .i64 4] (by rfl) rfl rfl (by (try simp only [List.map_toArray, List.map_cons, List.map_nil]); first | done | rfl | (simp only [List.length_drop, List.length_take]; rfl)) ?_
                                                with_reducible refine (thyrsuslaw1_within.calls a1 4 t374 _ A9.out).mono ?_
                                                rintro e w' ⟨rfl, ⟨nd, rfl⟩⟩
                                                refine ⟨_, rfl, ?_⟩
                                                refine hK.out _ _ ⟨(blk_cell BK370.out 0).trans rfl, (blk_cell BK370.out 1).trans rfl, (blk_cell BK370.out 2).trans rfl⟩ (fun hHeld => ?_)
                                                clear hK K
                                                refine norm_ (a' := ?_) ?_ ?_
                                                rotate_left
                                                · show Act.put _ (some 25) _ = _
                                                  simp only [Act.put, List.setIfInBounds_toArray, List.set_cons_zero, List.set_cons_succ, i64_w, i32_w, u8_w, u32_w]
                                                  rfl
                                                exact norm_ (by first | (simp only [putAll, Act.put, List.setIfInBounds_toArray, List.set_cons_zero, List.set_cons_succ]; done) | (simp only [putAll, Act.put, List.setIfInBounds_toArray, List.set_cons_zero, List.set_cons_succ]; rfl)) (hJ3 () _ ⟨hHeld, (by (with_reducible repeat (first | apply Kd.N_alloc | apply Kd.N_drewN | apply Kd.N_drew)); exact HO369.out), (by (with_reducible repeat (first | refine blk_drewN ?_ _ | refine blk_drew ?_ | refine blk_alloc ?_ _)); exact BK362.out), (by (with_reducible repeat (first | refine blk_drewN ?_ _ | refine blk_drew ?_ | refine blk_alloc ?_ _)); exact BK370.out), (by repeat (first | (with_reducible first | exact HB.out | apply below_alloc | apply pw_below_drewN | apply below_drew1 | refine below_set ?_ GE362.out | refine below_set ?_ GE370.out) | exact HB.out))⟩)
                                              · skip
                                                refine Kd.N_lit_step k29 _ 29 ?hg (N' := 29) ?hd (xs := ([(⟨t365, t366, t367⟩ : S29)] : List (S29))) (inner := [.int .i64 t365, .int .i64 t366, .slice Ao37 t367.length co37]) (ok := (fun k_ => k_ ≠ gb362 ∧ k_ ≠ gb370)) (okp := (fun k_ => k_ ≠ gb362 ∧ k_ ≠ gb370)) ?hr ?hp (fun _ hk => hk) ((show ∀ k_, w39.heap.size ≤ k_ → (fun k_ => k_ ≠ gb362 ∧ k_ ≠ gb370) k_ from fun k_ hk => ⟨Kd.freshB (g := gb362) (o := .cells #[.int .i64 a0_0, .int .i64 a0_1, .slice A0_2 l0_2.length c0_2] 24 (0, 0)) (by (with_reducible repeat (first | refine blk_drewN ?_ _ | refine blk_drew ?_ | refine blk_alloc ?_ _)); exact BK362.out) k_ hk, Kd.freshB (g := gb370) (o := .cells #[.int .i64 t365, .int .i64 t366, .slice Ao37 t367.length co37] 29 (0, 0)) (by (with_reducible repeat (first | refine blk_drewN ?_ _ | refine blk_drew ?_ | refine blk_alloc ?_ _)); exact BK370.out) k_ hk⟩) _ (Nat.le_refl _)) (Below.refl _ _) (Nat.le_refl _) (by simp) ?_; (case hd => rfl); (case hg => rfl); (case hr => first | (go_simp; done) | (go_simp; rfl)); (case hp => exact (Reps.c3 (show Kd.FK k29 _ _ (⟨t365, t366, t367⟩ : S29) [.int .i64 t365, .int .i64 t366, .slice Ao37 t367.length co37] from (k29_mkF _ _ (⟨t365, t366, t367⟩ : S29) (Kd.N_reads' (Kd.N_mono (ok' := (fun k_ => k_ ≠ gb362 ∧ k_ ≠ gb370)) (HO369.out) (fun k_ hk => ⟨hk.1, hk.2⟩))).2.1 (Kd.N_F (Kd.N_mono (ok' := (fun k_ => k_ ≠ gb362 ∧ k_ ≠ gb370)) (HO369.out) (fun k_ hk => ⟨hk.1, hk.2⟩))))) (Reps.none _ _)))
                                                intro v377 w40 ho41 hb hg_ hnew_
                                                clear hg_ hnew_
                                                (first | rw [← Ny376.out] at ho41 | (simp only [Int.reduceToNat] at ho41; rw [← Ny376.out] at ho41))
                                                have n0_ := Aside0.mk (Kd.N_lower ho41 (below_size (by repeat (first | (with_reducible first | exact HB.out | apply below_alloc | apply pw_below_drewN | apply below_drew1 | refine below_set ?_ GE362.out | refine below_set ?_ GE370.out) | exact HB.out))))
                                                have n1_ := Aside0.mk (blk_below (g := gb362) (o := .cells #[.int .i64 a0_0, .int .i64 a0_1, .slice A0_2 l0_2.length c0_2] 24 (0, 0)) (by (with_reducible repeat (first | refine blk_drewN ?_ _ | refine blk_drew ?_ | refine blk_alloc ?_ _)); exact BK362.out) hb)
                                                have n2_ := Aside0.mk (blk_below (g := gb370) (o := .cells #[.int .i64 t365, .int .i64 t366, .slice Ao37 t367.length co37] 29 (0, 0)) (by (with_reducible repeat (first | refine blk_drewN ?_ _ | refine blk_drew ?_ | refine blk_alloc ?_ _)); exact BK370.out) hb)
                                                have n3_ := Aside0.mk (below_step (by repeat (first | (with_reducible first | exact HB.out | apply below_alloc | apply pw_below_drewN | apply below_drew1 | refine below_set ?_ GE362.out | refine below_set ?_ GE370.out) | exact HB.out)) hb)
                                                clear BK362
                                                clear BK370
                                                clear HB
                                                clear HO369
                                                have HO378 := n0_
                                                have BK362 := n1_
                                                have BK370 := n2_
                                                have HB := n3_
                                                clear n0_ n1_ n2_ n3_
                                                clear hb ho41
                                                refine hK.out _ _ ⟨(blk_cell BK370.out 0).trans rfl, (blk_cell BK370.out 1).trans rfl, (blk_cell BK370.out 2).trans rfl⟩ (fun hHeld => ?_)
                                                clear hK K
                                                refine norm_ (a' := ?_) ?_ ?_
                                                rotate_left
                                                · show Act.put _ (some 29) _ = _
                                                  simp only [Act.put, List.setIfInBounds_toArray, List.set_cons_zero, List.set_cons_succ, i64_w, i32_w, u8_w, u32_w]
                                                  rfl
                                                exact norm_ (by first | (simp only [putAll, Act.put, List.setIfInBounds_toArray, List.set_cons_zero, List.set_cons_succ]; done) | (simp only [putAll, Act.put, List.setIfInBounds_toArray, List.set_cons_zero, List.set_cons_succ]; rfl)) (hJ7 (v377) _ ⟨hHeld, (by (with_reducible repeat (first | apply Kd.N_alloc | apply Kd.N_drewN | apply Kd.N_drew)); exact HO378.out), (by (with_reducible repeat (first | refine blk_drewN ?_ _ | refine blk_drew ?_ | refine blk_alloc ?_ _)); exact BK362.out), (by (with_reducible repeat (first | refine blk_drewN ?_ _ | refine blk_drew ?_ | refine blk_alloc ?_ _)); exact BK370.out), (by repeat (first | (with_reducible first | exact HB.out | apply below_alloc | apply pw_below_drewN | apply below_drew1 | refine below_set ?_ GE362.out | refine below_set ?_ GE370.out) | exact HB.out))⟩)
                                            · skip
                                              rintro v377 w42 ⟨hS_, h0_, h1_, h2_, h3_⟩
                                              have n0_ : Aside0 (Kd.N k29 29 w42 w.heap.size (fun k_ => k_ ≠ gb362 ∧ k_ ≠ gb370) v377 y376) := ⟨h0_⟩
                                              have n1_ : Aside0 (w42.heap[gb362]? = some (.cells #[.int .i64 a0_0, .int .i64 a0_1, .slice A0_2 l0_2.length c0_2] 24 (0, 0))) := ⟨h1_⟩
                                              have n2_ : Aside0 (w42.heap[gb370]? = some (.cells #[.int .i64 t365, .int .i64 t366, .slice Ao37 t367.length co37] 29 (0, 0))) := ⟨h2_⟩
                                              have n3_ : Aside0 (Below w.heap.size w w42) := ⟨h3_⟩
                                              clear HO369
                                              clear BK362
                                              clear BK370
                                              clear HB
                                              clear h0_ h1_ h2_ h3_
                                              have HO378 := n0_
                                              have BK362 := n1_
                                              have BK370 := n2_
                                              have HB := n3_
                                              clear n0_ n1_ n2_ n3_
                                              have hHeld : w42.cell? ⟨gb370, 0, none⟩ = some (.int .i64 t365) ∧ w42.cell? ⟨gb370, 1, none⟩ = some (.int .i64 t366) ∧ w42.cell? ⟨gb370, 2, none⟩ = some (.slice Ao37 t367.length co37) := hS_
                                              refine norm_ (a' := ?_) ?_ ?_
                                              rotate_left
                                              · simp only [putAll, Act.put, List.setIfInBounds_toArray, List.set_cons_zero, List.set_cons_succ]
                                                rfl
                                              refine two_ (i := 1) (j := 3) (Ni := some 23) (Nj := some 25) #[true, true, true, false, false, false, true, true, false, false] #[true, false, true, true, false, false, true, true, false, false] rfl rfl rfl rfl (two_of HT_.out (by kernel_rfl)) (by decide) (by decide) (fun K hK => ?_) (fun K hK => ?_)
                                              · skip
                                                refine Kd.R_lit_step (Kd.int .i64) _ 3 ?hg (N := 23) ?hd (xs := ([9223372036854775807, (-9223372036854775808), (-1), a1] : List Int)) (inner := [.int .i64 9223372036854775807, .int .i64 (-9223372036854775808), .int .i64 (-1), .int .i64 a1]) (ok := fun _ => True) (okp := fun _ => True) ?hr ?hp (fun _ hk => hk) trivial (Below.refl _ _) (Nat.le_refl _) (by simp) ?_; (case hd => rfl); (case hg => rfl); (case hr => first | (go_simp; done) | (go_simp; rfl)); (case hp => exact (Reps.one (show Kd.M (Kd.int .i64) _ _ _ 9223372036854775807 [.int .i64 9223372036854775807] from rfl) (Reps.one (show Kd.M (Kd.int .i64) _ _ _ (-9223372036854775808) [.int .i64 (-9223372036854775808)] from rfl) (Reps.one (show Kd.M (Kd.int .i64) _ _ _ (-1) [.int .i64 (-1)] from rfl) (Reps.one (show Kd.M (Kd.int .i64) _ _ _ a1 [.int .i64 a1] from rfl) (Reps.none _ _))))))
                                                intro v372 w43 ho44 hb hg_ hnew_
                                                clear hg_ hnew_
                                                (first | rw [← Ny371.out] at ho44 | (simp only [Int.reduceToNat] at ho44; rw [← Ny371.out] at ho44))
                                                have n0_ := Aside0.mk (Kd.N_elder' (by (with_reducible repeat (first | apply Kd.N_alloc | apply Kd.N_drewN | apply Kd.N_drew)); exact HO378.out) (Kd.R_base ho44) hb)
                                                have n1_ := Aside0.mk (Kd.R_lower ho44 (below_size (by repeat (first | (with_reducible first | exact HB.out | apply below_alloc | apply pw_below_drewN | apply below_drew1 | refine below_set ?_ GE362.out | refine below_set ?_ GE370.out) | exact HB.out))))
                                                have n2_ := Aside0.mk (blk_below (g := gb362) (o := .cells #[.int .i64 a0_0, .int .i64 a0_1, .slice A0_2 l0_2.length c0_2] 24 (0, 0)) (by (with_reducible repeat (first | refine blk_drewN ?_ _ | refine blk_drew ?_ | refine blk_alloc ?_ _)); exact BK362.out) hb)
                                                have n3_ := Aside0.mk (blk_below (g := gb370) (o := .cells #[.int .i64 t365, .int .i64 t366, .slice Ao37 t367.length co37] 29 (0, 0)) (by (with_reducible repeat (first | refine blk_drewN ?_ _ | refine blk_drew ?_ | refine blk_alloc ?_ _)); exact BK370.out) hb)
                                                have n4_ := Aside0.mk (below_step (by repeat (first | (with_reducible first | exact HB.out | apply below_alloc | apply pw_below_drewN | apply below_drew1 | refine below_set ?_ GE362.out | refine below_set ?_ GE370.out) | exact HB.out)) hb)
                                                clear HO378
                                                clear BK362
                                                clear BK370
                                                clear HB
                                                have HO378 := n0_
                                                have HO373 := n1_
                                                have BK362 := n2_
                                                have BK370 := n3_
                                                have HB := n4_
                                                clear n0_ n1_ n2_ n3_ n4_
                                                clear hb ho44
                                                obtain ⟨Ao45, co45, eo45⟩ := Kd.R_slice HO373.out
                                                subst eo45
                                                obtain ⟨ado45, fo45, _⟩ := Kd.at_int (Kd.R_reads' HO373.out).2.2 0 (by decide) (by rw [Ny371.out]; simp)
                                                cases fo45
                                                refine hK.out _ _ ⟨(blk_cell BK370.out 0).trans rfl, (blk_cell BK370.out 1).trans rfl, (blk_cell BK370.out 2).trans rfl⟩ (fun hHeld => ?_)
                                                clear hK K
                                                refine norm_ (a' := ?_) ?_ ?_
                                                rotate_left
                                                · show Act.put _ (some 23) _ = _
                                                  simp only [Act.put, List.setIfInBounds_toArray, List.set_cons_zero, List.set_cons_succ, i64_w, i32_w, u8_w, u32_w]
                                                  rfl
                                                exact norm_ (by first | (simp only [putAll, Act.put, List.setIfInBounds_toArray, List.set_cons_zero, List.set_cons_succ]; done) | (simp only [putAll, Act.put, List.setIfInBounds_toArray, List.set_cons_zero, List.set_cons_succ]; rfl)) (hJ1_7 (.slice (some ado45) y371.length co45, ado45, v377) _ ⟨hHeld, (by (with_reducible repeat (first | apply Kd.R_alloc | apply Kd.R_drewN | apply Kd.R_drew)); exact HO373.out), (by (with_reducible repeat (first | apply Kd.N_alloc | apply Kd.N_drewN | apply Kd.N_drew)); exact Kd.N_mono HO378.out (fun _ hk => ⟨hk.2, ⟨hk.1.1, hk.1.2⟩⟩)), ⟨_, rfl⟩, (by (with_reducible repeat (first | refine blk_drewN ?_ _ | refine blk_drew ?_ | refine blk_alloc ?_ _)); exact BK362.out), (by (with_reducible repeat (first | refine blk_drewN ?_ _ | refine blk_drew ?_ | refine blk_alloc ?_ _)); exact BK370.out), (by repeat (first | (with_reducible first | exact HB.out | apply below_alloc | apply pw_below_drewN | apply below_drew1 | refine below_set ?_ GE362.out | refine below_set ?_ GE370.out) | exact HB.out))⟩)
                                              · skip
                                                refine goes_ Try.func19 (by kernel_rfl) rfl #[.int .i64 a1, .int .i64 4] (by rfl) rfl rfl (by (try simp only [List.map_toArray, List.map_cons, List.map_nil]); first | done | rfl | (simp only [List.length_drop, List.length_take]; rfl)) ?_
                                                with_reducible refine (thyrsuslaw1_within.calls a1 4 t374 _ A9.out).mono ?_
                                                rintro e w' ⟨rfl, ⟨nd, rfl⟩⟩
                                                refine ⟨_, rfl, ?_⟩
                                                refine hK.out _ _ ⟨(blk_cell BK370.out 0).trans rfl, (blk_cell BK370.out 1).trans rfl, (blk_cell BK370.out 2).trans rfl⟩ (fun hHeld => ?_)
                                                clear hK K
                                                refine norm_ (a' := ?_) ?_ ?_
                                                rotate_left
                                                · show Act.put _ (some 25) _ = _
                                                  simp only [Act.put, List.setIfInBounds_toArray, List.set_cons_zero, List.set_cons_succ, i64_w, i32_w, u8_w, u32_w]
                                                  rfl
                                                exact norm_ (by first | (simp only [putAll, Act.put, List.setIfInBounds_toArray, List.set_cons_zero, List.set_cons_succ]; done) | (simp only [putAll, Act.put, List.setIfInBounds_toArray, List.set_cons_zero, List.set_cons_succ]; rfl)) (hJ3_7 (v377) _ ⟨hHeld, (by (with_reducible repeat (first | apply Kd.N_alloc | apply Kd.N_drewN | apply Kd.N_drew)); exact HO378.out), (by (with_reducible repeat (first | refine blk_drewN ?_ _ | refine blk_drew ?_ | refine blk_alloc ?_ _)); exact BK362.out), (by (with_reducible repeat (first | refine blk_drewN ?_ _ | refine blk_drew ?_ | refine blk_alloc ?_ _)); exact BK370.out), (by repeat (first | (with_reducible first | exact HB.out | apply below_alloc | apply pw_below_drewN | apply below_drew1 | refine below_set ?_ GE362.out | refine below_set ?_ GE370.out) | exact HB.out))⟩)
                                          · skip
                                            rintro _ w40 ⟨hS_, h0_, h1_, h2_, h3_⟩
                                            have n0_ : Aside0 (Kd.N k29 29 w40 w.heap.size (fun k_ => k_ ≠ gb362 ∧ k_ ≠ gb370) (.slice Ao37 t367.length co37) t367) := ⟨h0_⟩
                                            have n1_ : Aside0 (w40.heap[gb362]? = some (.cells #[.int .i64 a0_0, .int .i64 a0_1, .slice A0_2 l0_2.length c0_2] 24 (0, 0))) := ⟨h1_⟩
                                            have n2_ : Aside0 (w40.heap[gb370]? = some (.cells #[.int .i64 t365, .int .i64 t366, .slice Ao37 t367.length co37] 29 (0, 0))) := ⟨h2_⟩
                                            have n3_ : Aside0 (Below w.heap.size w w40) := ⟨h3_⟩
                                            clear HO369
                                            clear BK362
                                            clear BK370
                                            clear HB
                                            clear h0_ h1_ h2_ h3_
                                            have HO369 := n0_
                                            have BK362 := n1_
                                            have BK370 := n2_
                                            have HB := n3_
                                            clear n0_ n1_ n2_ n3_
                                            have hHeld : w40.cell? ⟨gb370, 0, none⟩ = some (.int .i64 t365) ∧ w40.cell? ⟨gb370, 1, none⟩ = some (.int .i64 t366) ∧ w40.cell? ⟨gb370, 2, none⟩ = some (.slice Ao37 t367.length co37) := hS_
                                            refine norm_ (a' := ?_) ?_ ?_
                                            rotate_left
                                            · simp only [putAll, Act.put, List.setIfInBounds_toArray, List.set_cons_zero, List.set_cons_succ]
                                              rfl
                                            refine two_ (i := 1) (j := 7) (Ni := some 23) (Nj := some 29) #[true, true, true, true, false, false, true, false, false, false] #[true, false, true, true, false, false, true, true, false, false] rfl rfl rfl rfl (two_of HT_.out (by kernel_rfl)) (by decide) (by decide) (fun K hK => ?_) (fun K hK => ?_)
                                            · skip
                                              refine Kd.R_lit_step (Kd.int .i64) _ 3 ?hg (N := 23) ?hd (xs := ([9223372036854775807, (-9223372036854775808), (-1), a1] : List Int)) (inner := [.int .i64 9223372036854775807, .int .i64 (-9223372036854775808), .int .i64 (-1), .int .i64 a1]) (ok := fun _ => True) (okp := fun _ => True) ?hr ?hp (fun _ hk => hk) trivial (Below.refl _ _) (Nat.le_refl _) (by simp) ?_; (case hd => rfl); (case hg => rfl); (case hr => first | (go_simp; done) | (go_simp; rfl)); (case hp => exact (Reps.one (show Kd.M (Kd.int .i64) _ _ _ 9223372036854775807 [.int .i64 9223372036854775807] from rfl) (Reps.one (show Kd.M (Kd.int .i64) _ _ _ (-9223372036854775808) [.int .i64 (-9223372036854775808)] from rfl) (Reps.one (show Kd.M (Kd.int .i64) _ _ _ (-1) [.int .i64 (-1)] from rfl) (Reps.one (show Kd.M (Kd.int .i64) _ _ _ a1 [.int .i64 a1] from rfl) (Reps.none _ _))))))
                                              intro v372 w41 ho42 hb hg_ hnew_
                                              clear hg_ hnew_
                                              (first | rw [← Ny371.out] at ho42 | (simp only [Int.reduceToNat] at ho42; rw [← Ny371.out] at ho42))
                                              have n0_ := Aside0.mk (Kd.N_elder' (by (with_reducible repeat (first | apply Kd.N_alloc | apply Kd.N_drewN | apply Kd.N_drew)); exact HO369.out) (Kd.R_base ho42) hb)
                                              have n1_ := Aside0.mk (Kd.R_lower ho42 (below_size (by repeat (first | (with_reducible first | exact HB.out | apply below_alloc | apply pw_below_drewN | apply below_drew1 | refine below_set ?_ GE362.out | refine below_set ?_ GE370.out) | exact HB.out))))
                                              have n2_ := Aside0.mk (blk_below (g := gb362) (o := .cells #[.int .i64 a0_0, .int .i64 a0_1, .slice A0_2 l0_2.length c0_2] 24 (0, 0)) (by (with_reducible repeat (first | refine blk_drewN ?_ _ | refine blk_drew ?_ | refine blk_alloc ?_ _)); exact BK362.out) hb)
                                              have n3_ := Aside0.mk (blk_below (g := gb370) (o := .cells #[.int .i64 t365, .int .i64 t366, .slice Ao37 t367.length co37] 29 (0, 0)) (by (with_reducible repeat (first | refine blk_drewN ?_ _ | refine blk_drew ?_ | refine blk_alloc ?_ _)); exact BK370.out) hb)
                                              have n4_ := Aside0.mk (below_step (by repeat (first | (with_reducible first | exact HB.out | apply below_alloc | apply pw_below_drewN | apply below_drew1 | refine below_set ?_ GE362.out | refine below_set ?_ GE370.out) | exact HB.out)) hb)
                                              clear HO369
                                              clear BK362
                                              clear BK370
                                              clear HB
                                              have HO369 := n0_
                                              have HO373 := n1_
                                              have BK362 := n2_
                                              have BK370 := n3_
                                              have HB := n4_
                                              clear n0_ n1_ n2_ n3_ n4_
                                              clear hb ho42
                                              obtain ⟨Ao43, co43, eo43⟩ := Kd.R_slice HO373.out
                                              subst eo43
                                              obtain ⟨ado43, fo43, _⟩ := Kd.at_int (Kd.R_reads' HO373.out).2.2 0 (by decide) (by rw [Ny371.out]; simp)
                                              cases fo43
                                              refine hK.out _ _ ⟨(blk_cell BK370.out 0).trans rfl, (blk_cell BK370.out 1).trans rfl, (blk_cell BK370.out 2).trans rfl⟩ (fun hHeld => ?_)
                                              clear hK K
                                              refine norm_ (a' := ?_) ?_ ?_
                                              rotate_left
                                              · show Act.put _ (some 23) _ = _
                                                simp only [Act.put, List.setIfInBounds_toArray, List.set_cons_zero, List.set_cons_succ, i64_w, i32_w, u8_w, u32_w]
                                                rfl
                                              refine pure_ (i := 4) (N := some 26) (v := ?_) (a' := ?_) #[true, true, true, true, true, false, true, false, false, false] rfl rfl (any_of HT_.out (by kernel_rfl)) (fun _ _ _ h => h) (Or.inl ⟨by rfl, ?_⟩) ?_ ?_
                                              rotate_left
                                              · intro w'
                                                go_simp
                                                with_reducible rfl
                                              rotate_left
                                              · simp only [Act.put, List.setIfInBounds_toArray, List.set_cons_zero, List.set_cons_succ, i64_w, i32_w, u8_w, u32_w]
                                                rfl
                                              exact norm_ (by first | (simp only [putAll, Act.put, List.setIfInBounds_toArray, List.set_cons_zero, List.set_cons_succ]; done) | (simp only [putAll, Act.put, List.setIfInBounds_toArray, List.set_cons_zero, List.set_cons_succ]; rfl)) (hJ1_3 (.slice (some ado43) y371.length co43, ado43) _ ⟨hHeld, (by (with_reducible repeat (first | apply Kd.N_alloc | apply Kd.N_drewN | apply Kd.N_drew)); exact Kd.N_mono HO369.out (fun _ hk => ⟨hk.2, ⟨hk.1.1, hk.1.2⟩⟩)), (by (with_reducible repeat (first | apply Kd.R_alloc | apply Kd.R_drewN | apply Kd.R_drew)); exact HO373.out), ⟨_, rfl⟩, (by (with_reducible repeat (first | refine blk_drewN ?_ _ | refine blk_drew ?_ | refine blk_alloc ?_ _)); exact BK362.out), (by (with_reducible repeat (first | refine blk_drewN ?_ _ | refine blk_drew ?_ | refine blk_alloc ?_ _)); exact BK370.out), (by repeat (first | (with_reducible first | exact HB.out | apply below_alloc | apply pw_below_drewN | apply below_drew1 | refine below_set ?_ GE362.out | refine below_set ?_ GE370.out) | exact HB.out))⟩)
                                            · skip
                                              refine Kd.N_lit_step k29 _ 29 ?hg (N' := 29) ?hd (xs := ([(⟨t365, t366, t367⟩ : S29)] : List (S29))) (inner := [.int .i64 t365, .int .i64 t366, .slice Ao37 t367.length co37]) (ok := (fun k_ => k_ ≠ gb362 ∧ k_ ≠ gb370)) (okp := (fun k_ => k_ ≠ gb362 ∧ k_ ≠ gb370)) ?hr ?hp (fun _ hk => hk) ((show ∀ k_, w40.heap.size ≤ k_ → (fun k_ => k_ ≠ gb362 ∧ k_ ≠ gb370) k_ from fun k_ hk => ⟨Kd.freshB (g := gb362) (o := .cells #[.int .i64 a0_0, .int .i64 a0_1, .slice A0_2 l0_2.length c0_2] 24 (0, 0)) (by (with_reducible repeat (first | refine blk_drewN ?_ _ | refine blk_drew ?_ | refine blk_alloc ?_ _)); exact BK362.out) k_ hk, Kd.freshB (g := gb370) (o := .cells #[.int .i64 t365, .int .i64 t366, .slice Ao37 t367.length co37] 29 (0, 0)) (by (with_reducible repeat (first | refine blk_drewN ?_ _ | refine blk_drew ?_ | refine blk_alloc ?_ _)); exact BK370.out) k_ hk⟩) _ (Nat.le_refl _)) (Below.refl _ _) (Nat.le_refl _) (by simp) ?_; (case hd => rfl); (case hg => rfl); (case hr => first | (go_simp; done) | (go_simp; rfl)); (case hp => exact (Reps.c3 (show Kd.FK k29 _ _ (⟨t365, t366, t367⟩ : S29) [.int .i64 t365, .int .i64 t366, .slice Ao37 t367.length co37] from (k29_mkF _ _ (⟨t365, t366, t367⟩ : S29) (Kd.N_reads' (Kd.N_mono (ok' := (fun k_ => k_ ≠ gb362 ∧ k_ ≠ gb370)) (HO369.out) (fun k_ hk => ⟨hk.1, hk.2⟩))).2.1 (Kd.N_F (Kd.N_mono (ok' := (fun k_ => k_ ≠ gb362 ∧ k_ ≠ gb370)) (HO369.out) (fun k_ hk => ⟨hk.1, hk.2⟩))))) (Reps.none _ _)))
                                              intro v377 w41 ho42 hb hg_ hnew_
                                              clear hg_ hnew_
                                              (first | rw [← Ny376.out] at ho42 | (simp only [Int.reduceToNat] at ho42; rw [← Ny376.out] at ho42))
                                              have n0_ := Aside0.mk (Kd.N_lower ho42 (below_size (by repeat (first | (with_reducible first | exact HB.out | apply below_alloc | apply pw_below_drewN | apply below_drew1 | refine below_set ?_ GE362.out | refine below_set ?_ GE370.out) | exact HB.out))))
                                              have n1_ := Aside0.mk (blk_below (g := gb362) (o := .cells #[.int .i64 a0_0, .int .i64 a0_1, .slice A0_2 l0_2.length c0_2] 24 (0, 0)) (by (with_reducible repeat (first | refine blk_drewN ?_ _ | refine blk_drew ?_ | refine blk_alloc ?_ _)); exact BK362.out) hb)
                                              have n2_ := Aside0.mk (blk_below (g := gb370) (o := .cells #[.int .i64 t365, .int .i64 t366, .slice Ao37 t367.length co37] 29 (0, 0)) (by (with_reducible repeat (first | refine blk_drewN ?_ _ | refine blk_drew ?_ | refine blk_alloc ?_ _)); exact BK370.out) hb)
                                              have n3_ := Aside0.mk (below_step (by repeat (first | (with_reducible first | exact HB.out | apply below_alloc | apply pw_below_drewN | apply below_drew1 | refine below_set ?_ GE362.out | refine below_set ?_ GE370.out) | exact HB.out)) hb)
                                              clear BK362
                                              clear BK370
                                              clear HB
                                              clear HO369
                                              have HO378 := n0_
                                              have BK362 := n1_
                                              have BK370 := n2_
                                              have HB := n3_
                                              clear n0_ n1_ n2_ n3_
                                              clear hb ho42
                                              refine hK.out _ _ ⟨(blk_cell BK370.out 0).trans rfl, (blk_cell BK370.out 1).trans rfl, (blk_cell BK370.out 2).trans rfl⟩ (fun hHeld => ?_)
                                              clear hK K
                                              refine norm_ (a' := ?_) ?_ ?_
                                              rotate_left
                                              · show Act.put _ (some 29) _ = _
                                                simp only [Act.put, List.setIfInBounds_toArray, List.set_cons_zero, List.set_cons_succ, i64_w, i32_w, u8_w, u32_w]
                                                rfl
                                              exact norm_ (by first | (simp only [putAll, Act.put, List.setIfInBounds_toArray, List.set_cons_zero, List.set_cons_succ]; done) | (simp only [putAll, Act.put, List.setIfInBounds_toArray, List.set_cons_zero, List.set_cons_succ]; rfl)) (hJ3_7 (v377) _ ⟨hHeld, (by (with_reducible repeat (first | apply Kd.N_alloc | apply Kd.N_drewN | apply Kd.N_drew)); exact HO378.out), (by (with_reducible repeat (first | refine blk_drewN ?_ _ | refine blk_drew ?_ | refine blk_alloc ?_ _)); exact BK362.out), (by (with_reducible repeat (first | refine blk_drewN ?_ _ | refine blk_drew ?_ | refine blk_alloc ?_ _)); exact BK370.out), (by repeat (first | (with_reducible first | exact HB.out | apply below_alloc | apply pw_below_drewN | apply below_drew1 | refine below_set ?_ GE362.out | refine below_set ?_ GE370.out) | exact HB.out))⟩)
                                        · skip
                                          rintro ⟨v372, adz_v372⟩ w43 ⟨hS_, h0_, h1_, h2_, h3_, h4_, h5_⟩
                                          have n0_ : Aside0 (Kd.N k29 29 w43 w.heap.size (fun k_ => some k_ ≠ (v372 : Value).ownBlock ∧ k_ ≠ gb362 ∧ k_ ≠ gb370) (.slice Ao37 t367.length co37) t367) := ⟨h0_⟩
                                          have n1_ : Aside0 (Kd.R (Kd.int .i64) 3 w43 w.heap.size (fun _ => True) v372 y371) := ⟨h1_⟩
                                          have n2_ : Aside0 (∃ c_, (v372 : Value) = .slice (some adz_v372) y371.length c_) := ⟨h2_⟩
                                          have n3_ : Aside0 (w43.heap[gb362]? = some (.cells #[.int .i64 a0_0, .int .i64 a0_1, .slice A0_2 l0_2.length c0_2] 24 (0, 0))) := ⟨h3_⟩
                                          have n4_ : Aside0 (w43.heap[gb370]? = some (.cells #[.int .i64 t365, .int .i64 t366, .slice Ao37 t367.length co37] 29 (0, 0))) := ⟨h4_⟩
                                          have n5_ : Aside0 (Below w.heap.size w w43) := ⟨h5_⟩
                                          clear HO369
                                          clear BK362
                                          clear BK370
                                          clear HB
                                          clear h0_ h1_ h2_ h3_ h4_ h5_
                                          have HO369 := n0_
                                          have HO373 := n1_
                                          have HA_HO373 := n2_
                                          have BK362 := n3_
                                          have BK370 := n4_
                                          have HB := n5_
                                          clear n0_ n1_ n2_ n3_ n4_ n5_
                                          have hHeld : w43.cell? ⟨gb370, 0, none⟩ = some (.int .i64 t365) ∧ w43.cell? ⟨gb370, 1, none⟩ = some (.int .i64 t366) ∧ w43.cell? ⟨gb370, 2, none⟩ = some (.slice Ao37 t367.length co37) := hS_
                                          obtain ⟨co44, eo44⟩ := HA_HO373.out
                                          clear HA_HO373
                                          subst eo44
                                          refine norm_ (a' := ?_) ?_ ?_
                                          rotate_left
                                          · simp only [putAll, Act.put, List.setIfInBounds_toArray, List.set_cons_zero, List.set_cons_succ]
                                            rfl
                                          refine two_ (i := 3) (j := 7) (Ni := some 25) (Nj := some 29) #[true, true, true, true, false, false, true, false, false, false] #[true, true, true, false, false, false, true, true, false, false] rfl rfl rfl rfl (two_of HT_.out (by kernel_rfl)) (by decide) (by decide) (fun K hK => ?_) (fun K hK => ?_)
                                          · skip
                                            refine goes_ Try.func19 (by kernel_rfl) rfl #[.int .i64 a1, .int .i64 4] (by rfl) rfl rfl (by (try simp only [List.map_toArray, List.map_cons, List.map_nil]); first | done | rfl | (simp only [List.length_drop, List.length_take]; rfl)) ?_
                                            with_reducible refine (thyrsuslaw1_within.calls a1 4 t374 _ A9.out).mono ?_
                                            rintro e w' ⟨rfl, ⟨nd, rfl⟩⟩
                                            refine ⟨_, rfl, ?_⟩
                                            refine hK.out _ _ ⟨(blk_cell BK370.out 0).trans rfl, (blk_cell BK370.out 1).trans rfl, (blk_cell BK370.out 2).trans rfl⟩ (fun hHeld => ?_)
                                            clear hK K
                                            refine norm_ (a' := ?_) ?_ ?_
                                            rotate_left
                                            · show Act.put _ (some 25) _ = _
                                              simp only [Act.put, List.setIfInBounds_toArray, List.set_cons_zero, List.set_cons_succ, i64_w, i32_w, u8_w, u32_w]
                                              rfl
                                            refine pure_ (i := 4) (N := some 26) (v := ?_) (a' := ?_) #[true, true, true, true, true, false, true, false, false, false] rfl rfl (any_of HT_.out (by kernel_rfl)) (fun _ _ _ h => h) (Or.inl ⟨by rfl, ?_⟩) ?_ ?_
                                            rotate_left
                                            · intro w'
                                              go_simp
                                              with_reducible rfl
                                            rotate_left
                                            · simp only [Act.put, List.setIfInBounds_toArray, List.set_cons_zero, List.set_cons_succ, i64_w, i32_w, u8_w, u32_w]
                                              rfl
                                            exact norm_ (by first | (simp only [putAll, Act.put, List.setIfInBounds_toArray, List.set_cons_zero, List.set_cons_succ]; done) | (simp only [putAll, Act.put, List.setIfInBounds_toArray, List.set_cons_zero, List.set_cons_succ]; rfl)) (hJ1_3 (.slice (some adz_v372) y371.length co44, adz_v372) _ ⟨hHeld, (by (with_reducible repeat (first | apply Kd.N_alloc | apply Kd.N_drewN | apply Kd.N_drew)); exact HO369.out), (by (with_reducible repeat (first | apply Kd.R_alloc | apply Kd.R_drewN | apply Kd.R_drew)); exact HO373.out), ⟨_, rfl⟩, (by (with_reducible repeat (first | refine blk_drewN ?_ _ | refine blk_drew ?_ | refine blk_alloc ?_ _)); exact BK362.out), (by (with_reducible repeat (first | refine blk_drewN ?_ _ | refine blk_drew ?_ | refine blk_alloc ?_ _)); exact BK370.out), (by repeat (first | (with_reducible first | exact HB.out | apply below_alloc | apply pw_below_drewN | apply below_drew1 | refine below_set ?_ GE362.out | refine below_set ?_ GE370.out) | exact HB.out))⟩)
                                          · skip
                                            refine Kd.N_lit_step k29 _ 29 ?hg (N' := 29) ?hd (xs := ([(⟨t365, t366, t367⟩ : S29)] : List (S29))) (inner := [.int .i64 t365, .int .i64 t366, .slice Ao37 t367.length co37]) (ok := (fun k_ => some k_ ≠ (.slice (some adz_v372) y371.length co44 : Value).ownBlock ∧ k_ ≠ gb362 ∧ k_ ≠ gb370)) (okp := (fun k_ => some k_ ≠ (.slice (some adz_v372) y371.length co44 : Value).ownBlock ∧ k_ ≠ gb362 ∧ k_ ≠ gb370)) ?hr ?hp (fun _ hk => hk) ((show ∀ k_, w43.heap.size ≤ k_ → (fun k_ => some k_ ≠ (.slice (some adz_v372) y371.length co44 : Value).ownBlock ∧ k_ ≠ gb362 ∧ k_ ≠ gb370) k_ from fun k_ hk => ⟨Kd.fresh' (Kd.R_lt (by (with_reducible repeat (first | apply Kd.R_alloc | apply Kd.R_drewN | apply Kd.R_drew)); exact HO373.out)) k_ hk, Kd.freshB (g := gb362) (o := .cells #[.int .i64 a0_0, .int .i64 a0_1, .slice A0_2 l0_2.length c0_2] 24 (0, 0)) (by (with_reducible repeat (first | refine blk_drewN ?_ _ | refine blk_drew ?_ | refine blk_alloc ?_ _)); exact BK362.out) k_ hk, Kd.freshB (g := gb370) (o := .cells #[.int .i64 t365, .int .i64 t366, .slice Ao37 t367.length co37] 29 (0, 0)) (by (with_reducible repeat (first | refine blk_drewN ?_ _ | refine blk_drew ?_ | refine blk_alloc ?_ _)); exact BK370.out) k_ hk⟩) _ (Nat.le_refl _)) (Below.refl _ _) (Nat.le_refl _) (by simp) ?_; (case hd => rfl); (case hg => rfl); (case hr => first | (go_simp; done) | (go_simp; rfl)); (case hp => exact (Reps.c3 (show Kd.FK k29 _ _ (⟨t365, t366, t367⟩ : S29) [.int .i64 t365, .int .i64 t366, .slice Ao37 t367.length co37] from (k29_mkF _ _ (⟨t365, t366, t367⟩ : S29) (Kd.N_reads' (Kd.N_mono (ok' := (fun k_ => some k_ ≠ (.slice (some adz_v372) y371.length co44 : Value).ownBlock ∧ k_ ≠ gb362 ∧ k_ ≠ gb370)) (HO369.out) (fun k_ hk => ⟨hk.1, ⟨hk.2.1, hk.2.2⟩⟩))).2.1 (Kd.N_F (Kd.N_mono (ok' := (fun k_ => some k_ ≠ (.slice (some adz_v372) y371.length co44 : Value).ownBlock ∧ k_ ≠ gb362 ∧ k_ ≠ gb370)) (HO369.out) (fun k_ hk => ⟨hk.1, ⟨hk.2.1, hk.2.2⟩⟩))))) (Reps.none _ _)))
                                            intro v377 w45 ho46 hb hg_ hnew_
                                            clear hg_ hnew_
                                            (first | rw [← Ny376.out] at ho46 | (simp only [Int.reduceToNat] at ho46; rw [← Ny376.out] at ho46))
                                            have n0_ := Aside0.mk (Kd.R_below (by (with_reducible repeat (first | apply Kd.R_alloc | apply Kd.R_drewN | apply Kd.R_drew)); exact HO373.out) hb)
                                            have n1_ := Aside0.mk (Kd.N_lower ho46 (below_size (by repeat (first | (with_reducible first | exact HB.out | apply below_alloc | apply pw_below_drewN | apply below_drew1 | refine below_set ?_ GE362.out | refine below_set ?_ GE370.out) | exact HB.out))))
                                            have n2_ := Aside0.mk (blk_below (g := gb362) (o := .cells #[.int .i64 a0_0, .int .i64 a0_1, .slice A0_2 l0_2.length c0_2] 24 (0, 0)) (by (with_reducible repeat (first | refine blk_drewN ?_ _ | refine blk_drew ?_ | refine blk_alloc ?_ _)); exact BK362.out) hb)
                                            have n3_ := Aside0.mk (blk_below (g := gb370) (o := .cells #[.int .i64 t365, .int .i64 t366, .slice Ao37 t367.length co37] 29 (0, 0)) (by (with_reducible repeat (first | refine blk_drewN ?_ _ | refine blk_drew ?_ | refine blk_alloc ?_ _)); exact BK370.out) hb)
                                            have n4_ := Aside0.mk (below_step (by repeat (first | (with_reducible first | exact HB.out | apply below_alloc | apply pw_below_drewN | apply below_drew1 | refine below_set ?_ GE362.out | refine below_set ?_ GE370.out) | exact HB.out)) hb)
                                            clear HO373
                                            clear BK362
                                            clear BK370
                                            clear HB
                                            clear HO369
                                            have HO373 := n0_
                                            have HO378 := n1_
                                            have BK362 := n2_
                                            have BK370 := n3_
                                            have HB := n4_
                                            clear n0_ n1_ n2_ n3_ n4_
                                            clear hb ho46
                                            refine hK.out _ _ ⟨(blk_cell BK370.out 0).trans rfl, (blk_cell BK370.out 1).trans rfl, (blk_cell BK370.out 2).trans rfl⟩ (fun hHeld => ?_)
                                            clear hK K
                                            refine norm_ (a' := ?_) ?_ ?_
                                            rotate_left
                                            · show Act.put _ (some 29) _ = _
                                              simp only [Act.put, List.setIfInBounds_toArray, List.set_cons_zero, List.set_cons_succ, i64_w, i32_w, u8_w, u32_w]
                                              rfl
                                            exact norm_ (by first | (simp only [putAll, Act.put, List.setIfInBounds_toArray, List.set_cons_zero, List.set_cons_succ]; done) | (simp only [putAll, Act.put, List.setIfInBounds_toArray, List.set_cons_zero, List.set_cons_succ]; rfl)) (hJ1_7 (.slice (some adz_v372) y371.length co44, adz_v372, v377) _ ⟨hHeld, (by (with_reducible repeat (first | apply Kd.R_alloc | apply Kd.R_drewN | apply Kd.R_drew)); exact HO373.out), (by (with_reducible repeat (first | apply Kd.N_alloc | apply Kd.N_drewN | apply Kd.N_drew)); exact HO378.out), ⟨_, rfl⟩, (by (with_reducible repeat (first | refine blk_drewN ?_ _ | refine blk_drew ?_ | refine blk_alloc ?_ _)); exact BK362.out), (by (with_reducible repeat (first | refine blk_drewN ?_ _ | refine blk_drew ?_ | refine blk_alloc ?_ _)); exact BK370.out), (by repeat (first | (with_reducible first | exact HB.out | apply below_alloc | apply pw_below_drewN | apply below_drew1 | refine below_set ?_ GE362.out | refine below_set ?_ GE370.out) | exact HB.out))⟩)
                                      · skip
                                        rintro v377 w42 ⟨hS_, h0_, h1_, h2_, h3_⟩
                                        have n0_ : Aside0 (Kd.N k29 29 w42 w.heap.size (fun k_ => k_ ≠ gb362 ∧ k_ ≠ gb370) v377 y376) := ⟨h0_⟩
                                        have n1_ : Aside0 (w42.heap[gb362]? = some (.cells #[.int .i64 a0_0, .int .i64 a0_1, .slice A0_2 l0_2.length c0_2] 24 (0, 0))) := ⟨h1_⟩
                                        have n2_ : Aside0 (w42.heap[gb370]? = some (.cells #[.int .i64 t365, .int .i64 t366, .slice Ao37 t367.length co37] 29 (0, 0))) := ⟨h2_⟩
                                        have n3_ : Aside0 (Below w.heap.size w w42) := ⟨h3_⟩
                                        clear HO369
                                        clear BK362
                                        clear BK370
                                        clear HB
                                        clear h0_ h1_ h2_ h3_
                                        have HO378 := n0_
                                        have BK362 := n1_
                                        have BK370 := n2_
                                        have HB := n3_
                                        clear n0_ n1_ n2_ n3_
                                        have hHeld : w42.cell? ⟨gb370, 0, none⟩ = some (.int .i64 t365) ∧ w42.cell? ⟨gb370, 1, none⟩ = some (.int .i64 t366) ∧ w42.cell? ⟨gb370, 2, none⟩ = some (.slice Ao37 t367.length co37) := hS_
                                        refine norm_ (a' := ?_) ?_ ?_
                                        rotate_left
                                        · simp only [putAll, Act.put, List.setIfInBounds_toArray, List.set_cons_zero, List.set_cons_succ]
                                          rfl
                                        refine one_ (i := 1) (N := some 23) #[true, true, true, true, false, false, true, true, false, false] rfl rfl (one_of HT_.out (by kernel_rfl)) (by decide) (fun K hK => ?_)
                                        refine Kd.R_lit_step (Kd.int .i64) _ 3 ?hg (N := 23) ?hd (xs := ([9223372036854775807, (-9223372036854775808), (-1), a1] : List Int)) (inner := [.int .i64 9223372036854775807, .int .i64 (-9223372036854775808), .int .i64 (-1), .int .i64 a1]) (ok := fun _ => True) (okp := fun _ => True) ?hr ?hp (fun _ hk => hk) trivial (Below.refl _ _) (Nat.le_refl _) (by simp) ?_; (case hd => rfl); (case hg => rfl); (case hr => first | (go_simp; done) | (go_simp; rfl)); (case hp => exact (Reps.one (show Kd.M (Kd.int .i64) _ _ _ 9223372036854775807 [.int .i64 9223372036854775807] from rfl) (Reps.one (show Kd.M (Kd.int .i64) _ _ _ (-9223372036854775808) [.int .i64 (-9223372036854775808)] from rfl) (Reps.one (show Kd.M (Kd.int .i64) _ _ _ (-1) [.int .i64 (-1)] from rfl) (Reps.one (show Kd.M (Kd.int .i64) _ _ _ a1 [.int .i64 a1] from rfl) (Reps.none _ _))))))
                                        intro v372 w43 ho44 hb hg_ hnew_
                                        clear hg_ hnew_
                                        (first | rw [← Ny371.out] at ho44 | (simp only [Int.reduceToNat] at ho44; rw [← Ny371.out] at ho44))
                                        have n0_ := Aside0.mk (Kd.N_elder' (by (with_reducible repeat (first | apply Kd.N_alloc | apply Kd.N_drewN | apply Kd.N_drew)); exact HO378.out) (Kd.R_base ho44) hb)
                                        have n1_ := Aside0.mk (Kd.R_lower ho44 (below_size (by repeat (first | (with_reducible first | exact HB.out | apply below_alloc | apply pw_below_drewN | apply below_drew1 | refine below_set ?_ GE362.out | refine below_set ?_ GE370.out) | exact HB.out))))
                                        have n2_ := Aside0.mk (blk_below (g := gb362) (o := .cells #[.int .i64 a0_0, .int .i64 a0_1, .slice A0_2 l0_2.length c0_2] 24 (0, 0)) (by (with_reducible repeat (first | refine blk_drewN ?_ _ | refine blk_drew ?_ | refine blk_alloc ?_ _)); exact BK362.out) hb)
                                        have n3_ := Aside0.mk (blk_below (g := gb370) (o := .cells #[.int .i64 t365, .int .i64 t366, .slice Ao37 t367.length co37] 29 (0, 0)) (by (with_reducible repeat (first | refine blk_drewN ?_ _ | refine blk_drew ?_ | refine blk_alloc ?_ _)); exact BK370.out) hb)
                                        have n4_ := Aside0.mk (below_step (by repeat (first | (with_reducible first | exact HB.out | apply below_alloc | apply pw_below_drewN | apply below_drew1 | refine below_set ?_ GE362.out | refine below_set ?_ GE370.out) | exact HB.out)) hb)
                                        clear HO378
                                        clear BK362
                                        clear BK370
                                        clear HB
                                        have HO378 := n0_
                                        have HO373 := n1_
                                        have BK362 := n2_
                                        have BK370 := n3_
                                        have HB := n4_
                                        clear n0_ n1_ n2_ n3_ n4_
                                        clear hb ho44
                                        obtain ⟨Ao45, co45, eo45⟩ := Kd.R_slice HO373.out
                                        subst eo45
                                        obtain ⟨ado45, fo45, _⟩ := Kd.at_int (Kd.R_reads' HO373.out).2.2 0 (by decide) (by rw [Ny371.out]; simp)
                                        cases fo45
                                        refine hK.out _ _ ⟨(blk_cell BK370.out 0).trans rfl, (blk_cell BK370.out 1).trans rfl, (blk_cell BK370.out 2).trans rfl⟩ (fun hHeld => ?_)
                                        clear hK K
                                        refine norm_ (a' := ?_) ?_ ?_
                                        rotate_left
                                        · show Act.put _ (some 23) _ = _
                                          simp only [Act.put, List.setIfInBounds_toArray, List.set_cons_zero, List.set_cons_succ, i64_w, i32_w, u8_w, u32_w]
                                          rfl
                                        refine pure_ (i := 4) (N := some 26) (v := ?_) (a' := ?_) #[true, true, true, true, true, false, true, true, false, false] rfl rfl (any_of HT_.out (by kernel_rfl)) (fun _ _ _ h => h) (Or.inl ⟨by rfl, ?_⟩) ?_ ?_
                                        rotate_left
                                        · intro w'
                                          go_simp
                                          with_reducible rfl
                                        rotate_left
                                        · simp only [Act.put, List.setIfInBounds_toArray, List.set_cons_zero, List.set_cons_succ, i64_w, i32_w, u8_w, u32_w]
                                          rfl
                                        exact norm_ (by first | (simp only [putAll, Act.put, List.setIfInBounds_toArray, List.set_cons_zero, List.set_cons_succ]; done) | (simp only [putAll, Act.put, List.setIfInBounds_toArray, List.set_cons_zero, List.set_cons_succ]; rfl)) (hJ1_3_7 (.slice (some ado45) y371.length co45, ado45, v377) _ ⟨hHeld, (by (with_reducible repeat (first | apply Kd.R_alloc | apply Kd.R_drewN | apply Kd.R_drew)); exact HO373.out), (by (with_reducible repeat (first | apply Kd.N_alloc | apply Kd.N_drewN | apply Kd.N_drew)); exact Kd.N_mono HO378.out (fun _ hk => ⟨hk.2, ⟨hk.1.1, hk.1.2⟩⟩)), ⟨_, rfl⟩, (by (with_reducible repeat (first | refine blk_drewN ?_ _ | refine blk_drew ?_ | refine blk_alloc ?_ _)); exact BK362.out), (by (with_reducible repeat (first | refine blk_drewN ?_ _ | refine blk_drew ?_ | refine blk_alloc ?_ _)); exact BK370.out), (by repeat (first | (with_reducible first | exact HB.out | apply below_alloc | apply pw_below_drewN | apply below_drew1 | refine below_set ?_ GE362.out | refine below_set ?_ GE370.out) | exact HB.out))⟩)
                                    · skip
                                      rintro ⟨v372, adz_v372, v377⟩ w45 ⟨hS_, h0_, h1_, h2_, h3_, h4_, h5_⟩
                                      have n0_ : Aside0 (Kd.R (Kd.int .i64) 3 w45 w.heap.size (fun _ => True) v372 y371) := ⟨h0_⟩
                                      have n1_ : Aside0 (Kd.N k29 29 w45 w.heap.size (fun k_ => some k_ ≠ (v372 : Value).ownBlock ∧ k_ ≠ gb362 ∧ k_ ≠ gb370) v377 y376) := ⟨h1_⟩
                                      have n2_ : Aside0 (∃ c_, (v372 : Value) = .slice (some adz_v372) y371.length c_) := ⟨h2_⟩
                                      have n3_ : Aside0 (w45.heap[gb362]? = some (.cells #[.int .i64 a0_0, .int .i64 a0_1, .slice A0_2 l0_2.length c0_2] 24 (0, 0))) := ⟨h3_⟩
                                      have n4_ : Aside0 (w45.heap[gb370]? = some (.cells #[.int .i64 t365, .int .i64 t366, .slice Ao37 t367.length co37] 29 (0, 0))) := ⟨h4_⟩
                                      have n5_ : Aside0 (Below w.heap.size w w45) := ⟨h5_⟩
                                      clear HO369
                                      clear BK362
                                      clear BK370
                                      clear HB
                                      clear h0_ h1_ h2_ h3_ h4_ h5_
                                      have HO373 := n0_
                                      have HO378 := n1_
                                      have HA_HO373 := n2_
                                      have BK362 := n3_
                                      have BK370 := n4_
                                      have HB := n5_
                                      clear n0_ n1_ n2_ n3_ n4_ n5_
                                      have hHeld : w45.cell? ⟨gb370, 0, none⟩ = some (.int .i64 t365) ∧ w45.cell? ⟨gb370, 1, none⟩ = some (.int .i64 t366) ∧ w45.cell? ⟨gb370, 2, none⟩ = some (.slice Ao37 t367.length co37) := hS_
                                      obtain ⟨co46, eo46⟩ := HA_HO373.out
                                      clear HA_HO373
                                      subst eo46
                                      refine norm_ (a' := ?_) ?_ ?_
                                      rotate_left
                                      · simp only [putAll, Act.put, List.setIfInBounds_toArray, List.set_cons_zero, List.set_cons_succ]
                                        rfl
                                      refine one_ (i := 3) (N := some 25) #[true, true, true, true, false, false, true, true, false, false] rfl rfl (one_of HT_.out (by kernel_rfl)) (by decide) (fun K hK => ?_)
                                      refine goes_ Try.func19 (by kernel_rfl) rfl #[.int .i64 a1, .int .i64 4] (by rfl) rfl rfl (by (try simp only [List.map_toArray, List.map_cons, List.map_nil]); first | done | rfl | (simp only [List.length_drop, List.length_take]; rfl)) ?_
                                      with_reducible refine (thyrsuslaw1_within.calls a1 4 t374 _ A9.out).mono ?_
                                      rintro e w' ⟨rfl, ⟨nd, rfl⟩⟩
                                      refine ⟨_, rfl, ?_⟩
                                      refine hK.out _ _ ⟨(blk_cell BK370.out 0).trans rfl, (blk_cell BK370.out 1).trans rfl, (blk_cell BK370.out 2).trans rfl⟩ (fun hHeld => ?_)
                                      clear hK K
                                      refine norm_ (a' := ?_) ?_ ?_
                                      rotate_left
                                      · show Act.put _ (some 25) _ = _
                                        simp only [Act.put, List.setIfInBounds_toArray, List.set_cons_zero, List.set_cons_succ, i64_w, i32_w, u8_w, u32_w]
                                        rfl
                                      refine pure_ (i := 4) (N := some 26) (v := ?_) (a' := ?_) #[true, true, true, true, true, false, true, true, false, false] rfl rfl (any_of HT_.out (by kernel_rfl)) (fun _ _ _ h => h) (Or.inl ⟨by rfl, ?_⟩) ?_ ?_
                                      rotate_left
                                      · intro w'
                                        go_simp
                                        with_reducible rfl
                                      rotate_left
                                      · simp only [Act.put, List.setIfInBounds_toArray, List.set_cons_zero, List.set_cons_succ, i64_w, i32_w, u8_w, u32_w]
                                        rfl
                                      exact norm_ (by first | (simp only [putAll, Act.put, List.setIfInBounds_toArray, List.set_cons_zero, List.set_cons_succ]; done) | (simp only [putAll, Act.put, List.setIfInBounds_toArray, List.set_cons_zero, List.set_cons_succ]; rfl)) (hJ1_3_7 (.slice (some adz_v372) y371.length co46, adz_v372, v377) _ ⟨hHeld, (by (with_reducible repeat (first | apply Kd.R_alloc | apply Kd.R_drewN | apply Kd.R_drew)); exact HO373.out), (by (with_reducible repeat (first | apply Kd.N_alloc | apply Kd.N_drewN | apply Kd.N_drew)); exact HO378.out), ⟨_, rfl⟩, (by (with_reducible repeat (first | refine blk_drewN ?_ _ | refine blk_drew ?_ | refine blk_alloc ?_ _)); exact BK362.out), (by (with_reducible repeat (first | refine blk_drewN ?_ _ | refine blk_drew ?_ | refine blk_alloc ?_ _)); exact BK370.out), (by repeat (first | (with_reducible first | exact HB.out | apply below_alloc | apply pw_below_drewN | apply below_drew1 | refine below_set ?_ GE362.out | refine below_set ?_ GE370.out) | exact HB.out))⟩)
                                  · skip
                                    rintro ⟨v372, adz_v372⟩ w43 ⟨hS_, h0_, h1_, h2_, h3_, h4_, h5_⟩
                                    have n0_ : Aside0 (Kd.N k29 29 w43 w.heap.size (fun k_ => some k_ ≠ (v372 : Value).ownBlock ∧ k_ ≠ gb362 ∧ k_ ≠ gb370) (.slice Ao37 t367.length co37) t367) := ⟨h0_⟩
                                    have n1_ : Aside0 (Kd.R (Kd.int .i64) 3 w43 w.heap.size (fun _ => True) v372 y371) := ⟨h1_⟩
                                    have n2_ : Aside0 (∃ c_, (v372 : Value) = .slice (some adz_v372) y371.length c_) := ⟨h2_⟩
                                    have n3_ : Aside0 (w43.heap[gb362]? = some (.cells #[.int .i64 a0_0, .int .i64 a0_1, .slice A0_2 l0_2.length c0_2] 24 (0, 0))) := ⟨h3_⟩
                                    have n4_ : Aside0 (w43.heap[gb370]? = some (.cells #[.int .i64 t365, .int .i64 t366, .slice Ao37 t367.length co37] 29 (0, 0))) := ⟨h4_⟩
                                    have n5_ : Aside0 (Below w.heap.size w w43) := ⟨h5_⟩
                                    clear HO369
                                    clear BK362
                                    clear BK370
                                    clear HB
                                    clear h0_ h1_ h2_ h3_ h4_ h5_
                                    have HO369 := n0_
                                    have HO373 := n1_
                                    have HA_HO373 := n2_
                                    have BK362 := n3_
                                    have BK370 := n4_
                                    have HB := n5_
                                    clear n0_ n1_ n2_ n3_ n4_ n5_
                                    have hHeld : w43.cell? ⟨gb370, 0, none⟩ = some (.int .i64 t365) ∧ w43.cell? ⟨gb370, 1, none⟩ = some (.int .i64 t366) ∧ w43.cell? ⟨gb370, 2, none⟩ = some (.slice Ao37 t367.length co37) := hS_
                                    obtain ⟨co44, eo44⟩ := HA_HO373.out
                                    clear HA_HO373
                                    subst eo44
                                    refine norm_ (a' := ?_) ?_ ?_
                                    rotate_left
                                    · simp only [putAll, Act.put, List.setIfInBounds_toArray, List.set_cons_zero, List.set_cons_succ]
                                      rfl
                                    refine two_ (i := 5) (j := 7) (Ni := some 27) (Nj := some 29) #[true, true, true, true, true, true, true, false, false, false] #[true, true, true, true, true, false, true, true, false, false] rfl rfl rfl rfl (two_of HT_.out (by kernel_rfl)) (by decide) (by decide) (fun K hK => ?_) (fun K hK => ?_)
                                    · skip
                                      (have p375 : 0 ≤ (t374 : Int) := of_decide_eq_true (by first | (with_reducible assumption) | assumption); have q375 : t374 < (y371.length : Int) := of_decide_eq_true (by first | (with_reducible assumption) | assumption); obtain ⟨ad375, e375, hx375_0⟩ := Kd.at_int (Kd.R_reads' HO373.out).2.2 t374 p375 q375; obtain rfl : adz_v372 = ad375 := (by injection e375))
                                      refine value_ (w1 := ?_) (v := ?_) (by rfl) rfl ?_ ?_
                                      rotate_left 2
                                      · go_simp
                                        constructor
                                        · rfl
                                        · rfl
                                      clear hx375_0
                                      refine hK.out _ _ ⟨(blk_cell BK370.out 0).trans rfl, (blk_cell BK370.out 1).trans rfl, (blk_cell BK370.out 2).trans rfl⟩ (fun hHeld => ?_)
                                      clear hK K
                                      refine norm_ (a' := ?_) ?_ ?_
                                      rotate_left
                                      · show Act.put _ (some 27) _ = _
                                        simp only [Act.put, List.setIfInBounds_toArray, List.set_cons_zero, List.set_cons_succ, i64_w, i32_w, u8_w, u32_w]
                                        rfl
                                      exact norm_ (by first | (simp only [putAll, Act.put, List.setIfInBounds_toArray, List.set_cons_zero, List.set_cons_succ]; done) | (simp only [putAll, Act.put, List.setIfInBounds_toArray, List.set_cons_zero, List.set_cons_succ]; rfl)) (hJ1_3_5 (.slice (some adz_v372) y371.length co44, adz_v372) _ ⟨hHeld, (by (with_reducible repeat (first | apply Kd.N_alloc | apply Kd.N_drewN | apply Kd.N_drew)); exact HO369.out), (by (with_reducible repeat (first | apply Kd.R_alloc | apply Kd.R_drewN | apply Kd.R_drew)); exact HO373.out), ⟨_, rfl⟩, (by (with_reducible repeat (first | refine blk_drewN ?_ _ | refine blk_drew ?_ | refine blk_alloc ?_ _)); exact BK362.out), (by (with_reducible repeat (first | refine blk_drewN ?_ _ | refine blk_drew ?_ | refine blk_alloc ?_ _)); exact BK370.out), (by repeat (first | (with_reducible first | exact HB.out | apply below_alloc | apply pw_below_drewN | apply below_drew1 | refine below_set ?_ GE362.out | refine below_set ?_ GE370.out) | exact HB.out))⟩)
                                    · skip
                                      refine Kd.N_lit_step k29 _ 29 ?hg (N' := 29) ?hd (xs := ([(⟨t365, t366, t367⟩ : S29)] : List (S29))) (inner := [.int .i64 t365, .int .i64 t366, .slice Ao37 t367.length co37]) (ok := (fun k_ => some k_ ≠ (.slice (some adz_v372) y371.length co44 : Value).ownBlock ∧ k_ ≠ gb362 ∧ k_ ≠ gb370)) (okp := (fun k_ => some k_ ≠ (.slice (some adz_v372) y371.length co44 : Value).ownBlock ∧ k_ ≠ gb362 ∧ k_ ≠ gb370)) ?hr ?hp (fun _ hk => hk) ((show ∀ k_, w43.heap.size ≤ k_ → (fun k_ => some k_ ≠ (.slice (some adz_v372) y371.length co44 : Value).ownBlock ∧ k_ ≠ gb362 ∧ k_ ≠ gb370) k_ from fun k_ hk => ⟨Kd.fresh' (Kd.R_lt (by (with_reducible repeat (first | apply Kd.R_alloc | apply Kd.R_drewN | apply Kd.R_drew)); exact HO373.out)) k_ hk, Kd.freshB (g := gb362) (o := .cells #[.int .i64 a0_0, .int .i64 a0_1, .slice A0_2 l0_2.length c0_2] 24 (0, 0)) (by (with_reducible repeat (first | refine blk_drewN ?_ _ | refine blk_drew ?_ | refine blk_alloc ?_ _)); exact BK362.out) k_ hk, Kd.freshB (g := gb370) (o := .cells #[.int .i64 t365, .int .i64 t366, .slice Ao37 t367.length co37] 29 (0, 0)) (by (with_reducible repeat (first | refine blk_drewN ?_ _ | refine blk_drew ?_ | refine blk_alloc ?_ _)); exact BK370.out) k_ hk⟩) _ (Nat.le_refl _)) (Below.refl _ _) (Nat.le_refl _) (by simp) ?_; (case hd => rfl); (case hg => rfl); (case hr => first | (go_simp; done) | (go_simp; rfl)); (case hp => exact (Reps.c3 (show Kd.FK k29 _ _ (⟨t365, t366, t367⟩ : S29) [.int .i64 t365, .int .i64 t366, .slice Ao37 t367.length co37] from (k29_mkF _ _ (⟨t365, t366, t367⟩ : S29) (Kd.N_reads' (Kd.N_mono (ok' := (fun k_ => some k_ ≠ (.slice (some adz_v372) y371.length co44 : Value).ownBlock ∧ k_ ≠ gb362 ∧ k_ ≠ gb370)) (HO369.out) (fun k_ hk => ⟨hk.1, ⟨hk.2.1, hk.2.2⟩⟩))).2.1 (Kd.N_F (Kd.N_mono (ok' := (fun k_ => some k_ ≠ (.slice (some adz_v372) y371.length co44 : Value).ownBlock ∧ k_ ≠ gb362 ∧ k_ ≠ gb370)) (HO369.out) (fun k_ hk => ⟨hk.1, ⟨hk.2.1, hk.2.2⟩⟩))))) (Reps.none _ _)))
                                      intro v377 w45 ho46 hb hg_ hnew_
                                      clear hg_ hnew_
                                      (first | rw [← Ny376.out] at ho46 | (simp only [Int.reduceToNat] at ho46; rw [← Ny376.out] at ho46))
                                      have n0_ := Aside0.mk (Kd.R_below (by (with_reducible repeat (first | apply Kd.R_alloc | apply Kd.R_drewN | apply Kd.R_drew)); exact HO373.out) hb)
                                      have n1_ := Aside0.mk (Kd.N_lower ho46 (below_size (by repeat (first | (with_reducible first | exact HB.out | apply below_alloc | apply pw_below_drewN | apply below_drew1 | refine below_set ?_ GE362.out | refine below_set ?_ GE370.out) | exact HB.out))))
                                      have n2_ := Aside0.mk (blk_below (g := gb362) (o := .cells #[.int .i64 a0_0, .int .i64 a0_1, .slice A0_2 l0_2.length c0_2] 24 (0, 0)) (by (with_reducible repeat (first | refine blk_drewN ?_ _ | refine blk_drew ?_ | refine blk_alloc ?_ _)); exact BK362.out) hb)
                                      have n3_ := Aside0.mk (blk_below (g := gb370) (o := .cells #[.int .i64 t365, .int .i64 t366, .slice Ao37 t367.length co37] 29 (0, 0)) (by (with_reducible repeat (first | refine blk_drewN ?_ _ | refine blk_drew ?_ | refine blk_alloc ?_ _)); exact BK370.out) hb)
                                      have n4_ := Aside0.mk (below_step (by repeat (first | (with_reducible first | exact HB.out | apply below_alloc | apply pw_below_drewN | apply below_drew1 | refine below_set ?_ GE362.out | refine below_set ?_ GE370.out) | exact HB.out)) hb)
                                      clear HO373
                                      clear BK362
                                      clear BK370
                                      clear HB
                                      clear HO369
                                      have HO373 := n0_
                                      have HO378 := n1_
                                      have BK362 := n2_
                                      have BK370 := n3_
                                      have HB := n4_
                                      clear n0_ n1_ n2_ n3_ n4_
                                      clear hb ho46
                                      refine hK.out _ _ ⟨(blk_cell BK370.out 0).trans rfl, (blk_cell BK370.out 1).trans rfl, (blk_cell BK370.out 2).trans rfl⟩ (fun hHeld => ?_)
                                      clear hK K
                                      refine norm_ (a' := ?_) ?_ ?_
                                      rotate_left
                                      · show Act.put _ (some 29) _ = _
                                        simp only [Act.put, List.setIfInBounds_toArray, List.set_cons_zero, List.set_cons_succ, i64_w, i32_w, u8_w, u32_w]
                                        rfl
                                      exact norm_ (by first | (simp only [putAll, Act.put, List.setIfInBounds_toArray, List.set_cons_zero, List.set_cons_succ]; done) | (simp only [putAll, Act.put, List.setIfInBounds_toArray, List.set_cons_zero, List.set_cons_succ]; rfl)) (hJ1_3_7 (.slice (some adz_v372) y371.length co44, adz_v372, v377) _ ⟨hHeld, (by (with_reducible repeat (first | apply Kd.R_alloc | apply Kd.R_drewN | apply Kd.R_drew)); exact HO373.out), (by (with_reducible repeat (first | apply Kd.N_alloc | apply Kd.N_drewN | apply Kd.N_drew)); exact HO378.out), ⟨_, rfl⟩, (by (with_reducible repeat (first | refine blk_drewN ?_ _ | refine blk_drew ?_ | refine blk_alloc ?_ _)); exact BK362.out), (by (with_reducible repeat (first | refine blk_drewN ?_ _ | refine blk_drew ?_ | refine blk_alloc ?_ _)); exact BK370.out), (by repeat (first | (with_reducible first | exact HB.out | apply below_alloc | apply pw_below_drewN | apply below_drew1 | refine below_set ?_ GE362.out | refine below_set ?_ GE370.out) | exact HB.out))⟩)
                                · skip
                                  rintro ⟨v372, adz_v372, v377⟩ w45 ⟨hS_, h0_, h1_, h2_, h3_, h4_, h5_⟩
                                  have n0_ : Aside0 (Kd.R (Kd.int .i64) 3 w45 w.heap.size (fun _ => True) v372 y371) := ⟨h0_⟩
                                  have n1_ : Aside0 (Kd.N k29 29 w45 w.heap.size (fun k_ => some k_ ≠ (v372 : Value).ownBlock ∧ k_ ≠ gb362 ∧ k_ ≠ gb370) v377 y376) := ⟨h1_⟩
                                  have n2_ : Aside0 (∃ c_, (v372 : Value) = .slice (some adz_v372) y371.length c_) := ⟨h2_⟩
                                  have n3_ : Aside0 (w45.heap[gb362]? = some (.cells #[.int .i64 a0_0, .int .i64 a0_1, .slice A0_2 l0_2.length c0_2] 24 (0, 0))) := ⟨h3_⟩
                                  have n4_ : Aside0 (w45.heap[gb370]? = some (.cells #[.int .i64 t365, .int .i64 t366, .slice Ao37 t367.length co37] 29 (0, 0))) := ⟨h4_⟩
                                  have n5_ : Aside0 (Below w.heap.size w w45) := ⟨h5_⟩
                                  clear HO369
                                  clear BK362
                                  clear BK370
                                  clear HB
                                  clear h0_ h1_ h2_ h3_ h4_ h5_
                                  have HO373 := n0_
                                  have HO378 := n1_
                                  have HA_HO373 := n2_
                                  have BK362 := n3_
                                  have BK370 := n4_
                                  have HB := n5_
                                  clear n0_ n1_ n2_ n3_ n4_ n5_
                                  have hHeld : w45.cell? ⟨gb370, 0, none⟩ = some (.int .i64 t365) ∧ w45.cell? ⟨gb370, 1, none⟩ = some (.int .i64 t366) ∧ w45.cell? ⟨gb370, 2, none⟩ = some (.slice Ao37 t367.length co37) := hS_
                                  obtain ⟨co46, eo46⟩ := HA_HO373.out
                                  clear HA_HO373
                                  subst eo46
                                  obtain ⟨Ao47, co47, eo47⟩ := Kd.N_slice HO378.out
                                  (first | subst eo47 | (injection eo47 with f1_ f2_ f3_; have f4_ := f1_.symm; have f5_ := f3_.symm; clear f1_ f2_ f3_; subst f4_; subst f5_))
                                  refine norm_ (a' := ?_) ?_ ?_
                                  rotate_left
                                  · simp only [putAll, Act.put, List.setIfInBounds_toArray, List.set_cons_zero, List.set_cons_succ]
                                    rfl
                                  refine one_ (i := 5) (N := some 27) #[true, true, true, true, true, true, true, true, false, false] rfl rfl (one_of HT_.out (by kernel_rfl)) (by decide) (fun K hK => ?_)
                                  (have p375 : 0 ≤ (t374 : Int) := of_decide_eq_true (by first | (with_reducible assumption) | assumption); have q375 : t374 < (y371.length : Int) := of_decide_eq_true (by first | (with_reducible assumption) | assumption); obtain ⟨ad375, e375, hx375_0⟩ := Kd.at_int (Kd.R_reads' HO373.out).2.2 t374 p375 q375; obtain rfl : adz_v372 = ad375 := (by injection e375))
                                  refine value_ (w1 := ?_) (v := ?_) (by rfl) rfl ?_ ?_
                                  rotate_left 2
                                  · go_simp
                                    constructor
                                    · rfl
                                    · rfl
                                  clear hx375_0
                                  refine hK.out _ _ ⟨(blk_cell BK370.out 0).trans rfl, (blk_cell BK370.out 1).trans rfl, (blk_cell BK370.out 2).trans rfl⟩ (fun hHeld => ?_)
                                  clear hK K
                                  refine norm_ (a' := ?_) ?_ ?_
                                  rotate_left
                                  · show Act.put _ (some 27) _ = _
                                    simp only [Act.put, List.setIfInBounds_toArray, List.set_cons_zero, List.set_cons_succ, i64_w, i32_w, u8_w, u32_w]
                                    rfl
                                  exact norm_ (by first | (simp only [putAll, Act.put, List.setIfInBounds_toArray, List.set_cons_zero, List.set_cons_succ]; done) | (simp only [putAll, Act.put, List.setIfInBounds_toArray, List.set_cons_zero, List.set_cons_succ]; rfl)) (hJ1_3_5_7 (.slice (some adz_v372) y371.length co46, adz_v372, .slice Ao47 y376.length co47) _ ⟨hHeld, (by (with_reducible repeat (first | apply Kd.R_alloc | apply Kd.R_drewN | apply Kd.R_drew)); exact HO373.out), (by (with_reducible repeat (first | apply Kd.N_alloc | apply Kd.N_drewN | apply Kd.N_drew)); exact HO378.out), ⟨_, rfl⟩, (by (with_reducible repeat (first | refine blk_drewN ?_ _ | refine blk_drew ?_ | refine blk_alloc ?_ _)); exact BK362.out), (by (with_reducible repeat (first | refine blk_drewN ?_ _ | refine blk_drew ?_ | refine blk_alloc ?_ _)); exact BK370.out), (by repeat (first | (with_reducible first | exact HB.out | apply below_alloc | apply pw_below_drewN | apply below_drew1 | refine below_set ?_ GE362.out | refine below_set ?_ GE370.out) | exact HB.out))⟩)
                              · skip
                                rintro ⟨v372, adz_v372⟩ w43 ⟨hS_, h0_, h1_, h2_, h3_, h4_, h5_⟩
                                have n0_ : Aside0 (Kd.N k29 29 w43 w.heap.size (fun k_ => some k_ ≠ (v372 : Value).ownBlock ∧ k_ ≠ gb362 ∧ k_ ≠ gb370) (.slice Ao37 t367.length co37) t367) := ⟨h0_⟩
                                have n1_ : Aside0 (Kd.R (Kd.int .i64) 3 w43 w.heap.size (fun _ => True) v372 y371) := ⟨h1_⟩
                                have n2_ : Aside0 (∃ c_, (v372 : Value) = .slice (some adz_v372) y371.length c_) := ⟨h2_⟩
                                have n3_ : Aside0 (w43.heap[gb362]? = some (.cells #[.int .i64 a0_0, .int .i64 a0_1, .slice A0_2 l0_2.length c0_2] 24 (0, 0))) := ⟨h3_⟩
                                have n4_ : Aside0 (w43.heap[gb370]? = some (.cells #[.int .i64 t365, .int .i64 t366, .slice Ao37 t367.length co37] 29 (0, 0))) := ⟨h4_⟩
                                have n5_ : Aside0 (Below w.heap.size w w43) := ⟨h5_⟩
                                clear HO369
                                clear BK362
                                clear BK370
                                clear HB
                                clear h0_ h1_ h2_ h3_ h4_ h5_
                                have HO369 := n0_
                                have HO373 := n1_
                                have HA_HO373 := n2_
                                have BK362 := n3_
                                have BK370 := n4_
                                have HB := n5_
                                clear n0_ n1_ n2_ n3_ n4_ n5_
                                have hHeld : w43.cell? ⟨gb370, 0, none⟩ = some (.int .i64 t365) ∧ w43.cell? ⟨gb370, 1, none⟩ = some (.int .i64 t366) ∧ w43.cell? ⟨gb370, 2, none⟩ = some (.slice Ao37 t367.length co37) := hS_
                                obtain ⟨co44, eo44⟩ := HA_HO373.out
                                clear HA_HO373
                                subst eo44
                                refine norm_ (a' := ?_) ?_ ?_
                                rotate_left
                                · simp only [putAll, Act.put, List.setIfInBounds_toArray, List.set_cons_zero, List.set_cons_succ]
                                  rfl
                                refine one_ (i := 7) (N := some 29) #[true, true, true, true, true, true, true, true, false, false] rfl rfl (one_of HT_.out (by kernel_rfl)) (by decide) (fun K hK => ?_)
                                refine Kd.N_lit_step k29 _ 29 ?hg (N' := 29) ?hd (xs := ([(⟨t365, t366, t367⟩ : S29)] : List (S29))) (inner := [.int .i64 t365, .int .i64 t366, .slice Ao37 t367.length co37]) (ok := (fun k_ => some k_ ≠ (.slice (some adz_v372) y371.length co44 : Value).ownBlock ∧ k_ ≠ gb362 ∧ k_ ≠ gb370)) (okp := (fun k_ => some k_ ≠ (.slice (some adz_v372) y371.length co44 : Value).ownBlock ∧ k_ ≠ gb362 ∧ k_ ≠ gb370)) ?hr ?hp (fun _ hk => hk) ((show ∀ k_, w43.heap.size ≤ k_ → (fun k_ => some k_ ≠ (.slice (some adz_v372) y371.length co44 : Value).ownBlock ∧ k_ ≠ gb362 ∧ k_ ≠ gb370) k_ from fun k_ hk => ⟨Kd.fresh' (Kd.R_lt (by (with_reducible repeat (first | apply Kd.R_alloc | apply Kd.R_drewN | apply Kd.R_drew)); exact HO373.out)) k_ hk, Kd.freshB (g := gb362) (o := .cells #[.int .i64 a0_0, .int .i64 a0_1, .slice A0_2 l0_2.length c0_2] 24 (0, 0)) (by (with_reducible repeat (first | refine blk_drewN ?_ _ | refine blk_drew ?_ | refine blk_alloc ?_ _)); exact BK362.out) k_ hk, Kd.freshB (g := gb370) (o := .cells #[.int .i64 t365, .int .i64 t366, .slice Ao37 t367.length co37] 29 (0, 0)) (by (with_reducible repeat (first | refine blk_drewN ?_ _ | refine blk_drew ?_ | refine blk_alloc ?_ _)); exact BK370.out) k_ hk⟩) _ (Nat.le_refl _)) (Below.refl _ _) (Nat.le_refl _) (by simp) ?_; (case hd => rfl); (case hg => rfl); (case hr => first | (go_simp; done) | (go_simp; rfl)); (case hp => exact (Reps.c3 (show Kd.FK k29 _ _ (⟨t365, t366, t367⟩ : S29) [.int .i64 t365, .int .i64 t366, .slice Ao37 t367.length co37] from (k29_mkF _ _ (⟨t365, t366, t367⟩ : S29) (Kd.N_reads' (Kd.N_mono (ok' := (fun k_ => some k_ ≠ (.slice (some adz_v372) y371.length co44 : Value).ownBlock ∧ k_ ≠ gb362 ∧ k_ ≠ gb370)) (HO369.out) (fun k_ hk => ⟨hk.1, ⟨hk.2.1, hk.2.2⟩⟩))).2.1 (Kd.N_F (Kd.N_mono (ok' := (fun k_ => some k_ ≠ (.slice (some adz_v372) y371.length co44 : Value).ownBlock ∧ k_ ≠ gb362 ∧ k_ ≠ gb370)) (HO369.out) (fun k_ hk => ⟨hk.1, ⟨hk.2.1, hk.2.2⟩⟩))))) (Reps.none _ _)))
                                intro v377 w45 ho46 hb hg_ hnew_
                                clear hg_ hnew_
                                (first | rw [← Ny376.out] at ho46 | (simp only [Int.reduceToNat] at ho46; rw [← Ny376.out] at ho46))
                                have n0_ := Aside0.mk (Kd.R_below (by (with_reducible repeat (first | apply Kd.R_alloc | apply Kd.R_drewN | apply Kd.R_drew)); exact HO373.out) hb)
                                have n1_ := Aside0.mk (Kd.N_lower ho46 (below_size (by repeat (first | (with_reducible first | exact HB.out | apply below_alloc | apply pw_below_drewN | apply below_drew1 | refine below_set ?_ GE362.out | refine below_set ?_ GE370.out) | exact HB.out))))
                                have n2_ := Aside0.mk (blk_below (g := gb362) (o := .cells #[.int .i64 a0_0, .int .i64 a0_1, .slice A0_2 l0_2.length c0_2] 24 (0, 0)) (by (with_reducible repeat (first | refine blk_drewN ?_ _ | refine blk_drew ?_ | refine blk_alloc ?_ _)); exact BK362.out) hb)
                                have n3_ := Aside0.mk (blk_below (g := gb370) (o := .cells #[.int .i64 t365, .int .i64 t366, .slice Ao37 t367.length co37] 29 (0, 0)) (by (with_reducible repeat (first | refine blk_drewN ?_ _ | refine blk_drew ?_ | refine blk_alloc ?_ _)); exact BK370.out) hb)
                                have n4_ := Aside0.mk (below_step (by repeat (first | (with_reducible first | exact HB.out | apply below_alloc | apply pw_below_drewN | apply below_drew1 | refine below_set ?_ GE362.out | refine below_set ?_ GE370.out) | exact HB.out)) hb)
                                clear HO373
                                clear BK362
                                clear BK370
                                clear HB
                                clear HO369
                                have HO373 := n0_
                                have HO378 := n1_
                                have BK362 := n2_
                                have BK370 := n3_
                                have HB := n4_
                                clear n0_ n1_ n2_ n3_ n4_
                                clear hb ho46
                                obtain ⟨Ao47, co47, eo47⟩ := Kd.N_slice HO378.out
                                (first | subst eo47 | (injection eo47 with f1_ f2_ f3_; have f4_ := f1_.symm; have f5_ := f3_.symm; clear f1_ f2_ f3_; subst f4_; subst f5_))
                                refine hK.out _ _ ⟨(blk_cell BK370.out 0).trans rfl, (blk_cell BK370.out 1).trans rfl, (blk_cell BK370.out 2).trans rfl⟩ (fun hHeld => ?_)
                                clear hK K
                                refine norm_ (a' := ?_) ?_ ?_
                                rotate_left
                                · show Act.put _ (some 29) _ = _
                                  simp only [Act.put, List.setIfInBounds_toArray, List.set_cons_zero, List.set_cons_succ, i64_w, i32_w, u8_w, u32_w]
                                  rfl
                                exact norm_ (by first | (simp only [putAll, Act.put, List.setIfInBounds_toArray, List.set_cons_zero, List.set_cons_succ]; done) | (simp only [putAll, Act.put, List.setIfInBounds_toArray, List.set_cons_zero, List.set_cons_succ]; rfl)) (hJ1_3_5_7 (.slice (some adz_v372) y371.length co44, adz_v372, .slice Ao47 y376.length co47) _ ⟨hHeld, (by (with_reducible repeat (first | apply Kd.R_alloc | apply Kd.R_drewN | apply Kd.R_drew)); exact HO373.out), (by (with_reducible repeat (first | apply Kd.N_alloc | apply Kd.N_drewN | apply Kd.N_drew)); exact HO378.out), ⟨_, rfl⟩, (by (with_reducible repeat (first | refine blk_drewN ?_ _ | refine blk_drew ?_ | refine blk_alloc ?_ _)); exact BK362.out), (by (with_reducible repeat (first | refine blk_drewN ?_ _ | refine blk_drew ?_ | refine blk_alloc ?_ _)); exact BK370.out), (by repeat (first | (with_reducible first | exact HB.out | apply below_alloc | apply pw_below_drewN | apply below_drew1 | refine below_set ?_ GE362.out | refine below_set ?_ GE370.out) | exact HB.out))⟩)
                            rintro ⟨v372, adz_v372, v377⟩ w46 ⟨hS_, h0_, h1_, h2_, h3_, h4_, h5_⟩
                            have n0_ : Aside0 (Kd.R (Kd.int .i64) 3 w46 w.heap.size (fun _ => True) v372 y371) := ⟨h0_⟩
                            have n1_ : Aside0 (Kd.N k29 29 w46 w.heap.size (fun k_ => some k_ ≠ (v372 : Value).ownBlock ∧ k_ ≠ gb362 ∧ k_ ≠ gb370) v377 y376) := ⟨h1_⟩
                            have n2_ : Aside0 (∃ c_, (v372 : Value) = .slice (some adz_v372) y371.length c_) := ⟨h2_⟩
                            have n3_ : Aside0 (w46.heap[gb362]? = some (.cells #[.int .i64 a0_0, .int .i64 a0_1, .slice A0_2 l0_2.length c0_2] 24 (0, 0))) := ⟨h3_⟩
                            have n4_ : Aside0 (w46.heap[gb370]? = some (.cells #[.int .i64 t365, .int .i64 t366, .slice Ao37 t367.length co37] 29 (0, 0))) := ⟨h4_⟩
                            have n5_ : Aside0 (Below w.heap.size w w46) := ⟨h5_⟩
                            clear HO369
                            clear BK362
                            clear BK370
                            clear HB
                            clear h0_ h1_ h2_ h3_ h4_ h5_
                            have HO373 := n0_
                            have HO378 := n1_
                            have HA_HO373 := n2_
                            have BK362 := n3_
                            have BK370 := n4_
                            have HB := n5_
                            clear n0_ n1_ n2_ n3_ n4_ n5_
                            have hHeld : w46.cell? ⟨gb370, 0, none⟩ = some (.int .i64 t365) ∧ w46.cell? ⟨gb370, 1, none⟩ = some (.int .i64 t366) ∧ w46.cell? ⟨gb370, 2, none⟩ = some (.slice Ao37 t367.length co37) := hS_
                            obtain ⟨co47, eo47⟩ := HA_HO373.out
                            clear HA_HO373
                            subst eo47
                            obtain ⟨Ao48, co48, eo48⟩ := Kd.N_slice HO378.out
                            (first | subst eo48 | (injection eo48 with f1_ f2_ f3_; have f4_ := f1_.symm; have f5_ := f3_.symm; clear f1_ f2_ f3_; subst f4_; subst f5_))
                            refine norm_ (a' := ?_) ?_ ?_
                            rotate_left
                            · simp only [putAll, Act.put, List.setIfInBounds_toArray, List.set_cons_zero, List.set_cons_succ]
                              rfl
                            refine pure_ (i := 8) (N := some 30) (v := ?_) (a' := ?_) #[true, true, true, true, true, true, true, true, true, false] rfl rfl (any_of HT_.out (by kernel_rfl)) (fun _ _ _ h => h) (Or.inl ⟨by rfl, ?_⟩) ?_ ?_
                            rotate_left
                            · intro w'
                              go_simp
                              with_reducible rfl
                            rotate_left
                            · simp only [Act.put, List.setIfInBounds_toArray, List.set_cons_zero, List.set_cons_succ, i64_w, i32_w, u8_w, u32_w]
                              rfl
                            refine last_ (i := 9) (N := none) #[true, true, true, true, true, true, true, true, true, true] rfl rfl (one_of HT_.out (by kernel_rfl)) (by decide) (fun K hK => ?_)
                            have hs49 : w46.cell? ⟨gb370, 0, none⟩ = some (.int .i64 t365) := (blk_cell BK370.out 0).trans rfl
                            have hfs49 := blk_frozen BK370.out 0
                            have hns49_0 := NB362_370.out
                            have hms49_0 := NB370_362.out
                            have hs50 : w46.cell? ⟨gb370, 1, none⟩ = some (.int .i64 t366) := (blk_cell BK370.out 1).trans rfl
                            have hfs50 := blk_frozen BK370.out 1
                            have hns50_0 := NB362_370.out
                            have hms50_0 := NB370_362.out
                            have hs51 : w46.cell? ⟨gb370, 2, none⟩ = some (.slice Ao37 t367.length co37) := (blk_cell BK370.out 2).trans rfl
                            have hfs51 := blk_frozen BK370.out 2
                            have hns51_0 := NB362_370.out
                            have hms51_0 := NB370_362.out
                            refine skip_ (w1 := ?_) (by rfl) rfl ?_ ?_
                            rotate_left
                            · go_simp
                              rfl
                            refine hK.out _ _ ?_
                            clear hK K
                            refine done_ (done_of HT_.out (by kernel_rfl)) ?_
                            have hcz52_0 : w46.cell? ⟨gb370, 0, none⟩ = some (.int .i64 t365) := (blk_cell BK370.out 0).trans rfl
                            have hcz52_1 : w46.cell? ⟨gb370, 1, none⟩ = some (.int .i64 t366) := (blk_cell BK370.out 1).trans rfl
                            have hcz52_2 : w46.cell? ⟨gb370, 2, none⟩ = some (.slice Ao37 t367.length co37) := (blk_cell BK370.out 2).trans rfl
                            have hfz52_0 := blk_frozen BK370.out 0
                            have hfz52_1 := blk_frozen BK370.out 1
                            have hfz52_2 := blk_frozen BK370.out 2
                            try go_wp2_with (first | ((with_reducible refine gate_callee (f := 12) rfl ?_); refine goesL_ (some 32) rfl rfl Try.func12 (by kernel_rfl) rfl #[.agg #[.int .i64 7, .int .i64 (rd y371 t374), .slice Ao48 y376.length co48]] rfl (by (try simp only [List.map_toArray, List.map_cons, List.map_nil]); first | done | rfl | (simp only [List.length_drop, List.length_take]; rfl)) ?_; (with_reducible refine (code_Bytes.calls 7 (rd y371 t374) _ _ y376 t379 _ ?side1 ?side2 A12.out).mono ?_); (case side1 => refine (Kd.N_reads' (e := 29) (base := w.heap.size) (ok := fun k_ => (some k_ ≠ (.slice (some adz_v372) y371.length co47 : Value).ownBlock ∧ (k_ ≠ gb362 ∧ k_ ≠ gb370))) (n := y376.length) (c := co48) ?_).2.2; exact (by (with_reducible repeat (first | apply Kd.N_alloc | apply Kd.N_drewN | apply Kd.N_drew)); exact (Kd.N_mono (Kd.N_far (p := ⟨gb370, 2, none⟩) (Kd.N_far (p := ⟨gb370, 1, none⟩) (Kd.N_far (p := ⟨gb370, 0, none⟩) (Kd.N_mono HO378.out (fun k_ hk => (⟨hk, hk.2.2⟩ : _ ∧ k_ ≠ gb370))) (fun _ hk => hk.2) (.int .i64 7)) (fun _ hk => hk.2) (.int .i64 (rd y371 t374))) (fun _ hk => hk.2) (.slice Ao48 y376.length co48)) (fun _ h_ => h_.1)))); (case side2 => exact (Kd.N_reads' HO378.out).2.1); rintro e w53 ⟨v380, rfl, ho0, hb⟩; refine ⟨_, rfl, ?_⟩; have n0_ := Aside0.mk (Kd.R_below (by (with_reducible repeat (first | apply Kd.R_alloc | apply Kd.R_drewN | apply Kd.R_drew)); exact (Kd.R_mono (Kd.R_far (p := ⟨gb370, 2, none⟩) (Kd.R_far (p := ⟨gb370, 1, none⟩) (Kd.R_far (p := ⟨gb370, 0, none⟩) (Kd.R_types HO373.out BK370.out (by decide)) (fun _ hk => hk.2) (.int .i64 7)) (fun _ hk => hk.2) (.int .i64 (rd y371 t374))) (fun _ hk => hk.2) (.slice Ao48 y376.length co48)) (fun _ h_ => h_.1))) hb); have n1_ := Aside0.mk (Kd.N_elder' (by (with_reducible repeat (first | apply Kd.N_alloc | apply Kd.N_drewN | apply Kd.N_drew)); exact (Kd.N_mono (Kd.N_far (p := ⟨gb370, 2, none⟩) (Kd.N_far (p := ⟨gb370, 1, none⟩) (Kd.N_far (p := ⟨gb370, 0, none⟩) (Kd.N_mono HO378.out (fun k_ hk => (⟨hk, hk.2.2⟩ : _ ∧ k_ ≠ gb370))) (fun _ hk => hk.2) (.int .i64 7)) (fun _ hk => hk.2) (.int .i64 (rd y371 t374))) (fun _ hk => hk.2) (.slice Ao48 y376.length co48)) (fun _ h_ => h_.1))) (Kd.R_base ho0) hb); have n2_ := Aside0.mk (Kd.R_lower ho0 (below_size (by repeat (first | (with_reducible first | exact HB.out | apply below_alloc | apply pw_below_drewN | apply below_drew1 | refine below_set ?_ GE362.out | refine below_set ?_ GE370.out) | exact HB.out)))); have n3_ := Aside0.mk (blk_below (g := gb362) (o := .cells #[.int .i64 a0_0, .int .i64 a0_1, .slice A0_2 l0_2.length c0_2] 24 (0, 0)) (by (with_reducible repeat (first | refine blk_drewN ?_ _ | refine blk_drew ?_ | refine blk_alloc ?_ _)); refine blk_far ?_ NB362_370.out _; (with_reducible repeat (first | refine blk_drewN ?_ _ | refine blk_drew ?_ | refine blk_alloc ?_ _)); refine blk_far ?_ NB362_370.out _; (with_reducible repeat (first | refine blk_drewN ?_ _ | refine blk_drew ?_ | refine blk_alloc ?_ _)); refine blk_far ?_ NB362_370.out _; (with_reducible repeat (first | refine blk_drewN ?_ _ | refine blk_drew ?_ | refine blk_alloc ?_ _)); exact BK362.out) hb); have n4_ := Aside0.mk (blk_below (g := gb370) (o := .cells #[.int .i64 7, .int .i64 (rd y371 t374), .slice Ao48 y376.length co48] 29 (0, 0)) (by (with_reducible repeat (first | refine blk_drewN ?_ _ | refine blk_drew ?_ | refine blk_alloc ?_ _)); refine blk_put (cs := #[.int .i64 7, .int .i64 (rd y371 t374), .slice Ao37 t367.length co37]) ?_ 2 _ rfl; (with_reducible repeat (first | refine blk_drewN ?_ _ | refine blk_drew ?_ | refine blk_alloc ?_ _)); refine blk_put (cs := #[.int .i64 7, .int .i64 t366, .slice Ao37 t367.length co37]) ?_ 1 _ rfl; (with_reducible repeat (first | refine blk_drewN ?_ _ | refine blk_drew ?_ | refine blk_alloc ?_ _)); refine blk_put (cs := #[.int .i64 t365, .int .i64 t366, .slice Ao37 t367.length co37]) ?_ 0 _ rfl; (with_reducible repeat (first | refine blk_drewN ?_ _ | refine blk_drew ?_ | refine blk_alloc ?_ _)); exact BK370.out) hb); have n5_ := Aside0.mk (below_step (by repeat (first | (with_reducible first | exact HB.out | apply below_alloc | apply pw_below_drewN | apply below_drew1 | refine below_set ?_ GE362.out | refine below_set ?_ GE370.out) | exact HB.out)) hb); clear HO373; clear HO378; clear BK362; clear BK370; clear HB; have HO373 := n0_; have HO378 := n1_; have HO381 := n2_; have BK362 := n3_; have BK370 := n4_; have HB := n5_; clear n0_ n1_ n2_ n3_ n4_ n5_; (try clear hb); (try clear hb2); (try clear hk); (try clear hi); (try clear ho0); obtain ⟨Ao54, co54, eo54⟩ := Kd.R_slice HO381.out; subst eo54) | ((with_reducible refine gate_callee (f := 16) rfl ?_); refine goesL_ (some 35) rfl rfl Try.func16 (by kernel_rfl) rfl #[.slice Ao54 t379.length co54] rfl (by (try simp only [List.map_toArray, List.map_cons, List.map_nil]); first | done | rfl | (simp only [List.length_drop, List.length_take]; rfl)) ?_; (with_reducible refine (code_Parse.calls _ _ t379 t382 t383 t384 t387 _ ?side1 ?side2 A13.out).mono ?_); (case side1 => repeat (first | exact (Kd.R_reads' HO381.out).2.2 | (with_reducible refine Kd.C_alloc ?_ _) | (with_reducible refine Kd.C_drewN ?_ _) | (with_reducible refine Kd.C_drew ?_))); (case side2 => exact (Kd.R_reads' HO381.out).2.1); rintro e w55 ⟨v385, rfl, ho0, hb⟩; refine ⟨_, rfl, ?_⟩; have n0_ := Aside0.mk (Kd.R_below (by (with_reducible repeat (first | apply Kd.R_alloc | apply Kd.R_drewN | apply Kd.R_drew)); exact HO373.out) hb); have n1_ := Aside0.mk (Kd.N_elder' (by (with_reducible repeat (first | apply Kd.N_alloc | apply Kd.N_drewN | apply Kd.N_drew)); exact HO378.out) (by first | exact Kd.N_base ho0 | exact Kd.R_base ho0) hb); have n2_ := Aside0.mk (Kd.R_below (by (with_reducible repeat (first | apply Kd.R_alloc | apply Kd.R_drewN | apply Kd.R_drew)); exact HO381.out) hb); have n3_ := Aside0.mk (Kd.N_lower (Kd.N_mono (ok' := fun k_ => some k_ ≠ (.slice (some adz_v372) y371.length co47 : Value).ownBlock ∧ some k_ ≠ (.slice Ao48 y376.length co48 : Value).ownBlock ∧ some k_ ≠ (.slice Ao54 t379.length co54 : Value).ownBlock ∧ k_ ≠ gb362 ∧ k_ ≠ gb370) (Kd.R_N (Kd.R_bound ho0)) (fun k_ hk_ => ⟨(Kd.fresh' (Kd.R_lt (by (with_reducible repeat (first | apply Kd.R_alloc | apply Kd.R_drewN | apply Kd.R_drew)); exact HO373.out)) k_ hk_.2.1), (Kd.fresh' (Kd.N_lt (by (with_reducible repeat (first | apply Kd.N_alloc | apply Kd.N_drewN | apply Kd.N_drew)); exact HO378.out)) k_ hk_.2.1), (Kd.fresh' (Kd.R_lt (by (with_reducible repeat (first | apply Kd.R_alloc | apply Kd.R_drewN | apply Kd.R_drew)); exact HO381.out)) k_ hk_.2.1), (Kd.freshB (g := gb362) (o := .cells #[.int .i64 a0_0, .int .i64 a0_1, .slice A0_2 l0_2.length c0_2] 24 (0, 0)) (by (with_reducible repeat (first | refine blk_drewN ?_ _ | refine blk_drew ?_ | refine blk_alloc ?_ _)); exact BK362.out) k_ hk_.2.1), (Kd.freshB (g := gb370) (o := .cells #[.int .i64 7, .int .i64 (rd y371 t374), .slice Ao48 y376.length co48] 29 (0, 0)) (by (with_reducible repeat (first | refine blk_drewN ?_ _ | refine blk_drew ?_ | refine blk_alloc ?_ _)); exact BK370.out) k_ hk_.2.1)⟩)) (below_size (by repeat (first | (with_reducible first | exact HB.out | apply below_alloc | apply pw_below_drewN | apply below_drew1 | refine below_set ?_ GE362.out | refine below_set ?_ GE370.out) | exact HB.out)))); have n4_ := Aside0.mk (blk_below (g := gb362) (o := .cells #[.int .i64 a0_0, .int .i64 a0_1, .slice A0_2 l0_2.length c0_2] 24 (0, 0)) (by (with_reducible repeat (first | refine blk_drewN ?_ _ | refine blk_drew ?_ | refine blk_alloc ?_ _)); exact BK362.out) hb); have n5_ := Aside0.mk (blk_below (g := gb370) (o := .cells #[.int .i64 7, .int .i64 (rd y371 t374), .slice Ao48 y376.length co48] 29 (0, 0)) (by (with_reducible repeat (first | refine blk_drewN ?_ _ | refine blk_drew ?_ | refine blk_alloc ?_ _)); exact BK370.out) hb); have n6_ := Aside0.mk (below_step (by repeat (first | (with_reducible first | exact HB.out | apply below_alloc | apply pw_below_drewN | apply below_drew1 | refine below_set ?_ GE362.out | refine below_set ?_ GE370.out) | exact HB.out)) hb); clear HO373; clear HO378; clear HO381; clear BK362; clear BK370; clear HB; have HO373 := n0_; have HO378 := n1_; have HO381 := n2_; have HO386 := n3_; have BK362 := n4_; have BK370 := n5_; have HB := n6_; clear n0_ n1_ n2_ n3_ n4_ n5_ n6_; (try clear hb); (try clear hb2); (try clear hk); (try clear hi); (try clear ho0)) | ((with_reducible refine gate_dst (N := 9) rfl ?_); refine box_event ?hg (N := 9) ?hd (cs := #[.int .i64 0, .int .i64 0, .slice none 0 0]) (t := 29) ?hr ?_; (case hd => rfl); (case hg => rfl); (case hr => first | (go_simp; done) | (go_simp; rfl)); intro gb388 hg w56 hbox hb; have n0_ := Aside0.mk (Kd.R_below (by (with_reducible repeat (first | apply Kd.R_alloc | apply Kd.R_drewN | apply Kd.R_drew)); exact HO373.out) hb); have n1_ := Aside0.mk (Kd.N_below (Kd.N_elderB (by (with_reducible repeat (first | apply Kd.N_alloc | apply Kd.N_drewN | apply Kd.N_drew)); exact HO378.out) gb388 (Nat.le_of_eq hg.symm)) hb); have n2_ := Aside0.mk (Kd.R_below (by (with_reducible repeat (first | apply Kd.R_alloc | apply Kd.R_drewN | apply Kd.R_drew)); exact HO381.out) hb); have n3_ := Aside0.mk (Kd.N_below (Kd.N_elderB (by (with_reducible repeat (first | apply Kd.N_alloc | apply Kd.N_drewN | apply Kd.N_drew)); exact HO386.out) gb388 (Nat.le_of_eq hg.symm)) hb); have n4_ := Aside0.mk (blk_below (g := gb362) (o := .cells #[.int .i64 a0_0, .int .i64 a0_1, .slice A0_2 l0_2.length c0_2] 24 (0, 0)) (by (with_reducible repeat (first | refine blk_drewN ?_ _ | refine blk_drew ?_ | refine blk_alloc ?_ _)); exact BK362.out) hb); have n5_ := Aside0.mk (blk_below (g := gb370) (o := .cells #[.int .i64 7, .int .i64 (rd y371 t374), .slice Ao48 y376.length co48] 29 (0, 0)) (by (with_reducible repeat (first | refine blk_drewN ?_ _ | refine blk_drew ?_ | refine blk_alloc ?_ _)); exact BK370.out) hb); have n6_ := Aside0.mk (below_step (by repeat (first | (with_reducible first | exact HB.out | apply below_alloc | apply pw_below_drewN | apply below_drew1 | refine below_set ?_ GE362.out | refine below_set ?_ GE370.out) | exact HB.out)) hb); have n7_ := Aside0.mk (hbox); have n8_ := Aside0.mk ((by rw [hg]; exact (below_size (by repeat (first | (with_reducible first | exact HB.out | apply below_alloc | apply pw_below_drewN | apply below_drew1 | refine below_set ?_ GE362.out | refine below_set ?_ GE370.out) | exact HB.out))) : w.heap.size ≤ gb388)); have n9_ := Aside0.mk ((by rw [hg]; exact (below_size (by repeat (first | (with_reducible first | exact HB.out | apply below_alloc | apply pw_below_drewN | apply below_drew1 | refine below_set ?_ GE362.out | refine below_set ?_ GE370.out) | exact HB.out))) : w.heap.size ≤ gb388)); have n10_ := Aside0.mk ((by rw [hg]; exact Nat.ne_of_lt (blk_lt (g := gb362) (o := .cells #[.int .i64 a0_0, .int .i64 a0_1, .slice A0_2 l0_2.length c0_2] 24 (0, 0)) (by (with_reducible repeat (first | refine blk_drewN ?_ _ | refine blk_drew ?_ | refine blk_alloc ?_ _)); exact BK362.out)) : gb362 ≠ gb388)); have n11_ := Aside0.mk ((by rw [hg]; exact Nat.ne_of_gt (blk_lt (g := gb362) (o := .cells #[.int .i64 a0_0, .int .i64 a0_1, .slice A0_2 l0_2.length c0_2] 24 (0, 0)) (by (with_reducible repeat (first | refine blk_drewN ?_ _ | refine blk_drew ?_ | refine blk_alloc ?_ _)); exact BK362.out)) : gb388 ≠ gb362)); have n12_ := Aside0.mk ((by rw [hg]; exact Nat.ne_of_lt (blk_lt (g := gb370) (o := .cells #[.int .i64 7, .int .i64 (rd y371 t374), .slice Ao48 y376.length co48] 29 (0, 0)) (by (with_reducible repeat (first | refine blk_drewN ?_ _ | refine blk_drew ?_ | refine blk_alloc ?_ _)); exact BK370.out)) : gb370 ≠ gb388)); have n13_ := Aside0.mk ((by rw [hg]; exact Nat.ne_of_gt (blk_lt (g := gb370) (o := .cells #[.int .i64 7, .int .i64 (rd y371 t374), .slice Ao48 y376.length co48] 29 (0, 0)) (by (with_reducible repeat (first | refine blk_drewN ?_ _ | refine blk_drew ?_ | refine blk_alloc ?_ _)); exact BK370.out)) : gb388 ≠ gb370)); clear HO373; clear HO378; clear HO381; clear HO386; clear BK362; clear BK370; clear HB; have HO373 := n0_; have HO378 := n1_; have HO381 := n2_; have HO386 := n3_; have BK362 := n4_; have BK370 := n5_; have HB := n6_; have BK388 := n7_; have GW388 := n8_; have GE388 := n9_; have NB362_388 := n10_; have NB388_362 := n11_; have NB370_388 := n12_; have NB388_370 := n13_; clear n0_ n1_ n2_ n3_ n4_ n5_ n6_ n7_ n8_ n9_ n10_ n11_ n12_ n13_; clear hb hbox hg; have hnb57 := NB388_362.out; have hnc57 := NB362_388.out; have hnb58 := NB388_370.out; have hnc58 := NB370_388.out; have hcz59_0 : w56.cell? ⟨gb388, 0, none⟩ = some (.int .i64 0) := (blk_cell BK388.out 0).trans rfl; have hcz59_1 : w56.cell? ⟨gb388, 1, none⟩ = some (.int .i64 0) := (blk_cell BK388.out 1).trans rfl; have hcz59_2 : w56.cell? ⟨gb388, 2, none⟩ = some (.slice none 0 0) := (blk_cell BK388.out 2).trans rfl; have hfz59_0 := blk_frozen BK388.out 0; have hfz59_1 := blk_frozen BK388.out 1; have hfz59_2 := blk_frozen BK388.out 2; obtain ⟨Ao60, co60, eo60⟩ := Kd.N_slice HO386.out; subst eo60) | ((with_reducible refine gate_dst (N := 39) rfl ?_); refine Kd.R_lit (Kd.int .u8) _ 5 ?hg (N := 39) ?hd (xs := ([] : List Int)) (inner := []) (ok := fun _ => True) (okp := fun _ => True) ?hr ?hp (fun _ hk => hk) trivial (Below.refl _ _) (Nat.le_refl _) (by simp) ?_; (case hd => rfl); (case hg => rfl); (case hr => first | (go_simp; done) | (go_simp; rfl)); (case hp => exact (Reps.none _ _)); intro v390 w61 ho62 hb hg_ hnew_; clear hg_ hnew_; (first | rw [← Ny389.out] at ho62 | (simp only [Int.reduceToNat] at ho62; rw [← Ny389.out] at ho62)); have n0_ := Aside0.mk (Kd.R_below (by (with_reducible repeat (first | apply Kd.R_alloc | apply Kd.R_drewN | apply Kd.R_drew)); exact (Kd.R_mono (Kd.R_far (p := ⟨gb388, 2, none⟩) (Kd.R_far (p := ⟨gb388, 1, none⟩) (Kd.R_far (p := ⟨gb388, 0, none⟩) (Kd.R_types HO373.out BK388.out (by decide)) (fun _ hk => hk.2) (.int .i64 t382)) (fun _ hk => hk.2) (.int .i64 t383)) (fun _ hk => hk.2) (.slice Ao60 t384.length co60)) (fun _ h_ => h_.1))) hb); have n1_ := Aside0.mk (Kd.N_elder' (by (with_reducible repeat (first | apply Kd.N_alloc | apply Kd.N_drewN | apply Kd.N_drew)); exact (Kd.N_mono (Kd.N_far (p := ⟨gb388, 2, none⟩) (Kd.N_far (p := ⟨gb388, 1, none⟩) (Kd.N_far (p := ⟨gb388, 0, none⟩) (Kd.N_mono HO378.out (fun k_ hk => (⟨hk, hk.2⟩ : _ ∧ k_ ≠ gb388))) (fun _ hk => hk.2) (.int .i64 t382)) (fun _ hk => hk.2) (.int .i64 t383)) (fun _ hk => hk.2) (.slice Ao60 t384.length co60)) (fun _ h_ => h_.1))) (Kd.R_base ho62) hb); have n2_ := Aside0.mk (Kd.R_elder' (by (with_reducible repeat (first | apply Kd.R_alloc | apply Kd.R_drewN | apply Kd.R_drew)); exact (Kd.R_mono (Kd.R_far (p := ⟨gb388, 2, none⟩) (Kd.R_far (p := ⟨gb388, 1, none⟩) (Kd.R_far (p := ⟨gb388, 0, none⟩) (Kd.R_types HO381.out BK388.out (by decide)) (fun _ hk => hk.2) (.int .i64 t382)) (fun _ hk => hk.2) (.int .i64 t383)) (fun _ hk => hk.2) (.slice Ao60 t384.length co60)) (fun _ h_ => h_.1))) (Kd.R_base ho62) hb); have n3_ := Aside0.mk (Kd.N_elder' (by (with_reducible repeat (first | apply Kd.N_alloc | apply Kd.N_drewN | apply Kd.N_drew)); exact (Kd.N_mono (Kd.N_far (p := ⟨gb388, 2, none⟩) (Kd.N_far (p := ⟨gb388, 1, none⟩) (Kd.N_far (p := ⟨gb388, 0, none⟩) (Kd.N_mono HO386.out (fun k_ hk => (⟨hk, hk.2⟩ : _ ∧ k_ ≠ gb388))) (fun _ hk => hk.2) (.int .i64 t382)) (fun _ hk => hk.2) (.int .i64 t383)) (fun _ hk => hk.2) (.slice Ao60 t384.length co60)) (fun _ h_ => h_.1))) (Kd.R_base ho62) hb); have n4_ := Aside0.mk (Kd.R_lower (Kd.R_new' ho62 (Kd.R_lt (by (with_reducible repeat (first | apply Kd.R_alloc | apply Kd.R_drewN | apply Kd.R_drew)); exact (Kd.R_mono (Kd.R_far (p := ⟨gb388, 2, none⟩) (Kd.R_far (p := ⟨gb388, 1, none⟩) (Kd.R_far (p := ⟨gb388, 0, none⟩) (Kd.R_types HO381.out BK388.out (by decide)) (fun _ hk => hk.2) (.int .i64 t382)) (fun _ hk => hk.2) (.int .i64 t383)) (fun _ hk => hk.2) (.slice Ao60 t384.length co60)) (fun _ h_ => h_.1))))) (below_size (by repeat (first | (with_reducible first | exact HB.out | apply below_alloc | apply pw_below_drewN | apply below_drew1 | refine below_set ?_ GE362.out | refine below_set ?_ GE370.out | refine below_set ?_ GE388.out) | exact HB.out)))); have n5_ := Aside0.mk (blk_below (g := gb362) (o := .cells #[.int .i64 a0_0, .int .i64 a0_1, .slice A0_2 l0_2.length c0_2] 24 (0, 0)) (by (with_reducible repeat (first | refine blk_drewN ?_ _ | refine blk_drew ?_ | refine blk_alloc ?_ _)); refine blk_far ?_ NB362_388.out _; (with_reducible repeat (first | refine blk_drewN ?_ _ | refine blk_drew ?_ | refine blk_alloc ?_ _)); refine blk_far ?_ NB362_388.out _; (with_reducible repeat (first | refine blk_drewN ?_ _ | refine blk_drew ?_ | refine blk_alloc ?_ _)); refine blk_far ?_ NB362_388.out _; (with_reducible repeat (first | refine blk_drewN ?_ _ | refine blk_drew ?_ | refine blk_alloc ?_ _)); exact BK362.out) hb); have n6_ := Aside0.mk (blk_below (g := gb370) (o := .cells #[.int .i64 7, .int .i64 (rd y371 t374), .slice Ao48 y376.length co48] 29 (0, 0)) (by (with_reducible repeat (first | refine blk_drewN ?_ _ | refine blk_drew ?_ | refine blk_alloc ?_ _)); refine blk_far ?_ NB370_388.out _; (with_reducible repeat (first | refine blk_drewN ?_ _ | refine blk_drew ?_ | refine blk_alloc ?_ _)); refine blk_far ?_ NB370_388.out _; (with_reducible repeat (first | refine blk_drewN ?_ _ | refine blk_drew ?_ | refine blk_alloc ?_ _)); refine blk_far ?_ NB370_388.out _; (with_reducible repeat (first | refine blk_drewN ?_ _ | refine blk_drew ?_ | refine blk_alloc ?_ _)); exact BK370.out) hb); have n7_ := Aside0.mk (blk_below (g := gb388) (o := .cells #[.int .i64 t382, .int .i64 t383, .slice Ao60 t384.length co60] 29 (0, 0)) (by (with_reducible repeat (first | refine blk_drewN ?_ _ | refine blk_drew ?_ | refine blk_alloc ?_ _)); refine blk_put (cs := #[.int .i64 t382, .int .i64 t383, .slice none 0 0]) ?_ 2 _ rfl; (with_reducible repeat (first | refine blk_drewN ?_ _ | refine blk_drew ?_ | refine blk_alloc ?_ _)); refine blk_put (cs := #[.int .i64 t382, .int .i64 0, .slice none 0 0]) ?_ 1 _ rfl; (with_reducible repeat (first | refine blk_drewN ?_ _ | refine blk_drew ?_ | refine blk_alloc ?_ _)); refine blk_put (cs := #[.int .i64 0, .int .i64 0, .slice none 0 0]) ?_ 0 _ rfl; (with_reducible repeat (first | refine blk_drewN ?_ _ | refine blk_drew ?_ | refine blk_alloc ?_ _)); exact BK388.out) hb); have n8_ := Aside0.mk (below_step (by repeat (first | (with_reducible first | exact HB.out | apply below_alloc | apply pw_below_drewN | apply below_drew1 | refine below_set ?_ GE362.out | refine below_set ?_ GE370.out | refine below_set ?_ GE388.out) | exact HB.out)) hb); clear HO373; clear HO378; clear HO381; clear HO386; clear BK362; clear BK370; clear BK388; clear HB; have HO373 := n0_; have HO378 := n1_; have HO381 := n2_; have HO386 := n3_; have HO391 := n4_; have BK362 := n5_; have BK370 := n6_; have BK388 := n7_; have HB := n8_; clear n0_ n1_ n2_ n3_ n4_ n5_ n6_ n7_ n8_; clear hb ho62) | ((with_reducible refine gate_builtin (b := .append) (xs := #[.tmp 39, .tmp 40]) rfl ?_); at_builtin; refine Kd.R_append_rows (Kd.int .u8) (w0 := w) w.heap.size rfl (.tmp 39) (.tmp 40) 31 5 (.int .u8 0) 1 rfl Try.underlying31 info5 rfl (by decide) (by omega) v390 y389 t379 _ _ _ (fun k_ => some k_ ≠ (.slice Ao54 t379.length co54 : Value).ownBlock) (fun _ => False) rfl rfl ?aO ?aR (fun _ _ h => h) (fun _ h => h.elim) ?aF ?aB ?aS ?aL ?_; (case aR => repeat (first | exact (Kd.R_reads' HO381.out).2.2 | (with_reducible refine Kd.C_alloc ?_ _) | (with_reducible refine Kd.C_drewN ?_ _) | (with_reducible refine Kd.C_drew ?_))); (case aB => exact (by repeat (first | (with_reducible first | exact HB.out | apply below_alloc | apply pw_below_drewN | apply below_drew1 | refine below_set ?_ GE362.out | refine below_set ?_ GE370.out | refine below_set ?_ GE388.out) | exact HB.out))); (case aF => exact (fun k_ hk => Kd.fresh' (Kd.R_lt (by (with_reducible repeat (first | apply Kd.R_alloc | apply Kd.R_drewN | apply Kd.R_drew)); exact HO381.out)) k_ hk)); (case aO => exact (by (with_reducible repeat (first | apply Kd.R_alloc | apply Kd.R_drewN | apply Kd.R_drew)); exact Kd.R_mono HO391.out (fun _ hk => hk.2))); (case aS => exact (below_size (by repeat (first | (with_reducible first | exact HB.out | apply below_alloc | apply pw_below_drewN | apply below_drew1 | refine below_set ?_ GE362.out | refine below_set ?_ GE370.out | refine below_set ?_ GE388.out) | exact HB.out)))); (case aL => have := LMc14.out; omega); intro v393 w63 ho hb hg hat; rw [← Ny392.out] at ho; have n0_ := Aside0.mk (blk_grown (g := gb362) (o := .cells #[.int .i64 a0_0, .int .i64 a0_1, .slice A0_2 l0_2.length c0_2] 24 (0, 0)) (by (with_reducible repeat (first | refine blk_drewN ?_ _ | refine blk_drew ?_ | refine blk_alloc ?_ _)); exact BK362.out) hg (Kd.R_ne HO391.out BK362.out (by decide))); have n1_ := Aside0.mk (blk_grown (g := gb370) (o := .cells #[.int .i64 7, .int .i64 (rd y371 t374), .slice Ao48 y376.length co48] 29 (0, 0)) (by (with_reducible repeat (first | refine blk_drewN ?_ _ | refine blk_drew ?_ | refine blk_alloc ?_ _)); exact BK370.out) hg (Kd.R_ne HO391.out BK370.out (by decide))); have n2_ := Aside0.mk (Kd.R_over' (by (with_reducible repeat (first | apply Kd.R_alloc | apply Kd.R_drewN | apply Kd.R_drew)); exact HO373.out) (Kd.R_typed (by (with_reducible repeat (first | apply Kd.R_alloc | apply Kd.R_drewN | apply Kd.R_drew)); exact HO391.out)) (by decide) hg); have n3_ := Aside0.mk (Kd.N_afterv (ok := (fun k_ => some k_ ≠ (.slice (some adz_v372) y371.length co47 : Value).ownBlock ∧ some k_ ≠ (.slice Ao54 t379.length co54 : Value).ownBlock ∧ some k_ ≠ (.slice Ao60 t384.length co60 : Value).ownBlock ∧ k_ ≠ gb362 ∧ k_ ≠ gb370 ∧ k_ ≠ gb388)) (by (with_reducible repeat (first | apply Kd.N_alloc | apply Kd.N_drewN | apply Kd.N_drew)); exact Kd.N_mono HO378.out (fun _ hk => ⟨⟨hk.1.1.1.1.1, ⟨hk.1.1.1.2, ⟨hk.1.1.2, ⟨hk.1.1.1.1.2.1, ⟨hk.1.1.1.1.2.2, hk.1.2⟩⟩⟩⟩⟩, hk.2⟩)) hg hat); have n4_ := Aside0.mk (Kd.R_after (ok := (fun _ => True)) (by (with_reducible repeat (first | apply Kd.R_alloc | apply Kd.R_drewN | apply Kd.R_drew)); exact HO381.out) hg hat); have n5_ := Aside0.mk (Kd.N_afterv (ok := (fun k_ => some k_ ≠ (.slice (some adz_v372) y371.length co47 : Value).ownBlock ∧ some k_ ≠ (.slice Ao48 y376.length co48 : Value).ownBlock ∧ some k_ ≠ (.slice Ao54 t379.length co54 : Value).ownBlock ∧ k_ ≠ gb362 ∧ k_ ≠ gb370 ∧ k_ ≠ gb388)) (by (with_reducible repeat (first | apply Kd.N_alloc | apply Kd.N_drewN | apply Kd.N_drew)); exact Kd.N_mono HO386.out (fun _ hk => ⟨⟨hk.1.1.1, ⟨hk.1.1.2.1, ⟨hk.1.1.2.2.1, ⟨hk.1.1.2.2.2.1, ⟨hk.1.1.2.2.2.2, hk.1.2⟩⟩⟩⟩⟩, hk.2⟩)) hg hat); have n6_ := Aside0.mk (blk_grown (g := gb388) (o := .cells #[.int .i64 t382, .int .i64 t383, .slice Ao60 t384.length co60] 29 (0, 0)) (by (with_reducible repeat (first | refine blk_drewN ?_ _ | refine blk_drew ?_ | refine blk_alloc ?_ _)); exact BK388.out) hg (Kd.R_ne HO391.out BK388.out (by decide))); have n7_ := Aside0.mk (hb); have n8_ := Aside0.mk (ho); clear BK362; clear BK370; clear HO373; clear HO378; clear HO381; clear HO386; clear BK388; clear HB; clear HO391; have BK362 := n0_; have BK370 := n1_; have HO373 := n2_; have HO378 := n3_; have HO381 := n4_; have HO386 := n5_; have BK388 := n6_; have HB := n7_; have HO394 := n8_; clear n0_ n1_ n2_ n3_ n4_ n5_ n6_ n7_ n8_; clear ho hb hg hat) | ((with_reducible refine gate_builtin (b := .append) (xs := #[.tmp 41, .tmp 43]) rfl ?_); at_builtin; refine Kd.R_append (Kd.int .u8) (w0 := w) w.heap.size rfl (.tmp 41) (.tmp 43) 31 5 (.int .u8 0) 1 rfl Try.underlying31 info5 rfl (by decide) (by omega) v393 y392 a2 [.int .u8 a2] (fun k_ => some k_ ≠ (.slice Ao54 t379.length co54 : Value).ownBlock) (fun _ => False) rfl rfl ?aP (fun _ hk => hk.elim) ?aF ?aO ?aB ?aS ?aL ?_; (case aP => exact rfl); (case aB => exact (by repeat (first | (with_reducible first | exact HB.out | apply below_alloc | apply pw_below_drewN | apply below_drew1 | refine below_set ?_ GE362.out | refine below_set ?_ GE370.out | refine below_set ?_ GE388.out) | exact HB.out))); (case aF => exact (fun k_ hk => Kd.fresh' (Kd.R_lt (by (with_reducible repeat (first | apply Kd.R_alloc | apply Kd.R_drewN | apply Kd.R_drew)); exact HO381.out)) k_ hk)); (case aO => exact (by (with_reducible repeat (first | apply Kd.R_alloc | apply Kd.R_drewN | apply Kd.R_drew)); exact HO394.out)); (case aS => exact (below_size (by repeat (first | (with_reducible first | exact HB.out | apply below_alloc | apply pw_below_drewN | apply below_drew1 | refine below_set ?_ GE362.out | refine below_set ?_ GE370.out | refine below_set ?_ GE388.out) | exact HB.out)))); (case aL => have := LMc15.out; omega); intro v396 w64 ho hb hg hat; rw [← Ny395.out] at ho; have n0_ := Aside0.mk (blk_grown (g := gb362) (o := .cells #[.int .i64 a0_0, .int .i64 a0_1, .slice A0_2 l0_2.length c0_2] 24 (0, 0)) (by (with_reducible repeat (first | refine blk_drewN ?_ _ | refine blk_drew ?_ | refine blk_alloc ?_ _)); exact BK362.out) hg (Kd.R_ne HO394.out BK362.out (by decide))); have n1_ := Aside0.mk (blk_grown (g := gb370) (o := .cells #[.int .i64 7, .int .i64 (rd y371 t374), .slice Ao48 y376.length co48] 29 (0, 0)) (by (with_reducible repeat (first | refine blk_drewN ?_ _ | refine blk_drew ?_ | refine blk_alloc ?_ _)); exact BK370.out) hg (Kd.R_ne HO394.out BK370.out (by decide))); have n2_ := Aside0.mk (Kd.R_over' (by (with_reducible repeat (first | apply Kd.R_alloc | apply Kd.R_drewN | apply Kd.R_drew)); exact HO373.out) (Kd.R_typed (by (with_reducible repeat (first | apply Kd.R_alloc | apply Kd.R_drewN | apply Kd.R_drew)); exact HO394.out)) (by decide) hg); have n3_ := Aside0.mk (Kd.N_afterv (ok := (fun k_ => some k_ ≠ (.slice (some adz_v372) y371.length co47 : Value).ownBlock ∧ some k_ ≠ (.slice Ao54 t379.length co54 : Value).ownBlock ∧ some k_ ≠ (.slice Ao60 t384.length co60 : Value).ownBlock ∧ k_ ≠ gb362 ∧ k_ ≠ gb370 ∧ k_ ≠ gb388)) (by (with_reducible repeat (first | apply Kd.N_alloc | apply Kd.N_drewN | apply Kd.N_drew)); exact HO378.out) hg hat); have n4_ := Aside0.mk (Kd.R_after (ok := (fun _ => True)) (by (with_reducible repeat (first | apply Kd.R_alloc | apply Kd.R_drewN | apply Kd.R_drew)); exact HO381.out) hg hat); have n5_ := Aside0.mk (Kd.N_afterv (ok := (fun k_ => some k_ ≠ (.slice (some adz_v372) y371.length co47 : Value).ownBlock ∧ some k_ ≠ (.slice Ao48 y376.length co48 : Value).ownBlock ∧ some k_ ≠ (.slice Ao54 t379.length co54 : Value).ownBlock ∧ k_ ≠ gb362 ∧ k_ ≠ gb370 ∧ k_ ≠ gb388)) (by (with_reducible repeat (first | apply Kd.N_alloc | apply Kd.N_drewN | apply Kd.N_drew)); exact HO386.out) hg hat); have n6_ := Aside0.mk (blk_grown (g := gb388) (o := .cells #[.int .i64 t382, .int .i64 t383, .slice Ao60 t384.length co60] 29 (0, 0)) (by (with_reducible repeat (first | refine blk_drewN ?_ _ | refine blk_drew ?_ | refine blk_alloc ?_ _)); exact BK388.out) hg (Kd.R_ne HO394.out BK388.out (by decide))); have n7_ := Aside0.mk (hb); have n8_ := Aside0.mk (ho); clear BK362; clear BK370; clear HO373; clear HO378; clear HO381; clear HO386; clear BK388; clear HB; clear HO394; have BK362 := n0_; have BK370 := n1_; have HO373 := n2_; have HO378 := n3_; have HO381 := n4_; have HO386 := n5_; have BK388 := n6_; have HB := n7_; have HO397 := n8_; clear n0_ n1_ n2_ n3_ n4_ n5_ n6_ n7_ n8_; clear ho hb hg hat; obtain ⟨Ao65, co65, eo65⟩ := Kd.R_slice HO397.out; subst eo65) | ((with_reducible refine gate_callee (f := 16) rfl ?_); refine goesL_ (some 45) rfl rfl Try.func16 (by kernel_rfl) rfl #[.slice Ao65 y395.length co65] rfl (by (try simp only [List.map_toArray, List.map_cons, List.map_nil]); first | done | rfl | (simp only [List.length_drop, List.length_take]; rfl)) ?_; (with_reducible refine (code_Parse.calls _ _ y395 t398 t399 t400 t403 _ ?side1 ?side2 A16.out).mono ?_); (case side1 => repeat (first | exact (Kd.R_reads' HO397.out).2.2 | (with_reducible refine Kd.C_alloc ?_ _) | (with_reducible refine Kd.C_drewN ?_ _) | (with_reducible refine Kd.C_drew ?_))); (case side2 => exact (Kd.R_reads' HO397.out).2.1); rintro e w66 ⟨v401, rfl, ho0, hb⟩; refine ⟨_, rfl, ?_⟩; have n0_ := Aside0.mk (Kd.R_below (by (with_reducible repeat (first | apply Kd.R_alloc | apply Kd.R_drewN | apply Kd.R_drew)); exact HO373.out) hb); have n1_ := Aside0.mk (Kd.N_elder' (by (with_reducible repeat (first | apply Kd.N_alloc | apply Kd.N_drewN | apply Kd.N_drew)); exact HO378.out) (by first | exact Kd.N_base ho0 | exact Kd.R_base ho0) hb); have n2_ := Aside0.mk (Kd.R_below (by (with_reducible repeat (first | apply Kd.R_alloc | apply Kd.R_drewN | apply Kd.R_drew)); exact HO381.out) hb); have n3_ := Aside0.mk (Kd.N_elder' (by (with_reducible repeat (first | apply Kd.N_alloc | apply Kd.N_drewN | apply Kd.N_drew)); exact HO386.out) (by first | exact Kd.N_base ho0 | exact Kd.R_base ho0) hb); have n4_ := Aside0.mk (Kd.R_below (by (with_reducible repeat (first | apply Kd.R_alloc | apply Kd.R_drewN | apply Kd.R_drew)); exact HO397.out) hb); have n5_ := Aside0.mk (Kd.N_lower (Kd.N_mono (ok' := fun k_ => some k_ ≠ (.slice (some adz_v372) y371.length co47 : Value).ownBlock ∧ some k_ ≠ (.slice Ao48 y376.length co48 : Value).ownBlock ∧ some k_ ≠ (.slice Ao54 t379.length co54 : Value).ownBlock ∧ some k_ ≠ (.slice Ao60 t384.length co60 : Value).ownBlock ∧ some k_ ≠ (.slice Ao65 y395.length co65 : Value).ownBlock ∧ k_ ≠ gb362 ∧ k_ ≠ gb370 ∧ k_ ≠ gb388) (Kd.R_N (Kd.R_bound ho0)) (fun k_ hk_ => ⟨(Kd.fresh' (Kd.R_lt (by (with_reducible repeat (first | apply Kd.R_alloc | apply Kd.R_drewN | apply Kd.R_drew)); exact HO373.out)) k_ hk_.2.1), (Kd.fresh' (Kd.N_lt (by (with_reducible repeat (first | apply Kd.N_alloc | apply Kd.N_drewN | apply Kd.N_drew)); exact HO378.out)) k_ hk_.2.1), (Kd.fresh' (Kd.R_lt (by (with_reducible repeat (first | apply Kd.R_alloc | apply Kd.R_drewN | apply Kd.R_drew)); exact HO381.out)) k_ hk_.2.1), (Kd.fresh' (Kd.N_lt (by (with_reducible repeat (first | apply Kd.N_alloc | apply Kd.N_drewN | apply Kd.N_drew)); exact HO386.out)) k_ hk_.2.1), (Kd.fresh' (Kd.R_lt (by (with_reducible repeat (first | apply Kd.R_alloc | apply Kd.R_drewN | apply Kd.R_drew)); exact HO397.out)) k_ hk_.2.1), (Kd.freshB (g := gb362) (o := .cells #[.int .i64 a0_0, .int .i64 a0_1, .slice A0_2 l0_2.length c0_2] 24 (0, 0)) (by (with_reducible repeat (first | refine blk_drewN ?_ _ | refine blk_drew ?_ | refine blk_alloc ?_ _)); exact BK362.out) k_ hk_.2.1), (Kd.freshB (g := gb370) (o := .cells #[.int .i64 7, .int .i64 (rd y371 t374), .slice Ao48 y376.length co48] 29 (0, 0)) (by (with_reducible repeat (first | refine blk_drewN ?_ _ | refine blk_drew ?_ | refine blk_alloc ?_ _)); exact BK370.out) k_ hk_.2.1), (Kd.freshB (g := gb388) (o := .cells #[.int .i64 t382, .int .i64 t383, .slice Ao60 t384.length co60] 29 (0, 0)) (by (with_reducible repeat (first | refine blk_drewN ?_ _ | refine blk_drew ?_ | refine blk_alloc ?_ _)); exact BK388.out) k_ hk_.2.1)⟩)) (below_size (by repeat (first | (with_reducible first | exact HB.out | apply below_alloc | apply pw_below_drewN | apply below_drew1 | refine below_set ?_ GE362.out | refine below_set ?_ GE370.out | refine below_set ?_ GE388.out) | exact HB.out)))); have n6_ := Aside0.mk (blk_below (g := gb362) (o := .cells #[.int .i64 a0_0, .int .i64 a0_1, .slice A0_2 l0_2.length c0_2] 24 (0, 0)) (by (with_reducible repeat (first | refine blk_drewN ?_ _ | refine blk_drew ?_ | refine blk_alloc ?_ _)); exact BK362.out) hb); have n7_ := Aside0.mk (blk_below (g := gb370) (o := .cells #[.int .i64 7, .int .i64 (rd y371 t374), .slice Ao48 y376.length co48] 29 (0, 0)) (by (with_reducible repeat (first | refine blk_drewN ?_ _ | refine blk_drew ?_ | refine blk_alloc ?_ _)); exact BK370.out) hb); have n8_ := Aside0.mk (blk_below (g := gb388) (o := .cells #[.int .i64 t382, .int .i64 t383, .slice Ao60 t384.length co60] 29 (0, 0)) (by (with_reducible repeat (first | refine blk_drewN ?_ _ | refine blk_drew ?_ | refine blk_alloc ?_ _)); exact BK388.out) hb); have n9_ := Aside0.mk (below_step (by repeat (first | (with_reducible first | exact HB.out | apply below_alloc | apply pw_below_drewN | apply below_drew1 | refine below_set ?_ GE362.out | refine below_set ?_ GE370.out | refine below_set ?_ GE388.out) | exact HB.out)) hb); clear HO373; clear HO378; clear HO381; clear HO386; clear HO397; clear BK362; clear BK370; clear BK388; clear HB; have HO373 := n0_; have HO378 := n1_; have HO381 := n2_; have HO386 := n3_; have HO397 := n4_; have HO402 := n5_; have BK362 := n6_; have BK370 := n7_; have BK388 := n8_; have HB := n9_; clear n0_ n1_ n2_ n3_ n4_ n5_ n6_ n7_ n8_ n9_; (try clear hb); (try clear hb2); (try clear hk); (try clear hi); (try clear ho0)) | ((with_reducible refine gate_dst (N := 11) rfl ?_); refine box_event ?hg (N := 11) ?hd (cs := #[.int .i64 0, .int .i64 0, .slice none 0 0]) (t := 29) ?hr ?_; (case hd => rfl); (case hg => rfl); (case hr => first | (go_simp; done) | (go_simp; rfl)); intro gb404 hg w67 hbox hb; have n0_ := Aside0.mk (Kd.R_below (by (with_reducible repeat (first | apply Kd.R_alloc | apply Kd.R_drewN | apply Kd.R_drew)); exact HO373.out) hb); have n1_ := Aside0.mk (Kd.N_below (Kd.N_elderB (by (with_reducible repeat (first | apply Kd.N_alloc | apply Kd.N_drewN | apply Kd.N_drew)); exact HO378.out) gb404 (Nat.le_of_eq hg.symm)) hb); have n2_ := Aside0.mk (Kd.R_below (by (with_reducible repeat (first | apply Kd.R_alloc | apply Kd.R_drewN | apply Kd.R_drew)); exact HO381.out) hb); have n3_ := Aside0.mk (Kd.N_below (Kd.N_elderB (by (with_reducible repeat (first | apply Kd.N_alloc | apply Kd.N_drewN | apply Kd.N_drew)); exact HO386.out) gb404 (Nat.le_of_eq hg.symm)) hb); have n4_ := Aside0.mk (Kd.R_below (by (with_reducible repeat (first | apply Kd.R_alloc | apply Kd.R_drewN | apply Kd.R_drew)); exact HO397.out) hb); have n5_ := Aside0.mk (Kd.N_below (Kd.N_elderB (by (with_reducible repeat (first | apply Kd.N_alloc | apply Kd.N_drewN | apply Kd.N_drew)); exact HO402.out) gb404 (Nat.le_of_eq hg.symm)) hb); have n6_ := Aside0.mk (blk_below (g := gb362) (o := .cells #[.int .i64 a0_0, .int .i64 a0_1, .slice A0_2 l0_2.length c0_2] 24 (0, 0)) (by (with_reducible repeat (first | refine blk_drewN ?_ _ | refine blk_drew ?_ | refine blk_alloc ?_ _)); exact BK362.out) hb); have n7_ := Aside0.mk (blk_below (g := gb370) (o := .cells #[.int .i64 7, .int .i64 (rd y371 t374), .slice Ao48 y376.length co48] 29 (0, 0)) (by (with_reducible repeat (first | refine blk_drewN ?_ _ | refine blk_drew ?_ | refine blk_alloc ?_ _)); exact BK370.out) hb); have n8_ := Aside0.mk (blk_below (g := gb388) (o := .cells #[.int .i64 t382, .int .i64 t383, .slice Ao60 t384.length co60] 29 (0, 0)) (by (with_reducible repeat (first | refine blk_drewN ?_ _ | refine blk_drew ?_ | refine blk_alloc ?_ _)); exact BK388.out) hb); have n9_ := Aside0.mk (below_step (by repeat (first | (with_reducible first | exact HB.out | apply below_alloc | apply pw_below_drewN | apply below_drew1 | refine below_set ?_ GE362.out | refine below_set ?_ GE370.out | refine below_set ?_ GE388.out) | exact HB.out)) hb); have n10_ := Aside0.mk (hbox); have n11_ := Aside0.mk ((by rw [hg]; exact (below_size (by repeat (first | (with_reducible first | exact HB.out | apply below_alloc | apply pw_below_drewN | apply below_drew1 | refine below_set ?_ GE362.out | refine below_set ?_ GE370.out | refine below_set ?_ GE388.out) | exact HB.out))) : w.heap.size ≤ gb404)); have n12_ := Aside0.mk ((by rw [hg]; exact (below_size (by repeat (first | (with_reducible first | exact HB.out | apply below_alloc | apply pw_below_drewN | apply below_drew1 | refine below_set ?_ GE362.out | refine below_set ?_ GE370.out | refine below_set ?_ GE388.out) | exact HB.out))) : w.heap.size ≤ gb404)); have n13_ := Aside0.mk ((by rw [hg]; exact Nat.ne_of_lt (blk_lt (g := gb362) (o := .cells #[.int .i64 a0_0, .int .i64 a0_1, .slice A0_2 l0_2.length c0_2] 24 (0, 0)) (by (with_reducible repeat (first | refine blk_drewN ?_ _ | refine blk_drew ?_ | refine blk_alloc ?_ _)); exact BK362.out)) : gb362 ≠ gb404)); have n14_ := Aside0.mk ((by rw [hg]; exact Nat.ne_of_gt (blk_lt (g := gb362) (o := .cells #[.int .i64 a0_0, .int .i64 a0_1, .slice A0_2 l0_2.length c0_2] 24 (0, 0)) (by (with_reducible repeat (first | refine blk_drewN ?_ _ | refine blk_drew ?_ | refine blk_alloc ?_ _)); exact BK362.out)) : gb404 ≠ gb362)); have n15_ := Aside0.mk ((by rw [hg]; exact Nat.ne_of_lt (blk_lt (g := gb370) (o := .cells #[.int .i64 7, .int .i64 (rd y371 t374), .slice Ao48 y376.length co48] 29 (0, 0)) (by (with_reducible repeat (first | refine blk_drewN ?_ _ | refine blk_drew ?_ | refine blk_alloc ?_ _)); exact BK370.out)) : gb370 ≠ gb404)); have n16_ := Aside0.mk ((by rw [hg]; exact Nat.ne_of_gt (blk_lt (g := gb370) (o := .cells #[.int .i64 7, .int .i64 (rd y371 t374), .slice Ao48 y376.length co48] 29 (0, 0)) (by (with_reducible repeat (first | refine blk_drewN ?_ _ | refine blk_drew ?_ | refine blk_alloc ?_ _)); exact BK370.out)) : gb404 ≠ gb370)); have n17_ := Aside0.mk ((by rw [hg]; exact Nat.ne_of_lt (blk_lt (g := gb388) (o := .cells #[.int .i64 t382, .int .i64 t383, .slice Ao60 t384.length co60] 29 (0, 0)) (by (with_reducible repeat (first | refine blk_drewN ?_ _ | refine blk_drew ?_ | refine blk_alloc ?_ _)); exact BK388.out)) : gb388 ≠ gb404)); have n18_ := Aside0.mk ((by rw [hg]; exact Nat.ne_of_gt (blk_lt (g := gb388) (o := .cells #[.int .i64 t382, .int .i64 t383, .slice Ao60 t384.length co60] 29 (0, 0)) (by (with_reducible repeat (first | refine blk_drewN ?_ _ | refine blk_drew ?_ | refine blk_alloc ?_ _)); exact BK388.out)) : gb404 ≠ gb388)); clear HO373; clear HO378; clear HO381; clear HO386; clear HO397; clear HO402; clear BK362; clear BK370; clear BK388; clear HB; have HO373 := n0_; have HO378 := n1_; have HO381 := n2_; have HO386 := n3_; have HO397 := n4_; have HO402 := n5_; have BK362 := n6_; have BK370 := n7_; have BK388 := n8_; have HB := n9_; have BK404 := n10_; have GW404 := n11_; have GE404 := n12_; have NB362_404 := n13_; have NB404_362 := n14_; have NB370_404 := n15_; have NB404_370 := n16_; have NB388_404 := n17_; have NB404_388 := n18_; clear n0_ n1_ n2_ n3_ n4_ n5_ n6_ n7_ n8_ n9_ n10_ n11_ n12_ n13_ n14_ n15_ n16_ n17_ n18_; clear hb hbox hg; have hnb68 := NB404_362.out; have hnc68 := NB362_404.out; have hnb69 := NB404_370.out; have hnc69 := NB370_404.out; have hnb70 := NB404_388.out; have hnc70 := NB388_404.out; have hcz71_0 : w67.cell? ⟨gb404, 0, none⟩ = some (.int .i64 0) := (blk_cell BK404.out 0).trans rfl; have hcz71_1 : w67.cell? ⟨gb404, 1, none⟩ = some (.int .i64 0) := (blk_cell BK404.out 1).trans rfl; have hcz71_2 : w67.cell? ⟨gb404, 2, none⟩ = some (.slice none 0 0) := (blk_cell BK404.out 2).trans rfl; have hfz71_0 := blk_frozen BK404.out 0; have hfz71_1 := blk_frozen BK404.out 1; have hfz71_2 := blk_frozen BK404.out 2; obtain ⟨Ao72, co72, eo72⟩ := Kd.N_slice HO402.out; subst eo72) | ((with_reducible refine gate_store (t := 29) (p := 11) rfl ?_); refine store_event (t := 29) (p := 11) (v := ?vo_w73) (w1 := (((w67.setCell ⟨gb404, 0, none⟩ (.int .i64 t398)).setCell ⟨gb404, 1, none⟩ (.int .i64 t399)).setCell ⟨gb404, 2, none⟩ (.slice Ao72 t400.length co72))) ?hg ?ho ?hn ?hr ?_; (case ho => rfl); (case hg => rfl); (case hn => rfl); (case hr => first | (go_simp; done) | (go_simp; rfl)); intro w73 hw; have n0_ : Aside0 (Kd.R (Kd.int .i64) 3 w73 w.heap.size (fun _ => True) (.slice (some adz_v372) y371.length co47) y371) := ⟨(by rw [hw]; exact (by (with_reducible repeat (first | apply Kd.R_alloc | apply Kd.R_drewN | apply Kd.R_drew)); exact Kd.R_mono (Kd.R_far (p := ⟨gb404, 2, none⟩) (Kd.R_far (p := ⟨gb404, 1, none⟩) (Kd.R_far (p := ⟨gb404, 0, none⟩) (Kd.R_types HO373.out BK404.out (by decide)) (fun _ hk => hk.2) (.int .i64 t398)) (fun _ hk => hk.2) (.int .i64 t399)) (fun _ hk => hk.2) (.slice Ao72 t400.length co72)) (fun _ hk => trivial)))⟩; have n1_ : Aside0 (Kd.N k29 29 w73 w.heap.size (fun k_ => some k_ ≠ (.slice (some adz_v372) y371.length co47 : Value).ownBlock ∧ some k_ ≠ (.slice Ao54 t379.length co54 : Value).ownBlock ∧ some k_ ≠ (.slice Ao60 t384.length co60 : Value).ownBlock ∧ some k_ ≠ (.slice Ao65 y395.length co65 : Value).ownBlock ∧ some k_ ≠ (.slice Ao72 t400.length co72 : Value).ownBlock ∧ k_ ≠ gb362 ∧ k_ ≠ gb370 ∧ k_ ≠ gb388 ∧ k_ ≠ gb404) (.slice Ao48 y376.length co48) y376) := ⟨(by rw [hw]; exact (by (with_reducible repeat (first | apply Kd.N_alloc | apply Kd.N_drewN | apply Kd.N_drew)); exact Kd.N_mono (Kd.N_far (p := ⟨gb404, 2, none⟩) (Kd.N_far (p := ⟨gb404, 1, none⟩) (Kd.N_far (p := ⟨gb404, 0, none⟩) (Kd.N_mono HO378.out (fun k_ hk => (⟨hk, hk.2⟩ : _ ∧ k_ ≠ gb404))) (fun _ hk => hk.2) (.int .i64 t398)) (fun _ hk => hk.2) (.int .i64 t399)) (fun _ hk => hk.2) (.slice Ao72 t400.length co72)) (fun _ hk => ⟨hk.1.1.1.1.1, ⟨hk.1.1.1.1.2.1, ⟨hk.1.1.1.1.2.2.1, ⟨hk.1.1.1.2, ⟨hk.1.1.2, ⟨hk.1.1.1.1.2.2.2.1, ⟨hk.1.1.1.1.2.2.2.2.1, ⟨hk.1.1.1.1.2.2.2.2.2, hk.1.2⟩⟩⟩⟩⟩⟩⟩⟩)))⟩; have n2_ : Aside0 (Kd.R (Kd.int .u8) 5 w73 w.heap.size (fun k_ => some k_ ≠ (.slice Ao65 y395.length co65 : Value).ownBlock) (.slice Ao54 t379.length co54) t379) := ⟨(by rw [hw]; exact (by (with_reducible repeat (first | apply Kd.R_alloc | apply Kd.R_drewN | apply Kd.R_drew)); exact Kd.R_mono (Kd.R_far (p := ⟨gb404, 2, none⟩) (Kd.R_far (p := ⟨gb404, 1, none⟩) (Kd.R_far (p := ⟨gb404, 0, none⟩) (Kd.R_types HO381.out BK404.out (by decide)) (fun _ hk => hk.2) (.int .i64 t398)) (fun _ hk => hk.2) (.int .i64 t399)) (fun _ hk => hk.2) (.slice Ao72 t400.length co72)) (fun _ hk => hk.1.2)))⟩; have n3_ : Aside0 (Kd.N k29 29 w73 w.heap.size (fun k_ => some k_ ≠ (.slice (some adz_v372) y371.length co47 : Value).ownBlock ∧ some k_ ≠ (.slice Ao48 y376.length co48 : Value).ownBlock ∧ some k_ ≠ (.slice Ao54 t379.length co54 : Value).ownBlock ∧ some k_ ≠ (.slice Ao65 y395.length co65 : Value).ownBlock ∧ some k_ ≠ (.slice Ao72 t400.length co72 : Value).ownBlock ∧ k_ ≠ gb362 ∧ k_ ≠ gb370 ∧ k_ ≠ gb388 ∧ k_ ≠ gb404) (.slice Ao60 t384.length co60) t384) := ⟨(by rw [hw]; exact (by (with_reducible repeat (first | apply Kd.N_alloc | apply Kd.N_drewN | apply Kd.N_drew)); exact Kd.N_mono (Kd.N_far (p := ⟨gb404, 2, none⟩) (Kd.N_far (p := ⟨gb404, 1, none⟩) (Kd.N_far (p := ⟨gb404, 0, none⟩) (Kd.N_mono HO386.out (fun k_ hk => (⟨hk, hk.2⟩ : _ ∧ k_ ≠ gb404))) (fun _ hk => hk.2) (.int .i64 t398)) (fun _ hk => hk.2) (.int .i64 t399)) (fun _ hk => hk.2) (.slice Ao72 t400.length co72)) (fun _ hk => ⟨hk.1.1.1.1.1, ⟨hk.1.1.1.1.2.1, ⟨hk.1.1.1.1.2.2.1, ⟨hk.1.1.1.2, ⟨hk.1.1.2, ⟨hk.1.1.1.1.2.2.2.1, ⟨hk.1.1.1.1.2.2.2.2.1, ⟨hk.1.1.1.1.2.2.2.2.2, hk.1.2⟩⟩⟩⟩⟩⟩⟩⟩)))⟩; have n4_ : Aside0 (Kd.R (Kd.int .u8) 5 w73 w.heap.size (fun k_ => some k_ ≠ (.slice Ao54 t379.length co54 : Value).ownBlock) (.slice Ao65 y395.length co65) y395) := ⟨(by rw [hw]; exact (by (with_reducible repeat (first | apply Kd.R_alloc | apply Kd.R_drewN | apply Kd.R_drew)); exact Kd.R_mono (Kd.R_far (p := ⟨gb404, 2, none⟩) (Kd.R_far (p := ⟨gb404, 1, none⟩) (Kd.R_far (p := ⟨gb404, 0, none⟩) (Kd.R_types HO397.out BK404.out (by decide)) (fun _ hk => hk.2) (.int .i64 t398)) (fun _ hk => hk.2) (.int .i64 t399)) (fun _ hk => hk.2) (.slice Ao72 t400.length co72)) (fun _ hk => hk.1)))⟩; have n5_ : Aside0 (Kd.N k29 29 w73 w.heap.size (fun k_ => some k_ ≠ (.slice (some adz_v372) y371.length co47 : Value).ownBlock ∧ some k_ ≠ (.slice Ao48 y376.length co48 : Value).ownBlock ∧ some k_ ≠ (.slice Ao54 t379.length co54 : Value).ownBlock ∧ some k_ ≠ (.slice Ao60 t384.length co60 : Value).ownBlock ∧ some k_ ≠ (.slice Ao65 y395.length co65 : Value).ownBlock ∧ k_ ≠ gb362 ∧ k_ ≠ gb370 ∧ k_ ≠ gb388 ∧ k_ ≠ gb404) (.slice Ao72 t400.length co72) t400) := ⟨(by rw [hw]; exact (by (with_reducible repeat (first | apply Kd.N_alloc | apply Kd.N_drewN | apply Kd.N_drew)); exact Kd.N_mono (Kd.N_far (p := ⟨gb404, 2, none⟩) (Kd.N_far (p := ⟨gb404, 1, none⟩) (Kd.N_far (p := ⟨gb404, 0, none⟩) (Kd.N_mono HO402.out (fun k_ hk => (⟨hk, hk.2⟩ : _ ∧ k_ ≠ gb404))) (fun _ hk => hk.2) (.int .i64 t398)) (fun _ hk => hk.2) (.int .i64 t399)) (fun _ hk => hk.2) (.slice Ao72 t400.length co72)) (fun _ hk => ⟨hk.1.1.1, ⟨hk.1.1.2.1, ⟨hk.1.1.2.2.1, ⟨hk.1.1.2.2.2.1, ⟨hk.1.1.2.2.2.2.1, ⟨hk.1.1.2.2.2.2.2.1, ⟨hk.1.1.2.2.2.2.2.2.1, ⟨hk.1.1.2.2.2.2.2.2.2, hk.1.2⟩⟩⟩⟩⟩⟩⟩⟩)))⟩; have n6_ : Aside0 (w73.heap[gb362]? = some (.cells #[.int .i64 a0_0, .int .i64 a0_1, .slice A0_2 l0_2.length c0_2] 24 (0, 0))) := ⟨(by rw [hw]; exact (by (with_reducible repeat (first | refine blk_drewN ?_ _ | refine blk_drew ?_ | refine blk_alloc ?_ _)); refine blk_far ?_ NB362_404.out _; (with_reducible repeat (first | refine blk_drewN ?_ _ | refine blk_drew ?_ | refine blk_alloc ?_ _)); refine blk_far ?_ NB362_404.out _; (with_reducible repeat (first | refine blk_drewN ?_ _ | refine blk_drew ?_ | refine blk_alloc ?_ _)); refine blk_far ?_ NB362_404.out _; (with_reducible repeat (first | refine blk_drewN ?_ _ | refine blk_drew ?_ | refine blk_alloc ?_ _)); exact BK362.out))⟩; have n7_ : Aside0 (w73.heap[gb370]? = some (.cells #[.int .i64 7, .int .i64 (rd y371 t374), .slice Ao48 y376.length co48] 29 (0, 0))) := ⟨(by rw [hw]; exact (by (with_reducible repeat (first | refine blk_drewN ?_ _ | refine blk_drew ?_ | refine blk_alloc ?_ _)); refine blk_far ?_ NB370_404.out _; (with_reducible repeat (first | refine blk_drewN ?_ _ | refine blk_drew ?_ | refine blk_alloc ?_ _)); refine blk_far ?_ NB370_404.out _; (with_reducible repeat (first | refine blk_drewN ?_ _ | refine blk_drew ?_ | refine blk_alloc ?_ _)); refine blk_far ?_ NB370_404.out _; (with_reducible repeat (first | refine blk_drewN ?_ _ | refine blk_drew ?_ | refine blk_alloc ?_ _)); exact BK370.out))⟩; have n8_ : Aside0 (w73.heap[gb388]? = some (.cells #[.int .i64 t382, .int .i64 t383, .slice Ao60 t384.length co60] 29 (0, 0))) := ⟨(by rw [hw]; exact (by (with_reducible repeat (first | refine blk_drewN ?_ _ | refine blk_drew ?_ | refine blk_alloc ?_ _)); refine blk_far ?_ NB388_404.out _; (with_reducible repeat (first | refine blk_drewN ?_ _ | refine blk_drew ?_ | refine blk_alloc ?_ _)); refine blk_far ?_ NB388_404.out _; (with_reducible repeat (first | refine blk_drewN ?_ _ | refine blk_drew ?_ | refine blk_alloc ?_ _)); refine blk_far ?_ NB388_404.out _; (with_reducible repeat (first | refine blk_drewN ?_ _ | refine blk_drew ?_ | refine blk_alloc ?_ _)); exact BK388.out))⟩; have n9_ : Aside0 (w73.heap[gb404]? = some (.cells #[.int .i64 t398, .int .i64 t399, .slice Ao72 t400.length co72] 29 (0, 0))) := ⟨(by rw [hw]; exact (by (with_reducible repeat (first | refine blk_drewN ?_ _ | refine blk_drew ?_ | refine blk_alloc ?_ _)); refine blk_put (cs := #[.int .i64 t398, .int .i64 t399, .slice none 0 0]) ?_ 2 _ rfl; (with_reducible repeat (first | refine blk_drewN ?_ _ | refine blk_drew ?_ | refine blk_alloc ?_ _)); refine blk_put (cs := #[.int .i64 t398, .int .i64 0, .slice none 0 0]) ?_ 1 _ rfl; (with_reducible repeat (first | refine blk_drewN ?_ _ | refine blk_drew ?_ | refine blk_alloc ?_ _)); refine blk_put (cs := #[.int .i64 0, .int .i64 0, .slice none 0 0]) ?_ 0 _ rfl; (with_reducible repeat (first | refine blk_drewN ?_ _ | refine blk_drew ?_ | refine blk_alloc ?_ _)); exact BK404.out))⟩; have n10_ : Aside0 (Below w.heap.size w w73) := ⟨(by rw [hw]; exact (by repeat (first | (with_reducible first | exact HB.out | apply below_alloc | apply pw_below_drewN | apply below_drew1 | refine below_set ?_ GE362.out | refine below_set ?_ GE370.out | refine below_set ?_ GE388.out | refine below_set ?_ GE404.out) | exact HB.out)))⟩; clear hw; clear HO373; clear HO378; clear HO381; clear HO386; clear HO397; clear HO402; clear BK362; clear BK370; clear BK388; clear BK404; clear HB; have HO373 := n0_; have HO378 := n1_; have HO381 := n2_; have HO386 := n3_; have HO397 := n4_; have HO402 := n5_; have BK362 := n6_; have BK370 := n7_; have BK388 := n8_; have BK404 := n9_; have HB := n10_; clear n0_ n1_ n2_ n3_ n4_ n5_ n6_ n7_ n8_ n9_ n10_; have q74 : ((ji18) : Int) ≤ ((t379.length : Int) : Int) := of_decide_eq_true (by first | (with_reducible assumption) | assumption); obtain ⟨i074, hi074, _, hsz74, _⟩ := info_parts info5; have hroom74 : t379.length ≤ co54 := (Kd.R_reads' HO381.out).2.1; have hC74 : Kd.F (Kd.int .u8) _ _ Ao54 t379.length t379 := (Kd.V_at (base := w.heap.size) (Kd.R_V (Kd.R_types (Kd.R_types (Kd.R_types (Kd.R_types (Kd.R_apart' (Kd.R_apart' (Kd.R_apart' (Kd.R_apart' (HO381.out) (Kd.R_typed HO373.out) (by decide)) (Kd.N_typed HO378.out) (by decide)) (Kd.N_typed HO386.out) (by decide)) (Kd.N_typed HO402.out) (by decide)) BK362.out (by decide)) BK370.out (by decide)) BK388.out (by decide)) BK404.out (by decide)))).2.2; have hcut74 := cut_to (P := Try.prog) 31 5 .i64 Try.underlying31 hi074 Ao54 t379.length co54 (ji18) (of_decide_eq_true (by first | (with_reducible assumption) | assumption)) q74 hroom74; have hr74 := Kd.F_take (m := ((ji18) : Int).toNat) hC74 (by omega); have hy74 : y405.length = ((ji18) : Int).toNat := (by rw [Ny405.out, List.length_take]; omega); rw [← Ny405.out] at hr74; rw [← hy74] at hcut74; have HO409 := Aside0.mk (show Kd.V (Kd.int .u8) 5 _ w.heap.size _ (.slice Ao54 y405.length co54) y405 from Kd.V_mk (by omega) hr74); have HC409 := Aside0.mk (show y405.length ≤ co54 from by omega); clear hr74 hC74 hroom74 hi074 hsz74; have KY74 := Aside0.mk hy74; clear hy74; replace q74 := eq_true q74) | ((with_reducible refine gate_callee (f := 16) rfl ?_); refine goesL_ (some 57) rfl rfl Try.func16 (by kernel_rfl) rfl #[.slice Ao54 y405.length co54] rfl (by (try simp only [List.map_toArray, List.map_cons, List.map_nil]); first | done | rfl | (simp only [List.length_drop, List.length_take]; rfl)) ?_; (with_reducible refine (code_Parse.calls _ _ y405 t410 t411 t412 t415 _ ?side1 ?side2 A21.out).mono ?_); (case side1 => repeat (first | exact (Kd.V_reads' HO409.out).2.2 | (with_reducible refine Kd.C_alloc ?_ _) | (with_reducible refine Kd.C_drewN ?_ _) | (with_reducible refine Kd.C_drew ?_))); (case side2 => exact (Kd.V_reads' HO409.out).2.1); rintro e w75 ⟨v413, rfl, ho0, hb⟩; refine ⟨_, rfl, ?_⟩; have n0_ := Aside0.mk (Kd.R_below (by (with_reducible repeat (first | apply Kd.R_alloc | apply Kd.R_drewN | apply Kd.R_drew)); exact HO373.out) hb); have n1_ := Aside0.mk (Kd.N_elder' (by (with_reducible repeat (first | apply Kd.N_alloc | apply Kd.N_drewN | apply Kd.N_drew)); exact HO378.out) (by first | exact Kd.N_base ho0 | exact Kd.R_base ho0) hb); have n2_ := Aside0.mk (Kd.R_below (by (with_reducible repeat (first | apply Kd.R_alloc | apply Kd.R_drewN | apply Kd.R_drew)); exact HO381.out) hb); have n3_ := Aside0.mk (Kd.N_elder' (by (with_reducible repeat (first | apply Kd.N_alloc | apply Kd.N_drewN | apply Kd.N_drew)); exact HO386.out) (by first | exact Kd.N_base ho0 | exact Kd.R_base ho0) hb); have n4_ := Aside0.mk (Kd.R_below (by (with_reducible repeat (first | apply Kd.R_alloc | apply Kd.R_drewN | apply Kd.R_drew)); exact HO397.out) hb); have n5_ := Aside0.mk (Kd.N_elder' (by (with_reducible repeat (first | apply Kd.N_alloc | apply Kd.N_drewN | apply Kd.N_drew)); exact HO402.out) (by first | exact Kd.N_base ho0 | exact Kd.R_base ho0) hb); have n6_ := Aside0.mk (Kd.V_elder' (by (with_reducible repeat (first | apply Kd.V_alloc | apply Kd.V_drewN | apply Kd.V_drew)); exact HO409.out) (by first | exact Kd.N_base ho0 | exact Kd.R_base ho0) hb); have n7_ := Aside0.mk (Kd.N_lower (Kd.N_mono (ok' := fun k_ => some k_ ≠ (.slice (some adz_v372) y371.length co47 : Value).ownBlock ∧ some k_ ≠ (.slice Ao48 y376.length co48 : Value).ownBlock ∧ some k_ ≠ (.slice Ao54 t379.length co54 : Value).ownBlock ∧ some k_ ≠ (.slice Ao60 t384.length co60 : Value).ownBlock ∧ some k_ ≠ (.slice Ao65 y395.length co65 : Value).ownBlock ∧ some k_ ≠ (.slice Ao72 t400.length co72 : Value).ownBlock ∧ k_ ≠ gb362 ∧ k_ ≠ gb370 ∧ k_ ≠ gb388 ∧ k_ ≠ gb404) (Kd.R_N (Kd.R_bound ho0)) (fun k_ hk_ => ⟨(Kd.fresh' (Kd.R_lt (by (with_reducible repeat (first | apply Kd.R_alloc | apply Kd.R_drewN | apply Kd.R_drew)); exact HO373.out)) k_ hk_.2.1), (Kd.fresh' (Kd.N_lt (by (with_reducible repeat (first | apply Kd.N_alloc | apply Kd.N_drewN | apply Kd.N_drew)); exact HO378.out)) k_ hk_.2.1), (Kd.fresh' (Kd.R_lt (by (with_reducible repeat (first | apply Kd.R_alloc | apply Kd.R_drewN | apply Kd.R_drew)); exact HO381.out)) k_ hk_.2.1), (Kd.fresh' (Kd.N_lt (by (with_reducible repeat (first | apply Kd.N_alloc | apply Kd.N_drewN | apply Kd.N_drew)); exact HO386.out)) k_ hk_.2.1), (Kd.fresh' (Kd.R_lt (by (with_reducible repeat (first | apply Kd.R_alloc | apply Kd.R_drewN | apply Kd.R_drew)); exact HO397.out)) k_ hk_.2.1), (Kd.fresh' (Kd.N_lt (by (with_reducible repeat (first | apply Kd.N_alloc | apply Kd.N_drewN | apply Kd.N_drew)); exact HO402.out)) k_ hk_.2.1), (Kd.freshB (g := gb362) (o := .cells #[.int .i64 a0_0, .int .i64 a0_1, .slice A0_2 l0_2.length c0_2] 24 (0, 0)) (by (with_reducible repeat (first | refine blk_drewN ?_ _ | refine blk_drew ?_ | refine blk_alloc ?_ _)); exact BK362.out) k_ hk_.2.1), (Kd.freshB (g := gb370) (o := .cells #[.int .i64 7, .int .i64 (rd y371 t374), .slice Ao48 y376.length co48] 29 (0, 0)) (by (with_reducible repeat (first | refine blk_drewN ?_ _ | refine blk_drew ?_ | refine blk_alloc ?_ _)); exact BK370.out) k_ hk_.2.1), (Kd.freshB (g := gb388) (o := .cells #[.int .i64 t382, .int .i64 t383, .slice Ao60 t384.length co60] 29 (0, 0)) (by (with_reducible repeat (first | refine blk_drewN ?_ _ | refine blk_drew ?_ | refine blk_alloc ?_ _)); exact BK388.out) k_ hk_.2.1), (Kd.freshB (g := gb404) (o := .cells #[.int .i64 t398, .int .i64 t399, .slice Ao72 t400.length co72] 29 (0, 0)) (by (with_reducible repeat (first | refine blk_drewN ?_ _ | refine blk_drew ?_ | refine blk_alloc ?_ _)); exact BK404.out) k_ hk_.2.1)⟩)) (below_size (by repeat (first | (with_reducible first | exact HB.out | apply below_alloc | apply pw_below_drewN | apply below_drew1 | refine below_set ?_ GE362.out | refine below_set ?_ GE370.out | refine below_set ?_ GE388.out | refine below_set ?_ GE404.out) | exact HB.out)))); have n8_ := Aside0.mk (blk_below (g := gb362) (o := .cells #[.int .i64 a0_0, .int .i64 a0_1, .slice A0_2 l0_2.length c0_2] 24 (0, 0)) (by (with_reducible repeat (first | refine blk_drewN ?_ _ | refine blk_drew ?_ | refine blk_alloc ?_ _)); exact BK362.out) hb); have n9_ := Aside0.mk (blk_below (g := gb370) (o := .cells #[.int .i64 7, .int .i64 (rd y371 t374), .slice Ao48 y376.length co48] 29 (0, 0)) (by (with_reducible repeat (first | refine blk_drewN ?_ _ | refine blk_drew ?_ | refine blk_alloc ?_ _)); exact BK370.out) hb); have n10_ := Aside0.mk (blk_below (g := gb388) (o := .cells #[.int .i64 t382, .int .i64 t383, .slice Ao60 t384.length co60] 29 (0, 0)) (by (with_reducible repeat (first | refine blk_drewN ?_ _ | refine blk_drew ?_ | refine blk_alloc ?_ _)); exact BK388.out) hb); have n11_ := Aside0.mk (blk_below (g := gb404) (o := .cells #[.int .i64 t398, .int .i64 t399, .slice Ao72 t400.length co72] 29 (0, 0)) (by (with_reducible repeat (first | refine blk_drewN ?_ _ | refine blk_drew ?_ | refine blk_alloc ?_ _)); exact BK404.out) hb); have n12_ := Aside0.mk (below_step (by repeat (first | (with_reducible first | exact HB.out | apply below_alloc | apply pw_below_drewN | apply below_drew1 | refine below_set ?_ GE362.out | refine below_set ?_ GE370.out | refine below_set ?_ GE388.out | refine below_set ?_ GE404.out) | exact HB.out)) hb); clear HO373; clear HO378; clear HO381; clear HO386; clear HO397; clear HO402; clear HO409; clear BK362; clear BK370; clear BK388; clear BK404; clear HB; have HO373 := n0_; have HO378 := n1_; have HO381 := n2_; have HO386 := n3_; have HO397 := n4_; have HO402 := n5_; have HO409 := n6_; have HO414 := n7_; have BK362 := n8_; have BK370 := n9_; have BK388 := n10_; have BK404 := n11_; have HB := n12_; clear n0_ n1_ n2_ n3_ n4_ n5_ n6_ n7_ n8_ n9_ n10_ n11_ n12_; (try clear hb); (try clear hb2); (try clear hk); (try clear hi); (try clear ho0)) | ((with_reducible refine gate_dst (N := 13) rfl ?_); refine box_event ?hg (N := 13) ?hd (cs := #[.int .i64 0, .int .i64 0, .slice none 0 0]) (t := 29) ?hr ?_; (case hd => rfl); (case hg => rfl); (case hr => first | (go_simp; done) | (go_simp; rfl)); intro gb416 hg w76 hbox hb; have n0_ := Aside0.mk (Kd.R_below (by (with_reducible repeat (first | apply Kd.R_alloc | apply Kd.R_drewN | apply Kd.R_drew)); exact HO373.out) hb); have n1_ := Aside0.mk (Kd.N_below (Kd.N_elderB (by (with_reducible repeat (first | apply Kd.N_alloc | apply Kd.N_drewN | apply Kd.N_drew)); exact HO378.out) gb416 (Nat.le_of_eq hg.symm)) hb); have n2_ := Aside0.mk (Kd.R_below (by (with_reducible repeat (first | apply Kd.R_alloc | apply Kd.R_drewN | apply Kd.R_drew)); exact HO381.out) hb); have n3_ := Aside0.mk (Kd.N_below (Kd.N_elderB (by (with_reducible repeat (first | apply Kd.N_alloc | apply Kd.N_drewN | apply Kd.N_drew)); exact HO386.out) gb416 (Nat.le_of_eq hg.symm)) hb); have n4_ := Aside0.mk (Kd.R_below (by (with_reducible repeat (first | apply Kd.R_alloc | apply Kd.R_drewN | apply Kd.R_drew)); exact HO397.out) hb); have n5_ := Aside0.mk (Kd.N_below (Kd.N_elderB (by (with_reducible repeat (first | apply Kd.N_alloc | apply Kd.N_drewN | apply Kd.N_drew)); exact HO402.out) gb416 (Nat.le_of_eq hg.symm)) hb); have n6_ := Aside0.mk (Kd.V_below (Kd.V_elderB (by (with_reducible repeat (first | apply Kd.V_alloc | apply Kd.V_drewN | apply Kd.V_drew)); exact HO409.out) gb416 (Nat.le_of_eq hg.symm)) hb); have n7_ := Aside0.mk (Kd.N_below (Kd.N_elderB (by (with_reducible repeat (first | apply Kd.N_alloc | apply Kd.N_drewN | apply Kd.N_drew)); exact HO414.out) gb416 (Nat.le_of_eq hg.symm)) hb); have n8_ := Aside0.mk (blk_below (g := gb362) (o := .cells #[.int .i64 a0_0, .int .i64 a0_1, .slice A0_2 l0_2.length c0_2] 24 (0, 0)) (by (with_reducible repeat (first | refine blk_drewN ?_ _ | refine blk_drew ?_ | refine blk_alloc ?_ _)); exact BK362.out) hb); have n9_ := Aside0.mk (blk_below (g := gb370) (o := .cells #[.int .i64 7, .int .i64 (rd y371 t374), .slice Ao48 y376.length co48] 29 (0, 0)) (by (with_reducible repeat (first | refine blk_drewN ?_ _ | refine blk_drew ?_ | refine blk_alloc ?_ _)); exact BK370.out) hb); have n10_ := Aside0.mk (blk_below (g := gb388) (o := .cells #[.int .i64 t382, .int .i64 t383, .slice Ao60 t384.length co60] 29 (0, 0)) (by (with_reducible repeat (first | refine blk_drewN ?_ _ | refine blk_drew ?_ | refine blk_alloc ?_ _)); exact BK388.out) hb); have n11_ := Aside0.mk (blk_below (g := gb404) (o := .cells #[.int .i64 t398, .int .i64 t399, .slice Ao72 t400.length co72] 29 (0, 0)) (by (with_reducible repeat (first | refine blk_drewN ?_ _ | refine blk_drew ?_ | refine blk_alloc ?_ _)); exact BK404.out) hb); have n12_ := Aside0.mk (below_step (by repeat (first | (with_reducible first | exact HB.out | apply below_alloc | apply pw_below_drewN | apply below_drew1 | refine below_set ?_ GE362.out | refine below_set ?_ GE370.out | refine below_set ?_ GE388.out | refine below_set ?_ GE404.out) | exact HB.out)) hb); have n13_ := Aside0.mk (hbox); have n14_ := Aside0.mk ((by rw [hg]; exact (below_size (by repeat (first | (with_reducible first | exact HB.out | apply below_alloc | apply pw_below_drewN | apply below_drew1 | refine below_set ?_ GE362.out | refine below_set ?_ GE370.out | refine below_set ?_ GE388.out | refine below_set ?_ GE404.out) | exact HB.out))) : w.heap.size ≤ gb416)); have n15_ := Aside0.mk ((by rw [hg]; exact (below_size (by repeat (first | (with_reducible first | exact HB.out | apply below_alloc | apply pw_below_drewN | apply below_drew1 | refine below_set ?_ GE362.out | refine below_set ?_ GE370.out | refine below_set ?_ GE388.out | refine below_set ?_ GE404.out) | exact HB.out))) : w.heap.size ≤ gb416)); have n16_ := Aside0.mk ((by rw [hg]; exact Nat.ne_of_lt (blk_lt (g := gb362) (o := .cells #[.int .i64 a0_0, .int .i64 a0_1, .slice A0_2 l0_2.length c0_2] 24 (0, 0)) (by (with_reducible repeat (first | refine blk_drewN ?_ _ | refine blk_drew ?_ | refine blk_alloc ?_ _)); exact BK362.out)) : gb362 ≠ gb416)); have n17_ := Aside0.mk ((by rw [hg]; exact Nat.ne_of_gt (blk_lt (g := gb362) (o := .cells #[.int .i64 a0_0, .int .i64 a0_1, .slice A0_2 l0_2.length c0_2] 24 (0, 0)) (by (with_reducible repeat (first | refine blk_drewN ?_ _ | refine blk_drew ?_ | refine blk_alloc ?_ _)); exact BK362.out)) : gb416 ≠ gb362)); have n18_ := Aside0.mk ((by rw [hg]; exact Nat.ne_of_lt (blk_lt (g := gb370) (o := .cells #[.int .i64 7, .int .i64 (rd y371 t374), .slice Ao48 y376.length co48] 29 (0, 0)) (by (with_reducible repeat (first | refine blk_drewN ?_ _ | refine blk_drew ?_ | refine blk_alloc ?_ _)); exact BK370.out)) : gb370 ≠ gb416)); have n19_ := Aside0.mk ((by rw [hg]; exact Nat.ne_of_gt (blk_lt (g := gb370) (o := .cells #[.int .i64 7, .int .i64 (rd y371 t374), .slice Ao48 y376.length co48] 29 (0, 0)) (by (with_reducible repeat (first | refine blk_drewN ?_ _ | refine blk_drew ?_ | refine blk_alloc ?_ _)); exact BK370.out)) : gb416 ≠ gb370)); have n20_ := Aside0.mk ((by rw [hg]; exact Nat.ne_of_lt (blk_lt (g := gb388) (o := .cells #[.int .i64 t382, .int .i64 t383, .slice Ao60 t384.length co60] 29 (0, 0)) (by (with_reducible repeat (first | refine blk_drewN ?_ _ | refine blk_drew ?_ | refine blk_alloc ?_ _)); exact BK388.out)) : gb388 ≠ gb416)); have n21_ := Aside0.mk ((by rw [hg]; exact Nat.ne_of_gt (blk_lt (g := gb388) (o := .cells #[.int .i64 t382, .int .i64 t383, .slice Ao60 t384.length co60] 29 (0, 0)) (by (with_reducible repeat (first | refine blk_drewN ?_ _ | refine blk_drew ?_ | refine blk_alloc ?_ _)); exact BK388.out)) : gb416 ≠ gb388)); have n22_ := Aside0.mk ((by rw [hg]; exact Nat.ne_of_lt (blk_lt (g := gb404) (o := .cells #[.int .i64 t398, .int .i64 t399, .slice Ao72 t400.length co72] 29 (0, 0)) (by (with_reducible repeat (first | refine blk_drewN ?_ _ | refine blk_drew ?_ | refine blk_alloc ?_ _)); exact BK404.out)) : gb404 ≠ gb416)); have n23_ := Aside0.mk ((by rw [hg]; exact Nat.ne_of_gt (blk_lt (g := gb404) (o := .cells #[.int .i64 t398, .int .i64 t399, .slice Ao72 t400.length co72] 29 (0, 0)) (by (with_reducible repeat (first | refine blk_drewN ?_ _ | refine blk_drew ?_ | refine blk_alloc ?_ _)); exact BK404.out)) : gb416 ≠ gb404)); clear HO373; clear HO378; clear HO381; clear HO386; clear HO397; clear HO402; clear HO409; clear HO414; clear BK362; clear BK370; clear BK388; clear BK404; clear HB; have HO373 := n0_; have HO378 := n1_; have HO381 := n2_; have HO386 := n3_; have HO397 := n4_; have HO402 := n5_; have HO409 := n6_; have HO414 := n7_; have BK362 := n8_; have BK370 := n9_; have BK388 := n10_; have BK404 := n11_; have HB := n12_; have BK416 := n13_; have GW416 := n14_; have GE416 := n15_; have NB362_416 := n16_; have NB416_362 := n17_; have NB370_416 := n18_; have NB416_370 := n19_; have NB388_416 := n20_; have NB416_388 := n21_; have NB404_416 := n22_; have NB416_404 := n23_; clear n0_ n1_ n2_ n3_ n4_ n5_ n6_ n7_ n8_ n9_ n10_ n11_ n12_ n13_ n14_ n15_ n16_ n17_ n18_ n19_ n20_ n21_ n22_ n23_; clear hb hbox hg; have hnb77 := NB416_362.out; have hnc77 := NB362_416.out; have hnb78 := NB416_370.out; have hnc78 := NB370_416.out; have hnb79 := NB416_388.out; have hnc79 := NB388_416.out; have hnb80 := NB416_404.out; have hnc80 := NB404_416.out; have hcz81_0 : w76.cell? ⟨gb416, 0, none⟩ = some (.int .i64 0) := (blk_cell BK416.out 0).trans rfl; have hcz81_1 : w76.cell? ⟨gb416, 1, none⟩ = some (.int .i64 0) := (blk_cell BK416.out 1).trans rfl; have hcz81_2 : w76.cell? ⟨gb416, 2, none⟩ = some (.slice none 0 0) := (blk_cell BK416.out 2).trans rfl; have hfz81_0 := blk_frozen BK416.out 0; have hfz81_1 := blk_frozen BK416.out 1; have hfz81_2 := blk_frozen BK416.out 2; obtain ⟨Ao82, co82, eo82⟩ := Kd.N_slice HO414.out; subst eo82))
                            have n0_ : Aside0 (Kd.R (Kd.int .i64) 3 (((w76.setCell ⟨gb416, 0, none⟩ (.int .i64 t410)).setCell ⟨gb416, 1, none⟩ (.int .i64 t411)).setCell ⟨gb416, 2, none⟩ (.slice Ao82 t412.length co82)) w.heap.size (fun _ => True) (.slice (some adz_v372) y371.length co47) y371) := ⟨by (with_reducible repeat (first | apply Kd.R_alloc | apply Kd.R_drewN | apply Kd.R_drew)); exact Kd.R_mono (Kd.R_far (p := ⟨gb416, 2, none⟩) (Kd.R_far (p := ⟨gb416, 1, none⟩) (Kd.R_far (p := ⟨gb416, 0, none⟩) (Kd.R_types HO373.out BK416.out (by decide)) (fun _ hk => hk.2) (.int .i64 t410)) (fun _ hk => hk.2) (.int .i64 t411)) (fun _ hk => hk.2) (.slice Ao82 t412.length co82)) (fun _ hk => trivial)⟩
                            have n1_ : Aside0 (Kd.N k29 29 (((w76.setCell ⟨gb416, 0, none⟩ (.int .i64 t410)).setCell ⟨gb416, 1, none⟩ (.int .i64 t411)).setCell ⟨gb416, 2, none⟩ (.slice Ao82 t412.length co82)) w.heap.size (fun k_ => some k_ ≠ (.slice (some adz_v372) y371.length co47 : Value).ownBlock ∧ some k_ ≠ (.slice Ao54 t379.length co54 : Value).ownBlock ∧ some k_ ≠ (.slice Ao60 t384.length co60 : Value).ownBlock ∧ some k_ ≠ (.slice Ao65 y395.length co65 : Value).ownBlock ∧ some k_ ≠ (.slice Ao72 t400.length co72 : Value).ownBlock ∧ some k_ ≠ (.slice Ao82 t412.length co82 : Value).ownBlock ∧ k_ ≠ gb362 ∧ k_ ≠ gb370 ∧ k_ ≠ gb388 ∧ k_ ≠ gb404 ∧ k_ ≠ gb416) (.slice Ao48 y376.length co48) y376) := ⟨by (with_reducible repeat (first | apply Kd.N_alloc | apply Kd.N_drewN | apply Kd.N_drew)); exact Kd.N_mono (Kd.N_far (p := ⟨gb416, 2, none⟩) (Kd.N_far (p := ⟨gb416, 1, none⟩) (Kd.N_far (p := ⟨gb416, 0, none⟩) (Kd.N_mono HO378.out (fun k_ hk => (⟨hk, hk.2⟩ : _ ∧ k_ ≠ gb416))) (fun _ hk => hk.2) (.int .i64 t410)) (fun _ hk => hk.2) (.int .i64 t411)) (fun _ hk => hk.2) (.slice Ao82 t412.length co82)) (fun _ hk => ⟨hk.1.1.1.1, ⟨hk.1.1.1.2.1, ⟨hk.1.1.1.2.2.1, ⟨hk.1.1.1.2.2.2.1, ⟨hk.1.1.1.2.2.2.2.1, ⟨hk.1.1.2, ⟨hk.1.1.1.2.2.2.2.2.1, ⟨hk.1.1.1.2.2.2.2.2.2.1, ⟨hk.1.1.1.2.2.2.2.2.2.2.1, ⟨hk.1.1.1.2.2.2.2.2.2.2.2, hk.1.2⟩⟩⟩⟩⟩⟩⟩⟩⟩⟩)⟩
                            have n2_ : Aside0 (Kd.R (Kd.int .u8) 5 (((w76.setCell ⟨gb416, 0, none⟩ (.int .i64 t410)).setCell ⟨gb416, 1, none⟩ (.int .i64 t411)).setCell ⟨gb416, 2, none⟩ (.slice Ao82 t412.length co82)) w.heap.size (fun k_ => some k_ ≠ (.slice Ao65 y395.length co65 : Value).ownBlock) (.slice Ao54 t379.length co54) t379) := ⟨by (with_reducible repeat (first | apply Kd.R_alloc | apply Kd.R_drewN | apply Kd.R_drew)); exact Kd.R_mono (Kd.R_far (p := ⟨gb416, 2, none⟩) (Kd.R_far (p := ⟨gb416, 1, none⟩) (Kd.R_far (p := ⟨gb416, 0, none⟩) (Kd.R_types HO381.out BK416.out (by decide)) (fun _ hk => hk.2) (.int .i64 t410)) (fun _ hk => hk.2) (.int .i64 t411)) (fun _ hk => hk.2) (.slice Ao82 t412.length co82)) (fun _ hk => hk.1)⟩
                            have n3_ : Aside0 (Kd.N k29 29 (((w76.setCell ⟨gb416, 0, none⟩ (.int .i64 t410)).setCell ⟨gb416, 1, none⟩ (.int .i64 t411)).setCell ⟨gb416, 2, none⟩ (.slice Ao82 t412.length co82)) w.heap.size (fun k_ => some k_ ≠ (.slice (some adz_v372) y371.length co47 : Value).ownBlock ∧ some k_ ≠ (.slice Ao48 y376.length co48 : Value).ownBlock ∧ some k_ ≠ (.slice Ao54 t379.length co54 : Value).ownBlock ∧ some k_ ≠ (.slice Ao65 y395.length co65 : Value).ownBlock ∧ some k_ ≠ (.slice Ao72 t400.length co72 : Value).ownBlock ∧ some k_ ≠ (.slice Ao82 t412.length co82 : Value).ownBlock ∧ k_ ≠ gb362 ∧ k_ ≠ gb370 ∧ k_ ≠ gb388 ∧ k_ ≠ gb404 ∧ k_ ≠ gb416) (.slice Ao60 t384.length co60) t384) := ⟨by (with_reducible repeat (first | apply Kd.N_alloc | apply Kd.N_drewN | apply Kd.N_drew)); exact Kd.N_mono (Kd.N_far (p := ⟨gb416, 2, none⟩) (Kd.N_far (p := ⟨gb416, 1, none⟩) (Kd.N_far (p := ⟨gb416, 0, none⟩) (Kd.N_mono HO386.out (fun k_ hk => (⟨hk, hk.2⟩ : _ ∧ k_ ≠ gb416))) (fun _ hk => hk.2) (.int .i64 t410)) (fun _ hk => hk.2) (.int .i64 t411)) (fun _ hk => hk.2) (.slice Ao82 t412.length co82)) (fun _ hk => ⟨hk.1.1.1.1, ⟨hk.1.1.1.2.1, ⟨hk.1.1.1.2.2.1, ⟨hk.1.1.1.2.2.2.1, ⟨hk.1.1.1.2.2.2.2.1, ⟨hk.1.1.2, ⟨hk.1.1.1.2.2.2.2.2.1, ⟨hk.1.1.1.2.2.2.2.2.2.1, ⟨hk.1.1.1.2.2.2.2.2.2.2.1, ⟨hk.1.1.1.2.2.2.2.2.2.2.2, hk.1.2⟩⟩⟩⟩⟩⟩⟩⟩⟩⟩)⟩
                            have n4_ : Aside0 (Kd.R (Kd.int .u8) 5 (((w76.setCell ⟨gb416, 0, none⟩ (.int .i64 t410)).setCell ⟨gb416, 1, none⟩ (.int .i64 t411)).setCell ⟨gb416, 2, none⟩ (.slice Ao82 t412.length co82)) w.heap.size (fun k_ => some k_ ≠ (.slice Ao54 t379.length co54 : Value).ownBlock) (.slice Ao65 y395.length co65) y395) := ⟨by (with_reducible repeat (first | apply Kd.R_alloc | apply Kd.R_drewN | apply Kd.R_drew)); exact Kd.R_mono (Kd.R_far (p := ⟨gb416, 2, none⟩) (Kd.R_far (p := ⟨gb416, 1, none⟩) (Kd.R_far (p := ⟨gb416, 0, none⟩) (Kd.R_types HO397.out BK416.out (by decide)) (fun _ hk => hk.2) (.int .i64 t410)) (fun _ hk => hk.2) (.int .i64 t411)) (fun _ hk => hk.2) (.slice Ao82 t412.length co82)) (fun _ hk => hk.1)⟩
                            have n5_ : Aside0 (Kd.N k29 29 (((w76.setCell ⟨gb416, 0, none⟩ (.int .i64 t410)).setCell ⟨gb416, 1, none⟩ (.int .i64 t411)).setCell ⟨gb416, 2, none⟩ (.slice Ao82 t412.length co82)) w.heap.size (fun k_ => some k_ ≠ (.slice (some adz_v372) y371.length co47 : Value).ownBlock ∧ some k_ ≠ (.slice Ao48 y376.length co48 : Value).ownBlock ∧ some k_ ≠ (.slice Ao54 t379.length co54 : Value).ownBlock ∧ some k_ ≠ (.slice Ao60 t384.length co60 : Value).ownBlock ∧ some k_ ≠ (.slice Ao65 y395.length co65 : Value).ownBlock ∧ some k_ ≠ (.slice Ao82 t412.length co82 : Value).ownBlock ∧ k_ ≠ gb362 ∧ k_ ≠ gb370 ∧ k_ ≠ gb388 ∧ k_ ≠ gb404 ∧ k_ ≠ gb416) (.slice Ao72 t400.length co72) t400) := ⟨by (with_reducible repeat (first | apply Kd.N_alloc | apply Kd.N_drewN | apply Kd.N_drew)); exact Kd.N_mono (Kd.N_far (p := ⟨gb416, 2, none⟩) (Kd.N_far (p := ⟨gb416, 1, none⟩) (Kd.N_far (p := ⟨gb416, 0, none⟩) (Kd.N_mono HO402.out (fun k_ hk => (⟨hk, hk.2⟩ : _ ∧ k_ ≠ gb416))) (fun _ hk => hk.2) (.int .i64 t410)) (fun _ hk => hk.2) (.int .i64 t411)) (fun _ hk => hk.2) (.slice Ao82 t412.length co82)) (fun _ hk => ⟨hk.1.1.1.1, ⟨hk.1.1.1.2.1, ⟨hk.1.1.1.2.2.1, ⟨hk.1.1.1.2.2.2.1, ⟨hk.1.1.1.2.2.2.2.1, ⟨hk.1.1.2, ⟨hk.1.1.1.2.2.2.2.2.1, ⟨hk.1.1.1.2.2.2.2.2.2.1, ⟨hk.1.1.1.2.2.2.2.2.2.2.1, ⟨hk.1.1.1.2.2.2.2.2.2.2.2, hk.1.2⟩⟩⟩⟩⟩⟩⟩⟩⟩⟩)⟩
                            have n6_ : Aside0 (Kd.V (Kd.int .u8) 5 (((w76.setCell ⟨gb416, 0, none⟩ (.int .i64 t410)).setCell ⟨gb416, 1, none⟩ (.int .i64 t411)).setCell ⟨gb416, 2, none⟩ (.slice Ao82 t412.length co82)) w.heap.size (fun k_ => some k_ ≠ (.slice (some adz_v372) y371.length co47 : Value).ownBlock ∧ some k_ ≠ (.slice Ao48 y376.length co48 : Value).ownBlock ∧ some k_ ≠ (.slice Ao60 t384.length co60 : Value).ownBlock ∧ some k_ ≠ (.slice Ao65 y395.length co65 : Value).ownBlock ∧ some k_ ≠ (.slice Ao72 t400.length co72 : Value).ownBlock ∧ some k_ ≠ (.slice Ao82 t412.length co82 : Value).ownBlock ∧ k_ ≠ gb362 ∧ k_ ≠ gb370 ∧ k_ ≠ gb388 ∧ k_ ≠ gb404 ∧ k_ ≠ gb416) (.slice Ao54 y405.length co54) y405) := ⟨by (with_reducible repeat (first | apply Kd.V_alloc | apply Kd.V_drewN | apply Kd.V_drew)); exact Kd.V_mono (Kd.V_far (p := ⟨gb416, 2, none⟩) (Kd.V_far (p := ⟨gb416, 1, none⟩) (Kd.V_far (p := ⟨gb416, 0, none⟩) (Kd.V_mono HO409.out (fun k_ hk => (⟨hk, hk.2⟩ : _ ∧ k_ ≠ gb416))) (fun _ hk => hk.2) (.int .i64 t410)) (fun _ hk => hk.2) (.int .i64 t411)) (fun _ hk => hk.2) (.slice Ao82 t412.length co82)) (fun _ hk => ⟨hk.1.1.1.1.1.1.1.1.1.1.2, ⟨hk.1.1.1.1.1.1.1.1.1.2, ⟨hk.1.1.1.1.1.1.1.1.2, ⟨hk.1.1.1.1.1.1.1.1.1.1.1, ⟨hk.1.1.1.1.1.1.1.2, ⟨hk.1.1.2, ⟨hk.1.1.1.1.1.1.2, ⟨hk.1.1.1.1.1.2, ⟨hk.1.1.1.1.2, ⟨hk.1.1.1.2, hk.1.2⟩⟩⟩⟩⟩⟩⟩⟩⟩⟩)⟩
                            have n7_ : Aside0 (Kd.N k29 29 (((w76.setCell ⟨gb416, 0, none⟩ (.int .i64 t410)).setCell ⟨gb416, 1, none⟩ (.int .i64 t411)).setCell ⟨gb416, 2, none⟩ (.slice Ao82 t412.length co82)) w.heap.size (fun k_ => some k_ ≠ (.slice (some adz_v372) y371.length co47 : Value).ownBlock ∧ some k_ ≠ (.slice Ao48 y376.length co48 : Value).ownBlock ∧ some k_ ≠ (.slice Ao54 t379.length co54 : Value).ownBlock ∧ some k_ ≠ (.slice Ao60 t384.length co60 : Value).ownBlock ∧ some k_ ≠ (.slice Ao65 y395.length co65 : Value).ownBlock ∧ some k_ ≠ (.slice Ao72 t400.length co72 : Value).ownBlock ∧ k_ ≠ gb362 ∧ k_ ≠ gb370 ∧ k_ ≠ gb388 ∧ k_ ≠ gb404 ∧ k_ ≠ gb416) (.slice Ao82 t412.length co82) t412) := ⟨by (with_reducible repeat (first | apply Kd.N_alloc | apply Kd.N_drewN | apply Kd.N_drew)); exact Kd.N_mono (Kd.N_far (p := ⟨gb416, 2, none⟩) (Kd.N_far (p := ⟨gb416, 1, none⟩) (Kd.N_far (p := ⟨gb416, 0, none⟩) (Kd.N_mono HO414.out (fun k_ hk => (⟨hk, hk.2⟩ : _ ∧ k_ ≠ gb416))) (fun _ hk => hk.2) (.int .i64 t410)) (fun _ hk => hk.2) (.int .i64 t411)) (fun _ hk => hk.2) (.slice Ao82 t412.length co82)) (fun _ hk => ⟨hk.1.1.1, ⟨hk.1.1.2.1, ⟨hk.1.1.2.2.1, ⟨hk.1.1.2.2.2.1, ⟨hk.1.1.2.2.2.2.1, ⟨hk.1.1.2.2.2.2.2.1, ⟨hk.1.1.2.2.2.2.2.2.1, ⟨hk.1.1.2.2.2.2.2.2.2.1, ⟨hk.1.1.2.2.2.2.2.2.2.2.1, ⟨hk.1.1.2.2.2.2.2.2.2.2.2, hk.1.2⟩⟩⟩⟩⟩⟩⟩⟩⟩⟩)⟩
                            have n8_ : Aside0 ((((w76.setCell ⟨gb416, 0, none⟩ (.int .i64 t410)).setCell ⟨gb416, 1, none⟩ (.int .i64 t411)).setCell ⟨gb416, 2, none⟩ (.slice Ao82 t412.length co82)).heap[gb362]? = some (.cells #[.int .i64 a0_0, .int .i64 a0_1, .slice A0_2 l0_2.length c0_2] 24 (0, 0))) := ⟨by (with_reducible repeat (first | refine blk_drewN ?_ _ | refine blk_drew ?_ | refine blk_alloc ?_ _)); refine blk_far ?_ NB362_416.out _; (with_reducible repeat (first | refine blk_drewN ?_ _ | refine blk_drew ?_ | refine blk_alloc ?_ _)); refine blk_far ?_ NB362_416.out _; (with_reducible repeat (first | refine blk_drewN ?_ _ | refine blk_drew ?_ | refine blk_alloc ?_ _)); refine blk_far ?_ NB362_416.out _; (with_reducible repeat (first | refine blk_drewN ?_ _ | refine blk_drew ?_ | refine blk_alloc ?_ _)); exact BK362.out⟩
                            have n9_ : Aside0 ((((w76.setCell ⟨gb416, 0, none⟩ (.int .i64 t410)).setCell ⟨gb416, 1, none⟩ (.int .i64 t411)).setCell ⟨gb416, 2, none⟩ (.slice Ao82 t412.length co82)).heap[gb370]? = some (.cells #[.int .i64 7, .int .i64 (rd y371 t374), .slice Ao48 y376.length co48] 29 (0, 0))) := ⟨by (with_reducible repeat (first | refine blk_drewN ?_ _ | refine blk_drew ?_ | refine blk_alloc ?_ _)); refine blk_far ?_ NB370_416.out _; (with_reducible repeat (first | refine blk_drewN ?_ _ | refine blk_drew ?_ | refine blk_alloc ?_ _)); refine blk_far ?_ NB370_416.out _; (with_reducible repeat (first | refine blk_drewN ?_ _ | refine blk_drew ?_ | refine blk_alloc ?_ _)); refine blk_far ?_ NB370_416.out _; (with_reducible repeat (first | refine blk_drewN ?_ _ | refine blk_drew ?_ | refine blk_alloc ?_ _)); exact BK370.out⟩
                            have n10_ : Aside0 ((((w76.setCell ⟨gb416, 0, none⟩ (.int .i64 t410)).setCell ⟨gb416, 1, none⟩ (.int .i64 t411)).setCell ⟨gb416, 2, none⟩ (.slice Ao82 t412.length co82)).heap[gb388]? = some (.cells #[.int .i64 t382, .int .i64 t383, .slice Ao60 t384.length co60] 29 (0, 0))) := ⟨by (with_reducible repeat (first | refine blk_drewN ?_ _ | refine blk_drew ?_ | refine blk_alloc ?_ _)); refine blk_far ?_ NB388_416.out _; (with_reducible repeat (first | refine blk_drewN ?_ _ | refine blk_drew ?_ | refine blk_alloc ?_ _)); refine blk_far ?_ NB388_416.out _; (with_reducible repeat (first | refine blk_drewN ?_ _ | refine blk_drew ?_ | refine blk_alloc ?_ _)); refine blk_far ?_ NB388_416.out _; (with_reducible repeat (first | refine blk_drewN ?_ _ | refine blk_drew ?_ | refine blk_alloc ?_ _)); exact BK388.out⟩
                            have n11_ : Aside0 ((((w76.setCell ⟨gb416, 0, none⟩ (.int .i64 t410)).setCell ⟨gb416, 1, none⟩ (.int .i64 t411)).setCell ⟨gb416, 2, none⟩ (.slice Ao82 t412.length co82)).heap[gb404]? = some (.cells #[.int .i64 t398, .int .i64 t399, .slice Ao72 t400.length co72] 29 (0, 0))) := ⟨by (with_reducible repeat (first | refine blk_drewN ?_ _ | refine blk_drew ?_ | refine blk_alloc ?_ _)); refine blk_far ?_ NB404_416.out _; (with_reducible repeat (first | refine blk_drewN ?_ _ | refine blk_drew ?_ | refine blk_alloc ?_ _)); refine blk_far ?_ NB404_416.out _; (with_reducible repeat (first | refine blk_drewN ?_ _ | refine blk_drew ?_ | refine blk_alloc ?_ _)); refine blk_far ?_ NB404_416.out _; (with_reducible repeat (first | refine blk_drewN ?_ _ | refine blk_drew ?_ | refine blk_alloc ?_ _)); exact BK404.out⟩
                            have n12_ : Aside0 ((((w76.setCell ⟨gb416, 0, none⟩ (.int .i64 t410)).setCell ⟨gb416, 1, none⟩ (.int .i64 t411)).setCell ⟨gb416, 2, none⟩ (.slice Ao82 t412.length co82)).heap[gb416]? = some (.cells #[.int .i64 t410, .int .i64 t411, .slice Ao82 t412.length co82] 29 (0, 0))) := ⟨by (with_reducible repeat (first | refine blk_drewN ?_ _ | refine blk_drew ?_ | refine blk_alloc ?_ _)); refine blk_put (cs := #[.int .i64 t410, .int .i64 t411, .slice none 0 0]) ?_ 2 _ rfl; (with_reducible repeat (first | refine blk_drewN ?_ _ | refine blk_drew ?_ | refine blk_alloc ?_ _)); refine blk_put (cs := #[.int .i64 t410, .int .i64 0, .slice none 0 0]) ?_ 1 _ rfl; (with_reducible repeat (first | refine blk_drewN ?_ _ | refine blk_drew ?_ | refine blk_alloc ?_ _)); refine blk_put (cs := #[.int .i64 0, .int .i64 0, .slice none 0 0]) ?_ 0 _ rfl; (with_reducible repeat (first | refine blk_drewN ?_ _ | refine blk_drew ?_ | refine blk_alloc ?_ _)); exact BK416.out⟩
                            have n13_ : Aside0 (Below w.heap.size w (((w76.setCell ⟨gb416, 0, none⟩ (.int .i64 t410)).setCell ⟨gb416, 1, none⟩ (.int .i64 t411)).setCell ⟨gb416, 2, none⟩ (.slice Ao82 t412.length co82))) := ⟨by repeat (first | (with_reducible first | exact HB.out | apply below_alloc | apply pw_below_drewN | apply below_drew1 | refine below_set ?_ GE362.out | refine below_set ?_ GE370.out | refine below_set ?_ GE388.out | refine below_set ?_ GE404.out | refine below_set ?_ GE416.out) | exact HB.out)⟩
                            (try clear HO373)
                            (try clear HO378)
                            (try clear HO381)
                            (try clear HO386)
                            (try clear HO397)
                            (try clear HO402)
                            (try clear HO409)
                            (try clear HO414)
                            (try clear BK362)
                            (try clear BK370)
                            (try clear BK388)
                            (try clear BK404)
                            (try clear BK416)
                            (try clear HB)
                            generalize (((w76.setCell ⟨gb416, 0, none⟩ (.int .i64 t410)).setCell ⟨gb416, 1, none⟩ (.int .i64 t411)).setCell ⟨gb416, 2, none⟩ (.slice Ao82 t412.length co82)) = w83 at n0_ n1_ n2_ n3_ n4_ n5_ n6_ n7_ n8_ n9_ n10_ n11_ n12_ n13_ ⊢
                            have HO373 := n0_
                            have HO378 := n1_
                            have HO381 := n2_
                            have HO386 := n3_
                            have HO397 := n4_
                            have HO402 := n5_
                            have HO409 := n6_
                            have HO414 := n7_
                            have BK362 := n8_
                            have BK370 := n9_
                            have BK388 := n10_
                            have BK404 := n11_
                            have BK416 := n12_
                            have HB := n13_
                            clear n0_ n1_ n2_ n3_ n4_ n5_ n6_ n7_ n8_ n9_ n10_ n11_ n12_ n13_
                            have n0_ := Aside0.mk (Kd.R_drew HO373.out)
                            have n1_ := Aside0.mk (Kd.N_drew HO378.out)
                            have n2_ := Aside0.mk (Kd.R_drew HO381.out)
                            have n3_ := Aside0.mk (Kd.N_drew HO386.out)
                            have n4_ := Aside0.mk (Kd.R_drew HO397.out)
                            have n5_ := Aside0.mk (Kd.N_drew HO402.out)
                            have n6_ := Aside0.mk (Kd.V_drew HO409.out)
                            have n7_ := Aside0.mk (Kd.N_drew HO414.out)
                            have n8_ := Aside0.mk (blk_drew BK362.out)
                            have n9_ := Aside0.mk (blk_drew BK370.out)
                            have n10_ := Aside0.mk (blk_drew BK388.out)
                            have n11_ := Aside0.mk (blk_drew BK404.out)
                            have n12_ := Aside0.mk (blk_drew BK416.out)
                            have n13_ := Aside0.mk (below_drew1 HB.out)
                            clear HO373
                            clear HO378
                            clear HO381
                            clear HO386
                            clear HO397
                            clear HO402
                            clear HO409
                            clear HO414
                            clear BK362
                            clear BK370
                            clear BK388
                            clear BK404
                            clear BK416
                            clear HB
                            have HO373 := n0_
                            have HO378 := n1_
                            have HO381 := n2_
                            have HO386 := n3_
                            have HO397 := n4_
                            have HO402 := n5_
                            have HO409 := n6_
                            have HO414 := n7_
                            have BK362 := n8_
                            have BK370 := n9_
                            have BK388 := n10_
                            have BK404 := n11_
                            have BK416 := n12_
                            have HB := n13_
                            clear n0_ n1_ n2_ n3_ n4_ n5_ n6_ n7_ n8_ n9_ n10_ n11_ n12_ n13_
                            refine start_ (n := 24) (S := fun w' => w'.cell? ⟨gb388, 0, none⟩ = some (.int .i64 t382) ∧ w'.cell? ⟨gb388, 1, none⟩ = some (.int .i64 t383) ∧ w'.cell? ⟨gb388, 2, none⟩ = some (.slice Ao60 t384.length co60) ∧ w'.cell? ⟨gb370, 0, none⟩ = some (.int .i64 7) ∧ w'.cell? ⟨gb370, 1, none⟩ = some (.int .i64 (rd y371 t374)) ∧ w'.cell? ⟨gb370, 2, none⟩ = some (.slice Ao48 y376.length co48) ∧ (convert 31 9 (.slice Ao54 t379.length co54)).run Try.prog w' = .ok (.string (strOfNums t379)) w') (ds := []) #[false, false, false, false, false, false, false, false, false, false, false, false, false, false, false, false, false, false, false, false, false, false, false, false] (by kernel_rfl) rfl rfl ⟨(blk_cell BK388.out 0).trans rfl, (blk_cell BK388.out 1).trans rfl, (blk_cell BK388.out 2).trans rfl, (blk_cell BK370.out 0).trans rfl, (blk_cell BK370.out 1).trans rfl, (blk_cell BK370.out 2).trans rfl, own_string (P := Try.prog) Try.underlying31 Try.underlying5 Try.underlying9 (Kd.own_of_R (Kd.R_drew HO381.out))⟩ (fun hHeld => ?_); refine with_tabW thyrsuslaw1_CodeEnds.tab13 thyrsuslaw1_CodeEnds.bits13 (fun HT_ HW_ => ?_)
                            generalize w83.drew = w84 at HO373 HO378 HO381 HO386 HO397 HO402 HO409 HO414 BK362 BK370 BK388 BK404 BK416 HB hHeld ⊢
                            refine pure_ (i := 0) (N := some 60) (v := ?_) (a' := ?_) #[true, false, false, false, false, false, false, false, false, false, false, false, false, false, false, false, false, false, false, false, false, false, false, false] rfl rfl (any_of HT_.out (by kernel_rfl)) (fun _ _ _ h => h) (Or.inl ⟨by rfl, ?_⟩) ?_ ?_
                            rotate_left
                            · intro w'
                              go_simp
                              with_reducible rfl
                            rotate_left
                            · simp only [Act.put, List.setIfInBounds_toArray, List.set_cons_zero, List.set_cons_succ, i64_w, i32_w, u8_w, u32_w]
                              rfl
                            refine pure_ (i := 1) (N := some 61) (v := ?_) (a' := ?_) #[true, true, false, false, false, false, false, false, false, false, false, false, false, false, false, false, false, false, false, false, false, false, false, false] rfl rfl (any_of HT_.out (by kernel_rfl)) (fun _ _ _ h => h) (Or.inl ⟨by rfl, ?_⟩) ?_ ?_
                            rotate_left
                            · intro w'
                              go_simp
                              with_reducible rfl
                            rotate_left
                            · simp only [Act.put, List.setIfInBounds_toArray, List.set_cons_zero, List.set_cons_succ, i64_w, i32_w, u8_w, u32_w]
                              rfl
                            refine pure_ (i := 2) (N := some 62) (v := ?_) (a' := ?_) #[true, true, true, false, false, false, false, false, false, false, false, false, false, false, false, false, false, false, false, false, false, false, false, false] rfl rfl (any_of HT_.out (by kernel_rfl)) (fun _ _ _ h => h) (Or.inl ⟨by rfl, ?_⟩) ?_ ?_
                            rotate_left
                            · intro w'
                              go_simp
                              with_reducible rfl
                            rotate_left
                            · simp only [Act.put, List.setIfInBounds_toArray, List.set_cons_zero, List.set_cons_succ, i64_w, i32_w, u8_w, u32_w]
                              rfl
                            refine take_ (i := 3) (N := some 63) (v := ?_) (a' := ?_) #[true, true, true, true, false, false, false, false, false, false, false, false, false, false, false, false, false, false, false, false, false, false, false, false] rfl rfl (take_ofW HT_.out HW_.out (by kernel_rfl)) (fun _ _ _ h => h) (Or.inl ⟨by rfl, ?_⟩) hHeld ?_ ?_
                            rotate_left
                            · rintro w' ⟨s0, s1, s2, s3, s4, s5, s6⟩
                              go_simp
                              with_reducible rfl
                            rotate_left
                            · simp only [Act.put, List.setIfInBounds_toArray, List.set_cons_zero, List.set_cons_succ, i64_w, i32_w, u8_w, u32_w]
                              rfl
                            refine take_ (i := 4) (N := some 64) (v := ?_) (a' := ?_) #[true, true, true, true, true, false, false, false, false, false, false, false, false, false, false, false, false, false, false, false, false, false, false, false] rfl rfl (take_ofW HT_.out HW_.out (by kernel_rfl)) (fun _ _ _ h => h) (Or.inl ⟨by rfl, ?_⟩) hHeld ?_ ?_
                            rotate_left
                            · rintro w' ⟨s0, s1, s2, s3, s4, s5, s6⟩
                              go_simp
                              with_reducible rfl
                            rotate_left
                            · simp only [Act.put, List.setIfInBounds_toArray, List.set_cons_zero, List.set_cons_succ, i64_w, i32_w, u8_w, u32_w]
                              rfl
                            refine one_ (i := 5) (N := some 65) #[true, true, true, true, true, true, false, false, false, false, false, false, false, false, false, false, false, false, false, false, false, false, false, false] rfl rfl (one_of HT_.out (by kernel_rfl)) (by decide) (fun K hK => ?_)
                            refine goes_ Try.func14 (by kernel_rfl) rfl #[.agg #[.int .i64 t382, .int .i64 t383, .slice Ao60 t384.length co60], .agg #[.int .i64 7, .int .i64 (rd y371 t374), .slice Ao48 y376.length co48]] (by rfl) rfl rfl (by (try simp only [List.map_toArray, List.map_cons, List.map_nil]); first | done | rfl | (simp only [List.length_drop, List.length_take]; rfl)) ?_
                            with_reducible refine (thyrsusref4_Same.calls k t382 t383 _ _ t384 7 (rd y371 t374) _ _ y376 true _ ?side1 ?side2 ?side3 ?side4 A23.out).mono ?_
                            (case side1 => repeat (first | exact (Kd.N_reads' HO386.out).2.2 | (with_reducible refine Kd.C_alloc ?_ _) | (with_reducible refine Kd.C_drewN ?_ _) | (with_reducible refine Kd.C_drew ?_)))
                            (case side2 => exact (Kd.N_reads' HO386.out).2.1)
                            (case side3 => repeat (first | exact (Kd.N_reads' HO378.out).2.2 | (with_reducible refine Kd.C_alloc ?_ _) | (with_reducible refine Kd.C_drewN ?_ _) | (with_reducible refine Kd.C_drew ?_)))
                            (case side4 => exact (Kd.N_reads' HO378.out).2.1)
                            rintro e w85 ⟨rfl, hb⟩
                            refine ⟨_, rfl, ?_⟩
                            have n0_ := Aside0.mk (Kd.R_below (by (with_reducible repeat (first | apply Kd.R_alloc | apply Kd.R_drewN | apply Kd.R_drew)); exact HO373.out) hb)
                            have n1_ := Aside0.mk (Kd.N_below (by (with_reducible repeat (first | apply Kd.N_alloc | apply Kd.N_drewN | apply Kd.N_drew)); exact HO378.out) hb)
                            have n2_ := Aside0.mk (Kd.R_below (by (with_reducible repeat (first | apply Kd.R_alloc | apply Kd.R_drewN | apply Kd.R_drew)); exact HO381.out) hb)
                            have n3_ := Aside0.mk (Kd.N_below (by (with_reducible repeat (first | apply Kd.N_alloc | apply Kd.N_drewN | apply Kd.N_drew)); exact HO386.out) hb)
                            have n4_ := Aside0.mk (Kd.R_below (by (with_reducible repeat (first | apply Kd.R_alloc | apply Kd.R_drewN | apply Kd.R_drew)); exact HO397.out) hb)
                            have n5_ := Aside0.mk (Kd.N_below (by (with_reducible repeat (first | apply Kd.N_alloc | apply Kd.N_drewN | apply Kd.N_drew)); exact HO402.out) hb)
                            have n6_ := Aside0.mk (Kd.V_below (by (with_reducible repeat (first | apply Kd.V_alloc | apply Kd.V_drewN | apply Kd.V_drew)); exact HO409.out) hb)
                            have n7_ := Aside0.mk (Kd.N_below (by (with_reducible repeat (first | apply Kd.N_alloc | apply Kd.N_drewN | apply Kd.N_drew)); exact HO414.out) hb)
                            have n8_ := Aside0.mk (blk_below (g := gb362) (o := .cells #[.int .i64 a0_0, .int .i64 a0_1, .slice A0_2 l0_2.length c0_2] 24 (0, 0)) (by (with_reducible repeat (first | refine blk_drewN ?_ _ | refine blk_drew ?_ | refine blk_alloc ?_ _)); exact BK362.out) hb)
                            have n9_ := Aside0.mk (blk_below (g := gb370) (o := .cells #[.int .i64 7, .int .i64 (rd y371 t374), .slice Ao48 y376.length co48] 29 (0, 0)) (by (with_reducible repeat (first | refine blk_drewN ?_ _ | refine blk_drew ?_ | refine blk_alloc ?_ _)); exact BK370.out) hb)
                            have n10_ := Aside0.mk (blk_below (g := gb388) (o := .cells #[.int .i64 t382, .int .i64 t383, .slice Ao60 t384.length co60] 29 (0, 0)) (by (with_reducible repeat (first | refine blk_drewN ?_ _ | refine blk_drew ?_ | refine blk_alloc ?_ _)); exact BK388.out) hb)
                            have n11_ := Aside0.mk (blk_below (g := gb404) (o := .cells #[.int .i64 t398, .int .i64 t399, .slice Ao72 t400.length co72] 29 (0, 0)) (by (with_reducible repeat (first | refine blk_drewN ?_ _ | refine blk_drew ?_ | refine blk_alloc ?_ _)); exact BK404.out) hb)
                            have n12_ := Aside0.mk (blk_below (g := gb416) (o := .cells #[.int .i64 t410, .int .i64 t411, .slice Ao82 t412.length co82] 29 (0, 0)) (by (with_reducible repeat (first | refine blk_drewN ?_ _ | refine blk_drew ?_ | refine blk_alloc ?_ _)); exact BK416.out) hb)
                            have n13_ := Aside0.mk (below_step (by repeat (first | (with_reducible first | exact HB.out | apply below_alloc | apply pw_below_drewN | apply below_drew1 | refine below_set ?_ GE362.out | refine below_set ?_ GE370.out | refine below_set ?_ GE388.out | refine below_set ?_ GE404.out | refine below_set ?_ GE416.out) | exact HB.out)) hb)
                            clear HO373
                            clear HO378
                            clear HO381
                            clear HO386
                            clear HO397
                            clear HO402
                            clear HO409
                            clear HO414
                            clear BK362
                            clear BK370
                            clear BK388
                            clear BK404
                            clear BK416
                            clear HB
                            have HO373 := n0_
                            have HO378 := n1_
                            have HO381 := n2_
                            have HO386 := n3_
                            have HO397 := n4_
                            have HO402 := n5_
                            have HO409 := n6_
                            have HO414 := n7_
                            have BK362 := n8_
                            have BK370 := n9_
                            have BK388 := n10_
                            have BK404 := n11_
                            have BK416 := n12_
                            have HB := n13_
                            clear n0_ n1_ n2_ n3_ n4_ n5_ n6_ n7_ n8_ n9_ n10_ n11_ n12_ n13_
                            (try clear hb)
                            (try clear hb2)
                            (try clear hk)
                            (try clear hi)
                            have hcv86 := own_string (P := Try.prog) Try.underlying31 Try.underlying5 Try.underlying9 (Kd.own_of_R HO381.out)
                            refine hK.out _ _ ⟨(blk_cell BK388.out 0).trans rfl, (blk_cell BK388.out 1).trans rfl, (blk_cell BK388.out 2).trans rfl, (blk_cell BK370.out 0).trans rfl, (blk_cell BK370.out 1).trans rfl, (blk_cell BK370.out 2).trans rfl, own_string (P := Try.prog) Try.underlying31 Try.underlying5 Try.underlying9 (Kd.own_of_R HO381.out)⟩ (fun hHeld => ?_)
                            clear hK K
                            refine norm_ (a' := ?_) ?_ ?_
                            rotate_left
                            · show Act.put _ (some 65) _ = _
                              simp only [Act.put, List.setIfInBounds_toArray, List.set_cons_zero, List.set_cons_succ, i64_w, i32_w, u8_w, u32_w]
                              rfl
                            refine pure_ (i := 6) (N := some 66) (v := ?_) (a' := ?_) #[true, true, true, true, true, true, true, false, false, false, false, false, false, false, false, false, false, false, false, false, false, false, false, false] rfl rfl (any_of HT_.out (by kernel_rfl)) (fun _ _ _ h => h) (Or.inl ⟨by rfl, ?_⟩) ?_ ?_
                            rotate_left
                            · intro w'
                              go_simp
                              with_reducible rfl
                            rotate_left
                            · simp only [Act.put, List.setIfInBounds_toArray, List.set_cons_zero, List.set_cons_succ, i64_w, i32_w, u8_w, u32_w]
                              rfl
                            refine pure_ (i := 7) (N := some 67) (v := ?_) (a' := ?_) #[true, true, true, true, true, true, true, true, false, false, false, false, false, false, false, false, false, false, false, false, false, false, false, false] rfl rfl (any_of HT_.out (by kernel_rfl)) (fun _ _ _ h => h) (Or.inl ⟨by rfl, ?_⟩) ?_ ?_
                            rotate_left
                            · intro w'
                              go_simp
                              with_reducible rfl
                            rotate_left
                            · simp only [Act.put, List.setIfInBounds_toArray, List.set_cons_zero, List.set_cons_succ, i64_w, i32_w, u8_w, u32_w]
                              rfl
                            refine pure_ (i := 8) (N := some 68) (v := ?_) (a' := ?_) #[true, true, true, true, true, true, true, true, true, false, false, false, false, false, false, false, false, false, false, false, false, false, false, false] rfl rfl (any_of HT_.out (by kernel_rfl)) (fun _ _ _ h => h) (Or.inl ⟨by rfl, ?_⟩) ?_ ?_
                            rotate_left
                            · intro w'
                              go_simp
                              with_reducible rfl
                            rotate_left
                            · simp only [Act.put, List.setIfInBounds_toArray, List.set_cons_zero, List.set_cons_succ, i64_w, i32_w, u8_w, u32_w]
                              rfl
                            refine pure_ (i := 9) (N := some 69) (v := ?_) (a' := ?_) #[true, true, true, true, true, true, true, true, true, true, false, false, false, false, false, false, false, false, false, false, false, false, false, false] rfl rfl (any_of HT_.out (by kernel_rfl)) (fun _ _ _ h => h) (Or.inl ⟨by rfl, ?_⟩) ?_ ?_
                            rotate_left
                            · intro w'
                              go_simp
                              with_reducible rfl
                            rotate_left
                            · simp only [Act.put, List.setIfInBounds_toArray, List.set_cons_zero, List.set_cons_succ, i64_w, i32_w, u8_w, u32_w]
                              rfl
                            refine pure_ (i := 10) (N := some 70) (v := ?_) (a' := ?_) #[true, true, true, true, true, true, true, true, true, true, true, false, false, false, false, false, false, false, false, false, false, false, false, false] rfl rfl (any_of HT_.out (by kernel_rfl)) (fun _ _ _ h => h) (Or.inl ⟨by rfl, ?_⟩) ?_ ?_
                            rotate_left
                            · intro w'
                              go_simp
                              with_reducible rfl
                            rotate_left
                            · simp only [Act.put, List.setIfInBounds_toArray, List.set_cons_zero, List.set_cons_succ, i64_w, i32_w, u8_w, u32_w]
                              rfl
                            refine pure_ (i := 11) (N := some 71) (v := ?_) (a' := ?_) #[true, true, true, true, true, true, true, true, true, true, true, true, false, false, false, false, false, false, false, false, false, false, false, false] rfl rfl (any_of HT_.out (by kernel_rfl)) (fun _ _ _ h => h) (Or.inl ⟨by rfl, ?_⟩) ?_ ?_
                            rotate_left
                            · intro w'
                              go_simp
                              with_reducible rfl
                            rotate_left
                            · simp only [Act.put, List.setIfInBounds_toArray, List.set_cons_zero, List.set_cons_succ, i64_w, i32_w, u8_w, u32_w]
                              rfl
                            refine pure_ (i := 12) (N := some 72) (v := ?_) (a' := ?_) #[true, true, true, true, true, true, true, true, true, true, true, true, true, false, false, false, false, false, false, false, false, false, false, false] rfl rfl (any_of HT_.out (by kernel_rfl)) (fun _ _ _ h => h) (Or.inl ⟨by rfl, ?_⟩) ?_ ?_
                            rotate_left
                            · intro w'
                              go_simp
                              with_reducible rfl
                            rotate_left
                            · simp only [Act.put, List.setIfInBounds_toArray, List.set_cons_zero, List.set_cons_succ, i64_w, i32_w, u8_w, u32_w]
                              rfl
                            refine pure_ (i := 13) (N := some 73) (v := ?_) (a' := ?_) #[true, true, true, true, true, true, true, true, true, true, true, true, true, true, false, false, false, false, false, false, false, false, false, false] rfl rfl (any_of HT_.out (by kernel_rfl)) (fun _ _ _ h => h) (Or.inl ⟨by rfl, ?_⟩) ?_ ?_
                            rotate_left
                            · intro w'
                              go_simp
                              with_reducible rfl
                            rotate_left
                            · simp only [Act.put, List.setIfInBounds_toArray, List.set_cons_zero, List.set_cons_succ, i64_w, i32_w, u8_w, u32_w]
                              rfl
                            refine pure_ (i := 14) (N := some 74) (v := ?_) (a' := ?_) #[true, true, true, true, true, true, true, true, true, true, true, true, true, true, true, false, false, false, false, false, false, false, false, false] rfl rfl (any_of HT_.out (by kernel_rfl)) (fun _ _ _ h => h) (Or.inl ⟨by rfl, ?_⟩) ?_ ?_
                            rotate_left
                            · intro w'
                              go_simp
                              with_reducible rfl
                            rotate_left
                            · simp only [Act.put, List.setIfInBounds_toArray, List.set_cons_zero, List.set_cons_succ, i64_w, i32_w, u8_w, u32_w]
                              rfl
                            refine pure_ (i := 15) (N := some 75) (v := ?_) (a' := ?_) #[true, true, true, true, true, true, true, true, true, true, true, true, true, true, true, true, false, false, false, false, false, false, false, false] rfl rfl (any_of HT_.out (by kernel_rfl)) (fun _ _ _ h => h) (Or.inl ⟨by rfl, ?_⟩) ?_ ?_
                            rotate_left
                            · intro w'
                              go_simp
                              with_reducible rfl
                            rotate_left
                            · simp only [Act.put, List.setIfInBounds_toArray, List.set_cons_zero, List.set_cons_succ, i64_w, i32_w, u8_w, u32_w]
                              rfl
                            refine pure_ (i := 16) (N := some 76) (v := ?_) (a' := ?_) #[true, true, true, true, true, true, true, true, true, true, true, true, true, true, true, true, true, false, false, false, false, false, false, false] rfl rfl (any_of HT_.out (by kernel_rfl)) (fun _ _ _ h => h) (Or.inl ⟨by rfl, ?_⟩) ?_ ?_
                            rotate_left
                            · intro w'
                              go_simp
                              with_reducible rfl
                            rotate_left
                            · simp only [Act.put, List.setIfInBounds_toArray, List.set_cons_zero, List.set_cons_succ, i64_w, i32_w, u8_w, u32_w]
                              rfl
                            refine take_ (i := 17) (N := some 77) (v := ?_) (a' := ?_) #[true, true, true, true, true, true, true, true, true, true, true, true, true, true, true, true, true, true, false, false, false, false, false, false] rfl rfl (take_ofW HT_.out HW_.out (by kernel_rfl)) (fun _ _ _ h => h) (Or.inl ⟨by rfl, ?_⟩) hHeld ?_ ?_
                            rotate_left
                            · rintro w' ⟨s0, s1, s2, s3, s4, s5, s6⟩
                              go_simp
                              with_reducible rfl
                            rotate_left
                            · simp only [Act.put, List.setIfInBounds_toArray, List.set_cons_zero, List.set_cons_succ, i64_w, i32_w, u8_w, u32_w]
                              rfl
                            refine take_ (i := 18) (N := some 78) (v := ?_) (a' := ?_) #[true, true, true, true, true, true, true, true, true, true, true, true, true, true, true, true, true, true, true, false, false, false, false, false] rfl rfl (take_ofW HT_.out HW_.out (by kernel_rfl)) (fun _ _ _ h => h) (Or.inl ⟨by rfl, ?_⟩) hHeld ?_ ?_
                            rotate_left
                            · rintro w' ⟨s0, s1, s2, s3, s4, s5, s6⟩
                              go_simp
                              with_reducible rfl
                            rotate_left
                            · simp only [Act.put, List.setIfInBounds_toArray, List.set_cons_zero, List.set_cons_succ, i64_w, i32_w, u8_w, u32_w]
                              rfl
                            refine one_ (i := 19) (N := some 79) #[true, true, true, true, true, true, true, true, true, true, true, true, true, true, true, true, true, true, true, true, false, false, false, false] rfl rfl (one_of HT_.out (by kernel_rfl)) (by decide) (fun K hK => ?_)
                            refine goes_ Try.func18 (by kernel_rfl) rfl #[.agg #[.int .i64 7, .int .i64 (rd y371 t374), .slice Ao48 y376.length co48]] (by rfl) rfl rfl (by (try simp only [List.map_toArray, List.map_cons, List.map_nil]); first | done | rfl | (simp only [List.length_drop, List.length_take]; rfl)) ?_
                            with_reducible refine (thyrsusref1_Bytes.calls k 7 (rd y371 t374) _ _ y376 t418 _ ?side1 ?side2 A27.out).mono ?_
                            (case side1 => repeat (first | exact (Kd.N_reads' HO378.out).2.2 | (with_reducible refine Kd.C_alloc ?_ _) | (with_reducible refine Kd.C_drewN ?_ _) | (with_reducible refine Kd.C_drew ?_)))
                            (case side2 => exact (Kd.N_reads' HO378.out).2.1)
                            rintro e w87 ⟨v419, rfl, ho0, hb⟩
                            refine ⟨_, rfl, ?_⟩
                            have n0_ := Aside0.mk (Kd.R_below (by (with_reducible repeat (first | apply Kd.R_alloc | apply Kd.R_drewN | apply Kd.R_drew)); exact HO373.out) hb)
                            have n1_ := Aside0.mk (Kd.N_elder' (by (with_reducible repeat (first | apply Kd.N_alloc | apply Kd.N_drewN | apply Kd.N_drew)); exact HO378.out) (Kd.R_base ho0) hb)
                            have n2_ := Aside0.mk (Kd.R_elder' (by (with_reducible repeat (first | apply Kd.R_alloc | apply Kd.R_drewN | apply Kd.R_drew)); exact HO381.out) (Kd.R_base ho0) hb)
                            have n3_ := Aside0.mk (Kd.N_elder' (by (with_reducible repeat (first | apply Kd.N_alloc | apply Kd.N_drewN | apply Kd.N_drew)); exact HO386.out) (Kd.R_base ho0) hb)
                            have n4_ := Aside0.mk (Kd.R_elder' (by (with_reducible repeat (first | apply Kd.R_alloc | apply Kd.R_drewN | apply Kd.R_drew)); exact HO397.out) (Kd.R_base ho0) hb)
                            have n5_ := Aside0.mk (Kd.N_elder' (by (with_reducible repeat (first | apply Kd.N_alloc | apply Kd.N_drewN | apply Kd.N_drew)); exact HO402.out) (Kd.R_base ho0) hb)
                            have n6_ := Aside0.mk (Kd.V_elder' (by (with_reducible repeat (first | apply Kd.V_alloc | apply Kd.V_drewN | apply Kd.V_drew)); exact HO409.out) (Kd.R_base ho0) hb)
                            have n7_ := Aside0.mk (Kd.N_elder' (by (with_reducible repeat (first | apply Kd.N_alloc | apply Kd.N_drewN | apply Kd.N_drew)); exact HO414.out) (Kd.R_base ho0) hb)
                            have n8_ := Aside0.mk (Kd.R_lower (Kd.R_new' (Kd.R_new' ho0 (Kd.R_lt (by (with_reducible repeat (first | apply Kd.R_alloc | apply Kd.R_drewN | apply Kd.R_drew)); exact HO381.out))) (Kd.R_lt (by (with_reducible repeat (first | apply Kd.R_alloc | apply Kd.R_drewN | apply Kd.R_drew)); exact HO397.out))) (below_size (by repeat (first | (with_reducible first | exact HB.out | apply below_alloc | apply pw_below_drewN | apply below_drew1 | refine below_set ?_ GE362.out | refine below_set ?_ GE370.out | refine below_set ?_ GE388.out | refine below_set ?_ GE404.out | refine below_set ?_ GE416.out) | exact HB.out))))
                            have n9_ := Aside0.mk (blk_below (g := gb362) (o := .cells #[.int .i64 a0_0, .int .i64 a0_1, .slice A0_2 l0_2.length c0_2] 24 (0, 0)) (by (with_reducible repeat (first | refine blk_drewN ?_ _ | refine blk_drew ?_ | refine blk_alloc ?_ _)); exact BK362.out) hb)
                            have n10_ := Aside0.mk (blk_below (g := gb370) (o := .cells #[.int .i64 7, .int .i64 (rd y371 t374), .slice Ao48 y376.length co48] 29 (0, 0)) (by (with_reducible repeat (first | refine blk_drewN ?_ _ | refine blk_drew ?_ | refine blk_alloc ?_ _)); exact BK370.out) hb)
                            have n11_ := Aside0.mk (blk_below (g := gb388) (o := .cells #[.int .i64 t382, .int .i64 t383, .slice Ao60 t384.length co60] 29 (0, 0)) (by (with_reducible repeat (first | refine blk_drewN ?_ _ | refine blk_drew ?_ | refine blk_alloc ?_ _)); exact BK388.out) hb)
                            have n12_ := Aside0.mk (blk_below (g := gb404) (o := .cells #[.int .i64 t398, .int .i64 t399, .slice Ao72 t400.length co72] 29 (0, 0)) (by (with_reducible repeat (first | refine blk_drewN ?_ _ | refine blk_drew ?_ | refine blk_alloc ?_ _)); exact BK404.out) hb)
                            have n13_ := Aside0.mk (blk_below (g := gb416) (o := .cells #[.int .i64 t410, .int .i64 t411, .slice Ao82 t412.length co82] 29 (0, 0)) (by (with_reducible repeat (first | refine blk_drewN ?_ _ | refine blk_drew ?_ | refine blk_alloc ?_ _)); exact BK416.out) hb)
                            have n14_ := Aside0.mk (below_step (by repeat (first | (with_reducible first | exact HB.out | apply below_alloc | apply pw_below_drewN | apply below_drew1 | refine below_set ?_ GE362.out | refine below_set ?_ GE370.out | refine below_set ?_ GE388.out | refine below_set ?_ GE404.out | refine below_set ?_ GE416.out) | exact HB.out)) hb)
                            clear HO373
                            clear HO378
                            clear HO381
                            clear HO386
                            clear HO397
                            clear HO402
                            clear HO409
                            clear HO414
                            clear BK362
                            clear BK370
                            clear BK388
                            clear BK404
                            clear BK416
                            clear HB
                            have HO373 := n0_
                            have HO378 := n1_
                            have HO381 := n2_
                            have HO386 := n3_
                            have HO397 := n4_
                            have HO402 := n5_
                            have HO409 := n6_
                            have HO414 := n7_
                            have HO420 := n8_
                            have BK362 := n9_
                            have BK370 := n10_
                            have BK388 := n11_
                            have BK404 := n12_
                            have BK416 := n13_
                            have HB := n14_
                            clear n0_ n1_ n2_ n3_ n4_ n5_ n6_ n7_ n8_ n9_ n10_ n11_ n12_ n13_ n14_
                            (try clear hb)
                            (try clear hb2)
                            (try clear hk)
                            (try clear hi)
                            (try clear ho0)
                            refine hK.out _ _ ⟨(blk_cell BK388.out 0).trans rfl, (blk_cell BK388.out 1).trans rfl, (blk_cell BK388.out 2).trans rfl, (blk_cell BK370.out 0).trans rfl, (blk_cell BK370.out 1).trans rfl, (blk_cell BK370.out 2).trans rfl, own_string (P := Try.prog) Try.underlying31 Try.underlying5 Try.underlying9 (Kd.own_of_R HO381.out)⟩ (fun hHeld => ?_)
                            clear hK K
                            refine norm_ (a' := ?_) ?_ ?_
                            rotate_left
                            · show Act.put _ (some 79) _ = _
                              simp only [Act.put, List.setIfInBounds_toArray, List.set_cons_zero, List.set_cons_succ, i64_w, i32_w, u8_w, u32_w]
                              rfl
                            refine one_ (i := 20) (N := some 80) #[true, true, true, true, true, true, true, true, true, true, true, true, true, true, true, true, true, true, true, true, true, false, false, false] rfl rfl (one_of HT_.out (by kernel_rfl)) (by decide) (fun K hK => ?_)
                            have hcv88 := own_string (P := Try.prog) Try.underlying31 Try.underlying5 Try.underlying9 (Kd.own_of_R HO420.out)
                            refine value_ (w1 := ?_) (v := ?_) (by rfl) rfl ?_ ?_
                            rotate_left 2
                            · go_simp
                              constructor
                              · rfl
                              · rfl
                            clear hcv88
                            refine hK.out _ _ ⟨(blk_cell BK388.out 0).trans rfl, (blk_cell BK388.out 1).trans rfl, (blk_cell BK388.out 2).trans rfl, (blk_cell BK370.out 0).trans rfl, (blk_cell BK370.out 1).trans rfl, (blk_cell BK370.out 2).trans rfl, own_string (P := Try.prog) Try.underlying31 Try.underlying5 Try.underlying9 (Kd.own_of_R HO381.out)⟩ (fun hHeld => ?_)
                            clear hK K
                            refine norm_ (a' := ?_) ?_ ?_
                            rotate_left
                            · show Act.put _ (some 80) _ = _
                              simp only [Act.put, List.setIfInBounds_toArray, List.set_cons_zero, List.set_cons_succ, i64_w, i32_w, u8_w, u32_w]
                              rfl
                            refine pure_ (i := 21) (N := some 81) (v := ?_) (a' := ?_) #[true, true, true, true, true, true, true, true, true, true, true, true, true, true, true, true, true, true, true, true, true, true, false, false] rfl rfl (any_of HT_.out (by kernel_rfl)) (fun _ _ _ h => h) (Or.inl ⟨by rfl, ?_⟩) ?_ ?_
                            rotate_left
                            · intro w'
                              go_simp
                              with_reducible rfl
                            rotate_left
                            · simp only [Act.put, List.setIfInBounds_toArray, List.set_cons_zero, List.set_cons_succ, i64_w, i32_w, u8_w, u32_w]
                              rfl
                            refine pure_ (i := 22) (N := some 82) (v := ?_) (a' := ?_) #[true, true, true, true, true, true, true, true, true, true, true, true, true, true, true, true, true, true, true, true, true, true, true, false] rfl rfl (any_of HT_.out (by kernel_rfl)) (fun _ _ _ h => h) (Or.inl ⟨by rfl, ?_⟩) ?_ ?_
                            rotate_left
                            · intro w'
                              go_simp
                              with_reducible rfl
                            rotate_left
                            · simp only [Act.put, List.setIfInBounds_toArray, List.set_cons_zero, List.set_cons_succ, i64_w, i32_w, u8_w, u32_w]
                              rfl
                            refine pure_ (i := 23) (N := some 6) (v := ?_) (a' := ?_) #[true, true, true, true, true, true, true, true, true, true, true, true, true, true, true, true, true, true, true, true, true, true, true, true] rfl rfl (any_of HT_.out (by kernel_rfl)) (fun _ _ _ h => h) (Or.inl ⟨by rfl, ?_⟩) ?_ ?_
                            rotate_left
                            · intro w'
                              go_simp
                              with_reducible rfl
                            rotate_left
                            · simp only [Act.put, List.setIfInBounds_toArray, List.set_cons_zero, List.set_cons_succ, i64_w, i32_w, u8_w, u32_w]
                              rfl
                            refine done_ (done_of HT_.out (by kernel_rfl)) ?_
                            try go_wp2
                            go_ret
                            exact ⟨by first | rfl | (simp [errW_none, errW_some] <;> rfl) | (simp only [← hji18]; first | rfl | (simp [errW_none, errW_some] <;> rfl)) | (simp [*, errW_none, errW_some] <;> rfl), by repeat (first | (with_reducible first | exact HB.out | apply below_alloc | apply pw_below_drewN | apply below_drew1 | refine below_set ?_ GE362.out | refine below_set ?_ GE370.out | refine below_set ?_ GE388.out | refine below_set ?_ GE404.out | refine below_set ?_ GE416.out) | exact HB.out)⟩
                          · rw [if_neg c26] at H
                            exact absurd H (by simp)
                        · rw [if_neg c25] at H
                          exact absurd H (by simp)
                      · replace c24 := Bool.eq_false_iff.mpr c24
                        subst c24
                        have H1 : (none) = some r := by rw [if_neg (show ¬ (false = true) by decide)] at H; exact H
                        clear H
                        have H := H1
                        clear H1
                        exact absurd H (by simp)
                    · rw [if_neg c22] at H
                      exact absurd H (by simp)
                  · rw [if_neg c20] at H
                    exact absurd H (by simp)
                · rw [if_neg c19] at H
                  exact absurd H (by simp)
            · rw [if_neg c15] at H
              exact absurd H (by simp)
          · rw [if_neg c14] at H
            exact absurd H (by simp)
        · rw [if_neg c11] at H
          exact absurd H (by simp)
      · rw [if_neg c10] at H
        exact absurd H (by simp)
    · replace c7 := Bool.eq_false_iff.mpr c7
      subst c7
      have H1 : (some true) = some r := by rw [if_neg (show ¬ (false = true) by decide)] at H; exact H
      clear H
      have H := H1
      clear H1
      obtain rfl := Option.some.inj H
      go_enter Try.func8, Try.ntmps8
      go_wp2_with (first | ((with_reducible refine gate_dst (N := 3) rfl ?_); refine box_event ?hg (N := 3) ?hd (cs := #[.int .i64 a0_0, .int .i64 a0_1, .slice A0_2 l0_2.length c0_2]) (t := 24) ?hr ?_; (case hd => rfl); (case hg => rfl); (case hr => first | (go_simp; done) | (go_simp; rfl)); intro gb362 hg w90 hbox hb; have n0_ := Aside0.mk (below_step (by repeat (first | (with_reducible first | exact HB.out | apply below_alloc | apply pw_below_drewN | apply below_drew1) | exact HB.out)) hb); have n1_ := Aside0.mk (hbox); have n2_ := Aside0.mk ((by rw [hg]; exact (below_size (by repeat (first | (with_reducible first | exact HB.out | apply below_alloc | apply pw_below_drewN | apply below_drew1) | exact HB.out))) : w.heap.size ≤ gb362)); have n3_ := Aside0.mk ((by rw [hg]; exact (below_size (by repeat (first | (with_reducible first | exact HB.out | apply below_alloc | apply pw_below_drewN | apply below_drew1) | exact HB.out))) : w.heap.size ≤ gb362)); clear HB; have HB := n0_; have BK362 := n1_; have GW362 := n2_; have GE362 := n3_; clear n0_ n1_ n2_ n3_; clear hb hbox hg) | ((with_reducible refine gate_callee (f := 9) rfl ?_); refine goesL_ (some 15) rfl rfl Try.func9 (by kernel_rfl) rfl #[] rfl (by (try simp only [List.map_toArray, List.map_cons, List.map_nil]); first | done | rfl | (simp only [List.length_drop, List.length_take]; rfl)) ?_; (with_reducible refine (thyrsuslaw1_known.calls  true _ A4.out).mono ?_); rintro e w91 ⟨rfl, hb⟩; refine ⟨_, rfl, ?_⟩; have n0_ := Aside0.mk (blk_below (g := gb362) (o := .cells #[.int .i64 a0_0, .int .i64 a0_1, .slice A0_2 l0_2.length c0_2] 24 (0, 0)) (by (with_reducible repeat (first | refine blk_drewN ?_ _ | refine blk_drew ?_ | refine blk_alloc ?_ _)); exact BK362.out) hb); have n1_ := Aside0.mk (below_step (by repeat (first | (with_reducible first | exact HB.out | apply below_alloc | apply pw_below_drewN | apply below_drew1 | refine below_set ?_ GE362.out) | exact HB.out)) hb); clear BK362; clear HB; have BK362 := n0_; have HB := n1_; clear n0_ n1_; (try clear hb); (try clear hb2); (try clear hk); (try clear hi); have hcz92_0 : w91.cell? ⟨gb362, 0, none⟩ = some (.int .i64 a0_0) := (blk_cell BK362.out 0).trans rfl; have hcz92_1 : w91.cell? ⟨gb362, 1, none⟩ = some (.int .i64 a0_1) := (blk_cell BK362.out 1).trans rfl; have hcz92_2 : w91.cell? ⟨gb362, 2, none⟩ = some (.slice A0_2 l0_2.length c0_2) := (blk_cell BK362.out 2).trans rfl; have hfz92_0 := blk_frozen BK362.out 0; have hfz92_1 := blk_frozen BK362.out 1; have hfz92_2 := blk_frozen BK362.out 2) | ((with_reducible refine gate_callee (f := 10) rfl ?_); refine goesL_ (some 18) rfl rfl Try.func10 (by kernel_rfl) rfl #[.agg #[.int .i64 a0_0, .int .i64 a0_1, .slice A0_2 l0_2.length c0_2]] rfl (by (try simp only [List.map_toArray, List.map_cons, List.map_nil]); first | done | rfl | (simp only [List.length_drop, List.length_take]; rfl)) ?_; (with_reducible refine (thyrsuslaw1_Few.calls k a0_0 a0_1 _ _ l0_2 false _ ?side1 ?side2 A6.out).mono ?_); (case side1 => repeat (first | exact (Kd.C_below HR0_2.out HB.out) | (with_reducible refine Kd.C_alloc ?_ _) | (with_reducible refine Kd.C_drewN ?_ _) | (with_reducible refine Kd.C_drew ?_))); (case side2 => exact HC0_2.out); rintro e w93 ⟨rfl, hb⟩; refine ⟨_, rfl, ?_⟩; have n0_ := Aside0.mk (blk_below (g := gb362) (o := .cells #[.int .i64 a0_0, .int .i64 a0_1, .slice A0_2 l0_2.length c0_2] 24 (0, 0)) (by (with_reducible repeat (first | refine blk_drewN ?_ _ | refine blk_drew ?_ | refine blk_alloc ?_ _)); exact BK362.out) hb); have n1_ := Aside0.mk (below_step (by repeat (first | (with_reducible first | exact HB.out | apply below_alloc | apply pw_below_drewN | apply below_drew1 | refine below_set ?_ GE362.out) | exact HB.out)) hb); clear BK362; clear HB; have BK362 := n0_; have HB := n1_; clear n0_ n1_; (try clear hb); (try clear hb2); (try clear hk); (try clear hi)))
      go_ret
      exact ⟨by first | rfl | (simp [errW_none, errW_some] <;> rfl) | (simp [*, errW_none, errW_some] <;> rfl), by repeat (first | (with_reducible first | exact HB.out | apply below_alloc | apply pw_below_drewN | apply below_drew1 | refine below_set ?_ GE362.out) | exact HB.out)⟩
  · replace c5 := Bool.eq_false_iff.mpr c5
    subst c5
    have H1 : (none) = some r := by rw [if_neg (show ¬ (false = true) by decide)] at H; exact H
    clear H
    have H := H1
    clear H1
    exact absurd H (by simp)

end Go.Proofs.Ytfbjdfgadhlhlaa.P
